/-
  Walks of functions: what each computes, as a plain function.
-/
import Derived.Test.YtjflombnfhlkaaaGreatDoorAvJn
import Derived.Test.YtjflombnfhlkaaaGreatDoorAvPq
import Derived.Test.YtjflombnfhlkaaaGreatDoorAvSorM
import Derived.Test.YtjflombnfhlkaaaGreatDoorAvNvD
import Derived.Test.YtjflombnfhlkaaaGreatDoorAvBw
noncomputable section
namespace Go.Av
open Go.Proofs Go.RowKit
set_option linter.unusedSectionVars false
set_option linter.unusedVariables false
set_option linter.unusedSimpArgs false
set_option maxRecDepth 100000
theorem fol:Tryz.prog.follows .mixedOrders=true:=by kernel_rfl
structure qg where
 Number:Int
 Kind:Str
 Names:List Str
 Values:List Int
 Text:Str
def zT:Enc qg:=(encI.prod (encS.prod ((qkt encS).prod ((qkt encI).prod encS)))).comap fun x=>(x.Number,x.Kind,x.Names,x.Values,x.Text)
instance:SE zT:=⟨nl rfl⟩
structure qc where
 Name:Str
 Batch:Str
 Born:Int
 Last:Int
 Uses:Int
 Used:Int
 Limit:Int
 Until:Int
 Gone:Bool
def qh:Enc qc:=(encS.prod (encS.prod (encI.prod (encI.prod (encI.prod (encI.prod (encI.prod (encI.prod encB)))))))).comap fun x=>(x.Name,x.Batch,x.Born,x.Last,x.Uses,x.Used,x.Limit,x.Until,x.Gone)
instance:SE qh:=⟨nl rfl⟩
abbrev cS (x:qc):List AV:=[.str x.Name,.str x.Batch,.i x.Born,.i x.Last,.i x.Uses,.i x.Used,.i x.Limit,.i x.Until,.bool x.Gone]
abbrev cE (x:qg):List AV:=[.i x.Number,.str x.Kind,vl encS x.Names,vl encI x.Values,.str x.Text]
abbrev bS (l:List qc):Blk:= .cells (l.flatMap qh.c)
abbrev cF (a:Int) (b:Str) (c:List Str) (d:List Int) (e:Str):List AV:=[.i a,.str b,vl encS c,vl encI d,.str e]
abbrev cT (a b:Str) (c d e f g h:Int) (i:Bool):List AV:=[.str a,.str b,.i c,.i d,.i e,.i f,.i g,.i h,.bool i]
structure yS where
 Day:Int
 Slings:List qc
def qeN:Enc yS:=(encI.prod (qkt qh)).comap fun x=>(x.Day,x.Slings)
instance:SE qeN:=⟨nl rfl⟩
structure qb where
 Desk:Str
 Number:Int
 Clock:Int
 Line:Str
def qa:Enc qb:=(encS.prod (encI.prod (encI.prod encS))).comap fun x=>(x.Desk,x.Number,x.Clock,x.Line)
instance:SE qa:=⟨nl rfl⟩
structure qB where
 Desk:Str
 Number:Int
def qj:Enc qB:=(encS.prod encI).comap fun x=>(x.Desk,x.Number)
instance:SE qj:=⟨nl rfl⟩
structure StateT where
 number:Int
 register:yS
def jl:Enc StateT:=(encI.prod qeN).comap fun x=>(x.number,x.register)
instance:SE jl:=⟨nl rfl⟩
abbrev kA (a:List qg) (b:Option (List StateT)) (x:List Blk):List Blk:= .cells [.gslice 1 a.length 5,hsl 2 3 b]:: .cells (a.flatMap zT.c):: .cells ((hof b).flatMap jl.c)::x
abbrev kB (a:List qb) (x:List Blk):List Blk:= .cells (a.flatMap qa.c)::x
abbrev kC {α1:Type} (a:Int) (b:List α1) (x:List Blk):List Blk:= .cells [.i a,.slice 0 0 b.length b.length 9]::x
abbrev kD (a:List qb) (x:List (Nat×AV)):List (Nat×AV):=(0,vl qa a)::x
abbrev kE (a:Str) (b:Int) (c:Int) (d:Str) (x:List Blk):List Blk:= .cells [.str a,.i b,.i c,.str d]::x
abbrev kF (a:Option (List qb)) (b:Option (List qb)) (x:List Blk):List Blk:= .cells ((hof a).flatMap qa.c):: .cells ((hof b).flatMap qa.c)::x
abbrev kG (x:List Blk):List Blk:= .cells [.i 0,.str [],.nilslice,.nilslice,.str []]::x
abbrev kH (a:List qb) (b:Int) (c:List qb) (d:Int) (x:List (Nat×AV)):List (Nat×AV):=(3,.ptr 0 0)::(5,vl qa a)::(6,.ptr 1 0)::(7,.i b)::(8,.ptr 5 0)::(47,vl qa c)::(48,.i d)::(49,.i b)::x
abbrev kI (a:Int) (b:List qc) (c:Int) (d:Str) (e:List Str) (f:List Int) (g:Str) (h:Int) (i:Int) (x:List Blk):List Blk:= .cells [.i a,vl qh b]:: .cells (cF c d e f g)::bZ:: .cells [.i h,.i i]::x
abbrev kJ (x:List (Nat×AV)):List (Nat×AV):=(2,.ptr 1 0)::(3,.ptr 2 0)::(4,.ptr 3 0)::x
abbrev kK {α0:Type} (a:List α0) (b:Int) (x:List (Nat×AV)):List (Nat×AV):=(0,.oslice 0 a.length 4)::(1,.i b)::x
abbrev kL (a:List qB) (x:List Blk):List Blk:= .cells (a.flatMap qj.c)::x
abbrev kM (a:List qb) (x:List (Nat×AV)):List (Nat×AV):=(5,vl qa a)::(6,.ptr 0 0)::x
abbrev kN (a:Int) (b:Str) (c:List Str) (d:List Int) (e:Str) (f:List qg) (g:Option (List StateT)) (x:List Blk):List Blk:= .cells [.i a,.str b,vl encS c,vl encI d,.str e]:: .cells (f.flatMap zT.c):: .cells ((hof g).flatMap jl.c)::x
abbrev kO {α1:Type} (a:Int) (b:List α1) (x:List AV):List AV:= .agg [.i a,.slice 0 0 b.length b.length 9]::x
abbrev kP (a:Int) (b:Int) (c:Int) (x:List Blk):List Blk:= .cells [.int .u16 a,.int .u16 b,.int .u16 c]::x
abbrev kQ (a:List Str) (x:List Blk):List Blk:= .cells (a.flatMap encS.c)::x
abbrev kR {α4:Type} (a:Str) (b:Str) (c:Int) (d:Int) (e:List α4) (x:List (Nat×AV)):List (Nat×AV):=(0,.str a)::(1,.str b)::(2,.i c)::(3,.i d)::(9,.slice 0 0 e.length e.length 1)::x
abbrev kS (a:List qb) (b:Int) (c:Int) (d:List qb) (e:Int) (x:List (Nat×AV)):List (Nat×AV):=(3,.ptr 0 0)::(5,vl qa a)::(6,.ptr 1 0)::(7,.i b)::(8,.ptr 5 0)::(9,.i c)::(47,vl qa d)::(48,.i e)::(49,.i b)::x
abbrev kT {α1:Type} (a:List qg) (b:List α1) (x:List Blk):List Blk:= .cells [.gslice 1 a.length 5,.oslice 2 b.length 3]:: .cells (a.flatMap zT.c)::x
abbrev kU (a:Option (List qb)) (x:List Blk):List Blk:= .cells ((hof a).flatMap qa.c)::x
abbrev kV (a:List Str) (x:List (Nat×AV)):List (Nat×AV):=(2,.ptr 0 0)::(4,vl encS a)::x
abbrev kW (x:List (Nat×AV)):List (Nat×AV):=(0,vl qa ([]:List qb))::x
abbrev kX (a:List qb) (b:Int) (x:List (Nat×AV)):List (Nat×AV):=(10,vl qa a)::(11,.i b)::x
abbrev kY {α0:Type} (a:List α0) (x:List (Nat×AV)):List (Nat×AV):=(7,.ptr 0 0)::(8,.gslice 3 a.length 2)::x
abbrev kZ {α0:Type} (a:List α0) (b:Int) (x:List (Nat×AV)):List (Nat×AV):=(0,.slice 0 0 a.length a.length 9)::(1,.i b)::x
abbrev kAA (a:List qb) (b:Int) (c:Int) (x:List (Nat×AV)):List (Nat×AV):=(23,vl qa a)::(24,.i b)::(25,.i c)::x
abbrev kAB {α1:Type} {α2:Type} (a:Str) (b:List α1) (c:List α2) (x:List Blk):List Blk:= .cells [.i 0,.str a,.gslice 2 b.length 1,.gslice 3 c.length 1,.str []]::x
abbrev kAC (a:Int) (b:Int):List Blk:=[.cells [.i a,.i b]]
abbrev kAD (a:Int) (b:List qc) (x:List Blk):List Blk:= .cells [.i a,vl qh b]::x
abbrev kAE (a:Str) (b:Str) (x:List (Nat×AV)):List (Nat×AV):=(0,.str a)::(1,.str b)::x
abbrev kAF (a:Int) (b:Int) (c:Int) (d:Int) (e:Int) (f:Str) (g:Str) (h:Int) (i:Int) (j:Int):List Blk:=[.cells [.i a,.i b,.i c,.i d,.i e],.cells [.str f,.str g,.i h,.i i,.i j,.i 0,.i 0,.i 0,.bool false],.cells [.str f,.str g,.i h,.i i,.i j,.i 0,.i 0,.i 0,.bool false]]
abbrev kAG (a:Int) (b:Str) (c:List Str) (d:List Int) (e:Str) (x:List Blk):List Blk:= .cells (cF a b c d e)::bZ::x
abbrev kAH (a:Int) (b:Int) (x:List (Nat×AV)):List (Nat×AV):=(7,.i a)::(8,.i b)::x
abbrev kAI (a:Str) (b:Int) (x:List Blk):List Blk:= .cells [.str a,.i b]::x
abbrev kAJ (a:List qb) (b:List qb) (c:Int) (x:List (Nat×AV)):List (Nat×AV):=(3,.ptr 0 0)::(5,vl qa a)::(6,.ptr 1 0)::(47,vl qa b)::(48,.i c)::x
abbrev kAK (x:List (Nat×AV)):List (Nat×AV):=(2,.ptr 1 0)::(4,.ptr 3 0)::x
abbrev kAL (x:List (Nat×AV)):List (Nat×AV):=(0,.ptr 0 0)::(3,.ptr 3 0)::x
abbrev kAM {α0:Type} (a:List α0) (b:Int) (c:List qb) (d:Int) (x:List (Nat×AV)):List (Nat×AV):=(5,.gslice 0 a.length 2)::(7,.ptr 1 0)::(8,.i b)::(46,vl qa c)::(47,.i d)::x
abbrev kAN (a:Int) (b:Int) (x:List (Nat×AV)):List (Nat×AV):=(8,.ptr 0 ((a:Int).toNat*9+0))::(11,.i b)::(12,.i a)::x
abbrev kAO (a:List Int) (x:List Blk):List Blk:= .cells (a.flatMap encI.c)::x
abbrev kAP (a:List qg) (x:List Blk):List Blk:= .cells (a.flatMap zT.c)::x
abbrev kAQ {α0:Type} (a:List α0) (b:Int) (x:List (Nat×AV)):List (Nat×AV):=(5,.gslice 0 a.length 2)::(6,.i b)::(7,.ptr 1 0)::x
abbrev kAR {α0:Type} (a:List α0) (b:Int) (c:Int) (x:List (Nat×AV)):List (Nat×AV):=(24,.oslice 4 a.length 4)::(25,.i b)::(26,.i c)::x
abbrev kAS (a:List qb) (b:List qB):List (Nat×AV):=[(16,vl qa a),(22,vl qj b),(199,.bool true)]
abbrev kAT (a:List StateT) (x:List Blk):List Blk:= .cells (a.flatMap jl.c)::x
abbrev kAU {α0:Type} (a:List α0):List (Nat×AV):=[(9,.oslice 2 a.length 9)]
abbrev kAV (x:List (Nat×AV)):List (Nat×AV):=(1,.ptr 0 0)::x
abbrev kAW {α0:Type} (a:List α0) (x:List (Nat×AV)):List (Nat×AV):=(7,.oslice 0 a.length 4)::x
abbrev kAX {α2:Type} (a:Str) (b:List Str) (c:List α2) (x:List Blk):List Blk:= .cells [.i 0,.str a,vl encS b,.gslice 2 c.length 1,.str []]::x
abbrev kAY {α1:Type} (a:Str) (b:List α1) (c:Int) (d:Int) (x:List (Nat×AV)):List (Nat×AV):=(0,.str a)::(3,.gslice 0 b.length 1)::(4,.i c)::(5,.i d)::x
abbrev kAZ:List AV:=[.agg [.i 0,.str [],.nilslice,.nilslice,.str []],.bool false]
abbrev kAa {α1:Type} (a:Int) (b:List α1) (x:List AV):List AV:= .agg [.i a,.slice 4 0 b.length b.length 9]::x
abbrev kAb {α0:Type} (a:List α0) (x:List (Nat×AV)):List (Nat×AV):=(7,.gslice 0 a.length 4)::x
abbrev kAc (a:List qB) (x:List (Nat×AV)):List (Nat×AV):=(0,vl qj a)::x
abbrev kAd (x:List Blk):List Blk:= .cells [.map 1]::x
abbrev kAe {α0:Type} (a:List α0) (x:List (Nat×AV)):List (Nat×AV):=(6,.slice 0 0 a.length a.length 1)::x
abbrev kAf:List (Nat×AV):=[(4,.bool false)]
abbrev kAg (a:List qb) (b:Int) (c:Int) (x:List (Nat×AV)):List (Nat×AV):=(24,vl qa a)::(25,.i b)::(26,.i c)::x
abbrev kAh:List Blk:=[.cells (([]:List qb).flatMap qa.c)]
abbrev kAi (a:Int) (b:Int) (x:List (Nat×AV)):List (Nat×AV):=(5,.i a)::(8,.ptr 1 0)::(9,.i b)::x
abbrev kAj (x:List (Nat×AV)):List (Nat×AV):=(2,.ptr 0 0)::x
abbrev kAk (a:Str) (b:Int) (c:Int) (d:Str):List AV:=[.str a,.i b,.i c,.str d]
abbrev kAl (a:List qc) (b:Str) (c:Str) (d:Int) (e:Int) (f:Int) (g:Int) (h:Int) (i:Int) (j:Bool) (k:List qc):List Blk:=[bS a,.cells (cT b c d e f g h i j),bS k]
abbrev kAm (a:Str) (x:List (Nat×AV)):List (Nat×AV):=(0,.str a)::x
abbrev kAn (a:List qB) (b:Int) (c:Int) (x:List (Nat×AV)):List (Nat×AV):=(9,vl qj a)::(10,.i b)::(11,.i c)::x
abbrev kAo (a:List qb) (b:List qb):List (Nat×AV):=[(10,vl qa a),(14,vl qa b),(132,.bool true)]
abbrev kAp {α0:Type} {α1:Type} {α2:Type} (a:Option (List α0)) (b:Option (List α1)) (c:Option (List α2)) (x:List Blk):List Blk:= .cells [hsl 2 4 a,hsl 3 4 b,hsl 4 4 c]::x
abbrev kAq (a:Int) (x:List (Nat×AV)):List (Nat×AV):=(3,.i a)::(4,.ptr 0 0)::x
abbrev kAr {α1:Type} (a:Int) (b:List α1) (x:List (Nat×AV)):List (Nat×AV):=(0,.agg [.i a,.slice 0 0 b.length b.length 9])::x
abbrev kAs:List AV:=[.str [109,97,107,101],.str [116,101,115,116],.str [117,115,101],.str [102,97,105,108],.str [114,101,99,97,108,108],.str [117,110,100,111]]
abbrev kAt:List (Nat×AV):=[(4,.bool true)]
abbrev kAu (a:List qb) (x:List (Nat×AV)):List (Nat×AV):=(1,vl qa a)::x
abbrev kAv (a:List qb) (x:List AV):List AV:=vl qa a::x
abbrev kAw (a:Int) (b:Int):List (Nat×AV):=[(4,.ptr 2 0),(6,.i a),(8,.ptr 5 0),(9,.i b)]
abbrev kAx (a:List qB) (b:Int) (x:List (Nat×AV)):List (Nat×AV):=(7,.ptr 0 0)::(20,vl qj a)::(21,.i b)::x
abbrev kAy {α0:Type} {α1:Type} (a:List α0) (b:Option (List α1)) (x:List Blk):List Blk:= .cells [.gslice 6 a.length 5,hsl 7 3 b]:: .dead:: .dead::x
abbrev kAz {α0:Type} {α1:Type} (a:List α0) (b:Option (List α1)) (x:List Blk):List Blk:= .cells [.gslice 7 a.length 5,hsl 8 3 b]:: .dead:: .dead::x
abbrev kA0:List (Nat×AV):=[(5,.ptr 1 0),(6,.bool true)]
abbrev kA1:List AV:=[.bool true]
abbrev kA2 (a:qg) (x:List Blk):List Blk:= .cells (cE a)::x
abbrev kA3 (a:List Str) (b:Int) (c:Int) (x:List (Nat×AV)):List (Nat×AV):=(54,vl encS a)::(55,.i b)::(56,.i c)::x
abbrev kA4 (a:Int):List (Nat×AV):=[(5,.i a)]
abbrev kA5 (a:Int) (b:List qc) (x:List AV):List AV:= .agg [.i a,vl qh b]::x
abbrev kA6 (a:List Str) (b:Str) (x:List (Nat×AV)):List (Nat×AV):=(0,vl encS a)::(1,.str b)::x
abbrev kA7 (a:List qb) (b:List qb) (c:List qb):List Blk:=[.cells [vl qa a,vl qa b,vl qa c]]
abbrev kA8 (x:List (Nat×AV)):List (Nat×AV):=(3,.ptr 1 0)::x
abbrev kA9 {α0:Type} (a:List α0):List (Nat×AV):=[(2,.ptr 1 0),(3,.slice 2 0 a.length a.length 9)]
abbrev kBA (x:List (Nat×AV)):List (Nat×AV):=(2,.slice 1 0 1 1 9)::(7,.i 1)::x
abbrev kBB (a:Int) (b:Str) (c:List Str) (d:List Int) (e:Str) (x:List Blk):List Blk:= .cells [.i a,.str b,vl encS c,vl encI d,.str e]::x
abbrev kBC (a:Option (List StateT)) (x:List Blk):List Blk:= .cells ((hof a).flatMap jl.c)::x
abbrev kBD (a:Int) (x:List (Nat×AV)):List (Nat×AV):=(6,.i a)::(7,.i 0)::x
abbrev kBE (a:List qc) (b:Int):List Blk:=[bS a,.cells [.i b,.slice 4 0 a.length a.length 9]]
abbrev kBF (x:List Blk):List Blk:= .cells (([]:List qB).flatMap qj.c)::x
abbrev kBG (a:List Str) (b:Int) (c:Int) (x:List (Nat×AV)):List (Nat×AV):=(46,vl encS a)::(47,.i b)::(48,.i c)::x
abbrev kBH (a:List Int) (b:Int) (c:Int) (x:List (Nat×AV)):List (Nat×AV):=(59,vl encI a)::(60,.i b)::(61,.i c)::x
abbrev kBI (x:List (Nat×AV)):List (Nat×AV):=(2,.ptr 1 0)::(4,.ptr 2 0)::x
abbrev kBJ (a:List qb) (x:List (Nat×AV)):List (Nat×AV):=(3,.ptr 0 0)::(5,vl qa a)::x
abbrev kBK (a:Int) (b:Int) (x:List (Nat×AV)):List (Nat×AV):=(6,.i a)::(7,.i b)::x
abbrev kBL (a:Int) (b:Int) (x:List (Nat×AV)):List (Nat×AV):=(1,.i a)::(2,.i b)::x
abbrev kBM (a:Int):List (Nat×AV):=[(12,.i a)]
abbrev kBN (a:Int) (b:List qc):List AV:=[.i a,vl qh b]
abbrev kBO (x:List AV):List AV:= .agg [.i 0,.i 0,.nilfunc]::x
abbrev kBP {α0:Type} (a:List α0) (b:Int):List (Nat×AV):=[(9,.slice 0 0 a.length a.length 1),(10,.i b)]
abbrev kBQ {α0:Type} (a:List α0) (x:List (Nat×AV)):List (Nat×AV):=(7,.gslice 2 a.length 4)::x
abbrev kBR (a:Int):List (Nat×AV):=[(8,.i a)]
abbrev kBS {α1:Type} (a:Int) (b:List α1):List AV:=[.i a,.slice 4 0 b.length b.length 9]
abbrev kBT:List (Nat×AV):=[(3,.bool false)]
abbrev kBU (a:List qb) (x:List (Nat×AV)):List (Nat×AV):=(16,vl qa a)::x
abbrev kBV (a:Int):List (Nat×AV):=[(7,.i a),(8,.i 0)]
abbrev kBW:List (Nat×AV):=[(2,.ptr 1 0)]
abbrev kBX (x:List (Nat×AV)):List (Nat×AV):=(4,.ptr 0 0)::x
abbrev kBY (x:List (Nat×AV)):List (Nat×AV):=(7,.ptr 1 0)::x
abbrev kBZ (a:Int) (b:Int) (c:Int):List Blk:=[.cells [.i a,.i b,.i c]]
abbrev kBa {α0:Type} (a:List α0) (x:List AV):List AV:= .oslice 0 a.length 4::x
abbrev kBb (a:List qb) (x:List (Nat×AV)):List (Nat×AV):=(6,vl qa a)::x
abbrev kBc:List (Nat×AV):=[(2,.bool false)]
abbrev kBd:List Blk:=[.cells [.i 0,.i 0,.nilfunc]]
abbrev kBe (a:Int) (b:Int) (x:List Blk):List Blk:= .cells [.i a,.i b,.undef]::x
abbrev kBf (a:Str) (b:Int) (c:Int) (d:Str) (x:List AV):List AV:= .agg [.str a,.i b,.i c,.str d]::x
abbrev kBg (a:List qb) (b:Int):List (Nat×AV):=[(23,vl qa a),(24,.i b),(25,.i 0)]
abbrev kBh {α0:Type} (a:List α0) (x:List Blk):List Blk:= .cells [.gslice 1 a.length 5,.nilslice]::x
abbrev kBi:List (Nat×AV):=[(5,.i 0)]
abbrev kBj (a:Int):List (Nat×AV):=[(6,.i a)]
abbrev kBk (a:Str) (b:Int) (c:Int) (d:Str) (x:List (Nat×AV)):List (Nat×AV):=(0,.agg [.str a,.i b,.i c,.str d])::x
abbrev kBl (x:List (Nat×AV)):List (Nat×AV):=(6,.ptr 0 0)::x
abbrev kBm (x:List (Nat×AV)):List (Nat×AV):=(6,.i 20)::x
theorem xn:SlT Tryz.prog 96 132 4 48:=⟨by kernel_rfl,by kernel_rfl,by kernel_rfl,by kernel_rfl⟩
theorem qak:AgT Tryz.prog 132 4:=⟨by kernel_rfl,by kernel_rfl⟩
theorem qi6:SlT Tryz.prog 98 201 4 48:=⟨by kernel_rfl,by kernel_rfl,by kernel_rfl,by kernel_rfl⟩
theorem qj8:SlT Tryz.prog 97 141 2 24:=⟨by kernel_rfl,by kernel_rfl,by kernel_rfl,by kernel_rfl⟩
theorem qnJ:AgT Tryz.prog 141 2:=⟨by kernel_rfl,by kernel_rfl⟩
theorem qjJ:SlT Tryz.prog 100 202 2 24:=⟨by kernel_rfl,by kernel_rfl,by kernel_rfl,by kernel_rfl⟩
theorem ce9:CeT Tryz.prog 9:=⟨by kernel_rfl,by kernel_rfl⟩
theorem sl218:SlT Tryz.prog 218 32 1 8:=⟨by kernel_rfl,by kernel_rfl,by kernel_rfl,by kernel_rfl⟩
theorem ce32:CeT Tryz.prog 32:=⟨by kernel_rfl,by kernel_rfl⟩
theorem qd0:SlT Tryz.prog 24 3 1 8:=⟨by kernel_rfl,by kernel_rfl,by kernel_rfl,by kernel_rfl⟩
theorem ce3:CeT Tryz.prog 3:=⟨by kernel_rfl,by kernel_rfl⟩
theorem qcd:SlT Tryz.prog 29 68 9 88:=⟨by kernel_rfl,by kernel_rfl,by kernel_rfl,by kernel_rfl⟩
theorem ag68:AgT Tryz.prog 68 9:=⟨by kernel_rfl,by kernel_rfl⟩
theorem st9:Tryz.prog.underlying 9=some .string:=by kernel_rfl
theorem xU:SlT Tryz.prog 23 9 1 16:=⟨by kernel_rfl,by kernel_rfl,by kernel_rfl,by kernel_rfl⟩
theorem qaR:MapT Tryz.prog 154 9 152 (.agg [.i 0,.i 0,.nilfunc]):=⟨by kernel_rfl,by kernel_rfl,by kernel_rfl⟩
theorem qoQ:MpT Tryz.prog 65 9 3 .string (.i 0):=⟨by kernel_rfl,by kernel_rfl,by kernel_rfl⟩
theorem qk8:SlT Tryz.prog 163 167 3 40:=⟨by kernel_rfl,by kernel_rfl,by kernel_rfl,by kernel_rfl⟩
theorem sl22:SlT Tryz.prog 22 26 5 88:=⟨by kernel_rfl,by kernel_rfl,by kernel_rfl,by kernel_rfl⟩
theorem ag31:AgT Tryz.prog 31 2:=⟨by kernel_rfl,by kernel_rfl⟩
theorem it3:Tryz.prog.underlying 3=some (.int .i64):=by kernel_rfl
theorem qkU:AgT Tryz.prog 201 4:=⟨by kernel_rfl,by kernel_rfl⟩
theorem qpo:EqT Tryz.prog 201 #[{name:= "Desk",type:=9,offset:=0,embedded:=false,tag:= "",pkgPath:= "",byteOffset:=0},{name:= "Number",type:=3,offset:=1,embedded:=false,tag:= "",pkgPath:= "",byteOffset:=16},{name:= "Clock",type:=3,offset:=2,embedded:=false,tag:= "",pkgPath:= "",byteOffset:=24},{name:= "Line",type:=9,offset:=3,embedded:=false,tag:= "",pkgPath:= "",byteOffset:=32}]:=⟨by kernel_rfl,by kernel_rfl,by kernel_rfl⟩
theorem qpl:EqT Tryz.prog 141 #[{name:= "Desk",type:=9,offset:=0,embedded:=false,tag:= "",pkgPath:= "",byteOffset:=0},{name:= "Number",type:=3,offset:=1,embedded:=false,tag:= "",pkgPath:= "",byteOffset:=16}]:=⟨by kernel_rfl,by kernel_rfl,by kernel_rfl⟩
theorem qnh:EqT Tryz.prog 132 #[{name:= "Desk",type:=9,offset:=0,embedded:=false,tag:= "",pkgPath:= "",byteOffset:=0},{name:= "Number",type:=3,offset:=1,embedded:=false,tag:= "",pkgPath:= "",byteOffset:=16},{name:= "Clock",type:=3,offset:=2,embedded:=false,tag:= "",pkgPath:= "",byteOffset:=24},{name:= "Line",type:=9,offset:=3,embedded:=false,tag:= "",pkgPath:= "",byteOffset:=32}]:=⟨by kernel_rfl,by kernel_rfl,by kernel_rfl⟩
abbrev fm1:AV:= .fmap kAs (.agg [.i 2,.i 3,.func (.func 141) [] []]:: .agg [.i 1,.i 2,.func (.func 142) [] []]:: .agg [.i 1,.i 2,.func (.func 143) [] []]:: .agg [.i 1,.i 1,.func (.func 144) [] []]:: .agg [.i 1,.i 1,.func (.func 145) [] []]::(kBO []))
instance:SC 12 fm1:=⟨Still.fmap SX.h (AllST.cons SC.h (AllST.cons SC.h (AllST.cons SC.h (AllST.cons SC.h (AllST.cons SC.h (AllST.cons SC.h AllST.nil))))))⟩
def toQ (n:qb):Q4:=(n.Desk,n.Number,n.Clock,n.Line)
def ofQ (q:Q4):qb:=⟨q.1,q.2.1,q.2.2.1,q.2.2.2⟩
def yR (l:List qb):List qb:=(qbq (l.map toQ)).map ofQ
theorem qnW (l:List qb):l.flatMap qa.c=(l.map toQ).flatMap c4:=by
 induction l with
 |nil=>rfl
 |cons x l ih=>rw[List.flatMap_cons,List.map_cons,List.flatMap_cons,ih];rfl
theorem qoP (l:List qb):(yR l).flatMap qa.c=(qbq (l.map toQ)).flatMap c4:=by
 rw[qnW]
 unfold yR
 rw[List.map_map,show toQ∘ofQ=id from rfl,List.map_id]
def qjX:Option Unit:=some ()
theorem qlM {res:Unit} (h:qjX=some res):qf Tryz.prog (.fn 123) [vl qa ([]:List qb)] [] (.gslice 0 ([]:List qb).length 4) kAh:=qn9
def qla (l:List qb):Option (List qb):=if l.length≤100000 then some (yR l)else none
def qkN (l:List qb):Option (List qb):=if l.length≤100000 then some (yR l)else none
theorem qm3 (l:List qb) {res:List qb} (h:qla l=some res):qf Tryz.prog (.fn 135) [.gslice 0 l.length 4,.func (.func 136) [] []] (kB l []) (.tuple []) (kB res []):=by
 unfold qla at h
 split at h
 ·rename_i hl
  obtain rfl:=si h
  have:=qoS (ns:=l.map toQ) (by simpa using hl)
  rw[List.length_map]at this
  rw[←qnW,←qoP]at this
  exact this
 ·cases h
theorem qmJ (l:List qb) {res:List qb} (h:qkN l=some res):qf Tryz.prog (.fn 135) (kBa l [.func (.func 136) [] []]) (kB l []) (.tuple []) (kB res []):=by
 unfold qkN at h
 split at h
 ·rename_i hl
  obtain rfl:=si h
  have:=qpD (ns:=l.map toQ) (by simpa using hl)
  rw[List.length_map]at this
  rw[←qnW,←qoP]at this
  exact this
 ·cases h
def vJ (l:List qb):Nat→(List qb)→Int→Option (List qb)
 |0,_,_=>none
 |K+1,l1,n2=>
  if n2<(l.length:Int)then
  (idx l n2).bind fun x6=>
  (app 48 l1 [x6]).bind fun l7=>
  vJ l K l7 (w64 (n2+1))
  else
  some l1
def jM (N:Nat) (l:List qb):Option (List qb):=
 (vJ l N ([]:List qb) 0).bind fun l3=>
 some l3
theorem qF (N:Nat) (l:List qb) {res:List qb} (h:jM N l=some res):qf Tryz.prog (.fn 54) [vl qa l] [] (vl qa res) []:=by
 unfold jM at h
 refine Goes.fnW Tryz.func54 rfl rfl (m:=18) rfl (rs:=[.tmp 2]) rfl (l:=(kD l [])) rfl ?_
 refine sh fol (kD l []) ?_
 refine sh fol (kD l [(3,.nilslice)]) ?_
 refine sq ?_
 refine sh fol ((3,.nilslice)::(kBb l (kBV (l.length:Int)))) ?_
 refine Goes.block ?_
 obtain⟨r4,g4,h⟩:=bnd h
 refine Goes.imp (Q:=fun x s'=>(x= .exit 0∧ ∃l3,l3=r4∧Sub s' (ofG 18 [(3,.gslice 0 l3.length 4)],(kB l3 [])))) ?_ ?_
 ·refine Goes.sub (s':=(ofG 18 ((3,.gslice 0 ([]:List qb).length 4)::(kBb l (kBV (l.length:Int)))),kAh)) (Sub.norm [] [none] rfl rfl (.keep .nil (.keep (.same (qd qa _)) (.keep (.same nI) (.keep (.same nI) .nil)))) (.fresh .nil)) ?_
  refine Goes.loopS (fun M s=> ∃(l1:List qb) (n2:Int),s=(ofG 18 ((3,.gslice 0 l1.length 4)::(kBb l (kAH (l.length:Int) n2 []))),(kB l1 []))∧vJ l M l1 n2=some r4) ?_ (m:=N) ⟨_,_,rfl,g4⟩
  rintro M s ⟨l1,n2,rfl,g4⟩
  cases M with
  |zero=>simp only[vJ]at g4;cases g4
  |succ M=>
   rw[vJ]at g4
   refine sh fol ((3,.gslice 0 l1.length 4)::(kBb l (kAH (l.length:Int) n2 [(9,.bool (decide (n2<(l.length:Int))))]))) ?_
   refine sq ?_
   refine ihD g4 (fun c5 g4=>?_) (fun c5 g4=>?_)
   ·refine Goes.skip ?_
    refine sq (Goes.block ?_)
    obtain⟨x6,e_x6,g4⟩:=bnd g4
    refine sq (gq fol [0,1] ((3,.gslice 0 l1.length 4)::(5,.ptr 1 0)::(kBb l (kAH (l.length:Int) n2 []))) (kB l1 (kE x6.Desk x6.Number x6.Clock x6.Line [])) (ac (iv xn qa e_x6) (ac (la qak qa e_x6) az)) ?_)
    obtain⟨l7,e_l7,g4⟩:=bnd g4
    refine gq fol [3] ((3,.gslice 3 l7.length 4)::(kBb l (kAH (l.length:Int) n2 []))) (.dead::(kE x6.Desk x6.Number x6.Clock x6.Line (kE x6.Desk x6.Number x6.Clock x6.Line (kB l7 [])))) (ac (hs (.run [0,2] (zh Tryz.prog [98,98] (.gslice 0 l1.length 4) (.slice 2 0 1 1 4)) (kB l1 (kE x6.Desk x6.Number x6.Clock x6.Line (kE x6.Desk x6.Number x6.Clock x6.Line []))) (.gslice 3 l7.length 4) (.dead::(kE x6.Desk x6.Number x6.Clock x6.Line (kE x6.Desk x6.Number x6.Clock x6.Line (kB l7 [])))) true) (jE qi6 (E:=qa) rfl (qaB (E:=qa) (ys:=[x6]) rfl rfl rfl rfl) (qcg (E:=qa) (l:=l1) rfl rfl rfl e_l7 rfl))) az) ?_
    refine gh fol ((3,.gslice 3 l7.length 4)::(kBb l (kAH (l.length:Int) (w64 (n2+1)) []))) ?_
    exact⟨M,(ofG 18 ((3,.gslice 0 l7.length 4)::(kBb l (kAH (l.length:Int) (w64 (n2+1)) []))),(kB l7 [])),Nat.lt_succ_self _,(Sub.norm [] [some 3] rfl rfl (.keep (.gslice rfl) (.keep (.same (qd qa _)) (.keep (.same nI) (.keep (.same nI) .nil)))) (.ks .nil)),_,_,rfl,g4⟩
   ·refine Goes.exit ?_
    obtain rfl:=si g4
    exact⟨rfl,_,rfl,(Sub.keep [3] rfl rfl)⟩
 rintro x s' ⟨rfl,l3,rfl,hsub⟩
 refine Goes.sub hsub ?_
 refine sh fol [(2,.gslice 0 l3.length 4)] ?_
 refine Goes.ret ?_
 obtain rfl:=si h
 exact(gw2 [.gslice 0 l3.length 4] (FzW.fz (Fz.gs (E:=qa) rfl rfl (nl rfl))))
def vE (l:List qB):Nat→(List qB)→Int→Option (List qB)
 |0,_,_=>none
 |K+1,l1,n2=>
  if n2<(l.length:Int)then
  (idx l n2).bind fun x6=>
  (app 24 l1 [x6]).bind fun l7=>
  vE l K l7 (w64 (n2+1))
  else
  some l1
def qaD (N:Nat) (l:List qB):Option (List qB):=
 (vE l N ([]:List qB) 0).bind fun l3=>
 some l3
theorem qhn (N:Nat) (l:List qB) {res:List qB} (h:qaD N l=some res):qf Tryz.prog (.fn 55) [vl qj l] [] (vl qj res) []:=by
 unfold qaD at h
 refine Goes.fnW Tryz.func55 rfl rfl (m:=18) rfl (rs:=[.tmp 2]) rfl (l:=(kAc l [])) rfl ?_
 refine sh fol (kAc l []) ?_
 refine sh fol (kAc l [(3,.nilslice)]) ?_
 refine sq ?_
 refine sh fol ((3,.nilslice)::(6,vl qj l)::(kBV (l.length:Int))) ?_
 refine Goes.block ?_
 obtain⟨r4,g4,h⟩:=bnd h
 refine Goes.imp (Q:=fun x s'=>(x= .exit 0∧ ∃l3,l3=r4∧Sub s' (ofG 18 [(3,.gslice 0 l3.length 2)],(kL l3 [])))) ?_ ?_
 ·refine Goes.sub (s':=(ofG 18 ((3,.gslice 0 ([]:List qB).length 2)::(6,vl qj l)::(kBV (l.length:Int))),(kBF []))) (Sub.norm [] [none] rfl rfl (.keep .nil (.keep (.same (qd qj _)) (.keep (.same nI) (.keep (.same nI) .nil)))) (.fresh .nil)) ?_
  refine Goes.loopS (fun M s=> ∃(l1:List qB) (n2:Int),s=(ofG 18 ((3,.gslice 0 l1.length 2)::(6,vl qj l)::(kAH (l.length:Int) n2 [])),(kL l1 []))∧vE l M l1 n2=some r4) ?_ (m:=N) ⟨_,_,rfl,g4⟩
  rintro M s ⟨l1,n2,rfl,g4⟩
  cases M with
  |zero=>simp only[vE]at g4;cases g4
  |succ M=>
   rw[vE]at g4
   refine sh fol ((3,.gslice 0 l1.length 2)::(6,vl qj l)::(kAH (l.length:Int) n2 [(9,.bool (decide (n2<(l.length:Int))))])) ?_
   refine sq ?_
   refine ihD g4 (fun c5 g4=>?_) (fun c5 g4=>?_)
   ·refine Goes.skip ?_
    refine sq (Goes.block ?_)
    obtain⟨x6,e_x6,g4⟩:=bnd g4
    refine sq (gq fol [0,1] ((3,.gslice 0 l1.length 2)::(5,.ptr 1 0)::(6,vl qj l)::(kAH (l.length:Int) n2 [])) (kL l1 (kAI x6.Desk x6.Number [])) (ac (iv qj8 qj e_x6) (ac (la qnJ qj e_x6) az)) ?_)
    obtain⟨l7,e_l7,g4⟩:=bnd g4
    refine gq fol [3] ((3,.gslice 3 l7.length 2)::(6,vl qj l)::(kAH (l.length:Int) n2 [])) (.dead::(kAI x6.Desk x6.Number (kAI x6.Desk x6.Number (kL l7 [])))) (ac (hs (.run [0,2] (zh Tryz.prog [100,100] (.gslice 0 l1.length 2) (.slice 2 0 1 1 2)) (kL l1 (kAI x6.Desk x6.Number (kAI x6.Desk x6.Number []))) (.gslice 3 l7.length 2) (.dead::(kAI x6.Desk x6.Number (kAI x6.Desk x6.Number (kL l7 [])))) true) (jE qjJ (E:=qj) rfl (qaB (E:=qj) (ys:=[x6]) rfl rfl rfl rfl) (qcg (E:=qj) (l:=l1) rfl rfl rfl e_l7 rfl))) az) ?_
    refine gh fol ((3,.gslice 3 l7.length 2)::(6,vl qj l)::(kAH (l.length:Int) (w64 (n2+1)) [])) ?_
    exact⟨M,(ofG 18 ((3,.gslice 0 l7.length 2)::(6,vl qj l)::(kAH (l.length:Int) (w64 (n2+1)) [])),(kL l7 [])),Nat.lt_succ_self _,(Sub.norm [] [some 3] rfl rfl (.keep (.gslice rfl) (.keep (.same (qd qj _)) (.keep (.same nI) (.keep (.same nI) .nil)))) (.ks .nil)),_,_,rfl,g4⟩
   ·refine Goes.exit ?_
    obtain rfl:=si g4
    exact⟨rfl,_,rfl,(Sub.keep [3] rfl rfl)⟩
 rintro x s' ⟨rfl,l3,rfl,hsub⟩
 refine Goes.sub hsub ?_
 refine sh fol [(2,.gslice 0 l3.length 2)] ?_
 refine Goes.ret ?_
 obtain rfl:=si h
 exact(gw2 [.gslice 0 l3.length 2] (FzW.fz (Fz.gs (E:=qj) rfl rfl (nl rfl))))
def zU (l:List qb):Nat→Int→Option (Unit⊕Bool)
 |0,_=>none
 |K+1,n6=>
  if n6<(l.length:Int)then
  ((idx l n6).bind fun x10=>
  if(x10.Desk.length:Int)>60 then
  some true
  else
  some (decide ((x10.Line.length:Int)>150)):Option Bool).bind fun b12=>
  if b12=true then
  some (.inr false)
  else
  zU l K (w64 (n6+1))
  else
  some (.inl ())
def vV (N:Nat) (l:List qb) (n:Int):Option Bool:=
 (if(l.length:Int)>n then
 if(l.length:Int)≤1000 then
 some true
 else
 some (decide ((l.length:Int)>1003))
 else
 some (decide ((l.length:Int)>1003)):Option Bool).bind fun b3=>
 if b3=true then
 some false
 else
 (zU l N 0).bind (fun
 |(.inl ())=>
 some true
 |(.inr q15)=>
 some q15)
theorem qab (N:Nat) (l:List qb) (n:Int) {res:Bool} (h:vV N l n=some res):qf Tryz.prog (.fn 56) (kAv l [.i n]) [] (.bool res) []:=by
 unfold vV at h
 refine Goes.fnW Tryz.func56 rfl rfl (m:=42) rfl (rs:=[.tmp 4]) rfl (l:=(kD l [(1,.i n)])) rfl ?_
 refine sh fol (kD l [(1,.i n)]) ?_
 refine sq ?_
 refine sq ?_
 obtain⟨b3,g_v4,h⟩:=bnd h
 refine Goes.cut (s':=(ofG 42 (kD l [(19,.bool b3)]),[])) ?_ ?_
 ·rcases wyD g_v4 with⟨c1,g_v4⟩|⟨c1,g_v4⟩
  ·rcases wyD g_v4 with⟨c2,g_v4⟩|⟨c2,g_v4⟩
   ·obtain rfl:=si g_v4
    exact tr fol [4,9] (kD l [(19,.bool true)]) (ac (gw c1) (ac (gw c2) az))
   ·obtain rfl:=si g_v4
    exact tr fol [4,9] (kD l [(19,.bool (decide ((l.length:Int)>1003)))]) (ac (gw c1) (ac (gw c2) az))
  ·obtain rfl:=si g_v4
   exact tr fol [4] (kD l [(19,.bool (decide ((l.length:Int)>1003)))]) (ac (gw c1) az)
 refine ihB h (fun c5 h=>?_) (fun c5 h=>?_)
 ·refine sh fol kAf ?_
  refine Goes.ret ?_
  obtain rfl:=si h
  exact(gw2 [.bool false] (FzW.still tB))
 ·refine Goes.skip ?_
  refine sq ?_
  refine sh fol (kD l kBi) ?_
  refine Goes.block ?_
  obtain⟨r7,g7,h⟩:=bnd h
  refine Goes.imp (Q:=fun x s'=>(x= .exit 0∧(.inl ())=r7∧Sub s' (ofG 42 [],[]))∨(x= .ret∧ ∃q8,(.inr q8)=r7∧zy Tryz.prog [.tmp 4] (.bool q8) .ret s')) ?_ ?_
  ·refine Goes.loopS (fun M s=> ∃(n6:Int),s=(ofG 42 (kD l (kA4 n6)),[])∧zU l M n6=some r7) ?_ (m:=N) ⟨_,rfl,g7⟩
   rintro M s ⟨n6,rfl,g7⟩
   cases M with
   |zero=>simp only[zU]at g7;cases g7
   |succ M=>
    rw[zU]at g7
    refine sq ?_
    refine sh fol (kD l [(5,.i n6),(23,.bool (decide (n6<(l.length:Int))))]) ?_
    refine ihD g7 (fun c9 g7=>?_) (fun c9 g7=>?_)
    ·refine Goes.skip ?_
     refine sq (Goes.block ?_)
     refine sq ?_
     obtain⟨b12,g_v13,g7⟩:=bnd g7
     refine Goes.cut (s':=(ofG 42 (kD l [(5,.i n6),(41,.bool b12)]),[])) ?_ ?_
     ·obtain⟨x10,e_x10,g_v13⟩:=bnd g_v13
      rcases wyD g_v13 with⟨c11,g_v13⟩|⟨c11,g_v13⟩
      ·obtain rfl:=si g_v13
       exact tr fol [2,4,7] (kD l [(5,.i n6),(41,.bool true)]) (ac (iv qi6 qa e_x10) (ac (lv 0 ce9 qa e_x10 rfl) (ac (gw c11) az)))
      ·obtain rfl:=si g_v13
       exact tr fol [2,4,7,10,12] (kD l [(5,.i n6),(41,.bool (decide ((x10.Line.length:Int)>150)))]) (ac (iv qi6 qa e_x10) (ac (lv 0 ce9 qa e_x10 rfl) (ac (gw c11) (ac (iv qi6 qa e_x10) (ac (lv 3 ce9 qa e_x10 rfl) az)))))
     refine ihB g7 (fun c14 g7=>?_) (fun c14 g7=>?_)
     ·refine sh fol kAf ?_
      refine Goes.ret ?_
      obtain rfl:=si g7
      exact Or.inr (⟨rfl,_,rfl,(gw2 [.bool false] (FzW.still tB))⟩)
     ·refine Goes.skip ?_
      refine gh fol (kD l (kA4 (w64 (n6+1)))) ?_
      exact⟨M,(ofG 42 (kD l (kA4 (w64 (n6+1)))),[]),Nat.lt_succ_self _,(Sub.refl _),_,rfl,g7⟩
    ·refine Goes.exit ?_
     obtain rfl:=si g7
     exact Or.inl (⟨rfl,rfl,(Sub.keep [] rfl rfl)⟩)
  rintro x s' (⟨rfl,rfl,hsub⟩|⟨rfl,q15,rfl,hret⟩)
  ·try dsimp only at h
   refine Goes.sub hsub ?_
   refine sh fol kAt ?_
   refine Goes.ret ?_
   obtain rfl:=si h
   exact(gw2 [.bool true] (FzW.still tB))
  ·try dsimp only at h
   obtain rfl:=si h
   exact hret
def vN (l:List Int):Nat→Int→Option (Unit⊕Int)
 |0,_=>none
 |K+1,n1=>
  if n1<(l.length:Int)then
  (idx l n1).bind fun x5=>
  if(!decide (x5=0))=true then
  some (.inr x5)
  else
  vN l K (w64 (n1+1))
  else
  some (.inl ())
def qC (N:Nat) (l:List Int):Option Int:=
 (vN l N 0).bind (fun
 |(.inl ())=>
 some 0
 |(.inr q7)=>
 some q7)
theorem qN (N:Nat) (l:List Int) {res:Int} (h:qC N l=some res):qf Tryz.prog (.fn 86) [vl encI l] [] (.i res) []:=by
 unfold qC at h
 refine Goes.fnW Tryz.func86 rfl rfl (m:=15) rfl (rs:=[.tmp 2]) rfl (l:=[(0,vl encI l)]) rfl ?_
 refine sh fol [(0,vl encI l)] ?_
 refine sq ?_
 refine sh fol ((5,vl encI l)::(kBD (l.length:Int) [])) ?_
 refine Goes.block ?_
 obtain⟨r2,g2,h⟩:=bnd h
 refine Goes.imp (Q:=fun x s'=>(x= .exit 0∧(.inl ())=r2∧Sub s' (ofG 15 [],[]))∨(x= .ret∧ ∃q3,(.inr q3)=r2∧zy Tryz.prog [.tmp 2] (.i q3) .ret s')) ?_ ?_
 ·refine Goes.loopS (fun M s=> ∃(n1:Int),s=(ofG 15 ((5,vl encI l)::(kBK (l.length:Int) n1 [])),[])∧vN l M n1=some r2) ?_ (m:=N) ⟨_,rfl,g2⟩
  rintro M s ⟨n1,rfl,g2⟩
  cases M with
  |zero=>simp only[vN]at g2;cases g2
  |succ M=>
   rw[vN]at g2
   refine sh fol ((5,vl encI l)::(kBK (l.length:Int) n1 [(8,.bool (decide (n1<(l.length:Int))))])) ?_
   refine sq ?_
   refine ihD g2 (fun c4 g2=>?_) (fun c4 g2=>?_)
   ·refine Goes.skip ?_
    refine sq (Goes.block ?_)
    obtain⟨x5,e_x5,g2⟩:=bnd g2
    refine sq (gr fol [0,1] ((4,.i x5)::(5,vl encI l)::(kBK (l.length:Int) n1 [])) (ac (iv sl218 encI e_x5) (ac (lv 0 ce32 encI e_x5 rfl) az)) ?_)
    refine sh fol ((4,.i x5)::(5,vl encI l)::(kBK (l.length:Int) n1 [(12,.bool (!decide (x5=0)))])) ?_
    refine ihB g2 (fun c6 g2=>?_) (fun c6 g2=>?_)
    ·refine sh fol [(2,.i x5)] ?_
     refine Goes.ret ?_
     obtain rfl:=si g2
     exact Or.inr (⟨rfl,_,rfl,(gw2 [.i x5] (FzW.still tI))⟩)
    ·refine Goes.skip ?_
     refine gh fol ((5,vl encI l)::(kBK (l.length:Int) (w64 (n1+1)) [])) ?_
     exact⟨M,(ofG 15 ((5,vl encI l)::(kBK (l.length:Int) (w64 (n1+1)) [])),[]),Nat.lt_succ_self _,(Sub.refl _),_,rfl,g2⟩
   ·refine Goes.exit ?_
    obtain rfl:=si g2
    exact Or.inl (⟨rfl,rfl,(Sub.keep [] rfl rfl)⟩)
 rintro x s' (⟨rfl,rfl,hsub⟩|⟨rfl,q7,rfl,hret⟩)
 ·try dsimp only at h
  refine Goes.sub hsub ?_
  refine sh fol [(2,.i 0)] ?_
  refine Goes.ret ?_
  obtain rfl:=si h
  exact(gw2 [.i 0] (FzW.still tI))
 ·try dsimp only at h
  obtain rfl:=si h
  exact hret
def qE (holds:Bool) (e:Int):Option Int:=
 if holds=true then
 some e
 else
 some 0
theorem qz (holds:Bool) (e:Int) {res:Int} (h:qE holds e=some res):qf Tryz.prog (.fn 88) [.bool holds,.i e] [] (.i res) []:=by
 unfold qE at h
 refine Goes.fnW Tryz.func88 rfl rfl (m:=7) rfl (rs:=[.tmp 4]) rfl (l:=[(0,.bool holds),(1,.i e)]) rfl ?_
 refine sh fol [(0,.bool holds),(1,.i e)] ?_
 refine sq ?_
 refine sh fol [(1,.i e),(5,.bool holds)] ?_
 refine ihB h (fun c1 h=>?_) (fun c1 h=>?_)
 ·refine sh fol [(4,.i e)] ?_
  refine Goes.ret ?_
  obtain rfl:=si h
  exact(gw2 [.i e] (FzW.still tI))
 ·refine Goes.skip ?_
  refine sh fol [(4,.i 0)] ?_
  refine Goes.ret ?_
  obtain rfl:=si h
  exact(gw2 [.i 0] (FzW.still tI))
def qW (n:qb):Option qB:=
 some (⟨n.Desk,n.Number⟩:qB)
theorem zf (n:qb) {res:qB} (h:qW n=some res):qf Tryz.prog (.fn 129) [.agg (kAk n.Desk n.Number n.Clock n.Line)] [] (.agg [.str res.Desk,.i res.Number]) []:=by
 unfold qW at h
 refine Goes.fnW Tryz.func129 rfl rfl (m:=8) rfl (rs:=[.cell 2 141]) rfl (l:=(kBk n.Desk n.Number n.Clock n.Line [])) rfl ?_
 refine sg fol (kAV kBW) (kE n.Desk n.Number n.Clock n.Line [.cells [.str [],.i 0]]) ?_
 refine sg fol kBW (kE n.Desk n.Number n.Clock n.Line (kAI n.Desk n.Number [])) ?_
 refine Goes.ret ?_
 obtain rfl:=si h
 exact(gw2 [.agg [.str n.Desk,.i n.Number]] (FzW.agg (qw.cons (FzW.still tS) (qw.cons (FzW.still tI) qw.nil))))
def cmp_isNaN_int (x_:Int):Option Bool:=
 some (!decide (x_=x_))
theorem qct (x_:Int) {res:Bool} (h:cmp_isNaN_int x_=some res):qf Tryz.prog (.fn 171) [.i x_] [] (.bool res) []:=by
 unfold cmp_isNaN_int at h
 refine Goes.fnW Tryz.func171 rfl rfl (m:=6) rfl (rs:=[.tmp 2]) rfl (l:=[(0,.i x_)]) rfl ?_
 refine sh fol [(0,.i x_)] ?_
 refine sh fol [(2,.bool (!decide (x_=x_)))] ?_
 refine Goes.ret ?_
 obtain rfl:=si h
 exact(gw2 [.bool (!decide (x_=x_))] (FzW.still tB))
def cmp_Compare_int (x_:Int) (y:Int):Option Int:=
 (cmp_isNaN_int x_).bind fun r1=>
 (cmp_isNaN_int y).bind fun r2=>
 if r1=true then
 if r2=true then
 some 0
 else
 some (-1)
 else
 if r2=true then
 some 1
 else
 if x_<y then
 some (-1)
 else
 if x_>y then
 some 1
 else
 some 0
theorem qbH (x_:Int) (y:Int) {res:Int} (h:cmp_Compare_int x_ y=some res):qf Tryz.prog (.fn 126) [.i x_,.i y] [] (.i res) []:=by
 unfold cmp_Compare_int at h
 refine Goes.fnW Tryz.func126 rfl rfl (m:=20) rfl (rs:=[.tmp 4]) rfl (l:=[(0,.i x_),(1,.i y)]) rfl ?_
 refine sh fol [(0,.i x_),(1,.i y)] ?_
 obtain⟨r1,e_r1,h⟩:=bnd h
 refine sq (gr fol [1] [(0,.i x_),(1,.i y),(5,.bool r1)] (ac (cv (qct x_ e_r1)) az) ?_)
 obtain⟨r2,e_r2,h⟩:=bnd h
 refine sq (gr fol [1] [(0,.i x_),(1,.i y),(5,.bool r1),(6,.bool r2)] (ac (cv (qct y e_r2)) az) ?_)
 refine sq ?_
 refine sh fol [(0,.i x_),(1,.i y),(6,.bool r2),(11,.bool r1)] ?_
 refine ihB h (fun c3 h=>?_) (fun c3 h=>?_)
 ·refine sq ?_
  refine sh fol [(12,.bool r2)] ?_
  refine ihB h (fun c4 h=>?_) (fun c4 h=>?_)
  ·refine sh fol [(4,.i 0)] ?_
   refine Goes.ret ?_
   obtain rfl:=si h
   exact(gw2 [.i 0] (FzW.still tI))
  ·refine Goes.skip ?_
   refine sh fol [(4,.i (-1))] ?_
   refine Goes.ret ?_
   obtain rfl:=si h
   exact(gw2 [.i (-1)] (FzW.still tI))
 ·refine Goes.skip ?_
  refine sq ?_
  refine sh fol [(0,.i x_),(1,.i y),(13,.bool r2)] ?_
  refine ihB h (fun c5 h=>?_) (fun c5 h=>?_)
  ·refine sh fol [(4,.i 1)] ?_
   refine Goes.ret ?_
   obtain rfl:=si h
   exact(gw2 [.i 1] (FzW.still tI))
  ·refine Goes.skip ?_
   refine sq ?_
   refine sh fol [(0,.i x_),(1,.i y),(16,.bool (decide (x_<y)))] ?_
   refine ihD h (fun c6 h=>?_) (fun c6 h=>?_)
   ·refine sh fol [(4,.i (-1))] ?_
    refine Goes.ret ?_
    obtain rfl:=si h
    exact(gw2 [.i (-1)] (FzW.still tI))
   ·refine Goes.skip ?_
    refine sq ?_
    refine sh fol [(19,.bool (decide (x_>y)))] ?_
    refine ihD h (fun c7 h=>?_) (fun c7 h=>?_)
    ·refine sh fol [(4,.i 1)] ?_
     refine Goes.ret ?_
     obtain rfl:=si h
     exact(gw2 [.i 1] (FzW.still tI))
    ·refine Goes.skip ?_
     refine sh fol [(4,.i 0)] ?_
     refine Goes.ret ?_
     obtain rfl:=si h
     exact(gw2 [.i 0] (FzW.still tI))
def vU (vals:List Int):Nat→Int→Option (Unit⊕Int)
 |0,_=>none
 |K+1,n1=>
  if n1<(vals.length:Int)then
  (idx vals n1).bind fun x5=>
  if(!decide (x5=0))=true then
  some (.inr x5)
  else
  vU vals K (w64 (n1+1))
  else
  some (.inl ())
def qbP (N:Nat) (vals:List Int):Option Int:=
 (vU vals N 0).bind (fun
 |(.inl ())=>
 some 0
 |(.inr q7)=>
 some q7)
theorem qhp (N:Nat) (vals:List Int) {res:Int} (h:qbP N vals=some res):qf Tryz.prog (.fn 177) [vl encI vals] [] (.i res) []:=by
 unfold qbP at h
 refine Goes.fnW Tryz.func177 rfl rfl (m:=18) rfl (rs:=[.tmp 2]) rfl (l:=[(0,vl encI vals)]) rfl ?_
 refine sh fol [(0,vl encI vals)] ?_
 refine sh fol [(0,vl encI vals),(3,.i 0)] ?_
 refine sq ?_
 refine sh fol ((3,.i 0)::(6,vl encI vals)::(kBV (vals.length:Int))) ?_
 refine Goes.block ?_
 obtain⟨r2,g2,h⟩:=bnd h
 refine Goes.imp (Q:=fun x s'=>(x= .exit 0∧(.inl ())=r2∧Sub s' (ofG 18 [(3,.i 0)],[]))∨(x= .ret∧ ∃q3,(.inr q3)=r2∧zy Tryz.prog [.tmp 2] (.i q3) .ret s')) ?_ ?_
 ·refine Goes.loopS (fun M s=> ∃(n1:Int),s=(ofG 18 ((3,.i 0)::(6,vl encI vals)::(kAH (vals.length:Int) n1 [])),[])∧vU vals M n1=some r2) ?_ (m:=N) ⟨_,rfl,g2⟩
  rintro M s ⟨n1,rfl,g2⟩
  cases M with
  |zero=>simp only[vU]at g2;cases g2
  |succ M=>
   rw[vU]at g2
   refine sh fol ((3,.i 0)::(6,vl encI vals)::(kAH (vals.length:Int) n1 [(9,.bool (decide (n1<(vals.length:Int))))])) ?_
   refine sq ?_
   refine ihD g2 (fun c4 g2=>?_) (fun c4 g2=>?_)
   ·refine Goes.skip ?_
    refine sq (Goes.block ?_)
    obtain⟨x5,e_x5,g2⟩:=bnd g2
    refine sq (gr fol [0,1] ((3,.i 0)::(5,.i x5)::(6,vl encI vals)::(kAH (vals.length:Int) n1 [])) (ac (iv qd0 encI e_x5) (ac (lv 0 ce3 encI e_x5 rfl) az)) ?_)
    refine sh fol ((3,.i 0)::(5,.i x5)::(6,vl encI vals)::(kAH (vals.length:Int) n1 [(14,.bool (!decide (x5=0)))])) ?_
    refine ihB g2 (fun c6 g2=>?_) (fun c6 g2=>?_)
    ·refine sh fol [(2,.i x5)] ?_
     refine Goes.ret ?_
     obtain rfl:=si g2
     exact Or.inr (⟨rfl,_,rfl,(gw2 [.i x5] (FzW.still tI))⟩)
    ·refine Goes.skip ?_
     refine gh fol ((3,.i 0)::(6,vl encI vals)::(kAH (vals.length:Int) (w64 (n1+1)) [])) ?_
     exact⟨M,(ofG 18 ((3,.i 0)::(6,vl encI vals)::(kAH (vals.length:Int) (w64 (n1+1)) [])),[]),Nat.lt_succ_self _,(Sub.refl _),_,rfl,g2⟩
   ·refine Goes.exit ?_
    obtain rfl:=si g2
    exact Or.inl (⟨rfl,rfl,(Sub.keep [3] rfl rfl)⟩)
 rintro x s' (⟨rfl,rfl,hsub⟩|⟨rfl,q7,rfl,hret⟩)
 ·try dsimp only at h
  refine Goes.sub hsub ?_
  refine sh fol [(2,.i 0)] ?_
  refine Goes.ret ?_
  obtain rfl:=si h
  exact(gw2 [.i 0] (FzW.still tI))
 ·try dsimp only at h
  obtain rfl:=si h
  exact hret
def cmp_isNaN_string (x_:Str):Option Bool:=
 some (!(x_==x_))
theorem qbm (x_:Str) {res:Bool} (h:cmp_isNaN_string x_=some res):qf Tryz.prog (.fn 205) [.str x_] [] (.bool res) []:=by
 unfold cmp_isNaN_string at h
 refine Goes.fnW Tryz.func205 rfl rfl (m:=6) rfl (rs:=[.tmp 2]) rfl (l:=(kAm x_ [])) rfl ?_
 refine sh fol (kAm x_ []) ?_
 refine sh fol [(2,.bool (!(x_==x_)))] ?_
 refine Goes.ret ?_
 obtain rfl:=si h
 exact(gw2 [.bool (!(x_==x_))] (FzW.still tB))
def vZ (x_:Str) (y:Str):Option Int:=
 (cmp_isNaN_string x_).bind fun r1=>
 (cmp_isNaN_string y).bind fun r2=>
 if r1=true then
 if r2=true then
 some 0
 else
 some (-1)
 else
 if r2=true then
 some 1
 else
 if(ltL x_ y)=true then
 some (-1)
 else
 if(!(ltL x_ y||x_==y))=true then
 some 1
 else
 some 0
theorem qde (x_:Str) (y:Str) {res:Int} (h:vZ x_ y=some res):qf Tryz.prog (.fn 178) [.str x_,.str y] [] (.i res) []:=by
 unfold vZ at h
 refine Goes.fnW Tryz.func178 rfl rfl (m:=20) rfl (rs:=[.tmp 4]) rfl (l:=(kAE x_ y [])) rfl ?_
 refine sh fol (kAE x_ y []) ?_
 obtain⟨r1,e_r1,h⟩:=bnd h
 refine sq (gr fol [1] (kAE x_ y [(5,.bool r1)]) (ac (cv (qbm x_ e_r1)) az) ?_)
 obtain⟨r2,e_r2,h⟩:=bnd h
 refine sq (gr fol [1] (kAE x_ y [(5,.bool r1),(6,.bool r2)]) (ac (cv (qbm y e_r2)) az) ?_)
 refine sq ?_
 refine sh fol (kAE x_ y [(6,.bool r2),(11,.bool r1)]) ?_
 refine ihB h (fun c3 h=>?_) (fun c3 h=>?_)
 ·refine sq ?_
  refine sh fol [(12,.bool r2)] ?_
  refine ihB h (fun c4 h=>?_) (fun c4 h=>?_)
  ·refine sh fol [(4,.i 0)] ?_
   refine Goes.ret ?_
   obtain rfl:=si h
   exact(gw2 [.i 0] (FzW.still tI))
  ·refine Goes.skip ?_
   refine sh fol [(4,.i (-1))] ?_
   refine Goes.ret ?_
   obtain rfl:=si h
   exact(gw2 [.i (-1)] (FzW.still tI))
 ·refine Goes.skip ?_
  refine sq ?_
  refine sh fol (kAE x_ y [(13,.bool r2)]) ?_
  refine ihB h (fun c5 h=>?_) (fun c5 h=>?_)
  ·refine sh fol [(4,.i 1)] ?_
   refine Goes.ret ?_
   obtain rfl:=si h
   exact(gw2 [.i 1] (FzW.still tI))
  ·refine Goes.skip ?_
   refine sq ?_
   refine sh fol (kAE x_ y [(16,.bool (ltL x_ y))]) ?_
   refine ihB h (fun c6 h=>?_) (fun c6 h=>?_)
   ·refine sh fol [(4,.i (-1))] ?_
    refine Goes.ret ?_
    obtain rfl:=si h
    exact(gw2 [.i (-1)] (FzW.still tI))
   ·refine Goes.skip ?_
    refine sq ?_
    refine sh fol [(19,.bool (!(ltL x_ y||x_==y)))] ?_
    refine ihB h (fun c7 h=>?_) (fun c7 h=>?_)
    ·refine sh fol [(4,.i 1)] ?_
     refine Goes.ret ?_
     obtain rfl:=si h
     exact(gw2 [.i 1] (FzW.still tI))
    ·refine Goes.skip ?_
     refine sh fol [(4,.i 0)] ?_
     refine Goes.ret ?_
     obtain rfl:=si h
     exact(gw2 [.i 0] (FzW.still tI))
def jo (N:Nat) (m:qB) (o:qB):Option Int:=
 (vZ m.Desk o.Desk).bind fun r1=>
 (cmp_Compare_int m.Number o.Number).bind fun r2=>
 (qbP N ([r1,r2]:List Int)).bind fun r3=>
 some r3
theorem y7 (N:Nat) (m:qB) (o:qB) {res:Int} (h:jo N m o=some res):qf Tryz.prog (.fn 131) [.agg [.str m.Desk,.i m.Number],.agg [.str o.Desk,.i o.Number]] [] (.i res) []:=by
 unfold jo at h
 refine Goes.fnW Tryz.func131 rfl rfl (m:=17) rfl (rs:=[.tmp 4]) rfl (l:=[(0,.agg [.str m.Desk,.i m.Number]),(1,.agg [.str o.Desk,.i o.Number])]) rfl ?_
 refine sg fol (kAj (kA8 [])) (kAI m.Desk m.Number (kAI o.Desk o.Number [])) ?_
 obtain⟨r1,e_r1,h⟩:=bnd h
 obtain⟨r2,e_r2,h⟩:=bnd h
 obtain⟨r3,e_r3,h⟩:=bnd h
 refine sq (gq fol [4,9,11] [(4,.i r3)] (kAI m.Desk m.Number (kAI o.Desk o.Number (kAC r1 r2))) (ac (cv (qde m.Desk o.Desk e_r1)) (ac (cv (qbH m.Number o.Number e_r2)) (ac (hs (.call 177 [.slice 2 0 2 2 1] (kAI m.Desk m.Number (kAI o.Desk o.Number (kAC r1 r2))) [2] [vl encI ([r1,r2]:List Int)] (.i r3)) (vI (FzL.cons (Fz.lit rfl rfl (FzL.still (AllST.cons tI (AllST.cons tI AllST.nil)))) FzL.nil) (qhp N ([r1,r2]:List Int) e_r3) tI rfl)) az))) ?_)
 refine Goes.ret ?_
 obtain rfl:=si h
 exact(gw2 [.i r3] (FzW.still tI))
def zF (n:Int) (low:Int) (high:Int):Option Int:=
 (if n<low then
 (qE true 3).bind fun r2=>
 some r2
 else
 (qE (decide (n>high)) 3).bind fun r3=>
 some r3:Option Int).bind fun n4=>
 some n4
theorem za (n:Int) (low:Int) (high:Int) {res:Int} (h:zF n low high=some res):qf Tryz.prog (.fn 87) [.i n,.i low,.i high] [] (.i res) []:=by
 unfold zF at h
 refine Goes.fnW Tryz.func87 rfl rfl (m:=16) rfl (rs:=[.tmp 6]) rfl (l:=((0,.i n)::(kBL low high []))) rfl ?_
 refine sh fol ((0,.i n)::(kBL low high [])) ?_
 refine sq ?_
 obtain⟨n4,g_v5,h⟩:=bnd h
 refine Goes.cut (s':=(ofG 16 (kBj n4),[])) ?_ ?_
 ·rcases wyD g_v5 with⟨c1,g_v5⟩|⟨c1,g_v5⟩
  ·obtain⟨r2,e_r2,g_v5⟩:=bnd g_v5
   obtain rfl:=si g_v5
   exact tr fol [3,8] (kBj r2) (ac (gw c1) (ac (cv (qz true 3 e_r2)) az))
  ·obtain⟨r3,e_r3,g_v5⟩:=bnd g_v5
   obtain rfl:=si g_v5
   exact tr fol [3,8] (kBj r3) (ac (gw c1) (ac (cv (qz (decide (n>high)) 3 e_r3)) az))
 refine Goes.ret ?_
 obtain rfl:=si h
 exact(gw2 [.i n4] (FzW.still tI))
def yB (c:Int):Option Bool:=
 (if c≥97 then
 if c≤122 then
 some true
 else
 if c≥65 then
 some (decide (c≤90))
 else
 some false
 else
 if c≥65 then
 some (decide (c≤90))
 else
 some false:Option Bool).bind fun b5=>
 some b5
theorem yg (c:Int) {res:Bool} (h:yB c=some res):qf Tryz.prog (.fn 183) [.int .i32 c] [] (.bool res) []:=by
 unfold yB at h
 refine Goes.fnW Tryz.func183 rfl rfl (m:=17) rfl (rs:=[.tmp 2]) rfl (l:=[(0,.int .i32 c)]) rfl ?_
 refine sh fol [(0,.int .i32 c)] ?_
 refine sq ?_
 obtain⟨b5,g_v6,h⟩:=bnd h
 refine Goes.cut (s':=(ofG 17 [(2,.bool b5)],[])) ?_ ?_
 ·rcases wyD g_v6 with⟨c1,g_v6⟩|⟨c1,g_v6⟩
  ·rcases wyD g_v6 with⟨c2,g_v6⟩|⟨c2,g_v6⟩
   ·obtain rfl:=si g_v6
    exact tr fol [2,6] [(2,.bool true)] (ac (gw c1) (ac (gw c2) az))
   ·rcases wyD g_v6 with⟨c3,g_v6⟩|⟨c3,g_v6⟩
    ·obtain rfl:=si g_v6
     exact tr fol [2,6,9] [(2,.bool (decide (c≤90)))] (ac (gw c1) (ac (gw c2) (ac (gw c3) az)))
    ·obtain rfl:=si g_v6
     exact tr fol [2,6,9] kBc (ac (gw c1) (ac (gw c2) (ac (gw c3) az)))
  ·rcases wyD g_v6 with⟨c4,g_v6⟩|⟨c4,g_v6⟩
   ·obtain rfl:=si g_v6
    exact tr fol [2,9] [(2,.bool (decide (c≤90)))] (ac (gw c1) (ac (gw c4) az))
   ·obtain rfl:=si g_v6
    exact tr fol [2,9] kBc (ac (gw c1) (ac (gw c4) az))
 refine Goes.ret ?_
 obtain rfl:=si h
 exact(gw2 [.bool b5] (FzW.still tB))
def vv (s_:Str):Nat→Nat→Option (Unit⊕Bool)
 |0,_=>none
 |K+1,k1=>
  if k1<s_.length then
  ((yB (yn s_ k1)).bind fun r5=>
  if(!r5)=true then
  if(k1:Int)=0 then
  some true
  else
  if(!decide ((yn s_ k1)=95))=true then
  if(yn s_ k1)<48 then
  some true
  else
  some (decide ((yn s_ k1)>57))
  else
  some false
  else
  some false:Option Bool).bind fun b10=>
  if b10=true then
  some (.inr false)
  else
  vv s_ K (k1+runeLen s_ k1)
  else
  some (.inl ())
def qag (N:Nat) (s_:Str):Option Bool:=
 (vv s_ N 0).bind (fun
 |(.inl ())=>
 (if(!(s_==[]))=true then
 some (decide ((s_.length:Int)≤24))
 else
 some false:Option Bool).bind fun b14=>
 some b14
 |(.inr q16)=>
 some q16)
theorem qfo (N:Nat) (s_:Str) {res:Bool} (h:qag N s_=some res):qf Tryz.prog (.fn 146) [.str s_] [] (.bool res) []:=by
 unfold qag at h
 refine Goes.fnW Tryz.func146 rfl rfl (m:=37) rfl (rs:=[.tmp 2]) rfl (l:=(kAm s_ [])) rfl ?_
 refine sh fol (kAm s_ []) ?_
 refine sq ?_
 refine sg fol (kAm s_ (kBl [])) [.iter s_ 0] ?_
 refine Goes.block ?_
 obtain⟨r2,g2,h⟩:=bnd h
 refine Goes.imp (Q:=fun x s'=>(x= .exit 0∧(.inl ())=r2∧Sub s' (ofG 37 (kAm s_ []),[]))∨(x= .ret∧ ∃q3,(.inr q3)=r2∧zy Tryz.prog [.tmp 2] (.bool q3) .ret s')) ?_ ?_
 ·refine Goes.sub (s':=(ofG 37 (kAm s_ (kBl [])),[.iter s_ 0])) (Sub.keep [0,6] rfl rfl) ?_
  refine Goes.loopS (fun M s=> ∃(k1:Nat),s=(ofG 37 (kAm s_ (kBl [])),[.iter s_ k1])∧vv s_ M k1=some r2) ?_ (m:=N) ⟨_,rfl,g2⟩
  rintro M s ⟨k1,rfl,g2⟩
  cases M with
  |zero=>simp only[vv]at g2;cases g2
  |succ M=>
   rw[vv]at g2
   refine sq ?_
   rcases Classical.em (k1<s_.length)with c4|c4
   ·rw[if_pos c4]at g2
    refine gq fol [0] (kAm s_ (kBl [(7,.tuple [.bool true,.i (k1:Int),.int .i32 (yn s_ k1)]),(8,.bool true)])) [.iter s_ (k1+runeLen s_ k1)] (ac (hs (.run [0] (qdp (.ptr 0 0) true) [.iter s_ k1] (.tuple [.bool true,.i (k1:Int),.int .i32 (yn s_ k1)]) [.iter s_ (k1+runeLen s_ k1)] true) (qh0 rfl c4 rfl)) az) ?_
    refine sq ?_
    refine Goes.ifB (b:=true) (by kernel_rfl) (fun _=>?_) (fun c=>(by cases c))
    refine Goes.skip ?_
    refine Goes.block ?_
    refine sh fol (kAm s_ ((3,.i (k1:Int))::(4,.int .i32 (yn s_ k1))::(kBl []))) ?_
    refine sq ?_
    obtain⟨b10,g_v11,g2⟩:=bnd g2
    refine Goes.cut (s':=(ofG 37 (kAm s_ (kBl [(29,.bool b10)])),[.iter s_ (k1+runeLen s_ k1)])) ?_ ?_
    ·obtain⟨r5,e_r5,g_v11⟩:=bnd g_v11
     rcases wyB g_v11 with⟨c6,g_v11⟩|⟨c6,g_v11⟩
     ·rcases wyD g_v11 with⟨c7,g_v11⟩|⟨c7,g_v11⟩
      ·obtain rfl:=si g_v11
       exact tr fol [1,3,6] (kAm s_ (kBl [(29,.bool true)])) (ac (cv (yg (yn s_ k1) e_r5)) (ac (gw c6) (ac (gw c7) az)))
      ·rcases wyB g_v11 with⟨c8,g_v11⟩|⟨c8,g_v11⟩
       ·rcases wyD g_v11 with⟨c9,g_v11⟩|⟨c9,g_v11⟩
        ·obtain rfl:=si g_v11
         exact tr fol [1,3,6,9,12] (kAm s_ (kBl [(29,.bool true)])) (ac (cv (yg (yn s_ k1) e_r5)) (ac (gw c6) (ac (gw c7) (ac (gw c8) (ac (gw c9) az)))))
        ·obtain rfl:=si g_v11
         exact tr fol [1,3,6,9,12] (kAm s_ (kBl [(29,.bool (decide ((yn s_ k1)>57)))])) (ac (cv (yg (yn s_ k1) e_r5)) (ac (gw c6) (ac (gw c7) (ac (gw c8) (ac (gw c9) az)))))
       ·obtain rfl:=si g_v11
        exact tr fol [1,3,6,9] (kAm s_ (kBl [(29,.bool false)])) (ac (cv (yg (yn s_ k1) e_r5)) (ac (gw c6) (ac (gw c7) (ac (gw c8) az))))
     ·obtain rfl:=si g_v11
      exact tr fol [1,3] (kAm s_ (kBl [(29,.bool false)])) (ac (cv (yg (yn s_ k1) e_r5)) (ac (gw c6) az))
    refine ihB g2 (fun c12 g2=>?_) (fun c12 g2=>?_)
    ·refine sh fol kBc ?_
     refine Goes.ret ?_
     obtain rfl:=si g2
     exact Or.inr (⟨rfl,_,rfl,(gw2 [.bool false] (FzW.still tB))⟩)
    ·refine Goes.skip ?_
     exact⟨M,(ofG 37 (kAm s_ (kBl [])),[.iter s_ (k1+runeLen s_ k1)]),Nat.lt_succ_self _,(Sub.keep [0,6] rfl rfl),_,rfl,g2⟩
   ·rw[if_neg c4]at g2
    refine gr fol [0] (kAm s_ (kBl [(7,.tuple [.bool false]),(8,.bool false)])) (ac (hs (.run [0] (qdp (.ptr 0 0) true) [.iter s_ k1] (.tuple [.bool false]) [.iter s_ k1] false) (qhP rfl c4)) az) ?_
    refine sq ?_
    refine Goes.ifB (b:=false) (by kernel_rfl) (fun c=>(by cases c)) (fun _=>?_)
    refine Goes.exit ?_
    obtain rfl:=si g2
    exact Or.inl (⟨rfl,rfl,(Sub.norm [] [] rfl rfl (.keep (.same nS) .nil) .nil)⟩)
 rintro x s' (⟨rfl,rfl,hsub⟩|⟨rfl,q16,rfl,hret⟩)
 ·try dsimp only at h
  refine Goes.sub hsub ?_
  refine sq ?_
  obtain⟨b14,g_v15,h⟩:=bnd h
  refine Goes.cut (s':=(ofG 37 [(2,.bool b14)],[])) ?_ ?_
  ·rcases wyB g_v15 with⟨c13,g_v15⟩|⟨c13,g_v15⟩
   ·obtain rfl:=si g_v15
    exact tr fol [2] [(2,.bool (decide ((s_.length:Int)≤24)))] (ac (gw c13) az)
   ·obtain rfl:=si g_v15
    exact tr fol [2] kBc (ac (gw c13) az)
  refine Goes.ret ?_
  obtain rfl:=si h
  exact(gw2 [.bool b14] (FzW.still tB))
 ·try dsimp only at h
  obtain rfl:=si h
  exact hret
def yE (N:Nat) (s_:Str):Option Int:=
 (qag N s_).bind fun r1=>
 (qE (!r1) 8).bind fun r2=>
 some r2
theorem xu (N:Nat) (s_:Str) {res:Int} (h:yE N s_=some res):qf Tryz.prog (.fn 89) [.str s_] [] (.i res) []:=by
 unfold yE at h
 refine Goes.fnW Tryz.func89 rfl rfl (m:=7) rfl (rs:=[.tmp 2]) rfl (l:=(kAm s_ [])) rfl ?_
 refine sh fol (kAm s_ []) ?_
 obtain⟨r1,e_r1,h⟩:=bnd h
 obtain⟨r2,e_r2,h⟩:=bnd h
 refine sq (gr fol [1,3] [(2,.i r2)] (ac (cv (qfo N s_ e_r1)) (ac (cv (qz (!r1) 8 e_r2)) az)) ?_)
 refine Goes.ret ?_
 obtain rfl:=si h
 exact(gw2 [.i r2] (FzW.still tI))
def jS (a0_:qc) (a1_:Str):Option Bool:=
 some (!(ltL a0_.Name a1_))
theorem qbd (a0_:qc) (a1_:Str) {res:Bool} (h:jS a0_ a1_=some res):qf Tryz.prog (.fn 149) [.agg (cS a0_),.fptr [.str a1_] 0] [] (.bool res) []:=by
 unfold jS at h
 refine Goes.fnW Tryz.func149 rfl rfl (m:=8) rfl (rs:=[.tmp 3]) rfl (l:=[(0,.agg (cS a0_)),(1,.fptr [.str a1_] 0)]) rfl ?_
 refine sg fol ((1,.fptr [.str a1_] 0)::(kAj [])) [.cells (cS a0_)] ?_
 refine sh fol [(3,.bool (!(ltL a0_.Name a1_)))] ?_
 refine Goes.ret ?_
 obtain rfl:=si h
 exact(gw2 [.bool (!(ltL a0_.Name a1_))] (FzW.still tB))
def qX (a0_:List qc) (a1_:Str):Nat→Int→Option (Unit⊕Int)
 |0,_=>none
 |K+1,n1=>
  if n1<(a0_.length:Int)then
  (idx a0_ n1).bind fun x5=>
  (jS x5 a1_).bind fun r6=>
  if r6=true then
  some (.inr n1)
  else
  qX a0_ a1_ K (w64 (n1+1))
  else
  some (.inl ())
def jZ (N:Nat) (a0_:List qc) (a1_:Str):Option Int:=
 (qX a0_ a1_ N 0).bind (fun
 |(.inl ())=>
 some (-1)
 |(.inr q8)=>
 some q8)
theorem qbh (N:Nat) (a0_:List qc) (a1_:Str) {res:Int} (h:jZ N a0_ a1_=some res):qf Tryz.prog (.fn 148) [vl qh a0_,.func (.func 149) [] [.fptr [.str a1_] 0]] [] (.i res) []:=by
 unfold jZ at h
 refine Goes.fnW Tryz.func148 rfl rfl (m:=19) rfl (rs:=[.tmp 4]) rfl (l:=[(0,vl qh a0_),(1,.func (.func 149) [] [.fptr [.str a1_] 0])]) rfl ?_
 refine sh fol [(0,vl qh a0_),(1,.func (.func 149) [] [.fptr [.str a1_] 0])] ?_
 refine sq ?_
 refine sh fol ((0,vl qh a0_)::(1,.func (.func 149) [] [.fptr [.str a1_] 0])::(kBV (a0_.length:Int))) ?_
 refine Goes.block ?_
 obtain⟨r2,g2,h⟩:=bnd h
 refine Goes.imp (Q:=fun x s'=>(x= .exit 0∧(.inl ())=r2∧Sub s' (ofG 19 [],[]))∨(x= .ret∧ ∃q3,(.inr q3)=r2∧zy Tryz.prog [.tmp 4] (.i q3) .ret s')) ?_ ?_
 ·refine Goes.loopS (fun M s=> ∃(n1:Int),s=(ofG 19 ((0,vl qh a0_)::(1,.func (.func 149) [] [.fptr [.str a1_] 0])::(kAH (a0_.length:Int) n1 [])),[])∧qX a0_ a1_ M n1=some r2) ?_ (m:=N) ⟨_,rfl,g2⟩
  rintro M s ⟨n1,rfl,g2⟩
  cases M with
  |zero=>simp only[qX]at g2;cases g2
  |succ M=>
   rw[qX]at g2
   refine sh fol ((0,vl qh a0_)::(1,.func (.func 149) [] [.fptr [.str a1_] 0])::(kAH (a0_.length:Int) n1 [(9,.bool (decide (n1<(a0_.length:Int))))])) ?_
   refine sq ?_
   refine ihD g2 (fun c4 g2=>?_) (fun c4 g2=>?_)
   ·refine Goes.skip ?_
    refine sq (Goes.block ?_)
    refine sh fol ((0,vl qh a0_)::(1,.func (.func 149) [] [.fptr [.str a1_] 0])::(5,.i n1)::(kAH (a0_.length:Int) n1 [])) ?_
    obtain⟨x5,e_x5,g2⟩:=bnd g2
    obtain⟨r6,e_r6,g2⟩:=bnd g2
    refine sq (gr fol [3,4,5] ((0,vl qh a0_)::(1,.func (.func 149) [] [.fptr [.str a1_] 0])::(5,.i n1)::(kAH (a0_.length:Int) n1 [(16,.bool r6)])) (ac (iv qcd qh e_x5) (ac (la ag68 qh e_x5) (ac (hs (.call 149 [.agg (cS x5),.fptr [.str a1_] 0] [] [] [.agg (cS x5),.fptr [.str a1_] 0] (.bool r6)) (qmy (FzL.cons (Fz.still (Still.agg (AllST.cons tS (AllST.cons tS (AllST.cons tI (AllST.cons tI (AllST.cons tI (AllST.cons tI (AllST.cons tI (AllST.cons tI (AllST.cons tB AllST.nil))))))))))) (FzL.cons (Fz.still (Still.fptr (AllST.cons tS AllST.nil))) FzL.nil)) (qbd x5 a1_ e_r6) tB)) az))) ?_)
    refine ihB g2 (fun c7 g2=>?_) (fun c7 g2=>?_)
    ·refine sh fol [(4,.i n1)] ?_
     refine Goes.ret ?_
     obtain rfl:=si g2
     exact Or.inr (⟨rfl,_,rfl,(gw2 [.i n1] (FzW.still tI))⟩)
    ·refine Goes.skip ?_
     refine gh fol ((0,vl qh a0_)::(1,.func (.func 149) [] [.fptr [.str a1_] 0])::(kAH (a0_.length:Int) (w64 (n1+1)) [])) ?_
     exact⟨M,(ofG 19 ((0,vl qh a0_)::(1,.func (.func 149) [] [.fptr [.str a1_] 0])::(kAH (a0_.length:Int) (w64 (n1+1)) [])),[]),Nat.lt_succ_self _,(Sub.refl _),_,rfl,g2⟩
   ·refine Goes.exit ?_
    obtain rfl:=si g2
    exact Or.inl (⟨rfl,rfl,(Sub.keep [] rfl rfl)⟩)
 rintro x s' (⟨rfl,rfl,hsub⟩|⟨rfl,q8,rfl,hret⟩)
 ·try dsimp only at h
  refine Goes.sub hsub ?_
  refine sh fol [(4,.i (-1))] ?_
  refine Goes.ret ?_
  obtain rfl:=si h
  exact(gw2 [.i (-1)] (FzW.still tI))
 ·try dsimp only at h
  obtain rfl:=si h
  exact hret
def jN (N:Nat) (r:yS) (name:Str):Option (Int×Bool):=
 (jZ N r.Slings name).bind fun r1=>
 if r1<0 then
 some ((r.Slings.length:Int),false)
 else
 (idx r.Slings r1).bind fun x3=>
 some (r1,x3.Name==name)
theorem qax (N:Nat) (r:yS) (name:Str) {res:Int×Bool} (h:jN N r name=some res):qf Tryz.prog (.fn 93) (kA5 r.Day r.Slings [.str name]) [] (.tuple [.i res.1,.bool res.2]) []:=by
 unfold jN at h
 refine Goes.fnW Tryz.func93 rfl rfl (m:=25) rfl (rs:=[.tmp 4,.tmp 5]) rfl (l:=[(0,.agg [.i r.Day,vl qh r.Slings]),(1,.str name)]) rfl ?_
 refine sg fol (kAj (kA8 [])) (kAD r.Day r.Slings [.cells [.str name]]) ?_
 obtain⟨r1,e_r1,h⟩:=bnd h
 refine sq (gr fol [3] (kAj (kA8 (kBj r1))) (ac (hs (.call 148 [vl qh r.Slings,.func (.func 149) [] [.ptr 1 0]] (kAD r.Day r.Slings [.cells [.str name]]) [1] [vl qh r.Slings,.func (.func 149) [] [.fptr [.str name] 0]] (.i r1)) (vI (FzL.cons (Fz.still (jV qh _ (nl rfl))) (FzL.cons (Fz.func FzL.nil (FzL.cons (Fz.ptr rfl rfl (FzL.cons (Fz.still tS) FzL.nil)) FzL.nil)) FzL.nil)) (qbh N r.Slings name e_r1) tI rfl)) az) ?_)
 refine sq ?_
 refine sh fol (kAj (kA8 [(6,.i r1),(12,.bool (decide (r1<0)))])) ?_
 refine ihD h (fun c2 h=>?_) (fun c2 h=>?_)
 ·refine sh fol [(4,.i (r.Slings.length:Int)),(5,.bool false)] ?_
  refine Goes.ret ?_
  obtain rfl:=si h
  exact(gw2 [.i (r.Slings.length:Int),.bool false] (FzW.tuple (qw.cons (FzW.still tI) (qw.cons (FzW.still tB) qw.nil))))
 ·refine Goes.skip ?_
  obtain⟨x3,e_x3,h⟩:=bnd h
  refine sq (gr fol [4,6] [(4,.i r1),(5,.bool (x3.Name==name))] (ac (iv qcd qh e_x3) (ac (lv 0 ce9 qh e_x3 rfl) az)) ?_)
  refine Goes.ret ?_
  obtain rfl:=si h
  exact(gw2 [.i r1,.bool (x3.Name==name)] (FzW.tuple (qw.cons (FzW.still tI) (qw.cons (FzW.still tB) qw.nil))))
def yA (n:Int):Option Int:=
 (zF n 0 99999).bind fun r1=>
 some r1
theorem qbM (n:Int) {res:Int} (h:yA n=some res):qf Tryz.prog (.fn 94) [.i n] [] (.i res) []:=by
 unfold yA at h
 refine Goes.fnW Tryz.func94 rfl rfl (m:=5) rfl (rs:=[.tmp 2]) rfl (l:=[(0,.i n)]) rfl ?_
 refine sh fol [(0,.i n)] ?_
 obtain⟨r1,e_r1,h⟩:=bnd h
 refine sq (gr fol [1] [(2,.i r1)] (ac (cv (za n 0 99999 e_r1)) az) ?_)
 refine Goes.ret ?_
 obtain rfl:=si h
 exact(gw2 [.i r1] (FzW.still tI))
def jL (s_:qc) (day:Int):Option Bool:=
 (if s_.Gone=true then
 some true
 else
 if day>s_.Last then
 some true
 else
 some (decide (s_.Used=s_.Uses)):Option Bool).bind fun b3=>
 some b3
theorem qaz (s_:qc) (day:Int) {res:Bool} (h:jL s_ day=some res):qf Tryz.prog (.fn 95) [.agg (cS s_),.i day] [] (.bool res) []:=by
 unfold jL at h
 refine Goes.fnW Tryz.func95 rfl rfl (m:=20) rfl (rs:=[.tmp 4]) rfl (l:=[(0,.agg (cS s_)),(1,.i day)]) rfl ?_
 refine sg fol ((1,.i day)::(kAj [])) [.cells (cS s_)] ?_
 refine sq ?_
 obtain⟨b3,g_v4,h⟩:=bnd h
 refine Goes.cut (s':=(ofG 20 [(4,.bool b3)],[.cells (cS s_)])) ?_ ?_
 ·rcases wyB g_v4 with⟨c1,g_v4⟩|⟨c1,g_v4⟩
  ·obtain rfl:=si g_v4
   exact tr fol [2] kAt (ac (gw c1) az)
  ·rcases wyD g_v4 with⟨c2,g_v4⟩|⟨c2,g_v4⟩
   ·obtain rfl:=si g_v4
    exact tr fol [2,8] kAt (ac (gw c1) (ac (gw c2) az))
   ·obtain rfl:=si g_v4
    exact tr fol [2,8] [(4,.bool (decide (s_.Used=s_.Uses)))] (ac (gw c1) (ac (gw c2) az))
 refine Goes.ret ?_
 obtain rfl:=si h
 exact(gw2 [.bool b3] (FzW.still tB))
def ym (s_:qc) (day:Int):Option Bool:=
 (if s_.Limit>0 then
 some (decide (day≤s_.Until))
 else
 some false:Option Bool).bind fun b2=>
 some b2
theorem qda (s_:qc) (day:Int) {res:Bool} (h:ym s_ day=some res):qf Tryz.prog (.fn 96) [.agg (cS s_),.i day] [] (.bool res) []:=by
 unfold ym at h
 refine Goes.fnW Tryz.func96 rfl rfl (m:=14) rfl (rs:=[.tmp 4]) rfl (l:=[(0,.agg (cS s_)),(1,.i day)]) rfl ?_
 refine sg fol ((1,.i day)::(kAj [])) [.cells (cS s_)] ?_
 refine sq ?_
 obtain⟨b2,g_v3,h⟩:=bnd h
 refine Goes.cut (s':=(ofG 14 [(4,.bool b2)],[.cells (cS s_)])) ?_ ?_
 ·rcases wyD g_v3 with⟨c1,g_v3⟩|⟨c1,g_v3⟩
  ·obtain rfl:=si g_v3
   exact tr fol [3] [(4,.bool (decide (day≤s_.Until)))] (ac (gw c1) az)
  ·obtain rfl:=si g_v3
   exact tr fol [3] kAf (ac (gw c1) az)
 refine Goes.ret ?_
 obtain rfl:=si h
 exact(gw2 [.bool b2] (FzW.still tB))
def zY:Option Unit:=
 some ()
theorem qH {res:Unit} (h:zY=some res):qf Tryz.prog (.fn 85) [] [] (fm1) []:=by
 unfold zY at h
 refine Goes.fnW Tryz.func85 rfl rfl (m:=9) rfl (rs:=[.tmp 0]) rfl (l:=[]) rfl ?_
 refine sh fol [] ?_
 refine sg fol [(0,.map 0)] [.map kAs (.agg [.i 2,.i 3,.func (.func 141) [] []]:: .agg [.i 1,.i 2,.func (.func 142) [] []]:: .agg [.i 1,.i 2,.func (.func 143) [] []]:: .agg [.i 1,.i 1,.func (.func 144) [] []]:: .agg [.i 1,.i 1,.func (.func 145) [] []]::(kBO []))] ?_
 refine Goes.ret ?_
 obtain rfl:=si h
 exact(gw2 [.map 0] (FzW.of (by kernel_rfl)))
def stringslite_IndexByte (s_:Str) (c:Int):Option Int:=
 (qig s_ c).bind fun r1=>
 some r1
theorem qb7 (s_:Str) (c:Int) {res:Int} (h:stringslite_IndexByte s_ c=some res):qf Tryz.prog (.fn 173) [.str s_,.int .u8 c] [] (.i res) []:=by
 unfold stringslite_IndexByte at h
 refine Goes.fnW Tryz.func173 rfl rfl (m:=8) rfl (rs:=[.tmp 4]) rfl (l:=(kAm s_ [(1,.int .u8 c)])) rfl ?_
 refine sh fol (kAm s_ [(1,.int .u8 c)]) ?_
 obtain⟨r1,e_r1,h⟩:=bnd h
 refine sq (gr fol [2] [(4,.i r1)] (ac (cv (ql7 s_ c e_r1)) az) ?_)
 refine Goes.ret ?_
 obtain rfl:=si h
 exact(gw2 [.i r1] (FzW.still tI))
def bytealg_Cutover (n:Int):Option Int:=
 some (w64 ((w64 (n+16)).tdiv 8))
def stringslite_Index (s_:Str) (substr:Str):Option Int:=
 (if(substr.length:Int)=0 then
 some true
 else
 some (substr==s_):Option Bool).bind fun b2=>
 if b2=true then
 some 0
 else
 if(substr.length:Int)=1 then
 (idx substr 0).bind fun c6=>
 (stringslite_IndexByte s_ (c6.toNat:Int)).bind fun r7=>
 some r7
 else
 if(substr.length:Int)≥(s_.length:Int)then
 some (-1)
 else
 none
theorem qdz (s_:Str) (substr:Str) {res:Int} (h:stringslite_Index s_ substr=some res):qf Tryz.prog (.fn 130) [.str s_,.str substr] [] (.i res) []:=by
 unfold stringslite_Index at h
 refine Goes.fnW Tryz.func130 rfl rfl (m:=143) rfl (rs:=[.tmp 4]) rfl (l:=(kAE s_ substr [])) rfl ?_
 refine sh fol (kAE s_ substr []) ?_
 refine sh fol (kAE s_ substr (kA4 (substr.length:Int))) ?_
 refine sq (Goes.block ?_)
 refine sq ?_
 obtain⟨b2,g_v3,h⟩:=bnd h
 refine Goes.cut (s':=(ofG 143 (kAE s_ substr [(5,.i (substr.length:Int)),(16,.bool b2)]),[])) ?_ ?_
 ·rcases wyD g_v3 with⟨c1,g_v3⟩|⟨c1,g_v3⟩
  ·obtain rfl:=si g_v3
   exact tr fol [2] (kAE s_ substr [(5,.i (substr.length:Int)),(16,.bool true)]) (ac (gw c1) az)
  ·obtain rfl:=si g_v3
   exact tr fol [2] (kAE s_ substr [(5,.i (substr.length:Int)),(16,.bool (substr==s_))]) (ac (gw c1) az)
 refine ihB h (fun c4 h=>?_) (fun c4 h=>?_)
 ·refine sh fol [(4,.i 0)] ?_
  refine Goes.ret ?_
  obtain rfl:=si h
  exact(gw2 [.i 0] (FzW.still tI))
 ·refine sh fol (kAE s_ substr [(5,.i (substr.length:Int)),(24,.bool (decide ((substr.length:Int)=1)))]) ?_
  refine ihD h (fun c5 h=>?_) (fun c5 h=>?_)
  ·obtain⟨c6,e_c6,h⟩:=bnd h
   obtain⟨r7,e_r7,h⟩:=bnd h
   refine sq (gr fol [2,3] [(4,.i r7)] (ac (hs (.done (.opt (xN Tryz.prog 9 (.str substr) (.i 0))) (.int .u8 (c6.toNat:Int))) (qbO st9 e_c6)) (ac (cv (qb7 s_ (c6.toNat:Int) e_r7)) az)) ?_)
   refine Goes.ret ?_
   obtain rfl:=si h
   exact(gw2 [.i r7] (FzW.still tI))
  ·refine sh fol (kAE s_ substr [(5,.i (substr.length:Int)),(31,.bool (decide ((substr.length:Int)≥(s_.length:Int))))]) ?_
   refine ihD h (fun c8 h=>?_) (fun c8 h=>?_)
   ·refine sh fol [(4,.i (-1))] ?_
    refine Goes.ret ?_
    obtain rfl:=si h
    exact(gw2 [.i (-1)] (FzW.still tI))
   ·cases h
def strings_Index (s_:Str) (substr:Str):Option Int:=
 (stringslite_Index s_ substr).bind fun r1=>
 some r1
theorem qcp (s_:Str) (substr:Str) {res:Int} (h:strings_Index s_ substr=some res):qf Tryz.prog (.fn 67) [.str s_,.str substr] [] (.i res) []:=by
 unfold strings_Index at h
 refine Goes.fnW Tryz.func67 rfl rfl (m:=8) rfl (rs:=[.tmp 4]) rfl (l:=(kAE s_ substr [])) rfl ?_
 refine sh fol (kAE s_ substr []) ?_
 obtain⟨r1,e_r1,h⟩:=bnd h
 refine sq (gr fol [2] [(4,.i r1)] (ac (cv (qdz s_ substr e_r1)) az) ?_)
 refine Goes.ret ?_
 obtain rfl:=si h
 exact(gw2 [.i r1] (FzW.still tI))
def jm (s_:Str):Nat→Nat→Int→Option Int
 |0,_,_=>none
 |K+1,k1,n2=>
  if k1<s_.length then
  jm s_ K (k1+runeLen s_ k1) (w64 (n2+1))
  else
  some n2
def utf8_RuneCountInString (N:Nat) (s_:Str):Option Int:=
 (jm s_ N 0 0).bind fun n3=>
 some n3
theorem qaa (N:Nat) (s_:Str) {res:Int} (h:utf8_RuneCountInString N s_=some res):qf Tryz.prog (.fn 229) [.str s_] [] (.i res) []:=by
 unfold utf8_RuneCountInString at h
 refine Goes.fnW Tryz.func229 rfl rfl (m:=10) rfl (rs:=[.tmp 2]) rfl (l:=(kAm s_ [])) rfl ?_
 refine sh fol (kAm s_ [(2,.i 0)]) ?_
 refine sq ?_
 refine sg fol ((2,.i 0)::(kBX [])) [.iter s_ 0] ?_
 refine Goes.block ?_
 obtain⟨r4,g4,h⟩:=bnd h
 refine Goes.imp (Q:=fun x s'=>(x= .exit 0∧ ∃n3,n3=r4∧Sub s' (ofG 10 [(2,.i n3)],[]))) ?_ ?_
 ·refine Goes.sub (s':=(ofG 10 ((2,.i 0)::(kBX [])),[.iter s_ 0])) (Sub.keep [2,4] rfl rfl) ?_
  refine Goes.loopS (fun M s=> ∃(k1:Nat) (n2:Int),s=(ofG 10 ((2,.i n2)::(kBX [])),[.iter s_ k1])∧jm s_ M k1 n2=some r4) ?_ (m:=N) ⟨_,_,rfl,g4⟩
  rintro M s ⟨k1,n2,rfl,g4⟩
  cases M with
  |zero=>simp only[jm]at g4;cases g4
  |succ M=>
   rw[jm]at g4
   refine sq ?_
   rcases Classical.em (k1<s_.length)with c5|c5
   ·rw[if_pos c5]at g4
    refine gq fol [0] ((2,.i n2)::(kBX [(6,.bool true)])) [.iter s_ (k1+runeLen s_ k1)] (ac (hs (.run [0] (qdp (.ptr 0 0) true) [.iter s_ k1] (.tuple [.bool true,.i (k1:Int),.int .i32 (yn s_ k1)]) [.iter s_ (k1+runeLen s_ k1)] true) (qh0 rfl c5 rfl)) az) ?_
    refine sq ?_
    refine Goes.ifB (b:=true) (by kernel_rfl) (fun _=>?_) (fun c=>(by cases c))
    refine Goes.skip ?_
    refine Goes.block ?_
    refine gh fol ((2,.i (w64 (n2+1)))::(kBX [])) ?_
    exact⟨M,(ofG 10 ((2,.i (w64 (n2+1)))::(kBX [])),[.iter s_ (k1+runeLen s_ k1)]),Nat.lt_succ_self _,(Sub.keep [2,4] rfl rfl),_,_,rfl,g4⟩
   ·rw[if_neg c5]at g4
    refine gr fol [0] ((2,.i n2)::(kBX [(6,.bool false)])) (ac (hs (.run [0] (qdp (.ptr 0 0) true) [.iter s_ k1] (.tuple [.bool false]) [.iter s_ k1] false) (qhP rfl c5)) az) ?_
    refine sq ?_
    refine Goes.ifB (b:=false) (by kernel_rfl) (fun c=>(by cases c)) (fun _=>?_)
    refine Goes.exit ?_
    obtain rfl:=si g4
    exact⟨rfl,_,rfl,(Sub.norm [] [] rfl rfl (.keep (.same nI) .nil) .nil)⟩
 rintro x s' ⟨rfl,n3,rfl,hsub⟩
 refine Goes.sub hsub ?_
 refine sh fol [(2,.i n3)] ?_
 refine Goes.ret ?_
 obtain rfl:=si h
 exact(gw2 [.i n3] (FzW.still tI))
def y9 (n5:Int):Nat→Option Unit
 |0=>none
 |K+1=>
  if 0<(w64 (n5-1))then
  none
  else
  some ()
def qbl (N:Nat) (s_:Str) (n:Int):Option (List Str):=
 (utf8_RuneCountInString N s_).bind fun r1=>
 (if n<0 then
 some true
 else
 some (decide (n>r1)):Option Bool).bind fun b3=>
 ((if b3=true then
 some r1
 else
 some n:Option Int)).bind fun n5=>
 (mk 16 n5 []).bind fun l8=>
 (y9 n5 N).bind fun _=>
 ((if n5>0 then
 (idx l8 (w64 (n5-1))).bind fun x14=>
 (put l8 (w64 (n5-1)) s_).bind fun l15=>
 some l15
 else
 some l8:Option (List Str))).bind fun l11=>
 some l11
theorem qel (N:Nat) (s_:Str) (n:Int) {res:List Str} (h:qbl N s_ n=some res):qf Tryz.prog (.fn 191) [.str s_,.i n] [] (vl encS res) []:=by
 unfold qbl at h
 refine Goes.fnW Tryz.func191 rfl rfl (m:=50) rfl (rs:=[.tmp 4]) rfl (l:=(kAm s_ [(1,.i n)])) rfl ?_
 refine sh fol (kAm s_ [(1,.i n)]) ?_
 obtain⟨r1,e_r1,h⟩:=bnd h
 refine sq (gr fol [1] (kAm s_ ((1,.i n)::(kA4 r1))) (ac (cv (qaa N s_ e_r1)) az) ?_)
 refine sq ?_
 refine sq ?_
 obtain⟨b3,g_v4,h⟩:=bnd h
 refine Goes.cut (s':=(ofG 50 (kAm s_ [(1,.i n),(5,.i r1),(18,.bool b3)]),[])) ?_ ?_
 ·rcases wyD g_v4 with⟨c2,g_v4⟩|⟨c2,g_v4⟩
  ·obtain rfl:=si g_v4
   exact tr fol [2] (kAm s_ [(1,.i n),(5,.i r1),(18,.bool true)]) (ac (gw c2) az)
  ·obtain rfl:=si g_v4
   exact tr fol [2] (kAm s_ [(1,.i n),(5,.i r1),(18,.bool (decide (n>r1)))]) (ac (gw c2) az)
 obtain⟨r6,g6,h⟩:=bnd h
 refine Goes.imp (Q:=fun x s'=>(x= .normal∧ ∃n5,n5=r6∧Sub s' (ofG 50 (kAm s_ [(1,.i n5)]),[]))) ?_ ?_
 ·refine ihB g6 (fun c7 g6=>?_) (fun c7 g6=>?_)
  ·refine gh fol (kAm s_ [(1,.i r1)]) ?_
   obtain rfl:=si g6
   exact⟨rfl,_,rfl,(Sub.refl _)⟩
  ·refine Goes.skip ?_
   obtain rfl:=si g6
   exact⟨rfl,_,rfl,(Sub.keep [0,1] rfl rfl)⟩
 rintro x s' ⟨rfl,n5,rfl,hsub⟩
 refine Goes.sub hsub ?_
 obtain⟨l8,e_l8,h⟩:=bnd h
 refine sq (gq fol [1] (kAm s_ ((1,.i n5)::(kAe l8 []))) (kQ l8 []) (ac (hs (.run [] (xV Tryz.prog 23 (.i n5) (.i n5)) [] (.slice 0 0 l8.length l8.length 1) (kQ l8 []) false) (qjQ xU (E:=encS) (z:=[]) rfl (by kernel_rfl) e_l8 rfl)) az) ?_)
 refine sq ?_
 refine sh fol (kAm s_ ((1,.i n5)::(kAe l8 [(7,.i 0)]))) ?_
 refine Goes.block ?_
 obtain⟨r9,g9,h⟩:=bnd h
 refine Goes.imp (Q:=fun x s'=>(x= .exit 0∧()=r9∧Sub s' (ofG 50 (kAm s_ ((1,.i n5)::(kAe l8 []))),(kQ l8 [])))) ?_ ?_
 ·refine Goes.loopS (fun M s=>s=(ofG 50 (kAm s_ ((1,.i n5)::(kAe l8 [(7,.i 0)]))),(kQ l8 []))∧y9 n5 M=some r9) ?_ (m:=N) ⟨rfl,g9⟩
  rintro M s ⟨rfl,g9⟩
  cases M with
  |zero=>simp only[y9]at g9;cases g9
  |succ M=>
   rw[y9]at g9
   refine sq ?_
   refine sh fol (kAm s_ ((1,.i n5)::(kAe l8 [(7,.i 0),(25,.bool (decide (0<(w64 (n5-1)))))]))) ?_
   refine ihD g9 (fun c10 g9=>?_) (fun c10 g9=>?_)
   ·cases g9
   ·refine Goes.exit ?_
    obtain rfl:=si g9
    exact⟨rfl,rfl,(Sub.keep [0,1,6] rfl rfl)⟩
 rintro x s' ⟨rfl,rfl,hsub⟩
 refine Goes.sub hsub ?_
 refine sq ?_
 refine sh fol (kAm s_ ((1,.i n5)::(kAe l8 [(43,.bool (decide (n5>0)))]))) ?_
 obtain⟨r12,g12,h⟩:=bnd h
 refine Goes.imp (Q:=fun x s'=>(x= .normal∧ ∃l11,l11=r12∧Sub s' (ofG 50 (kAe l11 []),(kQ l11 [])))) ?_ ?_
 ·refine ihD g12 (fun c13 g12=>?_) (fun c13 g12=>?_)
  ·obtain⟨x14,e_x14,g12⟩:=bnd g12
   obtain⟨l15,e_l15,g12⟩:=bnd g12
   refine gq fol [4,5] (kAe l8 []) (kQ l15 []) (ac (hs (.done (.opt (qo Tryz.prog 23 (.slice 0 0 l8.length l8.length 1) (.i (w64 (n5-1))))) (.ptr 0 ((w64 (n5-1):Int).toNat*1+0))) (qjM xU e_x14)) (ac (hs (.run [0] (qav Tryz.prog 9 (.ptr 0 ((w64 (n5-1):Int).toNat*1+0)) (.str s_)) (kQ l8 []) .undef (kQ l15 []) true) (qd9 (E:=encS) (l:=l8) (y:=s_) rfl (show _=some 1 by kernel_rfl) rfl e_x14 rfl rfl rfl rfl rfl e_l15 rfl)) az)) ?_
   obtain rfl:=si g12
   exact⟨rfl,_,rfl,((show Sub (ofG 50 (kAe l8 []),(kQ l15 [])) (ofG 50 (kAe l15 []),(kQ l15 []))from(Sub.norm [] [some 0] rfl rfl (.keep (.sliceE rfl (qa7 e_l15)) .nil) (.ks .nil))).trans (Sub.refl _))⟩
  ·refine Goes.skip ?_
   obtain rfl:=si g12
   exact⟨rfl,_,rfl,(Sub.keep [6] rfl rfl)⟩
 rintro x s' ⟨rfl,l11,rfl,hsub⟩
 refine Goes.sub hsub ?_
 refine sh fol [(4,.slice 0 0 l11.length l11.length 1)] ?_
 refine Goes.ret ?_
 obtain rfl:=si h
 exact(gw2 [.slice 0 0 l11.length l11.length 1] (FzW.fz (Fz.sl (E:=encS) rfl rfl (nl rfl))))
def yO (substr:Str):Nat→Str→Int→Option Int
 |0,_,_=>none
 |K+1,s6,n7=>
  (strings_Index s6 substr).bind fun r10=>
  if r10=(-1)then
  some n7
  else
  (cut s6 (w64 (r10+(substr.length:Int))) (s6.length:Int)).bind fun s12=>
  yO substr K s12 (w64 (n7+1))
def strings_Count (N:Nat) (s_:Str) (substr:Str):Option Int:=
 if(substr.length:Int)=0 then
 (utf8_RuneCountInString N s_).bind fun r2=>
 some (w64 (r2+1))
 else
 if(substr.length:Int)=1 then
 (idx substr 0).bind fun c4=>
 (qia s_ (c4.toNat:Int)).bind fun r5=>
 some r5
 else
 (yO substr N s_ 0).bind fun q13=>
 some q13
theorem qfi (N:Nat) (s_:Str) (substr:Str) {res:Int} (h:strings_Count N s_ substr=some res):qf Tryz.prog (.fn 192) [.str s_,.str substr] [] (.i res) []:=by
 unfold strings_Count at h
 refine Goes.fnW Tryz.func192 rfl rfl (m:=34) rfl (rs:=[.tmp 4]) rfl (l:=(kAE s_ substr [])) rfl ?_
 refine sh fol (kAE s_ substr []) ?_
 refine sq ?_
 refine sh fol (kAE s_ substr [(9,.bool (decide ((substr.length:Int)=0)))]) ?_
 refine ihD h (fun c1 h=>?_) (fun c1 h=>?_)
 ·obtain⟨r2,e_r2,h⟩:=bnd h
  refine sq (gr fol [1] [(4,.i (w64 (r2+1)))] (ac (cv (qaa N s_ e_r2)) az) ?_)
  refine Goes.ret ?_
  obtain rfl:=si h
  exact(gw2 [.i (w64 (r2+1))] (FzW.still tI))
 ·refine Goes.skip ?_
  refine sq ?_
  refine sh fol (kAE s_ substr [(15,.bool (decide ((substr.length:Int)=1)))]) ?_
  refine ihD h (fun c3 h=>?_) (fun c3 h=>?_)
  ·obtain⟨c4,e_c4,h⟩:=bnd h
   obtain⟨r5,e_r5,h⟩:=bnd h
   refine sq (gr fol [2,3] [(4,.i r5)] (ac (hs (.done (.opt (xN Tryz.prog 9 (.str substr) (.i 0))) (.int .u8 (c4.toNat:Int))) (qbO st9 e_c4)) (ac (cv (qli s_ (c4.toNat:Int) e_r5)) az)) ?_)
   refine Goes.ret ?_
   obtain rfl:=si h
   exact(gw2 [.i r5] (FzW.still tI))
  ·refine Goes.skip ?_
   refine sh fol (kAE s_ substr kBi) ?_
   refine Goes.block ?_
   obtain⟨r8,g8,h⟩:=bnd h
   refine Goes.imp (Q:=fun x s'=>(x= .ret∧ ∃q9,q9=r8∧zy Tryz.prog [.tmp 4] (.i q9) .ret s')) ?_ ?_
   ·refine Goes.loopS (fun M s=> ∃(s6:Str) (n7:Int),s=(ofG 34 (kAE s6 substr (kA4 n7)),[])∧yO substr M s6 n7=some r8) ?_ (m:=N) ⟨_,_,rfl,g8⟩
    rintro M s ⟨s6,n7,rfl,g8⟩
    cases M with
    |zero=>simp only[yO]at g8;cases g8
    |succ M=>
     rw[yO]at g8
     refine Goes.block ?_
     obtain⟨r10,e_r10,g8⟩:=bnd g8
     refine sq (gr fol [2] (kAE s6 substr ((5,.i n7)::(kBj r10))) (ac (cv (qcp s6 substr e_r10)) az) ?_)
     refine sq ?_
     refine sh fol (kAE s6 substr [(5,.i n7),(6,.i r10),(24,.bool (decide (r10=(-1))))]) ?_
     refine ihD g8 (fun c11 g8=>?_) (fun c11 g8=>?_)
     ·refine sh fol [(4,.i n7)] ?_
      refine Goes.ret ?_
      obtain rfl:=si g8
      exact⟨rfl,_,rfl,(gw2 [.i n7] (FzW.still tI))⟩
     ·refine Goes.skip ?_
      refine sh fol (kAE s6 substr ((5,.i (w64 (n7+1)))::(kBj r10))) ?_
      obtain⟨s12,e_s12,g8⟩:=bnd g8
      refine gr fol [5] (kAE s12 substr (kA4 (w64 (n7+1)))) (ac (hs (.done (.opt (zW Tryz.prog 9 (.str s6) (some (.i (w64 (r10+(substr.length:Int))))) none none)) (.str s12)) (qiv st9 (some (w64 (r10+(substr.length:Int)))) none e_s12)) az) ?_
      exact⟨M,(ofG 34 (kAE s12 substr (kA4 (w64 (n7+1)))),[]),Nat.lt_succ_self _,(Sub.refl _),_,_,rfl,g8⟩
   rintro x s' ⟨rfl,q13,rfl,hret⟩
   obtain rfl:=si h
   exact hret
def zV (s_:Str) (sep:Str) (sepSave:Int) (n4:Int):Nat→(List Str)→Str→Int→Option ((List Str)×Str×Int)
 |0,_,_,_=>none
 |K+1,l9,s10,n11=>
  if n11<(w64 ((if(w64 ((s_.length:Int)+1))<n4 then(w64 ((s_.length:Int)+1))else n4)-1))then
  (strings_Index s10 sep).bind fun r17=>
  if r17<0 then
  some (l9,s10,n11)
  else
  (cut s10 0 (w64 (r17+sepSave))).bind fun s19=>
  (idx l9 n11).bind fun x20=>
  (put l9 n11 s19).bind fun l21=>
  (cut s10 (w64 (r17+(sep.length:Int))) (s10.length:Int)).bind fun s22=>
  zV s_ sep sepSave n4 K l21 s22 (w64 (n11+1))
  else
  some (l9,s10,n11)
def strings_genSplit (N:Nat) (s_:Str) (sep:Str) (sepSave:Int) (n:Int):Option (List Str):=
 if n=0 then
 some []
 else
 if(sep==[])=true then
 (qbl N s_ n).bind fun r3=>
 some r3
 else
 ((if n<0 then
 (strings_Count N s_ sep).bind fun r7=>
 some (w64 (r7+1))
 else
 some n:Option Int)).bind fun n4=>
 (mk 16 (if(w64 ((s_.length:Int)+1))<n4 then(w64 ((s_.length:Int)+1))else n4) []).bind fun l8=>
 (zV s_ sep sepSave n4 N l8 s_ 0).bind fun(l12,s13,n14)=>
 (idx l12 n14).bind fun x23=>
 (put l12 n14 s13).bind fun l24=>
 (cut l24 0 (w64 (n14+1))).bind fun s25=>
 some s25
theorem qd6 (N:Nat) (s_:Str) (sep:Str) (sepSave:Int) (n:Int) {res:List Str} (h:strings_genSplit N s_ sep sepSave n=some res):qf Tryz.prog (.fn 157) [.str s_,.str sep,.i sepSave,.i n] [] (vl encS res) []:=by
 unfold strings_genSplit at h
 refine Goes.fnW Tryz.func157 rfl rfl (m:=66) rfl (rs:=[.tmp 8]) rfl (l:=(kAE s_ sep [(2,.i sepSave),(3,.i n)])) rfl ?_
 refine sh fol (kAE s_ sep [(2,.i sepSave),(3,.i n)]) ?_
 refine sq ?_
 refine sh fol (kAE s_ sep [(2,.i sepSave),(3,.i n),(13,.bool (decide (n=0)))]) ?_
 refine ihD h (fun c1 h=>?_) (fun c1 h=>?_)
 ·refine sh fol [(8,.nilslice)] ?_
  refine Goes.ret ?_
  obtain rfl:=si h
  exact(gw2 [.nilslice] (FzW.nilv (E:=encS)))
 ·refine Goes.skip ?_
  refine sq ?_
  refine sh fol (kAE s_ sep [(2,.i sepSave),(3,.i n),(15,.bool (sep==[]))]) ?_
  refine ihB h (fun c2 h=>?_) (fun c2 h=>?_)
  ·obtain⟨r3,e_r3,h⟩:=bnd h
   refine sq (gr fol [2] [(8,vl encS r3)] (ac (cv (qel N s_ n e_r3)) az) ?_)
   refine Goes.ret ?_
   obtain rfl:=si h
   exact(gw2 [vl encS r3] (FzW.still (jV encS _ (nl rfl))))
  ·refine Goes.skip ?_
   refine sq ?_
   refine sh fol (kAE s_ sep [(2,.i sepSave),(3,.i n),(20,.bool (decide (n<0)))]) ?_
   obtain⟨r5,g5,h⟩:=bnd h
   refine Goes.imp (Q:=fun x s'=>(x= .normal∧ ∃n4,n4=r5∧Sub s' (ofG 66 (kAE s_ sep [(2,.i sepSave),(3,.i n4)]),[]))) ?_ ?_
   ·refine ihD g5 (fun c6 g5=>?_) (fun c6 g5=>?_)
    ·obtain⟨r7,e_r7,g5⟩:=bnd g5
     refine gr fol [2] (kAE s_ sep [(2,.i sepSave),(3,.i (w64 (r7+1)))]) (ac (cv (qfi N s_ sep e_r7)) az) ?_
     obtain rfl:=si g5
     exact⟨rfl,_,rfl,(Sub.refl _)⟩
    ·refine Goes.skip ?_
     obtain rfl:=si g5
     exact⟨rfl,_,rfl,(Sub.keep [0,1,2,3] rfl rfl)⟩
   rintro x s' ⟨rfl,n4,rfl,hsub⟩
   refine Goes.sub hsub ?_
   refine sh fol (kAE s_ sep [(2,.i sepSave),(3,.i (if(w64 ((s_.length:Int)+1))<n4 then(w64 ((s_.length:Int)+1))else n4))]) ?_
   obtain⟨l8,e_l8,h⟩:=bnd h
   refine sq (gq fol [1] (kR s_ sep sepSave (if(w64 ((s_.length:Int)+1))<n4 then(w64 ((s_.length:Int)+1))else n4) l8 []) (kQ l8 []) (ac (hs (.run [] (xV Tryz.prog 23 (.i (if(w64 ((s_.length:Int)+1))<n4 then(w64 ((s_.length:Int)+1))else n4)) (.i (if(w64 ((s_.length:Int)+1))<n4 then(w64 ((s_.length:Int)+1))else n4))) [] (.slice 0 0 l8.length l8.length 1) (kQ l8 []) false) (qjQ xU (E:=encS) (z:=[]) rfl (by kernel_rfl) e_l8 rfl)) az) ?_)
   refine sh fol (kR s_ sep sepSave (w64 ((if(w64 ((s_.length:Int)+1))<n4 then(w64 ((s_.length:Int)+1))else n4)-1)) l8 []) ?_
   refine sh fol (kR s_ sep sepSave (w64 ((if(w64 ((s_.length:Int)+1))<n4 then(w64 ((s_.length:Int)+1))else n4)-1)) l8 [(10,.i 0)]) ?_
   refine sq (Goes.block ?_)
   obtain⟨r15,g15,h⟩:=bnd h
   refine Goes.imp (Q:=fun x s'=>(x= .exit 0∧ ∃l12 s13 n14,(l12,s13,n14)=r15∧Sub s' (ofG 66 (kAm s13 (kBP l12 n14)),(kQ l12 [])))) ?_ ?_
   ·refine Goes.loopS (fun M s=> ∃(l9:List Str) (s10:Str) (n11:Int),s=(ofG 66 (kR s10 sep sepSave (w64 ((if(w64 ((s_.length:Int)+1))<n4 then(w64 ((s_.length:Int)+1))else n4)-1)) l9 [(10,.i n11)]),(kQ l9 []))∧zV s_ sep sepSave n4 M l9 s10 n11=some r15) ?_ (m:=N) ⟨_,_,_,rfl,g15⟩
    rintro M s ⟨l9,s10,n11,rfl,g15⟩
    cases M with
    |zero=>simp only[zV]at g15;cases g15
    |succ M=>
     rw[zV]at g15
     refine sq ?_
     refine sh fol (kR s10 sep sepSave (w64 ((if(w64 ((s_.length:Int)+1))<n4 then(w64 ((s_.length:Int)+1))else n4)-1)) l9 [(10,.i n11),(36,.bool (decide (n11<(w64 ((if(w64 ((s_.length:Int)+1))<n4 then(w64 ((s_.length:Int)+1))else n4)-1)))))]) ?_
     refine ihD g15 (fun c16 g15=>?_) (fun c16 g15=>?_)
     ·refine Goes.skip ?_
      refine Goes.block ?_
      obtain⟨r17,e_r17,g15⟩:=bnd g15
      refine sq (gr fol [2] (kR s10 sep sepSave (w64 ((if(w64 ((s_.length:Int)+1))<n4 then(w64 ((s_.length:Int)+1))else n4)-1)) l9 [(10,.i n11),(11,.i r17)]) (ac (cv (qcp s10 sep e_r17)) az) ?_)
      refine sq ?_
      refine sh fol (kR s10 sep sepSave (w64 ((if(w64 ((s_.length:Int)+1))<n4 then(w64 ((s_.length:Int)+1))else n4)-1)) l9 [(10,.i n11),(11,.i r17),(41,.bool (decide (r17<0)))]) ?_
      refine ihD g15 (fun c18 g15=>?_) (fun c18 g15=>?_)
      ·refine Goes.exit ?_
       obtain rfl:=si g15
       exact⟨rfl,_,_,_,rfl,(Sub.keep [0,9,10] rfl rfl)⟩
      ·refine Goes.skip ?_
       obtain⟨s19,e_s19,g15⟩:=bnd g15
       obtain⟨x20,e_x20,g15⟩:=bnd g15
       obtain⟨l21,e_l21,g15⟩:=bnd g15
       refine sq (gq fol [6,7,8] (kR s10 sep sepSave (w64 ((if(w64 ((s_.length:Int)+1))<n4 then(w64 ((s_.length:Int)+1))else n4)-1)) l9 [(10,.i n11),(11,.i r17)]) (kQ l21 []) (ac (hs (.done (.opt (zW Tryz.prog 9 (.str s10) none (some (.i (w64 (r17+sepSave)))) none)) (.str s19)) (qiv st9 none (some (w64 (r17+sepSave))) e_s19)) (ac (hs (.done (.opt (qo Tryz.prog 23 (.slice 0 0 l9.length l9.length 1) (.i n11))) (.ptr 0 ((n11:Int).toNat*1+0))) (qjM xU e_x20)) (ac (hs (.run [0] (qav Tryz.prog 9 (.ptr 0 ((n11:Int).toNat*1+0)) (.str s19)) (kQ l9 []) .undef (kQ l21 []) true) (qd9 (E:=encS) (l:=l9) (y:=s19) rfl (show _=some 1 by kernel_rfl) rfl e_x20 rfl rfl rfl rfl rfl e_l21 rfl)) az))) ?_)
       refine Goes.sub (show Sub (ofG 66 (kR s10 sep sepSave (w64 ((if(w64 ((s_.length:Int)+1))<n4 then(w64 ((s_.length:Int)+1))else n4)-1)) l9 [(10,.i n11),(11,.i r17)]),(kQ l21 [])) (ofG 66 (kR s10 sep sepSave (w64 ((if(w64 ((s_.length:Int)+1))<n4 then(w64 ((s_.length:Int)+1))else n4)-1)) l21 [(10,.i n11),(11,.i r17)]),(kQ l21 []))from(Sub.norm [] [some 0] rfl rfl (.keep (.same nS) (.keep (.same nS) (.keep (.same nI) (.keep (.same nI) (.keep (.sliceE rfl (qa7 e_l21)) (.keep (.same nI) (.keep (.same nI) .nil))))))) (.ks .nil))) ?_
       obtain⟨s22,e_s22,g15⟩:=bnd g15
       refine sq (gr fol [5] (kR s22 sep sepSave (w64 ((if(w64 ((s_.length:Int)+1))<n4 then(w64 ((s_.length:Int)+1))else n4)-1)) l21 [(10,.i n11)]) (ac (hs (.done (.opt (zW Tryz.prog 9 (.str s10) (some (.i (w64 (r17+(sep.length:Int))))) none none)) (.str s22)) (qiv st9 (some (w64 (r17+(sep.length:Int)))) none e_s22)) az) ?_)
       refine gh fol (kR s22 sep sepSave (w64 ((if(w64 ((s_.length:Int)+1))<n4 then(w64 ((s_.length:Int)+1))else n4)-1)) l21 [(10,.i (w64 (n11+1)))]) ?_
       exact⟨M,(ofG 66 (kR s22 sep sepSave (w64 ((if(w64 ((s_.length:Int)+1))<n4 then(w64 ((s_.length:Int)+1))else n4)-1)) l21 [(10,.i (w64 (n11+1)))]),(kQ l21 [])),Nat.lt_succ_self _,(Sub.refl _),_,_,_,rfl,g15⟩
     ·refine Goes.exit ?_
      obtain rfl:=si g15
      exact⟨rfl,_,_,_,rfl,(Sub.keep [0,9,10] rfl rfl)⟩
   rintro x s' ⟨rfl,l12,s13,n14,rfl,hsub⟩
   try dsimp only at h
   refine Goes.sub hsub ?_
   obtain⟨x23,e_x23,h⟩:=bnd h
   obtain⟨l24,e_l24,h⟩:=bnd h
   refine sq (gq fol [3,4] (kBP l12 n14) (kQ l24 []) (ac (hs (.done (.opt (qo Tryz.prog 23 (.slice 0 0 l12.length l12.length 1) (.i n14))) (.ptr 0 ((n14:Int).toNat*1+0))) (qjM xU e_x23)) (ac (hs (.run [0] (qav Tryz.prog 9 (.ptr 0 ((n14:Int).toNat*1+0)) (.str s13)) (kQ l12 []) .undef (kQ l24 []) true) (qd9 (E:=encS) (l:=l12) (y:=s13) rfl (show _=some 1 by kernel_rfl) rfl e_x23 rfl rfl rfl rfl rfl e_l24 rfl)) az)) ?_)
   refine Goes.sub (show Sub (ofG 66 (kBP l12 n14),(kQ l24 [])) (ofG 66 (kBP l24 n14),(kQ l24 []))from(Sub.norm [] [some 0] rfl rfl (.keep (.sliceE rfl (qa7 e_l24)) (.keep (.same nI) .nil)) (.ks .nil))) ?_
   refine sq (Goes.sub (s':=(ofG 66 [(9,vl encS l24),(10,.i n14)],[])) (Sub.norm [0] [] rfl rfl (.keep (.frz (Fz.sl (E:=encS) rfl rfl (nl rfl)) (qd encS _)) (.keep (.same nI) .nil)) .nil) ?_)
   obtain⟨s25,e_s25,h⟩:=bnd h
   refine gr fol [3] [(8,vl encS s25)] (ac (hs (.done (.opt (zW Tryz.prog 23 (vl encS l24) none (some (.i (w64 (n14+1)))) none)) (vl encS s25)) (qk9 xU (E:=encS) rfl none (some (w64 (n14+1))) e_s25)) az) ?_
   refine Goes.ret ?_
   obtain rfl:=si h
   exact(gw2 [vl encS s25] (FzW.still (jV encS _ (nl rfl))))
def strings_Split (N:Nat) (s_:Str) (sep:Str):Option (List Str):=
 (strings_genSplit N s_ sep 0 (-1)).bind fun r1=>
 some r1
theorem qft (N:Nat) (s_:Str) (sep:Str) {res:List Str} (h:strings_Split N s_ sep=some res):qf Tryz.prog (.fn 107) [.str s_,.str sep] [] (vl encS res) []:=by
 unfold strings_Split at h
 refine Goes.fnW Tryz.func107 rfl rfl (m:=8) rfl (rs:=[.tmp 4]) rfl (l:=(kAE s_ sep [])) rfl ?_
 refine sh fol (kAE s_ sep []) ?_
 obtain⟨r1,e_r1,h⟩:=bnd h
 refine sq (gr fol [2] [(4,vl encS r1)] (ac (cv (qd6 N s_ sep 0 (-1) e_r1)) az) ?_)
 refine Goes.ret ?_
 obtain rfl:=si h
 exact(gw2 [vl encS r1] (FzW.still (jV encS _ (nl rfl))))
def zt (s_:List Str) (v:Str):Nat→Int→Option (Unit⊕Int)
 |0,_=>none
 |K+1,n1=>
  if n1<(s_.length:Int)then
  (idx s_ n1).bind fun x5=>
  if(v==x5)=true then
  some (.inr n1)
  else
  zt s_ v K (w64 (n1+1))
  else
  some (.inl ())
def slices_Index_string (N:Nat) (s_:List Str) (v:Str):Option Int:=
 (zt s_ v N 0).bind (fun
 |(.inl ())=>
 some (-1)
 |(.inr q7)=>
 some q7)
theorem qcA (N:Nat) (s_:List Str) (v:Str) {res:Int} (h:slices_Index_string N s_ v=some res):qf Tryz.prog (.fn 164) [vl encS s_,.str v] [] (.i res) []:=by
 unfold slices_Index_string at h
 refine Goes.fnW Tryz.func164 rfl rfl (m:=19) rfl (rs:=[.tmp 4]) rfl (l:=(kA6 s_ v [])) rfl ?_
 refine sh fol (kA6 s_ v []) ?_
 refine sq ?_
 refine sh fol (kA6 s_ v (kBV (s_.length:Int))) ?_
 refine Goes.block ?_
 obtain⟨r2,g2,h⟩:=bnd h
 refine Goes.imp (Q:=fun x s'=>(x= .exit 0∧(.inl ())=r2∧Sub s' (ofG 19 [],[]))∨(x= .ret∧ ∃q3,(.inr q3)=r2∧zy Tryz.prog [.tmp 4] (.i q3) .ret s')) ?_ ?_
 ·refine Goes.loopS (fun M s=> ∃(n1:Int),s=(ofG 19 (kA6 s_ v (kAH (s_.length:Int) n1 [])),[])∧zt s_ v M n1=some r2) ?_ (m:=N) ⟨_,rfl,g2⟩
  rintro M s ⟨n1,rfl,g2⟩
  cases M with
  |zero=>simp only[zt]at g2;cases g2
  |succ M=>
   rw[zt]at g2
   refine sh fol (kA6 s_ v (kAH (s_.length:Int) n1 [(9,.bool (decide (n1<(s_.length:Int))))])) ?_
   refine sq ?_
   refine ihD g2 (fun c4 g2=>?_) (fun c4 g2=>?_)
   ·refine Goes.skip ?_
    refine sq (Goes.block ?_)
    refine sh fol (kA6 s_ v ((5,.i n1)::(kAH (s_.length:Int) n1 []))) ?_
    obtain⟨x5,e_x5,g2⟩:=bnd g2
    refine sq (gr fol [3,4] (kA6 s_ v ((5,.i n1)::(kAH (s_.length:Int) n1 [(16,.bool (v==x5))]))) (ac (iv xU encS e_x5) (ac (lv 0 ce9 encS e_x5 rfl) az)) ?_)
    refine ihB g2 (fun c6 g2=>?_) (fun c6 g2=>?_)
    ·refine sh fol [(4,.i n1)] ?_
     refine Goes.ret ?_
     obtain rfl:=si g2
     exact Or.inr (⟨rfl,_,rfl,(gw2 [.i n1] (FzW.still tI))⟩)
    ·refine Goes.skip ?_
     refine gh fol (kA6 s_ v (kAH (s_.length:Int) (w64 (n1+1)) [])) ?_
     exact⟨M,(ofG 19 (kA6 s_ v (kAH (s_.length:Int) (w64 (n1+1)) [])),[]),Nat.lt_succ_self _,(Sub.refl _),_,rfl,g2⟩
   ·refine Goes.exit ?_
    obtain rfl:=si g2
    exact Or.inl (⟨rfl,rfl,(Sub.keep [] rfl rfl)⟩)
 rintro x s' (⟨rfl,rfl,hsub⟩|⟨rfl,q7,rfl,hret⟩)
 ·try dsimp only at h
  refine Goes.sub hsub ?_
  refine sh fol [(4,.i (-1))] ?_
  refine Goes.ret ?_
  obtain rfl:=si h
  exact(gw2 [.i (-1)] (FzW.still tI))
 ·try dsimp only at h
  obtain rfl:=si h
  exact hret
def slices_Contains_string (N:Nat) (s_:List Str) (v:Str):Option Bool:=
 (slices_Index_string N s_ v).bind fun r1=>
 some (decide (r1≥0))
theorem qbT (N:Nat) (s_:List Str) (v:Str) {res:Bool} (h:slices_Contains_string N s_ v=some res):qf Tryz.prog (.fn 112) [vl encS s_,.str v] [] (.bool res) []:=by
 unfold slices_Contains_string at h
 refine Goes.fnW Tryz.func112 rfl rfl (m:=9) rfl (rs:=[.tmp 4]) rfl (l:=(kA6 s_ v [])) rfl ?_
 refine sh fol (kA6 s_ v []) ?_
 obtain⟨r1,e_r1,h⟩:=bnd h
 refine sq (gr fol [2] [(4,.bool (decide (r1≥0)))] (ac (cv (qcA N s_ v e_r1)) az) ?_)
 refine Goes.ret ?_
 obtain rfl:=si h
 exact(gw2 [.bool (decide (r1≥0))] (FzW.still tB))
def j5:Option (List Str):=
 qeX (some []) ((app 16 ([]:List Str) ([]:List Str)).bind fun l1=>
 some l1)
theorem qb3 {res:List Str} (h:j5=some res):qf Tryz.prog (.fn 165) [vl encS ([]:List Str)] [] (vl encS res) []:=by
 unfold j5 at h
 refine Goes.fnW Tryz.func165 rfl rfl (m:=8) rfl (rs:=[.tmp 2]) rfl (l:=[(0,vl encS ([]:List Str))]) rfl ?_
 refine sh fol [(0,vl encS ([]:List Str))] ?_
 refine sq ?_
 refine sh fol [(0,vl encS ([]:List Str)),(4,.anyb)] ?_
 refine Goes.condAny (by kernel_rfl) ?_ ?_
 ·replace h:=(qa5 h).1
  refine sh fol [(2,.nilslice)] ?_
  refine Goes.ret ?_
  obtain rfl:=si h
  exact(gw2 [.nilslice] (FzW.nilv (E:=encS)))
 ·replace h:=(qa5 h).2
  refine Goes.skip ?_
  obtain⟨l1,e_l1,h⟩:=bnd h
  refine sq (gq fol [2] [(2,.oslice 1 l1.length 1)] (.dead::(kQ l1 [])) (ac (hs (.run [0] (zh Tryz.prog [23,23] (.slice 0 0 0 0 1) (vl encS ([]:List Str))) [.cells []] (.oslice 1 l1.length 1) (.dead::(kQ l1 [])) true) (jE xU (E:=encS) rfl (qfY (E:=encS) rfl _) (qgD (E:=encS) rfl rfl rfl e_l1 rfl))) az) ?_)
  refine Goes.ret ?_
  obtain rfl:=si h
  exact(gw2 [.oslice 1 l1.length 1] (FzW.fz (Fz.os (E:=encS) rfl rfl (nl rfl))))
def jA (hd:Str) (tl:List Str):Option (List Str):=
 (app 16 ([]:List Str) (hd::tl)).bind fun l1=>
 some l1
theorem qcb (hd:Str) (tl:List Str) {res:List Str} (h:jA hd tl=some res):qf Tryz.prog (.fn 165) [vl encS (hd::tl)] [] (vl encS res) []:=by
 unfold jA at h
 refine Goes.fnW Tryz.func165 rfl rfl (m:=8) rfl (rs:=[.tmp 2]) rfl (l:=[(0,vl encS (hd::tl))]) rfl ?_
 refine sh fol [(0,vl encS (hd::tl))] ?_
 refine sq ?_
 refine sh fol ((0,vl encS (hd::tl))::kAf) ?_
 refine Goes.ifB (b:=false) (by kernel_rfl) (fun c=>(by cases c)) (fun _=>?_)
 refine Goes.skip ?_
 obtain⟨l1,e_l1,h⟩:=bnd h
 refine sq (gq fol [2] [(2,.oslice 1 l1.length 1)] (.dead::(kQ l1 [])) (ac (hs (.run [0] (zh Tryz.prog [23,23] (.slice 0 0 0 0 1) (vl encS (hd::tl))) [.cells []] (.oslice 1 l1.length 1) (.dead::(kQ l1 [])) true) (jE xU (E:=encS) rfl (qfY (E:=encS) rfl _) (qgD (E:=encS) rfl rfl rfl e_l1 rfl))) az) ?_)
 refine Goes.ret ?_
 obtain rfl:=si h
 exact(gw2 [.oslice 1 l1.length 1] (FzW.fz (Fz.os (E:=encS) rfl rfl (nl rfl))))
def slices_Clone_string:(List Str)→Option (List Str)
 |[]=>j5
 |hd::tl=>jA hd tl
theorem qaJ (l:List Str) {res:List Str} (h:slices_Clone_string l=some res):qf Tryz.prog (.fn 165) [vl encS l] [] (vl encS res) []:=by
 cases l with
 |nil=>exact qb3 h
 |cons hd tl=>exact qcb hd tl h
def xm (s_:Str):Option Bool:=
 (if(!(s_==[]))=true then
 (qjf s_ [48,49,50,51,52,53,54,55,56,57]).bind fun r2=>
 some (r2==[])
 else
 some false:Option Bool).bind fun b3=>
 some b3
theorem qao (s_:Str) {res:Bool} (h:xm s_=some res):qf Tryz.prog (.fn 155) [.str s_] [] (.bool res) []:=by
 unfold xm at h
 refine Goes.fnW Tryz.func155 rfl rfl (m:=10) rfl (rs:=[.tmp 2]) rfl (l:=(kAm s_ [])) rfl ?_
 refine sh fol (kAm s_ []) ?_
 refine sq ?_
 obtain⟨b3,g_v4,h⟩:=bnd h
 refine Goes.cut (s':=(ofG 10 [(2,.bool b3)],[])) ?_ ?_
 ·rcases wyB g_v4 with⟨c1,g_v4⟩|⟨c1,g_v4⟩
  ·obtain⟨r2,e_r2,g_v4⟩:=bnd g_v4
   obtain rfl:=si g_v4
   exact tr fol [2,4] [(2,.bool (r2==[]))] (ac (gw c1) (ac (cv (qnm s_ [48,49,50,51,52,53,54,55,56,57] e_r2)) az))
  ·obtain rfl:=si g_v4
   exact tr fol [2] kBc (ac (gw c1) az)
 refine Goes.ret ?_
 obtain rfl:=si h
 exact(gw2 [.bool b3] (FzW.still tB))
def xS (s_:Str):Option (Int×Bool):=
 (if(s_.length:Int)>9 then
 some true
 else
 (xm s_).bind fun r2=>
 if(!r2)=true then
 some true
 else
 (idx s_ 0).bind fun c4=>
 if(c4.toNat:Int)=48 then
 some (!(s_==[48]))
 else
 some false:Option Bool).bind fun b6=>
 if b6=true then
 some (0,false)
 else
 (qjr s_).bind fun r9=>
 some (r9.1,true)
theorem qfb (s_:Str) {res:Int×Bool} (h:xS s_=some res):qf Tryz.prog (.fn 172) [.str s_] [] (.tuple [.i res.1,.bool res.2]) []:=by
 unfold xS at h
 refine Goes.fnW Tryz.func172 rfl rfl (m:=31) rfl (rs:=[.tmp 2,.tmp 3]) rfl (l:=(kAm s_ [])) rfl ?_
 refine sh fol (kAm s_ []) ?_
 refine sq ?_
 refine sq ?_
 obtain⟨b6,g_v7,h⟩:=bnd h
 refine Goes.cut (s':=(ofG 31 (kAm s_ [(22,.bool b6)]),[])) ?_ ?_
 ·rcases wyD g_v7 with⟨c1,g_v7⟩|⟨c1,g_v7⟩
  ·obtain rfl:=si g_v7
   exact tr fol [3] (kAm s_ [(22,.bool true)]) (ac (gw c1) az)
  ·obtain⟨r2,e_r2,g_v7⟩:=bnd g_v7
   rcases wyB g_v7 with⟨c3,g_v7⟩|⟨c3,g_v7⟩
   ·obtain rfl:=si g_v7
    exact tr fol [3,5,8] (kAm s_ [(22,.bool true)]) (ac (gw c1) (ac (cv (qao s_ e_r2)) (ac (gw c3) az)))
   ·obtain⟨c4,e_c4,g_v7⟩:=bnd g_v7
    rcases wyD g_v7 with⟨c5,g_v7⟩|⟨c5,g_v7⟩
    ·obtain rfl:=si g_v7
     exact tr fol [3,5,8,10,12] (kAm s_ [(22,.bool (!(s_==[48])))]) (ac (gw c1) (ac (cv (qao s_ e_r2)) (ac (gw c3) (ac (hs (.done (.opt (xN Tryz.prog 9 (.str s_) (.i 0))) (.int .u8 (c4.toNat:Int))) (qbO st9 e_c4)) (ac (gw c5) az)))))
    ·obtain rfl:=si g_v7
     exact tr fol [3,5,8,10,12] (kAm s_ [(22,.bool false)]) (ac (gw c1) (ac (cv (qao s_ e_r2)) (ac (gw c3) (ac (hs (.done (.opt (xN Tryz.prog 9 (.str s_) (.i 0))) (.int .u8 (c4.toNat:Int))) (qbO st9 e_c4)) (ac (gw c5) az)))))
 refine ihB h (fun c8 h=>?_) (fun c8 h=>?_)
 ·refine sh fol ((2,.i 0)::kBT) ?_
  refine Goes.ret ?_
  obtain rfl:=si h
  exact(gw2 [.i 0,.bool false] (FzW.tuple (qw.cons (FzW.still tI) (qw.cons (FzW.still tB) qw.nil))))
 ·refine Goes.skip ?_
  obtain⟨r9,e_r9,h⟩:=bnd h
  refine sq (gr fol [1] [(4,.i r9.1),(5,.niliface)] (ac (cv (qnB s_ e_r9)) az) ?_)
  refine sh fol [(2,.i r9.1),(3,.bool true)] ?_
  refine Goes.ret ?_
  obtain rfl:=si h
  exact(gw2 (.i r9.1::kA1) (FzW.tuple (qw.cons (FzW.still tI) (qw.cons (FzW.still tB) qw.nil))))
def jb (s23:List Str):Nat→(List Int)→Int→Option ((List Int)⊕(qg×Bool))
 |0,_,_=>none
 |K+1,l24,n25=>
  if n25<(s23.length:Int)then
  (idx s23 n25).bind fun x30=>
  (xS x30).bind fun r31=>
  if(!r31.2)=true then
  some (.inr ((⟨0,[],[],[],[]⟩:qg),false))
  else
  (app 8 l24 [r31.1]).bind fun l33=>
  jb s23 K l33 (w64 (n25+1))
  else
  some (.inl l24)
def vP (N:Nat) (s_:Str):Option (qg×Bool):=
 (strings_Split N s_ [32]).bind fun r1=>
 ((zY).bind fun r2=>
 (idx r1 0).bind fun x3=>
 if(x3==[109,97,107,101])=true then
 some (2,3,true)
 else
 if(x3==[116,101,115,116])=true then
 some (1,2,true)
 else
 if(x3==[117,115,101])=true then
 some (1,2,true)
 else
 if(x3==[102,97,105,108])=true then
 some (1,1,true)
 else
 if(x3==[114,101,99,97,108,108])=true then
 some (1,1,true)
 else
 if(x3==[117,110,100,111])=true then
 some (0,0,true)
 else
 some (0,0,false):Option (Int×Int×Bool)).bind fun(n10,n11,b12)=>
 (if(!b12)=true then
 some true
 else
 if(!decide ((r1.length:Int)=(w64 ((w64 (1+n10))+n11))))=true then
 some true
 else
 (slices_Contains_string N r1 []).bind fun r16=>
 some r16:Option Bool).bind fun b17=>
 if b17=true then
 some ((⟨0,[],[],[],[]⟩:qg),false)
 else
 (idx r1 0).bind fun x20=>
 (cut r1 1 (w64 (1+n10))).bind fun s21=>
 (slices_Clone_string s21).bind fun r22=>
 (cut r1 (w64 (1+n10)) (r1.length:Int)).bind fun s23=>
 (jb s23 N ([]:List Int) 0).bind (fun
 |(.inl l26)=>
 some ((⟨0,x20,r22,l26,[]⟩:qg),true)
 |(.inr q34)=>
 some q34)
theorem qap (N:Nat) (s_:Str) {res:qg×Bool} (h:vP N s_=some res):qf Tryz.prog (.fn 127) [.str s_] [] (.tuple [.agg (cE res.1),.bool res.2]) []:=by
 unfold vP at h
 refine Goes.fnW Tryz.func127 rfl rfl (m:=76) rfl (rs:=[.cell 2 26,.tmp 3]) rfl (l:=(kAm s_ [])) rfl ?_
 refine sg fol (kAm s_ (kAj [])) (kG []) ?_
 obtain⟨r1,e_r1,h⟩:=bnd h
 refine sq (gr fol [1] (kV r1 []) (ac (cv (qft N s_ [32] e_r1)) az) ?_)
 refine sq ?_
 obtain⟨⟨n10,n11,b12⟩,g_v13,h⟩:=bnd h
 refine Goes.cutS (s':=(ofG 76 (kV r1 [(5,.ptr 1 0),(6,.bool b12)]),(kG (kBe n10 n11 [])))) ?_ ?_
 ·obtain⟨r2,e_r2,g_v13⟩:=bnd g_v13
  obtain⟨x3,e_x3,g_v13⟩:=bnd g_v13
  rcases wyB g_v13 with⟨c4,g_v13⟩|⟨c4,g_v13⟩
  ·simp only[Option.some.injEq,Prod.mk.injEq]at g_v13
   obtain⟨rfl,rfl,rfl⟩:=g_v13
   exact qm.sub (qm.rq fol [0,2,3,4] (kV r1 kA0) (kG [.cells [.i 2,.i 3,.func (.func 141) [] []]]) (ac (cv (qH e_r2)) (ac (iv xU encS e_x3) (ac (lv 0 ce9 encS e_x3 rfl) (ac (hs (.done (zx Tryz.prog 154 (fm1) (.str x3) true) (.tuple (.agg [.i 2,.i 3,.func (.func 141) [] []]::kA1))) (qbi qaR [[109,97,107,101],[116,101,115,116],[117,115,101],[102,97,105,108],[114,101,99,97,108,108],[117,110,100,111]] (jJ c4) rfl)) az))))) (Sub.norm [] [some 0,some 1] rfl rfl (.kp (.keep (.same (qd encS _)) (.kp (.keep (.same nB) .nil)))) (.kb rfl (.same sn) (.kb rfl (.cells (rc (.same nI) (rc (.same nI) (rc (.undef) rn)))) .nil)))
  ·rcases wyB g_v13 with⟨c5,g_v13⟩|⟨c5,g_v13⟩
   ·simp only[Option.some.injEq,Prod.mk.injEq]at g_v13
    obtain⟨rfl,rfl,rfl⟩:=g_v13
    exact qm.sub (qm.rq fol [0,2,3,4] (kV r1 kA0) (kG [.cells [.i 1,.i 2,.func (.func 142) [] []]]) (ac (cv (qH e_r2)) (ac (iv xU encS e_x3) (ac (lv 0 ce9 encS e_x3 rfl) (ac (hs (.done (zx Tryz.prog 154 (fm1) (.str x3) true) (.tuple (.agg [.i 1,.i 2,.func (.func 142) [] []]::kA1))) (qbi qaR [[109,97,107,101],[116,101,115,116],[117,115,101],[102,97,105,108],[114,101,99,97,108,108],[117,110,100,111]] (ql c4 (jJ c5)) rfl)) az))))) (Sub.norm [] [some 0,some 1] rfl rfl (.kp (.keep (.same (qd encS _)) (.kp (.keep (.same nB) .nil)))) (.kb rfl (.same sn) (.kb rfl (.cells (rc (.same nI) (rc (.same nI) (rc (.undef) rn)))) .nil)))
   ·rcases wyB g_v13 with⟨c6,g_v13⟩|⟨c6,g_v13⟩
    ·simp only[Option.some.injEq,Prod.mk.injEq]at g_v13
     obtain⟨rfl,rfl,rfl⟩:=g_v13
     exact qm.sub (qm.rq fol [0,2,3,4] (kV r1 kA0) (kG [.cells [.i 1,.i 2,.func (.func 143) [] []]]) (ac (cv (qH e_r2)) (ac (iv xU encS e_x3) (ac (lv 0 ce9 encS e_x3 rfl) (ac (hs (.done (zx Tryz.prog 154 (fm1) (.str x3) true) (.tuple (.agg [.i 1,.i 2,.func (.func 143) [] []]::kA1))) (qbi qaR [[109,97,107,101],[116,101,115,116],[117,115,101],[102,97,105,108],[114,101,99,97,108,108],[117,110,100,111]] (ql c4 (ql c5 (jJ c6))) rfl)) az))))) (Sub.norm [] [some 0,some 1] rfl rfl (.kp (.keep (.same (qd encS _)) (.kp (.keep (.same nB) .nil)))) (.kb rfl (.same sn) (.kb rfl (.cells (rc (.same nI) (rc (.same nI) (rc (.undef) rn)))) .nil)))
    ·rcases wyB g_v13 with⟨c7,g_v13⟩|⟨c7,g_v13⟩
     ·simp only[Option.some.injEq,Prod.mk.injEq]at g_v13
      obtain⟨rfl,rfl,rfl⟩:=g_v13
      exact qm.sub (qm.rq fol [0,2,3,4] (kV r1 kA0) (kG [.cells [.i 1,.i 1,.func (.func 144) [] []]]) (ac (cv (qH e_r2)) (ac (iv xU encS e_x3) (ac (lv 0 ce9 encS e_x3 rfl) (ac (hs (.done (zx Tryz.prog 154 (fm1) (.str x3) true) (.tuple (.agg [.i 1,.i 1,.func (.func 144) [] []]::kA1))) (qbi qaR [[109,97,107,101],[116,101,115,116],[117,115,101],[102,97,105,108],[114,101,99,97,108,108],[117,110,100,111]] (ql c4 (ql c5 (ql c6 (jJ c7)))) rfl)) az))))) (Sub.norm [] [some 0,some 1] rfl rfl (.kp (.keep (.same (qd encS _)) (.kp (.keep (.same nB) .nil)))) (.kb rfl (.same sn) (.kb rfl (.cells (rc (.same nI) (rc (.same nI) (rc (.undef) rn)))) .nil)))
     ·rcases wyB g_v13 with⟨c8,g_v13⟩|⟨c8,g_v13⟩
      ·simp only[Option.some.injEq,Prod.mk.injEq]at g_v13
       obtain⟨rfl,rfl,rfl⟩:=g_v13
       exact qm.sub (qm.rq fol [0,2,3,4] (kV r1 kA0) (kG [.cells [.i 1,.i 1,.func (.func 145) [] []]]) (ac (cv (qH e_r2)) (ac (iv xU encS e_x3) (ac (lv 0 ce9 encS e_x3 rfl) (ac (hs (.done (zx Tryz.prog 154 (fm1) (.str x3) true) (.tuple (.agg [.i 1,.i 1,.func (.func 145) [] []]::kA1))) (qbi qaR [[109,97,107,101],[116,101,115,116],[117,115,101],[102,97,105,108],[114,101,99,97,108,108],[117,110,100,111]] (ql c4 (ql c5 (ql c6 (ql c7 (jJ c8))))) rfl)) az))))) (Sub.norm [] [some 0,some 1] rfl rfl (.kp (.keep (.same (qd encS _)) (.kp (.keep (.same nB) .nil)))) (.kb rfl (.same sn) (.kb rfl (.cells (rc (.same nI) (rc (.same nI) (rc (.undef) rn)))) .nil)))
      ·rcases wyB g_v13 with⟨c9,g_v13⟩|⟨c9,g_v13⟩
       ·simp only[Option.some.injEq,Prod.mk.injEq]at g_v13
        obtain⟨rfl,rfl,rfl⟩:=g_v13
        exact qm.sub (qm.rq fol [0,2,3,4] (kV r1 kA0) (kG kBd) (ac (cv (qH e_r2)) (ac (iv xU encS e_x3) (ac (lv 0 ce9 encS e_x3 rfl) (ac (hs (.done (zx Tryz.prog 154 (fm1) (.str x3) true) (.tuple (kBO kA1))) (qbi qaR [[109,97,107,101],[116,101,115,116],[117,115,101],[102,97,105,108],[114,101,99,97,108,108],[117,110,100,111]] (ql c4 (ql c5 (ql c6 (ql c7 (ql c8 (jJ c9)))))) rfl)) az))))) (Sub.norm [] [some 0,some 1] rfl rfl (.kp (.keep (.same (qd encS _)) (.kp (.keep (.same nB) .nil)))) (.kb rfl (.same sn) (.kb rfl (.cells (rc (.same nI) (rc (.same nI) (rc (.undef) rn)))) .nil)))
       ·simp only[Option.some.injEq,Prod.mk.injEq]at g_v13
        obtain⟨rfl,rfl,rfl⟩:=g_v13
        exact qm.sub (qm.rq fol [0,2,3,4] (kV r1 [(5,.ptr 1 0),(6,.bool false)]) (kG kBd) (ac (cv (qH e_r2)) (ac (iv xU encS e_x3) (ac (lv 0 ce9 encS e_x3 rfl) (ac (hs (.done (zx Tryz.prog 154 (fm1) (.str x3) true) (.tuple (kBO [.bool false]))) (qk1 qaR [[109,97,107,101],[116,101,115,116],[117,115,101],[102,97,105,108],[114,101,99,97,108,108],[117,110,100,111]] (ql c4 (ql c5 (ql c6 (ql c7 (ql c8 (ql c9 (rfl))))))))) az))))) (Sub.norm [] [some 0,some 1] rfl rfl (.kp (.keep (.same (qd encS _)) (.kp (.keep (.same nB) .nil)))) (.kb rfl (.same sn) (.kb rfl (.cells (rc (.same nI) (rc (.same nI) (rc (.undef) rn)))) .nil)))
 intro _ hsub
 try dsimp only at h
 refine Goes.sub hsub ?_
 refine sq ?_
 refine sq ?_
 obtain⟨b17,g_v18,h⟩:=bnd h
 refine Goes.cutS (s':=(ofG 76 (kV r1 [(5,.ptr 1 0),(38,.bool b17)]),(kG (kBe n10 n11 [])))) ?_ ?_
 ·rcases wyB g_v18 with⟨c14,g_v18⟩|⟨c14,g_v18⟩
  ·obtain rfl:=si g_v18
   exact qm.sub (tr fol [2] (kV r1 [(5,.ptr 1 0),(38,.bool true)]) (ac (gw c14) az)) (Sub.refl _)
  ·rcases wyB g_v18 with⟨c15,g_v18⟩|⟨c15,g_v18⟩
   ·obtain rfl:=si g_v18
    exact qm.sub (tr fol [2,13] (kV r1 [(5,.ptr 1 0),(38,.bool true)]) (ac (gw c14) (ac (gw c15) az))) (Sub.refl _)
   ·obtain⟨r16,e_r16,g_v18⟩:=bnd g_v18
    obtain rfl:=si g_v18
    exact qm.sub (tr fol [2,13,15] (kV r1 [(5,.ptr 1 0),(38,.bool r16)]) (ac (gw c14) (ac (gw c15) (ac (cv (qbT N r1 [] e_r16)) az)))) (Sub.refl _)
 intro _ hsub
 refine Goes.sub hsub ?_
 refine ihB h (fun c19 h=>?_) (fun c19 h=>?_)
 ·refine sh fol (kAj kBT) ?_
  refine Goes.ret ?_
  obtain rfl:=si h
  exact(gw2 kAZ (FzW.tuple (qw.cons (FzW.agg (qw.cons (FzW.still tI) (qw.cons (FzW.still tS) (qw.cons (FzW.nilv (E:=encS)) (qw.cons (FzW.nilv (E:=encI)) (qw.cons (FzW.still tS) qw.nil)))))) (qw.cons (FzW.still tB) qw.nil))))
 ·refine Goes.skip ?_
  obtain⟨x20,e_x20,h⟩:=bnd h
  obtain⟨s21,e_s21,h⟩:=bnd h
  obtain⟨r22,e_r22,h⟩:=bnd h
  refine sq (gq fol [1,2,7,8] (kV r1 [(5,.ptr 1 0),(7,.ptr 2 0)]) (kG (kBe n10 n11 [.cells [.i 0,.str x20,vl encS r22,.nilslice,.str []]])) (ac (iv xU encS e_x20) (ac (lv 0 ce9 encS e_x20 rfl) (ac (hs (.done (.opt (zW Tryz.prog 23 (vl encS r1) (some (.i 1)) (some (.i (w64 (1+n10)))) none)) (vl encS s21)) (qk9 xU (E:=encS) rfl (some 1) (some (w64 (1+n10))) e_s21)) (ac (cv (qaJ s21 e_r22)) az)))) ?_)
  refine sq ?_
  obtain⟨s23,e_s23,h⟩:=bnd h
  refine sq (gr fol [4] (kAj [(7,.ptr 2 0),(54,vl encS s23),(55,.i (s23.length:Int)),(56,.i 0)]) (ac (hs (.done (.opt (zW Tryz.prog 23 (vl encS r1) (some (.i (w64 (1+n10)))) none none)) (vl encS s23)) (qk9 xU (E:=encS) rfl (some (w64 (1+n10))) none e_s23)) az) ?_)
  refine Goes.block ?_
  obtain⟨r27,g27,h⟩:=bnd h
  refine Goes.imp (Q:=fun x s'=>(x= .exit 0∧ ∃l26,(.inl l26)=r27∧Sub s' (ofG 76 (kAj (kBY [])),(kG (kAX x20 r22 l26 (kAO l26 [])))))∨(x= .ret∧ ∃q28,(.inr q28)=r27∧zy Tryz.prog [.cell 2 26,.tmp 3] (.tuple [.agg (cE q28.1),.bool q28.2]) .ret s')) ?_ ?_
  ·refine Goes.sub (s':=(ofG 76 (kAj (kBY [(54,vl encS s23),(55,.i (s23.length:Int)),(56,.i 0)])),(kG [.cells [.i 0,.str x20,vl encS r22,.gslice 2 ([]:List Int).length 1,.str []],.cells (([]:List Int).flatMap encI.c)]))) (Sub.norm [] [some 0,some 2,none] rfl rfl (.kp (.kp (.keep (.same (qd encS _)) (.keep (.same nI) (.keep (.same nI) .nil))))) (.kb rfl (.same sn) (.kb rfl (.cells (rc (.same nI) (rc (.same nS) (rc (.same (qd encS _)) (rc (.nil) (rc (.same nS) rn)))))) (.fresh .nil)))) ?_
   refine Goes.loopS (fun M s=> ∃(l24:List Int) (n25:Int),s=(ofG 76 (kAj (kBY (kA3 s23 (s23.length:Int) n25 []))),(kG (kAX x20 r22 l24 (kAO l24 []))))∧jb s23 M l24 n25=some r27) ?_ (m:=N) ⟨_,_,rfl,g27⟩
   rintro M s ⟨l24,n25,rfl,g27⟩
   cases M with
   |zero=>simp only[jb]at g27;cases g27
   |succ M=>
    rw[jb]at g27
    refine sh fol (kAj (kBY (kA3 s23 (s23.length:Int) n25 [(57,.bool (decide (n25<(s23.length:Int))))]))) ?_
    refine sq ?_
    refine ihD g27 (fun c29 g27=>?_) (fun c29 g27=>?_)
    ·refine Goes.skip ?_
     refine sq (Goes.block ?_)
     obtain⟨x30,e_x30,g27⟩:=bnd g27
     refine sq (gr fol [0,1] (kAj (kBY ((9,.str x30)::(kA3 s23 (s23.length:Int) n25 [])))) (ac (iv xU encS e_x30) (ac (lv 0 ce9 encS e_x30 rfl) az)) ?_)
     obtain⟨r31,e_r31,g27⟩:=bnd g27
     refine sq (gr fol [1] (kAj (kBY ((10,.i r31.1)::(11,.bool r31.2)::(kA3 s23 (s23.length:Int) n25 [])))) (ac (cv (qfb x30 e_r31)) az) ?_)
     refine sq ?_
     refine sh fol (kAj (kBY ((10,.i r31.1)::(kA3 s23 (s23.length:Int) n25 [(66,.bool (!r31.2))])))) ?_
     refine ihB g27 (fun c32 g27=>?_) (fun c32 g27=>?_)
     ·refine sh fol (kAj kBT) ?_
      refine Goes.ret ?_
      obtain rfl:=si g27
      exact Or.inr (⟨rfl,_,rfl,(gw2 kAZ (FzW.tuple (qw.cons (FzW.agg (qw.cons (FzW.still tI) (qw.cons (FzW.still tS) (qw.cons (FzW.nilv (E:=encS)) (qw.cons (FzW.nilv (E:=encI)) (qw.cons (FzW.still tS) qw.nil)))))) (qw.cons (FzW.still tB) qw.nil))))⟩)
     ·refine Goes.skip ?_
      obtain⟨l33,e_l33,g27⟩:=bnd g27
      refine gq fol [4] (kAj (kBY (kA3 s23 (s23.length:Int) n25 []))) (kG (.cells [.i 0,.str x20,vl encS r22,.gslice 4 l33.length 1,.str []]:: .dead:: .cells [.i r31.1]::(kAO l33 []))) (ac (hs (.run [2,3] (zh Tryz.prog [24,24] (.gslice 2 l24.length 1) (.slice 3 0 1 1 1)) (kG (kAX x20 r22 l24 (kAO l24 [.cells [.i r31.1]]))) (.gslice 4 l33.length 1) (kG (kAX x20 r22 l24 (.dead:: .cells [.i r31.1]::(kAO l33 [])))) true) (jE qd0 (E:=encI) rfl (qaB (E:=encI) (ys:=[r31.1]) rfl rfl rfl rfl) (qcg (E:=encI) (l:=l24) rfl rfl rfl e_l33 rfl))) az) ?_
      refine gh fol (kAj (kBY (kA3 s23 (s23.length:Int) (w64 (n25+1)) []))) ?_
      exact⟨M,(ofG 76 (kAj (kBY (kA3 s23 (s23.length:Int) (w64 (n25+1)) []))),(kG (kAX x20 r22 l33 (kAO l33 [])))),Nat.lt_succ_self _,(Sub.norm [] [some 0,some 1,some 4] rfl rfl (.kp (.kp (.keep (.same (qd encS _)) (.keep (.same nI) (.keep (.same nI) .nil))))) (.kb rfl (.same sn) (.kb rfl (.cells (rc (.same nI) (rc (.same nS) (rc (.same (qd encS _)) (rc (.gslice rfl) (rc (.same nS) rn)))))) (.ks .nil)))),_,_,rfl,g27⟩
    ·refine Goes.exit ?_
     obtain rfl:=si g27
     exact Or.inl (⟨rfl,_,rfl,(Sub.keep [2,7] rfl rfl)⟩)
  rintro x s' (⟨rfl,l26,rfl,hsub⟩|⟨rfl,q34,rfl,hret⟩)
  ·try dsimp only at h
   refine Goes.sub hsub ?_
   refine sg fol (kAj [(3,.bool true)]) (kAX x20 r22 l26 (kAX x20 r22 l26 (kAO l26 []))) ?_
   refine Goes.ret ?_
   obtain rfl:=si h
   exact(gw2 (.agg [.i 0,.str x20,vl encS r22,.gslice 2 l26.length 1,.str []]::kA1) (FzW.tuple (qw.cons (FzW.agg (qw.cons (FzW.still tI) (qw.cons (FzW.still tS) (qw.cons (FzW.still (jV encS _ (nl rfl))) (qw.cons (FzW.fz (Fz.gs (E:=encI) rfl rfl (nl rfl))) (qw.cons (FzW.still tS) qw.nil)))))) (qw.cons (FzW.still tB) qw.nil))))
  ·try dsimp only at h
   obtain rfl:=si h
   exact hret
def yT (N:Nat) (n:qb):Option Int:=
 (vP N n.Line).bind fun r1=>
 ((yE N n.Desk).bind fun r2=>
 (zF n.Number 1 1000).bind fun r3=>
 (zF n.Clock 1 1000000).bind fun r4=>
 if(!r1.2)=true then
 (qE true 25).bind fun r6=>
 (qC N ([r2,r3,r4,r6]:List Int)).bind fun r7=>
 some (r2,r3,r4,r6,r7)
 else
 (qE (r1.1.Kind==[117,110,100,111]) 25).bind fun r8=>
 (qC N ([r2,r3,r4,r8]:List Int)).bind fun r9=>
 some (r2,r3,r4,r8,r9):Option (Int×Int×Int×Int×Int)).bind fun(n10,n11,n12,n13,n14)=>
 some n14
theorem qd1 (N:Nat) (n:qb) {res:Int} (h:yT N n=some res):qf Tryz.prog (.fn 132) [.agg (kAk n.Desk n.Number n.Clock n.Line)] [] (.i res) []:=by
 unfold yT at h
 refine Goes.fnW Tryz.func132 rfl rfl (m:=30) rfl (rs:=[.tmp 2]) rfl (l:=(kBk n.Desk n.Number n.Clock n.Line [])) rfl ?_
 refine sg fol (kAV []) (kE n.Desk n.Number n.Clock n.Line []) ?_
 obtain⟨r1,e_r1,h⟩:=bnd h
 refine sq (gq fol [2] (kAV (kA8 [(4,.bool r1.2)])) (kE n.Desk n.Number n.Clock n.Line (kA2 r1.1 [])) (ac (cv (qap N n.Line e_r1)) az) ?_)
 refine sq ?_
 obtain⟨⟨n10,n11,n12,n13,n14⟩,g_v15,h⟩:=bnd h
 refine Goes.cut (s':=(ofG 30 [(2,.i n14)],(kE n.Desk n.Number n.Clock n.Line (kA2 r1.1 [.cells [.i n10,.i n11,.i n12,.i n13]])))) ?_ ?_
 ·obtain⟨r2,e_r2,g_v15⟩:=bnd g_v15
  obtain⟨r3,e_r3,g_v15⟩:=bnd g_v15
  obtain⟨r4,e_r4,g_v15⟩:=bnd g_v15
  rcases wyB g_v15 with⟨c5,g_v15⟩|⟨c5,g_v15⟩
  ·obtain⟨r6,e_r6,g_v15⟩:=bnd g_v15
   obtain⟨r7,e_r7,g_v15⟩:=bnd g_v15
   simp only[Option.some.injEq,Prod.mk.injEq]at g_v15
   obtain⟨rfl,rfl,rfl,rfl,rfl⟩:=g_v15
   exact qm.rq fol [2,5,8,11,16,18] [(2,.i r7)] (kE n.Desk n.Number n.Clock n.Line (kA2 r1.1 [.cells [.i r2,.i r3,.i r4,.i r6]])) (ac (cv (xu N n.Desk e_r2)) (ac (cv (za n.Number 1 1000 e_r3)) (ac (cv (za n.Clock 1 1000000 e_r4)) (ac (gw c5) (ac (cv (qz true 25 e_r6)) (ac (hs (.call 86 [.slice 2 0 4 4 1] (kE n.Desk n.Number n.Clock n.Line (kA2 r1.1 [.cells [.i r2,.i r3,.i r4,.i r6]])) [2] [vl encI ([r2,r3,r4,r6]:List Int)] (.i r7)) (vI (FzL.cons (Fz.lit rfl rfl (FzL.still (AllST.cons tI (AllST.cons tI (AllST.cons tI (AllST.cons tI AllST.nil)))))) FzL.nil) (qN N ([r2,r3,r4,r6]:List Int) e_r7) tI rfl)) az))))))
  ·obtain⟨r8,e_r8,g_v15⟩:=bnd g_v15
   obtain⟨r9,e_r9,g_v15⟩:=bnd g_v15
   simp only[Option.some.injEq,Prod.mk.injEq]at g_v15
   obtain⟨rfl,rfl,rfl,rfl,rfl⟩:=g_v15
   exact qm.rq fol [2,5,8,11,16,18] [(2,.i r9)] (kE n.Desk n.Number n.Clock n.Line (kA2 r1.1 [.cells [.i r2,.i r3,.i r4,.i r8]])) (ac (cv (xu N n.Desk e_r2)) (ac (cv (za n.Number 1 1000 e_r3)) (ac (cv (za n.Clock 1 1000000 e_r4)) (ac (gw c5) (ac (cv (qz (r1.1.Kind==[117,110,100,111]) 25 e_r8)) (ac (hs (.call 86 [.slice 2 0 4 4 1] (kE n.Desk n.Number n.Clock n.Line (kA2 r1.1 [.cells [.i r2,.i r3,.i r4,.i r8]])) [2] [vl encI ([r2,r3,r4,r8]:List Int)] (.i r9)) (vI (FzL.cons (Fz.lit rfl rfl (FzL.still (AllST.cons tI (AllST.cons tI (AllST.cons tI (AllST.cons tI AllST.nil)))))) FzL.nil) (qN N ([r2,r3,r4,r8]:List Int) e_r9) tI rfl)) az))))))
 try dsimp only at h
 refine Goes.ret ?_
 obtain rfl:=si h
 exact(gw2 [.i n14] (FzW.still tI))
def zl (N:Nat) (l:List qb):Nat→Int→Option (Unit⊕Int)
 |0,_=>none
 |K+1,n2=>
  if n2<(l.length:Int)then
  (idx l n2).bind fun x6=>
  (if n2>0 then
  (idx l (w64 (n2-1))).bind fun x8=>
  (qW x8).bind fun r9=>
  (qW x6).bind fun r10=>
  (jo N r9 r10).bind fun r11=>
  if r11≥0 then
  some true
  else
  if(x8.Desk==x6.Desk)=true then
  some (decide (x8.Clock≥x6.Clock))
  else
  some false
  else
  some false:Option Bool).bind fun b14=>
  (yT N x6).bind fun r16=>
  (qE b14 11).bind fun r17=>
  (qC N ([r16,r17]:List Int)).bind fun r18=>
  if(!decide (r18=0))=true then
  some (.inr r18)
  else
  zl N l K (w64 (n2+1))
  else
  some (.inl ())
def qO (N:Nat) (l:List qb):Option Int:=
 if(l.length:Int)>1000 then
 some 5
 else
 (zl N l N 0).bind (fun
 |(.inl ())=>
 some 0
 |(.inr q20)=>
 some q20)
theorem ku (N:Nat) (l:List qb) {res:Int} (h:qO N l=some res):qf Tryz.prog (.fn 68) [vl qa l] [] (.i res) []:=by
 unfold qO at h
 refine Goes.fnW Tryz.func68 rfl rfl (m:=63) rfl (rs:=[.tmp 2]) rfl (l:=(kD l [])) rfl ?_
 refine sh fol (kD l []) ?_
 refine sq ?_
 refine sh fol (kD l [(9,.bool (decide ((l.length:Int)>1000)))]) ?_
 refine ihD h (fun c1 h=>?_) (fun c1 h=>?_)
 ·refine sh fol [(2,.i 5)] ?_
  refine Goes.ret ?_
  obtain rfl:=si h
  exact(gw2 [.i 5] (FzW.still tI))
 ·refine Goes.skip ?_
  refine sq ?_
  refine sh fol (kD l (kX l (l.length:Int) [(12,.i 0)])) ?_
  refine Goes.block ?_
  obtain⟨r3,g3,h⟩:=bnd h
  refine Goes.imp (Q:=fun x s'=>(x= .exit 0∧(.inl ())=r3∧Sub s' (ofG 63 [],[]))∨(x= .ret∧ ∃q4,(.inr q4)=r3∧zy Tryz.prog [.tmp 2] (.i q4) .ret s')) ?_ ?_
  ·refine Goes.loopS (fun M s=> ∃(n2:Int),s=(ofG 63 (kD l (kX l (l.length:Int) (kBM n2))),[])∧zl N l M n2=some r3) ?_ (m:=N) ⟨_,rfl,g3⟩
   rintro M s ⟨n2,rfl,g3⟩
   cases M with
   |zero=>simp only[zl]at g3;cases g3
   |succ M=>
    rw[zl]at g3
    refine sh fol (kD l (kX l (l.length:Int) [(12,.i n2),(13,.bool (decide (n2<(l.length:Int))))])) ?_
    refine sq ?_
    refine ihD g3 (fun c5 g3=>?_) (fun c5 g3=>?_)
    ·refine Goes.skip ?_
     refine sq (Goes.block ?_)
     obtain⟨x6,e_x6,g3⟩:=bnd g3
     refine sq (gq fol [1,2] (kD l (kAq n2 (kX l (l.length:Int) (kBM n2)))) (kE x6.Desk x6.Number x6.Clock x6.Line []) (ac (iv xn qa e_x6) (ac (la qak qa e_x6) az)) ?_)
     refine sq ?_
     obtain⟨b14,g_v15,g3⟩:=bnd g3
     refine Goes.cut (s':=(ofG 63 (kD l (kBX ((5,.bool b14)::(kX l (l.length:Int) (kBM n2))))),(kE x6.Desk x6.Number x6.Clock x6.Line []))) ?_ ?_
     ·rcases wyD g_v15 with⟨c7,g_v15⟩|⟨c7,g_v15⟩
      ·obtain⟨x8,e_x8,g_v15⟩:=bnd g_v15
       obtain⟨r9,e_r9,g_v15⟩:=bnd g_v15
       obtain⟨r10,e_r10,g_v15⟩:=bnd g_v15
       obtain⟨r11,e_r11,g_v15⟩:=bnd g_v15
       rcases wyD g_v15 with⟨c12,g_v15⟩|⟨c12,g_v15⟩
       ·obtain rfl:=si g_v15
        exact tr fol [2,6,7,8,10,11,13] (kD l (kBX ((5,.bool true)::(kX l (l.length:Int) (kBM n2))))) (ac (gw c7) (ac (iv xn qa e_x8) (ac (la qak qa e_x8) (ac (cv (zf x8 e_r9)) (ac (cv (zf x6 e_r10)) (ac (cv (y7 N r9 r10 e_r11)) (ac (gw c12) az)))))))
       ·rcases wyB g_v15 with⟨c13,g_v15⟩|⟨c13,g_v15⟩
        ·obtain rfl:=si g_v15
         exact tr fol [2,6,7,8,10,11,13,17,19,23,27,29] (kD l (kBX ((5,.bool (decide (x8.Clock≥x6.Clock)))::(kX l (l.length:Int) (kBM n2))))) (ac (gw c7) (ac (iv xn qa e_x8) (ac (la qak qa e_x8) (ac (cv (zf x8 e_r9)) (ac (cv (zf x6 e_r10)) (ac (cv (y7 N r9 r10 e_r11)) (ac (gw c12) (ac (iv xn qa e_x8) (ac (lv 0 ce9 qa e_x8 rfl) (ac (gw c13) (ac (iv xn qa e_x8) (ac (lv 2 ce3 qa e_x8 rfl) az))))))))))))
        ·obtain rfl:=si g_v15
         exact tr fol [2,6,7,8,10,11,13,17,19,23] (kD l (kBX ((5,.bool false)::(kX l (l.length:Int) (kBM n2))))) (ac (gw c7) (ac (iv xn qa e_x8) (ac (la qak qa e_x8) (ac (cv (zf x8 e_r9)) (ac (cv (zf x6 e_r10)) (ac (cv (y7 N r9 r10 e_r11)) (ac (gw c12) (ac (iv xn qa e_x8) (ac (lv 0 ce9 qa e_x8 rfl) (ac (gw c13) az))))))))))
      ·obtain rfl:=si g_v15
       exact tr fol [2] (kD l (kBX ((5,.bool false)::(kX l (l.length:Int) (kBM n2))))) (ac (gw c7) az)
     obtain⟨r16,e_r16,g3⟩:=bnd g3
     obtain⟨r17,e_r17,g3⟩:=bnd g3
     obtain⟨r18,e_r18,g3⟩:=bnd g3
     refine sq (gq fol [1,3,5] (kD l ((6,.i r18)::(kX l (l.length:Int) (kBM n2)))) (kE x6.Desk x6.Number x6.Clock x6.Line (kAC r16 r17)) (ac (cv (qd1 N x6 e_r16)) (ac (cv (qz b14 11 e_r17)) (ac (hs (.call 86 [.slice 1 0 2 2 1] (kE x6.Desk x6.Number x6.Clock x6.Line (kAC r16 r17)) [1] [vl encI ([r16,r17]:List Int)] (.i r18)) (vI (FzL.cons (Fz.lit rfl rfl (FzL.still (AllST.cons tI (AllST.cons tI AllST.nil)))) FzL.nil) (qN N ([r16,r17]:List Int) e_r18) tI rfl)) az))) ?_)
     refine sh fol (kD l ((6,.i r18)::(kX l (l.length:Int) [(12,.i n2),(60,.bool (!decide (r18=0)))]))) ?_
     refine ihB g3 (fun c19 g3=>?_) (fun c19 g3=>?_)
     ·refine sh fol [(2,.i r18)] ?_
      refine Goes.ret ?_
      obtain rfl:=si g3
      exact Or.inr (⟨rfl,_,rfl,(gw2 [.i r18] (FzW.still tI))⟩)
     ·refine Goes.skip ?_
      refine gh fol (kD l (kX l (l.length:Int) (kBM (w64 (n2+1))))) ?_
      exact⟨M,(ofG 63 (kD l (kX l (l.length:Int) (kBM (w64 (n2+1))))),[]),Nat.lt_succ_self _,(Sub.norm [] [] rfl rfl (.keep (.same (qd qa _)) (.keep (.same (qd qa _)) (.keep (.same nI) (.keep (.same nI) .nil)))) .nil),_,rfl,g3⟩
    ·refine Goes.exit ?_
     obtain rfl:=si g3
     exact Or.inl (⟨rfl,rfl,(Sub.keep [] rfl rfl)⟩)
  rintro x s' (⟨rfl,rfl,hsub⟩|⟨rfl,q20,rfl,hret⟩)
  ·try dsimp only at h
   refine Goes.sub hsub ?_
   refine sh fol [(2,.i 0)] ?_
   refine Goes.ret ?_
   obtain rfl:=si h
   exact(gw2 [.i 0] (FzW.still tI))
  ·try dsimp only at h
   obtain rfl:=si h
   exact hret
def ze (N:Nat) (v:List qB):Nat→Int→Option (Unit⊕Int)
 |0,_=>none
 |K+1,n2=>
  if n2<(v.length:Int)then
  (idx v n2).bind fun x6=>
  ((yE N x6.Desk).bind fun r7=>
  (zF x6.Number 0 1000).bind fun r8=>
  if n2>0 then
  (idx v (w64 (n2-1))).bind fun x10=>
  (qE (!(ltL x10.Desk x6.Desk)) 11).bind fun r11=>
  (qC N ([r7,r8,r11]:List Int)).bind fun r12=>
  some (r7,r8,r11,r12)
  else
  (qE false 11).bind fun r13=>
  (qC N ([r7,r8,r13]:List Int)).bind fun r14=>
  some (r7,r8,r13,r14):Option (Int×Int×Int×Int)).bind fun(n15,n16,n17,n18)=>
  if(!decide (n18=0))=true then
  some (.inr n18)
  else
  ze N v K (w64 (n2+1))
  else
  some (.inl ())
def yo (N:Nat) (v:List qB):Option Int:=
 if(v.length:Int)>1000 then
 some 5
 else
 (ze N v N 0).bind (fun
 |(.inl ())=>
 some 0
 |(.inr q21)=>
 some q21)
theorem qdf (N:Nat) (v:List qB) {res:Int} (h:yo N v=some res):qf Tryz.prog (.fn 119) [vl qj v] [] (.i res) []:=by
 unfold yo at h
 refine Goes.fnW Tryz.func119 rfl rfl (m:=42) rfl (rs:=[.tmp 2]) rfl (l:=(kAc v [])) rfl ?_
 refine sh fol (kAc v []) ?_
 refine sq ?_
 refine sh fol (kAc v [(8,.bool (decide ((v.length:Int)>1000)))]) ?_
 refine ihD h (fun c1 h=>?_) (fun c1 h=>?_)
 ·refine sh fol [(2,.i 5)] ?_
  refine Goes.ret ?_
  obtain rfl:=si h
  exact(gw2 [.i 5] (FzW.still tI))
 ·refine Goes.skip ?_
  refine sq ?_
  refine sh fol (kAc v [(9,vl qj v),(10,.i (v.length:Int)),(11,.i 0)]) ?_
  refine Goes.block ?_
  obtain⟨r3,g3,h⟩:=bnd h
  refine Goes.imp (Q:=fun x s'=>(x= .exit 0∧(.inl ())=r3∧Sub s' (ofG 42 [],[]))∨(x= .ret∧ ∃q4,(.inr q4)=r3∧zy Tryz.prog [.tmp 2] (.i q4) .ret s')) ?_ ?_
  ·refine Goes.loopS (fun M s=> ∃(n2:Int),s=(ofG 42 (kAc v (kAn v (v.length:Int) n2 [])),[])∧ze N v M n2=some r3) ?_ (m:=N) ⟨_,rfl,g3⟩
   rintro M s ⟨n2,rfl,g3⟩
   cases M with
   |zero=>simp only[ze]at g3;cases g3
   |succ M=>
    rw[ze]at g3
    refine sh fol (kAc v (kAn v (v.length:Int) n2 [(12,.bool (decide (n2<(v.length:Int))))])) ?_
    refine sq ?_
    refine ihD g3 (fun c5 g3=>?_) (fun c5 g3=>?_)
    ·refine Goes.skip ?_
     refine sq (Goes.block ?_)
     obtain⟨x6,e_x6,g3⟩:=bnd g3
     refine sq (gq fol [1,2] (kAc v (kAq n2 (kAn v (v.length:Int) n2 []))) (kAI x6.Desk x6.Number []) (ac (iv qj8 qj e_x6) (ac (la qnJ qj e_x6) az)) ?_)
     refine sq ?_
     obtain⟨⟨n15,n16,n17,n18⟩,g_v19,g3⟩:=bnd g3
     refine Goes.cut (s':=(ofG 42 (kAc v ((5,.i n18)::(kAn v (v.length:Int) n2 []))),(kAI x6.Desk x6.Number (kBZ n15 n16 n17)))) ?_ ?_
     ·obtain⟨r7,e_r7,g_v19⟩:=bnd g_v19
      obtain⟨r8,e_r8,g_v19⟩:=bnd g_v19
      rcases wyD g_v19 with⟨c9,g_v19⟩|⟨c9,g_v19⟩
      ·obtain⟨x10,e_x10,g_v19⟩:=bnd g_v19
       obtain⟨r11,e_r11,g_v19⟩:=bnd g_v19
       obtain⟨r12,e_r12,g_v19⟩:=bnd g_v19
       simp only[Option.some.injEq,Prod.mk.injEq]at g_v19
       obtain⟨rfl,rfl,rfl,rfl⟩:=g_v19
       exact qm.rq fol [2,5,8,12,14,19,21] (kAc v ((5,.i r12)::(kAn v (v.length:Int) n2 []))) (kAI x6.Desk x6.Number (kBZ r7 r8 r11)) (ac (cv (xu N x6.Desk e_r7)) (ac (cv (za x6.Number 0 1000 e_r8)) (ac (gw c9) (ac (iv qj8 qj e_x10) (ac (lv 0 ce9 qj e_x10 rfl) (ac (cv (qz (!(ltL x10.Desk x6.Desk)) 11 e_r11)) (ac (hs (.call 86 [.slice 1 0 3 3 1] (kAI x6.Desk x6.Number (kBZ r7 r8 r11)) [1] [vl encI ([r7,r8,r11]:List Int)] (.i r12)) (vI (FzL.cons (Fz.lit rfl rfl (FzL.still (AllST.cons tI (AllST.cons tI (AllST.cons tI AllST.nil))))) FzL.nil) (qN N ([r7,r8,r11]:List Int) e_r12) tI rfl)) az)))))))
      ·obtain⟨r13,e_r13,g_v19⟩:=bnd g_v19
       obtain⟨r14,e_r14,g_v19⟩:=bnd g_v19
       simp only[Option.some.injEq,Prod.mk.injEq]at g_v19
       obtain⟨rfl,rfl,rfl,rfl⟩:=g_v19
       exact qm.rq fol [2,5,8,19,21] (kAc v ((5,.i r14)::(kAn v (v.length:Int) n2 []))) (kAI x6.Desk x6.Number (kBZ r7 r8 r13)) (ac (cv (xu N x6.Desk e_r7)) (ac (cv (za x6.Number 0 1000 e_r8)) (ac (gw c9) (ac (cv (qz false 11 e_r13)) (ac (hs (.call 86 [.slice 1 0 3 3 1] (kAI x6.Desk x6.Number (kBZ r7 r8 r13)) [1] [vl encI ([r7,r8,r13]:List Int)] (.i r14)) (vI (FzL.cons (Fz.lit rfl rfl (FzL.still (AllST.cons tI (AllST.cons tI (AllST.cons tI AllST.nil))))) FzL.nil) (qN N ([r7,r8,r13]:List Int) e_r14) tI rfl)) az)))))
     try dsimp only at g3
     refine sh fol (kAc v ((5,.i n18)::(kAn v (v.length:Int) n2 [(39,.bool (!decide (n18=0)))]))) ?_
     refine ihB g3 (fun c20 g3=>?_) (fun c20 g3=>?_)
     ·refine sh fol [(2,.i n18)] ?_
      refine Goes.ret ?_
      obtain rfl:=si g3
      exact Or.inr (⟨rfl,_,rfl,(gw2 [.i n18] (FzW.still tI))⟩)
     ·refine Goes.skip ?_
      refine gh fol (kAc v (kAn v (v.length:Int) (w64 (n2+1)) [])) ?_
      exact⟨M,(ofG 42 (kAc v (kAn v (v.length:Int) (w64 (n2+1)) [])),[]),Nat.lt_succ_self _,(Sub.norm [] [] rfl rfl (.keep (.same (qd qj _)) (.keep (.same (qd qj _)) (.keep (.same nI) (.keep (.same nI) .nil)))) .nil),_,rfl,g3⟩
    ·refine Goes.exit ?_
     obtain rfl:=si g3
     exact Or.inl (⟨rfl,rfl,(Sub.keep [] rfl rfl)⟩)
  rintro x s' (⟨rfl,rfl,hsub⟩|⟨rfl,q21,rfl,hret⟩)
  ·try dsimp only at h
   refine Goes.sub hsub ?_
   refine sh fol [(2,.i 0)] ?_
   refine Goes.ret ?_
   obtain rfl:=si h
   exact(gw2 [.i 0] (FzW.still tI))
  ·try dsimp only at h
   obtain rfl:=si h
   exact hret
def xz (n:qb):Option qb:=
 some n
theorem qdx (n:qb) {res:qb} (h:xz n=some res):qf Tryz.prog (.fn 122) [.agg (kAk n.Desk n.Number n.Clock n.Line)] [] (.agg (kAk res.Desk res.Number res.Clock res.Line)) []:=by
 unfold xz at h
 refine Goes.fnW Tryz.func122 rfl rfl (m:=4) rfl (rs:=[.cell 2 132]) rfl (l:=(kBk n.Desk n.Number n.Clock n.Line [])) rfl ?_
 refine sg fol (kAV kBW) (kE n.Desk n.Number n.Clock n.Line [.cells [.str [],.i 0,.i 0,.str []]]) ?_
 refine sg fol kBW (kE n.Desk n.Number n.Clock n.Line (kE n.Desk n.Number n.Clock n.Line [])) ?_
 refine Goes.ret ?_
 obtain rfl:=si h
 exact(gw2 [.agg (kAk n.Desk n.Number n.Clock n.Line)] (FzW.agg (qw.cons (FzW.still tS) (qw.cons (FzW.still tI) (qw.cons (FzW.still tI) (qw.cons (FzW.still tS) qw.nil))))))
def yC (a0_:Str) (a1_:Int) (a2_:Int) (a3_:Str) (a4_:List (Str×Int)):Option Unit:=
 some ()
theorem qcs (a0_:Str) (a1_:Int) (a2_:Int) (a3_:Str) (a4_:List (Str×Int)) (h:yC a0_ a1_ a2_ a3_ a4_=some ()):qf Tryz.prog (.fn 121) (kBf a0_ a1_ a2_ a3_ [.ptr 0 0]) (kAd [mI a4_]) (.bool (decide (a1_>((qby a4_ a0_).getD 0)))) (kAd [mI a4_]):=by
 unfold yC at h
 refine Goes.fnH Tryz.func121 rfl rfl (m:=11) rfl (rs:=[.tmp 3]) rfl (l:=(kBk a0_ a1_ a2_ a3_ (kAV []))) rfl ?_
 intro B hB
 refine sg fol (kAV [(2,.ptr 2 0)]) (kAd (mI a4_::(kE a0_ a1_ a2_ a3_ []))) ?_
 refine sq (gr fol [5] [(3,.bool (decide (a1_>((qby a4_ a0_).getD 0))))] (ac (hs (.run [1] (zx Tryz.prog 65 (.map 1) (.str a0_) false) (kAd (mI a4_::(kE a0_ a1_ a2_ a3_ []))) (.i ((qby a4_ a0_).getD 0)) (kAd (mI a4_::(kE a0_ a1_ a2_ a3_ []))) false) (qnr (z:=0) (f:=fI) qoQ keyS rfl a0_)) az) ?_)
 refine Goes.ret ?_
 exact(gh2 [.bool (decide (a1_>((qby a4_ a0_).getD 0)))] (Sub.norm [] [some 0,some 1] (by rw[hB];rfl) rfl (.keep (.same nB) .nil) (.kb rfl (.cells (rc (.map rfl) rn)) (.kb rfl (.map (mpN fun _=>nS) (mpN fun _=>nI)) .nil))))
def kr (a0_:List qb) (a1_:List (Str×Int)):Nat→(List qb)→Int→Option (List qb)
 |0,_,_=>none
 |K+1,l2,n3=>
  if n3<(a0_.length:Int)then
  (((idx a0_ n3).bind fun x9=>
  (yC x9.Desk x9.Number x9.Clock x9.Line a1_).bind fun _=>
  if(decide (x9.Number>((qby a1_ x9.Desk).getD 0)))=true then
  (xz x9).bind fun r12=>
  (app 48 l2 [r12]).bind fun l13=>
  some l13
  else
  some l2:Option (List qb))).bind fun l7=>
  kr a0_ a1_ K l7 (w64 (n3+1))
  else
  some l2
def yx (N:Nat) (a0_:List qb) (a1_:List (Str×Int)):Option (List qb):=
 (kr a0_ a1_ N ([]:List qb) 0).bind fun l4=>
 some l4
theorem qb8 (N:Nat) (a0_:List qb) (a1_:List (Str×Int)) {l1:List qb} (h:yx N a0_ a1_=some l1):qf Tryz.prog (.fn 120) (kAv a0_ [.func (.func 121) [] [.ptr 0 0],.func (.func 122) [] []]) (kAd [mI a1_]) (.gslice 2 l1.length 4) (kAd (mI a1_::(kB l1 []))):=by
 unfold yx at h
 refine Goes.fnH Tryz.func120 rfl rfl (m:=27) rfl (rs:=[.tmp 6]) rfl (l:=(kD a0_ [(1,.func (.func 121) [] [.ptr 0 0]),(2,.func (.func 122) [] [])])) rfl ?_
 intro B hB
 refine sh fol (kD a0_ [(1,.func (.func 121) [] [.ptr 0 0]),(2,.func (.func 122) [] [])]) ?_
 refine sh fol (kD a0_ [(1,.func (.func 121) [] [.ptr 0 0]),(2,.func (.func 122) [] []),(7,.nilslice)]) ?_
 refine sq ?_
 refine sh fol ((1,.func (.func 121) [] [.ptr 0 0])::(2,.func (.func 122) [] [])::(7,.nilslice)::(kX a0_ (a0_.length:Int) [(12,.i 0)])) ?_
 refine Goes.block ?_
 obtain⟨r5,g5,h⟩:=bnd h
 refine Goes.imp (Q:=fun x s'=>(x= .exit 0∧ ∃l4,l4=r5∧Sub s' (ofG 27 (kBQ l4 []),(kAd (mI a1_::(kB l4 [])))))) ?_ ?_
 ·refine Goes.sub (s':=(ofG 27 ((1,.func (.func 121) [] [.ptr 0 0])::(2,.func (.func 122) [] [])::(7,.gslice 2 ([]:List qb).length 4)::(kX a0_ (a0_.length:Int) [(12,.i 0)])),(kAd (mI a1_::kAh)))) (Sub.norm [] [some 0,some 1,none] (by rw[hB];rfl) rfl (.keep (.funcL (sn) (rc (.ptr rfl) rn)) (.keep (.same (qx.func sn sn)) (.keep .nil (.keep (.same (qd qa _)) (.keep (.same nI) (.keep (.same nI) .nil)))))) (.kb rfl (.cells (rc (.map rfl) rn)) (.kb rfl (.map (mpN fun _=>nS) (mpN fun _=>nI)) (.fresh .nil)))) ?_
  refine Goes.loopS (fun M s=> ∃(l2:List qb) (n3:Int),s=(ofG 27 ((1,.func (.func 121) [] [.ptr 0 0])::(2,.func (.func 122) [] [])::(kBQ l2 (kX a0_ (a0_.length:Int) (kBM n3)))),(kAd (mI a1_::(kB l2 []))))∧kr a0_ a1_ M l2 n3=some r5) ?_ (m:=N) ⟨_,_,rfl,g5⟩
  rintro M s ⟨l2,n3,rfl,g5⟩
  cases M with
  |zero=>simp only[kr]at g5;cases g5
  |succ M=>
   rw[kr]at g5
   refine sh fol ((1,.func (.func 121) [] [.ptr 0 0])::(2,.func (.func 122) [] [])::(kBQ l2 (kX a0_ (a0_.length:Int) [(12,.i n3),(13,.bool (decide (n3<(a0_.length:Int))))]))) ?_
   refine sq ?_
   refine ihD g5 (fun c6 g5=>?_) (fun c6 g5=>?_)
   ·refine Goes.skip ?_
    refine sq ?_
    obtain⟨r8,g8,g5⟩:=bnd g5
    refine Goes.imp (Q:=fun x s'=>(x= .normal∧ ∃l7,l7=r8∧Sub s' (ofG 27 ((1,.func (.func 121) [] [.ptr 0 0])::(2,.func (.func 122) [] [])::(kBQ l7 (kX a0_ (a0_.length:Int) (kBM n3)))),(kAd (mI a1_::(kB l7 [])))))) ?_ ?_
    ·refine Goes.block ?_
     obtain⟨x9,e_x9,g8⟩:=bnd g8
     refine sq (gq fol [0,1] ((1,.func (.func 121) [] [.ptr 0 0])::(2,.func (.func 122) [] [])::(kBQ l2 ((9,.ptr 3 0)::(kX a0_ (a0_.length:Int) (kBM n3))))) (kAd (mI a1_::(kB l2 (kE x9.Desk x9.Number x9.Clock x9.Line [])))) (ac (iv xn qa e_x9) (ac (la qak qa e_x9) az)) ?_)
     obtain⟨_,e_r10,g8⟩:=bnd g8
     refine sq (gr fol [2] ((1,.func (.func 121) [] [.ptr 0 0])::(2,.func (.func 122) [] [])::(kBQ l2 ((9,.ptr 3 0)::(kX a0_ (a0_.length:Int) [(12,.i n3),(18,.bool (decide (x9.Number>((qby a1_ x9.Desk).getD 0))))])))) (ac (hs (.callH 121 (kBf x9.Desk x9.Number x9.Clock x9.Line [.ptr 0 0]) (kAd (mI a1_::(kB l2 (kE x9.Desk x9.Number x9.Clock x9.Line [])))) [0,1] (.bool (decide (x9.Number>((qby a1_ x9.Desk).getD 0)))) (kAd (mI a1_::(kB l2 (kE x9.Desk x9.Number x9.Clock x9.Line []))))) (ji [some 0,some 1] [some 0,some 1,none,none] (qcs x9.Desk x9.Number x9.Clock x9.Line a1_ e_r10) (.kb rfl (.cells (rc (.map rfl) rn)) (.kb rfl (.map (mpN fun _=>nS) (mpN fun _=>nI)) .nil)) rfl rfl (.back rfl rfl (.cells (rc (.map rfl) rn)) rfl (.back rfl rfl (.map (mpN fun _=>nS) (mpN fun _=>nI)) rfl (.old rfl rfl (.old rfl rfl .nil)))) (rc (.same (qx.agg sn)) (rc (.ptr rfl) rn)) (.same nB) rfl)) az) ?_)
     refine ihB g8 (fun c11 g8=>?_) (fun c11 g8=>?_)
     ·obtain⟨r12,e_r12,g8⟩:=bnd g8
      obtain⟨l13,e_l13,g8⟩:=bnd g8
      refine gq fol [3,5] ((1,.func (.func 121) [] [.ptr 0 0])::(2,.func (.func 122) [] [])::(7,.gslice 5 l13.length 4)::(kX a0_ (a0_.length:Int) (kBM n3))) (kAd (mI a1_:: .dead::(kE x9.Desk x9.Number x9.Clock x9.Line (kE r12.Desk r12.Number r12.Clock r12.Line (kB l13 []))))) (ac (cv (qdx x9 e_r12)) (ac (hs (.run [2,4] (zh Tryz.prog [96,96] (.gslice 2 l2.length 4) (.slice 4 0 1 1 4)) (kAd (mI a1_::(kB l2 (kE x9.Desk x9.Number x9.Clock x9.Line (kE r12.Desk r12.Number r12.Clock r12.Line []))))) (.gslice 5 l13.length 4) (kAd (mI a1_:: .dead::(kE x9.Desk x9.Number x9.Clock x9.Line (kE r12.Desk r12.Number r12.Clock r12.Line (kB l13 []))))) true) (jE xn (E:=qa) rfl (qaB (E:=qa) (ys:=[r12]) rfl rfl rfl rfl) (qcg (E:=qa) (l:=l2) rfl rfl rfl e_l13 rfl))) az)) ?_
      obtain rfl:=si g8
      exact⟨rfl,_,rfl,(Sub.norm [] [some 0,some 1,some 5] (by rw[hB];rfl) rfl (.keep (.funcL (sn) (rc (.ptr rfl) rn)) (.keep (.same (qx.func sn sn)) (.keep (.gslice rfl) (.keep (.same (qd qa _)) (.keep (.same nI) (.keep (.same nI) .nil)))))) (.kb rfl (.cells (rc (.map rfl) rn)) (.kb rfl (.map (mpN fun _=>nS) (mpN fun _=>nI)) (.ks .nil))))⟩
     ·refine Goes.skip ?_
      obtain rfl:=si g8
      exact⟨rfl,_,rfl,(Sub.norm [] [some 0,some 1,some 2] (by rw[hB];rfl) rfl (.keep (.funcL (sn) (rc (.ptr rfl) rn)) (.keep (.same (qx.func sn sn)) (.keep (.gslice rfl) (.drop (.keep (.same (qd qa _)) (.keep (.same nI) (.keep (.same nI) .nil))))))) (.kb rfl (.cells (rc (.map rfl) rn)) (.kb rfl (.map (mpN fun _=>nS) (mpN fun _=>nI)) (.ks .nil))))⟩
    rintro x s' ⟨rfl,l7,rfl,hsub⟩
    refine Goes.sub hsub ?_
    refine gh fol ((1,.func (.func 121) [] [.ptr 0 0])::(2,.func (.func 122) [] [])::(kBQ l7 (kX a0_ (a0_.length:Int) (kBM (w64 (n3+1)))))) ?_
    exact⟨M,(ofG 27 ((1,.func (.func 121) [] [.ptr 0 0])::(2,.func (.func 122) [] [])::(kBQ l7 (kX a0_ (a0_.length:Int) (kBM (w64 (n3+1)))))),(kAd (mI a1_::(kB l7 [])))),Nat.lt_succ_self _,(Sub.refl _),_,_,rfl,g5⟩
   ·refine Goes.exit ?_
    obtain rfl:=si g5
    exact⟨rfl,_,rfl,(Sub.keep [7] rfl rfl)⟩
 rintro x s' ⟨rfl,l4,rfl,hsub⟩
 refine Goes.sub hsub ?_
 refine sh fol [(6,.gslice 2 l4.length 4)] ?_
 refine Goes.ret ?_
 obtain rfl:=si h
 exact(gh2 [.gslice 2 l4.length 4] (qc0.refl _ _))
def jy (v:List qB):Nat→(List (Str×Int))→Int→Option (List (Str×Int))
 |0,_,_=>none
 |K+1,l5,n6=>
  if n6<(v.length:Int)then
  (idx v n6).bind fun x10=>
  (some (qeu l5 x10.Desk x10.Number)).bind fun m11=>
  jy v K m11 (w64 (n6+1))
  else
  some l5
def xW (N:Nat) (l:List qb) (v:List qB):Option ((List qb)×Int):=
 (qO N l).bind fun r1=>
 (yo N v).bind fun r2=>
 (qC N ([r1,r2]:List Int)).bind fun r3=>
 if(!decide (r3=0))=true then
 some ([],r3)
 else
 (jy v N ([]:List (Str×Int)) 0).bind fun l7=>
 (yx N l l7).bind fun l13=>
 some (l13,0)
theorem qeR (N:Nat) (l:List qb) (v:List qB) {res:(List qb)×Int} (h:xW N l v=some res):qf Tryz.prog (.fn 58) (kAv l [vl qj v]) [] (.tuple (kAv res.1 [.i res.2])) []:=by
 unfold xW at h
 refine Goes.fnW Tryz.func58 rfl rfl (m:=35) rfl (rs:=[.tmp 4,.tmp 5]) rfl (l:=(kD l [(1,vl qj v)])) rfl ?_
 refine sh fol (kD l [(1,vl qj v)]) ?_
 refine sq ?_
 obtain⟨r1,e_r1,h⟩:=bnd h
 obtain⟨r2,e_r2,h⟩:=bnd h
 obtain⟨r3,e_r3,h⟩:=bnd h
 refine sq (gq fol [1,3,5] (kD l ((1,vl qj v)::(kBj r3))) (kAC r1 r2) (ac (cv (ku N l e_r1)) (ac (cv (qdf N v e_r2)) (ac (hs (.call 86 [.slice 0 0 2 2 1] (kAC r1 r2) [0] [vl encI ([r1,r2]:List Int)] (.i r3)) (vI (FzL.cons (Fz.lit rfl rfl (FzL.still (AllST.cons tI (AllST.cons tI AllST.nil)))) FzL.nil) (qN N ([r1,r2]:List Int) e_r3) tI rfl)) az))) ?_)
 refine sh fol (kD l [(1,vl qj v),(6,.i r3),(17,.bool (!decide (r3=0)))]) ?_
 refine ihB h (fun c4 h=>?_) (fun c4 h=>?_)
 ·refine sh fol ((4,.nilslice)::(kA4 r3)) ?_
  refine Goes.ret ?_
  obtain rfl:=si h
  exact(gw2 [.nilslice,.i r3] (FzW.tuple (qw.cons (FzW.nilv (E:=qa)) (qw.cons (FzW.still tI) qw.nil))))
 ·refine Goes.skip ?_
  refine sg fol (kD l [(1,vl qj v),(7,.ptr 2 0)]) (.cells [.i r1,.i r2]::mI ([]:List (Str×Int))::(kAd [])) ?_
  refine sq ?_
  refine sh fol (kD l [(7,.ptr 2 0),(20,vl qj v),(21,.i (v.length:Int)),(22,.i 0)]) ?_
  refine Goes.block ?_
  obtain⟨r8,g8,h⟩:=bnd h
  refine Goes.imp (Q:=fun x s'=>(x= .exit 0∧ ∃l7,l7=r8∧Sub s' (ofG 35 (kD l [(7,.ptr 0 0)]),(kAd [mI l7])))) ?_ ?_
  ·refine Goes.sub (s':=(ofG 35 (kD l (kAx v (v.length:Int) [(22,.i 0)])),(kAd [mI ([]:List (Str×Int))]))) (Sub.norm [] [some 2,some 1] rfl rfl (.keep (.same (qd qa _)) (.kp (.keep (.same (qd qj _)) (.keep (.same nI) (.keep (.same nI) .nil))))) (.kb rfl (.cells (rc (.map rfl) rn)) (.kb rfl (.map (mpN fun _=>nS) (mpN fun _=>nI)) .nil))) ?_
   refine Goes.loopS (fun M s=> ∃(l5:List (Str×Int)) (n6:Int),s=(ofG 35 (kD l (kAx v (v.length:Int) [(22,.i n6)])),(kAd [mI l5]))∧jy v M l5 n6=some r8) ?_ (m:=N) ⟨_,_,rfl,g8⟩
   rintro M s ⟨l5,n6,rfl,g8⟩
   cases M with
   |zero=>simp only[jy]at g8;cases g8
   |succ M=>
    rw[jy]at g8
    refine sh fol (kD l (kAx v (v.length:Int) [(22,.i n6),(23,.bool (decide (n6<(v.length:Int))))])) ?_
    refine sq ?_
    refine ihD g8 (fun c9 g8=>?_) (fun c9 g8=>?_)
    ·refine Goes.skip ?_
     refine sq (Goes.block ?_)
     obtain⟨x10,e_x10,g8⟩:=bnd g8
     refine sq (gq fol [0,1] (kD l [(7,.ptr 0 0),(9,.ptr 2 0),(20,vl qj v),(21,.i (v.length:Int)),(22,.i n6)]) (kAd (mI l5::(kAI x10.Desk x10.Number []))) (ac (iv qj8 qj e_x10) (ac (la qnJ qj e_x10) az)) ?_)
     obtain⟨m11,e_m11,g8⟩:=bnd g8
     refine gq fol [5] (kD l (kAx v (v.length:Int) [(22,.i n6)])) (kAd (mI m11::(kAI x10.Desk x10.Number []))) (ac (hs (.run [1] (qas Tryz.prog 65 (.map 1) (.str x10.Desk) (.i x10.Number)) (kAd (mI l5::(kAI x10.Desk x10.Number []))) .undef (kAd (mI m11::(kAI x10.Desk x10.Number []))) true) (upm qoQ keyS fI rfl x10.Desk x10.Number e_m11 rfl)) az) ?_
     refine gh fol (kD l (kAx v (v.length:Int) [(22,.i (w64 (n6+1)))])) ?_
     exact⟨M,(ofG 35 (kD l (kAx v (v.length:Int) [(22,.i (w64 (n6+1)))])),(kAd [mI m11])),Nat.lt_succ_self _,(Sub.norm [] [some 0,some 1] rfl rfl (.keep (.same (qd qa _)) (.kp (.keep (.same (qd qj _)) (.keep (.same nI) (.keep (.same nI) .nil))))) (.kb rfl (.cells (rc (.map rfl) rn)) (.kb rfl (.map (mpN fun _=>nS) (mpN fun _=>nI)) .nil))),_,_,rfl,g8⟩
    ·refine Goes.exit ?_
     obtain rfl:=si g8
     exact⟨rfl,_,rfl,(Sub.keep [0,7] rfl rfl)⟩
  rintro x s' ⟨rfl,l7,rfl,hsub⟩
  refine Goes.sub hsub ?_
  obtain⟨l13,e_r12,h⟩:=bnd h
  refine sq (gq fol [2] ((4,.gslice 2 l13.length 4)::kBi) (kAd (mI l7::(kB l13 []))) (ac (hs (.callH 120 (kAv l [.func (.func 121) [] [.ptr 0 0],.func (.func 122) [] []]) (kAd [mI l7]) [0,1] (.gslice 2 l13.length 4) (kAd (mI l7::(kB l13 [])))) (ji [some 0,some 1] [some 0,some 1,some 2] (qb8 N l l7 e_r12) (.kb rfl (.cells (rc (.map rfl) rn)) (.kb rfl (.map (mpN fun _=>nS) (mpN fun _=>nI)) .nil)) rfl rfl (.back rfl rfl (.cells (rc (.map rfl) rn)) rfl (.back rfl rfl (.map (mpN fun _=>nS) (mpN fun _=>nI)) rfl (.new rfl rfl (.same fa) rfl .nil))) (rc (.same (qd qa _)) (rc (.funcL (sn) (rc (.ptr rfl) rn)) (rc (.same (qx.func sn sn)) rn))) (.gslice rfl) rfl)) az) ?_)
  refine Goes.ret ?_
  obtain rfl:=si h
  exact(gw2 [.gslice 2 l13.length 4,.i 0] (FzW.tuple (qw.cons (FzW.fz (Fz.gs (E:=qa) rfl rfl (nl rfl))) (qw.cons (FzW.still tI) qw.nil))))
def yH:Option (List qb):=
 qeX (some []) ((app 48 ([]:List qb) ([]:List qb)).bind fun l1=>
 some l1)
theorem qcR {res:List qb} (h:yH=some res):qf Tryz.prog (.fn 123) [vl qa ([]:List qb)] [] (vl qa res) []:=by
 unfold yH at h
 refine Goes.fnW Tryz.func123 rfl rfl (m:=8) rfl (rs:=[.tmp 2]) rfl (l:=(kW [])) rfl ?_
 refine sh fol (kW []) ?_
 refine sq ?_
 refine sh fol (kW [(4,.anyb)]) ?_
 refine Goes.condAny (by kernel_rfl) ?_ ?_
 ·replace h:=(qa5 h).1
  refine sh fol [(2,.nilslice)] ?_
  refine Goes.ret ?_
  obtain rfl:=si h
  exact(gw2 [.nilslice] (FzW.nilv (E:=qa)))
 ·replace h:=(qa5 h).2
  refine Goes.skip ?_
  obtain⟨l1,e_l1,h⟩:=bnd h
  refine sq (gq fol [2] [(2,.oslice 1 l1.length 4)] (.dead::(kB l1 [])) (ac (hs (.run [0] (zh Tryz.prog [96,96] (.slice 0 0 0 0 4) (vl qa ([]:List qb))) [.cells []] (.oslice 1 l1.length 4) (.dead::(kB l1 [])) true) (jE xn (E:=qa) rfl (qfY (E:=qa) rfl _) (qgD (E:=qa) rfl rfl rfl e_l1 rfl))) az) ?_)
  refine Goes.ret ?_
  obtain rfl:=si h
  exact(gw2 [.oslice 1 l1.length 4] (FzW.fz (Fz.os (E:=qa) rfl rfl (nl rfl))))
def qad (hd:qb) (tl:List qb):Option (List qb):=
 (app 48 ([]:List qb) (hd::tl)).bind fun l1=>
 some l1
theorem qcQ (hd:qb) (tl:List qb) {res:List qb} (h:qad hd tl=some res):qf Tryz.prog (.fn 123) [vl qa (hd::tl)] [] (vl qa res) []:=by
 unfold qad at h
 refine Goes.fnW Tryz.func123 rfl rfl (m:=8) rfl (rs:=[.tmp 2]) rfl (l:=(kD (hd::tl) [])) rfl ?_
 refine sh fol (kD (hd::tl) []) ?_
 refine sq ?_
 refine sh fol (kD (hd::tl) kAf) ?_
 refine Goes.ifB (b:=false) (by kernel_rfl) (fun c=>(by cases c)) (fun _=>?_)
 refine Goes.skip ?_
 obtain⟨l1,e_l1,h⟩:=bnd h
 refine sq (gq fol [2] [(2,.oslice 1 l1.length 4)] (.dead::(kB l1 [])) (ac (hs (.run [0] (zh Tryz.prog [96,96] (.slice 0 0 0 0 4) (vl qa (hd::tl))) [.cells []] (.oslice 1 l1.length 4) (.dead::(kB l1 [])) true) (jE xn (E:=qa) rfl (qfY (E:=qa) rfl _) (qgD (E:=qa) rfl rfl rfl e_l1 rfl))) az) ?_)
 refine Goes.ret ?_
 obtain rfl:=si h
 exact(gw2 [.oslice 1 l1.length 4] (FzW.fz (Fz.os (E:=qa) rfl rfl (nl rfl))))
def xA:(List qb)→Option (List qb)
 |[]=>yH
 |hd::tl=>qad hd tl
theorem qdr (l:List qb) {res:List qb} (h:xA l=some res):qf Tryz.prog (.fn 123) [vl qa l] [] (vl qa res) []:=by
 cases l with
 |nil=>exact qcR h
 |cons hd tl=>exact qcQ hd tl h
def xP (n:qb) (o:qb):Option Int:=
 (cmp_Compare_int n.Clock o.Clock).bind fun r1=>
 some r1
theorem qb1 (n:qb) (o:qb) {res:Int} (h:xP n o=some res):qf Tryz.prog (.fn 125) (kBf n.Desk n.Number n.Clock n.Line (kBf o.Desk o.Number o.Clock o.Line [])) [] (.i res) []:=by
 unfold xP at h
 refine Goes.fnW Tryz.func125 rfl rfl (m:=10) rfl (rs:=[.tmp 4]) rfl (l:=(kBk n.Desk n.Number n.Clock n.Line [(1,.agg [.str o.Desk,.i o.Number,.i o.Clock,.str o.Line])])) rfl ?_
 refine sg fol (kAj (kA8 [])) (kE n.Desk n.Number n.Clock n.Line (kE o.Desk o.Number o.Clock o.Line [])) ?_
 obtain⟨r1,e_r1,h⟩:=bnd h
 refine sq (gr fol [4] [(4,.i r1)] (ac (cv (qbH n.Clock o.Clock e_r1)) az) ?_)
 refine Goes.ret ?_
 obtain rfl:=si h
 exact(gw2 [.i r1] (FzW.still tI))
end Go.Av
end
noncomputable section
namespace Go.Av
open Go.Proofs Go.RowKit
set_option linter.unusedSectionVars false
set_option linter.unusedVariables false
set_option linter.unusedSimpArgs false
set_option maxRecDepth 100000
def je (N:Nat) (e:qg):Nat→Int→Option (Unit⊕Int)
 |0,_=>none
 |K+1,n22=>
  if n22<(e.Names.length:Int)then
  (idx e.Names n22).bind fun x26=>
  (yE N x26).bind fun r27=>
  if(!decide (r27=0))=true then
  some (.inr r27)
  else
  je N e K (w64 (n22+1))
  else
  some (.inl ())
def ja (e:qg):Nat→Int→Option (Unit⊕Int)
 |0,_=>none
 |K+1,n29=>
  if n29<(e.Values.length:Int)then
  (idx e.Values n29).bind fun x33=>
  (zF x33 0 999999999).bind fun r34=>
  if(!decide (r34=0))=true then
  some (.inr r34)
  else
  ja e K (w64 (n29+1))
  else
  some (.inl ())
def yF (N:Nat) (e:qg):Option Int:=
 ((zY).bind fun r1=>
 if(e.Kind==[109,97,107,101])=true then
 some (2,3,true)
 else
 if(e.Kind==[116,101,115,116])=true then
 some (1,2,true)
 else
 if(e.Kind==[117,115,101])=true then
 some (1,2,true)
 else
 if(e.Kind==[102,97,105,108])=true then
 some (1,1,true)
 else
 if(e.Kind==[114,101,99,97,108,108])=true then
 some (1,1,true)
 else
 if(e.Kind==[117,110,100,111])=true then
 some (0,0,true)
 else
 some (0,0,false):Option (Int×Int×Bool)).bind fun(n8,n9,b10)=>
 ((zF e.Number 1 1000).bind fun r12=>
 (qE (!b10) 13).bind fun r13=>
 if(!decide ((e.Names.length:Int)=n8))=true then
 (qE true 2).bind fun r15=>
 (qC N ([r12,r13,r15]:List Int)).bind fun r16=>
 some r16
 else
 (qE (!decide ((e.Values.length:Int)=n9)) 2).bind fun r17=>
 (qC N ([r12,r13,r17]:List Int)).bind fun r18=>
 some r18:Option Int).bind fun n19=>
 if(!decide (n19=0))=true then
 some n19
 else
 (je N e N 0).bind (fun
 |(.inl ())=>
 (ja e N 0).bind (fun
 |(.inl ())=>
 (qE (!(e.Text==[])) 1).bind fun r36=>
 some r36
 |(.inr q37)=>
 some q37)
 |(.inr q38)=>
 some q38)
theorem qdj (N:Nat) (e:qg) {res:Int} (h:yF N e=some res):qf Tryz.prog (.fn 18) [.agg (cE e)] [] (.i res) []:=by
 unfold yF at h
 refine Goes.fnW Tryz.func18 rfl rfl (m:=75) rfl (rs:=[.tmp 2]) rfl (l:=[(0,.agg (cE e))]) rfl ?_
 refine sg fol (kAV []) (kA2 e []) ?_
 refine sq ?_
 obtain⟨⟨n8,n9,b10⟩,g_v11,h⟩:=bnd h
 refine Goes.cutS (s':=(ofG 75 (kAV (kA8 [(4,.bool b10)])),(kA2 e (kBe n8 n9 [])))) ?_ ?_
 ·obtain⟨r1,e_r1,g_v11⟩:=bnd g_v11
  rcases wyB g_v11 with⟨c2,g_v11⟩|⟨c2,g_v11⟩
  ·simp only[Option.some.injEq,Prod.mk.injEq]at g_v11
   obtain⟨rfl,rfl,rfl⟩:=g_v11
   exact qm.sub (qm.rq fol [0,3] (kAV (kA8 kAt)) (kA2 e [.cells [.i 2,.i 3,.func (.func 141) [] []]]) (ac (cv (qH e_r1)) (ac (hs (.done (zx Tryz.prog 154 (fm1) (.str e.Kind) true) (.tuple (.agg [.i 2,.i 3,.func (.func 141) [] []]::kA1))) (qbi qaR [[109,97,107,101],[116,101,115,116],[117,115,101],[102,97,105,108],[114,101,99,97,108,108],[117,110,100,111]] (jJ c2) rfl)) az))) (Sub.norm [] [some 0,some 1] rfl rfl (.kp (.kp (.keep (.same nB) .nil))) (.kb rfl (.same sn) (.kb rfl (.cells (rc (.same nI) (rc (.same nI) (rc (.undef) rn)))) .nil)))
  ·rcases wyB g_v11 with⟨c3,g_v11⟩|⟨c3,g_v11⟩
   ·simp only[Option.some.injEq,Prod.mk.injEq]at g_v11
    obtain⟨rfl,rfl,rfl⟩:=g_v11
    exact qm.sub (qm.rq fol [0,3] (kAV (kA8 kAt)) (kA2 e [.cells [.i 1,.i 2,.func (.func 142) [] []]]) (ac (cv (qH e_r1)) (ac (hs (.done (zx Tryz.prog 154 (fm1) (.str e.Kind) true) (.tuple (.agg [.i 1,.i 2,.func (.func 142) [] []]::kA1))) (qbi qaR [[109,97,107,101],[116,101,115,116],[117,115,101],[102,97,105,108],[114,101,99,97,108,108],[117,110,100,111]] (ql c2 (jJ c3)) rfl)) az))) (Sub.norm [] [some 0,some 1] rfl rfl (.kp (.kp (.keep (.same nB) .nil))) (.kb rfl (.same sn) (.kb rfl (.cells (rc (.same nI) (rc (.same nI) (rc (.undef) rn)))) .nil)))
   ·rcases wyB g_v11 with⟨c4,g_v11⟩|⟨c4,g_v11⟩
    ·simp only[Option.some.injEq,Prod.mk.injEq]at g_v11
     obtain⟨rfl,rfl,rfl⟩:=g_v11
     exact qm.sub (qm.rq fol [0,3] (kAV (kA8 kAt)) (kA2 e [.cells [.i 1,.i 2,.func (.func 143) [] []]]) (ac (cv (qH e_r1)) (ac (hs (.done (zx Tryz.prog 154 (fm1) (.str e.Kind) true) (.tuple (.agg [.i 1,.i 2,.func (.func 143) [] []]::kA1))) (qbi qaR [[109,97,107,101],[116,101,115,116],[117,115,101],[102,97,105,108],[114,101,99,97,108,108],[117,110,100,111]] (ql c2 (ql c3 (jJ c4))) rfl)) az))) (Sub.norm [] [some 0,some 1] rfl rfl (.kp (.kp (.keep (.same nB) .nil))) (.kb rfl (.same sn) (.kb rfl (.cells (rc (.same nI) (rc (.same nI) (rc (.undef) rn)))) .nil)))
    ·rcases wyB g_v11 with⟨c5,g_v11⟩|⟨c5,g_v11⟩
     ·simp only[Option.some.injEq,Prod.mk.injEq]at g_v11
      obtain⟨rfl,rfl,rfl⟩:=g_v11
      exact qm.sub (qm.rq fol [0,3] (kAV (kA8 kAt)) (kA2 e [.cells [.i 1,.i 1,.func (.func 144) [] []]]) (ac (cv (qH e_r1)) (ac (hs (.done (zx Tryz.prog 154 (fm1) (.str e.Kind) true) (.tuple (.agg [.i 1,.i 1,.func (.func 144) [] []]::kA1))) (qbi qaR [[109,97,107,101],[116,101,115,116],[117,115,101],[102,97,105,108],[114,101,99,97,108,108],[117,110,100,111]] (ql c2 (ql c3 (ql c4 (jJ c5)))) rfl)) az))) (Sub.norm [] [some 0,some 1] rfl rfl (.kp (.kp (.keep (.same nB) .nil))) (.kb rfl (.same sn) (.kb rfl (.cells (rc (.same nI) (rc (.same nI) (rc (.undef) rn)))) .nil)))
     ·rcases wyB g_v11 with⟨c6,g_v11⟩|⟨c6,g_v11⟩
      ·simp only[Option.some.injEq,Prod.mk.injEq]at g_v11
       obtain⟨rfl,rfl,rfl⟩:=g_v11
       exact qm.sub (qm.rq fol [0,3] (kAV (kA8 kAt)) (kA2 e [.cells [.i 1,.i 1,.func (.func 145) [] []]]) (ac (cv (qH e_r1)) (ac (hs (.done (zx Tryz.prog 154 (fm1) (.str e.Kind) true) (.tuple (.agg [.i 1,.i 1,.func (.func 145) [] []]::kA1))) (qbi qaR [[109,97,107,101],[116,101,115,116],[117,115,101],[102,97,105,108],[114,101,99,97,108,108],[117,110,100,111]] (ql c2 (ql c3 (ql c4 (ql c5 (jJ c6))))) rfl)) az))) (Sub.norm [] [some 0,some 1] rfl rfl (.kp (.kp (.keep (.same nB) .nil))) (.kb rfl (.same sn) (.kb rfl (.cells (rc (.same nI) (rc (.same nI) (rc (.undef) rn)))) .nil)))
      ·rcases wyB g_v11 with⟨c7,g_v11⟩|⟨c7,g_v11⟩
       ·simp only[Option.some.injEq,Prod.mk.injEq]at g_v11
        obtain⟨rfl,rfl,rfl⟩:=g_v11
        exact qm.sub (qm.rq fol [0,3] (kAV (kA8 kAt)) (kA2 e kBd) (ac (cv (qH e_r1)) (ac (hs (.done (zx Tryz.prog 154 (fm1) (.str e.Kind) true) (.tuple (kBO kA1))) (qbi qaR [[109,97,107,101],[116,101,115,116],[117,115,101],[102,97,105,108],[114,101,99,97,108,108],[117,110,100,111]] (ql c2 (ql c3 (ql c4 (ql c5 (ql c6 (jJ c7)))))) rfl)) az))) (Sub.norm [] [some 0,some 1] rfl rfl (.kp (.kp (.keep (.same nB) .nil))) (.kb rfl (.same sn) (.kb rfl (.cells (rc (.same nI) (rc (.same nI) (rc (.undef) rn)))) .nil)))
       ·simp only[Option.some.injEq,Prod.mk.injEq]at g_v11
        obtain⟨rfl,rfl,rfl⟩:=g_v11
        exact qm.sub (qm.rq fol [0,3] (kAV (kA8 kAf)) (kA2 e kBd) (ac (cv (qH e_r1)) (ac (hs (.done (zx Tryz.prog 154 (fm1) (.str e.Kind) true) (.tuple (kBO [.bool false]))) (qk1 qaR [[109,97,107,101],[116,101,115,116],[117,115,101],[102,97,105,108],[114,101,99,97,108,108],[117,110,100,111]] (ql c2 (ql c3 (ql c4 (ql c5 (ql c6 (ql c7 (rfl))))))))) az))) (Sub.norm [] [some 0,some 1] rfl rfl (.kp (.kp (.keep (.same nB) .nil))) (.kb rfl (.same sn) (.kb rfl (.cells (rc (.same nI) (rc (.same nI) (rc (.undef) rn)))) .nil)))
 intro _ hsub
 try dsimp only at h
 refine Goes.sub hsub ?_
 refine sq ?_
 refine sq ?_
 obtain⟨n19,g_v20,h⟩:=bnd h
 refine Goes.cutS (s':=(ofG 75 (kAV (kA4 n19)),(kA2 e []))) ?_ ?_
 ·obtain⟨r12,e_r12,g_v20⟩:=bnd g_v20
  obtain⟨r13,e_r13,g_v20⟩:=bnd g_v20
  rcases wyB g_v20 with⟨c14,g_v20⟩|⟨c14,g_v20⟩
  ·obtain⟨r15,e_r15,g_v20⟩:=bnd g_v20
   obtain⟨r16,e_r16,g_v20⟩:=bnd g_v20
   obtain rfl:=si g_v20
   exact qm.sub (qm.rq fol [2,5,12,20,22] (kAV (kA4 r16)) (kA2 e (kBe n8 n9 (kBZ r12 r13 r15))) (ac (cv (za e.Number 1 1000 e_r12)) (ac (cv (qz (!b10) 13 e_r13)) (ac (gw c14) (ac (cv (qz true 2 e_r15)) (ac (hs (.call 86 [.slice 2 0 3 3 1] (kA2 e (kBe n8 n9 (kBZ r12 r13 r15))) [2] [vl encI ([r12,r13,r15]:List Int)] (.i r16)) (vI (FzL.cons (Fz.lit rfl rfl (FzL.still (AllST.cons tI (AllST.cons tI (AllST.cons tI AllST.nil))))) FzL.nil) (qN N ([r12,r13,r15]:List Int) e_r16) tI rfl)) az)))))) (Sub.norm [] [some 0] rfl rfl (.kp (.keep (.same nI) .nil)) (.kb rfl (.same sn) .nil))
  ·obtain⟨r17,e_r17,g_v20⟩:=bnd g_v20
   obtain⟨r18,e_r18,g_v20⟩:=bnd g_v20
   obtain rfl:=si g_v20
   exact qm.sub (qm.rq fol [2,5,12,20,22] (kAV (kA4 r18)) (kA2 e (kBe n8 n9 (kBZ r12 r13 r17))) (ac (cv (za e.Number 1 1000 e_r12)) (ac (cv (qz (!b10) 13 e_r13)) (ac (gw c14) (ac (cv (qz (!decide ((e.Values.length:Int)=n9)) 2 e_r17)) (ac (hs (.call 86 [.slice 2 0 3 3 1] (kA2 e (kBe n8 n9 (kBZ r12 r13 r17))) [2] [vl encI ([r12,r13,r17]:List Int)] (.i r18)) (vI (FzL.cons (Fz.lit rfl rfl (FzL.still (AllST.cons tI (AllST.cons tI (AllST.cons tI AllST.nil))))) FzL.nil) (qN N ([r12,r13,r17]:List Int) e_r18) tI rfl)) az)))))) (Sub.norm [] [some 0] rfl rfl (.kp (.keep (.same nI) .nil)) (.kb rfl (.same sn) .nil))
 intro _ hsub
 refine Goes.sub hsub ?_
 refine sh fol (kAV [(5,.i n19),(43,.bool (!decide (n19=0)))]) ?_
 refine ihB h (fun c21 h=>?_) (fun c21 h=>?_)
 ·refine sh fol [(2,.i n19)] ?_
  refine Goes.ret ?_
  obtain rfl:=si h
  exact(gw2 [.i n19] (FzW.still tI))
 ·refine Goes.skip ?_
  refine sq ?_
  refine sh fol (kAV [(46,vl encS e.Names),(47,.i (e.Names.length:Int)),(48,.i 0)]) ?_
  refine Goes.block ?_
  obtain⟨r23,g23,h⟩:=bnd h
  refine Goes.imp (Q:=fun x s'=>(x= .exit 0∧(.inl ())=r23∧Sub s' (ofG 75 (kAV []),(kA2 e [])))∨(x= .ret∧ ∃q24,(.inr q24)=r23∧zy Tryz.prog [.tmp 2] (.i q24) .ret s')) ?_ ?_
  ·refine Goes.loopS (fun M s=> ∃(n22:Int),s=(ofG 75 (kAV (kBG e.Names (e.Names.length:Int) n22 [])),(kA2 e []))∧je N e M n22=some r23) ?_ (m:=N) ⟨_,rfl,g23⟩
   rintro M s ⟨n22,rfl,g23⟩
   cases M with
   |zero=>simp only[je]at g23;cases g23
   |succ M=>
    rw[je]at g23
    refine sh fol (kAV (kBG e.Names (e.Names.length:Int) n22 [(49,.bool (decide (n22<(e.Names.length:Int))))])) ?_
    refine sq ?_
    refine ihD g23 (fun c25 g23=>?_) (fun c25 g23=>?_)
    ·refine Goes.skip ?_
     refine sq (Goes.block ?_)
     obtain⟨x26,e_x26,g23⟩:=bnd g23
     refine sq (gr fol [0,1] (kAV ((7,.str x26)::(kBG e.Names (e.Names.length:Int) n22 []))) (ac (iv xU encS e_x26) (ac (lv 0 ce9 encS e_x26 rfl) az)) ?_)
     obtain⟨r27,e_r27,g23⟩:=bnd g23
     refine sq (gr fol [1] (kAV ((8,.i r27)::(kBG e.Names (e.Names.length:Int) n22 []))) (ac (cv (xu N x26 e_r27)) az) ?_)
     refine sh fol (kAV ((8,.i r27)::(kBG e.Names (e.Names.length:Int) n22 [(55,.bool (!decide (r27=0)))]))) ?_
     refine ihB g23 (fun c28 g23=>?_) (fun c28 g23=>?_)
     ·refine sh fol [(2,.i r27)] ?_
      refine Goes.ret ?_
      obtain rfl:=si g23
      exact Or.inr (⟨rfl,_,rfl,(gw2 [.i r27] (FzW.still tI))⟩)
     ·refine Goes.skip ?_
      refine gh fol (kAV (kBG e.Names (e.Names.length:Int) (w64 (n22+1)) [])) ?_
      exact⟨M,(ofG 75 (kAV (kBG e.Names (e.Names.length:Int) (w64 (n22+1)) [])),(kA2 e [])),Nat.lt_succ_self _,(Sub.refl _),_,rfl,g23⟩
    ·refine Goes.exit ?_
     obtain rfl:=si g23
     exact Or.inl (⟨rfl,rfl,(Sub.keep [1] rfl rfl)⟩)
  rintro x s' (⟨rfl,rfl,hsub⟩|⟨rfl,q38,rfl,hret⟩)
  ·try dsimp only at h
   refine Goes.sub hsub ?_
   refine sq ?_
   refine sh fol (kAV [(59,vl encI e.Values),(60,.i (e.Values.length:Int)),(61,.i 0)]) ?_
   refine Goes.block ?_
   obtain⟨r30,g30,h⟩:=bnd h
   refine Goes.imp (Q:=fun x s'=>(x= .exit 2∧(.inl ())=r30∧Sub s' (ofG 75 (kAV []),(kA2 e [])))∨(x= .ret∧ ∃q31,(.inr q31)=r30∧zy Tryz.prog [.tmp 2] (.i q31) .ret s')) ?_ ?_
   ·refine Goes.loopS (fun M s=> ∃(n29:Int),s=(ofG 75 (kAV (kBH e.Values (e.Values.length:Int) n29 [])),(kA2 e []))∧ja e M n29=some r30) ?_ (m:=N) ⟨_,rfl,g30⟩
    rintro M s ⟨n29,rfl,g30⟩
    cases M with
    |zero=>simp only[ja]at g30;cases g30
    |succ M=>
     rw[ja]at g30
     refine sh fol (kAV (kBH e.Values (e.Values.length:Int) n29 [(62,.bool (decide (n29<(e.Values.length:Int))))])) ?_
     refine sq ?_
     refine ihD g30 (fun c32 g30=>?_) (fun c32 g30=>?_)
     ·refine Goes.skip ?_
      refine sq (Goes.block ?_)
      obtain⟨x33,e_x33,g30⟩:=bnd g30
      refine sq (gr fol [0,1] (kAV ((10,.i x33)::(kBH e.Values (e.Values.length:Int) n29 []))) (ac (iv qd0 encI e_x33) (ac (lv 0 ce3 encI e_x33 rfl) az)) ?_)
      obtain⟨r34,e_r34,g30⟩:=bnd g30
      refine sq (gr fol [1] (kAV ((11,.i r34)::(kBH e.Values (e.Values.length:Int) n29 []))) (ac (cv (za x33 0 999999999 e_r34)) az) ?_)
      refine sh fol (kAV ((11,.i r34)::(kBH e.Values (e.Values.length:Int) n29 [(68,.bool (!decide (r34=0)))]))) ?_
      refine ihB g30 (fun c35 g30=>?_) (fun c35 g30=>?_)
      ·refine sh fol [(2,.i r34)] ?_
       refine Goes.ret ?_
       obtain rfl:=si g30
       exact Or.inr (⟨rfl,_,rfl,(gw2 [.i r34] (FzW.still tI))⟩)
      ·refine Goes.skip ?_
       refine gh fol (kAV (kBH e.Values (e.Values.length:Int) (w64 (n29+1)) [])) ?_
       exact⟨M,(ofG 75 (kAV (kBH e.Values (e.Values.length:Int) (w64 (n29+1)) [])),(kA2 e [])),Nat.lt_succ_self _,(Sub.refl _),_,rfl,g30⟩
     ·refine Goes.exit ?_
      obtain rfl:=si g30
      exact Or.inl (⟨rfl,rfl,(Sub.keep [1] rfl rfl)⟩)
   rintro x s' (⟨rfl,rfl,hsub⟩|⟨rfl,q37,rfl,hret⟩)
   ·try dsimp only at h
    refine Goes.sub hsub ?_
    obtain⟨r36,e_r36,h⟩:=bnd h
    refine sq (gr fol [3] [(2,.i r36)] (ac (cv (qz (!(e.Text==[])) 1 e_r36)) az) ?_)
    refine Goes.ret ?_
    obtain rfl:=si h
    exact(gw2 [.i r36] (FzW.still tI))
   ·try dsimp only at h
    obtain rfl:=si h
    exact hret
  ·try dsimp only at h
   obtain rfl:=si h
   exact hret
def xe:Option (List Int):=
 qeX (some []) ((app 8 ([]:List Int) ([]:List Int)).bind fun l1=>
 some l1)
theorem qdb {res:List Int} (h:xe=some res):qf Tryz.prog (.fn 166) [vl encI ([]:List Int)] [] (vl encI res) []:=by
 unfold xe at h
 refine Goes.fnW Tryz.func166 rfl rfl (m:=8) rfl (rs:=[.tmp 2]) rfl (l:=[(0,vl encI ([]:List Int))]) rfl ?_
 refine sh fol [(0,vl encI ([]:List Int))] ?_
 refine sq ?_
 refine sh fol [(0,vl encI ([]:List Int)),(4,.anyb)] ?_
 refine Goes.condAny (by kernel_rfl) ?_ ?_
 ·replace h:=(qa5 h).1
  refine sh fol [(2,.nilslice)] ?_
  refine Goes.ret ?_
  obtain rfl:=si h
  exact(gw2 [.nilslice] (FzW.nilv (E:=encI)))
 ·replace h:=(qa5 h).2
  refine Goes.skip ?_
  obtain⟨l1,e_l1,h⟩:=bnd h
  refine sq (gq fol [2] [(2,.oslice 1 l1.length 1)] (.dead::(kAO l1 [])) (ac (hs (.run [0] (zh Tryz.prog [24,24] (.slice 0 0 0 0 1) (vl encI ([]:List Int))) [.cells []] (.oslice 1 l1.length 1) (.dead::(kAO l1 [])) true) (jE qd0 (E:=encI) rfl (qfY (E:=encI) rfl _) (qgD (E:=encI) rfl rfl rfl e_l1 rfl))) az) ?_)
  refine Goes.ret ?_
  obtain rfl:=si h
  exact(gw2 [.oslice 1 l1.length 1] (FzW.fz (Fz.os (E:=encI) rfl rfl (nl rfl))))
def y8 (hd:Int) (tl:List Int):Option (List Int):=
 (app 8 ([]:List Int) (hd::tl)).bind fun l1=>
 some l1
theorem qc8 (hd:Int) (tl:List Int) {res:List Int} (h:y8 hd tl=some res):qf Tryz.prog (.fn 166) [vl encI (hd::tl)] [] (vl encI res) []:=by
 unfold y8 at h
 refine Goes.fnW Tryz.func166 rfl rfl (m:=8) rfl (rs:=[.tmp 2]) rfl (l:=[(0,vl encI (hd::tl))]) rfl ?_
 refine sh fol [(0,vl encI (hd::tl))] ?_
 refine sq ?_
 refine sh fol ((0,vl encI (hd::tl))::kAf) ?_
 refine Goes.ifB (b:=false) (by kernel_rfl) (fun c=>(by cases c)) (fun _=>?_)
 refine Goes.skip ?_
 obtain⟨l1,e_l1,h⟩:=bnd h
 refine sq (gq fol [2] [(2,.oslice 1 l1.length 1)] (.dead::(kAO l1 [])) (ac (hs (.run [0] (zh Tryz.prog [24,24] (.slice 0 0 0 0 1) (vl encI (hd::tl))) [.cells []] (.oslice 1 l1.length 1) (.dead::(kAO l1 [])) true) (jE qd0 (E:=encI) rfl (qfY (E:=encI) rfl _) (qgD (E:=encI) rfl rfl rfl e_l1 rfl))) az) ?_)
 refine Goes.ret ?_
 obtain rfl:=si h
 exact(gw2 [.oslice 1 l1.length 1] (FzW.fz (Fz.os (E:=encI) rfl rfl (nl rfl))))
def slices_Clone_int:(List Int)→Option (List Int)
 |[]=>xe
 |hd::tl=>y8 hd tl
theorem qd7 (l:List Int) {res:List Int} (h:slices_Clone_int l=some res):qf Tryz.prog (.fn 166) [vl encI l] [] (vl encI res) []:=by
 cases l with
 |nil=>exact qdb h
 |cons hd tl=>exact qc8 hd tl h
def jH (e:qg):Option qg:=
 (slices_Clone_string e.Names).bind fun r1=>
 (slices_Clone_int e.Values).bind fun r2=>
 some (⟨e.Number,e.Kind,r1,r2,e.Text⟩:qg)
theorem qaW (e:qg) {res:qg} (h:jH e=some res):qf Tryz.prog (.fn 115) [.agg (cE e)] [] (.agg (cE res)) []:=by
 unfold jH at h
 refine Goes.fnW Tryz.func115 rfl rfl (m:=12) rfl (rs:=[.cell 2 26]) rfl (l:=[(0,.agg (cE e))]) rfl ?_
 refine sg fol (kAV kBW) (kA2 e (kG [])) ?_
 obtain⟨r1,e_r1,h⟩:=bnd h
 obtain⟨r2,e_r2,h⟩:=bnd h
 refine sq (gq fol [2,5] (kAV kBW) (kBB e.Number e.Kind r1 r2 e.Text (kG [])) (ac (cv (qaJ e.Names e_r1)) (ac (cv (qd7 e.Values e_r2)) az)) ?_)
 refine sg fol kBW (kBB e.Number e.Kind r1 r2 e.Text (kBB e.Number e.Kind r1 r2 e.Text [])) ?_
 refine Goes.ret ?_
 obtain rfl:=si h
 exact(gw2 [.agg [.i e.Number,.str e.Kind,vl encS r1,vl encI r2,.str e.Text]] (FzW.agg (qw.cons (FzW.still tI) (qw.cons (FzW.still tS) (qw.cons (FzW.still (jV encS _ (nl rfl))) (qw.cons (FzW.still (jV encI _ (nl rfl))) (qw.cons (FzW.still tS) qw.nil)))))))
end Go.Av
end
