/-
  Walks of functions: what each computes, as a plain function.
-/
import Derived.Test.YtphbhegcojmijaaGreatDoorAvJnC
import Derived.Test.YtphbhegcojmijaaGreatDoorAvSoC
import Derived.Test.YtphbhegcojmijaaGreatDoorAvMxD
noncomputable section
namespace Go.Av
open Go.Proofs Go.RowKit
set_option linter.unusedSectionVars false
set_option linter.unusedVariables false
set_option linter.unusedSimpArgs false
set_option maxRecDepth 100000
theorem fol:Tryz.prog.follows .mixedOrders=true:=by kernel_rfl
structure qh where
 Number:Int
 Kind:Str
 Names:List Str
 Values:List Int
 Text:Str
def ql:Enc qh:=(encI.prod (encS.prod ((qsi encS).prod ((qsi encI).prod encS)))).comap fun x=>(x.Number,x.Kind,x.Names,x.Values,x.Text)
instance:SE ql:=⟨nl rfl⟩
structure qg where
 Name:Str
 Batch:Str
 Born:Int
 Last:Int
 Uses:Int
 Used:Int
 Limit:Int
 Until:Int
 Gone:Bool
def qo:Enc qg:=(encS.prod (encS.prod (encI.prod (encI.prod (encI.prod (encI.prod (encI.prod (encI.prod encB)))))))).comap fun x=>(x.Name,x.Batch,x.Born,x.Last,x.Uses,x.Used,x.Limit,x.Until,x.Gone)
instance:SE qo:=⟨nl rfl⟩
abbrev cS (x:qg):List AV:=[.str x.Name,.str x.Batch,.i x.Born,.i x.Last,.i x.Uses,.i x.Used,.i x.Limit,.i x.Until,.bool x.Gone]
abbrev cE (x:qh):List AV:=[.i x.Number,.str x.Kind,vl encS x.Names,vl encI x.Values,.str x.Text]
abbrev bS (l:List qg):Blk:= .cells (l.flatMap qo.c)
abbrev cF (a:Int) (b:Str) (c:List Str) (d:List Int) (e:Str):List AV:=[.i a,.str b,vl encS c,vl encI d,.str e]
abbrev cT (a b:Str) (c d e f g h:Int) (i:Bool):List AV:=[.str a,.str b,.i c,.i d,.i e,.i f,.i g,.i h,.bool i]
structure qcE where
 Day:Int
 Slings:List qg
def qma:Enc qcE:=(encI.prod (qsi qo)).comap fun x=>(x.Day,x.Slings)
instance:SE qma:=⟨nl rfl⟩
structure qf where
 Desk:Str
 Number:Int
 Clock:Int
 Line:Str
def qa:Enc qf:=(encS.prod (encI.prod (encI.prod encS))).comap fun x=>(x.Desk,x.Number,x.Clock,x.Line)
instance:SE qa:=⟨nl rfl⟩
structure zo where
 Desk:Str
 Number:Int
def ky:Enc zo:=(encS.prod encI).comap fun x=>(x.Desk,x.Number)
instance:SE ky:=⟨nl rfl⟩
structure StateT where
 number:Int
 register:qcE
def qac:Enc StateT:=(encI.prod qma).comap fun x=>(x.number,x.register)
instance:SE qac:=⟨nl rfl⟩
abbrev kA (a:List qh) (b:Option (List StateT)) (x:List Blk):List Blk:= .cells [.gslice 1 a.length 5,hsl 2 3 b]:: .cells (a.flatMap ql.c):: .cells ((hof b).flatMap qac.c)::x
abbrev kB {α1:Type} (a:Int) (b:List α1) (x:List Blk):List Blk:= .cells [.i a,.slice 0 0 b.length b.length 9]::x
abbrev kC (a:List qf) (x:List Blk):List Blk:= .cells (a.flatMap qa.c)::x
abbrev kD (a:List qf) (x:List (Nat×AV)):List (Nat×AV):=(0,vl qa a)::x
abbrev kE (a:Str) (b:Int) (c:Int) (d:Str) (x:List Blk):List Blk:= .cells [.str a,.i b,.i c,.str d]::x
abbrev kF (x:List Blk):List Blk:= .cells [.i 0,.str [],.nilslice,.nilslice,.str []]::x
abbrev kG (a:Int) (b:List qg) (c:Int) (d:Str) (e:List Str) (f:List Int) (g:Str) (h:Int) (i:Int) (x:List Blk):List Blk:= .cells [.i a,vl qo b]:: .cells (cF c d e f g)::bZ:: .cells [.i h,.i i]::x
abbrev kH (x:List (Nat×AV)):List (Nat×AV):=(2,.ptr 1 0)::(3,.ptr 2 0)::(4,.ptr 3 0)::x
abbrev kI {α0:Type} (a:List α0) (b:Int) (x:List (Nat×AV)):List (Nat×AV):=(0,.oslice 0 a.length 4)::(1,.i b)::x
abbrev kJ (a:List zo) (x:List Blk):List Blk:= .cells (a.flatMap ky.c)::x
abbrev kK (a:Int) (b:Str) (c:List Str) (d:List Int) (e:Str) (f:List qh) (g:Option (List StateT)) (x:List Blk):List Blk:= .cells [.i a,.str b,vl encS c,vl encI d,.str e]:: .cells (f.flatMap ql.c):: .cells ((hof g).flatMap qac.c)::x
abbrev kL (a:List qf) (b:List qf) (x:List (Nat×AV)):List (Nat×AV):=(5,vl qa a)::(7,vl qa b)::(8,.map 0)::x
abbrev kM {α1:Type} (a:Int) (b:List α1) (x:List AV):List AV:= .agg [.i a,.slice 0 0 b.length b.length 9]::x
abbrev kN (a:List Str) (x:List Blk):List Blk:= .cells (a.flatMap encS.c)::x
abbrev kO {α4:Type} (a:Str) (b:Str) (c:Int) (d:Int) (e:List α4) (x:List (Nat×AV)):List (Nat×AV):=(0,.str a)::(1,.str b)::(2,.i c)::(3,.i d)::(9,.slice 0 0 e.length e.length 1)::x
abbrev kP {α1:Type} (a:List qh) (b:List α1) (x:List Blk):List Blk:= .cells [.gslice 1 a.length 5,.oslice 2 b.length 3]:: .cells (a.flatMap ql.c)::x
abbrev kQ (a:List Int) (b:Int) (c:Int) (x:List (Nat×AV)):List (Nat×AV):=(51,vl encI a)::(52,.i b)::(53,.i c)::x
abbrev kR (a:List Str) (x:List (Nat×AV)):List (Nat×AV):=(2,.ptr 0 0)::(4,vl encS a)::x
abbrev kS (x:List (Nat×AV)):List (Nat×AV):=(0,vl qa ([]:List qf))::x
abbrev kT {α0:Type} (a:List α0) (x:List (Nat×AV)):List (Nat×AV):=(7,.ptr 0 0)::(8,.gslice 3 a.length 2)::x
abbrev kU {α0:Type} (a:List α0) (b:Int) (x:List (Nat×AV)):List (Nat×AV):=(0,.slice 0 0 a.length a.length 9)::(1,.i b)::x
abbrev kV (a:List qf) (b:Int) (c:Int) (x:List (Nat×AV)):List (Nat×AV):=(10,vl qa a)::(11,.i b)::(12,.i c)::x
abbrev kW (a:List qf) (b:Int) (c:Int) (x:List (Nat×AV)):List (Nat×AV):=(23,vl qa a)::(24,.i b)::(25,.i c)::x
abbrev kX {α1:Type} {α2:Type} (a:Str) (b:List α1) (c:List α2) (x:List Blk):List Blk:= .cells [.i 0,.str a,.gslice 2 b.length 1,.gslice 3 c.length 1,.str []]::x
abbrev kY (a:Int) (b:Int):List Blk:=[.cells [.i a,.i b]]
abbrev kZ (a:Int) (b:List qg) (x:List Blk):List Blk:= .cells [.i a,vl qo b]::x
abbrev kAA (a:List Int):List Blk:=[.cells (a.flatMap encI.c)]
abbrev kAB (a:Str) (b:Str) (x:List (Nat×AV)):List (Nat×AV):=(0,.str a)::(1,.str b)::x
abbrev kAC (a:Int) (b:Int) (c:Int) (d:Int) (e:Int) (f:Str) (g:Str) (h:Int) (i:Int) (j:Int):List Blk:=[.cells [.i a,.i b,.i c,.i d,.i e],.cells [.str f,.str g,.i h,.i i,.i j,.i 0,.i 0,.i 0,.bool false],.cells [.str f,.str g,.i h,.i i,.i j,.i 0,.i 0,.i 0,.bool false]]
abbrev kAD (a:Int) (b:Str) (c:List Str) (d:List Int) (e:Str) (x:List Blk):List Blk:= .cells (cF a b c d e)::bZ::x
abbrev kAE (a:Str) (b:Int) (x:List Blk):List Blk:= .cells [.str a,.i b]::x
abbrev kAF (x:List (Nat×AV)):List (Nat×AV):=(2,.ptr 1 0)::(4,.ptr 3 0)::x
abbrev kAG (x:List (Nat×AV)):List (Nat×AV):=(0,.ptr 0 0)::(3,.ptr 3 0)::x
abbrev kAH {α0:Type} (a:List α0) (b:Int) (c:List qf) (d:Int) (x:List (Nat×AV)):List (Nat×AV):=(5,.gslice 0 a.length 2)::(7,.ptr 1 0)::(8,.i b)::(46,vl qa c)::(47,.i d)::x
abbrev kAI (a:List qh) (b:List qh) (x:List (Nat×AV)):List (Nat×AV):=(0,vl ql a)::(1,vl ql b)::x
abbrev kAJ (a:Int) (b:Int) (x:List (Nat×AV)):List (Nat×AV):=(7,.i a)::(8,.i b)::x
abbrev kAK:List (Nat×AV):=[(4,.bool false)]
abbrev kAL (a:Int) (b:Int) (x:List (Nat×AV)):List (Nat×AV):=(8,.ptr 0 ((a:Int).toNat*9+0))::(11,.i b)::(12,.i a)::x
abbrev kAM (a:List qh) (x:List Blk):List Blk:= .cells (a.flatMap ql.c)::x
abbrev kAN {α0:Type} (a:List α0) (b:Int) (x:List (Nat×AV)):List (Nat×AV):=(5,.gslice 0 a.length 2)::(6,.i b)::(7,.ptr 1 0)::x
abbrev kAO {α0:Type} (a:List α0) (b:Int) (c:Int) (x:List (Nat×AV)):List (Nat×AV):=(24,.oslice 4 a.length 4)::(25,.i b)::(26,.i c)::x
abbrev kAP (a:List StateT) (x:List Blk):List Blk:= .cells (a.flatMap qac.c)::x
abbrev kAQ {α0:Type} (a:List α0):List (Nat×AV):=[(9,.oslice 2 a.length 9)]
abbrev kAR (x:List (Nat×AV)):List (Nat×AV):=(1,.ptr 0 0)::x
abbrev kAS {α0:Type} (a:List α0) (x:List (Nat×AV)):List (Nat×AV):=(7,.oslice 0 a.length 4)::x
abbrev kAT {α2:Type} (a:Str) (b:List Str) (c:List α2) (x:List Blk):List Blk:= .cells [.i 0,.str a,vl encS b,.gslice 2 c.length 1,.str []]::x
abbrev kAU {α1:Type} (a:Str) (b:List α1) (c:Int) (d:Int) (x:List (Nat×AV)):List (Nat×AV):=(0,.str a)::(3,.gslice 0 b.length 1)::(4,.i c)::(5,.i d)::x
abbrev kAV:List AV:=[.agg [.i 0,.str [],.nilslice,.nilslice,.str []],.bool false]
abbrev kAW {α0:Type} (a:List α0) (x:List (Nat×AV)):List (Nat×AV):=(7,.gslice 0 a.length 4)::x
abbrev kAX {α1:Type} (a:Int) (b:List α1) (x:List AV):List AV:= .agg [.i a,.slice 4 0 b.length b.length 9]::x
abbrev kAY (x:List Blk):List Blk:= .cells [.map 1]::x
abbrev kAZ {α0:Type} (a:List α0) (x:List (Nat×AV)):List (Nat×AV):=(6,.slice 0 0 a.length a.length 1)::x
abbrev kAa (a:List qf) (b:Int) (c:Int) (x:List (Nat×AV)):List (Nat×AV):=(24,vl qa a)::(25,.i b)::(26,.i c)::x
abbrev kAb:List Blk:=[.cells (([]:List qf).flatMap qa.c)]
abbrev kAc (a:Int) (b:Int) (x:List (Nat×AV)):List (Nat×AV):=(5,.i a)::(8,.ptr 1 0)::(9,.i b)::x
abbrev kAd (x:List (Nat×AV)):List (Nat×AV):=(2,.ptr 0 0)::x
abbrev kAe:List (Nat×AV):=[(4,.bool true)]
abbrev kAf (a:Str) (b:Int) (c:Int) (d:Str):List AV:=[.str a,.i b,.i c,.str d]
abbrev kAg (a:List qg) (b:Str) (c:Str) (d:Int) (e:Int) (f:Int) (g:Int) (h:Int) (i:Int) (j:Bool) (k:List qg):List Blk:=[bS a,.cells (cT b c d e f g h i j),bS k]
abbrev kAh (a:List zo) (b:Int) (c:Int) (x:List (Nat×AV)):List (Nat×AV):=(86,vl ky a)::(87,.i b)::(88,.i c)::x
abbrev kAi (a:Str) (x:List (Nat×AV)):List (Nat×AV):=(0,.str a)::x
abbrev kAj (a:List zo) (b:Int) (c:Int) (x:List (Nat×AV)):List (Nat×AV):=(9,vl ky a)::(10,.i b)::(11,.i c)::x
abbrev kAk (a:Int) (b:Int) (x:List (Nat×AV)):List (Nat×AV):=(0,.i a)::(1,.i b)::x
abbrev kAl (a:List qf) (x:List (Nat×AV)):List (Nat×AV):=(5,vl qa a)::x
abbrev kAm (a:Int):List (Nat×AV):=[(5,.i a)]
abbrev kAn (a:Int) (x:List (Nat×AV)):List (Nat×AV):=(3,.i a)::(4,.ptr 0 0)::x
abbrev kAo {α1:Type} (a:Int) (b:List α1) (x:List (Nat×AV)):List (Nat×AV):=(0,.agg [.i a,.slice 0 0 b.length b.length 9])::x
abbrev kAp:List AV:=[.str [109,97,107,101],.str [116,101,115,116],.str [117,115,101],.str [102,97,105,108],.str [114,101,99,97,108,108],.str [117,110,100,111]]
abbrev kAq (a:List zo) (b:Int) (x:List (Nat×AV)):List (Nat×AV):=(20,vl ky a)::(21,.i b)::x
abbrev kAr (a:List qf) (x:List (Nat×AV)):List (Nat×AV):=(1,vl qa a)::x
abbrev kAs (a:Int) (b:Int):List (Nat×AV):=[(4,.ptr 2 0),(6,.i a),(8,.ptr 5 0),(9,.i b)]
abbrev kAt (a:List zo) (x:List (Nat×AV)):List (Nat×AV):=(13,vl ky a)::x
abbrev kAu {α0:Type} {α1:Type} (a:List α0) (b:Option (List α1)) (x:List Blk):List Blk:= .cells [.gslice 6 a.length 5,hsl 7 3 b]:: .dead:: .dead::x
abbrev kAv {α0:Type} {α1:Type} (a:List α0) (b:Option (List α1)) (x:List Blk):List Blk:= .cells [.gslice 7 a.length 5,hsl 8 3 b]:: .dead:: .dead::x
abbrev kAw:List (Nat×AV):=[(5,.ptr 1 0),(6,.bool true)]
abbrev kAx:List AV:=[.bool true]
abbrev kAy (a:qh) (x:List Blk):List Blk:= .cells (cE a)::x
abbrev kAz (a:List Str) (b:Int) (c:Int) (x:List (Nat×AV)):List (Nat×AV):=(54,vl encS a)::(55,.i b)::(56,.i c)::x
abbrev kA0 (a:Int) (b:List qg) (x:List AV):List AV:= .agg [.i a,vl qo b]::x
abbrev kA1 (a:List Str) (b:Str) (x:List (Nat×AV)):List (Nat×AV):=(0,vl encS a)::(1,.str b)::x
abbrev kA2 (x:List (Nat×AV)):List (Nat×AV):=(3,.ptr 1 0)::x
abbrev kA3 {α0:Type} (a:List α0):List (Nat×AV):=[(2,.ptr 1 0),(3,.slice 2 0 a.length a.length 9)]
abbrev kA4 (x:List (Nat×AV)):List (Nat×AV):=(2,.slice 1 0 1 1 9)::(7,.i 1)::x
abbrev kA5 (a:Int) (b:Str) (c:List Str) (d:List Int) (e:Str) (x:List Blk):List Blk:= .cells [.i a,.str b,vl encS c,vl encI d,.str e]::x
abbrev kA6 (a:Int) (b:Int) (x:List (Nat×AV)):List (Nat×AV):=(6,.i a)::(7,.i b)::x
abbrev kA7 (a:List Str) (b:List Str) (x:List (Nat×AV)):List (Nat×AV):=(0,vl encS a)::(1,vl encS b)::x
abbrev kA8 (a:List Int) (b:List Int) (x:List (Nat×AV)):List (Nat×AV):=(0,vl encI a)::(1,vl encI b)::x
abbrev kA9 (a:Option (List StateT)) (x:List Blk):List Blk:= .cells ((hof a).flatMap qac.c)::x
abbrev kBA (a:Option (List Int)):List Blk:=[.cells ((hof a).flatMap encI.c)]
abbrev kBB (a:Int) (x:List (Nat×AV)):List (Nat×AV):=(6,.i a)::(7,.i 0)::x
abbrev kBC (a:List qg) (b:Int):List Blk:=[bS a,.cells [.i b,.slice 4 0 a.length a.length 9]]
abbrev kBD (a:List Str) (b:Int) (c:Int) (x:List (Nat×AV)):List (Nat×AV):=(46,vl encS a)::(47,.i b)::(48,.i c)::x
abbrev kBE (a:List Int) (b:Int) (c:Int) (x:List (Nat×AV)):List (Nat×AV):=(59,vl encI a)::(60,.i b)::(61,.i c)::x
abbrev kBF (x:List (Nat×AV)):List (Nat×AV):=(2,.ptr 1 0)::(4,.ptr 2 0)::x
abbrev kBG (a:Int) (b:List qg):List AV:=[.i a,vl qo b]
abbrev kBH (x:List AV):List AV:= .agg [.i 0,.i 0,.nilfunc]::x
abbrev kBI (a:List qf) (x:List AV):List AV:=vl qa a::x
abbrev kBJ (a:Int) (b:Int) (c:Int):List (Nat×AV):=[(6,.i a),(11,.i b),(12,.i c)]
abbrev kBK (a:List qf) (x:List (Nat×AV)):List (Nat×AV):=(8,.map 0)::(11,vl qa a)::x
abbrev kBL {α0:Type} (a:List α0) (b:Int):List (Nat×AV):=[(9,.slice 0 0 a.length a.length 1),(10,.i b)]
abbrev kBM (a:Int):List (Nat×AV):=[(6,.i a)]
abbrev kBN (a:Int):List (Nat×AV):=[(8,.i a)]
abbrev kBO {α0:Type} (a:List α0) (x:List (Nat×AV)):List (Nat×AV):=(7,.gslice 2 a.length 4)::x
abbrev kBP {α1:Type} (a:Int) (b:List α1):List AV:=[.i a,.slice 4 0 b.length b.length 9]
abbrev kBQ:List (Nat×AV):=[(3,.bool false)]
abbrev kBR:List (Nat×AV):=[(5,.i 0)]
abbrev kBS (a:List zo) (x:List (Nat×AV)):List (Nat×AV):=(0,vl ky a)::x
abbrev kBT:List (Nat×AV):=[(2,.ptr 1 0)]
abbrev kBU (x:List (Nat×AV)):List (Nat×AV):=(4,.ptr 0 0)::x
abbrev kBV (x:List (Nat×AV)):List (Nat×AV):=(7,.ptr 1 0)::x
abbrev kBW (a:Int) (b:Int) (c:Int):List Blk:=[.cells [.i a,.i b,.i c]]
abbrev kBX (x:List (Nat×AV)):List (Nat×AV):=(7,.ptr 0 0)::x
abbrev kBY {α0:Type} (a:List α0) (x:List AV):List AV:= .oslice 0 a.length 4::x
abbrev kBZ (a:List qf) (x:List (Nat×AV)):List (Nat×AV):=(6,vl qa a)::x
abbrev kBa:List (Nat×AV):=[(2,.bool false)]
abbrev kBb:List Blk:=[.cells [.i 0,.i 0,.nilfunc]]
abbrev kBc (a:Int) (b:Int) (x:List Blk):List Blk:= .cells [.i a,.i b,.undef]::x
abbrev kBd (a:Str) (b:Int) (c:Int) (d:Str) (x:List AV):List AV:= .agg [.str a,.i b,.i c,.str d]::x
abbrev kBe (a:List qf) (b:Int):List (Nat×AV):=[(23,vl qa a),(24,.i b),(25,.i 0)]
abbrev kBf {α0:Type} (a:List α0) (x:List Blk):List Blk:= .cells [.gslice 1 a.length 5,.nilslice]::x
abbrev kBg (x:List Blk):List Blk:= .cells (([]:List zo).flatMap ky.c)::x
abbrev kBh (a:Str) (b:Int) (c:Int) (d:Str) (x:List (Nat×AV)):List (Nat×AV):=(0,.agg [.str a,.i b,.i c,.str d])::x
abbrev kBi (x:List (Nat×AV)):List (Nat×AV):=(6,.ptr 0 0)::x
abbrev kBj (x:List (Nat×AV)):List (Nat×AV):=(6,.i 20)::x
theorem qdk:SlT Tryz.prog 37 9 1 16:=⟨by kernel_rfl,by kernel_rfl,by kernel_rfl,by kernel_rfl⟩
theorem ce9:CeT Tryz.prog 9:=⟨by kernel_rfl,by kernel_rfl⟩
theorem qfS:SlT Tryz.prog 38 3 1 8:=⟨by kernel_rfl,by kernel_rfl,by kernel_rfl,by kernel_rfl⟩
theorem ce3:CeT Tryz.prog 3:=⟨by kernel_rfl,by kernel_rfl⟩
theorem qeb:SlT Tryz.prog 22 40 5 88:=⟨by kernel_rfl,by kernel_rfl,by kernel_rfl,by kernel_rfl⟩
theorem qum:CeT Tryz.prog 37:=⟨by kernel_rfl,by kernel_rfl⟩
theorem ce38:CeT Tryz.prog 38:=⟨by kernel_rfl,by kernel_rfl⟩
theorem qdD:SlT Tryz.prog 54 112 4 48:=⟨by kernel_rfl,by kernel_rfl,by kernel_rfl,by kernel_rfl⟩
theorem qeK:AgT Tryz.prog 112 4:=⟨by kernel_rfl,by kernel_rfl⟩
theorem qq5:SlT Tryz.prog 55 113 4 48:=⟨by kernel_rfl,by kernel_rfl,by kernel_rfl,by kernel_rfl⟩
theorem st9:Tryz.prog.underlying 9=some .string:=by kernel_rfl
theorem qto:AgT Tryz.prog 113 4:=⟨by kernel_rfl,by kernel_rfl⟩
theorem sl167:SlT Tryz.prog 167 32 1 8:=⟨by kernel_rfl,by kernel_rfl,by kernel_rfl,by kernel_rfl⟩
theorem ce32:CeT Tryz.prog 32:=⟨by kernel_rfl,by kernel_rfl⟩
theorem qh3:SlT Tryz.prog 45 102 9 88:=⟨by kernel_rfl,by kernel_rfl,by kernel_rfl,by kernel_rfl⟩
theorem qtl:AgT Tryz.prog 102 9:=⟨by kernel_rfl,by kernel_rfl⟩
theorem qeW:MapT Tryz.prog 140 9 138 (.agg [.i 0,.i 0,.nilfunc]):=⟨by kernel_rfl,by kernel_rfl,by kernel_rfl⟩
theorem eqt67:EqT Tryz.prog 67 #[{name:= "Desk",type:=9,offset:=0,embedded:=false,tag:= "",pkgPath:= "",byteOffset:=0},{name:= "Number",type:=3,offset:=1,embedded:=false,tag:= "",pkgPath:= "",byteOffset:=16}]:=⟨by kernel_rfl,by kernel_rfl,by kernel_rfl⟩
theorem quz:EqT Tryz.prog 112 #[{name:= "Desk",type:=9,offset:=0,embedded:=false,tag:= "",pkgPath:= "",byteOffset:=0},{name:= "Number",type:=3,offset:=1,embedded:=false,tag:= "",pkgPath:= "",byteOffset:=16},{name:= "Clock",type:=3,offset:=2,embedded:=false,tag:= "",pkgPath:= "",byteOffset:=24},{name:= "Line",type:=9,offset:=3,embedded:=false,tag:= "",pkgPath:= "",byteOffset:=32}]:=⟨by kernel_rfl,by kernel_rfl,by kernel_rfl⟩
theorem qr3:SlT Tryz.prog 63 67 2 24:=⟨by kernel_rfl,by kernel_rfl,by kernel_rfl,by kernel_rfl⟩
theorem ag67:AgT Tryz.prog 67 2:=⟨by kernel_rfl,by kernel_rfl⟩
theorem qrH:MpT Tryz.prog 60 9 3 .string (.i 0):=⟨by kernel_rfl,by kernel_rfl,by kernel_rfl⟩
theorem qs6:SlT Tryz.prog 130 171 3 40:=⟨by kernel_rfl,by kernel_rfl,by kernel_rfl,by kernel_rfl⟩
theorem ag47:AgT Tryz.prog 47 2:=⟨by kernel_rfl,by kernel_rfl⟩
theorem it3:Tryz.prog.underlying 3=some (.int .i64):=by kernel_rfl
theorem qxB:EqT Tryz.prog 113 #[{name:= "Desk",type:=9,offset:=0,embedded:=false,tag:= "",pkgPath:= "",byteOffset:=0},{name:= "Number",type:=3,offset:=1,embedded:=false,tag:= "",pkgPath:= "",byteOffset:=16},{name:= "Clock",type:=3,offset:=2,embedded:=false,tag:= "",pkgPath:= "",byteOffset:=24},{name:= "Line",type:=9,offset:=3,embedded:=false,tag:= "",pkgPath:= "",byteOffset:=32}]:=⟨by kernel_rfl,by kernel_rfl,by kernel_rfl⟩
abbrev fm1:AV:= .fmap kAp (.agg [.i 2,.i 3,.func (.func 117) [] []]:: .agg [.i 1,.i 2,.func (.func 118) [] []]:: .agg [.i 1,.i 2,.func (.func 119) [] []]:: .agg [.i 1,.i 1,.func (.func 120) [] []]:: .agg [.i 1,.i 1,.func (.func 121) [] []]::(kBH []))
instance:SC 12 fm1:=⟨Still.fmap SX.h (AllST.cons SC.h (AllST.cons SC.h (AllST.cons SC.h (AllST.cons SC.h (AllST.cons SC.h (AllST.cons SC.h AllST.nil))))))⟩
def toQ (n:qf):Q4:=(n.Desk,n.Number,n.Clock,n.Line)
def ofQ (q:Q4):qf:=⟨q.1,q.2.1,q.2.2.1,q.2.2.2⟩
def qcF (l:List qf):List qf:=(qgr (l.map toQ)).map ofQ
theorem quI (l:List qf):l.flatMap qa.c=(l.map toQ).flatMap c4:=by
 induction l with
 |nil=>rfl
 |cons x l ih=>rw[List.flatMap_cons,List.map_cons,List.flatMap_cons,ih];rfl
theorem qwY (l:List qf):(qcF l).flatMap qa.c=(qgr (l.map toQ)).flatMap c4:=by
 rw[quI]
 unfold qcF
 rw[List.map_map,show toQ∘ofQ=id from rfl,List.map_id]
def qsj:Option Unit:=some ()
theorem qtC {res:Unit} (h:qsj=some res):qj Tryz.prog (.fn 56) [vl qa ([]:List qf)] [] (.gslice 0 ([]:List qf).length 4) kAb:=qwE
def qtg (l:List qf):Option (List qf):=if l.length≤100000 then some (qcF l)else none
def qtn (l:List qf):Option (List qf):=if l.length≤100000 then some (qcF l)else none
theorem qvR (l:List qf) {res:List qf} (h:qtg l=some res):qj Tryz.prog (.fn 60) [.gslice 0 l.length 4,.func (.func 61) [] []] (kC l []) (.tuple []) (kC res []):=by
 unfold qtg at h
 split at h
 ·rename_i hl
  obtain rfl:=si h
  have:=qxv (ns:=l.map toQ) (by simpa using hl)
  rw[List.length_map]at this
  rw[←quI,←qwY]at this
  exact this
 ·cases h
theorem qvB (l:List qf) {res:List qf} (h:qtn l=some res):qj Tryz.prog (.fn 60) (kBY l [.func (.func 61) [] []]) (kC l []) (.tuple []) (kC res []):=by
 unfold qtn at h
 split at h
 ·rename_i hl
  obtain rfl:=si h
  have:=qxg (ns:=l.map toQ) (by simpa using hl)
  rw[List.length_map]at this
  rw[←quI,←qwY]at this
  exact this
 ·cases h
def yN (a:List Str) (b:List Str):Nat→Int→Option (Unit⊕Bool)
 |0,_=>none
 |K+1,n2=>
  if n2<(a.length:Int)then
  (idx a n2).bind fun x6=>
  (idx b n2).bind fun x7=>
  if(!(x6==x7))=true then
  some (.inr false)
  else
  yN a b K (w64 (n2+1))
  else
  some (.inl ())
def qc8 (N:Nat) (a:List Str) (b:List Str):Option Bool:=
 if(!decide ((a.length:Int)=(b.length:Int)))=true then
 some false
 else
 (yN a b N 0).bind (fun
 |(.inl ())=>
 some true
 |(.inr q9)=>
 some q9)
theorem qeB (N:Nat) (a:List Str) (b:List Str) {res:Bool} (h:qc8 N a b=some res):qj Tryz.prog (.fn 13) [vl encS a,vl encS b] [] (.bool res) []:=by
 unfold qc8 at h
 refine Goes.fnW Tryz.func13 rfl rfl (m:=26) rfl (rs:=[.tmp 4]) rfl (l:=(kA7 a b [])) rfl ?_
 refine sh fol (kA7 a b []) ?_
 refine sq ?_
 refine sh fol (kA7 a b [(10,.bool (!decide ((a.length:Int)=(b.length:Int))))]) ?_
 refine ihB h (fun c1 h=>?_) (fun c1 h=>?_)
 ·refine sh fol kAK ?_
  refine Goes.ret ?_
  obtain rfl:=si h
  exact(gw2 [.bool false] (FzW.still tB))
 ·refine Goes.skip ?_
  refine sq ?_
  refine sh fol (kA7 a b kBR) ?_
  refine Goes.block ?_
  obtain⟨r3,g3,h⟩:=bnd h
  refine Goes.imp (Q:=fun x s'=>(x= .exit 0∧(.inl ())=r3∧Sub s' (ofG 26 [],[]))∨(x= .ret∧ ∃q4,(.inr q4)=r3∧jh Tryz.prog [.tmp 4] (.bool q4) .ret s')) ?_ ?_
  ·refine Goes.loopS (fun M s=> ∃(n2:Int),s=(ofG 26 (kA7 a b (kAm n2)),[])∧yN a b M n2=some r3) ?_ (m:=N) ⟨_,rfl,g3⟩
   rintro M s ⟨n2,rfl,g3⟩
   cases M with
   |zero=>simp only[yN]at g3;cases g3
   |succ M=>
    rw[yN]at g3
    refine sq ?_
    refine sh fol (kA7 a b [(5,.i n2),(14,.bool (decide (n2<(a.length:Int))))]) ?_
    refine ihD g3 (fun c5 g3=>?_) (fun c5 g3=>?_)
    ·refine Goes.skip ?_
     refine sq (Goes.block ?_)
     obtain⟨x6,e_x6,g3⟩:=bnd g3
     obtain⟨x7,e_x7,g3⟩:=bnd g3
     refine sq (gr fol [2,3,6,7] (kA7 a b [(5,.i n2),(25,.bool (!(x6==x7)))]) (ac (iv qdk encS e_x6) (ac (lv 0 ce9 encS e_x6 rfl) (ac (iv qdk encS e_x7) (ac (lv 0 ce9 encS e_x7 rfl) az)))) ?_)
     refine ihB g3 (fun c8 g3=>?_) (fun c8 g3=>?_)
     ·refine sh fol kAK ?_
      refine Goes.ret ?_
      obtain rfl:=si g3
      exact Or.inr (⟨rfl,_,rfl,(gw2 [.bool false] (FzW.still tB))⟩)
     ·refine Goes.skip ?_
      refine gh fol (kA7 a b (kAm (w64 (n2+1)))) ?_
      exact⟨M,(ofG 26 (kA7 a b (kAm (w64 (n2+1)))),[]),Nat.lt_succ_self _,(Sub.refl _),_,rfl,g3⟩
    ·refine Goes.exit ?_
     obtain rfl:=si g3
     exact Or.inl (⟨rfl,rfl,(Sub.keep [] rfl rfl)⟩)
  rintro x s' (⟨rfl,rfl,hsub⟩|⟨rfl,q9,rfl,hret⟩)
  ·try dsimp only at h
   refine Goes.sub hsub ?_
   refine sh fol kAe ?_
   refine Goes.ret ?_
   obtain rfl:=si h
   exact(gw2 [.bool true] (FzW.still tB))
  ·try dsimp only at h
   obtain rfl:=si h
   exact hret
def xu (a:List Int) (b:List Int):Nat→Int→Option (Unit⊕Bool)
 |0,_=>none
 |K+1,n2=>
  if n2<(a.length:Int)then
  (idx a n2).bind fun x6=>
  (idx b n2).bind fun x7=>
  if(!decide (x6=x7))=true then
  some (.inr false)
  else
  xu a b K (w64 (n2+1))
  else
  some (.inl ())
def qdB (N:Nat) (a:List Int) (b:List Int):Option Bool:=
 if(!decide ((a.length:Int)=(b.length:Int)))=true then
 some false
 else
 (xu a b N 0).bind (fun
 |(.inl ())=>
 some true
 |(.inr q9)=>
 some q9)
theorem qhn (N:Nat) (a:List Int) (b:List Int) {res:Bool} (h:qdB N a b=some res):qj Tryz.prog (.fn 48) [vl encI a,vl encI b] [] (.bool res) []:=by
 unfold qdB at h
 refine Goes.fnW Tryz.func48 rfl rfl (m:=26) rfl (rs:=[.tmp 4]) rfl (l:=(kA8 a b [])) rfl ?_
 refine sh fol (kA8 a b []) ?_
 refine sq ?_
 refine sh fol (kA8 a b [(10,.bool (!decide ((a.length:Int)=(b.length:Int))))]) ?_
 refine ihB h (fun c1 h=>?_) (fun c1 h=>?_)
 ·refine sh fol kAK ?_
  refine Goes.ret ?_
  obtain rfl:=si h
  exact(gw2 [.bool false] (FzW.still tB))
 ·refine Goes.skip ?_
  refine sq ?_
  refine sh fol (kA8 a b kBR) ?_
  refine Goes.block ?_
  obtain⟨r3,g3,h⟩:=bnd h
  refine Goes.imp (Q:=fun x s'=>(x= .exit 0∧(.inl ())=r3∧Sub s' (ofG 26 [],[]))∨(x= .ret∧ ∃q4,(.inr q4)=r3∧jh Tryz.prog [.tmp 4] (.bool q4) .ret s')) ?_ ?_
  ·refine Goes.loopS (fun M s=> ∃(n2:Int),s=(ofG 26 (kA8 a b (kAm n2)),[])∧xu a b M n2=some r3) ?_ (m:=N) ⟨_,rfl,g3⟩
   rintro M s ⟨n2,rfl,g3⟩
   cases M with
   |zero=>simp only[xu]at g3;cases g3
   |succ M=>
    rw[xu]at g3
    refine sq ?_
    refine sh fol (kA8 a b [(5,.i n2),(14,.bool (decide (n2<(a.length:Int))))]) ?_
    refine ihD g3 (fun c5 g3=>?_) (fun c5 g3=>?_)
    ·refine Goes.skip ?_
     refine sq (Goes.block ?_)
     obtain⟨x6,e_x6,g3⟩:=bnd g3
     obtain⟨x7,e_x7,g3⟩:=bnd g3
     refine sq (gr fol [2,3,6,7] (kA8 a b [(5,.i n2),(25,.bool (!decide (x6=x7)))]) (ac (iv qfS encI e_x6) (ac (lv 0 ce3 encI e_x6 rfl) (ac (iv qfS encI e_x7) (ac (lv 0 ce3 encI e_x7 rfl) az)))) ?_)
     refine ihB g3 (fun c8 g3=>?_) (fun c8 g3=>?_)
     ·refine sh fol kAK ?_
      refine Goes.ret ?_
      obtain rfl:=si g3
      exact Or.inr (⟨rfl,_,rfl,(gw2 [.bool false] (FzW.still tB))⟩)
     ·refine Goes.skip ?_
      refine gh fol (kA8 a b (kAm (w64 (n2+1)))) ?_
      exact⟨M,(ofG 26 (kA8 a b (kAm (w64 (n2+1)))),[]),Nat.lt_succ_self _,(Sub.refl _),_,rfl,g3⟩
    ·refine Goes.exit ?_
     obtain rfl:=si g3
     exact Or.inl (⟨rfl,rfl,(Sub.keep [] rfl rfl)⟩)
  rintro x s' (⟨rfl,rfl,hsub⟩|⟨rfl,q9,rfl,hret⟩)
  ·try dsimp only at h
   refine Goes.sub hsub ?_
   refine sh fol kAe ?_
   refine Goes.ret ?_
   obtain rfl:=si h
   exact(gw2 [.bool true] (FzW.still tB))
  ·try dsimp only at h
   obtain rfl:=si h
   exact hret
def vN (N:Nat) (a:List qh) (b:List qh):Nat→Int→Option (Unit⊕Bool)
 |0,_=>none
 |K+1,n2=>
  if n2<(a.length:Int)then
  ((idx a n2).bind fun x6=>
  (idx b n2).bind fun x7=>
  if(!decide (x6.Number=x7.Number))=true then
  some true
  else
  if(!(x6.Kind==x7.Kind))=true then
  some true
  else
  (qc8 N x6.Names x7.Names).bind fun r10=>
  if(!r10)=true then
  some true
  else
  (qdB N x6.Values x7.Values).bind fun r12=>
  if(!r12)=true then
  some true
  else
  some (!(x6.Text==x7.Text)):Option Bool).bind fun b14=>
  if b14=true then
  some (.inr false)
  else
  vN N a b K (w64 (n2+1))
  else
  some (.inl ())
def qcH (N:Nat) (a:List qh) (b:List qh):Option Bool:=
 if(!decide ((a.length:Int)=(b.length:Int)))=true then
 some false
 else
 (vN N a b N 0).bind (fun
 |(.inl ())=>
 some true
 |(.inr q17)=>
 some q17)
theorem qcw (N:Nat) (a:List qh) (b:List qh) {res:Bool} (h:qcH N a b=some res):qj Tryz.prog (.fn 12) [vl ql a,vl ql b] [] (.bool res) []:=by
 unfold qcH at h
 refine Goes.fnW Tryz.func12 rfl rfl (m:=82) rfl (rs:=[.tmp 4]) rfl (l:=(kAI a b [])) rfl ?_
 refine sh fol (kAI a b []) ?_
 refine sq ?_
 refine sh fol (kAI a b [(10,.bool (!decide ((a.length:Int)=(b.length:Int))))]) ?_
 refine ihB h (fun c1 h=>?_) (fun c1 h=>?_)
 ·refine sh fol kAK ?_
  refine Goes.ret ?_
  obtain rfl:=si h
  exact(gw2 [.bool false] (FzW.still tB))
 ·refine Goes.skip ?_
  refine sq ?_
  refine sh fol (kAI a b kBR) ?_
  refine Goes.block ?_
  obtain⟨r3,g3,h⟩:=bnd h
  refine Goes.imp (Q:=fun x s'=>(x= .exit 0∧(.inl ())=r3∧Sub s' (ofG 82 [],[]))∨(x= .ret∧ ∃q4,(.inr q4)=r3∧jh Tryz.prog [.tmp 4] (.bool q4) .ret s')) ?_ ?_
  ·refine Goes.loopS (fun M s=> ∃(n2:Int),s=(ofG 82 (kAI a b (kAm n2)),[])∧vN N a b M n2=some r3) ?_ (m:=N) ⟨_,rfl,g3⟩
   rintro M s ⟨n2,rfl,g3⟩
   cases M with
   |zero=>simp only[vN]at g3;cases g3
   |succ M=>
    rw[vN]at g3
    refine sq ?_
    refine sh fol (kAI a b [(5,.i n2),(14,.bool (decide (n2<(a.length:Int))))]) ?_
    refine ihD g3 (fun c5 g3=>?_) (fun c5 g3=>?_)
    ·refine Goes.skip ?_
     refine sq (Goes.block ?_)
     refine sq ?_
     obtain⟨b14,g_v15,g3⟩:=bnd g3
     refine Goes.cut (s':=(ofG 82 (kAI a b [(5,.i n2),(81,.bool b14)]),[])) ?_ ?_
     ·obtain⟨x6,e_x6,g_v15⟩:=bnd g_v15
      obtain⟨x7,e_x7,g_v15⟩:=bnd g_v15
      rcases wyB g_v15 with⟨c8,g_v15⟩|⟨c8,g_v15⟩
      ·obtain rfl:=si g_v15
       exact tr fol [2,4,7,9,11] (kAI a b [(5,.i n2),(81,.bool true)]) (ac (iv qeb ql e_x6) (ac (lv 0 ce3 ql e_x6 rfl) (ac (iv qeb ql e_x7) (ac (lv 0 ce3 ql e_x7 rfl) (ac (gw c8) az)))))
      ·rcases wyB g_v15 with⟨c9,g_v15⟩|⟨c9,g_v15⟩
       ·obtain rfl:=si g_v15
        exact tr fol [2,4,7,9,11,14,16,19,21,24] (kAI a b [(5,.i n2),(81,.bool true)]) (ac (iv qeb ql e_x6) (ac (lv 0 ce3 ql e_x6 rfl) (ac (iv qeb ql e_x7) (ac (lv 0 ce3 ql e_x7 rfl) (ac (gw c8) (ac (iv qeb ql e_x6) (ac (lv 1 ce9 ql e_x6 rfl) (ac (iv qeb ql e_x7) (ac (lv 1 ce9 ql e_x7 rfl) (ac (gw c9) az))))))))))
       ·obtain⟨r10,e_r10,g_v15⟩:=bnd g_v15
        rcases wyB g_v15 with⟨c11,g_v15⟩|⟨c11,g_v15⟩
        ·obtain rfl:=si g_v15
         exact tr fol [2,4,7,9,11,14,16,19,21,24,27,29,32,34,35,38] (kAI a b [(5,.i n2),(81,.bool true)]) (ac (iv qeb ql e_x6) (ac (lv 0 ce3 ql e_x6 rfl) (ac (iv qeb ql e_x7) (ac (lv 0 ce3 ql e_x7 rfl) (ac (gw c8) (ac (iv qeb ql e_x6) (ac (lv 1 ce9 ql e_x6 rfl) (ac (iv qeb ql e_x7) (ac (lv 1 ce9 ql e_x7 rfl) (ac (gw c9) (ac (iv qeb ql e_x6) (ac (lv 2 qum ql e_x6 rfl) (ac (iv qeb ql e_x7) (ac (lv 2 qum ql e_x7 rfl) (ac (cv (qeB N x6.Names x7.Names e_r10)) (ac (gw c11) az))))))))))))))))
        ·obtain⟨r12,e_r12,g_v15⟩:=bnd g_v15
         rcases wyB g_v15 with⟨c13,g_v15⟩|⟨c13,g_v15⟩
         ·obtain rfl:=si g_v15
          exact tr fol [2,4,7,9,11,14,16,19,21,24,27,29,32,34,35,38,41,43,46,48,49,52] (kAI a b [(5,.i n2),(81,.bool true)]) (ac (iv qeb ql e_x6) (ac (lv 0 ce3 ql e_x6 rfl) (ac (iv qeb ql e_x7) (ac (lv 0 ce3 ql e_x7 rfl) (ac (gw c8) (ac (iv qeb ql e_x6) (ac (lv 1 ce9 ql e_x6 rfl) (ac (iv qeb ql e_x7) (ac (lv 1 ce9 ql e_x7 rfl) (ac (gw c9) (ac (iv qeb ql e_x6) (ac (lv 2 qum ql e_x6 rfl) (ac (iv qeb ql e_x7) (ac (lv 2 qum ql e_x7 rfl) (ac (cv (qeB N x6.Names x7.Names e_r10)) (ac (gw c11) (ac (iv qeb ql e_x6) (ac (lv 3 ce38 ql e_x6 rfl) (ac (iv qeb ql e_x7) (ac (lv 3 ce38 ql e_x7 rfl) (ac (cv (qhn N x6.Values x7.Values e_r12)) (ac (gw c13) az))))))))))))))))))))))
         ·obtain rfl:=si g_v15
          exact tr fol [2,4,7,9,11,14,16,19,21,24,27,29,32,34,35,38,41,43,46,48,49,52,55,57,60,62] (kAI a b [(5,.i n2),(81,.bool (!(x6.Text==x7.Text)))]) (ac (iv qeb ql e_x6) (ac (lv 0 ce3 ql e_x6 rfl) (ac (iv qeb ql e_x7) (ac (lv 0 ce3 ql e_x7 rfl) (ac (gw c8) (ac (iv qeb ql e_x6) (ac (lv 1 ce9 ql e_x6 rfl) (ac (iv qeb ql e_x7) (ac (lv 1 ce9 ql e_x7 rfl) (ac (gw c9) (ac (iv qeb ql e_x6) (ac (lv 2 qum ql e_x6 rfl) (ac (iv qeb ql e_x7) (ac (lv 2 qum ql e_x7 rfl) (ac (cv (qeB N x6.Names x7.Names e_r10)) (ac (gw c11) (ac (iv qeb ql e_x6) (ac (lv 3 ce38 ql e_x6 rfl) (ac (iv qeb ql e_x7) (ac (lv 3 ce38 ql e_x7 rfl) (ac (cv (qhn N x6.Values x7.Values e_r12)) (ac (gw c13) (ac (iv qeb ql e_x6) (ac (lv 4 ce9 ql e_x6 rfl) (ac (iv qeb ql e_x7) (ac (lv 4 ce9 ql e_x7 rfl) az))))))))))))))))))))))))))
     refine ihB g3 (fun c16 g3=>?_) (fun c16 g3=>?_)
     ·refine sh fol kAK ?_
      refine Goes.ret ?_
      obtain rfl:=si g3
      exact Or.inr (⟨rfl,_,rfl,(gw2 [.bool false] (FzW.still tB))⟩)
     ·refine Goes.skip ?_
      refine gh fol (kAI a b (kAm (w64 (n2+1)))) ?_
      exact⟨M,(ofG 82 (kAI a b (kAm (w64 (n2+1)))),[]),Nat.lt_succ_self _,(Sub.refl _),_,rfl,g3⟩
    ·refine Goes.exit ?_
     obtain rfl:=si g3
     exact Or.inl (⟨rfl,rfl,(Sub.keep [] rfl rfl)⟩)
  rintro x s' (⟨rfl,rfl,hsub⟩|⟨rfl,q17,rfl,hret⟩)
  ·try dsimp only at h
   refine Goes.sub hsub ?_
   refine sh fol kAe ?_
   refine Goes.ret ?_
   obtain rfl:=si h
   exact(gw2 [.bool true] (FzW.still tB))
  ·try dsimp only at h
   obtain rfl:=si h
   exact hret
def zT (l:List qf):Nat→(List qf)→Int→Option (List qf)
 |0,_,_=>none
 |K+1,l1,n2=>
  if n2<(l.length:Int)then
  (idx l n2).bind fun x6=>
  (app 48 l1 [x6]).bind fun l7=>
  zT l K l7 (w64 (n2+1))
  else
  some l1
def qag (N:Nat) (l:List qf):Option (List qf):=
 (zT l N ([]:List qf) 0).bind fun l3=>
 some l3
theorem yD (N:Nat) (l:List qf) {res:List qf} (h:qag N l=some res):qj Tryz.prog (.fn 17) [vl qa l] [] (vl qa res) []:=by
 unfold qag at h
 refine Goes.fnW Tryz.func17 rfl rfl (m:=18) rfl (rs:=[.tmp 2]) rfl (l:=(kD l [])) rfl ?_
 refine sh fol (kD l []) ?_
 refine sh fol (kD l [(3,.nilslice)]) ?_
 refine sq ?_
 refine sh fol ((3,.nilslice)::(kBZ l [(7,.i (l.length:Int)),(8,.i 0)])) ?_
 refine Goes.block ?_
 obtain⟨r4,g4,h⟩:=bnd h
 refine Goes.imp (Q:=fun x s'=>(x= .exit 0∧ ∃l3,l3=r4∧Sub s' (ofG 18 [(3,.gslice 0 l3.length 4)],(kC l3 [])))) ?_ ?_
 ·refine Goes.sub (s':=(ofG 18 ((3,.gslice 0 ([]:List qf).length 4)::(kBZ l [(7,.i (l.length:Int)),(8,.i 0)])),kAb)) (Sub.norm [] [none] rfl rfl (.keep .nil (.keep (.same (qp qa _)) (.keep (.same nI) (.keep (.same nI) .nil)))) (.fresh .nil)) ?_
  refine Goes.loopS (fun M s=> ∃(l1:List qf) (n2:Int),s=(ofG 18 ((3,.gslice 0 l1.length 4)::(kBZ l (kAJ (l.length:Int) n2 []))),(kC l1 []))∧zT l M l1 n2=some r4) ?_ (m:=N) ⟨_,_,rfl,g4⟩
  rintro M s ⟨l1,n2,rfl,g4⟩
  cases M with
  |zero=>simp only[zT]at g4;cases g4
  |succ M=>
   rw[zT]at g4
   refine sh fol ((3,.gslice 0 l1.length 4)::(kBZ l (kAJ (l.length:Int) n2 [(9,.bool (decide (n2<(l.length:Int))))]))) ?_
   refine sq ?_
   refine ihD g4 (fun c5 g4=>?_) (fun c5 g4=>?_)
   ·refine Goes.skip ?_
    refine sq (Goes.block ?_)
    obtain⟨x6,e_x6,g4⟩:=bnd g4
    refine sq (gq fol [0,1] ((3,.gslice 0 l1.length 4)::(5,.ptr 1 0)::(kBZ l (kAJ (l.length:Int) n2 []))) (kC l1 (kE x6.Desk x6.Number x6.Clock x6.Line [])) (ac (iv qdD qa e_x6) (ac (la qeK qa e_x6) az)) ?_)
    obtain⟨l7,e_l7,g4⟩:=bnd g4
    refine gq fol [3] ((3,.gslice 3 l7.length 4)::(kBZ l (kAJ (l.length:Int) n2 []))) (.dead::(kE x6.Desk x6.Number x6.Clock x6.Line (kE x6.Desk x6.Number x6.Clock x6.Line (kC l7 [])))) (ac (hs (.run [0,2] (jL Tryz.prog [55,55] (.gslice 0 l1.length 4) (.slice 2 0 1 1 4)) (kC l1 (kE x6.Desk x6.Number x6.Clock x6.Line (kE x6.Desk x6.Number x6.Clock x6.Line []))) (.gslice 3 l7.length 4) (.dead::(kE x6.Desk x6.Number x6.Clock x6.Line (kE x6.Desk x6.Number x6.Clock x6.Line (kC l7 [])))) true) (qaF qq5 (E:=qa) rfl (qfQ (E:=qa) (ys:=[x6]) rfl rfl rfl rfl) (qi1 (E:=qa) (l:=l1) rfl rfl rfl e_l7 rfl))) az) ?_
    refine gh fol ((3,.gslice 3 l7.length 4)::(kBZ l (kAJ (l.length:Int) (w64 (n2+1)) []))) ?_
    exact⟨M,(ofG 18 ((3,.gslice 0 l7.length 4)::(kBZ l (kAJ (l.length:Int) (w64 (n2+1)) []))),(kC l7 [])),Nat.lt_succ_self _,(Sub.norm [] [some 3] rfl rfl (.keep (.gslice rfl) (.keep (.same (qp qa _)) (.keep (.same nI) (.keep (.same nI) .nil)))) (.ks .nil)),_,_,rfl,g4⟩
   ·refine Goes.exit ?_
    obtain rfl:=si g4
    exact⟨rfl,_,rfl,(Sub.keep [3] rfl rfl)⟩
 rintro x s' ⟨rfl,l3,rfl,hsub⟩
 refine Goes.sub hsub ?_
 refine sh fol [(2,.gslice 0 l3.length 4)] ?_
 refine Goes.ret ?_
 obtain rfl:=si h
 exact(gw2 [.gslice 0 l3.length 4] (FzW.fz (Fz.gs (E:=qa) rfl rfl (nl rfl))))
def xc (l:List qf):Nat→Int→Option (Unit⊕Bool)
 |0,_=>none
 |K+1,n6=>
  if n6<(l.length:Int)then
  ((idx l n6).bind fun x10=>
  if(x10.Desk.length:Int)>60 then
  some true
  else
  some (decide ((x10.Line.length:Int)>150)):Option Bool).bind fun b12=>
  if b12=true then
  some (.inr false)
  else
  xc l K (w64 (n6+1))
  else
  some (.inl ())
def qbQ (N:Nat) (l:List qf) (n:Int):Option Bool:=
 (if(l.length:Int)>n then
 if(l.length:Int)≤1000 then
 some true
 else
 some (decide ((l.length:Int)>1003))
 else
 some (decide ((l.length:Int)>1003)):Option Bool).bind fun b3=>
 if b3=true then
 some false
 else
 (xc l N 0).bind (fun
 |(.inl ())=>
 some true
 |(.inr q15)=>
 some q15)
theorem qd7 (N:Nat) (l:List qf) (n:Int) {res:Bool} (h:qbQ N l n=some res):qj Tryz.prog (.fn 18) (kBI l [.i n]) [] (.bool res) []:=by
 unfold qbQ at h
 refine Goes.fnW Tryz.func18 rfl rfl (m:=42) rfl (rs:=[.tmp 4]) rfl (l:=(kD l [(1,.i n)])) rfl ?_
 refine sh fol (kD l [(1,.i n)]) ?_
 refine sq ?_
 refine sq ?_
 obtain⟨b3,g_v4,h⟩:=bnd h
 refine Goes.cut (s':=(ofG 42 (kD l [(19,.bool b3)]),[])) ?_ ?_
 ·rcases wyD g_v4 with⟨c1,g_v4⟩|⟨c1,g_v4⟩
  ·rcases wyD g_v4 with⟨c2,g_v4⟩|⟨c2,g_v4⟩
   ·obtain rfl:=si g_v4
    exact tr fol [4,9] (kD l [(19,.bool true)]) (ac (gw c1) (ac (gw c2) az))
   ·obtain rfl:=si g_v4
    exact tr fol [4,9] (kD l [(19,.bool (decide ((l.length:Int)>1003)))]) (ac (gw c1) (ac (gw c2) az))
  ·obtain rfl:=si g_v4
   exact tr fol [4] (kD l [(19,.bool (decide ((l.length:Int)>1003)))]) (ac (gw c1) az)
 refine ihB h (fun c5 h=>?_) (fun c5 h=>?_)
 ·refine sh fol kAK ?_
  refine Goes.ret ?_
  obtain rfl:=si h
  exact(gw2 [.bool false] (FzW.still tB))
 ·refine Goes.skip ?_
  refine sq ?_
  refine sh fol (kD l kBR) ?_
  refine Goes.block ?_
  obtain⟨r7,g7,h⟩:=bnd h
  refine Goes.imp (Q:=fun x s'=>(x= .exit 0∧(.inl ())=r7∧Sub s' (ofG 42 [],[]))∨(x= .ret∧ ∃q8,(.inr q8)=r7∧jh Tryz.prog [.tmp 4] (.bool q8) .ret s')) ?_ ?_
  ·refine Goes.loopS (fun M s=> ∃(n6:Int),s=(ofG 42 (kD l (kAm n6)),[])∧xc l M n6=some r7) ?_ (m:=N) ⟨_,rfl,g7⟩
   rintro M s ⟨n6,rfl,g7⟩
   cases M with
   |zero=>simp only[xc]at g7;cases g7
   |succ M=>
    rw[xc]at g7
    refine sq ?_
    refine sh fol (kD l [(5,.i n6),(23,.bool (decide (n6<(l.length:Int))))]) ?_
    refine ihD g7 (fun c9 g7=>?_) (fun c9 g7=>?_)
    ·refine Goes.skip ?_
     refine sq (Goes.block ?_)
     refine sq ?_
     obtain⟨b12,g_v13,g7⟩:=bnd g7
     refine Goes.cut (s':=(ofG 42 (kD l [(5,.i n6),(41,.bool b12)]),[])) ?_ ?_
     ·obtain⟨x10,e_x10,g_v13⟩:=bnd g_v13
      rcases wyD g_v13 with⟨c11,g_v13⟩|⟨c11,g_v13⟩
      ·obtain rfl:=si g_v13
       exact tr fol [2,4,7] (kD l [(5,.i n6),(41,.bool true)]) (ac (iv qq5 qa e_x10) (ac (lv 0 ce9 qa e_x10 rfl) (ac (gw c11) az)))
      ·obtain rfl:=si g_v13
       exact tr fol [2,4,7,10,12] (kD l [(5,.i n6),(41,.bool (decide ((x10.Line.length:Int)>150)))]) (ac (iv qq5 qa e_x10) (ac (lv 0 ce9 qa e_x10 rfl) (ac (gw c11) (ac (iv qq5 qa e_x10) (ac (lv 3 ce9 qa e_x10 rfl) az)))))
     refine ihB g7 (fun c14 g7=>?_) (fun c14 g7=>?_)
     ·refine sh fol kAK ?_
      refine Goes.ret ?_
      obtain rfl:=si g7
      exact Or.inr (⟨rfl,_,rfl,(gw2 [.bool false] (FzW.still tB))⟩)
     ·refine Goes.skip ?_
      refine gh fol (kD l (kAm (w64 (n6+1)))) ?_
      exact⟨M,(ofG 42 (kD l (kAm (w64 (n6+1)))),[]),Nat.lt_succ_self _,(Sub.refl _),_,rfl,g7⟩
    ·refine Goes.exit ?_
     obtain rfl:=si g7
     exact Or.inl (⟨rfl,rfl,(Sub.keep [] rfl rfl)⟩)
  rintro x s' (⟨rfl,rfl,hsub⟩|⟨rfl,q15,rfl,hret⟩)
  ·try dsimp only at h
   refine Goes.sub hsub ?_
   refine sh fol kAe ?_
   refine Goes.ret ?_
   obtain rfl:=si h
   exact(gw2 [.bool true] (FzW.still tB))
  ·try dsimp only at h
   obtain rfl:=si h
   exact hret
def qbG (s_:Str):Nat→Int→Option (Unit⊕Bool)
 |0,_=>none
 |K+1,n5=>
  if n5<(s_.length:Int)then
  (idx s_ n5).bind fun c9=>
  (if(c9.toNat:Int)≥97 then
  if(c9.toNat:Int)≤122 then
  some true
  else
  if(c9.toNat:Int)≥65 then
  some (decide ((c9.toNat:Int)≤90))
  else
  some false
  else
  if(c9.toNat:Int)≥65 then
  some (decide ((c9.toNat:Int)≤90))
  else
  some false:Option Bool).bind fun b14=>
  (if(!b14)=true then
  if n5=0 then
  some true
  else
  if(c9.toNat:Int)≥48 then
  if(c9.toNat:Int)≤57 then
  some false
  else
  some (!(decide ((c9.toNat:Int)=95)))
  else
  some (!(decide ((c9.toNat:Int)=95)))
  else
  some false:Option Bool).bind fun b20=>
  if b20=true then
  some (.inr false)
  else
  qbG s_ K (w64 (n5+1))
  else
  some (.inl ())
def qdZ (N:Nat) (s_:Str):Option Bool:=
 (if(s_.length:Int)<1 then
 some true
 else
 some (decide ((s_.length:Int)>24)):Option Bool).bind fun b2=>
 if b2=true then
 some false
 else
 (qbG s_ N 0).bind (fun
 |(.inl ())=>
 some true
 |(.inr q23)=>
 some q23)
theorem qnR (N:Nat) (s_:Str) {res:Bool} (h:qdZ N s_=some res):qj Tryz.prog (.fn 52) [.str s_] [] (.bool res) []:=by
 unfold qdZ at h
 refine Goes.fnW Tryz.func52 rfl rfl (m:=56) rfl (rs:=[.tmp 2]) rfl (l:=(kAi s_ [])) rfl ?_
 refine sh fol (kAi s_ []) ?_
 refine sq ?_
 refine sq ?_
 obtain⟨b2,g_v3,h⟩:=bnd h
 refine Goes.cut (s':=(ofG 56 (kAi s_ [(13,.bool b2)]),[])) ?_ ?_
 ·rcases wyD g_v3 with⟨c1,g_v3⟩|⟨c1,g_v3⟩
  ·obtain rfl:=si g_v3
   exact tr fol [3] (kAi s_ [(13,.bool true)]) (ac (gw c1) az)
  ·obtain rfl:=si g_v3
   exact tr fol [3] (kAi s_ [(13,.bool (decide ((s_.length:Int)>24)))]) (ac (gw c1) az)
 refine ihB h (fun c4 h=>?_) (fun c4 h=>?_)
 ·refine sh fol kBa ?_
  refine Goes.ret ?_
  obtain rfl:=si h
  exact(gw2 [.bool false] (FzW.still tB))
 ·refine Goes.skip ?_
  refine sq ?_
  refine sh fol (kAi s_ [(3,.i 0)]) ?_
  refine Goes.block ?_
  obtain⟨r6,g6,h⟩:=bnd h
  refine Goes.imp (Q:=fun x s'=>(x= .exit 0∧(.inl ())=r6∧Sub s' (ofG 56 [],[]))∨(x= .ret∧ ∃q7,(.inr q7)=r6∧jh Tryz.prog [.tmp 2] (.bool q7) .ret s')) ?_ ?_
  ·refine Goes.loopS (fun M s=> ∃(n5:Int),s=(ofG 56 (kAi s_ [(3,.i n5)]),[])∧qbG s_ M n5=some r6) ?_ (m:=N) ⟨_,rfl,g6⟩
   rintro M s ⟨n5,rfl,g6⟩
   cases M with
   |zero=>simp only[qbG]at g6;cases g6
   |succ M=>
    rw[qbG]at g6
    refine sq ?_
    refine sh fol (kAi s_ [(3,.i n5),(17,.bool (decide (n5<(s_.length:Int))))]) ?_
    refine ihD g6 (fun c8 g6=>?_) (fun c8 g6=>?_)
    ·refine Goes.skip ?_
     refine sq (Goes.block ?_)
     obtain⟨c9,e_c9,g6⟩:=bnd g6
     refine sq (gr fol [2] (kAi s_ [(3,.i n5),(4,.int .u8 (c9.toNat:Int))]) (ac (hs (.done (.opt (qdM Tryz.prog 9 (.str s_) (.i n5))) (.int .u8 (c9.toNat:Int))) (qgT st9 e_c9)) az) ?_)
     refine sq ?_
     obtain⟨b14,g_v15,g6⟩:=bnd g6
     refine Goes.cut (s':=(ofG 56 (kAi s_ [(3,.i n5),(4,.int .u8 (c9.toNat:Int)),(5,.bool b14)]),[])) ?_ ?_
     ·rcases wyD g_v15 with⟨c10,g_v15⟩|⟨c10,g_v15⟩
      ·rcases wyD g_v15 with⟨c11,g_v15⟩|⟨c11,g_v15⟩
       ·obtain rfl:=si g_v15
        exact tr fol [2,6] (kAi s_ [(3,.i n5),(4,.int .u8 (c9.toNat:Int)),(5,.bool true)]) (ac (gw c10) (ac (gw c11) az))
       ·rcases wyD g_v15 with⟨c12,g_v15⟩|⟨c12,g_v15⟩
        ·obtain rfl:=si g_v15
         exact tr fol [2,6,9] (kAi s_ [(3,.i n5),(4,.int .u8 (c9.toNat:Int)),(5,.bool (decide ((c9.toNat:Int)≤90)))]) (ac (gw c10) (ac (gw c11) (ac (gw c12) az)))
        ·obtain rfl:=si g_v15
         exact tr fol [2,6,9] (kAi s_ [(3,.i n5),(4,.int .u8 (c9.toNat:Int)),(5,.bool false)]) (ac (gw c10) (ac (gw c11) (ac (gw c12) az)))
      ·rcases wyD g_v15 with⟨c13,g_v15⟩|⟨c13,g_v15⟩
       ·obtain rfl:=si g_v15
        exact tr fol [2,9] (kAi s_ [(3,.i n5),(4,.int .u8 (c9.toNat:Int)),(5,.bool (decide ((c9.toNat:Int)≤90)))]) (ac (gw c10) (ac (gw c13) az))
       ·obtain rfl:=si g_v15
        exact tr fol [2,9] (kAi s_ [(3,.i n5),(4,.int .u8 (c9.toNat:Int)),(5,.bool false)]) (ac (gw c10) (ac (gw c13) az))
     refine sq ?_
     obtain⟨b20,g_v21,g6⟩:=bnd g6
     refine Goes.cut (s':=(ofG 56 (kAi s_ [(3,.i n5),(55,.bool b20)]),[])) ?_ ?_
     ·rcases wyB g_v21 with⟨c16,g_v21⟩|⟨c16,g_v21⟩
      ·rcases wyD g_v21 with⟨c17,g_v21⟩|⟨c17,g_v21⟩
       ·obtain rfl:=si g_v21
        exact tr fol [2,5] (kAi s_ [(3,.i n5),(55,.bool true)]) (ac (gw c16) (ac (gw c17) az))
       ·rcases wyD g_v21 with⟨c18,g_v21⟩|⟨c18,g_v21⟩
        ·rcases wyD g_v21 with⟨c19,g_v21⟩|⟨c19,g_v21⟩
         ·obtain rfl:=si g_v21
          exact tr fol [2,5,8,12] (kAi s_ [(3,.i n5),(55,.bool false)]) (ac (gw c16) (ac (gw c17) (ac (gw c18) (ac (gw c19) az))))
         ·obtain rfl:=si g_v21
          exact tr fol [2,5,8,12] (kAi s_ [(3,.i n5),(55,.bool (!(decide ((c9.toNat:Int)=95))))]) (ac (gw c16) (ac (gw c17) (ac (gw c18) (ac (gw c19) az))))
        ·obtain rfl:=si g_v21
         exact tr fol [2,5,8] (kAi s_ [(3,.i n5),(55,.bool (!(decide ((c9.toNat:Int)=95))))]) (ac (gw c16) (ac (gw c17) (ac (gw c18) az)))
      ·obtain rfl:=si g_v21
       exact tr fol [2] (kAi s_ [(3,.i n5),(55,.bool false)]) (ac (gw c16) az)
     refine ihB g6 (fun c22 g6=>?_) (fun c22 g6=>?_)
     ·refine sh fol kBa ?_
      refine Goes.ret ?_
      obtain rfl:=si g6
      exact Or.inr (⟨rfl,_,rfl,(gw2 [.bool false] (FzW.still tB))⟩)
     ·refine Goes.skip ?_
      refine gh fol (kAi s_ [(3,.i (w64 (n5+1)))]) ?_
      exact⟨M,(ofG 56 (kAi s_ [(3,.i (w64 (n5+1)))]),[]),Nat.lt_succ_self _,(Sub.refl _),_,rfl,g6⟩
    ·refine Goes.exit ?_
     obtain rfl:=si g6
     exact Or.inl (⟨rfl,rfl,(Sub.keep [] rfl rfl)⟩)
  rintro x s' (⟨rfl,rfl,hsub⟩|⟨rfl,q23,rfl,hret⟩)
  ·try dsimp only at h
   refine Goes.sub hsub ?_
   refine sh fol [(2,.bool true)] ?_
   refine Goes.ret ?_
   obtain rfl:=si h
   exact(gw2 [.bool true] (FzW.still tB))
  ·try dsimp only at h
   obtain rfl:=si h
   exact hret
def xZ (n:Int) (low:Int) (high:Int):Option Bool:=
 (if n<low then
 some true
 else
 some (decide (n>high)):Option Bool).bind fun b2=>
 some b2
theorem qfB (n:Int) (low:Int) (high:Int) {res:Bool} (h:xZ n low high=some res):qj Tryz.prog (.fn 53) [.i n,.i low,.i high] [] (.bool res) []:=by
 unfold xZ at h
 refine Goes.fnW Tryz.func53 rfl rfl (m:=15) rfl (rs:=[.tmp 6]) rfl (l:=(kAk n low [(2,.i high)])) rfl ?_
 refine sh fol (kAk n low [(2,.i high)]) ?_
 refine sq ?_
 obtain⟨b2,g_v3,h⟩:=bnd h
 refine Goes.cut (s':=(ofG 15 [(6,.bool b2)],[])) ?_ ?_
 ·rcases wyD g_v3 with⟨c1,g_v3⟩|⟨c1,g_v3⟩
  ·obtain rfl:=si g_v3
   exact tr fol [3] [(6,.bool true)] (ac (gw c1) az)
  ·obtain rfl:=si g_v3
   exact tr fol [3] [(6,.bool (decide (n>high)))] (ac (gw c1) az)
 refine Goes.ret ?_
 obtain rfl:=si h
 exact(gw2 [.bool b2] (FzW.still tB))
def qfo (kind:Str):Option (Int×Int×Bool):=
 if(kind==[109,97,107,101])=true then
 some (2,3,true)
 else
 ((if(kind==[116,101,115,116])=true then
 some (kind==[116,101,115,116])
 else
 some (kind==[117,115,101]):Option Bool)).bind fun b2=>
 if b2=true then
 some (1,2,true)
 else
 ((if(kind==[102,97,105,108])=true then
 some (kind==[102,97,105,108])
 else
 some (kind==[114,101,99,97,108,108]):Option Bool)).bind fun b6=>
 if b6=true then
 some (1,1,true)
 else
 if(kind==[117,110,100,111])=true then
 some (0,0,true)
 else
 some (0,0,false)
theorem qpN (kind:Str) {res:Int×Int×Bool} (h:qfo kind=some res):qj Tryz.prog (.fn 100) [.str kind] [] (.tuple [.i res.1,.i res.2.1,.bool res.2.2]) []:=by
 unfold qfo at h
 refine Goes.fnW Tryz.func100 rfl rfl (m:=16) rfl (rs:=[.tmp 2,.tmp 3,.tmp 4]) rfl (l:=(kAi kind [])) rfl ?_
 refine sh fol (kAi kind []) ?_
 refine sq ?_
 refine sh fol [(5,.str kind)] ?_
 refine Goes.block ?_
 refine sh fol [(5,.str kind),(6,.bool (kind==[109,97,107,101]))] ?_
 refine ihB h (fun c1 h=>?_) (fun c1 h=>?_)
 ·refine sh fol ((2,.i 2)::(3,.i 3)::kAe) ?_
  refine Goes.ret ?_
  obtain rfl:=si h
  exact(gw2 (.i 2:: .i 3::kAx) (FzW.tuple (qA.cons (FzW.still tI) (qA.cons (FzW.still tI) (qA.cons (FzW.still tB) qA.nil)))))
 ·refine sq ?_
  refine sh fol [(5,.str kind),(8,.bool (kind==[116,101,115,116]))] ?_
  obtain⟨r3,g3,h⟩:=bnd h
  refine Goes.imp (Q:=fun x s'=>(x= .normal∧ ∃b2,b2=r3∧Sub s' (ofG 16 [(5,.str kind),(8,.bool b2)],[]))) ?_ ?_
  ·refine ihB g3 (fun c4 g3=>?_) (fun c4 g3=>?_)
   ·refine Goes.skip ?_
    obtain rfl:=si g3
    exact⟨rfl,_,rfl,(Sub.refl _)⟩
   ·refine gh fol [(5,.str kind),(8,.bool (kind==[117,115,101]))] ?_
    obtain rfl:=si g3
    exact⟨rfl,_,rfl,(Sub.refl _)⟩
  rintro x s' ⟨rfl,b2,rfl,hsub⟩
  refine Goes.sub hsub ?_
  refine ihB h (fun c5 h=>?_) (fun c5 h=>?_)
  ·refine sh fol ((2,.i 1)::(3,.i 2)::kAe) ?_
   refine Goes.ret ?_
   obtain rfl:=si h
   exact(gw2 (.i 1:: .i 2::kAx) (FzW.tuple (qA.cons (FzW.still tI) (qA.cons (FzW.still tI) (qA.cons (FzW.still tB) qA.nil)))))
  ·refine sq ?_
   refine sh fol [(5,.str kind),(11,.bool (kind==[102,97,105,108]))] ?_
   obtain⟨r7,g7,h⟩:=bnd h
   refine Goes.imp (Q:=fun x s'=>(x= .normal∧ ∃b6,b6=r7∧Sub s' (ofG 16 [(5,.str kind),(11,.bool b6)],[]))) ?_ ?_
   ·refine ihB g7 (fun c8 g7=>?_) (fun c8 g7=>?_)
    ·refine Goes.skip ?_
     obtain rfl:=si g7
     exact⟨rfl,_,rfl,(Sub.refl _)⟩
    ·refine gh fol [(5,.str kind),(11,.bool (kind==[114,101,99,97,108,108]))] ?_
     obtain rfl:=si g7
     exact⟨rfl,_,rfl,(Sub.refl _)⟩
   rintro x s' ⟨rfl,b6,rfl,hsub⟩
   refine Goes.sub hsub ?_
   refine ihB h (fun c9 h=>?_) (fun c9 h=>?_)
   ·refine sh fol ((2,.i 1)::(3,.i 1)::kAe) ?_
    refine Goes.ret ?_
    obtain rfl:=si h
    exact(gw2 (.i 1:: .i 1::kAx) (FzW.tuple (qA.cons (FzW.still tI) (qA.cons (FzW.still tI) (qA.cons (FzW.still tB) qA.nil)))))
   ·refine sh fol [(14,.bool (kind==[117,110,100,111]))] ?_
    refine ihB h (fun c10 h=>?_) (fun c10 h=>?_)
    ·refine sh fol ((2,.i 0)::(3,.i 0)::kAe) ?_
     refine Goes.ret ?_
     obtain rfl:=si h
     exact(gw2 (.i 0:: .i 0::kAx) (FzW.tuple (qA.cons (FzW.still tI) (qA.cons (FzW.still tI) (qA.cons (FzW.still tB) qA.nil)))))
    ·refine Goes.skip ?_
     refine sh fol ((2,.i 0)::(3,.i 0)::kAK) ?_
     refine Goes.ret ?_
     obtain rfl:=si h
     exact(gw2 [.i 0,.i 0,.bool false] (FzW.tuple (qA.cons (FzW.still tI) (qA.cons (FzW.still tI) (qA.cons (FzW.still tB) qA.nil)))))
def qay (s_:Str):Nat→(List Str)→Int→Int→Option (List Str)
 |0,_,_,_=>none
 |K+1,l1,n2,n3=>
  if n3≤(s_.length:Int)then
  (((if n3=(s_.length:Int)then
  some true
  else
  (idx s_ n3).bind fun c11=>
  some (decide ((c11.toNat:Int)=32)):Option Bool).bind fun b12=>
  if b12=true then
  (cut s_ n2 n3).bind fun s15=>
  (app 16 l1 [s15]).bind fun l16=>
  some (l16,w64 (n3+1))
  else
  some (l1,n2):Option ((List Str)×Int))).bind fun(l7,n8)=>
  qay s_ K l7 n8 (w64 (n3+1))
  else
  some l1
def qga (N:Nat) (s_:Str):Option (List Str):=
 (qay s_ N ([]:List Str) 0 0).bind fun l4=>
 some l4
theorem qoS (N:Nat) (s_:Str) {res:List Str} (h:qga N s_=some res):qj Tryz.prog (.fn 104) [.str s_] [] (vl encS res) []:=by
 unfold qga at h
 refine Goes.fnW Tryz.func104 rfl rfl (m:=32) rfl (rs:=[.tmp 2]) rfl (l:=(kAi s_ [])) rfl ?_
 refine sh fol (kAi s_ []) ?_
 refine sh fol (kAi s_ [(3,.nilslice)]) ?_
 refine sh fol (kAi s_ [(3,.nilslice),(4,.i 0)]) ?_
 refine sq ?_
 refine sh fol (kAi s_ ((3,.nilslice)::(4,.i 0)::kBR)) ?_
 refine Goes.block ?_
 obtain⟨r5,g5,h⟩:=bnd h
 refine Goes.imp (Q:=fun x s'=>(x= .exit 0∧ ∃l4,l4=r5∧Sub s' (ofG 32 [(3,.gslice 0 l4.length 1)],(kN l4 [])))) ?_ ?_
 ·refine Goes.sub (s':=(ofG 32 (kAi s_ ((3,.gslice 0 ([]:List Str).length 1)::(4,.i 0)::kBR)),[.cells (([]:List Str).flatMap encS.c)])) (Sub.norm [] [none] rfl rfl (.keep (.same nS) (.keep .nil (.keep (.same nI) (.keep (.same nI) .nil)))) (.fresh .nil)) ?_
  refine Goes.loopS (fun M s=> ∃(l1:List Str) (n2:Int) (n3:Int),s=(ofG 32 (kAU s_ l1 n2 n3 []),(kN l1 []))∧qay s_ M l1 n2 n3=some r5) ?_ (m:=N) ⟨_,_,_,rfl,g5⟩
  rintro M s ⟨l1,n2,n3,rfl,g5⟩
  cases M with
  |zero=>simp only[qay]at g5;cases g5
  |succ M=>
   rw[qay]at g5
   refine sq ?_
   refine sh fol (kAU s_ l1 n2 n3 [(9,.bool (decide (n3≤(s_.length:Int))))]) ?_
   refine ihD g5 (fun c6 g5=>?_) (fun c6 g5=>?_)
   ·refine Goes.skip ?_
    refine sq ?_
    obtain⟨r9,g9,g5⟩:=bnd g5
    refine Goes.imp (Q:=fun x s'=>(x= .normal∧ ∃l7 n8,(l7,n8)=r9∧Sub s' (ofG 32 (kAU s_ l7 n8 n3 []),(kN l7 [])))) ?_ ?_
    ·refine Goes.block ?_
     refine sq ?_
     obtain⟨b12,g_v13,g9⟩:=bnd g9
     refine Goes.cut (s':=(ofG 32 (kAU s_ l1 n2 n3 [(21,.bool b12)]),(kN l1 []))) ?_ ?_
     ·rcases wyD g_v13 with⟨c10,g_v13⟩|⟨c10,g_v13⟩
      ·obtain rfl:=si g_v13
       exact tr fol [4] (kAU s_ l1 n2 n3 [(21,.bool true)]) (ac (gw c10) az)
      ·obtain⟨c11,e_c11,g_v13⟩:=bnd g_v13
       obtain rfl:=si g_v13
       exact tr fol [4,7] (kAU s_ l1 n2 n3 [(21,.bool (decide ((c11.toNat:Int)=32)))]) (ac (gw c10) (ac (hs (.done (.opt (qdM Tryz.prog 9 (.str s_) (.i n3))) (.int .u8 (c11.toNat:Int))) (qgT st9 e_c11)) az))
     refine ihB g9 (fun c14 g9=>?_) (fun c14 g9=>?_)
     ·obtain⟨s15,e_s15,g9⟩:=bnd g9
      obtain⟨l16,e_l16,g9⟩:=bnd g9
      refine sq (gq fol [4,6] (kAi s_ ((3,.gslice 2 l16.length 1)::(kAm n3))) (.dead:: .cells [.str s15]::(kN l16 [])) (ac (hs (.done (.opt (yf Tryz.prog 9 (.str s_) (some (.i n2)) (some (.i n3)) none)) (.str s15)) (qqB st9 (some n2) (some n3) e_s15)) (ac (hs (.run [0,1] (jL Tryz.prog [37,37] (.gslice 0 l1.length 1) (.slice 1 0 1 1 1)) (kN l1 [.cells [.str s15]]) (.gslice 2 l16.length 1) (.dead:: .cells [.str s15]::(kN l16 [])) true) (qaF qdk (E:=encS) rfl (qfQ (E:=encS) (ys:=[s15]) rfl rfl rfl rfl) (qi1 (E:=encS) (l:=l1) rfl rfl rfl e_l16 rfl))) az)) ?_)
      refine gh fol (kAi s_ ((3,.gslice 2 l16.length 1)::(4,.i (w64 (n3+1)))::(kAm n3))) ?_
      obtain rfl:=si g9
      exact⟨rfl,_,_,rfl,(Sub.norm [] [some 2] rfl rfl (.keep (.same nS) (.keep (.gslice rfl) (.keep (.same nI) (.keep (.same nI) .nil)))) (.ks .nil))⟩
     ·refine Goes.skip ?_
      obtain rfl:=si g9
      exact⟨rfl,_,_,rfl,(Sub.keep [0,3,4,5] rfl rfl)⟩
    rintro x s' ⟨rfl,l7,n8,rfl,hsub⟩
    try dsimp only at g5
    refine Goes.sub hsub ?_
    refine gh fol (kAU s_ l7 n8 (w64 (n3+1)) []) ?_
    exact⟨M,(ofG 32 (kAU s_ l7 n8 (w64 (n3+1)) []),(kN l7 [])),Nat.lt_succ_self _,(Sub.refl _),_,_,_,rfl,g5⟩
   ·refine Goes.exit ?_
    obtain rfl:=si g5
    exact⟨rfl,_,rfl,(Sub.keep [3] rfl rfl)⟩
 rintro x s' ⟨rfl,l4,rfl,hsub⟩
 refine Goes.sub hsub ?_
 refine sh fol [(2,.gslice 0 l4.length 1)] ?_
 refine Goes.ret ?_
 obtain rfl:=si h
 exact(gw2 [.gslice 0 l4.length 1] (FzW.fz (Fz.gs (E:=encS) rfl rfl (nl rfl))))
def qaV (s_:Str):Nat→Int→Int→Option (Int⊕(Int×Bool))
 |0,_,_=>none
 |K+1,n8,n9=>
  if n9<(s_.length:Int)then
  ((idx s_ n9).bind fun c14=>
  if(c14.toNat:Int)<48 then
  some true
  else
  some (decide ((c14.toNat:Int)>57)):Option Bool).bind fun b16=>
  if b16=true then
  some (.inr (0,false))
  else
  (idx s_ n9).bind fun c19=>
  qaV s_ K (w64 ((w64 (10*n8))+(w64 (IntKind.wrap .u8 ((c19.toNat:Int)-48))))) (w64 (n9+1))
  else
  some (.inl n8)
def qeg (N:Nat) (s_:Str):Option (Int×Bool):=
 (if(s_.length:Int)=0 then
 some true
 else
 if(s_.length:Int)>9 then
 some true
 else
 if(s_.length:Int)>1 then
 (idx s_ 0).bind fun c4=>
 some (decide ((c4.toNat:Int)=48))
 else
 some false:Option Bool).bind fun b5=>
 if b5=true then
 some (0,false)
 else
 (qaV s_ N 0 0).bind (fun
 |(.inl n10)=>
 some (n10,true)
 |(.inr q20)=>
 some q20)
theorem qmv (N:Nat) (s_:Str) {res:Int×Bool} (h:qeg N s_=some res):qj Tryz.prog (.fn 105) [.str s_] [] (.tuple [.i res.1,.bool res.2]) []:=by
 unfold qeg at h
 refine Goes.fnW Tryz.func105 rfl rfl (m:=49) rfl (rs:=[.tmp 2,.tmp 3]) rfl (l:=(kAi s_ [])) rfl ?_
 refine sh fol (kAi s_ []) ?_
 refine sq ?_
 refine sq ?_
 obtain⟨b5,g_v6,h⟩:=bnd h
 refine Goes.cut (s':=(ofG 49 (kAi s_ [(23,.bool b5)]),[])) ?_ ?_
 ·rcases wyD g_v6 with⟨c1,g_v6⟩|⟨c1,g_v6⟩
  ·obtain rfl:=si g_v6
   exact tr fol [3] (kAi s_ [(23,.bool true)]) (ac (gw c1) az)
  ·rcases wyD g_v6 with⟨c2,g_v6⟩|⟨c2,g_v6⟩
   ·obtain rfl:=si g_v6
    exact tr fol [3,8] (kAi s_ [(23,.bool true)]) (ac (gw c1) (ac (gw c2) az))
   ·rcases wyD g_v6 with⟨c3,g_v6⟩|⟨c3,g_v6⟩
    ·obtain⟨c4,e_c4,g_v6⟩:=bnd g_v6
     obtain rfl:=si g_v6
     exact tr fol [3,8,12,14] (kAi s_ [(23,.bool (decide ((c4.toNat:Int)=48)))]) (ac (gw c1) (ac (gw c2) (ac (gw c3) (ac (hs (.done (.opt (qdM Tryz.prog 9 (.str s_) (.i 0))) (.int .u8 (c4.toNat:Int))) (qgT st9 e_c4)) az))))
    ·obtain rfl:=si g_v6
     exact tr fol [3,8,12] (kAi s_ [(23,.bool false)]) (ac (gw c1) (ac (gw c2) (ac (gw c3) az)))
 refine ihB h (fun c7 h=>?_) (fun c7 h=>?_)
 ·refine sh fol ((2,.i 0)::kBQ) ?_
  refine Goes.ret ?_
  obtain rfl:=si h
  exact(gw2 [.i 0,.bool false] (FzW.tuple (qA.cons (FzW.still tI) (qA.cons (FzW.still tB) qA.nil))))
 ·refine Goes.skip ?_
  refine sh fol (kAi s_ [(4,.i 0)]) ?_
  refine sq ?_
  refine sh fol (kAi s_ ((4,.i 0)::kBR)) ?_
  refine Goes.block ?_
  obtain⟨r11,g11,h⟩:=bnd h
  refine Goes.imp (Q:=fun x s'=>(x= .exit 0∧ ∃n10,(.inl n10)=r11∧Sub s' (ofG 49 [(4,.i n10)],[]))∨(x= .ret∧ ∃q12,(.inr q12)=r11∧jh Tryz.prog [.tmp 2,.tmp 3] (.tuple [.i q12.1,.bool q12.2]) .ret s')) ?_ ?_
  ·refine Goes.loopS (fun M s=> ∃(n8:Int) (n9:Int),s=(ofG 49 (kAi s_ ((4,.i n8)::(kAm n9))),[])∧qaV s_ M n8 n9=some r11) ?_ (m:=N) ⟨_,_,rfl,g11⟩
   rintro M s ⟨n8,n9,rfl,g11⟩
   cases M with
   |zero=>simp only[qaV]at g11;cases g11
   |succ M=>
    rw[qaV]at g11
    refine sq ?_
    refine sh fol (kAi s_ [(4,.i n8),(5,.i n9),(27,.bool (decide (n9<(s_.length:Int))))]) ?_
    refine ihD g11 (fun c13 g11=>?_) (fun c13 g11=>?_)
    ·refine Goes.skip ?_
     refine sq (Goes.block ?_)
     refine sq ?_
     refine sq ?_
     obtain⟨b16,g_v17,g11⟩:=bnd g11
     refine Goes.cut (s':=(ofG 49 (kAi s_ [(4,.i n8),(5,.i n9),(39,.bool b16)]),[])) ?_ ?_
     ·obtain⟨c14,e_c14,g_v17⟩:=bnd g_v17
      rcases wyD g_v17 with⟨c15,g_v17⟩|⟨c15,g_v17⟩
      ·obtain rfl:=si g_v17
       exact tr fol [2,4] (kAi s_ [(4,.i n8),(5,.i n9),(39,.bool true)]) (ac (hs (.done (.opt (qdM Tryz.prog 9 (.str s_) (.i n9))) (.int .u8 (c14.toNat:Int))) (qgT st9 e_c14)) (ac (gw c15) az))
      ·obtain rfl:=si g_v17
       exact tr fol [2,4,7] (kAi s_ [(4,.i n8),(5,.i n9),(39,.bool (decide ((c14.toNat:Int)>57)))]) (ac (hs (.done (.opt (qdM Tryz.prog 9 (.str s_) (.i n9))) (.int .u8 (c14.toNat:Int))) (qgT st9 e_c14)) (ac (gw c15) (ac (hs (.done (.opt (qdM Tryz.prog 9 (.str s_) (.i n9))) (.int .u8 (c14.toNat:Int))) (qgT st9 e_c14)) az)))
     refine ihB g11 (fun c18 g11=>?_) (fun c18 g11=>?_)
     ·refine sh fol ((2,.i 0)::kBQ) ?_
      refine Goes.ret ?_
      obtain rfl:=si g11
      exact Or.inr (⟨rfl,_,rfl,(gw2 [.i 0,.bool false] (FzW.tuple (qA.cons (FzW.still tI) (qA.cons (FzW.still tB) qA.nil))))⟩)
     ·refine Goes.skip ?_
      obtain⟨c19,e_c19,g11⟩:=bnd g11
      refine gr fol [4] (kAi s_ ((4,.i (w64 ((w64 (10*n8))+(w64 (IntKind.wrap .u8 ((c19.toNat:Int)-48))))))::(kAm n9))) (ac (hs (.done (.opt (qdM Tryz.prog 9 (.str s_) (.i n9))) (.int .u8 (c19.toNat:Int))) (qgT st9 e_c19)) az) ?_
      refine gh fol (kAi s_ ((4,.i (w64 ((w64 (10*n8))+(w64 (IntKind.wrap .u8 ((c19.toNat:Int)-48))))))::(kAm (w64 (n9+1))))) ?_
      exact⟨M,(ofG 49 (kAi s_ ((4,.i (w64 ((w64 (10*n8))+(w64 (IntKind.wrap .u8 ((c19.toNat:Int)-48))))))::(kAm (w64 (n9+1))))),[]),Nat.lt_succ_self _,(Sub.refl _),_,_,rfl,g11⟩
    ·refine Goes.exit ?_
     obtain rfl:=si g11
     exact Or.inl (⟨rfl,_,rfl,(Sub.keep [4] rfl rfl)⟩)
  rintro x s' (⟨rfl,n10,rfl,hsub⟩|⟨rfl,q20,rfl,hret⟩)
  ·try dsimp only at h
   refine Goes.sub hsub ?_
   refine sh fol [(2,.i n10),(3,.bool true)] ?_
   refine Goes.ret ?_
   obtain rfl:=si h
   exact(gw2 (.i n10::kAx) (FzW.tuple (qA.cons (FzW.still tI) (qA.cons (FzW.still tB) qA.nil))))
  ·try dsimp only at h
   obtain rfl:=si h
   exact hret
def qa7 (N:Nat) (r1:List Str) (r3:Int×Int×Bool):Nat→(List Str)→(List Int)→Int→Option (((List Str)×(List Int))⊕(qh×Bool))
 |0,_,_,_=>none
 |K+1,l8,l9,n10=>
  if n10<(r1.length:Int)then
  (((idx r1 n10).bind fun x20=>
  if(x20==[])=true then
  some (.inr ((⟨0,[],[],[],[]⟩:qh),false))
  else
  if n10≤r3.1 then
  (app 16 l8 [x20]).bind fun l23=>
  some (.inl (l23,l9))
  else
  (qeg N x20).bind fun r24=>
  if(!r24.2)=true then
  some (.inr ((⟨0,[],[],[],[]⟩:qh),false))
  else
  (app 8 l9 [r24.1]).bind fun l26=>
  some (.inl (l8,l26)):Option (((List Str)×(List Int))⊕(qh×Bool)))).bind (fun
  |(.inl (l16,l17))=>
  qa7 N r1 r3 K l16 l17 (w64 (n10+1))
  |(.inr q27)=>
  some (.inr q27))
  else
  some (.inl (l8,l9))
def qeV (N:Nat) (s_:Str):Option (qh×Bool):=
 (qga N s_).bind fun r1=>
 (idx r1 0).bind fun x2=>
 (qfo x2).bind fun r3=>
 (if(!r3.2.2)=true then
 some true
 else
 some (!decide ((r1.length:Int)=(w64 ((w64 (1+r3.1))+r3.2.1)))):Option Bool).bind fun b5=>
 if b5=true then
 some ((⟨0,[],[],[],[]⟩:qh),false)
 else
 (qa7 N r1 r3 N ([]:List Str) ([]:List Int) 1).bind (fun
 |(.inl (l11,l12))=>
 some ((⟨0,x2,l11,l12,[]⟩:qh),true)
 |(.inr q28)=>
 some q28)
theorem qnQ (N:Nat) (s_:Str) {res:qh×Bool} (h:qeV N s_=some res):qj Tryz.prog (.fn 54) [.str s_] [] (.tuple [.agg (cE res.1),.bool res.2]) []:=by
 unfold qeV at h
 refine Goes.fnW Tryz.func54 rfl rfl (m:=80) rfl (rs:=[.cell 2 40,.tmp 3]) rfl (l:=(kAi s_ [])) rfl ?_
 refine sg fol (kAi s_ (kAd [])) (kF []) ?_
 obtain⟨r1,e_r1,h⟩:=bnd h
 refine sq (gr fol [1] (kR r1 []) (ac (cv (qoS N s_ e_r1)) az) ?_)
 obtain⟨x2,e_x2,h⟩:=bnd h
 obtain⟨r3,e_r3,h⟩:=bnd h
 refine sq (gr fol [1,2,3] (kR r1 [(5,.i r3.1),(6,.i r3.2.1),(7,.bool r3.2.2)]) (ac (iv qdk encS e_x2) (ac (lv 0 ce9 encS e_x2 rfl) (ac (cv (qpN x2 e_r3)) az))) ?_)
 refine sq ?_
 refine sq ?_
 obtain⟨b5,g_v6,h⟩:=bnd h
 refine Goes.cut (s':=(ofG 80 (kR r1 [(5,.i r3.1),(32,.bool b5)]),(kF []))) ?_ ?_
 ·rcases wyB g_v6 with⟨c4,g_v6⟩|⟨c4,g_v6⟩
  ·obtain rfl:=si g_v6
   exact tr fol [2] (kR r1 [(5,.i r3.1),(32,.bool true)]) (ac (gw c4) az)
  ·obtain rfl:=si g_v6
   exact tr fol [2] (kR r1 [(5,.i r3.1),(32,.bool (!decide ((r1.length:Int)=(w64 ((w64 (1+r3.1))+r3.2.1)))))]) (ac (gw c4) az)
 refine ihB h (fun c7 h=>?_) (fun c7 h=>?_)
 ·refine sh fol (kAd kBQ) ?_
  refine Goes.ret ?_
  obtain rfl:=si h
  exact(gw2 kAV (FzW.tuple (qA.cons (FzW.agg (qA.cons (FzW.still tI) (qA.cons (FzW.still tS) (qA.cons (FzW.nilv (E:=encS)) (qA.cons (FzW.nilv (E:=encI)) (qA.cons (FzW.still tS) qA.nil)))))) (qA.cons (FzW.still tB) qA.nil))))
 ·refine Goes.skip ?_
  refine sq (gq fol [1,2] (kR r1 [(5,.i r3.1),(8,.ptr 1 0)]) (kF [.cells [.i 0,.str x2,.nilslice,.nilslice,.str []]]) (ac (iv qdk encS e_x2) (ac (lv 0 ce9 encS e_x2 rfl) az)) ?_)
  refine sq ?_
  refine sh fol (kR r1 [(5,.i r3.1),(8,.ptr 1 0),(9,.i 1)]) ?_
  refine Goes.block ?_
  obtain⟨r13,g13,h⟩:=bnd h
  refine Goes.imp (Q:=fun x s'=>(x= .exit 0∧ ∃l11 l12,(.inl (l11,l12))=r13∧Sub s' (ofG 80 (kAd [(8,.ptr 1 0)]),(kF (kX x2 l11 l12 (kN l11 (kAA l12))))))∨(x= .ret∧ ∃q14,(.inr q14)=r13∧jh Tryz.prog [.cell 2 40,.tmp 3] (.tuple [.agg (cE q14.1),.bool q14.2]) .ret s')) ?_ ?_
  ·refine Goes.sub (s':=(ofG 80 (kR r1 [(5,.i r3.1),(8,.ptr 1 0),(9,.i 1)]),(kF [.cells [.i 0,.str x2,.gslice 2 ([]:List Str).length 1,.gslice 3 ([]:List Int).length 1,.str []],.cells (([]:List Str).flatMap encS.c),.cells (([]:List Int).flatMap encI.c)]))) (Sub.norm [] [some 0,some 1,none,none] rfl rfl (.kp (.keep (.same (qp encS _)) (.keep (.same nI) (.kp (.keep (.same nI) .nil))))) (.kb rfl (.same sn) (.kb rfl (.cells (rc (.same nI) (rc (.same nS) (rc (.nil) (rc (.nil) (rc (.same nS) rn)))))) (.fresh (.fresh .nil))))) ?_
   refine Goes.loopS (fun M s=> ∃(l8:List Str) (l9:List Int) (n10:Int),s=(ofG 80 (kR r1 (kAc r3.1 n10 [])),(kF (kX x2 l8 l9 (kN l8 (kAA l9)))))∧qa7 N r1 r3 M l8 l9 n10=some r13) ?_ (m:=N) ⟨_,_,_,rfl,g13⟩
   rintro M s ⟨l8,l9,n10,rfl,g13⟩
   cases M with
   |zero=>simp only[qa7]at g13;cases g13
   |succ M=>
    rw[qa7]at g13
    refine sq ?_
    refine sh fol (kR r1 (kAc r3.1 n10 [(41,.bool (decide (n10<(r1.length:Int))))])) ?_
    refine ihD g13 (fun c15 g13=>?_) (fun c15 g13=>?_)
    ·refine Goes.skip ?_
     refine sq ?_
     obtain⟨r18,g18,g13⟩:=bnd g13
     refine Goes.imp (Q:=fun x s'=>(x= .normal∧ ∃l16 l17,(.inl (l16,l17))=r18∧Sub s' (ofG 80 (kR r1 (kAc r3.1 n10 [])),(kF (kX x2 l16 l17 (kN l16 (kAA l17))))))∨(x= .ret∧ ∃q19,(.inr q19)=r18∧jh Tryz.prog [.cell 2 40,.tmp 3] (.tuple [.agg (cE q19.1),.bool q19.2]) .ret s')) ?_ ?_
     ·refine Goes.block ?_
      refine sq ?_
      obtain⟨x20,e_x20,g18⟩:=bnd g18
      refine sq (gr fol [2,3] (kR r1 (kAc r3.1 n10 [(48,.bool (x20==[]))])) (ac (iv qdk encS e_x20) (ac (lv 0 ce9 encS e_x20 rfl) az)) ?_)
      refine ihB g18 (fun c21 g18=>?_) (fun c21 g18=>?_)
      ·refine sh fol (kAd kBQ) ?_
       refine Goes.ret ?_
       obtain rfl:=si g18
       exact Or.inr (⟨rfl,_,rfl,(gw2 kAV (FzW.tuple (qA.cons (FzW.agg (qA.cons (FzW.still tI) (qA.cons (FzW.still tS) (qA.cons (FzW.nilv (E:=encS)) (qA.cons (FzW.nilv (E:=encI)) (qA.cons (FzW.still tS) qA.nil)))))) (qA.cons (FzW.still tB) qA.nil))))⟩)
      ·refine Goes.skip ?_
       refine sq ?_
       refine sh fol (kR r1 (kAc r3.1 n10 [(52,.bool (decide (n10≤r3.1)))])) ?_
       refine ihD g18 (fun c22 g18=>?_) (fun c22 g18=>?_)
       ·obtain⟨l23,e_l23,g18⟩:=bnd g18
        refine sq (gq fol [4,5,7] (kR r1 (kAc r3.1 n10 [])) (kF (.cells [.i 0,.str x2,.gslice 5 l23.length 1,.gslice 3 l9.length 1,.str []]:: .dead:: .cells (l9.flatMap encI.c):: .cells [.str x20]::(kN l23 []))) (ac (iv qdk encS e_x20) (ac (lv 0 ce9 encS e_x20 rfl) (ac (hs (.run [2,4] (jL Tryz.prog [37,37] (.gslice 2 l8.length 1) (.slice 4 0 1 1 1)) (kF (kX x2 l8 l9 (kN l8 [.cells (l9.flatMap encI.c),.cells [.str x20]]))) (.gslice 5 l23.length 1) (kF (kX x2 l8 l9 (.dead:: .cells (l9.flatMap encI.c):: .cells [.str x20]::(kN l23 [])))) true) (qaF qdk (E:=encS) rfl (qfQ (E:=encS) (ys:=[x20]) rfl rfl rfl rfl) (qi1 (E:=encS) (l:=l8) rfl rfl rfl e_l23 rfl))) az))) ?_)
        refine Goes.exit ?_
        obtain rfl:=si g18
        exact Or.inl (⟨rfl,_,_,rfl,(Sub.norm [] [some 0,some 1,some 5,some 3] rfl rfl (.kp (.keep (.same (qp encS _)) (.keep (.same nI) (.kp (.keep (.same nI) .nil))))) (.kb rfl (.same sn) (.kb rfl (.cells (rc (.same nI) (rc (.same nS) (rc (.gslice rfl) (rc (.gslice rfl) (rc (.same nS) rn)))))) (.ks (.ks .nil)))))⟩)
       ·refine Goes.skip ?_
        obtain⟨r24,e_r24,g18⟩:=bnd g18
        refine sq (gr fol [2,3,4] (kR r1 (kAc r3.1 n10 [(10,.i r24.1),(11,.bool r24.2)])) (ac (iv qdk encS e_x20) (ac (lv 0 ce9 encS e_x20 rfl) (ac (cv (qmv N x20 e_r24)) az))) ?_)
        refine sq ?_
        refine sh fol (kR r1 (kAc r3.1 n10 [(10,.i r24.1),(71,.bool (!r24.2))])) ?_
        refine ihB g18 (fun c25 g18=>?_) (fun c25 g18=>?_)
        ·refine sh fol (kAd kBQ) ?_
         refine Goes.ret ?_
         obtain rfl:=si g18
         exact Or.inr (⟨rfl,_,rfl,(gw2 kAV (FzW.tuple (qA.cons (FzW.agg (qA.cons (FzW.still tI) (qA.cons (FzW.still tS) (qA.cons (FzW.nilv (E:=encS)) (qA.cons (FzW.nilv (E:=encI)) (qA.cons (FzW.still tS) qA.nil)))))) (qA.cons (FzW.still tB) qA.nil))))⟩)
        ·refine Goes.skip ?_
         obtain⟨l26,e_l26,g18⟩:=bnd g18
         refine gq fol [4] (kR r1 (kAc r3.1 n10 [])) (kF (.cells [.i 0,.str x2,.gslice 2 l8.length 1,.gslice 5 l26.length 1,.str []]::(kN l8 (.dead:: .cells [.i r24.1]::(kAA l26))))) (ac (hs (.run [3,4] (jL Tryz.prog [38,38] (.gslice 3 l9.length 1) (.slice 4 0 1 1 1)) (kF (kX x2 l8 l9 (kN l8 [.cells (l9.flatMap encI.c),.cells [.i r24.1]]))) (.gslice 5 l26.length 1) (kF (kX x2 l8 l9 (kN l8 (.dead:: .cells [.i r24.1]::(kAA l26))))) true) (qaF qfS (E:=encI) rfl (qfQ (E:=encI) (ys:=[r24.1]) rfl rfl rfl rfl) (qi1 (E:=encI) (l:=l9) rfl rfl rfl e_l26 rfl))) az) ?_
         obtain rfl:=si g18
         exact Or.inl (⟨rfl,_,_,rfl,(Sub.norm [] [some 0,some 1,some 2,some 5] rfl rfl (.kp (.keep (.same (qp encS _)) (.keep (.same nI) (.kp (.keep (.same nI) .nil))))) (.kb rfl (.same sn) (.kb rfl (.cells (rc (.same nI) (rc (.same nS) (rc (.gslice rfl) (rc (.gslice rfl) (rc (.same nS) rn)))))) (.ks (.ks .nil)))))⟩)
     rintro x s' (⟨rfl,l16,l17,rfl,hsub⟩|⟨rfl,q27,rfl,hret⟩)
     ·try dsimp only at g13
      refine Goes.sub hsub ?_
      refine gh fol (kR r1 (kAc r3.1 (w64 (n10+1)) [])) ?_
      exact⟨M,(ofG 80 (kR r1 (kAc r3.1 (w64 (n10+1)) [])),(kF (kX x2 l16 l17 (kN l16 (kAA l17))))),Nat.lt_succ_self _,(Sub.refl _),_,_,_,rfl,g13⟩
     ·try dsimp only at g13
      obtain rfl:=si g13
      exact Or.inr (⟨rfl,_,rfl,hret⟩)
    ·refine Goes.exit ?_
     obtain rfl:=si g13
     exact Or.inl (⟨rfl,_,_,rfl,(Sub.keep [2,8] rfl rfl)⟩)
  rintro x s' (⟨rfl,l11,l12,rfl,hsub⟩|⟨rfl,q28,rfl,hret⟩)
  ·try dsimp only at h
   refine Goes.sub hsub ?_
   refine sg fol (kAd [(3,.bool true)]) (kX x2 l11 l12 (kX x2 l11 l12 (kN l11 (kAA l12)))) ?_
   refine Goes.ret ?_
   obtain rfl:=si h
   exact(gw2 (.agg [.i 0,.str x2,.gslice 2 l11.length 1,.gslice 3 l12.length 1,.str []]::kAx) (FzW.tuple (qA.cons (FzW.agg (qA.cons (FzW.still tI) (qA.cons (FzW.still tS) (qA.cons (FzW.fz (Fz.gs (E:=encS) rfl rfl (nl rfl))) (qA.cons (FzW.fz (Fz.gs (E:=encI) rfl rfl (nl rfl))) (qA.cons (FzW.still tS) qA.nil)))))) (qA.cons (FzW.still tB) qA.nil))))
  ·try dsimp only at h
   obtain rfl:=si h
   exact hret
def vI (N:Nat) (l:List qf):Nat→Int→Option (Unit⊕Int)
 |0,_=>none
 |K+1,n2=>
  if n2<(l.length:Int)then
  (((idx l n2).bind fun x8=>
  (qdZ N x8.Desk).bind fun r9=>
  if(!r9)=true then
  some (.inr 8)
  else
  ((xZ x8.Number 1 1000).bind fun r11=>
  if r11=true then
  some true
  else
  (xZ x8.Clock 1 1000000).bind fun r13=>
  some r13:Option Bool).bind fun b14=>
  if b14=true then
  some (.inr 3)
  else
  (qeV N x8.Line).bind fun r17=>
  (if(!r17.2)=true then
  some true
  else
  some (r17.1.Kind==[117,110,100,111]):Option Bool).bind fun b19=>
  if b19=true then
  some (.inr 25)
  else
  if n2>0 then
  (idx l (w64 (n2-1))).bind fun x23=>
  (if(ltL x8.Desk x23.Desk)=true then
  some true
  else
  if(x8.Desk==x23.Desk)=true then
  if x8.Number≤x23.Number then
  some true
  else
  some (decide (x8.Clock≤x23.Clock))
  else
  some false:Option Bool).bind fun b27=>
  if b27=true then
  some (.inr 11)
  else
  some (.inl ())
  else
  some (.inl ()):Option (Unit⊕Int))).bind (fun
  |(.inl ())=>
  vI N l K (w64 (n2+1))
  |(.inr q30)=>
  some (.inr q30))
  else
  some (.inl ())
def qcR (N:Nat) (l:List qf):Option Int:=
 if(l.length:Int)>1000 then
 some 5
 else
 (vI N l N 0).bind (fun
 |(.inl ())=>
 some 0
 |(.inr q31)=>
 some q31)
theorem qkz (N:Nat) (l:List qf) {res:Int} (h:qcR N l=some res):qj Tryz.prog (.fn 19) [vl qa l] [] (.i res) []:=by
 unfold qcR at h
 refine Goes.fnW Tryz.func19 rfl rfl (m:=79) rfl (rs:=[.tmp 2]) rfl (l:=(kD l [])) rfl ?_
 refine sh fol (kD l []) ?_
 refine sq ?_
 refine sh fol (kD l [(10,.bool (decide ((l.length:Int)>1000)))]) ?_
 refine ihD h (fun c1 h=>?_) (fun c1 h=>?_)
 ·refine sh fol [(2,.i 5)] ?_
  refine Goes.ret ?_
  obtain rfl:=si h
  exact(gw2 [.i 5] (FzW.still tI))
 ·refine Goes.skip ?_
  refine sq ?_
  refine sh fol (kD l [(3,.i 0)]) ?_
  refine Goes.block ?_
  obtain⟨r3,g3,h⟩:=bnd h
  refine Goes.imp (Q:=fun x s'=>(x= .exit 0∧(.inl ())=r3∧Sub s' (ofG 79 [],[]))∨(x= .ret∧ ∃q4,(.inr q4)=r3∧jh Tryz.prog [.tmp 2] (.i q4) .ret s')) ?_ ?_
  ·refine Goes.loopS (fun M s=> ∃(n2:Int),s=(ofG 79 (kD l [(3,.i n2)]),[])∧vI N l M n2=some r3) ?_ (m:=N) ⟨_,rfl,g3⟩
   rintro M s ⟨n2,rfl,g3⟩
   cases M with
   |zero=>simp only[vI]at g3;cases g3
   |succ M=>
    rw[vI]at g3
    refine sq ?_
    refine sh fol (kD l [(3,.i n2),(14,.bool (decide (n2<(l.length:Int))))]) ?_
    refine ihD g3 (fun c5 g3=>?_) (fun c5 g3=>?_)
    ·refine Goes.skip ?_
     refine sq ?_
     obtain⟨r6,g6,g3⟩:=bnd g3
     refine Goes.imp (Q:=fun x s'=>(x= .normal∧(.inl ())=r6∧Sub s' (ofG 79 (kD l [(3,.i n2)]),[]))∨(x= .ret∧ ∃q7,(.inr q7)=r6∧jh Tryz.prog [.tmp 2] (.i q7) .ret s')) ?_ ?_
     ·refine Goes.block ?_
      obtain⟨x8,e_x8,g6⟩:=bnd g6
      refine sq (gq fol [2,3] (kD l (kAn n2 [])) (kE x8.Desk x8.Number x8.Clock x8.Line []) (ac (iv qq5 qa e_x8) (ac (la qto qa e_x8) az)) ?_)
      refine sq ?_
      obtain⟨r9,e_r9,g6⟩:=bnd g6
      refine sq (gr fol [2] (kD l (kAn n2 [(24,.bool (!r9))])) (ac (cv (qnR N x8.Desk e_r9)) az) ?_)
      refine ihB g6 (fun c10 g6=>?_) (fun c10 g6=>?_)
      ·refine sh fol [(2,.i 8)] ?_
       refine Goes.ret ?_
       obtain rfl:=si g6
       exact Or.inr (⟨rfl,_,rfl,(gw2 [.i 8] (FzW.still tI))⟩)
      ·refine Goes.skip ?_
       refine sq ?_
       refine sq ?_
       obtain⟨b14,g_v15,g6⟩:=bnd g6
       refine Goes.cut (s':=(ofG 79 (kD l (kAn n2 [(32,.bool b14)])),(kE x8.Desk x8.Number x8.Clock x8.Line []))) ?_ ?_
       ·obtain⟨r11,e_r11,g_v15⟩:=bnd g_v15
        rcases wyB g_v15 with⟨c12,g_v15⟩|⟨c12,g_v15⟩
        ·obtain rfl:=si g_v15
         exact tr fol [2,3] (kD l (kAn n2 [(32,.bool true)])) (ac (cv (qfB x8.Number 1 1000 e_r11)) (ac (gw c12) az))
        ·obtain⟨r13,e_r13,g_v15⟩:=bnd g_v15
         obtain rfl:=si g_v15
         exact tr fol [2,3,6] (kD l (kAn n2 [(32,.bool r13)])) (ac (cv (qfB x8.Number 1 1000 e_r11)) (ac (gw c12) (ac (cv (qfB x8.Clock 1 1000000 e_r13)) az)))
       refine ihB g6 (fun c16 g6=>?_) (fun c16 g6=>?_)
       ·refine sh fol [(2,.i 3)] ?_
        refine Goes.ret ?_
        obtain rfl:=si g6
        exact Or.inr (⟨rfl,_,rfl,(gw2 [.i 3] (FzW.still tI))⟩)
       ·refine Goes.skip ?_
        obtain⟨r17,e_r17,g6⟩:=bnd g6
        refine sq (gq fol [2] (kD l (kAn n2 [(5,.ptr 1 0),(6,.bool r17.2)])) (kE x8.Desk x8.Number x8.Clock x8.Line (kAy r17.1 [])) (ac (cv (qnQ N x8.Line e_r17)) az) ?_)
        refine sq ?_
        refine sq ?_
        obtain⟨b19,g_v20,g6⟩:=bnd g6
        refine Goes.cut (s':=(ofG 79 (kD l (kAn n2 [(45,.bool b19)])),(kE x8.Desk x8.Number x8.Clock x8.Line (kAy r17.1 [])))) ?_ ?_
        ·rcases wyB g_v20 with⟨c18,g_v20⟩|⟨c18,g_v20⟩
         ·obtain rfl:=si g_v20
          exact tr fol [2] (kD l (kAn n2 [(45,.bool true)])) (ac (gw c18) az)
         ·obtain rfl:=si g_v20
          exact tr fol [2] (kD l (kAn n2 [(45,.bool (r17.1.Kind==[117,110,100,111]))])) (ac (gw c18) az)
        refine ihB g6 (fun c21 g6=>?_) (fun c21 g6=>?_)
        ·refine sh fol [(2,.i 25)] ?_
         refine Goes.ret ?_
         obtain rfl:=si g6
         exact Or.inr (⟨rfl,_,rfl,(gw2 [.i 25] (FzW.still tI))⟩)
        ·refine Goes.skip ?_
         refine sh fol (kD l (kAn n2 [(47,.bool (decide (n2>0)))])) ?_
         refine ihD g6 (fun c22 g6=>?_) (fun c22 g6=>?_)
         ·obtain⟨x23,e_x23,g6⟩:=bnd g6
          refine sq (gq fol [3,4] (kD l (kAn n2 [(7,.ptr 2 0)])) (kE x8.Desk x8.Number x8.Clock x8.Line (kAy r17.1 (kE x23.Desk x23.Number x23.Clock x23.Line []))) (ac (iv qq5 qa e_x23) (ac (la qto qa e_x23) az)) ?_)
          refine sq ?_
          obtain⟨b27,g_v28,g6⟩:=bnd g6
          refine Goes.cut (s':=(ofG 79 (kD l [(3,.i n2),(78,.bool b27)]),(kE x8.Desk x8.Number x8.Clock x8.Line (kAy r17.1 (kE x23.Desk x23.Number x23.Clock x23.Line []))))) ?_ ?_
          ·rcases wyB g_v28 with⟨c24,g_v28⟩|⟨c24,g_v28⟩
           ·obtain rfl:=si g_v28
            exact tr fol [5] (kD l [(3,.i n2),(78,.bool true)]) (ac (gw c24) az)
           ·rcases wyB g_v28 with⟨c25,g_v28⟩|⟨c25,g_v28⟩
            ·rcases wyD g_v28 with⟨c26,g_v28⟩|⟨c26,g_v28⟩
             ·obtain rfl:=si g_v28
              exact tr fol [5,11,17] (kD l [(3,.i n2),(78,.bool true)]) (ac (gw c24) (ac (gw c25) (ac (gw c26) az)))
             ·obtain rfl:=si g_v28
              exact tr fol [5,11,17] (kD l [(3,.i n2),(78,.bool (decide (x8.Clock≤x23.Clock)))]) (ac (gw c24) (ac (gw c25) (ac (gw c26) az)))
            ·obtain rfl:=si g_v28
             exact tr fol [5,11] (kD l [(3,.i n2),(78,.bool false)]) (ac (gw c24) (ac (gw c25) az))
          refine ihB g6 (fun c29 g6=>?_) (fun c29 g6=>?_)
          ·refine sh fol [(2,.i 11)] ?_
           refine Goes.ret ?_
           obtain rfl:=si g6
           exact Or.inr (⟨rfl,_,rfl,(gw2 [.i 11] (FzW.still tI))⟩)
          ·refine Goes.skip ?_
           obtain rfl:=si g6
           exact Or.inl (⟨rfl,rfl,(Sub.norm [] [] rfl rfl (.keep (.same (qp qa _)) (.keep (.same nI) .nil)) .nil)⟩)
         ·refine Goes.skip ?_
          obtain rfl:=si g6
          exact Or.inl (⟨rfl,rfl,(Sub.norm [] [] rfl rfl (.keep (.same (qp qa _)) (.keep (.same nI) .nil)) .nil)⟩)
     rintro x s' (⟨rfl,rfl,hsub⟩|⟨rfl,q30,rfl,hret⟩)
     ·try dsimp only at g3
      refine Goes.sub hsub ?_
      refine gh fol (kD l [(3,.i (w64 (n2+1)))]) ?_
      exact⟨M,(ofG 79 (kD l [(3,.i (w64 (n2+1)))]),[]),Nat.lt_succ_self _,(Sub.refl _),_,rfl,g3⟩
     ·try dsimp only at g3
      obtain rfl:=si g3
      exact Or.inr (⟨rfl,_,rfl,hret⟩)
    ·refine Goes.exit ?_
     obtain rfl:=si g3
     exact Or.inl (⟨rfl,rfl,(Sub.keep [] rfl rfl)⟩)
  rintro x s' (⟨rfl,rfl,hsub⟩|⟨rfl,q31,rfl,hret⟩)
  ·try dsimp only at h
   refine Goes.sub hsub ?_
   refine sh fol [(2,.i 0)] ?_
   refine Goes.ret ?_
   obtain rfl:=si h
   exact(gw2 [.i 0] (FzW.still tI))
  ·try dsimp only at h
   obtain rfl:=si h
   exact hret
def qbF (l:List Int):Nat→Int→Option (Unit⊕Int)
 |0,_=>none
 |K+1,n1=>
  if n1<(l.length:Int)then
  (idx l n1).bind fun x5=>
  if(!decide (x5=0))=true then
  some (.inr x5)
  else
  qbF l K (w64 (n1+1))
  else
  some (.inl ())
def kz (N:Nat) (l:List Int):Option Int:=
 (qbF l N 0).bind (fun
 |(.inl ())=>
 some 0
 |(.inr q7)=>
 some q7)
theorem zA (N:Nat) (l:List Int) {res:Int} (h:kz N l=some res):qj Tryz.prog (.fn 37) [vl encI l] [] (.i res) []:=by
 unfold kz at h
 refine Goes.fnW Tryz.func37 rfl rfl (m:=15) rfl (rs:=[.tmp 2]) rfl (l:=[(0,vl encI l)]) rfl ?_
 refine sh fol [(0,vl encI l)] ?_
 refine sq ?_
 refine sh fol ((5,vl encI l)::(kBB (l.length:Int) [])) ?_
 refine Goes.block ?_
 obtain⟨r2,g2,h⟩:=bnd h
 refine Goes.imp (Q:=fun x s'=>(x= .exit 0∧(.inl ())=r2∧Sub s' (ofG 15 [],[]))∨(x= .ret∧ ∃q3,(.inr q3)=r2∧jh Tryz.prog [.tmp 2] (.i q3) .ret s')) ?_ ?_
 ·refine Goes.loopS (fun M s=> ∃(n1:Int),s=(ofG 15 ((5,vl encI l)::(kA6 (l.length:Int) n1 [])),[])∧qbF l M n1=some r2) ?_ (m:=N) ⟨_,rfl,g2⟩
  rintro M s ⟨n1,rfl,g2⟩
  cases M with
  |zero=>simp only[qbF]at g2;cases g2
  |succ M=>
   rw[qbF]at g2
   refine sh fol ((5,vl encI l)::(kA6 (l.length:Int) n1 [(8,.bool (decide (n1<(l.length:Int))))])) ?_
   refine sq ?_
   refine ihD g2 (fun c4 g2=>?_) (fun c4 g2=>?_)
   ·refine Goes.skip ?_
    refine sq (Goes.block ?_)
    obtain⟨x5,e_x5,g2⟩:=bnd g2
    refine sq (gr fol [0,1] ((4,.i x5)::(5,vl encI l)::(kA6 (l.length:Int) n1 [])) (ac (iv sl167 encI e_x5) (ac (lv 0 ce32 encI e_x5 rfl) az)) ?_)
    refine sh fol ((4,.i x5)::(5,vl encI l)::(kA6 (l.length:Int) n1 [(12,.bool (!decide (x5=0)))])) ?_
    refine ihB g2 (fun c6 g2=>?_) (fun c6 g2=>?_)
    ·refine sh fol [(2,.i x5)] ?_
     refine Goes.ret ?_
     obtain rfl:=si g2
     exact Or.inr (⟨rfl,_,rfl,(gw2 [.i x5] (FzW.still tI))⟩)
    ·refine Goes.skip ?_
     refine gh fol ((5,vl encI l)::(kA6 (l.length:Int) (w64 (n1+1)) [])) ?_
     exact⟨M,(ofG 15 ((5,vl encI l)::(kA6 (l.length:Int) (w64 (n1+1)) [])),[]),Nat.lt_succ_self _,(Sub.refl _),_,rfl,g2⟩
   ·refine Goes.exit ?_
    obtain rfl:=si g2
    exact Or.inl (⟨rfl,rfl,(Sub.keep [] rfl rfl)⟩)
 rintro x s' (⟨rfl,rfl,hsub⟩|⟨rfl,q7,rfl,hret⟩)
 ·try dsimp only at h
  refine Goes.sub hsub ?_
  refine sh fol [(2,.i 0)] ?_
  refine Goes.ret ?_
  obtain rfl:=si h
  exact(gw2 [.i 0] (FzW.still tI))
 ·try dsimp only at h
  obtain rfl:=si h
  exact hret
def za (holds:Bool) (e:Int):Option Int:=
 if holds=true then
 some e
 else
 some 0
theorem kr (holds:Bool) (e:Int) {res:Int} (h:za holds e=some res):qj Tryz.prog (.fn 39) [.bool holds,.i e] [] (.i res) []:=by
 unfold za at h
 refine Goes.fnW Tryz.func39 rfl rfl (m:=7) rfl (rs:=[.tmp 4]) rfl (l:=[(0,.bool holds),(1,.i e)]) rfl ?_
 refine sh fol [(0,.bool holds),(1,.i e)] ?_
 refine sq ?_
 refine sh fol [(1,.i e),(5,.bool holds)] ?_
 refine ihB h (fun c1 h=>?_) (fun c1 h=>?_)
 ·refine sh fol [(4,.i e)] ?_
  refine Goes.ret ?_
  obtain rfl:=si h
  exact(gw2 [.i e] (FzW.still tI))
 ·refine Goes.skip ?_
  refine sh fol [(4,.i 0)] ?_
  refine Goes.ret ?_
  obtain rfl:=si h
  exact(gw2 [.i 0] (FzW.still tI))
def zO (n:qf):Option zo:=
 some (⟨n.Desk,n.Number⟩:zo)
theorem j4 (n:qf) {res:zo} (h:zO n=some res):qj Tryz.prog (.fn 59) [.agg (kAf n.Desk n.Number n.Clock n.Line)] [] (.agg [.str res.Desk,.i res.Number]) []:=by
 unfold zO at h
 refine Goes.fnW Tryz.func59 rfl rfl (m:=8) rfl (rs:=[.cell 2 67]) rfl (l:=(kBh n.Desk n.Number n.Clock n.Line [])) rfl ?_
 refine sg fol (kAR kBT) (kE n.Desk n.Number n.Clock n.Line [.cells [.str [],.i 0]]) ?_
 refine sg fol kBT (kE n.Desk n.Number n.Clock n.Line (kAE n.Desk n.Number [])) ?_
 refine Goes.ret ?_
 obtain rfl:=si h
 exact(gw2 [.agg [.str n.Desk,.i n.Number]] (FzW.agg (qA.cons (FzW.still tS) (qA.cons (FzW.still tI) qA.nil))))
def cmp_isNaN_int (x_:Int):Option Bool:=
 some (!decide (x_=x_))
theorem qhY (x_:Int) {res:Bool} (h:cmp_isNaN_int x_=some res):qj Tryz.prog (.fn 112) [.i x_] [] (.bool res) []:=by
 unfold cmp_isNaN_int at h
 refine Goes.fnW Tryz.func112 rfl rfl (m:=6) rfl (rs:=[.tmp 2]) rfl (l:=[(0,.i x_)]) rfl ?_
 refine sh fol [(0,.i x_)] ?_
 refine sh fol [(2,.bool (!decide (x_=x_)))] ?_
 refine Goes.ret ?_
 obtain rfl:=si h
 exact(gw2 [.bool (!decide (x_=x_))] (FzW.still tB))
def cmp_Compare_int (x_:Int) (y:Int):Option Int:=
 (cmp_isNaN_int x_).bind fun r1=>
 (cmp_isNaN_int y).bind fun r2=>
 if r1=true then
 if r2=true then
 some 0
 else
 some (-1)
 else
 if r2=true then
 some 1
 else
 if x_<y then
 some (-1)
 else
 if x_>y then
 some 1
 else
 some 0
theorem qg7 (x_:Int) (y:Int) {res:Int} (h:cmp_Compare_int x_ y=some res):qj Tryz.prog (.fn 69) [.i x_,.i y] [] (.i res) []:=by
 unfold cmp_Compare_int at h
 refine Goes.fnW Tryz.func69 rfl rfl (m:=20) rfl (rs:=[.tmp 4]) rfl (l:=(kAk x_ y [])) rfl ?_
 refine sh fol (kAk x_ y []) ?_
 obtain⟨r1,e_r1,h⟩:=bnd h
 refine sq (gr fol [1] (kAk x_ y [(5,.bool r1)]) (ac (cv (qhY x_ e_r1)) az) ?_)
 obtain⟨r2,e_r2,h⟩:=bnd h
 refine sq (gr fol [1] (kAk x_ y [(5,.bool r1),(6,.bool r2)]) (ac (cv (qhY y e_r2)) az) ?_)
 refine sq ?_
 refine sh fol (kAk x_ y [(6,.bool r2),(11,.bool r1)]) ?_
 refine ihB h (fun c3 h=>?_) (fun c3 h=>?_)
 ·refine sq ?_
  refine sh fol [(12,.bool r2)] ?_
  refine ihB h (fun c4 h=>?_) (fun c4 h=>?_)
  ·refine sh fol [(4,.i 0)] ?_
   refine Goes.ret ?_
   obtain rfl:=si h
   exact(gw2 [.i 0] (FzW.still tI))
  ·refine Goes.skip ?_
   refine sh fol [(4,.i (-1))] ?_
   refine Goes.ret ?_
   obtain rfl:=si h
   exact(gw2 [.i (-1)] (FzW.still tI))
 ·refine Goes.skip ?_
  refine sq ?_
  refine sh fol (kAk x_ y [(13,.bool r2)]) ?_
  refine ihB h (fun c5 h=>?_) (fun c5 h=>?_)
  ·refine sh fol [(4,.i 1)] ?_
   refine Goes.ret ?_
   obtain rfl:=si h
   exact(gw2 [.i 1] (FzW.still tI))
  ·refine Goes.skip ?_
   refine sq ?_
   refine sh fol (kAk x_ y [(16,.bool (decide (x_<y)))]) ?_
   refine ihD h (fun c6 h=>?_) (fun c6 h=>?_)
   ·refine sh fol [(4,.i (-1))] ?_
    refine Goes.ret ?_
    obtain rfl:=si h
    exact(gw2 [.i (-1)] (FzW.still tI))
   ·refine Goes.skip ?_
    refine sq ?_
    refine sh fol [(19,.bool (decide (x_>y)))] ?_
    refine ihD h (fun c7 h=>?_) (fun c7 h=>?_)
    ·refine sh fol [(4,.i 1)] ?_
     refine Goes.ret ?_
     obtain rfl:=si h
     exact(gw2 [.i 1] (FzW.still tI))
    ·refine Goes.skip ?_
     refine sh fol [(4,.i 0)] ?_
     refine Goes.ret ?_
     obtain rfl:=si h
     exact(gw2 [.i 0] (FzW.still tI))
def qbN (vals:List Int):Nat→Int→Option (Unit⊕Int)
 |0,_=>none
 |K+1,n1=>
  if n1<(vals.length:Int)then
  (idx vals n1).bind fun x5=>
  if(!decide (x5=0))=true then
  some (.inr x5)
  else
  qbN vals K (w64 (n1+1))
  else
  some (.inl ())
def qgY (N:Nat) (vals:List Int):Option Int:=
 (qbN vals N 0).bind (fun
 |(.inl ())=>
 some 0
 |(.inr q7)=>
 some q7)
theorem qpE (N:Nat) (vals:List Int) {res:Int} (h:qgY N vals=some res):qj Tryz.prog (.fn 109) [vl encI vals] [] (.i res) []:=by
 unfold qgY at h
 refine Goes.fnW Tryz.func109 rfl rfl (m:=18) rfl (rs:=[.tmp 2]) rfl (l:=[(0,vl encI vals)]) rfl ?_
 refine sh fol [(0,vl encI vals)] ?_
 refine sh fol [(0,vl encI vals),(3,.i 0)] ?_
 refine sq ?_
 refine sh fol [(3,.i 0),(6,vl encI vals),(7,.i (vals.length:Int)),(8,.i 0)] ?_
 refine Goes.block ?_
 obtain⟨r2,g2,h⟩:=bnd h
 refine Goes.imp (Q:=fun x s'=>(x= .exit 0∧(.inl ())=r2∧Sub s' (ofG 18 [(3,.i 0)],[]))∨(x= .ret∧ ∃q3,(.inr q3)=r2∧jh Tryz.prog [.tmp 2] (.i q3) .ret s')) ?_ ?_
 ·refine Goes.loopS (fun M s=> ∃(n1:Int),s=(ofG 18 ((3,.i 0)::(6,vl encI vals)::(kAJ (vals.length:Int) n1 [])),[])∧qbN vals M n1=some r2) ?_ (m:=N) ⟨_,rfl,g2⟩
  rintro M s ⟨n1,rfl,g2⟩
  cases M with
  |zero=>simp only[qbN]at g2;cases g2
  |succ M=>
   rw[qbN]at g2
   refine sh fol ((3,.i 0)::(6,vl encI vals)::(kAJ (vals.length:Int) n1 [(9,.bool (decide (n1<(vals.length:Int))))])) ?_
   refine sq ?_
   refine ihD g2 (fun c4 g2=>?_) (fun c4 g2=>?_)
   ·refine Goes.skip ?_
    refine sq (Goes.block ?_)
    obtain⟨x5,e_x5,g2⟩:=bnd g2
    refine sq (gr fol [0,1] ((3,.i 0)::(5,.i x5)::(6,vl encI vals)::(kAJ (vals.length:Int) n1 [])) (ac (iv qfS encI e_x5) (ac (lv 0 ce3 encI e_x5 rfl) az)) ?_)
    refine sh fol ((3,.i 0)::(5,.i x5)::(6,vl encI vals)::(kAJ (vals.length:Int) n1 [(14,.bool (!decide (x5=0)))])) ?_
    refine ihB g2 (fun c6 g2=>?_) (fun c6 g2=>?_)
    ·refine sh fol [(2,.i x5)] ?_
     refine Goes.ret ?_
     obtain rfl:=si g2
     exact Or.inr (⟨rfl,_,rfl,(gw2 [.i x5] (FzW.still tI))⟩)
    ·refine Goes.skip ?_
     refine gh fol ((3,.i 0)::(6,vl encI vals)::(kAJ (vals.length:Int) (w64 (n1+1)) [])) ?_
     exact⟨M,(ofG 18 ((3,.i 0)::(6,vl encI vals)::(kAJ (vals.length:Int) (w64 (n1+1)) [])),[]),Nat.lt_succ_self _,(Sub.refl _),_,rfl,g2⟩
   ·refine Goes.exit ?_
    obtain rfl:=si g2
    exact Or.inl (⟨rfl,rfl,(Sub.keep [3] rfl rfl)⟩)
 rintro x s' (⟨rfl,rfl,hsub⟩|⟨rfl,q7,rfl,hret⟩)
 ·try dsimp only at h
  refine Goes.sub hsub ?_
  refine sh fol [(2,.i 0)] ?_
  refine Goes.ret ?_
  obtain rfl:=si h
  exact(gw2 [.i 0] (FzW.still tI))
 ·try dsimp only at h
  obtain rfl:=si h
  exact hret
def cmp_isNaN_string (x_:Str):Option Bool:=
 some (!(x_==x_))
theorem qgn (x_:Str) {res:Bool} (h:cmp_isNaN_string x_=some res):qj Tryz.prog (.fn 158) [.str x_] [] (.bool res) []:=by
 unfold cmp_isNaN_string at h
 refine Goes.fnW Tryz.func158 rfl rfl (m:=6) rfl (rs:=[.tmp 2]) rfl (l:=(kAi x_ [])) rfl ?_
 refine sh fol (kAi x_ []) ?_
 refine sh fol [(2,.bool (!(x_==x_)))] ?_
 refine Goes.ret ?_
 obtain rfl:=si h
 exact(gw2 [.bool (!(x_==x_))] (FzW.still tB))
def qb0 (x_:Str) (y:Str):Option Int:=
 (cmp_isNaN_string x_).bind fun r1=>
 (cmp_isNaN_string y).bind fun r2=>
 if r1=true then
 if r2=true then
 some 0
 else
 some (-1)
 else
 if r2=true then
 some 1
 else
 if(ltL x_ y)=true then
 some (-1)
 else
 if(!(ltL x_ y||x_==y))=true then
 some 1
 else
 some 0
theorem qja (x_:Str) (y:Str) {res:Int} (h:qb0 x_ y=some res):qj Tryz.prog (.fn 110) [.str x_,.str y] [] (.i res) []:=by
 unfold qb0 at h
 refine Goes.fnW Tryz.func110 rfl rfl (m:=20) rfl (rs:=[.tmp 4]) rfl (l:=(kAB x_ y [])) rfl ?_
 refine sh fol (kAB x_ y []) ?_
 obtain⟨r1,e_r1,h⟩:=bnd h
 refine sq (gr fol [1] (kAB x_ y [(5,.bool r1)]) (ac (cv (qgn x_ e_r1)) az) ?_)
 obtain⟨r2,e_r2,h⟩:=bnd h
 refine sq (gr fol [1] (kAB x_ y [(5,.bool r1),(6,.bool r2)]) (ac (cv (qgn y e_r2)) az) ?_)
 refine sq ?_
 refine sh fol (kAB x_ y [(6,.bool r2),(11,.bool r1)]) ?_
 refine ihB h (fun c3 h=>?_) (fun c3 h=>?_)
 ·refine sq ?_
  refine sh fol [(12,.bool r2)] ?_
  refine ihB h (fun c4 h=>?_) (fun c4 h=>?_)
  ·refine sh fol [(4,.i 0)] ?_
   refine Goes.ret ?_
   obtain rfl:=si h
   exact(gw2 [.i 0] (FzW.still tI))
  ·refine Goes.skip ?_
   refine sh fol [(4,.i (-1))] ?_
   refine Goes.ret ?_
   obtain rfl:=si h
   exact(gw2 [.i (-1)] (FzW.still tI))
 ·refine Goes.skip ?_
  refine sq ?_
  refine sh fol (kAB x_ y [(13,.bool r2)]) ?_
  refine ihB h (fun c5 h=>?_) (fun c5 h=>?_)
  ·refine sh fol [(4,.i 1)] ?_
   refine Goes.ret ?_
   obtain rfl:=si h
   exact(gw2 [.i 1] (FzW.still tI))
  ·refine Goes.skip ?_
   refine sq ?_
   refine sh fol (kAB x_ y [(16,.bool (ltL x_ y))]) ?_
   refine ihB h (fun c6 h=>?_) (fun c6 h=>?_)
   ·refine sh fol [(4,.i (-1))] ?_
    refine Goes.ret ?_
    obtain rfl:=si h
    exact(gw2 [.i (-1)] (FzW.still tI))
   ·refine Goes.skip ?_
    refine sq ?_
    refine sh fol [(19,.bool (!(ltL x_ y||x_==y)))] ?_
    refine ihB h (fun c7 h=>?_) (fun c7 h=>?_)
    ·refine sh fol [(4,.i 1)] ?_
     refine Goes.ret ?_
     obtain rfl:=si h
     exact(gw2 [.i 1] (FzW.still tI))
    ·refine Goes.skip ?_
     refine sh fol [(4,.i 0)] ?_
     refine Goes.ret ?_
     obtain rfl:=si h
     exact(gw2 [.i 0] (FzW.still tI))
def qap (N:Nat) (m:zo) (o:zo):Option Int:=
 (qb0 m.Desk o.Desk).bind fun r1=>
 (cmp_Compare_int m.Number o.Number).bind fun r2=>
 (qgY N ([r1,r2]:List Int)).bind fun r3=>
 some r3
theorem qcX (N:Nat) (m:zo) (o:zo) {res:Int} (h:qap N m o=some res):qj Tryz.prog (.fn 62) [.agg [.str m.Desk,.i m.Number],.agg [.str o.Desk,.i o.Number]] [] (.i res) []:=by
 unfold qap at h
 refine Goes.fnW Tryz.func62 rfl rfl (m:=17) rfl (rs:=[.tmp 4]) rfl (l:=[(0,.agg [.str m.Desk,.i m.Number]),(1,.agg [.str o.Desk,.i o.Number])]) rfl ?_
 refine sg fol (kAd (kA2 [])) (kAE m.Desk m.Number (kAE o.Desk o.Number [])) ?_
 obtain⟨r1,e_r1,h⟩:=bnd h
 obtain⟨r2,e_r2,h⟩:=bnd h
 obtain⟨r3,e_r3,h⟩:=bnd h
 refine sq (gq fol [4,9,11] [(4,.i r3)] (kAE m.Desk m.Number (kAE o.Desk o.Number (kY r1 r2))) (ac (cv (qja m.Desk o.Desk e_r1)) (ac (cv (qg7 m.Number o.Number e_r2)) (ac (hs (.call 109 [.slice 2 0 2 2 1] (kAE m.Desk m.Number (kAE o.Desk o.Number (kY r1 r2))) [2] [vl encI ([r1,r2]:List Int)] (.i r3)) (qbz (FzL.cons (Fz.lit rfl rfl (FzL.still (AllST.cons tI (AllST.cons tI AllST.nil)))) FzL.nil) (qpE N ([r1,r2]:List Int) e_r3) tI rfl)) az))) ?_)
 refine Goes.ret ?_
 obtain rfl:=si h
 exact(gw2 [.i r3] (FzW.still tI))
def qah (s_:Str):Nat→Nat→Int→Option Int
 |0,_,_=>none
 |K+1,k1,n2=>
  if k1<s_.length then
  qah s_ K (k1+runeLen s_ k1) (w64 (n2+1))
  else
  some n2
def utf8_RuneCountInString (N:Nat) (s_:Str):Option Int:=
 (qah s_ N 0 0).bind fun n3=>
 some n3
theorem qd5 (N:Nat) (s_:Str) {res:Int} (h:utf8_RuneCountInString N s_=some res):qj Tryz.prog (.fn 217) [.str s_] [] (.i res) []:=by
 unfold utf8_RuneCountInString at h
 refine Goes.fnW Tryz.func217 rfl rfl (m:=10) rfl (rs:=[.tmp 2]) rfl (l:=(kAi s_ [])) rfl ?_
 refine sh fol (kAi s_ [(2,.i 0)]) ?_
 refine sq ?_
 refine sg fol ((2,.i 0)::(kBU [])) [.iter s_ 0] ?_
 refine Goes.block ?_
 obtain⟨r4,g4,h⟩:=bnd h
 refine Goes.imp (Q:=fun x s'=>(x= .exit 0∧ ∃n3,n3=r4∧Sub s' (ofG 10 [(2,.i n3)],[]))) ?_ ?_
 ·refine Goes.sub (s':=(ofG 10 ((2,.i 0)::(kBU [])),[.iter s_ 0])) (Sub.keep [2,4] rfl rfl) ?_
  refine Goes.loopS (fun M s=> ∃(k1:Nat) (n2:Int),s=(ofG 10 ((2,.i n2)::(kBU [])),[.iter s_ k1])∧qah s_ M k1 n2=some r4) ?_ (m:=N) ⟨_,_,rfl,g4⟩
  rintro M s ⟨k1,n2,rfl,g4⟩
  cases M with
  |zero=>simp only[qah]at g4;cases g4
  |succ M=>
   rw[qah]at g4
   refine sq ?_
   rcases Classical.em (k1<s_.length)with c5|c5
   ·rw[if_pos c5]at g4
    refine gq fol [0] ((2,.i n2)::(kBU [(6,.bool true)])) [.iter s_ (k1+runeLen s_ k1)] (ac (hs (.run [0] (qjk (.ptr 0 0) true) [.iter s_ k1] (.tuple [.bool true,.i (k1:Int),.int .i32 (qbR s_ k1)]) [.iter s_ (k1+runeLen s_ k1)] true) (qqb rfl c5 rfl)) az) ?_
    refine sq ?_
    refine Goes.ifB (b:=true) (by kernel_rfl) (fun _=>?_) (fun c=>(by cases c))
    refine Goes.skip ?_
    refine Goes.block ?_
    refine gh fol ((2,.i (w64 (n2+1)))::(kBU [])) ?_
    exact⟨M,(ofG 10 ((2,.i (w64 (n2+1)))::(kBU [])),[.iter s_ (k1+runeLen s_ k1)]),Nat.lt_succ_self _,(Sub.keep [2,4] rfl rfl),_,_,rfl,g4⟩
   ·rw[if_neg c5]at g4
    refine gr fol [0] ((2,.i n2)::(kBU [(6,.bool false)])) (ac (hs (.run [0] (qjk (.ptr 0 0) true) [.iter s_ k1] (.tuple [.bool false]) [.iter s_ k1] false) (qpQ rfl c5)) az) ?_
    refine sq ?_
    refine Goes.ifB (b:=false) (by kernel_rfl) (fun c=>(by cases c)) (fun _=>?_)
    refine Goes.exit ?_
    obtain rfl:=si g4
    exact⟨rfl,_,rfl,(Sub.norm [] [] rfl rfl (.keep (.same nI) .nil) .nil)⟩
 rintro x s' ⟨rfl,n3,rfl,hsub⟩
 refine Goes.sub hsub ?_
 refine sh fol [(2,.i n3)] ?_
 refine Goes.ret ?_
 obtain rfl:=si h
 exact(gw2 [.i n3] (FzW.still tI))
def qcY (n5:Int):Nat→Option Unit
 |0=>none
 |K+1=>
  if 0<(w64 (n5-1))then
  none
  else
  some ()
def qgj (N:Nat) (s_:Str) (n:Int):Option (List Str):=
 (utf8_RuneCountInString N s_).bind fun r1=>
 (if n<0 then
 some true
 else
 some (decide (n>r1)):Option Bool).bind fun b3=>
 ((if b3=true then
 some r1
 else
 some n:Option Int)).bind fun n5=>
 (mk 16 n5 []).bind fun l8=>
 (qcY n5 N).bind fun _=>
 ((if n5>0 then
 (idx l8 (w64 (n5-1))).bind fun x14=>
 (put l8 (w64 (n5-1)) s_).bind fun l15=>
 some l15
 else
 some l8:Option (List Str))).bind fun l11=>
 some l11
theorem qlo (N:Nat) (s_:Str) (n:Int) {res:List Str} (h:qgj N s_ n=some res):qj Tryz.prog (.fn 162) [.str s_,.i n] [] (vl encS res) []:=by
 unfold qgj at h
 refine Goes.fnW Tryz.func162 rfl rfl (m:=50) rfl (rs:=[.tmp 4]) rfl (l:=(kAi s_ [(1,.i n)])) rfl ?_
 refine sh fol (kAi s_ [(1,.i n)]) ?_
 obtain⟨r1,e_r1,h⟩:=bnd h
 refine sq (gr fol [1] (kAi s_ ((1,.i n)::(kAm r1))) (ac (cv (qd5 N s_ e_r1)) az) ?_)
 refine sq ?_
 refine sq ?_
 obtain⟨b3,g_v4,h⟩:=bnd h
 refine Goes.cut (s':=(ofG 50 (kAi s_ [(1,.i n),(5,.i r1),(18,.bool b3)]),[])) ?_ ?_
 ·rcases wyD g_v4 with⟨c2,g_v4⟩|⟨c2,g_v4⟩
  ·obtain rfl:=si g_v4
   exact tr fol [2] (kAi s_ [(1,.i n),(5,.i r1),(18,.bool true)]) (ac (gw c2) az)
  ·obtain rfl:=si g_v4
   exact tr fol [2] (kAi s_ [(1,.i n),(5,.i r1),(18,.bool (decide (n>r1)))]) (ac (gw c2) az)
 obtain⟨r6,g6,h⟩:=bnd h
 refine Goes.imp (Q:=fun x s'=>(x= .normal∧ ∃n5,n5=r6∧Sub s' (ofG 50 (kAi s_ [(1,.i n5)]),[]))) ?_ ?_
 ·refine ihB g6 (fun c7 g6=>?_) (fun c7 g6=>?_)
  ·refine gh fol (kAi s_ [(1,.i r1)]) ?_
   obtain rfl:=si g6
   exact⟨rfl,_,rfl,(Sub.refl _)⟩
  ·refine Goes.skip ?_
   obtain rfl:=si g6
   exact⟨rfl,_,rfl,(Sub.keep [0,1] rfl rfl)⟩
 rintro x s' ⟨rfl,n5,rfl,hsub⟩
 refine Goes.sub hsub ?_
 obtain⟨l8,e_l8,h⟩:=bnd h
 refine sq (gq fol [1] (kAi s_ ((1,.i n5)::(kAZ l8 []))) (kN l8 []) (ac (hs (.run [] (qdL Tryz.prog 37 (.i n5) (.i n5)) [] (.slice 0 0 l8.length l8.length 1) (kN l8 []) false) (qr4 qdk (E:=encS) (z:=[]) rfl (by kernel_rfl) e_l8 rfl)) az) ?_)
 refine sq ?_
 refine sh fol (kAi s_ ((1,.i n5)::(kAZ l8 [(7,.i 0)]))) ?_
 refine Goes.block ?_
 obtain⟨r9,g9,h⟩:=bnd h
 refine Goes.imp (Q:=fun x s'=>(x= .exit 0∧()=r9∧Sub s' (ofG 50 (kAi s_ ((1,.i n5)::(kAZ l8 []))),(kN l8 [])))) ?_ ?_
 ·refine Goes.loopS (fun M s=>s=(ofG 50 (kAi s_ ((1,.i n5)::(kAZ l8 [(7,.i 0)]))),(kN l8 []))∧qcY n5 M=some r9) ?_ (m:=N) ⟨rfl,g9⟩
  rintro M s ⟨rfl,g9⟩
  cases M with
  |zero=>simp only[qcY]at g9;cases g9
  |succ M=>
   rw[qcY]at g9
   refine sq ?_
   refine sh fol (kAi s_ ((1,.i n5)::(kAZ l8 [(7,.i 0),(25,.bool (decide (0<(w64 (n5-1)))))]))) ?_
   refine ihD g9 (fun c10 g9=>?_) (fun c10 g9=>?_)
   ·cases g9
   ·refine Goes.exit ?_
    obtain rfl:=si g9
    exact⟨rfl,rfl,(Sub.keep [0,1,6] rfl rfl)⟩
 rintro x s' ⟨rfl,rfl,hsub⟩
 refine Goes.sub hsub ?_
 refine sq ?_
 refine sh fol (kAi s_ ((1,.i n5)::(kAZ l8 [(43,.bool (decide (n5>0)))]))) ?_
 obtain⟨r12,g12,h⟩:=bnd h
 refine Goes.imp (Q:=fun x s'=>(x= .normal∧ ∃l11,l11=r12∧Sub s' (ofG 50 (kAZ l11 []),(kN l11 [])))) ?_ ?_
 ·refine ihD g12 (fun c13 g12=>?_) (fun c13 g12=>?_)
  ·obtain⟨x14,e_x14,g12⟩:=bnd g12
   obtain⟨l15,e_l15,g12⟩:=bnd g12
   refine gq fol [4,5] (kAZ l8 []) (kN l15 []) (ac (hs (.done (.opt (zQ Tryz.prog 37 (.slice 0 0 l8.length l8.length 1) (.i (w64 (n5-1))))) (.ptr 0 ((w64 (n5-1):Int).toNat*1+0))) (qq8 qdk e_x14)) (ac (hs (.run [0] (qex Tryz.prog 9 (.ptr 0 ((w64 (n5-1):Int).toNat*1+0)) (.str s_)) (kN l8 []) .undef (kN l15 []) true) (qkL (E:=encS) (l:=l8) (y:=s_) rfl (show _=some 1 by kernel_rfl) rfl e_x14 rfl rfl rfl rfl rfl e_l15 rfl)) az)) ?_
   obtain rfl:=si g12
   exact⟨rfl,_,rfl,((show Sub (ofG 50 (kAZ l8 []),(kN l15 [])) (ofG 50 (kAZ l15 []),(kN l15 []))from(Sub.norm [] [some 0] rfl rfl (.keep (.sliceE rfl (qfJ e_l15)) .nil) (.ks .nil))).trans (Sub.refl _))⟩
  ·refine Goes.skip ?_
   obtain rfl:=si g12
   exact⟨rfl,_,rfl,(Sub.keep [6] rfl rfl)⟩
 rintro x s' ⟨rfl,l11,rfl,hsub⟩
 refine Goes.sub hsub ?_
 refine sh fol [(4,.slice 0 0 l11.length l11.length 1)] ?_
 refine Goes.ret ?_
 obtain rfl:=si h
 exact(gw2 [.slice 0 0 l11.length l11.length 1] (FzW.fz (Fz.sl (E:=encS) rfl rfl (nl rfl))))
def stringslite_IndexByte (s_:Str) (c:Int):Option Int:=
 (qqw s_ c).bind fun r1=>
 some r1
theorem qhJ (s_:Str) (c:Int) {res:Int} (h:stringslite_IndexByte s_ c=some res):qj Tryz.prog (.fn 140) [.str s_,.int .u8 c] [] (.i res) []:=by
 unfold stringslite_IndexByte at h
 refine Goes.fnW Tryz.func140 rfl rfl (m:=8) rfl (rs:=[.tmp 4]) rfl (l:=(kAi s_ [(1,.int .u8 c)])) rfl ?_
 refine sh fol (kAi s_ [(1,.int .u8 c)]) ?_
 obtain⟨r1,e_r1,h⟩:=bnd h
 refine sq (gr fol [2] [(4,.i r1)] (ac (cv (qt2 s_ c e_r1)) az) ?_)
 refine Goes.ret ?_
 obtain rfl:=si h
 exact(gw2 [.i r1] (FzW.still tI))
def bytealg_Cutover (n:Int):Option Int:=
 some (w64 ((w64 (n+16)).tdiv 8))
def stringslite_Index (s_:Str) (substr:Str):Option Int:=
 (if(substr.length:Int)=0 then
 some true
 else
 some (substr==s_):Option Bool).bind fun b2=>
 if b2=true then
 some 0
 else
 if(substr.length:Int)=1 then
 (idx substr 0).bind fun c6=>
 (stringslite_IndexByte s_ (c6.toNat:Int)).bind fun r7=>
 some r7
 else
 if(substr.length:Int)≥(s_.length:Int)then
 some (-1)
 else
 none
theorem qj6 (s_:Str) (substr:Str) {res:Int} (h:stringslite_Index s_ substr=some res):qj Tryz.prog (.fn 220) [.str s_,.str substr] [] (.i res) []:=by
 unfold stringslite_Index at h
 refine Goes.fnW Tryz.func220 rfl rfl (m:=143) rfl (rs:=[.tmp 4]) rfl (l:=(kAB s_ substr [])) rfl ?_
 refine sh fol (kAB s_ substr []) ?_
 refine sh fol (kAB s_ substr (kAm (substr.length:Int))) ?_
 refine sq (Goes.block ?_)
 refine sq ?_
 obtain⟨b2,g_v3,h⟩:=bnd h
 refine Goes.cut (s':=(ofG 143 (kAB s_ substr [(5,.i (substr.length:Int)),(16,.bool b2)]),[])) ?_ ?_
 ·rcases wyD g_v3 with⟨c1,g_v3⟩|⟨c1,g_v3⟩
  ·obtain rfl:=si g_v3
   exact tr fol [2] (kAB s_ substr [(5,.i (substr.length:Int)),(16,.bool true)]) (ac (gw c1) az)
  ·obtain rfl:=si g_v3
   exact tr fol [2] (kAB s_ substr [(5,.i (substr.length:Int)),(16,.bool (substr==s_))]) (ac (gw c1) az)
 refine ihB h (fun c4 h=>?_) (fun c4 h=>?_)
 ·refine sh fol [(4,.i 0)] ?_
  refine Goes.ret ?_
  obtain rfl:=si h
  exact(gw2 [.i 0] (FzW.still tI))
 ·refine sh fol (kAB s_ substr [(5,.i (substr.length:Int)),(24,.bool (decide ((substr.length:Int)=1)))]) ?_
  refine ihD h (fun c5 h=>?_) (fun c5 h=>?_)
  ·obtain⟨c6,e_c6,h⟩:=bnd h
   obtain⟨r7,e_r7,h⟩:=bnd h
   refine sq (gr fol [2,3] [(4,.i r7)] (ac (hs (.done (.opt (qdM Tryz.prog 9 (.str substr) (.i 0))) (.int .u8 (c6.toNat:Int))) (qgT st9 e_c6)) (ac (cv (qhJ s_ (c6.toNat:Int) e_r7)) az)) ?_)
   refine Goes.ret ?_
   obtain rfl:=si h
   exact(gw2 [.i r7] (FzW.still tI))
  ·refine sh fol (kAB s_ substr [(5,.i (substr.length:Int)),(31,.bool (decide ((substr.length:Int)≥(s_.length:Int))))]) ?_
   refine ihD h (fun c8 h=>?_) (fun c8 h=>?_)
   ·refine sh fol [(4,.i (-1))] ?_
    refine Goes.ret ?_
    obtain rfl:=si h
    exact(gw2 [.i (-1)] (FzW.still tI))
   ·cases h
def strings_Index (s_:Str) (substr:Str):Option Int:=
 (stringslite_Index s_ substr).bind fun r1=>
 some r1
theorem qh4 (s_:Str) (substr:Str) {res:Int} (h:strings_Index s_ substr=some res):qj Tryz.prog (.fn 164) [.str s_,.str substr] [] (.i res) []:=by
 unfold strings_Index at h
 refine Goes.fnW Tryz.func164 rfl rfl (m:=8) rfl (rs:=[.tmp 4]) rfl (l:=(kAB s_ substr [])) rfl ?_
 refine sh fol (kAB s_ substr []) ?_
 obtain⟨r1,e_r1,h⟩:=bnd h
 refine sq (gr fol [2] [(4,.i r1)] (ac (cv (qj6 s_ substr e_r1)) az) ?_)
 refine Goes.ret ?_
 obtain rfl:=si h
 exact(gw2 [.i r1] (FzW.still tI))
def qcJ (substr:Str):Nat→Str→Int→Option Int
 |0,_,_=>none
 |K+1,s6,n7=>
  (strings_Index s6 substr).bind fun r10=>
  if r10=(-1)then
  some n7
  else
  (cut s6 (w64 (r10+(substr.length:Int))) (s6.length:Int)).bind fun s12=>
  qcJ substr K s12 (w64 (n7+1))
def strings_Count (N:Nat) (s_:Str) (substr:Str):Option Int:=
 if(substr.length:Int)=0 then
 (utf8_RuneCountInString N s_).bind fun r2=>
 some (w64 (r2+1))
 else
 if(substr.length:Int)=1 then
 (idx substr 0).bind fun c4=>
 (qqp s_ (c4.toNat:Int)).bind fun r5=>
 some r5
 else
 (qcJ substr N s_ 0).bind fun q13=>
 some q13
theorem qm9 (N:Nat) (s_:Str) (substr:Str) {res:Int} (h:strings_Count N s_ substr=some res):qj Tryz.prog (.fn 163) [.str s_,.str substr] [] (.i res) []:=by
 unfold strings_Count at h
 refine Goes.fnW Tryz.func163 rfl rfl (m:=34) rfl (rs:=[.tmp 4]) rfl (l:=(kAB s_ substr [])) rfl ?_
 refine sh fol (kAB s_ substr []) ?_
 refine sq ?_
 refine sh fol (kAB s_ substr [(9,.bool (decide ((substr.length:Int)=0)))]) ?_
 refine ihD h (fun c1 h=>?_) (fun c1 h=>?_)
 ·obtain⟨r2,e_r2,h⟩:=bnd h
  refine sq (gr fol [1] [(4,.i (w64 (r2+1)))] (ac (cv (qd5 N s_ e_r2)) az) ?_)
  refine Goes.ret ?_
  obtain rfl:=si h
  exact(gw2 [.i (w64 (r2+1))] (FzW.still tI))
 ·refine Goes.skip ?_
  refine sq ?_
  refine sh fol (kAB s_ substr [(15,.bool (decide ((substr.length:Int)=1)))]) ?_
  refine ihD h (fun c3 h=>?_) (fun c3 h=>?_)
  ·obtain⟨c4,e_c4,h⟩:=bnd h
   obtain⟨r5,e_r5,h⟩:=bnd h
   refine sq (gr fol [2,3] [(4,.i r5)] (ac (hs (.done (.opt (qdM Tryz.prog 9 (.str substr) (.i 0))) (.int .u8 (c4.toNat:Int))) (qgT st9 e_c4)) (ac (cv (qtY s_ (c4.toNat:Int) e_r5)) az)) ?_)
   refine Goes.ret ?_
   obtain rfl:=si h
   exact(gw2 [.i r5] (FzW.still tI))
  ·refine Goes.skip ?_
   refine sh fol (kAB s_ substr kBR) ?_
   refine Goes.block ?_
   obtain⟨r8,g8,h⟩:=bnd h
   refine Goes.imp (Q:=fun x s'=>(x= .ret∧ ∃q9,q9=r8∧jh Tryz.prog [.tmp 4] (.i q9) .ret s')) ?_ ?_
   ·refine Goes.loopS (fun M s=> ∃(s6:Str) (n7:Int),s=(ofG 34 (kAB s6 substr (kAm n7)),[])∧qcJ substr M s6 n7=some r8) ?_ (m:=N) ⟨_,_,rfl,g8⟩
    rintro M s ⟨s6,n7,rfl,g8⟩
    cases M with
    |zero=>simp only[qcJ]at g8;cases g8
    |succ M=>
     rw[qcJ]at g8
     refine Goes.block ?_
     obtain⟨r10,e_r10,g8⟩:=bnd g8
     refine sq (gr fol [2] (kAB s6 substr ((5,.i n7)::(kBM r10))) (ac (cv (qh4 s6 substr e_r10)) az) ?_)
     refine sq ?_
     refine sh fol (kAB s6 substr [(5,.i n7),(6,.i r10),(24,.bool (decide (r10=(-1))))]) ?_
     refine ihD g8 (fun c11 g8=>?_) (fun c11 g8=>?_)
     ·refine sh fol [(4,.i n7)] ?_
      refine Goes.ret ?_
      obtain rfl:=si g8
      exact⟨rfl,_,rfl,(gw2 [.i n7] (FzW.still tI))⟩
     ·refine Goes.skip ?_
      refine sh fol (kAB s6 substr ((5,.i (w64 (n7+1)))::(kBM r10))) ?_
      obtain⟨s12,e_s12,g8⟩:=bnd g8
      refine gr fol [5] (kAB s12 substr (kAm (w64 (n7+1)))) (ac (hs (.done (.opt (yf Tryz.prog 9 (.str s6) (some (.i (w64 (r10+(substr.length:Int))))) none none)) (.str s12)) (qqB st9 (some (w64 (r10+(substr.length:Int)))) none e_s12)) az) ?_
      exact⟨M,(ofG 34 (kAB s12 substr (kAm (w64 (n7+1)))),[]),Nat.lt_succ_self _,(Sub.refl _),_,_,rfl,g8⟩
   rintro x s' ⟨rfl,q13,rfl,hret⟩
   obtain rfl:=si h
   exact hret
def y8 (s_:Str) (sep:Str) (sepSave:Int) (n4:Int):Nat→(List Str)→Str→Int→Option ((List Str)×Str×Int)
 |0,_,_,_=>none
 |K+1,l9,s10,n11=>
  if n11<(w64 ((if(w64 ((s_.length:Int)+1))<n4 then(w64 ((s_.length:Int)+1))else n4)-1))then
  (strings_Index s10 sep).bind fun r17=>
  if r17<0 then
  some (l9,s10,n11)
  else
  (cut s10 0 (w64 (r17+sepSave))).bind fun s19=>
  (idx l9 n11).bind fun x20=>
  (put l9 n11 s19).bind fun l21=>
  (cut s10 (w64 (r17+(sep.length:Int))) (s10.length:Int)).bind fun s22=>
  y8 s_ sep sepSave n4 K l21 s22 (w64 (n11+1))
  else
  some (l9,s10,n11)
def strings_genSplit (N:Nat) (s_:Str) (sep:Str) (sepSave:Int) (n:Int):Option (List Str):=
 if n=0 then
 some []
 else
 if(sep==[])=true then
 (qgj N s_ n).bind fun r3=>
 some r3
 else
 ((if n<0 then
 (strings_Count N s_ sep).bind fun r7=>
 some (w64 (r7+1))
 else
 some n:Option Int)).bind fun n4=>
 (mk 16 (if(w64 ((s_.length:Int)+1))<n4 then(w64 ((s_.length:Int)+1))else n4) []).bind fun l8=>
 (y8 s_ sep sepSave n4 N l8 s_ 0).bind fun(l12,s13,n14)=>
 (idx l12 n14).bind fun x23=>
 (put l12 n14 s13).bind fun l24=>
 (cut l24 0 (w64 (n14+1))).bind fun s25=>
 some s25
theorem qku (N:Nat) (s_:Str) (sep:Str) (sepSave:Int) (n:Int) {res:List Str} (h:strings_genSplit N s_ sep sepSave n=some res):qj Tryz.prog (.fn 116) [.str s_,.str sep,.i sepSave,.i n] [] (vl encS res) []:=by
 unfold strings_genSplit at h
 refine Goes.fnW Tryz.func116 rfl rfl (m:=66) rfl (rs:=[.tmp 8]) rfl (l:=(kAB s_ sep [(2,.i sepSave),(3,.i n)])) rfl ?_
 refine sh fol (kAB s_ sep [(2,.i sepSave),(3,.i n)]) ?_
 refine sq ?_
 refine sh fol (kAB s_ sep [(2,.i sepSave),(3,.i n),(13,.bool (decide (n=0)))]) ?_
 refine ihD h (fun c1 h=>?_) (fun c1 h=>?_)
 ·refine sh fol [(8,.nilslice)] ?_
  refine Goes.ret ?_
  obtain rfl:=si h
  exact(gw2 [.nilslice] (FzW.nilv (E:=encS)))
 ·refine Goes.skip ?_
  refine sq ?_
  refine sh fol (kAB s_ sep [(2,.i sepSave),(3,.i n),(15,.bool (sep==[]))]) ?_
  refine ihB h (fun c2 h=>?_) (fun c2 h=>?_)
  ·obtain⟨r3,e_r3,h⟩:=bnd h
   refine sq (gr fol [2] [(8,vl encS r3)] (ac (cv (qlo N s_ n e_r3)) az) ?_)
   refine Goes.ret ?_
   obtain rfl:=si h
   exact(gw2 [vl encS r3] (FzW.still (qdE encS _ (nl rfl))))
  ·refine Goes.skip ?_
   refine sq ?_
   refine sh fol (kAB s_ sep [(2,.i sepSave),(3,.i n),(20,.bool (decide (n<0)))]) ?_
   obtain⟨r5,g5,h⟩:=bnd h
   refine Goes.imp (Q:=fun x s'=>(x= .normal∧ ∃n4,n4=r5∧Sub s' (ofG 66 (kAB s_ sep [(2,.i sepSave),(3,.i n4)]),[]))) ?_ ?_
   ·refine ihD g5 (fun c6 g5=>?_) (fun c6 g5=>?_)
    ·obtain⟨r7,e_r7,g5⟩:=bnd g5
     refine gr fol [2] (kAB s_ sep [(2,.i sepSave),(3,.i (w64 (r7+1)))]) (ac (cv (qm9 N s_ sep e_r7)) az) ?_
     obtain rfl:=si g5
     exact⟨rfl,_,rfl,(Sub.refl _)⟩
    ·refine Goes.skip ?_
     obtain rfl:=si g5
     exact⟨rfl,_,rfl,(Sub.keep [0,1,2,3] rfl rfl)⟩
   rintro x s' ⟨rfl,n4,rfl,hsub⟩
   refine Goes.sub hsub ?_
   refine sh fol (kAB s_ sep [(2,.i sepSave),(3,.i (if(w64 ((s_.length:Int)+1))<n4 then(w64 ((s_.length:Int)+1))else n4))]) ?_
   obtain⟨l8,e_l8,h⟩:=bnd h
   refine sq (gq fol [1] (kO s_ sep sepSave (if(w64 ((s_.length:Int)+1))<n4 then(w64 ((s_.length:Int)+1))else n4) l8 []) (kN l8 []) (ac (hs (.run [] (qdL Tryz.prog 37 (.i (if(w64 ((s_.length:Int)+1))<n4 then(w64 ((s_.length:Int)+1))else n4)) (.i (if(w64 ((s_.length:Int)+1))<n4 then(w64 ((s_.length:Int)+1))else n4))) [] (.slice 0 0 l8.length l8.length 1) (kN l8 []) false) (qr4 qdk (E:=encS) (z:=[]) rfl (by kernel_rfl) e_l8 rfl)) az) ?_)
   refine sh fol (kO s_ sep sepSave (w64 ((if(w64 ((s_.length:Int)+1))<n4 then(w64 ((s_.length:Int)+1))else n4)-1)) l8 []) ?_
   refine sh fol (kO s_ sep sepSave (w64 ((if(w64 ((s_.length:Int)+1))<n4 then(w64 ((s_.length:Int)+1))else n4)-1)) l8 [(10,.i 0)]) ?_
   refine sq (Goes.block ?_)
   obtain⟨r15,g15,h⟩:=bnd h
   refine Goes.imp (Q:=fun x s'=>(x= .exit 0∧ ∃l12 s13 n14,(l12,s13,n14)=r15∧Sub s' (ofG 66 (kAi s13 (kBL l12 n14)),(kN l12 [])))) ?_ ?_
   ·refine Goes.loopS (fun M s=> ∃(l9:List Str) (s10:Str) (n11:Int),s=(ofG 66 (kO s10 sep sepSave (w64 ((if(w64 ((s_.length:Int)+1))<n4 then(w64 ((s_.length:Int)+1))else n4)-1)) l9 [(10,.i n11)]),(kN l9 []))∧y8 s_ sep sepSave n4 M l9 s10 n11=some r15) ?_ (m:=N) ⟨_,_,_,rfl,g15⟩
    rintro M s ⟨l9,s10,n11,rfl,g15⟩
    cases M with
    |zero=>simp only[y8]at g15;cases g15
    |succ M=>
     rw[y8]at g15
     refine sq ?_
     refine sh fol (kO s10 sep sepSave (w64 ((if(w64 ((s_.length:Int)+1))<n4 then(w64 ((s_.length:Int)+1))else n4)-1)) l9 [(10,.i n11),(36,.bool (decide (n11<(w64 ((if(w64 ((s_.length:Int)+1))<n4 then(w64 ((s_.length:Int)+1))else n4)-1)))))]) ?_
     refine ihD g15 (fun c16 g15=>?_) (fun c16 g15=>?_)
     ·refine Goes.skip ?_
      refine Goes.block ?_
      obtain⟨r17,e_r17,g15⟩:=bnd g15
      refine sq (gr fol [2] (kO s10 sep sepSave (w64 ((if(w64 ((s_.length:Int)+1))<n4 then(w64 ((s_.length:Int)+1))else n4)-1)) l9 [(10,.i n11),(11,.i r17)]) (ac (cv (qh4 s10 sep e_r17)) az) ?_)
      refine sq ?_
      refine sh fol (kO s10 sep sepSave (w64 ((if(w64 ((s_.length:Int)+1))<n4 then(w64 ((s_.length:Int)+1))else n4)-1)) l9 [(10,.i n11),(11,.i r17),(41,.bool (decide (r17<0)))]) ?_
      refine ihD g15 (fun c18 g15=>?_) (fun c18 g15=>?_)
      ·refine Goes.exit ?_
       obtain rfl:=si g15
       exact⟨rfl,_,_,_,rfl,(Sub.keep [0,9,10] rfl rfl)⟩
      ·refine Goes.skip ?_
       obtain⟨s19,e_s19,g15⟩:=bnd g15
       obtain⟨x20,e_x20,g15⟩:=bnd g15
       obtain⟨l21,e_l21,g15⟩:=bnd g15
       refine sq (gq fol [6,7,8] (kO s10 sep sepSave (w64 ((if(w64 ((s_.length:Int)+1))<n4 then(w64 ((s_.length:Int)+1))else n4)-1)) l9 [(10,.i n11),(11,.i r17)]) (kN l21 []) (ac (hs (.done (.opt (yf Tryz.prog 9 (.str s10) none (some (.i (w64 (r17+sepSave)))) none)) (.str s19)) (qqB st9 none (some (w64 (r17+sepSave))) e_s19)) (ac (hs (.done (.opt (zQ Tryz.prog 37 (.slice 0 0 l9.length l9.length 1) (.i n11))) (.ptr 0 ((n11:Int).toNat*1+0))) (qq8 qdk e_x20)) (ac (hs (.run [0] (qex Tryz.prog 9 (.ptr 0 ((n11:Int).toNat*1+0)) (.str s19)) (kN l9 []) .undef (kN l21 []) true) (qkL (E:=encS) (l:=l9) (y:=s19) rfl (show _=some 1 by kernel_rfl) rfl e_x20 rfl rfl rfl rfl rfl e_l21 rfl)) az))) ?_)
       refine Goes.sub (show Sub (ofG 66 (kO s10 sep sepSave (w64 ((if(w64 ((s_.length:Int)+1))<n4 then(w64 ((s_.length:Int)+1))else n4)-1)) l9 [(10,.i n11),(11,.i r17)]),(kN l21 [])) (ofG 66 (kO s10 sep sepSave (w64 ((if(w64 ((s_.length:Int)+1))<n4 then(w64 ((s_.length:Int)+1))else n4)-1)) l21 [(10,.i n11),(11,.i r17)]),(kN l21 []))from(Sub.norm [] [some 0] rfl rfl (.keep (.same nS) (.keep (.same nS) (.keep (.same nI) (.keep (.same nI) (.keep (.sliceE rfl (qfJ e_l21)) (.keep (.same nI) (.keep (.same nI) .nil))))))) (.ks .nil))) ?_
       obtain⟨s22,e_s22,g15⟩:=bnd g15
       refine sq (gr fol [5] (kO s22 sep sepSave (w64 ((if(w64 ((s_.length:Int)+1))<n4 then(w64 ((s_.length:Int)+1))else n4)-1)) l21 [(10,.i n11)]) (ac (hs (.done (.opt (yf Tryz.prog 9 (.str s10) (some (.i (w64 (r17+(sep.length:Int))))) none none)) (.str s22)) (qqB st9 (some (w64 (r17+(sep.length:Int)))) none e_s22)) az) ?_)
       refine gh fol (kO s22 sep sepSave (w64 ((if(w64 ((s_.length:Int)+1))<n4 then(w64 ((s_.length:Int)+1))else n4)-1)) l21 [(10,.i (w64 (n11+1)))]) ?_
       exact⟨M,(ofG 66 (kO s22 sep sepSave (w64 ((if(w64 ((s_.length:Int)+1))<n4 then(w64 ((s_.length:Int)+1))else n4)-1)) l21 [(10,.i (w64 (n11+1)))]),(kN l21 [])),Nat.lt_succ_self _,(Sub.refl _),_,_,_,rfl,g15⟩
     ·refine Goes.exit ?_
      obtain rfl:=si g15
      exact⟨rfl,_,_,_,rfl,(Sub.keep [0,9,10] rfl rfl)⟩
   rintro x s' ⟨rfl,l12,s13,n14,rfl,hsub⟩
   try dsimp only at h
   refine Goes.sub hsub ?_
   obtain⟨x23,e_x23,h⟩:=bnd h
   obtain⟨l24,e_l24,h⟩:=bnd h
   refine sq (gq fol [3,4] (kBL l12 n14) (kN l24 []) (ac (hs (.done (.opt (zQ Tryz.prog 37 (.slice 0 0 l12.length l12.length 1) (.i n14))) (.ptr 0 ((n14:Int).toNat*1+0))) (qq8 qdk e_x23)) (ac (hs (.run [0] (qex Tryz.prog 9 (.ptr 0 ((n14:Int).toNat*1+0)) (.str s13)) (kN l12 []) .undef (kN l24 []) true) (qkL (E:=encS) (l:=l12) (y:=s13) rfl (show _=some 1 by kernel_rfl) rfl e_x23 rfl rfl rfl rfl rfl e_l24 rfl)) az)) ?_)
   refine Goes.sub (show Sub (ofG 66 (kBL l12 n14),(kN l24 [])) (ofG 66 (kBL l24 n14),(kN l24 []))from(Sub.norm [] [some 0] rfl rfl (.keep (.sliceE rfl (qfJ e_l24)) (.keep (.same nI) .nil)) (.ks .nil))) ?_
   refine sq (Goes.sub (s':=(ofG 66 [(9,vl encS l24),(10,.i n14)],[])) (Sub.norm [0] [] rfl rfl (.keep (.frz (Fz.sl (E:=encS) rfl rfl (nl rfl)) (qp encS _)) (.keep (.same nI) .nil)) .nil) ?_)
   obtain⟨s25,e_s25,h⟩:=bnd h
   refine gr fol [3] [(8,vl encS s25)] (ac (hs (.done (.opt (yf Tryz.prog 37 (vl encS l24) none (some (.i (w64 (n14+1)))) none)) (vl encS s25)) (qov qdk (E:=encS) rfl none (some (w64 (n14+1))) e_s25)) az) ?_
   refine Goes.ret ?_
   obtain rfl:=si h
   exact(gw2 [vl encS s25] (FzW.still (qdE encS _ (nl rfl))))
def strings_Split (N:Nat) (s_:Str) (sep:Str):Option (List Str):=
 (strings_genSplit N s_ sep 0 (-1)).bind fun r1=>
 some r1
theorem qmY (N:Nat) (s_:Str) (sep:Str) {res:List Str} (h:strings_Split N s_ sep=some res):qj Tryz.prog (.fn 72) [.str s_,.str sep] [] (vl encS res) []:=by
 unfold strings_Split at h
 refine Goes.fnW Tryz.func72 rfl rfl (m:=8) rfl (rs:=[.tmp 4]) rfl (l:=(kAB s_ sep [])) rfl ?_
 refine sh fol (kAB s_ sep []) ?_
 obtain⟨r1,e_r1,h⟩:=bnd h
 refine sq (gr fol [2] [(4,vl encS r1)] (ac (cv (qku N s_ sep 0 (-1) e_r1)) az) ?_)
 refine Goes.ret ?_
 obtain rfl:=si h
 exact(gw2 [vl encS r1] (FzW.still (qdE encS _ (nl rfl))))
def vY (n:Int) (low:Int) (high:Int):Option Int:=
 (if n<low then
 (za true 3).bind fun r2=>
 some r2
 else
 (za (decide (n>high)) 3).bind fun r3=>
 some r3:Option Int).bind fun n4=>
 some n4
theorem jE (n:Int) (low:Int) (high:Int) {res:Int} (h:vY n low high=some res):qj Tryz.prog (.fn 97) [.i n,.i low,.i high] [] (.i res) []:=by
 unfold vY at h
 refine Goes.fnW Tryz.func97 rfl rfl (m:=16) rfl (rs:=[.tmp 6]) rfl (l:=(kAk n low [(2,.i high)])) rfl ?_
 refine sh fol (kAk n low [(2,.i high)]) ?_
 refine sq ?_
 obtain⟨n4,g_v5,h⟩:=bnd h
 refine Goes.cut (s':=(ofG 16 (kBM n4),[])) ?_ ?_
 ·rcases wyD g_v5 with⟨c1,g_v5⟩|⟨c1,g_v5⟩
  ·obtain⟨r2,e_r2,g_v5⟩:=bnd g_v5
   obtain rfl:=si g_v5
   exact tr fol [3,8] (kBM r2) (ac (gw c1) (ac (cv (kr true 3 e_r2)) az))
  ·obtain⟨r3,e_r3,g_v5⟩:=bnd g_v5
   obtain rfl:=si g_v5
   exact tr fol [3,8] (kBM r3) (ac (gw c1) (ac (cv (kr (decide (n>high)) 3 e_r3)) az))
 refine Goes.ret ?_
 obtain rfl:=si h
 exact(gw2 [.i n4] (FzW.still tI))
def qcf (n:Int):Option Int:=
 (vY n 0 99999).bind fun r1=>
 some r1
theorem qgX (n:Int) {res:Int} (h:qcf n=some res):qj Tryz.prog (.fn 42) [.i n] [] (.i res) []:=by
 unfold qcf at h
 refine Goes.fnW Tryz.func42 rfl rfl (m:=5) rfl (rs:=[.tmp 2]) rfl (l:=[(0,.i n)]) rfl ?_
 refine sh fol [(0,.i n)] ?_
 obtain⟨r1,e_r1,h⟩:=bnd h
 refine sq (gr fol [1] [(2,.i r1)] (ac (cv (jE n 0 99999 e_r1)) az) ?_)
 refine Goes.ret ?_
 obtain rfl:=si h
 exact(gw2 [.i r1] (FzW.still tI))
def qa2 (a0_:qg) (a1_:Str):Option Bool:=
 some (!(ltL a0_.Name a1_))
theorem qf3 (a0_:qg) (a1_:Str) {res:Bool} (h:qa2 a0_ a1_=some res):qj Tryz.prog (.fn 172) [.agg (cS a0_),.fptr [.str a1_] 0] [] (.bool res) []:=by
 unfold qa2 at h
 refine Goes.fnW Tryz.func172 rfl rfl (m:=8) rfl (rs:=[.tmp 3]) rfl (l:=[(0,.agg (cS a0_)),(1,.fptr [.str a1_] 0)]) rfl ?_
 refine sg fol ((1,.fptr [.str a1_] 0)::(kAd [])) [.cells (cS a0_)] ?_
 refine sh fol [(3,.bool (!(ltL a0_.Name a1_)))] ?_
 refine Goes.ret ?_
 obtain rfl:=si h
 exact(gw2 [.bool (!(ltL a0_.Name a1_))] (FzW.still tB))
def zP (a0_:List qg) (a1_:Str):Nat→Int→Option (Unit⊕Int)
 |0,_=>none
 |K+1,n1=>
  if n1<(a0_.length:Int)then
  (idx a0_ n1).bind fun x5=>
  (qa2 x5 a1_).bind fun r6=>
  if r6=true then
  some (.inr n1)
  else
  zP a0_ a1_ K (w64 (n1+1))
  else
  some (.inl ())
def qa8 (N:Nat) (a0_:List qg) (a1_:Str):Option Int:=
 (zP a0_ a1_ N 0).bind (fun
 |(.inl ())=>
 some (-1)
 |(.inr q8)=>
 some q8)
theorem qgi (N:Nat) (a0_:List qg) (a1_:Str) {res:Int} (h:qa8 N a0_ a1_=some res):qj Tryz.prog (.fn 171) [vl qo a0_,.func (.func 172) [] [.fptr [.str a1_] 0]] [] (.i res) []:=by
 unfold qa8 at h
 refine Goes.fnW Tryz.func171 rfl rfl (m:=19) rfl (rs:=[.tmp 4]) rfl (l:=[(0,vl qo a0_),(1,.func (.func 172) [] [.fptr [.str a1_] 0])]) rfl ?_
 refine sh fol [(0,vl qo a0_),(1,.func (.func 172) [] [.fptr [.str a1_] 0])] ?_
 refine sq ?_
 refine sh fol [(0,vl qo a0_),(1,.func (.func 172) [] [.fptr [.str a1_] 0]),(7,.i (a0_.length:Int)),(8,.i 0)] ?_
 refine Goes.block ?_
 obtain⟨r2,g2,h⟩:=bnd h
 refine Goes.imp (Q:=fun x s'=>(x= .exit 0∧(.inl ())=r2∧Sub s' (ofG 19 [],[]))∨(x= .ret∧ ∃q3,(.inr q3)=r2∧jh Tryz.prog [.tmp 4] (.i q3) .ret s')) ?_ ?_
 ·refine Goes.loopS (fun M s=> ∃(n1:Int),s=(ofG 19 ((0,vl qo a0_)::(1,.func (.func 172) [] [.fptr [.str a1_] 0])::(kAJ (a0_.length:Int) n1 [])),[])∧zP a0_ a1_ M n1=some r2) ?_ (m:=N) ⟨_,rfl,g2⟩
  rintro M s ⟨n1,rfl,g2⟩
  cases M with
  |zero=>simp only[zP]at g2;cases g2
  |succ M=>
   rw[zP]at g2
   refine sh fol ((0,vl qo a0_)::(1,.func (.func 172) [] [.fptr [.str a1_] 0])::(kAJ (a0_.length:Int) n1 [(9,.bool (decide (n1<(a0_.length:Int))))])) ?_
   refine sq ?_
   refine ihD g2 (fun c4 g2=>?_) (fun c4 g2=>?_)
   ·refine Goes.skip ?_
    refine sq (Goes.block ?_)
    refine sh fol ((0,vl qo a0_)::(1,.func (.func 172) [] [.fptr [.str a1_] 0])::(5,.i n1)::(kAJ (a0_.length:Int) n1 [])) ?_
    obtain⟨x5,e_x5,g2⟩:=bnd g2
    obtain⟨r6,e_r6,g2⟩:=bnd g2
    refine sq (gr fol [3,4,5] ((0,vl qo a0_)::(1,.func (.func 172) [] [.fptr [.str a1_] 0])::(5,.i n1)::(kAJ (a0_.length:Int) n1 [(16,.bool r6)])) (ac (iv qh3 qo e_x5) (ac (la qtl qo e_x5) (ac (hs (.call 172 [.agg (cS x5),.fptr [.str a1_] 0] [] [] [.agg (cS x5),.fptr [.str a1_] 0] (.bool r6)) (qwf (FzL.cons (Fz.still (Still.agg (AllST.cons tS (AllST.cons tS (AllST.cons tI (AllST.cons tI (AllST.cons tI (AllST.cons tI (AllST.cons tI (AllST.cons tI (AllST.cons tB AllST.nil))))))))))) (FzL.cons (Fz.still (Still.fptr (AllST.cons tS AllST.nil))) FzL.nil)) (qf3 x5 a1_ e_r6) tB)) az))) ?_)
    refine ihB g2 (fun c7 g2=>?_) (fun c7 g2=>?_)
    ·refine sh fol [(4,.i n1)] ?_
     refine Goes.ret ?_
     obtain rfl:=si g2
     exact Or.inr (⟨rfl,_,rfl,(gw2 [.i n1] (FzW.still tI))⟩)
    ·refine Goes.skip ?_
     refine gh fol ((0,vl qo a0_)::(1,.func (.func 172) [] [.fptr [.str a1_] 0])::(kAJ (a0_.length:Int) (w64 (n1+1)) [])) ?_
     exact⟨M,(ofG 19 ((0,vl qo a0_)::(1,.func (.func 172) [] [.fptr [.str a1_] 0])::(kAJ (a0_.length:Int) (w64 (n1+1)) [])),[]),Nat.lt_succ_self _,(Sub.refl _),_,rfl,g2⟩
   ·refine Goes.exit ?_
    obtain rfl:=si g2
    exact Or.inl (⟨rfl,rfl,(Sub.keep [] rfl rfl)⟩)
 rintro x s' (⟨rfl,rfl,hsub⟩|⟨rfl,q8,rfl,hret⟩)
 ·try dsimp only at h
  refine Goes.sub hsub ?_
  refine sh fol [(4,.i (-1))] ?_
  refine Goes.ret ?_
  obtain rfl:=si h
  exact(gw2 [.i (-1)] (FzW.still tI))
 ·try dsimp only at h
  obtain rfl:=si h
  exact hret
def qaW (N:Nat) (r:qcE) (name:Str):Option (Int×Bool):=
 (qa8 N r.Slings name).bind fun r1=>
 if r1<0 then
 some ((r.Slings.length:Int),false)
 else
 (idx r.Slings r1).bind fun x3=>
 some (r1,x3.Name==name)
theorem qeC (N:Nat) (r:qcE) (name:Str) {res:Int×Bool} (h:qaW N r name=some res):qj Tryz.prog (.fn 128) (kA0 r.Day r.Slings [.str name]) [] (.tuple [.i res.1,.bool res.2]) []:=by
 unfold qaW at h
 refine Goes.fnW Tryz.func128 rfl rfl (m:=25) rfl (rs:=[.tmp 4,.tmp 5]) rfl (l:=[(0,.agg [.i r.Day,vl qo r.Slings]),(1,.str name)]) rfl ?_
 refine sg fol (kAd (kA2 [])) (kZ r.Day r.Slings [.cells [.str name]]) ?_
 obtain⟨r1,e_r1,h⟩:=bnd h
 refine sq (gr fol [3] (kAd (kA2 (kBM r1))) (ac (hs (.call 171 [vl qo r.Slings,.func (.func 172) [] [.ptr 1 0]] (kZ r.Day r.Slings [.cells [.str name]]) [1] [vl qo r.Slings,.func (.func 172) [] [.fptr [.str name] 0]] (.i r1)) (qbz (FzL.cons (Fz.still (qdE qo _ (nl rfl))) (FzL.cons (Fz.func FzL.nil (FzL.cons (Fz.ptr rfl rfl (FzL.cons (Fz.still tS) FzL.nil)) FzL.nil)) FzL.nil)) (qgi N r.Slings name e_r1) tI rfl)) az) ?_)
 refine sq ?_
 refine sh fol (kAd (kA2 [(6,.i r1),(12,.bool (decide (r1<0)))])) ?_
 refine ihD h (fun c2 h=>?_) (fun c2 h=>?_)
 ·refine sh fol [(4,.i (r.Slings.length:Int)),(5,.bool false)] ?_
  refine Goes.ret ?_
  obtain rfl:=si h
  exact(gw2 [.i (r.Slings.length:Int),.bool false] (FzW.tuple (qA.cons (FzW.still tI) (qA.cons (FzW.still tB) qA.nil))))
 ·refine Goes.skip ?_
  obtain⟨x3,e_x3,h⟩:=bnd h
  refine sq (gr fol [4,6] [(4,.i r1),(5,.bool (x3.Name==name))] (ac (iv qh3 qo e_x3) (ac (lv 0 ce9 qo e_x3 rfl) az)) ?_)
  refine Goes.ret ?_
  obtain rfl:=si h
  exact(gw2 [.i r1,.bool (x3.Name==name)] (FzW.tuple (qA.cons (FzW.still tI) (qA.cons (FzW.still tB) qA.nil))))
def qaT (s_:qg) (day:Int):Option Bool:=
 (if s_.Gone=true then
 some true
 else
 if day>s_.Last then
 some true
 else
 some (decide (s_.Used=s_.Uses)):Option Bool).bind fun b3=>
 some b3
theorem qeI (s_:qg) (day:Int) {res:Bool} (h:qaT s_ day=some res):qj Tryz.prog (.fn 78) [.agg (cS s_),.i day] [] (.bool res) []:=by
 unfold qaT at h
 refine Goes.fnW Tryz.func78 rfl rfl (m:=20) rfl (rs:=[.tmp 4]) rfl (l:=[(0,.agg (cS s_)),(1,.i day)]) rfl ?_
 refine sg fol ((1,.i day)::(kAd [])) [.cells (cS s_)] ?_
 refine sq ?_
 obtain⟨b3,g_v4,h⟩:=bnd h
 refine Goes.cut (s':=(ofG 20 [(4,.bool b3)],[.cells (cS s_)])) ?_ ?_
 ·rcases wyB g_v4 with⟨c1,g_v4⟩|⟨c1,g_v4⟩
  ·obtain rfl:=si g_v4
   exact tr fol [2] kAe (ac (gw c1) az)
  ·rcases wyD g_v4 with⟨c2,g_v4⟩|⟨c2,g_v4⟩
   ·obtain rfl:=si g_v4
    exact tr fol [2,8] kAe (ac (gw c1) (ac (gw c2) az))
   ·obtain rfl:=si g_v4
    exact tr fol [2,8] [(4,.bool (decide (s_.Used=s_.Uses)))] (ac (gw c1) (ac (gw c2) az))
 refine Goes.ret ?_
 obtain rfl:=si h
 exact(gw2 [.bool b3] (FzW.still tB))
def qb8 (s_:qg) (day:Int):Option Bool:=
 (if s_.Limit>0 then
 some (decide (day≤s_.Until))
 else
 some false:Option Bool).bind fun b2=>
 some b2
theorem qjd (s_:qg) (day:Int) {res:Bool} (h:qb8 s_ day=some res):qj Tryz.prog (.fn 79) [.agg (cS s_),.i day] [] (.bool res) []:=by
 unfold qb8 at h
 refine Goes.fnW Tryz.func79 rfl rfl (m:=14) rfl (rs:=[.tmp 4]) rfl (l:=[(0,.agg (cS s_)),(1,.i day)]) rfl ?_
 refine sg fol ((1,.i day)::(kAd [])) [.cells (cS s_)] ?_
 refine sq ?_
 obtain⟨b2,g_v3,h⟩:=bnd h
 refine Goes.cut (s':=(ofG 14 [(4,.bool b2)],[.cells (cS s_)])) ?_ ?_
 ·rcases wyD g_v3 with⟨c1,g_v3⟩|⟨c1,g_v3⟩
  ·obtain rfl:=si g_v3
   exact tr fol [3] [(4,.bool (decide (day≤s_.Until)))] (ac (gw c1) az)
  ·obtain rfl:=si g_v3
   exact tr fol [3] kAK (ac (gw c1) az)
 refine Goes.ret ?_
 obtain rfl:=si h
 exact(gw2 [.bool b2] (FzW.still tB))
def xm:Option Unit:=
 some ()
theorem zm {res:Unit} (h:xm=some res):qj Tryz.prog (.fn 73) [] [] (fm1) []:=by
 unfold xm at h
 refine Goes.fnW Tryz.func73 rfl rfl (m:=9) rfl (rs:=[.tmp 0]) rfl (l:=[]) rfl ?_
 refine sh fol [] ?_
 refine sg fol [(0,.map 0)] [.map kAp (.agg [.i 2,.i 3,.func (.func 117) [] []]:: .agg [.i 1,.i 2,.func (.func 118) [] []]:: .agg [.i 1,.i 2,.func (.func 119) [] []]:: .agg [.i 1,.i 1,.func (.func 120) [] []]:: .agg [.i 1,.i 1,.func (.func 121) [] []]::(kBH []))] ?_
 refine Goes.ret ?_
 obtain rfl:=si h
 exact(gw2 [.map 0] (FzW.of (by kernel_rfl)))
def vF (s_:List Str) (v:Str):Nat→Int→Option (Unit⊕Int)
 |0,_=>none
 |K+1,n1=>
  if n1<(s_.length:Int)then
  (idx s_ n1).bind fun x5=>
  if(v==x5)=true then
  some (.inr n1)
  else
  vF s_ v K (w64 (n1+1))
  else
  some (.inl ())
def slices_Index_string (N:Nat) (s_:List Str) (v:Str):Option Int:=
 (vF s_ v N 0).bind (fun
 |(.inl ())=>
 some (-1)
 |(.inr q7)=>
 some q7)
theorem qil (N:Nat) (s_:List Str) (v:Str) {res:Int} (h:slices_Index_string N s_ v=some res):qj Tryz.prog (.fn 127) [vl encS s_,.str v] [] (.i res) []:=by
 unfold slices_Index_string at h
 refine Goes.fnW Tryz.func127 rfl rfl (m:=19) rfl (rs:=[.tmp 4]) rfl (l:=(kA1 s_ v [])) rfl ?_
 refine sh fol (kA1 s_ v []) ?_
 refine sq ?_
 refine sh fol (kA1 s_ v [(7,.i (s_.length:Int)),(8,.i 0)]) ?_
 refine Goes.block ?_
 obtain⟨r2,g2,h⟩:=bnd h
 refine Goes.imp (Q:=fun x s'=>(x= .exit 0∧(.inl ())=r2∧Sub s' (ofG 19 [],[]))∨(x= .ret∧ ∃q3,(.inr q3)=r2∧jh Tryz.prog [.tmp 4] (.i q3) .ret s')) ?_ ?_
 ·refine Goes.loopS (fun M s=> ∃(n1:Int),s=(ofG 19 (kA1 s_ v (kAJ (s_.length:Int) n1 [])),[])∧vF s_ v M n1=some r2) ?_ (m:=N) ⟨_,rfl,g2⟩
  rintro M s ⟨n1,rfl,g2⟩
  cases M with
  |zero=>simp only[vF]at g2;cases g2
  |succ M=>
   rw[vF]at g2
   refine sh fol (kA1 s_ v (kAJ (s_.length:Int) n1 [(9,.bool (decide (n1<(s_.length:Int))))])) ?_
   refine sq ?_
   refine ihD g2 (fun c4 g2=>?_) (fun c4 g2=>?_)
   ·refine Goes.skip ?_
    refine sq (Goes.block ?_)
    refine sh fol (kA1 s_ v ((5,.i n1)::(kAJ (s_.length:Int) n1 []))) ?_
    obtain⟨x5,e_x5,g2⟩:=bnd g2
    refine sq (gr fol [3,4] (kA1 s_ v ((5,.i n1)::(kAJ (s_.length:Int) n1 [(16,.bool (v==x5))]))) (ac (iv qdk encS e_x5) (ac (lv 0 ce9 encS e_x5 rfl) az)) ?_)
    refine ihB g2 (fun c6 g2=>?_) (fun c6 g2=>?_)
    ·refine sh fol [(4,.i n1)] ?_
     refine Goes.ret ?_
     obtain rfl:=si g2
     exact Or.inr (⟨rfl,_,rfl,(gw2 [.i n1] (FzW.still tI))⟩)
    ·refine Goes.skip ?_
     refine gh fol (kA1 s_ v (kAJ (s_.length:Int) (w64 (n1+1)) [])) ?_
     exact⟨M,(ofG 19 (kA1 s_ v (kAJ (s_.length:Int) (w64 (n1+1)) [])),[]),Nat.lt_succ_self _,(Sub.refl _),_,rfl,g2⟩
   ·refine Goes.exit ?_
    obtain rfl:=si g2
    exact Or.inl (⟨rfl,rfl,(Sub.keep [] rfl rfl)⟩)
 rintro x s' (⟨rfl,rfl,hsub⟩|⟨rfl,q7,rfl,hret⟩)
 ·try dsimp only at h
  refine Goes.sub hsub ?_
  refine sh fol [(4,.i (-1))] ?_
  refine Goes.ret ?_
  obtain rfl:=si h
  exact(gw2 [.i (-1)] (FzW.still tI))
 ·try dsimp only at h
  obtain rfl:=si h
  exact hret
def slices_Contains_string (N:Nat) (s_:List Str) (v:Str):Option Bool:=
 (slices_Index_string N s_ v).bind fun r1=>
 some (decide (r1≥0))
theorem qhb (N:Nat) (s_:List Str) (v:Str) {res:Bool} (h:slices_Contains_string N s_ v=some res):qj Tryz.prog (.fn 76) [vl encS s_,.str v] [] (.bool res) []:=by
 unfold slices_Contains_string at h
 refine Goes.fnW Tryz.func76 rfl rfl (m:=9) rfl (rs:=[.tmp 4]) rfl (l:=(kA1 s_ v [])) rfl ?_
 refine sh fol (kA1 s_ v []) ?_
 obtain⟨r1,e_r1,h⟩:=bnd h
 refine sq (gr fol [2] [(4,.bool (decide (r1≥0)))] (ac (cv (qil N s_ v e_r1)) az) ?_)
 refine Goes.ret ?_
 obtain rfl:=si h
 exact(gw2 [.bool (decide (r1≥0))] (FzW.still tB))
def qbe:Option (List Str):=
 qlP (some []) ((app 16 ([]:List Str) ([]:List Str)).bind fun l1=>
 some l1)
theorem qhL {res:List Str} (h:qbe=some res):qj Tryz.prog (.fn 113) [vl encS ([]:List Str)] [] (vl encS res) []:=by
 unfold qbe at h
 refine Goes.fnW Tryz.func113 rfl rfl (m:=8) rfl (rs:=[.tmp 2]) rfl (l:=[(0,vl encS ([]:List Str))]) rfl ?_
 refine sh fol [(0,vl encS ([]:List Str))] ?_
 refine sq ?_
 refine sh fol [(0,vl encS ([]:List Str)),(4,.anyb)] ?_
 refine Goes.condAny (by kernel_rfl) ?_ ?_
 ·replace h:=(qfq h).1
  refine sh fol [(2,.nilslice)] ?_
  refine Goes.ret ?_
  obtain rfl:=si h
  exact(gw2 [.nilslice] (FzW.nilv (E:=encS)))
 ·replace h:=(qfq h).2
  refine Goes.skip ?_
  obtain⟨l1,e_l1,h⟩:=bnd h
  refine sq (gq fol [2] [(2,.oslice 1 l1.length 1)] (.dead::(kN l1 [])) (ac (hs (.run [0] (jL Tryz.prog [37,37] (.slice 0 0 0 0 1) (vl encS ([]:List Str))) [.cells []] (.oslice 1 l1.length 1) (.dead::(kN l1 [])) true) (qaF qdk (E:=encS) rfl (qkM (E:=encS) rfl _) (qnD (E:=encS) rfl rfl rfl e_l1 rfl))) az) ?_)
  refine Goes.ret ?_
  obtain rfl:=si h
  exact(gw2 [.oslice 1 l1.length 1] (FzW.fz (Fz.os (E:=encS) rfl rfl (nl rfl))))
def qaw (hd:Str) (tl:List Str):Option (List Str):=
 (app 16 ([]:List Str) (hd::tl)).bind fun l1=>
 some l1
theorem qhH (hd:Str) (tl:List Str) {res:List Str} (h:qaw hd tl=some res):qj Tryz.prog (.fn 113) [vl encS (hd::tl)] [] (vl encS res) []:=by
 unfold qaw at h
 refine Goes.fnW Tryz.func113 rfl rfl (m:=8) rfl (rs:=[.tmp 2]) rfl (l:=[(0,vl encS (hd::tl))]) rfl ?_
 refine sh fol [(0,vl encS (hd::tl))] ?_
 refine sq ?_
 refine sh fol ((0,vl encS (hd::tl))::kAK) ?_
 refine Goes.ifB (b:=false) (by kernel_rfl) (fun c=>(by cases c)) (fun _=>?_)
 refine Goes.skip ?_
 obtain⟨l1,e_l1,h⟩:=bnd h
 refine sq (gq fol [2] [(2,.oslice 1 l1.length 1)] (.dead::(kN l1 [])) (ac (hs (.run [0] (jL Tryz.prog [37,37] (.slice 0 0 0 0 1) (vl encS (hd::tl))) [.cells []] (.oslice 1 l1.length 1) (.dead::(kN l1 [])) true) (qaF qdk (E:=encS) rfl (qkM (E:=encS) rfl _) (qnD (E:=encS) rfl rfl rfl e_l1 rfl))) az) ?_)
 refine Goes.ret ?_
 obtain rfl:=si h
 exact(gw2 [.oslice 1 l1.length 1] (FzW.fz (Fz.os (E:=encS) rfl rfl (nl rfl))))
def slices_Clone_string:(List Str)→Option (List Str)
 |[]=>qbe
 |hd::tl=>qaw hd tl
theorem qe6 (l:List Str) {res:List Str} (h:slices_Clone_string l=some res):qj Tryz.prog (.fn 113) [vl encS l] [] (vl encS res) []:=by
 cases l with
 |nil=>exact qhL h
 |cons hd tl=>exact qhH hd tl h
def qdd (s_:Str):Option Bool:=
 (if(!(s_==[]))=true then
 (qrs s_ [48,49,50,51,52,53,54,55,56,57]).bind fun r2=>
 some (r2==[])
 else
 some false:Option Bool).bind fun b3=>
 some b3
theorem qet (s_:Str) {res:Bool} (h:qdd s_=some res):qj Tryz.prog (.fn 94) [.str s_] [] (.bool res) []:=by
 unfold qdd at h
 refine Goes.fnW Tryz.func94 rfl rfl (m:=10) rfl (rs:=[.tmp 2]) rfl (l:=(kAi s_ [])) rfl ?_
 refine sh fol (kAi s_ []) ?_
 refine sq ?_
 obtain⟨b3,g_v4,h⟩:=bnd h
 refine Goes.cut (s':=(ofG 10 [(2,.bool b3)],[])) ?_ ?_
 ·rcases wyB g_v4 with⟨c1,g_v4⟩|⟨c1,g_v4⟩
  ·obtain⟨r2,e_r2,g_v4⟩:=bnd g_v4
   obtain rfl:=si g_v4
   exact tr fol [2,4] [(2,.bool (r2==[]))] (ac (gw c1) (ac (cv (qvn s_ [48,49,50,51,52,53,54,55,56,57] e_r2)) az))
  ·obtain rfl:=si g_v4
   exact tr fol [2] kBa (ac (gw c1) az)
 refine Goes.ret ?_
 obtain rfl:=si h
 exact(gw2 [.bool b3] (FzW.still tB))
def qdO (s_:Str):Option (Int×Bool):=
 (if(s_.length:Int)>9 then
 some true
 else
 (qdd s_).bind fun r2=>
 if(!r2)=true then
 some true
 else
 (idx s_ 0).bind fun c4=>
 if(c4.toNat:Int)=48 then
 some (!(s_==[48]))
 else
 some false:Option Bool).bind fun b6=>
 if b6=true then
 some (0,false)
 else
 (qq2 s_).bind fun r9=>
 some (r9.1,true)
theorem ql4 (s_:Str) {res:Int×Bool} (h:qdO s_=some res):qj Tryz.prog (.fn 114) [.str s_] [] (.tuple [.i res.1,.bool res.2]) []:=by
 unfold qdO at h
 refine Goes.fnW Tryz.func114 rfl rfl (m:=31) rfl (rs:=[.tmp 2,.tmp 3]) rfl (l:=(kAi s_ [])) rfl ?_
 refine sh fol (kAi s_ []) ?_
 refine sq ?_
 refine sq ?_
 obtain⟨b6,g_v7,h⟩:=bnd h
 refine Goes.cut (s':=(ofG 31 (kAi s_ [(22,.bool b6)]),[])) ?_ ?_
 ·rcases wyD g_v7 with⟨c1,g_v7⟩|⟨c1,g_v7⟩
  ·obtain rfl:=si g_v7
   exact tr fol [3] (kAi s_ [(22,.bool true)]) (ac (gw c1) az)
  ·obtain⟨r2,e_r2,g_v7⟩:=bnd g_v7
   rcases wyB g_v7 with⟨c3,g_v7⟩|⟨c3,g_v7⟩
   ·obtain rfl:=si g_v7
    exact tr fol [3,5,8] (kAi s_ [(22,.bool true)]) (ac (gw c1) (ac (cv (qet s_ e_r2)) (ac (gw c3) az)))
   ·obtain⟨c4,e_c4,g_v7⟩:=bnd g_v7
    rcases wyD g_v7 with⟨c5,g_v7⟩|⟨c5,g_v7⟩
    ·obtain rfl:=si g_v7
     exact tr fol [3,5,8,10,12] (kAi s_ [(22,.bool (!(s_==[48])))]) (ac (gw c1) (ac (cv (qet s_ e_r2)) (ac (gw c3) (ac (hs (.done (.opt (qdM Tryz.prog 9 (.str s_) (.i 0))) (.int .u8 (c4.toNat:Int))) (qgT st9 e_c4)) (ac (gw c5) az)))))
    ·obtain rfl:=si g_v7
     exact tr fol [3,5,8,10,12] (kAi s_ [(22,.bool false)]) (ac (gw c1) (ac (cv (qet s_ e_r2)) (ac (gw c3) (ac (hs (.done (.opt (qdM Tryz.prog 9 (.str s_) (.i 0))) (.int .u8 (c4.toNat:Int))) (qgT st9 e_c4)) (ac (gw c5) az)))))
 refine ihB h (fun c8 h=>?_) (fun c8 h=>?_)
 ·refine sh fol ((2,.i 0)::kBQ) ?_
  refine Goes.ret ?_
  obtain rfl:=si h
  exact(gw2 [.i 0,.bool false] (FzW.tuple (qA.cons (FzW.still tI) (qA.cons (FzW.still tB) qA.nil))))
 ·refine Goes.skip ?_
  obtain⟨r9,e_r9,h⟩:=bnd h
  refine sq (gr fol [1] [(4,.i r9.1),(5,.niliface)] (ac (cv (qut s_ e_r9)) az) ?_)
  refine sh fol [(2,.i r9.1),(3,.bool true)] ?_
  refine Goes.ret ?_
  obtain rfl:=si h
  exact(gw2 (.i r9.1::kAx) (FzW.tuple (qA.cons (FzW.still tI) (qA.cons (FzW.still tB) qA.nil))))
def xI (s23:List Str):Nat→(List Int)→Int→Option ((List Int)⊕(qh×Bool))
 |0,_,_=>none
 |K+1,l24,n25=>
  if n25<(s23.length:Int)then
  (idx s23 n25).bind fun x30=>
  (qdO x30).bind fun r31=>
  if(!r31.2)=true then
  some (.inr ((⟨0,[],[],[],[]⟩:qh),false))
  else
  (app 8 l24 [r31.1]).bind fun l33=>
  xI s23 K l33 (w64 (n25+1))
  else
  some (.inl l24)
def qbH (N:Nat) (s_:Str):Option (qh×Bool):=
 (strings_Split N s_ [32]).bind fun r1=>
 ((xm).bind fun r2=>
 (idx r1 0).bind fun x3=>
 if(x3==[109,97,107,101])=true then
 some (2,3,true)
 else
 if(x3==[116,101,115,116])=true then
 some (1,2,true)
 else
 if(x3==[117,115,101])=true then
 some (1,2,true)
 else
 if(x3==[102,97,105,108])=true then
 some (1,1,true)
 else
 if(x3==[114,101,99,97,108,108])=true then
 some (1,1,true)
 else
 if(x3==[117,110,100,111])=true then
 some (0,0,true)
 else
 some (0,0,false):Option (Int×Int×Bool)).bind fun(n10,n11,b12)=>
 (if(!b12)=true then
 some true
 else
 if(!decide ((r1.length:Int)=(w64 ((w64 (1+n10))+n11))))=true then
 some true
 else
 (slices_Contains_string N r1 []).bind fun r16=>
 some r16:Option Bool).bind fun b17=>
 if b17=true then
 some ((⟨0,[],[],[],[]⟩:qh),false)
 else
 (idx r1 0).bind fun x20=>
 (cut r1 1 (w64 (1+n10))).bind fun s21=>
 (slices_Clone_string s21).bind fun r22=>
 (cut r1 (w64 (1+n10)) (r1.length:Int)).bind fun s23=>
 (xI s23 N ([]:List Int) 0).bind (fun
 |(.inl l26)=>
 some ((⟨0,x20,r22,l26,[]⟩:qh),true)
 |(.inr q34)=>
 some q34)
theorem qeo (N:Nat) (s_:Str) {res:qh×Bool} (h:qbH N s_=some res):qj Tryz.prog (.fn 70) [.str s_] [] (.tuple [.agg (cE res.1),.bool res.2]) []:=by
 unfold qbH at h
 refine Goes.fnW Tryz.func70 rfl rfl (m:=76) rfl (rs:=[.cell 2 40,.tmp 3]) rfl (l:=(kAi s_ [])) rfl ?_
 refine sg fol (kAi s_ (kAd [])) (kF []) ?_
 obtain⟨r1,e_r1,h⟩:=bnd h
 refine sq (gr fol [1] (kR r1 []) (ac (cv (qmY N s_ [32] e_r1)) az) ?_)
 refine sq ?_
 obtain⟨⟨n10,n11,b12⟩,g_v13,h⟩:=bnd h
 refine Goes.cutS (s':=(ofG 76 (kR r1 [(5,.ptr 1 0),(6,.bool b12)]),(kF (kBc n10 n11 [])))) ?_ ?_
 ·obtain⟨r2,e_r2,g_v13⟩:=bnd g_v13
  obtain⟨x3,e_x3,g_v13⟩:=bnd g_v13
  rcases wyB g_v13 with⟨c4,g_v13⟩|⟨c4,g_v13⟩
  ·simp only[Option.some.injEq,Prod.mk.injEq]at g_v13
   obtain⟨rfl,rfl,rfl⟩:=g_v13
   exact qW.sub (qW.rq fol [0,2,3,4] (kR r1 kAw) (kF [.cells [.i 2,.i 3,.func (.func 117) [] []]]) (ac (cv (zm e_r2)) (ac (iv qdk encS e_x3) (ac (lv 0 ce9 encS e_x3 rfl) (ac (hs (.done (vg Tryz.prog 140 (fm1) (.str x3) true) (.tuple (.agg [.i 2,.i 3,.func (.func 117) [] []]::kAx))) (qge qeW [[109,97,107,101],[116,101,115,116],[117,115,101],[102,97,105,108],[114,101,99,97,108,108],[117,110,100,111]] (qaR c4) rfl)) az))))) (Sub.norm [] [some 0,some 1] rfl rfl (.kp (.keep (.same (qp encS _)) (.kp (.keep (.same nB) .nil)))) (.kb rfl (.same sn) (.kb rfl (.cells (rc (.same nI) (rc (.same nI) (rc (.undef) rn)))) .nil)))
  ·rcases wyB g_v13 with⟨c5,g_v13⟩|⟨c5,g_v13⟩
   ·simp only[Option.some.injEq,Prod.mk.injEq]at g_v13
    obtain⟨rfl,rfl,rfl⟩:=g_v13
    exact qW.sub (qW.rq fol [0,2,3,4] (kR r1 kAw) (kF [.cells [.i 1,.i 2,.func (.func 118) [] []]]) (ac (cv (zm e_r2)) (ac (iv qdk encS e_x3) (ac (lv 0 ce9 encS e_x3 rfl) (ac (hs (.done (vg Tryz.prog 140 (fm1) (.str x3) true) (.tuple (.agg [.i 1,.i 2,.func (.func 118) [] []]::kAx))) (qge qeW [[109,97,107,101],[116,101,115,116],[117,115,101],[102,97,105,108],[114,101,99,97,108,108],[117,110,100,111]] (qx c4 (qaR c5)) rfl)) az))))) (Sub.norm [] [some 0,some 1] rfl rfl (.kp (.keep (.same (qp encS _)) (.kp (.keep (.same nB) .nil)))) (.kb rfl (.same sn) (.kb rfl (.cells (rc (.same nI) (rc (.same nI) (rc (.undef) rn)))) .nil)))
   ·rcases wyB g_v13 with⟨c6,g_v13⟩|⟨c6,g_v13⟩
    ·simp only[Option.some.injEq,Prod.mk.injEq]at g_v13
     obtain⟨rfl,rfl,rfl⟩:=g_v13
     exact qW.sub (qW.rq fol [0,2,3,4] (kR r1 kAw) (kF [.cells [.i 1,.i 2,.func (.func 119) [] []]]) (ac (cv (zm e_r2)) (ac (iv qdk encS e_x3) (ac (lv 0 ce9 encS e_x3 rfl) (ac (hs (.done (vg Tryz.prog 140 (fm1) (.str x3) true) (.tuple (.agg [.i 1,.i 2,.func (.func 119) [] []]::kAx))) (qge qeW [[109,97,107,101],[116,101,115,116],[117,115,101],[102,97,105,108],[114,101,99,97,108,108],[117,110,100,111]] (qx c4 (qx c5 (qaR c6))) rfl)) az))))) (Sub.norm [] [some 0,some 1] rfl rfl (.kp (.keep (.same (qp encS _)) (.kp (.keep (.same nB) .nil)))) (.kb rfl (.same sn) (.kb rfl (.cells (rc (.same nI) (rc (.same nI) (rc (.undef) rn)))) .nil)))
    ·rcases wyB g_v13 with⟨c7,g_v13⟩|⟨c7,g_v13⟩
     ·simp only[Option.some.injEq,Prod.mk.injEq]at g_v13
      obtain⟨rfl,rfl,rfl⟩:=g_v13
      exact qW.sub (qW.rq fol [0,2,3,4] (kR r1 kAw) (kF [.cells [.i 1,.i 1,.func (.func 120) [] []]]) (ac (cv (zm e_r2)) (ac (iv qdk encS e_x3) (ac (lv 0 ce9 encS e_x3 rfl) (ac (hs (.done (vg Tryz.prog 140 (fm1) (.str x3) true) (.tuple (.agg [.i 1,.i 1,.func (.func 120) [] []]::kAx))) (qge qeW [[109,97,107,101],[116,101,115,116],[117,115,101],[102,97,105,108],[114,101,99,97,108,108],[117,110,100,111]] (qx c4 (qx c5 (qx c6 (qaR c7)))) rfl)) az))))) (Sub.norm [] [some 0,some 1] rfl rfl (.kp (.keep (.same (qp encS _)) (.kp (.keep (.same nB) .nil)))) (.kb rfl (.same sn) (.kb rfl (.cells (rc (.same nI) (rc (.same nI) (rc (.undef) rn)))) .nil)))
     ·rcases wyB g_v13 with⟨c8,g_v13⟩|⟨c8,g_v13⟩
      ·simp only[Option.some.injEq,Prod.mk.injEq]at g_v13
       obtain⟨rfl,rfl,rfl⟩:=g_v13
       exact qW.sub (qW.rq fol [0,2,3,4] (kR r1 kAw) (kF [.cells [.i 1,.i 1,.func (.func 121) [] []]]) (ac (cv (zm e_r2)) (ac (iv qdk encS e_x3) (ac (lv 0 ce9 encS e_x3 rfl) (ac (hs (.done (vg Tryz.prog 140 (fm1) (.str x3) true) (.tuple (.agg [.i 1,.i 1,.func (.func 121) [] []]::kAx))) (qge qeW [[109,97,107,101],[116,101,115,116],[117,115,101],[102,97,105,108],[114,101,99,97,108,108],[117,110,100,111]] (qx c4 (qx c5 (qx c6 (qx c7 (qaR c8))))) rfl)) az))))) (Sub.norm [] [some 0,some 1] rfl rfl (.kp (.keep (.same (qp encS _)) (.kp (.keep (.same nB) .nil)))) (.kb rfl (.same sn) (.kb rfl (.cells (rc (.same nI) (rc (.same nI) (rc (.undef) rn)))) .nil)))
      ·rcases wyB g_v13 with⟨c9,g_v13⟩|⟨c9,g_v13⟩
       ·simp only[Option.some.injEq,Prod.mk.injEq]at g_v13
        obtain⟨rfl,rfl,rfl⟩:=g_v13
        exact qW.sub (qW.rq fol [0,2,3,4] (kR r1 kAw) (kF kBb) (ac (cv (zm e_r2)) (ac (iv qdk encS e_x3) (ac (lv 0 ce9 encS e_x3 rfl) (ac (hs (.done (vg Tryz.prog 140 (fm1) (.str x3) true) (.tuple (kBH kAx))) (qge qeW [[109,97,107,101],[116,101,115,116],[117,115,101],[102,97,105,108],[114,101,99,97,108,108],[117,110,100,111]] (qx c4 (qx c5 (qx c6 (qx c7 (qx c8 (qaR c9)))))) rfl)) az))))) (Sub.norm [] [some 0,some 1] rfl rfl (.kp (.keep (.same (qp encS _)) (.kp (.keep (.same nB) .nil)))) (.kb rfl (.same sn) (.kb rfl (.cells (rc (.same nI) (rc (.same nI) (rc (.undef) rn)))) .nil)))
       ·simp only[Option.some.injEq,Prod.mk.injEq]at g_v13
        obtain⟨rfl,rfl,rfl⟩:=g_v13
        exact qW.sub (qW.rq fol [0,2,3,4] (kR r1 [(5,.ptr 1 0),(6,.bool false)]) (kF kBb) (ac (cv (zm e_r2)) (ac (iv qdk encS e_x3) (ac (lv 0 ce9 encS e_x3 rfl) (ac (hs (.done (vg Tryz.prog 140 (fm1) (.str x3) true) (.tuple (kBH [.bool false]))) (qtk qeW [[109,97,107,101],[116,101,115,116],[117,115,101],[102,97,105,108],[114,101,99,97,108,108],[117,110,100,111]] (qx c4 (qx c5 (qx c6 (qx c7 (qx c8 (qx c9 (rfl))))))))) az))))) (Sub.norm [] [some 0,some 1] rfl rfl (.kp (.keep (.same (qp encS _)) (.kp (.keep (.same nB) .nil)))) (.kb rfl (.same sn) (.kb rfl (.cells (rc (.same nI) (rc (.same nI) (rc (.undef) rn)))) .nil)))
 intro _ hsub
 try dsimp only at h
 refine Goes.sub hsub ?_
 refine sq ?_
 refine sq ?_
 obtain⟨b17,g_v18,h⟩:=bnd h
 refine Goes.cutS (s':=(ofG 76 (kR r1 [(5,.ptr 1 0),(38,.bool b17)]),(kF (kBc n10 n11 [])))) ?_ ?_
 ·rcases wyB g_v18 with⟨c14,g_v18⟩|⟨c14,g_v18⟩
  ·obtain rfl:=si g_v18
   exact qW.sub (tr fol [2] (kR r1 [(5,.ptr 1 0),(38,.bool true)]) (ac (gw c14) az)) (Sub.refl _)
  ·rcases wyB g_v18 with⟨c15,g_v18⟩|⟨c15,g_v18⟩
   ·obtain rfl:=si g_v18
    exact qW.sub (tr fol [2,13] (kR r1 [(5,.ptr 1 0),(38,.bool true)]) (ac (gw c14) (ac (gw c15) az))) (Sub.refl _)
   ·obtain⟨r16,e_r16,g_v18⟩:=bnd g_v18
    obtain rfl:=si g_v18
    exact qW.sub (tr fol [2,13,15] (kR r1 [(5,.ptr 1 0),(38,.bool r16)]) (ac (gw c14) (ac (gw c15) (ac (cv (qhb N r1 [] e_r16)) az)))) (Sub.refl _)
 intro _ hsub
 refine Goes.sub hsub ?_
 refine ihB h (fun c19 h=>?_) (fun c19 h=>?_)
 ·refine sh fol (kAd kBQ) ?_
  refine Goes.ret ?_
  obtain rfl:=si h
  exact(gw2 kAV (FzW.tuple (qA.cons (FzW.agg (qA.cons (FzW.still tI) (qA.cons (FzW.still tS) (qA.cons (FzW.nilv (E:=encS)) (qA.cons (FzW.nilv (E:=encI)) (qA.cons (FzW.still tS) qA.nil)))))) (qA.cons (FzW.still tB) qA.nil))))
 ·refine Goes.skip ?_
  obtain⟨x20,e_x20,h⟩:=bnd h
  obtain⟨s21,e_s21,h⟩:=bnd h
  obtain⟨r22,e_r22,h⟩:=bnd h
  refine sq (gq fol [1,2,7,8] (kR r1 [(5,.ptr 1 0),(7,.ptr 2 0)]) (kF (kBc n10 n11 [.cells [.i 0,.str x20,vl encS r22,.nilslice,.str []]])) (ac (iv qdk encS e_x20) (ac (lv 0 ce9 encS e_x20 rfl) (ac (hs (.done (.opt (yf Tryz.prog 37 (vl encS r1) (some (.i 1)) (some (.i (w64 (1+n10)))) none)) (vl encS s21)) (qov qdk (E:=encS) rfl (some 1) (some (w64 (1+n10))) e_s21)) (ac (cv (qe6 s21 e_r22)) az)))) ?_)
  refine sq ?_
  obtain⟨s23,e_s23,h⟩:=bnd h
  refine sq (gr fol [4] (kAd [(7,.ptr 2 0),(54,vl encS s23),(55,.i (s23.length:Int)),(56,.i 0)]) (ac (hs (.done (.opt (yf Tryz.prog 37 (vl encS r1) (some (.i (w64 (1+n10)))) none none)) (vl encS s23)) (qov qdk (E:=encS) rfl (some (w64 (1+n10))) none e_s23)) az) ?_)
  refine Goes.block ?_
  obtain⟨r27,g27,h⟩:=bnd h
  refine Goes.imp (Q:=fun x s'=>(x= .exit 0∧ ∃l26,(.inl l26)=r27∧Sub s' (ofG 76 (kAd (kBV [])),(kF (kAT x20 r22 l26 (kAA l26)))))∨(x= .ret∧ ∃q28,(.inr q28)=r27∧jh Tryz.prog [.cell 2 40,.tmp 3] (.tuple [.agg (cE q28.1),.bool q28.2]) .ret s')) ?_ ?_
  ·refine Goes.sub (s':=(ofG 76 (kAd (kBV [(54,vl encS s23),(55,.i (s23.length:Int)),(56,.i 0)])),(kF [.cells [.i 0,.str x20,vl encS r22,.gslice 2 ([]:List Int).length 1,.str []],.cells (([]:List Int).flatMap encI.c)]))) (Sub.norm [] [some 0,some 2,none] rfl rfl (.kp (.kp (.keep (.same (qp encS _)) (.keep (.same nI) (.keep (.same nI) .nil))))) (.kb rfl (.same sn) (.kb rfl (.cells (rc (.same nI) (rc (.same nS) (rc (.same (qp encS _)) (rc (.nil) (rc (.same nS) rn)))))) (.fresh .nil)))) ?_
   refine Goes.loopS (fun M s=> ∃(l24:List Int) (n25:Int),s=(ofG 76 (kAd (kBV (kAz s23 (s23.length:Int) n25 []))),(kF (kAT x20 r22 l24 (kAA l24))))∧xI s23 M l24 n25=some r27) ?_ (m:=N) ⟨_,_,rfl,g27⟩
   rintro M s ⟨l24,n25,rfl,g27⟩
   cases M with
   |zero=>simp only[xI]at g27;cases g27
   |succ M=>
    rw[xI]at g27
    refine sh fol (kAd (kBV (kAz s23 (s23.length:Int) n25 [(57,.bool (decide (n25<(s23.length:Int))))]))) ?_
    refine sq ?_
    refine ihD g27 (fun c29 g27=>?_) (fun c29 g27=>?_)
    ·refine Goes.skip ?_
     refine sq (Goes.block ?_)
     obtain⟨x30,e_x30,g27⟩:=bnd g27
     refine sq (gr fol [0,1] (kAd (kBV ((9,.str x30)::(kAz s23 (s23.length:Int) n25 [])))) (ac (iv qdk encS e_x30) (ac (lv 0 ce9 encS e_x30 rfl) az)) ?_)
     obtain⟨r31,e_r31,g27⟩:=bnd g27
     refine sq (gr fol [1] (kAd (kBV ((10,.i r31.1)::(11,.bool r31.2)::(kAz s23 (s23.length:Int) n25 [])))) (ac (cv (ql4 x30 e_r31)) az) ?_)
     refine sq ?_
     refine sh fol (kAd (kBV ((10,.i r31.1)::(kAz s23 (s23.length:Int) n25 [(66,.bool (!r31.2))])))) ?_
     refine ihB g27 (fun c32 g27=>?_) (fun c32 g27=>?_)
     ·refine sh fol (kAd kBQ) ?_
      refine Goes.ret ?_
      obtain rfl:=si g27
      exact Or.inr (⟨rfl,_,rfl,(gw2 kAV (FzW.tuple (qA.cons (FzW.agg (qA.cons (FzW.still tI) (qA.cons (FzW.still tS) (qA.cons (FzW.nilv (E:=encS)) (qA.cons (FzW.nilv (E:=encI)) (qA.cons (FzW.still tS) qA.nil)))))) (qA.cons (FzW.still tB) qA.nil))))⟩)
     ·refine Goes.skip ?_
      obtain⟨l33,e_l33,g27⟩:=bnd g27
      refine gq fol [4] (kAd (kBV (kAz s23 (s23.length:Int) n25 []))) (kF (.cells [.i 0,.str x20,vl encS r22,.gslice 4 l33.length 1,.str []]:: .dead:: .cells [.i r31.1]::(kAA l33))) (ac (hs (.run [2,3] (jL Tryz.prog [38,38] (.gslice 2 l24.length 1) (.slice 3 0 1 1 1)) (kF (kAT x20 r22 l24 [.cells (l24.flatMap encI.c),.cells [.i r31.1]])) (.gslice 4 l33.length 1) (kF (kAT x20 r22 l24 (.dead:: .cells [.i r31.1]::(kAA l33)))) true) (qaF qfS (E:=encI) rfl (qfQ (E:=encI) (ys:=[r31.1]) rfl rfl rfl rfl) (qi1 (E:=encI) (l:=l24) rfl rfl rfl e_l33 rfl))) az) ?_
      refine gh fol (kAd (kBV (kAz s23 (s23.length:Int) (w64 (n25+1)) []))) ?_
      exact⟨M,(ofG 76 (kAd (kBV (kAz s23 (s23.length:Int) (w64 (n25+1)) []))),(kF (kAT x20 r22 l33 (kAA l33)))),Nat.lt_succ_self _,(Sub.norm [] [some 0,some 1,some 4] rfl rfl (.kp (.kp (.keep (.same (qp encS _)) (.keep (.same nI) (.keep (.same nI) .nil))))) (.kb rfl (.same sn) (.kb rfl (.cells (rc (.same nI) (rc (.same nS) (rc (.same (qp encS _)) (rc (.gslice rfl) (rc (.same nS) rn)))))) (.ks .nil)))),_,_,rfl,g27⟩
    ·refine Goes.exit ?_
     obtain rfl:=si g27
     exact Or.inl (⟨rfl,_,rfl,(Sub.keep [2,7] rfl rfl)⟩)
  rintro x s' (⟨rfl,l26,rfl,hsub⟩|⟨rfl,q34,rfl,hret⟩)
  ·try dsimp only at h
   refine Goes.sub hsub ?_
   refine sg fol (kAd [(3,.bool true)]) (kAT x20 r22 l26 (kAT x20 r22 l26 (kAA l26))) ?_
   refine Goes.ret ?_
   obtain rfl:=si h
   exact(gw2 (.agg [.i 0,.str x20,vl encS r22,.gslice 2 l26.length 1,.str []]::kAx) (FzW.tuple (qA.cons (FzW.agg (qA.cons (FzW.still tI) (qA.cons (FzW.still tS) (qA.cons (FzW.still (qdE encS _ (nl rfl))) (qA.cons (FzW.fz (Fz.gs (E:=encI) rfl rfl (nl rfl))) (qA.cons (FzW.still tS) qA.nil)))))) (qA.cons (FzW.still tB) qA.nil))))
  ·try dsimp only at h
   obtain rfl:=si h
   exact hret
def qcg (c:Int):Option Bool:=
 (if c≥97 then
 if c≤122 then
 some true
 else
 if c≥65 then
 some (decide (c≤90))
 else
 some false
 else
 if c≥65 then
 some (decide (c≤90))
 else
 some false:Option Bool).bind fun b5=>
 some b5
theorem qbS (c:Int) {res:Bool} (h:qcg c=some res):qj Tryz.prog (.fn 207) [.int .i32 c] [] (.bool res) []:=by
 unfold qcg at h
 refine Goes.fnW Tryz.func207 rfl rfl (m:=17) rfl (rs:=[.tmp 2]) rfl (l:=[(0,.int .i32 c)]) rfl ?_
 refine sh fol [(0,.int .i32 c)] ?_
 refine sq ?_
 obtain⟨b5,g_v6,h⟩:=bnd h
 refine Goes.cut (s':=(ofG 17 [(2,.bool b5)],[])) ?_ ?_
 ·rcases wyD g_v6 with⟨c1,g_v6⟩|⟨c1,g_v6⟩
  ·rcases wyD g_v6 with⟨c2,g_v6⟩|⟨c2,g_v6⟩
   ·obtain rfl:=si g_v6
    exact tr fol [2,6] [(2,.bool true)] (ac (gw c1) (ac (gw c2) az))
   ·rcases wyD g_v6 with⟨c3,g_v6⟩|⟨c3,g_v6⟩
    ·obtain rfl:=si g_v6
     exact tr fol [2,6,9] [(2,.bool (decide (c≤90)))] (ac (gw c1) (ac (gw c2) (ac (gw c3) az)))
    ·obtain rfl:=si g_v6
     exact tr fol [2,6,9] kBa (ac (gw c1) (ac (gw c2) (ac (gw c3) az)))
  ·rcases wyD g_v6 with⟨c4,g_v6⟩|⟨c4,g_v6⟩
   ·obtain rfl:=si g_v6
    exact tr fol [2,9] [(2,.bool (decide (c≤90)))] (ac (gw c1) (ac (gw c4) az))
   ·obtain rfl:=si g_v6
    exact tr fol [2,9] kBa (ac (gw c1) (ac (gw c4) az))
 refine Goes.ret ?_
 obtain rfl:=si h
 exact(gw2 [.bool b5] (FzW.still tB))
end Go.Av
end
noncomputable section
namespace Go.Av
open Go.Proofs Go.RowKit
set_option linter.unusedSectionVars false
set_option linter.unusedVariables false
set_option linter.unusedSimpArgs false
set_option maxRecDepth 100000
def qbi (s_:Str):Nat→Nat→Option (Unit⊕Bool)
 |0,_=>none
 |K+1,k1=>
  if k1<s_.length then
  ((qcg (qbR s_ k1)).bind fun r5=>
  if(!r5)=true then
  if(k1:Int)=0 then
  some true
  else
  if(!decide ((qbR s_ k1)=95))=true then
  if(qbR s_ k1)<48 then
  some true
  else
  some (decide ((qbR s_ k1)>57))
  else
  some false
  else
  some false:Option Bool).bind fun b10=>
  if b10=true then
  some (.inr false)
  else
  qbi s_ K (k1+runeLen s_ k1)
  else
  some (.inl ())
def qea (N:Nat) (s_:Str):Option Bool:=
 (qbi s_ N 0).bind (fun
 |(.inl ())=>
 (if(!(s_==[]))=true then
 some (decide ((s_.length:Int)≤24))
 else
 some false:Option Bool).bind fun b14=>
 some b14
 |(.inr q16)=>
 some q16)
theorem qm8 (N:Nat) (s_:Str) {res:Bool} (h:qea N s_=some res):qj Tryz.prog (.fn 144) [.str s_] [] (.bool res) []:=by
 unfold qea at h
 refine Goes.fnW Tryz.func144 rfl rfl (m:=37) rfl (rs:=[.tmp 2]) rfl (l:=(kAi s_ [])) rfl ?_
 refine sh fol (kAi s_ []) ?_
 refine sq ?_
 refine sg fol (kAi s_ (kBi [])) [.iter s_ 0] ?_
 refine Goes.block ?_
 obtain⟨r2,g2,h⟩:=bnd h
 refine Goes.imp (Q:=fun x s'=>(x= .exit 0∧(.inl ())=r2∧Sub s' (ofG 37 (kAi s_ []),[]))∨(x= .ret∧ ∃q3,(.inr q3)=r2∧jh Tryz.prog [.tmp 2] (.bool q3) .ret s')) ?_ ?_
 ·refine Goes.sub (s':=(ofG 37 (kAi s_ (kBi [])),[.iter s_ 0])) (Sub.keep [0,6] rfl rfl) ?_
  refine Goes.loopS (fun M s=> ∃(k1:Nat),s=(ofG 37 (kAi s_ (kBi [])),[.iter s_ k1])∧qbi s_ M k1=some r2) ?_ (m:=N) ⟨_,rfl,g2⟩
  rintro M s ⟨k1,rfl,g2⟩
  cases M with
  |zero=>simp only[qbi]at g2;cases g2
  |succ M=>
   rw[qbi]at g2
   refine sq ?_
   rcases Classical.em (k1<s_.length)with c4|c4
   ·rw[if_pos c4]at g2
    refine gq fol [0] (kAi s_ (kBi [(7,.tuple [.bool true,.i (k1:Int),.int .i32 (qbR s_ k1)]),(8,.bool true)])) [.iter s_ (k1+runeLen s_ k1)] (ac (hs (.run [0] (qjk (.ptr 0 0) true) [.iter s_ k1] (.tuple [.bool true,.i (k1:Int),.int .i32 (qbR s_ k1)]) [.iter s_ (k1+runeLen s_ k1)] true) (qqb rfl c4 rfl)) az) ?_
    refine sq ?_
    refine Goes.ifB (b:=true) (by kernel_rfl) (fun _=>?_) (fun c=>(by cases c))
    refine Goes.skip ?_
    refine Goes.block ?_
    refine sh fol (kAi s_ ((3,.i (k1:Int))::(4,.int .i32 (qbR s_ k1))::(kBi []))) ?_
    refine sq ?_
    obtain⟨b10,g_v11,g2⟩:=bnd g2
    refine Goes.cut (s':=(ofG 37 (kAi s_ (kBi [(29,.bool b10)])),[.iter s_ (k1+runeLen s_ k1)])) ?_ ?_
    ·obtain⟨r5,e_r5,g_v11⟩:=bnd g_v11
     rcases wyB g_v11 with⟨c6,g_v11⟩|⟨c6,g_v11⟩
     ·rcases wyD g_v11 with⟨c7,g_v11⟩|⟨c7,g_v11⟩
      ·obtain rfl:=si g_v11
       exact tr fol [1,3,6] (kAi s_ (kBi [(29,.bool true)])) (ac (cv (qbS (qbR s_ k1) e_r5)) (ac (gw c6) (ac (gw c7) az)))
      ·rcases wyB g_v11 with⟨c8,g_v11⟩|⟨c8,g_v11⟩
       ·rcases wyD g_v11 with⟨c9,g_v11⟩|⟨c9,g_v11⟩
        ·obtain rfl:=si g_v11
         exact tr fol [1,3,6,9,12] (kAi s_ (kBi [(29,.bool true)])) (ac (cv (qbS (qbR s_ k1) e_r5)) (ac (gw c6) (ac (gw c7) (ac (gw c8) (ac (gw c9) az)))))
        ·obtain rfl:=si g_v11
         exact tr fol [1,3,6,9,12] (kAi s_ (kBi [(29,.bool (decide ((qbR s_ k1)>57)))])) (ac (cv (qbS (qbR s_ k1) e_r5)) (ac (gw c6) (ac (gw c7) (ac (gw c8) (ac (gw c9) az)))))
       ·obtain rfl:=si g_v11
        exact tr fol [1,3,6,9] (kAi s_ (kBi [(29,.bool false)])) (ac (cv (qbS (qbR s_ k1) e_r5)) (ac (gw c6) (ac (gw c7) (ac (gw c8) az))))
     ·obtain rfl:=si g_v11
      exact tr fol [1,3] (kAi s_ (kBi [(29,.bool false)])) (ac (cv (qbS (qbR s_ k1) e_r5)) (ac (gw c6) az))
    refine ihB g2 (fun c12 g2=>?_) (fun c12 g2=>?_)
    ·refine sh fol kBa ?_
     refine Goes.ret ?_
     obtain rfl:=si g2
     exact Or.inr (⟨rfl,_,rfl,(gw2 [.bool false] (FzW.still tB))⟩)
    ·refine Goes.skip ?_
     exact⟨M,(ofG 37 (kAi s_ (kBi [])),[.iter s_ (k1+runeLen s_ k1)]),Nat.lt_succ_self _,(Sub.keep [0,6] rfl rfl),_,rfl,g2⟩
   ·rw[if_neg c4]at g2
    refine gr fol [0] (kAi s_ (kBi [(7,.tuple [.bool false]),(8,.bool false)])) (ac (hs (.run [0] (qjk (.ptr 0 0) true) [.iter s_ k1] (.tuple [.bool false]) [.iter s_ k1] false) (qpQ rfl c4)) az) ?_
    refine sq ?_
    refine Goes.ifB (b:=false) (by kernel_rfl) (fun c=>(by cases c)) (fun _=>?_)
    refine Goes.exit ?_
    obtain rfl:=si g2
    exact Or.inl (⟨rfl,rfl,(Sub.norm [] [] rfl rfl (.keep (.same nS) .nil) .nil)⟩)
 rintro x s' (⟨rfl,rfl,hsub⟩|⟨rfl,q16,rfl,hret⟩)
 ·try dsimp only at h
  refine Goes.sub hsub ?_
  refine sq ?_
  obtain⟨b14,g_v15,h⟩:=bnd h
  refine Goes.cut (s':=(ofG 37 [(2,.bool b14)],[])) ?_ ?_
  ·rcases wyB g_v15 with⟨c13,g_v15⟩|⟨c13,g_v15⟩
   ·obtain rfl:=si g_v15
    exact tr fol [2] [(2,.bool (decide ((s_.length:Int)≤24)))] (ac (gw c13) az)
   ·obtain rfl:=si g_v15
    exact tr fol [2] kBa (ac (gw c13) az)
  refine Goes.ret ?_
  obtain rfl:=si h
  exact(gw2 [.bool b14] (FzW.still tB))
 ·try dsimp only at h
  obtain rfl:=si h
  exact hret
def qcn (N:Nat) (s_:Str):Option Int:=
 (qea N s_).bind fun r1=>
 (za (!r1) 8).bind fun r2=>
 some r2
theorem qdc (N:Nat) (s_:Str) {res:Int} (h:qcn N s_=some res):qj Tryz.prog (.fn 98) [.str s_] [] (.i res) []:=by
 unfold qcn at h
 refine Goes.fnW Tryz.func98 rfl rfl (m:=7) rfl (rs:=[.tmp 2]) rfl (l:=(kAi s_ [])) rfl ?_
 refine sh fol (kAi s_ []) ?_
 obtain⟨r1,e_r1,h⟩:=bnd h
 obtain⟨r2,e_r2,h⟩:=bnd h
 refine sq (gr fol [1,3] [(2,.i r2)] (ac (cv (qm8 N s_ e_r1)) (ac (cv (kr (!r1) 8 e_r2)) az)) ?_)
 refine Goes.ret ?_
 obtain rfl:=si h
 exact(gw2 [.i r2] (FzW.still tI))
def qcS (N:Nat) (n:qf):Option Int:=
 (qbH N n.Line).bind fun r1=>
 ((qcn N n.Desk).bind fun r2=>
 (vY n.Number 1 1000).bind fun r3=>
 (vY n.Clock 1 1000000).bind fun r4=>
 if(!r1.2)=true then
 (za true 25).bind fun r6=>
 (kz N ([r2,r3,r4,r6]:List Int)).bind fun r7=>
 some (r2,r3,r4,r6,r7)
 else
 (za (r1.1.Kind==[117,110,100,111]) 25).bind fun r8=>
 (kz N ([r2,r3,r4,r8]:List Int)).bind fun r9=>
 some (r2,r3,r4,r8,r9):Option (Int×Int×Int×Int×Int)).bind fun(n10,n11,n12,n13,n14)=>
 some n14
theorem qkA (N:Nat) (n:qf) {res:Int} (h:qcS N n=some res):qj Tryz.prog (.fn 106) [.agg (kAf n.Desk n.Number n.Clock n.Line)] [] (.i res) []:=by
 unfold qcS at h
 refine Goes.fnW Tryz.func106 rfl rfl (m:=30) rfl (rs:=[.tmp 2]) rfl (l:=(kBh n.Desk n.Number n.Clock n.Line [])) rfl ?_
 refine sg fol (kAR []) (kE n.Desk n.Number n.Clock n.Line []) ?_
 obtain⟨r1,e_r1,h⟩:=bnd h
 refine sq (gq fol [2] (kAR (kA2 [(4,.bool r1.2)])) (kE n.Desk n.Number n.Clock n.Line (kAy r1.1 [])) (ac (cv (qeo N n.Line e_r1)) az) ?_)
 refine sq ?_
 obtain⟨⟨n10,n11,n12,n13,n14⟩,g_v15,h⟩:=bnd h
 refine Goes.cut (s':=(ofG 30 [(2,.i n14)],(kE n.Desk n.Number n.Clock n.Line (kAy r1.1 [.cells [.i n10,.i n11,.i n12,.i n13]])))) ?_ ?_
 ·obtain⟨r2,e_r2,g_v15⟩:=bnd g_v15
  obtain⟨r3,e_r3,g_v15⟩:=bnd g_v15
  obtain⟨r4,e_r4,g_v15⟩:=bnd g_v15
  rcases wyB g_v15 with⟨c5,g_v15⟩|⟨c5,g_v15⟩
  ·obtain⟨r6,e_r6,g_v15⟩:=bnd g_v15
   obtain⟨r7,e_r7,g_v15⟩:=bnd g_v15
   simp only[Option.some.injEq,Prod.mk.injEq]at g_v15
   obtain⟨rfl,rfl,rfl,rfl,rfl⟩:=g_v15
   exact qW.rq fol [2,5,8,11,16,18] [(2,.i r7)] (kE n.Desk n.Number n.Clock n.Line (kAy r1.1 [.cells [.i r2,.i r3,.i r4,.i r6]])) (ac (cv (qdc N n.Desk e_r2)) (ac (cv (jE n.Number 1 1000 e_r3)) (ac (cv (jE n.Clock 1 1000000 e_r4)) (ac (gw c5) (ac (cv (kr true 25 e_r6)) (ac (hs (.call 37 [.slice 2 0 4 4 1] (kE n.Desk n.Number n.Clock n.Line (kAy r1.1 [.cells [.i r2,.i r3,.i r4,.i r6]])) [2] [vl encI ([r2,r3,r4,r6]:List Int)] (.i r7)) (qbz (FzL.cons (Fz.lit rfl rfl (FzL.still (AllST.cons tI (AllST.cons tI (AllST.cons tI (AllST.cons tI AllST.nil)))))) FzL.nil) (zA N ([r2,r3,r4,r6]:List Int) e_r7) tI rfl)) az))))))
  ·obtain⟨r8,e_r8,g_v15⟩:=bnd g_v15
   obtain⟨r9,e_r9,g_v15⟩:=bnd g_v15
   simp only[Option.some.injEq,Prod.mk.injEq]at g_v15
   obtain⟨rfl,rfl,rfl,rfl,rfl⟩:=g_v15
   exact qW.rq fol [2,5,8,11,16,18] [(2,.i r9)] (kE n.Desk n.Number n.Clock n.Line (kAy r1.1 [.cells [.i r2,.i r3,.i r4,.i r8]])) (ac (cv (qdc N n.Desk e_r2)) (ac (cv (jE n.Number 1 1000 e_r3)) (ac (cv (jE n.Clock 1 1000000 e_r4)) (ac (gw c5) (ac (cv (kr (r1.1.Kind==[117,110,100,111]) 25 e_r8)) (ac (hs (.call 37 [.slice 2 0 4 4 1] (kE n.Desk n.Number n.Clock n.Line (kAy r1.1 [.cells [.i r2,.i r3,.i r4,.i r8]])) [2] [vl encI ([r2,r3,r4,r8]:List Int)] (.i r9)) (qbz (FzL.cons (Fz.lit rfl rfl (FzL.still (AllST.cons tI (AllST.cons tI (AllST.cons tI (AllST.cons tI AllST.nil)))))) FzL.nil) (zA N ([r2,r3,r4,r8]:List Int) e_r9) tI rfl)) az))))))
 try dsimp only at h
 refine Goes.ret ?_
 obtain rfl:=si h
 exact(gw2 [.i n14] (FzW.still tI))
def vB (N:Nat) (l:List qf):Nat→Int→Option (Unit⊕Int)
 |0,_=>none
 |K+1,n2=>
  if n2<(l.length:Int)then
  (idx l n2).bind fun x6=>
  (if n2>0 then
  (idx l (w64 (n2-1))).bind fun x8=>
  (zO x8).bind fun r9=>
  (zO x6).bind fun r10=>
  (qap N r9 r10).bind fun r11=>
  if r11≥0 then
  some true
  else
  if(x8.Desk==x6.Desk)=true then
  some (decide (x8.Clock≥x6.Clock))
  else
  some false
  else
  some false:Option Bool).bind fun b14=>
  (qcS N x6).bind fun r16=>
  (za b14 11).bind fun r17=>
  (kz N ([r16,r17]:List Int)).bind fun r18=>
  if(!decide (r18=0))=true then
  some (.inr r18)
  else
  vB N l K (w64 (n2+1))
  else
  some (.inl ())
def zC (N:Nat) (l:List qf):Option Int:=
 if(l.length:Int)>1000 then
 some 5
 else
 (vB N l N 0).bind (fun
 |(.inl ())=>
 some 0
 |(.inr q20)=>
 some q20)
theorem jl (N:Nat) (l:List qf) {res:Int} (h:zC N l=some res):qj Tryz.prog (.fn 55) [vl qa l] [] (.i res) []:=by
 unfold zC at h
 refine Goes.fnW Tryz.func55 rfl rfl (m:=63) rfl (rs:=[.tmp 2]) rfl (l:=(kD l [])) rfl ?_
 refine sh fol (kD l []) ?_
 refine sq ?_
 refine sh fol (kD l [(9,.bool (decide ((l.length:Int)>1000)))]) ?_
 refine ihD h (fun c1 h=>?_) (fun c1 h=>?_)
 ·refine sh fol [(2,.i 5)] ?_
  refine Goes.ret ?_
  obtain rfl:=si h
  exact(gw2 [.i 5] (FzW.still tI))
 ·refine Goes.skip ?_
  refine sq ?_
  refine sh fol (kD l [(10,vl qa l),(11,.i (l.length:Int)),(12,.i 0)]) ?_
  refine Goes.block ?_
  obtain⟨r3,g3,h⟩:=bnd h
  refine Goes.imp (Q:=fun x s'=>(x= .exit 0∧(.inl ())=r3∧Sub s' (ofG 63 [],[]))∨(x= .ret∧ ∃q4,(.inr q4)=r3∧jh Tryz.prog [.tmp 2] (.i q4) .ret s')) ?_ ?_
  ·refine Goes.loopS (fun M s=> ∃(n2:Int),s=(ofG 63 (kD l (kV l (l.length:Int) n2 [])),[])∧vB N l M n2=some r3) ?_ (m:=N) ⟨_,rfl,g3⟩
   rintro M s ⟨n2,rfl,g3⟩
   cases M with
   |zero=>simp only[vB]at g3;cases g3
   |succ M=>
    rw[vB]at g3
    refine sh fol (kD l (kV l (l.length:Int) n2 [(13,.bool (decide (n2<(l.length:Int))))])) ?_
    refine sq ?_
    refine ihD g3 (fun c5 g3=>?_) (fun c5 g3=>?_)
    ·refine Goes.skip ?_
     refine sq (Goes.block ?_)
     obtain⟨x6,e_x6,g3⟩:=bnd g3
     refine sq (gq fol [1,2] (kD l (kAn n2 (kV l (l.length:Int) n2 []))) (kE x6.Desk x6.Number x6.Clock x6.Line []) (ac (iv qdD qa e_x6) (ac (la qeK qa e_x6) az)) ?_)
     refine sq ?_
     obtain⟨b14,g_v15,g3⟩:=bnd g3
     refine Goes.cut (s':=(ofG 63 (kD l (kBU ((5,.bool b14)::(kV l (l.length:Int) n2 [])))),(kE x6.Desk x6.Number x6.Clock x6.Line []))) ?_ ?_
     ·rcases wyD g_v15 with⟨c7,g_v15⟩|⟨c7,g_v15⟩
      ·obtain⟨x8,e_x8,g_v15⟩:=bnd g_v15
       obtain⟨r9,e_r9,g_v15⟩:=bnd g_v15
       obtain⟨r10,e_r10,g_v15⟩:=bnd g_v15
       obtain⟨r11,e_r11,g_v15⟩:=bnd g_v15
       rcases wyD g_v15 with⟨c12,g_v15⟩|⟨c12,g_v15⟩
       ·obtain rfl:=si g_v15
        exact tr fol [2,6,7,8,10,11,13] (kD l (kBU ((5,.bool true)::(kV l (l.length:Int) n2 [])))) (ac (gw c7) (ac (iv qdD qa e_x8) (ac (la qeK qa e_x8) (ac (cv (j4 x8 e_r9)) (ac (cv (j4 x6 e_r10)) (ac (cv (qcX N r9 r10 e_r11)) (ac (gw c12) az)))))))
       ·rcases wyB g_v15 with⟨c13,g_v15⟩|⟨c13,g_v15⟩
        ·obtain rfl:=si g_v15
         exact tr fol [2,6,7,8,10,11,13,17,19,23,27,29] (kD l (kBU ((5,.bool (decide (x8.Clock≥x6.Clock)))::(kV l (l.length:Int) n2 [])))) (ac (gw c7) (ac (iv qdD qa e_x8) (ac (la qeK qa e_x8) (ac (cv (j4 x8 e_r9)) (ac (cv (j4 x6 e_r10)) (ac (cv (qcX N r9 r10 e_r11)) (ac (gw c12) (ac (iv qdD qa e_x8) (ac (lv 0 ce9 qa e_x8 rfl) (ac (gw c13) (ac (iv qdD qa e_x8) (ac (lv 2 ce3 qa e_x8 rfl) az))))))))))))
        ·obtain rfl:=si g_v15
         exact tr fol [2,6,7,8,10,11,13,17,19,23] (kD l (kBU ((5,.bool false)::(kV l (l.length:Int) n2 [])))) (ac (gw c7) (ac (iv qdD qa e_x8) (ac (la qeK qa e_x8) (ac (cv (j4 x8 e_r9)) (ac (cv (j4 x6 e_r10)) (ac (cv (qcX N r9 r10 e_r11)) (ac (gw c12) (ac (iv qdD qa e_x8) (ac (lv 0 ce9 qa e_x8 rfl) (ac (gw c13) az))))))))))
      ·obtain rfl:=si g_v15
       exact tr fol [2] (kD l (kBU ((5,.bool false)::(kV l (l.length:Int) n2 [])))) (ac (gw c7) az)
     obtain⟨r16,e_r16,g3⟩:=bnd g3
     obtain⟨r17,e_r17,g3⟩:=bnd g3
     obtain⟨r18,e_r18,g3⟩:=bnd g3
     refine sq (gq fol [1,3,5] (kD l ((6,.i r18)::(kV l (l.length:Int) n2 []))) (kE x6.Desk x6.Number x6.Clock x6.Line (kY r16 r17)) (ac (cv (qkA N x6 e_r16)) (ac (cv (kr b14 11 e_r17)) (ac (hs (.call 37 [.slice 1 0 2 2 1] (kE x6.Desk x6.Number x6.Clock x6.Line (kY r16 r17)) [1] [vl encI ([r16,r17]:List Int)] (.i r18)) (qbz (FzL.cons (Fz.lit rfl rfl (FzL.still (AllST.cons tI (AllST.cons tI AllST.nil)))) FzL.nil) (zA N ([r16,r17]:List Int) e_r18) tI rfl)) az))) ?_)
     refine sh fol (kD l ((6,.i r18)::(kV l (l.length:Int) n2 [(60,.bool (!decide (r18=0)))]))) ?_
     refine ihB g3 (fun c19 g3=>?_) (fun c19 g3=>?_)
     ·refine sh fol [(2,.i r18)] ?_
      refine Goes.ret ?_
      obtain rfl:=si g3
      exact Or.inr (⟨rfl,_,rfl,(gw2 [.i r18] (FzW.still tI))⟩)
     ·refine Goes.skip ?_
      refine gh fol (kD l (kV l (l.length:Int) (w64 (n2+1)) [])) ?_
      exact⟨M,(ofG 63 (kD l (kV l (l.length:Int) (w64 (n2+1)) [])),[]),Nat.lt_succ_self _,(Sub.norm [] [] rfl rfl (.keep (.same (qp qa _)) (.keep (.same (qp qa _)) (.keep (.same nI) (.keep (.same nI) .nil)))) .nil),_,rfl,g3⟩
    ·refine Goes.exit ?_
     obtain rfl:=si g3
     exact Or.inl (⟨rfl,rfl,(Sub.keep [] rfl rfl)⟩)
  rintro x s' (⟨rfl,rfl,hsub⟩|⟨rfl,q20,rfl,hret⟩)
  ·try dsimp only at h
   refine Goes.sub hsub ?_
   refine sh fol [(2,.i 0)] ?_
   refine Goes.ret ?_
   obtain rfl:=si h
   exact(gw2 [.i 0] (FzW.still tI))
  ·try dsimp only at h
   obtain rfl:=si h
   exact hret
def qcu:Option (List qf):=
 qlP (some []) ((app 48 ([]:List qf) ([]:List qf)).bind fun l1=>
 some l1)
theorem qiq {res:List qf} (h:qcu=some res):qj Tryz.prog (.fn 56) [vl qa ([]:List qf)] [] (vl qa res) []:=by
 unfold qcu at h
 refine Goes.fnW Tryz.func56 rfl rfl (m:=8) rfl (rs:=[.tmp 2]) rfl (l:=(kS [])) rfl ?_
 refine sh fol (kS []) ?_
 refine sq ?_
 refine sh fol (kS [(4,.anyb)]) ?_
 refine Goes.condAny (by kernel_rfl) ?_ ?_
 ·replace h:=(qfq h).1
  refine sh fol [(2,.nilslice)] ?_
  refine Goes.ret ?_
  obtain rfl:=si h
  exact(gw2 [.nilslice] (FzW.nilv (E:=qa)))
 ·replace h:=(qfq h).2
  refine Goes.skip ?_
  obtain⟨l1,e_l1,h⟩:=bnd h
  refine sq (gq fol [2] [(2,.oslice 1 l1.length 4)] (.dead::(kC l1 [])) (ac (hs (.run [0] (jL Tryz.prog [54,54] (.slice 0 0 0 0 4) (vl qa ([]:List qf))) [.cells []] (.oslice 1 l1.length 4) (.dead::(kC l1 [])) true) (qaF qdD (E:=qa) rfl (qkM (E:=qa) rfl _) (qnD (E:=qa) rfl rfl rfl e_l1 rfl))) az) ?_)
  refine Goes.ret ?_
  obtain rfl:=si h
  exact(gw2 [.oslice 1 l1.length 4] (FzW.fz (Fz.os (E:=qa) rfl rfl (nl rfl))))
def qd6 (hd:qf) (tl:List qf):Option (List qf):=
 (app 48 ([]:List qf) (hd::tl)).bind fun l1=>
 some l1
theorem qiT (hd:qf) (tl:List qf) {res:List qf} (h:qd6 hd tl=some res):qj Tryz.prog (.fn 56) [vl qa (hd::tl)] [] (vl qa res) []:=by
 unfold qd6 at h
 refine Goes.fnW Tryz.func56 rfl rfl (m:=8) rfl (rs:=[.tmp 2]) rfl (l:=(kD (hd::tl) [])) rfl ?_
 refine sh fol (kD (hd::tl) []) ?_
 refine sq ?_
 refine sh fol (kD (hd::tl) kAK) ?_
 refine Goes.ifB (b:=false) (by kernel_rfl) (fun c=>(by cases c)) (fun _=>?_)
 refine Goes.skip ?_
 obtain⟨l1,e_l1,h⟩:=bnd h
 refine sq (gq fol [2] [(2,.oslice 1 l1.length 4)] (.dead::(kC l1 [])) (ac (hs (.run [0] (jL Tryz.prog [54,54] (.slice 0 0 0 0 4) (vl qa (hd::tl))) [.cells []] (.oslice 1 l1.length 4) (.dead::(kC l1 [])) true) (qaF qdD (E:=qa) rfl (qkM (E:=qa) rfl _) (qnD (E:=qa) rfl rfl rfl e_l1 rfl))) az) ?_)
 refine Goes.ret ?_
 obtain rfl:=si h
 exact(gw2 [.oslice 1 l1.length 4] (FzW.fz (Fz.os (E:=qa) rfl rfl (nl rfl))))
def qdm:(List qf)→Option (List qf)
 |[]=>qcu
 |hd::tl=>qd6 hd tl
theorem qj5 (l:List qf) {res:List qf} (h:qdm l=some res):qj Tryz.prog (.fn 56) [vl qa l] [] (vl qa res) []:=by
 cases l with
 |nil=>exact qiq h
 |cons hd tl=>exact qiT hd tl h
def qtQ (N:Nat) (n:qf) (o:qf):Option Int:=
 (zO n).bind fun r1=>
 (zO o).bind fun r2=>
 (qap N r1 r2).bind fun r3=>
 some r3
def qcy (a0_:qf) (a1_:Str) (a2_:Int) (a3_:Int) (a4_:Str):Option Bool:=
 (zO a0_).bind fun r1=>
 (zO (⟨a1_,a2_,a3_,a4_⟩:qf)).bind fun r2=>
 some ((r1.Desk==r2.Desk)&&(decide (r1.Number=r2.Number)&&true))
theorem qiV (a0_:qf) (a1_:Str) (a2_:Int) (a3_:Int) (a4_:Str) {res:Bool} (h:qcy a0_ a1_ a2_ a3_ a4_=some res):qj Tryz.prog (.fn 58) (kBd a0_.Desk a0_.Number a0_.Clock a0_.Line [.fptr [.str a1_,.i a2_,.i a3_,.str a4_] 0]) [] (.bool res) []:=by
 unfold qcy at h
 refine Goes.fnW Tryz.func58 rfl rfl (m:=9) rfl (rs:=[.tmp 3]) rfl (l:=(kBh a0_.Desk a0_.Number a0_.Clock a0_.Line [(1,.fptr [.str a1_,.i a2_,.i a3_,.str a4_] 0)])) rfl ?_
 refine sg fol ((1,.fptr [.str a1_,.i a2_,.i a3_,.str a4_] 0)::(kAd [])) (kE a0_.Desk a0_.Number a0_.Clock a0_.Line []) ?_
 obtain⟨r1,e_r1,h⟩:=bnd h
 obtain⟨r2,e_r2,h⟩:=bnd h
 refine sq (gr fol [1,3,4] [(3,.bool ((r1.Desk==r2.Desk)&&(decide (r1.Number=r2.Number)&&true)))] (ac (cv (j4 a0_ e_r1)) (ac (cv (j4 (⟨a1_,a2_,a3_,a4_⟩:qf) e_r2)) (ac (hs (.done (.opt (qiI Tryz.prog .eql 67 (.tmp 5) (.tmp 7) (.agg [.str r1.Desk,.i r1.Number]) (.agg [.str r2.Desk,.i r2.Number]))) (.bool ((r1.Desk==r2.Desk)&&(decide (r1.Number=r2.Number)&&true)))) (eq_ag eqt67 (e:=((r1.Desk==r2.Desk)&&(decide (r1.Number=r2.Number)&&true))) (.cons (a:= .str r1.Desk) (b:= .str r2.Desk) rfl (by kernel_rfl) (by kernel_rfl) (by kernel_rfl) (.cons (a:= .i r1.Number) (b:= .i r2.Number) rfl (by kernel_rfl) (by kernel_rfl) (by kernel_rfl) .nil)))) az))) ?_)
 refine Goes.ret ?_
 obtain rfl:=si h
 exact(gw2 [.bool ((r1.Desk==r2.Desk)&&(decide (r1.Number=r2.Number)&&true))] (FzW.still tB))
def zL (a0_:List qf) (a1_:Str) (a2_:Int) (a3_:Int) (a4_:Str):Nat→Int→Option (Unit⊕Int)
 |0,_=>none
 |K+1,n1=>
  if n1<(a0_.length:Int)then
  (idx a0_ n1).bind fun x5=>
  (qcy x5 a1_ a2_ a3_ a4_).bind fun r6=>
  if r6=true then
  some (.inr n1)
  else
  zL a0_ a1_ a2_ a3_ a4_ K (w64 (n1+1))
  else
  some (.inl ())
def jv (N:Nat) (a0_:List qf) (a1_:Str) (a2_:Int) (a3_:Int) (a4_:Str):Option Int:=
 (zL a0_ a1_ a2_ a3_ a4_ N 0).bind (fun
 |(.inl ())=>
 some (-1)
 |(.inr q8)=>
 some q8)
theorem qdx (N:Nat) (a0_:List qf) (a1_:Str) (a2_:Int) (a3_:Int) (a4_:Str) {res:Int} (h:jv N a0_ a1_ a2_ a3_ a4_=some res):qj Tryz.prog (.fn 57) (kBI a0_ [.func (.func 58) [] [.fptr [.str a1_,.i a2_,.i a3_,.str a4_] 0]]) [] (.i res) []:=by
 unfold jv at h
 refine Goes.fnW Tryz.func57 rfl rfl (m:=19) rfl (rs:=[.tmp 4]) rfl (l:=(kD a0_ [(1,.func (.func 58) [] [.fptr [.str a1_,.i a2_,.i a3_,.str a4_] 0])])) rfl ?_
 refine sh fol (kD a0_ [(1,.func (.func 58) [] [.fptr [.str a1_,.i a2_,.i a3_,.str a4_] 0])]) ?_
 refine sq ?_
 refine sh fol (kD a0_ [(1,.func (.func 58) [] [.fptr [.str a1_,.i a2_,.i a3_,.str a4_] 0]),(7,.i (a0_.length:Int)),(8,.i 0)]) ?_
 refine Goes.block ?_
 obtain⟨r2,g2,h⟩:=bnd h
 refine Goes.imp (Q:=fun x s'=>(x= .exit 0∧(.inl ())=r2∧Sub s' (ofG 19 [],[]))∨(x= .ret∧ ∃q3,(.inr q3)=r2∧jh Tryz.prog [.tmp 4] (.i q3) .ret s')) ?_ ?_
 ·refine Goes.loopS (fun M s=> ∃(n1:Int),s=(ofG 19 (kD a0_ ((1,.func (.func 58) [] [.fptr [.str a1_,.i a2_,.i a3_,.str a4_] 0])::(kAJ (a0_.length:Int) n1 []))),[])∧zL a0_ a1_ a2_ a3_ a4_ M n1=some r2) ?_ (m:=N) ⟨_,rfl,g2⟩
  rintro M s ⟨n1,rfl,g2⟩
  cases M with
  |zero=>simp only[zL]at g2;cases g2
  |succ M=>
   rw[zL]at g2
   refine sh fol (kD a0_ ((1,.func (.func 58) [] [.fptr [.str a1_,.i a2_,.i a3_,.str a4_] 0])::(kAJ (a0_.length:Int) n1 [(9,.bool (decide (n1<(a0_.length:Int))))]))) ?_
   refine sq ?_
   refine ihD g2 (fun c4 g2=>?_) (fun c4 g2=>?_)
   ·refine Goes.skip ?_
    refine sq (Goes.block ?_)
    refine sh fol (kD a0_ ((1,.func (.func 58) [] [.fptr [.str a1_,.i a2_,.i a3_,.str a4_] 0])::(5,.i n1)::(kAJ (a0_.length:Int) n1 []))) ?_
    obtain⟨x5,e_x5,g2⟩:=bnd g2
    obtain⟨r6,e_r6,g2⟩:=bnd g2
    refine sq (gr fol [3,4,5] (kD a0_ ((1,.func (.func 58) [] [.fptr [.str a1_,.i a2_,.i a3_,.str a4_] 0])::(5,.i n1)::(kAJ (a0_.length:Int) n1 [(16,.bool r6)]))) (ac (iv qdD qa e_x5) (ac (la qeK qa e_x5) (ac (hs (.call 58 (kBd x5.Desk x5.Number x5.Clock x5.Line [.fptr [.str a1_,.i a2_,.i a3_,.str a4_] 0]) [] [] (kBd x5.Desk x5.Number x5.Clock x5.Line [.fptr [.str a1_,.i a2_,.i a3_,.str a4_] 0]) (.bool r6)) (qwf (FzL.cons (Fz.still (Still.agg (AllST.cons tS (AllST.cons tI (AllST.cons tI (AllST.cons tS AllST.nil)))))) (FzL.cons (Fz.still (Still.fptr (AllST.cons tS (AllST.cons tI (AllST.cons tI (AllST.cons tS AllST.nil)))))) FzL.nil)) (qiV x5 a1_ a2_ a3_ a4_ e_r6) tB)) az))) ?_)
    refine ihB g2 (fun c7 g2=>?_) (fun c7 g2=>?_)
    ·refine sh fol [(4,.i n1)] ?_
     refine Goes.ret ?_
     obtain rfl:=si g2
     exact Or.inr (⟨rfl,_,rfl,(gw2 [.i n1] (FzW.still tI))⟩)
    ·refine Goes.skip ?_
     refine gh fol (kD a0_ ((1,.func (.func 58) [] [.fptr [.str a1_,.i a2_,.i a3_,.str a4_] 0])::(kAJ (a0_.length:Int) (w64 (n1+1)) []))) ?_
     exact⟨M,(ofG 19 (kD a0_ ((1,.func (.func 58) [] [.fptr [.str a1_,.i a2_,.i a3_,.str a4_] 0])::(kAJ (a0_.length:Int) (w64 (n1+1)) []))),[]),Nat.lt_succ_self _,(Sub.refl _),_,rfl,g2⟩
   ·refine Goes.exit ?_
    obtain rfl:=si g2
    exact Or.inl (⟨rfl,rfl,(Sub.keep [] rfl rfl)⟩)
 rintro x s' (⟨rfl,rfl,hsub⟩|⟨rfl,q8,rfl,hret⟩)
 ·try dsimp only at h
  refine Goes.sub hsub ?_
  refine sh fol [(4,.i (-1))] ?_
  refine Goes.ret ?_
  obtain rfl:=si h
  exact(gw2 [.i (-1)] (FzW.still tI))
 ·try dsimp only at h
  obtain rfl:=si h
  exact hret
def xO (a0_:qf) (a1_:List qf):Option (List qf):=
 (app 48 ([]:List qf) (a0_::a1_)).bind fun l2=>
 some l2
theorem qeG (a0_:qf) (a1_:List qf) {l1:List qf} (h:xO a0_ a1_=some l1):qj Tryz.prog (.fn 56) [vl qa (a0_::a1_)] [] (.oslice 0 l1.length 4) (kC l1 []):=by
 unfold xO at h
 refine Goes.fnH Tryz.func56 rfl rfl (m:=8) rfl (rs:=[.tmp 2]) rfl (l:=(kD (a0_::a1_) [])) rfl ?_
 intro B hB
 refine sh fol (kD (a0_::a1_) []) ?_
 refine sq ?_
 refine sh fol (kD (a0_::a1_) kAK) ?_
 refine Goes.ifB (b:=false) (by kernel_rfl) (fun c=>(by cases c)) (fun _=>?_)
 refine Goes.skip ?_
 obtain⟨l2,e_l2,h⟩:=bnd h
 refine sq (gq fol [2] [(2,.oslice 1 l2.length 4)] (.dead::(kC l2 [])) (ac (hs (.run [0] (jL Tryz.prog [54,54] (.slice 0 0 0 0 4) (vl qa (a0_::a1_))) [.cells []] (.oslice 1 l2.length 4) (.dead::(kC l2 [])) true) (qaF qdD (E:=qa) rfl (qkM (E:=qa) rfl _) (qnD (E:=qa) rfl rfl rfl e_l2 rfl))) az) ?_)
 refine Goes.ret ?_
 obtain rfl:=si h
 exact(gh2 [.oslice 1 l2.length 4] (Sub.norm [] [some 1] (by rw[hB];rfl) rfl (.keep (.oslice rfl) .nil) (.ks .nil)))
def xP (N:Nat) (b:List qf):Nat→(List qf)→Int→Option ((List qf)⊕((List qf)×Int))
 |0,_,_=>none
 |K+1,l6,n7=>
  if n7<(b.length:Int)then
  (((idx b n7).bind fun x15=>
  (jv N ([]:List qf) x15.Desk x15.Number x15.Clock x15.Line).bind fun r16=>
  if r16<0 then
  (app 48 l6 [x15]).bind fun l18=>
  some (.inl l18)
  else
  (idx ([]:List qf) r16).bind fun x19=>
  if(!((x19.Desk==x15.Desk)&&(decide (x19.Number=x15.Number)&&(decide (x19.Clock=x15.Clock)&&((x19.Line==x15.Line)&&true)))))=true then
  some (.inr ([],29))
  else
  some (.inl l6):Option ((List qf)⊕((List qf)×Int)))).bind (fun
  |(.inl l12)=>
  xP N b K l12 (w64 (n7+1))
  |(.inr q21)=>
  some (.inr q21))
  else
  some (.inl l6)
def qc7 (N:Nat) (b:List qf):Option ((List qf)×Int):=
 (zC N ([]:List qf)).bind fun r1=>
 (zC N b).bind fun r2=>
 (kz N ([r1,r2]:List Int)).bind fun r3=>
 if(!decide (r3=0))=true then
 some ([],r3)
 else
 (qsj).bind fun _=>
 (xP N b N ([]:List qf) 0).bind (fun
 |(.inl l8)=>
 (qtg l8).bind fun l23=>
 ((if l8.length=l23.length then some ()else none:Option Unit)).bind fun u24=>
 ((za (decide ((l23.length:Int)>1000)) 5).bind fun r25=>
 if(l23.length:Int)≤1000 then
 (zC N l23).bind fun r27=>
 (za (!decide (r27=0)) 29).bind fun r28=>
 (kz N ([r25,r28]:List Int)).bind fun r29=>
 some (r25,r28,r29)
 else
 (za false 29).bind fun r30=>
 (kz N ([r25,r30]:List Int)).bind fun r31=>
 some (r25,r30,r31):Option (Int×Int×Int)).bind fun(n32,n33,n34)=>
 if(!decide (n34=0))=true then
 some ([],n34)
 else
 some (l23,0)
 |(.inr q37)=>
 some q37)
theorem qk1 (N:Nat) (b:List qf) {res:(List qf)×Int} (h:qc7 N b=some res):qj Tryz.prog (.fn 21) (vl qa ([]:List qf)::(kBI b [])) [] (.tuple (kBI res.1 [.i res.2])) []:=by
 unfold qc7 at h
 refine Goes.fnW Tryz.func21 rfl rfl (m:=66) rfl (rs:=[.tmp 4,.tmp 5]) rfl (l:=(kS (kAr b []))) rfl ?_
 refine sh fol (kS (kAr b [])) ?_
 refine sq ?_
 obtain⟨r1,e_r1,h⟩:=bnd h
 obtain⟨r2,e_r2,h⟩:=bnd h
 obtain⟨r3,e_r3,h⟩:=bnd h
 refine sq (gq fol [1,3,5] (kS (kAr b (kBM r3))) (kY r1 r2) (ac (cv (jl N ([]:List qf) e_r1)) (ac (cv (jl N b e_r2)) (ac (hs (.call 37 [.slice 0 0 2 2 1] (kY r1 r2) [0] [vl encI ([r1,r2]:List Int)] (.i r3)) (qbz (FzL.cons (Fz.lit rfl rfl (FzL.still (AllST.cons tI (AllST.cons tI AllST.nil)))) FzL.nil) (zA N ([r1,r2]:List Int) e_r3) tI rfl)) az))) ?_)
 refine sh fol (kS (kAr b [(6,.i r3),(19,.bool (!decide (r3=0)))])) ?_
 refine ihB h (fun c4 h=>?_) (fun c4 h=>?_)
 ·refine sh fol ((4,.nilslice)::(kAm r3)) ?_
  refine Goes.ret ?_
  obtain rfl:=si h
  exact(gw2 [.nilslice,.i r3] (FzW.tuple (qA.cons (FzW.nilv (E:=qa)) (qA.cons (FzW.still tI) qA.nil))))
 ·refine Goes.skip ?_
  obtain⟨_,e_r5,h⟩:=bnd h
  refine sq (gq fol [1] (kS (kAr b [(7,.gslice 1 ([]:List qf).length 4)])) (.cells [.i r1,.i r2]::kAb) (ac (hs (.callH 56 [vl qa ([]:List qf)] (kY r1 r2) [] (.gslice 1 ([]:List qf).length 4) (.cells [.i r1,.i r2]::kAb)) (xY [] [none,some 0] (qtC e_r5) .nil rfl rfl (.old rfl rfl (.new rfl rfl (.same fa) rfl .nil)) (rc (.same (qp qa _)) rn) (.gslice rfl) rfl)) az) ?_)
  refine sq ?_
  refine sh fol (kS ((7,.gslice 1 ([]:List qf).length 4)::(kBe b (b.length:Int)))) ?_
  refine Goes.block ?_
  obtain⟨r9,g9,h⟩:=bnd h
  refine Goes.imp (Q:=fun x s'=>(x= .exit 0∧ ∃l8,(.inl l8)=r9∧Sub s' (ofG 66 (kAW l8 []),(kC l8 [])))∨(x= .ret∧ ∃q10,(.inr q10)=r9∧jh Tryz.prog [.tmp 4,.tmp 5] (.tuple (kBI q10.1 [.i q10.2])) .ret s')) ?_ ?_
  ·refine Goes.sub (s':=(ofG 66 (kS ((7,.gslice 0 ([]:List qf).length 4)::(kBe b (b.length:Int)))),kAb)) (Sub.norm [] [some 1] rfl rfl (.keep (.same (qp qa _)) (.keep (.gslice rfl) (.keep (.same (qp qa _)) (.keep (.same nI) (.keep (.same nI) .nil))))) (.ks .nil)) ?_
   refine Goes.loopS (fun M s=> ∃(l6:List qf) (n7:Int),s=(ofG 66 (kS (kAW l6 (kW b (b.length:Int) n7 []))),(kC l6 []))∧xP N b M l6 n7=some r9) ?_ (m:=N) ⟨_,_,rfl,g9⟩
   rintro M s ⟨l6,n7,rfl,g9⟩
   cases M with
   |zero=>simp only[xP]at g9;cases g9
   |succ M=>
    rw[xP]at g9
    refine sh fol (kS (kAW l6 (kW b (b.length:Int) n7 [(26,.bool (decide (n7<(b.length:Int))))]))) ?_
    refine sq ?_
    refine ihD g9 (fun c11 g9=>?_) (fun c11 g9=>?_)
    ·refine Goes.skip ?_
     refine sq ?_
     obtain⟨r13,g13,g9⟩:=bnd g9
     refine Goes.imp (Q:=fun x s'=>(x= .normal∧ ∃l12,(.inl l12)=r13∧Sub s' (ofG 66 (kS (kAW l12 (kW b (b.length:Int) n7 []))),(kC l12 [])))∨(x= .ret∧ ∃q14,(.inr q14)=r13∧jh Tryz.prog [.tmp 4,.tmp 5] (.tuple (kBI q14.1 [.i q14.2])) .ret s')) ?_ ?_
     ·refine Goes.block ?_
      obtain⟨x15,e_x15,g13⟩:=bnd g13
      refine sq (gq fol [0,1] (kS (kAW l6 ((9,.ptr 1 0)::(kW b (b.length:Int) n7 [])))) (kC l6 (kE x15.Desk x15.Number x15.Clock x15.Line [])) (ac (iv qdD qa e_x15) (ac (la qeK qa e_x15) az)) ?_)
      obtain⟨r16,e_r16,g13⟩:=bnd g13
      refine sq (gr fol [2] (kS (kAW l6 ((9,.ptr 1 0)::(10,.i r16)::(kW b (b.length:Int) n7 [])))) (ac (hs (.call 57 [vl qa ([]:List qf),.func (.func 58) [] [.ptr 1 0]] (kC l6 (kE x15.Desk x15.Number x15.Clock x15.Line [])) [1] [vl qa ([]:List qf),.func (.func 58) [] [.fptr [.str x15.Desk,.i x15.Number,.i x15.Clock,.str x15.Line] 0]] (.i r16)) (qbz (FzL.cons (Fz.still (qdE qa _ (nl rfl))) (FzL.cons (Fz.func FzL.nil (FzL.cons (Fz.ptr rfl rfl (FzL.cons (Fz.still tS) (FzL.cons (Fz.still tI) (FzL.cons (Fz.still tI) (FzL.cons (Fz.still tS) FzL.nil))))) FzL.nil)) FzL.nil)) (qdx N ([]:List qf) x15.Desk x15.Number x15.Clock x15.Line e_r16) tI rfl)) az) ?_)
      refine sh fol (kS (kAW l6 ((9,.ptr 1 0)::(10,.i r16)::(kW b (b.length:Int) n7 [(33,.bool (decide (r16<0)))])))) ?_
      refine ihD g13 (fun c17 g13=>?_) (fun c17 g13=>?_)
      ·obtain⟨l18,e_l18,g13⟩:=bnd g13
       refine gq fol [3] (kS ((7,.gslice 3 l18.length 4)::(kW b (b.length:Int) n7 []))) (.dead::(kE x15.Desk x15.Number x15.Clock x15.Line (kE x15.Desk x15.Number x15.Clock x15.Line (kC l18 [])))) (ac (hs (.run [0,2] (jL Tryz.prog [54,54] (.gslice 0 l6.length 4) (.slice 2 0 1 1 4)) (kC l6 (kE x15.Desk x15.Number x15.Clock x15.Line (kE x15.Desk x15.Number x15.Clock x15.Line []))) (.gslice 3 l18.length 4) (.dead::(kE x15.Desk x15.Number x15.Clock x15.Line (kE x15.Desk x15.Number x15.Clock x15.Line (kC l18 [])))) true) (qaF qdD (E:=qa) rfl (qfQ (E:=qa) (ys:=[x15]) rfl rfl rfl rfl) (qi1 (E:=qa) (l:=l6) rfl rfl rfl e_l18 rfl))) az) ?_
       obtain rfl:=si g13
       exact Or.inl (⟨rfl,_,rfl,(Sub.norm [] [some 3] rfl rfl (.keep (.same (qp qa _)) (.keep (.gslice rfl) (.keep (.same (qp qa _)) (.keep (.same nI) (.keep (.same nI) .nil))))) (.ks .nil))⟩)
      ·obtain⟨x19,e_x19,g13⟩:=bnd g13
       refine sq (gr fol [2,3,5] (kS (kAW l6 (kW b (b.length:Int) n7 [(43,.bool (!((x19.Desk==x15.Desk)&&(decide (x19.Number=x15.Number)&&(decide (x19.Clock=x15.Clock)&&((x19.Line==x15.Line)&&true))))))]))) (ac (iv qdD qa e_x19) (ac (la qeK qa e_x19) (ac (hs (.done (.opt (qiI Tryz.prog .neq 112 (.tmp 41) (.tmp 42) (.agg (kAf x19.Desk x19.Number x19.Clock x19.Line)) (.agg (kAf x15.Desk x15.Number x15.Clock x15.Line)))) (.bool (!((x19.Desk==x15.Desk)&&(decide (x19.Number=x15.Number)&&(decide (x19.Clock=x15.Clock)&&((x19.Line==x15.Line)&&true))))))) (qv5 quz (e:=((x19.Desk==x15.Desk)&&(decide (x19.Number=x15.Number)&&(decide (x19.Clock=x15.Clock)&&((x19.Line==x15.Line)&&true))))) (.cons (a:= .str x19.Desk) (b:= .str x15.Desk) rfl (by kernel_rfl) (by kernel_rfl) (by kernel_rfl) (.cons (a:= .i x19.Number) (b:= .i x15.Number) rfl (by kernel_rfl) (by kernel_rfl) (by kernel_rfl) (.cons (a:= .i x19.Clock) (b:= .i x15.Clock) rfl (by kernel_rfl) (by kernel_rfl) (by kernel_rfl) (.cons (a:= .str x19.Line) (b:= .str x15.Line) rfl (by kernel_rfl) (by kernel_rfl) (by kernel_rfl) .nil)))))) az))) ?_)
       refine ihB g13 (fun c20 g13=>?_) (fun c20 g13=>?_)
       ·refine sh fol [(4,.nilslice),(5,.i 29)] ?_
        refine Goes.ret ?_
        obtain rfl:=si g13
        exact Or.inr (⟨rfl,_,rfl,(gw2 [.nilslice,.i 29] (FzW.tuple (qA.cons (FzW.nilv (E:=qa)) (qA.cons (FzW.still tI) qA.nil))))⟩)
       ·refine Goes.skip ?_
        obtain rfl:=si g13
        exact Or.inl (⟨rfl,_,rfl,(Sub.norm [] [some 0] rfl rfl (.keep (.same (qp qa _)) (.keep (.gslice rfl) (.keep (.same (qp qa _)) (.keep (.same nI) (.keep (.same nI) .nil))))) (.ks .nil))⟩)
     rintro x s' (⟨rfl,l12,rfl,hsub⟩|⟨rfl,q21,rfl,hret⟩)
     ·try dsimp only at g9
      refine Goes.sub hsub ?_
      refine gh fol (kS (kAW l12 (kW b (b.length:Int) (w64 (n7+1)) []))) ?_
      exact⟨M,(ofG 66 (kS (kAW l12 (kW b (b.length:Int) (w64 (n7+1)) []))),(kC l12 [])),Nat.lt_succ_self _,(Sub.refl _),_,_,rfl,g9⟩
     ·try dsimp only at g9
      obtain rfl:=si g9
      exact Or.inr (⟨rfl,_,rfl,hret⟩)
    ·refine Goes.exit ?_
     obtain rfl:=si g9
     exact Or.inl (⟨rfl,_,rfl,(Sub.keep [7] rfl rfl)⟩)
  rintro x s' (⟨rfl,l8,rfl,hsub⟩|⟨rfl,q37,rfl,hret⟩)
  ·try dsimp only at h
   refine Goes.sub hsub ?_
   obtain⟨l23,e_r22,h⟩:=bnd h
   obtain⟨u24,e_u24,h⟩:=bnd h
   refine sq (gq fol [1] (kAW l8 []) (kC l23 []) (ac (hs (.callH 60 [.gslice 0 l8.length 4,.func (.func 61) [] []] (kC l8 []) [0] (.tuple []) (kC l23 [])) (xY [some 0] [some 0] (qvR l8 e_r22) (.ks .nil) rfl rfl (.back rfl rfl (.same fa) rfl .nil) (rc (.gslice rfl) (rc (.same (qK.func sn sn)) rn)) (.same (qK.tuple sn)) rfl)) az) ?_)
   refine Goes.sub (show Sub (ofG 66 (kAW l8 []),(kC l23 [])) (ofG 66 (kAW l23 []),(kC l23 []))from(Sub.norm [] [some 0] rfl rfl (.keep (.gsliceE rfl (qlZ e_u24)) .nil) (.ks .nil))) ?_
   refine sq ?_
   refine sq ?_
   obtain⟨⟨n32,n33,n34⟩,g_v35,h⟩:=bnd h
   refine Goes.cut (s':=(ofG 66 (kAW l23 [(11,.i n34)]),(kC l23 (kY n32 n33)))) ?_ ?_
   ·obtain⟨r25,e_r25,g_v35⟩:=bnd g_v35
    rcases wyD g_v35 with⟨c26,g_v35⟩|⟨c26,g_v35⟩
    ·obtain⟨r27,e_r27,g_v35⟩:=bnd g_v35
     obtain⟨r28,e_r28,g_v35⟩:=bnd g_v35
     obtain⟨r29,e_r29,g_v35⟩:=bnd g_v35
     simp only[Option.some.injEq,Prod.mk.injEq]at g_v35
     obtain⟨rfl,rfl,rfl⟩:=g_v35
     exact qW.rq fol [3,7,9,12,14] (kAW l23 [(11,.i r29)]) (kC l23 (kY r25 r28)) (ac (cv (kr (decide ((l23.length:Int)>1000)) 5 e_r25)) (ac (gw c26) (ac (hs (.call 55 [.gslice 0 l23.length 4] (kC l23 []) [0] [vl qa l23] (.i r27)) (qbz (FzL.cons (Fz.gs (E:=qa) rfl rfl (nl rfl)) FzL.nil) (jl N l23 e_r27) tI rfl)) (ac (cv (kr (!decide (r27=0)) 29 e_r28)) (ac (hs (.call 37 [.slice 1 0 2 2 1] (kC l23 (kY r25 r28)) [1] [vl encI ([r25,r28]:List Int)] (.i r29)) (qbz (FzL.cons (Fz.lit rfl rfl (FzL.still (AllST.cons tI (AllST.cons tI AllST.nil)))) FzL.nil) (zA N ([r25,r28]:List Int) e_r29) tI rfl)) az)))))
    ·obtain⟨r30,e_r30,g_v35⟩:=bnd g_v35
     obtain⟨r31,e_r31,g_v35⟩:=bnd g_v35
     simp only[Option.some.injEq,Prod.mk.injEq]at g_v35
     obtain⟨rfl,rfl,rfl⟩:=g_v35
     exact qW.rq fol [3,7,12,14] (kAW l23 [(11,.i r31)]) (kC l23 (kY r25 r30)) (ac (cv (kr (decide ((l23.length:Int)>1000)) 5 e_r25)) (ac (gw c26) (ac (cv (kr false 29 e_r30)) (ac (hs (.call 37 [.slice 1 0 2 2 1] (kC l23 (kY r25 r30)) [1] [vl encI ([r25,r30]:List Int)] (.i r31)) (qbz (FzL.cons (Fz.lit rfl rfl (FzL.still (AllST.cons tI (AllST.cons tI AllST.nil)))) FzL.nil) (zA N ([r25,r30]:List Int) e_r31) tI rfl)) az))))
   try dsimp only at h
   refine sh fol (kAW l23 [(11,.i n34),(63,.bool (!decide (n34=0)))]) ?_
   refine ihB h (fun c36 h=>?_) (fun c36 h=>?_)
   ·refine sh fol ((4,.nilslice)::(kAm n34)) ?_
    refine Goes.ret ?_
    obtain rfl:=si h
    exact(gw2 [.nilslice,.i n34] (FzW.tuple (qA.cons (FzW.nilv (E:=qa)) (qA.cons (FzW.still tI) qA.nil))))
   ·refine Goes.skip ?_
    refine sh fol ((4,.gslice 0 l23.length 4)::kBR) ?_
    refine Goes.ret ?_
    obtain rfl:=si h
    exact(gw2 [.gslice 0 l23.length 4,.i 0] (FzW.tuple (qA.cons (FzW.fz (Fz.gs (E:=qa) rfl rfl (nl rfl))) (qA.cons (FzW.still tI) qA.nil))))
  ·try dsimp only at h
   obtain rfl:=si h
   exact hret
def xB (N:Nat) (hd:qf) (tl:List qf) (b:List qf):Nat→(List qf)→Int→Option ((List qf)⊕((List qf)×Int))
 |0,_,_=>none
 |K+1,l7,n8=>
  if n8<(b.length:Int)then
  (((idx b n8).bind fun x16=>
  (jv N (hd::tl) x16.Desk x16.Number x16.Clock x16.Line).bind fun r17=>
  if r17<0 then
  (app 48 l7 [x16]).bind fun l19=>
  some (.inl l19)
  else
  (idx (hd::tl) r17).bind fun x20=>
  if(!((x20.Desk==x16.Desk)&&(decide (x20.Number=x16.Number)&&(decide (x20.Clock=x16.Clock)&&((x20.Line==x16.Line)&&true)))))=true then
  some (.inr ([],29))
  else
  some (.inl l7):Option ((List qf)⊕((List qf)×Int)))).bind (fun
  |(.inl l13)=>
  xB N hd tl b K l13 (w64 (n8+1))
  |(.inr q22)=>
  some (.inr q22))
  else
  some (.inl l7)
def qdf (N:Nat) (hd:qf) (tl:List qf) (b:List qf):Option ((List qf)×Int):=
 (zC N (hd::tl)).bind fun r1=>
 (zC N b).bind fun r2=>
 (kz N ([r1,r2]:List Int)).bind fun r3=>
 if(!decide (r3=0))=true then
 some ([],r3)
 else
 (xO hd tl).bind fun l6=>
 (xB N hd tl b N l6 0).bind (fun
 |(.inl l9)=>
 (qtn l9).bind fun l24=>
 ((if l9.length=l24.length then some ()else none:Option Unit)).bind fun u25=>
 ((za (decide ((l24.length:Int)>1000)) 5).bind fun r26=>
 if(l24.length:Int)≤1000 then
 (zC N l24).bind fun r28=>
 (za (!decide (r28=0)) 29).bind fun r29=>
 (kz N ([r26,r29]:List Int)).bind fun r30=>
 some (r26,r29,r30)
 else
 (za false 29).bind fun r31=>
 (kz N ([r26,r31]:List Int)).bind fun r32=>
 some (r26,r31,r32):Option (Int×Int×Int)).bind fun(n33,n34,n35)=>
 if(!decide (n35=0))=true then
 some ([],n35)
 else
 some (l24,0)
 |(.inr q38)=>
 some q38)
theorem qlj (N:Nat) (hd:qf) (tl:List qf) (b:List qf) {res:(List qf)×Int} (h:qdf N hd tl b=some res):qj Tryz.prog (.fn 21) (kBI (hd::tl) (kBI b [])) [] (.tuple (kBI res.1 [.i res.2])) []:=by
 unfold qdf at h
 refine Goes.fnW Tryz.func21 rfl rfl (m:=66) rfl (rs:=[.tmp 4,.tmp 5]) rfl (l:=(kD (hd::tl) (kAr b []))) rfl ?_
 refine sh fol (kD (hd::tl) (kAr b [])) ?_
 refine sq ?_
 obtain⟨r1,e_r1,h⟩:=bnd h
 obtain⟨r2,e_r2,h⟩:=bnd h
 obtain⟨r3,e_r3,h⟩:=bnd h
 refine sq (gq fol [1,3,5] (kD (hd::tl) (kAr b (kBM r3))) (kY r1 r2) (ac (cv (jl N (hd::tl) e_r1)) (ac (cv (jl N b e_r2)) (ac (hs (.call 37 [.slice 0 0 2 2 1] (kY r1 r2) [0] [vl encI ([r1,r2]:List Int)] (.i r3)) (qbz (FzL.cons (Fz.lit rfl rfl (FzL.still (AllST.cons tI (AllST.cons tI AllST.nil)))) FzL.nil) (zA N ([r1,r2]:List Int) e_r3) tI rfl)) az))) ?_)
 refine sh fol (kD (hd::tl) (kAr b [(6,.i r3),(19,.bool (!decide (r3=0)))])) ?_
 refine ihB h (fun c4 h=>?_) (fun c4 h=>?_)
 ·refine sh fol ((4,.nilslice)::(kAm r3)) ?_
  refine Goes.ret ?_
  obtain rfl:=si h
  exact(gw2 [.nilslice,.i r3] (FzW.tuple (qA.cons (FzW.nilv (E:=qa)) (qA.cons (FzW.still tI) qA.nil))))
 ·refine Goes.skip ?_
  obtain⟨l6,e_r5,h⟩:=bnd h
  refine sq (gq fol [1] (kD (hd::tl) (kAr b [(7,.oslice 1 l6.length 4)])) (.cells [.i r1,.i r2]::(kC l6 [])) (ac (hs (.callH 56 [vl qa (hd::tl)] (kY r1 r2) [] (.oslice 1 l6.length 4) (.cells [.i r1,.i r2]::(kC l6 []))) (xY [] [none,some 0] (qeG hd tl e_r5) .nil rfl rfl (.old rfl rfl (.new rfl rfl (.same fa) rfl .nil)) (rc (.same (qp qa _)) rn) (.oslice rfl) rfl)) az) ?_)
  refine sq ?_
  refine sh fol (kD (hd::tl) ((7,.oslice 1 l6.length 4)::(kBe b (b.length:Int)))) ?_
  refine Goes.block ?_
  obtain⟨r10,g10,h⟩:=bnd h
  refine Goes.imp (Q:=fun x s'=>(x= .exit 0∧ ∃l9,(.inl l9)=r10∧Sub s' (ofG 66 (kAS l9 []),(kC l9 [])))∨(x= .ret∧ ∃q11,(.inr q11)=r10∧jh Tryz.prog [.tmp 4,.tmp 5] (.tuple (kBI q11.1 [.i q11.2])) .ret s')) ?_ ?_
  ·refine Goes.sub (s':=(ofG 66 (kD (hd::tl) (kAS l6 (kBe b (b.length:Int)))),(kC l6 []))) (Sub.norm [] [some 1] rfl rfl (.keep (.same (qp qa _)) (.keep (.oslice rfl) (.keep (.same (qp qa _)) (.keep (.same nI) (.keep (.same nI) .nil))))) (.ks .nil)) ?_
   refine Goes.loopS (fun M s=> ∃(l7:List qf) (n8:Int),s=(ofG 66 (kD (hd::tl) (kAS l7 (kW b (b.length:Int) n8 []))),(kC l7 []))∧xB N hd tl b M l7 n8=some r10) ?_ (m:=N) ⟨_,_,rfl,g10⟩
   rintro M s ⟨l7,n8,rfl,g10⟩
   cases M with
   |zero=>simp only[xB]at g10;cases g10
   |succ M=>
    rw[xB]at g10
    refine sh fol (kD (hd::tl) (kAS l7 (kW b (b.length:Int) n8 [(26,.bool (decide (n8<(b.length:Int))))]))) ?_
    refine sq ?_
    refine ihD g10 (fun c12 g10=>?_) (fun c12 g10=>?_)
    ·refine Goes.skip ?_
     refine sq ?_
     obtain⟨r14,g14,g10⟩:=bnd g10
     refine Goes.imp (Q:=fun x s'=>(x= .normal∧ ∃l13,(.inl l13)=r14∧Sub s' (ofG 66 (kD (hd::tl) (kAS l13 (kW b (b.length:Int) n8 []))),(kC l13 [])))∨(x= .ret∧ ∃q15,(.inr q15)=r14∧jh Tryz.prog [.tmp 4,.tmp 5] (.tuple (kBI q15.1 [.i q15.2])) .ret s')) ?_ ?_
     ·refine Goes.block ?_
      obtain⟨x16,e_x16,g14⟩:=bnd g14
      refine sq (gq fol [0,1] (kD (hd::tl) (kAS l7 ((9,.ptr 1 0)::(kW b (b.length:Int) n8 [])))) (kC l7 (kE x16.Desk x16.Number x16.Clock x16.Line [])) (ac (iv qdD qa e_x16) (ac (la qeK qa e_x16) az)) ?_)
      obtain⟨r17,e_r17,g14⟩:=bnd g14
      refine sq (gr fol [2] (kD (hd::tl) (kAS l7 ((9,.ptr 1 0)::(10,.i r17)::(kW b (b.length:Int) n8 [])))) (ac (hs (.call 57 (kBI (hd::tl) [.func (.func 58) [] [.ptr 1 0]]) (kC l7 (kE x16.Desk x16.Number x16.Clock x16.Line [])) [1] (kBI (hd::tl) [.func (.func 58) [] [.fptr [.str x16.Desk,.i x16.Number,.i x16.Clock,.str x16.Line] 0]]) (.i r17)) (qbz (FzL.cons (Fz.still (qdE qa _ (nl rfl))) (FzL.cons (Fz.func FzL.nil (FzL.cons (Fz.ptr rfl rfl (FzL.cons (Fz.still tS) (FzL.cons (Fz.still tI) (FzL.cons (Fz.still tI) (FzL.cons (Fz.still tS) FzL.nil))))) FzL.nil)) FzL.nil)) (qdx N (hd::tl) x16.Desk x16.Number x16.Clock x16.Line e_r17) tI rfl)) az) ?_)
      refine sh fol (kD (hd::tl) (kAS l7 ((9,.ptr 1 0)::(10,.i r17)::(kW b (b.length:Int) n8 [(33,.bool (decide (r17<0)))])))) ?_
      refine ihD g14 (fun c18 g14=>?_) (fun c18 g14=>?_)
      ·obtain⟨l19,e_l19,g14⟩:=bnd g14
       refine gq fol [3] (kD (hd::tl) ((7,.oslice 3 l19.length 4)::(kW b (b.length:Int) n8 []))) (.dead::(kE x16.Desk x16.Number x16.Clock x16.Line (kE x16.Desk x16.Number x16.Clock x16.Line (kC l19 [])))) (ac (hs (.run [0,2] (jL Tryz.prog [54,54] (.oslice 0 l7.length 4) (.slice 2 0 1 1 4)) (kC l7 (kE x16.Desk x16.Number x16.Clock x16.Line (kE x16.Desk x16.Number x16.Clock x16.Line []))) (.oslice 3 l19.length 4) (.dead::(kE x16.Desk x16.Number x16.Clock x16.Line (kE x16.Desk x16.Number x16.Clock x16.Line (kC l19 [])))) true) (qaF qdD (E:=qa) rfl (qfQ (E:=qa) (ys:=[x16]) rfl rfl rfl rfl) (qry (E:=qa) (l:=l7) rfl rfl rfl e_l19 rfl))) az) ?_
       obtain rfl:=si g14
       exact Or.inl (⟨rfl,_,rfl,(Sub.norm [] [some 3] rfl rfl (.keep (.same (qp qa _)) (.keep (.oslice rfl) (.keep (.same (qp qa _)) (.keep (.same nI) (.keep (.same nI) .nil))))) (.ks .nil))⟩)
      ·obtain⟨x20,e_x20,g14⟩:=bnd g14
       refine sq (gr fol [2,3,5] (kD (hd::tl) (kAS l7 (kW b (b.length:Int) n8 [(43,.bool (!((x20.Desk==x16.Desk)&&(decide (x20.Number=x16.Number)&&(decide (x20.Clock=x16.Clock)&&((x20.Line==x16.Line)&&true))))))]))) (ac (iv qdD qa e_x20) (ac (la qeK qa e_x20) (ac (hs (.done (.opt (qiI Tryz.prog .neq 112 (.tmp 41) (.tmp 42) (.agg (kAf x20.Desk x20.Number x20.Clock x20.Line)) (.agg (kAf x16.Desk x16.Number x16.Clock x16.Line)))) (.bool (!((x20.Desk==x16.Desk)&&(decide (x20.Number=x16.Number)&&(decide (x20.Clock=x16.Clock)&&((x20.Line==x16.Line)&&true))))))) (qv5 quz (e:=((x20.Desk==x16.Desk)&&(decide (x20.Number=x16.Number)&&(decide (x20.Clock=x16.Clock)&&((x20.Line==x16.Line)&&true))))) (.cons (a:= .str x20.Desk) (b:= .str x16.Desk) rfl (by kernel_rfl) (by kernel_rfl) (by kernel_rfl) (.cons (a:= .i x20.Number) (b:= .i x16.Number) rfl (by kernel_rfl) (by kernel_rfl) (by kernel_rfl) (.cons (a:= .i x20.Clock) (b:= .i x16.Clock) rfl (by kernel_rfl) (by kernel_rfl) (by kernel_rfl) (.cons (a:= .str x20.Line) (b:= .str x16.Line) rfl (by kernel_rfl) (by kernel_rfl) (by kernel_rfl) .nil)))))) az))) ?_)
       refine ihB g14 (fun c21 g14=>?_) (fun c21 g14=>?_)
       ·refine sh fol [(4,.nilslice),(5,.i 29)] ?_
        refine Goes.ret ?_
        obtain rfl:=si g14
        exact Or.inr (⟨rfl,_,rfl,(gw2 [.nilslice,.i 29] (FzW.tuple (qA.cons (FzW.nilv (E:=qa)) (qA.cons (FzW.still tI) qA.nil))))⟩)
       ·refine Goes.skip ?_
        obtain rfl:=si g14
        exact Or.inl (⟨rfl,_,rfl,(Sub.norm [] [some 0] rfl rfl (.keep (.same (qp qa _)) (.keep (.oslice rfl) (.keep (.same (qp qa _)) (.keep (.same nI) (.keep (.same nI) .nil))))) (.ks .nil))⟩)
     rintro x s' (⟨rfl,l13,rfl,hsub⟩|⟨rfl,q22,rfl,hret⟩)
     ·try dsimp only at g10
      refine Goes.sub hsub ?_
      refine gh fol (kD (hd::tl) (kAS l13 (kW b (b.length:Int) (w64 (n8+1)) []))) ?_
      exact⟨M,(ofG 66 (kD (hd::tl) (kAS l13 (kW b (b.length:Int) (w64 (n8+1)) []))),(kC l13 [])),Nat.lt_succ_self _,(Sub.refl _),_,_,rfl,g10⟩
     ·try dsimp only at g10
      obtain rfl:=si g10
      exact Or.inr (⟨rfl,_,rfl,hret⟩)
    ·refine Goes.exit ?_
     obtain rfl:=si g10
     exact Or.inl (⟨rfl,_,rfl,(Sub.keep [7] rfl rfl)⟩)
  rintro x s' (⟨rfl,l9,rfl,hsub⟩|⟨rfl,q38,rfl,hret⟩)
  ·try dsimp only at h
   refine Goes.sub hsub ?_
   obtain⟨l24,e_r23,h⟩:=bnd h
   obtain⟨u25,e_u25,h⟩:=bnd h
   refine sq (gq fol [1] (kAS l9 []) (kC l24 []) (ac (hs (.callH 60 (kBY l9 [.func (.func 61) [] []]) (kC l9 []) [0] (.tuple []) (kC l24 [])) (xY [some 0] [some 0] (qvB l9 e_r23) (.ks .nil) rfl rfl (.back rfl rfl (.same fa) rfl .nil) (rc (.oslice rfl) (rc (.same (qK.func sn sn)) rn)) (.same (qK.tuple sn)) rfl)) az) ?_)
   refine Goes.sub (show Sub (ofG 66 (kAS l9 []),(kC l24 [])) (ofG 66 (kAS l24 []),(kC l24 []))from(Sub.norm [] [some 0] rfl rfl (.keep (.osliceE rfl (qlZ e_u25)) .nil) (.ks .nil))) ?_
   refine sq ?_
   refine sq ?_
   obtain⟨⟨n33,n34,n35⟩,g_v36,h⟩:=bnd h
   refine Goes.cut (s':=(ofG 66 (kAS l24 [(11,.i n35)]),(kC l24 (kY n33 n34)))) ?_ ?_
   ·obtain⟨r26,e_r26,g_v36⟩:=bnd g_v36
    rcases wyD g_v36 with⟨c27,g_v36⟩|⟨c27,g_v36⟩
    ·obtain⟨r28,e_r28,g_v36⟩:=bnd g_v36
     obtain⟨r29,e_r29,g_v36⟩:=bnd g_v36
     obtain⟨r30,e_r30,g_v36⟩:=bnd g_v36
     simp only[Option.some.injEq,Prod.mk.injEq]at g_v36
     obtain⟨rfl,rfl,rfl⟩:=g_v36
     exact qW.rq fol [3,7,9,12,14] (kAS l24 [(11,.i r30)]) (kC l24 (kY r26 r29)) (ac (cv (kr (decide ((l24.length:Int)>1000)) 5 e_r26)) (ac (gw c27) (ac (hs (.call 55 [.oslice 0 l24.length 4] (kC l24 []) [0] [vl qa l24] (.i r28)) (qbz (FzL.cons (Fz.os (E:=qa) rfl rfl (nl rfl)) FzL.nil) (jl N l24 e_r28) tI rfl)) (ac (cv (kr (!decide (r28=0)) 29 e_r29)) (ac (hs (.call 37 [.slice 1 0 2 2 1] (kC l24 (kY r26 r29)) [1] [vl encI ([r26,r29]:List Int)] (.i r30)) (qbz (FzL.cons (Fz.lit rfl rfl (FzL.still (AllST.cons tI (AllST.cons tI AllST.nil)))) FzL.nil) (zA N ([r26,r29]:List Int) e_r30) tI rfl)) az)))))
    ·obtain⟨r31,e_r31,g_v36⟩:=bnd g_v36
     obtain⟨r32,e_r32,g_v36⟩:=bnd g_v36
     simp only[Option.some.injEq,Prod.mk.injEq]at g_v36
     obtain⟨rfl,rfl,rfl⟩:=g_v36
     exact qW.rq fol [3,7,12,14] (kAS l24 [(11,.i r32)]) (kC l24 (kY r26 r31)) (ac (cv (kr (decide ((l24.length:Int)>1000)) 5 e_r26)) (ac (gw c27) (ac (cv (kr false 29 e_r31)) (ac (hs (.call 37 [.slice 1 0 2 2 1] (kC l24 (kY r26 r31)) [1] [vl encI ([r26,r31]:List Int)] (.i r32)) (qbz (FzL.cons (Fz.lit rfl rfl (FzL.still (AllST.cons tI (AllST.cons tI AllST.nil)))) FzL.nil) (zA N ([r26,r31]:List Int) e_r32) tI rfl)) az))))
   try dsimp only at h
   refine sh fol (kAS l24 [(11,.i n35),(63,.bool (!decide (n35=0)))]) ?_
   refine ihB h (fun c37 h=>?_) (fun c37 h=>?_)
   ·refine sh fol ((4,.nilslice)::(kAm n35)) ?_
    refine Goes.ret ?_
    obtain rfl:=si h
    exact(gw2 [.nilslice,.i n35] (FzW.tuple (qA.cons (FzW.nilv (E:=qa)) (qA.cons (FzW.still tI) qA.nil))))
   ·refine Goes.skip ?_
    refine sh fol ((4,.oslice 0 l24.length 4)::kBR) ?_
    refine Goes.ret ?_
    obtain rfl:=si h
    exact(gw2 (kBY l24 [.i 0]) (FzW.tuple (qA.cons (FzW.fz (Fz.os (E:=qa) rfl rfl (nl rfl))) (qA.cons (FzW.still tI) qA.nil))))
  ·try dsimp only at h
   obtain rfl:=si h
   exact hret
def qhG (N:Nat):(List qf)→(List qf)→Option ((List qf)×Int)
 |[],b=>qc7 N b
 |hd::tl,b=>qdf N hd tl b
theorem qmK (N:Nat) (l:List qf) (b:List qf) {res:(List qf)×Int} (h:qhG N l b=some res):qj Tryz.prog (.fn 21) (kBI l (kBI b [])) [] (.tuple (kBI res.1 [.i res.2])) []:=by
 cases l with
 |nil=>exact qk1 N b h
 |cons hd tl=>exact qlj N hd tl b h
def qbg (l:List qf) (x8:qf):Nat→Int→Option Int
 |0,_=>none
 |K+1,n9=>
  (if n9<(l.length:Int)then
  (idx l n9).bind fun x13=>
  some (x13.Desk==x8.Desk)
  else
  some false:Option Bool).bind fun b14=>
  if b14=true then
  qbg l x8 K (w64 (n9+1))
  else
  some n9
def qaQ (s17:List qf):Nat→Int→Int→Option Int
 |0,_,_=>none
 |K+1,n18,n19=>
  if n19<(s17.length:Int)then
  (idx s17 n19).bind fun x23=>
  if(!decide (x23.Number=(w64 (n18+1))))=true then
  some n18
  else
  qaQ s17 K (w64 (n18+1)) (w64 (n19+1))
  else
  some n18
def qae (N:Nat) (l:List qf):Nat→(List zo)→Int→Option (List zo)
 |0,_,_=>none
 |K+1,l3,n4=>
  if n4<(l.length:Int)then
  (idx l n4).bind fun x8=>
  (qbg l x8 N n4).bind fun n10=>
  (cut l n4 n10).bind fun s17=>
  (qaQ s17 N 0 0).bind fun n20=>
  (app 24 l3 [(⟨x8.Desk,n20⟩:zo)]).bind fun l25=>
  qae N l K l25 n10
  else
  some l3
def qed (N:Nat) (l:List qf):Option ((List zo)×Int):=
 (zC N l).bind fun r1=>
 if(!decide (r1=0))=true then
 some ([],r1)
 else
 (qae N l N ([]:List zo) 0).bind fun l5=>
 some (l5,0)
theorem qmZ (N:Nat) (l:List qf) {res:(List zo)×Int} (h:qed N l=some res):qj Tryz.prog (.fn 22) [vl qa l] [] (.tuple [vl ky res.1,.i res.2]) []:=by
 unfold qed at h
 refine Goes.fnW Tryz.func22 rfl rfl (m:=69) rfl (rs:=[.tmp 2,.tmp 3]) rfl (l:=(kD l [])) rfl ?_
 refine sh fol (kD l []) ?_
 refine sq ?_
 obtain⟨r1,e_r1,h⟩:=bnd h
 refine sq (gr fol [1] (kD l [(4,.i r1)]) (ac (cv (jl N l e_r1)) az) ?_)
 refine sh fol (kD l [(4,.i r1),(14,.bool (!decide (r1=0)))]) ?_
 refine ihB h (fun c2 h=>?_) (fun c2 h=>?_)
 ·refine sh fol [(2,.nilslice),(3,.i r1)] ?_
  refine Goes.ret ?_
  obtain rfl:=si h
  exact(gw2 [.nilslice,.i r1] (FzW.tuple (qA.cons (FzW.nilv (E:=ky)) (qA.cons (FzW.still tI) qA.nil))))
 ·refine Goes.skip ?_
  refine sh fol (kD l [(5,.nilslice)]) ?_
  refine sq ?_
  refine sh fol (kD l [(5,.nilslice),(6,.i 0)]) ?_
  refine Goes.block ?_
  obtain⟨r6,g6,h⟩:=bnd h
  refine Goes.imp (Q:=fun x s'=>(x= .exit 0∧ ∃l5,l5=r6∧Sub s' (ofG 69 [(5,.gslice 0 l5.length 2)],(kJ l5 [])))) ?_ ?_
  ·refine Goes.sub (s':=(ofG 69 (kD l [(5,.gslice 0 ([]:List zo).length 2),(6,.i 0)]),(kBg []))) (Sub.norm [] [none] rfl rfl (.keep (.same (qp qa _)) (.keep .nil (.keep (.same nI) .nil))) (.fresh .nil)) ?_
   refine Goes.loopS (fun M s=> ∃(l3:List zo) (n4:Int),s=(ofG 69 (kD l ((5,.gslice 0 l3.length 2)::(kBM n4))),(kJ l3 []))∧qae N l M l3 n4=some r6) ?_ (m:=N) ⟨_,_,rfl,g6⟩
   rintro M s ⟨l3,n4,rfl,g6⟩
   cases M with
   |zero=>simp only[qae]at g6;cases g6
   |succ M=>
    rw[qae]at g6
    refine sq ?_
    refine sh fol (kD l [(5,.gslice 0 l3.length 2),(6,.i n4),(19,.bool (decide (n4<(l.length:Int))))]) ?_
    refine ihD g6 (fun c7 g6=>?_) (fun c7 g6=>?_)
    ·refine Goes.skip ?_
     refine Goes.block ?_
     refine Goes.scope ?_
     obtain⟨x8,e_x8,g6⟩:=bnd g6
     refine sq (gq fol [2,4] (kD l (kAN l3 n4 [])) (kJ l3 [.cells [.str x8.Desk,.i 0]]) (ac (iv qdD qa e_x8) (ac (lv 0 ce9 qa e_x8 rfl) az)) ?_)
     refine sh fol (kD l (kAN l3 n4 (kBN n4))) ?_
     refine sq (Goes.block ?_)
     obtain⟨r11,g11,g6⟩:=bnd g6
     refine Goes.imp (Q:=fun x s'=>(x= .exit 2∧ ∃n10,n10=r11∧Sub s' (ofG 69 (kD l (kAN l3 n4 (kBN n10))),(kJ l3 [.cells [.str x8.Desk,.i 0]])))) ?_ ?_
     ·refine Goes.loopS (fun M s=> ∃(n9:Int),s=(ofG 69 (kD l (kAN l3 n4 (kBN n9))),(kJ l3 [.cells [.str x8.Desk,.i 0]]))∧qbg l x8 M n9=some r11) ?_ (m:=N) ⟨_,rfl,g11⟩
      rintro M s ⟨n9,rfl,g11⟩
      cases M with
      |zero=>simp only[qbg]at g11;cases g11
      |succ M=>
       rw[qbg]at g11
       refine sq ?_
       refine sq ?_
       obtain⟨b14,g_v15,g11⟩:=bnd g11
       refine Goes.cut (s':=(ofG 69 (kD l (kAN l3 n4 [(8,.i n9),(40,.bool b14)])),(kJ l3 [.cells [.str x8.Desk,.i 0]]))) ?_ ?_
       ·rcases wyD g_v15 with⟨c12,g_v15⟩|⟨c12,g_v15⟩
        ·obtain⟨x13,e_x13,g_v15⟩:=bnd g_v15
         obtain rfl:=si g_v15
         exact tr fol [4,7,9] (kD l (kAN l3 n4 [(8,.i n9),(40,.bool (x13.Desk==x8.Desk))])) (ac (gw c12) (ac (iv qdD qa e_x13) (ac (lv 0 ce9 qa e_x13 rfl) az)))
        ·obtain rfl:=si g_v15
         exact tr fol [4] (kD l (kAN l3 n4 [(8,.i n9),(40,.bool false)])) (ac (gw c12) az)
       refine ihB g11 (fun c16 g11=>?_) (fun c16 g11=>?_)
       ·refine Goes.skip ?_
        refine Goes.block ?_
        refine gh fol (kD l (kAN l3 n4 (kBN (w64 (n9+1))))) ?_
        exact⟨M,(ofG 69 (kD l (kAN l3 n4 (kBN (w64 (n9+1))))),(kJ l3 [.cells [.str x8.Desk,.i 0]])),Nat.lt_succ_self _,(Sub.refl _),_,rfl,g11⟩
       ·refine Goes.exit ?_
        obtain rfl:=si g11
        exact⟨rfl,_,rfl,(Sub.keep [0,5,6,7,8] rfl rfl)⟩
     rintro x s' ⟨rfl,n10,rfl,hsub⟩
     refine Goes.sub hsub ?_
     refine sq (Goes.label ?_)
     refine sq ?_
     obtain⟨s17,e_s17,g6⟩:=bnd g6
     refine sq (gr fol [3] (kD l (kAH l3 n10 s17 (s17.length:Int) [(48,.i 0)])) (ac (hs (.done (.opt (yf Tryz.prog 54 (vl qa l) (some (.i n4)) (some (.i n10)) none)) (vl qa s17)) (qov qdD (E:=qa) rfl (some n4) (some n10) e_s17)) az) ?_)
     refine Goes.block ?_
     obtain⟨r21,g21,g6⟩:=bnd g6
     refine Goes.imp (Q:=fun x s'=>(x= .exit 4∧ ∃n20,n20=r21∧Sub s' (ofG 69 (kD l ((5,.gslice 0 l3.length 2)::(kBV (kBN n10)))),(kJ l3 (kAE x8.Desk n20 []))))) ?_ ?_
     ·refine Goes.loopS (fun M s=> ∃(n18:Int) (n19:Int),s=(ofG 69 (kD l (kAH l3 n10 s17 (s17.length:Int) [(48,.i n19)])),(kJ l3 (kAE x8.Desk n18 [])))∧qaQ s17 M n18 n19=some r21) ?_ (m:=N) ⟨_,_,rfl,g21⟩
      rintro M s ⟨n18,n19,rfl,g21⟩
      cases M with
      |zero=>simp only[qaQ]at g21;cases g21
      |succ M=>
       rw[qaQ]at g21
       refine sh fol (kD l (kAH l3 n10 s17 (s17.length:Int) [(48,.i n19),(49,.bool (decide (n19<(s17.length:Int))))])) ?_
       refine sq ?_
       refine ihD g21 (fun c22 g21=>?_) (fun c22 g21=>?_)
       ·refine Goes.skip ?_
        refine sq (Goes.block ?_)
        obtain⟨x23,e_x23,g21⟩:=bnd g21
        refine sq (gq fol [0,1] (kD l ((5,.gslice 0 l3.length 2)::(kBV [(8,.i n10),(10,.ptr 2 0),(46,vl qa s17),(47,.i (s17.length:Int)),(48,.i n19)]))) (kJ l3 (kAE x8.Desk n18 (kE x23.Desk x23.Number x23.Clock x23.Line []))) (ac (iv qdD qa e_x23) (ac (la qeK qa e_x23) az)) ?_)
        refine sq ?_
        refine sh fol (kD l (kAH l3 n10 s17 (s17.length:Int) [(48,.i n19),(57,.bool (!decide (x23.Number=(w64 (n18+1)))))])) ?_
        refine ihB g21 (fun c24 g21=>?_) (fun c24 g21=>?_)
        ·refine Goes.exit ?_
         obtain rfl:=si g21
         exact⟨rfl,_,rfl,(Sub.norm [] [some 0,some 1] rfl rfl (.keep (.same (qp qa _)) (.keep (.gslice rfl) (.kp (.keep (.same nI) .nil)))) (.ks (.kb rfl (.same sn) .nil)))⟩
        ·refine Goes.skip ?_
         refine Goes.rg fol (kD l (kAH l3 n10 s17 (s17.length:Int) [(48,.i n19)])) (kJ l3 (kAE x8.Desk (w64 (n18+1)) (kE x23.Desk x23.Number x23.Clock x23.Line []))) ?_
         refine gh fol (kD l (kAH l3 n10 s17 (s17.length:Int) [(48,.i (w64 (n19+1)))])) ?_
         exact⟨M,(ofG 69 (kD l (kAH l3 n10 s17 (s17.length:Int) [(48,.i (w64 (n19+1)))])),(kJ l3 (kAE x8.Desk (w64 (n18+1)) []))),Nat.lt_succ_self _,(Sub.norm [] [some 0,some 1] rfl rfl (.keep (.same (qp qa _)) (.keep (.gslice rfl) (.kp (.keep (.same nI) (.keep (.same (qp qa _)) (.keep (.same nI) (.keep (.same nI) .nil))))))) (.ks (.kb rfl (.same sn) .nil))),_,_,rfl,g21⟩
       ·refine Goes.exit ?_
        obtain rfl:=si g21
        exact⟨rfl,_,rfl,(Sub.keep [0,5,7,8] rfl rfl)⟩
     rintro x s' ⟨rfl,n20,rfl,hsub⟩
     refine Goes.sub hsub ?_
     obtain⟨l25,e_l25,g6⟩:=bnd g6
     refine sq (gq fol [3] (kD l ((5,.gslice 3 l25.length 2)::(kBN n10))) (.dead::(kAE x8.Desk n20 (kAE x8.Desk n20 (kJ l25 [])))) (ac (hs (.run [0,2] (jL Tryz.prog [63,63] (.gslice 0 l3.length 2) (.slice 2 0 1 1 2)) (kJ l3 (kAE x8.Desk n20 (kAE x8.Desk n20 []))) (.gslice 3 l25.length 2) (.dead::(kAE x8.Desk n20 (kAE x8.Desk n20 (kJ l25 [])))) true) (qaF qr3 (E:=ky) rfl (qfQ (E:=ky) (ys:=[(⟨x8.Desk,n20⟩:zo)]) rfl rfl rfl rfl) (qi1 (E:=ky) (l:=l3) rfl rfl rfl e_l25 rfl))) az) ?_)
     refine gh fol (kD l ((5,.gslice 3 l25.length 2)::(kBM n10))) ?_
     exact⟨M,(ofG 69 (kD l ((5,.gslice 0 l25.length 2)::(kBM n10))),(kJ l25 [])),Nat.lt_succ_self _,(Sub.norm [] [some 3] rfl rfl (.keep (.same (qp qa _)) (.keep (.gslice rfl) (.keep (.same nI) .nil))) (.ks .nil)),_,_,rfl,g6⟩
    ·refine Goes.exit ?_
     obtain rfl:=si g6
     exact⟨rfl,_,rfl,(Sub.keep [5] rfl rfl)⟩
  rintro x s' ⟨rfl,l5,rfl,hsub⟩
  refine Goes.sub hsub ?_
  refine sh fol [(2,.gslice 0 l5.length 2),(3,.i 0)] ?_
  refine Goes.ret ?_
  obtain rfl:=si h
  exact(gw2 [.gslice 0 l5.length 2,.i 0] (FzW.tuple (qA.cons (FzW.fz (Fz.gs (E:=ky) rfl rfl (nl rfl))) (qA.cons (FzW.still tI) qA.nil))))
def jV (N:Nat) (v:List zo):Nat→Int→Option (Unit⊕Int)
 |0,_=>none
 |K+1,n2=>
  if n2<(v.length:Int)then
  (idx v n2).bind fun x6=>
  ((qcn N x6.Desk).bind fun r7=>
  (vY x6.Number 0 1000).bind fun r8=>
  if n2>0 then
  (idx v (w64 (n2-1))).bind fun x10=>
  (za (!(ltL x10.Desk x6.Desk)) 11).bind fun r11=>
  (kz N ([r7,r8,r11]:List Int)).bind fun r12=>
  some (r7,r8,r11,r12)
  else
  (za false 11).bind fun r13=>
  (kz N ([r7,r8,r13]:List Int)).bind fun r14=>
  some (r7,r8,r13,r14):Option (Int×Int×Int×Int)).bind fun(n15,n16,n17,n18)=>
  if(!decide (n18=0))=true then
  some (.inr n18)
  else
  jV N v K (w64 (n2+1))
  else
  some (.inl ())
def qbW (N:Nat) (v:List zo):Option Int:=
 if(v.length:Int)>1000 then
 some 5
 else
 (jV N v N 0).bind (fun
 |(.inl ())=>
 some 0
 |(.inr q21)=>
 some q21)
theorem qi7 (N:Nat) (v:List zo) {res:Int} (h:qbW N v=some res):qj Tryz.prog (.fn 63) [vl ky v] [] (.i res) []:=by
 unfold qbW at h
 refine Goes.fnW Tryz.func63 rfl rfl (m:=42) rfl (rs:=[.tmp 2]) rfl (l:=(kBS v [])) rfl ?_
 refine sh fol (kBS v []) ?_
 refine sq ?_
 refine sh fol (kBS v [(8,.bool (decide ((v.length:Int)>1000)))]) ?_
 refine ihD h (fun c1 h=>?_) (fun c1 h=>?_)
 ·refine sh fol [(2,.i 5)] ?_
  refine Goes.ret ?_
  obtain rfl:=si h
  exact(gw2 [.i 5] (FzW.still tI))
 ·refine Goes.skip ?_
  refine sq ?_
  refine sh fol (kBS v [(9,vl ky v),(10,.i (v.length:Int)),(11,.i 0)]) ?_
  refine Goes.block ?_
  obtain⟨r3,g3,h⟩:=bnd h
  refine Goes.imp (Q:=fun x s'=>(x= .exit 0∧(.inl ())=r3∧Sub s' (ofG 42 [],[]))∨(x= .ret∧ ∃q4,(.inr q4)=r3∧jh Tryz.prog [.tmp 2] (.i q4) .ret s')) ?_ ?_
  ·refine Goes.loopS (fun M s=> ∃(n2:Int),s=(ofG 42 (kBS v (kAj v (v.length:Int) n2 [])),[])∧jV N v M n2=some r3) ?_ (m:=N) ⟨_,rfl,g3⟩
   rintro M s ⟨n2,rfl,g3⟩
   cases M with
   |zero=>simp only[jV]at g3;cases g3
   |succ M=>
    rw[jV]at g3
    refine sh fol (kBS v (kAj v (v.length:Int) n2 [(12,.bool (decide (n2<(v.length:Int))))])) ?_
    refine sq ?_
    refine ihD g3 (fun c5 g3=>?_) (fun c5 g3=>?_)
    ·refine Goes.skip ?_
     refine sq (Goes.block ?_)
     obtain⟨x6,e_x6,g3⟩:=bnd g3
     refine sq (gq fol [1,2] (kBS v (kAn n2 (kAj v (v.length:Int) n2 []))) (kAE x6.Desk x6.Number []) (ac (iv qr3 ky e_x6) (ac (la ag67 ky e_x6) az)) ?_)
     refine sq ?_
     obtain⟨⟨n15,n16,n17,n18⟩,g_v19,g3⟩:=bnd g3
     refine Goes.cut (s':=(ofG 42 (kBS v ((5,.i n18)::(kAj v (v.length:Int) n2 []))),(kAE x6.Desk x6.Number (kBW n15 n16 n17)))) ?_ ?_
     ·obtain⟨r7,e_r7,g_v19⟩:=bnd g_v19
      obtain⟨r8,e_r8,g_v19⟩:=bnd g_v19
      rcases wyD g_v19 with⟨c9,g_v19⟩|⟨c9,g_v19⟩
      ·obtain⟨x10,e_x10,g_v19⟩:=bnd g_v19
       obtain⟨r11,e_r11,g_v19⟩:=bnd g_v19
       obtain⟨r12,e_r12,g_v19⟩:=bnd g_v19
       simp only[Option.some.injEq,Prod.mk.injEq]at g_v19
       obtain⟨rfl,rfl,rfl,rfl⟩:=g_v19
       exact qW.rq fol [2,5,8,12,14,19,21] (kBS v ((5,.i r12)::(kAj v (v.length:Int) n2 []))) (kAE x6.Desk x6.Number (kBW r7 r8 r11)) (ac (cv (qdc N x6.Desk e_r7)) (ac (cv (jE x6.Number 0 1000 e_r8)) (ac (gw c9) (ac (iv qr3 ky e_x10) (ac (lv 0 ce9 ky e_x10 rfl) (ac (cv (kr (!(ltL x10.Desk x6.Desk)) 11 e_r11)) (ac (hs (.call 37 [.slice 1 0 3 3 1] (kAE x6.Desk x6.Number (kBW r7 r8 r11)) [1] [vl encI ([r7,r8,r11]:List Int)] (.i r12)) (qbz (FzL.cons (Fz.lit rfl rfl (FzL.still (AllST.cons tI (AllST.cons tI (AllST.cons tI AllST.nil))))) FzL.nil) (zA N ([r7,r8,r11]:List Int) e_r12) tI rfl)) az)))))))
      ·obtain⟨r13,e_r13,g_v19⟩:=bnd g_v19
       obtain⟨r14,e_r14,g_v19⟩:=bnd g_v19
       simp only[Option.some.injEq,Prod.mk.injEq]at g_v19
       obtain⟨rfl,rfl,rfl,rfl⟩:=g_v19
       exact qW.rq fol [2,5,8,19,21] (kBS v ((5,.i r14)::(kAj v (v.length:Int) n2 []))) (kAE x6.Desk x6.Number (kBW r7 r8 r13)) (ac (cv (qdc N x6.Desk e_r7)) (ac (cv (jE x6.Number 0 1000 e_r8)) (ac (gw c9) (ac (cv (kr false 11 e_r13)) (ac (hs (.call 37 [.slice 1 0 3 3 1] (kAE x6.Desk x6.Number (kBW r7 r8 r13)) [1] [vl encI ([r7,r8,r13]:List Int)] (.i r14)) (qbz (FzL.cons (Fz.lit rfl rfl (FzL.still (AllST.cons tI (AllST.cons tI (AllST.cons tI AllST.nil))))) FzL.nil) (zA N ([r7,r8,r13]:List Int) e_r14) tI rfl)) az)))))
     try dsimp only at g3
     refine sh fol (kBS v ((5,.i n18)::(kAj v (v.length:Int) n2 [(39,.bool (!decide (n18=0)))]))) ?_
     refine ihB g3 (fun c20 g3=>?_) (fun c20 g3=>?_)
     ·refine sh fol [(2,.i n18)] ?_
      refine Goes.ret ?_
      obtain rfl:=si g3
      exact Or.inr (⟨rfl,_,rfl,(gw2 [.i n18] (FzW.still tI))⟩)
     ·refine Goes.skip ?_
      refine gh fol (kBS v (kAj v (v.length:Int) (w64 (n2+1)) [])) ?_
      exact⟨M,(ofG 42 (kBS v (kAj v (v.length:Int) (w64 (n2+1)) [])),[]),Nat.lt_succ_self _,(Sub.norm [] [] rfl rfl (.keep (.same (qp ky _)) (.keep (.same (qp ky _)) (.keep (.same nI) (.keep (.same nI) .nil)))) .nil),_,rfl,g3⟩
    ·refine Goes.exit ?_
     obtain rfl:=si g3
     exact Or.inl (⟨rfl,rfl,(Sub.keep [] rfl rfl)⟩)
  rintro x s' (⟨rfl,rfl,hsub⟩|⟨rfl,q21,rfl,hret⟩)
  ·try dsimp only at h
   refine Goes.sub hsub ?_
   refine sh fol [(2,.i 0)] ?_
   refine Goes.ret ?_
   obtain rfl:=si h
   exact(gw2 [.i 0] (FzW.still tI))
  ·try dsimp only at h
   obtain rfl:=si h
   exact hret
def qdp (n:qf):Option qf:=
 some n
theorem qjW (n:qf) {res:qf} (h:qdp n=some res):qj Tryz.prog (.fn 66) [.agg (kAf n.Desk n.Number n.Clock n.Line)] [] (.agg (kAf res.Desk res.Number res.Clock res.Line)) []:=by
 unfold qdp at h
 refine Goes.fnW Tryz.func66 rfl rfl (m:=4) rfl (rs:=[.cell 2 112]) rfl (l:=(kBh n.Desk n.Number n.Clock n.Line [])) rfl ?_
 refine sg fol (kAR kBT) (kE n.Desk n.Number n.Clock n.Line [.cells [.str [],.i 0,.i 0,.str []]]) ?_
 refine sg fol kBT (kE n.Desk n.Number n.Clock n.Line (kE n.Desk n.Number n.Clock n.Line [])) ?_
 refine Goes.ret ?_
 obtain rfl:=si h
 exact(gw2 [.agg (kAf n.Desk n.Number n.Clock n.Line)] (FzW.agg (qA.cons (FzW.still tS) (qA.cons (FzW.still tI) (qA.cons (FzW.still tI) (qA.cons (FzW.still tS) qA.nil))))))
def qcq (a0_:Str) (a1_:Int) (a2_:Int) (a3_:Str) (a4_:List (Str×Int)):Option Unit:=
 some ()
theorem qhR (a0_:Str) (a1_:Int) (a2_:Int) (a3_:Str) (a4_:List (Str×Int)) (h:qcq a0_ a1_ a2_ a3_ a4_=some ()):qj Tryz.prog (.fn 65) (kBd a0_ a1_ a2_ a3_ [.ptr 0 0]) (kAY [mI a4_]) (.bool (decide (a1_>((qeA a4_ a0_).getD 0)))) (kAY [mI a4_]):=by
 unfold qcq at h
 refine Goes.fnH Tryz.func65 rfl rfl (m:=11) rfl (rs:=[.tmp 3]) rfl (l:=(kBh a0_ a1_ a2_ a3_ (kAR []))) rfl ?_
 intro B hB
 refine sg fol (kAR [(2,.ptr 2 0)]) (kAY (mI a4_::(kE a0_ a1_ a2_ a3_ []))) ?_
 refine sq (gr fol [5] [(3,.bool (decide (a1_>((qeA a4_ a0_).getD 0))))] (ac (hs (.run [1] (vg Tryz.prog 60 (.map 1) (.str a0_) false) (kAY (mI a4_::(kE a0_ a1_ a2_ a3_ []))) (.i ((qeA a4_ a0_).getD 0)) (kAY (mI a4_::(kE a0_ a1_ a2_ a3_ []))) false) (qo1 (z:=0) (f:=fI) qrH qvq rfl a0_)) az) ?_)
 refine Goes.ret ?_
 exact(gh2 [.bool (decide (a1_>((qeA a4_ a0_).getD 0)))] (Sub.norm [] [some 0,some 1] (by rw[hB];rfl) rfl (.keep (.same nB) .nil) (.kb rfl (.cells (rc (.map rfl) rn)) (.kb rfl (.map (mpN fun _=>nS) (mpN fun _=>nI)) .nil))))
def jd (a0_:List qf) (a1_:List (Str×Int)):Nat→(List qf)→Int→Option (List qf)
 |0,_,_=>none
 |K+1,l2,n3=>
  if n3<(a0_.length:Int)then
  (((idx a0_ n3).bind fun x9=>
  (qcq x9.Desk x9.Number x9.Clock x9.Line a1_).bind fun _=>
  if(decide (x9.Number>((qeA a1_ x9.Desk).getD 0)))=true then
  (qdp x9).bind fun r12=>
  (app 48 l2 [r12]).bind fun l13=>
  some l13
  else
  some l2:Option (List qf))).bind fun l7=>
  jd a0_ a1_ K l7 (w64 (n3+1))
  else
  some l2
def qcc (N:Nat) (a0_:List qf) (a1_:List (Str×Int)):Option (List qf):=
 (jd a0_ a1_ N ([]:List qf) 0).bind fun l4=>
 some l4
theorem qhD (N:Nat) (a0_:List qf) (a1_:List (Str×Int)) {l1:List qf} (h:qcc N a0_ a1_=some l1):qj Tryz.prog (.fn 64) (kBI a0_ [.func (.func 65) [] [.ptr 0 0],.func (.func 66) [] []]) (kAY [mI a1_]) (.gslice 2 l1.length 4) (kAY (mI a1_::(kC l1 []))):=by
 unfold qcc at h
 refine Goes.fnH Tryz.func64 rfl rfl (m:=27) rfl (rs:=[.tmp 6]) rfl (l:=(kD a0_ [(1,.func (.func 65) [] [.ptr 0 0]),(2,.func (.func 66) [] [])])) rfl ?_
 intro B hB
 refine sh fol (kD a0_ [(1,.func (.func 65) [] [.ptr 0 0]),(2,.func (.func 66) [] [])]) ?_
 refine sh fol (kD a0_ [(1,.func (.func 65) [] [.ptr 0 0]),(2,.func (.func 66) [] []),(7,.nilslice)]) ?_
 refine sq ?_
 refine sh fol [(1,.func (.func 65) [] [.ptr 0 0]),(2,.func (.func 66) [] []),(7,.nilslice),(10,vl qa a0_),(11,.i (a0_.length:Int)),(12,.i 0)] ?_
 refine Goes.block ?_
 obtain⟨r5,g5,h⟩:=bnd h
 refine Goes.imp (Q:=fun x s'=>(x= .exit 0∧ ∃l4,l4=r5∧Sub s' (ofG 27 (kBO l4 []),(kAY (mI a1_::(kC l4 [])))))) ?_ ?_
 ·refine Goes.sub (s':=(ofG 27 [(1,.func (.func 65) [] [.ptr 0 0]),(2,.func (.func 66) [] []),(7,.gslice 2 ([]:List qf).length 4),(10,vl qa a0_),(11,.i (a0_.length:Int)),(12,.i 0)],(kAY (mI a1_::kAb)))) (Sub.norm [] [some 0,some 1,none] (by rw[hB];rfl) rfl (.keep (.funcL (sn) (rc (.ptr rfl) rn)) (.keep (.same (qK.func sn sn)) (.keep .nil (.keep (.same (qp qa _)) (.keep (.same nI) (.keep (.same nI) .nil)))))) (.kb rfl (.cells (rc (.map rfl) rn)) (.kb rfl (.map (mpN fun _=>nS) (mpN fun _=>nI)) (.fresh .nil)))) ?_
  refine Goes.loopS (fun M s=> ∃(l2:List qf) (n3:Int),s=(ofG 27 ((1,.func (.func 65) [] [.ptr 0 0])::(2,.func (.func 66) [] [])::(kBO l2 (kV a0_ (a0_.length:Int) n3 []))),(kAY (mI a1_::(kC l2 []))))∧jd a0_ a1_ M l2 n3=some r5) ?_ (m:=N) ⟨_,_,rfl,g5⟩
  rintro M s ⟨l2,n3,rfl,g5⟩
  cases M with
  |zero=>simp only[jd]at g5;cases g5
  |succ M=>
   rw[jd]at g5
   refine sh fol ((1,.func (.func 65) [] [.ptr 0 0])::(2,.func (.func 66) [] [])::(kBO l2 (kV a0_ (a0_.length:Int) n3 [(13,.bool (decide (n3<(a0_.length:Int))))]))) ?_
   refine sq ?_
   refine ihD g5 (fun c6 g5=>?_) (fun c6 g5=>?_)
   ·refine Goes.skip ?_
    refine sq ?_
    obtain⟨r8,g8,g5⟩:=bnd g5
    refine Goes.imp (Q:=fun x s'=>(x= .normal∧ ∃l7,l7=r8∧Sub s' (ofG 27 ((1,.func (.func 65) [] [.ptr 0 0])::(2,.func (.func 66) [] [])::(kBO l7 (kV a0_ (a0_.length:Int) n3 []))),(kAY (mI a1_::(kC l7 [])))))) ?_ ?_
    ·refine Goes.block ?_
     obtain⟨x9,e_x9,g8⟩:=bnd g8
     refine sq (gq fol [0,1] ((1,.func (.func 65) [] [.ptr 0 0])::(2,.func (.func 66) [] [])::(kBO l2 ((9,.ptr 3 0)::(kV a0_ (a0_.length:Int) n3 [])))) (kAY (mI a1_::(kC l2 (kE x9.Desk x9.Number x9.Clock x9.Line [])))) (ac (iv qdD qa e_x9) (ac (la qeK qa e_x9) az)) ?_)
     obtain⟨_,e_r10,g8⟩:=bnd g8
     refine sq (gr fol [2] ((1,.func (.func 65) [] [.ptr 0 0])::(2,.func (.func 66) [] [])::(kBO l2 ((9,.ptr 3 0)::(kV a0_ (a0_.length:Int) n3 [(18,.bool (decide (x9.Number>((qeA a1_ x9.Desk).getD 0))))])))) (ac (hs (.callH 65 (kBd x9.Desk x9.Number x9.Clock x9.Line [.ptr 0 0]) (kAY (mI a1_::(kC l2 (kE x9.Desk x9.Number x9.Clock x9.Line [])))) [0,1] (.bool (decide (x9.Number>((qeA a1_ x9.Desk).getD 0)))) (kAY (mI a1_::(kC l2 (kE x9.Desk x9.Number x9.Clock x9.Line []))))) (xY [some 0,some 1] [some 0,some 1,none,none] (qhR x9.Desk x9.Number x9.Clock x9.Line a1_ e_r10) (.kb rfl (.cells (rc (.map rfl) rn)) (.kb rfl (.map (mpN fun _=>nS) (mpN fun _=>nI)) .nil)) rfl rfl (.back rfl rfl (.cells (rc (.map rfl) rn)) rfl (.back rfl rfl (.map (mpN fun _=>nS) (mpN fun _=>nI)) rfl (.old rfl rfl (.old rfl rfl .nil)))) (rc (.same (qK.agg sn)) (rc (.ptr rfl) rn)) (.same nB) rfl)) az) ?_)
     refine ihB g8 (fun c11 g8=>?_) (fun c11 g8=>?_)
     ·obtain⟨r12,e_r12,g8⟩:=bnd g8
      obtain⟨l13,e_l13,g8⟩:=bnd g8
      refine gq fol [3,5] ((1,.func (.func 65) [] [.ptr 0 0])::(2,.func (.func 66) [] [])::(7,.gslice 5 l13.length 4)::(kV a0_ (a0_.length:Int) n3 [])) (kAY (mI a1_:: .dead::(kE x9.Desk x9.Number x9.Clock x9.Line (kE r12.Desk r12.Number r12.Clock r12.Line (kC l13 []))))) (ac (cv (qjW x9 e_r12)) (ac (hs (.run [2,4] (jL Tryz.prog [54,54] (.gslice 2 l2.length 4) (.slice 4 0 1 1 4)) (kAY (mI a1_::(kC l2 (kE x9.Desk x9.Number x9.Clock x9.Line (kE r12.Desk r12.Number r12.Clock r12.Line []))))) (.gslice 5 l13.length 4) (kAY (mI a1_:: .dead::(kE x9.Desk x9.Number x9.Clock x9.Line (kE r12.Desk r12.Number r12.Clock r12.Line (kC l13 []))))) true) (qaF qdD (E:=qa) rfl (qfQ (E:=qa) (ys:=[r12]) rfl rfl rfl rfl) (qi1 (E:=qa) (l:=l2) rfl rfl rfl e_l13 rfl))) az)) ?_
      obtain rfl:=si g8
      exact⟨rfl,_,rfl,(Sub.norm [] [some 0,some 1,some 5] (by rw[hB];rfl) rfl (.keep (.funcL (sn) (rc (.ptr rfl) rn)) (.keep (.same (qK.func sn sn)) (.keep (.gslice rfl) (.keep (.same (qp qa _)) (.keep (.same nI) (.keep (.same nI) .nil)))))) (.kb rfl (.cells (rc (.map rfl) rn)) (.kb rfl (.map (mpN fun _=>nS) (mpN fun _=>nI)) (.ks .nil))))⟩
     ·refine Goes.skip ?_
      obtain rfl:=si g8
      exact⟨rfl,_,rfl,(Sub.norm [] [some 0,some 1,some 2] (by rw[hB];rfl) rfl (.keep (.funcL (sn) (rc (.ptr rfl) rn)) (.keep (.same (qK.func sn sn)) (.keep (.gslice rfl) (.drop (.keep (.same (qp qa _)) (.keep (.same nI) (.keep (.same nI) .nil))))))) (.kb rfl (.cells (rc (.map rfl) rn)) (.kb rfl (.map (mpN fun _=>nS) (mpN fun _=>nI)) (.ks .nil))))⟩
    rintro x s' ⟨rfl,l7,rfl,hsub⟩
    refine Goes.sub hsub ?_
    refine gh fol ((1,.func (.func 65) [] [.ptr 0 0])::(2,.func (.func 66) [] [])::(kBO l7 (kV a0_ (a0_.length:Int) (w64 (n3+1)) []))) ?_
    exact⟨M,(ofG 27 ((1,.func (.func 65) [] [.ptr 0 0])::(2,.func (.func 66) [] [])::(kBO l7 (kV a0_ (a0_.length:Int) (w64 (n3+1)) []))),(kAY (mI a1_::(kC l7 [])))),Nat.lt_succ_self _,(Sub.refl _),_,_,rfl,g5⟩
   ·refine Goes.exit ?_
    obtain rfl:=si g5
    exact⟨rfl,_,rfl,(Sub.keep [7] rfl rfl)⟩
 rintro x s' ⟨rfl,l4,rfl,hsub⟩
 refine Goes.sub hsub ?_
 refine sh fol [(6,.gslice 2 l4.length 4)] ?_
 refine Goes.ret ?_
 obtain rfl:=si h
 exact(gh2 [.gslice 2 l4.length 4] (qig.refl _ _))
def qau (v:List zo):Nat→(List (Str×Int))→Int→Option (List (Str×Int))
 |0,_,_=>none
 |K+1,l5,n6=>
  if n6<(v.length:Int)then
  (idx v n6).bind fun x10=>
  (some (qjQ l5 x10.Desk x10.Number)).bind fun m11=>
  qau v K m11 (w64 (n6+1))
  else
  some l5
def qdQ (N:Nat) (l:List qf) (v:List zo):Option ((List qf)×Int):=
 (zC N l).bind fun r1=>
 (qbW N v).bind fun r2=>
 (kz N ([r1,r2]:List Int)).bind fun r3=>
 if(!decide (r3=0))=true then
 some ([],r3)
 else
 (qau v N ([]:List (Str×Int)) 0).bind fun l7=>
 (qcc N l l7).bind fun l13=>
 some (l13,0)
theorem qlU (N:Nat) (l:List qf) (v:List zo) {res:(List qf)×Int} (h:qdQ N l v=some res):qj Tryz.prog (.fn 23) (kBI l [vl ky v]) [] (.tuple (kBI res.1 [.i res.2])) []:=by
 unfold qdQ at h
 refine Goes.fnW Tryz.func23 rfl rfl (m:=35) rfl (rs:=[.tmp 4,.tmp 5]) rfl (l:=(kD l [(1,vl ky v)])) rfl ?_
 refine sh fol (kD l [(1,vl ky v)]) ?_
 refine sq ?_
 obtain⟨r1,e_r1,h⟩:=bnd h
 obtain⟨r2,e_r2,h⟩:=bnd h
 obtain⟨r3,e_r3,h⟩:=bnd h
 refine sq (gq fol [1,3,5] (kD l ((1,vl ky v)::(kBM r3))) (kY r1 r2) (ac (cv (jl N l e_r1)) (ac (cv (qi7 N v e_r2)) (ac (hs (.call 37 [.slice 0 0 2 2 1] (kY r1 r2) [0] [vl encI ([r1,r2]:List Int)] (.i r3)) (qbz (FzL.cons (Fz.lit rfl rfl (FzL.still (AllST.cons tI (AllST.cons tI AllST.nil)))) FzL.nil) (zA N ([r1,r2]:List Int) e_r3) tI rfl)) az))) ?_)
 refine sh fol (kD l [(1,vl ky v),(6,.i r3),(17,.bool (!decide (r3=0)))]) ?_
 refine ihB h (fun c4 h=>?_) (fun c4 h=>?_)
 ·refine sh fol ((4,.nilslice)::(kAm r3)) ?_
  refine Goes.ret ?_
  obtain rfl:=si h
  exact(gw2 [.nilslice,.i r3] (FzW.tuple (qA.cons (FzW.nilv (E:=qa)) (qA.cons (FzW.still tI) qA.nil))))
 ·refine Goes.skip ?_
  refine sg fol (kD l [(1,vl ky v),(7,.ptr 2 0)]) (.cells [.i r1,.i r2]::mI ([]:List (Str×Int))::(kAY [])) ?_
  refine sq ?_
  refine sh fol (kD l ((7,.ptr 2 0)::(kAq v (v.length:Int) [(22,.i 0)]))) ?_
  refine Goes.block ?_
  obtain⟨r8,g8,h⟩:=bnd h
  refine Goes.imp (Q:=fun x s'=>(x= .exit 0∧ ∃l7,l7=r8∧Sub s' (ofG 35 (kD l (kBX [])),(kAY [mI l7])))) ?_ ?_
  ·refine Goes.sub (s':=(ofG 35 (kD l (kBX (kAq v (v.length:Int) [(22,.i 0)]))),(kAY [mI ([]:List (Str×Int))]))) (Sub.norm [] [some 2,some 1] rfl rfl (.keep (.same (qp qa _)) (.kp (.keep (.same (qp ky _)) (.keep (.same nI) (.keep (.same nI) .nil))))) (.kb rfl (.cells (rc (.map rfl) rn)) (.kb rfl (.map (mpN fun _=>nS) (mpN fun _=>nI)) .nil))) ?_
   refine Goes.loopS (fun M s=> ∃(l5:List (Str×Int)) (n6:Int),s=(ofG 35 (kD l (kBX (kAq v (v.length:Int) [(22,.i n6)]))),(kAY [mI l5]))∧qau v M l5 n6=some r8) ?_ (m:=N) ⟨_,_,rfl,g8⟩
   rintro M s ⟨l5,n6,rfl,g8⟩
   cases M with
   |zero=>simp only[qau]at g8;cases g8
   |succ M=>
    rw[qau]at g8
    refine sh fol (kD l (kBX (kAq v (v.length:Int) [(22,.i n6),(23,.bool (decide (n6<(v.length:Int))))]))) ?_
    refine sq ?_
    refine ihD g8 (fun c9 g8=>?_) (fun c9 g8=>?_)
    ·refine Goes.skip ?_
     refine sq (Goes.block ?_)
     obtain⟨x10,e_x10,g8⟩:=bnd g8
     refine sq (gq fol [0,1] (kD l (kBX ((9,.ptr 2 0)::(kAq v (v.length:Int) [(22,.i n6)])))) (kAY (mI l5::(kAE x10.Desk x10.Number []))) (ac (iv qr3 ky e_x10) (ac (la ag67 ky e_x10) az)) ?_)
     obtain⟨m11,e_m11,g8⟩:=bnd g8
     refine gq fol [5] (kD l (kBX (kAq v (v.length:Int) [(22,.i n6)]))) (kAY (mI m11::(kAE x10.Desk x10.Number []))) (ac (hs (.run [1] (qdP Tryz.prog 60 (.map 1) (.str x10.Desk) (.i x10.Number)) (kAY (mI l5::(kAE x10.Desk x10.Number []))) .undef (kAY (mI m11::(kAE x10.Desk x10.Number []))) true) (upm qrH qvq fI rfl x10.Desk x10.Number e_m11 rfl)) az) ?_
     refine gh fol (kD l (kBX (kAq v (v.length:Int) [(22,.i (w64 (n6+1)))]))) ?_
     exact⟨M,(ofG 35 (kD l (kBX (kAq v (v.length:Int) [(22,.i (w64 (n6+1)))]))),(kAY [mI m11])),Nat.lt_succ_self _,(Sub.norm [] [some 0,some 1] rfl rfl (.keep (.same (qp qa _)) (.kp (.keep (.same (qp ky _)) (.keep (.same nI) (.keep (.same nI) .nil))))) (.kb rfl (.cells (rc (.map rfl) rn)) (.kb rfl (.map (mpN fun _=>nS) (mpN fun _=>nI)) .nil))),_,_,rfl,g8⟩
    ·refine Goes.exit ?_
     obtain rfl:=si g8
     exact⟨rfl,_,rfl,(Sub.keep [0,7] rfl rfl)⟩
  rintro x s' ⟨rfl,l7,rfl,hsub⟩
  refine Goes.sub hsub ?_
  obtain⟨l13,e_r12,h⟩:=bnd h
  refine sq (gq fol [2] ((4,.gslice 2 l13.length 4)::kBR) (kAY (mI l7::(kC l13 []))) (ac (hs (.callH 64 (kBI l [.func (.func 65) [] [.ptr 0 0],.func (.func 66) [] []]) (kAY [mI l7]) [0,1] (.gslice 2 l13.length 4) (kAY (mI l7::(kC l13 [])))) (xY [some 0,some 1] [some 0,some 1,some 2] (qhD N l l7 e_r12) (.kb rfl (.cells (rc (.map rfl) rn)) (.kb rfl (.map (mpN fun _=>nS) (mpN fun _=>nI)) .nil)) rfl rfl (.back rfl rfl (.cells (rc (.map rfl) rn)) rfl (.back rfl rfl (.map (mpN fun _=>nS) (mpN fun _=>nI)) rfl (.new rfl rfl (.same fa) rfl .nil))) (rc (.same (qp qa _)) (rc (.funcL (sn) (rc (.ptr rfl) rn)) (rc (.same (qK.func sn sn)) rn))) (.gslice rfl) rfl)) az) ?_)
  refine Goes.ret ?_
  obtain rfl:=si h
  exact(gw2 [.gslice 2 l13.length 4,.i 0] (FzW.tuple (qA.cons (FzW.fz (Fz.gs (E:=qa) rfl rfl (nl rfl))) (qA.cons (FzW.still tI) qA.nil))))
def qdF (n:qf) (o:qf):Option Int:=
 (cmp_Compare_int n.Clock o.Clock).bind fun r1=>
 some r1
theorem qho (n:qf) (o:qf) {res:Int} (h:qdF n o=some res):qj Tryz.prog (.fn 68) (kBd n.Desk n.Number n.Clock n.Line (kBd o.Desk o.Number o.Clock o.Line [])) [] (.i res) []:=by
 unfold qdF at h
 refine Goes.fnW Tryz.func68 rfl rfl (m:=10) rfl (rs:=[.tmp 4]) rfl (l:=(kBh n.Desk n.Number n.Clock n.Line [(1,.agg [.str o.Desk,.i o.Number,.i o.Clock,.str o.Line])])) rfl ?_
 refine sg fol (kAd (kA2 [])) (kE n.Desk n.Number n.Clock n.Line (kE o.Desk o.Number o.Clock o.Line [])) ?_
 obtain⟨r1,e_r1,h⟩:=bnd h
 refine sq (gr fol [4] [(4,.i r1)] (ac (cv (qg7 n.Clock o.Clock e_r1)) az) ?_)
 refine Goes.ret ?_
 obtain rfl:=si h
 exact(gw2 [.i r1] (FzW.still tI))
def xz (N:Nat) (e:qh):Nat→Int→Option (Unit⊕Int)
 |0,_=>none
 |K+1,n22=>
  if n22<(e.Names.length:Int)then
  (idx e.Names n22).bind fun x26=>
  (qcn N x26).bind fun r27=>
  if(!decide (r27=0))=true then
  some (.inr r27)
  else
  xz N e K (w64 (n22+1))
  else
  some (.inl ())
def xX (e:qh):Nat→Int→Option (Unit⊕Int)
 |0,_=>none
 |K+1,n29=>
  if n29<(e.Values.length:Int)then
  (idx e.Values n29).bind fun x33=>
  (vY x33 0 999999999).bind fun r34=>
  if(!decide (r34=0))=true then
  some (.inr r34)
  else
  xX e K (w64 (n29+1))
  else
  some (.inl ())
def qcj (N:Nat) (e:qh):Option Int:=
 ((xm).bind fun r1=>
 if(e.Kind==[109,97,107,101])=true then
 some (2,3,true)
 else
 if(e.Kind==[116,101,115,116])=true then
 some (1,2,true)
 else
 if(e.Kind==[117,115,101])=true then
 some (1,2,true)
 else
 if(e.Kind==[102,97,105,108])=true then
 some (1,1,true)
 else
 if(e.Kind==[114,101,99,97,108,108])=true then
 some (1,1,true)
 else
 if(e.Kind==[117,110,100,111])=true then
 some (0,0,true)
 else
 some (0,0,false):Option (Int×Int×Bool)).bind fun(n8,n9,b10)=>
 ((vY e.Number 1 1000).bind fun r12=>
 (za (!b10) 13).bind fun r13=>
 if(!decide ((e.Names.length:Int)=n8))=true then
 (za true 2).bind fun r15=>
 (kz N ([r12,r13,r15]:List Int)).bind fun r16=>
 some r16
 else
 (za (!decide ((e.Values.length:Int)=n9)) 2).bind fun r17=>
 (kz N ([r12,r13,r17]:List Int)).bind fun r18=>
 some r18:Option Int).bind fun n19=>
 if(!decide (n19=0))=true then
 some n19
 else
 (xz N e N 0).bind (fun
 |(.inl ())=>
 (xX e N 0).bind (fun
 |(.inl ())=>
 (za (!(e.Text==[])) 1).bind fun r36=>
 some r36
 |(.inr q37)=>
 some q37)
 |(.inr q38)=>
 some q38)
theorem qjp (N:Nat) (e:qh) {res:Int} (h:qcj N e=some res):qj Tryz.prog (.fn 38) [.agg (cE e)] [] (.i res) []:=by
 unfold qcj at h
 refine Goes.fnW Tryz.func38 rfl rfl (m:=75) rfl (rs:=[.tmp 2]) rfl (l:=[(0,.agg (cE e))]) rfl ?_
 refine sg fol (kAR []) (kAy e []) ?_
 refine sq ?_
 obtain⟨⟨n8,n9,b10⟩,g_v11,h⟩:=bnd h
 refine Goes.cutS (s':=(ofG 75 (kAR (kA2 [(4,.bool b10)])),(kAy e (kBc n8 n9 [])))) ?_ ?_
 ·obtain⟨r1,e_r1,g_v11⟩:=bnd g_v11
  rcases wyB g_v11 with⟨c2,g_v11⟩|⟨c2,g_v11⟩
  ·simp only[Option.some.injEq,Prod.mk.injEq]at g_v11
   obtain⟨rfl,rfl,rfl⟩:=g_v11
   exact qW.sub (qW.rq fol [0,3] (kAR (kA2 kAe)) (kAy e [.cells [.i 2,.i 3,.func (.func 117) [] []]]) (ac (cv (zm e_r1)) (ac (hs (.done (vg Tryz.prog 140 (fm1) (.str e.Kind) true) (.tuple (.agg [.i 2,.i 3,.func (.func 117) [] []]::kAx))) (qge qeW [[109,97,107,101],[116,101,115,116],[117,115,101],[102,97,105,108],[114,101,99,97,108,108],[117,110,100,111]] (qaR c2) rfl)) az))) (Sub.norm [] [some 0,some 1] rfl rfl (.kp (.kp (.keep (.same nB) .nil))) (.kb rfl (.same sn) (.kb rfl (.cells (rc (.same nI) (rc (.same nI) (rc (.undef) rn)))) .nil)))
  ·rcases wyB g_v11 with⟨c3,g_v11⟩|⟨c3,g_v11⟩
   ·simp only[Option.some.injEq,Prod.mk.injEq]at g_v11
    obtain⟨rfl,rfl,rfl⟩:=g_v11
    exact qW.sub (qW.rq fol [0,3] (kAR (kA2 kAe)) (kAy e [.cells [.i 1,.i 2,.func (.func 118) [] []]]) (ac (cv (zm e_r1)) (ac (hs (.done (vg Tryz.prog 140 (fm1) (.str e.Kind) true) (.tuple (.agg [.i 1,.i 2,.func (.func 118) [] []]::kAx))) (qge qeW [[109,97,107,101],[116,101,115,116],[117,115,101],[102,97,105,108],[114,101,99,97,108,108],[117,110,100,111]] (qx c2 (qaR c3)) rfl)) az))) (Sub.norm [] [some 0,some 1] rfl rfl (.kp (.kp (.keep (.same nB) .nil))) (.kb rfl (.same sn) (.kb rfl (.cells (rc (.same nI) (rc (.same nI) (rc (.undef) rn)))) .nil)))
   ·rcases wyB g_v11 with⟨c4,g_v11⟩|⟨c4,g_v11⟩
    ·simp only[Option.some.injEq,Prod.mk.injEq]at g_v11
     obtain⟨rfl,rfl,rfl⟩:=g_v11
     exact qW.sub (qW.rq fol [0,3] (kAR (kA2 kAe)) (kAy e [.cells [.i 1,.i 2,.func (.func 119) [] []]]) (ac (cv (zm e_r1)) (ac (hs (.done (vg Tryz.prog 140 (fm1) (.str e.Kind) true) (.tuple (.agg [.i 1,.i 2,.func (.func 119) [] []]::kAx))) (qge qeW [[109,97,107,101],[116,101,115,116],[117,115,101],[102,97,105,108],[114,101,99,97,108,108],[117,110,100,111]] (qx c2 (qx c3 (qaR c4))) rfl)) az))) (Sub.norm [] [some 0,some 1] rfl rfl (.kp (.kp (.keep (.same nB) .nil))) (.kb rfl (.same sn) (.kb rfl (.cells (rc (.same nI) (rc (.same nI) (rc (.undef) rn)))) .nil)))
    ·rcases wyB g_v11 with⟨c5,g_v11⟩|⟨c5,g_v11⟩
     ·simp only[Option.some.injEq,Prod.mk.injEq]at g_v11
      obtain⟨rfl,rfl,rfl⟩:=g_v11
      exact qW.sub (qW.rq fol [0,3] (kAR (kA2 kAe)) (kAy e [.cells [.i 1,.i 1,.func (.func 120) [] []]]) (ac (cv (zm e_r1)) (ac (hs (.done (vg Tryz.prog 140 (fm1) (.str e.Kind) true) (.tuple (.agg [.i 1,.i 1,.func (.func 120) [] []]::kAx))) (qge qeW [[109,97,107,101],[116,101,115,116],[117,115,101],[102,97,105,108],[114,101,99,97,108,108],[117,110,100,111]] (qx c2 (qx c3 (qx c4 (qaR c5)))) rfl)) az))) (Sub.norm [] [some 0,some 1] rfl rfl (.kp (.kp (.keep (.same nB) .nil))) (.kb rfl (.same sn) (.kb rfl (.cells (rc (.same nI) (rc (.same nI) (rc (.undef) rn)))) .nil)))
     ·rcases wyB g_v11 with⟨c6,g_v11⟩|⟨c6,g_v11⟩
      ·simp only[Option.some.injEq,Prod.mk.injEq]at g_v11
       obtain⟨rfl,rfl,rfl⟩:=g_v11
       exact qW.sub (qW.rq fol [0,3] (kAR (kA2 kAe)) (kAy e [.cells [.i 1,.i 1,.func (.func 121) [] []]]) (ac (cv (zm e_r1)) (ac (hs (.done (vg Tryz.prog 140 (fm1) (.str e.Kind) true) (.tuple (.agg [.i 1,.i 1,.func (.func 121) [] []]::kAx))) (qge qeW [[109,97,107,101],[116,101,115,116],[117,115,101],[102,97,105,108],[114,101,99,97,108,108],[117,110,100,111]] (qx c2 (qx c3 (qx c4 (qx c5 (qaR c6))))) rfl)) az))) (Sub.norm [] [some 0,some 1] rfl rfl (.kp (.kp (.keep (.same nB) .nil))) (.kb rfl (.same sn) (.kb rfl (.cells (rc (.same nI) (rc (.same nI) (rc (.undef) rn)))) .nil)))
      ·rcases wyB g_v11 with⟨c7,g_v11⟩|⟨c7,g_v11⟩
       ·simp only[Option.some.injEq,Prod.mk.injEq]at g_v11
        obtain⟨rfl,rfl,rfl⟩:=g_v11
        exact qW.sub (qW.rq fol [0,3] (kAR (kA2 kAe)) (kAy e kBb) (ac (cv (zm e_r1)) (ac (hs (.done (vg Tryz.prog 140 (fm1) (.str e.Kind) true) (.tuple (kBH kAx))) (qge qeW [[109,97,107,101],[116,101,115,116],[117,115,101],[102,97,105,108],[114,101,99,97,108,108],[117,110,100,111]] (qx c2 (qx c3 (qx c4 (qx c5 (qx c6 (qaR c7)))))) rfl)) az))) (Sub.norm [] [some 0,some 1] rfl rfl (.kp (.kp (.keep (.same nB) .nil))) (.kb rfl (.same sn) (.kb rfl (.cells (rc (.same nI) (rc (.same nI) (rc (.undef) rn)))) .nil)))
       ·simp only[Option.some.injEq,Prod.mk.injEq]at g_v11
        obtain⟨rfl,rfl,rfl⟩:=g_v11
        exact qW.sub (qW.rq fol [0,3] (kAR (kA2 kAK)) (kAy e kBb) (ac (cv (zm e_r1)) (ac (hs (.done (vg Tryz.prog 140 (fm1) (.str e.Kind) true) (.tuple (kBH [.bool false]))) (qtk qeW [[109,97,107,101],[116,101,115,116],[117,115,101],[102,97,105,108],[114,101,99,97,108,108],[117,110,100,111]] (qx c2 (qx c3 (qx c4 (qx c5 (qx c6 (qx c7 (rfl))))))))) az))) (Sub.norm [] [some 0,some 1] rfl rfl (.kp (.kp (.keep (.same nB) .nil))) (.kb rfl (.same sn) (.kb rfl (.cells (rc (.same nI) (rc (.same nI) (rc (.undef) rn)))) .nil)))
 intro _ hsub
 try dsimp only at h
 refine Goes.sub hsub ?_
 refine sq ?_
 refine sq ?_
 obtain⟨n19,g_v20,h⟩:=bnd h
 refine Goes.cutS (s':=(ofG 75 (kAR (kAm n19)),(kAy e []))) ?_ ?_
 ·obtain⟨r12,e_r12,g_v20⟩:=bnd g_v20
  obtain⟨r13,e_r13,g_v20⟩:=bnd g_v20
  rcases wyB g_v20 with⟨c14,g_v20⟩|⟨c14,g_v20⟩
  ·obtain⟨r15,e_r15,g_v20⟩:=bnd g_v20
   obtain⟨r16,e_r16,g_v20⟩:=bnd g_v20
   obtain rfl:=si g_v20
   exact qW.sub (qW.rq fol [2,5,12,20,22] (kAR (kAm r16)) (kAy e (kBc n8 n9 (kBW r12 r13 r15))) (ac (cv (jE e.Number 1 1000 e_r12)) (ac (cv (kr (!b10) 13 e_r13)) (ac (gw c14) (ac (cv (kr true 2 e_r15)) (ac (hs (.call 37 [.slice 2 0 3 3 1] (kAy e (kBc n8 n9 (kBW r12 r13 r15))) [2] [vl encI ([r12,r13,r15]:List Int)] (.i r16)) (qbz (FzL.cons (Fz.lit rfl rfl (FzL.still (AllST.cons tI (AllST.cons tI (AllST.cons tI AllST.nil))))) FzL.nil) (zA N ([r12,r13,r15]:List Int) e_r16) tI rfl)) az)))))) (Sub.norm [] [some 0] rfl rfl (.kp (.keep (.same nI) .nil)) (.kb rfl (.same sn) .nil))
  ·obtain⟨r17,e_r17,g_v20⟩:=bnd g_v20
   obtain⟨r18,e_r18,g_v20⟩:=bnd g_v20
   obtain rfl:=si g_v20
   exact qW.sub (qW.rq fol [2,5,12,20,22] (kAR (kAm r18)) (kAy e (kBc n8 n9 (kBW r12 r13 r17))) (ac (cv (jE e.Number 1 1000 e_r12)) (ac (cv (kr (!b10) 13 e_r13)) (ac (gw c14) (ac (cv (kr (!decide ((e.Values.length:Int)=n9)) 2 e_r17)) (ac (hs (.call 37 [.slice 2 0 3 3 1] (kAy e (kBc n8 n9 (kBW r12 r13 r17))) [2] [vl encI ([r12,r13,r17]:List Int)] (.i r18)) (qbz (FzL.cons (Fz.lit rfl rfl (FzL.still (AllST.cons tI (AllST.cons tI (AllST.cons tI AllST.nil))))) FzL.nil) (zA N ([r12,r13,r17]:List Int) e_r18) tI rfl)) az)))))) (Sub.norm [] [some 0] rfl rfl (.kp (.keep (.same nI) .nil)) (.kb rfl (.same sn) .nil))
 intro _ hsub
 refine Goes.sub hsub ?_
 refine sh fol (kAR [(5,.i n19),(43,.bool (!decide (n19=0)))]) ?_
 refine ihB h (fun c21 h=>?_) (fun c21 h=>?_)
 ·refine sh fol [(2,.i n19)] ?_
  refine Goes.ret ?_
  obtain rfl:=si h
  exact(gw2 [.i n19] (FzW.still tI))
 ·refine Goes.skip ?_
  refine sq ?_
  refine sh fol (kAR [(46,vl encS e.Names),(47,.i (e.Names.length:Int)),(48,.i 0)]) ?_
  refine Goes.block ?_
  obtain⟨r23,g23,h⟩:=bnd h
  refine Goes.imp (Q:=fun x s'=>(x= .exit 0∧(.inl ())=r23∧Sub s' (ofG 75 (kAR []),(kAy e [])))∨(x= .ret∧ ∃q24,(.inr q24)=r23∧jh Tryz.prog [.tmp 2] (.i q24) .ret s')) ?_ ?_
  ·refine Goes.loopS (fun M s=> ∃(n22:Int),s=(ofG 75 (kAR (kBD e.Names (e.Names.length:Int) n22 [])),(kAy e []))∧xz N e M n22=some r23) ?_ (m:=N) ⟨_,rfl,g23⟩
   rintro M s ⟨n22,rfl,g23⟩
   cases M with
   |zero=>simp only[xz]at g23;cases g23
   |succ M=>
    rw[xz]at g23
    refine sh fol (kAR (kBD e.Names (e.Names.length:Int) n22 [(49,.bool (decide (n22<(e.Names.length:Int))))])) ?_
    refine sq ?_
    refine ihD g23 (fun c25 g23=>?_) (fun c25 g23=>?_)
    ·refine Goes.skip ?_
     refine sq (Goes.block ?_)
     obtain⟨x26,e_x26,g23⟩:=bnd g23
     refine sq (gr fol [0,1] (kAR ((7,.str x26)::(kBD e.Names (e.Names.length:Int) n22 []))) (ac (iv qdk encS e_x26) (ac (lv 0 ce9 encS e_x26 rfl) az)) ?_)
     obtain⟨r27,e_r27,g23⟩:=bnd g23
     refine sq (gr fol [1] (kAR ((8,.i r27)::(kBD e.Names (e.Names.length:Int) n22 []))) (ac (cv (qdc N x26 e_r27)) az) ?_)
     refine sh fol (kAR ((8,.i r27)::(kBD e.Names (e.Names.length:Int) n22 [(55,.bool (!decide (r27=0)))]))) ?_
     refine ihB g23 (fun c28 g23=>?_) (fun c28 g23=>?_)
     ·refine sh fol [(2,.i r27)] ?_
      refine Goes.ret ?_
      obtain rfl:=si g23
      exact Or.inr (⟨rfl,_,rfl,(gw2 [.i r27] (FzW.still tI))⟩)
     ·refine Goes.skip ?_
      refine gh fol (kAR (kBD e.Names (e.Names.length:Int) (w64 (n22+1)) [])) ?_
      exact⟨M,(ofG 75 (kAR (kBD e.Names (e.Names.length:Int) (w64 (n22+1)) [])),(kAy e [])),Nat.lt_succ_self _,(Sub.refl _),_,rfl,g23⟩
    ·refine Goes.exit ?_
     obtain rfl:=si g23
     exact Or.inl (⟨rfl,rfl,(Sub.keep [1] rfl rfl)⟩)
  rintro x s' (⟨rfl,rfl,hsub⟩|⟨rfl,q38,rfl,hret⟩)
  ·try dsimp only at h
   refine Goes.sub hsub ?_
   refine sq ?_
   refine sh fol (kAR [(59,vl encI e.Values),(60,.i (e.Values.length:Int)),(61,.i 0)]) ?_
   refine Goes.block ?_
   obtain⟨r30,g30,h⟩:=bnd h
   refine Goes.imp (Q:=fun x s'=>(x= .exit 2∧(.inl ())=r30∧Sub s' (ofG 75 (kAR []),(kAy e [])))∨(x= .ret∧ ∃q31,(.inr q31)=r30∧jh Tryz.prog [.tmp 2] (.i q31) .ret s')) ?_ ?_
   ·refine Goes.loopS (fun M s=> ∃(n29:Int),s=(ofG 75 (kAR (kBE e.Values (e.Values.length:Int) n29 [])),(kAy e []))∧xX e M n29=some r30) ?_ (m:=N) ⟨_,rfl,g30⟩
    rintro M s ⟨n29,rfl,g30⟩
    cases M with
    |zero=>simp only[xX]at g30;cases g30
    |succ M=>
     rw[xX]at g30
     refine sh fol (kAR (kBE e.Values (e.Values.length:Int) n29 [(62,.bool (decide (n29<(e.Values.length:Int))))])) ?_
     refine sq ?_
     refine ihD g30 (fun c32 g30=>?_) (fun c32 g30=>?_)
     ·refine Goes.skip ?_
      refine sq (Goes.block ?_)
      obtain⟨x33,e_x33,g30⟩:=bnd g30
      refine sq (gr fol [0,1] (kAR ((10,.i x33)::(kBE e.Values (e.Values.length:Int) n29 []))) (ac (iv qfS encI e_x33) (ac (lv 0 ce3 encI e_x33 rfl) az)) ?_)
      obtain⟨r34,e_r34,g30⟩:=bnd g30
      refine sq (gr fol [1] (kAR ((11,.i r34)::(kBE e.Values (e.Values.length:Int) n29 []))) (ac (cv (jE x33 0 999999999 e_r34)) az) ?_)
      refine sh fol (kAR ((11,.i r34)::(kBE e.Values (e.Values.length:Int) n29 [(68,.bool (!decide (r34=0)))]))) ?_
      refine ihB g30 (fun c35 g30=>?_) (fun c35 g30=>?_)
      ·refine sh fol [(2,.i r34)] ?_
       refine Goes.ret ?_
       obtain rfl:=si g30
       exact Or.inr (⟨rfl,_,rfl,(gw2 [.i r34] (FzW.still tI))⟩)
      ·refine Goes.skip ?_
       refine gh fol (kAR (kBE e.Values (e.Values.length:Int) (w64 (n29+1)) [])) ?_
       exact⟨M,(ofG 75 (kAR (kBE e.Values (e.Values.length:Int) (w64 (n29+1)) [])),(kAy e [])),Nat.lt_succ_self _,(Sub.refl _),_,rfl,g30⟩
     ·refine Goes.exit ?_
      obtain rfl:=si g30
      exact Or.inl (⟨rfl,rfl,(Sub.keep [1] rfl rfl)⟩)
   rintro x s' (⟨rfl,rfl,hsub⟩|⟨rfl,q37,rfl,hret⟩)
   ·try dsimp only at h
    refine Goes.sub hsub ?_
    obtain⟨r36,e_r36,h⟩:=bnd h
    refine sq (gr fol [3] [(2,.i r36)] (ac (cv (kr (!(e.Text==[])) 1 e_r36)) az) ?_)
    refine Goes.ret ?_
    obtain rfl:=si h
    exact(gw2 [.i r36] (FzW.still tI))
   ·try dsimp only at h
    obtain rfl:=si h
    exact hret
  ·try dsimp only at h
   obtain rfl:=si h
   exact hret
def qc0:Option (List Int):=
 qlP (some []) ((app 8 ([]:List Int) ([]:List Int)).bind fun l1=>
 some l1)
theorem qje {res:List Int} (h:qc0=some res):qj Tryz.prog (.fn 129) [vl encI ([]:List Int)] [] (vl encI res) []:=by
 unfold qc0 at h
 refine Goes.fnW Tryz.func129 rfl rfl (m:=8) rfl (rs:=[.tmp 2]) rfl (l:=[(0,vl encI ([]:List Int))]) rfl ?_
 refine sh fol [(0,vl encI ([]:List Int))] ?_
 refine sq ?_
 refine sh fol [(0,vl encI ([]:List Int)),(4,.anyb)] ?_
 refine Goes.condAny (by kernel_rfl) ?_ ?_
 ·replace h:=(qfq h).1
  refine sh fol [(2,.nilslice)] ?_
  refine Goes.ret ?_
  obtain rfl:=si h
  exact(gw2 [.nilslice] (FzW.nilv (E:=encI)))
 ·replace h:=(qfq h).2
  refine Goes.skip ?_
  obtain⟨l1,e_l1,h⟩:=bnd h
  refine sq (gq fol [2] [(2,.oslice 1 l1.length 1)] (.dead::(kAA l1)) (ac (hs (.run [0] (jL Tryz.prog [38,38] (.slice 0 0 0 0 1) (vl encI ([]:List Int))) [.cells []] (.oslice 1 l1.length 1) (.dead::(kAA l1)) true) (qaF qfS (E:=encI) rfl (qkM (E:=encI) rfl _) (qnD (E:=encI) rfl rfl rfl e_l1 rfl))) az) ?_)
  refine Goes.ret ?_
  obtain rfl:=si h
  exact(gw2 [.oslice 1 l1.length 1] (FzW.fz (Fz.os (E:=encI) rfl rfl (nl rfl))))
def qcZ (hd:Int) (tl:List Int):Option (List Int):=
 (app 8 ([]:List Int) (hd::tl)).bind fun l1=>
 some l1
theorem qjh (hd:Int) (tl:List Int) {res:List Int} (h:qcZ hd tl=some res):qj Tryz.prog (.fn 129) [vl encI (hd::tl)] [] (vl encI res) []:=by
 unfold qcZ at h
 refine Goes.fnW Tryz.func129 rfl rfl (m:=8) rfl (rs:=[.tmp 2]) rfl (l:=[(0,vl encI (hd::tl))]) rfl ?_
 refine sh fol [(0,vl encI (hd::tl))] ?_
 refine sq ?_
 refine sh fol ((0,vl encI (hd::tl))::kAK) ?_
 refine Goes.ifB (b:=false) (by kernel_rfl) (fun c=>(by cases c)) (fun _=>?_)
 refine Goes.skip ?_
 obtain⟨l1,e_l1,h⟩:=bnd h
 refine sq (gq fol [2] [(2,.oslice 1 l1.length 1)] (.dead::(kAA l1)) (ac (hs (.run [0] (jL Tryz.prog [38,38] (.slice 0 0 0 0 1) (vl encI (hd::tl))) [.cells []] (.oslice 1 l1.length 1) (.dead::(kAA l1)) true) (qaF qfS (E:=encI) rfl (qkM (E:=encI) rfl _) (qnD (E:=encI) rfl rfl rfl e_l1 rfl))) az) ?_)
 refine Goes.ret ?_
 obtain rfl:=si h
 exact(gw2 [.oslice 1 l1.length 1] (FzW.fz (Fz.os (E:=encI) rfl rfl (nl rfl))))
def slices_Clone_int:(List Int)→Option (List Int)
 |[]=>qc0
 |hd::tl=>qcZ hd tl
theorem qky (l:List Int) {res:List Int} (h:slices_Clone_int l=some res):qj Tryz.prog (.fn 129) [vl encI l] [] (vl encI res) []:=by
 cases l with
 |nil=>exact qje h
 |cons hd tl=>exact qjh hd tl h
def qaK (e:qh):Option qh:=
 (slices_Clone_string e.Names).bind fun r1=>
 (slices_Clone_int e.Values).bind fun r2=>
 some (⟨e.Number,e.Kind,r1,r2,e.Text⟩:qh)
theorem qff (e:qh) {res:qh} (h:qaK e=some res):qj Tryz.prog (.fn 82) [.agg (cE e)] [] (.agg (cE res)) []:=by
 unfold qaK at h
 refine Goes.fnW Tryz.func82 rfl rfl (m:=12) rfl (rs:=[.cell 2 40]) rfl (l:=[(0,.agg (cE e))]) rfl ?_
 refine sg fol (kAR kBT) (kAy e (kF [])) ?_
 obtain⟨r1,e_r1,h⟩:=bnd h
 obtain⟨r2,e_r2,h⟩:=bnd h
 refine sq (gq fol [2,5] (kAR kBT) (kA5 e.Number e.Kind r1 r2 e.Text (kF [])) (ac (cv (qe6 e.Names e_r1)) (ac (cv (qky e.Values e_r2)) az)) ?_)
 refine sg fol kBT (kA5 e.Number e.Kind r1 r2 e.Text (kA5 e.Number e.Kind r1 r2 e.Text [])) ?_
 refine Goes.ret ?_
 obtain rfl:=si h
 exact(gw2 [.agg [.i e.Number,.str e.Kind,vl encS r1,vl encI r2,.str e.Text]] (FzW.agg (qA.cons (FzW.still tI) (qA.cons (FzW.still tS) (qA.cons (FzW.still (qdE encS _ (nl rfl))) (qA.cons (FzW.still (qdE encI _ (nl rfl))) (qA.cons (FzW.still tS) qA.nil)))))))
end Go.Av
end
