/-
  Walks of functions: what each computes, as a plain function.
-/
import Derived.Test.YtkdbjocpkfeckaaGreatDoorAvJnB9
noncomputable section
namespace Go.Av
open Go.Proofs Go.RowKit
abbrev ZU:=zg .u64
abbrev ZT:=Tryz.prog
set_option linter.unusedSectionVars false
set_option linter.unusedVariables false
set_option linter.unusedSimpArgs false
set_option maxRecDepth 100000
theorem fol:Tryz.prog.follows .mixedOrders=true:=by kernel_rfl
structure zy where
 Kind:Str
 At:Int
 Letter:Int
def qG:Enc zy:=(encS.prod (encI.prod encI)).comap fun x=>(x.Kind,x.At,x.Letter)
instance:SE qG:=⟨nl rfl⟩
structure qaF where
 Half:Int
 Factors:List (List Int)
def qrS:Enc qaF:=(encI.prod (qf (qf encI))).comap fun x=>(x.Half,x.Factors)
instance:SE qrS:=⟨nl rfl⟩
structure zR where
 neg:Bool
 w:List Int
def qmO:Enc zR:=(encB.prod (qf encI)).comap fun x=>(x.neg,x.w)
instance:SE qmO:=⟨nl rfl⟩
structure qP where
 s:Int
 w:List Int
def qlz:Enc qP:=(encI.prod (qj4 ZU)).comap fun x=>(x.s,x.w)
instance:SE qlz:=⟨nl rfl⟩
structure qw where
 Num:qP
 Den:qP
def qb:Enc qw:=(qlz.prod qlz).comap fun x=>(x.Num,x.Den)
instance:SE qb:=⟨nl rfl⟩
instance:SE (qf qb):=⟨nl rfl⟩
abbrev kA (a:List Int) (x:List Blk):List Blk:= .cells (a.flatMap encI.c)::x
abbrev kB (a:Int) (b:List Int) (x:List (Nat×AV)):List (Nat×AV):=(0,.i a)::(1,vl encI b)::x
abbrev kC {α0:Type} (a:List α0) (x:List Blk):List Blk:= .cells [.slice 2 0 a.length a.length 1]::x
abbrev kD {α0:Type} (a:List α0) (x:List (Nat×AV)):List (Nat×AV):=(5,.ptr 0 0)::(7,.slice 1 0 a.length a.length 1)::x
abbrev kE {α1:Type} (a:Str) (b:List α1) (c:Int) (d:Int) (e:Int) (x:List (Nat×AV)):List (Nat×AV):=(2,.str a)::(7,.gslice 0 b.length 1)::(10,.i c)::(11,.i d)::(12,.i e)::x
abbrev kF (x:List (Nat×AV)):List (Nat×AV):=(2,.ptr 0 0)::(3,.ptr 1 0)::(4,.ptr 2 0)::x
abbrev kG (a:Int) (b:List Int) (x:List Blk):List Blk:= .cells [.i a]:: .cells [vl encI b]::x
abbrev kH {α1:Type} (a:List Int) (b:List α1) (x:List (Nat×AV)):List (Nat×AV):=(1,vl encI a)::(5,.gslice 0 b.length 1)::x
abbrev kI (x:List Blk):List Blk:= .cells [.i 0,.nilslice,.i 0,.nilslice]::x
abbrev kJ (a:List Int) (b:List Int) (x:List (Nat×AV)):List (Nat×AV):=(0,vl encI a)::(1,vl encI b)::x
abbrev kK {α3:Type} (a:List Int) (b:Int) (c:Int) (d:List α3) (e:Int) (f:Int) (x:List (Nat×AV)):List (Nat×AV):=(39,vl encI a)::(40,.i b)::(41,.i c)::(51,.slice 1 0 d.length d.length 1)::(52,.i e)::(53,.i f)::x
abbrev kL (x:List Blk):List Blk:= .cells [.i 0,.nilslice,.i 0,.nilslice,.i 0,.nilslice,.i 0,.nilslice,.i 0,.nilslice,.i 0,.nilslice,.i 0,.nilslice,.i 0,.nilslice]::x
abbrev kM (a:List Str):List Blk:=[.cells (a.flatMap encS.c)]
abbrev kN (a:List Int) (x:List (Nat×AV)):List (Nat×AV):=(1,vl encI a)::(5,.ptr 0 0)::(8,.ptr 1 0)::x
abbrev kO (a:List qw) (x:List Blk):List Blk:= .cells (a.flatMap qb.c)::x
abbrev kP (a:Str) (b:Int) (c:Int) (x:List Blk):List Blk:= .cells [.str a,.i b,.i c]::x
abbrev kQ {α0:Type} (a:List α0) (x:List (Nat×AV)):List (Nat×AV):=(3,.slice 0 0 a.length a.length 1)::x
abbrev kR (a:Int) (x:List (Nat×AV)):List (Nat×AV):=(0,.i a)::(4,.ptr 0 0)::(5,.ptr 1 0)::x
abbrev kS {α0:Type} (a:List α0) (x:List Blk):List Blk:= .cells [.slice 1 0 a.length a.length 1]::x
abbrev kT (a:List zy) (b:List Int) (c:List Int) (d:Int) (e:Int) (x:List (Nat×AV)):List (Nat×AV):=(2,vl qG a)::(7,vl encI b)::(9,vl encI c)::(45,.i d)::(46,.i e)::x
abbrev kU:List Blk:=[.cells [.str [101,120,112,111,110,101,110,116],.str [112,101,114,109],.str [108,105,110,107],.str [98,117,114,97,117]]]
abbrev kV (a:Int) (b:Int) (c:Int) (d:Int) (x:List Blk):List Blk:= .cells [.i a,.i b,.i c,.i d]::x
abbrev kW {α0:Type} (a:List α0) (b:List Int) (c:Int) (d:Int) (x:List (Nat×AV)):List (Nat×AV):=(4,.slice 5 0 a.length a.length 1)::(10,vl encI b)::(11,.i c)::(12,.i d)::x
abbrev kX (a:List Int) (x:List (Nat×AV)):List (Nat×AV):=(0,vl encI a)::x
abbrev kY (x:List Blk):List Blk:= .cells [.bool false,.nilslice]::x
abbrev kZ {α0:Type} (a:List α0) (b:Int) (c:Int) (d:Int) (e:Int):List (Nat×AV):=[(7,.gslice 1 a.length 1),(8,.i b),(9,.i c),(10,.i d),(11,.i e)]
abbrev kAA {α1:Type} (a:Int) (b:List α1) (c:List Int) (x:List (Nat×AV)):List (Nat×AV):=(3,.i a)::(4,.slice 0 0 b.length b.length 1)::(11,vl encI c)::(12,.i a)::x
abbrev kAB (x:List (Nat×AV)):List (Nat×AV):=(2,.ptr 0 0)::(3,.ptr 1 0)::x
abbrev kAC {α0:Type} (a:List α0) (x:List Blk):List Blk:= .cells [.gslice 1 a.length 1]::x
abbrev kAD (a:Int) (x:List Blk):List Blk:= .cells [.i a,.nilslice]::x
abbrev kAE (a:Int) (b:Int) (x:List Blk):List Blk:= .cells [.i a,.i b]::x
abbrev kAF (a:Bool) (b:List Int) (x:List Blk):List Blk:= .cells [.bool a,vl encI b]::x
abbrev kAG {α1:Type} (a:Str) (b:List α1) (x:List (Nat×AV)):List (Nat×AV):=(2,.str a)::(7,.gslice 0 b.length 1)::x
abbrev kAH {α1:Type} (a:Int) (b:List α1) (x:List (Nat×AV)):List (Nat×AV):=(1,.i a)::(6,.slice 0 0 b.length b.length 1)::x
abbrev kAI (a:Int) (b:Int):List (Nat×AV):=[(16,.i a),(17,.i b)]
abbrev kAJ {α0:Type} (a:List α0) (x:List Blk):List Blk:= .cells [.slice 0 0 a.length a.length 1]::x
abbrev kAK (a:Str) (b:Bool) (x:List (Nat×AV)):List (Nat×AV):=(0,.str a)::(2,.ptr 0 0)::(3,.bool b)::x
abbrev kAL (a:List Int) (b:List Int) (c:Int):List Blk:=[.cells [vl encI a],.cells [vl encI b],.cells [.i c]]
abbrev kAM (a:Int) (b:Int) (x:List (Nat×AV)):List (Nat×AV):=(0,.i a)::(1,.i b)::x
abbrev kAN (a:List zy) (x:List (Nat×AV)):List (Nat×AV):=(2,vl qG a)::x
abbrev kAO {α0:Type} (a:List α0) (b:Int) (c:Int) (x:List (Nat×AV)):List (Nat×AV):=(48,.gslice 3 a.length 1)::(49,.i b)::(50,.i c)::x
abbrev kAP:List (Nat×AV):=[(4,.bool false)]
abbrev kAQ {α0:Type} (a:List α0):List Blk:=[.cells [.gslice 0 a.length 1]]
abbrev kAR {α0:Type} (a:List α0) (b:Bool) (x:List (Nat×AV)):List (Nat×AV):=(2,.ptr 0 0)::(3,.gslice 1 a.length 1)::(4,.bool b)::x
abbrev kAS (a:Int) (b:Int) (x:List (Nat×AV)):List (Nat×AV):=(0,.int .u64 a)::(1,.int .u64 b)::x
abbrev kAT (x:List (Nat×AV)):List (Nat×AV):=(5,.ptr 0 0)::(8,.ptr 1 0)::(9,.bool true)::x
abbrev kAU {α0:Type} (a:List α0) (x:List (Nat×AV)):List (Nat×AV):=(7,.slice 1 0 a.length a.length 4)::x
abbrev kAV (a:Int) (x:List (Nat×AV)):List (Nat×AV):=(118,.slice 0 0 4 4 1)::(119,.i 4)::(120,.i a)::x
abbrev kAW (a:Str) (b:Str) (x:List (Nat×AV)):List (Nat×AV):=(0,.str a)::(1,.str b)::x
abbrev kAX (a:Int) (b:Int):List (Nat×AV):=[(12,.i a),(13,.i b)]
abbrev kAY {α0:Type} (a:List α0) (x:List (Nat×AV)):List (Nat×AV):=(4,.slice 5 0 a.length a.length 1)::x
abbrev kAZ (a:Int):List (Nat×AV):=[(5,.ptr 1 0),(7,.i a),(8,.ptr 3 0)]
abbrev kAa {α0:Type} (a:List α0) (b:Int) (c:Int) (x:List (Nat×AV)):List (Nat×AV):=(0,.slice 0 0 a.length a.length 1)::(2,.i b)::(3,.i c)::x
abbrev kAb {α0:Type} (a:List α0) (x:List (Nat×AV)):List (Nat×AV):=(5,.gslice 0 a.length 1)::x
abbrev kAc (x:List (Nat×AV)):List (Nat×AV):=(1,.ptr 0 0)::(2,.ptr 1 0)::x
abbrev kAd (a:Int):List (Nat×AV):=[(4,.i a)]
abbrev kAe {α1:Type} (a:Int) (b:List α1) (x:List Blk):List Blk:= .cells [.i a,.gslice 2 b.length 1]::x
abbrev kAf (a:Int) (b:Int) (x:List (Nat×AV)):List (Nat×AV):=(8,.i a)::(9,.i b)::x
abbrev kAg {α0:Type} (a:List α0) (x:List (Nat×AV)):List (Nat×AV):=(6,.gslice 2 a.length 1)::x
abbrev kAh (a:Int) (b:Int):List (Nat×AV):=[(20,.i a),(21,.i b)]
abbrev kAi (a:Str) (b:Str) (x:List (Nat×AV)):List (Nat×AV):=(13,.str a)::(14,.str b)::x
abbrev kAj (a:Bool):List (Nat×AV):=[(4,.bool a)]
abbrev kAk (a:Int):List (Nat×AV):=[(8,.i a)]
abbrev kAl:List (Nat×AV):=[(2,.ptr 0 0)]
abbrev kAm (a:List zy) (x:List (Nat×AV)):List (Nat×AV):=(0,vl qG a)::x
abbrev kAn (a:List Int) (x:List Blk):List Blk:= .frozen (a.flatMap encI.c)::x
abbrev kAo (a:Int) (x:List (Nat×AV)):List (Nat×AV):=(11,.i a)::(12,.ptr 2 0)::x
abbrev kAp (a:Int) (b:Bool):List (Nat×AV):=[(5,.i a),(7,.i 5),(8,.i a),(16,.bool b)]
abbrev kAq (a:List Int):List AV:=[vl encI a]
abbrev kAr (a:List zy) (b:Int) (c:Int) (x:List (Nat×AV)):List (Nat×AV):=(17,vl qG a)::(18,.i b)::(19,.i c)::x
abbrev kAs {α0:Type} (a:List α0) (x:List (Nat×AV)):List (Nat×AV):=(3,.gslice 0 a.length 1)::x
abbrev kAt (a:Int) (x:List Blk):List Blk:= .dead:: .cells [.i a]::x
abbrev kAu:List (Nat×AV):=[(6,.bool false)]
abbrev kAv (a:Bool):List (Nat×AV):=[(10,.bool a)]
abbrev kAw:List (Nat×AV):=[(4,.bool true)]
abbrev kAx (a:List Int) (b:Int) (x:List (Nat×AV)):List (Nat×AV):=(9,vl encI a)::(10,.i b)::x
abbrev kAy {α0:Type} (a:List α0) (b:Int) (x:List (Nat×AV)):List (Nat×AV):=(8,.gslice 0 a.length 1)::(9,.i b)::x
abbrev kAz (a:List Int) (b:Str) (c:Int) (d:Int):List AV:=[vl encI a,.agg [.str b,.i c,.i d]]
abbrev kA0:List AV:=[.ptr 2 0,.ptr 3 0]
abbrev kA1 (a:List Int) (b:Int) (c:Int) (x:List (Nat×AV)):List (Nat×AV):=(39,vl encI a)::(40,.i b)::(41,.i c)::x
abbrev kA2 (x:List (Nat×AV)):List (Nat×AV):=(5,.ptr 1 0)::x
abbrev kA3 (x:List Blk):List Blk:= .cells [.i 0,.nilfunc,.nilfunc]::x
abbrev kA4 (a:Int):List (Nat×AV):=[(6,.nilslice),(7,.i a)]
abbrev kA5 (a:List Int) (b:Int) (x:List (Nat×AV)):List (Nat×AV):=(10,vl encI a)::(11,.i b)::x
abbrev kA6 {α0:Type} (a:List α0) (x:List (Nat×AV)):List (Nat×AV):=(7,.gslice 1 a.length 1)::x
abbrev kA7 (x:List (Nat×AV)):List (Nat×AV):=(0,.slice 0 0 1 1 4)::x
abbrev kA8:List AV:=[.str [105,110,115,101,114,116],.str [99,97,110,99,101,108],.str [115,119,97,112],.str [116,117,114,110]]
abbrev kA9 (a:Int) (b:Int) (x:List (Nat×AV)):List (Nat×AV):=(45,.i a)::(46,.i b)::x
abbrev kBA (a:Int):List (Nat×AV):=[(5,.i a)]
abbrev kBB (x:List (Nat×AV)):List (Nat×AV):=(5,.ptr 0 0)::x
abbrev kBC (a:List Str) (b:List Str) (x:List (Nat×AV)):List (Nat×AV):=(0,vl encS a)::(1,vl encS b)::x
abbrev kBD (a:Option (List Int)):List Blk:=[.cells ((hof a).flatMap encI.c)]
abbrev kBE {α0:Type} (a:List α0) (b:Int):List (Nat×AV):=[(5,.gslice 3 a.length 1),(6,.i b)]
abbrev kBF (x:List (Nat×AV)):List (Nat×AV):=(1,.ptr 1 0)::x
abbrev kBG:List Blk:=[.cells (([]:List Int).flatMap encI.c)]
abbrev kBH {α0:Type} (a:List α0):List (Nat×AV):=[(2,.slice 0 0 a.length a.length 1)]
abbrev kBI (a:List Int) (x:List Blk):List Blk:= .cells [vl encI a]::x
abbrev kBJ (a:Int) (x:List (Nat×AV)):List (Nat×AV):=(6,.int .u64 a)::x
abbrev kBK (a:Bool):List (Nat×AV):=[(14,.bool a)]
abbrev kBL (a:Bool):List (Nat×AV):=[(13,.bool a)]
abbrev kBM (x:List (Nat×AV)):List (Nat×AV):=(4,.ptr 0 0)::x
abbrev kBN (a:Str) (b:Bool) (x:List (Nat×AV)):List (Nat×AV):=(5,.str a)::(6,.bool b)::x
abbrev kBO:List (Nat×AV):=[(4,.ptr 2 0)]
abbrev kBP (a:Int):List (Nat×AV):=[(11,.i a)]
abbrev kBQ (a:Str) (x:List (Nat×AV)):List (Nat×AV):=(1,.ptr 0 0)::(3,.str a)::x
abbrev kBR (x:List (Nat×AV)):List (Nat×AV):=(3,.nilslice)::x
abbrev kBS (a:Int) (b:Int) (x:List (Nat×AV)):List (Nat×AV):=(6,.i a)::(7,.i b)::x
abbrev kBT (a:List Int) (x:List (Nat×AV)):List (Nat×AV):=(2,vl encI a)::x
abbrev kBU (a:List qw) (x:List (Nat×AV)):List (Nat×AV):=(1,vl qb a)::x
abbrev kBV:List (Nat×AV):=[(4,.i 0)]
abbrev kBW (a:Int):List (Nat×AV):=[(0,.i a)]
abbrev kBX (a:List zy):List Blk:=[.cells (a.flatMap qG.c)]
abbrev kBY (x:List (Nat×AV)):List (Nat×AV):=(3,.ptr 0 0)::(4,.ptr 1 0)::x
abbrev kBZ {α0:Type} (a:List α0) (x:List (Nat×AV)):List (Nat×AV):=(14,.gslice 3 a.length 4)::(15,.ptr 4 0)::(16,.ptr 5 0)::x
abbrev kBa (a:List Int) (b:Int) (x:List (Nat×AV)):List (Nat×AV):=(6,vl encI a)::(7,.i b)::x
abbrev kBb (a:Bool):List (Nat×AV):=[(8,.bool a)]
abbrev kBc (a:List Int) (b:Int):List AV:=[vl encI a,.i b]
abbrev kBd:List (Nat×AV):=[(2,.ptr 1 0)]
abbrev kBe:List (Nat×AV):=[(6,.nilslice),(7,.i 18)]
abbrev kBf (a:Str):List (Nat×AV):=[(0,.str a)]
abbrev nz1 (x:qP):List AV:=ni1 x.s x.w
abbrev nq1 (x:qw):List AV:=ni2 x.Num.s x.Num.w x.Den.s x.Den.w
abbrev nq4 (x y z w:qw):List AV:=[.i x.Num.s,nvl ZU x.Num.w,.i x.Den.s,nvl ZU x.Den.w,.i y.Num.s,nvl ZU y.Num.w,.i y.Den.s,nvl ZU y.Den.w,.i z.Num.s,nvl ZU z.Num.w,.i z.Den.s,nvl ZU z.Den.w,.i w.Num.s,nvl ZU w.Num.w,.i w.Den.s,nvl ZU w.Den.w]
abbrev nb4 (a:(qw×qw)×(qw×qw)):List AV:=nq4 a.1.1 a.1.2 a.2.1 a.2.2
theorem qO:SlT ZT 22 3 1 8:=⟨by kernel_rfl,by kernel_rfl,by kernel_rfl,by kernel_rfl⟩
theorem ce3:CeT ZT 3:=⟨by kernel_rfl,by kernel_rfl⟩
theorem sl27:SlT ZT 27 81 3 32:=⟨by kernel_rfl,by kernel_rfl,by kernel_rfl,by kernel_rfl⟩
theorem ce9:CeT ZT 9:=⟨by kernel_rfl,by kernel_rfl⟩
theorem sl23:SlT ZT 23 79 3 32:=⟨by kernel_rfl,by kernel_rfl,by kernel_rfl,by kernel_rfl⟩
theorem ag79:AgT ZT 79 3:=⟨by kernel_rfl,by kernel_rfl⟩
theorem sl155:SlT ZT 155 29 1 8:=⟨by kernel_rfl,by kernel_rfl,by kernel_rfl,by kernel_rfl⟩
theorem ce29:CeT ZT 29:=⟨by kernel_rfl,by kernel_rfl⟩
theorem qlJ:MapT ZT 205 9 203 (.agg [.i 0,.nilfunc,.nilfunc]):=⟨by kernel_rfl,by kernel_rfl,by kernel_rfl⟩
theorem qbN:SlT ZT 133 3 1 8:=⟨by kernel_rfl,by kernel_rfl,by kernel_rfl,by kernel_rfl⟩
theorem qfM:SlT ZT 141 133 1 24:=⟨by kernel_rfl,by kernel_rfl,by kernel_rfl,by kernel_rfl⟩
theorem qj9:CeT ZT 133:=⟨by kernel_rfl,by kernel_rfl⟩
theorem qd4:SlT ZT 33 22 1 24:=⟨by kernel_rfl,by kernel_rfl,by kernel_rfl,by kernel_rfl⟩
theorem qij:CeT ZT 22:=⟨by kernel_rfl,by kernel_rfl⟩
theorem qj0:SlT ZT 80 71 1 16:=⟨by kernel_rfl,by kernel_rfl,by kernel_rfl,by kernel_rfl⟩
theorem ce71:CeT ZT 71:=⟨by kernel_rfl,by kernel_rfl⟩
theorem qlb:SlT ZT 68 80 1 24:=⟨by kernel_rfl,by kernel_rfl,by kernel_rfl,by kernel_rfl⟩
theorem qlF:CeT ZT 80:=⟨by kernel_rfl,by kernel_rfl⟩
theorem st9:Tryz.prog.underlying 9=some .string:=by kernel_rfl
theorem st71:Tryz.prog.underlying 71=some .string:=by kernel_rfl
noncomputable abbrev ql:Code:=(Tryz.f71.body.getD .skip).x2.x2.x1.x2.x1
noncomputable abbrev qd:Code:=(Tryz.f72.body.getD .skip).x2.x2.x2.x1.x2.x1
theorem xR:Tryz.prog.underlying 113=some (.slice 241):=by kernel_rfl
theorem qkJ:SlT ZT 111 120 1 24:=⟨by kernel_rfl,by kernel_rfl,by kernel_rfl,by kernel_rfl⟩
theorem qe5:SlT ZT 120 117 4 64:=⟨by kernel_rfl,by kernel_rfl,by kernel_rfl,by kernel_rfl⟩
theorem qoT:CeT ZT 120:=⟨by kernel_rfl,by kernel_rfl⟩
theorem qo0:AgT ZT 117 4:=⟨by kernel_rfl,by kernel_rfl⟩
theorem sl41:SlT ZT 41 9 1 16:=⟨by kernel_rfl,by kernel_rfl,by kernel_rfl,by kernel_rfl⟩
abbrev fm1:AV:= .fmap kA8 [.agg [.i 0,.func (.func 224) [] [],.func (.func 225) [] []],.agg [.i 2,.func (.func 226) [] [],.func (.func 227) [] []],.agg [.i 2,.func (.func 228) [] [],.func (.func 229) [] []],.agg [.i 3,.func (.func 230) [] [],.func (.func 231) [] []]]
instance:SC 12 fm1:=⟨Still.fmap SX.h (AllST.cons SC.h (AllST.cons SC.h (AllST.cons SC.h (AllST.cons SC.h AllST.nil))))⟩
def qbS (n:Int) (c:Int):Option Bool:=
 (if(!decide (c=0))=true then
 if c>(w64 (0-n))then
 some (decide (c<n))
 else
 some false
 else
 some false:Option Bool).bind fun a=>
 some a
theorem qik (n:Int) (c:Int) {res:Bool} (h:qbS n c=some res):qc ZT (.fn 46) [.i n,.i c] [] (.bool res) []:=by
 unfold qbS at h;refine Ub Tryz.func46 rfl rfl (m:=18) rfl (rs:=[.tmp 4]) rfl (l:=(kAM n c [])) rfl ?_;refine sh fol (kAM n c []) ?_;refine sq ?_;obtain⟨e,a,h⟩:=bnd h;refine Goes.cut (s':=(ofG 18 (kAj e),[])) ?_ ?_
 ·rcases wyB a with⟨b,a⟩|⟨b,a⟩
  ·rcases wyD a with⟨d,a⟩|⟨d,a⟩
   ·obtain rfl:=si a;exact tr fol [2,8] (kAj (decide (c<n))) (ac (gw b) (ac (gw d) az))
   obtain rfl:=si a;exact tr fol [2,8] kAP (ac (gw b) (ac (gw d) az))
  obtain rfl:=si a;exact tr fol [2] kAP (ac (gw b) az)
 refine Goes.ret ?_;obtain rfl:=si h;exact(gw2 [.bool e] (Ua tB))
def jA (n:Int) (w:List Int):Nat->Int->Option (Unit⊕Int)
 |0,_=>none
 |K+1,a=>
  if a<(w.length:Int)then
  (idx w a).bind fun b=>
  (qbS n b).bind fun c=>
  if(!c)=true then
  some (.inr 3)
  else
  jA n w K (w64 (a+1))
  else
  some (.inl ())
def yQ (N:Nat) (n:Int) (w:List Int):Option Int:=
 (if n<1 then
 some true
 else
 some (decide (n>12)):Option Bool).bind fun b=>
 if b=true then
 some 3
 else
 if(w.length:Int)>200 then
 some 5
 else
 (jA n w N 0).bind (fun
 |(.inl ())=>
 some 0
 |(.inr a)=>
 some a)
theorem qag (N:Nat) (n:Int) (w:List Int) {res:Int} (h:yQ N n w=some res):qc ZT (.fn 11) (.i n::(kAq w)) [] (.i res) []:=by
 unfold yQ at h;refine Ub Tryz.func11 rfl rfl (m:=28) rfl (rs:=[.tmp 4]) rfl (l:=(kB n w [])) rfl ?_;refine sh fol (kB n w []) ?_;refine sq ?_;refine sq ?_;obtain⟨p,a,h⟩:=bnd h;refine Goes.cut (s':=(ofG 28 (kB n w [(11,.bool p)]),[])) ?_ ?_
 ·rcases wyD a with⟨e,a⟩|⟨e,a⟩
  ·obtain rfl:=si a;exact tr fol [2] (kB n w [(11,.bool true)]) (ac (gw e) az)
  obtain rfl:=si a;exact tr fol [2] (kB n w [(11,.bool (decide (n>12)))]) (ac (gw e) az)
 refine ihB h (fun q h=>?_) (fun q h=>?_)
 ·refine sh fol [(4,.i 3)] ?_;refine Goes.ret ?_;obtain rfl:=si h;exact(gw2 [.i 3] (Ua tI))
 refine Goes.skip ?_;refine sq ?_;refine sh fol (kB n w (kBK (decide ((w.length:Int)>200)))) ?_;refine ihD h (fun r h=>?_) (fun r h=>?_)
 ·refine sh fol [(4,.i 5)] ?_;refine Goes.ret ?_;obtain rfl:=si h;exact(gw2 [.i 5] (Ua tI))
 refine Goes.skip ?_;refine sq ?_;refine sh fol (kB n w [(5,.i 0)]) ?_;refine Goes.block ?_;obtain⟨f,g7,h⟩:=bnd h;refine Goes.imp (Q:=fun x s'=>(x= .exit 0/\(.inl ())=f/\Sub s' (ofG 28 [],[]))\/(x= .ret/\ ∃o,(.inr o)=f/\zo ZT [.tmp 4] (.i o) .ret s')) ?_ ?_
 ·refine Ud (fun M s=> ∃(c:Int),s=(ofG 28 (kB n w (kBA c)),[])/\jA n w M c=some f) ?_ (m:=N) ⟨_,rfl,g7⟩;rintro M s ⟨c,rfl,g7⟩
  cases M with
  |zero=>simp only[jA]at g7;cases g7
  |succ M=>
   rw[jA]at g7;refine sq ?_;refine sh fol (kB n w [(5,.i c),(18,.bool (decide (c<(w.length:Int))))]) ?_;refine ihD g7 (fun t g7=>?_) (fun t g7=>?_)
   ·refine Goes.skip ?_;refine sq (Goes.block ?_);obtain⟨g,b,g7⟩:=bnd g7;obtain⟨j,d,g7⟩:=bnd g7;refine sq (gr fol [3,4,5] (kB n w [(5,.i c),(27,.bool (!j))]) (ac (iv qO encI b) (ac (lv 0 ce3 encI b rfl) (ac (cv (qik n g d)) az))) ?_);refine ihB g7 (fun k g7=>?_) (fun k g7=>?_)
    ·refine sh fol [(4,.i 3)] ?_;refine Goes.ret ?_;obtain rfl:=si g7;exact Or.inr (⟨rfl,_,rfl,(gw2 [.i 3] (Ua tI))⟩)
    refine Goes.skip ?_;refine gh fol (kB n w (kBA (w64 (c+1)))) ?_;exact⟨M,(ofG 28 (kB n w (kBA (w64 (c+1)))),[]),Nat.lt_succ_self _,(Sub.refl _),_,rfl,g7⟩
   refine Goes.exit ?_;obtain rfl:=si g7;exact Or.inl (⟨rfl,rfl,(Sub.keep [] rfl rfl)⟩)
 rintro x s' (⟨rfl,rfl,hsub⟩|⟨rfl,u,rfl,hret⟩)
 ·try dsimp only at h
  refine Goes.sub hsub ?_;refine sh fol kBV ?_;refine Goes.ret ?_;obtain rfl:=si h;exact(gw2 [.i 0] (Ua tI))
 try dsimp only at h
 obtain rfl:=si h;exact hret
def qet (N:Nat) (n:Int) (w:List Int) (strands:Int) (letters:Int):Option Bool:=
 (if n<=strands then
 if(w.length:Int)<=letters then
 (yQ N n w).bind fun a=>
 some (decide (a=0))
 else
 some false
 else
 some false:Option Bool).bind fun b=>
 some b
theorem qeS (N:Nat) (n:Int) (w:List Int) (strands:Int) (letters:Int) {res:Bool} (h:qet N n w strands letters=some res):qc ZT (.fn 7) [.i n,vl encI w,.i strands,.i letters] [] (.bool res) []:=by
 unfold qet at h;refine Ub Tryz.func7 rfl rfl (m:=24) rfl (rs:=[.tmp 8]) rfl (l:=(kB n w [(2,.i strands),(3,.i letters)])) rfl ?_;refine sh fol (kB n w [(2,.i strands),(3,.i letters)]) ?_;refine sq ?_;obtain⟨e,a,h⟩:=bnd h;refine Goes.cut (s':=(ofG 24 (kBb e),[])) ?_ ?_
 ·rcases wyD a with⟨c,a⟩|⟨c,a⟩
  ·rcases wyD a with⟨d,a⟩|⟨d,a⟩
   ·obtain⟨f,b,a⟩:=bnd a;obtain rfl:=si a;exact tr fol [3,9,12] (kBb (decide (f=0))) (ac (gw c) (ac (gw d) (ac (cv (qag N n w b)) az)))
   obtain rfl:=si a;exact tr fol [3,9] [(8,.bool false)] (ac (gw c) (ac (gw d) az))
  obtain rfl:=si a;exact tr fol [3] [(8,.bool false)] (ac (gw c) az)
 refine Goes.ret ?_;obtain rfl:=si h;exact(gw2 [.bool e] (Ua tB))
def zY (l:List zy):Nat->Int->Option (Unit⊕Bool)
 |0,_=>none
 |K+1,a=>
  if a<(l.length:Int)then
  (idx l a).bind fun b=>
  if(b.Kind.length:Int)>20 then
  some (.inr false)
  else
  zY l K (w64 (a+1))
  else
  some (.inl ())
def xI (N:Nat) (l:List zy) (m:Int):Option Bool:=
 (if(l.length:Int)>m then
 if(l.length:Int)<=100000 then
 some true
 else
 some (decide ((l.length:Int)>100002))
 else
 some (decide ((l.length:Int)>100002)):Option Bool).bind fun b=>
 if b=true then
 some false
 else
 (zY l N 0).bind (fun
 |(.inl ())=>
 some true
 |(.inr a)=>
 some a)
theorem qgb (N:Nat) (l:List zy) (m:Int) {res:Bool} (h:xI N l m=some res):qc ZT (.fn 8) [vl qG l,.i m] [] (.bool res) []:=by
 unfold xI at h;refine Ub Tryz.func8 rfl rfl (m:=33) rfl (rs:=[.tmp 4]) rfl (l:=(kAm l [(1,.i m)])) rfl ?_;refine sh fol (kAm l [(1,.i m)]) ?_;refine sq ?_;refine sq ?_;obtain⟨n,a,h⟩:=bnd h;refine Goes.cut (s':=(ofG 33 (kAm l [(19,.bool n)]),[])) ?_ ?_
 ·rcases wyD a with⟨d,a⟩|⟨d,a⟩
  ·rcases wyD a with⟨e,a⟩|⟨e,a⟩
   ·obtain rfl:=si a;exact tr fol [4,9] (kAm l [(19,.bool true)]) (ac (gw d) (ac (gw e) az))
   obtain rfl:=si a;exact tr fol [4,9] (kAm l [(19,.bool (decide ((l.length:Int)>100002)))]) (ac (gw d) (ac (gw e) az))
  obtain rfl:=si a;exact tr fol [4] (kAm l [(19,.bool (decide ((l.length:Int)>100002)))]) (ac (gw d) az)
 refine ihB h (fun o h=>?_) (fun o h=>?_)
 ·refine sh fol kAP ?_;refine Goes.ret ?_;obtain rfl:=si h;exact(gw2 [.bool false] (Ua tB))
 refine Goes.skip ?_;refine sq ?_;refine sh fol (kAm l [(5,.i 0)]) ?_;refine Goes.block ?_;obtain⟨f,g7,h⟩:=bnd h;refine Goes.imp (Q:=fun x s'=>(x= .exit 0/\(.inl ())=f/\Sub s' (ofG 33 [],[]))\/(x= .ret/\ ∃k,(.inr k)=f/\zo ZT [.tmp 4] (.bool k) .ret s')) ?_ ?_
 ·refine Ud (fun M s=> ∃(c:Int),s=(ofG 33 (kAm l (kBA c)),[])/\zY l M c=some f) ?_ (m:=N) ⟨_,rfl,g7⟩;rintro M s ⟨c,rfl,g7⟩
  cases M with
  |zero=>simp only[zY]at g7;cases g7
  |succ M=>
   rw[zY]at g7;refine sq ?_;refine sh fol (kAm l [(5,.i c),(23,.bool (decide (c<(l.length:Int))))]) ?_;refine ihD g7 (fun p g7=>?_) (fun p g7=>?_)
   ·refine Goes.skip ?_;refine sq (Goes.block ?_);obtain⟨g,b,g7⟩:=bnd g7;refine sq (gr fol [2,4] (kAm l [(5,.i c),(32,.bool (decide ((g.Kind.length:Int)>20)))]) (ac (iv sl27 qG b) (ac (lv 0 ce9 qG b rfl) az)) ?_);refine ihD g7 (fun j g7=>?_) (fun j g7=>?_)
    ·refine sh fol kAP ?_;refine Goes.ret ?_;obtain rfl:=si g7;exact Or.inr (⟨rfl,_,rfl,(gw2 [.bool false] (Ua tB))⟩)
    refine Goes.skip ?_;refine gh fol (kAm l (kBA (w64 (c+1)))) ?_;exact⟨M,(ofG 33 (kAm l (kBA (w64 (c+1)))),[]),Nat.lt_succ_self _,(Sub.refl _),_,rfl,g7⟩
   refine Goes.exit ?_;obtain rfl:=si g7;exact Or.inl (⟨rfl,rfl,(Sub.keep [] rfl rfl)⟩)
 rintro x s' (⟨rfl,rfl,hsub⟩|⟨rfl,q,rfl,hret⟩)
 ·try dsimp only at h
  refine Goes.sub hsub ?_;refine sh fol kAw ?_;refine Goes.ret ?_;obtain rfl:=si h;exact(gw2 [.bool true] (Ua tB))
 try dsimp only at h
 obtain rfl:=si h;exact hret
def yK (l:List zy):Nat->(List zy)->Int->Option (List zy)
 |0,_,_=>none
 |K+1,b,a=>
  if a<(l.length:Int)then
  (idx l a).bind fun c=>
  (app 32 b [c]).bind fun d=>
  yK l K d (w64 (a+1))
  else
  some b
def qcF (N:Nat) (l:List zy):Option (List zy):=
 (yK l N ([]:List zy) 0).bind fun a=>
 some a
theorem qjP (N:Nat) (l:List zy) {res:List zy} (h:qcF N l=some res):qc ZT (.fn 9) [vl qG l] [] (vl qG res) []:=by
 unfold qcF at h;refine Ub Tryz.func9 rfl rfl (m:=19) rfl (rs:=[.tmp 2]) rfl (l:=(kAm l [])) rfl ?_;refine sh fol (kAm l []) ?_;refine sh fol (kAm l (kBR [])) ?_;refine sq ?_;refine sh fol (kAm l (kBR kBV)) ?_;refine Goes.block ?_;obtain⟨k,g4,h⟩:=bnd h;refine Goes.imp (Q:=fun x s'=>(x= .exit 0/\ ∃g,g=k/\Sub s' (ofG 19 [(3,.gslice 0 g.length 3)],(kBX g)))) ?_ ?_
 ·refine Goes.sub (s':=(ofG 19 (kAm l ((3,.gslice 0 ([]:List zy).length 3)::kBV)),[.cells (([]:List zy).flatMap qG.c)])) (Uc [] [none] rfl rfl (.keep (.same (qg qG _)) (.keep .nil (.keep (.same nI) .nil))) (.fresh .nil)) ?_;refine Ud (fun M s=> ∃(b:List zy) (d:Int),s=(ofG 19 (kAm l ((3,.gslice 0 b.length 3)::(kAd d))),(kBX b))/\yK l M b d=some k) ?_ (m:=N) ⟨_,_,rfl,g4⟩;rintro M s ⟨b,d,rfl,g4⟩
  cases M with
  |zero=>simp only[yK]at g4;cases g4
  |succ M=>
   rw[yK]at g4;refine sq ?_;refine sh fol (kAm l ((3,.gslice 0 b.length 3)::(4,.i d)::(kBb (decide (d<(l.length:Int)))))) ?_;refine ihD g4 (fun n g4=>?_) (fun n g4=>?_)
   ·refine Goes.skip ?_;refine sq (Goes.block ?_);obtain⟨a,e,g4⟩:=bnd g4;obtain⟨f,j,g4⟩:=bnd g4;refine gq fol [3,4,6] (kAm l ((3,.gslice 2 f.length 3)::(kAd d))) (.dead::(kP a.Kind a.At a.Letter (kBX f))) (ac (iv sl23 qG e) (ac (la ag79 qG e) (ac (hs (.run [0,1] (jd ZT [27,27] (.gslice 0 b.length 3) (.slice 1 0 1 1 3)) (.cells (b.flatMap qG.c)::(kP a.Kind a.At a.Letter [])) (.gslice 2 f.length 3) (.dead::(kP a.Kind a.At a.Letter (kBX f))) true) (qao sl27 (E:=qG) rfl (qee (E:=qG) (ys:=[a]) rfl rfl rfl rfl) (qfm (E:=qG) (l:=b) rfl rfl rfl j rfl))) az))) ?_;refine gh fol (kAm l ((3,.gslice 2 f.length 3)::(kAd (w64 (d+1))))) ?_;exact⟨M,(ofG 19 (kAm l ((3,.gslice 0 f.length 3)::(kAd (w64 (d+1))))),(kBX f)),Nat.lt_succ_self _,(Uc [] [some 2] rfl rfl (.keep (.same (qg qG _)) (.keep (.gslice rfl) (.keep (.same nI) .nil))) (.ks .nil)),_,_,rfl,g4⟩
   refine Goes.exit ?_;obtain rfl:=si g4;exact⟨rfl,_,rfl,(Sub.keep [3] rfl rfl)⟩
 rintro x s' ⟨rfl,g,rfl,hsub⟩;refine Goes.sub hsub ?_;refine sh fol [(2,.gslice 0 g.length 3)] ?_;refine Goes.ret ?_;obtain rfl:=si h;exact(gw2 [.gslice 0 g.length 3] (Ut (Fz.gs (E:=qG) rfl rfl (nl rfl))))
def qA (holds:Bool) (e:Int):Option Int:=
 if holds=true then
 some e
 else
 some 0
theorem qo (holds:Bool) (e:Int) {res:Int} (h:qA holds e=some res):qc ZT (.fn 57) [.bool holds,.i e] [] (.i res) []:=by
 unfold qA at h;refine Ub Tryz.func57 rfl rfl (m:=7) rfl (rs:=[.tmp 4]) rfl (l:=[(0,.bool holds),(1,.i e)]) rfl ?_;refine sh fol [(0,.bool holds),(1,.i e)] ?_;refine sq ?_;refine sh fol [(1,.i e),(5,.bool holds)] ?_;refine ihB h (fun a h=>?_) (fun a h=>?_)
 ·refine sh fol (kAd e) ?_;refine Goes.ret ?_;obtain rfl:=si h;exact(gw2 [.i e] (Ua tI))
 refine Goes.skip ?_;refine sh fol kBV ?_;refine Goes.ret ?_;obtain rfl:=si h;exact(gw2 [.i 0] (Ua tI))
def jk (l:List Int):Nat->Int->Option (Unit⊕Int)
 |0,_=>none
 |K+1,a=>
  if a<(l.length:Int)then
  (idx l a).bind fun b=>
  if(!decide (b=0))=true then
  some (.inr b)
  else
  jk l K (w64 (a+1))
  else
  some (.inl ())
def ku (N:Nat) (l:List Int):Option Int:=
 (jk l N 0).bind (fun
 |(.inl ())=>
 some 0
 |(.inr a)=>
 some a)
theorem zm (N:Nat) (l:List Int) {res:Int} (h:ku N l=some res):qc ZT (.fn 62) [vl encI l] [] (.i res) []:=by
 unfold ku at h;refine Ub Tryz.func62 rfl rfl (m:=15) rfl (rs:=[.tmp 2]) rfl (l:=(kX l [])) rfl ?_;refine sh fol (kX l []) ?_;refine sq ?_;refine sh fol [(5,vl encI l),(6,.i (l.length:Int)),(7,.i 0)] ?_;refine Goes.block ?_;obtain⟨d,g2,h⟩:=bnd h;refine Goes.imp (Q:=fun x s'=>(x= .exit 0/\(.inl ())=d/\Sub s' (ofG 15 [],[]))\/(x= .ret/\ ∃e,(.inr e)=d/\zo ZT [.tmp 2] (.i e) .ret s')) ?_ ?_
 ·refine Ud (fun M s=> ∃(a:Int),s=(ofG 15 ((5,vl encI l)::(kBS (l.length:Int) a [])),[])/\jk l M a=some d) ?_ (m:=N) ⟨_,rfl,g2⟩;rintro M s ⟨a,rfl,g2⟩
  cases M with
  |zero=>simp only[jk]at g2;cases g2
  |succ M=>
   rw[jk]at g2;refine sh fol ((5,vl encI l)::(kBS (l.length:Int) a (kBb (decide (a<(l.length:Int)))))) ?_;refine sq ?_;refine ihD g2 (fun f g2=>?_) (fun f g2=>?_)
   ·refine Goes.skip ?_;refine sq (Goes.block ?_);obtain⟨c,b,g2⟩:=bnd g2;refine sq (gr fol [0,1] ((4,.i c)::(5,vl encI l)::(kBS (l.length:Int) a [])) (ac (iv sl155 encI b) (ac (lv 0 ce29 encI b rfl) az)) ?_);refine sh fol ((4,.i c)::(5,vl encI l)::(kBS (l.length:Int) a [(12,.bool (!decide (c=0)))])) ?_;refine ihB g2 (fun g g2=>?_) (fun g g2=>?_)
    ·refine sh fol [(2,.i c)] ?_;refine Goes.ret ?_;obtain rfl:=si g2;exact Or.inr (⟨rfl,_,rfl,(gw2 [.i c] (Ua tI))⟩)
    refine Goes.skip ?_;refine gh fol ((5,vl encI l)::(kBS (l.length:Int) (w64 (a+1)) [])) ?_;exact⟨M,(ofG 15 ((5,vl encI l)::(kBS (l.length:Int) (w64 (a+1)) [])),[]),Nat.lt_succ_self _,(Sub.refl _),_,rfl,g2⟩
   refine Goes.exit ?_;obtain rfl:=si g2;exact Or.inl (⟨rfl,rfl,(Sub.keep [] rfl rfl)⟩)
 rintro x s' (⟨rfl,rfl,hsub⟩|⟨rfl,j,rfl,hret⟩)
 ·try dsimp only at h
  refine Goes.sub hsub ?_;refine sh fol [(2,.i 0)] ?_;refine Goes.ret ?_;obtain rfl:=si h;exact(gw2 [.i 0] (Ua tI))
 try dsimp only at h
 obtain rfl:=si h;exact hret
def qaf (n:Int):Option Int:=
 (if n<1 then
 (qA true 3).bind fun a=>
 some a
 else
 (qA (decide (n>12)) 3).bind fun b=>
 some b:Option Int).bind fun c=>
 some c
theorem qfa (n:Int) {res:Int} (h:qaf n=some res):qc ZT (.fn 98) [.i n] [] (.i res) []:=by
 unfold qaf at h;refine Ub Tryz.func98 rfl rfl (m:=10) rfl (rs:=[.tmp 2]) rfl (l:=(kBW n)) rfl ?_;refine sh fol (kBW n) ?_;refine sq ?_;obtain⟨e,a,h⟩:=bnd h;refine Goes.cut (s':=(ofG 10 [(2,.i e)],[])) ?_ ?_
 ·rcases wyD a with⟨d,a⟩|⟨d,a⟩
  ·obtain⟨f,b,a⟩:=bnd a;obtain rfl:=si a;exact tr fol [2,6] [(2,.i f)] (ac (gw d) (ac (cv (qo true 3 b)) az))
  obtain⟨g,c,a⟩:=bnd a;obtain rfl:=si a;exact tr fol [2,6] [(2,.i g)] (ac (gw d) (ac (cv (qo (decide (n>12)) 3 c)) az))
 refine Goes.ret ?_;obtain rfl:=si h;exact(gw2 [.i e] (Ua tI))
def qaw (n:Int) (letter:Int):Option Bool:=
 (if letter=0 then
 some true
 else
 if letter<=(w64 (0-n))then
 some true
 else
 some (decide (letter>=n)):Option Bool).bind fun a=>
 some a
theorem qcg (n:Int) (letter:Int) {res:Bool} (h:qaw n letter=some res):qc ZT (.fn 104) [.i n,.i letter] [] (.bool res) []:=by
 unfold qaw at h;refine Ub Tryz.func104 rfl rfl (m:=18) rfl (rs:=[.tmp 4]) rfl (l:=(kAM n letter [])) rfl ?_;refine sh fol (kAM n letter []) ?_;refine sq ?_;obtain⟨d,a,h⟩:=bnd h;refine Goes.cut (s':=(ofG 18 (kAj d),[])) ?_ ?_
 ·rcases wyD a with⟨b,a⟩|⟨b,a⟩
  ·obtain rfl:=si a;exact tr fol [2] kAw (ac (gw b) az)
  rcases wyD a with⟨c,a⟩|⟨c,a⟩
  ·obtain rfl:=si a;exact tr fol [2,8] kAw (ac (gw b) (ac (gw c) az))
  obtain rfl:=si a;exact tr fol [2,8] (kAj (decide (letter>=n))) (ac (gw b) (ac (gw c) az))
 refine Goes.ret ?_;obtain rfl:=si h;exact(gw2 [.bool d] (Ua tB))
def yN (a:Int) (b:Int):Option Bool:=
 (qaw b a).bind fun c=>
 some c
theorem qdR (a:Int) (b:Int) {res:Bool} (h:yN a b=some res):qc ZT (.fn 103) [.i a,.fptr [.i b] 0] [] (.bool res) []:=by
 unfold yN at h;refine Ub Tryz.func103 rfl rfl (m:=7) rfl (rs:=[.tmp 3]) rfl (l:=[(0,.i a),(1,.fptr [.i b] 0)]) rfl ?_;refine sh fol [(0,.i a),(1,.fptr [.i b] 0)] ?_;obtain⟨d,c,h⟩:=bnd h;refine sq (gr fol [2] [(3,.bool d)] (ac (cv (qcg b a c)) az) ?_);refine Goes.ret ?_;obtain rfl:=si h;exact(gw2 [.bool d] (Ua tB))
def qN (a:List Int) (b:Int):Nat->Int->Option (Unit⊕Int)
 |0,_=>none
 |K+1,c=>
  if c<(a.length:Int)then
  (idx a c).bind fun d=>
  (yN d b).bind fun e=>
  if e=true then
  some (.inr c)
  else
  qN a b K (w64 (c+1))
  else
  some (.inl ())
def vT (N:Nat) (a:List Int) (b:Int):Option Int:=
 (qN a b N 0).bind (fun
 |(.inl ())=>
 some (-1)
 |(.inr c)=>
 some c)
theorem qdn (N:Nat) (a:List Int) (b:Int) {res:Int} (h:vT N a b=some res):qc ZT (.fn 171) [vl encI a,.func (.func 103) [] [.fptr [.i b] 0]] [] (.i res) []:=by
 unfold vT at h;refine Ub Tryz.func171 rfl rfl (m:=19) rfl (rs:=[.tmp 4]) rfl (l:=(kX a [(1,.func (.func 103) [] [.fptr [.i b] 0])])) rfl ?_;refine sh fol (kX a [(1,.func (.func 103) [] [.fptr [.i b] 0])]) ?_;refine sq ?_;refine sh fol (kX a [(1,.func (.func 103) [] [.fptr [.i b] 0]),(7,.i (a.length:Int)),(8,.i 0)]) ?_;refine Goes.block ?_;obtain⟨f,g2,h⟩:=bnd h;refine Goes.imp (Q:=fun x s'=>(x= .exit 0/\(.inl ())=f/\Sub s' (ofG 19 [],[]))\/(x= .ret/\ ∃j,(.inr j)=f/\zo ZT [.tmp 4] (.i j) .ret s')) ?_ ?_
 ·refine Ud (fun M s=> ∃(c:Int),s=(ofG 19 (kX a ((1,.func (.func 103) [] [.fptr [.i b] 0])::(7,.i (a.length:Int))::(kAk c))),[])/\qN a b M c=some f) ?_ (m:=N) ⟨_,rfl,g2⟩;rintro M s ⟨c,rfl,g2⟩
  cases M with
  |zero=>simp only[qN]at g2;cases g2
  |succ M=>
   rw[qN]at g2;refine sh fol (kX a [(1,.func (.func 103) [] [.fptr [.i b] 0]),(7,.i (a.length:Int)),(8,.i c),(9,.bool (decide (c<(a.length:Int))))]) ?_;refine sq ?_;refine ihD g2 (fun n g2=>?_) (fun n g2=>?_)
   ·refine Goes.skip ?_;refine sq (Goes.block ?_);refine sh fol (kX a ((1,.func (.func 103) [] [.fptr [.i b] 0])::(5,.i c)::(7,.i (a.length:Int))::(kAk c))) ?_;obtain⟨g,d,g2⟩:=bnd g2;obtain⟨k,e,g2⟩:=bnd g2;refine sq (gr fol [3,4,5] (kX a [(1,.func (.func 103) [] [.fptr [.i b] 0]),(5,.i c),(7,.i (a.length:Int)),(8,.i c),(16,.bool k)]) (ac (iv qO encI d) (ac (lv 0 ce3 encI d rfl) (ac (hs (.call 103 [.i g,.fptr [.i b] 0] [] [] [.i g,.fptr [.i b] 0] (.bool k)) (qd5 (FzL.cons (Ue tI) (FzL.cons (Ue (Still.fptr (AllST.cons tI AllST.nil))) FzL.nil)) (qdR g b e) tB)) az))) ?_);refine ihB g2 (fun o g2=>?_) (fun o g2=>?_)
    ·refine sh fol (kAd c) ?_;refine Goes.ret ?_;obtain rfl:=si g2;exact Or.inr (⟨rfl,_,rfl,(gw2 [.i c] (Ua tI))⟩)
    refine Goes.skip ?_;refine gh fol (kX a ((1,.func (.func 103) [] [.fptr [.i b] 0])::(7,.i (a.length:Int))::(kAk (w64 (c+1))))) ?_;exact⟨M,(ofG 19 (kX a ((1,.func (.func 103) [] [.fptr [.i b] 0])::(7,.i (a.length:Int))::(kAk (w64 (c+1))))),[]),Nat.lt_succ_self _,(Sub.refl _),_,rfl,g2⟩
   refine Goes.exit ?_;obtain rfl:=si g2;exact Or.inl (⟨rfl,rfl,(Sub.keep [] rfl rfl)⟩)
 rintro x s' (⟨rfl,rfl,hsub⟩|⟨rfl,p,rfl,hret⟩)
 ·try dsimp only at h
  refine Goes.sub hsub ?_;refine sh fol [(4,.i (-1))] ?_;refine Goes.ret ?_;obtain rfl:=si h;exact(gw2 [.i (-1)] (Ua tI))
 try dsimp only at h
 obtain rfl:=si h;exact hret
def jK (N:Nat) (a:List Int) (b:Int):Option Bool:=
 (vT N a b).bind fun c=>
 some (decide (c>=0))
theorem qcA (N:Nat) (a:List Int) (b:Int) {res:Bool} (h:jK N a b=some res):qc ZT (.fn 102) [vl encI a,.func (.func 103) [] [.fptr [.i b] 0]] [] (.bool res) []:=by
 unfold jK at h;refine Ub Tryz.func102 rfl rfl (m:=9) rfl (rs:=[.tmp 4]) rfl (l:=(kX a [(1,.func (.func 103) [] [.fptr [.i b] 0])])) rfl ?_;refine sh fol (kX a [(1,.func (.func 103) [] [.fptr [.i b] 0])]) ?_;obtain⟨d,c,h⟩:=bnd h;refine sq (gr fol [2] (kAj (decide (d>=0))) (ac (hs (.call 171 [vl encI a,.func (.func 103) [] [.fptr [.i b] 0]] [] [] [vl encI a,.func (.func 103) [] [.fptr [.i b] 0]] (.i d)) (qd5 (FzL.cons (Ue (qx encI _ (nl rfl))) (FzL.cons (Fz.func FzL.nil (FzL.cons (Ue (Still.fptr (AllST.cons tI AllST.nil))) FzL.nil)) FzL.nil)) (qdn N a b c) tI)) az) ?_);refine Goes.ret ?_;obtain rfl:=si h;exact(gw2 [.bool (decide (d>=0))] (Ua tB))
def jS (N:Nat) (n:Int) (w:List Int):Option Int:=
 (qaf n).bind fun b=>
 (qA (decide ((w.length:Int)>200)) 5).bind fun c=>
 (ku N ([b,c]:List Int)).bind fun a=>
 if(!decide (a=0))=true then
 some a
 else
 (jK N w n).bind fun d=>
 (qA d 3).bind fun e=>
 some e
theorem qai (N:Nat) (n:Int) (w:List Int) {res:Int} (h:jS N n w=some res):qc ZT (.fn 43) (.i n::(kAq w)) [] (.i res) []:=by
 unfold jS at h;refine Ub Tryz.func43 rfl rfl (m:=21) rfl (rs:=[.tmp 4]) rfl (l:=(kB n w [])) rfl ?_;refine sg fol ((1,vl encI w)::kAl) [.cells [.i n]] ?_;refine sq ?_;obtain⟨b,c,h⟩:=bnd h;obtain⟨d,e,h⟩:=bnd h;obtain⟨a,f,h⟩:=bnd h;refine sq (gq fol [1,5,7] ((1,vl encI w)::(2,.ptr 0 0)::(kBA a)) (.cells [.i n]::(kAE b d [])) (ac (cv (qfa n c)) (ac (cv (qo (decide ((w.length:Int)>200)) 5 e)) (ac (hs (.call 62 [.slice 1 0 2 2 1] (.cells [.i n]::(kAE b d [])) [1] [vl encI ([b,d]:List Int)] (.i a)) (qal (FzL.cons (Fz.lit rfl rfl (Uj (AllST.cons tI (AllST.cons tI AllST.nil)))) FzL.nil) (zm N ([b,d]:List Int) f) tI rfl)) az))) ?_);refine sh fol [(1,vl encI w),(2,.ptr 0 0),(5,.i a),(15,.bool (!decide (a=0)))] ?_;refine ihB h (fun p h=>?_) (fun p h=>?_)
 ·refine sh fol (kAd a) ?_;refine Goes.ret ?_;obtain rfl:=si h;exact(gw2 [.i a] (Ua tI))
 refine Goes.skip ?_;obtain⟨k,g,h⟩:=bnd h;obtain⟨o,j,h⟩:=bnd h;refine sq (gr fol [2,3] (kAd o) (ac (hs (.call 102 [vl encI w,.func (.func 103) [] [.ptr 0 0]] (.cells [.i n]::(kAE b d [])) [0] [vl encI w,.func (.func 103) [] [.fptr [.i n] 0]] (.bool k)) (qal (FzL.cons (Ue (qx encI _ (nl rfl))) (FzL.cons (Fz.func FzL.nil (FzL.cons (Fz.ptr rfl rfl (FzL.cons (Ue tI) FzL.nil)) FzL.nil)) FzL.nil)) (qcA N w n g) tB rfl)) (ac (cv (qo k 3 j)) az)) ?_);refine Goes.ret ?_;obtain rfl:=si h;exact(gw2 [.i o] (Ua tI))
def qbZ (a:List Int):Option Bool:=
 some true
theorem qhh (a:List Int) {res:Bool} (h:qbZ a=some res):qc ZT (.fn 224) [vl encI a] [] (.bool res) []:=by
 unfold qbZ at h;refine Ub Tryz.func224 rfl rfl (m:=3) rfl (rs:=[.tmp 2]) rfl (l:=(kX a [])) rfl ?_;refine sh fol [] ?_;refine sh fol [(2,.bool true)] ?_;refine Goes.ret ?_;obtain rfl:=si h;exact(gw2 [.bool true] (Ua tB))
def qb4 (l:List Int):Option Bool:=
 (idx l 0).bind fun a=>
 (idx l 1).bind fun b=>
 some (decide (a=(w64 (0-b))))
theorem qhe (l:List Int) {res:Bool} (h:qb4 l=some res):qc ZT (.fn 226) [vl encI l] [] (.bool res) []:=by
 unfold qb4 at h;refine Ub Tryz.func226 rfl rfl (m:=11) rfl (rs:=[.tmp 2]) rfl (l:=(kX l [])) rfl ?_;refine sh fol (kX l []) ?_;obtain⟨c,a,h⟩:=bnd h;obtain⟨d,b,h⟩:=bnd h;refine sq (gr fol [1,2,4,5] [(2,.bool (decide (c=(w64 (0-d)))))] (ac (iv qO encI a) (ac (lv 0 ce3 encI a rfl) (ac (iv qO encI b) (ac (lv 0 ce3 encI b rfl) az)))) ?_);refine Goes.ret ?_;obtain rfl:=si h;exact(gw2 [.bool (decide (c=(w64 (0-d))))] (Ua tB))
def zL (n:Int):Option Int:=
 some (if(w64 (0-n))>n then(w64 (0-n))else n)
theorem qI (n:Int) {res:Int} (h:zL n=some res):qc ZT (.fn 92) [.i n] [] (.i res) []:=by
 unfold zL at h;refine Ub Tryz.func92 rfl rfl (m:=7) rfl (rs:=[.tmp 2]) rfl (l:=(kBW n)) rfl ?_;refine sh fol (kBW n) ?_;refine sh fol [(2,.i (if(w64 (0-n))>n then(w64 (0-n))else n))] ?_;refine Goes.ret ?_;obtain rfl:=si h;exact(gw2 [.i (if(w64 (0-n))>n then(w64 (0-n))else n)] (Ua tI))
def qa1 (l:List Int):Option Bool:=
 (idx l 0).bind fun a=>
 (zL a).bind fun b=>
 (idx l 1).bind fun c=>
 (zL c).bind fun d=>
 (zL (w64 (b-d))).bind fun e=>
 some (decide (e>=2))
theorem qhj (l:List Int) {res:Bool} (h:qa1 l=some res):qc ZT (.fn 228) [vl encI l] [] (.bool res) []:=by
 unfold qa1 at h;refine Ub Tryz.func228 rfl rfl (m:=14) rfl (rs:=[.tmp 2]) rfl (l:=(kX l [])) rfl ?_;refine sh fol (kX l []) ?_;obtain⟨g,a,h⟩:=bnd h;obtain⟨i,c,h⟩:=bnd h;obtain⟨j,b,h⟩:=bnd h;obtain⟨k,d,h⟩:=bnd h;obtain⟨f,e,h⟩:=bnd h;refine sq (gr fol [1,2,3,5,6,7,9] [(2,.bool (decide (f>=2)))] (ac (iv qO encI a) (ac (lv 0 ce3 encI a rfl) (ac (cv (qI g c)) (ac (iv qO encI b) (ac (lv 0 ce3 encI b rfl) (ac (cv (qI j d)) (ac (cv (qI (w64 (i-k)) e)) az))))))) ?_);refine Goes.ret ?_;obtain rfl:=si h;exact(gw2 [.bool (decide (f>=2))] (Ua tB))
def zi (a:Int):Option Int:=
 some (if(if a<1 then a else 1)>(-1)then(if a<1 then a else 1)else(-1))
theorem zz (a:Int) {res:Int} (h:zi a=some res):qc ZT (.fn 91) [.i a] [] (.i res) []:=by
 unfold zi at h;refine Ub Tryz.func91 rfl rfl (m:=6) rfl (rs:=[.tmp 2]) rfl (l:=(kBW a)) rfl ?_;refine sh fol (kBW a) ?_;refine sh fol [(2,.i (if(if a<1 then a else 1)>(-1)then(if a<1 then a else 1)else(-1)))] ?_;refine Goes.ret ?_;obtain rfl:=si h;exact(gw2 [.i (if(if a<1 then a else 1)>(-1)then(if a<1 then a else 1)else(-1))] (Ua tI))
def qbJ (l:List Int):Option Bool:=
 (idx l 0).bind fun a=>
 (idx l 1).bind fun b=>
 (idx l 2).bind fun h=>
 ((zL a).bind fun i=>
 (zL h).bind fun j=>
 if i=j then
 (zL a).bind fun k=>
 (zL b).bind fun m=>
 (zL (w64 (k-m))).bind fun n=>
 if n=1 then
 (zi a).bind fun c=>
 (zi b).bind fun d=>
 if c=d then
 some true
 else
 (zi b).bind fun e=>
 (zi h).bind fun f=>
 some (decide (e=f))
 else
 some false
 else
 some false:Option Bool).bind fun g=>
 some g
theorem qjL (l:List Int) {res:Bool} (h:qbJ l=some res):qc ZT (.fn 230) [vl encI l] [] (.bool res) []:=by
 unfold qbJ at h;refine Ub Tryz.func230 rfl rfl (m:=43) rfl (rs:=[.tmp 2]) rfl (l:=(kX l [])) rfl ?_;refine sh fol (kX l []) ?_;obtain⟨k,o,h⟩:=bnd h;obtain⟨r,p,h⟩:=bnd h;obtain⟨v,q,h⟩:=bnd h;refine sq (gr fol [1,2,4,5,7,8] ((3,.i k)::(4,.i r)::(kBA v)) (ac (iv qO encI o) (ac (lv 0 ce3 encI o rfl) (ac (iv qO encI p) (ac (lv 0 ce3 encI p rfl) (ac (iv qO encI q) (ac (lv 0 ce3 encI q rfl) az)))))) ?_);refine sq ?_;obtain⟨w,a,h⟩:=bnd h;refine Goes.cut (s':=(ofG 43 [(2,.bool w)],[])) ?_ ?_
 ·obtain⟨E,b,a⟩:=bnd a;obtain⟨F,c,a⟩:=bnd a;rcases wyD a with⟨x,a⟩|⟨x,a⟩
  ·obtain⟨y,d,a⟩:=bnd a;obtain⟨z,e,a⟩:=bnd a;obtain⟨G,f,a⟩:=bnd a;rcases wyD a with⟨n,a⟩|⟨n,a⟩
   ·obtain⟨C,g,a⟩:=bnd a;obtain⟨D,j,a⟩:=bnd a;rcases wyD a with⟨s,a⟩|⟨s,a⟩
    ·obtain rfl:=si a;exact tr fol [1,3,5,7,9,11,14,16,18,20] [(2,.bool true)] (ac (cv (qI k b)) (ac (cv (qI v c)) (ac (gw x) (ac (cv (qI k d)) (ac (cv (qI r e)) (ac (cv (qI (w64 (y-z)) f)) (ac (gw n) (ac (cv (zz k g)) (ac (cv (zz r j)) (ac (gw s) az))))))))))
    obtain⟨A,t,a⟩:=bnd a;obtain⟨B,u,a⟩:=bnd a;obtain rfl:=si a;exact tr fol [1,3,5,7,9,11,14,16,18,20,22,24] [(2,.bool (decide (A=B)))] (ac (cv (qI k b)) (ac (cv (qI v c)) (ac (gw x) (ac (cv (qI k d)) (ac (cv (qI r e)) (ac (cv (qI (w64 (y-z)) f)) (ac (gw n) (ac (cv (zz k g)) (ac (cv (zz r j)) (ac (gw s) (ac (cv (zz r t)) (ac (cv (zz v u)) az))))))))))))
   obtain rfl:=si a;exact tr fol [1,3,5,7,9,11,14] [(2,.bool false)] (ac (cv (qI k b)) (ac (cv (qI v c)) (ac (gw x) (ac (cv (qI k d)) (ac (cv (qI r e)) (ac (cv (qI (w64 (y-z)) f)) (ac (gw n) az)))))))
  obtain rfl:=si a;exact tr fol [1,3,5] [(2,.bool false)] (ac (cv (qI k b)) (ac (cv (qI v c)) (ac (gw x) az)))
 refine Goes.ret ?_;obtain rfl:=si h;exact(gw2 [.bool w] (Ua tB))
def qdP:Option Unit:=
 some ()
theorem qaW {res:Unit} (h:qdP=some res):qc ZT (.fn 172) [] [] (fm1) []:=by
 unfold qdP at h;refine Ub Tryz.func172 rfl rfl (m:=7) rfl (rs:=[.tmp 0]) rfl (l:=[]) rfl ?_;refine sh fol [] ?_;refine sg fol [(0,.map 0)] [.map kA8 [.agg [.i 0,.func (.func 224) [] [],.func (.func 225) [] []],.agg [.i 2,.func (.func 226) [] [],.func (.func 227) [] []],.agg [.i 2,.func (.func 228) [] [],.func (.func 229) [] []],.agg [.i 3,.func (.func 230) [] [],.func (.func 231) [] []]]] ?_;refine Goes.ret ?_;obtain rfl:=si h;exact(gw2 [.map 0] (FzW.of (by kernel_rfl)))
def qaI (a:List Int) (b:Str) (c:Int) (d:Int):Option Unit:=
 some ()
theorem qfz (d:List Int) (b:Str) (c:Int) (a:Int) (h:qaI d b c a=some ()):qc ZT (.fn 225) (kAz d b c a) [] (.slice 0 0 2 2 1) (kAE a (w64 (0-a)) []):=by
 unfold qaI at h;refine Um Tryz.func225 rfl rfl (m:=11) rfl (rs:=[.tmp 4]) rfl (l:=(kX d [(1,.agg [.str b,.i c,.i a])])) rfl ?_;intro B hB;refine sg fol [(3,.ptr 0 0)] (kP b c a []) ?_;refine sg fol [(4,.slice 1 0 2 2 1)] (kP b c a (kAE a (w64 (0-a)) [])) ?_;refine Goes.ret ?_;exact(gh2 [.slice 1 0 2 2 1] (Uc [] [some 1] (by rw[hB];rfl) rfl (.keep (.slice rfl) .nil) (.kb rfl (.same sn) .nil)))
def qaK (a:List Int) (b:Str) (c:Int) (d:Int):Option Unit:=
 some ()
theorem qfN (d:List Int) (a:Str) (b:Int) (c:Int) (h:qaK d a b c=some ()):qc ZT (.fn 227) (kAz d a b c) [] (.nilslice) []:=by
 unfold qaK at h;refine Um Tryz.func227 rfl rfl (m:=5) rfl (rs:=[.tmp 4]) rfl (l:=(kX d [(1,.agg [.str a,.i b,.i c])])) rfl ?_;intro B hB;refine sg fol [] (kP a b c []) ?_;refine sh fol [(4,.nilslice)] ?_;refine Goes.ret ?_;exact(gh2 [.nilslice] (Uc [] [] (by rw[hB];rfl) rfl (.keep (.same (qJ.nilslice)) .nil) .nil))
def qaG (a:List Int) (b:Str) (c:Int) (d:Int):Option (Int×Int):=
 (idx a 1).bind fun e=>
 (idx a 0).bind fun f=>
 some (e,f)
theorem qfH (d:List Int) (a:Str) (b:Int) (c:Int) {g:Int} {j:Int} (h:qaG d a b c=some (g,j)):qc ZT (.fn 229) (kAz d a b c) [] (.slice 0 0 2 2 1) (kAE g j []):=by
 unfold qaG at h;refine Um Tryz.func229 rfl rfl (m:=12) rfl (rs:=[.tmp 4]) rfl (l:=(kX d [(1,.agg [.str a,.i b,.i c])])) rfl ?_;intro B hB;refine sg fol (kX d []) (kP a b c []) ?_;obtain⟨k,e,h⟩:=bnd h;obtain⟨n,f,h⟩:=bnd h;refine sq (gq fol [1,2,4,5] [(4,.slice 1 0 2 2 1)] (kP a b c (kAE k n [])) (ac (iv qO encI e) (ac (lv 0 ce3 encI e rfl) (ac (iv qO encI f) (ac (lv 0 ce3 encI f rfl) az)))) ?_);refine Goes.ret ?_;simp only[ZI,ZP]at h;obtain⟨rfl,rfl⟩:=h;exact(gh2 [.slice 1 0 2 2 1] (Uc [] [some 1] (by rw[hB];rfl) rfl (.keep (.slice rfl) .nil) (.kb rfl (.same sn) .nil)))
def qav (a:List Int) (g:Str) (h:Int) (i:Int):Option (List Int):=
 (idx a 0).bind fun c=>
 (idx a 1).bind fun b=>
 (idx a 2).bind fun f=>
 (zi c).bind fun j=>
 (zi b).bind fun k=>
 if j=k then
 (zi f).bind fun l=>
 (zL b).bind fun m=>
 some ([w64 (l*m),c,b]:List Int)
 else
 (zi c).bind fun d=>
 (zL b).bind fun e=>
 some ([b,f,w64 (d*e)]:List Int)
theorem qgI (d:List Int) (a:Str) (b:Int) (c:Int) {w:List Int} (h:qav d a b c=some w):qc ZT (.fn 231) (kAz d a b c) [] (vl encI w) []:=by
 unfold qav at h;refine Um Tryz.func231 rfl rfl (m:=38) rfl (rs:=[.tmp 4]) rfl (l:=(kX d [(1,.agg [.str a,.i b,.i c])])) rfl ?_;intro B hB;refine sg fol (kX d []) (kP a b c []) ?_;obtain⟨o,e,h⟩:=bnd h;obtain⟨j,f,h⟩:=bnd h;obtain⟨t,g,h⟩:=bnd h;refine sq (gr fol [1,2,4,5,7,8] ((5,.i o)::(kBS j t [])) (ac (iv qO encI e) (ac (lv 0 ce3 encI e rfl) (ac (iv qO encI f) (ac (lv 0 ce3 encI f rfl) (ac (iv qO encI g) (ac (lv 0 ce3 encI g rfl) az)))))) ?_);refine sq ?_;obtain⟨x,p,h⟩:=bnd h;obtain⟨y,q,h⟩:=bnd h;refine sq (gr fol [1,3] ((5,.i o)::(kBS j t [(21,.bool (decide (x=y)))])) (ac (cv (zz o p)) (ac (cv (zz j q)) az)) ?_);refine ihD h (fun z h=>?_) (fun z h=>?_)
 ·obtain⟨A,r,h⟩:=bnd h;obtain⟨C,s,h⟩:=bnd h;refine sq (gq fol [1,3] [(4,.slice 1 0 3 3 1)] (kP a b c [.cells [.i (w64 (A*C)),.i o,.i j]]) (ac (cv (zz t r)) (ac (cv (qI j s)) az)) ?_);refine Goes.ret ?_;obtain rfl:=si h;exact(gh2 [.slice 1 0 3 3 1] (Uc [1] [] (by rw[hB];rfl) rfl (.keep (.frz (Fz.lit rfl rfl (Uj (AllST.cons tI (AllST.cons tI (AllST.cons tI AllST.nil))))) (qg encI _)) .nil) .nil))
 refine Goes.skip ?_;obtain⟨u,k,h⟩:=bnd h;obtain⟨v,n,h⟩:=bnd h;refine sq (gq fol [3,5] [(4,.slice 1 0 3 3 1)] (kP a b c [.cells [.i j,.i t,.i (w64 (u*v))]]) (ac (cv (zz o k)) (ac (cv (qI j n)) az)) ?_);refine Goes.ret ?_;obtain rfl:=si h;exact(gh2 [.slice 1 0 3 3 1] (Uc [1] [] (by rw[hB];rfl) rfl (.keep (.frz (Fz.lit rfl rfl (Uj (AllST.cons tI (AllST.cons tI (AllST.cons tI AllST.nil))))) (qg encI _)) .nil) .nil))
def qaa (N:Nat) (n:Int) (w:List Int) (m:zy):Option ((List Int)×Int):=
 (qdP).bind fun r1=>
 if(m.Kind==[105,110,115,101,114,116])=true then
 ((qA false 13).bind fun K=>
 (qA false 1).bind fun L=>
 (qaw n m.Letter).bind fun r8=>
 (qA r8 3).bind fun M=>
 if m.At<0 then
 (qA true 3).bind fun r=>
 (ku N ([K,L,M,r]:List Int)).bind fun O=>
 some (K,L,M,r,O)
 else
 (qA (decide (m.At>(w64 ((w.length:Int)-0)))) 3).bind fun s=>
 (ku N ([K,L,M,s]:List Int)).bind fun P=>
 some (K,L,M,s,P):Option (Int×Int×Int×Int×Int)).bind fun(n15,n16,n17,n18,t)=>
 if(!decide (t=0))=true then
 some ([],t)
 else
 (cut w m.At (w64 (m.At+0))).bind fun u=>
 (qbZ u).bind fun Q=>
 if(!Q)=true then
 some ([],18)
 else
 (qeK w).bind fun _=>
 (qaI u m.Kind m.At m.Letter).bind fun _=>
 (qie w m.At (w64 (m.At+0)) m.Letter (w64 (0-m.Letter))).bind fun U=>
 some (U,0)
 else
 if(m.Kind==[99,97,110,99,101,108])=true then
 ((qA false 13).bind fun b=>
 (qA (!decide (m.Letter=0)) 1).bind fun c=>
 (qA false 3).bind fun d=>
 if m.At<0 then
 (qA true 3).bind fun v=>
 (ku N ([b,c,d,v]:List Int)).bind fun V=>
 some (b,c,d,v,V)
 else
 (qA (decide (m.At>(w64 ((w.length:Int)-2)))) 3).bind fun x=>
 (ku N ([b,c,d,x]:List Int)).bind fun X=>
 some (b,c,d,x,X):Option (Int×Int×Int×Int×Int)).bind fun(n37,n38,n39,n40,y)=>
 if(!decide (y=0))=true then
 some ([],y)
 else
 (cut w m.At (w64 (m.At+2))).bind fun z=>
 (qb4 z).bind fun Y=>
 if(!Y)=true then
 some ([],18)
 else
 (qeK w).bind fun _=>
 (qaK z m.Kind m.At m.Letter).bind fun _=>
 (qm8 w m.At (w64 (m.At+2))).bind fun Z=>
 some (Z,0)
 else
 if(m.Kind==[115,119,97,112])=true then
 ((qA false 13).bind fun e=>
 (qA (!decide (m.Letter=0)) 1).bind fun f=>
 (qA false 3).bind fun g=>
 if m.At<0 then
 (qA true 3).bind fun A=>
 (ku N ([e,f,g,A]:List Int)).bind fun a0=>
 some (e,f,g,A,a0)
 else
 (qA (decide (m.At>(w64 ((w.length:Int)-2)))) 3).bind fun B=>
 (ku N ([e,f,g,B]:List Int)).bind fun a1=>
 some (e,f,g,B,a1):Option (Int×Int×Int×Int×Int)).bind fun(n59,n60,n61,n62,C)=>
 if(!decide (C=0))=true then
 some ([],C)
 else
 (cut w m.At (w64 (m.At+2))).bind fun D=>
 (qa1 D).bind fun a2=>
 if(!a2)=true then
 some ([],18)
 else
 (qeK w).bind fun _=>
 (qaG D m.Kind m.At m.Letter).bind fun(a3,a4)=>
 (qie w m.At (w64 (m.At+2)) a3 a4).bind fun a5=>
 some (a5,0)
 else
 if(m.Kind==[116,117,114,110])=true then
 ((qA false 13).bind fun h=>
 (qA (!decide (m.Letter=0)) 1).bind fun i=>
 (qA false 3).bind fun j=>
 if m.At<0 then
 (qA true 3).bind fun E=>
 (ku N ([h,i,j,E]:List Int)).bind fun a6=>
 some (h,i,j,E,a6)
 else
 (qA (decide (m.At>(w64 ((w.length:Int)-3)))) 3).bind fun F=>
 (ku N ([h,i,j,F]:List Int)).bind fun a7=>
 some (h,i,j,F,a7):Option (Int×Int×Int×Int×Int)).bind fun(n83,n84,n85,n86,G)=>
 if(!decide (G=0))=true then
 some ([],G)
 else
 (cut w m.At (w64 (m.At+3))).bind fun H=>
 (qbJ H).bind fun a8=>
 if(!a8)=true then
 some ([],18)
 else
 (qeK w).bind fun _=>
 (qav H m.Kind m.At m.Letter).bind fun a9=>
 (qmX w m.At (w64 (m.At+3)) a9).bind fun b0=>
 some (b0,0)
 else
 ((qA true 13).bind fun k=>
 (qA (!decide (m.Letter=0)) 1).bind fun l=>
 (qA false 3).bind fun a=>
 if m.At<0 then
 (qA true 3).bind fun o=>
 (ku N ([k,l,a,o]:List Int)).bind fun I=>
 some (k,l,a,o,I)
 else
 (qA (decide (m.At>(w64 ((w.length:Int)-0)))) 3).bind fun p=>
 (ku N ([k,l,a,p]:List Int)).bind fun J=>
 some (k,l,a,p,J):Option (Int×Int×Int×Int×Int)).bind fun(b1,b2,b3,b4,q)=>
 if(!decide (q=0))=true then
 some ([],q)
 else
 (cut w m.At (w64 (m.At+0))).bind fun b5=>
 none
theorem qjU (N:Nat) (n:Int) (w:List Int) (m:zy) {res:(List Int)×Int} (h:qaa N n w m=some res):qc ZT (.fn 105) (.i n::(kAz w m.Kind m.At m.Letter)) [] (.tuple (kBc res.1 res.2)) []:=by
 unfold qaa at h;refine Ub Tryz.func105 rfl rfl (m:=90) rfl (rs:=[.tmp 6,.tmp 7]) rfl (l:=(kB n w [(2,.agg [.str m.Kind,.i m.At,.i m.Letter])])) rfl ?_;refine sg fol (kB n w (kBB [])) (kP m.Kind m.At m.Letter []) ?_;refine sq ?_;obtain⟨r1,j,h⟩:=bnd h;rcases wyB h with⟨f,h⟩|⟨f,h⟩
 ·refine gq fol [0,3] (kB n w (kAT [])) (kP m.Kind m.At m.Letter [.cells [.i 0,.func (.func 224) [] [],.func (.func 225) [] []]]) (ac (cv (qaW j)) (ac (hs (.done (qbt ZT 205 (fm1) (.str m.Kind) true) (.tuple [.agg [.i 0,.func (.func 224) [] [],.func (.func 225) [] []],.bool true])) (qla qlJ [[105,110,115,101,114,116],[99,97,110,99,101,108],[115,119,97,112],[116,117,114,110]] (qfW f) rfl)) az)) ?_;refine sh fol (kB n w (kAT (kAv (m.Kind==[105,110,115,101,114,116])))) ?_;refine sq ?_;refine sq ?_;obtain⟨⟨k,o,p,q,a3⟩,b,h⟩:=bnd h;refine Goes.cut (s':=(ofG 90 (kN w (kBP a3)),(kP m.Kind m.At m.Letter (.cells [.i 0,.func (.func 224) [] [],.func (.func 225) [] []]::(kV k o p q []))))) ?_ ?_
  ·obtain⟨r6,e_r6,b⟩:=bnd b;obtain⟨r7,e_r7,b⟩:=bnd b;obtain⟨r8,e_r8,b⟩:=bnd b;obtain⟨r9,e_r9,b⟩:=bnd b;rcases wyD b with⟨c10,b⟩|⟨c10,b⟩
   ·obtain⟨c9,e_r11,b⟩:=bnd b;obtain⟨r12,e_r12,b⟩:=bnd b;simp only[ZI,ZP]at b;obtain⟨rfl,rfl,rfl,rfl,rfl⟩:=b;exact jQ.rq fol [2,5,10,12,16,18,22,32,34] (kN w (kBP r12)) (kP m.Kind m.At m.Letter (.cells [.i 0,.func (.func 224) [] [],.func (.func 225) [] []]::(kV r6 r7 r9 c9 []))) (ac (cv (qo false 13 e_r6)) (ac (gw (congrArg not f)) (ac (cv (qo false 1 e_r7)) (ac (gw f) (ac (cv (qcg n m.Letter e_r8)) (ac (cv (qo r8 3 e_r9)) (ac (gw c10) (ac (cv (qo true 3 e_r11)) (ac (hs (.call 62 [.slice 2 0 4 4 1] (kP m.Kind m.At m.Letter (.cells [.i 0,.func (.func 224) [] [],.func (.func 225) [] []]::(kV r6 r7 r9 c9 []))) [2] [vl encI ([r6,r7,r9,c9]:List Int)] (.i r12)) (qal (FzL.cons (Fz.lit rfl rfl (Uj (AllST.cons tI (AllST.cons tI (AllST.cons tI (AllST.cons tI AllST.nil)))))) FzL.nil) (zm N ([r6,r7,r9,c9]:List Int) e_r12) tI rfl)) az)))))))))
   obtain⟨d0,e_r13,b⟩:=bnd b;obtain⟨r14,e_r14,b⟩:=bnd b;simp only[ZI,ZP]at b;obtain⟨rfl,rfl,rfl,rfl,rfl⟩:=b;exact jQ.rq fol [2,5,10,12,16,18,22,32,34] (kN w (kBP r14)) (kP m.Kind m.At m.Letter (.cells [.i 0,.func (.func 224) [] [],.func (.func 225) [] []]::(kV r6 r7 r9 d0 []))) (ac (cv (qo false 13 e_r6)) (ac (gw (congrArg not f)) (ac (cv (qo false 1 e_r7)) (ac (gw f) (ac (cv (qcg n m.Letter e_r8)) (ac (cv (qo r8 3 e_r9)) (ac (gw c10) (ac (cv (qo (decide (m.At>(w64 ((w.length:Int)-0)))) 3 e_r13)) (ac (hs (.call 62 [.slice 2 0 4 4 1] (kP m.Kind m.At m.Letter (.cells [.i 0,.func (.func 224) [] [],.func (.func 225) [] []]::(kV r6 r7 r9 d0 []))) [2] [vl encI ([r6,r7,r9,d0]:List Int)] (.i r14)) (qal (FzL.cons (Fz.lit rfl rfl (Uj (AllST.cons tI (AllST.cons tI (AllST.cons tI (AllST.cons tI AllST.nil)))))) FzL.nil) (zm N ([r6,r7,r9,d0]:List Int) e_r14) tI rfl)) az)))))))))
  try dsimp only at h
  refine sh fol (kN w [(11,.i a3),(59,.bool (!decide (a3=0)))]) ?_;refine ihB h (fun c21 h=>?_) (fun c21 h=>?_)
  ·refine sh fol (kA4 a3) ?_;refine Goes.ret ?_;obtain rfl:=si h;exact(gw2 [.nilslice,.i a3] (FzW.tuple (qm.cons (FzW.nilv (E:=encI)) (qm.cons (Ua tI) qm.nil))))
  refine Goes.skip ?_;obtain⟨Z,e_s22,h⟩:=bnd h;refine sq (gr fol [8] (kN w [(12,vl encI Z)]) (ac (hs (.done (.opt (zD ZT 22 (vl encI w) (some (.i m.At)) (some (.i (w64 (m.At+0)))) none)) (vl encI Z)) (qh5 qO (E:=encI) rfl (some m.At) (some (w64 (m.At+0))) e_s22)) az) ?_);refine sq ?_;obtain⟨r23,e_r23,h⟩:=bnd h;refine sq (gr fol [3] (kN w [(12,vl encI Z),(74,.bool (!r23))]) (ac (cv (qhh Z e_r23)) az) ?_);refine ihB h (fun c24 h=>?_) (fun c24 h=>?_)
  ·refine sh fol kBe ?_;refine Goes.ret ?_;obtain rfl:=si h;exact(gw2 [.nilslice,.i 18] (FzW.tuple (qm.cons (FzW.nilv (E:=encI)) (qm.cons (Ua tI) qm.nil))))
  refine Goes.skip ?_;obtain⟨_,e_r25,h⟩:=bnd h;obtain⟨_,e_r26,h⟩:=bnd h;obtain⟨a4,e_r27,h⟩:=bnd h;refine sq (gq fol [1,13,14] [(6,.oslice 5 a4.length 1),(7,.i 0)] (kP m.Kind m.At m.Letter (.cells [.i 0,.func (.func 224) [] [],.func (.func 225) [] []]::(kV k o p q (.dead::(kAE m.Letter (w64 (0-m.Letter)) (kA a4 [])))))) (ac (hs (.callH 65 [vl encI w] (kP m.Kind m.At m.Letter (.cells [.i 0,.func (.func 224) [] [],.func (.func 225) [] []]::(kV k o p q []))) [] (.gslice 3 w.length 1) (kP m.Kind m.At m.Letter (.cells [.i 0,.func (.func 224) [] [],.func (.func 225) [] []]::(kV k o p q (kA w []))))) (zQ [] [none,none,none,some 0] (qeb w e_r25) .nil rfl rfl (.old rfl rfl (.old rfl rfl (.old rfl rfl (.new rfl rfl (.same fa) rfl .nil)))) (rc (.same (qg encI _)) rn) (.gslice rfl) rfl)) (ac (hs (.callH 225 (kAz Z m.Kind m.At m.Letter) (kP m.Kind m.At m.Letter (.cells [.i 0,.func (.func 224) [] [],.func (.func 225) [] []]::(kV k o p q (kA w [])))) [] (.slice 4 0 2 2 1) (kP m.Kind m.At m.Letter (.cells [.i 0,.func (.func 224) [] [],.func (.func 225) [] []]::(kV k o p q (kA w (kAE m.Letter (w64 (0-m.Letter)) [])))))) (zQ [] [none,none,none,none,some 0] (qfz Z m.Kind m.At m.Letter e_r26) .nil rfl rfl (.old rfl rfl (.old rfl rfl (.old rfl rfl (.old rfl rfl (.new rfl rfl (.cells (rc (.same nI) (rc (.same nI) rn))) rfl .nil))))) (rc (.same (qg encI _)) (rc (.same (qJ.agg sn)) rn)) (.slice rfl) rfl)) (ac (hs (.callH 173 [.gslice 3 w.length 1,.i m.At,.i (w64 (m.At+0)),.slice 4 0 2 2 1] (kP m.Kind m.At m.Letter (.cells [.i 0,.func (.func 224) [] [],.func (.func 225) [] []]::(kV k o p q (kA w (kAE m.Letter (w64 (0-m.Letter)) []))))) [3,4] (.oslice 5 a4.length 1) (kP m.Kind m.At m.Letter (.cells [.i 0,.func (.func 224) [] [],.func (.func 225) [] []]::(kV k o p q (.dead::(kAE m.Letter (w64 (0-m.Letter)) (kA a4 []))))))) (zQ [some 3,some 4] [none,none,none,none,some 1,some 2] (qmm w m.At (w64 (m.At+0)) m.Letter (w64 (0-m.Letter)) e_r27) (.ks (.kb rfl (.cells (rc (.same nI) (rc (.same nI) rn))) .nil)) rfl rfl (.old rfl rfl (.old rfl rfl (.old rfl rfl (.dead (.back rfl rfl (.cells (rc (.same nI) (rc (.same nI) rn))) rfl (.new rfl rfl (.same fa) rfl .nil)))))) (rc (.gslice rfl) (rc (.same nI) (rc (.same nI) (rc (.slice rfl) rn)))) (.oslice rfl) rfl)) az))) ?_);refine Goes.ret ?_;obtain rfl:=si h;exact(gw2 [.oslice 5 a4.length 1,.i 0] (FzW.tuple (qm.cons (Ut (Fz.os (E:=encI) rfl rfl (nl rfl))) (qm.cons (Ua tI) qm.nil))))
 rcases wyB h with⟨c3,h⟩|⟨c3,h⟩
 ·refine gq fol [0,3] (kB n w (kAT [])) (kP m.Kind m.At m.Letter [.cells [.i 2,.func (.func 226) [] [],.func (.func 227) [] []]]) (ac (cv (qaW j)) (ac (hs (.done (qbt ZT 205 (fm1) (.str m.Kind) true) (.tuple [.agg [.i 2,.func (.func 226) [] [],.func (.func 227) [] []],.bool true])) (qla qlJ [[105,110,115,101,114,116],[99,97,110,99,101,108],[115,119,97,112],[116,117,114,110]] (xk f (qfW c3)) rfl)) az)) ?_;refine sh fol (kB n w (kAT (kAv (m.Kind==[105,110,115,101,114,116])))) ?_;refine sq ?_;refine sq ?_;obtain⟨⟨r,s,t,u,a5⟩,c,h⟩:=bnd h;refine Goes.cut (s':=(ofG 90 (kN w (kBP a5)),(kP m.Kind m.At m.Letter (.cells [.i 2,.func (.func 226) [] [],.func (.func 227) [] []]::(kV r s t u []))))) ?_ ?_
  ·obtain⟨v,a6,c⟩:=bnd c;obtain⟨x,a7,c⟩:=bnd c;obtain⟨y,a8,c⟩:=bnd c;rcases wyD c with⟨c32,c⟩|⟨c32,c⟩
   ·obtain⟨d1,e_r33,c⟩:=bnd c;obtain⟨r34,e_r34,c⟩:=bnd c;simp only[ZI,ZP]at c;obtain⟨rfl,rfl,rfl,rfl,rfl⟩:=c;exact jQ.rq fol [2,5,10,12,18,22,32,34] (kN w (kBP r34)) (kP m.Kind m.At m.Letter (.cells [.i 2,.func (.func 226) [] [],.func (.func 227) [] []]::(kV v x y d1 []))) (ac (cv (qo false 13 a6)) (ac (gw (congrArg not f)) (ac (cv (qo (!decide (m.Letter=0)) 1 a7)) (ac (gw f) (ac (cv (qo false 3 a8)) (ac (gw c32) (ac (cv (qo true 3 e_r33)) (ac (hs (.call 62 [.slice 2 0 4 4 1] (kP m.Kind m.At m.Letter (.cells [.i 2,.func (.func 226) [] [],.func (.func 227) [] []]::(kV v x y d1 []))) [2] [vl encI ([v,x,y,d1]:List Int)] (.i r34)) (qal (FzL.cons (Fz.lit rfl rfl (Uj (AllST.cons tI (AllST.cons tI (AllST.cons tI (AllST.cons tI AllST.nil)))))) FzL.nil) (zm N ([v,x,y,d1]:List Int) e_r34) tI rfl)) az))))))))
   obtain⟨d2,e_r35,c⟩:=bnd c;obtain⟨r36,e_r36,c⟩:=bnd c;simp only[ZI,ZP]at c;obtain⟨rfl,rfl,rfl,rfl,rfl⟩:=c;exact jQ.rq fol [2,5,10,12,18,22,32,34] (kN w (kBP r36)) (kP m.Kind m.At m.Letter (.cells [.i 2,.func (.func 226) [] [],.func (.func 227) [] []]::(kV v x y d2 []))) (ac (cv (qo false 13 a6)) (ac (gw (congrArg not f)) (ac (cv (qo (!decide (m.Letter=0)) 1 a7)) (ac (gw f) (ac (cv (qo false 3 a8)) (ac (gw c32) (ac (cv (qo (decide (m.At>(w64 ((w.length:Int)-2)))) 3 e_r35)) (ac (hs (.call 62 [.slice 2 0 4 4 1] (kP m.Kind m.At m.Letter (.cells [.i 2,.func (.func 226) [] [],.func (.func 227) [] []]::(kV v x y d2 []))) [2] [vl encI ([v,x,y,d2]:List Int)] (.i r36)) (qal (FzL.cons (Fz.lit rfl rfl (Uj (AllST.cons tI (AllST.cons tI (AllST.cons tI (AllST.cons tI AllST.nil)))))) FzL.nil) (zm N ([v,x,y,d2]:List Int) e_r36) tI rfl)) az))))))))
  try dsimp only at h
  refine sh fol (kN w [(11,.i a5),(59,.bool (!decide (a5=0)))]) ?_;refine ihB h (fun c43 h=>?_) (fun c43 h=>?_)
  ·refine sh fol (kA4 a5) ?_;refine Goes.ret ?_;obtain rfl:=si h;exact(gw2 [.nilslice,.i a5] (FzW.tuple (qm.cons (FzW.nilv (E:=encI)) (qm.cons (Ua tI) qm.nil))))
  refine Goes.skip ?_;obtain⟨a0,e_s44,h⟩:=bnd h;refine sq (gr fol [8] (kN w [(12,vl encI a0)]) (ac (hs (.done (.opt (zD ZT 22 (vl encI w) (some (.i m.At)) (some (.i (w64 (m.At+2)))) none)) (vl encI a0)) (qh5 qO (E:=encI) rfl (some m.At) (some (w64 (m.At+2))) e_s44)) az) ?_);refine sq ?_;obtain⟨r45,e_r45,h⟩:=bnd h;refine sq (gr fol [3] (kN w [(12,vl encI a0),(74,.bool (!r45))]) (ac (cv (qhe a0 e_r45)) az) ?_);refine ihB h (fun c46 h=>?_) (fun c46 h=>?_)
  ·refine sh fol kBe ?_;refine Goes.ret ?_;obtain rfl:=si h;exact(gw2 [.nilslice,.i 18] (FzW.tuple (qm.cons (FzW.nilv (E:=encI)) (qm.cons (Ua tI) qm.nil))))
  refine Goes.skip ?_;obtain⟨_,e_r47,h⟩:=bnd h;obtain⟨_,e_r48,h⟩:=bnd h;obtain⟨a9,e_r49,h⟩:=bnd h;refine sq (gq fol [1,13,14] [(6,.oslice 4 a9.length 1),(7,.i 0)] (kP m.Kind m.At m.Letter (.cells [.i 2,.func (.func 226) [] [],.func (.func 227) [] []]::(kV r s t u (.dead::(kA a9 []))))) (ac (hs (.callH 65 [vl encI w] (kP m.Kind m.At m.Letter (.cells [.i 2,.func (.func 226) [] [],.func (.func 227) [] []]::(kV r s t u []))) [] (.gslice 3 w.length 1) (kP m.Kind m.At m.Letter (.cells [.i 2,.func (.func 226) [] [],.func (.func 227) [] []]::(kV r s t u (kA w []))))) (zQ [] [none,none,none,some 0] (qeb w e_r47) .nil rfl rfl (.old rfl rfl (.old rfl rfl (.old rfl rfl (.new rfl rfl (.same fa) rfl .nil)))) (rc (.same (qg encI _)) rn) (.gslice rfl) rfl)) (ac (hs (.callH 227 (kAz a0 m.Kind m.At m.Letter) (kP m.Kind m.At m.Letter (.cells [.i 2,.func (.func 226) [] [],.func (.func 227) [] []]::(kV r s t u (kA w [])))) [] .nilslice (kP m.Kind m.At m.Letter (.cells [.i 2,.func (.func 226) [] [],.func (.func 227) [] []]::(kV r s t u (kA w []))))) (zQ [] [none,none,none,none] (qfN a0 m.Kind m.At m.Letter e_r48) .nil rfl rfl (.old rfl rfl (.old rfl rfl (.old rfl rfl (.old rfl rfl .nil)))) (rc (.same (qg encI _)) (rc (.same (qJ.agg sn)) rn)) (.same (qJ.nilslice)) rfl)) (ac (hs (.callH 173 [.gslice 3 w.length 1,.i m.At,.i (w64 (m.At+2)),.nilslice] (kP m.Kind m.At m.Letter (.cells [.i 2,.func (.func 226) [] [],.func (.func 227) [] []]::(kV r s t u (kA w [])))) [3] (.oslice 4 a9.length 1) (kP m.Kind m.At m.Letter (.cells [.i 2,.func (.func 226) [] [],.func (.func 227) [] []]::(kV r s t u (.dead::(kA a9 [])))))) (zQ [some 3] [none,none,none,none,some 1] (qsj w m.At (w64 (m.At+2)) e_r49) (.ks .nil) rfl rfl (.old rfl rfl (.old rfl rfl (.old rfl rfl (.dead (.new rfl rfl (.same fa) rfl .nil))))) (rc (.gslice rfl) (rc (.same nI) (rc (.same nI) (rc (.same (qJ.nilslice)) rn)))) (.oslice rfl) rfl)) az))) ?_);refine Goes.ret ?_;obtain rfl:=si h;exact(gw2 [.oslice 4 a9.length 1,.i 0] (FzW.tuple (qm.cons (Ut (Fz.os (E:=encI) rfl rfl (nl rfl))) (qm.cons (Ua tI) qm.nil))))
 rcases wyB h with⟨c4,h⟩|⟨c4,h⟩
 ·refine gq fol [0,3] (kB n w (kAT [])) (kP m.Kind m.At m.Letter [.cells [.i 2,.func (.func 228) [] [],.func (.func 229) [] []]]) (ac (cv (qaW j)) (ac (hs (.done (qbt ZT 205 (fm1) (.str m.Kind) true) (.tuple [.agg [.i 2,.func (.func 228) [] [],.func (.func 229) [] []],.bool true])) (qla qlJ [[105,110,115,101,114,116],[99,97,110,99,101,108],[115,119,97,112],[116,117,114,110]] (xk f (xk c3 (qfW c4))) rfl)) az)) ?_;refine sh fol (kB n w (kAT (kAv (m.Kind==[105,110,115,101,114,116])))) ?_;refine sq ?_;refine sq ?_;obtain⟨⟨z,A,B,C,b0⟩,d,h⟩:=bnd h;refine Goes.cut (s':=(ofG 90 (kN w (kBP b0)),(kP m.Kind m.At m.Letter (.cells [.i 2,.func (.func 228) [] [],.func (.func 229) [] []]::(kV z A B C []))))) ?_ ?_
  ·obtain⟨D,b1,d⟩:=bnd d;obtain⟨F,b2,d⟩:=bnd d;obtain⟨G,b3,d⟩:=bnd d;rcases wyD d with⟨c54,d⟩|⟨c54,d⟩
   ·obtain⟨d3,e_r55,d⟩:=bnd d;obtain⟨r56,e_r56,d⟩:=bnd d;simp only[ZI,ZP]at d;obtain⟨rfl,rfl,rfl,rfl,rfl⟩:=d;exact jQ.rq fol [2,5,10,12,18,22,32,34] (kN w (kBP r56)) (kP m.Kind m.At m.Letter (.cells [.i 2,.func (.func 228) [] [],.func (.func 229) [] []]::(kV D F G d3 []))) (ac (cv (qo false 13 b1)) (ac (gw (congrArg not f)) (ac (cv (qo (!decide (m.Letter=0)) 1 b2)) (ac (gw f) (ac (cv (qo false 3 b3)) (ac (gw c54) (ac (cv (qo true 3 e_r55)) (ac (hs (.call 62 [.slice 2 0 4 4 1] (kP m.Kind m.At m.Letter (.cells [.i 2,.func (.func 228) [] [],.func (.func 229) [] []]::(kV D F G d3 []))) [2] [vl encI ([D,F,G,d3]:List Int)] (.i r56)) (qal (FzL.cons (Fz.lit rfl rfl (Uj (AllST.cons tI (AllST.cons tI (AllST.cons tI (AllST.cons tI AllST.nil)))))) FzL.nil) (zm N ([D,F,G,d3]:List Int) e_r56) tI rfl)) az))))))))
   obtain⟨d4,e_r57,d⟩:=bnd d;obtain⟨r58,e_r58,d⟩:=bnd d;simp only[ZI,ZP]at d;obtain⟨rfl,rfl,rfl,rfl,rfl⟩:=d;exact jQ.rq fol [2,5,10,12,18,22,32,34] (kN w (kBP r58)) (kP m.Kind m.At m.Letter (.cells [.i 2,.func (.func 228) [] [],.func (.func 229) [] []]::(kV D F G d4 []))) (ac (cv (qo false 13 b1)) (ac (gw (congrArg not f)) (ac (cv (qo (!decide (m.Letter=0)) 1 b2)) (ac (gw f) (ac (cv (qo false 3 b3)) (ac (gw c54) (ac (cv (qo (decide (m.At>(w64 ((w.length:Int)-2)))) 3 e_r57)) (ac (hs (.call 62 [.slice 2 0 4 4 1] (kP m.Kind m.At m.Letter (.cells [.i 2,.func (.func 228) [] [],.func (.func 229) [] []]::(kV D F G d4 []))) [2] [vl encI ([D,F,G,d4]:List Int)] (.i r58)) (qal (FzL.cons (Fz.lit rfl rfl (Uj (AllST.cons tI (AllST.cons tI (AllST.cons tI (AllST.cons tI AllST.nil)))))) FzL.nil) (zm N ([D,F,G,d4]:List Int) e_r58) tI rfl)) az))))))))
  try dsimp only at h
  refine sh fol (kN w [(11,.i b0),(59,.bool (!decide (b0=0)))]) ?_;refine ihB h (fun c65 h=>?_) (fun c65 h=>?_)
  ·refine sh fol (kA4 b0) ?_;refine Goes.ret ?_;obtain rfl:=si h;exact(gw2 [.nilslice,.i b0] (FzW.tuple (qm.cons (FzW.nilv (E:=encI)) (qm.cons (Ua tI) qm.nil))))
  refine Goes.skip ?_;obtain⟨a1,e_s66,h⟩:=bnd h;refine sq (gr fol [8] (kN w [(12,vl encI a1)]) (ac (hs (.done (.opt (zD ZT 22 (vl encI w) (some (.i m.At)) (some (.i (w64 (m.At+2)))) none)) (vl encI a1)) (qh5 qO (E:=encI) rfl (some m.At) (some (w64 (m.At+2))) e_s66)) az) ?_);refine sq ?_;obtain⟨r67,e_r67,h⟩:=bnd h;refine sq (gr fol [3] (kN w [(12,vl encI a1),(74,.bool (!r67))]) (ac (cv (qhj a1 e_r67)) az) ?_);refine ihB h (fun c68 h=>?_) (fun c68 h=>?_)
  ·refine sh fol kBe ?_;refine Goes.ret ?_;obtain rfl:=si h;exact(gw2 [.nilslice,.i 18] (FzW.tuple (qm.cons (FzW.nilv (E:=encI)) (qm.cons (Ua tI) qm.nil))))
  refine Goes.skip ?_;obtain⟨_,e_r69,h⟩:=bnd h;obtain⟨⟨b4,b5⟩,e_r70,h⟩:=bnd h
  try dsimp only at h
  obtain⟨b6,e_r73,h⟩:=bnd h;refine sq (gq fol [1,13,14] [(6,.oslice 5 b6.length 1),(7,.i 0)] (kP m.Kind m.At m.Letter (.cells [.i 2,.func (.func 228) [] [],.func (.func 229) [] []]::(kV z A B C (.dead::(kAE b4 b5 (kA b6 [])))))) (ac (hs (.callH 65 [vl encI w] (kP m.Kind m.At m.Letter (.cells [.i 2,.func (.func 228) [] [],.func (.func 229) [] []]::(kV z A B C []))) [] (.gslice 3 w.length 1) (kP m.Kind m.At m.Letter (.cells [.i 2,.func (.func 228) [] [],.func (.func 229) [] []]::(kV z A B C (kA w []))))) (zQ [] [none,none,none,some 0] (qeb w e_r69) .nil rfl rfl (.old rfl rfl (.old rfl rfl (.old rfl rfl (.new rfl rfl (.same fa) rfl .nil)))) (rc (.same (qg encI _)) rn) (.gslice rfl) rfl)) (ac (hs (.callH 229 (kAz a1 m.Kind m.At m.Letter) (kP m.Kind m.At m.Letter (.cells [.i 2,.func (.func 228) [] [],.func (.func 229) [] []]::(kV z A B C (kA w [])))) [] (.slice 4 0 2 2 1) (kP m.Kind m.At m.Letter (.cells [.i 2,.func (.func 228) [] [],.func (.func 229) [] []]::(kV z A B C (kA w (kAE b4 b5 [])))))) (zQ [] [none,none,none,none,some 0] (qfH a1 m.Kind m.At m.Letter e_r70) .nil rfl rfl (.old rfl rfl (.old rfl rfl (.old rfl rfl (.old rfl rfl (.new rfl rfl (.cells (rc (.same nI) (rc (.same nI) rn))) rfl .nil))))) (rc (.same (qg encI _)) (rc (.same (qJ.agg sn)) rn)) (.slice rfl) rfl)) (ac (hs (.callH 173 [.gslice 3 w.length 1,.i m.At,.i (w64 (m.At+2)),.slice 4 0 2 2 1] (kP m.Kind m.At m.Letter (.cells [.i 2,.func (.func 228) [] [],.func (.func 229) [] []]::(kV z A B C (kA w (kAE b4 b5 []))))) [3,4] (.oslice 5 b6.length 1) (kP m.Kind m.At m.Letter (.cells [.i 2,.func (.func 228) [] [],.func (.func 229) [] []]::(kV z A B C (.dead::(kAE b4 b5 (kA b6 []))))))) (zQ [some 3,some 4] [none,none,none,none,some 1,some 2] (qmm w m.At (w64 (m.At+2)) b4 b5 e_r73) (.ks (.kb rfl (.cells (rc (.same nI) (rc (.same nI) rn))) .nil)) rfl rfl (.old rfl rfl (.old rfl rfl (.old rfl rfl (.dead (.back rfl rfl (.cells (rc (.same nI) (rc (.same nI) rn))) rfl (.new rfl rfl (.same fa) rfl .nil)))))) (rc (.gslice rfl) (rc (.same nI) (rc (.same nI) (rc (.slice rfl) rn)))) (.oslice rfl) rfl)) az))) ?_);refine Goes.ret ?_;obtain rfl:=si h;exact(gw2 [.oslice 5 b6.length 1,.i 0] (FzW.tuple (qm.cons (Ut (Fz.os (E:=encI) rfl rfl (nl rfl))) (qm.cons (Ua tI) qm.nil))))
 rcases wyB h with⟨c5,h⟩|⟨c5,h⟩
 ·refine gq fol [0,3] (kB n w (kAT [])) (kP m.Kind m.At m.Letter [.cells [.i 3,.func (.func 230) [] [],.func (.func 231) [] []]]) (ac (cv (qaW j)) (ac (hs (.done (qbt ZT 205 (fm1) (.str m.Kind) true) (.tuple [.agg [.i 3,.func (.func 230) [] [],.func (.func 231) [] []],.bool true])) (qla qlJ [[105,110,115,101,114,116],[99,97,110,99,101,108],[115,119,97,112],[116,117,114,110]] (xk f (xk c3 (xk c4 (qfW c5)))) rfl)) az)) ?_;refine sh fol (kB n w (kAT (kAv (m.Kind==[105,110,115,101,114,116])))) ?_;refine sq ?_;refine sq ?_;obtain⟨⟨H,I,J,K,b7⟩,e,h⟩:=bnd h;refine Goes.cut (s':=(ofG 90 (kN w (kBP b7)),(kP m.Kind m.At m.Letter (.cells [.i 3,.func (.func 230) [] [],.func (.func 231) [] []]::(kV H I J K []))))) ?_ ?_
  ·obtain⟨L,b8,e⟩:=bnd e;obtain⟨M,b9,e⟩:=bnd e;obtain⟨O,c0,e⟩:=bnd e;rcases wyD e with⟨c78,e⟩|⟨c78,e⟩
   ·obtain⟨d5,e_r79,e⟩:=bnd e;obtain⟨r80,e_r80,e⟩:=bnd e;simp only[ZI,ZP]at e;obtain⟨rfl,rfl,rfl,rfl,rfl⟩:=e;exact jQ.rq fol [2,5,10,12,18,22,32,34] (kN w (kBP r80)) (kP m.Kind m.At m.Letter (.cells [.i 3,.func (.func 230) [] [],.func (.func 231) [] []]::(kV L M O d5 []))) (ac (cv (qo false 13 b8)) (ac (gw (congrArg not f)) (ac (cv (qo (!decide (m.Letter=0)) 1 b9)) (ac (gw f) (ac (cv (qo false 3 c0)) (ac (gw c78) (ac (cv (qo true 3 e_r79)) (ac (hs (.call 62 [.slice 2 0 4 4 1] (kP m.Kind m.At m.Letter (.cells [.i 3,.func (.func 230) [] [],.func (.func 231) [] []]::(kV L M O d5 []))) [2] [vl encI ([L,M,O,d5]:List Int)] (.i r80)) (qal (FzL.cons (Fz.lit rfl rfl (Uj (AllST.cons tI (AllST.cons tI (AllST.cons tI (AllST.cons tI AllST.nil)))))) FzL.nil) (zm N ([L,M,O,d5]:List Int) e_r80) tI rfl)) az))))))))
   obtain⟨d6,e_r81,e⟩:=bnd e;obtain⟨r82,e_r82,e⟩:=bnd e;simp only[ZI,ZP]at e;obtain⟨rfl,rfl,rfl,rfl,rfl⟩:=e;exact jQ.rq fol [2,5,10,12,18,22,32,34] (kN w (kBP r82)) (kP m.Kind m.At m.Letter (.cells [.i 3,.func (.func 230) [] [],.func (.func 231) [] []]::(kV L M O d6 []))) (ac (cv (qo false 13 b8)) (ac (gw (congrArg not f)) (ac (cv (qo (!decide (m.Letter=0)) 1 b9)) (ac (gw f) (ac (cv (qo false 3 c0)) (ac (gw c78) (ac (cv (qo (decide (m.At>(w64 ((w.length:Int)-3)))) 3 e_r81)) (ac (hs (.call 62 [.slice 2 0 4 4 1] (kP m.Kind m.At m.Letter (.cells [.i 3,.func (.func 230) [] [],.func (.func 231) [] []]::(kV L M O d6 []))) [2] [vl encI ([L,M,O,d6]:List Int)] (.i r82)) (qal (FzL.cons (Fz.lit rfl rfl (Uj (AllST.cons tI (AllST.cons tI (AllST.cons tI (AllST.cons tI AllST.nil)))))) FzL.nil) (zm N ([L,M,O,d6]:List Int) e_r82) tI rfl)) az))))))))
  try dsimp only at h
  refine sh fol (kN w [(11,.i b7),(59,.bool (!decide (b7=0)))]) ?_;refine ihB h (fun c89 h=>?_) (fun c89 h=>?_)
  ·refine sh fol (kA4 b7) ?_;refine Goes.ret ?_;obtain rfl:=si h;exact(gw2 [.nilslice,.i b7] (FzW.tuple (qm.cons (FzW.nilv (E:=encI)) (qm.cons (Ua tI) qm.nil))))
  refine Goes.skip ?_;obtain⟨a2,e_s90,h⟩:=bnd h;refine sq (gr fol [8] (kN w [(12,vl encI a2)]) (ac (hs (.done (.opt (zD ZT 22 (vl encI w) (some (.i m.At)) (some (.i (w64 (m.At+3)))) none)) (vl encI a2)) (qh5 qO (E:=encI) rfl (some m.At) (some (w64 (m.At+3))) e_s90)) az) ?_);refine sq ?_;obtain⟨r91,e_r91,h⟩:=bnd h;refine sq (gr fol [3] (kN w [(12,vl encI a2),(74,.bool (!r91))]) (ac (cv (qjL a2 e_r91)) az) ?_);refine ihB h (fun c92 h=>?_) (fun c92 h=>?_)
  ·refine sh fol kBe ?_;refine Goes.ret ?_;obtain rfl:=si h;exact(gw2 [.nilslice,.i 18] (FzW.tuple (qm.cons (FzW.nilv (E:=encI)) (qm.cons (Ua tI) qm.nil))))
  refine Goes.skip ?_;obtain⟨_,e_r93,h⟩:=bnd h;obtain⟨l95,e_r94,h⟩:=bnd h;obtain⟨c1,e_r96,h⟩:=bnd h;refine sq (gq fol [1,13,14] [(6,.oslice 4 c1.length 1),(7,.i 0)] (kP m.Kind m.At m.Letter (.cells [.i 3,.func (.func 230) [] [],.func (.func 231) [] []]::(kV H I J K (.dead::(kA c1 []))))) (ac (hs (.callH 65 [vl encI w] (kP m.Kind m.At m.Letter (.cells [.i 3,.func (.func 230) [] [],.func (.func 231) [] []]::(kV H I J K []))) [] (.gslice 3 w.length 1) (kP m.Kind m.At m.Letter (.cells [.i 3,.func (.func 230) [] [],.func (.func 231) [] []]::(kV H I J K (kA w []))))) (zQ [] [none,none,none,some 0] (qeb w e_r93) .nil rfl rfl (.old rfl rfl (.old rfl rfl (.old rfl rfl (.new rfl rfl (.same fa) rfl .nil)))) (rc (.same (qg encI _)) rn) (.gslice rfl) rfl)) (ac (hs (.callH 231 (kAz a2 m.Kind m.At m.Letter) (kP m.Kind m.At m.Letter (.cells [.i 3,.func (.func 230) [] [],.func (.func 231) [] []]::(kV H I J K (kA w [])))) [] (vl encI l95) (kP m.Kind m.At m.Letter (.cells [.i 3,.func (.func 230) [] [],.func (.func 231) [] []]::(kV H I J K (kA w []))))) (zQ [] [none,none,none,none] (qgI a2 m.Kind m.At m.Letter e_r94) .nil rfl rfl (.old rfl rfl (.old rfl rfl (.old rfl rfl (.old rfl rfl .nil)))) (rc (.same (qg encI _)) (rc (.same (qJ.agg sn)) rn)) (.same (qg encI _)) rfl)) (ac (hs (.callH 173 (.gslice 3 w.length 1:: .i m.At:: .i (w64 (m.At+3))::(kAq l95)) (kP m.Kind m.At m.Letter (.cells [.i 3,.func (.func 230) [] [],.func (.func 231) [] []]::(kV H I J K (kA w [])))) [3] (.oslice 4 c1.length 1) (kP m.Kind m.At m.Letter (.cells [.i 3,.func (.func 230) [] [],.func (.func 231) [] []]::(kV H I J K (.dead::(kA c1 [])))))) (zQ [some 3] [none,none,none,none,some 1] (qrn w m.At (w64 (m.At+3)) l95 e_r96) (.ks .nil) rfl rfl (.old rfl rfl (.old rfl rfl (.old rfl rfl (.dead (.new rfl rfl (.same fa) rfl .nil))))) (rc (.gslice rfl) (rc (.same nI) (rc (.same nI) (rc (.same (qg encI _)) rn)))) (.oslice rfl) rfl)) az))) ?_);refine Goes.ret ?_;obtain rfl:=si h;exact(gw2 [.oslice 4 c1.length 1,.i 0] (FzW.tuple (qm.cons (Ut (Fz.os (E:=encI) rfl rfl (nl rfl))) (qm.cons (Ua tI) qm.nil))))
 refine gq fol [0,3] (kB n w (kBB [(8,.ptr 1 0),(9,.bool false)])) (kP m.Kind m.At m.Letter (kA3 [])) (ac (cv (qaW j)) (ac (hs (.done (qbt ZT 205 (fm1) (.str m.Kind) true) (.tuple [.agg [.i 0,.nilfunc,.nilfunc],.bool false])) (qs6 qlJ [[105,110,115,101,114,116],[99,97,110,99,101,108],[115,119,97,112],[116,117,114,110]] (xk f (xk c3 (xk c4 (xk c5 (rfl))))))) az)) ?_;refine sh fol (kB n w (kBB ((8,.ptr 1 0)::(9,.bool false)::(kAv (m.Kind==[105,110,115,101,114,116]))))) ?_;refine sq ?_;refine sq ?_;obtain⟨⟨n106,n107,n108,n109,P⟩,a,h⟩:=bnd h;refine Goes.cut (s':=(ofG 90 (kN w (kBP P)),(kP m.Kind m.At m.Letter (kA3 (kV n106 n107 n108 n109 []))))) ?_ ?_
 ·obtain⟨Q,c6,a⟩:=bnd a;obtain⟨U,c7,a⟩:=bnd a;obtain⟨g,V,a⟩:=bnd a;rcases wyD a with⟨c8,a⟩|⟨c8,a⟩
  ·obtain⟨X,d7,a⟩:=bnd a;obtain⟨r103,d8,a⟩:=bnd a;simp only[ZI,ZP]at a;obtain⟨rfl,rfl,rfl,rfl,rfl⟩:=a;exact jQ.rq fol [2,5,10,12,18,22,32,34] (kN w (kBP r103)) (kP m.Kind m.At m.Letter (kA3 (kV Q U g X []))) (ac (cv (qo true 13 c6)) (ac (gw (congrArg not f)) (ac (cv (qo (!decide (m.Letter=0)) 1 c7)) (ac (gw f) (ac (cv (qo false 3 V)) (ac (gw c8) (ac (cv (qo true 3 d7)) (ac (hs (.call 62 [.slice 2 0 4 4 1] (kP m.Kind m.At m.Letter (kA3 (kV Q U g X []))) [2] [vl encI ([Q,U,g,X]:List Int)] (.i r103)) (qal (FzL.cons (Fz.lit rfl rfl (Uj (AllST.cons tI (AllST.cons tI (AllST.cons tI (AllST.cons tI AllST.nil)))))) FzL.nil) (zm N ([Q,U,g,X]:List Int) d8) tI rfl)) az))))))))
  obtain⟨Y,d9,a⟩:=bnd a;obtain⟨r105,e0,a⟩:=bnd a;simp only[ZI,ZP]at a;obtain⟨rfl,rfl,rfl,rfl,rfl⟩:=a;exact jQ.rq fol [2,5,10,12,18,22,32,34] (kN w (kBP r105)) (kP m.Kind m.At m.Letter (kA3 (kV Q U g Y []))) (ac (cv (qo true 13 c6)) (ac (gw (congrArg not f)) (ac (cv (qo (!decide (m.Letter=0)) 1 c7)) (ac (gw f) (ac (cv (qo false 3 V)) (ac (gw c8) (ac (cv (qo (decide (m.At>(w64 ((w.length:Int)-0)))) 3 d9)) (ac (hs (.call 62 [.slice 2 0 4 4 1] (kP m.Kind m.At m.Letter (kA3 (kV Q U g Y []))) [2] [vl encI ([Q,U,g,Y]:List Int)] (.i r105)) (qal (FzL.cons (Fz.lit rfl rfl (Uj (AllST.cons tI (AllST.cons tI (AllST.cons tI (AllST.cons tI AllST.nil)))))) FzL.nil) (zm N ([Q,U,g,Y]:List Int) e0) tI rfl)) az))))))))
 try dsimp only at h
 refine sh fol (kN w [(11,.i P),(59,.bool (!decide (P=0)))]) ?_;refine ihB h (fun c112 h=>?_) (fun c112 h=>?_)
 ·refine sh fol (kA4 P) ?_;refine Goes.ret ?_;obtain rfl:=si h;exact(gw2 [.nilslice,.i P] (FzW.tuple (qm.cons (FzW.nilv (E:=encI)) (qm.cons (Ua tI) qm.nil))))
 refine Goes.skip ?_;obtain⟨s113,e1,h⟩:=bnd h;refine sq (gr fol [8] (kN w [(12,vl encI s113)]) (ac (hs (.done (.opt (zD ZT 22 (vl encI w) (some (.i m.At)) (some (.i (w64 (m.At+0)))) none)) (vl encI s113)) (qh5 qO (E:=encI) rfl (some m.At) (some (w64 (m.At+0))) e1)) az) ?_);refine sq ?_;refine sq ?_;cases h
def jJ (N:Nat) (n:Int) (l:List zy):Nat->(List Int)->Int->Option ((List Int)⊕((List Int)×Int))
 |0,_,_=>none
 |K+1,c,b=>
  if b<(l.length:Int)then
  (idx l b).bind fun d=>
  (qaa N n c d).bind fun a=>
  if(!decide (a.2=0))=true then
  some (.inr ([],a.2))
  else
  jJ N n l K a.1 (w64 (b+1))
  else
  some (.inl c)
def qaT (N:Nat) (n:Int) (w:List Int) (l:List zy):Option ((List Int)×Int):=
 if(l.length:Int)>100000 then
 some ([],5)
 else
 (qeK w).bind fun _=>
 (jJ N n l N w 0).bind (fun
 |(.inl b)=>
 some (b,0)
 |(.inr a)=>
 some a)
theorem qfk (N:Nat) (n:Int) (w:List Int) (l:List zy) {res:(List Int)×Int} (h:qaT N n w l=some res):qc ZT (.fn 44) [.i n,vl encI w,vl qG l] [] (.tuple (kBc res.1 res.2)) []:=by
 unfold qaT at h;refine Ub Tryz.func44 rfl rfl (m:=36) rfl (rs:=[.tmp 6,.tmp 7]) rfl (l:=(kB n w (kAN l []))) rfl ?_;refine sh fol (kB n w (kAN l [])) ?_;refine sq ?_;refine sh fol (kB n w (kAN l (kBK (decide ((l.length:Int)>100000))))) ?_;refine ihD h (fun q h=>?_) (fun q h=>?_)
 ·refine sh fol [(6,.nilslice),(7,.i 5)] ?_;refine Goes.ret ?_;obtain rfl:=si h;exact(gw2 [.nilslice,.i 5] (FzW.tuple (qm.cons (FzW.nilv (E:=encI)) (qm.cons (Ua tI) qm.nil))))
 refine Goes.skip ?_;obtain⟨_,f,h⟩:=bnd h;refine sq (gq fol [1] ((0,.i n)::(1,.gslice 0 w.length 1)::(kAN l [])) (kA w []) (ac (hs (.callH 65 [vl encI w] [] [] (.gslice 0 w.length 1) (kA w [])) (zQ [] [some 0] (qeb w f) .nil rfl rfl (.new rfl rfl (.same fa) rfl .nil) (rc (.same (qg encI _)) rn) (.gslice rfl) rfl)) az) ?_);refine sq ?_;refine sh fol [(0,.i n),(1,.gslice 0 w.length 1),(17,vl qG l),(18,.i (l.length:Int)),(19,.i 0)] ?_;refine Goes.block ?_;obtain⟨k,g6,h⟩:=bnd h;refine Goes.imp (Q:=fun x s'=>(x= .exit 0/\ ∃g,(.inl g)=k/\Sub s' (ofG 36 [(1,vl encI g)],[]))\/(x= .ret/\ ∃o,(.inr o)=k/\zo ZT [.tmp 6,.tmp 7] (.tuple (kBc o.1 o.2)) .ret s')) ?_ ?_
 ·refine Goes.sub (s':=(ofG 36 (kB n w [(17,vl qG l),(18,.i (l.length:Int)),(19,.i 0)]),[])) (Uc [0] [] rfl rfl (.keep (.same nI) (.keep (.frz (Fz.gs (E:=encI) rfl rfl (nl rfl)) (qg encI _)) (.keep (.same (qg qG _)) (.keep (.same nI) (.keep (.same nI) .nil))))) .nil) ?_;refine Ud (fun M s=> ∃(e:List Int) (b:Int),s=(ofG 36 (kB n e (kAr l (l.length:Int) b [])),[])/\jJ N n l M e b=some k) ?_ (m:=N) ⟨_,_,rfl,g6⟩;rintro M s ⟨e,b,rfl,g6⟩
  cases M with
  |zero=>simp only[jJ]at g6;cases g6
  |succ M=>
   rw[jJ]at g6;refine sh fol (kB n e (kAr l (l.length:Int) b [(20,.bool (decide (b<(l.length:Int))))])) ?_;refine sq ?_;refine ihD g6 (fun r g6=>?_) (fun r g6=>?_)
   ·refine Goes.skip ?_;refine sq (Goes.block ?_);obtain⟨j,c,g6⟩:=bnd g6;refine sq (gq fol [0,1] (kB n e ((9,.ptr 0 0)::(kAr l (l.length:Int) b []))) (kP j.Kind j.At j.Letter []) (ac (iv sl23 qG c) (ac (la ag79 qG c) az)) ?_);obtain⟨a,d,g6⟩:=bnd g6;refine sq (gr fol [3] ((0,.i n)::(kA5 a.1 a.2 (kAr l (l.length:Int) b []))) (ac (cv (qjU N n e j d)) az) ?_);refine sq ?_;refine sh fol ((0,.i n)::(kA5 a.1 a.2 (kAr l (l.length:Int) b [(31,.bool (!decide (a.2=0)))]))) ?_;refine ihB g6 (fun p g6=>?_) (fun p g6=>?_)
    ·refine sh fol (kA4 a.2) ?_;refine Goes.ret ?_;obtain rfl:=si g6;exact Or.inr (⟨rfl,_,rfl,(gw2 [.nilslice,.i a.2] (FzW.tuple (qm.cons (FzW.nilv (E:=encI)) (qm.cons (Ua tI) qm.nil))))⟩)
    refine Goes.skip ?_;refine gh fol (kB n a.1 (kAr l (l.length:Int) b [])) ?_;refine gh fol (kB n a.1 (kAr l (l.length:Int) (w64 (b+1)) [])) ?_;exact⟨M,(ofG 36 (kB n a.1 (kAr l (l.length:Int) (w64 (b+1)) [])),[]),Nat.lt_succ_self _,(Uc [] [] rfl rfl (.keep (.same nI) (.keep (.same (qg encI _)) (.keep (.same (qg qG _)) (.keep (.same nI) (.keep (.same nI) .nil))))) .nil),_,_,rfl,g6⟩
   refine Goes.exit ?_;obtain rfl:=si g6;exact Or.inl (⟨rfl,_,rfl,(Sub.keep [1] rfl rfl)⟩)
 rintro x s' (⟨rfl,g,rfl,hsub⟩|⟨rfl,t,rfl,hret⟩)
 ·try dsimp only at h
  refine Goes.sub hsub ?_;refine sh fol [(6,vl encI g),(7,.i 0)] ?_;refine Goes.ret ?_;obtain rfl:=si h;exact(gw2 [vl encI g,.i 0] (FzW.tuple (qm.cons (Ua (qx encI _ (nl rfl))) (qm.cons (Ua tI) qm.nil))))
 try dsimp only at h
 obtain rfl:=si h;exact hret
def qbr (w:List Int):Option ((List Int)×Int):=
 if(w.length:Int)>200 then
 some ([],5)
 else
 some (w,0)
theorem qhI (w:List Int) {res:(List Int)×Int} (h:qbr w=some res):qc ZT (.fn 45) [vl encI w] [] (.tuple (kBc res.1 res.2)) []:=by
 unfold qbr at h;refine Ub Tryz.func45 rfl rfl (m:=8) rfl (rs:=[.tmp 2,.tmp 3]) rfl (l:=(kX w [])) rfl ?_;refine sh fol (kX w []) ?_;refine sq ?_;refine sh fol (kX w [(6,.bool (decide ((w.length:Int)>200)))]) ?_;refine ihD h (fun a h=>?_) (fun a h=>?_)
 ·refine sh fol [(2,.nilslice),(3,.i 5)] ?_;refine Goes.ret ?_;obtain rfl:=si h;exact(gw2 [.nilslice,.i 5] (FzW.tuple (qm.cons (FzW.nilv (E:=encI)) (qm.cons (Ua tI) qm.nil))))
 refine Goes.skip ?_;refine sh fol (kBT w [(3,.i 0)]) ?_;refine Goes.ret ?_;obtain rfl:=si h;exact(gw2 [vl encI w,.i 0] (FzW.tuple (qm.cons (Ua (qx encI _ (nl rfl))) (qm.cons (Ua tI) qm.nil))))
def y8 (N:Nat) (n:Int) (w:List Int) (l:List zy):Option ((List Int)×Int):=
 (jS N n w).bind fun b=>
 if(!decide (b=0))=true then
 some ([],b)
 else
 (qaT N n w l).bind fun a=>
 if(!decide (a.2=0))=true then
 some ([],a.2)
 else
 (qbr a.1).bind fun c=>
 some (c.1,c.2)
theorem qdt (N:Nat) (n:Int) (w:List Int) (l:List zy) {res:(List Int)×Int} (h:y8 N n w l=some res):qc ZT (.fn 10) [.i n,vl encI w,vl qG l] [] (.tuple (kBc res.1 res.2)) []:=by
 unfold y8 at h;refine Ub Tryz.func10 rfl rfl (m:=31) rfl (rs:=[.tmp 6,.tmp 7]) rfl (l:=(kB n w (kAN l []))) rfl ?_;refine sh fol (kB n w (kAN l [])) ?_;refine sq ?_;obtain⟨b,c,h⟩:=bnd h;refine sq (gr fol [2] (kB n w (kAN l (kAk b))) (ac (cv (qai N n w c)) az) ?_);refine sh fol (kB n w (kAN l [(8,.i b),(15,.bool (!decide (b=0)))])) ?_;refine ihB h (fun g h=>?_) (fun g h=>?_)
 ·refine sh fol (kA4 b) ?_;refine Goes.ret ?_;obtain rfl:=si h;exact(gw2 [.nilslice,.i b] (FzW.tuple (qm.cons (FzW.nilv (E:=encI)) (qm.cons (Ua tI) qm.nil))))
 refine Goes.skip ?_;obtain⟨a,d,h⟩:=bnd h;refine sq (gr fol [3] (kAx a.1 a.2 []) (ac (cv (qfk N n w l d)) az) ?_);refine sq ?_;refine sh fol (kAx a.1 a.2 [(25,.bool (!decide (a.2=0)))]) ?_;refine ihB h (fun j h=>?_) (fun j h=>?_)
 ·refine sh fol (kA4 a.2) ?_;refine Goes.ret ?_;obtain rfl:=si h;exact(gw2 [.nilslice,.i a.2] (FzW.tuple (qm.cons (FzW.nilv (E:=encI)) (qm.cons (Ua tI) qm.nil))))
 refine Goes.skip ?_;obtain⟨f,e,h⟩:=bnd h;refine sq (gr fol [1] (kBa f.1 f.2 []) (ac (cv (qhI a.1 e)) az) ?_);refine Goes.ret ?_;obtain rfl:=si h;exact(gw2 (kBc f.1 f.2) (FzW.tuple (qm.cons (Ua (qx encI _ (nl rfl))) (qm.cons (Ua tI) qm.nil))))
def zT (c:List Int):Nat->(List Int)->Int->Option (List Int)
 |0,_,_=>none
 |K+1,b,a=>
  if a<(c.length:Int)then
  (idx b a).bind fun e=>
  (put b a a).bind fun d=>
  zT c K d (w64 (a+1))
  else
  some b
def zI (N:Nat) (a:Int):Option (List Int):=
 (mk 8 a 0).bind fun b=>
 (zT b N b 0).bind fun c=>
 some c
theorem vO (N:Nat) (c:Int) {n:List Int} (h:zI N c=some n):qc ZT (.fn 106) [.i c] [] (.slice 0 0 n.length n.length 1) (kA n []):=by
 unfold zI at h;refine Um Tryz.func106 rfl rfl (m:=18) rfl (rs:=[.tmp 2]) rfl (l:=(kBW c)) rfl ?_;intro B hB;refine sh fol (kBW c) ?_;obtain⟨a,k,h⟩:=bnd h;refine sq (gq fol [1] (kQ a []) (kA a []) (ac (hs (.run [] (jv ZT 22 (.i c) (.i c)) [] (.slice 0 0 a.length a.length 1) (kA a []) false) (qd3 qO (E:=encI) (z:=0) rfl (by kernel_rfl) k rfl)) az) ?_);refine sq ?_;refine sh fol (kQ a [(8,.i (a.length:Int)),(9,.i 0)]) ?_;refine Goes.block ?_;obtain⟨o,g6,h⟩:=bnd h;refine Goes.imp (Q:=fun x s'=>(x= .exit 0/\ ∃j,j=o/\Sub s' (ofG 18 (kQ j []),(kA j [])))) ?_ ?_
 ·refine Ud (fun M s=> ∃(d:List Int) (b:Int),s=(ofG 18 (kQ d (kAf (a.length:Int) b [])),(kA d []))/\zT a M d b=some o) ?_ (m:=N) ⟨_,_,rfl,g6⟩;rintro M s ⟨d,b,rfl,g6⟩
  cases M with
  |zero=>simp only[zT]at g6;cases g6
  |succ M=>
   rw[zT]at g6;refine sh fol (kQ d (kAf (a.length:Int) b (kAv (decide (b<(a.length:Int)))))) ?_;refine sq ?_;refine ihD g6 (fun p g6=>?_) (fun p g6=>?_)
   ·refine Goes.skip ?_;refine sq (Goes.block ?_);refine sh fol (kQ d ((4,.i b)::(kAf (a.length:Int) b []))) ?_;obtain⟨q,e,g6⟩:=bnd g6;obtain⟨f,g,g6⟩:=bnd g6;refine gq fol [3,4] (kQ d (kAf (a.length:Int) b [])) (kA f []) (ac (hs (.done (.opt (qa ZT 22 (.slice 0 0 d.length d.length 1) (.i b))) (.ptr 0 ((b:Int).toNat*1+0))) (ym qO e)) (ac (hs (.run [0] (qC ZT 3 (.ptr 0 ((b:Int).toNat*1+0)) (.i b)) (kA d []) .undef (kA f []) true) (jX (E:=encI) (l:=d) (y:=b) rfl (show _=some 1 by kernel_rfl) rfl e rfl rfl rfl rfl rfl g rfl)) az)) ?_;refine Goes.sub (show Sub (ofG 18 (kQ d (kAf (a.length:Int) b [])),(kA f [])) (ofG 18 (kQ f (kAf (a.length:Int) b [])),(kA f []))from(Uc [] [some 0] (by rw[hB];rfl) rfl (.keep (.sliceE rfl (qZ g)) (.keep (.same nI) (.keep (.same nI) .nil))) (.ks .nil))) ?_;refine gh fol (kQ f (kAf (a.length:Int) (w64 (b+1)) [])) ?_;exact⟨M,(ofG 18 (kQ f (kAf (a.length:Int) (w64 (b+1)) [])),(kA f [])),Nat.lt_succ_self _,(Sub.refl _),_,_,rfl,g6⟩
   refine Goes.exit ?_;obtain rfl:=si g6;exact⟨rfl,_,rfl,(Sub.keep [3] rfl rfl)⟩
 rintro x s' ⟨rfl,j,rfl,hsub⟩;refine Goes.sub hsub ?_;refine sh fol (kBH j) ?_;refine Goes.ret ?_;obtain rfl:=si h;exact(gh2 [.slice 0 0 j.length j.length 1] (qdo.refl _ _))
def zf:Nat->(List Int)->Int->Int->Option (List Int)
 |0,_,_,_=>none
 |K+1,c,d,a=>
  if d<a then
  (idx c a).bind fun f=>
  (idx c d).bind fun g=>
  (put c d f).bind fun b=>
  (idx b a).bind fun h=>
  (put b a g).bind fun e=>
  zf K e (w64 (d+1)) (w64 (a-1))
  else
  some c
def jU (N:Nat) (a:List Int):Option (List Int):=
 (zf N a 0 (w64 ((a.length:Int)-1))).bind fun b=>
 some b
theorem qd1 (N:Nat) (b:List Int) {t:List Int} (h:jU N b=some t):qc ZT (.fn 164) [.slice 0 0 b.length b.length 1] (kA b []) (.tuple []) (kA t []):=by
 unfold jU at h;refine Um Tryz.func164 rfl rfl (m:=28) rfl (rs:=[]) rfl (l:=[(0,.slice 0 0 b.length b.length 1)]) rfl ?_;intro B hB;refine Uw ?_;refine sh fol [(0,.slice 0 0 b.length b.length 1),(2,.i 0),(3,.i (w64 ((b.length:Int)-1)))] ?_;refine Goes.block ?_;obtain⟨u,g6,h⟩:=bnd h;refine Goes.imp (Q:=fun x s'=>(x= .exit 0/\ ∃p,p=u/\Sub s' (ofG 28 [],(kA p [])))) ?_ ?_
 ·refine Ud (fun M s=> ∃(a:List Int) (d:Int) (e:Int),s=(ofG 28 (kAa a d e []),(kA a []))/\zf M a d e=some u) ?_ (m:=N) ⟨_,_,_,rfl,g6⟩;rintro M s ⟨a,d,e,rfl,g6⟩
  cases M with
  |zero=>simp only[zf]at g6;cases g6
  |succ M=>
   rw[zf]at g6;refine sq ?_;refine sh fol (kAa a d e [(9,.bool (decide (d<e)))]) ?_;refine ihD g6 (fun v g6=>?_) (fun v g6=>?_)
   ·refine Goes.skip ?_;refine sq (Goes.block ?_);obtain⟨q,g,g6⟩:=bnd g6;obtain⟨r,f,g6⟩:=bnd g6;obtain⟨n,j,g6⟩:=bnd g6;obtain⟨w,o,g6⟩:=bnd g6;obtain⟨c,k,g6⟩:=bnd g6;refine gq fol [6,7,10,11,12,13,14,15] (kAa a d e []) (kA c []) (ac (hs (.done (.opt (qa ZT 133 (.slice 0 0 a.length a.length 1) (.i e))) (.ptr 0 ((e:Int).toNat*1+0))) (ym qbN g)) (ac (hs (.run [0] (qQ ZT 3 (.ptr 0 ((e:Int).toNat*1+0))) (kA a []) (.i q) (kA a []) false) (qa6 ce3 (E:=encI) (l:=a) rfl rfl g (nl rfl) rfl)) (ac (hs (.done (.opt (qa ZT 133 (.slice 0 0 a.length a.length 1) (.i d))) (.ptr 0 ((d:Int).toNat*1+0))) (ym qbN f)) (ac (hs (.run [0] (qQ ZT 3 (.ptr 0 ((d:Int).toNat*1+0))) (kA a []) (.i r) (kA a []) false) (qa6 ce3 (E:=encI) (l:=a) rfl rfl f (nl rfl) rfl)) (ac (hs (.done (.opt (qa ZT 133 (.slice 0 0 a.length a.length 1) (.i d))) (.ptr 0 ((d:Int).toNat*1+0))) (ym qbN f)) (ac (hs (.run [0] (qC ZT 3 (.ptr 0 ((d:Int).toNat*1+0)) (.i q)) (kA a []) .undef (kA n []) true) (jX (E:=encI) (l:=a) (y:=q) rfl (show _=some 1 by kernel_rfl) rfl f rfl rfl rfl rfl rfl j rfl)) (ac (hs (.done (.opt (qa ZT 133 (.slice 0 0 a.length a.length 1) (.i e))) (.ptr 0 ((e:Int).toNat*1+0))) (ym qbN g)) (ac (hs (.run [0] (qC ZT 3 (.ptr 0 ((e:Int).toNat*1+0)) (.i r)) (kA n []) .undef (kA c []) true) (jX (E:=encI) (l:=n) (y:=r) rfl (show _=some 1 by kernel_rfl) rfl o rfl rfl rfl rfl rfl k rfl)) az)))))))) ?_;refine Goes.sub (show Sub (ofG 28 (kAa a d e []),(kA c [])) (ofG 28 (kAa c d e []),(kA c []))from(Uc [] [some 0] (by rw[hB];rfl) rfl (.keep (.sliceE rfl ((qZ j).trans (qZ k))) (.keep (.same nI) (.keep (.same nI) .nil))) (.ks .nil))) ?_;refine gh fol (kAa c (w64 (d+1)) (w64 (e-1)) []) ?_;exact⟨M,(ofG 28 (kAa c (w64 (d+1)) (w64 (e-1)) []),(kA c [])),Nat.lt_succ_self _,(Sub.refl _),_,_,_,rfl,g6⟩
   refine Goes.exit ?_;obtain rfl:=si g6;exact⟨rfl,_,rfl,(Sub.keep [] rfl rfl)⟩
 rintro x s' ⟨rfl,p,rfl,hsub⟩;obtain rfl:=si h;exact⟨_,hsub,(gh2 [] (qdo.refl _ _))⟩
def qcq (N:Nat) (n:Int):Option (List Int):=
 (zI N n).bind fun a=>
 (jU N a).bind fun b=>
 ((if a.length=b.length then some ()else none:Option Unit)).bind fun c=>
 some b
theorem qgw (N:Nat) (n:Int) {res:List Int} (h:qcq N n=some res):qc ZT (.fn 96) [.i n] [] (vl encI res) []:=by
 unfold qcq at h;refine Ub Tryz.func96 rfl rfl (m:=9) rfl (rs:=[.tmp 2]) rfl (l:=(kBW n)) rfl ?_;refine sh fol (kBW n) ?_;obtain⟨a,c,h⟩:=bnd h;refine sq (gq fol [1] (kQ a []) (kA a []) (ac (hs (.callH 106 [.i n] [] [] (.slice 0 0 a.length a.length 1) (kA a [])) (zQ [] [some 0] (vO N n c) .nil rfl rfl (.new rfl rfl (.same fa) rfl .nil) (rc (.same nI) rn) (.slice rfl) rfl)) az) ?_);obtain⟨b,d,h⟩:=bnd h;obtain⟨f,e,h⟩:=bnd h;refine sq (gq fol [1] (kQ a []) (kA b []) (ac (hs (.callH 164 [.slice 0 0 a.length a.length 1] (kA a []) [0] (.tuple []) (kA b [])) (zQ [some 0] [some 0] (qd1 N a d) (.ks .nil) rfl rfl (.back rfl rfl (.same fa) rfl .nil) (rc (.slice rfl) rn) (.same (qJ.tuple sn)) rfl)) az) ?_);refine Goes.sub (show Sub (ofG 9 (kQ a []),(kA b [])) (ofG 9 (kQ b []),(kA b []))from(Uc [] [some 0] rfl rfl (.keep (.sliceE rfl (qoP e)) .nil) (.ks .nil))) ?_;refine sh fol (kBH b) ?_;refine Goes.ret ?_;obtain rfl:=si h;exact(gw2 [.slice 0 0 b.length b.length 1] (Ut (Fz.sl (E:=encI) rfl rfl (nl rfl))))
def zN (p:List Int) (i:Int):Option (List Int):=
 (qi3 p).bind fun _=>
 (idx p (w64 (i+1))).bind fun b=>
 (idx p i).bind fun c=>
 (put p i b).bind fun a=>
 (idx a (w64 (i+1))).bind fun e=>
 (put a (w64 (i+1)) c).bind fun d=>
 some d
theorem xG (p:List Int) (i:Int) {res:List Int} (h:zN p i=some res):qc ZT (.fn 107) (kBc p i) [] (vl encI res) []:=by
 unfold zN at h;refine Ub Tryz.func107 rfl rfl (m:=25) rfl (rs:=[.tmp 4]) rfl (l:=(kX p [(1,.i i)])) rfl ?_;refine sh fol (kX p [(1,.i i)]) ?_;obtain⟨_,f,h⟩:=bnd h;refine sq (gq fol [1] ((1,.i i)::(kAb p [])) (kA p []) (ac (hs (.callH 165 [vl encI p] [] [] (.gslice 0 p.length 1) (kA p [])) (zQ [] [some 0] (qpQ p f) .nil rfl rfl (.new rfl rfl (.same fa) rfl .nil) (rc (.same (qg encI _)) rn) (.gslice rfl) rfl)) az) ?_);obtain⟨j,b,h⟩:=bnd h;obtain⟨k,a,h⟩:=bnd h;obtain⟨n,c,h⟩:=bnd h;obtain⟨o,g,h⟩:=bnd h;obtain⟨e,d,h⟩:=bnd h;refine sq (gq fol [8,9,12,13,14,15,16,17] (kAb p []) (kA e []) (ac (hs (.done (.opt (qa ZT 133 (.gslice 0 p.length 1) (.i (w64 (i+1))))) (.ptr 0 ((w64 (i+1):Int).toNat*1+0))) (zh qbN b)) (ac (hs (.run [0] (qQ ZT 3 (.ptr 0 ((w64 (i+1):Int).toNat*1+0))) (kA p []) (.i j) (kA p []) false) (qa6 ce3 (E:=encI) (l:=p) rfl rfl b (nl rfl) rfl)) (ac (hs (.done (.opt (qa ZT 133 (.gslice 0 p.length 1) (.i i))) (.ptr 0 ((i:Int).toNat*1+0))) (zh qbN a)) (ac (hs (.run [0] (qQ ZT 3 (.ptr 0 ((i:Int).toNat*1+0))) (kA p []) (.i k) (kA p []) false) (qa6 ce3 (E:=encI) (l:=p) rfl rfl a (nl rfl) rfl)) (ac (hs (.done (.opt (qa ZT 133 (.gslice 0 p.length 1) (.i i))) (.ptr 0 ((i:Int).toNat*1+0))) (zh qbN a)) (ac (hs (.run [0] (qC ZT 3 (.ptr 0 ((i:Int).toNat*1+0)) (.i j)) (kA p []) .undef (kA n []) true) (jX (E:=encI) (l:=p) (y:=j) rfl (show _=some 1 by kernel_rfl) rfl a rfl rfl rfl rfl rfl c rfl)) (ac (hs (.done (.opt (qa ZT 133 (.gslice 0 p.length 1) (.i (w64 (i+1))))) (.ptr 0 ((w64 (i+1):Int).toNat*1+0))) (zh qbN b)) (ac (hs (.run [0] (qC ZT 3 (.ptr 0 ((w64 (i+1):Int).toNat*1+0)) (.i k)) (kA n []) .undef (kA e []) true) (jX (E:=encI) (l:=n) (y:=k) rfl (show _=some 1 by kernel_rfl) rfl g rfl rfl rfl rfl rfl d rfl)) az)))))))) ?_);refine Goes.sub (show Sub (ofG 25 (kAb p []),(kA e [])) (ofG 25 (kAb e []),(kA e []))from(Uc [] [some 0] rfl rfl (.keep (.gsliceE rfl ((qZ c).trans (qZ d))) .nil) (.ks .nil))) ?_;refine sh fol [(4,.gslice 0 e.length 1)] ?_;refine Goes.ret ?_;obtain rfl:=si h;exact(gw2 [.gslice 0 e.length 1] (Ut (Fz.gs (E:=encI) rfl rfl (nl rfl))))
def zk (p:List Int):Nat->(List Int)->Int->Option (List Int)
 |0,_,_=>none
 |K+1,b,a=>
  if a<(p.length:Int)then
  (idx p a).bind fun c=>
  (idx b (w64 ((w64 ((p.length:Int)-1))-a))).bind fun e=>
  (put b (w64 ((w64 ((p.length:Int)-1))-a)) (w64 ((w64 ((p.length:Int)-1))-c))).bind fun d=>
  zk p K d (w64 (a+1))
  else
  some b
def vK (N:Nat) (p:List Int):Option (List Int):=
 (mk 8 (p.length:Int) 0).bind fun a=>
 (zk p N a 0).bind fun b=>
 some b
theorem qep (N:Nat) (p:List Int) {res:List Int} (h:vK N p=some res):qc ZT (.fn 109) [vl encI p] [] (vl encI res) []:=by
 unfold vK at h;refine Ub Tryz.func109 rfl rfl (m:=30) rfl (rs:=[.tmp 2]) rfl (l:=(kX p [])) rfl ?_;refine sh fol (kX p []) ?_;refine sh fol (kX p [(3,.i (p.length:Int))]) ?_;obtain⟨j,k,h⟩:=bnd h;refine sq (gq fol [1] (kX p [(3,.i (p.length:Int)),(4,.slice 0 0 j.length j.length 1)]) (kA j []) (ac (hs (.run [] (jv ZT 133 (.i (p.length:Int)) (.i (p.length:Int))) [] (.slice 0 0 j.length j.length 1) (kA j []) false) (qd3 qbN (E:=encI) (z:=0) rfl (by kernel_rfl) k rfl)) az) ?_);refine sq ?_;refine sh fol (kAA (p.length:Int) j p [(13,.i 0)]) ?_;refine Goes.block ?_;obtain⟨o,g5,h⟩:=bnd h;refine Goes.imp (Q:=fun x s'=>(x= .exit 0/\ ∃c,c=o/\Sub s' (ofG 30 [(4,.slice 0 0 c.length c.length 1)],(kA c [])))) ?_ ?_
 ·refine Ud (fun M s=> ∃(b:List Int) (a:Int),s=(ofG 30 (kAA (p.length:Int) b p [(13,.i a)]),(kA b []))/\zk p M b a=some o) ?_ (m:=N) ⟨_,_,rfl,g5⟩;rintro M s ⟨b,a,rfl,g5⟩
  cases M with
  |zero=>simp only[zk]at g5;cases g5
  |succ M=>
   rw[zk]at g5;refine sh fol (kAA (p.length:Int) b p ((13,.i a)::(kBK (decide (a<(p.length:Int)))))) ?_;refine sq ?_;refine ihD g5 (fun q g5=>?_) (fun q g5=>?_)
   ·refine Goes.skip ?_;refine sq (Goes.block ?_);obtain⟨n,d,g5⟩:=bnd g5;refine sq (gr fol [1,2] ((3,.i (p.length:Int))::(4,.slice 0 0 b.length b.length 1)::(5,.i a)::(6,.i n)::(11,vl encI p)::(kAX (p.length:Int) a)) (ac (iv qbN encI d) (ac (lv 0 ce3 encI d rfl) az)) ?_);obtain⟨r,e,g5⟩:=bnd g5;obtain⟨f,g,g5⟩:=bnd g5;refine gq fol [9,10] (kAA (p.length:Int) b p [(13,.i a)]) (kA f []) (ac (hs (.done (.opt (qa ZT 133 (.slice 0 0 b.length b.length 1) (.i (w64 ((w64 ((p.length:Int)-1))-a))))) (.ptr 0 ((w64 ((w64 ((p.length:Int)-1))-a):Int).toNat*1+0))) (ym qbN e)) (ac (hs (.run [0] (qC ZT 3 (.ptr 0 ((w64 ((w64 ((p.length:Int)-1))-a):Int).toNat*1+0)) (.i (w64 ((w64 ((p.length:Int)-1))-n)))) (kA b []) .undef (kA f []) true) (jX (E:=encI) (l:=b) (y:=w64 ((w64 ((p.length:Int)-1))-n)) rfl (show _=some 1 by kernel_rfl) rfl e rfl rfl rfl rfl rfl g rfl)) az)) ?_;refine Goes.sub (show Sub (ofG 30 (kAA (p.length:Int) b p [(13,.i a)]),(kA f [])) (ofG 30 (kAA (p.length:Int) f p [(13,.i a)]),(kA f []))from(Uc [] [some 0] rfl rfl (.keep (.same nI) (.keep (.sliceE rfl (qZ g)) (.keep (.same (qg encI _)) (.keep (.same nI) (.keep (.same nI) .nil))))) (.ks .nil))) ?_;refine gh fol (kAA (p.length:Int) f p [(13,.i (w64 (a+1)))]) ?_;exact⟨M,(ofG 30 (kAA (p.length:Int) f p [(13,.i (w64 (a+1)))]),(kA f [])),Nat.lt_succ_self _,(Sub.refl _),_,_,rfl,g5⟩
   refine Goes.exit ?_;obtain rfl:=si g5;exact⟨rfl,_,rfl,(Sub.keep [4] rfl rfl)⟩
 rintro x s' ⟨rfl,c,rfl,hsub⟩;refine Goes.sub hsub ?_;refine sh fol (kBH c) ?_;refine Goes.ret ?_;obtain rfl:=si h;exact(gw2 [.slice 0 0 c.length c.length 1] (Ut (Fz.sl (E:=encI) rfl rfl (nl rfl))))
def zF (p:List Int):Nat->(List Int)->Int->Option (List Int)
 |0,_,_=>none
 |K+1,b,a=>
  if a<(p.length:Int)then
  (idx p a).bind fun c=>
  (idx b c).bind fun e=>
  (put b c a).bind fun d=>
  zF p K d (w64 (a+1))
  else
  some b
def jw (N:Nat) (p:List Int):Option (List Int):=
 (mk 8 (p.length:Int) 0).bind fun a=>
 (zF p N a 0).bind fun b=>
 some b
theorem qaD (N:Nat) (p:List Int) {res:List Int} (h:jw N p=some res):qc ZT (.fn 174) [vl encI p] [] (vl encI res) []:=by
 unfold jw at h;refine Ub Tryz.func174 rfl rfl (m:=22) rfl (rs:=[.tmp 2]) rfl (l:=(kX p [])) rfl ?_;refine sh fol (kX p []) ?_;obtain⟨j,k,h⟩:=bnd h;refine sq (gq fol [2] (kX p (kQ j [])) (kA j []) (ac (hs (.run [] (jv ZT 133 (.i (p.length:Int)) (.i (p.length:Int))) [] (.slice 0 0 j.length j.length 1) (kA j []) false) (qd3 qbN (E:=encI) (z:=0) rfl (by kernel_rfl) k rfl)) az) ?_);refine sq ?_;refine sh fol (kQ j (kAx p (p.length:Int) [(11,.i 0)])) ?_;refine Goes.block ?_;obtain⟨o,g5,h⟩:=bnd h;refine Goes.imp (Q:=fun x s'=>(x= .exit 0/\ ∃g,g=o/\Sub s' (ofG 22 (kQ g []),(kA g [])))) ?_ ?_
 ·refine Ud (fun M s=> ∃(b:List Int) (a:Int),s=(ofG 22 (kQ b (kAx p (p.length:Int) (kBP a))),(kA b []))/\zF p M b a=some o) ?_ (m:=N) ⟨_,_,rfl,g5⟩;rintro M s ⟨b,a,rfl,g5⟩
  cases M with
  |zero=>simp only[zF]at g5;cases g5
  |succ M=>
   rw[zF]at g5;refine sh fol (kQ b (kAx p (p.length:Int) [(11,.i a),(12,.bool (decide (a<(p.length:Int))))])) ?_;refine sq ?_;refine ihD g5 (fun q g5=>?_) (fun q g5=>?_)
   ·refine Goes.skip ?_;refine sq (Goes.block ?_);obtain⟨n,c,g5⟩:=bnd g5;refine sq (gr fol [1,2] (kQ b ((4,.i a)::(5,.i n)::(kAx p (p.length:Int) (kBP a)))) (ac (iv qbN encI c) (ac (lv 0 ce3 encI c rfl) az)) ?_);obtain⟨r,d,g5⟩:=bnd g5;obtain⟨e,f,g5⟩:=bnd g5;refine gq fol [3,4] (kQ b (kAx p (p.length:Int) (kBP a))) (kA e []) (ac (hs (.done (.opt (qa ZT 133 (.slice 0 0 b.length b.length 1) (.i n))) (.ptr 0 ((n:Int).toNat*1+0))) (ym qbN d)) (ac (hs (.run [0] (qC ZT 3 (.ptr 0 ((n:Int).toNat*1+0)) (.i a)) (kA b []) .undef (kA e []) true) (jX (E:=encI) (l:=b) (y:=a) rfl (show _=some 1 by kernel_rfl) rfl d rfl rfl rfl rfl rfl f rfl)) az)) ?_;refine Goes.sub (show Sub (ofG 22 (kQ b (kAx p (p.length:Int) (kBP a))),(kA e [])) (ofG 22 (kQ e (kAx p (p.length:Int) (kBP a))),(kA e []))from(Uc [] [some 0] rfl rfl (.keep (.sliceE rfl (qZ f)) (.keep (.same (qg encI _)) (.keep (.same nI) (.keep (.same nI) .nil)))) (.ks .nil))) ?_;refine gh fol (kQ e (kAx p (p.length:Int) (kBP (w64 (a+1))))) ?_;exact⟨M,(ofG 22 (kQ e (kAx p (p.length:Int) (kBP (w64 (a+1))))),(kA e [])),Nat.lt_succ_self _,(Sub.refl _),_,_,rfl,g5⟩
   refine Goes.exit ?_;obtain rfl:=si g5;exact⟨rfl,_,rfl,(Sub.keep [3] rfl rfl)⟩
 rintro x s' ⟨rfl,g,rfl,hsub⟩;refine Goes.sub hsub ?_;refine sh fol (kBH g) ?_;refine Goes.ret ?_;obtain rfl:=si h;exact(gw2 [.slice 0 0 g.length g.length 1] (Ut (Fz.sl (E:=encI) rfl rfl (nl rfl))))
def jO (N:Nat) (p:List Int) (i:Int):Option (List Int):=
 (jw N p).bind fun a=>
 (zN a i).bind fun b=>
 (jw N b).bind fun c=>
 some c
theorem qb0 (N:Nat) (p:List Int) (i:Int) {res:List Int} (h:jO N p i=some res):qc ZT (.fn 110) (kBc p i) [] (vl encI res) []:=by
 unfold jO at h;refine Ub Tryz.func110 rfl rfl (m:=10) rfl (rs:=[.tmp 4]) rfl (l:=(kX p [(1,.i i)])) rfl ?_;refine sh fol (kX p [(1,.i i)]) ?_;obtain⟨e,a,h⟩:=bnd h;obtain⟨f,b,h⟩:=bnd h;obtain⟨d,c,h⟩:=bnd h;refine sq (gr fol [1,3,4] [(4,vl encI d)] (ac (cv (qaD N p a)) (ac (cv (xG e i b)) (ac (cv (qaD N f c)) az))) ?_);refine Goes.ret ?_;obtain rfl:=si h;exact(gw2 [vl encI d] (Ua (qx encI _ (nl rfl))))
def jP (p:List Int) (i:Int):Option Bool:=
 (idx p i).bind fun a=>
 (idx p (w64 (i+1))).bind fun b=>
 some (decide (a>b))
theorem qan (p:List Int) (i:Int) {res:Bool} (h:jP p i=some res):qc ZT (.fn 166) (kBc p i) [] (.bool res) []:=by
 unfold jP at h;refine Ub Tryz.func166 rfl rfl (m:=15) rfl (rs:=[.tmp 4]) rfl (l:=(kX p [(1,.i i)])) rfl ?_;refine sh fol (kX p [(1,.i i)]) ?_;obtain⟨c,a,h⟩:=bnd h;obtain⟨d,b,h⟩:=bnd h;refine sq (gr fol [2,3,7,8] (kAj (decide (c>d))) (ac (iv qbN encI a) (ac (lv 0 ce3 encI a rfl) (ac (iv qbN encI b) (ac (lv 0 ce3 encI b rfl) az)))) ?_);refine Goes.ret ?_;obtain rfl:=si h;exact(gw2 [.bool (decide (c>d))] (Ua tB))
def yV (N:Nat) (p:List Int) (i:Int):Option Bool:=
 (jw N p).bind fun a=>
 (jP a i).bind fun b=>
 some b
theorem qfw (N:Nat) (p:List Int) (i:Int) {res:Bool} (h:yV N p i=some res):qc ZT (.fn 222) (kBc p i) [] (.bool res) []:=by
 unfold yV at h;refine Ub Tryz.func222 rfl rfl (m:=9) rfl (rs:=[.tmp 4]) rfl (l:=(kX p [(1,.i i)])) rfl ?_;refine sh fol (kX p [(1,.i i)]) ?_;obtain⟨d,a,h⟩:=bnd h;obtain⟨c,b,h⟩:=bnd h;refine sq (gr fol [1,3] (kAj c) (ac (cv (qaD N p a)) (ac (cv (qan d i b)) az)) ?_);refine Goes.ret ?_;obtain rfl:=si h;exact(gw2 [.bool c] (Ua tB))
def jC (N:Nat) (a:List Int) (b:List Int):Nat->Int->Option (Unit⊕(Int×Bool))
 |0,_=>none
 |K+1,c=>
  if c<(w64 ((a.length:Int)-1))then
  ((jP b c).bind fun d=>
  if d=true then
  (yV N a c).bind fun e=>
  some (!e)
  else
  some false:Option Bool).bind fun f=>
  if f=true then
  some (.inr (c,true))
  else
  jC N a b K (w64 (c+1))
  else
  some (.inl ())
def qax (N:Nat) (a:List Int) (b:List Int):Option (Int×Bool):=
 (jC N a b N 0).bind (fun
 |(.inl ())=>
 some (0,false)
 |(.inr c)=>
 some c)
theorem qhS (N:Nat) (a:List Int) (b:List Int) {res:Int×Bool} (h:qax N a b=some res):qc ZT (.fn 163) (vl encI a::(kAq b)) [] (.tuple [.i res.1,.bool res.2]) []:=by
 unfold qax at h;refine Ub Tryz.func163 rfl rfl (m:=24) rfl (rs:=[.tmp 4,.tmp 5]) rfl (l:=(kJ a b [])) rfl ?_;refine sh fol (kJ a b []) ?_;refine sq ?_;refine sh fol (kJ a b [(9,.i (w64 ((a.length:Int)-1))),(10,.i 0)]) ?_;refine Goes.block ?_;obtain⟨g,g2,h⟩:=bnd h;refine Goes.imp (Q:=fun x s'=>(x= .exit 0/\(.inl ())=g/\Sub s' (ofG 24 [],[]))\/(x= .ret/\ ∃j,(.inr j)=g/\zo ZT [.tmp 4,.tmp 5] (.tuple [.i j.1,.bool j.2]) .ret s')) ?_ ?_
 ·refine Ud (fun M s=> ∃(d:Int),s=(ofG 24 (kJ a b [(9,.i (w64 ((a.length:Int)-1))),(10,.i d)]),[])/\jC N a b M d=some g) ?_ (m:=N) ⟨_,rfl,g2⟩;rintro M s ⟨d,rfl,g2⟩
  cases M with
  |zero=>simp only[jC]at g2;cases g2
  |succ M=>
   rw[jC]at g2;refine sh fol (kJ a b [(9,.i (w64 ((a.length:Int)-1))),(10,.i d),(11,.bool (decide (d<(w64 ((a.length:Int)-1)))))]) ?_;refine sq ?_;refine ihD g2 (fun o g2=>?_) (fun o g2=>?_)
   ·refine Goes.skip ?_;refine sq (Goes.block ?_);refine sh fol (kJ a b [(6,.i d),(9,.i (w64 ((a.length:Int)-1))),(10,.i d)]) ?_;refine sq ?_;obtain⟨p,c,g2⟩:=bnd g2;refine Goes.cut (s':=(ofG 24 (kJ a b [(6,.i d),(9,.i (w64 ((a.length:Int)-1))),(10,.i d),(21,.bool p)]),[])) ?_ ?_
    ·obtain⟨t,e,c⟩:=bnd c;rcases wyB c with⟨k,c⟩|⟨k,c⟩
     ·obtain⟨q,f,c⟩:=bnd c;obtain rfl:=si c;exact tr fol [2,3,6] (kJ a b [(6,.i d),(9,.i (w64 ((a.length:Int)-1))),(10,.i d),(21,.bool (!q))]) (ac (cv (qan b d e)) (ac (gw k) (ac (cv (qfw N a d f)) az)))
     obtain rfl:=si c;exact tr fol [2,3] (kJ a b [(6,.i d),(9,.i (w64 ((a.length:Int)-1))),(10,.i d),(21,.bool false)]) (ac (cv (qan b d e)) (ac (gw k) az))
    refine ihB g2 (fun n g2=>?_) (fun n g2=>?_)
    ·refine sh fol [(4,.i d),(5,.bool true)] ?_;refine Goes.ret ?_;obtain rfl:=si g2;exact Or.inr (⟨rfl,_,rfl,(gw2 [.i d,.bool true] (FzW.tuple (qm.cons (Ua tI) (qm.cons (Ua tB) qm.nil))))⟩)
    refine Goes.skip ?_;refine gh fol (kJ a b [(9,.i (w64 ((a.length:Int)-1))),(10,.i (w64 (d+1)))]) ?_;exact⟨M,(ofG 24 (kJ a b [(9,.i (w64 ((a.length:Int)-1))),(10,.i (w64 (d+1)))]),[]),Nat.lt_succ_self _,(Sub.refl _),_,rfl,g2⟩
   refine Goes.exit ?_;obtain rfl:=si g2;exact Or.inl (⟨rfl,rfl,(Sub.keep [] rfl rfl)⟩)
 rintro x s' (⟨rfl,rfl,hsub⟩|⟨rfl,r,rfl,hret⟩)
 ·try dsimp only at h
  refine Goes.sub hsub ?_;refine sh fol [(4,.i 0),(5,.bool false)] ?_;refine Goes.ret ?_;obtain rfl:=si h;exact(gw2 [.i 0,.bool false] (FzW.tuple (qm.cons (Ua tI) (qm.cons (Ua tB) qm.nil))))
 try dsimp only at h
 obtain rfl:=si h;exact hret
def cmp_isNaN_int (a:Int):Option Bool:=
 some (!decide (a=a))
theorem xL (a:Int) {res:Bool} (h:cmp_isNaN_int a=some res):qc ZT (.fn 275) [.i a] [] (.bool res) []:=by
 unfold cmp_isNaN_int at h;refine Ub Tryz.func275 rfl rfl (m:=6) rfl (rs:=[.tmp 2]) rfl (l:=(kBW a)) rfl ?_;refine sh fol (kBW a) ?_;refine sh fol [(2,.bool (!decide (a=a)))] ?_;refine Goes.ret ?_;obtain rfl:=si h;exact(gw2 [.bool (!decide (a=a))] (Ua tB))
def cmp_Less_int (a:Int) (y:Int):Option Bool:=
 ((cmp_isNaN_int a).bind fun b=>
 if b=true then
 (cmp_isNaN_int y).bind fun c=>
 if(!c)=true then
 some true
 else
 some (decide (a<y))
 else
 some (decide (a<y)):Option Bool).bind fun d=>
 some d
theorem qim (c:Int) (y:Int) {res:Bool} (h:cmp_Less_int c y=some res):qc ZT (.fn 236) [.i c,.i y] [] (.bool res) []:=by
 unfold cmp_Less_int at h;refine Ub Tryz.func236 rfl rfl (m:=17) rfl (rs:=[.tmp 4]) rfl (l:=(kAM c y [])) rfl ?_;refine sh fol (kAM c y []) ?_;refine sq ?_;obtain⟨g,a,h⟩:=bnd h;refine Goes.cut (s':=(ofG 17 (kAj g),[])) ?_ ?_
 ·obtain⟨j,b,a⟩:=bnd a;rcases wyB a with⟨e,a⟩|⟨e,a⟩
  ·obtain⟨k,d,a⟩:=bnd a;rcases wyB a with⟨f,a⟩|⟨f,a⟩
   ·obtain rfl:=si a;exact tr fol [1,2,4,7] kAw (ac (cv (xL c b)) (ac (gw e) (ac (cv (xL y d)) (ac (gw f) az))))
   obtain rfl:=si a;exact tr fol [1,2,4,7] (kAj (decide (c<y))) (ac (cv (xL c b)) (ac (gw e) (ac (cv (xL y d)) (ac (gw f) az))))
  obtain rfl:=si a;exact tr fol [1,2] (kAj (decide (c<y))) (ac (cv (xL c b)) (ac (gw e) az))
 refine Goes.ret ?_;obtain rfl:=si h;exact(gw2 [.bool g] (Ua tB))
def zu (b:List Int):Nat->Int->Option (Unit⊕Bool)
 |0,_=>none
 |K+1,a=>
  if a>0 then
  (idx b a).bind fun c=>
  (idx b (w64 (a-1))).bind fun d=>
  (cmp_Less_int c d).bind fun e=>
  if e=true then
  some (.inr false)
  else
  zu b K (w64 (a-1))
  else
  some (.inl ())
def slices_IsSorted_int (N:Nat) (a:List Int):Option Bool:=
 (zu a N (w64 ((a.length:Int)-1))).bind (fun
 |(.inl ())=>
 some true
 |(.inr b)=>
 some b)
theorem qe1 (N:Nat) (a:List Int) {res:Bool} (h:slices_IsSorted_int N a=some res):qc ZT (.fn 176) [vl encI a] [] (.bool res) []:=by
 unfold slices_IsSorted_int at h;refine Ub Tryz.func176 rfl rfl (m:=21) rfl (rs:=[.tmp 2]) rfl (l:=(kX a [])) rfl ?_;refine sh fol (kX a []) ?_;refine sq ?_;refine sh fol (kX a [(3,.i (w64 ((a.length:Int)-1)))]) ?_;refine Goes.block ?_;obtain⟨f,g2,h⟩:=bnd h;refine Goes.imp (Q:=fun x s'=>(x= .exit 0/\(.inl ())=f/\Sub s' (ofG 21 [],[]))\/(x= .ret/\ ∃g,(.inr g)=f/\zo ZT [.tmp 2] (.bool g) .ret s')) ?_ ?_
 ·refine Ud (fun M s=> ∃(b:Int),s=(ofG 21 (kX a [(3,.i b)]),[])/\zu a M b=some f) ?_ (m:=N) ⟨_,rfl,g2⟩;rintro M s ⟨b,rfl,g2⟩
  cases M with
  |zero=>simp only[zu]at g2;cases g2
  |succ M=>
   rw[zu]at g2;refine sq ?_;refine sh fol (kX a ((3,.i b)::(kBb (decide (b>0))))) ?_;refine ihD g2 (fun j g2=>?_) (fun j g2=>?_)
   ·refine Goes.skip ?_;refine sq (Goes.block ?_);obtain⟨k,c,g2⟩:=bnd g2;obtain⟨n,d,g2⟩:=bnd g2;obtain⟨o,e,g2⟩:=bnd g2;refine sq (gr fol [2,3,7,8,9] (kX a [(3,.i b),(20,.bool o)]) (ac (iv qbN encI c) (ac (lv 0 ce3 encI c rfl) (ac (iv qbN encI d) (ac (lv 0 ce3 encI d rfl) (ac (cv (qim k n e)) az))))) ?_);refine ihB g2 (fun p g2=>?_) (fun p g2=>?_)
    ·refine sh fol [(2,.bool false)] ?_;refine Goes.ret ?_;obtain rfl:=si g2;exact Or.inr (⟨rfl,_,rfl,(gw2 [.bool false] (Ua tB))⟩)
    refine Goes.skip ?_;refine gh fol (kX a [(3,.i (w64 (b-1)))]) ?_;exact⟨M,(ofG 21 (kX a [(3,.i (w64 (b-1)))]),[]),Nat.lt_succ_self _,(Sub.refl _),_,rfl,g2⟩
   refine Goes.exit ?_;obtain rfl:=si g2;exact Or.inl (⟨rfl,rfl,(Sub.keep [] rfl rfl)⟩)
 rintro x s' (⟨rfl,rfl,hsub⟩|⟨rfl,q,rfl,hret⟩)
 ·try dsimp only at h
  refine Goes.sub hsub ?_;refine sh fol [(2,.bool true)] ?_;refine Goes.ret ?_;obtain rfl:=si h;exact(gw2 [.bool true] (Ua tB))
 try dsimp only at h
 obtain rfl:=si h;exact hret
def yL (N:Nat) (p:List Int):Option Bool:=
 (slices_IsSorted_int N p).bind fun a=>
 some a
theorem qfb (N:Nat) (p:List Int) {res:Bool} (h:yL N p=some res):qc ZT (.fn 112) [vl encI p] [] (.bool res) []:=by
 unfold yL at h;refine Ub Tryz.func112 rfl rfl (m:=5) rfl (rs:=[.tmp 2]) rfl (l:=(kX p [])) rfl ?_;refine sh fol (kX p []) ?_;obtain⟨b,a,h⟩:=bnd h;refine sq (gr fol [1] [(2,.bool b)] (ac (cv (qe1 N p a)) az) ?_);refine Goes.ret ?_;obtain rfl:=si h;exact(gw2 [.bool b] (Ua tB))
def jb (b:List Int) (c:List Int):Nat->Int->Option (Unit⊕Bool)
 |0,_=>none
 |K+1,a=>
  if a<(b.length:Int)then
  (idx b a).bind fun d=>
  (idx c a).bind fun e=>
  if(!decide (d=e))=true then
  some (.inr false)
  else
  jb b c K (w64 (a+1))
  else
  some (.inl ())
def slices_Equal_int (N:Nat) (a:List Int) (b:List Int):Option Bool:=
 if(!decide ((a.length:Int)=(b.length:Int)))=true then
 some false
 else
 (jb a b N 0).bind (fun
 |(.inl ())=>
 some true
 |(.inr c)=>
 some c)
theorem qgf (N:Nat) (a:List Int) (b:List Int) {res:Bool} (h:slices_Equal_int N a b=some res):qc ZT (.fn 113) (vl encI a::(kAq b)) [] (.bool res) []:=by
 unfold slices_Equal_int at h;refine Ub Tryz.func113 rfl rfl (m:=26) rfl (rs:=[.tmp 4]) rfl (l:=(kJ a b [])) rfl ?_;refine sh fol (kJ a b []) ?_;refine sq ?_;refine sh fol (kJ a b (kAv (!decide ((a.length:Int)=(b.length:Int))))) ?_;refine ihB h (fun j h=>?_) (fun j h=>?_)
 ·refine sh fol kAP ?_;refine Goes.ret ?_;obtain rfl:=si h;exact(gw2 [.bool false] (Ua tB))
 refine Goes.skip ?_;refine sq ?_;refine sh fol (kJ a b [(12,.i (a.length:Int)),(13,.i 0)]) ?_;refine Goes.block ?_;obtain⟨f,g3,h⟩:=bnd h;refine Goes.imp (Q:=fun x s'=>(x= .exit 0/\(.inl ())=f/\Sub s' (ofG 26 [],[]))\/(x= .ret/\ ∃g,(.inr g)=f/\zo ZT [.tmp 4] (.bool g) .ret s')) ?_ ?_
 ·refine Ud (fun M s=> ∃(c:Int),s=(ofG 26 (kJ a b (kAX (a.length:Int) c)),[])/\jb a b M c=some f) ?_ (m:=N) ⟨_,rfl,g3⟩;rintro M s ⟨c,rfl,g3⟩
  cases M with
  |zero=>simp only[jb]at g3;cases g3
  |succ M=>
   rw[jb]at g3;refine sh fol (kJ a b ((12,.i (a.length:Int))::(13,.i c)::(kBK (decide (c<(a.length:Int)))))) ?_;refine sq ?_;refine ihD g3 (fun k g3=>?_) (fun k g3=>?_)
   ·refine Goes.skip ?_;refine sq (Goes.block ?_);refine sh fol (kJ a b ((5,.i c)::(kAX (a.length:Int) c))) ?_;obtain⟨n,d,g3⟩:=bnd g3;obtain⟨o,e,g3⟩:=bnd g3;refine sq (gr fol [2,3,6,7] (kJ a b [(12,.i (a.length:Int)),(13,.i c),(24,.bool (!decide (n=o)))]) (ac (iv qbN encI d) (ac (lv 0 ce3 encI d rfl) (ac (iv qbN encI e) (ac (lv 0 ce3 encI e rfl) az)))) ?_);refine ihB g3 (fun p g3=>?_) (fun p g3=>?_)
    ·refine sh fol kAP ?_;refine Goes.ret ?_;obtain rfl:=si g3;exact Or.inr (⟨rfl,_,rfl,(gw2 [.bool false] (Ua tB))⟩)
    refine Goes.skip ?_;refine gh fol (kJ a b (kAX (a.length:Int) (w64 (c+1)))) ?_;exact⟨M,(ofG 26 (kJ a b (kAX (a.length:Int) (w64 (c+1)))),[]),Nat.lt_succ_self _,(Sub.refl _),_,rfl,g3⟩
   refine Goes.exit ?_;obtain rfl:=si g3;exact Or.inl (⟨rfl,rfl,(Sub.keep [] rfl rfl)⟩)
 rintro x s' (⟨rfl,rfl,hsub⟩|⟨rfl,q,rfl,hret⟩)
 ·try dsimp only at h
  refine Goes.sub hsub ?_;refine sh fol kAw ?_;refine Goes.ret ?_;obtain rfl:=si h;exact(gw2 [.bool true] (Ua tB))
 try dsimp only at h
 obtain rfl:=si h;exact hret
def ky (N:Nat) (a:List (List Int)):Nat->(List (List Int))->Int->Option (List (List Int))
 |0,_,_=>none
 |K+1,c,b=>
  if b<(a.length:Int)then
  (idx a b).bind fun d=>
  (vK N d).bind fun e=>
  (app 24 c [e]).bind fun f=>
  ky N a K f (w64 (b+1))
  else
  some c
def jM (N:Nat) (a:List (List Int)):Option (List (List Int)):=
 (ky N a N ([]:List (List Int)) 0).bind fun b=>
 some b
theorem qdF (N:Nat) (a:List (List Int)) {o:List (List Int)} (h:jM N a=some o):qc ZT (.fn 108) [.gslice 0 a.length 1,.func (.func 109) [] []] [.cells (a.flatMap (qf encI).c)] (.gslice 1 o.length 1) [.cells (a.flatMap (qf encI).c),.cells (o.flatMap (qf encI).c)]:=by
 unfold jM at h;refine Um Tryz.func108 rfl rfl (m:=22) rfl (rs:=[.tmp 4]) rfl (l:=[(0,.gslice 0 a.length 1),(1,.func (.func 109) [] [])]) rfl ?_;intro B hB;refine sh fol [(0,.gslice 0 a.length 1),(1,.func (.func 109) [] [])] ?_;refine sh fol [(0,.gslice 0 a.length 1),(1,.func (.func 109) [] []),(5,.nilslice)] ?_;refine sq ?_;refine sh fol ((1,.func (.func 109) [] [])::(5,.nilslice)::(kAy a (a.length:Int) [(10,.i 0)])) ?_;refine Goes.block ?_;obtain⟨q,g5,h⟩:=bnd h;refine Goes.imp (Q:=fun x s'=>(x= .exit 0/\ ∃g,g=q/\Sub s' (ofG 22 [(5,.gslice 1 g.length 1)],[.cells (a.flatMap (qf encI).c),.cells (g.flatMap (qf encI).c)]))) ?_ ?_
 ·refine Goes.sub (s':=(ofG 22 ((1,.func (.func 109) [] [])::(5,.gslice 1 ([]:List (List Int)).length 1)::(kAy a (a.length:Int) [(10,.i 0)])),[.cells (a.flatMap (qf encI).c),.cells (([]:List (List Int)).flatMap (qf encI).c)])) (Uc [] [some 0,none] (by rw[hB];rfl) rfl (.keep (.same (qJ.func sn sn)) (.keep .nil (.keep (.gslice rfl) (.keep (.same nI) (.keep (.same nI) .nil))))) (.ks (.fresh .nil))) ?_;refine Ud (fun M s=> ∃(d:List (List Int)) (b:Int),s=(ofG 22 ((1,.func (.func 109) [] [])::(5,.gslice 1 d.length 1)::(kAy a (a.length:Int) [(10,.i b)])),[.cells (a.flatMap (qf encI).c),.cells (d.flatMap (qf encI).c)])/\ky N a M d b=some q) ?_ (m:=N) ⟨_,_,rfl,g5⟩;rintro M s ⟨d,b,rfl,g5⟩
  cases M with
  |zero=>simp only[ky]at g5;cases g5
  |succ M=>
   rw[ky]at g5;refine sh fol ((1,.func (.func 109) [] [])::(5,.gslice 1 d.length 1)::(kAy a (a.length:Int) [(10,.i b),(11,.bool (decide (b<(a.length:Int))))])) ?_;refine sq ?_;refine ihD g5 (fun r g5=>?_) (fun r g5=>?_)
   ·refine Goes.skip ?_;refine sq (Goes.block ?_);obtain⟨p,e,g5⟩:=bnd g5;refine sq (gr fol [0,1] ((1,.func (.func 109) [] [])::(5,.gslice 1 d.length 1)::(7,vl encI p)::(kAy a (a.length:Int) [(10,.i b)])) (ac (hs (.done (.opt (qa ZT 141 (.gslice 0 a.length 1) (.i b))) (.ptr 0 ((b:Int).toNat*1+0))) (zh qfM e)) (ac (hs (.run [0] (qQ ZT 133 (.ptr 0 ((b:Int).toNat*1+0))) [.cells (a.flatMap (qf encI).c),.cells (d.flatMap (qf encI).c)] (vl encI p) [.cells (a.flatMap (qf encI).c),.cells (d.flatMap (qf encI).c)] false) (qa6 qj9 (E:=(qf encI)) (l:=a) rfl rfl e (nl rfl) rfl)) az)) ?_);obtain⟨n,j,g5⟩:=bnd g5;obtain⟨f,k,g5⟩:=bnd g5;refine gq fol [3,5] ((1,.func (.func 109) [] [])::(5,.gslice 3 f.length 1)::(kAy a (a.length:Int) [(10,.i b)])) (.cells (a.flatMap (qf encI).c):: .dead::(kBI n [.cells (f.flatMap (qf encI).c)])) (ac (cv (qep N p j)) (ac (hs (.run [1,2] (jd ZT [141,141] (.gslice 1 d.length 1) (.slice 2 0 1 1 1)) (.cells (a.flatMap (qf encI).c):: .cells (d.flatMap (qf encI).c)::(kBI n [])) (.gslice 3 f.length 1) (.cells (a.flatMap (qf encI).c):: .dead::(kBI n [.cells (f.flatMap (qf encI).c)])) true) (qao qfM (E:=(qf encI)) rfl (qee (E:=(qf encI)) (ys:=[n]) rfl rfl rfl rfl) (qfm (E:=(qf encI)) (l:=d) rfl rfl rfl k rfl))) az)) ?_;refine gh fol ((1,.func (.func 109) [] [])::(5,.gslice 3 f.length 1)::(kAy a (a.length:Int) [(10,.i (w64 (b+1)))])) ?_;exact⟨M,(ofG 22 ((1,.func (.func 109) [] [])::(5,.gslice 1 f.length 1)::(kAy a (a.length:Int) [(10,.i (w64 (b+1)))])),[.cells (a.flatMap (qf encI).c),.cells (f.flatMap (qf encI).c)]),Nat.lt_succ_self _,(Uc [] [some 0,some 3] (by rw[hB];rfl) rfl (.keep (.same (qJ.func sn sn)) (.keep (.gslice rfl) (.keep (.gslice rfl) (.keep (.same nI) (.keep (.same nI) .nil))))) (.ks (.ks .nil))),_,_,rfl,g5⟩
   refine Goes.exit ?_;obtain rfl:=si g5;exact⟨rfl,_,rfl,(Sub.keep [5] rfl rfl)⟩
 rintro x s' ⟨rfl,g,rfl,hsub⟩;refine Goes.sub hsub ?_;refine sh fol [(4,.gslice 1 g.length 1)] ?_;refine Goes.ret ?_;obtain rfl:=si h;exact(gh2 [.gslice 1 g.length 1] (qdo.refl _ _))
def yu (N:Nat) (a:Int) (b:List (List Int)):Option ((List (List Int))×Bool):=
 (idx b a).bind fun g=>
 (idx b (w64 (a+1))).bind fun h=>
 (qax N g h).bind fun d=>
 ((if d.2=true then
 (jO N g d.1).bind fun i=>
 (zN h d.1).bind fun e=>
 (put b a i).bind fun c=>
 (idx c (w64 (a+1))).bind fun j=>
 (put c (w64 (a+1)) e).bind fun f=>
 some f
 else
 some b:Option (List (List Int)))).bind fun k=>
 some (k,d.2)
theorem qgd (N:Nat) (b:Int) (a:List (List Int)) {w:List (List Int)} {z:Bool} (h:yu N b a=some (w,z)):qc ZT (.fn 175) [.i b,.ptr 0 0] (kAC a [.cells (a.flatMap (qf encI).c)]) (.bool z) (kAC w [.cells (w.flatMap (qf encI).c)]):=by
 unfold yu at h;refine Um Tryz.func175 rfl rfl (m:=41) rfl (rs:=[.tmp 3]) rfl (l:=[(0,.i b),(1,.ptr 0 0)]) rfl ?_;intro B hB;refine sh fol [(0,.i b),(1,.ptr 0 0)] ?_;obtain⟨t,d,h⟩:=bnd h;obtain⟨u,e,h⟩:=bnd h;obtain⟨f,q,h⟩:=bnd h;refine sq (gr fol [2,3,7,8,9] [(0,.i b),(1,.ptr 0 0),(4,.i f.1),(5,.bool f.2)] (ac (hs (.done (.opt (qa ZT 141 (.gslice 1 a.length 1) (.i b))) (.ptr 1 ((b:Int).toNat*1+0))) (zh qfM d)) (ac (hs (.run [1] (qQ ZT 133 (.ptr 1 ((b:Int).toNat*1+0))) (kAC a [.cells (a.flatMap (qf encI).c)]) (vl encI t) (kAC a [.cells (a.flatMap (qf encI).c)]) false) (qa6 qj9 (E:=(qf encI)) (l:=a) rfl rfl d (nl rfl) rfl)) (ac (hs (.done (.opt (qa ZT 141 (.gslice 1 a.length 1) (.i (w64 (b+1))))) (.ptr 1 ((w64 (b+1):Int).toNat*1+0))) (zh qfM e)) (ac (hs (.run [1] (qQ ZT 133 (.ptr 1 ((w64 (b+1):Int).toNat*1+0))) (kAC a [.cells (a.flatMap (qf encI).c)]) (vl encI u) (kAC a [.cells (a.flatMap (qf encI).c)]) false) (qa6 qj9 (E:=(qf encI)) (l:=a) rfl rfl e (nl rfl) rfl)) (ac (cv (qhS N t u q)) az))))) ?_);refine sq ?_;refine sh fol [(0,.i b),(1,.ptr 0 0),(4,.i f.1),(5,.bool f.2),(19,.bool f.2)] ?_;obtain⟨C,g7,h⟩:=bnd h;refine Goes.imp (Q:=fun x s'=>(x= .normal/\ ∃v,v=C/\Sub s' (ofG 41 [(5,.bool f.2)],(kAC v [.cells (v.flatMap (qf encI).c)])))) ?_ ?_
 ·refine ihB g7 (fun D g7=>?_) (fun D g7=>?_)
  ·obtain⟨A,r,g7⟩:=bnd g7;obtain⟨s,n,g7⟩:=bnd g7;obtain⟨o,g,g7⟩:=bnd g7;obtain⟨F,p,g7⟩:=bnd g7;obtain⟨j,k,g7⟩:=bnd g7;refine gq fol [7,8,10,14,15,17,18,19,20,21] [(5,.bool f.2)] (kAC a [.cells (j.flatMap (qf encI).c)]) (ac (hs (.done (.opt (qa ZT 141 (.gslice 1 a.length 1) (.i b))) (.ptr 1 ((b:Int).toNat*1+0))) (zh qfM d)) (ac (hs (.run [1] (qQ ZT 133 (.ptr 1 ((b:Int).toNat*1+0))) (kAC a [.cells (a.flatMap (qf encI).c)]) (vl encI t) (kAC a [.cells (a.flatMap (qf encI).c)]) false) (qa6 qj9 (E:=(qf encI)) (l:=a) rfl rfl d (nl rfl) rfl)) (ac (cv (qb0 N t f.1 r)) (ac (hs (.done (.opt (qa ZT 141 (.gslice 1 a.length 1) (.i (w64 (b+1))))) (.ptr 1 ((w64 (b+1):Int).toNat*1+0))) (zh qfM e)) (ac (hs (.run [1] (qQ ZT 133 (.ptr 1 ((w64 (b+1):Int).toNat*1+0))) (kAC a [.cells (a.flatMap (qf encI).c)]) (vl encI u) (kAC a [.cells (a.flatMap (qf encI).c)]) false) (qa6 qj9 (E:=(qf encI)) (l:=a) rfl rfl e (nl rfl) rfl)) (ac (cv (xG u f.1 n)) (ac (hs (.done (.opt (qa ZT 141 (.gslice 1 a.length 1) (.i b))) (.ptr 1 ((b:Int).toNat*1+0))) (zh qfM d)) (ac (hs (.run [1] (qC ZT 133 (.ptr 1 ((b:Int).toNat*1+0)) (vl encI A)) (kAC a [.cells (a.flatMap (qf encI).c)]) .undef (kAC a [.cells (o.flatMap (qf encI).c)]) true) (jX (E:=(qf encI)) (l:=a) (y:=A) rfl (show _=some 1 by kernel_rfl) rfl d rfl rfl rfl rfl rfl g rfl)) (ac (hs (.done (.opt (qa ZT 141 (.gslice 1 a.length 1) (.i (w64 (b+1))))) (.ptr 1 ((w64 (b+1):Int).toNat*1+0))) (zh qfM e)) (ac (hs (.run [1] (qC ZT 133 (.ptr 1 ((w64 (b+1):Int).toNat*1+0)) (vl encI s)) (kAC a [.cells (o.flatMap (qf encI).c)]) .undef (kAC a [.cells (j.flatMap (qf encI).c)]) true) (jX (E:=(qf encI)) (l:=o) (y:=s) rfl (show _=some 1 by kernel_rfl) rfl p rfl rfl rfl rfl rfl k rfl)) az)))))))))) ?_;obtain rfl:=si g7;exact⟨rfl,_,rfl,((show Sub (ofG 41 [(5,.bool f.2)],(kAC a [.cells (j.flatMap (qf encI).c)])) (ofG 41 [(5,.bool f.2)],(kAC j [.cells (j.flatMap (qf encI).c)]))from(Uc [] [some 0,some 1] (by rw[hB];rfl) rfl (.keep (.same nB) .nil) (.kb rfl (.cells (rc (.gsliceE rfl ((qZ g).trans (qZ k))) rn)) (.ks .nil)))).trans (Sub.refl _))⟩
  refine Goes.skip ?_;obtain rfl:=si g7;exact⟨rfl,_,rfl,(Sub.keep [5] rfl rfl)⟩
 rintro x s' ⟨rfl,v,rfl,hsub⟩;refine Goes.sub hsub ?_;refine sh fol [(3,.bool f.2)] ?_;refine Goes.ret ?_;simp only[ZI,ZP]at h;obtain⟨rfl,rfl⟩:=h;exact(gh2 [.bool f.2] (qdo.refl _ _))
def j5 (N:Nat) (e:Int):Nat->(List (List Int))->Bool->Option ((List (List Int))×Bool)
 |0,_,_=>none
 |K+1,b,c=>
  (yu N e b).bind fun(a,d)=>
  ((if b.length=a.length then some ()else none:Option Unit)).bind fun f=>
  if d=true then
  j5 N e K a true
  else
  some (a,c)
def j6 (N:Nat):Nat->(List (List Int))->Int->Option (List (List Int))
 |0,_,_=>none
 |K+1,c,a=>
  if(w64 (a+1))<(c.length:Int)then
  (((j5 N a N c false).bind fun(b,d)=>
  (if d=true then
  some (decide (a>0))
  else
  some false:Option Bool).bind fun e=>
  if e=true then
  some (b,w64 (a-1))
  else
  some (b,w64 (a+1)):Option ((List (List Int))×Int))).bind fun(f,g)=>
  j6 N K f g
  else
  some c
def qbl (N:Nat) (a:List (List Int)):Option (List (List Int)):=
 (j6 N N a 0).bind fun b=>
 some b
theorem qh0 (N:Nat) (f:List (List Int)) {C:List (List Int)} (h:qbl N f=some C):qc ZT (.fn 111) [.gslice 0 f.length 1] [.cells (f.flatMap (qf encI).c)] (.tuple []) [.cells (C.flatMap (qf encI).c)]:=by
 unfold qbl at h;refine Um Tryz.func111 rfl rfl (m:=23) rfl (rs:=[]) rfl (l:=[(0,.gslice 0 f.length 1)]) rfl ?_;intro B hB;refine Uw ?_;refine sg fol (kBF []) (.cells (f.flatMap (qf encI).c)::(kAQ f)) ?_;refine Goes.scope ?_;refine sh fol (kBF [(2,.func (.func 175) [] [.ptr 1 0])]) ?_;refine sq (Goes.label ?_);refine sh fol (kBF [(2,.func (.func 175) [] [.ptr 1 0]),(3,.i 0)]) ?_;refine Goes.block ?_;obtain⟨D,g5,h⟩:=bnd h;refine Goes.imp (Q:=fun x s'=>(x= .exit 0/\ ∃v,v=D/\Sub s' (ofG 23 [],[.cells (v.flatMap (qf encI).c)]))) ?_ ?_
 ·refine Ud (fun M s=> ∃(r:List (List Int)) (b:Int),s=(ofG 23 (kBF [(2,.func (.func 175) [] [.ptr 1 0]),(3,.i b)]),(.cells (r.flatMap (qf encI).c)::(kAQ r)))/\j6 N M r b=some D) ?_ (m:=N) ⟨_,_,rfl,g5⟩;rintro M s ⟨r,b,rfl,g5⟩
  cases M with
  |zero=>simp only[j6]at g5;cases g5
  |succ M=>
   rw[j6]at g5;refine sq ?_;refine sh fol (kBF ((2,.func (.func 175) [] [.ptr 1 0])::(3,.i b)::(kAv (decide ((w64 (b+1))<(r.length:Int)))))) ?_;refine ihD g5 (fun E g5=>?_) (fun E g5=>?_)
   ·refine Goes.skip ?_;obtain⟨F,g9,g5⟩:=bnd g5;refine Goes.imp (Q:=fun x s'=>(x= .normal/\ ∃q u,(q,u)=F/\Sub s' (ofG 23 (kBF [(2,.func (.func 175) [] [.ptr 1 0]),(3,.i u)]),(.cells (q.flatMap (qf encI).c)::(kAQ q))))) ?_ ?_
    ·refine Goes.block ?_;refine sh fol (kBF ((2,.func (.func 175) [] [.ptr 1 0])::(3,.i b)::kAP)) ?_;refine sq (Goes.block ?_);obtain⟨t,g14,g9⟩:=bnd g9;refine Goes.imp (Q:=fun x s'=>(x= .exit 2/\ ∃g n,(g,n)=t/\Sub s' (ofG 23 (kBF ((2,.func (.func 175) [] [.ptr 1 0])::(3,.i b)::(kAj n))),(.cells (g.flatMap (qf encI).c)::(kAQ g))))) ?_ ?_
     ·refine Ud (fun M s=> ∃(e:List (List Int)) (j:Bool),s=(ofG 23 (kBF ((2,.func (.func 175) [] [.ptr 1 0])::(3,.i b)::(kAj j))),(.cells (e.flatMap (qf encI).c)::(kAQ e)))/\j5 N b M e j=some t) ?_ (m:=N) ⟨_,_,rfl,g14⟩;rintro M s ⟨e,j,rfl,g14⟩
      cases M with
      |zero=>simp only[j5]at g14;cases g14
      |succ M=>
       rw[j5]at g14;refine sq ?_;obtain⟨⟨d,k⟩,o,g14⟩:=bnd g14
       try dsimp only at g14
       obtain⟨G,w,g14⟩:=bnd g14;refine sq (gq fol [2] (kBF ((2,.func (.func 175) [] [.ptr 1 0])::(3,.i b)::(4,.bool j)::(kBL k))) (.cells (d.flatMap (qf encI).c)::(kAQ d)) (ac (hs (.callH 175 [.i b,.ptr 1 0] (.cells (e.flatMap (qf encI).c)::(kAQ e)) [1,0] (.bool k) (.cells (d.flatMap (qf encI).c)::(kAQ d))) (zQ [some 1,some 0] [some 1,some 0] (qgd N b e o) (.kb rfl (.cells (rc (.gslice rfl) rn)) (.ks .nil)) rfl rfl (.back rfl rfl (.same fa) rfl (.back rfl rfl (.cells (rc (.gslice rfl) rn)) rfl .nil)) (rc (.same nI) (rc (.ptr rfl) rn)) (.same nB) rfl)) az) ?_);refine Goes.sub (show Sub (ofG 23 (kBF ((2,.func (.func 175) [] [.ptr 1 0])::(3,.i b)::(4,.bool j)::(kBL k))),(.cells (d.flatMap (qf encI).c)::(kAQ d))) (ofG 23 (kBF ((2,.func (.func 175) [] [.ptr 1 0])::(3,.i b)::(4,.bool j)::(kBL k))),(.cells (d.flatMap (qf encI).c)::(kAQ d)))from(Uc [] [some 0,some 1] (by rw[hB];rfl) rfl (.kp (.keep (.funcL (sn) (rc (.ptr rfl) rn)) (.keep (.same nI) (.keep (.same nB) (.keep (.same nB) .nil))))) (.ks (.kb rfl (.cells (rc (.gslice rfl) rn)) .nil)))) ?_;refine ihB g14 (fun y g14=>?_) (fun y g14=>?_)
       ·refine Goes.skip ?_;refine Goes.block ?_;refine gh fol (kBF ((2,.func (.func 175) [] [.ptr 1 0])::(3,.i b)::kAw)) ?_;exact⟨M,(ofG 23 (kBF ((2,.func (.func 175) [] [.ptr 1 0])::(3,.i b)::kAw)),(.cells (d.flatMap (qf encI).c)::(kAQ d))),Nat.lt_succ_self _,(Sub.refl _),_,_,rfl,g14⟩
       refine Goes.exit ?_;obtain rfl:=si g14;exact⟨rfl,_,_,rfl,(Sub.keep [1,2,3,4] rfl rfl)⟩
     rintro x s' ⟨rfl,g,n,rfl,hsub⟩
     try dsimp only at g9
     refine Goes.sub hsub ?_;refine sq ?_;refine sq ?_;obtain⟨z,a,g9⟩:=bnd g9;refine Goes.cut (s':=(ofG 23 (kBF [(2,.func (.func 175) [] [.ptr 1 0]),(3,.i b),(18,.bool z)]),(.cells (g.flatMap (qf encI).c)::(kAQ g)))) ?_ ?_
     ·rcases wyB a with⟨p,a⟩|⟨p,a⟩
      ·obtain rfl:=si a;exact tr fol [1] (kBF [(2,.func (.func 175) [] [.ptr 1 0]),(3,.i b),(18,.bool (decide (b>0)))]) (ac (gw p) az)
      obtain rfl:=si a;exact tr fol [1] (kBF [(2,.func (.func 175) [] [.ptr 1 0]),(3,.i b),(18,.bool false)]) (ac (gw p) az)
     refine ihB g9 (fun A g9=>?_) (fun A g9=>?_)
     ·refine sh fol (kBF [(2,.func (.func 175) [] [.ptr 1 0]),(3,.i (w64 (b-1)))]) ?_;refine Goes.exit ?_;obtain rfl:=si g9;exact⟨rfl,_,_,rfl,(Sub.refl _)⟩
     refine Goes.skip ?_;refine gh fol (kBF [(2,.func (.func 175) [] [.ptr 1 0]),(3,.i (w64 (b+1)))]) ?_;obtain rfl:=si g9;exact⟨rfl,_,_,rfl,(Sub.refl _)⟩
    rintro x s' ⟨rfl,q,u,rfl,hsub⟩
    try dsimp only at g5
    exact⟨M,(ofG 23 (kBF [(2,.func (.func 175) [] [.ptr 1 0]),(3,.i u)]),(.cells (q.flatMap (qf encI).c)::(kAQ q))),Nat.lt_succ_self _,(hsub.trans (Sub.refl _)),_,_,rfl,g5⟩
   refine Goes.exit ?_;obtain rfl:=si g5;exact⟨rfl,_,rfl,(Uc [] [some 0] (by rw[hB];rfl) rfl .nil (.ks .nil))⟩
 rintro x s' ⟨rfl,v,rfl,hsub⟩;obtain rfl:=si h;exact⟨_,hsub,(gh2 [] (qdo.refl _ _))⟩
def vV (N:Nat) (n:Int) (w:List Int):Nat->Int->(List (List Int))->Int->Option (Int×(List (List Int)))
 |0,_,_,_=>none
 |K+1,c,d,e=>
  if e<(w.length:Int)then
  (((idx w e).bind fun a=>
  (zL a).bind fun b=>
  if a>0 then
  (zI N n).bind fun f=>
  (zN f (w64 (b-1))).bind fun g=>
  (app 24 d [g]).bind fun h=>
  some (c,h)
  else
  (jM N d).bind fun i=>
  (qcq N n).bind fun j=>
  (jO N j (w64 (b-1))).bind fun k=>
  (app 24 i [k]).bind fun l=>
  some (w64 (c-1),l):Option (Int×(List (List Int))))).bind fun(o,m)=>
  vV N n w K o m (w64 (e+1))
  else
  some (c,d)
def vU (N:Nat) (n:Int) (c:List (List Int)):Nat->Int->(List (List Int))->Int->Option (Int×(List (List Int)))
 |0,_,_,_=>none
 |K+1,a,b,d=>
  if d<(c.length:Int)then
  (((idx c d).bind fun e=>
  (yL N e).bind fun f=>
  if f=true then
  some (a,b)
  else
  (qcq N n).bind fun g=>
  (slices_Equal_int N e g).bind fun h=>
  if h=true then
  some (w64 (a+1),b)
  else
  (app 24 b [e]).bind fun i=>
  some (a,i):Option (Int×(List (List Int))))).bind fun(j,k)=>
  vU N n c K j k (w64 (d+1))
  else
  some (a,b)
def qa7 (N:Nat) (n:Int) (w:List Int):Option qaF:=
 if n=1 then
 some (⟨0,[]⟩:qaF)
 else
 (vV N n w N 0 ([]:List (List Int)) 0).bind fun(e,d)=>
 (qbl N d).bind fun a=>
 ((if d.length=a.length then some ()else none:Option Unit)).bind fun f=>
 (vU N n a N e ([]:List (List Int)) 0).bind fun(b,c)=>
 some (⟨b,c⟩:qaF)
theorem qig (N:Nat) (n:Int) (w:List Int) {res:qaF} (h:qa7 N n w=some res):qc ZT (.fn 47) (.i n::(kAq w)) [] (.agg [.i res.Half,vl (qf encI) res.Factors]) []:=by
 unfold qa7 at h;refine Ub Tryz.func47 rfl rfl (m:=74) rfl (rs:=[.cell 4 35]) rfl (l:=(kB n w [])) rfl ?_;refine sg fol (kB n w (kBM [])) [bZ] ?_;refine sg fol (kB n w (kBM (kA2 []))) [bZ,bZ] ?_;refine sq ?_;refine sh fol (kB n w (kBM (kA2 (kBL (decide (n=1)))))) ?_;refine ihD h (fun c1 h=>?_) (fun c1 h=>?_)
 ·refine sh fol (kBM []) ?_;refine Goes.ret ?_;obtain rfl:=si h;exact(gw2 [.agg [.i 0,.nilslice]] (FzW.agg (qm.cons (Ua tI) (qm.cons (FzW.nilv (E:=(qf encI))) qm.nil))))
 refine Goes.skip ?_;refine sh fol (kB n w (kBM (kA2 [(6,.nilslice)]))) ?_;refine sq ?_;refine sh fol (kR n [(6,.nilslice),(15,vl encI w),(16,.i (w.length:Int)),(17,.i 0)]) ?_;refine Goes.block ?_;obtain⟨r7,g7,h⟩:=bnd h;refine Goes.imp (Q:=fun x s'=>(x= .exit 0/\ ∃C D,(C,D)=r7/\Sub s' (ofG 74 (kR n (kAg D [])),(bZ::(kAD C [.cells (D.flatMap (qf encI).c)]))))) ?_ ?_
 ·refine Goes.sub (s':=(ofG 74 (kR n [(6,.gslice 2 ([]:List (List Int)).length 1),(15,vl encI w),(16,.i (w.length:Int)),(17,.i 0)]),[bZ,bZ,.cells (([]:List (List Int)).flatMap (qf encI).c)])) (Uc [] [some 0,some 1,none] rfl rfl (.keep (.same nI) (.kp (.kp (.keep .nil (.keep (.same (qg encI _)) (.keep (.same nI) (.keep (.same nI) .nil))))))) (.kb rfl (.same sn) (.kb rfl (.same sn) (.fresh .nil)))) ?_;refine Ud (fun M s=> ∃(k:Int) (f:List (List Int)) (q:Int),s=(ofG 74 (kR n (kAg f ((15,vl encI w)::(kAI (w.length:Int) q)))),(bZ::(kAD k [.cells (f.flatMap (qf encI).c)])))/\vV N n w M k f q=some r7) ?_ (m:=N) ⟨_,_,_,rfl,g7⟩;rintro M s ⟨k,f,q,rfl,g7⟩
  cases M with
  |zero=>simp only[vV]at g7;cases g7
  |succ M=>
   rw[vV]at g7;refine sh fol (kR n (kAg f [(15,vl encI w),(16,.i (w.length:Int)),(17,.i q),(18,.bool (decide (q<(w.length:Int))))])) ?_;refine sq ?_;refine ihD g7 (fun c8 g7=>?_) (fun c8 g7=>?_)
   ·refine Goes.skip ?_;refine sq ?_;obtain⟨r11,g11,g7⟩:=bnd g7;refine Goes.imp (Q:=fun x s'=>(x= .normal/\ ∃n9 r,(n9,r)=r11/\Sub s' (ofG 74 (kR n (kAg r ((15,vl encI w)::(kAI (w.length:Int) q)))),(bZ::(kAD n9 [.cells (r.flatMap (qf encI).c)]))))) ?_ ?_
    ·refine Goes.block ?_;obtain⟨F,z,g11⟩:=bnd g11;refine sq (gr fol [0,1] (kR n (kAg f ((8,.i F)::(15,vl encI w)::(kAI (w.length:Int) q)))) (ac (iv qO encI z) (ac (lv 0 ce3 encI z rfl) az)) ?_);obtain⟨t,K,g11⟩:=bnd g11;refine sq (gr fol [1] (kR n (kAg f (kAf F (w64 (t-1)) ((15,vl encI w)::(kAI (w.length:Int) q))))) (ac (cv (qI F K)) az) ?_);refine sq ?_;refine sh fol (kR n (kAg f [(9,.i (w64 (t-1))),(15,vl encI w),(16,.i (w.length:Int)),(17,.i q),(25,.bool (decide (F>0)))])) ?_;refine ihD g11 (fun c14 g11=>?_) (fun c14 g11=>?_)
     ·obtain⟨e,L,g11⟩:=bnd g11;obtain⟨u,O,g11⟩:=bnd g11;obtain⟨o,P,g11⟩:=bnd g11;refine sq (gq fol [2,4,6] (kR n ((6,.gslice 5 o.length 1)::(15,vl encI w)::(kAI (w.length:Int) q))) (bZ::(kAD k (.dead::(kAn e (kBI u [.cells (o.flatMap (qf encI).c)]))))) (ac (hs (.callH 106 [.i n] (bZ::(kAD k [.cells (f.flatMap (qf encI).c)])) [] (.slice 3 0 e.length e.length 1) (bZ::(kAD k (.cells (f.flatMap (qf encI).c)::(kA e []))))) (zQ [] [none,none,none,some 0] (vO N n L) .nil rfl rfl (.old rfl rfl (.old rfl rfl (.old rfl rfl (.new rfl rfl (.same fa) rfl .nil)))) (rc (.same nI) rn) (.slice rfl) rfl)) (ac (hs (.callF 107 [.slice 3 0 e.length e.length 1,.i (w64 (t-1))] (bZ::(kAD k (.cells (f.flatMap (qf encI).c)::(kA e [])))) [3] (kBc e (w64 (t-1))) (vl encI u)) (qhz (FzL.cons (Fz.sl (E:=encI) rfl rfl (nl rfl)) (FzL.cons (Ue tI) FzL.nil)) (xG e (w64 (t-1)) O) (qx encI _ (nl rfl)))) (ac (hs (.run [2,4] (jd ZT [141,141] (.gslice 2 f.length 1) (.slice 4 0 1 1 1)) (bZ::(kAD k (.cells (f.flatMap (qf encI).c)::(kAn e (kBI u []))))) (.gslice 5 o.length 1) (bZ::(kAD k (.dead::(kAn e (kBI u [.cells (o.flatMap (qf encI).c)]))))) true) (qao qfM (E:=(qf encI)) rfl (qee (E:=(qf encI)) (ys:=[u]) rfl rfl rfl rfl) (qfm (E:=(qf encI)) (l:=f) rfl rfl rfl P rfl))) az))) ?_);refine Goes.sub (show Sub (ofG 74 (kR n ((6,.gslice 5 o.length 1)::(15,vl encI w)::(kAI (w.length:Int) q))),(bZ::(kAD k (.dead::(kAn e (kBI u [.cells (o.flatMap (qf encI).c)])))))) (ofG 74 (kR n (kAg o ((15,vl encI w)::(kAI (w.length:Int) q)))),(bZ::(kAD k [.cells (o.flatMap (qf encI).c)])))from(Uc [] [some 0,some 1,some 5] rfl rfl (.keep (.same nI) (.kp (.kp (.keep (.gslice rfl) (.keep (.same (qg encI _)) (.keep (.same nI) (.keep (.same nI) .nil))))))) (.kb rfl (.same sn) (.kb rfl (.same sn) (.ks .nil))))) ?_;refine Goes.exit ?_;obtain rfl:=si g11;exact⟨rfl,_,_,rfl,(Sub.refl _)⟩
     refine Goes.skip ?_;refine sg fol (kR n (kAg f ((9,.i (w64 (t-1)))::(15,vl encI w)::(kAI (w.length:Int) q)))) (bZ::(kAD (w64 (k-1)) [.cells (f.flatMap (qf encI).c)])) ?_;obtain⟨A,U,g11⟩:=bnd g11;obtain⟨r21,V,g11⟩:=bnd g11;obtain⟨G,X,g11⟩:=bnd g11;obtain⟨H,Y,g11⟩:=bnd g11;refine gq fol [1,3,5,7] (kR n ((6,.gslice 5 H.length 1)::(15,vl encI w)::(kAI (w.length:Int) q))) (bZ::(kAD (w64 (k-1)) (.cells (f.flatMap (qf encI).c):: .dead::(kBI G [.cells (H.flatMap (qf encI).c)])))) (ac (hs (.callH 108 [.gslice 2 f.length 1,.func (.func 109) [] []] (bZ::(kAD (w64 (k-1)) [.cells (f.flatMap (qf encI).c)])) [2] (.gslice 3 A.length 1) (bZ::(kAD (w64 (k-1)) [.cells (f.flatMap (qf encI).c),.cells (A.flatMap (qf encI).c)]))) (zQ [some 2] [none,none,some 0,some 1] (qdF N f U) (.ks .nil) rfl rfl (.old rfl rfl (.old rfl rfl (.back rfl rfl (.same fa) rfl (.new rfl rfl (.same fa) rfl .nil)))) (rc (.gslice rfl) (rc (.same (qJ.func sn sn)) rn)) (.gslice rfl) rfl)) (ac (cv (qgw N n V)) (ac (cv (qb0 N r21 (w64 (t-1)) X)) (ac (hs (.run [3,4] (jd ZT [141,141] (.gslice 3 A.length 1) (.slice 4 0 1 1 1)) (bZ::(kAD (w64 (k-1)) (.cells (f.flatMap (qf encI).c):: .cells (A.flatMap (qf encI).c)::(kBI G [])))) (.gslice 5 H.length 1) (bZ::(kAD (w64 (k-1)) (.cells (f.flatMap (qf encI).c):: .dead::(kBI G [.cells (H.flatMap (qf encI).c)])))) true) (qao qfM (E:=(qf encI)) rfl (qee (E:=(qf encI)) (ys:=[G]) rfl rfl rfl rfl) (qfm (E:=(qf encI)) (l:=A) rfl rfl rfl Y rfl))) az)))) ?_;obtain rfl:=si g11;exact⟨rfl,_,_,rfl,(Uc [] [some 0,some 1,some 5] rfl rfl (.keep (.same nI) (.kp (.kp (.keep (.gslice rfl) (.keep (.same (qg encI _)) (.keep (.same nI) (.keep (.same nI) .nil))))))) (.kb rfl (.same sn) (.kb rfl (.same sn) (.ks .nil))))⟩
    rintro x s' ⟨rfl,n9,r,rfl,hsub⟩
    try dsimp only at g7
    refine Goes.sub hsub ?_;refine gh fol (kR n (kAg r ((15,vl encI w)::(kAI (w.length:Int) (w64 (q+1)))))) ?_;exact⟨M,(ofG 74 (kR n (kAg r ((15,vl encI w)::(kAI (w.length:Int) (w64 (q+1)))))),(bZ::(kAD n9 [.cells (r.flatMap (qf encI).c)]))),Nat.lt_succ_self _,(Sub.refl _),_,_,_,rfl,g7⟩
   refine Goes.exit ?_;obtain rfl:=si g7;exact⟨rfl,_,_,rfl,(Sub.keep [0,4,5,6] rfl rfl)⟩
 rintro x s' ⟨rfl,C,D,rfl,hsub⟩
 try dsimp only at h
 refine Goes.sub hsub ?_;obtain⟨a,Z,h⟩:=bnd h;obtain⟨u26,a0,h⟩:=bnd h;refine sq (gq fol [1] (kR n (kAg D [])) (bZ::(kAD C [.cells (a.flatMap (qf encI).c)])) (ac (hs (.callH 111 [.gslice 2 D.length 1] (bZ::(kAD C [.cells (D.flatMap (qf encI).c)])) [2] (.tuple []) (bZ::(kAD C [.cells (a.flatMap (qf encI).c)]))) (zQ [some 2] [none,none,some 0] (qh0 N D Z) (.ks .nil) rfl rfl (.old rfl rfl (.old rfl rfl (.back rfl rfl (.same fa) rfl .nil))) (rc (.gslice rfl) rn) (.same (qJ.tuple sn)) rfl)) az) ?_);refine Goes.sub (show Sub (ofG 74 (kR n (kAg D [])),(bZ::(kAD C [.cells (a.flatMap (qf encI).c)]))) (ofG 74 (kR n (kAg a [])),(bZ::(kAD C [.cells (a.flatMap (qf encI).c)])))from(Uc [] [some 0,some 1,some 2] rfl rfl (.keep (.same nI) (.kp (.kp (.keep (.gsliceE rfl (qoP a0)) .nil)))) (.kb rfl (.same sn) (.kb rfl (.same sn) (.ks .nil))))) ?_;refine sq ?_;refine sh fol (kR n [(48,.gslice 2 a.length 1),(49,.i (a.length:Int)),(50,.i 0)]) ?_;refine Goes.block ?_;obtain⟨a5,g32,h⟩:=bnd h;refine Goes.imp (Q:=fun x s'=>(x= .exit 2/\ ∃v p,(v,p)=a5/\Sub s' (ofG 74 (kBM (kA2 [])),(bZ::(kAe v p [.cells (p.flatMap (qf encI).c)]))))) ?_ ?_
 ·refine Goes.sub (s':=(ofG 74 (kR n [(48,.gslice 3 a.length 1),(49,.i (a.length:Int)),(50,.i 0)]),[bZ,.cells [.i C,.gslice 2 ([]:List (List Int)).length 1],.cells (([]:List (List Int)).flatMap (qf encI).c),.cells (a.flatMap (qf encI).c)])) (Uc [] [some 0,some 1,none,some 2] rfl rfl (.keep (.same nI) (.kp (.kp (.keep (.gslice rfl) (.keep (.same nI) (.keep (.same nI) .nil)))))) (.kb rfl (.same sn) (.kb rfl (.cells (rc (.same nI) (rc (.nil) rn))) (.fresh (.ks .nil))))) ?_;refine Ud (fun M s=> ∃(j:Int) (d:List (List Int)) (b:Int),s=(ofG 74 (kR n (kAO a (a.length:Int) b [])),(bZ::(kAe j d [.cells (d.flatMap (qf encI).c),.cells (a.flatMap (qf encI).c)])))/\vU N n a M j d b=some a5) ?_ (m:=N) ⟨_,_,_,rfl,g32⟩;rintro M s ⟨j,d,b,rfl,g32⟩
  cases M with
  |zero=>simp only[vU]at g32;cases g32
  |succ M=>
   rw[vU]at g32;refine sh fol (kR n (kAO a (a.length:Int) b [(51,.bool (decide (b<(a.length:Int))))])) ?_;refine sq ?_;refine ihD g32 (fun c33 g32=>?_) (fun c33 g32=>?_)
   ·refine Goes.skip ?_;refine sq ?_;obtain⟨r36,g36,g32⟩:=bnd g32;refine Goes.imp (Q:=fun x s'=>(x= .normal/\ ∃I y,(I,y)=r36/\Sub s' (ofG 74 (kR n (kAO a (a.length:Int) b [])),(bZ::(kAe I y [.cells (y.flatMap (qf encI).c),.cells (a.flatMap (qf encI).c)]))))) ?_ ?_
    ·refine Goes.block ?_;obtain⟨g,B,g36⟩:=bnd g36;refine sq (gr fol [0,1] (kR n ((11,vl encI g)::(kAO a (a.length:Int) b []))) (ac (hs (.done (.opt (qa ZT 141 (.gslice 3 a.length 1) (.i b))) (.ptr 3 ((b:Int).toNat*1+0))) (zh qfM B)) (ac (hs (.run [3] (qQ ZT 133 (.ptr 3 ((b:Int).toNat*1+0))) (bZ::(kAe j d [.cells (d.flatMap (qf encI).c),.cells (a.flatMap (qf encI).c)])) (vl encI g) (bZ::(kAe j d [.cells (d.flatMap (qf encI).c),.cells (a.flatMap (qf encI).c)])) false) (qa6 qj9 (E:=(qf encI)) (l:=a) rfl rfl B (nl rfl) rfl)) az)) ?_);refine Goes.block ?_;obtain⟨r38,a1,g36⟩:=bnd g36;refine sq (gr fol [1] (kR n ((11,vl encI g)::(kAO a (a.length:Int) b [(60,.bool r38)]))) (ac (cv (qfb N g a1)) az) ?_);refine ihB g36 (fun c39 g36=>?_) (fun c39 g36=>?_)
     ·refine Goes.skip ?_;obtain rfl:=si g36;exact⟨rfl,_,_,rfl,(Sub.keep [0,4,5,48,49,50] rfl rfl)⟩
     obtain⟨r40,a2,g36⟩:=bnd g36;obtain⟨r41,a3,g36⟩:=bnd g36;refine sq (gr fol [2,3] (kR n ((11,vl encI g)::(kAO a (a.length:Int) b [(63,.bool r41)]))) (ac (cv (qgw N n a2)) (ac (cv (qgf N g r40 a3)) az)) ?_);refine ihB g36 (fun c42 g36=>?_) (fun c42 g36=>?_)
     ·refine Goes.rg fol (kR n (kAO a (a.length:Int) b [])) (bZ::(kAe (w64 (j+1)) d [.cells (d.flatMap (qf encI).c),.cells (a.flatMap (qf encI).c)])) ?_;obtain rfl:=si g36;exact⟨rfl,_,_,rfl,(Sub.refl _)⟩
     obtain⟨J,a4,g36⟩:=bnd g36;refine gq fol [4] (kR n (kAO a (a.length:Int) b [])) (bZ:: .cells [.i j,.gslice 5 J.length 1]:: .dead:: .cells (a.flatMap (qf encI).c)::(kBI g [.cells (J.flatMap (qf encI).c)])) (ac (hs (.run [2,4] (jd ZT [33,33] (.gslice 2 d.length 1) (.slice 4 0 1 1 1)) (bZ::(kAe j d (.cells (d.flatMap (qf encI).c):: .cells (a.flatMap (qf encI).c)::(kBI g [])))) (.gslice 5 J.length 1) (bZ::(kAe j d (.dead:: .cells (a.flatMap (qf encI).c)::(kBI g [.cells (J.flatMap (qf encI).c)])))) true) (qao qd4 (E:=(qf encI)) rfl (qee (E:=(qf encI)) (ys:=[g]) rfl rfl rfl rfl) (qfm (E:=(qf encI)) (l:=d) rfl rfl rfl a4 rfl))) az) ?_;obtain rfl:=si g36;exact⟨rfl,_,_,rfl,(Uc [] [some 0,some 1,some 5,some 3] rfl rfl (.keep (.same nI) (.kp (.kp (.keep (.gslice rfl) (.keep (.same nI) (.keep (.same nI) .nil)))))) (.kb rfl (.same sn) (.kb rfl (.cells (rc (.same nI) (rc (.gslice rfl) rn))) (.ks (.ks .nil)))))⟩
    rintro x s' ⟨rfl,I,y,rfl,hsub⟩
    try dsimp only at g32
    refine Goes.sub hsub ?_;refine gh fol (kR n (kAO a (a.length:Int) (w64 (b+1)) [])) ?_;exact⟨M,(ofG 74 (kR n (kAO a (a.length:Int) (w64 (b+1)) [])),(bZ::(kAe I y [.cells (y.flatMap (qf encI).c),.cells (a.flatMap (qf encI).c)]))),Nat.lt_succ_self _,(Sub.refl _),_,_,_,rfl,g32⟩
   refine Goes.exit ?_;obtain rfl:=si g32;exact⟨rfl,_,_,rfl,(Uc [] [some 0,some 1,some 2] rfl rfl (.drop (.kp (.kp .nil))) (.kb rfl (.same sn) (.kb rfl (.cells (rc (.same nI) (rc (.gslice rfl) rn))) (.ks .nil))))⟩
 rintro x s' ⟨rfl,v,p,rfl,hsub⟩
 try dsimp only at h
 refine Goes.sub hsub ?_;refine sg fol (kBM []) (kAe v p (kAe v p [.cells (p.flatMap (qf encI).c)])) ?_;refine Goes.ret ?_;obtain rfl:=si h;exact(gw2 [.agg [.i v,.gslice 2 p.length 1]] (FzW.agg (qm.cons (Ua tI) (qm.cons (Ut (Fz.gs (E:=(qf encI)) rfl rfl (nl rfl))) qm.nil))))
end Go.Av
