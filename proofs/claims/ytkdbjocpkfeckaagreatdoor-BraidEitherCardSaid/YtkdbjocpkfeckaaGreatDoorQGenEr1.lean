/-
  Walks of functions: what each computes, as a plain function.
-/
import Derived.Test.YtkdbjocpkfeckaaGreatDoorAvJnB9
open Go.IntKind(wrap)
noncomputable section
namespace Go.Av
open Go.Proofs Go.RowKit
abbrev ZU:=zC .u64
abbrev ZT:=Tryz.prog
set_option linter.unusedSectionVars false
set_option linter.unusedVariables false
set_option linter.unusedSimpArgs false
set_option maxRecDepth 100000
theorem fol:Tryz.prog.follows .mixedOrders=true:=by kernel_rfl
structure qY where
 s:Int
 w:List Int
def qku:Enc qY:=(encI.prod (qi0 ZU)).comap fun x=>(x.s,x.w)
instance:SE qku:=⟨nl rfl⟩
structure qo where
 Num:qY
 Den:qY
def qa:Enc qo:=(qku.prod qku).comap fun x=>(x.Num,x.Den)
instance:SE qa:=⟨nl rfl⟩
instance:SE (qm qa):=⟨nl rfl⟩
structure qcl where
 Half:Int
 Factors:List (List Int)
def qrJ:Enc qcl:=(encI.prod (qm (qm encI))).comap fun x=>(x.Half,x.Factors)
instance:SE qrJ:=⟨nl rfl⟩
structure qG where
 Kind:Str
 At:Int
 Letter:Int
def qO:Enc qG:=(encS.prod (encI.prod encI)).comap fun x=>(x.Kind,x.At,x.Letter)
instance:SE qO:=⟨nl rfl⟩
abbrev kA (a:List Int) (x:List Blk):List Blk:= .cells (a.flatMap encI.c)::x
abbrev kB {α0:Type} (a:List α0) (x:List Blk):List Blk:= .cells [.slice 2 0 a.length a.length 1]::x
abbrev kC (a:List Int) (x:List Blk):List Blk:= .cells [vl encI a]::x
abbrev kD {α0:Type} (a:List α0) (x:List (Nat×AV)):List (Nat×AV):=(5,.ptr 0 0)::(7,.slice 1 0 a.length a.length 1)::x
abbrev kE (a:Int) (b:List Int) (x:List (Nat×AV)):List (Nat×AV):=(0,.i a)::(1,vl encI b)::x
abbrev kF (x:List (Nat×AV)):List (Nat×AV):=(2,.ptr 0 0)::(3,.ptr 1 0)::(4,.ptr 2 0)::x
abbrev kG (a:Str) (b:Int) (c:Int) (x:List Blk):List Blk:= .cells [.str a,.i b,.i c]::x
abbrev kH (x:List Blk):List Blk:= .cells [.i 0,.nilslice,.i 0,.nilslice]::x
abbrev kI (a:Option (List qG)) (x:List Blk):List Blk:= .cells ((hof a).flatMap qO.c)::x
abbrev kJ {α3:Type} (a:List Int) (b:Int) (c:Int) (d:List α3) (e:Int) (f:Int) (x:List (Nat×AV)):List (Nat×AV):=(39,vl encI a)::(40,.i b)::(41,.i c)::(51,.slice 1 0 d.length d.length 1)::(52,.i e)::(53,.i f)::x
abbrev kK (a:List qG):List Blk:=[.cells (a.flatMap qO.c)]
abbrev kL (x:List Blk):List Blk:= .cells [.i 0,.nilslice,.i 0,.nilslice,.i 0,.nilslice,.i 0,.nilslice,.i 0,.nilslice,.i 0,.nilslice,.i 0,.nilslice,.i 0,.nilslice]::x
abbrev kM (a:Int) (x:List (Nat×AV)):List (Nat×AV):=(0,.i a)::(4,.ptr 0 0)::(5,.ptr 1 0)::x
abbrev kN (a:List Int) (x:List (Nat×AV)):List (Nat×AV):=(1,vl encI a)::(5,.ptr 0 0)::(8,.ptr 1 0)::x
abbrev kO (a:List qo) (x:List Blk):List Blk:= .cells (a.flatMap qa.c)::x
abbrev kP (a:Int) (b:Int) (c:Int) (d:Int) (x:List Blk):List Blk:= .cells [.i a,.i b,.i c,.i d]::x
abbrev kQ (a:Int) (x:List (Nat×AV)):List (Nat×AV):=(21,.slice 0 0 5 5 2)::(22,.i 5)::(23,.i a)::x
abbrev kR {α0:Type} (a:List α0) (b:List Int) (c:Int) (d:Int) (x:List (Nat×AV)):List (Nat×AV):=(4,.slice 5 0 a.length a.length 1)::(10,vl encI b)::(11,.i c)::(12,.i d)::x
abbrev kS (a:Int) (b:Int) (x:List (Nat×AV)):List (Nat×AV):=(0,.ptr 0 0)::(7,.i a)::(8,.i b)::x
abbrev kT {α0:Type} (a:List α0) (x:List Blk):List Blk:= .cells [.slice 1 0 a.length a.length 1]::x
abbrev kU {α0:Type} (a:List α0) (x:List (Nat×AV)):List (Nat×AV):=(3,.slice 0 0 a.length a.length 1)::x
abbrev kV (a:List Int) (b:List Int) (x:List (Nat×AV)):List (Nat×AV):=(0,vl encI a)::(1,vl encI b)::x
abbrev kW (a:Int) (b:Int) (x:List Blk):List Blk:= .cells [.i a,.i b]::x
abbrev kX {α2:Type} (a:Int) (b:List Int) (c:List α2) (x:List Blk):List Blk:= .cells [.i a,vl encI b,.oslice 1 c.length 3]::x
abbrev kY {α1:Type} (a:Int) (b:List α1) (c:List Int) (x:List (Nat×AV)):List (Nat×AV):=(3,.i a)::(4,.slice 0 0 b.length b.length 1)::(11,vl encI c)::(12,.i a)::x
abbrev kZ {α2:Type} (a:Int) (b:List Int) (c:List α2) (x:List Blk):List Blk:= .cells [.i a,vl encI b,.oslice 3 c.length 3]:: .dead::x
abbrev kAA (a:Int) (x:List Blk):List Blk:= .cells [.i a,.nilslice]::x
abbrev kAB (a:Int) (x:List Blk):List Blk:= .cells [.i a]::x
abbrev kAC (x:List (Nat×AV)):List (Nat×AV):=(4,.ptr 1 0)::(5,.ptr 2 0)::(9,.ptr 3 0)::x
abbrev kAD (a:Int) (b:Int) (x:List (Nat×AV)):List (Nat×AV):=(11,.i a)::(12,.i b)::x
abbrev kAE (a:Int) (b:Int):List (Nat×AV):=[(16,.i a),(17,.i b)]
abbrev kAF {α0:Type} (a:List α0) (x:List Blk):List Blk:= .cells [.slice 0 0 a.length a.length 1]::x
abbrev kAG {α0:Type} (a:List α0) (x:List Blk):List Blk:= .cells [.gslice 1 a.length 1]::x
abbrev kAH (x:List Blk):List Blk:= .cells [.ptr 4 0]::x
abbrev kAI {α0:Type} (a:List α0) (b:Int) (c:Int) (x:List (Nat×AV)):List (Nat×AV):=(48,.gslice 3 a.length 1)::(49,.i b)::(50,.i c)::x
abbrev kAJ (a:Int) (b:Int) (x:List (Nat×AV)):List (Nat×AV):=(12,.i a)::(13,.i b)::x
abbrev kAK {α0:Type} (a:List α0):List Blk:=[.cells [.gslice 0 a.length 1]]
abbrev kAL (a:Int) (b:Int) (x:List (Nat×AV)):List (Nat×AV):=(0,.int .u64 a)::(1,.int .u64 b)::x
abbrev kAM (x:List (Nat×AV)):List (Nat×AV):=(5,.ptr 0 0)::(8,.ptr 1 0)::(9,.bool true)::x
abbrev kAN {α0:Type} (a:List α0) (x:List (Nat×AV)):List (Nat×AV):=(7,.slice 1 0 a.length a.length 4)::x
abbrev kAO {α2:Type} (a:Int) (b:List Int) (c:Option (List α2)) (x:List Blk):List Blk:= .cells [.i a,vl encI b,hsl 1 3 c]::x
abbrev kAP (a:List Int) (x:List (Nat×AV)):List (Nat×AV):=(0,vl encI a)::x
abbrev kAQ {α2:Type} (a:Int) (b:List Int) (c:Option (List α2)) (x:List Blk):List Blk:= .cells [.i a,vl encI b,hsl 2 3 c]::x
abbrev kAR {α2:Type} (a:Int) (b:List Int) (c:List α2) (x:List Blk):List Blk:= .cells [.i a,vl encI b,.oslice 2 c.length 3]:: .dead::x
abbrev kAS (a:List Int) (x:List (Nat×AV)):List (Nat×AV):=(2,vl encI a)::x
abbrev kAT (x:List (Nat×AV)):List (Nat×AV):=(0,.ptr 0 0)::x
abbrev kAU {α0:Type} (a:List α0) (x:List (Nat×AV)):List (Nat×AV):=(4,.slice 5 0 a.length a.length 1)::x
abbrev kAV (a:Int):List (Nat×AV):=[(5,.ptr 1 0),(7,.i a),(8,.ptr 3 0)]
abbrev kAW {α0:Type} (a:List α0) (b:Int) (c:Int) (x:List (Nat×AV)):List (Nat×AV):=(0,.slice 0 0 a.length a.length 1)::(2,.i b)::(3,.i c)::x
abbrev kAX (a:Str) (b:Int) (c:Int):List AV:=[.agg [.str a,.i b,.i c]]
abbrev kAY (x:List (Nat×AV)):List (Nat×AV):=(4,.ptr 0 0)::(5,.ptr 1 0)::x
abbrev kAZ {α1:Type} (a:Int) (b:List α1) (x:List Blk):List Blk:= .cells [.i a,.gslice 2 b.length 1]::x
abbrev kAa {α0:Type} (a:List α0) (x:List (Nat×AV)):List (Nat×AV):=(6,.gslice 2 a.length 1)::x
abbrev kAb (a:Int) (b:Int):List (Nat×AV):=[(20,.i a),(21,.i b)]
abbrev kAc (a:Int) (x:List (Nat×AV)):List (Nat×AV):=(11,.i a)::(12,.ptr 2 0)::x
abbrev kAd (a:Int) (b:Bool):List (Nat×AV):=[(5,.i a),(7,.i 5),(8,.i a),(16,.bool b)]
abbrev kAe (x:List (Nat×AV)):List (Nat×AV):=(2,.ptr 0 0)::(3,.ptr 1 0)::x
abbrev kAf (x:List (Nat×AV)):List (Nat×AV):=(1,.ptr 0 0)::(2,.ptr 1 0)::x
abbrev kAg (a:List qG) (b:Int) (c:Int) (x:List (Nat×AV)):List (Nat×AV):=(17,vl qO a)::(18,.i b)::(19,.i c)::x
abbrev kAh:List (Nat×AV):=[(6,.bool false)]
abbrev kAi (a:Int) (b:Int) (x:List (Nat×AV)):List (Nat×AV):=(9,.i a)::(10,.i b)::x
abbrev kAj:List AV:=[.ptr 2 0,.ptr 3 0]
abbrev kAk (a:List qG) (b:Int) (c:Str) (d:Int) (x:List (Nat×AV)):List (Nat×AV):=(9,vl qO a)::(10,.i b)::(11,.str c)::(12,.i d)::x
abbrev kAl (a:List Int) (b:Int) (c:Int) (x:List (Nat×AV)):List (Nat×AV):=(39,vl encI a)::(40,.i b)::(41,.i c)::x
abbrev kAm (a:List Int) (b:Int) (c:Int):List (Nat×AV):=[(9,vl encI a),(10,.i b),(11,.i c)]
abbrev kAn (x:List Blk):List Blk:= .cells [.i 0,.nilfunc,.nilfunc]::x
abbrev kAo (x:List (Nat×AV)):List (Nat×AV):=(0,.slice 0 0 1 1 4)::x
abbrev kAp (a:Int):List (Nat×AV):=[(8,.i a)]
abbrev kAq:List AV:=[.str [105,110,115,101,114,116],.str [99,97,110,99,101,108],.str [115,119,97,112],.str [116,117,114,110]]
abbrev kAr (x:List (Nat×AV)):List (Nat×AV):=(5,.ptr 0 0)::x
abbrev kAs (a:List Int) (b:List Int):List AV:=[vl encI a,vl encI b]
abbrev kAt (x:List (Nat×AV)):List (Nat×AV):=(1,.ptr 1 0)::x
abbrev kAu (a:Int) (b:Int):List AV:=[.agg [.str [105,110,115,101,114,116],.i a,.i b]]
abbrev kAv (a:Int) (x:List (Nat×AV)):List (Nat×AV):=(6,.int .u64 a)::x
abbrev kAw (a:Int):List (Nat×AV):=[(6,.nilslice),(7,.i a)]
abbrev kAx {α1:Type} (a:Int) (b:List α1) (x:List Blk):List Blk:= .cells [.i a,.gslice 3 b.length 1,.nilslice]::x
abbrev kAy (a:List Str) (b:Int) (c:Int) (x:List (Nat×AV)):List (Nat×AV):=(95,vl encS a)::(96,.i b)::(97,.i c)::x
abbrev kAz:List (Nat×AV):=[(4,.ptr 2 0)]
abbrev kA0 (a:List Int) (x:List Blk):List Blk:= .frozen (a.flatMap encI.c)::x
abbrev kA1 (a:Str) (b:Int) (c:Int):List (Nat×AV):=[(1,.agg [.str a,.i b,.i c])]
abbrev kA2 (a:Bool):List (Nat×AV):=[(4,.bool a)]
abbrev kA3 (x:List (Nat×AV)):List (Nat×AV):=(5,.ptr 1 0)::x
abbrev kA4 {α0:Type} (a:List α0) (x:List (Nat×AV)):List (Nat×AV):=(8,.gslice 0 a.length 1)::x
abbrev kA5:List (Nat×AV):=[(4,.bool false)]
abbrev kA6:List (Nat×AV):=[(2,.ptr 0 0)]
abbrev kA7 (a:List qo) (x:List (Nat×AV)):List (Nat×AV):=(1,vl qa a)::x
abbrev kA8 (a:Int) (b:Int) (x:List (Nat×AV)):List (Nat×AV):=(6,.i a)::(7,.i b)::x
abbrev kA9 (a:Bool):List (Nat×AV):=[(10,.bool a)]
abbrev kBA (a:Int):List (Nat×AV):=[(11,.i a)]
abbrev kBB {α0:Type} (a:List α0) (x:List (Nat×AV)):List (Nat×AV):=(14,.gslice 3 a.length 4)::(15,.ptr 4 0)::(16,.ptr 5 0)::x
abbrev kBC (a:Int):List (Nat×AV):=[(1,.i a)]
abbrev kBD {α0:Type} (a:List α0):List (Nat×AV):=[(2,.slice 0 0 a.length a.length 1)]
abbrev kBE (x:List Blk):List Blk:= .cells [.ptr 1 0]::x
abbrev kBF:List AV:=[.ptr 3 0,.ptr 1 0,.ptr 2 0]
abbrev kBG:List (Nat×AV):=[(7,.i 0)]
abbrev kBH:List (Nat×AV):=[(4,.bool true)]
abbrev kBI:List (Nat×AV):=[(3,.ptr 2 0)]
abbrev kBJ (a:Int) (x:List (Nat×AV)):List (Nat×AV):=(1,.ptr 6 0)::(3,.i a)::x
abbrev kBK:List (Nat×AV):=[(6,.nilslice),(7,.i 18)]
abbrev kBL (x:List (Nat×AV)):List (Nat×AV):=(3,.ptr 0 0)::(4,.ptr 1 0)::(5,.ptr 2 0)::x
abbrev kBM {α2:Type} (a:Int) (b:List Int) (c:List α2) (x:List Blk):List Blk:= .cells [.i a,vl encI b,.oslice 6 c.length 3]:: .dead::x
abbrev kBN {α2:Type} (a:Int) (b:List Int) (c:List α2) (x:List Blk):List Blk:= .cells [.i a,vl encI b,.oslice 4 c.length 3]:: .dead::x
abbrev nz1 (x:qY):List AV:=ni1 x.s x.w
abbrev nq1 (x:qo):List AV:=ni2 x.Num.s x.Num.w x.Den.s x.Den.w
abbrev nq4 (x y z w:qo):List AV:=[.i x.Num.s,nvl ZU x.Num.w,.i x.Den.s,nvl ZU x.Den.w,.i y.Num.s,nvl ZU y.Num.w,.i y.Den.s,nvl ZU y.Den.w,.i z.Num.s,nvl ZU z.Num.w,.i z.Den.s,nvl ZU z.Den.w,.i w.Num.s,nvl ZU w.Num.w,.i w.Den.s,nvl ZU w.Den.w]
abbrev nb4 (a:(qo×qo)×(qo×qo)):List AV:=nq4 a.1.1 a.1.2 a.2.1 a.2.2
theorem vo:SlT ZT 22 3 1 8:=⟨by kernel_rfl,by kernel_rfl,by kernel_rfl,by kernel_rfl⟩
theorem ce3:CeT ZT 3:=⟨by kernel_rfl,by kernel_rfl⟩
theorem sl155:SlT ZT 155 29 1 8:=⟨by kernel_rfl,by kernel_rfl,by kernel_rfl,by kernel_rfl⟩
theorem ce29:CeT ZT 29:=⟨by kernel_rfl,by kernel_rfl⟩
noncomputable abbrev qg:Code:=(Tryz.f71.body.getD .skip).x2.x2.x1.x2.x1
theorem qmQ:SlT ZT 33 22 1 24:=⟨by kernel_rfl,by kernel_rfl,by kernel_rfl,by kernel_rfl⟩
noncomputable abbrev qc:Code:=(Tryz.f72.body.getD .skip).x2.x2.x2.x1.x2.x1
theorem ce22:CeT ZT 22:=⟨by kernel_rfl,by kernel_rfl⟩
theorem xn:Tryz.prog.underlying 113=some (.slice 241):=by kernel_rfl
theorem qjn:SlT ZT 111 120 1 24:=⟨by kernel_rfl,by kernel_rfl,by kernel_rfl,by kernel_rfl⟩
theorem qd4:SlT ZT 120 117 4 64:=⟨by kernel_rfl,by kernel_rfl,by kernel_rfl,by kernel_rfl⟩
theorem qoe:CeT ZT 120:=⟨by kernel_rfl,by kernel_rfl⟩
theorem qoj:AgT ZT 117 4:=⟨by kernel_rfl,by kernel_rfl⟩
theorem qa5:SlT ZT 133 3 1 8:=⟨by kernel_rfl,by kernel_rfl,by kernel_rfl,by kernel_rfl⟩
theorem qeI:SlT ZT 141 133 1 24:=⟨by kernel_rfl,by kernel_rfl,by kernel_rfl,by kernel_rfl⟩
theorem qjC:CeT ZT 133:=⟨by kernel_rfl,by kernel_rfl⟩
theorem qlD:MapT ZT 205 9 203 (.agg [.i 0,.nilfunc,.nilfunc]):=⟨by kernel_rfl,by kernel_rfl,by kernel_rfl⟩
theorem sl23:SlT ZT 23 79 3 32:=⟨by kernel_rfl,by kernel_rfl,by kernel_rfl,by kernel_rfl⟩
theorem ag79:AgT ZT 79 3:=⟨by kernel_rfl,by kernel_rfl⟩
noncomputable abbrev qP:Code:=(Tryz.f22.body.getD .skip).x2.x2.x2.x2.x1.x2.x1
theorem sl41:SlT ZT 41 9 1 16:=⟨by kernel_rfl,by kernel_rfl,by kernel_rfl,by kernel_rfl⟩
theorem ce9:CeT ZT 9:=⟨by kernel_rfl,by kernel_rfl⟩
abbrev fm1:AV:= .fmap kAq [.agg [.i 0,.func (.func 224) [] [],.func (.func 225) [] []],.agg [.i 2,.func (.func 226) [] [],.func (.func 227) [] []],.agg [.i 2,.func (.func 228) [] [],.func (.func 229) [] []],.agg [.i 3,.func (.func 230) [] [],.func (.func 231) [] []]]
instance:SC 12 fm1:=⟨Still.fmap SX.h (AllST.cons SC.h (AllST.cons SC.h (AllST.cons SC.h (AllST.cons SC.h AllST.nil))))⟩
def qbo (n:Int) (c:Int):Option Bool:=
 (if(!decide (c=0))=true then
 if c>(w64 (0-n))then
 some (decide (c<n))
 else
 some false
 else
 some false:Option Bool).bind fun a=>
 some a
theorem qha (n:Int) (c:Int) {res:Bool} (h:qbo n c=some res):qb ZT (.fn 46) [.i n,.i c] [] (.bool res) []:=by
 unfold qbo at h;refine Ub Tryz.func46 rfl rfl (m:=18) rfl (rs:=[.tmp 4]) rfl (l:=((0,.i n)::(kBC c))) rfl ?_;refine sh fol ((0,.i n)::(kBC c)) ?_;refine sq ?_;obtain⟨e,a,h⟩:=bnd h;refine Goes.cut (s':=(ofG 18 (kA2 e),[])) ?_ ?_
 ·rcases wyB a with⟨b,a⟩|⟨b,a⟩
  ·rcases wyD a with⟨d,a⟩|⟨d,a⟩
   ·obtain rfl:=si a;exact tr fol [2,8] (kA2 (decide (c<n))) (ac (gw b) (ac (gw d) az))
   obtain rfl:=si a;exact tr fol [2,8] kA5 (ac (gw b) (ac (gw d) az))
  obtain rfl:=si a;exact tr fol [2] kA5 (ac (gw b) az)
 refine Goes.ret ?_;obtain rfl:=si h;exact(gw2 [.bool e] (Ua tB))
def jJ (n:Int) (w:List Int):Nat->Int->Option (Unit⊕Int)
 |0,_=>none
 |K+1,a=>
  if a<(w.length:Int)then
  (idx w a).bind fun b=>
  (qbo n b).bind fun c=>
  if(!c)=true then
  some (.inr 3)
  else
  jJ n w K (w64 (a+1))
  else
  some (.inl ())
def xS (N:Nat) (n:Int) (w:List Int):Option Int:=
 (if n<1 then
 some true
 else
 some (decide (n>12)):Option Bool).bind fun b=>
 if b=true then
 some 3
 else
 if(w.length:Int)>200 then
 some 5
 else
 (jJ n w N 0).bind (fun
 |(.inl ())=>
 some 0
 |(.inr a)=>
 some a)
theorem qfz (N:Nat) (n:Int) (w:List Int) {res:Int} (h:xS N n w=some res):qb ZT (.fn 11) [.i n,vl encI w] [] (.i res) []:=by
 unfold xS at h;refine Ub Tryz.func11 rfl rfl (m:=28) rfl (rs:=[.tmp 4]) rfl (l:=(kE n w [])) rfl ?_;refine sh fol (kE n w []) ?_;refine sq ?_;refine sq ?_;obtain⟨p,a,h⟩:=bnd h;refine Goes.cut (s':=(ofG 28 (kE n w [(11,.bool p)]),[])) ?_ ?_
 ·rcases wyD a with⟨e,a⟩|⟨e,a⟩
  ·obtain rfl:=si a;exact tr fol [2] (kE n w [(11,.bool true)]) (ac (gw e) az)
  obtain rfl:=si a;exact tr fol [2] (kE n w [(11,.bool (decide (n>12)))]) (ac (gw e) az)
 refine ihB h (fun q h=>?_) (fun q h=>?_)
 ·refine sh fol [(4,.i 3)] ?_;refine Goes.ret ?_;obtain rfl:=si h;exact(gw2 [.i 3] (Ua tI))
 refine Goes.skip ?_;refine sq ?_;refine sh fol (kE n w [(14,.bool (decide ((w.length:Int)>200)))]) ?_;refine ihD h (fun r h=>?_) (fun r h=>?_)
 ·refine sh fol [(4,.i 5)] ?_;refine Goes.ret ?_;obtain rfl:=si h;exact(gw2 [.i 5] (Ua tI))
 refine Goes.skip ?_;refine sq ?_;refine sh fol (kE n w [(5,.i 0)]) ?_;refine Goes.block ?_;obtain⟨f,g7,h⟩:=bnd h;refine Goes.imp (Q:=fun x s'=>(x= .exit 0/\(.inl ())=f/\Sub s' (ofG 28 [],[]))\/(x= .ret/\ ∃o,(.inr o)=f/\jM ZT [.tmp 4] (.i o) .ret s')) ?_ ?_
 ·refine Ud (fun M s=> ∃(c:Int),s=(ofG 28 (kE n w [(5,.i c)]),[])/\jJ n w M c=some f) ?_ (m:=N) ⟨_,rfl,g7⟩;rintro M s ⟨c,rfl,g7⟩
  cases M with
  |zero=>simp only[jJ]at g7;cases g7
  |succ M=>
   rw[jJ]at g7;refine sq ?_;refine sh fol (kE n w [(5,.i c),(18,.bool (decide (c<(w.length:Int))))]) ?_;refine ihD g7 (fun t g7=>?_) (fun t g7=>?_)
   ·refine Goes.skip ?_;refine sq (Goes.block ?_);obtain⟨g,b,g7⟩:=bnd g7;obtain⟨j,d,g7⟩:=bnd g7;refine sq (gr fol [3,4,5] (kE n w [(5,.i c),(27,.bool (!j))]) (ac (iv vo encI b) (ac (lv 0 ce3 encI b rfl) (ac (cv (qha n g d)) az))) ?_);refine ihB g7 (fun k g7=>?_) (fun k g7=>?_)
    ·refine sh fol [(4,.i 3)] ?_;refine Goes.ret ?_;obtain rfl:=si g7;exact Or.inr (⟨rfl,_,rfl,(gw2 [.i 3] (Ua tI))⟩)
    refine Goes.skip ?_;refine gh fol (kE n w [(5,.i (w64 (c+1)))]) ?_;exact⟨M,(ofG 28 (kE n w [(5,.i (w64 (c+1)))]),[]),Nat.lt_succ_self _,(Sub.refl _),_,rfl,g7⟩
   refine Goes.exit ?_;obtain rfl:=si g7;exact Or.inl (⟨rfl,rfl,(Sub.keep [] rfl rfl)⟩)
 rintro x s' (⟨rfl,rfl,hsub⟩|⟨rfl,u,rfl,hret⟩)
 ·try dsimp only at h
  refine Goes.sub hsub ?_;refine sh fol [(4,.i 0)] ?_;refine Goes.ret ?_;obtain rfl:=si h;exact(gw2 [.i 0] (Ua tI))
 try dsimp only at h
 obtain rfl:=si h;exact hret
def qbb (N:Nat) (n:Int) (w:List Int) (strands:Int) (letters:Int):Option Bool:=
 (if n<=strands then
 if(w.length:Int)<=letters then
 (xS N n w).bind fun a=>
 some (decide (a=0))
 else
 some false
 else
 some false:Option Bool).bind fun b=>
 some b
theorem qdU (N:Nat) (n:Int) (w:List Int) (strands:Int) (letters:Int) {res:Bool} (h:qbb N n w strands letters=some res):qb ZT (.fn 7) [.i n,vl encI w,.i strands,.i letters] [] (.bool res) []:=by
 unfold qbb at h;refine Ub Tryz.func7 rfl rfl (m:=24) rfl (rs:=[.tmp 8]) rfl (l:=(kE n w [(2,.i strands),(3,.i letters)])) rfl ?_;refine sh fol (kE n w [(2,.i strands),(3,.i letters)]) ?_;refine sq ?_;obtain⟨e,a,h⟩:=bnd h;refine Goes.cut (s':=(ofG 24 [(8,.bool e)],[])) ?_ ?_
 ·rcases wyD a with⟨c,a⟩|⟨c,a⟩
  ·rcases wyD a with⟨d,a⟩|⟨d,a⟩
   ·obtain⟨f,b,a⟩:=bnd a;obtain rfl:=si a;exact tr fol [3,9,12] [(8,.bool (decide (f=0)))] (ac (gw c) (ac (gw d) (ac (cv (qfz N n w b)) az)))
   obtain rfl:=si a;exact tr fol [3,9] [(8,.bool false)] (ac (gw c) (ac (gw d) az))
  obtain rfl:=si a;exact tr fol [3] [(8,.bool false)] (ac (gw c) az)
 refine Goes.ret ?_;obtain rfl:=si h;exact(gw2 [.bool e] (Ua tB))
def qx (holds:Bool) (e:Int):Option Int:=
 if holds=true then
 some e
 else
 some 0
theorem qh (holds:Bool) (e:Int) {res:Int} (h:qx holds e=some res):qb ZT (.fn 57) [.bool holds,.i e] [] (.i res) []:=by
 unfold qx at h;refine Ub Tryz.func57 rfl rfl (m:=7) rfl (rs:=[.tmp 4]) rfl (l:=((0,.bool holds)::(kBC e))) rfl ?_;refine sh fol ((0,.bool holds)::(kBC e)) ?_;refine sq ?_;refine sh fol [(1,.i e),(5,.bool holds)] ?_;refine ihB h (fun a h=>?_) (fun a h=>?_)
 ·refine sh fol [(4,.i e)] ?_;refine Goes.ret ?_;obtain rfl:=si h;exact(gw2 [.i e] (Ua tI))
 refine Goes.skip ?_;refine sh fol [(4,.i 0)] ?_;refine Goes.ret ?_;obtain rfl:=si h;exact(gw2 [.i 0] (Ua tI))
def jy (l:List Int):Nat->Int->Option (Unit⊕Int)
 |0,_=>none
 |K+1,a=>
  if a<(l.length:Int)then
  (idx l a).bind fun b=>
  if(!decide (b=0))=true then
  some (.inr b)
  else
  jy l K (w64 (a+1))
  else
  some (.inl ())
def ky (N:Nat) (l:List Int):Option Int:=
 (jy l N 0).bind (fun
 |(.inl ())=>
 some 0
 |(.inr a)=>
 some a)
theorem zm (N:Nat) (l:List Int) {res:Int} (h:ky N l=some res):qb ZT (.fn 62) [vl encI l] [] (.i res) []:=by
 unfold ky at h;refine Ub Tryz.func62 rfl rfl (m:=15) rfl (rs:=[.tmp 2]) rfl (l:=(kAP l [])) rfl ?_;refine sh fol (kAP l []) ?_;refine sq ?_;refine sh fol ((5,vl encI l)::(6,.i (l.length:Int))::kBG) ?_;refine Goes.block ?_;obtain⟨d,g2,h⟩:=bnd h;refine Goes.imp (Q:=fun x s'=>(x= .exit 0/\(.inl ())=d/\Sub s' (ofG 15 [],[]))\/(x= .ret/\ ∃e,(.inr e)=d/\jM ZT [.tmp 2] (.i e) .ret s')) ?_ ?_
 ·refine Ud (fun M s=> ∃(a:Int),s=(ofG 15 ((5,vl encI l)::(kA8 (l.length:Int) a [])),[])/\jy l M a=some d) ?_ (m:=N) ⟨_,rfl,g2⟩;rintro M s ⟨a,rfl,g2⟩
  cases M with
  |zero=>simp only[jy]at g2;cases g2
  |succ M=>
   rw[jy]at g2;refine sh fol ((5,vl encI l)::(kA8 (l.length:Int) a [(8,.bool (decide (a<(l.length:Int))))])) ?_;refine sq ?_;refine ihD g2 (fun f g2=>?_) (fun f g2=>?_)
   ·refine Goes.skip ?_;refine sq (Goes.block ?_);obtain⟨c,b,g2⟩:=bnd g2;refine sq (gr fol [0,1] ((4,.i c)::(5,vl encI l)::(kA8 (l.length:Int) a [])) (ac (iv sl155 encI b) (ac (lv 0 ce29 encI b rfl) az)) ?_);refine sh fol ((4,.i c)::(5,vl encI l)::(kA8 (l.length:Int) a [(12,.bool (!decide (c=0)))])) ?_;refine ihB g2 (fun c6 g2=>?_) (fun c6 g2=>?_)
    ·refine sh fol [(2,.i c)] ?_;refine Goes.ret ?_;obtain rfl:=si g2;exact Or.inr (⟨rfl,_,rfl,(gw2 [.i c] (Ua tI))⟩)
    refine Goes.skip ?_;refine gh fol ((5,vl encI l)::(kA8 (l.length:Int) (w64 (a+1)) [])) ?_;exact⟨M,(ofG 15 ((5,vl encI l)::(kA8 (l.length:Int) (w64 (a+1)) [])),[]),Nat.lt_succ_self _,(Sub.refl _),_,rfl,g2⟩
   refine Goes.exit ?_;obtain rfl:=si g2;exact Or.inl (⟨rfl,rfl,(Sub.keep [] rfl rfl)⟩)
 rintro x s' (⟨rfl,rfl,hsub⟩|⟨rfl,g,rfl,hret⟩)
 ·try dsimp only at h
  refine Goes.sub hsub ?_;refine sh fol [(2,.i 0)] ?_;refine Goes.ret ?_;obtain rfl:=si h;exact(gw2 [.i 0] (Ua tI))
 try dsimp only at h
 obtain rfl:=si h;exact hret
def xL (n:Int):Option Int:=
 (if n<1 then
 (qx true 3).bind fun a=>
 some a
 else
 (qx (decide (n>12)) 3).bind fun b=>
 some b:Option Int).bind fun c=>
 some c
theorem qeb (n:Int) {res:Int} (h:xL n=some res):qb ZT (.fn 98) [.i n] [] (.i res) []:=by
 unfold xL at h;refine Ub Tryz.func98 rfl rfl (m:=10) rfl (rs:=[.tmp 2]) rfl (l:=[(0,.i n)]) rfl ?_;refine sh fol [(0,.i n)] ?_;refine sq ?_;obtain⟨e,a,h⟩:=bnd h;refine Goes.cut (s':=(ofG 10 [(2,.i e)],[])) ?_ ?_
 ·rcases wyD a with⟨d,a⟩|⟨d,a⟩
  ·obtain⟨f,b,a⟩:=bnd a;obtain rfl:=si a;exact tr fol [2,6] [(2,.i f)] (ac (gw d) (ac (cv (qh true 3 b)) az))
  obtain⟨g,c,a⟩:=bnd a;obtain rfl:=si a;exact tr fol [2,6] [(2,.i g)] (ac (gw d) (ac (cv (qh (decide (n>12)) 3 c)) az))
 refine Goes.ret ?_;obtain rfl:=si h;exact(gw2 [.i e] (Ua tI))
def xX (n:Int) (letter:Int):Option Bool:=
 (if letter=0 then
 some true
 else
 if letter<=(w64 (0-n))then
 some true
 else
 some (decide (letter>=n)):Option Bool).bind fun a=>
 some a
theorem qbC (n:Int) (letter:Int) {res:Bool} (h:xX n letter=some res):qb ZT (.fn 104) [.i n,.i letter] [] (.bool res) []:=by
 unfold xX at h;refine Ub Tryz.func104 rfl rfl (m:=18) rfl (rs:=[.tmp 4]) rfl (l:=((0,.i n)::(kBC letter))) rfl ?_;refine sh fol ((0,.i n)::(kBC letter)) ?_;refine sq ?_;obtain⟨d,a,h⟩:=bnd h;refine Goes.cut (s':=(ofG 18 (kA2 d),[])) ?_ ?_
 ·rcases wyD a with⟨b,a⟩|⟨b,a⟩
  ·obtain rfl:=si a;exact tr fol [2] kBH (ac (gw b) az)
  rcases wyD a with⟨c,a⟩|⟨c,a⟩
  ·obtain rfl:=si a;exact tr fol [2,8] kBH (ac (gw b) (ac (gw c) az))
  obtain rfl:=si a;exact tr fol [2,8] (kA2 (decide (letter>=n))) (ac (gw b) (ac (gw c) az))
 refine Goes.ret ?_;obtain rfl:=si h;exact(gw2 [.bool d] (Ua tB))
def yP (a:Int) (b:Int):Option Bool:=
 (xX b a).bind fun c=>
 some c
theorem qdf (a:Int) (b:Int) {res:Bool} (h:yP a b=some res):qb ZT (.fn 103) [.i a,.fptr [.i b] 0] [] (.bool res) []:=by
 unfold yP at h;refine Ub Tryz.func103 rfl rfl (m:=7) rfl (rs:=[.tmp 3]) rfl (l:=[(0,.i a),(1,.fptr [.i b] 0)]) rfl ?_;refine sh fol [(0,.i a),(1,.fptr [.i b] 0)] ?_;obtain⟨d,c,h⟩:=bnd h;refine sq (gr fol [2] [(3,.bool d)] (ac (cv (qbC b a c)) az) ?_);refine Goes.ret ?_;obtain rfl:=si h;exact(gw2 [.bool d] (Ua tB))
def qX (a:List Int) (b:Int):Nat->Int->Option (Unit⊕Int)
 |0,_=>none
 |K+1,c=>
  if c<(a.length:Int)then
  (idx a c).bind fun d=>
  (yP d b).bind fun e=>
  if e=true then
  some (.inr c)
  else
  qX a b K (w64 (c+1))
  else
  some (.inl ())
def vP (N:Nat) (a:List Int) (b:Int):Option Int:=
 (qX a b N 0).bind (fun
 |(.inl ())=>
 some (-1)
 |(.inr c)=>
 some c)
theorem qcG (N:Nat) (a:List Int) (b:Int) {res:Int} (h:vP N a b=some res):qb ZT (.fn 171) [vl encI a,.func (.func 103) [] [.fptr [.i b] 0]] [] (.i res) []:=by
 unfold vP at h;refine Ub Tryz.func171 rfl rfl (m:=19) rfl (rs:=[.tmp 4]) rfl (l:=(kAP a [(1,.func (.func 103) [] [.fptr [.i b] 0])])) rfl ?_;refine sh fol (kAP a [(1,.func (.func 103) [] [.fptr [.i b] 0])]) ?_;refine sq ?_;refine sh fol (kAP a [(1,.func (.func 103) [] [.fptr [.i b] 0]),(7,.i (a.length:Int)),(8,.i 0)]) ?_;refine Goes.block ?_;obtain⟨f,g2,h⟩:=bnd h;refine Goes.imp (Q:=fun x s'=>(x= .exit 0/\(.inl ())=f/\Sub s' (ofG 19 [],[]))\/(x= .ret/\ ∃j,(.inr j)=f/\jM ZT [.tmp 4] (.i j) .ret s')) ?_ ?_
 ·refine Ud (fun M s=> ∃(c:Int),s=(ofG 19 (kAP a ((1,.func (.func 103) [] [.fptr [.i b] 0])::(7,.i (a.length:Int))::(kAp c))),[])/\qX a b M c=some f) ?_ (m:=N) ⟨_,rfl,g2⟩;rintro M s ⟨c,rfl,g2⟩
  cases M with
  |zero=>simp only[qX]at g2;cases g2
  |succ M=>
   rw[qX]at g2;refine sh fol (kAP a [(1,.func (.func 103) [] [.fptr [.i b] 0]),(7,.i (a.length:Int)),(8,.i c),(9,.bool (decide (c<(a.length:Int))))]) ?_;refine sq ?_;refine ihD g2 (fun n g2=>?_) (fun n g2=>?_)
   ·refine Goes.skip ?_;refine sq (Goes.block ?_);refine sh fol (kAP a ((1,.func (.func 103) [] [.fptr [.i b] 0])::(5,.i c)::(7,.i (a.length:Int))::(kAp c))) ?_;obtain⟨g,d,g2⟩:=bnd g2;obtain⟨k,e,g2⟩:=bnd g2;refine sq (gr fol [3,4,5] (kAP a [(1,.func (.func 103) [] [.fptr [.i b] 0]),(5,.i c),(7,.i (a.length:Int)),(8,.i c),(16,.bool k)]) (ac (iv vo encI d) (ac (lv 0 ce3 encI d rfl) (ac (hs (.call 103 [.i g,.fptr [.i b] 0] [] [] [.i g,.fptr [.i b] 0] (.bool k)) (qcJ (FzL.cons (Uc tI) (FzL.cons (Uc (Still.fptr (AllST.cons tI AllST.nil))) FzL.nil)) (qdf g b e) tB)) az))) ?_);refine ihB g2 (fun o g2=>?_) (fun o g2=>?_)
    ·refine sh fol [(4,.i c)] ?_;refine Goes.ret ?_;obtain rfl:=si g2;exact Or.inr (⟨rfl,_,rfl,(gw2 [.i c] (Ua tI))⟩)
    refine Goes.skip ?_;refine gh fol (kAP a ((1,.func (.func 103) [] [.fptr [.i b] 0])::(7,.i (a.length:Int))::(kAp (w64 (c+1))))) ?_;exact⟨M,(ofG 19 (kAP a ((1,.func (.func 103) [] [.fptr [.i b] 0])::(7,.i (a.length:Int))::(kAp (w64 (c+1))))),[]),Nat.lt_succ_self _,(Sub.refl _),_,rfl,g2⟩
   refine Goes.exit ?_;obtain rfl:=si g2;exact Or.inl (⟨rfl,rfl,(Sub.keep [] rfl rfl)⟩)
 rintro x s' (⟨rfl,rfl,hsub⟩|⟨rfl,p,rfl,hret⟩)
 ·try dsimp only at h
  refine Goes.sub hsub ?_;refine sh fol [(4,.i (-1))] ?_;refine Goes.ret ?_;obtain rfl:=si h;exact(gw2 [.i (-1)] (Ua tI))
 try dsimp only at h
 obtain rfl:=si h;exact hret
def jN (N:Nat) (a:List Int) (b:Int):Option Bool:=
 (vP N a b).bind fun c=>
 some (decide (c>=0))
theorem qb7 (N:Nat) (a:List Int) (b:Int) {res:Bool} (h:jN N a b=some res):qb ZT (.fn 102) [vl encI a,.func (.func 103) [] [.fptr [.i b] 0]] [] (.bool res) []:=by
 unfold jN at h;refine Ub Tryz.func102 rfl rfl (m:=9) rfl (rs:=[.tmp 4]) rfl (l:=(kAP a [(1,.func (.func 103) [] [.fptr [.i b] 0])])) rfl ?_;refine sh fol (kAP a [(1,.func (.func 103) [] [.fptr [.i b] 0])]) ?_;obtain⟨d,c,h⟩:=bnd h;refine sq (gr fol [2] (kA2 (decide (d>=0))) (ac (hs (.call 171 [vl encI a,.func (.func 103) [] [.fptr [.i b] 0]] [] [] [vl encI a,.func (.func 103) [] [.fptr [.i b] 0]] (.i d)) (qcJ (FzL.cons (Uc (qy encI _ (nl rfl))) (FzL.cons (Fz.func FzL.nil (FzL.cons (Uc (Still.fptr (AllST.cons tI AllST.nil))) FzL.nil)) FzL.nil)) (qcG N a b c) tI)) az) ?_);refine Goes.ret ?_;obtain rfl:=si h;exact(gw2 [.bool (decide (d>=0))] (Ua tB))
def yR (N:Nat) (n:Int) (w:List Int):Option Int:=
 (xL n).bind fun b=>
 (qx (decide ((w.length:Int)>200)) 5).bind fun c=>
 (ky N ([b,c]:List Int)).bind fun a=>
 if(!decide (a=0))=true then
 some a
 else
 (jN N w n).bind fun d=>
 (qx d 3).bind fun e=>
 some e
theorem qcR (N:Nat) (n:Int) (w:List Int) {res:Int} (h:yR N n w=some res):qb ZT (.fn 43) [.i n,vl encI w] [] (.i res) []:=by
 unfold yR at h;refine Ub Tryz.func43 rfl rfl (m:=21) rfl (rs:=[.tmp 4]) rfl (l:=(kE n w [])) rfl ?_;refine sg fol ((1,vl encI w)::kA6) (kAB n []) ?_;refine sq ?_;obtain⟨b,c,h⟩:=bnd h;obtain⟨d,e,h⟩:=bnd h;obtain⟨a,f,h⟩:=bnd h;refine sq (gq fol [1,5,7] [(1,vl encI w),(2,.ptr 0 0),(5,.i a)] (kAB n (kW b d [])) (ac (cv (qeb n c)) (ac (cv (qh (decide ((w.length:Int)>200)) 5 e)) (ac (hs (.call 62 [.slice 1 0 2 2 1] (kAB n (kW b d [])) [1] [vl encI ([b,d]:List Int)] (.i a)) (vL (FzL.cons (Fz.lit rfl rfl (Uh (AllST.cons tI (AllST.cons tI AllST.nil)))) FzL.nil) (zm N ([b,d]:List Int) f) tI rfl)) az))) ?_);refine sh fol [(1,vl encI w),(2,.ptr 0 0),(5,.i a),(15,.bool (!decide (a=0)))] ?_;refine ihB h (fun p h=>?_) (fun p h=>?_)
 ·refine sh fol [(4,.i a)] ?_;refine Goes.ret ?_;obtain rfl:=si h;exact(gw2 [.i a] (Ua tI))
 refine Goes.skip ?_;obtain⟨k,g,h⟩:=bnd h;obtain⟨o,j,h⟩:=bnd h;refine sq (gr fol [2,3] [(4,.i o)] (ac (hs (.call 102 [vl encI w,.func (.func 103) [] [.ptr 0 0]] (kAB n (kW b d [])) [0] [vl encI w,.func (.func 103) [] [.fptr [.i n] 0]] (.bool k)) (vL (FzL.cons (Uc (qy encI _ (nl rfl))) (FzL.cons (Fz.func FzL.nil (FzL.cons (Fz.ptr rfl rfl (FzL.cons (Uc tI) FzL.nil)) FzL.nil)) FzL.nil)) (qb7 N w n g) tB rfl)) (ac (cv (qh k 3 j)) az)) ?_);refine Goes.ret ?_;obtain rfl:=si h;exact(gw2 [.i o] (Ua tI))
def jG (N:Nat) (n:Int) (a:List Int) (b:List Int):Option Int:=
 (yR N n a).bind fun c=>
 (yR N n b).bind fun d=>
 (ky N ([c,d]:List Int)).bind fun e=>
 some e
theorem yx (N:Nat) (n:Int) (a:List Int) (b:List Int) {res:Int} (h:jG N n a b=some res):qb ZT (.fn 53) (.i n::(kAs a b)) [] (.i res) []:=by
 unfold jG at h;refine Ub Tryz.func53 rfl rfl (m:=15) rfl (rs:=[.tmp 6]) rfl (l:=(kE n a (kAS b []))) rfl ?_;refine sh fol (kE n a (kAS b [])) ?_;obtain⟨f,c,h⟩:=bnd h;obtain⟨g,d,h⟩:=bnd h;obtain⟨j,e,h⟩:=bnd h;refine sq (gq fol [2,5,7] [(6,.i j)] (kW f g []) (ac (cv (qcR N n a c)) (ac (cv (qcR N n b d)) (ac (hs (.call 62 [.slice 0 0 2 2 1] (kW f g []) [0] [vl encI ([f,g]:List Int)] (.i j)) (vL (FzL.cons (Fz.lit rfl rfl (Uh (AllST.cons tI (AllST.cons tI AllST.nil)))) FzL.nil) (zm N ([f,g]:List Int) e) tI rfl)) az))) ?_);refine Goes.ret ?_;obtain rfl:=si h;exact(gw2 [.i j] (Ua tI))
def zW (a:Int):Option Int:=
 some (if(if a<1 then a else 1)>(-1)then(if a<1 then a else 1)else(-1))
theorem zT (a:Int) {res:Int} (h:zW a=some res):qb ZT (.fn 91) [.i a] [] (.i res) []:=by
 unfold zW at h;refine Ub Tryz.func91 rfl rfl (m:=6) rfl (rs:=[.tmp 2]) rfl (l:=[(0,.i a)]) rfl ?_;refine sh fol [(0,.i a)] ?_;refine sh fol [(2,.i (if(if a<1 then a else 1)>(-1)then(if a<1 then a else 1)else(-1)))] ?_;refine Goes.ret ?_;obtain rfl:=si h;exact(gw2 [.i (if(if a<1 then a else 1)>(-1)then(if a<1 then a else 1)else(-1))] (Ua tI))
def jS (w:List Int):Nat->Int->Int->Option Int
 |0,_,_=>none
 |K+1,b,a=>
  if a<(w.length:Int)then
  (idx w a).bind fun c=>
  (zW c).bind fun d=>
  jS w K (w64 (b+d)) (w64 (a+1))
  else
  some b
def xD (N:Nat) (w:List Int):Option Int:=
 (jS w N 0 0).bind fun a=>
 some a
theorem qc7 (N:Nat) (w:List Int) {res:Int} (h:xD N w=some res):qb ZT (.fn 73) [vl encI w] [] (.i res) []:=by
 unfold xD at h;refine Ub Tryz.func73 rfl rfl (m:=18) rfl (rs:=[.tmp 2]) rfl (l:=(kAP w [])) rfl ?_;refine sh fol (kAP w []) ?_;refine sh fol (kAP w [(3,.i 0)]) ?_;refine sq ?_;refine sh fol [(3,.i 0),(6,vl encI w),(7,.i (w.length:Int)),(8,.i 0)] ?_;refine Goes.block ?_;obtain⟨g,g4,h⟩:=bnd h;refine Goes.imp (Q:=fun x s'=>(x= .exit 0/\ ∃d,d=g/\Sub s' (ofG 18 [(3,.i d)],[]))) ?_ ?_
 ·refine Ud (fun M s=> ∃(b:Int) (a:Int),s=(ofG 18 ((3,.i b)::(6,vl encI w)::(7,.i (w.length:Int))::(kAp a)),[])/\jS w M b a=some g) ?_ (m:=N) ⟨_,_,rfl,g4⟩;rintro M s ⟨b,a,rfl,g4⟩
  cases M with
  |zero=>simp only[jS]at g4;cases g4
  |succ M=>
   rw[jS]at g4;refine sh fol [(3,.i b),(6,vl encI w),(7,.i (w.length:Int)),(8,.i a),(9,.bool (decide (a<(w.length:Int))))] ?_;refine sq ?_;refine ihD g4 (fun k g4=>?_) (fun k g4=>?_)
   ·refine Goes.skip ?_;refine sq (Goes.block ?_);obtain⟨j,c,g4⟩:=bnd g4;refine sq (gr fol [0,1] ((3,.i b)::(5,.i j)::(6,vl encI w)::(7,.i (w.length:Int))::(kAp a)) (ac (iv vo encI c) (ac (lv 0 ce3 encI c rfl) az)) ?_);obtain⟨f,e,g4⟩:=bnd g4;refine gr fol [2] ((3,.i (w64 (b+f)))::(6,vl encI w)::(7,.i (w.length:Int))::(kAp a)) (ac (cv (zT j e)) az) ?_;refine gh fol ((3,.i (w64 (b+f)))::(6,vl encI w)::(7,.i (w.length:Int))::(kAp (w64 (a+1)))) ?_;exact⟨M,(ofG 18 ((3,.i (w64 (b+f)))::(6,vl encI w)::(7,.i (w.length:Int))::(kAp (w64 (a+1)))),[]),Nat.lt_succ_self _,(Sub.refl _),_,_,rfl,g4⟩
   refine Goes.exit ?_;obtain rfl:=si g4;exact⟨rfl,_,rfl,(Sub.keep [3] rfl rfl)⟩
 rintro x s' ⟨rfl,d,rfl,hsub⟩;refine Goes.sub hsub ?_;refine sh fol [(2,.i d)] ?_;refine Goes.ret ?_;obtain rfl:=si h;exact(gw2 [.i d] (Ua tI))
def jm (b:List Int) (c:List Int):Nat->Int->Option (Unit⊕Bool)
 |0,_=>none
 |K+1,a=>
  if a<(b.length:Int)then
  (idx b a).bind fun d=>
  (idx c a).bind fun e=>
  if(!decide (d=e))=true then
  some (.inr false)
  else
  jm b c K (w64 (a+1))
  else
  some (.inl ())
def slices_Equal_int (N:Nat) (a:List Int) (b:List Int):Option Bool:=
 if(!decide ((a.length:Int)=(b.length:Int)))=true then
 some false
 else
 (jm a b N 0).bind (fun
 |(.inl ())=>
 some true
 |(.inr c)=>
 some c)
theorem qaP (N:Nat) (a:List Int) (b:List Int) {res:Bool} (h:slices_Equal_int N a b=some res):qb ZT (.fn 63) (kAs a b) [] (.bool res) []:=by
 unfold slices_Equal_int at h;refine Ub Tryz.func63 rfl rfl (m:=26) rfl (rs:=[.tmp 4]) rfl (l:=(kV a b [])) rfl ?_;refine sh fol (kV a b []) ?_;refine sq ?_;refine sh fol (kV a b (kA9 (!decide ((a.length:Int)=(b.length:Int))))) ?_;refine ihB h (fun j h=>?_) (fun j h=>?_)
 ·refine sh fol kA5 ?_;refine Goes.ret ?_;obtain rfl:=si h;exact(gw2 [.bool false] (Ua tB))
 refine Goes.skip ?_;refine sq ?_;refine sh fol (kV a b [(12,.i (a.length:Int)),(13,.i 0)]) ?_;refine Goes.block ?_;obtain⟨f,g3,h⟩:=bnd h;refine Goes.imp (Q:=fun x s'=>(x= .exit 0/\(.inl ())=f/\Sub s' (ofG 26 [],[]))\/(x= .ret/\ ∃g,(.inr g)=f/\jM ZT [.tmp 4] (.bool g) .ret s')) ?_ ?_
 ·refine Ud (fun M s=> ∃(c:Int),s=(ofG 26 (kV a b (kAJ (a.length:Int) c [])),[])/\jm a b M c=some f) ?_ (m:=N) ⟨_,rfl,g3⟩;rintro M s ⟨c,rfl,g3⟩
  cases M with
  |zero=>simp only[jm]at g3;cases g3
  |succ M=>
   rw[jm]at g3;refine sh fol (kV a b (kAJ (a.length:Int) c [(14,.bool (decide (c<(a.length:Int))))])) ?_;refine sq ?_;refine ihD g3 (fun k g3=>?_) (fun k g3=>?_)
   ·refine Goes.skip ?_;refine sq (Goes.block ?_);refine sh fol (kV a b ((5,.i c)::(kAJ (a.length:Int) c []))) ?_;obtain⟨n,d,g3⟩:=bnd g3;obtain⟨o,e,g3⟩:=bnd g3;refine sq (gr fol [2,3,6,7] (kV a b (kAJ (a.length:Int) c [(24,.bool (!decide (n=o)))])) (ac (iv vo encI d) (ac (lv 0 ce3 encI d rfl) (ac (iv vo encI e) (ac (lv 0 ce3 encI e rfl) az)))) ?_);refine ihB g3 (fun p g3=>?_) (fun p g3=>?_)
    ·refine sh fol kA5 ?_;refine Goes.ret ?_;obtain rfl:=si g3;exact Or.inr (⟨rfl,_,rfl,(gw2 [.bool false] (Ua tB))⟩)
    refine Goes.skip ?_;refine gh fol (kV a b (kAJ (a.length:Int) (w64 (c+1)) [])) ?_;exact⟨M,(ofG 26 (kV a b (kAJ (a.length:Int) (w64 (c+1)) [])),[]),Nat.lt_succ_self _,(Sub.refl _),_,rfl,g3⟩
   refine Goes.exit ?_;obtain rfl:=si g3;exact Or.inl (⟨rfl,rfl,(Sub.keep [] rfl rfl)⟩)
 rintro x s' (⟨rfl,rfl,hsub⟩|⟨rfl,q,rfl,hret⟩)
 ·try dsimp only at h
  refine Goes.sub hsub ?_;refine sh fol kBH ?_;refine Goes.ret ?_;obtain rfl:=si h;exact(gw2 [.bool true] (Ua tB))
 try dsimp only at h
 obtain rfl:=si h;exact hret
def qQ (n:Int):Option Int:=
 some (if(w64 (0-n))>n then(w64 (0-n))else n)
theorem qp (n:Int) {res:Int} (h:qQ n=some res):qb ZT (.fn 92) [.i n] [] (.i res) []:=by
 unfold qQ at h;refine Ub Tryz.func92 rfl rfl (m:=7) rfl (rs:=[.tmp 2]) rfl (l:=[(0,.i n)]) rfl ?_;refine sh fol [(0,.i n)] ?_;refine sh fol [(2,.i (if(w64 (0-n))>n then(w64 (0-n))else n))] ?_;refine Goes.ret ?_;obtain rfl:=si h;exact(gw2 [.i (if(w64 (0-n))>n then(w64 (0-n))else n)] (Ua tI))
def je (c:List Int):Nat->(List Int)->Int->Option (List Int)
 |0,_,_=>none
 |K+1,b,a=>
  if a<(c.length:Int)then
  (idx b a).bind fun e=>
  (put b a a).bind fun d=>
  je c K d (w64 (a+1))
  else
  some b
def z8 (N:Nat) (a:Int):Option (List Int):=
 (mk 8 a 0).bind fun b=>
 (je b N b 0).bind fun c=>
 some c
theorem vH (N:Nat) (c:Int) {n:List Int} (h:z8 N c=some n):qb ZT (.fn 106) [.i c] [] (.slice 0 0 n.length n.length 1) (kA n []):=by
 unfold z8 at h;refine Ug Tryz.func106 rfl rfl (m:=18) rfl (rs:=[.tmp 2]) rfl (l:=[(0,.i c)]) rfl ?_;intro B hB;refine sh fol [(0,.i c)] ?_;obtain⟨a,k,h⟩:=bnd h;refine sq (gq fol [1] (kU a []) (kA a []) (ac (hs (.run [] (vR ZT 22 (.i c) (.i c)) [] (.slice 0 0 a.length a.length 1) (kA a []) false) (qfC vo (E:=encI) (z:=0) rfl (by kernel_rfl) k rfl)) az) ?_);refine sq ?_;refine sh fol (kU a [(8,.i (a.length:Int)),(9,.i 0)]) ?_;refine Goes.block ?_;obtain⟨o,g6,h⟩:=bnd h;refine Goes.imp (Q:=fun x s'=>(x= .exit 0/\ ∃j,j=o/\Sub s' (ofG 18 (kU j []),(kA j [])))) ?_ ?_
 ·refine Ud (fun M s=> ∃(d:List Int) (b:Int),s=(ofG 18 (kU d [(8,.i (a.length:Int)),(9,.i b)]),(kA d []))/\je a M d b=some o) ?_ (m:=N) ⟨_,_,rfl,g6⟩;rintro M s ⟨d,b,rfl,g6⟩
  cases M with
  |zero=>simp only[je]at g6;cases g6
  |succ M=>
   rw[je]at g6;refine sh fol (kU d ((8,.i (a.length:Int))::(9,.i b)::(kA9 (decide (b<(a.length:Int)))))) ?_;refine sq ?_;refine ihD g6 (fun p g6=>?_) (fun p g6=>?_)
   ·refine Goes.skip ?_;refine sq (Goes.block ?_);refine sh fol (kU d [(4,.i b),(8,.i (a.length:Int)),(9,.i b)]) ?_;obtain⟨q,e,g6⟩:=bnd g6;obtain⟨f,g,g6⟩:=bnd g6;refine gq fol [3,4] (kU d [(8,.i (a.length:Int)),(9,.i b)]) (kA f []) (ac (hs (.done (.opt (qd ZT 22 (.slice 0 0 d.length d.length 1) (.i b))) (.ptr 0 ((b:Int).toNat*1+0))) (yS vo e)) (ac (hs (.run [0] (qD ZT 3 (.ptr 0 ((b:Int).toNat*1+0)) (.i b)) (kA d []) .undef (kA f []) true) (qa2 (E:=encI) (l:=d) (y:=b) rfl (show _=some 1 by kernel_rfl) rfl e rfl rfl rfl rfl rfl g rfl)) az)) ?_;refine Goes.sub (show Sub (ofG 18 (kU d [(8,.i (a.length:Int)),(9,.i b)]),(kA f [])) (ofG 18 (kU f [(8,.i (a.length:Int)),(9,.i b)]),(kA f []))from(Sub.norm [] [some 0] (by rw[hB];rfl) rfl (.keep (.sliceE rfl (vG g)) (.keep (.same nI) (.keep (.same nI) .nil))) (.ks .nil))) ?_;refine gh fol (kU f [(8,.i (a.length:Int)),(9,.i (w64 (b+1)))]) ?_;exact⟨M,(ofG 18 (kU f [(8,.i (a.length:Int)),(9,.i (w64 (b+1)))]),(kA f [])),Nat.lt_succ_self _,(Sub.refl _),_,_,rfl,g6⟩
   refine Goes.exit ?_;obtain rfl:=si g6;exact⟨rfl,_,rfl,(Sub.keep [3] rfl rfl)⟩
 rintro x s' ⟨rfl,j,rfl,hsub⟩;refine Goes.sub hsub ?_;refine sh fol (kBD j) ?_;refine Goes.ret ?_;obtain rfl:=si h;exact(gh2 [.slice 0 0 j.length j.length 1] (qbI.refl _ _))
def yH (a:Int) (b:List Int):Option Unit:=
 some ()
theorem qbw (a:Int) (b:List Int) (h:yH a b=some ()):qb ZT (.fn 135) [.i a,vl encI b] [] (.func (.func 183) [] [.ptr 0 0,.ptr 1 0]) (kAB a (kC b [])):=by
 unfold yH at h;refine Ug Tryz.func135 rfl rfl (m:=6) rfl (rs:=[.tmp 4]) rfl (l:=(kE a b [])) rfl ?_;intro B hB;refine sg fol (kAe []) (kAB a (kC b [])) ?_;refine sh fol [(4,.func (.func 183) [] [.ptr 0 0,.ptr 1 0])] ?_;refine Goes.ret ?_;exact(gh2 [.func (.func 183) [] [.ptr 0 0,.ptr 1 0]] (qbI.refl _ _))
def qbO (a:List Int) (e:Int) (b:Int) (c:Int):Option (List Int):=
 (idx a b).bind fun f=>
 (put a b (w64 (f+1))).bind fun d=>
 (idx d c).bind fun g=>
 (put d c (w64 (g-1))).bind fun h=>
 some h
theorem qgp (c:List Int) (k:Int) (a:Int) (b:Int) {o:List Int} (h:qbO c k a b=some o):qb ZT (.rd 0) [.i k,.agg [.i a,.i b]] (.loop .ready none (ofG 30 [(5,.ptr 1 0)]) qg.xp qg.x1 qg.x2::(kB c (kA c []))) (.bool true) (.loop .ready none (ofG 30 [(5,.ptr 1 0)]) qg.xp qg.x1 qg.x2::(kB o (kA o []))):=by
 unfold qbO at h;refine Goes.round (m:=30) (l0:=(kA3 [])) (l:=(kA3 [(13,.i k),(14,.agg [.i a,.i b])])) rfl rfl rfl ?_;intro B hB;refine Ul ?_;refine Goes.rg fol (kA3 [(7,.ptr 3 0)]) (.loop .ready none (ofG 30 [(5,.ptr 1 0)]) qg.xp qg.x1 qg.x2::(kB c (kA c (kW a b [])))) ?_;refine⟨_,Sub.refl _,?_⟩;refine⟨_,_,_,_,_,rfl,?_⟩;refine Ul ?_;refine Goes.block ?_;obtain⟨x2,e,h⟩:=bnd h;obtain⟨d,g,h⟩:=bnd h;refine sq (gq fol [3,4,6,7] (kA3 [(7,.ptr 3 0)]) (.loop .busy none (ofG 30 [(5,.ptr 1 0)]) qg.xp qg.x1 qg.x2::(kB c (kA d (kW a b [])))) (ac (hs (.done (.opt (qd ZT 22 (.slice 2 0 c.length c.length 1) (.i a))) (.ptr 2 ((a:Int).toNat*1+0))) (yS vo e)) (ac (hs (.run [2] (jb ZT 3 (.ptr 2 ((a:Int).toNat*1+0))) (.loop .busy none (ofG 30 [(5,.ptr 1 0)]) qg.xp qg.x1 qg.x2::(kB c (kA c (kW a b [])))) (.i x2) (.loop .busy none (ofG 30 [(5,.ptr 1 0)]) qg.xp qg.x1 qg.x2::(kB c (kA c (kW a b [])))) false) (qcW ce3 (E:=encI) (l:=c) rfl rfl e (nl rfl) rfl)) (ac (hs (.done (.opt (qd ZT 22 (.slice 2 0 c.length c.length 1) (.i a))) (.ptr 2 ((a:Int).toNat*1+0))) (yS vo e)) (ac (hs (.run [2] (qD ZT 3 (.ptr 2 ((a:Int).toNat*1+0)) (.i (w64 (x2+1)))) (.loop .busy none (ofG 30 [(5,.ptr 1 0)]) qg.xp qg.x1 qg.x2::(kB c (kA c (kW a b [])))) .undef (.loop .busy none (ofG 30 [(5,.ptr 1 0)]) qg.xp qg.x1 qg.x2::(kB c (kA d (kW a b [])))) true) (qa2 (E:=encI) (l:=c) (y:=w64 (x2+1)) rfl (show _=some 1 by kernel_rfl) rfl e rfl rfl rfl rfl rfl g rfl)) az)))) ?_);refine Goes.sub (show Sub (ofG 30 (kA3 [(7,.ptr 3 0)]),(.loop .busy none (ofG 30 [(5,.ptr 1 0)]) qg.xp qg.x1 qg.x2::(kB c (kA d (kW a b []))))) (ofG 30 (kA3 [(7,.ptr 3 0)]),(.loop .busy none (ofG 30 [(5,.ptr 1 0)]) qg.xp qg.x1 qg.x2::(kB d (kA d (kW a b [])))))from(Sub.norm [] [some 0,some 1,some 2,some 3] (by rw[hB];rfl) rfl (.kp (.kp .nil)) (.kb rfl (.loop rfl (.kp .nil)) (.kb rfl (.cells (rc (.sliceE rfl (vG g)) rn)) (.ks (.kb rfl (.same sn) .nil)))))) ?_;obtain⟨p,f,h⟩:=bnd h;obtain⟨n,j,h⟩:=bnd h;refine gq fol [3,4,6,7] [] (.loop .busy none (ofG 30 [(5,.ptr 1 0)]) qg.xp qg.x1 qg.x2::(kB d (kA n (kW a b [])))) (ac (hs (.done (.opt (qd ZT 22 (.slice 2 0 d.length d.length 1) (.i b))) (.ptr 2 ((b:Int).toNat*1+0))) (yS vo f)) (ac (hs (.run [2] (jb ZT 3 (.ptr 2 ((b:Int).toNat*1+0))) (.loop .busy none (ofG 30 [(5,.ptr 1 0)]) qg.xp qg.x1 qg.x2::(kB d (kA d (kW a b [])))) (.i p) (.loop .busy none (ofG 30 [(5,.ptr 1 0)]) qg.xp qg.x1 qg.x2::(kB d (kA d (kW a b [])))) false) (qcW ce3 (E:=encI) (l:=d) rfl rfl f (nl rfl) rfl)) (ac (hs (.done (.opt (qd ZT 22 (.slice 2 0 d.length d.length 1) (.i b))) (.ptr 2 ((b:Int).toNat*1+0))) (yS vo f)) (ac (hs (.run [2] (qD ZT 3 (.ptr 2 ((b:Int).toNat*1+0)) (.i (w64 (p-1)))) (.loop .busy none (ofG 30 [(5,.ptr 1 0)]) qg.xp qg.x1 qg.x2::(kB d (kA d (kW a b [])))) .undef (.loop .busy none (ofG 30 [(5,.ptr 1 0)]) qg.xp qg.x1 qg.x2::(kB d (kA n (kW a b [])))) true) (qa2 (E:=encI) (l:=d) (y:=w64 (p-1)) rfl (show _=some 1 by kernel_rfl) rfl f rfl rfl rfl rfl rfl j rfl)) az)))) ?_;obtain rfl:=si h;exact⟨_,(show Sub (ofG 30 [],(.loop .busy none (ofG 30 [(5,.ptr 1 0)]) qg.xp qg.x1 qg.x2::(kB d (kA n (kW a b []))))) (ofG 30 [],(.loop .busy none (ofG 30 [(5,.ptr 1 0)]) qg.xp qg.x1 qg.x2::(kB n (kA n []))))from(Sub.norm [] [some 0,some 1,some 2] (by rw[hB];rfl) rfl .nil (.kb rfl (.loop rfl (.kp .nil)) (.kb rfl (.cells (rc (.sliceE rfl (vG j)) rn)) (.ks .nil))))),⟨_,_,rfl,(qbI.refl _ _)⟩⟩
def zB (b:List Int):Nat->(List Int)->(List Int)->Int->Option (List Int)
 |0,_,_,_=>none
 |K+1,k,g,h=>
  if h<(b.length:Int)then
  (idx b h).bind fun c=>
  (qQ c).bind fun a=>
  (idx g (w64 (a-1))).bind fun d=>
  (idx g (w64 ((w64 (a-1))+1))).bind fun e=>
  (qbO k c d e).bind fun i=>
  (put g (w64 (a-1)) e).bind fun f=>
  (idx f (w64 ((w64 (a-1))+1))).bind fun l=>
  (put f (w64 ((w64 (a-1))+1)) d).bind fun j=>
  zB b K i j (w64 (h+1))
  else
  some k
def yQ (N:Nat) (a:List Int) (b:Int) (c:List Int):Option (List Int):=
 (z8 N b).bind fun d=>
 (zB c N a d 0).bind fun e=>
 some e
theorem qdi (N:Nat) (n:List Int) (d:Int) (a:List Int) {J:List Int} (h:yQ N n d a=some J):qb ZT (.fn 183) [.yld 0,.ptr 3 0,.ptr 4 0] (.loop .ready none (ofG 30 [(5,.ptr 1 0)]) qg.xp qg.x1 qg.x2::(kB n (kA n (kAB d (kC a []))))) (.tuple []) (.loop .ready none (ofG 30 [(5,.ptr 1 0)]) qg.xp qg.x1 qg.x2::(kB J (kA J (kAB d (kC a []))))):=by
 unfold yQ at h;refine Ug Tryz.func183 rfl rfl (m:=50) rfl (rs:=[]) rfl (l:=[(0,.yld 0),(1,.ptr 3 0),(2,.ptr 4 0)]) rfl ?_;intro B hB;refine Ul ?_;obtain⟨G,H,h⟩:=bnd h;refine sq (gq fol [1] ((0,.yld 0)::(2,.ptr 4 0)::(kAU G [])) (.loop .ready none (ofG 30 [(5,.ptr 1 0)]) qg.xp qg.x1 qg.x2::(kB n (kA n (kAB d (kC a (kA G [])))))) (ac (hs (.callH 106 [.i d] (.loop .ready none (ofG 30 [(5,.ptr 1 0)]) qg.xp qg.x1 qg.x2::(kB n (kA n (kAB d (kC a []))))) [] (.slice 5 0 G.length G.length 1) (.loop .ready none (ofG 30 [(5,.ptr 1 0)]) qg.xp qg.x1 qg.x2::(kB n (kA n (kAB d (kC a (kA G []))))))) (zG [] [none,none,none,none,none,some 0] (vH N d H) .nil rfl rfl (.old rfl rfl (.old rfl rfl (.old rfl rfl (.old rfl rfl (.old rfl rfl (.new rfl rfl (.same fa) rfl .nil)))))) (rc (.same nI) rn) (.slice rfl) rfl)) az) ?_);refine sh fol ((0,.yld 0)::(kAU G [(10,vl encI a),(11,.i (a.length:Int)),(12,.i 0)])) ?_;refine Goes.block ?_;obtain⟨K,g8,h⟩:=bnd h;refine Goes.imp (Q:=fun x s'=>(x= .exit 0/\ ∃I,I=K/\Sub s' (ofG 50 [],(.loop .ready none (ofG 30 [(5,.ptr 1 0)]) qg.xp qg.x1 qg.x2::(kB I (kA I (kAB d (kC a [])))))))) ?_ ?_
 ·refine Ud (fun M s=> ∃(p:List Int) (g:List Int) (q:Int),s=(ofG 50 ((0,.yld 0)::(kR g a (a.length:Int) q [])),(.loop .ready none (ofG 30 [(5,.ptr 1 0)]) qg.xp qg.x1 qg.x2::(kB p (kA p (kAB d (kC a (kA g [])))))))/\zB a M p g q=some K) ?_ (m:=N) ⟨_,_,_,rfl,g8⟩;rintro M s ⟨p,g,q,rfl,g8⟩
  cases M with
  |zero=>simp only[zB]at g8;cases g8
  |succ M=>
   rw[zB]at g8;refine sh fol ((0,.yld 0)::(kR g a (a.length:Int) q [(13,.bool (decide (q<(a.length:Int))))])) ?_;refine sq ?_;refine ihD g8 (fun L g8=>?_) (fun L g8=>?_)
   ·refine Goes.skip ?_;refine sq (Goes.block ?_);obtain⟨u,v,g8⟩:=bnd g8;refine sq (gr fol [0,1] ((0,.yld 0)::(kAU g ((6,.i u)::(10,vl encI a)::(kAD (a.length:Int) q [])))) (ac (iv vo encI v) (ac (lv 0 ce3 encI v rfl) az)) ?_);obtain⟨f,A,g8⟩:=bnd g8;refine sq (gr fol [1] ((0,.yld 0)::(kAU g (kA8 u (w64 (f-1)) ((10,vl encI a)::(kAD (a.length:Int) q []))))) (ac (cv (qp u A)) az) ?_);refine sq ?_;obtain⟨r,j,g8⟩:=bnd g8;obtain⟨t,k,g8⟩:=bnd g8;obtain⟨e,C,g8⟩:=bnd g8;refine sq (gq fol [4,5,9,10,12] ((0,.yld 0)::(kAU g ((7,.i (w64 (f-1)))::(10,vl encI a)::(kAD (a.length:Int) q [(32,.bool false)])))) (.loop .ready none (ofG 30 [(5,.ptr 1 0)]) qg.xp qg.x1 qg.x2::(kB e (kA e (kAB d (kC a (kA g [])))))) (ac (hs (.done (.opt (qd ZT 22 (.slice 5 0 g.length g.length 1) (.i (w64 (f-1))))) (.ptr 5 ((w64 (f-1):Int).toNat*1+0))) (yS vo j)) (ac (hs (.run [5] (jb ZT 3 (.ptr 5 ((w64 (f-1):Int).toNat*1+0))) (.loop .ready none (ofG 30 [(5,.ptr 1 0)]) qg.xp qg.x1 qg.x2::(kB p (kA p (kAB d (kC a (kA g [])))))) (.i r) (.loop .ready none (ofG 30 [(5,.ptr 1 0)]) qg.xp qg.x1 qg.x2::(kB p (kA p (kAB d (kC a (kA g [])))))) false) (qcW ce3 (E:=encI) (l:=g) rfl rfl j (nl rfl) rfl)) (ac (hs (.done (.opt (qd ZT 22 (.slice 5 0 g.length g.length 1) (.i (w64 ((w64 (f-1))+1))))) (.ptr 5 ((w64 ((w64 (f-1))+1):Int).toNat*1+0))) (yS vo k)) (ac (hs (.run [5] (jb ZT 3 (.ptr 5 ((w64 ((w64 (f-1))+1):Int).toNat*1+0))) (.loop .ready none (ofG 30 [(5,.ptr 1 0)]) qg.xp qg.x1 qg.x2::(kB p (kA p (kAB d (kC a (kA g [])))))) (.i t) (.loop .ready none (ofG 30 [(5,.ptr 1 0)]) qg.xp qg.x1 qg.x2::(kB p (kA p (kAB d (kC a (kA g [])))))) false) (qcW ce3 (E:=encI) (l:=g) rfl rfl k (nl rfl) rfl)) (ac (hs (.callH (.rd 0) [.i u,.agg [.i r,.i t]] (.loop .ready none (ofG 30 [(5,.ptr 1 0)]) qg.xp qg.x1 qg.x2::(kB p (kA p (kAB d (kC a (kA g [])))))) [0,1,2] (.bool true) (.loop .ready none (ofG 30 [(5,.ptr 1 0)]) qg.xp qg.x1 qg.x2::(kB e (kA e (kAB d (kC a (kA g []))))))) (qnu [some 0,some 1,some 2] [some 0,some 1,some 2,none,none,none] (qgp p u r t C) rfl (.kb rfl (.loop rfl (.kp .nil)) (.kb rfl (.cells (rc (.slice rfl) rn)) (.ks .nil))) rfl rfl (.back rfl rfl (.loop rfl (.kp .nil)) rfl (.back rfl rfl (.cells (rc (.slice rfl) rn)) rfl (.back rfl rfl (.same fa) rfl (.old rfl rfl (.old rfl rfl (.old rfl rfl .nil)))))) (rc (.same nI) (rc (.same (qA.agg sn)) rn)) (.same nB) rfl)) az))))) ?_);refine U8 (b:=false) (by kernel_rfl) (fun c=>(by cases c)) (fun _=>?_);refine Goes.skip ?_;obtain⟨D,w,g8⟩:=bnd g8;obtain⟨O,F,g8⟩:=bnd g8;obtain⟨o,z,g8⟩:=bnd g8;refine gq fol [8,9,12,13,14,15,16,17] ((0,.yld 0)::(kR g a (a.length:Int) q [])) (.loop .ready none (ofG 30 [(5,.ptr 1 0)]) qg.xp qg.x1 qg.x2::(kB e (kA e (kAB d (kC a (kA o [])))))) (ac (hs (.done (.opt (qd ZT 22 (.slice 5 0 g.length g.length 1) (.i (w64 ((w64 (f-1))+1))))) (.ptr 5 ((w64 ((w64 (f-1))+1):Int).toNat*1+0))) (yS vo k)) (ac (hs (.run [5] (jb ZT 3 (.ptr 5 ((w64 ((w64 (f-1))+1):Int).toNat*1+0))) (.loop .ready none (ofG 30 [(5,.ptr 1 0)]) qg.xp qg.x1 qg.x2::(kB e (kA e (kAB d (kC a (kA g [])))))) (.i t) (.loop .ready none (ofG 30 [(5,.ptr 1 0)]) qg.xp qg.x1 qg.x2::(kB e (kA e (kAB d (kC a (kA g [])))))) false) (qcW ce3 (E:=encI) (l:=g) rfl rfl k (nl rfl) rfl)) (ac (hs (.done (.opt (qd ZT 22 (.slice 5 0 g.length g.length 1) (.i (w64 (f-1))))) (.ptr 5 ((w64 (f-1):Int).toNat*1+0))) (yS vo j)) (ac (hs (.run [5] (jb ZT 3 (.ptr 5 ((w64 (f-1):Int).toNat*1+0))) (.loop .ready none (ofG 30 [(5,.ptr 1 0)]) qg.xp qg.x1 qg.x2::(kB e (kA e (kAB d (kC a (kA g [])))))) (.i r) (.loop .ready none (ofG 30 [(5,.ptr 1 0)]) qg.xp qg.x1 qg.x2::(kB e (kA e (kAB d (kC a (kA g [])))))) false) (qcW ce3 (E:=encI) (l:=g) rfl rfl j (nl rfl) rfl)) (ac (hs (.done (.opt (qd ZT 22 (.slice 5 0 g.length g.length 1) (.i (w64 (f-1))))) (.ptr 5 ((w64 (f-1):Int).toNat*1+0))) (yS vo j)) (ac (hs (.run [5] (qD ZT 3 (.ptr 5 ((w64 (f-1):Int).toNat*1+0)) (.i t)) (.loop .ready none (ofG 30 [(5,.ptr 1 0)]) qg.xp qg.x1 qg.x2::(kB e (kA e (kAB d (kC a (kA g [])))))) .undef (.loop .ready none (ofG 30 [(5,.ptr 1 0)]) qg.xp qg.x1 qg.x2::(kB e (kA e (kAB d (kC a (kA D [])))))) true) (qa2 (E:=encI) (l:=g) (y:=t) rfl (show _=some 1 by kernel_rfl) rfl j rfl rfl rfl rfl rfl w rfl)) (ac (hs (.done (.opt (qd ZT 22 (.slice 5 0 g.length g.length 1) (.i (w64 ((w64 (f-1))+1))))) (.ptr 5 ((w64 ((w64 (f-1))+1):Int).toNat*1+0))) (yS vo k)) (ac (hs (.run [5] (qD ZT 3 (.ptr 5 ((w64 ((w64 (f-1))+1):Int).toNat*1+0)) (.i r)) (.loop .ready none (ofG 30 [(5,.ptr 1 0)]) qg.xp qg.x1 qg.x2::(kB e (kA e (kAB d (kC a (kA D [])))))) .undef (.loop .ready none (ofG 30 [(5,.ptr 1 0)]) qg.xp qg.x1 qg.x2::(kB e (kA e (kAB d (kC a (kA o [])))))) true) (qa2 (E:=encI) (l:=D) (y:=r) rfl (show _=some 1 by kernel_rfl) rfl F rfl rfl rfl rfl rfl z rfl)) az)))))))) ?_;refine Goes.sub (show Sub (ofG 50 ((0,.yld 0)::(kR g a (a.length:Int) q [])),(.loop .ready none (ofG 30 [(5,.ptr 1 0)]) qg.xp qg.x1 qg.x2::(kB e (kA e (kAB d (kC a (kA o []))))))) (ofG 50 ((0,.yld 0)::(kR o a (a.length:Int) q [])),(.loop .ready none (ofG 30 [(5,.ptr 1 0)]) qg.xp qg.x1 qg.x2::(kB e (kA e (kAB d (kC a (kA o [])))))))from(Sub.norm [] [some 0,some 1,some 2,some 3,some 4,some 5] (by rw[hB];rfl) rfl (.keep (.yld rfl) (.keep (.sliceE rfl ((vG w).trans (vG z))) (.keep (.same (qf encI _)) (.keep (.same nI) (.keep (.same nI) .nil))))) (.kb rfl (.loop rfl (.kp .nil)) (.kb rfl (.cells (rc (.slice rfl) rn)) (.ks (.kb rfl (.same sn) (.kb rfl (.same sn) (.ks .nil)))))))) ?_;refine gh fol ((0,.yld 0)::(kR o a (a.length:Int) (w64 (q+1)) [])) ?_;exact⟨M,(ofG 50 ((0,.yld 0)::(kR o a (a.length:Int) (w64 (q+1)) [])),(.loop .ready none (ofG 30 [(5,.ptr 1 0)]) qg.xp qg.x1 qg.x2::(kB e (kA e (kAB d (kC a (kA o []))))))),Nat.lt_succ_self _,(Sub.refl _),_,_,_,rfl,g8⟩
   refine Goes.exit ?_;obtain rfl:=si g8;exact⟨rfl,_,rfl,(Sub.norm [] [some 0,some 1,some 2,some 3,some 4] (by rw[hB];rfl) rfl .nil (.kb rfl (.loop rfl (.kp .nil)) (.kb rfl (.cells (rc (.slice rfl) rn)) (.ks (.kb rfl (.same sn) (.kb rfl (.same sn) .nil))))))⟩
 rintro x s' ⟨rfl,I,rfl,hsub⟩;obtain rfl:=si h;exact⟨_,hsub,(gh2 [] (qbI.refl _ _))⟩
def qbB (N:Nat) (n:Int) (w:List Int):Option (List Int):=
 (z8 N n).bind fun a=>
 (yH n w).bind fun _=>
 (yQ N a n w).bind fun b=>
 some b
theorem qfo (N:Nat) (n:Int) (w:List Int) {res:List Int} (h:qbB N n w=some res):qb ZT (.fn 71) [.i n,vl encI w] [] (vl encI res) []:=by
 unfold qbB at h;refine Ub Tryz.func71 rfl rfl (m:=30) rfl (rs:=[.tmp 4]) rfl (l:=(kE n w [])) rfl ?_;refine sh fol (kE n w []) ?_;obtain⟨a,c,h⟩:=bnd h;refine sq (gq fol [1] (kE n w (kA3 [])) (kA a (kAF a [])) (ac (hs (.callH 106 [.i n] [] [] (.slice 0 0 a.length a.length 1) (kA a [])) (zG [] [some 0] (vH N n c) .nil rfl rfl (.new rfl rfl (.same fa) rfl .nil) (rc (.same nI) rn) (.slice rfl) rfl)) az) ?_);refine sq ?_;obtain⟨_,d,h⟩:=bnd h;refine sq (gq fol [2] (kA3 [(12,.func (.func 183) [] [.ptr 2 0,.ptr 3 0])]) (kA a (kAF a (kAB n (kC w [])))) (ac (hs (.callH 135 [.i n,vl encI w] (kA a (kAF a [])) [] (.func (.func 183) [] kAj) (kA a (kAF a (kAB n (kC w []))))) (zG [] [none,none,some 0,some 1] (qbw n w d) .nil rfl rfl (.old rfl rfl (.old rfl rfl (.new rfl rfl (.cells (rc (.same nI) rn)) rfl (.new rfl rfl (.cells (rc (.same (qf encI _)) rn)) rfl .nil)))) (rc (.same nI) (rc (.same (qf encI _)) rn)) (.funcL (sn) (rc (.ptr rfl) (rc (.ptr rfl) rn))) rfl)) az) ?_);refine Goes.block ?_;obtain⟨b,e,h⟩:=bnd h;refine Goes.range fol rfl (gf:=183) (first:=[]) (captured:=kAj) (v:= .tuple []) (A2:=(kA b (kAF b (kAB n (kC w [.loop .ready none (ofG 30 [(5,.ptr 1 0)]) qg.xp qg.x1 qg.x2]))))) (s':=(ofG 30 (kA3 [(12,.func (.func 183) [] [.ptr 2 0,.ptr 3 0])]),(kA b (kAF b (kAB n (kC w [.loop .exhausted none (ofG 30 [(5,.ptr 1 0)]) qg.xp qg.x1 qg.x2])))))) (x:= .normal) (by kernel_rfl) (by kernel_rfl) (qiG (show(Obl.callH 183 (.yld 4::kAj) (kA a (kAF a (kAB n (kC w [.loop .ready none (ofG 30 [(5,.ptr 1 0),(12,.func (.func 183) [] [.ptr 2 0,.ptr 3 0])]) qg.xp qg.x1 qg.x2])))) [4,1,0,2,3] (.tuple []) (kA b (kAF b (kAB n (kC w [.loop .ready none (ofG 30 [(5,.ptr 1 0)]) qg.xp qg.x1 qg.x2]))))).Holds ZT from zG [some 4,some 1,some 0,some 2,some 3] [some 2,some 1,some 3,some 4,some 0] (qdi N a n w e) (.kb rfl (.loop rfl (.kp (.drop .nil))) (.kb rfl (.cells (rc (.slice rfl) rn)) (.ks (.kb rfl (.cells (rc (.same nI) rn)) (.kb rfl (.cells (rc (.same (qf encI _)) rn)) .nil))))) rfl rfl (.back rfl rfl (.same fa) rfl (.back rfl rfl (.cells (rc (.slice rfl) rn)) rfl (.back rfl rfl (.cells (rc (.same nI) rn)) rfl (.back rfl rfl (.cells (rc (.same (qf encI _)) rn)) rfl (.back rfl rfl (.loop rfl (.kp .nil)) rfl .nil))))) (rc (.yld rfl) (rc (.ptr rfl) (rc (.ptr rfl) rn))) (.same (qA.tuple sn)) rfl)) (by kernel_rfl) ?_;refine Goes.sub (show Sub (ofG 30 (kA3 [(12,.func (.func 183) [] [.ptr 2 0,.ptr 3 0])]),(kA b (kAF b (kAB n (kC w [.loop .exhausted none (ofG 30 [(5,.ptr 1 0)]) qg.xp qg.x1 qg.x2]))))) (ofG 30 (kAr [(12,.func (.func 183) [] [.ptr 2 0,.ptr 3 0])]),(kT b (kA b (kAB n (kC w [])))))from(Sub.norm [] [some 1,some 0,some 2,some 3] rfl rfl (.kp (.keep (.funcL (sn) (rc (.ptr rfl) (rc (.ptr rfl) rn))) .nil)) (.kb rfl (.cells (rc (.slice rfl) rn)) (.ks (.kb rfl (.same sn) (.kb rfl (.same sn) .nil)))))) ?_;refine sh fol [(4,.slice 1 0 b.length b.length 1)] ?_;refine Goes.ret ?_;obtain rfl:=si h;exact(gw2 [.slice 1 0 b.length b.length 1] (Ut (Fz.sl (E:=encI) rfl rfl (nl rfl))))
def qaT (c:List (List Int)) (d:Int) (a:Int) (b:Int):Option (List (List Int)):=
 (idx c a).bind fun g=>
 (idx g b).bind fun j=>
 (zW d).bind fun k=>
 (put g b (w64 (j+k))).bind fun h=>
 (idx (kz c a h) b).bind fun i=>
 (idx i a).bind fun l=>
 (zW d).bind fun e=>
 (put i a (w64 (l+e))).bind fun f=>
 some (kz (kz c a h) b f)
theorem qgn (d:List (List Int)) (j:Int) (a:Int) (e:Int) {z:List (List Int)} (h:qaT d j a e=some z):qb ZT (.rd 0) [.i j,.agg [.i a,.i e]] (.loop .ready none (ofG 54 [(5,.ptr 1 0)]) qc.xp qc.x1 qc.x2::(kB d [bg encI d])) (.bool true) (.loop .ready none (ofG 54 [(5,.ptr 1 0)]) qc.xp qc.x1 qc.x2::(kB z [bg encI z])):=by
 unfold qaT at h;refine Goes.round (m:=54) (l0:=(kA3 [])) (l:=(kA3 [(25,.i j),(26,.agg [.i a,.i e])])) rfl rfl rfl ?_;intro B hB;refine Ul ?_;refine sh fol (kA3 [(7,.i j),(26,.agg [.i a,.i e])]) ?_;refine Goes.rg fol (kAV j) (.loop .ready none (ofG 54 [(5,.ptr 1 0)]) qc.xp qc.x1 qc.x2::(kB d (bg encI d::(kW a e [])))) ?_;refine⟨_,Sub.refl _,?_⟩;refine⟨_,_,_,_,_,rfl,?_⟩;refine Ul ?_;refine Goes.block ?_;obtain⟨k,p,h⟩:=bnd h;refine sq (Goes.sub (s':=(ofG 54 (kAV j),(.loop .busy none (ofG 54 [(5,.ptr 1 0)]) qc.xp qc.x1 qc.x2::(kB d (.bag ((d.map (jh encI)).set (a:Int).toNat (.av (.gslice 4 k.length 1)))::(kW a e (kA k []))))))) (Uy (E:=encI) (b:=2) rfl p) ?_);obtain⟨A,q,h⟩:=bnd h;obtain⟨D,w,h⟩:=bnd h;obtain⟨f,u,h⟩:=bnd h;refine gq fol [3,4,7,8,10,12,13] (kAV j) (.loop .busy none (ofG 54 [(5,.ptr 1 0)]) qc.xp qc.x1 qc.x2::(kB d (.bag ((d.map (jh encI)).set (a:Int).toNat (.av (.gslice 4 k.length 1)))::(kW a e (kA f []))))) (ac (hs (.done (.opt (qd ZT 33 (.slice 2 0 d.length d.length 1) (.i a))) (.ptr 2 ((a:Int).toNat*1+0))) (yS qmQ p)) (ac (hs (.run [2] (jb ZT 22 (.ptr 2 ((a:Int).toNat*1+0))) (.loop .busy none (ofG 54 [(5,.ptr 1 0)]) qc.xp qc.x1 qc.x2::(kB d (.bag ((d.map (jh encI)).set (a:Int).toNat (.av (.gslice 4 k.length 1)))::(kW a e (kA k []))))) (.gslice 4 k.length 1) (.loop .busy none (ofG 54 [(5,.ptr 1 0)]) qc.xp qc.x1 qc.x2::(kB d (.bag ((d.map (jh encI)).set (a:Int).toNat (.av (.gslice 4 k.length 1)))::(kW a e (kA k []))))) false) (qki ce22 rfl (at_set p))) (ac (hs (.done (.opt (qd ZT 22 (.gslice 4 k.length 1) (.i e))) (.ptr 4 ((e:Int).toNat*1+0))) (qaR vo q)) (ac (hs (.run [4] (jb ZT 3 (.ptr 4 ((e:Int).toNat*1+0))) (.loop .busy none (ofG 54 [(5,.ptr 1 0)]) qc.xp qc.x1 qc.x2::(kB d (.bag ((d.map (jh encI)).set (a:Int).toNat (.av (.gslice 4 k.length 1)))::(kW a e (kA k []))))) (.i A) (.loop .busy none (ofG 54 [(5,.ptr 1 0)]) qc.xp qc.x1 qc.x2::(kB d (.bag ((d.map (jh encI)).set (a:Int).toNat (.av (.gslice 4 k.length 1)))::(kW a e (kA k []))))) false) (qcW ce3 (E:=encI) (l:=k) rfl rfl q (nl rfl) rfl)) (ac (cv (zT j w)) (ac (hs (.done (.opt (qd ZT 22 (.gslice 4 k.length 1) (.i e))) (.ptr 4 ((e:Int).toNat*1+0))) (qaR vo q)) (ac (hs (.run [4] (qD ZT 3 (.ptr 4 ((e:Int).toNat*1+0)) (.i (w64 (A+D)))) (.loop .busy none (ofG 54 [(5,.ptr 1 0)]) qc.xp qc.x1 qc.x2::(kB d (.bag ((d.map (jh encI)).set (a:Int).toNat (.av (.gslice 4 k.length 1)))::(kW a e (kA k []))))) .undef (.loop .busy none (ofG 54 [(5,.ptr 1 0)]) qc.xp qc.x1 qc.x2::(kB d (.bag ((d.map (jh encI)).set (a:Int).toNat (.av (.gslice 4 k.length 1)))::(kW a e (kA f []))))) true) (qa2 (E:=encI) (l:=k) (y:=w64 (A+D)) rfl (show _=some 1 by kernel_rfl) rfl q rfl rfl rfl rfl rfl u rfl)) az))))))) ?_;refine Goes.sub ((show Sub (ofG 54 (kAV j),(.loop .busy none (ofG 54 [(5,.ptr 1 0)]) qc.xp qc.x1 qc.x2::(kB d (.bag ((d.map (jh encI)).set (a:Int).toNat (.av (.gslice 4 k.length 1)))::(kW a e (kA f [])))))) (ofG 54 (kAV j),(.loop .busy none (ofG 54 [(5,.ptr 1 0)]) qc.xp qc.x1 qc.x2::(kB d (bg encI (kz d a f)::(kW a e [.dead])))))from(Ur (E:=encI) (b:=2) (c:=4) (Nat.ne_of_beq_eq_false rfl) rfl rfl p .g (vG u))).trans (show Sub (ofG 54 (kAV j),(.loop .busy none (ofG 54 [(5,.ptr 1 0)]) qc.xp qc.x1 qc.x2::(kB d (bg encI (kz d a f)::(kW a e [.dead]))))) (ofG 54 (kAV j),(.loop .busy none (ofG 54 [(5,.ptr 1 0)]) qc.xp qc.x1 qc.x2::(kB (kz d a f) (bg encI (kz d a f)::(kW a e [])))))from(Sub.norm [] [some 0,some 1,some 2,some 3] (by rw[hB];rfl) rfl (.kp (.keep (.same nI) (.kp .nil))) (.kb rfl (.loop rfl (.kp .nil)) (.kb rfl (.cells (rc (.sliceE rfl (qcC _ _ _)) rn)) (.kb rfl yh.bgs (.kb rfl (.same sn) .nil))))))) ?_;obtain⟨n,r,h⟩:=bnd h;refine Goes.sub (s':=(ofG 54 (kAV j),(.loop .busy none (ofG 54 [(5,.ptr 1 0)]) qc.xp qc.x1 qc.x2::(kB (kz d a f) (.bag (((kz d a f).map (jh encI)).set (e:Int).toNat (.av (.gslice 4 n.length 1)))::(kW a e (kA n []))))))) (Uy (E:=encI) (b:=2) rfl r) ?_;obtain⟨C,s,h⟩:=bnd h;obtain⟨x,v,h⟩:=bnd h;obtain⟨o,t,h⟩:=bnd h;refine gq fol [3,4,7,8,10,12,13] [] (.loop .busy none (ofG 54 [(5,.ptr 1 0)]) qc.xp qc.x1 qc.x2::(kB (kz d a f) (.bag (((kz d a f).map (jh encI)).set (e:Int).toNat (.av (.gslice 4 n.length 1)))::(kW a e (kA o []))))) (ac (hs (.done (.opt (qd ZT 33 (.slice 2 0 (kz d a f).length (kz d a f).length 1) (.i e))) (.ptr 2 ((e:Int).toNat*1+0))) (yS qmQ r)) (ac (hs (.run [2] (jb ZT 22 (.ptr 2 ((e:Int).toNat*1+0))) (.loop .busy none (ofG 54 [(5,.ptr 1 0)]) qc.xp qc.x1 qc.x2::(kB (kz d a f) (.bag (((kz d a f).map (jh encI)).set (e:Int).toNat (.av (.gslice 4 n.length 1)))::(kW a e (kA n []))))) (.gslice 4 n.length 1) (.loop .busy none (ofG 54 [(5,.ptr 1 0)]) qc.xp qc.x1 qc.x2::(kB (kz d a f) (.bag (((kz d a f).map (jh encI)).set (e:Int).toNat (.av (.gslice 4 n.length 1)))::(kW a e (kA n []))))) false) (qki ce22 rfl (at_set r))) (ac (hs (.done (.opt (qd ZT 22 (.gslice 4 n.length 1) (.i a))) (.ptr 4 ((a:Int).toNat*1+0))) (qaR vo s)) (ac (hs (.run [4] (jb ZT 3 (.ptr 4 ((a:Int).toNat*1+0))) (.loop .busy none (ofG 54 [(5,.ptr 1 0)]) qc.xp qc.x1 qc.x2::(kB (kz d a f) (.bag (((kz d a f).map (jh encI)).set (e:Int).toNat (.av (.gslice 4 n.length 1)))::(kW a e (kA n []))))) (.i C) (.loop .busy none (ofG 54 [(5,.ptr 1 0)]) qc.xp qc.x1 qc.x2::(kB (kz d a f) (.bag (((kz d a f).map (jh encI)).set (e:Int).toNat (.av (.gslice 4 n.length 1)))::(kW a e (kA n []))))) false) (qcW ce3 (E:=encI) (l:=n) rfl rfl s (nl rfl) rfl)) (ac (cv (zT j v)) (ac (hs (.done (.opt (qd ZT 22 (.gslice 4 n.length 1) (.i a))) (.ptr 4 ((a:Int).toNat*1+0))) (qaR vo s)) (ac (hs (.run [4] (qD ZT 3 (.ptr 4 ((a:Int).toNat*1+0)) (.i (w64 (C+x)))) (.loop .busy none (ofG 54 [(5,.ptr 1 0)]) qc.xp qc.x1 qc.x2::(kB (kz d a f) (.bag (((kz d a f).map (jh encI)).set (e:Int).toNat (.av (.gslice 4 n.length 1)))::(kW a e (kA n []))))) .undef (.loop .busy none (ofG 54 [(5,.ptr 1 0)]) qc.xp qc.x1 qc.x2::(kB (kz d a f) (.bag (((kz d a f).map (jh encI)).set (e:Int).toNat (.av (.gslice 4 n.length 1)))::(kW a e (kA o []))))) true) (qa2 (E:=encI) (l:=n) (y:=w64 (C+x)) rfl (show _=some 1 by kernel_rfl) rfl s rfl rfl rfl rfl rfl t rfl)) az))))))) ?_;obtain rfl:=si h;exact⟨_,((show Sub (ofG 54 [],(.loop .busy none (ofG 54 [(5,.ptr 1 0)]) qc.xp qc.x1 qc.x2::(kB (kz d a f) (.bag (((kz d a f).map (jh encI)).set (e:Int).toNat (.av (.gslice 4 n.length 1)))::(kW a e (kA o [])))))) (ofG 54 [],(.loop .busy none (ofG 54 [(5,.ptr 1 0)]) qc.xp qc.x1 qc.x2::(kB (kz d a f) (bg encI (kz (kz d a f) e o)::(kW a e [.dead])))))from(Ur (E:=encI) (b:=2) (c:=4) (Nat.ne_of_beq_eq_false rfl) rfl rfl r .g (vG t))).trans (show Sub (ofG 54 [],(.loop .busy none (ofG 54 [(5,.ptr 1 0)]) qc.xp qc.x1 qc.x2::(kB (kz d a f) (bg encI (kz (kz d a f) e o)::(kW a e [.dead]))))) (ofG 54 [],(.loop .busy none (ofG 54 [(5,.ptr 1 0)]) qc.xp qc.x1 qc.x2::(kB (kz (kz d a f) e o) [bg encI (kz (kz d a f) e o)])))from(Sub.norm [] [some 0,some 1,some 2] (by rw[hB];rfl) rfl .nil (.kb rfl (.loop rfl (.kp .nil)) (.kb rfl (.cells (rc (.sliceE rfl (qcC _ _ _)) rn)) (.kb rfl yh.bgs .nil)))))),⟨_,_,rfl,(qbI.refl _ _)⟩⟩
def zz (b:List Int):Nat->(List (List Int))->(List Int)->Int->Option (List (List Int))
 |0,_,_,_=>none
 |K+1,k,g,h=>
  if h<(b.length:Int)then
  (idx b h).bind fun c=>
  (qQ c).bind fun a=>
  (idx g (w64 (a-1))).bind fun d=>
  (idx g (w64 ((w64 (a-1))+1))).bind fun e=>
  (qaT k c d e).bind fun i=>
  (put g (w64 (a-1)) e).bind fun f=>
  (idx f (w64 ((w64 (a-1))+1))).bind fun l=>
  (put f (w64 ((w64 (a-1))+1)) d).bind fun j=>
  zz b K i j (w64 (h+1))
  else
  some k
def yL (N:Nat) (a:List (List Int)) (b:Int) (c:List Int):Option (List (List Int)):=
 (z8 N b).bind fun d=>
 (zz c N a d 0).bind fun e=>
 some e
theorem qdm (N:Nat) (n:List (List Int)) (d:Int) (a:List Int) {J:List (List Int)} (h:yL N n d a=some J):qb ZT (.fn 183) [.yld 0,.ptr 3 0,.ptr 4 0] (.loop .ready none (ofG 54 [(5,.ptr 1 0)]) qc.xp qc.x1 qc.x2::(kB n (bg encI n::(kAB d (kC a []))))) (.tuple []) (.loop .ready none (ofG 54 [(5,.ptr 1 0)]) qc.xp qc.x1 qc.x2::(kB J (bg encI J::(kAB d (kC a []))))):=by
 unfold yL at h;refine Ug Tryz.func183 rfl rfl (m:=50) rfl (rs:=[]) rfl (l:=[(0,.yld 0),(1,.ptr 3 0),(2,.ptr 4 0)]) rfl ?_;intro B hB;refine Ul ?_;obtain⟨G,H,h⟩:=bnd h;refine sq (gq fol [1] ((0,.yld 0)::(2,.ptr 4 0)::(kAU G [])) (.loop .ready none (ofG 54 [(5,.ptr 1 0)]) qc.xp qc.x1 qc.x2::(kB n (bg encI n::(kAB d (kC a (kA G [])))))) (ac (hs (.callH 106 [.i d] (.loop .ready none (ofG 54 [(5,.ptr 1 0)]) qc.xp qc.x1 qc.x2::(kB n (bg encI n::(kAB d (kC a []))))) [] (.slice 5 0 G.length G.length 1) (.loop .ready none (ofG 54 [(5,.ptr 1 0)]) qc.xp qc.x1 qc.x2::(kB n (bg encI n::(kAB d (kC a (kA G []))))))) (zG [] [none,none,none,none,none,some 0] (vH N d H) .nil rfl rfl (.old rfl rfl (.old rfl rfl (.old rfl rfl (.old rfl rfl (.old rfl rfl (.new rfl rfl (.same fa) rfl .nil)))))) (rc (.same nI) rn) (.slice rfl) rfl)) az) ?_);refine sh fol ((0,.yld 0)::(kAU G [(10,vl encI a),(11,.i (a.length:Int)),(12,.i 0)])) ?_;refine Goes.block ?_;obtain⟨K,g8,h⟩:=bnd h;refine Goes.imp (Q:=fun x s'=>(x= .exit 0/\ ∃I,I=K/\Sub s' (ofG 50 [],(.loop .ready none (ofG 54 [(5,.ptr 1 0)]) qc.xp qc.x1 qc.x2::(kB I (bg encI I::(kAB d (kC a [])))))))) ?_ ?_
 ·refine Ud (fun M s=> ∃(p:List (List Int)) (g:List Int) (q:Int),s=(ofG 50 ((0,.yld 0)::(kR g a (a.length:Int) q [])),(.loop .ready none (ofG 54 [(5,.ptr 1 0)]) qc.xp qc.x1 qc.x2::(kB p (bg encI p::(kAB d (kC a (kA g [])))))))/\zz a M p g q=some K) ?_ (m:=N) ⟨_,_,_,rfl,g8⟩;rintro M s ⟨p,g,q,rfl,g8⟩
  cases M with
  |zero=>simp only[zz]at g8;cases g8
  |succ M=>
   rw[zz]at g8;refine sh fol ((0,.yld 0)::(kR g a (a.length:Int) q [(13,.bool (decide (q<(a.length:Int))))])) ?_;refine sq ?_;refine ihD g8 (fun L g8=>?_) (fun L g8=>?_)
   ·refine Goes.skip ?_;refine sq (Goes.block ?_);obtain⟨u,v,g8⟩:=bnd g8;refine sq (gr fol [0,1] ((0,.yld 0)::(kAU g ((6,.i u)::(10,vl encI a)::(kAD (a.length:Int) q [])))) (ac (iv vo encI v) (ac (lv 0 ce3 encI v rfl) az)) ?_);obtain⟨f,A,g8⟩:=bnd g8;refine sq (gr fol [1] ((0,.yld 0)::(kAU g (kA8 u (w64 (f-1)) ((10,vl encI a)::(kAD (a.length:Int) q []))))) (ac (cv (qp u A)) az) ?_);refine sq ?_;obtain⟨r,j,g8⟩:=bnd g8;obtain⟨t,k,g8⟩:=bnd g8;obtain⟨e,C,g8⟩:=bnd g8;refine sq (gq fol [4,5,9,10,12] ((0,.yld 0)::(kAU g ((7,.i (w64 (f-1)))::(10,vl encI a)::(kAD (a.length:Int) q [(32,.bool false)])))) (.loop .ready none (ofG 54 [(5,.ptr 1 0)]) qc.xp qc.x1 qc.x2::(kB e (bg encI e::(kAB d (kC a (kA g [])))))) (ac (hs (.done (.opt (qd ZT 22 (.slice 5 0 g.length g.length 1) (.i (w64 (f-1))))) (.ptr 5 ((w64 (f-1):Int).toNat*1+0))) (yS vo j)) (ac (hs (.run [5] (jb ZT 3 (.ptr 5 ((w64 (f-1):Int).toNat*1+0))) (.loop .ready none (ofG 54 [(5,.ptr 1 0)]) qc.xp qc.x1 qc.x2::(kB p (bg encI p::(kAB d (kC a (kA g [])))))) (.i r) (.loop .ready none (ofG 54 [(5,.ptr 1 0)]) qc.xp qc.x1 qc.x2::(kB p (bg encI p::(kAB d (kC a (kA g [])))))) false) (qcW ce3 (E:=encI) (l:=g) rfl rfl j (nl rfl) rfl)) (ac (hs (.done (.opt (qd ZT 22 (.slice 5 0 g.length g.length 1) (.i (w64 ((w64 (f-1))+1))))) (.ptr 5 ((w64 ((w64 (f-1))+1):Int).toNat*1+0))) (yS vo k)) (ac (hs (.run [5] (jb ZT 3 (.ptr 5 ((w64 ((w64 (f-1))+1):Int).toNat*1+0))) (.loop .ready none (ofG 54 [(5,.ptr 1 0)]) qc.xp qc.x1 qc.x2::(kB p (bg encI p::(kAB d (kC a (kA g [])))))) (.i t) (.loop .ready none (ofG 54 [(5,.ptr 1 0)]) qc.xp qc.x1 qc.x2::(kB p (bg encI p::(kAB d (kC a (kA g [])))))) false) (qcW ce3 (E:=encI) (l:=g) rfl rfl k (nl rfl) rfl)) (ac (hs (.callH (.rd 0) [.i u,.agg [.i r,.i t]] (.loop .ready none (ofG 54 [(5,.ptr 1 0)]) qc.xp qc.x1 qc.x2::(kB p (bg encI p::(kAB d (kC a (kA g [])))))) [0,1,2] (.bool true) (.loop .ready none (ofG 54 [(5,.ptr 1 0)]) qc.xp qc.x1 qc.x2::(kB e (bg encI e::(kAB d (kC a (kA g []))))))) (qnu [some 0,some 1,some 2] [some 0,some 1,some 2,none,none,none] (qgn p u r t C) rfl (.kb rfl (.loop rfl (.kp .nil)) (.kb rfl (.cells (rc (.slice rfl) rn)) (.kb rfl yh.bgs .nil))) rfl rfl (.back rfl rfl (.loop rfl (.kp .nil)) rfl (.back rfl rfl (.cells (rc (.slice rfl) rn)) rfl (.back rfl rfl yh.bgs rfl (.old rfl rfl (.old rfl rfl (.old rfl rfl .nil)))))) (rc (.same nI) (rc (.same (qA.agg sn)) rn)) (.same nB) rfl)) az))))) ?_);refine U8 (b:=false) (by kernel_rfl) (fun c=>(by cases c)) (fun _=>?_);refine Goes.skip ?_;obtain⟨D,w,g8⟩:=bnd g8;obtain⟨O,F,g8⟩:=bnd g8;obtain⟨o,z,g8⟩:=bnd g8;refine gq fol [8,9,12,13,14,15,16,17] ((0,.yld 0)::(kR g a (a.length:Int) q [])) (.loop .ready none (ofG 54 [(5,.ptr 1 0)]) qc.xp qc.x1 qc.x2::(kB e (bg encI e::(kAB d (kC a (kA o [])))))) (ac (hs (.done (.opt (qd ZT 22 (.slice 5 0 g.length g.length 1) (.i (w64 ((w64 (f-1))+1))))) (.ptr 5 ((w64 ((w64 (f-1))+1):Int).toNat*1+0))) (yS vo k)) (ac (hs (.run [5] (jb ZT 3 (.ptr 5 ((w64 ((w64 (f-1))+1):Int).toNat*1+0))) (.loop .ready none (ofG 54 [(5,.ptr 1 0)]) qc.xp qc.x1 qc.x2::(kB e (bg encI e::(kAB d (kC a (kA g [])))))) (.i t) (.loop .ready none (ofG 54 [(5,.ptr 1 0)]) qc.xp qc.x1 qc.x2::(kB e (bg encI e::(kAB d (kC a (kA g [])))))) false) (qcW ce3 (E:=encI) (l:=g) rfl rfl k (nl rfl) rfl)) (ac (hs (.done (.opt (qd ZT 22 (.slice 5 0 g.length g.length 1) (.i (w64 (f-1))))) (.ptr 5 ((w64 (f-1):Int).toNat*1+0))) (yS vo j)) (ac (hs (.run [5] (jb ZT 3 (.ptr 5 ((w64 (f-1):Int).toNat*1+0))) (.loop .ready none (ofG 54 [(5,.ptr 1 0)]) qc.xp qc.x1 qc.x2::(kB e (bg encI e::(kAB d (kC a (kA g [])))))) (.i r) (.loop .ready none (ofG 54 [(5,.ptr 1 0)]) qc.xp qc.x1 qc.x2::(kB e (bg encI e::(kAB d (kC a (kA g [])))))) false) (qcW ce3 (E:=encI) (l:=g) rfl rfl j (nl rfl) rfl)) (ac (hs (.done (.opt (qd ZT 22 (.slice 5 0 g.length g.length 1) (.i (w64 (f-1))))) (.ptr 5 ((w64 (f-1):Int).toNat*1+0))) (yS vo j)) (ac (hs (.run [5] (qD ZT 3 (.ptr 5 ((w64 (f-1):Int).toNat*1+0)) (.i t)) (.loop .ready none (ofG 54 [(5,.ptr 1 0)]) qc.xp qc.x1 qc.x2::(kB e (bg encI e::(kAB d (kC a (kA g [])))))) .undef (.loop .ready none (ofG 54 [(5,.ptr 1 0)]) qc.xp qc.x1 qc.x2::(kB e (bg encI e::(kAB d (kC a (kA D [])))))) true) (qa2 (E:=encI) (l:=g) (y:=t) rfl (show _=some 1 by kernel_rfl) rfl j rfl rfl rfl rfl rfl w rfl)) (ac (hs (.done (.opt (qd ZT 22 (.slice 5 0 g.length g.length 1) (.i (w64 ((w64 (f-1))+1))))) (.ptr 5 ((w64 ((w64 (f-1))+1):Int).toNat*1+0))) (yS vo k)) (ac (hs (.run [5] (qD ZT 3 (.ptr 5 ((w64 ((w64 (f-1))+1):Int).toNat*1+0)) (.i r)) (.loop .ready none (ofG 54 [(5,.ptr 1 0)]) qc.xp qc.x1 qc.x2::(kB e (bg encI e::(kAB d (kC a (kA D [])))))) .undef (.loop .ready none (ofG 54 [(5,.ptr 1 0)]) qc.xp qc.x1 qc.x2::(kB e (bg encI e::(kAB d (kC a (kA o [])))))) true) (qa2 (E:=encI) (l:=D) (y:=r) rfl (show _=some 1 by kernel_rfl) rfl F rfl rfl rfl rfl rfl z rfl)) az)))))))) ?_;refine Goes.sub (show Sub (ofG 50 ((0,.yld 0)::(kR g a (a.length:Int) q [])),(.loop .ready none (ofG 54 [(5,.ptr 1 0)]) qc.xp qc.x1 qc.x2::(kB e (bg encI e::(kAB d (kC a (kA o []))))))) (ofG 50 ((0,.yld 0)::(kR o a (a.length:Int) q [])),(.loop .ready none (ofG 54 [(5,.ptr 1 0)]) qc.xp qc.x1 qc.x2::(kB e (bg encI e::(kAB d (kC a (kA o [])))))))from(Sub.norm [] [some 0,some 1,some 2,some 3,some 4,some 5] (by rw[hB];rfl) rfl (.keep (.yld rfl) (.keep (.sliceE rfl ((vG w).trans (vG z))) (.keep (.same (qf encI _)) (.keep (.same nI) (.keep (.same nI) .nil))))) (.kb rfl (.loop rfl (.kp .nil)) (.kb rfl (.cells (rc (.slice rfl) rn)) (.kb rfl yh.bgs (.kb rfl (.same sn) (.kb rfl (.same sn) (.ks .nil)))))))) ?_;refine gh fol ((0,.yld 0)::(kR o a (a.length:Int) (w64 (q+1)) [])) ?_;exact⟨M,(ofG 50 ((0,.yld 0)::(kR o a (a.length:Int) (w64 (q+1)) [])),(.loop .ready none (ofG 54 [(5,.ptr 1 0)]) qc.xp qc.x1 qc.x2::(kB e (bg encI e::(kAB d (kC a (kA o []))))))),Nat.lt_succ_self _,(Sub.refl _),_,_,_,rfl,g8⟩
   refine Goes.exit ?_;obtain rfl:=si g8;exact⟨rfl,_,rfl,(Sub.norm [] [some 0,some 1,some 2,some 3,some 4] (by rw[hB];rfl) rfl .nil (.kb rfl (.loop rfl (.kp .nil)) (.kb rfl (.cells (rc (.slice rfl) rn)) (.kb rfl yh.bgs (.kb rfl (.same sn) (.kb rfl (.same sn) .nil))))))⟩
 rintro x s' ⟨rfl,I,rfl,hsub⟩;obtain rfl:=si h;exact⟨_,hsub,(gh2 [] (qbI.refl _ _))⟩
def yZ (n:Int) (c:List (List Int)):Nat->(List (List Int))->Int->Option (List (List Int))
 |0,_,_=>none
 |K+1,b,a=>
  if a<(c.length:Int)then
  (mk 8 n 0).bind fun d=>
  (idx b a).bind fun e=>
  yZ n c K (kz b a d) (w64 (a+1))
  else
  some b
def qbD (N:Nat) (n:Int) (w:List Int):Option (List (List Int)):=
 (mk 24 n ([]:List Int)).bind fun b=>
 (yZ n b N b 0).bind fun c=>
 (yH n w).bind fun _=>
 (yL N c n w).bind fun a=>
 some a
theorem qfn (N:Nat) (n:Int) (w:List Int) {res:List (List Int)} (h:qbD N n w=some res):qb ZT (.fn 72) [.i n,vl encI w] [] (vl (qm encI) res) []:=by
 unfold qbD at h;refine Ub Tryz.func72 rfl rfl (m:=54) rfl (rs:=[.tmp 4]) rfl (l:=(kE n w [])) rfl ?_;refine sh fol (kE n w []) ?_;obtain⟨f,o,h⟩:=bnd h;refine sq (gq fol [1] (kE n w (kA3 [])) (.cells (f.flatMap (qi0 encI).c)::(kAF f [])) (ac (hs (.run [] (vR ZT 33 (.i n) (.i n)) [] (.slice 0 0 f.length f.length 1) [.cells (f.flatMap (qi0 encI).c)] false) (qfC qmQ (E:=(qi0 encI)) (z:=[]) rfl (by kernel_rfl) o rfl)) az) ?_);refine Goes.sub (show Sub (ofG 54 (kE n w (kA3 [])),(.cells (f.flatMap (qi0 encI).c)::(kAF f []))) (ofG 54 (kE n w (kA3 [])),(bg encI f::(kAF f [])))from(Sub.bagNil1 (E:=encI) (b:=0) rfl o)) ?_;refine sq ?_;refine sh fol (kE n w (kA3 [(12,.i (f.length:Int)),(13,.i 0)])) ?_;refine Goes.block ?_;obtain⟨t,g5,h⟩:=bnd h;refine Goes.imp (Q:=fun x s'=>(x= .exit 0/\ ∃j,j=t/\Sub s' (ofG 54 (kE n w (kAr [])),(kT j [bg encI j])))) ?_ ?_
 ·refine Goes.sub (s':=(ofG 54 (kE n w (kAr [(12,.i (f.length:Int)),(13,.i 0)])),(kT f [bg encI f]))) (Sub.norm [] [some 1,some 0] rfl rfl (.keep (.same nI) (.keep (.same (qf encI _)) (.kp (.keep (.same nI) (.keep (.same nI) .nil))))) (.kb rfl (.cells (rc (.slice rfl) rn)) (.kb rfl yh.bgs .nil))) ?_;refine Ud (fun M s=> ∃(d:List (List Int)) (e:Int),s=(ofG 54 (kE n w (kAr (kAJ (f.length:Int) e []))),(kT d [bg encI d]))/\yZ n f M d e=some t) ?_ (m:=N) ⟨_,_,rfl,g5⟩;rintro M s ⟨d,e,rfl,g5⟩
  cases M with
  |zero=>simp only[yZ]at g5;cases g5
  |succ M=>
   rw[yZ]at g5;refine sh fol (kE n w (kAr (kAJ (f.length:Int) e [(14,.bool (decide (e<(f.length:Int))))]))) ?_;refine sq ?_;refine ihD g5 (fun c6 g5=>?_) (fun c6 g5=>?_)
   ·refine Goes.skip ?_;refine sq (Goes.block ?_);refine sh fol (kE n w (kAr ((6,.i e)::(kAJ (f.length:Int) e [])))) ?_;obtain⟨g,p,g5⟩:=bnd g5;obtain⟨u,k,g5⟩:=bnd g5;refine gq fol [3,4,5] (kE n w (kAr (kAJ (f.length:Int) e []))) (kT d (.bag ((d.map (jh encI)).set (e:Int).toNat (.av (.slice 2 0 g.length g.length 1)))::(kA g []))) (ac (hs (.run [] (vR ZT 22 (.i n) (.i n)) (kT d [bg encI d]) (.slice 2 0 g.length g.length 1) (kT d (bg encI d::(kA g []))) false) (qfC vo (E:=encI) (z:=0) rfl (by kernel_rfl) p rfl)) (ac (hs (.done (.opt (qd ZT 33 (.slice 1 0 d.length d.length 1) (.i e))) (.ptr 1 ((e:Int).toNat*1+0))) (yS qmQ k)) (ac (hs (.run [1] (qD ZT 22 (.ptr 1 ((e:Int).toNat*1+0)) (.slice 2 0 g.length g.length 1)) (kT d (bg encI d::(kA g []))) .undef (kT d (.bag ((d.map (jh encI)).set (e:Int).toNat (.av (.slice 2 0 g.length g.length 1)))::(kA g []))) true) (qom (show _=some 1 by kernel_rfl) rfl (qrG k) rfl rfl rfl)) az))) ?_;refine Goes.sub ((show Sub (ofG 54 (kE n w (kAr (kAJ (f.length:Int) e []))),(kT d (.bag ((d.map (jh encI)).set (e:Int).toNat (.av (.slice 2 0 g.length g.length 1)))::(kA g [])))) (ofG 54 (kE n w (kAr (kAJ (f.length:Int) e []))),(kT d [bg encI (kz d e g),.dead]))from(Ur (E:=encI) (b:=1) (c:=2) (Nat.ne_of_beq_eq_false rfl) rfl rfl k (.s (mk_le p)) rfl)).trans (show Sub (ofG 54 (kE n w (kAr (kAJ (f.length:Int) e []))),(kT d [bg encI (kz d e g),.dead])) (ofG 54 (kE n w (kAr (kAJ (f.length:Int) e []))),(kT (kz d e g) [bg encI (kz d e g)]))from(Sub.norm [] [some 0,some 1] rfl rfl (.keep (.same nI) (.keep (.same (qf encI _)) (.kp (.keep (.same nI) (.keep (.same nI) .nil))))) (.kb rfl (.cells (rc (.sliceE rfl (qcC _ _ _)) rn)) (.kb rfl yh.bgs .nil))))) ?_;refine gh fol (kE n w (kAr (kAJ (f.length:Int) (w64 (e+1)) []))) ?_;exact⟨M,(ofG 54 (kE n w (kAr (kAJ (f.length:Int) (w64 (e+1)) []))),(kT (kz d e g) [bg encI (kz d e g)])),Nat.lt_succ_self _,(Sub.refl _),_,_,rfl,g5⟩
   refine Goes.exit ?_;obtain rfl:=si g5;exact⟨rfl,_,rfl,(Sub.keep [0,1,5] rfl rfl)⟩
 rintro x s' ⟨rfl,j,rfl,hsub⟩;refine Goes.sub hsub ?_;refine sq ?_;obtain⟨_,r,h⟩:=bnd h;refine sq (gq fol [2] (kAr [(24,.func (.func 183) [] [.ptr 2 0,.ptr 3 0])]) (kT j (bg encI j::(kAB n (kC w [])))) (ac (hs (.callH 135 [.i n,vl encI w] (kT j [bg encI j]) [] (.func (.func 183) [] kAj) (kT j (bg encI j::(kAB n (kC w []))))) (zG [] [none,none,some 0,some 1] (qbw n w r) .nil rfl rfl (.old rfl rfl (.old rfl rfl (.new rfl rfl (.cells (rc (.same nI) rn)) rfl (.new rfl rfl (.cells (rc (.same (qf encI _)) rn)) rfl .nil)))) (rc (.same nI) (rc (.same (qf encI _)) rn)) (.funcL (sn) (rc (.ptr rfl) (rc (.ptr rfl) rn))) rfl)) az) ?_);refine Goes.block ?_;obtain⟨a,q,h⟩:=bnd h;refine Goes.range fol rfl (gf:=183) (first:=[]) (captured:=kAj) (v:= .tuple []) (A2:=(kT a (bg encI a::(kAB n (kC w [.loop .ready none (ofG 54 [(5,.ptr 0 0)]) qc.xp qc.x1 qc.x2]))))) (s':=(ofG 54 (kAr [(24,.func (.func 183) [] [.ptr 2 0,.ptr 3 0])]),(kT a (bg encI a::(kAB n (kC w [.loop .exhausted none (ofG 54 [(5,.ptr 0 0)]) qc.xp qc.x1 qc.x2])))))) (x:= .normal) (by kernel_rfl) (by kernel_rfl) (qiG (show(Obl.callH 183 (.yld 4::kAj) (kT j (bg encI j::(kAB n (kC w [.loop .ready none (ofG 54 [(5,.ptr 0 0),(24,.func (.func 183) [] [.ptr 2 0,.ptr 3 0])]) qc.xp qc.x1 qc.x2])))) [4,0,1,2,3] (.tuple []) (kT a (bg encI a::(kAB n (kC w [.loop .ready none (ofG 54 [(5,.ptr 0 0)]) qc.xp qc.x1 qc.x2]))))).Holds ZT from zG [some 4,some 0,some 1,some 2,some 3] [some 1,some 2,some 3,some 4,some 0] (qdm N j n w q) (.kb rfl (.loop rfl (.kp (.drop .nil))) (.kb rfl (.cells (rc (.slice rfl) rn)) (.kb rfl yh.bgs (.kb rfl (.cells (rc (.same nI) rn)) (.kb rfl (.cells (rc (.same (qf encI _)) rn)) .nil))))) rfl rfl (.back rfl rfl (.cells (rc (.slice rfl) rn)) rfl (.back rfl rfl yh.bgs rfl (.back rfl rfl (.cells (rc (.same nI) rn)) rfl (.back rfl rfl (.cells (rc (.same (qf encI _)) rn)) rfl (.back rfl rfl (.loop rfl (.kp .nil)) rfl .nil))))) (rc (.yld rfl) (rc (.ptr rfl) (rc (.ptr rfl) rn))) (.same (qA.tuple sn)) rfl)) (by kernel_rfl) ?_;refine Goes.sub (show Sub (ofG 54 (kAr [(24,.func (.func 183) [] [.ptr 2 0,.ptr 3 0])]),(kT a (bg encI a::(kAB n (kC w [.loop .exhausted none (ofG 54 [(5,.ptr 0 0)]) qc.xp qc.x1 qc.x2]))))) (ofG 54 (kAr [(24,.func (.func 183) [] [.ptr 2 0,.ptr 3 0])]),(kT a (bg encI a::(kAB n (kC w [])))))from(Sub.norm [] [some 0,some 1,some 2,some 3] rfl rfl (.kp (.keep (.funcL (sn) (rc (.ptr rfl) (rc (.ptr rfl) rn))) .nil)) (.kb rfl (.cells (rc (.slice rfl) rn)) (.kb rfl yh.bgs (.kb rfl (.same sn) (.kb rfl (.same sn) .nil)))))) ?_;refine sh fol [(4,.slice 1 0 a.length a.length 1)] ?_;refine Goes.sub (s':=(ofG 54 [(4,.slice 1 0 a.length a.length 1)],(kT a (.frozen (a.flatMap (qm encI).c)::(kAB n (kC w [])))))) (Sub.bagFreeze (E:=encI) (b:=1) rfl) ?_;refine Goes.ret ?_;obtain rfl:=si h;exact(gw2 [.slice 1 0 a.length a.length 1] (Ut (Fz.slF (E:=(qm encI)) rfl rfl (nl rfl))))
def qhV (n:Int):Option qY:=
 some (⟨n,[]⟩:qY)
theorem qjc (n:Int) {res:qY} (h:qhV n=some res):qb ZT (.fn 144) [.i n] [] (.agg (nz1 res)) []:=by
 unfold qhV at h;refine Ub Tryz.func144 rfl rfl (m:=5) rfl (rs:=[.cell 2 115]) rfl (l:=[(0,.i n)]) rfl ?_;refine sg fol ((0,.i n)::kA6) [bZ] ?_;refine sg fol kA6 (kAA n []) ?_;refine Goes.ret ?_;obtain rfl:=si h;exact(gw2 [.agg [.i n,.nilslice]] (FzW.agg (ql.cons (Ua tI) (ql.cons (FzW.nv0 (E:=ZU)) ql.nil))))
def qcz (n:qY):Option qo:=
 (qhV 1).bind fun a=>
 some (⟨n,a⟩:qo)
theorem qf5 (n:qY) {res:qo} (h:qcz n=some res):qb ZT (.fn 149) [.agg (nz1 n)] [] (.agg (nq1 res)) []:=by
 unfold qcz at h;refine Ub Tryz.func149 rfl rfl (m:=6) rfl (rs:=[.cell 2 117]) rfl (l:=[(0,.agg (nz1 n))]) rfl ?_;refine sg fol (kAf []) (.cells (nz1 n)::(kH [])) ?_;obtain⟨a,b,h⟩:=bnd h;refine sq (gq fol [1,3] [(2,.ptr 1 0)] [.cells (nz1 n),.cells (ni2 n.s n.w a.s a.w)] (ac (cv (qjc 1 b)) (ac (hs (.run [1] (qD ZT 117 (.ptr 1 0) (.agg (ni2 n.s n.w a.s a.w))) (.cells (nz1 n)::(kH [])) .undef [.cells (nz1 n),.cells (ni2 n.s n.w a.s a.w)] true) (vC (n:=4) (by kernel_rfl) rfl rfl rfl rfl (cac rfl (cac nvc (cac rfl (cac nvc can)))) rfl)) az)) ?_);refine Goes.ret ?_;obtain rfl:=si h;exact(gw2 [.agg (ni2 n.s n.w a.s a.w)] (FzW.agg (ql.cons (Ua tI) (ql.cons (Ua (qB ZU _ (nl rfl))) (ql.cons (Ua tI) (ql.cons (Ua (qB ZU _ (nl rfl))) ql.nil))))))
def qgi (n:Int):Option qo:=
 (qhV n).bind fun a=>
 (qcz a).bind fun b=>
 some b
theorem qdv (n:Int) {res:qo} (h:qgi n=some res):qb ZT (.fn 126) [.i n] [] (.agg (nq1 res)) []:=by
 unfold qgi at h;refine Ub Tryz.func126 rfl rfl (m:=6) rfl (rs:=[.cell 2 117]) rfl (l:=[(0,.i n)]) rfl ?_;refine sg fol ((0,.i n)::kA6) (kH []) ?_;obtain⟨d,a,h⟩:=bnd h;obtain⟨c,b,h⟩:=bnd h;refine sq (gq fol [1,2,3] kA6 [.cells (nq1 c)] (ac (cv (qjc n a)) (ac (cv (qf5 d b)) (ac (hs (.run [0] (qD ZT 117 (.ptr 0 0) (.agg (nq1 c))) (kH []) .undef [.cells (nq1 c)] true) (vC (n:=4) (by kernel_rfl) rfl rfl rfl rfl (cac rfl (cac nvc (cac rfl (cac nvc can)))) rfl)) az))) ?_);refine Goes.ret ?_;obtain rfl:=si h;exact(gw2 [.agg (nq1 c)] (FzW.agg (ql.cons (Ua tI) (ql.cons (Ua (qB ZU _ (nl rfl))) (ql.cons (Ua tI) (ql.cons (Ua (qB ZU _ (nl rfl))) ql.nil))))))
def bits_Mul64 (a:Int) (y:Int):Option (Int×Int):=
 some (wrap .u64 ((wrap .u64 ((wrap .u64 ((jl .u64 a 32)*(jl .u64 y 32)))+(jl .u64 (wrap .u64 ((wrap .u64 ((jl .u64 a 32)*(jf .u64 y 4294967295)))+(jl .u64 (wrap .u64 ((jf .u64 a 4294967295)*(jf .u64 y 4294967295))) 32))) 32)))+(jl .u64 (wrap .u64 ((jf .u64 (wrap .u64 ((wrap .u64 ((jl .u64 a 32)*(jf .u64 y 4294967295)))+(jl .u64 (wrap .u64 ((jf .u64 a 4294967295)*(jf .u64 y 4294967295))) 32))) 4294967295)+(wrap .u64 ((jf .u64 a 4294967295)*(jl .u64 y 32))))) 32)),wrap .u64 (a*y))
theorem qfg (a:Int) (y:Int) {res:Int×Int} (h:bits_Mul64 a y=some res):qb ZT (.fn 221) [.int .u64 a,.int .u64 y] [] (.tuple [.int .u64 res.1,.int .u64 res.2]) []:=by
 unfold bits_Mul64 at h;refine Ub Tryz.func221 rfl rfl (m:=51) rfl (rs:=[.tmp 4,.tmp 5]) rfl (l:=(kAL a y [])) rfl ?_;refine sh fol (kAL a y []) ?_;refine sh fol (kAL a y (kAv (jf .u64 a 4294967295) [])) ?_;refine sh fol (kAL a y (kAv (jf .u64 a 4294967295) [(7,.int .u64 (jl .u64 a 32))])) ?_;refine sh fol (kAL a y (kAv (jf .u64 a 4294967295) [(7,.int .u64 (jl .u64 a 32)),(8,.int .u64 (jf .u64 y 4294967295))])) ?_;refine sh fol (kAL a y (kAv (jf .u64 a 4294967295) [(7,.int .u64 (jl .u64 a 32)),(8,.int .u64 (jf .u64 y 4294967295)),(9,.int .u64 (jl .u64 y 32))])) ?_;refine sh fol (kAL a y (kAv (jf .u64 a 4294967295) [(7,.int .u64 (jl .u64 a 32)),(8,.int .u64 (jf .u64 y 4294967295)),(9,.int .u64 (jl .u64 y 32)),(10,.int .u64 (wrap .u64 ((jf .u64 a 4294967295)*(jf .u64 y 4294967295))))])) ?_;refine sh fol (kAL a y (kAv (jf .u64 a 4294967295) [(7,.int .u64 (jl .u64 a 32)),(9,.int .u64 (jl .u64 y 32)),(11,.int .u64 (wrap .u64 ((wrap .u64 ((jl .u64 a 32)*(jf .u64 y 4294967295)))+(jl .u64 (wrap .u64 ((jf .u64 a 4294967295)*(jf .u64 y 4294967295))) 32))))])) ?_;refine sh fol (kAL a y (kAv (jf .u64 a 4294967295) [(7,.int .u64 (jl .u64 a 32)),(9,.int .u64 (jl .u64 y 32)),(11,.int .u64 (wrap .u64 ((wrap .u64 ((jl .u64 a 32)*(jf .u64 y 4294967295)))+(jl .u64 (wrap .u64 ((jf .u64 a 4294967295)*(jf .u64 y 4294967295))) 32)))),(12,.int .u64 (jf .u64 (wrap .u64 ((wrap .u64 ((jl .u64 a 32)*(jf .u64 y 4294967295)))+(jl .u64 (wrap .u64 ((jf .u64 a 4294967295)*(jf .u64 y 4294967295))) 32))) 4294967295))])) ?_;refine sh fol (kAL a y (kAv (jf .u64 a 4294967295) [(7,.int .u64 (jl .u64 a 32)),(9,.int .u64 (jl .u64 y 32)),(12,.int .u64 (jf .u64 (wrap .u64 ((wrap .u64 ((jl .u64 a 32)*(jf .u64 y 4294967295)))+(jl .u64 (wrap .u64 ((jf .u64 a 4294967295)*(jf .u64 y 4294967295))) 32))) 4294967295)),(13,.int .u64 (jl .u64 (wrap .u64 ((wrap .u64 ((jl .u64 a 32)*(jf .u64 y 4294967295)))+(jl .u64 (wrap .u64 ((jf .u64 a 4294967295)*(jf .u64 y 4294967295))) 32))) 32))])) ?_;refine sh fol (kAL a y [(7,.int .u64 (jl .u64 a 32)),(9,.int .u64 (jl .u64 y 32)),(12,.int .u64 (wrap .u64 ((jf .u64 (wrap .u64 ((wrap .u64 ((jl .u64 a 32)*(jf .u64 y 4294967295)))+(jl .u64 (wrap .u64 ((jf .u64 a 4294967295)*(jf .u64 y 4294967295))) 32))) 4294967295)+(wrap .u64 ((jf .u64 a 4294967295)*(jl .u64 y 32)))))),(13,.int .u64 (jl .u64 (wrap .u64 ((wrap .u64 ((jl .u64 a 32)*(jf .u64 y 4294967295)))+(jl .u64 (wrap .u64 ((jf .u64 a 4294967295)*(jf .u64 y 4294967295))) 32))) 32))]) ?_;refine sh fol (kAL a y [(4,.int .u64 (wrap .u64 ((wrap .u64 ((wrap .u64 ((jl .u64 a 32)*(jl .u64 y 32)))+(jl .u64 (wrap .u64 ((wrap .u64 ((jl .u64 a 32)*(jf .u64 y 4294967295)))+(jl .u64 (wrap .u64 ((jf .u64 a 4294967295)*(jf .u64 y 4294967295))) 32))) 32)))+(jl .u64 (wrap .u64 ((jf .u64 (wrap .u64 ((wrap .u64 ((jl .u64 a 32)*(jf .u64 y 4294967295)))+(jl .u64 (wrap .u64 ((jf .u64 a 4294967295)*(jf .u64 y 4294967295))) 32))) 4294967295)+(wrap .u64 ((jf .u64 a 4294967295)*(jl .u64 y 32))))) 32))))]) ?_;refine sh fol [(4,.int .u64 (wrap .u64 ((wrap .u64 ((wrap .u64 ((jl .u64 a 32)*(jl .u64 y 32)))+(jl .u64 (wrap .u64 ((wrap .u64 ((jl .u64 a 32)*(jf .u64 y 4294967295)))+(jl .u64 (wrap .u64 ((jf .u64 a 4294967295)*(jf .u64 y 4294967295))) 32))) 32)))+(jl .u64 (wrap .u64 ((jf .u64 (wrap .u64 ((wrap .u64 ((jl .u64 a 32)*(jf .u64 y 4294967295)))+(jl .u64 (wrap .u64 ((jf .u64 a 4294967295)*(jf .u64 y 4294967295))) 32))) 4294967295)+(wrap .u64 ((jf .u64 a 4294967295)*(jl .u64 y 32))))) 32)))),(5,.int .u64 (wrap .u64 (a*y)))] ?_;refine Goes.ret ?_;obtain rfl:=si h;exact(gw2 [.int .u64 (wrap .u64 ((wrap .u64 ((wrap .u64 ((jl .u64 a 32)*(jl .u64 y 32)))+(jl .u64 (wrap .u64 ((wrap .u64 ((jl .u64 a 32)*(jf .u64 y 4294967295)))+(jl .u64 (wrap .u64 ((jf .u64 a 4294967295)*(jf .u64 y 4294967295))) 32))) 32)))+(jl .u64 (wrap .u64 ((jf .u64 (wrap .u64 ((wrap .u64 ((jl .u64 a 32)*(jf .u64 y 4294967295)))+(jl .u64 (wrap .u64 ((jf .u64 a 4294967295)*(jf .u64 y 4294967295))) 32))) 4294967295)+(wrap .u64 ((jf .u64 a 4294967295)*(jl .u64 y 32))))) 32))),.int .u64 (wrap .u64 (a*y))] (FzW.tuple (ql.cons (Ua tI) (ql.cons (Ua tI) ql.nil))))
def bits_Mul (b:Int) (y:Int):Option (Int×Int):=
 (bits_Mul64 b y).bind fun a=>
 some (a.1,a.2)
theorem qme (d:Int) (y:Int) {res:Int×Int} (h:bits_Mul d y=some res):qb ZT (.fn 162) [.int .u64 d,.int .u64 y] [] (.tuple [.int .u64 res.1,.int .u64 res.2]) []:=by
 unfold bits_Mul at h;refine Ub Tryz.func162 rfl rfl (m:=30) rfl (rs:=[.tmp 4,.tmp 5]) rfl (l:=(kAL d y [])) rfl ?_;refine sh fol (kAL d y []) ?_;refine sq ?_;refine U8 (b:=false) (by kernel_rfl) (fun c=>(by cases c)) (fun _=>?_);refine Goes.skip ?_;obtain⟨a,e,h⟩:=bnd h;refine sq (gr fol [2] [(8,.int .u64 a.1),(9,.int .u64 a.2)] (ac (cv (qfg d y e)) az) ?_);refine sh fol [(4,.int .u64 a.1),(5,.int .u64 a.2)] ?_;refine Goes.ret ?_;obtain rfl:=si h;exact(gw2 [.int .u64 a.1,.int .u64 a.2] (FzW.tuple (ql.cons (Ua tI) (ql.cons (Ua tI) ql.nil))))
def qdE (n:Int):Option Int:=
 if n<0 then
 some (wrap .u64 (w64 (0-n)))
 else
 some (wrap .u64 n)
theorem qgW (n:Int) {res:Int} (h:qdE n=some res):qb ZT (.fn 255) [.i n] [] (.int .u64 res) []:=by
 unfold qdE at h;refine Ub Tryz.func255 rfl rfl (m:=10) rfl (rs:=[.tmp 2]) rfl (l:=[(0,.i n)]) rfl ?_;refine sh fol [(0,.i n)] ?_;refine sq ?_;refine sh fol ((0,.i n)::(kA2 (decide (n<0)))) ?_;refine ihD h (fun a h=>?_) (fun a h=>?_)
 ·refine sh fol [(2,.int .u64 (wrap .u64 (w64 (0-n))))] ?_;refine Goes.ret ?_;obtain rfl:=si h;exact(gw2 [.int .u64 (wrap .u64 (w64 (0-n)))] (Ua tI))
 refine Goes.skip ?_;refine sh fol [(2,.int .u64 (wrap .u64 n))] ?_;refine Goes.ret ?_;obtain rfl:=si h;exact(gw2 [.int .u64 (wrap .u64 n)] (Ua tI))
def jo (a:qY) (b:qY):Option qY:=
 (if a.w.isEmpty=true then
 some b.w.isEmpty
 else
 some false:Option Bool).bind fun f=>
 ((if f=true then
 (qdE a.s).bind fun g=>
 (qdE b.s).bind fun h=>
 (bits_Mul64 g h).bind fun c=>
 (if c.1=0 then
 some (decide (c.2<=9223372036854775807))
 else
 some false:Option Bool).bind fun d=>
 if d=true then
 if(!((decide (a.s<0))==(decide (b.s<0))))=true then
 some (.inr (⟨w64 (0-(w64 c.2)),[]⟩:qY))
 else
 some (.inr (⟨w64 c.2,[]⟩:qY))
 else
 some (.inl ())
 else
 some (.inl ()):Option (Unit⊕qY))).bind (fun
 |(.inl ())=>
 none
 |(.inr e)=>
 some e)
theorem yI (a:qY) (b:qY) {res:qY} (h:jo a b=some res):qb ZT (.fn 193) [.agg (nz1 a),.agg (nz1 b)] [] (.agg (nz1 res)) []:=by
 unfold jo at h;refine Ub Tryz.func193 rfl rfl (m:=66) rfl (rs:=[.cell 4 115]) rfl (l:=[(0,.agg (nz1 a)),(1,.agg (nz1 b))]) rfl ?_;refine sg fol (kF []) [.cells (nz1 a),.cells (nz1 b),bZ] ?_;refine sq ?_;refine sq ?_;obtain⟨u,d,h⟩:=bnd h;refine Goes.cut (s':=(ofG 66 (kF [(18,.bool u)]),[.cells (nz1 a),.cells (nz1 b),bZ])) ?_ ?_
 ·rcases wyB d with⟨n,d⟩|⟨n,d⟩
  ·obtain rfl:=si d;exact tr fol [2,3,6] (kF [(18,.bool b.w.isEmpty)]) (ac (hs (.done (.opt (qab ZT .eql 113 (.tmp 12) (.const (.slice none 0 0)) (nvl ZU a.w) .nilslice)) (.bool a.w.isEmpty)) (qbc xn)) (ac (gw n) (ac (hs (.done (.opt (qab ZT .eql 113 (.tmp 16) (.const (.slice none 0 0)) (nvl ZU b.w) .nilslice)) (.bool b.w.isEmpty)) (qbc xn)) az)))
  obtain rfl:=si d;exact tr fol [2,3] (kF [(18,.bool false)]) (ac (hs (.done (.opt (qab ZT .eql 113 (.tmp 12) (.const (.slice none 0 0)) (nvl ZU a.w) .nilslice)) (.bool a.w.isEmpty)) (qbc xn)) (ac (gw n) az))
 obtain⟨r,g4,h⟩:=bnd h;refine Goes.imp (Q:=fun x s'=>(x= .normal/\(.inl ())=r/\Sub s' (ofG 66 (kF []),[.cells (nz1 a),.cells (nz1 b),bZ]))\/(x= .ret/\ ∃t,(.inr t)=r/\jM ZT [.cell 4 115] (.agg (nz1 t)) .ret s')) ?_ ?_
 ·refine ihB g4 (fun c6 g4=>?_) (fun c6 g4=>?_)
  ·obtain⟨v,g,g4⟩:=bnd g4;obtain⟨y,j,g4⟩:=bnd g4;obtain⟨e,k,g4⟩:=bnd g4;refine sq (gr fol [2,5,6] (kF ((5,.int .u64 e.1)::(kAv e.2 []))) (ac (cv (qgW a.s g)) (ac (cv (qgW b.s j)) (ac (cv (qfg v y k)) az))) ?_);refine sq ?_;obtain⟨o,c,g4⟩:=bnd g4;refine Goes.cut (s':=(ofG 66 (kF (kAv e.2 [(34,.bool o)])),[.cells (nz1 a),.cells (nz1 b),bZ])) ?_ ?_
   ·rcases wyD c with⟨f,c⟩|⟨f,c⟩
    ·obtain rfl:=si c;exact tr fol [2] (kF (kAv e.2 [(34,.bool (decide (e.2<=9223372036854775807)))])) (ac (gw f) az)
    obtain rfl:=si c;exact tr fol [2] (kF (kAv e.2 [(34,.bool false)])) (ac (gw f) az)
   refine ihB g4 (fun p g4=>?_) (fun p g4=>?_)
   ·refine sq ?_;refine sh fol ((4,.ptr 2 0)::(kAv e.2 [(41,.bool (!((decide (a.s<0))==(decide (b.s<0)))))])) ?_;refine ihB g4 (fun q g4=>?_) (fun q g4=>?_)
    ·refine sg fol kAz (.cells (nz1 a):: .cells (nz1 b)::(kAA (w64 (0-(w64 e.2))) [])) ?_;refine Goes.ret ?_;obtain rfl:=si g4;exact Or.inr (⟨rfl,_,rfl,(gw2 [.agg [.i (w64 (0-(w64 e.2))),.nilslice]] (FzW.agg (ql.cons (Ua tI) (ql.cons (FzW.nv0 (E:=ZU)) ql.nil))))⟩)
    refine Goes.skip ?_;refine sg fol kAz (.cells (nz1 a):: .cells (nz1 b)::(kAA (w64 e.2) [])) ?_;refine Goes.ret ?_;obtain rfl:=si g4;exact Or.inr (⟨rfl,_,rfl,(gw2 [.agg [.i (w64 e.2),.nilslice]] (FzW.agg (ql.cons (Ua tI) (ql.cons (FzW.nv0 (E:=ZU)) ql.nil))))⟩)
   refine Goes.skip ?_;obtain rfl:=si g4;exact Or.inl (⟨rfl,rfl,(Sub.keep [2,3,4] rfl rfl)⟩)
  refine Goes.skip ?_;obtain rfl:=si g4;exact Or.inl (⟨rfl,rfl,(Sub.keep [2,3,4] rfl rfl)⟩)
 rintro x s' (⟨rfl,rfl,hsub⟩|⟨rfl,z,rfl,hret⟩)
 ·try dsimp only at h
  refine Goes.sub hsub ?_;refine sq ?_;cases h
 try dsimp only at h
 obtain rfl:=si h;exact hret
def qay (a:qY) (b:qY):Option qY:=
 (if a.w.isEmpty=true then
 some b.w.isEmpty
 else
 some false:Option Bool).bind fun c=>
 ((if c=true then
 if((decide ((w64 (a.s+b.s))>a.s))==(decide (b.s>0)))=true then
 some (.inr (⟨w64 (a.s+b.s),[]⟩:qY))
 else
 some (.inl ())
 else
 some (.inl ()):Option (Unit⊕qY))).bind (fun
 |(.inl ())=>
 none
 |(.inr d)=>
 some d)
theorem qeu (a:qY) (b:qY) {res:qY} (h:qay a b=some res):qb ZT (.fn 195) [.agg (nz1 a),.agg (nz1 b)] [] (.agg (nz1 res)) []:=by
 unfold qay at h;refine Ub Tryz.func195 rfl rfl (m:=67) rfl (rs:=[.cell 4 115]) rfl (l:=[(0,.agg (nz1 a)),(1,.agg (nz1 b))]) rfl ?_;refine sg fol (kF []) [.cells (nz1 a),.cells (nz1 b),bZ] ?_;refine sq ?_;refine sq ?_;obtain⟨g,c,h⟩:=bnd h;refine Goes.cut (s':=(ofG 67 (kF [(17,.bool g)]),[.cells (nz1 a),.cells (nz1 b),bZ])) ?_ ?_
 ·rcases wyB c with⟨d,c⟩|⟨d,c⟩
  ·obtain rfl:=si c;exact tr fol [2,3,6] (kF [(17,.bool b.w.isEmpty)]) (ac (hs (.done (.opt (qab ZT .eql 113 (.tmp 11) (.const (.slice none 0 0)) (nvl ZU a.w) .nilslice)) (.bool a.w.isEmpty)) (qbc xn)) (ac (gw d) (ac (hs (.done (.opt (qab ZT .eql 113 (.tmp 15) (.const (.slice none 0 0)) (nvl ZU b.w) .nilslice)) (.bool b.w.isEmpty)) (qbc xn)) az)))
  obtain rfl:=si c;exact tr fol [2,3] (kF [(17,.bool false)]) (ac (hs (.done (.opt (qab ZT .eql 113 (.tmp 11) (.const (.slice none 0 0)) (nvl ZU a.w) .nilslice)) (.bool a.w.isEmpty)) (qbc xn)) (ac (gw d) az))
 obtain⟨e,g4,h⟩:=bnd h;refine Goes.imp (Q:=fun x s'=>(x= .normal/\(.inl ())=e/\Sub s' (ofG 67 (kF []),[.cells (nz1 a),.cells (nz1 b),bZ]))\/(x= .ret/\ ∃f,(.inr f)=e/\jM ZT [.cell 4 115] (.agg (nz1 f)) .ret s')) ?_ ?_
 ·refine ihB g4 (fun c6 g4=>?_) (fun c6 g4=>?_)
  ·refine sh fol (kF [(5,.i (w64 (a.s+b.s)))]) ?_;refine sh fol (kF [(5,.i (w64 (a.s+b.s))),(30,.bool ((decide ((w64 (a.s+b.s))>a.s))==(decide (b.s>0))))]) ?_;refine ihB g4 (fun j g4=>?_) (fun j g4=>?_)
   ·refine sg fol kAz (.cells (nz1 a):: .cells (nz1 b)::(kAA (w64 (a.s+b.s)) [])) ?_;refine Goes.ret ?_;obtain rfl:=si g4;exact Or.inr (⟨rfl,_,rfl,(gw2 [.agg [.i (w64 (a.s+b.s)),.nilslice]] (FzW.agg (ql.cons (Ua tI) (ql.cons (FzW.nv0 (E:=ZU)) ql.nil))))⟩)
   refine Goes.skip ?_;obtain rfl:=si g4;exact Or.inl (⟨rfl,rfl,(Sub.keep [2,3,4] rfl rfl)⟩)
  refine Goes.skip ?_;obtain rfl:=si g4;exact Or.inl (⟨rfl,rfl,(Sub.keep [2,3,4] rfl rfl)⟩)
 rintro x s' (⟨rfl,rfl,hsub⟩|⟨rfl,k,rfl,hret⟩)
 ·try dsimp only at h
  refine Goes.sub hsub ?_;refine sq ?_;cases h
 try dsimp only at h
 obtain rfl:=si h;exact hret
def jY (a:qY):Option qY:=
 (if a.w.isEmpty=true then
 some (!decide (a.s=(-9223372036854775808)))
 else
 some false:Option Bool).bind fun b=>
 if b=true then
 some (⟨w64 (0-a.s),[]⟩:qY)
 else
 none
theorem xA (a:qY) {res:qY} (h:jY a=some res):qb ZT (.fn 196) [.agg (nz1 a)] [] (.agg (nz1 res)) []:=by
 unfold jY at h;refine Ub Tryz.func196 rfl rfl (m:=26) rfl (rs:=[.cell 2 115]) rfl (l:=[(0,.agg (nz1 a))]) rfl ?_;refine sg fol (kAf []) [.cells (nz1 a),bZ] ?_;refine sq ?_;refine sq ?_;obtain⟨d,b,h⟩:=bnd h;refine Goes.cut (s':=(ofG 26 (kAf [(12,.bool d)]),[.cells (nz1 a),bZ])) ?_ ?_
 ·rcases wyB b with⟨c,b⟩|⟨c,b⟩
  ·obtain rfl:=si b;exact tr fol [2,3] (kAf [(12,.bool (!decide (a.s=(-9223372036854775808))))]) (ac (hs (.done (.opt (qab ZT .eql 113 (.tmp 6) (.const (.slice none 0 0)) (nvl ZU a.w) .nilslice)) (.bool a.w.isEmpty)) (qbc xn)) (ac (gw c) az))
  obtain rfl:=si b;exact tr fol [2,3] (kAf [(12,.bool false)]) (ac (hs (.done (.opt (qab ZT .eql 113 (.tmp 6) (.const (.slice none 0 0)) (nvl ZU a.w) .nilslice)) (.bool a.w.isEmpty)) (qbc xn)) (ac (gw c) az))
 refine ihB h (fun e h=>?_) (fun e h=>?_)
 ·refine sg fol [(2,.ptr 1 0)] (.cells (nz1 a)::(kAA (w64 (0-a.s)) [])) ?_;refine Goes.ret ?_;obtain rfl:=si h;exact(gw2 [.agg [.i (w64 (0-a.s)),.nilslice]] (FzW.agg (ql.cons (Ua tI) (ql.cons (FzW.nv0 (E:=ZU)) ql.nil))))
 refine Goes.skip ?_;refine sq ?_;cases h
def qa3 (a:qY):Option qY:=
 if a.s<0 then
 (jY a).bind fun b=>
 some b
 else
 some a
theorem qed (a:qY) {res:qY} (h:qa3 a=some res):qb ZT (.fn 187) [.agg (nz1 a)] [] (.agg (nz1 res)) []:=by
 unfold qa3 at h;refine Ub Tryz.func187 rfl rfl (m:=9) rfl (rs:=[.cell 2 115]) rfl (l:=[(0,.agg (nz1 a))]) rfl ?_;refine sg fol (kAf []) [.cells (nz1 a),bZ] ?_;refine sq ?_;refine sh fol (kAf [(5,.bool (decide (a.s<0)))]) ?_;refine ihD h (fun d h=>?_) (fun d h=>?_)
 ·obtain⟨c,b,h⟩:=bnd h;refine sq (gq fol [1,2] [(2,.ptr 1 0)] [.cells (nz1 a),.cells (nz1 c)] (ac (cv (xA a b)) (ac (hs (.run [1] (qD ZT 115 (.ptr 1 0) (.agg (nz1 c))) [.cells (nz1 a),bZ] .undef [.cells (nz1 a),.cells (nz1 c)] true) (vC (n:=2) (by kernel_rfl) rfl rfl rfl rfl (cac rfl (cac nvc can)) rfl)) az)) ?_);refine Goes.ret ?_;obtain rfl:=si h;exact(gw2 [.agg (nz1 c)] (FzW.agg (ql.cons (Ua tI) (ql.cons (Ua (qB ZU _ (nl rfl))) ql.nil))))
 refine Goes.skip ?_;refine sq (gq fol [1] [(2,.ptr 1 0)] [.cells (nz1 a),.cells (nz1 a)] (ac (hs (.run [1] (qD ZT 115 (.ptr 1 0) (.agg (nz1 a))) [.cells (nz1 a),bZ] .undef [.cells (nz1 a),.cells (nz1 a)] true) (vC (n:=2) (by kernel_rfl) rfl rfl rfl rfl (cac rfl (cac nvc can)) rfl)) az) ?_);refine Goes.ret ?_;obtain rfl:=si h;exact(gw2 [.agg (nz1 a)] (FzW.agg (ql.cons (Ua tI) (ql.cons (Ua (qB ZU _ (nl rfl))) ql.nil))))
def vY (a:qY):Option Int:=
 some (if(if a.s<1 then a.s else 1)>(-1)then(if a.s<1 then a.s else 1)else(-1))
theorem qcd (a:qY) {res:Int} (h:vY a=some res):qb ZT (.fn 188) [.agg (nz1 a)] [] (.i res) []:=by
 unfold vY at h;refine Ub Tryz.func188 rfl rfl (m:=7) rfl (rs:=[.tmp 2]) rfl (l:=[(0,.agg (nz1 a))]) rfl ?_;refine sg fol [(1,.ptr 0 0)] [.cells (nz1 a)] ?_;refine sh fol [(2,.i (if(if a.s<1 then a.s else 1)>(-1)then(if a.s<1 then a.s else 1)else(-1)))] ?_;refine Goes.ret ?_;obtain rfl:=si h;exact(gw2 [.i (if(if a.s<1 then a.s else 1)>(-1)then(if a.s<1 then a.s else 1)else(-1))] (Ua tI))
def xC (a:qY) (b:qY):Option (qY×qY):=
 (if a.w.isEmpty=true then
 if b.w.isEmpty=true then
 some (!decide (a.s=(-9223372036854775808)))
 else
 some false
 else
 some false:Option Bool).bind fun e=>
 if e=true then
 (qsd .i64 a.s b.s).bind fun d=>
 (qpJ .i64 a.s b.s).bind fun c=>
 ((if c<0 then
 some (w64 (d-1),w64 (c+b.s))
 else
 some (d,c):Option (Int×Int))).bind fun(f,g)=>
 some ((⟨f,[]⟩:qY),(⟨g,[]⟩:qY))
 else
 none
theorem qda (a:qY) (b:qY) {res:qY×qY} (h:xC a b=some res):qb ZT (.fn 189) [.agg (nz1 a),.agg (nz1 b)] [] (.tuple [.agg (nz1 res.1),.agg (nz1 res.2)]) []:=by
 unfold xC at h;refine Ub Tryz.func189 rfl rfl (m:=84) rfl (rs:=[.cell 4 115,.cell 5 115]) rfl (l:=[(0,.agg (nz1 a)),(1,.agg (nz1 b))]) rfl ?_;refine sg fol (kF [(5,.ptr 3 0)]) [.cells (nz1 a),.cells (nz1 b),bZ,bZ] ?_;refine sq ?_;refine sq ?_;obtain⟨r,c,h⟩:=bnd h;refine Goes.cut (s':=(ofG 84 (kF [(5,.ptr 3 0),(28,.bool r)]),[.cells (nz1 a),.cells (nz1 b),bZ,bZ])) ?_ ?_
 ·rcases wyB c with⟨k,c⟩|⟨k,c⟩
  ·rcases wyB c with⟨o,c⟩|⟨o,c⟩
   ·obtain rfl:=si c;exact tr fol [2,3,6,8] (kF [(5,.ptr 3 0),(28,.bool (!decide (a.s=(-9223372036854775808))))]) (ac (hs (.done (.opt (qab ZT .eql 113 (.tmp 17) (.const (.slice none 0 0)) (nvl ZU a.w) .nilslice)) (.bool a.w.isEmpty)) (qbc xn)) (ac (gw k) (ac (hs (.done (.opt (qab ZT .eql 113 (.tmp 21) (.const (.slice none 0 0)) (nvl ZU b.w) .nilslice)) (.bool b.w.isEmpty)) (qbc xn)) (ac (gw o) az))))
   obtain rfl:=si c;exact tr fol [2,3,6,8] (kF [(5,.ptr 3 0),(28,.bool false)]) (ac (hs (.done (.opt (qab ZT .eql 113 (.tmp 17) (.const (.slice none 0 0)) (nvl ZU a.w) .nilslice)) (.bool a.w.isEmpty)) (qbc xn)) (ac (gw k) (ac (hs (.done (.opt (qab ZT .eql 113 (.tmp 21) (.const (.slice none 0 0)) (nvl ZU b.w) .nilslice)) (.bool b.w.isEmpty)) (qbc xn)) (ac (gw o) az))))
  obtain rfl:=si c;exact tr fol [2,3] (kF [(5,.ptr 3 0),(28,.bool false)]) (ac (hs (.done (.opt (qab ZT .eql 113 (.tmp 17) (.const (.slice none 0 0)) (nvl ZU a.w) .nilslice)) (.bool a.w.isEmpty)) (qbc xn)) (ac (gw k) az))
 refine ihB h (fun t h=>?_) (fun t h=>?_)
 ·obtain⟨n,d,h⟩:=bnd h;obtain⟨e,f,h⟩:=bnd h;refine sq (gr fol [4,9] ((3,.ptr 1 0)::(4,.ptr 2 0)::(5,.ptr 3 0)::(kA8 n e [])) (ac (hs (.done (.opt (qab ZT .quo 3 (.tmp 30) (.tmp 32) (.i a.s) (.i b.s))) (.i n)) (qsM d)) (ac (hs (.done (.opt (qab ZT .rem 3 (.tmp 35) (.tmp 37) (.i a.s) (.i b.s))) (.i e)) (qtA f)) az)) ?_);refine sq ?_;refine sh fol ((3,.ptr 1 0)::(4,.ptr 2 0)::(5,.ptr 3 0)::(kA8 n e [(40,.bool (decide (e<0)))])) ?_;obtain⟨p,g10,h⟩:=bnd h;refine Goes.imp (Q:=fun x s'=>(x= .normal/\ ∃g j,(g,j)=p/\Sub s' (ofG 84 (kAY (kA8 g j [])),[bZ,bZ]))) ?_ ?_
  ·refine ihD g10 (fun q g10=>?_) (fun q g10=>?_)
   ·refine gh fol ((4,.ptr 2 0)::(5,.ptr 3 0)::(kA8 (w64 (n-1)) (w64 (e+b.s)) [])) ?_;obtain rfl:=si g10;exact⟨rfl,_,_,rfl,(Sub.norm [] [some 2,some 3] rfl rfl (.kp (.kp (.keep (.same nI) (.keep (.same nI) .nil)))) (.kb rfl (.same sn) (.kb rfl (.same sn) .nil)))⟩
   refine Goes.skip ?_;obtain rfl:=si g10;exact⟨rfl,_,_,rfl,(Sub.norm [] [some 2,some 3] rfl rfl (.drop (.kp (.kp (.keep (.same nI) (.keep (.same nI) .nil))))) (.kb rfl (.same sn) (.kb rfl (.same sn) .nil)))⟩
  rintro x s' ⟨rfl,g,j,rfl,hsub⟩
  try dsimp only at h
  refine Goes.sub hsub ?_;refine sg fol (kAY []) (kAA g (kAA j [])) ?_;refine Goes.ret ?_;obtain rfl:=si h;exact(gw2 [.agg [.i g,.nilslice],.agg [.i j,.nilslice]] (FzW.tuple (ql.cons (FzW.agg (ql.cons (Ua tI) (ql.cons (FzW.nv0 (E:=ZU)) ql.nil))) (ql.cons (FzW.agg (ql.cons (Ua tI) (ql.cons (FzW.nv0 (E:=ZU)) ql.nil))) ql.nil))))
 refine Goes.skip ?_;refine sq ?_;cases h
def qap:Nat->Int->(List Int)->Int->(List Int)->Option (Int×(List Int))
 |0,_,_,_,_=>none
 |K+1,e,f,b,c=>
  (vY (⟨b,c⟩:qY)).bind fun d=>
  if(!decide (d=0))=true then
  (xC (⟨e,f⟩:qY) (⟨b,c⟩:qY)).bind fun a=>
  qap K b c a.2.s a.2.w
  else
  some (e,f)
def qf2 (N:Nat) (a:qY) (b:qY):Option qY:=
 (qa3 a).bind fun c=>
 (qa3 b).bind fun d=>
 (qap N c.s c.w d.s d.w).bind fun(e,f)=>
 some (⟨e,f⟩:qY)
theorem qmY (N:Nat) (a:qY) (b:qY) {res:qY} (h:qf2 N a b=some res):qb ZT (.fn 141) [.agg (nz1 a),.agg (nz1 b)] [] (.agg (nz1 res)) []:=by
 unfold qf2 at h;refine Ub Tryz.func141 rfl rfl (m:=23) rfl (rs:=[.cell 4 115]) rfl (l:=[(0,.agg (nz1 a)),(1,.agg (nz1 b))]) rfl ?_;refine sg fol (kF []) [.cells (nz1 a),.cells (nz1 b),bZ] ?_;obtain⟨p,q,h⟩:=bnd h;obtain⟨t,r,h⟩:=bnd h;refine sq (gq fol [1,3,4,5] (kF []) [.cells (nz1 p),.cells (nz1 t),bZ] (ac (cv (qed a q)) (ac (cv (qed b r)) (ac (hs (.run [0] (qD ZT 115 (.ptr 0 0) (.agg (nz1 p))) [.cells (nz1 a),.cells (nz1 b),bZ] .undef [.cells (nz1 p),.cells (nz1 b),bZ] true) (vC (n:=2) (by kernel_rfl) rfl rfl rfl rfl (cac rfl (cac nvc can)) rfl)) (ac (hs (.run [1] (qD ZT 115 (.ptr 1 0) (.agg (nz1 t))) [.cells (nz1 p),.cells (nz1 b),bZ] .undef [.cells (nz1 p),.cells (nz1 t),bZ] true) (vC (n:=2) (by kernel_rfl) rfl rfl rfl rfl (cac rfl (cac nvc can)) rfl)) az)))) ?_);refine sq (Goes.block ?_);obtain⟨w,g9,h⟩:=bnd h;refine Goes.imp (Q:=fun x s'=>(x= .exit 0/\ ∃f g,(f,g)=w/\Sub s' (ofG 23 [(2,.ptr 0 0),(4,.ptr 1 0)],[.cells (ni1 f g),bZ]))) ?_ ?_
 ·refine Ud (fun M s=> ∃(i:Int) (j:List Int) (d:Int) (e:List Int),s=(ofG 23 (kF []),[.cells (ni1 i j),.cells (ni1 d e),bZ])/\qap M i j d e=some w) ?_ (m:=N) ⟨_,_,_,_,rfl,g9⟩;rintro M s ⟨i,j,d,e,rfl,g9⟩
  cases M with
  |zero=>simp only[qap]at g9;cases g9
  |succ M=>
   rw[qap]at g9;refine sq ?_;obtain⟨u,k,g9⟩:=bnd g9;refine sq (gr fol [1] (kF [(13,.bool (!decide (u=0)))]) (ac (cv (qcd (⟨d,e⟩:qY) k)) az) ?_);refine ihB g9 (fun v g9=>?_) (fun v g9=>?_)
   ·refine Goes.skip ?_;refine Goes.block ?_;obtain⟨c,o,g9⟩:=bnd g9;refine sq (gq fol [2,8,9] (kF [(6,.ptr 4 0)]) [.cells (ni1 i j),.cells (ni1 d e),bZ,.cells (nz1 c.1),.cells (nz1 c.2)] (ac (cv (qda (⟨i,j⟩:qY) (⟨d,e⟩:qY) o)) (ac (hs (.run [3] (qD ZT 115 (.ptr 3 0) (.agg (nz1 c.1))) [.cells (ni1 i j),.cells (ni1 d e),bZ,bZ,bZ] .undef [.cells (ni1 i j),.cells (ni1 d e),bZ,.cells (nz1 c.1),bZ] true) (vC (n:=2) (by kernel_rfl) rfl rfl rfl rfl (cac rfl (cac nvc can)) rfl)) (ac (hs (.run [4] (qD ZT 115 (.ptr 4 0) (.agg (nz1 c.2))) [.cells (ni1 i j),.cells (ni1 d e),bZ,.cells (nz1 c.1),bZ] .undef [.cells (ni1 i j),.cells (ni1 d e),bZ,.cells (nz1 c.1),.cells (nz1 c.2)] true) (vC (n:=2) (by kernel_rfl) rfl rfl rfl rfl (cac rfl (cac nvc can)) rfl)) az))) ?_);refine gq fol [2,3] (kF []) [.cells (ni1 d e),.cells (nz1 c.2),bZ,.cells (nz1 c.1),.cells (nz1 c.2)] (ac (hs (.run [0] (qD ZT 115 (.ptr 0 0) (.agg (ni1 d e))) [.cells (ni1 i j),.cells (ni1 d e),bZ,.cells (nz1 c.1),.cells (nz1 c.2)] .undef [.cells (ni1 d e),.cells (ni1 d e),bZ,.cells (nz1 c.1),.cells (nz1 c.2)] true) (vC (n:=2) (by kernel_rfl) rfl rfl rfl rfl (cac rfl (cac nvc can)) rfl)) (ac (hs (.run [1] (qD ZT 115 (.ptr 1 0) (.agg (nz1 c.2))) [.cells (ni1 d e),.cells (ni1 d e),bZ,.cells (nz1 c.1),.cells (nz1 c.2)] .undef [.cells (ni1 d e),.cells (nz1 c.2),bZ,.cells (nz1 c.1),.cells (nz1 c.2)] true) (vC (n:=2) (by kernel_rfl) rfl rfl rfl rfl (cac rfl (cac nvc can)) rfl)) az)) ?_;exact⟨M,(ofG 23 (kF []),[.cells (ni1 d e),.cells (nz1 c.2),bZ]),Nat.lt_succ_self _,(Sub.norm [] [some 0,some 1,some 2] rfl rfl (.kp (.kp (.kp .nil))) (.kb rfl (.same sn) (.kb rfl (.same sn) (.kb rfl (.same sn) .nil)))),_,_,_,_,rfl,g9⟩
   refine Goes.exit ?_;obtain rfl:=si g9;exact⟨rfl,_,_,rfl,(Sub.norm [] [some 0,some 2] rfl rfl (.kp (.drop (.kp .nil))) (.kb rfl (.same sn) (.kb rfl (.same sn) .nil)))⟩
 rintro x s' ⟨rfl,f,g,rfl,hsub⟩
 try dsimp only at h
 refine Goes.sub hsub ?_;refine sq (gq fol [1] [(4,.ptr 1 0)] [.cells (ni1 f g),.cells (ni1 f g)] (ac (hs (.run [1] (qD ZT 115 (.ptr 1 0) (.agg (ni1 f g))) [.cells (ni1 f g),bZ] .undef [.cells (ni1 f g),.cells (ni1 f g)] true) (vC (n:=2) (by kernel_rfl) rfl rfl rfl rfl (cac rfl (cac nvc can)) rfl)) az) ?_);refine Goes.ret ?_;obtain rfl:=si h;exact(gw2 [.agg (ni1 f g)] (FzW.agg (ql.cons (Ua tI) (ql.cons (Ua (qB ZU _ (nl rfl))) ql.nil))))
def qa4 (a:qY) (b:qY):Option qY:=
 (vY b).bind fun f=>
 ((if f<0 then
 (jY a).bind fun d=>
 (jY b).bind fun e=>
 some (d.s,d.w,e.s,e.w)
 else
 some (a.s,a.w,b.s,b.w):Option (Int×(List Int)×Int×(List Int)))).bind fun(g,h,i,j)=>
 (xC (⟨g,h⟩:qY) (⟨i,j⟩:qY)).bind fun c=>
 some c.1
theorem qeh (a:qY) (b:qY) {res:qY} (h:qa4 a b=some res):qb ZT (.fn 261) [.agg (nz1 a),.agg (nz1 b)] [] (.agg (nz1 res)) []:=by
 unfold qa4 at h;refine Ub Tryz.func261 rfl rfl (m:=21) rfl (rs:=[.cell 4 115]) rfl (l:=[(0,.agg (nz1 a)),(1,.agg (nz1 b))]) rfl ?_;refine sg fol (kF []) [.cells (nz1 a),.cells (nz1 b),bZ] ?_;refine sq ?_;obtain⟨r,j,h⟩:=bnd h;refine sq (gr fol [1] (kF [(9,.bool (decide (r<0)))]) (ac (cv (qcd b j)) az) ?_);obtain⟨s,g6,h⟩:=bnd h;refine Goes.imp (Q:=fun x s'=>(x= .normal/\ ∃d e f g,(d,e,f,g)=s/\Sub s' (ofG 21 (kF []),[.cells (ni1 d e),.cells (ni1 f g),bZ]))) ?_ ?_
 ·refine ihD g6 (fun t g6=>?_) (fun t g6=>?_)
  ·obtain⟨k,o,g6⟩:=bnd g6;obtain⟨q,p,g6⟩:=bnd g6;refine gq fol [1,3,4,5] (kF []) [.cells (nz1 k),.cells (nz1 q),bZ] (ac (cv (xA a o)) (ac (cv (xA b p)) (ac (hs (.run [0] (qD ZT 115 (.ptr 0 0) (.agg (nz1 k))) [.cells (nz1 a),.cells (nz1 b),bZ] .undef [.cells (nz1 k),.cells (nz1 b),bZ] true) (vC (n:=2) (by kernel_rfl) rfl rfl rfl rfl (cac rfl (cac nvc can)) rfl)) (ac (hs (.run [1] (qD ZT 115 (.ptr 1 0) (.agg (nz1 q))) [.cells (nz1 k),.cells (nz1 b),bZ] .undef [.cells (nz1 k),.cells (nz1 q),bZ] true) (vC (n:=2) (by kernel_rfl) rfl rfl rfl rfl (cac rfl (cac nvc can)) rfl)) az)))) ?_;obtain rfl:=si g6;exact⟨rfl,_,_,_,_,rfl,(Sub.refl _)⟩
  refine Goes.skip ?_;obtain rfl:=si g6;exact⟨rfl,_,_,_,_,rfl,(Sub.keep [2,3,4] rfl rfl)⟩
 rintro x s' ⟨rfl,d,e,f,g,rfl,hsub⟩
 try dsimp only at h
 refine Goes.sub hsub ?_;obtain⟨c,i,h⟩:=bnd h;refine sq (gq fol [2,8,9] [(4,.ptr 2 0),(5,.ptr 3 0)] [.cells (ni1 d e),.cells (ni1 f g),bZ,.cells (nz1 c.1),.cells (nz1 c.2)] (ac (cv (qda (⟨d,e⟩:qY) (⟨f,g⟩:qY) i)) (ac (hs (.run [3] (qD ZT 115 (.ptr 3 0) (.agg (nz1 c.1))) [.cells (ni1 d e),.cells (ni1 f g),bZ,bZ,bZ] .undef [.cells (ni1 d e),.cells (ni1 f g),bZ,.cells (nz1 c.1),bZ] true) (vC (n:=2) (by kernel_rfl) rfl rfl rfl rfl (cac rfl (cac nvc can)) rfl)) (ac (hs (.run [4] (qD ZT 115 (.ptr 4 0) (.agg (nz1 c.2))) [.cells (ni1 d e),.cells (ni1 f g),bZ,.cells (nz1 c.1),bZ] .undef [.cells (ni1 d e),.cells (ni1 f g),bZ,.cells (nz1 c.1),.cells (nz1 c.2)] true) (vC (n:=2) (by kernel_rfl) rfl rfl rfl rfl (cac rfl (cac nvc can)) rfl)) az))) ?_);refine sq (gq fol [1] kAz [.cells (ni1 d e),.cells (ni1 f g),.cells (nz1 c.1),.cells (nz1 c.1),.cells (nz1 c.2)] (ac (hs (.run [2] (qD ZT 115 (.ptr 2 0) (.agg (nz1 c.1))) [.cells (ni1 d e),.cells (ni1 f g),bZ,.cells (nz1 c.1),.cells (nz1 c.2)] .undef [.cells (ni1 d e),.cells (ni1 f g),.cells (nz1 c.1),.cells (nz1 c.1),.cells (nz1 c.2)] true) (vC (n:=2) (by kernel_rfl) rfl rfl rfl rfl (cac rfl (cac nvc can)) rfl)) az) ?_);refine Goes.ret ?_;obtain rfl:=si h;exact(gw2 [.agg (nz1 c.1)] (FzW.agg (ql.cons (Ua tI) (ql.cons (Ua (qB ZU _ (nl rfl))) ql.nil))))
def qbS (N:Nat) (num:qY) (den:qY):Option qo:=
 (vY den).bind fun k=>
 ((if k<0 then
 (jY num).bind fun i=>
 (jY den).bind fun j=>
 some (i.s,i.w,j.s,j.w)
 else
 some (num.s,num.w,den.s,den.w):Option (Int×(List Int)×Int×(List Int)))).bind fun(d,e,b,c)=>
 (if c.isEmpty=true then
 some (decide (b=1))
 else
 some false:Option Bool).bind fun f=>
 if f=true then
 some (⟨(⟨d,e⟩:qY),(⟨b,c⟩:qY)⟩:qo)
 else
 (qf2 N (⟨d,e⟩:qY) (⟨b,c⟩:qY)).bind fun a=>
 (qa4 (⟨d,e⟩:qY) a).bind fun g=>
 (qa4 (⟨b,c⟩:qY) a).bind fun h=>
 some (⟨g,h⟩:qo)
theorem qez (N:Nat) (num:qY) (den:qY) {res:qo} (h:qbS N num den=some res):qb ZT (.fn 200) [.agg (nz1 num),.agg (nz1 den)] [] (.agg (nq1 res)) []:=by
 unfold qbS at h;refine Ub Tryz.func200 rfl rfl (m:=34) rfl (rs:=[.cell 4 117]) rfl (l:=[(0,.agg (nz1 num)),(1,.agg (nz1 den))]) rfl ?_;refine sg fol (kF []) (.cells (nz1 num):: .cells (nz1 den)::(kH [])) ?_;refine sq ?_;obtain⟨A,q,h⟩:=bnd h;refine sq (gr fol [1] (kF [(8,.bool (decide (A<0)))]) (ac (cv (qcd den q)) az) ?_);obtain⟨B,g6,h⟩:=bnd h;refine Goes.imp (Q:=fun x s'=>(x= .normal/\ ∃d e c a,(d,e,c,a)=B/\Sub s' (ofG 34 (kF []),(.cells (ni1 d e):: .cells (ni1 c a)::(kH []))))) ?_ ?_
 ·refine ihD g6 (fun C g6=>?_) (fun C g6=>?_)
  ·obtain⟨r,t,g6⟩:=bnd g6;obtain⟨v,u,g6⟩:=bnd g6;refine gq fol [1,3,4,5] (kF []) (.cells (nz1 r):: .cells (nz1 v)::(kH [])) (ac (cv (xA num t)) (ac (cv (xA den u)) (ac (hs (.run [0] (qD ZT 115 (.ptr 0 0) (.agg (nz1 r))) (.cells (nz1 num):: .cells (nz1 den)::(kH [])) .undef (.cells (nz1 r):: .cells (nz1 den)::(kH [])) true) (vC (n:=2) (by kernel_rfl) rfl rfl rfl rfl (cac rfl (cac nvc can)) rfl)) (ac (hs (.run [1] (qD ZT 115 (.ptr 1 0) (.agg (nz1 v))) (.cells (nz1 r):: .cells (nz1 den)::(kH [])) .undef (.cells (nz1 r):: .cells (nz1 v)::(kH [])) true) (vC (n:=2) (by kernel_rfl) rfl rfl rfl rfl (cac rfl (cac nvc can)) rfl)) az)))) ?_;obtain rfl:=si g6;exact⟨rfl,_,_,_,_,rfl,(Sub.refl _)⟩
  refine Goes.skip ?_;obtain rfl:=si g6;exact⟨rfl,_,_,_,_,rfl,(Sub.keep [2,3,4] rfl rfl)⟩
 rintro x s' ⟨rfl,d,e,c,a,rfl,hsub⟩
 try dsimp only at h
 refine Goes.sub hsub ?_;refine sq ?_;refine sq ?_;obtain⟨y,b,h⟩:=bnd h;refine Goes.cut (s':=(ofG 34 (kF [(20,.bool y)]),(.cells (ni1 d e):: .cells (ni1 c a)::(kH [])))) ?_ ?_
 ·rcases wyB b with⟨j,b⟩|⟨j,b⟩
  ·obtain rfl:=si b;exact tr fol [2,3] (kF [(20,.bool (decide (c=1)))]) (ac (hs (.done (.opt (qab ZT .eql 113 (.tmp 14) (.const (.slice none 0 0)) (nvl ZU a) .nilslice)) (.bool a.isEmpty)) (qbc xn)) (ac (gw j) az))
  obtain rfl:=si b;exact tr fol [2,3] (kF [(20,.bool false)]) (ac (hs (.done (.opt (qab ZT .eql 113 (.tmp 14) (.const (.slice none 0 0)) (nvl ZU a) .nilslice)) (.bool a.isEmpty)) (qbc xn)) (ac (gw j) az))
 refine ihB h (fun z h=>?_) (fun z h=>?_)
 ·refine sq (gq fol [3] kAz [.cells (ni1 d e),.cells (ni1 c a),.cells (ni2 d e c a)] (ac (hs (.run [2] (qD ZT 117 (.ptr 2 0) (.agg (ni2 d e c a))) (.cells (ni1 d e):: .cells (ni1 c a)::(kH [])) .undef [.cells (ni1 d e),.cells (ni1 c a),.cells (ni2 d e c a)] true) (vC (n:=4) (by kernel_rfl) rfl rfl rfl rfl (cac rfl (cac nvc (cac rfl (cac nvc can)))) rfl)) az) ?_);refine Goes.ret ?_;obtain rfl:=si h;exact(gw2 [.agg (ni2 d e c a)] (FzW.agg (ql.cons (Ua tI) (ql.cons (Ua (qB ZU _ (nl rfl))) (ql.cons (Ua tI) (ql.cons (Ua (qB ZU _ (nl rfl))) ql.nil))))))
 refine Goes.skip ?_;obtain⟨f,k,h⟩:=bnd h;refine sq (gq fol [2,4] (kF [(5,.ptr 3 0)]) (.cells (ni1 d e):: .cells (ni1 c a)::(kH [.cells (nz1 f)])) (ac (cv (qmY N (⟨d,e⟩:qY) (⟨c,a⟩:qY) k)) (ac (hs (.run [3] (qD ZT 115 (.ptr 3 0) (.agg (nz1 f))) (.cells (ni1 d e):: .cells (ni1 c a)::(kH [bZ])) .undef (.cells (ni1 d e):: .cells (ni1 c a)::(kH [.cells (nz1 f)])) true) (vC (n:=2) (by kernel_rfl) rfl rfl rfl rfl (cac rfl (cac nvc can)) rfl)) az)) ?_);obtain⟨g,o,h⟩:=bnd h;obtain⟨i,p,h⟩:=bnd h;refine sq (gq fol [2,5,7] kAz [.cells (ni1 d e),.cells (ni1 c a),.cells (ni2 g.s g.w i.s i.w),.cells (nz1 f)] (ac (cv (qeh (⟨d,e⟩:qY) f o)) (ac (cv (qeh (⟨c,a⟩:qY) f p)) (ac (hs (.run [2] (qD ZT 117 (.ptr 2 0) (.agg (ni2 g.s g.w i.s i.w))) (.cells (ni1 d e):: .cells (ni1 c a)::(kH [.cells (nz1 f)])) .undef [.cells (ni1 d e),.cells (ni1 c a),.cells (ni2 g.s g.w i.s i.w),.cells (nz1 f)] true) (vC (n:=4) (by kernel_rfl) rfl rfl rfl rfl (cac rfl (cac nvc (cac rfl (cac nvc can)))) rfl)) az))) ?_);refine Goes.ret ?_;obtain rfl:=si h;exact(gw2 [.agg (ni2 g.s g.w i.s i.w)] (FzW.agg (ql.cons (Ua tI) (ql.cons (Ua (qB ZU _ (nl rfl))) (ql.cons (Ua tI) (ql.cons (Ua (qB ZU _ (nl rfl))) ql.nil))))))
def yj (a:qo):Option Bool:=
 (if a.Den.w.isEmpty=true then
 some (decide (a.Den.s=1))
 else
 some false:Option Bool).bind fun b=>
 some b
theorem qaL (a:qo) {res:Bool} (h:yj a=some res):qb ZT (.fn 201) [.agg (nq1 a)] [] (.bool res) []:=by
 unfold yj at h;refine Ub Tryz.func201 rfl rfl (m:=13) rfl (rs:=[.tmp 2]) rfl (l:=[(0,.agg (nq1 a))]) rfl ?_;refine sg fol [(1,.ptr 0 0)] [.cells (nq1 a)] ?_;refine sq ?_;obtain⟨d,b,h⟩:=bnd h;refine Goes.cut (s':=(ofG 13 [(2,.bool d)],[.cells (nq1 a)])) ?_ ?_
 ·rcases wyB b with⟨c,b⟩|⟨c,b⟩
  ·obtain rfl:=si b;exact tr fol [3,4] [(2,.bool (decide (a.Den.s=1)))] (ac (hs (.done (.opt (qab ZT .eql 113 (.tmp 5) (.const (.slice none 0 0)) (nvl ZU a.Den.w) .nilslice)) (.bool a.Den.w.isEmpty)) (qbc xn)) (ac (gw c) az))
  obtain rfl:=si b;exact tr fol [3,4] [(2,.bool false)] (ac (hs (.done (.opt (qab ZT .eql 113 (.tmp 5) (.const (.slice none 0 0)) (nvl ZU a.Den.w) .nilslice)) (.bool a.Den.w.isEmpty)) (qbc xn)) (ac (gw c) az))
 refine Goes.ret ?_;obtain rfl:=si h;exact(gw2 [.bool d] (Ua tB))
def xO (N:Nat) (a:qo) (b:qo):Option qo:=
 ((yj a).bind fun g=>
 if g=true then
 (yj b).bind fun h=>
 some h
 else
 some false:Option Bool).bind fun i=>
 if i=true then
 (qay a.Num b.Num).bind fun j=>
 (qcz j).bind fun k=>
 some k
 else
 (jo a.Num b.Den).bind fun l=>
 (jo b.Num a.Den).bind fun c=>
 (qay l c).bind fun d=>
 (jo a.Den b.Den).bind fun e=>
 (qbS N d e).bind fun f=>
 some f
theorem qce (N:Nat) (a:qo) (b:qo) {res:qo} (h:xO N a b=some res):qb ZT (.fn 148) [.agg (nq1 a),.agg (nq1 b)] [] (.agg (nq1 res)) []:=by
 unfold xO at h;refine Ub Tryz.func148 rfl rfl (m:=34) rfl (rs:=[.cell 4 117]) rfl (l:=[(0,.agg (nq1 a)),(1,.agg (nq1 b))]) rfl ?_;refine sg fol (kF []) (.cells (nq1 a):: .cells (nq1 b)::(kH [])) ?_;refine sq ?_;refine sq ?_;obtain⟨w,c,h⟩:=bnd h;refine Goes.cut (s':=(ofG 34 (kF (kA9 w)),(.cells (nq1 a):: .cells (nq1 b)::(kH [])))) ?_ ?_
 ·obtain⟨A,e,c⟩:=bnd c;rcases wyB c with⟨s,c⟩|⟨s,c⟩
  ·obtain⟨x,k,c⟩:=bnd c;obtain rfl:=si c;exact tr fol [1,2,4] (kF (kA9 x)) (ac (cv (qaL a e)) (ac (gw s) (ac (cv (qaL b k)) az)))
  obtain rfl:=si c;exact tr fol [1,2] (kF [(10,.bool false)]) (ac (cv (qaL a e)) (ac (gw s) az))
 refine ihB h (fun c6 h=>?_) (fun c6 h=>?_)
 ·obtain⟨y,o,h⟩:=bnd h;obtain⟨r,p,h⟩:=bnd h;refine sq (gq fol [4,5,6] kAz [.cells (nq1 a),.cells (nq1 b),.cells (nq1 r)] (ac (cv (qeu a.Num b.Num o)) (ac (cv (qf5 y p)) (ac (hs (.run [2] (qD ZT 117 (.ptr 2 0) (.agg (nq1 r))) (.cells (nq1 a):: .cells (nq1 b)::(kH [])) .undef [.cells (nq1 a),.cells (nq1 b),.cells (nq1 r)] true) (vC (n:=4) (by kernel_rfl) rfl rfl rfl rfl (cac rfl (cac nvc (cac rfl (cac nvc can)))) rfl)) az))) ?_);refine Goes.ret ?_;obtain rfl:=si h;exact(gw2 [.agg (nq1 r)] (FzW.agg (ql.cons (Ua tI) (ql.cons (Ua (qB ZU _ (nl rfl))) (ql.cons (Ua tI) (ql.cons (Ua (qB ZU _ (nl rfl))) ql.nil))))))
 refine Goes.skip ?_;obtain⟨z,q,h⟩:=bnd h;obtain⟨t,f,h⟩:=bnd h;obtain⟨u,g,h⟩:=bnd h;obtain⟨v,i,h⟩:=bnd h;obtain⟨d,j,h⟩:=bnd h;refine sq (gq fol [4,9,10,15,16,17] kAz [.cells (nq1 a),.cells (nq1 b),.cells (nq1 d)] (ac (cv (yI a.Num b.Den q)) (ac (cv (yI b.Num a.Den f)) (ac (cv (qeu z t g)) (ac (cv (yI a.Den b.Den i)) (ac (cv (qez N u v j)) (ac (hs (.run [2] (qD ZT 117 (.ptr 2 0) (.agg (nq1 d))) (.cells (nq1 a):: .cells (nq1 b)::(kH [])) .undef [.cells (nq1 a),.cells (nq1 b),.cells (nq1 d)] true) (vC (n:=4) (by kernel_rfl) rfl rfl rfl rfl (cac rfl (cac nvc (cac rfl (cac nvc can)))) rfl)) az)))))) ?_);refine Goes.ret ?_;obtain rfl:=si h;exact(gw2 [.agg (nq1 d)] (FzW.agg (ql.cons (Ua tI) (ql.cons (Ua (qB ZU _ (nl rfl))) (ql.cons (Ua tI) (ql.cons (Ua (qB ZU _ (nl rfl))) ql.nil))))))
def qbl (a:qo):Option qo:=
 (jY a.Num).bind fun b=>
 some (⟨b,a.Den⟩:qo)
theorem qhb (a:qo) {res:qo} (h:qbl a=some res):qb ZT (.fn 260) [.agg (nq1 a)] [] (.agg (nq1 res)) []:=by
 unfold qbl at h;refine Ub Tryz.func260 rfl rfl (m:=9) rfl (rs:=[.cell 2 117]) rfl (l:=[(0,.agg (nq1 a))]) rfl ?_;refine sg fol (kAf []) (.cells (nq1 a)::(kH [])) ?_;obtain⟨b,c,h⟩:=bnd h;refine sq (gq fol [2,6] [(2,.ptr 1 0)] [.cells (nq1 a),.cells (ni2 b.s b.w a.Den.s a.Den.w)] (ac (cv (xA a.Num c)) (ac (hs (.run [1] (qD ZT 117 (.ptr 1 0) (.agg (ni2 b.s b.w a.Den.s a.Den.w))) (.cells (nq1 a)::(kH [])) .undef [.cells (nq1 a),.cells (ni2 b.s b.w a.Den.s a.Den.w)] true) (vC (n:=4) (by kernel_rfl) rfl rfl rfl rfl (cac rfl (cac nvc (cac rfl (cac nvc can)))) rfl)) az)) ?_);refine Goes.ret ?_;obtain rfl:=si h;exact(gw2 [.agg (ni2 b.s b.w a.Den.s a.Den.w)] (FzW.agg (ql.cons (Ua tI) (ql.cons (Ua (qB ZU _ (nl rfl))) (ql.cons (Ua tI) (ql.cons (Ua (qB ZU _ (nl rfl))) ql.nil))))))
def qaE (N:Nat) (a:qo) (b:qo):Option qo:=
 (qbl b).bind fun c=>
 (xO N a c).bind fun d=>
 some d
theorem qd6 (N:Nat) (a:qo) (b:qo) {res:qo} (h:qaE N a b=some res):qb ZT (.fn 198) [.agg (nq1 a),.agg (nq1 b)] [] (.agg (nq1 res)) []:=by
 unfold qaE at h;refine Ub Tryz.func198 rfl rfl (m:=9) rfl (rs:=[.cell 4 117]) rfl (l:=[(0,.agg (nq1 a)),(1,.agg (nq1 b))]) rfl ?_;refine sg fol (kF []) (.cells (nq1 a):: .cells (nq1 b)::(kH [])) ?_;obtain⟨f,c,h⟩:=bnd h;obtain⟨e,d,h⟩:=bnd h;refine sq (gq fol [2,3,4] kAz [.cells (nq1 a),.cells (nq1 b),.cells (nq1 e)] (ac (cv (qhb b c)) (ac (cv (qce N a f d)) (ac (hs (.run [2] (qD ZT 117 (.ptr 2 0) (.agg (nq1 e))) (.cells (nq1 a):: .cells (nq1 b)::(kH [])) .undef [.cells (nq1 a),.cells (nq1 b),.cells (nq1 e)] true) (vC (n:=4) (by kernel_rfl) rfl rfl rfl rfl (cac rfl (cac nvc (cac rfl (cac nvc can)))) rfl)) az))) ?_);refine Goes.ret ?_;obtain rfl:=si h;exact(gw2 [.agg (nq1 e)] (FzW.agg (ql.cons (Ua tI) (ql.cons (Ua (qB ZU _ (nl rfl))) (ql.cons (Ua tI) (ql.cons (Ua (qB ZU _ (nl rfl))) ql.nil))))))
def qaA (N:Nat) (a:qo):Option qo:=
 (qbS N a.Den a.Num).bind fun b=>
 some b
theorem qd7 (N:Nat) (a:qo) {res:qo} (h:qaA N a=some res):qb ZT (.fn 199) [.agg (nq1 a)] [] (.agg (nq1 res)) []:=by
 unfold qaA at h;refine Ub Tryz.func199 rfl rfl (m:=8) rfl (rs:=[.cell 2 117]) rfl (l:=[(0,.agg (nq1 a))]) rfl ?_;refine sg fol (kAf []) (.cells (nq1 a)::(kH [])) ?_;obtain⟨c,b,h⟩:=bnd h;refine sq (gq fol [4,5] [(2,.ptr 1 0)] [.cells (nq1 a),.cells (nq1 c)] (ac (cv (qez N a.Den a.Num b)) (ac (hs (.run [1] (qD ZT 117 (.ptr 1 0) (.agg (nq1 c))) (.cells (nq1 a)::(kH [])) .undef [.cells (nq1 a),.cells (nq1 c)] true) (vC (n:=4) (by kernel_rfl) rfl rfl rfl rfl (cac rfl (cac nvc (cac rfl (cac nvc can)))) rfl)) az)) ?_);refine Goes.ret ?_;obtain rfl:=si h;exact(gw2 [.agg (nq1 c)] (FzW.agg (ql.cons (Ua tI) (ql.cons (Ua (qB ZU _ (nl rfl))) (ql.cons (Ua tI) (ql.cons (Ua (qB ZU _ (nl rfl))) ql.nil))))))
def qb1 (N:Nat) (letter:Int) (t:qo):Option ((qo×qo)×(qo×qo)):=
 (qgi 1).bind fun a=>
 (qgi 0).bind fun b=>
 if letter>0 then
 (qaE N a t).bind fun c=>
 some ((c,t),(a,b))
 else
 (qaA N t).bind fun d=>
 (qaA N t).bind fun e=>
 (qaE N a e).bind fun f=>
 some ((b,a),(d,f))
theorem qiB (N:Nat) (letter:Int) (t:qo) {res:((qo×qo)×(qo×qo))} (h:qb1 N letter t=some res):qb ZT (.fn 146) [.i letter,.agg (nq1 t)] [] (.agg (nb4 res)) []:=by
 unfold qb1 at h;refine Ub Tryz.func146 rfl rfl (m:=31) rfl (rs:=[.cell 4 172]) rfl (l:=[(0,.i letter),(1,.agg (nq1 t))]) rfl ?_;refine sg fol [(0,.i letter),(3,.ptr 0 0),(4,.ptr 1 0)] (.cells (nq1 t)::(kL [])) ?_;obtain⟨a,c,h⟩:=bnd h;obtain⟨b,d,h⟩:=bnd h;refine sq (gq fol [0,1,4,5] ((0,.i letter)::(kBL [(6,.ptr 3 0)])) (.cells (nq1 t)::(kL [.cells (nq1 a),.cells (nq1 b)])) (ac (cv (qdv 1 c)) (ac (cv (qdv 0 d)) (ac (hs (.run [2] (qD ZT 117 (.ptr 2 0) (.agg (nq1 a))) (.cells (nq1 t)::(kL (kH (kH [])))) .undef (.cells (nq1 t)::(kL (.cells (nq1 a)::(kH [])))) true) (vC (n:=4) (by kernel_rfl) rfl rfl rfl rfl (cac rfl (cac nvc (cac rfl (cac nvc can)))) rfl)) (ac (hs (.run [3] (qD ZT 117 (.ptr 3 0) (.agg (nq1 b))) (.cells (nq1 t)::(kL (.cells (nq1 a)::(kH [])))) .undef (.cells (nq1 t)::(kL [.cells (nq1 a),.cells (nq1 b)])) true) (vC (n:=4) (by kernel_rfl) rfl rfl rfl rfl (cac rfl (cac nvc (cac rfl (cac nvc can)))) rfl)) az)))) ?_);refine sq ?_;refine sh fol (kBL ((6,.ptr 3 0)::(kA9 (decide (letter>0))))) ?_;refine ihD h (fun q h=>?_) (fun q h=>?_)
 ·obtain⟨k,e,h⟩:=bnd h;refine sq (gq fol [2,9] [(4,.ptr 1 0)] [.cells (nq1 t),.cells (nq4 k t a b),.cells (nq1 a),.cells (nq1 b)] (ac (cv (qd6 N a t e)) (ac (hs (.run [1] (qD ZT 172 (.ptr 1 0) (.agg (nq4 k t a b))) (.cells (nq1 t)::(kL [.cells (nq1 a),.cells (nq1 b)])) .undef [.cells (nq1 t),.cells (nq4 k t a b),.cells (nq1 a),.cells (nq1 b)] true) (vC (n:=16) (by kernel_rfl) rfl rfl rfl rfl (cac rfl (cac nvc (cac rfl (cac nvc (cac rfl (cac nvc (cac rfl (cac nvc (cac rfl (cac nvc (cac rfl (cac nvc (cac rfl (cac nvc (cac rfl (cac nvc can)))))))))))))))) rfl)) az)) ?_);refine Goes.ret ?_;obtain rfl:=si h;exact(gw2 [.agg (nq4 k t a b)] (FzW.agg (ql.cons (Ua tI) (ql.cons (Ua (qB ZU _ (nl rfl))) (ql.cons (Ua tI) (ql.cons (Ua (qB ZU _ (nl rfl))) (ql.cons (Ua tI) (ql.cons (Ua (qB ZU _ (nl rfl))) (ql.cons (Ua tI) (ql.cons (Ua (qB ZU _ (nl rfl))) (ql.cons (Ua tI) (ql.cons (Ua (qB ZU _ (nl rfl))) (ql.cons (Ua tI) (ql.cons (Ua (qB ZU _ (nl rfl))) (ql.cons (Ua tI) (ql.cons (Ua (qB ZU _ (nl rfl))) (ql.cons (Ua tI) (ql.cons (Ua (qB ZU _ (nl rfl))) ql.nil))))))))))))))))))
 refine Goes.skip ?_;obtain⟨o,f,h⟩:=bnd h;obtain⟨r,g,h⟩:=bnd h;obtain⟨p,j,h⟩:=bnd h;refine sq (gq fol [4,7,8,11] [(4,.ptr 1 0)] [.cells (nq1 t),.cells (nq4 b a o p),.cells (nq1 a),.cells (nq1 b)] (ac (cv (qd7 N t f)) (ac (cv (qd7 N t g)) (ac (cv (qd6 N a r j)) (ac (hs (.run [1] (qD ZT 172 (.ptr 1 0) (.agg (nq4 b a o p))) (.cells (nq1 t)::(kL [.cells (nq1 a),.cells (nq1 b)])) .undef [.cells (nq1 t),.cells (nq4 b a o p),.cells (nq1 a),.cells (nq1 b)] true) (vC (n:=16) (by kernel_rfl) rfl rfl rfl rfl (cac rfl (cac nvc (cac rfl (cac nvc (cac rfl (cac nvc (cac rfl (cac nvc (cac rfl (cac nvc (cac rfl (cac nvc (cac rfl (cac nvc (cac rfl (cac nvc can)))))))))))))))) rfl)) az)))) ?_);refine Goes.ret ?_;obtain rfl:=si h;exact(gw2 [.agg (nq4 b a o p)] (FzW.agg (ql.cons (Ua tI) (ql.cons (Ua (qB ZU _ (nl rfl))) (ql.cons (Ua tI) (ql.cons (Ua (qB ZU _ (nl rfl))) (ql.cons (Ua tI) (ql.cons (Ua (qB ZU _ (nl rfl))) (ql.cons (Ua tI) (ql.cons (Ua (qB ZU _ (nl rfl))) (ql.cons (Ua tI) (ql.cons (Ua (qB ZU _ (nl rfl))) (ql.cons (Ua tI) (ql.cons (Ua (qB ZU _ (nl rfl))) (ql.cons (Ua tI) (ql.cons (Ua (qB ZU _ (nl rfl))) (ql.cons (Ua tI) (ql.cons (Ua (qB ZU _ (nl rfl))) ql.nil))))))))))))))))))
end Go.Av
