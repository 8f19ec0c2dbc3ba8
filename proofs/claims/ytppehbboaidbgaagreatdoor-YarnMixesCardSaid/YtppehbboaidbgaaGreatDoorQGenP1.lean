/-
  Walks of functions: what each computes, as a plain function.
-/
import Derived.Test.YtppehbboaidbgaaGreatDoorAvJnP
open Go.IntKind(wrap)
noncomputable section
namespace Go.Av
open Go.Proofs Go.RowKit
abbrev ZU:=qa .u64
abbrev ZT:=Tryz.prog
set_option linter.unusedSectionVars false
set_option linter.unusedVariables false
set_option linter.unusedSimpArgs false
set_option maxRecDepth 100000
theorem fol:Tryz.prog.follows .mixedOrders=true:=by kernel_rfl
structure qL where
 X:Str
 Y:Str
def qg:Enc qL:=(encS.prod encS).comap fun x=>(x.X,x.Y)
instance:SE qg:=⟨nl rfl⟩
structure qh where
 Name:Str
 Density:Str
 Twist:Str
 Strength:List qL
 Dye:Str
def qc:Enc qh:=(encS.prod (encS.prod (encS.prod ((qlQ qg).prod encS)))).comap fun x=>(x.Name,x.Density,x.Twist,x.Strength,x.Dye)
instance:SE qc:=⟨nl rfl⟩
structure qp where
 s:Int
 w:List Int
def qkn:Enc qp:=(encI.prod (encN ZU)).comap fun x=>(x.s,x.w)
instance:SE qkn:=⟨nl rfl⟩
structure qC where
 Num:qp
 Den:qp
def qo3:Enc qC:=(qkn.prod qkn).comap fun x=>(x.Num,x.Den)
instance:SE qo3:=⟨nl rfl⟩
structure qI where
 neg:Bool
 w:List Int
def qlk:Enc qI:=(encB.prod (qlQ encI)).comap fun x=>(x.neg,x.w)
instance:SE qlk:=⟨nl rfl⟩
structure qrQ where
 Name:Str
 Twist:Str
 Factor:Str
def qnF:Enc qrQ:=(encS.prod (encS.prod encS)).comap fun x=>(x.Name,x.Twist,x.Factor)
instance:SE qnF:=⟨nl rfl⟩
abbrev kA (a:Str) (b:Str) (c:Str) (d:List qL) (e:Str) (x:List Blk):List Blk:= .cells [.str a,.str b,.str c,vl qg d,.str e]::x
abbrev kB {α3:Type} {α4:Type} (a:List Int) (b:List Int) (c:Int) (d:List α3) (e:List α4) (f:Int) (x:List (Nat×AV)):List (Nat×AV):=(8,vl encI a)::(9,vl encI b)::(10,.i c)::(11,.oslice 0 d.length 1)::(12,.slice 1 0 e.length e.length 1)::(13,.i f)::x
abbrev kC (x:List Blk):List Blk:= .cells [.i 0,.nilslice,.i 0,.nilslice]::x
abbrev kD (a:List Int) (x:List Blk):List Blk:= .cells (a.flatMap encI.c)::x
abbrev kE {α0:Type} (a:List α0) (x:List (Nat×AV)):List (Nat×AV):=(5,.slice 0 0 a.length a.length 1)::x
abbrev kF (x:List Blk):List Blk:= .cells [.str [],.str [],.str [],.nilslice,.str []]::x
abbrev kG (x:List (Nat×AV)):List (Nat×AV):=(2,.ptr 0 0)::(3,.ptr 1 0)::(4,.ptr 2 0)::x
abbrev kH {α0:Type} {α2:Type} (a:List α0) (b:Int) (c:List α2) (x:List (Nat×AV)):List (Nat×AV):=(11,.slice 0 0 a.length a.length 1)::(12,.i b)::(13,.slice 1 0 c.length c.length 1)::x
abbrev kI (a:List Int) (b:List Int) (x:List (Nat×AV)):List (Nat×AV):=(0,vl encI a)::(1,vl encI b)::x
abbrev kJ (a:List qh) (b:Str) (c:Str) (x:List (Nat×AV)):List (Nat×AV):=(0,vl qc a)::(1,.str b)::(2,.str c)::x
abbrev kK (a:Int) (b:Int) (c:Int) (d:Int) (x:List (Nat×AV)):List (Nat×AV):=(2,.int .u64 a)::(8,.int .u64 b)::(9,.int .u64 c)::(10,.int .u64 d)::x
abbrev kM (a:Str) (b:List qh) (c:Str) (x:List (Nat×AV)):List (Nat×AV):=(0,.str a)::(1,vl qc b)::(2,.str c)::x
abbrev kN (a:Bool) (b:List Int) (c:Bool) (d:List Int) (x:List Blk):List Blk:= .cells [.bool a,vl encI b]:: .cells [.bool c,vl encI d]::x
abbrev kO (a:List qh) (x:List Blk):List Blk:= .cells [vl qc a]::x
abbrev kP (a:Str) (b:Str) (c:Int) (d:Str) (e:Str) (x:List (Nat×AV)):List (Nat×AV):=(1,.str a)::(2,.str b)::(14,.ptr 0 0)::(15,.i c)::(16,.ptr 1 0)::(18,.ptr 2 0)::(20,.str d)::(21,.str e)::x
abbrev kQ (x:List (Nat×AV)):List (Nat×AV):=(2,.ptr 0 0)::x
abbrev kR (a:Int) (b:Int) (c:Int) (x:List (Nat×AV)):List (Nat×AV):=(14,.int .u64 a)::(15,.int .u64 b)::(16,.int .u64 c)::x
abbrev kS (x:List Blk):List Blk:= .cells [.bool false,.nilslice]::x
abbrev kT (a:Str) (b:Str) (x:List (Nat×AV)):List (Nat×AV):=(0,.str a)::(1,.str b)::x
abbrev kU (a:Int) (b:Int) (x:List (Nat×AV)):List (Nat×AV):=(5,.i a)::(6,.int .u64 b)::x
abbrev kV (x:List (Nat×AV)):List (Nat×AV):=(1,.ptr 0 0)::x
abbrev kW (a:Int) (b:Str) (x:List (Nat×AV)):List (Nat×AV):=(8,.ptr 0 0)::(11,.ptr 1 0)::(12,.ptr 2 0)::(13,.i a)::(14,.str b)::x
abbrev kX {α0:Type} (a:List α0) (x:List (Nat×AV)):List (Nat×AV):=(6,.slice 0 0 a.length a.length 1)::x
abbrev kY (a:List qh) (b:Int) (c:Int) (x:List (Nat×AV)):List (Nat×AV):=(56,vl qc a)::(57,.i b)::(58,.i c)::x
abbrev kAA (a:Int) (b:Int) (x:List (Nat×AV)):List (Nat×AV):=(0,.int .u64 a)::(1,.int .u64 b)::x
abbrev kAB (a:List Str) (x:List Blk):List Blk:= .cells (a.flatMap encS.c)::x
abbrev kAC (a:Int) (b:Int) (x:List (Nat×AV)):List (Nat×AV):=(11,.int .u64 a)::(12,.int .u64 b)::x
abbrev kAD (a:Str) (b:Str) (c:Str) (d:List qL) (e:Str) (x:List AV):List AV:= .agg [.str a,.str b,.str c,vl qg d,.str e]::x
abbrev kAE (a:Str) (b:Str) (c:Str) (d:List qL) (e:Str) (x:List (Nat×AV)):List (Nat×AV):=(0,.agg [.str a,.str b,.str c,vl qg d,.str e])::x
abbrev kAF (a:List qh) (b:Int) (c:Int) (x:List (Nat×AV)):List (Nat×AV):=(6,vl qc a)::(7,.i b)::(8,.i c)::x
abbrev kAG (a:Int) (b:Int) (x:List (Nat×AV)):List (Nat×AV):=(7,.int .u64 a)::(8,.int .u64 b)::x
abbrev kAH (a:Str) (b:Int) (x:List (Nat×AV)):List (Nat×AV):=(0,.str a)::(3,.i b)::x
abbrev kAI (a:Int) (b:Int) (x:List (Nat×AV)):List (Nat×AV):=(21,.i a)::(22,.i b)::x
abbrev kAJ {α0:Type} (a:List α0) (x:List (Nat×AV)):List (Nat×AV):=(6,.gslice 0 a.length 1)::x
abbrev kAK (a:Int) (b:Int) (x:List (Nat×AV)):List (Nat×AV):=(6,.i a)::(7,.i b)::x
abbrev kAL (a:Str) (b:Str) (c:Bool) (x:List (Nat×AV)):List (Nat×AV):=(5,.str a)::(6,.str b)::(7,.bool c)::x
abbrev kAM (a:Str):List (Nat×AV):=[(0,.str a)]
abbrev kAN (x:List (Nat×AV)):List (Nat×AV):=(3,.ptr 1 0)::x
abbrev kAO (a:List qh) (b:Int) (c:Int) (x:List (Nat×AV)):List (Nat×AV):=(145,vl qc a)::(146,.i b)::(147,.i c)::x
abbrev kAP (a:List qh) (x:List (Nat×AV)):List (Nat×AV):=(0,vl qc a)::x
abbrev kAQ (a:Int) (x:List (Nat×AV)):List (Nat×AV):=(6,.int .u64 a)::x
abbrev kAS (a:Int) (b:Int):List (Nat×AV):=[(13,.i a),(14,.i b)]
abbrev kAT (x:List (Nat×AV)):List (Nat×AV):=(4,.ptr 1 0)::x
abbrev kAU (a:List qh) (x:List Blk):List Blk:= .cells (a.flatMap qc.c)::x
abbrev kAV {α0:Type} (a:List α0) (x:List (Nat×AV)):List (Nat×AV):=(5,.gslice 0 a.length 1)::x
abbrev kAW (a:Int):List AV:=[.agg [.str [],.str [],.str [],.nilslice,.str []],.i a]
abbrev kAX (a:Int) (b:Int) (x:List (Nat×AV)):List (Nat×AV):=(0,.i a)::(1,.i b)::x
abbrev kAY (a:Int) (b:Int) (x:List (Nat×AV)):List (Nat×AV):=(11,.int .u64 a)::(13,.int .u64 b)::x
abbrev kAZ (a:Int) (b:Int) (x:List (Nat×AV)):List (Nat×AV):=(15,.i a)::(16,.i b)::x
abbrev kAa (a:List qh) (b:Str) (c:Str) (x:List (Nat×AV)):List (Nat×AV):=(1,vl qc a)::(2,.str b)::(3,.str c)::x
abbrev kAb (a:Int) (x:List (Nat×AV)):List (Nat×AV):=(14,.ptr 0 0)::(15,.i a)::(16,.ptr 1 0)::(18,.ptr 2 0)::x
abbrev kAc (a:Bool) (b:List Int) (x:List Blk):List Blk:= .cells [.bool a,vl encI b]::x
abbrev kAd (a:List qh) (b:Int) (c:Int) (x:List (Nat×AV)):List (Nat×AV):=(55,vl qc a)::(56,.i b)::(57,.i c)::x
abbrev kAe (a:List Int):List Blk:=[.frozen (a.flatMap encI.c)]
abbrev kAf (a:Int) (b:Int) (x:List (Nat×AV)):List (Nat×AV):=(17,.int .u64 a)::(18,.int .u64 b)::x
abbrev kAg (x:List (Nat×AV)):List (Nat×AV):=(4,.ptr 2 0)::x
abbrev kAh (a:Str):List (Nat×AV):=[(2,.str a),(14,.ptr 0 0),(18,.ptr 2 0),(220,.bool true)]
abbrev kAi {α3:Type} (a:List Int) (b:List Int) (c:Int) (d:List α3) (x:List (Nat×AV)):List (Nat×AV):=(8,vl encI a)::(9,vl encI b)::(10,.i c)::(11,.oslice 0 d.length 1)::x
abbrev kAj (a:Int) (x:List (Nat×AV)):List (Nat×AV):=(7,.int .u64 a)::x
abbrev kAl (a:Bool) (b:List Int):List AV:=[.bool a,vl encI b]
abbrev kAm (a:List Int) (b:Int) (x:List (Nat×AV)):List (Nat×AV):=(0,vl encI a)::(1,.i b)::x
abbrev kAn (a:Str) (b:Str) (c:Str) (d:List qL) (e:Str):List AV:=[.str a,.str b,.str c,vl qg d,.str e]
abbrev kAo:List (Nat×AV):=[(2,.bool false)]
abbrev kAp (a:Int) (b:Int) (x:List (Nat×AV)):List (Nat×AV):=(7,.i a)::(8,.i b)::x
abbrev kAq (a:Str) (x:List (Nat×AV)):List (Nat×AV):=(0,.str a)::(6,.ptr 0 0)::x
abbrev kAr (a:List qL) (b:Int) (c:Int) (x:List (Nat×AV)):List (Nat×AV):=(74,vl qg a)::(75,.i b)::(76,.i c)::x
abbrev kAs (x:List (Nat×AV)):List (Nat×AV):=(4,.ptr 0 0)::x
abbrev kAt (a:Str) (b:Int) (x:List (Nat×AV)):List (Nat×AV):=(3,.str a)::(4,.i b)::x
abbrev kAu {α0:Type} (a:List α0) (b:Bool) (x:List (Nat×AV)):List (Nat×AV):=(3,.gslice 1 a.length 1)::(4,.bool b)::x
abbrev kAv (a:Int) (b:Int) (c:Int) (d:Int) (x:List (Nat×AV)):List (Nat×AV):=(2,.i a)::(7,.i b)::(9,.i c)::(10,.i d)::x
abbrev kAw:List (Nat×AV):=[(2,.ptr 1 0)]
abbrev kAx:List (Nat×AV):=[(5,.ptr 2 0)]
abbrev kAy:List AV:=[.ptr 0 0,.ptr 1 0]
abbrev kAz (x:List (Nat×AV)):List (Nat×AV):=(8,.ptr 0 0)::x
abbrev kA0 (a:Int) (b:Int) (x:List (Nat×AV)):List (Nat×AV):=(8,.i a)::(9,.i b)::x
abbrev kA1 (a:Bool) (b:List Int) (c:Bool) (d:List Int):List AV:=[.agg [.bool a,vl encI b],.agg [.bool c,vl encI d]]
abbrev kA2 (x:List (Nat×AV)):List (Nat×AV):=(3,.ptr 2 0)::(4,.ptr 3 0)::(5,.ptr 4 0)::x
abbrev kA3 (x:List (Nat×AV)):List (Nat×AV):=(3,.ptr 3 0)::(4,.ptr 4 0)::(5,.ptr 5 0)::x
abbrev kA4 (a:Int) (b:Int):List (Nat×AV):=[(104,.i a),(105,.i b)]
abbrev kA5 (a:Int) (b:Int):List Blk:=[.cells [.i a,.i b]]
abbrev kA6 (a:List qL) (b:Int) (c:Int) (x:List (Nat×AV)):List (Nat×AV):=(17,vl qg a)::(18,.i b)::(19,.i c)::x
abbrev kA7 (a:Int) (b:Int):List (Nat×AV):=[(28,.i a),(29,.i b)]
abbrev kA8 (a:Int):List (Nat×AV):=[(5,.i a)]
abbrev kA9 (a:Str) (b:Str) (x:List Blk):List Blk:= .cells [.str a,.str b]::x
abbrev kBA:List (Nat×AV):=[(4,.bool false)]
abbrev kBB (a:Str) (b:Str):List AV:=[.str a,.str b]
abbrev kBC (a:Bool):List (Nat×AV):=[(13,.bool a)]
abbrev kBD (a:Bool):List (Nat×AV):=[(12,.bool a)]
abbrev kBE (a:Int) (b:Int) (c:Int) (x:List (Nat×AV)):List (Nat×AV):=(17,.int .u64 a)::(156,.i b)::(157,.i c)::x
abbrev kBF:List AV:=[.str [],.str [],.str [],.nilslice,.str []]
abbrev kBG (a:Str) (x:List (Nat×AV)):List (Nat×AV):=(0,.str a)::x
abbrev kBH (a:Str) (b:Bool) (x:List (Nat×AV)):List (Nat×AV):=(5,.str a)::(6,.bool b)::x
abbrev kBI (a:Int) (b:Int):List (Nat×AV):=[(96,.i a),(97,.i b)]
abbrev kBJ:List (Nat×AV):=[(6,.bool false)]
abbrev kBK (a:Int):List Blk:=[.cells [.i a,.nilslice]]
abbrev kBL (a:Int):List (Nat×AV):=[(2,.i a)]
abbrev kBM (a:Int) (b:Int) (x:List (Nat×AV)):List (Nat×AV):=(14,.int .u64 a)::(15,.int .u64 b)::x
abbrev kBN (a:List qL) (x:List (Nat×AV)):List (Nat×AV):=(0,vl qg a)::x
abbrev kBO (a:Bool) (x:List (Nat×AV)):List (Nat×AV):=(3,.bool a)::x
abbrev kBP (a:Int) (b:Int) (x:List (Nat×AV)):List (Nat×AV):=(5,.i a)::(6,.i b)::x
abbrev kBQ:List Blk:=[.cells (([]:List Int).flatMap encI.c)]
abbrev kBR (a:Bool):List (Nat×AV):=[(4,.bool a)]
abbrev kBS (a:Int) (x:List Blk):List Blk:= .dead:: .cells [.i a]::x
abbrev kBT (a:Bool):List (Nat×AV):=[(2,.bool a)]
abbrev kBU (a:List Int) (x:List (Nat×AV)):List (Nat×AV):=(0,vl encI a)::x
abbrev kBV (a:List Int) (x:List (Nat×AV)):List (Nat×AV):=(5,vl encI a)::x
abbrev kBW (a:Int):List (Nat×AV):=[(4,.i a)]
abbrev kBX (x:List (Nat×AV)):List (Nat×AV):=(5,.ptr 3 0)::x
abbrev kBY (a:Str):List (Nat×AV):=[(4,.str a)]
abbrev kBZ (x:List (Nat×AV)):List (Nat×AV):=(2,.ptr 4 0)::x
abbrev kBa (a:Int) (x:List (Nat×AV)):List (Nat×AV):=(0,.int .u64 a)::x
abbrev kBb (a:List Int) (b:List Int):List AV:=[vl encI a,vl encI b]
abbrev kBc (a:List qL):List Blk:=[.dead,.cells (a.flatMap qg.c)]
abbrev kBd (a:List qh):List (Nat×AV):=[(7,vl qc a),(54,.bool true)]
abbrev kBe (a:Bool):List (Nat×AV):=[(8,.bool a)]
abbrev kBf (x:List (Nat×AV)):List (Nat×AV):=(10,.ptr 1 0)::x
abbrev kBg:List (Nat×AV):=[(2,.bool true)]
abbrev kBh (a:Bool):List (Nat×AV):=[(10,.bool a)]
abbrev kBi (a:Int) (b:Int):List AV:=[.int .u64 a,.int .u64 b]
abbrev kBj (x:List (Nat×AV)):List (Nat×AV):=(8,.int .u64 0)::x
abbrev nz1 (x:qp):List AV:=ni1 x.s x.w
abbrev nq1 (x:qC):List AV:=ni2 x.Num.s x.Num.w x.Den.s x.Den.w
theorem qho:SlT ZT 22 32 5 88:=⟨by kernel_rfl,by kernel_rfl,by kernel_rfl,by kernel_rfl⟩
theorem qme:AgT ZT 32 5:=⟨by kernel_rfl,by kernel_rfl⟩
theorem sl26:SlT ZT 26 37 5 88:=⟨by kernel_rfl,by kernel_rfl,by kernel_rfl,by kernel_rfl⟩
theorem qeR:SlT ZT 30 45 2 32:=⟨by kernel_rfl,by kernel_rfl,by kernel_rfl,by kernel_rfl⟩
theorem qlq:CeT ZT 23:=⟨by kernel_rfl,by kernel_rfl⟩
theorem ag37:AgT ZT 37 5:=⟨by kernel_rfl,by kernel_rfl⟩
theorem qrr:SlT ZT 156 33 1 8:=⟨by kernel_rfl,by kernel_rfl,by kernel_rfl,by kernel_rfl⟩
theorem ce33:CeT ZT 33:=⟨by kernel_rfl,by kernel_rfl⟩
theorem st9:Tryz.prog.underlying 9=some .string:=by kernel_rfl
theorem qaU:Tryz.prog.underlying 96=some (.slice 222):=by kernel_rfl
theorem zU:SlT ZT 96 222 1 8:=⟨by kernel_rfl,by kernel_rfl,by kernel_rfl,by kernel_rfl⟩
theorem z8:CeT ZT 222:=⟨by kernel_rfl,by kernel_rfl⟩
theorem qnS:AgT ZT 45 2:=⟨by kernel_rfl,by kernel_rfl⟩
theorem qrt:SlT ZT 267 9 1 16:=⟨by kernel_rfl,by kernel_rfl,by kernel_rfl,by kernel_rfl⟩
theorem ce9:CeT ZT 9:=⟨by kernel_rfl,by kernel_rfl⟩
noncomputable abbrev qm:Code:=(Tryz.f55.body.getD .skip).x2.x2.x1.x2.x1
theorem vz:SlT ZT 80 3 1 8:=⟨by kernel_rfl,by kernel_rfl,by kernel_rfl,by kernel_rfl⟩
theorem ce3:CeT ZT 3:=⟨by kernel_rfl,by kernel_rfl⟩
theorem ql0:Tryz.prog.underlying 23=some .string:=by kernel_rfl
theorem qrv:EqT ZT 45 #[{name:= "X",type:=23,offset:=0,embedded:=false,tag:= "",pkgPath:= "",byteOffset:=0},{name:= "Y",type:=23,offset:=1,embedded:=false,tag:= "",pkgPath:= "",byteOffset:=16}]:=⟨by kernel_rfl,by kernel_rfl,by kernel_rfl⟩
def yu (l:List qh):Nat->(List qh)->Int->Option (List qh)
 |0,_,_=>none
 |K+1,b,a=>
  if a<(l.length:Int)then
  (idx l a).bind fun c=>
  (app 88 b [c]).bind fun d=>
  yu l K d (w64 (a+1))
  else
  some b
def qcc (N:Nat) (l:List qh):Option (List qh):=
 (yu l N ([]:List qh) 0).bind fun a=>
 some a
theorem qhZ (N:Nat) (l:List qh) {res:List qh} (h:qcc N l=some res):qb ZT (.fn 6) [vl qc l] [] (vl qc res) []:=by
 unfold qcc at h;refine Ub Tryz.func6 rfl rfl (m:=18) rfl (rs:=[.tmp 2]) rfl (l:=(kAP l [])) rfl ?_;refine sh fol (kAP l []) ?_;refine sh fol (kAP l [(3,.nilslice)]) ?_;refine sq ?_;refine sh fol [(3,.nilslice),(6,vl qc l),(7,.i (l.length:Int)),(8,.i 0)] ?_;refine Goes.block ?_;obtain⟨k,g4,h⟩:=bnd h;refine Goes.imp (Q:=fun x s'=>(x= .exit 0/\ ∃g,g=k/\Sub s' (ofG 18 [(3,.gslice 0 g.length 5)],(kAU g [])))) ?_ ?_
 ·refine Goes.sub (s':=(ofG 18 [(3,.gslice 0 ([]:List qh).length 5),(6,vl qc l),(7,.i (l.length:Int)),(8,.i 0)],[.cells (([]:List qh).flatMap qc.c)])) (Uc [] [none] rfl rfl (.keep .nil (.keep (.same (qf qc _)) (.keep (.same nI) (.keep (.same nI) .nil)))) (.fresh .nil)) ?_;refine Ud (fun M s=> ∃(b:List qh) (d:Int),s=(ofG 18 ((3,.gslice 0 b.length 5)::(kAF l (l.length:Int) d [])),(kAU b []))/\yu l M b d=some k) ?_ (m:=N) ⟨_,_,rfl,g4⟩;rintro M s ⟨b,d,rfl,g4⟩
  cases M with
  |zero=>simp only[yu]at g4;cases g4
  |succ M=>
   rw[yu]at g4;refine sh fol ((3,.gslice 0 b.length 5)::(kAF l (l.length:Int) d [(9,.bool (decide (d<(l.length:Int))))])) ?_;refine sq ?_;refine ihD g4 (fun n g4=>?_) (fun n g4=>?_)
   ·refine Goes.skip ?_;refine sq (Goes.block ?_);obtain⟨a,e,g4⟩:=bnd g4;refine sq (gq fol [0,1] ((3,.gslice 0 b.length 5)::(5,.ptr 1 0)::(kAF l (l.length:Int) d [])) (kAU b (kA a.Name a.Density a.Twist a.Strength a.Dye [])) (ac (iv qho qc e) (ac (la qme qc e) az)) ?_);obtain⟨f,j,g4⟩:=bnd g4;refine gq fol [3] ((3,.gslice 3 f.length 5)::(kAF l (l.length:Int) d [])) (.dead::(kA a.Name a.Density a.Twist a.Strength a.Dye (kA a.Name a.Density a.Twist a.Strength a.Dye (kAU f [])))) (ac (hs (.run [0,2] (yF ZT [26,26] (.gslice 0 b.length 5) (.slice 2 0 1 1 5)) (kAU b (kA a.Name a.Density a.Twist a.Strength a.Dye (kA a.Name a.Density a.Twist a.Strength a.Dye []))) (.gslice 3 f.length 5) (.dead::(kA a.Name a.Density a.Twist a.Strength a.Dye (kA a.Name a.Density a.Twist a.Strength a.Dye (kAU f [])))) true) (qa4 sl26 (E:=qc) rfl (qgj (E:=qc) (ys:=[a]) rfl rfl rfl rfl) (qi6 (E:=qc) (l:=b) rfl rfl rfl j rfl))) az) ?_;refine gh fol ((3,.gslice 3 f.length 5)::(kAF l (l.length:Int) (w64 (d+1)) [])) ?_;exact⟨M,(ofG 18 ((3,.gslice 0 f.length 5)::(kAF l (l.length:Int) (w64 (d+1)) [])),(kAU f [])),Nat.lt_succ_self _,(Uc [] [some 3] rfl rfl (.keep (.gslice rfl) (.keep (.same (qf qc _)) (.keep (.same nI) (.keep (.same nI) .nil)))) (.ks .nil)),_,_,rfl,g4⟩
   refine Goes.exit ?_;obtain rfl:=si g4;exact⟨rfl,_,rfl,(Sub.keep [3] rfl rfl)⟩
 rintro x s' ⟨rfl,g,rfl,hsub⟩;refine Goes.sub hsub ?_;refine sh fol [(2,.gslice 0 g.length 5)] ?_;refine Goes.ret ?_;obtain rfl:=si h;exact(gw2 [.gslice 0 g.length 5] (FzW.fz (Fz.gs (E:=qc) rfl rfl (nl rfl))))
def zf (y:qh):Nat->Int->Option (Unit⊕Bool)
 |0,_=>none
 |K+1,a=>
  if a<(y.Strength.length:Int)then
  ((idx y.Strength a).bind fun b=>
  if(b.X.length:Int)>60 then
  some true
  else
  some (decide ((b.Y.length:Int)>60)):Option Bool).bind fun c=>
  if c=true then
  some (.inr false)
  else
  zf y K (w64 (a+1))
  else
  some (.inl ())
def xX (N:Nat) (y:qh):Option Bool:=
 (if(y.Name.length:Int)>60 then
 some true
 else
 if(y.Density.length:Int)>60 then
 some true
 else
 if(y.Twist.length:Int)>60 then
 some true
 else
 if(y.Dye.length:Int)>60 then
 some true
 else
 if(y.Strength.length:Int)>8 then
 if(y.Strength.length:Int)<=256 then
 some true
 else
 some (decide ((y.Strength.length:Int)>259))
 else
 some (decide ((y.Strength.length:Int)>259)):Option Bool).bind fun b=>
 if b=true then
 some false
 else
 (zf y N 0).bind (fun
 |(.inl ())=>
 some true
 |(.inr a)=>
 some a)
theorem qfY (N:Nat) (y:qh) {res:Bool} (h:xX N y=some res):qb ZT (.fn 28) [.agg (kAn y.Name y.Density y.Twist y.Strength y.Dye)] [] (.bool res) []:=by
 unfold xX at h;refine Ub Tryz.func28 rfl rfl (m:=69) rfl (rs:=[.tmp 2]) rfl (l:=(kAE y.Name y.Density y.Twist y.Strength y.Dye [])) rfl ?_;refine sg fol (kV []) (kA y.Name y.Density y.Twist y.Strength y.Dye []) ?_;refine sq ?_;refine sq ?_;obtain⟨w,a,h⟩:=bnd h;refine Ue (s':=(ofG 69 (kV [(43,.bool w)]),(kA y.Name y.Density y.Twist y.Strength y.Dye []))) ?_ ?_
 ·rcases wyD a with⟨e,a⟩|⟨e,a⟩
  ·obtain rfl:=si a;exact tr fol [4] (kV [(43,.bool true)]) (ac (gw e) az)
  rcases wyD a with⟨f,a⟩|⟨f,a⟩
  ·obtain rfl:=si a;exact tr fol [4,10] (kV [(43,.bool true)]) (ac (gw e) (ac (gw f) az))
  rcases wyD a with⟨k,a⟩|⟨k,a⟩
  ·obtain rfl:=si a;exact tr fol [4,10,16] (kV [(43,.bool true)]) (ac (gw e) (ac (gw f) (ac (gw k) az)))
  rcases wyD a with⟨n,a⟩|⟨n,a⟩
  ·obtain rfl:=si a;exact tr fol [4,10,16,22] (kV [(43,.bool true)]) (ac (gw e) (ac (gw f) (ac (gw k) (ac (gw n) az))))
  rcases wyD a with⟨p,a⟩|⟨p,a⟩
  ·rcases wyD a with⟨q,a⟩|⟨q,a⟩
   ·obtain rfl:=si a;exact tr fol [4,10,16,22,27,34] (kV [(43,.bool true)]) (ac (gw e) (ac (gw f) (ac (gw k) (ac (gw n) (ac (gw p) (ac (gw q) az))))))
   obtain rfl:=si a;exact tr fol [4,10,16,22,27,34] (kV [(43,.bool (decide ((y.Strength.length:Int)>259)))]) (ac (gw e) (ac (gw f) (ac (gw k) (ac (gw n) (ac (gw p) (ac (gw q) az))))))
  obtain rfl:=si a;exact tr fol [4,10,16,22,27] (kV [(43,.bool (decide ((y.Strength.length:Int)>259)))]) (ac (gw e) (ac (gw f) (ac (gw k) (ac (gw n) (ac (gw p) az)))))
 refine ihB h (fun z h=>?_) (fun z h=>?_)
 ·refine sh fol kAo ?_;refine Goes.ret ?_;obtain rfl:=si h;exact(gw2 [.bool false] (Ua tB))
 refine Goes.skip ?_;refine sq ?_;refine sh fol (kV [(3,.i 0)]) ?_;refine Goes.block ?_;obtain⟨g,g11,h⟩:=bnd h;refine Goes.imp (Q:=fun x s'=>(x= .exit 0/\(.inl ())=g/\Sub s' (ofG 69 [],[]))\/(x= .ret/\ ∃o,(.inr o)=g/\zh ZT [.tmp 2] (.bool o) .ret s')) ?_ ?_
 ·refine Ud (fun M s=> ∃(d:Int),s=(ofG 69 (kV [(3,.i d)]),(kA y.Name y.Density y.Twist y.Strength y.Dye []))/\zf y M d=some g) ?_ (m:=N) ⟨_,rfl,g11⟩;rintro M s ⟨d,rfl,g11⟩
  cases M with
  |zero=>simp only[zf]at g11;cases g11
  |succ M=>
   rw[zf]at g11;refine sq ?_;refine sh fol (kV [(3,.i d),(48,.bool (decide (d<(y.Strength.length:Int))))]) ?_;refine ihD g11 (fun r g11=>?_) (fun r g11=>?_)
   ·refine Goes.skip ?_;refine sq (Goes.block ?_);refine sq ?_;obtain⟨t,b,g11⟩:=bnd g11;refine Ue (s':=(ofG 69 (kV [(3,.i d),(68,.bool t)]),(kA y.Name y.Density y.Twist y.Strength y.Dye []))) ?_ ?_
    ·obtain⟨u,c,b⟩:=bnd b;rcases wyD b with⟨j,b⟩|⟨j,b⟩
     ·obtain rfl:=si b;exact tr fol [3,5,8] (kV [(3,.i d),(68,.bool true)]) (ac (iv qeR qg c) (ac (lv 0 qlq qg c rfl) (ac (gw j) az)))
     obtain rfl:=si b;exact tr fol [3,5,8,12,14] (kV [(3,.i d),(68,.bool (decide ((u.Y.length:Int)>60)))]) (ac (iv qeR qg c) (ac (lv 0 qlq qg c rfl) (ac (gw j) (ac (iv qeR qg c) (ac (lv 1 qlq qg c rfl) az)))))
    refine ihB g11 (fun v g11=>?_) (fun v g11=>?_)
    ·refine sh fol kAo ?_;refine Goes.ret ?_;obtain rfl:=si g11;exact Or.inr (⟨rfl,_,rfl,(gw2 [.bool false] (Ua tB))⟩)
    refine Goes.skip ?_;refine gh fol (kV [(3,.i (w64 (d+1)))]) ?_;exact⟨M,(ofG 69 (kV [(3,.i (w64 (d+1)))]),(kA y.Name y.Density y.Twist y.Strength y.Dye [])),Nat.lt_succ_self _,(Sub.refl _),_,rfl,g11⟩
   refine Goes.exit ?_;obtain rfl:=si g11;exact Or.inl (⟨rfl,rfl,(Uc [] [] rfl rfl .nil .nil)⟩)
 rintro x s' (⟨rfl,rfl,hsub⟩|⟨rfl,A,rfl,hret⟩)
 ·try dsimp only at h
  refine Goes.sub hsub ?_;refine sh fol kBg ?_;refine Goes.ret ?_;obtain rfl:=si h;exact(gw2 [.bool true] (Ua tB))
 try dsimp only at h
 obtain rfl:=si h;exact hret
def vH (N:Nat) (l:List qh):Nat->Int->Option (Unit⊕Bool)
 |0,_=>none
 |K+1,a=>
  if a<(l.length:Int)then
  (idx l a).bind fun b=>
  (xX N b).bind fun c=>
  if(!c)=true then
  some (.inr false)
  else
  vH N l K (w64 (a+1))
  else
  some (.inl ())
def qb6 (N:Nat) (l:List qh):Option Bool:=
 (vH N l N 0).bind (fun
 |(.inl ())=>
 some (decide ((l.length:Int)<=14))
 |(.inr a)=>
 some a)
theorem qbn (N:Nat) (l:List qh) {res:Bool} (h:qb6 N l=some res):qb ZT (.fn 7) [vl qc l] [] (.bool res) []:=by
 unfold qb6 at h;refine Ub Tryz.func7 rfl rfl (m:=18) rfl (rs:=[.tmp 2]) rfl (l:=(kAP l [])) rfl ?_;refine sh fol (kAP l []) ?_;refine sq ?_;refine sh fol (kAP l [(5,vl qc l),(6,.i (l.length:Int)),(7,.i 0)]) ?_;refine Goes.block ?_;obtain⟨e,g2,h⟩:=bnd h;refine Goes.imp (Q:=fun x s'=>(x= .exit 0/\(.inl ())=e/\Sub s' (ofG 18 (kAP l []),[]))\/(x= .ret/\ ∃f,(.inr f)=e/\zh ZT [.tmp 2] (.bool f) .ret s')) ?_ ?_
 ·refine Ud (fun M s=> ∃(a:Int),s=(ofG 18 (kAP l ((5,vl qc l)::(kAK (l.length:Int) a []))),[])/\vH N l M a=some e) ?_ (m:=N) ⟨_,rfl,g2⟩;rintro M s ⟨a,rfl,g2⟩
  cases M with
  |zero=>simp only[vH]at g2;cases g2
  |succ M=>
   rw[vH]at g2;refine sh fol (kAP l ((5,vl qc l)::(kAK (l.length:Int) a (kBe (decide (a<(l.length:Int))))))) ?_;refine sq ?_;refine ihD g2 (fun g g2=>?_) (fun g g2=>?_)
   ·refine Goes.skip ?_;refine sq (Goes.block ?_);obtain⟨c,b,g2⟩:=bnd g2;refine sq (gq fol [0,1] (kAP l (kAs ((5,vl qc l)::(kAK (l.length:Int) a [])))) (kA c.Name c.Density c.Twist c.Strength c.Dye []) (ac (iv sl26 qc b) (ac (la ag37 qc b) az)) ?_);obtain⟨j,d,g2⟩:=bnd g2;refine sq (gr fol [1] (kAP l ((5,vl qc l)::(kAK (l.length:Int) a (kBC (!j))))) (ac (cv (qfY N c d)) az) ?_);refine ihB g2 (fun k g2=>?_) (fun k g2=>?_)
    ·refine sh fol kAo ?_;refine Goes.ret ?_;obtain rfl:=si g2;exact Or.inr (⟨rfl,_,rfl,(gw2 [.bool false] (Ua tB))⟩)
    refine Goes.skip ?_;refine gh fol (kAP l ((5,vl qc l)::(kAK (l.length:Int) (w64 (a+1)) []))) ?_;exact⟨M,(ofG 18 (kAP l ((5,vl qc l)::(kAK (l.length:Int) (w64 (a+1)) []))),[]),Nat.lt_succ_self _,(Uc [] [] rfl rfl (.keep (.same (qf qc _)) (.keep (.same (qf qc _)) (.keep (.same nI) (.keep (.same nI) .nil)))) .nil),_,rfl,g2⟩
   refine Goes.exit ?_;obtain rfl:=si g2;exact Or.inl (⟨rfl,rfl,(Sub.keep [0] rfl rfl)⟩)
 rintro x s' (⟨rfl,rfl,hsub⟩|⟨rfl,n,rfl,hret⟩)
 ·try dsimp only at h
  refine Goes.sub hsub ?_;refine sh fol (kBT (decide ((l.length:Int)<=14))) ?_;refine Goes.ret ?_;obtain rfl:=si h;exact(gw2 [.bool (decide ((l.length:Int)<=14))] (Ua tB))
 try dsimp only at h
 obtain rfl:=si h;exact hret
def qy (l:List Int):Nat->Int->Option (Unit⊕Int)
 |0,_=>none
 |K+1,a=>
  if a<(l.length:Int)then
  (idx l a).bind fun b=>
  if(!decide (b=0))=true then
  some (.inr b)
  else
  qy l K (w64 (a+1))
  else
  some (.inl ())
def ji (N:Nat) (l:List Int):Option Int:=
 (qy l N 0).bind (fun
 |(.inl ())=>
 some 0
 |(.inr a)=>
 some a)
theorem qae (N:Nat) (l:List Int) {res:Int} (h:ji N l=some res):qb ZT (.fn 41) [vl encI l] [] (.i res) []:=by
 unfold ji at h;refine Ub Tryz.func41 rfl rfl (m:=15) rfl (rs:=[.tmp 2]) rfl (l:=(kBU l [])) rfl ?_;refine sh fol (kBU l []) ?_;refine sq ?_;refine sh fol (kBV l [(6,.i (l.length:Int)),(7,.i 0)]) ?_;refine Goes.block ?_;obtain⟨d,g2,h⟩:=bnd h;refine Goes.imp (Q:=fun x s'=>(x= .exit 0/\(.inl ())=d/\Sub s' (ofG 15 [],[]))\/(x= .ret/\ ∃e,(.inr e)=d/\zh ZT [.tmp 2] (.i e) .ret s')) ?_ ?_
 ·refine Ud (fun M s=> ∃(a:Int),s=(ofG 15 (kBV l (kAK (l.length:Int) a [])),[])/\qy l M a=some d) ?_ (m:=N) ⟨_,rfl,g2⟩;rintro M s ⟨a,rfl,g2⟩
  cases M with
  |zero=>simp only[qy]at g2;cases g2
  |succ M=>
   rw[qy]at g2;refine sh fol (kBV l (kAK (l.length:Int) a (kBe (decide (a<(l.length:Int)))))) ?_;refine sq ?_;refine ihD g2 (fun f g2=>?_) (fun f g2=>?_)
   ·refine Goes.skip ?_;refine sq (Goes.block ?_);obtain⟨c,b,g2⟩:=bnd g2;refine sq (gr fol [0,1] ((4,.i c)::(kBV l (kAK (l.length:Int) a []))) (ac (iv qrr encI b) (ac (lv 0 ce33 encI b rfl) az)) ?_);refine sh fol ((4,.i c)::(kBV l (kAK (l.length:Int) a (kBD (!decide (c=0)))))) ?_;refine ihB g2 (fun g g2=>?_) (fun g g2=>?_)
    ·refine sh fol (kBL c) ?_;refine Goes.ret ?_;obtain rfl:=si g2;exact Or.inr (⟨rfl,_,rfl,(gw2 [.i c] (Ua tI))⟩)
    refine Goes.skip ?_;refine gh fol (kBV l (kAK (l.length:Int) (w64 (a+1)) [])) ?_;exact⟨M,(ofG 15 (kBV l (kAK (l.length:Int) (w64 (a+1)) [])),[]),Nat.lt_succ_self _,(Sub.refl _),_,rfl,g2⟩
   refine Goes.exit ?_;obtain rfl:=si g2;exact Or.inl (⟨rfl,rfl,(Sub.keep [] rfl rfl)⟩)
 rintro x s' (⟨rfl,rfl,hsub⟩|⟨rfl,j,rfl,hret⟩)
 ·try dsimp only at h
  refine Goes.sub hsub ?_;refine sh fol [(2,.i 0)] ?_;refine Goes.ret ?_;obtain rfl:=si h;exact(gw2 [.i 0] (Ua tI))
 try dsimp only at h
 obtain rfl:=si h;exact hret
def ky (holds:Bool) (e:Int):Option Int:=
 if holds=true then
 some e
 else
 some 0
theorem yY (holds:Bool) (e:Int) {res:Int} (h:ky holds e=some res):qb ZT (.fn 43) [.bool holds,.i e] [] (.i res) []:=by
 unfold ky at h;refine Ub Tryz.func43 rfl rfl (m:=7) rfl (rs:=[.tmp 4]) rfl (l:=[(0,.bool holds),(1,.i e)]) rfl ?_;refine sh fol [(0,.bool holds),(1,.i e)] ?_;refine sq ?_;refine sh fol [(1,.i e),(5,.bool holds)] ?_;refine ihB h (fun a h=>?_) (fun a h=>?_)
 ·refine sh fol (kBW e) ?_;refine Goes.ret ?_;obtain rfl:=si h;exact(gw2 [.i e] (Ua tI))
 refine Goes.skip ?_;refine sh fol [(4,.i 0)] ?_;refine Goes.ret ?_;obtain rfl:=si h;exact(gw2 [.i 0] (Ua tI))
def yK (c:Int):Option Bool:=
 (if c>=97 then
 if c<=122 then
 some true
 else
 if c>=65 then
 some (decide (c<=90))
 else
 some false
 else
 if c>=65 then
 some (decide (c<=90))
 else
 some false:Option Bool).bind fun a=>
 some a
theorem yx (c:Int) {res:Bool} (h:yK c=some res):qb ZT (.fn 177) [.int .i32 c] [] (.bool res) []:=by
 unfold yK at h;refine Ub Tryz.func177 rfl rfl (m:=17) rfl (rs:=[.tmp 2]) rfl (l:=[(0,.int .i32 c)]) rfl ?_;refine sh fol [(0,.int .i32 c)] ?_;refine sq ?_;obtain⟨g,a,h⟩:=bnd h;refine Ue (s':=(ofG 17 (kBT g),[])) ?_ ?_
 ·rcases wyD a with⟨b,a⟩|⟨b,a⟩
  ·rcases wyD a with⟨d,a⟩|⟨d,a⟩
   ·obtain rfl:=si a;exact tr fol [2,6] kBg (ac (gw b) (ac (gw d) az))
   rcases wyD a with⟨e,a⟩|⟨e,a⟩
   ·obtain rfl:=si a;exact tr fol [2,6,9] (kBT (decide (c<=90))) (ac (gw b) (ac (gw d) (ac (gw e) az)))
   obtain rfl:=si a;exact tr fol [2,6,9] kAo (ac (gw b) (ac (gw d) (ac (gw e) az)))
  rcases wyD a with⟨f,a⟩|⟨f,a⟩
  ·obtain rfl:=si a;exact tr fol [2,9] (kBT (decide (c<=90))) (ac (gw b) (ac (gw f) az))
  obtain rfl:=si a;exact tr fol [2,9] kAo (ac (gw b) (ac (gw f) az))
 refine Goes.ret ?_;obtain rfl:=si h;exact(gw2 [.bool g] (Ua tB))
def jV (b:Str):Nat->Nat->Option (Unit⊕Bool)
 |0,_=>none
 |K+1,a=>
  if a<b.length then
  ((yK (yG b a)).bind fun d=>
  if(!d)=true then
  if(a:Int)=0 then
  some true
  else
  if(!decide ((yG b a)=95))=true then
  if(yG b a)<48 then
  some true
  else
  some (decide ((yG b a)>57))
  else
  some false
  else
  some false:Option Bool).bind fun c=>
  if c=true then
  some (.inr false)
  else
  jV b K (a+runeLen b a)
  else
  some (.inl ())
def qag (N:Nat) (a:Str):Option Bool:=
 (jV a N 0).bind (fun
 |(.inl ())=>
 (if(!(a==[]))=true then
 some (decide ((a.length:Int)<=24))
 else
 some false:Option Bool).bind fun b=>
 some b
 |(.inr c)=>
 some c)
theorem qdt (N:Nat) (d:Str) {res:Bool} (h:qag N d=some res):qb ZT (.fn 106) [.str d] [] (.bool res) []:=by
 unfold qag at h;refine Ub Tryz.func106 rfl rfl (m:=37) rfl (rs:=[.tmp 2]) rfl (l:=(kAM d)) rfl ?_;refine sh fol (kAM d) ?_;refine sq ?_;refine sg fol (kAq d []) [.iter d 0] ?_;refine Goes.block ?_;obtain⟨r,g2,h⟩:=bnd h;refine Goes.imp (Q:=fun x s'=>(x= .exit 0/\(.inl ())=r/\Sub s' (ofG 37 (kAM d),[]))\/(x= .ret/\ ∃w,(.inr w)=r/\zh ZT [.tmp 2] (.bool w) .ret s')) ?_ ?_
 ·refine Goes.sub (s':=(ofG 37 (kAq d []),[.iter d 0])) (Sub.keep [0,6] rfl rfl) ?_;refine Ud (fun M s=> ∃(e:Nat),s=(ofG 37 (kAq d []),[.iter d e])/\jV d M e=some r) ?_ (m:=N) ⟨_,rfl,g2⟩;rintro M s ⟨e,rfl,g2⟩
  cases M with
  |zero=>simp only[jV]at g2;cases g2
  |succ M=>
   rw[jV]at g2;refine sq ?_;rcases Classical.em (e<d.length)with n|n
   ·rw[if_pos n]at g2;refine gq fol [0] (kAq d [(7,.tuple [.bool true,.i (e:Int),.int .i32 (yG d e)]),(8,.bool true)]) [.iter d (e+runeLen d e)] (ac (hs (.run [0] (qgC (.ptr 0 0) true) [.iter d e] (.tuple [.bool true,.i (e:Int),.int .i32 (yG d e)]) [.iter d (e+runeLen d e)] true) (qn2 rfl n rfl)) az) ?_;refine sq ?_;refine Ur (b:=true) (by kernel_rfl) (fun _=>?_) (fun c=>(by cases c));refine Goes.skip ?_;refine Goes.block ?_;refine sh fol (kAH d (e:Int) [(4,.int .i32 (yG d e)),(6,.ptr 0 0)]) ?_;refine sq ?_;obtain⟨t,a,g2⟩:=bnd g2;refine Ue (s':=(ofG 37 (kAq d [(29,.bool t)]),[.iter d (e+runeLen d e)])) ?_ ?_
    ·obtain⟨z,g,a⟩:=bnd a;rcases wyB a with⟨k,a⟩|⟨k,a⟩
     ·rcases wyD a with⟨o,a⟩|⟨o,a⟩
      ·obtain rfl:=si a;exact tr fol [1,3,6] (kAq d [(29,.bool true)]) (ac (cv (yx (yG d e) g)) (ac (gw k) (ac (gw o) az)))
      rcases wyB a with⟨q,a⟩|⟨q,a⟩
      ·rcases wyD a with⟨u,a⟩|⟨u,a⟩
       ·obtain rfl:=si a;exact tr fol [1,3,6,9,12] (kAq d [(29,.bool true)]) (ac (cv (yx (yG d e) g)) (ac (gw k) (ac (gw o) (ac (gw q) (ac (gw u) az)))))
       obtain rfl:=si a;exact tr fol [1,3,6,9,12] (kAq d [(29,.bool (decide ((yG d e)>57)))]) (ac (cv (yx (yG d e) g)) (ac (gw k) (ac (gw o) (ac (gw q) (ac (gw u) az)))))
      obtain rfl:=si a;exact tr fol [1,3,6,9] (kAq d [(29,.bool false)]) (ac (cv (yx (yG d e) g)) (ac (gw k) (ac (gw o) (ac (gw q) az))))
     obtain rfl:=si a;exact tr fol [1,3] (kAq d [(29,.bool false)]) (ac (cv (yx (yG d e) g)) (ac (gw k) az))
    refine ihB g2 (fun v g2=>?_) (fun v g2=>?_)
    ·refine sh fol kAo ?_;refine Goes.ret ?_;obtain rfl:=si g2;exact Or.inr (⟨rfl,_,rfl,(gw2 [.bool false] (Ua tB))⟩)
    refine Goes.skip ?_;exact⟨M,(ofG 37 (kAq d []),[.iter d (e+runeLen d e)]),Nat.lt_succ_self _,(Sub.keep [0,6] rfl rfl),_,rfl,g2⟩
   rw[if_neg n]at g2;refine gr fol [0] (kAq d [(7,.tuple [.bool false]),(8,.bool false)]) (ac (hs (.run [0] (qgC (.ptr 0 0) true) [.iter d e] (.tuple [.bool false]) [.iter d e] false) (qn1 rfl n)) az) ?_;refine sq ?_;refine Ur (b:=false) (by kernel_rfl) (fun c=>(by cases c)) (fun _=>?_);refine Goes.exit ?_;obtain rfl:=si g2;exact Or.inl (⟨rfl,rfl,(Uc [] [] rfl rfl (.keep (.same nS) .nil) .nil)⟩)
 rintro x s' (⟨rfl,rfl,hsub⟩|⟨rfl,y,rfl,hret⟩)
 ·try dsimp only at h
  refine Goes.sub hsub ?_;refine sq ?_;obtain⟨p,f,h⟩:=bnd h;refine Ue (s':=(ofG 37 (kBT p),[])) ?_ ?_
  ·rcases wyB f with⟨j,f⟩|⟨j,f⟩
   ·obtain rfl:=si f;exact tr fol [2] (kBT (decide ((d.length:Int)<=24))) (ac (gw j) az)
   obtain rfl:=si f;exact tr fol [2] kAo (ac (gw j) az)
  refine Goes.ret ?_;obtain rfl:=si h;exact(gw2 [.bool p] (Ua tB))
 try dsimp only at h
 obtain rfl:=si h;exact hret
def xe (N:Nat) (a:Str):Option Int:=
 (qag N a).bind fun b=>
 (ky (!b) 8).bind fun c=>
 some c
theorem qfv (N:Nat) (a:Str) {res:Int} (h:xe N a=some res):qb ZT (.fn 42) [.str a] [] (.i res) []:=by
 unfold xe at h;refine Ub Tryz.func42 rfl rfl (m:=7) rfl (rs:=[.tmp 2]) rfl (l:=(kAM a)) rfl ?_;refine sh fol (kAM a) ?_;obtain⟨e,b,h⟩:=bnd h;obtain⟨d,c,h⟩:=bnd h;refine sq (gr fol [1,3] (kBL d) (ac (cv (qdt N a b)) (ac (cv (yY (!e) 8 c)) az)) ?_);refine Goes.ret ?_;obtain rfl:=si h;exact(gw2 [.i d] (Ua tI))
def stringslite_HasPrefix (b:Str) (a:Str):Option Bool:=
 (if(b.length:Int)>=(a.length:Int)then
 (cut b 0 (a.length:Int)).bind fun c=>
 some (c==a)
 else
 some false:Option Bool).bind fun d=>
 some d
theorem y7 (c:Str) (a:Str) {res:Bool} (h:stringslite_HasPrefix c a=some res):qb ZT (.fn 230) (kBB c a) [] (.bool res) []:=by
 unfold stringslite_HasPrefix at h;refine Ub Tryz.func230 rfl rfl (m:=18) rfl (rs:=[.tmp 4]) rfl (l:=(kT c a [])) rfl ?_;refine sh fol (kT c a []) ?_;refine sq ?_;obtain⟨f,b,h⟩:=bnd h;refine Ue (s':=(ofG 18 (kBR f),[])) ?_ ?_
 ·rcases wyD b with⟨e,b⟩|⟨e,b⟩
  ·obtain⟨g,d,b⟩:=bnd b;obtain rfl:=si b;exact tr fol [5,9] (kBR (g==a)) (ac (gw e) (ac (hs (.done (.opt (kg ZT 9 (.str c) none (some (.i (a.length:Int))) none)) (.str g)) (jr st9 none (some (a.length:Int)) d)) az))
  obtain rfl:=si b;exact tr fol [5] kBA (ac (gw e) az)
 refine Goes.ret ?_;obtain rfl:=si h;exact(gw2 [.bool f] (Ua tB))
def stringslite_CutPrefix (b:Str) (a:Str):Option (Str×Bool):=
 (stringslite_HasPrefix b a).bind fun c=>
 if(!c)=true then
 some (b,false)
 else
 (cut b (a.length:Int) (b.length:Int)).bind fun d=>
 some (d,true)
theorem qdb (b:Str) (a:Str) {res:Str×Bool} (h:stringslite_CutPrefix b a=some res):qb ZT (.fn 178) (kBB b a) [] (.tuple [.str res.1,.bool res.2]) []:=by
 unfold stringslite_CutPrefix at h;refine Ub Tryz.func178 rfl rfl (m:=15) rfl (rs:=[.tmp 4,.tmp 5]) rfl (l:=(kT b a [])) rfl ?_;refine sh fol (kT b a []) ?_;refine sq ?_;obtain⟨f,c,h⟩:=bnd h;refine sq (gr fol [2] (kT b a [(9,.bool (!f))]) (ac (cv (y7 b a c)) az) ?_);refine ihB h (fun g h=>?_) (fun g h=>?_)
 ·refine sh fol [(4,.str b),(5,.bool false)] ?_;refine Goes.ret ?_;obtain rfl:=si h;exact(gw2 [.str b,.bool false] (FzW.tuple (qd.cons (Ua tS) (qd.cons (Ua tB) qd.nil))))
 refine Goes.skip ?_;obtain⟨e,d,h⟩:=bnd h;refine sq (gr fol [3] [(4,.str e),(5,.bool true)] (ac (hs (.done (.opt (kg ZT 9 (.str b) (some (.i (a.length:Int))) none none)) (.str e)) (jr st9 (some (a.length:Int)) none d)) az) ?_);refine Goes.ret ?_;obtain rfl:=si h;exact(gw2 [.str e,.bool true] (FzW.tuple (qd.cons (Ua tS) (qd.cons (Ua tB) qd.nil))))
def strings_CutPrefix (c:Str) (a:Str):Option (Str×Bool):=
 (stringslite_CutPrefix c a).bind fun b=>
 some (b.1,b.2)
theorem qeT (b:Str) (a:Str) {res:Str×Bool} (h:strings_CutPrefix b a=some res):qb ZT (.fn 110) (kBB b a) [] (.tuple [.str res.1,.bool res.2]) []:=by
 unfold strings_CutPrefix at h;refine Ub Tryz.func110 rfl rfl (m:=11) rfl (rs:=[.tmp 4,.tmp 5]) rfl (l:=(kT b a [])) rfl ?_;refine sh fol (kT b a []) ?_;obtain⟨d,c,h⟩:=bnd h;refine sq (gr fol [2] [(4,.str d.1),(5,.bool d.2)] (ac (cv (qdb b a c)) az) ?_);refine Goes.ret ?_;obtain rfl:=si h;exact(gw2 [.str d.1,.bool d.2] (FzW.tuple (qd.cons (Ua tS) (qd.cons (Ua tB) qd.nil))))
def stringslite_IndexByte (a:Str) (c:Int):Option Int:=
 (qkc a c).bind fun b=>
 some b
theorem qdf (a:Str) (c:Int) {res:Int} (h:stringslite_IndexByte a c=some res):qb ZT (.fn 257) [.str a,.int .u8 c] [] (.i res) []:=by
 unfold stringslite_IndexByte at h;refine Ub Tryz.func257 rfl rfl (m:=8) rfl (rs:=[.tmp 4]) rfl (l:=(kBG a [(1,.int .u8 c)])) rfl ?_;refine sh fol (kBG a [(1,.int .u8 c)]) ?_;obtain⟨d,b,h⟩:=bnd h;refine sq (gr fol [2] (kBW d) (ac (cv (qnu a c b)) az) ?_);refine Goes.ret ?_;obtain rfl:=si h;exact(gw2 [.i d] (Ua tI))
def stringslite_Index (a:Str) (substr:Str):Option Int:=
 (if(substr.length:Int)=0 then
 some true
 else
 some (substr==a):Option Bool).bind fun b=>
 if b=true then
 some 0
 else
 if(substr.length:Int)=1 then
 (idx substr 0).bind fun c=>
 (stringslite_IndexByte a (c.toNat:Int)).bind fun d=>
 some d
 else
 if(substr.length:Int)>=(a.length:Int)then
 some (-1)
 else
 none
theorem qeN (b:Str) (substr:Str) {res:Int} (h:stringslite_Index b substr=some res):qb ZT (.fn 231) (kBB b substr) [] (.i res) []:=by
 unfold stringslite_Index at h;refine Ub Tryz.func231 rfl rfl (m:=143) rfl (rs:=[.tmp 4]) rfl (l:=(kT b substr [])) rfl ?_;refine sh fol (kT b substr []) ?_;refine sh fol (kT b substr (kA8 (substr.length:Int))) ?_;refine sq (Goes.block ?_);refine sq ?_;obtain⟨j,a,h⟩:=bnd h;refine Ue (s':=(ofG 143 (kT b substr [(5,.i (substr.length:Int)),(16,.bool j)]),[])) ?_ ?_
 ·rcases wyD a with⟨e,a⟩|⟨e,a⟩
  ·obtain rfl:=si a;exact tr fol [2] (kT b substr [(5,.i (substr.length:Int)),(16,.bool true)]) (ac (gw e) az)
  obtain rfl:=si a;exact tr fol [2] (kT b substr [(5,.i (substr.length:Int)),(16,.bool (substr==b))]) (ac (gw e) az)
 refine ihB h (fun k h=>?_) (fun k h=>?_)
 ·refine sh fol [(4,.i 0)] ?_;refine Goes.ret ?_;obtain rfl:=si h;exact(gw2 [.i 0] (Ua tI))
 refine sh fol (kT b substr [(5,.i (substr.length:Int)),(24,.bool (decide ((substr.length:Int)=1)))]) ?_;refine ihD h (fun n h=>?_) (fun n h=>?_)
 ·obtain⟨f,c,h⟩:=bnd h;obtain⟨g,d,h⟩:=bnd h;refine sq (gr fol [2,3] (kBW g) (ac (hs (.done (.opt (yw ZT 9 (.str substr) (.i 0))) (.int .u8 (f.toNat:Int))) (qaH st9 c)) (ac (cv (qdf b (f.toNat:Int) d)) az)) ?_);refine Goes.ret ?_;obtain rfl:=si h;exact(gw2 [.i g] (Ua tI))
 refine sh fol (kT b substr [(5,.i (substr.length:Int)),(31,.bool (decide ((substr.length:Int)>=(b.length:Int))))]) ?_;refine ihD h (fun o h=>?_) (fun o h=>?_)
 ·refine sh fol [(4,.i (-1))] ?_;refine Goes.ret ?_;obtain rfl:=si h;exact(gw2 [.i (-1)] (Ua tI))
 cases h
def stringslite_Cut (a:Str) (sep:Str):Option (Str×Str×Bool):=
 (stringslite_Index a sep).bind fun b=>
 if b>=0 then
 (cut a 0 b).bind fun c=>
 (cut a (w64 (b+(sep.length:Int))) (a.length:Int)).bind fun d=>
 some (c,d,true)
 else
 some (a,[],false)
theorem qfW (a:Str) (sep:Str) {res:Str×Str×Bool} (h:stringslite_Cut a sep=some res):qb ZT (.fn 179) (kBB a sep) [] (.tuple [.str res.1,.str res.2.1,.bool res.2.2]) []:=by
 unfold stringslite_Cut at h;refine Ub Tryz.func179 rfl rfl (m:=23) rfl (rs:=[.tmp 4,.tmp 5,.tmp 6]) rfl (l:=(kT a sep [])) rfl ?_;refine sh fol (kT a sep []) ?_;refine sq ?_;obtain⟨b,c,h⟩:=bnd h;refine sq (gr fol [2] (kT a sep [(7,.i b)]) (ac (cv (qeN a sep c)) az) ?_);refine sh fol (kT a sep ((7,.i b)::(kBD (decide (b>=0))))) ?_;refine ihD h (fun j h=>?_) (fun j h=>?_)
 ·obtain⟨f,d,h⟩:=bnd h;obtain⟨g,e,h⟩:=bnd h;refine sq (gr fol [2,8] [(4,.str f),(5,.str g),(6,.bool true)] (ac (hs (.done (.opt (kg ZT 9 (.str a) none (some (.i b)) none)) (.str f)) (jr st9 none (some b) d)) (ac (hs (.done (.opt (kg ZT 9 (.str a) (some (.i (w64 (b+(sep.length:Int))))) none none)) (.str g)) (jr st9 (some (w64 (b+(sep.length:Int)))) none e)) az)) ?_);refine Goes.ret ?_;obtain rfl:=si h;exact(gw2 [.str f,.str g,.bool true] (FzW.tuple (qd.cons (Ua tS) (qd.cons (Ua tS) (qd.cons (Ua tB) qd.nil)))))
 refine Goes.skip ?_;refine sh fol ((4,.str a)::(5,.str [])::kBJ) ?_;refine Goes.ret ?_;obtain rfl:=si h;exact(gw2 [.str a,.str [],.bool false] (FzW.tuple (qd.cons (Ua tS) (qd.cons (Ua tS) (qd.cons (Ua tB) qd.nil)))))
def strings_Cut (b:Str) (sep:Str):Option (Str×Str×Bool):=
 (stringslite_Cut b sep).bind fun a=>
 some (a.1,a.2.1,a.2.2)
theorem qeX (b:Str) (sep:Str) {res:Str×Str×Bool} (h:strings_Cut b sep=some res):qb ZT (.fn 111) (kBB b sep) [] (.tuple [.str res.1,.str res.2.1,.bool res.2.2]) []:=by
 unfold strings_Cut at h;refine Ub Tryz.func111 rfl rfl (m:=13) rfl (rs:=[.tmp 4,.tmp 5,.tmp 6]) rfl (l:=(kT b sep [])) rfl ?_;refine sh fol (kT b sep []) ?_;obtain⟨a,c,h⟩:=bnd h;refine sq (gr fol [2] ((4,.str a.1)::(kBH a.2.1 a.2.2 [])) (ac (cv (qfW b sep c)) az) ?_);refine Goes.ret ?_;obtain rfl:=si h;exact(gw2 [.str a.1,.str a.2.1,.bool a.2.2] (FzW.tuple (qd.cons (Ua tS) (qd.cons (Ua tS) (qd.cons (Ua tB) qd.nil)))))
def jU (a:Str):Option Bool:=
 (if(!(a==[]))=true then
 (qkE a [48,49,50,51,52,53,54,55,56,57]).bind fun b=>
 if(b==[])=true then
 (idx a 0).bind fun c=>
 if(!decide ((c.toNat:Int)=48))=true then
 some true
 else
 some (a==[48])
 else
 some false
 else
 some false:Option Bool).bind fun d=>
 some d
theorem jL (c:Str) {res:Bool} (h:jU c=some res):qb ZT (.fn 112) [.str c] [] (.bool res) []:=by
 unfold jU at h;refine Ub Tryz.func112 rfl rfl (m:=19) rfl (rs:=[.tmp 2]) rfl (l:=(kAM c)) rfl ?_;refine sh fol (kAM c) ?_;refine sq ?_;obtain⟨j,a,h⟩:=bnd h;refine Ue (s':=(ofG 19 (kBT j),[])) ?_ ?_
 ·rcases wyB a with⟨e,a⟩|⟨e,a⟩
  ·obtain⟨n,b,a⟩:=bnd a;rcases wyB a with⟨f,a⟩|⟨f,a⟩
   ·obtain⟨k,d,a⟩:=bnd a;rcases wyB a with⟨g,a⟩|⟨g,a⟩
    ·obtain rfl:=si a;exact tr fol [2,4,7,9,11] kBg (ac (gw e) (ac (cv (qhV c [48,49,50,51,52,53,54,55,56,57] b)) (ac (gw f) (ac (hs (.done (.opt (yw ZT 9 (.str c) (.i 0))) (.int .u8 (k.toNat:Int))) (qaH st9 d)) (ac (gw g) az)))))
    obtain rfl:=si a;exact tr fol [2,4,7,9,11] (kBT (c==[48])) (ac (gw e) (ac (cv (qhV c [48,49,50,51,52,53,54,55,56,57] b)) (ac (gw f) (ac (hs (.done (.opt (yw ZT 9 (.str c) (.i 0))) (.int .u8 (k.toNat:Int))) (qaH st9 d)) (ac (gw g) az)))))
   obtain rfl:=si a;exact tr fol [2,4,7] kAo (ac (gw e) (ac (cv (qhV c [48,49,50,51,52,53,54,55,56,57] b)) (ac (gw f) az)))
  obtain rfl:=si a;exact tr fol [2] kAo (ac (gw e) az)
 refine Goes.ret ?_;obtain rfl:=si h;exact(gw2 [.bool j] (Ua tB))
def zM (l:List Int):Nat->Int->Option (Unit⊕Int)
 |0,_=>none
 |K+1,a=>
  if a<(l.length:Int)then
  (idx l a).bind fun b=>
  if(!decide (b=0))=true then
  some (.inr b)
  else
  zM l K (w64 (a+1))
  else
  some (.inl ())
def yZ (N:Nat) (l:List Int):Option Int:=
 (zM l N 0).bind (fun
 |(.inl ())=>
 some 0
 |(.inr a)=>
 some a)
theorem qee (N:Nat) (l:List Int) {res:Int} (h:yZ N l=some res):qb ZT (.fn 113) [vl encI l] [] (.i res) []:=by
 unfold yZ at h;refine Ub Tryz.func113 rfl rfl (m:=15) rfl (rs:=[.tmp 2]) rfl (l:=(kBU l [])) rfl ?_;refine sh fol (kBU l []) ?_;refine sq ?_;refine sh fol (kBV l [(6,.i (l.length:Int)),(7,.i 0)]) ?_;refine Goes.block ?_;obtain⟨d,g2,h⟩:=bnd h;refine Goes.imp (Q:=fun x s'=>(x= .exit 0/\(.inl ())=d/\Sub s' (ofG 15 [],[]))\/(x= .ret/\ ∃e,(.inr e)=d/\zh ZT [.tmp 2] (.i e) .ret s')) ?_ ?_
 ·refine Ud (fun M s=> ∃(a:Int),s=(ofG 15 (kBV l (kAK (l.length:Int) a [])),[])/\zM l M a=some d) ?_ (m:=N) ⟨_,rfl,g2⟩;rintro M s ⟨a,rfl,g2⟩
  cases M with
  |zero=>simp only[zM]at g2;cases g2
  |succ M=>
   rw[zM]at g2;refine sh fol (kBV l (kAK (l.length:Int) a (kBe (decide (a<(l.length:Int)))))) ?_;refine sq ?_;refine ihD g2 (fun f g2=>?_) (fun f g2=>?_)
   ·refine Goes.skip ?_;refine sq (Goes.block ?_);obtain⟨c,b,g2⟩:=bnd g2;refine sq (gr fol [0,1] ((4,.i c)::(kBV l (kAK (l.length:Int) a []))) (ac (iv qrr encI b) (ac (lv 0 ce33 encI b rfl) az)) ?_);refine sh fol ((4,.i c)::(kBV l (kAK (l.length:Int) a (kBD (!decide (c=0)))))) ?_;refine ihB g2 (fun g g2=>?_) (fun g g2=>?_)
    ·refine sh fol (kBL c) ?_;refine Goes.ret ?_;obtain rfl:=si g2;exact Or.inr (⟨rfl,_,rfl,(gw2 [.i c] (Ua tI))⟩)
    refine Goes.skip ?_;refine gh fol (kBV l (kAK (l.length:Int) (w64 (a+1)) [])) ?_;exact⟨M,(ofG 15 (kBV l (kAK (l.length:Int) (w64 (a+1)) [])),[]),Nat.lt_succ_self _,(Sub.refl _),_,rfl,g2⟩
   refine Goes.exit ?_;obtain rfl:=si g2;exact Or.inl (⟨rfl,rfl,(Sub.keep [] rfl rfl)⟩)
 rintro x s' (⟨rfl,rfl,hsub⟩|⟨rfl,j,rfl,hret⟩)
 ·try dsimp only at h
  refine Goes.sub hsub ?_;refine sh fol [(2,.i 0)] ?_;refine Goes.ret ?_;obtain rfl:=si h;exact(gw2 [.i 0] (Ua tI))
 try dsimp only at h
 obtain rfl:=si h;exact hret
def zD (holds:Bool) (e:Int):Option Int:=
 if holds=true then
 some e
 else
 some 0
theorem qaD (holds:Bool) (e:Int) {res:Int} (h:zD holds e=some res):qb ZT (.fn 114) [.bool holds,.i e] [] (.i res) []:=by
 unfold zD at h;refine Ub Tryz.func114 rfl rfl (m:=7) rfl (rs:=[.tmp 4]) rfl (l:=[(0,.bool holds),(1,.i e)]) rfl ?_;refine sh fol [(0,.bool holds),(1,.i e)] ?_;refine sq ?_;refine sh fol [(1,.i e),(5,.bool holds)] ?_;refine ihB h (fun a h=>?_) (fun a h=>?_)
 ·refine sh fol (kBW e) ?_;refine Goes.ret ?_;obtain rfl:=si h;exact(gw2 [.i e] (Ua tI))
 refine Goes.skip ?_;refine sh fol [(4,.i 0)] ?_;refine Goes.ret ?_;obtain rfl:=si h;exact(gw2 [.i 0] (Ua tI))
def qcM (n:Int):Option Int:=
 if n<0 then
 some (wrap .u64 (w64 (0-n)))
 else
 some (wrap .u64 n)
theorem qeS (n:Int) {res:Int} (h:qcM n=some res):qb ZT (.fn 190) [.i n] [] (.int .u64 res) []:=by
 unfold qcM at h;refine Ub Tryz.func190 rfl rfl (m:=10) rfl (rs:=[.tmp 2]) rfl (l:=[(0,.i n)]) rfl ?_;refine sh fol [(0,.i n)] ?_;refine sq ?_;refine sh fol ((0,.i n)::(kBR (decide (n<0)))) ?_;refine ihD h (fun a h=>?_) (fun a h=>?_)
 ·refine sh fol [(2,.int .u64 (wrap .u64 (w64 (0-n))))] ?_;refine Goes.ret ?_;obtain rfl:=si h;exact(gw2 [.int .u64 (wrap .u64 (w64 (0-n)))] (Ua tI))
 refine Goes.skip ?_;refine sh fol [(2,.int .u64 (wrap .u64 n))] ?_;refine Goes.ret ?_;obtain rfl:=si h;exact(gw2 [.int .u64 (wrap .u64 n)] (Ua tI))
def qK (a:qp):Option (Bool×(List Int)):=
 if(!a.w.isEmpty)=true then
 some (decide (a.s<0),a.w)
 else
 if a.s=0 then
 some (false,[])
 else
 (qcM a.s).bind fun b=>
 some (decide (a.s<0),[b])
theorem zQ (a:qp) {res:Bool×(List Int)} (h:qK a=some res):qb ZT (.fn 191) [.agg (nz1 a)] [] (.tuple [.bool res.1,vl ZU res.2]) []:=by
 unfold qK at h;refine Ub Tryz.func191 rfl rfl (m:=24) rfl (rs:=[.tmp 2,.tmp 3]) rfl (l:=[(0,.agg (nz1 a))]) rfl ?_;refine sg fol (kV []) [.cells (nz1 a)] ?_;refine sq (Goes.block ?_);refine sq (gr fol [2] (kV (kBR (!a.w.isEmpty))) (ac (hs (.done (.opt (ku ZT .neq 96 (.tmp 6) (.const (.slice none 0 0)) (nvl ZU a.w) .nilslice)) (.bool (!a.w.isEmpty))) (ne_nv qaU)) az) ?_);refine ihB h (fun c h=>?_) (fun c h=>?_)
 ·refine sh fol [(2,.bool (decide (a.s<0))),(3,nvl ZU a.w)] ?_;refine Goes.ret ?_;obtain rfl:=si h;exact(gw2 [.bool (decide (a.s<0)),nvl ZU a.w] (FzW.tuple (qd.cons (Ua tB) (qd.cons (FzW.nvL (E:=ZU) (nl rfl)) qd.nil))))
 refine sh fol (kV (kBC (decide (a.s=0)))) ?_;refine ihD h (fun d h=>?_) (fun d h=>?_)
 ·refine sh fol [(2,.bool false),(3,.nilslice)] ?_;refine Goes.ret ?_;obtain rfl:=si h;exact(gw2 [.bool false,.nilslice] (FzW.tuple (qd.cons (Ua tB) (qd.cons (FzW.nilv (E:=ZU)) qd.nil))))
 refine Goes.skip ?_;obtain⟨e,b,h⟩:=bnd h;refine sq (gq fol [5] [(2,.bool (decide (a.s<0))),(3,.slice 1 0 1 1 1)] [.cells (nz1 a),.cells [.int .u64 e]] (ac (cv (qeS a.s b)) az) ?_);refine Goes.ret ?_;obtain rfl:=si h;exact(gw2 [.bool (decide (a.s<0)),.slice 1 0 1 1 1] (FzW.tuple (qd.cons (Ua tB) (qd.cons (FzW.fz (Fz.lit rfl rfl (Ug (AllST.cons tI AllST.nil)))) qd.nil))))
def vF (neg:Bool) (w:List Int):Option qp:=
 if(w.length:Int)=0 then
 some (⟨0,[]⟩:qp)
 else
 (if(w.length:Int)=1 then
 (idx w 0).bind fun d=>
 if d<=9223372036854775807 then
 some neg
 else
 some false
 else
 some false:Option Bool).bind fun e=>
 if e=true then
 (idx w 0).bind fun f=>
 some (⟨w64 (0-(w64 f)),[]⟩:qp)
 else
 (if(w.length:Int)=1 then
 (idx w 0).bind fun a=>
 some (decide (a<=9223372036854775807))
 else
 some false:Option Bool).bind fun b=>
 if b=true then
 (idx w 0).bind fun c=>
 some (⟨w64 c,[]⟩:qp)
 else
 if neg=true then
 some (⟨(-1),w⟩:qp)
 else
 some (⟨1,w⟩:qp)
theorem qaq (neg:Bool) (w:List Int) {res:qp} (h:vF neg w=some res):qb ZT (.fn 192) [.bool neg,vl ZU w] [] (.agg (nz1 res)) []:=by
 unfold vF at h;refine Ub Tryz.func192 rfl rfl (m:=50) rfl (rs:=[.cell 4 98]) rfl (l:=[(0,.bool neg),(1,vl ZU w)]) rfl ?_;refine sg fol ((0,.bool neg)::(1,vl ZU w)::(kAs [])) [bZ] ?_;refine sq (Goes.block ?_);refine sh fol ((0,.bool neg)::(1,vl ZU w)::(kAs [(5,.bool (decide ((w.length:Int)=0)))])) ?_;refine ihD h (fun t h=>?_) (fun t h=>?_)
 ·refine sh fol (kAs []) ?_;refine Goes.ret ?_;obtain rfl:=si h;exact(gw2 [.agg [.i 0,.nilslice]] (FzW.agg (qd.cons (Ua tI) (qd.cons (Uq (E:=ZU)) qd.nil))))
 refine sq ?_;obtain⟨u,a,h⟩:=bnd h;refine Ue (s':=(ofG 50 ((0,.bool neg)::(1,vl ZU w)::(kAs (kBh u))),[bZ])) ?_ ?_
 ·rcases wyD a with⟨j,a⟩|⟨j,a⟩
  ·obtain⟨x,c,a⟩:=bnd a;rcases wyD a with⟨k,a⟩|⟨k,a⟩
   ·obtain rfl:=si a;exact tr fol [3,5,6,9] ((0,.bool neg)::(1,vl ZU w)::(kAs (kBh neg))) (ac (gw j) (ac (iv zU ZU c) (ac (lv 0 z8 ZU c rfl) (ac (gw k) az))))
   obtain rfl:=si a;exact tr fol [3,5,6,9] ((0,.bool neg)::(1,vl ZU w)::(kAs [(10,.bool false)])) (ac (gw j) (ac (iv zU ZU c) (ac (lv 0 z8 ZU c rfl) (ac (gw k) az))))
  obtain rfl:=si a;exact tr fol [3] ((0,.bool neg)::(1,vl ZU w)::(kAs [(10,.bool false)])) (ac (gw j) az)
 refine ihB h (fun v h=>?_) (fun v h=>?_)
 ·obtain⟨s,f,h⟩:=bnd h;refine sq (gq fol [1,2] (kAs []) (kBK (w64 (0-(w64 s)))) (ac (iv zU ZU f) (ac (lv 0 z8 ZU f rfl) az)) ?_);refine Goes.ret ?_;obtain rfl:=si h;exact(gw2 [.agg [.i (w64 (0-(w64 s))),.nilslice]] (FzW.agg (qd.cons (Ua tI) (qd.cons (Uq (E:=ZU)) qd.nil))))
 refine sq ?_;obtain⟨n,b,h⟩:=bnd h;refine Ue (s':=(ofG 50 ((0,.bool neg)::(1,vl ZU w)::(kAs [(29,.bool n)])),[bZ])) ?_ ?_
 ·rcases wyD b with⟨o,b⟩|⟨o,b⟩
  ·obtain⟨p,d,b⟩:=bnd b;obtain rfl:=si b;exact tr fol [3,5,6] ((0,.bool neg)::(1,vl ZU w)::(kAs [(29,.bool (decide (p<=9223372036854775807)))])) (ac (gw o) (ac (iv zU ZU d) (ac (lv 0 z8 ZU d rfl) az)))
  obtain rfl:=si b;exact tr fol [3] ((0,.bool neg)::(1,vl ZU w)::(kAs [(29,.bool false)])) (ac (gw o) az)
 refine ihB h (fun q h=>?_) (fun q h=>?_)
 ·obtain⟨g,e,h⟩:=bnd h;refine sq (gq fol [1,2] (kAs []) (kBK (w64 g)) (ac (iv zU ZU e) (ac (lv 0 z8 ZU e rfl) az)) ?_);refine Goes.ret ?_;obtain rfl:=si h;exact(gw2 [.agg [.i (w64 g),.nilslice]] (FzW.agg (qd.cons (Ua tI) (qd.cons (Uq (E:=ZU)) qd.nil))))
 refine sh fol ((1,vl ZU w)::(kAs [(44,.bool neg)])) ?_;refine ihB h (fun r h=>?_) (fun r h=>?_)
 ·refine sg fol (kAs []) [.cells [.i (-1),vl ZU w]] ?_;refine Goes.ret ?_;obtain rfl:=si h;exact(gw2 [.agg [.i (-1),vl ZU w]] (FzW.agg (qd.cons (Ua tI) (qd.cons (FzW.Lnv (E:=ZU) (by first|omega|(simp only[decide_eq_false_iff_not,decide_eq_true_eq]at*;omega)) (nl rfl)) qd.nil))))
 refine Goes.skip ?_;refine sg fol (kAs []) [.cells [.i 1,vl ZU w]] ?_;refine Goes.ret ?_;obtain rfl:=si h;exact(gw2 [.agg [.i 1,vl ZU w]] (FzW.agg (qd.cons (Ua tI) (qd.cons (FzW.Lnv (E:=ZU) (by first|omega|(simp only[decide_eq_false_iff_not,decide_eq_true_eq]at*;omega)) (nl rfl)) qd.nil))))
def zL (a:qp):Option qp:=
 (if a.w.isEmpty=true then
 some (!decide (a.s=(-9223372036854775808)))
 else
 some false:Option Bool).bind fun c=>
 if c=true then
 some (⟨w64 (0-a.s),[]⟩:qp)
 else
 (qK a).bind fun b=>
 (vF (!b.1) b.2).bind fun d=>
 some d
theorem vP (a:qp) {res:qp} (h:zL a=some res):qb ZT (.fn 151) [.agg (nz1 a)] [] (.agg (nz1 res)) []:=by
 unfold zL at h;refine Ub Tryz.func151 rfl rfl (m:=26) rfl (rs:=[.cell 2 98]) rfl (l:=[(0,.agg (nz1 a))]) rfl ?_;refine sg fol (kV kAw) [.cells (nz1 a),bZ] ?_;refine sq ?_;refine sq ?_;obtain⟨j,b,h⟩:=bnd h;refine Ue (s':=(ofG 26 (kV ((2,.ptr 1 0)::(kBD j))),[.cells (nz1 a),bZ])) ?_ ?_
 ·rcases wyB b with⟨g,b⟩|⟨g,b⟩
  ·obtain rfl:=si b;exact tr fol [2,3] (kV ((2,.ptr 1 0)::(kBD (!decide (a.s=(-9223372036854775808)))))) (ac (hs (.done (.opt (ku ZT .eql 96 (.tmp 6) (.const (.slice none 0 0)) (nvl ZU a.w) .nilslice)) (.bool a.w.isEmpty)) (qaX qaU)) (ac (gw g) az))
  obtain rfl:=si b;exact tr fol [2,3] (kV [(2,.ptr 1 0),(12,.bool false)]) (ac (hs (.done (.opt (ku ZT .eql 96 (.tmp 6) (.const (.slice none 0 0)) (nvl ZU a.w) .nilslice)) (.bool a.w.isEmpty)) (qaX qaU)) (ac (gw g) az))
 refine ihB h (fun k h=>?_) (fun k h=>?_)
 ·refine sg fol kAw (.cells (nz1 a)::(kBK (w64 (0-a.s)))) ?_;refine Goes.ret ?_;obtain rfl:=si h;exact(gw2 [.agg [.i (w64 (0-a.s)),.nilslice]] (FzW.agg (qd.cons (Ua tI) (qd.cons (Uq (E:=ZU)) qd.nil))))
 refine Goes.skip ?_;obtain⟨e,c,h⟩:=bnd h;refine sq (gr fol [1] ((2,.ptr 1 0)::(kBO e.1 [(4,vl ZU e.2)])) (ac (cv (zQ a c)) az) ?_);obtain⟨f,d,h⟩:=bnd h;refine sq (gq fol [3,4] kAw [.cells (nz1 a),.cells (nz1 f)] (ac (cv (qaq (!e.1) e.2 d)) (ac (hs (.run [1] (qx ZT 98 (.ptr 1 0) (.agg (nz1 f))) [.cells (nz1 a),bZ] .undef [.cells (nz1 a),.cells (nz1 f)] true) (qV (n:=2) (by kernel_rfl) rfl rfl rfl rfl (cac rfl (cac nvc can)) rfl)) az)) ?_);refine Goes.ret ?_;obtain rfl:=si h;exact(gw2 [.agg (nz1 f)] (FzW.agg (qd.cons (Ua tI) (qd.cons (Ua (qD ZU _ (nl rfl))) qd.nil))))
def qbh (a:qp):Option qp:=
 if a.s<0 then
 (zL a).bind fun b=>
 some b
 else
 some a
theorem qeY (a:qp) {res:qp} (h:qbh a=some res):qb ZT (.fn 181) [.agg (nz1 a)] [] (.agg (nz1 res)) []:=by
 unfold qbh at h;refine Ub Tryz.func181 rfl rfl (m:=9) rfl (rs:=[.cell 2 98]) rfl (l:=[(0,.agg (nz1 a))]) rfl ?_;refine sg fol (kV kAw) [.cells (nz1 a),bZ] ?_;refine sq ?_;refine sh fol (kV [(2,.ptr 1 0),(5,.bool (decide (a.s<0)))]) ?_;refine ihD h (fun d h=>?_) (fun d h=>?_)
 ·obtain⟨c,b,h⟩:=bnd h;refine sq (gq fol [1,2] kAw [.cells (nz1 a),.cells (nz1 c)] (ac (cv (vP a b)) (ac (hs (.run [1] (qx ZT 98 (.ptr 1 0) (.agg (nz1 c))) [.cells (nz1 a),bZ] .undef [.cells (nz1 a),.cells (nz1 c)] true) (qV (n:=2) (by kernel_rfl) rfl rfl rfl rfl (cac rfl (cac nvc can)) rfl)) az)) ?_);refine Goes.ret ?_;obtain rfl:=si h;exact(gw2 [.agg (nz1 c)] (FzW.agg (qd.cons (Ua tI) (qd.cons (Ua (qD ZU _ (nl rfl))) qd.nil))))
 refine Goes.skip ?_;refine sq (gq fol [1] kAw [.cells (nz1 a),.cells (nz1 a)] (ac (hs (.run [1] (qx ZT 98 (.ptr 1 0) (.agg (nz1 a))) [.cells (nz1 a),bZ] .undef [.cells (nz1 a),.cells (nz1 a)] true) (qV (n:=2) (by kernel_rfl) rfl rfl rfl rfl (cac rfl (cac nvc can)) rfl)) az) ?_);refine Goes.ret ?_;obtain rfl:=si h;exact(gw2 [.agg (nz1 a)] (FzW.agg (qd.cons (Ua tI) (qd.cons (Ua (qD ZU _ (nl rfl))) qd.nil))))
def kw (a:qp):Option Int:=
 some (if(if a.s<1 then a.s else 1)>(-1)then(if a.s<1 then a.s else 1)else(-1))
theorem yI (a:qp) {res:Int} (h:kw a=some res):qb ZT (.fn 182) [.agg (nz1 a)] [] (.i res) []:=by
 unfold kw at h;refine Ub Tryz.func182 rfl rfl (m:=7) rfl (rs:=[.tmp 2]) rfl (l:=[(0,.agg (nz1 a))]) rfl ?_;refine sg fol (kV []) [.cells (nz1 a)] ?_;refine sh fol (kBL (if(if a.s<1 then a.s else 1)>(-1)then(if a.s<1 then a.s else 1)else(-1))) ?_;refine Goes.ret ?_;obtain rfl:=si h;exact(gw2 [.i (if(if a.s<1 then a.s else 1)>(-1)then(if a.s<1 then a.s else 1)else(-1))] (Ua tI))
def qcE (n:Int):Option qp:=
 some (⟨n,[]⟩:qp)
theorem qbP (n:Int) {res:qp} (h:qcE n=some res):qb ZT (.fn 118) [.i n] [] (.agg (nz1 res)) []:=by
 unfold qcE at h;refine Ub Tryz.func118 rfl rfl (m:=5) rfl (rs:=[.cell 2 98]) rfl (l:=[(0,.i n)]) rfl ?_;refine sg fol ((0,.i n)::(kQ [])) [bZ] ?_;refine sg fol (kQ []) (kBK n) ?_;refine Goes.ret ?_;obtain rfl:=si h;exact(gw2 [.agg [.i n,.nilslice]] (FzW.agg (qd.cons (Ua tI) (qd.cons (Uq (E:=ZU)) qd.nil))))
def qaJ (w:List Int):Nat->Int->Option Int
 |0,_=>none
 |K+1,a=>
  (if a>0 then
  (idx w (w64 (a-1))).bind fun b=>
  some (decide (b=0))
  else
  some false:Option Bool).bind fun c=>
  if c=true then
  qaJ w K (w64 (a-1))
  else
  some a
def xq (N:Nat) (w:List Int):Option (List Int):=
 (qaJ w N (w.length:Int)).bind fun a=>
 (cut w 0 a).bind fun b=>
 some b
theorem xE (N:Nat) (w:List Int) {res:List Int} (h:xq N w=some res):qb ZT (.fn 244) [vl ZU w] [] (vl ZU res) []:=by
 unfold xq at h;refine Ub Tryz.func244 rfl rfl (m:=21) rfl (rs:=[.tmp 2]) rfl (l:=[(0,vl ZU w)]) rfl ?_;refine sh fol [(0,vl ZU w)] ?_;refine sh fol [(0,vl ZU w),(3,.i (w.length:Int))] ?_;refine sq (Goes.block ?_);obtain⟨j,g3,h⟩:=bnd h;refine Goes.imp (Q:=fun x s'=>(x= .exit 0/\ ∃d,d=j/\Sub s' (ofG 21 [(0,vl ZU w),(3,.i d)],[]))) ?_ ?_
 ·refine Ud (fun M s=> ∃(b:Int),s=(ofG 21 [(0,vl ZU w),(3,.i b)],[])/\qaJ w M b=some j) ?_ (m:=N) ⟨_,rfl,g3⟩;rintro M s ⟨b,rfl,g3⟩
  cases M with
  |zero=>simp only[qaJ]at g3;cases g3
  |succ M=>
   rw[qaJ]at g3;refine sq ?_;refine sq ?_;obtain⟨k,a,g3⟩:=bnd g3;refine Ue (s':=(ofG 21 [(0,vl ZU w),(3,.i b),(15,.bool k)],[])) ?_ ?_
   ·rcases wyD a with⟨f,a⟩|⟨f,a⟩
    ·obtain⟨n,c,a⟩:=bnd a;obtain rfl:=si a;exact tr fol [2,6,7] [(0,vl ZU w),(3,.i b),(15,.bool (decide (n=0)))] (ac (gw f) (ac (iv zU ZU c) (ac (lv 0 z8 ZU c rfl) az)))
    obtain rfl:=si a;exact tr fol [2] [(0,vl ZU w),(3,.i b),(15,.bool false)] (ac (gw f) az)
   refine ihB g3 (fun o g3=>?_) (fun o g3=>?_)
   ·refine Goes.skip ?_;refine Goes.block ?_;refine gh fol [(0,vl ZU w),(3,.i (w64 (b-1)))] ?_;exact⟨M,(ofG 21 [(0,vl ZU w),(3,.i (w64 (b-1)))],[]),Nat.lt_succ_self _,(Sub.refl _),_,rfl,g3⟩
   refine Goes.exit ?_;obtain rfl:=si g3;exact⟨rfl,_,rfl,(Sub.keep [0,3] rfl rfl)⟩
 rintro x s' ⟨rfl,d,rfl,hsub⟩;refine Goes.sub hsub ?_;obtain⟨g,e,h⟩:=bnd h;refine sq (gr fol [2] [(2,vl ZU g)] (ac (hs (.done (.opt (kg ZT 96 (vl ZU w) none (some (.i d)) none)) (vl ZU g)) (qjn zU (E:=ZU) rfl none (some d) e)) az) ?_);refine Goes.ret ?_;obtain rfl:=si h;exact(gw2 [vl ZU g] (Ua (qB ZU _ (nl rfl))))
def jh (c:List Int) (d:List Int):Nat->(List Int)->Int->Int->Option ((List Int)×Int)
 |0,_,_,_=>none
 |K+1,e,a,j=>
  if a<(c.length:Int)then
  ((if a<(d.length:Int)then
  (idx d a).bind fun f=>
  some f
  else
  some 0:Option Int)).bind fun g=>
  (idx c a).bind fun h=>
  (qak h g j).bind fun b=>
  (idx e a).bind fun k=>
  (put e a b.1).bind fun i=>
  jh c d K i (w64 (a+1)) b.2
  else
  some (e,j)
def qaQ (N:Nat) (b:List Int) (y:List Int):Option (List Int):=
 ((if(b.length:Int)<(y.length:Int)then
 some (y,b)
 else
 some (b,y):Option ((List Int)×(List Int)))).bind fun(a,g)=>
 (mk 8 (w64 ((a.length:Int)+1)) 0).bind fun h=>
 (jh a g N h 0 0).bind fun(f,c)=>
 (idx f (a.length:Int)).bind fun i=>
 (put f (a.length:Int) c).bind fun d=>
 (xq N d).bind fun e=>
 some e
theorem qhe (N:Nat) (B:List Int) (y:List Int) {res:List Int} (h:qaQ N B y=some res):qb ZT (.fn 194) [vl ZU B,vl ZU y] [] (vl ZU res) []:=by
 unfold qaQ at h;refine Ub Tryz.func194 rfl rfl (m:=54) rfl (rs:=[.tmp 4]) rfl (l:=[(0,vl ZU B),(1,vl ZU y)]) rfl ?_;refine sh fol [(0,vl ZU B),(1,vl ZU y)] ?_;refine sq ?_;refine sh fol ((0,vl ZU B)::(1,vl ZU y)::(kBC (decide ((B.length:Int)<(y.length:Int))))) ?_;obtain⟨P,g3,h⟩:=bnd h;refine Goes.imp (Q:=fun x s'=>(x= .normal/\ ∃a e,(a,e)=P/\Sub s' (ofG 54 [(0,vl ZU a),(1,vl ZU e)],[]))) ?_ ?_
 ·refine ihD g3 (fun U g3=>?_) (fun U g3=>?_)
  ·refine gh fol [(0,vl ZU y),(1,vl ZU B)] ?_;obtain rfl:=si g3;exact⟨rfl,_,_,rfl,(Sub.refl _)⟩
  refine Goes.skip ?_;obtain rfl:=si g3;exact⟨rfl,_,_,rfl,(Sub.keep [0,1] rfl rfl)⟩
 rintro x s' ⟨rfl,a,e,rfl,hsub⟩
 try dsimp only at h
 refine Goes.sub hsub ?_;obtain⟨C,G,h⟩:=bnd h;refine sq (gq fol [3] ((0,vl ZU a)::(1,vl ZU e)::(kE C [])) [.cells (C.flatMap ZU.c)] (ac (hs (.run [] (zF ZT 96 (.i (w64 ((a.length:Int)+1))) (.i (w64 ((a.length:Int)+1)))) [] (.slice 0 0 C.length C.length 1) [.cells (C.flatMap ZU.c)] false) (qec zU (E:=ZU) (z:=0) rfl (by kernel_rfl) G rfl)) az) ?_);refine sh fol ((0,vl ZU a)::(1,vl ZU e)::(kE C [(6,.int .u64 0)])) ?_;refine sq ?_;refine sh fol ((0,vl ZU a)::(1,vl ZU e)::(kE C [(6,.int .u64 0),(21,.i (a.length:Int)),(22,.i 0)])) ?_;refine Goes.block ?_;obtain⟨H,g11,h⟩:=bnd h;refine Goes.imp (Q:=fun x s'=>(x= .exit 0/\ ∃v k,(v,k)=H/\Sub s' (ofG 54 ((0,vl ZU a)::(kE v (kAQ k []))),[.cells (v.flatMap ZU.c)]))) ?_ ?_
 ·refine Ud (fun M s=> ∃(f:List Int) (d:Int) (w:Int),s=(ofG 54 ((0,vl ZU a)::(1,vl ZU e)::(kE f (kAQ w (kAI (a.length:Int) d [])))),[.cells (f.flatMap ZU.c)])/\jh a e M f d w=some H) ?_ (m:=N) ⟨_,_,_,rfl,g11⟩;rintro M s ⟨f,d,w,rfl,g11⟩
  cases M with
  |zero=>simp only[jh]at g11;cases g11
  |succ M=>
   rw[jh]at g11;refine sh fol ((0,vl ZU a)::(1,vl ZU e)::(kE f (kAQ w (kAI (a.length:Int) d [(23,.bool (decide (d<(a.length:Int))))])))) ?_;refine sq ?_;refine ihD g11 (fun I g11=>?_) (fun I g11=>?_)
   ·refine Goes.skip ?_;refine sq (Goes.block ?_);refine sh fol ((0,vl ZU a)::(1,vl ZU e)::(kE f (kAQ w ((7,.i d)::(kAI (a.length:Int) d []))))) ?_;refine sh fol ((0,vl ZU a)::(1,vl ZU e)::(kE f (kAQ w ((7,.i d)::(kBj (kAI (a.length:Int) d [])))))) ?_;refine sq ?_;refine sh fol ((0,vl ZU a)::(1,vl ZU e)::(kE f (kAQ w ((7,.i d)::(kBj (kAI (a.length:Int) d [(28,.bool (decide (d<(e.length:Int))))])))))) ?_;obtain⟨J,g14,g11⟩:=bnd g11;refine Goes.imp (Q:=fun x s'=>(x= .normal/\ ∃A,A=J/\Sub s' (ofG 54 ((0,vl ZU a)::(1,vl ZU e)::(kE f (kAQ w ((7,.i d)::(8,.int .u64 A)::(kAI (a.length:Int) d []))))),[.cells (f.flatMap ZU.c)]))) ?_ ?_
    ·refine ihD g14 (fun K g14=>?_) (fun K g14=>?_)
     ·obtain⟨L,n,g14⟩:=bnd g14;refine gr fol [2,3] ((0,vl ZU a)::(1,vl ZU e)::(kE f (kAQ w ((7,.i d)::(8,.int .u64 L)::(kAI (a.length:Int) d []))))) (ac (iv zU ZU n) (ac (lv 0 z8 ZU n rfl) az)) ?_;obtain rfl:=si g14;exact⟨rfl,_,rfl,(Sub.refl _)⟩
     refine Goes.skip ?_;obtain rfl:=si g14;exact⟨rfl,_,rfl,(Sub.keep [0,1,5,6,7,8,21,22] rfl rfl)⟩
    rintro x s' ⟨rfl,A,rfl,hsub⟩;refine Goes.sub hsub ?_;obtain⟨O,o,g11⟩:=bnd g11;obtain⟨j,D,g11⟩:=bnd g11;obtain⟨V,p,g11⟩:=bnd g11;obtain⟨g,q,g11⟩:=bnd g11;refine gq fol [4,5,8,12,13] ((0,vl ZU a)::(1,vl ZU e)::(kE f (kAQ j.2 (kAI (a.length:Int) d [])))) [.cells (g.flatMap ZU.c)] (ac (iv zU ZU o) (ac (lv 0 z8 ZU o rfl) (ac (cv (qcF O A w D)) (ac (hs (.done (.opt (ql ZT 96 (.slice 0 0 f.length f.length 1) (.i d))) (.ptr 0 ((d:Int).toNat*1+0))) (qaT zU p)) (ac (hs (.run [0] (qx ZT 222 (.ptr 0 ((d:Int).toNat*1+0)) (.int .u64 j.1)) [.cells (f.flatMap ZU.c)] .undef [.cells (g.flatMap ZU.c)] true) (qau (E:=ZU) (l:=f) (y:=j.1) rfl (show _=some 1 by kernel_rfl) rfl p rfl rfl rfl rfl rfl q rfl)) az))))) ?_;refine Goes.sub (show Sub (ofG 54 ((0,vl ZU a)::(1,vl ZU e)::(kE f (kAQ j.2 (kAI (a.length:Int) d [])))),[.cells (g.flatMap ZU.c)]) (ofG 54 ((0,vl ZU a)::(1,vl ZU e)::(kE g (kAQ j.2 (kAI (a.length:Int) d [])))),[.cells (g.flatMap ZU.c)])from(Uc [] [some 0] rfl rfl (.keep (.same (qf ZU _)) (.keep (.same (qf ZU _)) (.keep (.sliceE rfl (yf q)) (.keep (.same nI) (.keep (.same nI) (.keep (.same nI) .nil)))))) (.ks .nil))) ?_;refine gh fol ((0,vl ZU a)::(1,vl ZU e)::(kE g (kAQ j.2 (kAI (a.length:Int) (w64 (d+1)) [])))) ?_;exact⟨M,(ofG 54 ((0,vl ZU a)::(1,vl ZU e)::(kE g (kAQ j.2 (kAI (a.length:Int) (w64 (d+1)) [])))),[.cells (g.flatMap ZU.c)]),Nat.lt_succ_self _,(Sub.refl _),_,_,_,rfl,g11⟩
   refine Goes.exit ?_;obtain rfl:=si g11;exact⟨rfl,_,_,rfl,(Sub.keep [0,5,6] rfl rfl)⟩
 rintro x s' ⟨rfl,v,k,rfl,hsub⟩
 try dsimp only at h
 refine Goes.sub hsub ?_;obtain⟨X,r,h⟩:=bnd h;obtain⟨b,t,h⟩:=bnd h;refine sq (gq fol [4,5] (kE v []) [.cells (b.flatMap ZU.c)] (ac (hs (.done (.opt (ql ZT 96 (.slice 0 0 v.length v.length 1) (.i (a.length:Int)))) (.ptr 0 (((a.length:Int):Int).toNat*1+0))) (qaT zU r)) (ac (hs (.run [0] (qx ZT 222 (.ptr 0 (((a.length:Int):Int).toNat*1+0)) (.int .u64 k)) [.cells (v.flatMap ZU.c)] .undef [.cells (b.flatMap ZU.c)] true) (qau (E:=ZU) (l:=v) (y:=k) rfl (show _=some 1 by kernel_rfl) rfl r rfl rfl rfl rfl rfl t rfl)) az)) ?_);refine Goes.sub (show Sub (ofG 54 (kE v []),[.cells (b.flatMap ZU.c)]) (ofG 54 (kE b []),[.cells (b.flatMap ZU.c)])from(Uc [] [some 0] rfl rfl (.keep (.sliceE rfl (yf t)) .nil) (.ks .nil))) ?_;obtain⟨u,F,h⟩:=bnd h;refine sq (gq fol [1] [(4,vl ZU u)] [.frozen (b.flatMap ZU.c)] (ac (hs (.callF 244 [.slice 0 0 b.length b.length 1] [.cells (b.flatMap ZU.c)] [0] [vl ZU b] (vl ZU u)) (qaV (FzL.cons (Fz.sl (E:=ZU) rfl rfl (nl rfl)) FzL.nil) (xE N b F) (qB ZU _ (nl rfl)))) az) ?_);refine Goes.sub (show Sub (ofG 54 [(4,vl ZU u)],[.frozen (b.flatMap ZU.c)]) (ofG 54 [(4,vl ZU u)],[])from(Uc [] [] rfl rfl (.keep (.same (qf ZU _)) .nil) .nil)) ?_;refine Goes.ret ?_;obtain rfl:=si h;exact(gw2 [vl ZU u] (Ua (qB ZU _ (nl rfl))))
def zt (a:List Int) (b:List Int):Nat->Int->Option (Unit⊕Int)
 |0,_=>none
 |K+1,c=>
  if c>=0 then
  (idx a c).bind fun d=>
  (idx b c).bind fun e=>
  if(!decide (d=e))=true then
  if d<e then
  some (.inr (-1))
  else
  some (.inr 1)
  else
  zt a b K (w64 (c-1))
  else
  some (.inl ())
def jW (N:Nat) (a:List Int) (b:List Int):Option Int:=
 if(!decide ((a.length:Int)=(b.length:Int)))=true then
 if(a.length:Int)<(b.length:Int)then
 some (-1)
 else
 some 1
 else
 (zt a b N (w64 ((a.length:Int)-1))).bind (fun
 |(.inl ())=>
 some 0
 |(.inr c)=>
 some c)
theorem qci (N:Nat) (a:List Int) (b:List Int) {res:Int} (h:jW N a b=some res):qb ZT (.fn 195) [vl ZU a,vl ZU b] [] (.i res) []:=by
 unfold jW at h;refine Ub Tryz.func195 rfl rfl (m:=41) rfl (rs:=[.tmp 4]) rfl (l:=[(0,vl ZU a),(1,vl ZU b)]) rfl ?_;refine sh fol [(0,vl ZU a),(1,vl ZU b)] ?_;refine sq ?_;refine sh fol ((0,vl ZU a)::(1,vl ZU b)::(kBh (!decide ((a.length:Int)=(b.length:Int))))) ?_;refine ihB h (fun o h=>?_) (fun o h=>?_)
 ·refine sq ?_;refine sh fol [(15,.bool (decide ((a.length:Int)<(b.length:Int))))] ?_;refine ihD h (fun p h=>?_) (fun p h=>?_)
  ·refine sh fol [(4,.i (-1))] ?_;refine Goes.ret ?_;obtain rfl:=si h;exact(gw2 [.i (-1)] (Ua tI))
  refine Goes.skip ?_;refine sh fol [(4,.i 1)] ?_;refine Goes.ret ?_;obtain rfl:=si h;exact(gw2 [.i 1] (Ua tI))
 refine Goes.skip ?_;refine sq ?_;refine sh fol ((0,vl ZU a)::(1,vl ZU b)::(kA8 (w64 ((a.length:Int)-1)))) ?_;refine Goes.block ?_;obtain⟨f,g4,h⟩:=bnd h;refine Goes.imp (Q:=fun x s'=>(x= .exit 0/\(.inl ())=f/\Sub s' (ofG 41 [],[]))\/(x= .ret/\ ∃j,(.inr j)=f/\zh ZT [.tmp 4] (.i j) .ret s')) ?_ ?_
 ·refine Ud (fun M s=> ∃(e:Int),s=(ofG 41 ((0,vl ZU a)::(1,vl ZU b)::(kA8 e)),[])/\zt a b M e=some f) ?_ (m:=N) ⟨_,rfl,g4⟩;rintro M s ⟨e,rfl,g4⟩
  cases M with
  |zero=>simp only[zt]at g4;cases g4
  |succ M=>
   rw[zt]at g4;refine sq ?_;refine sh fol [(0,vl ZU a),(1,vl ZU b),(5,.i e),(20,.bool (decide (e>=0)))] ?_;refine ihD g4 (fun q g4=>?_) (fun q g4=>?_)
   ·refine Goes.skip ?_;refine sq (Goes.block ?_);obtain⟨k,c,g4⟩:=bnd g4;obtain⟨n,d,g4⟩:=bnd g4;refine sq (gr fol [2,3,6,7] [(0,vl ZU a),(1,vl ZU b),(5,.i e),(31,.bool (!decide (k=n)))] (ac (iv zU ZU c) (ac (lv 0 z8 ZU c rfl) (ac (iv zU ZU d) (ac (lv 0 z8 ZU d rfl) az)))) ?_);refine ihB g4 (fun r g4=>?_) (fun r g4=>?_)
    ·refine sq ?_;refine sq (gr fol [2,3,6,7] [(40,.bool (decide (k<n)))] (ac (iv zU ZU c) (ac (lv 0 z8 ZU c rfl) (ac (iv zU ZU d) (ac (lv 0 z8 ZU d rfl) az)))) ?_);refine ihD g4 (fun g g4=>?_) (fun g g4=>?_)
     ·refine sh fol [(4,.i (-1))] ?_;refine Goes.ret ?_;obtain rfl:=si g4;exact Or.inr (⟨rfl,_,rfl,(gw2 [.i (-1)] (Ua tI))⟩)
     refine Goes.skip ?_;refine sh fol [(4,.i 1)] ?_;refine Goes.ret ?_;obtain rfl:=si g4;exact Or.inr (⟨rfl,_,rfl,(gw2 [.i 1] (Ua tI))⟩)
    refine Goes.skip ?_;refine gh fol ((0,vl ZU a)::(1,vl ZU b)::(kA8 (w64 (e-1)))) ?_;exact⟨M,(ofG 41 ((0,vl ZU a)::(1,vl ZU b)::(kA8 (w64 (e-1)))),[]),Nat.lt_succ_self _,(Sub.refl _),_,rfl,g4⟩
   refine Goes.exit ?_;obtain rfl:=si g4;exact Or.inl (⟨rfl,rfl,(Sub.keep [] rfl rfl)⟩)
 rintro x s' (⟨rfl,rfl,hsub⟩|⟨rfl,t,rfl,hret⟩)
 ·try dsimp only at h
  refine Goes.sub hsub ?_;refine sh fol [(4,.i 0)] ?_;refine Goes.ret ?_;obtain rfl:=si h;exact(gw2 [.i 0] (Ua tI))
 try dsimp only at h
 obtain rfl:=si h;exact hret
def jM (c:List Int) (y:List Int):Nat->(List Int)->Int->Int->Option (List Int)
 |0,_,_,_=>none
 |K+1,d,a,h=>
  if a<(c.length:Int)then
  ((if a<(y.length:Int)then
  (idx y a).bind fun e=>
  some e
  else
  some 0:Option Int)).bind fun i=>
  (idx c a).bind fun f=>
  (qey f i h).bind fun b=>
  (idx d a).bind fun j=>
  (put d a b.1).bind fun g=>
  jM c y K g (w64 (a+1)) b.2
  else
  some d
def yQ (N:Nat) (b:List Int) (y:List Int):Option (List Int):=
 (mk 8 (b.length:Int) 0).bind fun c=>
 (jM b y N c 0 0).bind fun d=>
 (xq N d).bind fun a=>
 some a
theorem qek (N:Nat) (a:List Int) (y:List Int) {res:List Int} (h:yQ N a y=some res):qb ZT (.fn 196) [vl ZU a,vl ZU y] [] (vl ZU res) []:=by
 unfold yQ at h;refine Ub Tryz.func196 rfl rfl (m:=41) rfl (rs:=[.tmp 4]) rfl (l:=[(0,vl ZU a),(1,vl ZU y)]) rfl ?_;refine sh fol [(0,vl ZU a),(1,vl ZU y)] ?_;obtain⟨r,v,h⟩:=bnd h;refine sq (gq fol [2] ((0,vl ZU a)::(1,vl ZU y)::(kE r [])) [.cells (r.flatMap ZU.c)] (ac (hs (.run [] (zF ZT 96 (.i (a.length:Int)) (.i (a.length:Int))) [] (.slice 0 0 r.length r.length 1) [.cells (r.flatMap ZU.c)] false) (qec zU (E:=ZU) (z:=0) rfl (by kernel_rfl) v rfl)) az) ?_);refine sh fol ((0,vl ZU a)::(1,vl ZU y)::(kE r [(6,.int .u64 0)])) ?_;refine sq ?_;refine sh fol ((0,vl ZU a)::(1,vl ZU y)::(kE r [(6,.int .u64 0),(13,.i (a.length:Int)),(14,.i 0)])) ?_;refine Goes.block ?_;obtain⟨D,g6,h⟩:=bnd h;refine Goes.imp (Q:=fun x s'=>(x= .exit 0/\ ∃g,g=D/\Sub s' (ofG 41 (kE g []),[.cells (g.flatMap ZU.c)]))) ?_ ?_
 ·refine Ud (fun M s=> ∃(d:List Int) (b:Int) (q:Int),s=(ofG 41 ((0,vl ZU a)::(1,vl ZU y)::(kE d (kAQ q (kAS (a.length:Int) b)))),[.cells (d.flatMap ZU.c)])/\jM a y M d b q=some D) ?_ (m:=N) ⟨_,_,_,rfl,g6⟩;rintro M s ⟨d,b,q,rfl,g6⟩
  cases M with
  |zero=>simp only[jM]at g6;cases g6
  |succ M=>
   rw[jM]at g6;refine sh fol ((0,vl ZU a)::(1,vl ZU y)::(kE d (kAQ q [(13,.i (a.length:Int)),(14,.i b),(15,.bool (decide (b<(a.length:Int))))]))) ?_;refine sq ?_;refine ihD g6 (fun F g6=>?_) (fun F g6=>?_)
   ·refine Goes.skip ?_;refine sq (Goes.block ?_);refine sh fol ((0,vl ZU a)::(1,vl ZU y)::(kE d (kAQ q ((7,.i b)::(kAS (a.length:Int) b))))) ?_;refine sh fol ((0,vl ZU a)::(1,vl ZU y)::(kE d (kAQ q ((7,.i b)::(kBj (kAS (a.length:Int) b)))))) ?_;refine sq ?_;refine sh fol ((0,vl ZU a)::(1,vl ZU y)::(kE d (kAQ q ((7,.i b)::(kBj [(13,.i (a.length:Int)),(14,.i b),(20,.bool (decide (b<(y.length:Int))))]))))) ?_;obtain⟨G,g9,g6⟩:=bnd g6;refine Goes.imp (Q:=fun x s'=>(x= .normal/\ ∃w,w=G/\Sub s' (ofG 41 ((0,vl ZU a)::(1,vl ZU y)::(kE d (kAQ q ((7,.i b)::(8,.int .u64 w)::(kAS (a.length:Int) b))))),[.cells (d.flatMap ZU.c)]))) ?_ ?_
    ·refine ihD g9 (fun A g9=>?_) (fun A g9=>?_)
     ·obtain⟨B,j,g9⟩:=bnd g9;refine gr fol [2,3] ((0,vl ZU a)::(1,vl ZU y)::(kE d (kAQ q ((7,.i b)::(8,.int .u64 B)::(kAS (a.length:Int) b))))) (ac (iv zU ZU j) (ac (lv 0 z8 ZU j rfl) az)) ?_;obtain rfl:=si g9;exact⟨rfl,_,rfl,(Sub.refl _)⟩
     refine Goes.skip ?_;obtain rfl:=si g9;exact⟨rfl,_,rfl,(Sub.keep [0,1,5,6,7,8,13,14] rfl rfl)⟩
    rintro x s' ⟨rfl,w,rfl,hsub⟩;refine Goes.sub hsub ?_;obtain⟨C,k,g6⟩:=bnd g6;obtain⟨f,t,g6⟩:=bnd g6;obtain⟨H,n,g6⟩:=bnd g6;obtain⟨e,o,g6⟩:=bnd g6;refine gq fol [4,5,8,12,13] ((0,vl ZU a)::(1,vl ZU y)::(kE d (kAQ f.2 (kAS (a.length:Int) b)))) [.cells (e.flatMap ZU.c)] (ac (iv zU ZU k) (ac (lv 0 z8 ZU k rfl) (ac (cv (qif C w q t)) (ac (hs (.done (.opt (ql ZT 96 (.slice 0 0 d.length d.length 1) (.i b))) (.ptr 0 ((b:Int).toNat*1+0))) (qaT zU n)) (ac (hs (.run [0] (qx ZT 222 (.ptr 0 ((b:Int).toNat*1+0)) (.int .u64 f.1)) [.cells (d.flatMap ZU.c)] .undef [.cells (e.flatMap ZU.c)] true) (qau (E:=ZU) (l:=d) (y:=f.1) rfl (show _=some 1 by kernel_rfl) rfl n rfl rfl rfl rfl rfl o rfl)) az))))) ?_;refine Goes.sub (show Sub (ofG 41 ((0,vl ZU a)::(1,vl ZU y)::(kE d (kAQ f.2 (kAS (a.length:Int) b)))),[.cells (e.flatMap ZU.c)]) (ofG 41 ((0,vl ZU a)::(1,vl ZU y)::(kE e (kAQ f.2 (kAS (a.length:Int) b)))),[.cells (e.flatMap ZU.c)])from(Uc [] [some 0] rfl rfl (.keep (.same (qf ZU _)) (.keep (.same (qf ZU _)) (.keep (.sliceE rfl (yf o)) (.keep (.same nI) (.keep (.same nI) (.keep (.same nI) .nil)))))) (.ks .nil))) ?_;refine gh fol ((0,vl ZU a)::(1,vl ZU y)::(kE e (kAQ f.2 (kAS (a.length:Int) (w64 (b+1)))))) ?_;exact⟨M,(ofG 41 ((0,vl ZU a)::(1,vl ZU y)::(kE e (kAQ f.2 (kAS (a.length:Int) (w64 (b+1)))))),[.cells (e.flatMap ZU.c)]),Nat.lt_succ_self _,(Sub.refl _),_,_,_,rfl,g6⟩
   refine Goes.exit ?_;obtain rfl:=si g6;exact⟨rfl,_,rfl,(Sub.keep [5] rfl rfl)⟩
 rintro x s' ⟨rfl,g,rfl,hsub⟩;refine Goes.sub hsub ?_;obtain⟨p,u,h⟩:=bnd h;refine sq (gq fol [1] [(4,vl ZU p)] [.frozen (g.flatMap ZU.c)] (ac (hs (.callF 244 [.slice 0 0 g.length g.length 1] [.cells (g.flatMap ZU.c)] [0] [vl ZU g] (vl ZU p)) (qaV (FzL.cons (Fz.sl (E:=ZU) rfl rfl (nl rfl)) FzL.nil) (xE N g u) (qB ZU _ (nl rfl)))) az) ?_);refine Goes.sub (show Sub (ofG 41 [(4,vl ZU p)],[.frozen (g.flatMap ZU.c)]) (ofG 41 [(4,vl ZU p)],[])from(Uc [] [] rfl rfl (.keep (.same (qf ZU _)) .nil) .nil)) ?_;refine Goes.ret ?_;obtain rfl:=si h;exact(gw2 [vl ZU p] (Ua (qB ZU _ (nl rfl))))
def vO (N:Nat) (a:qp) (b:qp):Option qp:=
 (if a.w.isEmpty=true then
 some b.w.isEmpty
 else
 some false:Option Bool).bind fun m=>
 ((if m=true then
 if((decide ((w64 (a.s+b.s))>a.s))==(decide (b.s>0)))=true then
 some (.inr (⟨w64 (a.s+b.s),[]⟩:qp))
 else
 some (.inl ())
 else
 some (.inl ()):Option (Unit⊕qp))).bind (fun
 |(.inl ())=>
 (qK a).bind fun c=>
 (qK b).bind fun d=>
 if(c.1==d.1)=true then
 (qaQ N c.2 d.2).bind fun e=>
 (vF c.1 e).bind fun f=>
 some f
 else
 (jW N c.2 d.2).bind fun g=>
 if g>=0 then
 (yQ N c.2 d.2).bind fun h=>
 (vF c.1 h).bind fun i=>
 some i
 else
 (yQ N d.2 c.2).bind fun j=>
 (vF d.1 j).bind fun k=>
 some k
 |(.inr l)=>
 some l)
theorem qaL (N:Nat) (a:qp) (b:qp) {res:qp} (h:vO N a b=some res):qb ZT (.fn 125) [.agg (nz1 a),.agg (nz1 b)] [] (.agg (nz1 res)) []:=by
 unfold vO at h;refine Ub Tryz.func125 rfl rfl (m:=67) rfl (rs:=[.cell 4 98]) rfl (l:=[(0,.agg (nz1 a)),(1,.agg (nz1 b))]) rfl ?_;refine sg fol (kG []) [.cells (nz1 a),.cells (nz1 b),bZ] ?_;refine sq ?_;refine sq ?_;obtain⟨J,c,h⟩:=bnd h;refine Ue (s':=(ofG 67 (kG [(17,.bool J)]),[.cells (nz1 a),.cells (nz1 b),bZ])) ?_ ?_
 ·rcases wyB c with⟨z,c⟩|⟨z,c⟩
  ·obtain rfl:=si c;exact tr fol [2,3,6] (kG [(17,.bool b.w.isEmpty)]) (ac (hs (.done (.opt (ku ZT .eql 96 (.tmp 11) (.const (.slice none 0 0)) (nvl ZU a.w) .nilslice)) (.bool a.w.isEmpty)) (qaX qaU)) (ac (gw z) (ac (hs (.done (.opt (ku ZT .eql 96 (.tmp 15) (.const (.slice none 0 0)) (nvl ZU b.w) .nilslice)) (.bool b.w.isEmpty)) (qaX qaU)) az)))
  obtain rfl:=si c;exact tr fol [2,3] (kG [(17,.bool false)]) (ac (hs (.done (.opt (ku ZT .eql 96 (.tmp 11) (.const (.slice none 0 0)) (nvl ZU a.w) .nilslice)) (.bool a.w.isEmpty)) (qaX qaU)) (ac (gw z) az))
 obtain⟨H,g4,h⟩:=bnd h;refine Goes.imp (Q:=fun x s'=>(x= .normal/\(.inl ())=H/\Sub s' (ofG 67 (kG []),[.cells (nz1 a),.cells (nz1 b),bZ]))\/(x= .ret/\ ∃I,(.inr I)=H/\zh ZT [.cell 4 98] (.agg (nz1 I)) .ret s')) ?_ ?_
 ·refine ihB g4 (fun K g4=>?_) (fun K g4=>?_)
  ·refine sh fol (kG (kA8 (w64 (a.s+b.s)))) ?_;refine sh fol (kG [(5,.i (w64 (a.s+b.s))),(30,.bool ((decide ((w64 (a.s+b.s))>a.s))==(decide (b.s>0))))]) ?_;refine ihB g4 (fun L g4=>?_) (fun L g4=>?_)
   ·refine sg fol (kAg []) (.cells (nz1 a):: .cells (nz1 b)::(kBK (w64 (a.s+b.s)))) ?_;refine Goes.ret ?_;obtain rfl:=si g4;exact Or.inr (⟨rfl,_,rfl,(gw2 [.agg [.i (w64 (a.s+b.s)),.nilslice]] (FzW.agg (qd.cons (Ua tI) (qd.cons (Uq (E:=ZU)) qd.nil))))⟩)
   refine Goes.skip ?_;obtain rfl:=si g4;exact Or.inl (⟨rfl,rfl,(Sub.keep [2,3,4] rfl rfl)⟩)
  refine Goes.skip ?_;obtain rfl:=si g4;exact Or.inl (⟨rfl,rfl,(Sub.keep [2,3,4] rfl rfl)⟩)
 rintro x s' (⟨rfl,rfl,hsub⟩|⟨rfl,M,rfl,hret⟩)
 ·try dsimp only at h
  refine Goes.sub hsub ?_;obtain⟨d,v,h⟩:=bnd h;refine sq (gr fol [1] (kAN (kAg [(6,.bool d.1),(7,vl ZU d.2)])) (ac (cv (zQ a v)) az) ?_);obtain⟨e,y,h⟩:=bnd h;refine sq (gr fol [1] (kAg [(6,.bool d.1),(7,vl ZU d.2),(8,.bool e.1),(9,vl ZU e.2)]) (ac (cv (zQ b y)) az) ?_);refine sq (Goes.block ?_);refine sh fol (kAg [(6,.bool d.1),(7,vl ZU d.2),(8,.bool e.1),(9,vl ZU e.2),(43,.bool (d.1==e.1))]) ?_;refine ihB h (fun A h=>?_) (fun A h=>?_)
  ·obtain⟨B,k,h⟩:=bnd h;obtain⟨f,o,h⟩:=bnd h;refine sq (gq fol [3,4,5] (kAg []) [.cells (nz1 a),.cells (nz1 b),.cells (nz1 f)] (ac (cv (qhe N d.2 e.2 k)) (ac (cv (qaq d.1 B o)) (ac (hs (.run [2] (qx ZT 98 (.ptr 2 0) (.agg (nz1 f))) [.cells (nz1 a),.cells (nz1 b),bZ] .undef [.cells (nz1 a),.cells (nz1 b),.cells (nz1 f)] true) (qV (n:=2) (by kernel_rfl) rfl rfl rfl rfl (cac rfl (cac nvc can)) rfl)) az))) ?_);refine Goes.ret ?_;obtain rfl:=si h;exact(gw2 [.agg (nz1 f)] (FzW.agg (qd.cons (Ua tI) (qd.cons (Ua (qD ZU _ (nl rfl))) qd.nil))))
  obtain⟨C,p,h⟩:=bnd h;refine sq (gr fol [2] (kAg [(6,.bool d.1),(7,vl ZU d.2),(8,.bool e.1),(9,vl ZU e.2),(52,.bool (decide (C>=0)))]) (ac (cv (qci N d.2 e.2 p)) az) ?_);refine ihD h (fun D h=>?_) (fun D h=>?_)
  ·obtain⟨F,q,h⟩:=bnd h;obtain⟨g,r,h⟩:=bnd h;refine sq (gq fol [3,4,5] (kAg []) [.cells (nz1 a),.cells (nz1 b),.cells (nz1 g)] (ac (cv (qek N d.2 e.2 q)) (ac (cv (qaq d.1 F r)) (ac (hs (.run [2] (qx ZT 98 (.ptr 2 0) (.agg (nz1 g))) [.cells (nz1 a),.cells (nz1 b),bZ] .undef [.cells (nz1 a),.cells (nz1 b),.cells (nz1 g)] true) (qV (n:=2) (by kernel_rfl) rfl rfl rfl rfl (cac rfl (cac nvc can)) rfl)) az))) ?_);refine Goes.ret ?_;obtain rfl:=si h;exact(gw2 [.agg (nz1 g)] (FzW.agg (qd.cons (Ua tI) (qd.cons (Ua (qD ZU _ (nl rfl))) qd.nil))))
  refine Goes.skip ?_;obtain⟨G,t,h⟩:=bnd h;obtain⟨j,u,h⟩:=bnd h;refine sq (gq fol [3,4,5] (kAg []) [.cells (nz1 a),.cells (nz1 b),.cells (nz1 j)] (ac (cv (qek N e.2 d.2 t)) (ac (cv (qaq e.1 G u)) (ac (hs (.run [2] (qx ZT 98 (.ptr 2 0) (.agg (nz1 j))) [.cells (nz1 a),.cells (nz1 b),bZ] .undef [.cells (nz1 a),.cells (nz1 b),.cells (nz1 j)] true) (qV (n:=2) (by kernel_rfl) rfl rfl rfl rfl (cac rfl (cac nvc can)) rfl)) az))) ?_);refine Goes.ret ?_;obtain rfl:=si h;exact(gw2 [.agg (nz1 j)] (FzW.agg (qd.cons (Ua tI) (qd.cons (Ua (qD ZU _ (nl rfl))) qd.nil))))
 try dsimp only at h
 obtain rfl:=si h;exact hret
def xC (N:Nat) (a:qp) (b:qp):Option qp:=
 (zL b).bind fun c=>
 (vO N a c).bind fun d=>
 some d
theorem qeu (N:Nat) (a:qp) (b:qp) {res:qp} (h:xC N a b=some res):qb ZT (.fn 188) [.agg (nz1 a),.agg (nz1 b)] [] (.agg (nz1 res)) []:=by
 unfold xC at h;refine Ub Tryz.func188 rfl rfl (m:=9) rfl (rs:=[.cell 4 98]) rfl (l:=[(0,.agg (nz1 a)),(1,.agg (nz1 b))]) rfl ?_;refine sg fol (kG []) [.cells (nz1 a),.cells (nz1 b),bZ] ?_;obtain⟨f,c,h⟩:=bnd h;obtain⟨e,d,h⟩:=bnd h;refine sq (gq fol [2,3,4] (kAg []) [.cells (nz1 a),.cells (nz1 b),.cells (nz1 e)] (ac (cv (vP b c)) (ac (cv (qaL N a f d)) (ac (hs (.run [2] (qx ZT 98 (.ptr 2 0) (.agg (nz1 e))) [.cells (nz1 a),.cells (nz1 b),bZ] .undef [.cells (nz1 a),.cells (nz1 b),.cells (nz1 e)] true) (qV (n:=2) (by kernel_rfl) rfl rfl rfl rfl (cac rfl (cac nvc can)) rfl)) az))) ?_);refine Goes.ret ?_;obtain rfl:=si h;exact(gw2 [.agg (nz1 e)] (FzW.agg (qd.cons (Ua tI) (qd.cons (Ua (qD ZU _ (nl rfl))) qd.nil))))
def bits_Len64 (a:Int):Option Int:=
 ((if a>=4294967296 then
 some (qA .u64 a 32,32)
 else
 some (a,0):Option (Int×Int))).bind fun(b,f)=>
 ((if b>=65536 then
 some (qA .u64 b 16,w64 (f+16))
 else
 some (b,f):Option (Int×Int))).bind fun(c,g)=>
 ((if c>=256 then
 some (qA .u64 c 8,w64 (g+8))
 else
 some (c,g):Option (Int×Int))).bind fun(h,d)=>
 (idx ([0,1,2,2,3,3,3,3,4,4,4,4,4,4,4,4,5,5,5,5,5,5,5,5,5,5,5,5,5,5,5,5,6,6,6,6,6,6,6,6,6,6,6,6,6,6,6,6,6,6,6,6,6,6,6,6,6,6,6,6,6,6,6,6,7,7,7,7,7,7,7,7,7,7,7,7,7,7,7,7,7,7,7,7,7,7,7,7,7,7,7,7,7,7,7,7,7,7,7,7,7,7,7,7,7,7,7,7,7,7,7,7,7,7,7,7,7,7,7,7,7,7,7,7,7,7,7,7,8,8,8,8,8,8,8,8,8,8,8,8,8,8,8,8,8,8,8,8,8,8,8,8,8,8,8,8,8,8,8,8,8,8,8,8,8,8,8,8,8,8,8,8,8,8,8,8,8,8,8,8,8,8,8,8,8,8,8,8,8,8,8,8,8,8,8,8,8,8,8,8,8,8,8,8,8,8,8,8,8,8,8,8,8,8,8,8,8,8,8,8,8,8,8,8,8,8,8,8,8,8,8,8,8,8,8,8,8,8,8,8,8,8,8,8,8,8,8,8,8,8,8,8,8,8,8,8]:Str) (wrap .u8 h)).bind fun e=>
 some (w64 (d+(w64 (e.toNat:Int))))
theorem qfF (b:Int) {res:Int} (h:bits_Len64 b=some res):qb ZT (.fn 274) [.int .u64 b] [] (.i res) []:=by
 unfold bits_Len64 at h;refine Ub Tryz.func274 rfl rfl (m:=25) rfl (rs:=[.tmp 2]) rfl (l:=(kBa b [])) rfl ?_;refine sh fol (kBa b [(2,.i 0)]) ?_;refine sq ?_;refine sh fol (kBa b ((2,.i 0)::(kBR (decide (b>=4294967296))))) ?_;obtain⟨p,g3,h⟩:=bnd h;refine Goes.imp (Q:=fun x s'=>(x= .normal/\ ∃c g,(c,g)=p/\Sub s' (ofG 25 (kBa c (kBL g)),[]))) ?_ ?_
 ·refine ihD g3 (fun q g3=>?_) (fun q g3=>?_)
  ·refine sh fol (kBa (qA .u64 b 32) []) ?_;refine gh fol (kBa (qA .u64 b 32) [(2,.i 32)]) ?_;obtain rfl:=si g3;exact⟨rfl,_,_,rfl,(Sub.refl _)⟩
  refine Goes.skip ?_;obtain rfl:=si g3;exact⟨rfl,_,_,rfl,(Sub.keep [0,2] rfl rfl)⟩
 rintro x s' ⟨rfl,c,g,rfl,hsub⟩
 try dsimp only at h
 refine Goes.sub hsub ?_;refine sq ?_;refine sh fol (kBa c ((2,.i g)::(kBe (decide (c>=65536))))) ?_;obtain⟨r,g7,h⟩:=bnd h;refine Goes.imp (Q:=fun x s'=>(x= .normal/\ ∃d j,(d,j)=r/\Sub s' (ofG 25 (kBa d (kBL j)),[]))) ?_ ?_
 ·refine ihD g7 (fun s g7=>?_) (fun s g7=>?_)
  ·refine sh fol (kBa (qA .u64 c 16) (kBL g)) ?_;refine gh fol (kBa (qA .u64 c 16) (kBL (w64 (g+16)))) ?_;obtain rfl:=si g7;exact⟨rfl,_,_,rfl,(Sub.refl _)⟩
  refine Goes.skip ?_;obtain rfl:=si g7;exact⟨rfl,_,_,rfl,(Sub.keep [0,2] rfl rfl)⟩
 rintro x s' ⟨rfl,d,j,rfl,hsub⟩
 try dsimp only at h
 refine Goes.sub hsub ?_;refine sq ?_;refine sh fol (kBa d [(2,.i j),(14,.bool (decide (d>=256)))]) ?_;obtain⟨n,g11,h⟩:=bnd h;refine Goes.imp (Q:=fun x s'=>(x= .normal/\ ∃k a,(k,a)=n/\Sub s' (ofG 25 (kBa k (kBL a)),[]))) ?_ ?_
 ·refine ihD g11 (fun o g11=>?_) (fun o g11=>?_)
  ·refine sh fol (kBa (qA .u64 d 8) (kBL j)) ?_;refine gh fol (kBa (qA .u64 d 8) (kBL (w64 (j+8)))) ?_;obtain rfl:=si g11;exact⟨rfl,_,_,rfl,(Sub.refl _)⟩
  refine Goes.skip ?_;obtain rfl:=si g11;exact⟨rfl,_,_,rfl,(Sub.keep [0,2] rfl rfl)⟩
 rintro x s' ⟨rfl,k,a,rfl,hsub⟩
 try dsimp only at h
 refine Goes.sub hsub ?_;obtain⟨e,f,h⟩:=bnd h;refine sq (gr fol [3] (kBL (w64 (a+(w64 (e.toNat:Int))))) (ac (hs (.done (.opt (yw ZT 9 (.str [0,1,2,2,3,3,3,3,4,4,4,4,4,4,4,4,5,5,5,5,5,5,5,5,5,5,5,5,5,5,5,5,6,6,6,6,6,6,6,6,6,6,6,6,6,6,6,6,6,6,6,6,6,6,6,6,6,6,6,6,6,6,6,6,7,7,7,7,7,7,7,7,7,7,7,7,7,7,7,7,7,7,7,7,7,7,7,7,7,7,7,7,7,7,7,7,7,7,7,7,7,7,7,7,7,7,7,7,7,7,7,7,7,7,7,7,7,7,7,7,7,7,7,7,7,7,7,7,8,8,8,8,8,8,8,8,8,8,8,8,8,8,8,8,8,8,8,8,8,8,8,8,8,8,8,8,8,8,8,8,8,8,8,8,8,8,8,8,8,8,8,8,8,8,8,8,8,8,8,8,8,8,8,8,8,8,8,8,8,8,8,8,8,8,8,8,8,8,8,8,8,8,8,8,8,8,8,8,8,8,8,8,8,8,8,8,8,8,8,8,8,8,8,8,8,8,8,8,8,8,8,8,8,8,8,8,8,8,8,8,8,8,8,8,8,8,8,8,8,8,8,8,8,8,8,8]) (.int .u8 (wrap .u8 k)))) (.int .u8 (e.toNat:Int))) (qaH st9 f)) az) ?_);refine Goes.ret ?_;obtain rfl:=si h;exact(gw2 [.i (w64 (a+(w64 (e.toNat:Int))))] (Ua tI))
def bits_LeadingZeros64 (a:Int):Option Int:=
 (bits_Len64 a).bind fun b=>
 some (w64 (64-b))
theorem qbm (a:Int) {res:Int} (h:bits_LeadingZeros64 a=some res):qb ZT (.fn 266) [.int .u64 a] [] (.i res) []:=by
 unfold bits_LeadingZeros64 at h;refine Ub Tryz.func266 rfl rfl (m:=6) rfl (rs:=[.tmp 2]) rfl (l:=(kBa a [])) rfl ?_;refine sh fol (kBa a []) ?_;obtain⟨c,b,h⟩:=bnd h;refine sq (gr fol [1] (kBL (w64 (64-c))) (ac (cv (qfF a b)) az) ?_);refine Goes.ret ?_;obtain rfl:=si h;exact(gw2 [.i (w64 (64-c))] (Ua tI))
def y9 (d:Int) (c:Int):Nat->Int->Int->Option Int
 |0,_,_=>none
 |K+1,a,b=>
  (if a>=4294967296 then
  some true
  else
  some (decide ((wrap .u64 (a*(qG .u64 d 4294967295)))>(wrap .u64 ((wrap .u64 (4294967296*b))+(qA .u64 c 32))))):Option Bool).bind fun e=>
  if e=true then
  if(wrap .u64 (b+(qA .u64 d 32)))>=4294967296 then
  some (wrap .u64 (a-1))
  else
  y9 d c K (wrap .u64 (a-1)) (wrap .u64 (b+(qA .u64 d 32)))
  else
  some a
def xc (d:Int) (c:Int):Nat->Int->Int->Option Int
 |0,_,_=>none
 |K+1,b,a=>
  (if a>=4294967296 then
  some true
  else
  some (decide ((wrap .u64 (a*(qG .u64 d 4294967295)))>(wrap .u64 ((wrap .u64 (4294967296*b))+(qG .u64 c 4294967295))))):Option Bool).bind fun e=>
  if e=true then
  if(wrap .u64 (b+(qA .u64 d 32)))>=4294967296 then
  some (wrap .u64 (a-1))
  else
  xc d c K (wrap .u64 (b+(qA .u64 d 32))) (wrap .u64 (a-1))
  else
  some a
def qbc (N:Nat) (hi:Int) (lo:Int) (y:Int):Option (Int×Int):=
 ((if y=0 then
 none
 else
 some ():Option Unit)).bind fun _=>
 ((if y<=hi then
 none
 else
 some ():Option Unit)).bind fun _=>
 if hi=0 then
 (qcH .u64 lo y).bind fun k=>
 (qes .u64 lo y).bind fun l=>
 some (k,l)
 else
 (bits_LeadingZeros64 y).bind fun f=>
 (qh2 .u64 y (wrap .u64 f)).bind fun d=>
 (qh2 .u64 hi (wrap .u64 f)).bind fun b=>
 (qkL .u64 lo (wrap .u64 (64-(wrap .u64 f)))).bind fun c=>
 (qh2 .u64 lo (wrap .u64 f)).bind fun a=>
 (qcH .u64 (orI .u64 b c) (qA .u64 d 32)).bind fun g=>
 (y9 d a N g (wrap .u64 ((orI .u64 b c)-(wrap .u64 (g*(qA .u64 d 32)))))).bind fun e=>
 (qcH .u64 (wrap .u64 ((wrap .u64 ((wrap .u64 ((orI .u64 b c)*4294967296))+(qA .u64 a 32)))-(wrap .u64 (e*d)))) (qA .u64 d 32)).bind fun h=>
 (xc d a N (wrap .u64 ((wrap .u64 ((wrap .u64 ((wrap .u64 ((orI .u64 b c)*4294967296))+(qA .u64 a 32)))-(wrap .u64 (e*d))))-(wrap .u64 (h*(qA .u64 d 32))))) h).bind fun i=>
 (qkL .u64 (wrap .u64 ((wrap .u64 ((wrap .u64 ((wrap .u64 ((wrap .u64 ((wrap .u64 ((orI .u64 b c)*4294967296))+(qA .u64 a 32)))-(wrap .u64 (e*d))))*4294967296))+(qG .u64 a 4294967295)))-(wrap .u64 (i*d)))) (wrap .u64 f)).bind fun j=>
 some (wrap .u64 ((wrap .u64 (e*4294967296))+i),j)
theorem qft (N:Nat) (hi:Int) (lo:Int) (y:Int) {res:Int×Int} (h:qbc N hi lo y=some res):qb ZT (.fn 265) (.int .u64 hi::(kBi lo y)) [] (.tuple (kBi res.1 res.2)) []:=by
 unfold qbc at h;refine Ub Tryz.func265 rfl rfl (m:=135) rfl (rs:=[.tmp 6,.tmp 7]) rfl (l:=(kAA hi lo [(2,.int .u64 y)])) rfl ?_;refine sh fol (kAA hi lo [(2,.int .u64 y)]) ?_;refine sq ?_;refine sh fol (kAA hi lo [(2,.int .u64 y),(20,.bool (decide (y=0)))]) ?_;obtain⟨Z,g1,h⟩:=bnd h;refine Goes.imp (Q:=fun x s'=>(x= .normal/\()=Z/\Sub s' (ofG 135 (kAA hi lo [(2,.int .u64 y)]),[]))) ?_ ?_
 ·refine ihD g1 (fun c2 g1=>?_) (fun c2 g1=>?_)
  ·cases g1
  refine Goes.skip ?_;obtain rfl:=si g1;exact⟨rfl,rfl,(Sub.keep [0,1,2] rfl rfl)⟩
 rintro x s' ⟨rfl,rfl,hsub⟩;refine Goes.sub hsub ?_;refine sq ?_;refine sh fol (kAA hi lo [(2,.int .u64 y),(24,.bool (decide (y<=hi)))]) ?_;obtain⟨r3,g3,h⟩:=bnd h;refine Goes.imp (Q:=fun x s'=>(x= .normal/\()=r3/\Sub s' (ofG 135 (kAA hi lo [(2,.int .u64 y)]),[]))) ?_ ?_
 ·refine ihD g3 (fun c4 g3=>?_) (fun c4 g3=>?_)
  ·cases g3
  refine Goes.skip ?_;obtain rfl:=si g3;exact⟨rfl,rfl,(Sub.keep [0,1,2] rfl rfl)⟩
 rintro x s' ⟨rfl,rfl,hsub⟩;refine Goes.sub hsub ?_;refine sq ?_;refine sh fol (kAA hi lo [(2,.int .u64 y),(27,.bool (decide (hi=0)))]) ?_;refine ihD h (fun c5 h=>?_) (fun c5 h=>?_)
 ·obtain⟨K,E,h⟩:=bnd h;obtain⟨L,F,h⟩:=bnd h;refine sq (gr fol [2,5] (kAQ K (kAj L [])) (ac (hs (.done (.opt (ku ZT .quo 222 (.tmp 28) (.tmp 29) (.int .u64 lo) (.int .u64 y))) (.int .u64 K)) (qcl E)) (ac (hs (.done (.opt (ku ZT .rem 222 (.tmp 31) (.tmp 32) (.int .u64 lo) (.int .u64 y))) (.int .u64 L)) (qgo F)) az)) ?_);refine Goes.ret ?_;obtain rfl:=si h;exact(gw2 (kBi K L) (FzW.tuple (qd.cons (Ua tI) (qd.cons (Ua tI) qd.nil))))
 refine Goes.skip ?_;obtain⟨f,G,h⟩:=bnd h;refine sq (gr fol [1] (kAA hi lo [(2,.int .u64 y),(8,.int .u64 (wrap .u64 f))]) (ac (cv (qbm y G)) az) ?_);obtain⟨b,H,h⟩:=bnd h;refine sq (gr fol [2] (kAA hi lo [(2,.int .u64 b),(8,.int .u64 (wrap .u64 f))]) (ac (hs (.done (.opt (ku ZT .shl 222 (.tmp 37) (.tmp 38) (.int .u64 y) (.int .u64 (wrap .u64 f)))) (.int .u64 b)) (qgp H)) az) ?_);refine sh fol (kAA hi lo [(2,.int .u64 b),(8,.int .u64 (wrap .u64 f)),(9,.int .u64 (qA .u64 b 32))]) ?_;refine sh fol (kAA hi lo (kK b (wrap .u64 f) (qA .u64 b 32) (qG .u64 b 4294967295) [])) ?_;obtain⟨c,t,h⟩:=bnd h;obtain⟨d,u,h⟩:=bnd h;refine sq (gr fol [2,6] ((1,.int .u64 lo)::(kK b (wrap .u64 f) (qA .u64 b 32) (qG .u64 b 4294967295) [(11,.int .u64 (orI .u64 c d))])) (ac (hs (.done (.opt (ku ZT .shl 222 (.tmp 44) (.tmp 45) (.int .u64 hi) (.int .u64 (wrap .u64 f)))) (.int .u64 c)) (qgp t)) (ac (hs (.done (.opt (ku ZT .shr 222 (.tmp 47) (.tmp 49) (.int .u64 lo) (.int .u64 (wrap .u64 (64-(wrap .u64 f)))))) (.int .u64 d)) (qhI u)) az)) ?_);obtain⟨a,v,h⟩:=bnd h;refine sq (gr fol [2] (kK b (wrap .u64 f) (qA .u64 b 32) (qG .u64 b 4294967295) (kAC (orI .u64 c d) a [])) (ac (hs (.done (.opt (ku ZT .shl 222 (.tmp 52) (.tmp 53) (.int .u64 lo) (.int .u64 (wrap .u64 f)))) (.int .u64 a)) (qgp v)) az) ?_);refine sh fol (kK b (wrap .u64 f) (qA .u64 b 32) (qG .u64 b 4294967295) (kAC (orI .u64 c d) a [(13,.int .u64 (qA .u64 a 32))])) ?_;refine sh fol (kK b (wrap .u64 f) (qA .u64 b 32) (qG .u64 b 4294967295) (kAY (orI .u64 c d) (qA .u64 a 32) [(14,.int .u64 (qG .u64 a 4294967295))])) ?_;obtain⟨q,w,h⟩:=bnd h;refine sq (gr fol [2] (kK b (wrap .u64 f) (qA .u64 b 32) (qG .u64 b 4294967295) (kAY (orI .u64 c d) (qA .u64 a 32) (kBM (qG .u64 a 4294967295) q []))) (ac (hs (.done (.opt (ku ZT .quo 222 (.tmp 59) (.tmp 60) (.int .u64 (orI .u64 c d)) (.int .u64 (qA .u64 b 32)))) (.int .u64 q)) (qcl w)) az) ?_);refine sh fol (kK b (wrap .u64 f) (qA .u64 b 32) (qG .u64 b 4294967295) (kAY (orI .u64 c d) (qA .u64 a 32) (kR (qG .u64 a 4294967295) q (wrap .u64 ((orI .u64 c d)-(wrap .u64 (q*(qA .u64 b 32))))) []))) ?_;refine sq (Goes.block ?_);obtain⟨I,g17,h⟩:=bnd h;refine Goes.imp (Q:=fun x s'=>(x= .exit 0/\ ∃e,e=I/\Sub s' (ofG 135 (kK b (wrap .u64 f) (qA .u64 b 32) (qG .u64 b 4294967295) (kAY (orI .u64 c d) (qA .u64 a 32) (kBM (qG .u64 a 4294967295) e []))),[]))) ?_ ?_
 ·refine Ud (fun M s=> ∃(j:Int) (g:Int),s=(ofG 135 (kK b (wrap .u64 f) (qA .u64 b 32) (qG .u64 b 4294967295) (kAY (orI .u64 c d) (qA .u64 a 32) (kR (qG .u64 a 4294967295) j g []))),[])/\y9 b a M j g=some I) ?_ (m:=N) ⟨_,_,rfl,g17⟩;rintro M s ⟨j,g,rfl,g17⟩
  cases M with
  |zero=>simp only[y9]at g17;cases g17
  |succ M=>
   rw[y9]at g17;refine sq ?_;refine sq ?_;obtain⟨O,k,g17⟩:=bnd g17;refine Ue (s':=(ofG 135 (kK b (wrap .u64 f) (qA .u64 b 32) (qG .u64 b 4294967295) (kAY (orI .u64 c d) (qA .u64 a 32) (kR (qG .u64 a 4294967295) j g [(78,.bool O)]))),[])) ?_ ?_
   ·rcases wyD k with⟨z,k⟩|⟨z,k⟩
    ·obtain rfl:=si k;exact tr fol [2] (kK b (wrap .u64 f) (qA .u64 b 32) (qG .u64 b 4294967295) (kAY (orI .u64 c d) (qA .u64 a 32) (kR (qG .u64 a 4294967295) j g [(78,.bool true)]))) (ac (gw z) az)
    obtain rfl:=si k;exact tr fol [2] (kK b (wrap .u64 f) (qA .u64 b 32) (qG .u64 b 4294967295) (kAY (orI .u64 c d) (qA .u64 a 32) (kR (qG .u64 a 4294967295) j g [(78,.bool (decide ((wrap .u64 (j*(qG .u64 b 4294967295)))>(wrap .u64 ((wrap .u64 (4294967296*g))+(qA .u64 a 32))))))]))) (ac (gw z) az)
   refine ihB g17 (fun P g17=>?_) (fun P g17=>?_)
   ·refine Goes.skip ?_;refine Goes.block ?_;refine sh fol (kK b (wrap .u64 f) (qA .u64 b 32) (qG .u64 b 4294967295) (kAY (orI .u64 c d) (qA .u64 a 32) (kR (qG .u64 a 4294967295) (wrap .u64 (j-1)) g []))) ?_;refine sh fol (kK b (wrap .u64 f) (qA .u64 b 32) (qG .u64 b 4294967295) (kAY (orI .u64 c d) (qA .u64 a 32) (kR (qG .u64 a 4294967295) (wrap .u64 (j-1)) (wrap .u64 (g+(qA .u64 b 32))) []))) ?_;refine sh fol (kK b (wrap .u64 f) (qA .u64 b 32) (qG .u64 b 4294967295) (kAY (orI .u64 c d) (qA .u64 a 32) (kR (qG .u64 a 4294967295) (wrap .u64 (j-1)) (wrap .u64 (g+(qA .u64 b 32))) [(85,.bool (decide ((wrap .u64 (g+(qA .u64 b 32)))>=4294967296)))]))) ?_;refine ihD g17 (fun U g17=>?_) (fun U g17=>?_)
    ·refine Goes.exit ?_;obtain rfl:=si g17;exact⟨rfl,_,rfl,(Sub.keep [2,8,9,10,11,13,14,15] rfl rfl)⟩
    refine Goes.skip ?_;exact⟨M,(ofG 135 (kK b (wrap .u64 f) (qA .u64 b 32) (qG .u64 b 4294967295) (kAY (orI .u64 c d) (qA .u64 a 32) (kR (qG .u64 a 4294967295) (wrap .u64 (j-1)) (wrap .u64 (g+(qA .u64 b 32))) []))),[]),Nat.lt_succ_self _,(Sub.keep [2,8,9,10,11,13,14,15,16] rfl rfl),_,_,rfl,g17⟩
   refine Goes.exit ?_;obtain rfl:=si g17;exact⟨rfl,_,rfl,(Sub.keep [2,8,9,10,11,13,14,15] rfl rfl)⟩
 rintro x s' ⟨rfl,e,rfl,hsub⟩;refine Goes.sub hsub ?_;refine sh fol (kK b (wrap .u64 f) (qA .u64 b 32) (qG .u64 b 4294967295) (kBM (qG .u64 a 4294967295) e [(17,.int .u64 (wrap .u64 ((wrap .u64 ((wrap .u64 ((orI .u64 c d)*4294967296))+(qA .u64 a 32)))-(wrap .u64 (e*b)))))])) ?_;obtain⟨r,A,h⟩:=bnd h;refine sq (gr fol [2] (kK b (wrap .u64 f) (qA .u64 b 32) (qG .u64 b 4294967295) (kBM (qG .u64 a 4294967295) e (kAf (wrap .u64 ((wrap .u64 ((wrap .u64 ((orI .u64 c d)*4294967296))+(qA .u64 a 32)))-(wrap .u64 (e*b)))) r []))) (ac (hs (.done (.opt (ku ZT .quo 222 (.tmp 94) (.tmp 95) (.int .u64 (wrap .u64 ((wrap .u64 ((wrap .u64 ((orI .u64 c d)*4294967296))+(qA .u64 a 32)))-(wrap .u64 (e*b))))) (.int .u64 (qA .u64 b 32)))) (.int .u64 r)) (qcl A)) az) ?_);refine sh fol (kK b (wrap .u64 f) (qA .u64 b 32) (qG .u64 b 4294967295) (kR (qG .u64 a 4294967295) e (wrap .u64 ((wrap .u64 ((wrap .u64 ((wrap .u64 ((orI .u64 c d)*4294967296))+(qA .u64 a 32)))-(wrap .u64 (e*b))))-(wrap .u64 (r*(qA .u64 b 32))))) (kAf (wrap .u64 ((wrap .u64 ((wrap .u64 ((orI .u64 c d)*4294967296))+(qA .u64 a 32)))-(wrap .u64 (e*b)))) r []))) ?_;refine sq (Goes.block ?_);obtain⟨J,g27,h⟩:=bnd h;refine Goes.imp (Q:=fun x s'=>(x= .exit 2/\ ∃p,p=J/\Sub s' (ofG 135 ((2,.int .u64 b)::(8,.int .u64 (wrap .u64 f))::(kBM (qG .u64 a 4294967295) e (kAf (wrap .u64 ((wrap .u64 ((wrap .u64 ((orI .u64 c d)*4294967296))+(qA .u64 a 32)))-(wrap .u64 (e*b)))) p []))),[]))) ?_ ?_
 ·refine Ud (fun M s=> ∃(i:Int) (n:Int),s=(ofG 135 (kK b (wrap .u64 f) (qA .u64 b 32) (qG .u64 b 4294967295) (kR (qG .u64 a 4294967295) e i (kAf (wrap .u64 ((wrap .u64 ((wrap .u64 ((orI .u64 c d)*4294967296))+(qA .u64 a 32)))-(wrap .u64 (e*b)))) n []))),[])/\xc b a M i n=some J) ?_ (m:=N) ⟨_,_,rfl,g27⟩;rintro M s ⟨i,n,rfl,g27⟩
  cases M with
  |zero=>simp only[xc]at g27;cases g27
  |succ M=>
   rw[xc]at g27;refine sq ?_;refine sq ?_;obtain⟨V,o,g27⟩:=bnd g27;refine Ue (s':=(ofG 135 (kK b (wrap .u64 f) (qA .u64 b 32) (qG .u64 b 4294967295) (kR (qG .u64 a 4294967295) e i (kAf (wrap .u64 ((wrap .u64 ((wrap .u64 ((orI .u64 c d)*4294967296))+(qA .u64 a 32)))-(wrap .u64 (e*b)))) n [(113,.bool V)]))),[])) ?_ ?_
   ·rcases wyD o with⟨B,o⟩|⟨B,o⟩
    ·obtain rfl:=si o;exact tr fol [2] (kK b (wrap .u64 f) (qA .u64 b 32) (qG .u64 b 4294967295) (kR (qG .u64 a 4294967295) e i (kAf (wrap .u64 ((wrap .u64 ((wrap .u64 ((orI .u64 c d)*4294967296))+(qA .u64 a 32)))-(wrap .u64 (e*b)))) n [(113,.bool true)]))) (ac (gw B) az)
    obtain rfl:=si o;exact tr fol [2] (kK b (wrap .u64 f) (qA .u64 b 32) (qG .u64 b 4294967295) (kR (qG .u64 a 4294967295) e i (kAf (wrap .u64 ((wrap .u64 ((wrap .u64 ((orI .u64 c d)*4294967296))+(qA .u64 a 32)))-(wrap .u64 (e*b)))) n [(113,.bool (decide ((wrap .u64 (n*(qG .u64 b 4294967295)))>(wrap .u64 ((wrap .u64 (4294967296*i))+(qG .u64 a 4294967295))))))]))) (ac (gw B) az)
   refine ihB g27 (fun X g27=>?_) (fun X g27=>?_)
   ·refine Goes.skip ?_;refine Goes.block ?_;refine sh fol (kK b (wrap .u64 f) (qA .u64 b 32) (qG .u64 b 4294967295) (kR (qG .u64 a 4294967295) e i (kAf (wrap .u64 ((wrap .u64 ((wrap .u64 ((orI .u64 c d)*4294967296))+(qA .u64 a 32)))-(wrap .u64 (e*b)))) (wrap .u64 (n-1)) []))) ?_;refine sh fol (kK b (wrap .u64 f) (qA .u64 b 32) (qG .u64 b 4294967295) (kR (qG .u64 a 4294967295) e (wrap .u64 (i+(qA .u64 b 32))) (kAf (wrap .u64 ((wrap .u64 ((wrap .u64 ((orI .u64 c d)*4294967296))+(qA .u64 a 32)))-(wrap .u64 (e*b)))) (wrap .u64 (n-1)) []))) ?_;refine sh fol (kK b (wrap .u64 f) (qA .u64 b 32) (qG .u64 b 4294967295) (kR (qG .u64 a 4294967295) e (wrap .u64 (i+(qA .u64 b 32))) (kAf (wrap .u64 ((wrap .u64 ((wrap .u64 ((orI .u64 c d)*4294967296))+(qA .u64 a 32)))-(wrap .u64 (e*b)))) (wrap .u64 (n-1)) [(120,.bool (decide ((wrap .u64 (i+(qA .u64 b 32)))>=4294967296)))]))) ?_;refine ihD g27 (fun Y g27=>?_) (fun Y g27=>?_)
    ·refine Goes.exit ?_;obtain rfl:=si g27;exact⟨rfl,_,rfl,(Sub.keep [2,8,14,15,17,18] rfl rfl)⟩
    refine Goes.skip ?_;exact⟨M,(ofG 135 (kK b (wrap .u64 f) (qA .u64 b 32) (qG .u64 b 4294967295) (kR (qG .u64 a 4294967295) e (wrap .u64 (i+(qA .u64 b 32))) (kAf (wrap .u64 ((wrap .u64 ((wrap .u64 ((orI .u64 c d)*4294967296))+(qA .u64 a 32)))-(wrap .u64 (e*b)))) (wrap .u64 (n-1)) []))),[]),Nat.lt_succ_self _,(Sub.keep [2,8,9,10,14,15,16,17,18] rfl rfl),_,_,rfl,g27⟩
   refine Goes.exit ?_;obtain rfl:=si g27;exact⟨rfl,_,rfl,(Sub.keep [2,8,14,15,17,18] rfl rfl)⟩
 rintro x s' ⟨rfl,p,rfl,hsub⟩;refine Goes.sub hsub ?_;obtain⟨C,D,h⟩:=bnd h;refine sq (gr fol [13] (kAQ (wrap .u64 ((wrap .u64 (e*4294967296))+p)) (kAj C [])) (ac (hs (.done (.opt (ku ZT .shr 222 (.tmp 132) (.tmp 133) (.int .u64 (wrap .u64 ((wrap .u64 ((wrap .u64 ((wrap .u64 ((wrap .u64 ((wrap .u64 ((orI .u64 c d)*4294967296))+(qA .u64 a 32)))-(wrap .u64 (e*b))))*4294967296))+(qG .u64 a 4294967295)))-(wrap .u64 (p*b))))) (.int .u64 (wrap .u64 f)))) (.int .u64 C)) (qhI D)) az) ?_);refine Goes.ret ?_;obtain rfl:=si h;exact(gw2 (kBi (wrap .u64 ((wrap .u64 (e*4294967296))+p)) C) (FzW.tuple (qd.cons (Ua tI) (qd.cons (Ua tI) qd.nil))))
def bits_Mul64 (a:Int) (y:Int):Option (Int×Int):=
 some (wrap .u64 ((wrap .u64 ((wrap .u64 ((qA .u64 a 32)*(qA .u64 y 32)))+(qA .u64 (wrap .u64 ((wrap .u64 ((qA .u64 a 32)*(qG .u64 y 4294967295)))+(qA .u64 (wrap .u64 ((qG .u64 a 4294967295)*(qG .u64 y 4294967295))) 32))) 32)))+(qA .u64 (wrap .u64 ((qG .u64 (wrap .u64 ((wrap .u64 ((qA .u64 a 32)*(qG .u64 y 4294967295)))+(qA .u64 (wrap .u64 ((qG .u64 a 4294967295)*(qG .u64 y 4294967295))) 32))) 4294967295)+(wrap .u64 ((qG .u64 a 4294967295)*(qA .u64 y 32))))) 32)),wrap .u64 (a*y))
theorem qbX (a:Int) (y:Int) {res:Int×Int} (h:bits_Mul64 a y=some res):qb ZT (.fn 189) (kBi a y) [] (.tuple (kBi res.1 res.2)) []:=by
 unfold bits_Mul64 at h;refine Ub Tryz.func189 rfl rfl (m:=51) rfl (rs:=[.tmp 4,.tmp 5]) rfl (l:=(kAA a y [])) rfl ?_;refine sh fol (kAA a y []) ?_;refine sh fol (kAA a y (kAQ (qG .u64 a 4294967295) [])) ?_;refine sh fol (kAA a y (kAQ (qG .u64 a 4294967295) (kAj (qA .u64 a 32) []))) ?_;refine sh fol (kAA a y (kAQ (qG .u64 a 4294967295) (kAG (qA .u64 a 32) (qG .u64 y 4294967295) []))) ?_;refine sh fol (kAA a y (kAQ (qG .u64 a 4294967295) (kAG (qA .u64 a 32) (qG .u64 y 4294967295) [(9,.int .u64 (qA .u64 y 32))]))) ?_;refine sh fol (kAA a y (kAQ (qG .u64 a 4294967295) (kAG (qA .u64 a 32) (qG .u64 y 4294967295) [(9,.int .u64 (qA .u64 y 32)),(10,.int .u64 (wrap .u64 ((qG .u64 a 4294967295)*(qG .u64 y 4294967295))))]))) ?_;refine sh fol (kAA a y (kAQ (qG .u64 a 4294967295) (kAj (qA .u64 a 32) [(9,.int .u64 (qA .u64 y 32)),(11,.int .u64 (wrap .u64 ((wrap .u64 ((qA .u64 a 32)*(qG .u64 y 4294967295)))+(qA .u64 (wrap .u64 ((qG .u64 a 4294967295)*(qG .u64 y 4294967295))) 32))))]))) ?_;refine sh fol (kAA a y (kAQ (qG .u64 a 4294967295) (kAj (qA .u64 a 32) ((9,.int .u64 (qA .u64 y 32))::(kAC (wrap .u64 ((wrap .u64 ((qA .u64 a 32)*(qG .u64 y 4294967295)))+(qA .u64 (wrap .u64 ((qG .u64 a 4294967295)*(qG .u64 y 4294967295))) 32))) (qG .u64 (wrap .u64 ((wrap .u64 ((qA .u64 a 32)*(qG .u64 y 4294967295)))+(qA .u64 (wrap .u64 ((qG .u64 a 4294967295)*(qG .u64 y 4294967295))) 32))) 4294967295) []))))) ?_;refine sh fol (kAA a y (kAQ (qG .u64 a 4294967295) (kAj (qA .u64 a 32) [(9,.int .u64 (qA .u64 y 32)),(12,.int .u64 (qG .u64 (wrap .u64 ((wrap .u64 ((qA .u64 a 32)*(qG .u64 y 4294967295)))+(qA .u64 (wrap .u64 ((qG .u64 a 4294967295)*(qG .u64 y 4294967295))) 32))) 4294967295)),(13,.int .u64 (qA .u64 (wrap .u64 ((wrap .u64 ((qA .u64 a 32)*(qG .u64 y 4294967295)))+(qA .u64 (wrap .u64 ((qG .u64 a 4294967295)*(qG .u64 y 4294967295))) 32))) 32))]))) ?_;refine sh fol (kAA a y (kAj (qA .u64 a 32) [(9,.int .u64 (qA .u64 y 32)),(12,.int .u64 (wrap .u64 ((qG .u64 (wrap .u64 ((wrap .u64 ((qA .u64 a 32)*(qG .u64 y 4294967295)))+(qA .u64 (wrap .u64 ((qG .u64 a 4294967295)*(qG .u64 y 4294967295))) 32))) 4294967295)+(wrap .u64 ((qG .u64 a 4294967295)*(qA .u64 y 32)))))),(13,.int .u64 (qA .u64 (wrap .u64 ((wrap .u64 ((qA .u64 a 32)*(qG .u64 y 4294967295)))+(qA .u64 (wrap .u64 ((qG .u64 a 4294967295)*(qG .u64 y 4294967295))) 32))) 32))])) ?_;refine sh fol (kAA a y [(4,.int .u64 (wrap .u64 ((wrap .u64 ((wrap .u64 ((qA .u64 a 32)*(qA .u64 y 32)))+(qA .u64 (wrap .u64 ((wrap .u64 ((qA .u64 a 32)*(qG .u64 y 4294967295)))+(qA .u64 (wrap .u64 ((qG .u64 a 4294967295)*(qG .u64 y 4294967295))) 32))) 32)))+(qA .u64 (wrap .u64 ((qG .u64 (wrap .u64 ((wrap .u64 ((qA .u64 a 32)*(qG .u64 y 4294967295)))+(qA .u64 (wrap .u64 ((qG .u64 a 4294967295)*(qG .u64 y 4294967295))) 32))) 4294967295)+(wrap .u64 ((qG .u64 a 4294967295)*(qA .u64 y 32))))) 32))))]) ?_;refine sh fol [(4,.int .u64 (wrap .u64 ((wrap .u64 ((wrap .u64 ((qA .u64 a 32)*(qA .u64 y 32)))+(qA .u64 (wrap .u64 ((wrap .u64 ((qA .u64 a 32)*(qG .u64 y 4294967295)))+(qA .u64 (wrap .u64 ((qG .u64 a 4294967295)*(qG .u64 y 4294967295))) 32))) 32)))+(qA .u64 (wrap .u64 ((qG .u64 (wrap .u64 ((wrap .u64 ((qA .u64 a 32)*(qG .u64 y 4294967295)))+(qA .u64 (wrap .u64 ((qG .u64 a 4294967295)*(qG .u64 y 4294967295))) 32))) 4294967295)+(wrap .u64 ((qG .u64 a 4294967295)*(qA .u64 y 32))))) 32)))),(5,.int .u64 (wrap .u64 (a*y)))] ?_;refine Goes.ret ?_;obtain rfl:=si h;exact(gw2 (kBi (wrap .u64 ((wrap .u64 ((wrap .u64 ((qA .u64 a 32)*(qA .u64 y 32)))+(qA .u64 (wrap .u64 ((wrap .u64 ((qA .u64 a 32)*(qG .u64 y 4294967295)))+(qA .u64 (wrap .u64 ((qG .u64 a 4294967295)*(qG .u64 y 4294967295))) 32))) 32)))+(qA .u64 (wrap .u64 ((qG .u64 (wrap .u64 ((wrap .u64 ((qA .u64 a 32)*(qG .u64 y 4294967295)))+(qA .u64 (wrap .u64 ((qG .u64 a 4294967295)*(qG .u64 y 4294967295))) 32))) 4294967295)+(wrap .u64 ((qG .u64 a 4294967295)*(qA .u64 y 32))))) 32))) (wrap .u64 (a*y))) (FzW.tuple (qd.cons (Ua tI) (qd.cons (Ua tI) qd.nil))))
end Go.Av
