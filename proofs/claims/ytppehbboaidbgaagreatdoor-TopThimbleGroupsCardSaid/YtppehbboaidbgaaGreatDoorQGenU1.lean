/-
  Walks of functions: what each computes, as a plain function.
-/
import Derived.Test.YtppehbboaidbgaaGreatDoorAvJnP
open Go.IntKind(wrap)
noncomputable section
namespace Go.Av
open Go.Proofs Go.RowKit
abbrev ZU:=qc .u64
abbrev ZT:=Tryz.prog
set_option linter.unusedSectionVars false
set_option linter.unusedVariables false
set_option linter.unusedSimpArgs false
set_option maxRecDepth 100000
theorem fol:Tryz.prog.follows .mixedOrders=true:=by kernel_rfl
structure zD where
 X:Str
 Y:Str
def qh:Enc zD:=(encS.prod encS).comap fun x=>(x.X,x.Y)
instance:SE qh:=⟨nl rfl⟩
structure qw where
 Name:Str
 Density:Str
 Twist:Str
 Strength:List zD
 Dye:Str
def qf:Enc qw:=(encS.prod (encS.prod (encS.prod ((qmD qh).prod encS)))).comap fun x=>(x.Name,x.Density,x.Twist,x.Strength,x.Dye)
instance:SE qf:=⟨nl rfl⟩
structure qp where
 s:Int
 w:List Int
def qkx:Enc qp:=(encI.prod (encN ZU)).comap fun x=>(x.s,x.w)
instance:SE qkx:=⟨nl rfl⟩
structure qD where
 Num:qp
 Den:qp
def qpf:Enc qD:=(qkx.prod qkx).comap fun x=>(x.Num,x.Den)
instance:SE qpf:=⟨nl rfl⟩
structure qM where
 neg:Bool
 w:List Int
def qk7:Enc qM:=(encB.prod (qmD encI)).comap fun x=>(x.neg,x.w)
instance:SE qk7:=⟨nl rfl⟩
abbrev kA {α3:Type} {α4:Type} (a:List Int) (b:List Int) (c:Int) (d:List α3) (e:List α4) (f:Int) (x:List (Nat×AV)):List (Nat×AV):=(8,vl encI a)::(9,vl encI b)::(10,.i c)::(11,.oslice 0 d.length 1)::(12,.slice 1 0 e.length e.length 1)::(13,.i f)::x
abbrev kB (a:Str) (b:Str) (c:Str) (d:List zD) (e:Str) (x:List Blk):List Blk:= .cells [.str a,.str b,.str c,vl qh d,.str e]::x
abbrev kC (x:List Blk):List Blk:= .cells [.i 0,.nilslice,.i 0,.nilslice]::x
abbrev kD (a:List Int) (x:List Blk):List Blk:= .cells (a.flatMap encI.c)::x
abbrev kE {α0:Type} (a:List α0) (x:List (Nat×AV)):List (Nat×AV):=(5,.slice 0 0 a.length a.length 1)::x
abbrev kF (x:List (Nat×AV)):List (Nat×AV):=(2,.ptr 0 0)::(3,.ptr 1 0)::(4,.ptr 2 0)::x
abbrev kG {α0:Type} {α2:Type} (a:List α0) (b:Int) (c:List α2) (x:List (Nat×AV)):List (Nat×AV):=(11,.slice 0 0 a.length a.length 1)::(12,.i b)::(13,.slice 1 0 c.length c.length 1)::x
abbrev kH (a:List Int) (b:List Int) (x:List (Nat×AV)):List (Nat×AV):=(0,vl encI a)::(1,vl encI b)::x
abbrev kI (x:List Blk):List Blk:= .cells [.str [],.str [],.str [],.nilslice,.str []]::x
abbrev kJ (a:Int) (b:Int) (c:Int) (d:Int) (x:List (Nat×AV)):List (Nat×AV):=(2,.int .u64 a)::(8,.int .u64 b)::(9,.int .u64 c)::(10,.int .u64 d)::x
abbrev kL (a:Bool) (b:List Int) (c:Bool) (d:List Int) (x:List Blk):List Blk:= .cells [.bool a,vl encI b]:: .cells [.bool c,vl encI d]::x
abbrev kM (a:Str) (b:List qw) (c:Str) (d:Int) (e:Str) (x:List (Nat×AV)):List (Nat×AV):=(0,.str a)::(1,vl qf b)::(2,.str c)::(8,.ptr 0 0)::(11,.ptr 1 0)::(12,.ptr 2 0)::(13,.i d)::(14,.str e)::x
abbrev kN (a:List qw) (x:List Blk):List Blk:= .cells [vl qf a]::x
abbrev kO (a:Int) (b:Int) (c:Int) (x:List (Nat×AV)):List (Nat×AV):=(14,.int .u64 a)::(15,.int .u64 b)::(16,.int .u64 c)::x
abbrev kP (x:List Blk):List Blk:= .cells [.bool false,.nilslice]::x
abbrev kQ (a:Str) (b:Str) (x:List (Nat×AV)):List (Nat×AV):=(0,.str a)::(1,.str b)::x
abbrev kR (a:List qw) (b:Int) (c:Int) (x:List (Nat×AV)):List (Nat×AV):=(16,vl qf a)::(17,.i b)::(18,.i c)::x
abbrev kS (a:Int) (b:Int) (x:List (Nat×AV)):List (Nat×AV):=(5,.i a)::(6,.int .u64 b)::x
abbrev kT {α0:Type} (a:List α0) (x:List (Nat×AV)):List (Nat×AV):=(6,.slice 0 0 a.length a.length 1)::x
abbrev kU (x:List (Nat×AV)):List (Nat×AV):=(2,.ptr 0 0)::x
abbrev kV (a:List qw) (b:List qw) (x:List (Nat×AV)):List (Nat×AV):=(0,vl qf a)::(1,vl qf b)::(5,.ptr 0 0)::x
abbrev kW (a:Int) (b:Int) (x:List (Nat×AV)):List (Nat×AV):=(0,.int .u64 a)::(1,.int .u64 b)::x
abbrev kX (x:List (Nat×AV)):List (Nat×AV):=(1,.ptr 0 0)::x
abbrev kY (a:List qw):List (Nat×AV):=[(5,.ptr 0 0),(11,.ptr 1 0),(13,vl qf a),(14,.ptr 2 0),(143,.bool true)]
abbrev kZ (a:Int) (b:Int) (x:List (Nat×AV)):List (Nat×AV):=(11,.int .u64 a)::(12,.int .u64 b)::x
abbrev kAA (a:Int) (b:Int) (x:List (Nat×AV)):List (Nat×AV):=(7,.int .u64 a)::(8,.int .u64 b)::x
abbrev kAB (a:Str) (b:Int) (x:List (Nat×AV)):List (Nat×AV):=(0,.str a)::(3,.i b)::x
abbrev kAC (a:Str) (b:Str) (x:List Blk):List Blk:= .cells [.str a,.str b]::x
abbrev kAD (a:Int) (b:Int) (x:List (Nat×AV)):List (Nat×AV):=(21,.i a)::(22,.i b)::x
abbrev kAE {α0:Type} (a:List α0) (x:List (Nat×AV)):List (Nat×AV):=(6,.gslice 0 a.length 1)::x
abbrev kAF (a:List qw) (b:Int) (x:List (Nat×AV)):List (Nat×AV):=(2,.ptr 4 0)::(6,vl qf a)::(7,.i b)::x
abbrev kAG (a:Str) (b:Str) (c:Bool) (x:List (Nat×AV)):List (Nat×AV):=(5,.str a)::(6,.str b)::(7,.bool c)::x
abbrev kAH (a:List Str) (x:List Blk):List Blk:= .cells (a.flatMap encS.c)::x
abbrev kAI (a:Str):List (Nat×AV):=[(0,.str a)]
abbrev kAJ (a:Int) (b:Int) (x:List (Nat×AV)):List (Nat×AV):=(6,.i a)::(7,.i b)::x
abbrev kAK (a:Int) (x:List (Nat×AV)):List (Nat×AV):=(6,.int .u64 a)::x
abbrev kAM (a:Int) (b:Int):List (Nat×AV):=[(13,.i a),(14,.i b)]
abbrev kAN {α0:Type} (a:List α0) (x:List (Nat×AV)):List (Nat×AV):=(5,.gslice 0 a.length 1)::x
abbrev kAO (x:List (Nat×AV)):List (Nat×AV):=(3,.ptr 0 0)::(4,.ptr 1 0)::(6,.ptr 2 0)::x
abbrev kAP (a:List qw) (b:Int) (c:Int) (x:List (Nat×AV)):List (Nat×AV):=(162,vl qf a)::(163,.i b)::(164,.i c)::x
abbrev kAQ (a:Int) (b:Int) (x:List (Nat×AV)):List (Nat×AV):=(0,.i a)::(1,.i b)::x
abbrev kAR (a:Int) (b:Int) (x:List (Nat×AV)):List (Nat×AV):=(11,.int .u64 a)::(13,.int .u64 b)::x
abbrev kAS (a:Int) (b:Int) (x:List (Nat×AV)):List (Nat×AV):=(15,.i a)::(16,.i b)::x
abbrev kAT (a:Str) (b:Str) (x:List (Nat×AV)):List (Nat×AV):=(5,.ptr 0 0)::(16,.str a)::(18,.str b)::x
abbrev kAU (a:Str) (b:List qw) (c:Str) (x:List (Nat×AV)):List (Nat×AV):=(0,.str a)::(1,vl qf b)::(2,.str c)::x
abbrev kAV (x:List (Nat×AV)):List (Nat×AV):=(3,.ptr 1 0)::x
abbrev kAW (a:Bool) (b:List Int) (x:List Blk):List Blk:= .cells [.bool a,vl encI b]::x
abbrev kAX (a:List qw) (b:Int) (c:Int) (x:List (Nat×AV)):List (Nat×AV):=(55,vl qf a)::(56,.i b)::(57,.i c)::x
abbrev kAY (a:List Int):List Blk:=[.frozen (a.flatMap encI.c)]
abbrev kAZ (a:Int) (b:Int) (x:List (Nat×AV)):List (Nat×AV):=(17,.int .u64 a)::(18,.int .u64 b)::x
abbrev kAa (x:List (Nat×AV)):List (Nat×AV):=(4,.ptr 0 0)::x
abbrev kAb (x:List (Nat×AV)):List (Nat×AV):=(4,.ptr 2 0)::x
abbrev kAc:List (Nat×AV):=[(2,.bool false)]
abbrev kAd {α3:Type} (a:List Int) (b:List Int) (c:Int) (d:List α3) (x:List (Nat×AV)):List (Nat×AV):=(8,vl encI a)::(9,vl encI b)::(10,.i c)::(11,.oslice 0 d.length 1)::x
abbrev kAe (x:List (Nat×AV)):List (Nat×AV):=(4,.ptr 1 0)::(5,.ptr 2 0)::x
abbrev kAf (a:Str) (b:Str) (c:Str) (d:List zD) (e:Str) (x:List (Nat×AV)):List (Nat×AV):=(0,.agg [.str a,.str b,.str c,vl qh d,.str e])::x
abbrev kAg (a:Int) (x:List (Nat×AV)):List (Nat×AV):=(7,.int .u64 a)::x
abbrev kAh (a:Bool) (b:List Int):List AV:=[.bool a,vl encI b]
abbrev kAi (a:List Int) (b:Int) (x:List (Nat×AV)):List (Nat×AV):=(0,vl encI a)::(1,.i b)::x
abbrev kAj (a:Str) (b:Str) (c:Str) (d:List zD) (e:Str) (x:List AV):List AV:= .agg [.str a,.str b,.str c,vl qh d,.str e]::x
abbrev kAk (a:Str) (x:List (Nat×AV)):List (Nat×AV):=(0,.str a)::(6,.ptr 0 0)::x
abbrev kAl (a:List zD) (b:Int) (c:Int) (x:List (Nat×AV)):List (Nat×AV):=(58,vl qh a)::(59,.i b)::(60,.i c)::x
abbrev kAm (a:Str) (b:Int) (x:List (Nat×AV)):List (Nat×AV):=(3,.str a)::(4,.i b)::x
abbrev kAn {α0:Type} (a:List α0) (b:Bool) (x:List (Nat×AV)):List (Nat×AV):=(3,.gslice 1 a.length 1)::(4,.bool b)::x
abbrev kAo (a:Int) (b:Int) (c:Int) (d:Int) (x:List (Nat×AV)):List (Nat×AV):=(2,.i a)::(7,.i b)::(9,.i c)::(10,.i d)::x
abbrev kAp:List (Nat×AV):=[(2,.ptr 1 0)]
abbrev kAq:List AV:=[.ptr 0 0,.ptr 1 0]
abbrev kAr (a:Int) (b:Int) (x:List (Nat×AV)):List (Nat×AV):=(8,.i a)::(9,.i b)::x
abbrev kAs (a:List qw) (x:List (Nat×AV)):List (Nat×AV):=(0,vl qf a)::x
abbrev kAt (a:Bool) (b:List Int) (c:Bool) (d:List Int):List AV:=[.agg [.bool a,vl encI b],.agg [.bool c,vl encI d]]
abbrev kAu (x:List (Nat×AV)):List (Nat×AV):=(3,.ptr 2 0)::(4,.ptr 3 0)::(5,.ptr 4 0)::x
abbrev kAv (x:List (Nat×AV)):List (Nat×AV):=(3,.ptr 3 0)::(4,.ptr 4 0)::(5,.ptr 5 0)::x
abbrev kAw (a:Int) (b:Int):List (Nat×AV):=[(104,.i a),(105,.i b)]
abbrev kAx (a:Int) (b:Int):List Blk:=[.cells [.i a,.i b]]
abbrev kAy (a:List zD) (b:Int) (c:Int) (x:List (Nat×AV)):List (Nat×AV):=(17,vl qh a)::(18,.i b)::(19,.i c)::x
abbrev kAz (a:Int) (b:Int):List (Nat×AV):=[(28,.i a),(29,.i b)]
abbrev kA0 (a:Bool):List (Nat×AV):=[(12,.bool a)]
abbrev kA1 (a:Int) (b:Int) (c:Int) (x:List (Nat×AV)):List (Nat×AV):=(17,.int .u64 a)::(156,.i b)::(157,.i c)::x
abbrev kA2 (a:Bool) (x:List (Nat×AV)):List (Nat×AV):=(3,.bool a)::(4,.ptr 1 0)::x
abbrev kA3 (a:Int) (b:Int):List (Nat×AV):=[(7,.i a),(8,.i b)]
abbrev kA4 (a:Str) (x:List (Nat×AV)):List (Nat×AV):=(0,.str a)::x
abbrev kA5 (a:Str) (b:Bool) (x:List (Nat×AV)):List (Nat×AV):=(5,.str a)::(6,.bool b)::x
abbrev kA6 (a:Int) (b:Int):List (Nat×AV):=[(96,.i a),(97,.i b)]
abbrev kA7 (a:Int):List Blk:=[.cells [.i a,.nilslice]]
abbrev kA8 (a:Int):List (Nat×AV):=[(5,.i a)]
abbrev kA9 (a:Int) (b:Int) (x:List (Nat×AV)):List (Nat×AV):=(14,.int .u64 a)::(15,.int .u64 b)::x
abbrev kBA (a:Int):List (Nat×AV):=[(2,.i a)]
abbrev kBB (x:List (Nat×AV)):List (Nat×AV):=(8,.ptr 0 0)::(11,.ptr 2 0)::(12,.ptr 3 0)::x
abbrev kBC:List Blk:=[.cells (([]:List Int).flatMap encI.c)]
abbrev kBD (a:List qw):List Blk:=[.dead,.cells (a.flatMap qf.c)]
abbrev kBE (a:Bool):List (Nat×AV):=[(13,.bool a)]
abbrev kBF (a:Str) (b:Str):List AV:=[.str a,.str b]
abbrev kBG (a:Int) (x:List Blk):List Blk:= .dead:: .cells [.i a]::x
abbrev kBH (a:Int) (b:Int) (c:Int) (x:List (Nat×AV)):List (Nat×AV):=(5,.ptr 0 0)::(8,.i a)::(10,.i b)::(11,.ptr 1 0)::(12,.i c)::x
abbrev kBI (a:List Int) (x:List (Nat×AV)):List (Nat×AV):=(0,vl encI a)::x
abbrev kBJ (a:List Int) (x:List (Nat×AV)):List (Nat×AV):=(5,vl encI a)::x
abbrev kBK (a:Int):List AV:=[.agg [.str [],.str [],.str [],.nilslice,.str []],.i a]
abbrev kBL (a:Bool):List (Nat×AV):=[(2,.bool a)]
abbrev kBM (x:List (Nat×AV)):List (Nat×AV):=(5,.ptr 3 0)::x
abbrev kBN (a:Int) (x:List (Nat×AV)):List (Nat×AV):=(0,.int .u64 a)::x
abbrev kBO (a:List Int) (b:List Int):List AV:=[vl encI a,vl encI b]
abbrev kBP:List (Nat×AV):=[(2,.bool true)]
abbrev kBQ (a:Bool):List (Nat×AV):=[(4,.bool a)]
abbrev kBR (a:Bool) (x:List (Nat×AV)):List (Nat×AV):=(3,.bool a)::x
abbrev kBS (a:List zD) (x:List (Nat×AV)):List (Nat×AV):=(0,vl qh a)::x
abbrev kBT:List (Nat×AV):=[(6,.bool false)]
abbrev kBU (x:List (Nat×AV)):List (Nat×AV):=(8,.ptr 0 0)::x
abbrev kBV (x:List (Nat×AV)):List (Nat×AV):=(10,.ptr 1 0)::x
abbrev kBW (a:Int) (b:Int):List AV:=[.int .u64 a,.int .u64 b]
abbrev kBX:List (Nat×AV):=[(5,.ptr 2 0)]
abbrev kBY (a:Bool):List (Nat×AV):=[(8,.bool a)]
abbrev kBZ (a:Int):List (Nat×AV):=[(4,.i a)]
abbrev kBa (x:List (Nat×AV)):List (Nat×AV):=(8,.int .u64 0)::x
abbrev kBb (a:Str):List (Nat×AV):=[(4,.str a)]
abbrev nz1 (x:qp):List AV:=ni1 x.s x.w
abbrev nq1 (x:qD):List AV:=ni2 x.Num.s x.Num.w x.Den.s x.Den.w
theorem qrD:SlT ZT 156 33 1 8:=⟨by kernel_rfl,by kernel_rfl,by kernel_rfl,by kernel_rfl⟩
theorem ce33:CeT ZT 33:=⟨by kernel_rfl,by kernel_rfl⟩
theorem st9:Tryz.prog.underlying 9=some .string:=by kernel_rfl
theorem qa2:Tryz.prog.underlying 96=some (.slice 222):=by kernel_rfl
theorem jf:SlT ZT 96 222 1 8:=⟨by kernel_rfl,by kernel_rfl,by kernel_rfl,by kernel_rfl⟩
theorem jm:CeT ZT 222:=⟨by kernel_rfl,by kernel_rfl⟩
theorem qee:SlT ZT 30 45 2 32:=⟨by kernel_rfl,by kernel_rfl,by kernel_rfl,by kernel_rfl⟩
theorem qiJ:CeT ZT 23:=⟨by kernel_rfl,by kernel_rfl⟩
theorem qmm:AgT ZT 45 2:=⟨by kernel_rfl,by kernel_rfl⟩
theorem qrp:SlT ZT 267 9 1 16:=⟨by kernel_rfl,by kernel_rfl,by kernel_rfl,by kernel_rfl⟩
theorem ce9:CeT ZT 9:=⟨by kernel_rfl,by kernel_rfl⟩
theorem qh3:SlT ZT 22 32 5 88:=⟨by kernel_rfl,by kernel_rfl,by kernel_rfl,by kernel_rfl⟩
theorem qnJ:AgT ZT 32 5:=⟨by kernel_rfl,by kernel_rfl⟩
noncomputable abbrev qo:Code:=(Tryz.f55.body.getD .skip).x2.x2.x1.x2.x1
theorem vZ:SlT ZT 80 3 1 8:=⟨by kernel_rfl,by kernel_rfl,by kernel_rfl,by kernel_rfl⟩
theorem ce3:CeT ZT 3:=⟨by kernel_rfl,by kernel_rfl⟩
theorem qmk:Tryz.prog.underlying 23=some .string:=by kernel_rfl
theorem qrE:EqT ZT 45 #[{name:= "X",type:=23,offset:=0,embedded:=false,tag:= "",pkgPath:= "",byteOffset:=0},{name:= "Y",type:=23,offset:=1,embedded:=false,tag:= "",pkgPath:= "",byteOffset:=16}]:=⟨by kernel_rfl,by kernel_rfl,by kernel_rfl⟩
def qz (l:List Int):Nat->Int->Option (Unit⊕Int)
 |0,_=>none
 |K+1,a=>
  if a<(l.length:Int)then
  (idx l a).bind fun b=>
  if(!decide (b=0))=true then
  some (.inr b)
  else
  qz l K (w64 (a+1))
  else
  some (.inl ())
def zQ (N:Nat) (l:List Int):Option Int:=
 (qz l N 0).bind (fun
 |(.inl ())=>
 some 0
 |(.inr a)=>
 some a)
theorem qao (N:Nat) (l:List Int) {res:Int} (h:zQ N l=some res):qd ZT (.fn 41) [vl encI l] [] (.i res) []:=by
 unfold zQ at h;refine Ub Tryz.func41 rfl rfl (m:=15) rfl (rs:=[.tmp 2]) rfl (l:=(kBI l [])) rfl ?_;refine sh fol (kBI l []) ?_;refine sq ?_;refine sh fol (kBJ l [(6,.i (l.length:Int)),(7,.i 0)]) ?_;refine Goes.block ?_;obtain⟨d,g2,h⟩:=bnd h;refine Goes.imp (Q:=fun x s'=>(x= .exit 0/\(.inl ())=d/\Sub s' (ofG 15 [],[]))\/(x= .ret/\ ∃e,(.inr e)=d/\jb ZT [.tmp 2] (.i e) .ret s')) ?_ ?_
 ·refine Uc (fun M s=> ∃(a:Int),s=(ofG 15 (kBJ l (kAJ (l.length:Int) a [])),[])/\qz l M a=some d) ?_ (m:=N) ⟨_,rfl,g2⟩;rintro M s ⟨a,rfl,g2⟩
  cases M with
  |zero=>simp only[qz]at g2;cases g2
  |succ M=>
   rw[qz]at g2;refine sh fol (kBJ l (kAJ (l.length:Int) a (kBY (decide (a<(l.length:Int)))))) ?_;refine sq ?_;refine ihD g2 (fun f g2=>?_) (fun f g2=>?_)
   ·refine Goes.skip ?_;refine sq (Goes.block ?_);obtain⟨c,b,g2⟩:=bnd g2;refine sq (gr fol [0,1] ((4,.i c)::(kBJ l (kAJ (l.length:Int) a []))) (ac (iv qrD encI b) (ac (lv 0 ce33 encI b rfl) az)) ?_);refine sh fol ((4,.i c)::(kBJ l (kAJ (l.length:Int) a (kA0 (!decide (c=0)))))) ?_;refine ihB g2 (fun g g2=>?_) (fun g g2=>?_)
    ·refine sh fol (kBA c) ?_;refine Goes.ret ?_;obtain rfl:=si g2;exact Or.inr (⟨rfl,_,rfl,(gw2 [.i c] (Ua tI))⟩)
    refine Goes.skip ?_;refine gh fol (kBJ l (kAJ (l.length:Int) (w64 (a+1)) [])) ?_;exact⟨M,(ofG 15 (kBJ l (kAJ (l.length:Int) (w64 (a+1)) [])),[]),Nat.lt_succ_self _,(Sub.refl _),_,rfl,g2⟩
   refine Goes.exit ?_;obtain rfl:=si g2;exact Or.inl (⟨rfl,rfl,(Sub.keep [] rfl rfl)⟩)
 rintro x s' (⟨rfl,rfl,hsub⟩|⟨rfl,j,rfl,hret⟩)
 ·try dsimp only at h
  refine Goes.sub hsub ?_;refine sh fol [(2,.i 0)] ?_;refine Goes.ret ?_;obtain rfl:=si h;exact(gw2 [.i 0] (Ua tI))
 try dsimp only at h
 obtain rfl:=si h;exact hret
def kK (holds:Bool) (e:Int):Option Int:=
 if holds=true then
 some e
 else
 some 0
theorem xk (holds:Bool) (e:Int) {res:Int} (h:kK holds e=some res):qd ZT (.fn 43) [.bool holds,.i e] [] (.i res) []:=by
 unfold kK at h;refine Ub Tryz.func43 rfl rfl (m:=7) rfl (rs:=[.tmp 4]) rfl (l:=[(0,.bool holds),(1,.i e)]) rfl ?_;refine sh fol [(0,.bool holds),(1,.i e)] ?_;refine sq ?_;refine sh fol [(1,.i e),(5,.bool holds)] ?_;refine ihB h (fun a h=>?_) (fun a h=>?_)
 ·refine sh fol (kBZ e) ?_;refine Goes.ret ?_;obtain rfl:=si h;exact(gw2 [.i e] (Ua tI))
 refine Goes.skip ?_;refine sh fol [(4,.i 0)] ?_;refine Goes.ret ?_;obtain rfl:=si h;exact(gw2 [.i 0] (Ua tI))
def y7 (c:Int):Option Bool:=
 (if c>=97 then
 if c<=122 then
 some true
 else
 if c>=65 then
 some (decide (c<=90))
 else
 some false
 else
 if c>=65 then
 some (decide (c<=90))
 else
 some false:Option Bool).bind fun a=>
 some a
theorem yT (c:Int) {res:Bool} (h:y7 c=some res):qd ZT (.fn 177) [.int .i32 c] [] (.bool res) []:=by
 unfold y7 at h;refine Ub Tryz.func177 rfl rfl (m:=17) rfl (rs:=[.tmp 2]) rfl (l:=[(0,.int .i32 c)]) rfl ?_;refine sh fol [(0,.int .i32 c)] ?_;refine sq ?_;obtain⟨g,a,h⟩:=bnd h;refine Goes.cut (s':=(ofG 17 (kBL g),[])) ?_ ?_
 ·rcases wyD a with⟨b,a⟩|⟨b,a⟩
  ·rcases wyD a with⟨d,a⟩|⟨d,a⟩
   ·obtain rfl:=si a;exact tr fol [2,6] kBP (ac (gw b) (ac (gw d) az))
   rcases wyD a with⟨e,a⟩|⟨e,a⟩
   ·obtain rfl:=si a;exact tr fol [2,6,9] (kBL (decide (c<=90))) (ac (gw b) (ac (gw d) (ac (gw e) az)))
   obtain rfl:=si a;exact tr fol [2,6,9] kAc (ac (gw b) (ac (gw d) (ac (gw e) az)))
  rcases wyD a with⟨f,a⟩|⟨f,a⟩
  ·obtain rfl:=si a;exact tr fol [2,9] (kBL (decide (c<=90))) (ac (gw b) (ac (gw f) az))
  obtain rfl:=si a;exact tr fol [2,9] kAc (ac (gw b) (ac (gw f) az))
 refine Goes.ret ?_;obtain rfl:=si h;exact(gw2 [.bool g] (Ua tB))
def vE (b:Str):Nat->Nat->Option (Unit⊕Bool)
 |0,_=>none
 |K+1,a=>
  if a<b.length then
  ((y7 (yZ b a)).bind fun d=>
  if(!d)=true then
  if(a:Int)=0 then
  some true
  else
  if(!decide ((yZ b a)=95))=true then
  if(yZ b a)<48 then
  some true
  else
  some (decide ((yZ b a)>57))
  else
  some false
  else
  some false:Option Bool).bind fun c=>
  if c=true then
  some (.inr false)
  else
  vE b K (a+runeLen b a)
  else
  some (.inl ())
def qak (N:Nat) (a:Str):Option Bool:=
 (vE a N 0).bind (fun
 |(.inl ())=>
 (if(!(a==[]))=true then
 some (decide ((a.length:Int)<=24))
 else
 some false:Option Bool).bind fun b=>
 some b
 |(.inr c)=>
 some c)
theorem qdw (N:Nat) (d:Str) {res:Bool} (h:qak N d=some res):qd ZT (.fn 106) [.str d] [] (.bool res) []:=by
 unfold qak at h;refine Ub Tryz.func106 rfl rfl (m:=37) rfl (rs:=[.tmp 2]) rfl (l:=(kAI d)) rfl ?_;refine sh fol (kAI d) ?_;refine sq ?_;refine sg fol (kAk d []) [.iter d 0] ?_;refine Goes.block ?_;obtain⟨r,g2,h⟩:=bnd h;refine Goes.imp (Q:=fun x s'=>(x= .exit 0/\(.inl ())=r/\Sub s' (ofG 37 (kAI d),[]))\/(x= .ret/\ ∃w,(.inr w)=r/\jb ZT [.tmp 2] (.bool w) .ret s')) ?_ ?_
 ·refine Goes.sub (s':=(ofG 37 (kAk d []),[.iter d 0])) (Sub.keep [0,6] rfl rfl) ?_;refine Uc (fun M s=> ∃(e:Nat),s=(ofG 37 (kAk d []),[.iter d e])/\vE d M e=some r) ?_ (m:=N) ⟨_,rfl,g2⟩;rintro M s ⟨e,rfl,g2⟩
  cases M with
  |zero=>simp only[vE]at g2;cases g2
  |succ M=>
   rw[vE]at g2;refine sq ?_;rcases Classical.em (e<d.length)with n|n
   ·rw[if_pos n]at g2;refine gq fol [0] (kAk d [(7,.tuple [.bool true,.i (e:Int),.int .i32 (yZ d e)]),(8,.bool true)]) [.iter d (e+runeLen d e)] (ac (hs (.run [0] (qgc (.ptr 0 0) true) [.iter d e] (.tuple [.bool true,.i (e:Int),.int .i32 (yZ d e)]) [.iter d (e+runeLen d e)] true) (qnX rfl n rfl)) az) ?_;refine sq ?_;refine Goes.ifB (b:=true) (by kernel_rfl) (fun _=>?_) (fun c=>(by cases c));refine Goes.skip ?_;refine Goes.block ?_;refine sh fol (kAB d (e:Int) [(4,.int .i32 (yZ d e)),(6,.ptr 0 0)]) ?_;refine sq ?_;obtain⟨t,a,g2⟩:=bnd g2;refine Goes.cut (s':=(ofG 37 (kAk d [(29,.bool t)]),[.iter d (e+runeLen d e)])) ?_ ?_
    ·obtain⟨z,g,a⟩:=bnd a;rcases wyB a with⟨k,a⟩|⟨k,a⟩
     ·rcases wyD a with⟨o,a⟩|⟨o,a⟩
      ·obtain rfl:=si a;exact tr fol [1,3,6] (kAk d [(29,.bool true)]) (ac (cv (yT (yZ d e) g)) (ac (gw k) (ac (gw o) az)))
      rcases wyB a with⟨q,a⟩|⟨q,a⟩
      ·rcases wyD a with⟨u,a⟩|⟨u,a⟩
       ·obtain rfl:=si a;exact tr fol [1,3,6,9,12] (kAk d [(29,.bool true)]) (ac (cv (yT (yZ d e) g)) (ac (gw k) (ac (gw o) (ac (gw q) (ac (gw u) az)))))
       obtain rfl:=si a;exact tr fol [1,3,6,9,12] (kAk d [(29,.bool (decide ((yZ d e)>57)))]) (ac (cv (yT (yZ d e) g)) (ac (gw k) (ac (gw o) (ac (gw q) (ac (gw u) az)))))
      obtain rfl:=si a;exact tr fol [1,3,6,9] (kAk d [(29,.bool false)]) (ac (cv (yT (yZ d e) g)) (ac (gw k) (ac (gw o) (ac (gw q) az))))
     obtain rfl:=si a;exact tr fol [1,3] (kAk d [(29,.bool false)]) (ac (cv (yT (yZ d e) g)) (ac (gw k) az))
    refine ihB g2 (fun v g2=>?_) (fun v g2=>?_)
    ·refine sh fol kAc ?_;refine Goes.ret ?_;obtain rfl:=si g2;exact Or.inr (⟨rfl,_,rfl,(gw2 [.bool false] (Ua tB))⟩)
    refine Goes.skip ?_;exact⟨M,(ofG 37 (kAk d []),[.iter d (e+runeLen d e)]),Nat.lt_succ_self _,(Sub.keep [0,6] rfl rfl),_,rfl,g2⟩
   rw[if_neg n]at g2;refine gr fol [0] (kAk d [(7,.tuple [.bool false]),(8,.bool false)]) (ac (hs (.run [0] (qgc (.ptr 0 0) true) [.iter d e] (.tuple [.bool false]) [.iter d e] false) (qnR rfl n)) az) ?_;refine sq ?_;refine Goes.ifB (b:=false) (by kernel_rfl) (fun c=>(by cases c)) (fun _=>?_);refine Goes.exit ?_;obtain rfl:=si g2;exact Or.inl (⟨rfl,rfl,(Sub.norm [] [] rfl rfl (.keep (.same nS) .nil) .nil)⟩)
 rintro x s' (⟨rfl,rfl,hsub⟩|⟨rfl,y,rfl,hret⟩)
 ·try dsimp only at h
  refine Goes.sub hsub ?_;refine sq ?_;obtain⟨p,f,h⟩:=bnd h;refine Goes.cut (s':=(ofG 37 (kBL p),[])) ?_ ?_
  ·rcases wyB f with⟨j,f⟩|⟨j,f⟩
   ·obtain rfl:=si f;exact tr fol [2] (kBL (decide ((d.length:Int)<=24))) (ac (gw j) az)
   obtain rfl:=si f;exact tr fol [2] kAc (ac (gw j) az)
  refine Goes.ret ?_;obtain rfl:=si h;exact(gw2 [.bool p] (Ua tB))
 try dsimp only at h
 obtain rfl:=si h;exact hret
def yN (N:Nat) (a:Str):Option Int:=
 (qak N a).bind fun b=>
 (kK (!b) 8).bind fun c=>
 some c
theorem qfz (N:Nat) (a:Str) {res:Int} (h:yN N a=some res):qd ZT (.fn 42) [.str a] [] (.i res) []:=by
 unfold yN at h;refine Ub Tryz.func42 rfl rfl (m:=7) rfl (rs:=[.tmp 2]) rfl (l:=(kAI a)) rfl ?_;refine sh fol (kAI a) ?_;obtain⟨e,b,h⟩:=bnd h;obtain⟨d,c,h⟩:=bnd h;refine sq (gr fol [1,3] (kBA d) (ac (cv (qdw N a b)) (ac (cv (xk (!e) 8 c)) az)) ?_);refine Goes.ret ?_;obtain rfl:=si h;exact(gw2 [.i d] (Ua tI))
def stringslite_HasPrefix (b:Str) (a:Str):Option Bool:=
 (if(b.length:Int)>=(a.length:Int)then
 (cut b 0 (a.length:Int)).bind fun c=>
 some (c==a)
 else
 some false:Option Bool).bind fun d=>
 some d
theorem xu (c:Str) (a:Str) {res:Bool} (h:stringslite_HasPrefix c a=some res):qd ZT (.fn 230) (kBF c a) [] (.bool res) []:=by
 unfold stringslite_HasPrefix at h;refine Ub Tryz.func230 rfl rfl (m:=18) rfl (rs:=[.tmp 4]) rfl (l:=(kQ c a [])) rfl ?_;refine sh fol (kQ c a []) ?_;refine sq ?_;obtain⟨f,b,h⟩:=bnd h;refine Goes.cut (s':=(ofG 18 (kBQ f),[])) ?_ ?_
 ·rcases wyD b with⟨e,b⟩|⟨e,b⟩
  ·obtain⟨g,d,b⟩:=bnd b;obtain rfl:=si b;exact tr fol [5,9] (kBQ (g==a)) (ac (gw e) (ac (hs (.done (.opt (kr ZT 9 (.str c) none (some (.i (a.length:Int))) none)) (.str g)) (jA st9 none (some (a.length:Int)) d)) az))
  obtain rfl:=si b;exact tr fol [5] [(4,.bool false)] (ac (gw e) az)
 refine Goes.ret ?_;obtain rfl:=si h;exact(gw2 [.bool f] (Ua tB))
def stringslite_CutPrefix (b:Str) (a:Str):Option (Str×Bool):=
 (stringslite_HasPrefix b a).bind fun c=>
 if(!c)=true then
 some (b,false)
 else
 (cut b (a.length:Int) (b.length:Int)).bind fun d=>
 some (d,true)
theorem qdp (b:Str) (a:Str) {res:Str×Bool} (h:stringslite_CutPrefix b a=some res):qd ZT (.fn 178) (kBF b a) [] (.tuple [.str res.1,.bool res.2]) []:=by
 unfold stringslite_CutPrefix at h;refine Ub Tryz.func178 rfl rfl (m:=15) rfl (rs:=[.tmp 4,.tmp 5]) rfl (l:=(kQ b a [])) rfl ?_;refine sh fol (kQ b a []) ?_;refine sq ?_;obtain⟨f,c,h⟩:=bnd h;refine sq (gr fol [2] (kQ b a [(9,.bool (!f))]) (ac (cv (xu b a c)) az) ?_);refine ihB h (fun g h=>?_) (fun g h=>?_)
 ·refine sh fol [(4,.str b),(5,.bool false)] ?_;refine Goes.ret ?_;obtain rfl:=si h;exact(gw2 [.str b,.bool false] (FzW.tuple (qj.cons (Ua tS) (qj.cons (Ua tB) qj.nil))))
 refine Goes.skip ?_;obtain⟨e,d,h⟩:=bnd h;refine sq (gr fol [3] [(4,.str e),(5,.bool true)] (ac (hs (.done (.opt (kr ZT 9 (.str b) (some (.i (a.length:Int))) none none)) (.str e)) (jA st9 (some (a.length:Int)) none d)) az) ?_);refine Goes.ret ?_;obtain rfl:=si h;exact(gw2 [.str e,.bool true] (FzW.tuple (qj.cons (Ua tS) (qj.cons (Ua tB) qj.nil))))
def strings_CutPrefix (c:Str) (a:Str):Option (Str×Bool):=
 (stringslite_CutPrefix c a).bind fun b=>
 some (b.1,b.2)
theorem qe2 (b:Str) (a:Str) {res:Str×Bool} (h:strings_CutPrefix b a=some res):qd ZT (.fn 110) (kBF b a) [] (.tuple [.str res.1,.bool res.2]) []:=by
 unfold strings_CutPrefix at h;refine Ub Tryz.func110 rfl rfl (m:=11) rfl (rs:=[.tmp 4,.tmp 5]) rfl (l:=(kQ b a [])) rfl ?_;refine sh fol (kQ b a []) ?_;obtain⟨d,c,h⟩:=bnd h;refine sq (gr fol [2] [(4,.str d.1),(5,.bool d.2)] (ac (cv (qdp b a c)) az) ?_);refine Goes.ret ?_;obtain rfl:=si h;exact(gw2 [.str d.1,.bool d.2] (FzW.tuple (qj.cons (Ua tS) (qj.cons (Ua tB) qj.nil))))
def stringslite_IndexByte (a:Str) (c:Int):Option Int:=
 (qj7 a c).bind fun b=>
 some b
theorem qdv (a:Str) (c:Int) {res:Int} (h:stringslite_IndexByte a c=some res):qd ZT (.fn 257) [.str a,.int .u8 c] [] (.i res) []:=by
 unfold stringslite_IndexByte at h;refine Ub Tryz.func257 rfl rfl (m:=8) rfl (rs:=[.tmp 4]) rfl (l:=(kA4 a [(1,.int .u8 c)])) rfl ?_;refine sh fol (kA4 a [(1,.int .u8 c)]) ?_;obtain⟨d,b,h⟩:=bnd h;refine sq (gr fol [2] (kBZ d) (ac (cv (qoa a c b)) az) ?_);refine Goes.ret ?_;obtain rfl:=si h;exact(gw2 [.i d] (Ua tI))
def stringslite_Index (a:Str) (substr:Str):Option Int:=
 (if(substr.length:Int)=0 then
 some true
 else
 some (substr==a):Option Bool).bind fun b=>
 if b=true then
 some 0
 else
 if(substr.length:Int)=1 then
 (idx substr 0).bind fun c=>
 (stringslite_IndexByte a (c.toNat:Int)).bind fun d=>
 some d
 else
 if(substr.length:Int)>=(a.length:Int)then
 some (-1)
 else
 none
theorem qeH (b:Str) (substr:Str) {res:Int} (h:stringslite_Index b substr=some res):qd ZT (.fn 231) (kBF b substr) [] (.i res) []:=by
 unfold stringslite_Index at h;refine Ub Tryz.func231 rfl rfl (m:=143) rfl (rs:=[.tmp 4]) rfl (l:=(kQ b substr [])) rfl ?_;refine sh fol (kQ b substr []) ?_;refine sh fol (kQ b substr (kA8 (substr.length:Int))) ?_;refine sq (Goes.block ?_);refine sq ?_;obtain⟨j,a,h⟩:=bnd h;refine Goes.cut (s':=(ofG 143 (kQ b substr [(5,.i (substr.length:Int)),(16,.bool j)]),[])) ?_ ?_
 ·rcases wyD a with⟨e,a⟩|⟨e,a⟩
  ·obtain rfl:=si a;exact tr fol [2] (kQ b substr [(5,.i (substr.length:Int)),(16,.bool true)]) (ac (gw e) az)
  obtain rfl:=si a;exact tr fol [2] (kQ b substr [(5,.i (substr.length:Int)),(16,.bool (substr==b))]) (ac (gw e) az)
 refine ihB h (fun k h=>?_) (fun k h=>?_)
 ·refine sh fol [(4,.i 0)] ?_;refine Goes.ret ?_;obtain rfl:=si h;exact(gw2 [.i 0] (Ua tI))
 refine sh fol (kQ b substr [(5,.i (substr.length:Int)),(24,.bool (decide ((substr.length:Int)=1)))]) ?_;refine ihD h (fun n h=>?_) (fun n h=>?_)
 ·obtain⟨f,c,h⟩:=bnd h;obtain⟨g,d,h⟩:=bnd h;refine sq (gr fol [2,3] (kBZ g) (ac (hs (.done (.opt (yV ZT 9 (.str substr) (.i 0))) (.int .u8 (f.toNat:Int))) (qau st9 c)) (ac (cv (qdv b (f.toNat:Int) d)) az)) ?_);refine Goes.ret ?_;obtain rfl:=si h;exact(gw2 [.i g] (Ua tI))
 refine sh fol (kQ b substr [(5,.i (substr.length:Int)),(31,.bool (decide ((substr.length:Int)>=(b.length:Int))))]) ?_;refine ihD h (fun o h=>?_) (fun o h=>?_)
 ·refine sh fol [(4,.i (-1))] ?_;refine Goes.ret ?_;obtain rfl:=si h;exact(gw2 [.i (-1)] (Ua tI))
 cases h
def stringslite_Cut (a:Str) (sep:Str):Option (Str×Str×Bool):=
 (stringslite_Index a sep).bind fun b=>
 if b>=0 then
 (cut a 0 b).bind fun c=>
 (cut a (w64 (b+(sep.length:Int))) (a.length:Int)).bind fun d=>
 some (c,d,true)
 else
 some (a,[],false)
theorem qfZ (a:Str) (sep:Str) {res:Str×Str×Bool} (h:stringslite_Cut a sep=some res):qd ZT (.fn 179) (kBF a sep) [] (.tuple [.str res.1,.str res.2.1,.bool res.2.2]) []:=by
 unfold stringslite_Cut at h;refine Ub Tryz.func179 rfl rfl (m:=23) rfl (rs:=[.tmp 4,.tmp 5,.tmp 6]) rfl (l:=(kQ a sep [])) rfl ?_;refine sh fol (kQ a sep []) ?_;refine sq ?_;obtain⟨b,c,h⟩:=bnd h;refine sq (gr fol [2] (kQ a sep [(7,.i b)]) (ac (cv (qeH a sep c)) az) ?_);refine sh fol (kQ a sep ((7,.i b)::(kA0 (decide (b>=0))))) ?_;refine ihD h (fun j h=>?_) (fun j h=>?_)
 ·obtain⟨f,d,h⟩:=bnd h;obtain⟨g,e,h⟩:=bnd h;refine sq (gr fol [2,8] [(4,.str f),(5,.str g),(6,.bool true)] (ac (hs (.done (.opt (kr ZT 9 (.str a) none (some (.i b)) none)) (.str f)) (jA st9 none (some b) d)) (ac (hs (.done (.opt (kr ZT 9 (.str a) (some (.i (w64 (b+(sep.length:Int))))) none none)) (.str g)) (jA st9 (some (w64 (b+(sep.length:Int)))) none e)) az)) ?_);refine Goes.ret ?_;obtain rfl:=si h;exact(gw2 [.str f,.str g,.bool true] (FzW.tuple (qj.cons (Ua tS) (qj.cons (Ua tS) (qj.cons (Ua tB) qj.nil)))))
 refine Goes.skip ?_;refine sh fol ((4,.str a)::(5,.str [])::kBT) ?_;refine Goes.ret ?_;obtain rfl:=si h;exact(gw2 [.str a,.str [],.bool false] (FzW.tuple (qj.cons (Ua tS) (qj.cons (Ua tS) (qj.cons (Ua tB) qj.nil)))))
def strings_Cut (b:Str) (sep:Str):Option (Str×Str×Bool):=
 (stringslite_Cut b sep).bind fun a=>
 some (a.1,a.2.1,a.2.2)
theorem qeL (b:Str) (sep:Str) {res:Str×Str×Bool} (h:strings_Cut b sep=some res):qd ZT (.fn 111) (kBF b sep) [] (.tuple [.str res.1,.str res.2.1,.bool res.2.2]) []:=by
 unfold strings_Cut at h;refine Ub Tryz.func111 rfl rfl (m:=13) rfl (rs:=[.tmp 4,.tmp 5,.tmp 6]) rfl (l:=(kQ b sep [])) rfl ?_;refine sh fol (kQ b sep []) ?_;obtain⟨a,c,h⟩:=bnd h;refine sq (gr fol [2] ((4,.str a.1)::(kA5 a.2.1 a.2.2 [])) (ac (cv (qfZ b sep c)) az) ?_);refine Goes.ret ?_;obtain rfl:=si h;exact(gw2 [.str a.1,.str a.2.1,.bool a.2.2] (FzW.tuple (qj.cons (Ua tS) (qj.cons (Ua tS) (qj.cons (Ua tB) qj.nil)))))
def vH (a:Str):Option Bool:=
 (if(!(a==[]))=true then
 (qlm a [48,49,50,51,52,53,54,55,56,57]).bind fun b=>
 if(b==[])=true then
 (idx a 0).bind fun c=>
 if(!decide ((c.toNat:Int)=48))=true then
 some true
 else
 some (a==[48])
 else
 some false
 else
 some false:Option Bool).bind fun d=>
 some d
theorem jU (c:Str) {res:Bool} (h:vH c=some res):qd ZT (.fn 112) [.str c] [] (.bool res) []:=by
 unfold vH at h;refine Ub Tryz.func112 rfl rfl (m:=19) rfl (rs:=[.tmp 2]) rfl (l:=(kAI c)) rfl ?_;refine sh fol (kAI c) ?_;refine sq ?_;obtain⟨j,a,h⟩:=bnd h;refine Goes.cut (s':=(ofG 19 (kBL j),[])) ?_ ?_
 ·rcases wyB a with⟨e,a⟩|⟨e,a⟩
  ·obtain⟨n,b,a⟩:=bnd a;rcases wyB a with⟨f,a⟩|⟨f,a⟩
   ·obtain⟨k,d,a⟩:=bnd a;rcases wyB a with⟨g,a⟩|⟨g,a⟩
    ·obtain rfl:=si a;exact tr fol [2,4,7,9,11] kBP (ac (gw e) (ac (cv (qic c [48,49,50,51,52,53,54,55,56,57] b)) (ac (gw f) (ac (hs (.done (.opt (yV ZT 9 (.str c) (.i 0))) (.int .u8 (k.toNat:Int))) (qau st9 d)) (ac (gw g) az)))))
    obtain rfl:=si a;exact tr fol [2,4,7,9,11] (kBL (c==[48])) (ac (gw e) (ac (cv (qic c [48,49,50,51,52,53,54,55,56,57] b)) (ac (gw f) (ac (hs (.done (.opt (yV ZT 9 (.str c) (.i 0))) (.int .u8 (k.toNat:Int))) (qau st9 d)) (ac (gw g) az)))))
   obtain rfl:=si a;exact tr fol [2,4,7] kAc (ac (gw e) (ac (cv (qic c [48,49,50,51,52,53,54,55,56,57] b)) (ac (gw f) az)))
  obtain rfl:=si a;exact tr fol [2] kAc (ac (gw e) az)
 refine Goes.ret ?_;obtain rfl:=si h;exact(gw2 [.bool j] (Ua tB))
def zX (l:List Int):Nat->Int->Option (Unit⊕Int)
 |0,_=>none
 |K+1,a=>
  if a<(l.length:Int)then
  (idx l a).bind fun b=>
  if(!decide (b=0))=true then
  some (.inr b)
  else
  zX l K (w64 (a+1))
  else
  some (.inl ())
def xg (N:Nat) (l:List Int):Option Int:=
 (zX l N 0).bind (fun
 |(.inl ())=>
 some 0
 |(.inr a)=>
 some a)
theorem qeq (N:Nat) (l:List Int) {res:Int} (h:xg N l=some res):qd ZT (.fn 113) [vl encI l] [] (.i res) []:=by
 unfold xg at h;refine Ub Tryz.func113 rfl rfl (m:=15) rfl (rs:=[.tmp 2]) rfl (l:=(kBI l [])) rfl ?_;refine sh fol (kBI l []) ?_;refine sq ?_;refine sh fol (kBJ l [(6,.i (l.length:Int)),(7,.i 0)]) ?_;refine Goes.block ?_;obtain⟨d,g2,h⟩:=bnd h;refine Goes.imp (Q:=fun x s'=>(x= .exit 0/\(.inl ())=d/\Sub s' (ofG 15 [],[]))\/(x= .ret/\ ∃e,(.inr e)=d/\jb ZT [.tmp 2] (.i e) .ret s')) ?_ ?_
 ·refine Uc (fun M s=> ∃(a:Int),s=(ofG 15 (kBJ l (kAJ (l.length:Int) a [])),[])/\zX l M a=some d) ?_ (m:=N) ⟨_,rfl,g2⟩;rintro M s ⟨a,rfl,g2⟩
  cases M with
  |zero=>simp only[zX]at g2;cases g2
  |succ M=>
   rw[zX]at g2;refine sh fol (kBJ l (kAJ (l.length:Int) a (kBY (decide (a<(l.length:Int)))))) ?_;refine sq ?_;refine ihD g2 (fun f g2=>?_) (fun f g2=>?_)
   ·refine Goes.skip ?_;refine sq (Goes.block ?_);obtain⟨c,b,g2⟩:=bnd g2;refine sq (gr fol [0,1] ((4,.i c)::(kBJ l (kAJ (l.length:Int) a []))) (ac (iv qrD encI b) (ac (lv 0 ce33 encI b rfl) az)) ?_);refine sh fol ((4,.i c)::(kBJ l (kAJ (l.length:Int) a (kA0 (!decide (c=0)))))) ?_;refine ihB g2 (fun g g2=>?_) (fun g g2=>?_)
    ·refine sh fol (kBA c) ?_;refine Goes.ret ?_;obtain rfl:=si g2;exact Or.inr (⟨rfl,_,rfl,(gw2 [.i c] (Ua tI))⟩)
    refine Goes.skip ?_;refine gh fol (kBJ l (kAJ (l.length:Int) (w64 (a+1)) [])) ?_;exact⟨M,(ofG 15 (kBJ l (kAJ (l.length:Int) (w64 (a+1)) [])),[]),Nat.lt_succ_self _,(Sub.refl _),_,rfl,g2⟩
   refine Goes.exit ?_;obtain rfl:=si g2;exact Or.inl (⟨rfl,rfl,(Sub.keep [] rfl rfl)⟩)
 rintro x s' (⟨rfl,rfl,hsub⟩|⟨rfl,j,rfl,hret⟩)
 ·try dsimp only at h
  refine Goes.sub hsub ?_;refine sh fol [(2,.i 0)] ?_;refine Goes.ret ?_;obtain rfl:=si h;exact(gw2 [.i 0] (Ua tI))
 try dsimp only at h
 obtain rfl:=si h;exact hret
def zT (holds:Bool) (e:Int):Option Int:=
 if holds=true then
 some e
 else
 some 0
theorem qaN (holds:Bool) (e:Int) {res:Int} (h:zT holds e=some res):qd ZT (.fn 114) [.bool holds,.i e] [] (.i res) []:=by
 unfold zT at h;refine Ub Tryz.func114 rfl rfl (m:=7) rfl (rs:=[.tmp 4]) rfl (l:=[(0,.bool holds),(1,.i e)]) rfl ?_;refine sh fol [(0,.bool holds),(1,.i e)] ?_;refine sq ?_;refine sh fol [(1,.i e),(5,.bool holds)] ?_;refine ihB h (fun a h=>?_) (fun a h=>?_)
 ·refine sh fol (kBZ e) ?_;refine Goes.ret ?_;obtain rfl:=si h;exact(gw2 [.i e] (Ua tI))
 refine Goes.skip ?_;refine sh fol [(4,.i 0)] ?_;refine Goes.ret ?_;obtain rfl:=si h;exact(gw2 [.i 0] (Ua tI))
def qcG (n:Int):Option Int:=
 if n<0 then
 some (wrap .u64 (w64 (0-n)))
 else
 some (wrap .u64 n)
theorem qeE (n:Int) {res:Int} (h:qcG n=some res):qd ZT (.fn 190) [.i n] [] (.int .u64 res) []:=by
 unfold qcG at h;refine Ub Tryz.func190 rfl rfl (m:=10) rfl (rs:=[.tmp 2]) rfl (l:=[(0,.i n)]) rfl ?_;refine sh fol [(0,.i n)] ?_;refine sq ?_;refine sh fol ((0,.i n)::(kBQ (decide (n<0)))) ?_;refine ihD h (fun a h=>?_) (fun a h=>?_)
 ·refine sh fol [(2,.int .u64 (wrap .u64 (w64 (0-n))))] ?_;refine Goes.ret ?_;obtain rfl:=si h;exact(gw2 [.int .u64 (wrap .u64 (w64 (0-n)))] (Ua tI))
 refine Goes.skip ?_;refine sh fol [(2,.int .u64 (wrap .u64 n))] ?_;refine Goes.ret ?_;obtain rfl:=si h;exact(gw2 [.int .u64 (wrap .u64 n)] (Ua tI))
def qO (a:qp):Option (Bool×(List Int)):=
 if(!a.w.isEmpty)=true then
 some (decide (a.s<0),a.w)
 else
 if a.s=0 then
 some (false,[])
 else
 (qcG a.s).bind fun b=>
 some (decide (a.s<0),[b])
theorem z8 (a:qp) {res:Bool×(List Int)} (h:qO a=some res):qd ZT (.fn 191) [.agg (nz1 a)] [] (.tuple [.bool res.1,vl ZU res.2]) []:=by
 unfold qO at h;refine Ub Tryz.func191 rfl rfl (m:=24) rfl (rs:=[.tmp 2,.tmp 3]) rfl (l:=[(0,.agg (nz1 a))]) rfl ?_;refine sg fol (kX []) [.cells (nz1 a)] ?_;refine sq (Goes.block ?_);refine sq (gr fol [2] (kX (kBQ (!a.w.isEmpty))) (ac (hs (.done (.opt (ze ZT .neq 96 (.tmp 6) (.const (.slice none 0 0)) (nvl ZU a.w) .nilslice)) (.bool (!a.w.isEmpty))) (ne_nv qa2)) az) ?_);refine ihB h (fun c h=>?_) (fun c h=>?_)
 ·refine sh fol [(2,.bool (decide (a.s<0))),(3,nvl ZU a.w)] ?_;refine Goes.ret ?_;obtain rfl:=si h;exact(gw2 [.bool (decide (a.s<0)),nvl ZU a.w] (FzW.tuple (qj.cons (Ua tB) (qj.cons (FzW.nvL (E:=ZU) (nl rfl)) qj.nil))))
 refine sh fol (kX (kBE (decide (a.s=0)))) ?_;refine ihD h (fun d h=>?_) (fun d h=>?_)
 ·refine sh fol [(2,.bool false),(3,.nilslice)] ?_;refine Goes.ret ?_;obtain rfl:=si h;exact(gw2 [.bool false,.nilslice] (FzW.tuple (qj.cons (Ua tB) (qj.cons (FzW.nilv (E:=ZU)) qj.nil))))
 refine Goes.skip ?_;obtain⟨e,b,h⟩:=bnd h;refine sq (gq fol [5] [(2,.bool (decide (a.s<0))),(3,.slice 1 0 1 1 1)] [.cells (nz1 a),.cells [.int .u64 e]] (ac (cv (qeE a.s b)) az) ?_);refine Goes.ret ?_;obtain rfl:=si h;exact(gw2 [.bool (decide (a.s<0)),.slice 1 0 1 1 1] (FzW.tuple (qj.cons (Ua tB) (qj.cons (FzW.fz (Fz.lit rfl rfl (Ue (AllST.cons tI AllST.nil)))) qj.nil))))
def vQ (neg:Bool) (w:List Int):Option qp:=
 if(w.length:Int)=0 then
 some (⟨0,[]⟩:qp)
 else
 (if(w.length:Int)=1 then
 (idx w 0).bind fun d=>
 if d<=9223372036854775807 then
 some neg
 else
 some false
 else
 some false:Option Bool).bind fun e=>
 if e=true then
 (idx w 0).bind fun f=>
 some (⟨w64 (0-(w64 f)),[]⟩:qp)
 else
 (if(w.length:Int)=1 then
 (idx w 0).bind fun a=>
 some (decide (a<=9223372036854775807))
 else
 some false:Option Bool).bind fun b=>
 if b=true then
 (idx w 0).bind fun c=>
 some (⟨w64 c,[]⟩:qp)
 else
 if neg=true then
 some (⟨(-1),w⟩:qp)
 else
 some (⟨1,w⟩:qp)
theorem qaQ (neg:Bool) (w:List Int) {res:qp} (h:vQ neg w=some res):qd ZT (.fn 192) [.bool neg,vl ZU w] [] (.agg (nz1 res)) []:=by
 unfold vQ at h;refine Ub Tryz.func192 rfl rfl (m:=50) rfl (rs:=[.cell 4 98]) rfl (l:=[(0,.bool neg),(1,vl ZU w)]) rfl ?_;refine sg fol ((0,.bool neg)::(1,vl ZU w)::(kAa [])) [bZ] ?_;refine sq (Goes.block ?_);refine sh fol ((0,.bool neg)::(1,vl ZU w)::(kAa [(5,.bool (decide ((w.length:Int)=0)))])) ?_;refine ihD h (fun t h=>?_) (fun t h=>?_)
 ·refine sh fol (kAa []) ?_;refine Goes.ret ?_;obtain rfl:=si h;exact(gw2 [.agg [.i 0,.nilslice]] (FzW.agg (qj.cons (Ua tI) (qj.cons (FzW.nv0 (E:=ZU)) qj.nil))))
 refine sq ?_;obtain⟨u,a,h⟩:=bnd h;refine Goes.cut (s':=(ofG 50 ((0,.bool neg)::(1,vl ZU w)::(kAa [(10,.bool u)])),[bZ])) ?_ ?_
 ·rcases wyD a with⟨j,a⟩|⟨j,a⟩
  ·obtain⟨x,c,a⟩:=bnd a;rcases wyD a with⟨k,a⟩|⟨k,a⟩
   ·obtain rfl:=si a;exact tr fol [3,5,6,9] ((0,.bool neg)::(1,vl ZU w)::(kAa [(10,.bool neg)])) (ac (gw j) (ac (iv jf ZU c) (ac (lv 0 jm ZU c rfl) (ac (gw k) az))))
   obtain rfl:=si a;exact tr fol [3,5,6,9] ((0,.bool neg)::(1,vl ZU w)::(kAa [(10,.bool false)])) (ac (gw j) (ac (iv jf ZU c) (ac (lv 0 jm ZU c rfl) (ac (gw k) az))))
  obtain rfl:=si a;exact tr fol [3] ((0,.bool neg)::(1,vl ZU w)::(kAa [(10,.bool false)])) (ac (gw j) az)
 refine ihB h (fun v h=>?_) (fun v h=>?_)
 ·obtain⟨s,f,h⟩:=bnd h;refine sq (gq fol [1,2] (kAa []) (kA7 (w64 (0-(w64 s)))) (ac (iv jf ZU f) (ac (lv 0 jm ZU f rfl) az)) ?_);refine Goes.ret ?_;obtain rfl:=si h;exact(gw2 [.agg [.i (w64 (0-(w64 s))),.nilslice]] (FzW.agg (qj.cons (Ua tI) (qj.cons (FzW.nv0 (E:=ZU)) qj.nil))))
 refine sq ?_;obtain⟨n,b,h⟩:=bnd h;refine Goes.cut (s':=(ofG 50 ((0,.bool neg)::(1,vl ZU w)::(kAa [(29,.bool n)])),[bZ])) ?_ ?_
 ·rcases wyD b with⟨o,b⟩|⟨o,b⟩
  ·obtain⟨p,d,b⟩:=bnd b;obtain rfl:=si b;exact tr fol [3,5,6] ((0,.bool neg)::(1,vl ZU w)::(kAa [(29,.bool (decide (p<=9223372036854775807)))])) (ac (gw o) (ac (iv jf ZU d) (ac (lv 0 jm ZU d rfl) az)))
  obtain rfl:=si b;exact tr fol [3] ((0,.bool neg)::(1,vl ZU w)::(kAa [(29,.bool false)])) (ac (gw o) az)
 refine ihB h (fun q h=>?_) (fun q h=>?_)
 ·obtain⟨g,e,h⟩:=bnd h;refine sq (gq fol [1,2] (kAa []) (kA7 (w64 g)) (ac (iv jf ZU e) (ac (lv 0 jm ZU e rfl) az)) ?_);refine Goes.ret ?_;obtain rfl:=si h;exact(gw2 [.agg [.i (w64 g),.nilslice]] (FzW.agg (qj.cons (Ua tI) (qj.cons (FzW.nv0 (E:=ZU)) qj.nil))))
 refine sh fol ((1,vl ZU w)::(kAa [(44,.bool neg)])) ?_;refine ihB h (fun r h=>?_) (fun r h=>?_)
 ·refine sg fol (kAa []) [.cells [.i (-1),vl ZU w]] ?_;refine Goes.ret ?_;obtain rfl:=si h;exact(gw2 [.agg [.i (-1),vl ZU w]] (FzW.agg (qj.cons (Ua tI) (qj.cons (FzW.Lnv (E:=ZU) (by first|omega|(simp only[decide_eq_false_iff_not,decide_eq_true_eq]at*;omega)) (nl rfl)) qj.nil))))
 refine Goes.skip ?_;refine sg fol (kAa []) [.cells [.i 1,vl ZU w]] ?_;refine Goes.ret ?_;obtain rfl:=si h;exact(gw2 [.agg [.i 1,vl ZU w]] (FzW.agg (qj.cons (Ua tI) (qj.cons (FzW.Lnv (E:=ZU) (by first|omega|(simp only[decide_eq_false_iff_not,decide_eq_true_eq]at*;omega)) (nl rfl)) qj.nil))))
def zS (a:qp):Option qp:=
 (if a.w.isEmpty=true then
 some (!decide (a.s=(-9223372036854775808)))
 else
 some false:Option Bool).bind fun c=>
 if c=true then
 some (⟨w64 (0-a.s),[]⟩:qp)
 else
 (qO a).bind fun b=>
 (vQ (!b.1) b.2).bind fun d=>
 some d
theorem yf (a:qp) {res:qp} (h:zS a=some res):qd ZT (.fn 151) [.agg (nz1 a)] [] (.agg (nz1 res)) []:=by
 unfold zS at h;refine Ub Tryz.func151 rfl rfl (m:=26) rfl (rs:=[.cell 2 98]) rfl (l:=[(0,.agg (nz1 a))]) rfl ?_;refine sg fol (kX kAp) [.cells (nz1 a),bZ] ?_;refine sq ?_;refine sq ?_;obtain⟨j,b,h⟩:=bnd h;refine Goes.cut (s':=(ofG 26 (kX ((2,.ptr 1 0)::(kA0 j))),[.cells (nz1 a),bZ])) ?_ ?_
 ·rcases wyB b with⟨g,b⟩|⟨g,b⟩
  ·obtain rfl:=si b;exact tr fol [2,3] (kX ((2,.ptr 1 0)::(kA0 (!decide (a.s=(-9223372036854775808)))))) (ac (hs (.done (.opt (ze ZT .eql 96 (.tmp 6) (.const (.slice none 0 0)) (nvl ZU a.w) .nilslice)) (.bool a.w.isEmpty)) (qa7 qa2)) (ac (gw g) az))
  obtain rfl:=si b;exact tr fol [2,3] (kX [(2,.ptr 1 0),(12,.bool false)]) (ac (hs (.done (.opt (ze ZT .eql 96 (.tmp 6) (.const (.slice none 0 0)) (nvl ZU a.w) .nilslice)) (.bool a.w.isEmpty)) (qa7 qa2)) (ac (gw g) az))
 refine ihB h (fun k h=>?_) (fun k h=>?_)
 ·refine sg fol kAp (.cells (nz1 a)::(kA7 (w64 (0-a.s)))) ?_;refine Goes.ret ?_;obtain rfl:=si h;exact(gw2 [.agg [.i (w64 (0-a.s)),.nilslice]] (FzW.agg (qj.cons (Ua tI) (qj.cons (FzW.nv0 (E:=ZU)) qj.nil))))
 refine Goes.skip ?_;obtain⟨e,c,h⟩:=bnd h;refine sq (gr fol [1] ((2,.ptr 1 0)::(kBR e.1 [(4,vl ZU e.2)])) (ac (cv (z8 a c)) az) ?_);obtain⟨f,d,h⟩:=bnd h;refine sq (gq fol [3,4] kAp [.cells (nz1 a),.cells (nz1 f)] (ac (cv (qaQ (!e.1) e.2 d)) (ac (hs (.run [1] (qx ZT 98 (.ptr 1 0) (.agg (nz1 f))) [.cells (nz1 a),bZ] .undef [.cells (nz1 a),.cells (nz1 f)] true) (kg (n:=2) (by kernel_rfl) rfl rfl rfl rfl (cac rfl (cac nvc can)) rfl)) az)) ?_);refine Goes.ret ?_;obtain rfl:=si h;exact(gw2 [.agg (nz1 f)] (FzW.agg (qj.cons (Ua tI) (qj.cons (Ua (qE ZU _ (nl rfl))) qj.nil))))
def qbn (a:qp):Option qp:=
 if a.s<0 then
 (zS a).bind fun b=>
 some b
 else
 some a
theorem qeS (a:qp) {res:qp} (h:qbn a=some res):qd ZT (.fn 181) [.agg (nz1 a)] [] (.agg (nz1 res)) []:=by
 unfold qbn at h;refine Ub Tryz.func181 rfl rfl (m:=9) rfl (rs:=[.cell 2 98]) rfl (l:=[(0,.agg (nz1 a))]) rfl ?_;refine sg fol (kX kAp) [.cells (nz1 a),bZ] ?_;refine sq ?_;refine sh fol (kX [(2,.ptr 1 0),(5,.bool (decide (a.s<0)))]) ?_;refine ihD h (fun d h=>?_) (fun d h=>?_)
 ·obtain⟨c,b,h⟩:=bnd h;refine sq (gq fol [1,2] kAp [.cells (nz1 a),.cells (nz1 c)] (ac (cv (yf a b)) (ac (hs (.run [1] (qx ZT 98 (.ptr 1 0) (.agg (nz1 c))) [.cells (nz1 a),bZ] .undef [.cells (nz1 a),.cells (nz1 c)] true) (kg (n:=2) (by kernel_rfl) rfl rfl rfl rfl (cac rfl (cac nvc can)) rfl)) az)) ?_);refine Goes.ret ?_;obtain rfl:=si h;exact(gw2 [.agg (nz1 c)] (FzW.agg (qj.cons (Ua tI) (qj.cons (Ua (qE ZU _ (nl rfl))) qj.nil))))
 refine Goes.skip ?_;refine sq (gq fol [1] kAp [.cells (nz1 a),.cells (nz1 a)] (ac (hs (.run [1] (qx ZT 98 (.ptr 1 0) (.agg (nz1 a))) [.cells (nz1 a),bZ] .undef [.cells (nz1 a),.cells (nz1 a)] true) (kg (n:=2) (by kernel_rfl) rfl rfl rfl rfl (cac rfl (cac nvc can)) rfl)) az) ?_);refine Goes.ret ?_;obtain rfl:=si h;exact(gw2 [.agg (nz1 a)] (FzW.agg (qj.cons (Ua tI) (qj.cons (Ua (qE ZU _ (nl rfl))) qj.nil))))
def zf (a:qp):Option Int:=
 some (if(if a.s<1 then a.s else 1)>(-1)then(if a.s<1 then a.s else 1)else(-1))
theorem y8 (a:qp) {res:Int} (h:zf a=some res):qd ZT (.fn 182) [.agg (nz1 a)] [] (.i res) []:=by
 unfold zf at h;refine Ub Tryz.func182 rfl rfl (m:=7) rfl (rs:=[.tmp 2]) rfl (l:=[(0,.agg (nz1 a))]) rfl ?_;refine sg fol (kX []) [.cells (nz1 a)] ?_;refine sh fol (kBA (if(if a.s<1 then a.s else 1)>(-1)then(if a.s<1 then a.s else 1)else(-1))) ?_;refine Goes.ret ?_;obtain rfl:=si h;exact(gw2 [.i (if(if a.s<1 then a.s else 1)>(-1)then(if a.s<1 then a.s else 1)else(-1))] (Ua tI))
def qcK (n:Int):Option qp:=
 some (⟨n,[]⟩:qp)
theorem qbQ (n:Int) {res:qp} (h:qcK n=some res):qd ZT (.fn 118) [.i n] [] (.agg (nz1 res)) []:=by
 unfold qcK at h;refine Ub Tryz.func118 rfl rfl (m:=5) rfl (rs:=[.cell 2 98]) rfl (l:=[(0,.i n)]) rfl ?_;refine sg fol ((0,.i n)::(kU [])) [bZ] ?_;refine sg fol (kU []) (kA7 n) ?_;refine Goes.ret ?_;obtain rfl:=si h;exact(gw2 [.agg [.i n,.nilslice]] (FzW.agg (qj.cons (Ua tI) (qj.cons (FzW.nv0 (E:=ZU)) qj.nil))))
def qay (w:List Int):Nat->Int->Option Int
 |0,_=>none
 |K+1,a=>
  (if a>0 then
  (idx w (w64 (a-1))).bind fun b=>
  some (decide (b=0))
  else
  some false:Option Bool).bind fun c=>
  if c=true then
  qay w K (w64 (a-1))
  else
  some a
def xG (N:Nat) (w:List Int):Option (List Int):=
 (qay w N (w.length:Int)).bind fun a=>
 (cut w 0 a).bind fun b=>
 some b
theorem xV (N:Nat) (w:List Int) {res:List Int} (h:xG N w=some res):qd ZT (.fn 244) [vl ZU w] [] (vl ZU res) []:=by
 unfold xG at h;refine Ub Tryz.func244 rfl rfl (m:=21) rfl (rs:=[.tmp 2]) rfl (l:=[(0,vl ZU w)]) rfl ?_;refine sh fol [(0,vl ZU w)] ?_;refine sh fol [(0,vl ZU w),(3,.i (w.length:Int))] ?_;refine sq (Goes.block ?_);obtain⟨j,g3,h⟩:=bnd h;refine Goes.imp (Q:=fun x s'=>(x= .exit 0/\ ∃d,d=j/\Sub s' (ofG 21 [(0,vl ZU w),(3,.i d)],[]))) ?_ ?_
 ·refine Uc (fun M s=> ∃(b:Int),s=(ofG 21 [(0,vl ZU w),(3,.i b)],[])/\qay w M b=some j) ?_ (m:=N) ⟨_,rfl,g3⟩;rintro M s ⟨b,rfl,g3⟩
  cases M with
  |zero=>simp only[qay]at g3;cases g3
  |succ M=>
   rw[qay]at g3;refine sq ?_;refine sq ?_;obtain⟨k,a,g3⟩:=bnd g3;refine Goes.cut (s':=(ofG 21 [(0,vl ZU w),(3,.i b),(15,.bool k)],[])) ?_ ?_
   ·rcases wyD a with⟨f,a⟩|⟨f,a⟩
    ·obtain⟨n,c,a⟩:=bnd a;obtain rfl:=si a;exact tr fol [2,6,7] [(0,vl ZU w),(3,.i b),(15,.bool (decide (n=0)))] (ac (gw f) (ac (iv jf ZU c) (ac (lv 0 jm ZU c rfl) az)))
    obtain rfl:=si a;exact tr fol [2] [(0,vl ZU w),(3,.i b),(15,.bool false)] (ac (gw f) az)
   refine ihB g3 (fun o g3=>?_) (fun o g3=>?_)
   ·refine Goes.skip ?_;refine Goes.block ?_;refine gh fol [(0,vl ZU w),(3,.i (w64 (b-1)))] ?_;exact⟨M,(ofG 21 [(0,vl ZU w),(3,.i (w64 (b-1)))],[]),Nat.lt_succ_self _,(Sub.refl _),_,rfl,g3⟩
   refine Goes.exit ?_;obtain rfl:=si g3;exact⟨rfl,_,rfl,(Sub.keep [0,3] rfl rfl)⟩
 rintro x s' ⟨rfl,d,rfl,hsub⟩;refine Goes.sub hsub ?_;obtain⟨g,e,h⟩:=bnd h;refine sq (gr fol [2] [(2,vl ZU g)] (ac (hs (.done (.opt (kr ZT 96 (vl ZU w) none (some (.i d)) none)) (vl ZU g)) (qjo jf (E:=ZU) rfl none (some d) e)) az) ?_);refine Goes.ret ?_;obtain rfl:=si h;exact(gw2 [vl ZU g] (Ua (qA ZU _ (nl rfl))))
def jy (c:List Int) (d:List Int):Nat->(List Int)->Int->Int->Option ((List Int)×Int)
 |0,_,_,_=>none
 |K+1,e,a,j=>
  if a<(c.length:Int)then
  ((if a<(d.length:Int)then
  (idx d a).bind fun f=>
  some f
  else
  some 0:Option Int)).bind fun g=>
  (idx c a).bind fun h=>
  (qar h g j).bind fun b=>
  (idx e a).bind fun k=>
  (put e a b.1).bind fun i=>
  jy c d K i (w64 (a+1)) b.2
  else
  some (e,j)
def qaY (N:Nat) (b:List Int) (y:List Int):Option (List Int):=
 ((if(b.length:Int)<(y.length:Int)then
 some (y,b)
 else
 some (b,y):Option ((List Int)×(List Int)))).bind fun(a,g)=>
 (mk 8 (w64 ((a.length:Int)+1)) 0).bind fun h=>
 (jy a g N h 0 0).bind fun(f,c)=>
 (idx f (a.length:Int)).bind fun i=>
 (put f (a.length:Int) c).bind fun d=>
 (xG N d).bind fun e=>
 some e
theorem qhl (N:Nat) (B:List Int) (y:List Int) {res:List Int} (h:qaY N B y=some res):qd ZT (.fn 194) [vl ZU B,vl ZU y] [] (vl ZU res) []:=by
 unfold qaY at h;refine Ub Tryz.func194 rfl rfl (m:=54) rfl (rs:=[.tmp 4]) rfl (l:=[(0,vl ZU B),(1,vl ZU y)]) rfl ?_;refine sh fol [(0,vl ZU B),(1,vl ZU y)] ?_;refine sq ?_;refine sh fol ((0,vl ZU B)::(1,vl ZU y)::(kBE (decide ((B.length:Int)<(y.length:Int))))) ?_;obtain⟨P,g3,h⟩:=bnd h;refine Goes.imp (Q:=fun x s'=>(x= .normal/\ ∃a e,(a,e)=P/\Sub s' (ofG 54 [(0,vl ZU a),(1,vl ZU e)],[]))) ?_ ?_
 ·refine ihD g3 (fun U g3=>?_) (fun U g3=>?_)
  ·refine gh fol [(0,vl ZU y),(1,vl ZU B)] ?_;obtain rfl:=si g3;exact⟨rfl,_,_,rfl,(Sub.refl _)⟩
  refine Goes.skip ?_;obtain rfl:=si g3;exact⟨rfl,_,_,rfl,(Sub.keep [0,1] rfl rfl)⟩
 rintro x s' ⟨rfl,a,e,rfl,hsub⟩
 try dsimp only at h
 refine Goes.sub hsub ?_;obtain⟨C,G,h⟩:=bnd h;refine sq (gq fol [3] ((0,vl ZU a)::(1,vl ZU e)::(kE C [])) [.cells (C.flatMap ZU.c)] (ac (hs (.run [] (jK ZT 96 (.i (w64 ((a.length:Int)+1))) (.i (w64 ((a.length:Int)+1)))) [] (.slice 0 0 C.length C.length 1) [.cells (C.flatMap ZU.c)] false) (qd2 jf (E:=ZU) (z:=0) rfl (by kernel_rfl) G rfl)) az) ?_);refine sh fol ((0,vl ZU a)::(1,vl ZU e)::(kE C [(6,.int .u64 0)])) ?_;refine sq ?_;refine sh fol ((0,vl ZU a)::(1,vl ZU e)::(kE C [(6,.int .u64 0),(21,.i (a.length:Int)),(22,.i 0)])) ?_;refine Goes.block ?_;obtain⟨H,g11,h⟩:=bnd h;refine Goes.imp (Q:=fun x s'=>(x= .exit 0/\ ∃v k,(v,k)=H/\Sub s' (ofG 54 ((0,vl ZU a)::(kE v (kAK k []))),[.cells (v.flatMap ZU.c)]))) ?_ ?_
 ·refine Uc (fun M s=> ∃(f:List Int) (d:Int) (w:Int),s=(ofG 54 ((0,vl ZU a)::(1,vl ZU e)::(kE f (kAK w (kAD (a.length:Int) d [])))),[.cells (f.flatMap ZU.c)])/\jy a e M f d w=some H) ?_ (m:=N) ⟨_,_,_,rfl,g11⟩;rintro M s ⟨f,d,w,rfl,g11⟩
  cases M with
  |zero=>simp only[jy]at g11;cases g11
  |succ M=>
   rw[jy]at g11;refine sh fol ((0,vl ZU a)::(1,vl ZU e)::(kE f (kAK w (kAD (a.length:Int) d [(23,.bool (decide (d<(a.length:Int))))])))) ?_;refine sq ?_;refine ihD g11 (fun I g11=>?_) (fun I g11=>?_)
   ·refine Goes.skip ?_;refine sq (Goes.block ?_);refine sh fol ((0,vl ZU a)::(1,vl ZU e)::(kE f (kAK w ((7,.i d)::(kAD (a.length:Int) d []))))) ?_;refine sh fol ((0,vl ZU a)::(1,vl ZU e)::(kE f (kAK w ((7,.i d)::(kBa (kAD (a.length:Int) d [])))))) ?_;refine sq ?_;refine sh fol ((0,vl ZU a)::(1,vl ZU e)::(kE f (kAK w ((7,.i d)::(kBa (kAD (a.length:Int) d [(28,.bool (decide (d<(e.length:Int))))])))))) ?_;obtain⟨J,g14,g11⟩:=bnd g11;refine Goes.imp (Q:=fun x s'=>(x= .normal/\ ∃A,A=J/\Sub s' (ofG 54 ((0,vl ZU a)::(1,vl ZU e)::(kE f (kAK w ((7,.i d)::(8,.int .u64 A)::(kAD (a.length:Int) d []))))),[.cells (f.flatMap ZU.c)]))) ?_ ?_
    ·refine ihD g14 (fun K g14=>?_) (fun K g14=>?_)
     ·obtain⟨L,n,g14⟩:=bnd g14;refine gr fol [2,3] ((0,vl ZU a)::(1,vl ZU e)::(kE f (kAK w ((7,.i d)::(8,.int .u64 L)::(kAD (a.length:Int) d []))))) (ac (iv jf ZU n) (ac (lv 0 jm ZU n rfl) az)) ?_;obtain rfl:=si g14;exact⟨rfl,_,rfl,(Sub.refl _)⟩
     refine Goes.skip ?_;obtain rfl:=si g14;exact⟨rfl,_,rfl,(Sub.keep [0,1,5,6,7,8,21,22] rfl rfl)⟩
    rintro x s' ⟨rfl,A,rfl,hsub⟩;refine Goes.sub hsub ?_;obtain⟨O,o,g11⟩:=bnd g11;obtain⟨j,D,g11⟩:=bnd g11;obtain⟨V,p,g11⟩:=bnd g11;obtain⟨g,q,g11⟩:=bnd g11;refine gq fol [4,5,8,12,13] ((0,vl ZU a)::(1,vl ZU e)::(kE f (kAK j.2 (kAD (a.length:Int) d [])))) [.cells (g.flatMap ZU.c)] (ac (iv jf ZU o) (ac (lv 0 jm ZU o rfl) (ac (cv (qcP O A w D)) (ac (hs (.done (.opt (ql ZT 96 (.slice 0 0 f.length f.length 1) (.i d))) (.ptr 0 ((d:Int).toNat*1+0))) (qa1 jf p)) (ac (hs (.run [0] (qx ZT 222 (.ptr 0 ((d:Int).toNat*1+0)) (.int .u64 j.1)) [.cells (f.flatMap ZU.c)] .undef [.cells (g.flatMap ZU.c)] true) (qaD (E:=ZU) (l:=f) (y:=j.1) rfl (show _=some 1 by kernel_rfl) rfl p rfl rfl rfl rfl rfl q rfl)) az))))) ?_;refine Goes.sub (show Sub (ofG 54 ((0,vl ZU a)::(1,vl ZU e)::(kE f (kAK j.2 (kAD (a.length:Int) d [])))),[.cells (g.flatMap ZU.c)]) (ofG 54 ((0,vl ZU a)::(1,vl ZU e)::(kE g (kAK j.2 (kAD (a.length:Int) d [])))),[.cells (g.flatMap ZU.c)])from(Sub.norm [] [some 0] rfl rfl (.keep (.same (qg ZU _)) (.keep (.same (qg ZU _)) (.keep (.sliceE rfl (yE q)) (.keep (.same nI) (.keep (.same nI) (.keep (.same nI) .nil)))))) (.ks .nil))) ?_;refine gh fol ((0,vl ZU a)::(1,vl ZU e)::(kE g (kAK j.2 (kAD (a.length:Int) (w64 (d+1)) [])))) ?_;exact⟨M,(ofG 54 ((0,vl ZU a)::(1,vl ZU e)::(kE g (kAK j.2 (kAD (a.length:Int) (w64 (d+1)) [])))),[.cells (g.flatMap ZU.c)]),Nat.lt_succ_self _,(Sub.refl _),_,_,_,rfl,g11⟩
   refine Goes.exit ?_;obtain rfl:=si g11;exact⟨rfl,_,_,rfl,(Sub.keep [0,5,6] rfl rfl)⟩
 rintro x s' ⟨rfl,v,k,rfl,hsub⟩
 try dsimp only at h
 refine Goes.sub hsub ?_;obtain⟨X,r,h⟩:=bnd h;obtain⟨b,t,h⟩:=bnd h;refine sq (gq fol [4,5] (kE v []) [.cells (b.flatMap ZU.c)] (ac (hs (.done (.opt (ql ZT 96 (.slice 0 0 v.length v.length 1) (.i (a.length:Int)))) (.ptr 0 (((a.length:Int):Int).toNat*1+0))) (qa1 jf r)) (ac (hs (.run [0] (qx ZT 222 (.ptr 0 (((a.length:Int):Int).toNat*1+0)) (.int .u64 k)) [.cells (v.flatMap ZU.c)] .undef [.cells (b.flatMap ZU.c)] true) (qaD (E:=ZU) (l:=v) (y:=k) rfl (show _=some 1 by kernel_rfl) rfl r rfl rfl rfl rfl rfl t rfl)) az)) ?_);refine Goes.sub (show Sub (ofG 54 (kE v []),[.cells (b.flatMap ZU.c)]) (ofG 54 (kE b []),[.cells (b.flatMap ZU.c)])from(Sub.norm [] [some 0] rfl rfl (.keep (.sliceE rfl (yE t)) .nil) (.ks .nil))) ?_;obtain⟨u,F,h⟩:=bnd h;refine sq (gq fol [1] [(4,vl ZU u)] [.frozen (b.flatMap ZU.c)] (ac (hs (.callF 244 [.slice 0 0 b.length b.length 1] [.cells (b.flatMap ZU.c)] [0] [vl ZU b] (vl ZU u)) (qax (FzL.cons (Fz.sl (E:=ZU) rfl rfl (nl rfl)) FzL.nil) (xV N b F) (qA ZU _ (nl rfl)))) az) ?_);refine Goes.sub (show Sub (ofG 54 [(4,vl ZU u)],[.frozen (b.flatMap ZU.c)]) (ofG 54 [(4,vl ZU u)],[])from(Sub.norm [] [] rfl rfl (.keep (.same (qg ZU _)) .nil) .nil)) ?_;refine Goes.ret ?_;obtain rfl:=si h;exact(gw2 [vl ZU u] (Ua (qA ZU _ (nl rfl))))
def zB (a:List Int) (b:List Int):Nat->Int->Option (Unit⊕Int)
 |0,_=>none
 |K+1,c=>
  if c>=0 then
  (idx a c).bind fun d=>
  (idx b c).bind fun e=>
  if(!decide (d=e))=true then
  if d<e then
  some (.inr (-1))
  else
  some (.inr 1)
  else
  zB a b K (w64 (c-1))
  else
  some (.inl ())
def vD (N:Nat) (a:List Int) (b:List Int):Option Int:=
 if(!decide ((a.length:Int)=(b.length:Int)))=true then
 if(a.length:Int)<(b.length:Int)then
 some (-1)
 else
 some 1
 else
 (zB a b N (w64 ((a.length:Int)-1))).bind (fun
 |(.inl ())=>
 some 0
 |(.inr c)=>
 some c)
theorem qcj (N:Nat) (a:List Int) (b:List Int) {res:Int} (h:vD N a b=some res):qd ZT (.fn 195) [vl ZU a,vl ZU b] [] (.i res) []:=by
 unfold vD at h;refine Ub Tryz.func195 rfl rfl (m:=41) rfl (rs:=[.tmp 4]) rfl (l:=[(0,vl ZU a),(1,vl ZU b)]) rfl ?_;refine sh fol [(0,vl ZU a),(1,vl ZU b)] ?_;refine sq ?_;refine sh fol [(0,vl ZU a),(1,vl ZU b),(10,.bool (!decide ((a.length:Int)=(b.length:Int))))] ?_;refine ihB h (fun o h=>?_) (fun o h=>?_)
 ·refine sq ?_;refine sh fol [(15,.bool (decide ((a.length:Int)<(b.length:Int))))] ?_;refine ihD h (fun p h=>?_) (fun p h=>?_)
  ·refine sh fol [(4,.i (-1))] ?_;refine Goes.ret ?_;obtain rfl:=si h;exact(gw2 [.i (-1)] (Ua tI))
  refine Goes.skip ?_;refine sh fol [(4,.i 1)] ?_;refine Goes.ret ?_;obtain rfl:=si h;exact(gw2 [.i 1] (Ua tI))
 refine Goes.skip ?_;refine sq ?_;refine sh fol ((0,vl ZU a)::(1,vl ZU b)::(kA8 (w64 ((a.length:Int)-1)))) ?_;refine Goes.block ?_;obtain⟨f,g4,h⟩:=bnd h;refine Goes.imp (Q:=fun x s'=>(x= .exit 0/\(.inl ())=f/\Sub s' (ofG 41 [],[]))\/(x= .ret/\ ∃j,(.inr j)=f/\jb ZT [.tmp 4] (.i j) .ret s')) ?_ ?_
 ·refine Uc (fun M s=> ∃(e:Int),s=(ofG 41 ((0,vl ZU a)::(1,vl ZU b)::(kA8 e)),[])/\zB a b M e=some f) ?_ (m:=N) ⟨_,rfl,g4⟩;rintro M s ⟨e,rfl,g4⟩
  cases M with
  |zero=>simp only[zB]at g4;cases g4
  |succ M=>
   rw[zB]at g4;refine sq ?_;refine sh fol [(0,vl ZU a),(1,vl ZU b),(5,.i e),(20,.bool (decide (e>=0)))] ?_;refine ihD g4 (fun q g4=>?_) (fun q g4=>?_)
   ·refine Goes.skip ?_;refine sq (Goes.block ?_);obtain⟨k,c,g4⟩:=bnd g4;obtain⟨n,d,g4⟩:=bnd g4;refine sq (gr fol [2,3,6,7] [(0,vl ZU a),(1,vl ZU b),(5,.i e),(31,.bool (!decide (k=n)))] (ac (iv jf ZU c) (ac (lv 0 jm ZU c rfl) (ac (iv jf ZU d) (ac (lv 0 jm ZU d rfl) az)))) ?_);refine ihB g4 (fun r g4=>?_) (fun r g4=>?_)
    ·refine sq ?_;refine sq (gr fol [2,3,6,7] [(40,.bool (decide (k<n)))] (ac (iv jf ZU c) (ac (lv 0 jm ZU c rfl) (ac (iv jf ZU d) (ac (lv 0 jm ZU d rfl) az)))) ?_);refine ihD g4 (fun g g4=>?_) (fun g g4=>?_)
     ·refine sh fol [(4,.i (-1))] ?_;refine Goes.ret ?_;obtain rfl:=si g4;exact Or.inr (⟨rfl,_,rfl,(gw2 [.i (-1)] (Ua tI))⟩)
     refine Goes.skip ?_;refine sh fol [(4,.i 1)] ?_;refine Goes.ret ?_;obtain rfl:=si g4;exact Or.inr (⟨rfl,_,rfl,(gw2 [.i 1] (Ua tI))⟩)
    refine Goes.skip ?_;refine gh fol ((0,vl ZU a)::(1,vl ZU b)::(kA8 (w64 (e-1)))) ?_;exact⟨M,(ofG 41 ((0,vl ZU a)::(1,vl ZU b)::(kA8 (w64 (e-1)))),[]),Nat.lt_succ_self _,(Sub.refl _),_,rfl,g4⟩
   refine Goes.exit ?_;obtain rfl:=si g4;exact Or.inl (⟨rfl,rfl,(Sub.keep [] rfl rfl)⟩)
 rintro x s' (⟨rfl,rfl,hsub⟩|⟨rfl,t,rfl,hret⟩)
 ·try dsimp only at h
  refine Goes.sub hsub ?_;refine sh fol [(4,.i 0)] ?_;refine Goes.ret ?_;obtain rfl:=si h;exact(gw2 [.i 0] (Ua tI))
 try dsimp only at h
 obtain rfl:=si h;exact hret
def jW (c:List Int) (y:List Int):Nat->(List Int)->Int->Int->Option (List Int)
 |0,_,_,_=>none
 |K+1,d,a,h=>
  if a<(c.length:Int)then
  ((if a<(y.length:Int)then
  (idx y a).bind fun e=>
  some e
  else
  some 0:Option Int)).bind fun i=>
  (idx c a).bind fun f=>
  (qfa f i h).bind fun b=>
  (idx d a).bind fun j=>
  (put d a b.1).bind fun g=>
  jW c y K g (w64 (a+1)) b.2
  else
  some d
def xh (N:Nat) (b:List Int) (y:List Int):Option (List Int):=
 (mk 8 (b.length:Int) 0).bind fun c=>
 (jW b y N c 0 0).bind fun d=>
 (xG N d).bind fun a=>
 some a
theorem qeu (N:Nat) (a:List Int) (y:List Int) {res:List Int} (h:xh N a y=some res):qd ZT (.fn 196) [vl ZU a,vl ZU y] [] (vl ZU res) []:=by
 unfold xh at h;refine Ub Tryz.func196 rfl rfl (m:=41) rfl (rs:=[.tmp 4]) rfl (l:=[(0,vl ZU a),(1,vl ZU y)]) rfl ?_;refine sh fol [(0,vl ZU a),(1,vl ZU y)] ?_;obtain⟨r,v,h⟩:=bnd h;refine sq (gq fol [2] ((0,vl ZU a)::(1,vl ZU y)::(kE r [])) [.cells (r.flatMap ZU.c)] (ac (hs (.run [] (jK ZT 96 (.i (a.length:Int)) (.i (a.length:Int))) [] (.slice 0 0 r.length r.length 1) [.cells (r.flatMap ZU.c)] false) (qd2 jf (E:=ZU) (z:=0) rfl (by kernel_rfl) v rfl)) az) ?_);refine sh fol ((0,vl ZU a)::(1,vl ZU y)::(kE r [(6,.int .u64 0)])) ?_;refine sq ?_;refine sh fol ((0,vl ZU a)::(1,vl ZU y)::(kE r [(6,.int .u64 0),(13,.i (a.length:Int)),(14,.i 0)])) ?_;refine Goes.block ?_;obtain⟨D,g6,h⟩:=bnd h;refine Goes.imp (Q:=fun x s'=>(x= .exit 0/\ ∃g,g=D/\Sub s' (ofG 41 (kE g []),[.cells (g.flatMap ZU.c)]))) ?_ ?_
 ·refine Uc (fun M s=> ∃(d:List Int) (b:Int) (q:Int),s=(ofG 41 ((0,vl ZU a)::(1,vl ZU y)::(kE d (kAK q (kAM (a.length:Int) b)))),[.cells (d.flatMap ZU.c)])/\jW a y M d b q=some D) ?_ (m:=N) ⟨_,_,_,rfl,g6⟩;rintro M s ⟨d,b,q,rfl,g6⟩
  cases M with
  |zero=>simp only[jW]at g6;cases g6
  |succ M=>
   rw[jW]at g6;refine sh fol ((0,vl ZU a)::(1,vl ZU y)::(kE d (kAK q [(13,.i (a.length:Int)),(14,.i b),(15,.bool (decide (b<(a.length:Int))))]))) ?_;refine sq ?_;refine ihD g6 (fun F g6=>?_) (fun F g6=>?_)
   ·refine Goes.skip ?_;refine sq (Goes.block ?_);refine sh fol ((0,vl ZU a)::(1,vl ZU y)::(kE d (kAK q ((7,.i b)::(kAM (a.length:Int) b))))) ?_;refine sh fol ((0,vl ZU a)::(1,vl ZU y)::(kE d (kAK q ((7,.i b)::(kBa (kAM (a.length:Int) b)))))) ?_;refine sq ?_;refine sh fol ((0,vl ZU a)::(1,vl ZU y)::(kE d (kAK q ((7,.i b)::(kBa [(13,.i (a.length:Int)),(14,.i b),(20,.bool (decide (b<(y.length:Int))))]))))) ?_;obtain⟨G,g9,g6⟩:=bnd g6;refine Goes.imp (Q:=fun x s'=>(x= .normal/\ ∃w,w=G/\Sub s' (ofG 41 ((0,vl ZU a)::(1,vl ZU y)::(kE d (kAK q ((7,.i b)::(8,.int .u64 w)::(kAM (a.length:Int) b))))),[.cells (d.flatMap ZU.c)]))) ?_ ?_
    ·refine ihD g9 (fun A g9=>?_) (fun A g9=>?_)
     ·obtain⟨B,j,g9⟩:=bnd g9;refine gr fol [2,3] ((0,vl ZU a)::(1,vl ZU y)::(kE d (kAK q ((7,.i b)::(8,.int .u64 B)::(kAM (a.length:Int) b))))) (ac (iv jf ZU j) (ac (lv 0 jm ZU j rfl) az)) ?_;obtain rfl:=si g9;exact⟨rfl,_,rfl,(Sub.refl _)⟩
     refine Goes.skip ?_;obtain rfl:=si g9;exact⟨rfl,_,rfl,(Sub.keep [0,1,5,6,7,8,13,14] rfl rfl)⟩
    rintro x s' ⟨rfl,w,rfl,hsub⟩;refine Goes.sub hsub ?_;obtain⟨C,k,g6⟩:=bnd g6;obtain⟨f,t,g6⟩:=bnd g6;obtain⟨H,n,g6⟩:=bnd g6;obtain⟨e,o,g6⟩:=bnd g6;refine gq fol [4,5,8,12,13] ((0,vl ZU a)::(1,vl ZU y)::(kE d (kAK f.2 (kAM (a.length:Int) b)))) [.cells (e.flatMap ZU.c)] (ac (iv jf ZU k) (ac (lv 0 jm ZU k rfl) (ac (cv (qit C w q t)) (ac (hs (.done (.opt (ql ZT 96 (.slice 0 0 d.length d.length 1) (.i b))) (.ptr 0 ((b:Int).toNat*1+0))) (qa1 jf n)) (ac (hs (.run [0] (qx ZT 222 (.ptr 0 ((b:Int).toNat*1+0)) (.int .u64 f.1)) [.cells (d.flatMap ZU.c)] .undef [.cells (e.flatMap ZU.c)] true) (qaD (E:=ZU) (l:=d) (y:=f.1) rfl (show _=some 1 by kernel_rfl) rfl n rfl rfl rfl rfl rfl o rfl)) az))))) ?_;refine Goes.sub (show Sub (ofG 41 ((0,vl ZU a)::(1,vl ZU y)::(kE d (kAK f.2 (kAM (a.length:Int) b)))),[.cells (e.flatMap ZU.c)]) (ofG 41 ((0,vl ZU a)::(1,vl ZU y)::(kE e (kAK f.2 (kAM (a.length:Int) b)))),[.cells (e.flatMap ZU.c)])from(Sub.norm [] [some 0] rfl rfl (.keep (.same (qg ZU _)) (.keep (.same (qg ZU _)) (.keep (.sliceE rfl (yE o)) (.keep (.same nI) (.keep (.same nI) (.keep (.same nI) .nil)))))) (.ks .nil))) ?_;refine gh fol ((0,vl ZU a)::(1,vl ZU y)::(kE e (kAK f.2 (kAM (a.length:Int) (w64 (b+1)))))) ?_;exact⟨M,(ofG 41 ((0,vl ZU a)::(1,vl ZU y)::(kE e (kAK f.2 (kAM (a.length:Int) (w64 (b+1)))))),[.cells (e.flatMap ZU.c)]),Nat.lt_succ_self _,(Sub.refl _),_,_,_,rfl,g6⟩
   refine Goes.exit ?_;obtain rfl:=si g6;exact⟨rfl,_,rfl,(Sub.keep [5] rfl rfl)⟩
 rintro x s' ⟨rfl,g,rfl,hsub⟩;refine Goes.sub hsub ?_;obtain⟨p,u,h⟩:=bnd h;refine sq (gq fol [1] [(4,vl ZU p)] [.frozen (g.flatMap ZU.c)] (ac (hs (.callF 244 [.slice 0 0 g.length g.length 1] [.cells (g.flatMap ZU.c)] [0] [vl ZU g] (vl ZU p)) (qax (FzL.cons (Fz.sl (E:=ZU) rfl rfl (nl rfl)) FzL.nil) (xV N g u) (qA ZU _ (nl rfl)))) az) ?_);refine Goes.sub (show Sub (ofG 41 [(4,vl ZU p)],[.frozen (g.flatMap ZU.c)]) (ofG 41 [(4,vl ZU p)],[])from(Sub.norm [] [] rfl rfl (.keep (.same (qg ZU _)) .nil) .nil)) ?_;refine Goes.ret ?_;obtain rfl:=si h;exact(gw2 [vl ZU p] (Ua (qA ZU _ (nl rfl))))
def yl (N:Nat) (a:qp) (b:qp):Option qp:=
 (if a.w.isEmpty=true then
 some b.w.isEmpty
 else
 some false:Option Bool).bind fun m=>
 ((if m=true then
 if((decide ((w64 (a.s+b.s))>a.s))==(decide (b.s>0)))=true then
 some (.inr (⟨w64 (a.s+b.s),[]⟩:qp))
 else
 some (.inl ())
 else
 some (.inl ()):Option (Unit⊕qp))).bind (fun
 |(.inl ())=>
 (qO a).bind fun c=>
 (qO b).bind fun d=>
 if(c.1==d.1)=true then
 (qaY N c.2 d.2).bind fun e=>
 (vQ c.1 e).bind fun f=>
 some f
 else
 (vD N c.2 d.2).bind fun g=>
 if g>=0 then
 (xh N c.2 d.2).bind fun h=>
 (vQ c.1 h).bind fun i=>
 some i
 else
 (xh N d.2 c.2).bind fun j=>
 (vQ d.1 j).bind fun k=>
 some k
 |(.inr l)=>
 some l)
theorem qaz (N:Nat) (a:qp) (b:qp) {res:qp} (h:yl N a b=some res):qd ZT (.fn 125) [.agg (nz1 a),.agg (nz1 b)] [] (.agg (nz1 res)) []:=by
 unfold yl at h;refine Ub Tryz.func125 rfl rfl (m:=67) rfl (rs:=[.cell 4 98]) rfl (l:=[(0,.agg (nz1 a)),(1,.agg (nz1 b))]) rfl ?_;refine sg fol (kF []) [.cells (nz1 a),.cells (nz1 b),bZ] ?_;refine sq ?_;refine sq ?_;obtain⟨J,c,h⟩:=bnd h;refine Goes.cut (s':=(ofG 67 (kF [(17,.bool J)]),[.cells (nz1 a),.cells (nz1 b),bZ])) ?_ ?_
 ·rcases wyB c with⟨z,c⟩|⟨z,c⟩
  ·obtain rfl:=si c;exact tr fol [2,3,6] (kF [(17,.bool b.w.isEmpty)]) (ac (hs (.done (.opt (ze ZT .eql 96 (.tmp 11) (.const (.slice none 0 0)) (nvl ZU a.w) .nilslice)) (.bool a.w.isEmpty)) (qa7 qa2)) (ac (gw z) (ac (hs (.done (.opt (ze ZT .eql 96 (.tmp 15) (.const (.slice none 0 0)) (nvl ZU b.w) .nilslice)) (.bool b.w.isEmpty)) (qa7 qa2)) az)))
  obtain rfl:=si c;exact tr fol [2,3] (kF [(17,.bool false)]) (ac (hs (.done (.opt (ze ZT .eql 96 (.tmp 11) (.const (.slice none 0 0)) (nvl ZU a.w) .nilslice)) (.bool a.w.isEmpty)) (qa7 qa2)) (ac (gw z) az))
 obtain⟨H,g4,h⟩:=bnd h;refine Goes.imp (Q:=fun x s'=>(x= .normal/\(.inl ())=H/\Sub s' (ofG 67 (kF []),[.cells (nz1 a),.cells (nz1 b),bZ]))\/(x= .ret/\ ∃I,(.inr I)=H/\jb ZT [.cell 4 98] (.agg (nz1 I)) .ret s')) ?_ ?_
 ·refine ihB g4 (fun K g4=>?_) (fun K g4=>?_)
  ·refine sh fol (kF (kA8 (w64 (a.s+b.s)))) ?_;refine sh fol (kF [(5,.i (w64 (a.s+b.s))),(30,.bool ((decide ((w64 (a.s+b.s))>a.s))==(decide (b.s>0))))]) ?_;refine ihB g4 (fun L g4=>?_) (fun L g4=>?_)
   ·refine sg fol (kAb []) (.cells (nz1 a):: .cells (nz1 b)::(kA7 (w64 (a.s+b.s)))) ?_;refine Goes.ret ?_;obtain rfl:=si g4;exact Or.inr (⟨rfl,_,rfl,(gw2 [.agg [.i (w64 (a.s+b.s)),.nilslice]] (FzW.agg (qj.cons (Ua tI) (qj.cons (FzW.nv0 (E:=ZU)) qj.nil))))⟩)
   refine Goes.skip ?_;obtain rfl:=si g4;exact Or.inl (⟨rfl,rfl,(Sub.keep [2,3,4] rfl rfl)⟩)
  refine Goes.skip ?_;obtain rfl:=si g4;exact Or.inl (⟨rfl,rfl,(Sub.keep [2,3,4] rfl rfl)⟩)
 rintro x s' (⟨rfl,rfl,hsub⟩|⟨rfl,M,rfl,hret⟩)
 ·try dsimp only at h
  refine Goes.sub hsub ?_;obtain⟨d,v,h⟩:=bnd h;refine sq (gr fol [1] (kAV (kAb [(6,.bool d.1),(7,vl ZU d.2)])) (ac (cv (z8 a v)) az) ?_);obtain⟨e,y,h⟩:=bnd h;refine sq (gr fol [1] (kAb [(6,.bool d.1),(7,vl ZU d.2),(8,.bool e.1),(9,vl ZU e.2)]) (ac (cv (z8 b y)) az) ?_);refine sq (Goes.block ?_);refine sh fol (kAb [(6,.bool d.1),(7,vl ZU d.2),(8,.bool e.1),(9,vl ZU e.2),(43,.bool (d.1==e.1))]) ?_;refine ihB h (fun A h=>?_) (fun A h=>?_)
  ·obtain⟨B,k,h⟩:=bnd h;obtain⟨f,o,h⟩:=bnd h;refine sq (gq fol [3,4,5] (kAb []) [.cells (nz1 a),.cells (nz1 b),.cells (nz1 f)] (ac (cv (qhl N d.2 e.2 k)) (ac (cv (qaQ d.1 B o)) (ac (hs (.run [2] (qx ZT 98 (.ptr 2 0) (.agg (nz1 f))) [.cells (nz1 a),.cells (nz1 b),bZ] .undef [.cells (nz1 a),.cells (nz1 b),.cells (nz1 f)] true) (kg (n:=2) (by kernel_rfl) rfl rfl rfl rfl (cac rfl (cac nvc can)) rfl)) az))) ?_);refine Goes.ret ?_;obtain rfl:=si h;exact(gw2 [.agg (nz1 f)] (FzW.agg (qj.cons (Ua tI) (qj.cons (Ua (qE ZU _ (nl rfl))) qj.nil))))
  obtain⟨C,p,h⟩:=bnd h;refine sq (gr fol [2] (kAb [(6,.bool d.1),(7,vl ZU d.2),(8,.bool e.1),(9,vl ZU e.2),(52,.bool (decide (C>=0)))]) (ac (cv (qcj N d.2 e.2 p)) az) ?_);refine ihD h (fun D h=>?_) (fun D h=>?_)
  ·obtain⟨F,q,h⟩:=bnd h;obtain⟨g,r,h⟩:=bnd h;refine sq (gq fol [3,4,5] (kAb []) [.cells (nz1 a),.cells (nz1 b),.cells (nz1 g)] (ac (cv (qeu N d.2 e.2 q)) (ac (cv (qaQ d.1 F r)) (ac (hs (.run [2] (qx ZT 98 (.ptr 2 0) (.agg (nz1 g))) [.cells (nz1 a),.cells (nz1 b),bZ] .undef [.cells (nz1 a),.cells (nz1 b),.cells (nz1 g)] true) (kg (n:=2) (by kernel_rfl) rfl rfl rfl rfl (cac rfl (cac nvc can)) rfl)) az))) ?_);refine Goes.ret ?_;obtain rfl:=si h;exact(gw2 [.agg (nz1 g)] (FzW.agg (qj.cons (Ua tI) (qj.cons (Ua (qE ZU _ (nl rfl))) qj.nil))))
  refine Goes.skip ?_;obtain⟨G,t,h⟩:=bnd h;obtain⟨j,u,h⟩:=bnd h;refine sq (gq fol [3,4,5] (kAb []) [.cells (nz1 a),.cells (nz1 b),.cells (nz1 j)] (ac (cv (qeu N e.2 d.2 t)) (ac (cv (qaQ e.1 G u)) (ac (hs (.run [2] (qx ZT 98 (.ptr 2 0) (.agg (nz1 j))) [.cells (nz1 a),.cells (nz1 b),bZ] .undef [.cells (nz1 a),.cells (nz1 b),.cells (nz1 j)] true) (kg (n:=2) (by kernel_rfl) rfl rfl rfl rfl (cac rfl (cac nvc can)) rfl)) az))) ?_);refine Goes.ret ?_;obtain rfl:=si h;exact(gw2 [.agg (nz1 j)] (FzW.agg (qj.cons (Ua tI) (qj.cons (Ua (qE ZU _ (nl rfl))) qj.nil))))
 try dsimp only at h
 obtain rfl:=si h;exact hret
def xR (N:Nat) (a:qp) (b:qp):Option qp:=
 (zS b).bind fun c=>
 (yl N a c).bind fun d=>
 some d
theorem qeN (N:Nat) (a:qp) (b:qp) {res:qp} (h:xR N a b=some res):qd ZT (.fn 188) [.agg (nz1 a),.agg (nz1 b)] [] (.agg (nz1 res)) []:=by
 unfold xR at h;refine Ub Tryz.func188 rfl rfl (m:=9) rfl (rs:=[.cell 4 98]) rfl (l:=[(0,.agg (nz1 a)),(1,.agg (nz1 b))]) rfl ?_;refine sg fol (kF []) [.cells (nz1 a),.cells (nz1 b),bZ] ?_;obtain⟨f,c,h⟩:=bnd h;obtain⟨e,d,h⟩:=bnd h;refine sq (gq fol [2,3,4] (kAb []) [.cells (nz1 a),.cells (nz1 b),.cells (nz1 e)] (ac (cv (yf b c)) (ac (cv (qaz N a f d)) (ac (hs (.run [2] (qx ZT 98 (.ptr 2 0) (.agg (nz1 e))) [.cells (nz1 a),.cells (nz1 b),bZ] .undef [.cells (nz1 a),.cells (nz1 b),.cells (nz1 e)] true) (kg (n:=2) (by kernel_rfl) rfl rfl rfl rfl (cac rfl (cac nvc can)) rfl)) az))) ?_);refine Goes.ret ?_;obtain rfl:=si h;exact(gw2 [.agg (nz1 e)] (FzW.agg (qj.cons (Ua tI) (qj.cons (Ua (qE ZU _ (nl rfl))) qj.nil))))
def bits_Len64 (a:Int):Option Int:=
 ((if a>=4294967296 then
 some (qC .u64 a 32,32)
 else
 some (a,0):Option (Int×Int))).bind fun(b,f)=>
 ((if b>=65536 then
 some (qC .u64 b 16,w64 (f+16))
 else
 some (b,f):Option (Int×Int))).bind fun(c,g)=>
 ((if c>=256 then
 some (qC .u64 c 8,w64 (g+8))
 else
 some (c,g):Option (Int×Int))).bind fun(h,d)=>
 (idx ([0,1,2,2,3,3,3,3,4,4,4,4,4,4,4,4,5,5,5,5,5,5,5,5,5,5,5,5,5,5,5,5,6,6,6,6,6,6,6,6,6,6,6,6,6,6,6,6,6,6,6,6,6,6,6,6,6,6,6,6,6,6,6,6,7,7,7,7,7,7,7,7,7,7,7,7,7,7,7,7,7,7,7,7,7,7,7,7,7,7,7,7,7,7,7,7,7,7,7,7,7,7,7,7,7,7,7,7,7,7,7,7,7,7,7,7,7,7,7,7,7,7,7,7,7,7,7,7,8,8,8,8,8,8,8,8,8,8,8,8,8,8,8,8,8,8,8,8,8,8,8,8,8,8,8,8,8,8,8,8,8,8,8,8,8,8,8,8,8,8,8,8,8,8,8,8,8,8,8,8,8,8,8,8,8,8,8,8,8,8,8,8,8,8,8,8,8,8,8,8,8,8,8,8,8,8,8,8,8,8,8,8,8,8,8,8,8,8,8,8,8,8,8,8,8,8,8,8,8,8,8,8,8,8,8,8,8,8,8,8,8,8,8,8,8,8,8,8,8,8,8,8,8,8,8,8]:Str) (wrap .u8 h)).bind fun e=>
 some (w64 (d+(w64 (e.toNat:Int))))
theorem qfK (b:Int) {res:Int} (h:bits_Len64 b=some res):qd ZT (.fn 274) [.int .u64 b] [] (.i res) []:=by
 unfold bits_Len64 at h;refine Ub Tryz.func274 rfl rfl (m:=25) rfl (rs:=[.tmp 2]) rfl (l:=(kBN b [])) rfl ?_;refine sh fol (kBN b [(2,.i 0)]) ?_;refine sq ?_;refine sh fol (kBN b ((2,.i 0)::(kBQ (decide (b>=4294967296))))) ?_;obtain⟨p,g3,h⟩:=bnd h;refine Goes.imp (Q:=fun x s'=>(x= .normal/\ ∃c g,(c,g)=p/\Sub s' (ofG 25 (kBN c (kBA g)),[]))) ?_ ?_
 ·refine ihD g3 (fun q g3=>?_) (fun q g3=>?_)
  ·refine sh fol (kBN (qC .u64 b 32) []) ?_;refine gh fol (kBN (qC .u64 b 32) [(2,.i 32)]) ?_;obtain rfl:=si g3;exact⟨rfl,_,_,rfl,(Sub.refl _)⟩
  refine Goes.skip ?_;obtain rfl:=si g3;exact⟨rfl,_,_,rfl,(Sub.keep [0,2] rfl rfl)⟩
 rintro x s' ⟨rfl,c,g,rfl,hsub⟩
 try dsimp only at h
 refine Goes.sub hsub ?_;refine sq ?_;refine sh fol (kBN c ((2,.i g)::(kBY (decide (c>=65536))))) ?_;obtain⟨r,g7,h⟩:=bnd h;refine Goes.imp (Q:=fun x s'=>(x= .normal/\ ∃d j,(d,j)=r/\Sub s' (ofG 25 (kBN d (kBA j)),[]))) ?_ ?_
 ·refine ihD g7 (fun s g7=>?_) (fun s g7=>?_)
  ·refine sh fol (kBN (qC .u64 c 16) (kBA g)) ?_;refine gh fol (kBN (qC .u64 c 16) (kBA (w64 (g+16)))) ?_;obtain rfl:=si g7;exact⟨rfl,_,_,rfl,(Sub.refl _)⟩
  refine Goes.skip ?_;obtain rfl:=si g7;exact⟨rfl,_,_,rfl,(Sub.keep [0,2] rfl rfl)⟩
 rintro x s' ⟨rfl,d,j,rfl,hsub⟩
 try dsimp only at h
 refine Goes.sub hsub ?_;refine sq ?_;refine sh fol (kBN d [(2,.i j),(14,.bool (decide (d>=256)))]) ?_;obtain⟨n,g11,h⟩:=bnd h;refine Goes.imp (Q:=fun x s'=>(x= .normal/\ ∃k a,(k,a)=n/\Sub s' (ofG 25 (kBN k (kBA a)),[]))) ?_ ?_
 ·refine ihD g11 (fun o g11=>?_) (fun o g11=>?_)
  ·refine sh fol (kBN (qC .u64 d 8) (kBA j)) ?_;refine gh fol (kBN (qC .u64 d 8) (kBA (w64 (j+8)))) ?_;obtain rfl:=si g11;exact⟨rfl,_,_,rfl,(Sub.refl _)⟩
  refine Goes.skip ?_;obtain rfl:=si g11;exact⟨rfl,_,_,rfl,(Sub.keep [0,2] rfl rfl)⟩
 rintro x s' ⟨rfl,k,a,rfl,hsub⟩
 try dsimp only at h
 refine Goes.sub hsub ?_;obtain⟨e,f,h⟩:=bnd h;refine sq (gr fol [3] (kBA (w64 (a+(w64 (e.toNat:Int))))) (ac (hs (.done (.opt (yV ZT 9 (.str [0,1,2,2,3,3,3,3,4,4,4,4,4,4,4,4,5,5,5,5,5,5,5,5,5,5,5,5,5,5,5,5,6,6,6,6,6,6,6,6,6,6,6,6,6,6,6,6,6,6,6,6,6,6,6,6,6,6,6,6,6,6,6,6,7,7,7,7,7,7,7,7,7,7,7,7,7,7,7,7,7,7,7,7,7,7,7,7,7,7,7,7,7,7,7,7,7,7,7,7,7,7,7,7,7,7,7,7,7,7,7,7,7,7,7,7,7,7,7,7,7,7,7,7,7,7,7,7,8,8,8,8,8,8,8,8,8,8,8,8,8,8,8,8,8,8,8,8,8,8,8,8,8,8,8,8,8,8,8,8,8,8,8,8,8,8,8,8,8,8,8,8,8,8,8,8,8,8,8,8,8,8,8,8,8,8,8,8,8,8,8,8,8,8,8,8,8,8,8,8,8,8,8,8,8,8,8,8,8,8,8,8,8,8,8,8,8,8,8,8,8,8,8,8,8,8,8,8,8,8,8,8,8,8,8,8,8,8,8,8,8,8,8,8,8,8,8,8,8,8,8,8,8,8,8,8]) (.int .u8 (wrap .u8 k)))) (.int .u8 (e.toNat:Int))) (qau st9 f)) az) ?_);refine Goes.ret ?_;obtain rfl:=si h;exact(gw2 [.i (w64 (a+(w64 (e.toNat:Int))))] (Ua tI))
def bits_LeadingZeros64 (a:Int):Option Int:=
 (bits_Len64 a).bind fun b=>
 some (w64 (64-b))
theorem qbw (a:Int) {res:Int} (h:bits_LeadingZeros64 a=some res):qd ZT (.fn 266) [.int .u64 a] [] (.i res) []:=by
 unfold bits_LeadingZeros64 at h;refine Ub Tryz.func266 rfl rfl (m:=6) rfl (rs:=[.tmp 2]) rfl (l:=(kBN a [])) rfl ?_;refine sh fol (kBN a []) ?_;obtain⟨c,b,h⟩:=bnd h;refine sq (gr fol [1] (kBA (w64 (64-c))) (ac (cv (qfK a b)) az) ?_);refine Goes.ret ?_;obtain rfl:=si h;exact(gw2 [.i (w64 (64-c))] (Ua tI))
def xy (d:Int) (c:Int):Nat->Int->Int->Option Int
 |0,_,_=>none
 |K+1,a,b=>
  (if a>=4294967296 then
  some true
  else
  some (decide ((wrap .u64 (a*(qK .u64 d 4294967295)))>(wrap .u64 ((wrap .u64 (4294967296*b))+(qC .u64 c 32))))):Option Bool).bind fun e=>
  if e=true then
  if(wrap .u64 (b+(qC .u64 d 32)))>=4294967296 then
  some (wrap .u64 (a-1))
  else
  xy d c K (wrap .u64 (a-1)) (wrap .u64 (b+(qC .u64 d 32)))
  else
  some a
def xz (d:Int) (c:Int):Nat->Int->Int->Option Int
 |0,_,_=>none
 |K+1,b,a=>
  (if a>=4294967296 then
  some true
  else
  some (decide ((wrap .u64 (a*(qK .u64 d 4294967295)))>(wrap .u64 ((wrap .u64 (4294967296*b))+(qK .u64 c 4294967295))))):Option Bool).bind fun e=>
  if e=true then
  if(wrap .u64 (b+(qC .u64 d 32)))>=4294967296 then
  some (wrap .u64 (a-1))
  else
  xz d c K (wrap .u64 (b+(qC .u64 d 32))) (wrap .u64 (a-1))
  else
  some a
def qbf (N:Nat) (hi:Int) (lo:Int) (y:Int):Option (Int×Int):=
 ((if y=0 then
 none
 else
 some ():Option Unit)).bind fun _=>
 ((if y<=hi then
 none
 else
 some ():Option Unit)).bind fun _=>
 if hi=0 then
 (qcJ .u64 lo y).bind fun k=>
 (qeP .u64 lo y).bind fun l=>
 some (k,l)
 else
 (bits_LeadingZeros64 y).bind fun f=>
 (qhX .u64 y (wrap .u64 f)).bind fun d=>
 (qhX .u64 hi (wrap .u64 f)).bind fun b=>
 (qk8 .u64 lo (wrap .u64 (64-(wrap .u64 f)))).bind fun c=>
 (qhX .u64 lo (wrap .u64 f)).bind fun a=>
 (qcJ .u64 (orI .u64 b c) (qC .u64 d 32)).bind fun g=>
 (xy d a N g (wrap .u64 ((orI .u64 b c)-(wrap .u64 (g*(qC .u64 d 32)))))).bind fun e=>
 (qcJ .u64 (wrap .u64 ((wrap .u64 ((wrap .u64 ((orI .u64 b c)*4294967296))+(qC .u64 a 32)))-(wrap .u64 (e*d)))) (qC .u64 d 32)).bind fun h=>
 (xz d a N (wrap .u64 ((wrap .u64 ((wrap .u64 ((wrap .u64 ((orI .u64 b c)*4294967296))+(qC .u64 a 32)))-(wrap .u64 (e*d))))-(wrap .u64 (h*(qC .u64 d 32))))) h).bind fun i=>
 (qk8 .u64 (wrap .u64 ((wrap .u64 ((wrap .u64 ((wrap .u64 ((wrap .u64 ((wrap .u64 ((orI .u64 b c)*4294967296))+(qC .u64 a 32)))-(wrap .u64 (e*d))))*4294967296))+(qK .u64 a 4294967295)))-(wrap .u64 (i*d)))) (wrap .u64 f)).bind fun j=>
 some (wrap .u64 ((wrap .u64 (e*4294967296))+i),j)
theorem qfM (N:Nat) (hi:Int) (lo:Int) (y:Int) {res:Int×Int} (h:qbf N hi lo y=some res):qd ZT (.fn 265) (.int .u64 hi::(kBW lo y)) [] (.tuple (kBW res.1 res.2)) []:=by
 unfold qbf at h;refine Ub Tryz.func265 rfl rfl (m:=135) rfl (rs:=[.tmp 6,.tmp 7]) rfl (l:=(kW hi lo [(2,.int .u64 y)])) rfl ?_;refine sh fol (kW hi lo [(2,.int .u64 y)]) ?_;refine sq ?_;refine sh fol (kW hi lo [(2,.int .u64 y),(20,.bool (decide (y=0)))]) ?_;obtain⟨Z,g1,h⟩:=bnd h;refine Goes.imp (Q:=fun x s'=>(x= .normal/\()=Z/\Sub s' (ofG 135 (kW hi lo [(2,.int .u64 y)]),[]))) ?_ ?_
 ·refine ihD g1 (fun c2 g1=>?_) (fun c2 g1=>?_)
  ·cases g1
  refine Goes.skip ?_;obtain rfl:=si g1;exact⟨rfl,rfl,(Sub.keep [0,1,2] rfl rfl)⟩
 rintro x s' ⟨rfl,rfl,hsub⟩;refine Goes.sub hsub ?_;refine sq ?_;refine sh fol (kW hi lo [(2,.int .u64 y),(24,.bool (decide (y<=hi)))]) ?_;obtain⟨r3,g3,h⟩:=bnd h;refine Goes.imp (Q:=fun x s'=>(x= .normal/\()=r3/\Sub s' (ofG 135 (kW hi lo [(2,.int .u64 y)]),[]))) ?_ ?_
 ·refine ihD g3 (fun c4 g3=>?_) (fun c4 g3=>?_)
  ·cases g3
  refine Goes.skip ?_;obtain rfl:=si g3;exact⟨rfl,rfl,(Sub.keep [0,1,2] rfl rfl)⟩
 rintro x s' ⟨rfl,rfl,hsub⟩;refine Goes.sub hsub ?_;refine sq ?_;refine sh fol (kW hi lo [(2,.int .u64 y),(27,.bool (decide (hi=0)))]) ?_;refine ihD h (fun c5 h=>?_) (fun c5 h=>?_)
 ·obtain⟨K,E,h⟩:=bnd h;obtain⟨L,F,h⟩:=bnd h;refine sq (gr fol [2,5] (kAK K (kAg L [])) (ac (hs (.done (.opt (ze ZT .quo 222 (.tmp 28) (.tmp 29) (.int .u64 lo) (.int .u64 y))) (.int .u64 K)) (qcq E)) (ac (hs (.done (.opt (ze ZT .rem 222 (.tmp 31) (.tmp 32) (.int .u64 lo) (.int .u64 y))) (.int .u64 L)) (qga F)) az)) ?_);refine Goes.ret ?_;obtain rfl:=si h;exact(gw2 (kBW K L) (FzW.tuple (qj.cons (Ua tI) (qj.cons (Ua tI) qj.nil))))
 refine Goes.skip ?_;obtain⟨f,G,h⟩:=bnd h;refine sq (gr fol [1] (kW hi lo [(2,.int .u64 y),(8,.int .u64 (wrap .u64 f))]) (ac (cv (qbw y G)) az) ?_);obtain⟨b,H,h⟩:=bnd h;refine sq (gr fol [2] (kW hi lo [(2,.int .u64 b),(8,.int .u64 (wrap .u64 f))]) (ac (hs (.done (.opt (ze ZT .shl 222 (.tmp 37) (.tmp 38) (.int .u64 y) (.int .u64 (wrap .u64 f)))) (.int .u64 b)) (qgI H)) az) ?_);refine sh fol (kW hi lo [(2,.int .u64 b),(8,.int .u64 (wrap .u64 f)),(9,.int .u64 (qC .u64 b 32))]) ?_;refine sh fol (kW hi lo (kJ b (wrap .u64 f) (qC .u64 b 32) (qK .u64 b 4294967295) [])) ?_;obtain⟨c,t,h⟩:=bnd h;obtain⟨d,u,h⟩:=bnd h;refine sq (gr fol [2,6] ((1,.int .u64 lo)::(kJ b (wrap .u64 f) (qC .u64 b 32) (qK .u64 b 4294967295) [(11,.int .u64 (orI .u64 c d))])) (ac (hs (.done (.opt (ze ZT .shl 222 (.tmp 44) (.tmp 45) (.int .u64 hi) (.int .u64 (wrap .u64 f)))) (.int .u64 c)) (qgI t)) (ac (hs (.done (.opt (ze ZT .shr 222 (.tmp 47) (.tmp 49) (.int .u64 lo) (.int .u64 (wrap .u64 (64-(wrap .u64 f)))))) (.int .u64 d)) (qhM u)) az)) ?_);obtain⟨a,v,h⟩:=bnd h;refine sq (gr fol [2] (kJ b (wrap .u64 f) (qC .u64 b 32) (qK .u64 b 4294967295) (kZ (orI .u64 c d) a [])) (ac (hs (.done (.opt (ze ZT .shl 222 (.tmp 52) (.tmp 53) (.int .u64 lo) (.int .u64 (wrap .u64 f)))) (.int .u64 a)) (qgI v)) az) ?_);refine sh fol (kJ b (wrap .u64 f) (qC .u64 b 32) (qK .u64 b 4294967295) (kZ (orI .u64 c d) a [(13,.int .u64 (qC .u64 a 32))])) ?_;refine sh fol (kJ b (wrap .u64 f) (qC .u64 b 32) (qK .u64 b 4294967295) (kAR (orI .u64 c d) (qC .u64 a 32) [(14,.int .u64 (qK .u64 a 4294967295))])) ?_;obtain⟨q,w,h⟩:=bnd h;refine sq (gr fol [2] (kJ b (wrap .u64 f) (qC .u64 b 32) (qK .u64 b 4294967295) (kAR (orI .u64 c d) (qC .u64 a 32) (kA9 (qK .u64 a 4294967295) q []))) (ac (hs (.done (.opt (ze ZT .quo 222 (.tmp 59) (.tmp 60) (.int .u64 (orI .u64 c d)) (.int .u64 (qC .u64 b 32)))) (.int .u64 q)) (qcq w)) az) ?_);refine sh fol (kJ b (wrap .u64 f) (qC .u64 b 32) (qK .u64 b 4294967295) (kAR (orI .u64 c d) (qC .u64 a 32) (kO (qK .u64 a 4294967295) q (wrap .u64 ((orI .u64 c d)-(wrap .u64 (q*(qC .u64 b 32))))) []))) ?_;refine sq (Goes.block ?_);obtain⟨I,g17,h⟩:=bnd h;refine Goes.imp (Q:=fun x s'=>(x= .exit 0/\ ∃e,e=I/\Sub s' (ofG 135 (kJ b (wrap .u64 f) (qC .u64 b 32) (qK .u64 b 4294967295) (kAR (orI .u64 c d) (qC .u64 a 32) (kA9 (qK .u64 a 4294967295) e []))),[]))) ?_ ?_
 ·refine Uc (fun M s=> ∃(j:Int) (g:Int),s=(ofG 135 (kJ b (wrap .u64 f) (qC .u64 b 32) (qK .u64 b 4294967295) (kAR (orI .u64 c d) (qC .u64 a 32) (kO (qK .u64 a 4294967295) j g []))),[])/\xy b a M j g=some I) ?_ (m:=N) ⟨_,_,rfl,g17⟩;rintro M s ⟨j,g,rfl,g17⟩
  cases M with
  |zero=>simp only[xy]at g17;cases g17
  |succ M=>
   rw[xy]at g17;refine sq ?_;refine sq ?_;obtain⟨O,k,g17⟩:=bnd g17;refine Goes.cut (s':=(ofG 135 (kJ b (wrap .u64 f) (qC .u64 b 32) (qK .u64 b 4294967295) (kAR (orI .u64 c d) (qC .u64 a 32) (kO (qK .u64 a 4294967295) j g [(78,.bool O)]))),[])) ?_ ?_
   ·rcases wyD k with⟨z,k⟩|⟨z,k⟩
    ·obtain rfl:=si k;exact tr fol [2] (kJ b (wrap .u64 f) (qC .u64 b 32) (qK .u64 b 4294967295) (kAR (orI .u64 c d) (qC .u64 a 32) (kO (qK .u64 a 4294967295) j g [(78,.bool true)]))) (ac (gw z) az)
    obtain rfl:=si k;exact tr fol [2] (kJ b (wrap .u64 f) (qC .u64 b 32) (qK .u64 b 4294967295) (kAR (orI .u64 c d) (qC .u64 a 32) (kO (qK .u64 a 4294967295) j g [(78,.bool (decide ((wrap .u64 (j*(qK .u64 b 4294967295)))>(wrap .u64 ((wrap .u64 (4294967296*g))+(qC .u64 a 32))))))]))) (ac (gw z) az)
   refine ihB g17 (fun P g17=>?_) (fun P g17=>?_)
   ·refine Goes.skip ?_;refine Goes.block ?_;refine sh fol (kJ b (wrap .u64 f) (qC .u64 b 32) (qK .u64 b 4294967295) (kAR (orI .u64 c d) (qC .u64 a 32) (kO (qK .u64 a 4294967295) (wrap .u64 (j-1)) g []))) ?_;refine sh fol (kJ b (wrap .u64 f) (qC .u64 b 32) (qK .u64 b 4294967295) (kAR (orI .u64 c d) (qC .u64 a 32) (kO (qK .u64 a 4294967295) (wrap .u64 (j-1)) (wrap .u64 (g+(qC .u64 b 32))) []))) ?_;refine sh fol (kJ b (wrap .u64 f) (qC .u64 b 32) (qK .u64 b 4294967295) (kAR (orI .u64 c d) (qC .u64 a 32) (kO (qK .u64 a 4294967295) (wrap .u64 (j-1)) (wrap .u64 (g+(qC .u64 b 32))) [(85,.bool (decide ((wrap .u64 (g+(qC .u64 b 32)))>=4294967296)))]))) ?_;refine ihD g17 (fun U g17=>?_) (fun U g17=>?_)
    ·refine Goes.exit ?_;obtain rfl:=si g17;exact⟨rfl,_,rfl,(Sub.keep [2,8,9,10,11,13,14,15] rfl rfl)⟩
    refine Goes.skip ?_;exact⟨M,(ofG 135 (kJ b (wrap .u64 f) (qC .u64 b 32) (qK .u64 b 4294967295) (kAR (orI .u64 c d) (qC .u64 a 32) (kO (qK .u64 a 4294967295) (wrap .u64 (j-1)) (wrap .u64 (g+(qC .u64 b 32))) []))),[]),Nat.lt_succ_self _,(Sub.keep [2,8,9,10,11,13,14,15,16] rfl rfl),_,_,rfl,g17⟩
   refine Goes.exit ?_;obtain rfl:=si g17;exact⟨rfl,_,rfl,(Sub.keep [2,8,9,10,11,13,14,15] rfl rfl)⟩
 rintro x s' ⟨rfl,e,rfl,hsub⟩;refine Goes.sub hsub ?_;refine sh fol (kJ b (wrap .u64 f) (qC .u64 b 32) (qK .u64 b 4294967295) (kA9 (qK .u64 a 4294967295) e [(17,.int .u64 (wrap .u64 ((wrap .u64 ((wrap .u64 ((orI .u64 c d)*4294967296))+(qC .u64 a 32)))-(wrap .u64 (e*b)))))])) ?_;obtain⟨r,A,h⟩:=bnd h;refine sq (gr fol [2] (kJ b (wrap .u64 f) (qC .u64 b 32) (qK .u64 b 4294967295) (kA9 (qK .u64 a 4294967295) e (kAZ (wrap .u64 ((wrap .u64 ((wrap .u64 ((orI .u64 c d)*4294967296))+(qC .u64 a 32)))-(wrap .u64 (e*b)))) r []))) (ac (hs (.done (.opt (ze ZT .quo 222 (.tmp 94) (.tmp 95) (.int .u64 (wrap .u64 ((wrap .u64 ((wrap .u64 ((orI .u64 c d)*4294967296))+(qC .u64 a 32)))-(wrap .u64 (e*b))))) (.int .u64 (qC .u64 b 32)))) (.int .u64 r)) (qcq A)) az) ?_);refine sh fol (kJ b (wrap .u64 f) (qC .u64 b 32) (qK .u64 b 4294967295) (kO (qK .u64 a 4294967295) e (wrap .u64 ((wrap .u64 ((wrap .u64 ((wrap .u64 ((orI .u64 c d)*4294967296))+(qC .u64 a 32)))-(wrap .u64 (e*b))))-(wrap .u64 (r*(qC .u64 b 32))))) (kAZ (wrap .u64 ((wrap .u64 ((wrap .u64 ((orI .u64 c d)*4294967296))+(qC .u64 a 32)))-(wrap .u64 (e*b)))) r []))) ?_;refine sq (Goes.block ?_);obtain⟨J,g27,h⟩:=bnd h;refine Goes.imp (Q:=fun x s'=>(x= .exit 2/\ ∃p,p=J/\Sub s' (ofG 135 ((2,.int .u64 b)::(8,.int .u64 (wrap .u64 f))::(kA9 (qK .u64 a 4294967295) e (kAZ (wrap .u64 ((wrap .u64 ((wrap .u64 ((orI .u64 c d)*4294967296))+(qC .u64 a 32)))-(wrap .u64 (e*b)))) p []))),[]))) ?_ ?_
 ·refine Uc (fun M s=> ∃(i:Int) (n:Int),s=(ofG 135 (kJ b (wrap .u64 f) (qC .u64 b 32) (qK .u64 b 4294967295) (kO (qK .u64 a 4294967295) e i (kAZ (wrap .u64 ((wrap .u64 ((wrap .u64 ((orI .u64 c d)*4294967296))+(qC .u64 a 32)))-(wrap .u64 (e*b)))) n []))),[])/\xz b a M i n=some J) ?_ (m:=N) ⟨_,_,rfl,g27⟩;rintro M s ⟨i,n,rfl,g27⟩
  cases M with
  |zero=>simp only[xz]at g27;cases g27
  |succ M=>
   rw[xz]at g27;refine sq ?_;refine sq ?_;obtain⟨V,o,g27⟩:=bnd g27;refine Goes.cut (s':=(ofG 135 (kJ b (wrap .u64 f) (qC .u64 b 32) (qK .u64 b 4294967295) (kO (qK .u64 a 4294967295) e i (kAZ (wrap .u64 ((wrap .u64 ((wrap .u64 ((orI .u64 c d)*4294967296))+(qC .u64 a 32)))-(wrap .u64 (e*b)))) n [(113,.bool V)]))),[])) ?_ ?_
   ·rcases wyD o with⟨B,o⟩|⟨B,o⟩
    ·obtain rfl:=si o;exact tr fol [2] (kJ b (wrap .u64 f) (qC .u64 b 32) (qK .u64 b 4294967295) (kO (qK .u64 a 4294967295) e i (kAZ (wrap .u64 ((wrap .u64 ((wrap .u64 ((orI .u64 c d)*4294967296))+(qC .u64 a 32)))-(wrap .u64 (e*b)))) n [(113,.bool true)]))) (ac (gw B) az)
    obtain rfl:=si o;exact tr fol [2] (kJ b (wrap .u64 f) (qC .u64 b 32) (qK .u64 b 4294967295) (kO (qK .u64 a 4294967295) e i (kAZ (wrap .u64 ((wrap .u64 ((wrap .u64 ((orI .u64 c d)*4294967296))+(qC .u64 a 32)))-(wrap .u64 (e*b)))) n [(113,.bool (decide ((wrap .u64 (n*(qK .u64 b 4294967295)))>(wrap .u64 ((wrap .u64 (4294967296*i))+(qK .u64 a 4294967295))))))]))) (ac (gw B) az)
   refine ihB g27 (fun X g27=>?_) (fun X g27=>?_)
   ·refine Goes.skip ?_;refine Goes.block ?_;refine sh fol (kJ b (wrap .u64 f) (qC .u64 b 32) (qK .u64 b 4294967295) (kO (qK .u64 a 4294967295) e i (kAZ (wrap .u64 ((wrap .u64 ((wrap .u64 ((orI .u64 c d)*4294967296))+(qC .u64 a 32)))-(wrap .u64 (e*b)))) (wrap .u64 (n-1)) []))) ?_;refine sh fol (kJ b (wrap .u64 f) (qC .u64 b 32) (qK .u64 b 4294967295) (kO (qK .u64 a 4294967295) e (wrap .u64 (i+(qC .u64 b 32))) (kAZ (wrap .u64 ((wrap .u64 ((wrap .u64 ((orI .u64 c d)*4294967296))+(qC .u64 a 32)))-(wrap .u64 (e*b)))) (wrap .u64 (n-1)) []))) ?_;refine sh fol (kJ b (wrap .u64 f) (qC .u64 b 32) (qK .u64 b 4294967295) (kO (qK .u64 a 4294967295) e (wrap .u64 (i+(qC .u64 b 32))) (kAZ (wrap .u64 ((wrap .u64 ((wrap .u64 ((orI .u64 c d)*4294967296))+(qC .u64 a 32)))-(wrap .u64 (e*b)))) (wrap .u64 (n-1)) [(120,.bool (decide ((wrap .u64 (i+(qC .u64 b 32)))>=4294967296)))]))) ?_;refine ihD g27 (fun Y g27=>?_) (fun Y g27=>?_)
    ·refine Goes.exit ?_;obtain rfl:=si g27;exact⟨rfl,_,rfl,(Sub.keep [2,8,14,15,17,18] rfl rfl)⟩
    refine Goes.skip ?_;exact⟨M,(ofG 135 (kJ b (wrap .u64 f) (qC .u64 b 32) (qK .u64 b 4294967295) (kO (qK .u64 a 4294967295) e (wrap .u64 (i+(qC .u64 b 32))) (kAZ (wrap .u64 ((wrap .u64 ((wrap .u64 ((orI .u64 c d)*4294967296))+(qC .u64 a 32)))-(wrap .u64 (e*b)))) (wrap .u64 (n-1)) []))),[]),Nat.lt_succ_self _,(Sub.keep [2,8,9,10,14,15,16,17,18] rfl rfl),_,_,rfl,g27⟩
   refine Goes.exit ?_;obtain rfl:=si g27;exact⟨rfl,_,rfl,(Sub.keep [2,8,14,15,17,18] rfl rfl)⟩
 rintro x s' ⟨rfl,p,rfl,hsub⟩;refine Goes.sub hsub ?_;obtain⟨C,D,h⟩:=bnd h;refine sq (gr fol [13] (kAK (wrap .u64 ((wrap .u64 (e*4294967296))+p)) (kAg C [])) (ac (hs (.done (.opt (ze ZT .shr 222 (.tmp 132) (.tmp 133) (.int .u64 (wrap .u64 ((wrap .u64 ((wrap .u64 ((wrap .u64 ((wrap .u64 ((wrap .u64 ((orI .u64 c d)*4294967296))+(qC .u64 a 32)))-(wrap .u64 (e*b))))*4294967296))+(qK .u64 a 4294967295)))-(wrap .u64 (p*b))))) (.int .u64 (wrap .u64 f)))) (.int .u64 C)) (qhM D)) az) ?_);refine Goes.ret ?_;obtain rfl:=si h;exact(gw2 (kBW (wrap .u64 ((wrap .u64 (e*4294967296))+p)) C) (FzW.tuple (qj.cons (Ua tI) (qj.cons (Ua tI) qj.nil))))
def bits_Mul64 (a:Int) (y:Int):Option (Int×Int):=
 some (wrap .u64 ((wrap .u64 ((wrap .u64 ((qC .u64 a 32)*(qC .u64 y 32)))+(qC .u64 (wrap .u64 ((wrap .u64 ((qC .u64 a 32)*(qK .u64 y 4294967295)))+(qC .u64 (wrap .u64 ((qK .u64 a 4294967295)*(qK .u64 y 4294967295))) 32))) 32)))+(qC .u64 (wrap .u64 ((qK .u64 (wrap .u64 ((wrap .u64 ((qC .u64 a 32)*(qK .u64 y 4294967295)))+(qC .u64 (wrap .u64 ((qK .u64 a 4294967295)*(qK .u64 y 4294967295))) 32))) 4294967295)+(wrap .u64 ((qK .u64 a 4294967295)*(qC .u64 y 32))))) 32)),wrap .u64 (a*y))
theorem qbY (a:Int) (y:Int) {res:Int×Int} (h:bits_Mul64 a y=some res):qd ZT (.fn 189) (kBW a y) [] (.tuple (kBW res.1 res.2)) []:=by
 unfold bits_Mul64 at h;refine Ub Tryz.func189 rfl rfl (m:=51) rfl (rs:=[.tmp 4,.tmp 5]) rfl (l:=(kW a y [])) rfl ?_;refine sh fol (kW a y []) ?_;refine sh fol (kW a y (kAK (qK .u64 a 4294967295) [])) ?_;refine sh fol (kW a y (kAK (qK .u64 a 4294967295) (kAg (qC .u64 a 32) []))) ?_;refine sh fol (kW a y (kAK (qK .u64 a 4294967295) (kAA (qC .u64 a 32) (qK .u64 y 4294967295) []))) ?_;refine sh fol (kW a y (kAK (qK .u64 a 4294967295) (kAA (qC .u64 a 32) (qK .u64 y 4294967295) [(9,.int .u64 (qC .u64 y 32))]))) ?_;refine sh fol (kW a y (kAK (qK .u64 a 4294967295) (kAA (qC .u64 a 32) (qK .u64 y 4294967295) [(9,.int .u64 (qC .u64 y 32)),(10,.int .u64 (wrap .u64 ((qK .u64 a 4294967295)*(qK .u64 y 4294967295))))]))) ?_;refine sh fol (kW a y (kAK (qK .u64 a 4294967295) (kAg (qC .u64 a 32) [(9,.int .u64 (qC .u64 y 32)),(11,.int .u64 (wrap .u64 ((wrap .u64 ((qC .u64 a 32)*(qK .u64 y 4294967295)))+(qC .u64 (wrap .u64 ((qK .u64 a 4294967295)*(qK .u64 y 4294967295))) 32))))]))) ?_;refine sh fol (kW a y (kAK (qK .u64 a 4294967295) (kAg (qC .u64 a 32) ((9,.int .u64 (qC .u64 y 32))::(kZ (wrap .u64 ((wrap .u64 ((qC .u64 a 32)*(qK .u64 y 4294967295)))+(qC .u64 (wrap .u64 ((qK .u64 a 4294967295)*(qK .u64 y 4294967295))) 32))) (qK .u64 (wrap .u64 ((wrap .u64 ((qC .u64 a 32)*(qK .u64 y 4294967295)))+(qC .u64 (wrap .u64 ((qK .u64 a 4294967295)*(qK .u64 y 4294967295))) 32))) 4294967295) []))))) ?_;refine sh fol (kW a y (kAK (qK .u64 a 4294967295) (kAg (qC .u64 a 32) [(9,.int .u64 (qC .u64 y 32)),(12,.int .u64 (qK .u64 (wrap .u64 ((wrap .u64 ((qC .u64 a 32)*(qK .u64 y 4294967295)))+(qC .u64 (wrap .u64 ((qK .u64 a 4294967295)*(qK .u64 y 4294967295))) 32))) 4294967295)),(13,.int .u64 (qC .u64 (wrap .u64 ((wrap .u64 ((qC .u64 a 32)*(qK .u64 y 4294967295)))+(qC .u64 (wrap .u64 ((qK .u64 a 4294967295)*(qK .u64 y 4294967295))) 32))) 32))]))) ?_;refine sh fol (kW a y (kAg (qC .u64 a 32) [(9,.int .u64 (qC .u64 y 32)),(12,.int .u64 (wrap .u64 ((qK .u64 (wrap .u64 ((wrap .u64 ((qC .u64 a 32)*(qK .u64 y 4294967295)))+(qC .u64 (wrap .u64 ((qK .u64 a 4294967295)*(qK .u64 y 4294967295))) 32))) 4294967295)+(wrap .u64 ((qK .u64 a 4294967295)*(qC .u64 y 32)))))),(13,.int .u64 (qC .u64 (wrap .u64 ((wrap .u64 ((qC .u64 a 32)*(qK .u64 y 4294967295)))+(qC .u64 (wrap .u64 ((qK .u64 a 4294967295)*(qK .u64 y 4294967295))) 32))) 32))])) ?_;refine sh fol (kW a y [(4,.int .u64 (wrap .u64 ((wrap .u64 ((wrap .u64 ((qC .u64 a 32)*(qC .u64 y 32)))+(qC .u64 (wrap .u64 ((wrap .u64 ((qC .u64 a 32)*(qK .u64 y 4294967295)))+(qC .u64 (wrap .u64 ((qK .u64 a 4294967295)*(qK .u64 y 4294967295))) 32))) 32)))+(qC .u64 (wrap .u64 ((qK .u64 (wrap .u64 ((wrap .u64 ((qC .u64 a 32)*(qK .u64 y 4294967295)))+(qC .u64 (wrap .u64 ((qK .u64 a 4294967295)*(qK .u64 y 4294967295))) 32))) 4294967295)+(wrap .u64 ((qK .u64 a 4294967295)*(qC .u64 y 32))))) 32))))]) ?_;refine sh fol [(4,.int .u64 (wrap .u64 ((wrap .u64 ((wrap .u64 ((qC .u64 a 32)*(qC .u64 y 32)))+(qC .u64 (wrap .u64 ((wrap .u64 ((qC .u64 a 32)*(qK .u64 y 4294967295)))+(qC .u64 (wrap .u64 ((qK .u64 a 4294967295)*(qK .u64 y 4294967295))) 32))) 32)))+(qC .u64 (wrap .u64 ((qK .u64 (wrap .u64 ((wrap .u64 ((qC .u64 a 32)*(qK .u64 y 4294967295)))+(qC .u64 (wrap .u64 ((qK .u64 a 4294967295)*(qK .u64 y 4294967295))) 32))) 4294967295)+(wrap .u64 ((qK .u64 a 4294967295)*(qC .u64 y 32))))) 32)))),(5,.int .u64 (wrap .u64 (a*y)))] ?_;refine Goes.ret ?_;obtain rfl:=si h;exact(gw2 (kBW (wrap .u64 ((wrap .u64 ((wrap .u64 ((qC .u64 a 32)*(qC .u64 y 32)))+(qC .u64 (wrap .u64 ((wrap .u64 ((qC .u64 a 32)*(qK .u64 y 4294967295)))+(qC .u64 (wrap .u64 ((qK .u64 a 4294967295)*(qK .u64 y 4294967295))) 32))) 32)))+(qC .u64 (wrap .u64 ((qK .u64 (wrap .u64 ((wrap .u64 ((qC .u64 a 32)*(qK .u64 y 4294967295)))+(qC .u64 (wrap .u64 ((qK .u64 a 4294967295)*(qK .u64 y 4294967295))) 32))) 4294967295)+(wrap .u64 ((qK .u64 a 4294967295)*(qC .u64 y 32))))) 32))) (wrap .u64 (a*y))) (FzW.tuple (qj.cons (Ua tI) (qj.cons (Ua tI) qj.nil))))
def jh (b:List Int) (a:Int):Nat->(List Int)->Int->Option (List Int)
 |0,_,_=>none
 |K+1,f,c=>
  if c<(b.length:Int)then
  (((idx b c).bind fun e=>
  (idx f c).bind fun g=>
  (qhX .u64 e a).bind fun h=>
  (put f c (orI .u64 g h)).bind fun d=>
  if a>0 then
  (qk8 .u64 e (w64 (64-a))).bind fun i=>
  (idx d (w64 (c+1))).bind fun k=>
  (put d (w64 (c+1)) i).bind fun j=>
  some j
  else
  some d:Option (List Int))).bind fun l=>
  jh b a K l (w64 (c+1))
  else
  some f
def xL (N:Nat) (a:List Int) (b:Int):Option (List Int):=
 (mk 8 (w64 ((a.length:Int)+1)) 0).bind fun c=>
 (jh a b N c 0).bind fun d=>
 some d
theorem qde (N:Nat) (a:List Int) (b:Int) {G:List Int} (h:xL N a b=some G):qd ZT (.fn 267) [vl ZU a,.i b] [] (.slice 0 0 G.length G.length 1) [.cells (G.flatMap ZU.c)]:=by
 unfold xL at h;refine Uo Tryz.func267 rfl rfl (m:=40) rfl (rs:=[.tmp 4]) rfl (l:=[(0,vl ZU a),(1,.i b)]) rfl ?_;intro B hB;refine sh fol [(0,vl ZU a),(1,.i b)] ?_;obtain⟨D,F,h⟩:=bnd h;refine sq (gq fol [3] ((0,vl ZU a)::(1,.i b)::(kE D [])) [.cells (D.flatMap ZU.c)] (ac (hs (.run [] (jK ZT 96 (.i (w64 ((a.length:Int)+1))) (.i (w64 ((a.length:Int)+1)))) [] (.slice 0 0 D.length D.length 1) [.cells (D.flatMap ZU.c)] false) (qd2 jf (E:=ZU) (z:=0) rfl (by kernel_rfl) F rfl)) az) ?_);refine sq ?_;refine sh fol ((1,.i b)::(kE D [(12,vl ZU a),(13,.i (a.length:Int)),(14,.i 0)])) ?_;refine Goes.block ?_;obtain⟨I,g6,h⟩:=bnd h;refine Goes.imp (Q:=fun x s'=>(x= .exit 0/\ ∃r,r=I/\Sub s' (ofG 40 (kE r []),[.cells (r.flatMap ZU.c)]))) ?_ ?_
 ·refine Uc (fun M s=> ∃(g:List Int) (d:Int),s=(ofG 40 ((1,.i b)::(kE g ((12,vl ZU a)::(kAM (a.length:Int) d)))),[.cells (g.flatMap ZU.c)])/\jh a b M g d=some I) ?_ (m:=N) ⟨_,_,rfl,g6⟩;rintro M s ⟨g,d,rfl,g6⟩
  cases M with
  |zero=>simp only[jh]at g6;cases g6
  |succ M=>
   rw[jh]at g6;refine sh fol ((1,.i b)::(kE g [(12,vl ZU a),(13,.i (a.length:Int)),(14,.i d),(15,.bool (decide (d<(a.length:Int))))])) ?_;refine sq ?_;refine ihD g6 (fun J g6=>?_) (fun J g6=>?_)
   ·refine Goes.skip ?_;refine sq ?_;obtain⟨K,g9,g6⟩:=bnd g6;refine Goes.imp (Q:=fun x s'=>(x= .normal/\ ∃t,t=K/\Sub s' (ofG 40 ((1,.i b)::(kE t ((12,vl ZU a)::(kAM (a.length:Int) d)))),[.cells (t.flatMap ZU.c)]))) ?_ ?_
    ·refine Goes.block ?_;obtain⟨j,k,g9⟩:=bnd g9;refine sq (gr fol [1,2] ((1,.i b)::(kE g ((6,.i d)::(kAg j ((12,vl ZU a)::(kAM (a.length:Int) d)))))) (ac (iv jf ZU k) (ac (lv 0 jm ZU k rfl) az)) ?_);obtain⟨u,f,g9⟩:=bnd g9;obtain⟨v,w,g9⟩:=bnd g9;obtain⟨e,n,g9⟩:=bnd g9;refine sq (gq fol [2,3,6,8,9] ((1,.i b)::(kE g ((6,.i d)::(kAg j ((12,vl ZU a)::(kAM (a.length:Int) d)))))) [.cells (e.flatMap ZU.c)] (ac (hs (.done (.opt (ql ZT 96 (.slice 0 0 g.length g.length 1) (.i d))) (.ptr 0 ((d:Int).toNat*1+0))) (qa1 jf f)) (ac (hs (.run [0] (jJ ZT 222 (.ptr 0 ((d:Int).toNat*1+0))) [.cells (g.flatMap ZU.c)] (.int .u64 u) [.cells (g.flatMap ZU.c)] false) (qdb jm (E:=ZU) (l:=g) rfl rfl f (nl rfl) rfl)) (ac (hs (.done (.opt (ze ZT .shl 222 (.tmp 23) (.tmp 24) (.int .u64 j) (.i b))) (.int .u64 v)) (qgI w)) (ac (hs (.done (.opt (ql ZT 96 (.slice 0 0 g.length g.length 1) (.i d))) (.ptr 0 ((d:Int).toNat*1+0))) (qa1 jf f)) (ac (hs (.run [0] (qx ZT 222 (.ptr 0 ((d:Int).toNat*1+0)) (.int .u64 (orI .u64 u v))) [.cells (g.flatMap ZU.c)] .undef [.cells (e.flatMap ZU.c)] true) (qaD (E:=ZU) (l:=g) (y:=orI .u64 u v) rfl (show _=some 1 by kernel_rfl) rfl f rfl rfl rfl rfl rfl n rfl)) az))))) ?_);refine Goes.sub (show Sub (ofG 40 ((1,.i b)::(kE g ((6,.i d)::(kAg j ((12,vl ZU a)::(kAM (a.length:Int) d)))))),[.cells (e.flatMap ZU.c)]) (ofG 40 ((1,.i b)::(kE e ((6,.i d)::(kAg j ((12,vl ZU a)::(kAM (a.length:Int) d)))))),[.cells (e.flatMap ZU.c)])from(Sub.norm [] [some 0] (by rw[hB];rfl) rfl (.keep (.same nI) (.keep (.sliceE rfl (yE n)) (.keep (.same nI) (.keep (.same nI) (.keep (.same (qg ZU _)) (.keep (.same nI) (.keep (.same nI) .nil))))))) (.ks .nil))) ?_;refine sh fol ((1,.i b)::(kE e ((6,.i d)::(kAg j [(12,vl ZU a),(13,.i (a.length:Int)),(14,.i d),(29,.bool (decide (b>0)))])))) ?_;refine ihD g9 (fun H g9=>?_) (fun H g9=>?_)
     ·obtain⟨A,C,g9⟩:=bnd g9;obtain⟨L,o,g9⟩:=bnd g9;obtain⟨p,q,g9⟩:=bnd g9;refine gq fol [6,7,8] ((1,.i b)::(kE e ((12,vl ZU a)::(kAM (a.length:Int) d)))) [.cells (p.flatMap ZU.c)] (ac (hs (.done (.opt (ze ZT .shr 222 (.tmp 33) (.tmp 35) (.int .u64 j) (.i (w64 (64-b))))) (.int .u64 A)) (qhM C)) (ac (hs (.done (.opt (ql ZT 96 (.slice 0 0 e.length e.length 1) (.i (w64 (d+1))))) (.ptr 0 ((w64 (d+1):Int).toNat*1+0))) (qa1 jf o)) (ac (hs (.run [0] (qx ZT 222 (.ptr 0 ((w64 (d+1):Int).toNat*1+0)) (.int .u64 A)) [.cells (e.flatMap ZU.c)] .undef [.cells (p.flatMap ZU.c)] true) (qaD (E:=ZU) (l:=e) (y:=A) rfl (show _=some 1 by kernel_rfl) rfl o rfl rfl rfl rfl rfl q rfl)) az))) ?_;obtain rfl:=si g9;exact⟨rfl,_,rfl,((show Sub (ofG 40 ((1,.i b)::(kE e ((12,vl ZU a)::(kAM (a.length:Int) d)))),[.cells (p.flatMap ZU.c)]) (ofG 40 ((1,.i b)::(kE p ((12,vl ZU a)::(kAM (a.length:Int) d)))),[.cells (p.flatMap ZU.c)])from(Sub.norm [] [some 0] (by rw[hB];rfl) rfl (.keep (.same nI) (.keep (.sliceE rfl (yE q)) (.keep (.same (qg ZU _)) (.keep (.same nI) (.keep (.same nI) .nil))))) (.ks .nil))).trans (Sub.refl _))⟩
     refine Goes.skip ?_;obtain rfl:=si g9;exact⟨rfl,_,rfl,(Sub.keep [1,5,12,13,14] rfl rfl)⟩
    rintro x s' ⟨rfl,t,rfl,hsub⟩;refine Goes.sub hsub ?_;refine gh fol ((1,.i b)::(kE t ((12,vl ZU a)::(kAM (a.length:Int) (w64 (d+1)))))) ?_;exact⟨M,(ofG 40 ((1,.i b)::(kE t ((12,vl ZU a)::(kAM (a.length:Int) (w64 (d+1)))))),[.cells (t.flatMap ZU.c)]),Nat.lt_succ_self _,(Sub.refl _),_,_,rfl,g6⟩
   refine Goes.exit ?_;obtain rfl:=si g6;exact⟨rfl,_,rfl,(Sub.keep [5] rfl rfl)⟩
 rintro x s' ⟨rfl,r,rfl,hsub⟩;refine Goes.sub hsub ?_;refine sh fol [(4,.slice 0 0 r.length r.length 1)] ?_;refine Goes.ret ?_;obtain rfl:=si h;exact(gh2 [.slice 0 0 r.length r.length 1] (qed.refl _ _))
def yX (e:List Int) (f:Nat) (g:Nat) (a:List Int):Nat->Int->Int->Int->Option Int
 |0,_,_,_=>none
 |K+1,b,c,i=>
  if i=0 then
  (idx a (w64 ((a.length:Int)-2))).bind fun j=>
  (bits_Mul64 b j).bind fun d=>
  (if d.1<c then
  some true
  else
  if d.1=c then
  (qf7 e f g (w64 ((a.length:Int)-2))).bind fun k=>
  some (decide (d.2<=k))
  else
  some false:Option Bool).bind fun l=>
  if l=true then
  some b
  else
  (idx a (w64 ((a.length:Int)-1))).bind fun m=>
  (qar c m 0).bind fun h=>
  yX e f g a K (wrap .u64 (b-1)) h.1 h.2
  else
  some b
def yg (b:Nat) (e:Nat) (c:List Int) (f:Int):Nat->(List Int)->Int->Int->Int->Option ((List Int)×Int×Int)
 |0,_,_,_,_=>none
 |K+1,d,a,g,h=>
  if a<(c.length:Int)then
  (idx c a).bind fun l=>
  (bits_Mul64 f l).bind fun i=>
  (qar i.2 h 0).bind fun j=>
  (qf7 d b e a).bind fun m=>
  (qfa m j.1 g).bind fun k=>
  (put d ((b+(a:Int).toNat:Nat):Int) k.1).bind fun n=>
  yg b e c f K n (w64 (a+1)) k.2 (wrap .u64 (i.1+j.2))
  else
  some (d,g,h)
def yj (b:Nat) (e:Nat) (c:List Int):Nat->(List Int)->Int->Int->Option ((List Int)×Int)
 |0,_,_,_=>none
 |K+1,d,a,f=>
  if a<(c.length:Int)then
  (qf7 d b e a).bind fun h=>
  (idx c a).bind fun i=>
  (qar h i f).bind fun g=>
  (put d ((b+(a:Int).toNat:Nat):Int) g.1).bind fun j=>
  yj b e c K j (w64 (a+1)) g.2
  else
  some (d,f)
def qb3 (N:Nat) (d:List Int) (b:Nat) (c:Nat) (v:Nat) (a:List Int):Option ((List Int)×Int):=
 (qf7 d b c (a.length:Int)).bind fun u=>
 (idx a (w64 ((a.length:Int)-1))).bind fun l=>
 ((if u>=l then
 (qf7 d b c (w64 ((a.length:Int)-1))).bind fun m=>
 (qar m l 0).bind fun f=>
 some (18446744073709551615,f.1,f.2)
 else
 (qf7 d b c (w64 ((a.length:Int)-1))).bind fun n=>
 (qbf N u n l).bind fun g=>
 some (g.1,g.2,0):Option (Int×Int×Int))).bind fun(w,x,y)=>
 (yX d b c a N w x y).bind fun e=>
 (yg b c a e N d 0 0 0).bind fun(h,o,p)=>
 (qf7 h b c (a.length:Int)).bind fun q=>
 (qfa q p o).bind fun i=>
 (put h ((b+((a.length:Int):Int).toNat:Nat):Int) i.1).bind fun j=>
 if i.2=0 then
 some (j,e)
 else
 (yj b c a N j 0 0).bind fun(k,r)=>
 (qf7 k b c (a.length:Int)).bind fun s=>
 (put k ((b+((a.length:Int):Int).toNat:Nat):Int) (wrap .u64 (s+r))).bind fun t=>
 some (t,wrap .u64 (e-1))
theorem qig (N:Nat) (j:List Int) (b:Nat) (d:Nat) (e:Nat) (a:List Int) {l1:List Int} {n2:Int} (h:qb3 N j b d e a=some (l1,n2)):qd ZT (.fn 268) [.slice 0 b d e 1,vl ZU a] [.cells (j.flatMap ZU.c)] (.int .u64 n2) [.cells (l1.flatMap ZU.c)]:=by
 unfold qb3 at h;refine Uo Tryz.func268 rfl rfl (m:=186) rfl (rs:=[.tmp 4]) rfl (l:=[(0,.slice 0 b d e 1),(1,vl ZU a)]) rfl ?_;intro B hB;refine sh fol [(0,.slice 0 b d e 1),(1,vl ZU a)] ?_;refine sh fol ((0,.slice 0 b d e 1)::(1,vl ZU a)::(kA8 (a.length:Int))) ?_;refine sh fol ((0,.slice 0 b d e 1)::(1,vl ZU a)::(kA8 (a.length:Int))) ?_;refine sh fol ((0,.slice 0 b d e 1)::(1,vl ZU a)::(5,.i (a.length:Int))::(kBa [])) ?_;refine sq ?_;obtain⟨x3,O,h⟩:=bnd h;obtain⟨x4,w,h⟩:=bnd h;refine sq (gr fol [2,3,7,8] ((0,.slice 0 b d e 1)::(1,vl ZU a)::(5,.i (a.length:Int))::(kBa [(30,.bool (decide (x3>=x4)))])) (ac (hs (.done (.opt (ql ZT 96 (.slice 0 b d e 1) (.i (a.length:Int)))) (.ptr 0 ((((b+((a.length:Int):Int).toNat:Nat):Int):Int).toNat*1+0))) (qdT jf O)) (ac (hs (.run [0] (jJ ZT 222 (.ptr 0 ((((b+((a.length:Int):Int).toNat:Nat):Int):Int).toNat*1+0))) [.cells (j.flatMap ZU.c)] (.int .u64 x3) [.cells (j.flatMap ZU.c)] false) (qdb jm (E:=ZU) (l:=j) rfl rfl (wI O) (nl rfl) rfl)) (ac (iv jf ZU w) (ac (lv 0 jm ZU w rfl) az)))) ?_);obtain⟨r8,g8,h⟩:=bnd h;refine Goes.imp (Q:=fun x s'=>(x= .normal/\ ∃n5 n6 n7,(n5,n6,n7)=r8/\Sub s' (ofG 186 ((0,.slice 0 b d e 1)::(1,vl ZU a)::(kS (a.length:Int) n5 (kAA n6 n7 []))),[.cells (j.flatMap ZU.c)]))) ?_ ?_
 ·refine ihD g8 (fun c9 g8=>?_) (fun c9 g8=>?_)
  ·refine sh fol [(0,.slice 0 b d e 1),(1,vl ZU a),(5,.i (a.length:Int)),(6,.int .u64 18446744073709551615)] ?_;obtain⟨d0,V,g8⟩:=bnd g8;obtain⟨d1,b3,g8⟩:=bnd g8;refine gr fol [3,4,8,9,10] ((0,.slice 0 b d e 1)::(1,vl ZU a)::(5,.i (a.length:Int))::(6,.int .u64 18446744073709551615)::(kAA d1.1 d1.2 [])) (ac (hs (.done (.opt (ql ZT 96 (.slice 0 b d e 1) (.i (w64 ((a.length:Int)-1))))) (.ptr 0 ((((b+(w64 ((a.length:Int)-1):Int).toNat:Nat):Int):Int).toNat*1+0))) (qdT jf V)) (ac (hs (.run [0] (jJ ZT 222 (.ptr 0 ((((b+(w64 ((a.length:Int)-1):Int).toNat:Nat):Int):Int).toNat*1+0))) [.cells (j.flatMap ZU.c)] (.int .u64 d0) [.cells (j.flatMap ZU.c)] false) (qdb jm (E:=ZU) (l:=j) rfl rfl (wI V) (nl rfl) rfl)) (ac (iv jf ZU w) (ac (lv 0 jm ZU w rfl) (ac (cv (qcP d0 x4 0 b3)) az))))) ?_;obtain rfl:=si g8;exact⟨rfl,_,_,_,rfl,(Sub.refl _)⟩
  obtain⟨d2,X,g8⟩:=bnd g8;obtain⟨d3,b4,g8⟩:=bnd g8;refine gr fol [2,3,7,8,12,13,14] ((0,.slice 0 b d e 1)::(1,vl ZU a)::(kS (a.length:Int) d3.1 (kAg d3.2 (kBa [])))) (ac (hs (.done (.opt (ql ZT 96 (.slice 0 b d e 1) (.i (a.length:Int)))) (.ptr 0 ((((b+((a.length:Int):Int).toNat:Nat):Int):Int).toNat*1+0))) (qdT jf O)) (ac (hs (.run [0] (jJ ZT 222 (.ptr 0 ((((b+((a.length:Int):Int).toNat:Nat):Int):Int).toNat*1+0))) [.cells (j.flatMap ZU.c)] (.int .u64 x3) [.cells (j.flatMap ZU.c)] false) (qdb jm (E:=ZU) (l:=j) rfl rfl (wI O) (nl rfl) rfl)) (ac (hs (.done (.opt (ql ZT 96 (.slice 0 b d e 1) (.i (w64 ((a.length:Int)-1))))) (.ptr 0 ((((b+(w64 ((a.length:Int)-1):Int).toNat:Nat):Int):Int).toNat*1+0))) (qdT jf X)) (ac (hs (.run [0] (jJ ZT 222 (.ptr 0 ((((b+(w64 ((a.length:Int)-1):Int).toNat:Nat):Int):Int).toNat*1+0))) [.cells (j.flatMap ZU.c)] (.int .u64 d2) [.cells (j.flatMap ZU.c)] false) (qdb jm (E:=ZU) (l:=j) rfl rfl (wI X) (nl rfl) rfl)) (ac (iv jf ZU w) (ac (lv 0 jm ZU w rfl) (ac (cv (qfM N x3 d2 x4 b4)) az))))))) ?_;obtain rfl:=si g8;exact⟨rfl,_,_,_,rfl,(Sub.refl _)⟩
 rintro x s' ⟨rfl,n5,n6,n7,rfl,hsub⟩
 try dsimp only at h
 refine Goes.sub hsub ?_;refine sq (Goes.block ?_);obtain⟨d4,g19,h⟩:=bnd h;refine Goes.imp (Q:=fun x s'=>(x= .exit 0/\ ∃f,f=d4/\Sub s' (ofG 186 ((0,.slice 0 b d e 1)::(1,vl ZU a)::(kS (a.length:Int) f [])),[.cells (j.flatMap ZU.c)]))) ?_ ?_
 ·refine Uc (fun M s=> ∃(q:Int) (t:Int) (a6:Int),s=(ofG 186 ((0,.slice 0 b d e 1)::(1,vl ZU a)::(kS (a.length:Int) q (kAA t a6 []))),[.cells (j.flatMap ZU.c)])/\yX j b d a M q t a6=some d4) ?_ (m:=N) ⟨_,_,_,rfl,g19⟩;rintro M s ⟨q,t,a6,rfl,g19⟩
  cases M with
  |zero=>simp only[yX]at g19;cases g19
  |succ M=>
   rw[yX]at g19;refine sq ?_;refine sh fol ((0,.slice 0 b d e 1)::(1,vl ZU a)::(kS (a.length:Int) q (kAg t [(64,.bool (decide (a6=0)))]))) ?_;refine ihD g19 (fun c20 g19=>?_) (fun c20 g19=>?_)
   ·refine Goes.skip ?_;refine Goes.block ?_;obtain⟨x21,Y,g19⟩:=bnd g19;obtain⟨b5,b6,g19⟩:=bnd g19;refine sq (gr fol [4,5,6] ((0,.slice 0 b d e 1)::(1,vl ZU a)::(kS (a.length:Int) q (kAg t [(9,.int .u64 b5.1),(10,.int .u64 b5.2)]))) (ac (iv jf ZU Y) (ac (lv 0 jm ZU Y rfl) (ac (cv (qbY q x21 b6)) az))) ?_);refine sq ?_;refine sq ?_;obtain⟨b26,k,g19⟩:=bnd g19;refine Goes.cut (s':=(ofG 186 ((0,.slice 0 b d e 1)::(1,vl ZU a)::(kS (a.length:Int) q (kAg t [(91,.bool b26)]))),[.cells (j.flatMap ZU.c)])) ?_ ?_
    ·rcases wyD k with⟨a7,k⟩|⟨a7,k⟩
     ·obtain rfl:=si k;exact tr fol [3] ((0,.slice 0 b d e 1)::(1,vl ZU a)::(kS (a.length:Int) q (kAg t [(91,.bool true)]))) (ac (gw a7) az)
     rcases wyD k with⟨b7,k⟩|⟨b7,k⟩
     ·obtain⟨d5,Z,k⟩:=bnd k;obtain rfl:=si k;exact tr fol [3,7,12,13] ((0,.slice 0 b d e 1)::(1,vl ZU a)::(kS (a.length:Int) q (kAg t [(91,.bool (decide (b5.2<=d5)))]))) (ac (gw a7) (ac (gw b7) (ac (hs (.done (.opt (ql ZT 96 (.slice 0 b d e 1) (.i (w64 ((a.length:Int)-2))))) (.ptr 0 ((((b+(w64 ((a.length:Int)-2):Int).toNat:Nat):Int):Int).toNat*1+0))) (qdT jf Z)) (ac (hs (.run [0] (jJ ZT 222 (.ptr 0 ((((b+(w64 ((a.length:Int)-2):Int).toNat:Nat):Int):Int).toNat*1+0))) [.cells (j.flatMap ZU.c)] (.int .u64 d5) [.cells (j.flatMap ZU.c)] false) (qdb jm (E:=ZU) (l:=j) rfl rfl (wI Z) (nl rfl) rfl)) az))))
     obtain rfl:=si k;exact tr fol [3,7] ((0,.slice 0 b d e 1)::(1,vl ZU a)::(kS (a.length:Int) q (kAg t [(91,.bool false)]))) (ac (gw a7) (ac (gw b7) az))
    refine ihB g19 (fun c28 g19=>?_) (fun c28 g19=>?_)
    ·refine Goes.exit ?_;obtain rfl:=si g19;exact⟨rfl,_,rfl,(Sub.keep [0,1,5,6] rfl rfl)⟩
    refine Goes.skip ?_;refine sh fol ((0,.slice 0 b d e 1)::(1,vl ZU a)::(kS (a.length:Int) (wrap .u64 (q-1)) (kAg t []))) ?_;obtain⟨x29,a0,g19⟩:=bnd g19;obtain⟨a8,b8,g19⟩:=bnd g19;refine gr fol [4,5,6] ((0,.slice 0 b d e 1)::(1,vl ZU a)::(kS (a.length:Int) (wrap .u64 (q-1)) (kAA a8.1 a8.2 []))) (ac (iv jf ZU a0) (ac (lv 0 jm ZU a0 rfl) (ac (cv (qcP t x29 0 b8)) az))) ?_;exact⟨M,(ofG 186 ((0,.slice 0 b d e 1)::(1,vl ZU a)::(kS (a.length:Int) (wrap .u64 (q-1)) (kAA a8.1 a8.2 []))),[.cells (j.flatMap ZU.c)]),Nat.lt_succ_self _,(Sub.refl _),_,_,_,rfl,g19⟩
   refine Goes.exit ?_;obtain rfl:=si g19;exact⟨rfl,_,rfl,(Sub.keep [0,1,5,6] rfl rfl)⟩
 rintro x s' ⟨rfl,f,rfl,hsub⟩;refine Goes.sub hsub ?_;refine sh fol ((0,.slice 0 b d e 1)::(1,vl ZU a)::(kS (a.length:Int) f [(11,.int .u64 0),(12,.int .u64 0)])) ?_;refine sq ?_;refine sh fol ((0,.slice 0 b d e 1)::(1,vl ZU a)::(kS (a.length:Int) f [(11,.int .u64 0),(12,.int .u64 0),(104,.i (a.length:Int)),(105,.i 0)])) ?_;refine Goes.block ?_;obtain⟨d6,n,h⟩:=bnd h;refine Goes.imp (Q:=fun x s'=>(x= .exit 2/\ ∃F a9 b0,(F,a9,b0)=d6/\Sub s' (ofG 186 ((0,.slice 0 b d e 1)::(1,vl ZU a)::(kS (a.length:Int) f (kZ a9 b0 []))),[.cells (F.flatMap ZU.c)]))) ?_ ?_
 ·refine Uc (fun M s=> ∃(G:List Int) (g:Int) (u:Int) (H:Int),s=(ofG 186 ((0,.slice 0 b d e 1)::(1,vl ZU a)::(kS (a.length:Int) f (kZ u H (kAw (a.length:Int) g)))),[.cells (G.flatMap ZU.c)])/\yg b d a f M G g u H=some d6) ?_ (m:=N) ⟨_,_,_,_,rfl,n⟩;rintro M s ⟨G,g,u,H,rfl,n⟩
  cases M with
  |zero=>simp only[yg]at n;cases n
  |succ M=>
   rw[yg]at n;refine sh fol ((0,.slice 0 b d e 1)::(1,vl ZU a)::(kS (a.length:Int) f (kZ u H [(104,.i (a.length:Int)),(105,.i g),(106,.bool (decide (g<(a.length:Int))))]))) ?_;refine sq ?_;refine ihD n (fun c39 n=>?_) (fun c39 n=>?_)
   ·refine Goes.skip ?_;refine sq (Goes.block ?_);refine sh fol ((0,.slice 0 b d e 1)::(1,vl ZU a)::(kS (a.length:Int) f (kZ u H ((13,.i g)::(kAw (a.length:Int) g))))) ?_;obtain⟨x40,a1,n⟩:=bnd n;obtain⟨r,b9,n⟩:=bnd n;refine sq (gr fol [3,4,5] ((0,.slice 0 b d e 1)::(1,vl ZU a)::(kS (a.length:Int) f (kZ u H ((13,.i g)::(kA9 r.1 r.2 (kAw (a.length:Int) g)))))) (ac (iv jf ZU a1) (ac (lv 0 jm ZU a1 rfl) (ac (cv (qbY f x40 b9)) az))) ?_);refine sh fol ((0,.slice 0 b d e 1)::(1,vl ZU a)::(kS (a.length:Int) f (kZ u H ((13,.i g)::(kA9 r.1 r.2 (kAw (a.length:Int) g)))))) ?_;obtain⟨v,c0,n⟩:=bnd n;refine sq (gr fol [2] ((0,.slice 0 b d e 1)::(1,vl ZU a)::(kS (a.length:Int) f ((11,.int .u64 u)::(13,.i g)::(kO r.1 v.1 v.2 (kAw (a.length:Int) g))))) (ac (cv (qcP r.2 H 0 c0)) az) ?_);refine sh fol ((0,.slice 0 b d e 1)::(1,vl ZU a)::(kS (a.length:Int) f (kZ u (wrap .u64 (r.1+v.2)) ((13,.i g)::(15,.int .u64 v.1)::(kAw (a.length:Int) g))))) ?_;obtain⟨d7,z,n⟩:=bnd n;obtain⟨K,c1,n⟩:=bnd n;obtain⟨a2,c2,n⟩:=bnd n;refine gq fol [4,5,8,12,13] ((0,.slice 0 b d e 1)::(1,vl ZU a)::(kS (a.length:Int) f (kZ K.2 (wrap .u64 (r.1+v.2)) (kAw (a.length:Int) g)))) [.cells (a2.flatMap ZU.c)] (ac (hs (.done (.opt (ql ZT 96 (.slice 0 b d e 1) (.i g))) (.ptr 0 ((((b+(g:Int).toNat:Nat):Int):Int).toNat*1+0))) (qdT jf z)) (ac (hs (.run [0] (jJ ZT 222 (.ptr 0 ((((b+(g:Int).toNat:Nat):Int):Int).toNat*1+0))) [.cells (G.flatMap ZU.c)] (.int .u64 d7) [.cells (G.flatMap ZU.c)] false) (qdb jm (E:=ZU) (l:=G) rfl rfl (wI z) (nl rfl) rfl)) (ac (cv (qit d7 v.1 u c1)) (ac (hs (.done (.opt (ql ZT 96 (.slice 0 b d e 1) (.i g))) (.ptr 0 ((((b+(g:Int).toNat:Nat):Int):Int).toNat*1+0))) (qdT jf z)) (ac (hs (.run [0] (qx ZT 222 (.ptr 0 ((((b+(g:Int).toNat:Nat):Int):Int).toNat*1+0)) (.int .u64 K.1)) [.cells (G.flatMap ZU.c)] .undef [.cells (a2.flatMap ZU.c)] true) (qaD (E:=ZU) (l:=G) (y:=K.1) rfl (show _=some 1 by kernel_rfl) rfl (wI z) rfl rfl rfl rfl rfl c2 rfl)) az))))) ?_;refine Goes.sub (show Sub (ofG 186 ((0,.slice 0 b d e 1)::(1,vl ZU a)::(kS (a.length:Int) f (kZ K.2 (wrap .u64 (r.1+v.2)) (kAw (a.length:Int) g)))),[.cells (a2.flatMap ZU.c)]) (ofG 186 ((0,.slice 0 b d e 1)::(1,vl ZU a)::(kS (a.length:Int) f (kZ K.2 (wrap .u64 (r.1+v.2)) (kAw (a.length:Int) g)))),[.cells (a2.flatMap ZU.c)])from(Sub.norm [] [some 0] (by rw[hB];rfl) rfl (.keep (.slice rfl) (.keep (.same (qg ZU _)) (.keep (.same nI) (.keep (.same nI) (.keep (.same nI) (.keep (.same nI) (.keep (.same nI) (.keep (.same nI) .nil)))))))) (.ks .nil))) ?_;refine gh fol ((0,.slice 0 b d e 1)::(1,vl ZU a)::(kS (a.length:Int) f (kZ K.2 (wrap .u64 (r.1+v.2)) (kAw (a.length:Int) (w64 (g+1)))))) ?_;exact⟨M,(ofG 186 ((0,.slice 0 b d e 1)::(1,vl ZU a)::(kS (a.length:Int) f (kZ K.2 (wrap .u64 (r.1+v.2)) (kAw (a.length:Int) (w64 (g+1)))))),[.cells (a2.flatMap ZU.c)]),Nat.lt_succ_self _,(Sub.refl _),_,_,_,_,rfl,n⟩
   refine Goes.exit ?_;obtain rfl:=si n;exact⟨rfl,_,_,_,rfl,(Sub.keep [0,1,5,6,11,12] rfl rfl)⟩
 rintro x s' ⟨rfl,F,a9,b0,rfl,hsub⟩
 try dsimp only at h
 refine Goes.sub hsub ?_;obtain⟨d8,A,h⟩:=bnd h;obtain⟨P,c3,h⟩:=bnd h;obtain⟨b1,c4,h⟩:=bnd h;refine sq (gq fol [4,5,8,12,13] ((0,.slice 0 b d e 1)::(1,vl ZU a)::(kS (a.length:Int) f [(11,.int .u64 P.2)])) [.cells (b1.flatMap ZU.c)] (ac (hs (.done (.opt (ql ZT 96 (.slice 0 b d e 1) (.i (a.length:Int)))) (.ptr 0 ((((b+((a.length:Int):Int).toNat:Nat):Int):Int).toNat*1+0))) (qdT jf A)) (ac (hs (.run [0] (jJ ZT 222 (.ptr 0 ((((b+((a.length:Int):Int).toNat:Nat):Int):Int).toNat*1+0))) [.cells (F.flatMap ZU.c)] (.int .u64 d8) [.cells (F.flatMap ZU.c)] false) (qdb jm (E:=ZU) (l:=F) rfl rfl (wI A) (nl rfl) rfl)) (ac (cv (qit d8 b0 a9 c3)) (ac (hs (.done (.opt (ql ZT 96 (.slice 0 b d e 1) (.i (a.length:Int)))) (.ptr 0 ((((b+((a.length:Int):Int).toNat:Nat):Int):Int).toNat*1+0))) (qdT jf A)) (ac (hs (.run [0] (qx ZT 222 (.ptr 0 ((((b+((a.length:Int):Int).toNat:Nat):Int):Int).toNat*1+0)) (.int .u64 P.1)) [.cells (F.flatMap ZU.c)] .undef [.cells (b1.flatMap ZU.c)] true) (qaD (E:=ZU) (l:=F) (y:=P.1) rfl (show _=some 1 by kernel_rfl) rfl (wI A) rfl rfl rfl rfl rfl c4 rfl)) az))))) ?_);refine Goes.sub (show Sub (ofG 186 ((0,.slice 0 b d e 1)::(1,vl ZU a)::(kS (a.length:Int) f [(11,.int .u64 P.2)])),[.cells (b1.flatMap ZU.c)]) (ofG 186 ((0,.slice 0 b d e 1)::(1,vl ZU a)::(kS (a.length:Int) f [(11,.int .u64 P.2)])),[.cells (b1.flatMap ZU.c)])from(Sub.norm [] [some 0] (by rw[hB];rfl) rfl (.keep (.slice rfl) (.keep (.same (qg ZU _)) (.keep (.same nI) (.keep (.same nI) (.keep (.same nI) .nil))))) (.ks .nil))) ?_;refine sq ?_;refine sh fol ((0,.slice 0 b d e 1)::(1,vl ZU a)::(kS (a.length:Int) f [(154,.bool (decide (P.2=0)))])) ?_;refine ihD h (fun c51 h=>?_) (fun c51 h=>?_)
 ·refine sh fol [(4,.int .u64 f)] ?_;refine Goes.ret ?_;simp only[ZI,ZP]at h;obtain⟨rfl,rfl⟩:=h;exact(gh2 [.int .u64 f] (qed.refl _ _))
 refine Goes.skip ?_;refine sh fol ((0,.slice 0 b d e 1)::(1,vl ZU a)::(kS (a.length:Int) f [(17,.int .u64 0)])) ?_;refine sq ?_;refine sh fol ((0,.slice 0 b d e 1)::(1,vl ZU a)::(kS (a.length:Int) f [(17,.int .u64 0),(156,.i (a.length:Int)),(157,.i 0)])) ?_;refine Goes.block ?_;obtain⟨d9,o,h⟩:=bnd h;refine Goes.imp (Q:=fun x s'=>(x= .exit 4/\ ∃I a3,(I,a3)=d9/\Sub s' (ofG 186 ((0,.slice 0 b d e 1)::(kS (a.length:Int) f [(17,.int .u64 a3)])),[.cells (I.flatMap ZU.c)]))) ?_ ?_
 ·refine Uc (fun M s=> ∃(J:List Int) (p:Int) (U:Int),s=(ofG 186 ((0,.slice 0 b d e 1)::(1,vl ZU a)::(kS (a.length:Int) f (kA1 U (a.length:Int) p []))),[.cells (J.flatMap ZU.c)])/\yj b d a M J p U=some d9) ?_ (m:=N) ⟨_,_,_,rfl,o⟩;rintro M s ⟨J,p,U,rfl,o⟩
  cases M with
  |zero=>simp only[yj]at o;cases o
  |succ M=>
   rw[yj]at o;refine sh fol ((0,.slice 0 b d e 1)::(1,vl ZU a)::(kS (a.length:Int) f (kA1 U (a.length:Int) p [(158,.bool (decide (p<(a.length:Int))))]))) ?_;refine sq ?_;refine ihD o (fun c58 o=>?_) (fun c58 o=>?_)
   ·refine Goes.skip ?_;refine sq (Goes.block ?_);refine sh fol ((0,.slice 0 b d e 1)::(1,vl ZU a)::(kS (a.length:Int) f [(17,.int .u64 U),(18,.i p),(156,.i (a.length:Int)),(157,.i p)])) ?_;obtain⟨e0,C,o⟩:=bnd o;obtain⟨x60,a4,o⟩:=bnd o;obtain⟨L,c5,o⟩:=bnd o;obtain⟨a5,c6,o⟩:=bnd o;refine gq fol [4,5,8,9,11,15,16] ((0,.slice 0 b d e 1)::(1,vl ZU a)::(kS (a.length:Int) f (kA1 L.2 (a.length:Int) p []))) [.cells (a5.flatMap ZU.c)] (ac (hs (.done (.opt (ql ZT 96 (.slice 0 b d e 1) (.i p))) (.ptr 0 ((((b+(p:Int).toNat:Nat):Int):Int).toNat*1+0))) (qdT jf C)) (ac (hs (.run [0] (jJ ZT 222 (.ptr 0 ((((b+(p:Int).toNat:Nat):Int):Int).toNat*1+0))) [.cells (J.flatMap ZU.c)] (.int .u64 e0) [.cells (J.flatMap ZU.c)] false) (qdb jm (E:=ZU) (l:=J) rfl rfl (wI C) (nl rfl) rfl)) (ac (iv jf ZU a4) (ac (lv 0 jm ZU a4 rfl) (ac (cv (qcP e0 x60 U c5)) (ac (hs (.done (.opt (ql ZT 96 (.slice 0 b d e 1) (.i p))) (.ptr 0 ((((b+(p:Int).toNat:Nat):Int):Int).toNat*1+0))) (qdT jf C)) (ac (hs (.run [0] (qx ZT 222 (.ptr 0 ((((b+(p:Int).toNat:Nat):Int):Int).toNat*1+0)) (.int .u64 L.1)) [.cells (J.flatMap ZU.c)] .undef [.cells (a5.flatMap ZU.c)] true) (qaD (E:=ZU) (l:=J) (y:=L.1) rfl (show _=some 1 by kernel_rfl) rfl (wI C) rfl rfl rfl rfl rfl c6 rfl)) az))))))) ?_;refine Goes.sub (show Sub (ofG 186 ((0,.slice 0 b d e 1)::(1,vl ZU a)::(kS (a.length:Int) f (kA1 L.2 (a.length:Int) p []))),[.cells (a5.flatMap ZU.c)]) (ofG 186 ((0,.slice 0 b d e 1)::(1,vl ZU a)::(kS (a.length:Int) f (kA1 L.2 (a.length:Int) p []))),[.cells (a5.flatMap ZU.c)])from(Sub.norm [] [some 0] (by rw[hB];rfl) rfl (.keep (.slice rfl) (.keep (.same (qg ZU _)) (.keep (.same nI) (.keep (.same nI) (.keep (.same nI) (.keep (.same nI) (.keep (.same nI) .nil))))))) (.ks .nil))) ?_;refine gh fol ((0,.slice 0 b d e 1)::(1,vl ZU a)::(kS (a.length:Int) f (kA1 L.2 (a.length:Int) (w64 (p+1)) []))) ?_;exact⟨M,(ofG 186 ((0,.slice 0 b d e 1)::(1,vl ZU a)::(kS (a.length:Int) f (kA1 L.2 (a.length:Int) (w64 (p+1)) []))),[.cells (a5.flatMap ZU.c)]),Nat.lt_succ_self _,(Sub.refl _),_,_,_,rfl,o⟩
   refine Goes.exit ?_;obtain rfl:=si o;exact⟨rfl,_,_,rfl,(Sub.keep [0,5,6,17] rfl rfl)⟩
 rintro x s' ⟨rfl,I,a3,rfl,hsub⟩
 try dsimp only at h
 refine Goes.sub hsub ?_;obtain⟨c7,D,h⟩:=bnd h;obtain⟨b2,c8,h⟩:=bnd h;refine sq (gq fol [2,3,6,7] (kAK f []) [.cells (b2.flatMap ZU.c)] (ac (hs (.done (.opt (ql ZT 96 (.slice 0 b d e 1) (.i (a.length:Int)))) (.ptr 0 ((((b+((a.length:Int):Int).toNat:Nat):Int):Int).toNat*1+0))) (qdT jf D)) (ac (hs (.run [0] (jJ ZT 222 (.ptr 0 ((((b+((a.length:Int):Int).toNat:Nat):Int):Int).toNat*1+0))) [.cells (I.flatMap ZU.c)] (.int .u64 c7) [.cells (I.flatMap ZU.c)] false) (qdb jm (E:=ZU) (l:=I) rfl rfl (wI D) (nl rfl) rfl)) (ac (hs (.done (.opt (ql ZT 96 (.slice 0 b d e 1) (.i (a.length:Int)))) (.ptr 0 ((((b+((a.length:Int):Int).toNat:Nat):Int):Int).toNat*1+0))) (qdT jf D)) (ac (hs (.run [0] (qx ZT 222 (.ptr 0 ((((b+((a.length:Int):Int).toNat:Nat):Int):Int).toNat*1+0)) (.int .u64 (wrap .u64 (c7+a3)))) [.cells (I.flatMap ZU.c)] .undef [.cells (b2.flatMap ZU.c)] true) (qaD (E:=ZU) (l:=I) (y:=wrap .u64 (c7+a3)) rfl (show _=some 1 by kernel_rfl) rfl (wI D) rfl rfl rfl rfl rfl c8 rfl)) az)))) ?_);refine Goes.sub (show Sub (ofG 186 (kAK f []),[.cells (b2.flatMap ZU.c)]) (ofG 186 (kAK f []),[.cells (b2.flatMap ZU.c)])from(Sub.norm [] [some 0] (by rw[hB];rfl) rfl (.keep (.same nI) .nil) (.ks .nil))) ?_;refine sh fol [(4,.int .u64 (wrap .u64 (f-1)))] ?_;refine Goes.ret ?_;simp only[ZI,ZP]at h;obtain⟨rfl,rfl⟩:=h;exact(gh2 [.int .u64 (wrap .u64 (f-1))] (qed.refl _ _))
def yI (N:Nat) (a:List Int) (b:List Int):Nat->(List Int)->Int->Int->Option ((List Int)×Int)
 |0,_,_,_=>none
 |K+1,e,i,c=>
  if c>=0 then
  (idx a c).bind fun f=>
  (idx b 0).bind fun g=>
  (qbf N i f g).bind fun d=>
  (idx e c).bind fun j=>
  (put e c d.1).bind fun h=>
  yI N a b K h d.2 (w64 (c-1))
  else
  some (e,i)
def yJ (N:Nat) (c:List Int):Nat->(List Int)->(List Int)->Int->Option ((List Int)×(List Int))
 |0,_,_,_=>none
 |K+1,b,d,a=>
  if a>=0 then
  (win b a (w64 ((w64 (a+(c.length:Int)))+1))).bind fun(e,g)=>
  (qb3 N b e g (b.length-e) c).bind fun(f,h)=>
  ((if b.length=f.length then some ()else none:Option Unit)).bind fun j=>
  (idx d a).bind fun k=>
  (put d a h).bind fun i=>
  yJ N c K f i (w64 (a-1))
  else
  some (b,d)
def vP (c:Int) (e:List Int):Nat->(List Int)->Int->Option (List Int)
 |0,_,_=>none
 |K+1,d,a=>
  if a<(e.length:Int)then
  (((idx d a).bind fun f=>
  (qk8 .u64 f c).bind fun g=>
  (put d a g).bind fun b=>
  (if c>0 then
  some (decide ((w64 (a+1))<(b.length:Int)))
  else
  some false:Option Bool).bind fun h=>
  if h=true then
  (idx b a).bind fun i=>
  (idx b (w64 (a+1))).bind fun j=>
  (qhX .u64 j (w64 (64-c))).bind fun k=>
  (put b a (orI .u64 i k)).bind fun l=>
  some l
  else
  some b:Option (List Int))).bind fun m=>
  vP c e K m (w64 (a+1))
  else
  some d
def qbj (N:Nat) (a:List Int) (b:List Int):Option ((List Int)×(List Int)):=
 (vD N a b).bind fun q=>
 if q<0 then
 some ([],a)
 else
 if(b.length:Int)=1 then
 (mk 8 (a.length:Int) 0).bind fun r=>
 (yI N a b N r 0 (w64 ((a.length:Int)-1))).bind fun(s,t)=>
 (xG N s).bind fun e=>
 (xG N ([t]:List Int)).bind fun f=>
 some (e,f)
 else
 (idx b (w64 ((b.length:Int)-1))).bind fun g=>
 (bits_LeadingZeros64 g).bind fun d=>
 (xL N b d).bind fun h=>
 (xG N h).bind fun c=>
 (xL N a d).bind fun i=>
 (mk 8 (w64 ((w64 ((a.length:Int)-(c.length:Int)))+1)) 0).bind fun j=>
 (yJ N c N i j (w64 ((a.length:Int)-(c.length:Int)))).bind fun(k,l)=>
 (vP d c N k 0).bind fun m=>
 (xG N l).bind fun n=>
 (cut m 0 (c.length:Int)).bind fun o=>
 (xG N o).bind fun p=>
 some (n,p)
theorem qfG (N:Nat) (a:List Int) (b:List Int) {res:(List Int)×(List Int)} (h:qbj N a b=some res):qd ZT (.fn 239) [vl ZU a,vl ZU b] [] (.tuple [vl ZU res.1,vl ZU res.2]) []:=by
 unfold qbj at h;refine Ub Tryz.func239 rfl rfl (m:=137) rfl (rs:=[.tmp 4,.tmp 5]) rfl (l:=[(0,vl ZU a),(1,vl ZU b)]) rfl ?_;refine sh fol [(0,vl ZU a),(1,vl ZU b)] ?_;refine sq ?_;obtain⟨r1,e_r1,h⟩:=bnd h;refine sq (gr fol [2] [(0,vl ZU a),(1,vl ZU b),(19,.bool (decide (r1<0)))] (ac (cv (qcj N a b e_r1)) az) ?_);refine ihD h (fun c2 h=>?_) (fun c2 h=>?_)
 ·refine sh fol [(4,.nilslice),(5,vl ZU a)] ?_;refine Goes.ret ?_;obtain rfl:=si h;exact(gw2 [.nilslice,vl ZU a] (FzW.tuple (qj.cons (FzW.nilv (E:=ZU)) (qj.cons (Ua (qA ZU _ (nl rfl))) qj.nil))))
 refine Goes.skip ?_;refine sq ?_;refine sh fol [(0,vl ZU a),(1,vl ZU b),(23,.bool (decide ((b.length:Int)=1)))] ?_;refine ihD h (fun c3 h=>?_) (fun c3 h=>?_)
 ·obtain⟨l4,e_l4,h⟩:=bnd h;refine sq (gq fol [2] ((0,vl ZU a)::(1,vl ZU b)::(kT l4 [])) [.cells (l4.flatMap ZU.c)] (ac (hs (.run [] (jK ZT 96 (.i (a.length:Int)) (.i (a.length:Int))) [] (.slice 0 0 l4.length l4.length 1) [.cells (l4.flatMap ZU.c)] false) (qd2 jf (E:=ZU) (z:=0) rfl (by kernel_rfl) e_l4 rfl)) az) ?_);refine sh fol ((0,vl ZU a)::(1,vl ZU b)::(kT l4 [(7,.int .u64 0)])) ?_;refine sq ?_;refine sh fol ((0,vl ZU a)::(1,vl ZU b)::(kT l4 [(7,.int .u64 0),(8,.i (w64 ((a.length:Int)-1)))])) ?_;refine Goes.block ?_;obtain⟨r10,g10,h⟩:=bnd h;refine Goes.imp (Q:=fun x s'=>(x= .exit 0/\ ∃O n9,(O,n9)=r10/\Sub s' (ofG 137 (kT O (kAg n9 [])),[.cells (O.flatMap ZU.c)]))) ?_ ?_
  ·refine Uc (fun M s=> ∃(P:List Int) (n6:Int) (I:Int),s=(ofG 137 ((0,vl ZU a)::(1,vl ZU b)::(kT P (kAg n6 [(8,.i I)]))),[.cells (P.flatMap ZU.c)])/\yI N a b M P n6 I=some r10) ?_ (m:=N) ⟨_,_,_,rfl,g10⟩;rintro M s ⟨P,n6,I,rfl,g10⟩
   cases M with
   |zero=>simp only[yI]at g10;cases g10
   |succ M=>
    rw[yI]at g10;refine sq ?_;refine sh fol ((0,vl ZU a)::(1,vl ZU b)::(kT P (kAg n6 [(8,.i I),(31,.bool (decide (I>=0)))]))) ?_;refine ihD g10 (fun c11 g10=>?_) (fun c11 g10=>?_)
    ·refine Goes.skip ?_;refine sq (Goes.block ?_);obtain⟨x12,U,g10⟩:=bnd g10;obtain⟨x13,V,g10⟩:=bnd g10;obtain⟨G,e_r14,g10⟩:=bnd g10;obtain⟨x15,X,g10⟩:=bnd g10;obtain⟨D,Y,g10⟩:=bnd g10;refine gq fol [5,6,8,9,10,14,15] ((0,vl ZU a)::(1,vl ZU b)::(kT P (kAg G.2 [(8,.i I)]))) [.cells (D.flatMap ZU.c)] (ac (iv jf ZU U) (ac (lv 0 jm ZU U rfl) (ac (iv jf ZU V) (ac (lv 0 jm ZU V rfl) (ac (cv (qfM N n6 x12 x13 e_r14)) (ac (hs (.done (.opt (ql ZT 96 (.slice 0 0 P.length P.length 1) (.i I))) (.ptr 0 ((I:Int).toNat*1+0))) (qa1 jf X)) (ac (hs (.run [0] (qx ZT 222 (.ptr 0 ((I:Int).toNat*1+0)) (.int .u64 G.1)) [.cells (P.flatMap ZU.c)] .undef [.cells (D.flatMap ZU.c)] true) (qaD (E:=ZU) (l:=P) (y:=G.1) rfl (show _=some 1 by kernel_rfl) rfl X rfl rfl rfl rfl rfl Y rfl)) az))))))) ?_;refine Goes.sub (show Sub (ofG 137 ((0,vl ZU a)::(1,vl ZU b)::(kT P (kAg G.2 [(8,.i I)]))),[.cells (D.flatMap ZU.c)]) (ofG 137 ((0,vl ZU a)::(1,vl ZU b)::(kT D (kAg G.2 [(8,.i I)]))),[.cells (D.flatMap ZU.c)])from(Sub.norm [] [some 0] rfl rfl (.keep (.same (qg ZU _)) (.keep (.same (qg ZU _)) (.keep (.sliceE rfl (yE Y)) (.keep (.same nI) (.keep (.same nI) .nil))))) (.ks .nil))) ?_;refine gh fol ((0,vl ZU a)::(1,vl ZU b)::(kT D (kAg G.2 [(8,.i (w64 (I-1)))]))) ?_;exact⟨M,(ofG 137 ((0,vl ZU a)::(1,vl ZU b)::(kT D (kAg G.2 [(8,.i (w64 (I-1)))]))),[.cells (D.flatMap ZU.c)]),Nat.lt_succ_self _,(Sub.refl _),_,_,_,rfl,g10⟩
    refine Goes.exit ?_;obtain rfl:=si g10;exact⟨rfl,_,_,rfl,(Sub.keep [6,7] rfl rfl)⟩
  rintro x s' ⟨rfl,O,n9,rfl,hsub⟩
  try dsimp only at h
  refine Goes.sub hsub ?_;obtain⟨Z,e_r17,h⟩:=bnd h;obtain⟨a0,e_r18,h⟩:=bnd h;refine sq (gq fol [1,4] [(4,vl ZU Z),(5,vl ZU a0)] [.frozen (O.flatMap ZU.c),.frozen [.int .u64 n9]] (ac (hs (.callF 244 [.slice 0 0 O.length O.length 1] [.cells (O.flatMap ZU.c)] [0] [vl ZU O] (vl ZU Z)) (qax (FzL.cons (Fz.sl (E:=ZU) rfl rfl (nl rfl)) FzL.nil) (xV N O e_r17) (qA ZU _ (nl rfl)))) (ac (hs (.callF 244 [.slice 1 0 1 1 1] [.frozen (O.flatMap ZU.c),.cells [.int .u64 n9]] [1] [vl ZU ([n9]:List Int)] (vl ZU a0)) (qax (FzL.cons (Fz.lit rfl rfl (Ue (AllST.cons tI AllST.nil))) FzL.nil) (xV N ([n9]:List Int) e_r18) (qA ZU _ (nl rfl)))) az)) ?_);refine Goes.sub (show Sub (ofG 137 [(4,vl ZU Z),(5,vl ZU a0)],[.frozen (O.flatMap ZU.c),.frozen [.int .u64 n9]]) (ofG 137 [(4,vl ZU Z),(5,vl ZU a0)],[])from(Sub.norm [] [] rfl rfl (.keep (.same (qg ZU _)) (.keep (.same (qg ZU _)) .nil)) .nil)) ?_;refine Goes.ret ?_;obtain rfl:=si h;exact(gw2 [vl ZU Z,vl ZU a0] (FzW.tuple (qj.cons (Ua (qA ZU _ (nl rfl))) (qj.cons (Ua (qA ZU _ (nl rfl))) qj.nil))))
 refine Goes.skip ?_;obtain⟨x19,a1,h⟩:=bnd h;obtain⟨g,e_r20,h⟩:=bnd h;refine sq (gr fol [4,5,6] [(0,vl ZU a),(1,vl ZU b),(9,.i g)] (ac (iv jf ZU a1) (ac (lv 0 jm ZU a1 rfl) (ac (cv (qbw x19 e_r20)) az))) ?_);obtain⟨w,e_r21,h⟩:=bnd h;obtain⟨d,e_r23,h⟩:=bnd h;refine sq (gq fol [2,3] [(0,vl ZU a),(9,.i g),(10,vl ZU d)] [.frozen (w.flatMap ZU.c)] (ac (hs (.callH 267 [vl ZU b,.i g] [] [] (.slice 0 0 w.length w.length 1) [.cells (w.flatMap ZU.c)]) (qbV [] [some 0] (qde N b g e_r21) .nil rfl rfl (.new rfl rfl (.same fa) rfl .nil) (rc (.same (qg ZU _)) (rc (.same nI) rn)) (.slice rfl) rfl)) (ac (hs (.callF 244 [.slice 0 0 w.length w.length 1] [.cells (w.flatMap ZU.c)] [0] [vl ZU w] (vl ZU d)) (qax (FzL.cons (Fz.sl (E:=ZU) rfl rfl (nl rfl)) FzL.nil) (xV N w e_r23) (qA ZU _ (nl rfl)))) az)) ?_);refine Goes.sub (show Sub (ofG 137 [(0,vl ZU a),(9,.i g),(10,vl ZU d)],[.frozen (w.flatMap ZU.c)]) (ofG 137 [(0,vl ZU a),(9,.i g),(10,vl ZU d)],[])from(Sub.norm [] [] rfl rfl (.keep (.same (qg ZU _)) (.keep (.same nI) (.keep (.same (qg ZU _)) .nil))) .nil)) ?_;obtain⟨r,e_r24,h⟩:=bnd h;refine sq (gq fol [2] [(0,vl ZU a),(9,.i g),(10,vl ZU d),(11,.slice 0 0 r.length r.length 1)] [.cells (r.flatMap ZU.c)] (ac (hs (.callH 267 [vl ZU a,.i g] [] [] (.slice 0 0 r.length r.length 1) [.cells (r.flatMap ZU.c)]) (qbV [] [some 0] (qde N a g e_r24) .nil rfl rfl (.new rfl rfl (.same fa) rfl .nil) (rc (.same (qg ZU _)) (rc (.same nI) rn)) (.slice rfl) rfl)) az) ?_);refine sh fol [(0,vl ZU a),(9,.i g),(10,vl ZU d),(11,.slice 0 0 r.length r.length 1),(12,.i (d.length:Int))] ?_;obtain⟨J,e_l26,h⟩:=bnd h;refine sq (gq fol [5] ((0,vl ZU a)::(9,.i g)::(10,vl ZU d)::(kG r (d.length:Int) J [])) [.cells (r.flatMap ZU.c),.cells (J.flatMap ZU.c)] (ac (hs (.run [] (jK ZT 96 (.i (w64 ((w64 ((a.length:Int)-(d.length:Int)))+1))) (.i (w64 ((w64 ((a.length:Int)-(d.length:Int)))+1)))) [.cells (r.flatMap ZU.c)] (.slice 1 0 J.length J.length 1) [.cells (r.flatMap ZU.c),.cells (J.flatMap ZU.c)] false) (qd2 jf (E:=ZU) (z:=0) rfl (by kernel_rfl) e_l26 rfl)) az) ?_);refine sq ?_;refine sh fol ((9,.i g)::(10,vl ZU d)::(kG r (d.length:Int) J [(14,.i (w64 ((a.length:Int)-(d.length:Int))))])) ?_;refine Goes.block ?_;obtain⟨r32,k,h⟩:=bnd h;refine Goes.imp (Q:=fun x s'=>(x= .exit 2/\ ∃a2 e,(a2,e)=r32/\Sub s' (ofG 137 ((9,.i g)::(kG a2 (d.length:Int) e [])),[.cells (a2.flatMap ZU.c),.cells (e.flatMap ZU.c)]))) ?_ ?_
 ·refine Uc (fun M s=> ∃(q:List Int) (t:List Int) (p:Int),s=(ofG 137 ((9,.i g)::(10,vl ZU d)::(kG q (d.length:Int) t [(14,.i p)])),[.cells (q.flatMap ZU.c),.cells (t.flatMap ZU.c)])/\yJ N d M q t p=some r32) ?_ (m:=N) ⟨_,_,_,rfl,k⟩;rintro M s ⟨q,t,p,rfl,k⟩
  cases M with
  |zero=>simp only[yJ]at k;cases k
  |succ M=>
   rw[yJ]at k;refine sq ?_;refine sh fol ((9,.i g)::(10,vl ZU d)::(kG q (d.length:Int) t [(14,.i p),(81,.bool (decide (p>=0)))])) ?_;refine ihD k (fun c33 k=>?_) (fun c33 k=>?_)
   ·refine Goes.skip ?_;refine sq (Goes.block ?_);obtain⟨⟨K,n36⟩,e_w34,k⟩:=bnd k
    try dsimp only at k
    obtain⟨⟨A,n39⟩,e_r37,k⟩:=bnd k
    try dsimp only at k
    obtain⟨u40,e_u40,k⟩:=bnd k;obtain⟨x41,a3,k⟩:=bnd k;obtain⟨F,a4,k⟩:=bnd k;refine gq fol [8,10,11,12] ((9,.i g)::(10,vl ZU d)::(kG q (d.length:Int) t [(14,.i p)])) [.cells (A.flatMap ZU.c),.cells (F.flatMap ZU.c)] (ac (hs (.done (.opt (kr ZT 96 (.slice 0 0 q.length q.length 1) (some (.i p)) (some (.i (w64 ((w64 (p+(d.length:Int)))+1)))) none)) (.slice 0 K n36 (q.length-K) 1)) (wn_ix jf e_w34)) (ac (hs (.callH 268 [.slice 0 K n36 (q.length-K) 1,vl ZU d] [.cells (q.flatMap ZU.c),.cells (t.flatMap ZU.c)] [0] (.int .u64 n39) [.cells (A.flatMap ZU.c),.cells (t.flatMap ZU.c)]) (qbV [some 0] [some 0,none] (qig N q K n36 (q.length-K) d e_r37) (.ks .nil) rfl rfl (.back rfl rfl (.same fa) rfl (.old rfl rfl .nil)) (rc (.slice rfl) (rc (.same (qg ZU _)) rn)) (.same nI) rfl)) (ac (hs (.done (.opt (ql ZT 96 (.slice 1 0 t.length t.length 1) (.i p))) (.ptr 1 ((p:Int).toNat*1+0))) (qa1 jf a3)) (ac (hs (.run [1] (qx ZT 222 (.ptr 1 ((p:Int).toNat*1+0)) (.int .u64 n39)) [.cells (A.flatMap ZU.c),.cells (t.flatMap ZU.c)] .undef [.cells (A.flatMap ZU.c),.cells (F.flatMap ZU.c)] true) (qaD (E:=ZU) (l:=t) (y:=n39) rfl (show _=some 1 by kernel_rfl) rfl a3 rfl rfl rfl rfl rfl a4 rfl)) az)))) ?_;refine Goes.sub (show Sub (ofG 137 ((9,.i g)::(10,vl ZU d)::(kG q (d.length:Int) t [(14,.i p)])),[.cells (A.flatMap ZU.c),.cells (F.flatMap ZU.c)]) (ofG 137 ((9,.i g)::(10,vl ZU d)::(kG A (d.length:Int) F [(14,.i p)])),[.cells (A.flatMap ZU.c),.cells (F.flatMap ZU.c)])from(Sub.norm [] [some 0,some 1] rfl rfl (.keep (.same nI) (.keep (.same (qg ZU _)) (.keep (.sliceE rfl (qrf e_u40)) (.keep (.same nI) (.keep (.sliceE rfl (yE a4)) (.keep (.same nI) .nil)))))) (.ks (.ks .nil)))) ?_;refine gh fol ((9,.i g)::(10,vl ZU d)::(kG A (d.length:Int) F [(14,.i (w64 (p-1)))])) ?_;exact⟨M,(ofG 137 ((9,.i g)::(10,vl ZU d)::(kG A (d.length:Int) F [(14,.i (w64 (p-1)))])),[.cells (A.flatMap ZU.c),.cells (F.flatMap ZU.c)]),Nat.lt_succ_self _,(Sub.refl _),_,_,_,rfl,k⟩
   refine Goes.exit ?_;obtain rfl:=si k;exact⟨rfl,_,_,rfl,(Sub.keep [9,11,12,13] rfl rfl)⟩
 rintro x s' ⟨rfl,a2,e,rfl,hsub⟩
 try dsimp only at h
 refine Goes.sub hsub ?_;refine sq ?_;refine sh fol ((9,.i g)::(kG a2 (d.length:Int) e [(96,.i (d.length:Int)),(97,.i 0)])) ?_;refine Goes.block ?_;obtain⟨r46,u,h⟩:=bnd h;refine Goes.imp (Q:=fun x s'=>(x= .exit 4/\ ∃L,L=r46/\Sub s' (ofG 137 (kG L (d.length:Int) e []),[.cells (L.flatMap ZU.c),.cells (e.flatMap ZU.c)]))) ?_ ?_
 ·refine Uc (fun M s=> ∃(o:List Int) (f:Int),s=(ofG 137 ((9,.i g)::(kG o (d.length:Int) e (kA6 (d.length:Int) f))),[.cells (o.flatMap ZU.c),.cells (e.flatMap ZU.c)])/\vP g d M o f=some r46) ?_ (m:=N) ⟨_,_,rfl,u⟩;rintro M s ⟨o,f,rfl,u⟩
  cases M with
  |zero=>simp only[vP]at u;cases u
  |succ M=>
   rw[vP]at u;refine sh fol ((9,.i g)::(kG o (d.length:Int) e [(96,.i (d.length:Int)),(97,.i f),(98,.bool (decide (f<(d.length:Int))))])) ?_;refine sq ?_;refine ihD u (fun c47 u=>?_) (fun c47 u=>?_)
   ·refine Goes.skip ?_;refine sq ?_;obtain⟨r49,n,u⟩:=bnd u;refine Goes.imp (Q:=fun x s'=>(x= .normal/\ ∃H,H=r49/\Sub s' (ofG 137 ((9,.i g)::(kG H (d.length:Int) e (kA6 (d.length:Int) f))),[.cells (H.flatMap ZU.c),.cells (e.flatMap ZU.c)]))) ?_ ?_
    ·refine Goes.block ?_;refine sh fol ((9,.i g)::(kG o (d.length:Int) e ((15,.i f)::(kA6 (d.length:Int) f)))) ?_;obtain⟨x50,B,n⟩:=bnd n;obtain⟨q51,e_q51,n⟩:=bnd n;obtain⟨j,a5,n⟩:=bnd n;refine sq (gq fol [2,3,5,6,7] ((9,.i g)::(kG o (d.length:Int) e ((15,.i f)::(kA6 (d.length:Int) f)))) [.cells (j.flatMap ZU.c),.cells (e.flatMap ZU.c)] (ac (hs (.done (.opt (ql ZT 96 (.slice 0 0 o.length o.length 1) (.i f))) (.ptr 0 ((f:Int).toNat*1+0))) (qa1 jf B)) (ac (hs (.run [0] (jJ ZT 222 (.ptr 0 ((f:Int).toNat*1+0))) [.cells (o.flatMap ZU.c),.cells (e.flatMap ZU.c)] (.int .u64 x50) [.cells (o.flatMap ZU.c),.cells (e.flatMap ZU.c)] false) (qdb jm (E:=ZU) (l:=o) rfl rfl B (nl rfl) rfl)) (ac (hs (.done (.opt (ze ZT .shr 222 (.tmp 103) (.tmp 104) (.int .u64 x50) (.i g))) (.int .u64 q51)) (qhM e_q51)) (ac (hs (.done (.opt (ql ZT 96 (.slice 0 0 o.length o.length 1) (.i f))) (.ptr 0 ((f:Int).toNat*1+0))) (qa1 jf B)) (ac (hs (.run [0] (qx ZT 222 (.ptr 0 ((f:Int).toNat*1+0)) (.int .u64 q51)) [.cells (o.flatMap ZU.c),.cells (e.flatMap ZU.c)] .undef [.cells (j.flatMap ZU.c),.cells (e.flatMap ZU.c)] true) (qaD (E:=ZU) (l:=o) (y:=q51) rfl (show _=some 1 by kernel_rfl) rfl B rfl rfl rfl rfl rfl a5 rfl)) az))))) ?_);refine Goes.sub (show Sub (ofG 137 ((9,.i g)::(kG o (d.length:Int) e ((15,.i f)::(kA6 (d.length:Int) f)))),[.cells (j.flatMap ZU.c),.cells (e.flatMap ZU.c)]) (ofG 137 ((9,.i g)::(kG j (d.length:Int) e ((15,.i f)::(kA6 (d.length:Int) f)))),[.cells (j.flatMap ZU.c),.cells (e.flatMap ZU.c)])from(Sub.norm [] [some 0,some 1] rfl rfl (.keep (.same nI) (.keep (.sliceE rfl (yE a5)) (.keep (.same nI) (.keep (.slice rfl) (.keep (.same nI) (.keep (.same nI) (.keep (.same nI) .nil))))))) (.ks (.ks .nil)))) ?_;refine sq ?_;obtain⟨b54,v,n⟩:=bnd n;refine Goes.cut (s':=(ofG 137 ((9,.i g)::(kG j (d.length:Int) e [(15,.i f),(96,.i (d.length:Int)),(97,.i f),(115,.bool b54)])),[.cells (j.flatMap ZU.c),.cells (e.flatMap ZU.c)])) ?_ ?_
     ·rcases wyD v with⟨c53,v⟩|⟨c53,v⟩
      ·obtain rfl:=si v;exact tr fol [2] ((9,.i g)::(kG j (d.length:Int) e [(15,.i f),(96,.i (d.length:Int)),(97,.i f),(115,.bool (decide ((w64 (f+1))<(j.length:Int))))])) (ac (gw c53) az)
      obtain rfl:=si v;exact tr fol [2] ((9,.i g)::(kG j (d.length:Int) e [(15,.i f),(96,.i (d.length:Int)),(97,.i f),(115,.bool false)])) (ac (gw c53) az)
     refine ihB n (fun c56 n=>?_) (fun c56 n=>?_)
     ·obtain⟨x57,C,n⟩:=bnd n;obtain⟨x58,a6,n⟩:=bnd n;obtain⟨q59,e_q59,n⟩:=bnd n;obtain⟨a7,a8,n⟩:=bnd n;refine gq fol [2,3,7,8,11,13,14] ((9,.i g)::(kG j (d.length:Int) e (kA6 (d.length:Int) f))) [.cells (a7.flatMap ZU.c),.cells (e.flatMap ZU.c)] (ac (hs (.done (.opt (ql ZT 96 (.slice 0 0 j.length j.length 1) (.i f))) (.ptr 0 ((f:Int).toNat*1+0))) (qa1 jf C)) (ac (hs (.run [0] (jJ ZT 222 (.ptr 0 ((f:Int).toNat*1+0))) [.cells (j.flatMap ZU.c),.cells (e.flatMap ZU.c)] (.int .u64 x57) [.cells (j.flatMap ZU.c),.cells (e.flatMap ZU.c)] false) (qdb jm (E:=ZU) (l:=j) rfl rfl C (nl rfl) rfl)) (ac (hs (.done (.opt (ql ZT 96 (.slice 0 0 j.length j.length 1) (.i (w64 (f+1))))) (.ptr 0 ((w64 (f+1):Int).toNat*1+0))) (qa1 jf a6)) (ac (hs (.run [0] (jJ ZT 222 (.ptr 0 ((w64 (f+1):Int).toNat*1+0))) [.cells (j.flatMap ZU.c),.cells (e.flatMap ZU.c)] (.int .u64 x58) [.cells (j.flatMap ZU.c),.cells (e.flatMap ZU.c)] false) (qdb jm (E:=ZU) (l:=j) rfl rfl a6 (nl rfl) rfl)) (ac (hs (.done (.opt (ze ZT .shl 222 (.tmp 124) (.tmp 126) (.int .u64 x58) (.i (w64 (64-g))))) (.int .u64 q59)) (qgI e_q59)) (ac (hs (.done (.opt (ql ZT 96 (.slice 0 0 j.length j.length 1) (.i f))) (.ptr 0 ((f:Int).toNat*1+0))) (qa1 jf C)) (ac (hs (.run [0] (qx ZT 222 (.ptr 0 ((f:Int).toNat*1+0)) (.int .u64 (orI .u64 x57 q59))) [.cells (j.flatMap ZU.c),.cells (e.flatMap ZU.c)] .undef [.cells (a7.flatMap ZU.c),.cells (e.flatMap ZU.c)] true) (qaD (E:=ZU) (l:=j) (y:=orI .u64 x57 q59) rfl (show _=some 1 by kernel_rfl) rfl C rfl rfl rfl rfl rfl a8 rfl)) az))))))) ?_;obtain rfl:=si n;exact⟨rfl,_,rfl,((show Sub (ofG 137 ((9,.i g)::(kG j (d.length:Int) e (kA6 (d.length:Int) f))),[.cells (a7.flatMap ZU.c),.cells (e.flatMap ZU.c)]) (ofG 137 ((9,.i g)::(kG a7 (d.length:Int) e (kA6 (d.length:Int) f))),[.cells (a7.flatMap ZU.c),.cells (e.flatMap ZU.c)])from(Sub.norm [] [some 0,some 1] rfl rfl (.keep (.same nI) (.keep (.sliceE rfl (yE a8)) (.keep (.same nI) (.keep (.slice rfl) (.keep (.same nI) (.keep (.same nI) .nil)))))) (.ks (.ks .nil)))).trans (Sub.refl _))⟩
     refine Goes.skip ?_;obtain rfl:=si n;exact⟨rfl,_,rfl,(Sub.keep [9,11,12,13,96,97] rfl rfl)⟩
    rintro x s' ⟨rfl,H,rfl,hsub⟩;refine Goes.sub hsub ?_;refine gh fol ((9,.i g)::(kG H (d.length:Int) e (kA6 (d.length:Int) (w64 (f+1))))) ?_;exact⟨M,(ofG 137 ((9,.i g)::(kG H (d.length:Int) e (kA6 (d.length:Int) (w64 (f+1))))),[.cells (H.flatMap ZU.c),.cells (e.flatMap ZU.c)]),Nat.lt_succ_self _,(Sub.refl _),_,_,rfl,u⟩
   refine Goes.exit ?_;obtain rfl:=si u;exact⟨rfl,_,rfl,(Sub.keep [11,12,13] rfl rfl)⟩
 rintro x s' ⟨rfl,L,rfl,hsub⟩;refine Goes.sub hsub ?_;refine sq (Goes.sub (s':=(ofG 137 [(11,vl ZU L),(12,.i (d.length:Int)),(13,.slice 0 0 e.length e.length 1)],[.cells (e.flatMap ZU.c)])) (Sub.norm [0] [some 1] rfl rfl (.keep (.frz (Fz.sl (E:=ZU) rfl rfl (nl rfl)) (qg ZU _)) (.keep (.same nI) (.keep (.slice rfl) .nil))) (.ks .nil)) ?_);obtain⟨a9,e_r62,h⟩:=bnd h;obtain⟨s63,e_s63,h⟩:=bnd h;obtain⟨b0,e_r64,h⟩:=bnd h;refine gq fol [1,4,5] [(4,vl ZU a9),(5,vl ZU b0)] [.frozen (e.flatMap ZU.c)] (ac (hs (.callF 244 [.slice 0 0 e.length e.length 1] [.cells (e.flatMap ZU.c)] [0] [vl ZU e] (vl ZU a9)) (qax (FzL.cons (Fz.sl (E:=ZU) rfl rfl (nl rfl)) FzL.nil) (xV N e e_r62) (qA ZU _ (nl rfl)))) (ac (hs (.done (.opt (kr ZT 96 (vl ZU L) none (some (.i (d.length:Int))) none)) (vl ZU s63)) (qjo jf (E:=ZU) rfl none (some (d.length:Int)) e_s63)) (ac (cv (xV N s63 e_r64)) az))) ?_;refine Goes.sub (show Sub (ofG 137 [(4,vl ZU a9),(5,vl ZU b0)],[.frozen (e.flatMap ZU.c)]) (ofG 137 [(4,vl ZU a9),(5,vl ZU b0)],[])from(Sub.norm [] [] rfl rfl (.keep (.same (qg ZU _)) (.keep (.same (qg ZU _)) .nil)) .nil)) ?_;refine Goes.ret ?_;obtain rfl:=si h;exact(gw2 [vl ZU a9,vl ZU b0] (FzW.tuple (qj.cons (Ua (qA ZU _ (nl rfl))) (qj.cons (Ua (qA ZU _ (nl rfl))) qj.nil))))
end Go.Av
