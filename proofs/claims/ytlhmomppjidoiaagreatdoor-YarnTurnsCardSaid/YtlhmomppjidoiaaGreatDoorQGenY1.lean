/-
  Walks of functions: what each computes, as a plain function.
-/
import Derived.Test.YtlhmomppjidoiaaGreatDoorAvJnY
noncomputable section
namespace Go.Av
open Go.Proofs Go.RowKit
abbrev ZT:=Tryz.prog
set_option linter.unusedSectionVars false
set_option linter.unusedVariables false
set_option linter.unusedSimpArgs false
set_option maxRecDepth 100000
theorem fol:Tryz.prog.follows .mixedOrders=true:=by kernel_rfl
structure qC where
 Length:Int
 Mass:Int
 Direct:Bool
def qhK:Enc qC:=(encI.prod (encI.prod qna)).comap fun x=>(x.Length,x.Mass,x.Direct)
instance:SE qhK:=⟨nl rfl⟩
structure qj where
 s:Int
 w:List Int
def qiT:Enc qj:=(encI.prod (encN (qa .u64))).comap fun x=>(x.s,x.w)
instance:SE qiT:=⟨nl rfl⟩
structure qB where
 Num:qj
 Den:qj
def qnR:Enc qB:=(qiT.prod qiT).comap fun x=>(x.Num,x.Den)
instance:SE qnR:=⟨nl rfl⟩
structure qD where
 neg:Bool
 w:List Int
def qjY:Enc qD:=(qna.prod (qm2 encI)).comap fun x=>(x.neg,x.w)
instance:SE qjY:=⟨nl rfl⟩
structure qP where
 X:Str
 Y:Str
def qz:Enc qP:=(encS.prod encS).comap fun x=>(x.X,x.Y)
instance:SE qz:=⟨nl rfl⟩
structure qbL where
 Name:Str
 Density:Str
 Twist:Str
 Strength:List qP
 Dye:Str
def qpi:Enc qbL:=(encS.prod (encS.prod (encS.prod ((qm2 qz).prod encS)))).comap fun x=>(x.Name,x.Density,x.Twist,x.Strength,x.Dye)
instance:SE qpi:=⟨nl rfl⟩
abbrev kA {α3:Type} {α4:Type} (a:List Int) (b:List Int) (c:Int) (d:List α3) (e:List α4) (f:Int) (x:List (Nat×AV)):List (Nat×AV):=(8,vl encI a)::(9,vl encI b)::(10,.i c)::(11,.oslice 0 d.length 1)::(12,.slice 1 0 e.length e.length 1)::(13,.i f)::x
abbrev kB (a:Str) (b:Str) (c:Str) (d:List qP) (e:Str) (x:List Blk):List Blk:= .cells [.str a,.str b,.str c,vl qz d,.str e]::x
abbrev kC (a:List Int) (x:List Blk):List Blk:= .cells (a.flatMap encI.c)::x
abbrev kD {α0:Type} (a:List α0) (x:List (Nat×AV)):List (Nat×AV):=(5,.slice 0 0 a.length a.length 1)::x
abbrev kE (x:List (Nat×AV)):List (Nat×AV):=(2,.ptr 0 0)::(3,.ptr 1 0)::(4,.ptr 2 0)::x
abbrev kF (x:List Blk):List Blk:= .cells [.i 0,.nilslice,.i 0,.nilslice]::x
abbrev kG {α0:Type} {α2:Type} (a:List α0) (b:Int) (c:List α2) (x:List (Nat×AV)):List (Nat×AV):=(11,.slice 0 0 a.length a.length 1)::(12,.i b)::(13,.slice 1 0 c.length c.length 1)::x
abbrev kH (a:List Int) (b:List Int) (x:List (Nat×AV)):List (Nat×AV):=(0,vl encI a)::(1,vl encI b)::x
abbrev kI (a:Int) (b:Int) (c:Bool) (x:List Blk):List Blk:= .cells [.i a,.i b,.bool c]::x
abbrev kJ (a:Int) (b:Int) (c:Int) (d:Int) (x:List (Nat×AV)):List (Nat×AV):=(2,.int .u64 a)::(8,.int .u64 b)::(9,.int .u64 c)::(10,.int .u64 d)::x
abbrev kK (a:Bool) (b:List Int) (c:Bool) (d:List Int) (x:List Blk):List Blk:= .cells [.bool a,vl encI b]:: .cells [.bool c,vl encI d]::x
abbrev kM (x:List (Nat×AV)):List (Nat×AV):=(2,.ptr 0 0)::x
abbrev kN (x:List Blk):List Blk:= .cells [.bool false,.nilslice]::x
abbrev kP (a:Int) (b:Int) (c:Int) (x:List (Nat×AV)):List (Nat×AV):=(14,.int .u64 a)::(15,.int .u64 b)::(16,.int .u64 c)::x
abbrev kQ (a:Str) (b:Str) (x:List (Nat×AV)):List (Nat×AV):=(0,.str a)::(1,.str b)::x
abbrev kR (x:List (Nat×AV)):List (Nat×AV):=(1,.ptr 0 0)::x
abbrev kS (a:Int) (b:Int) (x:List (Nat×AV)):List (Nat×AV):=(5,.i a)::(6,.int .u64 b)::x
abbrev kT (a:Str) (b:Str) (c:Str):List Blk:=[.cells [.str a,.str b],.cells [.str [48],.str [49]],.cells [.str [122],.str c,.str [48],.slice 1 0 1 1 2,.str []]]
abbrev kU {α0:Type} (a:List α0) (x:List (Nat×AV)):List (Nat×AV):=(6,.slice 0 0 a.length a.length 1)::x
abbrev kV (a:Int) (b:Str) (c:Int) (d:Str) (e:Int) (x:List (Nat×AV)):List (Nat×AV):=(10,.i a)::(11,.str b)::(12,.i c)::(13,.str d)::(14,.i e)::x
abbrev kW (a:Str) (b:Str) (c:Str) (d:List qP) (e:Str) (x:List (Nat×AV)):List (Nat×AV):=(0,.agg [.str a,.str b,.str c,vl qz d,.str e])::x
abbrev kX (x:List (Nat×AV)):List (Nat×AV):=(3,.ptr 0 0)::(4,.ptr 1 0)::x
abbrev kY (a:Int) (b:Int) (x:List (Nat×AV)):List (Nat×AV):=(0,.int .u64 a)::(1,.int .u64 b)::x
abbrev kZ (a:List Str) (x:List Blk):List Blk:= .cells (a.flatMap encS.c)::x
abbrev kAA (a:Int) (b:Int) (x:List (Nat×AV)):List (Nat×AV):=(6,.i a)::(7,.i b)::x
abbrev kAB (a:Int) (b:Int) (x:List (Nat×AV)):List (Nat×AV):=(11,.int .u64 a)::(12,.int .u64 b)::x
abbrev kAD (a:Int) (b:Int) (x:List (Nat×AV)):List (Nat×AV):=(7,.int .u64 a)::(8,.int .u64 b)::x
abbrev kAE (a:Int) (b:Int):List Blk:=[.cells [.i a,.i b]]
abbrev kAF (a:Str) (b:Int) (x:List (Nat×AV)):List (Nat×AV):=(0,.str a)::(3,.i b)::x
abbrev kAG (a:Str) (b:Str):List (Nat×AV):=[(3,.ptr 0 0),(5,.ptr 2 0),(13,.str a),(17,.str b),(133,.bool true)]
abbrev kAH (a:Str):List (Nat×AV):=[(0,.str a)]
abbrev kAI (a:Int) (b:Int) (x:List (Nat×AV)):List (Nat×AV):=(21,.i a)::(22,.i b)::x
abbrev kAJ {α0:Type} (a:List α0) (x:List (Nat×AV)):List (Nat×AV):=(6,.gslice 0 a.length 1)::x
abbrev kAK (a:Str) (b:Str) (c:Str) (d:List qP) (e:Str) (x:List AV):List AV:= .agg [.str a,.str b,.str c,vl qz d,.str e]::x
abbrev kAL (a:Bool) (b:List Int) (x:List Blk):List Blk:= .cells [.bool a,vl encI b]::x
abbrev kAM (a:Str) (b:Str) (c:Bool) (x:List (Nat×AV)):List (Nat×AV):=(5,.str a)::(6,.str b)::(7,.bool c)::x
abbrev kAN (a:Str) (b:Str) (x:List Blk):List Blk:= .cells [.str a,.str b]::x
abbrev kAO (a:Int) (b:Int) (x:List (Nat×AV)):List (Nat×AV):=(0,.i a)::(1,.i b)::x
abbrev kAP (x:List (Nat×AV)):List (Nat×AV):=(4,.ptr 0 0)::x
abbrev kAQ (a:Int) (x:List (Nat×AV)):List (Nat×AV):=(6,.int .u64 a)::x
abbrev kAR:List (Nat×AV):=[(6,.bool false)]
abbrev kAS (x:List (Nat×AV)):List (Nat×AV):=(4,.ptr 2 0)::x
abbrev kAT (a:Str) (x:List (Nat×AV)):List (Nat×AV):=(2,.str a)::(3,.ptr 0 0)::x
abbrev kAV (a:Int) (b:Int):List (Nat×AV):=[(13,.i a),(14,.i b)]
abbrev kAW (a:Int) (b:Int) (x:List (Nat×AV)):List (Nat×AV):=(15,.i a)::(16,.i b)::x
abbrev kAX {α0:Type} (a:List α0) (x:List (Nat×AV)):List (Nat×AV):=(5,.gslice 0 a.length 1)::x
abbrev kAY (a:Int) (b:Int) (x:List (Nat×AV)):List (Nat×AV):=(11,.int .u64 a)::(13,.int .u64 b)::x
abbrev kAZ (x:List (Nat×AV)):List (Nat×AV):=(3,.ptr 1 0)::x
abbrev kAb (x:List (Nat×AV)):List (Nat×AV):=(4,.ptr 1 0)::x
abbrev kAd (a:List Int):List Blk:=[.frozen (a.flatMap encI.c)]
abbrev kAe (a:Int) (b:Int) (x:List (Nat×AV)):List (Nat×AV):=(17,.int .u64 a)::(18,.int .u64 b)::x
abbrev kAf (a:Bool) (b:List Int):List AV:=[.bool a,vl encI b]
abbrev kAg {α3:Type} (a:List Int) (b:List Int) (c:Int) (d:List α3) (x:List (Nat×AV)):List (Nat×AV):=(8,vl encI a)::(9,vl encI b)::(10,.i c)::(11,.oslice 0 d.length 1)::x
abbrev kAh (a:Int) (x:List (Nat×AV)):List (Nat×AV):=(7,.int .u64 a)::x
abbrev kAi (a:List Int) (x:List (Nat×AV)):List (Nat×AV):=(0,vl encI a)::x
abbrev kAj:List (Nat×AV):=[(2,.ptr 1 0)]
abbrev kAk (a:Str) (x:List (Nat×AV)):List (Nat×AV):=(5,.ptr 0 0)::(20,.ptr 2 0)::(21,.str a)::x
abbrev kAl (a:Bool) (b:List Int) (c:Bool) (d:List Int):List AV:=[.agg [.bool a,vl encI b],.agg [.bool c,vl encI d]]
abbrev kAm (a:Int):List (Nat×AV):=[(5,.i a)]
abbrev kAp:List (Nat×AV):=[(4,.bool false)]
abbrev kAq:List (Nat×AV):=[(2,.bool false)]
abbrev kAr (a:Str) (x:List (Nat×AV)):List (Nat×AV):=(0,.str a)::(6,.ptr 0 0)::x
abbrev kAs (a:List Int) (x:List (Nat×AV)):List (Nat×AV):=(5,vl encI a)::x
abbrev kAt (a:Str) (b:Int) (x:List (Nat×AV)):List (Nat×AV):=(3,.str a)::(4,.i b)::x
abbrev kAu {α0:Type} (a:List α0) (b:Bool) (x:List (Nat×AV)):List (Nat×AV):=(3,.gslice 1 a.length 1)::(4,.bool b)::x
abbrev kAv (a:Int) (b:Int) (c:Int) (d:Int) (x:List (Nat×AV)):List (Nat×AV):=(2,.i a)::(7,.i b)::(9,.i c)::(10,.i d)::x
abbrev kAw (a:Int) (b:Int) (x:List (Nat×AV)):List (Nat×AV):=(5,.i a)::(6,.i b)::x
abbrev kAx (a:Str) (b:Str) (c:Str) (d:List qP) (e:Str):List AV:=[.str a,.str b,.str c,vl qz d,.str e]
abbrev kAz (a:Int) (b:Int) (c:Bool) (x:List (Nat×AV)):List (Nat×AV):=(0,.agg [.i a,.i b,.bool c])::x
abbrev kA0 (a:Bool):List (Nat×AV):=[(6,.bool a)]
abbrev kA1 (a:Bool):List (Nat×AV):=[(12,.bool a)]
abbrev kA2 (a:Int) (b:Int) (x:List (Nat×AV)):List (Nat×AV):=(8,.i a)::(9,.i b)::x
abbrev kA3 (a:Int):List (Nat×AV):=[(2,.i a)]
abbrev kA4 (a:Int) (b:Int):List (Nat×AV):=[(104,.i a),(105,.i b)]
abbrev kA5 (a:Str) (x:List (Nat×AV)):List (Nat×AV):=(0,.str a)::x
abbrev kA6 (x:List (Nat×AV)):List (Nat×AV):=(5,.ptr 2 0)::x
abbrev kA8 (a:Int) (b:Int):List (Nat×AV):=[(28,.i a),(29,.i b)]
abbrev kA9 (a:Int) (b:Int) (c:Int) (x:List (Nat×AV)):List (Nat×AV):=(17,.int .u64 a)::(156,.i b)::(157,.i c)::x
abbrev kBA (a:Int) (b:Int) (c:Int):List Blk:=[.cells [.i a,.i b,.i c]]
abbrev kBB (a:Int) (b:Int):List (Nat×AV):=[(96,.i a),(97,.i b)]
abbrev kBC (a:Int):List Blk:=[.cells [.i a,.nilslice]]
abbrev kBD (a:Int) (b:Int) (x:List (Nat×AV)):List (Nat×AV):=(14,.int .u64 a)::(15,.int .u64 b)::x
abbrev kBE (a:Bool):List (Nat×AV):=[(13,.bool a)]
abbrev kBF (a:Bool) (x:List (Nat×AV)):List (Nat×AV):=(3,.bool a)::x
abbrev kBG (a:Str):List (Nat×AV):=[(4,.str a)]
abbrev kBH (a:Str):List (Nat×AV):=[(2,.str a)]
abbrev kBI (a:List qP) (x:List (Nat×AV)):List (Nat×AV):=(0,vl qz a)::x
abbrev kBJ:List Blk:=[.cells (([]:List Int).flatMap encI.c)]
abbrev kBL (x:List (Nat×AV)):List (Nat×AV):=(5,.ptr 1 0)::x
abbrev kBM (a:Bool):List (Nat×AV):=[(4,.bool a)]
abbrev kBN (a:Int) (x:List Blk):List Blk:= .dead:: .cells [.i a]::x
abbrev kBO (a:List Int) (b:List Int):List AV:=[vl encI a,vl encI b]
abbrev kBP (a:Int) (b:Int):List (Nat×AV):=[(7,.i a),(8,.i b)]
abbrev kBQ (a:Bool):List (Nat×AV):=[(2,.bool a)]
abbrev kBR (a:Bool):List (Nat×AV):=[(10,.bool a)]
abbrev kBS (a:Int) (b:Int) (c:Bool) (x:List AV):List AV:= .agg [.i a,.i b,.bool c]::x
abbrev kBT (a:Bool) (b:List Int) (c:Bool) (d:List Int):List (Nat×AV):=[(0,.agg [.bool a,vl encI b]),(1,.agg [.bool c,vl encI d])]
abbrev kBU (a:Int):List (Nat×AV):=[(4,.i a)]
abbrev kBV (a:Str) (x:List AV):List AV:= .agg [.str [122],.str a,.str [48],.slice 1 0 1 1 2,.str []]::x
abbrev kBW (x:List (Nat×AV)):List (Nat×AV):=(5,.ptr 3 0)::x
abbrev kBX (a:Int) (x:List (Nat×AV)):List (Nat×AV):=(0,.int .u64 a)::x
abbrev kBY (a:Str) (b:Str):List AV:=[.str a,.str b]
abbrev kBa (a:Bool):List (Nat×AV):=[(8,.bool a)]
abbrev kBb (x:List (Nat×AV)):List (Nat×AV):=(10,.ptr 1 0)::x
abbrev kBc:List (Nat×AV):=[(4,.i 0)]
abbrev kBd:List (Nat×AV):=[(2,.bool true)]
abbrev kBe (a:Bool):List (Nat×AV):=[(15,.bool a)]
abbrev kBf (a:Int) (b:Int):List AV:=[.int .u64 a,.int .u64 b]
abbrev kBh (a:Bool):List (Nat×AV):=[(5,.bool a)]
abbrev kBi (x:List (Nat×AV)):List (Nat×AV):=(8,.int .u64 0)::x
abbrev nz1 (x:qj):List AV:=ni1 x.s x.w
abbrev nq1 (x:qB):List AV:=ni2 x.Num.s x.Num.w x.Den.s x.Den.w
theorem jR:SlT ZT 87 3 1 8:=⟨by kernel_rfl,by kernel_rfl,by kernel_rfl,by kernel_rfl⟩
theorem ce3:CeT ZT 3:=⟨by kernel_rfl,by kernel_rfl⟩
theorem qqm:SlT ZT 161 30 1 8:=⟨by kernel_rfl,by kernel_rfl,by kernel_rfl,by kernel_rfl⟩
theorem ce30:CeT ZT 30:=⟨by kernel_rfl,by kernel_rfl⟩
theorem st9:Tryz.prog.underlying 9=some .string:=by kernel_rfl
theorem vX:Tryz.prog.underlying 103=some (.slice 227):=by kernel_rfl
theorem qI:SlT ZT 103 227 1 8:=⟨by kernel_rfl,by kernel_rfl,by kernel_rfl,by kernel_rfl⟩
theorem zP:CeT ZT 227:=⟨by kernel_rfl,by kernel_rfl⟩
theorem qqo:SlT ZT 262 9 1 16:=⟨by kernel_rfl,by kernel_rfl,by kernel_rfl,by kernel_rfl⟩
theorem ce9:CeT ZT 9:=⟨by kernel_rfl,by kernel_rfl⟩
theorem qk1:Tryz.prog.underlying 22=some .string:=by kernel_rfl
theorem ce22:CeT ZT 22:=⟨by kernel_rfl,by kernel_rfl⟩
theorem sl23:SlT ZT 23 67 2 32:=⟨by kernel_rfl,by kernel_rfl,by kernel_rfl,by kernel_rfl⟩
theorem ag67:AgT ZT 67 2:=⟨by kernel_rfl,by kernel_rfl⟩
def jY (l:List Int):Nat->Int->Option (Unit⊕Int)
 |0,_=>none
 |K+1,a=>
  if a<(l.length:Int)then
  (idx l a).bind fun b=>
  if(!decide (b=0))=true then
  some (.inr b)
  else
  jY l K (w64 (a+1))
  else
  some (.inl ())
def qac (N:Nat) (l:List Int):Option Int:=
 (jY l N 0).bind (fun
 |(.inl ())=>
 some 0
 |(.inr a)=>
 some a)
theorem xg (N:Nat) (l:List Int) {res:Int} (h:qac N l=some res):qb ZT (.fn 13) [vl encI l] [] (.i res) []:=by
 unfold qac at h
 refine Ub Tryz.func13 rfl rfl (m:=15) rfl (rs:=[.tmp 2]) rfl (l:=(kAi l [])) rfl ?_
 refine sh fol (kAi l []) ?_
 refine sq ?_
 refine sh fol (kAs l [(6,.i (l.length:Int)),(7,.i 0)]) ?_
 refine Goes.block ?_
 obtain⟨d,g2,h⟩:=bnd h
 refine Goes.imp (Q:=fun x s'=>(x= .exit 0/\(.inl ())=d/\Sub s' (ofG 15 [],[]))\/(x= .ret/\ ∃e,(.inr e)=d/\vI ZT [.tmp 2] (.i e) .ret s')) ?_ ?_
 ·refine Uc (fun M s=> ∃(a:Int),s=(ofG 15 (kAs l (kAA (l.length:Int) a [])),[])/\jY l M a=some d) ?_ (m:=N) ⟨_,rfl,g2⟩
  rintro M s ⟨a,rfl,g2⟩
  cases M with
  |zero=>simp only[jY]at g2;cases g2
  |succ M=>
   rw[jY]at g2
   refine sh fol (kAs l (kAA (l.length:Int) a (kBa (decide (a<(l.length:Int)))))) ?_
   refine sq ?_
   refine ihD g2 (fun f g2=>?_) (fun f g2=>?_)
   ·refine Goes.skip ?_
    refine sq (Goes.block ?_)
    obtain⟨c,b,g2⟩:=bnd g2
    refine sq (gr fol [0,1] ((4,.i c)::(kAs l (kAA (l.length:Int) a []))) (ac (iv jR encI b) (ac (lv 0 ce3 encI b rfl) az)) ?_)
    refine sh fol ((4,.i c)::(kAs l (kAA (l.length:Int) a (kA1 (!decide (c=0)))))) ?_
    refine ihB g2 (fun g g2=>?_) (fun g g2=>?_)
    ·refine sh fol (kA3 c) ?_
     refine Goes.ret ?_
     obtain rfl:=si g2
     exact Or.inr (⟨rfl,_,rfl,(gw2 [.i c] (Ua tI))⟩)
    refine Goes.skip ?_
    refine gh fol (kAs l (kAA (l.length:Int) (w64 (a+1)) [])) ?_
    exact⟨M,(ofG 15 (kAs l (kAA (l.length:Int) (w64 (a+1)) [])),[]),Nat.lt_succ_self _,(Sub.refl _),_,rfl,g2⟩
   refine Goes.exit ?_
   obtain rfl:=si g2
   exact Or.inl (⟨rfl,rfl,(Sub.keep [] rfl rfl)⟩)
 rintro x s' (⟨rfl,rfl,hsub⟩|⟨rfl,j,rfl,hret⟩)
 ·try dsimp only at h
  refine Goes.sub hsub ?_
  refine sh fol [(2,.i 0)] ?_
  refine Goes.ret ?_
  obtain rfl:=si h
  exact(gw2 [.i 0] (Ua tI))
 try dsimp only at h
 obtain rfl:=si h
 exact hret
def zD (l:List Int):Nat->Int->Option (Unit⊕Int)
 |0,_=>none
 |K+1,a=>
  if a<(l.length:Int)then
  (idx l a).bind fun b=>
  if(!decide (b=0))=true then
  some (.inr b)
  else
  zD l K (w64 (a+1))
  else
  some (.inl ())
def zA (N:Nat) (l:List Int):Option Int:=
 (zD l N 0).bind (fun
 |(.inl ())=>
 some 0
 |(.inr a)=>
 some a)
theorem jQ (N:Nat) (l:List Int) {res:Int} (h:zA N l=some res):qb ZT (.fn 52) [vl encI l] [] (.i res) []:=by
 unfold zA at h
 refine Ub Tryz.func52 rfl rfl (m:=15) rfl (rs:=[.tmp 2]) rfl (l:=(kAi l [])) rfl ?_
 refine sh fol (kAi l []) ?_
 refine sq ?_
 refine sh fol (kAs l [(6,.i (l.length:Int)),(7,.i 0)]) ?_
 refine Goes.block ?_
 obtain⟨d,g2,h⟩:=bnd h
 refine Goes.imp (Q:=fun x s'=>(x= .exit 0/\(.inl ())=d/\Sub s' (ofG 15 [],[]))\/(x= .ret/\ ∃e,(.inr e)=d/\vI ZT [.tmp 2] (.i e) .ret s')) ?_ ?_
 ·refine Uc (fun M s=> ∃(a:Int),s=(ofG 15 (kAs l (kAA (l.length:Int) a [])),[])/\zD l M a=some d) ?_ (m:=N) ⟨_,rfl,g2⟩
  rintro M s ⟨a,rfl,g2⟩
  cases M with
  |zero=>simp only[zD]at g2;cases g2
  |succ M=>
   rw[zD]at g2
   refine sh fol (kAs l (kAA (l.length:Int) a (kBa (decide (a<(l.length:Int)))))) ?_
   refine sq ?_
   refine ihD g2 (fun f g2=>?_) (fun f g2=>?_)
   ·refine Goes.skip ?_
    refine sq (Goes.block ?_)
    obtain⟨c,b,g2⟩:=bnd g2
    refine sq (gr fol [0,1] ((4,.i c)::(kAs l (kAA (l.length:Int) a []))) (ac (iv qqm encI b) (ac (lv 0 ce30 encI b rfl) az)) ?_)
    refine sh fol ((4,.i c)::(kAs l (kAA (l.length:Int) a (kA1 (!decide (c=0)))))) ?_
    refine ihB g2 (fun g g2=>?_) (fun g g2=>?_)
    ·refine sh fol (kA3 c) ?_
     refine Goes.ret ?_
     obtain rfl:=si g2
     exact Or.inr (⟨rfl,_,rfl,(gw2 [.i c] (Ua tI))⟩)
    refine Goes.skip ?_
    refine gh fol (kAs l (kAA (l.length:Int) (w64 (a+1)) [])) ?_
    exact⟨M,(ofG 15 (kAs l (kAA (l.length:Int) (w64 (a+1)) [])),[]),Nat.lt_succ_self _,(Sub.refl _),_,rfl,g2⟩
   refine Goes.exit ?_
   obtain rfl:=si g2
   exact Or.inl (⟨rfl,rfl,(Sub.keep [] rfl rfl)⟩)
 rintro x s' (⟨rfl,rfl,hsub⟩|⟨rfl,j,rfl,hret⟩)
 ·try dsimp only at h
  refine Goes.sub hsub ?_
  refine sh fol [(2,.i 0)] ?_
  refine Goes.ret ?_
  obtain rfl:=si h
  exact(gw2 [.i 0] (Ua tI))
 try dsimp only at h
 obtain rfl:=si h
 exact hret
def jK (holds:Bool) (e:Int):Option Int:=
 if holds=true then
 some e
 else
 some 0
theorem yI (holds:Bool) (e:Int) {res:Int} (h:jK holds e=some res):qb ZT (.fn 56) [.bool holds,.i e] [] (.i res) []:=by
 unfold jK at h
 refine Ub Tryz.func56 rfl rfl (m:=7) rfl (rs:=[.tmp 4]) rfl (l:=[(0,.bool holds),(1,.i e)]) rfl ?_
 refine sh fol [(0,.bool holds),(1,.i e)] ?_
 refine sq ?_
 refine sh fol ((1,.i e)::(kBh holds)) ?_
 refine ihB h (fun a h=>?_) (fun a h=>?_)
 ·refine sh fol (kBU e) ?_
  refine Goes.ret ?_
  obtain rfl:=si h
  exact(gw2 [.i e] (Ua tI))
 refine Goes.skip ?_
 refine sh fol kBc ?_
 refine Goes.ret ?_
 obtain rfl:=si h
 exact(gw2 [.i 0] (Ua tI))
def qam (n:Int) (least:Int) (most:Int):Option Int:=
 (if n<least then
 (jK true 3).bind fun a=>
 some a
 else
 (jK (decide (n>most)) 3).bind fun b=>
 some b:Option Int).bind fun c=>
 some c
theorem qcn (n:Int) (least:Int) (most:Int) {res:Int} (h:qam n least most=some res):qb ZT (.fn 77) [.i n,.i least,.i most] [] (.i res) []:=by
 unfold qam at h
 refine Ub Tryz.func77 rfl rfl (m:=16) rfl (rs:=[.tmp 6]) rfl (l:=(kAO n least (kA3 most))) rfl ?_
 refine sh fol (kAO n least (kA3 most)) ?_
 refine sq ?_
 obtain⟨e,a,h⟩:=bnd h
 refine Goes.cut (s':=(ofG 16 [(6,.i e)],[])) ?_ ?_
 ·rcases wyD a with⟨d,a⟩|⟨d,a⟩
  ·obtain⟨f,b,a⟩:=bnd a
   obtain rfl:=si a
   exact tr fol [3,8] [(6,.i f)] (ac (gw d) (ac (cv (yI true 3 b)) az))
  obtain⟨g,c,a⟩:=bnd a
  obtain rfl:=si a
  exact tr fol [3,8] [(6,.i g)] (ac (gw d) (ac (cv (yI (decide (n>most)) 3 c)) az))
 refine Goes.ret ?_
 obtain rfl:=si h
 exact(gw2 [.i e] (Ua tI))
def jb (N:Nat) (a:qC):Option Int:=
 (qam a.Length 1 999999999).bind fun b=>
 (qam a.Mass 1 999999999).bind fun c=>
 (zA N ([b,c]:List Int)).bind fun d=>
 some d
theorem yS (N:Nat) (a:qC) {res:Int} (h:jb N a=some res):qb ZT (.fn 27) [.agg [.i a.Length,.i a.Mass,.bool a.Direct]] [] (.i res) []:=by
 unfold jb at h
 refine Ub Tryz.func27 rfl rfl (m:=11) rfl (rs:=[.tmp 2]) rfl (l:=(kAz a.Length a.Mass a.Direct [])) rfl ?_
 refine sg fol (kR []) (kI a.Length a.Mass a.Direct []) ?_
 obtain⟨e,b,h⟩:=bnd h
 obtain⟨f,c,h⟩:=bnd h
 obtain⟨g,d,h⟩:=bnd h
 refine sq (gq fol [2,5,7] (kA3 g) (kI a.Length a.Mass a.Direct (kAE e f)) (ac (cv (qcn a.Length 1 999999999 b)) (ac (cv (qcn a.Mass 1 999999999 c)) (ac (hs (.call 52 [.slice 1 0 2 2 1] (kI a.Length a.Mass a.Direct (kAE e f)) [1] [vl encI ([e,f]:List Int)] (.i g)) (yN (FzL.cons (Fz.lit rfl rfl (Ud (AllST.cons tI (AllST.cons tI AllST.nil)))) FzL.nil) (jQ N ([e,f]:List Int) d) tI rfl)) az))) ?_)
 refine Goes.ret ?_
 obtain rfl:=si h
 exact(gw2 [.i g] (Ua tI))
def stringslite_HasPrefix (b:Str) (a:Str):Option Bool:=
 (if(b.length:Int)>=(a.length:Int)then
 (cut b 0 (a.length:Int)).bind fun c=>
 some (c==a)
 else
 some false:Option Bool).bind fun d=>
 some d
theorem yL (c:Str) (a:Str) {res:Bool} (h:stringslite_HasPrefix c a=some res):qb ZT (.fn 234) (kBY c a) [] (.bool res) []:=by
 unfold stringslite_HasPrefix at h
 refine Ub Tryz.func234 rfl rfl (m:=18) rfl (rs:=[.tmp 4]) rfl (l:=(kQ c a [])) rfl ?_
 refine sh fol (kQ c a []) ?_
 refine sq ?_
 obtain⟨f,b,h⟩:=bnd h
 refine Goes.cut (s':=(ofG 18 (kBM f),[])) ?_ ?_
 ·rcases wyD b with⟨e,b⟩|⟨e,b⟩
  ·obtain⟨g,d,b⟩:=bnd b
   obtain rfl:=si b
   exact tr fol [5,9] (kBM (g==a)) (ac (gw e) (ac (hs (.done (.opt (qQ ZT 9 (.str c) none (some (.i (a.length:Int))) none)) (.str g)) (zZ st9 none (some (a.length:Int)) d)) az))
  obtain rfl:=si b
  exact tr fol [5] kAp (ac (gw e) az)
 refine Goes.ret ?_
 obtain rfl:=si h
 exact(gw2 [.bool f] (Ua tB))
def stringslite_CutPrefix (b:Str) (a:Str):Option (Str×Bool):=
 (stringslite_HasPrefix b a).bind fun c=>
 if(!c)=true then
 some (b,false)
 else
 (cut b (a.length:Int) (b.length:Int)).bind fun d=>
 some (d,true)
theorem qcH (b:Str) (a:Str) {res:Str×Bool} (h:stringslite_CutPrefix b a=some res):qb ZT (.fn 181) (kBY b a) [] (.tuple [.str res.1,.bool res.2]) []:=by
 unfold stringslite_CutPrefix at h
 refine Ub Tryz.func181 rfl rfl (m:=15) rfl (rs:=[.tmp 4,.tmp 5]) rfl (l:=(kQ b a [])) rfl ?_
 refine sh fol (kQ b a []) ?_
 refine sq ?_
 obtain⟨f,c,h⟩:=bnd h
 refine sq (gr fol [2] (kQ b a [(9,.bool (!f))]) (ac (cv (yL b a c)) az) ?_)
 refine ihB h (fun g h=>?_) (fun g h=>?_)
 ·refine sh fol [(4,.str b),(5,.bool false)] ?_
  refine Goes.ret ?_
  obtain rfl:=si h
  exact(gw2 [.str b,.bool false] (FzW.tuple (qc.cons (Ua tS) (qc.cons (Ua tB) qc.nil))))
 refine Goes.skip ?_
 obtain⟨e,d,h⟩:=bnd h
 refine sq (gr fol [3] [(4,.str e),(5,.bool true)] (ac (hs (.done (.opt (qQ ZT 9 (.str b) (some (.i (a.length:Int))) none none)) (.str e)) (zZ st9 (some (a.length:Int)) none d)) az) ?_)
 refine Goes.ret ?_
 obtain rfl:=si h
 exact(gw2 [.str e,.bool true] (FzW.tuple (qc.cons (Ua tS) (qc.cons (Ua tB) qc.nil))))
def strings_CutPrefix (c:Str) (a:Str):Option (Str×Bool):=
 (stringslite_CutPrefix c a).bind fun b=>
 some (b.1,b.2)
theorem qd8 (b:Str) (a:Str) {res:Str×Bool} (h:strings_CutPrefix b a=some res):qb ZT (.fn 120) (kBY b a) [] (.tuple [.str res.1,.bool res.2]) []:=by
 unfold strings_CutPrefix at h
 refine Ub Tryz.func120 rfl rfl (m:=11) rfl (rs:=[.tmp 4,.tmp 5]) rfl (l:=(kQ b a [])) rfl ?_
 refine sh fol (kQ b a []) ?_
 obtain⟨d,c,h⟩:=bnd h
 refine sq (gr fol [2] ((4,.str d.1)::(kBh d.2)) (ac (cv (qcH b a c)) az) ?_)
 refine Goes.ret ?_
 obtain rfl:=si h
 exact(gw2 [.str d.1,.bool d.2] (FzW.tuple (qc.cons (Ua tS) (qc.cons (Ua tB) qc.nil))))
def stringslite_IndexByte (a:Str) (c:Int):Option Int:=
 (qiU a c).bind fun b=>
 some b
theorem qcI (a:Str) (c:Int) {res:Int} (h:stringslite_IndexByte a c=some res):qb ZT (.fn 262) [.str a,.int .u8 c] [] (.i res) []:=by
 unfold stringslite_IndexByte at h
 refine Ub Tryz.func262 rfl rfl (m:=8) rfl (rs:=[.tmp 4]) rfl (l:=(kA5 a [(1,.int .u8 c)])) rfl ?_
 refine sh fol (kA5 a [(1,.int .u8 c)]) ?_
 obtain⟨d,b,h⟩:=bnd h
 refine sq (gr fol [2] (kBU d) (ac (cv (qmG a c b)) az) ?_)
 refine Goes.ret ?_
 obtain rfl:=si h
 exact(gw2 [.i d] (Ua tI))
def stringslite_Index (a:Str) (substr:Str):Option Int:=
 (if(substr.length:Int)=0 then
 some true
 else
 some (substr==a):Option Bool).bind fun b=>
 if b=true then
 some 0
 else
 if(substr.length:Int)=1 then
 (idx substr 0).bind fun c=>
 (stringslite_IndexByte a (c.toNat:Int)).bind fun d=>
 some d
 else
 if(substr.length:Int)>=(a.length:Int)then
 some (-1)
 else
 none
theorem qd3 (b:Str) (substr:Str) {res:Int} (h:stringslite_Index b substr=some res):qb ZT (.fn 235) (kBY b substr) [] (.i res) []:=by
 unfold stringslite_Index at h
 refine Ub Tryz.func235 rfl rfl (m:=143) rfl (rs:=[.tmp 4]) rfl (l:=(kQ b substr [])) rfl ?_
 refine sh fol (kQ b substr []) ?_
 refine sh fol (kQ b substr (kAm (substr.length:Int))) ?_
 refine sq (Goes.block ?_)
 refine sq ?_
 obtain⟨j,a,h⟩:=bnd h
 refine Goes.cut (s':=(ofG 143 (kQ b substr [(5,.i (substr.length:Int)),(16,.bool j)]),[])) ?_ ?_
 ·rcases wyD a with⟨e,a⟩|⟨e,a⟩
  ·obtain rfl:=si a
   exact tr fol [2] (kQ b substr [(5,.i (substr.length:Int)),(16,.bool true)]) (ac (gw e) az)
  obtain rfl:=si a
  exact tr fol [2] (kQ b substr [(5,.i (substr.length:Int)),(16,.bool (substr==b))]) (ac (gw e) az)
 refine ihB h (fun k h=>?_) (fun k h=>?_)
 ·refine sh fol kBc ?_
  refine Goes.ret ?_
  obtain rfl:=si h
  exact(gw2 [.i 0] (Ua tI))
 refine sh fol (kQ b substr [(5,.i (substr.length:Int)),(24,.bool (decide ((substr.length:Int)=1)))]) ?_
 refine ihD h (fun n h=>?_) (fun n h=>?_)
 ·obtain⟨f,c,h⟩:=bnd h
  obtain⟨g,d,h⟩:=bnd h
  refine sq (gr fol [2,3] (kBU g) (ac (hs (.done (.opt (yu ZT 9 (.str substr) (.i 0))) (.int .u8 (f.toNat:Int))) (qaD st9 c)) (ac (cv (qcI b (f.toNat:Int) d)) az)) ?_)
  refine Goes.ret ?_
  obtain rfl:=si h
  exact(gw2 [.i g] (Ua tI))
 refine sh fol (kQ b substr [(5,.i (substr.length:Int)),(31,.bool (decide ((substr.length:Int)>=(b.length:Int))))]) ?_
 refine ihD h (fun o h=>?_) (fun o h=>?_)
 ·refine sh fol [(4,.i (-1))] ?_
  refine Goes.ret ?_
  obtain rfl:=si h
  exact(gw2 [.i (-1)] (Ua tI))
 cases h
def stringslite_Cut (a:Str) (sep:Str):Option (Str×Str×Bool):=
 (stringslite_Index a sep).bind fun b=>
 if b>=0 then
 (cut a 0 b).bind fun c=>
 (cut a (w64 (b+(sep.length:Int))) (a.length:Int)).bind fun d=>
 some (c,d,true)
 else
 some (a,[],false)
theorem qe2 (a:Str) (sep:Str) {res:Str×Str×Bool} (h:stringslite_Cut a sep=some res):qb ZT (.fn 182) (kBY a sep) [] (.tuple [.str res.1,.str res.2.1,.bool res.2.2]) []:=by
 unfold stringslite_Cut at h
 refine Ub Tryz.func182 rfl rfl (m:=23) rfl (rs:=[.tmp 4,.tmp 5,.tmp 6]) rfl (l:=(kQ a sep [])) rfl ?_
 refine sh fol (kQ a sep []) ?_
 refine sq ?_
 obtain⟨b,c,h⟩:=bnd h
 refine sq (gr fol [2] (kQ a sep [(7,.i b)]) (ac (cv (qd3 a sep c)) az) ?_)
 refine sh fol (kQ a sep ((7,.i b)::(kA1 (decide (b>=0))))) ?_
 refine ihD h (fun j h=>?_) (fun j h=>?_)
 ·obtain⟨f,d,h⟩:=bnd h
  obtain⟨g,e,h⟩:=bnd h
  refine sq (gr fol [2,8] [(4,.str f),(5,.str g),(6,.bool true)] (ac (hs (.done (.opt (qQ ZT 9 (.str a) none (some (.i b)) none)) (.str f)) (zZ st9 none (some b) d)) (ac (hs (.done (.opt (qQ ZT 9 (.str a) (some (.i (w64 (b+(sep.length:Int))))) none none)) (.str g)) (zZ st9 (some (w64 (b+(sep.length:Int)))) none e)) az)) ?_)
  refine Goes.ret ?_
  obtain rfl:=si h
  exact(gw2 [.str f,.str g,.bool true] (FzW.tuple (qc.cons (Ua tS) (qc.cons (Ua tS) (qc.cons (Ua tB) qc.nil)))))
 refine Goes.skip ?_
 refine sh fol ((4,.str a)::(5,.str [])::kAR) ?_
 refine Goes.ret ?_
 obtain rfl:=si h
 exact(gw2 [.str a,.str [],.bool false] (FzW.tuple (qc.cons (Ua tS) (qc.cons (Ua tS) (qc.cons (Ua tB) qc.nil)))))
def strings_Cut (b:Str) (sep:Str):Option (Str×Str×Bool):=
 (stringslite_Cut b sep).bind fun a=>
 some (a.1,a.2.1,a.2.2)
theorem qeg (b:Str) (sep:Str) {res:Str×Str×Bool} (h:strings_Cut b sep=some res):qb ZT (.fn 121) (kBY b sep) [] (.tuple [.str res.1,.str res.2.1,.bool res.2.2]) []:=by
 unfold strings_Cut at h
 refine Ub Tryz.func121 rfl rfl (m:=13) rfl (rs:=[.tmp 4,.tmp 5,.tmp 6]) rfl (l:=(kQ b sep [])) rfl ?_
 refine sh fol (kQ b sep []) ?_
 obtain⟨a,c,h⟩:=bnd h
 refine sq (gr fol [2] ((4,.str a.1)::(5,.str a.2.1)::(kA0 a.2.2)) (ac (cv (qe2 b sep c)) az) ?_)
 refine Goes.ret ?_
 obtain rfl:=si h
 exact(gw2 [.str a.1,.str a.2.1,.bool a.2.2] (FzW.tuple (qc.cons (Ua tS) (qc.cons (Ua tS) (qc.cons (Ua tB) qc.nil)))))
def jM (a:Str):Option Bool:=
 (if(!(a==[]))=true then
 (qkq a [48,49,50,51,52,53,54,55,56,57]).bind fun b=>
 if(b==[])=true then
 (idx a 0).bind fun c=>
 if(!decide ((c.toNat:Int)=48))=true then
 some true
 else
 some (a==[48])
 else
 some false
 else
 some false:Option Bool).bind fun d=>
 some d
theorem jv (c:Str) {res:Bool} (h:jM c=some res):qb ZT (.fn 122) [.str c] [] (.bool res) []:=by
 unfold jM at h
 refine Ub Tryz.func122 rfl rfl (m:=19) rfl (rs:=[.tmp 2]) rfl (l:=(kAH c)) rfl ?_
 refine sh fol (kAH c) ?_
 refine sq ?_
 obtain⟨j,a,h⟩:=bnd h
 refine Goes.cut (s':=(ofG 19 (kBQ j),[])) ?_ ?_
 ·rcases wyB a with⟨e,a⟩|⟨e,a⟩
  ·obtain⟨n,b,a⟩:=bnd a
   rcases wyB a with⟨f,a⟩|⟨f,a⟩
   ·obtain⟨k,d,a⟩:=bnd a
    rcases wyB a with⟨g,a⟩|⟨g,a⟩
    ·obtain rfl:=si a
     exact tr fol [2,4,7,9,11] kBd (ac (gw e) (ac (cv (qhg c [48,49,50,51,52,53,54,55,56,57] b)) (ac (gw f) (ac (hs (.done (.opt (yu ZT 9 (.str c) (.i 0))) (.int .u8 (k.toNat:Int))) (qaD st9 d)) (ac (gw g) az)))))
    obtain rfl:=si a
    exact tr fol [2,4,7,9,11] (kBQ (c==[48])) (ac (gw e) (ac (cv (qhg c [48,49,50,51,52,53,54,55,56,57] b)) (ac (gw f) (ac (hs (.done (.opt (yu ZT 9 (.str c) (.i 0))) (.int .u8 (k.toNat:Int))) (qaD st9 d)) (ac (gw g) az)))))
   obtain rfl:=si a
   exact tr fol [2,4,7] kAq (ac (gw e) (ac (cv (qhg c [48,49,50,51,52,53,54,55,56,57] b)) (ac (gw f) az)))
  obtain rfl:=si a
  exact tr fol [2] kAq (ac (gw e) az)
 refine Goes.ret ?_
 obtain rfl:=si h
 exact(gw2 [.bool j] (Ua tB))
def zC (l:List Int):Nat->Int->Option (Unit⊕Int)
 |0,_=>none
 |K+1,a=>
  if a<(l.length:Int)then
  (idx l a).bind fun b=>
  if(!decide (b=0))=true then
  some (.inr b)
  else
  zC l K (w64 (a+1))
  else
  some (.inl ())
def yJ (N:Nat) (l:List Int):Option Int:=
 (zC l N 0).bind (fun
 |(.inl ())=>
 some 0
 |(.inr a)=>
 some a)
theorem qdN (N:Nat) (l:List Int) {res:Int} (h:yJ N l=some res):qb ZT (.fn 123) [vl encI l] [] (.i res) []:=by
 unfold yJ at h
 refine Ub Tryz.func123 rfl rfl (m:=15) rfl (rs:=[.tmp 2]) rfl (l:=(kAi l [])) rfl ?_
 refine sh fol (kAi l []) ?_
 refine sq ?_
 refine sh fol (kAs l [(6,.i (l.length:Int)),(7,.i 0)]) ?_
 refine Goes.block ?_
 obtain⟨d,g2,h⟩:=bnd h
 refine Goes.imp (Q:=fun x s'=>(x= .exit 0/\(.inl ())=d/\Sub s' (ofG 15 [],[]))\/(x= .ret/\ ∃e,(.inr e)=d/\vI ZT [.tmp 2] (.i e) .ret s')) ?_ ?_
 ·refine Uc (fun M s=> ∃(a:Int),s=(ofG 15 (kAs l (kAA (l.length:Int) a [])),[])/\zC l M a=some d) ?_ (m:=N) ⟨_,rfl,g2⟩
  rintro M s ⟨a,rfl,g2⟩
  cases M with
  |zero=>simp only[zC]at g2;cases g2
  |succ M=>
   rw[zC]at g2
   refine sh fol (kAs l (kAA (l.length:Int) a (kBa (decide (a<(l.length:Int)))))) ?_
   refine sq ?_
   refine ihD g2 (fun f g2=>?_) (fun f g2=>?_)
   ·refine Goes.skip ?_
    refine sq (Goes.block ?_)
    obtain⟨c,b,g2⟩:=bnd g2
    refine sq (gr fol [0,1] ((4,.i c)::(kAs l (kAA (l.length:Int) a []))) (ac (iv qqm encI b) (ac (lv 0 ce30 encI b rfl) az)) ?_)
    refine sh fol ((4,.i c)::(kAs l (kAA (l.length:Int) a (kA1 (!decide (c=0)))))) ?_
    refine ihB g2 (fun g g2=>?_) (fun g g2=>?_)
    ·refine sh fol (kA3 c) ?_
     refine Goes.ret ?_
     obtain rfl:=si g2
     exact Or.inr (⟨rfl,_,rfl,(gw2 [.i c] (Ua tI))⟩)
    refine Goes.skip ?_
    refine gh fol (kAs l (kAA (l.length:Int) (w64 (a+1)) [])) ?_
    exact⟨M,(ofG 15 (kAs l (kAA (l.length:Int) (w64 (a+1)) [])),[]),Nat.lt_succ_self _,(Sub.refl _),_,rfl,g2⟩
   refine Goes.exit ?_
   obtain rfl:=si g2
   exact Or.inl (⟨rfl,rfl,(Sub.keep [] rfl rfl)⟩)
 rintro x s' (⟨rfl,rfl,hsub⟩|⟨rfl,j,rfl,hret⟩)
 ·try dsimp only at h
  refine Goes.sub hsub ?_
  refine sh fol [(2,.i 0)] ?_
  refine Goes.ret ?_
  obtain rfl:=si h
  exact(gw2 [.i 0] (Ua tI))
 try dsimp only at h
 obtain rfl:=si h
 exact hret
def zw (holds:Bool) (e:Int):Option Int:=
 if holds=true then
 some e
 else
 some 0
theorem qal (holds:Bool) (e:Int) {res:Int} (h:zw holds e=some res):qb ZT (.fn 124) [.bool holds,.i e] [] (.i res) []:=by
 unfold zw at h
 refine Ub Tryz.func124 rfl rfl (m:=7) rfl (rs:=[.tmp 4]) rfl (l:=[(0,.bool holds),(1,.i e)]) rfl ?_
 refine sh fol [(0,.bool holds),(1,.i e)] ?_
 refine sq ?_
 refine sh fol ((1,.i e)::(kBh holds)) ?_
 refine ihB h (fun a h=>?_) (fun a h=>?_)
 ·refine sh fol (kBU e) ?_
  refine Goes.ret ?_
  obtain rfl:=si h
  exact(gw2 [.i e] (Ua tI))
 refine Goes.skip ?_
 refine sh fol kBc ?_
 refine Goes.ret ?_
 obtain rfl:=si h
 exact(gw2 [.i 0] (Ua tI))
def qcl (n:Int):Option Int:=
 if n<0 then
 some (IntKind.wrap .u64 (w64 (0-n)))
 else
 some (IntKind.wrap .u64 n)
theorem qef (n:Int) {res:Int} (h:qcl n=some res):qb ZT (.fn 201) [.i n] [] (.int .u64 res) []:=by
 unfold qcl at h
 refine Ub Tryz.func201 rfl rfl (m:=10) rfl (rs:=[.tmp 2]) rfl (l:=[(0,.i n)]) rfl ?_
 refine sh fol [(0,.i n)] ?_
 refine sq ?_
 refine sh fol ((0,.i n)::(kBM (decide (n<0)))) ?_
 refine ihD h (fun a h=>?_) (fun a h=>?_)
 ·refine sh fol [(2,.int .u64 (IntKind.wrap .u64 (w64 (0-n))))] ?_
  refine Goes.ret ?_
  obtain rfl:=si h
  exact(gw2 [.int .u64 (IntKind.wrap .u64 (w64 (0-n)))] (Ua tI))
 refine Goes.skip ?_
 refine sh fol [(2,.int .u64 (IntKind.wrap .u64 n))] ?_
 refine Goes.ret ?_
 obtain rfl:=si h
 exact(gw2 [.int .u64 (IntKind.wrap .u64 n)] (Ua tI))
def qF (a:qj):Option (Bool×(List Int)):=
 if(!a.w.isEmpty)=true then
 some (decide (a.s<0),a.w)
 else
 if a.s=0 then
 some (false,[])
 else
 (qcl a.s).bind fun b=>
 some (decide (a.s<0),[b])
theorem zF (a:qj) {res:Bool×(List Int)} (h:qF a=some res):qb ZT (.fn 194) [.agg (nz1 a)] [] (.tuple [.bool res.1,vl (qa .u64) res.2]) []:=by
 unfold qF at h
 refine Ub Tryz.func194 rfl rfl (m:=24) rfl (rs:=[.tmp 2,.tmp 3]) rfl (l:=[(0,.agg (nz1 a))]) rfl ?_
 refine sg fol (kR []) [.cells (nz1 a)] ?_
 refine sq (Goes.block ?_)
 refine sq (gr fol [2] (kR (kBM (!a.w.isEmpty))) (ac (hs (.done (.opt (qY ZT .neq 103 (.tmp 6) (.const (.slice none 0 0)) (nvl (qa .u64) a.w) .nilslice)) (.bool (!a.w.isEmpty))) (ne_nv vX)) az) ?_)
 refine ihB h (fun c h=>?_) (fun c h=>?_)
 ·refine sh fol [(2,.bool (decide (a.s<0))),(3,nvl (qa .u64) a.w)] ?_
  refine Goes.ret ?_
  obtain rfl:=si h
  exact(gw2 [.bool (decide (a.s<0)),nvl (qa .u64) a.w] (FzW.tuple (qc.cons (Ua tB) (qc.cons (FzW.nvL (E:=(qa .u64)) (nl rfl)) qc.nil))))
 refine sh fol (kR (kBE (decide (a.s=0)))) ?_
 refine ihD h (fun d h=>?_) (fun d h=>?_)
 ·refine sh fol [(2,.bool false),(3,.nilslice)] ?_
  refine Goes.ret ?_
  obtain rfl:=si h
  exact(gw2 [.bool false,.nilslice] (FzW.tuple (qc.cons (Ua tB) (qc.cons (FzW.nilv (E:=(qa .u64))) qc.nil))))
 refine Goes.skip ?_
 obtain⟨e,b,h⟩:=bnd h
 refine sq (gq fol [5] [(2,.bool (decide (a.s<0))),(3,.slice 1 0 1 1 1)] [.cells (nz1 a),.cells [.int .u64 e]] (ac (cv (qef a.s b)) az) ?_)
 refine Goes.ret ?_
 obtain rfl:=si h
 exact(gw2 [.bool (decide (a.s<0)),.slice 1 0 1 1 1] (FzW.tuple (qc.cons (Ua tB) (qc.cons (FzW.fz (Fz.lit rfl rfl (Ud (AllST.cons tI AllST.nil)))) qc.nil))))
def vo (neg:Bool) (w:List Int):Option qj:=
 if(w.length:Int)=0 then
 some (⟨0,[]⟩:qj)
 else
 (if(w.length:Int)=1 then
 (idx w 0).bind fun d=>
 if d<=9223372036854775807 then
 some neg
 else
 some false
 else
 some false:Option Bool).bind fun e=>
 if e=true then
 (idx w 0).bind fun f=>
 some (⟨w64 (0-(w64 f)),[]⟩:qj)
 else
 (if(w.length:Int)=1 then
 (idx w 0).bind fun a=>
 some (decide (a<=9223372036854775807))
 else
 some false:Option Bool).bind fun b=>
 if b=true then
 (idx w 0).bind fun c=>
 some (⟨w64 c,[]⟩:qj)
 else
 if neg=true then
 some (⟨(-1),w⟩:qj)
 else
 some (⟨1,w⟩:qj)
theorem qaf (neg:Bool) (w:List Int) {res:qj} (h:vo neg w=some res):qb ZT (.fn 195) [.bool neg,vl (qa .u64) w] [] (.agg (nz1 res)) []:=by
 unfold vo at h
 refine Ub Tryz.func195 rfl rfl (m:=50) rfl (rs:=[.cell 4 105]) rfl (l:=[(0,.bool neg),(1,vl (qa .u64) w)]) rfl ?_
 refine sg fol ((0,.bool neg)::(1,vl (qa .u64) w)::(kAP [])) [bZ] ?_
 refine sq (Goes.block ?_)
 refine sh fol ((0,.bool neg)::(1,vl (qa .u64) w)::(kAP (kBh (decide ((w.length:Int)=0))))) ?_
 refine ihD h (fun t h=>?_) (fun t h=>?_)
 ·refine sh fol (kAP []) ?_
  refine Goes.ret ?_
  obtain rfl:=si h
  exact(gw2 [.agg [.i 0,.nilslice]] (FzW.agg (qc.cons (Ua tI) (qc.cons (FzW.nv0 (E:=(qa .u64))) qc.nil))))
 refine sq ?_
 obtain⟨u,a,h⟩:=bnd h
 refine Goes.cut (s':=(ofG 50 ((0,.bool neg)::(1,vl (qa .u64) w)::(kAP (kBR u))),[bZ])) ?_ ?_
 ·rcases wyD a with⟨j,a⟩|⟨j,a⟩
  ·obtain⟨x,c,a⟩:=bnd a
   rcases wyD a with⟨k,a⟩|⟨k,a⟩
   ·obtain rfl:=si a
    exact tr fol [3,5,6,9] ((0,.bool neg)::(1,vl (qa .u64) w)::(kAP (kBR neg))) (ac (gw j) (ac (iv qI (qa .u64) c) (ac (lv 0 zP (qa .u64) c rfl) (ac (gw k) az))))
   obtain rfl:=si a
   exact tr fol [3,5,6,9] ((0,.bool neg)::(1,vl (qa .u64) w)::(kAP [(10,.bool false)])) (ac (gw j) (ac (iv qI (qa .u64) c) (ac (lv 0 zP (qa .u64) c rfl) (ac (gw k) az))))
  obtain rfl:=si a
  exact tr fol [3] ((0,.bool neg)::(1,vl (qa .u64) w)::(kAP [(10,.bool false)])) (ac (gw j) az)
 refine ihB h (fun v h=>?_) (fun v h=>?_)
 ·obtain⟨s,f,h⟩:=bnd h
  refine sq (gq fol [1,2] (kAP []) (kBC (w64 (0-(w64 s)))) (ac (iv qI (qa .u64) f) (ac (lv 0 zP (qa .u64) f rfl) az)) ?_)
  refine Goes.ret ?_
  obtain rfl:=si h
  exact(gw2 [.agg [.i (w64 (0-(w64 s))),.nilslice]] (FzW.agg (qc.cons (Ua tI) (qc.cons (FzW.nv0 (E:=(qa .u64))) qc.nil))))
 refine sq ?_
 obtain⟨n,b,h⟩:=bnd h
 refine Goes.cut (s':=(ofG 50 ((0,.bool neg)::(1,vl (qa .u64) w)::(kAP [(29,.bool n)])),[bZ])) ?_ ?_
 ·rcases wyD b with⟨o,b⟩|⟨o,b⟩
  ·obtain⟨p,d,b⟩:=bnd b
   obtain rfl:=si b
   exact tr fol [3,5,6] ((0,.bool neg)::(1,vl (qa .u64) w)::(kAP [(29,.bool (decide (p<=9223372036854775807)))])) (ac (gw o) (ac (iv qI (qa .u64) d) (ac (lv 0 zP (qa .u64) d rfl) az)))
  obtain rfl:=si b
  exact tr fol [3] ((0,.bool neg)::(1,vl (qa .u64) w)::(kAP [(29,.bool false)])) (ac (gw o) az)
 refine ihB h (fun q h=>?_) (fun q h=>?_)
 ·obtain⟨g,e,h⟩:=bnd h
  refine sq (gq fol [1,2] (kAP []) (kBC (w64 g)) (ac (iv qI (qa .u64) e) (ac (lv 0 zP (qa .u64) e rfl) az)) ?_)
  refine Goes.ret ?_
  obtain rfl:=si h
  exact(gw2 [.agg [.i (w64 g),.nilslice]] (FzW.agg (qc.cons (Ua tI) (qc.cons (FzW.nv0 (E:=(qa .u64))) qc.nil))))
 refine sh fol ((1,vl (qa .u64) w)::(kAP [(44,.bool neg)])) ?_
 refine ihB h (fun r h=>?_) (fun r h=>?_)
 ·refine sg fol (kAP []) [.cells [.i (-1),vl (qa .u64) w]] ?_
  refine Goes.ret ?_
  obtain rfl:=si h
  exact(gw2 [.agg [.i (-1),vl (qa .u64) w]] (FzW.agg (qc.cons (Ua tI) (qc.cons (FzW.Lnv (E:=(qa .u64)) (by first|omega|(simp only[decide_eq_false_iff_not,decide_eq_true_eq]at*;omega)) (nl rfl)) qc.nil))))
 refine Goes.skip ?_
 refine sg fol (kAP []) [.cells [.i 1,vl (qa .u64) w]] ?_
 refine Goes.ret ?_
 obtain rfl:=si h
 exact(gw2 [.agg [.i 1,vl (qa .u64) w]] (FzW.agg (qc.cons (Ua tI) (qc.cons (FzW.Lnv (E:=(qa .u64)) (by first|omega|(simp only[decide_eq_false_iff_not,decide_eq_true_eq]at*;omega)) (nl rfl)) qc.nil))))
def zk (a:qj):Option qj:=
 (if a.w.isEmpty=true then
 some (!decide (a.s=(-9223372036854775808)))
 else
 some false:Option Bool).bind fun c=>
 if c=true then
 some (⟨w64 (0-a.s),[]⟩:qj)
 else
 (qF a).bind fun b=>
 (vo (!b.1) b.2).bind fun d=>
 some d
theorem jl (a:qj) {res:qj} (h:zk a=some res):qb ZT (.fn 148) [.agg (nz1 a)] [] (.agg (nz1 res)) []:=by
 unfold zk at h
 refine Ub Tryz.func148 rfl rfl (m:=26) rfl (rs:=[.cell 2 105]) rfl (l:=[(0,.agg (nz1 a))]) rfl ?_
 refine sg fol (kR kAj) [.cells (nz1 a),bZ] ?_
 refine sq ?_
 refine sq ?_
 obtain⟨j,b,h⟩:=bnd h
 refine Goes.cut (s':=(ofG 26 (kR ((2,.ptr 1 0)::(kA1 j))),[.cells (nz1 a),bZ])) ?_ ?_
 ·rcases wyB b with⟨g,b⟩|⟨g,b⟩
  ·obtain rfl:=si b
   exact tr fol [2,3] (kR ((2,.ptr 1 0)::(kA1 (!decide (a.s=(-9223372036854775808)))))) (ac (hs (.done (.opt (qY ZT .eql 103 (.tmp 6) (.const (.slice none 0 0)) (nvl (qa .u64) a.w) .nilslice)) (.bool a.w.isEmpty)) (qaB vX)) (ac (gw g) az))
  obtain rfl:=si b
  exact tr fol [2,3] (kR [(2,.ptr 1 0),(12,.bool false)]) (ac (hs (.done (.opt (qY ZT .eql 103 (.tmp 6) (.const (.slice none 0 0)) (nvl (qa .u64) a.w) .nilslice)) (.bool a.w.isEmpty)) (qaB vX)) (ac (gw g) az))
 refine ihB h (fun k h=>?_) (fun k h=>?_)
 ·refine sg fol kAj (.cells (nz1 a)::(kBC (w64 (0-a.s)))) ?_
  refine Goes.ret ?_
  obtain rfl:=si h
  exact(gw2 [.agg [.i (w64 (0-a.s)),.nilslice]] (FzW.agg (qc.cons (Ua tI) (qc.cons (FzW.nv0 (E:=(qa .u64))) qc.nil))))
 refine Goes.skip ?_
 obtain⟨e,c,h⟩:=bnd h
 refine sq (gr fol [1] ((2,.ptr 1 0)::(kBF e.1 [(4,vl (qa .u64) e.2)])) (ac (cv (zF a c)) az) ?_)
 obtain⟨f,d,h⟩:=bnd h
 refine sq (gq fol [3,4] kAj [.cells (nz1 a),.cells (nz1 f)] (ac (cv (qaf (!e.1) e.2 d)) (ac (hs (.run [1] (qp ZT 105 (.ptr 1 0) (.agg (nz1 f))) [.cells (nz1 a),bZ] .undef [.cells (nz1 a),.cells (nz1 f)] true) (qX (n:=2) (by kernel_rfl) rfl rfl rfl rfl (cac rfl (cac nvc can)) rfl)) az)) ?_)
 refine Goes.ret ?_
 obtain rfl:=si h
 exact(gw2 [.agg (nz1 f)] (FzW.agg (qc.cons (Ua tI) (qc.cons (Ua (qo (qa .u64) _ (nl rfl))) qc.nil))))
def qaW (a:qj):Option qj:=
 if a.s<0 then
 (zk a).bind fun b=>
 some b
 else
 some a
theorem qdY (a:qj) {res:qj} (h:qaW a=some res):qb ZT (.fn 184) [.agg (nz1 a)] [] (.agg (nz1 res)) []:=by
 unfold qaW at h
 refine Ub Tryz.func184 rfl rfl (m:=9) rfl (rs:=[.cell 2 105]) rfl (l:=[(0,.agg (nz1 a))]) rfl ?_
 refine sg fol (kR kAj) [.cells (nz1 a),bZ] ?_
 refine sq ?_
 refine sh fol (kR ((2,.ptr 1 0)::(kBh (decide (a.s<0))))) ?_
 refine ihD h (fun d h=>?_) (fun d h=>?_)
 ·obtain⟨c,b,h⟩:=bnd h
  refine sq (gq fol [1,2] kAj [.cells (nz1 a),.cells (nz1 c)] (ac (cv (jl a b)) (ac (hs (.run [1] (qp ZT 105 (.ptr 1 0) (.agg (nz1 c))) [.cells (nz1 a),bZ] .undef [.cells (nz1 a),.cells (nz1 c)] true) (qX (n:=2) (by kernel_rfl) rfl rfl rfl rfl (cac rfl (cac nvc can)) rfl)) az)) ?_)
  refine Goes.ret ?_
  obtain rfl:=si h
  exact(gw2 [.agg (nz1 c)] (FzW.agg (qc.cons (Ua tI) (qc.cons (Ua (qo (qa .u64) _ (nl rfl))) qc.nil))))
 refine Goes.skip ?_
 refine sq (gq fol [1] kAj [.cells (nz1 a),.cells (nz1 a)] (ac (hs (.run [1] (qp ZT 105 (.ptr 1 0) (.agg (nz1 a))) [.cells (nz1 a),bZ] .undef [.cells (nz1 a),.cells (nz1 a)] true) (qX (n:=2) (by kernel_rfl) rfl rfl rfl rfl (cac rfl (cac nvc can)) rfl)) az) ?_)
 refine Goes.ret ?_
 obtain rfl:=si h
 exact(gw2 [.agg (nz1 a)] (FzW.agg (qc.cons (Ua tI) (qc.cons (Ua (qo (qa .u64) _ (nl rfl))) qc.nil))))
def qV (a:qj):Option Int:=
 some (if(if a.s<1 then a.s else 1)>(-1)then(if a.s<1 then a.s else 1)else(-1))
theorem yz (a:qj) {res:Int} (h:qV a=some res):qb ZT (.fn 185) [.agg (nz1 a)] [] (.i res) []:=by
 unfold qV at h
 refine Ub Tryz.func185 rfl rfl (m:=7) rfl (rs:=[.tmp 2]) rfl (l:=[(0,.agg (nz1 a))]) rfl ?_
 refine sg fol (kR []) [.cells (nz1 a)] ?_
 refine sh fol (kA3 (if(if a.s<1 then a.s else 1)>(-1)then(if a.s<1 then a.s else 1)else(-1))) ?_
 refine Goes.ret ?_
 obtain rfl:=si h
 exact(gw2 [.i (if(if a.s<1 then a.s else 1)>(-1)then(if a.s<1 then a.s else 1)else(-1))] (Ua tI))
def qcb (n:Int):Option qj:=
 some (⟨n,[]⟩:qj)
theorem qbr (n:Int) {res:qj} (h:qcb n=some res):qb ZT (.fn 128) [.i n] [] (.agg (nz1 res)) []:=by
 unfold qcb at h
 refine Ub Tryz.func128 rfl rfl (m:=5) rfl (rs:=[.cell 2 105]) rfl (l:=[(0,.i n)]) rfl ?_
 refine sg fol ((0,.i n)::(kM [])) [bZ] ?_
 refine sg fol (kM []) (kBC n) ?_
 refine Goes.ret ?_
 obtain rfl:=si h
 exact(gw2 [.agg [.i n,.nilslice]] (FzW.agg (qc.cons (Ua tI) (qc.cons (FzW.nv0 (E:=(qa .u64))) qc.nil))))
def qag (w:List Int):Nat->Int->Option Int
 |0,_=>none
 |K+1,a=>
  (if a>0 then
  (idx w (w64 (a-1))).bind fun b=>
  some (decide (b=0))
  else
  some false:Option Bool).bind fun c=>
  if c=true then
  qag w K (w64 (a-1))
  else
  some a
def xc (N:Nat) (w:List Int):Option (List Int):=
 (qag w N (w.length:Int)).bind fun a=>
 (cut w 0 a).bind fun b=>
 some b
theorem xu (N:Nat) (w:List Int) {res:List Int} (h:xc N w=some res):qb ZT (.fn 254) [vl (qa .u64) w] [] (vl (qa .u64) res) []:=by
 unfold xc at h
 refine Ub Tryz.func254 rfl rfl (m:=21) rfl (rs:=[.tmp 2]) rfl (l:=[(0,vl (qa .u64) w)]) rfl ?_
 refine sh fol [(0,vl (qa .u64) w)] ?_
 refine sh fol [(0,vl (qa .u64) w),(3,.i (w.length:Int))] ?_
 refine sq (Goes.block ?_)
 obtain⟨j,g3,h⟩:=bnd h
 refine Goes.imp (Q:=fun x s'=>(x= .exit 0/\ ∃d,d=j/\Sub s' (ofG 21 [(0,vl (qa .u64) w),(3,.i d)],[]))) ?_ ?_
 ·refine Uc (fun M s=> ∃(b:Int),s=(ofG 21 [(0,vl (qa .u64) w),(3,.i b)],[])/\qag w M b=some j) ?_ (m:=N) ⟨_,rfl,g3⟩
  rintro M s ⟨b,rfl,g3⟩
  cases M with
  |zero=>simp only[qag]at g3;cases g3
  |succ M=>
   rw[qag]at g3
   refine sq ?_
   refine sq ?_
   obtain⟨k,a,g3⟩:=bnd g3
   refine Goes.cut (s':=(ofG 21 ((0,vl (qa .u64) w)::(3,.i b)::(kBe k)),[])) ?_ ?_
   ·rcases wyD a with⟨f,a⟩|⟨f,a⟩
    ·obtain⟨n,c,a⟩:=bnd a
     obtain rfl:=si a
     exact tr fol [2,6,7] ((0,vl (qa .u64) w)::(3,.i b)::(kBe (decide (n=0)))) (ac (gw f) (ac (iv qI (qa .u64) c) (ac (lv 0 zP (qa .u64) c rfl) az)))
    obtain rfl:=si a
    exact tr fol [2] [(0,vl (qa .u64) w),(3,.i b),(15,.bool false)] (ac (gw f) az)
   refine ihB g3 (fun o g3=>?_) (fun o g3=>?_)
   ·refine Goes.skip ?_
    refine Goes.block ?_
    refine gh fol [(0,vl (qa .u64) w),(3,.i (w64 (b-1)))] ?_
    exact⟨M,(ofG 21 [(0,vl (qa .u64) w),(3,.i (w64 (b-1)))],[]),Nat.lt_succ_self _,(Sub.refl _),_,rfl,g3⟩
   refine Goes.exit ?_
   obtain rfl:=si g3
   exact⟨rfl,_,rfl,(Sub.keep [0,3] rfl rfl)⟩
 rintro x s' ⟨rfl,d,rfl,hsub⟩
 refine Goes.sub hsub ?_
 obtain⟨g,e,h⟩:=bnd h
 refine sq (gr fol [2] [(2,vl (qa .u64) g)] (ac (hs (.done (.opt (qQ ZT 103 (vl (qa .u64) w) none (some (.i d)) none)) (vl (qa .u64) g)) (qjE qI (E:=(qa .u64)) rfl none (some d) e)) az) ?_)
 refine Goes.ret ?_
 obtain rfl:=si h
 exact(gw2 [vl (qa .u64) g] (Ua (qw (qa .u64) _ (nl rfl))))
def zW (c:List Int) (d:List Int):Nat->(List Int)->Int->Int->Option ((List Int)×Int)
 |0,_,_,_=>none
 |K+1,e,a,j=>
  if a<(c.length:Int)then
  ((if a<(d.length:Int)then
  (idx d a).bind fun f=>
  some f
  else
  some 0:Option Int)).bind fun g=>
  (idx c a).bind fun h=>
  (xS h g j).bind fun b=>
  (idx e a).bind fun k=>
  (put e a b.1).bind fun i=>
  zW c d K i (w64 (a+1)) b.2
  else
  some (e,j)
def qax (N:Nat) (b:List Int) (y:List Int):Option (List Int):=
 ((if(b.length:Int)<(y.length:Int)then
 some (y,b)
 else
 some (b,y):Option ((List Int)×(List Int)))).bind fun(a,g)=>
 (mk 8 (w64 ((a.length:Int)+1)) 0).bind fun h=>
 (zW a g N h 0 0).bind fun(f,c)=>
 (idx f (a.length:Int)).bind fun i=>
 (put f (a.length:Int) c).bind fun d=>
 (xc N d).bind fun e=>
 some e
theorem qgr (N:Nat) (B:List Int) (y:List Int) {res:List Int} (h:qax N B y=some res):qb ZT (.fn 196) [vl (qa .u64) B,vl (qa .u64) y] [] (vl (qa .u64) res) []:=by
 unfold qax at h
 refine Ub Tryz.func196 rfl rfl (m:=54) rfl (rs:=[.tmp 4]) rfl (l:=[(0,vl (qa .u64) B),(1,vl (qa .u64) y)]) rfl ?_
 refine sh fol [(0,vl (qa .u64) B),(1,vl (qa .u64) y)] ?_
 refine sq ?_
 refine sh fol ((0,vl (qa .u64) B)::(1,vl (qa .u64) y)::(kBE (decide ((B.length:Int)<(y.length:Int))))) ?_
 obtain⟨P,g3,h⟩:=bnd h
 refine Goes.imp (Q:=fun x s'=>(x= .normal/\ ∃a e,(a,e)=P/\Sub s' (ofG 54 [(0,vl (qa .u64) a),(1,vl (qa .u64) e)],[]))) ?_ ?_
 ·refine ihD g3 (fun U g3=>?_) (fun U g3=>?_)
  ·refine gh fol [(0,vl (qa .u64) y),(1,vl (qa .u64) B)] ?_
   obtain rfl:=si g3
   exact⟨rfl,_,_,rfl,(Sub.refl _)⟩
  refine Goes.skip ?_
  obtain rfl:=si g3
  exact⟨rfl,_,_,rfl,(Sub.keep [0,1] rfl rfl)⟩
 rintro x s' ⟨rfl,a,e,rfl,hsub⟩
 try dsimp only at h
 refine Goes.sub hsub ?_
 obtain⟨C,G,h⟩:=bnd h
 refine sq (gq fol [3] ((0,vl (qa .u64) a)::(1,vl (qa .u64) e)::(kD C [])) [.cells (C.flatMap (qa .u64).c)] (ac (hs (.run [] (ji ZT 103 (.i (w64 ((a.length:Int)+1))) (.i (w64 ((a.length:Int)+1)))) [] (.slice 0 0 C.length C.length 1) [.cells (C.flatMap (qa .u64).c)] false) (qdr qI (E:=(qa .u64)) (z:=0) rfl (by kernel_rfl) G rfl)) az) ?_)
 refine sh fol ((0,vl (qa .u64) a)::(1,vl (qa .u64) e)::(kD C [(6,.int .u64 0)])) ?_
 refine sq ?_
 refine sh fol ((0,vl (qa .u64) a)::(1,vl (qa .u64) e)::(kD C [(6,.int .u64 0),(21,.i (a.length:Int)),(22,.i 0)])) ?_
 refine Goes.block ?_
 obtain⟨H,g11,h⟩:=bnd h
 refine Goes.imp (Q:=fun x s'=>(x= .exit 0/\ ∃v k,(v,k)=H/\Sub s' (ofG 54 ((0,vl (qa .u64) a)::(kD v (kAQ k []))),[.cells (v.flatMap (qa .u64).c)]))) ?_ ?_
 ·refine Uc (fun M s=> ∃(f:List Int) (d:Int) (w:Int),s=(ofG 54 ((0,vl (qa .u64) a)::(1,vl (qa .u64) e)::(kD f (kAQ w (kAI (a.length:Int) d [])))),[.cells (f.flatMap (qa .u64).c)])/\zW a e M f d w=some H) ?_ (m:=N) ⟨_,_,_,rfl,g11⟩
  rintro M s ⟨f,d,w,rfl,g11⟩
  cases M with
  |zero=>simp only[zW]at g11;cases g11
  |succ M=>
   rw[zW]at g11
   refine sh fol ((0,vl (qa .u64) a)::(1,vl (qa .u64) e)::(kD f (kAQ w (kAI (a.length:Int) d [(23,.bool (decide (d<(a.length:Int))))])))) ?_
   refine sq ?_
   refine ihD g11 (fun I g11=>?_) (fun I g11=>?_)
   ·refine Goes.skip ?_
    refine sq (Goes.block ?_)
    refine sh fol ((0,vl (qa .u64) a)::(1,vl (qa .u64) e)::(kD f (kAQ w ((7,.i d)::(kAI (a.length:Int) d []))))) ?_
    refine sh fol ((0,vl (qa .u64) a)::(1,vl (qa .u64) e)::(kD f (kAQ w ((7,.i d)::(kBi (kAI (a.length:Int) d [])))))) ?_
    refine sq ?_
    refine sh fol ((0,vl (qa .u64) a)::(1,vl (qa .u64) e)::(kD f (kAQ w ((7,.i d)::(kBi (kAI (a.length:Int) d [(28,.bool (decide (d<(e.length:Int))))])))))) ?_
    obtain⟨J,g14,g11⟩:=bnd g11
    refine Goes.imp (Q:=fun x s'=>(x= .normal/\ ∃A,A=J/\Sub s' (ofG 54 ((0,vl (qa .u64) a)::(1,vl (qa .u64) e)::(kD f (kAQ w ((7,.i d)::(8,.int .u64 A)::(kAI (a.length:Int) d []))))),[.cells (f.flatMap (qa .u64).c)]))) ?_ ?_
    ·refine ihD g14 (fun K g14=>?_) (fun K g14=>?_)
     ·obtain⟨L,n,g14⟩:=bnd g14
      refine gr fol [2,3] ((0,vl (qa .u64) a)::(1,vl (qa .u64) e)::(kD f (kAQ w ((7,.i d)::(8,.int .u64 L)::(kAI (a.length:Int) d []))))) (ac (iv qI (qa .u64) n) (ac (lv 0 zP (qa .u64) n rfl) az)) ?_
      obtain rfl:=si g14
      exact⟨rfl,_,rfl,(Sub.refl _)⟩
     refine Goes.skip ?_
     obtain rfl:=si g14
     exact⟨rfl,_,rfl,(Sub.keep [0,1,5,6,7,8,21,22] rfl rfl)⟩
    rintro x s' ⟨rfl,A,rfl,hsub⟩
    refine Goes.sub hsub ?_
    obtain⟨O,o,g11⟩:=bnd g11
    obtain⟨j,D,g11⟩:=bnd g11
    obtain⟨V,p,g11⟩:=bnd g11
    obtain⟨g,q,g11⟩:=bnd g11
    refine gq fol [4,5,8,12,13] ((0,vl (qa .u64) a)::(1,vl (qa .u64) e)::(kD f (kAQ j.2 (kAI (a.length:Int) d [])))) [.cells (g.flatMap (qa .u64).c)] (ac (iv qI (qa .u64) o) (ac (lv 0 zP (qa .u64) o rfl) (ac (cv (qce O A w D)) (ac (hs (.done (.opt (qg ZT 103 (.slice 0 0 f.length f.length 1) (.i d))) (.ptr 0 ((d:Int).toNat*1+0))) (qaC qI p)) (ac (hs (.run [0] (qp ZT 227 (.ptr 0 ((d:Int).toNat*1+0)) (.int .u64 j.1)) [.cells (f.flatMap (qa .u64).c)] .undef [.cells (g.flatMap (qa .u64).c)] true) (qao (E:=(qa .u64)) (l:=f) (y:=j.1) rfl (show _=some 1 by kernel_rfl) rfl p rfl rfl rfl rfl rfl q rfl)) az))))) ?_
    refine Goes.sub (show Sub (ofG 54 ((0,vl (qa .u64) a)::(1,vl (qa .u64) e)::(kD f (kAQ j.2 (kAI (a.length:Int) d [])))),[.cells (g.flatMap (qa .u64).c)]) (ofG 54 ((0,vl (qa .u64) a)::(1,vl (qa .u64) e)::(kD g (kAQ j.2 (kAI (a.length:Int) d [])))),[.cells (g.flatMap (qa .u64).c)])from(Sub.norm [] [some 0] rfl rfl (.keep (.same (qd (qa .u64) _)) (.keep (.same (qd (qa .u64) _)) (.keep (.sliceE rfl (vM q)) (.keep (.same nI) (.keep (.same nI) (.keep (.same nI) .nil)))))) (.ks .nil))) ?_
    refine gh fol ((0,vl (qa .u64) a)::(1,vl (qa .u64) e)::(kD g (kAQ j.2 (kAI (a.length:Int) (w64 (d+1)) [])))) ?_
    exact⟨M,(ofG 54 ((0,vl (qa .u64) a)::(1,vl (qa .u64) e)::(kD g (kAQ j.2 (kAI (a.length:Int) (w64 (d+1)) [])))),[.cells (g.flatMap (qa .u64).c)]),Nat.lt_succ_self _,(Sub.refl _),_,_,_,rfl,g11⟩
   refine Goes.exit ?_
   obtain rfl:=si g11
   exact⟨rfl,_,_,rfl,(Sub.keep [0,5,6] rfl rfl)⟩
 rintro x s' ⟨rfl,v,k,rfl,hsub⟩
 try dsimp only at h
 refine Goes.sub hsub ?_
 obtain⟨X,r,h⟩:=bnd h
 obtain⟨b,t,h⟩:=bnd h
 refine sq (gq fol [4,5] (kD v []) [.cells (b.flatMap (qa .u64).c)] (ac (hs (.done (.opt (qg ZT 103 (.slice 0 0 v.length v.length 1) (.i (a.length:Int)))) (.ptr 0 (((a.length:Int):Int).toNat*1+0))) (qaC qI r)) (ac (hs (.run [0] (qp ZT 227 (.ptr 0 (((a.length:Int):Int).toNat*1+0)) (.int .u64 k)) [.cells (v.flatMap (qa .u64).c)] .undef [.cells (b.flatMap (qa .u64).c)] true) (qao (E:=(qa .u64)) (l:=v) (y:=k) rfl (show _=some 1 by kernel_rfl) rfl r rfl rfl rfl rfl rfl t rfl)) az)) ?_)
 refine Goes.sub (show Sub (ofG 54 (kD v []),[.cells (b.flatMap (qa .u64).c)]) (ofG 54 (kD b []),[.cells (b.flatMap (qa .u64).c)])from(Sub.norm [] [some 0] rfl rfl (.keep (.sliceE rfl (vM t)) .nil) (.ks .nil))) ?_
 obtain⟨u,F,h⟩:=bnd h
 refine sq (gq fol [1] [(4,vl (qa .u64) u)] [.frozen (b.flatMap (qa .u64).c)] (ac (hs (.callF 254 [.slice 0 0 b.length b.length 1] [.cells (b.flatMap (qa .u64).c)] [0] [vl (qa .u64) b] (vl (qa .u64) u)) (qaQ (FzL.cons (Fz.sl (E:=(qa .u64)) rfl rfl (nl rfl)) FzL.nil) (xu N b F) (qw (qa .u64) _ (nl rfl)))) az) ?_)
 refine Goes.sub (show Sub (ofG 54 [(4,vl (qa .u64) u)],[.frozen (b.flatMap (qa .u64).c)]) (ofG 54 [(4,vl (qa .u64) u)],[])from(Sub.norm [] [] rfl rfl (.keep (.same (qd (qa .u64) _)) .nil) .nil)) ?_
 refine Goes.ret ?_
 obtain rfl:=si h
 exact(gw2 [vl (qa .u64) u] (Ua (qw (qa .u64) _ (nl rfl))))
def zi (a:List Int) (b:List Int):Nat->Int->Option (Unit⊕Int)
 |0,_=>none
 |K+1,c=>
  if c>=0 then
  (idx a c).bind fun d=>
  (idx b c).bind fun e=>
  if(!decide (d=e))=true then
  if d<e then
  some (.inr (-1))
  else
  some (.inr 1)
  else
  zi a b K (w64 (c-1))
  else
  some (.inl ())
def jJ (N:Nat) (a:List Int) (b:List Int):Option Int:=
 if(!decide ((a.length:Int)=(b.length:Int)))=true then
 if(a.length:Int)<(b.length:Int)then
 some (-1)
 else
 some 1
 else
 (zi a b N (w64 ((a.length:Int)-1))).bind (fun
 |(.inl ())=>
 some 0
 |(.inr c)=>
 some c)
theorem qbM (N:Nat) (a:List Int) (b:List Int) {res:Int} (h:jJ N a b=some res):qb ZT (.fn 197) [vl (qa .u64) a,vl (qa .u64) b] [] (.i res) []:=by
 unfold jJ at h
 refine Ub Tryz.func197 rfl rfl (m:=41) rfl (rs:=[.tmp 4]) rfl (l:=[(0,vl (qa .u64) a),(1,vl (qa .u64) b)]) rfl ?_
 refine sh fol [(0,vl (qa .u64) a),(1,vl (qa .u64) b)] ?_
 refine sq ?_
 refine sh fol ((0,vl (qa .u64) a)::(1,vl (qa .u64) b)::(kBR (!decide ((a.length:Int)=(b.length:Int))))) ?_
 refine ihB h (fun o h=>?_) (fun o h=>?_)
 ·refine sq ?_
  refine sh fol (kBe (decide ((a.length:Int)<(b.length:Int)))) ?_
  refine ihD h (fun p h=>?_) (fun p h=>?_)
  ·refine sh fol [(4,.i (-1))] ?_
   refine Goes.ret ?_
   obtain rfl:=si h
   exact(gw2 [.i (-1)] (Ua tI))
  refine Goes.skip ?_
  refine sh fol [(4,.i 1)] ?_
  refine Goes.ret ?_
  obtain rfl:=si h
  exact(gw2 [.i 1] (Ua tI))
 refine Goes.skip ?_
 refine sq ?_
 refine sh fol ((0,vl (qa .u64) a)::(1,vl (qa .u64) b)::(kAm (w64 ((a.length:Int)-1)))) ?_
 refine Goes.block ?_
 obtain⟨f,g4,h⟩:=bnd h
 refine Goes.imp (Q:=fun x s'=>(x= .exit 0/\(.inl ())=f/\Sub s' (ofG 41 [],[]))\/(x= .ret/\ ∃j,(.inr j)=f/\vI ZT [.tmp 4] (.i j) .ret s')) ?_ ?_
 ·refine Uc (fun M s=> ∃(e:Int),s=(ofG 41 ((0,vl (qa .u64) a)::(1,vl (qa .u64) b)::(kAm e)),[])/\zi a b M e=some f) ?_ (m:=N) ⟨_,rfl,g4⟩
  rintro M s ⟨e,rfl,g4⟩
  cases M with
  |zero=>simp only[zi]at g4;cases g4
  |succ M=>
   rw[zi]at g4
   refine sq ?_
   refine sh fol [(0,vl (qa .u64) a),(1,vl (qa .u64) b),(5,.i e),(20,.bool (decide (e>=0)))] ?_
   refine ihD g4 (fun q g4=>?_) (fun q g4=>?_)
   ·refine Goes.skip ?_
    refine sq (Goes.block ?_)
    obtain⟨k,c,g4⟩:=bnd g4
    obtain⟨n,d,g4⟩:=bnd g4
    refine sq (gr fol [2,3,6,7] [(0,vl (qa .u64) a),(1,vl (qa .u64) b),(5,.i e),(31,.bool (!decide (k=n)))] (ac (iv qI (qa .u64) c) (ac (lv 0 zP (qa .u64) c rfl) (ac (iv qI (qa .u64) d) (ac (lv 0 zP (qa .u64) d rfl) az)))) ?_)
    refine ihB g4 (fun r g4=>?_) (fun r g4=>?_)
    ·refine sq ?_
     refine sq (gr fol [2,3,6,7] [(40,.bool (decide (k<n)))] (ac (iv qI (qa .u64) c) (ac (lv 0 zP (qa .u64) c rfl) (ac (iv qI (qa .u64) d) (ac (lv 0 zP (qa .u64) d rfl) az)))) ?_)
     refine ihD g4 (fun g g4=>?_) (fun g g4=>?_)
     ·refine sh fol [(4,.i (-1))] ?_
      refine Goes.ret ?_
      obtain rfl:=si g4
      exact Or.inr (⟨rfl,_,rfl,(gw2 [.i (-1)] (Ua tI))⟩)
     refine Goes.skip ?_
     refine sh fol [(4,.i 1)] ?_
     refine Goes.ret ?_
     obtain rfl:=si g4
     exact Or.inr (⟨rfl,_,rfl,(gw2 [.i 1] (Ua tI))⟩)
    refine Goes.skip ?_
    refine gh fol ((0,vl (qa .u64) a)::(1,vl (qa .u64) b)::(kAm (w64 (e-1)))) ?_
    exact⟨M,(ofG 41 ((0,vl (qa .u64) a)::(1,vl (qa .u64) b)::(kAm (w64 (e-1)))),[]),Nat.lt_succ_self _,(Sub.refl _),_,rfl,g4⟩
   refine Goes.exit ?_
   obtain rfl:=si g4
   exact Or.inl (⟨rfl,rfl,(Sub.keep [] rfl rfl)⟩)
 rintro x s' (⟨rfl,rfl,hsub⟩|⟨rfl,t,rfl,hret⟩)
 ·try dsimp only at h
  refine Goes.sub hsub ?_
  refine sh fol kBc ?_
  refine Goes.ret ?_
  obtain rfl:=si h
  exact(gw2 [.i 0] (Ua tI))
 try dsimp only at h
 obtain rfl:=si h
 exact hret
def jA (c:List Int) (y:List Int):Nat->(List Int)->Int->Int->Option (List Int)
 |0,_,_,_=>none
 |K+1,d,a,h=>
  if a<(c.length:Int)then
  ((if a<(y.length:Int)then
  (idx y a).bind fun e=>
  some e
  else
  some 0:Option Int)).bind fun i=>
  (idx c a).bind fun f=>
  (qdZ f i h).bind fun b=>
  (idx d a).bind fun j=>
  (put d a b.1).bind fun g=>
  jA c y K g (w64 (a+1)) b.2
  else
  some d
def yK (N:Nat) (b:List Int) (y:List Int):Option (List Int):=
 (mk 8 (b.length:Int) 0).bind fun c=>
 (jA b y N c 0 0).bind fun d=>
 (xc N d).bind fun a=>
 some a
theorem qdO (N:Nat) (a:List Int) (y:List Int) {res:List Int} (h:yK N a y=some res):qb ZT (.fn 198) [vl (qa .u64) a,vl (qa .u64) y] [] (vl (qa .u64) res) []:=by
 unfold yK at h
 refine Ub Tryz.func198 rfl rfl (m:=41) rfl (rs:=[.tmp 4]) rfl (l:=[(0,vl (qa .u64) a),(1,vl (qa .u64) y)]) rfl ?_
 refine sh fol [(0,vl (qa .u64) a),(1,vl (qa .u64) y)] ?_
 obtain⟨r,v,h⟩:=bnd h
 refine sq (gq fol [2] ((0,vl (qa .u64) a)::(1,vl (qa .u64) y)::(kD r [])) [.cells (r.flatMap (qa .u64).c)] (ac (hs (.run [] (ji ZT 103 (.i (a.length:Int)) (.i (a.length:Int))) [] (.slice 0 0 r.length r.length 1) [.cells (r.flatMap (qa .u64).c)] false) (qdr qI (E:=(qa .u64)) (z:=0) rfl (by kernel_rfl) v rfl)) az) ?_)
 refine sh fol ((0,vl (qa .u64) a)::(1,vl (qa .u64) y)::(kD r [(6,.int .u64 0)])) ?_
 refine sq ?_
 refine sh fol ((0,vl (qa .u64) a)::(1,vl (qa .u64) y)::(kD r [(6,.int .u64 0),(13,.i (a.length:Int)),(14,.i 0)])) ?_
 refine Goes.block ?_
 obtain⟨D,g6,h⟩:=bnd h
 refine Goes.imp (Q:=fun x s'=>(x= .exit 0/\ ∃g,g=D/\Sub s' (ofG 41 (kD g []),[.cells (g.flatMap (qa .u64).c)]))) ?_ ?_
 ·refine Uc (fun M s=> ∃(d:List Int) (b:Int) (q:Int),s=(ofG 41 ((0,vl (qa .u64) a)::(1,vl (qa .u64) y)::(kD d (kAQ q (kAV (a.length:Int) b)))),[.cells (d.flatMap (qa .u64).c)])/\jA a y M d b q=some D) ?_ (m:=N) ⟨_,_,_,rfl,g6⟩
  rintro M s ⟨d,b,q,rfl,g6⟩
  cases M with
  |zero=>simp only[jA]at g6;cases g6
  |succ M=>
   rw[jA]at g6
   refine sh fol ((0,vl (qa .u64) a)::(1,vl (qa .u64) y)::(kD d (kAQ q ((13,.i (a.length:Int))::(14,.i b)::(kBe (decide (b<(a.length:Int)))))))) ?_
   refine sq ?_
   refine ihD g6 (fun F g6=>?_) (fun F g6=>?_)
   ·refine Goes.skip ?_
    refine sq (Goes.block ?_)
    refine sh fol ((0,vl (qa .u64) a)::(1,vl (qa .u64) y)::(kD d (kAQ q ((7,.i b)::(kAV (a.length:Int) b))))) ?_
    refine sh fol ((0,vl (qa .u64) a)::(1,vl (qa .u64) y)::(kD d (kAQ q ((7,.i b)::(kBi (kAV (a.length:Int) b)))))) ?_
    refine sq ?_
    refine sh fol ((0,vl (qa .u64) a)::(1,vl (qa .u64) y)::(kD d (kAQ q ((7,.i b)::(kBi [(13,.i (a.length:Int)),(14,.i b),(20,.bool (decide (b<(y.length:Int))))]))))) ?_
    obtain⟨G,g9,g6⟩:=bnd g6
    refine Goes.imp (Q:=fun x s'=>(x= .normal/\ ∃w,w=G/\Sub s' (ofG 41 ((0,vl (qa .u64) a)::(1,vl (qa .u64) y)::(kD d (kAQ q ((7,.i b)::(8,.int .u64 w)::(kAV (a.length:Int) b))))),[.cells (d.flatMap (qa .u64).c)]))) ?_ ?_
    ·refine ihD g9 (fun A g9=>?_) (fun A g9=>?_)
     ·obtain⟨B,j,g9⟩:=bnd g9
      refine gr fol [2,3] ((0,vl (qa .u64) a)::(1,vl (qa .u64) y)::(kD d (kAQ q ((7,.i b)::(8,.int .u64 B)::(kAV (a.length:Int) b))))) (ac (iv qI (qa .u64) j) (ac (lv 0 zP (qa .u64) j rfl) az)) ?_
      obtain rfl:=si g9
      exact⟨rfl,_,rfl,(Sub.refl _)⟩
     refine Goes.skip ?_
     obtain rfl:=si g9
     exact⟨rfl,_,rfl,(Sub.keep [0,1,5,6,7,8,13,14] rfl rfl)⟩
    rintro x s' ⟨rfl,w,rfl,hsub⟩
    refine Goes.sub hsub ?_
    obtain⟨C,k,g6⟩:=bnd g6
    obtain⟨f,t,g6⟩:=bnd g6
    obtain⟨H,n,g6⟩:=bnd g6
    obtain⟨e,o,g6⟩:=bnd g6
    refine gq fol [4,5,8,12,13] ((0,vl (qa .u64) a)::(1,vl (qa .u64) y)::(kD d (kAQ f.2 (kAV (a.length:Int) b)))) [.cells (e.flatMap (qa .u64).c)] (ac (iv qI (qa .u64) k) (ac (lv 0 zP (qa .u64) k rfl) (ac (cv (qhw C w q t)) (ac (hs (.done (.opt (qg ZT 103 (.slice 0 0 d.length d.length 1) (.i b))) (.ptr 0 ((b:Int).toNat*1+0))) (qaC qI n)) (ac (hs (.run [0] (qp ZT 227 (.ptr 0 ((b:Int).toNat*1+0)) (.int .u64 f.1)) [.cells (d.flatMap (qa .u64).c)] .undef [.cells (e.flatMap (qa .u64).c)] true) (qao (E:=(qa .u64)) (l:=d) (y:=f.1) rfl (show _=some 1 by kernel_rfl) rfl n rfl rfl rfl rfl rfl o rfl)) az))))) ?_
    refine Goes.sub (show Sub (ofG 41 ((0,vl (qa .u64) a)::(1,vl (qa .u64) y)::(kD d (kAQ f.2 (kAV (a.length:Int) b)))),[.cells (e.flatMap (qa .u64).c)]) (ofG 41 ((0,vl (qa .u64) a)::(1,vl (qa .u64) y)::(kD e (kAQ f.2 (kAV (a.length:Int) b)))),[.cells (e.flatMap (qa .u64).c)])from(Sub.norm [] [some 0] rfl rfl (.keep (.same (qd (qa .u64) _)) (.keep (.same (qd (qa .u64) _)) (.keep (.sliceE rfl (vM o)) (.keep (.same nI) (.keep (.same nI) (.keep (.same nI) .nil)))))) (.ks .nil))) ?_
    refine gh fol ((0,vl (qa .u64) a)::(1,vl (qa .u64) y)::(kD e (kAQ f.2 (kAV (a.length:Int) (w64 (b+1)))))) ?_
    exact⟨M,(ofG 41 ((0,vl (qa .u64) a)::(1,vl (qa .u64) y)::(kD e (kAQ f.2 (kAV (a.length:Int) (w64 (b+1)))))),[.cells (e.flatMap (qa .u64).c)]),Nat.lt_succ_self _,(Sub.refl _),_,_,_,rfl,g6⟩
   refine Goes.exit ?_
   obtain rfl:=si g6
   exact⟨rfl,_,rfl,(Sub.keep [5] rfl rfl)⟩
 rintro x s' ⟨rfl,g,rfl,hsub⟩
 refine Goes.sub hsub ?_
 obtain⟨p,u,h⟩:=bnd h
 refine sq (gq fol [1] [(4,vl (qa .u64) p)] [.frozen (g.flatMap (qa .u64).c)] (ac (hs (.callF 254 [.slice 0 0 g.length g.length 1] [.cells (g.flatMap (qa .u64).c)] [0] [vl (qa .u64) g] (vl (qa .u64) p)) (qaQ (FzL.cons (Fz.sl (E:=(qa .u64)) rfl rfl (nl rfl)) FzL.nil) (xu N g u) (qw (qa .u64) _ (nl rfl)))) az) ?_)
 refine Goes.sub (show Sub (ofG 41 [(4,vl (qa .u64) p)],[.frozen (g.flatMap (qa .u64).c)]) (ofG 41 [(4,vl (qa .u64) p)],[])from(Sub.norm [] [] rfl rfl (.keep (.same (qd (qa .u64) _)) .nil) .nil)) ?_
 refine Goes.ret ?_
 obtain rfl:=si h
 exact(gw2 [vl (qa .u64) p] (Ua (qw (qa .u64) _ (nl rfl))))
def xw (N:Nat) (a:qj) (b:qj):Option qj:=
 (if a.w.isEmpty=true then
 some b.w.isEmpty
 else
 some false:Option Bool).bind fun m=>
 ((if m=true then
 if((decide ((w64 (a.s+b.s))>a.s))==(decide (b.s>0)))=true then
 some (.inr (⟨w64 (a.s+b.s),[]⟩:qj))
 else
 some (.inl ())
 else
 some (.inl ()):Option (Unit⊕qj))).bind (fun
 |(.inl ())=>
 (qF a).bind fun c=>
 (qF b).bind fun d=>
 if(c.1==d.1)=true then
 (qax N c.2 d.2).bind fun e=>
 (vo c.1 e).bind fun f=>
 some f
 else
 (jJ N c.2 d.2).bind fun g=>
 if g>=0 then
 (yK N c.2 d.2).bind fun h=>
 (vo c.1 h).bind fun i=>
 some i
 else
 (yK N d.2 c.2).bind fun j=>
 (vo d.1 j).bind fun k=>
 some k
 |(.inr l)=>
 some l)
theorem qca (N:Nat) (a:qj) (b:qj) {res:qj} (h:xw N a b=some res):qb ZT (.fn 135) [.agg (nz1 a),.agg (nz1 b)] [] (.agg (nz1 res)) []:=by
 unfold xw at h
 refine Ub Tryz.func135 rfl rfl (m:=67) rfl (rs:=[.cell 4 105]) rfl (l:=[(0,.agg (nz1 a)),(1,.agg (nz1 b))]) rfl ?_
 refine sg fol (kE []) [.cells (nz1 a),.cells (nz1 b),bZ] ?_
 refine sq ?_
 refine sq ?_
 obtain⟨J,c,h⟩:=bnd h
 refine Goes.cut (s':=(ofG 67 (kE [(17,.bool J)]),[.cells (nz1 a),.cells (nz1 b),bZ])) ?_ ?_
 ·rcases wyB c with⟨z,c⟩|⟨z,c⟩
  ·obtain rfl:=si c
   exact tr fol [2,3,6] (kE [(17,.bool b.w.isEmpty)]) (ac (hs (.done (.opt (qY ZT .eql 103 (.tmp 11) (.const (.slice none 0 0)) (nvl (qa .u64) a.w) .nilslice)) (.bool a.w.isEmpty)) (qaB vX)) (ac (gw z) (ac (hs (.done (.opt (qY ZT .eql 103 (.tmp 15) (.const (.slice none 0 0)) (nvl (qa .u64) b.w) .nilslice)) (.bool b.w.isEmpty)) (qaB vX)) az)))
  obtain rfl:=si c
  exact tr fol [2,3] (kE [(17,.bool false)]) (ac (hs (.done (.opt (qY ZT .eql 103 (.tmp 11) (.const (.slice none 0 0)) (nvl (qa .u64) a.w) .nilslice)) (.bool a.w.isEmpty)) (qaB vX)) (ac (gw z) az))
 obtain⟨H,g4,h⟩:=bnd h
 refine Goes.imp (Q:=fun x s'=>(x= .normal/\(.inl ())=H/\Sub s' (ofG 67 (kE []),[.cells (nz1 a),.cells (nz1 b),bZ]))\/(x= .ret/\ ∃I,(.inr I)=H/\vI ZT [.cell 4 105] (.agg (nz1 I)) .ret s')) ?_ ?_
 ·refine ihB g4 (fun K g4=>?_) (fun K g4=>?_)
  ·refine sh fol (kE (kAm (w64 (a.s+b.s)))) ?_
   refine sh fol (kE [(5,.i (w64 (a.s+b.s))),(30,.bool ((decide ((w64 (a.s+b.s))>a.s))==(decide (b.s>0))))]) ?_
   refine ihB g4 (fun L g4=>?_) (fun L g4=>?_)
   ·refine sg fol (kAS []) (.cells (nz1 a):: .cells (nz1 b)::(kBC (w64 (a.s+b.s)))) ?_
    refine Goes.ret ?_
    obtain rfl:=si g4
    exact Or.inr (⟨rfl,_,rfl,(gw2 [.agg [.i (w64 (a.s+b.s)),.nilslice]] (FzW.agg (qc.cons (Ua tI) (qc.cons (FzW.nv0 (E:=(qa .u64))) qc.nil))))⟩)
   refine Goes.skip ?_
   obtain rfl:=si g4
   exact Or.inl (⟨rfl,rfl,(Sub.keep [2,3,4] rfl rfl)⟩)
  refine Goes.skip ?_
  obtain rfl:=si g4
  exact Or.inl (⟨rfl,rfl,(Sub.keep [2,3,4] rfl rfl)⟩)
 rintro x s' (⟨rfl,rfl,hsub⟩|⟨rfl,M,rfl,hret⟩)
 ·try dsimp only at h
  refine Goes.sub hsub ?_
  obtain⟨d,v,h⟩:=bnd h
  refine sq (gr fol [1] (kAZ (kAS [(6,.bool d.1),(7,vl (qa .u64) d.2)])) (ac (cv (zF a v)) az) ?_)
  obtain⟨e,y,h⟩:=bnd h
  refine sq (gr fol [1] (kAS [(6,.bool d.1),(7,vl (qa .u64) d.2),(8,.bool e.1),(9,vl (qa .u64) e.2)]) (ac (cv (zF b y)) az) ?_)
  refine sq (Goes.block ?_)
  refine sh fol (kAS [(6,.bool d.1),(7,vl (qa .u64) d.2),(8,.bool e.1),(9,vl (qa .u64) e.2),(43,.bool (d.1==e.1))]) ?_
  refine ihB h (fun A h=>?_) (fun A h=>?_)
  ·obtain⟨B,k,h⟩:=bnd h
   obtain⟨f,o,h⟩:=bnd h
   refine sq (gq fol [3,4,5] (kAS []) [.cells (nz1 a),.cells (nz1 b),.cells (nz1 f)] (ac (cv (qgr N d.2 e.2 k)) (ac (cv (qaf d.1 B o)) (ac (hs (.run [2] (qp ZT 105 (.ptr 2 0) (.agg (nz1 f))) [.cells (nz1 a),.cells (nz1 b),bZ] .undef [.cells (nz1 a),.cells (nz1 b),.cells (nz1 f)] true) (qX (n:=2) (by kernel_rfl) rfl rfl rfl rfl (cac rfl (cac nvc can)) rfl)) az))) ?_)
   refine Goes.ret ?_
   obtain rfl:=si h
   exact(gw2 [.agg (nz1 f)] (FzW.agg (qc.cons (Ua tI) (qc.cons (Ua (qo (qa .u64) _ (nl rfl))) qc.nil))))
  obtain⟨C,p,h⟩:=bnd h
  refine sq (gr fol [2] (kAS [(6,.bool d.1),(7,vl (qa .u64) d.2),(8,.bool e.1),(9,vl (qa .u64) e.2),(52,.bool (decide (C>=0)))]) (ac (cv (qbM N d.2 e.2 p)) az) ?_)
  refine ihD h (fun D h=>?_) (fun D h=>?_)
  ·obtain⟨F,q,h⟩:=bnd h
   obtain⟨g,r,h⟩:=bnd h
   refine sq (gq fol [3,4,5] (kAS []) [.cells (nz1 a),.cells (nz1 b),.cells (nz1 g)] (ac (cv (qdO N d.2 e.2 q)) (ac (cv (qaf d.1 F r)) (ac (hs (.run [2] (qp ZT 105 (.ptr 2 0) (.agg (nz1 g))) [.cells (nz1 a),.cells (nz1 b),bZ] .undef [.cells (nz1 a),.cells (nz1 b),.cells (nz1 g)] true) (qX (n:=2) (by kernel_rfl) rfl rfl rfl rfl (cac rfl (cac nvc can)) rfl)) az))) ?_)
   refine Goes.ret ?_
   obtain rfl:=si h
   exact(gw2 [.agg (nz1 g)] (FzW.agg (qc.cons (Ua tI) (qc.cons (Ua (qo (qa .u64) _ (nl rfl))) qc.nil))))
  refine Goes.skip ?_
  obtain⟨G,t,h⟩:=bnd h
  obtain⟨j,u,h⟩:=bnd h
  refine sq (gq fol [3,4,5] (kAS []) [.cells (nz1 a),.cells (nz1 b),.cells (nz1 j)] (ac (cv (qdO N e.2 d.2 t)) (ac (cv (qaf e.1 G u)) (ac (hs (.run [2] (qp ZT 105 (.ptr 2 0) (.agg (nz1 j))) [.cells (nz1 a),.cells (nz1 b),bZ] .undef [.cells (nz1 a),.cells (nz1 b),.cells (nz1 j)] true) (qX (n:=2) (by kernel_rfl) rfl rfl rfl rfl (cac rfl (cac nvc can)) rfl)) az))) ?_)
  refine Goes.ret ?_
  obtain rfl:=si h
  exact(gw2 [.agg (nz1 j)] (FzW.agg (qc.cons (Ua tI) (qc.cons (Ua (qo (qa .u64) _ (nl rfl))) qc.nil))))
 try dsimp only at h
 obtain rfl:=si h
 exact hret
def xk (N:Nat) (a:qj) (b:qj):Option qj:=
 (zk b).bind fun c=>
 (xw N a c).bind fun d=>
 some d
theorem qeh (N:Nat) (a:qj) (b:qj) {res:qj} (h:xk N a b=some res):qb ZT (.fn 191) [.agg (nz1 a),.agg (nz1 b)] [] (.agg (nz1 res)) []:=by
 unfold xk at h
 refine Ub Tryz.func191 rfl rfl (m:=9) rfl (rs:=[.cell 4 105]) rfl (l:=[(0,.agg (nz1 a)),(1,.agg (nz1 b))]) rfl ?_
 refine sg fol (kE []) [.cells (nz1 a),.cells (nz1 b),bZ] ?_
 obtain⟨f,c,h⟩:=bnd h
 obtain⟨e,d,h⟩:=bnd h
 refine sq (gq fol [2,3,4] (kAS []) [.cells (nz1 a),.cells (nz1 b),.cells (nz1 e)] (ac (cv (jl b c)) (ac (cv (qca N a f d)) (ac (hs (.run [2] (qp ZT 105 (.ptr 2 0) (.agg (nz1 e))) [.cells (nz1 a),.cells (nz1 b),bZ] .undef [.cells (nz1 a),.cells (nz1 b),.cells (nz1 e)] true) (qX (n:=2) (by kernel_rfl) rfl rfl rfl rfl (cac rfl (cac nvc can)) rfl)) az))) ?_)
 refine Goes.ret ?_
 obtain rfl:=si h
 exact(gw2 [.agg (nz1 e)] (FzW.agg (qc.cons (Ua tI) (qc.cons (Ua (qo (qa .u64) _ (nl rfl))) qc.nil))))
def bits_Len64 (a:Int):Option Int:=
 ((if a>=4294967296 then
 some (qm .u64 a 32,32)
 else
 some (a,0):Option (Int×Int))).bind fun(b,f)=>
 ((if b>=65536 then
 some (qm .u64 b 16,w64 (f+16))
 else
 some (b,f):Option (Int×Int))).bind fun(c,g)=>
 ((if c>=256 then
 some (qm .u64 c 8,w64 (g+8))
 else
 some (c,g):Option (Int×Int))).bind fun(h,d)=>
 (idx ([0,1,2,2,3,3,3,3,4,4,4,4,4,4,4,4,5,5,5,5,5,5,5,5,5,5,5,5,5,5,5,5,6,6,6,6,6,6,6,6,6,6,6,6,6,6,6,6,6,6,6,6,6,6,6,6,6,6,6,6,6,6,6,6,7,7,7,7,7,7,7,7,7,7,7,7,7,7,7,7,7,7,7,7,7,7,7,7,7,7,7,7,7,7,7,7,7,7,7,7,7,7,7,7,7,7,7,7,7,7,7,7,7,7,7,7,7,7,7,7,7,7,7,7,7,7,7,7,8,8,8,8,8,8,8,8,8,8,8,8,8,8,8,8,8,8,8,8,8,8,8,8,8,8,8,8,8,8,8,8,8,8,8,8,8,8,8,8,8,8,8,8,8,8,8,8,8,8,8,8,8,8,8,8,8,8,8,8,8,8,8,8,8,8,8,8,8,8,8,8,8,8,8,8,8,8,8,8,8,8,8,8,8,8,8,8,8,8,8,8,8,8,8,8,8,8,8,8,8,8,8,8,8,8,8,8,8,8,8,8,8,8,8,8,8,8,8,8,8,8,8,8,8,8,8,8]:Str) (IntKind.wrap .u8 h)).bind fun e=>
 some (w64 (d+(w64 (e.toNat:Int))))
theorem qeS (b:Int) {res:Int} (h:bits_Len64 b=some res):qb ZT (.fn 279) [.int .u64 b] [] (.i res) []:=by
 unfold bits_Len64 at h
 refine Ub Tryz.func279 rfl rfl (m:=25) rfl (rs:=[.tmp 2]) rfl (l:=(kBX b [])) rfl ?_
 refine sh fol (kBX b [(2,.i 0)]) ?_
 refine sq ?_
 refine sh fol (kBX b ((2,.i 0)::(kBM (decide (b>=4294967296))))) ?_
 obtain⟨p,g3,h⟩:=bnd h
 refine Goes.imp (Q:=fun x s'=>(x= .normal/\ ∃c g,(c,g)=p/\Sub s' (ofG 25 (kBX c (kA3 g)),[]))) ?_ ?_
 ·refine ihD g3 (fun q g3=>?_) (fun q g3=>?_)
  ·refine sh fol (kBX (qm .u64 b 32) []) ?_
   refine gh fol (kBX (qm .u64 b 32) [(2,.i 32)]) ?_
   obtain rfl:=si g3
   exact⟨rfl,_,_,rfl,(Sub.refl _)⟩
  refine Goes.skip ?_
  obtain rfl:=si g3
  exact⟨rfl,_,_,rfl,(Sub.keep [0,2] rfl rfl)⟩
 rintro x s' ⟨rfl,c,g,rfl,hsub⟩
 try dsimp only at h
 refine Goes.sub hsub ?_
 refine sq ?_
 refine sh fol (kBX c ((2,.i g)::(kBa (decide (c>=65536))))) ?_
 obtain⟨r,g7,h⟩:=bnd h
 refine Goes.imp (Q:=fun x s'=>(x= .normal/\ ∃d j,(d,j)=r/\Sub s' (ofG 25 (kBX d (kA3 j)),[]))) ?_ ?_
 ·refine ihD g7 (fun s g7=>?_) (fun s g7=>?_)
  ·refine sh fol (kBX (qm .u64 c 16) (kA3 g)) ?_
   refine gh fol (kBX (qm .u64 c 16) (kA3 (w64 (g+16)))) ?_
   obtain rfl:=si g7
   exact⟨rfl,_,_,rfl,(Sub.refl _)⟩
  refine Goes.skip ?_
  obtain rfl:=si g7
  exact⟨rfl,_,_,rfl,(Sub.keep [0,2] rfl rfl)⟩
 rintro x s' ⟨rfl,d,j,rfl,hsub⟩
 try dsimp only at h
 refine Goes.sub hsub ?_
 refine sq ?_
 refine sh fol (kBX d [(2,.i j),(14,.bool (decide (d>=256)))]) ?_
 obtain⟨n,g11,h⟩:=bnd h
 refine Goes.imp (Q:=fun x s'=>(x= .normal/\ ∃k a,(k,a)=n/\Sub s' (ofG 25 (kBX k (kA3 a)),[]))) ?_ ?_
 ·refine ihD g11 (fun o g11=>?_) (fun o g11=>?_)
  ·refine sh fol (kBX (qm .u64 d 8) (kA3 j)) ?_
   refine gh fol (kBX (qm .u64 d 8) (kA3 (w64 (j+8)))) ?_
   obtain rfl:=si g11
   exact⟨rfl,_,_,rfl,(Sub.refl _)⟩
  refine Goes.skip ?_
  obtain rfl:=si g11
  exact⟨rfl,_,_,rfl,(Sub.keep [0,2] rfl rfl)⟩
 rintro x s' ⟨rfl,k,a,rfl,hsub⟩
 try dsimp only at h
 refine Goes.sub hsub ?_
 obtain⟨e,f,h⟩:=bnd h
 refine sq (gr fol [3] (kA3 (w64 (a+(w64 (e.toNat:Int))))) (ac (hs (.done (.opt (yu ZT 9 (.str [0,1,2,2,3,3,3,3,4,4,4,4,4,4,4,4,5,5,5,5,5,5,5,5,5,5,5,5,5,5,5,5,6,6,6,6,6,6,6,6,6,6,6,6,6,6,6,6,6,6,6,6,6,6,6,6,6,6,6,6,6,6,6,6,7,7,7,7,7,7,7,7,7,7,7,7,7,7,7,7,7,7,7,7,7,7,7,7,7,7,7,7,7,7,7,7,7,7,7,7,7,7,7,7,7,7,7,7,7,7,7,7,7,7,7,7,7,7,7,7,7,7,7,7,7,7,7,7,8,8,8,8,8,8,8,8,8,8,8,8,8,8,8,8,8,8,8,8,8,8,8,8,8,8,8,8,8,8,8,8,8,8,8,8,8,8,8,8,8,8,8,8,8,8,8,8,8,8,8,8,8,8,8,8,8,8,8,8,8,8,8,8,8,8,8,8,8,8,8,8,8,8,8,8,8,8,8,8,8,8,8,8,8,8,8,8,8,8,8,8,8,8,8,8,8,8,8,8,8,8,8,8,8,8,8,8,8,8,8,8,8,8,8,8,8,8,8,8,8,8,8,8,8,8,8,8]) (.int .u8 (IntKind.wrap .u8 k)))) (.int .u8 (e.toNat:Int))) (qaD st9 f)) az) ?_)
 refine Goes.ret ?_
 obtain rfl:=si h
 exact(gw2 [.i (w64 (a+(w64 (e.toNat:Int))))] (Ua tI))
def bits_LeadingZeros64 (a:Int):Option Int:=
 (bits_Len64 a).bind fun b=>
 some (w64 (64-b))
theorem qa8 (a:Int) {res:Int} (h:bits_LeadingZeros64 a=some res):qb ZT (.fn 271) [.int .u64 a] [] (.i res) []:=by
 unfold bits_LeadingZeros64 at h
 refine Ub Tryz.func271 rfl rfl (m:=6) rfl (rs:=[.tmp 2]) rfl (l:=(kBX a [])) rfl ?_
 refine sh fol (kBX a []) ?_
 obtain⟨c,b,h⟩:=bnd h
 refine sq (gr fol [1] (kA3 (w64 (64-c))) (ac (cv (qeS a b)) az) ?_)
 refine Goes.ret ?_
 obtain rfl:=si h
 exact(gw2 [.i (w64 (64-c))] (Ua tI))
def yP (d:Int) (c:Int):Nat->Int->Int->Option Int
 |0,_,_=>none
 |K+1,a,b=>
  (if a>=4294967296 then
  some true
  else
  some (decide ((IntKind.wrap .u64 (a*(qy .u64 d 4294967295)))>(IntKind.wrap .u64 ((IntKind.wrap .u64 (4294967296*b))+(qm .u64 c 32))))):Option Bool).bind fun e=>
  if e=true then
  if(IntKind.wrap .u64 (b+(qm .u64 d 32)))>=4294967296 then
  some (IntKind.wrap .u64 (a-1))
  else
  yP d c K (IntKind.wrap .u64 (a-1)) (IntKind.wrap .u64 (b+(qm .u64 d 32)))
  else
  some a
def yQ (d:Int) (c:Int):Nat->Int->Int->Option Int
 |0,_,_=>none
 |K+1,b,a=>
  (if a>=4294967296 then
  some true
  else
  some (decide ((IntKind.wrap .u64 (a*(qy .u64 d 4294967295)))>(IntKind.wrap .u64 ((IntKind.wrap .u64 (4294967296*b))+(qy .u64 c 4294967295))))):Option Bool).bind fun e=>
  if e=true then
  if(IntKind.wrap .u64 (b+(qm .u64 d 32)))>=4294967296 then
  some (IntKind.wrap .u64 (a-1))
  else
  yQ d c K (IntKind.wrap .u64 (b+(qm .u64 d 32))) (IntKind.wrap .u64 (a-1))
  else
  some a
def qaL (N:Nat) (hi:Int) (lo:Int) (y:Int):Option (Int×Int):=
 ((if y=0 then
 none
 else
 some ():Option Unit)).bind fun _=>
 ((if y<=hi then
 none
 else
 some ():Option Unit)).bind fun _=>
 if hi=0 then
 (qci .u64 lo y).bind fun k=>
 (qeb .u64 lo y).bind fun l=>
 some (k,l)
 else
 (bits_LeadingZeros64 y).bind fun f=>
 (qhn .u64 y (IntKind.wrap .u64 f)).bind fun d=>
 (qhn .u64 hi (IntKind.wrap .u64 f)).bind fun b=>
 (qj7 .u64 lo (IntKind.wrap .u64 (64-(IntKind.wrap .u64 f)))).bind fun c=>
 (qhn .u64 lo (IntKind.wrap .u64 f)).bind fun a=>
 (qci .u64 (orI .u64 b c) (qm .u64 d 32)).bind fun g=>
 (yP d a N g (IntKind.wrap .u64 ((orI .u64 b c)-(IntKind.wrap .u64 (g*(qm .u64 d 32)))))).bind fun e=>
 (qci .u64 (IntKind.wrap .u64 ((IntKind.wrap .u64 ((IntKind.wrap .u64 ((orI .u64 b c)*4294967296))+(qm .u64 a 32)))-(IntKind.wrap .u64 (e*d)))) (qm .u64 d 32)).bind fun h=>
 (yQ d a N (IntKind.wrap .u64 ((IntKind.wrap .u64 ((IntKind.wrap .u64 ((IntKind.wrap .u64 ((orI .u64 b c)*4294967296))+(qm .u64 a 32)))-(IntKind.wrap .u64 (e*d))))-(IntKind.wrap .u64 (h*(qm .u64 d 32))))) h).bind fun i=>
 (qj7 .u64 (IntKind.wrap .u64 ((IntKind.wrap .u64 ((IntKind.wrap .u64 ((IntKind.wrap .u64 ((IntKind.wrap .u64 ((IntKind.wrap .u64 ((orI .u64 b c)*4294967296))+(qm .u64 a 32)))-(IntKind.wrap .u64 (e*d))))*4294967296))+(qy .u64 a 4294967295)))-(IntKind.wrap .u64 (i*d)))) (IntKind.wrap .u64 f)).bind fun j=>
 some (IntKind.wrap .u64 ((IntKind.wrap .u64 (e*4294967296))+i),j)
theorem qeU (N:Nat) (hi:Int) (lo:Int) (y:Int) {res:Int×Int} (h:qaL N hi lo y=some res):qb ZT (.fn 270) (.int .u64 hi::(kBf lo y)) [] (.tuple (kBf res.1 res.2)) []:=by
 unfold qaL at h
 refine Ub Tryz.func270 rfl rfl (m:=135) rfl (rs:=[.tmp 6,.tmp 7]) rfl (l:=(kY hi lo [(2,.int .u64 y)])) rfl ?_
 refine sh fol (kY hi lo [(2,.int .u64 y)]) ?_
 refine sq ?_
 refine sh fol (kY hi lo [(2,.int .u64 y),(20,.bool (decide (y=0)))]) ?_
 obtain⟨Z,g1,h⟩:=bnd h
 refine Goes.imp (Q:=fun x s'=>(x= .normal/\()=Z/\Sub s' (ofG 135 (kY hi lo [(2,.int .u64 y)]),[]))) ?_ ?_
 ·refine ihD g1 (fun c2 g1=>?_) (fun c2 g1=>?_)
  ·cases g1
  refine Goes.skip ?_
  obtain rfl:=si g1
  exact⟨rfl,rfl,(Sub.keep [0,1,2] rfl rfl)⟩
 rintro x s' ⟨rfl,rfl,hsub⟩
 refine Goes.sub hsub ?_
 refine sq ?_
 refine sh fol (kY hi lo [(2,.int .u64 y),(24,.bool (decide (y<=hi)))]) ?_
 obtain⟨r3,g3,h⟩:=bnd h
 refine Goes.imp (Q:=fun x s'=>(x= .normal/\()=r3/\Sub s' (ofG 135 (kY hi lo [(2,.int .u64 y)]),[]))) ?_ ?_
 ·refine ihD g3 (fun c4 g3=>?_) (fun c4 g3=>?_)
  ·cases g3
  refine Goes.skip ?_
  obtain rfl:=si g3
  exact⟨rfl,rfl,(Sub.keep [0,1,2] rfl rfl)⟩
 rintro x s' ⟨rfl,rfl,hsub⟩
 refine Goes.sub hsub ?_
 refine sq ?_
 refine sh fol (kY hi lo [(2,.int .u64 y),(27,.bool (decide (hi=0)))]) ?_
 refine ihD h (fun c5 h=>?_) (fun c5 h=>?_)
 ·obtain⟨K,E,h⟩:=bnd h
  obtain⟨L,F,h⟩:=bnd h
  refine sq (gr fol [2,5] (kAQ K (kAh L [])) (ac (hs (.done (.opt (qY ZT .quo 227 (.tmp 28) (.tmp 29) (.int .u64 lo) (.int .u64 y))) (.int .u64 K)) (qbR E)) (ac (hs (.done (.opt (qY ZT .rem 227 (.tmp 31) (.tmp 32) (.int .u64 lo) (.int .u64 y))) (.int .u64 L)) (qfp F)) az)) ?_)
  refine Goes.ret ?_
  obtain rfl:=si h
  exact(gw2 (kBf K L) (FzW.tuple (qc.cons (Ua tI) (qc.cons (Ua tI) qc.nil))))
 refine Goes.skip ?_
 obtain⟨f,G,h⟩:=bnd h
 refine sq (gr fol [1] (kY hi lo [(2,.int .u64 y),(8,.int .u64 (IntKind.wrap .u64 f))]) (ac (cv (qa8 y G)) az) ?_)
 obtain⟨b,H,h⟩:=bnd h
 refine sq (gr fol [2] (kY hi lo [(2,.int .u64 b),(8,.int .u64 (IntKind.wrap .u64 f))]) (ac (hs (.done (.opt (qY ZT .shl 227 (.tmp 37) (.tmp 38) (.int .u64 y) (.int .u64 (IntKind.wrap .u64 f)))) (.int .u64 b)) (qfo H)) az) ?_)
 refine sh fol (kY hi lo [(2,.int .u64 b),(8,.int .u64 (IntKind.wrap .u64 f)),(9,.int .u64 (qm .u64 b 32))]) ?_
 refine sh fol (kY hi lo (kJ b (IntKind.wrap .u64 f) (qm .u64 b 32) (qy .u64 b 4294967295) [])) ?_
 obtain⟨c,t,h⟩:=bnd h
 obtain⟨d,u,h⟩:=bnd h
 refine sq (gr fol [2,6] ((1,.int .u64 lo)::(kJ b (IntKind.wrap .u64 f) (qm .u64 b 32) (qy .u64 b 4294967295) [(11,.int .u64 (orI .u64 c d))])) (ac (hs (.done (.opt (qY ZT .shl 227 (.tmp 44) (.tmp 45) (.int .u64 hi) (.int .u64 (IntKind.wrap .u64 f)))) (.int .u64 c)) (qfo t)) (ac (hs (.done (.opt (qY ZT .shr 227 (.tmp 47) (.tmp 49) (.int .u64 lo) (.int .u64 (IntKind.wrap .u64 (64-(IntKind.wrap .u64 f)))))) (.int .u64 d)) (qgD u)) az)) ?_)
 obtain⟨a,v,h⟩:=bnd h
 refine sq (gr fol [2] (kJ b (IntKind.wrap .u64 f) (qm .u64 b 32) (qy .u64 b 4294967295) (kAB (orI .u64 c d) a [])) (ac (hs (.done (.opt (qY ZT .shl 227 (.tmp 52) (.tmp 53) (.int .u64 lo) (.int .u64 (IntKind.wrap .u64 f)))) (.int .u64 a)) (qfo v)) az) ?_)
 refine sh fol (kJ b (IntKind.wrap .u64 f) (qm .u64 b 32) (qy .u64 b 4294967295) (kAB (orI .u64 c d) a [(13,.int .u64 (qm .u64 a 32))])) ?_
 refine sh fol (kJ b (IntKind.wrap .u64 f) (qm .u64 b 32) (qy .u64 b 4294967295) (kAY (orI .u64 c d) (qm .u64 a 32) [(14,.int .u64 (qy .u64 a 4294967295))])) ?_
 obtain⟨q,w,h⟩:=bnd h
 refine sq (gr fol [2] (kJ b (IntKind.wrap .u64 f) (qm .u64 b 32) (qy .u64 b 4294967295) (kAY (orI .u64 c d) (qm .u64 a 32) (kBD (qy .u64 a 4294967295) q []))) (ac (hs (.done (.opt (qY ZT .quo 227 (.tmp 59) (.tmp 60) (.int .u64 (orI .u64 c d)) (.int .u64 (qm .u64 b 32)))) (.int .u64 q)) (qbR w)) az) ?_)
 refine sh fol (kJ b (IntKind.wrap .u64 f) (qm .u64 b 32) (qy .u64 b 4294967295) (kAY (orI .u64 c d) (qm .u64 a 32) (kP (qy .u64 a 4294967295) q (IntKind.wrap .u64 ((orI .u64 c d)-(IntKind.wrap .u64 (q*(qm .u64 b 32))))) []))) ?_
 refine sq (Goes.block ?_)
 obtain⟨I,g17,h⟩:=bnd h
 refine Goes.imp (Q:=fun x s'=>(x= .exit 0/\ ∃e,e=I/\Sub s' (ofG 135 (kJ b (IntKind.wrap .u64 f) (qm .u64 b 32) (qy .u64 b 4294967295) (kAY (orI .u64 c d) (qm .u64 a 32) (kBD (qy .u64 a 4294967295) e []))),[]))) ?_ ?_
 ·refine Uc (fun M s=> ∃(j:Int) (g:Int),s=(ofG 135 (kJ b (IntKind.wrap .u64 f) (qm .u64 b 32) (qy .u64 b 4294967295) (kAY (orI .u64 c d) (qm .u64 a 32) (kP (qy .u64 a 4294967295) j g []))),[])/\yP b a M j g=some I) ?_ (m:=N) ⟨_,_,rfl,g17⟩
  rintro M s ⟨j,g,rfl,g17⟩
  cases M with
  |zero=>simp only[yP]at g17;cases g17
  |succ M=>
   rw[yP]at g17
   refine sq ?_
   refine sq ?_
   obtain⟨O,k,g17⟩:=bnd g17
   refine Goes.cut (s':=(ofG 135 (kJ b (IntKind.wrap .u64 f) (qm .u64 b 32) (qy .u64 b 4294967295) (kAY (orI .u64 c d) (qm .u64 a 32) (kP (qy .u64 a 4294967295) j g [(78,.bool O)]))),[])) ?_ ?_
   ·rcases wyD k with⟨z,k⟩|⟨z,k⟩
    ·obtain rfl:=si k
     exact tr fol [2] (kJ b (IntKind.wrap .u64 f) (qm .u64 b 32) (qy .u64 b 4294967295) (kAY (orI .u64 c d) (qm .u64 a 32) (kP (qy .u64 a 4294967295) j g [(78,.bool true)]))) (ac (gw z) az)
    obtain rfl:=si k
    exact tr fol [2] (kJ b (IntKind.wrap .u64 f) (qm .u64 b 32) (qy .u64 b 4294967295) (kAY (orI .u64 c d) (qm .u64 a 32) (kP (qy .u64 a 4294967295) j g [(78,.bool (decide ((IntKind.wrap .u64 (j*(qy .u64 b 4294967295)))>(IntKind.wrap .u64 ((IntKind.wrap .u64 (4294967296*g))+(qm .u64 a 32))))))]))) (ac (gw z) az)
   refine ihB g17 (fun P g17=>?_) (fun P g17=>?_)
   ·refine Goes.skip ?_
    refine Goes.block ?_
    refine sh fol (kJ b (IntKind.wrap .u64 f) (qm .u64 b 32) (qy .u64 b 4294967295) (kAY (orI .u64 c d) (qm .u64 a 32) (kP (qy .u64 a 4294967295) (IntKind.wrap .u64 (j-1)) g []))) ?_
    refine sh fol (kJ b (IntKind.wrap .u64 f) (qm .u64 b 32) (qy .u64 b 4294967295) (kAY (orI .u64 c d) (qm .u64 a 32) (kP (qy .u64 a 4294967295) (IntKind.wrap .u64 (j-1)) (IntKind.wrap .u64 (g+(qm .u64 b 32))) []))) ?_
    refine sh fol (kJ b (IntKind.wrap .u64 f) (qm .u64 b 32) (qy .u64 b 4294967295) (kAY (orI .u64 c d) (qm .u64 a 32) (kP (qy .u64 a 4294967295) (IntKind.wrap .u64 (j-1)) (IntKind.wrap .u64 (g+(qm .u64 b 32))) [(85,.bool (decide ((IntKind.wrap .u64 (g+(qm .u64 b 32)))>=4294967296)))]))) ?_
    refine ihD g17 (fun U g17=>?_) (fun U g17=>?_)
    ·refine Goes.exit ?_
     obtain rfl:=si g17
     exact⟨rfl,_,rfl,(Sub.keep [2,8,9,10,11,13,14,15] rfl rfl)⟩
    refine Goes.skip ?_
    exact⟨M,(ofG 135 (kJ b (IntKind.wrap .u64 f) (qm .u64 b 32) (qy .u64 b 4294967295) (kAY (orI .u64 c d) (qm .u64 a 32) (kP (qy .u64 a 4294967295) (IntKind.wrap .u64 (j-1)) (IntKind.wrap .u64 (g+(qm .u64 b 32))) []))),[]),Nat.lt_succ_self _,(Sub.keep [2,8,9,10,11,13,14,15,16] rfl rfl),_,_,rfl,g17⟩
   refine Goes.exit ?_
   obtain rfl:=si g17
   exact⟨rfl,_,rfl,(Sub.keep [2,8,9,10,11,13,14,15] rfl rfl)⟩
 rintro x s' ⟨rfl,e,rfl,hsub⟩
 refine Goes.sub hsub ?_
 refine sh fol (kJ b (IntKind.wrap .u64 f) (qm .u64 b 32) (qy .u64 b 4294967295) (kBD (qy .u64 a 4294967295) e [(17,.int .u64 (IntKind.wrap .u64 ((IntKind.wrap .u64 ((IntKind.wrap .u64 ((orI .u64 c d)*4294967296))+(qm .u64 a 32)))-(IntKind.wrap .u64 (e*b)))))])) ?_
 obtain⟨r,A,h⟩:=bnd h
 refine sq (gr fol [2] (kJ b (IntKind.wrap .u64 f) (qm .u64 b 32) (qy .u64 b 4294967295) (kBD (qy .u64 a 4294967295) e (kAe (IntKind.wrap .u64 ((IntKind.wrap .u64 ((IntKind.wrap .u64 ((orI .u64 c d)*4294967296))+(qm .u64 a 32)))-(IntKind.wrap .u64 (e*b)))) r []))) (ac (hs (.done (.opt (qY ZT .quo 227 (.tmp 94) (.tmp 95) (.int .u64 (IntKind.wrap .u64 ((IntKind.wrap .u64 ((IntKind.wrap .u64 ((orI .u64 c d)*4294967296))+(qm .u64 a 32)))-(IntKind.wrap .u64 (e*b))))) (.int .u64 (qm .u64 b 32)))) (.int .u64 r)) (qbR A)) az) ?_)
 refine sh fol (kJ b (IntKind.wrap .u64 f) (qm .u64 b 32) (qy .u64 b 4294967295) (kP (qy .u64 a 4294967295) e (IntKind.wrap .u64 ((IntKind.wrap .u64 ((IntKind.wrap .u64 ((IntKind.wrap .u64 ((orI .u64 c d)*4294967296))+(qm .u64 a 32)))-(IntKind.wrap .u64 (e*b))))-(IntKind.wrap .u64 (r*(qm .u64 b 32))))) (kAe (IntKind.wrap .u64 ((IntKind.wrap .u64 ((IntKind.wrap .u64 ((orI .u64 c d)*4294967296))+(qm .u64 a 32)))-(IntKind.wrap .u64 (e*b)))) r []))) ?_
 refine sq (Goes.block ?_)
 obtain⟨J,g27,h⟩:=bnd h
 refine Goes.imp (Q:=fun x s'=>(x= .exit 2/\ ∃p,p=J/\Sub s' (ofG 135 ((2,.int .u64 b)::(8,.int .u64 (IntKind.wrap .u64 f))::(kBD (qy .u64 a 4294967295) e (kAe (IntKind.wrap .u64 ((IntKind.wrap .u64 ((IntKind.wrap .u64 ((orI .u64 c d)*4294967296))+(qm .u64 a 32)))-(IntKind.wrap .u64 (e*b)))) p []))),[]))) ?_ ?_
 ·refine Uc (fun M s=> ∃(i:Int) (n:Int),s=(ofG 135 (kJ b (IntKind.wrap .u64 f) (qm .u64 b 32) (qy .u64 b 4294967295) (kP (qy .u64 a 4294967295) e i (kAe (IntKind.wrap .u64 ((IntKind.wrap .u64 ((IntKind.wrap .u64 ((orI .u64 c d)*4294967296))+(qm .u64 a 32)))-(IntKind.wrap .u64 (e*b)))) n []))),[])/\yQ b a M i n=some J) ?_ (m:=N) ⟨_,_,rfl,g27⟩
  rintro M s ⟨i,n,rfl,g27⟩
  cases M with
  |zero=>simp only[yQ]at g27;cases g27
  |succ M=>
   rw[yQ]at g27
   refine sq ?_
   refine sq ?_
   obtain⟨V,o,g27⟩:=bnd g27
   refine Goes.cut (s':=(ofG 135 (kJ b (IntKind.wrap .u64 f) (qm .u64 b 32) (qy .u64 b 4294967295) (kP (qy .u64 a 4294967295) e i (kAe (IntKind.wrap .u64 ((IntKind.wrap .u64 ((IntKind.wrap .u64 ((orI .u64 c d)*4294967296))+(qm .u64 a 32)))-(IntKind.wrap .u64 (e*b)))) n [(113,.bool V)]))),[])) ?_ ?_
   ·rcases wyD o with⟨B,o⟩|⟨B,o⟩
    ·obtain rfl:=si o
     exact tr fol [2] (kJ b (IntKind.wrap .u64 f) (qm .u64 b 32) (qy .u64 b 4294967295) (kP (qy .u64 a 4294967295) e i (kAe (IntKind.wrap .u64 ((IntKind.wrap .u64 ((IntKind.wrap .u64 ((orI .u64 c d)*4294967296))+(qm .u64 a 32)))-(IntKind.wrap .u64 (e*b)))) n [(113,.bool true)]))) (ac (gw B) az)
    obtain rfl:=si o
    exact tr fol [2] (kJ b (IntKind.wrap .u64 f) (qm .u64 b 32) (qy .u64 b 4294967295) (kP (qy .u64 a 4294967295) e i (kAe (IntKind.wrap .u64 ((IntKind.wrap .u64 ((IntKind.wrap .u64 ((orI .u64 c d)*4294967296))+(qm .u64 a 32)))-(IntKind.wrap .u64 (e*b)))) n [(113,.bool (decide ((IntKind.wrap .u64 (n*(qy .u64 b 4294967295)))>(IntKind.wrap .u64 ((IntKind.wrap .u64 (4294967296*i))+(qy .u64 a 4294967295))))))]))) (ac (gw B) az)
   refine ihB g27 (fun X g27=>?_) (fun X g27=>?_)
   ·refine Goes.skip ?_
    refine Goes.block ?_
    refine sh fol (kJ b (IntKind.wrap .u64 f) (qm .u64 b 32) (qy .u64 b 4294967295) (kP (qy .u64 a 4294967295) e i (kAe (IntKind.wrap .u64 ((IntKind.wrap .u64 ((IntKind.wrap .u64 ((orI .u64 c d)*4294967296))+(qm .u64 a 32)))-(IntKind.wrap .u64 (e*b)))) (IntKind.wrap .u64 (n-1)) []))) ?_
    refine sh fol (kJ b (IntKind.wrap .u64 f) (qm .u64 b 32) (qy .u64 b 4294967295) (kP (qy .u64 a 4294967295) e (IntKind.wrap .u64 (i+(qm .u64 b 32))) (kAe (IntKind.wrap .u64 ((IntKind.wrap .u64 ((IntKind.wrap .u64 ((orI .u64 c d)*4294967296))+(qm .u64 a 32)))-(IntKind.wrap .u64 (e*b)))) (IntKind.wrap .u64 (n-1)) []))) ?_
    refine sh fol (kJ b (IntKind.wrap .u64 f) (qm .u64 b 32) (qy .u64 b 4294967295) (kP (qy .u64 a 4294967295) e (IntKind.wrap .u64 (i+(qm .u64 b 32))) (kAe (IntKind.wrap .u64 ((IntKind.wrap .u64 ((IntKind.wrap .u64 ((orI .u64 c d)*4294967296))+(qm .u64 a 32)))-(IntKind.wrap .u64 (e*b)))) (IntKind.wrap .u64 (n-1)) [(120,.bool (decide ((IntKind.wrap .u64 (i+(qm .u64 b 32)))>=4294967296)))]))) ?_
    refine ihD g27 (fun Y g27=>?_) (fun Y g27=>?_)
    ·refine Goes.exit ?_
     obtain rfl:=si g27
     exact⟨rfl,_,rfl,(Sub.keep [2,8,14,15,17,18] rfl rfl)⟩
    refine Goes.skip ?_
    exact⟨M,(ofG 135 (kJ b (IntKind.wrap .u64 f) (qm .u64 b 32) (qy .u64 b 4294967295) (kP (qy .u64 a 4294967295) e (IntKind.wrap .u64 (i+(qm .u64 b 32))) (kAe (IntKind.wrap .u64 ((IntKind.wrap .u64 ((IntKind.wrap .u64 ((orI .u64 c d)*4294967296))+(qm .u64 a 32)))-(IntKind.wrap .u64 (e*b)))) (IntKind.wrap .u64 (n-1)) []))),[]),Nat.lt_succ_self _,(Sub.keep [2,8,9,10,14,15,16,17,18] rfl rfl),_,_,rfl,g27⟩
   refine Goes.exit ?_
   obtain rfl:=si g27
   exact⟨rfl,_,rfl,(Sub.keep [2,8,14,15,17,18] rfl rfl)⟩
 rintro x s' ⟨rfl,p,rfl,hsub⟩
 refine Goes.sub hsub ?_
 obtain⟨C,D,h⟩:=bnd h
 refine sq (gr fol [13] (kAQ (IntKind.wrap .u64 ((IntKind.wrap .u64 (e*4294967296))+p)) (kAh C [])) (ac (hs (.done (.opt (qY ZT .shr 227 (.tmp 132) (.tmp 133) (.int .u64 (IntKind.wrap .u64 ((IntKind.wrap .u64 ((IntKind.wrap .u64 ((IntKind.wrap .u64 ((IntKind.wrap .u64 ((IntKind.wrap .u64 ((orI .u64 c d)*4294967296))+(qm .u64 a 32)))-(IntKind.wrap .u64 (e*b))))*4294967296))+(qy .u64 a 4294967295)))-(IntKind.wrap .u64 (p*b))))) (.int .u64 (IntKind.wrap .u64 f)))) (.int .u64 C)) (qgD D)) az) ?_)
 refine Goes.ret ?_
 obtain rfl:=si h
 exact(gw2 (kBf (IntKind.wrap .u64 ((IntKind.wrap .u64 (e*4294967296))+p)) C) (FzW.tuple (qc.cons (Ua tI) (qc.cons (Ua tI) qc.nil))))
def bits_Mul64 (a:Int) (y:Int):Option (Int×Int):=
 some (IntKind.wrap .u64 ((IntKind.wrap .u64 ((IntKind.wrap .u64 ((qm .u64 a 32)*(qm .u64 y 32)))+(qm .u64 (IntKind.wrap .u64 ((IntKind.wrap .u64 ((qm .u64 a 32)*(qy .u64 y 4294967295)))+(qm .u64 (IntKind.wrap .u64 ((qy .u64 a 4294967295)*(qy .u64 y 4294967295))) 32))) 32)))+(qm .u64 (IntKind.wrap .u64 ((qy .u64 (IntKind.wrap .u64 ((IntKind.wrap .u64 ((qm .u64 a 32)*(qy .u64 y 4294967295)))+(qm .u64 (IntKind.wrap .u64 ((qy .u64 a 4294967295)*(qy .u64 y 4294967295))) 32))) 4294967295)+(IntKind.wrap .u64 ((qy .u64 a 4294967295)*(qm .u64 y 32))))) 32)),IntKind.wrap .u64 (a*y))
theorem qbv (a:Int) (y:Int) {res:Int×Int} (h:bits_Mul64 a y=some res):qb ZT (.fn 200) (kBf a y) [] (.tuple (kBf res.1 res.2)) []:=by
 unfold bits_Mul64 at h
 refine Ub Tryz.func200 rfl rfl (m:=51) rfl (rs:=[.tmp 4,.tmp 5]) rfl (l:=(kY a y [])) rfl ?_
 refine sh fol (kY a y []) ?_
 refine sh fol (kY a y (kAQ (qy .u64 a 4294967295) [])) ?_
 refine sh fol (kY a y (kAQ (qy .u64 a 4294967295) (kAh (qm .u64 a 32) []))) ?_
 refine sh fol (kY a y (kAQ (qy .u64 a 4294967295) (kAD (qm .u64 a 32) (qy .u64 y 4294967295) []))) ?_
 refine sh fol (kY a y (kAQ (qy .u64 a 4294967295) (kAD (qm .u64 a 32) (qy .u64 y 4294967295) [(9,.int .u64 (qm .u64 y 32))]))) ?_
 refine sh fol (kY a y (kAQ (qy .u64 a 4294967295) (kAD (qm .u64 a 32) (qy .u64 y 4294967295) [(9,.int .u64 (qm .u64 y 32)),(10,.int .u64 (IntKind.wrap .u64 ((qy .u64 a 4294967295)*(qy .u64 y 4294967295))))]))) ?_
 refine sh fol (kY a y (kAQ (qy .u64 a 4294967295) (kAh (qm .u64 a 32) [(9,.int .u64 (qm .u64 y 32)),(11,.int .u64 (IntKind.wrap .u64 ((IntKind.wrap .u64 ((qm .u64 a 32)*(qy .u64 y 4294967295)))+(qm .u64 (IntKind.wrap .u64 ((qy .u64 a 4294967295)*(qy .u64 y 4294967295))) 32))))]))) ?_
 refine sh fol (kY a y (kAQ (qy .u64 a 4294967295) (kAh (qm .u64 a 32) ((9,.int .u64 (qm .u64 y 32))::(kAB (IntKind.wrap .u64 ((IntKind.wrap .u64 ((qm .u64 a 32)*(qy .u64 y 4294967295)))+(qm .u64 (IntKind.wrap .u64 ((qy .u64 a 4294967295)*(qy .u64 y 4294967295))) 32))) (qy .u64 (IntKind.wrap .u64 ((IntKind.wrap .u64 ((qm .u64 a 32)*(qy .u64 y 4294967295)))+(qm .u64 (IntKind.wrap .u64 ((qy .u64 a 4294967295)*(qy .u64 y 4294967295))) 32))) 4294967295) []))))) ?_
 refine sh fol (kY a y (kAQ (qy .u64 a 4294967295) (kAh (qm .u64 a 32) [(9,.int .u64 (qm .u64 y 32)),(12,.int .u64 (qy .u64 (IntKind.wrap .u64 ((IntKind.wrap .u64 ((qm .u64 a 32)*(qy .u64 y 4294967295)))+(qm .u64 (IntKind.wrap .u64 ((qy .u64 a 4294967295)*(qy .u64 y 4294967295))) 32))) 4294967295)),(13,.int .u64 (qm .u64 (IntKind.wrap .u64 ((IntKind.wrap .u64 ((qm .u64 a 32)*(qy .u64 y 4294967295)))+(qm .u64 (IntKind.wrap .u64 ((qy .u64 a 4294967295)*(qy .u64 y 4294967295))) 32))) 32))]))) ?_
 refine sh fol (kY a y (kAh (qm .u64 a 32) [(9,.int .u64 (qm .u64 y 32)),(12,.int .u64 (IntKind.wrap .u64 ((qy .u64 (IntKind.wrap .u64 ((IntKind.wrap .u64 ((qm .u64 a 32)*(qy .u64 y 4294967295)))+(qm .u64 (IntKind.wrap .u64 ((qy .u64 a 4294967295)*(qy .u64 y 4294967295))) 32))) 4294967295)+(IntKind.wrap .u64 ((qy .u64 a 4294967295)*(qm .u64 y 32)))))),(13,.int .u64 (qm .u64 (IntKind.wrap .u64 ((IntKind.wrap .u64 ((qm .u64 a 32)*(qy .u64 y 4294967295)))+(qm .u64 (IntKind.wrap .u64 ((qy .u64 a 4294967295)*(qy .u64 y 4294967295))) 32))) 32))])) ?_
 refine sh fol (kY a y [(4,.int .u64 (IntKind.wrap .u64 ((IntKind.wrap .u64 ((IntKind.wrap .u64 ((qm .u64 a 32)*(qm .u64 y 32)))+(qm .u64 (IntKind.wrap .u64 ((IntKind.wrap .u64 ((qm .u64 a 32)*(qy .u64 y 4294967295)))+(qm .u64 (IntKind.wrap .u64 ((qy .u64 a 4294967295)*(qy .u64 y 4294967295))) 32))) 32)))+(qm .u64 (IntKind.wrap .u64 ((qy .u64 (IntKind.wrap .u64 ((IntKind.wrap .u64 ((qm .u64 a 32)*(qy .u64 y 4294967295)))+(qm .u64 (IntKind.wrap .u64 ((qy .u64 a 4294967295)*(qy .u64 y 4294967295))) 32))) 4294967295)+(IntKind.wrap .u64 ((qy .u64 a 4294967295)*(qm .u64 y 32))))) 32))))]) ?_
 refine sh fol [(4,.int .u64 (IntKind.wrap .u64 ((IntKind.wrap .u64 ((IntKind.wrap .u64 ((qm .u64 a 32)*(qm .u64 y 32)))+(qm .u64 (IntKind.wrap .u64 ((IntKind.wrap .u64 ((qm .u64 a 32)*(qy .u64 y 4294967295)))+(qm .u64 (IntKind.wrap .u64 ((qy .u64 a 4294967295)*(qy .u64 y 4294967295))) 32))) 32)))+(qm .u64 (IntKind.wrap .u64 ((qy .u64 (IntKind.wrap .u64 ((IntKind.wrap .u64 ((qm .u64 a 32)*(qy .u64 y 4294967295)))+(qm .u64 (IntKind.wrap .u64 ((qy .u64 a 4294967295)*(qy .u64 y 4294967295))) 32))) 4294967295)+(IntKind.wrap .u64 ((qy .u64 a 4294967295)*(qm .u64 y 32))))) 32)))),(5,.int .u64 (IntKind.wrap .u64 (a*y)))] ?_
 refine Goes.ret ?_
 obtain rfl:=si h
 exact(gw2 (kBf (IntKind.wrap .u64 ((IntKind.wrap .u64 ((IntKind.wrap .u64 ((qm .u64 a 32)*(qm .u64 y 32)))+(qm .u64 (IntKind.wrap .u64 ((IntKind.wrap .u64 ((qm .u64 a 32)*(qy .u64 y 4294967295)))+(qm .u64 (IntKind.wrap .u64 ((qy .u64 a 4294967295)*(qy .u64 y 4294967295))) 32))) 32)))+(qm .u64 (IntKind.wrap .u64 ((qy .u64 (IntKind.wrap .u64 ((IntKind.wrap .u64 ((qm .u64 a 32)*(qy .u64 y 4294967295)))+(qm .u64 (IntKind.wrap .u64 ((qy .u64 a 4294967295)*(qy .u64 y 4294967295))) 32))) 4294967295)+(IntKind.wrap .u64 ((qy .u64 a 4294967295)*(qm .u64 y 32))))) 32))) (IntKind.wrap .u64 (a*y))) (FzW.tuple (qc.cons (Ua tI) (qc.cons (Ua tI) qc.nil))))
def zK (b:List Int) (a:Int):Nat->(List Int)->Int->Option (List Int)
 |0,_,_=>none
 |K+1,f,c=>
  if c<(b.length:Int)then
  (((idx b c).bind fun e=>
  (idx f c).bind fun g=>
  (qhn .u64 e a).bind fun h=>
  (put f c (orI .u64 g h)).bind fun d=>
  if a>0 then
  (qj7 .u64 e (w64 (64-a))).bind fun i=>
  (idx d (w64 (c+1))).bind fun k=>
  (put d (w64 (c+1)) i).bind fun j=>
  some j
  else
  some d:Option (List Int))).bind fun l=>
  zK b a K l (w64 (c+1))
  else
  some f
def yV (N:Nat) (a:List Int) (b:Int):Option (List Int):=
 (mk 8 (w64 ((a.length:Int)+1)) 0).bind fun c=>
 (zK a b N c 0).bind fun d=>
 some d
theorem qcD (N:Nat) (a:List Int) (b:Int) {G:List Int} (h:yV N a b=some G):qb ZT (.fn 272) [vl (qa .u64) a,.i b] [] (.slice 0 0 G.length G.length 1) [.cells (G.flatMap (qa .u64).c)]:=by
 unfold yV at h
 refine Goes.fnH Tryz.func272 rfl rfl (m:=40) rfl (rs:=[.tmp 4]) rfl (l:=[(0,vl (qa .u64) a),(1,.i b)]) rfl ?_
 intro B hB
 refine sh fol [(0,vl (qa .u64) a),(1,.i b)] ?_
 obtain⟨D,F,h⟩:=bnd h
 refine sq (gq fol [3] ((0,vl (qa .u64) a)::(1,.i b)::(kD D [])) [.cells (D.flatMap (qa .u64).c)] (ac (hs (.run [] (ji ZT 103 (.i (w64 ((a.length:Int)+1))) (.i (w64 ((a.length:Int)+1)))) [] (.slice 0 0 D.length D.length 1) [.cells (D.flatMap (qa .u64).c)] false) (qdr qI (E:=(qa .u64)) (z:=0) rfl (by kernel_rfl) F rfl)) az) ?_)
 refine sq ?_
 refine sh fol ((1,.i b)::(kD D [(12,vl (qa .u64) a),(13,.i (a.length:Int)),(14,.i 0)])) ?_
 refine Goes.block ?_
 obtain⟨I,g6,h⟩:=bnd h
 refine Goes.imp (Q:=fun x s'=>(x= .exit 0/\ ∃r,r=I/\Sub s' (ofG 40 (kD r []),[.cells (r.flatMap (qa .u64).c)]))) ?_ ?_
 ·refine Uc (fun M s=> ∃(g:List Int) (d:Int),s=(ofG 40 ((1,.i b)::(kD g ((12,vl (qa .u64) a)::(kAV (a.length:Int) d)))),[.cells (g.flatMap (qa .u64).c)])/\zK a b M g d=some I) ?_ (m:=N) ⟨_,_,rfl,g6⟩
  rintro M s ⟨g,d,rfl,g6⟩
  cases M with
  |zero=>simp only[zK]at g6;cases g6
  |succ M=>
   rw[zK]at g6
   refine sh fol ((1,.i b)::(kD g ((12,vl (qa .u64) a)::(13,.i (a.length:Int))::(14,.i d)::(kBe (decide (d<(a.length:Int))))))) ?_
   refine sq ?_
   refine ihD g6 (fun J g6=>?_) (fun J g6=>?_)
   ·refine Goes.skip ?_
    refine sq ?_
    obtain⟨K,g9,g6⟩:=bnd g6
    refine Goes.imp (Q:=fun x s'=>(x= .normal/\ ∃t,t=K/\Sub s' (ofG 40 ((1,.i b)::(kD t ((12,vl (qa .u64) a)::(kAV (a.length:Int) d)))),[.cells (t.flatMap (qa .u64).c)]))) ?_ ?_
    ·refine Goes.block ?_
     obtain⟨j,k,g9⟩:=bnd g9
     refine sq (gr fol [1,2] ((1,.i b)::(kD g ((6,.i d)::(kAh j ((12,vl (qa .u64) a)::(kAV (a.length:Int) d)))))) (ac (iv qI (qa .u64) k) (ac (lv 0 zP (qa .u64) k rfl) az)) ?_)
     obtain⟨u,f,g9⟩:=bnd g9
     obtain⟨v,w,g9⟩:=bnd g9
     obtain⟨e,n,g9⟩:=bnd g9
     refine sq (gq fol [2,3,6,8,9] ((1,.i b)::(kD g ((6,.i d)::(kAh j ((12,vl (qa .u64) a)::(kAV (a.length:Int) d)))))) [.cells (e.flatMap (qa .u64).c)] (ac (hs (.done (.opt (qg ZT 103 (.slice 0 0 g.length g.length 1) (.i d))) (.ptr 0 ((d:Int).toNat*1+0))) (qaC qI f)) (ac (hs (.run [0] (jf ZT 227 (.ptr 0 ((d:Int).toNat*1+0))) [.cells (g.flatMap (qa .u64).c)] (.int .u64 u) [.cells (g.flatMap (qa .u64).c)] false) (qct zP (E:=(qa .u64)) (l:=g) rfl rfl f (nl rfl) rfl)) (ac (hs (.done (.opt (qY ZT .shl 227 (.tmp 23) (.tmp 24) (.int .u64 j) (.i b))) (.int .u64 v)) (qfo w)) (ac (hs (.done (.opt (qg ZT 103 (.slice 0 0 g.length g.length 1) (.i d))) (.ptr 0 ((d:Int).toNat*1+0))) (qaC qI f)) (ac (hs (.run [0] (qp ZT 227 (.ptr 0 ((d:Int).toNat*1+0)) (.int .u64 (orI .u64 u v))) [.cells (g.flatMap (qa .u64).c)] .undef [.cells (e.flatMap (qa .u64).c)] true) (qao (E:=(qa .u64)) (l:=g) (y:=orI .u64 u v) rfl (show _=some 1 by kernel_rfl) rfl f rfl rfl rfl rfl rfl n rfl)) az))))) ?_)
     refine Goes.sub (show Sub (ofG 40 ((1,.i b)::(kD g ((6,.i d)::(kAh j ((12,vl (qa .u64) a)::(kAV (a.length:Int) d)))))),[.cells (e.flatMap (qa .u64).c)]) (ofG 40 ((1,.i b)::(kD e ((6,.i d)::(kAh j ((12,vl (qa .u64) a)::(kAV (a.length:Int) d)))))),[.cells (e.flatMap (qa .u64).c)])from(Sub.norm [] [some 0] (by rw[hB];rfl) rfl (.keep (.same nI) (.keep (.sliceE rfl (vM n)) (.keep (.same nI) (.keep (.same nI) (.keep (.same (qd (qa .u64) _)) (.keep (.same nI) (.keep (.same nI) .nil))))))) (.ks .nil))) ?_
     refine sh fol ((1,.i b)::(kD e ((6,.i d)::(kAh j [(12,vl (qa .u64) a),(13,.i (a.length:Int)),(14,.i d),(29,.bool (decide (b>0)))])))) ?_
     refine ihD g9 (fun H g9=>?_) (fun H g9=>?_)
     ·obtain⟨A,C,g9⟩:=bnd g9
      obtain⟨L,o,g9⟩:=bnd g9
      obtain⟨p,q,g9⟩:=bnd g9
      refine gq fol [6,7,8] ((1,.i b)::(kD e ((12,vl (qa .u64) a)::(kAV (a.length:Int) d)))) [.cells (p.flatMap (qa .u64).c)] (ac (hs (.done (.opt (qY ZT .shr 227 (.tmp 33) (.tmp 35) (.int .u64 j) (.i (w64 (64-b))))) (.int .u64 A)) (qgD C)) (ac (hs (.done (.opt (qg ZT 103 (.slice 0 0 e.length e.length 1) (.i (w64 (d+1))))) (.ptr 0 ((w64 (d+1):Int).toNat*1+0))) (qaC qI o)) (ac (hs (.run [0] (qp ZT 227 (.ptr 0 ((w64 (d+1):Int).toNat*1+0)) (.int .u64 A)) [.cells (e.flatMap (qa .u64).c)] .undef [.cells (p.flatMap (qa .u64).c)] true) (qao (E:=(qa .u64)) (l:=e) (y:=A) rfl (show _=some 1 by kernel_rfl) rfl o rfl rfl rfl rfl rfl q rfl)) az))) ?_
      obtain rfl:=si g9
      exact⟨rfl,_,rfl,((show Sub (ofG 40 ((1,.i b)::(kD e ((12,vl (qa .u64) a)::(kAV (a.length:Int) d)))),[.cells (p.flatMap (qa .u64).c)]) (ofG 40 ((1,.i b)::(kD p ((12,vl (qa .u64) a)::(kAV (a.length:Int) d)))),[.cells (p.flatMap (qa .u64).c)])from(Sub.norm [] [some 0] (by rw[hB];rfl) rfl (.keep (.same nI) (.keep (.sliceE rfl (vM q)) (.keep (.same (qd (qa .u64) _)) (.keep (.same nI) (.keep (.same nI) .nil))))) (.ks .nil))).trans (Sub.refl _))⟩
     refine Goes.skip ?_
     obtain rfl:=si g9
     exact⟨rfl,_,rfl,(Sub.keep [1,5,12,13,14] rfl rfl)⟩
    rintro x s' ⟨rfl,t,rfl,hsub⟩
    refine Goes.sub hsub ?_
    refine gh fol ((1,.i b)::(kD t ((12,vl (qa .u64) a)::(kAV (a.length:Int) (w64 (d+1)))))) ?_
    exact⟨M,(ofG 40 ((1,.i b)::(kD t ((12,vl (qa .u64) a)::(kAV (a.length:Int) (w64 (d+1)))))),[.cells (t.flatMap (qa .u64).c)]),Nat.lt_succ_self _,(Sub.refl _),_,_,rfl,g6⟩
   refine Goes.exit ?_
   obtain rfl:=si g6
   exact⟨rfl,_,rfl,(Sub.keep [5] rfl rfl)⟩
 rintro x s' ⟨rfl,r,rfl,hsub⟩
 refine Goes.sub hsub ?_
 refine sh fol [(4,.slice 0 0 r.length r.length 1)] ?_
 refine Goes.ret ?_
 obtain rfl:=si h
 exact(gh2 [.slice 0 0 r.length r.length 1] (qfl.refl _ _))
def ym (e:List Int) (f:Nat) (g:Nat) (a:List Int):Nat->Int->Int->Int->Option Int
 |0,_,_,_=>none
 |K+1,b,c,i=>
  if i=0 then
  (idx a (w64 ((a.length:Int)-2))).bind fun j=>
  (bits_Mul64 b j).bind fun d=>
  (if d.1<c then
  some true
  else
  if d.1=c then
  (qfH e f g (w64 ((a.length:Int)-2))).bind fun k=>
  some (decide (d.2<=k))
  else
  some false:Option Bool).bind fun l=>
  if l=true then
  some b
  else
  (idx a (w64 ((a.length:Int)-1))).bind fun m=>
  (xS c m 0).bind fun h=>
  ym e f g a K (IntKind.wrap .u64 (b-1)) h.1 h.2
  else
  some b
def vg (b:Nat) (e:Nat) (c:List Int) (f:Int):Nat->(List Int)->Int->Int->Int->Option ((List Int)×Int×Int)
 |0,_,_,_,_=>none
 |K+1,d,a,g,h=>
  if a<(c.length:Int)then
  (idx c a).bind fun l=>
  (bits_Mul64 f l).bind fun i=>
  (xS i.2 h 0).bind fun j=>
  (qfH d b e a).bind fun m=>
  (qdZ m j.1 g).bind fun k=>
  (put d ((b+(a:Int).toNat:Nat):Int) k.1).bind fun n=>
  vg b e c f K n (w64 (a+1)) k.2 (IntKind.wrap .u64 (i.1+j.2))
  else
  some (d,g,h)
def ve (b:Nat) (e:Nat) (c:List Int):Nat->(List Int)->Int->Int->Option ((List Int)×Int)
 |0,_,_,_=>none
 |K+1,d,a,f=>
  if a<(c.length:Int)then
  (qfH d b e a).bind fun h=>
  (idx c a).bind fun i=>
  (xS h i f).bind fun g=>
  (put d ((b+(a:Int).toNat:Nat):Int) g.1).bind fun j=>
  ve b e c K j (w64 (a+1)) g.2
  else
  some (d,f)
def qbA (N:Nat) (d:List Int) (b:Nat) (c:Nat) (v:Nat) (a:List Int):Option ((List Int)×Int):=
 (qfH d b c (a.length:Int)).bind fun u=>
 (idx a (w64 ((a.length:Int)-1))).bind fun l=>
 ((if u>=l then
 (qfH d b c (w64 ((a.length:Int)-1))).bind fun m=>
 (xS m l 0).bind fun f=>
 some (18446744073709551615,f.1,f.2)
 else
 (qfH d b c (w64 ((a.length:Int)-1))).bind fun n=>
 (qaL N u n l).bind fun g=>
 some (g.1,g.2,0):Option (Int×Int×Int))).bind fun(w,x,y)=>
 (ym d b c a N w x y).bind fun e=>
 (vg b c a e N d 0 0 0).bind fun(h,o,p)=>
 (qfH h b c (a.length:Int)).bind fun q=>
 (qdZ q p o).bind fun i=>
 (put h ((b+((a.length:Int):Int).toNat:Nat):Int) i.1).bind fun j=>
 if i.2=0 then
 some (j,e)
 else
 (ve b c a N j 0 0).bind fun(k,r)=>
 (qfH k b c (a.length:Int)).bind fun s=>
 (put k ((b+((a.length:Int):Int).toNat:Nat):Int) (IntKind.wrap .u64 (s+r))).bind fun t=>
 some (t,IntKind.wrap .u64 (e-1))
theorem qha (N:Nat) (j:List Int) (b:Nat) (d:Nat) (e:Nat) (a:List Int) {l1:List Int} {n2:Int} (h:qbA N j b d e a=some (l1,n2)):qb ZT (.fn 273) [.slice 0 b d e 1,vl (qa .u64) a] [.cells (j.flatMap (qa .u64).c)] (.int .u64 n2) [.cells (l1.flatMap (qa .u64).c)]:=by
 unfold qbA at h
 refine Goes.fnH Tryz.func273 rfl rfl (m:=186) rfl (rs:=[.tmp 4]) rfl (l:=[(0,.slice 0 b d e 1),(1,vl (qa .u64) a)]) rfl ?_
 intro B hB
 refine sh fol [(0,.slice 0 b d e 1),(1,vl (qa .u64) a)] ?_
 refine sh fol ((0,.slice 0 b d e 1)::(1,vl (qa .u64) a)::(kAm (a.length:Int))) ?_
 refine sh fol ((0,.slice 0 b d e 1)::(1,vl (qa .u64) a)::(kAm (a.length:Int))) ?_
 refine sh fol ((0,.slice 0 b d e 1)::(1,vl (qa .u64) a)::(5,.i (a.length:Int))::(kBi [])) ?_
 refine sq ?_
 obtain⟨x3,K,h⟩:=bnd h
 obtain⟨x4,u,h⟩:=bnd h
 refine sq (gr fol [2,3,7,8] ((0,.slice 0 b d e 1)::(1,vl (qa .u64) a)::(5,.i (a.length:Int))::(kBi [(30,.bool (decide (x3>=x4)))])) (ac (hs (.done (.opt (qg ZT 103 (.slice 0 b d e 1) (.i (a.length:Int)))) (.ptr 0 ((((b+((a.length:Int):Int).toNat:Nat):Int):Int).toNat*1+0))) (qcQ qI K)) (ac (hs (.run [0] (jf ZT 227 (.ptr 0 ((((b+((a.length:Int):Int).toNat:Nat):Int):Int).toNat*1+0))) [.cells (j.flatMap (qa .u64).c)] (.int .u64 x3) [.cells (j.flatMap (qa .u64).c)] false) (qct zP (E:=(qa .u64)) (l:=j) rfl rfl (wI K) (nl rfl) rfl)) (ac (iv qI (qa .u64) u) (ac (lv 0 zP (qa .u64) u rfl) az)))) ?_)
 obtain⟨r8,g8,h⟩:=bnd h
 refine Goes.imp (Q:=fun x s'=>(x= .normal/\ ∃n5 n6 n7,(n5,n6,n7)=r8/\Sub s' (ofG 186 ((0,.slice 0 b d e 1)::(1,vl (qa .u64) a)::(kS (a.length:Int) n5 (kAD n6 n7 []))),[.cells (j.flatMap (qa .u64).c)]))) ?_ ?_
 ·refine ihD g8 (fun c9 g8=>?_) (fun c9 g8=>?_)
  ·refine sh fol [(0,.slice 0 b d e 1),(1,vl (qa .u64) a),(5,.i (a.length:Int)),(6,.int .u64 18446744073709551615)] ?_
   obtain⟨c7,P,g8⟩:=bnd g8
   obtain⟨c8,b1,g8⟩:=bnd g8
   refine gr fol [3,4,8,9,10] ((0,.slice 0 b d e 1)::(1,vl (qa .u64) a)::(5,.i (a.length:Int))::(6,.int .u64 18446744073709551615)::(kAD c8.1 c8.2 [])) (ac (hs (.done (.opt (qg ZT 103 (.slice 0 b d e 1) (.i (w64 ((a.length:Int)-1))))) (.ptr 0 ((((b+(w64 ((a.length:Int)-1):Int).toNat:Nat):Int):Int).toNat*1+0))) (qcQ qI P)) (ac (hs (.run [0] (jf ZT 227 (.ptr 0 ((((b+(w64 ((a.length:Int)-1):Int).toNat:Nat):Int):Int).toNat*1+0))) [.cells (j.flatMap (qa .u64).c)] (.int .u64 c7) [.cells (j.flatMap (qa .u64).c)] false) (qct zP (E:=(qa .u64)) (l:=j) rfl rfl (wI P) (nl rfl) rfl)) (ac (iv qI (qa .u64) u) (ac (lv 0 zP (qa .u64) u rfl) (ac (cv (qce c7 x4 0 b1)) az))))) ?_
   obtain rfl:=si g8
   exact⟨rfl,_,_,_,rfl,(Sub.refl _)⟩
  obtain⟨d0,U,g8⟩:=bnd g8
  obtain⟨d1,b2,g8⟩:=bnd g8
  refine gr fol [2,3,7,8,12,13,14] ((0,.slice 0 b d e 1)::(1,vl (qa .u64) a)::(kS (a.length:Int) d1.1 (kAh d1.2 (kBi [])))) (ac (hs (.done (.opt (qg ZT 103 (.slice 0 b d e 1) (.i (a.length:Int)))) (.ptr 0 ((((b+((a.length:Int):Int).toNat:Nat):Int):Int).toNat*1+0))) (qcQ qI K)) (ac (hs (.run [0] (jf ZT 227 (.ptr 0 ((((b+((a.length:Int):Int).toNat:Nat):Int):Int).toNat*1+0))) [.cells (j.flatMap (qa .u64).c)] (.int .u64 x3) [.cells (j.flatMap (qa .u64).c)] false) (qct zP (E:=(qa .u64)) (l:=j) rfl rfl (wI K) (nl rfl) rfl)) (ac (hs (.done (.opt (qg ZT 103 (.slice 0 b d e 1) (.i (w64 ((a.length:Int)-1))))) (.ptr 0 ((((b+(w64 ((a.length:Int)-1):Int).toNat:Nat):Int):Int).toNat*1+0))) (qcQ qI U)) (ac (hs (.run [0] (jf ZT 227 (.ptr 0 ((((b+(w64 ((a.length:Int)-1):Int).toNat:Nat):Int):Int).toNat*1+0))) [.cells (j.flatMap (qa .u64).c)] (.int .u64 d0) [.cells (j.flatMap (qa .u64).c)] false) (qct zP (E:=(qa .u64)) (l:=j) rfl rfl (wI U) (nl rfl) rfl)) (ac (iv qI (qa .u64) u) (ac (lv 0 zP (qa .u64) u rfl) (ac (cv (qeU N x3 d0 x4 b2)) az))))))) ?_
  obtain rfl:=si g8
  exact⟨rfl,_,_,_,rfl,(Sub.refl _)⟩
 rintro x s' ⟨rfl,n5,n6,n7,rfl,hsub⟩
 try dsimp only at h
 refine Goes.sub hsub ?_
 refine sq (Goes.block ?_)
 obtain⟨d2,g19,h⟩:=bnd h
 refine Goes.imp (Q:=fun x s'=>(x= .exit 0/\ ∃f,f=d2/\Sub s' (ofG 186 ((0,.slice 0 b d e 1)::(1,vl (qa .u64) a)::(kS (a.length:Int) f [])),[.cells (j.flatMap (qa .u64).c)]))) ?_ ?_
 ·refine Uc (fun M s=> ∃(o:Int) (q:Int) (a4:Int),s=(ofG 186 ((0,.slice 0 b d e 1)::(1,vl (qa .u64) a)::(kS (a.length:Int) o (kAD q a4 []))),[.cells (j.flatMap (qa .u64).c)])/\ym j b d a M o q a4=some d2) ?_ (m:=N) ⟨_,_,_,rfl,g19⟩
  rintro M s ⟨o,q,a4,rfl,g19⟩
  cases M with
  |zero=>simp only[ym]at g19;cases g19
  |succ M=>
   rw[ym]at g19
   refine sq ?_
   refine sh fol ((0,.slice 0 b d e 1)::(1,vl (qa .u64) a)::(kS (a.length:Int) o (kAh q [(64,.bool (decide (a4=0)))]))) ?_
   refine ihD g19 (fun c20 g19=>?_) (fun c20 g19=>?_)
   ·refine Goes.skip ?_
    refine Goes.block ?_
    obtain⟨x21,V,g19⟩:=bnd g19
    obtain⟨b3,b4,g19⟩:=bnd g19
    refine sq (gr fol [4,5,6] ((0,.slice 0 b d e 1)::(1,vl (qa .u64) a)::(kS (a.length:Int) o (kAh q [(9,.int .u64 b3.1),(10,.int .u64 b3.2)]))) (ac (iv qI (qa .u64) V) (ac (lv 0 zP (qa .u64) V rfl) (ac (cv (qbv o x21 b4)) az))) ?_)
    refine sq ?_
    refine sq ?_
    obtain⟨b26,k,g19⟩:=bnd g19
    refine Goes.cut (s':=(ofG 186 ((0,.slice 0 b d e 1)::(1,vl (qa .u64) a)::(kS (a.length:Int) o (kAh q [(91,.bool b26)]))),[.cells (j.flatMap (qa .u64).c)])) ?_ ?_
    ·rcases wyD k with⟨a5,k⟩|⟨a5,k⟩
     ·obtain rfl:=si k
      exact tr fol [3] ((0,.slice 0 b d e 1)::(1,vl (qa .u64) a)::(kS (a.length:Int) o (kAh q [(91,.bool true)]))) (ac (gw a5) az)
     rcases wyD k with⟨b5,k⟩|⟨b5,k⟩
     ·obtain⟨d3,X,k⟩:=bnd k
      obtain rfl:=si k
      exact tr fol [3,7,12,13] ((0,.slice 0 b d e 1)::(1,vl (qa .u64) a)::(kS (a.length:Int) o (kAh q [(91,.bool (decide (b3.2<=d3)))]))) (ac (gw a5) (ac (gw b5) (ac (hs (.done (.opt (qg ZT 103 (.slice 0 b d e 1) (.i (w64 ((a.length:Int)-2))))) (.ptr 0 ((((b+(w64 ((a.length:Int)-2):Int).toNat:Nat):Int):Int).toNat*1+0))) (qcQ qI X)) (ac (hs (.run [0] (jf ZT 227 (.ptr 0 ((((b+(w64 ((a.length:Int)-2):Int).toNat:Nat):Int):Int).toNat*1+0))) [.cells (j.flatMap (qa .u64).c)] (.int .u64 d3) [.cells (j.flatMap (qa .u64).c)] false) (qct zP (E:=(qa .u64)) (l:=j) rfl rfl (wI X) (nl rfl) rfl)) az))))
     obtain rfl:=si k
     exact tr fol [3,7] ((0,.slice 0 b d e 1)::(1,vl (qa .u64) a)::(kS (a.length:Int) o (kAh q [(91,.bool false)]))) (ac (gw a5) (ac (gw b5) az))
    refine ihB g19 (fun c28 g19=>?_) (fun c28 g19=>?_)
    ·refine Goes.exit ?_
     obtain rfl:=si g19
     exact⟨rfl,_,rfl,(Sub.keep [0,1,5,6] rfl rfl)⟩
    refine Goes.skip ?_
    refine sh fol ((0,.slice 0 b d e 1)::(1,vl (qa .u64) a)::(kS (a.length:Int) (IntKind.wrap .u64 (o-1)) (kAh q []))) ?_
    obtain⟨x29,Y,g19⟩:=bnd g19
    obtain⟨a6,b6,g19⟩:=bnd g19
    refine gr fol [4,5,6] ((0,.slice 0 b d e 1)::(1,vl (qa .u64) a)::(kS (a.length:Int) (IntKind.wrap .u64 (o-1)) (kAD a6.1 a6.2 []))) (ac (iv qI (qa .u64) Y) (ac (lv 0 zP (qa .u64) Y rfl) (ac (cv (qce q x29 0 b6)) az))) ?_
    exact⟨M,(ofG 186 ((0,.slice 0 b d e 1)::(1,vl (qa .u64) a)::(kS (a.length:Int) (IntKind.wrap .u64 (o-1)) (kAD a6.1 a6.2 []))),[.cells (j.flatMap (qa .u64).c)]),Nat.lt_succ_self _,(Sub.refl _),_,_,_,rfl,g19⟩
   refine Goes.exit ?_
   obtain rfl:=si g19
   exact⟨rfl,_,rfl,(Sub.keep [0,1,5,6] rfl rfl)⟩
 rintro x s' ⟨rfl,f,rfl,hsub⟩
 refine Goes.sub hsub ?_
 refine sh fol ((0,.slice 0 b d e 1)::(1,vl (qa .u64) a)::(kS (a.length:Int) f [(11,.int .u64 0),(12,.int .u64 0)])) ?_
 refine sq ?_
 refine sh fol ((0,.slice 0 b d e 1)::(1,vl (qa .u64) a)::(kS (a.length:Int) f [(11,.int .u64 0),(12,.int .u64 0),(104,.i (a.length:Int)),(105,.i 0)])) ?_
 refine Goes.block ?_
 obtain⟨d4,g38,h⟩:=bnd h
 refine Goes.imp (Q:=fun x s'=>(x= .exit 2/\ ∃C a7 a8,(C,a7,a8)=d4/\Sub s' (ofG 186 ((0,.slice 0 b d e 1)::(1,vl (qa .u64) a)::(kS (a.length:Int) f (kAB a7 a8 []))),[.cells (C.flatMap (qa .u64).c)]))) ?_ ?_
 ·refine Uc (fun M s=> ∃(D:List Int) (g:Int) (r:Int) (F:Int),s=(ofG 186 ((0,.slice 0 b d e 1)::(1,vl (qa .u64) a)::(kS (a.length:Int) f (kAB r F (kA4 (a.length:Int) g)))),[.cells (D.flatMap (qa .u64).c)])/\vg b d a f M D g r F=some d4) ?_ (m:=N) ⟨_,_,_,_,rfl,g38⟩
  rintro M s ⟨D,g,r,F,rfl,g38⟩
  cases M with
  |zero=>simp only[vg]at g38;cases g38
  |succ M=>
   rw[vg]at g38
   refine sh fol ((0,.slice 0 b d e 1)::(1,vl (qa .u64) a)::(kS (a.length:Int) f (kAB r F [(104,.i (a.length:Int)),(105,.i g),(106,.bool (decide (g<(a.length:Int))))]))) ?_
   refine sq ?_
   refine ihD g38 (fun c39 g38=>?_) (fun c39 g38=>?_)
   ·refine Goes.skip ?_
    refine sq (Goes.block ?_)
    refine sh fol ((0,.slice 0 b d e 1)::(1,vl (qa .u64) a)::(kS (a.length:Int) f (kAB r F ((13,.i g)::(kA4 (a.length:Int) g))))) ?_
    obtain⟨x40,Z,g38⟩:=bnd g38
    obtain⟨p,b7,g38⟩:=bnd g38
    refine sq (gr fol [3,4,5] ((0,.slice 0 b d e 1)::(1,vl (qa .u64) a)::(kS (a.length:Int) f (kAB r F ((13,.i g)::(kBD p.1 p.2 (kA4 (a.length:Int) g)))))) (ac (iv qI (qa .u64) Z) (ac (lv 0 zP (qa .u64) Z rfl) (ac (cv (qbv f x40 b7)) az))) ?_)
    refine sh fol ((0,.slice 0 b d e 1)::(1,vl (qa .u64) a)::(kS (a.length:Int) f (kAB r F ((13,.i g)::(kBD p.1 p.2 (kA4 (a.length:Int) g)))))) ?_
    obtain⟨t,b8,g38⟩:=bnd g38
    refine sq (gr fol [2] ((0,.slice 0 b d e 1)::(1,vl (qa .u64) a)::(kS (a.length:Int) f ((11,.int .u64 r)::(13,.i g)::(kP p.1 t.1 t.2 (kA4 (a.length:Int) g))))) (ac (cv (qce p.2 F 0 b8)) az) ?_)
    refine sh fol ((0,.slice 0 b d e 1)::(1,vl (qa .u64) a)::(kS (a.length:Int) f (kAB r (IntKind.wrap .u64 (p.1+t.2)) ((13,.i g)::(15,.int .u64 t.1)::(kA4 (a.length:Int) g))))) ?_
    obtain⟨d5,v,g38⟩:=bnd g38
    obtain⟨I,b9,g38⟩:=bnd g38
    obtain⟨a0,c0,g38⟩:=bnd g38
    refine gq fol [4,5,8,12,13] ((0,.slice 0 b d e 1)::(1,vl (qa .u64) a)::(kS (a.length:Int) f (kAB I.2 (IntKind.wrap .u64 (p.1+t.2)) (kA4 (a.length:Int) g)))) [.cells (a0.flatMap (qa .u64).c)] (ac (hs (.done (.opt (qg ZT 103 (.slice 0 b d e 1) (.i g))) (.ptr 0 ((((b+(g:Int).toNat:Nat):Int):Int).toNat*1+0))) (qcQ qI v)) (ac (hs (.run [0] (jf ZT 227 (.ptr 0 ((((b+(g:Int).toNat:Nat):Int):Int).toNat*1+0))) [.cells (D.flatMap (qa .u64).c)] (.int .u64 d5) [.cells (D.flatMap (qa .u64).c)] false) (qct zP (E:=(qa .u64)) (l:=D) rfl rfl (wI v) (nl rfl) rfl)) (ac (cv (qhw d5 t.1 r b9)) (ac (hs (.done (.opt (qg ZT 103 (.slice 0 b d e 1) (.i g))) (.ptr 0 ((((b+(g:Int).toNat:Nat):Int):Int).toNat*1+0))) (qcQ qI v)) (ac (hs (.run [0] (qp ZT 227 (.ptr 0 ((((b+(g:Int).toNat:Nat):Int):Int).toNat*1+0)) (.int .u64 I.1)) [.cells (D.flatMap (qa .u64).c)] .undef [.cells (a0.flatMap (qa .u64).c)] true) (qao (E:=(qa .u64)) (l:=D) (y:=I.1) rfl (show _=some 1 by kernel_rfl) rfl (wI v) rfl rfl rfl rfl rfl c0 rfl)) az))))) ?_
    refine Goes.sub (show Sub (ofG 186 ((0,.slice 0 b d e 1)::(1,vl (qa .u64) a)::(kS (a.length:Int) f (kAB I.2 (IntKind.wrap .u64 (p.1+t.2)) (kA4 (a.length:Int) g)))),[.cells (a0.flatMap (qa .u64).c)]) (ofG 186 ((0,.slice 0 b d e 1)::(1,vl (qa .u64) a)::(kS (a.length:Int) f (kAB I.2 (IntKind.wrap .u64 (p.1+t.2)) (kA4 (a.length:Int) g)))),[.cells (a0.flatMap (qa .u64).c)])from(Sub.norm [] [some 0] (by rw[hB];rfl) rfl (.keep (.slice rfl) (.keep (.same (qd (qa .u64) _)) (.keep (.same nI) (.keep (.same nI) (.keep (.same nI) (.keep (.same nI) (.keep (.same nI) (.keep (.same nI) .nil)))))))) (.ks .nil))) ?_
    refine gh fol ((0,.slice 0 b d e 1)::(1,vl (qa .u64) a)::(kS (a.length:Int) f (kAB I.2 (IntKind.wrap .u64 (p.1+t.2)) (kA4 (a.length:Int) (w64 (g+1)))))) ?_
    exact⟨M,(ofG 186 ((0,.slice 0 b d e 1)::(1,vl (qa .u64) a)::(kS (a.length:Int) f (kAB I.2 (IntKind.wrap .u64 (p.1+t.2)) (kA4 (a.length:Int) (w64 (g+1)))))),[.cells (a0.flatMap (qa .u64).c)]),Nat.lt_succ_self _,(Sub.refl _),_,_,_,_,rfl,g38⟩
   refine Goes.exit ?_
   obtain rfl:=si g38
   exact⟨rfl,_,_,_,rfl,(Sub.keep [0,1,5,6,11,12] rfl rfl)⟩
 rintro x s' ⟨rfl,C,a7,a8,rfl,hsub⟩
 try dsimp only at h
 refine Goes.sub hsub ?_
 obtain⟨d6,w,h⟩:=bnd h
 obtain⟨L,c1,h⟩:=bnd h
 obtain⟨a9,c2,h⟩:=bnd h
 refine sq (gq fol [4,5,8,12,13] ((0,.slice 0 b d e 1)::(1,vl (qa .u64) a)::(kS (a.length:Int) f [(11,.int .u64 L.2)])) [.cells (a9.flatMap (qa .u64).c)] (ac (hs (.done (.opt (qg ZT 103 (.slice 0 b d e 1) (.i (a.length:Int)))) (.ptr 0 ((((b+((a.length:Int):Int).toNat:Nat):Int):Int).toNat*1+0))) (qcQ qI w)) (ac (hs (.run [0] (jf ZT 227 (.ptr 0 ((((b+((a.length:Int):Int).toNat:Nat):Int):Int).toNat*1+0))) [.cells (C.flatMap (qa .u64).c)] (.int .u64 d6) [.cells (C.flatMap (qa .u64).c)] false) (qct zP (E:=(qa .u64)) (l:=C) rfl rfl (wI w) (nl rfl) rfl)) (ac (cv (qhw d6 a8 a7 c1)) (ac (hs (.done (.opt (qg ZT 103 (.slice 0 b d e 1) (.i (a.length:Int)))) (.ptr 0 ((((b+((a.length:Int):Int).toNat:Nat):Int):Int).toNat*1+0))) (qcQ qI w)) (ac (hs (.run [0] (qp ZT 227 (.ptr 0 ((((b+((a.length:Int):Int).toNat:Nat):Int):Int).toNat*1+0)) (.int .u64 L.1)) [.cells (C.flatMap (qa .u64).c)] .undef [.cells (a9.flatMap (qa .u64).c)] true) (qao (E:=(qa .u64)) (l:=C) (y:=L.1) rfl (show _=some 1 by kernel_rfl) rfl (wI w) rfl rfl rfl rfl rfl c2 rfl)) az))))) ?_)
 refine Goes.sub (show Sub (ofG 186 ((0,.slice 0 b d e 1)::(1,vl (qa .u64) a)::(kS (a.length:Int) f [(11,.int .u64 L.2)])),[.cells (a9.flatMap (qa .u64).c)]) (ofG 186 ((0,.slice 0 b d e 1)::(1,vl (qa .u64) a)::(kS (a.length:Int) f [(11,.int .u64 L.2)])),[.cells (a9.flatMap (qa .u64).c)])from(Sub.norm [] [some 0] (by rw[hB];rfl) rfl (.keep (.slice rfl) (.keep (.same (qd (qa .u64) _)) (.keep (.same nI) (.keep (.same nI) (.keep (.same nI) .nil))))) (.ks .nil))) ?_
 refine sq ?_
 refine sh fol ((0,.slice 0 b d e 1)::(1,vl (qa .u64) a)::(kS (a.length:Int) f [(154,.bool (decide (L.2=0)))])) ?_
 refine ihD h (fun c51 h=>?_) (fun c51 h=>?_)
 ·refine sh fol [(4,.int .u64 f)] ?_
  refine Goes.ret ?_
  simp only[ZI,ZP]at h
  obtain⟨rfl,rfl⟩:=h
  exact(gh2 [.int .u64 f] (qfl.refl _ _))
 refine Goes.skip ?_
 refine sh fol ((0,.slice 0 b d e 1)::(1,vl (qa .u64) a)::(kS (a.length:Int) f [(17,.int .u64 0)])) ?_
 refine sq ?_
 refine sh fol ((0,.slice 0 b d e 1)::(1,vl (qa .u64) a)::(kS (a.length:Int) f [(17,.int .u64 0),(156,.i (a.length:Int)),(157,.i 0)])) ?_
 refine Goes.block ?_
 obtain⟨d7,g57,h⟩:=bnd h
 refine Goes.imp (Q:=fun x s'=>(x= .exit 4/\ ∃G a1,(G,a1)=d7/\Sub s' (ofG 186 ((0,.slice 0 b d e 1)::(kS (a.length:Int) f [(17,.int .u64 a1)])),[.cells (G.flatMap (qa .u64).c)]))) ?_ ?_
 ·refine Uc (fun M s=> ∃(H:List Int) (n:Int) (O:Int),s=(ofG 186 ((0,.slice 0 b d e 1)::(1,vl (qa .u64) a)::(kS (a.length:Int) f (kA9 O (a.length:Int) n []))),[.cells (H.flatMap (qa .u64).c)])/\ve b d a M H n O=some d7) ?_ (m:=N) ⟨_,_,_,rfl,g57⟩
  rintro M s ⟨H,n,O,rfl,g57⟩
  cases M with
  |zero=>simp only[ve]at g57;cases g57
  |succ M=>
   rw[ve]at g57
   refine sh fol ((0,.slice 0 b d e 1)::(1,vl (qa .u64) a)::(kS (a.length:Int) f (kA9 O (a.length:Int) n [(158,.bool (decide (n<(a.length:Int))))]))) ?_
   refine sq ?_
   refine ihD g57 (fun c58 g57=>?_) (fun c58 g57=>?_)
   ·refine Goes.skip ?_
    refine sq (Goes.block ?_)
    refine sh fol ((0,.slice 0 b d e 1)::(1,vl (qa .u64) a)::(kS (a.length:Int) f [(17,.int .u64 O),(18,.i n),(156,.i (a.length:Int)),(157,.i n)])) ?_
    obtain⟨d8,z,g57⟩:=bnd g57
    obtain⟨x60,a2,g57⟩:=bnd g57
    obtain⟨J,c3,g57⟩:=bnd g57
    obtain⟨a3,c4,g57⟩:=bnd g57
    refine gq fol [4,5,8,9,11,15,16] ((0,.slice 0 b d e 1)::(1,vl (qa .u64) a)::(kS (a.length:Int) f (kA9 J.2 (a.length:Int) n []))) [.cells (a3.flatMap (qa .u64).c)] (ac (hs (.done (.opt (qg ZT 103 (.slice 0 b d e 1) (.i n))) (.ptr 0 ((((b+(n:Int).toNat:Nat):Int):Int).toNat*1+0))) (qcQ qI z)) (ac (hs (.run [0] (jf ZT 227 (.ptr 0 ((((b+(n:Int).toNat:Nat):Int):Int).toNat*1+0))) [.cells (H.flatMap (qa .u64).c)] (.int .u64 d8) [.cells (H.flatMap (qa .u64).c)] false) (qct zP (E:=(qa .u64)) (l:=H) rfl rfl (wI z) (nl rfl) rfl)) (ac (iv qI (qa .u64) a2) (ac (lv 0 zP (qa .u64) a2 rfl) (ac (cv (qce d8 x60 O c3)) (ac (hs (.done (.opt (qg ZT 103 (.slice 0 b d e 1) (.i n))) (.ptr 0 ((((b+(n:Int).toNat:Nat):Int):Int).toNat*1+0))) (qcQ qI z)) (ac (hs (.run [0] (qp ZT 227 (.ptr 0 ((((b+(n:Int).toNat:Nat):Int):Int).toNat*1+0)) (.int .u64 J.1)) [.cells (H.flatMap (qa .u64).c)] .undef [.cells (a3.flatMap (qa .u64).c)] true) (qao (E:=(qa .u64)) (l:=H) (y:=J.1) rfl (show _=some 1 by kernel_rfl) rfl (wI z) rfl rfl rfl rfl rfl c4 rfl)) az))))))) ?_
    refine Goes.sub (show Sub (ofG 186 ((0,.slice 0 b d e 1)::(1,vl (qa .u64) a)::(kS (a.length:Int) f (kA9 J.2 (a.length:Int) n []))),[.cells (a3.flatMap (qa .u64).c)]) (ofG 186 ((0,.slice 0 b d e 1)::(1,vl (qa .u64) a)::(kS (a.length:Int) f (kA9 J.2 (a.length:Int) n []))),[.cells (a3.flatMap (qa .u64).c)])from(Sub.norm [] [some 0] (by rw[hB];rfl) rfl (.keep (.slice rfl) (.keep (.same (qd (qa .u64) _)) (.keep (.same nI) (.keep (.same nI) (.keep (.same nI) (.keep (.same nI) (.keep (.same nI) .nil))))))) (.ks .nil))) ?_
    refine gh fol ((0,.slice 0 b d e 1)::(1,vl (qa .u64) a)::(kS (a.length:Int) f (kA9 J.2 (a.length:Int) (w64 (n+1)) []))) ?_
    exact⟨M,(ofG 186 ((0,.slice 0 b d e 1)::(1,vl (qa .u64) a)::(kS (a.length:Int) f (kA9 J.2 (a.length:Int) (w64 (n+1)) []))),[.cells (a3.flatMap (qa .u64).c)]),Nat.lt_succ_self _,(Sub.refl _),_,_,_,rfl,g57⟩
   refine Goes.exit ?_
   obtain rfl:=si g57
   exact⟨rfl,_,_,rfl,(Sub.keep [0,5,6,17] rfl rfl)⟩
 rintro x s' ⟨rfl,G,a1,rfl,hsub⟩
 try dsimp only at h
 refine Goes.sub hsub ?_
 obtain⟨c5,A,h⟩:=bnd h
 obtain⟨b0,c6,h⟩:=bnd h
 refine sq (gq fol [2,3,6,7] (kAQ f []) [.cells (b0.flatMap (qa .u64).c)] (ac (hs (.done (.opt (qg ZT 103 (.slice 0 b d e 1) (.i (a.length:Int)))) (.ptr 0 ((((b+((a.length:Int):Int).toNat:Nat):Int):Int).toNat*1+0))) (qcQ qI A)) (ac (hs (.run [0] (jf ZT 227 (.ptr 0 ((((b+((a.length:Int):Int).toNat:Nat):Int):Int).toNat*1+0))) [.cells (G.flatMap (qa .u64).c)] (.int .u64 c5) [.cells (G.flatMap (qa .u64).c)] false) (qct zP (E:=(qa .u64)) (l:=G) rfl rfl (wI A) (nl rfl) rfl)) (ac (hs (.done (.opt (qg ZT 103 (.slice 0 b d e 1) (.i (a.length:Int)))) (.ptr 0 ((((b+((a.length:Int):Int).toNat:Nat):Int):Int).toNat*1+0))) (qcQ qI A)) (ac (hs (.run [0] (qp ZT 227 (.ptr 0 ((((b+((a.length:Int):Int).toNat:Nat):Int):Int).toNat*1+0)) (.int .u64 (IntKind.wrap .u64 (c5+a1)))) [.cells (G.flatMap (qa .u64).c)] .undef [.cells (b0.flatMap (qa .u64).c)] true) (qao (E:=(qa .u64)) (l:=G) (y:=IntKind.wrap .u64 (c5+a1)) rfl (show _=some 1 by kernel_rfl) rfl (wI A) rfl rfl rfl rfl rfl c6 rfl)) az)))) ?_)
 refine Goes.sub (show Sub (ofG 186 (kAQ f []),[.cells (b0.flatMap (qa .u64).c)]) (ofG 186 (kAQ f []),[.cells (b0.flatMap (qa .u64).c)])from(Sub.norm [] [some 0] (by rw[hB];rfl) rfl (.keep (.same nI) .nil) (.ks .nil))) ?_
 refine sh fol [(4,.int .u64 (IntKind.wrap .u64 (f-1)))] ?_
 refine Goes.ret ?_
 simp only[ZI,ZP]at h
 obtain⟨rfl,rfl⟩:=h
 exact(gh2 [.int .u64 (IntKind.wrap .u64 (f-1))] (qfl.refl _ _))
def vQ (N:Nat) (a:List Int) (b:List Int):Nat->(List Int)->Int->Int->Option ((List Int)×Int)
 |0,_,_,_=>none
 |K+1,e,i,c=>
  if c>=0 then
  (idx a c).bind fun f=>
  (idx b 0).bind fun g=>
  (qaL N i f g).bind fun d=>
  (idx e c).bind fun j=>
  (put e c d.1).bind fun h=>
  vQ N a b K h d.2 (w64 (c-1))
  else
  some (e,i)
def vO (N:Nat) (c:List Int):Nat->(List Int)->(List Int)->Int->Option ((List Int)×(List Int))
 |0,_,_,_=>none
 |K+1,b,d,a=>
  if a>=0 then
  (win b a (w64 ((w64 (a+(c.length:Int)))+1))).bind fun(e,g)=>
  (qbA N b e g (b.length-e) c).bind fun(f,h)=>
  ((if b.length=f.length then some ()else none:Option Unit)).bind fun j=>
  (idx d a).bind fun k=>
  (put d a h).bind fun i=>
  vO N c K f i (w64 (a-1))
  else
  some (b,d)
def jN (c:Int) (e:List Int):Nat->(List Int)->Int->Option (List Int)
 |0,_,_=>none
 |K+1,d,a=>
  if a<(e.length:Int)then
  (((idx d a).bind fun f=>
  (qj7 .u64 f c).bind fun g=>
  (put d a g).bind fun b=>
  (if c>0 then
  some (decide ((w64 (a+1))<(b.length:Int)))
  else
  some false:Option Bool).bind fun h=>
  if h=true then
  (idx b a).bind fun i=>
  (idx b (w64 (a+1))).bind fun j=>
  (qhn .u64 j (w64 (64-c))).bind fun k=>
  (put b a (orI .u64 i k)).bind fun l=>
  some l
  else
  some b:Option (List Int))).bind fun m=>
  jN c e K m (w64 (a+1))
  else
  some d
def qaU (N:Nat) (a:List Int) (b:List Int):Option ((List Int)×(List Int)):=
 (jJ N a b).bind fun q=>
 if q<0 then
 some ([],a)
 else
 if(b.length:Int)=1 then
 (mk 8 (a.length:Int) 0).bind fun r=>
 (vQ N a b N r 0 (w64 ((a.length:Int)-1))).bind fun(s,t)=>
 (xc N s).bind fun e=>
 (xc N ([t]:List Int)).bind fun f=>
 some (e,f)
 else
 (idx b (w64 ((b.length:Int)-1))).bind fun g=>
 (bits_LeadingZeros64 g).bind fun d=>
 (yV N b d).bind fun h=>
 (xc N h).bind fun c=>
 (yV N a d).bind fun i=>
 (mk 8 (w64 ((w64 ((a.length:Int)-(c.length:Int)))+1)) 0).bind fun j=>
 (vO N c N i j (w64 ((a.length:Int)-(c.length:Int)))).bind fun(k,l)=>
 (jN d c N k 0).bind fun m=>
 (xc N l).bind fun n=>
 (cut m 0 (c.length:Int)).bind fun o=>
 (xc N o).bind fun p=>
 some (n,p)
theorem qeN (N:Nat) (a:List Int) (b:List Int) {res:(List Int)×(List Int)} (h:qaU N a b=some res):qb ZT (.fn 243) [vl (qa .u64) a,vl (qa .u64) b] [] (.tuple [vl (qa .u64) res.1,vl (qa .u64) res.2]) []:=by
 unfold qaU at h
 refine Ub Tryz.func243 rfl rfl (m:=137) rfl (rs:=[.tmp 4,.tmp 5]) rfl (l:=[(0,vl (qa .u64) a),(1,vl (qa .u64) b)]) rfl ?_
 refine sh fol [(0,vl (qa .u64) a),(1,vl (qa .u64) b)] ?_
 refine sq ?_
 obtain⟨r1,e_r1,h⟩:=bnd h
 refine sq (gr fol [2] [(0,vl (qa .u64) a),(1,vl (qa .u64) b),(19,.bool (decide (r1<0)))] (ac (cv (qbM N a b e_r1)) az) ?_)
 refine ihD h (fun c2 h=>?_) (fun c2 h=>?_)
 ·refine sh fol [(4,.nilslice),(5,vl (qa .u64) a)] ?_
  refine Goes.ret ?_
  obtain rfl:=si h
  exact(gw2 [.nilslice,vl (qa .u64) a] (FzW.tuple (qc.cons (FzW.nilv (E:=(qa .u64))) (qc.cons (Ua (qw (qa .u64) _ (nl rfl))) qc.nil))))
 refine Goes.skip ?_
 refine sq ?_
 refine sh fol [(0,vl (qa .u64) a),(1,vl (qa .u64) b),(23,.bool (decide ((b.length:Int)=1)))] ?_
 refine ihD h (fun c3 h=>?_) (fun c3 h=>?_)
 ·obtain⟨l4,e_l4,h⟩:=bnd h
  refine sq (gq fol [2] ((0,vl (qa .u64) a)::(1,vl (qa .u64) b)::(kU l4 [])) [.cells (l4.flatMap (qa .u64).c)] (ac (hs (.run [] (ji ZT 103 (.i (a.length:Int)) (.i (a.length:Int))) [] (.slice 0 0 l4.length l4.length 1) [.cells (l4.flatMap (qa .u64).c)] false) (qdr qI (E:=(qa .u64)) (z:=0) rfl (by kernel_rfl) e_l4 rfl)) az) ?_)
  refine sh fol ((0,vl (qa .u64) a)::(1,vl (qa .u64) b)::(kU l4 [(7,.int .u64 0)])) ?_
  refine sq ?_
  refine sh fol ((0,vl (qa .u64) a)::(1,vl (qa .u64) b)::(kU l4 [(7,.int .u64 0),(8,.i (w64 ((a.length:Int)-1)))])) ?_
  refine Goes.block ?_
  obtain⟨r10,g10,h⟩:=bnd h
  refine Goes.imp (Q:=fun x s'=>(x= .exit 0/\ ∃J n9,(J,n9)=r10/\Sub s' (ofG 137 (kU J (kAh n9 [])),[.cells (J.flatMap (qa .u64).c)]))) ?_ ?_
  ·refine Uc (fun M s=> ∃(K:List Int) (n6:Int) (F:Int),s=(ofG 137 ((0,vl (qa .u64) a)::(1,vl (qa .u64) b)::(kU K (kAh n6 [(8,.i F)]))),[.cells (K.flatMap (qa .u64).c)])/\vQ N a b M K n6 F=some r10) ?_ (m:=N) ⟨_,_,_,rfl,g10⟩
   rintro M s ⟨K,n6,F,rfl,g10⟩
   cases M with
   |zero=>simp only[vQ]at g10;cases g10
   |succ M=>
    rw[vQ]at g10
    refine sq ?_
    refine sh fol ((0,vl (qa .u64) a)::(1,vl (qa .u64) b)::(kU K (kAh n6 [(8,.i F),(31,.bool (decide (F>=0)))]))) ?_
    refine ihD g10 (fun c11 g10=>?_) (fun c11 g10=>?_)
    ·refine Goes.skip ?_
     refine sq (Goes.block ?_)
     obtain⟨x12,L,g10⟩:=bnd g10
     obtain⟨x13,O,g10⟩:=bnd g10
     obtain⟨C,e_r14,g10⟩:=bnd g10
     obtain⟨x15,P,g10⟩:=bnd g10
     obtain⟨A,U,g10⟩:=bnd g10
     refine gq fol [5,6,8,9,10,14,15] ((0,vl (qa .u64) a)::(1,vl (qa .u64) b)::(kU K (kAh C.2 [(8,.i F)]))) [.cells (A.flatMap (qa .u64).c)] (ac (iv qI (qa .u64) L) (ac (lv 0 zP (qa .u64) L rfl) (ac (iv qI (qa .u64) O) (ac (lv 0 zP (qa .u64) O rfl) (ac (cv (qeU N n6 x12 x13 e_r14)) (ac (hs (.done (.opt (qg ZT 103 (.slice 0 0 K.length K.length 1) (.i F))) (.ptr 0 ((F:Int).toNat*1+0))) (qaC qI P)) (ac (hs (.run [0] (qp ZT 227 (.ptr 0 ((F:Int).toNat*1+0)) (.int .u64 C.1)) [.cells (K.flatMap (qa .u64).c)] .undef [.cells (A.flatMap (qa .u64).c)] true) (qao (E:=(qa .u64)) (l:=K) (y:=C.1) rfl (show _=some 1 by kernel_rfl) rfl P rfl rfl rfl rfl rfl U rfl)) az))))))) ?_
     refine Goes.sub (show Sub (ofG 137 ((0,vl (qa .u64) a)::(1,vl (qa .u64) b)::(kU K (kAh C.2 [(8,.i F)]))),[.cells (A.flatMap (qa .u64).c)]) (ofG 137 ((0,vl (qa .u64) a)::(1,vl (qa .u64) b)::(kU A (kAh C.2 [(8,.i F)]))),[.cells (A.flatMap (qa .u64).c)])from(Sub.norm [] [some 0] rfl rfl (.keep (.same (qd (qa .u64) _)) (.keep (.same (qd (qa .u64) _)) (.keep (.sliceE rfl (vM U)) (.keep (.same nI) (.keep (.same nI) .nil))))) (.ks .nil))) ?_
     refine gh fol ((0,vl (qa .u64) a)::(1,vl (qa .u64) b)::(kU A (kAh C.2 [(8,.i (w64 (F-1)))]))) ?_
     exact⟨M,(ofG 137 ((0,vl (qa .u64) a)::(1,vl (qa .u64) b)::(kU A (kAh C.2 [(8,.i (w64 (F-1)))]))),[.cells (A.flatMap (qa .u64).c)]),Nat.lt_succ_self _,(Sub.refl _),_,_,_,rfl,g10⟩
    refine Goes.exit ?_
    obtain rfl:=si g10
    exact⟨rfl,_,_,rfl,(Sub.keep [6,7] rfl rfl)⟩
  rintro x s' ⟨rfl,J,n9,rfl,hsub⟩
  try dsimp only at h
  refine Goes.sub hsub ?_
  obtain⟨V,e_r17,h⟩:=bnd h
  obtain⟨X,e_r18,h⟩:=bnd h
  refine sq (gq fol [1,4] [(4,vl (qa .u64) V),(5,vl (qa .u64) X)] [.frozen (J.flatMap (qa .u64).c),.frozen [.int .u64 n9]] (ac (hs (.callF 254 [.slice 0 0 J.length J.length 1] [.cells (J.flatMap (qa .u64).c)] [0] [vl (qa .u64) J] (vl (qa .u64) V)) (qaQ (FzL.cons (Fz.sl (E:=(qa .u64)) rfl rfl (nl rfl)) FzL.nil) (xu N J e_r17) (qw (qa .u64) _ (nl rfl)))) (ac (hs (.callF 254 [.slice 1 0 1 1 1] [.frozen (J.flatMap (qa .u64).c),.cells [.int .u64 n9]] [1] [vl (qa .u64) ([n9]:List Int)] (vl (qa .u64) X)) (qaQ (FzL.cons (Fz.lit rfl rfl (Ud (AllST.cons tI AllST.nil))) FzL.nil) (xu N ([n9]:List Int) e_r18) (qw (qa .u64) _ (nl rfl)))) az)) ?_)
  refine Goes.sub (show Sub (ofG 137 [(4,vl (qa .u64) V),(5,vl (qa .u64) X)],[.frozen (J.flatMap (qa .u64).c),.frozen [.int .u64 n9]]) (ofG 137 [(4,vl (qa .u64) V),(5,vl (qa .u64) X)],[])from(Sub.norm [] [] rfl rfl (.keep (.same (qd (qa .u64) _)) (.keep (.same (qd (qa .u64) _)) .nil)) .nil)) ?_
  refine Goes.ret ?_
  obtain rfl:=si h
  exact(gw2 [vl (qa .u64) V,vl (qa .u64) X] (FzW.tuple (qc.cons (Ua (qw (qa .u64) _ (nl rfl))) (qc.cons (Ua (qw (qa .u64) _ (nl rfl))) qc.nil))))
 refine Goes.skip ?_
 obtain⟨x19,Y,h⟩:=bnd h
 obtain⟨g,e_r20,h⟩:=bnd h
 refine sq (gr fol [4,5,6] [(0,vl (qa .u64) a),(1,vl (qa .u64) b),(9,.i g)] (ac (iv qI (qa .u64) Y) (ac (lv 0 zP (qa .u64) Y rfl) (ac (cv (qa8 x19 e_r20)) az))) ?_)
 obtain⟨t,e_r21,h⟩:=bnd h
 obtain⟨d,e_r23,h⟩:=bnd h
 refine sq (gq fol [2,3] [(0,vl (qa .u64) a),(9,.i g),(10,vl (qa .u64) d)] [.frozen (t.flatMap (qa .u64).c)] (ac (hs (.callH 272 [vl (qa .u64) b,.i g] [] [] (.slice 0 0 t.length t.length 1) [.cells (t.flatMap (qa .u64).c)]) (qfU [] [some 0] (qcD N b g e_r21) .nil rfl rfl (.new rfl rfl (.same fa) rfl .nil) (rc (.same (qd (qa .u64) _)) (rc (.same nI) rn)) (.slice rfl) rfl)) (ac (hs (.callF 254 [.slice 0 0 t.length t.length 1] [.cells (t.flatMap (qa .u64).c)] [0] [vl (qa .u64) t] (vl (qa .u64) d)) (qaQ (FzL.cons (Fz.sl (E:=(qa .u64)) rfl rfl (nl rfl)) FzL.nil) (xu N t e_r23) (qw (qa .u64) _ (nl rfl)))) az)) ?_)
 refine Goes.sub (show Sub (ofG 137 [(0,vl (qa .u64) a),(9,.i g),(10,vl (qa .u64) d)],[.frozen (t.flatMap (qa .u64).c)]) (ofG 137 [(0,vl (qa .u64) a),(9,.i g),(10,vl (qa .u64) d)],[])from(Sub.norm [] [] rfl rfl (.keep (.same (qd (qa .u64) _)) (.keep (.same nI) (.keep (.same (qd (qa .u64) _)) .nil))) .nil)) ?_
 obtain⟨p,e_r24,h⟩:=bnd h
 refine sq (gq fol [2] [(0,vl (qa .u64) a),(9,.i g),(10,vl (qa .u64) d),(11,.slice 0 0 p.length p.length 1)] [.cells (p.flatMap (qa .u64).c)] (ac (hs (.callH 272 [vl (qa .u64) a,.i g] [] [] (.slice 0 0 p.length p.length 1) [.cells (p.flatMap (qa .u64).c)]) (qfU [] [some 0] (qcD N a g e_r24) .nil rfl rfl (.new rfl rfl (.same fa) rfl .nil) (rc (.same (qd (qa .u64) _)) (rc (.same nI) rn)) (.slice rfl) rfl)) az) ?_)
 refine sh fol [(0,vl (qa .u64) a),(9,.i g),(10,vl (qa .u64) d),(11,.slice 0 0 p.length p.length 1),(12,.i (d.length:Int))] ?_
 obtain⟨G,e_l26,h⟩:=bnd h
 refine sq (gq fol [5] ((0,vl (qa .u64) a)::(9,.i g)::(10,vl (qa .u64) d)::(kG p (d.length:Int) G [])) [.cells (p.flatMap (qa .u64).c),.cells (G.flatMap (qa .u64).c)] (ac (hs (.run [] (ji ZT 103 (.i (w64 ((w64 ((a.length:Int)-(d.length:Int)))+1))) (.i (w64 ((w64 ((a.length:Int)-(d.length:Int)))+1)))) [.cells (p.flatMap (qa .u64).c)] (.slice 1 0 G.length G.length 1) [.cells (p.flatMap (qa .u64).c),.cells (G.flatMap (qa .u64).c)] false) (qdr qI (E:=(qa .u64)) (z:=0) rfl (by kernel_rfl) e_l26 rfl)) az) ?_)
 refine sq ?_
 refine sh fol ((9,.i g)::(10,vl (qa .u64) d)::(kG p (d.length:Int) G [(14,.i (w64 ((a.length:Int)-(d.length:Int))))])) ?_
 refine Goes.block ?_
 obtain⟨r32,g32,h⟩:=bnd h
 refine Goes.imp (Q:=fun x s'=>(x= .exit 2/\ ∃Z e,(Z,e)=r32/\Sub s' (ofG 137 ((9,.i g)::(kG Z (d.length:Int) e [])),[.cells (Z.flatMap (qa .u64).c),.cells (e.flatMap (qa .u64).c)]))) ?_ ?_
 ·refine Uc (fun M s=> ∃(o:List Int) (q:List Int) (n:Int),s=(ofG 137 ((9,.i g)::(10,vl (qa .u64) d)::(kG o (d.length:Int) q [(14,.i n)])),[.cells (o.flatMap (qa .u64).c),.cells (q.flatMap (qa .u64).c)])/\vO N d M o q n=some r32) ?_ (m:=N) ⟨_,_,_,rfl,g32⟩
  rintro M s ⟨o,q,n,rfl,g32⟩
  cases M with
  |zero=>simp only[vO]at g32;cases g32
  |succ M=>
   rw[vO]at g32
   refine sq ?_
   refine sh fol ((9,.i g)::(10,vl (qa .u64) d)::(kG o (d.length:Int) q [(14,.i n),(81,.bool (decide (n>=0)))])) ?_
   refine ihD g32 (fun c33 g32=>?_) (fun c33 g32=>?_)
   ·refine Goes.skip ?_
    refine sq (Goes.block ?_)
    obtain⟨⟨H,n36⟩,e_w34,g32⟩:=bnd g32
    try dsimp only at g32
    obtain⟨⟨u,n39⟩,e_r37,g32⟩:=bnd g32
    try dsimp only at g32
    obtain⟨u40,e_u40,g32⟩:=bnd g32
    obtain⟨x41,a0,g32⟩:=bnd g32
    obtain⟨B,a1,g32⟩:=bnd g32
    refine gq fol [8,10,11,12] ((9,.i g)::(10,vl (qa .u64) d)::(kG o (d.length:Int) q [(14,.i n)])) [.cells (u.flatMap (qa .u64).c),.cells (B.flatMap (qa .u64).c)] (ac (hs (.done (.opt (qQ ZT 103 (.slice 0 0 o.length o.length 1) (some (.i n)) (some (.i (w64 ((w64 (n+(d.length:Int)))+1)))) none)) (.slice 0 H n36 (o.length-H) 1)) (wn_ix qI e_w34)) (ac (hs (.callH 273 [.slice 0 H n36 (o.length-H) 1,vl (qa .u64) d] [.cells (o.flatMap (qa .u64).c),.cells (q.flatMap (qa .u64).c)] [0] (.int .u64 n39) [.cells (u.flatMap (qa .u64).c),.cells (q.flatMap (qa .u64).c)]) (qfU [some 0] [some 0,none] (qha N o H n36 (o.length-H) d e_r37) (.ks .nil) rfl rfl (.back rfl rfl (.same fa) rfl (.old rfl rfl .nil)) (rc (.slice rfl) (rc (.same (qd (qa .u64) _)) rn)) (.same nI) rfl)) (ac (hs (.done (.opt (qg ZT 103 (.slice 1 0 q.length q.length 1) (.i n))) (.ptr 1 ((n:Int).toNat*1+0))) (qaC qI a0)) (ac (hs (.run [1] (qp ZT 227 (.ptr 1 ((n:Int).toNat*1+0)) (.int .u64 n39)) [.cells (u.flatMap (qa .u64).c),.cells (q.flatMap (qa .u64).c)] .undef [.cells (u.flatMap (qa .u64).c),.cells (B.flatMap (qa .u64).c)] true) (qao (E:=(qa .u64)) (l:=q) (y:=n39) rfl (show _=some 1 by kernel_rfl) rfl a0 rfl rfl rfl rfl rfl a1 rfl)) az)))) ?_
    refine Goes.sub (show Sub (ofG 137 ((9,.i g)::(10,vl (qa .u64) d)::(kG o (d.length:Int) q [(14,.i n)])),[.cells (u.flatMap (qa .u64).c),.cells (B.flatMap (qa .u64).c)]) (ofG 137 ((9,.i g)::(10,vl (qa .u64) d)::(kG u (d.length:Int) B [(14,.i n)])),[.cells (u.flatMap (qa .u64).c),.cells (B.flatMap (qa .u64).c)])from(Sub.norm [] [some 0,some 1] rfl rfl (.keep (.same nI) (.keep (.same (qd (qa .u64) _)) (.keep (.sliceE rfl (qpK e_u40)) (.keep (.same nI) (.keep (.sliceE rfl (vM a1)) (.keep (.same nI) .nil)))))) (.ks (.ks .nil)))) ?_
    refine gh fol ((9,.i g)::(10,vl (qa .u64) d)::(kG u (d.length:Int) B [(14,.i (w64 (n-1)))])) ?_
    exact⟨M,(ofG 137 ((9,.i g)::(10,vl (qa .u64) d)::(kG u (d.length:Int) B [(14,.i (w64 (n-1)))])),[.cells (u.flatMap (qa .u64).c),.cells (B.flatMap (qa .u64).c)]),Nat.lt_succ_self _,(Sub.refl _),_,_,_,rfl,g32⟩
   refine Goes.exit ?_
   obtain rfl:=si g32
   exact⟨rfl,_,_,rfl,(Sub.keep [9,11,12,13] rfl rfl)⟩
 rintro x s' ⟨rfl,Z,e,rfl,hsub⟩
 try dsimp only at h
 refine Goes.sub hsub ?_
 refine sq ?_
 refine sh fol ((9,.i g)::(kG Z (d.length:Int) e [(96,.i (d.length:Int)),(97,.i 0)])) ?_
 refine Goes.block ?_
 obtain⟨r46,g46,h⟩:=bnd h
 refine Goes.imp (Q:=fun x s'=>(x= .exit 4/\ ∃I,I=r46/\Sub s' (ofG 137 (kG I (d.length:Int) e []),[.cells (I.flatMap (qa .u64).c),.cells (e.flatMap (qa .u64).c)]))) ?_ ?_
 ·refine Uc (fun M s=> ∃(k:List Int) (f:Int),s=(ofG 137 ((9,.i g)::(kG k (d.length:Int) e (kBB (d.length:Int) f))),[.cells (k.flatMap (qa .u64).c),.cells (e.flatMap (qa .u64).c)])/\jN g d M k f=some r46) ?_ (m:=N) ⟨_,_,rfl,g46⟩
  rintro M s ⟨k,f,rfl,g46⟩
  cases M with
  |zero=>simp only[jN]at g46;cases g46
  |succ M=>
   rw[jN]at g46
   refine sh fol ((9,.i g)::(kG k (d.length:Int) e [(96,.i (d.length:Int)),(97,.i f),(98,.bool (decide (f<(d.length:Int))))])) ?_
   refine sq ?_
   refine ihD g46 (fun c47 g46=>?_) (fun c47 g46=>?_)
   ·refine Goes.skip ?_
    refine sq ?_
    obtain⟨r49,g49,g46⟩:=bnd g46
    refine Goes.imp (Q:=fun x s'=>(x= .normal/\ ∃D,D=r49/\Sub s' (ofG 137 ((9,.i g)::(kG D (d.length:Int) e (kBB (d.length:Int) f))),[.cells (D.flatMap (qa .u64).c),.cells (e.flatMap (qa .u64).c)]))) ?_ ?_
    ·refine Goes.block ?_
     refine sh fol ((9,.i g)::(kG k (d.length:Int) e ((15,.i f)::(kBB (d.length:Int) f)))) ?_
     obtain⟨x50,v,g49⟩:=bnd g49
     obtain⟨q51,e_q51,g49⟩:=bnd g49
     obtain⟨j,a2,g49⟩:=bnd g49
     refine sq (gq fol [2,3,5,6,7] ((9,.i g)::(kG k (d.length:Int) e ((15,.i f)::(kBB (d.length:Int) f)))) [.cells (j.flatMap (qa .u64).c),.cells (e.flatMap (qa .u64).c)] (ac (hs (.done (.opt (qg ZT 103 (.slice 0 0 k.length k.length 1) (.i f))) (.ptr 0 ((f:Int).toNat*1+0))) (qaC qI v)) (ac (hs (.run [0] (jf ZT 227 (.ptr 0 ((f:Int).toNat*1+0))) [.cells (k.flatMap (qa .u64).c),.cells (e.flatMap (qa .u64).c)] (.int .u64 x50) [.cells (k.flatMap (qa .u64).c),.cells (e.flatMap (qa .u64).c)] false) (qct zP (E:=(qa .u64)) (l:=k) rfl rfl v (nl rfl) rfl)) (ac (hs (.done (.opt (qY ZT .shr 227 (.tmp 103) (.tmp 104) (.int .u64 x50) (.i g))) (.int .u64 q51)) (qgD e_q51)) (ac (hs (.done (.opt (qg ZT 103 (.slice 0 0 k.length k.length 1) (.i f))) (.ptr 0 ((f:Int).toNat*1+0))) (qaC qI v)) (ac (hs (.run [0] (qp ZT 227 (.ptr 0 ((f:Int).toNat*1+0)) (.int .u64 q51)) [.cells (k.flatMap (qa .u64).c),.cells (e.flatMap (qa .u64).c)] .undef [.cells (j.flatMap (qa .u64).c),.cells (e.flatMap (qa .u64).c)] true) (qao (E:=(qa .u64)) (l:=k) (y:=q51) rfl (show _=some 1 by kernel_rfl) rfl v rfl rfl rfl rfl rfl a2 rfl)) az))))) ?_)
     refine Goes.sub (show Sub (ofG 137 ((9,.i g)::(kG k (d.length:Int) e ((15,.i f)::(kBB (d.length:Int) f)))),[.cells (j.flatMap (qa .u64).c),.cells (e.flatMap (qa .u64).c)]) (ofG 137 ((9,.i g)::(kG j (d.length:Int) e ((15,.i f)::(kBB (d.length:Int) f)))),[.cells (j.flatMap (qa .u64).c),.cells (e.flatMap (qa .u64).c)])from(Sub.norm [] [some 0,some 1] rfl rfl (.keep (.same nI) (.keep (.sliceE rfl (vM a2)) (.keep (.same nI) (.keep (.slice rfl) (.keep (.same nI) (.keep (.same nI) (.keep (.same nI) .nil))))))) (.ks (.ks .nil)))) ?_
     refine sq ?_
     obtain⟨b54,r,g49⟩:=bnd g49
     refine Goes.cut (s':=(ofG 137 ((9,.i g)::(kG j (d.length:Int) e [(15,.i f),(96,.i (d.length:Int)),(97,.i f),(115,.bool b54)])),[.cells (j.flatMap (qa .u64).c),.cells (e.flatMap (qa .u64).c)])) ?_ ?_
     ·rcases wyD r with⟨c53,r⟩|⟨c53,r⟩
      ·obtain rfl:=si r
       exact tr fol [2] ((9,.i g)::(kG j (d.length:Int) e [(15,.i f),(96,.i (d.length:Int)),(97,.i f),(115,.bool (decide ((w64 (f+1))<(j.length:Int))))])) (ac (gw c53) az)
      obtain rfl:=si r
      exact tr fol [2] ((9,.i g)::(kG j (d.length:Int) e [(15,.i f),(96,.i (d.length:Int)),(97,.i f),(115,.bool false)])) (ac (gw c53) az)
     refine ihB g49 (fun c56 g49=>?_) (fun c56 g49=>?_)
     ·obtain⟨x57,w,g49⟩:=bnd g49
      obtain⟨x58,a3,g49⟩:=bnd g49
      obtain⟨q59,e_q59,g49⟩:=bnd g49
      obtain⟨a4,a5,g49⟩:=bnd g49
      refine gq fol [2,3,7,8,11,13,14] ((9,.i g)::(kG j (d.length:Int) e (kBB (d.length:Int) f))) [.cells (a4.flatMap (qa .u64).c),.cells (e.flatMap (qa .u64).c)] (ac (hs (.done (.opt (qg ZT 103 (.slice 0 0 j.length j.length 1) (.i f))) (.ptr 0 ((f:Int).toNat*1+0))) (qaC qI w)) (ac (hs (.run [0] (jf ZT 227 (.ptr 0 ((f:Int).toNat*1+0))) [.cells (j.flatMap (qa .u64).c),.cells (e.flatMap (qa .u64).c)] (.int .u64 x57) [.cells (j.flatMap (qa .u64).c),.cells (e.flatMap (qa .u64).c)] false) (qct zP (E:=(qa .u64)) (l:=j) rfl rfl w (nl rfl) rfl)) (ac (hs (.done (.opt (qg ZT 103 (.slice 0 0 j.length j.length 1) (.i (w64 (f+1))))) (.ptr 0 ((w64 (f+1):Int).toNat*1+0))) (qaC qI a3)) (ac (hs (.run [0] (jf ZT 227 (.ptr 0 ((w64 (f+1):Int).toNat*1+0))) [.cells (j.flatMap (qa .u64).c),.cells (e.flatMap (qa .u64).c)] (.int .u64 x58) [.cells (j.flatMap (qa .u64).c),.cells (e.flatMap (qa .u64).c)] false) (qct zP (E:=(qa .u64)) (l:=j) rfl rfl a3 (nl rfl) rfl)) (ac (hs (.done (.opt (qY ZT .shl 227 (.tmp 124) (.tmp 126) (.int .u64 x58) (.i (w64 (64-g))))) (.int .u64 q59)) (qfo e_q59)) (ac (hs (.done (.opt (qg ZT 103 (.slice 0 0 j.length j.length 1) (.i f))) (.ptr 0 ((f:Int).toNat*1+0))) (qaC qI w)) (ac (hs (.run [0] (qp ZT 227 (.ptr 0 ((f:Int).toNat*1+0)) (.int .u64 (orI .u64 x57 q59))) [.cells (j.flatMap (qa .u64).c),.cells (e.flatMap (qa .u64).c)] .undef [.cells (a4.flatMap (qa .u64).c),.cells (e.flatMap (qa .u64).c)] true) (qao (E:=(qa .u64)) (l:=j) (y:=orI .u64 x57 q59) rfl (show _=some 1 by kernel_rfl) rfl w rfl rfl rfl rfl rfl a5 rfl)) az))))))) ?_
      obtain rfl:=si g49
      exact⟨rfl,_,rfl,((show Sub (ofG 137 ((9,.i g)::(kG j (d.length:Int) e (kBB (d.length:Int) f))),[.cells (a4.flatMap (qa .u64).c),.cells (e.flatMap (qa .u64).c)]) (ofG 137 ((9,.i g)::(kG a4 (d.length:Int) e (kBB (d.length:Int) f))),[.cells (a4.flatMap (qa .u64).c),.cells (e.flatMap (qa .u64).c)])from(Sub.norm [] [some 0,some 1] rfl rfl (.keep (.same nI) (.keep (.sliceE rfl (vM a5)) (.keep (.same nI) (.keep (.slice rfl) (.keep (.same nI) (.keep (.same nI) .nil)))))) (.ks (.ks .nil)))).trans (Sub.refl _))⟩
     refine Goes.skip ?_
     obtain rfl:=si g49
     exact⟨rfl,_,rfl,(Sub.keep [9,11,12,13,96,97] rfl rfl)⟩
    rintro x s' ⟨rfl,D,rfl,hsub⟩
    refine Goes.sub hsub ?_
    refine gh fol ((9,.i g)::(kG D (d.length:Int) e (kBB (d.length:Int) (w64 (f+1))))) ?_
    exact⟨M,(ofG 137 ((9,.i g)::(kG D (d.length:Int) e (kBB (d.length:Int) (w64 (f+1))))),[.cells (D.flatMap (qa .u64).c),.cells (e.flatMap (qa .u64).c)]),Nat.lt_succ_self _,(Sub.refl _),_,_,rfl,g46⟩
   refine Goes.exit ?_
   obtain rfl:=si g46
   exact⟨rfl,_,rfl,(Sub.keep [11,12,13] rfl rfl)⟩
 rintro x s' ⟨rfl,I,rfl,hsub⟩
 refine Goes.sub hsub ?_
 refine sq (Goes.sub (s':=(ofG 137 [(11,vl (qa .u64) I),(12,.i (d.length:Int)),(13,.slice 0 0 e.length e.length 1)],[.cells (e.flatMap (qa .u64).c)])) (Sub.norm [0] [some 1] rfl rfl (.keep (.frz (Fz.sl (E:=(qa .u64)) rfl rfl (nl rfl)) (qd (qa .u64) _)) (.keep (.same nI) (.keep (.slice rfl) .nil))) (.ks .nil)) ?_)
 obtain⟨a6,e_r62,h⟩:=bnd h
 obtain⟨s63,e_s63,h⟩:=bnd h
 obtain⟨a7,e_r64,h⟩:=bnd h
 refine gq fol [1,4,5] [(4,vl (qa .u64) a6),(5,vl (qa .u64) a7)] [.frozen (e.flatMap (qa .u64).c)] (ac (hs (.callF 254 [.slice 0 0 e.length e.length 1] [.cells (e.flatMap (qa .u64).c)] [0] [vl (qa .u64) e] (vl (qa .u64) a6)) (qaQ (FzL.cons (Fz.sl (E:=(qa .u64)) rfl rfl (nl rfl)) FzL.nil) (xu N e e_r62) (qw (qa .u64) _ (nl rfl)))) (ac (hs (.done (.opt (qQ ZT 103 (vl (qa .u64) I) none (some (.i (d.length:Int))) none)) (vl (qa .u64) s63)) (qjE qI (E:=(qa .u64)) rfl none (some (d.length:Int)) e_s63)) (ac (cv (xu N s63 e_r64)) az))) ?_
 refine Goes.sub (show Sub (ofG 137 [(4,vl (qa .u64) a6),(5,vl (qa .u64) a7)],[.frozen (e.flatMap (qa .u64).c)]) (ofG 137 [(4,vl (qa .u64) a6),(5,vl (qa .u64) a7)],[])from(Sub.norm [] [] rfl rfl (.keep (.same (qd (qa .u64) _)) (.keep (.same (qd (qa .u64) _)) .nil)) .nil)) ?_
 refine Goes.ret ?_
 obtain rfl:=si h
 exact(gw2 [vl (qa .u64) a6,vl (qa .u64) a7] (FzW.tuple (qc.cons (Ua (qw (qa .u64) _ (nl rfl))) (qc.cons (Ua (qw (qa .u64) _ (nl rfl))) qc.nil))))
end Go.Av
