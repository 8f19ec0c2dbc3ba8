/-
  Walks of functions: what each computes, as a plain function.
-/
import Derived.Test.YtfjamndmfilklaaGreatDoorAvJnR
noncomputable section
namespace Go.Av
open Go.Proofs Go.RowKit
abbrev ZT:=Tryz.prog
set_option linter.unusedSectionVars false
set_option linter.unusedVariables false
set_option linter.unusedSimpArgs false
set_option maxRecDepth 100000
theorem fol:Tryz.prog.follows .mixedOrders=true:=by kernel_rfl
structure qj where
 s:Int
 w:List Int
def qjd:Enc qj:=(encI.prod (encN (qa .u64))).comap fun x=>(x.s,x.w)
instance:SE qjd:=⟨nl rfl⟩
structure qY where
 Num:qj
 Den:qj
def qn7:Enc qY:=(qjd.prod qjd).comap fun x=>(x.Num,x.Den)
instance:SE qn7:=⟨nl rfl⟩
structure kK where
 Low:Str
 High:Str
def qks:Enc kK:=(encS.prod encS).comap fun x=>(x.Low,x.High)
instance:SE qks:=⟨nl rfl⟩
structure qz where
 neg:Bool
 w:List Int
def qkR:Enc qz:=(encB.prod (qom encI)).comap fun x=>(x.neg,x.w)
instance:SE qkR:=⟨nl rfl⟩
abbrev kA {α3:Type} {α4:Type} (a:List Int) (b:List Int) (c:Int) (d:List α3) (e:List α4) (f:Int) (x:List (Nat×AV)):List (Nat×AV):=(8,vl encI a)::(9,vl encI b)::(10,.i c)::(11,.oslice 0 d.length 1)::(12,.slice 1 0 e.length e.length 1)::(13,.i f)::x
abbrev kB (a:Str) (b:Str) (c:Str) (d:Str) (x:List Blk):List Blk:= .cells [.str a,.str b]:: .cells [.str c,.str d]::x
abbrev kC (a:List Int) (x:List Blk):List Blk:= .cells (a.flatMap encI.c)::x
abbrev kD {α0:Type} (a:List α0) (x:List (Nat×AV)):List (Nat×AV):=(5,.slice 0 0 a.length a.length 1)::x
abbrev kE (x:List Blk):List Blk:= .cells [.i 0,.nilslice,.i 0,.nilslice]::x
abbrev kF (x:List (Nat×AV)):List (Nat×AV):=(2,.ptr 0 0)::(3,.ptr 1 0)::(4,.ptr 2 0)::x
abbrev kH {α0:Type} {α2:Type} (a:List α0) (b:Int) (c:List α2) (x:List (Nat×AV)):List (Nat×AV):=(11,.slice 0 0 a.length a.length 1)::(12,.i b)::(13,.slice 1 0 c.length c.length 1)::x
abbrev kI (a:List Int) (b:List Int) (x:List (Nat×AV)):List (Nat×AV):=(0,vl encI a)::(1,vl encI b)::x
abbrev kJ (a:Int) (b:Int) (c:Int) (d:Int) (x:List (Nat×AV)):List (Nat×AV):=(2,.int .u64 a)::(8,.int .u64 b)::(9,.int .u64 c)::(10,.int .u64 d)::x
abbrev kL (a:Bool) (b:List Int) (c:Bool) (d:List Int) (x:List Blk):List Blk:= .cells [.bool a,vl encI b]:: .cells [.bool c,vl encI d]::x
abbrev kN (x:List Blk):List Blk:= .cells [.str [],.str []]::x
abbrev kO (x:List (Nat×AV)):List (Nat×AV):=(2,.ptr 0 0)::x
abbrev kP (x:List Blk):List Blk:= .cells [.bool false,.nilslice]::x
abbrev kQ (a:Str) (b:Str) (x:List Blk):List Blk:= .cells [.str a,.str b]::x
abbrev kR (a:Str) (b:Str) (x:List (Nat×AV)):List (Nat×AV):=(0,.str a)::(1,.str b)::x
abbrev kS (a:Int) (b:Int) (c:Int) (x:List (Nat×AV)):List (Nat×AV):=(14,.int .u64 a)::(15,.int .u64 b)::(16,.int .u64 c)::x
abbrev kU (a:Int) (b:Int) (x:List (Nat×AV)):List (Nat×AV):=(5,.i a)::(6,.int .u64 b)::x
abbrev kV (a:Str) (b:Str) (x:List AV):List AV:= .agg [.str a,.str b]::x
abbrev kW {α0:Type} (a:List α0) (x:List (Nat×AV)):List (Nat×AV):=(6,.slice 0 0 a.length a.length 1)::x
abbrev kX (x:List (Nat×AV)):List (Nat×AV):=(4,.ptr 0 0)::x
abbrev kY (a:Int) (b:Int) (x:List (Nat×AV)):List (Nat×AV):=(0,.int .u64 a)::(1,.int .u64 b)::x
abbrev kZ (a:Int) (b:Int) (x:List (Nat×AV)):List (Nat×AV):=(11,.int .u64 a)::(12,.int .u64 b)::x
abbrev kAA (x:List (Nat×AV)):List (Nat×AV):=(3,.ptr 0 0)::(4,.ptr 1 0)::x
abbrev kAB (x:List (Nat×AV)):List (Nat×AV):=(1,.ptr 0 0)::(2,.ptr 1 0)::x
abbrev kAC (a:Int) (b:Int) (x:List (Nat×AV)):List (Nat×AV):=(0,.i a)::(1,.i b)::x
abbrev kAD (a:Int) (b:Int) (x:List (Nat×AV)):List (Nat×AV):=(7,.int .u64 a)::(8,.int .u64 b)::x
abbrev kAG (a:Str) (b:Str) (c:Str) (d:Str) (x:List (Nat×AV)):List (Nat×AV):=(0,.agg [.str a,.str b])::(1,.agg [.str c,.str d])::x
abbrev kAH (a:Int) (b:Int) (x:List (Nat×AV)):List (Nat×AV):=(21,.i a)::(22,.i b)::x
abbrev kAI {α0:Type} (a:List α0) (x:List (Nat×AV)):List (Nat×AV):=(6,.gslice 0 a.length 1)::x
abbrev kAJ (a:Str) (b:Str) (c:Bool) (x:List (Nat×AV)):List (Nat×AV):=(5,.str a)::(6,.str b)::(7,.bool c)::x
abbrev kAK (a:List Str) (x:List Blk):List Blk:= .cells (a.flatMap encS.c)::x
abbrev kAM (a:Str) (x:List (Nat×AV)):List (Nat×AV):=(0,.str a)::x
abbrev kAN (a:Int) (b:Int):List (Nat×AV):=[(13,.i a),(14,.i b)]
abbrev kAO (a:Str) (b:Str):List AV:=[.str a,.str b]
abbrev kAP (a:Int) (b:Int) (x:List (Nat×AV)):List (Nat×AV):=(2,.i a)::(3,.ptr 0 0)::(11,.ptr 2 0)::(12,.i b)::x
abbrev kAQ (a:Int) (b:Int) (x:List (Nat×AV)):List (Nat×AV):=(7,.i a)::(8,.i b)::x
abbrev kAR (x:List (Nat×AV)):List (Nat×AV):=(4,.ptr 2 0)::x
abbrev kAT (a:Int) (x:List (Nat×AV)):List (Nat×AV):=(6,.int .u64 a)::x
abbrev kAV (x:List (Nat×AV)):List (Nat×AV):=(3,.ptr 1 0)::x
abbrev kAW (a:Bool) (b:List Int) (x:List Blk):List Blk:= .cells [.bool a,vl encI b]::x
abbrev kAX {α0:Type} (a:List α0) (x:List (Nat×AV)):List (Nat×AV):=(5,.gslice 0 a.length 1)::x
abbrev kAY (a:Int) (b:Int) (x:List (Nat×AV)):List (Nat×AV):=(11,.int .u64 a)::(13,.int .u64 b)::x
abbrev kAa (x:List (Nat×AV)):List (Nat×AV):=(4,.ptr 1 0)::(5,.ptr 2 0)::x
abbrev kAb (a:Int) (x:List (Nat×AV)):List (Nat×AV):=(5,.ptr 1 0)::(6,.i a)::x
abbrev kAc (a:List Int):List Blk:=[.frozen (a.flatMap encI.c)]
abbrev kAd (a:Int) (b:Int) (x:List (Nat×AV)):List (Nat×AV):=(17,.int .u64 a)::(18,.int .u64 b)::x
abbrev kAe (a:Int) (b:Int) (c:Int) (x:List (Nat×AV)):List (Nat×AV):=(2,.i a)::(3,.ptr 0 0)::(9,.ptr 1 0)::(10,.i b)::(11,.ptr 2 0)::(12,.i c)::x
abbrev kAf (a:List Int) (x:List (Nat×AV)):List (Nat×AV):=(0,vl encI a)::x
abbrev kAg (a:Bool) (b:List Int):List AV:=[.bool a,vl encI b]
abbrev kAh:List (Nat×AV):=[(4,.bool false)]
abbrev kAi {α3:Type} (a:List Int) (b:List Int) (c:Int) (d:List α3) (x:List (Nat×AV)):List (Nat×AV):=(8,vl encI a)::(9,vl encI b)::(10,.i c)::(11,.oslice 0 d.length 1)::x
abbrev kAk (a:Int) (x:List (Nat×AV)):List (Nat×AV):=(7,.int .u64 a)::x
abbrev kAl (a:Bool) (b:List Int) (c:Bool) (d:List Int):List AV:=[.agg [.bool a,vl encI b],.agg [.bool c,vl encI d]]
abbrev kAm (a:Int) (b:Int) (c:Int) (x:List (Nat×AV)):List (Nat×AV):=(14,.i a)::(15,.i b)::(16,.i c)::x
abbrev kAn (a:List Str) (b:Int) (x:List (Nat×AV)):List (Nat×AV):=(0,vl encS a)::(3,.i b)::x
abbrev kAp (x:List (Nat×AV)):List (Nat×AV):=(1,.ptr 0 0)::x
abbrev kAq (a:Str):List (Nat×AV):=[(4,.str a)]
abbrev kAr (a:Int) (b:Int) (x:List (Nat×AV)):List (Nat×AV):=(6,.i a)::(7,.i b)::x
abbrev kAs (a:Str) (b:Int) (x:List (Nat×AV)):List (Nat×AV):=(3,.str a)::(4,.i b)::x
abbrev kAt (a:Int) (b:Int):List Blk:=[.cells [.i a,.i b]]
abbrev kAu {α0:Type} (a:List α0) (b:Bool) (x:List (Nat×AV)):List (Nat×AV):=(3,.gslice 1 a.length 1)::(4,.bool b)::x
abbrev kAv (a:Int) (b:Int) (c:Int) (d:Int) (x:List (Nat×AV)):List (Nat×AV):=(2,.i a)::(7,.i b)::(9,.i c)::(10,.i d)::x
abbrev kAw (a:Bool):List (Nat×AV):=[(8,.bool a)]
abbrev kAx (a:Int) (b:Int) (x:List (Nat×AV)):List (Nat×AV):=(8,.i a)::(9,.i b)::x
abbrev kAy (a:Int) (b:Int):List (Nat×AV):=[(104,.i a),(105,.i b)]
abbrev kAz (a:Int) (b:Int):List (Nat×AV):=[(28,.i a),(29,.i b)]
abbrev kA0 (a:Int) (b:Int) (x:List (Nat×AV)):List (Nat×AV):=(9,.ptr 2 0)::(10,.i a)::(11,.ptr 3 0)::(12,.i b)::x
abbrev kA1 (a:Bool):List (Nat×AV):=[(4,.bool a)]
abbrev kA2 (a:Int) (b:Int) (c:Int) (x:List (Nat×AV)):List (Nat×AV):=(17,.int .u64 a)::(156,.i b)::(157,.i c)::x
abbrev kA3 (a:Bool) (x:List (Nat×AV)):List (Nat×AV):=(3,.bool a)::(4,.ptr 1 0)::x
abbrev kA5 (a:Str) (b:Bool) (x:List (Nat×AV)):List (Nat×AV):=(5,.str a)::(6,.bool b)::x
abbrev kA6 (a:Int) (b:Int):List (Nat×AV):=[(96,.i a),(97,.i b)]
abbrev kA7 (a:Int):List Blk:=[.cells [.i a,.nilslice]]
abbrev kA8 (a:Int) (b:Int) (x:List (Nat×AV)):List (Nat×AV):=(14,.int .u64 a)::(15,.int .u64 b)::x
abbrev kA9 (x:List (Nat×AV)):List (Nat×AV):=(6,.ptr 2 0)::x
abbrev kBB:List Blk:=[.cells (([]:List Int).flatMap encI.c)]
abbrev kBC (a:Int) (x:List Blk):List Blk:= .dead:: .cells [.i a]::x
abbrev kBD (a:List Int) (b:List Int):List AV:=[vl encI a,vl encI b]
abbrev kBE (a:Bool):List (Nat×AV):=[(12,.bool a)]
abbrev kBF (a:Int):List (Nat×AV):=[(2,.i a)]
abbrev kBG (a:Int):List (Nat×AV):=[(5,.i a)]
abbrev kBH (a:List Int) (x:List (Nat×AV)):List (Nat×AV):=(5,vl encI a)::x
abbrev kBI (x:List (Nat×AV)):List (Nat×AV):=(5,.ptr 3 0)::x
abbrev kBJ (a:Str):List (Nat×AV):=[(2,.str a)]
abbrev kBK:List (Nat×AV):=[(8,.bool false)]
abbrev kBL (a:List Str) (x:List (Nat×AV)):List (Nat×AV):=(0,vl encS a)::x
abbrev kBM (a:Bool) (b:List Int) (c:Bool) (d:List Int):List (Nat×AV):=[(0,.agg [.bool a,vl encI b]),(1,.agg [.bool c,vl encI d])]
abbrev kBN (a:Bool):List (Nat×AV):=[(15,.bool a)]
abbrev kBO (a:Bool):List (Nat×AV):=[(13,.bool a)]
abbrev kBP (a:Bool):List (Nat×AV):=[(10,.bool a)]
abbrev kBQ (a:Bool) (x:List (Nat×AV)):List (Nat×AV):=(3,.bool a)::x
abbrev kBS (a:Int) (x:List (Nat×AV)):List (Nat×AV):=(0,.int .u64 a)::x
abbrev kBU (a:Int):List (Nat×AV):=[(3,.i a)]
abbrev kBV (x:List (Nat×AV)):List (Nat×AV):=(5,.ptr 1 0)::x
abbrev kBW:List (Nat×AV):=[(2,.ptr 1 0)]
abbrev kBY:List (Nat×AV):=[(2,.bool false)]
abbrev kBZ (x:List AV):List AV:= .agg [.str [],.str []]::x
abbrev kBa (x:List (Nat×AV)):List (Nat×AV):=(10,.ptr 1 0)::x
abbrev kBb (a:Int) (b:Int):List AV:=[.int .u64 a,.int .u64 b]
abbrev kBc (x:List (Nat×AV)):List (Nat×AV):=(8,.int .u64 0)::x
abbrev kBd (a:Str):List (Nat×AV):=[(5,.str a)]
abbrev nz1 (x:qj):List AV:=ni1 x.s x.w
abbrev nq1 (x:qY):List AV:=ni2 x.Num.s x.Num.w x.Den.s x.Den.w
theorem sl73:SlT ZT 73 22 1 16:=⟨by kernel_rfl,by kernel_rfl,by kernel_rfl,by kernel_rfl⟩
theorem ce22:CeT ZT 22:=⟨by kernel_rfl,by kernel_rfl⟩
theorem sl142:SlT ZT 142 27 1 8:=⟨by kernel_rfl,by kernel_rfl,by kernel_rfl,by kernel_rfl⟩
theorem ce27:CeT ZT 27:=⟨by kernel_rfl,by kernel_rfl⟩
theorem qaF:Tryz.prog.underlying 83=some (.slice 197):=by kernel_rfl
theorem zH:SlT ZT 83 197 1 8:=⟨by kernel_rfl,by kernel_rfl,by kernel_rfl,by kernel_rfl⟩
theorem zP:CeT ZT 197:=⟨by kernel_rfl,by kernel_rfl⟩
theorem st9:Tryz.prog.underlying 9=some .string:=by kernel_rfl
theorem qiF:EqT ZT 24 #[{name:= "Low",type:=22,offset:=0,embedded:=false,tag:= "",pkgPath:= "",byteOffset:=0},{name:= "High",type:=22,offset:=1,embedded:=false,tag:= "",pkgPath:= "",byteOffset:=16}]:=⟨by kernel_rfl,by kernel_rfl,by kernel_rfl⟩
theorem qqs:SlT ZT 231 9 1 16:=⟨by kernel_rfl,by kernel_rfl,by kernel_rfl,by kernel_rfl⟩
theorem ce9:CeT ZT 9:=⟨by kernel_rfl,by kernel_rfl⟩
theorem jB:SlT ZT 60 3 1 8:=⟨by kernel_rfl,by kernel_rfl,by kernel_rfl,by kernel_rfl⟩
theorem ce3:CeT ZT 3:=⟨by kernel_rfl,by kernel_rfl⟩
theorem qlj:Tryz.prog.underlying 22=some .string:=by kernel_rfl
def yK (l:List Str):Nat->Int->Option (Unit⊕Bool)
 |0,_=>none
 |K+1,a=>
  if a<(l.length:Int)then
  (idx l a).bind fun b=>
  if(b.length:Int)>60 then
  some (.inr true)
  else
  yK l K (w64 (a+1))
  else
  some (.inl ())
def qci (N:Nat) (l:List Str):Option Bool:=
 (yK l N 0).bind (fun
 |(.inl ())=>
 some false
 |(.inr a)=>
 some a)
theorem qir (N:Nat) (l:List Str) {res:Bool} (h:qci N l=some res):qb ZT (.fn 6) [vl encS l] [] (.bool res) []:=by
 unfold qci at h
 refine Ub Tryz.func6 rfl rfl (m:=16) rfl (rs:=[.tmp 2]) rfl (l:=(kBL l [])) rfl ?_
 refine sh fol (kBL l []) ?_
 refine sq ?_
 refine sh fol (kBL l [(3,.i 0)]) ?_
 refine Goes.block ?_
 obtain⟨c,g2,h⟩:=bnd h
 refine Goes.imp (Q:=fun x s'=>(x= .exit 0/\(.inl ())=c/\Sub s' (ofG 16 [],[]))\/(x= .ret/\ ∃d,(.inr d)=c/\jy ZT [.tmp 2] (.bool d) .ret s')) ?_ ?_
 ·refine Uc (fun M s=> ∃(a:Int),s=(ofG 16 (kAn l a []),[])/\yK l M a=some c) ?_ (m:=N) ⟨_,rfl,g2⟩
  rintro M s ⟨a,rfl,g2⟩
  cases M with
  |zero=>simp only[yK]at g2;cases g2
  |succ M=>
   rw[yK]at g2
   refine sq ?_
   refine sh fol (kAn l a [(7,.bool (decide (a<(l.length:Int))))]) ?_
   refine ihD g2 (fun e g2=>?_) (fun e g2=>?_)
   ·refine Goes.skip ?_
    refine sq (Goes.block ?_)
    obtain⟨f,b,g2⟩:=bnd g2
    refine sq (gr fol [2,3] (kAn l a (kBN (decide ((f.length:Int)>60)))) (ac (iv sl73 encS b) (ac (lv 0 ce22 encS b rfl) az)) ?_)
    refine ihD g2 (fun g g2=>?_) (fun g g2=>?_)
    ·refine sh fol [(2,.bool true)] ?_
     refine Goes.ret ?_
     obtain rfl:=si g2
     exact Or.inr (⟨rfl,_,rfl,(gw2 [.bool true] (Ua tB))⟩)
    refine Goes.skip ?_
    refine gh fol (kAn l (w64 (a+1)) []) ?_
    exact⟨M,(ofG 16 (kAn l (w64 (a+1)) []),[]),Nat.lt_succ_self _,(Sub.refl _),_,rfl,g2⟩
   refine Goes.exit ?_
   obtain rfl:=si g2
   exact Or.inl (⟨rfl,rfl,(Sub.keep [] rfl rfl)⟩)
 rintro x s' (⟨rfl,rfl,hsub⟩|⟨rfl,j,rfl,hret⟩)
 ·try dsimp only at h
  refine Goes.sub hsub ?_
  refine sh fol kBY ?_
  refine Goes.ret ?_
  obtain rfl:=si h
  exact(gw2 [.bool false] (Ua tB))
 try dsimp only at h
 obtain rfl:=si h
 exact hret
def zC (l:List Int):Nat->Int->Option (Unit⊕Int)
 |0,_=>none
 |K+1,a=>
  if a<(l.length:Int)then
  (idx l a).bind fun b=>
  if(!decide (b=0))=true then
  some (.inr b)
  else
  zC l K (w64 (a+1))
  else
  some (.inl ())
def vE (N:Nat) (l:List Int):Option Int:=
 (zC l N 0).bind (fun
 |(.inl ())=>
 some 0
 |(.inr a)=>
 some a)
theorem qbN (N:Nat) (l:List Int) {res:Int} (h:vE N l=some res):qb ZT (.fn 51) [vl encI l] [] (.i res) []:=by
 unfold vE at h
 refine Ub Tryz.func51 rfl rfl (m:=15) rfl (rs:=[.tmp 2]) rfl (l:=(kAf l [])) rfl ?_
 refine sh fol (kAf l []) ?_
 refine sq ?_
 refine sh fol (kBH l [(6,.i (l.length:Int)),(7,.i 0)]) ?_
 refine Goes.block ?_
 obtain⟨d,g2,h⟩:=bnd h
 refine Goes.imp (Q:=fun x s'=>(x= .exit 0/\(.inl ())=d/\Sub s' (ofG 15 [],[]))\/(x= .ret/\ ∃e,(.inr e)=d/\jy ZT [.tmp 2] (.i e) .ret s')) ?_ ?_
 ·refine Uc (fun M s=> ∃(a:Int),s=(ofG 15 (kBH l (kAr (l.length:Int) a [])),[])/\zC l M a=some d) ?_ (m:=N) ⟨_,rfl,g2⟩
  rintro M s ⟨a,rfl,g2⟩
  cases M with
  |zero=>simp only[zC]at g2;cases g2
  |succ M=>
   rw[zC]at g2
   refine sh fol (kBH l (kAr (l.length:Int) a (kAw (decide (a<(l.length:Int)))))) ?_
   refine sq ?_
   refine ihD g2 (fun f g2=>?_) (fun f g2=>?_)
   ·refine Goes.skip ?_
    refine sq (Goes.block ?_)
    obtain⟨c,b,g2⟩:=bnd g2
    refine sq (gr fol [0,1] ((4,.i c)::(kBH l (kAr (l.length:Int) a []))) (ac (iv sl142 encI b) (ac (lv 0 ce27 encI b rfl) az)) ?_)
    refine sh fol ((4,.i c)::(kBH l (kAr (l.length:Int) a (kBE (!decide (c=0)))))) ?_
    refine ihB g2 (fun g g2=>?_) (fun g g2=>?_)
    ·refine sh fol (kBF c) ?_
     refine Goes.ret ?_
     obtain rfl:=si g2
     exact Or.inr (⟨rfl,_,rfl,(gw2 [.i c] (Ua tI))⟩)
    refine Goes.skip ?_
    refine gh fol (kBH l (kAr (l.length:Int) (w64 (a+1)) [])) ?_
    exact⟨M,(ofG 15 (kBH l (kAr (l.length:Int) (w64 (a+1)) [])),[]),Nat.lt_succ_self _,(Sub.refl _),_,rfl,g2⟩
   refine Goes.exit ?_
   obtain rfl:=si g2
   exact Or.inl (⟨rfl,rfl,(Sub.keep [] rfl rfl)⟩)
 rintro x s' (⟨rfl,rfl,hsub⟩|⟨rfl,j,rfl,hret⟩)
 ·try dsimp only at h
  refine Goes.sub hsub ?_
  refine sh fol [(2,.i 0)] ?_
  refine Goes.ret ?_
  obtain rfl:=si h
  exact(gw2 [.i 0] (Ua tI))
 try dsimp only at h
 obtain rfl:=si h
 exact hret
def qad (n:Int):Option qj:=
 some (⟨n,[]⟩:qj)
theorem vP (n:Int) {res:qj} (h:qad n=some res):qb ZT (.fn 64) [.i n] [] (.agg (nz1 res)) []:=by
 unfold qad at h
 refine Ub Tryz.func64 rfl rfl (m:=5) rfl (rs:=[.cell 2 85]) rfl (l:=[(0,.i n)]) rfl ?_
 refine sg fol ((0,.i n)::(kO [])) [bZ] ?_
 refine sg fol (kO []) (kA7 n) ?_
 refine Goes.ret ?_
 obtain rfl:=si h
 exact(gw2 [.agg [.i n,.nilslice]] (FzW.agg (qc.cons (Ua tI) (qc.cons (FzW.nv0 (E:=(qa .u64))) qc.nil))))
def qcj (n:Int):Option Int:=
 if n<0 then
 some (IntKind.wrap .u64 (w64 (0-n)))
 else
 some (IntKind.wrap .u64 n)
theorem qes (n:Int) {res:Int} (h:qcj n=some res):qb ZT (.fn 177) [.i n] [] (.int .u64 res) []:=by
 unfold qcj at h
 refine Ub Tryz.func177 rfl rfl (m:=10) rfl (rs:=[.tmp 2]) rfl (l:=[(0,.i n)]) rfl ?_
 refine sh fol [(0,.i n)] ?_
 refine sq ?_
 refine sh fol ((0,.i n)::(kA1 (decide (n<0)))) ?_
 refine ihD h (fun a h=>?_) (fun a h=>?_)
 ·refine sh fol [(2,.int .u64 (IntKind.wrap .u64 (w64 (0-n))))] ?_
  refine Goes.ret ?_
  obtain rfl:=si h
  exact(gw2 [.int .u64 (IntKind.wrap .u64 (w64 (0-n)))] (Ua tI))
 refine Goes.skip ?_
 refine sh fol [(2,.int .u64 (IntKind.wrap .u64 n))] ?_
 refine Goes.ret ?_
 obtain rfl:=si h
 exact(gw2 [.int .u64 (IntKind.wrap .u64 n)] (Ua tI))
def qD (a:qj):Option (Bool×(List Int)):=
 if(!a.w.isEmpty)=true then
 some (decide (a.s<0),a.w)
 else
 if a.s=0 then
 some (false,[])
 else
 (qcj a.s).bind fun b=>
 some (decide (a.s<0),[b])
theorem zD (a:qj) {res:Bool×(List Int)} (h:qD a=some res):qb ZT (.fn 131) [.agg (nz1 a)] [] (.tuple [.bool res.1,vl (qa .u64) res.2]) []:=by
 unfold qD at h
 refine Ub Tryz.func131 rfl rfl (m:=24) rfl (rs:=[.tmp 2,.tmp 3]) rfl (l:=[(0,.agg (nz1 a))]) rfl ?_
 refine sg fol (kAp []) [.cells (nz1 a)] ?_
 refine sq (Goes.block ?_)
 refine sq (gr fol [2] (kAp (kA1 (!a.w.isEmpty))) (ac (hs (.done (.opt (qR ZT .neq 83 (.tmp 6) (.const (.slice none 0 0)) (nvl (qa .u64) a.w) .nilslice)) (.bool (!a.w.isEmpty))) (ne_nv qaF)) az) ?_)
 refine ihB h (fun c h=>?_) (fun c h=>?_)
 ·refine sh fol [(2,.bool (decide (a.s<0))),(3,nvl (qa .u64) a.w)] ?_
  refine Goes.ret ?_
  obtain rfl:=si h
  exact(gw2 [.bool (decide (a.s<0)),nvl (qa .u64) a.w] (FzW.tuple (qc.cons (Ua tB) (qc.cons (FzW.nvL (E:=(qa .u64)) (nl rfl)) qc.nil))))
 refine sh fol (kAp (kBO (decide (a.s=0)))) ?_
 refine ihD h (fun d h=>?_) (fun d h=>?_)
 ·refine sh fol [(2,.bool false),(3,.nilslice)] ?_
  refine Goes.ret ?_
  obtain rfl:=si h
  exact(gw2 [.bool false,.nilslice] (FzW.tuple (qc.cons (Ua tB) (qc.cons (FzW.nilv (E:=(qa .u64))) qc.nil))))
 refine Goes.skip ?_
 obtain⟨e,b,h⟩:=bnd h
 refine sq (gq fol [5] [(2,.bool (decide (a.s<0))),(3,.slice 1 0 1 1 1)] [.cells (nz1 a),.cells [.int .u64 e]] (ac (cv (qes a.s b)) az) ?_)
 refine Goes.ret ?_
 obtain rfl:=si h
 exact(gw2 [.bool (decide (a.s<0)),.slice 1 0 1 1 1] (FzW.tuple (qc.cons (Ua tB) (qc.cons (FzW.fz (Fz.lit rfl rfl (Ue (AllST.cons tI AllST.nil)))) qc.nil))))
def jU (neg:Bool) (w:List Int):Option qj:=
 if(w.length:Int)=0 then
 some (⟨0,[]⟩:qj)
 else
 (if(w.length:Int)=1 then
 (idx w 0).bind fun d=>
 if d<=9223372036854775807 then
 some neg
 else
 some false
 else
 some false:Option Bool).bind fun e=>
 if e=true then
 (idx w 0).bind fun f=>
 some (⟨w64 (0-(w64 f)),[]⟩:qj)
 else
 (if(w.length:Int)=1 then
 (idx w 0).bind fun a=>
 some (decide (a<=9223372036854775807))
 else
 some false:Option Bool).bind fun b=>
 if b=true then
 (idx w 0).bind fun c=>
 some (⟨w64 c,[]⟩:qj)
 else
 if neg=true then
 some (⟨(-1),w⟩:qj)
 else
 some (⟨1,w⟩:qj)
theorem qaa (neg:Bool) (w:List Int) {res:qj} (h:jU neg w=some res):qb ZT (.fn 132) [.bool neg,vl (qa .u64) w] [] (.agg (nz1 res)) []:=by
 unfold jU at h
 refine Ub Tryz.func132 rfl rfl (m:=50) rfl (rs:=[.cell 4 85]) rfl (l:=[(0,.bool neg),(1,vl (qa .u64) w)]) rfl ?_
 refine sg fol ((0,.bool neg)::(1,vl (qa .u64) w)::(kX [])) [bZ] ?_
 refine sq (Goes.block ?_)
 refine sh fol ((0,.bool neg)::(1,vl (qa .u64) w)::(kX [(5,.bool (decide ((w.length:Int)=0)))])) ?_
 refine ihD h (fun t h=>?_) (fun t h=>?_)
 ·refine sh fol (kX []) ?_
  refine Goes.ret ?_
  obtain rfl:=si h
  exact(gw2 [.agg [.i 0,.nilslice]] (FzW.agg (qc.cons (Ua tI) (qc.cons (FzW.nv0 (E:=(qa .u64))) qc.nil))))
 refine sq ?_
 obtain⟨u,a,h⟩:=bnd h
 refine Goes.cut (s':=(ofG 50 ((0,.bool neg)::(1,vl (qa .u64) w)::(kX (kBP u))),[bZ])) ?_ ?_
 ·rcases wyD a with⟨j,a⟩|⟨j,a⟩
  ·obtain⟨x,c,a⟩:=bnd a
   rcases wyD a with⟨k,a⟩|⟨k,a⟩
   ·obtain rfl:=si a
    exact tr fol [3,5,6,9] ((0,.bool neg)::(1,vl (qa .u64) w)::(kX (kBP neg))) (ac (gw j) (ac (iv zH (qa .u64) c) (ac (lv 0 zP (qa .u64) c rfl) (ac (gw k) az))))
   obtain rfl:=si a
   exact tr fol [3,5,6,9] ((0,.bool neg)::(1,vl (qa .u64) w)::(kX [(10,.bool false)])) (ac (gw j) (ac (iv zH (qa .u64) c) (ac (lv 0 zP (qa .u64) c rfl) (ac (gw k) az))))
  obtain rfl:=si a
  exact tr fol [3] ((0,.bool neg)::(1,vl (qa .u64) w)::(kX [(10,.bool false)])) (ac (gw j) az)
 refine ihB h (fun v h=>?_) (fun v h=>?_)
 ·obtain⟨s,f,h⟩:=bnd h
  refine sq (gq fol [1,2] (kX []) (kA7 (w64 (0-(w64 s)))) (ac (iv zH (qa .u64) f) (ac (lv 0 zP (qa .u64) f rfl) az)) ?_)
  refine Goes.ret ?_
  obtain rfl:=si h
  exact(gw2 [.agg [.i (w64 (0-(w64 s))),.nilslice]] (FzW.agg (qc.cons (Ua tI) (qc.cons (FzW.nv0 (E:=(qa .u64))) qc.nil))))
 refine sq ?_
 obtain⟨n,b,h⟩:=bnd h
 refine Goes.cut (s':=(ofG 50 ((0,.bool neg)::(1,vl (qa .u64) w)::(kX [(29,.bool n)])),[bZ])) ?_ ?_
 ·rcases wyD b with⟨o,b⟩|⟨o,b⟩
  ·obtain⟨p,d,b⟩:=bnd b
   obtain rfl:=si b
   exact tr fol [3,5,6] ((0,.bool neg)::(1,vl (qa .u64) w)::(kX [(29,.bool (decide (p<=9223372036854775807)))])) (ac (gw o) (ac (iv zH (qa .u64) d) (ac (lv 0 zP (qa .u64) d rfl) az)))
  obtain rfl:=si b
  exact tr fol [3] ((0,.bool neg)::(1,vl (qa .u64) w)::(kX [(29,.bool false)])) (ac (gw o) az)
 refine ihB h (fun q h=>?_) (fun q h=>?_)
 ·obtain⟨g,e,h⟩:=bnd h
  refine sq (gq fol [1,2] (kX []) (kA7 (w64 g)) (ac (iv zH (qa .u64) e) (ac (lv 0 zP (qa .u64) e rfl) az)) ?_)
  refine Goes.ret ?_
  obtain rfl:=si h
  exact(gw2 [.agg [.i (w64 g),.nilslice]] (FzW.agg (qc.cons (Ua tI) (qc.cons (FzW.nv0 (E:=(qa .u64))) qc.nil))))
 refine sh fol ((1,vl (qa .u64) w)::(kX [(44,.bool neg)])) ?_
 refine ihB h (fun r h=>?_) (fun r h=>?_)
 ·refine sg fol (kX []) [.cells [.i (-1),vl (qa .u64) w]] ?_
  refine Goes.ret ?_
  obtain rfl:=si h
  exact(gw2 [.agg [.i (-1),vl (qa .u64) w]] (FzW.agg (qc.cons (Ua tI) (qc.cons (FzW.Lnv (E:=(qa .u64)) (by first|omega|(simp only[decide_eq_false_iff_not,decide_eq_true_eq]at*;omega)) (nl rfl)) qc.nil))))
 refine Goes.skip ?_
 refine sg fol (kX []) [.cells [.i 1,vl (qa .u64) w]] ?_
 refine Goes.ret ?_
 obtain rfl:=si h
 exact(gw2 [.agg [.i 1,vl (qa .u64) w]] (FzW.agg (qc.cons (Ua tI) (qc.cons (FzW.Lnv (E:=(qa .u64)) (by first|omega|(simp only[decide_eq_false_iff_not,decide_eq_true_eq]at*;omega)) (nl rfl)) qc.nil))))
def qah (w:List Int):Nat->Int->Option Int
 |0,_=>none
 |K+1,a=>
  (if a>0 then
  (idx w (w64 (a-1))).bind fun b=>
  some (decide (b=0))
  else
  some false:Option Bool).bind fun c=>
  if c=true then
  qah w K (w64 (a-1))
  else
  some a
def yP (N:Nat) (w:List Int):Option (List Int):=
 (qah w N (w.length:Int)).bind fun a=>
 (cut w 0 a).bind fun b=>
 some b
theorem xq (N:Nat) (w:List Int) {res:List Int} (h:yP N w=some res):qb ZT (.fn 188) [vl (qa .u64) w] [] (vl (qa .u64) res) []:=by
 unfold yP at h
 refine Ub Tryz.func188 rfl rfl (m:=21) rfl (rs:=[.tmp 2]) rfl (l:=[(0,vl (qa .u64) w)]) rfl ?_
 refine sh fol [(0,vl (qa .u64) w)] ?_
 refine sh fol ((0,vl (qa .u64) w)::(kBU (w.length:Int))) ?_
 refine sq (Goes.block ?_)
 obtain⟨j,g3,h⟩:=bnd h
 refine Goes.imp (Q:=fun x s'=>(x= .exit 0/\ ∃d,d=j/\Sub s' (ofG 21 ((0,vl (qa .u64) w)::(kBU d)),[]))) ?_ ?_
 ·refine Uc (fun M s=> ∃(b:Int),s=(ofG 21 ((0,vl (qa .u64) w)::(kBU b)),[])/\qah w M b=some j) ?_ (m:=N) ⟨_,rfl,g3⟩
  rintro M s ⟨b,rfl,g3⟩
  cases M with
  |zero=>simp only[qah]at g3;cases g3
  |succ M=>
   rw[qah]at g3
   refine sq ?_
   refine sq ?_
   obtain⟨k,a,g3⟩:=bnd g3
   refine Goes.cut (s':=(ofG 21 ((0,vl (qa .u64) w)::(3,.i b)::(kBN k)),[])) ?_ ?_
   ·rcases wyD a with⟨f,a⟩|⟨f,a⟩
    ·obtain⟨n,c,a⟩:=bnd a
     obtain rfl:=si a
     exact tr fol [2,6,7] ((0,vl (qa .u64) w)::(3,.i b)::(kBN (decide (n=0)))) (ac (gw f) (ac (iv zH (qa .u64) c) (ac (lv 0 zP (qa .u64) c rfl) az)))
    obtain rfl:=si a
    exact tr fol [2] [(0,vl (qa .u64) w),(3,.i b),(15,.bool false)] (ac (gw f) az)
   refine ihB g3 (fun o g3=>?_) (fun o g3=>?_)
   ·refine Goes.skip ?_
    refine Goes.block ?_
    refine gh fol ((0,vl (qa .u64) w)::(kBU (w64 (b-1)))) ?_
    exact⟨M,(ofG 21 ((0,vl (qa .u64) w)::(kBU (w64 (b-1)))),[]),Nat.lt_succ_self _,(Sub.refl _),_,rfl,g3⟩
   refine Goes.exit ?_
   obtain rfl:=si g3
   exact⟨rfl,_,rfl,(Sub.keep [0,3] rfl rfl)⟩
 rintro x s' ⟨rfl,d,rfl,hsub⟩
 refine Goes.sub hsub ?_
 obtain⟨g,e,h⟩:=bnd h
 refine sq (gr fol [2] [(2,vl (qa .u64) g)] (ac (hs (.done (.opt (qL ZT 83 (vl (qa .u64) w) none (some (.i d)) none)) (vl (qa .u64) g)) (qlP zH (E:=(qa .u64)) rfl none (some d) e)) az) ?_)
 refine Goes.ret ?_
 obtain rfl:=si h
 exact(gw2 [vl (qa .u64) g] (Ua (qw (qa .u64) _ (nl rfl))))
def zU (c:List Int) (d:List Int):Nat->(List Int)->Int->Int->Option ((List Int)×Int)
 |0,_,_,_=>none
 |K+1,e,a,j=>
  if a<(c.length:Int)then
  ((if a<(d.length:Int)then
  (idx d a).bind fun f=>
  some f
  else
  some 0:Option Int)).bind fun g=>
  (idx c a).bind fun h=>
  (xV h g j).bind fun b=>
  (idx e a).bind fun k=>
  (put e a b.1).bind fun i=>
  zU c d K i (w64 (a+1)) b.2
  else
  some (e,j)
def qav (N:Nat) (b:List Int) (y:List Int):Option (List Int):=
 ((if(b.length:Int)<(y.length:Int)then
 some (y,b)
 else
 some (b,y):Option ((List Int)×(List Int)))).bind fun(a,g)=>
 (mk 8 (w64 ((a.length:Int)+1)) 0).bind fun h=>
 (zU a g N h 0 0).bind fun(f,c)=>
 (idx f (a.length:Int)).bind fun i=>
 (put f (a.length:Int) c).bind fun d=>
 (yP N d).bind fun e=>
 some e
theorem qgy (N:Nat) (B:List Int) (y:List Int) {res:List Int} (h:qav N B y=some res):qb ZT (.fn 133) [vl (qa .u64) B,vl (qa .u64) y] [] (vl (qa .u64) res) []:=by
 unfold qav at h
 refine Ub Tryz.func133 rfl rfl (m:=54) rfl (rs:=[.tmp 4]) rfl (l:=[(0,vl (qa .u64) B),(1,vl (qa .u64) y)]) rfl ?_
 refine sh fol [(0,vl (qa .u64) B),(1,vl (qa .u64) y)] ?_
 refine sq ?_
 refine sh fol ((0,vl (qa .u64) B)::(1,vl (qa .u64) y)::(kBO (decide ((B.length:Int)<(y.length:Int))))) ?_
 obtain⟨P,g3,h⟩:=bnd h
 refine Goes.imp (Q:=fun x s'=>(x= .normal/\ ∃a e,(a,e)=P/\Sub s' (ofG 54 [(0,vl (qa .u64) a),(1,vl (qa .u64) e)],[]))) ?_ ?_
 ·refine ihD g3 (fun U g3=>?_) (fun U g3=>?_)
  ·refine gh fol [(0,vl (qa .u64) y),(1,vl (qa .u64) B)] ?_
   obtain rfl:=si g3
   exact⟨rfl,_,_,rfl,(Sub.refl _)⟩
  refine Goes.skip ?_
  obtain rfl:=si g3
  exact⟨rfl,_,_,rfl,(Sub.keep [0,1] rfl rfl)⟩
 rintro x s' ⟨rfl,a,e,rfl,hsub⟩
 try dsimp only at h
 refine Goes.sub hsub ?_
 obtain⟨C,G,h⟩:=bnd h
 refine sq (gq fol [3] ((0,vl (qa .u64) a)::(1,vl (qa .u64) e)::(kD C [])) [.cells (C.flatMap (qa .u64).c)] (ac (hs (.run [] (jc ZT 83 (.i (w64 ((a.length:Int)+1))) (.i (w64 ((a.length:Int)+1)))) [] (.slice 0 0 C.length C.length 1) [.cells (C.flatMap (qa .u64).c)] false) (qdI zH (E:=(qa .u64)) (z:=0) rfl (by kernel_rfl) G rfl)) az) ?_)
 refine sh fol ((0,vl (qa .u64) a)::(1,vl (qa .u64) e)::(kD C [(6,.int .u64 0)])) ?_
 refine sq ?_
 refine sh fol ((0,vl (qa .u64) a)::(1,vl (qa .u64) e)::(kD C [(6,.int .u64 0),(21,.i (a.length:Int)),(22,.i 0)])) ?_
 refine Goes.block ?_
 obtain⟨H,g11,h⟩:=bnd h
 refine Goes.imp (Q:=fun x s'=>(x= .exit 0/\ ∃v k,(v,k)=H/\Sub s' (ofG 54 ((0,vl (qa .u64) a)::(kD v (kAT k []))),[.cells (v.flatMap (qa .u64).c)]))) ?_ ?_
 ·refine Uc (fun M s=> ∃(f:List Int) (d:Int) (w:Int),s=(ofG 54 ((0,vl (qa .u64) a)::(1,vl (qa .u64) e)::(kD f (kAT w (kAH (a.length:Int) d [])))),[.cells (f.flatMap (qa .u64).c)])/\zU a e M f d w=some H) ?_ (m:=N) ⟨_,_,_,rfl,g11⟩
  rintro M s ⟨f,d,w,rfl,g11⟩
  cases M with
  |zero=>simp only[zU]at g11;cases g11
  |succ M=>
   rw[zU]at g11
   refine sh fol ((0,vl (qa .u64) a)::(1,vl (qa .u64) e)::(kD f (kAT w (kAH (a.length:Int) d [(23,.bool (decide (d<(a.length:Int))))])))) ?_
   refine sq ?_
   refine ihD g11 (fun I g11=>?_) (fun I g11=>?_)
   ·refine Goes.skip ?_
    refine sq (Goes.block ?_)
    refine sh fol ((0,vl (qa .u64) a)::(1,vl (qa .u64) e)::(kD f (kAT w ((7,.i d)::(kAH (a.length:Int) d []))))) ?_
    refine sh fol ((0,vl (qa .u64) a)::(1,vl (qa .u64) e)::(kD f (kAT w ((7,.i d)::(kBc (kAH (a.length:Int) d [])))))) ?_
    refine sq ?_
    refine sh fol ((0,vl (qa .u64) a)::(1,vl (qa .u64) e)::(kD f (kAT w ((7,.i d)::(kBc (kAH (a.length:Int) d [(28,.bool (decide (d<(e.length:Int))))])))))) ?_
    obtain⟨J,g14,g11⟩:=bnd g11
    refine Goes.imp (Q:=fun x s'=>(x= .normal/\ ∃A,A=J/\Sub s' (ofG 54 ((0,vl (qa .u64) a)::(1,vl (qa .u64) e)::(kD f (kAT w ((7,.i d)::(8,.int .u64 A)::(kAH (a.length:Int) d []))))),[.cells (f.flatMap (qa .u64).c)]))) ?_ ?_
    ·refine ihD g14 (fun K g14=>?_) (fun K g14=>?_)
     ·obtain⟨L,n,g14⟩:=bnd g14
      refine gr fol [2,3] ((0,vl (qa .u64) a)::(1,vl (qa .u64) e)::(kD f (kAT w ((7,.i d)::(8,.int .u64 L)::(kAH (a.length:Int) d []))))) (ac (iv zH (qa .u64) n) (ac (lv 0 zP (qa .u64) n rfl) az)) ?_
      obtain rfl:=si g14
      exact⟨rfl,_,rfl,(Sub.refl _)⟩
     refine Goes.skip ?_
     obtain rfl:=si g14
     exact⟨rfl,_,rfl,(Sub.keep [0,1,5,6,7,8,21,22] rfl rfl)⟩
    rintro x s' ⟨rfl,A,rfl,hsub⟩
    refine Goes.sub hsub ?_
    obtain⟨O,o,g11⟩:=bnd g11
    obtain⟨j,D,g11⟩:=bnd g11
    obtain⟨V,p,g11⟩:=bnd g11
    obtain⟨g,q,g11⟩:=bnd g11
    refine gq fol [4,5,8,12,13] ((0,vl (qa .u64) a)::(1,vl (qa .u64) e)::(kD f (kAT j.2 (kAH (a.length:Int) d [])))) [.cells (g.flatMap (qa .u64).c)] (ac (iv zH (qa .u64) o) (ac (lv 0 zP (qa .u64) o rfl) (ac (cv (qcw O A w D)) (ac (hs (.done (.opt (qh ZT 83 (.slice 0 0 f.length f.length 1) (.i d))) (.ptr 0 ((d:Int).toNat*1+0))) (qaE zH p)) (ac (hs (.run [0] (qm ZT 197 (.ptr 0 ((d:Int).toNat*1+0)) (.int .u64 j.1)) [.cells (f.flatMap (qa .u64).c)] .undef [.cells (g.flatMap (qa .u64).c)] true) (qan (E:=(qa .u64)) (l:=f) (y:=j.1) rfl (show _=some 1 by kernel_rfl) rfl p rfl rfl rfl rfl rfl q rfl)) az))))) ?_
    refine Goes.sub (show Sub (ofG 54 ((0,vl (qa .u64) a)::(1,vl (qa .u64) e)::(kD f (kAT j.2 (kAH (a.length:Int) d [])))),[.cells (g.flatMap (qa .u64).c)]) (ofG 54 ((0,vl (qa .u64) a)::(1,vl (qa .u64) e)::(kD g (kAT j.2 (kAH (a.length:Int) d [])))),[.cells (g.flatMap (qa .u64).c)])from(Sub.norm [] [some 0] rfl rfl (.keep (.same (qf (qa .u64) _)) (.keep (.same (qf (qa .u64) _)) (.keep (.sliceE rfl (vD q)) (.keep (.same nI) (.keep (.same nI) (.keep (.same nI) .nil)))))) (.ks .nil))) ?_
    refine gh fol ((0,vl (qa .u64) a)::(1,vl (qa .u64) e)::(kD g (kAT j.2 (kAH (a.length:Int) (w64 (d+1)) [])))) ?_
    exact⟨M,(ofG 54 ((0,vl (qa .u64) a)::(1,vl (qa .u64) e)::(kD g (kAT j.2 (kAH (a.length:Int) (w64 (d+1)) [])))),[.cells (g.flatMap (qa .u64).c)]),Nat.lt_succ_self _,(Sub.refl _),_,_,_,rfl,g11⟩
   refine Goes.exit ?_
   obtain rfl:=si g11
   exact⟨rfl,_,_,rfl,(Sub.keep [0,5,6] rfl rfl)⟩
 rintro x s' ⟨rfl,v,k,rfl,hsub⟩
 try dsimp only at h
 refine Goes.sub hsub ?_
 obtain⟨X,r,h⟩:=bnd h
 obtain⟨b,t,h⟩:=bnd h
 refine sq (gq fol [4,5] (kD v []) [.cells (b.flatMap (qa .u64).c)] (ac (hs (.done (.opt (qh ZT 83 (.slice 0 0 v.length v.length 1) (.i (a.length:Int)))) (.ptr 0 (((a.length:Int):Int).toNat*1+0))) (qaE zH r)) (ac (hs (.run [0] (qm ZT 197 (.ptr 0 (((a.length:Int):Int).toNat*1+0)) (.int .u64 k)) [.cells (v.flatMap (qa .u64).c)] .undef [.cells (b.flatMap (qa .u64).c)] true) (qan (E:=(qa .u64)) (l:=v) (y:=k) rfl (show _=some 1 by kernel_rfl) rfl r rfl rfl rfl rfl rfl t rfl)) az)) ?_)
 refine Goes.sub (show Sub (ofG 54 (kD v []),[.cells (b.flatMap (qa .u64).c)]) (ofG 54 (kD b []),[.cells (b.flatMap (qa .u64).c)])from(Sub.norm [] [some 0] rfl rfl (.keep (.sliceE rfl (vD t)) .nil) (.ks .nil))) ?_
 obtain⟨u,F,h⟩:=bnd h
 refine sq (gq fol [1] [(4,vl (qa .u64) u)] [.frozen (b.flatMap (qa .u64).c)] (ac (hs (.callF 188 [.slice 0 0 b.length b.length 1] [.cells (b.flatMap (qa .u64).c)] [0] [vl (qa .u64) b] (vl (qa .u64) u)) (qaH (FzL.cons (Fz.sl (E:=(qa .u64)) rfl rfl (nl rfl)) FzL.nil) (xq N b F) (qw (qa .u64) _ (nl rfl)))) az) ?_)
 refine Goes.sub (show Sub (ofG 54 [(4,vl (qa .u64) u)],[.frozen (b.flatMap (qa .u64).c)]) (ofG 54 [(4,vl (qa .u64) u)],[])from(Sub.norm [] [] rfl rfl (.keep (.same (qf (qa .u64) _)) .nil) .nil)) ?_
 refine Goes.ret ?_
 obtain rfl:=si h
 exact(gw2 [vl (qa .u64) u] (Ua (qw (qa .u64) _ (nl rfl))))
def zh (a:List Int) (b:List Int):Nat->Int->Option (Unit⊕Int)
 |0,_=>none
 |K+1,c=>
  if c>=0 then
  (idx a c).bind fun d=>
  (idx b c).bind fun e=>
  if(!decide (d=e))=true then
  if d<e then
  some (.inr (-1))
  else
  some (.inr 1)
  else
  zh a b K (w64 (c-1))
  else
  some (.inl ())
def jA (N:Nat) (a:List Int) (b:List Int):Option Int:=
 if(!decide ((a.length:Int)=(b.length:Int)))=true then
 if(a.length:Int)<(b.length:Int)then
 some (-1)
 else
 some 1
 else
 (zh a b N (w64 ((a.length:Int)-1))).bind (fun
 |(.inl ())=>
 some 0
 |(.inr c)=>
 some c)
theorem qbS (N:Nat) (a:List Int) (b:List Int) {res:Int} (h:jA N a b=some res):qb ZT (.fn 134) [vl (qa .u64) a,vl (qa .u64) b] [] (.i res) []:=by
 unfold jA at h
 refine Ub Tryz.func134 rfl rfl (m:=41) rfl (rs:=[.tmp 4]) rfl (l:=[(0,vl (qa .u64) a),(1,vl (qa .u64) b)]) rfl ?_
 refine sh fol [(0,vl (qa .u64) a),(1,vl (qa .u64) b)] ?_
 refine sq ?_
 refine sh fol ((0,vl (qa .u64) a)::(1,vl (qa .u64) b)::(kBP (!decide ((a.length:Int)=(b.length:Int))))) ?_
 refine ihB h (fun o h=>?_) (fun o h=>?_)
 ·refine sq ?_
  refine sh fol (kBN (decide ((a.length:Int)<(b.length:Int)))) ?_
  refine ihD h (fun p h=>?_) (fun p h=>?_)
  ·refine sh fol [(4,.i (-1))] ?_
   refine Goes.ret ?_
   obtain rfl:=si h
   exact(gw2 [.i (-1)] (Ua tI))
  refine Goes.skip ?_
  refine sh fol [(4,.i 1)] ?_
  refine Goes.ret ?_
  obtain rfl:=si h
  exact(gw2 [.i 1] (Ua tI))
 refine Goes.skip ?_
 refine sq ?_
 refine sh fol ((0,vl (qa .u64) a)::(1,vl (qa .u64) b)::(kBG (w64 ((a.length:Int)-1)))) ?_
 refine Goes.block ?_
 obtain⟨f,g4,h⟩:=bnd h
 refine Goes.imp (Q:=fun x s'=>(x= .exit 0/\(.inl ())=f/\Sub s' (ofG 41 [],[]))\/(x= .ret/\ ∃j,(.inr j)=f/\jy ZT [.tmp 4] (.i j) .ret s')) ?_ ?_
 ·refine Uc (fun M s=> ∃(e:Int),s=(ofG 41 ((0,vl (qa .u64) a)::(1,vl (qa .u64) b)::(kBG e)),[])/\zh a b M e=some f) ?_ (m:=N) ⟨_,rfl,g4⟩
  rintro M s ⟨e,rfl,g4⟩
  cases M with
  |zero=>simp only[zh]at g4;cases g4
  |succ M=>
   rw[zh]at g4
   refine sq ?_
   refine sh fol [(0,vl (qa .u64) a),(1,vl (qa .u64) b),(5,.i e),(20,.bool (decide (e>=0)))] ?_
   refine ihD g4 (fun q g4=>?_) (fun q g4=>?_)
   ·refine Goes.skip ?_
    refine sq (Goes.block ?_)
    obtain⟨k,c,g4⟩:=bnd g4
    obtain⟨n,d,g4⟩:=bnd g4
    refine sq (gr fol [2,3,6,7] [(0,vl (qa .u64) a),(1,vl (qa .u64) b),(5,.i e),(31,.bool (!decide (k=n)))] (ac (iv zH (qa .u64) c) (ac (lv 0 zP (qa .u64) c rfl) (ac (iv zH (qa .u64) d) (ac (lv 0 zP (qa .u64) d rfl) az)))) ?_)
    refine ihB g4 (fun r g4=>?_) (fun r g4=>?_)
    ·refine sq ?_
     refine sq (gr fol [2,3,6,7] [(40,.bool (decide (k<n)))] (ac (iv zH (qa .u64) c) (ac (lv 0 zP (qa .u64) c rfl) (ac (iv zH (qa .u64) d) (ac (lv 0 zP (qa .u64) d rfl) az)))) ?_)
     refine ihD g4 (fun g g4=>?_) (fun g g4=>?_)
     ·refine sh fol [(4,.i (-1))] ?_
      refine Goes.ret ?_
      obtain rfl:=si g4
      exact Or.inr (⟨rfl,_,rfl,(gw2 [.i (-1)] (Ua tI))⟩)
     refine Goes.skip ?_
     refine sh fol [(4,.i 1)] ?_
     refine Goes.ret ?_
     obtain rfl:=si g4
     exact Or.inr (⟨rfl,_,rfl,(gw2 [.i 1] (Ua tI))⟩)
    refine Goes.skip ?_
    refine gh fol ((0,vl (qa .u64) a)::(1,vl (qa .u64) b)::(kBG (w64 (e-1)))) ?_
    exact⟨M,(ofG 41 ((0,vl (qa .u64) a)::(1,vl (qa .u64) b)::(kBG (w64 (e-1)))),[]),Nat.lt_succ_self _,(Sub.refl _),_,rfl,g4⟩
   refine Goes.exit ?_
   obtain rfl:=si g4
   exact Or.inl (⟨rfl,rfl,(Sub.keep [] rfl rfl)⟩)
 rintro x s' (⟨rfl,rfl,hsub⟩|⟨rfl,t,rfl,hret⟩)
 ·try dsimp only at h
  refine Goes.sub hsub ?_
  refine sh fol [(4,.i 0)] ?_
  refine Goes.ret ?_
  obtain rfl:=si h
  exact(gw2 [.i 0] (Ua tI))
 try dsimp only at h
 obtain rfl:=si h
 exact hret
def jm (c:List Int) (y:List Int):Nat->(List Int)->Int->Int->Option (List Int)
 |0,_,_,_=>none
 |K+1,d,a,h=>
  if a<(c.length:Int)then
  ((if a<(y.length:Int)then
  (idx y a).bind fun e=>
  some e
  else
  some 0:Option Int)).bind fun i=>
  (idx c a).bind fun f=>
  (qeA f i h).bind fun b=>
  (idx d a).bind fun j=>
  (put d a b.1).bind fun g=>
  jm c y K g (w64 (a+1)) b.2
  else
  some d
def yx (N:Nat) (b:List Int) (y:List Int):Option (List Int):=
 (mk 8 (b.length:Int) 0).bind fun c=>
 (jm b y N c 0 0).bind fun d=>
 (yP N d).bind fun a=>
 some a
theorem qdW (N:Nat) (a:List Int) (y:List Int) {res:List Int} (h:yx N a y=some res):qb ZT (.fn 135) [vl (qa .u64) a,vl (qa .u64) y] [] (vl (qa .u64) res) []:=by
 unfold yx at h
 refine Ub Tryz.func135 rfl rfl (m:=41) rfl (rs:=[.tmp 4]) rfl (l:=[(0,vl (qa .u64) a),(1,vl (qa .u64) y)]) rfl ?_
 refine sh fol [(0,vl (qa .u64) a),(1,vl (qa .u64) y)] ?_
 obtain⟨r,v,h⟩:=bnd h
 refine sq (gq fol [2] ((0,vl (qa .u64) a)::(1,vl (qa .u64) y)::(kD r [])) [.cells (r.flatMap (qa .u64).c)] (ac (hs (.run [] (jc ZT 83 (.i (a.length:Int)) (.i (a.length:Int))) [] (.slice 0 0 r.length r.length 1) [.cells (r.flatMap (qa .u64).c)] false) (qdI zH (E:=(qa .u64)) (z:=0) rfl (by kernel_rfl) v rfl)) az) ?_)
 refine sh fol ((0,vl (qa .u64) a)::(1,vl (qa .u64) y)::(kD r [(6,.int .u64 0)])) ?_
 refine sq ?_
 refine sh fol ((0,vl (qa .u64) a)::(1,vl (qa .u64) y)::(kD r [(6,.int .u64 0),(13,.i (a.length:Int)),(14,.i 0)])) ?_
 refine Goes.block ?_
 obtain⟨D,g6,h⟩:=bnd h
 refine Goes.imp (Q:=fun x s'=>(x= .exit 0/\ ∃g,g=D/\Sub s' (ofG 41 (kD g []),[.cells (g.flatMap (qa .u64).c)]))) ?_ ?_
 ·refine Uc (fun M s=> ∃(d:List Int) (b:Int) (q:Int),s=(ofG 41 ((0,vl (qa .u64) a)::(1,vl (qa .u64) y)::(kD d (kAT q (kAN (a.length:Int) b)))),[.cells (d.flatMap (qa .u64).c)])/\jm a y M d b q=some D) ?_ (m:=N) ⟨_,_,_,rfl,g6⟩
  rintro M s ⟨d,b,q,rfl,g6⟩
  cases M with
  |zero=>simp only[jm]at g6;cases g6
  |succ M=>
   rw[jm]at g6
   refine sh fol ((0,vl (qa .u64) a)::(1,vl (qa .u64) y)::(kD d (kAT q ((13,.i (a.length:Int))::(14,.i b)::(kBN (decide (b<(a.length:Int)))))))) ?_
   refine sq ?_
   refine ihD g6 (fun F g6=>?_) (fun F g6=>?_)
   ·refine Goes.skip ?_
    refine sq (Goes.block ?_)
    refine sh fol ((0,vl (qa .u64) a)::(1,vl (qa .u64) y)::(kD d (kAT q ((7,.i b)::(kAN (a.length:Int) b))))) ?_
    refine sh fol ((0,vl (qa .u64) a)::(1,vl (qa .u64) y)::(kD d (kAT q ((7,.i b)::(kBc (kAN (a.length:Int) b)))))) ?_
    refine sq ?_
    refine sh fol ((0,vl (qa .u64) a)::(1,vl (qa .u64) y)::(kD d (kAT q ((7,.i b)::(kBc [(13,.i (a.length:Int)),(14,.i b),(20,.bool (decide (b<(y.length:Int))))]))))) ?_
    obtain⟨G,g9,g6⟩:=bnd g6
    refine Goes.imp (Q:=fun x s'=>(x= .normal/\ ∃w,w=G/\Sub s' (ofG 41 ((0,vl (qa .u64) a)::(1,vl (qa .u64) y)::(kD d (kAT q ((7,.i b)::(8,.int .u64 w)::(kAN (a.length:Int) b))))),[.cells (d.flatMap (qa .u64).c)]))) ?_ ?_
    ·refine ihD g9 (fun A g9=>?_) (fun A g9=>?_)
     ·obtain⟨B,j,g9⟩:=bnd g9
      refine gr fol [2,3] ((0,vl (qa .u64) a)::(1,vl (qa .u64) y)::(kD d (kAT q ((7,.i b)::(8,.int .u64 B)::(kAN (a.length:Int) b))))) (ac (iv zH (qa .u64) j) (ac (lv 0 zP (qa .u64) j rfl) az)) ?_
      obtain rfl:=si g9
      exact⟨rfl,_,rfl,(Sub.refl _)⟩
     refine Goes.skip ?_
     obtain rfl:=si g9
     exact⟨rfl,_,rfl,(Sub.keep [0,1,5,6,7,8,13,14] rfl rfl)⟩
    rintro x s' ⟨rfl,w,rfl,hsub⟩
    refine Goes.sub hsub ?_
    obtain⟨C,k,g6⟩:=bnd g6
    obtain⟨f,t,g6⟩:=bnd g6
    obtain⟨H,n,g6⟩:=bnd g6
    obtain⟨e,o,g6⟩:=bnd g6
    refine gq fol [4,5,8,12,13] ((0,vl (qa .u64) a)::(1,vl (qa .u64) y)::(kD d (kAT f.2 (kAN (a.length:Int) b)))) [.cells (e.flatMap (qa .u64).c)] (ac (iv zH (qa .u64) k) (ac (lv 0 zP (qa .u64) k rfl) (ac (cv (qhL C w q t)) (ac (hs (.done (.opt (qh ZT 83 (.slice 0 0 d.length d.length 1) (.i b))) (.ptr 0 ((b:Int).toNat*1+0))) (qaE zH n)) (ac (hs (.run [0] (qm ZT 197 (.ptr 0 ((b:Int).toNat*1+0)) (.int .u64 f.1)) [.cells (d.flatMap (qa .u64).c)] .undef [.cells (e.flatMap (qa .u64).c)] true) (qan (E:=(qa .u64)) (l:=d) (y:=f.1) rfl (show _=some 1 by kernel_rfl) rfl n rfl rfl rfl rfl rfl o rfl)) az))))) ?_
    refine Goes.sub (show Sub (ofG 41 ((0,vl (qa .u64) a)::(1,vl (qa .u64) y)::(kD d (kAT f.2 (kAN (a.length:Int) b)))),[.cells (e.flatMap (qa .u64).c)]) (ofG 41 ((0,vl (qa .u64) a)::(1,vl (qa .u64) y)::(kD e (kAT f.2 (kAN (a.length:Int) b)))),[.cells (e.flatMap (qa .u64).c)])from(Sub.norm [] [some 0] rfl rfl (.keep (.same (qf (qa .u64) _)) (.keep (.same (qf (qa .u64) _)) (.keep (.sliceE rfl (vD o)) (.keep (.same nI) (.keep (.same nI) (.keep (.same nI) .nil)))))) (.ks .nil))) ?_
    refine gh fol ((0,vl (qa .u64) a)::(1,vl (qa .u64) y)::(kD e (kAT f.2 (kAN (a.length:Int) (w64 (b+1)))))) ?_
    exact⟨M,(ofG 41 ((0,vl (qa .u64) a)::(1,vl (qa .u64) y)::(kD e (kAT f.2 (kAN (a.length:Int) (w64 (b+1)))))),[.cells (e.flatMap (qa .u64).c)]),Nat.lt_succ_self _,(Sub.refl _),_,_,_,rfl,g6⟩
   refine Goes.exit ?_
   obtain rfl:=si g6
   exact⟨rfl,_,rfl,(Sub.keep [5] rfl rfl)⟩
 rintro x s' ⟨rfl,g,rfl,hsub⟩
 refine Goes.sub hsub ?_
 obtain⟨p,u,h⟩:=bnd h
 refine sq (gq fol [1] [(4,vl (qa .u64) p)] [.frozen (g.flatMap (qa .u64).c)] (ac (hs (.callF 188 [.slice 0 0 g.length g.length 1] [.cells (g.flatMap (qa .u64).c)] [0] [vl (qa .u64) g] (vl (qa .u64) p)) (qaH (FzL.cons (Fz.sl (E:=(qa .u64)) rfl rfl (nl rfl)) FzL.nil) (xq N g u) (qw (qa .u64) _ (nl rfl)))) az) ?_)
 refine Goes.sub (show Sub (ofG 41 [(4,vl (qa .u64) p)],[.frozen (g.flatMap (qa .u64).c)]) (ofG 41 [(4,vl (qa .u64) p)],[])from(Sub.norm [] [] rfl rfl (.keep (.same (qf (qa .u64) _)) .nil) .nil)) ?_
 refine Goes.ret ?_
 obtain rfl:=si h
 exact(gw2 [vl (qa .u64) p] (Ua (qw (qa .u64) _ (nl rfl))))
def jl (N:Nat) (a:qj) (b:qj):Option qj:=
 (if a.w.isEmpty=true then
 some b.w.isEmpty
 else
 some false:Option Bool).bind fun m=>
 ((if m=true then
 if((decide ((w64 (a.s+b.s))>a.s))==(decide (b.s>0)))=true then
 some (.inr (⟨w64 (a.s+b.s),[]⟩:qj))
 else
 some (.inl ())
 else
 some (.inl ()):Option (Unit⊕qj))).bind (fun
 |(.inl ())=>
 (qD a).bind fun c=>
 (qD b).bind fun d=>
 if(c.1==d.1)=true then
 (qav N c.2 d.2).bind fun e=>
 (jU c.1 e).bind fun f=>
 some f
 else
 (jA N c.2 d.2).bind fun g=>
 if g>=0 then
 (yx N c.2 d.2).bind fun h=>
 (jU c.1 h).bind fun i=>
 some i
 else
 (yx N d.2 c.2).bind fun j=>
 (jU d.1 j).bind fun k=>
 some k
 |(.inr l)=>
 some l)
theorem yO (N:Nat) (a:qj) (b:qj) {res:qj} (h:jl N a b=some res):qb ZT (.fn 65) [.agg (nz1 a),.agg (nz1 b)] [] (.agg (nz1 res)) []:=by
 unfold jl at h
 refine Ub Tryz.func65 rfl rfl (m:=67) rfl (rs:=[.cell 4 85]) rfl (l:=[(0,.agg (nz1 a)),(1,.agg (nz1 b))]) rfl ?_
 refine sg fol (kF []) [.cells (nz1 a),.cells (nz1 b),bZ] ?_
 refine sq ?_
 refine sq ?_
 obtain⟨J,c,h⟩:=bnd h
 refine Goes.cut (s':=(ofG 67 (kF [(17,.bool J)]),[.cells (nz1 a),.cells (nz1 b),bZ])) ?_ ?_
 ·rcases wyB c with⟨z,c⟩|⟨z,c⟩
  ·obtain rfl:=si c
   exact tr fol [2,3,6] (kF [(17,.bool b.w.isEmpty)]) (ac (hs (.done (.opt (qR ZT .eql 83 (.tmp 11) (.const (.slice none 0 0)) (nvl (qa .u64) a.w) .nilslice)) (.bool a.w.isEmpty)) (qaL qaF)) (ac (gw z) (ac (hs (.done (.opt (qR ZT .eql 83 (.tmp 15) (.const (.slice none 0 0)) (nvl (qa .u64) b.w) .nilslice)) (.bool b.w.isEmpty)) (qaL qaF)) az)))
  obtain rfl:=si c
  exact tr fol [2,3] (kF [(17,.bool false)]) (ac (hs (.done (.opt (qR ZT .eql 83 (.tmp 11) (.const (.slice none 0 0)) (nvl (qa .u64) a.w) .nilslice)) (.bool a.w.isEmpty)) (qaL qaF)) (ac (gw z) az))
 obtain⟨H,g4,h⟩:=bnd h
 refine Goes.imp (Q:=fun x s'=>(x= .normal/\(.inl ())=H/\Sub s' (ofG 67 (kF []),[.cells (nz1 a),.cells (nz1 b),bZ]))\/(x= .ret/\ ∃I,(.inr I)=H/\jy ZT [.cell 4 85] (.agg (nz1 I)) .ret s')) ?_ ?_
 ·refine ihB g4 (fun K g4=>?_) (fun K g4=>?_)
  ·refine sh fol (kF (kBG (w64 (a.s+b.s)))) ?_
   refine sh fol (kF [(5,.i (w64 (a.s+b.s))),(30,.bool ((decide ((w64 (a.s+b.s))>a.s))==(decide (b.s>0))))]) ?_
   refine ihB g4 (fun L g4=>?_) (fun L g4=>?_)
   ·refine sg fol (kAR []) (.cells (nz1 a):: .cells (nz1 b)::(kA7 (w64 (a.s+b.s)))) ?_
    refine Goes.ret ?_
    obtain rfl:=si g4
    exact Or.inr (⟨rfl,_,rfl,(gw2 [.agg [.i (w64 (a.s+b.s)),.nilslice]] (FzW.agg (qc.cons (Ua tI) (qc.cons (FzW.nv0 (E:=(qa .u64))) qc.nil))))⟩)
   refine Goes.skip ?_
   obtain rfl:=si g4
   exact Or.inl (⟨rfl,rfl,(Sub.keep [2,3,4] rfl rfl)⟩)
  refine Goes.skip ?_
  obtain rfl:=si g4
  exact Or.inl (⟨rfl,rfl,(Sub.keep [2,3,4] rfl rfl)⟩)
 rintro x s' (⟨rfl,rfl,hsub⟩|⟨rfl,M,rfl,hret⟩)
 ·try dsimp only at h
  refine Goes.sub hsub ?_
  obtain⟨d,v,h⟩:=bnd h
  refine sq (gr fol [1] (kAV (kAR [(6,.bool d.1),(7,vl (qa .u64) d.2)])) (ac (cv (zD a v)) az) ?_)
  obtain⟨e,y,h⟩:=bnd h
  refine sq (gr fol [1] (kAR [(6,.bool d.1),(7,vl (qa .u64) d.2),(8,.bool e.1),(9,vl (qa .u64) e.2)]) (ac (cv (zD b y)) az) ?_)
  refine sq (Goes.block ?_)
  refine sh fol (kAR [(6,.bool d.1),(7,vl (qa .u64) d.2),(8,.bool e.1),(9,vl (qa .u64) e.2),(43,.bool (d.1==e.1))]) ?_
  refine ihB h (fun A h=>?_) (fun A h=>?_)
  ·obtain⟨B,k,h⟩:=bnd h
   obtain⟨f,o,h⟩:=bnd h
   refine sq (gq fol [3,4,5] (kAR []) [.cells (nz1 a),.cells (nz1 b),.cells (nz1 f)] (ac (cv (qgy N d.2 e.2 k)) (ac (cv (qaa d.1 B o)) (ac (hs (.run [2] (qm ZT 85 (.ptr 2 0) (.agg (nz1 f))) [.cells (nz1 a),.cells (nz1 b),bZ] .undef [.cells (nz1 a),.cells (nz1 b),.cells (nz1 f)] true) (qK (n:=2) (by kernel_rfl) rfl rfl rfl rfl (cac rfl (cac nvc can)) rfl)) az))) ?_)
   refine Goes.ret ?_
   obtain rfl:=si h
   exact(gw2 [.agg (nz1 f)] (FzW.agg (qc.cons (Ua tI) (qc.cons (Ua (qA (qa .u64) _ (nl rfl))) qc.nil))))
  obtain⟨C,p,h⟩:=bnd h
  refine sq (gr fol [2] (kAR [(6,.bool d.1),(7,vl (qa .u64) d.2),(8,.bool e.1),(9,vl (qa .u64) e.2),(52,.bool (decide (C>=0)))]) (ac (cv (qbS N d.2 e.2 p)) az) ?_)
  refine ihD h (fun D h=>?_) (fun D h=>?_)
  ·obtain⟨F,q,h⟩:=bnd h
   obtain⟨g,r,h⟩:=bnd h
   refine sq (gq fol [3,4,5] (kAR []) [.cells (nz1 a),.cells (nz1 b),.cells (nz1 g)] (ac (cv (qdW N d.2 e.2 q)) (ac (cv (qaa d.1 F r)) (ac (hs (.run [2] (qm ZT 85 (.ptr 2 0) (.agg (nz1 g))) [.cells (nz1 a),.cells (nz1 b),bZ] .undef [.cells (nz1 a),.cells (nz1 b),.cells (nz1 g)] true) (qK (n:=2) (by kernel_rfl) rfl rfl rfl rfl (cac rfl (cac nvc can)) rfl)) az))) ?_)
   refine Goes.ret ?_
   obtain rfl:=si h
   exact(gw2 [.agg (nz1 g)] (FzW.agg (qc.cons (Ua tI) (qc.cons (Ua (qA (qa .u64) _ (nl rfl))) qc.nil))))
  refine Goes.skip ?_
  obtain⟨G,t,h⟩:=bnd h
  obtain⟨j,u,h⟩:=bnd h
  refine sq (gq fol [3,4,5] (kAR []) [.cells (nz1 a),.cells (nz1 b),.cells (nz1 j)] (ac (cv (qdW N e.2 d.2 t)) (ac (cv (qaa e.1 G u)) (ac (hs (.run [2] (qm ZT 85 (.ptr 2 0) (.agg (nz1 j))) [.cells (nz1 a),.cells (nz1 b),bZ] .undef [.cells (nz1 a),.cells (nz1 b),.cells (nz1 j)] true) (qK (n:=2) (by kernel_rfl) rfl rfl rfl rfl (cac rfl (cac nvc can)) rfl)) az))) ?_)
  refine Goes.ret ?_
  obtain rfl:=si h
  exact(gw2 [.agg (nz1 j)] (FzW.agg (qc.cons (Ua tI) (qc.cons (Ua (qA (qa .u64) _ (nl rfl))) qc.nil))))
 try dsimp only at h
 obtain rfl:=si h
 exact hret
def bits_Mul64 (a:Int) (y:Int):Option (Int×Int):=
 some (IntKind.wrap .u64 ((IntKind.wrap .u64 ((IntKind.wrap .u64 ((qp .u64 a 32)*(qp .u64 y 32)))+(qp .u64 (IntKind.wrap .u64 ((IntKind.wrap .u64 ((qp .u64 a 32)*(qy .u64 y 4294967295)))+(qp .u64 (IntKind.wrap .u64 ((qy .u64 a 4294967295)*(qy .u64 y 4294967295))) 32))) 32)))+(qp .u64 (IntKind.wrap .u64 ((qy .u64 (IntKind.wrap .u64 ((IntKind.wrap .u64 ((qp .u64 a 32)*(qy .u64 y 4294967295)))+(qp .u64 (IntKind.wrap .u64 ((qy .u64 a 4294967295)*(qy .u64 y 4294967295))) 32))) 4294967295)+(IntKind.wrap .u64 ((qy .u64 a 4294967295)*(qp .u64 y 32))))) 32)),IntKind.wrap .u64 (a*y))
theorem qby (a:Int) (y:Int) {res:Int×Int} (h:bits_Mul64 a y=some res):qb ZT (.fn 176) (kBb a y) [] (.tuple (kBb res.1 res.2)) []:=by
 unfold bits_Mul64 at h
 refine Ub Tryz.func176 rfl rfl (m:=51) rfl (rs:=[.tmp 4,.tmp 5]) rfl (l:=(kY a y [])) rfl ?_
 refine sh fol (kY a y []) ?_
 refine sh fol (kY a y (kAT (qy .u64 a 4294967295) [])) ?_
 refine sh fol (kY a y (kAT (qy .u64 a 4294967295) (kAk (qp .u64 a 32) []))) ?_
 refine sh fol (kY a y (kAT (qy .u64 a 4294967295) (kAD (qp .u64 a 32) (qy .u64 y 4294967295) []))) ?_
 refine sh fol (kY a y (kAT (qy .u64 a 4294967295) (kAD (qp .u64 a 32) (qy .u64 y 4294967295) [(9,.int .u64 (qp .u64 y 32))]))) ?_
 refine sh fol (kY a y (kAT (qy .u64 a 4294967295) (kAD (qp .u64 a 32) (qy .u64 y 4294967295) [(9,.int .u64 (qp .u64 y 32)),(10,.int .u64 (IntKind.wrap .u64 ((qy .u64 a 4294967295)*(qy .u64 y 4294967295))))]))) ?_
 refine sh fol (kY a y (kAT (qy .u64 a 4294967295) (kAk (qp .u64 a 32) [(9,.int .u64 (qp .u64 y 32)),(11,.int .u64 (IntKind.wrap .u64 ((IntKind.wrap .u64 ((qp .u64 a 32)*(qy .u64 y 4294967295)))+(qp .u64 (IntKind.wrap .u64 ((qy .u64 a 4294967295)*(qy .u64 y 4294967295))) 32))))]))) ?_
 refine sh fol (kY a y (kAT (qy .u64 a 4294967295) (kAk (qp .u64 a 32) ((9,.int .u64 (qp .u64 y 32))::(kZ (IntKind.wrap .u64 ((IntKind.wrap .u64 ((qp .u64 a 32)*(qy .u64 y 4294967295)))+(qp .u64 (IntKind.wrap .u64 ((qy .u64 a 4294967295)*(qy .u64 y 4294967295))) 32))) (qy .u64 (IntKind.wrap .u64 ((IntKind.wrap .u64 ((qp .u64 a 32)*(qy .u64 y 4294967295)))+(qp .u64 (IntKind.wrap .u64 ((qy .u64 a 4294967295)*(qy .u64 y 4294967295))) 32))) 4294967295) []))))) ?_
 refine sh fol (kY a y (kAT (qy .u64 a 4294967295) (kAk (qp .u64 a 32) [(9,.int .u64 (qp .u64 y 32)),(12,.int .u64 (qy .u64 (IntKind.wrap .u64 ((IntKind.wrap .u64 ((qp .u64 a 32)*(qy .u64 y 4294967295)))+(qp .u64 (IntKind.wrap .u64 ((qy .u64 a 4294967295)*(qy .u64 y 4294967295))) 32))) 4294967295)),(13,.int .u64 (qp .u64 (IntKind.wrap .u64 ((IntKind.wrap .u64 ((qp .u64 a 32)*(qy .u64 y 4294967295)))+(qp .u64 (IntKind.wrap .u64 ((qy .u64 a 4294967295)*(qy .u64 y 4294967295))) 32))) 32))]))) ?_
 refine sh fol (kY a y (kAk (qp .u64 a 32) [(9,.int .u64 (qp .u64 y 32)),(12,.int .u64 (IntKind.wrap .u64 ((qy .u64 (IntKind.wrap .u64 ((IntKind.wrap .u64 ((qp .u64 a 32)*(qy .u64 y 4294967295)))+(qp .u64 (IntKind.wrap .u64 ((qy .u64 a 4294967295)*(qy .u64 y 4294967295))) 32))) 4294967295)+(IntKind.wrap .u64 ((qy .u64 a 4294967295)*(qp .u64 y 32)))))),(13,.int .u64 (qp .u64 (IntKind.wrap .u64 ((IntKind.wrap .u64 ((qp .u64 a 32)*(qy .u64 y 4294967295)))+(qp .u64 (IntKind.wrap .u64 ((qy .u64 a 4294967295)*(qy .u64 y 4294967295))) 32))) 32))])) ?_
 refine sh fol (kY a y [(4,.int .u64 (IntKind.wrap .u64 ((IntKind.wrap .u64 ((IntKind.wrap .u64 ((qp .u64 a 32)*(qp .u64 y 32)))+(qp .u64 (IntKind.wrap .u64 ((IntKind.wrap .u64 ((qp .u64 a 32)*(qy .u64 y 4294967295)))+(qp .u64 (IntKind.wrap .u64 ((qy .u64 a 4294967295)*(qy .u64 y 4294967295))) 32))) 32)))+(qp .u64 (IntKind.wrap .u64 ((qy .u64 (IntKind.wrap .u64 ((IntKind.wrap .u64 ((qp .u64 a 32)*(qy .u64 y 4294967295)))+(qp .u64 (IntKind.wrap .u64 ((qy .u64 a 4294967295)*(qy .u64 y 4294967295))) 32))) 4294967295)+(IntKind.wrap .u64 ((qy .u64 a 4294967295)*(qp .u64 y 32))))) 32))))]) ?_
 refine sh fol [(4,.int .u64 (IntKind.wrap .u64 ((IntKind.wrap .u64 ((IntKind.wrap .u64 ((qp .u64 a 32)*(qp .u64 y 32)))+(qp .u64 (IntKind.wrap .u64 ((IntKind.wrap .u64 ((qp .u64 a 32)*(qy .u64 y 4294967295)))+(qp .u64 (IntKind.wrap .u64 ((qy .u64 a 4294967295)*(qy .u64 y 4294967295))) 32))) 32)))+(qp .u64 (IntKind.wrap .u64 ((qy .u64 (IntKind.wrap .u64 ((IntKind.wrap .u64 ((qp .u64 a 32)*(qy .u64 y 4294967295)))+(qp .u64 (IntKind.wrap .u64 ((qy .u64 a 4294967295)*(qy .u64 y 4294967295))) 32))) 4294967295)+(IntKind.wrap .u64 ((qy .u64 a 4294967295)*(qp .u64 y 32))))) 32)))),(5,.int .u64 (IntKind.wrap .u64 (a*y)))] ?_
 refine Goes.ret ?_
 obtain rfl:=si h
 exact(gw2 (kBb (IntKind.wrap .u64 ((IntKind.wrap .u64 ((IntKind.wrap .u64 ((qp .u64 a 32)*(qp .u64 y 32)))+(qp .u64 (IntKind.wrap .u64 ((IntKind.wrap .u64 ((qp .u64 a 32)*(qy .u64 y 4294967295)))+(qp .u64 (IntKind.wrap .u64 ((qy .u64 a 4294967295)*(qy .u64 y 4294967295))) 32))) 32)))+(qp .u64 (IntKind.wrap .u64 ((qy .u64 (IntKind.wrap .u64 ((IntKind.wrap .u64 ((qp .u64 a 32)*(qy .u64 y 4294967295)))+(qp .u64 (IntKind.wrap .u64 ((qy .u64 a 4294967295)*(qy .u64 y 4294967295))) 32))) 4294967295)+(IntKind.wrap .u64 ((qy .u64 a 4294967295)*(qp .u64 y 32))))) 32))) (IntKind.wrap .u64 (a*y))) (FzW.tuple (qc.cons (Ua tI) (qc.cons (Ua tI) qc.nil))))
def jk (b:List Int) (l:Int) (g:Int):Nat->(List Int)->Int->Int->Option ((List Int)×Int)
 |0,_,_,_=>none
 |K+1,h,a,c=>
  if a<(b.length:Int)then
  (idx b a).bind fun i=>
  (bits_Mul64 l i).bind fun d=>
  (idx h (w64 (g+a))).bind fun j=>
  (xV d.2 j 0).bind fun e=>
  (xV e.1 c 0).bind fun f=>
  (put h (w64 (g+a)) f.1).bind fun k=>
  jk b l g K k (w64 (a+1)) (IntKind.wrap .u64 ((IntKind.wrap .u64 (d.1+e.2))+f.2))
  else
  some (h,c)
def jv (N:Nat) (a:List Int) (b:List Int):Nat->(List Int)->Int->Option (List Int)
 |0,_,_=>none
 |K+1,g,c=>
  if c<(a.length:Int)then
  (idx a c).bind fun h=>
  (jk b h c N g 0 0).bind fun(d,e)=>
  (idx d (w64 (c+(b.length:Int)))).bind fun i=>
  (put d (w64 (c+(b.length:Int))) e).bind fun f=>
  jv N a b K f (w64 (c+1))
  else
  some g
def qau (N:Nat) (a:List Int) (b:List Int):Option (List Int):=
 (mk 8 (w64 ((a.length:Int)+(b.length:Int))) 0).bind fun d=>
 (jv N a b N d 0).bind fun e=>
 (yP N e).bind fun c=>
 some c
theorem qgx (N:Nat) (a:List Int) (b:List Int) {res:List Int} (h:qau N a b=some res):qb ZT (.fn 178) [vl (qa .u64) a,vl (qa .u64) b] [] (vl (qa .u64) res) []:=by
 unfold qau at h
 refine Ub Tryz.func178 rfl rfl (m:=80) rfl (rs:=[.tmp 4]) rfl (l:=[(0,vl (qa .u64) a),(1,vl (qa .u64) b)]) rfl ?_
 refine sh fol [(0,vl (qa .u64) a),(1,vl (qa .u64) b)] ?_
 obtain⟨L,O,h⟩:=bnd h
 refine sq (gq fol [5] ((0,vl (qa .u64) a)::(1,vl (qa .u64) b)::(kD L [])) [.cells (L.flatMap (qa .u64).c)] (ac (hs (.run [] (jc ZT 83 (.i (w64 ((a.length:Int)+(b.length:Int)))) (.i (w64 ((a.length:Int)+(b.length:Int))))) [] (.slice 0 0 L.length L.length 1) [.cells (L.flatMap (qa .u64).c)] false) (qdI zH (E:=(qa .u64)) (z:=0) rfl (by kernel_rfl) O rfl)) az) ?_)
 refine sq ?_
 refine sh fol ((1,vl (qa .u64) b)::(kD L [(20,vl (qa .u64) a),(21,.i (a.length:Int)),(22,.i 0)])) ?_
 refine Goes.block ?_
 obtain⟨Y,g5,h⟩:=bnd h
 refine Goes.imp (Q:=fun x s'=>(x= .exit 0/\ ∃u,u=Y/\Sub s' (ofG 80 (kD u []),[.cells (u.flatMap (qa .u64).c)]))) ?_ ?_
 ·refine Uc (fun M s=> ∃(F:List Int) (d:Int),s=(ofG 80 ((1,vl (qa .u64) b)::(kD F ((20,vl (qa .u64) a)::(kAH (a.length:Int) d [])))),[.cells (F.flatMap (qa .u64).c)])/\jv N a b M F d=some Y) ?_ (m:=N) ⟨_,_,rfl,g5⟩
  rintro M s ⟨F,d,rfl,g5⟩
  cases M with
  |zero=>simp only[jv]at g5;cases g5
  |succ M=>
   rw[jv]at g5
   refine sh fol ((1,vl (qa .u64) b)::(kD F ((20,vl (qa .u64) a)::(kAH (a.length:Int) d [(23,.bool (decide (d<(a.length:Int))))])))) ?_
   refine sq ?_
   refine ihD g5 (fun Z g5=>?_) (fun Z g5=>?_)
   ·refine Goes.skip ?_
    refine sq (Goes.block ?_)
    obtain⟨q,G,g5⟩:=bnd g5
    refine sq (gr fol [1,2] ((1,vl (qa .u64) b)::(kD F ((6,.i d)::(kAk q ((20,vl (qa .u64) a)::(kAH (a.length:Int) d [])))))) (ac (iv zH (qa .u64) G) (ac (lv 0 zP (qa .u64) G rfl) az)) ?_)
    refine sh fol ((1,vl (qa .u64) b)::(kD F ((6,.i d)::(kAk q (kBc ((20,vl (qa .u64) a)::(kAH (a.length:Int) d []))))))) ?_
    refine sq ?_
    refine sh fol ((1,vl (qa .u64) b)::(kD F ((6,.i d)::(kAk q (kBc ((20,vl (qa .u64) a)::(kAH (a.length:Int) d [(27,vl (qa .u64) b),(28,.i (b.length:Int)),(29,.i 0)]))))))) ?_
    refine Goes.block ?_
    obtain⟨P,g13,g5⟩:=bnd g5
    refine Goes.imp (Q:=fun x s'=>(x= .exit 2/\ ∃k v,(k,v)=P/\Sub s' (ofG 80 ((1,vl (qa .u64) b)::(kD k ((6,.i d)::(8,.int .u64 v)::(20,vl (qa .u64) a)::(kAH (a.length:Int) d [])))),[.cells (k.flatMap (qa .u64).c)]))) ?_ ?_
    ·refine Uc (fun M s=> ∃(j:List Int) (e:Int) (n:Int),s=(ofG 80 ((1,vl (qa .u64) b)::(kD j ((6,.i d)::(kAD q n ((20,vl (qa .u64) a)::(kAH (a.length:Int) d ((27,vl (qa .u64) b)::(kAz (b.length:Int) e)))))))),[.cells (j.flatMap (qa .u64).c)])/\jk b q d M j e n=some P) ?_ (m:=N) ⟨_,_,_,rfl,g13⟩
     rintro M s ⟨j,e,n,rfl,g13⟩
     cases M with
     |zero=>simp only[jk]at g13;cases g13
     |succ M=>
      rw[jk]at g13
      refine sh fol ((1,vl (qa .u64) b)::(kD j ((6,.i d)::(kAD q n ((20,vl (qa .u64) a)::(kAH (a.length:Int) d [(27,vl (qa .u64) b),(28,.i (b.length:Int)),(29,.i e),(30,.bool (decide (e<(b.length:Int))))])))))) ?_
      refine sq ?_
      refine ihD g13 (fun X g13=>?_) (fun X g13=>?_)
      ·refine Goes.skip ?_
       refine sq (Goes.block ?_)
       obtain⟨U,w,g13⟩:=bnd g13
       refine sq (gr fol [1,2] ((1,vl (qa .u64) b)::(kD j ((6,.i d)::(kAD q n ((9,.i e)::(10,.int .u64 U)::(20,vl (qa .u64) a)::(kAH (a.length:Int) d ((27,vl (qa .u64) b)::(kAz (b.length:Int) e)))))))) (ac (iv zH (qa .u64) w) (ac (lv 0 zP (qa .u64) w rfl) az)) ?_)
       obtain⟨f,H,g13⟩:=bnd g13
       refine sq (gr fol [2] ((1,vl (qa .u64) b)::(kD j ((6,.i d)::(kAD q n ((9,.i e)::(kZ f.1 f.2 ((20,vl (qa .u64) a)::(kAH (a.length:Int) d ((27,vl (qa .u64) b)::(kAz (b.length:Int) e)))))))))) (ac (cv (qby q U H)) az) ?_)
       refine sh fol ((1,vl (qa .u64) b)::(kD j ((6,.i d)::(kAD q n ((9,.i e)::(kZ f.1 f.2 ((20,vl (qa .u64) a)::(kAH (a.length:Int) d ((27,vl (qa .u64) b)::(kAz (b.length:Int) e)))))))))) ?_
       obtain⟨V,o,g13⟩:=bnd g13
       obtain⟨g,I,g13⟩:=bnd g13
       refine sq (gr fol [5,6,7] ((1,vl (qa .u64) b)::(kD j ((6,.i d)::(kAD q n ((9,.i e)::(kZ f.1 g.1 ((13,.int .u64 g.2)::(20,vl (qa .u64) a)::(kAH (a.length:Int) d ((27,vl (qa .u64) b)::(kAz (b.length:Int) e)))))))))) (ac (hs (.done (.opt (qh ZT 83 (.slice 0 0 j.length j.length 1) (.i (w64 (d+e))))) (.ptr 0 ((w64 (d+e):Int).toNat*1+0))) (qaE zH o)) (ac (hs (.run [0] (ja ZT 197 (.ptr 0 ((w64 (d+e):Int).toNat*1+0))) [.cells (j.flatMap (qa .u64).c)] (.int .u64 V) [.cells (j.flatMap (qa .u64).c)] false) (qcC zP (E:=(qa .u64)) (l:=j) rfl rfl o (nl rfl) rfl)) (ac (cv (qcw f.2 V 0 I)) az))) ?_)
       refine sh fol ((1,vl (qa .u64) b)::(kD j ((6,.i d)::(kAD q n ((9,.i e)::(kZ (IntKind.wrap .u64 (f.1+g.2)) g.1 ((20,vl (qa .u64) a)::(kAH (a.length:Int) d ((27,vl (qa .u64) b)::(kAz (b.length:Int) e)))))))))) ?_
       obtain⟨p,J,g13⟩:=bnd g13
       refine sq (gr fol [2] ((1,vl (qa .u64) b)::(kD j ((6,.i d)::(kAk q ((9,.i e)::(kZ (IntKind.wrap .u64 (f.1+g.2)) p.1 ((13,.int .u64 p.2)::(20,vl (qa .u64) a)::(kAH (a.length:Int) d ((27,vl (qa .u64) b)::(kAz (b.length:Int) e)))))))))) (ac (cv (qcw g.1 n 0 J)) az) ?_)
       obtain⟨r,A,g13⟩:=bnd g13
       refine gq fol [8,9] ((1,vl (qa .u64) b)::(kD j ((6,.i d)::(kAD q (IntKind.wrap .u64 ((IntKind.wrap .u64 (f.1+g.2))+p.2)) ((20,vl (qa .u64) a)::(kAH (a.length:Int) d ((27,vl (qa .u64) b)::(kAz (b.length:Int) e)))))))) [.cells (r.flatMap (qa .u64).c)] (ac (hs (.done (.opt (qh ZT 83 (.slice 0 0 j.length j.length 1) (.i (w64 (d+e))))) (.ptr 0 ((w64 (d+e):Int).toNat*1+0))) (qaE zH o)) (ac (hs (.run [0] (qm ZT 197 (.ptr 0 ((w64 (d+e):Int).toNat*1+0)) (.int .u64 p.1)) [.cells (j.flatMap (qa .u64).c)] .undef [.cells (r.flatMap (qa .u64).c)] true) (qan (E:=(qa .u64)) (l:=j) (y:=p.1) rfl (show _=some 1 by kernel_rfl) rfl o rfl rfl rfl rfl rfl A rfl)) az)) ?_
       refine Goes.sub (show Sub (ofG 80 ((1,vl (qa .u64) b)::(kD j ((6,.i d)::(kAD q (IntKind.wrap .u64 ((IntKind.wrap .u64 (f.1+g.2))+p.2)) ((20,vl (qa .u64) a)::(kAH (a.length:Int) d ((27,vl (qa .u64) b)::(kAz (b.length:Int) e)))))))),[.cells (r.flatMap (qa .u64).c)]) (ofG 80 ((1,vl (qa .u64) b)::(kD r ((6,.i d)::(kAD q (IntKind.wrap .u64 ((IntKind.wrap .u64 (f.1+g.2))+p.2)) ((20,vl (qa .u64) a)::(kAH (a.length:Int) d ((27,vl (qa .u64) b)::(kAz (b.length:Int) e)))))))),[.cells (r.flatMap (qa .u64).c)])from(Sub.norm [] [some 0] rfl rfl (.keep (.same (qf (qa .u64) _)) (.keep (.sliceE rfl (vD A)) (.keep (.same nI) (.keep (.same nI) (.keep (.same nI) (.keep (.same (qf (qa .u64) _)) (.keep (.same nI) (.keep (.same nI) (.keep (.same (qf (qa .u64) _)) (.keep (.same nI) (.keep (.same nI) .nil))))))))))) (.ks .nil))) ?_
       refine gh fol ((1,vl (qa .u64) b)::(kD r ((6,.i d)::(kAD q (IntKind.wrap .u64 ((IntKind.wrap .u64 (f.1+g.2))+p.2)) ((20,vl (qa .u64) a)::(kAH (a.length:Int) d ((27,vl (qa .u64) b)::(kAz (b.length:Int) (w64 (e+1)))))))))) ?_
       exact⟨M,(ofG 80 ((1,vl (qa .u64) b)::(kD r ((6,.i d)::(kAD q (IntKind.wrap .u64 ((IntKind.wrap .u64 (f.1+g.2))+p.2)) ((20,vl (qa .u64) a)::(kAH (a.length:Int) d ((27,vl (qa .u64) b)::(kAz (b.length:Int) (w64 (e+1)))))))))),[.cells (r.flatMap (qa .u64).c)]),Nat.lt_succ_self _,(Sub.refl _),_,_,_,rfl,g13⟩
      refine Goes.exit ?_
      obtain rfl:=si g13
      exact⟨rfl,_,_,rfl,(Sub.keep [1,5,6,8,20,21,22] rfl rfl)⟩
    rintro x s' ⟨rfl,k,v,rfl,hsub⟩
    try dsimp only at g5
    refine Goes.sub hsub ?_
    obtain⟨a0,B,g5⟩:=bnd g5
    obtain⟨t,C,g5⟩:=bnd g5
    refine gq fol [6,7] ((1,vl (qa .u64) b)::(kD k ((20,vl (qa .u64) a)::(kAH (a.length:Int) d [])))) [.cells (t.flatMap (qa .u64).c)] (ac (hs (.done (.opt (qh ZT 83 (.slice 0 0 k.length k.length 1) (.i (w64 (d+(b.length:Int)))))) (.ptr 0 ((w64 (d+(b.length:Int)):Int).toNat*1+0))) (qaE zH B)) (ac (hs (.run [0] (qm ZT 197 (.ptr 0 ((w64 (d+(b.length:Int)):Int).toNat*1+0)) (.int .u64 v)) [.cells (k.flatMap (qa .u64).c)] .undef [.cells (t.flatMap (qa .u64).c)] true) (qan (E:=(qa .u64)) (l:=k) (y:=v) rfl (show _=some 1 by kernel_rfl) rfl B rfl rfl rfl rfl rfl C rfl)) az)) ?_
    refine Goes.sub (show Sub (ofG 80 ((1,vl (qa .u64) b)::(kD k ((20,vl (qa .u64) a)::(kAH (a.length:Int) d [])))),[.cells (t.flatMap (qa .u64).c)]) (ofG 80 ((1,vl (qa .u64) b)::(kD t ((20,vl (qa .u64) a)::(kAH (a.length:Int) d [])))),[.cells (t.flatMap (qa .u64).c)])from(Sub.norm [] [some 0] rfl rfl (.keep (.same (qf (qa .u64) _)) (.keep (.sliceE rfl (vD C)) (.keep (.same (qf (qa .u64) _)) (.keep (.same nI) (.keep (.same nI) .nil))))) (.ks .nil))) ?_
    refine gh fol ((1,vl (qa .u64) b)::(kD t ((20,vl (qa .u64) a)::(kAH (a.length:Int) (w64 (d+1)) [])))) ?_
    exact⟨M,(ofG 80 ((1,vl (qa .u64) b)::(kD t ((20,vl (qa .u64) a)::(kAH (a.length:Int) (w64 (d+1)) [])))),[.cells (t.flatMap (qa .u64).c)]),Nat.lt_succ_self _,(Sub.refl _),_,_,rfl,g5⟩
   refine Goes.exit ?_
   obtain rfl:=si g5
   exact⟨rfl,_,rfl,(Sub.keep [5] rfl rfl)⟩
 rintro x s' ⟨rfl,u,rfl,hsub⟩
 refine Goes.sub hsub ?_
 obtain⟨D,K,h⟩:=bnd h
 refine sq (gq fol [1] [(4,vl (qa .u64) D)] [.frozen (u.flatMap (qa .u64).c)] (ac (hs (.callF 188 [.slice 0 0 u.length u.length 1] [.cells (u.flatMap (qa .u64).c)] [0] [vl (qa .u64) u] (vl (qa .u64) D)) (qaH (FzL.cons (Fz.sl (E:=(qa .u64)) rfl rfl (nl rfl)) FzL.nil) (xq N u K) (qw (qa .u64) _ (nl rfl)))) az) ?_)
 refine Goes.sub (show Sub (ofG 80 [(4,vl (qa .u64) D)],[.frozen (u.flatMap (qa .u64).c)]) (ofG 80 [(4,vl (qa .u64) D)],[])from(Sub.norm [] [] rfl rfl (.keep (.same (qf (qa .u64) _)) .nil) .nil)) ?_
 refine Goes.ret ?_
 obtain rfl:=si h
 exact(gw2 [vl (qa .u64) D] (Ua (qw (qa .u64) _ (nl rfl))))
def qQ (N:Nat) (a:qj) (b:qj):Option qj:=
 (if a.w.isEmpty=true then
 some b.w.isEmpty
 else
 some false:Option Bool).bind fun j=>
 ((if j=true then
 (qcj a.s).bind fun k=>
 (qcj b.s).bind fun l=>
 (bits_Mul64 k l).bind fun e=>
 (if e.1=0 then
 some (decide (e.2<=9223372036854775807))
 else
 some false:Option Bool).bind fun f=>
 if f=true then
 if(!((decide (a.s<0))==(decide (b.s<0))))=true then
 some (.inr (⟨w64 (0-(w64 e.2)),[]⟩:qj))
 else
 some (.inr (⟨w64 e.2,[]⟩:qj))
 else
 some (.inl ())
 else
 some (.inl ()):Option (Unit⊕qj))).bind (fun
 |(.inl ())=>
 (qD a).bind fun c=>
 (qD b).bind fun d=>
 (qau N c.2 d.2).bind fun g=>
 (jU (!(c.1==d.1)) g).bind fun h=>
 some h
 |(.inr i)=>
 some i)
theorem zO (N:Nat) (a:qj) (b:qj) {res:qj} (h:qQ N a b=some res):qb ZT (.fn 118) [.agg (nz1 a),.agg (nz1 b)] [] (.agg (nz1 res)) []:=by
 unfold qQ at h
 refine Ub Tryz.func118 rfl rfl (m:=66) rfl (rs:=[.cell 4 85]) rfl (l:=[(0,.agg (nz1 a)),(1,.agg (nz1 b))]) rfl ?_
 refine sg fol (kF []) [.cells (nz1 a),.cells (nz1 b),bZ] ?_
 refine sq ?_
 refine sq ?_
 obtain⟨G,d,h⟩:=bnd h
 refine Goes.cut (s':=(ofG 66 (kF [(18,.bool G)]),[.cells (nz1 a),.cells (nz1 b),bZ])) ?_ ?_
 ·rcases wyB d with⟨y,d⟩|⟨y,d⟩
  ·obtain rfl:=si d
   exact tr fol [2,3,6] (kF [(18,.bool b.w.isEmpty)]) (ac (hs (.done (.opt (qR ZT .eql 83 (.tmp 12) (.const (.slice none 0 0)) (nvl (qa .u64) a.w) .nilslice)) (.bool a.w.isEmpty)) (qaL qaF)) (ac (gw y) (ac (hs (.done (.opt (qR ZT .eql 83 (.tmp 16) (.const (.slice none 0 0)) (nvl (qa .u64) b.w) .nilslice)) (.bool b.w.isEmpty)) (qaL qaF)) az)))
  obtain rfl:=si d
  exact tr fol [2,3] (kF [(18,.bool false)]) (ac (hs (.done (.opt (qR ZT .eql 83 (.tmp 12) (.const (.slice none 0 0)) (nvl (qa .u64) a.w) .nilslice)) (.bool a.w.isEmpty)) (qaL qaF)) (ac (gw y) az))
 obtain⟨D,g4,h⟩:=bnd h
 refine Goes.imp (Q:=fun x s'=>(x= .normal/\(.inl ())=D/\Sub s' (ofG 66 (kF []),[.cells (nz1 a),.cells (nz1 b),bZ]))\/(x= .ret/\ ∃F,(.inr F)=D/\jy ZT [.cell 4 85] (.agg (nz1 F)) .ret s')) ?_ ?_
 ·refine ihB g4 (fun H g4=>?_) (fun H g4=>?_)
  ·obtain⟨I,t,g4⟩:=bnd g4
   obtain⟨J,u,g4⟩:=bnd g4
   obtain⟨f,v,g4⟩:=bnd g4
   refine sq (gr fol [2,5,6] (kF ((5,.int .u64 f.1)::(kAT f.2 []))) (ac (cv (qes a.s t)) (ac (cv (qes b.s u)) (ac (cv (qby I J v)) az))) ?_)
   refine sq ?_
   obtain⟨z,c,g4⟩:=bnd g4
   refine Goes.cut (s':=(ofG 66 (kF (kAT f.2 [(34,.bool z)])),[.cells (nz1 a),.cells (nz1 b),bZ])) ?_ ?_
   ·rcases wyD c with⟨k,c⟩|⟨k,c⟩
    ·obtain rfl:=si c
     exact tr fol [2] (kF (kAT f.2 [(34,.bool (decide (f.2<=9223372036854775807)))])) (ac (gw k) az)
    obtain rfl:=si c
    exact tr fol [2] (kF (kAT f.2 [(34,.bool false)])) (ac (gw k) az)
   refine ihB g4 (fun A g4=>?_) (fun A g4=>?_)
   ·refine sq ?_
    refine sh fol (kAR (kAT f.2 [(41,.bool (!((decide (a.s<0))==(decide (b.s<0)))))])) ?_
    refine ihB g4 (fun B g4=>?_) (fun B g4=>?_)
    ·refine sg fol (kAR []) (.cells (nz1 a):: .cells (nz1 b)::(kA7 (w64 (0-(w64 f.2))))) ?_
     refine Goes.ret ?_
     obtain rfl:=si g4
     exact Or.inr (⟨rfl,_,rfl,(gw2 [.agg [.i (w64 (0-(w64 f.2))),.nilslice]] (FzW.agg (qc.cons (Ua tI) (qc.cons (FzW.nv0 (E:=(qa .u64))) qc.nil))))⟩)
    refine Goes.skip ?_
    refine sg fol (kAR []) (.cells (nz1 a):: .cells (nz1 b)::(kA7 (w64 f.2))) ?_
    refine Goes.ret ?_
    obtain rfl:=si g4
    exact Or.inr (⟨rfl,_,rfl,(gw2 [.agg [.i (w64 f.2),.nilslice]] (FzW.agg (qc.cons (Ua tI) (qc.cons (FzW.nv0 (E:=(qa .u64))) qc.nil))))⟩)
   refine Goes.skip ?_
   obtain rfl:=si g4
   exact Or.inl (⟨rfl,rfl,(Sub.keep [2,3,4] rfl rfl)⟩)
  refine Goes.skip ?_
  obtain rfl:=si g4
  exact Or.inl (⟨rfl,rfl,(Sub.keep [2,3,4] rfl rfl)⟩)
 rintro x s' (⟨rfl,rfl,hsub⟩|⟨rfl,K,rfl,hret⟩)
 ·try dsimp only at h
  refine Goes.sub hsub ?_
  obtain⟨e,o,h⟩:=bnd h
  refine sq (gr fol [1] (kAV (kAR [(7,.bool e.1),(8,vl (qa .u64) e.2)])) (ac (cv (zD a o)) az) ?_)
  obtain⟨g,p,h⟩:=bnd h
  refine sq (gr fol [1] (kAR [(7,.bool e.1),(8,vl (qa .u64) e.2),(9,.bool g.1),(10,vl (qa .u64) g.2)]) (ac (cv (zD b p)) az) ?_)
  obtain⟨C,q,h⟩:=bnd h
  obtain⟨j,r,h⟩:=bnd h
  refine sq (gq fol [5,6,7] (kAR []) [.cells (nz1 a),.cells (nz1 b),.cells (nz1 j)] (ac (cv (qgx N e.2 g.2 q)) (ac (cv (qaa (!(e.1==g.1)) C r)) (ac (hs (.run [2] (qm ZT 85 (.ptr 2 0) (.agg (nz1 j))) [.cells (nz1 a),.cells (nz1 b),bZ] .undef [.cells (nz1 a),.cells (nz1 b),.cells (nz1 j)] true) (qK (n:=2) (by kernel_rfl) rfl rfl rfl rfl (cac rfl (cac nvc can)) rfl)) az))) ?_)
  refine Goes.ret ?_
  obtain rfl:=si h
  exact(gw2 [.agg (nz1 j)] (FzW.agg (qc.cons (Ua tI) (qc.cons (Ua (qA (qa .u64) _ (nl rfl))) qc.nil))))
 try dsimp only at h
 obtain rfl:=si h
 exact hret
def jM (N:Nat):Nat->Int->(List Int)->Int->(List Int)->Int->Option (Int×(List Int))
 |0,_,_,_,_,_=>none
 |K+1,e,f,h,i,g=>
  if g>0 then
  ((((if(qy .i64 g 1)=1 then
  (qQ N (⟨h,i⟩:qj) (⟨e,f⟩:qj)).bind fun a=>
  some (a.s,a.w)
  else
  some (h,i):Option (Int×(List Int)))).bind fun(b,c)=>
  if g>1 then
  (qQ N (⟨e,f⟩:qj) (⟨e,f⟩:qj)).bind fun d=>
  some (d.s,d.w,b,c)
  else
  some (e,f,b,c):Option (Int×(List Int)×Int×(List Int)))).bind fun(j,k,l,m)=>
  jM N K j k l m (qp .i64 g 1)
  else
  some (h,i)
def qaY (N:Nat) (a:qj) (k:Int):Option qj:=
 (qad 1).bind fun b=>
 (jM N N a.s a.w b.s b.w k).bind fun(c,d)=>
 some (⟨c,d⟩:qj)
theorem qew (N:Nat) (a:qj) (k:Int) {res:qj} (h:qaY N a k=some res):qb ZT (.fn 127) [.agg (nz1 a),.i k] [] (.agg (nz1 res)) []:=by
 unfold qaY at h
 refine Ub Tryz.func127 rfl rfl (m:=23) rfl (rs:=[.cell 4 85]) rfl (l:=[(0,.agg (nz1 a)),(1,.i k)]) rfl ?_
 refine sg fol ((1,.i k)::(kO [(4,.ptr 1 0)])) [.cells (nz1 a),bZ] ?_
 obtain⟨B,y,h⟩:=bnd h
 refine sq (gq fol [0,2] ((1,.i k)::(kO (kAa []))) [.cells (nz1 a),bZ,.cells (nz1 B)] (ac (cv (vP 1 y)) (ac (hs (.run [2] (qm ZT 85 (.ptr 2 0) (.agg (nz1 B))) [.cells (nz1 a),bZ,bZ] .undef [.cells (nz1 a),bZ,.cells (nz1 B)] true) (qK (n:=2) (by kernel_rfl) rfl rfl rfl rfl (cac rfl (cac nvc can)) rfl)) az)) ?_)
 refine sq (Goes.block ?_)
 obtain⟨H,g9,h⟩:=bnd h
 refine Goes.imp (Q:=fun x s'=>(x= .exit 0/\ ∃g j,(g,j)=H/\Sub s' (ofG 23 (kX (kBV [])),[bZ,.cells (ni1 g j)]))) ?_ ?_
 ·refine Uc (fun M s=> ∃(e:Int) (f:List Int) (z:Int) (A:List Int) (b:Int),s=(ofG 23 ((1,.i b)::(kO (kAa []))),[.cells (ni1 e f),bZ,.cells (ni1 z A)])/\jM N M e f z A b=some H) ?_ (m:=N) ⟨_,_,_,_,_,rfl,g9⟩
  rintro M s ⟨e,f,z,A,b,rfl,g9⟩
  cases M with
  |zero=>simp only[jM]at g9;cases g9
  |succ M=>
   rw[jM]at g9
   refine sq ?_
   refine sh fol ((1,.i b)::(kO (kAa (kAw (decide (b>0)))))) ?_
   refine ihD g9 (fun C g9=>?_) (fun C g9=>?_)
   ·refine Goes.skip ?_
    refine sq ?_
    obtain⟨D,g15,g9⟩:=bnd g9
    refine Goes.imp (Q:=fun x s'=>(x= .normal/\ ∃o p q r,(o,p,q,r)=D/\Sub s' (ofG 23 ((1,.i b)::(kO (kAa []))),[.cells (ni1 o p),bZ,.cells (ni1 q r)]))) ?_ ?_
    ·refine Goes.block ?_
     refine sq ?_
     refine sh fol ((1,.i b)::(kO (kAa (kBO (decide ((qy .i64 b 1)=1)))))) ?_
     obtain⟨E,g18,g15⟩:=bnd g15
     refine Goes.imp (Q:=fun x s'=>(x= .normal/\ ∃c d,(c,d)=E/\Sub s' (ofG 23 ((1,.i b)::(kO (kAa []))),[.cells (ni1 e f),bZ,.cells (ni1 c d)]))) ?_ ?_
     ·refine ihD g18 (fun F g18=>?_) (fun F g18=>?_)
      ·obtain⟨t,u,g18⟩:=bnd g18
       refine gq fol [2,3] ((1,.i b)::(kO (kAa []))) [.cells (ni1 e f),bZ,.cells (nz1 t)] (ac (cv (zO N (⟨z,A⟩:qj) (⟨e,f⟩:qj) u)) (ac (hs (.run [2] (qm ZT 85 (.ptr 2 0) (.agg (nz1 t))) [.cells (ni1 e f),bZ,.cells (ni1 z A)] .undef [.cells (ni1 e f),bZ,.cells (nz1 t)] true) (qK (n:=2) (by kernel_rfl) rfl rfl rfl rfl (cac rfl (cac nvc can)) rfl)) az)) ?_
       obtain rfl:=si g18
       exact⟨rfl,_,_,rfl,(Sub.refl _)⟩
      refine Goes.skip ?_
      obtain rfl:=si g18
      exact⟨rfl,_,_,rfl,(Sub.keep [1,2,4,5] rfl rfl)⟩
     rintro x s' ⟨rfl,c,d,rfl,hsub⟩
     try dsimp only at g15
     refine Goes.sub hsub ?_
     refine sh fol ((1,.i b)::(kO (kAa [(18,.bool (decide (b>1)))]))) ?_
     refine ihD g15 (fun G g15=>?_) (fun G g15=>?_)
     ·obtain⟨v,w,g15⟩:=bnd g15
      refine gq fol [2,3] ((1,.i b)::(kO (kAa []))) [.cells (nz1 v),bZ,.cells (ni1 c d)] (ac (cv (zO N (⟨e,f⟩:qj) (⟨e,f⟩:qj) w)) (ac (hs (.run [0] (qm ZT 85 (.ptr 0 0) (.agg (nz1 v))) [.cells (ni1 e f),bZ,.cells (ni1 c d)] .undef [.cells (nz1 v),bZ,.cells (ni1 c d)] true) (qK (n:=2) (by kernel_rfl) rfl rfl rfl rfl (cac rfl (cac nvc can)) rfl)) az)) ?_
      obtain rfl:=si g15
      exact⟨rfl,_,_,_,_,rfl,(Sub.refl _)⟩
     refine Goes.skip ?_
     obtain rfl:=si g15
     exact⟨rfl,_,_,_,_,rfl,(Sub.keep [1,2,4,5] rfl rfl)⟩
    rintro x s' ⟨rfl,o,p,q,r,rfl,hsub⟩
    try dsimp only at g9
    refine Goes.sub hsub ?_
    refine gh fol ((1,.i (qp .i64 b 1))::(kO (kAa []))) ?_
    exact⟨M,(ofG 23 ((1,.i (qp .i64 b 1))::(kO (kAa []))),[.cells (ni1 o p),bZ,.cells (ni1 q r)]),Nat.lt_succ_self _,(Sub.refl _),_,_,_,_,_,rfl,g9⟩
   refine Goes.exit ?_
   obtain rfl:=si g9
   exact⟨rfl,_,_,rfl,(Sub.norm [] [some 1,some 2] rfl rfl (.drop (.drop (.kp (.kp .nil)))) (.kb rfl (.same sn) (.kb rfl (.same sn) .nil)))⟩
 rintro x s' ⟨rfl,g,j,rfl,hsub⟩
 try dsimp only at h
 refine Goes.sub hsub ?_
 refine sq (gq fol [1] (kX []) [.cells (ni1 g j),.cells (ni1 g j)] (ac (hs (.run [0] (qm ZT 85 (.ptr 0 0) (.agg (ni1 g j))) [bZ,.cells (ni1 g j)] .undef [.cells (ni1 g j),.cells (ni1 g j)] true) (qK (n:=2) (by kernel_rfl) rfl rfl rfl rfl (cac rfl (cac nvc can)) rfl)) az) ?_)
 refine Goes.ret ?_
 obtain rfl:=si h
 exact(gw2 [.agg (ni1 g j)] (FzW.agg (qc.cons (Ua tI) (qc.cons (Ua (qA (qa .u64) _ (nl rfl))) qc.nil))))
def zL (a:qj):Option qj:=
 (if a.w.isEmpty=true then
 some (!decide (a.s=(-9223372036854775808)))
 else
 some false:Option Bool).bind fun c=>
 if c=true then
 some (⟨w64 (0-a.s),[]⟩:qj)
 else
 (qD a).bind fun b=>
 (jU (!b.1) b.2).bind fun d=>
 some d
theorem yh (a:qj) {res:qj} (h:zL a=some res):qb ZT (.fn 129) [.agg (nz1 a)] [] (.agg (nz1 res)) []:=by
 unfold zL at h
 refine Ub Tryz.func129 rfl rfl (m:=26) rfl (rs:=[.cell 2 85]) rfl (l:=[(0,.agg (nz1 a))]) rfl ?_
 refine sg fol (kAB []) [.cells (nz1 a),bZ] ?_
 refine sq ?_
 refine sq ?_
 obtain⟨j,b,h⟩:=bnd h
 refine Goes.cut (s':=(ofG 26 (kAB (kBE j)),[.cells (nz1 a),bZ])) ?_ ?_
 ·rcases wyB b with⟨g,b⟩|⟨g,b⟩
  ·obtain rfl:=si b
   exact tr fol [2,3] (kAB (kBE (!decide (a.s=(-9223372036854775808))))) (ac (hs (.done (.opt (qR ZT .eql 83 (.tmp 6) (.const (.slice none 0 0)) (nvl (qa .u64) a.w) .nilslice)) (.bool a.w.isEmpty)) (qaL qaF)) (ac (gw g) az))
  obtain rfl:=si b
  exact tr fol [2,3] (kAB [(12,.bool false)]) (ac (hs (.done (.opt (qR ZT .eql 83 (.tmp 6) (.const (.slice none 0 0)) (nvl (qa .u64) a.w) .nilslice)) (.bool a.w.isEmpty)) (qaL qaF)) (ac (gw g) az))
 refine ihB h (fun k h=>?_) (fun k h=>?_)
 ·refine sg fol kBW (.cells (nz1 a)::(kA7 (w64 (0-a.s)))) ?_
  refine Goes.ret ?_
  obtain rfl:=si h
  exact(gw2 [.agg [.i (w64 (0-a.s)),.nilslice]] (FzW.agg (qc.cons (Ua tI) (qc.cons (FzW.nv0 (E:=(qa .u64))) qc.nil))))
 refine Goes.skip ?_
 obtain⟨e,c,h⟩:=bnd h
 refine sq (gr fol [1] ((2,.ptr 1 0)::(kBQ e.1 [(4,vl (qa .u64) e.2)])) (ac (cv (zD a c)) az) ?_)
 obtain⟨f,d,h⟩:=bnd h
 refine sq (gq fol [3,4] kBW [.cells (nz1 a),.cells (nz1 f)] (ac (cv (qaa (!e.1) e.2 d)) (ac (hs (.run [1] (qm ZT 85 (.ptr 1 0) (.agg (nz1 f))) [.cells (nz1 a),bZ] .undef [.cells (nz1 a),.cells (nz1 f)] true) (qK (n:=2) (by kernel_rfl) rfl rfl rfl rfl (cac rfl (cac nvc can)) rfl)) az)) ?_)
 refine Goes.ret ?_
 obtain rfl:=si h
 exact(gw2 [.agg (nz1 f)] (FzW.agg (qc.cons (Ua tI) (qc.cons (Ua (qA (qa .u64) _ (nl rfl))) qc.nil))))
def stringslite_HasPrefix (b:Str) (a:Str):Option Bool:=
 (if(b.length:Int)>=(a.length:Int)then
 (cut b 0 (a.length:Int)).bind fun c=>
 some (c==a)
 else
 some false:Option Bool).bind fun d=>
 some d
theorem yF (c:Str) (a:Str) {res:Bool} (h:stringslite_HasPrefix c a=some res):qb ZT (.fn 190) (kAO c a) [] (.bool res) []:=by
 unfold stringslite_HasPrefix at h
 refine Ub Tryz.func190 rfl rfl (m:=18) rfl (rs:=[.tmp 4]) rfl (l:=(kR c a [])) rfl ?_
 refine sh fol (kR c a []) ?_
 refine sq ?_
 obtain⟨f,b,h⟩:=bnd h
 refine Goes.cut (s':=(ofG 18 (kA1 f),[])) ?_ ?_
 ·rcases wyD b with⟨e,b⟩|⟨e,b⟩
  ·obtain⟨g,d,b⟩:=bnd b
   obtain rfl:=si b
   exact tr fol [5,9] (kA1 (g==a)) (ac (gw e) (ac (hs (.done (.opt (qL ZT 9 (.str c) none (some (.i (a.length:Int))) none)) (.str g)) (zI st9 none (some (a.length:Int)) d)) az))
  obtain rfl:=si b
  exact tr fol [5] kAh (ac (gw e) az)
 refine Goes.ret ?_
 obtain rfl:=si h
 exact(gw2 [.bool f] (Ua tB))
def strings_HasPrefix (b:Str) (a:Str):Option Bool:=
 (stringslite_HasPrefix b a).bind fun c=>
 some c
theorem qeu (b:Str) (a:Str) {res:Bool} (h:strings_HasPrefix b a=some res):qb ZT (.fn 136) (kAO b a) [] (.bool res) []:=by
 unfold strings_HasPrefix at h
 refine Ub Tryz.func136 rfl rfl (m:=8) rfl (rs:=[.tmp 4]) rfl (l:=(kR b a [])) rfl ?_
 refine sh fol (kR b a []) ?_
 obtain⟨d,c,h⟩:=bnd h
 refine sq (gr fol [2] (kA1 d) (ac (cv (yF b a c)) az) ?_)
 refine Goes.ret ?_
 obtain rfl:=si h
 exact(gw2 [.bool d] (Ua tB))
def stringslite_TrimPrefix (b:Str) (a:Str):Option Str:=
 (stringslite_HasPrefix b a).bind fun c=>
 if c=true then
 (cut b (a.length:Int) (b.length:Int)).bind fun d=>
 some d
 else
 some b
theorem qcB (b:Str) (a:Str) {res:Str} (h:stringslite_TrimPrefix b a=some res):qb ZT (.fn 191) (kAO b a) [] (.str res) []:=by
 unfold stringslite_TrimPrefix at h
 refine Ub Tryz.func191 rfl rfl (m:=13) rfl (rs:=[.tmp 4]) rfl (l:=(kR b a [])) rfl ?_
 refine sh fol (kR b a []) ?_
 refine sq ?_
 obtain⟨f,c,h⟩:=bnd h
 refine sq (gr fol [2] (kR b a [(7,.bool f)]) (ac (cv (yF b a c)) az) ?_)
 refine ihB h (fun g h=>?_) (fun g h=>?_)
 ·obtain⟨e,d,h⟩:=bnd h
  refine sq (gr fol [3] (kAq e) (ac (hs (.done (.opt (qL ZT 9 (.str b) (some (.i (a.length:Int))) none none)) (.str e)) (zI st9 (some (a.length:Int)) none d)) az) ?_)
  refine Goes.ret ?_
  obtain rfl:=si h
  exact(gw2 [.str e] (Ua tS))
 refine Goes.skip ?_
 refine sh fol (kAq b) ?_
 refine Goes.ret ?_
 obtain rfl:=si h
 exact(gw2 [.str b] (Ua tS))
def strings_TrimPrefix (b:Str) (a:Str):Option Str:=
 (stringslite_TrimPrefix b a).bind fun c=>
 some c
theorem qbm (b:Str) (a:Str) {res:Str} (h:strings_TrimPrefix b a=some res):qb ZT (.fn 137) (kAO b a) [] (.str res) []:=by
 unfold strings_TrimPrefix at h
 refine Ub Tryz.func137 rfl rfl (m:=8) rfl (rs:=[.tmp 4]) rfl (l:=(kR b a [])) rfl ?_
 refine sh fol (kR b a []) ?_
 obtain⟨d,c,h⟩:=bnd h
 refine sq (gr fol [2] (kAq d) (ac (cv (qcB b a c)) az) ?_)
 refine Goes.ret ?_
 obtain rfl:=si h
 exact(gw2 [.str d] (Ua tS))
def xm (N:Nat):Nat->Int->(List Int)->Str->Option (Int×(List Int))
 |0,_,_,_=>none
 |K+1,j,k,a=>
  if(a.length:Int)>0 then
  (cut a 0 (if(a.length:Int)<18 then(a.length:Int)else 18)).bind fun c=>
  (qkz c).bind fun d=>
  (qad 10).bind fun e=>
  (qaY N e (if(a.length:Int)<18 then(a.length:Int)else 18)).bind fun f=>
  (qQ N (⟨j,k⟩:qj) f).bind fun g=>
  (qad d.1).bind fun h=>
  (jl N g h).bind fun b=>
  (cut a (if(a.length:Int)<18 then(a.length:Int)else 18) (a.length:Int)).bind fun i=>
  xm N K b.s b.w i
  else
  some (j,k)
def qae (N:Nat) (b:Str):Option qj:=
 (strings_HasPrefix b [45]).bind fun e=>
 (strings_TrimPrefix b [45]).bind fun f=>
 (xm N N 0 [] f).bind fun(c,d)=>
 if e=true then
 (zL (⟨c,d⟩:qj)).bind fun a=>
 some a
 else
 some (⟨c,d⟩:qj)
theorem qai (N:Nat) (g:Str) {res:qj} (h:qae N g=some res):qb ZT (.fn 66) [.str g] [] (.agg (nz1 res)) []:=by
 unfold qae at h
 refine Ub Tryz.func66 rfl rfl (m:=41) rfl (rs:=[.cell 2 85]) rfl (l:=(kAM g [])) rfl ?_
 refine sg fol (kAM g (kO [])) [bZ] ?_
 obtain⟨d,y,h⟩:=bnd h
 refine sq (gr fol [1] (kAM g (kO (kBQ d []))) (ac (cv (qeu g [45] y)) az) ?_)
 obtain⟨J,z,h⟩:=bnd h
 refine sq (gr fol [1] (kAM J (kO (kBQ d []))) (ac (cv (qbm g [45] z)) az) ?_)
 refine sg fol (kAM J (kO (kA3 d []))) [bZ,bZ] ?_
 refine sq (Goes.block ?_)
 obtain⟨K,g8,h⟩:=bnd h
 refine Goes.imp (Q:=fun x s'=>(x= .exit 0/\ ∃b c,(b,c)=K/\Sub s' (ofG 41 (kO (kA3 d [])),[bZ,.cells (ni1 b c)]))) ?_ ?_
 ·refine Uc (fun M s=> ∃(A:Int) (B:List Int) (a:Str),s=(ofG 41 (kAM a (kO (kA3 d []))),[bZ,.cells (ni1 A B)])/\xm N M A B a=some K) ?_ (m:=N) ⟨_,_,_,rfl,g8⟩
  rintro M s ⟨A,B,a,rfl,g8⟩
  cases M with
  |zero=>simp only[xm]at g8;cases g8
  |succ M=>
   rw[xm]at g8
   refine sq ?_
   refine sh fol (kAM a (kO (kA3 d (kBN (decide ((a.length:Int)>0)))))) ?_
   refine ihD g8 (fun L g8=>?_) (fun L g8=>?_)
   ·refine Goes.skip ?_
    refine Goes.block ?_
    refine sh fol (kAM a (kO (kA3 d (kBG (if(a.length:Int)<18 then(a.length:Int)else 18))))) ?_
    obtain⟨C,j,g8⟩:=bnd g8
    obtain⟨D,k,g8⟩:=bnd g8
    refine sq (gr fol [2,3] (kAM a (kO (kA3 d [(5,.i (if(a.length:Int)<18 then(a.length:Int)else 18)),(6,.i D.1)]))) (ac (hs (.done (.opt (qL ZT 9 (.str a) none (some (.i (if(a.length:Int)<18 then(a.length:Int)else 18))) none)) (.str C)) (zI st9 none (some (if(a.length:Int)<18 then(a.length:Int)else 18)) j)) (ac (cv (qnU C k)) az)) ?_)
    obtain⟨E,o,g8⟩:=bnd g8
    obtain⟨F,p,g8⟩:=bnd g8
    obtain⟨G,q,g8⟩:=bnd g8
    obtain⟨H,r,g8⟩:=bnd g8
    obtain⟨e,t,g8⟩:=bnd g8
    refine sq (gq fol [1,3,4,6,7,8] (kAM a (kO (kA3 d (kBG (if(a.length:Int)<18 then(a.length:Int)else 18))))) [bZ,.cells (nz1 e)] (ac (cv (vP 10 o)) (ac (cv (qew N E (if(a.length:Int)<18 then(a.length:Int)else 18) p)) (ac (cv (zO N (⟨A,B⟩:qj) F q)) (ac (cv (vP D.1 r)) (ac (cv (yO N G H t)) (ac (hs (.run [1] (qm ZT 85 (.ptr 1 0) (.agg (nz1 e))) [bZ,.cells (ni1 A B)] .undef [bZ,.cells (nz1 e)] true) (qK (n:=2) (by kernel_rfl) rfl rfl rfl rfl (cac rfl (cac nvc can)) rfl)) az)))))) ?_)
    obtain⟨u,v,g8⟩:=bnd g8
    refine gr fol [2] (kAM u (kO (kA3 d []))) (ac (hs (.done (.opt (qL ZT 9 (.str a) (some (.i (if(a.length:Int)<18 then(a.length:Int)else 18))) none none)) (.str u)) (zI st9 (some (if(a.length:Int)<18 then(a.length:Int)else 18)) none v)) az) ?_
    exact⟨M,(ofG 41 (kAM u (kO (kA3 d []))),[bZ,.cells (nz1 e)]),Nat.lt_succ_self _,(Sub.refl _),_,_,_,rfl,g8⟩
   refine Goes.exit ?_
   obtain rfl:=si g8
   exact⟨rfl,_,_,rfl,(Sub.keep [2,3,4] rfl rfl)⟩
 rintro x s' ⟨rfl,b,c,rfl,hsub⟩
 try dsimp only at h
 refine Goes.sub hsub ?_
 refine sq ?_
 refine sh fol (kO [(4,.ptr 1 0),(37,.bool d)]) ?_
 refine ihB h (fun I h=>?_) (fun I h=>?_)
 ·obtain⟨f,w,h⟩:=bnd h
  refine sq (gq fol [1,2] (kO []) [.cells (nz1 f),.cells (ni1 b c)] (ac (cv (yh (⟨b,c⟩:qj) w)) (ac (hs (.run [0] (qm ZT 85 (.ptr 0 0) (.agg (nz1 f))) [bZ,.cells (ni1 b c)] .undef [.cells (nz1 f),.cells (ni1 b c)] true) (qK (n:=2) (by kernel_rfl) rfl rfl rfl rfl (cac rfl (cac nvc can)) rfl)) az)) ?_)
  refine Goes.ret ?_
  obtain rfl:=si h
  exact(gw2 [.agg (nz1 f)] (FzW.agg (qc.cons (Ua tI) (qc.cons (Ua (qA (qa .u64) _ (nl rfl))) qc.nil))))
 refine Goes.skip ?_
 refine sq (gq fol [1] (kO []) [.cells (ni1 b c),.cells (ni1 b c)] (ac (hs (.run [0] (qm ZT 85 (.ptr 0 0) (.agg (ni1 b c))) [bZ,.cells (ni1 b c)] .undef [.cells (ni1 b c),.cells (ni1 b c)] true) (qK (n:=2) (by kernel_rfl) rfl rfl rfl rfl (cac rfl (cac nvc can)) rfl)) az) ?_)
 refine Goes.ret ?_
 obtain rfl:=si h
 exact(gw2 [.agg (ni1 b c)] (FzW.agg (qc.cons (Ua tI) (qc.cons (Ua (qA (qa .u64) _ (nl rfl))) qc.nil))))
def qb6 (n:qj):Option qY:=
 (qad 1).bind fun a=>
 some (⟨n,a⟩:qY)
theorem qft (n:qj) {res:qY} (h:qb6 n=some res):qb ZT (.fn 91) [.agg (nz1 n)] [] (.agg (nq1 res)) []:=by
 unfold qb6 at h
 refine Ub Tryz.func91 rfl rfl (m:=6) rfl (rs:=[.cell 2 87]) rfl (l:=[(0,.agg (nz1 n))]) rfl ?_
 refine sg fol (kAB []) (.cells (nz1 n)::(kE [])) ?_
 obtain⟨a,b,h⟩:=bnd h
 refine sq (gq fol [1,3] kBW [.cells (nz1 n),.cells (ni2 n.s n.w a.s a.w)] (ac (cv (vP 1 b)) (ac (hs (.run [1] (qm ZT 87 (.ptr 1 0) (.agg (ni2 n.s n.w a.s a.w))) (.cells (nz1 n)::(kE [])) .undef [.cells (nz1 n),.cells (ni2 n.s n.w a.s a.w)] true) (qK (n:=4) (by kernel_rfl) rfl rfl rfl rfl (cac rfl (cac nvc (cac rfl (cac nvc can)))) rfl)) az)) ?_)
 refine Goes.ret ?_
 obtain rfl:=si h
 exact(gw2 [.agg (ni2 n.s n.w a.s a.w)] (FzW.agg (qc.cons (Ua tI) (qc.cons (Ua (qA (qa .u64) _ (nl rfl))) (qc.cons (Ua tI) (qc.cons (Ua (qA (qa .u64) _ (nl rfl))) qc.nil))))))
def stringslite_IndexByte (a:Str) (c:Int):Option Int:=
 (qjl a c).bind fun b=>
 some b
theorem qcX (a:Str) (c:Int) {res:Int} (h:stringslite_IndexByte a c=some res):qb ZT (.fn 237) [.str a,.int .u8 c] [] (.i res) []:=by
 unfold stringslite_IndexByte at h
 refine Ub Tryz.func237 rfl rfl (m:=8) rfl (rs:=[.tmp 4]) rfl (l:=(kAM a [(1,.int .u8 c)])) rfl ?_
 refine sh fol (kAM a [(1,.int .u8 c)]) ?_
 obtain⟨d,b,h⟩:=bnd h
 refine sq (gr fol [2] [(4,.i d)] (ac (cv (qnf a c b)) az) ?_)
 refine Goes.ret ?_
 obtain rfl:=si h
 exact(gw2 [.i d] (Ua tI))
def stringslite_Index (a:Str) (substr:Str):Option Int:=
 (if(substr.length:Int)=0 then
 some true
 else
 some (substr==a):Option Bool).bind fun b=>
 if b=true then
 some 0
 else
 if(substr.length:Int)=1 then
 (idx substr 0).bind fun c=>
 (stringslite_IndexByte a (c.toNat:Int)).bind fun d=>
 some d
 else
 if(substr.length:Int)>=(a.length:Int)then
 some (-1)
 else
 none
theorem qeh (b:Str) (substr:Str) {res:Int} (h:stringslite_Index b substr=some res):qb ZT (.fn 213) (kAO b substr) [] (.i res) []:=by
 unfold stringslite_Index at h
 refine Ub Tryz.func213 rfl rfl (m:=143) rfl (rs:=[.tmp 4]) rfl (l:=(kR b substr [])) rfl ?_
 refine sh fol (kR b substr []) ?_
 refine sh fol (kR b substr (kBG (substr.length:Int))) ?_
 refine sq (Goes.block ?_)
 refine sq ?_
 obtain⟨j,a,h⟩:=bnd h
 refine Goes.cut (s':=(ofG 143 (kR b substr [(5,.i (substr.length:Int)),(16,.bool j)]),[])) ?_ ?_
 ·rcases wyD a with⟨e,a⟩|⟨e,a⟩
  ·obtain rfl:=si a
   exact tr fol [2] (kR b substr [(5,.i (substr.length:Int)),(16,.bool true)]) (ac (gw e) az)
  obtain rfl:=si a
  exact tr fol [2] (kR b substr [(5,.i (substr.length:Int)),(16,.bool (substr==b))]) (ac (gw e) az)
 refine ihB h (fun k h=>?_) (fun k h=>?_)
 ·refine sh fol [(4,.i 0)] ?_
  refine Goes.ret ?_
  obtain rfl:=si h
  exact(gw2 [.i 0] (Ua tI))
 refine sh fol (kR b substr [(5,.i (substr.length:Int)),(24,.bool (decide ((substr.length:Int)=1)))]) ?_
 refine ihD h (fun n h=>?_) (fun n h=>?_)
 ·obtain⟨f,c,h⟩:=bnd h
  obtain⟨g,d,h⟩:=bnd h
  refine sq (gr fol [2,3] [(4,.i g)] (ac (hs (.done (.opt (yj ZT 9 (.str substr) (.i 0))) (.int .u8 (f.toNat:Int))) (qaG st9 c)) (ac (cv (qcX b (f.toNat:Int) d)) az)) ?_)
  refine Goes.ret ?_
  obtain rfl:=si h
  exact(gw2 [.i g] (Ua tI))
 refine sh fol (kR b substr [(5,.i (substr.length:Int)),(31,.bool (decide ((substr.length:Int)>=(b.length:Int))))]) ?_
 refine ihD h (fun o h=>?_) (fun o h=>?_)
 ·refine sh fol [(4,.i (-1))] ?_
  refine Goes.ret ?_
  obtain rfl:=si h
  exact(gw2 [.i (-1)] (Ua tI))
 cases h
def stringslite_Cut (a:Str) (sep:Str):Option (Str×Str×Bool):=
 (stringslite_Index a sep).bind fun b=>
 if b>=0 then
 (cut a 0 b).bind fun c=>
 (cut a (w64 (b+(sep.length:Int))) (a.length:Int)).bind fun d=>
 some (c,d,true)
 else
 some (a,[],false)
theorem qe8 (a:Str) (sep:Str) {res:Str×Str×Bool} (h:stringslite_Cut a sep=some res):qb ZT (.fn 175) (kAO a sep) [] (.tuple [.str res.1,.str res.2.1,.bool res.2.2]) []:=by
 unfold stringslite_Cut at h
 refine Ub Tryz.func175 rfl rfl (m:=23) rfl (rs:=[.tmp 4,.tmp 5,.tmp 6]) rfl (l:=(kR a sep [])) rfl ?_
 refine sh fol (kR a sep []) ?_
 refine sq ?_
 obtain⟨b,c,h⟩:=bnd h
 refine sq (gr fol [2] (kR a sep [(7,.i b)]) (ac (cv (qeh a sep c)) az) ?_)
 refine sh fol (kR a sep ((7,.i b)::(kBE (decide (b>=0))))) ?_
 refine ihD h (fun j h=>?_) (fun j h=>?_)
 ·obtain⟨f,d,h⟩:=bnd h
  obtain⟨g,e,h⟩:=bnd h
  refine sq (gr fol [2,8] [(4,.str f),(5,.str g),(6,.bool true)] (ac (hs (.done (.opt (qL ZT 9 (.str a) none (some (.i b)) none)) (.str f)) (zI st9 none (some b) d)) (ac (hs (.done (.opt (qL ZT 9 (.str a) (some (.i (w64 (b+(sep.length:Int))))) none none)) (.str g)) (zI st9 (some (w64 (b+(sep.length:Int)))) none e)) az)) ?_)
  refine Goes.ret ?_
  obtain rfl:=si h
  exact(gw2 [.str f,.str g,.bool true] (FzW.tuple (qc.cons (Ua tS) (qc.cons (Ua tS) (qc.cons (Ua tB) qc.nil)))))
 refine Goes.skip ?_
 refine sh fol [(4,.str a),(5,.str []),(6,.bool false)] ?_
 refine Goes.ret ?_
 obtain rfl:=si h
 exact(gw2 [.str a,.str [],.bool false] (FzW.tuple (qc.cons (Ua tS) (qc.cons (Ua tS) (qc.cons (Ua tB) qc.nil)))))
def strings_Cut (b:Str) (sep:Str):Option (Str×Str×Bool):=
 (stringslite_Cut b sep).bind fun a=>
 some (a.1,a.2.1,a.2.2)
theorem qd9 (b:Str) (sep:Str) {res:Str×Str×Bool} (h:strings_Cut b sep=some res):qb ZT (.fn 117) (kAO b sep) [] (.tuple [.str res.1,.str res.2.1,.bool res.2.2]) []:=by
 unfold strings_Cut at h
 refine Ub Tryz.func117 rfl rfl (m:=13) rfl (rs:=[.tmp 4,.tmp 5,.tmp 6]) rfl (l:=(kR b sep [])) rfl ?_
 refine sh fol (kR b sep []) ?_
 obtain⟨a,c,h⟩:=bnd h
 refine sq (gr fol [2] ((4,.str a.1)::(kA5 a.2.1 a.2.2 [])) (ac (cv (qe8 b sep c)) az) ?_)
 refine Goes.ret ?_
 obtain rfl:=si h
 exact(gw2 [.str a.1,.str a.2.1,.bool a.2.2] (FzW.tuple (qc.cons (Ua tS) (qc.cons (Ua tS) (qc.cons (Ua tB) qc.nil)))))
def yQ (N:Nat) (a:Str):Option qY:=
 (strings_Cut a [47]).bind fun b=>
 if(!b.2.2)=true then
 (qae N b.1).bind fun c=>
 (qb6 c).bind fun d=>
 some d
 else
 (qae N b.1).bind fun e=>
 (qae N b.2.1).bind fun f=>
 some (⟨e,f⟩:qY)
theorem qaj (N:Nat) (a:Str) {res:qY} (h:yQ N a=some res):qb ZT (.fn 53) [.str a] [] (.agg (nq1 res)) []:=by
 unfold yQ at h
 refine Ub Tryz.func53 rfl rfl (m:=22) rfl (rs:=[.cell 2 87]) rfl (l:=(kAM a [])) rfl ?_
 refine sg fol (kAM a (kO [])) (kE []) ?_
 obtain⟨b,e,h⟩:=bnd h
 refine sq (gr fol [1] (kO [(3,.str b.1),(4,.str b.2.1),(5,.bool b.2.2)]) (ac (cv (qd9 a [47] e)) az) ?_)
 refine sq ?_
 refine sh fol (kO ((3,.str b.1)::(4,.str b.2.1)::(kBO (!b.2.2)))) ?_
 refine ihB h (fun o h=>?_) (fun o h=>?_)
 ·obtain⟨p,f,h⟩:=bnd h
  obtain⟨k,g,h⟩:=bnd h
  refine sq (gq fol [1,2,3] (kO []) [.cells (nq1 k)] (ac (cv (qai N b.1 f)) (ac (cv (qft p g)) (ac (hs (.run [0] (qm ZT 87 (.ptr 0 0) (.agg (nq1 k))) (kE []) .undef [.cells (nq1 k)] true) (qK (n:=4) (by kernel_rfl) rfl rfl rfl rfl (cac rfl (cac nvc (cac rfl (cac nvc can)))) rfl)) az))) ?_)
  refine Goes.ret ?_
  obtain rfl:=si h
  exact(gw2 [.agg (nq1 k)] (FzW.agg (qc.cons (Ua tI) (qc.cons (Ua (qA (qa .u64) _ (nl rfl))) (qc.cons (Ua tI) (qc.cons (Ua (qA (qa .u64) _ (nl rfl))) qc.nil))))))
 refine Goes.skip ?_
 obtain⟨c,i,h⟩:=bnd h
 obtain⟨d,j,h⟩:=bnd h
 refine sq (gq fol [1,3,5] (kO []) [.cells (ni2 c.s c.w d.s d.w)] (ac (cv (qai N b.1 i)) (ac (cv (qai N b.2.1 j)) (ac (hs (.run [0] (qm ZT 87 (.ptr 0 0) (.agg (ni2 c.s c.w d.s d.w))) (kE []) .undef [.cells (ni2 c.s c.w d.s d.w)] true) (qK (n:=4) (by kernel_rfl) rfl rfl rfl rfl (cac rfl (cac nvc (cac rfl (cac nvc can)))) rfl)) az))) ?_)
 refine Goes.ret ?_
 obtain rfl:=si h
 exact(gw2 [.agg (ni2 c.s c.w d.s d.w)] (FzW.agg (qc.cons (Ua tI) (qc.cons (Ua (qA (qa .u64) _ (nl rfl))) (qc.cons (Ua tI) (qc.cons (Ua (qA (qa .u64) _ (nl rfl))) qc.nil))))))
def qV (a:qj):Option Int:=
 some (if(if a.s<1 then a.s else 1)>(-1)then(if a.s<1 then a.s else 1)else(-1))
theorem jZ (a:qj) {res:Int} (h:qV a=some res):qb ZT (.fn 123) [.agg (nz1 a)] [] (.i res) []:=by
 unfold qV at h
 refine Ub Tryz.func123 rfl rfl (m:=7) rfl (rs:=[.tmp 2]) rfl (l:=[(0,.agg (nz1 a))]) rfl ?_
 refine sg fol (kAp []) [.cells (nz1 a)] ?_
 refine sh fol (kBF (if(if a.s<1 then a.s else 1)>(-1)then(if a.s<1 then a.s else 1)else(-1))) ?_
 refine Goes.ret ?_
 obtain rfl:=si h
 exact(gw2 [.i (if(if a.s<1 then a.s else 1)>(-1)then(if a.s<1 then a.s else 1)else(-1))] (Ua tI))
def xh (N:Nat) (a:qj) (b:qj):Option qj:=
 (zL b).bind fun c=>
 (jl N a c).bind fun d=>
 some d
theorem qel (N:Nat) (a:qj) (b:qj) {res:qj} (h:xh N a b=some res):qb ZT (.fn 179) [.agg (nz1 a),.agg (nz1 b)] [] (.agg (nz1 res)) []:=by
 unfold xh at h
 refine Ub Tryz.func179 rfl rfl (m:=9) rfl (rs:=[.cell 4 85]) rfl (l:=[(0,.agg (nz1 a)),(1,.agg (nz1 b))]) rfl ?_
 refine sg fol (kF []) [.cells (nz1 a),.cells (nz1 b),bZ] ?_
 obtain⟨f,c,h⟩:=bnd h
 obtain⟨e,d,h⟩:=bnd h
 refine sq (gq fol [2,3,4] (kAR []) [.cells (nz1 a),.cells (nz1 b),.cells (nz1 e)] (ac (cv (yh b c)) (ac (cv (yO N a f d)) (ac (hs (.run [2] (qm ZT 85 (.ptr 2 0) (.agg (nz1 e))) [.cells (nz1 a),.cells (nz1 b),bZ] .undef [.cells (nz1 a),.cells (nz1 b),.cells (nz1 e)] true) (qK (n:=2) (by kernel_rfl) rfl rfl rfl rfl (cac rfl (cac nvc can)) rfl)) az))) ?_)
 refine Goes.ret ?_
 obtain rfl:=si h
 exact(gw2 [.agg (nz1 e)] (FzW.agg (qc.cons (Ua tI) (qc.cons (Ua (qA (qa .u64) _ (nl rfl))) qc.nil))))
def vG (N:Nat) (a:qj) (b:qj):Option Int:=
 (if a.w.isEmpty=true then
 some b.w.isEmpty
 else
 some false:Option Bool).bind fun c=>
 if c=true then
 if a.s<b.s then
 some (-1)
 else
 if a.s>b.s then
 some 1
 else
 some 0
 else
 (xh N a b).bind fun d=>
 (qV d).bind fun e=>
 some e
theorem yX (N:Nat) (a:qj) (b:qj) {res:Int} (h:vG N a b=some res):qb ZT (.fn 119) [.agg (nz1 a),.agg (nz1 b)] [] (.i res) []:=by
 unfold vG at h
 refine Ub Tryz.func119 rfl rfl (m:=29) rfl (rs:=[.tmp 4]) rfl (l:=[(0,.agg (nz1 a)),(1,.agg (nz1 b))]) rfl ?_
 refine sg fol (kO (kAV [])) [.cells (nz1 a),.cells (nz1 b)] ?_
 refine sq ?_
 refine sq ?_
 obtain⟨j,c,h⟩:=bnd h
 refine Goes.cut (s':=(ofG 29 (kO (kAV (kBE j))),[.cells (nz1 a),.cells (nz1 b)])) ?_ ?_
 ·rcases wyB c with⟨f,c⟩|⟨f,c⟩
  ·obtain rfl:=si c
   exact tr fol [2,3,6] (kO (kAV (kBE b.w.isEmpty))) (ac (hs (.done (.opt (qR ZT .eql 83 (.tmp 6) (.const (.slice none 0 0)) (nvl (qa .u64) a.w) .nilslice)) (.bool a.w.isEmpty)) (qaL qaF)) (ac (gw f) (ac (hs (.done (.opt (qR ZT .eql 83 (.tmp 10) (.const (.slice none 0 0)) (nvl (qa .u64) b.w) .nilslice)) (.bool b.w.isEmpty)) (qaL qaF)) az)))
  obtain rfl:=si c
  exact tr fol [2,3] (kO (kAV [(12,.bool false)])) (ac (hs (.done (.opt (qR ZT .eql 83 (.tmp 6) (.const (.slice none 0 0)) (nvl (qa .u64) a.w) .nilslice)) (.bool a.w.isEmpty)) (qaL qaF)) (ac (gw f) az))
 refine ihB h (fun k h=>?_) (fun k h=>?_)
 ·refine sq (Goes.block ?_)
  refine sh fol (kO (kAV (kBO (decide (a.s<b.s))))) ?_
  refine ihD h (fun n h=>?_) (fun n h=>?_)
  ·refine sh fol [(4,.i (-1))] ?_
   refine Goes.ret ?_
   obtain rfl:=si h
   exact(gw2 [.i (-1)] (Ua tI))
  refine sh fol [(19,.bool (decide (a.s>b.s)))] ?_
  refine ihD h (fun o h=>?_) (fun o h=>?_)
  ·refine sh fol [(4,.i 1)] ?_
   refine Goes.ret ?_
   obtain rfl:=si h
   exact(gw2 [.i 1] (Ua tI))
  refine Goes.skip ?_
  refine sh fol [(4,.i 0)] ?_
  refine Goes.ret ?_
  obtain rfl:=si h
  exact(gw2 [.i 0] (Ua tI))
 refine Goes.skip ?_
 obtain⟨p,d,h⟩:=bnd h
 obtain⟨g,e,h⟩:=bnd h
 refine sq (gr fol [2,3] [(4,.i g)] (ac (cv (qel N a b d)) (ac (cv (jZ p e)) az)) ?_)
 refine Goes.ret ?_
 obtain rfl:=si h
 exact(gw2 [.i g] (Ua tI))
def yC (N:Nat) (a:qY) (b:qY):Option Int:=
 (qQ N a.Num b.Den).bind fun c=>
 (qQ N b.Num a.Den).bind fun d=>
 (vG N c d).bind fun e=>
 some e
theorem qbQ (N:Nat) (a:qY) (b:qY) {res:Int} (h:yC N a b=some res):qb ZT (.fn 54) [.agg (nq1 a),.agg (nq1 b)] [] (.i res) []:=by
 unfold yC at h
 refine Ub Tryz.func54 rfl rfl (m:=16) rfl (rs:=[.tmp 4]) rfl (l:=[(0,.agg (nq1 a)),(1,.agg (nq1 b))]) rfl ?_
 refine sg fol (kO (kAV [])) [.cells (nq1 a),.cells (nq1 b)] ?_
 obtain⟨g,c,h⟩:=bnd h
 obtain⟨j,d,h⟩:=bnd h
 obtain⟨f,e,h⟩:=bnd h
 refine sq (gr fol [4,9,10] [(4,.i f)] (ac (cv (zO N a.Num b.Den c)) (ac (cv (zO N b.Num a.Den d)) (ac (cv (yX N g j e)) az))) ?_)
 refine Goes.ret ?_
 obtain rfl:=si h
 exact(gw2 [.i f] (Ua tI))
def ku (holds:Bool) (e:Int):Option Int:=
 if holds=true then
 some e
 else
 some 0
theorem y7 (holds:Bool) (e:Int) {res:Int} (h:ku holds e=some res):qb ZT (.fn 96) [.bool holds,.i e] [] (.i res) []:=by
 unfold ku at h
 refine Ub Tryz.func96 rfl rfl (m:=7) rfl (rs:=[.tmp 4]) rfl (l:=[(0,.bool holds),(1,.i e)]) rfl ?_
 refine sh fol [(0,.bool holds),(1,.i e)] ?_
 refine sq ?_
 refine sh fol [(1,.i e),(5,.bool holds)] ?_
 refine ihB h (fun a h=>?_) (fun a h=>?_)
 ·refine sh fol [(4,.i e)] ?_
  refine Goes.ret ?_
  obtain rfl:=si h
  exact(gw2 [.i e] (Ua tI))
 refine Goes.skip ?_
 refine sh fol [(4,.i 0)] ?_
 refine Goes.ret ?_
 obtain rfl:=si h
 exact(gw2 [.i 0] (Ua tI))
def stringslite_CutPrefix (b:Str) (a:Str):Option (Str×Bool):=
 (stringslite_HasPrefix b a).bind fun c=>
 if(!c)=true then
 some (b,false)
 else
 (cut b (a.length:Int) (b.length:Int)).bind fun d=>
 some (d,true)
theorem qcR (b:Str) (a:Str) {res:Str×Bool} (h:stringslite_CutPrefix b a=some res):qb ZT (.fn 180) (kAO b a) [] (.tuple [.str res.1,.bool res.2]) []:=by
 unfold stringslite_CutPrefix at h
 refine Ub Tryz.func180 rfl rfl (m:=15) rfl (rs:=[.tmp 4,.tmp 5]) rfl (l:=(kR b a [])) rfl ?_
 refine sh fol (kR b a []) ?_
 refine sq ?_
 obtain⟨f,c,h⟩:=bnd h
 refine sq (gr fol [2] (kR b a [(9,.bool (!f))]) (ac (cv (yF b a c)) az) ?_)
 refine ihB h (fun g h=>?_) (fun g h=>?_)
 ·refine sh fol [(4,.str b),(5,.bool false)] ?_
  refine Goes.ret ?_
  obtain rfl:=si h
  exact(gw2 [.str b,.bool false] (FzW.tuple (qc.cons (Ua tS) (qc.cons (Ua tB) qc.nil))))
 refine Goes.skip ?_
 obtain⟨e,d,h⟩:=bnd h
 refine sq (gr fol [3] [(4,.str e),(5,.bool true)] (ac (hs (.done (.opt (qL ZT 9 (.str b) (some (.i (a.length:Int))) none none)) (.str e)) (zI st9 (some (a.length:Int)) none d)) az) ?_)
 refine Goes.ret ?_
 obtain rfl:=si h
 exact(gw2 [.str e,.bool true] (FzW.tuple (qc.cons (Ua tS) (qc.cons (Ua tB) qc.nil))))
def strings_CutPrefix (c:Str) (a:Str):Option (Str×Bool):=
 (stringslite_CutPrefix c a).bind fun b=>
 some (b.1,b.2)
theorem qee (b:Str) (a:Str) {res:Str×Bool} (h:strings_CutPrefix b a=some res):qb ZT (.fn 120) (kAO b a) [] (.tuple [.str res.1,.bool res.2]) []:=by
 unfold strings_CutPrefix at h
 refine Ub Tryz.func120 rfl rfl (m:=11) rfl (rs:=[.tmp 4,.tmp 5]) rfl (l:=(kR b a [])) rfl ?_
 refine sh fol (kR b a []) ?_
 obtain⟨d,c,h⟩:=bnd h
 refine sq (gr fol [2] [(4,.str d.1),(5,.bool d.2)] (ac (cv (qcR b a c)) az) ?_)
 refine Goes.ret ?_
 obtain rfl:=si h
 exact(gw2 [.str d.1,.bool d.2] (FzW.tuple (qc.cons (Ua tS) (qc.cons (Ua tB) qc.nil))))
def jC (a:Str):Option Bool:=
 (if(!(a==[]))=true then
 (qkU a [48,49,50,51,52,53,54,55,56,57]).bind fun b=>
 if(b==[])=true then
 (idx a 0).bind fun c=>
 if(!decide ((c.toNat:Int)=48))=true then
 some true
 else
 some (a==[48])
 else
 some false
 else
 some false:Option Bool).bind fun d=>
 some d
theorem jh (c:Str) {res:Bool} (h:jC c=some res):qb ZT (.fn 121) [.str c] [] (.bool res) []:=by
 unfold jC at h
 refine Ub Tryz.func121 rfl rfl (m:=19) rfl (rs:=[.tmp 2]) rfl (l:=(kAM c [])) rfl ?_
 refine sh fol (kAM c []) ?_
 refine sq ?_
 obtain⟨j,a,h⟩:=bnd h
 refine Goes.cut (s':=(ofG 19 [(2,.bool j)],[])) ?_ ?_
 ·rcases wyB a with⟨e,a⟩|⟨e,a⟩
  ·obtain⟨n,b,a⟩:=bnd a
   rcases wyB a with⟨f,a⟩|⟨f,a⟩
   ·obtain⟨k,d,a⟩:=bnd a
    rcases wyB a with⟨g,a⟩|⟨g,a⟩
    ·obtain rfl:=si a
     exact tr fol [2,4,7,9,11] [(2,.bool true)] (ac (gw e) (ac (cv (qhm c [48,49,50,51,52,53,54,55,56,57] b)) (ac (gw f) (ac (hs (.done (.opt (yj ZT 9 (.str c) (.i 0))) (.int .u8 (k.toNat:Int))) (qaG st9 d)) (ac (gw g) az)))))
    obtain rfl:=si a
    exact tr fol [2,4,7,9,11] [(2,.bool (c==[48]))] (ac (gw e) (ac (cv (qhm c [48,49,50,51,52,53,54,55,56,57] b)) (ac (gw f) (ac (hs (.done (.opt (yj ZT 9 (.str c) (.i 0))) (.int .u8 (k.toNat:Int))) (qaG st9 d)) (ac (gw g) az)))))
   obtain rfl:=si a
   exact tr fol [2,4,7] kBY (ac (gw e) (ac (cv (qhm c [48,49,50,51,52,53,54,55,56,57] b)) (ac (gw f) az)))
  obtain rfl:=si a
  exact tr fol [2] kBY (ac (gw e) az)
 refine Goes.ret ?_
 obtain rfl:=si h
 exact(gw2 [.bool j] (Ua tB))
def bits_Len64 (a:Int):Option Int:=
 ((if a>=4294967296 then
 some (qp .u64 a 32,32)
 else
 some (a,0):Option (Int×Int))).bind fun(b,f)=>
 ((if b>=65536 then
 some (qp .u64 b 16,w64 (f+16))
 else
 some (b,f):Option (Int×Int))).bind fun(c,g)=>
 ((if c>=256 then
 some (qp .u64 c 8,w64 (g+8))
 else
 some (c,g):Option (Int×Int))).bind fun(h,d)=>
 (idx ([0,1,2,2,3,3,3,3,4,4,4,4,4,4,4,4,5,5,5,5,5,5,5,5,5,5,5,5,5,5,5,5,6,6,6,6,6,6,6,6,6,6,6,6,6,6,6,6,6,6,6,6,6,6,6,6,6,6,6,6,6,6,6,6,7,7,7,7,7,7,7,7,7,7,7,7,7,7,7,7,7,7,7,7,7,7,7,7,7,7,7,7,7,7,7,7,7,7,7,7,7,7,7,7,7,7,7,7,7,7,7,7,7,7,7,7,7,7,7,7,7,7,7,7,7,7,7,7,8,8,8,8,8,8,8,8,8,8,8,8,8,8,8,8,8,8,8,8,8,8,8,8,8,8,8,8,8,8,8,8,8,8,8,8,8,8,8,8,8,8,8,8,8,8,8,8,8,8,8,8,8,8,8,8,8,8,8,8,8,8,8,8,8,8,8,8,8,8,8,8,8,8,8,8,8,8,8,8,8,8,8,8,8,8,8,8,8,8,8,8,8,8,8,8,8,8,8,8,8,8,8,8,8,8,8,8,8,8,8,8,8,8,8,8,8,8,8,8,8,8,8,8,8,8,8,8]:Str) (IntKind.wrap .u8 h)).bind fun e=>
 some (w64 (d+(w64 (e.toNat:Int))))
theorem qeT (b:Int) {res:Int} (h:bits_Len64 b=some res):qb ZT (.fn 186) [.int .u64 b] [] (.i res) []:=by
 unfold bits_Len64 at h
 refine Ub Tryz.func186 rfl rfl (m:=25) rfl (rs:=[.tmp 2]) rfl (l:=(kBS b [])) rfl ?_
 refine sh fol (kBS b [(2,.i 0)]) ?_
 refine sq ?_
 refine sh fol (kBS b ((2,.i 0)::(kA1 (decide (b>=4294967296))))) ?_
 obtain⟨p,g3,h⟩:=bnd h
 refine Goes.imp (Q:=fun x s'=>(x= .normal/\ ∃c g,(c,g)=p/\Sub s' (ofG 25 (kBS c (kBF g)),[]))) ?_ ?_
 ·refine ihD g3 (fun q g3=>?_) (fun q g3=>?_)
  ·refine sh fol (kBS (qp .u64 b 32) []) ?_
   refine gh fol (kBS (qp .u64 b 32) [(2,.i 32)]) ?_
   obtain rfl:=si g3
   exact⟨rfl,_,_,rfl,(Sub.refl _)⟩
  refine Goes.skip ?_
  obtain rfl:=si g3
  exact⟨rfl,_,_,rfl,(Sub.keep [0,2] rfl rfl)⟩
 rintro x s' ⟨rfl,c,g,rfl,hsub⟩
 try dsimp only at h
 refine Goes.sub hsub ?_
 refine sq ?_
 refine sh fol (kBS c ((2,.i g)::(kAw (decide (c>=65536))))) ?_
 obtain⟨r,g7,h⟩:=bnd h
 refine Goes.imp (Q:=fun x s'=>(x= .normal/\ ∃d j,(d,j)=r/\Sub s' (ofG 25 (kBS d (kBF j)),[]))) ?_ ?_
 ·refine ihD g7 (fun s g7=>?_) (fun s g7=>?_)
  ·refine sh fol (kBS (qp .u64 c 16) (kBF g)) ?_
   refine gh fol (kBS (qp .u64 c 16) (kBF (w64 (g+16)))) ?_
   obtain rfl:=si g7
   exact⟨rfl,_,_,rfl,(Sub.refl _)⟩
  refine Goes.skip ?_
  obtain rfl:=si g7
  exact⟨rfl,_,_,rfl,(Sub.keep [0,2] rfl rfl)⟩
 rintro x s' ⟨rfl,d,j,rfl,hsub⟩
 try dsimp only at h
 refine Goes.sub hsub ?_
 refine sq ?_
 refine sh fol (kBS d [(2,.i j),(14,.bool (decide (d>=256)))]) ?_
 obtain⟨n,g11,h⟩:=bnd h
 refine Goes.imp (Q:=fun x s'=>(x= .normal/\ ∃k a,(k,a)=n/\Sub s' (ofG 25 (kBS k (kBF a)),[]))) ?_ ?_
 ·refine ihD g11 (fun o g11=>?_) (fun o g11=>?_)
  ·refine sh fol (kBS (qp .u64 d 8) (kBF j)) ?_
   refine gh fol (kBS (qp .u64 d 8) (kBF (w64 (j+8)))) ?_
   obtain rfl:=si g11
   exact⟨rfl,_,_,rfl,(Sub.refl _)⟩
  refine Goes.skip ?_
  obtain rfl:=si g11
  exact⟨rfl,_,_,rfl,(Sub.keep [0,2] rfl rfl)⟩
 rintro x s' ⟨rfl,k,a,rfl,hsub⟩
 try dsimp only at h
 refine Goes.sub hsub ?_
 obtain⟨e,f,h⟩:=bnd h
 refine sq (gr fol [3] (kBF (w64 (a+(w64 (e.toNat:Int))))) (ac (hs (.done (.opt (yj ZT 9 (.str [0,1,2,2,3,3,3,3,4,4,4,4,4,4,4,4,5,5,5,5,5,5,5,5,5,5,5,5,5,5,5,5,6,6,6,6,6,6,6,6,6,6,6,6,6,6,6,6,6,6,6,6,6,6,6,6,6,6,6,6,6,6,6,6,7,7,7,7,7,7,7,7,7,7,7,7,7,7,7,7,7,7,7,7,7,7,7,7,7,7,7,7,7,7,7,7,7,7,7,7,7,7,7,7,7,7,7,7,7,7,7,7,7,7,7,7,7,7,7,7,7,7,7,7,7,7,7,7,8,8,8,8,8,8,8,8,8,8,8,8,8,8,8,8,8,8,8,8,8,8,8,8,8,8,8,8,8,8,8,8,8,8,8,8,8,8,8,8,8,8,8,8,8,8,8,8,8,8,8,8,8,8,8,8,8,8,8,8,8,8,8,8,8,8,8,8,8,8,8,8,8,8,8,8,8,8,8,8,8,8,8,8,8,8,8,8,8,8,8,8,8,8,8,8,8,8,8,8,8,8,8,8,8,8,8,8,8,8,8,8,8,8,8,8,8,8,8,8,8,8,8,8,8,8,8,8]) (.int .u8 (IntKind.wrap .u8 k)))) (.int .u8 (e.toNat:Int))) (qaG st9 f)) az) ?_)
 refine Goes.ret ?_
 obtain rfl:=si h
 exact(gw2 [.i (w64 (a+(w64 (e.toNat:Int))))] (Ua tI))
def bits_LeadingZeros64 (a:Int):Option Int:=
 (bits_Len64 a).bind fun b=>
 some (w64 (64-b))
theorem qbc (a:Int) {res:Int} (h:bits_LeadingZeros64 a=some res):qb ZT (.fn 224) [.int .u64 a] [] (.i res) []:=by
 unfold bits_LeadingZeros64 at h
 refine Ub Tryz.func224 rfl rfl (m:=6) rfl (rs:=[.tmp 2]) rfl (l:=(kBS a [])) rfl ?_
 refine sh fol (kBS a []) ?_
 obtain⟨c,b,h⟩:=bnd h
 refine sq (gr fol [1] (kBF (w64 (64-c))) (ac (cv (qeT a b)) az) ?_)
 refine Goes.ret ?_
 obtain rfl:=si h
 exact(gw2 [.i (w64 (64-c))] (Ua tI))
def yH (d:Int) (c:Int):Nat->Int->Int->Option Int
 |0,_,_=>none
 |K+1,a,b=>
  (if a>=4294967296 then
  some true
  else
  some (decide ((IntKind.wrap .u64 (a*(qy .u64 d 4294967295)))>(IntKind.wrap .u64 ((IntKind.wrap .u64 (4294967296*b))+(qp .u64 c 32))))):Option Bool).bind fun e=>
  if e=true then
  if(IntKind.wrap .u64 (b+(qp .u64 d 32)))>=4294967296 then
  some (IntKind.wrap .u64 (a-1))
  else
  yH d c K (IntKind.wrap .u64 (a-1)) (IntKind.wrap .u64 (b+(qp .u64 d 32)))
  else
  some a
def yJ (d:Int) (c:Int):Nat->Int->Int->Option Int
 |0,_,_=>none
 |K+1,b,a=>
  (if a>=4294967296 then
  some true
  else
  some (decide ((IntKind.wrap .u64 (a*(qy .u64 d 4294967295)))>(IntKind.wrap .u64 ((IntKind.wrap .u64 (4294967296*b))+(qy .u64 c 4294967295))))):Option Bool).bind fun e=>
  if e=true then
  if(IntKind.wrap .u64 (b+(qp .u64 d 32)))>=4294967296 then
  some (IntKind.wrap .u64 (a-1))
  else
  yJ d c K (IntKind.wrap .u64 (b+(qp .u64 d 32))) (IntKind.wrap .u64 (a-1))
  else
  some a
def qaT (N:Nat) (hi:Int) (lo:Int) (y:Int):Option (Int×Int):=
 ((if y=0 then
 none
 else
 some ():Option Unit)).bind fun _=>
 ((if y<=hi then
 none
 else
 some ():Option Unit)).bind fun _=>
 if hi=0 then
 (qcp .u64 lo y).bind fun k=>
 (qei .u64 lo y).bind fun l=>
 some (k,l)
 else
 (bits_LeadingZeros64 y).bind fun f=>
 (qie .u64 y (IntKind.wrap .u64 f)).bind fun d=>
 (qie .u64 hi (IntKind.wrap .u64 f)).bind fun b=>
 (qj2 .u64 lo (IntKind.wrap .u64 (64-(IntKind.wrap .u64 f)))).bind fun c=>
 (qie .u64 lo (IntKind.wrap .u64 f)).bind fun a=>
 (qcp .u64 (orI .u64 b c) (qp .u64 d 32)).bind fun g=>
 (yH d a N g (IntKind.wrap .u64 ((orI .u64 b c)-(IntKind.wrap .u64 (g*(qp .u64 d 32)))))).bind fun e=>
 (qcp .u64 (IntKind.wrap .u64 ((IntKind.wrap .u64 ((IntKind.wrap .u64 ((orI .u64 b c)*4294967296))+(qp .u64 a 32)))-(IntKind.wrap .u64 (e*d)))) (qp .u64 d 32)).bind fun h=>
 (yJ d a N (IntKind.wrap .u64 ((IntKind.wrap .u64 ((IntKind.wrap .u64 ((IntKind.wrap .u64 ((orI .u64 b c)*4294967296))+(qp .u64 a 32)))-(IntKind.wrap .u64 (e*d))))-(IntKind.wrap .u64 (h*(qp .u64 d 32))))) h).bind fun i=>
 (qj2 .u64 (IntKind.wrap .u64 ((IntKind.wrap .u64 ((IntKind.wrap .u64 ((IntKind.wrap .u64 ((IntKind.wrap .u64 ((IntKind.wrap .u64 ((orI .u64 b c)*4294967296))+(qp .u64 a 32)))-(IntKind.wrap .u64 (e*d))))*4294967296))+(qy .u64 a 4294967295)))-(IntKind.wrap .u64 (i*d)))) (IntKind.wrap .u64 f)).bind fun j=>
 some (IntKind.wrap .u64 ((IntKind.wrap .u64 (e*4294967296))+i),j)
theorem qeV (N:Nat) (hi:Int) (lo:Int) (y:Int) {res:Int×Int} (h:qaT N hi lo y=some res):qb ZT (.fn 223) (.int .u64 hi::(kBb lo y)) [] (.tuple (kBb res.1 res.2)) []:=by
 unfold qaT at h
 refine Ub Tryz.func223 rfl rfl (m:=135) rfl (rs:=[.tmp 6,.tmp 7]) rfl (l:=(kY hi lo [(2,.int .u64 y)])) rfl ?_
 refine sh fol (kY hi lo [(2,.int .u64 y)]) ?_
 refine sq ?_
 refine sh fol (kY hi lo [(2,.int .u64 y),(20,.bool (decide (y=0)))]) ?_
 obtain⟨Z,g1,h⟩:=bnd h
 refine Goes.imp (Q:=fun x s'=>(x= .normal/\()=Z/\Sub s' (ofG 135 (kY hi lo [(2,.int .u64 y)]),[]))) ?_ ?_
 ·refine ihD g1 (fun c2 g1=>?_) (fun c2 g1=>?_)
  ·cases g1
  refine Goes.skip ?_
  obtain rfl:=si g1
  exact⟨rfl,rfl,(Sub.keep [0,1,2] rfl rfl)⟩
 rintro x s' ⟨rfl,rfl,hsub⟩
 refine Goes.sub hsub ?_
 refine sq ?_
 refine sh fol (kY hi lo [(2,.int .u64 y),(24,.bool (decide (y<=hi)))]) ?_
 obtain⟨r3,g3,h⟩:=bnd h
 refine Goes.imp (Q:=fun x s'=>(x= .normal/\()=r3/\Sub s' (ofG 135 (kY hi lo [(2,.int .u64 y)]),[]))) ?_ ?_
 ·refine ihD g3 (fun c4 g3=>?_) (fun c4 g3=>?_)
  ·cases g3
  refine Goes.skip ?_
  obtain rfl:=si g3
  exact⟨rfl,rfl,(Sub.keep [0,1,2] rfl rfl)⟩
 rintro x s' ⟨rfl,rfl,hsub⟩
 refine Goes.sub hsub ?_
 refine sq ?_
 refine sh fol (kY hi lo [(2,.int .u64 y),(27,.bool (decide (hi=0)))]) ?_
 refine ihD h (fun c5 h=>?_) (fun c5 h=>?_)
 ·obtain⟨K,E,h⟩:=bnd h
  obtain⟨L,F,h⟩:=bnd h
  refine sq (gr fol [2,5] (kAT K (kAk L [])) (ac (hs (.done (.opt (qR ZT .quo 197 (.tmp 28) (.tmp 29) (.int .u64 lo) (.int .u64 y))) (.int .u64 K)) (qbY E)) (ac (hs (.done (.opt (qR ZT .rem 197 (.tmp 31) (.tmp 32) (.int .u64 lo) (.int .u64 y))) (.int .u64 L)) (qfP F)) az)) ?_)
  refine Goes.ret ?_
  obtain rfl:=si h
  exact(gw2 (kBb K L) (FzW.tuple (qc.cons (Ua tI) (qc.cons (Ua tI) qc.nil))))
 refine Goes.skip ?_
 obtain⟨f,G,h⟩:=bnd h
 refine sq (gr fol [1] (kY hi lo [(2,.int .u64 y),(8,.int .u64 (IntKind.wrap .u64 f))]) (ac (cv (qbc y G)) az) ?_)
 obtain⟨b,H,h⟩:=bnd h
 refine sq (gr fol [2] (kY hi lo [(2,.int .u64 b),(8,.int .u64 (IntKind.wrap .u64 f))]) (ac (hs (.done (.opt (qR ZT .shl 197 (.tmp 37) (.tmp 38) (.int .u64 y) (.int .u64 (IntKind.wrap .u64 f)))) (.int .u64 b)) (qfI H)) az) ?_)
 refine sh fol (kY hi lo [(2,.int .u64 b),(8,.int .u64 (IntKind.wrap .u64 f)),(9,.int .u64 (qp .u64 b 32))]) ?_
 refine sh fol (kY hi lo (kJ b (IntKind.wrap .u64 f) (qp .u64 b 32) (qy .u64 b 4294967295) [])) ?_
 obtain⟨c,t,h⟩:=bnd h
 obtain⟨d,u,h⟩:=bnd h
 refine sq (gr fol [2,6] ((1,.int .u64 lo)::(kJ b (IntKind.wrap .u64 f) (qp .u64 b 32) (qy .u64 b 4294967295) [(11,.int .u64 (orI .u64 c d))])) (ac (hs (.done (.opt (qR ZT .shl 197 (.tmp 44) (.tmp 45) (.int .u64 hi) (.int .u64 (IntKind.wrap .u64 f)))) (.int .u64 c)) (qfI t)) (ac (hs (.done (.opt (qR ZT .shr 197 (.tmp 47) (.tmp 49) (.int .u64 lo) (.int .u64 (IntKind.wrap .u64 (64-(IntKind.wrap .u64 f)))))) (.int .u64 d)) (qgS u)) az)) ?_)
 obtain⟨a,v,h⟩:=bnd h
 refine sq (gr fol [2] (kJ b (IntKind.wrap .u64 f) (qp .u64 b 32) (qy .u64 b 4294967295) (kZ (orI .u64 c d) a [])) (ac (hs (.done (.opt (qR ZT .shl 197 (.tmp 52) (.tmp 53) (.int .u64 lo) (.int .u64 (IntKind.wrap .u64 f)))) (.int .u64 a)) (qfI v)) az) ?_)
 refine sh fol (kJ b (IntKind.wrap .u64 f) (qp .u64 b 32) (qy .u64 b 4294967295) (kZ (orI .u64 c d) a [(13,.int .u64 (qp .u64 a 32))])) ?_
 refine sh fol (kJ b (IntKind.wrap .u64 f) (qp .u64 b 32) (qy .u64 b 4294967295) (kAY (orI .u64 c d) (qp .u64 a 32) [(14,.int .u64 (qy .u64 a 4294967295))])) ?_
 obtain⟨q,w,h⟩:=bnd h
 refine sq (gr fol [2] (kJ b (IntKind.wrap .u64 f) (qp .u64 b 32) (qy .u64 b 4294967295) (kAY (orI .u64 c d) (qp .u64 a 32) (kA8 (qy .u64 a 4294967295) q []))) (ac (hs (.done (.opt (qR ZT .quo 197 (.tmp 59) (.tmp 60) (.int .u64 (orI .u64 c d)) (.int .u64 (qp .u64 b 32)))) (.int .u64 q)) (qbY w)) az) ?_)
 refine sh fol (kJ b (IntKind.wrap .u64 f) (qp .u64 b 32) (qy .u64 b 4294967295) (kAY (orI .u64 c d) (qp .u64 a 32) (kS (qy .u64 a 4294967295) q (IntKind.wrap .u64 ((orI .u64 c d)-(IntKind.wrap .u64 (q*(qp .u64 b 32))))) []))) ?_
 refine sq (Goes.block ?_)
 obtain⟨I,g17,h⟩:=bnd h
 refine Goes.imp (Q:=fun x s'=>(x= .exit 0/\ ∃e,e=I/\Sub s' (ofG 135 (kJ b (IntKind.wrap .u64 f) (qp .u64 b 32) (qy .u64 b 4294967295) (kAY (orI .u64 c d) (qp .u64 a 32) (kA8 (qy .u64 a 4294967295) e []))),[]))) ?_ ?_
 ·refine Uc (fun M s=> ∃(j:Int) (g:Int),s=(ofG 135 (kJ b (IntKind.wrap .u64 f) (qp .u64 b 32) (qy .u64 b 4294967295) (kAY (orI .u64 c d) (qp .u64 a 32) (kS (qy .u64 a 4294967295) j g []))),[])/\yH b a M j g=some I) ?_ (m:=N) ⟨_,_,rfl,g17⟩
  rintro M s ⟨j,g,rfl,g17⟩
  cases M with
  |zero=>simp only[yH]at g17;cases g17
  |succ M=>
   rw[yH]at g17
   refine sq ?_
   refine sq ?_
   obtain⟨O,k,g17⟩:=bnd g17
   refine Goes.cut (s':=(ofG 135 (kJ b (IntKind.wrap .u64 f) (qp .u64 b 32) (qy .u64 b 4294967295) (kAY (orI .u64 c d) (qp .u64 a 32) (kS (qy .u64 a 4294967295) j g [(78,.bool O)]))),[])) ?_ ?_
   ·rcases wyD k with⟨z,k⟩|⟨z,k⟩
    ·obtain rfl:=si k
     exact tr fol [2] (kJ b (IntKind.wrap .u64 f) (qp .u64 b 32) (qy .u64 b 4294967295) (kAY (orI .u64 c d) (qp .u64 a 32) (kS (qy .u64 a 4294967295) j g [(78,.bool true)]))) (ac (gw z) az)
    obtain rfl:=si k
    exact tr fol [2] (kJ b (IntKind.wrap .u64 f) (qp .u64 b 32) (qy .u64 b 4294967295) (kAY (orI .u64 c d) (qp .u64 a 32) (kS (qy .u64 a 4294967295) j g [(78,.bool (decide ((IntKind.wrap .u64 (j*(qy .u64 b 4294967295)))>(IntKind.wrap .u64 ((IntKind.wrap .u64 (4294967296*g))+(qp .u64 a 32))))))]))) (ac (gw z) az)
   refine ihB g17 (fun P g17=>?_) (fun P g17=>?_)
   ·refine Goes.skip ?_
    refine Goes.block ?_
    refine sh fol (kJ b (IntKind.wrap .u64 f) (qp .u64 b 32) (qy .u64 b 4294967295) (kAY (orI .u64 c d) (qp .u64 a 32) (kS (qy .u64 a 4294967295) (IntKind.wrap .u64 (j-1)) g []))) ?_
    refine sh fol (kJ b (IntKind.wrap .u64 f) (qp .u64 b 32) (qy .u64 b 4294967295) (kAY (orI .u64 c d) (qp .u64 a 32) (kS (qy .u64 a 4294967295) (IntKind.wrap .u64 (j-1)) (IntKind.wrap .u64 (g+(qp .u64 b 32))) []))) ?_
    refine sh fol (kJ b (IntKind.wrap .u64 f) (qp .u64 b 32) (qy .u64 b 4294967295) (kAY (orI .u64 c d) (qp .u64 a 32) (kS (qy .u64 a 4294967295) (IntKind.wrap .u64 (j-1)) (IntKind.wrap .u64 (g+(qp .u64 b 32))) [(85,.bool (decide ((IntKind.wrap .u64 (g+(qp .u64 b 32)))>=4294967296)))]))) ?_
    refine ihD g17 (fun U g17=>?_) (fun U g17=>?_)
    ·refine Goes.exit ?_
     obtain rfl:=si g17
     exact⟨rfl,_,rfl,(Sub.keep [2,8,9,10,11,13,14,15] rfl rfl)⟩
    refine Goes.skip ?_
    exact⟨M,(ofG 135 (kJ b (IntKind.wrap .u64 f) (qp .u64 b 32) (qy .u64 b 4294967295) (kAY (orI .u64 c d) (qp .u64 a 32) (kS (qy .u64 a 4294967295) (IntKind.wrap .u64 (j-1)) (IntKind.wrap .u64 (g+(qp .u64 b 32))) []))),[]),Nat.lt_succ_self _,(Sub.keep [2,8,9,10,11,13,14,15,16] rfl rfl),_,_,rfl,g17⟩
   refine Goes.exit ?_
   obtain rfl:=si g17
   exact⟨rfl,_,rfl,(Sub.keep [2,8,9,10,11,13,14,15] rfl rfl)⟩
 rintro x s' ⟨rfl,e,rfl,hsub⟩
 refine Goes.sub hsub ?_
 refine sh fol (kJ b (IntKind.wrap .u64 f) (qp .u64 b 32) (qy .u64 b 4294967295) (kA8 (qy .u64 a 4294967295) e [(17,.int .u64 (IntKind.wrap .u64 ((IntKind.wrap .u64 ((IntKind.wrap .u64 ((orI .u64 c d)*4294967296))+(qp .u64 a 32)))-(IntKind.wrap .u64 (e*b)))))])) ?_
 obtain⟨r,A,h⟩:=bnd h
 refine sq (gr fol [2] (kJ b (IntKind.wrap .u64 f) (qp .u64 b 32) (qy .u64 b 4294967295) (kA8 (qy .u64 a 4294967295) e (kAd (IntKind.wrap .u64 ((IntKind.wrap .u64 ((IntKind.wrap .u64 ((orI .u64 c d)*4294967296))+(qp .u64 a 32)))-(IntKind.wrap .u64 (e*b)))) r []))) (ac (hs (.done (.opt (qR ZT .quo 197 (.tmp 94) (.tmp 95) (.int .u64 (IntKind.wrap .u64 ((IntKind.wrap .u64 ((IntKind.wrap .u64 ((orI .u64 c d)*4294967296))+(qp .u64 a 32)))-(IntKind.wrap .u64 (e*b))))) (.int .u64 (qp .u64 b 32)))) (.int .u64 r)) (qbY A)) az) ?_)
 refine sh fol (kJ b (IntKind.wrap .u64 f) (qp .u64 b 32) (qy .u64 b 4294967295) (kS (qy .u64 a 4294967295) e (IntKind.wrap .u64 ((IntKind.wrap .u64 ((IntKind.wrap .u64 ((IntKind.wrap .u64 ((orI .u64 c d)*4294967296))+(qp .u64 a 32)))-(IntKind.wrap .u64 (e*b))))-(IntKind.wrap .u64 (r*(qp .u64 b 32))))) (kAd (IntKind.wrap .u64 ((IntKind.wrap .u64 ((IntKind.wrap .u64 ((orI .u64 c d)*4294967296))+(qp .u64 a 32)))-(IntKind.wrap .u64 (e*b)))) r []))) ?_
 refine sq (Goes.block ?_)
 obtain⟨J,g27,h⟩:=bnd h
 refine Goes.imp (Q:=fun x s'=>(x= .exit 2/\ ∃p,p=J/\Sub s' (ofG 135 ((2,.int .u64 b)::(8,.int .u64 (IntKind.wrap .u64 f))::(kA8 (qy .u64 a 4294967295) e (kAd (IntKind.wrap .u64 ((IntKind.wrap .u64 ((IntKind.wrap .u64 ((orI .u64 c d)*4294967296))+(qp .u64 a 32)))-(IntKind.wrap .u64 (e*b)))) p []))),[]))) ?_ ?_
 ·refine Uc (fun M s=> ∃(i:Int) (n:Int),s=(ofG 135 (kJ b (IntKind.wrap .u64 f) (qp .u64 b 32) (qy .u64 b 4294967295) (kS (qy .u64 a 4294967295) e i (kAd (IntKind.wrap .u64 ((IntKind.wrap .u64 ((IntKind.wrap .u64 ((orI .u64 c d)*4294967296))+(qp .u64 a 32)))-(IntKind.wrap .u64 (e*b)))) n []))),[])/\yJ b a M i n=some J) ?_ (m:=N) ⟨_,_,rfl,g27⟩
  rintro M s ⟨i,n,rfl,g27⟩
  cases M with
  |zero=>simp only[yJ]at g27;cases g27
  |succ M=>
   rw[yJ]at g27
   refine sq ?_
   refine sq ?_
   obtain⟨V,o,g27⟩:=bnd g27
   refine Goes.cut (s':=(ofG 135 (kJ b (IntKind.wrap .u64 f) (qp .u64 b 32) (qy .u64 b 4294967295) (kS (qy .u64 a 4294967295) e i (kAd (IntKind.wrap .u64 ((IntKind.wrap .u64 ((IntKind.wrap .u64 ((orI .u64 c d)*4294967296))+(qp .u64 a 32)))-(IntKind.wrap .u64 (e*b)))) n [(113,.bool V)]))),[])) ?_ ?_
   ·rcases wyD o with⟨B,o⟩|⟨B,o⟩
    ·obtain rfl:=si o
     exact tr fol [2] (kJ b (IntKind.wrap .u64 f) (qp .u64 b 32) (qy .u64 b 4294967295) (kS (qy .u64 a 4294967295) e i (kAd (IntKind.wrap .u64 ((IntKind.wrap .u64 ((IntKind.wrap .u64 ((orI .u64 c d)*4294967296))+(qp .u64 a 32)))-(IntKind.wrap .u64 (e*b)))) n [(113,.bool true)]))) (ac (gw B) az)
    obtain rfl:=si o
    exact tr fol [2] (kJ b (IntKind.wrap .u64 f) (qp .u64 b 32) (qy .u64 b 4294967295) (kS (qy .u64 a 4294967295) e i (kAd (IntKind.wrap .u64 ((IntKind.wrap .u64 ((IntKind.wrap .u64 ((orI .u64 c d)*4294967296))+(qp .u64 a 32)))-(IntKind.wrap .u64 (e*b)))) n [(113,.bool (decide ((IntKind.wrap .u64 (n*(qy .u64 b 4294967295)))>(IntKind.wrap .u64 ((IntKind.wrap .u64 (4294967296*i))+(qy .u64 a 4294967295))))))]))) (ac (gw B) az)
   refine ihB g27 (fun X g27=>?_) (fun X g27=>?_)
   ·refine Goes.skip ?_
    refine Goes.block ?_
    refine sh fol (kJ b (IntKind.wrap .u64 f) (qp .u64 b 32) (qy .u64 b 4294967295) (kS (qy .u64 a 4294967295) e i (kAd (IntKind.wrap .u64 ((IntKind.wrap .u64 ((IntKind.wrap .u64 ((orI .u64 c d)*4294967296))+(qp .u64 a 32)))-(IntKind.wrap .u64 (e*b)))) (IntKind.wrap .u64 (n-1)) []))) ?_
    refine sh fol (kJ b (IntKind.wrap .u64 f) (qp .u64 b 32) (qy .u64 b 4294967295) (kS (qy .u64 a 4294967295) e (IntKind.wrap .u64 (i+(qp .u64 b 32))) (kAd (IntKind.wrap .u64 ((IntKind.wrap .u64 ((IntKind.wrap .u64 ((orI .u64 c d)*4294967296))+(qp .u64 a 32)))-(IntKind.wrap .u64 (e*b)))) (IntKind.wrap .u64 (n-1)) []))) ?_
    refine sh fol (kJ b (IntKind.wrap .u64 f) (qp .u64 b 32) (qy .u64 b 4294967295) (kS (qy .u64 a 4294967295) e (IntKind.wrap .u64 (i+(qp .u64 b 32))) (kAd (IntKind.wrap .u64 ((IntKind.wrap .u64 ((IntKind.wrap .u64 ((orI .u64 c d)*4294967296))+(qp .u64 a 32)))-(IntKind.wrap .u64 (e*b)))) (IntKind.wrap .u64 (n-1)) [(120,.bool (decide ((IntKind.wrap .u64 (i+(qp .u64 b 32)))>=4294967296)))]))) ?_
    refine ihD g27 (fun Y g27=>?_) (fun Y g27=>?_)
    ·refine Goes.exit ?_
     obtain rfl:=si g27
     exact⟨rfl,_,rfl,(Sub.keep [2,8,14,15,17,18] rfl rfl)⟩
    refine Goes.skip ?_
    exact⟨M,(ofG 135 (kJ b (IntKind.wrap .u64 f) (qp .u64 b 32) (qy .u64 b 4294967295) (kS (qy .u64 a 4294967295) e (IntKind.wrap .u64 (i+(qp .u64 b 32))) (kAd (IntKind.wrap .u64 ((IntKind.wrap .u64 ((IntKind.wrap .u64 ((orI .u64 c d)*4294967296))+(qp .u64 a 32)))-(IntKind.wrap .u64 (e*b)))) (IntKind.wrap .u64 (n-1)) []))),[]),Nat.lt_succ_self _,(Sub.keep [2,8,9,10,14,15,16,17,18] rfl rfl),_,_,rfl,g27⟩
   refine Goes.exit ?_
   obtain rfl:=si g27
   exact⟨rfl,_,rfl,(Sub.keep [2,8,14,15,17,18] rfl rfl)⟩
 rintro x s' ⟨rfl,p,rfl,hsub⟩
 refine Goes.sub hsub ?_
 obtain⟨C,D,h⟩:=bnd h
 refine sq (gr fol [13] (kAT (IntKind.wrap .u64 ((IntKind.wrap .u64 (e*4294967296))+p)) (kAk C [])) (ac (hs (.done (.opt (qR ZT .shr 197 (.tmp 132) (.tmp 133) (.int .u64 (IntKind.wrap .u64 ((IntKind.wrap .u64 ((IntKind.wrap .u64 ((IntKind.wrap .u64 ((IntKind.wrap .u64 ((IntKind.wrap .u64 ((orI .u64 c d)*4294967296))+(qp .u64 a 32)))-(IntKind.wrap .u64 (e*b))))*4294967296))+(qy .u64 a 4294967295)))-(IntKind.wrap .u64 (p*b))))) (.int .u64 (IntKind.wrap .u64 f)))) (.int .u64 C)) (qgS D)) az) ?_)
 refine Goes.ret ?_
 obtain rfl:=si h
 exact(gw2 (kBb (IntKind.wrap .u64 ((IntKind.wrap .u64 (e*4294967296))+p)) C) (FzW.tuple (qc.cons (Ua tI) (qc.cons (Ua tI) qc.nil))))
end Go.Av
