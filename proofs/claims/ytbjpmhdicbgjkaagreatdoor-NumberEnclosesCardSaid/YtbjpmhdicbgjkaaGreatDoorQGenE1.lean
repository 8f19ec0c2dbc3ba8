/-
  Walks of functions: what each computes, as a plain function.
-/
import Derived.Test.YtbjpmhdicbgjkaaGreatDoorAvJnE
noncomputable section
namespace Go.Av
open Go.Proofs Go.RowKit
abbrev ZT:=Tryz.prog
set_option linter.unusedSectionVars false
set_option linter.unusedVariables false
set_option linter.unusedSimpArgs false
set_option maxRecDepth 100000
theorem fol:Tryz.prog.follows .mixedOrders=true:=by kernel_rfl
structure qO where
 neg:Bool
 w:List Int
def qkz:Enc qO:=(encB.prod (qnV encI)).comap fun x=>(x.neg,x.w)
instance:SE qkz:=⟨nl rfl⟩
structure qo where
 s:Int
 w:List Int
def qju:Enc qo:=(encI.prod (encN (qa .u64))).comap fun x=>(x.s,x.w)
instance:SE qju:=⟨nl rfl⟩
structure qh where
 Num:qo
 Den:qo
def qd:Enc qh:=(qju.prod qju).comap fun x=>(x.Num,x.Den)
instance:SE qd:=⟨nl rfl⟩
structure qqC where
 X:Str
 Y:Str
def qmJ:Enc qqC:=(encS.prod encS).comap fun x=>(x.X,x.Y)
instance:SE qmJ:=⟨nl rfl⟩
structure qnc where
 n:qh
 d:qh
def qjl:Enc qnc:=(qd.prod qd).comap fun x=>(x.n,x.d)
instance:SE qjl:=⟨nl rfl⟩
structure qA where
 Low:Str
 High:Str
def qk7:Enc qA:=(encS.prod encS).comap fun x=>(x.Low,x.High)
instance:SE qk7:=⟨nl rfl⟩
structure qiR where
 A:Int
 B:Int
def qnY:Enc qiR:=((qa .u8).prod (qa .u8)).comap fun x=>(x.A,x.B)
instance:SE qnY:=⟨nl rfl⟩
abbrev kA {α3:Type} {α4:Type} (a:List Int) (b:List Int) (c:Int) (d:List α3) (e:List α4) (f:Int) (x:List (Nat×AV)):List (Nat×AV):=(8,vl encI a)::(9,vl encI b)::(10,.i c)::(11,.oslice 0 d.length 1)::(12,.slice 1 0 e.length e.length 1)::(13,.i f)::x
abbrev kB (a:Str) (b:Str) (x:List Blk):List Blk:= .cells [.str a,.str b]::x
abbrev kC (a:List qh) (x:List Blk):List Blk:= .cells [.str [],.str []]:: .cells (a.flatMap qd.c)::x
abbrev kD (x:List Blk):List Blk:= .cells [.i 0,.nilslice,.i 0,.nilslice]::x
abbrev kE {α0:Type} (a:List α0) (b:List qh) (c:Int) (d:Int) (e:List qh) (f:Int) (x:List (Nat×AV)):List (Nat×AV):=(4,.ptr 0 0)::(6,.ptr 1 0)::(8,.gslice 2 a.length 4)::(10,.ptr 3 0)::(18,vl qd b)::(19,.i c)::(20,.i d)::(29,vl qd e)::(30,.i f)::x
abbrev kF (a:List Int) (x:List Blk):List Blk:= .cells (a.flatMap encI.c)::x
abbrev kG {α0:Type} (a:List α0) (x:List (Nat×AV)):List (Nat×AV):=(5,.slice 0 0 a.length a.length 1)::x
abbrev kH (x:List (Nat×AV)):List (Nat×AV):=(2,.ptr 0 0)::(3,.ptr 1 0)::(4,.ptr 2 0)::x
abbrev kI {α0:Type} {α2:Type} (a:List α0) (b:Int) (c:List α2) (x:List (Nat×AV)):List (Nat×AV):=(11,.slice 0 0 a.length a.length 1)::(12,.i b)::(13,.slice 1 0 c.length c.length 1)::x
abbrev kJ (a:Str) (b:Str) (x:List (Nat×AV)):List (Nat×AV):=(0,.str a)::(1,.str b)::x
abbrev kK (a:List Int) (b:List Int) (x:List (Nat×AV)):List (Nat×AV):=(0,vl encI a)::(1,vl encI b)::x
abbrev kL {α0:Type} (a:List α0) (b:List qh) (c:Int) (d:Int) (x:List (Nat×AV)):List (Nat×AV):=(4,.ptr 0 0)::(6,.ptr 1 0)::(8,.gslice 2 a.length 4)::(18,vl qd b)::(19,.i c)::(20,.i d)::x
abbrev kM (a:Int) (b:Int) (c:Int) (d:Int) (x:List (Nat×AV)):List (Nat×AV):=(2,.int .u64 a)::(8,.int .u64 b)::(9,.int .u64 c)::(10,.int .u64 d)::x
abbrev kN (x:List Blk):List Blk:= .cells [.str [],.str []]::x
abbrev kO (a:Bool) (b:List Int) (c:Bool) (d:List Int) (x:List Blk):List Blk:= .cells [.bool a,vl encI b]:: .cells [.bool c,vl encI d]::x
abbrev kQ (x:List (Nat×AV)):List (Nat×AV):=(3,.ptr 0 0)::(4,.ptr 1 0)::x
abbrev kR (x:List (Nat×AV)):List (Nat×AV):=(2,.ptr 0 0)::(3,.ptr 1 0)::x
abbrev kS (a:Str) (b:Str) (x:List AV):List AV:= .agg [.str a,.str b]::x
abbrev kU (x:List Blk):List Blk:= .cells [.bool false,.nilslice]::x
abbrev kV {α0:Type} (a:List α0) (b:List qh) (c:Int) (d:Int) (e:List qh) (f:Int) (x:List (Nat×AV)):List (Nat×AV):=(4,.ptr 0 0)::(6,.ptr 1 0)::(8,.gslice 6 a.length 4)::(10,.ptr 3 0)::(18,vl qd b)::(19,.i c)::(20,.i d)::(29,vl qd e)::(30,.i f)::x
abbrev kX (a:Int) (b:Int) (c:Int) (x:List (Nat×AV)):List (Nat×AV):=(14,.int .u64 a)::(15,.int .u64 b)::(16,.int .u64 c)::x
abbrev kY (x:List (Nat×AV)):List (Nat×AV):=(4,.ptr 0 0)::x
abbrev kZ (a:Int) (b:Int) (x:List (Nat×AV)):List (Nat×AV):=(5,.i a)::(6,.int .u64 b)::x
abbrev kAA {α0:Type} (a:List α0) (x:List (Nat×AV)):List (Nat×AV):=(6,.slice 0 0 a.length a.length 1)::x
abbrev kAB (a:Str) (b:Bool) (x:List (Nat×AV)):List (Nat×AV):=(0,.str a)::(2,.ptr 0 0)::(3,.bool b)::x
abbrev kAC (a:Str) (b:Str) (c:Str) (d:Str) (x:List (Nat×AV)):List (Nat×AV):=(0,.agg [.str a,.str b])::(1,.agg [.str c,.str d])::x
abbrev kAD (a:List qh) (b:Int):List (Nat×AV):=[(4,.ptr 1 0),(6,.ptr 2 0),(8,.nilslice),(18,vl qd a),(19,.i b),(20,.i 0)]
abbrev kAE (a:Int) (b:Int):List Blk:=[.cells [.i a,.i b]]
abbrev kAH (x:List (Nat×AV)):List (Nat×AV):=(1,.ptr 0 0)::(2,.ptr 1 0)::x
abbrev kAJ (a:Int) (b:Int) (x:List (Nat×AV)):List (Nat×AV):=(0,.int .u64 a)::(1,.int .u64 b)::x
abbrev kAL (a:Int) (b:Int) (x:List (Nat×AV)):List (Nat×AV):=(21,.i a)::(22,.i b)::x
abbrev kAM (x:List (Nat×AV)):List (Nat×AV):=(2,.ptr 0 0)::x
abbrev kAN (a:Int) (b:Int) (x:List (Nat×AV)):List (Nat×AV):=(11,.int .u64 a)::(12,.int .u64 b)::x
abbrev kAO (a:Int) (b:Int) (x:List (Nat×AV)):List (Nat×AV):=(7,.int .u64 a)::(8,.int .u64 b)::x
abbrev kAP (a:List qh):List Blk:=[.cells (a.flatMap qd.c)]
abbrev kAQ (a:Str) (x:List (Nat×AV)):List (Nat×AV):=(0,.str a)::x
abbrev kAR (a:Str) (b:Str):List AV:=[.str a,.str b]
abbrev kAS {α0:Type} (a:List α0) (x:List (Nat×AV)):List (Nat×AV):=(6,.gslice 0 a.length 1)::x
abbrev kAT:List (Nat×AV):=[(4,.bool false)]
abbrev kAU (x:List (Nat×AV)):List (Nat×AV):=(4,.ptr 2 0)::x
abbrev kAV (a:Int) (b:Int) (x:List (Nat×AV)):List (Nat×AV):=(6,.i a)::(7,.i b)::x
abbrev kAW (a:Bool) (b:List Int) (x:List Blk):List Blk:= .cells [.bool a,vl encI b]::x
abbrev kAX (a:Str) (b:Str) (c:Bool) (x:List (Nat×AV)):List (Nat×AV):=(5,.str a)::(6,.str b)::(7,.bool c)::x
abbrev kAY (a:List Str) (x:List Blk):List Blk:= .cells (a.flatMap encS.c)::x
abbrev kAZ {α0:Type} (a:List α0) (x:List (Nat×AV)):List (Nat×AV):=(6,.ptr 1 0)::(8,.gslice 2 a.length 4)::(10,.ptr 3 0)::x
abbrev kAa {α0:Type} (a:List α0) (b:List Str) (c:Int) (x:List (Nat×AV)):List (Nat×AV):=(3,.slice 0 0 a.length a.length 4)::(9,vl encS b)::(10,.i c)::x
abbrev kAb (a:Str) (b:Str) (x:List (Nat×AV)):List (Nat×AV):=(7,.str a)::(8,.str b)::x
abbrev kAc (a:Int) (b:Int) (x:List (Nat×AV)):List (Nat×AV):=(0,.i a)::(1,.i b)::x
abbrev kAe (a:Int) (x:List (Nat×AV)):List (Nat×AV):=(6,.int .u64 a)::x
abbrev kAg (a:Int) (b:Int):List (Nat×AV):=[(13,.i a),(14,.i b)]
abbrev kAh (a:Int) (b:Int):List (Nat×AV):=[(7,.i a),(8,.i b)]
abbrev kAi (a:List qh) (b:Int) (x:List (Nat×AV)):List (Nat×AV):=(18,vl qd a)::(19,.i b)::x
abbrev kAj (a:List qh):List Blk:=[.frozen (a.flatMap qd.c)]
abbrev kAk {α0:Type} (a:List α0) (x:List (Nat×AV)):List (Nat×AV):=(5,.gslice 0 a.length 1)::x
abbrev kAl (a:Bool):List (Nat×AV):=[(4,.bool a)]
abbrev kAm (a:Int) (b:Int) (x:List (Nat×AV)):List (Nat×AV):=(11,.int .u64 a)::(13,.int .u64 b)::x
abbrev kAn (a:List Int) (x:List (Nat×AV)):List (Nat×AV):=(0,vl encI a)::x
abbrev kAo (a:Str) (b:Str):List Blk:=[.frozen [.str a,.str b]]
abbrev kAp (a:List Int):List Blk:=[.frozen (a.flatMap encI.c)]
abbrev kAq (a:Int) (b:Int) (x:List (Nat×AV)):List (Nat×AV):=(17,.int .u64 a)::(18,.int .u64 b)::x
abbrev kAr (a:Bool) (b:List Int):List AV:=[.bool a,vl encI b]
abbrev kAs {α3:Type} (a:List Int) (b:List Int) (c:Int) (d:List α3) (x:List (Nat×AV)):List (Nat×AV):=(8,vl encI a)::(9,vl encI b)::(10,.i c)::(11,.oslice 0 d.length 1)::x
abbrev kAt (x:List (Nat×AV)):List (Nat×AV):=(4,.ptr 1 0)::(5,.ptr 2 0)::x
abbrev kAu (a:List qh) (x:List (Nat×AV)):List (Nat×AV):=(0,vl qd a)::x
abbrev kAv (a:Int) (x:List (Nat×AV)):List (Nat×AV):=(7,.int .u64 a)::x
abbrev kAw (a:Int):List (Nat×AV):=[(6,.ptr 0 0),(7,.i a)]
abbrev kAy (a:Bool) (b:List Int) (c:Bool) (d:List Int):List AV:=[.agg [.bool a,vl encI b],.agg [.bool c,vl encI d]]
abbrev kAz (a:Bool):List (Nat×AV):=[(8,.bool a)]
abbrev kA1 (a:Int) (b:Int) (c:Int) (x:List (Nat×AV)):List (Nat×AV):=(14,.i a)::(15,.i b)::(16,.i c)::x
abbrev kA2 (x:List (Nat×AV)):List (Nat×AV):=(1,.ptr 0 0)::x
abbrev kA3 (a:Int) (x:List (Nat×AV)):List (Nat×AV):=(5,.ptr 1 0)::(6,.i a)::x
abbrev kA4 (a:List Str) (b:Int) (x:List (Nat×AV)):List (Nat×AV):=(0,vl encS a)::(3,.i b)::x
abbrev kA5 (a:Int):List (Nat×AV):=[(5,.i a)]
abbrev kA6 (a:Str) (b:Int) (x:List (Nat×AV)):List (Nat×AV):=(3,.str a)::(4,.i b)::x
abbrev kA7:List (Nat×AV):=[(2,.bool false)]
abbrev kA8 (a:Int) (b:Int) (c:Int) (d:Int) (x:List (Nat×AV)):List (Nat×AV):=(2,.i a)::(7,.i b)::(9,.i c)::(10,.i d)::x
abbrev kA9 (a:Str) (b:Int):List AV:=[.str a,.i b]
abbrev kBA (a:Int) (b:Int) (x:List (Nat×AV)):List (Nat×AV):=(8,.i a)::(9,.i b)::x
abbrev kBC (a:Int) (b:Int) (x:List Blk):List Blk:= .cells [.int .u8 a,.int .u8 b]::x
abbrev kBD:List (Nat×AV):=[(6,.bool false)]
abbrev kBE (x:List (Nat×AV)):List (Nat×AV):=(6,.ptr 1 0)::(8,.gslice 2 ([]:List qh).length 4)::x
abbrev kBF (x:List (Nat×AV)):List (Nat×AV):=(6,.ptr 2 0)::x
abbrev kBG (a:Int) (b:Int):List (Nat×AV):=[(104,.i a),(105,.i b)]
abbrev kBH (a:Int) (b:Int):List (Nat×AV):=[(28,.i a),(29,.i b)]
abbrev kBI:List (Nat×AV):=[(8,.bool false)]
abbrev kBJ (a:Int) (b:Int) (c:Int) (x:List (Nat×AV)):List (Nat×AV):=(17,.int .u64 a)::(156,.i b)::(157,.i c)::x
abbrev kBL:List Blk:=[.cells (([]:List qh).flatMap qd.c)]
abbrev kBM (a:Int):List (Nat×AV):=[(2,.i a)]
abbrev kBN (a:Str) (b:Bool) (x:List (Nat×AV)):List (Nat×AV):=(5,.str a)::(6,.bool b)::x
abbrev kBO (a:Int) (b:Int):List (Nat×AV):=[(96,.i a),(97,.i b)]
abbrev kBP (a:Int):List Blk:=[.cells [.i a,.nilslice]]
abbrev kBR (a:Int) (b:Int) (x:List (Nat×AV)):List (Nat×AV):=(14,.int .u64 a)::(15,.int .u64 b)::x
abbrev kBS (a:Int):List (Nat×AV):=[(3,.i a)]
abbrev kBT (a:Bool):List (Nat×AV):=[(13,.bool a)]
abbrev kBU (a:Bool):List (Nat×AV):=[(12,.bool a)]
abbrev kBV (a:Bool):List (Nat×AV):=[(10,.bool a)]
abbrev kBW (x:List (Nat×AV)):List (Nat×AV):=(14,.ptr 4 0)::(15,.ptr 5 0)::x
abbrev kBX:List (Nat×AV):=[(2,.ptr 1 0)]
abbrev kBY:List Blk:=[.cells (([]:List Int).flatMap encI.c)]
abbrev kBZ (x:List AV):List AV:= .agg [.str [],.str []]::x
abbrev kBa (a:Bool):List (Nat×AV):=[(15,.bool a)]
abbrev kBb (a:Str):List (Nat×AV):=[(4,.str a)]
abbrev kBc (x:List (Nat×AV)):List (Nat×AV):=(5,.ptr 3 0)::x
abbrev kBd (a:Int) (x:List Blk):List Blk:= .dead:: .cells [.i a]::x
abbrev kBf (a:Int) (b:Int) (x:List (Nat×AV)):List (Nat×AV):=(5,.i a)::(6,.i b)::x
abbrev kBg (a:List Int) (b:List Int):List AV:=[vl encI a,vl encI b]
abbrev kBh (a:Bool):List (Nat×AV):=[(14,.bool a)]
abbrev kBj (a:List Int) (x:List (Nat×AV)):List (Nat×AV):=(5,vl encI a)::x
abbrev kBl {α0:Type} (a:List α0) (x:List (Nat×AV)):List (Nat×AV):=(3,.gslice 1 a.length 1)::x
abbrev kBm (x:List (Nat×AV)):List (Nat×AV):=(4,.ptr 1 0)::x
abbrev kBn (x:List (Nat×AV)):List (Nat×AV):=(6,.ptr 0 0)::x
abbrev kBp (a:List Str) (x:List (Nat×AV)):List (Nat×AV):=(0,vl encS a)::x
abbrev kBq (a:Bool):List (Nat×AV):=[(2,.bool a)]
abbrev kBr (a:Bool) (b:List Int) (c:Bool) (d:List Int):List (Nat×AV):=[(0,.agg [.bool a,vl encI b]),(1,.agg [.bool c,vl encI d])]
abbrev kBs (a:Str):List (Nat×AV):=[(2,.str a)]
abbrev kBt (a:Int) (x:List (Nat×AV)):List (Nat×AV):=(0,.int .u64 a)::x
abbrev kBu (a:Int):List (Nat×AV):=[(14,.i a)]
abbrev kBw (a:Int):List (Nat×AV):=[(8,.i a)]
abbrev kBx (x:List (Nat×AV)):List (Nat×AV):=(5,.ptr 1 0)::x
abbrev kBy (a:Int):List (Nat×AV):=[(31,.i a)]
abbrev kBz:List (Nat×AV):=[(35,.bool true)]
abbrev kB0:List (Nat×AV):=[(31,.i 0)]
abbrev kB2 (x:List (Nat×AV)):List (Nat×AV):=(10,.ptr 1 0)::x
abbrev kB3:List (Nat×AV):=[(2,.i 0)]
abbrev kB4 (a:Int):List (Nat×AV):=[(6,.i a)]
abbrev kB5 (a:Int) (b:Int):List AV:=[.int .u64 a,.int .u64 b]
abbrev kB6:List (Nat×AV):=[(106,.bool true)]
abbrev kB7 (a:Int):List (Nat×AV):=[(4,.i a)]
abbrev kB8 (x:List (Nat×AV)):List (Nat×AV):=(8,.int .u64 0)::x
abbrev nz1 (x:qo):List AV:=ni1 x.s x.w
abbrev nq1 (x:qh):List AV:=ni2 x.Num.s x.Num.w x.Den.s x.Den.w
theorem vG:SlT ZT 85 3 1 8:=⟨by kernel_rfl,by kernel_rfl,by kernel_rfl,by kernel_rfl⟩
theorem ce3:CeT ZT 3:=⟨by kernel_rfl,by kernel_rfl⟩
theorem st9:Tryz.prog.underlying 9=some .string:=by kernel_rfl
theorem qlc:Tryz.prog.underlying 23=some .string:=by kernel_rfl
theorem sl169:SlT ZT 169 29 1 8:=⟨by kernel_rfl,by kernel_rfl,by kernel_rfl,by kernel_rfl⟩
theorem ce29:CeT ZT 29:=⟨by kernel_rfl,by kernel_rfl⟩
theorem yA:Tryz.prog.underlying 104=some (.slice 212):=by kernel_rfl
theorem qV:SlT ZT 104 212 1 8:=⟨by kernel_rfl,by kernel_rfl,by kernel_rfl,by kernel_rfl⟩
theorem z8:CeT ZT 212:=⟨by kernel_rfl,by kernel_rfl⟩
theorem sl56:SlT ZT 56 23 1 16:=⟨by kernel_rfl,by kernel_rfl,by kernel_rfl,by kernel_rfl⟩
theorem ce23:CeT ZT 23:=⟨by kernel_rfl,by kernel_rfl⟩
theorem qqh:SlT ZT 244 9 1 16:=⟨by kernel_rfl,by kernel_rfl,by kernel_rfl,by kernel_rfl⟩
theorem ce9:CeT ZT 9:=⟨by kernel_rfl,by kernel_rfl⟩
theorem qqi:EqT ZT 44 #[{name:= "Low",type:=23,offset:=0,embedded:=false,tag:= "",pkgPath:= "",byteOffset:=0},{name:= "High",type:=23,offset:=1,embedded:=false,tag:= "",pkgPath:= "",byteOffset:=16}]:=⟨by kernel_rfl,by kernel_rfl,by kernel_rfl⟩
theorem qa1:SlT ZT 161 108 4 64:=⟨by kernel_rfl,by kernel_rfl,by kernel_rfl,by kernel_rfl⟩
theorem qcL:AgT ZT 108 4:=⟨by kernel_rfl,by kernel_rfl⟩
def vJ (b:Str):Nat->Int->Option (Unit⊕Int)
 |0,_=>none
 |K+1,a=>
  if a<(b.length:Int)then
  (idx b a).bind fun c=>
  if(c.toNat:Int)=47 then
  some (.inr a)
  else
  vJ b K (w64 (a+1))
  else
  some (.inl ())
def yO (N:Nat) (a:Str):Option Int:=
 (vJ a N 0).bind (fun
 |(.inl ())=>
 some (a.length:Int)
 |(.inr b)=>
 some b)
theorem qas (N:Nat) (a:Str) {res:Int} (h:yO N a=some res):qc ZT (.fn 93) [.str a] [] (.i res) []:=by
 unfold yO at h
 refine Ub Tryz.func93 rfl rfl (m:=17) rfl (rs:=[.tmp 2]) rfl (l:=(kAQ a [])) rfl ?_
 refine sh fol (kAQ a []) ?_
 refine sq ?_
 refine sh fol (kAQ a [(3,.i 0)]) ?_
 refine Goes.block ?_
 obtain⟨d,g2,h⟩:=bnd h
 refine Goes.imp (Q:=fun x s'=>(x= .exit 0/\(.inl ())=d/\Sub s' (ofG 17 (kAQ a []),[]))\/(x= .ret/\ ∃e,(.inr e)=d/\yP ZT [.tmp 2] (.i e) .ret s')) ?_ ?_
 ·refine Uc (fun M s=> ∃(b:Int),s=(ofG 17 (kAQ a (kBS b)),[])/\vJ a M b=some d) ?_ (m:=N) ⟨_,rfl,g2⟩
  rintro M s ⟨b,rfl,g2⟩
  cases M with
  |zero=>simp only[vJ]at g2;cases g2
  |succ M=>
   rw[vJ]at g2
   refine sq ?_
   refine sh fol (kAQ a [(3,.i b),(7,.bool (decide (b<(a.length:Int))))]) ?_
   refine ihD g2 (fun g g2=>?_) (fun g g2=>?_)
   ·refine Goes.skip ?_
    refine sq (Goes.block ?_)
    obtain⟨f,c,g2⟩:=bnd g2
    refine sq (gr fol [2] (kAQ a ((3,.i b)::(kBT (decide ((f.toNat:Int)=47))))) (ac (hs (.done (.opt (yB ZT 9 (.str a) (.i b))) (.int .u8 (f.toNat:Int))) (qaM st9 c)) az) ?_)
    refine ihD g2 (fun j g2=>?_) (fun j g2=>?_)
    ·refine sh fol (kBM b) ?_
     refine Goes.ret ?_
     obtain rfl:=si g2
     exact Or.inr (⟨rfl,_,rfl,(gw2 [.i b] (Ua tI))⟩)
    refine Goes.skip ?_
    refine gh fol (kAQ a (kBS (w64 (b+1)))) ?_
    exact⟨M,(ofG 17 (kAQ a (kBS (w64 (b+1)))),[]),Nat.lt_succ_self _,(Sub.refl _),_,rfl,g2⟩
   refine Goes.exit ?_
   obtain rfl:=si g2
   exact Or.inl (⟨rfl,rfl,(Sub.keep [0] rfl rfl)⟩)
 rintro x s' (⟨rfl,rfl,hsub⟩|⟨rfl,k,rfl,hret⟩)
 ·try dsimp only at h
  refine Goes.sub hsub ?_
  refine sh fol (kBM (a.length:Int)) ?_
  refine Goes.ret ?_
  obtain rfl:=si h
  exact(gw2 [.i (a.length:Int)] (Ua tI))
 try dsimp only at h
 obtain rfl:=si h
 exact hret
def jG (a:Str):Nat->Int->Option (Unit⊕Bool)
 |0,_=>none
 |K+1,b=>
  if b<(a.length:Int)then
  ((idx a b).bind fun c=>
  if(c.toNat:Int)<48 then
  some true
  else
  some (decide ((c.toNat:Int)>57)):Option Bool).bind fun d=>
  if d=true then
  some (.inr false)
  else
  jG a K (w64 (b+1))
  else
  some (.inl ())
def qbl (N:Nat) (b:Str):Option Bool:=
 (jG b N 0).bind (fun
 |(.inl ())=>
 some true
 |(.inr a)=>
 some a)
theorem qgT (N:Nat) (b:Str) {res:Bool} (h:qbl N b=some res):qc ZT (.fn 154) [.str b] [] (.bool res) []:=by
 unfold qbl at h
 refine Ub Tryz.func154 rfl rfl (m:=20) rfl (rs:=[.tmp 2]) rfl (l:=(kAQ b [])) rfl ?_
 refine sh fol (kAQ b []) ?_
 refine sq ?_
 refine sh fol (kAQ b [(3,.i 0)]) ?_
 refine Goes.block ?_
 obtain⟨f,g2,h⟩:=bnd h
 refine Goes.imp (Q:=fun x s'=>(x= .exit 0/\(.inl ())=f/\Sub s' (ofG 20 [],[]))\/(x= .ret/\ ∃j,(.inr j)=f/\yP ZT [.tmp 2] (.bool j) .ret s')) ?_ ?_
 ·refine Uc (fun M s=> ∃(c:Int),s=(ofG 20 (kAQ b (kBS c)),[])/\jG b M c=some f) ?_ (m:=N) ⟨_,rfl,g2⟩
  rintro M s ⟨c,rfl,g2⟩
  cases M with
  |zero=>simp only[jG]at g2;cases g2
  |succ M=>
   rw[jG]at g2
   refine sq ?_
   refine sh fol (kAQ b [(3,.i c),(7,.bool (decide (c<(b.length:Int))))]) ?_
   refine ihD g2 (fun k g2=>?_) (fun k g2=>?_)
   ·refine Goes.skip ?_
    refine sq (Goes.block ?_)
    refine sq ?_
    obtain⟨n,a,g2⟩:=bnd g2
    refine Goes.cut (s':=(ofG 20 (kAQ b [(3,.i c),(19,.bool n)]),[])) ?_ ?_
    ·obtain⟨e,d,a⟩:=bnd a
     rcases wyD a with⟨g,a⟩|⟨g,a⟩
     ·obtain rfl:=si a
      exact tr fol [2,4] (kAQ b [(3,.i c),(19,.bool true)]) (ac (hs (.done (.opt (yB ZT 9 (.str b) (.i c))) (.int .u8 (e.toNat:Int))) (qaM st9 d)) (ac (gw g) az))
     obtain rfl:=si a
     exact tr fol [2,4,7] (kAQ b [(3,.i c),(19,.bool (decide ((e.toNat:Int)>57)))]) (ac (hs (.done (.opt (yB ZT 9 (.str b) (.i c))) (.int .u8 (e.toNat:Int))) (qaM st9 d)) (ac (gw g) (ac (hs (.done (.opt (yB ZT 9 (.str b) (.i c))) (.int .u8 (e.toNat:Int))) (qaM st9 d)) az)))
    refine ihB g2 (fun o g2=>?_) (fun o g2=>?_)
    ·refine sh fol kA7 ?_
     refine Goes.ret ?_
     obtain rfl:=si g2
     exact Or.inr (⟨rfl,_,rfl,(gw2 [.bool false] (Ua tB))⟩)
    refine Goes.skip ?_
    refine gh fol (kAQ b (kBS (w64 (c+1)))) ?_
    exact⟨M,(ofG 20 (kAQ b (kBS (w64 (c+1)))),[]),Nat.lt_succ_self _,(Sub.refl _),_,rfl,g2⟩
   refine Goes.exit ?_
   obtain rfl:=si g2
   exact Or.inl (⟨rfl,rfl,(Sub.keep [] rfl rfl)⟩)
 rintro x s' (⟨rfl,rfl,hsub⟩|⟨rfl,p,rfl,hret⟩)
 ·try dsimp only at h
  refine Goes.sub hsub ?_
  refine sh fol [(2,.bool true)] ?_
  refine Goes.ret ?_
  obtain rfl:=si h
  exact(gw2 [.bool true] (Ua tB))
 try dsimp only at h
 obtain rfl:=si h
 exact hret
def jA (N:Nat) (a:Str):Option Bool:=
 (if(a.length:Int)=0 then
 some true
 else
 if(a.length:Int)>1 then
 (idx a 0).bind fun b=>
 some (decide ((b.toNat:Int)=48))
 else
 some false:Option Bool).bind fun c=>
 if c=true then
 some false
 else
 (qbl N a).bind fun d=>
 some d
theorem jk (N:Nat) (b:Str) {res:Bool} (h:jA N b=some res):qc ZT (.fn 94) [.str b] [] (.bool res) []:=by
 unfold jA at h
 refine Ub Tryz.func94 rfl rfl (m:=18) rfl (rs:=[.tmp 2]) rfl (l:=(kAQ b [])) rfl ?_
 refine sh fol (kAQ b []) ?_
 refine sq ?_
 refine sq ?_
 obtain⟨k,a,h⟩:=bnd h
 refine Goes.cut (s':=(ofG 18 (kAQ b (kBa k)),[])) ?_ ?_
 ·rcases wyD a with⟨e,a⟩|⟨e,a⟩
  ·obtain rfl:=si a
   exact tr fol [3] (kAQ b [(15,.bool true)]) (ac (gw e) az)
  rcases wyD a with⟨f,a⟩|⟨f,a⟩
  ·obtain⟨g,c,a⟩:=bnd a
   obtain rfl:=si a
   exact tr fol [3,7,9] (kAQ b (kBa (decide ((g.toNat:Int)=48)))) (ac (gw e) (ac (gw f) (ac (hs (.done (.opt (yB ZT 9 (.str b) (.i 0))) (.int .u8 (g.toNat:Int))) (qaM st9 c)) az)))
  obtain rfl:=si a
  exact tr fol [3,7] (kAQ b [(15,.bool false)]) (ac (gw e) (ac (gw f) az))
 refine ihB h (fun n h=>?_) (fun n h=>?_)
 ·refine sh fol kA7 ?_
  refine Goes.ret ?_
  obtain rfl:=si h
  exact(gw2 [.bool false] (Ua tB))
 refine Goes.skip ?_
 obtain⟨j,d,h⟩:=bnd h
 refine sq (gr fol [1] (kBq j) (ac (cv (qgT N b d)) az) ?_)
 refine Goes.ret ?_
 obtain rfl:=si h
 exact(gw2 [.bool j] (Ua tB))
def vF (a:Str):Nat->Int->Int->Option Int
 |0,_,_=>none
 |K+1,c,b=>
  if b<(a.length:Int)then
  (idx a b).bind fun d=>
  vF a K (w64 ((w64 ((w64 (10*c))+(w64 (d.toNat:Int))))-48)) (w64 (b+1))
  else
  some c
def xE (N:Nat) (a:Str):Option Int:=
 (vF a N 0 0).bind fun b=>
 some b
theorem qbc (N:Nat) (a:Str) {res:Int} (h:xE N a=some res):qc ZT (.fn 167) [.str a] [] (.i res) []:=by
 unfold xE at h
 refine Ub Tryz.func167 rfl rfl (m:=20) rfl (rs:=[.tmp 2]) rfl (l:=(kAQ a [])) rfl ?_
 refine sh fol (kAQ a []) ?_
 refine sh fol (kAQ a [(3,.i 0)]) ?_
 refine sq ?_
 refine sh fol (kAQ a [(3,.i 0),(4,.i 0)]) ?_
 refine Goes.block ?_
 obtain⟨g,g4,h⟩:=bnd h
 refine Goes.imp (Q:=fun x s'=>(x= .exit 0/\ ∃d,d=g/\Sub s' (ofG 20 (kBS d),[]))) ?_ ?_
 ·refine Uc (fun M s=> ∃(c:Int) (b:Int),s=(ofG 20 (kAQ a ((3,.i c)::(kB7 b))),[])/\vF a M c b=some g) ?_ (m:=N) ⟨_,_,rfl,g4⟩
  rintro M s ⟨c,b,rfl,g4⟩
  cases M with
  |zero=>simp only[vF]at g4;cases g4
  |succ M=>
   rw[vF]at g4
   refine sq ?_
   refine sh fol (kAQ a ((3,.i c)::(4,.i b)::(kAz (decide (b<(a.length:Int)))))) ?_
   refine ihD g4 (fun j g4=>?_) (fun j g4=>?_)
   ·refine Goes.skip ?_
    refine sq (Goes.block ?_)
    obtain⟨f,e,g4⟩:=bnd g4
    refine gr fol [4] (kAQ a ((3,.i (w64 ((w64 ((w64 (10*c))+(w64 (f.toNat:Int))))-48)))::(kB7 b))) (ac (hs (.done (.opt (yB ZT 9 (.str a) (.i b))) (.int .u8 (f.toNat:Int))) (qaM st9 e)) az) ?_
    refine gh fol (kAQ a ((3,.i (w64 ((w64 ((w64 (10*c))+(w64 (f.toNat:Int))))-48)))::(kB7 (w64 (b+1))))) ?_
    exact⟨M,(ofG 20 (kAQ a ((3,.i (w64 ((w64 ((w64 (10*c))+(w64 (f.toNat:Int))))-48)))::(kB7 (w64 (b+1))))),[]),Nat.lt_succ_self _,(Sub.refl _),_,_,rfl,g4⟩
   refine Goes.exit ?_
   obtain rfl:=si g4
   exact⟨rfl,_,rfl,(Sub.keep [3] rfl rfl)⟩
 rintro x s' ⟨rfl,d,rfl,hsub⟩
 refine Goes.sub hsub ?_
 refine sh fol (kBM d) ?_
 refine Goes.ret ?_
 obtain rfl:=si h
 exact(gw2 [.i d] (Ua tI))
def yX:Nat->(List Int)->Option (List Int)
 |0,_=>none
 |K+1,a=>
  (if(a.length:Int)>0 then
  (idx a (w64 ((a.length:Int)-1))).bind fun b=>
  some (decide (b=0))
  else
  some false:Option Bool).bind fun c=>
  if c=true then
  (cut a 0 (w64 ((a.length:Int)-1))).bind fun d=>
  yX K d
  else
  some a
def yo (N:Nat) (w:List Int):Option (List Int):=
 (yX N w).bind fun a=>
 some a
theorem yT (N:Nat) (w:List Int) {res:List Int} (h:yo N w=some res):qc ZT (.fn 210) [vl encI w] [] (vl encI res) []:=by
 unfold yo at h
 refine Ub Tryz.func210 rfl rfl (m:=21) rfl (rs:=[.tmp 2]) rfl (l:=(kAn w [])) rfl ?_
 refine sh fol (kAn w []) ?_
 refine sq (Goes.block ?_)
 obtain⟨j,g3,h⟩:=bnd h
 refine Goes.imp (Q:=fun x s'=>(x= .exit 0/\ ∃d,d=j/\Sub s' (ofG 21 (kAn d []),[]))) ?_ ?_
 ·refine Uc (fun M s=> ∃(b:List Int),s=(ofG 21 (kAn b []),[])/\yX M b=some j) ?_ (m:=N) ⟨_,rfl,g3⟩
  rintro M s ⟨b,rfl,g3⟩
  cases M with
  |zero=>simp only[yX]at g3;cases g3
  |succ M=>
   rw[yX]at g3
   refine sq ?_
   refine sq ?_
   obtain⟨k,a,g3⟩:=bnd g3
   refine Goes.cut (s':=(ofG 21 (kAn b (kBh k)),[])) ?_ ?_
   ·rcases wyD a with⟨f,a⟩|⟨f,a⟩
    ·obtain⟨n,c,a⟩:=bnd a
     obtain rfl:=si a
     exact tr fol [3,8,9] (kAn b (kBh (decide (n=0)))) (ac (gw f) (ac (iv vG encI c) (ac (lv 0 ce3 encI c rfl) az)))
    obtain rfl:=si a
    exact tr fol [3] (kAn b [(14,.bool false)]) (ac (gw f) az)
   refine ihB g3 (fun o g3=>?_) (fun o g3=>?_)
   ·refine Goes.skip ?_
    refine Goes.block ?_
    obtain⟨g,e,g3⟩:=bnd g3
    refine gr fol [4] (kAn g []) (ac (hs (.done (.opt (kT ZT 85 (vl encI b) none (some (.i (w64 ((b.length:Int)-1)))) none)) (vl encI g)) (qmk vG (E:=encI) rfl none (some (w64 ((b.length:Int)-1))) e)) az) ?_
    exact⟨M,(ofG 21 (kAn g []),[]),Nat.lt_succ_self _,(Sub.refl _),_,rfl,g3⟩
   refine Goes.exit ?_
   obtain rfl:=si g3
   exact⟨rfl,_,rfl,(Sub.keep [0] rfl rfl)⟩
 rintro x s' ⟨rfl,d,rfl,hsub⟩
 refine Goes.sub hsub ?_
 refine sh fol [(2,vl encI d)] ?_
 refine Goes.ret ?_
 obtain rfl:=si h
 exact(gw2 [vl encI d] (Ua (qw encI _ (nl rfl))))
def zR (N:Nat) (neg:Bool) (w:List Int):Option qO:=
 (yo N w).bind fun a=>
 (if neg=true then
 some (decide ((a.length:Int)>0))
 else
 some false:Option Bool).bind fun b=>
 some (⟨b,a⟩:qO)
theorem jb (N:Nat) (neg:Bool) (w:List Int) {res:qO} (h:zR N neg w=some res):qc ZT (.fn 169) (kAr neg w) [] (.agg (kAr res.neg res.w)) []:=by
 unfold zR at h
 refine Ub Tryz.func169 rfl rfl (m:=15) rfl (rs:=[.cell 4 121]) rfl (l:=[(0,.bool neg),(1,vl encI w)]) rfl ?_
 refine sg fol ((0,.bool neg)::(1,vl encI w)::(kY [])) (kU []) ?_
 obtain⟨b,c,h⟩:=bnd h
 refine sq (gr fol [1] ((0,.bool neg)::(1,vl encI b)::(kY [])) (ac (cv (yT N w c)) az) ?_)
 refine sq ?_
 obtain⟨e,a,h⟩:=bnd h
 refine Goes.cut (s':=(ofG 15 (kY []),(kAW e b []))) ?_ ?_
 ·rcases wyB a with⟨d,a⟩|⟨d,a⟩
  ·obtain rfl:=si a
   exact qaj.rq fol [1] (kY []) (kAW (decide ((b.length:Int)>0)) b []) (ac (gw d) az)
  obtain rfl:=si a
  exact qaj.rq fol [1] (kY []) [.cells [.bool false,vl encI b]] (ac (gw d) az)
 refine Goes.ret ?_
 obtain rfl:=si h
 exact(gw2 [.agg (kAr e b)] (FzW.agg (qb.cons (Ua tB) (qb.cons (Ua (qw encI _ (nl rfl))) qb.nil))))
def yl (N:Nat):Nat->(List Int)->Str->Option ((List Int)×Str)
 |0,_,_=>none
 |K+1,f,a=>
  if(a.length:Int)>9 then
  (cut a (w64 ((a.length:Int)-9)) (a.length:Int)).bind fun b=>
  (xE N b).bind fun c=>
  (app 8 f [c]).bind fun d=>
  (cut a 0 (w64 ((a.length:Int)-9))).bind fun e=>
  yl N K d e
  else
  some (f,a)
def qat (N:Nat) (a:Str):Option qO:=
 (if(a.length:Int)>0 then
 (idx a 0).bind fun h=>
 some (decide ((h.toNat:Int)=45))
 else
 some false:Option Bool).bind fun g=>
 ((if g=true then
 (cut a 1 (a.length:Int)).bind fun i=>
 some i
 else
 some a:Option Str)).bind fun j=>
 (yl N N ([]:List Int) j).bind fun(b,c)=>
 (xE N c).bind fun d=>
 (app 8 b [d]).bind fun e=>
 (zR N g e).bind fun f=>
 some f
theorem qcl (N:Nat) (k:Str) {res:qO} (h:qat N k=some res):qc ZT (.fn 113) [.str k] [] (.agg (kAr res.neg res.w)) []:=by
 unfold qat at h
 refine Ub Tryz.func113 rfl rfl (m:=40) rfl (rs:=[.cell 2 121]) rfl (l:=(kAQ k [])) rfl ?_
 refine sg fol (kAQ k (kAM [])) (kU []) ?_
 refine sq ?_
 obtain⟨e,b,h⟩:=bnd h
 refine Goes.cut (s':=(ofG 40 (kAB k e []),(kU []))) ?_ ?_
 ·rcases wyD b with⟨H,b⟩|⟨H,b⟩
  ·obtain⟨J,B,b⟩:=bnd b
   obtain rfl:=si b
   exact tr fol [3,5] (kAB k (decide ((J.toNat:Int)=45)) []) (ac (gw H) (ac (hs (.done (.opt (yB ZT 9 (.str k) (.i 0))) (.int .u8 (J.toNat:Int))) (qaM st9 B)) az))
  obtain rfl:=si b
  exact tr fol [3] (kAQ k (kAM [(3,.bool false)])) (ac (gw H) az)
 refine sq ?_
 refine sh fol (kAB k e (kBT e)) ?_
 obtain⟨L,g6,h⟩:=bnd h
 refine Goes.imp (Q:=fun x s'=>(x= .normal/\ ∃C,C=L/\Sub s' (ofG 40 (kAB C e []),(kU [])))) ?_ ?_
 ·refine ihB g6 (fun O g6=>?_) (fun O g6=>?_)
  ·obtain⟨K,D,g6⟩:=bnd g6
   refine gr fol [1] (kAB K e []) (ac (hs (.done (.opt (kT ZT 9 (.str k) (some (.i 1)) none none)) (.str K)) (jg st9 (some 1) none D)) az) ?_
   obtain rfl:=si g6
   exact⟨rfl,_,rfl,(Sub.refl _)⟩
  refine Goes.skip ?_
  obtain rfl:=si g6
  exact⟨rfl,_,rfl,(Sub.keep [0,2,3] rfl rfl)⟩
 rintro x s' ⟨rfl,C,rfl,hsub⟩
 refine Goes.sub hsub ?_
 refine sh fol (kAB C e [(4,.nilslice)]) ?_
 refine sq (Goes.block ?_)
 obtain⟨F,g13,h⟩:=bnd h
 refine Goes.imp (Q:=fun x s'=>(x= .exit 0/\ ∃f n,(f,n)=F/\Sub s' (ofG 40 (kAB n e [(4,.gslice 1 f.length 1)]),(kU (kF f []))))) ?_ ?_
 ·refine Goes.sub (s':=(ofG 40 (kAB C e [(4,.gslice 1 ([]:List Int).length 1)]),(kU kBY))) (Sub.norm [] [some 0,none] rfl rfl (.keep (.same nS) (.kp (.keep (.same nB) (.keep .nil .nil)))) (.kb rfl (.same sn) (.fresh .nil))) ?_
  refine Uc (fun M s=> ∃(p:List Int) (a:Str),s=(ofG 40 (kAB a e [(4,.gslice 1 p.length 1)]),(kU (kF p [])))/\yl N M p a=some F) ?_ (m:=N) ⟨_,_,rfl,g13⟩
  rintro M s ⟨p,a,rfl,g13⟩
  cases M with
  |zero=>simp only[yl]at g13;cases g13
  |succ M=>
   rw[yl]at g13
   refine sq ?_
   refine sh fol (kAB a e [(4,.gslice 1 p.length 1),(18,.bool (decide ((a.length:Int)>9)))]) ?_
   refine ihD g13 (fun I g13=>?_) (fun I g13=>?_)
   ·refine Goes.skip ?_
    refine Goes.block ?_
    obtain⟨G,q,g13⟩:=bnd g13
    obtain⟨o,r,g13⟩:=bnd g13
    obtain⟨g,t,g13⟩:=bnd g13
    refine sq (gq fol [5,6,8] (kAB a e [(4,.gslice 3 g.length 1)]) (kU (kBd o (kF g []))) (ac (hs (.done (.opt (kT ZT 9 (.str a) (some (.i (w64 ((a.length:Int)-9)))) none none)) (.str G)) (jg st9 (some (w64 ((a.length:Int)-9))) none q)) (ac (cv (qbc N G r)) (ac (hs (.run [1,2] (yz ZT [85,85] (.gslice 1 p.length 1) (.slice 2 0 1 1 1)) (kU (kF p [.cells [.i o]])) (.gslice 3 g.length 1) (kU (kBd o (kF g []))) true) (qaQ vG (E:=encI) rfl (qen (E:=encI) (ys:=[o]) rfl rfl rfl rfl) (qff (E:=encI) (l:=p) rfl rfl rfl t rfl))) az))) ?_)
    obtain⟨u,v,g13⟩:=bnd g13
    refine gr fol [4] (kAB u e [(4,.gslice 3 g.length 1)]) (ac (hs (.done (.opt (kT ZT 9 (.str a) none (some (.i (w64 ((a.length:Int)-9)))) none)) (.str u)) (jg st9 none (some (w64 ((a.length:Int)-9))) v)) az) ?_
    exact⟨M,(ofG 40 (kAB u e [(4,.gslice 1 g.length 1)]),(kU (kF g []))),Nat.lt_succ_self _,(Sub.norm [] [some 0,some 3] rfl rfl (.keep (.same nS) (.kp (.keep (.same nB) (.keep (.gslice rfl) .nil)))) (.kb rfl (.same sn) (.ks .nil))),_,_,rfl,g13⟩
   refine Goes.exit ?_
   obtain rfl:=si g13
   exact⟨rfl,_,_,rfl,(Sub.keep [0,2,3,4] rfl rfl)⟩
 rintro x s' ⟨rfl,f,n,rfl,hsub⟩
 try dsimp only at h
 refine Goes.sub hsub ?_
 obtain⟨j,y,h⟩:=bnd h
 obtain⟨d,z,h⟩:=bnd h
 obtain⟨c,A,h⟩:=bnd h
 refine sq (gq fol [3,5,6] (kAM []) (kAW c.neg c.w (kBd j (kAp d))) (ac (cv (qbc N n y)) (ac (hs (.run [1,2] (yz ZT [85,85] (.gslice 1 f.length 1) (.slice 2 0 1 1 1)) (kU (kF f [.cells [.i j]])) (.gslice 3 d.length 1) (kU (kBd j (kF d []))) true) (qaQ vG (E:=encI) rfl (qen (E:=encI) (ys:=[j]) rfl rfl rfl rfl) (qff (E:=encI) (l:=f) rfl rfl rfl z rfl))) (ac (hs (.callF 169 [.bool e,.gslice 3 d.length 1] (kU (kBd j (kF d []))) [3] (kAr e d) (.agg (kAr c.neg c.w))) (je (FzL.cons (Uf tB) (FzL.cons (Fz.gs (E:=encI) rfl rfl (nl rfl)) FzL.nil)) (jb N e d A) (Still.agg (AllST.cons tB (AllST.cons (qw encI _ (nl rfl)) AllST.nil))))) az))) ?_)
 refine Goes.sub (show Sub (ofG 40 (kAM []),(kAW c.neg c.w (kBd j (kAp d)))) (ofG 40 (kAM []),(kAW c.neg c.w []))from(Sub.norm [] [some 0] rfl rfl (.kp .nil) (.kb rfl (.same sn) .nil))) ?_
 refine Goes.ret ?_
 obtain rfl:=si h
 exact(gw2 [.agg (kAr c.neg c.w)] (FzW.agg (qb.cons (Ua tB) (qb.cons (Ua (qw encI _ (nl rfl))) qb.nil))))
def vE:Nat->(List Int)->Int->Option (List Int)
 |0,_,_=>none
 |K+1,b,a=>
  if(!decide (a=0))=true then
  ((if(a.tmod 1000000000)<0 then
  some (w64 (0-(a.tmod 1000000000)))
  else
  some (a.tmod 1000000000):Option Int)).bind fun c=>
  (app 8 b [c]).bind fun d=>
  vE K d (w64 (a.tdiv 1000000000))
  else
  some b
def qan (N:Nat) (n:Int):Option qO:=
 (vE N ([]:List Int) n).bind fun b=>
 (zR N (decide (n<0)) b).bind fun a=>
 some a
theorem qch (N:Nat) (n:Int) {res:qO} (h:qan N n=some res):qc ZT (.fn 116) [.i n] [] (.agg (kAr res.neg res.w)) []:=by
 unfold qan at h
 refine Ub Tryz.func116 rfl rfl (m:=25) rfl (rs:=[.cell 2 121]) rfl (l:=[(0,.i n)]) rfl ?_
 refine sg fol ((0,.i n)::(kAM [])) (kU []) ?_
 refine sh fol ((0,.i n)::(kAM [(3,.nilslice)])) ?_
 refine sh fol ((0,.i n)::(kAM ((3,.nilslice)::(kAl (decide (n<0)))))) ?_
 refine sq (Goes.block ?_)
 obtain⟨k,g4,h⟩:=bnd h
 refine Goes.imp (Q:=fun x s'=>(x= .exit 0/\ ∃d,d=k/\Sub s' (ofG 25 (kAM (kBl d (kAl (decide (n<0))))),(kU (kF d []))))) ?_ ?_
 ·refine Goes.sub (s':=(ofG 25 ((0,.i n)::(kAM ((3,.gslice 1 ([]:List Int).length 1)::(kAl (decide (n<0)))))),(kU kBY))) (Sub.norm [] [some 0,none] rfl rfl (.keep (.same nI) (.kp (.keep .nil (.keep (.same nB) .nil)))) (.kb rfl (.same sn) (.fresh .nil))) ?_
  refine Uc (fun M s=> ∃(c:List Int) (b:Int),s=(ofG 25 ((0,.i b)::(kAM (kBl c (kAl (decide (n<0)))))),(kU (kF c [])))/\vE M c b=some k) ?_ (m:=N) ⟨_,_,rfl,g4⟩
  rintro M s ⟨c,b,rfl,g4⟩
  cases M with
  |zero=>simp only[vE]at g4;cases g4
  |succ M=>
   rw[vE]at g4
   refine sq ?_
   refine sh fol ((0,.i b)::(kAM (kBl c [(4,.bool (decide (n<0))),(9,.bool (!decide (b=0)))]))) ?_
   refine ihB g4 (fun o g4=>?_) (fun o g4=>?_)
   ·refine Goes.skip ?_
    refine Goes.block ?_
    refine sh fol ((0,.i b)::(kAM (kBl c ((4,.bool (decide (n<0)))::(kA5 (b.tmod 1000000000)))))) ?_
    refine sq ?_
    refine sh fol ((0,.i b)::(kAM (kBl c ((4,.bool (decide (n<0)))::(5,.i (b.tmod 1000000000))::(kBT (decide ((b.tmod 1000000000)<0))))))) ?_
    obtain⟨p,g7,g4⟩:=bnd g4
    refine Goes.imp (Q:=fun x s'=>(x= .normal/\ ∃e,e=p/\Sub s' (ofG 25 ((0,.i b)::(kAM (kBl c ((4,.bool (decide (n<0)))::(kA5 e))))),(kU (kF c []))))) ?_ ?_
    ·refine ihD g7 (fun q g7=>?_) (fun q g7=>?_)
     ·refine gh fol ((0,.i b)::(kAM (kBl c ((4,.bool (decide (n<0)))::(kA5 (w64 (0-(b.tmod 1000000000)))))))) ?_
      obtain rfl:=si g7
      exact⟨rfl,_,rfl,(Sub.refl _)⟩
     refine Goes.skip ?_
     obtain rfl:=si g7
     exact⟨rfl,_,rfl,(Sub.keep [0,2,3,4,5] rfl rfl)⟩
    rintro x s' ⟨rfl,e,rfl,hsub⟩
    refine Goes.sub hsub ?_
    obtain⟨f,j,g4⟩:=bnd g4
    refine sq (gq fol [3] ((0,.i b)::(kAM ((3,.gslice 3 f.length 1)::(kAl (decide (n<0)))))) (kU (kBd e (kF f []))) (ac (hs (.run [1,2] (yz ZT [85,85] (.gslice 1 c.length 1) (.slice 2 0 1 1 1)) (kU (kF c [.cells [.i e]])) (.gslice 3 f.length 1) (kU (kBd e (kF f []))) true) (qaQ vG (E:=encI) rfl (qen (E:=encI) (ys:=[e]) rfl rfl rfl rfl) (qff (E:=encI) (l:=c) rfl rfl rfl j rfl))) az) ?_)
    refine gh fol ((0,.i (w64 (b.tdiv 1000000000)))::(kAM ((3,.gslice 3 f.length 1)::(kAl (decide (n<0)))))) ?_
    exact⟨M,(ofG 25 ((0,.i (w64 (b.tdiv 1000000000)))::(kAM (kBl f (kAl (decide (n<0)))))),(kU (kF f []))),Nat.lt_succ_self _,(Sub.norm [] [some 0,some 3] rfl rfl (.keep (.same nI) (.kp (.keep (.gslice rfl) (.keep (.same nB) .nil)))) (.kb rfl (.same sn) (.ks .nil))),_,_,rfl,g4⟩
   refine Goes.exit ?_
   obtain rfl:=si g4
   exact⟨rfl,_,rfl,(Sub.keep [2,3,4] rfl rfl)⟩
 rintro x s' ⟨rfl,d,rfl,hsub⟩
 refine Goes.sub hsub ?_
 obtain⟨a,g,h⟩:=bnd h
 refine sq (gq fol [2] (kAM []) (kAW a.neg a.w (kAp d)) (ac (hs (.callF 169 [.bool (decide (n<0)),.gslice 1 d.length 1] (kU (kF d [])) [1] (kAr (decide (n<0)) d) (.agg (kAr a.neg a.w))) (je (FzL.cons (Uf tB) (FzL.cons (Fz.gs (E:=encI) rfl rfl (nl rfl)) FzL.nil)) (jb N (decide (n<0)) d g) (Still.agg (AllST.cons tB (AllST.cons (qw encI _ (nl rfl)) AllST.nil))))) az) ?_)
 refine Goes.sub (show Sub (ofG 25 (kAM []),(kAW a.neg a.w (kAp d))) (ofG 25 (kAM []),(kAW a.neg a.w []))from(Sub.norm [] [some 0] rfl rfl (.kp .nil) (.kb rfl (.same sn) .nil))) ?_
 refine Goes.ret ?_
 obtain rfl:=si h
 exact(gw2 [.agg (kAr a.neg a.w)] (FzW.agg (qb.cons (Ua tB) (qb.cons (Ua (qw encI _ (nl rfl))) qb.nil))))
def jJ (N:Nat) (a:Str):Option (qO×qO):=
 (yO N a).bind fun b=>
 if b=(a.length:Int)then
 (qat N a).bind fun c=>
 (qan N 1).bind fun d=>
 some (c,d)
 else
 (cut a 0 b).bind fun e=>
 (qat N e).bind fun f=>
 (cut a (w64 (b+1)) (a.length:Int)).bind fun g=>
 (qat N g).bind fun h=>
 some (f,h)
theorem xe (N:Nat) (a:Str) {res:qO×qO} (h:jJ N a=some res):qc ZT (.fn 95) [.str a] [] (.tuple (kAy res.1.neg res.1.w res.2.neg res.2.w)) []:=by
 unfold jJ at h
 refine Ub Tryz.func95 rfl rfl (m:=25) rfl (rs:=[.cell 2 121,.cell 3 121]) rfl (l:=(kAQ a [])) rfl ?_
 refine sg fol (kAQ a (kR [])) (kU (kU [])) ?_
 refine sh fol (kR (kBb a)) ?_
 obtain⟨b,c,h⟩:=bnd h
 refine sq (gr fol [1] (kR ((4,.str a)::(kA5 b))) (ac (cv (qas N a c)) az) ?_)
 refine sq ?_
 refine sh fol (kR ((4,.str a)::(5,.i b)::(kBU (decide (b=(a.length:Int)))))) ?_
 refine ihD h (fun t h=>?_) (fun t h=>?_)
 ·obtain⟨n,d,h⟩:=bnd h
  obtain⟨o,e,h⟩:=bnd h
  refine sq (gq fol [1,2] (kR []) (kO n.neg n.w o.neg o.w []) (ac (cv (qcl N a d)) (ac (cv (qch N 1 e)) az)) ?_)
  refine Goes.ret ?_
  obtain rfl:=si h
  exact(gw2 (kAy n.neg n.w o.neg o.w) (FzW.tuple (qb.cons (FzW.agg (qb.cons (Ua tB) (qb.cons (Ua (qw encI _ (nl rfl))) qb.nil))) (qb.cons (FzW.agg (qb.cons (Ua tB) (qb.cons (Ua (qw encI _ (nl rfl))) qb.nil))) qb.nil))))
 refine Goes.skip ?_
 obtain⟨r,f,h⟩:=bnd h
 obtain⟨p,g,h⟩:=bnd h
 obtain⟨s,j,h⟩:=bnd h
 obtain⟨q,k,h⟩:=bnd h
 refine sq (gq fol [2,3,7,8] (kR []) (kO p.neg p.w q.neg q.w []) (ac (hs (.done (.opt (kT ZT 9 (.str a) none (some (.i b)) none)) (.str r)) (jg st9 none (some b) f)) (ac (cv (qcl N r g)) (ac (hs (.done (.opt (kT ZT 9 (.str a) (some (.i (w64 (b+1)))) none none)) (.str s)) (jg st9 (some (w64 (b+1))) none j)) (ac (cv (qcl N s k)) az)))) ?_)
 refine Goes.ret ?_
 obtain rfl:=si h
 exact(gw2 (kAy p.neg p.w q.neg q.w) (FzW.tuple (qb.cons (FzW.agg (qb.cons (Ua tB) (qb.cons (Ua (qw encI _ (nl rfl))) qb.nil))) (qb.cons (FzW.agg (qb.cons (Ua tB) (qb.cons (Ua (qw encI _ (nl rfl))) qb.nil))) qb.nil))))
def zG (a:List Int) (b:List Int) (g:Int):Nat->(List Int)->Int->Int->Option ((List Int)×Int)
 |0,_,_,_=>none
 |K+1,h,i,c=>
  if c<(b.length:Int)then
  (idx h (w64 (g+c))).bind fun d=>
  (idx a g).bind fun e=>
  (idx b c).bind fun f=>
  (put h (w64 (g+c)) ((w64 ((w64 (d+(w64 (e*f))))+i)).tmod 1000000000)).bind fun j=>
  zG a b g K j (w64 ((w64 ((w64 (d+(w64 (e*f))))+i)).tdiv 1000000000)) (w64 (c+1))
  else
  some (h,i)
def zJ (N:Nat) (a:List Int) (b:List Int):Nat->(List Int)->Int->Option (List Int)
 |0,_,_=>none
 |K+1,h,c=>
  if c<(a.length:Int)then
  (zG a b c N h 0 0).bind fun(d,e)=>
  (idx d (w64 (c+(b.length:Int)))).bind fun f=>
  (put d (w64 (c+(b.length:Int))) (w64 (f+e))).bind fun g=>
  zJ N a b K g (w64 (c+1))
  else
  some h
def vP (N:Nat) (a:List Int) (b:List Int):Option (List Int):=
 (mk 8 (w64 ((a.length:Int)+(b.length:Int))) 0).bind fun d=>
 (zJ N a b N d 0).bind fun e=>
 (yo N e).bind fun c=>
 some c
theorem qaU (N:Nat) (a:List Int) (b:List Int) {res:List Int} (h:vP N a b=some res):qc ZT (.fn 170) (kBg a b) [] (vl encI res) []:=by
 unfold vP at h
 refine Ub Tryz.func170 rfl rfl (m:=72) rfl (rs:=[.tmp 4]) rfl (l:=(kK a b [])) rfl ?_
 refine sh fol (kK a b []) ?_
 obtain⟨H,I,h⟩:=bnd h
 refine sq (gq fol [5] (kK a b (kG H [])) (kF H []) (ac (hs (.run [] (jh ZT 85 (.i (w64 ((a.length:Int)+(b.length:Int)))) (.i (w64 ((a.length:Int)+(b.length:Int))))) [] (.slice 0 0 H.length H.length 1) (kF H []) false) (qcQ vG (E:=encI) (z:=0) rfl (by kernel_rfl) I rfl)) az) ?_)
 refine sq ?_
 refine sh fol (kK a b (kG H [(6,.i 0)])) ?_
 refine Goes.block ?_
 obtain⟨L,g5,h⟩:=bnd h
 refine Goes.imp (Q:=fun x s'=>(x= .exit 0/\ ∃t,t=L/\Sub s' (ofG 72 (kG t []),(kF t [])))) ?_ ?_
 ·refine Uc (fun M s=> ∃(D:List Int) (c:Int),s=(ofG 72 (kK a b (kG D (kB4 c))),(kF D []))/\zJ N a b M D c=some L) ?_ (m:=N) ⟨_,_,rfl,g5⟩
  rintro M s ⟨D,c,rfl,g5⟩
  cases M with
  |zero=>simp only[zJ]at g5;cases g5
  |succ M=>
   rw[zJ]at g5
   refine sq ?_
   refine sh fol (kK a b (kG D [(6,.i c),(19,.bool (decide (c<(a.length:Int))))])) ?_
   refine ihD g5 (fun O g5=>?_) (fun O g5=>?_)
   ·refine Goes.skip ?_
    refine sq (Goes.block ?_)
    refine sh fol (kK a b (kG D [(6,.i c),(7,.i 0)])) ?_
    refine sq ?_
    refine sh fol (kK a b (kG D [(6,.i c),(7,.i 0),(8,.i 0)])) ?_
    refine Goes.block ?_
    obtain⟨J,g12,g5⟩:=bnd g5
    refine Goes.imp (Q:=fun x s'=>(x= .exit 2/\ ∃d u,(d,u)=J/\Sub s' (ofG 72 (kK a b (kG d (kAV c u []))),(kF d [])))) ?_ ?_
    ·refine Uc (fun M s=> ∃(p:List Int) (r:Int) (o:Int),s=(ofG 72 (kK a b (kG p (kAV c r (kBw o)))),(kF p []))/\zG a b c M p r o=some J) ?_ (m:=N) ⟨_,_,_,rfl,g12⟩
     rintro M s ⟨p,r,o,rfl,g12⟩
     cases M with
     |zero=>simp only[zG]at g12;cases g12
     |succ M=>
      rw[zG]at g12
      refine sq ?_
      refine sh fol (kK a b (kG p (kAV c r [(8,.i o),(25,.bool (decide (o<(b.length:Int))))]))) ?_
      refine ihD g12 (fun K g12=>?_) (fun K g12=>?_)
      ·refine Goes.skip ?_
       refine sq (Goes.block ?_)
       obtain⟨e,f,g12⟩:=bnd g12
       obtain⟨g,v,g12⟩:=bnd g12
       obtain⟨j,w,g12⟩:=bnd g12
       refine sq (gr fol [4,5,8,9,12,13] (kK a b (kG p ((6,.i c)::(kBA o (w64 ((w64 (e+(w64 (g*j))))+r)) [])))) (ac (hs (.done (.opt (qj ZT 85 (.slice 0 0 p.length p.length 1) (.i (w64 (c+o))))) (.ptr 0 ((w64 (c+o):Int).toNat*1+0))) (qal vG f)) (ac (hs (.run [0] (jr ZT 3 (.ptr 0 ((w64 (c+o):Int).toNat*1+0))) (kF p []) (.i e) (kF p []) false) (qcB ce3 (E:=encI) (l:=p) rfl rfl f (nl rfl) rfl)) (ac (iv vG encI v) (ac (lv 0 ce3 encI v rfl) (ac (iv vG encI w) (ac (lv 0 ce3 encI w rfl) az)))))) ?_)
       obtain⟨k,A,g12⟩:=bnd g12
       refine sq (gq fol [6,7] (kK a b (kG p ((6,.i c)::(kBA o (w64 ((w64 (e+(w64 (g*j))))+r)) [])))) (kF k []) (ac (hs (.done (.opt (qj ZT 85 (.slice 0 0 p.length p.length 1) (.i (w64 (c+o))))) (.ptr 0 ((w64 (c+o):Int).toNat*1+0))) (qal vG f)) (ac (hs (.run [0] (qp ZT 3 (.ptr 0 ((w64 (c+o):Int).toNat*1+0)) (.i ((w64 ((w64 (e+(w64 (g*j))))+r)).tmod 1000000000))) (kF p []) .undef (kF k []) true) (qae (E:=encI) (l:=p) (y:=(w64 ((w64 (e+(w64 (g*j))))+r)).tmod 1000000000) rfl (show _=some 1 by kernel_rfl) rfl f rfl rfl rfl rfl rfl A rfl)) az)) ?_)
       refine Goes.sub (show Sub (ofG 72 (kK a b (kG p ((6,.i c)::(kBA o (w64 ((w64 (e+(w64 (g*j))))+r)) [])))),(kF k [])) (ofG 72 (kK a b (kG k ((6,.i c)::(kBA o (w64 ((w64 (e+(w64 (g*j))))+r)) [])))),(kF k []))from(Sub.norm [] [some 0] rfl rfl (.keep (.same (qg encI _)) (.keep (.same (qg encI _)) (.keep (.sliceE rfl (vM A)) (.keep (.same nI) (.keep (.same nI) (.keep (.same nI) .nil)))))) (.ks .nil))) ?_
       refine gh fol (kK a b (kG k (kAV c (w64 ((w64 ((w64 (e+(w64 (g*j))))+r)).tdiv 1000000000)) (kBw o)))) ?_
       refine gh fol (kK a b (kG k (kAV c (w64 ((w64 ((w64 (e+(w64 (g*j))))+r)).tdiv 1000000000)) (kBw (w64 (o+1)))))) ?_
       exact⟨M,(ofG 72 (kK a b (kG k (kAV c (w64 ((w64 ((w64 (e+(w64 (g*j))))+r)).tdiv 1000000000)) (kBw (w64 (o+1)))))),(kF k [])),Nat.lt_succ_self _,(Sub.refl _),_,_,_,rfl,g12⟩
      refine Goes.exit ?_
      obtain rfl:=si g12
      exact⟨rfl,_,_,rfl,(Sub.keep [0,1,5,6,7] rfl rfl)⟩
    rintro x s' ⟨rfl,d,u,rfl,hsub⟩
    try dsimp only at g5
    refine Goes.sub hsub ?_
    obtain⟨F,n,g5⟩:=bnd g5
    obtain⟨q,B,g5⟩:=bnd g5
    refine gq fol [10,11,14,15] (kK a b (kG d (kB4 c))) (kF q []) (ac (hs (.done (.opt (qj ZT 85 (.slice 0 0 d.length d.length 1) (.i (w64 (c+(b.length:Int)))))) (.ptr 0 ((w64 (c+(b.length:Int)):Int).toNat*1+0))) (qal vG n)) (ac (hs (.run [0] (jr ZT 3 (.ptr 0 ((w64 (c+(b.length:Int)):Int).toNat*1+0))) (kF d []) (.i F) (kF d []) false) (qcB ce3 (E:=encI) (l:=d) rfl rfl n (nl rfl) rfl)) (ac (hs (.done (.opt (qj ZT 85 (.slice 0 0 d.length d.length 1) (.i (w64 (c+(b.length:Int)))))) (.ptr 0 ((w64 (c+(b.length:Int)):Int).toNat*1+0))) (qal vG n)) (ac (hs (.run [0] (qp ZT 3 (.ptr 0 ((w64 (c+(b.length:Int)):Int).toNat*1+0)) (.i (w64 (F+u)))) (kF d []) .undef (kF q []) true) (qae (E:=encI) (l:=d) (y:=w64 (F+u)) rfl (show _=some 1 by kernel_rfl) rfl n rfl rfl rfl rfl rfl B rfl)) az)))) ?_
    refine Goes.sub (show Sub (ofG 72 (kK a b (kG d (kB4 c))),(kF q [])) (ofG 72 (kK a b (kG q (kB4 c))),(kF q []))from(Sub.norm [] [some 0] rfl rfl (.keep (.same (qg encI _)) (.keep (.same (qg encI _)) (.keep (.sliceE rfl (vM B)) (.keep (.same nI) .nil)))) (.ks .nil))) ?_
    refine gh fol (kK a b (kG q (kB4 (w64 (c+1))))) ?_
    exact⟨M,(ofG 72 (kK a b (kG q (kB4 (w64 (c+1))))),(kF q [])),Nat.lt_succ_self _,(Sub.refl _),_,_,rfl,g5⟩
   refine Goes.exit ?_
   obtain rfl:=si g5
   exact⟨rfl,_,rfl,(Sub.keep [5] rfl rfl)⟩
 rintro x s' ⟨rfl,t,rfl,hsub⟩
 refine Goes.sub hsub ?_
 obtain⟨C,G,h⟩:=bnd h
 refine sq (gq fol [1] [(4,vl encI C)] (kAp t) (ac (hs (.callF 210 [.slice 0 0 t.length t.length 1] (kF t []) [0] [vl encI t] (vl encI C)) (je (FzL.cons (Fz.sl (E:=encI) rfl rfl (nl rfl)) FzL.nil) (yT N t G) (qw encI _ (nl rfl)))) az) ?_)
 refine Goes.sub (show Sub (ofG 72 [(4,vl encI C)],(kAp t)) (ofG 72 [(4,vl encI C)],[])from(Sub.norm [] [] rfl rfl (.keep (.same (qg encI _)) .nil) .nil)) ?_
 refine Goes.ret ?_
 obtain rfl:=si h
 exact(gw2 [vl encI C] (Ua (qw encI _ (nl rfl))))
def ze (a:List Int) (b:List Int):Nat->Int->Option (Unit⊕Int)
 |0,_=>none
 |K+1,c=>
  if c>=0 then
  (idx a c).bind fun d=>
  (idx b c).bind fun e=>
  if d<e then
  some (.inr (-1))
  else
  if d>e then
  some (.inr 1)
  else
  ze a b K (w64 (c-1))
  else
  some (.inl ())
def jE (N:Nat) (a:List Int) (b:List Int):Option Int:=
 if(!decide ((a.length:Int)=(b.length:Int)))=true then
 if(a.length:Int)<(b.length:Int)then
 some (-1)
 else
 some 1
 else
 (ze a b N (w64 ((a.length:Int)-1))).bind (fun
 |(.inl ())=>
 some 0
 |(.inr c)=>
 some c)
theorem qa4 (N:Nat) (a:List Int) (b:List Int) {res:Int} (h:jE N a b=some res):qc ZT (.fn 172) (kBg a b) [] (.i res) []:=by
 unfold jE at h
 refine Ub Tryz.func172 rfl rfl (m:=41) rfl (rs:=[.tmp 4]) rfl (l:=(kK a b [])) rfl ?_
 refine sh fol (kK a b []) ?_
 refine sq ?_
 refine sh fol (kK a b (kBV (!decide ((a.length:Int)=(b.length:Int))))) ?_
 refine ihB h (fun o h=>?_) (fun o h=>?_)
 ·refine sq ?_
  refine sh fol (kBa (decide ((a.length:Int)<(b.length:Int)))) ?_
  refine ihD h (fun p h=>?_) (fun p h=>?_)
  ·refine sh fol [(4,.i (-1))] ?_
   refine Goes.ret ?_
   obtain rfl:=si h
   exact(gw2 [.i (-1)] (Ua tI))
  refine Goes.skip ?_
  refine sh fol [(4,.i 1)] ?_
  refine Goes.ret ?_
  obtain rfl:=si h
  exact(gw2 [.i 1] (Ua tI))
 refine Goes.skip ?_
 refine sq ?_
 refine sh fol (kK a b (kA5 (w64 ((a.length:Int)-1)))) ?_
 refine Goes.block ?_
 obtain⟨f,g4,h⟩:=bnd h
 refine Goes.imp (Q:=fun x s'=>(x= .exit 0/\(.inl ())=f/\Sub s' (ofG 41 [],[]))\/(x= .ret/\ ∃j,(.inr j)=f/\yP ZT [.tmp 4] (.i j) .ret s')) ?_ ?_
 ·refine Uc (fun M s=> ∃(e:Int),s=(ofG 41 (kK a b (kA5 e)),[])/\ze a b M e=some f) ?_ (m:=N) ⟨_,rfl,g4⟩
  rintro M s ⟨e,rfl,g4⟩
  cases M with
  |zero=>simp only[ze]at g4;cases g4
  |succ M=>
   rw[ze]at g4
   refine sq ?_
   refine sh fol (kK a b [(5,.i e),(20,.bool (decide (e>=0)))]) ?_
   refine ihD g4 (fun q g4=>?_) (fun q g4=>?_)
   ·refine Goes.skip ?_
    refine sq (Goes.block ?_)
    refine sq ?_
    obtain⟨k,c,g4⟩:=bnd g4
    obtain⟨n,d,g4⟩:=bnd g4
    refine sq (gr fol [2,3,6,7] (kK a b [(5,.i e),(31,.bool (decide (k<n)))]) (ac (iv vG encI c) (ac (lv 0 ce3 encI c rfl) (ac (iv vG encI d) (ac (lv 0 ce3 encI d rfl) az)))) ?_)
    refine ihD g4 (fun r g4=>?_) (fun r g4=>?_)
    ·refine sh fol [(4,.i (-1))] ?_
     refine Goes.ret ?_
     obtain rfl:=si g4
     exact Or.inr (⟨rfl,_,rfl,(gw2 [.i (-1)] (Ua tI))⟩)
    refine Goes.skip ?_
    refine sq (gr fol [2,3,6,7] (kK a b [(5,.i e),(40,.bool (decide (k>n)))]) (ac (iv vG encI c) (ac (lv 0 ce3 encI c rfl) (ac (iv vG encI d) (ac (lv 0 ce3 encI d rfl) az)))) ?_)
    refine ihD g4 (fun g g4=>?_) (fun g g4=>?_)
    ·refine sh fol [(4,.i 1)] ?_
     refine Goes.ret ?_
     obtain rfl:=si g4
     exact Or.inr (⟨rfl,_,rfl,(gw2 [.i 1] (Ua tI))⟩)
    refine Goes.skip ?_
    refine gh fol (kK a b (kA5 (w64 (e-1)))) ?_
    exact⟨M,(ofG 41 (kK a b (kA5 (w64 (e-1)))),[]),Nat.lt_succ_self _,(Sub.refl _),_,rfl,g4⟩
   refine Goes.exit ?_
   obtain rfl:=si g4
   exact Or.inl (⟨rfl,rfl,(Sub.keep [] rfl rfl)⟩)
 rintro x s' (⟨rfl,rfl,hsub⟩|⟨rfl,t,rfl,hret⟩)
 ·try dsimp only at h
  refine Goes.sub hsub ?_
  refine sh fol [(4,.i 0)] ?_
  refine Goes.ret ?_
  obtain rfl:=si h
  exact(gw2 [.i 0] (Ua tI))
 try dsimp only at h
 obtain rfl:=si h
 exact hret
def zW (a:List Int) (d:Int):Nat->(List Int)->Int->Int->Option ((List Int)×Int)
 |0,_,_,_=>none
 |K+1,c,e,b=>
  if b>=0 then
  (idx a b).bind fun i=>
  (qcz .i64 (w64 ((w64 (e*1000000000))+i)) d).bind fun f=>
  (idx c b).bind fun j=>
  (put c b f).bind fun g=>
  (qeU .i64 (w64 ((w64 (e*1000000000))+i)) d).bind fun h=>
  zW a d K g h (w64 (b-1))
  else
  some (c,e)
def xm (N:Nat) (a:List Int) (d:Int):Option ((List Int)×Int):=
 (mk 8 (a.length:Int) 0).bind fun c=>
 (zW a d N c 0 (w64 ((a.length:Int)-1))).bind fun(e,f)=>
 (yo N e).bind fun b=>
 some (b,f)
theorem qcJ (N:Nat) (a:List Int) (d:Int) {res:(List Int)×Int} (h:xm N a d=some res):qc ZT (.fn 209) [vl encI a,.i d] [] (.tuple [vl encI res.1,.i res.2]) []:=by
 unfold xm at h
 refine Ub Tryz.func209 rfl rfl (m:=39) rfl (rs:=[.tmp 4,.tmp 5]) rfl (l:=(kAn a [(1,.i d)])) rfl ?_
 refine sh fol (kAn a [(1,.i d)]) ?_
 obtain⟨q,B,h⟩:=bnd h
 refine sq (gq fol [2] (kAn a ((1,.i d)::(kAA q []))) (kF q []) (ac (hs (.run [] (jh ZT 85 (.i (a.length:Int)) (.i (a.length:Int))) [] (.slice 0 0 q.length q.length 1) (kF q []) false) (qcQ vG (E:=encI) (z:=0) rfl (by kernel_rfl) B rfl)) az) ?_)
 refine sh fol (kAn a ((1,.i d)::(kAA q [(7,.i 0)]))) ?_
 refine sq ?_
 refine sh fol (kAn a ((1,.i d)::(kAA q ((7,.i 0)::(kBw (w64 ((a.length:Int)-1))))))) ?_
 refine Goes.block ?_
 obtain⟨C,g7,h⟩:=bnd h
 refine Goes.imp (Q:=fun x s'=>(x= .exit 0/\ ∃f r,(f,r)=C/\Sub s' (ofG 39 (kAA f [(7,.i r)]),(kF f [])))) ?_ ?_
 ·refine Uc (fun M s=> ∃(e:List Int) (n:Int) (c:Int),s=(ofG 39 (kAn a ((1,.i d)::(kAA e (kAh n c)))),(kF e []))/\zW a d M e n c=some C) ?_ (m:=N) ⟨_,_,_,rfl,g7⟩
  rintro M s ⟨e,n,c,rfl,g7⟩
  cases M with
  |zero=>simp only[zW]at g7;cases g7
  |succ M=>
   rw[zW]at g7
   refine sq ?_
   refine sh fol (kAn a ((1,.i d)::(kAA e [(7,.i n),(8,.i c),(17,.bool (decide (c>=0)))]))) ?_
   refine ihD g7 (fun D g7=>?_) (fun D g7=>?_)
   ·refine Goes.skip ?_
    refine sq (Goes.block ?_)
    obtain⟨A,p,g7⟩:=bnd g7
    refine sq (gr fol [4,5] (kAn a ((1,.i d)::(kAA e (kBA c (w64 ((w64 (n*1000000000))+A)) [])))) (ac (iv vG encI p) (ac (lv 0 ce3 encI p rfl) az)) ?_)
    obtain⟨t,u,g7⟩:=bnd g7
    obtain⟨F,g,g7⟩:=bnd g7
    obtain⟨b,j,g7⟩:=bnd g7
    refine sq (gq fol [4,5,6] (kAn a ((1,.i d)::(kAA e (kBA c (w64 ((w64 (n*1000000000))+A)) [])))) (kF b []) (ac (hs (.done (.opt (zf ZT .quo 3 (.tmp 29) (.tmp 30) (.i (w64 ((w64 (n*1000000000))+A))) (.i d))) (.i t)) (qca u)) (ac (hs (.done (.opt (qj ZT 85 (.slice 0 0 e.length e.length 1) (.i c))) (.ptr 0 ((c:Int).toNat*1+0))) (qal vG g)) (ac (hs (.run [0] (qp ZT 3 (.ptr 0 ((c:Int).toNat*1+0)) (.i t)) (kF e []) .undef (kF b []) true) (qae (E:=encI) (l:=e) (y:=t) rfl (show _=some 1 by kernel_rfl) rfl g rfl rfl rfl rfl rfl j rfl)) az))) ?_)
    refine Goes.sub (show Sub (ofG 39 (kAn a ((1,.i d)::(kAA e (kBA c (w64 ((w64 (n*1000000000))+A)) [])))),(kF b [])) (ofG 39 (kAn a ((1,.i d)::(kAA b (kBA c (w64 ((w64 (n*1000000000))+A)) [])))),(kF b []))from(Sub.norm [] [some 0] rfl rfl (.keep (.same (qg encI _)) (.keep (.same nI) (.keep (.sliceE rfl (vM j)) (.keep (.same nI) (.keep (.same nI) .nil))))) (.ks .nil))) ?_
    obtain⟨o,v,g7⟩:=bnd g7
    refine gr fol [2] (kAn a ((1,.i d)::(kAA b (kAh o c)))) (ac (hs (.done (.opt (zf ZT .rem 3 (.tmp 33) (.tmp 34) (.i (w64 ((w64 (n*1000000000))+A))) (.i d))) (.i o)) (qfM v)) az) ?_
    refine gh fol (kAn a ((1,.i d)::(kAA b (kAh o (w64 (c-1)))))) ?_
    exact⟨M,(ofG 39 (kAn a ((1,.i d)::(kAA b (kAh o (w64 (c-1)))))),(kF b [])),Nat.lt_succ_self _,(Sub.refl _),_,_,_,rfl,g7⟩
   refine Goes.exit ?_
   obtain rfl:=si g7
   exact⟨rfl,_,_,rfl,(Sub.keep [6,7] rfl rfl)⟩
 rintro x s' ⟨rfl,f,r,rfl,hsub⟩
 try dsimp only at h
 refine Goes.sub hsub ?_
 obtain⟨k,w,h⟩:=bnd h
 refine sq (gq fol [1] ((4,vl encI k)::(kA5 r)) (kAp f) (ac (hs (.callF 210 [.slice 0 0 f.length f.length 1] (kF f []) [0] [vl encI f] (vl encI k)) (je (FzL.cons (Fz.sl (E:=encI) rfl rfl (nl rfl)) FzL.nil) (yT N f w) (qw encI _ (nl rfl)))) az) ?_)
 refine Goes.sub (show Sub (ofG 39 ((4,vl encI k)::(kA5 r)),(kAp f)) (ofG 39 ((4,vl encI k)::(kA5 r)),[])from(Sub.norm [] [] rfl rfl (.keep (.same (qg encI _)) (.keep (.same nI) .nil)) .nil)) ?_
 refine Goes.ret ?_
 obtain rfl:=si h
 exact(gw2 [vl encI k,.i r] (FzW.tuple (qb.cons (Ua (qw encI _ (nl rfl))) (qb.cons (Ua tI) qb.nil))))
def jZ (u:List Int) (v:List Int) (j:Int):Nat->Int->Int->Option (Int⊕Int)
 |0,_,_=>none
 |K+1,c,a=>
  (if a>=1000000000 then
  some true
  else
  (idx v (w64 ((v.length:Int)-2))).bind fun d=>
  (idx u (w64 ((w64 (j+(v.length:Int)))-2))).bind fun e=>
  some (decide ((w64 (a*d))>(w64 ((w64 (c*1000000000))+e)))):Option Bool).bind fun f=>
  if f=true then
  (idx v (w64 ((v.length:Int)-1))).bind fun b=>
  if(w64 (c+b))>=1000000000 then
  some (.inr (w64 (a-1)))
  else
  jZ u v j K (w64 (c+b)) (w64 (a-1))
  else
  some (.inl a)
def qar (N:Nat) (u:List Int) (v:List Int) (j:Int):Option Int:=
 (idx u (w64 (j+(v.length:Int)))).bind fun b=>
 (idx u (w64 ((w64 (j+(v.length:Int)))-1))).bind fun c=>
 (idx v (w64 ((v.length:Int)-1))).bind fun d=>
 (qcz .i64 (w64 ((w64 (b*1000000000))+c)) d).bind fun e=>
 (qeU .i64 (w64 ((w64 (b*1000000000))+c)) d).bind fun f=>
 (jZ u v j N f e).bind (fun
 |(.inl g)=>
 some g
 |(.inr a)=>
 some a)
theorem qhA (N:Nat) (u:List Int) (v:List Int) (j:Int) {res:Int} (h:qar N u v j=some res):qc ZT (.fn 211) [vl encI u,vl encI v,.i j] [] (.i res) []:=by
 unfold qar at h
 refine Ub Tryz.func211 rfl rfl (m:=77) rfl (rs:=[.tmp 6]) rfl (l:=(kK u v (kBM j))) rfl ?_
 refine sh fol (kK u v (kBM j)) ?_
 refine sh fol (kK u v [(2,.i j),(7,.i (v.length:Int))]) ?_
 obtain⟨y,n,h⟩:=bnd h
 obtain⟨z,o,h⟩:=bnd h
 refine sq (gr fol [4,5,12,13] (kK u v ((2,.i j)::(kAh (v.length:Int) (w64 ((w64 (y*1000000000))+z))))) (ac (iv vG encI n) (ac (lv 0 ce3 encI n rfl) (ac (iv vG encI o) (ac (lv 0 ce3 encI o rfl) az)))) ?_)
 obtain⟨G,b,h⟩:=bnd h
 obtain⟨H,q,h⟩:=bnd h
 obtain⟨I,r,h⟩:=bnd h
 refine sq (gr fol [4,5,6,11,12,13] (kK u v (kA8 j (v.length:Int) H I [])) (ac (iv vG encI b) (ac (lv 0 ce3 encI b rfl) (ac (hs (.done (.opt (zf ZT .quo 3 (.tmp 28) (.tmp 33) (.i (w64 ((w64 (y*1000000000))+z))) (.i G))) (.i H)) (qca q)) (ac (iv vG encI b) (ac (lv 0 ce3 encI b rfl) (ac (hs (.done (.opt (zf ZT .rem 3 (.tmp 35) (.tmp 40) (.i (w64 ((w64 (y*1000000000))+z))) (.i G))) (.i I)) (qfM r)) az)))))) ?_)
 refine sq (Goes.block ?_)
 obtain⟨A,g9,h⟩:=bnd h
 refine Goes.imp (Q:=fun x s'=>(x= .exit 0/\ ∃t,(.inl t)=A/\Sub s' (ofG 77 [(9,.i t)],[]))\/(x= .ret/\ ∃w,(.inr w)=A/\yP ZT [.tmp 6] (.i w) .ret s')) ?_ ?_
 ·refine Uc (fun M s=> ∃(d:Int) (c:Int),s=(ofG 77 (kK u v (kA8 j (v.length:Int) c d [])),[])/\jZ u v j M d c=some A) ?_ (m:=N) ⟨_,_,rfl,g9⟩
  rintro M s ⟨d,c,rfl,g9⟩
  cases M with
  |zero=>simp only[jZ]at g9;cases g9
  |succ M=>
   rw[jZ]at g9
   refine sq ?_
   refine sq ?_
   obtain⟨B,a,g9⟩:=bnd g9
   refine Goes.cut (s':=(ofG 77 (kK u v (kA8 j (v.length:Int) c d [(63,.bool B)])),[])) ?_ ?_
   ·rcases wyD a with⟨p,a⟩|⟨p,a⟩
    ·obtain rfl:=si a
     exact tr fol [2] (kK u v (kA8 j (v.length:Int) c d [(63,.bool true)])) (ac (gw p) az)
    obtain⟨C,e,a⟩:=bnd a
    obtain⟨D,f,a⟩:=bnd a
    obtain rfl:=si a
    exact tr fol [2,7,8,17,18] (kK u v (kA8 j (v.length:Int) c d [(63,.bool (decide ((w64 (c*C))>(w64 ((w64 (d*1000000000))+D)))))])) (ac (gw p) (ac (iv vG encI e) (ac (lv 0 ce3 encI e rfl) (ac (iv vG encI f) (ac (lv 0 ce3 encI f rfl) az)))))
   refine ihB g9 (fun E g9=>?_) (fun E g9=>?_)
   ·refine Goes.skip ?_
    refine Goes.block ?_
    refine sh fol (kK u v (kA8 j (v.length:Int) (w64 (c-1)) d [])) ?_
    obtain⟨k,g,g9⟩:=bnd g9
    refine sq (gr fol [4,5] (kK u v (kA8 j (v.length:Int) (w64 (c-1)) (w64 (d+k)) [])) (ac (iv vG encI g) (ac (lv 0 ce3 encI g rfl) az)) ?_)
    refine sh fol (kK u v (kA8 j (v.length:Int) (w64 (c-1)) (w64 (d+k)) [(74,.bool (decide ((w64 (d+k))>=1000000000)))])) ?_
    refine ihD g9 (fun F g9=>?_) (fun F g9=>?_)
    ·refine sh fol (kB4 (w64 (c-1))) ?_
     refine Goes.ret ?_
     obtain rfl:=si g9
     exact Or.inr (⟨rfl,_,rfl,(gw2 [.i (w64 (c-1))] (Ua tI))⟩)
    refine Goes.skip ?_
    exact⟨M,(ofG 77 (kK u v (kA8 j (v.length:Int) (w64 (c-1)) (w64 (d+k)) [])),[]),Nat.lt_succ_self _,(Sub.keep [0,1,2,7,9,10] rfl rfl),_,_,rfl,g9⟩
   refine Goes.exit ?_
   obtain rfl:=si g9
   exact Or.inl (⟨rfl,_,rfl,(Sub.keep [9] rfl rfl)⟩)
 rintro x s' (⟨rfl,t,rfl,hsub⟩|⟨rfl,J,rfl,hret⟩)
 ·try dsimp only at h
  refine Goes.sub hsub ?_
  refine sh fol (kB4 t) ?_
  refine Goes.ret ?_
  obtain rfl:=si h
  exact(gw2 [.i t] (Ua tI))
 try dsimp only at h
 obtain rfl:=si h
 exact hret
def jf (a:List Int):Nat->(List Int)->Option (List Int)
 |0,_=>none
 |K+1,b=>
  if(b.length:Int)<(w64 ((a.length:Int)+1))then
  (app 8 b [0]).bind fun c=>
  jf a K c
  else
  some b
def ko (h:List Int) (e:Int) (a:Int):Nat->(List Int)->Int->Int->Option ((List Int)×Int)
 |0,_,_,_=>none
 |K+1,f,b,c=>
  if c<(h.length:Int)then
  (idx h c).bind fun d=>
  (idx f (w64 (c+e))).bind fun g=>
  ((if(w64 (g-((w64 ((w64 (a*d))+b)).tmod 1000000000)))<0 then
  some (w64 ((w64 ((w64 ((w64 (a*d))+b)).tdiv 1000000000))+1),w64 ((w64 (g-((w64 ((w64 (a*d))+b)).tmod 1000000000)))+1000000000))
  else
  some (w64 ((w64 ((w64 (a*d))+b)).tdiv 1000000000),w64 (g-((w64 ((w64 (a*d))+b)).tmod 1000000000))):Option (Int×Int))).bind fun(i,j)=>
  (put f (w64 (c+e)) j).bind fun k=>
  ko h e a K k i (w64 (c+1))
  else
  some (f,b)
def zl (h:List Int) (b:Int) (e:Int):Nat->(List Int)->Int->Int->Option ((List Int)×Int×Int)
 |0,_,_,_=>none
 |K+1,c,d,a=>
  if a<(h.length:Int)then
  (idx c (w64 (a+b))).bind fun f=>
  (idx h a).bind fun g=>
  (put c (w64 (a+b)) ((w64 ((w64 (f+g))+d)).tmod 1000000000)).bind fun i=>
  zl h b e K i (w64 ((w64 ((w64 (f+g))+d)).tdiv 1000000000)) (w64 (a+1))
  else
  some (c,w64 (e-1),d)
def zH (N:Nat) (b:List Int):Nat->(List Int)->(List Int)->Int->Option ((List Int)×(List Int))
 |0,_,_,_=>none
 |K+1,c,d,a=>
  if a>=0 then
  (qar N c b a).bind fun e=>
  (ko b a e N c 0 0).bind fun(g,i)=>
  (idx g (w64 (a+(b.length:Int)))).bind fun j=>
  (put g (w64 (a+(b.length:Int))) (w64 (j-i))).bind fun f=>
  (idx f (w64 (a+(b.length:Int)))).bind fun k=>
  ((if k<0 then
  (zl b a e N f 0 0).bind fun(h,l,m)=>
  (idx h (w64 (a+(b.length:Int)))).bind fun n=>
  (put h (w64 (a+(b.length:Int))) (w64 (n+m))).bind fun o=>
  some (o,l)
  else
  some (f,e):Option ((List Int)×Int))).bind fun(p,q)=>
  (idx d a).bind fun s=>
  (put d a q).bind fun r=>
  zH N b K p r (w64 (a-1))
  else
  some (c,d)
def jK (N:Nat) (a:List Int) (b:List Int):Option ((List Int)×(List Int)):=
 (jE N a b).bind fun q=>
 if q<0 then
 some ([],a)
 else
 if(b.length:Int)=1 then
 (idx b 0).bind fun r=>
 (xm N a r).bind fun p=>
 (yo N ([p.2]:List Int)).bind fun s=>
 some (p.1,s)
 else
 (idx b (w64 ((b.length:Int)-1))).bind fun t=>
 (qcz .i64 1000000000 (w64 (t+1))).bind fun e=>
 (vP N b ([e]:List Int)).bind fun d=>
 (vP N a ([e]:List Int)).bind fun f=>
 (app 8 ([]:List Int) f).bind fun g=>
 (jf a N g).bind fun c=>
 (mk 8 (w64 ((c.length:Int)-(d.length:Int))) 0).bind fun h=>
 (zH N d N c h (w64 ((w64 ((c.length:Int)-(d.length:Int)))-1))).bind fun(i,j)=>
 (cut i 0 (d.length:Int)).bind fun k=>
 (yo N k).bind fun l=>
 (idx ([e]:List Int) 0).bind fun m=>
 (xm N l m).bind fun n=>
 (yo N j).bind fun o=>
 some (o,n.1)
theorem qaV (N:Nat) (a:List Int) (b:List Int) {res:(List Int)×(List Int)} (h:jK N a b=some res):qc ZT (.fn 155) (kBg a b) [] (.tuple (kBg res.1 res.2)) []:=by
 unfold jK at h
 refine Ub Tryz.func155 rfl rfl (m:=206) rfl (rs:=[.tmp 4,.tmp 5]) rfl (l:=(kK a b [])) rfl ?_
 refine sh fol (kK a b []) ?_
 refine sq ?_
 obtain⟨r1,e_r1,h⟩:=bnd h
 refine sq (gr fol [2] (kK a b [(27,.bool (decide (r1<0)))]) (ac (cv (qa4 N a b e_r1)) az) ?_)
 refine ihD h (fun c2 h=>?_) (fun c2 h=>?_)
 ·refine sh fol ((4,.nilslice)::(kBj a [])) ?_
  refine Goes.ret ?_
  obtain rfl:=si h
  exact(gw2 [.nilslice,vl encI a] (FzW.tuple (qb.cons (FzW.nilv (E:=encI)) (qb.cons (Ua (qw encI _ (nl rfl))) qb.nil))))
 refine Goes.skip ?_
 refine sq ?_
 refine sh fol (kK a b [(31,.bool (decide ((b.length:Int)=1)))]) ?_
 refine ihD h (fun c3 h=>?_) (fun c3 h=>?_)
 ·obtain⟨x4,e_x4,h⟩:=bnd h
  obtain⟨r5,e_r5,h⟩:=bnd h
  refine sq (gr fol [2,3,4] [(6,vl encI r5.1),(7,.i r5.2)] (ac (iv vG encI e_x4) (ac (lv 0 ce3 encI e_x4 rfl) (ac (cv (qcJ N a x4 e_r5)) az))) ?_)
  obtain⟨r6,e_r6,h⟩:=bnd h
  refine sq (gq fol [3] ((4,vl encI r5.1)::(kBj r6 [])) [.frozen [.i r5.2]] (ac (hs (.callF 210 [.slice 0 0 1 1 1] [.cells [.i r5.2]] [0] [vl encI ([r5.2]:List Int)] (vl encI r6)) (je (FzL.cons (Fz.lit rfl rfl (Ud (AllST.cons tI AllST.nil))) FzL.nil) (yT N ([r5.2]:List Int) e_r6) (qw encI _ (nl rfl)))) az) ?_)
  refine Goes.sub (show Sub (ofG 206 ((4,vl encI r5.1)::(kBj r6 [])),[.frozen [.i r5.2]]) (ofG 206 ((4,vl encI r5.1)::(kBj r6 [])),[])from(Sub.norm [] [] rfl rfl (.keep (.same (qg encI _)) (.keep (.same (qg encI _)) .nil)) .nil)) ?_
  refine Goes.ret ?_
  obtain rfl:=si h
  exact(gw2 (kBg r5.1 r6) (FzW.tuple (qb.cons (Ua (qw encI _ (nl rfl))) (qb.cons (Ua (qw encI _ (nl rfl))) qb.nil))))
 refine Goes.skip ?_
 obtain⟨x7,e_x7,h⟩:=bnd h
 obtain⟨g,e_q8,h⟩:=bnd h
 refine sq (gq fol [4,5,7] (kK a b [(8,.slice 0 0 1 1 1)]) [.cells [.i g]] (ac (iv vG encI e_x7) (ac (lv 0 ce3 encI e_x7 rfl) (ac (hs (.done (.opt (zf ZT .quo 3 (.const (.int .i64 1000000000)) (.tmp 50) (.i 1000000000) (.i (w64 (x7+1))))) (.i g)) (qca e_q8)) az))) ?_)
 obtain⟨e,e_r9,h⟩:=bnd h
 refine sq (gq fol [2] (kAn a [(8,.slice 0 0 1 1 1),(9,vl encI e)]) [.frozen [.i g]] (ac (hs (.callF 170 [vl encI b,.slice 0 0 1 1 1] [.cells [.i g]] [0] (kBg b ([g]:List Int)) (vl encI e)) (je (FzL.cons (Uf (qw encI _ (nl rfl))) (FzL.cons (Fz.lit rfl rfl (Ud (AllST.cons tI AllST.nil))) FzL.nil)) (qaU N b ([g]:List Int) e_r9) (qw encI _ (nl rfl)))) az) ?_)
 refine Goes.sub (show Sub (ofG 206 (kAn a [(8,.slice 0 0 1 1 1),(9,vl encI e)]),[.frozen [.i g]]) (ofG 206 (kAn a [(8,vl encI ([g]:List Int)),(9,vl encI e)]),[])from(Sub.norm [0] [] rfl rfl (.keep (.same (qg encI _)) (.keep (.frz (Fz.litF rfl rfl (Ud (AllST.cons tI AllST.nil))) (qg encI _)) (.keep (.same (qg encI _)) .nil))) .nil)) ?_
 refine sh fol (kAn a [(8,vl encI ([g]:List Int)),(9,vl encI e),(10,.i (e.length:Int))]) ?_
 obtain⟨r10,e_r10,h⟩:=bnd h
 obtain⟨Y,e_l11,h⟩:=bnd h
 refine sq (gq fol [3,4] (kAn a [(8,vl encI ([g]:List Int)),(9,vl encI e),(10,.i (e.length:Int)),(11,.oslice 1 Y.length 1)]) (.dead::(kF Y [])) (ac (cv (qaU N a ([g]:List Int) e_r10)) (ac (hs (.run [0] (yz ZT [85,85] (.slice 0 0 0 0 1) (vl encI r10)) [.cells []] (.oslice 1 Y.length 1) (.dead::(kF Y [])) true) (qaQ vG (E:=encI) rfl (src_v (E:=encI) rfl _) (dst_z (E:=encI) rfl rfl rfl e_l11 rfl))) az)) ?_)
 refine sq (Goes.block ?_)
 obtain⟨r14,g14,h⟩:=bnd h
 refine Goes.imp (Q:=fun x s'=>(x= .exit 0/\ ∃A,A=r14/\Sub s' (ofG 206 (kAs ([g]:List Int) e (e.length:Int) A []),(kF A [])))) ?_ ?_
 ·refine Goes.sub (s':=(ofG 206 (kAn a (kAs ([g]:List Int) e (e.length:Int) Y [])),(kF Y []))) (Sub.norm [] [some 1] rfl rfl (.keep (.same (qg encI _)) (.keep (.same (qg encI _)) (.keep (.same (qg encI _)) (.keep (.same nI) (.keep (.oslice rfl) .nil))))) (.ks .nil)) ?_
  refine Uc (fun M s=> ∃(F:List Int),s=(ofG 206 (kAn a (kAs ([g]:List Int) e (e.length:Int) F [])),(kF F []))/\jf a M F=some r14) ?_ (m:=N) ⟨_,rfl,g14⟩
  rintro M s ⟨F,rfl,g14⟩
  cases M with
  |zero=>simp only[jf]at g14;cases g14
  |succ M=>
   rw[jf]at g14
   refine sq ?_
   refine sh fol (kAn a (kAs ([g]:List Int) e (e.length:Int) F [(68,.bool (decide ((F.length:Int)<(w64 ((a.length:Int)+1)))))])) ?_
   refine ihD g14 (fun c15 g14=>?_) (fun c15 g14=>?_)
   ·refine Goes.skip ?_
    refine Goes.block ?_
    obtain⟨Z,e_l16,g14⟩:=bnd g14
    refine gq fol [2] (kAn a [(8,vl encI ([g]:List Int)),(9,vl encI e),(10,.i (e.length:Int)),(11,.oslice 2 Z.length 1)]) (.dead:: .cells [.i 0]::(kF Z [])) (ac (hs (.run [0,1] (yz ZT [85,85] (.oslice 0 F.length 1) (.slice 1 0 1 1 1)) (kF F [.cells [.i 0]]) (.oslice 2 Z.length 1) (.dead:: .cells [.i 0]::(kF Z [])) true) (qaQ vG (E:=encI) rfl (qen (E:=encI) (ys:=[0]) rfl rfl rfl rfl) (dst_o (E:=encI) (l:=F) rfl rfl rfl e_l16 rfl))) az) ?_
    exact⟨M,(ofG 206 (kAn a (kAs ([g]:List Int) e (e.length:Int) Z [])),(kF Z [])),Nat.lt_succ_self _,(Sub.norm [] [some 2] rfl rfl (.keep (.same (qg encI _)) (.keep (.same (qg encI _)) (.keep (.same (qg encI _)) (.keep (.same nI) (.keep (.oslice rfl) .nil))))) (.ks .nil)),_,rfl,g14⟩
   refine Goes.exit ?_
   obtain rfl:=si g14
   exact⟨rfl,_,rfl,(Sub.keep [8,9,10,11] rfl rfl)⟩
 rintro x s' ⟨rfl,A,rfl,hsub⟩
 refine Goes.sub hsub ?_
 obtain⟨V,e_l17,h⟩:=bnd h
 refine sq (gq fol [4] (kAs ([g]:List Int) e (e.length:Int) A [(12,.slice 1 0 V.length V.length 1)]) (kF A (kF V [])) (ac (hs (.run [] (jh ZT 85 (.i (w64 ((A.length:Int)-(e.length:Int)))) (.i (w64 ((A.length:Int)-(e.length:Int))))) (kF A []) (.slice 1 0 V.length V.length 1) (kF A (kF V [])) false) (qcQ vG (E:=encI) (z:=0) rfl (by kernel_rfl) e_l17 rfl)) az) ?_)
 refine sq ?_
 refine sh fol (kA ([g]:List Int) e (e.length:Int) A V (w64 ((w64 ((A.length:Int)-(e.length:Int)))-1)) []) ?_
 refine Goes.block ?_
 obtain⟨r23,g23,h⟩:=bnd h
 refine Goes.imp (Q:=fun x s'=>(x= .exit 2/\ ∃a0 o,(a0,o)=r23/\Sub s' (ofG 206 [(8,vl encI ([g]:List Int)),(10,.i (e.length:Int)),(11,.oslice 0 a0.length 1),(12,.slice 1 0 o.length o.length 1)],(kF a0 (kF o []))))) ?_ ?_
 ·refine Uc (fun M s=> ∃(B:List Int) (c:List Int) (d:Int),s=(ofG 206 (kA ([g]:List Int) e (e.length:Int) B c d []),(kF B (kF c [])))/\zH N e M B c d=some r23) ?_ (m:=N) ⟨_,_,_,rfl,g23⟩
  rintro M s ⟨B,c,d,rfl,g23⟩
  cases M with
  |zero=>simp only[zH]at g23;cases g23
  |succ M=>
   rw[zH]at g23
   refine sq ?_
   refine sh fol (kA ([g]:List Int) e (e.length:Int) B c d [(83,.bool (decide (d>=0)))]) ?_
   refine ihD g23 (fun c24 g23=>?_) (fun c24 g23=>?_)
   ·refine Goes.skip ?_
    refine sq (Goes.block ?_)
    obtain⟨f,e_r25,g23⟩:=bnd g23
    refine sq (gr fol [3] (kA ([g]:List Int) e (e.length:Int) B c d (kBu f)) (ac (hs (.call 211 [.oslice 0 B.length 1,vl encI e,.i d] (kF B (kF c [])) [0] [vl encI B,vl encI e,.i d] (.i f)) (qcW (FzL.cons (Fz.os (E:=encI) rfl rfl (nl rfl)) (FzL.cons (Uf (qw encI _ (nl rfl))) (FzL.cons (Uf tI) FzL.nil))) (qhA N B e d e_r25) tI rfl)) az) ?_)
    refine sh fol (kA ([g]:List Int) e (e.length:Int) B c d [(14,.i f),(15,.i 0)]) ?_
    refine sq ?_
    refine sh fol (kA ([g]:List Int) e (e.length:Int) B c d [(14,.i f),(15,.i 0),(16,.i 0)]) ?_
    refine Goes.block ?_
    obtain⟨r31,g31,g23⟩:=bnd g23
    refine Goes.imp (Q:=fun x s'=>(x= .exit 4/\ ∃t n30,(t,n30)=r31/\Sub s' (ofG 206 (kA ([g]:List Int) e (e.length:Int) t c d [(14,.i f),(15,.i n30)]),(kF t (kF c []))))) ?_ ?_
    ·refine Uc (fun M s=> ∃(k:List Int) (p:Int) (j:Int),s=(ofG 206 (kA ([g]:List Int) e (e.length:Int) k c d (kA1 f p j [])),(kF k (kF c [])))/\ko e d f M k p j=some r31) ?_ (m:=N) ⟨_,_,_,rfl,g31⟩
     rintro M s ⟨k,p,j,rfl,g31⟩
     cases M with
     |zero=>simp only[ko]at g31;cases g31
     |succ M=>
      rw[ko]at g31
      refine sq ?_
      refine sh fol (kA ([g]:List Int) e (e.length:Int) k c d (kA1 f p j [(92,.bool (decide (j<(e.length:Int))))])) ?_
      refine ihD g31 (fun c32 g31=>?_) (fun c32 g31=>?_)
      ·refine Goes.skip ?_
       refine sq (Goes.block ?_)
       obtain⟨C,e_x33,g31⟩:=bnd g31
       refine sq (gr fol [3,4] (kA ([g]:List Int) e (e.length:Int) k c d [(14,.i f),(16,.i j),(17,.i (w64 ((w64 (f*C))+p)))]) (ac (iv vG encI e_x33) (ac (lv 0 ce3 encI e_x33 rfl) az)) ?_)
       obtain⟨X,G,g31⟩:=bnd g31
       refine sq (gr fol [4,5] (kA ([g]:List Int) e (e.length:Int) k c d [(14,.i f),(16,.i j),(17,.i (w64 ((w64 (f*C))+p))),(18,.i (w64 (X-((w64 ((w64 (f*C))+p)).tmod 1000000000))))]) (ac (hs (.done (.opt (qj ZT 85 (.oslice 0 k.length 1) (.i (w64 (j+d))))) (.ptr 0 ((w64 (j+d):Int).toNat*1+0))) (qf4 vG G)) (ac (hs (.run [0] (jr ZT 3 (.ptr 0 ((w64 (j+d):Int).toNat*1+0))) (kF k (kF c [])) (.i X) (kF k (kF c [])) false) (qcB ce3 (E:=encI) (l:=k) rfl rfl G (nl rfl) rfl)) az)) ?_)
       refine sh fol (kA ([g]:List Int) e (e.length:Int) k c d (kA1 f (w64 ((w64 ((w64 (f*C))+p)).tdiv 1000000000)) j [(18,.i (w64 (X-((w64 ((w64 (f*C))+p)).tmod 1000000000))))])) ?_
       refine sq ?_
       refine sh fol (kA ([g]:List Int) e (e.length:Int) k c d (kA1 f (w64 ((w64 ((w64 (f*C))+p)).tdiv 1000000000)) j [(18,.i (w64 (X-((w64 ((w64 (f*C))+p)).tmod 1000000000)))),(115,.bool (decide ((w64 (X-((w64 ((w64 (f*C))+p)).tmod 1000000000)))<0)))])) ?_
       obtain⟨r37,g37,g31⟩:=bnd g31
       refine Goes.imp (Q:=fun x s'=>(x= .normal/\ ∃O n36,(O,n36)=r37/\Sub s' (ofG 206 (kA ([g]:List Int) e (e.length:Int) k c d (kA1 f O j [(18,.i n36)])),(kF k (kF c []))))) ?_ ?_
       ·refine ihD g37 (fun c38 g37=>?_) (fun c38 g37=>?_)
        ·refine sh fol (kA ([g]:List Int) e (e.length:Int) k c d (kA1 f (w64 ((w64 ((w64 (f*C))+p)).tdiv 1000000000)) j [(18,.i (w64 ((w64 (X-((w64 ((w64 (f*C))+p)).tmod 1000000000)))+1000000000)))])) ?_
         refine gh fol (kA ([g]:List Int) e (e.length:Int) k c d (kA1 f (w64 ((w64 ((w64 ((w64 (f*C))+p)).tdiv 1000000000))+1)) j [(18,.i (w64 ((w64 (X-((w64 ((w64 (f*C))+p)).tmod 1000000000)))+1000000000)))])) ?_
         obtain rfl:=si g37
         exact⟨rfl,_,_,rfl,(Sub.refl _)⟩
        refine Goes.skip ?_
        obtain rfl:=si g37
        exact⟨rfl,_,_,rfl,(Sub.keep [8,9,10,11,12,13,14,15,16,18] rfl rfl)⟩
       rintro x s' ⟨rfl,O,n36,rfl,hsub⟩
       try dsimp only at g31
       refine Goes.sub hsub ?_
       obtain⟨P,e_l39,g31⟩:=bnd g31
       refine gq fol [5,6] (kA ([g]:List Int) e (e.length:Int) k c d (kA1 f O j [])) (kF P (kF c [])) (ac (hs (.done (.opt (qj ZT 85 (.oslice 0 k.length 1) (.i (w64 (j+d))))) (.ptr 0 ((w64 (j+d):Int).toNat*1+0))) (qf4 vG G)) (ac (hs (.run [0] (qp ZT 3 (.ptr 0 ((w64 (j+d):Int).toNat*1+0)) (.i n36)) (kF k (kF c [])) .undef (kF P (kF c [])) true) (qae (E:=encI) (l:=k) (y:=n36) rfl (show _=some 1 by kernel_rfl) rfl G rfl rfl rfl rfl rfl e_l39 rfl)) az)) ?_
       refine Goes.sub (show Sub (ofG 206 (kA ([g]:List Int) e (e.length:Int) k c d (kA1 f O j [])),(kF P (kF c []))) (ofG 206 (kA ([g]:List Int) e (e.length:Int) P c d (kA1 f O j [])),(kF P (kF c [])))from(Sub.norm [] [some 0,some 1] rfl rfl (.keep (.same (qg encI _)) (.keep (.same (qg encI _)) (.keep (.same nI) (.keep (.osliceE rfl (vM e_l39)) (.keep (.slice rfl) (.keep (.same nI) (.keep (.same nI) (.keep (.same nI) (.keep (.same nI) .nil))))))))) (.ks (.ks .nil)))) ?_
       refine gh fol (kA ([g]:List Int) e (e.length:Int) P c d (kA1 f O (w64 (j+1)) [])) ?_
       exact⟨M,(ofG 206 (kA ([g]:List Int) e (e.length:Int) P c d (kA1 f O (w64 (j+1)) [])),(kF P (kF c []))),Nat.lt_succ_self _,(Sub.refl _),_,_,_,rfl,g31⟩
      refine Goes.exit ?_
      obtain rfl:=si g31
      exact⟨rfl,_,_,rfl,(Sub.keep [8,9,10,11,12,13,14,15] rfl rfl)⟩
    rintro x s' ⟨rfl,t,n30,rfl,hsub⟩
    try dsimp only at g23
    refine Goes.sub hsub ?_
    obtain⟨x40,H,g23⟩:=bnd g23
    obtain⟨u,e_l41,g23⟩:=bnd g23
    refine sq (gq fol [8,9,12,13] (kA ([g]:List Int) e (e.length:Int) t c d (kBu f)) (kF u (kF c [])) (ac (hs (.done (.opt (qj ZT 85 (.oslice 0 t.length 1) (.i (w64 (d+(e.length:Int)))))) (.ptr 0 ((w64 (d+(e.length:Int)):Int).toNat*1+0))) (qf4 vG H)) (ac (hs (.run [0] (jr ZT 3 (.ptr 0 ((w64 (d+(e.length:Int)):Int).toNat*1+0))) (kF t (kF c [])) (.i x40) (kF t (kF c [])) false) (qcB ce3 (E:=encI) (l:=t) rfl rfl H (nl rfl) rfl)) (ac (hs (.done (.opt (qj ZT 85 (.oslice 0 t.length 1) (.i (w64 (d+(e.length:Int)))))) (.ptr 0 ((w64 (d+(e.length:Int)):Int).toNat*1+0))) (qf4 vG H)) (ac (hs (.run [0] (qp ZT 3 (.ptr 0 ((w64 (d+(e.length:Int)):Int).toNat*1+0)) (.i (w64 (x40-n30)))) (kF t (kF c [])) .undef (kF u (kF c [])) true) (qae (E:=encI) (l:=t) (y:=w64 (x40-n30)) rfl (show _=some 1 by kernel_rfl) rfl H rfl rfl rfl rfl rfl e_l41 rfl)) az)))) ?_)
    refine Goes.sub (show Sub (ofG 206 (kA ([g]:List Int) e (e.length:Int) t c d (kBu f)),(kF u (kF c []))) (ofG 206 (kA ([g]:List Int) e (e.length:Int) u c d (kBu f)),(kF u (kF c [])))from(Sub.norm [] [some 0,some 1] rfl rfl (.keep (.same (qg encI _)) (.keep (.same (qg encI _)) (.keep (.same nI) (.keep (.osliceE rfl (vM e_l41)) (.keep (.slice rfl) (.keep (.same nI) (.keep (.same nI) .nil))))))) (.ks (.ks .nil)))) ?_
    refine sq ?_
    obtain⟨x42,e_x42,g23⟩:=bnd g23
    refine sq (gr fol [4,5] (kA ([g]:List Int) e (e.length:Int) u c d [(14,.i f),(145,.bool (decide (x42<0)))]) (ac (hs (.done (.opt (qj ZT 85 (.oslice 0 u.length 1) (.i (w64 (d+(e.length:Int)))))) (.ptr 0 ((w64 (d+(e.length:Int)):Int).toNat*1+0))) (qf4 vG e_x42)) (ac (hs (.run [0] (jr ZT 3 (.ptr 0 ((w64 (d+(e.length:Int)):Int).toNat*1+0))) (kF u (kF c [])) (.i x42) (kF u (kF c [])) false) (qcB ce3 (E:=encI) (l:=u) rfl rfl e_x42 (nl rfl) rfl)) az)) ?_)
    obtain⟨r45,g45,g23⟩:=bnd g23
    refine Goes.imp (Q:=fun x s'=>(x= .normal/\ ∃q n44,(q,n44)=r45/\Sub s' (ofG 206 (kA ([g]:List Int) e (e.length:Int) q c d (kBu n44)),(kF q (kF c []))))) ?_ ?_
    ·refine ihD g45 (fun c46 g45=>?_) (fun c46 g45=>?_)
     ·refine sh fol (kA ([g]:List Int) e (e.length:Int) u c d (kBu (w64 (f-1)))) ?_
      refine sh fol (kA ([g]:List Int) e (e.length:Int) u c d [(14,.i (w64 (f-1))),(19,.i 0)]) ?_
      refine sq ?_
      refine sh fol (kA ([g]:List Int) e (e.length:Int) u c d [(14,.i (w64 (f-1))),(19,.i 0),(20,.i 0)]) ?_
      refine Goes.block ?_
      obtain⟨r53,g53,g45⟩:=bnd g45
      refine Goes.imp (Q:=fun x s'=>(x= .exit 6/\ ∃v a1 n52,(v,a1,n52)=r53/\Sub s' (ofG 206 (kA ([g]:List Int) e (e.length:Int) v c d [(14,.i a1),(19,.i n52)]),(kF v (kF c []))))) ?_ ?_
      ·refine Uc (fun M s=> ∃(r:List Int) (w:Int) (n:Int),s=(ofG 206 (kA ([g]:List Int) e (e.length:Int) r c d [(14,.i (w64 (f-1))),(19,.i w),(20,.i n)]),(kF r (kF c [])))/\zl e d f M r w n=some r53) ?_ (m:=N) ⟨_,_,_,rfl,g53⟩
       rintro M s ⟨r,w,n,rfl,g53⟩
       cases M with
       |zero=>simp only[zl]at g53;cases g53
       |succ M=>
        rw[zl]at g53
        refine sq ?_
        refine sh fol (kA ([g]:List Int) e (e.length:Int) r c d [(14,.i (w64 (f-1))),(19,.i w),(20,.i n),(150,.bool (decide (n<(e.length:Int))))]) ?_
        refine ihD g53 (fun c54 g53=>?_) (fun c54 g53=>?_)
        ·refine Goes.skip ?_
         refine sq (Goes.block ?_)
         obtain⟨D,I,g53⟩:=bnd g53
         obtain⟨J,e_x56,g53⟩:=bnd g53
         refine sq (gr fol [4,5,8,9] (kA ([g]:List Int) e (e.length:Int) r c d [(14,.i (w64 (f-1))),(20,.i n),(21,.i (w64 ((w64 (D+J))+w)))]) (ac (hs (.done (.opt (qj ZT 85 (.oslice 0 r.length 1) (.i (w64 (n+d))))) (.ptr 0 ((w64 (n+d):Int).toNat*1+0))) (qf4 vG I)) (ac (hs (.run [0] (jr ZT 3 (.ptr 0 ((w64 (n+d):Int).toNat*1+0))) (kF r (kF c [])) (.i D) (kF r (kF c [])) false) (qcB ce3 (E:=encI) (l:=r) rfl rfl I (nl rfl) rfl)) (ac (iv vG encI e_x56) (ac (lv 0 ce3 encI e_x56 rfl) az)))) ?_)
         obtain⟨K,e_l57,g53⟩:=bnd g53
         refine sq (gq fol [6,7] (kA ([g]:List Int) e (e.length:Int) r c d [(14,.i (w64 (f-1))),(20,.i n),(21,.i (w64 ((w64 (D+J))+w)))]) (kF K (kF c [])) (ac (hs (.done (.opt (qj ZT 85 (.oslice 0 r.length 1) (.i (w64 (n+d))))) (.ptr 0 ((w64 (n+d):Int).toNat*1+0))) (qf4 vG I)) (ac (hs (.run [0] (qp ZT 3 (.ptr 0 ((w64 (n+d):Int).toNat*1+0)) (.i ((w64 ((w64 (D+J))+w)).tmod 1000000000))) (kF r (kF c [])) .undef (kF K (kF c [])) true) (qae (E:=encI) (l:=r) (y:=(w64 ((w64 (D+J))+w)).tmod 1000000000) rfl (show _=some 1 by kernel_rfl) rfl I rfl rfl rfl rfl rfl e_l57 rfl)) az)) ?_)
         refine Goes.sub (show Sub (ofG 206 (kA ([g]:List Int) e (e.length:Int) r c d [(14,.i (w64 (f-1))),(20,.i n),(21,.i (w64 ((w64 (D+J))+w)))]),(kF K (kF c []))) (ofG 206 (kA ([g]:List Int) e (e.length:Int) K c d [(14,.i (w64 (f-1))),(20,.i n),(21,.i (w64 ((w64 (D+J))+w)))]),(kF K (kF c [])))from(Sub.norm [] [some 0,some 1] rfl rfl (.keep (.same (qg encI _)) (.keep (.same (qg encI _)) (.keep (.same nI) (.keep (.osliceE rfl (vM e_l57)) (.keep (.slice rfl) (.keep (.same nI) (.keep (.same nI) (.keep (.same nI) (.keep (.same nI) .nil))))))))) (.ks (.ks .nil)))) ?_
         refine gh fol (kA ([g]:List Int) e (e.length:Int) K c d [(14,.i (w64 (f-1))),(19,.i (w64 ((w64 ((w64 (D+J))+w)).tdiv 1000000000))),(20,.i n)]) ?_
         refine gh fol (kA ([g]:List Int) e (e.length:Int) K c d [(14,.i (w64 (f-1))),(19,.i (w64 ((w64 ((w64 (D+J))+w)).tdiv 1000000000))),(20,.i (w64 (n+1)))]) ?_
         exact⟨M,(ofG 206 (kA ([g]:List Int) e (e.length:Int) K c d [(14,.i (w64 (f-1))),(19,.i (w64 ((w64 ((w64 (D+J))+w)).tdiv 1000000000))),(20,.i (w64 (n+1)))]),(kF K (kF c []))),Nat.lt_succ_self _,(Sub.refl _),_,_,_,rfl,g53⟩
        refine Goes.exit ?_
        obtain rfl:=si g53
        exact⟨rfl,_,_,_,rfl,(Sub.keep [8,9,10,11,12,13,14,19] rfl rfl)⟩
      rintro x s' ⟨rfl,v,a1,n52,rfl,hsub⟩
      try dsimp only at g45
      refine Goes.sub hsub ?_
      obtain⟨x58,L,g45⟩:=bnd g45
      obtain⟨l59,e_l59,g45⟩:=bnd g45
      refine gq fol [8,9,12,13] (kA ([g]:List Int) e (e.length:Int) v c d (kBu a1)) (kF l59 (kF c [])) (ac (hs (.done (.opt (qj ZT 85 (.oslice 0 v.length 1) (.i (w64 (d+(e.length:Int)))))) (.ptr 0 ((w64 (d+(e.length:Int)):Int).toNat*1+0))) (qf4 vG L)) (ac (hs (.run [0] (jr ZT 3 (.ptr 0 ((w64 (d+(e.length:Int)):Int).toNat*1+0))) (kF v (kF c [])) (.i x58) (kF v (kF c [])) false) (qcB ce3 (E:=encI) (l:=v) rfl rfl L (nl rfl) rfl)) (ac (hs (.done (.opt (qj ZT 85 (.oslice 0 v.length 1) (.i (w64 (d+(e.length:Int)))))) (.ptr 0 ((w64 (d+(e.length:Int)):Int).toNat*1+0))) (qf4 vG L)) (ac (hs (.run [0] (qp ZT 3 (.ptr 0 ((w64 (d+(e.length:Int)):Int).toNat*1+0)) (.i (w64 (x58+n52)))) (kF v (kF c [])) .undef (kF l59 (kF c [])) true) (qae (E:=encI) (l:=v) (y:=w64 (x58+n52)) rfl (show _=some 1 by kernel_rfl) rfl L rfl rfl rfl rfl rfl e_l59 rfl)) az)))) ?_
      obtain rfl:=si g45
      exact⟨rfl,_,_,rfl,((show Sub (ofG 206 (kA ([g]:List Int) e (e.length:Int) v c d (kBu a1)),(kF l59 (kF c []))) (ofG 206 (kA ([g]:List Int) e (e.length:Int) l59 c d (kBu a1)),(kF l59 (kF c [])))from(Sub.norm [] [some 0,some 1] rfl rfl (.keep (.same (qg encI _)) (.keep (.same (qg encI _)) (.keep (.same nI) (.keep (.osliceE rfl (vM e_l59)) (.keep (.slice rfl) (.keep (.same nI) (.keep (.same nI) .nil))))))) (.ks (.ks .nil)))).trans (Sub.refl _))⟩
     refine Goes.skip ?_
     obtain rfl:=si g45
     exact⟨rfl,_,_,rfl,(Sub.keep [8,9,10,11,12,13,14] rfl rfl)⟩
    rintro x s' ⟨rfl,q,n44,rfl,hsub⟩
    try dsimp only at g23
    refine Goes.sub hsub ?_
    obtain⟨x60,e_x60,g23⟩:=bnd g23
    obtain⟨U,e_l61,g23⟩:=bnd g23
    refine gq fol [3,4] (kA ([g]:List Int) e (e.length:Int) q c d []) (kF q (kF U [])) (ac (hs (.done (.opt (qj ZT 85 (.slice 1 0 c.length c.length 1) (.i d))) (.ptr 1 ((d:Int).toNat*1+0))) (qal vG e_x60)) (ac (hs (.run [1] (qp ZT 3 (.ptr 1 ((d:Int).toNat*1+0)) (.i n44)) (kF q (kF c [])) .undef (kF q (kF U [])) true) (qae (E:=encI) (l:=c) (y:=n44) rfl (show _=some 1 by kernel_rfl) rfl e_x60 rfl rfl rfl rfl rfl e_l61 rfl)) az)) ?_
    refine Goes.sub (show Sub (ofG 206 (kA ([g]:List Int) e (e.length:Int) q c d []),(kF q (kF U []))) (ofG 206 (kA ([g]:List Int) e (e.length:Int) q U d []),(kF q (kF U [])))from(Sub.norm [] [some 0,some 1] rfl rfl (.keep (.same (qg encI _)) (.keep (.same (qg encI _)) (.keep (.same nI) (.keep (.oslice rfl) (.keep (.sliceE rfl (vM e_l61)) (.keep (.same nI) .nil)))))) (.ks (.ks .nil)))) ?_
    refine gh fol (kA ([g]:List Int) e (e.length:Int) q U (w64 (d-1)) []) ?_
    exact⟨M,(ofG 206 (kA ([g]:List Int) e (e.length:Int) q U (w64 (d-1)) []),(kF q (kF U []))),Nat.lt_succ_self _,(Sub.refl _),_,_,_,rfl,g23⟩
   refine Goes.exit ?_
   obtain rfl:=si g23
   exact⟨rfl,_,_,rfl,(Sub.keep [8,10,11,12] rfl rfl)⟩
 rintro x s' ⟨rfl,a0,o,rfl,hsub⟩
 try dsimp only at h
 refine Goes.sub hsub ?_
 refine sq (Goes.sub (s':=(ofG 206 [(8,vl encI ([g]:List Int)),(10,.i (e.length:Int)),(11,vl encI a0),(12,.slice 0 0 o.length o.length 1)],(kF o []))) (Sub.norm [0] [some 1] rfl rfl (.keep (.same (qg encI _)) (.keep (.same nI) (.keep (.frz (Fz.os (E:=encI) rfl rfl (nl rfl)) (qg encI _)) (.keep (.slice rfl) .nil)))) (.ks .nil)) ?_)
 obtain⟨s62,e_s62,h⟩:=bnd h
 obtain⟨r63,e_r63,h⟩:=bnd h
 obtain⟨x64,e_x64,h⟩:=bnd h
 obtain⟨r65,e_r65,h⟩:=bnd h
 refine gr fol [2,3,5,6,7] [(12,.slice 0 0 o.length o.length 1),(22,vl encI r65.1)] (ac (hs (.done (.opt (kT ZT 85 (vl encI a0) none (some (.i (e.length:Int))) none)) (vl encI s62)) (qmk vG (E:=encI) rfl none (some (e.length:Int)) e_s62)) (ac (cv (yT N s62 e_r63)) (ac (iv vG encI e_x64) (ac (lv 0 ce3 encI e_x64 rfl) (ac (cv (qcJ N r63 x64 e_r65)) az))))) ?_
 obtain⟨r66,e_r66,h⟩:=bnd h
 refine sq (gq fol [1] ((4,vl encI r66)::(kBj r65.1 [])) (kAp o) (ac (hs (.callF 210 [.slice 0 0 o.length o.length 1] (kF o []) [0] [vl encI o] (vl encI r66)) (je (FzL.cons (Fz.sl (E:=encI) rfl rfl (nl rfl)) FzL.nil) (yT N o e_r66) (qw encI _ (nl rfl)))) az) ?_)
 refine Goes.sub (show Sub (ofG 206 ((4,vl encI r66)::(kBj r65.1 [])),(kAp o)) (ofG 206 ((4,vl encI r66)::(kBj r65.1 [])),[])from(Sub.norm [] [] rfl rfl (.keep (.same (qg encI _)) (.keep (.same (qg encI _)) .nil)) .nil)) ?_
 refine Goes.ret ?_
 obtain rfl:=si h
 exact(gw2 (kBg r66 r65.1) (FzW.tuple (qb.cons (Ua (qw encI _ (nl rfl))) (qb.cons (Ua (qw encI _ (nl rfl))) qb.nil))))
def zt (N:Nat):Nat->(List Int)->(List Int)->Option (List Int)
 |0,_,_=>none
 |K+1,b,a=>
  if(a.length:Int)>0 then
  (jK N b a).bind fun c=>
  zt N K a c.2
  else
  some b
def qaK (N:Nat) (a:List Int) (b:List Int):Option (List Int):=
 (zt N N a b).bind fun c=>
 some c
theorem qd7 (N:Nat) (a:List Int) (b:List Int) {res:List Int} (h:qaK N a b=some res):qc ZT (.fn 96) (kBg a b) [] (vl encI res) []:=by
 unfold qaK at h
 refine Ub Tryz.func96 rfl rfl (m:=19) rfl (rs:=[.tmp 4]) rfl (l:=(kK a b [])) rfl ?_
 refine sh fol (kK a b []) ?_
 refine sq (Goes.block ?_)
 obtain⟨i,g4,h⟩:=bnd h
 refine Goes.imp (Q:=fun x s'=>(x= .exit 0/\ ∃d,d=i/\Sub s' (ofG 19 (kAn d []),[]))) ?_ ?_
 ·refine Uc (fun M s=> ∃(e:List Int) (c:List Int),s=(ofG 19 (kK e c []),[])/\zt N M e c=some i) ?_ (m:=N) ⟨_,_,rfl,g4⟩
  rintro M s ⟨e,c,rfl,g4⟩
  cases M with
  |zero=>simp only[zt]at g4;cases g4
  |succ M=>
   rw[zt]at g4
   refine sq ?_
   refine sh fol (kK e c [(9,.bool (decide ((c.length:Int)>0)))]) ?_
   refine ihD g4 (fun j g4=>?_) (fun j g4=>?_)
   ·refine Goes.skip ?_
    refine Goes.block ?_
    obtain⟨g,f,g4⟩:=bnd g4
    refine sq (gr fol [2] [(1,vl encI c),(6,vl encI g.2)] (ac (cv (qaV N e c f)) az) ?_)
    refine gh fol (kK c g.2 []) ?_
    exact⟨M,(ofG 19 (kK c g.2 []),[]),Nat.lt_succ_self _,(Sub.refl _),_,_,rfl,g4⟩
   refine Goes.exit ?_
   obtain rfl:=si g4
   exact⟨rfl,_,rfl,(Sub.keep [0] rfl rfl)⟩
 rintro x s' ⟨rfl,d,rfl,hsub⟩
 refine Goes.sub hsub ?_
 refine sh fol [(4,vl encI d)] ?_
 refine Goes.ret ?_
 obtain rfl:=si h
 exact(gw2 [vl encI d] (Ua (qw encI _ (nl rfl))))
def qa0 (N:Nat) (a:Str):Option Int:=
 (if(a.length:Int)>0 then
 (idx a 0).bind fun t=>
 some (decide ((t.toNat:Int)=45))
 else
 some false:Option Bool).bind fun u=>
 ((if u=true then
 (cut a 1 (a.length:Int)).bind fun v=>
 some v
 else
 some a:Option Str)).bind fun b=>
 (yO N b).bind fun c=>
 ((cut b 0 c).bind fun f=>
 (jA N f).bind fun g=>
 if(!g)=true then
 some true
 else
 (idx a 0).bind fun h=>
 if(h.toNat:Int)=45 then
 (cut b 0 c).bind fun i=>
 some (i==[48])
 else
 some false:Option Bool).bind fun j=>
 if j=true then
 some 1
 else
 (if c<(b.length:Int)then
 (cut b (w64 (c+1)) (b.length:Int)).bind fun k=>
 (jA N k).bind fun l=>
 if(!l)=true then
 some true
 else
 (cut b (w64 (c+1)) (b.length:Int)).bind fun m=>
 if(m==[48])=true then
 some true
 else
 (cut b (w64 (c+1)) (b.length:Int)).bind fun n=>
 some (n==[49])
 else
 some false:Option Bool).bind fun o=>
 if o=true then
 some 1
 else
 (if c>600 then
 some true
 else
 some (decide ((w64 ((w64 ((b.length:Int)-c))-1))>600)):Option Bool).bind fun p=>
 if p=true then
 some 4
 else
 ((if c<(b.length:Int)then
 (jJ N b).bind fun d=>
 (qaK N d.1.w d.2.w).bind fun e=>
 (if(!decide ((e.length:Int)=1))=true then
 some true
 else
 (idx e 0).bind fun q=>
 some (!decide (q=1)):Option Bool).bind fun r=>
 if r=true then
 some (.inr 1)
 else
 some (.inl ())
 else
 some (.inl ()):Option (Unit⊕Int))).bind (fun
 |(.inl ())=>
 some 0
 |(.inr s)=>
 some s)
theorem qbm (N:Nat) (a:Str) {res:Int} (h:qa0 N a=some res):qc ZT (.fn 17) [.str a] [] (.i res) []:=by
 unfold qa0 at h
 refine Ub Tryz.func17 rfl rfl (m:=96) rfl (rs:=[.tmp 2]) rfl (l:=(kAQ a [])) rfl ?_
 refine sh fol (kAQ a []) ?_
 refine sh fol (kAQ a [(3,.str a)]) ?_
 refine sq ?_
 refine sq ?_
 obtain⟨b3,g,h⟩:=bnd h
 refine Goes.cut (s':=(ofG 96 (kAQ a [(3,.str a),(16,.bool b3)]),[])) ?_ ?_
 ·rcases wyD g with⟨Y,g⟩|⟨Y,g⟩
  ·obtain⟨c2,J,g⟩:=bnd g
   obtain rfl:=si g
   exact tr fol [3,5] (kAQ a [(3,.str a),(16,.bool (decide ((c2.toNat:Int)=45)))]) (ac (gw Y) (ac (hs (.done (.opt (yB ZT 9 (.str a) (.i 0))) (.int .u8 (c2.toNat:Int))) (qaM st9 J)) az))
  obtain rfl:=si g
  exact tr fol [3] (kAQ a [(3,.str a),(16,.bool false)]) (ac (gw Y) az)
 obtain⟨r6,g6,h⟩:=bnd h
 refine Goes.imp (Q:=fun x s'=>(x= .normal/\ ∃e,e=r6/\Sub s' (ofG 96 (kAQ a [(3,.str e)]),[]))) ?_ ?_
 ·refine ihB g6 (fun c7 g6=>?_) (fun c7 g6=>?_)
  ·obtain⟨s8,K,g6⟩:=bnd g6
   refine gr fol [1] (kAQ a [(3,.str s8)]) (ac (hs (.done (.opt (kT ZT 9 (.str a) (some (.i 1)) none none)) (.str s8)) (jg st9 (some 1) none K)) az) ?_
   obtain rfl:=si g6
   exact⟨rfl,_,rfl,(Sub.refl _)⟩
  refine Goes.skip ?_
  obtain rfl:=si g6
  exact⟨rfl,_,rfl,(Sub.keep [0,3] rfl rfl)⟩
 rintro x s' ⟨rfl,e,rfl,hsub⟩
 refine Goes.sub hsub ?_
 obtain⟨d,L,h⟩:=bnd h
 refine sq (gr fol [1] (kAQ a (kA6 e d [])) (ac (cv (qas N e L)) az) ?_)
 refine sq ?_
 refine sq ?_
 obtain⟨Z,c,h⟩:=bnd h
 refine Goes.cut (s':=(ofG 96 (kA6 e d [(36,.bool Z)]),[])) ?_ ?_
 ·obtain⟨r,n,c⟩:=bnd c
  obtain⟨r11,o,c⟩:=bnd c
  rcases wyB c with⟨z,c⟩|⟨z,c⟩
  ·obtain rfl:=si c
   exact tr fol [2,3,5] (kA6 e d [(36,.bool true)]) (ac (hs (.done (.opt (kT ZT 9 (.str e) none (some (.i d)) none)) (.str r)) (jg st9 none (some d) n)) (ac (cv (jk N r o)) (ac (gw z) az)))
  obtain⟨M,t,c⟩:=bnd c
  rcases wyD c with⟨B,c⟩|⟨B,c⟩
  ·obtain⟨O,C,c⟩:=bnd c
   obtain rfl:=si c
   exact tr fol [2,3,5,7,9,12] (kA6 e d [(36,.bool (O==[48]))]) (ac (hs (.done (.opt (kT ZT 9 (.str e) none (some (.i d)) none)) (.str r)) (jg st9 none (some d) n)) (ac (cv (jk N r o)) (ac (gw z) (ac (hs (.done (.opt (yB ZT 23 (.str a) (.i 0))) (.int .u8 (M.toNat:Int))) (qaM qlc t)) (ac (gw B) (ac (hs (.done (.opt (kT ZT 9 (.str e) none (some (.i d)) none)) (.str O)) (jg st9 none (some d) C)) az))))))
  obtain rfl:=si c
  exact tr fol [2,3,5,7,9] (kA6 e d [(36,.bool false)]) (ac (hs (.done (.opt (kT ZT 9 (.str e) none (some (.i d)) none)) (.str r)) (jg st9 none (some d) n)) (ac (cv (jk N r o)) (ac (gw z) (ac (hs (.done (.opt (yB ZT 23 (.str a) (.i 0))) (.int .u8 (M.toNat:Int))) (qaM qlc t)) (ac (gw B) az)))))
 refine ihB h (fun a0 h=>?_) (fun a0 h=>?_)
 ·refine sh fol [(2,.i 1)] ?_
  refine Goes.ret ?_
  obtain rfl:=si h
  exact(gw2 [.i 1] (Ua tI))
 refine Goes.skip ?_
 refine sq ?_
 refine sq ?_
 obtain⟨a1,b,h⟩:=bnd h
 refine Goes.cut (s':=(ofG 96 (kA6 e d [(62,.bool a1)]),[])) ?_ ?_
 ·rcases wyD b with⟨u,b⟩|⟨u,b⟩
  ·obtain⟨s,p,b⟩:=bnd b
   obtain⟨r21,q,b⟩:=bnd b
   rcases wyB b with⟨A,b⟩|⟨A,b⟩
   ·obtain rfl:=si b
    exact tr fol [4,8,9,11] (kA6 e d [(62,.bool true)]) (ac (gw u) (ac (hs (.done (.opt (kT ZT 9 (.str e) (some (.i (w64 (d+1)))) none none)) (.str s)) (jg st9 (some (w64 (d+1))) none p)) (ac (cv (jk N s q)) (ac (gw A) az))))
   obtain⟨P,v,b⟩:=bnd b
   rcases wyB b with⟨D,b⟩|⟨D,b⟩
   ·obtain rfl:=si b
    exact tr fol [4,8,9,11,15,18] (kA6 e d [(62,.bool true)]) (ac (gw u) (ac (hs (.done (.opt (kT ZT 9 (.str e) (some (.i (w64 (d+1)))) none none)) (.str s)) (jg st9 (some (w64 (d+1))) none p)) (ac (cv (jk N s q)) (ac (gw A) (ac (hs (.done (.opt (kT ZT 9 (.str e) (some (.i (w64 (d+1)))) none none)) (.str P)) (jg st9 (some (w64 (d+1))) none v)) (ac (gw D) az))))))
   obtain⟨U,E,b⟩:=bnd b
   obtain rfl:=si b
   exact tr fol [4,8,9,11,15,18,22] (kA6 e d [(62,.bool (U==[49]))]) (ac (gw u) (ac (hs (.done (.opt (kT ZT 9 (.str e) (some (.i (w64 (d+1)))) none none)) (.str s)) (jg st9 (some (w64 (d+1))) none p)) (ac (cv (jk N s q)) (ac (gw A) (ac (hs (.done (.opt (kT ZT 9 (.str e) (some (.i (w64 (d+1)))) none none)) (.str P)) (jg st9 (some (w64 (d+1))) none v)) (ac (gw D) (ac (hs (.done (.opt (kT ZT 9 (.str e) (some (.i (w64 (d+1)))) none none)) (.str U)) (jg st9 (some (w64 (d+1))) none E)) az)))))))
  obtain rfl:=si b
  exact tr fol [4] (kA6 e d [(62,.bool false)]) (ac (gw u) az)
 refine ihB h (fun a2 h=>?_) (fun a2 h=>?_)
 ·refine sh fol [(2,.i 1)] ?_
  refine Goes.ret ?_
  obtain rfl:=si h
  exact(gw2 [.i 1] (Ua tI))
 refine Goes.skip ?_
 refine sq ?_
 refine sq ?_
 obtain⟨a3,j,h⟩:=bnd h
 refine Goes.cut (s':=(ofG 96 (kA6 e d [(72,.bool a3)]),[])) ?_ ?_
 ·rcases wyD j with⟨F,j⟩|⟨F,j⟩
  ·obtain rfl:=si j
   exact tr fol [2] (kA6 e d [(72,.bool true)]) (ac (gw F) az)
  obtain rfl:=si j
  exact tr fol [2] (kA6 e d [(72,.bool (decide ((w64 ((w64 ((e.length:Int)-d))-1))>600)))]) (ac (gw F) az)
 refine ihB h (fun a4 h=>?_) (fun a4 h=>?_)
 ·refine sh fol [(2,.i 4)] ?_
  refine Goes.ret ?_
  obtain rfl:=si h
  exact(gw2 [.i 4] (Ua tI))
 refine Goes.skip ?_
 refine sq ?_
 refine sh fol [(3,.str e),(76,.bool (decide (d<(e.length:Int))))] ?_
 obtain⟨V,g33,h⟩:=bnd h
 refine Goes.imp (Q:=fun x s'=>(x= .normal/\(.inl ())=V/\Sub s' (ofG 96 [],[]))\/(x= .ret/\ ∃X,(.inr X)=V/\yP ZT [.tmp 2] (.i X) .ret s')) ?_ ?_
 ·refine ihD g33 (fun a5 g33=>?_) (fun a5 g33=>?_)
  ·obtain⟨k,G,g33⟩:=bnd g33
   refine sq (gq fol [1] [(5,.ptr 0 0),(6,.ptr 1 0)] (kO k.1.neg k.1.w k.2.neg k.2.w []) (ac (cv (xe N e G)) az) ?_)
   obtain⟨a6,H,g33⟩:=bnd g33
   refine sq (gr fol [4] [(7,vl encI a6)] (ac (cv (qd7 N k.1.w k.2.w H)) az) ?_)
   refine sq ?_
   obtain⟨a7,f,g33⟩:=bnd g33
   refine Goes.cut (s':=(ofG 96 [(95,.bool a7)],(kO k.1.neg k.1.w k.2.neg k.2.w []))) ?_ ?_
   ·rcases wyB f with⟨I,f⟩|⟨I,f⟩
    ·obtain rfl:=si f
     exact tr fol [3] [(95,.bool true)] (ac (gw I) az)
    obtain⟨a8,y,f⟩:=bnd f
    obtain rfl:=si f
    exact tr fol [3,5,6] [(95,.bool (!decide (a8=1)))] (ac (gw I) (ac (iv vG encI y) (ac (lv 0 ce3 encI y rfl) az)))
   refine ihB g33 (fun a9 g33=>?_) (fun a9 g33=>?_)
   ·refine sh fol [(2,.i 1)] ?_
    refine Goes.ret ?_
    obtain rfl:=si g33
    exact Or.inr (⟨rfl,_,rfl,(gw2 [.i 1] (Ua tI))⟩)
   refine Goes.skip ?_
   obtain rfl:=si g33
   exact Or.inl (⟨rfl,rfl,(Sub.norm [] [] rfl rfl .nil .nil)⟩)
  refine Goes.skip ?_
  obtain rfl:=si g33
  exact Or.inl (⟨rfl,rfl,(Sub.keep [] rfl rfl)⟩)
 rintro x s' (⟨rfl,rfl,hsub⟩|⟨rfl,q43,rfl,hret⟩)
 ·try dsimp only at h
  refine Goes.sub hsub ?_
  refine sh fol kB3 ?_
  refine Goes.ret ?_
  obtain rfl:=si h
  exact(gw2 [.i 0] (Ua tI))
 try dsimp only at h
 obtain rfl:=si h
 exact hret
def xN (a:Str):Option Int:=
 if(a==[48])=true then
 some 0
 else
 (if(a.length:Int)>0 then
 (idx a 0).bind fun b=>
 some (decide ((b.toNat:Int)=45))
 else
 some false:Option Bool).bind fun c=>
 if c=true then
 some (-1)
 else
 some 1
theorem qbK (a:Str) {res:Int} (h:xN a=some res):qc ZT (.fn 24) [.str a] [] (.i res) []:=by
 unfold xN at h
 refine Ub Tryz.func24 rfl rfl (m:=13) rfl (rs:=[.tmp 2]) rfl (l:=(kAQ a [])) rfl ?_
 refine sh fol (kAQ a []) ?_
 refine sq ?_
 refine sh fol (kAQ a (kAl (a==[48]))) ?_
 refine ihB h (fun f h=>?_) (fun f h=>?_)
 ·refine sh fol kB3 ?_
  refine Goes.ret ?_
  obtain rfl:=si h
  exact(gw2 [.i 0] (Ua tI))
 refine Goes.skip ?_
 refine sq ?_
 refine sq ?_
 obtain⟨g,b,h⟩:=bnd h
 refine Goes.cut (s':=(ofG 13 (kBU g),[])) ?_ ?_
 ·rcases wyD b with⟨d,b⟩|⟨d,b⟩
  ·obtain⟨e,c,b⟩:=bnd b
   obtain rfl:=si b
   exact tr fol [3,5] (kBU (decide ((e.toNat:Int)=45))) (ac (gw d) (ac (hs (.done (.opt (yB ZT 23 (.str a) (.i 0))) (.int .u8 (e.toNat:Int))) (qaM qlc c)) az))
  obtain rfl:=si b
  exact tr fol [3] [(12,.bool false)] (ac (gw d) az)
 refine ihB h (fun j h=>?_) (fun j h=>?_)
 ·refine sh fol [(2,.i (-1))] ?_
  refine Goes.ret ?_
  obtain rfl:=si h
  exact(gw2 [.i (-1)] (Ua tI))
 refine Goes.skip ?_
 refine sh fol [(2,.i 1)] ?_
 refine Goes.ret ?_
 obtain rfl:=si h
 exact(gw2 [.i 1] (Ua tI))
def qds (a:Str):Option Str:=
 (xN a).bind fun b=>
 if b<0 then
 (cut a 1 (a.length:Int)).bind fun c=>
 some c
 else
 some a
theorem qf0 (a:Str) {res:Str} (h:qds a=some res):qc ZT (.fn 30) [.str a] [] (.str res) []:=by
 unfold qds at h
 refine Ub Tryz.func30 rfl rfl (m:=9) rfl (rs:=[.tmp 2]) rfl (l:=(kAQ a [])) rfl ?_
 refine sh fol (kAQ a []) ?_
 refine sq ?_
 obtain⟨e,b,h⟩:=bnd h
 refine sq (gr fol [1] (kAQ a [(5,.bool (decide (e<0)))]) (ac (cv (qbK a b)) az) ?_)
 refine ihD h (fun f h=>?_) (fun f h=>?_)
 ·obtain⟨d,c,h⟩:=bnd h
  refine sq (gr fol [1] (kBs d) (ac (hs (.done (.opt (kT ZT 23 (.str a) (some (.i 1)) none none)) (.str d)) (jg qlc (some 1) none c)) az) ?_)
  refine Goes.ret ?_
  obtain rfl:=si h
  exact(gw2 [.str d] (Ua tS))
 refine Goes.skip ?_
 refine sh fol (kBs a) ?_
 refine Goes.ret ?_
 obtain rfl:=si h
 exact(gw2 [.str a] (Ua tS))
def qdm (N:Nat) (a:Str):Option Str:=
 (yO N a).bind fun b=>
 if b=(a.length:Int)then
 some [49]
 else
 (cut a (w64 (b+1)) (a.length:Int)).bind fun c=>
 some c
theorem qjn (N:Nat) (a:Str) {res:Str} (h:qdm N a=some res):qc ZT (.fn 32) [.str a] [] (.str res) []:=by
 unfold qdm at h
 refine Ub Tryz.func32 rfl rfl (m:=14) rfl (rs:=[.tmp 2]) rfl (l:=(kAQ a [])) rfl ?_
 refine sh fol (kAQ a []) ?_
 obtain⟨b,c,h⟩:=bnd h
 refine sq (gr fol [1] (kAQ a (kBS b)) (ac (cv (qas N a c)) az) ?_)
 refine sq ?_
 refine sh fol (kAQ a [(3,.i b),(9,.bool (decide (b=(a.length:Int))))]) ?_
 refine ihD h (fun f h=>?_) (fun f h=>?_)
 ·refine sh fol [(2,.str [49])] ?_
  refine Goes.ret ?_
  obtain rfl:=si h
  exact(gw2 [.str [49]] (Ua tS))
 refine Goes.skip ?_
 obtain⟨e,d,h⟩:=bnd h
 refine sq (gr fol [3] (kBs e) (ac (hs (.done (.opt (kT ZT 23 (.str a) (some (.i (w64 (b+1)))) none none)) (.str e)) (jg qlc (some (w64 (b+1))) none d)) az) ?_)
 refine Goes.ret ?_
 obtain rfl:=si h
 exact(gw2 [.str e] (Ua tS))
def qdo (N:Nat) (a:Str):Option Str:=
 (yO N a).bind fun b=>
 (cut a 0 b).bind fun c=>
 some c
theorem qfS (N:Nat) (a:Str) {res:Str} (h:qdo N a=some res):qc ZT (.fn 98) [.str a] [] (.str res) []:=by
 unfold qdo at h
 refine Ub Tryz.func98 rfl rfl (m:=7) rfl (rs:=[.tmp 2]) rfl (l:=(kAQ a [])) rfl ?_
 refine sh fol (kAQ a []) ?_
 obtain⟨e,b,h⟩:=bnd h
 obtain⟨d,c,h⟩:=bnd h
 refine sq (gr fol [2,3] (kBs d) (ac (cv (qas N a b)) (ac (hs (.done (.opt (kT ZT 23 (.str a) none (some (.i e)) none)) (.str d)) (jg qlc none (some e) c)) az)) ?_)
 refine Goes.ret ?_
 obtain rfl:=si h
 exact(gw2 [.str d] (Ua tS))
def kg (least:Int):Nat->Int->Str->Option Str
 |0,_,_=>none
 |K+1,a,b=>
  (if a>0 then
  some true
  else
  some (decide ((b.length:Int)<least)):Option Bool).bind fun d=>
  if d=true then
  (cut [48,49,50,51,52,53,54,55,56,57] (a.tmod 10) (w64 ((a.tmod 10)+1))).bind fun e=>
  (cat e b).bind fun c=>
  kg least K (w64 (a.tdiv 10)) c
  else
  some b
def zO (N:Nat) (n:Int) (least:Int):Option Str:=
 (kg least N n []).bind fun a=>
 some a
theorem qaI (N:Nat) (n:Int) (least:Int) {res:Str} (h:zO N n least=some res):qc ZT (.fn 127) [.i n,.i least] [] (.str res) []:=by
 unfold zO at h
 refine Ub Tryz.func127 rfl rfl (m:=25) rfl (rs:=[.tmp 4]) rfl (l:=(kAc n least [])) rfl ?_
 refine sh fol (kAc n least []) ?_
 refine sh fol (kAc n least [(5,.str [])]) ?_
 refine sq (Goes.block ?_)
 obtain⟨k,g4,h⟩:=bnd h
 refine Goes.imp (Q:=fun x s'=>(x= .exit 0/\ ∃f,f=k/\Sub s' (ofG 25 [(5,.str f)],[]))) ?_ ?_
 ·refine Uc (fun M s=> ∃(b:Int) (d:Str),s=(ofG 25 (kAc b least [(5,.str d)]),[])/\kg least M b d=some k) ?_ (m:=N) ⟨_,_,rfl,g4⟩
  rintro M s ⟨b,d,rfl,g4⟩
  cases M with
  |zero=>simp only[kg]at g4;cases g4
  |succ M=>
   rw[kg]at g4
   refine sq ?_
   refine sq ?_
   obtain⟨p,a,g4⟩:=bnd g4
   refine Goes.cut (s':=(ofG 25 (kAc b least ((5,.str d)::(kBT p))),[])) ?_ ?_
   ·rcases wyD a with⟨j,a⟩|⟨j,a⟩
    ·obtain rfl:=si a
     exact tr fol [2] (kAc b least [(5,.str d),(13,.bool true)]) (ac (gw j) az)
    obtain rfl:=si a
    exact tr fol [2] (kAc b least ((5,.str d)::(kBT (decide ((d.length:Int)<least))))) (ac (gw j) az)
   refine ihB g4 (fun q g4=>?_) (fun q g4=>?_)
   ·refine Goes.skip ?_
    refine Goes.block ?_
    obtain⟨o,g,g4⟩:=bnd g4
    obtain⟨c,e,g4⟩:=bnd g4
    refine sq (gr fol [5,7] (kAc b least [(5,.str c)]) (ac (hs (.done (.opt (kT ZT 9 (.str [48,49,50,51,52,53,54,55,56,57]) (some (.i (b.tmod 10))) (some (.i (w64 ((b.tmod 10)+1)))) none)) (.str o)) (jg st9 (some (b.tmod 10)) (some (w64 ((b.tmod 10)+1))) g)) (ac (hs (.done (.opt (zf ZT .add 9 (.tmp 19) (.tmp 20) (.str o) (.str d))) (.str c)) (qaR e)) az)) ?_)
    refine gh fol (kAc (w64 (b.tdiv 10)) least [(5,.str c)]) ?_
    exact⟨M,(ofG 25 (kAc (w64 (b.tdiv 10)) least [(5,.str c)]),[]),Nat.lt_succ_self _,(Sub.refl _),_,_,rfl,g4⟩
   refine Goes.exit ?_
   obtain rfl:=si g4
   exact⟨rfl,_,rfl,(Sub.keep [5] rfl rfl)⟩
 rintro x s' ⟨rfl,f,rfl,hsub⟩
 refine Goes.sub hsub ?_
 refine sh fol (kBb f) ?_
 refine Goes.ret ?_
 obtain rfl:=si h
 exact(gw2 [.str f] (Ua tS))
def yf (N:Nat) (a:qO):Nat->Str->Int->Option Str
 |0,_,_=>none
 |K+1,e,b=>
  if b>=0 then
  (idx a.w b).bind fun f=>
  (zO N f 9).bind fun c=>
  (cat e c).bind fun d=>
  yf N a K d (w64 (b-1))
  else
  some e
def qby (N:Nat) (a:qO):Option Str:=
 if(a.w.length:Int)=0 then
 some [48]
 else
 (idx a.w (w64 ((a.w.length:Int)-1))).bind fun d=>
 (zO N d 1).bind fun e=>
 (yf N a N e (w64 ((a.w.length:Int)-2))).bind fun c=>
 if a.neg=true then
 (cat [45] c).bind fun b=>
 some b
 else
 some c
theorem qfn (N:Nat) (a:qO) {res:Str} (h:qby N a=some res):qc ZT (.fn 114) [.agg (kAr a.neg a.w)] [] (.str res) []:=by
 unfold qby at h
 refine Ub Tryz.func114 rfl rfl (m:=39) rfl (rs:=[.tmp 2]) rfl (l:=[(0,.agg [.bool a.neg,vl encI a.w])]) rfl ?_
 refine sg fol (kA2 []) (kAW a.neg a.w []) ?_
 refine sq ?_
 refine sh fol (kA2 (kAz (decide ((a.w.length:Int)=0)))) ?_
 refine ihD h (fun u h=>?_) (fun u h=>?_)
 ·refine sh fol [(2,.str [48])] ?_
  refine Goes.ret ?_
  obtain rfl:=si h
  exact(gw2 [.str [48]] (Ua tS))
 refine Goes.skip ?_
 obtain⟨v,c,h⟩:=bnd h
 obtain⟨r,n,h⟩:=bnd h
 refine sq (gr fol [6,7,8] (kA2 [(3,.str r)]) (ac (iv vG encI c) (ac (lv 0 ce3 encI c rfl) (ac (cv (qaI N v 1 n)) az))) ?_)
 refine sq ?_
 refine sh fol (kA2 (kA6 r (w64 ((a.w.length:Int)-2)) [])) ?_
 refine Goes.block ?_
 obtain⟨t,g7,h⟩:=bnd h
 refine Goes.imp (Q:=fun x s'=>(x= .exit 0/\ ∃f,f=t/\Sub s' (ofG 39 (kA2 [(3,.str f)]),(kAW a.neg a.w [])))) ?_ ?_
 ·refine Uc (fun M s=> ∃(o:Str) (d:Int),s=(ofG 39 (kA2 (kA6 o d [])),(kAW a.neg a.w []))/\yf N a M o d=some t) ?_ (m:=N) ⟨_,_,rfl,g7⟩
  rintro M s ⟨o,d,rfl,g7⟩
  cases M with
  |zero=>simp only[yf]at g7;cases g7
  |succ M=>
   rw[yf]at g7
   refine sq ?_
   refine sh fol (kA2 (kA6 o d [(23,.bool (decide (d>=0)))])) ?_
   refine ihD g7 (fun y g7=>?_) (fun y g7=>?_)
   ·refine Goes.skip ?_
    refine sq (Goes.block ?_)
    obtain⟨z,e,g7⟩:=bnd g7
    obtain⟨p,g,g7⟩:=bnd g7
    obtain⟨b,i,g7⟩:=bnd g7
    refine gr fol [4,5,6,7] (kA2 (kA6 b d [])) (ac (iv vG encI e) (ac (lv 0 ce3 encI e rfl) (ac (cv (qaI N z 9 g)) (ac (hs (.done (.opt (zf ZT .add 9 (.tmp 26) (.tmp 32) (.str o) (.str p))) (.str b)) (qaR i)) az)))) ?_
    refine gh fol (kA2 (kA6 b (w64 (d-1)) [])) ?_
    exact⟨M,(ofG 39 (kA2 (kA6 b (w64 (d-1)) [])),(kAW a.neg a.w [])),Nat.lt_succ_self _,(Sub.refl _),_,_,rfl,g7⟩
   refine Goes.exit ?_
   obtain rfl:=si g7
   exact⟨rfl,_,rfl,(Sub.keep [1,3] rfl rfl)⟩
 rintro x s' ⟨rfl,f,rfl,hsub⟩
 refine Goes.sub hsub ?_
 refine sq ?_
 refine sh fol [(3,.str f),(35,.bool a.neg)] ?_
 refine ihB h (fun q h=>?_) (fun q h=>?_)
 ·obtain⟨j,k,h⟩:=bnd h
  refine sq (gr fol [1] (kBs j) (ac (hs (.done (.opt (zf ZT .add 9 (.const (.string ⟨#[45]⟩)) (.tmp 36) (.str [45]) (.str f))) (.str j)) (qaR k)) az) ?_)
  refine Goes.ret ?_
  obtain rfl:=si h
  exact(gw2 [.str j] (Ua tS))
 refine Goes.skip ?_
 refine sh fol (kBs f) ?_
 refine Goes.ret ?_
 obtain rfl:=si h
 exact(gw2 [.str f] (Ua tS))
def xB (N:Nat) (a:qO):Option qO:=
 (zR N (!a.neg) a.w).bind fun b=>
 some b
theorem qez (N:Nat) (a:qO) {res:qO} (h:xB N a=some res):qc ZT (.fn 168) [.agg (kAr a.neg a.w)] [] (.agg (kAr res.neg res.w)) []:=by
 unfold xB at h
 refine Ub Tryz.func168 rfl rfl (m:=9) rfl (rs:=[.cell 2 121]) rfl (l:=[(0,.agg [.bool a.neg,vl encI a.w])]) rfl ?_
 refine sg fol (kAH []) (kAW a.neg a.w (kU [])) ?_
 obtain⟨c,b,h⟩:=bnd h
 refine sq (gq fol [5] kBX (kO a.neg a.w c.neg c.w []) (ac (cv (jb N (!a.neg) a.w b)) az) ?_)
 refine Goes.ret ?_
 obtain rfl:=si h
 exact(gw2 [.agg (kAr c.neg c.w)] (FzW.agg (qb.cons (Ua tB) (qb.cons (Ua (qw encI _ (nl rfl))) qb.nil))))
def ve (N:Nat) (n:qO) (d:qO):Option Str:=
 ((if d.neg=true then
 (xB N n).bind fun l=>
 (xB N d).bind fun m=>
 some (l.neg,l.w,m.neg,m.w)
 else
 some (n.neg,n.w,d.neg,d.w):Option (Bool×(List Int)×Bool×(List Int)))).bind fun(r,o,s,p)=>
 (qaK N o p).bind fun q=>
 (jK N o q).bind fun c=>
 (jK N p q).bind fun a=>
 (zR N r c.1).bind fun e=>
 (qby N e).bind fun b=>
 (if(a.1.length:Int)=1 then
 (idx a.1 0).bind fun f=>
 some (decide (f=1))
 else
 some false:Option Bool).bind fun g=>
 if g=true then
 some b
 else
 (cat b [47]).bind fun h=>
 (zR N false a.1).bind fun i=>
 (qby N i).bind fun j=>
 (cat h j).bind fun k=>
 some k
theorem qad (N:Nat) (n:qO) (d:qO) {res:Str} (h:ve N n d=some res):qc ZT (.fn 109) (kAy n.neg n.w d.neg d.w) [] (.str res) []:=by
 unfold ve at h
 refine Ub Tryz.func109 rfl rfl (m:=57) rfl (rs:=[.tmp 4]) rfl (l:=(kBr n.neg n.w d.neg d.w)) rfl ?_
 refine sg fol (kR []) (kO n.neg n.w d.neg d.w []) ?_
 refine sq ?_
 refine sh fol (kR (kBU d.neg)) ?_
 obtain⟨O,g5,h⟩:=bnd h
 refine Goes.imp (Q:=fun x s'=>(x= .normal/\ ∃y u D v,(y,u,D,v)=O/\Sub s' (ofG 57 (kR []),(kO y u D v [])))) ?_ ?_
 ·refine ihB g5 (fun P g5=>?_) (fun P g5=>?_)
  ·obtain⟨L,z,g5⟩:=bnd g5
   obtain⟨M,A,g5⟩:=bnd g5
   refine gq fol [1,3] (kR []) (kO L.neg L.w M.neg M.w []) (ac (cv (qez N n z)) (ac (cv (qez N d A)) az)) ?_
   obtain rfl:=si g5
   exact⟨rfl,_,_,_,_,rfl,(Sub.refl _)⟩
  refine Goes.skip ?_
  obtain rfl:=si g5
  exact⟨rfl,_,_,_,_,rfl,(Sub.keep [2,3] rfl rfl)⟩
 rintro x s' ⟨rfl,y,u,D,v,rfl,hsub⟩
 try dsimp only at h
 refine Goes.sub hsub ?_
 obtain⟨E,B,h⟩:=bnd h
 refine sq (gr fol [4] (kR (kBj E [])) (ac (cv (qd7 N u v B)) az) ?_)
 obtain⟨f,g,h⟩:=bnd h
 refine sq (gr fol [3] (kR (kBj E [(6,vl encI f.1)])) (ac (cv (qaV N u E g)) az) ?_)
 obtain⟨c,i,h⟩:=bnd h
 refine sq (gr fol [3] (kAM [(6,vl encI f.1),(8,vl encI c.1)]) (ac (cv (qaV N v E i)) az) ?_)
 obtain⟨F,j,h⟩:=bnd h
 obtain⟨b,k,h⟩:=bnd h
 refine sq (gr fol [3,4] [(8,vl encI c.1),(10,.str b)] (ac (cv (jb N y f.1 j)) (ac (cv (qfn N F k)) az)) ?_)
 refine sq ?_
 refine sq ?_
 obtain⟨G,a,h⟩:=bnd h
 refine Goes.cut (s':=(ofG 57 [(8,vl encI c.1),(10,.str b),(49,.bool G)],(kO y u D v []))) ?_ ?_
 ·rcases wyD a with⟨o,a⟩|⟨o,a⟩
  ·obtain⟨H,e,a⟩:=bnd a
   obtain rfl:=si a
   exact tr fol [3,5,6] [(8,vl encI c.1),(10,.str b),(49,.bool (decide (H=1)))] (ac (gw o) (ac (iv vG encI e) (ac (lv 0 ce3 encI e rfl) az)))
  obtain rfl:=si a
  exact tr fol [3] [(8,vl encI c.1),(10,.str b),(49,.bool false)] (ac (gw o) az)
 refine ihB h (fun I h=>?_) (fun I h=>?_)
 ·refine sh fol (kBb b) ?_
  refine Goes.ret ?_
  obtain rfl:=si h
  exact(gw2 [.str b] (Ua tS))
 refine Goes.skip ?_
 obtain⟨C,p,h⟩:=bnd h
 obtain⟨J,q,h⟩:=bnd h
 obtain⟨K,r,h⟩:=bnd h
 obtain⟨s,t,h⟩:=bnd h
 refine sq (gr fol [1,3,4,5] (kBb s) (ac (hs (.done (.opt (zf ZT .add 9 (.tmp 51) (.const (.string ⟨#[47]⟩)) (.str b) (.str [47]))) (.str C)) (qaR p)) (ac (cv (jb N false c.1 q)) (ac (cv (qfn N J r)) (ac (hs (.done (.opt (zf ZT .add 9 (.tmp 52) (.tmp 55) (.str C) (.str K))) (.str s)) (qaR t)) az)))) ?_)
 refine Goes.ret ?_
 obtain rfl:=si h
 exact(gw2 [.str s] (Ua tS))
def jX:Nat->Int->Int->Option Int
 |0,_,_=>none
 |K+1,b,a=>
  if a>0 then
  (qeU .i64 b a).bind fun c=>
  jX K a c
  else
  some b
def qdw (N:Nat) (a:Int) (b:Int):Option Int:=
 (jX N a b).bind fun c=>
 some c
theorem qjB (N:Nat) (a:Int) (b:Int) {res:Int} (h:qdw N a b=some res):qc ZT (.fn 126) [.i a,.i b] [] (.i res) []:=by
 unfold qdw at h
 refine Ub Tryz.func126 rfl rfl (m:=12) rfl (rs:=[.tmp 4]) rfl (l:=(kAc a b [])) rfl ?_
 refine sh fol (kAc a b []) ?_
 refine sq (Goes.block ?_)
 obtain⟨j,g4,h⟩:=bnd h
 refine Goes.imp (Q:=fun x s'=>(x= .exit 0/\ ∃d,d=j/\Sub s' (ofG 12 [(0,.i d)],[]))) ?_ ?_
 ·refine Uc (fun M s=> ∃(e:Int) (c:Int),s=(ofG 12 (kAc e c []),[])/\jX M e c=some j) ?_ (m:=N) ⟨_,_,rfl,g4⟩
  rintro M s ⟨e,c,rfl,g4⟩
  cases M with
  |zero=>simp only[jX]at g4;cases g4
  |succ M=>
   rw[jX]at g4
   refine sq ?_
   refine sh fol (kAc e c [(6,.bool (decide (c>0)))]) ?_
   refine ihD g4 (fun k g4=>?_) (fun k g4=>?_)
   ·refine Goes.skip ?_
    refine Goes.block ?_
    obtain⟨g,f,g4⟩:=bnd g4
    refine gr fol [3] (kAc c g []) (ac (hs (.done (.opt (zf ZT .rem 3 (.tmp 8) (.tmp 9) (.i e) (.i c))) (.i g)) (qfM f)) az) ?_
    exact⟨M,(ofG 12 (kAc c g []),[]),Nat.lt_succ_self _,(Sub.refl _),_,_,rfl,g4⟩
   refine Goes.exit ?_
   obtain rfl:=si g4
   exact⟨rfl,_,rfl,(Sub.keep [0] rfl rfl)⟩
 rintro x s' ⟨rfl,d,rfl,hsub⟩
 refine Goes.sub hsub ?_
 refine sh fol (kB7 d) ?_
 refine Goes.ret ?_
 obtain rfl:=si h
 exact(gw2 [.i d] (Ua tI))
def qcp (N:Nat) (num:Int) (den:Int):Option Str:=
 (if num<(-4000000000000000000)then
 some true
 else
 if num>4000000000000000000 then
 some true
 else
 if den<(-4000000000000000000)then
 some true
 else
 some (decide (den>4000000000000000000)):Option Bool).bind fun m=>
 if m=true then
 (qan N num).bind fun n=>
 (qan N den).bind fun o=>
 (ve N n o).bind fun p=>
 some p
 else
 ((if den<0 then
 some (w64 (0-num),w64 (0-den))
 else
 some (num,den):Option (Int×Int))).bind fun(a,c)=>
 (qdw N (if(w64 (0-a))>a then(w64 (0-a))else a) c).bind fun d=>
 (qcz .i64 a d).bind fun b=>
 (qcz .i64 c d).bind fun e=>
 ((if b<0 then
 some [45]
 else
 some []:Option Str)).bind fun g=>
 (zO N (if(w64 (0-b))>b then(w64 (0-b))else b) 1).bind fun h=>
 (cat g h).bind fun f=>
 ((if e>1 then
 (cat f [47]).bind fun i=>
 (zO N e 1).bind fun j=>
 (cat i j).bind fun k=>
 some k
 else
 some f:Option Str)).bind fun l=>
 some l
theorem qeL (N:Nat) (num:Int) (den:Int) {res:Str} (h:qcp N num den=some res):qc ZT (.fn 55) [.i num,.i den] [] (.str res) []:=by
 unfold qcp at h
 refine Ub Tryz.func55 rfl rfl (m:=61) rfl (rs:=[.tmp 4]) rfl (l:=(kAc num den [])) rfl ?_
 refine sh fol (kAc num den []) ?_
 refine sq ?_
 refine sq ?_
 obtain⟨O,a,h⟩:=bnd h
 refine Goes.cut (s':=(ofG 61 (kAc num den [(20,.bool O)]),[])) ?_ ?_
 ·rcases wyD a with⟨v,a⟩|⟨v,a⟩
  ·obtain rfl:=si a
   exact tr fol [2] (kAc num den [(20,.bool true)]) (ac (gw v) az)
  rcases wyD a with⟨C,a⟩|⟨C,a⟩
  ·obtain rfl:=si a
   exact tr fol [2,6] (kAc num den [(20,.bool true)]) (ac (gw v) (ac (gw C) az))
  rcases wyD a with⟨D,a⟩|⟨D,a⟩
  ·obtain rfl:=si a
   exact tr fol [2,6,10] (kAc num den [(20,.bool true)]) (ac (gw v) (ac (gw C) (ac (gw D) az)))
  obtain rfl:=si a
  exact tr fol [2,6,10] (kAc num den [(20,.bool (decide (den>4000000000000000000)))]) (ac (gw v) (ac (gw C) (ac (gw D) az)))
 refine ihB h (fun P h=>?_) (fun P h=>?_)
 ·obtain⟨U,w,h⟩:=bnd h
  obtain⟨V,y,h⟩:=bnd h
  obtain⟨M,z,h⟩:=bnd h
  refine sq (gr fol [1,3,4] (kBb M) (ac (cv (qch N num w)) (ac (cv (qch N den y)) (ac (cv (qad N U V z)) az))) ?_)
  refine Goes.ret ?_
  obtain rfl:=si h
  exact(gw2 [.str M] (Ua tS))
 refine Goes.skip ?_
 refine sq ?_
 refine sh fol (kAc num den [(27,.bool (decide (den<0)))]) ?_
 obtain⟨E,g12,h⟩:=bnd h
 refine Goes.imp (Q:=fun x s'=>(x= .normal/\ ∃d e,(d,e)=E/\Sub s' (ofG 61 (kAc d e []),[]))) ?_ ?_
 ·refine ihD g12 (fun F g12=>?_) (fun F g12=>?_)
  ·refine gh fol (kAc (w64 (0-num)) (w64 (0-den)) []) ?_
   obtain rfl:=si g12
   exact⟨rfl,_,_,rfl,(Sub.refl _)⟩
  refine Goes.skip ?_
  obtain rfl:=si g12
  exact⟨rfl,_,_,rfl,(Sub.keep [0,1] rfl rfl)⟩
 rintro x s' ⟨rfl,d,e,rfl,hsub⟩
 try dsimp only at h
 refine Goes.sub hsub ?_
 obtain⟨k,n,h⟩:=bnd h
 refine sq (gr fol [5] (kAc d e (kA5 k)) (ac (cv (qjB N (if(w64 (0-d))>d then(w64 (0-d))else d) e n)) az) ?_)
 obtain⟨b,o,h⟩:=bnd h
 obtain⟨c,p,h⟩:=bnd h
 refine sq (gr fol [2,5] (kAc b c []) (ac (hs (.done (.opt (zf ZT .quo 3 (.tmp 38) (.tmp 39) (.i d) (.i k))) (.i b)) (qca o)) (ac (hs (.done (.opt (zf ZT .quo 3 (.tmp 41) (.tmp 42) (.i e) (.i k))) (.i c)) (qca p)) az)) ?_)
 refine sh fol (kAc b c [(6,.str [])]) ?_
 refine sq ?_
 refine sh fol (kAc b c [(6,.str []),(45,.bool (decide (b<0)))]) ?_
 obtain⟨G,g18,h⟩:=bnd h
 refine Goes.imp (Q:=fun x s'=>(x= .normal/\ ∃g,g=G/\Sub s' (ofG 61 (kAc b c [(6,.str g)]),[]))) ?_ ?_
 ·refine ihD g18 (fun H g18=>?_) (fun H g18=>?_)
  ·refine gh fol (kAc b c [(6,.str [45])]) ?_
   obtain rfl:=si g18
   exact⟨rfl,_,rfl,(Sub.refl _)⟩
  refine Goes.skip ?_
  obtain rfl:=si g18
  exact⟨rfl,_,rfl,(Sub.keep [0,1,6] rfl rfl)⟩
 rintro x s' ⟨rfl,g,rfl,hsub⟩
 refine Goes.sub hsub ?_
 obtain⟨I,q,h⟩:=bnd h
 obtain⟨j,r,h⟩:=bnd h
 refine sq (gr fol [5,6] [(1,.i c),(6,.str j)] (ac (cv (qaI N (if(w64 (0-b))>b then(w64 (0-b))else b) 1 q)) (ac (hs (.done (.opt (zf ZT .add 9 (.tmp 46) (.tmp 51) (.str g) (.str I))) (.str j)) (qaR r)) az)) ?_)
 refine sq ?_
 refine sh fol [(1,.i c),(6,.str j),(54,.bool (decide (c>1)))] ?_
 obtain⟨J,g23,h⟩:=bnd h
 refine Goes.imp (Q:=fun x s'=>(x= .normal/\ ∃f,f=J/\Sub s' (ofG 61 [(6,.str f)],[]))) ?_ ?_
 ·refine ihD g23 (fun K g23=>?_) (fun K g23=>?_)
  ·obtain⟨A,s,g23⟩:=bnd g23
   obtain⟨L,t,g23⟩:=bnd g23
   obtain⟨B,u,g23⟩:=bnd g23
   refine gr fol [1,3,4] [(6,.str B)] (ac (hs (.done (.opt (zf ZT .add 9 (.tmp 55) (.const (.string ⟨#[47]⟩)) (.str j) (.str [47]))) (.str A)) (qaR s)) (ac (cv (qaI N c 1 t)) (ac (hs (.done (.opt (zf ZT .add 9 (.tmp 56) (.tmp 58) (.str A) (.str L))) (.str B)) (qaR u)) az))) ?_
   obtain rfl:=si g23
   exact⟨rfl,_,rfl,(Sub.refl _)⟩
  refine Goes.skip ?_
  obtain rfl:=si g23
  exact⟨rfl,_,rfl,(Sub.keep [6] rfl rfl)⟩
 rintro x s' ⟨rfl,f,rfl,hsub⟩
 refine Goes.sub hsub ?_
 refine sh fol (kBb f) ?_
 refine Goes.ret ?_
 obtain rfl:=si h
 exact(gw2 [.str f] (Ua tS))
def vg (N:Nat) (a:Str):Option (Int×Int×Bool):=
 if(a.length:Int)>20 then
 some (0,0,false)
 else
 (if(a.length:Int)>0 then
 (idx a 0).bind fun l=>
 some (decide ((l.toNat:Int)=45))
 else
 some false:Option Bool).bind fun k=>
 ((if k=true then
 (cut a 1 (a.length:Int)).bind fun m=>
 some m
 else
 some a:Option Str)).bind fun c=>
 (yO N c).bind fun b=>
 (if b>9 then
 some true
 else
 some (decide ((w64 ((c.length:Int)-b))>10)):Option Bool).bind fun e=>
 if e=true then
 some (0,0,false)
 else
 (cut c 0 b).bind fun f=>
 (xE N f).bind fun d=>
 ((if b<(c.length:Int)then
 (cut c (w64 (b+1)) (c.length:Int)).bind fun g=>
 (xE N g).bind fun h=>
 some h
 else
 some 1:Option Int)).bind fun i=>
 ((if k=true then
 some (w64 (0-d))
 else
 some d:Option Int)).bind fun j=>
 some (j,i,true)
theorem qbp (N:Nat) (a:Str) {res:Int×Int×Bool} (h:vg N a=some res):qc ZT (.fn 108) [.str a] [] (.tuple [.i res.1,.i res.2.1,.bool res.2.2]) []:=by
 unfold vg at h
 refine Ub Tryz.func108 rfl rfl (m:=54) rfl (rs:=[.tmp 2,.tmp 3,.tmp 4]) rfl (l:=(kAQ a [])) rfl ?_
 refine sh fol (kAQ a []) ?_
 refine sh fol [(5,.str a)] ?_
 refine sq ?_
 refine sh fol ((5,.str a)::(kBT (decide ((a.length:Int)>20)))) ?_
 refine ihD h (fun I h=>?_) (fun I h=>?_)
 ·refine sh fol ((2,.i 0)::(3,.i 0)::kAT) ?_
  refine Goes.ret ?_
  obtain rfl:=si h
  exact(gw2 [.i 0,.i 0,.bool false] (FzW.tuple (qb.cons (Ua tI) (qb.cons (Ua tI) (qb.cons (Ua tB) qb.nil)))))
 refine Goes.skip ?_
 refine sq ?_
 obtain⟨f,c,h⟩:=bnd h
 refine Goes.cut (s':=(ofG 54 (kBN a f []),[])) ?_ ?_
 ·rcases wyD c with⟨y,c⟩|⟨y,c⟩
  ·obtain⟨G,t,c⟩:=bnd c
   obtain rfl:=si c
   exact tr fol [3,5] (kBN a (decide ((G.toNat:Int)=45)) []) (ac (gw y) (ac (hs (.done (.opt (yB ZT 9 (.str a) (.i 0))) (.int .u8 (G.toNat:Int))) (qaM st9 t)) az))
  obtain rfl:=si c
  exact tr fol [3] ((5,.str a)::kBD) (ac (gw y) az)
 refine sq ?_
 refine sh fol (kBN a f [(22,.bool f)]) ?_
 obtain⟨J,g7,h⟩:=bnd h
 refine Goes.imp (Q:=fun x s'=>(x= .normal/\ ∃g,g=J/\Sub s' (ofG 54 (kBN g f []),[]))) ?_ ?_
 ·refine ihB g7 (fun K g7=>?_) (fun K g7=>?_)
  ·obtain⟨H,u,g7⟩:=bnd g7
   refine gr fol [1] (kBN H f []) (ac (hs (.done (.opt (kT ZT 9 (.str a) (some (.i 1)) none none)) (.str H)) (jg st9 (some 1) none u)) az) ?_
   obtain rfl:=si g7
   exact⟨rfl,_,rfl,(Sub.refl _)⟩
  refine Goes.skip ?_
  obtain rfl:=si g7
  exact⟨rfl,_,rfl,(Sub.keep [5,6] rfl rfl)⟩
 rintro x s' ⟨rfl,g,rfl,hsub⟩
 refine Goes.sub hsub ?_
 obtain⟨b,n,h⟩:=bnd h
 refine sq (gr fol [1] (kBN g f [(7,.i b)]) (ac (cv (qas N g n)) az) ?_)
 refine sq ?_
 refine sq ?_
 obtain⟨z,d,h⟩:=bnd h
 refine Goes.cut (s':=(ofG 54 (kBN g f [(7,.i b),(35,.bool z)]),[])) ?_ ?_
 ·rcases wyD d with⟨o,d⟩|⟨o,d⟩
  ·obtain rfl:=si d
   exact tr fol [2] (kBN g f ((7,.i b)::kBz)) (ac (gw o) az)
  obtain rfl:=si d
  exact tr fol [2] (kBN g f [(7,.i b),(35,.bool (decide ((w64 ((g.length:Int)-b))>10)))]) (ac (gw o) az)
 refine ihB h (fun A h=>?_) (fun A h=>?_)
 ·refine sh fol ((2,.i 0)::(3,.i 0)::kAT) ?_
  refine Goes.ret ?_
  obtain rfl:=si h
  exact(gw2 [.i 0,.i 0,.bool false] (FzW.tuple (qb.cons (Ua tI) (qb.cons (Ua tI) (qb.cons (Ua tB) qb.nil)))))
 refine Goes.skip ?_
 obtain⟨v,p,h⟩:=bnd h
 obtain⟨j,q,h⟩:=bnd h
 refine sq (gr fol [2,3] (kBN g f [(7,.i b),(8,.i j),(9,.i 1)]) (ac (hs (.done (.opt (kT ZT 9 (.str g) none (some (.i b)) none)) (.str v)) (jg st9 none (some b) p)) (ac (cv (qbc N v q)) az)) ?_)
 refine sq ?_
 refine sh fol (kBN g f [(7,.i b),(8,.i j),(9,.i 1),(43,.bool (decide (b<(g.length:Int))))]) ?_
 obtain⟨B,g18,h⟩:=bnd h
 refine Goes.imp (Q:=fun x s'=>(x= .normal/\ ∃e,e=B/\Sub s' (ofG 54 ((6,.bool f)::(kBA j e [])),[]))) ?_ ?_
 ·refine ihD g18 (fun C g18=>?_) (fun C g18=>?_)
  ·obtain⟨w,r,g18⟩:=bnd g18
   obtain⟨D,s,g18⟩:=bnd g18
   refine gr fol [3,4] ((6,.bool f)::(kBA j D [])) (ac (hs (.done (.opt (kT ZT 9 (.str g) (some (.i (w64 (b+1)))) none none)) (.str w)) (jg st9 (some (w64 (b+1))) none r)) (ac (cv (qbc N w s)) az)) ?_
   obtain rfl:=si g18
   exact⟨rfl,_,rfl,(Sub.refl _)⟩
  refine Goes.skip ?_
  obtain rfl:=si g18
  exact⟨rfl,_,rfl,(Sub.keep [6,8,9] rfl rfl)⟩
 rintro x s' ⟨rfl,e,rfl,hsub⟩
 refine Goes.sub hsub ?_
 refine sq ?_
 refine sh fol (kBA j e [(49,.bool f)]) ?_
 obtain⟨E,g23,h⟩:=bnd h
 refine Goes.imp (Q:=fun x s'=>(x= .normal/\ ∃k,k=E/\Sub s' (ofG 54 (kBA k e []),[]))) ?_ ?_
 ·refine ihB g23 (fun F g23=>?_) (fun F g23=>?_)
  ·refine gh fol (kBA (w64 (0-j)) e []) ?_
   obtain rfl:=si g23
   exact⟨rfl,_,rfl,(Sub.refl _)⟩
  refine Goes.skip ?_
  obtain rfl:=si g23
  exact⟨rfl,_,rfl,(Sub.keep [8,9] rfl rfl)⟩
 rintro x s' ⟨rfl,k,rfl,hsub⟩
 refine Goes.sub hsub ?_
 refine sh fol [(2,.i k),(3,.i e),(4,.bool true)] ?_
 refine Goes.ret ?_
 obtain rfl:=si h
 exact(gw2 [.i k,.i e,.bool true] (FzW.tuple (qb.cons (Ua tI) (qb.cons (Ua tI) (qb.cons (Ua tB) qb.nil)))))
def yM (N:Nat) (a:qO) (b:qO):Option qO:=
 (vP N a.w b.w).bind fun c=>
 (zR N (!(a.neg==b.neg)) c).bind fun d=>
 some d
theorem qap (N:Nat) (a:qO) (b:qO) {res:qO} (h:yM N a b=some res):qc ZT (.fn 110) (kAy a.neg a.w b.neg b.w) [] (.agg (kAr res.neg res.w)) []:=by
 unfold yM at h
 refine Ub Tryz.func110 rfl rfl (m:=16) rfl (rs:=[.cell 4 121]) rfl (l:=(kBr a.neg a.w b.neg b.w)) rfl ?_
 refine sg fol (kH []) (kO a.neg a.w b.neg b.w (kU [])) ?_
 obtain⟨f,c,h⟩:=bnd h
 obtain⟨e,d,h⟩:=bnd h
 refine sq (gq fol [9,10] (kAU []) (kO a.neg a.w b.neg b.w (kAW e.neg e.w [])) (ac (cv (qaU N a.w b.w c)) (ac (cv (jb N (!(a.neg==b.neg)) f d)) az)) ?_)
 refine Goes.ret ?_
 obtain rfl:=si h
 exact(gw2 [.agg (kAr e.neg e.w)] (FzW.agg (qb.cons (Ua tB) (qb.cons (Ua (qw encI _ (nl rfl))) qb.nil))))
def qbE (N:Nat) (a:Str) (b:Str):Option Str:=
 (vg N a).bind fun c=>
 (vg N b).bind fun d=>
 (if c.2.2=true then
 some d.2.2
 else
 some false:Option Bool).bind fun j=>
 if j=true then
 (qcp N (w64 (c.1*d.1)) (w64 (c.2.1*d.2.1))).bind fun k=>
 some k
 else
 (jJ N a).bind fun h=>
 (jJ N b).bind fun i=>
 (yM N h.1 i.1).bind fun e=>
 (yM N h.2 i.2).bind fun f=>
 (ve N e f).bind fun g=>
 some g
theorem qdA (N:Nat) (a:Str) (b:Str) {res:Str} (h:qbE N a b=some res):qc ZT (.fn 25) (kAR a b) [] (.str res) []:=by
 unfold qbE at h
 refine Ub Tryz.func25 rfl rfl (m:=55) rfl (rs:=[.tmp 4]) rfl (l:=(kJ a b [])) rfl ?_
 refine sh fol (kJ a b []) ?_
 obtain⟨d,n,h⟩:=bnd h
 refine sq (gr fol [1] (kJ a b (kBf d.1 d.2.1 [(7,.bool d.2.2)])) (ac (cv (qbp N a n)) az) ?_)
 obtain⟨e,o,h⟩:=bnd h
 refine sq (gr fol [1] (kJ a b (kBf d.1 d.2.1 ((7,.bool d.2.2)::(kBA e.1 e.2.1 (kBV e.2.2))))) (ac (cv (qbp N b o)) az) ?_)
 refine sq ?_
 refine sq ?_
 obtain⟨y,c,h⟩:=bnd h
 refine Goes.cut (s':=(ofG 55 (kJ a b (kBf d.1 d.2.1 (kBA e.1 e.2.1 [(30,.bool y)]))),[])) ?_ ?_
 ·rcases wyB c with⟨t,c⟩|⟨t,c⟩
  ·obtain rfl:=si c
   exact tr fol [1] (kJ a b (kBf d.1 d.2.1 (kBA e.1 e.2.1 [(30,.bool e.2.2)]))) (ac (gw t) az)
  obtain rfl:=si c
  exact tr fol [1] (kJ a b (kBf d.1 d.2.1 (kBA e.1 e.2.1 [(30,.bool false)]))) (ac (gw t) az)
 refine ihB h (fun z h=>?_) (fun z h=>?_)
 ·obtain⟨x,p,h⟩:=bnd h
  refine sq (gr fol [6] (kBb x) (ac (cv (qeL N (w64 (d.1*e.1)) (w64 (d.2.1*e.2.1)) p)) az) ?_)
  refine Goes.ret ?_
  obtain rfl:=si h
  exact(gw2 [.str x] (Ua tS))
 refine Goes.skip ?_
 obtain⟨f,q,h⟩:=bnd h
 refine sq (gq fol [1] [(1,.str b),(11,.ptr 0 0),(12,.ptr 1 0)] (kO f.1.neg f.1.w f.2.neg f.2.w []) (ac (cv (xe N a q)) az) ?_)
 obtain⟨k,r,h⟩:=bnd h
 refine sq (gq fol [1] [(11,.ptr 0 0),(12,.ptr 1 0),(13,.ptr 2 0),(14,.ptr 3 0)] (kO f.1.neg f.1.w f.2.neg f.2.w (kO k.1.neg k.1.w k.2.neg k.2.w [])) (ac (cv (xe N b r)) az) ?_)
 obtain⟨u,g,h⟩:=bnd h
 obtain⟨v,i,h⟩:=bnd h
 obtain⟨s,j,h⟩:=bnd h
 refine sq (gr fol [2,5,6] (kBb s) (ac (cv (qap N f.1 k.1 g)) (ac (cv (qap N f.2 k.2 i)) (ac (cv (qad N u v j)) az))) ?_)
 refine Goes.ret ?_
 obtain rfl:=si h
 exact(gw2 [.str s] (Ua tS))
def qak (a:List Int) (i:Int):Option Int:=
 if i<(a.length:Int)then
 (idx a i).bind fun b=>
 some b
 else
 some 0
theorem qcx (a:List Int) (i:Int) {res:Int} (h:qak a i=some res):qc ZT (.fn 217) [vl encI a,.i i] [] (.i res) []:=by
 unfold qak at h
 refine Ub Tryz.func217 rfl rfl (m:=13) rfl (rs:=[.tmp 4]) rfl (l:=(kAn a [(1,.i i)])) rfl ?_
 refine sh fol (kAn a [(1,.i i)]) ?_
 refine sq ?_
 refine sh fol (kAn a ((1,.i i)::(kAz (decide (i<(a.length:Int)))))) ?_
 refine ihD h (fun d h=>?_) (fun d h=>?_)
 ·obtain⟨c,b,h⟩:=bnd h
  refine sq (gr fol [2,3] (kB7 c) (ac (iv vG encI b) (ac (lv 0 ce3 encI b rfl) az)) ?_)
  refine Goes.ret ?_
  obtain rfl:=si h
  exact(gw2 [.i c] (Ua tI))
 refine Goes.skip ?_
 refine sh fol [(4,.i 0)] ?_
 refine Goes.ret ?_
 obtain rfl:=si h
 exact(gw2 [.i 0] (Ua tI))
def zL (a:List Int) (b:List Int):Nat->(List Int)->Int->Int->Option (List Int)
 |0,_,_,_=>none
 |K+1,h,f,c=>
  (if c<(a.length:Int)then
  some true
  else
  if c<(b.length:Int)then
  some true
  else
  some (decide (f>0)):Option Bool).bind fun i=>
  if i=true then
  (qak a c).bind fun d=>
  (qak b c).bind fun e=>
  (app 8 h [(w64 ((w64 (d+e))+f)).tmod 1000000000]).bind fun g=>
  zL a b K g (w64 ((w64 ((w64 (d+e))+f)).tdiv 1000000000)) (w64 (c+1))
  else
  some h
def xV (N:Nat) (a:List Int) (b:List Int):Option (List Int):=
 (zL a b N ([]:List Int) 0 0).bind fun c=>
 some c
theorem qfv (N:Nat) (a:List Int) (b:List Int) {res:List Int} (h:xV N a b=some res):qc ZT (.fn 171) (kBg a b) [] (vl encI res) []:=by
 unfold xV at h
 refine Ub Tryz.func171 rfl rfl (m:=42) rfl (rs:=[.tmp 4]) rfl (l:=(kK a b [])) rfl ?_
 refine sh fol (kK a b []) ?_
 refine sh fol (kK a b [(5,.nilslice)]) ?_
 refine sh fol (kK a b [(5,.nilslice),(6,.i 0)]) ?_
 refine sq ?_
 refine sh fol (kK a b [(5,.nilslice),(6,.i 0),(7,.i 0)]) ?_
 refine Goes.block ?_
 obtain⟨v,g5,h⟩:=bnd h
 refine Goes.imp (Q:=fun x s'=>(x= .exit 0/\ ∃q,q=v/\Sub s' (ofG 42 (kAk q []),(kF q [])))) ?_ ?_
 ·refine Goes.sub (s':=(ofG 42 (kK a b [(5,.gslice 0 ([]:List Int).length 1),(6,.i 0),(7,.i 0)]),kBY)) (Sub.norm [] [none] rfl rfl (.keep (.same (qg encI _)) (.keep (.same (qg encI _)) (.keep .nil (.keep (.same nI) (.keep (.same nI) .nil))))) (.fresh .nil)) ?_
  refine Uc (fun M s=> ∃(k:List Int) (f:Int) (j:Int),s=(ofG 42 (kK a b (kAk k (kAV f j []))),(kF k []))/\zL a b M k f j=some v) ?_ (m:=N) ⟨_,_,_,rfl,g5⟩
  rintro M s ⟨k,f,j,rfl,g5⟩
  cases M with
  |zero=>simp only[zL]at g5;cases g5
  |succ M=>
   rw[zL]at g5
   refine sq ?_
   refine sq ?_
   obtain⟨w,c,g5⟩:=bnd g5
   refine Goes.cut (s':=(ofG 42 (kK a b (kAk k (kAV f j [(22,.bool w)]))),(kF k []))) ?_ ?_
   ·rcases wyD c with⟨r,c⟩|⟨r,c⟩
    ·obtain rfl:=si c
     exact tr fol [4] (kK a b (kAk k (kAV f j [(22,.bool true)]))) (ac (gw r) az)
    rcases wyD c with⟨t,c⟩|⟨t,c⟩
    ·obtain rfl:=si c
     exact tr fol [4,10] (kK a b (kAk k (kAV f j [(22,.bool true)]))) (ac (gw r) (ac (gw t) az))
    obtain rfl:=si c
    exact tr fol [4,10] (kK a b (kAk k (kAV f j [(22,.bool (decide (f>0)))]))) (ac (gw r) (ac (gw t) az))
   refine ihB g5 (fun u g5=>?_) (fun u g5=>?_)
   ·refine Goes.skip ?_
    refine sq (Goes.block ?_)
    obtain⟨d,n,g5⟩:=bnd g5
    obtain⟨e,o,g5⟩:=bnd g5
    refine sq (gr fol [2,5] (kK a b (kAk k (kAh j (w64 ((w64 (d+e))+f))))) (ac (cv (qcx a j n)) (ac (cv (qcx b j o)) az)) ?_)
    obtain⟨g,p,g5⟩:=bnd g5
    refine sq (gq fol [4] (kK a b ((5,.gslice 2 g.length 1)::(kAh j (w64 ((w64 (d+e))+f))))) (kBd ((w64 ((w64 (d+e))+f)).tmod 1000000000) (kF g [])) (ac (hs (.run [0,1] (yz ZT [85,85] (.gslice 0 k.length 1) (.slice 1 0 1 1 1)) (kF k [.cells [.i ((w64 ((w64 (d+e))+f)).tmod 1000000000)]]) (.gslice 2 g.length 1) (kBd ((w64 ((w64 (d+e))+f)).tmod 1000000000) (kF g [])) true) (qaQ vG (E:=encI) rfl (qen (E:=encI) (ys:=[(w64 ((w64 (d+e))+f)).tmod 1000000000]) rfl rfl rfl rfl) (qff (E:=encI) (l:=k) rfl rfl rfl p rfl))) az) ?_)
    refine gh fol (kK a b ((5,.gslice 2 g.length 1)::(kAV (w64 ((w64 ((w64 (d+e))+f)).tdiv 1000000000)) j []))) ?_
    refine gh fol (kK a b ((5,.gslice 2 g.length 1)::(kAV (w64 ((w64 ((w64 (d+e))+f)).tdiv 1000000000)) (w64 (j+1)) []))) ?_
    exact⟨M,(ofG 42 (kK a b (kAk g (kAV (w64 ((w64 ((w64 (d+e))+f)).tdiv 1000000000)) (w64 (j+1)) []))),(kF g [])),Nat.lt_succ_self _,(Sub.norm [] [some 2] rfl rfl (.keep (.same (qg encI _)) (.keep (.same (qg encI _)) (.keep (.gslice rfl) (.keep (.same nI) (.keep (.same nI) .nil))))) (.ks .nil)),_,_,_,rfl,g5⟩
   refine Goes.exit ?_
   obtain rfl:=si g5
   exact⟨rfl,_,rfl,(Sub.keep [5] rfl rfl)⟩
 rintro x s' ⟨rfl,q,rfl,hsub⟩
 refine Goes.sub hsub ?_
 refine sh fol [(4,.gslice 0 q.length 1)] ?_
 refine Goes.ret ?_
 obtain rfl:=si h
 exact(gw2 [.gslice 0 q.length 1] (FzW.fz (Fz.gs (E:=encI) rfl rfl (nl rfl))))
def zn (a:List Int) (b:List Int):Nat->(List Int)->Int->Int->Option (List Int)
 |0,_,_,_=>none
 |K+1,i,d,c=>
  if c<(a.length:Int)then
  (idx a c).bind fun e=>
  (qak b c).bind fun f=>
  ((if(w64 ((w64 (e-f))-d))<0 then
  some (1,w64 ((w64 ((w64 (e-f))-d))+1000000000))
  else
  some (0,w64 ((w64 (e-f))-d)):Option (Int×Int))).bind fun(j,g)=>
  (app 8 i [g]).bind fun h=>
  zn a b K h j (w64 (c+1))
  else
  some i
def yC (N:Nat) (a:List Int) (b:List Int):Option (List Int):=
 (zn a b N ([]:List Int) 0 0).bind fun d=>
 (yo N d).bind fun c=>
 some c
theorem qci (N:Nat) (a:List Int) (b:List Int) {res:List Int} (h:yC N a b=some res):qc ZT (.fn 173) (kBg a b) [] (vl encI res) []:=by
 unfold yC at h
 refine Ub Tryz.func173 rfl rfl (m:=35) rfl (rs:=[.tmp 4]) rfl (l:=(kK a b [])) rfl ?_
 refine sh fol (kK a b []) ?_
 refine sh fol (kK a b [(5,.nilslice)]) ?_
 refine sh fol (kK a b [(5,.nilslice),(6,.i 0)]) ?_
 refine sq ?_
 refine sh fol (kK a b [(5,.nilslice),(6,.i 0),(7,.i 0)]) ?_
 refine Goes.block ?_
 obtain⟨y,g5,h⟩:=bnd h
 refine Goes.imp (Q:=fun x s'=>(x= .exit 0/\ ∃j,j=y/\Sub s' (ofG 35 (kAk j []),(kF j [])))) ?_ ?_
 ·refine Goes.sub (s':=(ofG 35 (kK a b [(5,.gslice 0 ([]:List Int).length 1),(6,.i 0),(7,.i 0)]),kBY)) (Sub.norm [] [none] rfl rfl (.keep (.same (qg encI _)) (.keep (.same (qg encI _)) (.keep .nil (.keep (.same nI) (.keep (.same nI) .nil))))) (.fresh .nil)) ?_
  refine Uc (fun M s=> ∃(c:List Int) (k:Int) (d:Int),s=(ofG 35 (kK a b (kAk c (kAV k d []))),(kF c []))/\zn a b M c k d=some y) ?_ (m:=N) ⟨_,_,_,rfl,g5⟩
  rintro M s ⟨c,k,d,rfl,g5⟩
  cases M with
  |zero=>simp only[zn]at g5;cases g5
  |succ M=>
   rw[zn]at g5
   refine sq ?_
   refine sh fol (kK a b (kAk c (kAV k d (kBU (decide (d<(a.length:Int))))))) ?_
   refine ihD g5 (fun z g5=>?_) (fun z g5=>?_)
   ·refine Goes.skip ?_
    refine sq (Goes.block ?_)
    obtain⟨q,n,g5⟩:=bnd g5
    obtain⟨r,u,g5⟩:=bnd g5
    refine sq (gr fol [2,3,6] (kK a b (kAk c (kAh d (w64 ((w64 (q-r))-k))))) (ac (iv vG encI n) (ac (lv 0 ce3 encI n rfl) (ac (cv (qcx b d u)) az))) ?_)
    refine sh fol (kK a b (kAk c ((6,.i 0)::(kAh d (w64 ((w64 (q-r))-k)))))) ?_
    refine sq ?_
    refine sh fol (kK a b (kAk c [(6,.i 0),(7,.i d),(8,.i (w64 ((w64 (q-r))-k))),(26,.bool (decide ((w64 ((w64 (q-r))-k))<0)))])) ?_
    obtain⟨v,g11,g5⟩:=bnd g5
    refine Goes.imp (Q:=fun x s'=>(x= .normal/\ ∃t e,(t,e)=v/\Sub s' (ofG 35 (kK a b (kAk c (kAV t d (kBw e)))),(kF c [])))) ?_ ?_
    ·refine ihD g11 (fun w g11=>?_) (fun w g11=>?_)
     ·refine sh fol (kK a b (kAk c (kAh d (w64 ((w64 ((w64 (q-r))-k))+1000000000))))) ?_
      refine gh fol (kK a b (kAk c ((6,.i 1)::(kAh d (w64 ((w64 ((w64 (q-r))-k))+1000000000)))))) ?_
      obtain rfl:=si g11
      exact⟨rfl,_,_,rfl,(Sub.refl _)⟩
     refine Goes.skip ?_
     obtain rfl:=si g11
     exact⟨rfl,_,_,rfl,(Sub.keep [0,1,5,6,7,8] rfl rfl)⟩
    rintro x s' ⟨rfl,t,e,rfl,hsub⟩
    try dsimp only at g5
    refine Goes.sub hsub ?_
    obtain⟨f,o,g5⟩:=bnd g5
    refine gq fol [3] (kK a b ((5,.gslice 2 f.length 1)::(kAV t d []))) (kBd e (kF f [])) (ac (hs (.run [0,1] (yz ZT [85,85] (.gslice 0 c.length 1) (.slice 1 0 1 1 1)) (kF c [.cells [.i e]]) (.gslice 2 f.length 1) (kBd e (kF f [])) true) (qaQ vG (E:=encI) rfl (qen (E:=encI) (ys:=[e]) rfl rfl rfl rfl) (qff (E:=encI) (l:=c) rfl rfl rfl o rfl))) az) ?_
    refine gh fol (kK a b ((5,.gslice 2 f.length 1)::(kAV t (w64 (d+1)) []))) ?_
    exact⟨M,(ofG 35 (kK a b (kAk f (kAV t (w64 (d+1)) []))),(kF f [])),Nat.lt_succ_self _,(Sub.norm [] [some 2] rfl rfl (.keep (.same (qg encI _)) (.keep (.same (qg encI _)) (.keep (.gslice rfl) (.keep (.same nI) (.keep (.same nI) .nil))))) (.ks .nil)),_,_,_,rfl,g5⟩
   refine Goes.exit ?_
   obtain rfl:=si g5
   exact⟨rfl,_,rfl,(Sub.keep [5] rfl rfl)⟩
 rintro x s' ⟨rfl,j,rfl,hsub⟩
 refine Goes.sub hsub ?_
 obtain⟨g,p,h⟩:=bnd h
 refine sq (gq fol [1] [(4,vl encI g)] (kAp j) (ac (hs (.callF 210 [.gslice 0 j.length 1] (kF j []) [0] [vl encI j] (vl encI g)) (je (FzL.cons (Fz.gs (E:=encI) rfl rfl (nl rfl)) FzL.nil) (yT N j p) (qw encI _ (nl rfl)))) az) ?_)
 refine Goes.sub (show Sub (ofG 35 [(4,vl encI g)],(kAp j)) (ofG 35 [(4,vl encI g)],[])from(Sub.norm [] [] rfl rfl (.keep (.same (qg encI _)) .nil) .nil)) ?_
 refine Goes.ret ?_
 obtain rfl:=si h
 exact(gw2 [vl encI g] (Ua (qw encI _ (nl rfl))))
def qcw (N:Nat) (a:qO) (b:qO):Option qO:=
 if(a.neg==b.neg)=true then
 (xV N a.w b.w).bind fun c=>
 (zR N a.neg c).bind fun d=>
 some d
 else
 (jE N a.w b.w).bind fun e=>
 if e>=0 then
 (yC N a.w b.w).bind fun f=>
 (zR N a.neg f).bind fun g=>
 some g
 else
 (yC N b.w a.w).bind fun h=>
 (zR N b.neg h).bind fun i=>
 some i
theorem qiG (N:Nat) (a:qO) (b:qO) {res:qO} (h:qcw N a b=some res):qc ZT (.fn 118) (kAy a.neg a.w b.neg b.w) [] (.agg (kAr res.neg res.w)) []:=by
 unfold qcw at h
 refine Ub Tryz.func118 rfl rfl (m:=40) rfl (rs:=[.cell 4 121]) rfl (l:=(kBr a.neg a.w b.neg b.w)) rfl ?_
 refine sg fol (kH []) (kO a.neg a.w b.neg b.w (kU [])) ?_
 refine sq ?_
 refine sh fol (kH [(9,.bool (a.neg==b.neg))]) ?_
 refine ihB h (fun p h=>?_) (fun p h=>?_)
 ·obtain⟨q,c,h⟩:=bnd h
  obtain⟨k,d,h⟩:=bnd h
  refine sq (gq fol [6,7] (kAU []) (kO a.neg a.w b.neg b.w (kAW k.neg k.w [])) (ac (cv (qfv N a.w b.w c)) (ac (cv (jb N a.neg q d)) az)) ?_)
  refine Goes.ret ?_
  obtain rfl:=si h
  exact(gw2 [.agg (kAr k.neg k.w)] (FzW.agg (qb.cons (Ua tB) (qb.cons (Ua (qw encI _ (nl rfl))) qb.nil))))
 refine Goes.skip ?_
 refine sq ?_
 obtain⟨r,e,h⟩:=bnd h
 refine sq (gr fol [4] (kH [(23,.bool (decide (r>=0)))]) (ac (cv (qa4 N a.w b.w e)) az) ?_)
 refine ihD h (fun s h=>?_) (fun s h=>?_)
 ·obtain⟨t,f,h⟩:=bnd h
  obtain⟨n,g,h⟩:=bnd h
  refine sq (gq fol [6,7] (kAU []) (kO a.neg a.w b.neg b.w (kAW n.neg n.w [])) (ac (cv (qci N a.w b.w f)) (ac (cv (jb N a.neg t g)) az)) ?_)
  refine Goes.ret ?_
  obtain rfl:=si h
  exact(gw2 [.agg (kAr n.neg n.w)] (FzW.agg (qb.cons (Ua tB) (qb.cons (Ua (qw encI _ (nl rfl))) qb.nil))))
 refine Goes.skip ?_
 obtain⟨u,i,h⟩:=bnd h
 obtain⟨o,j,h⟩:=bnd h
 refine sq (gq fol [6,7] (kAU []) (kO a.neg a.w b.neg b.w (kAW o.neg o.w [])) (ac (cv (qci N b.w a.w i)) (ac (cv (jb N b.neg u j)) az)) ?_)
 refine Goes.ret ?_
 obtain rfl:=si h
 exact(gw2 [.agg (kAr o.neg o.w)] (FzW.agg (qb.cons (Ua tB) (qb.cons (Ua (qw encI _ (nl rfl))) qb.nil))))
def qbA (N:Nat) (a:Str) (b:Str):Option Str:=
 (vg N a).bind fun c=>
 (vg N b).bind fun d=>
 (if c.2.2=true then
 some d.2.2
 else
 some false:Option Bool).bind fun l=>
 if l=true then
 (qcp N (w64 ((w64 (c.1*d.2.1))+(w64 (d.1*c.2.1)))) (w64 (c.2.1*d.2.1))).bind fun m=>
 some m
 else
 (jJ N a).bind fun e=>
 (jJ N b).bind fun f=>
 (yM N e.1 f.2).bind fun g=>
 (yM N f.1 e.2).bind fun h=>
 (qcw N g h).bind fun i=>
 (yM N e.2 f.2).bind fun j=>
 (ve N i j).bind fun k=>
 some k
theorem qbb (N:Nat) (a:Str) (b:Str) {res:Str} (h:qbA N a b=some res):qc ZT (.fn 36) (kAR a b) [] (.str res) []:=by
 unfold qbA at h
 refine Ub Tryz.func36 rfl rfl (m:=63) rfl (rs:=[.tmp 4]) rfl (l:=(kJ a b [])) rfl ?_
 refine sh fol (kJ a b []) ?_
 obtain⟨d,p,h⟩:=bnd h
 refine sq (gr fol [1] (kJ a b (kBf d.1 d.2.1 [(7,.bool d.2.2)])) (ac (cv (qbp N a p)) az) ?_)
 obtain⟨e,q,h⟩:=bnd h
 refine sq (gr fol [1] (kJ a b (kBf d.1 d.2.1 ((7,.bool d.2.2)::(kBA e.1 e.2.1 (kBV e.2.2))))) (ac (cv (qbp N b q)) az) ?_)
 refine sq ?_
 refine sq ?_
 obtain⟨C,c,h⟩:=bnd h
 refine Goes.cut (s':=(ofG 63 (kJ a b (kBf d.1 d.2.1 (kBA e.1 e.2.1 [(30,.bool C)]))),[])) ?_ ?_
 ·rcases wyB c with⟨v,c⟩|⟨v,c⟩
  ·obtain rfl:=si c
   exact tr fol [1] (kJ a b (kBf d.1 d.2.1 (kBA e.1 e.2.1 [(30,.bool e.2.2)]))) (ac (gw v) az)
  obtain rfl:=si c
  exact tr fol [1] (kJ a b (kBf d.1 d.2.1 (kBA e.1 e.2.1 [(30,.bool false)]))) (ac (gw v) az)
 refine ihB h (fun D h=>?_) (fun D h=>?_)
 ·obtain⟨B,r,h⟩:=bnd h
  refine sq (gr fol [10] (kBb B) (ac (cv (qeL N (w64 ((w64 (d.1*e.2.1))+(w64 (e.1*d.2.1)))) (w64 (d.2.1*e.2.1)) r)) az) ?_)
  refine Goes.ret ?_
  obtain rfl:=si h
  exact(gw2 [.str B] (Ua tS))
 refine Goes.skip ?_
 obtain⟨f,s,h⟩:=bnd h
 refine sq (gq fol [1] [(1,.str b),(11,.ptr 0 0),(12,.ptr 1 0)] (kO f.1.neg f.1.w f.2.neg f.2.w []) (ac (cv (xe N a s)) az) ?_)
 obtain⟨g,t,h⟩:=bnd h
 refine sq (gq fol [1] [(11,.ptr 0 0),(12,.ptr 1 0),(13,.ptr 2 0),(14,.ptr 3 0)] (kO f.1.neg f.1.w f.2.neg f.2.w (kO g.1.neg g.1.w g.2.neg g.2.w [])) (ac (cv (xe N b t)) az) ?_)
 obtain⟨x,i,h⟩:=bnd h
 obtain⟨y,j,h⟩:=bnd h
 obtain⟨z,k,h⟩:=bnd h
 obtain⟨A,n,h⟩:=bnd h
 obtain⟨u,o,h⟩:=bnd h
 refine sq (gr fol [2,5,6,9,10] (kBb u) (ac (cv (qap N f.1 g.2 i)) (ac (cv (qap N g.1 f.2 j)) (ac (cv (qiG N x y k)) (ac (cv (qap N f.2 g.2 n)) (ac (cv (qad N z A o)) az))))) ?_)
 refine Goes.ret ?_
 obtain rfl:=si h
 exact(gw2 [.str u] (Ua tS))
def qdg (a:Str):Option Str:=
 (xN a).bind fun b=>
 if b<0 then
 (cut a 1 (a.length:Int)).bind fun c=>
 some c
 else
 (xN a).bind fun d=>
 if d=0 then
 some a
 else
 (cat [45] a).bind fun e=>
 some e
theorem qjj (a:Str) {res:Str} (h:qdg a=some res):qc ZT (.fn 111) [.str a] [] (.str res) []:=by
 unfold qdg at h
 refine Ub Tryz.func111 rfl rfl (m:=14) rfl (rs:=[.tmp 2]) rfl (l:=(kAQ a [])) rfl ?_
 refine sh fol (kAQ a []) ?_
 refine sq ?_
 obtain⟨j,b,h⟩:=bnd h
 refine sq (gr fol [1] (kAQ a [(5,.bool (decide (j<0)))]) (ac (cv (qbK a b)) az) ?_)
 refine ihD h (fun k h=>?_) (fun k h=>?_)
 ·obtain⟨f,c,h⟩:=bnd h
  refine sq (gr fol [1] (kBs f) (ac (hs (.done (.opt (kT ZT 23 (.str a) (some (.i 1)) none none)) (.str f)) (jg qlc (some 1) none c)) az) ?_)
  refine Goes.ret ?_
  obtain rfl:=si h
  exact(gw2 [.str f] (Ua tS))
 refine Goes.skip ?_
 refine sq ?_
 obtain⟨n,d,h⟩:=bnd h
 refine sq (gr fol [1] (kAQ a (kBV (decide (n=0)))) (ac (cv (qbK a d)) az) ?_)
 refine ihD h (fun o h=>?_) (fun o h=>?_)
 ·refine sh fol (kBs a) ?_
  refine Goes.ret ?_
  obtain rfl:=si h
  exact(gw2 [.str a] (Ua tS))
 refine Goes.skip ?_
 obtain⟨g,e,h⟩:=bnd h
 refine sq (gr fol [1] (kBs g) (ac (hs (.done (.opt (zf ZT .add 23 (.const (.string ⟨#[45]⟩)) (.tmp 12) (.str [45]) (.str a))) (.str g)) (qaR e)) az) ?_)
 refine Goes.ret ?_
 obtain rfl:=si h
 exact(gw2 [.str g] (Ua tS))
def qbB (N:Nat) (a:Str) (b:Str):Option Str:=
 (qdg b).bind fun c=>
 (qbA N a c).bind fun d=>
 some d
theorem qb9 (N:Nat) (a:Str) (b:Str) {res:Str} (h:qbB N a b=some res):qc ZT (.fn 28) (kAR a b) [] (.str res) []:=by
 unfold qbB at h
 refine Ub Tryz.func28 rfl rfl (m:=9) rfl (rs:=[.tmp 4]) rfl (l:=(kJ a b [])) rfl ?_
 refine sh fol (kJ a b []) ?_
 obtain⟨f,c,h⟩:=bnd h
 obtain⟨e,d,h⟩:=bnd h
 refine sq (gr fol [2,3] (kBb e) (ac (cv (qjj b c)) (ac (cv (qbb N a f d)) az)) ?_)
 refine Goes.ret ?_
 obtain rfl:=si h
 exact(gw2 [.str e] (Ua tS))
def xg (N:Nat) (a:Str) (b:Str):Option Int:=
 (qbB N a b).bind fun c=>
 (xN c).bind fun d=>
 some d
theorem qaF (N:Nat) (a:Str) (b:Str) {res:Int} (h:xg N a b=some res):qc ZT (.fn 27) (kAR a b) [] (.i res) []:=by
 unfold xg at h
 refine Ub Tryz.func27 rfl rfl (m:=9) rfl (rs:=[.tmp 4]) rfl (l:=(kJ a b [])) rfl ?_
 refine sh fol (kJ a b []) ?_
 obtain⟨f,c,h⟩:=bnd h
 obtain⟨e,d,h⟩:=bnd h
 refine sq (gr fol [2,3] (kB7 e) (ac (cv (qb9 N a b c)) (ac (cv (qbK f d)) az)) ?_)
 refine Goes.ret ?_
 obtain rfl:=si h
 exact(gw2 [.i e] (Ua tI))
def xw (N:Nat) (a:Str):Option Str:=
 (jJ N a).bind fun b=>
 (ve N b.2 b.1).bind fun c=>
 some c
theorem qfb (N:Nat) (a:Str) {res:Str} (h:xw N a=some res):qc ZT (.fn 117) [.str a] [] (.str res) []:=by
 unfold xw at h
 refine Ub Tryz.func117 rfl rfl (m:=13) rfl (rs:=[.tmp 2]) rfl (l:=(kAQ a [])) rfl ?_
 refine sh fol (kAQ a []) ?_
 obtain⟨b,c,h⟩:=bnd h
 refine sq (gq fol [1] (kQ []) (kO b.1.neg b.1.w b.2.neg b.2.w []) (ac (cv (xe N a c)) az) ?_)
 obtain⟨e,d,h⟩:=bnd h
 refine sq (gr fol [2] (kBs e) (ac (cv (qad N b.2 b.1 d)) az) ?_)
 refine Goes.ret ?_
 obtain rfl:=si h
 exact(gw2 [.str e] (Ua tS))
def qdx (N:Nat) (a:Str) (b:Str):Option Str:=
 (xw N b).bind fun c=>
 (qbE N a c).bind fun d=>
 some d
theorem qjv (N:Nat) (a:Str) (b:Str) {res:Str} (h:qdx N a b=some res):qc ZT (.fn 35) (kAR a b) [] (.str res) []:=by
 unfold qdx at h
 refine Ub Tryz.func35 rfl rfl (m:=9) rfl (rs:=[.tmp 4]) rfl (l:=(kJ a b [])) rfl ?_
 refine sh fol (kJ a b []) ?_
 obtain⟨f,c,h⟩:=bnd h
 obtain⟨e,d,h⟩:=bnd h
 refine sq (gr fol [2,3] (kBb e) (ac (cv (qfb N b c)) (ac (cv (qdA N a f d)) az)) ?_)
 refine Goes.ret ?_
 obtain rfl:=si h
 exact(gw2 [.str e] (Ua tS))
end Go.Av
