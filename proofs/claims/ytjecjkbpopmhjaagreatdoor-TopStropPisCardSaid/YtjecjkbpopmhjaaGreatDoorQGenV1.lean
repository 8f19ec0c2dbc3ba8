/-
  Walks of functions: what each computes, as a plain function.
-/
import Derived.Test.YtjecjkbpopmhjaaGreatDoorAvJnV
noncomputable section
namespace Go.Av
open Go.Proofs Go.RowKit
abbrev ZT:=Tryz.prog
set_option linter.unusedSectionVars false
set_option linter.unusedVariables false
set_option linter.unusedSimpArgs false
set_option maxRecDepth 100000
theorem fol:Tryz.prog.follows .mixedOrders=true:=by kernel_rfl
structure qI where
 neg:Bool
 w:List Int
def qjT:Enc qI:=(encB.prod (qnp encI)).comap fun x=>(x.neg,x.w)
instance:SE qjT:=⟨nl rfl⟩
structure qj where
 s:Int
 w:List Int
def qiS:Enc qj:=(encI.prod (encN (qa .u64))).comap fun x=>(x.s,x.w)
instance:SE qiS:=⟨nl rfl⟩
structure ql where
 Num:qj
 Den:qj
def qf:Enc ql:=(qiS.prod qiS).comap fun x=>(x.Num,x.Den)
instance:SE qf:=⟨nl rfl⟩
structure qmN where
 n:ql
 d:ql
def qiN:Enc qmN:=(qf.prod qf).comap fun x=>(x.n,x.d)
instance:SE qiN:=⟨nl rfl⟩
structure qJ where
 Low:Str
 High:Str
def qnC:Enc qJ:=(encS.prod encS).comap fun x=>(x.Low,x.High)
instance:SE qnC:=⟨nl rfl⟩
abbrev kA {α3:Type} {α4:Type} (a:List Int) (b:List Int) (c:Int) (d:List α3) (e:List α4) (f:Int) (x:List (Nat×AV)):List (Nat×AV):=(8,vl encI a)::(9,vl encI b)::(10,.i c)::(11,.oslice 0 d.length 1)::(12,.slice 1 0 e.length e.length 1)::(13,.i f)::x
abbrev kB (a:Str) (b:Str) (c:Str) (d:Str) (x:List Blk):List Blk:= .cells [.str a,.str b]:: .cells [.str c,.str d]::x
abbrev kC (a:Str) (b:Str) (c:Int) (d:Int) (e:Int) (x:List (Nat×AV)):List (Nat×AV):=(0,.str a)::(1,.str b)::(2,.i c)::(7,.ptr 0 0)::(8,.ptr 1 0)::(9,.ptr 2 0)::(10,.i d)::(11,.i e)::x
abbrev kD (a:List Int) (x:List Blk):List Blk:= .cells (a.flatMap encI.c)::x
abbrev kE (x:List Blk):List Blk:= .cells [.i 0,.nilslice,.i 0,.nilslice]::x
abbrev kF {α0:Type} (a:List α0) (x:List (Nat×AV)):List (Nat×AV):=(5,.slice 0 0 a.length a.length 1)::x
abbrev kG (x:List (Nat×AV)):List (Nat×AV):=(2,.ptr 0 0)::(3,.ptr 1 0)::(4,.ptr 2 0)::x
abbrev kH (a:Str) (b:Str) (c:List ql) (x:List Blk):List Blk:= .cells [.str a,.str b]:: .cells [.str [],.str []]:: .cells (c.flatMap qf.c)::x
abbrev kI {α0:Type} {α2:Type} (a:List α0) (b:Int) (c:List α2) (x:List (Nat×AV)):List (Nat×AV):=(11,.slice 0 0 a.length a.length 1)::(12,.i b)::(13,.slice 1 0 c.length c.length 1)::x
abbrev kJ (a:List Int) (b:List Int) (x:List (Nat×AV)):List (Nat×AV):=(0,vl encI a)::(1,vl encI b)::x
abbrev kK (a:Int) (b:Int) (c:Int) (d:Int) (x:List (Nat×AV)):List (Nat×AV):=(2,.int .u64 a)::(8,.int .u64 b)::(9,.int .u64 c)::(10,.int .u64 d)::x
abbrev kM {α0:Type} (a:List α0) (b:List ql) (c:Int) (d:Int) (e:List ql) (f:Int) (x:List (Nat×AV)):List (Nat×AV):=(4,.ptr 0 0)::(6,.ptr 1 0)::(8,.gslice 2 a.length 4)::(10,.ptr 3 0)::(18,vl qf b)::(19,.i c)::(20,.i d)::(29,vl qf e)::(30,.i f)::x
abbrev kN (a:Bool) (b:List Int) (c:Bool) (d:List Int) (x:List Blk):List Blk:= .cells [.bool a,vl encI b]:: .cells [.bool c,vl encI d]::x
abbrev kP (x:List (Nat×AV)):List (Nat×AV):=(14,.ptr 4 0)::(16,.ptr 5 0)::(20,.ptr 7 0)::x
abbrev kQ (x:List Blk):List Blk:= .cells [.bool false,.nilslice]::x
abbrev kR (a:Str) (b:Str) (x:List (Nat×AV)):List (Nat×AV):=(0,.str a)::(1,.str b)::x
abbrev kS (x:List Blk):List Blk:= .cells [.str [],.str []]::x
abbrev kT (a:Int) (b:Int) (c:Int) (x:List (Nat×AV)):List (Nat×AV):=(14,.int .u64 a)::(15,.int .u64 b)::(16,.int .u64 c)::x
abbrev kU (x:List (Nat×AV)):List (Nat×AV):=(2,.ptr 0 0)::x
abbrev kV {α0:Type} (a:List α0) (b:List ql) (c:Int) (d:Int) (x:List (Nat×AV)):List (Nat×AV):=(4,.ptr 0 0)::(6,.ptr 1 0)::(8,.gslice 2 a.length 4)::(18,vl qf b)::(19,.i c)::(20,.i d)::x
abbrev kW (a:Int) (b:Int) (x:List (Nat×AV)):List (Nat×AV):=(5,.i a)::(6,.int .u64 b)::x
abbrev kX {α0:Type} (a:List α0) (x:List (Nat×AV)):List (Nat×AV):=(6,.slice 0 0 a.length a.length 1)::x
abbrev kY (x:List (Nat×AV)):List (Nat×AV):=(4,.ptr 0 0)::(5,.ptr 1 0)::x
abbrev kZ (a:Str) (b:Str) (x:List Blk):List Blk:= .cells [.str a,.str b]::x
abbrev kAC (a:Int) (b:Int) (x:List (Nat×AV)):List (Nat×AV):=(0,.int .u64 a)::(1,.int .u64 b)::x
abbrev kAD (a:Int) (b:Int) (x:List (Nat×AV)):List (Nat×AV):=(11,.int .u64 a)::(12,.int .u64 b)::x
abbrev kAE (a:Int) (b:Int) (x:List (Nat×AV)):List (Nat×AV):=(7,.int .u64 a)::(8,.int .u64 b)::x
abbrev kAF (a:Str) (b:Str) (x:List AV):List AV:= .agg [.str a,.str b]::x
abbrev kAG (a:List ql):List Blk:=[.cells (a.flatMap qf.c)]
abbrev kAH (a:Int) (b:Int) (x:List (Nat×AV)):List (Nat×AV):=(21,.i a)::(22,.i b)::x
abbrev kAI {α0:Type} (a:List α0) (x:List (Nat×AV)):List (Nat×AV):=(6,.gslice 0 a.length 1)::x
abbrev kAJ (a:Str) (b:Str) (c:Bool) (x:List (Nat×AV)):List (Nat×AV):=(5,.str a)::(6,.str b)::(7,.bool c)::x
abbrev kAK (a:List Str) (x:List Blk):List Blk:= .cells (a.flatMap encS.c)::x
abbrev kAL {α0:Type} (a:List α0) (b:List Str) (c:Int) (x:List (Nat×AV)):List (Nat×AV):=(3,.slice 0 0 a.length a.length 4)::(9,vl encS b)::(10,.i c)::x
abbrev kAM (x:List (Nat×AV)):List (Nat×AV):=(4,.ptr 2 0)::x
abbrev kAN {α0:Type} (a:List α0) (b:List ql) (c:Int) (d:Int) (e:List ql) (f:Int) (x:List (Nat×AV)):List (Nat×AV):=(4,.ptr 0 0)::(6,.ptr 1 0)::(8,.gslice 6 a.length 4)::(10,.ptr 3 0)::(18,vl qf b)::(19,.i c)::(20,.i d)::(29,vl qf e)::(30,.i f)::x
abbrev kAO (a:Int) (b:Int):List (Nat×AV):=[(7,.i a),(8,.i b)]
abbrev kAP (a:Int) (x:List (Nat×AV)):List (Nat×AV):=(6,.int .u64 a)::x
abbrev kAQ (a:Str) (x:List (Nat×AV)):List (Nat×AV):=(0,.str a)::x
abbrev kAR (a:Int) (b:Int) (x:List (Nat×AV)):List (Nat×AV):=(15,.i a)::(16,.i b)::x
abbrev kAS (a:Int) (b:Int):List (Nat×AV):=[(13,.i a),(14,.i b)]
abbrev kAU (a:Int) (b:Int) (x:List (Nat×AV)):List (Nat×AV):=(0,.i a)::(1,.i b)::x
abbrev kAV (a:Bool) (b:List Int) (x:List Blk):List Blk:= .cells [.bool a,vl encI b]::x
abbrev kAW {α0:Type} (a:List α0) (x:List (Nat×AV)):List (Nat×AV):=(5,.gslice 0 a.length 1)::x
abbrev kAX (x:List (Nat×AV)):List (Nat×AV):=(4,.ptr 1 0)::(5,.ptr 2 0)::x
abbrev kAY (x:List (Nat×AV)):List (Nat×AV):=(1,.ptr 0 0)::x
abbrev kAZ (a:Int) (b:Int) (x:List (Nat×AV)):List (Nat×AV):=(11,.int .u64 a)::(13,.int .u64 b)::x
abbrev kAa (a:List ql) (b:Int):List (Nat×AV):=[(8,.nilslice),(18,vl qf a),(19,.i b),(20,.i 0)]
abbrev kAb (a:List Int):List Blk:=[.frozen (a.flatMap encI.c)]
abbrev kAc (a:Int) (b:Int) (x:List (Nat×AV)):List (Nat×AV):=(17,.int .u64 a)::(18,.int .u64 b)::x
abbrev kAd (x:List (Nat×AV)):List (Nat×AV):=(4,.ptr 0 0)::x
abbrev kAe (a:Int) (b:Int) (x:List Blk):List Blk:= .cells [.i a,.i b]::x
abbrev kAf (x:List (Nat×AV)):List (Nat×AV):=(3,.ptr 0 0)::(4,.ptr 1 0)::(6,.ptr 2 0)::x
abbrev kAg (a:Bool) (b:List Int):List AV:=[.bool a,vl encI b]
abbrev kAh {α3:Type} (a:List Int) (b:List Int) (c:Int) (d:List α3) (x:List (Nat×AV)):List (Nat×AV):=(8,vl encI a)::(9,vl encI b)::(10,.i c)::(11,.oslice 0 d.length 1)::x
abbrev kAi (a:List ql) (x:List (Nat×AV)):List (Nat×AV):=(0,vl qf a)::x
abbrev kAj (x:List (Nat×AV)):List (Nat×AV):=(3,.ptr 1 0)::x
abbrev kAk (a:Int) (x:List (Nat×AV)):List (Nat×AV):=(7,.int .u64 a)::x
abbrev kAl (a:List Int) (b:Int) (x:List (Nat×AV)):List (Nat×AV):=(0,vl encI a)::(1,.i b)::x
abbrev kAm (a:Bool) (b:List Int) (c:Bool) (d:List Int):List AV:=[.agg [.bool a,vl encI b],.agg [.bool c,vl encI d]]
abbrev kAn (a:Int) (b:Int) (x:List (Nat×AV)):List (Nat×AV):=(6,.i a)::(7,.i b)::x
abbrev kAo:List (Nat×AV):=[(2,.ptr 1 0)]
abbrev kAp (a:Str) (b:Str) (c:Str) (d:Str) (x:List (Nat×AV)):List (Nat×AV):=(0,.agg [.str a,.str b])::(1,.agg [.str c,.str d])::x
abbrev kAq (a:Str) (b:Int) (x:List (Nat×AV)):List (Nat×AV):=(3,.str a)::(4,.i b)::x
abbrev kAr {α0:Type} (a:List α0) (b:Bool) (x:List (Nat×AV)):List (Nat×AV):=(3,.gslice 1 a.length 1)::(4,.bool b)::x
abbrev kAs (a:Int) (b:Int) (c:Int) (d:Int) (x:List (Nat×AV)):List (Nat×AV):=(2,.i a)::(7,.i b)::(9,.i c)::(10,.i d)::x
abbrev kAt (a:Int) (b:Int) (x:List (Nat×AV)):List (Nat×AV):=(8,.i a)::(9,.i b)::x
abbrev kAu (a:Int) (b:Int):List (Nat×AV):=[(104,.i a),(105,.i b)]
abbrev kAv (a:Int) (b:Int):List (Nat×AV):=[(28,.i a),(29,.i b)]
abbrev kAw (a:Int) (b:Int) (c:Int) (x:List (Nat×AV)):List (Nat×AV):=(17,.int .u64 a)::(156,.i b)::(157,.i c)::x
abbrev kAx (a:Bool) (x:List (Nat×AV)):List (Nat×AV):=(3,.bool a)::(4,.ptr 1 0)::x
abbrev kAy {α0:Type} (a:List α0) (x:List (Nat×AV)):List (Nat×AV):=(6,.ptr 1 0)::(8,.gslice 2 a.length 4)::(10,.ptr 3 0)::x
abbrev kAz (a:Str) (b:Bool) (x:List (Nat×AV)):List (Nat×AV):=(5,.str a)::(6,.bool b)::x
abbrev kA0 (a:Int) (b:Int):List (Nat×AV):=[(96,.i a),(97,.i b)]
abbrev kA1 (a:Int) (b:Int) (x:List (Nat×AV)):List (Nat×AV):=(24,.i a)::(25,.i b)::x
abbrev kA2 (a:Int):List Blk:=[.cells [.i a,.nilslice]]
abbrev kA3 (a:Int) (b:Int) (x:List (Nat×AV)):List (Nat×AV):=(14,.int .u64 a)::(15,.int .u64 b)::x
abbrev kA4 (a:Int):List (Nat×AV):=[(5,.i a)]
abbrev kA5 (x:List (Nat×AV)):List (Nat×AV):=(14,.ptr 4 0)::(15,.ptr 5 0)::x
abbrev kA6 (a:Bool):List (Nat×AV):=[(4,.bool a)]
abbrev kA7 (a:List ql):List Blk:=[.frozen (a.flatMap qf.c)]
abbrev kA8:List Blk:=[.cells (([]:List Int).flatMap encI.c)]
abbrev kA9 (a:Str) (b:Str):List AV:=[.str a,.str b]
abbrev kBA (a:Int) (b:Int) (c:Int) (x:List (Nat×AV)):List (Nat×AV):=(13,.i a)::(14,.ptr 4 0)::(15,.i b)::(16,.ptr 5 0)::(17,.i c)::x
abbrev kBB (a:Int):List (Nat×AV):=[(2,.i a)]
abbrev kBC:List (Nat×AV):=[(6,.bool false)]
abbrev kBD (x:List (Nat×AV)):List (Nat×AV):=(7,.ptr 0 0)::(8,.ptr 1 0)::(9,.ptr 2 0)::x
abbrev kBE (a:Int) (x:List Blk):List Blk:= .dead:: .cells [.i a]::x
abbrev kBF (a:List Int) (x:List (Nat×AV)):List (Nat×AV):=(0,vl encI a)::x
abbrev kBG (a:List Int) (b:List Int):List AV:=[vl encI a,vl encI b]
abbrev kBH (x:List (Nat×AV)):List (Nat×AV):=(5,.ptr 3 0)::x
abbrev kBJ (a:List Int) (x:List (Nat×AV)):List (Nat×AV):=(5,vl encI a)::x
abbrev kBK:List (Nat×AV):=[(4,.bool false)]
abbrev kBL (a:Bool) (b:List Int) (c:Bool) (d:List Int):List (Nat×AV):=[(0,.agg [.bool a,vl encI b]),(1,.agg [.bool c,vl encI d])]
abbrev kBM (a:Bool):List (Nat×AV):=[(12,.bool a)]
abbrev kBN (a:Str) (b:Str):List Blk:=[.frozen [.str a,.str b]]
abbrev kBO (a:Int) (x:List (Nat×AV)):List (Nat×AV):=(0,.int .u64 a)::x
abbrev kBP (a:Bool) (x:List (Nat×AV)):List (Nat×AV):=(3,.bool a)::x
abbrev kBQ (a:Int):List (Nat×AV):=[(6,.ptr 0 0),(7,.i a)]
abbrev kBR (a:Int):List (Nat×AV):=[(6,.i a)]
abbrev kBS (a:Str):List (Nat×AV):=[(2,.str a)]
abbrev kBT (x:List (Nat×AV)):List (Nat×AV):=(10,.ptr 1 0)::x
abbrev kBU (a:Bool):List (Nat×AV):=[(13,.bool a)]
abbrev kBV (a:Int):List (Nat×AV):=[(2,.i a),(51,.bool true)]
abbrev kBW (a:Int) (b:Int):List AV:=[.int .u64 a,.int .u64 b]
abbrev kBX (a:Bool):List (Nat×AV):=[(8,.bool a)]
abbrev kBY (x:List (Nat×AV)):List (Nat×AV):=(8,.int .u64 0)::x
abbrev kBZ (x:List (Nat×AV)):List (Nat×AV):=(4,.ptr 1 0)::x
abbrev nz1 (x:qj):List AV:=ni1 x.s x.w
abbrev nq1 (x:ql):List AV:=ni2 x.Num.s x.Num.w x.Den.s x.Den.w
theorem jW:SlT ZT 49 3 1 8:=⟨by kernel_rfl,by kernel_rfl,by kernel_rfl,by kernel_rfl⟩
theorem ce3:CeT ZT 3:=⟨by kernel_rfl,by kernel_rfl⟩
theorem st9:Tryz.prog.underlying 9=some .string:=by kernel_rfl
theorem qlg:Tryz.prog.underlying 22=some .string:=by kernel_rfl
theorem sl99:SlT ZT 99 25 1 8:=⟨by kernel_rfl,by kernel_rfl,by kernel_rfl,by kernel_rfl⟩
theorem ce25:CeT ZT 25:=⟨by kernel_rfl,by kernel_rfl⟩
theorem qaw:Tryz.prog.underlying 53=some (.slice 146):=by kernel_rfl
theorem zN:SlT ZT 53 146 1 8:=⟨by kernel_rfl,by kernel_rfl,by kernel_rfl,by kernel_rfl⟩
theorem zW:CeT ZT 146:=⟨by kernel_rfl,by kernel_rfl⟩
theorem qpM:SlT ZT 175 9 1 16:=⟨by kernel_rfl,by kernel_rfl,by kernel_rfl,by kernel_rfl⟩
theorem ce9:CeT ZT 9:=⟨by kernel_rfl,by kernel_rfl⟩
theorem sl94:SlT ZT 94 22 1 16:=⟨by kernel_rfl,by kernel_rfl,by kernel_rfl,by kernel_rfl⟩
theorem ce22:CeT ZT 22:=⟨by kernel_rfl,by kernel_rfl⟩
theorem qco:SlT ZT 135 57 4 64:=⟨by kernel_rfl,by kernel_rfl,by kernel_rfl,by kernel_rfl⟩
theorem qh7:AgT ZT 57 4:=⟨by kernel_rfl,by kernel_rfl⟩
theorem qpY:EqT ZT 37 #[{name:= "Low",type:=22,offset:=0,embedded:=false,tag:= "",pkgPath:= "",byteOffset:=0},{name:= "High",type:=22,offset:=1,embedded:=false,tag:= "",pkgPath:= "",byteOffset:=16}]:=⟨by kernel_rfl,by kernel_rfl,by kernel_rfl⟩
def yL:Nat->(List Int)->Option (List Int)
 |0,_=>none
 |K+1,a=>
  (if(a.length:Int)>0 then
  (idx a (w64 ((a.length:Int)-1))).bind fun b=>
  some (decide (b=0))
  else
  some false:Option Bool).bind fun c=>
  if c=true then
  (cut a 0 (w64 ((a.length:Int)-1))).bind fun d=>
  yL K d
  else
  some a
def ym (N:Nat) (w:List Int):Option (List Int):=
 (yL N w).bind fun a=>
 some a
theorem yO (N:Nat) (w:List Int) {res:List Int} (h:ym N w=some res):qb ZT (.fn 130) [vl encI w] [] (vl encI res) []:=by
 unfold ym at h
 refine Ub Tryz.func130 rfl rfl (m:=21) rfl (rs:=[.tmp 2]) rfl (l:=(kBF w [])) rfl ?_
 refine sh fol (kBF w []) ?_
 refine sq (Goes.block ?_)
 obtain⟨j,g3,h⟩:=bnd h
 refine Goes.imp (Q:=fun x s'=>(x= .exit 0/\ ∃d,d=j/\Sub s' (ofG 21 (kBF d []),[]))) ?_ ?_
 ·refine Uc (fun M s=> ∃(b:List Int),s=(ofG 21 (kBF b []),[])/\yL M b=some j) ?_ (m:=N) ⟨_,rfl,g3⟩
  rintro M s ⟨b,rfl,g3⟩
  cases M with
  |zero=>simp only[yL]at g3;cases g3
  |succ M=>
   rw[yL]at g3
   refine sq ?_
   refine sq ?_
   obtain⟨k,a,g3⟩:=bnd g3
   refine Goes.cut (s':=(ofG 21 (kBF b [(14,.bool k)]),[])) ?_ ?_
   ·rcases wyD a with⟨f,a⟩|⟨f,a⟩
    ·obtain⟨n,c,a⟩:=bnd a
     obtain rfl:=si a
     exact tr fol [3,8,9] (kBF b [(14,.bool (decide (n=0)))]) (ac (gw f) (ac (iv jW encI c) (ac (lv 0 ce3 encI c rfl) az)))
    obtain rfl:=si a
    exact tr fol [3] (kBF b [(14,.bool false)]) (ac (gw f) az)
   refine ihB g3 (fun o g3=>?_) (fun o g3=>?_)
   ·refine Goes.skip ?_
    refine Goes.block ?_
    obtain⟨g,e,g3⟩:=bnd g3
    refine gr fol [4] (kBF g []) (ac (hs (.done (.opt (qV ZT 49 (vl encI b) none (some (.i (w64 ((b.length:Int)-1)))) none)) (vl encI g)) (qma jW (E:=encI) rfl none (some (w64 ((b.length:Int)-1))) e)) az) ?_
    exact⟨M,(ofG 21 (kBF g []),[]),Nat.lt_succ_self _,(Sub.refl _),_,rfl,g3⟩
   refine Goes.exit ?_
   obtain rfl:=si g3
   exact⟨rfl,_,rfl,(Sub.keep [0] rfl rfl)⟩
 rintro x s' ⟨rfl,d,rfl,hsub⟩
 refine Goes.sub hsub ?_
 refine sh fol [(2,vl encI d)] ?_
 refine Goes.ret ?_
 obtain rfl:=si h
 exact(gw2 [vl encI d] (Ua (qx encI _ (nl rfl))))
def zJ (N:Nat) (neg:Bool) (w:List Int):Option qI:=
 (ym N w).bind fun a=>
 (if neg=true then
 some (decide ((a.length:Int)>0))
 else
 some false:Option Bool).bind fun b=>
 some (⟨b,a⟩:qI)
theorem z8 (N:Nat) (neg:Bool) (w:List Int) {res:qI} (h:zJ N neg w=some res):qb ZT (.fn 89) (kAg neg w) [] (.agg (kAg res.neg res.w)) []:=by
 unfold zJ at h
 refine Ub Tryz.func89 rfl rfl (m:=15) rfl (rs:=[.cell 4 72]) rfl (l:=[(0,.bool neg),(1,vl encI w)]) rfl ?_
 refine sg fol ((0,.bool neg)::(1,vl encI w)::(kAd [])) (kQ []) ?_
 obtain⟨b,c,h⟩:=bnd h
 refine sq (gr fol [1] ((0,.bool neg)::(1,vl encI b)::(kAd [])) (ac (cv (yO N w c)) az) ?_)
 refine sq ?_
 obtain⟨e,a,h⟩:=bnd h
 refine Goes.cut (s':=(ofG 15 (kAd []),(kAV e b []))) ?_ ?_
 ·rcases wyB a with⟨d,a⟩|⟨d,a⟩
  ·obtain rfl:=si a
   exact qad.rq fol [1] (kAd []) (kAV (decide ((b.length:Int)>0)) b []) (ac (gw d) az)
  obtain rfl:=si a
  exact qad.rq fol [1] (kAd []) [.cells [.bool false,vl encI b]] (ac (gw d) az)
 refine Goes.ret ?_
 obtain rfl:=si h
 exact(gw2 [.agg (kAg e b)] (FzW.agg (qc.cons (Ua tB) (qc.cons (Ua (qx encI _ (nl rfl))) qc.nil))))
def jX:Nat->(List Int)->Int->Option (List Int)
 |0,_,_=>none
 |K+1,b,a=>
  if(!decide (a=0))=true then
  ((if(a.tmod 1000000000)<0 then
  some (w64 (0-(a.tmod 1000000000)))
  else
  some (a.tmod 1000000000):Option Int)).bind fun c=>
  (app 8 b [c]).bind fun d=>
  jX K d (w64 (a.tdiv 1000000000))
  else
  some b
def xU (N:Nat) (n:Int):Option qI:=
 (jX N ([]:List Int) n).bind fun b=>
 (zJ N (decide (n<0)) b).bind fun a=>
 some a
theorem qcb (N:Nat) (n:Int) {res:qI} (h:xU N n=some res):qb ZT (.fn 51) [.i n] [] (.agg (kAg res.neg res.w)) []:=by
 unfold xU at h
 refine Ub Tryz.func51 rfl rfl (m:=25) rfl (rs:=[.cell 2 72]) rfl (l:=[(0,.i n)]) rfl ?_
 refine sg fol ((0,.i n)::(kU [])) (kQ []) ?_
 refine sh fol ((0,.i n)::(kU [(3,.nilslice)])) ?_
 refine sh fol ((0,.i n)::(kU ((3,.nilslice)::(kA6 (decide (n<0)))))) ?_
 refine sq (Goes.block ?_)
 obtain⟨k,g4,h⟩:=bnd h
 refine Goes.imp (Q:=fun x s'=>(x= .exit 0/\ ∃d,d=k/\Sub s' (ofG 25 (kU (kAr d (decide (n<0)) [])),(kQ (kD d []))))) ?_ ?_
 ·refine Goes.sub (s':=(ofG 25 ((0,.i n)::(kU ((3,.gslice 1 ([]:List Int).length 1)::(kA6 (decide (n<0)))))),(kQ kA8))) (Sub.norm [] [some 0,none] rfl rfl (.keep (.same nI) (.kp (.keep .nil (.keep (.same nB) .nil)))) (.kb rfl (.same sn) (.fresh .nil))) ?_
  refine Uc (fun M s=> ∃(c:List Int) (b:Int),s=(ofG 25 ((0,.i b)::(kU (kAr c (decide (n<0)) []))),(kQ (kD c [])))/\jX M c b=some k) ?_ (m:=N) ⟨_,_,rfl,g4⟩
  rintro M s ⟨c,b,rfl,g4⟩
  cases M with
  |zero=>simp only[jX]at g4;cases g4
  |succ M=>
   rw[jX]at g4
   refine sq ?_
   refine sh fol ((0,.i b)::(kU (kAr c (decide (n<0)) [(9,.bool (!decide (b=0)))]))) ?_
   refine ihB g4 (fun o g4=>?_) (fun o g4=>?_)
   ·refine Goes.skip ?_
    refine Goes.block ?_
    refine sh fol ((0,.i b)::(kU (kAr c (decide (n<0)) (kA4 (b.tmod 1000000000))))) ?_
    refine sq ?_
    refine sh fol ((0,.i b)::(kU (kAr c (decide (n<0)) ((5,.i (b.tmod 1000000000))::(kBU (decide ((b.tmod 1000000000)<0))))))) ?_
    obtain⟨p,g7,g4⟩:=bnd g4
    refine Goes.imp (Q:=fun x s'=>(x= .normal/\ ∃e,e=p/\Sub s' (ofG 25 ((0,.i b)::(kU (kAr c (decide (n<0)) (kA4 e)))),(kQ (kD c []))))) ?_ ?_
    ·refine ihD g7 (fun q g7=>?_) (fun q g7=>?_)
     ·refine gh fol ((0,.i b)::(kU (kAr c (decide (n<0)) (kA4 (w64 (0-(b.tmod 1000000000))))))) ?_
      obtain rfl:=si g7
      exact⟨rfl,_,rfl,(Sub.refl _)⟩
     refine Goes.skip ?_
     obtain rfl:=si g7
     exact⟨rfl,_,rfl,(Sub.keep [0,2,3,4,5] rfl rfl)⟩
    rintro x s' ⟨rfl,e,rfl,hsub⟩
    refine Goes.sub hsub ?_
    obtain⟨f,j,g4⟩:=bnd g4
    refine sq (gq fol [3] ((0,.i b)::(kU ((3,.gslice 3 f.length 1)::(kA6 (decide (n<0)))))) (kQ (kBE e (kD f []))) (ac (hs (.run [1,2] (yQ ZT [49,49] (.gslice 1 c.length 1) (.slice 2 0 1 1 1)) (kQ (kD c [.cells [.i e]])) (.gslice 3 f.length 1) (kQ (kBE e (kD f []))) true) (qbs jW (E:=encI) rfl (qfb (E:=encI) (ys:=[e]) rfl rfl rfl rfl) (qf8 (E:=encI) (l:=c) rfl rfl rfl j rfl))) az) ?_)
    refine gh fol ((0,.i (w64 (b.tdiv 1000000000)))::(kU ((3,.gslice 3 f.length 1)::(kA6 (decide (n<0)))))) ?_
    exact⟨M,(ofG 25 ((0,.i (w64 (b.tdiv 1000000000)))::(kU (kAr f (decide (n<0)) []))),(kQ (kD f []))),Nat.lt_succ_self _,(Sub.norm [] [some 0,some 3] rfl rfl (.keep (.same nI) (.kp (.keep (.gslice rfl) (.keep (.same nB) .nil)))) (.kb rfl (.same sn) (.ks .nil))),_,_,rfl,g4⟩
   refine Goes.exit ?_
   obtain rfl:=si g4
   exact⟨rfl,_,rfl,(Sub.keep [2,3,4] rfl rfl)⟩
 rintro x s' ⟨rfl,d,rfl,hsub⟩
 refine Goes.sub hsub ?_
 obtain⟨a,g,h⟩:=bnd h
 refine sq (gq fol [2] (kU []) (kAV a.neg a.w (kAb d)) (ac (hs (.callF 89 [.bool (decide (n<0)),.gslice 1 d.length 1] (kQ (kD d [])) [1] (kAg (decide (n<0)) d) (.agg (kAg a.neg a.w))) (vZ (FzL.cons (Ui tB) (FzL.cons (Fz.gs (E:=encI) rfl rfl (nl rfl)) FzL.nil)) (z8 N (decide (n<0)) d g) (Still.agg (AllST.cons tB (AllST.cons (qx encI _ (nl rfl)) AllST.nil))))) az) ?_)
 refine Goes.sub (show Sub (ofG 25 (kU []),(kAV a.neg a.w (kAb d))) (ofG 25 (kU []),(kAV a.neg a.w []))from(Sub.norm [] [some 0] rfl rfl (.kp .nil) (.kb rfl (.same sn) .nil))) ?_
 refine Goes.ret ?_
 obtain rfl:=si h
 exact(gw2 [.agg (kAg a.neg a.w)] (FzW.agg (qc.cons (Ua tB) (qc.cons (Ua (qx encI _ (nl rfl))) qc.nil))))
def jV (b:Str):Nat->Int->Option (Unit⊕Int)
 |0,_=>none
 |K+1,a=>
  if a<(b.length:Int)then
  (idx b a).bind fun c=>
  if(c.toNat:Int)=47 then
  some (.inr a)
  else
  jV b K (w64 (a+1))
  else
  some (.inl ())
def yF (N:Nat) (a:Str):Option Int:=
 (jV a N 0).bind (fun
 |(.inl ())=>
 some (a.length:Int)
 |(.inr b)=>
 some b)
theorem xY (N:Nat) (a:Str) {res:Int} (h:yF N a=some res):qb ZT (.fn 52) [.str a] [] (.i res) []:=by
 unfold yF at h
 refine Ub Tryz.func52 rfl rfl (m:=17) rfl (rs:=[.tmp 2]) rfl (l:=(kAQ a [])) rfl ?_
 refine sh fol (kAQ a []) ?_
 refine sq ?_
 refine sh fol (kAQ a [(3,.i 0)]) ?_
 refine Goes.block ?_
 obtain⟨d,g2,h⟩:=bnd h
 refine Goes.imp (Q:=fun x s'=>(x= .exit 0/\(.inl ())=d/\Sub s' (ofG 17 (kAQ a []),[]))\/(x= .ret/\ ∃e,(.inr e)=d/\yj ZT [.tmp 2] (.i e) .ret s')) ?_ ?_
 ·refine Uc (fun M s=> ∃(b:Int),s=(ofG 17 (kAQ a [(3,.i b)]),[])/\jV a M b=some d) ?_ (m:=N) ⟨_,rfl,g2⟩
  rintro M s ⟨b,rfl,g2⟩
  cases M with
  |zero=>simp only[jV]at g2;cases g2
  |succ M=>
   rw[jV]at g2
   refine sq ?_
   refine sh fol (kAQ a [(3,.i b),(7,.bool (decide (b<(a.length:Int))))]) ?_
   refine ihD g2 (fun g g2=>?_) (fun g g2=>?_)
   ·refine Goes.skip ?_
    refine sq (Goes.block ?_)
    obtain⟨f,c,g2⟩:=bnd g2
    refine sq (gr fol [2] (kAQ a ((3,.i b)::(kBU (decide ((f.toNat:Int)=47))))) (ac (hs (.done (.opt (yo ZT 9 (.str a) (.i b))) (.int .u8 (f.toNat:Int))) (qaz st9 c)) az) ?_)
    refine ihD g2 (fun j g2=>?_) (fun j g2=>?_)
    ·refine sh fol (kBB b) ?_
     refine Goes.ret ?_
     obtain rfl:=si g2
     exact Or.inr (⟨rfl,_,rfl,(gw2 [.i b] (Ua tI))⟩)
    refine Goes.skip ?_
    refine gh fol (kAQ a [(3,.i (w64 (b+1)))]) ?_
    exact⟨M,(ofG 17 (kAQ a [(3,.i (w64 (b+1)))]),[]),Nat.lt_succ_self _,(Sub.refl _),_,rfl,g2⟩
   refine Goes.exit ?_
   obtain rfl:=si g2
   exact Or.inl (⟨rfl,rfl,(Sub.keep [0] rfl rfl)⟩)
 rintro x s' (⟨rfl,rfl,hsub⟩|⟨rfl,k,rfl,hret⟩)
 ·try dsimp only at h
  refine Goes.sub hsub ?_
  refine sh fol (kBB (a.length:Int)) ?_
  refine Goes.ret ?_
  obtain rfl:=si h
  exact(gw2 [.i (a.length:Int)] (Ua tI))
 try dsimp only at h
 obtain rfl:=si h
 exact hret
def vE (a:Str):Nat->Int->Int->Option Int
 |0,_,_=>none
 |K+1,c,b=>
  if b<(a.length:Int)then
  (idx a b).bind fun d=>
  vE a K (w64 ((w64 ((w64 (10*c))+(w64 (d.toNat:Int))))-48)) (w64 (b+1))
  else
  some c
def xg (N:Nat) (a:Str):Option Int:=
 (vE a N 0 0).bind fun b=>
 some b
theorem qaW (N:Nat) (a:Str) {res:Int} (h:xg N a=some res):qb ZT (.fn 85) [.str a] [] (.i res) []:=by
 unfold xg at h
 refine Ub Tryz.func85 rfl rfl (m:=20) rfl (rs:=[.tmp 2]) rfl (l:=(kAQ a [])) rfl ?_
 refine sh fol (kAQ a []) ?_
 refine sh fol (kAQ a [(3,.i 0)]) ?_
 refine sq ?_
 refine sh fol (kAQ a [(3,.i 0),(4,.i 0)]) ?_
 refine Goes.block ?_
 obtain⟨g,g4,h⟩:=bnd h
 refine Goes.imp (Q:=fun x s'=>(x= .exit 0/\ ∃d,d=g/\Sub s' (ofG 20 [(3,.i d)],[]))) ?_ ?_
 ·refine Uc (fun M s=> ∃(c:Int) (b:Int),s=(ofG 20 (kAQ a [(3,.i c),(4,.i b)]),[])/\vE a M c b=some g) ?_ (m:=N) ⟨_,_,rfl,g4⟩
  rintro M s ⟨c,b,rfl,g4⟩
  cases M with
  |zero=>simp only[vE]at g4;cases g4
  |succ M=>
   rw[vE]at g4
   refine sq ?_
   refine sh fol (kAQ a ((3,.i c)::(4,.i b)::(kBX (decide (b<(a.length:Int)))))) ?_
   refine ihD g4 (fun j g4=>?_) (fun j g4=>?_)
   ·refine Goes.skip ?_
    refine sq (Goes.block ?_)
    obtain⟨f,e,g4⟩:=bnd g4
    refine gr fol [4] (kAQ a [(3,.i (w64 ((w64 ((w64 (10*c))+(w64 (f.toNat:Int))))-48))),(4,.i b)]) (ac (hs (.done (.opt (yo ZT 9 (.str a) (.i b))) (.int .u8 (f.toNat:Int))) (qaz st9 e)) az) ?_
    refine gh fol (kAQ a [(3,.i (w64 ((w64 ((w64 (10*c))+(w64 (f.toNat:Int))))-48))),(4,.i (w64 (b+1)))]) ?_
    exact⟨M,(ofG 20 (kAQ a [(3,.i (w64 ((w64 ((w64 (10*c))+(w64 (f.toNat:Int))))-48))),(4,.i (w64 (b+1)))]),[]),Nat.lt_succ_self _,(Sub.refl _),_,_,rfl,g4⟩
   refine Goes.exit ?_
   obtain rfl:=si g4
   exact⟨rfl,_,rfl,(Sub.keep [3] rfl rfl)⟩
 rintro x s' ⟨rfl,d,rfl,hsub⟩
 refine Goes.sub hsub ?_
 refine sh fol (kBB d) ?_
 refine Goes.ret ?_
 obtain rfl:=si h
 exact(gw2 [.i d] (Ua tI))
def vX (N:Nat):Nat->(List Int)->Str->Option ((List Int)×Str)
 |0,_,_=>none
 |K+1,f,a=>
  if(a.length:Int)>9 then
  (cut a (w64 ((a.length:Int)-9)) (a.length:Int)).bind fun b=>
  (xg N b).bind fun c=>
  (app 8 f [c]).bind fun d=>
  (cut a 0 (w64 ((a.length:Int)-9))).bind fun e=>
  vX N K d e
  else
  some (f,a)
def qai (N:Nat) (a:Str):Option qI:=
 (if(a.length:Int)>0 then
 (idx a 0).bind fun h=>
 some (decide ((h.toNat:Int)=45))
 else
 some false:Option Bool).bind fun g=>
 ((if g=true then
 (cut a 1 (a.length:Int)).bind fun i=>
 some i
 else
 some a:Option Str)).bind fun j=>
 (vX N N ([]:List Int) j).bind fun(b,c)=>
 (xg N c).bind fun d=>
 (app 8 b [d]).bind fun e=>
 (zJ N g e).bind fun f=>
 some f
theorem qcd (N:Nat) (k:Str) {res:qI} (h:qai N k=some res):qb ZT (.fn 86) [.str k] [] (.agg (kAg res.neg res.w)) []:=by
 unfold qai at h
 refine Ub Tryz.func86 rfl rfl (m:=40) rfl (rs:=[.cell 2 72]) rfl (l:=(kAQ k [])) rfl ?_
 refine sg fol (kAQ k (kU [])) (kQ []) ?_
 refine sq ?_
 obtain⟨e,b,h⟩:=bnd h
 refine Goes.cut (s':=(ofG 40 (kAQ k (kU (kBP e []))),(kQ []))) ?_ ?_
 ·rcases wyD b with⟨H,b⟩|⟨H,b⟩
  ·obtain⟨J,B,b⟩:=bnd b
   obtain rfl:=si b
   exact tr fol [3,5] (kAQ k (kU (kBP (decide ((J.toNat:Int)=45)) []))) (ac (gw H) (ac (hs (.done (.opt (yo ZT 9 (.str k) (.i 0))) (.int .u8 (J.toNat:Int))) (qaz st9 B)) az))
  obtain rfl:=si b
  exact tr fol [3] (kAQ k (kU [(3,.bool false)])) (ac (gw H) az)
 refine sq ?_
 refine sh fol (kAQ k (kU (kBP e (kBU e)))) ?_
 obtain⟨L,g6,h⟩:=bnd h
 refine Goes.imp (Q:=fun x s'=>(x= .normal/\ ∃C,C=L/\Sub s' (ofG 40 (kAQ C (kU (kBP e []))),(kQ [])))) ?_ ?_
 ·refine ihB g6 (fun O g6=>?_) (fun O g6=>?_)
  ·obtain⟨K,D,g6⟩:=bnd g6
   refine gr fol [1] (kAQ K (kU (kBP e []))) (ac (hs (.done (.opt (qV ZT 9 (.str k) (some (.i 1)) none none)) (.str K)) (zT st9 (some 1) none D)) az) ?_
   obtain rfl:=si g6
   exact⟨rfl,_,rfl,(Sub.refl _)⟩
  refine Goes.skip ?_
  obtain rfl:=si g6
  exact⟨rfl,_,rfl,(Sub.keep [0,2,3] rfl rfl)⟩
 rintro x s' ⟨rfl,C,rfl,hsub⟩
 refine Goes.sub hsub ?_
 refine sh fol (kAQ C (kU (kBP e [(4,.nilslice)]))) ?_
 refine sq (Goes.block ?_)
 obtain⟨F,g13,h⟩:=bnd h
 refine Goes.imp (Q:=fun x s'=>(x= .exit 0/\ ∃f n,(f,n)=F/\Sub s' (ofG 40 (kAQ n (kU (kBP e [(4,.gslice 1 f.length 1)]))),(kQ (kD f []))))) ?_ ?_
 ·refine Goes.sub (s':=(ofG 40 (kAQ C (kU (kBP e [(4,.gslice 1 ([]:List Int).length 1)]))),(kQ kA8))) (Sub.norm [] [some 0,none] rfl rfl (.keep (.same nS) (.kp (.keep (.same nB) (.keep .nil .nil)))) (.kb rfl (.same sn) (.fresh .nil))) ?_
  refine Uc (fun M s=> ∃(p:List Int) (a:Str),s=(ofG 40 (kAQ a (kU (kBP e [(4,.gslice 1 p.length 1)]))),(kQ (kD p [])))/\vX N M p a=some F) ?_ (m:=N) ⟨_,_,rfl,g13⟩
  rintro M s ⟨p,a,rfl,g13⟩
  cases M with
  |zero=>simp only[vX]at g13;cases g13
  |succ M=>
   rw[vX]at g13
   refine sq ?_
   refine sh fol (kAQ a (kU (kBP e [(4,.gslice 1 p.length 1),(18,.bool (decide ((a.length:Int)>9)))]))) ?_
   refine ihD g13 (fun I g13=>?_) (fun I g13=>?_)
   ·refine Goes.skip ?_
    refine Goes.block ?_
    obtain⟨G,q,g13⟩:=bnd g13
    obtain⟨o,r,g13⟩:=bnd g13
    obtain⟨g,t,g13⟩:=bnd g13
    refine sq (gq fol [5,6,8] (kAQ a (kU (kBP e [(4,.gslice 3 g.length 1)]))) (kQ (kBE o (kD g []))) (ac (hs (.done (.opt (qV ZT 9 (.str a) (some (.i (w64 ((a.length:Int)-9)))) none none)) (.str G)) (zT st9 (some (w64 ((a.length:Int)-9))) none q)) (ac (cv (qaW N G r)) (ac (hs (.run [1,2] (yQ ZT [49,49] (.gslice 1 p.length 1) (.slice 2 0 1 1 1)) (kQ (kD p [.cells [.i o]])) (.gslice 3 g.length 1) (kQ (kBE o (kD g []))) true) (qbs jW (E:=encI) rfl (qfb (E:=encI) (ys:=[o]) rfl rfl rfl rfl) (qf8 (E:=encI) (l:=p) rfl rfl rfl t rfl))) az))) ?_)
    obtain⟨u,v,g13⟩:=bnd g13
    refine gr fol [4] (kAQ u (kU (kBP e [(4,.gslice 3 g.length 1)]))) (ac (hs (.done (.opt (qV ZT 9 (.str a) none (some (.i (w64 ((a.length:Int)-9)))) none)) (.str u)) (zT st9 none (some (w64 ((a.length:Int)-9))) v)) az) ?_
    exact⟨M,(ofG 40 (kAQ u (kU (kBP e [(4,.gslice 1 g.length 1)]))),(kQ (kD g []))),Nat.lt_succ_self _,(Sub.norm [] [some 0,some 3] rfl rfl (.keep (.same nS) (.kp (.keep (.same nB) (.keep (.gslice rfl) .nil)))) (.kb rfl (.same sn) (.ks .nil))),_,_,rfl,g13⟩
   refine Goes.exit ?_
   obtain rfl:=si g13
   exact⟨rfl,_,_,rfl,(Sub.keep [0,2,3,4] rfl rfl)⟩
 rintro x s' ⟨rfl,f,n,rfl,hsub⟩
 try dsimp only at h
 refine Goes.sub hsub ?_
 obtain⟨j,y,h⟩:=bnd h
 obtain⟨d,z,h⟩:=bnd h
 obtain⟨c,A,h⟩:=bnd h
 refine sq (gq fol [3,5,6] (kU []) (kAV c.neg c.w (kBE j (kAb d))) (ac (cv (qaW N n y)) (ac (hs (.run [1,2] (yQ ZT [49,49] (.gslice 1 f.length 1) (.slice 2 0 1 1 1)) (kQ (kD f [.cells [.i j]])) (.gslice 3 d.length 1) (kQ (kBE j (kD d []))) true) (qbs jW (E:=encI) rfl (qfb (E:=encI) (ys:=[j]) rfl rfl rfl rfl) (qf8 (E:=encI) (l:=f) rfl rfl rfl z rfl))) (ac (hs (.callF 89 [.bool e,.gslice 3 d.length 1] (kQ (kBE j (kD d []))) [3] (kAg e d) (.agg (kAg c.neg c.w))) (vZ (FzL.cons (Ui tB) (FzL.cons (Fz.gs (E:=encI) rfl rfl (nl rfl)) FzL.nil)) (z8 N e d A) (Still.agg (AllST.cons tB (AllST.cons (qx encI _ (nl rfl)) AllST.nil))))) az))) ?_)
 refine Goes.sub (show Sub (ofG 40 (kU []),(kAV c.neg c.w (kBE j (kAb d)))) (ofG 40 (kU []),(kAV c.neg c.w []))from(Sub.norm [] [some 0] rfl rfl (.kp .nil) (.kb rfl (.same sn) .nil))) ?_
 refine Goes.ret ?_
 obtain rfl:=si h
 exact(gw2 [.agg (kAg c.neg c.w)] (FzW.agg (qc.cons (Ua tB) (qc.cons (Ua (qx encI _ (nl rfl))) qc.nil))))
def vD (N:Nat) (a:Str):Option (qI×qI):=
 (yF N a).bind fun b=>
 if b=(a.length:Int)then
 (qai N a).bind fun c=>
 (xU N 1).bind fun d=>
 some (c,d)
 else
 (cut a 0 b).bind fun e=>
 (qai N e).bind fun f=>
 (cut a (w64 (b+1)) (a.length:Int)).bind fun g=>
 (qai N g).bind fun h=>
 some (f,h)
theorem qak (N:Nat) (a:Str) {res:qI×qI} (h:vD N a=some res):qb ZT (.fn 46) [.str a] [] (.tuple (kAm res.1.neg res.1.w res.2.neg res.2.w)) []:=by
 unfold vD at h
 refine Ub Tryz.func46 rfl rfl (m:=25) rfl (rs:=[.cell 2 72,.cell 3 72]) rfl (l:=(kAQ a [])) rfl ?_
 refine sg fol (kAQ a (kU (kAj []))) (kQ (kQ [])) ?_
 refine sh fol (kU (kAj [(4,.str a)])) ?_
 obtain⟨b,c,h⟩:=bnd h
 refine sq (gr fol [1] (kU (kAj ((4,.str a)::(kA4 b)))) (ac (cv (xY N a c)) az) ?_)
 refine sq ?_
 refine sh fol (kU (kAj ((4,.str a)::(5,.i b)::(kBM (decide (b=(a.length:Int))))))) ?_
 refine ihD h (fun t h=>?_) (fun t h=>?_)
 ·obtain⟨n,d,h⟩:=bnd h
  obtain⟨o,e,h⟩:=bnd h
  refine sq (gq fol [1,2] (kU (kAj [])) (kN n.neg n.w o.neg o.w []) (ac (cv (qcd N a d)) (ac (cv (qcb N 1 e)) az)) ?_)
  refine Goes.ret ?_
  obtain rfl:=si h
  exact(gw2 (kAm n.neg n.w o.neg o.w) (FzW.tuple (qc.cons (FzW.agg (qc.cons (Ua tB) (qc.cons (Ua (qx encI _ (nl rfl))) qc.nil))) (qc.cons (FzW.agg (qc.cons (Ua tB) (qc.cons (Ua (qx encI _ (nl rfl))) qc.nil))) qc.nil))))
 refine Goes.skip ?_
 obtain⟨r,f,h⟩:=bnd h
 obtain⟨p,g,h⟩:=bnd h
 obtain⟨s,j,h⟩:=bnd h
 obtain⟨q,k,h⟩:=bnd h
 refine sq (gq fol [2,3,7,8] (kU (kAj [])) (kN p.neg p.w q.neg q.w []) (ac (hs (.done (.opt (qV ZT 9 (.str a) none (some (.i b)) none)) (.str r)) (zT st9 none (some b) f)) (ac (cv (qcd N r g)) (ac (hs (.done (.opt (qV ZT 9 (.str a) (some (.i (w64 (b+1)))) none none)) (.str s)) (zT st9 (some (w64 (b+1))) none j)) (ac (cv (qcd N s k)) az)))) ?_)
 refine Goes.ret ?_
 obtain rfl:=si h
 exact(gw2 (kAm p.neg p.w q.neg q.w) (FzW.tuple (qc.cons (FzW.agg (qc.cons (Ua tB) (qc.cons (Ua (qx encI _ (nl rfl))) qc.nil))) (qc.cons (FzW.agg (qc.cons (Ua tB) (qc.cons (Ua (qx encI _ (nl rfl))) qc.nil))) qc.nil))))
def jD (a:Str):Nat->Int->Option (Unit⊕Bool)
 |0,_=>none
 |K+1,b=>
  if b<(a.length:Int)then
  ((idx a b).bind fun c=>
  if(c.toNat:Int)<48 then
  some true
  else
  some (decide ((c.toNat:Int)>57)):Option Bool).bind fun d=>
  if d=true then
  some (.inr false)
  else
  jD a K (w64 (b+1))
  else
  some (.inl ())
def qaR (N:Nat) (b:Str):Option Bool:=
 (jD b N 0).bind (fun
 |(.inl ())=>
 some true
 |(.inr a)=>
 some a)
theorem qgi (N:Nat) (b:Str) {res:Bool} (h:qaR N b=some res):qb ZT (.fn 94) [.str b] [] (.bool res) []:=by
 unfold qaR at h
 refine Ub Tryz.func94 rfl rfl (m:=20) rfl (rs:=[.tmp 2]) rfl (l:=(kAQ b [])) rfl ?_
 refine sh fol (kAQ b []) ?_
 refine sq ?_
 refine sh fol (kAQ b [(3,.i 0)]) ?_
 refine Goes.block ?_
 obtain⟨f,g2,h⟩:=bnd h
 refine Goes.imp (Q:=fun x s'=>(x= .exit 0/\(.inl ())=f/\Sub s' (ofG 20 [],[]))\/(x= .ret/\ ∃j,(.inr j)=f/\yj ZT [.tmp 2] (.bool j) .ret s')) ?_ ?_
 ·refine Uc (fun M s=> ∃(c:Int),s=(ofG 20 (kAQ b [(3,.i c)]),[])/\jD b M c=some f) ?_ (m:=N) ⟨_,rfl,g2⟩
  rintro M s ⟨c,rfl,g2⟩
  cases M with
  |zero=>simp only[jD]at g2;cases g2
  |succ M=>
   rw[jD]at g2
   refine sq ?_
   refine sh fol (kAQ b [(3,.i c),(7,.bool (decide (c<(b.length:Int))))]) ?_
   refine ihD g2 (fun k g2=>?_) (fun k g2=>?_)
   ·refine Goes.skip ?_
    refine sq (Goes.block ?_)
    refine sq ?_
    obtain⟨n,a,g2⟩:=bnd g2
    refine Goes.cut (s':=(ofG 20 (kAQ b [(3,.i c),(19,.bool n)]),[])) ?_ ?_
    ·obtain⟨e,d,a⟩:=bnd a
     rcases wyD a with⟨g,a⟩|⟨g,a⟩
     ·obtain rfl:=si a
      exact tr fol [2,4] (kAQ b [(3,.i c),(19,.bool true)]) (ac (hs (.done (.opt (yo ZT 9 (.str b) (.i c))) (.int .u8 (e.toNat:Int))) (qaz st9 d)) (ac (gw g) az))
     obtain rfl:=si a
     exact tr fol [2,4,7] (kAQ b [(3,.i c),(19,.bool (decide ((e.toNat:Int)>57)))]) (ac (hs (.done (.opt (yo ZT 9 (.str b) (.i c))) (.int .u8 (e.toNat:Int))) (qaz st9 d)) (ac (gw g) (ac (hs (.done (.opt (yo ZT 9 (.str b) (.i c))) (.int .u8 (e.toNat:Int))) (qaz st9 d)) az)))
    refine ihB g2 (fun o g2=>?_) (fun o g2=>?_)
    ·refine sh fol [(2,.bool false)] ?_
     refine Goes.ret ?_
     obtain rfl:=si g2
     exact Or.inr (⟨rfl,_,rfl,(gw2 [.bool false] (Ua tB))⟩)
    refine Goes.skip ?_
    refine gh fol (kAQ b [(3,.i (w64 (c+1)))]) ?_
    exact⟨M,(ofG 20 (kAQ b [(3,.i (w64 (c+1)))]),[]),Nat.lt_succ_self _,(Sub.refl _),_,rfl,g2⟩
   refine Goes.exit ?_
   obtain rfl:=si g2
   exact Or.inl (⟨rfl,rfl,(Sub.keep [] rfl rfl)⟩)
 rintro x s' (⟨rfl,rfl,hsub⟩|⟨rfl,p,rfl,hret⟩)
 ·try dsimp only at h
  refine Goes.sub hsub ?_
  refine sh fol [(2,.bool true)] ?_
  refine Goes.ret ?_
  obtain rfl:=si h
  exact(gw2 [.bool true] (Ua tB))
 try dsimp only at h
 obtain rfl:=si h
 exact hret
def jo (N:Nat) (a:Str):Option Bool:=
 (if(a.length:Int)=0 then
 some true
 else
 if(a.length:Int)>1 then
 (idx a 0).bind fun b=>
 some (decide ((b.toNat:Int)=48))
 else
 some false:Option Bool).bind fun c=>
 if c=true then
 some false
 else
 (qaR N a).bind fun d=>
 some d
theorem jg (N:Nat) (b:Str) {res:Bool} (h:jo N b=some res):qb ZT (.fn 53) [.str b] [] (.bool res) []:=by
 unfold jo at h
 refine Ub Tryz.func53 rfl rfl (m:=18) rfl (rs:=[.tmp 2]) rfl (l:=(kAQ b [])) rfl ?_
 refine sh fol (kAQ b []) ?_
 refine sq ?_
 refine sq ?_
 obtain⟨k,a,h⟩:=bnd h
 refine Goes.cut (s':=(ofG 18 (kAQ b [(15,.bool k)]),[])) ?_ ?_
 ·rcases wyD a with⟨e,a⟩|⟨e,a⟩
  ·obtain rfl:=si a
   exact tr fol [3] (kAQ b [(15,.bool true)]) (ac (gw e) az)
  rcases wyD a with⟨f,a⟩|⟨f,a⟩
  ·obtain⟨g,c,a⟩:=bnd a
   obtain rfl:=si a
   exact tr fol [3,7,9] (kAQ b [(15,.bool (decide ((g.toNat:Int)=48)))]) (ac (gw e) (ac (gw f) (ac (hs (.done (.opt (yo ZT 9 (.str b) (.i 0))) (.int .u8 (g.toNat:Int))) (qaz st9 c)) az)))
  obtain rfl:=si a
  exact tr fol [3,7] (kAQ b [(15,.bool false)]) (ac (gw e) (ac (gw f) az))
 refine ihB h (fun n h=>?_) (fun n h=>?_)
 ·refine sh fol [(2,.bool false)] ?_
  refine Goes.ret ?_
  obtain rfl:=si h
  exact(gw2 [.bool false] (Ua tB))
 refine Goes.skip ?_
 obtain⟨j,d,h⟩:=bnd h
 refine sq (gr fol [1] [(2,.bool j)] (ac (cv (qgi N b d)) az) ?_)
 refine Goes.ret ?_
 obtain rfl:=si h
 exact(gw2 [.bool j] (Ua tB))
def qZ (a:List Int) (b:List Int):Nat->Int->Option (Unit⊕Int)
 |0,_=>none
 |K+1,c=>
  if c>=0 then
  (idx a c).bind fun d=>
  (idx b c).bind fun e=>
  if d<e then
  some (.inr (-1))
  else
  if d>e then
  some (.inr 1)
  else
  qZ a b K (w64 (c-1))
  else
  some (.inl ())
def jC (N:Nat) (a:List Int) (b:List Int):Option Int:=
 if(!decide ((a.length:Int)=(b.length:Int)))=true then
 if(a.length:Int)<(b.length:Int)then
 some (-1)
 else
 some 1
 else
 (qZ a b N (w64 ((a.length:Int)-1))).bind (fun
 |(.inl ())=>
 some 0
 |(.inr c)=>
 some c)
theorem qa0 (N:Nat) (a:List Int) (b:List Int) {res:Int} (h:jC N a b=some res):qb ZT (.fn 91) (kBG a b) [] (.i res) []:=by
 unfold jC at h
 refine Ub Tryz.func91 rfl rfl (m:=41) rfl (rs:=[.tmp 4]) rfl (l:=(kJ a b [])) rfl ?_
 refine sh fol (kJ a b []) ?_
 refine sq ?_
 refine sh fol (kJ a b [(10,.bool (!decide ((a.length:Int)=(b.length:Int))))]) ?_
 refine ihB h (fun o h=>?_) (fun o h=>?_)
 ·refine sq ?_
  refine sh fol [(15,.bool (decide ((a.length:Int)<(b.length:Int))))] ?_
  refine ihD h (fun p h=>?_) (fun p h=>?_)
  ·refine sh fol [(4,.i (-1))] ?_
   refine Goes.ret ?_
   obtain rfl:=si h
   exact(gw2 [.i (-1)] (Ua tI))
  refine Goes.skip ?_
  refine sh fol [(4,.i 1)] ?_
  refine Goes.ret ?_
  obtain rfl:=si h
  exact(gw2 [.i 1] (Ua tI))
 refine Goes.skip ?_
 refine sq ?_
 refine sh fol (kJ a b (kA4 (w64 ((a.length:Int)-1)))) ?_
 refine Goes.block ?_
 obtain⟨f,g4,h⟩:=bnd h
 refine Goes.imp (Q:=fun x s'=>(x= .exit 0/\(.inl ())=f/\Sub s' (ofG 41 [],[]))\/(x= .ret/\ ∃j,(.inr j)=f/\yj ZT [.tmp 4] (.i j) .ret s')) ?_ ?_
 ·refine Uc (fun M s=> ∃(e:Int),s=(ofG 41 (kJ a b (kA4 e)),[])/\qZ a b M e=some f) ?_ (m:=N) ⟨_,rfl,g4⟩
  rintro M s ⟨e,rfl,g4⟩
  cases M with
  |zero=>simp only[qZ]at g4;cases g4
  |succ M=>
   rw[qZ]at g4
   refine sq ?_
   refine sh fol (kJ a b [(5,.i e),(20,.bool (decide (e>=0)))]) ?_
   refine ihD g4 (fun q g4=>?_) (fun q g4=>?_)
   ·refine Goes.skip ?_
    refine sq (Goes.block ?_)
    refine sq ?_
    obtain⟨k,c,g4⟩:=bnd g4
    obtain⟨n,d,g4⟩:=bnd g4
    refine sq (gr fol [2,3,6,7] (kJ a b [(5,.i e),(31,.bool (decide (k<n)))]) (ac (iv jW encI c) (ac (lv 0 ce3 encI c rfl) (ac (iv jW encI d) (ac (lv 0 ce3 encI d rfl) az)))) ?_)
    refine ihD g4 (fun r g4=>?_) (fun r g4=>?_)
    ·refine sh fol [(4,.i (-1))] ?_
     refine Goes.ret ?_
     obtain rfl:=si g4
     exact Or.inr (⟨rfl,_,rfl,(gw2 [.i (-1)] (Ua tI))⟩)
    refine Goes.skip ?_
    refine sq (gr fol [2,3,6,7] (kJ a b [(5,.i e),(40,.bool (decide (k>n)))]) (ac (iv jW encI c) (ac (lv 0 ce3 encI c rfl) (ac (iv jW encI d) (ac (lv 0 ce3 encI d rfl) az)))) ?_)
    refine ihD g4 (fun g g4=>?_) (fun g g4=>?_)
    ·refine sh fol [(4,.i 1)] ?_
     refine Goes.ret ?_
     obtain rfl:=si g4
     exact Or.inr (⟨rfl,_,rfl,(gw2 [.i 1] (Ua tI))⟩)
    refine Goes.skip ?_
    refine gh fol (kJ a b (kA4 (w64 (e-1)))) ?_
    exact⟨M,(ofG 41 (kJ a b (kA4 (w64 (e-1)))),[]),Nat.lt_succ_self _,(Sub.refl _),_,rfl,g4⟩
   refine Goes.exit ?_
   obtain rfl:=si g4
   exact Or.inl (⟨rfl,rfl,(Sub.keep [] rfl rfl)⟩)
 rintro x s' (⟨rfl,rfl,hsub⟩|⟨rfl,t,rfl,hret⟩)
 ·try dsimp only at h
  refine Goes.sub hsub ?_
  refine sh fol [(4,.i 0)] ?_
  refine Goes.ret ?_
  obtain rfl:=si h
  exact(gw2 [.i 0] (Ua tI))
 try dsimp only at h
 obtain rfl:=si h
 exact hret
def zB (a:List Int) (b:List Int) (g:Int):Nat->(List Int)->Int->Int->Option ((List Int)×Int)
 |0,_,_,_=>none
 |K+1,h,i,c=>
  if c<(b.length:Int)then
  (idx h (w64 (g+c))).bind fun d=>
  (idx a g).bind fun e=>
  (idx b c).bind fun f=>
  (put h (w64 (g+c)) ((w64 ((w64 (d+(w64 (e*f))))+i)).tmod 1000000000)).bind fun j=>
  zB a b g K j (w64 ((w64 ((w64 (d+(w64 (e*f))))+i)).tdiv 1000000000)) (w64 (c+1))
  else
  some (h,i)
def zD (N:Nat) (a:List Int) (b:List Int):Nat->(List Int)->Int->Option (List Int)
 |0,_,_=>none
 |K+1,h,c=>
  if c<(a.length:Int)then
  (zB a b c N h 0 0).bind fun(d,e)=>
  (idx d (w64 (c+(b.length:Int)))).bind fun f=>
  (put d (w64 (c+(b.length:Int))) (w64 (f+e))).bind fun g=>
  zD N a b K g (w64 (c+1))
  else
  some h
def vI (N:Nat) (a:List Int) (b:List Int):Option (List Int):=
 (mk 8 (w64 ((a.length:Int)+(b.length:Int))) 0).bind fun d=>
 (zD N a b N d 0).bind fun e=>
 (ym N e).bind fun c=>
 some c
theorem qaI (N:Nat) (a:List Int) (b:List Int) {res:List Int} (h:vI N a b=some res):qb ZT (.fn 93) (kBG a b) [] (vl encI res) []:=by
 unfold vI at h
 refine Ub Tryz.func93 rfl rfl (m:=72) rfl (rs:=[.tmp 4]) rfl (l:=(kJ a b [])) rfl ?_
 refine sh fol (kJ a b []) ?_
 obtain⟨H,I,h⟩:=bnd h
 refine sq (gq fol [5] (kJ a b (kF H [])) (kD H []) (ac (hs (.run [] (jd ZT 49 (.i (w64 ((a.length:Int)+(b.length:Int)))) (.i (w64 ((a.length:Int)+(b.length:Int))))) [] (.slice 0 0 H.length H.length 1) (kD H []) false) (qcB jW (E:=encI) (z:=0) rfl (by kernel_rfl) I rfl)) az) ?_)
 refine sq ?_
 refine sh fol (kJ a b (kF H [(6,.i 0)])) ?_
 refine Goes.block ?_
 obtain⟨L,g5,h⟩:=bnd h
 refine Goes.imp (Q:=fun x s'=>(x= .exit 0/\ ∃t,t=L/\Sub s' (ofG 72 (kF t []),(kD t [])))) ?_ ?_
 ·refine Uc (fun M s=> ∃(D:List Int) (c:Int),s=(ofG 72 (kJ a b (kF D (kBR c))),(kD D []))/\zD N a b M D c=some L) ?_ (m:=N) ⟨_,_,rfl,g5⟩
  rintro M s ⟨D,c,rfl,g5⟩
  cases M with
  |zero=>simp only[zD]at g5;cases g5
  |succ M=>
   rw[zD]at g5
   refine sq ?_
   refine sh fol (kJ a b (kF D [(6,.i c),(19,.bool (decide (c<(a.length:Int))))])) ?_
   refine ihD g5 (fun O g5=>?_) (fun O g5=>?_)
   ·refine Goes.skip ?_
    refine sq (Goes.block ?_)
    refine sh fol (kJ a b (kF D [(6,.i c),(7,.i 0)])) ?_
    refine sq ?_
    refine sh fol (kJ a b (kF D [(6,.i c),(7,.i 0),(8,.i 0)])) ?_
    refine Goes.block ?_
    obtain⟨J,g12,g5⟩:=bnd g5
    refine Goes.imp (Q:=fun x s'=>(x= .exit 2/\ ∃d u,(d,u)=J/\Sub s' (ofG 72 (kJ a b (kF d (kAn c u []))),(kD d [])))) ?_ ?_
    ·refine Uc (fun M s=> ∃(p:List Int) (r:Int) (o:Int),s=(ofG 72 (kJ a b (kF p ((6,.i c)::(kAO r o)))),(kD p []))/\zB a b c M p r o=some J) ?_ (m:=N) ⟨_,_,_,rfl,g12⟩
     rintro M s ⟨p,r,o,rfl,g12⟩
     cases M with
     |zero=>simp only[zB]at g12;cases g12
     |succ M=>
      rw[zB]at g12
      refine sq ?_
      refine sh fol (kJ a b (kF p (kAn c r [(8,.i o),(25,.bool (decide (o<(b.length:Int))))]))) ?_
      refine ihD g12 (fun K g12=>?_) (fun K g12=>?_)
      ·refine Goes.skip ?_
       refine sq (Goes.block ?_)
       obtain⟨e,f,g12⟩:=bnd g12
       obtain⟨g,v,g12⟩:=bnd g12
       obtain⟨j,w,g12⟩:=bnd g12
       refine sq (gr fol [4,5,8,9,12,13] (kJ a b (kF p ((6,.i c)::(kAt o (w64 ((w64 (e+(w64 (g*j))))+r)) [])))) (ac (hs (.done (.opt (qg ZT 49 (.slice 0 0 p.length p.length 1) (.i (w64 (c+o))))) (.ptr 0 ((w64 (c+o):Int).toNat*1+0))) (qaf jW f)) (ac (hs (.run [0] (ji ZT 3 (.ptr 0 ((w64 (c+o):Int).toNat*1+0))) (kD p []) (.i e) (kD p []) false) (qce ce3 (E:=encI) (l:=p) rfl rfl f (nl rfl) rfl)) (ac (iv jW encI v) (ac (lv 0 ce3 encI v rfl) (ac (iv jW encI w) (ac (lv 0 ce3 encI w rfl) az)))))) ?_)
       obtain⟨k,A,g12⟩:=bnd g12
       refine sq (gq fol [6,7] (kJ a b (kF p ((6,.i c)::(kAt o (w64 ((w64 (e+(w64 (g*j))))+r)) [])))) (kD k []) (ac (hs (.done (.opt (qg ZT 49 (.slice 0 0 p.length p.length 1) (.i (w64 (c+o))))) (.ptr 0 ((w64 (c+o):Int).toNat*1+0))) (qaf jW f)) (ac (hs (.run [0] (qp ZT 3 (.ptr 0 ((w64 (c+o):Int).toNat*1+0)) (.i ((w64 ((w64 (e+(w64 (g*j))))+r)).tmod 1000000000))) (kD p []) .undef (kD k []) true) (xP (E:=encI) (l:=p) (y:=(w64 ((w64 (e+(w64 (g*j))))+r)).tmod 1000000000) rfl (show _=some 1 by kernel_rfl) rfl f rfl rfl rfl rfl rfl A rfl)) az)) ?_)
       refine Goes.sub (show Sub (ofG 72 (kJ a b (kF p ((6,.i c)::(kAt o (w64 ((w64 (e+(w64 (g*j))))+r)) [])))),(kD k [])) (ofG 72 (kJ a b (kF k ((6,.i c)::(kAt o (w64 ((w64 (e+(w64 (g*j))))+r)) [])))),(kD k []))from(Sub.norm [] [some 0] rfl rfl (.keep (.same (qd encI _)) (.keep (.same (qd encI _)) (.keep (.sliceE rfl (vG A)) (.keep (.same nI) (.keep (.same nI) (.keep (.same nI) .nil)))))) (.ks .nil))) ?_
       refine gh fol (kJ a b (kF k ((6,.i c)::(kAO (w64 ((w64 ((w64 (e+(w64 (g*j))))+r)).tdiv 1000000000)) o)))) ?_
       refine gh fol (kJ a b (kF k ((6,.i c)::(kAO (w64 ((w64 ((w64 (e+(w64 (g*j))))+r)).tdiv 1000000000)) (w64 (o+1)))))) ?_
       exact⟨M,(ofG 72 (kJ a b (kF k ((6,.i c)::(kAO (w64 ((w64 ((w64 (e+(w64 (g*j))))+r)).tdiv 1000000000)) (w64 (o+1)))))),(kD k [])),Nat.lt_succ_self _,(Sub.refl _),_,_,_,rfl,g12⟩
      refine Goes.exit ?_
      obtain rfl:=si g12
      exact⟨rfl,_,_,rfl,(Sub.keep [0,1,5,6,7] rfl rfl)⟩
    rintro x s' ⟨rfl,d,u,rfl,hsub⟩
    try dsimp only at g5
    refine Goes.sub hsub ?_
    obtain⟨F,n,g5⟩:=bnd g5
    obtain⟨q,B,g5⟩:=bnd g5
    refine gq fol [10,11,14,15] (kJ a b (kF d (kBR c))) (kD q []) (ac (hs (.done (.opt (qg ZT 49 (.slice 0 0 d.length d.length 1) (.i (w64 (c+(b.length:Int)))))) (.ptr 0 ((w64 (c+(b.length:Int)):Int).toNat*1+0))) (qaf jW n)) (ac (hs (.run [0] (ji ZT 3 (.ptr 0 ((w64 (c+(b.length:Int)):Int).toNat*1+0))) (kD d []) (.i F) (kD d []) false) (qce ce3 (E:=encI) (l:=d) rfl rfl n (nl rfl) rfl)) (ac (hs (.done (.opt (qg ZT 49 (.slice 0 0 d.length d.length 1) (.i (w64 (c+(b.length:Int)))))) (.ptr 0 ((w64 (c+(b.length:Int)):Int).toNat*1+0))) (qaf jW n)) (ac (hs (.run [0] (qp ZT 3 (.ptr 0 ((w64 (c+(b.length:Int)):Int).toNat*1+0)) (.i (w64 (F+u)))) (kD d []) .undef (kD q []) true) (xP (E:=encI) (l:=d) (y:=w64 (F+u)) rfl (show _=some 1 by kernel_rfl) rfl n rfl rfl rfl rfl rfl B rfl)) az)))) ?_
    refine Goes.sub (show Sub (ofG 72 (kJ a b (kF d (kBR c))),(kD q [])) (ofG 72 (kJ a b (kF q (kBR c))),(kD q []))from(Sub.norm [] [some 0] rfl rfl (.keep (.same (qd encI _)) (.keep (.same (qd encI _)) (.keep (.sliceE rfl (vG B)) (.keep (.same nI) .nil)))) (.ks .nil))) ?_
    refine gh fol (kJ a b (kF q (kBR (w64 (c+1))))) ?_
    exact⟨M,(ofG 72 (kJ a b (kF q (kBR (w64 (c+1))))),(kD q [])),Nat.lt_succ_self _,(Sub.refl _),_,_,rfl,g5⟩
   refine Goes.exit ?_
   obtain rfl:=si g5
   exact⟨rfl,_,rfl,(Sub.keep [5] rfl rfl)⟩
 rintro x s' ⟨rfl,t,rfl,hsub⟩
 refine Goes.sub hsub ?_
 obtain⟨C,G,h⟩:=bnd h
 refine sq (gq fol [1] [(4,vl encI C)] (kAb t) (ac (hs (.callF 130 [.slice 0 0 t.length t.length 1] (kD t []) [0] [vl encI t] (vl encI C)) (vZ (FzL.cons (Fz.sl (E:=encI) rfl rfl (nl rfl)) FzL.nil) (yO N t G) (qx encI _ (nl rfl)))) az) ?_)
 refine Goes.sub (show Sub (ofG 72 [(4,vl encI C)],(kAb t)) (ofG 72 [(4,vl encI C)],[])from(Sub.norm [] [] rfl rfl (.keep (.same (qd encI _)) .nil) .nil)) ?_
 refine Goes.ret ?_
 obtain rfl:=si h
 exact(gw2 [vl encI C] (Ua (qx encI _ (nl rfl))))
def zR (a:List Int) (d:Int):Nat->(List Int)->Int->Int->Option ((List Int)×Int)
 |0,_,_,_=>none
 |K+1,c,e,b=>
  if b>=0 then
  (idx a b).bind fun i=>
  (qb2 .i64 (w64 ((w64 (e*1000000000))+i)) d).bind fun f=>
  (idx c b).bind fun j=>
  (put c b f).bind fun g=>
  (qd2 .i64 (w64 ((w64 (e*1000000000))+i)) d).bind fun h=>
  zR a d K g h (w64 (b-1))
  else
  some (c,e)
def y7 (N:Nat) (a:List Int) (d:Int):Option ((List Int)×Int):=
 (mk 8 (a.length:Int) 0).bind fun c=>
 (zR a d N c 0 (w64 ((a.length:Int)-1))).bind fun(e,f)=>
 (ym N e).bind fun b=>
 some (b,f)
theorem qct (N:Nat) (a:List Int) (d:Int) {res:(List Int)×Int} (h:y7 N a d=some res):qb ZT (.fn 129) [vl encI a,.i d] [] (.tuple [vl encI res.1,.i res.2]) []:=by
 unfold y7 at h
 refine Ub Tryz.func129 rfl rfl (m:=39) rfl (rs:=[.tmp 4,.tmp 5]) rfl (l:=(kAl a d [])) rfl ?_
 refine sh fol (kAl a d []) ?_
 obtain⟨q,B,h⟩:=bnd h
 refine sq (gq fol [2] (kAl a d (kX q [])) (kD q []) (ac (hs (.run [] (jd ZT 49 (.i (a.length:Int)) (.i (a.length:Int))) [] (.slice 0 0 q.length q.length 1) (kD q []) false) (qcB jW (E:=encI) (z:=0) rfl (by kernel_rfl) B rfl)) az) ?_)
 refine sh fol (kAl a d (kX q [(7,.i 0)])) ?_
 refine sq ?_
 refine sh fol (kAl a d (kX q [(7,.i 0),(8,.i (w64 ((a.length:Int)-1)))])) ?_
 refine Goes.block ?_
 obtain⟨C,g7,h⟩:=bnd h
 refine Goes.imp (Q:=fun x s'=>(x= .exit 0/\ ∃f r,(f,r)=C/\Sub s' (ofG 39 (kX f [(7,.i r)]),(kD f [])))) ?_ ?_
 ·refine Uc (fun M s=> ∃(e:List Int) (n:Int) (c:Int),s=(ofG 39 (kAl a d (kX e (kAO n c))),(kD e []))/\zR a d M e n c=some C) ?_ (m:=N) ⟨_,_,_,rfl,g7⟩
  rintro M s ⟨e,n,c,rfl,g7⟩
  cases M with
  |zero=>simp only[zR]at g7;cases g7
  |succ M=>
   rw[zR]at g7
   refine sq ?_
   refine sh fol (kAl a d (kX e [(7,.i n),(8,.i c),(17,.bool (decide (c>=0)))])) ?_
   refine ihD g7 (fun D g7=>?_) (fun D g7=>?_)
   ·refine Goes.skip ?_
    refine sq (Goes.block ?_)
    obtain⟨A,p,g7⟩:=bnd g7
    refine sq (gr fol [4,5] (kAl a d (kX e (kAt c (w64 ((w64 (n*1000000000))+A)) []))) (ac (iv jW encI p) (ac (lv 0 ce3 encI p rfl) az)) ?_)
    obtain⟨t,u,g7⟩:=bnd g7
    obtain⟨F,g,g7⟩:=bnd g7
    obtain⟨b,j,g7⟩:=bnd g7
    refine sq (gq fol [4,5,6] (kAl a d (kX e (kAt c (w64 ((w64 (n*1000000000))+A)) []))) (kD b []) (ac (hs (.done (.opt (ko ZT .quo 3 (.tmp 29) (.tmp 30) (.i (w64 ((w64 (n*1000000000))+A))) (.i d))) (.i t)) (qbJ u)) (ac (hs (.done (.opt (qg ZT 49 (.slice 0 0 e.length e.length 1) (.i c))) (.ptr 0 ((c:Int).toNat*1+0))) (qaf jW g)) (ac (hs (.run [0] (qp ZT 3 (.ptr 0 ((c:Int).toNat*1+0)) (.i t)) (kD e []) .undef (kD b []) true) (xP (E:=encI) (l:=e) (y:=t) rfl (show _=some 1 by kernel_rfl) rfl g rfl rfl rfl rfl rfl j rfl)) az))) ?_)
    refine Goes.sub (show Sub (ofG 39 (kAl a d (kX e (kAt c (w64 ((w64 (n*1000000000))+A)) []))),(kD b [])) (ofG 39 (kAl a d (kX b (kAt c (w64 ((w64 (n*1000000000))+A)) []))),(kD b []))from(Sub.norm [] [some 0] rfl rfl (.keep (.same (qd encI _)) (.keep (.same nI) (.keep (.sliceE rfl (vG j)) (.keep (.same nI) (.keep (.same nI) .nil))))) (.ks .nil))) ?_
    obtain⟨o,v,g7⟩:=bnd g7
    refine gr fol [2] (kAl a d (kX b (kAO o c))) (ac (hs (.done (.opt (ko ZT .rem 3 (.tmp 33) (.tmp 34) (.i (w64 ((w64 (n*1000000000))+A))) (.i d))) (.i o)) (qfn v)) az) ?_
    refine gh fol (kAl a d (kX b (kAO o (w64 (c-1))))) ?_
    exact⟨M,(ofG 39 (kAl a d (kX b (kAO o (w64 (c-1))))),(kD b [])),Nat.lt_succ_self _,(Sub.refl _),_,_,_,rfl,g7⟩
   refine Goes.exit ?_
   obtain rfl:=si g7
   exact⟨rfl,_,_,rfl,(Sub.keep [6,7] rfl rfl)⟩
 rintro x s' ⟨rfl,f,r,rfl,hsub⟩
 try dsimp only at h
 refine Goes.sub hsub ?_
 obtain⟨k,w,h⟩:=bnd h
 refine sq (gq fol [1] ((4,vl encI k)::(kA4 r)) (kAb f) (ac (hs (.callF 130 [.slice 0 0 f.length f.length 1] (kD f []) [0] [vl encI f] (vl encI k)) (vZ (FzL.cons (Fz.sl (E:=encI) rfl rfl (nl rfl)) FzL.nil) (yO N f w) (qx encI _ (nl rfl)))) az) ?_)
 refine Goes.sub (show Sub (ofG 39 ((4,vl encI k)::(kA4 r)),(kAb f)) (ofG 39 ((4,vl encI k)::(kA4 r)),[])from(Sub.norm [] [] rfl rfl (.keep (.same (qd encI _)) (.keep (.same nI) .nil)) .nil)) ?_
 refine Goes.ret ?_
 obtain rfl:=si h
 exact(gw2 [vl encI k,.i r] (FzW.tuple (qc.cons (Ua (qx encI _ (nl rfl))) (qc.cons (Ua tI) qc.nil))))
def jZ (u:List Int) (v:List Int) (j:Int):Nat->Int->Int->Option (Int⊕Int)
 |0,_,_=>none
 |K+1,c,a=>
  (if a>=1000000000 then
  some true
  else
  (idx v (w64 ((v.length:Int)-2))).bind fun d=>
  (idx u (w64 ((w64 (j+(v.length:Int)))-2))).bind fun e=>
  some (decide ((w64 (a*d))>(w64 ((w64 (c*1000000000))+e)))):Option Bool).bind fun f=>
  if f=true then
  (idx v (w64 ((v.length:Int)-1))).bind fun b=>
  if(w64 (c+b))>=1000000000 then
  some (.inr (w64 (a-1)))
  else
  jZ u v j K (w64 (c+b)) (w64 (a-1))
  else
  some (.inl a)
def qag (N:Nat) (u:List Int) (v:List Int) (j:Int):Option Int:=
 (idx u (w64 (j+(v.length:Int)))).bind fun b=>
 (idx u (w64 ((w64 (j+(v.length:Int)))-1))).bind fun c=>
 (idx v (w64 ((v.length:Int)-1))).bind fun d=>
 (qb2 .i64 (w64 ((w64 (b*1000000000))+c)) d).bind fun e=>
 (qd2 .i64 (w64 ((w64 (b*1000000000))+c)) d).bind fun f=>
 (jZ u v j N f e).bind (fun
 |(.inl g)=>
 some g
 |(.inr a)=>
 some a)
theorem qhg (N:Nat) (u:List Int) (v:List Int) (j:Int) {res:Int} (h:qag N u v j=some res):qb ZT (.fn 131) [vl encI u,vl encI v,.i j] [] (.i res) []:=by
 unfold qag at h
 refine Ub Tryz.func131 rfl rfl (m:=77) rfl (rs:=[.tmp 6]) rfl (l:=(kJ u v (kBB j))) rfl ?_
 refine sh fol (kJ u v (kBB j)) ?_
 refine sh fol (kJ u v [(2,.i j),(7,.i (v.length:Int))]) ?_
 obtain⟨y,n,h⟩:=bnd h
 obtain⟨z,o,h⟩:=bnd h
 refine sq (gr fol [4,5,12,13] (kJ u v ((2,.i j)::(kAO (v.length:Int) (w64 ((w64 (y*1000000000))+z))))) (ac (iv jW encI n) (ac (lv 0 ce3 encI n rfl) (ac (iv jW encI o) (ac (lv 0 ce3 encI o rfl) az)))) ?_)
 obtain⟨G,b,h⟩:=bnd h
 obtain⟨H,q,h⟩:=bnd h
 obtain⟨I,r,h⟩:=bnd h
 refine sq (gr fol [4,5,6,11,12,13] (kJ u v (kAs j (v.length:Int) H I [])) (ac (iv jW encI b) (ac (lv 0 ce3 encI b rfl) (ac (hs (.done (.opt (ko ZT .quo 3 (.tmp 28) (.tmp 33) (.i (w64 ((w64 (y*1000000000))+z))) (.i G))) (.i H)) (qbJ q)) (ac (iv jW encI b) (ac (lv 0 ce3 encI b rfl) (ac (hs (.done (.opt (ko ZT .rem 3 (.tmp 35) (.tmp 40) (.i (w64 ((w64 (y*1000000000))+z))) (.i G))) (.i I)) (qfn r)) az)))))) ?_)
 refine sq (Goes.block ?_)
 obtain⟨A,g9,h⟩:=bnd h
 refine Goes.imp (Q:=fun x s'=>(x= .exit 0/\ ∃t,(.inl t)=A/\Sub s' (ofG 77 [(9,.i t)],[]))\/(x= .ret/\ ∃w,(.inr w)=A/\yj ZT [.tmp 6] (.i w) .ret s')) ?_ ?_
 ·refine Uc (fun M s=> ∃(d:Int) (c:Int),s=(ofG 77 (kJ u v (kAs j (v.length:Int) c d [])),[])/\jZ u v j M d c=some A) ?_ (m:=N) ⟨_,_,rfl,g9⟩
  rintro M s ⟨d,c,rfl,g9⟩
  cases M with
  |zero=>simp only[jZ]at g9;cases g9
  |succ M=>
   rw[jZ]at g9
   refine sq ?_
   refine sq ?_
   obtain⟨B,a,g9⟩:=bnd g9
   refine Goes.cut (s':=(ofG 77 (kJ u v (kAs j (v.length:Int) c d [(63,.bool B)])),[])) ?_ ?_
   ·rcases wyD a with⟨p,a⟩|⟨p,a⟩
    ·obtain rfl:=si a
     exact tr fol [2] (kJ u v (kAs j (v.length:Int) c d [(63,.bool true)])) (ac (gw p) az)
    obtain⟨C,e,a⟩:=bnd a
    obtain⟨D,f,a⟩:=bnd a
    obtain rfl:=si a
    exact tr fol [2,7,8,17,18] (kJ u v (kAs j (v.length:Int) c d [(63,.bool (decide ((w64 (c*C))>(w64 ((w64 (d*1000000000))+D)))))])) (ac (gw p) (ac (iv jW encI e) (ac (lv 0 ce3 encI e rfl) (ac (iv jW encI f) (ac (lv 0 ce3 encI f rfl) az)))))
   refine ihB g9 (fun E g9=>?_) (fun E g9=>?_)
   ·refine Goes.skip ?_
    refine Goes.block ?_
    refine sh fol (kJ u v (kAs j (v.length:Int) (w64 (c-1)) d [])) ?_
    obtain⟨k,g,g9⟩:=bnd g9
    refine sq (gr fol [4,5] (kJ u v (kAs j (v.length:Int) (w64 (c-1)) (w64 (d+k)) [])) (ac (iv jW encI g) (ac (lv 0 ce3 encI g rfl) az)) ?_)
    refine sh fol (kJ u v (kAs j (v.length:Int) (w64 (c-1)) (w64 (d+k)) [(74,.bool (decide ((w64 (d+k))>=1000000000)))])) ?_
    refine ihD g9 (fun F g9=>?_) (fun F g9=>?_)
    ·refine sh fol (kBR (w64 (c-1))) ?_
     refine Goes.ret ?_
     obtain rfl:=si g9
     exact Or.inr (⟨rfl,_,rfl,(gw2 [.i (w64 (c-1))] (Ua tI))⟩)
    refine Goes.skip ?_
    exact⟨M,(ofG 77 (kJ u v (kAs j (v.length:Int) (w64 (c-1)) (w64 (d+k)) [])),[]),Nat.lt_succ_self _,(Sub.keep [0,1,2,7,9,10] rfl rfl),_,_,rfl,g9⟩
   refine Goes.exit ?_
   obtain rfl:=si g9
   exact Or.inl (⟨rfl,_,rfl,(Sub.keep [9] rfl rfl)⟩)
 rintro x s' (⟨rfl,t,rfl,hsub⟩|⟨rfl,J,rfl,hret⟩)
 ·try dsimp only at h
  refine Goes.sub hsub ?_
  refine sh fol (kBR t) ?_
  refine Goes.ret ?_
  obtain rfl:=si h
  exact(gw2 [.i t] (Ua tI))
 try dsimp only at h
 obtain rfl:=si h
 exact hret
def jf (a:List Int):Nat->(List Int)->Option (List Int)
 |0,_=>none
 |K+1,b=>
  if(b.length:Int)<(w64 ((a.length:Int)+1))then
  (app 8 b [0]).bind fun c=>
  jf a K c
  else
  some b
def qQ (h:List Int) (e:Int) (a:Int):Nat->(List Int)->Int->Int->Option ((List Int)×Int)
 |0,_,_,_=>none
 |K+1,f,b,c=>
  if c<(h.length:Int)then
  (idx h c).bind fun d=>
  (idx f (w64 (c+e))).bind fun g=>
  ((if(w64 (g-((w64 ((w64 (a*d))+b)).tmod 1000000000)))<0 then
  some (w64 ((w64 ((w64 ((w64 (a*d))+b)).tdiv 1000000000))+1),w64 ((w64 (g-((w64 ((w64 (a*d))+b)).tmod 1000000000)))+1000000000))
  else
  some (w64 ((w64 ((w64 (a*d))+b)).tdiv 1000000000),w64 (g-((w64 ((w64 (a*d))+b)).tmod 1000000000))):Option (Int×Int))).bind fun(i,j)=>
  (put f (w64 (c+e)) j).bind fun k=>
  qQ h e a K k i (w64 (c+1))
  else
  some (f,b)
def zb (h:List Int) (b:Int) (e:Int):Nat->(List Int)->Int->Int->Option ((List Int)×Int×Int)
 |0,_,_,_=>none
 |K+1,c,d,a=>
  if a<(h.length:Int)then
  (idx c (w64 (a+b))).bind fun f=>
  (idx h a).bind fun g=>
  (put c (w64 (a+b)) ((w64 ((w64 (f+g))+d)).tmod 1000000000)).bind fun i=>
  zb h b e K i (w64 ((w64 ((w64 (f+g))+d)).tdiv 1000000000)) (w64 (a+1))
  else
  some (c,w64 (e-1),d)
def zC (N:Nat) (b:List Int):Nat->(List Int)->(List Int)->Int->Option ((List Int)×(List Int))
 |0,_,_,_=>none
 |K+1,c,d,a=>
  if a>=0 then
  (qag N c b a).bind fun e=>
  (qQ b a e N c 0 0).bind fun(g,i)=>
  (idx g (w64 (a+(b.length:Int)))).bind fun j=>
  (put g (w64 (a+(b.length:Int))) (w64 (j-i))).bind fun f=>
  (idx f (w64 (a+(b.length:Int)))).bind fun k=>
  ((if k<0 then
  (zb b a e N f 0 0).bind fun(h,l,m)=>
  (idx h (w64 (a+(b.length:Int)))).bind fun n=>
  (put h (w64 (a+(b.length:Int))) (w64 (n+m))).bind fun o=>
  some (o,l)
  else
  some (f,e):Option ((List Int)×Int))).bind fun(p,q)=>
  (idx d a).bind fun s=>
  (put d a q).bind fun r=>
  zC N b K p r (w64 (a-1))
  else
  some (c,d)
def jG (N:Nat) (a:List Int) (b:List Int):Option ((List Int)×(List Int)):=
 (jC N a b).bind fun q=>
 if q<0 then
 some ([],a)
 else
 if(b.length:Int)=1 then
 (idx b 0).bind fun r=>
 (y7 N a r).bind fun p=>
 (ym N ([p.2]:List Int)).bind fun s=>
 some (p.1,s)
 else
 (idx b (w64 ((b.length:Int)-1))).bind fun t=>
 (qb2 .i64 1000000000 (w64 (t+1))).bind fun e=>
 (vI N b ([e]:List Int)).bind fun d=>
 (vI N a ([e]:List Int)).bind fun f=>
 (app 8 ([]:List Int) f).bind fun g=>
 (jf a N g).bind fun c=>
 (mk 8 (w64 ((c.length:Int)-(d.length:Int))) 0).bind fun h=>
 (zC N d N c h (w64 ((w64 ((c.length:Int)-(d.length:Int)))-1))).bind fun(i,j)=>
 (cut i 0 (d.length:Int)).bind fun k=>
 (ym N k).bind fun l=>
 (idx ([e]:List Int) 0).bind fun m=>
 (y7 N l m).bind fun n=>
 (ym N j).bind fun o=>
 some (o,n.1)
theorem qaH (N:Nat) (a:List Int) (b:List Int) {res:(List Int)×(List Int)} (h:jG N a b=some res):qb ZT (.fn 88) (kBG a b) [] (.tuple (kBG res.1 res.2)) []:=by
 unfold jG at h
 refine Ub Tryz.func88 rfl rfl (m:=206) rfl (rs:=[.tmp 4,.tmp 5]) rfl (l:=(kJ a b [])) rfl ?_
 refine sh fol (kJ a b []) ?_
 refine sq ?_
 obtain⟨r1,e_r1,h⟩:=bnd h
 refine sq (gr fol [2] (kJ a b [(27,.bool (decide (r1<0)))]) (ac (cv (qa0 N a b e_r1)) az) ?_)
 refine ihD h (fun c2 h=>?_) (fun c2 h=>?_)
 ·refine sh fol ((4,.nilslice)::(kBJ a [])) ?_
  refine Goes.ret ?_
  obtain rfl:=si h
  exact(gw2 [.nilslice,vl encI a] (FzW.tuple (qc.cons (FzW.nilv (E:=encI)) (qc.cons (Ua (qx encI _ (nl rfl))) qc.nil))))
 refine Goes.skip ?_
 refine sq ?_
 refine sh fol (kJ a b [(31,.bool (decide ((b.length:Int)=1)))]) ?_
 refine ihD h (fun c3 h=>?_) (fun c3 h=>?_)
 ·obtain⟨x4,e_x4,h⟩:=bnd h
  obtain⟨r5,e_r5,h⟩:=bnd h
  refine sq (gr fol [2,3,4] [(6,vl encI r5.1),(7,.i r5.2)] (ac (iv jW encI e_x4) (ac (lv 0 ce3 encI e_x4 rfl) (ac (cv (qct N a x4 e_r5)) az))) ?_)
  obtain⟨r6,e_r6,h⟩:=bnd h
  refine sq (gq fol [3] ((4,vl encI r5.1)::(kBJ r6 [])) [.frozen [.i r5.2]] (ac (hs (.callF 130 [.slice 0 0 1 1 1] [.cells [.i r5.2]] [0] [vl encI ([r5.2]:List Int)] (vl encI r6)) (vZ (FzL.cons (Fz.lit rfl rfl (Ue (AllST.cons tI AllST.nil))) FzL.nil) (yO N ([r5.2]:List Int) e_r6) (qx encI _ (nl rfl)))) az) ?_)
  refine Goes.sub (show Sub (ofG 206 ((4,vl encI r5.1)::(kBJ r6 [])),[.frozen [.i r5.2]]) (ofG 206 ((4,vl encI r5.1)::(kBJ r6 [])),[])from(Sub.norm [] [] rfl rfl (.keep (.same (qd encI _)) (.keep (.same (qd encI _)) .nil)) .nil)) ?_
  refine Goes.ret ?_
  obtain rfl:=si h
  exact(gw2 (kBG r5.1 r6) (FzW.tuple (qc.cons (Ua (qx encI _ (nl rfl))) (qc.cons (Ua (qx encI _ (nl rfl))) qc.nil))))
 refine Goes.skip ?_
 obtain⟨x7,e_x7,h⟩:=bnd h
 obtain⟨g,e_q8,h⟩:=bnd h
 refine sq (gq fol [4,5,7] (kJ a b [(8,.slice 0 0 1 1 1)]) [.cells [.i g]] (ac (iv jW encI e_x7) (ac (lv 0 ce3 encI e_x7 rfl) (ac (hs (.done (.opt (ko ZT .quo 3 (.const (.int .i64 1000000000)) (.tmp 50) (.i 1000000000) (.i (w64 (x7+1))))) (.i g)) (qbJ e_q8)) az))) ?_)
 obtain⟨e,e_r9,h⟩:=bnd h
 refine sq (gq fol [2] (kBF a [(8,.slice 0 0 1 1 1),(9,vl encI e)]) [.frozen [.i g]] (ac (hs (.callF 93 [vl encI b,.slice 0 0 1 1 1] [.cells [.i g]] [0] (kBG b ([g]:List Int)) (vl encI e)) (vZ (FzL.cons (Ui (qx encI _ (nl rfl))) (FzL.cons (Fz.lit rfl rfl (Ue (AllST.cons tI AllST.nil))) FzL.nil)) (qaI N b ([g]:List Int) e_r9) (qx encI _ (nl rfl)))) az) ?_)
 refine Goes.sub (show Sub (ofG 206 (kBF a [(8,.slice 0 0 1 1 1),(9,vl encI e)]),[.frozen [.i g]]) (ofG 206 (kBF a [(8,vl encI ([g]:List Int)),(9,vl encI e)]),[])from(Sub.norm [0] [] rfl rfl (.keep (.same (qd encI _)) (.keep (.frz (Fz.litF rfl rfl (Ue (AllST.cons tI AllST.nil))) (qd encI _)) (.keep (.same (qd encI _)) .nil))) .nil)) ?_
 refine sh fol (kBF a [(8,vl encI ([g]:List Int)),(9,vl encI e),(10,.i (e.length:Int))]) ?_
 obtain⟨r10,e_r10,h⟩:=bnd h
 obtain⟨Z,e_l11,h⟩:=bnd h
 refine sq (gq fol [3,4] (kBF a [(8,vl encI ([g]:List Int)),(9,vl encI e),(10,.i (e.length:Int)),(11,.oslice 1 Z.length 1)]) (.dead::(kD Z [])) (ac (cv (qaI N a ([g]:List Int) e_r10)) (ac (hs (.run [0] (yQ ZT [49,49] (.slice 0 0 0 0 1) (vl encI r10)) [.cells []] (.oslice 1 Z.length 1) (.dead::(kD Z [])) true) (qbs jW (E:=encI) rfl (src_v (E:=encI) rfl _) (dst_z (E:=encI) rfl rfl rfl e_l11 rfl))) az)) ?_)
 refine sq (Goes.block ?_)
 obtain⟨r14,g14,h⟩:=bnd h
 refine Goes.imp (Q:=fun x s'=>(x= .exit 0/\ ∃B,B=r14/\Sub s' (ofG 206 (kAh ([g]:List Int) e (e.length:Int) B []),(kD B [])))) ?_ ?_
 ·refine Goes.sub (s':=(ofG 206 (kBF a (kAh ([g]:List Int) e (e.length:Int) Z [])),(kD Z []))) (Sub.norm [] [some 1] rfl rfl (.keep (.same (qd encI _)) (.keep (.same (qd encI _)) (.keep (.same (qd encI _)) (.keep (.same nI) (.keep (.oslice rfl) .nil))))) (.ks .nil)) ?_
  refine Uc (fun M s=> ∃(G:List Int),s=(ofG 206 (kBF a (kAh ([g]:List Int) e (e.length:Int) G [])),(kD G []))/\jf a M G=some r14) ?_ (m:=N) ⟨_,rfl,g14⟩
  rintro M s ⟨G,rfl,g14⟩
  cases M with
  |zero=>simp only[jf]at g14;cases g14
  |succ M=>
   rw[jf]at g14
   refine sq ?_
   refine sh fol (kBF a (kAh ([g]:List Int) e (e.length:Int) G [(68,.bool (decide ((G.length:Int)<(w64 ((a.length:Int)+1)))))])) ?_
   refine ihD g14 (fun c15 g14=>?_) (fun c15 g14=>?_)
   ·refine Goes.skip ?_
    refine Goes.block ?_
    obtain⟨a0,e_l16,g14⟩:=bnd g14
    refine gq fol [2] (kBF a [(8,vl encI ([g]:List Int)),(9,vl encI e),(10,.i (e.length:Int)),(11,.oslice 2 a0.length 1)]) (.dead:: .cells [.i 0]::(kD a0 [])) (ac (hs (.run [0,1] (yQ ZT [49,49] (.oslice 0 G.length 1) (.slice 1 0 1 1 1)) (kD G [.cells [.i 0]]) (.oslice 2 a0.length 1) (.dead:: .cells [.i 0]::(kD a0 [])) true) (qbs jW (E:=encI) rfl (qfb (E:=encI) (ys:=[0]) rfl rfl rfl rfl) (dst_o (E:=encI) (l:=G) rfl rfl rfl e_l16 rfl))) az) ?_
    exact⟨M,(ofG 206 (kBF a (kAh ([g]:List Int) e (e.length:Int) a0 [])),(kD a0 [])),Nat.lt_succ_self _,(Sub.norm [] [some 2] rfl rfl (.keep (.same (qd encI _)) (.keep (.same (qd encI _)) (.keep (.same (qd encI _)) (.keep (.same nI) (.keep (.oslice rfl) .nil))))) (.ks .nil)),_,rfl,g14⟩
   refine Goes.exit ?_
   obtain rfl:=si g14
   exact⟨rfl,_,rfl,(Sub.keep [8,9,10,11] rfl rfl)⟩
 rintro x s' ⟨rfl,B,rfl,hsub⟩
 refine Goes.sub hsub ?_
 obtain⟨X,e_l17,h⟩:=bnd h
 refine sq (gq fol [4] (kAh ([g]:List Int) e (e.length:Int) B [(12,.slice 1 0 X.length X.length 1)]) (kD B (kD X [])) (ac (hs (.run [] (jd ZT 49 (.i (w64 ((B.length:Int)-(e.length:Int)))) (.i (w64 ((B.length:Int)-(e.length:Int))))) (kD B []) (.slice 1 0 X.length X.length 1) (kD B (kD X [])) false) (qcB jW (E:=encI) (z:=0) rfl (by kernel_rfl) e_l17 rfl)) az) ?_)
 refine sq ?_
 refine sh fol (kA ([g]:List Int) e (e.length:Int) B X (w64 ((w64 ((B.length:Int)-(e.length:Int)))-1)) []) ?_
 refine Goes.block ?_
 obtain⟨r23,g23,h⟩:=bnd h
 refine Goes.imp (Q:=fun x s'=>(x= .exit 2/\ ∃a1 o,(a1,o)=r23/\Sub s' (ofG 206 [(8,vl encI ([g]:List Int)),(10,.i (e.length:Int)),(11,.oslice 0 a1.length 1),(12,.slice 1 0 o.length o.length 1)],(kD a1 (kD o []))))) ?_ ?_
 ·refine Uc (fun M s=> ∃(C:List Int) (c:List Int) (d:Int),s=(ofG 206 (kA ([g]:List Int) e (e.length:Int) C c d []),(kD C (kD c [])))/\zC N e M C c d=some r23) ?_ (m:=N) ⟨_,_,_,rfl,g23⟩
  rintro M s ⟨C,c,d,rfl,g23⟩
  cases M with
  |zero=>simp only[zC]at g23;cases g23
  |succ M=>
   rw[zC]at g23
   refine sq ?_
   refine sh fol (kA ([g]:List Int) e (e.length:Int) C c d [(83,.bool (decide (d>=0)))]) ?_
   refine ihD g23 (fun c24 g23=>?_) (fun c24 g23=>?_)
   ·refine Goes.skip ?_
    refine sq (Goes.block ?_)
    obtain⟨f,e_r25,g23⟩:=bnd g23
    refine sq (gr fol [3] (kA ([g]:List Int) e (e.length:Int) C c d [(14,.i f)]) (ac (hs (.call 131 [.oslice 0 C.length 1,vl encI e,.i d] (kD C (kD c [])) [0] [vl encI C,vl encI e,.i d] (.i f)) (qdM (FzL.cons (Fz.os (E:=encI) rfl rfl (nl rfl)) (FzL.cons (Ui (qx encI _ (nl rfl))) (FzL.cons (Ui tI) FzL.nil))) (qhg N C e d e_r25) tI rfl)) az) ?_)
    refine sh fol (kA ([g]:List Int) e (e.length:Int) C c d [(14,.i f),(15,.i 0)]) ?_
    refine sq ?_
    refine sh fol (kA ([g]:List Int) e (e.length:Int) C c d [(14,.i f),(15,.i 0),(16,.i 0)]) ?_
    refine Goes.block ?_
    obtain⟨r31,g31,g23⟩:=bnd g23
    refine Goes.imp (Q:=fun x s'=>(x= .exit 4/\ ∃u n30,(u,n30)=r31/\Sub s' (ofG 206 (kA ([g]:List Int) e (e.length:Int) u c d [(14,.i f),(15,.i n30)]),(kD u (kD c []))))) ?_ ?_
    ·refine Uc (fun M s=> ∃(k:List Int) (p:Int) (j:Int),s=(ofG 206 (kA ([g]:List Int) e (e.length:Int) k c d ((14,.i f)::(kAR p j []))),(kD k (kD c [])))/\qQ e d f M k p j=some r31) ?_ (m:=N) ⟨_,_,_,rfl,g31⟩
     rintro M s ⟨k,p,j,rfl,g31⟩
     cases M with
     |zero=>simp only[qQ]at g31;cases g31
     |succ M=>
      rw[qQ]at g31
      refine sq ?_
      refine sh fol (kA ([g]:List Int) e (e.length:Int) k c d ((14,.i f)::(kAR p j [(92,.bool (decide (j<(e.length:Int))))]))) ?_
      refine ihD g31 (fun c32 g31=>?_) (fun c32 g31=>?_)
      ·refine Goes.skip ?_
       refine sq (Goes.block ?_)
       obtain⟨D,e_x33,g31⟩:=bnd g31
       refine sq (gr fol [3,4] (kA ([g]:List Int) e (e.length:Int) k c d [(14,.i f),(16,.i j),(17,.i (w64 ((w64 (f*D))+p)))]) (ac (iv jW encI e_x33) (ac (lv 0 ce3 encI e_x33 rfl) az)) ?_)
       obtain⟨Y,H,g31⟩:=bnd g31
       refine sq (gr fol [4,5] (kA ([g]:List Int) e (e.length:Int) k c d [(14,.i f),(16,.i j),(17,.i (w64 ((w64 (f*D))+p))),(18,.i (w64 (Y-((w64 ((w64 (f*D))+p)).tmod 1000000000))))]) (ac (hs (.done (.opt (qg ZT 49 (.oslice 0 k.length 1) (.i (w64 (j+d))))) (.ptr 0 ((w64 (j+d):Int).toNat*1+0))) (qfC jW H)) (ac (hs (.run [0] (ji ZT 3 (.ptr 0 ((w64 (j+d):Int).toNat*1+0))) (kD k (kD c [])) (.i Y) (kD k (kD c [])) false) (qce ce3 (E:=encI) (l:=k) rfl rfl H (nl rfl) rfl)) az)) ?_)
       refine sh fol (kA ([g]:List Int) e (e.length:Int) k c d ((14,.i f)::(kAR (w64 ((w64 ((w64 (f*D))+p)).tdiv 1000000000)) j [(18,.i (w64 (Y-((w64 ((w64 (f*D))+p)).tmod 1000000000))))]))) ?_
       refine sq ?_
       refine sh fol (kA ([g]:List Int) e (e.length:Int) k c d ((14,.i f)::(kAR (w64 ((w64 ((w64 (f*D))+p)).tdiv 1000000000)) j [(18,.i (w64 (Y-((w64 ((w64 (f*D))+p)).tmod 1000000000)))),(115,.bool (decide ((w64 (Y-((w64 ((w64 (f*D))+p)).tmod 1000000000)))<0)))]))) ?_
       obtain⟨r37,g37,g31⟩:=bnd g31
       refine Goes.imp (Q:=fun x s'=>(x= .normal/\ ∃P n36,(P,n36)=r37/\Sub s' (ofG 206 (kA ([g]:List Int) e (e.length:Int) k c d ((14,.i f)::(kAR P j [(18,.i n36)]))),(kD k (kD c []))))) ?_ ?_
       ·refine ihD g37 (fun c38 g37=>?_) (fun c38 g37=>?_)
        ·refine sh fol (kA ([g]:List Int) e (e.length:Int) k c d ((14,.i f)::(kAR (w64 ((w64 ((w64 (f*D))+p)).tdiv 1000000000)) j [(18,.i (w64 ((w64 (Y-((w64 ((w64 (f*D))+p)).tmod 1000000000)))+1000000000)))]))) ?_
         refine gh fol (kA ([g]:List Int) e (e.length:Int) k c d ((14,.i f)::(kAR (w64 ((w64 ((w64 ((w64 (f*D))+p)).tdiv 1000000000))+1)) j [(18,.i (w64 ((w64 (Y-((w64 ((w64 (f*D))+p)).tmod 1000000000)))+1000000000)))]))) ?_
         obtain rfl:=si g37
         exact⟨rfl,_,_,rfl,(Sub.refl _)⟩
        refine Goes.skip ?_
        obtain rfl:=si g37
        exact⟨rfl,_,_,rfl,(Sub.keep [8,9,10,11,12,13,14,15,16,18] rfl rfl)⟩
       rintro x s' ⟨rfl,P,n36,rfl,hsub⟩
       try dsimp only at g31
       refine Goes.sub hsub ?_
       obtain⟨U,e_l39,g31⟩:=bnd g31
       refine gq fol [5,6] (kA ([g]:List Int) e (e.length:Int) k c d ((14,.i f)::(kAR P j []))) (kD U (kD c [])) (ac (hs (.done (.opt (qg ZT 49 (.oslice 0 k.length 1) (.i (w64 (j+d))))) (.ptr 0 ((w64 (j+d):Int).toNat*1+0))) (qfC jW H)) (ac (hs (.run [0] (qp ZT 3 (.ptr 0 ((w64 (j+d):Int).toNat*1+0)) (.i n36)) (kD k (kD c [])) .undef (kD U (kD c [])) true) (xP (E:=encI) (l:=k) (y:=n36) rfl (show _=some 1 by kernel_rfl) rfl H rfl rfl rfl rfl rfl e_l39 rfl)) az)) ?_
       refine Goes.sub (show Sub (ofG 206 (kA ([g]:List Int) e (e.length:Int) k c d ((14,.i f)::(kAR P j []))),(kD U (kD c []))) (ofG 206 (kA ([g]:List Int) e (e.length:Int) U c d ((14,.i f)::(kAR P j []))),(kD U (kD c [])))from(Sub.norm [] [some 0,some 1] rfl rfl (.keep (.same (qd encI _)) (.keep (.same (qd encI _)) (.keep (.same nI) (.keep (.osliceE rfl (vG e_l39)) (.keep (.slice rfl) (.keep (.same nI) (.keep (.same nI) (.keep (.same nI) (.keep (.same nI) .nil))))))))) (.ks (.ks .nil)))) ?_
       refine gh fol (kA ([g]:List Int) e (e.length:Int) U c d ((14,.i f)::(kAR P (w64 (j+1)) []))) ?_
       exact⟨M,(ofG 206 (kA ([g]:List Int) e (e.length:Int) U c d ((14,.i f)::(kAR P (w64 (j+1)) []))),(kD U (kD c []))),Nat.lt_succ_self _,(Sub.refl _),_,_,_,rfl,g31⟩
      refine Goes.exit ?_
      obtain rfl:=si g31
      exact⟨rfl,_,_,rfl,(Sub.keep [8,9,10,11,12,13,14,15] rfl rfl)⟩
    rintro x s' ⟨rfl,u,n30,rfl,hsub⟩
    try dsimp only at g23
    refine Goes.sub hsub ?_
    obtain⟨x40,I,g23⟩:=bnd g23
    obtain⟨v,e_l41,g23⟩:=bnd g23
    refine sq (gq fol [8,9,12,13] (kA ([g]:List Int) e (e.length:Int) u c d [(14,.i f)]) (kD v (kD c [])) (ac (hs (.done (.opt (qg ZT 49 (.oslice 0 u.length 1) (.i (w64 (d+(e.length:Int)))))) (.ptr 0 ((w64 (d+(e.length:Int)):Int).toNat*1+0))) (qfC jW I)) (ac (hs (.run [0] (ji ZT 3 (.ptr 0 ((w64 (d+(e.length:Int)):Int).toNat*1+0))) (kD u (kD c [])) (.i x40) (kD u (kD c [])) false) (qce ce3 (E:=encI) (l:=u) rfl rfl I (nl rfl) rfl)) (ac (hs (.done (.opt (qg ZT 49 (.oslice 0 u.length 1) (.i (w64 (d+(e.length:Int)))))) (.ptr 0 ((w64 (d+(e.length:Int)):Int).toNat*1+0))) (qfC jW I)) (ac (hs (.run [0] (qp ZT 3 (.ptr 0 ((w64 (d+(e.length:Int)):Int).toNat*1+0)) (.i (w64 (x40-n30)))) (kD u (kD c [])) .undef (kD v (kD c [])) true) (xP (E:=encI) (l:=u) (y:=w64 (x40-n30)) rfl (show _=some 1 by kernel_rfl) rfl I rfl rfl rfl rfl rfl e_l41 rfl)) az)))) ?_)
    refine Goes.sub (show Sub (ofG 206 (kA ([g]:List Int) e (e.length:Int) u c d [(14,.i f)]),(kD v (kD c []))) (ofG 206 (kA ([g]:List Int) e (e.length:Int) v c d [(14,.i f)]),(kD v (kD c [])))from(Sub.norm [] [some 0,some 1] rfl rfl (.keep (.same (qd encI _)) (.keep (.same (qd encI _)) (.keep (.same nI) (.keep (.osliceE rfl (vG e_l41)) (.keep (.slice rfl) (.keep (.same nI) (.keep (.same nI) .nil))))))) (.ks (.ks .nil)))) ?_
    refine sq ?_
    obtain⟨x42,e_x42,g23⟩:=bnd g23
    refine sq (gr fol [4,5] (kA ([g]:List Int) e (e.length:Int) v c d [(14,.i f),(145,.bool (decide (x42<0)))]) (ac (hs (.done (.opt (qg ZT 49 (.oslice 0 v.length 1) (.i (w64 (d+(e.length:Int)))))) (.ptr 0 ((w64 (d+(e.length:Int)):Int).toNat*1+0))) (qfC jW e_x42)) (ac (hs (.run [0] (ji ZT 3 (.ptr 0 ((w64 (d+(e.length:Int)):Int).toNat*1+0))) (kD v (kD c [])) (.i x42) (kD v (kD c [])) false) (qce ce3 (E:=encI) (l:=v) rfl rfl e_x42 (nl rfl) rfl)) az)) ?_)
    obtain⟨r45,g45,g23⟩:=bnd g23
    refine Goes.imp (Q:=fun x s'=>(x= .normal/\ ∃r n44,(r,n44)=r45/\Sub s' (ofG 206 (kA ([g]:List Int) e (e.length:Int) r c d [(14,.i n44)]),(kD r (kD c []))))) ?_ ?_
    ·refine ihD g45 (fun c46 g45=>?_) (fun c46 g45=>?_)
     ·refine sh fol (kA ([g]:List Int) e (e.length:Int) v c d [(14,.i (w64 (f-1)))]) ?_
      refine sh fol (kA ([g]:List Int) e (e.length:Int) v c d [(14,.i (w64 (f-1))),(19,.i 0)]) ?_
      refine sq ?_
      refine sh fol (kA ([g]:List Int) e (e.length:Int) v c d [(14,.i (w64 (f-1))),(19,.i 0),(20,.i 0)]) ?_
      refine Goes.block ?_
      obtain⟨r53,q,g45⟩:=bnd g45
      refine Goes.imp (Q:=fun x s'=>(x= .exit 6/\ ∃w a2 n52,(w,a2,n52)=r53/\Sub s' (ofG 206 (kA ([g]:List Int) e (e.length:Int) w c d [(14,.i a2),(19,.i n52)]),(kD w (kD c []))))) ?_ ?_
      ·refine Uc (fun M s=> ∃(t:List Int) (A:Int) (n:Int),s=(ofG 206 (kA ([g]:List Int) e (e.length:Int) t c d [(14,.i (w64 (f-1))),(19,.i A),(20,.i n)]),(kD t (kD c [])))/\zb e d f M t A n=some r53) ?_ (m:=N) ⟨_,_,_,rfl,q⟩
       rintro M s ⟨t,A,n,rfl,q⟩
       cases M with
       |zero=>simp only[zb]at q;cases q
       |succ M=>
        rw[zb]at q
        refine sq ?_
        refine sh fol (kA ([g]:List Int) e (e.length:Int) t c d [(14,.i (w64 (f-1))),(19,.i A),(20,.i n),(150,.bool (decide (n<(e.length:Int))))]) ?_
        refine ihD q (fun c54 q=>?_) (fun c54 q=>?_)
        ·refine Goes.skip ?_
         refine sq (Goes.block ?_)
         obtain⟨F,J,q⟩:=bnd q
         obtain⟨K,e_x56,q⟩:=bnd q
         refine sq (gr fol [4,5,8,9] (kA ([g]:List Int) e (e.length:Int) t c d [(14,.i (w64 (f-1))),(20,.i n),(21,.i (w64 ((w64 (F+K))+A)))]) (ac (hs (.done (.opt (qg ZT 49 (.oslice 0 t.length 1) (.i (w64 (n+d))))) (.ptr 0 ((w64 (n+d):Int).toNat*1+0))) (qfC jW J)) (ac (hs (.run [0] (ji ZT 3 (.ptr 0 ((w64 (n+d):Int).toNat*1+0))) (kD t (kD c [])) (.i F) (kD t (kD c [])) false) (qce ce3 (E:=encI) (l:=t) rfl rfl J (nl rfl) rfl)) (ac (iv jW encI e_x56) (ac (lv 0 ce3 encI e_x56 rfl) az)))) ?_)
         obtain⟨L,e_l57,q⟩:=bnd q
         refine sq (gq fol [6,7] (kA ([g]:List Int) e (e.length:Int) t c d [(14,.i (w64 (f-1))),(20,.i n),(21,.i (w64 ((w64 (F+K))+A)))]) (kD L (kD c [])) (ac (hs (.done (.opt (qg ZT 49 (.oslice 0 t.length 1) (.i (w64 (n+d))))) (.ptr 0 ((w64 (n+d):Int).toNat*1+0))) (qfC jW J)) (ac (hs (.run [0] (qp ZT 3 (.ptr 0 ((w64 (n+d):Int).toNat*1+0)) (.i ((w64 ((w64 (F+K))+A)).tmod 1000000000))) (kD t (kD c [])) .undef (kD L (kD c [])) true) (xP (E:=encI) (l:=t) (y:=(w64 ((w64 (F+K))+A)).tmod 1000000000) rfl (show _=some 1 by kernel_rfl) rfl J rfl rfl rfl rfl rfl e_l57 rfl)) az)) ?_)
         refine Goes.sub (show Sub (ofG 206 (kA ([g]:List Int) e (e.length:Int) t c d [(14,.i (w64 (f-1))),(20,.i n),(21,.i (w64 ((w64 (F+K))+A)))]),(kD L (kD c []))) (ofG 206 (kA ([g]:List Int) e (e.length:Int) L c d [(14,.i (w64 (f-1))),(20,.i n),(21,.i (w64 ((w64 (F+K))+A)))]),(kD L (kD c [])))from(Sub.norm [] [some 0,some 1] rfl rfl (.keep (.same (qd encI _)) (.keep (.same (qd encI _)) (.keep (.same nI) (.keep (.osliceE rfl (vG e_l57)) (.keep (.slice rfl) (.keep (.same nI) (.keep (.same nI) (.keep (.same nI) (.keep (.same nI) .nil))))))))) (.ks (.ks .nil)))) ?_
         refine gh fol (kA ([g]:List Int) e (e.length:Int) L c d [(14,.i (w64 (f-1))),(19,.i (w64 ((w64 ((w64 (F+K))+A)).tdiv 1000000000))),(20,.i n)]) ?_
         refine gh fol (kA ([g]:List Int) e (e.length:Int) L c d [(14,.i (w64 (f-1))),(19,.i (w64 ((w64 ((w64 (F+K))+A)).tdiv 1000000000))),(20,.i (w64 (n+1)))]) ?_
         exact⟨M,(ofG 206 (kA ([g]:List Int) e (e.length:Int) L c d [(14,.i (w64 (f-1))),(19,.i (w64 ((w64 ((w64 (F+K))+A)).tdiv 1000000000))),(20,.i (w64 (n+1)))]),(kD L (kD c []))),Nat.lt_succ_self _,(Sub.refl _),_,_,_,rfl,q⟩
        refine Goes.exit ?_
        obtain rfl:=si q
        exact⟨rfl,_,_,_,rfl,(Sub.keep [8,9,10,11,12,13,14,19] rfl rfl)⟩
      rintro x s' ⟨rfl,w,a2,n52,rfl,hsub⟩
      try dsimp only at g45
      refine Goes.sub hsub ?_
      obtain⟨x58,O,g45⟩:=bnd g45
      obtain⟨l59,e_l59,g45⟩:=bnd g45
      refine gq fol [8,9,12,13] (kA ([g]:List Int) e (e.length:Int) w c d [(14,.i a2)]) (kD l59 (kD c [])) (ac (hs (.done (.opt (qg ZT 49 (.oslice 0 w.length 1) (.i (w64 (d+(e.length:Int)))))) (.ptr 0 ((w64 (d+(e.length:Int)):Int).toNat*1+0))) (qfC jW O)) (ac (hs (.run [0] (ji ZT 3 (.ptr 0 ((w64 (d+(e.length:Int)):Int).toNat*1+0))) (kD w (kD c [])) (.i x58) (kD w (kD c [])) false) (qce ce3 (E:=encI) (l:=w) rfl rfl O (nl rfl) rfl)) (ac (hs (.done (.opt (qg ZT 49 (.oslice 0 w.length 1) (.i (w64 (d+(e.length:Int)))))) (.ptr 0 ((w64 (d+(e.length:Int)):Int).toNat*1+0))) (qfC jW O)) (ac (hs (.run [0] (qp ZT 3 (.ptr 0 ((w64 (d+(e.length:Int)):Int).toNat*1+0)) (.i (w64 (x58+n52)))) (kD w (kD c [])) .undef (kD l59 (kD c [])) true) (xP (E:=encI) (l:=w) (y:=w64 (x58+n52)) rfl (show _=some 1 by kernel_rfl) rfl O rfl rfl rfl rfl rfl e_l59 rfl)) az)))) ?_
      obtain rfl:=si g45
      exact⟨rfl,_,_,rfl,((show Sub (ofG 206 (kA ([g]:List Int) e (e.length:Int) w c d [(14,.i a2)]),(kD l59 (kD c []))) (ofG 206 (kA ([g]:List Int) e (e.length:Int) l59 c d [(14,.i a2)]),(kD l59 (kD c [])))from(Sub.norm [] [some 0,some 1] rfl rfl (.keep (.same (qd encI _)) (.keep (.same (qd encI _)) (.keep (.same nI) (.keep (.osliceE rfl (vG e_l59)) (.keep (.slice rfl) (.keep (.same nI) (.keep (.same nI) .nil))))))) (.ks (.ks .nil)))).trans (Sub.refl _))⟩
     refine Goes.skip ?_
     obtain rfl:=si g45
     exact⟨rfl,_,_,rfl,(Sub.keep [8,9,10,11,12,13,14] rfl rfl)⟩
    rintro x s' ⟨rfl,r,n44,rfl,hsub⟩
    try dsimp only at g23
    refine Goes.sub hsub ?_
    obtain⟨x60,e_x60,g23⟩:=bnd g23
    obtain⟨V,e_l61,g23⟩:=bnd g23
    refine gq fol [3,4] (kA ([g]:List Int) e (e.length:Int) r c d []) (kD r (kD V [])) (ac (hs (.done (.opt (qg ZT 49 (.slice 1 0 c.length c.length 1) (.i d))) (.ptr 1 ((d:Int).toNat*1+0))) (qaf jW e_x60)) (ac (hs (.run [1] (qp ZT 3 (.ptr 1 ((d:Int).toNat*1+0)) (.i n44)) (kD r (kD c [])) .undef (kD r (kD V [])) true) (xP (E:=encI) (l:=c) (y:=n44) rfl (show _=some 1 by kernel_rfl) rfl e_x60 rfl rfl rfl rfl rfl e_l61 rfl)) az)) ?_
    refine Goes.sub (show Sub (ofG 206 (kA ([g]:List Int) e (e.length:Int) r c d []),(kD r (kD V []))) (ofG 206 (kA ([g]:List Int) e (e.length:Int) r V d []),(kD r (kD V [])))from(Sub.norm [] [some 0,some 1] rfl rfl (.keep (.same (qd encI _)) (.keep (.same (qd encI _)) (.keep (.same nI) (.keep (.oslice rfl) (.keep (.sliceE rfl (vG e_l61)) (.keep (.same nI) .nil)))))) (.ks (.ks .nil)))) ?_
    refine gh fol (kA ([g]:List Int) e (e.length:Int) r V (w64 (d-1)) []) ?_
    exact⟨M,(ofG 206 (kA ([g]:List Int) e (e.length:Int) r V (w64 (d-1)) []),(kD r (kD V []))),Nat.lt_succ_self _,(Sub.refl _),_,_,_,rfl,g23⟩
   refine Goes.exit ?_
   obtain rfl:=si g23
   exact⟨rfl,_,_,rfl,(Sub.keep [8,10,11,12] rfl rfl)⟩
 rintro x s' ⟨rfl,a1,o,rfl,hsub⟩
 try dsimp only at h
 refine Goes.sub hsub ?_
 refine sq (Goes.sub (s':=(ofG 206 [(8,vl encI ([g]:List Int)),(10,.i (e.length:Int)),(11,vl encI a1),(12,.slice 0 0 o.length o.length 1)],(kD o []))) (Sub.norm [0] [some 1] rfl rfl (.keep (.same (qd encI _)) (.keep (.same nI) (.keep (.frz (Fz.os (E:=encI) rfl rfl (nl rfl)) (qd encI _)) (.keep (.slice rfl) .nil)))) (.ks .nil)) ?_)
 obtain⟨s62,e_s62,h⟩:=bnd h
 obtain⟨r63,e_r63,h⟩:=bnd h
 obtain⟨x64,e_x64,h⟩:=bnd h
 obtain⟨r65,e_r65,h⟩:=bnd h
 refine gr fol [2,3,5,6,7] [(12,.slice 0 0 o.length o.length 1),(22,vl encI r65.1)] (ac (hs (.done (.opt (qV ZT 49 (vl encI a1) none (some (.i (e.length:Int))) none)) (vl encI s62)) (qma jW (E:=encI) rfl none (some (e.length:Int)) e_s62)) (ac (cv (yO N s62 e_r63)) (ac (iv jW encI e_x64) (ac (lv 0 ce3 encI e_x64 rfl) (ac (cv (qct N r63 x64 e_r65)) az))))) ?_
 obtain⟨r66,e_r66,h⟩:=bnd h
 refine sq (gq fol [1] ((4,vl encI r66)::(kBJ r65.1 [])) (kAb o) (ac (hs (.callF 130 [.slice 0 0 o.length o.length 1] (kD o []) [0] [vl encI o] (vl encI r66)) (vZ (FzL.cons (Fz.sl (E:=encI) rfl rfl (nl rfl)) FzL.nil) (yO N o e_r66) (qx encI _ (nl rfl)))) az) ?_)
 refine Goes.sub (show Sub (ofG 206 ((4,vl encI r66)::(kBJ r65.1 [])),(kAb o)) (ofG 206 ((4,vl encI r66)::(kBJ r65.1 [])),[])from(Sub.norm [] [] rfl rfl (.keep (.same (qd encI _)) (.keep (.same (qd encI _)) .nil)) .nil)) ?_
 refine Goes.ret ?_
 obtain rfl:=si h
 exact(gw2 (kBG r66 r65.1) (FzW.tuple (qc.cons (Ua (qx encI _ (nl rfl))) (qc.cons (Ua (qx encI _ (nl rfl))) qc.nil))))
def zh (N:Nat):Nat->(List Int)->(List Int)->Option (List Int)
 |0,_,_=>none
 |K+1,b,a=>
  if(a.length:Int)>0 then
  (jG N b a).bind fun c=>
  zh N K a c.2
  else
  some b
def qao (N:Nat) (a:List Int) (b:List Int):Option (List Int):=
 (zh N N a b).bind fun c=>
 some c
theorem qdC (N:Nat) (a:List Int) (b:List Int) {res:List Int} (h:qao N a b=some res):qb ZT (.fn 54) (kBG a b) [] (vl encI res) []:=by
 unfold qao at h
 refine Ub Tryz.func54 rfl rfl (m:=19) rfl (rs:=[.tmp 4]) rfl (l:=(kJ a b [])) rfl ?_
 refine sh fol (kJ a b []) ?_
 refine sq (Goes.block ?_)
 obtain⟨i,g4,h⟩:=bnd h
 refine Goes.imp (Q:=fun x s'=>(x= .exit 0/\ ∃d,d=i/\Sub s' (ofG 19 (kBF d []),[]))) ?_ ?_
 ·refine Uc (fun M s=> ∃(e:List Int) (c:List Int),s=(ofG 19 (kJ e c []),[])/\zh N M e c=some i) ?_ (m:=N) ⟨_,_,rfl,g4⟩
  rintro M s ⟨e,c,rfl,g4⟩
  cases M with
  |zero=>simp only[zh]at g4;cases g4
  |succ M=>
   rw[zh]at g4
   refine sq ?_
   refine sh fol (kJ e c [(9,.bool (decide ((c.length:Int)>0)))]) ?_
   refine ihD g4 (fun j g4=>?_) (fun j g4=>?_)
   ·refine Goes.skip ?_
    refine Goes.block ?_
    obtain⟨g,f,g4⟩:=bnd g4
    refine sq (gr fol [2] [(1,vl encI c),(6,vl encI g.2)] (ac (cv (qaH N e c f)) az) ?_)
    refine gh fol (kJ c g.2 []) ?_
    exact⟨M,(ofG 19 (kJ c g.2 []),[]),Nat.lt_succ_self _,(Sub.refl _),_,_,rfl,g4⟩
   refine Goes.exit ?_
   obtain rfl:=si g4
   exact⟨rfl,_,rfl,(Sub.keep [0] rfl rfl)⟩
 rintro x s' ⟨rfl,d,rfl,hsub⟩
 refine Goes.sub hsub ?_
 refine sh fol [(4,vl encI d)] ?_
 refine Goes.ret ?_
 obtain rfl:=si h
 exact(gw2 [vl encI d] (Ua (qx encI _ (nl rfl))))
def qaO (N:Nat) (a:Str):Option Int:=
 (if(a.length:Int)>0 then
 (idx a 0).bind fun t=>
 some (decide ((t.toNat:Int)=45))
 else
 some false:Option Bool).bind fun u=>
 ((if u=true then
 (cut a 1 (a.length:Int)).bind fun v=>
 some v
 else
 some a:Option Str)).bind fun b=>
 (yF N b).bind fun c=>
 ((cut b 0 c).bind fun f=>
 (jo N f).bind fun g=>
 if(!g)=true then
 some true
 else
 (idx a 0).bind fun h=>
 if(h.toNat:Int)=45 then
 (cut b 0 c).bind fun i=>
 some (i==[48])
 else
 some false:Option Bool).bind fun j=>
 if j=true then
 some 1
 else
 (if c<(b.length:Int)then
 (cut b (w64 (c+1)) (b.length:Int)).bind fun k=>
 (jo N k).bind fun l=>
 if(!l)=true then
 some true
 else
 (cut b (w64 (c+1)) (b.length:Int)).bind fun m=>
 if(m==[48])=true then
 some true
 else
 (cut b (w64 (c+1)) (b.length:Int)).bind fun n=>
 some (n==[49])
 else
 some false:Option Bool).bind fun o=>
 if o=true then
 some 1
 else
 (if c>600 then
 some true
 else
 some (decide ((w64 ((w64 ((b.length:Int)-c))-1))>600)):Option Bool).bind fun p=>
 if p=true then
 some 4
 else
 ((if c<(b.length:Int)then
 (vD N b).bind fun d=>
 (qao N d.1.w d.2.w).bind fun e=>
 (if(!decide ((e.length:Int)=1))=true then
 some true
 else
 (idx e 0).bind fun q=>
 some (!decide (q=1)):Option Bool).bind fun r=>
 if r=true then
 some (.inr 1)
 else
 some (.inl ())
 else
 some (.inl ()):Option (Unit⊕Int))).bind (fun
 |(.inl ())=>
 some 0
 |(.inr s)=>
 some s)
theorem qa8 (N:Nat) (a:Str) {res:Int} (h:qaO N a=some res):qb ZT (.fn 11) [.str a] [] (.i res) []:=by
 unfold qaO at h
 refine Ub Tryz.func11 rfl rfl (m:=96) rfl (rs:=[.tmp 2]) rfl (l:=(kAQ a [])) rfl ?_
 refine sh fol (kAQ a []) ?_
 refine sh fol (kAQ a [(3,.str a)]) ?_
 refine sq ?_
 refine sq ?_
 obtain⟨b3,g,h⟩:=bnd h
 refine Goes.cut (s':=(ofG 96 (kAQ a [(3,.str a),(16,.bool b3)]),[])) ?_ ?_
 ·rcases wyD g with⟨Y,g⟩|⟨Y,g⟩
  ·obtain⟨c2,J,g⟩:=bnd g
   obtain rfl:=si g
   exact tr fol [3,5] (kAQ a [(3,.str a),(16,.bool (decide ((c2.toNat:Int)=45)))]) (ac (gw Y) (ac (hs (.done (.opt (yo ZT 9 (.str a) (.i 0))) (.int .u8 (c2.toNat:Int))) (qaz st9 J)) az))
  obtain rfl:=si g
  exact tr fol [3] (kAQ a [(3,.str a),(16,.bool false)]) (ac (gw Y) az)
 obtain⟨r6,g6,h⟩:=bnd h
 refine Goes.imp (Q:=fun x s'=>(x= .normal/\ ∃e,e=r6/\Sub s' (ofG 96 (kAQ a [(3,.str e)]),[]))) ?_ ?_
 ·refine ihB g6 (fun c7 g6=>?_) (fun c7 g6=>?_)
  ·obtain⟨s8,K,g6⟩:=bnd g6
   refine gr fol [1] (kAQ a [(3,.str s8)]) (ac (hs (.done (.opt (qV ZT 9 (.str a) (some (.i 1)) none none)) (.str s8)) (zT st9 (some 1) none K)) az) ?_
   obtain rfl:=si g6
   exact⟨rfl,_,rfl,(Sub.refl _)⟩
  refine Goes.skip ?_
  obtain rfl:=si g6
  exact⟨rfl,_,rfl,(Sub.keep [0,3] rfl rfl)⟩
 rintro x s' ⟨rfl,e,rfl,hsub⟩
 refine Goes.sub hsub ?_
 obtain⟨d,L,h⟩:=bnd h
 refine sq (gr fol [1] (kAQ a (kAq e d [])) (ac (cv (xY N e L)) az) ?_)
 refine sq ?_
 refine sq ?_
 obtain⟨Z,c,h⟩:=bnd h
 refine Goes.cut (s':=(ofG 96 (kAq e d [(36,.bool Z)]),[])) ?_ ?_
 ·obtain⟨r,n,c⟩:=bnd c
  obtain⟨r11,o,c⟩:=bnd c
  rcases wyB c with⟨z,c⟩|⟨z,c⟩
  ·obtain rfl:=si c
   exact tr fol [2,3,5] (kAq e d [(36,.bool true)]) (ac (hs (.done (.opt (qV ZT 9 (.str e) none (some (.i d)) none)) (.str r)) (zT st9 none (some d) n)) (ac (cv (jg N r o)) (ac (gw z) az)))
  obtain⟨M,t,c⟩:=bnd c
  rcases wyD c with⟨B,c⟩|⟨B,c⟩
  ·obtain⟨O,C,c⟩:=bnd c
   obtain rfl:=si c
   exact tr fol [2,3,5,7,9,12] (kAq e d [(36,.bool (O==[48]))]) (ac (hs (.done (.opt (qV ZT 9 (.str e) none (some (.i d)) none)) (.str r)) (zT st9 none (some d) n)) (ac (cv (jg N r o)) (ac (gw z) (ac (hs (.done (.opt (yo ZT 22 (.str a) (.i 0))) (.int .u8 (M.toNat:Int))) (qaz qlg t)) (ac (gw B) (ac (hs (.done (.opt (qV ZT 9 (.str e) none (some (.i d)) none)) (.str O)) (zT st9 none (some d) C)) az))))))
  obtain rfl:=si c
  exact tr fol [2,3,5,7,9] (kAq e d [(36,.bool false)]) (ac (hs (.done (.opt (qV ZT 9 (.str e) none (some (.i d)) none)) (.str r)) (zT st9 none (some d) n)) (ac (cv (jg N r o)) (ac (gw z) (ac (hs (.done (.opt (yo ZT 22 (.str a) (.i 0))) (.int .u8 (M.toNat:Int))) (qaz qlg t)) (ac (gw B) az)))))
 refine ihB h (fun a0 h=>?_) (fun a0 h=>?_)
 ·refine sh fol [(2,.i 1)] ?_
  refine Goes.ret ?_
  obtain rfl:=si h
  exact(gw2 [.i 1] (Ua tI))
 refine Goes.skip ?_
 refine sq ?_
 refine sq ?_
 obtain⟨a1,b,h⟩:=bnd h
 refine Goes.cut (s':=(ofG 96 (kAq e d [(62,.bool a1)]),[])) ?_ ?_
 ·rcases wyD b with⟨u,b⟩|⟨u,b⟩
  ·obtain⟨s,p,b⟩:=bnd b
   obtain⟨r21,q,b⟩:=bnd b
   rcases wyB b with⟨A,b⟩|⟨A,b⟩
   ·obtain rfl:=si b
    exact tr fol [4,8,9,11] (kAq e d [(62,.bool true)]) (ac (gw u) (ac (hs (.done (.opt (qV ZT 9 (.str e) (some (.i (w64 (d+1)))) none none)) (.str s)) (zT st9 (some (w64 (d+1))) none p)) (ac (cv (jg N s q)) (ac (gw A) az))))
   obtain⟨P,v,b⟩:=bnd b
   rcases wyB b with⟨D,b⟩|⟨D,b⟩
   ·obtain rfl:=si b
    exact tr fol [4,8,9,11,15,18] (kAq e d [(62,.bool true)]) (ac (gw u) (ac (hs (.done (.opt (qV ZT 9 (.str e) (some (.i (w64 (d+1)))) none none)) (.str s)) (zT st9 (some (w64 (d+1))) none p)) (ac (cv (jg N s q)) (ac (gw A) (ac (hs (.done (.opt (qV ZT 9 (.str e) (some (.i (w64 (d+1)))) none none)) (.str P)) (zT st9 (some (w64 (d+1))) none v)) (ac (gw D) az))))))
   obtain⟨U,E,b⟩:=bnd b
   obtain rfl:=si b
   exact tr fol [4,8,9,11,15,18,22] (kAq e d [(62,.bool (U==[49]))]) (ac (gw u) (ac (hs (.done (.opt (qV ZT 9 (.str e) (some (.i (w64 (d+1)))) none none)) (.str s)) (zT st9 (some (w64 (d+1))) none p)) (ac (cv (jg N s q)) (ac (gw A) (ac (hs (.done (.opt (qV ZT 9 (.str e) (some (.i (w64 (d+1)))) none none)) (.str P)) (zT st9 (some (w64 (d+1))) none v)) (ac (gw D) (ac (hs (.done (.opt (qV ZT 9 (.str e) (some (.i (w64 (d+1)))) none none)) (.str U)) (zT st9 (some (w64 (d+1))) none E)) az)))))))
  obtain rfl:=si b
  exact tr fol [4] (kAq e d [(62,.bool false)]) (ac (gw u) az)
 refine ihB h (fun a2 h=>?_) (fun a2 h=>?_)
 ·refine sh fol [(2,.i 1)] ?_
  refine Goes.ret ?_
  obtain rfl:=si h
  exact(gw2 [.i 1] (Ua tI))
 refine Goes.skip ?_
 refine sq ?_
 refine sq ?_
 obtain⟨a3,j,h⟩:=bnd h
 refine Goes.cut (s':=(ofG 96 (kAq e d [(72,.bool a3)]),[])) ?_ ?_
 ·rcases wyD j with⟨F,j⟩|⟨F,j⟩
  ·obtain rfl:=si j
   exact tr fol [2] (kAq e d [(72,.bool true)]) (ac (gw F) az)
  obtain rfl:=si j
  exact tr fol [2] (kAq e d [(72,.bool (decide ((w64 ((w64 ((e.length:Int)-d))-1))>600)))]) (ac (gw F) az)
 refine ihB h (fun a4 h=>?_) (fun a4 h=>?_)
 ·refine sh fol [(2,.i 4)] ?_
  refine Goes.ret ?_
  obtain rfl:=si h
  exact(gw2 [.i 4] (Ua tI))
 refine Goes.skip ?_
 refine sq ?_
 refine sh fol [(3,.str e),(76,.bool (decide (d<(e.length:Int))))] ?_
 obtain⟨V,g33,h⟩:=bnd h
 refine Goes.imp (Q:=fun x s'=>(x= .normal/\(.inl ())=V/\Sub s' (ofG 96 [],[]))\/(x= .ret/\ ∃X,(.inr X)=V/\yj ZT [.tmp 2] (.i X) .ret s')) ?_ ?_
 ·refine ihD g33 (fun a5 g33=>?_) (fun a5 g33=>?_)
  ·obtain⟨k,G,g33⟩:=bnd g33
   refine sq (gq fol [1] [(5,.ptr 0 0),(6,.ptr 1 0)] (kN k.1.neg k.1.w k.2.neg k.2.w []) (ac (cv (qak N e G)) az) ?_)
   obtain⟨a6,H,g33⟩:=bnd g33
   refine sq (gr fol [4] [(7,vl encI a6)] (ac (cv (qdC N k.1.w k.2.w H)) az) ?_)
   refine sq ?_
   obtain⟨a7,f,g33⟩:=bnd g33
   refine Goes.cut (s':=(ofG 96 [(95,.bool a7)],(kN k.1.neg k.1.w k.2.neg k.2.w []))) ?_ ?_
   ·rcases wyB f with⟨I,f⟩|⟨I,f⟩
    ·obtain rfl:=si f
     exact tr fol [3] [(95,.bool true)] (ac (gw I) az)
    obtain⟨a8,y,f⟩:=bnd f
    obtain rfl:=si f
    exact tr fol [3,5,6] [(95,.bool (!decide (a8=1)))] (ac (gw I) (ac (iv jW encI y) (ac (lv 0 ce3 encI y rfl) az)))
   refine ihB g33 (fun a9 g33=>?_) (fun a9 g33=>?_)
   ·refine sh fol [(2,.i 1)] ?_
    refine Goes.ret ?_
    obtain rfl:=si g33
    exact Or.inr (⟨rfl,_,rfl,(gw2 [.i 1] (Ua tI))⟩)
   refine Goes.skip ?_
   obtain rfl:=si g33
   exact Or.inl (⟨rfl,rfl,(Sub.norm [] [] rfl rfl .nil .nil)⟩)
  refine Goes.skip ?_
  obtain rfl:=si g33
  exact Or.inl (⟨rfl,rfl,(Sub.keep [] rfl rfl)⟩)
 rintro x s' (⟨rfl,rfl,hsub⟩|⟨rfl,q43,rfl,hret⟩)
 ·try dsimp only at h
  refine Goes.sub hsub ?_
  refine sh fol [(2,.i 0)] ?_
  refine Goes.ret ?_
  obtain rfl:=si h
  exact(gw2 [.i 0] (Ua tI))
 try dsimp only at h
 obtain rfl:=si h
 exact hret
def yg (a:Str):Option Int:=
 if(a==[48])=true then
 some 0
 else
 (if(a.length:Int)>0 then
 (idx a 0).bind fun b=>
 some (decide ((b.toNat:Int)=45))
 else
 some false:Option Bool).bind fun c=>
 if c=true then
 some (-1)
 else
 some 1
theorem zV (a:Str) {res:Int} (h:yg a=some res):qb ZT (.fn 18) [.str a] [] (.i res) []:=by
 unfold yg at h
 refine Ub Tryz.func18 rfl rfl (m:=13) rfl (rs:=[.tmp 2]) rfl (l:=(kAQ a [])) rfl ?_
 refine sh fol (kAQ a []) ?_
 refine sq ?_
 refine sh fol (kAQ a (kA6 (a==[48]))) ?_
 refine ihB h (fun f h=>?_) (fun f h=>?_)
 ·refine sh fol [(2,.i 0)] ?_
  refine Goes.ret ?_
  obtain rfl:=si h
  exact(gw2 [.i 0] (Ua tI))
 refine Goes.skip ?_
 refine sq ?_
 refine sq ?_
 obtain⟨g,b,h⟩:=bnd h
 refine Goes.cut (s':=(ofG 13 (kBM g),[])) ?_ ?_
 ·rcases wyD b with⟨d,b⟩|⟨d,b⟩
  ·obtain⟨e,c,b⟩:=bnd b
   obtain rfl:=si b
   exact tr fol [3,5] (kBM (decide ((e.toNat:Int)=45))) (ac (gw d) (ac (hs (.done (.opt (yo ZT 22 (.str a) (.i 0))) (.int .u8 (e.toNat:Int))) (qaz qlg c)) az))
  obtain rfl:=si b
  exact tr fol [3] [(12,.bool false)] (ac (gw d) az)
 refine ihB h (fun j h=>?_) (fun j h=>?_)
 ·refine sh fol [(2,.i (-1))] ?_
  refine Goes.ret ?_
  obtain rfl:=si h
  exact(gw2 [.i (-1)] (Ua tI))
 refine Goes.skip ?_
 refine sh fol [(2,.i 1)] ?_
 refine Goes.ret ?_
 obtain rfl:=si h
 exact(gw2 [.i 1] (Ua tI))
def qbO (a:Str):Option Str:=
 (yg a).bind fun b=>
 if b<0 then
 (cut a 1 (a.length:Int)).bind fun c=>
 some c
 else
 some a
theorem qfm (a:Str) {res:Str} (h:qbO a=some res):qb ZT (.fn 12) [.str a] [] (.str res) []:=by
 unfold qbO at h
 refine Ub Tryz.func12 rfl rfl (m:=9) rfl (rs:=[.tmp 2]) rfl (l:=(kAQ a [])) rfl ?_
 refine sh fol (kAQ a []) ?_
 refine sq ?_
 obtain⟨e,b,h⟩:=bnd h
 refine sq (gr fol [1] (kAQ a [(5,.bool (decide (e<0)))]) (ac (cv (zV a b)) az) ?_)
 refine ihD h (fun f h=>?_) (fun f h=>?_)
 ·obtain⟨d,c,h⟩:=bnd h
  refine sq (gr fol [1] (kBS d) (ac (hs (.done (.opt (qV ZT 22 (.str a) (some (.i 1)) none none)) (.str d)) (zT qlg (some 1) none c)) az) ?_)
  refine Goes.ret ?_
  obtain rfl:=si h
  exact(gw2 [.str d] (Ua tS))
 refine Goes.skip ?_
 refine sh fol (kBS a) ?_
 refine Goes.ret ?_
 obtain rfl:=si h
 exact(gw2 [.str a] (Ua tS))
def qcP (N:Nat) (a:Str):Option Str:=
 (yF N a).bind fun b=>
 (cut a 0 b).bind fun c=>
 some c
theorem qe8 (N:Nat) (a:Str) {res:Str} (h:qcP N a=some res):qb ZT (.fn 28) [.str a] [] (.str res) []:=by
 unfold qcP at h
 refine Ub Tryz.func28 rfl rfl (m:=7) rfl (rs:=[.tmp 2]) rfl (l:=(kAQ a [])) rfl ?_
 refine sh fol (kAQ a []) ?_
 obtain⟨e,b,h⟩:=bnd h
 obtain⟨d,c,h⟩:=bnd h
 refine sq (gr fol [2,3] (kBS d) (ac (cv (xY N a b)) (ac (hs (.done (.opt (qV ZT 22 (.str a) none (some (.i e)) none)) (.str d)) (zT qlg none (some e) c)) az)) ?_)
 refine Goes.ret ?_
 obtain rfl:=si h
 exact(gw2 [.str d] (Ua tS))
def qcT (N:Nat) (a:Str):Option Str:=
 (yF N a).bind fun b=>
 if b=(a.length:Int)then
 some [49]
 else
 (cut a (w64 (b+1)) (a.length:Int)).bind fun c=>
 some c
theorem qiG (N:Nat) (a:Str) {res:Str} (h:qcT N a=some res):qb ZT (.fn 29) [.str a] [] (.str res) []:=by
 unfold qcT at h
 refine Ub Tryz.func29 rfl rfl (m:=14) rfl (rs:=[.tmp 2]) rfl (l:=(kAQ a [])) rfl ?_
 refine sh fol (kAQ a []) ?_
 obtain⟨b,c,h⟩:=bnd h
 refine sq (gr fol [1] (kAQ a [(3,.i b)]) (ac (cv (xY N a c)) az) ?_)
 refine sq ?_
 refine sh fol (kAQ a [(3,.i b),(9,.bool (decide (b=(a.length:Int))))]) ?_
 refine ihD h (fun f h=>?_) (fun f h=>?_)
 ·refine sh fol [(2,.str [49])] ?_
  refine Goes.ret ?_
  obtain rfl:=si h
  exact(gw2 [.str [49]] (Ua tS))
 refine Goes.skip ?_
 obtain⟨e,d,h⟩:=bnd h
 refine sq (gr fol [3] (kBS e) (ac (hs (.done (.opt (qV ZT 22 (.str a) (some (.i (w64 (b+1)))) none none)) (.str e)) (zT qlg (some (w64 (b+1))) none d)) az) ?_)
 refine Goes.ret ?_
 obtain rfl:=si h
 exact(gw2 [.str e] (Ua tS))
def qbR (N:Nat) (a:Str) (digits:Int):Option Bool:=
 (if(a.length:Int)<=(w64 ((w64 (2*digits))+2))then
 (qaO N a).bind fun b=>
 if b=0 then
 (qcP N a).bind fun c=>
 (qbO c).bind fun d=>
 if(d.length:Int)<=digits then
 (qcT N a).bind fun e=>
 some (decide ((e.length:Int)<=digits))
 else
 some false
 else
 some false
 else
 some false:Option Bool).bind fun f=>
 some f
theorem jy (N:Nat) (a:Str) (digits:Int) {res:Bool} (h:qbR N a digits=some res):qb ZT (.fn 5) [.str a,.i digits] [] (.bool res) []:=by
 unfold qbR at h
 refine Ub Tryz.func5 rfl rfl (m:=31) rfl (rs:=[.tmp 4]) rfl (l:=(kAQ a [(1,.i digits)])) rfl ?_
 refine sh fol (kAQ a [(1,.i digits)]) ?_
 refine sq ?_
 obtain⟨n,b,h⟩:=bnd h
 refine Goes.cut (s':=(ofG 31 (kA6 n),[])) ?_ ?_
 ·rcases wyD b with⟨f,b⟩|⟨f,b⟩
  ·obtain⟨q,c,b⟩:=bnd b
   rcases wyD b with⟨j,b⟩|⟨j,b⟩
   ·obtain⟨o,d,b⟩:=bnd b
    obtain⟨r,e,b⟩:=bnd b
    rcases wyD b with⟨k,b⟩|⟨k,b⟩
    ·obtain⟨p,g,b⟩:=bnd b
     obtain rfl:=si b
     exact tr fol [6,8,11,13,14,19,21] (kA6 (decide ((p.length:Int)<=digits))) (ac (gw f) (ac (cv (qa8 N a c)) (ac (gw j) (ac (cv (qe8 N a d)) (ac (cv (qfm o e)) (ac (gw k) (ac (cv (qiG N a g)) az)))))))
    obtain rfl:=si b
    exact tr fol [6,8,11,13,14,19] kBK (ac (gw f) (ac (cv (qa8 N a c)) (ac (gw j) (ac (cv (qe8 N a d)) (ac (cv (qfm o e)) (ac (gw k) az))))))
   obtain rfl:=si b
   exact tr fol [6,8,11] kBK (ac (gw f) (ac (cv (qa8 N a c)) (ac (gw j) az)))
  obtain rfl:=si b
  exact tr fol [6] kBK (ac (gw f) az)
 refine Goes.ret ?_
 obtain rfl:=si h
 exact(gw2 [.bool n] (Ua tB))
def zH (l:List Int):Nat->Int->Option (Unit⊕Int)
 |0,_=>none
 |K+1,a=>
  if a<(l.length:Int)then
  (idx l a).bind fun b=>
  if(!decide (b=0))=true then
  some (.inr b)
  else
  zH l K (w64 (a+1))
  else
  some (.inl ())
def jm (N:Nat) (l:List Int):Option Int:=
 (zH l N 0).bind (fun
 |(.inl ())=>
 some 0
 |(.inr a)=>
 some a)
theorem xy (N:Nat) (l:List Int) {res:Int} (h:jm N l=some res):qb ZT (.fn 31) [vl encI l] [] (.i res) []:=by
 unfold jm at h
 refine Ub Tryz.func31 rfl rfl (m:=15) rfl (rs:=[.tmp 2]) rfl (l:=(kBF l [])) rfl ?_
 refine sh fol (kBF l []) ?_
 refine sq ?_
 refine sh fol (kBJ l [(6,.i (l.length:Int)),(7,.i 0)]) ?_
 refine Goes.block ?_
 obtain⟨d,g2,h⟩:=bnd h
 refine Goes.imp (Q:=fun x s'=>(x= .exit 0/\(.inl ())=d/\Sub s' (ofG 15 [],[]))\/(x= .ret/\ ∃e,(.inr e)=d/\yj ZT [.tmp 2] (.i e) .ret s')) ?_ ?_
 ·refine Uc (fun M s=> ∃(a:Int),s=(ofG 15 (kBJ l (kAn (l.length:Int) a [])),[])/\zH l M a=some d) ?_ (m:=N) ⟨_,rfl,g2⟩
  rintro M s ⟨a,rfl,g2⟩
  cases M with
  |zero=>simp only[zH]at g2;cases g2
  |succ M=>
   rw[zH]at g2
   refine sh fol (kBJ l (kAn (l.length:Int) a (kBX (decide (a<(l.length:Int)))))) ?_
   refine sq ?_
   refine ihD g2 (fun f g2=>?_) (fun f g2=>?_)
   ·refine Goes.skip ?_
    refine sq (Goes.block ?_)
    obtain⟨c,b,g2⟩:=bnd g2
    refine sq (gr fol [0,1] ((4,.i c)::(kBJ l (kAn (l.length:Int) a []))) (ac (iv sl99 encI b) (ac (lv 0 ce25 encI b rfl) az)) ?_)
    refine sh fol ((4,.i c)::(kBJ l (kAn (l.length:Int) a (kBM (!decide (c=0)))))) ?_
    refine ihB g2 (fun g g2=>?_) (fun g g2=>?_)
    ·refine sh fol (kBB c) ?_
     refine Goes.ret ?_
     obtain rfl:=si g2
     exact Or.inr (⟨rfl,_,rfl,(gw2 [.i c] (Ua tI))⟩)
    refine Goes.skip ?_
    refine gh fol (kBJ l (kAn (l.length:Int) (w64 (a+1)) [])) ?_
    exact⟨M,(ofG 15 (kBJ l (kAn (l.length:Int) (w64 (a+1)) [])),[]),Nat.lt_succ_self _,(Sub.refl _),_,rfl,g2⟩
   refine Goes.exit ?_
   obtain rfl:=si g2
   exact Or.inl (⟨rfl,rfl,(Sub.keep [] rfl rfl)⟩)
 rintro x s' (⟨rfl,rfl,hsub⟩|⟨rfl,j,rfl,hret⟩)
 ·try dsimp only at h
  refine Goes.sub hsub ?_
  refine sh fol [(2,.i 0)] ?_
  refine Goes.ret ?_
  obtain rfl:=si h
  exact(gw2 [.i 0] (Ua tI))
 try dsimp only at h
 obtain rfl:=si h
 exact hret
def kL (holds:Bool) (e:Int):Option Int:=
 if holds=true then
 some e
 else
 some 0
theorem y8 (holds:Bool) (e:Int) {res:Int} (h:kL holds e=some res):qb ZT (.fn 33) [.bool holds,.i e] [] (.i res) []:=by
 unfold kL at h
 refine Ub Tryz.func33 rfl rfl (m:=7) rfl (rs:=[.tmp 4]) rfl (l:=[(0,.bool holds),(1,.i e)]) rfl ?_
 refine sh fol [(0,.bool holds),(1,.i e)] ?_
 refine sq ?_
 refine sh fol [(1,.i e),(5,.bool holds)] ?_
 refine ihB h (fun a h=>?_) (fun a h=>?_)
 ·refine sh fol [(4,.i e)] ?_
  refine Goes.ret ?_
  obtain rfl:=si h
  exact(gw2 [.i e] (Ua tI))
 refine Goes.skip ?_
 refine sh fol [(4,.i 0)] ?_
 refine Goes.ret ?_
 obtain rfl:=si h
 exact(gw2 [.i 0] (Ua tI))
def qb6 (n:Int):Option Int:=
 if n<0 then
 some (IntKind.wrap .u64 (w64 (0-n)))
 else
 some (IntKind.wrap .u64 n)
theorem qea (n:Int) {res:Int} (h:qb6 n=some res):qb ZT (.fn 125) [.i n] [] (.int .u64 res) []:=by
 unfold qb6 at h
 refine Ub Tryz.func125 rfl rfl (m:=10) rfl (rs:=[.tmp 2]) rfl (l:=[(0,.i n)]) rfl ?_
 refine sh fol [(0,.i n)] ?_
 refine sq ?_
 refine sh fol ((0,.i n)::(kA6 (decide (n<0)))) ?_
 refine ihD h (fun a h=>?_) (fun a h=>?_)
 ·refine sh fol [(2,.int .u64 (IntKind.wrap .u64 (w64 (0-n))))] ?_
  refine Goes.ret ?_
  obtain rfl:=si h
  exact(gw2 [.int .u64 (IntKind.wrap .u64 (w64 (0-n)))] (Ua tI))
 refine Goes.skip ?_
 refine sh fol [(2,.int .u64 (IntKind.wrap .u64 n))] ?_
 refine Goes.ret ?_
 obtain rfl:=si h
 exact(gw2 [.int .u64 (IntKind.wrap .u64 n)] (Ua tI))
def qK (a:qj):Option (Bool×(List Int)):=
 if(!a.w.isEmpty)=true then
 some (decide (a.s<0),a.w)
 else
 if a.s=0 then
 some (false,[])
 else
 (qb6 a.s).bind fun b=>
 some (decide (a.s<0),[b])
theorem zM (a:qj) {res:Bool×(List Int)} (h:qK a=some res):qb ZT (.fn 107) [.agg (nz1 a)] [] (.tuple [.bool res.1,vl (qa .u64) res.2]) []:=by
 unfold qK at h
 refine Ub Tryz.func107 rfl rfl (m:=24) rfl (rs:=[.tmp 2,.tmp 3]) rfl (l:=[(0,.agg (nz1 a))]) rfl ?_
 refine sg fol (kAY []) [.cells (nz1 a)] ?_
 refine sq (Goes.block ?_)
 refine sq (gr fol [2] (kAY (kA6 (!a.w.isEmpty))) (ac (hs (.done (.opt (ko ZT .neq 53 (.tmp 6) (.const (.slice none 0 0)) (nvl (qa .u64) a.w) .nilslice)) (.bool (!a.w.isEmpty))) (ne_nv qaw)) az) ?_)
 refine ihB h (fun c h=>?_) (fun c h=>?_)
 ·refine sh fol [(2,.bool (decide (a.s<0))),(3,nvl (qa .u64) a.w)] ?_
  refine Goes.ret ?_
  obtain rfl:=si h
  exact(gw2 [.bool (decide (a.s<0)),nvl (qa .u64) a.w] (FzW.tuple (qc.cons (Ua tB) (qc.cons (FzW.nvL (E:=(qa .u64)) (nl rfl)) qc.nil))))
 refine sh fol (kAY (kBU (decide (a.s=0)))) ?_
 refine ihD h (fun d h=>?_) (fun d h=>?_)
 ·refine sh fol [(2,.bool false),(3,.nilslice)] ?_
  refine Goes.ret ?_
  obtain rfl:=si h
  exact(gw2 [.bool false,.nilslice] (FzW.tuple (qc.cons (Ua tB) (qc.cons (FzW.nilv (E:=(qa .u64))) qc.nil))))
 refine Goes.skip ?_
 obtain⟨e,b,h⟩:=bnd h
 refine sq (gq fol [5] [(2,.bool (decide (a.s<0))),(3,.slice 1 0 1 1 1)] [.cells (nz1 a),.cells [.int .u64 e]] (ac (cv (qea a.s b)) az) ?_)
 refine Goes.ret ?_
 obtain rfl:=si h
 exact(gw2 [.bool (decide (a.s<0)),.slice 1 0 1 1 1] (FzW.tuple (qc.cons (Ua tB) (qc.cons (FzW.fz (Fz.lit rfl rfl (Ue (AllST.cons tI AllST.nil)))) qc.nil))))
def vC (neg:Bool) (w:List Int):Option qj:=
 if(w.length:Int)=0 then
 some (⟨0,[]⟩:qj)
 else
 (if(w.length:Int)=1 then
 (idx w 0).bind fun d=>
 if d<=9223372036854775807 then
 some neg
 else
 some false
 else
 some false:Option Bool).bind fun e=>
 if e=true then
 (idx w 0).bind fun f=>
 some (⟨w64 (0-(w64 f)),[]⟩:qj)
 else
 (if(w.length:Int)=1 then
 (idx w 0).bind fun a=>
 some (decide (a<=9223372036854775807))
 else
 some false:Option Bool).bind fun b=>
 if b=true then
 (idx w 0).bind fun c=>
 some (⟨w64 c,[]⟩:qj)
 else
 if neg=true then
 some (⟨(-1),w⟩:qj)
 else
 some (⟨1,w⟩:qj)
theorem xR (neg:Bool) (w:List Int) {res:qj} (h:vC neg w=some res):qb ZT (.fn 108) [.bool neg,vl (qa .u64) w] [] (.agg (nz1 res)) []:=by
 unfold vC at h
 refine Ub Tryz.func108 rfl rfl (m:=50) rfl (rs:=[.cell 4 55]) rfl (l:=[(0,.bool neg),(1,vl (qa .u64) w)]) rfl ?_
 refine sg fol ((0,.bool neg)::(1,vl (qa .u64) w)::(kAd [])) [bZ] ?_
 refine sq (Goes.block ?_)
 refine sh fol ((0,.bool neg)::(1,vl (qa .u64) w)::(kAd [(5,.bool (decide ((w.length:Int)=0)))])) ?_
 refine ihD h (fun t h=>?_) (fun t h=>?_)
 ·refine sh fol (kAd []) ?_
  refine Goes.ret ?_
  obtain rfl:=si h
  exact(gw2 [.agg [.i 0,.nilslice]] (FzW.agg (qc.cons (Ua tI) (qc.cons (FzW.nv0 (E:=(qa .u64))) qc.nil))))
 refine sq ?_
 obtain⟨u,a,h⟩:=bnd h
 refine Goes.cut (s':=(ofG 50 ((0,.bool neg)::(1,vl (qa .u64) w)::(kAd [(10,.bool u)])),[bZ])) ?_ ?_
 ·rcases wyD a with⟨j,a⟩|⟨j,a⟩
  ·obtain⟨x,c,a⟩:=bnd a
   rcases wyD a with⟨k,a⟩|⟨k,a⟩
   ·obtain rfl:=si a
    exact tr fol [3,5,6,9] ((0,.bool neg)::(1,vl (qa .u64) w)::(kAd [(10,.bool neg)])) (ac (gw j) (ac (iv zN (qa .u64) c) (ac (lv 0 zW (qa .u64) c rfl) (ac (gw k) az))))
   obtain rfl:=si a
   exact tr fol [3,5,6,9] ((0,.bool neg)::(1,vl (qa .u64) w)::(kAd [(10,.bool false)])) (ac (gw j) (ac (iv zN (qa .u64) c) (ac (lv 0 zW (qa .u64) c rfl) (ac (gw k) az))))
  obtain rfl:=si a
  exact tr fol [3] ((0,.bool neg)::(1,vl (qa .u64) w)::(kAd [(10,.bool false)])) (ac (gw j) az)
 refine ihB h (fun v h=>?_) (fun v h=>?_)
 ·obtain⟨s,f,h⟩:=bnd h
  refine sq (gq fol [1,2] (kAd []) (kA2 (w64 (0-(w64 s)))) (ac (iv zN (qa .u64) f) (ac (lv 0 zW (qa .u64) f rfl) az)) ?_)
  refine Goes.ret ?_
  obtain rfl:=si h
  exact(gw2 [.agg [.i (w64 (0-(w64 s))),.nilslice]] (FzW.agg (qc.cons (Ua tI) (qc.cons (FzW.nv0 (E:=(qa .u64))) qc.nil))))
 refine sq ?_
 obtain⟨n,b,h⟩:=bnd h
 refine Goes.cut (s':=(ofG 50 ((0,.bool neg)::(1,vl (qa .u64) w)::(kAd [(29,.bool n)])),[bZ])) ?_ ?_
 ·rcases wyD b with⟨o,b⟩|⟨o,b⟩
  ·obtain⟨p,d,b⟩:=bnd b
   obtain rfl:=si b
   exact tr fol [3,5,6] ((0,.bool neg)::(1,vl (qa .u64) w)::(kAd [(29,.bool (decide (p<=9223372036854775807)))])) (ac (gw o) (ac (iv zN (qa .u64) d) (ac (lv 0 zW (qa .u64) d rfl) az)))
  obtain rfl:=si b
  exact tr fol [3] ((0,.bool neg)::(1,vl (qa .u64) w)::(kAd [(29,.bool false)])) (ac (gw o) az)
 refine ihB h (fun q h=>?_) (fun q h=>?_)
 ·obtain⟨g,e,h⟩:=bnd h
  refine sq (gq fol [1,2] (kAd []) (kA2 (w64 g)) (ac (iv zN (qa .u64) e) (ac (lv 0 zW (qa .u64) e rfl) az)) ?_)
  refine Goes.ret ?_
  obtain rfl:=si h
  exact(gw2 [.agg [.i (w64 g),.nilslice]] (FzW.agg (qc.cons (Ua tI) (qc.cons (FzW.nv0 (E:=(qa .u64))) qc.nil))))
 refine sh fol ((1,vl (qa .u64) w)::(kAd [(44,.bool neg)])) ?_
 refine ihB h (fun r h=>?_) (fun r h=>?_)
 ·refine sg fol (kAd []) [.cells [.i (-1),vl (qa .u64) w]] ?_
  refine Goes.ret ?_
  obtain rfl:=si h
  exact(gw2 [.agg [.i (-1),vl (qa .u64) w]] (FzW.agg (qc.cons (Ua tI) (qc.cons (FzW.Lnv (E:=(qa .u64)) (by first|omega|(simp only[decide_eq_false_iff_not,decide_eq_true_eq]at*;omega)) (nl rfl)) qc.nil))))
 refine Goes.skip ?_
 refine sg fol (kAd []) [.cells [.i 1,vl (qa .u64) w]] ?_
 refine Goes.ret ?_
 obtain rfl:=si h
 exact(gw2 [.agg [.i 1,vl (qa .u64) w]] (FzW.agg (qc.cons (Ua tI) (qc.cons (FzW.Lnv (E:=(qa .u64)) (by first|omega|(simp only[decide_eq_false_iff_not,decide_eq_true_eq]at*;omega)) (nl rfl)) qc.nil))))
def qal (w:List Int):Nat->Int->Option Int
 |0,_=>none
 |K+1,a=>
  (if a>0 then
  (idx w (w64 (a-1))).bind fun b=>
  some (decide (b=0))
  else
  some false:Option Bool).bind fun c=>
  if c=true then
  qal w K (w64 (a-1))
  else
  some a
def yY (N:Nat) (w:List Int):Option (List Int):=
 (qal w N (w.length:Int)).bind fun a=>
 (cut w 0 a).bind fun b=>
 some b
theorem xh (N:Nat) (w:List Int) {res:List Int} (h:yY N w=some res):qb ZT (.fn 141) [vl (qa .u64) w] [] (vl (qa .u64) res) []:=by
 unfold yY at h
 refine Ub Tryz.func141 rfl rfl (m:=21) rfl (rs:=[.tmp 2]) rfl (l:=[(0,vl (qa .u64) w)]) rfl ?_
 refine sh fol [(0,vl (qa .u64) w)] ?_
 refine sh fol [(0,vl (qa .u64) w),(3,.i (w.length:Int))] ?_
 refine sq (Goes.block ?_)
 obtain⟨j,g3,h⟩:=bnd h
 refine Goes.imp (Q:=fun x s'=>(x= .exit 0/\ ∃d,d=j/\Sub s' (ofG 21 [(0,vl (qa .u64) w),(3,.i d)],[]))) ?_ ?_
 ·refine Uc (fun M s=> ∃(b:Int),s=(ofG 21 [(0,vl (qa .u64) w),(3,.i b)],[])/\qal w M b=some j) ?_ (m:=N) ⟨_,rfl,g3⟩
  rintro M s ⟨b,rfl,g3⟩
  cases M with
  |zero=>simp only[qal]at g3;cases g3
  |succ M=>
   rw[qal]at g3
   refine sq ?_
   refine sq ?_
   obtain⟨k,a,g3⟩:=bnd g3
   refine Goes.cut (s':=(ofG 21 [(0,vl (qa .u64) w),(3,.i b),(15,.bool k)],[])) ?_ ?_
   ·rcases wyD a with⟨f,a⟩|⟨f,a⟩
    ·obtain⟨n,c,a⟩:=bnd a
     obtain rfl:=si a
     exact tr fol [2,6,7] [(0,vl (qa .u64) w),(3,.i b),(15,.bool (decide (n=0)))] (ac (gw f) (ac (iv zN (qa .u64) c) (ac (lv 0 zW (qa .u64) c rfl) az)))
    obtain rfl:=si a
    exact tr fol [2] [(0,vl (qa .u64) w),(3,.i b),(15,.bool false)] (ac (gw f) az)
   refine ihB g3 (fun o g3=>?_) (fun o g3=>?_)
   ·refine Goes.skip ?_
    refine Goes.block ?_
    refine gh fol [(0,vl (qa .u64) w),(3,.i (w64 (b-1)))] ?_
    exact⟨M,(ofG 21 [(0,vl (qa .u64) w),(3,.i (w64 (b-1)))],[]),Nat.lt_succ_self _,(Sub.refl _),_,rfl,g3⟩
   refine Goes.exit ?_
   obtain rfl:=si g3
   exact⟨rfl,_,rfl,(Sub.keep [0,3] rfl rfl)⟩
 rintro x s' ⟨rfl,d,rfl,hsub⟩
 refine Goes.sub hsub ?_
 obtain⟨g,e,h⟩:=bnd h
 refine sq (gr fol [2] [(2,vl (qa .u64) g)] (ac (hs (.done (.opt (qV ZT 53 (vl (qa .u64) w) none (some (.i d)) none)) (vl (qa .u64) g)) (qma zN (E:=(qa .u64)) rfl none (some d) e)) az) ?_)
 refine Goes.ret ?_
 obtain rfl:=si h
 exact(gw2 [vl (qa .u64) g] (Ua (qx (qa .u64) _ (nl rfl))))
def jc (c:List Int) (d:List Int):Nat->(List Int)->Int->Int->Option ((List Int)×Int)
 |0,_,_,_=>none
 |K+1,e,a,j=>
  if a<(c.length:Int)then
  ((if a<(d.length:Int)then
  (idx d a).bind fun f=>
  some f
  else
  some 0:Option Int)).bind fun g=>
  (idx c a).bind fun h=>
  (xQ h g j).bind fun b=>
  (idx e a).bind fun k=>
  (put e a b.1).bind fun i=>
  jc c d K i (w64 (a+1)) b.2
  else
  some (e,j)
def qau (N:Nat) (b:List Int) (y:List Int):Option (List Int):=
 ((if(b.length:Int)<(y.length:Int)then
 some (y,b)
 else
 some (b,y):Option ((List Int)×(List Int)))).bind fun(a,g)=>
 (mk 8 (w64 ((a.length:Int)+1)) 0).bind fun h=>
 (jc a g N h 0 0).bind fun(f,c)=>
 (idx f (a.length:Int)).bind fun i=>
 (put f (a.length:Int) c).bind fun d=>
 (yY N d).bind fun e=>
 some e
theorem qgf (N:Nat) (B:List Int) (y:List Int) {res:List Int} (h:qau N B y=some res):qb ZT (.fn 109) [vl (qa .u64) B,vl (qa .u64) y] [] (vl (qa .u64) res) []:=by
 unfold qau at h
 refine Ub Tryz.func109 rfl rfl (m:=54) rfl (rs:=[.tmp 4]) rfl (l:=[(0,vl (qa .u64) B),(1,vl (qa .u64) y)]) rfl ?_
 refine sh fol [(0,vl (qa .u64) B),(1,vl (qa .u64) y)] ?_
 refine sq ?_
 refine sh fol ((0,vl (qa .u64) B)::(1,vl (qa .u64) y)::(kBU (decide ((B.length:Int)<(y.length:Int))))) ?_
 obtain⟨P,g3,h⟩:=bnd h
 refine Goes.imp (Q:=fun x s'=>(x= .normal/\ ∃a e,(a,e)=P/\Sub s' (ofG 54 [(0,vl (qa .u64) a),(1,vl (qa .u64) e)],[]))) ?_ ?_
 ·refine ihD g3 (fun U g3=>?_) (fun U g3=>?_)
  ·refine gh fol [(0,vl (qa .u64) y),(1,vl (qa .u64) B)] ?_
   obtain rfl:=si g3
   exact⟨rfl,_,_,rfl,(Sub.refl _)⟩
  refine Goes.skip ?_
  obtain rfl:=si g3
  exact⟨rfl,_,_,rfl,(Sub.keep [0,1] rfl rfl)⟩
 rintro x s' ⟨rfl,a,e,rfl,hsub⟩
 try dsimp only at h
 refine Goes.sub hsub ?_
 obtain⟨C,G,h⟩:=bnd h
 refine sq (gq fol [3] ((0,vl (qa .u64) a)::(1,vl (qa .u64) e)::(kF C [])) [.cells (C.flatMap (qa .u64).c)] (ac (hs (.run [] (jd ZT 53 (.i (w64 ((a.length:Int)+1))) (.i (w64 ((a.length:Int)+1)))) [] (.slice 0 0 C.length C.length 1) [.cells (C.flatMap (qa .u64).c)] false) (qcB zN (E:=(qa .u64)) (z:=0) rfl (by kernel_rfl) G rfl)) az) ?_)
 refine sh fol ((0,vl (qa .u64) a)::(1,vl (qa .u64) e)::(kF C [(6,.int .u64 0)])) ?_
 refine sq ?_
 refine sh fol ((0,vl (qa .u64) a)::(1,vl (qa .u64) e)::(kF C [(6,.int .u64 0),(21,.i (a.length:Int)),(22,.i 0)])) ?_
 refine Goes.block ?_
 obtain⟨H,g11,h⟩:=bnd h
 refine Goes.imp (Q:=fun x s'=>(x= .exit 0/\ ∃v k,(v,k)=H/\Sub s' (ofG 54 ((0,vl (qa .u64) a)::(kF v (kAP k []))),[.cells (v.flatMap (qa .u64).c)]))) ?_ ?_
 ·refine Uc (fun M s=> ∃(f:List Int) (d:Int) (w:Int),s=(ofG 54 ((0,vl (qa .u64) a)::(1,vl (qa .u64) e)::(kF f (kAP w (kAH (a.length:Int) d [])))),[.cells (f.flatMap (qa .u64).c)])/\jc a e M f d w=some H) ?_ (m:=N) ⟨_,_,_,rfl,g11⟩
  rintro M s ⟨f,d,w,rfl,g11⟩
  cases M with
  |zero=>simp only[jc]at g11;cases g11
  |succ M=>
   rw[jc]at g11
   refine sh fol ((0,vl (qa .u64) a)::(1,vl (qa .u64) e)::(kF f (kAP w (kAH (a.length:Int) d [(23,.bool (decide (d<(a.length:Int))))])))) ?_
   refine sq ?_
   refine ihD g11 (fun I g11=>?_) (fun I g11=>?_)
   ·refine Goes.skip ?_
    refine sq (Goes.block ?_)
    refine sh fol ((0,vl (qa .u64) a)::(1,vl (qa .u64) e)::(kF f (kAP w ((7,.i d)::(kAH (a.length:Int) d []))))) ?_
    refine sh fol ((0,vl (qa .u64) a)::(1,vl (qa .u64) e)::(kF f (kAP w ((7,.i d)::(kBY (kAH (a.length:Int) d [])))))) ?_
    refine sq ?_
    refine sh fol ((0,vl (qa .u64) a)::(1,vl (qa .u64) e)::(kF f (kAP w ((7,.i d)::(kBY (kAH (a.length:Int) d [(28,.bool (decide (d<(e.length:Int))))])))))) ?_
    obtain⟨J,g14,g11⟩:=bnd g11
    refine Goes.imp (Q:=fun x s'=>(x= .normal/\ ∃A,A=J/\Sub s' (ofG 54 ((0,vl (qa .u64) a)::(1,vl (qa .u64) e)::(kF f (kAP w ((7,.i d)::(8,.int .u64 A)::(kAH (a.length:Int) d []))))),[.cells (f.flatMap (qa .u64).c)]))) ?_ ?_
    ·refine ihD g14 (fun K g14=>?_) (fun K g14=>?_)
     ·obtain⟨L,n,g14⟩:=bnd g14
      refine gr fol [2,3] ((0,vl (qa .u64) a)::(1,vl (qa .u64) e)::(kF f (kAP w ((7,.i d)::(8,.int .u64 L)::(kAH (a.length:Int) d []))))) (ac (iv zN (qa .u64) n) (ac (lv 0 zW (qa .u64) n rfl) az)) ?_
      obtain rfl:=si g14
      exact⟨rfl,_,rfl,(Sub.refl _)⟩
     refine Goes.skip ?_
     obtain rfl:=si g14
     exact⟨rfl,_,rfl,(Sub.keep [0,1,5,6,7,8,21,22] rfl rfl)⟩
    rintro x s' ⟨rfl,A,rfl,hsub⟩
    refine Goes.sub hsub ?_
    obtain⟨O,o,g11⟩:=bnd g11
    obtain⟨j,D,g11⟩:=bnd g11
    obtain⟨V,p,g11⟩:=bnd g11
    obtain⟨g,q,g11⟩:=bnd g11
    refine gq fol [4,5,8,12,13] ((0,vl (qa .u64) a)::(1,vl (qa .u64) e)::(kF f (kAP j.2 (kAH (a.length:Int) d [])))) [.cells (g.flatMap (qa .u64).c)] (ac (iv zN (qa .u64) o) (ac (lv 0 zW (qa .u64) o rfl) (ac (cv (qca O A w D)) (ac (hs (.done (.opt (qg ZT 53 (.slice 0 0 f.length f.length 1) (.i d))) (.ptr 0 ((d:Int).toNat*1+0))) (qaf zN p)) (ac (hs (.run [0] (qp ZT 146 (.ptr 0 ((d:Int).toNat*1+0)) (.int .u64 j.1)) [.cells (f.flatMap (qa .u64).c)] .undef [.cells (g.flatMap (qa .u64).c)] true) (xP (E:=(qa .u64)) (l:=f) (y:=j.1) rfl (show _=some 1 by kernel_rfl) rfl p rfl rfl rfl rfl rfl q rfl)) az))))) ?_
    refine Goes.sub (show Sub (ofG 54 ((0,vl (qa .u64) a)::(1,vl (qa .u64) e)::(kF f (kAP j.2 (kAH (a.length:Int) d [])))),[.cells (g.flatMap (qa .u64).c)]) (ofG 54 ((0,vl (qa .u64) a)::(1,vl (qa .u64) e)::(kF g (kAP j.2 (kAH (a.length:Int) d [])))),[.cells (g.flatMap (qa .u64).c)])from(Sub.norm [] [some 0] rfl rfl (.keep (.same (qd (qa .u64) _)) (.keep (.same (qd (qa .u64) _)) (.keep (.sliceE rfl (vG q)) (.keep (.same nI) (.keep (.same nI) (.keep (.same nI) .nil)))))) (.ks .nil))) ?_
    refine gh fol ((0,vl (qa .u64) a)::(1,vl (qa .u64) e)::(kF g (kAP j.2 (kAH (a.length:Int) (w64 (d+1)) [])))) ?_
    exact⟨M,(ofG 54 ((0,vl (qa .u64) a)::(1,vl (qa .u64) e)::(kF g (kAP j.2 (kAH (a.length:Int) (w64 (d+1)) [])))),[.cells (g.flatMap (qa .u64).c)]),Nat.lt_succ_self _,(Sub.refl _),_,_,_,rfl,g11⟩
   refine Goes.exit ?_
   obtain rfl:=si g11
   exact⟨rfl,_,_,rfl,(Sub.keep [0,5,6] rfl rfl)⟩
 rintro x s' ⟨rfl,v,k,rfl,hsub⟩
 try dsimp only at h
 refine Goes.sub hsub ?_
 obtain⟨X,r,h⟩:=bnd h
 obtain⟨b,t,h⟩:=bnd h
 refine sq (gq fol [4,5] (kF v []) [.cells (b.flatMap (qa .u64).c)] (ac (hs (.done (.opt (qg ZT 53 (.slice 0 0 v.length v.length 1) (.i (a.length:Int)))) (.ptr 0 (((a.length:Int):Int).toNat*1+0))) (qaf zN r)) (ac (hs (.run [0] (qp ZT 146 (.ptr 0 (((a.length:Int):Int).toNat*1+0)) (.int .u64 k)) [.cells (v.flatMap (qa .u64).c)] .undef [.cells (b.flatMap (qa .u64).c)] true) (xP (E:=(qa .u64)) (l:=v) (y:=k) rfl (show _=some 1 by kernel_rfl) rfl r rfl rfl rfl rfl rfl t rfl)) az)) ?_)
 refine Goes.sub (show Sub (ofG 54 (kF v []),[.cells (b.flatMap (qa .u64).c)]) (ofG 54 (kF b []),[.cells (b.flatMap (qa .u64).c)])from(Sub.norm [] [some 0] rfl rfl (.keep (.sliceE rfl (vG t)) .nil) (.ks .nil))) ?_
 obtain⟨u,F,h⟩:=bnd h
 refine sq (gq fol [1] [(4,vl (qa .u64) u)] [.frozen (b.flatMap (qa .u64).c)] (ac (hs (.callF 141 [.slice 0 0 b.length b.length 1] [.cells (b.flatMap (qa .u64).c)] [0] [vl (qa .u64) b] (vl (qa .u64) u)) (vZ (FzL.cons (Fz.sl (E:=(qa .u64)) rfl rfl (nl rfl)) FzL.nil) (xh N b F) (qx (qa .u64) _ (nl rfl)))) az) ?_)
 refine Goes.sub (show Sub (ofG 54 [(4,vl (qa .u64) u)],[.frozen (b.flatMap (qa .u64).c)]) (ofG 54 [(4,vl (qa .u64) u)],[])from(Sub.norm [] [] rfl rfl (.keep (.same (qd (qa .u64) _)) .nil) .nil)) ?_
 refine Goes.ret ?_
 obtain rfl:=si h
 exact(gw2 [vl (qa .u64) u] (Ua (qx (qa .u64) _ (nl rfl))))
def zo (a:List Int) (b:List Int):Nat->Int->Option (Unit⊕Int)
 |0,_=>none
 |K+1,c=>
  if c>=0 then
  (idx a c).bind fun d=>
  (idx b c).bind fun e=>
  if(!decide (d=e))=true then
  if d<e then
  some (.inr (-1))
  else
  some (.inr 1)
  else
  zo a b K (w64 (c-1))
  else
  some (.inl ())
def jL (N:Nat) (a:List Int) (b:List Int):Option Int:=
 if(!decide ((a.length:Int)=(b.length:Int)))=true then
 if(a.length:Int)<(b.length:Int)then
 some (-1)
 else
 some 1
 else
 (zo a b N (w64 ((a.length:Int)-1))).bind (fun
 |(.inl ())=>
 some 0
 |(.inr c)=>
 some c)
theorem qbE (N:Nat) (a:List Int) (b:List Int) {res:Int} (h:jL N a b=some res):qb ZT (.fn 110) [vl (qa .u64) a,vl (qa .u64) b] [] (.i res) []:=by
 unfold jL at h
 refine Ub Tryz.func110 rfl rfl (m:=41) rfl (rs:=[.tmp 4]) rfl (l:=[(0,vl (qa .u64) a),(1,vl (qa .u64) b)]) rfl ?_
 refine sh fol [(0,vl (qa .u64) a),(1,vl (qa .u64) b)] ?_
 refine sq ?_
 refine sh fol [(0,vl (qa .u64) a),(1,vl (qa .u64) b),(10,.bool (!decide ((a.length:Int)=(b.length:Int))))] ?_
 refine ihB h (fun o h=>?_) (fun o h=>?_)
 ·refine sq ?_
  refine sh fol [(15,.bool (decide ((a.length:Int)<(b.length:Int))))] ?_
  refine ihD h (fun p h=>?_) (fun p h=>?_)
  ·refine sh fol [(4,.i (-1))] ?_
   refine Goes.ret ?_
   obtain rfl:=si h
   exact(gw2 [.i (-1)] (Ua tI))
  refine Goes.skip ?_
  refine sh fol [(4,.i 1)] ?_
  refine Goes.ret ?_
  obtain rfl:=si h
  exact(gw2 [.i 1] (Ua tI))
 refine Goes.skip ?_
 refine sq ?_
 refine sh fol ((0,vl (qa .u64) a)::(1,vl (qa .u64) b)::(kA4 (w64 ((a.length:Int)-1)))) ?_
 refine Goes.block ?_
 obtain⟨f,g4,h⟩:=bnd h
 refine Goes.imp (Q:=fun x s'=>(x= .exit 0/\(.inl ())=f/\Sub s' (ofG 41 [],[]))\/(x= .ret/\ ∃j,(.inr j)=f/\yj ZT [.tmp 4] (.i j) .ret s')) ?_ ?_
 ·refine Uc (fun M s=> ∃(e:Int),s=(ofG 41 ((0,vl (qa .u64) a)::(1,vl (qa .u64) b)::(kA4 e)),[])/\zo a b M e=some f) ?_ (m:=N) ⟨_,rfl,g4⟩
  rintro M s ⟨e,rfl,g4⟩
  cases M with
  |zero=>simp only[zo]at g4;cases g4
  |succ M=>
   rw[zo]at g4
   refine sq ?_
   refine sh fol [(0,vl (qa .u64) a),(1,vl (qa .u64) b),(5,.i e),(20,.bool (decide (e>=0)))] ?_
   refine ihD g4 (fun q g4=>?_) (fun q g4=>?_)
   ·refine Goes.skip ?_
    refine sq (Goes.block ?_)
    obtain⟨k,c,g4⟩:=bnd g4
    obtain⟨n,d,g4⟩:=bnd g4
    refine sq (gr fol [2,3,6,7] [(0,vl (qa .u64) a),(1,vl (qa .u64) b),(5,.i e),(31,.bool (!decide (k=n)))] (ac (iv zN (qa .u64) c) (ac (lv 0 zW (qa .u64) c rfl) (ac (iv zN (qa .u64) d) (ac (lv 0 zW (qa .u64) d rfl) az)))) ?_)
    refine ihB g4 (fun r g4=>?_) (fun r g4=>?_)
    ·refine sq ?_
     refine sq (gr fol [2,3,6,7] [(40,.bool (decide (k<n)))] (ac (iv zN (qa .u64) c) (ac (lv 0 zW (qa .u64) c rfl) (ac (iv zN (qa .u64) d) (ac (lv 0 zW (qa .u64) d rfl) az)))) ?_)
     refine ihD g4 (fun g g4=>?_) (fun g g4=>?_)
     ·refine sh fol [(4,.i (-1))] ?_
      refine Goes.ret ?_
      obtain rfl:=si g4
      exact Or.inr (⟨rfl,_,rfl,(gw2 [.i (-1)] (Ua tI))⟩)
     refine Goes.skip ?_
     refine sh fol [(4,.i 1)] ?_
     refine Goes.ret ?_
     obtain rfl:=si g4
     exact Or.inr (⟨rfl,_,rfl,(gw2 [.i 1] (Ua tI))⟩)
    refine Goes.skip ?_
    refine gh fol ((0,vl (qa .u64) a)::(1,vl (qa .u64) b)::(kA4 (w64 (e-1)))) ?_
    exact⟨M,(ofG 41 ((0,vl (qa .u64) a)::(1,vl (qa .u64) b)::(kA4 (w64 (e-1)))),[]),Nat.lt_succ_self _,(Sub.refl _),_,rfl,g4⟩
   refine Goes.exit ?_
   obtain rfl:=si g4
   exact Or.inl (⟨rfl,rfl,(Sub.keep [] rfl rfl)⟩)
 rintro x s' (⟨rfl,rfl,hsub⟩|⟨rfl,t,rfl,hret⟩)
 ·try dsimp only at h
  refine Goes.sub hsub ?_
  refine sh fol [(4,.i 0)] ?_
  refine Goes.ret ?_
  obtain rfl:=si h
  exact(gw2 [.i 0] (Ua tI))
 try dsimp only at h
 obtain rfl:=si h
 exact hret
def jF (c:List Int) (y:List Int):Nat->(List Int)->Int->Int->Option (List Int)
 |0,_,_,_=>none
 |K+1,d,a,h=>
  if a<(c.length:Int)then
  ((if a<(y.length:Int)then
  (idx y a).bind fun e=>
  some e
  else
  some 0:Option Int)).bind fun i=>
  (idx c a).bind fun f=>
  (qdY f i h).bind fun b=>
  (idx d a).bind fun j=>
  (put d a b.1).bind fun g=>
  jF c y K g (w64 (a+1)) b.2
  else
  some d
def yG (N:Nat) (b:List Int) (y:List Int):Option (List Int):=
 (mk 8 (b.length:Int) 0).bind fun c=>
 (jF b y N c 0 0).bind fun d=>
 (yY N d).bind fun a=>
 some a
theorem qdy (N:Nat) (a:List Int) (y:List Int) {res:List Int} (h:yG N a y=some res):qb ZT (.fn 111) [vl (qa .u64) a,vl (qa .u64) y] [] (vl (qa .u64) res) []:=by
 unfold yG at h
 refine Ub Tryz.func111 rfl rfl (m:=41) rfl (rs:=[.tmp 4]) rfl (l:=[(0,vl (qa .u64) a),(1,vl (qa .u64) y)]) rfl ?_
 refine sh fol [(0,vl (qa .u64) a),(1,vl (qa .u64) y)] ?_
 obtain⟨r,v,h⟩:=bnd h
 refine sq (gq fol [2] ((0,vl (qa .u64) a)::(1,vl (qa .u64) y)::(kF r [])) [.cells (r.flatMap (qa .u64).c)] (ac (hs (.run [] (jd ZT 53 (.i (a.length:Int)) (.i (a.length:Int))) [] (.slice 0 0 r.length r.length 1) [.cells (r.flatMap (qa .u64).c)] false) (qcB zN (E:=(qa .u64)) (z:=0) rfl (by kernel_rfl) v rfl)) az) ?_)
 refine sh fol ((0,vl (qa .u64) a)::(1,vl (qa .u64) y)::(kF r [(6,.int .u64 0)])) ?_
 refine sq ?_
 refine sh fol ((0,vl (qa .u64) a)::(1,vl (qa .u64) y)::(kF r [(6,.int .u64 0),(13,.i (a.length:Int)),(14,.i 0)])) ?_
 refine Goes.block ?_
 obtain⟨D,g6,h⟩:=bnd h
 refine Goes.imp (Q:=fun x s'=>(x= .exit 0/\ ∃g,g=D/\Sub s' (ofG 41 (kF g []),[.cells (g.flatMap (qa .u64).c)]))) ?_ ?_
 ·refine Uc (fun M s=> ∃(d:List Int) (b:Int) (q:Int),s=(ofG 41 ((0,vl (qa .u64) a)::(1,vl (qa .u64) y)::(kF d (kAP q (kAS (a.length:Int) b)))),[.cells (d.flatMap (qa .u64).c)])/\jF a y M d b q=some D) ?_ (m:=N) ⟨_,_,_,rfl,g6⟩
  rintro M s ⟨d,b,q,rfl,g6⟩
  cases M with
  |zero=>simp only[jF]at g6;cases g6
  |succ M=>
   rw[jF]at g6
   refine sh fol ((0,vl (qa .u64) a)::(1,vl (qa .u64) y)::(kF d (kAP q [(13,.i (a.length:Int)),(14,.i b),(15,.bool (decide (b<(a.length:Int))))]))) ?_
   refine sq ?_
   refine ihD g6 (fun F g6=>?_) (fun F g6=>?_)
   ·refine Goes.skip ?_
    refine sq (Goes.block ?_)
    refine sh fol ((0,vl (qa .u64) a)::(1,vl (qa .u64) y)::(kF d (kAP q ((7,.i b)::(kAS (a.length:Int) b))))) ?_
    refine sh fol ((0,vl (qa .u64) a)::(1,vl (qa .u64) y)::(kF d (kAP q ((7,.i b)::(kBY (kAS (a.length:Int) b)))))) ?_
    refine sq ?_
    refine sh fol ((0,vl (qa .u64) a)::(1,vl (qa .u64) y)::(kF d (kAP q ((7,.i b)::(kBY [(13,.i (a.length:Int)),(14,.i b),(20,.bool (decide (b<(y.length:Int))))]))))) ?_
    obtain⟨G,g9,g6⟩:=bnd g6
    refine Goes.imp (Q:=fun x s'=>(x= .normal/\ ∃w,w=G/\Sub s' (ofG 41 ((0,vl (qa .u64) a)::(1,vl (qa .u64) y)::(kF d (kAP q ((7,.i b)::(8,.int .u64 w)::(kAS (a.length:Int) b))))),[.cells (d.flatMap (qa .u64).c)]))) ?_ ?_
    ·refine ihD g9 (fun A g9=>?_) (fun A g9=>?_)
     ·obtain⟨B,j,g9⟩:=bnd g9
      refine gr fol [2,3] ((0,vl (qa .u64) a)::(1,vl (qa .u64) y)::(kF d (kAP q ((7,.i b)::(8,.int .u64 B)::(kAS (a.length:Int) b))))) (ac (iv zN (qa .u64) j) (ac (lv 0 zW (qa .u64) j rfl) az)) ?_
      obtain rfl:=si g9
      exact⟨rfl,_,rfl,(Sub.refl _)⟩
     refine Goes.skip ?_
     obtain rfl:=si g9
     exact⟨rfl,_,rfl,(Sub.keep [0,1,5,6,7,8,13,14] rfl rfl)⟩
    rintro x s' ⟨rfl,w,rfl,hsub⟩
    refine Goes.sub hsub ?_
    obtain⟨C,k,g6⟩:=bnd g6
    obtain⟨f,t,g6⟩:=bnd g6
    obtain⟨H,n,g6⟩:=bnd g6
    obtain⟨e,o,g6⟩:=bnd g6
    refine gq fol [4,5,8,12,13] ((0,vl (qa .u64) a)::(1,vl (qa .u64) y)::(kF d (kAP f.2 (kAS (a.length:Int) b)))) [.cells (e.flatMap (qa .u64).c)] (ac (iv zN (qa .u64) k) (ac (lv 0 zW (qa .u64) k rfl) (ac (cv (qhj C w q t)) (ac (hs (.done (.opt (qg ZT 53 (.slice 0 0 d.length d.length 1) (.i b))) (.ptr 0 ((b:Int).toNat*1+0))) (qaf zN n)) (ac (hs (.run [0] (qp ZT 146 (.ptr 0 ((b:Int).toNat*1+0)) (.int .u64 f.1)) [.cells (d.flatMap (qa .u64).c)] .undef [.cells (e.flatMap (qa .u64).c)] true) (xP (E:=(qa .u64)) (l:=d) (y:=f.1) rfl (show _=some 1 by kernel_rfl) rfl n rfl rfl rfl rfl rfl o rfl)) az))))) ?_
    refine Goes.sub (show Sub (ofG 41 ((0,vl (qa .u64) a)::(1,vl (qa .u64) y)::(kF d (kAP f.2 (kAS (a.length:Int) b)))),[.cells (e.flatMap (qa .u64).c)]) (ofG 41 ((0,vl (qa .u64) a)::(1,vl (qa .u64) y)::(kF e (kAP f.2 (kAS (a.length:Int) b)))),[.cells (e.flatMap (qa .u64).c)])from(Sub.norm [] [some 0] rfl rfl (.keep (.same (qd (qa .u64) _)) (.keep (.same (qd (qa .u64) _)) (.keep (.sliceE rfl (vG o)) (.keep (.same nI) (.keep (.same nI) (.keep (.same nI) .nil)))))) (.ks .nil))) ?_
    refine gh fol ((0,vl (qa .u64) a)::(1,vl (qa .u64) y)::(kF e (kAP f.2 (kAS (a.length:Int) (w64 (b+1)))))) ?_
    exact⟨M,(ofG 41 ((0,vl (qa .u64) a)::(1,vl (qa .u64) y)::(kF e (kAP f.2 (kAS (a.length:Int) (w64 (b+1)))))),[.cells (e.flatMap (qa .u64).c)]),Nat.lt_succ_self _,(Sub.refl _),_,_,_,rfl,g6⟩
   refine Goes.exit ?_
   obtain rfl:=si g6
   exact⟨rfl,_,rfl,(Sub.keep [5] rfl rfl)⟩
 rintro x s' ⟨rfl,g,rfl,hsub⟩
 refine Goes.sub hsub ?_
 obtain⟨p,u,h⟩:=bnd h
 refine sq (gq fol [1] [(4,vl (qa .u64) p)] [.frozen (g.flatMap (qa .u64).c)] (ac (hs (.callF 141 [.slice 0 0 g.length g.length 1] [.cells (g.flatMap (qa .u64).c)] [0] [vl (qa .u64) g] (vl (qa .u64) p)) (vZ (FzL.cons (Fz.sl (E:=(qa .u64)) rfl rfl (nl rfl)) FzL.nil) (xh N g u) (qx (qa .u64) _ (nl rfl)))) az) ?_)
 refine Goes.sub (show Sub (ofG 41 [(4,vl (qa .u64) p)],[.frozen (g.flatMap (qa .u64).c)]) (ofG 41 [(4,vl (qa .u64) p)],[])from(Sub.norm [] [] rfl rfl (.keep (.same (qd (qa .u64) _)) .nil) .nil)) ?_
 refine Goes.ret ?_
 obtain rfl:=si h
 exact(gw2 [vl (qa .u64) p] (Ua (qx (qa .u64) _ (nl rfl))))
def yH (N:Nat) (a:qj) (b:qj):Option qj:=
 (if a.w.isEmpty=true then
 some b.w.isEmpty
 else
 some false:Option Bool).bind fun m=>
 ((if m=true then
 if((decide ((w64 (a.s+b.s))>a.s))==(decide (b.s>0)))=true then
 some (.inr (⟨w64 (a.s+b.s),[]⟩:qj))
 else
 some (.inl ())
 else
 some (.inl ()):Option (Unit⊕qj))).bind (fun
 |(.inl ())=>
 (qK a).bind fun c=>
 (qK b).bind fun d=>
 if(c.1==d.1)=true then
 (qau N c.2 d.2).bind fun e=>
 (vC c.1 e).bind fun f=>
 some f
 else
 (jL N c.2 d.2).bind fun g=>
 if g>=0 then
 (yG N c.2 d.2).bind fun h=>
 (vC c.1 h).bind fun i=>
 some i
 else
 (yG N d.2 c.2).bind fun j=>
 (vC d.1 j).bind fun k=>
 some k
 |(.inr l)=>
 some l)
theorem qa5 (N:Nat) (a:qj) (b:qj) {res:qj} (h:yH N a b=some res):qb ZT (.fn 63) [.agg (nz1 a),.agg (nz1 b)] [] (.agg (nz1 res)) []:=by
 unfold yH at h
 refine Ub Tryz.func63 rfl rfl (m:=67) rfl (rs:=[.cell 4 55]) rfl (l:=[(0,.agg (nz1 a)),(1,.agg (nz1 b))]) rfl ?_
 refine sg fol (kG []) [.cells (nz1 a),.cells (nz1 b),bZ] ?_
 refine sq ?_
 refine sq ?_
 obtain⟨J,c,h⟩:=bnd h
 refine Goes.cut (s':=(ofG 67 (kG [(17,.bool J)]),[.cells (nz1 a),.cells (nz1 b),bZ])) ?_ ?_
 ·rcases wyB c with⟨z,c⟩|⟨z,c⟩
  ·obtain rfl:=si c
   exact tr fol [2,3,6] (kG [(17,.bool b.w.isEmpty)]) (ac (hs (.done (.opt (ko ZT .eql 53 (.tmp 11) (.const (.slice none 0 0)) (nvl (qa .u64) a.w) .nilslice)) (.bool a.w.isEmpty)) (qaB qaw)) (ac (gw z) (ac (hs (.done (.opt (ko ZT .eql 53 (.tmp 15) (.const (.slice none 0 0)) (nvl (qa .u64) b.w) .nilslice)) (.bool b.w.isEmpty)) (qaB qaw)) az)))
  obtain rfl:=si c
  exact tr fol [2,3] (kG [(17,.bool false)]) (ac (hs (.done (.opt (ko ZT .eql 53 (.tmp 11) (.const (.slice none 0 0)) (nvl (qa .u64) a.w) .nilslice)) (.bool a.w.isEmpty)) (qaB qaw)) (ac (gw z) az))
 obtain⟨H,g4,h⟩:=bnd h
 refine Goes.imp (Q:=fun x s'=>(x= .normal/\(.inl ())=H/\Sub s' (ofG 67 (kG []),[.cells (nz1 a),.cells (nz1 b),bZ]))\/(x= .ret/\ ∃I,(.inr I)=H/\yj ZT [.cell 4 55] (.agg (nz1 I)) .ret s')) ?_ ?_
 ·refine ihB g4 (fun K g4=>?_) (fun K g4=>?_)
  ·refine sh fol (kG (kA4 (w64 (a.s+b.s)))) ?_
   refine sh fol (kG [(5,.i (w64 (a.s+b.s))),(30,.bool ((decide ((w64 (a.s+b.s))>a.s))==(decide (b.s>0))))]) ?_
   refine ihB g4 (fun L g4=>?_) (fun L g4=>?_)
   ·refine sg fol (kAM []) (.cells (nz1 a):: .cells (nz1 b)::(kA2 (w64 (a.s+b.s)))) ?_
    refine Goes.ret ?_
    obtain rfl:=si g4
    exact Or.inr (⟨rfl,_,rfl,(gw2 [.agg [.i (w64 (a.s+b.s)),.nilslice]] (FzW.agg (qc.cons (Ua tI) (qc.cons (FzW.nv0 (E:=(qa .u64))) qc.nil))))⟩)
   refine Goes.skip ?_
   obtain rfl:=si g4
   exact Or.inl (⟨rfl,rfl,(Sub.keep [2,3,4] rfl rfl)⟩)
  refine Goes.skip ?_
  obtain rfl:=si g4
  exact Or.inl (⟨rfl,rfl,(Sub.keep [2,3,4] rfl rfl)⟩)
 rintro x s' (⟨rfl,rfl,hsub⟩|⟨rfl,M,rfl,hret⟩)
 ·try dsimp only at h
  refine Goes.sub hsub ?_
  obtain⟨d,v,h⟩:=bnd h
  refine sq (gr fol [1] (kAj (kAM [(6,.bool d.1),(7,vl (qa .u64) d.2)])) (ac (cv (zM a v)) az) ?_)
  obtain⟨e,y,h⟩:=bnd h
  refine sq (gr fol [1] (kAM [(6,.bool d.1),(7,vl (qa .u64) d.2),(8,.bool e.1),(9,vl (qa .u64) e.2)]) (ac (cv (zM b y)) az) ?_)
  refine sq (Goes.block ?_)
  refine sh fol (kAM [(6,.bool d.1),(7,vl (qa .u64) d.2),(8,.bool e.1),(9,vl (qa .u64) e.2),(43,.bool (d.1==e.1))]) ?_
  refine ihB h (fun A h=>?_) (fun A h=>?_)
  ·obtain⟨B,k,h⟩:=bnd h
   obtain⟨f,o,h⟩:=bnd h
   refine sq (gq fol [3,4,5] (kAM []) [.cells (nz1 a),.cells (nz1 b),.cells (nz1 f)] (ac (cv (qgf N d.2 e.2 k)) (ac (cv (xR d.1 B o)) (ac (hs (.run [2] (qp ZT 55 (.ptr 2 0) (.agg (nz1 f))) [.cells (nz1 a),.cells (nz1 b),bZ] .undef [.cells (nz1 a),.cells (nz1 b),.cells (nz1 f)] true) (ku (n:=2) (by kernel_rfl) rfl rfl rfl rfl (cac rfl (cac nvc can)) rfl)) az))) ?_)
   refine Goes.ret ?_
   obtain rfl:=si h
   exact(gw2 [.agg (nz1 f)] (FzW.agg (qc.cons (Ua tI) (qc.cons (Ua (qz (qa .u64) _ (nl rfl))) qc.nil))))
  obtain⟨C,p,h⟩:=bnd h
  refine sq (gr fol [2] (kAM [(6,.bool d.1),(7,vl (qa .u64) d.2),(8,.bool e.1),(9,vl (qa .u64) e.2),(52,.bool (decide (C>=0)))]) (ac (cv (qbE N d.2 e.2 p)) az) ?_)
  refine ihD h (fun D h=>?_) (fun D h=>?_)
  ·obtain⟨F,q,h⟩:=bnd h
   obtain⟨g,r,h⟩:=bnd h
   refine sq (gq fol [3,4,5] (kAM []) [.cells (nz1 a),.cells (nz1 b),.cells (nz1 g)] (ac (cv (qdy N d.2 e.2 q)) (ac (cv (xR d.1 F r)) (ac (hs (.run [2] (qp ZT 55 (.ptr 2 0) (.agg (nz1 g))) [.cells (nz1 a),.cells (nz1 b),bZ] .undef [.cells (nz1 a),.cells (nz1 b),.cells (nz1 g)] true) (ku (n:=2) (by kernel_rfl) rfl rfl rfl rfl (cac rfl (cac nvc can)) rfl)) az))) ?_)
   refine Goes.ret ?_
   obtain rfl:=si h
   exact(gw2 [.agg (nz1 g)] (FzW.agg (qc.cons (Ua tI) (qc.cons (Ua (qz (qa .u64) _ (nl rfl))) qc.nil))))
  refine Goes.skip ?_
  obtain⟨G,t,h⟩:=bnd h
  obtain⟨j,u,h⟩:=bnd h
  refine sq (gq fol [3,4,5] (kAM []) [.cells (nz1 a),.cells (nz1 b),.cells (nz1 j)] (ac (cv (qdy N e.2 d.2 t)) (ac (cv (xR e.1 G u)) (ac (hs (.run [2] (qp ZT 55 (.ptr 2 0) (.agg (nz1 j))) [.cells (nz1 a),.cells (nz1 b),bZ] .undef [.cells (nz1 a),.cells (nz1 b),.cells (nz1 j)] true) (ku (n:=2) (by kernel_rfl) rfl rfl rfl rfl (cac rfl (cac nvc can)) rfl)) az))) ?_)
  refine Goes.ret ?_
  obtain rfl:=si h
  exact(gw2 [.agg (nz1 j)] (FzW.agg (qc.cons (Ua tI) (qc.cons (Ua (qz (qa .u64) _ (nl rfl))) qc.nil))))
 try dsimp only at h
 obtain rfl:=si h
 exact hret
def qbX (n:Int):Option qj:=
 some (⟨n,[]⟩:qj)
theorem qbp (n:Int) {res:qj} (h:qbX n=some res):qb ZT (.fn 64) [.i n] [] (.agg (nz1 res)) []:=by
 unfold qbX at h
 refine Ub Tryz.func64 rfl rfl (m:=5) rfl (rs:=[.cell 2 55]) rfl (l:=[(0,.i n)]) rfl ?_
 refine sg fol ((0,.i n)::(kU [])) [bZ] ?_
 refine sg fol (kU []) (kA2 n) ?_
 refine Goes.ret ?_
 obtain rfl:=si h
 exact(gw2 [.agg [.i n,.nilslice]] (FzW.agg (qc.cons (Ua tI) (qc.cons (FzW.nv0 (E:=(qa .u64))) qc.nil))))
def bits_Mul64 (a:Int) (y:Int):Option (Int×Int):=
 some (IntKind.wrap .u64 ((IntKind.wrap .u64 ((IntKind.wrap .u64 ((qw .u64 a 32)*(qw .u64 y 32)))+(qw .u64 (IntKind.wrap .u64 ((IntKind.wrap .u64 ((qw .u64 a 32)*(qB .u64 y 4294967295)))+(qw .u64 (IntKind.wrap .u64 ((qB .u64 a 4294967295)*(qB .u64 y 4294967295))) 32))) 32)))+(qw .u64 (IntKind.wrap .u64 ((qB .u64 (IntKind.wrap .u64 ((IntKind.wrap .u64 ((qw .u64 a 32)*(qB .u64 y 4294967295)))+(qw .u64 (IntKind.wrap .u64 ((qB .u64 a 4294967295)*(qB .u64 y 4294967295))) 32))) 4294967295)+(IntKind.wrap .u64 ((qB .u64 a 4294967295)*(qw .u64 y 32))))) 32)),IntKind.wrap .u64 (a*y))
theorem qbr (a:Int) (y:Int) {res:Int×Int} (h:bits_Mul64 a y=some res):qb ZT (.fn 124) (kBW a y) [] (.tuple (kBW res.1 res.2)) []:=by
 unfold bits_Mul64 at h
 refine Ub Tryz.func124 rfl rfl (m:=51) rfl (rs:=[.tmp 4,.tmp 5]) rfl (l:=(kAC a y [])) rfl ?_
 refine sh fol (kAC a y []) ?_
 refine sh fol (kAC a y (kAP (qB .u64 a 4294967295) [])) ?_
 refine sh fol (kAC a y (kAP (qB .u64 a 4294967295) (kAk (qw .u64 a 32) []))) ?_
 refine sh fol (kAC a y (kAP (qB .u64 a 4294967295) (kAE (qw .u64 a 32) (qB .u64 y 4294967295) []))) ?_
 refine sh fol (kAC a y (kAP (qB .u64 a 4294967295) (kAE (qw .u64 a 32) (qB .u64 y 4294967295) [(9,.int .u64 (qw .u64 y 32))]))) ?_
 refine sh fol (kAC a y (kAP (qB .u64 a 4294967295) (kAE (qw .u64 a 32) (qB .u64 y 4294967295) [(9,.int .u64 (qw .u64 y 32)),(10,.int .u64 (IntKind.wrap .u64 ((qB .u64 a 4294967295)*(qB .u64 y 4294967295))))]))) ?_
 refine sh fol (kAC a y (kAP (qB .u64 a 4294967295) (kAk (qw .u64 a 32) [(9,.int .u64 (qw .u64 y 32)),(11,.int .u64 (IntKind.wrap .u64 ((IntKind.wrap .u64 ((qw .u64 a 32)*(qB .u64 y 4294967295)))+(qw .u64 (IntKind.wrap .u64 ((qB .u64 a 4294967295)*(qB .u64 y 4294967295))) 32))))]))) ?_
 refine sh fol (kAC a y (kAP (qB .u64 a 4294967295) (kAk (qw .u64 a 32) ((9,.int .u64 (qw .u64 y 32))::(kAD (IntKind.wrap .u64 ((IntKind.wrap .u64 ((qw .u64 a 32)*(qB .u64 y 4294967295)))+(qw .u64 (IntKind.wrap .u64 ((qB .u64 a 4294967295)*(qB .u64 y 4294967295))) 32))) (qB .u64 (IntKind.wrap .u64 ((IntKind.wrap .u64 ((qw .u64 a 32)*(qB .u64 y 4294967295)))+(qw .u64 (IntKind.wrap .u64 ((qB .u64 a 4294967295)*(qB .u64 y 4294967295))) 32))) 4294967295) []))))) ?_
 refine sh fol (kAC a y (kAP (qB .u64 a 4294967295) (kAk (qw .u64 a 32) [(9,.int .u64 (qw .u64 y 32)),(12,.int .u64 (qB .u64 (IntKind.wrap .u64 ((IntKind.wrap .u64 ((qw .u64 a 32)*(qB .u64 y 4294967295)))+(qw .u64 (IntKind.wrap .u64 ((qB .u64 a 4294967295)*(qB .u64 y 4294967295))) 32))) 4294967295)),(13,.int .u64 (qw .u64 (IntKind.wrap .u64 ((IntKind.wrap .u64 ((qw .u64 a 32)*(qB .u64 y 4294967295)))+(qw .u64 (IntKind.wrap .u64 ((qB .u64 a 4294967295)*(qB .u64 y 4294967295))) 32))) 32))]))) ?_
 refine sh fol (kAC a y (kAk (qw .u64 a 32) [(9,.int .u64 (qw .u64 y 32)),(12,.int .u64 (IntKind.wrap .u64 ((qB .u64 (IntKind.wrap .u64 ((IntKind.wrap .u64 ((qw .u64 a 32)*(qB .u64 y 4294967295)))+(qw .u64 (IntKind.wrap .u64 ((qB .u64 a 4294967295)*(qB .u64 y 4294967295))) 32))) 4294967295)+(IntKind.wrap .u64 ((qB .u64 a 4294967295)*(qw .u64 y 32)))))),(13,.int .u64 (qw .u64 (IntKind.wrap .u64 ((IntKind.wrap .u64 ((qw .u64 a 32)*(qB .u64 y 4294967295)))+(qw .u64 (IntKind.wrap .u64 ((qB .u64 a 4294967295)*(qB .u64 y 4294967295))) 32))) 32))])) ?_
 refine sh fol (kAC a y [(4,.int .u64 (IntKind.wrap .u64 ((IntKind.wrap .u64 ((IntKind.wrap .u64 ((qw .u64 a 32)*(qw .u64 y 32)))+(qw .u64 (IntKind.wrap .u64 ((IntKind.wrap .u64 ((qw .u64 a 32)*(qB .u64 y 4294967295)))+(qw .u64 (IntKind.wrap .u64 ((qB .u64 a 4294967295)*(qB .u64 y 4294967295))) 32))) 32)))+(qw .u64 (IntKind.wrap .u64 ((qB .u64 (IntKind.wrap .u64 ((IntKind.wrap .u64 ((qw .u64 a 32)*(qB .u64 y 4294967295)))+(qw .u64 (IntKind.wrap .u64 ((qB .u64 a 4294967295)*(qB .u64 y 4294967295))) 32))) 4294967295)+(IntKind.wrap .u64 ((qB .u64 a 4294967295)*(qw .u64 y 32))))) 32))))]) ?_
 refine sh fol [(4,.int .u64 (IntKind.wrap .u64 ((IntKind.wrap .u64 ((IntKind.wrap .u64 ((qw .u64 a 32)*(qw .u64 y 32)))+(qw .u64 (IntKind.wrap .u64 ((IntKind.wrap .u64 ((qw .u64 a 32)*(qB .u64 y 4294967295)))+(qw .u64 (IntKind.wrap .u64 ((qB .u64 a 4294967295)*(qB .u64 y 4294967295))) 32))) 32)))+(qw .u64 (IntKind.wrap .u64 ((qB .u64 (IntKind.wrap .u64 ((IntKind.wrap .u64 ((qw .u64 a 32)*(qB .u64 y 4294967295)))+(qw .u64 (IntKind.wrap .u64 ((qB .u64 a 4294967295)*(qB .u64 y 4294967295))) 32))) 4294967295)+(IntKind.wrap .u64 ((qB .u64 a 4294967295)*(qw .u64 y 32))))) 32)))),(5,.int .u64 (IntKind.wrap .u64 (a*y)))] ?_
 refine Goes.ret ?_
 obtain rfl:=si h
 exact(gw2 (kBW (IntKind.wrap .u64 ((IntKind.wrap .u64 ((IntKind.wrap .u64 ((qw .u64 a 32)*(qw .u64 y 32)))+(qw .u64 (IntKind.wrap .u64 ((IntKind.wrap .u64 ((qw .u64 a 32)*(qB .u64 y 4294967295)))+(qw .u64 (IntKind.wrap .u64 ((qB .u64 a 4294967295)*(qB .u64 y 4294967295))) 32))) 32)))+(qw .u64 (IntKind.wrap .u64 ((qB .u64 (IntKind.wrap .u64 ((IntKind.wrap .u64 ((qw .u64 a 32)*(qB .u64 y 4294967295)))+(qw .u64 (IntKind.wrap .u64 ((qB .u64 a 4294967295)*(qB .u64 y 4294967295))) 32))) 4294967295)+(IntKind.wrap .u64 ((qB .u64 a 4294967295)*(qw .u64 y 32))))) 32))) (IntKind.wrap .u64 (a*y))) (FzW.tuple (qc.cons (Ua tI) (qc.cons (Ua tI) qc.nil))))
def jH (b:List Int) (l:Int) (g:Int):Nat->(List Int)->Int->Int->Option ((List Int)×Int)
 |0,_,_,_=>none
 |K+1,h,a,c=>
  if a<(b.length:Int)then
  (idx b a).bind fun i=>
  (bits_Mul64 l i).bind fun d=>
  (idx h (w64 (g+a))).bind fun j=>
  (xQ d.2 j 0).bind fun e=>
  (xQ e.1 c 0).bind fun f=>
  (put h (w64 (g+a)) f.1).bind fun k=>
  jH b l g K k (w64 (a+1)) (IntKind.wrap .u64 ((IntKind.wrap .u64 (d.1+e.2))+f.2))
  else
  some (h,c)
def jE (N:Nat) (a:List Int) (b:List Int):Nat->(List Int)->Int->Option (List Int)
 |0,_,_=>none
 |K+1,g,c=>
  if c<(a.length:Int)then
  (idx a c).bind fun h=>
  (jH b h c N g 0 0).bind fun(d,e)=>
  (idx d (w64 (c+(b.length:Int)))).bind fun i=>
  (put d (w64 (c+(b.length:Int))) e).bind fun f=>
  jE N a b K f (w64 (c+1))
  else
  some g
def qat (N:Nat) (a:List Int) (b:List Int):Option (List Int):=
 (mk 8 (w64 ((a.length:Int)+(b.length:Int))) 0).bind fun d=>
 (jE N a b N d 0).bind fun e=>
 (yY N e).bind fun c=>
 some c
theorem qgh (N:Nat) (a:List Int) (b:List Int) {res:List Int} (h:qat N a b=some res):qb ZT (.fn 126) [vl (qa .u64) a,vl (qa .u64) b] [] (vl (qa .u64) res) []:=by
 unfold qat at h
 refine Ub Tryz.func126 rfl rfl (m:=80) rfl (rs:=[.tmp 4]) rfl (l:=[(0,vl (qa .u64) a),(1,vl (qa .u64) b)]) rfl ?_
 refine sh fol [(0,vl (qa .u64) a),(1,vl (qa .u64) b)] ?_
 obtain⟨L,O,h⟩:=bnd h
 refine sq (gq fol [5] ((0,vl (qa .u64) a)::(1,vl (qa .u64) b)::(kF L [])) [.cells (L.flatMap (qa .u64).c)] (ac (hs (.run [] (jd ZT 53 (.i (w64 ((a.length:Int)+(b.length:Int)))) (.i (w64 ((a.length:Int)+(b.length:Int))))) [] (.slice 0 0 L.length L.length 1) [.cells (L.flatMap (qa .u64).c)] false) (qcB zN (E:=(qa .u64)) (z:=0) rfl (by kernel_rfl) O rfl)) az) ?_)
 refine sq ?_
 refine sh fol ((1,vl (qa .u64) b)::(kF L [(20,vl (qa .u64) a),(21,.i (a.length:Int)),(22,.i 0)])) ?_
 refine Goes.block ?_
 obtain⟨Y,g5,h⟩:=bnd h
 refine Goes.imp (Q:=fun x s'=>(x= .exit 0/\ ∃u,u=Y/\Sub s' (ofG 80 (kF u []),[.cells (u.flatMap (qa .u64).c)]))) ?_ ?_
 ·refine Uc (fun M s=> ∃(F:List Int) (d:Int),s=(ofG 80 ((1,vl (qa .u64) b)::(kF F ((20,vl (qa .u64) a)::(kAH (a.length:Int) d [])))),[.cells (F.flatMap (qa .u64).c)])/\jE N a b M F d=some Y) ?_ (m:=N) ⟨_,_,rfl,g5⟩
  rintro M s ⟨F,d,rfl,g5⟩
  cases M with
  |zero=>simp only[jE]at g5;cases g5
  |succ M=>
   rw[jE]at g5
   refine sh fol ((1,vl (qa .u64) b)::(kF F ((20,vl (qa .u64) a)::(kAH (a.length:Int) d [(23,.bool (decide (d<(a.length:Int))))])))) ?_
   refine sq ?_
   refine ihD g5 (fun Z g5=>?_) (fun Z g5=>?_)
   ·refine Goes.skip ?_
    refine sq (Goes.block ?_)
    obtain⟨q,G,g5⟩:=bnd g5
    refine sq (gr fol [1,2] ((1,vl (qa .u64) b)::(kF F ((6,.i d)::(kAk q ((20,vl (qa .u64) a)::(kAH (a.length:Int) d [])))))) (ac (iv zN (qa .u64) G) (ac (lv 0 zW (qa .u64) G rfl) az)) ?_)
    refine sh fol ((1,vl (qa .u64) b)::(kF F ((6,.i d)::(kAk q (kBY ((20,vl (qa .u64) a)::(kAH (a.length:Int) d []))))))) ?_
    refine sq ?_
    refine sh fol ((1,vl (qa .u64) b)::(kF F ((6,.i d)::(kAk q (kBY ((20,vl (qa .u64) a)::(kAH (a.length:Int) d [(27,vl (qa .u64) b),(28,.i (b.length:Int)),(29,.i 0)]))))))) ?_
    refine Goes.block ?_
    obtain⟨P,g13,g5⟩:=bnd g5
    refine Goes.imp (Q:=fun x s'=>(x= .exit 2/\ ∃k v,(k,v)=P/\Sub s' (ofG 80 ((1,vl (qa .u64) b)::(kF k ((6,.i d)::(8,.int .u64 v)::(20,vl (qa .u64) a)::(kAH (a.length:Int) d [])))),[.cells (k.flatMap (qa .u64).c)]))) ?_ ?_
    ·refine Uc (fun M s=> ∃(j:List Int) (e:Int) (n:Int),s=(ofG 80 ((1,vl (qa .u64) b)::(kF j ((6,.i d)::(kAE q n ((20,vl (qa .u64) a)::(kAH (a.length:Int) d ((27,vl (qa .u64) b)::(kAv (b.length:Int) e)))))))),[.cells (j.flatMap (qa .u64).c)])/\jH b q d M j e n=some P) ?_ (m:=N) ⟨_,_,_,rfl,g13⟩
     rintro M s ⟨j,e,n,rfl,g13⟩
     cases M with
     |zero=>simp only[jH]at g13;cases g13
     |succ M=>
      rw[jH]at g13
      refine sh fol ((1,vl (qa .u64) b)::(kF j ((6,.i d)::(kAE q n ((20,vl (qa .u64) a)::(kAH (a.length:Int) d [(27,vl (qa .u64) b),(28,.i (b.length:Int)),(29,.i e),(30,.bool (decide (e<(b.length:Int))))])))))) ?_
      refine sq ?_
      refine ihD g13 (fun X g13=>?_) (fun X g13=>?_)
      ·refine Goes.skip ?_
       refine sq (Goes.block ?_)
       obtain⟨U,w,g13⟩:=bnd g13
       refine sq (gr fol [1,2] ((1,vl (qa .u64) b)::(kF j ((6,.i d)::(kAE q n ((9,.i e)::(10,.int .u64 U)::(20,vl (qa .u64) a)::(kAH (a.length:Int) d ((27,vl (qa .u64) b)::(kAv (b.length:Int) e)))))))) (ac (iv zN (qa .u64) w) (ac (lv 0 zW (qa .u64) w rfl) az)) ?_)
       obtain⟨f,H,g13⟩:=bnd g13
       refine sq (gr fol [2] ((1,vl (qa .u64) b)::(kF j ((6,.i d)::(kAE q n ((9,.i e)::(kAD f.1 f.2 ((20,vl (qa .u64) a)::(kAH (a.length:Int) d ((27,vl (qa .u64) b)::(kAv (b.length:Int) e)))))))))) (ac (cv (qbr q U H)) az) ?_)
       refine sh fol ((1,vl (qa .u64) b)::(kF j ((6,.i d)::(kAE q n ((9,.i e)::(kAD f.1 f.2 ((20,vl (qa .u64) a)::(kAH (a.length:Int) d ((27,vl (qa .u64) b)::(kAv (b.length:Int) e)))))))))) ?_
       obtain⟨V,o,g13⟩:=bnd g13
       obtain⟨g,I,g13⟩:=bnd g13
       refine sq (gr fol [5,6,7] ((1,vl (qa .u64) b)::(kF j ((6,.i d)::(kAE q n ((9,.i e)::(kAD f.1 g.1 ((13,.int .u64 g.2)::(20,vl (qa .u64) a)::(kAH (a.length:Int) d ((27,vl (qa .u64) b)::(kAv (b.length:Int) e)))))))))) (ac (hs (.done (.opt (qg ZT 53 (.slice 0 0 j.length j.length 1) (.i (w64 (d+e))))) (.ptr 0 ((w64 (d+e):Int).toNat*1+0))) (qaf zN o)) (ac (hs (.run [0] (ji ZT 146 (.ptr 0 ((w64 (d+e):Int).toNat*1+0))) [.cells (j.flatMap (qa .u64).c)] (.int .u64 V) [.cells (j.flatMap (qa .u64).c)] false) (qce zW (E:=(qa .u64)) (l:=j) rfl rfl o (nl rfl) rfl)) (ac (cv (qca f.2 V 0 I)) az))) ?_)
       refine sh fol ((1,vl (qa .u64) b)::(kF j ((6,.i d)::(kAE q n ((9,.i e)::(kAD (IntKind.wrap .u64 (f.1+g.2)) g.1 ((20,vl (qa .u64) a)::(kAH (a.length:Int) d ((27,vl (qa .u64) b)::(kAv (b.length:Int) e)))))))))) ?_
       obtain⟨p,J,g13⟩:=bnd g13
       refine sq (gr fol [2] ((1,vl (qa .u64) b)::(kF j ((6,.i d)::(kAk q ((9,.i e)::(kAD (IntKind.wrap .u64 (f.1+g.2)) p.1 ((13,.int .u64 p.2)::(20,vl (qa .u64) a)::(kAH (a.length:Int) d ((27,vl (qa .u64) b)::(kAv (b.length:Int) e)))))))))) (ac (cv (qca g.1 n 0 J)) az) ?_)
       obtain⟨r,A,g13⟩:=bnd g13
       refine gq fol [8,9] ((1,vl (qa .u64) b)::(kF j ((6,.i d)::(kAE q (IntKind.wrap .u64 ((IntKind.wrap .u64 (f.1+g.2))+p.2)) ((20,vl (qa .u64) a)::(kAH (a.length:Int) d ((27,vl (qa .u64) b)::(kAv (b.length:Int) e)))))))) [.cells (r.flatMap (qa .u64).c)] (ac (hs (.done (.opt (qg ZT 53 (.slice 0 0 j.length j.length 1) (.i (w64 (d+e))))) (.ptr 0 ((w64 (d+e):Int).toNat*1+0))) (qaf zN o)) (ac (hs (.run [0] (qp ZT 146 (.ptr 0 ((w64 (d+e):Int).toNat*1+0)) (.int .u64 p.1)) [.cells (j.flatMap (qa .u64).c)] .undef [.cells (r.flatMap (qa .u64).c)] true) (xP (E:=(qa .u64)) (l:=j) (y:=p.1) rfl (show _=some 1 by kernel_rfl) rfl o rfl rfl rfl rfl rfl A rfl)) az)) ?_
       refine Goes.sub (show Sub (ofG 80 ((1,vl (qa .u64) b)::(kF j ((6,.i d)::(kAE q (IntKind.wrap .u64 ((IntKind.wrap .u64 (f.1+g.2))+p.2)) ((20,vl (qa .u64) a)::(kAH (a.length:Int) d ((27,vl (qa .u64) b)::(kAv (b.length:Int) e)))))))),[.cells (r.flatMap (qa .u64).c)]) (ofG 80 ((1,vl (qa .u64) b)::(kF r ((6,.i d)::(kAE q (IntKind.wrap .u64 ((IntKind.wrap .u64 (f.1+g.2))+p.2)) ((20,vl (qa .u64) a)::(kAH (a.length:Int) d ((27,vl (qa .u64) b)::(kAv (b.length:Int) e)))))))),[.cells (r.flatMap (qa .u64).c)])from(Sub.norm [] [some 0] rfl rfl (.keep (.same (qd (qa .u64) _)) (.keep (.sliceE rfl (vG A)) (.keep (.same nI) (.keep (.same nI) (.keep (.same nI) (.keep (.same (qd (qa .u64) _)) (.keep (.same nI) (.keep (.same nI) (.keep (.same (qd (qa .u64) _)) (.keep (.same nI) (.keep (.same nI) .nil))))))))))) (.ks .nil))) ?_
       refine gh fol ((1,vl (qa .u64) b)::(kF r ((6,.i d)::(kAE q (IntKind.wrap .u64 ((IntKind.wrap .u64 (f.1+g.2))+p.2)) ((20,vl (qa .u64) a)::(kAH (a.length:Int) d ((27,vl (qa .u64) b)::(kAv (b.length:Int) (w64 (e+1)))))))))) ?_
       exact⟨M,(ofG 80 ((1,vl (qa .u64) b)::(kF r ((6,.i d)::(kAE q (IntKind.wrap .u64 ((IntKind.wrap .u64 (f.1+g.2))+p.2)) ((20,vl (qa .u64) a)::(kAH (a.length:Int) d ((27,vl (qa .u64) b)::(kAv (b.length:Int) (w64 (e+1)))))))))),[.cells (r.flatMap (qa .u64).c)]),Nat.lt_succ_self _,(Sub.refl _),_,_,_,rfl,g13⟩
      refine Goes.exit ?_
      obtain rfl:=si g13
      exact⟨rfl,_,_,rfl,(Sub.keep [1,5,6,8,20,21,22] rfl rfl)⟩
    rintro x s' ⟨rfl,k,v,rfl,hsub⟩
    try dsimp only at g5
    refine Goes.sub hsub ?_
    obtain⟨a0,B,g5⟩:=bnd g5
    obtain⟨t,C,g5⟩:=bnd g5
    refine gq fol [6,7] ((1,vl (qa .u64) b)::(kF k ((20,vl (qa .u64) a)::(kAH (a.length:Int) d [])))) [.cells (t.flatMap (qa .u64).c)] (ac (hs (.done (.opt (qg ZT 53 (.slice 0 0 k.length k.length 1) (.i (w64 (d+(b.length:Int)))))) (.ptr 0 ((w64 (d+(b.length:Int)):Int).toNat*1+0))) (qaf zN B)) (ac (hs (.run [0] (qp ZT 146 (.ptr 0 ((w64 (d+(b.length:Int)):Int).toNat*1+0)) (.int .u64 v)) [.cells (k.flatMap (qa .u64).c)] .undef [.cells (t.flatMap (qa .u64).c)] true) (xP (E:=(qa .u64)) (l:=k) (y:=v) rfl (show _=some 1 by kernel_rfl) rfl B rfl rfl rfl rfl rfl C rfl)) az)) ?_
    refine Goes.sub (show Sub (ofG 80 ((1,vl (qa .u64) b)::(kF k ((20,vl (qa .u64) a)::(kAH (a.length:Int) d [])))),[.cells (t.flatMap (qa .u64).c)]) (ofG 80 ((1,vl (qa .u64) b)::(kF t ((20,vl (qa .u64) a)::(kAH (a.length:Int) d [])))),[.cells (t.flatMap (qa .u64).c)])from(Sub.norm [] [some 0] rfl rfl (.keep (.same (qd (qa .u64) _)) (.keep (.sliceE rfl (vG C)) (.keep (.same (qd (qa .u64) _)) (.keep (.same nI) (.keep (.same nI) .nil))))) (.ks .nil))) ?_
    refine gh fol ((1,vl (qa .u64) b)::(kF t ((20,vl (qa .u64) a)::(kAH (a.length:Int) (w64 (d+1)) [])))) ?_
    exact⟨M,(ofG 80 ((1,vl (qa .u64) b)::(kF t ((20,vl (qa .u64) a)::(kAH (a.length:Int) (w64 (d+1)) [])))),[.cells (t.flatMap (qa .u64).c)]),Nat.lt_succ_self _,(Sub.refl _),_,_,rfl,g5⟩
   refine Goes.exit ?_
   obtain rfl:=si g5
   exact⟨rfl,_,rfl,(Sub.keep [5] rfl rfl)⟩
 rintro x s' ⟨rfl,u,rfl,hsub⟩
 refine Goes.sub hsub ?_
 obtain⟨D,K,h⟩:=bnd h
 refine sq (gq fol [1] [(4,vl (qa .u64) D)] [.frozen (u.flatMap (qa .u64).c)] (ac (hs (.callF 141 [.slice 0 0 u.length u.length 1] [.cells (u.flatMap (qa .u64).c)] [0] [vl (qa .u64) u] (vl (qa .u64) D)) (vZ (FzL.cons (Fz.sl (E:=(qa .u64)) rfl rfl (nl rfl)) FzL.nil) (xh N u K) (qx (qa .u64) _ (nl rfl)))) az) ?_)
 refine Goes.sub (show Sub (ofG 80 [(4,vl (qa .u64) D)],[.frozen (u.flatMap (qa .u64).c)]) (ofG 80 [(4,vl (qa .u64) D)],[])from(Sub.norm [] [] rfl rfl (.keep (.same (qd (qa .u64) _)) .nil) .nil)) ?_
 refine Goes.ret ?_
 obtain rfl:=si h
 exact(gw2 [vl (qa .u64) D] (Ua (qx (qa .u64) _ (nl rfl))))
def kr (N:Nat) (a:qj) (b:qj):Option qj:=
 (if a.w.isEmpty=true then
 some b.w.isEmpty
 else
 some false:Option Bool).bind fun j=>
 ((if j=true then
 (qb6 a.s).bind fun k=>
 (qb6 b.s).bind fun l=>
 (bits_Mul64 k l).bind fun e=>
 (if e.1=0 then
 some (decide (e.2<=9223372036854775807))
 else
 some false:Option Bool).bind fun f=>
 if f=true then
 if(!((decide (a.s<0))==(decide (b.s<0))))=true then
 some (.inr (⟨w64 (0-(w64 e.2)),[]⟩:qj))
 else
 some (.inr (⟨w64 e.2,[]⟩:qj))
 else
 some (.inl ())
 else
 some (.inl ()):Option (Unit⊕qj))).bind (fun
 |(.inl ())=>
 (qK a).bind fun c=>
 (qK b).bind fun d=>
 (qat N c.2 d.2).bind fun g=>
 (vC (!(c.1==d.1)) g).bind fun h=>
 some h
 |(.inr i)=>
 some i)
theorem vW (N:Nat) (a:qj) (b:qj) {res:qj} (h:kr N a b=some res):qb ZT (.fn 81) [.agg (nz1 a),.agg (nz1 b)] [] (.agg (nz1 res)) []:=by
 unfold kr at h
 refine Ub Tryz.func81 rfl rfl (m:=66) rfl (rs:=[.cell 4 55]) rfl (l:=[(0,.agg (nz1 a)),(1,.agg (nz1 b))]) rfl ?_
 refine sg fol (kG []) [.cells (nz1 a),.cells (nz1 b),bZ] ?_
 refine sq ?_
 refine sq ?_
 obtain⟨G,d,h⟩:=bnd h
 refine Goes.cut (s':=(ofG 66 (kG [(18,.bool G)]),[.cells (nz1 a),.cells (nz1 b),bZ])) ?_ ?_
 ·rcases wyB d with⟨y,d⟩|⟨y,d⟩
  ·obtain rfl:=si d
   exact tr fol [2,3,6] (kG [(18,.bool b.w.isEmpty)]) (ac (hs (.done (.opt (ko ZT .eql 53 (.tmp 12) (.const (.slice none 0 0)) (nvl (qa .u64) a.w) .nilslice)) (.bool a.w.isEmpty)) (qaB qaw)) (ac (gw y) (ac (hs (.done (.opt (ko ZT .eql 53 (.tmp 16) (.const (.slice none 0 0)) (nvl (qa .u64) b.w) .nilslice)) (.bool b.w.isEmpty)) (qaB qaw)) az)))
  obtain rfl:=si d
  exact tr fol [2,3] (kG [(18,.bool false)]) (ac (hs (.done (.opt (ko ZT .eql 53 (.tmp 12) (.const (.slice none 0 0)) (nvl (qa .u64) a.w) .nilslice)) (.bool a.w.isEmpty)) (qaB qaw)) (ac (gw y) az))
 obtain⟨D,g4,h⟩:=bnd h
 refine Goes.imp (Q:=fun x s'=>(x= .normal/\(.inl ())=D/\Sub s' (ofG 66 (kG []),[.cells (nz1 a),.cells (nz1 b),bZ]))\/(x= .ret/\ ∃F,(.inr F)=D/\yj ZT [.cell 4 55] (.agg (nz1 F)) .ret s')) ?_ ?_
 ·refine ihB g4 (fun H g4=>?_) (fun H g4=>?_)
  ·obtain⟨I,t,g4⟩:=bnd g4
   obtain⟨J,u,g4⟩:=bnd g4
   obtain⟨f,v,g4⟩:=bnd g4
   refine sq (gr fol [2,5,6] (kG ((5,.int .u64 f.1)::(kAP f.2 []))) (ac (cv (qea a.s t)) (ac (cv (qea b.s u)) (ac (cv (qbr I J v)) az))) ?_)
   refine sq ?_
   obtain⟨z,c,g4⟩:=bnd g4
   refine Goes.cut (s':=(ofG 66 (kG (kAP f.2 [(34,.bool z)])),[.cells (nz1 a),.cells (nz1 b),bZ])) ?_ ?_
   ·rcases wyD c with⟨k,c⟩|⟨k,c⟩
    ·obtain rfl:=si c
     exact tr fol [2] (kG (kAP f.2 [(34,.bool (decide (f.2<=9223372036854775807)))])) (ac (gw k) az)
    obtain rfl:=si c
    exact tr fol [2] (kG (kAP f.2 [(34,.bool false)])) (ac (gw k) az)
   refine ihB g4 (fun A g4=>?_) (fun A g4=>?_)
   ·refine sq ?_
    refine sh fol (kAM (kAP f.2 [(41,.bool (!((decide (a.s<0))==(decide (b.s<0)))))])) ?_
    refine ihB g4 (fun B g4=>?_) (fun B g4=>?_)
    ·refine sg fol (kAM []) (.cells (nz1 a):: .cells (nz1 b)::(kA2 (w64 (0-(w64 f.2))))) ?_
     refine Goes.ret ?_
     obtain rfl:=si g4
     exact Or.inr (⟨rfl,_,rfl,(gw2 [.agg [.i (w64 (0-(w64 f.2))),.nilslice]] (FzW.agg (qc.cons (Ua tI) (qc.cons (FzW.nv0 (E:=(qa .u64))) qc.nil))))⟩)
    refine Goes.skip ?_
    refine sg fol (kAM []) (.cells (nz1 a):: .cells (nz1 b)::(kA2 (w64 f.2))) ?_
    refine Goes.ret ?_
    obtain rfl:=si g4
    exact Or.inr (⟨rfl,_,rfl,(gw2 [.agg [.i (w64 f.2),.nilslice]] (FzW.agg (qc.cons (Ua tI) (qc.cons (FzW.nv0 (E:=(qa .u64))) qc.nil))))⟩)
   refine Goes.skip ?_
   obtain rfl:=si g4
   exact Or.inl (⟨rfl,rfl,(Sub.keep [2,3,4] rfl rfl)⟩)
  refine Goes.skip ?_
  obtain rfl:=si g4
  exact Or.inl (⟨rfl,rfl,(Sub.keep [2,3,4] rfl rfl)⟩)
 rintro x s' (⟨rfl,rfl,hsub⟩|⟨rfl,K,rfl,hret⟩)
 ·try dsimp only at h
  refine Goes.sub hsub ?_
  obtain⟨e,o,h⟩:=bnd h
  refine sq (gr fol [1] (kAj (kAM [(7,.bool e.1),(8,vl (qa .u64) e.2)])) (ac (cv (zM a o)) az) ?_)
  obtain⟨g,p,h⟩:=bnd h
  refine sq (gr fol [1] (kAM [(7,.bool e.1),(8,vl (qa .u64) e.2),(9,.bool g.1),(10,vl (qa .u64) g.2)]) (ac (cv (zM b p)) az) ?_)
  obtain⟨C,q,h⟩:=bnd h
  obtain⟨j,r,h⟩:=bnd h
  refine sq (gq fol [5,6,7] (kAM []) [.cells (nz1 a),.cells (nz1 b),.cells (nz1 j)] (ac (cv (qgh N e.2 g.2 q)) (ac (cv (xR (!(e.1==g.1)) C r)) (ac (hs (.run [2] (qp ZT 55 (.ptr 2 0) (.agg (nz1 j))) [.cells (nz1 a),.cells (nz1 b),bZ] .undef [.cells (nz1 a),.cells (nz1 b),.cells (nz1 j)] true) (ku (n:=2) (by kernel_rfl) rfl rfl rfl rfl (cac rfl (cac nvc can)) rfl)) az))) ?_)
  refine Goes.ret ?_
  obtain rfl:=si h
  exact(gw2 [.agg (nz1 j)] (FzW.agg (qc.cons (Ua tI) (qc.cons (Ua (qz (qa .u64) _ (nl rfl))) qc.nil))))
 try dsimp only at h
 obtain rfl:=si h
 exact hret
end Go.Av
