/-
  Walks of functions: what each computes, as a plain function.
-/
import Derived.Test.YtmjcpcnaaolliaaGreatDoorAvJnM
noncomputable section
namespace Go.Av
open Go.Proofs Go.RowKit
abbrev ZT:=Tryz.prog
set_option linter.unusedSectionVars false
set_option linter.unusedVariables false
set_option linter.unusedSimpArgs false
set_option maxRecDepth 100000
theorem fol:Tryz.prog.follows .mixedOrders=true:=by kernel_rfl
structure yH where
 neg:Bool
 w:List Int
def qi6:Enc yH:=(qlA.prod (qlx encI)).comap fun x=>(x.neg,x.w)
instance:SE qi6:=⟨nl rfl⟩
structure qz where
 Length:Int
 Mass:Int
 Direct:Bool
def qbF:Enc qz:=(encI.prod (encI.prod qlA)).comap fun x=>(x.Length,x.Mass,x.Direct)
instance:SE qbF:=⟨nl rfl⟩
structure qj where
 s:Int
 w:List Int
def qh8:Enc qj:=(encI.prod (encN (qa .u64))).comap fun x=>(x.s,x.w)
instance:SE qh8:=⟨nl rfl⟩
structure qG where
 Num:qj
 Den:qj
def qny:Enc qG:=(qh8.prod qh8).comap fun x=>(x.Num,x.Den)
instance:SE qny:=⟨nl rfl⟩
structure qI where
 X:Str
 Y:Str
def qE:Enc qI:=(encS.prod encS).comap fun x=>(x.X,x.Y)
instance:SE qE:=⟨nl rfl⟩
structure qcd where
 Name:Str
 Density:Str
 Twist:Str
 Strength:List qI
 Dye:Str
def qnp:Enc qcd:=(encS.prod (encS.prod (encS.prod ((qlx qE).prod encS)))).comap fun x=>(x.Name,x.Density,x.Twist,x.Strength,x.Dye)
instance:SE qnp:=⟨nl rfl⟩
abbrev kA {α3:Type} {α4:Type} (a:List Int) (b:List Int) (c:Int) (d:List α3) (e:List α4) (f:Int) (x:List (Nat×AV)):List (Nat×AV):=(8,vl encI a)::(9,vl encI b)::(10,.i c)::(11,.oslice 0 d.length 1)::(12,.slice 1 0 e.length e.length 1)::(13,.i f)::x
abbrev kB {α0:Type} (a:List α0) (x:List (Nat×AV)):List (Nat×AV):=(5,.slice 0 0 a.length a.length 1)::x
abbrev kC (a:List Int) (x:List Blk):List Blk:= .cells (a.flatMap encI.c)::x
abbrev kD {α0:Type} {α2:Type} (a:List α0) (b:Int) (c:List α2) (x:List (Nat×AV)):List (Nat×AV):=(11,.slice 0 0 a.length a.length 1)::(12,.i b)::(13,.slice 1 0 c.length c.length 1)::x
abbrev kE (x:List (Nat×AV)):List (Nat×AV):=(2,.ptr 0 0)::(3,.ptr 1 0)::(4,.ptr 2 0)::x
abbrev kF (a:Int) (b:Int) (c:Int) (d:Int) (x:List (Nat×AV)):List (Nat×AV):=(2,.int .u64 a)::(8,.int .u64 b)::(9,.int .u64 c)::(10,.int .u64 d)::x
abbrev kG (a:Str) (x:List (Nat×AV)):List (Nat×AV):=(2,.str a)::(3,.ptr 0 0)::(4,.ptr 1 0)::x
abbrev kI (x:List Blk):List Blk:= .cells [.i 0,.nilslice,.i 0,.nilslice]::x
abbrev kJ (a:List Int) (b:List Int) (x:List (Nat×AV)):List (Nat×AV):=(0,vl encI a)::(1,vl encI b)::x
abbrev kK (a:Int) (b:Int) (c:Bool) (d:Int) (e:Int) (f:Bool) (g:Int) (h:Int) (i:Bool) (x:List Blk):List Blk:= .cells [.i a,.i b,.bool c,.i d,.i e,.bool f,.i g,.i h,.bool i]::x
abbrev kL (a:Int) (b:Int) (c:Int) (x:List (Nat×AV)):List (Nat×AV):=(14,.int .u64 a)::(15,.int .u64 b)::(16,.int .u64 c)::x
abbrev kM (a:Int) (x:List (Nat×AV)):List (Nat×AV):=(180,.slice 2 0 3 3 1)::(181,.i 3)::(182,.i a)::x
abbrev kN (a:Int) (b:Int) (x:List (Nat×AV)):List (Nat×AV):=(5,.i a)::(6,.int .u64 b)::x
abbrev kO {α0:Type} (a:List α0) (x:List (Nat×AV)):List (Nat×AV):=(6,.slice 0 0 a.length a.length 1)::x
abbrev kP (a:Str) (x:List (Nat×AV)):List (Nat×AV):=(2,.str a)::(3,.ptr 0 0)::(21,.ptr 1 0)::x
abbrev kQ (a:Str) (b:Bool) (x:List (Nat×AV)):List (Nat×AV):=(0,.str a)::(2,.ptr 0 0)::(3,.bool b)::x
abbrev kR (x:List Blk):List Blk:= .cells [.bool false,.nilslice]::x
abbrev kS (a:Str) (b:Str) (x:List (Nat×AV)):List (Nat×AV):=(0,.str a)::(1,.str b)::x
abbrev kT (a:Int) (b:Int) (c:Bool) (x:List Blk):List Blk:= .cells [.i a,.i b,.bool c]::x
abbrev kU (a:Int) (b:Int) (x:List (Nat×AV)):List (Nat×AV):=(0,.int .u64 a)::(1,.int .u64 b)::x
abbrev kV (x:List (Nat×AV)):List (Nat×AV):=(2,.ptr 0 0)::x
abbrev kW (a:Int) (b:Int) (x:List (Nat×AV)):List (Nat×AV):=(11,.int .u64 a)::(12,.int .u64 b)::x
abbrev kX (a:Str) (b:Str) (c:Str) (x:List Blk):List Blk:= .cells [.str a,.str b,.str c]::x
abbrev kY (a:Int) (b:Int) (x:List (Nat×AV)):List (Nat×AV):=(7,.int .u64 a)::(8,.int .u64 b)::x
abbrev kZ (a:Str) (b:Str) (c:Str) (d:List qI) (e:Str) (x:List Blk):List Blk:= .cells [.str a,.str b,.str c,vl qE d,.str e]::x
abbrev kAA (a:Int) (b:Int) (x:List (Nat×AV)):List (Nat×AV):=(21,.i a)::(22,.i b)::x
abbrev kAB {α0:Type} (a:List α0) (x:List (Nat×AV)):List (Nat×AV):=(6,.gslice 0 a.length 1)::x
abbrev kAC (a:Str) (b:Str) (c:Bool) (x:List (Nat×AV)):List (Nat×AV):=(5,.str a)::(6,.str b)::(7,.bool c)::x
abbrev kAD (a:List Str) (x:List Blk):List Blk:= .cells (a.flatMap encS.c)::x
abbrev kAE (a:Int) (b:Int) (c:Bool) (d:Int) (e:Int) (f:Bool) (g:Int) (h:Int) (i:Bool) (j:Int) (x:List (Nat×AV)):List (Nat×AV):=(29,.agg [.i a,.i b,.bool c,.i d,.i e,.bool f,.i g,.i h,.bool i])::(30,.i j)::x
abbrev kAF (a:Int) (x:List (Nat×AV)):List (Nat×AV):=(6,.int .u64 a)::x
abbrev kAG (a:Int) (b:Int):List (Nat×AV):=[(13,.i a),(14,.i b)]
abbrev kAI (a:Str):List (Nat×AV):=[(0,.str a)]
abbrev kAJ (a:Str) (b:Str) (x:List Blk):List Blk:= .cells [.str a,.str b]::x
abbrev kAK (a:Int) (b:Int) (x:List (Nat×AV)):List (Nat×AV):=(11,.int .u64 a)::(13,.int .u64 b)::x
abbrev kAL (a:Int) (b:Int) (x:List (Nat×AV)):List (Nat×AV):=(17,.int .u64 a)::(18,.int .u64 b)::x
abbrev kAM (x:List (Nat×AV)):List (Nat×AV):=(3,.ptr 1 0)::(4,.ptr 2 0)::(5,.ptr 3 0)::x
abbrev kAN {α3:Type} (a:List Int) (b:List Int) (c:Int) (d:List α3) (x:List (Nat×AV)):List (Nat×AV):=(8,vl encI a)::(9,vl encI b)::(10,.i c)::(11,.oslice 0 d.length 1)::x
abbrev kAO (x:List (Nat×AV)):List (Nat×AV):=(4,.ptr 1 0)::(5,.ptr 2 0)::x
abbrev kAP (a:Bool) (b:List Int) (x:List Blk):List Blk:= .cells [.bool a,vl encI b]::x
abbrev kAQ (a:List Int) (b:Int) (c:Int) (x:List (Nat×AV)):List (Nat×AV):=(5,vl encI a)::(6,.i b)::(7,.i c)::x
abbrev kAR (a:Int) (x:List (Nat×AV)):List (Nat×AV):=(7,.int .u64 a)::x
abbrev kAS (a:Str) (b:Int) (x:List (Nat×AV)):List (Nat×AV):=(0,.str a)::(3,.i b)::x
abbrev kAT (a:Str) (b:Str) (x:List (Nat×AV)):List (Nat×AV):=(9,.str a)::(13,.str b)::x
abbrev kAU (a:Int) (b:Int) (c:Int) (x:List (Nat×AV)):List (Nat×AV):=(14,.i a)::(15,.i b)::(16,.i c)::x
abbrev kAV (a:List Int):List Blk:=[.frozen (a.flatMap encI.c)]
abbrev kAW (a:Str) (x:List (Nat×AV)):List (Nat×AV):=(0,.str a)::(6,.ptr 0 0)::x
abbrev kAX (a:List Int) (x:List (Nat×AV)):List (Nat×AV):=(0,vl encI a)::x
abbrev kAY (x:List (Nat×AV)):List (Nat×AV):=(1,.ptr 0 0)::x
abbrev kAZ {α0:Type} (a:List α0) (b:Bool) (x:List (Nat×AV)):List (Nat×AV):=(3,.gslice 1 a.length 1)::(4,.bool b)::x
abbrev kAa:List (Nat×AV):=[(4,.ptr 2 0)]
abbrev kAb (a:Int) (b:Int):List Blk:=[.cells [.i a,.i b]]
abbrev kAc (a:Int) (b:Int) (c:Int) (d:Int) (x:List (Nat×AV)):List (Nat×AV):=(2,.i a)::(7,.i b)::(9,.i c)::(10,.i d)::x
abbrev kAd (x:List (Nat×AV)):List (Nat×AV):=(4,.ptr 0 0)::x
abbrev kAe (a:Int) (b:Int):List (Nat×AV):=[(104,.i a),(105,.i b)]
abbrev kAf (a:Int) (b:Int):List (Nat×AV):=[(7,.i a),(8,.i b)]
abbrev kAg (a:List qI) (b:Int) (c:Int) (x:List (Nat×AV)):List (Nat×AV):=(14,vl qE a)::(15,.i b)::(16,.i c)::x
abbrev kAh (a:Int) (b:Int):List (Nat×AV):=[(28,.i a),(29,.i b)]
abbrev kAi (a:Int):List (Nat×AV):=[(2,.i a)]
abbrev kAj (a:Int) (b:Int) (c:Int) (x:List (Nat×AV)):List (Nat×AV):=(17,.int .u64 a)::(156,.i b)::(157,.i c)::x
abbrev kAk (a:Int) (b:Int):List (Nat×AV):=[(96,.i a),(97,.i b)]
abbrev kAl:List (Nat×AV):=[(2,.bool false)]
abbrev kAm (a:Int):List Blk:=[.cells [.i a,.nilslice]]
abbrev kAn (a:Int) (b:Int) (x:List (Nat×AV)):List (Nat×AV):=(14,.int .u64 a)::(15,.int .u64 b)::x
abbrev kAo (a:Int):List (Nat×AV):=[(5,.i a)]
abbrev kAp:List (Nat×AV):=[(2,.ptr 1 0)]
abbrev kAq (a:Bool):List (Nat×AV):=[(12,.bool a)]
abbrev kAr (a:Str) (b:Int) (x:List (Nat×AV)):List (Nat×AV):=(3,.str a)::(4,.i b)::x
abbrev kAs (a:Str):List (Nat×AV):=[(15,.str a),(137,.bool true)]
abbrev kAt (a:Int) (x:List (Nat×AV)):List (Nat×AV):=(0,.int .u64 a)::x
abbrev kAu (a:List Int) (b:List Int):List (Nat×AV):=[(4,vl encI a),(5,vl encI b)]
abbrev kAv (a:Bool):List (Nat×AV):=[(4,.bool a)]
abbrev kAw (a:List qI) (x:List (Nat×AV)):List (Nat×AV):=(0,vl qE a)::x
abbrev kAx (a:Bool) (b:List Int):List AV:=[.bool a,vl encI b]
abbrev kAy (a:Bool):List (Nat×AV):=[(2,.bool a)]
abbrev kAz (x:List (Nat×AV)):List (Nat×AV):=(3,.ptr 1 0)::x
abbrev kA0 (x:List (Nat×AV)):List (Nat×AV):=(10,.ptr 1 0)::x
abbrev kA2 (a:Int) (b:Int):List AV:=[.int .u64 a,.int .u64 b]
abbrev kA3:List (Nat×AV):=[(4,.ptr 1 0)]
abbrev kA4 (x:List (Nat×AV)):List (Nat×AV):=(8,.int .u64 0)::x
abbrev nz1 (x:qj):List AV:=ni1 x.s x.w
abbrev nq1 (x:qG):List AV:=ni2 x.Num.s x.Num.w x.Den.s x.Den.w
theorem vO:SlT ZT 75 3 1 8:=⟨by kernel_rfl,by kernel_rfl,by kernel_rfl,by kernel_rfl⟩
theorem ce3:CeT ZT 3:=⟨by kernel_rfl,by kernel_rfl⟩
theorem st9:Tryz.prog.underlying 9=some .string:=by kernel_rfl
theorem qlZ:Tryz.prog.underlying 22=some .string:=by kernel_rfl
theorem xY:Tryz.prog.underlying 93=some (.slice 245):=by kernel_rfl
theorem zA:SlT ZT 93 245 1 8:=⟨by kernel_rfl,by kernel_rfl,by kernel_rfl,by kernel_rfl⟩
theorem zK:CeT ZT 245:=⟨by kernel_rfl,by kernel_rfl⟩
theorem qo6:SlT ZT 199 27 1 8:=⟨by kernel_rfl,by kernel_rfl,by kernel_rfl,by kernel_rfl⟩
theorem ce27:CeT ZT 27:=⟨by kernel_rfl,by kernel_rfl⟩
theorem qo5:SlT ZT 284 9 1 16:=⟨by kernel_rfl,by kernel_rfl,by kernel_rfl,by kernel_rfl⟩
theorem ce9:CeT ZT 9:=⟨by kernel_rfl,by kernel_rfl⟩
theorem sl58:SlT ZT 58 22 1 16:=⟨by kernel_rfl,by kernel_rfl,by kernel_rfl,by kernel_rfl⟩
theorem ce22:CeT ZT 22:=⟨by kernel_rfl,by kernel_rfl⟩
theorem sl60:SlT ZT 60 83 2 32:=⟨by kernel_rfl,by kernel_rfl,by kernel_rfl,by kernel_rfl⟩
theorem ag83:AgT ZT 83 2:=⟨by kernel_rfl,by kernel_rfl⟩
def yh:Nat->(List Int)->Option (List Int)
 |0,_=>none
 |K+1,a=>
  (if(a.length:Int)>0 then
  (idx a (w64 ((a.length:Int)-1))).bind fun b=>
  some (decide (b=0))
  else
  some false:Option Bool).bind fun c=>
  if c=true then
  (cut a 0 (w64 ((a.length:Int)-1))).bind fun d=>
  yh K d
  else
  some a
def yl (N:Nat) (w:List Int):Option (List Int):=
 (yh N w).bind fun a=>
 some a
theorem xk (N:Nat) (w:List Int) {res:List Int} (h:yl N w=some res):qb ZT (.fn 232) [vl encI w] [] (vl encI res) []:=by
 unfold yl at h
 refine Ub Tryz.func232 rfl rfl (m:=21) rfl (rs:=[.tmp 2]) rfl (l:=(kAX w [])) rfl ?_
 refine sh fol (kAX w []) ?_
 refine sq (Goes.block ?_)
 obtain⟨j,g3,h⟩:=bnd h
 refine Goes.imp (Q:=fun x s'=>(x= .exit 0/\ ∃d,d=j/\Sub s' (ofG 21 (kAX d []),[]))) ?_ ?_
 ·refine Uc (fun M s=> ∃(b:List Int),s=(ofG 21 (kAX b []),[])/\yh M b=some j) ?_ (m:=N) ⟨_,rfl,g3⟩
  rintro M s ⟨b,rfl,g3⟩
  cases M with
  |zero=>simp only[yh]at g3;cases g3
  |succ M=>
   rw[yh]at g3
   refine sq ?_
   refine sq ?_
   obtain⟨k,a,g3⟩:=bnd g3
   refine Goes.cut (s':=(ofG 21 (kAX b [(14,.bool k)]),[])) ?_ ?_
   ·rcases wyD a with⟨f,a⟩|⟨f,a⟩
    ·obtain⟨n,c,a⟩:=bnd a
     obtain rfl:=si a
     exact tr fol [3,8,9] (kAX b [(14,.bool (decide (n=0)))]) (ac (gw f) (ac (iv vO encI c) (ac (lv 0 ce3 encI c rfl) az)))
    obtain rfl:=si a
    exact tr fol [3] (kAX b [(14,.bool false)]) (ac (gw f) az)
   refine ihB g3 (fun o g3=>?_) (fun o g3=>?_)
   ·refine Goes.skip ?_
    refine Goes.block ?_
    obtain⟨g,e,g3⟩:=bnd g3
    refine gr fol [4] (kAX g []) (ac (hs (.done (.opt (qW ZT 75 (vl encI b) none (some (.i (w64 ((b.length:Int)-1)))) none)) (vl encI g)) (qiB vO (E:=encI) rfl none (some (w64 ((b.length:Int)-1))) e)) az) ?_
    exact⟨M,(ofG 21 (kAX g []),[]),Nat.lt_succ_self _,(Sub.refl _),_,rfl,g3⟩
   refine Goes.exit ?_
   obtain rfl:=si g3
   exact⟨rfl,_,rfl,(Sub.keep [0] rfl rfl)⟩
 rintro x s' ⟨rfl,d,rfl,hsub⟩
 refine Goes.sub hsub ?_
 refine sh fol [(2,vl encI d)] ?_
 refine Goes.ret ?_
 obtain rfl:=si h
 exact(gw2 [vl encI d] (Ua (qx encI _ (nl rfl))))
def xV (N:Nat) (neg:Bool) (w:List Int):Option yH:=
 (yl N w).bind fun a=>
 (if neg=true then
 some (decide ((a.length:Int)>0))
 else
 some false:Option Bool).bind fun b=>
 some (⟨b,a⟩:yH)
theorem qc7 (N:Nat) (neg:Bool) (w:List Int) {res:yH} (h:xV N neg w=some res):qb ZT (.fn 173) (kAx neg w) [] (.agg (kAx res.neg res.w)) []:=by
 unfold xV at h
 refine Ub Tryz.func173 rfl rfl (m:=15) rfl (rs:=[.cell 4 124]) rfl (l:=[(0,.bool neg),(1,vl encI w)]) rfl ?_
 refine sg fol ((0,.bool neg)::(1,vl encI w)::(kAd [])) (kR []) ?_
 obtain⟨b,c,h⟩:=bnd h
 refine sq (gr fol [1] ((0,.bool neg)::(1,vl encI b)::(kAd [])) (ac (cv (xk N w c)) az) ?_)
 refine sq ?_
 obtain⟨e,a,h⟩:=bnd h
 refine Goes.cut (s':=(ofG 15 (kAd []),(kAP e b []))) ?_ ?_
 ·rcases wyB a with⟨d,a⟩|⟨d,a⟩
  ·obtain rfl:=si a
   exact vL.rq fol [1] (kAd []) (kAP (decide ((b.length:Int)>0)) b []) (ac (gw d) az)
  obtain rfl:=si a
  exact vL.rq fol [1] (kAd []) [.cells [.bool false,vl encI b]] (ac (gw d) az)
 refine Goes.ret ?_
 obtain rfl:=si h
 exact(gw2 [.agg (kAx e b)] (FzW.agg (qc.cons (Ua tB) (qc.cons (Ua (qx encI _ (nl rfl))) qc.nil))))
def xN:Nat->(List Int)->Int->Option (List Int)
 |0,_,_=>none
 |K+1,b,a=>
  if(!decide (a=0))=true then
  ((if(a.tmod 1000000000)<0 then
  some (w64 (0-(a.tmod 1000000000)))
  else
  some (a.tmod 1000000000):Option Int)).bind fun c=>
  (app 8 b [c]).bind fun d=>
  xN K d (w64 (a.tdiv 1000000000))
  else
  some b
def qdu (N:Nat) (n:Int):Option yH:=
 (xN N ([]:List Int) n).bind fun b=>
 (xV N (decide (n<0)) b).bind fun a=>
 some a
theorem qgs (N:Nat) (n:Int) {res:yH} (h:qdu N n=some res):qb ZT (.fn 99) [.i n] [] (.agg (kAx res.neg res.w)) []:=by
 unfold qdu at h
 refine Ub Tryz.func99 rfl rfl (m:=25) rfl (rs:=[.cell 2 124]) rfl (l:=[(0,.i n)]) rfl ?_
 refine sg fol ((0,.i n)::(kV [])) (kR []) ?_
 refine sh fol ((0,.i n)::(kV [(3,.nilslice)])) ?_
 refine sh fol ((0,.i n)::(kV ((3,.nilslice)::(kAv (decide (n<0)))))) ?_
 refine sq (Goes.block ?_)
 obtain⟨o,g4,h⟩:=bnd h
 refine Goes.imp (Q:=fun x s'=>(x= .exit 0/\ ∃e,e=o/\Sub s' (ofG 25 (kV (kAZ e (decide (n<0)) [])),(kR (kC e []))))) ?_ ?_
 ·refine Goes.sub (s':=(ofG 25 ((0,.i n)::(kV ((3,.gslice 1 ([]:List Int).length 1)::(kAv (decide (n<0)))))),(kR [.cells (([]:List Int).flatMap encI.c)]))) (Sub.norm [] [some 0,none] rfl rfl (.keep (.same nI) (.kp (.keep .nil (.keep (.same nB) .nil)))) (.kb rfl (.same sn) (.fresh .nil))) ?_
  refine Uc (fun M s=> ∃(d:List Int) (b:Int),s=(ofG 25 ((0,.i b)::(kV (kAZ d (decide (n<0)) []))),(kR (kC d [])))/\xN M d b=some o) ?_ (m:=N) ⟨_,_,rfl,g4⟩
  rintro M s ⟨d,b,rfl,g4⟩
  cases M with
  |zero=>simp only[xN]at g4;cases g4
  |succ M=>
   rw[xN]at g4
   refine sq ?_
   refine sh fol ((0,.i b)::(kV (kAZ d (decide (n<0)) [(9,.bool (!decide (b=0)))]))) ?_
   refine ihB g4 (fun p g4=>?_) (fun p g4=>?_)
   ·refine Goes.skip ?_
    refine Goes.block ?_
    refine sh fol ((0,.i b)::(kV (kAZ d (decide (n<0)) (kAo (b.tmod 1000000000))))) ?_
    refine sq ?_
    refine sh fol ((0,.i b)::(kV (kAZ d (decide (n<0)) [(5,.i (b.tmod 1000000000)),(13,.bool (decide ((b.tmod 1000000000)<0)))]))) ?_
    obtain⟨q,g7,g4⟩:=bnd g4
    refine Goes.imp (Q:=fun x s'=>(x= .normal/\ ∃f,f=q/\Sub s' (ofG 25 ((0,.i b)::(kV (kAZ d (decide (n<0)) (kAo f)))),(kR (kC d []))))) ?_ ?_
    ·refine ihD g7 (fun r g7=>?_) (fun r g7=>?_)
     ·refine gh fol ((0,.i b)::(kV (kAZ d (decide (n<0)) (kAo (w64 (0-(b.tmod 1000000000))))))) ?_
      obtain rfl:=si g7
      exact⟨rfl,_,rfl,(Sub.refl _)⟩
     refine Goes.skip ?_
     obtain rfl:=si g7
     exact⟨rfl,_,rfl,(Sub.keep [0,2,3,4,5] rfl rfl)⟩
    rintro x s' ⟨rfl,f,rfl,hsub⟩
    refine Goes.sub hsub ?_
    obtain⟨g,k,g4⟩:=bnd g4
    refine sq (gq fol [3] ((0,.i b)::(kV ((3,.gslice 3 g.length 1)::(kAv (decide (n<0)))))) (kR (.dead:: .cells [.i f]::(kC g []))) (ac (hs (.run [1,2] (qah ZT [75,75] (.gslice 1 d.length 1) (.slice 2 0 1 1 1)) (kR (kC d [.cells [.i f]])) (.gslice 3 g.length 1) (kR (.dead:: .cells [.i f]::(kC g []))) true) (qd1 vO (E:=encI) rfl (qiI (E:=encI) (ys:=[f]) rfl rfl rfl rfl) (qlh (E:=encI) (l:=d) rfl rfl rfl k rfl))) az) ?_)
    refine gh fol ((0,.i (w64 (b.tdiv 1000000000)))::(kV ((3,.gslice 3 g.length 1)::(kAv (decide (n<0)))))) ?_
    exact⟨M,(ofG 25 ((0,.i (w64 (b.tdiv 1000000000)))::(kV (kAZ g (decide (n<0)) []))),(kR (kC g []))),Nat.lt_succ_self _,(Sub.norm [] [some 0,some 3] rfl rfl (.keep (.same nI) (.kp (.keep (.gslice rfl) (.keep (.same nB) .nil)))) (.kb rfl (.same sn) (.ks .nil))),_,_,rfl,g4⟩
   refine Goes.exit ?_
   obtain rfl:=si g4
   exact⟨rfl,_,rfl,(Sub.keep [2,3,4] rfl rfl)⟩
 rintro x s' ⟨rfl,e,rfl,hsub⟩
 refine Goes.sub hsub ?_
 obtain⟨a,j,h⟩:=bnd h
 refine sq (gq fol [2] (kV []) (kAP a.neg a.w (kAV e)) (ac (hs (.callF 173 [.bool (decide (n<0)),.gslice 1 e.length 1] (kR (kC e [])) [1] (kAx (decide (n<0)) e) (.agg (kAx a.neg a.w))) (qaA (FzL.cons (Ul tB) (FzL.cons (Fz.gs (E:=encI) rfl rfl (nl rfl)) FzL.nil)) (qc7 N (decide (n<0)) e j) (Still.agg (AllST.cons tB (AllST.cons (qx encI _ (nl rfl)) AllST.nil))))) az) ?_)
 refine Goes.sub (show Sub (ofG 25 (kV []),(kAP a.neg a.w (kAV e))) (ofG 25 (kV []),(kAP a.neg a.w []))from(Sub.norm [] [some 0] rfl rfl (.kp .nil) (.kb rfl (.same sn) .nil))) ?_
 refine Goes.ret ?_
 obtain rfl:=si h
 exact(gw2 [.agg (kAx a.neg a.w)] (FzW.agg (qc.cons (Ua tB) (qc.cons (Ua (qx encI _ (nl rfl))) qc.nil))))
def jL (b:Str):Nat->Int->Option (Unit⊕Int)
 |0,_=>none
 |K+1,a=>
  if a<(b.length:Int)then
  (idx b a).bind fun c=>
  if(c.toNat:Int)=47 then
  some (.inr a)
  else
  jL b K (w64 (a+1))
  else
  some (.inl ())
def yP (N:Nat) (a:Str):Option Int:=
 (jL a N 0).bind (fun
 |(.inl ())=>
 some (a.length:Int)
 |(.inr b)=>
 some b)
theorem qaw (N:Nat) (a:Str) {res:Int} (h:yP N a=some res):qb ZT (.fn 100) [.str a] [] (.i res) []:=by
 unfold yP at h
 refine Ub Tryz.func100 rfl rfl (m:=17) rfl (rs:=[.tmp 2]) rfl (l:=(kAI a)) rfl ?_
 refine sh fol (kAI a) ?_
 refine sq ?_
 refine sh fol [(0,.str a),(3,.i 0)] ?_
 refine Goes.block ?_
 obtain⟨d,g2,h⟩:=bnd h
 refine Goes.imp (Q:=fun x s'=>(x= .exit 0/\(.inl ())=d/\Sub s' (ofG 17 (kAI a),[]))\/(x= .ret/\ ∃e,(.inr e)=d/\jh ZT [.tmp 2] (.i e) .ret s')) ?_ ?_
 ·refine Uc (fun M s=> ∃(b:Int),s=(ofG 17 (kAS a b []),[])/\jL a M b=some d) ?_ (m:=N) ⟨_,rfl,g2⟩
  rintro M s ⟨b,rfl,g2⟩
  cases M with
  |zero=>simp only[jL]at g2;cases g2
  |succ M=>
   rw[jL]at g2
   refine sq ?_
   refine sh fol (kAS a b [(7,.bool (decide (b<(a.length:Int))))]) ?_
   refine ihD g2 (fun g g2=>?_) (fun g g2=>?_)
   ·refine Goes.skip ?_
    refine sq (Goes.block ?_)
    obtain⟨f,c,g2⟩:=bnd g2
    refine sq (gr fol [2] (kAS a b [(13,.bool (decide ((f.toNat:Int)=47)))]) (ac (hs (.done (.opt (jH ZT 9 (.str a) (.i b))) (.int .u8 (f.toNat:Int))) (qaj st9 c)) az) ?_)
    refine ihD g2 (fun j g2=>?_) (fun j g2=>?_)
    ·refine sh fol (kAi b) ?_
     refine Goes.ret ?_
     obtain rfl:=si g2
     exact Or.inr (⟨rfl,_,rfl,(gw2 [.i b] (Ua tI))⟩)
    refine Goes.skip ?_
    refine gh fol (kAS a (w64 (b+1)) []) ?_
    exact⟨M,(ofG 17 (kAS a (w64 (b+1)) []),[]),Nat.lt_succ_self _,(Sub.refl _),_,rfl,g2⟩
   refine Goes.exit ?_
   obtain rfl:=si g2
   exact Or.inl (⟨rfl,rfl,(Sub.keep [0] rfl rfl)⟩)
 rintro x s' (⟨rfl,rfl,hsub⟩|⟨rfl,k,rfl,hret⟩)
 ·try dsimp only at h
  refine Goes.sub hsub ?_
  refine sh fol (kAi (a.length:Int)) ?_
  refine Goes.ret ?_
  obtain rfl:=si h
  exact(gw2 [.i (a.length:Int)] (Ua tI))
 try dsimp only at h
 obtain rfl:=si h
 exact hret
def jN (a:Str):Nat->Int->Int->Option Int
 |0,_,_=>none
 |K+1,c,b=>
  if b<(a.length:Int)then
  (idx a b).bind fun d=>
  jN a K (w64 ((w64 ((w64 (10*c))+(w64 (d.toNat:Int))))-48)) (w64 (b+1))
  else
  some c
def qas (N:Nat) (a:Str):Option Int:=
 (jN a N 0 0).bind fun b=>
 some b
theorem qdJ (N:Nat) (a:Str) {res:Int} (h:qas N a=some res):qb ZT (.fn 169) [.str a] [] (.i res) []:=by
 unfold qas at h
 refine Ub Tryz.func169 rfl rfl (m:=20) rfl (rs:=[.tmp 2]) rfl (l:=(kAI a)) rfl ?_
 refine sh fol (kAI a) ?_
 refine sh fol [(0,.str a),(3,.i 0)] ?_
 refine sq ?_
 refine sh fol [(0,.str a),(3,.i 0),(4,.i 0)] ?_
 refine Goes.block ?_
 obtain⟨g,g4,h⟩:=bnd h
 refine Goes.imp (Q:=fun x s'=>(x= .exit 0/\ ∃d,d=g/\Sub s' (ofG 20 [(3,.i d)],[]))) ?_ ?_
 ·refine Uc (fun M s=> ∃(c:Int) (b:Int),s=(ofG 20 (kAS a c [(4,.i b)]),[])/\jN a M c b=some g) ?_ (m:=N) ⟨_,_,rfl,g4⟩
  rintro M s ⟨c,b,rfl,g4⟩
  cases M with
  |zero=>simp only[jN]at g4;cases g4
  |succ M=>
   rw[jN]at g4
   refine sq ?_
   refine sh fol (kAS a c [(4,.i b),(8,.bool (decide (b<(a.length:Int))))]) ?_
   refine ihD g4 (fun j g4=>?_) (fun j g4=>?_)
   ·refine Goes.skip ?_
    refine sq (Goes.block ?_)
    obtain⟨f,e,g4⟩:=bnd g4
    refine gr fol [4] (kAS a (w64 ((w64 ((w64 (10*c))+(w64 (f.toNat:Int))))-48)) [(4,.i b)]) (ac (hs (.done (.opt (jH ZT 9 (.str a) (.i b))) (.int .u8 (f.toNat:Int))) (qaj st9 e)) az) ?_
    refine gh fol (kAS a (w64 ((w64 ((w64 (10*c))+(w64 (f.toNat:Int))))-48)) [(4,.i (w64 (b+1)))]) ?_
    exact⟨M,(ofG 20 (kAS a (w64 ((w64 ((w64 (10*c))+(w64 (f.toNat:Int))))-48)) [(4,.i (w64 (b+1)))]),[]),Nat.lt_succ_self _,(Sub.refl _),_,_,rfl,g4⟩
   refine Goes.exit ?_
   obtain rfl:=si g4
   exact⟨rfl,_,rfl,(Sub.keep [3] rfl rfl)⟩
 rintro x s' ⟨rfl,d,rfl,hsub⟩
 refine Goes.sub hsub ?_
 refine sh fol (kAi d) ?_
 refine Goes.ret ?_
 obtain rfl:=si h
 exact(gw2 [.i d] (Ua tI))
def vG (N:Nat):Nat->(List Int)->Str->Option ((List Int)×Str)
 |0,_,_=>none
 |K+1,f,a=>
  if(a.length:Int)>9 then
  (cut a (w64 ((a.length:Int)-9)) (a.length:Int)).bind fun b=>
  (qas N b).bind fun c=>
  (app 8 f [c]).bind fun d=>
  (cut a 0 (w64 ((a.length:Int)-9))).bind fun e=>
  vG N K d e
  else
  some (f,a)
def xQ (N:Nat) (a:Str):Option yH:=
 (if(a.length:Int)>0 then
 (idx a 0).bind fun h=>
 some (decide ((h.toNat:Int)=45))
 else
 some false:Option Bool).bind fun g=>
 ((if g=true then
 (cut a 1 (a.length:Int)).bind fun i=>
 some i
 else
 some a:Option Str)).bind fun j=>
 (vG N N ([]:List Int) j).bind fun(b,c)=>
 (qas N c).bind fun d=>
 (app 8 b [d]).bind fun e=>
 (xV N g e).bind fun f=>
 some f
theorem qbA (N:Nat) (n:Str) {res:yH} (h:xQ N n=some res):qb ZT (.fn 170) [.str n] [] (.agg (kAx res.neg res.w)) []:=by
 unfold xQ at h
 refine Ub Tryz.func170 rfl rfl (m:=40) rfl (rs:=[.cell 2 124]) rfl (l:=(kAI n)) rfl ?_
 refine sg fol ((0,.str n)::(kV [])) (kR []) ?_
 refine sq ?_
 obtain⟨f,b,h⟩:=bnd h
 refine Goes.cut (s':=(ofG 40 (kQ n f []),(kR []))) ?_ ?_
 ·rcases wyD b with⟨I,b⟩|⟨I,b⟩
  ·obtain⟨K,C,b⟩:=bnd b
   obtain rfl:=si b
   exact tr fol [3,5] (kQ n (decide ((K.toNat:Int)=45)) []) (ac (gw I) (ac (hs (.done (.opt (jH ZT 9 (.str n) (.i 0))) (.int .u8 (K.toNat:Int))) (qaj st9 C)) az))
  obtain rfl:=si b
  exact tr fol [3] ((0,.str n)::(kV [(3,.bool false)])) (ac (gw I) az)
 refine sq ?_
 refine sh fol (kQ n f [(13,.bool f)]) ?_
 obtain⟨O,g6,h⟩:=bnd h
 refine Goes.imp (Q:=fun x s'=>(x= .normal/\ ∃D,D=O/\Sub s' (ofG 40 (kQ D f []),(kR [])))) ?_ ?_
 ·refine ihB g6 (fun P g6=>?_) (fun P g6=>?_)
  ·obtain⟨L,F,g6⟩:=bnd g6
   refine gr fol [1] (kQ L f []) (ac (hs (.done (.opt (qW ZT 9 (.str n) (some (.i 1)) none none)) (.str L)) (jG st9 (some 1) none F)) az) ?_
   obtain rfl:=si g6
   exact⟨rfl,_,rfl,(Sub.refl _)⟩
  refine Goes.skip ?_
  obtain rfl:=si g6
  exact⟨rfl,_,rfl,(Sub.keep [0,2,3] rfl rfl)⟩
 rintro x s' ⟨rfl,D,rfl,hsub⟩
 refine Goes.sub hsub ?_
 refine sh fol (kQ D f [(4,.nilslice)]) ?_
 refine sq (Goes.block ?_)
 obtain⟨G,g13,h⟩:=bnd h
 refine Goes.imp (Q:=fun x s'=>(x= .exit 0/\ ∃g o,(g,o)=G/\Sub s' (ofG 40 (kQ o f [(4,.gslice 1 g.length 1)]),(kR (kC g []))))) ?_ ?_
 ·refine Goes.sub (s':=(ofG 40 (kQ D f [(4,.gslice 1 ([]:List Int).length 1)]),(kR [.cells (([]:List Int).flatMap encI.c)]))) (Sub.norm [] [some 0,none] rfl rfl (.keep (.same nS) (.kp (.keep (.same nB) (.keep .nil .nil)))) (.kb rfl (.same sn) (.fresh .nil))) ?_
  refine Uc (fun M s=> ∃(q:List Int) (a:Str),s=(ofG 40 (kQ a f [(4,.gslice 1 q.length 1)]),(kR (kC q [])))/\vG N M q a=some G) ?_ (m:=N) ⟨_,_,rfl,g13⟩
  rintro M s ⟨q,a,rfl,g13⟩
  cases M with
  |zero=>simp only[vG]at g13;cases g13
  |succ M=>
   rw[vG]at g13
   refine sq ?_
   refine sh fol (kQ a f [(4,.gslice 1 q.length 1),(18,.bool (decide ((a.length:Int)>9)))]) ?_
   refine ihD g13 (fun J g13=>?_) (fun J g13=>?_)
   ·refine Goes.skip ?_
    refine Goes.block ?_
    obtain⟨H,r,g13⟩:=bnd g13
    obtain⟨p,t,g13⟩:=bnd g13
    obtain⟨j,u,g13⟩:=bnd g13
    refine sq (gq fol [5,6,8] (kQ a f [(4,.gslice 3 j.length 1)]) (kR (.dead:: .cells [.i p]::(kC j []))) (ac (hs (.done (.opt (qW ZT 9 (.str a) (some (.i (w64 ((a.length:Int)-9)))) none none)) (.str H)) (jG st9 (some (w64 ((a.length:Int)-9))) none r)) (ac (cv (qdJ N H t)) (ac (hs (.run [1,2] (qah ZT [75,75] (.gslice 1 q.length 1) (.slice 2 0 1 1 1)) (kR (kC q [.cells [.i p]])) (.gslice 3 j.length 1) (kR (.dead:: .cells [.i p]::(kC j []))) true) (qd1 vO (E:=encI) rfl (qiI (E:=encI) (ys:=[p]) rfl rfl rfl rfl) (qlh (E:=encI) (l:=q) rfl rfl rfl u rfl))) az))) ?_)
    obtain⟨v,y,g13⟩:=bnd g13
    refine gr fol [4] (kQ v f [(4,.gslice 3 j.length 1)]) (ac (hs (.done (.opt (qW ZT 9 (.str a) none (some (.i (w64 ((a.length:Int)-9)))) none)) (.str v)) (jG st9 none (some (w64 ((a.length:Int)-9))) y)) az) ?_
    exact⟨M,(ofG 40 (kQ v f [(4,.gslice 1 j.length 1)]),(kR (kC j []))),Nat.lt_succ_self _,(Sub.norm [] [some 0,some 3] rfl rfl (.keep (.same nS) (.kp (.keep (.same nB) (.keep (.gslice rfl) .nil)))) (.kb rfl (.same sn) (.ks .nil))),_,_,rfl,g13⟩
   refine Goes.exit ?_
   obtain rfl:=si g13
   exact⟨rfl,_,_,rfl,(Sub.keep [0,2,3,4] rfl rfl)⟩
 rintro x s' ⟨rfl,g,o,rfl,hsub⟩
 try dsimp only at h
 refine Goes.sub hsub ?_
 obtain⟨k,z,h⟩:=bnd h
 obtain⟨e,A,h⟩:=bnd h
 obtain⟨d,B,h⟩:=bnd h
 refine sq (gq fol [3,5,6] (kV []) (kAP d.neg d.w (.dead:: .cells [.i k]::(kAV e))) (ac (cv (qdJ N o z)) (ac (hs (.run [1,2] (qah ZT [75,75] (.gslice 1 g.length 1) (.slice 2 0 1 1 1)) (kR (kC g [.cells [.i k]])) (.gslice 3 e.length 1) (kR (.dead:: .cells [.i k]::(kC e []))) true) (qd1 vO (E:=encI) rfl (qiI (E:=encI) (ys:=[k]) rfl rfl rfl rfl) (qlh (E:=encI) (l:=g) rfl rfl rfl A rfl))) (ac (hs (.callF 173 [.bool f,.gslice 3 e.length 1] (kR (.dead:: .cells [.i k]::(kC e []))) [3] (kAx f e) (.agg (kAx d.neg d.w))) (qaA (FzL.cons (Ul tB) (FzL.cons (Fz.gs (E:=encI) rfl rfl (nl rfl)) FzL.nil)) (qc7 N f e B) (Still.agg (AllST.cons tB (AllST.cons (qx encI _ (nl rfl)) AllST.nil))))) az))) ?_)
 refine Goes.sub (show Sub (ofG 40 (kV []),(kAP d.neg d.w (.dead:: .cells [.i k]::(kAV e)))) (ofG 40 (kV []),(kAP d.neg d.w []))from(Sub.norm [] [some 0] rfl rfl (.kp .nil) (.kb rfl (.same sn) .nil))) ?_
 refine Goes.ret ?_
 obtain rfl:=si h
 exact(gw2 [.agg (kAx d.neg d.w)] (FzW.agg (qc.cons (Ua tB) (qc.cons (Ua (qx encI _ (nl rfl))) qc.nil))))
def qa7 (N:Nat) (a:Str):Option (yH×yH):=
 (yP N a).bind fun b=>
 if b=(a.length:Int)then
 (xQ N a).bind fun c=>
 (qdu N 1).bind fun d=>
 some (c,d)
 else
 (cut a 0 b).bind fun e=>
 (xQ N e).bind fun f=>
 (cut a (w64 (b+1)) (a.length:Int)).bind fun g=>
 (xQ N g).bind fun h=>
 some (f,h)
theorem qgB (N:Nat) (a:Str) {res:yH×yH} (h:qa7 N a=some res):qb ZT (.fn 94) [.str a] [] (.tuple [.agg [.bool res.1.neg,vl encI res.1.w],.agg [.bool res.2.neg,vl encI res.2.w]]) []:=by
 unfold qa7 at h
 refine Ub Tryz.func94 rfl rfl (m:=25) rfl (rs:=[.cell 2 124,.cell 3 124]) rfl (l:=(kAI a)) rfl ?_
 refine sg fol ((0,.str a)::(kV (kAz []))) (kR (kR [])) ?_
 refine sh fol (kV (kAz [(4,.str a)])) ?_
 obtain⟨b,c,h⟩:=bnd h
 refine sq (gr fol [1] (kV (kAz ((4,.str a)::(kAo b)))) (ac (cv (qaw N a c)) az) ?_)
 refine sq ?_
 refine sh fol (kV (kAz ((4,.str a)::(5,.i b)::(kAq (decide (b=(a.length:Int))))))) ?_
 refine ihD h (fun t h=>?_) (fun t h=>?_)
 ·obtain⟨n,d,h⟩:=bnd h
  obtain⟨o,e,h⟩:=bnd h
  refine sq (gq fol [1,2] (kV (kAz [])) (kAP n.neg n.w (kAP o.neg o.w [])) (ac (cv (qbA N a d)) (ac (cv (qgs N 1 e)) az)) ?_)
  refine Goes.ret ?_
  obtain rfl:=si h
  exact(gw2 [.agg [.bool n.neg,vl encI n.w],.agg [.bool o.neg,vl encI o.w]] (FzW.tuple (qc.cons (FzW.agg (qc.cons (Ua tB) (qc.cons (Ua (qx encI _ (nl rfl))) qc.nil))) (qc.cons (FzW.agg (qc.cons (Ua tB) (qc.cons (Ua (qx encI _ (nl rfl))) qc.nil))) qc.nil))))
 refine Goes.skip ?_
 obtain⟨r,f,h⟩:=bnd h
 obtain⟨p,g,h⟩:=bnd h
 obtain⟨s,j,h⟩:=bnd h
 obtain⟨q,k,h⟩:=bnd h
 refine sq (gq fol [2,3,7,8] (kV (kAz [])) (kAP p.neg p.w (kAP q.neg q.w [])) (ac (hs (.done (.opt (qW ZT 9 (.str a) none (some (.i b)) none)) (.str r)) (jG st9 none (some b) f)) (ac (cv (qbA N r g)) (ac (hs (.done (.opt (qW ZT 9 (.str a) (some (.i (w64 (b+1)))) none none)) (.str s)) (jG st9 (some (w64 (b+1))) none j)) (ac (cv (qbA N s k)) az)))) ?_)
 refine Goes.ret ?_
 obtain rfl:=si h
 exact(gw2 [.agg [.bool p.neg,vl encI p.w],.agg [.bool q.neg,vl encI q.w]] (FzW.tuple (qc.cons (FzW.agg (qc.cons (Ua tB) (qc.cons (Ua (qx encI _ (nl rfl))) qc.nil))) (qc.cons (FzW.agg (qc.cons (Ua tB) (qc.cons (Ua (qx encI _ (nl rfl))) qc.nil))) qc.nil))))
def jc (a:Str):Nat->Int->Option (Unit⊕Bool)
 |0,_=>none
 |K+1,b=>
  if b<(a.length:Int)then
  ((idx a b).bind fun c=>
  if(c.toNat:Int)<48 then
  some true
  else
  some (decide ((c.toNat:Int)>57)):Option Bool).bind fun d=>
  if d=true then
  some (.inr false)
  else
  jc a K (w64 (b+1))
  else
  some (.inl ())
def qau (N:Nat) (b:Str):Option Bool:=
 (jc b N 0).bind (fun
 |(.inl ())=>
 some true
 |(.inr a)=>
 some a)
theorem qfE (N:Nat) (b:Str) {res:Bool} (h:qau N b=some res):qb ZT (.fn 178) [.str b] [] (.bool res) []:=by
 unfold qau at h
 refine Ub Tryz.func178 rfl rfl (m:=20) rfl (rs:=[.tmp 2]) rfl (l:=(kAI b)) rfl ?_
 refine sh fol (kAI b) ?_
 refine sq ?_
 refine sh fol [(0,.str b),(3,.i 0)] ?_
 refine Goes.block ?_
 obtain⟨f,g2,h⟩:=bnd h
 refine Goes.imp (Q:=fun x s'=>(x= .exit 0/\(.inl ())=f/\Sub s' (ofG 20 [],[]))\/(x= .ret/\ ∃j,(.inr j)=f/\jh ZT [.tmp 2] (.bool j) .ret s')) ?_ ?_
 ·refine Uc (fun M s=> ∃(c:Int),s=(ofG 20 (kAS b c []),[])/\jc b M c=some f) ?_ (m:=N) ⟨_,rfl,g2⟩
  rintro M s ⟨c,rfl,g2⟩
  cases M with
  |zero=>simp only[jc]at g2;cases g2
  |succ M=>
   rw[jc]at g2
   refine sq ?_
   refine sh fol (kAS b c [(7,.bool (decide (c<(b.length:Int))))]) ?_
   refine ihD g2 (fun k g2=>?_) (fun k g2=>?_)
   ·refine Goes.skip ?_
    refine sq (Goes.block ?_)
    refine sq ?_
    obtain⟨n,a,g2⟩:=bnd g2
    refine Goes.cut (s':=(ofG 20 (kAS b c [(19,.bool n)]),[])) ?_ ?_
    ·obtain⟨e,d,a⟩:=bnd a
     rcases wyD a with⟨g,a⟩|⟨g,a⟩
     ·obtain rfl:=si a
      exact tr fol [2,4] (kAS b c [(19,.bool true)]) (ac (hs (.done (.opt (jH ZT 9 (.str b) (.i c))) (.int .u8 (e.toNat:Int))) (qaj st9 d)) (ac (gw g) az))
     obtain rfl:=si a
     exact tr fol [2,4,7] (kAS b c [(19,.bool (decide ((e.toNat:Int)>57)))]) (ac (hs (.done (.opt (jH ZT 9 (.str b) (.i c))) (.int .u8 (e.toNat:Int))) (qaj st9 d)) (ac (gw g) (ac (hs (.done (.opt (jH ZT 9 (.str b) (.i c))) (.int .u8 (e.toNat:Int))) (qaj st9 d)) az)))
    refine ihB g2 (fun o g2=>?_) (fun o g2=>?_)
    ·refine sh fol kAl ?_
     refine Goes.ret ?_
     obtain rfl:=si g2
     exact Or.inr (⟨rfl,_,rfl,(gw2 [.bool false] (Ua tB))⟩)
    refine Goes.skip ?_
    refine gh fol (kAS b (w64 (c+1)) []) ?_
    exact⟨M,(ofG 20 (kAS b (w64 (c+1)) []),[]),Nat.lt_succ_self _,(Sub.refl _),_,rfl,g2⟩
   refine Goes.exit ?_
   obtain rfl:=si g2
   exact Or.inl (⟨rfl,rfl,(Sub.keep [] rfl rfl)⟩)
 rintro x s' (⟨rfl,rfl,hsub⟩|⟨rfl,p,rfl,hret⟩)
 ·try dsimp only at h
  refine Goes.sub hsub ?_
  refine sh fol [(2,.bool true)] ?_
  refine Goes.ret ?_
  obtain rfl:=si h
  exact(gw2 [.bool true] (Ua tB))
 try dsimp only at h
 obtain rfl:=si h
 exact hret
def zV (N:Nat) (a:Str):Option Bool:=
 (if(a.length:Int)=0 then
 some true
 else
 if(a.length:Int)>1 then
 (idx a 0).bind fun b=>
 some (decide ((b.toNat:Int)=48))
 else
 some false:Option Bool).bind fun c=>
 if c=true then
 some false
 else
 (qau N a).bind fun d=>
 some d
theorem zQ (N:Nat) (b:Str) {res:Bool} (h:zV N b=some res):qb ZT (.fn 101) [.str b] [] (.bool res) []:=by
 unfold zV at h
 refine Ub Tryz.func101 rfl rfl (m:=18) rfl (rs:=[.tmp 2]) rfl (l:=(kAI b)) rfl ?_
 refine sh fol (kAI b) ?_
 refine sq ?_
 refine sq ?_
 obtain⟨k,a,h⟩:=bnd h
 refine Goes.cut (s':=(ofG 18 [(0,.str b),(15,.bool k)],[])) ?_ ?_
 ·rcases wyD a with⟨e,a⟩|⟨e,a⟩
  ·obtain rfl:=si a
   exact tr fol [3] [(0,.str b),(15,.bool true)] (ac (gw e) az)
  rcases wyD a with⟨f,a⟩|⟨f,a⟩
  ·obtain⟨g,c,a⟩:=bnd a
   obtain rfl:=si a
   exact tr fol [3,7,9] [(0,.str b),(15,.bool (decide ((g.toNat:Int)=48)))] (ac (gw e) (ac (gw f) (ac (hs (.done (.opt (jH ZT 9 (.str b) (.i 0))) (.int .u8 (g.toNat:Int))) (qaj st9 c)) az)))
  obtain rfl:=si a
  exact tr fol [3,7] [(0,.str b),(15,.bool false)] (ac (gw e) (ac (gw f) az))
 refine ihB h (fun n h=>?_) (fun n h=>?_)
 ·refine sh fol kAl ?_
  refine Goes.ret ?_
  obtain rfl:=si h
  exact(gw2 [.bool false] (Ua tB))
 refine Goes.skip ?_
 obtain⟨j,d,h⟩:=bnd h
 refine sq (gr fol [1] (kAy j) (ac (cv (qfE N b d)) az) ?_)
 refine Goes.ret ?_
 obtain rfl:=si h
 exact(gw2 [.bool j] (Ua tB))
def qR (a:List Int) (b:List Int):Nat->Int->Option (Unit⊕Int)
 |0,_=>none
 |K+1,c=>
  if c>=0 then
  (idx a c).bind fun d=>
  (idx b c).bind fun e=>
  if d<e then
  some (.inr (-1))
  else
  if d>e then
  some (.inr 1)
  else
  qR a b K (w64 (c-1))
  else
  some (.inl ())
def jV (N:Nat) (a:List Int) (b:List Int):Option Int:=
 if(!decide ((a.length:Int)=(b.length:Int)))=true then
 if(a.length:Int)<(b.length:Int)then
 some (-1)
 else
 some 1
 else
 (qR a b N (w64 ((a.length:Int)-1))).bind (fun
 |(.inl ())=>
 some 0
 |(.inr c)=>
 some c)
theorem qcR (N:Nat) (a:List Int) (b:List Int) {res:Int} (h:jV N a b=some res):qb ZT (.fn 175) [vl encI a,vl encI b] [] (.i res) []:=by
 unfold jV at h
 refine Ub Tryz.func175 rfl rfl (m:=41) rfl (rs:=[.tmp 4]) rfl (l:=(kJ a b [])) rfl ?_
 refine sh fol (kJ a b []) ?_
 refine sq ?_
 refine sh fol (kJ a b [(10,.bool (!decide ((a.length:Int)=(b.length:Int))))]) ?_
 refine ihB h (fun o h=>?_) (fun o h=>?_)
 ·refine sq ?_
  refine sh fol [(15,.bool (decide ((a.length:Int)<(b.length:Int))))] ?_
  refine ihD h (fun p h=>?_) (fun p h=>?_)
  ·refine sh fol [(4,.i (-1))] ?_
   refine Goes.ret ?_
   obtain rfl:=si h
   exact(gw2 [.i (-1)] (Ua tI))
  refine Goes.skip ?_
  refine sh fol [(4,.i 1)] ?_
  refine Goes.ret ?_
  obtain rfl:=si h
  exact(gw2 [.i 1] (Ua tI))
 refine Goes.skip ?_
 refine sq ?_
 refine sh fol (kJ a b (kAo (w64 ((a.length:Int)-1)))) ?_
 refine Goes.block ?_
 obtain⟨f,g4,h⟩:=bnd h
 refine Goes.imp (Q:=fun x s'=>(x= .exit 0/\(.inl ())=f/\Sub s' (ofG 41 [],[]))\/(x= .ret/\ ∃j,(.inr j)=f/\jh ZT [.tmp 4] (.i j) .ret s')) ?_ ?_
 ·refine Uc (fun M s=> ∃(e:Int),s=(ofG 41 (kJ a b (kAo e)),[])/\qR a b M e=some f) ?_ (m:=N) ⟨_,rfl,g4⟩
  rintro M s ⟨e,rfl,g4⟩
  cases M with
  |zero=>simp only[qR]at g4;cases g4
  |succ M=>
   rw[qR]at g4
   refine sq ?_
   refine sh fol (kJ a b [(5,.i e),(20,.bool (decide (e>=0)))]) ?_
   refine ihD g4 (fun q g4=>?_) (fun q g4=>?_)
   ·refine Goes.skip ?_
    refine sq (Goes.block ?_)
    refine sq ?_
    obtain⟨k,c,g4⟩:=bnd g4
    obtain⟨n,d,g4⟩:=bnd g4
    refine sq (gr fol [2,3,6,7] (kJ a b [(5,.i e),(31,.bool (decide (k<n)))]) (ac (iv vO encI c) (ac (lv 0 ce3 encI c rfl) (ac (iv vO encI d) (ac (lv 0 ce3 encI d rfl) az)))) ?_)
    refine ihD g4 (fun r g4=>?_) (fun r g4=>?_)
    ·refine sh fol [(4,.i (-1))] ?_
     refine Goes.ret ?_
     obtain rfl:=si g4
     exact Or.inr (⟨rfl,_,rfl,(gw2 [.i (-1)] (Ua tI))⟩)
    refine Goes.skip ?_
    refine sq (gr fol [2,3,6,7] (kJ a b [(5,.i e),(40,.bool (decide (k>n)))]) (ac (iv vO encI c) (ac (lv 0 ce3 encI c rfl) (ac (iv vO encI d) (ac (lv 0 ce3 encI d rfl) az)))) ?_)
    refine ihD g4 (fun g g4=>?_) (fun g g4=>?_)
    ·refine sh fol [(4,.i 1)] ?_
     refine Goes.ret ?_
     obtain rfl:=si g4
     exact Or.inr (⟨rfl,_,rfl,(gw2 [.i 1] (Ua tI))⟩)
    refine Goes.skip ?_
    refine gh fol (kJ a b (kAo (w64 (e-1)))) ?_
    exact⟨M,(ofG 41 (kJ a b (kAo (w64 (e-1)))),[]),Nat.lt_succ_self _,(Sub.refl _),_,rfl,g4⟩
   refine Goes.exit ?_
   obtain rfl:=si g4
   exact Or.inl (⟨rfl,rfl,(Sub.keep [] rfl rfl)⟩)
 rintro x s' (⟨rfl,rfl,hsub⟩|⟨rfl,t,rfl,hret⟩)
 ·try dsimp only at h
  refine Goes.sub hsub ?_
  refine sh fol [(4,.i 0)] ?_
  refine Goes.ret ?_
  obtain rfl:=si h
  exact(gw2 [.i 0] (Ua tI))
 try dsimp only at h
 obtain rfl:=si h
 exact hret
def zq (a:List Int) (b:List Int) (g:Int):Nat->(List Int)->Int->Int->Option ((List Int)×Int)
 |0,_,_,_=>none
 |K+1,h,i,c=>
  if c<(b.length:Int)then
  (idx h (w64 (g+c))).bind fun d=>
  (idx a g).bind fun e=>
  (idx b c).bind fun f=>
  (put h (w64 (g+c)) ((w64 ((w64 (d+(w64 (e*f))))+i)).tmod 1000000000)).bind fun j=>
  zq a b g K j (w64 ((w64 ((w64 (d+(w64 (e*f))))+i)).tdiv 1000000000)) (w64 (c+1))
  else
  some (h,i)
def zn (N:Nat) (a:List Int) (b:List Int):Nat->(List Int)->Int->Option (List Int)
 |0,_,_=>none
 |K+1,h,c=>
  if c<(a.length:Int)then
  (zq a b c N h 0 0).bind fun(d,e)=>
  (idx d (w64 (c+(b.length:Int)))).bind fun f=>
  (put d (w64 (c+(b.length:Int))) (w64 (f+e))).bind fun g=>
  zn N a b K g (w64 (c+1))
  else
  some h
def vR (N:Nat) (a:List Int) (b:List Int):Option (List Int):=
 (mk 8 (w64 ((a.length:Int)+(b.length:Int))) 0).bind fun d=>
 (zn N a b N d 0).bind fun e=>
 (yl N e).bind fun c=>
 some c
theorem qbD (N:Nat) (a:List Int) (b:List Int) {res:List Int} (h:vR N a b=some res):qb ZT (.fn 177) [vl encI a,vl encI b] [] (vl encI res) []:=by
 unfold vR at h
 refine Ub Tryz.func177 rfl rfl (m:=72) rfl (rs:=[.tmp 4]) rfl (l:=(kJ a b [])) rfl ?_
 refine sh fol (kJ a b []) ?_
 obtain⟨H,I,h⟩:=bnd h
 refine sq (gq fol [5] (kJ a b (kB H [])) (kC H []) (ac (hs (.run [] (zU ZT 75 (.i (w64 ((a.length:Int)+(b.length:Int)))) (.i (w64 ((a.length:Int)+(b.length:Int))))) [] (.slice 0 0 H.length H.length 1) (kC H []) false) (qcv vO (E:=encI) (z:=0) rfl (by kernel_rfl) I rfl)) az) ?_)
 refine sq ?_
 refine sh fol (kJ a b (kB H [(6,.i 0)])) ?_
 refine Goes.block ?_
 obtain⟨L,g5,h⟩:=bnd h
 refine Goes.imp (Q:=fun x s'=>(x= .exit 0/\ ∃t,t=L/\Sub s' (ofG 72 (kB t []),(kC t [])))) ?_ ?_
 ·refine Uc (fun M s=> ∃(D:List Int) (c:Int),s=(ofG 72 (kJ a b (kB D [(6,.i c)])),(kC D []))/\zn N a b M D c=some L) ?_ (m:=N) ⟨_,_,rfl,g5⟩
  rintro M s ⟨D,c,rfl,g5⟩
  cases M with
  |zero=>simp only[zn]at g5;cases g5
  |succ M=>
   rw[zn]at g5
   refine sq ?_
   refine sh fol (kJ a b (kB D [(6,.i c),(19,.bool (decide (c<(a.length:Int))))])) ?_
   refine ihD g5 (fun O g5=>?_) (fun O g5=>?_)
   ·refine Goes.skip ?_
    refine sq (Goes.block ?_)
    refine sh fol (kJ a b (kB D [(6,.i c),(7,.i 0)])) ?_
    refine sq ?_
    refine sh fol (kJ a b (kB D [(6,.i c),(7,.i 0),(8,.i 0)])) ?_
    refine Goes.block ?_
    obtain⟨J,g12,g5⟩:=bnd g5
    refine Goes.imp (Q:=fun x s'=>(x= .exit 2/\ ∃d u,(d,u)=J/\Sub s' (ofG 72 (kJ a b (kB d [(6,.i c),(7,.i u)])),(kC d [])))) ?_ ?_
    ·refine Uc (fun M s=> ∃(p:List Int) (r:Int) (o:Int),s=(ofG 72 (kJ a b (kB p ((6,.i c)::(kAf r o)))),(kC p []))/\zq a b c M p r o=some J) ?_ (m:=N) ⟨_,_,_,rfl,g12⟩
     rintro M s ⟨p,r,o,rfl,g12⟩
     cases M with
     |zero=>simp only[zq]at g12;cases g12
     |succ M=>
      rw[zq]at g12
      refine sq ?_
      refine sh fol (kJ a b (kB p [(6,.i c),(7,.i r),(8,.i o),(25,.bool (decide (o<(b.length:Int))))])) ?_
      refine ihD g12 (fun K g12=>?_) (fun K g12=>?_)
      ·refine Goes.skip ?_
       refine sq (Goes.block ?_)
       obtain⟨e,f,g12⟩:=bnd g12
       obtain⟨g,v,g12⟩:=bnd g12
       obtain⟨j,w,g12⟩:=bnd g12
       refine sq (gr fol [4,5,8,9,12,13] (kJ a b (kB p [(6,.i c),(8,.i o),(9,.i (w64 ((w64 (e+(w64 (g*j))))+r)))])) (ac (hs (.done (.opt (qd ZT 75 (.slice 0 0 p.length p.length 1) (.i (w64 (c+o))))) (.ptr 0 ((w64 (c+o):Int).toNat*1+0))) (xS vO f)) (ac (hs (.run [0] (zR ZT 3 (.ptr 0 ((w64 (c+o):Int).toNat*1+0))) (kC p []) (.i e) (kC p []) false) (qbR ce3 (E:=encI) (l:=p) rfl rfl f (nl rfl) rfl)) (ac (iv vO encI v) (ac (lv 0 ce3 encI v rfl) (ac (iv vO encI w) (ac (lv 0 ce3 encI w rfl) az)))))) ?_)
       obtain⟨k,A,g12⟩:=bnd g12
       refine sq (gq fol [6,7] (kJ a b (kB p [(6,.i c),(8,.i o),(9,.i (w64 ((w64 (e+(w64 (g*j))))+r)))])) (kC k []) (ac (hs (.done (.opt (qd ZT 75 (.slice 0 0 p.length p.length 1) (.i (w64 (c+o))))) (.ptr 0 ((w64 (c+o):Int).toNat*1+0))) (xS vO f)) (ac (hs (.run [0] (qp ZT 3 (.ptr 0 ((w64 (c+o):Int).toNat*1+0)) (.i ((w64 ((w64 (e+(w64 (g*j))))+r)).tmod 1000000000))) (kC p []) .undef (kC k []) true) (xI (E:=encI) (l:=p) (y:=(w64 ((w64 (e+(w64 (g*j))))+r)).tmod 1000000000) rfl (show _=some 1 by kernel_rfl) rfl f rfl rfl rfl rfl rfl A rfl)) az)) ?_)
       refine Goes.sub (show Sub (ofG 72 (kJ a b (kB p [(6,.i c),(8,.i o),(9,.i (w64 ((w64 (e+(w64 (g*j))))+r)))])),(kC k [])) (ofG 72 (kJ a b (kB k [(6,.i c),(8,.i o),(9,.i (w64 ((w64 (e+(w64 (g*j))))+r)))])),(kC k []))from(Sub.norm [] [some 0] rfl rfl (.keep (.same (qg encI _)) (.keep (.same (qg encI _)) (.keep (.sliceE rfl (j6 A)) (.keep (.same nI) (.keep (.same nI) (.keep (.same nI) .nil)))))) (.ks .nil))) ?_
       refine gh fol (kJ a b (kB k ((6,.i c)::(kAf (w64 ((w64 ((w64 (e+(w64 (g*j))))+r)).tdiv 1000000000)) o)))) ?_
       refine gh fol (kJ a b (kB k ((6,.i c)::(kAf (w64 ((w64 ((w64 (e+(w64 (g*j))))+r)).tdiv 1000000000)) (w64 (o+1)))))) ?_
       exact⟨M,(ofG 72 (kJ a b (kB k ((6,.i c)::(kAf (w64 ((w64 ((w64 (e+(w64 (g*j))))+r)).tdiv 1000000000)) (w64 (o+1)))))),(kC k [])),Nat.lt_succ_self _,(Sub.refl _),_,_,_,rfl,g12⟩
      refine Goes.exit ?_
      obtain rfl:=si g12
      exact⟨rfl,_,_,rfl,(Sub.keep [0,1,5,6,7] rfl rfl)⟩
    rintro x s' ⟨rfl,d,u,rfl,hsub⟩
    try dsimp only at g5
    refine Goes.sub hsub ?_
    obtain⟨F,n,g5⟩:=bnd g5
    obtain⟨q,B,g5⟩:=bnd g5
    refine gq fol [10,11,14,15] (kJ a b (kB d [(6,.i c)])) (kC q []) (ac (hs (.done (.opt (qd ZT 75 (.slice 0 0 d.length d.length 1) (.i (w64 (c+(b.length:Int)))))) (.ptr 0 ((w64 (c+(b.length:Int)):Int).toNat*1+0))) (xS vO n)) (ac (hs (.run [0] (zR ZT 3 (.ptr 0 ((w64 (c+(b.length:Int)):Int).toNat*1+0))) (kC d []) (.i F) (kC d []) false) (qbR ce3 (E:=encI) (l:=d) rfl rfl n (nl rfl) rfl)) (ac (hs (.done (.opt (qd ZT 75 (.slice 0 0 d.length d.length 1) (.i (w64 (c+(b.length:Int)))))) (.ptr 0 ((w64 (c+(b.length:Int)):Int).toNat*1+0))) (xS vO n)) (ac (hs (.run [0] (qp ZT 3 (.ptr 0 ((w64 (c+(b.length:Int)):Int).toNat*1+0)) (.i (w64 (F+u)))) (kC d []) .undef (kC q []) true) (xI (E:=encI) (l:=d) (y:=w64 (F+u)) rfl (show _=some 1 by kernel_rfl) rfl n rfl rfl rfl rfl rfl B rfl)) az)))) ?_
    refine Goes.sub (show Sub (ofG 72 (kJ a b (kB d [(6,.i c)])),(kC q [])) (ofG 72 (kJ a b (kB q [(6,.i c)])),(kC q []))from(Sub.norm [] [some 0] rfl rfl (.keep (.same (qg encI _)) (.keep (.same (qg encI _)) (.keep (.sliceE rfl (j6 B)) (.keep (.same nI) .nil)))) (.ks .nil))) ?_
    refine gh fol (kJ a b (kB q [(6,.i (w64 (c+1)))])) ?_
    exact⟨M,(ofG 72 (kJ a b (kB q [(6,.i (w64 (c+1)))])),(kC q [])),Nat.lt_succ_self _,(Sub.refl _),_,_,rfl,g5⟩
   refine Goes.exit ?_
   obtain rfl:=si g5
   exact⟨rfl,_,rfl,(Sub.keep [5] rfl rfl)⟩
 rintro x s' ⟨rfl,t,rfl,hsub⟩
 refine Goes.sub hsub ?_
 obtain⟨C,G,h⟩:=bnd h
 refine sq (gq fol [1] [(4,vl encI C)] (kAV t) (ac (hs (.callF 232 [.slice 0 0 t.length t.length 1] (kC t []) [0] [vl encI t] (vl encI C)) (qaA (FzL.cons (Fz.sl (E:=encI) rfl rfl (nl rfl)) FzL.nil) (xk N t G) (qx encI _ (nl rfl)))) az) ?_)
 refine Goes.sub (show Sub (ofG 72 [(4,vl encI C)],(kAV t)) (ofG 72 [(4,vl encI C)],[])from(Sub.norm [] [] rfl rfl (.keep (.same (qg encI _)) .nil) .nil)) ?_
 refine Goes.ret ?_
 obtain rfl:=si h
 exact(gw2 [vl encI C] (Ua (qx encI _ (nl rfl))))
def zG (a:List Int) (d:Int):Nat->(List Int)->Int->Int->Option ((List Int)×Int)
 |0,_,_,_=>none
 |K+1,c,e,b=>
  if b>=0 then
  (idx a b).bind fun i=>
  (qcK .i64 (w64 ((w64 (e*1000000000))+i)) d).bind fun f=>
  (idx c b).bind fun j=>
  (put c b f).bind fun g=>
  (qe2 .i64 (w64 ((w64 (e*1000000000))+i)) d).bind fun h=>
  zG a d K g h (w64 (b-1))
  else
  some (c,e)
def yB (N:Nat) (a:List Int) (d:Int):Option ((List Int)×Int):=
 (mk 8 (a.length:Int) 0).bind fun c=>
 (zG a d N c 0 (w64 ((a.length:Int)-1))).bind fun(e,f)=>
 (yl N e).bind fun b=>
 some (b,f)
theorem qbW (N:Nat) (a:List Int) (d:Int) {res:(List Int)×Int} (h:yB N a d=some res):qb ZT (.fn 231) [vl encI a,.i d] [] (.tuple [vl encI res.1,.i res.2]) []:=by
 unfold yB at h
 refine Ub Tryz.func231 rfl rfl (m:=39) rfl (rs:=[.tmp 4,.tmp 5]) rfl (l:=(kAX a [(1,.i d)])) rfl ?_
 refine sh fol (kAX a [(1,.i d)]) ?_
 obtain⟨q,B,h⟩:=bnd h
 refine sq (gq fol [2] (kAX a ((1,.i d)::(kO q []))) (kC q []) (ac (hs (.run [] (zU ZT 75 (.i (a.length:Int)) (.i (a.length:Int))) [] (.slice 0 0 q.length q.length 1) (kC q []) false) (qcv vO (E:=encI) (z:=0) rfl (by kernel_rfl) B rfl)) az) ?_)
 refine sh fol (kAX a ((1,.i d)::(kO q [(7,.i 0)]))) ?_
 refine sq ?_
 refine sh fol (kAX a ((1,.i d)::(kO q [(7,.i 0),(8,.i (w64 ((a.length:Int)-1)))]))) ?_
 refine Goes.block ?_
 obtain⟨C,g7,h⟩:=bnd h
 refine Goes.imp (Q:=fun x s'=>(x= .exit 0/\ ∃f r,(f,r)=C/\Sub s' (ofG 39 (kO f [(7,.i r)]),(kC f [])))) ?_ ?_
 ·refine Uc (fun M s=> ∃(e:List Int) (n:Int) (c:Int),s=(ofG 39 (kAX a ((1,.i d)::(kO e (kAf n c)))),(kC e []))/\zG a d M e n c=some C) ?_ (m:=N) ⟨_,_,_,rfl,g7⟩
  rintro M s ⟨e,n,c,rfl,g7⟩
  cases M with
  |zero=>simp only[zG]at g7;cases g7
  |succ M=>
   rw[zG]at g7
   refine sq ?_
   refine sh fol (kAX a ((1,.i d)::(kO e [(7,.i n),(8,.i c),(17,.bool (decide (c>=0)))]))) ?_
   refine ihD g7 (fun D g7=>?_) (fun D g7=>?_)
   ·refine Goes.skip ?_
    refine sq (Goes.block ?_)
    obtain⟨A,p,g7⟩:=bnd g7
    refine sq (gr fol [4,5] (kAX a ((1,.i d)::(kO e [(8,.i c),(9,.i (w64 ((w64 (n*1000000000))+A)))]))) (ac (iv vO encI p) (ac (lv 0 ce3 encI p rfl) az)) ?_)
    obtain⟨t,u,g7⟩:=bnd g7
    obtain⟨F,g,g7⟩:=bnd g7
    obtain⟨b,j,g7⟩:=bnd g7
    refine sq (gq fol [4,5,6] (kAX a ((1,.i d)::(kO e [(8,.i c),(9,.i (w64 ((w64 (n*1000000000))+A)))]))) (kC b []) (ac (hs (.done (.opt (zy ZT .quo 3 (.tmp 29) (.tmp 30) (.i (w64 ((w64 (n*1000000000))+A))) (.i d))) (.i t)) (qcC u)) (ac (hs (.done (.opt (qd ZT 75 (.slice 0 0 e.length e.length 1) (.i c))) (.ptr 0 ((c:Int).toNat*1+0))) (xS vO g)) (ac (hs (.run [0] (qp ZT 3 (.ptr 0 ((c:Int).toNat*1+0)) (.i t)) (kC e []) .undef (kC b []) true) (xI (E:=encI) (l:=e) (y:=t) rfl (show _=some 1 by kernel_rfl) rfl g rfl rfl rfl rfl rfl j rfl)) az))) ?_)
    refine Goes.sub (show Sub (ofG 39 (kAX a ((1,.i d)::(kO e [(8,.i c),(9,.i (w64 ((w64 (n*1000000000))+A)))]))),(kC b [])) (ofG 39 (kAX a ((1,.i d)::(kO b [(8,.i c),(9,.i (w64 ((w64 (n*1000000000))+A)))]))),(kC b []))from(Sub.norm [] [some 0] rfl rfl (.keep (.same (qg encI _)) (.keep (.same nI) (.keep (.sliceE rfl (j6 j)) (.keep (.same nI) (.keep (.same nI) .nil))))) (.ks .nil))) ?_
    obtain⟨o,v,g7⟩:=bnd g7
    refine gr fol [2] (kAX a ((1,.i d)::(kO b (kAf o c)))) (ac (hs (.done (.opt (zy ZT .rem 3 (.tmp 33) (.tmp 34) (.i (w64 ((w64 (n*1000000000))+A))) (.i d))) (.i o)) (qfU v)) az) ?_
    refine gh fol (kAX a ((1,.i d)::(kO b (kAf o (w64 (c-1)))))) ?_
    exact⟨M,(ofG 39 (kAX a ((1,.i d)::(kO b (kAf o (w64 (c-1)))))),(kC b [])),Nat.lt_succ_self _,(Sub.refl _),_,_,_,rfl,g7⟩
   refine Goes.exit ?_
   obtain rfl:=si g7
   exact⟨rfl,_,_,rfl,(Sub.keep [6,7] rfl rfl)⟩
 rintro x s' ⟨rfl,f,r,rfl,hsub⟩
 try dsimp only at h
 refine Goes.sub hsub ?_
 obtain⟨k,w,h⟩:=bnd h
 refine sq (gq fol [1] ((4,vl encI k)::(kAo r)) (kAV f) (ac (hs (.callF 232 [.slice 0 0 f.length f.length 1] (kC f []) [0] [vl encI f] (vl encI k)) (qaA (FzL.cons (Fz.sl (E:=encI) rfl rfl (nl rfl)) FzL.nil) (xk N f w) (qx encI _ (nl rfl)))) az) ?_)
 refine Goes.sub (show Sub (ofG 39 ((4,vl encI k)::(kAo r)),(kAV f)) (ofG 39 ((4,vl encI k)::(kAo r)),[])from(Sub.norm [] [] rfl rfl (.keep (.same (qg encI _)) (.keep (.same nI) .nil)) .nil)) ?_
 refine Goes.ret ?_
 obtain rfl:=si h
 exact(gw2 [vl encI k,.i r] (FzW.tuple (qc.cons (Ua (qx encI _ (nl rfl))) (qc.cons (Ua tI) qc.nil))))
def jF (u:List Int) (v:List Int) (j:Int):Nat->Int->Int->Option (Int⊕Int)
 |0,_,_=>none
 |K+1,c,a=>
  (if a>=1000000000 then
  some true
  else
  (idx v (w64 ((v.length:Int)-2))).bind fun d=>
  (idx u (w64 ((w64 (j+(v.length:Int)))-2))).bind fun e=>
  some (decide ((w64 (a*d))>(w64 ((w64 (c*1000000000))+e)))):Option Bool).bind fun f=>
  if f=true then
  (idx v (w64 ((v.length:Int)-1))).bind fun b=>
  if(w64 (c+b))>=1000000000 then
  some (.inr (w64 (a-1)))
  else
  jF u v j K (w64 (c+b)) (w64 (a-1))
  else
  some (.inl a)
def xP (N:Nat) (u:List Int) (v:List Int) (j:Int):Option Int:=
 (idx u (w64 (j+(v.length:Int)))).bind fun b=>
 (idx u (w64 ((w64 (j+(v.length:Int)))-1))).bind fun c=>
 (idx v (w64 ((v.length:Int)-1))).bind fun d=>
 (qcK .i64 (w64 ((w64 (b*1000000000))+c)) d).bind fun e=>
 (qe2 .i64 (w64 ((w64 (b*1000000000))+c)) d).bind fun f=>
 (jF u v j N f e).bind (fun
 |(.inl g)=>
 some g
 |(.inr a)=>
 some a)
theorem qgF (N:Nat) (u:List Int) (v:List Int) (j:Int) {res:Int} (h:xP N u v j=some res):qb ZT (.fn 233) [vl encI u,vl encI v,.i j] [] (.i res) []:=by
 unfold xP at h
 refine Ub Tryz.func233 rfl rfl (m:=77) rfl (rs:=[.tmp 6]) rfl (l:=(kJ u v (kAi j))) rfl ?_
 refine sh fol (kJ u v (kAi j)) ?_
 refine sh fol (kJ u v [(2,.i j),(7,.i (v.length:Int))]) ?_
 obtain⟨y,n,h⟩:=bnd h
 obtain⟨z,o,h⟩:=bnd h
 refine sq (gr fol [4,5,12,13] (kJ u v ((2,.i j)::(kAf (v.length:Int) (w64 ((w64 (y*1000000000))+z))))) (ac (iv vO encI n) (ac (lv 0 ce3 encI n rfl) (ac (iv vO encI o) (ac (lv 0 ce3 encI o rfl) az)))) ?_)
 obtain⟨G,b,h⟩:=bnd h
 obtain⟨H,q,h⟩:=bnd h
 obtain⟨I,r,h⟩:=bnd h
 refine sq (gr fol [4,5,6,11,12,13] (kJ u v (kAc j (v.length:Int) H I [])) (ac (iv vO encI b) (ac (lv 0 ce3 encI b rfl) (ac (hs (.done (.opt (zy ZT .quo 3 (.tmp 28) (.tmp 33) (.i (w64 ((w64 (y*1000000000))+z))) (.i G))) (.i H)) (qcC q)) (ac (iv vO encI b) (ac (lv 0 ce3 encI b rfl) (ac (hs (.done (.opt (zy ZT .rem 3 (.tmp 35) (.tmp 40) (.i (w64 ((w64 (y*1000000000))+z))) (.i G))) (.i I)) (qfU r)) az)))))) ?_)
 refine sq (Goes.block ?_)
 obtain⟨A,g9,h⟩:=bnd h
 refine Goes.imp (Q:=fun x s'=>(x= .exit 0/\ ∃t,(.inl t)=A/\Sub s' (ofG 77 [(9,.i t)],[]))\/(x= .ret/\ ∃w,(.inr w)=A/\jh ZT [.tmp 6] (.i w) .ret s')) ?_ ?_
 ·refine Uc (fun M s=> ∃(d:Int) (c:Int),s=(ofG 77 (kJ u v (kAc j (v.length:Int) c d [])),[])/\jF u v j M d c=some A) ?_ (m:=N) ⟨_,_,rfl,g9⟩
  rintro M s ⟨d,c,rfl,g9⟩
  cases M with
  |zero=>simp only[jF]at g9;cases g9
  |succ M=>
   rw[jF]at g9
   refine sq ?_
   refine sq ?_
   obtain⟨B,a,g9⟩:=bnd g9
   refine Goes.cut (s':=(ofG 77 (kJ u v (kAc j (v.length:Int) c d [(63,.bool B)])),[])) ?_ ?_
   ·rcases wyD a with⟨p,a⟩|⟨p,a⟩
    ·obtain rfl:=si a
     exact tr fol [2] (kJ u v (kAc j (v.length:Int) c d [(63,.bool true)])) (ac (gw p) az)
    obtain⟨C,e,a⟩:=bnd a
    obtain⟨D,f,a⟩:=bnd a
    obtain rfl:=si a
    exact tr fol [2,7,8,17,18] (kJ u v (kAc j (v.length:Int) c d [(63,.bool (decide ((w64 (c*C))>(w64 ((w64 (d*1000000000))+D)))))])) (ac (gw p) (ac (iv vO encI e) (ac (lv 0 ce3 encI e rfl) (ac (iv vO encI f) (ac (lv 0 ce3 encI f rfl) az)))))
   refine ihB g9 (fun E g9=>?_) (fun E g9=>?_)
   ·refine Goes.skip ?_
    refine Goes.block ?_
    refine sh fol (kJ u v (kAc j (v.length:Int) (w64 (c-1)) d [])) ?_
    obtain⟨k,g,g9⟩:=bnd g9
    refine sq (gr fol [4,5] (kJ u v (kAc j (v.length:Int) (w64 (c-1)) (w64 (d+k)) [])) (ac (iv vO encI g) (ac (lv 0 ce3 encI g rfl) az)) ?_)
    refine sh fol (kJ u v (kAc j (v.length:Int) (w64 (c-1)) (w64 (d+k)) [(74,.bool (decide ((w64 (d+k))>=1000000000)))])) ?_
    refine ihD g9 (fun F g9=>?_) (fun F g9=>?_)
    ·refine sh fol [(6,.i (w64 (c-1)))] ?_
     refine Goes.ret ?_
     obtain rfl:=si g9
     exact Or.inr (⟨rfl,_,rfl,(gw2 [.i (w64 (c-1))] (Ua tI))⟩)
    refine Goes.skip ?_
    exact⟨M,(ofG 77 (kJ u v (kAc j (v.length:Int) (w64 (c-1)) (w64 (d+k)) [])),[]),Nat.lt_succ_self _,(Sub.keep [0,1,2,7,9,10] rfl rfl),_,_,rfl,g9⟩
   refine Goes.exit ?_
   obtain rfl:=si g9
   exact Or.inl (⟨rfl,_,rfl,(Sub.keep [9] rfl rfl)⟩)
 rintro x s' (⟨rfl,t,rfl,hsub⟩|⟨rfl,J,rfl,hret⟩)
 ·try dsimp only at h
  refine Goes.sub hsub ?_
  refine sh fol [(6,.i t)] ?_
  refine Goes.ret ?_
  obtain rfl:=si h
  exact(gw2 [.i t] (Ua tI))
 try dsimp only at h
 obtain rfl:=si h
 exact hret
def zO (a:List Int):Nat->(List Int)->Option (List Int)
 |0,_=>none
 |K+1,b=>
  if(b.length:Int)<(w64 ((a.length:Int)+1))then
  (app 8 b [0]).bind fun c=>
  zO a K c
  else
  some b
def qP (h:List Int) (e:Int) (a:Int):Nat->(List Int)->Int->Int->Option ((List Int)×Int)
 |0,_,_,_=>none
 |K+1,f,b,c=>
  if c<(h.length:Int)then
  (idx h c).bind fun d=>
  (idx f (w64 (c+e))).bind fun g=>
  ((if(w64 (g-((w64 ((w64 (a*d))+b)).tmod 1000000000)))<0 then
  some (w64 ((w64 ((w64 ((w64 (a*d))+b)).tdiv 1000000000))+1),w64 ((w64 (g-((w64 ((w64 (a*d))+b)).tmod 1000000000)))+1000000000))
  else
  some (w64 ((w64 ((w64 (a*d))+b)).tdiv 1000000000),w64 (g-((w64 ((w64 (a*d))+b)).tmod 1000000000))):Option (Int×Int))).bind fun(i,j)=>
  (put f (w64 (c+e)) j).bind fun k=>
  qP h e a K k i (w64 (c+1))
  else
  some (f,b)
def kg (h:List Int) (b:Int) (e:Int):Nat->(List Int)->Int->Int->Option ((List Int)×Int×Int)
 |0,_,_,_=>none
 |K+1,c,d,a=>
  if a<(h.length:Int)then
  (idx c (w64 (a+b))).bind fun f=>
  (idx h a).bind fun g=>
  (put c (w64 (a+b)) ((w64 ((w64 (f+g))+d)).tmod 1000000000)).bind fun i=>
  kg h b e K i (w64 ((w64 ((w64 (f+g))+d)).tdiv 1000000000)) (w64 (a+1))
  else
  some (c,w64 (e-1),d)
def zm (N:Nat) (b:List Int):Nat->(List Int)->(List Int)->Int->Option ((List Int)×(List Int))
 |0,_,_,_=>none
 |K+1,c,d,a=>
  if a>=0 then
  (xP N c b a).bind fun e=>
  (qP b a e N c 0 0).bind fun(g,i)=>
  (idx g (w64 (a+(b.length:Int)))).bind fun j=>
  (put g (w64 (a+(b.length:Int))) (w64 (j-i))).bind fun f=>
  (idx f (w64 (a+(b.length:Int)))).bind fun k=>
  ((if k<0 then
  (kg b a e N f 0 0).bind fun(h,l,m)=>
  (idx h (w64 (a+(b.length:Int)))).bind fun n=>
  (put h (w64 (a+(b.length:Int))) (w64 (n+m))).bind fun o=>
  some (o,l)
  else
  some (f,e):Option ((List Int)×Int))).bind fun(p,q)=>
  (idx d a).bind fun s=>
  (put d a q).bind fun r=>
  zm N b K p r (w64 (a-1))
  else
  some (c,d)
def xc (N:Nat) (a:List Int) (b:List Int):Option ((List Int)×(List Int)):=
 (jV N a b).bind fun q=>
 if q<0 then
 some ([],a)
 else
 if(b.length:Int)=1 then
 (idx b 0).bind fun r=>
 (yB N a r).bind fun p=>
 (yl N ([p.2]:List Int)).bind fun s=>
 some (p.1,s)
 else
 (idx b (w64 ((b.length:Int)-1))).bind fun t=>
 (qcK .i64 1000000000 (w64 (t+1))).bind fun e=>
 (vR N b ([e]:List Int)).bind fun d=>
 (vR N a ([e]:List Int)).bind fun f=>
 (app 8 ([]:List Int) f).bind fun g=>
 (zO a N g).bind fun c=>
 (mk 8 (w64 ((c.length:Int)-(d.length:Int))) 0).bind fun h=>
 (zm N d N c h (w64 ((w64 ((c.length:Int)-(d.length:Int)))-1))).bind fun(i,j)=>
 (cut i 0 (d.length:Int)).bind fun k=>
 (yl N k).bind fun l=>
 (idx ([e]:List Int) 0).bind fun m=>
 (yB N l m).bind fun n=>
 (yl N j).bind fun o=>
 some (o,n.1)
theorem qep (N:Nat) (a:List Int) (b:List Int) {res:(List Int)×(List Int)} (h:xc N a b=some res):qb ZT (.fn 172) [vl encI a,vl encI b] [] (.tuple [vl encI res.1,vl encI res.2]) []:=by
 unfold xc at h
 refine Ub Tryz.func172 rfl rfl (m:=206) rfl (rs:=[.tmp 4,.tmp 5]) rfl (l:=(kJ a b [])) rfl ?_
 refine sh fol (kJ a b []) ?_
 refine sq ?_
 obtain⟨r1,e_r1,h⟩:=bnd h
 refine sq (gr fol [2] (kJ a b [(27,.bool (decide (r1<0)))]) (ac (cv (qcR N a b e_r1)) az) ?_)
 refine ihD h (fun c2 h=>?_) (fun c2 h=>?_)
 ·refine sh fol [(4,.nilslice),(5,vl encI a)] ?_
  refine Goes.ret ?_
  obtain rfl:=si h
  exact(gw2 [.nilslice,vl encI a] (FzW.tuple (qc.cons (FzW.nilv (E:=encI)) (qc.cons (Ua (qx encI _ (nl rfl))) qc.nil))))
 refine Goes.skip ?_
 refine sq ?_
 refine sh fol (kJ a b [(31,.bool (decide ((b.length:Int)=1)))]) ?_
 refine ihD h (fun c3 h=>?_) (fun c3 h=>?_)
 ·obtain⟨x4,e_x4,h⟩:=bnd h
  obtain⟨r5,e_r5,h⟩:=bnd h
  refine sq (gr fol [2,3,4] [(6,vl encI r5.1),(7,.i r5.2)] (ac (iv vO encI e_x4) (ac (lv 0 ce3 encI e_x4 rfl) (ac (cv (qbW N a x4 e_r5)) az))) ?_)
  obtain⟨r6,e_r6,h⟩:=bnd h
  refine sq (gq fol [3] (kAu r5.1 r6) [.frozen [.i r5.2]] (ac (hs (.callF 232 [.slice 0 0 1 1 1] [.cells [.i r5.2]] [0] [vl encI ([r5.2]:List Int)] (vl encI r6)) (qaA (FzL.cons (Fz.lit rfl rfl (Ue (AllST.cons tI AllST.nil))) FzL.nil) (xk N ([r5.2]:List Int) e_r6) (qx encI _ (nl rfl)))) az) ?_)
  refine Goes.sub (show Sub (ofG 206 (kAu r5.1 r6),[.frozen [.i r5.2]]) (ofG 206 (kAu r5.1 r6),[])from(Sub.norm [] [] rfl rfl (.keep (.same (qg encI _)) (.keep (.same (qg encI _)) .nil)) .nil)) ?_
  refine Goes.ret ?_
  obtain rfl:=si h
  exact(gw2 [vl encI r5.1,vl encI r6] (FzW.tuple (qc.cons (Ua (qx encI _ (nl rfl))) (qc.cons (Ua (qx encI _ (nl rfl))) qc.nil))))
 refine Goes.skip ?_
 obtain⟨x7,e_x7,h⟩:=bnd h
 obtain⟨g,e_q8,h⟩:=bnd h
 refine sq (gq fol [4,5,7] (kJ a b [(8,.slice 0 0 1 1 1)]) [.cells [.i g]] (ac (iv vO encI e_x7) (ac (lv 0 ce3 encI e_x7 rfl) (ac (hs (.done (.opt (zy ZT .quo 3 (.const (.int .i64 1000000000)) (.tmp 50) (.i 1000000000) (.i (w64 (x7+1))))) (.i g)) (qcC e_q8)) az))) ?_)
 obtain⟨e,e_r9,h⟩:=bnd h
 refine sq (gq fol [2] (kAX a [(8,.slice 0 0 1 1 1),(9,vl encI e)]) [.frozen [.i g]] (ac (hs (.callF 177 [vl encI b,.slice 0 0 1 1 1] [.cells [.i g]] [0] [vl encI b,vl encI ([g]:List Int)] (vl encI e)) (qaA (FzL.cons (Ul (qx encI _ (nl rfl))) (FzL.cons (Fz.lit rfl rfl (Ue (AllST.cons tI AllST.nil))) FzL.nil)) (qbD N b ([g]:List Int) e_r9) (qx encI _ (nl rfl)))) az) ?_)
 refine Goes.sub (show Sub (ofG 206 (kAX a [(8,.slice 0 0 1 1 1),(9,vl encI e)]),[.frozen [.i g]]) (ofG 206 (kAX a [(8,vl encI ([g]:List Int)),(9,vl encI e)]),[])from(Sub.norm [0] [] rfl rfl (.keep (.same (qg encI _)) (.keep (.frz (Fz.litF rfl rfl (Ue (AllST.cons tI AllST.nil))) (qg encI _)) (.keep (.same (qg encI _)) .nil))) .nil)) ?_
 refine sh fol (kAX a [(8,vl encI ([g]:List Int)),(9,vl encI e),(10,.i (e.length:Int))]) ?_
 obtain⟨r10,e_r10,h⟩:=bnd h
 obtain⟨a1,e_l11,h⟩:=bnd h
 refine sq (gq fol [3,4] (kAX a [(8,vl encI ([g]:List Int)),(9,vl encI e),(10,.i (e.length:Int)),(11,.oslice 1 a1.length 1)]) (.dead::(kC a1 [])) (ac (cv (qbD N a ([g]:List Int) e_r10)) (ac (hs (.run [0] (qah ZT [75,75] (.slice 0 0 0 0 1) (vl encI r10)) [.cells []] (.oslice 1 a1.length 1) (.dead::(kC a1 [])) true) (qd1 vO (E:=encI) rfl (src_v (E:=encI) rfl _) (dst_z (E:=encI) rfl rfl rfl e_l11 rfl))) az)) ?_)
 refine sq (Goes.block ?_)
 obtain⟨r14,g14,h⟩:=bnd h
 refine Goes.imp (Q:=fun x s'=>(x= .exit 0/\ ∃C,C=r14/\Sub s' (ofG 206 (kAN ([g]:List Int) e (e.length:Int) C []),(kC C [])))) ?_ ?_
 ·refine Goes.sub (s':=(ofG 206 (kAX a (kAN ([g]:List Int) e (e.length:Int) a1 [])),(kC a1 []))) (Sub.norm [] [some 1] rfl rfl (.keep (.same (qg encI _)) (.keep (.same (qg encI _)) (.keep (.same (qg encI _)) (.keep (.same nI) (.keep (.oslice rfl) .nil))))) (.ks .nil)) ?_
  refine Uc (fun M s=> ∃(I:List Int),s=(ofG 206 (kAX a (kAN ([g]:List Int) e (e.length:Int) I [])),(kC I []))/\zO a M I=some r14) ?_ (m:=N) ⟨_,rfl,g14⟩
  rintro M s ⟨I,rfl,g14⟩
  cases M with
  |zero=>simp only[zO]at g14;cases g14
  |succ M=>
   rw[zO]at g14
   refine sq ?_
   refine sh fol (kAX a (kAN ([g]:List Int) e (e.length:Int) I [(68,.bool (decide ((I.length:Int)<(w64 ((a.length:Int)+1)))))])) ?_
   refine ihD g14 (fun c15 g14=>?_) (fun c15 g14=>?_)
   ·refine Goes.skip ?_
    refine Goes.block ?_
    obtain⟨a2,e_l16,g14⟩:=bnd g14
    refine gq fol [2] (kAX a [(8,vl encI ([g]:List Int)),(9,vl encI e),(10,.i (e.length:Int)),(11,.oslice 2 a2.length 1)]) (.dead:: .cells [.i 0]::(kC a2 [])) (ac (hs (.run [0,1] (qah ZT [75,75] (.oslice 0 I.length 1) (.slice 1 0 1 1 1)) (kC I [.cells [.i 0]]) (.oslice 2 a2.length 1) (.dead:: .cells [.i 0]::(kC a2 [])) true) (qd1 vO (E:=encI) rfl (qiI (E:=encI) (ys:=[0]) rfl rfl rfl rfl) (dst_o (E:=encI) (l:=I) rfl rfl rfl e_l16 rfl))) az) ?_
    exact⟨M,(ofG 206 (kAX a (kAN ([g]:List Int) e (e.length:Int) a2 [])),(kC a2 [])),Nat.lt_succ_self _,(Sub.norm [] [some 2] rfl rfl (.keep (.same (qg encI _)) (.keep (.same (qg encI _)) (.keep (.same (qg encI _)) (.keep (.same nI) (.keep (.oslice rfl) .nil))))) (.ks .nil)),_,rfl,g14⟩
   refine Goes.exit ?_
   obtain rfl:=si g14
   exact⟨rfl,_,rfl,(Sub.keep [8,9,10,11] rfl rfl)⟩
 rintro x s' ⟨rfl,C,rfl,hsub⟩
 refine Goes.sub hsub ?_
 obtain⟨Z,e_l17,h⟩:=bnd h
 refine sq (gq fol [4] (kAN ([g]:List Int) e (e.length:Int) C [(12,.slice 1 0 Z.length Z.length 1)]) (kC C (kC Z [])) (ac (hs (.run [] (zU ZT 75 (.i (w64 ((C.length:Int)-(e.length:Int)))) (.i (w64 ((C.length:Int)-(e.length:Int))))) (kC C []) (.slice 1 0 Z.length Z.length 1) (kC C (kC Z [])) false) (qcv vO (E:=encI) (z:=0) rfl (by kernel_rfl) e_l17 rfl)) az) ?_)
 refine sq ?_
 refine sh fol (kA ([g]:List Int) e (e.length:Int) C Z (w64 ((w64 ((C.length:Int)-(e.length:Int)))-1)) []) ?_
 refine Goes.block ?_
 obtain⟨r23,g23,h⟩:=bnd h
 refine Goes.imp (Q:=fun x s'=>(x= .exit 2/\ ∃a3 p,(a3,p)=r23/\Sub s' (ofG 206 [(8,vl encI ([g]:List Int)),(10,.i (e.length:Int)),(11,.oslice 0 a3.length 1),(12,.slice 1 0 p.length p.length 1)],(kC a3 (kC p []))))) ?_ ?_
 ·refine Uc (fun M s=> ∃(D:List Int) (c:List Int) (d:Int),s=(ofG 206 (kA ([g]:List Int) e (e.length:Int) D c d []),(kC D (kC c [])))/\zm N e M D c d=some r23) ?_ (m:=N) ⟨_,_,_,rfl,g23⟩
  rintro M s ⟨D,c,d,rfl,g23⟩
  cases M with
  |zero=>simp only[zm]at g23;cases g23
  |succ M=>
   rw[zm]at g23
   refine sq ?_
   refine sh fol (kA ([g]:List Int) e (e.length:Int) D c d [(83,.bool (decide (d>=0)))]) ?_
   refine ihD g23 (fun c24 g23=>?_) (fun c24 g23=>?_)
   ·refine Goes.skip ?_
    refine sq (Goes.block ?_)
    obtain⟨f,e_r25,g23⟩:=bnd g23
    refine sq (gr fol [3] (kA ([g]:List Int) e (e.length:Int) D c d [(14,.i f)]) (ac (hs (.call 233 [.oslice 0 D.length 1,vl encI e,.i d] (kC D (kC c [])) [0] [vl encI D,vl encI e,.i d] (.i f)) (qbc (FzL.cons (Fz.os (E:=encI) rfl rfl (nl rfl)) (FzL.cons (Ul (qx encI _ (nl rfl))) (FzL.cons (Ul tI) FzL.nil))) (qgF N D e d e_r25) tI rfl)) az) ?_)
    refine sh fol (kA ([g]:List Int) e (e.length:Int) D c d [(14,.i f),(15,.i 0)]) ?_
    refine sq ?_
    refine sh fol (kA ([g]:List Int) e (e.length:Int) D c d [(14,.i f),(15,.i 0),(16,.i 0)]) ?_
    refine Goes.block ?_
    obtain⟨r31,n,g23⟩:=bnd g23
    refine Goes.imp (Q:=fun x s'=>(x= .exit 4/\ ∃v n30,(v,n30)=r31/\Sub s' (ofG 206 (kA ([g]:List Int) e (e.length:Int) v c d [(14,.i f),(15,.i n30)]),(kC v (kC c []))))) ?_ ?_
    ·refine Uc (fun M s=> ∃(k:List Int) (q:Int) (j:Int),s=(ofG 206 (kA ([g]:List Int) e (e.length:Int) k c d (kAU f q j [])),(kC k (kC c [])))/\qP e d f M k q j=some r31) ?_ (m:=N) ⟨_,_,_,rfl,n⟩
     rintro M s ⟨k,q,j,rfl,n⟩
     cases M with
     |zero=>simp only[qP]at n;cases n
     |succ M=>
      rw[qP]at n
      refine sq ?_
      refine sh fol (kA ([g]:List Int) e (e.length:Int) k c d (kAU f q j [(92,.bool (decide (j<(e.length:Int))))])) ?_
      refine ihD n (fun c32 n=>?_) (fun c32 n=>?_)
      ·refine Goes.skip ?_
       refine sq (Goes.block ?_)
       obtain⟨F,e_x33,n⟩:=bnd n
       refine sq (gr fol [3,4] (kA ([g]:List Int) e (e.length:Int) k c d [(14,.i f),(16,.i j),(17,.i (w64 ((w64 (f*F))+q)))]) (ac (iv vO encI e_x33) (ac (lv 0 ce3 encI e_x33 rfl) az)) ?_)
       obtain⟨a0,J,n⟩:=bnd n
       refine sq (gr fol [4,5] (kA ([g]:List Int) e (e.length:Int) k c d [(14,.i f),(16,.i j),(17,.i (w64 ((w64 (f*F))+q))),(18,.i (w64 (a0-((w64 ((w64 (f*F))+q)).tmod 1000000000))))]) (ac (hs (.done (.opt (qd ZT 75 (.oslice 0 k.length 1) (.i (w64 (j+d))))) (.ptr 0 ((w64 (j+d):Int).toNat*1+0))) (qe1 vO J)) (ac (hs (.run [0] (zR ZT 3 (.ptr 0 ((w64 (j+d):Int).toNat*1+0))) (kC k (kC c [])) (.i a0) (kC k (kC c [])) false) (qbR ce3 (E:=encI) (l:=k) rfl rfl J (nl rfl) rfl)) az)) ?_)
       refine sh fol (kA ([g]:List Int) e (e.length:Int) k c d (kAU f (w64 ((w64 ((w64 (f*F))+q)).tdiv 1000000000)) j [(18,.i (w64 (a0-((w64 ((w64 (f*F))+q)).tmod 1000000000))))])) ?_
       refine sq ?_
       refine sh fol (kA ([g]:List Int) e (e.length:Int) k c d (kAU f (w64 ((w64 ((w64 (f*F))+q)).tdiv 1000000000)) j [(18,.i (w64 (a0-((w64 ((w64 (f*F))+q)).tmod 1000000000)))),(115,.bool (decide ((w64 (a0-((w64 ((w64 (f*F))+q)).tmod 1000000000)))<0)))])) ?_
       obtain⟨r37,g37,n⟩:=bnd n
       refine Goes.imp (Q:=fun x s'=>(x= .normal/\ ∃V n36,(V,n36)=r37/\Sub s' (ofG 206 (kA ([g]:List Int) e (e.length:Int) k c d (kAU f V j [(18,.i n36)])),(kC k (kC c []))))) ?_ ?_
       ·refine ihD g37 (fun c38 g37=>?_) (fun c38 g37=>?_)
        ·refine sh fol (kA ([g]:List Int) e (e.length:Int) k c d (kAU f (w64 ((w64 ((w64 (f*F))+q)).tdiv 1000000000)) j [(18,.i (w64 ((w64 (a0-((w64 ((w64 (f*F))+q)).tmod 1000000000)))+1000000000)))])) ?_
         refine gh fol (kA ([g]:List Int) e (e.length:Int) k c d (kAU f (w64 ((w64 ((w64 ((w64 (f*F))+q)).tdiv 1000000000))+1)) j [(18,.i (w64 ((w64 (a0-((w64 ((w64 (f*F))+q)).tmod 1000000000)))+1000000000)))])) ?_
         obtain rfl:=si g37
         exact⟨rfl,_,_,rfl,(Sub.refl _)⟩
        refine Goes.skip ?_
        obtain rfl:=si g37
        exact⟨rfl,_,_,rfl,(Sub.keep [8,9,10,11,12,13,14,15,16,18] rfl rfl)⟩
       rintro x s' ⟨rfl,V,n36,rfl,hsub⟩
       try dsimp only at n
       refine Goes.sub hsub ?_
       obtain⟨X,e_l39,n⟩:=bnd n
       refine gq fol [5,6] (kA ([g]:List Int) e (e.length:Int) k c d (kAU f V j [])) (kC X (kC c [])) (ac (hs (.done (.opt (qd ZT 75 (.oslice 0 k.length 1) (.i (w64 (j+d))))) (.ptr 0 ((w64 (j+d):Int).toNat*1+0))) (qe1 vO J)) (ac (hs (.run [0] (qp ZT 3 (.ptr 0 ((w64 (j+d):Int).toNat*1+0)) (.i n36)) (kC k (kC c [])) .undef (kC X (kC c [])) true) (xI (E:=encI) (l:=k) (y:=n36) rfl (show _=some 1 by kernel_rfl) rfl J rfl rfl rfl rfl rfl e_l39 rfl)) az)) ?_
       refine Goes.sub (show Sub (ofG 206 (kA ([g]:List Int) e (e.length:Int) k c d (kAU f V j [])),(kC X (kC c []))) (ofG 206 (kA ([g]:List Int) e (e.length:Int) X c d (kAU f V j [])),(kC X (kC c [])))from(Sub.norm [] [some 0,some 1] rfl rfl (.keep (.same (qg encI _)) (.keep (.same (qg encI _)) (.keep (.same nI) (.keep (.osliceE rfl (j6 e_l39)) (.keep (.slice rfl) (.keep (.same nI) (.keep (.same nI) (.keep (.same nI) (.keep (.same nI) .nil))))))))) (.ks (.ks .nil)))) ?_
       refine gh fol (kA ([g]:List Int) e (e.length:Int) X c d (kAU f V (w64 (j+1)) [])) ?_
       exact⟨M,(ofG 206 (kA ([g]:List Int) e (e.length:Int) X c d (kAU f V (w64 (j+1)) [])),(kC X (kC c []))),Nat.lt_succ_self _,(Sub.refl _),_,_,_,rfl,n⟩
      refine Goes.exit ?_
      obtain rfl:=si n
      exact⟨rfl,_,_,rfl,(Sub.keep [8,9,10,11,12,13,14,15] rfl rfl)⟩
    rintro x s' ⟨rfl,v,n30,rfl,hsub⟩
    try dsimp only at g23
    refine Goes.sub hsub ?_
    obtain⟨x40,K,g23⟩:=bnd g23
    obtain⟨w,e_l41,g23⟩:=bnd g23
    refine sq (gq fol [8,9,12,13] (kA ([g]:List Int) e (e.length:Int) v c d [(14,.i f)]) (kC w (kC c [])) (ac (hs (.done (.opt (qd ZT 75 (.oslice 0 v.length 1) (.i (w64 (d+(e.length:Int)))))) (.ptr 0 ((w64 (d+(e.length:Int)):Int).toNat*1+0))) (qe1 vO K)) (ac (hs (.run [0] (zR ZT 3 (.ptr 0 ((w64 (d+(e.length:Int)):Int).toNat*1+0))) (kC v (kC c [])) (.i x40) (kC v (kC c [])) false) (qbR ce3 (E:=encI) (l:=v) rfl rfl K (nl rfl) rfl)) (ac (hs (.done (.opt (qd ZT 75 (.oslice 0 v.length 1) (.i (w64 (d+(e.length:Int)))))) (.ptr 0 ((w64 (d+(e.length:Int)):Int).toNat*1+0))) (qe1 vO K)) (ac (hs (.run [0] (qp ZT 3 (.ptr 0 ((w64 (d+(e.length:Int)):Int).toNat*1+0)) (.i (w64 (x40-n30)))) (kC v (kC c [])) .undef (kC w (kC c [])) true) (xI (E:=encI) (l:=v) (y:=w64 (x40-n30)) rfl (show _=some 1 by kernel_rfl) rfl K rfl rfl rfl rfl rfl e_l41 rfl)) az)))) ?_)
    refine Goes.sub (show Sub (ofG 206 (kA ([g]:List Int) e (e.length:Int) v c d [(14,.i f)]),(kC w (kC c []))) (ofG 206 (kA ([g]:List Int) e (e.length:Int) w c d [(14,.i f)]),(kC w (kC c [])))from(Sub.norm [] [some 0,some 1] rfl rfl (.keep (.same (qg encI _)) (.keep (.same (qg encI _)) (.keep (.same nI) (.keep (.osliceE rfl (j6 e_l41)) (.keep (.slice rfl) (.keep (.same nI) (.keep (.same nI) .nil))))))) (.ks (.ks .nil)))) ?_
    refine sq ?_
    obtain⟨x42,e_x42,g23⟩:=bnd g23
    refine sq (gr fol [4,5] (kA ([g]:List Int) e (e.length:Int) w c d [(14,.i f),(145,.bool (decide (x42<0)))]) (ac (hs (.done (.opt (qd ZT 75 (.oslice 0 w.length 1) (.i (w64 (d+(e.length:Int)))))) (.ptr 0 ((w64 (d+(e.length:Int)):Int).toNat*1+0))) (qe1 vO e_x42)) (ac (hs (.run [0] (zR ZT 3 (.ptr 0 ((w64 (d+(e.length:Int)):Int).toNat*1+0))) (kC w (kC c [])) (.i x42) (kC w (kC c [])) false) (qbR ce3 (E:=encI) (l:=w) rfl rfl e_x42 (nl rfl) rfl)) az)) ?_)
    obtain⟨r45,G,g23⟩:=bnd g23
    refine Goes.imp (Q:=fun x s'=>(x= .normal/\ ∃t n44,(t,n44)=r45/\Sub s' (ofG 206 (kA ([g]:List Int) e (e.length:Int) t c d [(14,.i n44)]),(kC t (kC c []))))) ?_ ?_
    ·refine ihD G (fun c46 G=>?_) (fun c46 G=>?_)
     ·refine sh fol (kA ([g]:List Int) e (e.length:Int) w c d [(14,.i (w64 (f-1)))]) ?_
      refine sh fol (kA ([g]:List Int) e (e.length:Int) w c d [(14,.i (w64 (f-1))),(19,.i 0)]) ?_
      refine sq ?_
      refine sh fol (kA ([g]:List Int) e (e.length:Int) w c d [(14,.i (w64 (f-1))),(19,.i 0),(20,.i 0)]) ?_
      refine Goes.block ?_
      obtain⟨r53,r,G⟩:=bnd G
      refine Goes.imp (Q:=fun x s'=>(x= .exit 6/\ ∃A a4 n52,(A,a4,n52)=r53/\Sub s' (ofG 206 (kA ([g]:List Int) e (e.length:Int) A c d [(14,.i a4),(19,.i n52)]),(kC A (kC c []))))) ?_ ?_
      ·refine Uc (fun M s=> ∃(u:List Int) (B:Int) (o:Int),s=(ofG 206 (kA ([g]:List Int) e (e.length:Int) u c d [(14,.i (w64 (f-1))),(19,.i B),(20,.i o)]),(kC u (kC c [])))/\kg e d f M u B o=some r53) ?_ (m:=N) ⟨_,_,_,rfl,r⟩
       rintro M s ⟨u,B,o,rfl,r⟩
       cases M with
       |zero=>simp only[kg]at r;cases r
       |succ M=>
        rw[kg]at r
        refine sq ?_
        refine sh fol (kA ([g]:List Int) e (e.length:Int) u c d [(14,.i (w64 (f-1))),(19,.i B),(20,.i o),(150,.bool (decide (o<(e.length:Int))))]) ?_
        refine ihD r (fun c54 r=>?_) (fun c54 r=>?_)
        ·refine Goes.skip ?_
         refine sq (Goes.block ?_)
         obtain⟨H,L,r⟩:=bnd r
         obtain⟨O,e_x56,r⟩:=bnd r
         refine sq (gr fol [4,5,8,9] (kA ([g]:List Int) e (e.length:Int) u c d [(14,.i (w64 (f-1))),(20,.i o),(21,.i (w64 ((w64 (H+O))+B)))]) (ac (hs (.done (.opt (qd ZT 75 (.oslice 0 u.length 1) (.i (w64 (o+d))))) (.ptr 0 ((w64 (o+d):Int).toNat*1+0))) (qe1 vO L)) (ac (hs (.run [0] (zR ZT 3 (.ptr 0 ((w64 (o+d):Int).toNat*1+0))) (kC u (kC c [])) (.i H) (kC u (kC c [])) false) (qbR ce3 (E:=encI) (l:=u) rfl rfl L (nl rfl) rfl)) (ac (iv vO encI e_x56) (ac (lv 0 ce3 encI e_x56 rfl) az)))) ?_)
         obtain⟨P,e_l57,r⟩:=bnd r
         refine sq (gq fol [6,7] (kA ([g]:List Int) e (e.length:Int) u c d [(14,.i (w64 (f-1))),(20,.i o),(21,.i (w64 ((w64 (H+O))+B)))]) (kC P (kC c [])) (ac (hs (.done (.opt (qd ZT 75 (.oslice 0 u.length 1) (.i (w64 (o+d))))) (.ptr 0 ((w64 (o+d):Int).toNat*1+0))) (qe1 vO L)) (ac (hs (.run [0] (qp ZT 3 (.ptr 0 ((w64 (o+d):Int).toNat*1+0)) (.i ((w64 ((w64 (H+O))+B)).tmod 1000000000))) (kC u (kC c [])) .undef (kC P (kC c [])) true) (xI (E:=encI) (l:=u) (y:=(w64 ((w64 (H+O))+B)).tmod 1000000000) rfl (show _=some 1 by kernel_rfl) rfl L rfl rfl rfl rfl rfl e_l57 rfl)) az)) ?_)
         refine Goes.sub (show Sub (ofG 206 (kA ([g]:List Int) e (e.length:Int) u c d [(14,.i (w64 (f-1))),(20,.i o),(21,.i (w64 ((w64 (H+O))+B)))]),(kC P (kC c []))) (ofG 206 (kA ([g]:List Int) e (e.length:Int) P c d [(14,.i (w64 (f-1))),(20,.i o),(21,.i (w64 ((w64 (H+O))+B)))]),(kC P (kC c [])))from(Sub.norm [] [some 0,some 1] rfl rfl (.keep (.same (qg encI _)) (.keep (.same (qg encI _)) (.keep (.same nI) (.keep (.osliceE rfl (j6 e_l57)) (.keep (.slice rfl) (.keep (.same nI) (.keep (.same nI) (.keep (.same nI) (.keep (.same nI) .nil))))))))) (.ks (.ks .nil)))) ?_
         refine gh fol (kA ([g]:List Int) e (e.length:Int) P c d [(14,.i (w64 (f-1))),(19,.i (w64 ((w64 ((w64 (H+O))+B)).tdiv 1000000000))),(20,.i o)]) ?_
         refine gh fol (kA ([g]:List Int) e (e.length:Int) P c d [(14,.i (w64 (f-1))),(19,.i (w64 ((w64 ((w64 (H+O))+B)).tdiv 1000000000))),(20,.i (w64 (o+1)))]) ?_
         exact⟨M,(ofG 206 (kA ([g]:List Int) e (e.length:Int) P c d [(14,.i (w64 (f-1))),(19,.i (w64 ((w64 ((w64 (H+O))+B)).tdiv 1000000000))),(20,.i (w64 (o+1)))]),(kC P (kC c []))),Nat.lt_succ_self _,(Sub.refl _),_,_,_,rfl,r⟩
        refine Goes.exit ?_
        obtain rfl:=si r
        exact⟨rfl,_,_,_,rfl,(Sub.keep [8,9,10,11,12,13,14,19] rfl rfl)⟩
      rintro x s' ⟨rfl,A,a4,n52,rfl,hsub⟩
      try dsimp only at G
      refine Goes.sub hsub ?_
      obtain⟨x58,U,G⟩:=bnd G
      obtain⟨l59,e_l59,G⟩:=bnd G
      refine gq fol [8,9,12,13] (kA ([g]:List Int) e (e.length:Int) A c d [(14,.i a4)]) (kC l59 (kC c [])) (ac (hs (.done (.opt (qd ZT 75 (.oslice 0 A.length 1) (.i (w64 (d+(e.length:Int)))))) (.ptr 0 ((w64 (d+(e.length:Int)):Int).toNat*1+0))) (qe1 vO U)) (ac (hs (.run [0] (zR ZT 3 (.ptr 0 ((w64 (d+(e.length:Int)):Int).toNat*1+0))) (kC A (kC c [])) (.i x58) (kC A (kC c [])) false) (qbR ce3 (E:=encI) (l:=A) rfl rfl U (nl rfl) rfl)) (ac (hs (.done (.opt (qd ZT 75 (.oslice 0 A.length 1) (.i (w64 (d+(e.length:Int)))))) (.ptr 0 ((w64 (d+(e.length:Int)):Int).toNat*1+0))) (qe1 vO U)) (ac (hs (.run [0] (qp ZT 3 (.ptr 0 ((w64 (d+(e.length:Int)):Int).toNat*1+0)) (.i (w64 (x58+n52)))) (kC A (kC c [])) .undef (kC l59 (kC c [])) true) (xI (E:=encI) (l:=A) (y:=w64 (x58+n52)) rfl (show _=some 1 by kernel_rfl) rfl U rfl rfl rfl rfl rfl e_l59 rfl)) az)))) ?_
      obtain rfl:=si G
      exact⟨rfl,_,_,rfl,((show Sub (ofG 206 (kA ([g]:List Int) e (e.length:Int) A c d [(14,.i a4)]),(kC l59 (kC c []))) (ofG 206 (kA ([g]:List Int) e (e.length:Int) l59 c d [(14,.i a4)]),(kC l59 (kC c [])))from(Sub.norm [] [some 0,some 1] rfl rfl (.keep (.same (qg encI _)) (.keep (.same (qg encI _)) (.keep (.same nI) (.keep (.osliceE rfl (j6 e_l59)) (.keep (.slice rfl) (.keep (.same nI) (.keep (.same nI) .nil))))))) (.ks (.ks .nil)))).trans (Sub.refl _))⟩
     refine Goes.skip ?_
     obtain rfl:=si G
     exact⟨rfl,_,_,rfl,(Sub.keep [8,9,10,11,12,13,14] rfl rfl)⟩
    rintro x s' ⟨rfl,t,n44,rfl,hsub⟩
    try dsimp only at g23
    refine Goes.sub hsub ?_
    obtain⟨x60,e_x60,g23⟩:=bnd g23
    obtain⟨Y,e_l61,g23⟩:=bnd g23
    refine gq fol [3,4] (kA ([g]:List Int) e (e.length:Int) t c d []) (kC t (kC Y [])) (ac (hs (.done (.opt (qd ZT 75 (.slice 1 0 c.length c.length 1) (.i d))) (.ptr 1 ((d:Int).toNat*1+0))) (xS vO e_x60)) (ac (hs (.run [1] (qp ZT 3 (.ptr 1 ((d:Int).toNat*1+0)) (.i n44)) (kC t (kC c [])) .undef (kC t (kC Y [])) true) (xI (E:=encI) (l:=c) (y:=n44) rfl (show _=some 1 by kernel_rfl) rfl e_x60 rfl rfl rfl rfl rfl e_l61 rfl)) az)) ?_
    refine Goes.sub (show Sub (ofG 206 (kA ([g]:List Int) e (e.length:Int) t c d []),(kC t (kC Y []))) (ofG 206 (kA ([g]:List Int) e (e.length:Int) t Y d []),(kC t (kC Y [])))from(Sub.norm [] [some 0,some 1] rfl rfl (.keep (.same (qg encI _)) (.keep (.same (qg encI _)) (.keep (.same nI) (.keep (.oslice rfl) (.keep (.sliceE rfl (j6 e_l61)) (.keep (.same nI) .nil)))))) (.ks (.ks .nil)))) ?_
    refine gh fol (kA ([g]:List Int) e (e.length:Int) t Y (w64 (d-1)) []) ?_
    exact⟨M,(ofG 206 (kA ([g]:List Int) e (e.length:Int) t Y (w64 (d-1)) []),(kC t (kC Y []))),Nat.lt_succ_self _,(Sub.refl _),_,_,_,rfl,g23⟩
   refine Goes.exit ?_
   obtain rfl:=si g23
   exact⟨rfl,_,_,rfl,(Sub.keep [8,10,11,12] rfl rfl)⟩
 rintro x s' ⟨rfl,a3,p,rfl,hsub⟩
 try dsimp only at h
 refine Goes.sub hsub ?_
 refine sq (Goes.sub (s':=(ofG 206 [(8,vl encI ([g]:List Int)),(10,.i (e.length:Int)),(11,vl encI a3),(12,.slice 0 0 p.length p.length 1)],(kC p []))) (Sub.norm [0] [some 1] rfl rfl (.keep (.same (qg encI _)) (.keep (.same nI) (.keep (.frz (Fz.os (E:=encI) rfl rfl (nl rfl)) (qg encI _)) (.keep (.slice rfl) .nil)))) (.ks .nil)) ?_)
 obtain⟨s62,e_s62,h⟩:=bnd h
 obtain⟨r63,e_r63,h⟩:=bnd h
 obtain⟨x64,e_x64,h⟩:=bnd h
 obtain⟨r65,e_r65,h⟩:=bnd h
 refine gr fol [2,3,5,6,7] [(12,.slice 0 0 p.length p.length 1),(22,vl encI r65.1)] (ac (hs (.done (.opt (qW ZT 75 (vl encI a3) none (some (.i (e.length:Int))) none)) (vl encI s62)) (qiB vO (E:=encI) rfl none (some (e.length:Int)) e_s62)) (ac (cv (xk N s62 e_r63)) (ac (iv vO encI e_x64) (ac (lv 0 ce3 encI e_x64 rfl) (ac (cv (qbW N r63 x64 e_r65)) az))))) ?_
 obtain⟨r66,e_r66,h⟩:=bnd h
 refine sq (gq fol [1] (kAu r66 r65.1) (kAV p) (ac (hs (.callF 232 [.slice 0 0 p.length p.length 1] (kC p []) [0] [vl encI p] (vl encI r66)) (qaA (FzL.cons (Fz.sl (E:=encI) rfl rfl (nl rfl)) FzL.nil) (xk N p e_r66) (qx encI _ (nl rfl)))) az) ?_)
 refine Goes.sub (show Sub (ofG 206 (kAu r66 r65.1),(kAV p)) (ofG 206 (kAu r66 r65.1),[])from(Sub.norm [] [] rfl rfl (.keep (.same (qg encI _)) (.keep (.same (qg encI _)) .nil)) .nil)) ?_
 refine Goes.ret ?_
 obtain rfl:=si h
 exact(gw2 [vl encI r66,vl encI r65.1] (FzW.tuple (qc.cons (Ua (qx encI _ (nl rfl))) (qc.cons (Ua (qx encI _ (nl rfl))) qc.nil))))
def ku (N:Nat):Nat->(List Int)->(List Int)->Option (List Int)
 |0,_,_=>none
 |K+1,b,a=>
  if(a.length:Int)>0 then
  (xc N b a).bind fun c=>
  ku N K a c.2
  else
  some b
def qaC (N:Nat) (a:List Int) (b:List Int):Option (List Int):=
 (ku N N a b).bind fun c=>
 some c
theorem qfC (N:Nat) (a:List Int) (b:List Int) {res:List Int} (h:qaC N a b=some res):qb ZT (.fn 102) [vl encI a,vl encI b] [] (vl encI res) []:=by
 unfold qaC at h
 refine Ub Tryz.func102 rfl rfl (m:=19) rfl (rs:=[.tmp 4]) rfl (l:=(kJ a b [])) rfl ?_
 refine sh fol (kJ a b []) ?_
 refine sq (Goes.block ?_)
 obtain⟨i,g4,h⟩:=bnd h
 refine Goes.imp (Q:=fun x s'=>(x= .exit 0/\ ∃d,d=i/\Sub s' (ofG 19 (kAX d []),[]))) ?_ ?_
 ·refine Uc (fun M s=> ∃(e:List Int) (c:List Int),s=(ofG 19 (kJ e c []),[])/\ku N M e c=some i) ?_ (m:=N) ⟨_,_,rfl,g4⟩
  rintro M s ⟨e,c,rfl,g4⟩
  cases M with
  |zero=>simp only[ku]at g4;cases g4
  |succ M=>
   rw[ku]at g4
   refine sq ?_
   refine sh fol (kJ e c [(9,.bool (decide ((c.length:Int)>0)))]) ?_
   refine ihD g4 (fun j g4=>?_) (fun j g4=>?_)
   ·refine Goes.skip ?_
    refine Goes.block ?_
    obtain⟨g,f,g4⟩:=bnd g4
    refine sq (gr fol [2] [(1,vl encI c),(6,vl encI g.2)] (ac (cv (qep N e c f)) az) ?_)
    refine gh fol (kJ c g.2 []) ?_
    exact⟨M,(ofG 19 (kJ c g.2 []),[]),Nat.lt_succ_self _,(Sub.refl _),_,_,rfl,g4⟩
   refine Goes.exit ?_
   obtain rfl:=si g4
   exact⟨rfl,_,rfl,(Sub.keep [0] rfl rfl)⟩
 rintro x s' ⟨rfl,d,rfl,hsub⟩
 refine Goes.sub hsub ?_
 refine sh fol [(4,vl encI d)] ?_
 refine Goes.ret ?_
 obtain rfl:=si h
 exact(gw2 [vl encI d] (Ua (qx encI _ (nl rfl))))
def xO (N:Nat) (a:Str):Option Int:=
 (if(a.length:Int)>0 then
 (idx a 0).bind fun t=>
 some (decide ((t.toNat:Int)=45))
 else
 some false:Option Bool).bind fun u=>
 ((if u=true then
 (cut a 1 (a.length:Int)).bind fun v=>
 some v
 else
 some a:Option Str)).bind fun b=>
 (yP N b).bind fun c=>
 ((cut b 0 c).bind fun f=>
 (zV N f).bind fun g=>
 if(!g)=true then
 some true
 else
 (idx a 0).bind fun h=>
 if(h.toNat:Int)=45 then
 (cut b 0 c).bind fun i=>
 some (i==[48])
 else
 some false:Option Bool).bind fun j=>
 if j=true then
 some 1
 else
 (if c<(b.length:Int)then
 (cut b (w64 (c+1)) (b.length:Int)).bind fun k=>
 (zV N k).bind fun l=>
 if(!l)=true then
 some true
 else
 (cut b (w64 (c+1)) (b.length:Int)).bind fun m=>
 if(m==[48])=true then
 some true
 else
 (cut b (w64 (c+1)) (b.length:Int)).bind fun n=>
 some (n==[49])
 else
 some false:Option Bool).bind fun o=>
 if o=true then
 some 1
 else
 (if c>600 then
 some true
 else
 some (decide ((w64 ((w64 ((b.length:Int)-c))-1))>600)):Option Bool).bind fun p=>
 if p=true then
 some 4
 else
 ((if c<(b.length:Int)then
 (qa7 N b).bind fun d=>
 (qaC N d.1.w d.2.w).bind fun e=>
 (if(!decide ((e.length:Int)=1))=true then
 some true
 else
 (idx e 0).bind fun q=>
 some (!decide (q=1)):Option Bool).bind fun r=>
 if r=true then
 some (.inr 1)
 else
 some (.inl ())
 else
 some (.inl ()):Option (Unit⊕Int))).bind (fun
 |(.inl ())=>
 some 0
 |(.inr s)=>
 some s)
theorem xJ (N:Nat) (a:Str) {res:Int} (h:xO N a=some res):qb ZT (.fn 27) [.str a] [] (.i res) []:=by
 unfold xO at h
 refine Ub Tryz.func27 rfl rfl (m:=96) rfl (rs:=[.tmp 2]) rfl (l:=(kAI a)) rfl ?_
 refine sh fol (kAI a) ?_
 refine sh fol [(0,.str a),(3,.str a)] ?_
 refine sq ?_
 refine sq ?_
 obtain⟨b3,j,h⟩:=bnd h
 refine Goes.cut (s':=(ofG 96 [(0,.str a),(3,.str a),(16,.bool b3)],[])) ?_ ?_
 ·rcases wyD j with⟨Z,j⟩|⟨Z,j⟩
  ·obtain⟨c2,K,j⟩:=bnd j
   obtain rfl:=si j
   exact tr fol [3,5] [(0,.str a),(3,.str a),(16,.bool (decide ((c2.toNat:Int)=45)))] (ac (gw Z) (ac (hs (.done (.opt (jH ZT 9 (.str a) (.i 0))) (.int .u8 (c2.toNat:Int))) (qaj st9 K)) az))
  obtain rfl:=si j
  exact tr fol [3] [(0,.str a),(3,.str a),(16,.bool false)] (ac (gw Z) az)
 obtain⟨r6,g6,h⟩:=bnd h
 refine Goes.imp (Q:=fun x s'=>(x= .normal/\ ∃e,e=r6/\Sub s' (ofG 96 [(0,.str a),(3,.str e)],[]))) ?_ ?_
 ·refine ihB g6 (fun c7 g6=>?_) (fun c7 g6=>?_)
  ·obtain⟨s8,L,g6⟩:=bnd g6
   refine gr fol [1] [(0,.str a),(3,.str s8)] (ac (hs (.done (.opt (qW ZT 9 (.str a) (some (.i 1)) none none)) (.str s8)) (jG st9 (some 1) none L)) az) ?_
   obtain rfl:=si g6
   exact⟨rfl,_,rfl,(Sub.refl _)⟩
  refine Goes.skip ?_
  obtain rfl:=si g6
  exact⟨rfl,_,rfl,(Sub.keep [0,3] rfl rfl)⟩
 rintro x s' ⟨rfl,e,rfl,hsub⟩
 refine Goes.sub hsub ?_
 obtain⟨d,M,h⟩:=bnd h
 refine sq (gr fol [1] ((0,.str a)::(kAr e d [])) (ac (cv (qaw N e M)) az) ?_)
 refine sq ?_
 refine sq ?_
 obtain⟨a0,c,h⟩:=bnd h
 refine Goes.cut (s':=(ofG 96 (kAr e d [(36,.bool a0)]),[])) ?_ ?_
 ·obtain⟨s,o,c⟩:=bnd c
  obtain⟨r11,p,c⟩:=bnd c
  rcases wyB c with⟨A,c⟩|⟨A,c⟩
  ·obtain rfl:=si c
   exact tr fol [2,3,5] (kAr e d [(36,.bool true)]) (ac (hs (.done (.opt (qW ZT 9 (.str e) none (some (.i d)) none)) (.str s)) (jG st9 none (some d) o)) (ac (cv (zQ N s p)) (ac (gw A) az)))
  obtain⟨O,u,c⟩:=bnd c
  rcases wyD c with⟨C,c⟩|⟨C,c⟩
  ·obtain⟨P,D,c⟩:=bnd c
   obtain rfl:=si c
   exact tr fol [2,3,5,7,9,12] (kAr e d [(36,.bool (P==[48]))]) (ac (hs (.done (.opt (qW ZT 9 (.str e) none (some (.i d)) none)) (.str s)) (jG st9 none (some d) o)) (ac (cv (zQ N s p)) (ac (gw A) (ac (hs (.done (.opt (jH ZT 22 (.str a) (.i 0))) (.int .u8 (O.toNat:Int))) (qaj qlZ u)) (ac (gw C) (ac (hs (.done (.opt (qW ZT 9 (.str e) none (some (.i d)) none)) (.str P)) (jG st9 none (some d) D)) az))))))
  obtain rfl:=si c
  exact tr fol [2,3,5,7,9] (kAr e d [(36,.bool false)]) (ac (hs (.done (.opt (qW ZT 9 (.str e) none (some (.i d)) none)) (.str s)) (jG st9 none (some d) o)) (ac (cv (zQ N s p)) (ac (gw A) (ac (hs (.done (.opt (jH ZT 22 (.str a) (.i 0))) (.int .u8 (O.toNat:Int))) (qaj qlZ u)) (ac (gw C) az)))))
 refine ihB h (fun a1 h=>?_) (fun a1 h=>?_)
 ·refine sh fol [(2,.i 1)] ?_
  refine Goes.ret ?_
  obtain rfl:=si h
  exact(gw2 [.i 1] (Ua tI))
 refine Goes.skip ?_
 refine sq ?_
 refine sq ?_
 obtain⟨a2,b,h⟩:=bnd h
 refine Goes.cut (s':=(ofG 96 (kAr e d [(62,.bool a2)]),[])) ?_ ?_
 ·rcases wyD b with⟨v,b⟩|⟨v,b⟩
  ·obtain⟨t,q,b⟩:=bnd b
   obtain⟨r21,r,b⟩:=bnd b
   rcases wyB b with⟨B,b⟩|⟨B,b⟩
   ·obtain rfl:=si b
    exact tr fol [4,8,9,11] (kAr e d [(62,.bool true)]) (ac (gw v) (ac (hs (.done (.opt (qW ZT 9 (.str e) (some (.i (w64 (d+1)))) none none)) (.str t)) (jG st9 (some (w64 (d+1))) none q)) (ac (cv (zQ N t r)) (ac (gw B) az))))
   obtain⟨U,y,b⟩:=bnd b
   rcases wyB b with⟨E,b⟩|⟨E,b⟩
   ·obtain rfl:=si b
    exact tr fol [4,8,9,11,15,18] (kAr e d [(62,.bool true)]) (ac (gw v) (ac (hs (.done (.opt (qW ZT 9 (.str e) (some (.i (w64 (d+1)))) none none)) (.str t)) (jG st9 (some (w64 (d+1))) none q)) (ac (cv (zQ N t r)) (ac (gw B) (ac (hs (.done (.opt (qW ZT 9 (.str e) (some (.i (w64 (d+1)))) none none)) (.str U)) (jG st9 (some (w64 (d+1))) none y)) (ac (gw E) az))))))
   obtain⟨V,F,b⟩:=bnd b
   obtain rfl:=si b
   exact tr fol [4,8,9,11,15,18,22] (kAr e d [(62,.bool (V==[49]))]) (ac (gw v) (ac (hs (.done (.opt (qW ZT 9 (.str e) (some (.i (w64 (d+1)))) none none)) (.str t)) (jG st9 (some (w64 (d+1))) none q)) (ac (cv (zQ N t r)) (ac (gw B) (ac (hs (.done (.opt (qW ZT 9 (.str e) (some (.i (w64 (d+1)))) none none)) (.str U)) (jG st9 (some (w64 (d+1))) none y)) (ac (gw E) (ac (hs (.done (.opt (qW ZT 9 (.str e) (some (.i (w64 (d+1)))) none none)) (.str V)) (jG st9 (some (w64 (d+1))) none F)) az)))))))
  obtain rfl:=si b
  exact tr fol [4] (kAr e d [(62,.bool false)]) (ac (gw v) az)
 refine ihB h (fun a3 h=>?_) (fun a3 h=>?_)
 ·refine sh fol [(2,.i 1)] ?_
  refine Goes.ret ?_
  obtain rfl:=si h
  exact(gw2 [.i 1] (Ua tI))
 refine Goes.skip ?_
 refine sq ?_
 refine sq ?_
 obtain⟨a4,k,h⟩:=bnd h
 refine Goes.cut (s':=(ofG 96 (kAr e d [(72,.bool a4)]),[])) ?_ ?_
 ·rcases wyD k with⟨G,k⟩|⟨G,k⟩
  ·obtain rfl:=si k
   exact tr fol [2] (kAr e d [(72,.bool true)]) (ac (gw G) az)
  obtain rfl:=si k
  exact tr fol [2] (kAr e d [(72,.bool (decide ((w64 ((w64 ((e.length:Int)-d))-1))>600)))]) (ac (gw G) az)
 refine ihB h (fun a5 h=>?_) (fun a5 h=>?_)
 ·refine sh fol [(2,.i 4)] ?_
  refine Goes.ret ?_
  obtain rfl:=si h
  exact(gw2 [.i 4] (Ua tI))
 refine Goes.skip ?_
 refine sq ?_
 refine sh fol [(3,.str e),(76,.bool (decide (d<(e.length:Int))))] ?_
 obtain⟨X,f,h⟩:=bnd h
 refine Goes.imp (Q:=fun x s'=>(x= .normal/\(.inl ())=X/\Sub s' (ofG 96 [],[]))\/(x= .ret/\ ∃Y,(.inr Y)=X/\jh ZT [.tmp 2] (.i Y) .ret s')) ?_ ?_
 ·refine ihD f (fun a6 f=>?_) (fun a6 f=>?_)
  ·obtain⟨n,H,f⟩:=bnd f
   refine sq (gq fol [1] [(5,.ptr 0 0),(6,.ptr 1 0)] (kAP n.1.neg n.1.w (kAP n.2.neg n.2.w [])) (ac (cv (qgB N e H)) az) ?_)
   obtain⟨a7,I,f⟩:=bnd f
   refine sq (gr fol [4] [(7,vl encI a7)] (ac (cv (qfC N n.1.w n.2.w I)) az) ?_)
   refine sq ?_
   obtain⟨a8,g,f⟩:=bnd f
   refine Goes.cut (s':=(ofG 96 [(95,.bool a8)],(kAP n.1.neg n.1.w (kAP n.2.neg n.2.w [])))) ?_ ?_
   ·rcases wyB g with⟨J,g⟩|⟨J,g⟩
    ·obtain rfl:=si g
     exact tr fol [3] [(95,.bool true)] (ac (gw J) az)
    obtain⟨a9,z,g⟩:=bnd g
    obtain rfl:=si g
    exact tr fol [3,5,6] [(95,.bool (!decide (a9=1)))] (ac (gw J) (ac (iv vO encI z) (ac (lv 0 ce3 encI z rfl) az)))
   refine ihB f (fun b0 f=>?_) (fun b0 f=>?_)
   ·refine sh fol [(2,.i 1)] ?_
    refine Goes.ret ?_
    obtain rfl:=si f
    exact Or.inr (⟨rfl,_,rfl,(gw2 [.i 1] (Ua tI))⟩)
   refine Goes.skip ?_
   obtain rfl:=si f
   exact Or.inl (⟨rfl,rfl,(Sub.norm [] [] rfl rfl .nil .nil)⟩)
  refine Goes.skip ?_
  obtain rfl:=si f
  exact Or.inl (⟨rfl,rfl,(Sub.keep [] rfl rfl)⟩)
 rintro x s' (⟨rfl,rfl,hsub⟩|⟨rfl,q43,rfl,hret⟩)
 ·try dsimp only at h
  refine Goes.sub hsub ?_
  refine sh fol [(2,.i 0)] ?_
  refine Goes.ret ?_
  obtain rfl:=si h
  exact(gw2 [.i 0] (Ua tI))
 try dsimp only at h
 obtain rfl:=si h
 exact hret
def xG (a:Str):Option Int:=
 if(a==[48])=true then
 some 0
 else
 (if(a.length:Int)>0 then
 (idx a 0).bind fun b=>
 some (decide ((b.toNat:Int)=45))
 else
 some false:Option Bool).bind fun c=>
 if c=true then
 some (-1)
 else
 some 1
theorem qb5 (a:Str) {res:Int} (h:xG a=some res):qb ZT (.fn 73) [.str a] [] (.i res) []:=by
 unfold xG at h
 refine Ub Tryz.func73 rfl rfl (m:=13) rfl (rs:=[.tmp 2]) rfl (l:=(kAI a)) rfl ?_
 refine sh fol (kAI a) ?_
 refine sq ?_
 refine sh fol ((0,.str a)::(kAv (a==[48]))) ?_
 refine ihB h (fun f h=>?_) (fun f h=>?_)
 ·refine sh fol [(2,.i 0)] ?_
  refine Goes.ret ?_
  obtain rfl:=si h
  exact(gw2 [.i 0] (Ua tI))
 refine Goes.skip ?_
 refine sq ?_
 refine sq ?_
 obtain⟨g,b,h⟩:=bnd h
 refine Goes.cut (s':=(ofG 13 (kAq g),[])) ?_ ?_
 ·rcases wyD b with⟨d,b⟩|⟨d,b⟩
  ·obtain⟨e,c,b⟩:=bnd b
   obtain rfl:=si b
   exact tr fol [3,5] (kAq (decide ((e.toNat:Int)=45))) (ac (gw d) (ac (hs (.done (.opt (jH ZT 22 (.str a) (.i 0))) (.int .u8 (e.toNat:Int))) (qaj qlZ c)) az))
  obtain rfl:=si b
  exact tr fol [3] [(12,.bool false)] (ac (gw d) az)
 refine ihB h (fun j h=>?_) (fun j h=>?_)
 ·refine sh fol [(2,.i (-1))] ?_
  refine Goes.ret ?_
  obtain rfl:=si h
  exact(gw2 [.i (-1)] (Ua tI))
 refine Goes.skip ?_
 refine sh fol [(2,.i 1)] ?_
 refine Goes.ret ?_
 obtain rfl:=si h
 exact(gw2 [.i 1] (Ua tI))
def qco (a:Str):Option Str:=
 (xG a).bind fun b=>
 if b<0 then
 (cut a 1 (a.length:Int)).bind fun c=>
 some c
 else
 some a
theorem qez (a:Str) {res:Str} (h:qco a=some res):qb ZT (.fn 28) [.str a] [] (.str res) []:=by
 unfold qco at h
 refine Ub Tryz.func28 rfl rfl (m:=9) rfl (rs:=[.tmp 2]) rfl (l:=(kAI a)) rfl ?_
 refine sh fol (kAI a) ?_
 refine sq ?_
 obtain⟨e,b,h⟩:=bnd h
 refine sq (gr fol [1] [(0,.str a),(5,.bool (decide (e<0)))] (ac (cv (qb5 a b)) az) ?_)
 refine ihD h (fun f h=>?_) (fun f h=>?_)
 ·obtain⟨d,c,h⟩:=bnd h
  refine sq (gr fol [1] [(2,.str d)] (ac (hs (.done (.opt (qW ZT 22 (.str a) (some (.i 1)) none none)) (.str d)) (jG qlZ (some 1) none c)) az) ?_)
  refine Goes.ret ?_
  obtain rfl:=si h
  exact(gw2 [.str d] (Ua tS))
 refine Goes.skip ?_
 refine sh fol [(2,.str a)] ?_
 refine Goes.ret ?_
 obtain rfl:=si h
 exact(gw2 [.str a] (Ua tS))
def qcm (N:Nat) (a:Str):Option Str:=
 (yP N a).bind fun b=>
 (cut a 0 b).bind fun c=>
 some c
theorem qeH (N:Nat) (a:Str) {res:Str} (h:qcm N a=some res):qb ZT (.fn 77) [.str a] [] (.str res) []:=by
 unfold qcm at h
 refine Ub Tryz.func77 rfl rfl (m:=7) rfl (rs:=[.tmp 2]) rfl (l:=(kAI a)) rfl ?_
 refine sh fol (kAI a) ?_
 obtain⟨e,b,h⟩:=bnd h
 obtain⟨d,c,h⟩:=bnd h
 refine sq (gr fol [2,3] [(2,.str d)] (ac (cv (qaw N a b)) (ac (hs (.done (.opt (qW ZT 22 (.str a) none (some (.i e)) none)) (.str d)) (jG qlZ none (some e) c)) az)) ?_)
 refine Goes.ret ?_
 obtain rfl:=si h
 exact(gw2 [.str d] (Ua tS))
def qcn (N:Nat) (a:Str):Option Str:=
 (yP N a).bind fun b=>
 if b=(a.length:Int)then
 some [49]
 else
 (cut a (w64 (b+1)) (a.length:Int)).bind fun c=>
 some c
theorem qim (N:Nat) (a:Str) {res:Str} (h:qcn N a=some res):qb ZT (.fn 78) [.str a] [] (.str res) []:=by
 unfold qcn at h
 refine Ub Tryz.func78 rfl rfl (m:=14) rfl (rs:=[.tmp 2]) rfl (l:=(kAI a)) rfl ?_
 refine sh fol (kAI a) ?_
 obtain⟨b,c,h⟩:=bnd h
 refine sq (gr fol [1] (kAS a b []) (ac (cv (qaw N a c)) az) ?_)
 refine sq ?_
 refine sh fol (kAS a b [(9,.bool (decide (b=(a.length:Int))))]) ?_
 refine ihD h (fun f h=>?_) (fun f h=>?_)
 ·refine sh fol [(2,.str [49])] ?_
  refine Goes.ret ?_
  obtain rfl:=si h
  exact(gw2 [.str [49]] (Ua tS))
 refine Goes.skip ?_
 obtain⟨e,d,h⟩:=bnd h
 refine sq (gr fol [3] [(2,.str e)] (ac (hs (.done (.opt (qW ZT 22 (.str a) (some (.i (w64 (b+1)))) none none)) (.str e)) (jG qlZ (some (w64 (b+1))) none d)) az) ?_)
 refine Goes.ret ?_
 obtain rfl:=si h
 exact(gw2 [.str e] (Ua tS))
def qaX (N:Nat) (a:Str) (digits:Int):Option Bool:=
 (if(a.length:Int)<=(w64 ((w64 (2*digits))+2))then
 (xO N a).bind fun b=>
 if b=0 then
 (qcm N a).bind fun c=>
 (qco c).bind fun d=>
 if(d.length:Int)<=digits then
 (qcn N a).bind fun e=>
 some (decide ((e.length:Int)<=digits))
 else
 some false
 else
 some false
 else
 some false:Option Bool).bind fun f=>
 some f
theorem zN (N:Nat) (a:Str) (digits:Int) {res:Bool} (h:qaX N a digits=some res):qb ZT (.fn 21) [.str a,.i digits] [] (.bool res) []:=by
 unfold qaX at h
 refine Ub Tryz.func21 rfl rfl (m:=31) rfl (rs:=[.tmp 4]) rfl (l:=[(0,.str a),(1,.i digits)]) rfl ?_
 refine sh fol [(0,.str a),(1,.i digits)] ?_
 refine sq ?_
 obtain⟨n,b,h⟩:=bnd h
 refine Goes.cut (s':=(ofG 31 (kAv n),[])) ?_ ?_
 ·rcases wyD b with⟨f,b⟩|⟨f,b⟩
  ·obtain⟨q,c,b⟩:=bnd b
   rcases wyD b with⟨j,b⟩|⟨j,b⟩
   ·obtain⟨o,d,b⟩:=bnd b
    obtain⟨r,e,b⟩:=bnd b
    rcases wyD b with⟨k,b⟩|⟨k,b⟩
    ·obtain⟨p,g,b⟩:=bnd b
     obtain rfl:=si b
     exact tr fol [6,8,11,13,14,19,21] (kAv (decide ((p.length:Int)<=digits))) (ac (gw f) (ac (cv (xJ N a c)) (ac (gw j) (ac (cv (qeH N a d)) (ac (cv (qez o e)) (ac (gw k) (ac (cv (qim N a g)) az)))))))
    obtain rfl:=si b
    exact tr fol [6,8,11,13,14,19] [(4,.bool false)] (ac (gw f) (ac (cv (xJ N a c)) (ac (gw j) (ac (cv (qeH N a d)) (ac (cv (qez o e)) (ac (gw k) az))))))
   obtain rfl:=si b
   exact tr fol [6,8,11] [(4,.bool false)] (ac (gw f) (ac (cv (xJ N a c)) (ac (gw j) az)))
  obtain rfl:=si b
  exact tr fol [6] [(4,.bool false)] (ac (gw f) az)
 refine Goes.ret ?_
 obtain rfl:=si h
 exact(gw2 [.bool n] (Ua tB))
def qch (n:Int) (least:Int) (most:Int):Option Bool:=
 (if n<least then
 some true
 else
 some (decide (n>most)):Option Bool).bind fun a=>
 some a
theorem qcT (n:Int) (least:Int) (most:Int) {res:Bool} (h:qch n least most=some res):qb ZT (.fn 107) [.i n,.i least,.i most] [] (.bool res) []:=by
 unfold qch at h
 refine Ub Tryz.func107 rfl rfl (m:=15) rfl (rs:=[.tmp 6]) rfl (l:=((0,.i n)::(1,.i least)::(kAi most))) rfl ?_
 refine sh fol ((0,.i n)::(1,.i least)::(kAi most)) ?_
 refine sq ?_
 obtain⟨c,a,h⟩:=bnd h
 refine Goes.cut (s':=(ofG 15 [(6,.bool c)],[])) ?_ ?_
 ·rcases wyD a with⟨b,a⟩|⟨b,a⟩
  ·obtain rfl:=si a
   exact tr fol [3] [(6,.bool true)] (ac (gw b) az)
  obtain rfl:=si a
  exact tr fol [3] [(6,.bool (decide (n>most)))] (ac (gw b) az)
 refine Goes.ret ?_
 obtain rfl:=si h
 exact(gw2 [.bool c] (Ua tB))
def vV (a:qz):Option Int:=
 ((qch a.Length 1 999999999).bind fun b=>
 if b=true then
 some true
 else
 (qch a.Mass 1 999999999).bind fun c=>
 some c:Option Bool).bind fun d=>
 if d=true then
 some 3
 else
 some 0
theorem qdH (b:qz) {res:Int} (h:vV b=some res):qb ZT (.fn 32) [.agg [.i b.Length,.i b.Mass,.bool b.Direct]] [] (.i res) []:=by
 unfold vV at h
 refine Ub Tryz.func32 rfl rfl (m:=11) rfl (rs:=[.tmp 2]) rfl (l:=[(0,.agg [.i b.Length,.i b.Mass,.bool b.Direct])]) rfl ?_
 refine sg fol (kAY []) (kT b.Length b.Mass b.Direct []) ?_
 refine sq ?_
 refine sq ?_
 obtain⟨f,a,h⟩:=bnd h
 refine Goes.cut (s':=(ofG 11 [(10,.bool f)],(kT b.Length b.Mass b.Direct []))) ?_ ?_
 ·obtain⟨k,c,a⟩:=bnd a
  rcases wyB a with⟨e,a⟩|⟨e,a⟩
  ·obtain rfl:=si a
   exact tr fol [2,3] [(10,.bool true)] (ac (cv (qcT b.Length 1 999999999 c)) (ac (gw e) az))
  obtain⟨g,d,a⟩:=bnd a
  obtain rfl:=si a
  exact tr fol [2,3,6] [(10,.bool g)] (ac (cv (qcT b.Length 1 999999999 c)) (ac (gw e) (ac (cv (qcT b.Mass 1 999999999 d)) az)))
 refine ihB h (fun j h=>?_) (fun j h=>?_)
 ·refine sh fol [(2,.i 3)] ?_
  refine Goes.ret ?_
  obtain rfl:=si h
  exact(gw2 [.i 3] (Ua tI))
 refine Goes.skip ?_
 refine sh fol [(2,.i 0)] ?_
 refine Goes.ret ?_
 obtain rfl:=si h
 exact(gw2 [.i 0] (Ua tI))
def zo (N:Nat) (a:Str):Option Int:=
 (xO N a).bind fun b=>
 (if b=0 then
 (xG a).bind fun c=>
 some (decide (c<=0))
 else
 some false:Option Bool).bind fun d=>
 ((if d=true then
 some 3
 else
 some b:Option Int)).bind fun e=>
 some e
theorem z8 (N:Nat) (a:Str) {res:Int} (h:zo N a=some res):qb ZT (.fn 34) [.str a] [] (.i res) []:=by
 unfold zo at h
 refine Ub Tryz.func34 rfl rfl (m:=14) rfl (rs:=[.tmp 2]) rfl (l:=(kAI a)) rfl ?_
 refine sh fol (kAI a) ?_
 obtain⟨f,c,h⟩:=bnd h
 refine sq (gr fol [1] (kAS a f []) (ac (cv (xJ N a c)) az) ?_)
 refine sq ?_
 refine sq ?_
 obtain⟨j,b,h⟩:=bnd h
 refine Goes.cut (s':=(ofG 14 ((3,.i f)::(kAq j)),[])) ?_ ?_
 ·rcases wyD b with⟨g,b⟩|⟨g,b⟩
  ·obtain⟨k,d,b⟩:=bnd b
   obtain rfl:=si b
   exact tr fol [2,4] ((3,.i f)::(kAq (decide (k<=0)))) (ac (gw g) (ac (cv (qb5 a d)) az))
  obtain rfl:=si b
  exact tr fol [2] [(3,.i f),(12,.bool false)] (ac (gw g) az)
 obtain⟨n,g7,h⟩:=bnd h
 refine Goes.imp (Q:=fun x s'=>(x= .normal/\ ∃e,e=n/\Sub s' (ofG 14 [(3,.i e)],[]))) ?_ ?_
 ·refine ihB g7 (fun o g7=>?_) (fun o g7=>?_)
  ·refine gh fol [(3,.i 3)] ?_
   obtain rfl:=si g7
   exact⟨rfl,_,rfl,(Sub.refl _)⟩
  refine Goes.skip ?_
  obtain rfl:=si g7
  exact⟨rfl,_,rfl,(Sub.keep [3] rfl rfl)⟩
 rintro x s' ⟨rfl,e,rfl,hsub⟩
 refine Goes.sub hsub ?_
 refine sh fol (kAi e) ?_
 refine Goes.ret ?_
 obtain rfl:=si h
 exact(gw2 [.i e] (Ua tI))
def xC (N:Nat) (a:Str):Option Int:=
 (xO N a).bind fun b=>
 (if b=0 then
 (xG a).bind fun c=>
 some (decide (c<0))
 else
 some false:Option Bool).bind fun d=>
 ((if d=true then
 some 3
 else
 some b:Option Int)).bind fun e=>
 some e
theorem qey (N:Nat) (a:Str) {res:Int} (h:xC N a=some res):qb ZT (.fn 35) [.str a] [] (.i res) []:=by
 unfold xC at h
 refine Ub Tryz.func35 rfl rfl (m:=14) rfl (rs:=[.tmp 2]) rfl (l:=(kAI a)) rfl ?_
 refine sh fol (kAI a) ?_
 obtain⟨f,c,h⟩:=bnd h
 refine sq (gr fol [1] (kAS a f []) (ac (cv (xJ N a c)) az) ?_)
 refine sq ?_
 refine sq ?_
 obtain⟨j,b,h⟩:=bnd h
 refine Goes.cut (s':=(ofG 14 ((3,.i f)::(kAq j)),[])) ?_ ?_
 ·rcases wyD b with⟨g,b⟩|⟨g,b⟩
  ·obtain⟨k,d,b⟩:=bnd b
   obtain rfl:=si b
   exact tr fol [2,4] ((3,.i f)::(kAq (decide (k<0)))) (ac (gw g) (ac (cv (qb5 a d)) az))
  obtain rfl:=si b
  exact tr fol [2] [(3,.i f),(12,.bool false)] (ac (gw g) az)
 obtain⟨n,g7,h⟩:=bnd h
 refine Goes.imp (Q:=fun x s'=>(x= .normal/\ ∃e,e=n/\Sub s' (ofG 14 [(3,.i e)],[]))) ?_ ?_
 ·refine ihB g7 (fun o g7=>?_) (fun o g7=>?_)
  ·refine gh fol [(3,.i 3)] ?_
   obtain rfl:=si g7
   exact⟨rfl,_,rfl,(Sub.refl _)⟩
  refine Goes.skip ?_
  obtain rfl:=si g7
  exact⟨rfl,_,rfl,(Sub.keep [3] rfl rfl)⟩
 rintro x s' ⟨rfl,e,rfl,hsub⟩
 refine Goes.sub hsub ?_
 refine sh fol (kAi e) ?_
 refine Goes.ret ?_
 obtain rfl:=si h
 exact(gw2 [.i e] (Ua tI))
def qbz (n:Int):Option Int:=
 if n<0 then
 some (IntKind.wrap .u64 (w64 (0-n)))
 else
 some (IntKind.wrap .u64 n)
theorem qdg (n:Int) {res:Int} (h:qbz n=some res):qb ZT (.fn 216) [.i n] [] (.int .u64 res) []:=by
 unfold qbz at h
 refine Ub Tryz.func216 rfl rfl (m:=10) rfl (rs:=[.tmp 2]) rfl (l:=[(0,.i n)]) rfl ?_
 refine sh fol [(0,.i n)] ?_
 refine sq ?_
 refine sh fol ((0,.i n)::(kAv (decide (n<0)))) ?_
 refine ihD h (fun a h=>?_) (fun a h=>?_)
 ·refine sh fol [(2,.int .u64 (IntKind.wrap .u64 (w64 (0-n))))] ?_
  refine Goes.ret ?_
  obtain rfl:=si h
  exact(gw2 [.int .u64 (IntKind.wrap .u64 (w64 (0-n)))] (Ua tI))
 refine Goes.skip ?_
 refine sh fol [(2,.int .u64 (IntKind.wrap .u64 n))] ?_
 refine Goes.ret ?_
 obtain rfl:=si h
 exact(gw2 [.int .u64 (IntKind.wrap .u64 n)] (Ua tI))
def qF (a:qj):Option (Bool×(List Int)):=
 if(!a.w.isEmpty)=true then
 some (decide (a.s<0),a.w)
 else
 if a.s=0 then
 some (false,[])
 else
 (qbz a.s).bind fun b=>
 some (decide (a.s<0),[b])
theorem zw (a:qj) {res:Bool×(List Int)} (h:qF a=some res):qb ZT (.fn 158) [.agg (nz1 a)] [] (.tuple [.bool res.1,vl (qa .u64) res.2]) []:=by
 unfold qF at h
 refine Ub Tryz.func158 rfl rfl (m:=24) rfl (rs:=[.tmp 2,.tmp 3]) rfl (l:=[(0,.agg (nz1 a))]) rfl ?_
 refine sg fol (kAY []) [.cells (nz1 a)] ?_
 refine sq (Goes.block ?_)
 refine sq (gr fol [2] (kAY (kAv (!a.w.isEmpty))) (ac (hs (.done (.opt (zy ZT .neq 93 (.tmp 6) (.const (.slice none 0 0)) (nvl (qa .u64) a.w) .nilslice)) (.bool (!a.w.isEmpty))) (ne_nv xY)) az) ?_)
 refine ihB h (fun c h=>?_) (fun c h=>?_)
 ·refine sh fol [(2,.bool (decide (a.s<0))),(3,nvl (qa .u64) a.w)] ?_
  refine Goes.ret ?_
  obtain rfl:=si h
  exact(gw2 [.bool (decide (a.s<0)),nvl (qa .u64) a.w] (FzW.tuple (qc.cons (Ua tB) (qc.cons (FzW.nvL (E:=(qa .u64)) (nl rfl)) qc.nil))))
 refine sh fol (kAY [(13,.bool (decide (a.s=0)))]) ?_
 refine ihD h (fun d h=>?_) (fun d h=>?_)
 ·refine sh fol [(2,.bool false),(3,.nilslice)] ?_
  refine Goes.ret ?_
  obtain rfl:=si h
  exact(gw2 [.bool false,.nilslice] (FzW.tuple (qc.cons (Ua tB) (qc.cons (FzW.nilv (E:=(qa .u64))) qc.nil))))
 refine Goes.skip ?_
 obtain⟨e,b,h⟩:=bnd h
 refine sq (gq fol [5] [(2,.bool (decide (a.s<0))),(3,.slice 1 0 1 1 1)] [.cells (nz1 a),.cells [.int .u64 e]] (ac (cv (qdg a.s b)) az) ?_)
 refine Goes.ret ?_
 obtain rfl:=si h
 exact(gw2 [.bool (decide (a.s<0)),.slice 1 0 1 1 1] (FzW.tuple (qc.cons (Ua tB) (qc.cons (FzW.fz (Fz.lit rfl rfl (Ue (AllST.cons tI AllST.nil)))) qc.nil))))
def jK (neg:Bool) (w:List Int):Option qj:=
 if(w.length:Int)=0 then
 some (⟨0,[]⟩:qj)
 else
 (if(w.length:Int)=1 then
 (idx w 0).bind fun d=>
 if d<=9223372036854775807 then
 some neg
 else
 some false
 else
 some false:Option Bool).bind fun e=>
 if e=true then
 (idx w 0).bind fun f=>
 some (⟨w64 (0-(w64 f)),[]⟩:qj)
 else
 (if(w.length:Int)=1 then
 (idx w 0).bind fun a=>
 some (decide (a<=9223372036854775807))
 else
 some false:Option Bool).bind fun b=>
 if b=true then
 (idx w 0).bind fun c=>
 some (⟨w64 c,[]⟩:qj)
 else
 if neg=true then
 some (⟨(-1),w⟩:qj)
 else
 some (⟨1,w⟩:qj)
theorem xB (neg:Bool) (w:List Int) {res:qj} (h:jK neg w=some res):qb ZT (.fn 159) [.bool neg,vl (qa .u64) w] [] (.agg (nz1 res)) []:=by
 unfold jK at h
 refine Ub Tryz.func159 rfl rfl (m:=50) rfl (rs:=[.cell 4 95]) rfl (l:=[(0,.bool neg),(1,vl (qa .u64) w)]) rfl ?_
 refine sg fol ((0,.bool neg)::(1,vl (qa .u64) w)::(kAd [])) [bZ] ?_
 refine sq (Goes.block ?_)
 refine sh fol ((0,.bool neg)::(1,vl (qa .u64) w)::(kAd [(5,.bool (decide ((w.length:Int)=0)))])) ?_
 refine ihD h (fun t h=>?_) (fun t h=>?_)
 ·refine sh fol (kAd []) ?_
  refine Goes.ret ?_
  obtain rfl:=si h
  exact(gw2 [.agg [.i 0,.nilslice]] (FzW.agg (qc.cons (Ua tI) (qc.cons (FzW.nv0 (E:=(qa .u64))) qc.nil))))
 refine sq ?_
 obtain⟨u,a,h⟩:=bnd h
 refine Goes.cut (s':=(ofG 50 ((0,.bool neg)::(1,vl (qa .u64) w)::(kAd [(10,.bool u)])),[bZ])) ?_ ?_
 ·rcases wyD a with⟨j,a⟩|⟨j,a⟩
  ·obtain⟨x,c,a⟩:=bnd a
   rcases wyD a with⟨k,a⟩|⟨k,a⟩
   ·obtain rfl:=si a
    exact tr fol [3,5,6,9] ((0,.bool neg)::(1,vl (qa .u64) w)::(kAd [(10,.bool neg)])) (ac (gw j) (ac (iv zA (qa .u64) c) (ac (lv 0 zK (qa .u64) c rfl) (ac (gw k) az))))
   obtain rfl:=si a
   exact tr fol [3,5,6,9] ((0,.bool neg)::(1,vl (qa .u64) w)::(kAd [(10,.bool false)])) (ac (gw j) (ac (iv zA (qa .u64) c) (ac (lv 0 zK (qa .u64) c rfl) (ac (gw k) az))))
  obtain rfl:=si a
  exact tr fol [3] ((0,.bool neg)::(1,vl (qa .u64) w)::(kAd [(10,.bool false)])) (ac (gw j) az)
 refine ihB h (fun v h=>?_) (fun v h=>?_)
 ·obtain⟨s,f,h⟩:=bnd h
  refine sq (gq fol [1,2] (kAd []) (kAm (w64 (0-(w64 s)))) (ac (iv zA (qa .u64) f) (ac (lv 0 zK (qa .u64) f rfl) az)) ?_)
  refine Goes.ret ?_
  obtain rfl:=si h
  exact(gw2 [.agg [.i (w64 (0-(w64 s))),.nilslice]] (FzW.agg (qc.cons (Ua tI) (qc.cons (FzW.nv0 (E:=(qa .u64))) qc.nil))))
 refine sq ?_
 obtain⟨n,b,h⟩:=bnd h
 refine Goes.cut (s':=(ofG 50 ((0,.bool neg)::(1,vl (qa .u64) w)::(kAd [(29,.bool n)])),[bZ])) ?_ ?_
 ·rcases wyD b with⟨o,b⟩|⟨o,b⟩
  ·obtain⟨p,d,b⟩:=bnd b
   obtain rfl:=si b
   exact tr fol [3,5,6] ((0,.bool neg)::(1,vl (qa .u64) w)::(kAd [(29,.bool (decide (p<=9223372036854775807)))])) (ac (gw o) (ac (iv zA (qa .u64) d) (ac (lv 0 zK (qa .u64) d rfl) az)))
  obtain rfl:=si b
  exact tr fol [3] ((0,.bool neg)::(1,vl (qa .u64) w)::(kAd [(29,.bool false)])) (ac (gw o) az)
 refine ihB h (fun q h=>?_) (fun q h=>?_)
 ·obtain⟨g,e,h⟩:=bnd h
  refine sq (gq fol [1,2] (kAd []) (kAm (w64 g)) (ac (iv zA (qa .u64) e) (ac (lv 0 zK (qa .u64) e rfl) az)) ?_)
  refine Goes.ret ?_
  obtain rfl:=si h
  exact(gw2 [.agg [.i (w64 g),.nilslice]] (FzW.agg (qc.cons (Ua tI) (qc.cons (FzW.nv0 (E:=(qa .u64))) qc.nil))))
 refine sh fol ((1,vl (qa .u64) w)::(kAd [(44,.bool neg)])) ?_
 refine ihB h (fun r h=>?_) (fun r h=>?_)
 ·refine sg fol (kAd []) [.cells [.i (-1),vl (qa .u64) w]] ?_
  refine Goes.ret ?_
  obtain rfl:=si h
  exact(gw2 [.agg [.i (-1),vl (qa .u64) w]] (FzW.agg (qc.cons (Ua tI) (qc.cons (FzW.Lnv (E:=(qa .u64)) (by first|omega|(simp only[decide_eq_false_iff_not,decide_eq_true_eq]at*;omega)) (nl rfl)) qc.nil))))
 refine Goes.skip ?_
 refine sg fol (kAd []) [.cells [.i 1,vl (qa .u64) w]] ?_
 refine Goes.ret ?_
 obtain rfl:=si h
 exact(gw2 [.agg [.i 1,vl (qa .u64) w]] (FzW.agg (qc.cons (Ua tI) (qc.cons (FzW.Lnv (E:=(qa .u64)) (by first|omega|(simp only[decide_eq_false_iff_not,decide_eq_true_eq]at*;omega)) (nl rfl)) qc.nil))))
def xL (w:List Int):Nat->Int->Option Int
 |0,_=>none
 |K+1,a=>
  (if a>0 then
  (idx w (w64 (a-1))).bind fun b=>
  some (decide (b=0))
  else
  some false:Option Bool).bind fun c=>
  if c=true then
  xL w K (w64 (a-1))
  else
  some a
def yF (N:Nat) (w:List Int):Option (List Int):=
 (xL w N (w.length:Int)).bind fun a=>
 (cut w 0 a).bind fun b=>
 some b
theorem yJ (N:Nat) (w:List Int) {res:List Int} (h:yF N w=some res):qb ZT (.fn 225) [vl (qa .u64) w] [] (vl (qa .u64) res) []:=by
 unfold yF at h
 refine Ub Tryz.func225 rfl rfl (m:=21) rfl (rs:=[.tmp 2]) rfl (l:=[(0,vl (qa .u64) w)]) rfl ?_
 refine sh fol [(0,vl (qa .u64) w)] ?_
 refine sh fol [(0,vl (qa .u64) w),(3,.i (w.length:Int))] ?_
 refine sq (Goes.block ?_)
 obtain⟨j,g3,h⟩:=bnd h
 refine Goes.imp (Q:=fun x s'=>(x= .exit 0/\ ∃d,d=j/\Sub s' (ofG 21 [(0,vl (qa .u64) w),(3,.i d)],[]))) ?_ ?_
 ·refine Uc (fun M s=> ∃(b:Int),s=(ofG 21 [(0,vl (qa .u64) w),(3,.i b)],[])/\xL w M b=some j) ?_ (m:=N) ⟨_,rfl,g3⟩
  rintro M s ⟨b,rfl,g3⟩
  cases M with
  |zero=>simp only[xL]at g3;cases g3
  |succ M=>
   rw[xL]at g3
   refine sq ?_
   refine sq ?_
   obtain⟨k,a,g3⟩:=bnd g3
   refine Goes.cut (s':=(ofG 21 [(0,vl (qa .u64) w),(3,.i b),(15,.bool k)],[])) ?_ ?_
   ·rcases wyD a with⟨f,a⟩|⟨f,a⟩
    ·obtain⟨n,c,a⟩:=bnd a
     obtain rfl:=si a
     exact tr fol [2,6,7] [(0,vl (qa .u64) w),(3,.i b),(15,.bool (decide (n=0)))] (ac (gw f) (ac (iv zA (qa .u64) c) (ac (lv 0 zK (qa .u64) c rfl) az)))
    obtain rfl:=si a
    exact tr fol [2] [(0,vl (qa .u64) w),(3,.i b),(15,.bool false)] (ac (gw f) az)
   refine ihB g3 (fun o g3=>?_) (fun o g3=>?_)
   ·refine Goes.skip ?_
    refine Goes.block ?_
    refine gh fol [(0,vl (qa .u64) w),(3,.i (w64 (b-1)))] ?_
    exact⟨M,(ofG 21 [(0,vl (qa .u64) w),(3,.i (w64 (b-1)))],[]),Nat.lt_succ_self _,(Sub.refl _),_,rfl,g3⟩
   refine Goes.exit ?_
   obtain rfl:=si g3
   exact⟨rfl,_,rfl,(Sub.keep [0,3] rfl rfl)⟩
 rintro x s' ⟨rfl,d,rfl,hsub⟩
 refine Goes.sub hsub ?_
 obtain⟨g,e,h⟩:=bnd h
 refine sq (gr fol [2] [(2,vl (qa .u64) g)] (ac (hs (.done (.opt (qW ZT 93 (vl (qa .u64) w) none (some (.i d)) none)) (vl (qa .u64) g)) (qiB zA (E:=(qa .u64)) rfl none (some d) e)) az) ?_)
 refine Goes.ret ?_
 obtain rfl:=si h
 exact(gw2 [vl (qa .u64) g] (Ua (qx (qa .u64) _ (nl rfl))))
def zL (c:List Int) (d:List Int):Nat->(List Int)->Int->Int->Option ((List Int)×Int)
 |0,_,_,_=>none
 |K+1,e,a,j=>
  if a<(c.length:Int)then
  ((if a<(d.length:Int)then
  (idx d a).bind fun f=>
  some f
  else
  some 0:Option Int)).bind fun g=>
  (idx c a).bind fun h=>
  (xy h g j).bind fun b=>
  (idx e a).bind fun k=>
  (put e a b.1).bind fun i=>
  zL c d K i (w64 (a+1)) b.2
  else
  some (e,j)
def xX (N:Nat) (b:List Int) (y:List Int):Option (List Int):=
 ((if(b.length:Int)<(y.length:Int)then
 some (y,b)
 else
 some (b,y):Option ((List Int)×(List Int)))).bind fun(a,g)=>
 (mk 8 (w64 ((a.length:Int)+1)) 0).bind fun h=>
 (zL a g N h 0 0).bind fun(f,c)=>
 (idx f (a.length:Int)).bind fun i=>
 (put f (a.length:Int) c).bind fun d=>
 (yF N d).bind fun e=>
 some e
theorem qfI (N:Nat) (B:List Int) (y:List Int) {res:List Int} (h:xX N B y=some res):qb ZT (.fn 160) [vl (qa .u64) B,vl (qa .u64) y] [] (vl (qa .u64) res) []:=by
 unfold xX at h
 refine Ub Tryz.func160 rfl rfl (m:=54) rfl (rs:=[.tmp 4]) rfl (l:=[(0,vl (qa .u64) B),(1,vl (qa .u64) y)]) rfl ?_
 refine sh fol [(0,vl (qa .u64) B),(1,vl (qa .u64) y)] ?_
 refine sq ?_
 refine sh fol [(0,vl (qa .u64) B),(1,vl (qa .u64) y),(13,.bool (decide ((B.length:Int)<(y.length:Int))))] ?_
 obtain⟨P,g3,h⟩:=bnd h
 refine Goes.imp (Q:=fun x s'=>(x= .normal/\ ∃a e,(a,e)=P/\Sub s' (ofG 54 [(0,vl (qa .u64) a),(1,vl (qa .u64) e)],[]))) ?_ ?_
 ·refine ihD g3 (fun U g3=>?_) (fun U g3=>?_)
  ·refine gh fol [(0,vl (qa .u64) y),(1,vl (qa .u64) B)] ?_
   obtain rfl:=si g3
   exact⟨rfl,_,_,rfl,(Sub.refl _)⟩
  refine Goes.skip ?_
  obtain rfl:=si g3
  exact⟨rfl,_,_,rfl,(Sub.keep [0,1] rfl rfl)⟩
 rintro x s' ⟨rfl,a,e,rfl,hsub⟩
 try dsimp only at h
 refine Goes.sub hsub ?_
 obtain⟨C,G,h⟩:=bnd h
 refine sq (gq fol [3] ((0,vl (qa .u64) a)::(1,vl (qa .u64) e)::(kB C [])) [.cells (C.flatMap (qa .u64).c)] (ac (hs (.run [] (zU ZT 93 (.i (w64 ((a.length:Int)+1))) (.i (w64 ((a.length:Int)+1)))) [] (.slice 0 0 C.length C.length 1) [.cells (C.flatMap (qa .u64).c)] false) (qcv zA (E:=(qa .u64)) (z:=0) rfl (by kernel_rfl) G rfl)) az) ?_)
 refine sh fol ((0,vl (qa .u64) a)::(1,vl (qa .u64) e)::(kB C [(6,.int .u64 0)])) ?_
 refine sq ?_
 refine sh fol ((0,vl (qa .u64) a)::(1,vl (qa .u64) e)::(kB C [(6,.int .u64 0),(21,.i (a.length:Int)),(22,.i 0)])) ?_
 refine Goes.block ?_
 obtain⟨H,g11,h⟩:=bnd h
 refine Goes.imp (Q:=fun x s'=>(x= .exit 0/\ ∃v k,(v,k)=H/\Sub s' (ofG 54 ((0,vl (qa .u64) a)::(kB v (kAF k []))),[.cells (v.flatMap (qa .u64).c)]))) ?_ ?_
 ·refine Uc (fun M s=> ∃(f:List Int) (d:Int) (w:Int),s=(ofG 54 ((0,vl (qa .u64) a)::(1,vl (qa .u64) e)::(kB f (kAF w (kAA (a.length:Int) d [])))),[.cells (f.flatMap (qa .u64).c)])/\zL a e M f d w=some H) ?_ (m:=N) ⟨_,_,_,rfl,g11⟩
  rintro M s ⟨f,d,w,rfl,g11⟩
  cases M with
  |zero=>simp only[zL]at g11;cases g11
  |succ M=>
   rw[zL]at g11
   refine sh fol ((0,vl (qa .u64) a)::(1,vl (qa .u64) e)::(kB f (kAF w (kAA (a.length:Int) d [(23,.bool (decide (d<(a.length:Int))))])))) ?_
   refine sq ?_
   refine ihD g11 (fun I g11=>?_) (fun I g11=>?_)
   ·refine Goes.skip ?_
    refine sq (Goes.block ?_)
    refine sh fol ((0,vl (qa .u64) a)::(1,vl (qa .u64) e)::(kB f (kAF w ((7,.i d)::(kAA (a.length:Int) d []))))) ?_
    refine sh fol ((0,vl (qa .u64) a)::(1,vl (qa .u64) e)::(kB f (kAF w ((7,.i d)::(kA4 (kAA (a.length:Int) d [])))))) ?_
    refine sq ?_
    refine sh fol ((0,vl (qa .u64) a)::(1,vl (qa .u64) e)::(kB f (kAF w ((7,.i d)::(kA4 (kAA (a.length:Int) d [(28,.bool (decide (d<(e.length:Int))))])))))) ?_
    obtain⟨J,g14,g11⟩:=bnd g11
    refine Goes.imp (Q:=fun x s'=>(x= .normal/\ ∃A,A=J/\Sub s' (ofG 54 ((0,vl (qa .u64) a)::(1,vl (qa .u64) e)::(kB f (kAF w ((7,.i d)::(8,.int .u64 A)::(kAA (a.length:Int) d []))))),[.cells (f.flatMap (qa .u64).c)]))) ?_ ?_
    ·refine ihD g14 (fun K g14=>?_) (fun K g14=>?_)
     ·obtain⟨L,n,g14⟩:=bnd g14
      refine gr fol [2,3] ((0,vl (qa .u64) a)::(1,vl (qa .u64) e)::(kB f (kAF w ((7,.i d)::(8,.int .u64 L)::(kAA (a.length:Int) d []))))) (ac (iv zA (qa .u64) n) (ac (lv 0 zK (qa .u64) n rfl) az)) ?_
      obtain rfl:=si g14
      exact⟨rfl,_,rfl,(Sub.refl _)⟩
     refine Goes.skip ?_
     obtain rfl:=si g14
     exact⟨rfl,_,rfl,(Sub.keep [0,1,5,6,7,8,21,22] rfl rfl)⟩
    rintro x s' ⟨rfl,A,rfl,hsub⟩
    refine Goes.sub hsub ?_
    obtain⟨O,o,g11⟩:=bnd g11
    obtain⟨j,D,g11⟩:=bnd g11
    obtain⟨V,p,g11⟩:=bnd g11
    obtain⟨g,q,g11⟩:=bnd g11
    refine gq fol [4,5,8,12,13] ((0,vl (qa .u64) a)::(1,vl (qa .u64) e)::(kB f (kAF j.2 (kAA (a.length:Int) d [])))) [.cells (g.flatMap (qa .u64).c)] (ac (iv zA (qa .u64) o) (ac (lv 0 zK (qa .u64) o rfl) (ac (cv (qbB O A w D)) (ac (hs (.done (.opt (qd ZT 93 (.slice 0 0 f.length f.length 1) (.i d))) (.ptr 0 ((d:Int).toNat*1+0))) (xS zA p)) (ac (hs (.run [0] (qp ZT 245 (.ptr 0 ((d:Int).toNat*1+0)) (.int .u64 j.1)) [.cells (f.flatMap (qa .u64).c)] .undef [.cells (g.flatMap (qa .u64).c)] true) (xI (E:=(qa .u64)) (l:=f) (y:=j.1) rfl (show _=some 1 by kernel_rfl) rfl p rfl rfl rfl rfl rfl q rfl)) az))))) ?_
    refine Goes.sub (show Sub (ofG 54 ((0,vl (qa .u64) a)::(1,vl (qa .u64) e)::(kB f (kAF j.2 (kAA (a.length:Int) d [])))),[.cells (g.flatMap (qa .u64).c)]) (ofG 54 ((0,vl (qa .u64) a)::(1,vl (qa .u64) e)::(kB g (kAF j.2 (kAA (a.length:Int) d [])))),[.cells (g.flatMap (qa .u64).c)])from(Sub.norm [] [some 0] rfl rfl (.keep (.same (qg (qa .u64) _)) (.keep (.same (qg (qa .u64) _)) (.keep (.sliceE rfl (j6 q)) (.keep (.same nI) (.keep (.same nI) (.keep (.same nI) .nil)))))) (.ks .nil))) ?_
    refine gh fol ((0,vl (qa .u64) a)::(1,vl (qa .u64) e)::(kB g (kAF j.2 (kAA (a.length:Int) (w64 (d+1)) [])))) ?_
    exact⟨M,(ofG 54 ((0,vl (qa .u64) a)::(1,vl (qa .u64) e)::(kB g (kAF j.2 (kAA (a.length:Int) (w64 (d+1)) [])))),[.cells (g.flatMap (qa .u64).c)]),Nat.lt_succ_self _,(Sub.refl _),_,_,_,rfl,g11⟩
   refine Goes.exit ?_
   obtain rfl:=si g11
   exact⟨rfl,_,_,rfl,(Sub.keep [0,5,6] rfl rfl)⟩
 rintro x s' ⟨rfl,v,k,rfl,hsub⟩
 try dsimp only at h
 refine Goes.sub hsub ?_
 obtain⟨X,r,h⟩:=bnd h
 obtain⟨b,t,h⟩:=bnd h
 refine sq (gq fol [4,5] (kB v []) [.cells (b.flatMap (qa .u64).c)] (ac (hs (.done (.opt (qd ZT 93 (.slice 0 0 v.length v.length 1) (.i (a.length:Int)))) (.ptr 0 (((a.length:Int):Int).toNat*1+0))) (xS zA r)) (ac (hs (.run [0] (qp ZT 245 (.ptr 0 (((a.length:Int):Int).toNat*1+0)) (.int .u64 k)) [.cells (v.flatMap (qa .u64).c)] .undef [.cells (b.flatMap (qa .u64).c)] true) (xI (E:=(qa .u64)) (l:=v) (y:=k) rfl (show _=some 1 by kernel_rfl) rfl r rfl rfl rfl rfl rfl t rfl)) az)) ?_)
 refine Goes.sub (show Sub (ofG 54 (kB v []),[.cells (b.flatMap (qa .u64).c)]) (ofG 54 (kB b []),[.cells (b.flatMap (qa .u64).c)])from(Sub.norm [] [some 0] rfl rfl (.keep (.sliceE rfl (j6 t)) .nil) (.ks .nil))) ?_
 obtain⟨u,F,h⟩:=bnd h
 refine sq (gq fol [1] [(4,vl (qa .u64) u)] [.frozen (b.flatMap (qa .u64).c)] (ac (hs (.callF 225 [.slice 0 0 b.length b.length 1] [.cells (b.flatMap (qa .u64).c)] [0] [vl (qa .u64) b] (vl (qa .u64) u)) (qaA (FzL.cons (Fz.sl (E:=(qa .u64)) rfl rfl (nl rfl)) FzL.nil) (yJ N b F) (qx (qa .u64) _ (nl rfl)))) az) ?_)
 refine Goes.sub (show Sub (ofG 54 [(4,vl (qa .u64) u)],[.frozen (b.flatMap (qa .u64).c)]) (ofG 54 [(4,vl (qa .u64) u)],[])from(Sub.norm [] [] rfl rfl (.keep (.same (qg (qa .u64) _)) .nil) .nil)) ?_
 refine Goes.ret ?_
 obtain rfl:=si h
 exact(gw2 [vl (qa .u64) u] (Ua (qx (qa .u64) _ (nl rfl))))
def ze (a:List Int) (b:List Int):Nat->Int->Option (Unit⊕Int)
 |0,_=>none
 |K+1,c=>
  if c>=0 then
  (idx a c).bind fun d=>
  (idx b c).bind fun e=>
  if(!decide (d=e))=true then
  if d<e then
  some (.inr (-1))
  else
  some (.inr 1)
  else
  ze a b K (w64 (c-1))
  else
  some (.inl ())
def jo (N:Nat) (a:List Int) (b:List Int):Option Int:=
 if(!decide ((a.length:Int)=(b.length:Int)))=true then
 if(a.length:Int)<(b.length:Int)then
 some (-1)
 else
 some 1
 else
 (ze a b N (w64 ((a.length:Int)-1))).bind (fun
 |(.inl ())=>
 some 0
 |(.inr c)=>
 some c)
theorem qbk (N:Nat) (a:List Int) (b:List Int) {res:Int} (h:jo N a b=some res):qb ZT (.fn 161) [vl (qa .u64) a,vl (qa .u64) b] [] (.i res) []:=by
 unfold jo at h
 refine Ub Tryz.func161 rfl rfl (m:=41) rfl (rs:=[.tmp 4]) rfl (l:=[(0,vl (qa .u64) a),(1,vl (qa .u64) b)]) rfl ?_
 refine sh fol [(0,vl (qa .u64) a),(1,vl (qa .u64) b)] ?_
 refine sq ?_
 refine sh fol [(0,vl (qa .u64) a),(1,vl (qa .u64) b),(10,.bool (!decide ((a.length:Int)=(b.length:Int))))] ?_
 refine ihB h (fun o h=>?_) (fun o h=>?_)
 ·refine sq ?_
  refine sh fol [(15,.bool (decide ((a.length:Int)<(b.length:Int))))] ?_
  refine ihD h (fun p h=>?_) (fun p h=>?_)
  ·refine sh fol [(4,.i (-1))] ?_
   refine Goes.ret ?_
   obtain rfl:=si h
   exact(gw2 [.i (-1)] (Ua tI))
  refine Goes.skip ?_
  refine sh fol [(4,.i 1)] ?_
  refine Goes.ret ?_
  obtain rfl:=si h
  exact(gw2 [.i 1] (Ua tI))
 refine Goes.skip ?_
 refine sq ?_
 refine sh fol ((0,vl (qa .u64) a)::(1,vl (qa .u64) b)::(kAo (w64 ((a.length:Int)-1)))) ?_
 refine Goes.block ?_
 obtain⟨f,g4,h⟩:=bnd h
 refine Goes.imp (Q:=fun x s'=>(x= .exit 0/\(.inl ())=f/\Sub s' (ofG 41 [],[]))\/(x= .ret/\ ∃j,(.inr j)=f/\jh ZT [.tmp 4] (.i j) .ret s')) ?_ ?_
 ·refine Uc (fun M s=> ∃(e:Int),s=(ofG 41 ((0,vl (qa .u64) a)::(1,vl (qa .u64) b)::(kAo e)),[])/\ze a b M e=some f) ?_ (m:=N) ⟨_,rfl,g4⟩
  rintro M s ⟨e,rfl,g4⟩
  cases M with
  |zero=>simp only[ze]at g4;cases g4
  |succ M=>
   rw[ze]at g4
   refine sq ?_
   refine sh fol [(0,vl (qa .u64) a),(1,vl (qa .u64) b),(5,.i e),(20,.bool (decide (e>=0)))] ?_
   refine ihD g4 (fun q g4=>?_) (fun q g4=>?_)
   ·refine Goes.skip ?_
    refine sq (Goes.block ?_)
    obtain⟨k,c,g4⟩:=bnd g4
    obtain⟨n,d,g4⟩:=bnd g4
    refine sq (gr fol [2,3,6,7] [(0,vl (qa .u64) a),(1,vl (qa .u64) b),(5,.i e),(31,.bool (!decide (k=n)))] (ac (iv zA (qa .u64) c) (ac (lv 0 zK (qa .u64) c rfl) (ac (iv zA (qa .u64) d) (ac (lv 0 zK (qa .u64) d rfl) az)))) ?_)
    refine ihB g4 (fun r g4=>?_) (fun r g4=>?_)
    ·refine sq ?_
     refine sq (gr fol [2,3,6,7] [(40,.bool (decide (k<n)))] (ac (iv zA (qa .u64) c) (ac (lv 0 zK (qa .u64) c rfl) (ac (iv zA (qa .u64) d) (ac (lv 0 zK (qa .u64) d rfl) az)))) ?_)
     refine ihD g4 (fun g g4=>?_) (fun g g4=>?_)
     ·refine sh fol [(4,.i (-1))] ?_
      refine Goes.ret ?_
      obtain rfl:=si g4
      exact Or.inr (⟨rfl,_,rfl,(gw2 [.i (-1)] (Ua tI))⟩)
     refine Goes.skip ?_
     refine sh fol [(4,.i 1)] ?_
     refine Goes.ret ?_
     obtain rfl:=si g4
     exact Or.inr (⟨rfl,_,rfl,(gw2 [.i 1] (Ua tI))⟩)
    refine Goes.skip ?_
    refine gh fol ((0,vl (qa .u64) a)::(1,vl (qa .u64) b)::(kAo (w64 (e-1)))) ?_
    exact⟨M,(ofG 41 ((0,vl (qa .u64) a)::(1,vl (qa .u64) b)::(kAo (w64 (e-1)))),[]),Nat.lt_succ_self _,(Sub.refl _),_,rfl,g4⟩
   refine Goes.exit ?_
   obtain rfl:=si g4
   exact Or.inl (⟨rfl,rfl,(Sub.keep [] rfl rfl)⟩)
 rintro x s' (⟨rfl,rfl,hsub⟩|⟨rfl,t,rfl,hret⟩)
 ·try dsimp only at h
  refine Goes.sub hsub ?_
  refine sh fol [(4,.i 0)] ?_
  refine Goes.ret ?_
  obtain rfl:=si h
  exact(gw2 [.i 0] (Ua tI))
 try dsimp only at h
 obtain rfl:=si h
 exact hret
def jg (c:List Int) (y:List Int):Nat->(List Int)->Int->Int->Option (List Int)
 |0,_,_,_=>none
 |K+1,d,a,h=>
  if a<(c.length:Int)then
  ((if a<(y.length:Int)then
  (idx y a).bind fun e=>
  some e
  else
  some 0:Option Int)).bind fun i=>
  (idx c a).bind fun f=>
  (qdc f i h).bind fun b=>
  (idx d a).bind fun j=>
  (put d a b.1).bind fun g=>
  jg c y K g (w64 (a+1)) b.2
  else
  some d
def vX (N:Nat) (b:List Int) (y:List Int):Option (List Int):=
 (mk 8 (b.length:Int) 0).bind fun c=>
 (jg b y N c 0 0).bind fun d=>
 (yF N d).bind fun a=>
 some a
theorem qcY (N:Nat) (a:List Int) (y:List Int) {res:List Int} (h:vX N a y=some res):qb ZT (.fn 162) [vl (qa .u64) a,vl (qa .u64) y] [] (vl (qa .u64) res) []:=by
 unfold vX at h
 refine Ub Tryz.func162 rfl rfl (m:=41) rfl (rs:=[.tmp 4]) rfl (l:=[(0,vl (qa .u64) a),(1,vl (qa .u64) y)]) rfl ?_
 refine sh fol [(0,vl (qa .u64) a),(1,vl (qa .u64) y)] ?_
 obtain⟨r,v,h⟩:=bnd h
 refine sq (gq fol [2] ((0,vl (qa .u64) a)::(1,vl (qa .u64) y)::(kB r [])) [.cells (r.flatMap (qa .u64).c)] (ac (hs (.run [] (zU ZT 93 (.i (a.length:Int)) (.i (a.length:Int))) [] (.slice 0 0 r.length r.length 1) [.cells (r.flatMap (qa .u64).c)] false) (qcv zA (E:=(qa .u64)) (z:=0) rfl (by kernel_rfl) v rfl)) az) ?_)
 refine sh fol ((0,vl (qa .u64) a)::(1,vl (qa .u64) y)::(kB r [(6,.int .u64 0)])) ?_
 refine sq ?_
 refine sh fol ((0,vl (qa .u64) a)::(1,vl (qa .u64) y)::(kB r [(6,.int .u64 0),(13,.i (a.length:Int)),(14,.i 0)])) ?_
 refine Goes.block ?_
 obtain⟨D,g6,h⟩:=bnd h
 refine Goes.imp (Q:=fun x s'=>(x= .exit 0/\ ∃g,g=D/\Sub s' (ofG 41 (kB g []),[.cells (g.flatMap (qa .u64).c)]))) ?_ ?_
 ·refine Uc (fun M s=> ∃(d:List Int) (b:Int) (q:Int),s=(ofG 41 ((0,vl (qa .u64) a)::(1,vl (qa .u64) y)::(kB d (kAF q (kAG (a.length:Int) b)))),[.cells (d.flatMap (qa .u64).c)])/\jg a y M d b q=some D) ?_ (m:=N) ⟨_,_,_,rfl,g6⟩
  rintro M s ⟨d,b,q,rfl,g6⟩
  cases M with
  |zero=>simp only[jg]at g6;cases g6
  |succ M=>
   rw[jg]at g6
   refine sh fol ((0,vl (qa .u64) a)::(1,vl (qa .u64) y)::(kB d (kAF q [(13,.i (a.length:Int)),(14,.i b),(15,.bool (decide (b<(a.length:Int))))]))) ?_
   refine sq ?_
   refine ihD g6 (fun F g6=>?_) (fun F g6=>?_)
   ·refine Goes.skip ?_
    refine sq (Goes.block ?_)
    refine sh fol ((0,vl (qa .u64) a)::(1,vl (qa .u64) y)::(kB d (kAF q ((7,.i b)::(kAG (a.length:Int) b))))) ?_
    refine sh fol ((0,vl (qa .u64) a)::(1,vl (qa .u64) y)::(kB d (kAF q ((7,.i b)::(kA4 (kAG (a.length:Int) b)))))) ?_
    refine sq ?_
    refine sh fol ((0,vl (qa .u64) a)::(1,vl (qa .u64) y)::(kB d (kAF q ((7,.i b)::(kA4 [(13,.i (a.length:Int)),(14,.i b),(20,.bool (decide (b<(y.length:Int))))]))))) ?_
    obtain⟨G,g9,g6⟩:=bnd g6
    refine Goes.imp (Q:=fun x s'=>(x= .normal/\ ∃w,w=G/\Sub s' (ofG 41 ((0,vl (qa .u64) a)::(1,vl (qa .u64) y)::(kB d (kAF q ((7,.i b)::(8,.int .u64 w)::(kAG (a.length:Int) b))))),[.cells (d.flatMap (qa .u64).c)]))) ?_ ?_
    ·refine ihD g9 (fun A g9=>?_) (fun A g9=>?_)
     ·obtain⟨B,j,g9⟩:=bnd g9
      refine gr fol [2,3] ((0,vl (qa .u64) a)::(1,vl (qa .u64) y)::(kB d (kAF q ((7,.i b)::(8,.int .u64 B)::(kAG (a.length:Int) b))))) (ac (iv zA (qa .u64) j) (ac (lv 0 zK (qa .u64) j rfl) az)) ?_
      obtain rfl:=si g9
      exact⟨rfl,_,rfl,(Sub.refl _)⟩
     refine Goes.skip ?_
     obtain rfl:=si g9
     exact⟨rfl,_,rfl,(Sub.keep [0,1,5,6,7,8,13,14] rfl rfl)⟩
    rintro x s' ⟨rfl,w,rfl,hsub⟩
    refine Goes.sub hsub ?_
    obtain⟨C,k,g6⟩:=bnd g6
    obtain⟨f,t,g6⟩:=bnd g6
    obtain⟨H,n,g6⟩:=bnd g6
    obtain⟨e,o,g6⟩:=bnd g6
    refine gq fol [4,5,8,12,13] ((0,vl (qa .u64) a)::(1,vl (qa .u64) y)::(kB d (kAF f.2 (kAG (a.length:Int) b)))) [.cells (e.flatMap (qa .u64).c)] (ac (iv zA (qa .u64) k) (ac (lv 0 zK (qa .u64) k rfl) (ac (cv (qgp C w q t)) (ac (hs (.done (.opt (qd ZT 93 (.slice 0 0 d.length d.length 1) (.i b))) (.ptr 0 ((b:Int).toNat*1+0))) (xS zA n)) (ac (hs (.run [0] (qp ZT 245 (.ptr 0 ((b:Int).toNat*1+0)) (.int .u64 f.1)) [.cells (d.flatMap (qa .u64).c)] .undef [.cells (e.flatMap (qa .u64).c)] true) (xI (E:=(qa .u64)) (l:=d) (y:=f.1) rfl (show _=some 1 by kernel_rfl) rfl n rfl rfl rfl rfl rfl o rfl)) az))))) ?_
    refine Goes.sub (show Sub (ofG 41 ((0,vl (qa .u64) a)::(1,vl (qa .u64) y)::(kB d (kAF f.2 (kAG (a.length:Int) b)))),[.cells (e.flatMap (qa .u64).c)]) (ofG 41 ((0,vl (qa .u64) a)::(1,vl (qa .u64) y)::(kB e (kAF f.2 (kAG (a.length:Int) b)))),[.cells (e.flatMap (qa .u64).c)])from(Sub.norm [] [some 0] rfl rfl (.keep (.same (qg (qa .u64) _)) (.keep (.same (qg (qa .u64) _)) (.keep (.sliceE rfl (j6 o)) (.keep (.same nI) (.keep (.same nI) (.keep (.same nI) .nil)))))) (.ks .nil))) ?_
    refine gh fol ((0,vl (qa .u64) a)::(1,vl (qa .u64) y)::(kB e (kAF f.2 (kAG (a.length:Int) (w64 (b+1)))))) ?_
    exact⟨M,(ofG 41 ((0,vl (qa .u64) a)::(1,vl (qa .u64) y)::(kB e (kAF f.2 (kAG (a.length:Int) (w64 (b+1)))))),[.cells (e.flatMap (qa .u64).c)]),Nat.lt_succ_self _,(Sub.refl _),_,_,_,rfl,g6⟩
   refine Goes.exit ?_
   obtain rfl:=si g6
   exact⟨rfl,_,rfl,(Sub.keep [5] rfl rfl)⟩
 rintro x s' ⟨rfl,g,rfl,hsub⟩
 refine Goes.sub hsub ?_
 obtain⟨p,u,h⟩:=bnd h
 refine sq (gq fol [1] [(4,vl (qa .u64) p)] [.frozen (g.flatMap (qa .u64).c)] (ac (hs (.callF 225 [.slice 0 0 g.length g.length 1] [.cells (g.flatMap (qa .u64).c)] [0] [vl (qa .u64) g] (vl (qa .u64) p)) (qaA (FzL.cons (Fz.sl (E:=(qa .u64)) rfl rfl (nl rfl)) FzL.nil) (yJ N g u) (qx (qa .u64) _ (nl rfl)))) az) ?_)
 refine Goes.sub (show Sub (ofG 41 [(4,vl (qa .u64) p)],[.frozen (g.flatMap (qa .u64).c)]) (ofG 41 [(4,vl (qa .u64) p)],[])from(Sub.norm [] [] rfl rfl (.keep (.same (qg (qa .u64) _)) .nil) .nil)) ?_
 refine Goes.ret ?_
 obtain rfl:=si h
 exact(gw2 [vl (qa .u64) p] (Ua (qx (qa .u64) _ (nl rfl))))
def yL (N:Nat) (a:qj) (b:qj):Option qj:=
 (if a.w.isEmpty=true then
 some b.w.isEmpty
 else
 some false:Option Bool).bind fun m=>
 ((if m=true then
 if((decide ((w64 (a.s+b.s))>a.s))==(decide (b.s>0)))=true then
 some (.inr (⟨w64 (a.s+b.s),[]⟩:qj))
 else
 some (.inl ())
 else
 some (.inl ()):Option (Unit⊕qj))).bind (fun
 |(.inl ())=>
 (qF a).bind fun c=>
 (qF b).bind fun d=>
 if(c.1==d.1)=true then
 (xX N c.2 d.2).bind fun e=>
 (jK c.1 e).bind fun f=>
 some f
 else
 (jo N c.2 d.2).bind fun g=>
 if g>=0 then
 (vX N c.2 d.2).bind fun h=>
 (jK c.1 h).bind fun i=>
 some i
 else
 (vX N d.2 c.2).bind fun j=>
 (jK d.1 j).bind fun k=>
 some k
 |(.inr l)=>
 some l)
theorem qbN (N:Nat) (a:qj) (b:qj) {res:qj} (h:yL N a b=some res):qb ZT (.fn 65) [.agg (nz1 a),.agg (nz1 b)] [] (.agg (nz1 res)) []:=by
 unfold yL at h
 refine Ub Tryz.func65 rfl rfl (m:=67) rfl (rs:=[.cell 4 95]) rfl (l:=[(0,.agg (nz1 a)),(1,.agg (nz1 b))]) rfl ?_
 refine sg fol (kE []) [.cells (nz1 a),.cells (nz1 b),bZ] ?_
 refine sq ?_
 refine sq ?_
 obtain⟨J,c,h⟩:=bnd h
 refine Goes.cut (s':=(ofG 67 (kE [(17,.bool J)]),[.cells (nz1 a),.cells (nz1 b),bZ])) ?_ ?_
 ·rcases wyB c with⟨z,c⟩|⟨z,c⟩
  ·obtain rfl:=si c
   exact tr fol [2,3,6] (kE [(17,.bool b.w.isEmpty)]) (ac (hs (.done (.opt (zy ZT .eql 93 (.tmp 11) (.const (.slice none 0 0)) (nvl (qa .u64) a.w) .nilslice)) (.bool a.w.isEmpty)) (qab xY)) (ac (gw z) (ac (hs (.done (.opt (zy ZT .eql 93 (.tmp 15) (.const (.slice none 0 0)) (nvl (qa .u64) b.w) .nilslice)) (.bool b.w.isEmpty)) (qab xY)) az)))
  obtain rfl:=si c
  exact tr fol [2,3] (kE [(17,.bool false)]) (ac (hs (.done (.opt (zy ZT .eql 93 (.tmp 11) (.const (.slice none 0 0)) (nvl (qa .u64) a.w) .nilslice)) (.bool a.w.isEmpty)) (qab xY)) (ac (gw z) az))
 obtain⟨H,g4,h⟩:=bnd h
 refine Goes.imp (Q:=fun x s'=>(x= .normal/\(.inl ())=H/\Sub s' (ofG 67 (kE []),[.cells (nz1 a),.cells (nz1 b),bZ]))\/(x= .ret/\ ∃I,(.inr I)=H/\jh ZT [.cell 4 95] (.agg (nz1 I)) .ret s')) ?_ ?_
 ·refine ihB g4 (fun K g4=>?_) (fun K g4=>?_)
  ·refine sh fol (kE (kAo (w64 (a.s+b.s)))) ?_
   refine sh fol (kE [(5,.i (w64 (a.s+b.s))),(30,.bool ((decide ((w64 (a.s+b.s))>a.s))==(decide (b.s>0))))]) ?_
   refine ihB g4 (fun L g4=>?_) (fun L g4=>?_)
   ·refine sg fol kAa (.cells (nz1 a):: .cells (nz1 b)::(kAm (w64 (a.s+b.s)))) ?_
    refine Goes.ret ?_
    obtain rfl:=si g4
    exact Or.inr (⟨rfl,_,rfl,(gw2 [.agg [.i (w64 (a.s+b.s)),.nilslice]] (FzW.agg (qc.cons (Ua tI) (qc.cons (FzW.nv0 (E:=(qa .u64))) qc.nil))))⟩)
   refine Goes.skip ?_
   obtain rfl:=si g4
   exact Or.inl (⟨rfl,rfl,(Sub.keep [2,3,4] rfl rfl)⟩)
  refine Goes.skip ?_
  obtain rfl:=si g4
  exact Or.inl (⟨rfl,rfl,(Sub.keep [2,3,4] rfl rfl)⟩)
 rintro x s' (⟨rfl,rfl,hsub⟩|⟨rfl,M,rfl,hret⟩)
 ·try dsimp only at h
  refine Goes.sub hsub ?_
  obtain⟨d,v,h⟩:=bnd h
  refine sq (gr fol [1] (kAz [(4,.ptr 2 0),(6,.bool d.1),(7,vl (qa .u64) d.2)]) (ac (cv (zw a v)) az) ?_)
  obtain⟨e,y,h⟩:=bnd h
  refine sq (gr fol [1] [(4,.ptr 2 0),(6,.bool d.1),(7,vl (qa .u64) d.2),(8,.bool e.1),(9,vl (qa .u64) e.2)] (ac (cv (zw b y)) az) ?_)
  refine sq (Goes.block ?_)
  refine sh fol [(4,.ptr 2 0),(6,.bool d.1),(7,vl (qa .u64) d.2),(8,.bool e.1),(9,vl (qa .u64) e.2),(43,.bool (d.1==e.1))] ?_
  refine ihB h (fun A h=>?_) (fun A h=>?_)
  ·obtain⟨B,k,h⟩:=bnd h
   obtain⟨f,o,h⟩:=bnd h
   refine sq (gq fol [3,4,5] kAa [.cells (nz1 a),.cells (nz1 b),.cells (nz1 f)] (ac (cv (qfI N d.2 e.2 k)) (ac (cv (xB d.1 B o)) (ac (hs (.run [2] (qp ZT 95 (.ptr 2 0) (.agg (nz1 f))) [.cells (nz1 a),.cells (nz1 b),bZ] .undef [.cells (nz1 a),.cells (nz1 b),.cells (nz1 f)] true) (zf (n:=2) (by kernel_rfl) rfl rfl rfl rfl (cac rfl (cac nvc can)) rfl)) az))) ?_)
   refine Goes.ret ?_
   obtain rfl:=si h
   exact(gw2 [.agg (nz1 f)] (FzW.agg (qc.cons (Ua tI) (qc.cons (Ua (qw (qa .u64) _ (nl rfl))) qc.nil))))
  obtain⟨C,p,h⟩:=bnd h
  refine sq (gr fol [2] [(4,.ptr 2 0),(6,.bool d.1),(7,vl (qa .u64) d.2),(8,.bool e.1),(9,vl (qa .u64) e.2),(52,.bool (decide (C>=0)))] (ac (cv (qbk N d.2 e.2 p)) az) ?_)
  refine ihD h (fun D h=>?_) (fun D h=>?_)
  ·obtain⟨F,q,h⟩:=bnd h
   obtain⟨g,r,h⟩:=bnd h
   refine sq (gq fol [3,4,5] kAa [.cells (nz1 a),.cells (nz1 b),.cells (nz1 g)] (ac (cv (qcY N d.2 e.2 q)) (ac (cv (xB d.1 F r)) (ac (hs (.run [2] (qp ZT 95 (.ptr 2 0) (.agg (nz1 g))) [.cells (nz1 a),.cells (nz1 b),bZ] .undef [.cells (nz1 a),.cells (nz1 b),.cells (nz1 g)] true) (zf (n:=2) (by kernel_rfl) rfl rfl rfl rfl (cac rfl (cac nvc can)) rfl)) az))) ?_)
   refine Goes.ret ?_
   obtain rfl:=si h
   exact(gw2 [.agg (nz1 g)] (FzW.agg (qc.cons (Ua tI) (qc.cons (Ua (qw (qa .u64) _ (nl rfl))) qc.nil))))
  refine Goes.skip ?_
  obtain⟨G,t,h⟩:=bnd h
  obtain⟨j,u,h⟩:=bnd h
  refine sq (gq fol [3,4,5] kAa [.cells (nz1 a),.cells (nz1 b),.cells (nz1 j)] (ac (cv (qcY N e.2 d.2 t)) (ac (cv (xB e.1 G u)) (ac (hs (.run [2] (qp ZT 95 (.ptr 2 0) (.agg (nz1 j))) [.cells (nz1 a),.cells (nz1 b),bZ] .undef [.cells (nz1 a),.cells (nz1 b),.cells (nz1 j)] true) (zf (n:=2) (by kernel_rfl) rfl rfl rfl rfl (cac rfl (cac nvc can)) rfl)) az))) ?_)
  refine Goes.ret ?_
  obtain rfl:=si h
  exact(gw2 [.agg (nz1 j)] (FzW.agg (qc.cons (Ua tI) (qc.cons (Ua (qw (qa .u64) _ (nl rfl))) qc.nil))))
 try dsimp only at h
 obtain rfl:=si h
 exact hret
def qbH (n:Int):Option qj:=
 some (⟨n,[]⟩:qj)
theorem qaQ (n:Int) {res:qj} (h:qbH n=some res):qb ZT (.fn 66) [.i n] [] (.agg (nz1 res)) []:=by
 unfold qbH at h
 refine Ub Tryz.func66 rfl rfl (m:=5) rfl (rs:=[.cell 2 95]) rfl (l:=[(0,.i n)]) rfl ?_
 refine sg fol ((0,.i n)::(kV [])) [bZ] ?_
 refine sg fol (kV []) (kAm n) ?_
 refine Goes.ret ?_
 obtain rfl:=si h
 exact(gw2 [.agg [.i n,.nilslice]] (FzW.agg (qc.cons (Ua tI) (qc.cons (FzW.nv0 (E:=(qa .u64))) qc.nil))))
def stringslite_HasPrefix (b:Str) (a:Str):Option Bool:=
 (if(b.length:Int)>=(a.length:Int)then
 (cut b 0 (a.length:Int)).bind fun c=>
 some (c==a)
 else
 some false:Option Bool).bind fun d=>
 some d
theorem ym (c:Str) (a:Str) {res:Bool} (h:stringslite_HasPrefix c a=some res):qb ZT (.fn 211) [.str c,.str a] [] (.bool res) []:=by
 unfold stringslite_HasPrefix at h
 refine Ub Tryz.func211 rfl rfl (m:=18) rfl (rs:=[.tmp 4]) rfl (l:=(kS c a [])) rfl ?_
 refine sh fol (kS c a []) ?_
 refine sq ?_
 obtain⟨f,b,h⟩:=bnd h
 refine Goes.cut (s':=(ofG 18 (kAv f),[])) ?_ ?_
 ·rcases wyD b with⟨e,b⟩|⟨e,b⟩
  ·obtain⟨g,d,b⟩:=bnd b
   obtain rfl:=si b
   exact tr fol [5,9] (kAv (g==a)) (ac (gw e) (ac (hs (.done (.opt (qW ZT 9 (.str c) none (some (.i (a.length:Int))) none)) (.str g)) (jG st9 none (some (a.length:Int)) d)) az))
  obtain rfl:=si b
  exact tr fol [5] [(4,.bool false)] (ac (gw e) az)
 refine Goes.ret ?_
 obtain rfl:=si h
 exact(gw2 [.bool f] (Ua tB))
def strings_HasPrefix (b:Str) (a:Str):Option Bool:=
 (stringslite_HasPrefix b a).bind fun c=>
 some c
theorem qdB (b:Str) (a:Str) {res:Bool} (h:strings_HasPrefix b a=some res):qb ZT (.fn 142) [.str b,.str a] [] (.bool res) []:=by
 unfold strings_HasPrefix at h
 refine Ub Tryz.func142 rfl rfl (m:=8) rfl (rs:=[.tmp 4]) rfl (l:=(kS b a [])) rfl ?_
 refine sh fol (kS b a []) ?_
 obtain⟨d,c,h⟩:=bnd h
 refine sq (gr fol [2] (kAv d) (ac (cv (ym b a c)) az) ?_)
 refine Goes.ret ?_
 obtain rfl:=si h
 exact(gw2 [.bool d] (Ua tB))
def stringslite_TrimPrefix (b:Str) (a:Str):Option Str:=
 (stringslite_HasPrefix b a).bind fun c=>
 if c=true then
 (cut b (a.length:Int) (b.length:Int)).bind fun d=>
 some d
 else
 some b
theorem qbT (b:Str) (a:Str) {res:Str} (h:stringslite_TrimPrefix b a=some res):qb ZT (.fn 212) [.str b,.str a] [] (.str res) []:=by
 unfold stringslite_TrimPrefix at h
 refine Ub Tryz.func212 rfl rfl (m:=13) rfl (rs:=[.tmp 4]) rfl (l:=(kS b a [])) rfl ?_
 refine sh fol (kS b a []) ?_
 refine sq ?_
 obtain⟨f,c,h⟩:=bnd h
 refine sq (gr fol [2] (kS b a [(7,.bool f)]) (ac (cv (ym b a c)) az) ?_)
 refine ihB h (fun g h=>?_) (fun g h=>?_)
 ·obtain⟨e,d,h⟩:=bnd h
  refine sq (gr fol [3] [(4,.str e)] (ac (hs (.done (.opt (qW ZT 9 (.str b) (some (.i (a.length:Int))) none none)) (.str e)) (jG st9 (some (a.length:Int)) none d)) az) ?_)
  refine Goes.ret ?_
  obtain rfl:=si h
  exact(gw2 [.str e] (Ua tS))
 refine Goes.skip ?_
 refine sh fol [(4,.str b)] ?_
 refine Goes.ret ?_
 obtain rfl:=si h
 exact(gw2 [.str b] (Ua tS))
def strings_TrimPrefix (b:Str) (a:Str):Option Str:=
 (stringslite_TrimPrefix b a).bind fun c=>
 some c
theorem qaM (b:Str) (a:Str) {res:Str} (h:strings_TrimPrefix b a=some res):qb ZT (.fn 143) [.str b,.str a] [] (.str res) []:=by
 unfold strings_TrimPrefix at h
 refine Ub Tryz.func143 rfl rfl (m:=8) rfl (rs:=[.tmp 4]) rfl (l:=(kS b a [])) rfl ?_
 refine sh fol (kS b a []) ?_
 obtain⟨d,c,h⟩:=bnd h
 refine sq (gr fol [2] [(4,.str d)] (ac (cv (qbT b a c)) az) ?_)
 refine Goes.ret ?_
 obtain rfl:=si h
 exact(gw2 [.str d] (Ua tS))
def bits_Mul64 (a:Int) (y:Int):Option (Int×Int):=
 some (IntKind.wrap .u64 ((IntKind.wrap .u64 ((IntKind.wrap .u64 ((ql .u64 a 32)*(ql .u64 y 32)))+(ql .u64 (IntKind.wrap .u64 ((IntKind.wrap .u64 ((ql .u64 a 32)*(qy .u64 y 4294967295)))+(ql .u64 (IntKind.wrap .u64 ((qy .u64 a 4294967295)*(qy .u64 y 4294967295))) 32))) 32)))+(ql .u64 (IntKind.wrap .u64 ((qy .u64 (IntKind.wrap .u64 ((IntKind.wrap .u64 ((ql .u64 a 32)*(qy .u64 y 4294967295)))+(ql .u64 (IntKind.wrap .u64 ((qy .u64 a 4294967295)*(qy .u64 y 4294967295))) 32))) 4294967295)+(IntKind.wrap .u64 ((qy .u64 a 4294967295)*(ql .u64 y 32))))) 32)),IntKind.wrap .u64 (a*y))
theorem qa0 (a:Int) (y:Int) {res:Int×Int} (h:bits_Mul64 a y=some res):qb ZT (.fn 215) (kA2 a y) [] (.tuple (kA2 res.1 res.2)) []:=by
 unfold bits_Mul64 at h
 refine Ub Tryz.func215 rfl rfl (m:=51) rfl (rs:=[.tmp 4,.tmp 5]) rfl (l:=(kU a y [])) rfl ?_
 refine sh fol (kU a y []) ?_
 refine sh fol (kU a y (kAF (qy .u64 a 4294967295) [])) ?_
 refine sh fol (kU a y (kAF (qy .u64 a 4294967295) (kAR (ql .u64 a 32) []))) ?_
 refine sh fol (kU a y (kAF (qy .u64 a 4294967295) (kY (ql .u64 a 32) (qy .u64 y 4294967295) []))) ?_
 refine sh fol (kU a y (kAF (qy .u64 a 4294967295) (kY (ql .u64 a 32) (qy .u64 y 4294967295) [(9,.int .u64 (ql .u64 y 32))]))) ?_
 refine sh fol (kU a y (kAF (qy .u64 a 4294967295) (kY (ql .u64 a 32) (qy .u64 y 4294967295) [(9,.int .u64 (ql .u64 y 32)),(10,.int .u64 (IntKind.wrap .u64 ((qy .u64 a 4294967295)*(qy .u64 y 4294967295))))]))) ?_
 refine sh fol (kU a y (kAF (qy .u64 a 4294967295) (kAR (ql .u64 a 32) [(9,.int .u64 (ql .u64 y 32)),(11,.int .u64 (IntKind.wrap .u64 ((IntKind.wrap .u64 ((ql .u64 a 32)*(qy .u64 y 4294967295)))+(ql .u64 (IntKind.wrap .u64 ((qy .u64 a 4294967295)*(qy .u64 y 4294967295))) 32))))]))) ?_
 refine sh fol (kU a y (kAF (qy .u64 a 4294967295) (kAR (ql .u64 a 32) ((9,.int .u64 (ql .u64 y 32))::(kW (IntKind.wrap .u64 ((IntKind.wrap .u64 ((ql .u64 a 32)*(qy .u64 y 4294967295)))+(ql .u64 (IntKind.wrap .u64 ((qy .u64 a 4294967295)*(qy .u64 y 4294967295))) 32))) (qy .u64 (IntKind.wrap .u64 ((IntKind.wrap .u64 ((ql .u64 a 32)*(qy .u64 y 4294967295)))+(ql .u64 (IntKind.wrap .u64 ((qy .u64 a 4294967295)*(qy .u64 y 4294967295))) 32))) 4294967295) []))))) ?_
 refine sh fol (kU a y (kAF (qy .u64 a 4294967295) (kAR (ql .u64 a 32) [(9,.int .u64 (ql .u64 y 32)),(12,.int .u64 (qy .u64 (IntKind.wrap .u64 ((IntKind.wrap .u64 ((ql .u64 a 32)*(qy .u64 y 4294967295)))+(ql .u64 (IntKind.wrap .u64 ((qy .u64 a 4294967295)*(qy .u64 y 4294967295))) 32))) 4294967295)),(13,.int .u64 (ql .u64 (IntKind.wrap .u64 ((IntKind.wrap .u64 ((ql .u64 a 32)*(qy .u64 y 4294967295)))+(ql .u64 (IntKind.wrap .u64 ((qy .u64 a 4294967295)*(qy .u64 y 4294967295))) 32))) 32))]))) ?_
 refine sh fol (kU a y (kAR (ql .u64 a 32) [(9,.int .u64 (ql .u64 y 32)),(12,.int .u64 (IntKind.wrap .u64 ((qy .u64 (IntKind.wrap .u64 ((IntKind.wrap .u64 ((ql .u64 a 32)*(qy .u64 y 4294967295)))+(ql .u64 (IntKind.wrap .u64 ((qy .u64 a 4294967295)*(qy .u64 y 4294967295))) 32))) 4294967295)+(IntKind.wrap .u64 ((qy .u64 a 4294967295)*(ql .u64 y 32)))))),(13,.int .u64 (ql .u64 (IntKind.wrap .u64 ((IntKind.wrap .u64 ((ql .u64 a 32)*(qy .u64 y 4294967295)))+(ql .u64 (IntKind.wrap .u64 ((qy .u64 a 4294967295)*(qy .u64 y 4294967295))) 32))) 32))])) ?_
 refine sh fol (kU a y [(4,.int .u64 (IntKind.wrap .u64 ((IntKind.wrap .u64 ((IntKind.wrap .u64 ((ql .u64 a 32)*(ql .u64 y 32)))+(ql .u64 (IntKind.wrap .u64 ((IntKind.wrap .u64 ((ql .u64 a 32)*(qy .u64 y 4294967295)))+(ql .u64 (IntKind.wrap .u64 ((qy .u64 a 4294967295)*(qy .u64 y 4294967295))) 32))) 32)))+(ql .u64 (IntKind.wrap .u64 ((qy .u64 (IntKind.wrap .u64 ((IntKind.wrap .u64 ((ql .u64 a 32)*(qy .u64 y 4294967295)))+(ql .u64 (IntKind.wrap .u64 ((qy .u64 a 4294967295)*(qy .u64 y 4294967295))) 32))) 4294967295)+(IntKind.wrap .u64 ((qy .u64 a 4294967295)*(ql .u64 y 32))))) 32))))]) ?_
 refine sh fol [(4,.int .u64 (IntKind.wrap .u64 ((IntKind.wrap .u64 ((IntKind.wrap .u64 ((ql .u64 a 32)*(ql .u64 y 32)))+(ql .u64 (IntKind.wrap .u64 ((IntKind.wrap .u64 ((ql .u64 a 32)*(qy .u64 y 4294967295)))+(ql .u64 (IntKind.wrap .u64 ((qy .u64 a 4294967295)*(qy .u64 y 4294967295))) 32))) 32)))+(ql .u64 (IntKind.wrap .u64 ((qy .u64 (IntKind.wrap .u64 ((IntKind.wrap .u64 ((ql .u64 a 32)*(qy .u64 y 4294967295)))+(ql .u64 (IntKind.wrap .u64 ((qy .u64 a 4294967295)*(qy .u64 y 4294967295))) 32))) 4294967295)+(IntKind.wrap .u64 ((qy .u64 a 4294967295)*(ql .u64 y 32))))) 32)))),(5,.int .u64 (IntKind.wrap .u64 (a*y)))] ?_
 refine Goes.ret ?_
 obtain rfl:=si h
 exact(gw2 (kA2 (IntKind.wrap .u64 ((IntKind.wrap .u64 ((IntKind.wrap .u64 ((ql .u64 a 32)*(ql .u64 y 32)))+(ql .u64 (IntKind.wrap .u64 ((IntKind.wrap .u64 ((ql .u64 a 32)*(qy .u64 y 4294967295)))+(ql .u64 (IntKind.wrap .u64 ((qy .u64 a 4294967295)*(qy .u64 y 4294967295))) 32))) 32)))+(ql .u64 (IntKind.wrap .u64 ((qy .u64 (IntKind.wrap .u64 ((IntKind.wrap .u64 ((ql .u64 a 32)*(qy .u64 y 4294967295)))+(ql .u64 (IntKind.wrap .u64 ((qy .u64 a 4294967295)*(qy .u64 y 4294967295))) 32))) 4294967295)+(IntKind.wrap .u64 ((qy .u64 a 4294967295)*(ql .u64 y 32))))) 32))) (IntKind.wrap .u64 (a*y))) (FzW.tuple (qc.cons (Ua tI) (qc.cons (Ua tI) qc.nil))))
def jf (b:List Int) (l:Int) (g:Int):Nat->(List Int)->Int->Int->Option ((List Int)×Int)
 |0,_,_,_=>none
 |K+1,h,a,c=>
  if a<(b.length:Int)then
  (idx b a).bind fun i=>
  (bits_Mul64 l i).bind fun d=>
  (idx h (w64 (g+a))).bind fun j=>
  (xy d.2 j 0).bind fun e=>
  (xy e.1 c 0).bind fun f=>
  (put h (w64 (g+a)) f.1).bind fun k=>
  jf b l g K k (w64 (a+1)) (IntKind.wrap .u64 ((IntKind.wrap .u64 (d.1+e.2))+f.2))
  else
  some (h,c)
def jd (N:Nat) (a:List Int) (b:List Int):Nat->(List Int)->Int->Option (List Int)
 |0,_,_=>none
 |K+1,g,c=>
  if c<(a.length:Int)then
  (idx a c).bind fun h=>
  (jf b h c N g 0 0).bind fun(d,e)=>
  (idx d (w64 (c+(b.length:Int)))).bind fun i=>
  (put d (w64 (c+(b.length:Int))) e).bind fun f=>
  jd N a b K f (w64 (c+1))
  else
  some g
def xW (N:Nat) (a:List Int) (b:List Int):Option (List Int):=
 (mk 8 (w64 ((a.length:Int)+(b.length:Int))) 0).bind fun d=>
 (jd N a b N d 0).bind fun e=>
 (yF N e).bind fun c=>
 some c
theorem qfH (N:Nat) (a:List Int) (b:List Int) {res:List Int} (h:xW N a b=some res):qb ZT (.fn 217) [vl (qa .u64) a,vl (qa .u64) b] [] (vl (qa .u64) res) []:=by
 unfold xW at h
 refine Ub Tryz.func217 rfl rfl (m:=80) rfl (rs:=[.tmp 4]) rfl (l:=[(0,vl (qa .u64) a),(1,vl (qa .u64) b)]) rfl ?_
 refine sh fol [(0,vl (qa .u64) a),(1,vl (qa .u64) b)] ?_
 obtain⟨L,O,h⟩:=bnd h
 refine sq (gq fol [5] ((0,vl (qa .u64) a)::(1,vl (qa .u64) b)::(kB L [])) [.cells (L.flatMap (qa .u64).c)] (ac (hs (.run [] (zU ZT 93 (.i (w64 ((a.length:Int)+(b.length:Int)))) (.i (w64 ((a.length:Int)+(b.length:Int))))) [] (.slice 0 0 L.length L.length 1) [.cells (L.flatMap (qa .u64).c)] false) (qcv zA (E:=(qa .u64)) (z:=0) rfl (by kernel_rfl) O rfl)) az) ?_)
 refine sq ?_
 refine sh fol ((1,vl (qa .u64) b)::(kB L [(20,vl (qa .u64) a),(21,.i (a.length:Int)),(22,.i 0)])) ?_
 refine Goes.block ?_
 obtain⟨Y,g5,h⟩:=bnd h
 refine Goes.imp (Q:=fun x s'=>(x= .exit 0/\ ∃u,u=Y/\Sub s' (ofG 80 (kB u []),[.cells (u.flatMap (qa .u64).c)]))) ?_ ?_
 ·refine Uc (fun M s=> ∃(F:List Int) (d:Int),s=(ofG 80 ((1,vl (qa .u64) b)::(kB F ((20,vl (qa .u64) a)::(kAA (a.length:Int) d [])))),[.cells (F.flatMap (qa .u64).c)])/\jd N a b M F d=some Y) ?_ (m:=N) ⟨_,_,rfl,g5⟩
  rintro M s ⟨F,d,rfl,g5⟩
  cases M with
  |zero=>simp only[jd]at g5;cases g5
  |succ M=>
   rw[jd]at g5
   refine sh fol ((1,vl (qa .u64) b)::(kB F ((20,vl (qa .u64) a)::(kAA (a.length:Int) d [(23,.bool (decide (d<(a.length:Int))))])))) ?_
   refine sq ?_
   refine ihD g5 (fun Z g5=>?_) (fun Z g5=>?_)
   ·refine Goes.skip ?_
    refine sq (Goes.block ?_)
    obtain⟨q,G,g5⟩:=bnd g5
    refine sq (gr fol [1,2] ((1,vl (qa .u64) b)::(kB F ((6,.i d)::(kAR q ((20,vl (qa .u64) a)::(kAA (a.length:Int) d [])))))) (ac (iv zA (qa .u64) G) (ac (lv 0 zK (qa .u64) G rfl) az)) ?_)
    refine sh fol ((1,vl (qa .u64) b)::(kB F ((6,.i d)::(kAR q (kA4 ((20,vl (qa .u64) a)::(kAA (a.length:Int) d []))))))) ?_
    refine sq ?_
    refine sh fol ((1,vl (qa .u64) b)::(kB F ((6,.i d)::(kAR q (kA4 ((20,vl (qa .u64) a)::(kAA (a.length:Int) d [(27,vl (qa .u64) b),(28,.i (b.length:Int)),(29,.i 0)]))))))) ?_
    refine Goes.block ?_
    obtain⟨P,g13,g5⟩:=bnd g5
    refine Goes.imp (Q:=fun x s'=>(x= .exit 2/\ ∃k v,(k,v)=P/\Sub s' (ofG 80 ((1,vl (qa .u64) b)::(kB k ((6,.i d)::(8,.int .u64 v)::(20,vl (qa .u64) a)::(kAA (a.length:Int) d [])))),[.cells (k.flatMap (qa .u64).c)]))) ?_ ?_
    ·refine Uc (fun M s=> ∃(j:List Int) (e:Int) (n:Int),s=(ofG 80 ((1,vl (qa .u64) b)::(kB j ((6,.i d)::(kY q n ((20,vl (qa .u64) a)::(kAA (a.length:Int) d ((27,vl (qa .u64) b)::(kAh (b.length:Int) e)))))))),[.cells (j.flatMap (qa .u64).c)])/\jf b q d M j e n=some P) ?_ (m:=N) ⟨_,_,_,rfl,g13⟩
     rintro M s ⟨j,e,n,rfl,g13⟩
     cases M with
     |zero=>simp only[jf]at g13;cases g13
     |succ M=>
      rw[jf]at g13
      refine sh fol ((1,vl (qa .u64) b)::(kB j ((6,.i d)::(kY q n ((20,vl (qa .u64) a)::(kAA (a.length:Int) d [(27,vl (qa .u64) b),(28,.i (b.length:Int)),(29,.i e),(30,.bool (decide (e<(b.length:Int))))])))))) ?_
      refine sq ?_
      refine ihD g13 (fun X g13=>?_) (fun X g13=>?_)
      ·refine Goes.skip ?_
       refine sq (Goes.block ?_)
       obtain⟨U,w,g13⟩:=bnd g13
       refine sq (gr fol [1,2] ((1,vl (qa .u64) b)::(kB j ((6,.i d)::(kY q n ((9,.i e)::(10,.int .u64 U)::(20,vl (qa .u64) a)::(kAA (a.length:Int) d ((27,vl (qa .u64) b)::(kAh (b.length:Int) e)))))))) (ac (iv zA (qa .u64) w) (ac (lv 0 zK (qa .u64) w rfl) az)) ?_)
       obtain⟨f,H,g13⟩:=bnd g13
       refine sq (gr fol [2] ((1,vl (qa .u64) b)::(kB j ((6,.i d)::(kY q n ((9,.i e)::(kW f.1 f.2 ((20,vl (qa .u64) a)::(kAA (a.length:Int) d ((27,vl (qa .u64) b)::(kAh (b.length:Int) e)))))))))) (ac (cv (qa0 q U H)) az) ?_)
       refine sh fol ((1,vl (qa .u64) b)::(kB j ((6,.i d)::(kY q n ((9,.i e)::(kW f.1 f.2 ((20,vl (qa .u64) a)::(kAA (a.length:Int) d ((27,vl (qa .u64) b)::(kAh (b.length:Int) e)))))))))) ?_
       obtain⟨V,o,g13⟩:=bnd g13
       obtain⟨g,I,g13⟩:=bnd g13
       refine sq (gr fol [5,6,7] ((1,vl (qa .u64) b)::(kB j ((6,.i d)::(kY q n ((9,.i e)::(kW f.1 g.1 ((13,.int .u64 g.2)::(20,vl (qa .u64) a)::(kAA (a.length:Int) d ((27,vl (qa .u64) b)::(kAh (b.length:Int) e)))))))))) (ac (hs (.done (.opt (qd ZT 93 (.slice 0 0 j.length j.length 1) (.i (w64 (d+e))))) (.ptr 0 ((w64 (d+e):Int).toNat*1+0))) (xS zA o)) (ac (hs (.run [0] (zR ZT 245 (.ptr 0 ((w64 (d+e):Int).toNat*1+0))) [.cells (j.flatMap (qa .u64).c)] (.int .u64 V) [.cells (j.flatMap (qa .u64).c)] false) (qbR zK (E:=(qa .u64)) (l:=j) rfl rfl o (nl rfl) rfl)) (ac (cv (qbB f.2 V 0 I)) az))) ?_)
       refine sh fol ((1,vl (qa .u64) b)::(kB j ((6,.i d)::(kY q n ((9,.i e)::(kW (IntKind.wrap .u64 (f.1+g.2)) g.1 ((20,vl (qa .u64) a)::(kAA (a.length:Int) d ((27,vl (qa .u64) b)::(kAh (b.length:Int) e)))))))))) ?_
       obtain⟨p,J,g13⟩:=bnd g13
       refine sq (gr fol [2] ((1,vl (qa .u64) b)::(kB j ((6,.i d)::(kAR q ((9,.i e)::(kW (IntKind.wrap .u64 (f.1+g.2)) p.1 ((13,.int .u64 p.2)::(20,vl (qa .u64) a)::(kAA (a.length:Int) d ((27,vl (qa .u64) b)::(kAh (b.length:Int) e)))))))))) (ac (cv (qbB g.1 n 0 J)) az) ?_)
       obtain⟨r,A,g13⟩:=bnd g13
       refine gq fol [8,9] ((1,vl (qa .u64) b)::(kB j ((6,.i d)::(kY q (IntKind.wrap .u64 ((IntKind.wrap .u64 (f.1+g.2))+p.2)) ((20,vl (qa .u64) a)::(kAA (a.length:Int) d ((27,vl (qa .u64) b)::(kAh (b.length:Int) e)))))))) [.cells (r.flatMap (qa .u64).c)] (ac (hs (.done (.opt (qd ZT 93 (.slice 0 0 j.length j.length 1) (.i (w64 (d+e))))) (.ptr 0 ((w64 (d+e):Int).toNat*1+0))) (xS zA o)) (ac (hs (.run [0] (qp ZT 245 (.ptr 0 ((w64 (d+e):Int).toNat*1+0)) (.int .u64 p.1)) [.cells (j.flatMap (qa .u64).c)] .undef [.cells (r.flatMap (qa .u64).c)] true) (xI (E:=(qa .u64)) (l:=j) (y:=p.1) rfl (show _=some 1 by kernel_rfl) rfl o rfl rfl rfl rfl rfl A rfl)) az)) ?_
       refine Goes.sub (show Sub (ofG 80 ((1,vl (qa .u64) b)::(kB j ((6,.i d)::(kY q (IntKind.wrap .u64 ((IntKind.wrap .u64 (f.1+g.2))+p.2)) ((20,vl (qa .u64) a)::(kAA (a.length:Int) d ((27,vl (qa .u64) b)::(kAh (b.length:Int) e)))))))),[.cells (r.flatMap (qa .u64).c)]) (ofG 80 ((1,vl (qa .u64) b)::(kB r ((6,.i d)::(kY q (IntKind.wrap .u64 ((IntKind.wrap .u64 (f.1+g.2))+p.2)) ((20,vl (qa .u64) a)::(kAA (a.length:Int) d ((27,vl (qa .u64) b)::(kAh (b.length:Int) e)))))))),[.cells (r.flatMap (qa .u64).c)])from(Sub.norm [] [some 0] rfl rfl (.keep (.same (qg (qa .u64) _)) (.keep (.sliceE rfl (j6 A)) (.keep (.same nI) (.keep (.same nI) (.keep (.same nI) (.keep (.same (qg (qa .u64) _)) (.keep (.same nI) (.keep (.same nI) (.keep (.same (qg (qa .u64) _)) (.keep (.same nI) (.keep (.same nI) .nil))))))))))) (.ks .nil))) ?_
       refine gh fol ((1,vl (qa .u64) b)::(kB r ((6,.i d)::(kY q (IntKind.wrap .u64 ((IntKind.wrap .u64 (f.1+g.2))+p.2)) ((20,vl (qa .u64) a)::(kAA (a.length:Int) d ((27,vl (qa .u64) b)::(kAh (b.length:Int) (w64 (e+1)))))))))) ?_
       exact⟨M,(ofG 80 ((1,vl (qa .u64) b)::(kB r ((6,.i d)::(kY q (IntKind.wrap .u64 ((IntKind.wrap .u64 (f.1+g.2))+p.2)) ((20,vl (qa .u64) a)::(kAA (a.length:Int) d ((27,vl (qa .u64) b)::(kAh (b.length:Int) (w64 (e+1)))))))))),[.cells (r.flatMap (qa .u64).c)]),Nat.lt_succ_self _,(Sub.refl _),_,_,_,rfl,g13⟩
      refine Goes.exit ?_
      obtain rfl:=si g13
      exact⟨rfl,_,_,rfl,(Sub.keep [1,5,6,8,20,21,22] rfl rfl)⟩
    rintro x s' ⟨rfl,k,v,rfl,hsub⟩
    try dsimp only at g5
    refine Goes.sub hsub ?_
    obtain⟨a0,B,g5⟩:=bnd g5
    obtain⟨t,C,g5⟩:=bnd g5
    refine gq fol [6,7] ((1,vl (qa .u64) b)::(kB k ((20,vl (qa .u64) a)::(kAA (a.length:Int) d [])))) [.cells (t.flatMap (qa .u64).c)] (ac (hs (.done (.opt (qd ZT 93 (.slice 0 0 k.length k.length 1) (.i (w64 (d+(b.length:Int)))))) (.ptr 0 ((w64 (d+(b.length:Int)):Int).toNat*1+0))) (xS zA B)) (ac (hs (.run [0] (qp ZT 245 (.ptr 0 ((w64 (d+(b.length:Int)):Int).toNat*1+0)) (.int .u64 v)) [.cells (k.flatMap (qa .u64).c)] .undef [.cells (t.flatMap (qa .u64).c)] true) (xI (E:=(qa .u64)) (l:=k) (y:=v) rfl (show _=some 1 by kernel_rfl) rfl B rfl rfl rfl rfl rfl C rfl)) az)) ?_
    refine Goes.sub (show Sub (ofG 80 ((1,vl (qa .u64) b)::(kB k ((20,vl (qa .u64) a)::(kAA (a.length:Int) d [])))),[.cells (t.flatMap (qa .u64).c)]) (ofG 80 ((1,vl (qa .u64) b)::(kB t ((20,vl (qa .u64) a)::(kAA (a.length:Int) d [])))),[.cells (t.flatMap (qa .u64).c)])from(Sub.norm [] [some 0] rfl rfl (.keep (.same (qg (qa .u64) _)) (.keep (.sliceE rfl (j6 C)) (.keep (.same (qg (qa .u64) _)) (.keep (.same nI) (.keep (.same nI) .nil))))) (.ks .nil))) ?_
    refine gh fol ((1,vl (qa .u64) b)::(kB t ((20,vl (qa .u64) a)::(kAA (a.length:Int) (w64 (d+1)) [])))) ?_
    exact⟨M,(ofG 80 ((1,vl (qa .u64) b)::(kB t ((20,vl (qa .u64) a)::(kAA (a.length:Int) (w64 (d+1)) [])))),[.cells (t.flatMap (qa .u64).c)]),Nat.lt_succ_self _,(Sub.refl _),_,_,rfl,g5⟩
   refine Goes.exit ?_
   obtain rfl:=si g5
   exact⟨rfl,_,rfl,(Sub.keep [5] rfl rfl)⟩
 rintro x s' ⟨rfl,u,rfl,hsub⟩
 refine Goes.sub hsub ?_
 obtain⟨D,K,h⟩:=bnd h
 refine sq (gq fol [1] [(4,vl (qa .u64) D)] [.frozen (u.flatMap (qa .u64).c)] (ac (hs (.callF 225 [.slice 0 0 u.length u.length 1] [.cells (u.flatMap (qa .u64).c)] [0] [vl (qa .u64) u] (vl (qa .u64) D)) (qaA (FzL.cons (Fz.sl (E:=(qa .u64)) rfl rfl (nl rfl)) FzL.nil) (yJ N u K) (qx (qa .u64) _ (nl rfl)))) az) ?_)
 refine Goes.sub (show Sub (ofG 80 [(4,vl (qa .u64) D)],[.frozen (u.flatMap (qa .u64).c)]) (ofG 80 [(4,vl (qa .u64) D)],[])from(Sub.norm [] [] rfl rfl (.keep (.same (qg (qa .u64) _)) .nil) .nil)) ?_
 refine Goes.ret ?_
 obtain rfl:=si h
 exact(gw2 [vl (qa .u64) D] (Ua (qx (qa .u64) _ (nl rfl))))
end Go.Av
