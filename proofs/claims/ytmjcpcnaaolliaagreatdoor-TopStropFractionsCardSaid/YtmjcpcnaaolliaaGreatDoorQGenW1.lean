/-
  Walks of functions: what each computes, as a plain function.
-/
import Derived.Test.YtmjcpcnaaolliaaGreatDoorAvJnM
noncomputable section
namespace Go.Av
open Go.Proofs Go.RowKit
abbrev ZT:=Tryz.prog
set_option linter.unusedSectionVars false
set_option linter.unusedVariables false
set_option linter.unusedSimpArgs false
set_option maxRecDepth 100000
theorem fol:Tryz.prog.follows .mixedOrders=true:=by kernel_rfl
structure qB where
 neg:Bool
 w:List Int
def qj7:Enc qB:=(encB.prod (qob encI)).comap fun x=>(x.neg,x.w)
instance:SE qj7:=⟨nl rfl⟩
structure qd where
 s:Int
 w:List Int
def qi0:Enc qd:=(encI.prod (encN (qa .u64))).comap fun x=>(x.s,x.w)
instance:SE qi0:=⟨nl rfl⟩
structure qj where
 Num:qd
 Den:qd
def qhM:Enc qj:=(qi0.prod qi0).comap fun x=>(x.Num,x.Den)
instance:SE qhM:=⟨nl rfl⟩
structure jv where
 n:qj
 d:qj
def qjg:Enc jv:=(qhM.prod qhM).comap fun x=>(x.n,x.d)
instance:SE qjg:=⟨nl rfl⟩
abbrev kA {α3:Type} {α4:Type} (a:List Int) (b:List Int) (c:Int) (d:List α3) (e:List α4) (f:Int) (x:List (Nat×AV)):List (Nat×AV):=(8,vl encI a)::(9,vl encI b)::(10,.i c)::(11,.oslice 0 d.length 1)::(12,.slice 1 0 e.length e.length 1)::(13,.i f)::x
abbrev kB (a:List Int) (x:List Blk):List Blk:= .cells (a.flatMap encI.c)::x
abbrev kC {α0:Type} (a:List α0) (x:List (Nat×AV)):List (Nat×AV):=(5,.slice 0 0 a.length a.length 1)::x
abbrev kD (x:List (Nat×AV)):List (Nat×AV):=(2,.ptr 0 0)::(3,.ptr 1 0)::(4,.ptr 2 0)::x
abbrev kE {α0:Type} {α2:Type} (a:List α0) (b:Int) (c:List α2) (x:List (Nat×AV)):List (Nat×AV):=(11,.slice 0 0 a.length a.length 1)::(12,.i b)::(13,.slice 1 0 c.length c.length 1)::x
abbrev kF (x:List Blk):List Blk:= .cells [.i 0,.nilslice,.i 0,.nilslice]::x
abbrev kG (a:List Int) (b:List Int) (x:List (Nat×AV)):List (Nat×AV):=(0,vl encI a)::(1,vl encI b)::x
abbrev kH (a:Int) (b:Int) (c:Int) (d:Int) (x:List (Nat×AV)):List (Nat×AV):=(2,.int .u64 a)::(8,.int .u64 b)::(9,.int .u64 c)::(10,.int .u64 d)::x
abbrev kI (a:Str) (b:Int) (c:Int) (d:Str) (e:Str) (f:Str) (g:Str) (h:Str) (x:List (Nat×AV)):List (Nat×AV):=(0,.str a)::(1,.i b)::(2,.i c)::(7,.str d)::(9,.str e)::(11,.str f)::(13,.str g)::(14,.str h)::x
abbrev kK (a:Bool) (b:List Int) (c:Bool) (d:List Int) (x:List Blk):List Blk:= .cells [.bool a,vl encI b]:: .cells [.bool c,vl encI d]::x
abbrev kL (x:List Blk):List Blk:= .cells [.bool false,.nilslice]::x
abbrev kM (a:Int) (b:Int) (c:Int) (x:List (Nat×AV)):List (Nat×AV):=(14,.int .u64 a)::(15,.int .u64 b)::(16,.int .u64 c)::x
abbrev kN (a:Int) (b:Int) (x:List (Nat×AV)):List (Nat×AV):=(5,.i a)::(6,.int .u64 b)::x
abbrev kO {α0:Type} (a:List α0) (x:List (Nat×AV)):List (Nat×AV):=(6,.slice 0 0 a.length a.length 1)::x
abbrev kP (a:Str) (b:Bool) (x:List (Nat×AV)):List (Nat×AV):=(0,.str a)::(2,.ptr 0 0)::(3,.bool b)::x
abbrev kQ (a:Str) (b:Str) (x:List (Nat×AV)):List (Nat×AV):=(0,.str a)::(1,.str b)::x
abbrev kR (a:Str) (x:List (Nat×AV)):List (Nat×AV):=(0,.str a)::(7,.ptr 0 0)::(8,.ptr 1 0)::(9,.ptr 2 0)::(10,.ptr 3 0)::x
abbrev kS (x:List Blk):List Blk:= .cells [.i 0,.nilslice,.i 0,.nilslice,.i 0,.nilslice,.i 0,.nilslice]::x
abbrev kT (a:Int) (b:Int) (x:List (Nat×AV)):List (Nat×AV):=(0,.int .u64 a)::(1,.int .u64 b)::x
abbrev kU (x:List (Nat×AV)):List (Nat×AV):=(2,.ptr 0 0)::x
abbrev kV (a:Int) (b:Int) (x:List (Nat×AV)):List (Nat×AV):=(11,.int .u64 a)::(12,.int .u64 b)::x
abbrev kW (a:Int) (b:Int) (x:List (Nat×AV)):List (Nat×AV):=(7,.int .u64 a)::(8,.int .u64 b)::x
abbrev kX (a:Int) (b:Int) (x:List (Nat×AV)):List (Nat×AV):=(21,.i a)::(22,.i b)::x
abbrev kY {α0:Type} (a:List α0) (x:List (Nat×AV)):List (Nat×AV):=(6,.gslice 0 a.length 1)::x
abbrev kZ (a:Str) (b:Str) (c:Bool) (x:List (Nat×AV)):List (Nat×AV):=(5,.str a)::(6,.str b)::(7,.bool c)::x
abbrev kAA (a:List Str) (x:List Blk):List Blk:= .cells (a.flatMap encS.c)::x
abbrev kAB (a:Int) (x:List (Nat×AV)):List (Nat×AV):=(6,.int .u64 a)::x
abbrev kAC (a:Int) (b:Int) (x:List (Nat×AV)):List (Nat×AV):=(15,.i a)::(16,.i b)::x
abbrev kAD (a:Int) (b:Int):List (Nat×AV):=[(13,.i a),(14,.i b)]
abbrev kAF (a:Int) (b:Int) (x:List (Nat×AV)):List (Nat×AV):=(0,.i a)::(1,.i b)::x
abbrev kAG (x:List (Nat×AV)):List (Nat×AV):=(4,.ptr 2 0)::x
abbrev kAH {α0:Type} (a:List α0) (b:Int) (c:Int) (x:List (Nat×AV)):List (Nat×AV):=(5,.gslice 0 a.length 1)::(6,.i b)::(7,.i c)::x
abbrev kAI (a:Bool) (b:List Int) (x:List Blk):List Blk:= .cells [.bool a,vl encI b]::x
abbrev kAJ (a:Int) (b:Int) (x:List (Nat×AV)):List (Nat×AV):=(11,.int .u64 a)::(13,.int .u64 b)::x
abbrev kAK (a:Str) (b:Int) (c:Int) (x:List (Nat×AV)):List (Nat×AV):=(0,.str a)::(1,.i b)::(2,.i c)::x
abbrev kAL (x:List (Nat×AV)):List (Nat×AV):=(1,.ptr 0 0)::(2,.ptr 1 0)::x
abbrev kAM (x:List (Nat×AV)):List (Nat×AV):=(4,.ptr 1 0)::(5,.ptr 2 0)::x
abbrev kAN (a:List Int):List Blk:=[.frozen (a.flatMap encI.c)]
abbrev kAO (a:Int) (b:Int) (x:List (Nat×AV)):List (Nat×AV):=(17,.int .u64 a)::(18,.int .u64 b)::x
abbrev kAP (a:Bool) (b:List Int):List AV:=[.bool a,vl encI b]
abbrev kAQ {α3:Type} (a:List Int) (b:List Int) (c:Int) (d:List α3) (x:List (Nat×AV)):List (Nat×AV):=(8,vl encI a)::(9,vl encI b)::(10,.i c)::(11,.oslice 0 d.length 1)::x
abbrev kAR (a:Int) (b:Int):List (Nat×AV):=[(7,.i a),(8,.i b)]
abbrev kAS (a:Str):List (Nat×AV):=[(0,.str a)]
abbrev kAT (a:Int) (x:List (Nat×AV)):List (Nat×AV):=(7,.int .u64 a)::x
abbrev kAU (a:List Int) (b:Int) (x:List (Nat×AV)):List (Nat×AV):=(0,vl encI a)::(1,.i b)::x
abbrev kAV (a:Bool) (b:List Int) (c:Bool) (d:List Int):List AV:=[.agg [.bool a,vl encI b],.agg [.bool c,vl encI d]]
abbrev kAW (a:Str) (b:Int) (x:List (Nat×AV)):List (Nat×AV):=(3,.str a)::(4,.i b)::x
abbrev kAX (a:Str) (b:Int) (x:List (Nat×AV)):List (Nat×AV):=(0,.str a)::(3,.i b)::x
abbrev kAY {α0:Type} (a:List α0) (b:Bool) (x:List (Nat×AV)):List (Nat×AV):=(3,.gslice 1 a.length 1)::(4,.bool b)::x
abbrev kAZ (a:Int) (b:Int) (c:Int) (d:Int) (x:List (Nat×AV)):List (Nat×AV):=(2,.i a)::(7,.i b)::(9,.i c)::(10,.i d)::x
abbrev kAa (x:List (Nat×AV)):List (Nat×AV):=(3,.ptr 1 0)::x
abbrev kAb (x:List (Nat×AV)):List (Nat×AV):=(4,.ptr 0 0)::x
abbrev kAc (x:List (Nat×AV)):List (Nat×AV):=(1,.ptr 0 0)::x
abbrev kAd (a:Int) (b:Int):List (Nat×AV):=[(104,.i a),(105,.i b)]
abbrev kAe (a:Int) (b:Int):List (Nat×AV):=[(28,.i a),(29,.i b)]
abbrev kAf (a:Int) (b:Int) (x:List Blk):List Blk:= .cells [.i a,.i b]::x
abbrev kAg (a:Int) (b:Int) (c:Int) (x:List (Nat×AV)):List (Nat×AV):=(17,.int .u64 a)::(156,.i b)::(157,.i c)::x
abbrev kAh (a:Str) (b:Bool) (x:List (Nat×AV)):List (Nat×AV):=(5,.str a)::(6,.bool b)::x
abbrev kAi (a:Int) (b:Int):List (Nat×AV):=[(96,.i a),(97,.i b)]
abbrev kAj (a:Int):List Blk:=[.cells [.i a,.nilslice]]
abbrev kAk (a:Int) (b:Int) (x:List (Nat×AV)):List (Nat×AV):=(14,.int .u64 a)::(15,.int .u64 b)::x
abbrev kAl (a:Int) (b:Int):List (Nat×AV):=[(6,.i a),(7,.i b)]
abbrev kAm (a:Int) (b:Int):List (Nat×AV):=[(8,.i a),(9,.i b)]
abbrev kAn (x:List (Nat×AV)):List (Nat×AV):=(14,.ptr 4 0)::(15,.ptr 5 0)::x
abbrev kAo:List Blk:=[.cells (([]:List Int).flatMap encI.c)]
abbrev kAp (a:Int) (x:List Blk):List Blk:= .dead:: .cells [.i a]::x
abbrev kAq (a:List Int) (x:List (Nat×AV)):List (Nat×AV):=(0,vl encI a)::x
abbrev kAr (a:List Int) (b:List Int):List AV:=[vl encI a,vl encI b]
abbrev kAs (x:List (Nat×AV)):List (Nat×AV):=(5,.ptr 3 0)::x
abbrev kAt (a:Int):List (Nat×AV):=[(5,.i a)]
abbrev kAu (a:List Int) (x:List (Nat×AV)):List (Nat×AV):=(5,vl encI a)::x
abbrev kAv {α0:Type} (a:List α0) (x:List (Nat×AV)):List (Nat×AV):=(5,.gslice 0 a.length 1)::x
abbrev kAw (x:List (Nat×AV)):List (Nat×AV):=(4,.ptr 1 0)::x
abbrev kAx (a:Int) (b:Int) (x:List (Nat×AV)):List (Nat×AV):=(0,.int .u64 a)::(2,.i b)::x
abbrev kAy:List (Nat×AV):=[(2,.ptr 1 0)]
abbrev kAz (a:Bool) (b:List Int) (c:Bool) (d:List Int):List (Nat×AV):=[(0,.agg [.bool a,vl encI b]),(1,.agg [.bool c,vl encI d])]
abbrev kA0 (a:Bool):List (Nat×AV):=[(4,.bool a)]
abbrev kA1 (a:Str) (x:List (Nat×AV)):List (Nat×AV):=(0,.str a)::x
abbrev kA2 (a:Bool):List (Nat×AV):=[(12,.bool a)]
abbrev kA3 (a:Str):List (Nat×AV):=[(2,.str a)]
abbrev kA4 (x:List (Nat×AV)):List (Nat×AV):=(10,.ptr 1 0)::x
abbrev kA5 (a:Bool):List (Nat×AV):=[(13,.bool a)]
abbrev kA6 (a:Int) (b:Int):List AV:=[.int .u64 a,.int .u64 b]
abbrev kA7 (x:List (Nat×AV)):List (Nat×AV):=(8,.int .u64 0)::x
abbrev nz1 (x:qd):List AV:=ni1 x.s x.w
abbrev nq1 (x:qj):List AV:=ni2 x.Num.s x.Num.w x.Den.s x.Den.w
abbrev nq2 (x y:qj):List AV:=ni4 x.Num.s x.Num.w x.Den.s x.Den.w y.Num.s y.Num.w y.Den.s y.Den.w
theorem qkQ:Tryz.prog.underlying 22=some .string:=by kernel_rfl
theorem st9:Tryz.prog.underlying 9=some .string:=by kernel_rfl
theorem jR:SlT ZT 75 3 1 8:=⟨by kernel_rfl,by kernel_rfl,by kernel_rfl,by kernel_rfl⟩
theorem ce3:CeT ZT 3:=⟨by kernel_rfl,by kernel_rfl⟩
theorem sl199:SlT ZT 199 27 1 8:=⟨by kernel_rfl,by kernel_rfl,by kernel_rfl,by kernel_rfl⟩
theorem ce27:CeT ZT 27:=⟨by kernel_rfl,by kernel_rfl⟩
theorem qap:Tryz.prog.underlying 93=some (.slice 245):=by kernel_rfl
theorem zL:SlT ZT 93 245 1 8:=⟨by kernel_rfl,by kernel_rfl,by kernel_rfl,by kernel_rfl⟩
theorem zT:CeT ZT 245:=⟨by kernel_rfl,by kernel_rfl⟩
theorem qpM:SlT ZT 284 9 1 16:=⟨by kernel_rfl,by kernel_rfl,by kernel_rfl,by kernel_rfl⟩
theorem ce9:CeT ZT 9:=⟨by kernel_rfl,by kernel_rfl⟩
def xk (a:Str):Option Int:=
 if(a==[48])=true then
 some 0
 else
 (if(a.length:Int)>0 then
 (idx a 0).bind fun b=>
 some (decide ((b.toNat:Int)=45))
 else
 some false:Option Bool).bind fun c=>
 if c=true then
 some (-1)
 else
 some 1
theorem qbl (a:Str) {res:Int} (h:xk a=some res):qb ZT (.fn 73) [.str a] [] (.i res) []:=by
 unfold xk at h
 refine Ub Tryz.func73 rfl rfl (m:=13) rfl (rs:=[.tmp 2]) rfl (l:=(kAS a)) rfl ?_
 refine sh fol (kAS a) ?_
 refine sq ?_
 refine sh fol (kA1 a (kA0 (a==[48]))) ?_
 refine ihB h (fun f h=>?_) (fun f h=>?_)
 ·refine sh fol [(2,.i 0)] ?_
  refine Goes.ret ?_
  obtain rfl:=si h
  exact(gw2 [.i 0] (Ua tI))
 refine Goes.skip ?_
 refine sq ?_
 refine sq ?_
 obtain⟨g,b,h⟩:=bnd h
 refine Goes.cut (s':=(ofG 13 (kA2 g),[])) ?_ ?_
 ·rcases wyD b with⟨d,b⟩|⟨d,b⟩
  ·obtain⟨e,c,b⟩:=bnd b
   obtain rfl:=si b
   exact tr fol [3,5] (kA2 (decide ((e.toNat:Int)=45))) (ac (gw d) (ac (hs (.done (.opt (yl ZT 22 (.str a) (.i 0))) (.int .u8 (e.toNat:Int))) (qar qkQ c)) az))
  obtain rfl:=si b
  exact tr fol [3] [(12,.bool false)] (ac (gw d) az)
 refine ihB h (fun j h=>?_) (fun j h=>?_)
 ·refine sh fol [(2,.i (-1))] ?_
  refine Goes.ret ?_
  obtain rfl:=si h
  exact(gw2 [.i (-1)] (Ua tI))
 refine Goes.skip ?_
 refine sh fol [(2,.i 1)] ?_
 refine Goes.ret ?_
 obtain rfl:=si h
 exact(gw2 [.i 1] (Ua tI))
def yM (a:Str):Option Str:=
 (xk a).bind fun b=>
 if b<0 then
 (cut a 1 (a.length:Int)).bind fun c=>
 some c
 else
 (xk a).bind fun d=>
 if d=0 then
 some a
 else
 (cat [45] a).bind fun e=>
 some e
theorem qan (a:Str) {res:Str} (h:yM a=some res):qb ZT (.fn 24) [.str a] [] (.str res) []:=by
 unfold yM at h
 refine Ub Tryz.func24 rfl rfl (m:=14) rfl (rs:=[.tmp 2]) rfl (l:=(kAS a)) rfl ?_
 refine sh fol (kAS a) ?_
 refine sq ?_
 obtain⟨j,b,h⟩:=bnd h
 refine sq (gr fol [1] (kA1 a [(5,.bool (decide (j<0)))]) (ac (cv (qbl a b)) az) ?_)
 refine ihD h (fun k h=>?_) (fun k h=>?_)
 ·obtain⟨f,c,h⟩:=bnd h
  refine sq (gr fol [1] (kA3 f) (ac (hs (.done (.opt (qU ZT 22 (.str a) (some (.i 1)) none none)) (.str f)) (z8 qkQ (some 1) none c)) az) ?_)
  refine Goes.ret ?_
  obtain rfl:=si h
  exact(gw2 [.str f] (Ua tS))
 refine Goes.skip ?_
 refine sq ?_
 obtain⟨n,d,h⟩:=bnd h
 refine sq (gr fol [1] (kA1 a [(10,.bool (decide (n=0)))]) (ac (cv (qbl a d)) az) ?_)
 refine ihD h (fun o h=>?_) (fun o h=>?_)
 ·refine sh fol (kA3 a) ?_
  refine Goes.ret ?_
  obtain rfl:=si h
  exact(gw2 [.str a] (Ua tS))
 refine Goes.skip ?_
 obtain⟨g,e,h⟩:=bnd h
 refine sq (gr fol [1] (kA3 g) (ac (hs (.done (.opt (kg ZT .add 22 (.const (.string ⟨#[45]⟩)) (.tmp 12) (.str [45]) (.str a))) (.str g)) (qaB e)) az) ?_)
 refine Goes.ret ?_
 obtain rfl:=si h
 exact(gw2 [.str g] (Ua tS))
def qO (least:Int):Nat->Int->Str->Option Str
 |0,_,_=>none
 |K+1,a,b=>
  (if a>0 then
  some true
  else
  some (decide ((b.length:Int)<least)):Option Bool).bind fun d=>
  if d=true then
  (cut [48,49,50,51,52,53,54,55,56,57] (a.tmod 10) (w64 ((a.tmod 10)+1))).bind fun e=>
  (cat e b).bind fun c=>
  qO least K (w64 (a.tdiv 10)) c
  else
  some b
def zH (N:Nat) (n:Int) (least:Int):Option Str:=
 (qO least N n []).bind fun a=>
 some a
theorem qah (N:Nat) (n:Int) (least:Int) {res:Str} (h:zH N n least=some res):qb ZT (.fn 106) [.i n,.i least] [] (.str res) []:=by
 unfold zH at h
 refine Ub Tryz.func106 rfl rfl (m:=25) rfl (rs:=[.tmp 4]) rfl (l:=(kAF n least [])) rfl ?_
 refine sh fol (kAF n least []) ?_
 refine sh fol (kAF n least [(5,.str [])]) ?_
 refine sq (Goes.block ?_)
 obtain⟨k,g4,h⟩:=bnd h
 refine Goes.imp (Q:=fun x s'=>(x= .exit 0/\ ∃f,f=k/\Sub s' (ofG 25 [(5,.str f)],[]))) ?_ ?_
 ·refine Uc (fun M s=> ∃(b:Int) (d:Str),s=(ofG 25 (kAF b least [(5,.str d)]),[])/\qO least M b d=some k) ?_ (m:=N) ⟨_,_,rfl,g4⟩
  rintro M s ⟨b,d,rfl,g4⟩
  cases M with
  |zero=>simp only[qO]at g4;cases g4
  |succ M=>
   rw[qO]at g4
   refine sq ?_
   refine sq ?_
   obtain⟨p,a,g4⟩:=bnd g4
   refine Goes.cut (s':=(ofG 25 (kAF b least ((5,.str d)::(kA5 p))),[])) ?_ ?_
   ·rcases wyD a with⟨j,a⟩|⟨j,a⟩
    ·obtain rfl:=si a
     exact tr fol [2] (kAF b least [(5,.str d),(13,.bool true)]) (ac (gw j) az)
    obtain rfl:=si a
    exact tr fol [2] (kAF b least ((5,.str d)::(kA5 (decide ((d.length:Int)<least))))) (ac (gw j) az)
   refine ihB g4 (fun q g4=>?_) (fun q g4=>?_)
   ·refine Goes.skip ?_
    refine Goes.block ?_
    obtain⟨o,g,g4⟩:=bnd g4
    obtain⟨c,e,g4⟩:=bnd g4
    refine sq (gr fol [5,7] (kAF b least [(5,.str c)]) (ac (hs (.done (.opt (qU ZT 9 (.str [48,49,50,51,52,53,54,55,56,57]) (some (.i (b.tmod 10))) (some (.i (w64 ((b.tmod 10)+1)))) none)) (.str o)) (z8 st9 (some (b.tmod 10)) (some (w64 ((b.tmod 10)+1))) g)) (ac (hs (.done (.opt (kg ZT .add 9 (.tmp 19) (.tmp 20) (.str o) (.str d))) (.str c)) (qaB e)) az)) ?_)
    refine gh fol (kAF (w64 (b.tdiv 10)) least [(5,.str c)]) ?_
    exact⟨M,(ofG 25 (kAF (w64 (b.tdiv 10)) least [(5,.str c)]),[]),Nat.lt_succ_self _,(Sub.refl _),_,_,rfl,g4⟩
   refine Goes.exit ?_
   obtain rfl:=si g4
   exact⟨rfl,_,rfl,(Sub.keep [5] rfl rfl)⟩
 rintro x s' ⟨rfl,f,rfl,hsub⟩
 refine Goes.sub hsub ?_
 refine sh fol [(4,.str f)] ?_
 refine Goes.ret ?_
 obtain rfl:=si h
 exact(gw2 [.str f] (Ua tS))
def vL (N:Nat) (a:qB):Nat->Str->Int->Option Str
 |0,_,_=>none
 |K+1,e,b=>
  if b>=0 then
  (idx a.w b).bind fun f=>
  (zH N f 9).bind fun c=>
  (cat e c).bind fun d=>
  vL N a K d (w64 (b-1))
  else
  some e
def xS (N:Nat) (a:qB):Option Str:=
 if(a.w.length:Int)=0 then
 some [48]
 else
 (idx a.w (w64 ((a.w.length:Int)-1))).bind fun d=>
 (zH N d 1).bind fun e=>
 (vL N a N e (w64 ((a.w.length:Int)-2))).bind fun c=>
 if a.neg=true then
 (cat [45] c).bind fun b=>
 some b
 else
 some c
theorem qbm (N:Nat) (a:qB) {res:Str} (h:xS N a=some res):qb ZT (.fn 98) [.agg (kAP a.neg a.w)] [] (.str res) []:=by
 unfold xS at h
 refine Ub Tryz.func98 rfl rfl (m:=39) rfl (rs:=[.tmp 2]) rfl (l:=[(0,.agg [.bool a.neg,vl encI a.w])]) rfl ?_
 refine sg fol (kAc []) (kAI a.neg a.w []) ?_
 refine sq ?_
 refine sh fol (kAc [(8,.bool (decide ((a.w.length:Int)=0)))]) ?_
 refine ihD h (fun u h=>?_) (fun u h=>?_)
 ·refine sh fol [(2,.str [48])] ?_
  refine Goes.ret ?_
  obtain rfl:=si h
  exact(gw2 [.str [48]] (Ua tS))
 refine Goes.skip ?_
 obtain⟨v,c,h⟩:=bnd h
 obtain⟨r,n,h⟩:=bnd h
 refine sq (gr fol [6,7,8] (kAc [(3,.str r)]) (ac (iv jR encI c) (ac (lv 0 ce3 encI c rfl) (ac (cv (qah N v 1 n)) az))) ?_)
 refine sq ?_
 refine sh fol (kAc (kAW r (w64 ((a.w.length:Int)-2)) [])) ?_
 refine Goes.block ?_
 obtain⟨t,g7,h⟩:=bnd h
 refine Goes.imp (Q:=fun x s'=>(x= .exit 0/\ ∃f,f=t/\Sub s' (ofG 39 (kAc [(3,.str f)]),(kAI a.neg a.w [])))) ?_ ?_
 ·refine Uc (fun M s=> ∃(o:Str) (d:Int),s=(ofG 39 (kAc (kAW o d [])),(kAI a.neg a.w []))/\vL N a M o d=some t) ?_ (m:=N) ⟨_,_,rfl,g7⟩
  rintro M s ⟨o,d,rfl,g7⟩
  cases M with
  |zero=>simp only[vL]at g7;cases g7
  |succ M=>
   rw[vL]at g7
   refine sq ?_
   refine sh fol (kAc (kAW o d [(23,.bool (decide (d>=0)))])) ?_
   refine ihD g7 (fun y g7=>?_) (fun y g7=>?_)
   ·refine Goes.skip ?_
    refine sq (Goes.block ?_)
    obtain⟨z,e,g7⟩:=bnd g7
    obtain⟨p,g,g7⟩:=bnd g7
    obtain⟨b,i,g7⟩:=bnd g7
    refine gr fol [4,5,6,7] (kAc (kAW b d [])) (ac (iv jR encI e) (ac (lv 0 ce3 encI e rfl) (ac (cv (qah N z 9 g)) (ac (hs (.done (.opt (kg ZT .add 9 (.tmp 26) (.tmp 32) (.str o) (.str p))) (.str b)) (qaB i)) az)))) ?_
    refine gh fol (kAc (kAW b (w64 (d-1)) [])) ?_
    exact⟨M,(ofG 39 (kAc (kAW b (w64 (d-1)) [])),(kAI a.neg a.w [])),Nat.lt_succ_self _,(Sub.refl _),_,_,rfl,g7⟩
   refine Goes.exit ?_
   obtain rfl:=si g7
   exact⟨rfl,_,rfl,(Sub.keep [1,3] rfl rfl)⟩
 rintro x s' ⟨rfl,f,rfl,hsub⟩
 refine Goes.sub hsub ?_
 refine sq ?_
 refine sh fol [(3,.str f),(35,.bool a.neg)] ?_
 refine ihB h (fun q h=>?_) (fun q h=>?_)
 ·obtain⟨j,k,h⟩:=bnd h
  refine sq (gr fol [1] (kA3 j) (ac (hs (.done (.opt (kg ZT .add 9 (.const (.string ⟨#[45]⟩)) (.tmp 36) (.str [45]) (.str f))) (.str j)) (qaB k)) az) ?_)
  refine Goes.ret ?_
  obtain rfl:=si h
  exact(gw2 [.str j] (Ua tS))
 refine Goes.skip ?_
 refine sh fol (kA3 f) ?_
 refine Goes.ret ?_
 obtain rfl:=si h
 exact(gw2 [.str f] (Ua tS))
def qV (a:List Int) (b:List Int):Nat->Int->Option (Unit⊕Int)
 |0,_=>none
 |K+1,c=>
  if c>=0 then
  (idx a c).bind fun d=>
  (idx b c).bind fun e=>
  if d<e then
  some (.inr (-1))
  else
  if d>e then
  some (.inr 1)
  else
  qV a b K (w64 (c-1))
  else
  some (.inl ())
def jw (N:Nat) (a:List Int) (b:List Int):Option Int:=
 if(!decide ((a.length:Int)=(b.length:Int)))=true then
 if(a.length:Int)<(b.length:Int)then
 some (-1)
 else
 some 1
 else
 (qV a b N (w64 ((a.length:Int)-1))).bind (fun
 |(.inl ())=>
 some 0
 |(.inr c)=>
 some c)
theorem qa5 (N:Nat) (a:List Int) (b:List Int) {res:Int} (h:jw N a b=some res):qb ZT (.fn 175) (kAr a b) [] (.i res) []:=by
 unfold jw at h
 refine Ub Tryz.func175 rfl rfl (m:=41) rfl (rs:=[.tmp 4]) rfl (l:=(kG a b [])) rfl ?_
 refine sh fol (kG a b []) ?_
 refine sq ?_
 refine sh fol (kG a b [(10,.bool (!decide ((a.length:Int)=(b.length:Int))))]) ?_
 refine ihB h (fun o h=>?_) (fun o h=>?_)
 ·refine sq ?_
  refine sh fol [(15,.bool (decide ((a.length:Int)<(b.length:Int))))] ?_
  refine ihD h (fun p h=>?_) (fun p h=>?_)
  ·refine sh fol [(4,.i (-1))] ?_
   refine Goes.ret ?_
   obtain rfl:=si h
   exact(gw2 [.i (-1)] (Ua tI))
  refine Goes.skip ?_
  refine sh fol [(4,.i 1)] ?_
  refine Goes.ret ?_
  obtain rfl:=si h
  exact(gw2 [.i 1] (Ua tI))
 refine Goes.skip ?_
 refine sq ?_
 refine sh fol (kG a b (kAt (w64 ((a.length:Int)-1)))) ?_
 refine Goes.block ?_
 obtain⟨f,g4,h⟩:=bnd h
 refine Goes.imp (Q:=fun x s'=>(x= .exit 0/\(.inl ())=f/\Sub s' (ofG 41 [],[]))\/(x= .ret/\ ∃j,(.inr j)=f/\jZ ZT [.tmp 4] (.i j) .ret s')) ?_ ?_
 ·refine Uc (fun M s=> ∃(e:Int),s=(ofG 41 (kG a b (kAt e)),[])/\qV a b M e=some f) ?_ (m:=N) ⟨_,rfl,g4⟩
  rintro M s ⟨e,rfl,g4⟩
  cases M with
  |zero=>simp only[qV]at g4;cases g4
  |succ M=>
   rw[qV]at g4
   refine sq ?_
   refine sh fol (kG a b [(5,.i e),(20,.bool (decide (e>=0)))]) ?_
   refine ihD g4 (fun q g4=>?_) (fun q g4=>?_)
   ·refine Goes.skip ?_
    refine sq (Goes.block ?_)
    refine sq ?_
    obtain⟨k,c,g4⟩:=bnd g4
    obtain⟨n,d,g4⟩:=bnd g4
    refine sq (gr fol [2,3,6,7] (kG a b [(5,.i e),(31,.bool (decide (k<n)))]) (ac (iv jR encI c) (ac (lv 0 ce3 encI c rfl) (ac (iv jR encI d) (ac (lv 0 ce3 encI d rfl) az)))) ?_)
    refine ihD g4 (fun r g4=>?_) (fun r g4=>?_)
    ·refine sh fol [(4,.i (-1))] ?_
     refine Goes.ret ?_
     obtain rfl:=si g4
     exact Or.inr (⟨rfl,_,rfl,(gw2 [.i (-1)] (Ua tI))⟩)
    refine Goes.skip ?_
    refine sq (gr fol [2,3,6,7] (kG a b [(5,.i e),(40,.bool (decide (k>n)))]) (ac (iv jR encI c) (ac (lv 0 ce3 encI c rfl) (ac (iv jR encI d) (ac (lv 0 ce3 encI d rfl) az)))) ?_)
    refine ihD g4 (fun g g4=>?_) (fun g g4=>?_)
    ·refine sh fol [(4,.i 1)] ?_
     refine Goes.ret ?_
     obtain rfl:=si g4
     exact Or.inr (⟨rfl,_,rfl,(gw2 [.i 1] (Ua tI))⟩)
    refine Goes.skip ?_
    refine gh fol (kG a b (kAt (w64 (e-1)))) ?_
    exact⟨M,(ofG 41 (kG a b (kAt (w64 (e-1)))),[]),Nat.lt_succ_self _,(Sub.refl _),_,rfl,g4⟩
   refine Goes.exit ?_
   obtain rfl:=si g4
   exact Or.inl (⟨rfl,rfl,(Sub.keep [] rfl rfl)⟩)
 rintro x s' (⟨rfl,rfl,hsub⟩|⟨rfl,t,rfl,hret⟩)
 ·try dsimp only at h
  refine Goes.sub hsub ?_
  refine sh fol [(4,.i 0)] ?_
  refine Goes.ret ?_
  obtain rfl:=si h
  exact(gw2 [.i 0] (Ua tI))
 try dsimp only at h
 obtain rfl:=si h
 exact hret
def yE:Nat->(List Int)->Option (List Int)
 |0,_=>none
 |K+1,a=>
  (if(a.length:Int)>0 then
  (idx a (w64 ((a.length:Int)-1))).bind fun b=>
  some (decide (b=0))
  else
  some false:Option Bool).bind fun c=>
  if c=true then
  (cut a 0 (w64 ((a.length:Int)-1))).bind fun d=>
  yE K d
  else
  some a
def vY (N:Nat) (w:List Int):Option (List Int):=
 (yE N w).bind fun a=>
 some a
theorem yB (N:Nat) (w:List Int) {res:List Int} (h:vY N w=some res):qb ZT (.fn 232) [vl encI w] [] (vl encI res) []:=by
 unfold vY at h
 refine Ub Tryz.func232 rfl rfl (m:=21) rfl (rs:=[.tmp 2]) rfl (l:=(kAq w [])) rfl ?_
 refine sh fol (kAq w []) ?_
 refine sq (Goes.block ?_)
 obtain⟨j,g3,h⟩:=bnd h
 refine Goes.imp (Q:=fun x s'=>(x= .exit 0/\ ∃d,d=j/\Sub s' (ofG 21 (kAq d []),[]))) ?_ ?_
 ·refine Uc (fun M s=> ∃(b:List Int),s=(ofG 21 (kAq b []),[])/\yE M b=some j) ?_ (m:=N) ⟨_,rfl,g3⟩
  rintro M s ⟨b,rfl,g3⟩
  cases M with
  |zero=>simp only[yE]at g3;cases g3
  |succ M=>
   rw[yE]at g3
   refine sq ?_
   refine sq ?_
   obtain⟨k,a,g3⟩:=bnd g3
   refine Goes.cut (s':=(ofG 21 (kAq b [(14,.bool k)]),[])) ?_ ?_
   ·rcases wyD a with⟨f,a⟩|⟨f,a⟩
    ·obtain⟨n,c,a⟩:=bnd a
     obtain rfl:=si a
     exact tr fol [3,8,9] (kAq b [(14,.bool (decide (n=0)))]) (ac (gw f) (ac (iv jR encI c) (ac (lv 0 ce3 encI c rfl) az)))
    obtain rfl:=si a
    exact tr fol [3] (kAq b [(14,.bool false)]) (ac (gw f) az)
   refine ihB g3 (fun o g3=>?_) (fun o g3=>?_)
   ·refine Goes.skip ?_
    refine Goes.block ?_
    obtain⟨g,e,g3⟩:=bnd g3
    refine gr fol [4] (kAq g []) (ac (hs (.done (.opt (qU ZT 75 (vl encI b) none (some (.i (w64 ((b.length:Int)-1)))) none)) (vl encI g)) (qlI jR (E:=encI) rfl none (some (w64 ((b.length:Int)-1))) e)) az) ?_
    exact⟨M,(ofG 21 (kAq g []),[]),Nat.lt_succ_self _,(Sub.refl _),_,rfl,g3⟩
   refine Goes.exit ?_
   obtain rfl:=si g3
   exact⟨rfl,_,rfl,(Sub.keep [0] rfl rfl)⟩
 rintro x s' ⟨rfl,d,rfl,hsub⟩
 refine Goes.sub hsub ?_
 refine sh fol [(2,vl encI d)] ?_
 refine Goes.ret ?_
 obtain rfl:=si h
 exact(gw2 [vl encI d] (Ua (qy encI _ (nl rfl))))
def zD (a:List Int) (b:List Int) (g:Int):Nat->(List Int)->Int->Int->Option ((List Int)×Int)
 |0,_,_,_=>none
 |K+1,h,i,c=>
  if c<(b.length:Int)then
  (idx h (w64 (g+c))).bind fun d=>
  (idx a g).bind fun e=>
  (idx b c).bind fun f=>
  (put h (w64 (g+c)) ((w64 ((w64 (d+(w64 (e*f))))+i)).tmod 1000000000)).bind fun j=>
  zD a b g K j (w64 ((w64 ((w64 (d+(w64 (e*f))))+i)).tdiv 1000000000)) (w64 (c+1))
  else
  some (h,i)
def zF (N:Nat) (a:List Int) (b:List Int):Nat->(List Int)->Int->Option (List Int)
 |0,_,_=>none
 |K+1,h,c=>
  if c<(a.length:Int)then
  (zD a b c N h 0 0).bind fun(d,e)=>
  (idx d (w64 (c+(b.length:Int)))).bind fun f=>
  (put d (w64 (c+(b.length:Int))) (w64 (f+e))).bind fun g=>
  zF N a b K g (w64 (c+1))
  else
  some h
def vF (N:Nat) (a:List Int) (b:List Int):Option (List Int):=
 (mk 8 (w64 ((a.length:Int)+(b.length:Int))) 0).bind fun d=>
 (zF N a b N d 0).bind fun e=>
 (vY N e).bind fun c=>
 some c
theorem qaE (N:Nat) (a:List Int) (b:List Int) {res:List Int} (h:vF N a b=some res):qb ZT (.fn 177) (kAr a b) [] (vl encI res) []:=by
 unfold vF at h
 refine Ub Tryz.func177 rfl rfl (m:=72) rfl (rs:=[.tmp 4]) rfl (l:=(kG a b [])) rfl ?_
 refine sh fol (kG a b []) ?_
 obtain⟨H,I,h⟩:=bnd h
 refine sq (gq fol [5] (kG a b (kC H [])) (kB H []) (ac (hs (.run [] (jh ZT 75 (.i (w64 ((a.length:Int)+(b.length:Int)))) (.i (w64 ((a.length:Int)+(b.length:Int))))) [] (.slice 0 0 H.length H.length 1) (kB H []) false) (qc8 jR (E:=encI) (z:=0) rfl (by kernel_rfl) I rfl)) az) ?_)
 refine sq ?_
 refine sh fol (kG a b (kC H [(6,.i 0)])) ?_
 refine Goes.block ?_
 obtain⟨L,g5,h⟩:=bnd h
 refine Goes.imp (Q:=fun x s'=>(x= .exit 0/\ ∃t,t=L/\Sub s' (ofG 72 (kC t []),(kB t [])))) ?_ ?_
 ·refine Uc (fun M s=> ∃(D:List Int) (c:Int),s=(ofG 72 (kG a b (kC D [(6,.i c)])),(kB D []))/\zF N a b M D c=some L) ?_ (m:=N) ⟨_,_,rfl,g5⟩
  rintro M s ⟨D,c,rfl,g5⟩
  cases M with
  |zero=>simp only[zF]at g5;cases g5
  |succ M=>
   rw[zF]at g5
   refine sq ?_
   refine sh fol (kG a b (kC D [(6,.i c),(19,.bool (decide (c<(a.length:Int))))])) ?_
   refine ihD g5 (fun O g5=>?_) (fun O g5=>?_)
   ·refine Goes.skip ?_
    refine sq (Goes.block ?_)
    refine sh fol (kG a b (kC D [(6,.i c),(7,.i 0)])) ?_
    refine sq ?_
    refine sh fol (kG a b (kC D [(6,.i c),(7,.i 0),(8,.i 0)])) ?_
    refine Goes.block ?_
    obtain⟨J,g12,g5⟩:=bnd g5
    refine Goes.imp (Q:=fun x s'=>(x= .exit 2/\ ∃d u,(d,u)=J/\Sub s' (ofG 72 (kG a b (kC d (kAl c u))),(kB d [])))) ?_ ?_
    ·refine Uc (fun M s=> ∃(p:List Int) (r:Int) (o:Int),s=(ofG 72 (kG a b (kC p ((6,.i c)::(kAR r o)))),(kB p []))/\zD a b c M p r o=some J) ?_ (m:=N) ⟨_,_,_,rfl,g12⟩
     rintro M s ⟨p,r,o,rfl,g12⟩
     cases M with
     |zero=>simp only[zD]at g12;cases g12
     |succ M=>
      rw[zD]at g12
      refine sq ?_
      refine sh fol (kG a b (kC p [(6,.i c),(7,.i r),(8,.i o),(25,.bool (decide (o<(b.length:Int))))])) ?_
      refine ihD g12 (fun K g12=>?_) (fun K g12=>?_)
      ·refine Goes.skip ?_
       refine sq (Goes.block ?_)
       obtain⟨e,f,g12⟩:=bnd g12
       obtain⟨g,v,g12⟩:=bnd g12
       obtain⟨j,w,g12⟩:=bnd g12
       refine sq (gr fol [4,5,8,9,12,13] (kG a b (kC p ((6,.i c)::(kAm o (w64 ((w64 (e+(w64 (g*j))))+r)))))) (ac (hs (.done (.opt (qg ZT 75 (.slice 0 0 p.length p.length 1) (.i (w64 (c+o))))) (.ptr 0 ((w64 (c+o):Int).toNat*1+0))) (qao jR f)) (ac (hs (.run [0] (jg ZT 3 (.ptr 0 ((w64 (c+o):Int).toNat*1+0))) (kB p []) (.i e) (kB p []) false) (qch ce3 (E:=encI) (l:=p) rfl rfl f (nl rfl) rfl)) (ac (iv jR encI v) (ac (lv 0 ce3 encI v rfl) (ac (iv jR encI w) (ac (lv 0 ce3 encI w rfl) az)))))) ?_)
       obtain⟨k,A,g12⟩:=bnd g12
       refine sq (gq fol [6,7] (kG a b (kC p ((6,.i c)::(kAm o (w64 ((w64 (e+(w64 (g*j))))+r)))))) (kB k []) (ac (hs (.done (.opt (qg ZT 75 (.slice 0 0 p.length p.length 1) (.i (w64 (c+o))))) (.ptr 0 ((w64 (c+o):Int).toNat*1+0))) (qao jR f)) (ac (hs (.run [0] (qm ZT 3 (.ptr 0 ((w64 (c+o):Int).toNat*1+0)) (.i ((w64 ((w64 (e+(w64 (g*j))))+r)).tmod 1000000000))) (kB p []) .undef (kB k []) true) (xV (E:=encI) (l:=p) (y:=(w64 ((w64 (e+(w64 (g*j))))+r)).tmod 1000000000) rfl (show _=some 1 by kernel_rfl) rfl f rfl rfl rfl rfl rfl A rfl)) az)) ?_)
       refine Goes.sub (show Sub (ofG 72 (kG a b (kC p ((6,.i c)::(kAm o (w64 ((w64 (e+(w64 (g*j))))+r)))))),(kB k [])) (ofG 72 (kG a b (kC k ((6,.i c)::(kAm o (w64 ((w64 (e+(w64 (g*j))))+r)))))),(kB k []))from(Sub.norm [] [some 0] rfl rfl (.keep (.same (qf encI _)) (.keep (.same (qf encI _)) (.keep (.sliceE rfl (vJ A)) (.keep (.same nI) (.keep (.same nI) (.keep (.same nI) .nil)))))) (.ks .nil))) ?_
       refine gh fol (kG a b (kC k ((6,.i c)::(kAR (w64 ((w64 ((w64 (e+(w64 (g*j))))+r)).tdiv 1000000000)) o)))) ?_
       refine gh fol (kG a b (kC k ((6,.i c)::(kAR (w64 ((w64 ((w64 (e+(w64 (g*j))))+r)).tdiv 1000000000)) (w64 (o+1)))))) ?_
       exact⟨M,(ofG 72 (kG a b (kC k ((6,.i c)::(kAR (w64 ((w64 ((w64 (e+(w64 (g*j))))+r)).tdiv 1000000000)) (w64 (o+1)))))),(kB k [])),Nat.lt_succ_self _,(Sub.refl _),_,_,_,rfl,g12⟩
      refine Goes.exit ?_
      obtain rfl:=si g12
      exact⟨rfl,_,_,rfl,(Sub.keep [0,1,5,6,7] rfl rfl)⟩
    rintro x s' ⟨rfl,d,u,rfl,hsub⟩
    try dsimp only at g5
    refine Goes.sub hsub ?_
    obtain⟨F,n,g5⟩:=bnd g5
    obtain⟨q,B,g5⟩:=bnd g5
    refine gq fol [10,11,14,15] (kG a b (kC d [(6,.i c)])) (kB q []) (ac (hs (.done (.opt (qg ZT 75 (.slice 0 0 d.length d.length 1) (.i (w64 (c+(b.length:Int)))))) (.ptr 0 ((w64 (c+(b.length:Int)):Int).toNat*1+0))) (qao jR n)) (ac (hs (.run [0] (jg ZT 3 (.ptr 0 ((w64 (c+(b.length:Int)):Int).toNat*1+0))) (kB d []) (.i F) (kB d []) false) (qch ce3 (E:=encI) (l:=d) rfl rfl n (nl rfl) rfl)) (ac (hs (.done (.opt (qg ZT 75 (.slice 0 0 d.length d.length 1) (.i (w64 (c+(b.length:Int)))))) (.ptr 0 ((w64 (c+(b.length:Int)):Int).toNat*1+0))) (qao jR n)) (ac (hs (.run [0] (qm ZT 3 (.ptr 0 ((w64 (c+(b.length:Int)):Int).toNat*1+0)) (.i (w64 (F+u)))) (kB d []) .undef (kB q []) true) (xV (E:=encI) (l:=d) (y:=w64 (F+u)) rfl (show _=some 1 by kernel_rfl) rfl n rfl rfl rfl rfl rfl B rfl)) az)))) ?_
    refine Goes.sub (show Sub (ofG 72 (kG a b (kC d [(6,.i c)])),(kB q [])) (ofG 72 (kG a b (kC q [(6,.i c)])),(kB q []))from(Sub.norm [] [some 0] rfl rfl (.keep (.same (qf encI _)) (.keep (.same (qf encI _)) (.keep (.sliceE rfl (vJ B)) (.keep (.same nI) .nil)))) (.ks .nil))) ?_
    refine gh fol (kG a b (kC q [(6,.i (w64 (c+1)))])) ?_
    exact⟨M,(ofG 72 (kG a b (kC q [(6,.i (w64 (c+1)))])),(kB q [])),Nat.lt_succ_self _,(Sub.refl _),_,_,rfl,g5⟩
   refine Goes.exit ?_
   obtain rfl:=si g5
   exact⟨rfl,_,rfl,(Sub.keep [5] rfl rfl)⟩
 rintro x s' ⟨rfl,t,rfl,hsub⟩
 refine Goes.sub hsub ?_
 obtain⟨C,G,h⟩:=bnd h
 refine sq (gq fol [1] [(4,vl encI C)] (kAN t) (ac (hs (.callF 232 [.slice 0 0 t.length t.length 1] (kB t []) [0] [vl encI t] (vl encI C)) (qas (FzL.cons (Fz.sl (E:=encI) rfl rfl (nl rfl)) FzL.nil) (yB N t G) (qy encI _ (nl rfl)))) az) ?_)
 refine Goes.sub (show Sub (ofG 72 [(4,vl encI C)],(kAN t)) (ofG 72 [(4,vl encI C)],[])from(Sub.norm [] [] rfl rfl (.keep (.same (qf encI _)) .nil) .nil)) ?_
 refine Goes.ret ?_
 obtain rfl:=si h
 exact(gw2 [vl encI C] (Ua (qy encI _ (nl rfl))))
def zQ (a:List Int) (d:Int):Nat->(List Int)->Int->Int->Option ((List Int)×Int)
 |0,_,_,_=>none
 |K+1,c,e,b=>
  if b>=0 then
  (idx a b).bind fun i=>
  (qcg .i64 (w64 ((w64 (e*1000000000))+i)) d).bind fun f=>
  (idx c b).bind fun j=>
  (put c b f).bind fun g=>
  (qd8 .i64 (w64 ((w64 (e*1000000000))+i)) d).bind fun h=>
  zQ a d K g h (w64 (b-1))
  else
  some (c,e)
def yL (N:Nat) (a:List Int) (d:Int):Option ((List Int)×Int):=
 (mk 8 (a.length:Int) 0).bind fun c=>
 (zQ a d N c 0 (w64 ((a.length:Int)-1))).bind fun(e,f)=>
 (vY N e).bind fun b=>
 some (b,f)
theorem qcl (N:Nat) (a:List Int) (d:Int) {res:(List Int)×Int} (h:yL N a d=some res):qb ZT (.fn 231) [vl encI a,.i d] [] (.tuple [vl encI res.1,.i res.2]) []:=by
 unfold yL at h
 refine Ub Tryz.func231 rfl rfl (m:=39) rfl (rs:=[.tmp 4,.tmp 5]) rfl (l:=(kAU a d [])) rfl ?_
 refine sh fol (kAU a d []) ?_
 obtain⟨q,B,h⟩:=bnd h
 refine sq (gq fol [2] (kAU a d (kO q [])) (kB q []) (ac (hs (.run [] (jh ZT 75 (.i (a.length:Int)) (.i (a.length:Int))) [] (.slice 0 0 q.length q.length 1) (kB q []) false) (qc8 jR (E:=encI) (z:=0) rfl (by kernel_rfl) B rfl)) az) ?_)
 refine sh fol (kAU a d (kO q [(7,.i 0)])) ?_
 refine sq ?_
 refine sh fol (kAU a d (kO q [(7,.i 0),(8,.i (w64 ((a.length:Int)-1)))])) ?_
 refine Goes.block ?_
 obtain⟨C,g7,h⟩:=bnd h
 refine Goes.imp (Q:=fun x s'=>(x= .exit 0/\ ∃f r,(f,r)=C/\Sub s' (ofG 39 (kO f [(7,.i r)]),(kB f [])))) ?_ ?_
 ·refine Uc (fun M s=> ∃(e:List Int) (n:Int) (c:Int),s=(ofG 39 (kAU a d (kO e (kAR n c))),(kB e []))/\zQ a d M e n c=some C) ?_ (m:=N) ⟨_,_,_,rfl,g7⟩
  rintro M s ⟨e,n,c,rfl,g7⟩
  cases M with
  |zero=>simp only[zQ]at g7;cases g7
  |succ M=>
   rw[zQ]at g7
   refine sq ?_
   refine sh fol (kAU a d (kO e [(7,.i n),(8,.i c),(17,.bool (decide (c>=0)))])) ?_
   refine ihD g7 (fun D g7=>?_) (fun D g7=>?_)
   ·refine Goes.skip ?_
    refine sq (Goes.block ?_)
    obtain⟨A,p,g7⟩:=bnd g7
    refine sq (gr fol [4,5] (kAU a d (kO e (kAm c (w64 ((w64 (n*1000000000))+A))))) (ac (iv jR encI p) (ac (lv 0 ce3 encI p rfl) az)) ?_)
    obtain⟨t,u,g7⟩:=bnd g7
    obtain⟨F,g,g7⟩:=bnd g7
    obtain⟨b,j,g7⟩:=bnd g7
    refine sq (gq fol [4,5,6] (kAU a d (kO e (kAm c (w64 ((w64 (n*1000000000))+A))))) (kB b []) (ac (hs (.done (.opt (kg ZT .quo 3 (.tmp 29) (.tmp 30) (.i (w64 ((w64 (n*1000000000))+A))) (.i d))) (.i t)) (qbL u)) (ac (hs (.done (.opt (qg ZT 75 (.slice 0 0 e.length e.length 1) (.i c))) (.ptr 0 ((c:Int).toNat*1+0))) (qao jR g)) (ac (hs (.run [0] (qm ZT 3 (.ptr 0 ((c:Int).toNat*1+0)) (.i t)) (kB e []) .undef (kB b []) true) (xV (E:=encI) (l:=e) (y:=t) rfl (show _=some 1 by kernel_rfl) rfl g rfl rfl rfl rfl rfl j rfl)) az))) ?_)
    refine Goes.sub (show Sub (ofG 39 (kAU a d (kO e (kAm c (w64 ((w64 (n*1000000000))+A))))),(kB b [])) (ofG 39 (kAU a d (kO b (kAm c (w64 ((w64 (n*1000000000))+A))))),(kB b []))from(Sub.norm [] [some 0] rfl rfl (.keep (.same (qf encI _)) (.keep (.same nI) (.keep (.sliceE rfl (vJ j)) (.keep (.same nI) (.keep (.same nI) .nil))))) (.ks .nil))) ?_
    obtain⟨o,v,g7⟩:=bnd g7
    refine gr fol [2] (kAU a d (kO b (kAR o c))) (ac (hs (.done (.opt (kg ZT .rem 3 (.tmp 33) (.tmp 34) (.i (w64 ((w64 (n*1000000000))+A))) (.i d))) (.i o)) (qe1 v)) az) ?_
    refine gh fol (kAU a d (kO b (kAR o (w64 (c-1))))) ?_
    exact⟨M,(ofG 39 (kAU a d (kO b (kAR o (w64 (c-1))))),(kB b [])),Nat.lt_succ_self _,(Sub.refl _),_,_,_,rfl,g7⟩
   refine Goes.exit ?_
   obtain rfl:=si g7
   exact⟨rfl,_,_,rfl,(Sub.keep [6,7] rfl rfl)⟩
 rintro x s' ⟨rfl,f,r,rfl,hsub⟩
 try dsimp only at h
 refine Goes.sub hsub ?_
 obtain⟨k,w,h⟩:=bnd h
 refine sq (gq fol [1] ((4,vl encI k)::(kAt r)) (kAN f) (ac (hs (.callF 232 [.slice 0 0 f.length f.length 1] (kB f []) [0] [vl encI f] (vl encI k)) (qas (FzL.cons (Fz.sl (E:=encI) rfl rfl (nl rfl)) FzL.nil) (yB N f w) (qy encI _ (nl rfl)))) az) ?_)
 refine Goes.sub (show Sub (ofG 39 ((4,vl encI k)::(kAt r)),(kAN f)) (ofG 39 ((4,vl encI k)::(kAt r)),[])from(Sub.norm [] [] rfl rfl (.keep (.same (qf encI _)) (.keep (.same nI) .nil)) .nil)) ?_
 refine Goes.ret ?_
 obtain rfl:=si h
 exact(gw2 [vl encI k,.i r] (FzW.tuple (qc.cons (Ua (qy encI _ (nl rfl))) (qc.cons (Ua tI) qc.nil))))
def jW (u:List Int) (v:List Int) (j:Int):Nat->Int->Int->Option (Int⊕Int)
 |0,_,_=>none
 |K+1,c,a=>
  (if a>=1000000000 then
  some true
  else
  (idx v (w64 ((v.length:Int)-2))).bind fun d=>
  (idx u (w64 ((w64 (j+(v.length:Int)))-2))).bind fun e=>
  some (decide ((w64 (a*d))>(w64 ((w64 (c*1000000000))+e)))):Option Bool).bind fun f=>
  if f=true then
  (idx v (w64 ((v.length:Int)-1))).bind fun b=>
  if(w64 (c+b))>=1000000000 then
  some (.inr (w64 (a-1)))
  else
  jW u v j K (w64 (c+b)) (w64 (a-1))
  else
  some (.inl a)
def xX (N:Nat) (u:List Int) (v:List Int) (j:Int):Option Int:=
 (idx u (w64 (j+(v.length:Int)))).bind fun b=>
 (idx u (w64 ((w64 (j+(v.length:Int)))-1))).bind fun c=>
 (idx v (w64 ((v.length:Int)-1))).bind fun d=>
 (qcg .i64 (w64 ((w64 (b*1000000000))+c)) d).bind fun e=>
 (qd8 .i64 (w64 ((w64 (b*1000000000))+c)) d).bind fun f=>
 (jW u v j N f e).bind (fun
 |(.inl g)=>
 some g
 |(.inr a)=>
 some a)
theorem qgQ (N:Nat) (u:List Int) (v:List Int) (j:Int) {res:Int} (h:xX N u v j=some res):qb ZT (.fn 233) [vl encI u,vl encI v,.i j] [] (.i res) []:=by
 unfold xX at h
 refine Ub Tryz.func233 rfl rfl (m:=77) rfl (rs:=[.tmp 6]) rfl (l:=(kG u v [(2,.i j)])) rfl ?_
 refine sh fol (kG u v [(2,.i j)]) ?_
 refine sh fol (kG u v [(2,.i j),(7,.i (v.length:Int))]) ?_
 obtain⟨y,n,h⟩:=bnd h
 obtain⟨z,o,h⟩:=bnd h
 refine sq (gr fol [4,5,12,13] (kG u v ((2,.i j)::(kAR (v.length:Int) (w64 ((w64 (y*1000000000))+z))))) (ac (iv jR encI n) (ac (lv 0 ce3 encI n rfl) (ac (iv jR encI o) (ac (lv 0 ce3 encI o rfl) az)))) ?_)
 obtain⟨G,b,h⟩:=bnd h
 obtain⟨H,q,h⟩:=bnd h
 obtain⟨I,r,h⟩:=bnd h
 refine sq (gr fol [4,5,6,11,12,13] (kG u v (kAZ j (v.length:Int) H I [])) (ac (iv jR encI b) (ac (lv 0 ce3 encI b rfl) (ac (hs (.done (.opt (kg ZT .quo 3 (.tmp 28) (.tmp 33) (.i (w64 ((w64 (y*1000000000))+z))) (.i G))) (.i H)) (qbL q)) (ac (iv jR encI b) (ac (lv 0 ce3 encI b rfl) (ac (hs (.done (.opt (kg ZT .rem 3 (.tmp 35) (.tmp 40) (.i (w64 ((w64 (y*1000000000))+z))) (.i G))) (.i I)) (qe1 r)) az)))))) ?_)
 refine sq (Goes.block ?_)
 obtain⟨A,g9,h⟩:=bnd h
 refine Goes.imp (Q:=fun x s'=>(x= .exit 0/\ ∃t,(.inl t)=A/\Sub s' (ofG 77 [(9,.i t)],[]))\/(x= .ret/\ ∃w,(.inr w)=A/\jZ ZT [.tmp 6] (.i w) .ret s')) ?_ ?_
 ·refine Uc (fun M s=> ∃(d:Int) (c:Int),s=(ofG 77 (kG u v (kAZ j (v.length:Int) c d [])),[])/\jW u v j M d c=some A) ?_ (m:=N) ⟨_,_,rfl,g9⟩
  rintro M s ⟨d,c,rfl,g9⟩
  cases M with
  |zero=>simp only[jW]at g9;cases g9
  |succ M=>
   rw[jW]at g9
   refine sq ?_
   refine sq ?_
   obtain⟨B,a,g9⟩:=bnd g9
   refine Goes.cut (s':=(ofG 77 (kG u v (kAZ j (v.length:Int) c d [(63,.bool B)])),[])) ?_ ?_
   ·rcases wyD a with⟨p,a⟩|⟨p,a⟩
    ·obtain rfl:=si a
     exact tr fol [2] (kG u v (kAZ j (v.length:Int) c d [(63,.bool true)])) (ac (gw p) az)
    obtain⟨C,e,a⟩:=bnd a
    obtain⟨D,f,a⟩:=bnd a
    obtain rfl:=si a
    exact tr fol [2,7,8,17,18] (kG u v (kAZ j (v.length:Int) c d [(63,.bool (decide ((w64 (c*C))>(w64 ((w64 (d*1000000000))+D)))))])) (ac (gw p) (ac (iv jR encI e) (ac (lv 0 ce3 encI e rfl) (ac (iv jR encI f) (ac (lv 0 ce3 encI f rfl) az)))))
   refine ihB g9 (fun E g9=>?_) (fun E g9=>?_)
   ·refine Goes.skip ?_
    refine Goes.block ?_
    refine sh fol (kG u v (kAZ j (v.length:Int) (w64 (c-1)) d [])) ?_
    obtain⟨k,g,g9⟩:=bnd g9
    refine sq (gr fol [4,5] (kG u v (kAZ j (v.length:Int) (w64 (c-1)) (w64 (d+k)) [])) (ac (iv jR encI g) (ac (lv 0 ce3 encI g rfl) az)) ?_)
    refine sh fol (kG u v (kAZ j (v.length:Int) (w64 (c-1)) (w64 (d+k)) [(74,.bool (decide ((w64 (d+k))>=1000000000)))])) ?_
    refine ihD g9 (fun F g9=>?_) (fun F g9=>?_)
    ·refine sh fol [(6,.i (w64 (c-1)))] ?_
     refine Goes.ret ?_
     obtain rfl:=si g9
     exact Or.inr (⟨rfl,_,rfl,(gw2 [.i (w64 (c-1))] (Ua tI))⟩)
    refine Goes.skip ?_
    exact⟨M,(ofG 77 (kG u v (kAZ j (v.length:Int) (w64 (c-1)) (w64 (d+k)) [])),[]),Nat.lt_succ_self _,(Sub.keep [0,1,2,7,9,10] rfl rfl),_,_,rfl,g9⟩
   refine Goes.exit ?_
   obtain rfl:=si g9
   exact Or.inl (⟨rfl,_,rfl,(Sub.keep [9] rfl rfl)⟩)
 rintro x s' (⟨rfl,t,rfl,hsub⟩|⟨rfl,J,rfl,hret⟩)
 ·try dsimp only at h
  refine Goes.sub hsub ?_
  refine sh fol [(6,.i t)] ?_
  refine Goes.ret ?_
  obtain rfl:=si h
  exact(gw2 [.i t] (Ua tI))
 try dsimp only at h
 obtain rfl:=si h
 exact hret
def ja (a:List Int):Nat->(List Int)->Option (List Int)
 |0,_=>none
 |K+1,b=>
  if(b.length:Int)<(w64 ((a.length:Int)+1))then
  (app 8 b [0]).bind fun c=>
  ja a K c
  else
  some b
def qQ (h:List Int) (e:Int) (a:Int):Nat->(List Int)->Int->Int->Option ((List Int)×Int)
 |0,_,_,_=>none
 |K+1,f,b,c=>
  if c<(h.length:Int)then
  (idx h c).bind fun d=>
  (idx f (w64 (c+e))).bind fun g=>
  ((if(w64 (g-((w64 ((w64 (a*d))+b)).tmod 1000000000)))<0 then
  some (w64 ((w64 ((w64 ((w64 (a*d))+b)).tdiv 1000000000))+1),w64 ((w64 (g-((w64 ((w64 (a*d))+b)).tmod 1000000000)))+1000000000))
  else
  some (w64 ((w64 ((w64 (a*d))+b)).tdiv 1000000000),w64 (g-((w64 ((w64 (a*d))+b)).tmod 1000000000))):Option (Int×Int))).bind fun(i,j)=>
  (put f (w64 (c+e)) j).bind fun k=>
  qQ h e a K k i (w64 (c+1))
  else
  some (f,b)
def kr (h:List Int) (b:Int) (e:Int):Nat->(List Int)->Int->Int->Option ((List Int)×Int×Int)
 |0,_,_,_=>none
 |K+1,c,d,a=>
  if a<(h.length:Int)then
  (idx c (w64 (a+b))).bind fun f=>
  (idx h a).bind fun g=>
  (put c (w64 (a+b)) ((w64 ((w64 (f+g))+d)).tmod 1000000000)).bind fun i=>
  kr h b e K i (w64 ((w64 ((w64 (f+g))+d)).tdiv 1000000000)) (w64 (a+1))
  else
  some (c,w64 (e-1),d)
def zB (N:Nat) (b:List Int):Nat->(List Int)->(List Int)->Int->Option ((List Int)×(List Int))
 |0,_,_,_=>none
 |K+1,c,d,a=>
  if a>=0 then
  (xX N c b a).bind fun e=>
  (qQ b a e N c 0 0).bind fun(g,i)=>
  (idx g (w64 (a+(b.length:Int)))).bind fun j=>
  (put g (w64 (a+(b.length:Int))) (w64 (j-i))).bind fun f=>
  (idx f (w64 (a+(b.length:Int)))).bind fun k=>
  ((if k<0 then
  (kr b a e N f 0 0).bind fun(h,l,m)=>
  (idx h (w64 (a+(b.length:Int)))).bind fun n=>
  (put h (w64 (a+(b.length:Int))) (w64 (n+m))).bind fun o=>
  some (o,l)
  else
  some (f,e):Option ((List Int)×Int))).bind fun(p,q)=>
  (idx d a).bind fun s=>
  (put d a q).bind fun r=>
  zB N b K p r (w64 (a-1))
  else
  some (c,d)
def zZ (N:Nat) (a:List Int) (b:List Int):Option ((List Int)×(List Int)):=
 (jw N a b).bind fun q=>
 if q<0 then
 some ([],a)
 else
 if(b.length:Int)=1 then
 (idx b 0).bind fun r=>
 (yL N a r).bind fun p=>
 (vY N ([p.2]:List Int)).bind fun s=>
 some (p.1,s)
 else
 (idx b (w64 ((b.length:Int)-1))).bind fun t=>
 (qcg .i64 1000000000 (w64 (t+1))).bind fun e=>
 (vF N b ([e]:List Int)).bind fun d=>
 (vF N a ([e]:List Int)).bind fun f=>
 (app 8 ([]:List Int) f).bind fun g=>
 (ja a N g).bind fun c=>
 (mk 8 (w64 ((c.length:Int)-(d.length:Int))) 0).bind fun h=>
 (zB N d N c h (w64 ((w64 ((c.length:Int)-(d.length:Int)))-1))).bind fun(i,j)=>
 (cut i 0 (d.length:Int)).bind fun k=>
 (vY N k).bind fun l=>
 (idx ([e]:List Int) 0).bind fun m=>
 (yL N l m).bind fun n=>
 (vY N j).bind fun o=>
 some (o,n.1)
theorem xw (N:Nat) (a:List Int) (b:List Int) {res:(List Int)×(List Int)} (h:zZ N a b=some res):qb ZT (.fn 172) (kAr a b) [] (.tuple (kAr res.1 res.2)) []:=by
 unfold zZ at h
 refine Ub Tryz.func172 rfl rfl (m:=206) rfl (rs:=[.tmp 4,.tmp 5]) rfl (l:=(kG a b [])) rfl ?_
 refine sh fol (kG a b []) ?_
 refine sq ?_
 obtain⟨r1,e_r1,h⟩:=bnd h
 refine sq (gr fol [2] (kG a b [(27,.bool (decide (r1<0)))]) (ac (cv (qa5 N a b e_r1)) az) ?_)
 refine ihD h (fun c2 h=>?_) (fun c2 h=>?_)
 ·refine sh fol ((4,.nilslice)::(kAu a [])) ?_
  refine Goes.ret ?_
  obtain rfl:=si h
  exact(gw2 [.nilslice,vl encI a] (FzW.tuple (qc.cons (FzW.nilv (E:=encI)) (qc.cons (Ua (qy encI _ (nl rfl))) qc.nil))))
 refine Goes.skip ?_
 refine sq ?_
 refine sh fol (kG a b [(31,.bool (decide ((b.length:Int)=1)))]) ?_
 refine ihD h (fun c3 h=>?_) (fun c3 h=>?_)
 ·obtain⟨x4,e_x4,h⟩:=bnd h
  obtain⟨r5,e_r5,h⟩:=bnd h
  refine sq (gr fol [2,3,4] [(6,vl encI r5.1),(7,.i r5.2)] (ac (iv jR encI e_x4) (ac (lv 0 ce3 encI e_x4 rfl) (ac (cv (qcl N a x4 e_r5)) az))) ?_)
  obtain⟨r6,e_r6,h⟩:=bnd h
  refine sq (gq fol [3] ((4,vl encI r5.1)::(kAu r6 [])) [.frozen [.i r5.2]] (ac (hs (.callF 232 [.slice 0 0 1 1 1] [.cells [.i r5.2]] [0] [vl encI ([r5.2]:List Int)] (vl encI r6)) (qas (FzL.cons (Fz.lit rfl rfl (Uf (AllST.cons tI AllST.nil))) FzL.nil) (yB N ([r5.2]:List Int) e_r6) (qy encI _ (nl rfl)))) az) ?_)
  refine Goes.sub (show Sub (ofG 206 ((4,vl encI r5.1)::(kAu r6 [])),[.frozen [.i r5.2]]) (ofG 206 ((4,vl encI r5.1)::(kAu r6 [])),[])from(Sub.norm [] [] rfl rfl (.keep (.same (qf encI _)) (.keep (.same (qf encI _)) .nil)) .nil)) ?_
  refine Goes.ret ?_
  obtain rfl:=si h
  exact(gw2 (kAr r5.1 r6) (FzW.tuple (qc.cons (Ua (qy encI _ (nl rfl))) (qc.cons (Ua (qy encI _ (nl rfl))) qc.nil))))
 refine Goes.skip ?_
 obtain⟨x7,e_x7,h⟩:=bnd h
 obtain⟨g,e_q8,h⟩:=bnd h
 refine sq (gq fol [4,5,7] (kG a b [(8,.slice 0 0 1 1 1)]) [.cells [.i g]] (ac (iv jR encI e_x7) (ac (lv 0 ce3 encI e_x7 rfl) (ac (hs (.done (.opt (kg ZT .quo 3 (.const (.int .i64 1000000000)) (.tmp 50) (.i 1000000000) (.i (w64 (x7+1))))) (.i g)) (qbL e_q8)) az))) ?_)
 obtain⟨e,e_r9,h⟩:=bnd h
 refine sq (gq fol [2] (kAq a [(8,.slice 0 0 1 1 1),(9,vl encI e)]) [.frozen [.i g]] (ac (hs (.callF 177 [vl encI b,.slice 0 0 1 1 1] [.cells [.i g]] [0] (kAr b ([g]:List Int)) (vl encI e)) (qas (FzL.cons (Ur (qy encI _ (nl rfl))) (FzL.cons (Fz.lit rfl rfl (Uf (AllST.cons tI AllST.nil))) FzL.nil)) (qaE N b ([g]:List Int) e_r9) (qy encI _ (nl rfl)))) az) ?_)
 refine Goes.sub (show Sub (ofG 206 (kAq a [(8,.slice 0 0 1 1 1),(9,vl encI e)]),[.frozen [.i g]]) (ofG 206 (kAq a [(8,vl encI ([g]:List Int)),(9,vl encI e)]),[])from(Sub.norm [0] [] rfl rfl (.keep (.same (qf encI _)) (.keep (.frz (Fz.litF rfl rfl (Uf (AllST.cons tI AllST.nil))) (qf encI _)) (.keep (.same (qf encI _)) .nil))) .nil)) ?_
 refine sh fol (kAq a [(8,vl encI ([g]:List Int)),(9,vl encI e),(10,.i (e.length:Int))]) ?_
 obtain⟨r10,e_r10,h⟩:=bnd h
 obtain⟨Z,e_l11,h⟩:=bnd h
 refine sq (gq fol [3,4] (kAq a [(8,vl encI ([g]:List Int)),(9,vl encI e),(10,.i (e.length:Int)),(11,.oslice 1 Z.length 1)]) (.dead::(kB Z [])) (ac (cv (qaE N a ([g]:List Int) e_r10)) (ac (hs (.run [0] (xJ ZT [75,75] (.slice 0 0 0 0 1) (vl encI r10)) [.cells []] (.oslice 1 Z.length 1) (.dead::(kB Z [])) true) (qck jR (E:=encI) rfl (src_v (E:=encI) rfl _) (dst_z (E:=encI) rfl rfl rfl e_l11 rfl))) az)) ?_)
 refine sq (Goes.block ?_)
 obtain⟨r14,g14,h⟩:=bnd h
 refine Goes.imp (Q:=fun x s'=>(x= .exit 0/\ ∃B,B=r14/\Sub s' (ofG 206 (kAQ ([g]:List Int) e (e.length:Int) B []),(kB B [])))) ?_ ?_
 ·refine Goes.sub (s':=(ofG 206 (kAq a (kAQ ([g]:List Int) e (e.length:Int) Z [])),(kB Z []))) (Sub.norm [] [some 1] rfl rfl (.keep (.same (qf encI _)) (.keep (.same (qf encI _)) (.keep (.same (qf encI _)) (.keep (.same nI) (.keep (.oslice rfl) .nil))))) (.ks .nil)) ?_
  refine Uc (fun M s=> ∃(G:List Int),s=(ofG 206 (kAq a (kAQ ([g]:List Int) e (e.length:Int) G [])),(kB G []))/\ja a M G=some r14) ?_ (m:=N) ⟨_,rfl,g14⟩
  rintro M s ⟨G,rfl,g14⟩
  cases M with
  |zero=>simp only[ja]at g14;cases g14
  |succ M=>
   rw[ja]at g14
   refine sq ?_
   refine sh fol (kAq a (kAQ ([g]:List Int) e (e.length:Int) G [(68,.bool (decide ((G.length:Int)<(w64 ((a.length:Int)+1)))))])) ?_
   refine ihD g14 (fun c15 g14=>?_) (fun c15 g14=>?_)
   ·refine Goes.skip ?_
    refine Goes.block ?_
    obtain⟨a0,e_l16,g14⟩:=bnd g14
    refine gq fol [2] (kAq a [(8,vl encI ([g]:List Int)),(9,vl encI e),(10,.i (e.length:Int)),(11,.oslice 2 a0.length 1)]) (.dead:: .cells [.i 0]::(kB a0 [])) (ac (hs (.run [0,1] (xJ ZT [75,75] (.oslice 0 G.length 1) (.slice 1 0 1 1 1)) (kB G [.cells [.i 0]]) (.oslice 2 a0.length 1) (.dead:: .cells [.i 0]::(kB a0 [])) true) (qck jR (E:=encI) rfl (qg8 (E:=encI) (ys:=[0]) rfl rfl rfl rfl) (dst_o (E:=encI) (l:=G) rfl rfl rfl e_l16 rfl))) az) ?_
    exact⟨M,(ofG 206 (kAq a (kAQ ([g]:List Int) e (e.length:Int) a0 [])),(kB a0 [])),Nat.lt_succ_self _,(Sub.norm [] [some 2] rfl rfl (.keep (.same (qf encI _)) (.keep (.same (qf encI _)) (.keep (.same (qf encI _)) (.keep (.same nI) (.keep (.oslice rfl) .nil))))) (.ks .nil)),_,rfl,g14⟩
   refine Goes.exit ?_
   obtain rfl:=si g14
   exact⟨rfl,_,rfl,(Sub.keep [8,9,10,11] rfl rfl)⟩
 rintro x s' ⟨rfl,B,rfl,hsub⟩
 refine Goes.sub hsub ?_
 obtain⟨X,e_l17,h⟩:=bnd h
 refine sq (gq fol [4] (kAQ ([g]:List Int) e (e.length:Int) B [(12,.slice 1 0 X.length X.length 1)]) (kB B (kB X [])) (ac (hs (.run [] (jh ZT 75 (.i (w64 ((B.length:Int)-(e.length:Int)))) (.i (w64 ((B.length:Int)-(e.length:Int))))) (kB B []) (.slice 1 0 X.length X.length 1) (kB B (kB X [])) false) (qc8 jR (E:=encI) (z:=0) rfl (by kernel_rfl) e_l17 rfl)) az) ?_)
 refine sq ?_
 refine sh fol (kA ([g]:List Int) e (e.length:Int) B X (w64 ((w64 ((B.length:Int)-(e.length:Int)))-1)) []) ?_
 refine Goes.block ?_
 obtain⟨r23,g23,h⟩:=bnd h
 refine Goes.imp (Q:=fun x s'=>(x= .exit 2/\ ∃a1 o,(a1,o)=r23/\Sub s' (ofG 206 [(8,vl encI ([g]:List Int)),(10,.i (e.length:Int)),(11,.oslice 0 a1.length 1),(12,.slice 1 0 o.length o.length 1)],(kB a1 (kB o []))))) ?_ ?_
 ·refine Uc (fun M s=> ∃(C:List Int) (c:List Int) (d:Int),s=(ofG 206 (kA ([g]:List Int) e (e.length:Int) C c d []),(kB C (kB c [])))/\zB N e M C c d=some r23) ?_ (m:=N) ⟨_,_,_,rfl,g23⟩
  rintro M s ⟨C,c,d,rfl,g23⟩
  cases M with
  |zero=>simp only[zB]at g23;cases g23
  |succ M=>
   rw[zB]at g23
   refine sq ?_
   refine sh fol (kA ([g]:List Int) e (e.length:Int) C c d [(83,.bool (decide (d>=0)))]) ?_
   refine ihD g23 (fun c24 g23=>?_) (fun c24 g23=>?_)
   ·refine Goes.skip ?_
    refine sq (Goes.block ?_)
    obtain⟨f,e_r25,g23⟩:=bnd g23
    refine sq (gr fol [3] (kA ([g]:List Int) e (e.length:Int) C c d [(14,.i f)]) (ac (hs (.call 233 [.oslice 0 C.length 1,vl encI e,.i d] (kB C (kB c [])) [0] [vl encI C,vl encI e,.i d] (.i f)) (qfS (FzL.cons (Fz.os (E:=encI) rfl rfl (nl rfl)) (FzL.cons (Ur (qy encI _ (nl rfl))) (FzL.cons (Ur tI) FzL.nil))) (qgQ N C e d e_r25) tI rfl)) az) ?_)
    refine sh fol (kA ([g]:List Int) e (e.length:Int) C c d [(14,.i f),(15,.i 0)]) ?_
    refine sq ?_
    refine sh fol (kA ([g]:List Int) e (e.length:Int) C c d [(14,.i f),(15,.i 0),(16,.i 0)]) ?_
    refine Goes.block ?_
    obtain⟨r31,g31,g23⟩:=bnd g23
    refine Goes.imp (Q:=fun x s'=>(x= .exit 4/\ ∃u n30,(u,n30)=r31/\Sub s' (ofG 206 (kA ([g]:List Int) e (e.length:Int) u c d [(14,.i f),(15,.i n30)]),(kB u (kB c []))))) ?_ ?_
    ·refine Uc (fun M s=> ∃(k:List Int) (p:Int) (j:Int),s=(ofG 206 (kA ([g]:List Int) e (e.length:Int) k c d ((14,.i f)::(kAC p j []))),(kB k (kB c [])))/\qQ e d f M k p j=some r31) ?_ (m:=N) ⟨_,_,_,rfl,g31⟩
     rintro M s ⟨k,p,j,rfl,g31⟩
     cases M with
     |zero=>simp only[qQ]at g31;cases g31
     |succ M=>
      rw[qQ]at g31
      refine sq ?_
      refine sh fol (kA ([g]:List Int) e (e.length:Int) k c d ((14,.i f)::(kAC p j [(92,.bool (decide (j<(e.length:Int))))]))) ?_
      refine ihD g31 (fun c32 g31=>?_) (fun c32 g31=>?_)
      ·refine Goes.skip ?_
       refine sq (Goes.block ?_)
       obtain⟨D,e_x33,g31⟩:=bnd g31
       refine sq (gr fol [3,4] (kA ([g]:List Int) e (e.length:Int) k c d [(14,.i f),(16,.i j),(17,.i (w64 ((w64 (f*D))+p)))]) (ac (iv jR encI e_x33) (ac (lv 0 ce3 encI e_x33 rfl) az)) ?_)
       obtain⟨Y,H,g31⟩:=bnd g31
       refine sq (gr fol [4,5] (kA ([g]:List Int) e (e.length:Int) k c d [(14,.i f),(16,.i j),(17,.i (w64 ((w64 (f*D))+p))),(18,.i (w64 (Y-((w64 ((w64 (f*D))+p)).tmod 1000000000))))]) (ac (hs (.done (.opt (qg ZT 75 (.oslice 0 k.length 1) (.i (w64 (j+d))))) (.ptr 0 ((w64 (j+d):Int).toNat*1+0))) (qfj jR H)) (ac (hs (.run [0] (jg ZT 3 (.ptr 0 ((w64 (j+d):Int).toNat*1+0))) (kB k (kB c [])) (.i Y) (kB k (kB c [])) false) (qch ce3 (E:=encI) (l:=k) rfl rfl H (nl rfl) rfl)) az)) ?_)
       refine sh fol (kA ([g]:List Int) e (e.length:Int) k c d ((14,.i f)::(kAC (w64 ((w64 ((w64 (f*D))+p)).tdiv 1000000000)) j [(18,.i (w64 (Y-((w64 ((w64 (f*D))+p)).tmod 1000000000))))]))) ?_
       refine sq ?_
       refine sh fol (kA ([g]:List Int) e (e.length:Int) k c d ((14,.i f)::(kAC (w64 ((w64 ((w64 (f*D))+p)).tdiv 1000000000)) j [(18,.i (w64 (Y-((w64 ((w64 (f*D))+p)).tmod 1000000000)))),(115,.bool (decide ((w64 (Y-((w64 ((w64 (f*D))+p)).tmod 1000000000)))<0)))]))) ?_
       obtain⟨r37,g37,g31⟩:=bnd g31
       refine Goes.imp (Q:=fun x s'=>(x= .normal/\ ∃P n36,(P,n36)=r37/\Sub s' (ofG 206 (kA ([g]:List Int) e (e.length:Int) k c d ((14,.i f)::(kAC P j [(18,.i n36)]))),(kB k (kB c []))))) ?_ ?_
       ·refine ihD g37 (fun c38 g37=>?_) (fun c38 g37=>?_)
        ·refine sh fol (kA ([g]:List Int) e (e.length:Int) k c d ((14,.i f)::(kAC (w64 ((w64 ((w64 (f*D))+p)).tdiv 1000000000)) j [(18,.i (w64 ((w64 (Y-((w64 ((w64 (f*D))+p)).tmod 1000000000)))+1000000000)))]))) ?_
         refine gh fol (kA ([g]:List Int) e (e.length:Int) k c d ((14,.i f)::(kAC (w64 ((w64 ((w64 ((w64 (f*D))+p)).tdiv 1000000000))+1)) j [(18,.i (w64 ((w64 (Y-((w64 ((w64 (f*D))+p)).tmod 1000000000)))+1000000000)))]))) ?_
         obtain rfl:=si g37
         exact⟨rfl,_,_,rfl,(Sub.refl _)⟩
        refine Goes.skip ?_
        obtain rfl:=si g37
        exact⟨rfl,_,_,rfl,(Sub.keep [8,9,10,11,12,13,14,15,16,18] rfl rfl)⟩
       rintro x s' ⟨rfl,P,n36,rfl,hsub⟩
       try dsimp only at g31
       refine Goes.sub hsub ?_
       obtain⟨U,e_l39,g31⟩:=bnd g31
       refine gq fol [5,6] (kA ([g]:List Int) e (e.length:Int) k c d ((14,.i f)::(kAC P j []))) (kB U (kB c [])) (ac (hs (.done (.opt (qg ZT 75 (.oslice 0 k.length 1) (.i (w64 (j+d))))) (.ptr 0 ((w64 (j+d):Int).toNat*1+0))) (qfj jR H)) (ac (hs (.run [0] (qm ZT 3 (.ptr 0 ((w64 (j+d):Int).toNat*1+0)) (.i n36)) (kB k (kB c [])) .undef (kB U (kB c [])) true) (xV (E:=encI) (l:=k) (y:=n36) rfl (show _=some 1 by kernel_rfl) rfl H rfl rfl rfl rfl rfl e_l39 rfl)) az)) ?_
       refine Goes.sub (show Sub (ofG 206 (kA ([g]:List Int) e (e.length:Int) k c d ((14,.i f)::(kAC P j []))),(kB U (kB c []))) (ofG 206 (kA ([g]:List Int) e (e.length:Int) U c d ((14,.i f)::(kAC P j []))),(kB U (kB c [])))from(Sub.norm [] [some 0,some 1] rfl rfl (.keep (.same (qf encI _)) (.keep (.same (qf encI _)) (.keep (.same nI) (.keep (.osliceE rfl (vJ e_l39)) (.keep (.slice rfl) (.keep (.same nI) (.keep (.same nI) (.keep (.same nI) (.keep (.same nI) .nil))))))))) (.ks (.ks .nil)))) ?_
       refine gh fol (kA ([g]:List Int) e (e.length:Int) U c d ((14,.i f)::(kAC P (w64 (j+1)) []))) ?_
       exact⟨M,(ofG 206 (kA ([g]:List Int) e (e.length:Int) U c d ((14,.i f)::(kAC P (w64 (j+1)) []))),(kB U (kB c []))),Nat.lt_succ_self _,(Sub.refl _),_,_,_,rfl,g31⟩
      refine Goes.exit ?_
      obtain rfl:=si g31
      exact⟨rfl,_,_,rfl,(Sub.keep [8,9,10,11,12,13,14,15] rfl rfl)⟩
    rintro x s' ⟨rfl,u,n30,rfl,hsub⟩
    try dsimp only at g23
    refine Goes.sub hsub ?_
    obtain⟨x40,I,g23⟩:=bnd g23
    obtain⟨v,e_l41,g23⟩:=bnd g23
    refine sq (gq fol [8,9,12,13] (kA ([g]:List Int) e (e.length:Int) u c d [(14,.i f)]) (kB v (kB c [])) (ac (hs (.done (.opt (qg ZT 75 (.oslice 0 u.length 1) (.i (w64 (d+(e.length:Int)))))) (.ptr 0 ((w64 (d+(e.length:Int)):Int).toNat*1+0))) (qfj jR I)) (ac (hs (.run [0] (jg ZT 3 (.ptr 0 ((w64 (d+(e.length:Int)):Int).toNat*1+0))) (kB u (kB c [])) (.i x40) (kB u (kB c [])) false) (qch ce3 (E:=encI) (l:=u) rfl rfl I (nl rfl) rfl)) (ac (hs (.done (.opt (qg ZT 75 (.oslice 0 u.length 1) (.i (w64 (d+(e.length:Int)))))) (.ptr 0 ((w64 (d+(e.length:Int)):Int).toNat*1+0))) (qfj jR I)) (ac (hs (.run [0] (qm ZT 3 (.ptr 0 ((w64 (d+(e.length:Int)):Int).toNat*1+0)) (.i (w64 (x40-n30)))) (kB u (kB c [])) .undef (kB v (kB c [])) true) (xV (E:=encI) (l:=u) (y:=w64 (x40-n30)) rfl (show _=some 1 by kernel_rfl) rfl I rfl rfl rfl rfl rfl e_l41 rfl)) az)))) ?_)
    refine Goes.sub (show Sub (ofG 206 (kA ([g]:List Int) e (e.length:Int) u c d [(14,.i f)]),(kB v (kB c []))) (ofG 206 (kA ([g]:List Int) e (e.length:Int) v c d [(14,.i f)]),(kB v (kB c [])))from(Sub.norm [] [some 0,some 1] rfl rfl (.keep (.same (qf encI _)) (.keep (.same (qf encI _)) (.keep (.same nI) (.keep (.osliceE rfl (vJ e_l41)) (.keep (.slice rfl) (.keep (.same nI) (.keep (.same nI) .nil))))))) (.ks (.ks .nil)))) ?_
    refine sq ?_
    obtain⟨x42,e_x42,g23⟩:=bnd g23
    refine sq (gr fol [4,5] (kA ([g]:List Int) e (e.length:Int) v c d [(14,.i f),(145,.bool (decide (x42<0)))]) (ac (hs (.done (.opt (qg ZT 75 (.oslice 0 v.length 1) (.i (w64 (d+(e.length:Int)))))) (.ptr 0 ((w64 (d+(e.length:Int)):Int).toNat*1+0))) (qfj jR e_x42)) (ac (hs (.run [0] (jg ZT 3 (.ptr 0 ((w64 (d+(e.length:Int)):Int).toNat*1+0))) (kB v (kB c [])) (.i x42) (kB v (kB c [])) false) (qch ce3 (E:=encI) (l:=v) rfl rfl e_x42 (nl rfl) rfl)) az)) ?_)
    obtain⟨r45,g45,g23⟩:=bnd g23
    refine Goes.imp (Q:=fun x s'=>(x= .normal/\ ∃r n44,(r,n44)=r45/\Sub s' (ofG 206 (kA ([g]:List Int) e (e.length:Int) r c d [(14,.i n44)]),(kB r (kB c []))))) ?_ ?_
    ·refine ihD g45 (fun c46 g45=>?_) (fun c46 g45=>?_)
     ·refine sh fol (kA ([g]:List Int) e (e.length:Int) v c d [(14,.i (w64 (f-1)))]) ?_
      refine sh fol (kA ([g]:List Int) e (e.length:Int) v c d [(14,.i (w64 (f-1))),(19,.i 0)]) ?_
      refine sq ?_
      refine sh fol (kA ([g]:List Int) e (e.length:Int) v c d [(14,.i (w64 (f-1))),(19,.i 0),(20,.i 0)]) ?_
      refine Goes.block ?_
      obtain⟨r53,q,g45⟩:=bnd g45
      refine Goes.imp (Q:=fun x s'=>(x= .exit 6/\ ∃w a2 n52,(w,a2,n52)=r53/\Sub s' (ofG 206 (kA ([g]:List Int) e (e.length:Int) w c d [(14,.i a2),(19,.i n52)]),(kB w (kB c []))))) ?_ ?_
      ·refine Uc (fun M s=> ∃(t:List Int) (A:Int) (n:Int),s=(ofG 206 (kA ([g]:List Int) e (e.length:Int) t c d [(14,.i (w64 (f-1))),(19,.i A),(20,.i n)]),(kB t (kB c [])))/\kr e d f M t A n=some r53) ?_ (m:=N) ⟨_,_,_,rfl,q⟩
       rintro M s ⟨t,A,n,rfl,q⟩
       cases M with
       |zero=>simp only[kr]at q;cases q
       |succ M=>
        rw[kr]at q
        refine sq ?_
        refine sh fol (kA ([g]:List Int) e (e.length:Int) t c d [(14,.i (w64 (f-1))),(19,.i A),(20,.i n),(150,.bool (decide (n<(e.length:Int))))]) ?_
        refine ihD q (fun c54 q=>?_) (fun c54 q=>?_)
        ·refine Goes.skip ?_
         refine sq (Goes.block ?_)
         obtain⟨F,J,q⟩:=bnd q
         obtain⟨K,e_x56,q⟩:=bnd q
         refine sq (gr fol [4,5,8,9] (kA ([g]:List Int) e (e.length:Int) t c d [(14,.i (w64 (f-1))),(20,.i n),(21,.i (w64 ((w64 (F+K))+A)))]) (ac (hs (.done (.opt (qg ZT 75 (.oslice 0 t.length 1) (.i (w64 (n+d))))) (.ptr 0 ((w64 (n+d):Int).toNat*1+0))) (qfj jR J)) (ac (hs (.run [0] (jg ZT 3 (.ptr 0 ((w64 (n+d):Int).toNat*1+0))) (kB t (kB c [])) (.i F) (kB t (kB c [])) false) (qch ce3 (E:=encI) (l:=t) rfl rfl J (nl rfl) rfl)) (ac (iv jR encI e_x56) (ac (lv 0 ce3 encI e_x56 rfl) az)))) ?_)
         obtain⟨L,e_l57,q⟩:=bnd q
         refine sq (gq fol [6,7] (kA ([g]:List Int) e (e.length:Int) t c d [(14,.i (w64 (f-1))),(20,.i n),(21,.i (w64 ((w64 (F+K))+A)))]) (kB L (kB c [])) (ac (hs (.done (.opt (qg ZT 75 (.oslice 0 t.length 1) (.i (w64 (n+d))))) (.ptr 0 ((w64 (n+d):Int).toNat*1+0))) (qfj jR J)) (ac (hs (.run [0] (qm ZT 3 (.ptr 0 ((w64 (n+d):Int).toNat*1+0)) (.i ((w64 ((w64 (F+K))+A)).tmod 1000000000))) (kB t (kB c [])) .undef (kB L (kB c [])) true) (xV (E:=encI) (l:=t) (y:=(w64 ((w64 (F+K))+A)).tmod 1000000000) rfl (show _=some 1 by kernel_rfl) rfl J rfl rfl rfl rfl rfl e_l57 rfl)) az)) ?_)
         refine Goes.sub (show Sub (ofG 206 (kA ([g]:List Int) e (e.length:Int) t c d [(14,.i (w64 (f-1))),(20,.i n),(21,.i (w64 ((w64 (F+K))+A)))]),(kB L (kB c []))) (ofG 206 (kA ([g]:List Int) e (e.length:Int) L c d [(14,.i (w64 (f-1))),(20,.i n),(21,.i (w64 ((w64 (F+K))+A)))]),(kB L (kB c [])))from(Sub.norm [] [some 0,some 1] rfl rfl (.keep (.same (qf encI _)) (.keep (.same (qf encI _)) (.keep (.same nI) (.keep (.osliceE rfl (vJ e_l57)) (.keep (.slice rfl) (.keep (.same nI) (.keep (.same nI) (.keep (.same nI) (.keep (.same nI) .nil))))))))) (.ks (.ks .nil)))) ?_
         refine gh fol (kA ([g]:List Int) e (e.length:Int) L c d [(14,.i (w64 (f-1))),(19,.i (w64 ((w64 ((w64 (F+K))+A)).tdiv 1000000000))),(20,.i n)]) ?_
         refine gh fol (kA ([g]:List Int) e (e.length:Int) L c d [(14,.i (w64 (f-1))),(19,.i (w64 ((w64 ((w64 (F+K))+A)).tdiv 1000000000))),(20,.i (w64 (n+1)))]) ?_
         exact⟨M,(ofG 206 (kA ([g]:List Int) e (e.length:Int) L c d [(14,.i (w64 (f-1))),(19,.i (w64 ((w64 ((w64 (F+K))+A)).tdiv 1000000000))),(20,.i (w64 (n+1)))]),(kB L (kB c []))),Nat.lt_succ_self _,(Sub.refl _),_,_,_,rfl,q⟩
        refine Goes.exit ?_
        obtain rfl:=si q
        exact⟨rfl,_,_,_,rfl,(Sub.keep [8,9,10,11,12,13,14,19] rfl rfl)⟩
      rintro x s' ⟨rfl,w,a2,n52,rfl,hsub⟩
      try dsimp only at g45
      refine Goes.sub hsub ?_
      obtain⟨x58,O,g45⟩:=bnd g45
      obtain⟨l59,e_l59,g45⟩:=bnd g45
      refine gq fol [8,9,12,13] (kA ([g]:List Int) e (e.length:Int) w c d [(14,.i a2)]) (kB l59 (kB c [])) (ac (hs (.done (.opt (qg ZT 75 (.oslice 0 w.length 1) (.i (w64 (d+(e.length:Int)))))) (.ptr 0 ((w64 (d+(e.length:Int)):Int).toNat*1+0))) (qfj jR O)) (ac (hs (.run [0] (jg ZT 3 (.ptr 0 ((w64 (d+(e.length:Int)):Int).toNat*1+0))) (kB w (kB c [])) (.i x58) (kB w (kB c [])) false) (qch ce3 (E:=encI) (l:=w) rfl rfl O (nl rfl) rfl)) (ac (hs (.done (.opt (qg ZT 75 (.oslice 0 w.length 1) (.i (w64 (d+(e.length:Int)))))) (.ptr 0 ((w64 (d+(e.length:Int)):Int).toNat*1+0))) (qfj jR O)) (ac (hs (.run [0] (qm ZT 3 (.ptr 0 ((w64 (d+(e.length:Int)):Int).toNat*1+0)) (.i (w64 (x58+n52)))) (kB w (kB c [])) .undef (kB l59 (kB c [])) true) (xV (E:=encI) (l:=w) (y:=w64 (x58+n52)) rfl (show _=some 1 by kernel_rfl) rfl O rfl rfl rfl rfl rfl e_l59 rfl)) az)))) ?_
      obtain rfl:=si g45
      exact⟨rfl,_,_,rfl,((show Sub (ofG 206 (kA ([g]:List Int) e (e.length:Int) w c d [(14,.i a2)]),(kB l59 (kB c []))) (ofG 206 (kA ([g]:List Int) e (e.length:Int) l59 c d [(14,.i a2)]),(kB l59 (kB c [])))from(Sub.norm [] [some 0,some 1] rfl rfl (.keep (.same (qf encI _)) (.keep (.same (qf encI _)) (.keep (.same nI) (.keep (.osliceE rfl (vJ e_l59)) (.keep (.slice rfl) (.keep (.same nI) (.keep (.same nI) .nil))))))) (.ks (.ks .nil)))).trans (Sub.refl _))⟩
     refine Goes.skip ?_
     obtain rfl:=si g45
     exact⟨rfl,_,_,rfl,(Sub.keep [8,9,10,11,12,13,14] rfl rfl)⟩
    rintro x s' ⟨rfl,r,n44,rfl,hsub⟩
    try dsimp only at g23
    refine Goes.sub hsub ?_
    obtain⟨x60,e_x60,g23⟩:=bnd g23
    obtain⟨V,e_l61,g23⟩:=bnd g23
    refine gq fol [3,4] (kA ([g]:List Int) e (e.length:Int) r c d []) (kB r (kB V [])) (ac (hs (.done (.opt (qg ZT 75 (.slice 1 0 c.length c.length 1) (.i d))) (.ptr 1 ((d:Int).toNat*1+0))) (qao jR e_x60)) (ac (hs (.run [1] (qm ZT 3 (.ptr 1 ((d:Int).toNat*1+0)) (.i n44)) (kB r (kB c [])) .undef (kB r (kB V [])) true) (xV (E:=encI) (l:=c) (y:=n44) rfl (show _=some 1 by kernel_rfl) rfl e_x60 rfl rfl rfl rfl rfl e_l61 rfl)) az)) ?_
    refine Goes.sub (show Sub (ofG 206 (kA ([g]:List Int) e (e.length:Int) r c d []),(kB r (kB V []))) (ofG 206 (kA ([g]:List Int) e (e.length:Int) r V d []),(kB r (kB V [])))from(Sub.norm [] [some 0,some 1] rfl rfl (.keep (.same (qf encI _)) (.keep (.same (qf encI _)) (.keep (.same nI) (.keep (.oslice rfl) (.keep (.sliceE rfl (vJ e_l61)) (.keep (.same nI) .nil)))))) (.ks (.ks .nil)))) ?_
    refine gh fol (kA ([g]:List Int) e (e.length:Int) r V (w64 (d-1)) []) ?_
    exact⟨M,(ofG 206 (kA ([g]:List Int) e (e.length:Int) r V (w64 (d-1)) []),(kB r (kB V []))),Nat.lt_succ_self _,(Sub.refl _),_,_,_,rfl,g23⟩
   refine Goes.exit ?_
   obtain rfl:=si g23
   exact⟨rfl,_,_,rfl,(Sub.keep [8,10,11,12] rfl rfl)⟩
 rintro x s' ⟨rfl,a1,o,rfl,hsub⟩
 try dsimp only at h
 refine Goes.sub hsub ?_
 refine sq (Goes.sub (s':=(ofG 206 [(8,vl encI ([g]:List Int)),(10,.i (e.length:Int)),(11,vl encI a1),(12,.slice 0 0 o.length o.length 1)],(kB o []))) (Sub.norm [0] [some 1] rfl rfl (.keep (.same (qf encI _)) (.keep (.same nI) (.keep (.frz (Fz.os (E:=encI) rfl rfl (nl rfl)) (qf encI _)) (.keep (.slice rfl) .nil)))) (.ks .nil)) ?_)
 obtain⟨s62,e_s62,h⟩:=bnd h
 obtain⟨r63,e_r63,h⟩:=bnd h
 obtain⟨x64,e_x64,h⟩:=bnd h
 obtain⟨r65,e_r65,h⟩:=bnd h
 refine gr fol [2,3,5,6,7] [(12,.slice 0 0 o.length o.length 1),(22,vl encI r65.1)] (ac (hs (.done (.opt (qU ZT 75 (vl encI a1) none (some (.i (e.length:Int))) none)) (vl encI s62)) (qlI jR (E:=encI) rfl none (some (e.length:Int)) e_s62)) (ac (cv (yB N s62 e_r63)) (ac (iv jR encI e_x64) (ac (lv 0 ce3 encI e_x64 rfl) (ac (cv (qcl N r63 x64 e_r65)) az))))) ?_
 obtain⟨r66,e_r66,h⟩:=bnd h
 refine sq (gq fol [1] ((4,vl encI r66)::(kAu r65.1 [])) (kAN o) (ac (hs (.callF 232 [.slice 0 0 o.length o.length 1] (kB o []) [0] [vl encI o] (vl encI r66)) (qas (FzL.cons (Fz.sl (E:=encI) rfl rfl (nl rfl)) FzL.nil) (yB N o e_r66) (qy encI _ (nl rfl)))) az) ?_)
 refine Goes.sub (show Sub (ofG 206 ((4,vl encI r66)::(kAu r65.1 [])),(kAN o)) (ofG 206 ((4,vl encI r66)::(kAu r65.1 [])),[])from(Sub.norm [] [] rfl rfl (.keep (.same (qf encI _)) (.keep (.same (qf encI _)) .nil)) .nil)) ?_
 refine Goes.ret ?_
 obtain rfl:=si h
 exact(gw2 (kAr r66 r65.1) (FzW.tuple (qc.cons (Ua (qy encI _ (nl rfl))) (qc.cons (Ua (qy encI _ (nl rfl))) qc.nil))))
def ze (N:Nat):Nat->(List Int)->(List Int)->Option (List Int)
 |0,_,_=>none
 |K+1,b,a=>
  if(a.length:Int)>0 then
  (zZ N b a).bind fun c=>
  ze N K a c.2
  else
  some b
def qam (N:Nat) (a:List Int) (b:List Int):Option (List Int):=
 (ze N N a b).bind fun c=>
 some c
theorem qdA (N:Nat) (a:List Int) (b:List Int) {res:List Int} (h:qam N a b=some res):qb ZT (.fn 102) (kAr a b) [] (vl encI res) []:=by
 unfold qam at h
 refine Ub Tryz.func102 rfl rfl (m:=19) rfl (rs:=[.tmp 4]) rfl (l:=(kG a b [])) rfl ?_
 refine sh fol (kG a b []) ?_
 refine sq (Goes.block ?_)
 obtain⟨i,g4,h⟩:=bnd h
 refine Goes.imp (Q:=fun x s'=>(x= .exit 0/\ ∃d,d=i/\Sub s' (ofG 19 (kAq d []),[]))) ?_ ?_
 ·refine Uc (fun M s=> ∃(e:List Int) (c:List Int),s=(ofG 19 (kG e c []),[])/\ze N M e c=some i) ?_ (m:=N) ⟨_,_,rfl,g4⟩
  rintro M s ⟨e,c,rfl,g4⟩
  cases M with
  |zero=>simp only[ze]at g4;cases g4
  |succ M=>
   rw[ze]at g4
   refine sq ?_
   refine sh fol (kG e c [(9,.bool (decide ((c.length:Int)>0)))]) ?_
   refine ihD g4 (fun j g4=>?_) (fun j g4=>?_)
   ·refine Goes.skip ?_
    refine Goes.block ?_
    obtain⟨g,f,g4⟩:=bnd g4
    refine sq (gr fol [2] [(1,vl encI c),(6,vl encI g.2)] (ac (cv (xw N e c f)) az) ?_)
    refine gh fol (kG c g.2 []) ?_
    exact⟨M,(ofG 19 (kG c g.2 []),[]),Nat.lt_succ_self _,(Sub.refl _),_,_,rfl,g4⟩
   refine Goes.exit ?_
   obtain rfl:=si g4
   exact⟨rfl,_,rfl,(Sub.keep [0] rfl rfl)⟩
 rintro x s' ⟨rfl,d,rfl,hsub⟩
 refine Goes.sub hsub ?_
 refine sh fol [(4,vl encI d)] ?_
 refine Goes.ret ?_
 obtain rfl:=si h
 exact(gw2 [vl encI d] (Ua (qy encI _ (nl rfl))))
def zn (N:Nat) (neg:Bool) (w:List Int):Option qB:=
 (vY N w).bind fun a=>
 (if neg=true then
 some (decide ((a.length:Int)>0))
 else
 some false:Option Bool).bind fun b=>
 some (⟨b,a⟩:qB)
theorem zI (N:Nat) (neg:Bool) (w:List Int) {res:qB} (h:zn N neg w=some res):qb ZT (.fn 173) (kAP neg w) [] (.agg (kAP res.neg res.w)) []:=by
 unfold zn at h
 refine Ub Tryz.func173 rfl rfl (m:=15) rfl (rs:=[.cell 4 124]) rfl (l:=[(0,.bool neg),(1,vl encI w)]) rfl ?_
 refine sg fol ((0,.bool neg)::(1,vl encI w)::(kAb [])) (kL []) ?_
 obtain⟨b,c,h⟩:=bnd h
 refine sq (gr fol [1] ((0,.bool neg)::(1,vl encI b)::(kAb [])) (ac (cv (yB N w c)) az) ?_)
 refine sq ?_
 obtain⟨e,a,h⟩:=bnd h
 refine Goes.cut (s':=(ofG 15 (kAb []),(kAI e b []))) ?_ ?_
 ·rcases wyB a with⟨d,a⟩|⟨d,a⟩
  ·obtain rfl:=si a
   exact xB.rq fol [1] (kAb []) (kAI (decide ((b.length:Int)>0)) b []) (ac (gw d) az)
  obtain rfl:=si a
  exact xB.rq fol [1] (kAb []) [.cells [.bool false,vl encI b]] (ac (gw d) az)
 refine Goes.ret ?_
 obtain rfl:=si h
 exact(gw2 [.agg (kAP e b)] (FzW.agg (qc.cons (Ua tB) (qc.cons (Ua (qy encI _ (nl rfl))) qc.nil))))
def yZ (N:Nat) (a:qB):Option qB:=
 (zn N (!a.neg) a.w).bind fun b=>
 some b
theorem qdG (N:Nat) (a:qB) {res:qB} (h:yZ N a=some res):qb ZT (.fn 171) [.agg (kAP a.neg a.w)] [] (.agg (kAP res.neg res.w)) []:=by
 unfold yZ at h
 refine Ub Tryz.func171 rfl rfl (m:=9) rfl (rs:=[.cell 2 124]) rfl (l:=[(0,.agg [.bool a.neg,vl encI a.w])]) rfl ?_
 refine sg fol (kAL []) (kAI a.neg a.w (kL [])) ?_
 obtain⟨c,b,h⟩:=bnd h
 refine sq (gq fol [5] kAy (kK a.neg a.w c.neg c.w []) (ac (cv (zI N (!a.neg) a.w b)) az) ?_)
 refine Goes.ret ?_
 obtain rfl:=si h
 exact(gw2 [.agg (kAP c.neg c.w)] (FzW.agg (qc.cons (Ua tB) (qc.cons (Ua (qy encI _ (nl rfl))) qc.nil))))
def yQ (N:Nat) (n:qB) (d:qB):Option Str:=
 ((if d.neg=true then
 (yZ N n).bind fun l=>
 (yZ N d).bind fun m=>
 some (l.neg,l.w,m.neg,m.w)
 else
 some (n.neg,n.w,d.neg,d.w):Option (Bool×(List Int)×Bool×(List Int)))).bind fun(r,o,s,p)=>
 (qam N o p).bind fun q=>
 (zZ N o q).bind fun c=>
 (zZ N p q).bind fun a=>
 (zn N r c.1).bind fun e=>
 (xS N e).bind fun b=>
 (if(a.1.length:Int)=1 then
 (idx a.1 0).bind fun f=>
 some (decide (f=1))
 else
 some false:Option Bool).bind fun g=>
 if g=true then
 some b
 else
 (cat b [47]).bind fun h=>
 (zn N false a.1).bind fun i=>
 (xS N i).bind fun j=>
 (cat h j).bind fun k=>
 some k
theorem qcn (N:Nat) (n:qB) (d:qB) {res:Str} (h:yQ N n d=some res):qb ZT (.fn 95) (kAV n.neg n.w d.neg d.w) [] (.str res) []:=by
 unfold yQ at h
 refine Ub Tryz.func95 rfl rfl (m:=57) rfl (rs:=[.tmp 4]) rfl (l:=(kAz n.neg n.w d.neg d.w)) rfl ?_
 refine sg fol (kU (kAa [])) (kK n.neg n.w d.neg d.w []) ?_
 refine sq ?_
 refine sh fol (kU (kAa (kA2 d.neg))) ?_
 obtain⟨O,g5,h⟩:=bnd h
 refine Goes.imp (Q:=fun x s'=>(x= .normal/\ ∃y u D v,(y,u,D,v)=O/\Sub s' (ofG 57 (kU (kAa [])),(kK y u D v [])))) ?_ ?_
 ·refine ihB g5 (fun P g5=>?_) (fun P g5=>?_)
  ·obtain⟨L,z,g5⟩:=bnd g5
   obtain⟨M,A,g5⟩:=bnd g5
   refine gq fol [1,3] (kU (kAa [])) (kK L.neg L.w M.neg M.w []) (ac (cv (qdG N n z)) (ac (cv (qdG N d A)) az)) ?_
   obtain rfl:=si g5
   exact⟨rfl,_,_,_,_,rfl,(Sub.refl _)⟩
  refine Goes.skip ?_
  obtain rfl:=si g5
  exact⟨rfl,_,_,_,_,rfl,(Sub.keep [2,3] rfl rfl)⟩
 rintro x s' ⟨rfl,y,u,D,v,rfl,hsub⟩
 try dsimp only at h
 refine Goes.sub hsub ?_
 obtain⟨E,B,h⟩:=bnd h
 refine sq (gr fol [4] (kU (kAa (kAu E []))) (ac (cv (qdA N u v B)) az) ?_)
 obtain⟨f,g,h⟩:=bnd h
 refine sq (gr fol [3] (kU (kAa (kAu E [(6,vl encI f.1)]))) (ac (cv (xw N u E g)) az) ?_)
 obtain⟨c,i,h⟩:=bnd h
 refine sq (gr fol [3] (kU [(6,vl encI f.1),(8,vl encI c.1)]) (ac (cv (xw N v E i)) az) ?_)
 obtain⟨F,j,h⟩:=bnd h
 obtain⟨b,k,h⟩:=bnd h
 refine sq (gr fol [3,4] [(8,vl encI c.1),(10,.str b)] (ac (cv (zI N y f.1 j)) (ac (cv (qbm N F k)) az)) ?_)
 refine sq ?_
 refine sq ?_
 obtain⟨G,a,h⟩:=bnd h
 refine Goes.cut (s':=(ofG 57 [(8,vl encI c.1),(10,.str b),(49,.bool G)],(kK y u D v []))) ?_ ?_
 ·rcases wyD a with⟨o,a⟩|⟨o,a⟩
  ·obtain⟨H,e,a⟩:=bnd a
   obtain rfl:=si a
   exact tr fol [3,5,6] [(8,vl encI c.1),(10,.str b),(49,.bool (decide (H=1)))] (ac (gw o) (ac (iv jR encI e) (ac (lv 0 ce3 encI e rfl) az)))
  obtain rfl:=si a
  exact tr fol [3] [(8,vl encI c.1),(10,.str b),(49,.bool false)] (ac (gw o) az)
 refine ihB h (fun I h=>?_) (fun I h=>?_)
 ·refine sh fol [(4,.str b)] ?_
  refine Goes.ret ?_
  obtain rfl:=si h
  exact(gw2 [.str b] (Ua tS))
 refine Goes.skip ?_
 obtain⟨C,p,h⟩:=bnd h
 obtain⟨J,q,h⟩:=bnd h
 obtain⟨K,r,h⟩:=bnd h
 obtain⟨s,t,h⟩:=bnd h
 refine sq (gr fol [1,3,4,5] [(4,.str s)] (ac (hs (.done (.opt (kg ZT .add 9 (.tmp 51) (.const (.string ⟨#[47]⟩)) (.str b) (.str [47]))) (.str C)) (qaB p)) (ac (cv (zI N false c.1 q)) (ac (cv (qbm N J r)) (ac (hs (.done (.opt (kg ZT .add 9 (.tmp 52) (.tmp 55) (.str C) (.str K))) (.str s)) (qaB t)) az)))) ?_)
 refine Goes.ret ?_
 obtain rfl:=si h
 exact(gw2 [.str s] (Ua tS))
def zS:Nat->(List Int)->Int->Option (List Int)
 |0,_,_=>none
 |K+1,b,a=>
  if(!decide (a=0))=true then
  ((if(a.tmod 1000000000)<0 then
  some (w64 (0-(a.tmod 1000000000)))
  else
  some (a.tmod 1000000000):Option Int)).bind fun c=>
  (app 8 b [c]).bind fun d=>
  zS K d (w64 (a.tdiv 1000000000))
  else
  some b
def vS (N:Nat) (n:Int):Option qB:=
 (zS N ([]:List Int) n).bind fun b=>
 (zn N (decide (n<0)) b).bind fun a=>
 some a
theorem qaO (N:Nat) (n:Int) {res:qB} (h:vS N n=some res):qb ZT (.fn 99) [.i n] [] (.agg (kAP res.neg res.w)) []:=by
 unfold vS at h
 refine Ub Tryz.func99 rfl rfl (m:=25) rfl (rs:=[.cell 2 124]) rfl (l:=[(0,.i n)]) rfl ?_
 refine sg fol ((0,.i n)::(kU [])) (kL []) ?_
 refine sh fol ((0,.i n)::(kU [(3,.nilslice)])) ?_
 refine sh fol ((0,.i n)::(kU ((3,.nilslice)::(kA0 (decide (n<0)))))) ?_
 refine sq (Goes.block ?_)
 obtain⟨k,g4,h⟩:=bnd h
 refine Goes.imp (Q:=fun x s'=>(x= .exit 0/\ ∃d,d=k/\Sub s' (ofG 25 (kU (kAY d (decide (n<0)) [])),(kL (kB d []))))) ?_ ?_
 ·refine Goes.sub (s':=(ofG 25 ((0,.i n)::(kU ((3,.gslice 1 ([]:List Int).length 1)::(kA0 (decide (n<0)))))),(kL kAo))) (Sub.norm [] [some 0,none] rfl rfl (.keep (.same nI) (.kp (.keep .nil (.keep (.same nB) .nil)))) (.kb rfl (.same sn) (.fresh .nil))) ?_
  refine Uc (fun M s=> ∃(c:List Int) (b:Int),s=(ofG 25 ((0,.i b)::(kU (kAY c (decide (n<0)) []))),(kL (kB c [])))/\zS M c b=some k) ?_ (m:=N) ⟨_,_,rfl,g4⟩
  rintro M s ⟨c,b,rfl,g4⟩
  cases M with
  |zero=>simp only[zS]at g4;cases g4
  |succ M=>
   rw[zS]at g4
   refine sq ?_
   refine sh fol ((0,.i b)::(kU (kAY c (decide (n<0)) [(9,.bool (!decide (b=0)))]))) ?_
   refine ihB g4 (fun o g4=>?_) (fun o g4=>?_)
   ·refine Goes.skip ?_
    refine Goes.block ?_
    refine sh fol ((0,.i b)::(kU (kAY c (decide (n<0)) (kAt (b.tmod 1000000000))))) ?_
    refine sq ?_
    refine sh fol ((0,.i b)::(kU (kAY c (decide (n<0)) ((5,.i (b.tmod 1000000000))::(kA5 (decide ((b.tmod 1000000000)<0))))))) ?_
    obtain⟨p,g7,g4⟩:=bnd g4
    refine Goes.imp (Q:=fun x s'=>(x= .normal/\ ∃e,e=p/\Sub s' (ofG 25 ((0,.i b)::(kU (kAY c (decide (n<0)) (kAt e)))),(kL (kB c []))))) ?_ ?_
    ·refine ihD g7 (fun q g7=>?_) (fun q g7=>?_)
     ·refine gh fol ((0,.i b)::(kU (kAY c (decide (n<0)) (kAt (w64 (0-(b.tmod 1000000000))))))) ?_
      obtain rfl:=si g7
      exact⟨rfl,_,rfl,(Sub.refl _)⟩
     refine Goes.skip ?_
     obtain rfl:=si g7
     exact⟨rfl,_,rfl,(Sub.keep [0,2,3,4,5] rfl rfl)⟩
    rintro x s' ⟨rfl,e,rfl,hsub⟩
    refine Goes.sub hsub ?_
    obtain⟨f,j,g4⟩:=bnd g4
    refine sq (gq fol [3] ((0,.i b)::(kU ((3,.gslice 3 f.length 1)::(kA0 (decide (n<0)))))) (kL (kAp e (kB f []))) (ac (hs (.run [1,2] (xJ ZT [75,75] (.gslice 1 c.length 1) (.slice 2 0 1 1 1)) (kL (kB c [.cells [.i e]])) (.gslice 3 f.length 1) (kL (kAp e (kB f []))) true) (qck jR (E:=encI) rfl (qg8 (E:=encI) (ys:=[e]) rfl rfl rfl rfl) (qib (E:=encI) (l:=c) rfl rfl rfl j rfl))) az) ?_)
    refine gh fol ((0,.i (w64 (b.tdiv 1000000000)))::(kU ((3,.gslice 3 f.length 1)::(kA0 (decide (n<0)))))) ?_
    exact⟨M,(ofG 25 ((0,.i (w64 (b.tdiv 1000000000)))::(kU (kAY f (decide (n<0)) []))),(kL (kB f []))),Nat.lt_succ_self _,(Sub.norm [] [some 0,some 3] rfl rfl (.keep (.same nI) (.kp (.keep (.gslice rfl) (.keep (.same nB) .nil)))) (.kb rfl (.same sn) (.ks .nil))),_,_,rfl,g4⟩
   refine Goes.exit ?_
   obtain rfl:=si g4
   exact⟨rfl,_,rfl,(Sub.keep [2,3,4] rfl rfl)⟩
 rintro x s' ⟨rfl,d,rfl,hsub⟩
 refine Goes.sub hsub ?_
 obtain⟨a,g,h⟩:=bnd h
 refine sq (gq fol [2] (kU []) (kAI a.neg a.w (kAN d)) (ac (hs (.callF 173 [.bool (decide (n<0)),.gslice 1 d.length 1] (kL (kB d [])) [1] (kAP (decide (n<0)) d) (.agg (kAP a.neg a.w))) (qas (FzL.cons (Ur tB) (FzL.cons (Fz.gs (E:=encI) rfl rfl (nl rfl)) FzL.nil)) (zI N (decide (n<0)) d g) (Still.agg (AllST.cons tB (AllST.cons (qy encI _ (nl rfl)) AllST.nil))))) az) ?_)
 refine Goes.sub (show Sub (ofG 25 (kU []),(kAI a.neg a.w (kAN d))) (ofG 25 (kU []),(kAI a.neg a.w []))from(Sub.norm [] [some 0] rfl rfl (.kp .nil) (.kb rfl (.same sn) .nil))) ?_
 refine Goes.ret ?_
 obtain rfl:=si h
 exact(gw2 [.agg (kAP a.neg a.w)] (FzW.agg (qc.cons (Ua tB) (qc.cons (Ua (qy encI _ (nl rfl))) qc.nil))))
def jT:Nat->Int->Int->Option Int
 |0,_,_=>none
 |K+1,b,a=>
  if a>0 then
  (qd8 .i64 b a).bind fun c=>
  jT K a c
  else
  some b
def qbP (N:Nat) (a:Int) (b:Int):Option Int:=
 (jT N a b).bind fun c=>
 some c
theorem qfl (N:Nat) (a:Int) (b:Int) {res:Int} (h:qbP N a b=some res):qb ZT (.fn 105) [.i a,.i b] [] (.i res) []:=by
 unfold qbP at h
 refine Ub Tryz.func105 rfl rfl (m:=12) rfl (rs:=[.tmp 4]) rfl (l:=(kAF a b [])) rfl ?_
 refine sh fol (kAF a b []) ?_
 refine sq (Goes.block ?_)
 obtain⟨j,g4,h⟩:=bnd h
 refine Goes.imp (Q:=fun x s'=>(x= .exit 0/\ ∃d,d=j/\Sub s' (ofG 12 [(0,.i d)],[]))) ?_ ?_
 ·refine Uc (fun M s=> ∃(e:Int) (c:Int),s=(ofG 12 (kAF e c []),[])/\jT M e c=some j) ?_ (m:=N) ⟨_,_,rfl,g4⟩
  rintro M s ⟨e,c,rfl,g4⟩
  cases M with
  |zero=>simp only[jT]at g4;cases g4
  |succ M=>
   rw[jT]at g4
   refine sq ?_
   refine sh fol (kAF e c [(6,.bool (decide (c>0)))]) ?_
   refine ihD g4 (fun k g4=>?_) (fun k g4=>?_)
   ·refine Goes.skip ?_
    refine Goes.block ?_
    obtain⟨g,f,g4⟩:=bnd g4
    refine gr fol [3] (kAF c g []) (ac (hs (.done (.opt (kg ZT .rem 3 (.tmp 8) (.tmp 9) (.i e) (.i c))) (.i g)) (qe1 f)) az) ?_
    exact⟨M,(ofG 12 (kAF c g []),[]),Nat.lt_succ_self _,(Sub.refl _),_,_,rfl,g4⟩
   refine Goes.exit ?_
   obtain rfl:=si g4
   exact⟨rfl,_,rfl,(Sub.keep [0] rfl rfl)⟩
 rintro x s' ⟨rfl,d,rfl,hsub⟩
 refine Goes.sub hsub ?_
 refine sh fol [(4,.i d)] ?_
 refine Goes.ret ?_
 obtain rfl:=si h
 exact(gw2 [.i d] (Ua tI))
def qcD (N:Nat) (num:Int) (den:Int):Option Str:=
 (if num<(-4000000000000000000)then
 some true
 else
 if num>4000000000000000000 then
 some true
 else
 if den<(-4000000000000000000)then
 some true
 else
 some (decide (den>4000000000000000000)):Option Bool).bind fun m=>
 if m=true then
 (vS N num).bind fun n=>
 (vS N den).bind fun o=>
 (yQ N n o).bind fun p=>
 some p
 else
 ((if den<0 then
 some (w64 (0-num),w64 (0-den))
 else
 some (num,den):Option (Int×Int))).bind fun(a,c)=>
 (qbP N (if(w64 (0-a))>a then(w64 (0-a))else a) c).bind fun d=>
 (qcg .i64 a d).bind fun b=>
 (qcg .i64 c d).bind fun e=>
 ((if b<0 then
 some [45]
 else
 some []:Option Str)).bind fun g=>
 (zH N (if(w64 (0-b))>b then(w64 (0-b))else b) 1).bind fun h=>
 (cat g h).bind fun f=>
 ((if e>1 then
 (cat f [47]).bind fun i=>
 (zH N e 1).bind fun j=>
 (cat i j).bind fun k=>
 some k
 else
 some f:Option Str)).bind fun l=>
 some l
theorem qf5 (N:Nat) (num:Int) (den:Int) {res:Str} (h:qcD N num den=some res):qb ZT (.fn 31) [.i num,.i den] [] (.str res) []:=by
 unfold qcD at h
 refine Ub Tryz.func31 rfl rfl (m:=61) rfl (rs:=[.tmp 4]) rfl (l:=(kAF num den [])) rfl ?_
 refine sh fol (kAF num den []) ?_
 refine sq ?_
 refine sq ?_
 obtain⟨O,a,h⟩:=bnd h
 refine Goes.cut (s':=(ofG 61 (kAF num den [(20,.bool O)]),[])) ?_ ?_
 ·rcases wyD a with⟨v,a⟩|⟨v,a⟩
  ·obtain rfl:=si a
   exact tr fol [2] (kAF num den [(20,.bool true)]) (ac (gw v) az)
  rcases wyD a with⟨C,a⟩|⟨C,a⟩
  ·obtain rfl:=si a
   exact tr fol [2,6] (kAF num den [(20,.bool true)]) (ac (gw v) (ac (gw C) az))
  rcases wyD a with⟨D,a⟩|⟨D,a⟩
  ·obtain rfl:=si a
   exact tr fol [2,6,10] (kAF num den [(20,.bool true)]) (ac (gw v) (ac (gw C) (ac (gw D) az)))
  obtain rfl:=si a
  exact tr fol [2,6,10] (kAF num den [(20,.bool (decide (den>4000000000000000000)))]) (ac (gw v) (ac (gw C) (ac (gw D) az)))
 refine ihB h (fun P h=>?_) (fun P h=>?_)
 ·obtain⟨U,w,h⟩:=bnd h
  obtain⟨V,y,h⟩:=bnd h
  obtain⟨M,z,h⟩:=bnd h
  refine sq (gr fol [1,3,4] [(4,.str M)] (ac (cv (qaO N num w)) (ac (cv (qaO N den y)) (ac (cv (qcn N U V z)) az))) ?_)
  refine Goes.ret ?_
  obtain rfl:=si h
  exact(gw2 [.str M] (Ua tS))
 refine Goes.skip ?_
 refine sq ?_
 refine sh fol (kAF num den [(27,.bool (decide (den<0)))]) ?_
 obtain⟨E,g12,h⟩:=bnd h
 refine Goes.imp (Q:=fun x s'=>(x= .normal/\ ∃d e,(d,e)=E/\Sub s' (ofG 61 (kAF d e []),[]))) ?_ ?_
 ·refine ihD g12 (fun F g12=>?_) (fun F g12=>?_)
  ·refine gh fol (kAF (w64 (0-num)) (w64 (0-den)) []) ?_
   obtain rfl:=si g12
   exact⟨rfl,_,_,rfl,(Sub.refl _)⟩
  refine Goes.skip ?_
  obtain rfl:=si g12
  exact⟨rfl,_,_,rfl,(Sub.keep [0,1] rfl rfl)⟩
 rintro x s' ⟨rfl,d,e,rfl,hsub⟩
 try dsimp only at h
 refine Goes.sub hsub ?_
 obtain⟨k,n,h⟩:=bnd h
 refine sq (gr fol [5] (kAF d e (kAt k)) (ac (cv (qfl N (if(w64 (0-d))>d then(w64 (0-d))else d) e n)) az) ?_)
 obtain⟨b,o,h⟩:=bnd h
 obtain⟨c,p,h⟩:=bnd h
 refine sq (gr fol [2,5] (kAF b c []) (ac (hs (.done (.opt (kg ZT .quo 3 (.tmp 38) (.tmp 39) (.i d) (.i k))) (.i b)) (qbL o)) (ac (hs (.done (.opt (kg ZT .quo 3 (.tmp 41) (.tmp 42) (.i e) (.i k))) (.i c)) (qbL p)) az)) ?_)
 refine sh fol (kAF b c [(6,.str [])]) ?_
 refine sq ?_
 refine sh fol (kAF b c [(6,.str []),(45,.bool (decide (b<0)))]) ?_
 obtain⟨G,g18,h⟩:=bnd h
 refine Goes.imp (Q:=fun x s'=>(x= .normal/\ ∃g,g=G/\Sub s' (ofG 61 (kAF b c [(6,.str g)]),[]))) ?_ ?_
 ·refine ihD g18 (fun H g18=>?_) (fun H g18=>?_)
  ·refine gh fol (kAF b c [(6,.str [45])]) ?_
   obtain rfl:=si g18
   exact⟨rfl,_,rfl,(Sub.refl _)⟩
  refine Goes.skip ?_
  obtain rfl:=si g18
  exact⟨rfl,_,rfl,(Sub.keep [0,1,6] rfl rfl)⟩
 rintro x s' ⟨rfl,g,rfl,hsub⟩
 refine Goes.sub hsub ?_
 obtain⟨I,q,h⟩:=bnd h
 obtain⟨j,r,h⟩:=bnd h
 refine sq (gr fol [5,6] [(1,.i c),(6,.str j)] (ac (cv (qah N (if(w64 (0-b))>b then(w64 (0-b))else b) 1 q)) (ac (hs (.done (.opt (kg ZT .add 9 (.tmp 46) (.tmp 51) (.str g) (.str I))) (.str j)) (qaB r)) az)) ?_)
 refine sq ?_
 refine sh fol [(1,.i c),(6,.str j),(54,.bool (decide (c>1)))] ?_
 obtain⟨J,g23,h⟩:=bnd h
 refine Goes.imp (Q:=fun x s'=>(x= .normal/\ ∃f,f=J/\Sub s' (ofG 61 [(6,.str f)],[]))) ?_ ?_
 ·refine ihD g23 (fun K g23=>?_) (fun K g23=>?_)
  ·obtain⟨A,s,g23⟩:=bnd g23
   obtain⟨L,t,g23⟩:=bnd g23
   obtain⟨B,u,g23⟩:=bnd g23
   refine gr fol [1,3,4] [(6,.str B)] (ac (hs (.done (.opt (kg ZT .add 9 (.tmp 55) (.const (.string ⟨#[47]⟩)) (.str j) (.str [47]))) (.str A)) (qaB s)) (ac (cv (qah N c 1 t)) (ac (hs (.done (.opt (kg ZT .add 9 (.tmp 56) (.tmp 58) (.str A) (.str L))) (.str B)) (qaB u)) az))) ?_
   obtain rfl:=si g23
   exact⟨rfl,_,rfl,(Sub.refl _)⟩
  refine Goes.skip ?_
  obtain rfl:=si g23
  exact⟨rfl,_,rfl,(Sub.keep [6] rfl rfl)⟩
 rintro x s' ⟨rfl,f,rfl,hsub⟩
 refine Goes.sub hsub ?_
 refine sh fol [(4,.str f)] ?_
 refine Goes.ret ?_
 obtain rfl:=si h
 exact(gw2 [.str f] (Ua tS))
def ve (b:Str):Nat->Int->Option (Unit⊕Int)
 |0,_=>none
 |K+1,a=>
  if a<(b.length:Int)then
  (idx b a).bind fun c=>
  if(c.toNat:Int)=47 then
  some (.inr a)
  else
  ve b K (w64 (a+1))
  else
  some (.inl ())
def vM (N:Nat) (a:Str):Option Int:=
 (ve a N 0).bind (fun
 |(.inl ())=>
 some (a.length:Int)
 |(.inr b)=>
 some b)
theorem yI (N:Nat) (a:Str) {res:Int} (h:vM N a=some res):qb ZT (.fn 100) [.str a] [] (.i res) []:=by
 unfold vM at h
 refine Ub Tryz.func100 rfl rfl (m:=17) rfl (rs:=[.tmp 2]) rfl (l:=(kAS a)) rfl ?_
 refine sh fol (kAS a) ?_
 refine sq ?_
 refine sh fol (kA1 a [(3,.i 0)]) ?_
 refine Goes.block ?_
 obtain⟨d,g2,h⟩:=bnd h
 refine Goes.imp (Q:=fun x s'=>(x= .exit 0/\(.inl ())=d/\Sub s' (ofG 17 (kAS a),[]))\/(x= .ret/\ ∃e,(.inr e)=d/\jZ ZT [.tmp 2] (.i e) .ret s')) ?_ ?_
 ·refine Uc (fun M s=> ∃(b:Int),s=(ofG 17 (kAX a b []),[])/\ve a M b=some d) ?_ (m:=N) ⟨_,rfl,g2⟩
  rintro M s ⟨b,rfl,g2⟩
  cases M with
  |zero=>simp only[ve]at g2;cases g2
  |succ M=>
   rw[ve]at g2
   refine sq ?_
   refine sh fol (kAX a b [(7,.bool (decide (b<(a.length:Int))))]) ?_
   refine ihD g2 (fun g g2=>?_) (fun g g2=>?_)
   ·refine Goes.skip ?_
    refine sq (Goes.block ?_)
    obtain⟨f,c,g2⟩:=bnd g2
    refine sq (gr fol [2] (kAX a b (kA5 (decide ((f.toNat:Int)=47)))) (ac (hs (.done (.opt (yl ZT 9 (.str a) (.i b))) (.int .u8 (f.toNat:Int))) (qar st9 c)) az) ?_)
    refine ihD g2 (fun j g2=>?_) (fun j g2=>?_)
    ·refine sh fol [(2,.i b)] ?_
     refine Goes.ret ?_
     obtain rfl:=si g2
     exact Or.inr (⟨rfl,_,rfl,(gw2 [.i b] (Ua tI))⟩)
    refine Goes.skip ?_
    refine gh fol (kAX a (w64 (b+1)) []) ?_
    exact⟨M,(ofG 17 (kAX a (w64 (b+1)) []),[]),Nat.lt_succ_self _,(Sub.refl _),_,rfl,g2⟩
   refine Goes.exit ?_
   obtain rfl:=si g2
   exact Or.inl (⟨rfl,rfl,(Sub.keep [0] rfl rfl)⟩)
 rintro x s' (⟨rfl,rfl,hsub⟩|⟨rfl,k,rfl,hret⟩)
 ·try dsimp only at h
  refine Goes.sub hsub ?_
  refine sh fol [(2,.i (a.length:Int))] ?_
  refine Goes.ret ?_
  obtain rfl:=si h
  exact(gw2 [.i (a.length:Int)] (Ua tI))
 try dsimp only at h
 obtain rfl:=si h
 exact hret
def vz (a:Str):Nat->Int->Int->Option Int
 |0,_,_=>none
 |K+1,c,b=>
  if b<(a.length:Int)then
  (idx a b).bind fun d=>
  vz a K (w64 ((w64 ((w64 (10*c))+(w64 (d.toNat:Int))))-48)) (w64 (b+1))
  else
  some c
def yX (N:Nat) (a:Str):Option Int:=
 (vz a N 0 0).bind fun b=>
 some b
theorem qaV (N:Nat) (a:Str) {res:Int} (h:yX N a=some res):qb ZT (.fn 169) [.str a] [] (.i res) []:=by
 unfold yX at h
 refine Ub Tryz.func169 rfl rfl (m:=20) rfl (rs:=[.tmp 2]) rfl (l:=(kAS a)) rfl ?_
 refine sh fol (kAS a) ?_
 refine sh fol (kA1 a [(3,.i 0)]) ?_
 refine sq ?_
 refine sh fol (kA1 a [(3,.i 0),(4,.i 0)]) ?_
 refine Goes.block ?_
 obtain⟨g,g4,h⟩:=bnd h
 refine Goes.imp (Q:=fun x s'=>(x= .exit 0/\ ∃d,d=g/\Sub s' (ofG 20 [(3,.i d)],[]))) ?_ ?_
 ·refine Uc (fun M s=> ∃(c:Int) (b:Int),s=(ofG 20 (kAX a c [(4,.i b)]),[])/\vz a M c b=some g) ?_ (m:=N) ⟨_,_,rfl,g4⟩
  rintro M s ⟨c,b,rfl,g4⟩
  cases M with
  |zero=>simp only[vz]at g4;cases g4
  |succ M=>
   rw[vz]at g4
   refine sq ?_
   refine sh fol (kAX a c [(4,.i b),(8,.bool (decide (b<(a.length:Int))))]) ?_
   refine ihD g4 (fun j g4=>?_) (fun j g4=>?_)
   ·refine Goes.skip ?_
    refine sq (Goes.block ?_)
    obtain⟨f,e,g4⟩:=bnd g4
    refine gr fol [4] (kAX a (w64 ((w64 ((w64 (10*c))+(w64 (f.toNat:Int))))-48)) [(4,.i b)]) (ac (hs (.done (.opt (yl ZT 9 (.str a) (.i b))) (.int .u8 (f.toNat:Int))) (qar st9 e)) az) ?_
    refine gh fol (kAX a (w64 ((w64 ((w64 (10*c))+(w64 (f.toNat:Int))))-48)) [(4,.i (w64 (b+1)))]) ?_
    exact⟨M,(ofG 20 (kAX a (w64 ((w64 ((w64 (10*c))+(w64 (f.toNat:Int))))-48)) [(4,.i (w64 (b+1)))]),[]),Nat.lt_succ_self _,(Sub.refl _),_,_,rfl,g4⟩
   refine Goes.exit ?_
   obtain rfl:=si g4
   exact⟨rfl,_,rfl,(Sub.keep [3] rfl rfl)⟩
 rintro x s' ⟨rfl,d,rfl,hsub⟩
 refine Goes.sub hsub ?_
 refine sh fol [(2,.i d)] ?_
 refine Goes.ret ?_
 obtain rfl:=si h
 exact(gw2 [.i d] (Ua tI))
def yA (N:Nat) (a:Str):Option (Int×Int×Bool):=
 if(a.length:Int)>20 then
 some (0,0,false)
 else
 (if(a.length:Int)>0 then
 (idx a 0).bind fun l=>
 some (decide ((l.toNat:Int)=45))
 else
 some false:Option Bool).bind fun k=>
 ((if k=true then
 (cut a 1 (a.length:Int)).bind fun m=>
 some m
 else
 some a:Option Str)).bind fun c=>
 (vM N c).bind fun b=>
 (if b>9 then
 some true
 else
 some (decide ((w64 ((c.length:Int)-b))>10)):Option Bool).bind fun e=>
 if e=true then
 some (0,0,false)
 else
 (cut c 0 b).bind fun f=>
 (yX N f).bind fun d=>
 ((if b<(c.length:Int)then
 (cut c (w64 (b+1)) (c.length:Int)).bind fun g=>
 (yX N g).bind fun h=>
 some h
 else
 some 1:Option Int)).bind fun i=>
 ((if k=true then
 some (w64 (0-d))
 else
 some d:Option Int)).bind fun j=>
 some (j,i,true)
theorem qea (N:Nat) (a:Str) {res:Int×Int×Bool} (h:yA N a=some res):qb ZT (.fn 93) [.str a] [] (.tuple [.i res.1,.i res.2.1,.bool res.2.2]) []:=by
 unfold yA at h
 refine Ub Tryz.func93 rfl rfl (m:=54) rfl (rs:=[.tmp 2,.tmp 3,.tmp 4]) rfl (l:=(kAS a)) rfl ?_
 refine sh fol (kAS a) ?_
 refine sh fol [(5,.str a)] ?_
 refine sq ?_
 refine sh fol ((5,.str a)::(kA5 (decide ((a.length:Int)>20)))) ?_
 refine ihD h (fun I h=>?_) (fun I h=>?_)
 ·refine sh fol [(2,.i 0),(3,.i 0),(4,.bool false)] ?_
  refine Goes.ret ?_
  obtain rfl:=si h
  exact(gw2 [.i 0,.i 0,.bool false] (FzW.tuple (qc.cons (Ua tI) (qc.cons (Ua tI) (qc.cons (Ua tB) qc.nil)))))
 refine Goes.skip ?_
 refine sq ?_
 obtain⟨f,c,h⟩:=bnd h
 refine Goes.cut (s':=(ofG 54 (kAh a f []),[])) ?_ ?_
 ·rcases wyD c with⟨y,c⟩|⟨y,c⟩
  ·obtain⟨G,t,c⟩:=bnd c
   obtain rfl:=si c
   exact tr fol [3,5] (kAh a (decide ((G.toNat:Int)=45)) []) (ac (gw y) (ac (hs (.done (.opt (yl ZT 9 (.str a) (.i 0))) (.int .u8 (G.toNat:Int))) (qar st9 t)) az))
  obtain rfl:=si c
  exact tr fol [3] [(5,.str a),(6,.bool false)] (ac (gw y) az)
 refine sq ?_
 refine sh fol (kAh a f [(22,.bool f)]) ?_
 obtain⟨J,g7,h⟩:=bnd h
 refine Goes.imp (Q:=fun x s'=>(x= .normal/\ ∃g,g=J/\Sub s' (ofG 54 (kAh g f []),[]))) ?_ ?_
 ·refine ihB g7 (fun K g7=>?_) (fun K g7=>?_)
  ·obtain⟨H,u,g7⟩:=bnd g7
   refine gr fol [1] (kAh H f []) (ac (hs (.done (.opt (qU ZT 9 (.str a) (some (.i 1)) none none)) (.str H)) (z8 st9 (some 1) none u)) az) ?_
   obtain rfl:=si g7
   exact⟨rfl,_,rfl,(Sub.refl _)⟩
  refine Goes.skip ?_
  obtain rfl:=si g7
  exact⟨rfl,_,rfl,(Sub.keep [5,6] rfl rfl)⟩
 rintro x s' ⟨rfl,g,rfl,hsub⟩
 refine Goes.sub hsub ?_
 obtain⟨b,n,h⟩:=bnd h
 refine sq (gr fol [1] (kAh g f [(7,.i b)]) (ac (cv (yI N g n)) az) ?_)
 refine sq ?_
 refine sq ?_
 obtain⟨z,d,h⟩:=bnd h
 refine Goes.cut (s':=(ofG 54 (kAh g f [(7,.i b),(35,.bool z)]),[])) ?_ ?_
 ·rcases wyD d with⟨o,d⟩|⟨o,d⟩
  ·obtain rfl:=si d
   exact tr fol [2] (kAh g f [(7,.i b),(35,.bool true)]) (ac (gw o) az)
  obtain rfl:=si d
  exact tr fol [2] (kAh g f [(7,.i b),(35,.bool (decide ((w64 ((g.length:Int)-b))>10)))]) (ac (gw o) az)
 refine ihB h (fun A h=>?_) (fun A h=>?_)
 ·refine sh fol [(2,.i 0),(3,.i 0),(4,.bool false)] ?_
  refine Goes.ret ?_
  obtain rfl:=si h
  exact(gw2 [.i 0,.i 0,.bool false] (FzW.tuple (qc.cons (Ua tI) (qc.cons (Ua tI) (qc.cons (Ua tB) qc.nil)))))
 refine Goes.skip ?_
 obtain⟨v,p,h⟩:=bnd h
 obtain⟨j,q,h⟩:=bnd h
 refine sq (gr fol [2,3] (kAh g f [(7,.i b),(8,.i j),(9,.i 1)]) (ac (hs (.done (.opt (qU ZT 9 (.str g) none (some (.i b)) none)) (.str v)) (z8 st9 none (some b) p)) (ac (cv (qaV N v q)) az)) ?_)
 refine sq ?_
 refine sh fol (kAh g f [(7,.i b),(8,.i j),(9,.i 1),(43,.bool (decide (b<(g.length:Int))))]) ?_
 obtain⟨B,g18,h⟩:=bnd h
 refine Goes.imp (Q:=fun x s'=>(x= .normal/\ ∃e,e=B/\Sub s' (ofG 54 ((6,.bool f)::(kAm j e)),[]))) ?_ ?_
 ·refine ihD g18 (fun C g18=>?_) (fun C g18=>?_)
  ·obtain⟨w,r,g18⟩:=bnd g18
   obtain⟨D,s,g18⟩:=bnd g18
   refine gr fol [3,4] ((6,.bool f)::(kAm j D)) (ac (hs (.done (.opt (qU ZT 9 (.str g) (some (.i (w64 (b+1)))) none none)) (.str w)) (z8 st9 (some (w64 (b+1))) none r)) (ac (cv (qaV N w s)) az)) ?_
   obtain rfl:=si g18
   exact⟨rfl,_,rfl,(Sub.refl _)⟩
  refine Goes.skip ?_
  obtain rfl:=si g18
  exact⟨rfl,_,rfl,(Sub.keep [6,8,9] rfl rfl)⟩
 rintro x s' ⟨rfl,e,rfl,hsub⟩
 refine Goes.sub hsub ?_
 refine sq ?_
 refine sh fol [(8,.i j),(9,.i e),(49,.bool f)] ?_
 obtain⟨E,g23,h⟩:=bnd h
 refine Goes.imp (Q:=fun x s'=>(x= .normal/\ ∃k,k=E/\Sub s' (ofG 54 (kAm k e),[]))) ?_ ?_
 ·refine ihB g23 (fun F g23=>?_) (fun F g23=>?_)
  ·refine gh fol (kAm (w64 (0-j)) e) ?_
   obtain rfl:=si g23
   exact⟨rfl,_,rfl,(Sub.refl _)⟩
  refine Goes.skip ?_
  obtain rfl:=si g23
  exact⟨rfl,_,rfl,(Sub.keep [8,9] rfl rfl)⟩
 rintro x s' ⟨rfl,k,rfl,hsub⟩
 refine Goes.sub hsub ?_
 refine sh fol [(2,.i k),(3,.i e),(4,.bool true)] ?_
 refine Goes.ret ?_
 obtain rfl:=si h
 exact(gw2 [.i k,.i e,.bool true] (FzW.tuple (qc.cons (Ua tI) (qc.cons (Ua tI) (qc.cons (Ua tB) qc.nil)))))
def yg (N:Nat):Nat->(List Int)->Str->Option ((List Int)×Str)
 |0,_,_=>none
 |K+1,f,a=>
  if(a.length:Int)>9 then
  (cut a (w64 ((a.length:Int)-9)) (a.length:Int)).bind fun b=>
  (yX N b).bind fun c=>
  (app 8 f [c]).bind fun d=>
  (cut a 0 (w64 ((a.length:Int)-9))).bind fun e=>
  yg N K d e
  else
  some (f,a)
def xQ (N:Nat) (a:Str):Option qB:=
 (if(a.length:Int)>0 then
 (idx a 0).bind fun h=>
 some (decide ((h.toNat:Int)=45))
 else
 some false:Option Bool).bind fun g=>
 ((if g=true then
 (cut a 1 (a.length:Int)).bind fun i=>
 some i
 else
 some a:Option Str)).bind fun j=>
 (yg N N ([]:List Int) j).bind fun(b,c)=>
 (yX N c).bind fun d=>
 (app 8 b [d]).bind fun e=>
 (zn N g e).bind fun f=>
 some f
theorem qbV (N:Nat) (k:Str) {res:qB} (h:xQ N k=some res):qb ZT (.fn 170) [.str k] [] (.agg (kAP res.neg res.w)) []:=by
 unfold xQ at h
 refine Ub Tryz.func170 rfl rfl (m:=40) rfl (rs:=[.cell 2 124]) rfl (l:=(kAS k)) rfl ?_
 refine sg fol (kA1 k (kU [])) (kL []) ?_
 refine sq ?_
 obtain⟨e,b,h⟩:=bnd h
 refine Goes.cut (s':=(ofG 40 (kP k e []),(kL []))) ?_ ?_
 ·rcases wyD b with⟨H,b⟩|⟨H,b⟩
  ·obtain⟨J,B,b⟩:=bnd b
   obtain rfl:=si b
   exact tr fol [3,5] (kP k (decide ((J.toNat:Int)=45)) []) (ac (gw H) (ac (hs (.done (.opt (yl ZT 9 (.str k) (.i 0))) (.int .u8 (J.toNat:Int))) (qar st9 B)) az))
  obtain rfl:=si b
  exact tr fol [3] (kA1 k (kU [(3,.bool false)])) (ac (gw H) az)
 refine sq ?_
 refine sh fol (kP k e (kA5 e)) ?_
 obtain⟨L,g6,h⟩:=bnd h
 refine Goes.imp (Q:=fun x s'=>(x= .normal/\ ∃C,C=L/\Sub s' (ofG 40 (kP C e []),(kL [])))) ?_ ?_
 ·refine ihB g6 (fun O g6=>?_) (fun O g6=>?_)
  ·obtain⟨K,D,g6⟩:=bnd g6
   refine gr fol [1] (kP K e []) (ac (hs (.done (.opt (qU ZT 9 (.str k) (some (.i 1)) none none)) (.str K)) (z8 st9 (some 1) none D)) az) ?_
   obtain rfl:=si g6
   exact⟨rfl,_,rfl,(Sub.refl _)⟩
  refine Goes.skip ?_
  obtain rfl:=si g6
  exact⟨rfl,_,rfl,(Sub.keep [0,2,3] rfl rfl)⟩
 rintro x s' ⟨rfl,C,rfl,hsub⟩
 refine Goes.sub hsub ?_
 refine sh fol (kP C e [(4,.nilslice)]) ?_
 refine sq (Goes.block ?_)
 obtain⟨F,g13,h⟩:=bnd h
 refine Goes.imp (Q:=fun x s'=>(x= .exit 0/\ ∃f n,(f,n)=F/\Sub s' (ofG 40 (kP n e [(4,.gslice 1 f.length 1)]),(kL (kB f []))))) ?_ ?_
 ·refine Goes.sub (s':=(ofG 40 (kP C e [(4,.gslice 1 ([]:List Int).length 1)]),(kL kAo))) (Sub.norm [] [some 0,none] rfl rfl (.keep (.same nS) (.kp (.keep (.same nB) (.keep .nil .nil)))) (.kb rfl (.same sn) (.fresh .nil))) ?_
  refine Uc (fun M s=> ∃(p:List Int) (a:Str),s=(ofG 40 (kP a e [(4,.gslice 1 p.length 1)]),(kL (kB p [])))/\yg N M p a=some F) ?_ (m:=N) ⟨_,_,rfl,g13⟩
  rintro M s ⟨p,a,rfl,g13⟩
  cases M with
  |zero=>simp only[yg]at g13;cases g13
  |succ M=>
   rw[yg]at g13
   refine sq ?_
   refine sh fol (kP a e [(4,.gslice 1 p.length 1),(18,.bool (decide ((a.length:Int)>9)))]) ?_
   refine ihD g13 (fun I g13=>?_) (fun I g13=>?_)
   ·refine Goes.skip ?_
    refine Goes.block ?_
    obtain⟨G,q,g13⟩:=bnd g13
    obtain⟨o,r,g13⟩:=bnd g13
    obtain⟨g,t,g13⟩:=bnd g13
    refine sq (gq fol [5,6,8] (kP a e [(4,.gslice 3 g.length 1)]) (kL (kAp o (kB g []))) (ac (hs (.done (.opt (qU ZT 9 (.str a) (some (.i (w64 ((a.length:Int)-9)))) none none)) (.str G)) (z8 st9 (some (w64 ((a.length:Int)-9))) none q)) (ac (cv (qaV N G r)) (ac (hs (.run [1,2] (xJ ZT [75,75] (.gslice 1 p.length 1) (.slice 2 0 1 1 1)) (kL (kB p [.cells [.i o]])) (.gslice 3 g.length 1) (kL (kAp o (kB g []))) true) (qck jR (E:=encI) rfl (qg8 (E:=encI) (ys:=[o]) rfl rfl rfl rfl) (qib (E:=encI) (l:=p) rfl rfl rfl t rfl))) az))) ?_)
    obtain⟨u,v,g13⟩:=bnd g13
    refine gr fol [4] (kP u e [(4,.gslice 3 g.length 1)]) (ac (hs (.done (.opt (qU ZT 9 (.str a) none (some (.i (w64 ((a.length:Int)-9)))) none)) (.str u)) (z8 st9 none (some (w64 ((a.length:Int)-9))) v)) az) ?_
    exact⟨M,(ofG 40 (kP u e [(4,.gslice 1 g.length 1)]),(kL (kB g []))),Nat.lt_succ_self _,(Sub.norm [] [some 0,some 3] rfl rfl (.keep (.same nS) (.kp (.keep (.same nB) (.keep (.gslice rfl) .nil)))) (.kb rfl (.same sn) (.ks .nil))),_,_,rfl,g13⟩
   refine Goes.exit ?_
   obtain rfl:=si g13
   exact⟨rfl,_,_,rfl,(Sub.keep [0,2,3,4] rfl rfl)⟩
 rintro x s' ⟨rfl,f,n,rfl,hsub⟩
 try dsimp only at h
 refine Goes.sub hsub ?_
 obtain⟨j,y,h⟩:=bnd h
 obtain⟨d,z,h⟩:=bnd h
 obtain⟨c,A,h⟩:=bnd h
 refine sq (gq fol [3,5,6] (kU []) (kAI c.neg c.w (kAp j (kAN d))) (ac (cv (qaV N n y)) (ac (hs (.run [1,2] (xJ ZT [75,75] (.gslice 1 f.length 1) (.slice 2 0 1 1 1)) (kL (kB f [.cells [.i j]])) (.gslice 3 d.length 1) (kL (kAp j (kB d []))) true) (qck jR (E:=encI) rfl (qg8 (E:=encI) (ys:=[j]) rfl rfl rfl rfl) (qib (E:=encI) (l:=f) rfl rfl rfl z rfl))) (ac (hs (.callF 173 [.bool e,.gslice 3 d.length 1] (kL (kAp j (kB d []))) [3] (kAP e d) (.agg (kAP c.neg c.w))) (qas (FzL.cons (Ur tB) (FzL.cons (Fz.gs (E:=encI) rfl rfl (nl rfl)) FzL.nil)) (zI N e d A) (Still.agg (AllST.cons tB (AllST.cons (qy encI _ (nl rfl)) AllST.nil))))) az))) ?_)
 refine Goes.sub (show Sub (ofG 40 (kU []),(kAI c.neg c.w (kAp j (kAN d)))) (ofG 40 (kU []),(kAI c.neg c.w []))from(Sub.norm [] [some 0] rfl rfl (.kp .nil) (.kb rfl (.same sn) .nil))) ?_
 refine Goes.ret ?_
 obtain rfl:=si h
 exact(gw2 [.agg (kAP c.neg c.w)] (FzW.agg (qc.cons (Ua tB) (qc.cons (Ua (qy encI _ (nl rfl))) qc.nil))))
def vP (N:Nat) (a:Str):Option (qB×qB):=
 (vM N a).bind fun b=>
 if b=(a.length:Int)then
 (xQ N a).bind fun c=>
 (vS N 1).bind fun d=>
 some (c,d)
 else
 (cut a 0 b).bind fun e=>
 (xQ N e).bind fun f=>
 (cut a (w64 (b+1)) (a.length:Int)).bind fun g=>
 (xQ N g).bind fun h=>
 some (f,h)
theorem qaR (N:Nat) (a:Str) {res:qB×qB} (h:vP N a=some res):qb ZT (.fn 94) [.str a] [] (.tuple (kAV res.1.neg res.1.w res.2.neg res.2.w)) []:=by
 unfold vP at h
 refine Ub Tryz.func94 rfl rfl (m:=25) rfl (rs:=[.cell 2 124,.cell 3 124]) rfl (l:=(kAS a)) rfl ?_
 refine sg fol (kA1 a (kU (kAa []))) (kL (kL [])) ?_
 refine sh fol (kU (kAa [(4,.str a)])) ?_
 obtain⟨b,c,h⟩:=bnd h
 refine sq (gr fol [1] (kU (kAa ((4,.str a)::(kAt b)))) (ac (cv (yI N a c)) az) ?_)
 refine sq ?_
 refine sh fol (kU (kAa ((4,.str a)::(5,.i b)::(kA2 (decide (b=(a.length:Int))))))) ?_
 refine ihD h (fun t h=>?_) (fun t h=>?_)
 ·obtain⟨n,d,h⟩:=bnd h
  obtain⟨o,e,h⟩:=bnd h
  refine sq (gq fol [1,2] (kU (kAa [])) (kK n.neg n.w o.neg o.w []) (ac (cv (qbV N a d)) (ac (cv (qaO N 1 e)) az)) ?_)
  refine Goes.ret ?_
  obtain rfl:=si h
  exact(gw2 (kAV n.neg n.w o.neg o.w) (FzW.tuple (qc.cons (FzW.agg (qc.cons (Ua tB) (qc.cons (Ua (qy encI _ (nl rfl))) qc.nil))) (qc.cons (FzW.agg (qc.cons (Ua tB) (qc.cons (Ua (qy encI _ (nl rfl))) qc.nil))) qc.nil))))
 refine Goes.skip ?_
 obtain⟨r,f,h⟩:=bnd h
 obtain⟨p,g,h⟩:=bnd h
 obtain⟨s,j,h⟩:=bnd h
 obtain⟨q,k,h⟩:=bnd h
 refine sq (gq fol [2,3,7,8] (kU (kAa [])) (kK p.neg p.w q.neg q.w []) (ac (hs (.done (.opt (qU ZT 9 (.str a) none (some (.i b)) none)) (.str r)) (z8 st9 none (some b) f)) (ac (cv (qbV N r g)) (ac (hs (.done (.opt (qU ZT 9 (.str a) (some (.i (w64 (b+1)))) none none)) (.str s)) (z8 st9 (some (w64 (b+1))) none j)) (ac (cv (qbV N s k)) az)))) ?_)
 refine Goes.ret ?_
 obtain rfl:=si h
 exact(gw2 (kAV p.neg p.w q.neg q.w) (FzW.tuple (qc.cons (FzW.agg (qc.cons (Ua tB) (qc.cons (Ua (qy encI _ (nl rfl))) qc.nil))) (qc.cons (FzW.agg (qc.cons (Ua tB) (qc.cons (Ua (qy encI _ (nl rfl))) qc.nil))) qc.nil))))
def xO (a:List Int) (i:Int):Option Int:=
 if i<(a.length:Int)then
 (idx a i).bind fun b=>
 some b
 else
 some 0
theorem qb0 (a:List Int) (i:Int) {res:Int} (h:xO a i=some res):qb ZT (.fn 234) [vl encI a,.i i] [] (.i res) []:=by
 unfold xO at h
 refine Ub Tryz.func234 rfl rfl (m:=13) rfl (rs:=[.tmp 4]) rfl (l:=(kAU a i [])) rfl ?_
 refine sh fol (kAU a i []) ?_
 refine sq ?_
 refine sh fol (kAU a i [(8,.bool (decide (i<(a.length:Int))))]) ?_
 refine ihD h (fun d h=>?_) (fun d h=>?_)
 ·obtain⟨c,b,h⟩:=bnd h
  refine sq (gr fol [2,3] [(4,.i c)] (ac (iv jR encI b) (ac (lv 0 ce3 encI b rfl) az)) ?_)
  refine Goes.ret ?_
  obtain rfl:=si h
  exact(gw2 [.i c] (Ua tI))
 refine Goes.skip ?_
 refine sh fol [(4,.i 0)] ?_
 refine Goes.ret ?_
 obtain rfl:=si h
 exact(gw2 [.i 0] (Ua tI))
def zA (a:List Int) (b:List Int):Nat->(List Int)->Int->Int->Option (List Int)
 |0,_,_,_=>none
 |K+1,h,f,c=>
  (if c<(a.length:Int)then
  some true
  else
  if c<(b.length:Int)then
  some true
  else
  some (decide (f>0)):Option Bool).bind fun i=>
  if i=true then
  (xO a c).bind fun d=>
  (xO b c).bind fun e=>
  (app 8 h [(w64 ((w64 (d+e))+f)).tmod 1000000000]).bind fun g=>
  zA a b K g (w64 ((w64 ((w64 (d+e))+f)).tdiv 1000000000)) (w64 (c+1))
  else
  some h
def yn (N:Nat) (a:List Int) (b:List Int):Option (List Int):=
 (zA a b N ([]:List Int) 0 0).bind fun c=>
 some c
theorem qb6 (N:Nat) (a:List Int) (b:List Int) {res:List Int} (h:yn N a b=some res):qb ZT (.fn 174) (kAr a b) [] (vl encI res) []:=by
 unfold yn at h
 refine Ub Tryz.func174 rfl rfl (m:=42) rfl (rs:=[.tmp 4]) rfl (l:=(kG a b [])) rfl ?_
 refine sh fol (kG a b []) ?_
 refine sh fol (kG a b [(5,.nilslice)]) ?_
 refine sh fol (kG a b [(5,.nilslice),(6,.i 0)]) ?_
 refine sq ?_
 refine sh fol (kG a b [(5,.nilslice),(6,.i 0),(7,.i 0)]) ?_
 refine Goes.block ?_
 obtain⟨v,g5,h⟩:=bnd h
 refine Goes.imp (Q:=fun x s'=>(x= .exit 0/\ ∃q,q=v/\Sub s' (ofG 42 (kAv q []),(kB q [])))) ?_ ?_
 ·refine Goes.sub (s':=(ofG 42 (kG a b [(5,.gslice 0 ([]:List Int).length 1),(6,.i 0),(7,.i 0)]),kAo)) (Sub.norm [] [none] rfl rfl (.keep (.same (qf encI _)) (.keep (.same (qf encI _)) (.keep .nil (.keep (.same nI) (.keep (.same nI) .nil))))) (.fresh .nil)) ?_
  refine Uc (fun M s=> ∃(k:List Int) (f:Int) (j:Int),s=(ofG 42 (kG a b (kAH k f j [])),(kB k []))/\zA a b M k f j=some v) ?_ (m:=N) ⟨_,_,_,rfl,g5⟩
  rintro M s ⟨k,f,j,rfl,g5⟩
  cases M with
  |zero=>simp only[zA]at g5;cases g5
  |succ M=>
   rw[zA]at g5
   refine sq ?_
   refine sq ?_
   obtain⟨w,c,g5⟩:=bnd g5
   refine Goes.cut (s':=(ofG 42 (kG a b (kAH k f j [(22,.bool w)])),(kB k []))) ?_ ?_
   ·rcases wyD c with⟨r,c⟩|⟨r,c⟩
    ·obtain rfl:=si c
     exact tr fol [4] (kG a b (kAH k f j [(22,.bool true)])) (ac (gw r) az)
    rcases wyD c with⟨t,c⟩|⟨t,c⟩
    ·obtain rfl:=si c
     exact tr fol [4,10] (kG a b (kAH k f j [(22,.bool true)])) (ac (gw r) (ac (gw t) az))
    obtain rfl:=si c
    exact tr fol [4,10] (kG a b (kAH k f j [(22,.bool (decide (f>0)))])) (ac (gw r) (ac (gw t) az))
   refine ihB g5 (fun u g5=>?_) (fun u g5=>?_)
   ·refine Goes.skip ?_
    refine sq (Goes.block ?_)
    obtain⟨d,n,g5⟩:=bnd g5
    obtain⟨e,o,g5⟩:=bnd g5
    refine sq (gr fol [2,5] (kG a b (kAv k (kAR j (w64 ((w64 (d+e))+f))))) (ac (cv (qb0 a j n)) (ac (cv (qb0 b j o)) az)) ?_)
    obtain⟨g,p,g5⟩:=bnd g5
    refine sq (gq fol [4] (kG a b ((5,.gslice 2 g.length 1)::(kAR j (w64 ((w64 (d+e))+f))))) (kAp ((w64 ((w64 (d+e))+f)).tmod 1000000000) (kB g [])) (ac (hs (.run [0,1] (xJ ZT [75,75] (.gslice 0 k.length 1) (.slice 1 0 1 1 1)) (kB k [.cells [.i ((w64 ((w64 (d+e))+f)).tmod 1000000000)]]) (.gslice 2 g.length 1) (kAp ((w64 ((w64 (d+e))+f)).tmod 1000000000) (kB g [])) true) (qck jR (E:=encI) rfl (qg8 (E:=encI) (ys:=[(w64 ((w64 (d+e))+f)).tmod 1000000000]) rfl rfl rfl rfl) (qib (E:=encI) (l:=k) rfl rfl rfl p rfl))) az) ?_)
    refine gh fol (kG a b ((5,.gslice 2 g.length 1)::(kAl (w64 ((w64 ((w64 (d+e))+f)).tdiv 1000000000)) j))) ?_
    refine gh fol (kG a b ((5,.gslice 2 g.length 1)::(kAl (w64 ((w64 ((w64 (d+e))+f)).tdiv 1000000000)) (w64 (j+1))))) ?_
    exact⟨M,(ofG 42 (kG a b (kAH g (w64 ((w64 ((w64 (d+e))+f)).tdiv 1000000000)) (w64 (j+1)) [])),(kB g [])),Nat.lt_succ_self _,(Sub.norm [] [some 2] rfl rfl (.keep (.same (qf encI _)) (.keep (.same (qf encI _)) (.keep (.gslice rfl) (.keep (.same nI) (.keep (.same nI) .nil))))) (.ks .nil)),_,_,_,rfl,g5⟩
   refine Goes.exit ?_
   obtain rfl:=si g5
   exact⟨rfl,_,rfl,(Sub.keep [5] rfl rfl)⟩
 rintro x s' ⟨rfl,q,rfl,hsub⟩
 refine Goes.sub hsub ?_
 refine sh fol [(4,.gslice 0 q.length 1)] ?_
 refine Goes.ret ?_
 obtain rfl:=si h
 exact(gw2 [.gslice 0 q.length 1] (FzW.fz (Fz.gs (E:=encI) rfl rfl (nl rfl))))
def ku (a:List Int) (b:List Int):Nat->(List Int)->Int->Int->Option (List Int)
 |0,_,_,_=>none
 |K+1,i,d,c=>
  if c<(a.length:Int)then
  (idx a c).bind fun e=>
  (xO b c).bind fun f=>
  ((if(w64 ((w64 (e-f))-d))<0 then
  some (1,w64 ((w64 ((w64 (e-f))-d))+1000000000))
  else
  some (0,w64 ((w64 (e-f))-d)):Option (Int×Int))).bind fun(j,g)=>
  (app 8 i [g]).bind fun h=>
  ku a b K h j (w64 (c+1))
  else
  some i
def ym (N:Nat) (a:List Int) (b:List Int):Option (List Int):=
 (ku a b N ([]:List Int) 0 0).bind fun d=>
 (vY N d).bind fun c=>
 some c
theorem qcd (N:Nat) (a:List Int) (b:List Int) {res:List Int} (h:ym N a b=some res):qb ZT (.fn 176) (kAr a b) [] (vl encI res) []:=by
 unfold ym at h
 refine Ub Tryz.func176 rfl rfl (m:=35) rfl (rs:=[.tmp 4]) rfl (l:=(kG a b [])) rfl ?_
 refine sh fol (kG a b []) ?_
 refine sh fol (kG a b [(5,.nilslice)]) ?_
 refine sh fol (kG a b [(5,.nilslice),(6,.i 0)]) ?_
 refine sq ?_
 refine sh fol (kG a b [(5,.nilslice),(6,.i 0),(7,.i 0)]) ?_
 refine Goes.block ?_
 obtain⟨y,g5,h⟩:=bnd h
 refine Goes.imp (Q:=fun x s'=>(x= .exit 0/\ ∃j,j=y/\Sub s' (ofG 35 (kAv j []),(kB j [])))) ?_ ?_
 ·refine Goes.sub (s':=(ofG 35 (kG a b [(5,.gslice 0 ([]:List Int).length 1),(6,.i 0),(7,.i 0)]),kAo)) (Sub.norm [] [none] rfl rfl (.keep (.same (qf encI _)) (.keep (.same (qf encI _)) (.keep .nil (.keep (.same nI) (.keep (.same nI) .nil))))) (.fresh .nil)) ?_
  refine Uc (fun M s=> ∃(c:List Int) (k:Int) (d:Int),s=(ofG 35 (kG a b (kAH c k d [])),(kB c []))/\ku a b M c k d=some y) ?_ (m:=N) ⟨_,_,_,rfl,g5⟩
  rintro M s ⟨c,k,d,rfl,g5⟩
  cases M with
  |zero=>simp only[ku]at g5;cases g5
  |succ M=>
   rw[ku]at g5
   refine sq ?_
   refine sh fol (kG a b (kAH c k d (kA2 (decide (d<(a.length:Int)))))) ?_
   refine ihD g5 (fun z g5=>?_) (fun z g5=>?_)
   ·refine Goes.skip ?_
    refine sq (Goes.block ?_)
    obtain⟨q,n,g5⟩:=bnd g5
    obtain⟨r,u,g5⟩:=bnd g5
    refine sq (gr fol [2,3,6] (kG a b (kAv c (kAR d (w64 ((w64 (q-r))-k))))) (ac (iv jR encI n) (ac (lv 0 ce3 encI n rfl) (ac (cv (qb0 b d u)) az))) ?_)
    refine sh fol (kG a b (kAv c ((6,.i 0)::(kAR d (w64 ((w64 (q-r))-k)))))) ?_
    refine sq ?_
    refine sh fol (kG a b (kAv c [(6,.i 0),(7,.i d),(8,.i (w64 ((w64 (q-r))-k))),(26,.bool (decide ((w64 ((w64 (q-r))-k))<0)))])) ?_
    obtain⟨v,g11,g5⟩:=bnd g5
    refine Goes.imp (Q:=fun x s'=>(x= .normal/\ ∃t e,(t,e)=v/\Sub s' (ofG 35 (kG a b (kAH c t d [(8,.i e)])),(kB c [])))) ?_ ?_
    ·refine ihD g11 (fun w g11=>?_) (fun w g11=>?_)
     ·refine sh fol (kG a b (kAv c (kAR d (w64 ((w64 ((w64 (q-r))-k))+1000000000))))) ?_
      refine gh fol (kG a b (kAv c ((6,.i 1)::(kAR d (w64 ((w64 ((w64 (q-r))-k))+1000000000)))))) ?_
      obtain rfl:=si g11
      exact⟨rfl,_,_,rfl,(Sub.refl _)⟩
     refine Goes.skip ?_
     obtain rfl:=si g11
     exact⟨rfl,_,_,rfl,(Sub.keep [0,1,5,6,7,8] rfl rfl)⟩
    rintro x s' ⟨rfl,t,e,rfl,hsub⟩
    try dsimp only at g5
    refine Goes.sub hsub ?_
    obtain⟨f,o,g5⟩:=bnd g5
    refine gq fol [3] (kG a b ((5,.gslice 2 f.length 1)::(kAl t d))) (kAp e (kB f [])) (ac (hs (.run [0,1] (xJ ZT [75,75] (.gslice 0 c.length 1) (.slice 1 0 1 1 1)) (kB c [.cells [.i e]]) (.gslice 2 f.length 1) (kAp e (kB f [])) true) (qck jR (E:=encI) rfl (qg8 (E:=encI) (ys:=[e]) rfl rfl rfl rfl) (qib (E:=encI) (l:=c) rfl rfl rfl o rfl))) az) ?_
    refine gh fol (kG a b ((5,.gslice 2 f.length 1)::(kAl t (w64 (d+1))))) ?_
    exact⟨M,(ofG 35 (kG a b (kAH f t (w64 (d+1)) [])),(kB f [])),Nat.lt_succ_self _,(Sub.norm [] [some 2] rfl rfl (.keep (.same (qf encI _)) (.keep (.same (qf encI _)) (.keep (.gslice rfl) (.keep (.same nI) (.keep (.same nI) .nil))))) (.ks .nil)),_,_,_,rfl,g5⟩
   refine Goes.exit ?_
   obtain rfl:=si g5
   exact⟨rfl,_,rfl,(Sub.keep [5] rfl rfl)⟩
 rintro x s' ⟨rfl,j,rfl,hsub⟩
 refine Goes.sub hsub ?_
 obtain⟨g,p,h⟩:=bnd h
 refine sq (gq fol [1] [(4,vl encI g)] (kAN j) (ac (hs (.callF 232 [.gslice 0 j.length 1] (kB j []) [0] [vl encI j] (vl encI g)) (qas (FzL.cons (Fz.gs (E:=encI) rfl rfl (nl rfl)) FzL.nil) (yB N j p) (qy encI _ (nl rfl)))) az) ?_)
 refine Goes.sub (show Sub (ofG 35 [(4,vl encI g)],(kAN j)) (ofG 35 [(4,vl encI g)],[])from(Sub.norm [] [] rfl rfl (.keep (.same (qf encI _)) .nil) .nil)) ?_
 refine Goes.ret ?_
 obtain rfl:=si h
 exact(gw2 [vl encI g] (Ua (qy encI _ (nl rfl))))
def qbT (N:Nat) (a:qB) (b:qB):Option qB:=
 if(a.neg==b.neg)=true then
 (yn N a.w b.w).bind fun c=>
 (zn N a.neg c).bind fun d=>
 some d
 else
 (jw N a.w b.w).bind fun e=>
 if e>=0 then
 (ym N a.w b.w).bind fun f=>
 (zn N a.neg f).bind fun g=>
 some g
 else
 (ym N b.w a.w).bind fun h=>
 (zn N b.neg h).bind fun i=>
 some i
theorem qh9 (N:Nat) (a:qB) (b:qB) {res:qB} (h:qbT N a b=some res):qb ZT (.fn 96) (kAV a.neg a.w b.neg b.w) [] (.agg (kAP res.neg res.w)) []:=by
 unfold qbT at h
 refine Ub Tryz.func96 rfl rfl (m:=40) rfl (rs:=[.cell 4 124]) rfl (l:=(kAz a.neg a.w b.neg b.w)) rfl ?_
 refine sg fol (kD []) (kK a.neg a.w b.neg b.w (kL [])) ?_
 refine sq ?_
 refine sh fol (kD [(9,.bool (a.neg==b.neg))]) ?_
 refine ihB h (fun p h=>?_) (fun p h=>?_)
 ·obtain⟨q,c,h⟩:=bnd h
  obtain⟨k,d,h⟩:=bnd h
  refine sq (gq fol [6,7] (kAG []) (kK a.neg a.w b.neg b.w (kAI k.neg k.w [])) (ac (cv (qb6 N a.w b.w c)) (ac (cv (zI N a.neg q d)) az)) ?_)
  refine Goes.ret ?_
  obtain rfl:=si h
  exact(gw2 [.agg (kAP k.neg k.w)] (FzW.agg (qc.cons (Ua tB) (qc.cons (Ua (qy encI _ (nl rfl))) qc.nil))))
 refine Goes.skip ?_
 refine sq ?_
 obtain⟨r,e,h⟩:=bnd h
 refine sq (gr fol [4] (kD [(23,.bool (decide (r>=0)))]) (ac (cv (qa5 N a.w b.w e)) az) ?_)
 refine ihD h (fun s h=>?_) (fun s h=>?_)
 ·obtain⟨t,f,h⟩:=bnd h
  obtain⟨n,g,h⟩:=bnd h
  refine sq (gq fol [6,7] (kAG []) (kK a.neg a.w b.neg b.w (kAI n.neg n.w [])) (ac (cv (qcd N a.w b.w f)) (ac (cv (zI N a.neg t g)) az)) ?_)
  refine Goes.ret ?_
  obtain rfl:=si h
  exact(gw2 [.agg (kAP n.neg n.w)] (FzW.agg (qc.cons (Ua tB) (qc.cons (Ua (qy encI _ (nl rfl))) qc.nil))))
 refine Goes.skip ?_
 obtain⟨u,i,h⟩:=bnd h
 obtain⟨o,j,h⟩:=bnd h
 refine sq (gq fol [6,7] (kAG []) (kK a.neg a.w b.neg b.w (kAI o.neg o.w [])) (ac (cv (qcd N b.w a.w i)) (ac (cv (zI N b.neg u j)) az)) ?_)
 refine Goes.ret ?_
 obtain rfl:=si h
 exact(gw2 [.agg (kAP o.neg o.w)] (FzW.agg (qc.cons (Ua tB) (qc.cons (Ua (qy encI _ (nl rfl))) qc.nil))))
def xU (N:Nat) (a:qB) (b:qB):Option qB:=
 (vF N a.w b.w).bind fun c=>
 (zn N (!(a.neg==b.neg)) c).bind fun d=>
 some d
theorem qca (N:Nat) (a:qB) (b:qB) {res:qB} (h:xU N a b=some res):qb ZT (.fn 97) (kAV a.neg a.w b.neg b.w) [] (.agg (kAP res.neg res.w)) []:=by
 unfold xU at h
 refine Ub Tryz.func97 rfl rfl (m:=16) rfl (rs:=[.cell 4 124]) rfl (l:=(kAz a.neg a.w b.neg b.w)) rfl ?_
 refine sg fol (kD []) (kK a.neg a.w b.neg b.w (kL [])) ?_
 obtain⟨f,c,h⟩:=bnd h
 obtain⟨e,d,h⟩:=bnd h
 refine sq (gq fol [9,10] (kAG []) (kK a.neg a.w b.neg b.w (kAI e.neg e.w [])) (ac (cv (qaE N a.w b.w c)) (ac (cv (zI N (!(a.neg==b.neg)) f d)) az)) ?_)
 refine Goes.ret ?_
 obtain rfl:=si h
 exact(gw2 [.agg (kAP e.neg e.w)] (FzW.agg (qc.cons (Ua tB) (qc.cons (Ua (qy encI _ (nl rfl))) qc.nil))))
def qaL (N:Nat) (a:Str) (b:Str):Option Str:=
 (yA N a).bind fun c=>
 (yA N b).bind fun d=>
 (if c.2.2=true then
 some d.2.2
 else
 some false:Option Bool).bind fun l=>
 if l=true then
 (qcD N (w64 ((w64 (c.1*d.2.1))+(w64 (d.1*c.2.1)))) (w64 (c.2.1*d.2.1))).bind fun m=>
 some m
 else
 (vP N a).bind fun e=>
 (vP N b).bind fun f=>
 (xU N e.1 f.2).bind fun g=>
 (xU N f.1 e.2).bind fun h=>
 (qbT N g h).bind fun i=>
 (xU N e.2 f.2).bind fun j=>
 (yQ N i j).bind fun k=>
 some k
theorem qaS (N:Nat) (a:Str) (b:Str) {res:Str} (h:qaL N a b=some res):qb ZT (.fn 25) [.str a,.str b] [] (.str res) []:=by
 unfold qaL at h
 refine Ub Tryz.func25 rfl rfl (m:=63) rfl (rs:=[.tmp 4]) rfl (l:=(kQ a b [])) rfl ?_
 refine sh fol (kQ a b []) ?_
 obtain⟨d,q,h⟩:=bnd h
 refine sq (gr fol [1] (kQ a b [(5,.i d.1),(6,.i d.2.1),(7,.bool d.2.2)]) (ac (cv (qea N a q)) az) ?_)
 obtain⟨e,r,h⟩:=bnd h
 refine sq (gr fol [1] (kQ a b [(5,.i d.1),(6,.i d.2.1),(7,.bool d.2.2),(8,.i e.1),(9,.i e.2.1),(10,.bool e.2.2)]) (ac (cv (qea N b r)) az) ?_)
 refine sq ?_
 refine sq ?_
 obtain⟨D,c,h⟩:=bnd h
 refine Goes.cut (s':=(ofG 63 (kQ a b [(5,.i d.1),(6,.i d.2.1),(8,.i e.1),(9,.i e.2.1),(30,.bool D)]),[])) ?_ ?_
 ·rcases wyB c with⟨x,c⟩|⟨x,c⟩
  ·obtain rfl:=si c
   exact tr fol [1] (kQ a b [(5,.i d.1),(6,.i d.2.1),(8,.i e.1),(9,.i e.2.1),(30,.bool e.2.2)]) (ac (gw x) az)
  obtain rfl:=si c
  exact tr fol [1] (kQ a b [(5,.i d.1),(6,.i d.2.1),(8,.i e.1),(9,.i e.2.1),(30,.bool false)]) (ac (gw x) az)
 refine ihB h (fun E h=>?_) (fun E h=>?_)
 ·obtain⟨C,s,h⟩:=bnd h
  refine sq (gr fol [10] [(4,.str C)] (ac (cv (qf5 N (w64 ((w64 (d.1*e.2.1))+(w64 (e.1*d.2.1)))) (w64 (d.2.1*e.2.1)) s)) az) ?_)
  refine Goes.ret ?_
  obtain rfl:=si h
  exact(gw2 [.str C] (Ua tS))
 refine Goes.skip ?_
 obtain⟨f,t,h⟩:=bnd h
 refine sq (gq fol [1] [(1,.str b),(11,.ptr 0 0),(12,.ptr 1 0)] (kK f.1.neg f.1.w f.2.neg f.2.w []) (ac (cv (qaR N a t)) az) ?_)
 obtain⟨g,u,h⟩:=bnd h
 refine sq (gq fol [1] [(11,.ptr 0 0),(12,.ptr 1 0),(13,.ptr 2 0),(14,.ptr 3 0)] (kK f.1.neg f.1.w f.2.neg f.2.w (kK g.1.neg g.1.w g.2.neg g.2.w [])) (ac (cv (qaR N b u)) az) ?_)
 obtain⟨y,j,h⟩:=bnd h
 obtain⟨z,k,h⟩:=bnd h
 obtain⟨A,n,h⟩:=bnd h
 obtain⟨B,o,h⟩:=bnd h
 obtain⟨v,p,h⟩:=bnd h
 refine sq (gr fol [2,5,6,9,10] [(4,.str v)] (ac (cv (qca N f.1 g.2 j)) (ac (cv (qca N g.1 f.2 k)) (ac (cv (qh9 N y z n)) (ac (cv (qca N f.2 g.2 o)) (ac (cv (qcn N A B p)) az))))) ?_)
 refine Goes.ret ?_
 obtain rfl:=si h
 exact(gw2 [.str v] (Ua tS))
def qak (N:Nat) (a:Str) (b:Str):Option Str:=
 (yM b).bind fun c=>
 (qaL N a c).bind fun d=>
 some d
theorem qaj (N:Nat) (a:Str) (b:Str) {res:Str} (h:qak N a b=some res):qb ZT (.fn 11) [.str a,.str b] [] (.str res) []:=by
 unfold qak at h
 refine Ub Tryz.func11 rfl rfl (m:=9) rfl (rs:=[.tmp 4]) rfl (l:=(kQ a b [])) rfl ?_
 refine sh fol (kQ a b []) ?_
 obtain⟨f,c,h⟩:=bnd h
 obtain⟨e,d,h⟩:=bnd h
 refine sq (gr fol [2,3] [(4,.str e)] (ac (cv (qan b c)) (ac (cv (qaS N a f d)) az)) ?_)
 refine Goes.ret ?_
 obtain rfl:=si h
 exact(gw2 [.str e] (Ua tS))
def qcT (N:Nat) (a:Str) (b:Str):Option Int:=
 (qak N a b).bind fun c=>
 (xk c).bind fun d=>
 some d
theorem qjf (N:Nat) (a:Str) (b:Str) {res:Int} (h:qcT N a b=some res):qb ZT (.fn 18) [.str a,.str b] [] (.i res) []:=by
 unfold qcT at h
 refine Ub Tryz.func18 rfl rfl (m:=9) rfl (rs:=[.tmp 4]) rfl (l:=(kQ a b [])) rfl ?_
 refine sh fol (kQ a b []) ?_
 obtain⟨f,c,h⟩:=bnd h
 obtain⟨e,d,h⟩:=bnd h
 refine sq (gr fol [2,3] [(4,.i e)] (ac (cv (qaj N a b c)) (ac (cv (qbl f d)) az)) ?_)
 refine Goes.ret ?_
 obtain rfl:=si h
 exact(gw2 [.i e] (Ua tI))
def jB (a:Str):Nat->Int->Option (Unit⊕Bool)
 |0,_=>none
 |K+1,b=>
  if b<(a.length:Int)then
  ((idx a b).bind fun c=>
  if(c.toNat:Int)<48 then
  some true
  else
  some (decide ((c.toNat:Int)>57)):Option Bool).bind fun d=>
  if d=true then
  some (.inr false)
  else
  jB a K (w64 (b+1))
  else
  some (.inl ())
def qa6 (N:Nat) (b:Str):Option Bool:=
 (jB b N 0).bind (fun
 |(.inl ())=>
 some true
 |(.inr a)=>
 some a)
theorem qgd (N:Nat) (b:Str) {res:Bool} (h:qa6 N b=some res):qb ZT (.fn 178) [.str b] [] (.bool res) []:=by
 unfold qa6 at h
 refine Ub Tryz.func178 rfl rfl (m:=20) rfl (rs:=[.tmp 2]) rfl (l:=(kAS b)) rfl ?_
 refine sh fol (kAS b) ?_
 refine sq ?_
 refine sh fol (kA1 b [(3,.i 0)]) ?_
 refine Goes.block ?_
 obtain⟨f,g2,h⟩:=bnd h
 refine Goes.imp (Q:=fun x s'=>(x= .exit 0/\(.inl ())=f/\Sub s' (ofG 20 [],[]))\/(x= .ret/\ ∃j,(.inr j)=f/\jZ ZT [.tmp 2] (.bool j) .ret s')) ?_ ?_
 ·refine Uc (fun M s=> ∃(c:Int),s=(ofG 20 (kAX b c []),[])/\jB b M c=some f) ?_ (m:=N) ⟨_,rfl,g2⟩
  rintro M s ⟨c,rfl,g2⟩
  cases M with
  |zero=>simp only[jB]at g2;cases g2
  |succ M=>
   rw[jB]at g2
   refine sq ?_
   refine sh fol (kAX b c [(7,.bool (decide (c<(b.length:Int))))]) ?_
   refine ihD g2 (fun k g2=>?_) (fun k g2=>?_)
   ·refine Goes.skip ?_
    refine sq (Goes.block ?_)
    refine sq ?_
    obtain⟨n,a,g2⟩:=bnd g2
    refine Goes.cut (s':=(ofG 20 (kAX b c [(19,.bool n)]),[])) ?_ ?_
    ·obtain⟨e,d,a⟩:=bnd a
     rcases wyD a with⟨g,a⟩|⟨g,a⟩
     ·obtain rfl:=si a
      exact tr fol [2,4] (kAX b c [(19,.bool true)]) (ac (hs (.done (.opt (yl ZT 9 (.str b) (.i c))) (.int .u8 (e.toNat:Int))) (qar st9 d)) (ac (gw g) az))
     obtain rfl:=si a
     exact tr fol [2,4,7] (kAX b c [(19,.bool (decide ((e.toNat:Int)>57)))]) (ac (hs (.done (.opt (yl ZT 9 (.str b) (.i c))) (.int .u8 (e.toNat:Int))) (qar st9 d)) (ac (gw g) (ac (hs (.done (.opt (yl ZT 9 (.str b) (.i c))) (.int .u8 (e.toNat:Int))) (qar st9 d)) az)))
    refine ihB g2 (fun o g2=>?_) (fun o g2=>?_)
    ·refine sh fol [(2,.bool false)] ?_
     refine Goes.ret ?_
     obtain rfl:=si g2
     exact Or.inr (⟨rfl,_,rfl,(gw2 [.bool false] (Ua tB))⟩)
    refine Goes.skip ?_
    refine gh fol (kAX b (w64 (c+1)) []) ?_
    exact⟨M,(ofG 20 (kAX b (w64 (c+1)) []),[]),Nat.lt_succ_self _,(Sub.refl _),_,rfl,g2⟩
   refine Goes.exit ?_
   obtain rfl:=si g2
   exact Or.inl (⟨rfl,rfl,(Sub.keep [] rfl rfl)⟩)
 rintro x s' (⟨rfl,rfl,hsub⟩|⟨rfl,p,rfl,hret⟩)
 ·try dsimp only at h
  refine Goes.sub hsub ?_
  refine sh fol [(2,.bool true)] ?_
  refine Goes.ret ?_
  obtain rfl:=si h
  exact(gw2 [.bool true] (Ua tB))
 try dsimp only at h
 obtain rfl:=si h
 exact hret
def ji (N:Nat) (a:Str):Option Bool:=
 (if(a.length:Int)=0 then
 some true
 else
 if(a.length:Int)>1 then
 (idx a 0).bind fun b=>
 some (decide ((b.toNat:Int)=48))
 else
 some false:Option Bool).bind fun c=>
 if c=true then
 some false
 else
 (qa6 N a).bind fun d=>
 some d
theorem jc (N:Nat) (b:Str) {res:Bool} (h:ji N b=some res):qb ZT (.fn 101) [.str b] [] (.bool res) []:=by
 unfold ji at h
 refine Ub Tryz.func101 rfl rfl (m:=18) rfl (rs:=[.tmp 2]) rfl (l:=(kAS b)) rfl ?_
 refine sh fol (kAS b) ?_
 refine sq ?_
 refine sq ?_
 obtain⟨k,a,h⟩:=bnd h
 refine Goes.cut (s':=(ofG 18 (kA1 b [(15,.bool k)]),[])) ?_ ?_
 ·rcases wyD a with⟨e,a⟩|⟨e,a⟩
  ·obtain rfl:=si a
   exact tr fol [3] (kA1 b [(15,.bool true)]) (ac (gw e) az)
  rcases wyD a with⟨f,a⟩|⟨f,a⟩
  ·obtain⟨g,c,a⟩:=bnd a
   obtain rfl:=si a
   exact tr fol [3,7,9] (kA1 b [(15,.bool (decide ((g.toNat:Int)=48)))]) (ac (gw e) (ac (gw f) (ac (hs (.done (.opt (yl ZT 9 (.str b) (.i 0))) (.int .u8 (g.toNat:Int))) (qar st9 c)) az)))
  obtain rfl:=si a
  exact tr fol [3,7] (kA1 b [(15,.bool false)]) (ac (gw e) (ac (gw f) az))
 refine ihB h (fun n h=>?_) (fun n h=>?_)
 ·refine sh fol [(2,.bool false)] ?_
  refine Goes.ret ?_
  obtain rfl:=si h
  exact(gw2 [.bool false] (Ua tB))
 refine Goes.skip ?_
 obtain⟨j,d,h⟩:=bnd h
 refine sq (gr fol [1] [(2,.bool j)] (ac (cv (qgd N b d)) az) ?_)
 refine Goes.ret ?_
 obtain rfl:=si h
 exact(gw2 [.bool j] (Ua tB))
def yY (N:Nat) (a:Str):Option Int:=
 (if(a.length:Int)>0 then
 (idx a 0).bind fun t=>
 some (decide ((t.toNat:Int)=45))
 else
 some false:Option Bool).bind fun u=>
 ((if u=true then
 (cut a 1 (a.length:Int)).bind fun v=>
 some v
 else
 some a:Option Str)).bind fun b=>
 (vM N b).bind fun c=>
 ((cut b 0 c).bind fun f=>
 (ji N f).bind fun g=>
 if(!g)=true then
 some true
 else
 (idx a 0).bind fun h=>
 if(h.toNat:Int)=45 then
 (cut b 0 c).bind fun i=>
 some (i==[48])
 else
 some false:Option Bool).bind fun j=>
 if j=true then
 some 1
 else
 (if c<(b.length:Int)then
 (cut b (w64 (c+1)) (b.length:Int)).bind fun k=>
 (ji N k).bind fun l=>
 if(!l)=true then
 some true
 else
 (cut b (w64 (c+1)) (b.length:Int)).bind fun m=>
 if(m==[48])=true then
 some true
 else
 (cut b (w64 (c+1)) (b.length:Int)).bind fun n=>
 some (n==[49])
 else
 some false:Option Bool).bind fun o=>
 if o=true then
 some 1
 else
 (if c>600 then
 some true
 else
 some (decide ((w64 ((w64 ((b.length:Int)-c))-1))>600)):Option Bool).bind fun p=>
 if p=true then
 some 4
 else
 ((if c<(b.length:Int)then
 (vP N b).bind fun d=>
 (qam N d.1.w d.2.w).bind fun e=>
 (if(!decide ((e.length:Int)=1))=true then
 some true
 else
 (idx e 0).bind fun q=>
 some (!decide (q=1)):Option Bool).bind fun r=>
 if r=true then
 some (.inr 1)
 else
 some (.inl ())
 else
 some (.inl ()):Option (Unit⊕Int))).bind (fun
 |(.inl ())=>
 some 0
 |(.inr s)=>
 some s)
theorem yJ (N:Nat) (a:Str) {res:Int} (h:yY N a=some res):qb ZT (.fn 27) [.str a] [] (.i res) []:=by
 unfold yY at h
 refine Ub Tryz.func27 rfl rfl (m:=96) rfl (rs:=[.tmp 2]) rfl (l:=(kAS a)) rfl ?_
 refine sh fol (kAS a) ?_
 refine sh fol (kA1 a [(3,.str a)]) ?_
 refine sq ?_
 refine sq ?_
 obtain⟨b3,g,h⟩:=bnd h
 refine Goes.cut (s':=(ofG 96 (kA1 a [(3,.str a),(16,.bool b3)]),[])) ?_ ?_
 ·rcases wyD g with⟨Y,g⟩|⟨Y,g⟩
  ·obtain⟨c2,J,g⟩:=bnd g
   obtain rfl:=si g
   exact tr fol [3,5] (kA1 a [(3,.str a),(16,.bool (decide ((c2.toNat:Int)=45)))]) (ac (gw Y) (ac (hs (.done (.opt (yl ZT 9 (.str a) (.i 0))) (.int .u8 (c2.toNat:Int))) (qar st9 J)) az))
  obtain rfl:=si g
  exact tr fol [3] (kA1 a [(3,.str a),(16,.bool false)]) (ac (gw Y) az)
 obtain⟨r6,g6,h⟩:=bnd h
 refine Goes.imp (Q:=fun x s'=>(x= .normal/\ ∃e,e=r6/\Sub s' (ofG 96 (kA1 a [(3,.str e)]),[]))) ?_ ?_
 ·refine ihB g6 (fun c7 g6=>?_) (fun c7 g6=>?_)
  ·obtain⟨s8,K,g6⟩:=bnd g6
   refine gr fol [1] (kA1 a [(3,.str s8)]) (ac (hs (.done (.opt (qU ZT 9 (.str a) (some (.i 1)) none none)) (.str s8)) (z8 st9 (some 1) none K)) az) ?_
   obtain rfl:=si g6
   exact⟨rfl,_,rfl,(Sub.refl _)⟩
  refine Goes.skip ?_
  obtain rfl:=si g6
  exact⟨rfl,_,rfl,(Sub.keep [0,3] rfl rfl)⟩
 rintro x s' ⟨rfl,e,rfl,hsub⟩
 refine Goes.sub hsub ?_
 obtain⟨d,L,h⟩:=bnd h
 refine sq (gr fol [1] (kA1 a (kAW e d [])) (ac (cv (yI N e L)) az) ?_)
 refine sq ?_
 refine sq ?_
 obtain⟨Z,c,h⟩:=bnd h
 refine Goes.cut (s':=(ofG 96 (kAW e d [(36,.bool Z)]),[])) ?_ ?_
 ·obtain⟨r,n,c⟩:=bnd c
  obtain⟨r11,o,c⟩:=bnd c
  rcases wyB c with⟨z,c⟩|⟨z,c⟩
  ·obtain rfl:=si c
   exact tr fol [2,3,5] (kAW e d [(36,.bool true)]) (ac (hs (.done (.opt (qU ZT 9 (.str e) none (some (.i d)) none)) (.str r)) (z8 st9 none (some d) n)) (ac (cv (jc N r o)) (ac (gw z) az)))
  obtain⟨M,t,c⟩:=bnd c
  rcases wyD c with⟨B,c⟩|⟨B,c⟩
  ·obtain⟨O,C,c⟩:=bnd c
   obtain rfl:=si c
   exact tr fol [2,3,5,7,9,12] (kAW e d [(36,.bool (O==[48]))]) (ac (hs (.done (.opt (qU ZT 9 (.str e) none (some (.i d)) none)) (.str r)) (z8 st9 none (some d) n)) (ac (cv (jc N r o)) (ac (gw z) (ac (hs (.done (.opt (yl ZT 22 (.str a) (.i 0))) (.int .u8 (M.toNat:Int))) (qar qkQ t)) (ac (gw B) (ac (hs (.done (.opt (qU ZT 9 (.str e) none (some (.i d)) none)) (.str O)) (z8 st9 none (some d) C)) az))))))
  obtain rfl:=si c
  exact tr fol [2,3,5,7,9] (kAW e d [(36,.bool false)]) (ac (hs (.done (.opt (qU ZT 9 (.str e) none (some (.i d)) none)) (.str r)) (z8 st9 none (some d) n)) (ac (cv (jc N r o)) (ac (gw z) (ac (hs (.done (.opt (yl ZT 22 (.str a) (.i 0))) (.int .u8 (M.toNat:Int))) (qar qkQ t)) (ac (gw B) az)))))
 refine ihB h (fun a0 h=>?_) (fun a0 h=>?_)
 ·refine sh fol [(2,.i 1)] ?_
  refine Goes.ret ?_
  obtain rfl:=si h
  exact(gw2 [.i 1] (Ua tI))
 refine Goes.skip ?_
 refine sq ?_
 refine sq ?_
 obtain⟨a1,b,h⟩:=bnd h
 refine Goes.cut (s':=(ofG 96 (kAW e d [(62,.bool a1)]),[])) ?_ ?_
 ·rcases wyD b with⟨u,b⟩|⟨u,b⟩
  ·obtain⟨s,p,b⟩:=bnd b
   obtain⟨r21,q,b⟩:=bnd b
   rcases wyB b with⟨A,b⟩|⟨A,b⟩
   ·obtain rfl:=si b
    exact tr fol [4,8,9,11] (kAW e d [(62,.bool true)]) (ac (gw u) (ac (hs (.done (.opt (qU ZT 9 (.str e) (some (.i (w64 (d+1)))) none none)) (.str s)) (z8 st9 (some (w64 (d+1))) none p)) (ac (cv (jc N s q)) (ac (gw A) az))))
   obtain⟨P,v,b⟩:=bnd b
   rcases wyB b with⟨D,b⟩|⟨D,b⟩
   ·obtain rfl:=si b
    exact tr fol [4,8,9,11,15,18] (kAW e d [(62,.bool true)]) (ac (gw u) (ac (hs (.done (.opt (qU ZT 9 (.str e) (some (.i (w64 (d+1)))) none none)) (.str s)) (z8 st9 (some (w64 (d+1))) none p)) (ac (cv (jc N s q)) (ac (gw A) (ac (hs (.done (.opt (qU ZT 9 (.str e) (some (.i (w64 (d+1)))) none none)) (.str P)) (z8 st9 (some (w64 (d+1))) none v)) (ac (gw D) az))))))
   obtain⟨U,E,b⟩:=bnd b
   obtain rfl:=si b
   exact tr fol [4,8,9,11,15,18,22] (kAW e d [(62,.bool (U==[49]))]) (ac (gw u) (ac (hs (.done (.opt (qU ZT 9 (.str e) (some (.i (w64 (d+1)))) none none)) (.str s)) (z8 st9 (some (w64 (d+1))) none p)) (ac (cv (jc N s q)) (ac (gw A) (ac (hs (.done (.opt (qU ZT 9 (.str e) (some (.i (w64 (d+1)))) none none)) (.str P)) (z8 st9 (some (w64 (d+1))) none v)) (ac (gw D) (ac (hs (.done (.opt (qU ZT 9 (.str e) (some (.i (w64 (d+1)))) none none)) (.str U)) (z8 st9 (some (w64 (d+1))) none E)) az)))))))
  obtain rfl:=si b
  exact tr fol [4] (kAW e d [(62,.bool false)]) (ac (gw u) az)
 refine ihB h (fun a2 h=>?_) (fun a2 h=>?_)
 ·refine sh fol [(2,.i 1)] ?_
  refine Goes.ret ?_
  obtain rfl:=si h
  exact(gw2 [.i 1] (Ua tI))
 refine Goes.skip ?_
 refine sq ?_
 refine sq ?_
 obtain⟨a3,j,h⟩:=bnd h
 refine Goes.cut (s':=(ofG 96 (kAW e d [(72,.bool a3)]),[])) ?_ ?_
 ·rcases wyD j with⟨F,j⟩|⟨F,j⟩
  ·obtain rfl:=si j
   exact tr fol [2] (kAW e d [(72,.bool true)]) (ac (gw F) az)
  obtain rfl:=si j
  exact tr fol [2] (kAW e d [(72,.bool (decide ((w64 ((w64 ((e.length:Int)-d))-1))>600)))]) (ac (gw F) az)
 refine ihB h (fun a4 h=>?_) (fun a4 h=>?_)
 ·refine sh fol [(2,.i 4)] ?_
  refine Goes.ret ?_
  obtain rfl:=si h
  exact(gw2 [.i 4] (Ua tI))
 refine Goes.skip ?_
 refine sq ?_
 refine sh fol [(3,.str e),(76,.bool (decide (d<(e.length:Int))))] ?_
 obtain⟨V,g33,h⟩:=bnd h
 refine Goes.imp (Q:=fun x s'=>(x= .normal/\(.inl ())=V/\Sub s' (ofG 96 [],[]))\/(x= .ret/\ ∃X,(.inr X)=V/\jZ ZT [.tmp 2] (.i X) .ret s')) ?_ ?_
 ·refine ihD g33 (fun a5 g33=>?_) (fun a5 g33=>?_)
  ·obtain⟨k,G,g33⟩:=bnd g33
   refine sq (gq fol [1] [(5,.ptr 0 0),(6,.ptr 1 0)] (kK k.1.neg k.1.w k.2.neg k.2.w []) (ac (cv (qaR N e G)) az) ?_)
   obtain⟨a6,H,g33⟩:=bnd g33
   refine sq (gr fol [4] [(7,vl encI a6)] (ac (cv (qdA N k.1.w k.2.w H)) az) ?_)
   refine sq ?_
   obtain⟨a7,f,g33⟩:=bnd g33
   refine Goes.cut (s':=(ofG 96 [(95,.bool a7)],(kK k.1.neg k.1.w k.2.neg k.2.w []))) ?_ ?_
   ·rcases wyB f with⟨I,f⟩|⟨I,f⟩
    ·obtain rfl:=si f
     exact tr fol [3] [(95,.bool true)] (ac (gw I) az)
    obtain⟨a8,y,f⟩:=bnd f
    obtain rfl:=si f
    exact tr fol [3,5,6] [(95,.bool (!decide (a8=1)))] (ac (gw I) (ac (iv jR encI y) (ac (lv 0 ce3 encI y rfl) az)))
   refine ihB g33 (fun a9 g33=>?_) (fun a9 g33=>?_)
   ·refine sh fol [(2,.i 1)] ?_
    refine Goes.ret ?_
    obtain rfl:=si g33
    exact Or.inr (⟨rfl,_,rfl,(gw2 [.i 1] (Ua tI))⟩)
   refine Goes.skip ?_
   obtain rfl:=si g33
   exact Or.inl (⟨rfl,rfl,(Sub.norm [] [] rfl rfl .nil .nil)⟩)
  refine Goes.skip ?_
  obtain rfl:=si g33
  exact Or.inl (⟨rfl,rfl,(Sub.keep [] rfl rfl)⟩)
 rintro x s' (⟨rfl,rfl,hsub⟩|⟨rfl,q43,rfl,hret⟩)
 ·try dsimp only at h
  refine Goes.sub hsub ?_
  refine sh fol [(2,.i 0)] ?_
  refine Goes.ret ?_
  obtain rfl:=si h
  exact(gw2 [.i 0] (Ua tI))
 try dsimp only at h
 obtain rfl:=si h
 exact hret
def yS (a:Str):Option Str:=
 (xk a).bind fun b=>
 if b<0 then
 (cut a 1 (a.length:Int)).bind fun c=>
 some c
 else
 some a
theorem xq (a:Str) {res:Str} (h:yS a=some res):qb ZT (.fn 28) [.str a] [] (.str res) []:=by
 unfold yS at h
 refine Ub Tryz.func28 rfl rfl (m:=9) rfl (rs:=[.tmp 2]) rfl (l:=(kAS a)) rfl ?_
 refine sh fol (kAS a) ?_
 refine sq ?_
 obtain⟨e,b,h⟩:=bnd h
 refine sq (gr fol [1] (kA1 a [(5,.bool (decide (e<0)))]) (ac (cv (qbl a b)) az) ?_)
 refine ihD h (fun f h=>?_) (fun f h=>?_)
 ·obtain⟨d,c,h⟩:=bnd h
  refine sq (gr fol [1] (kA3 d) (ac (hs (.done (.opt (qU ZT 22 (.str a) (some (.i 1)) none none)) (.str d)) (z8 qkQ (some 1) none c)) az) ?_)
  refine Goes.ret ?_
  obtain rfl:=si h
  exact(gw2 [.str d] (Ua tS))
 refine Goes.skip ?_
 refine sh fol (kA3 a) ?_
 refine Goes.ret ?_
 obtain rfl:=si h
 exact(gw2 [.str a] (Ua tS))
def qcM (N:Nat) (a:Str):Option Str:=
 (vM N a).bind fun b=>
 (cut a 0 b).bind fun c=>
 some c
theorem qfw (N:Nat) (a:Str) {res:Str} (h:qcM N a=some res):qb ZT (.fn 77) [.str a] [] (.str res) []:=by
 unfold qcM at h
 refine Ub Tryz.func77 rfl rfl (m:=7) rfl (rs:=[.tmp 2]) rfl (l:=(kAS a)) rfl ?_
 refine sh fol (kAS a) ?_
 obtain⟨e,b,h⟩:=bnd h
 obtain⟨d,c,h⟩:=bnd h
 refine sq (gr fol [2,3] (kA3 d) (ac (cv (yI N a b)) (ac (hs (.done (.opt (qU ZT 22 (.str a) none (some (.i e)) none)) (.str d)) (z8 qkQ none (some e) c)) az)) ?_)
 refine Goes.ret ?_
 obtain rfl:=si h
 exact(gw2 [.str d] (Ua tS))
def qcL (N:Nat) (a:Str):Option Str:=
 (vM N a).bind fun b=>
 if b=(a.length:Int)then
 some [49]
 else
 (cut a (w64 (b+1)) (a.length:Int)).bind fun c=>
 some c
theorem qjj (N:Nat) (a:Str) {res:Str} (h:qcL N a=some res):qb ZT (.fn 78) [.str a] [] (.str res) []:=by
 unfold qcL at h
 refine Ub Tryz.func78 rfl rfl (m:=14) rfl (rs:=[.tmp 2]) rfl (l:=(kAS a)) rfl ?_
 refine sh fol (kAS a) ?_
 obtain⟨b,c,h⟩:=bnd h
 refine sq (gr fol [1] (kAX a b []) (ac (cv (yI N a c)) az) ?_)
 refine sq ?_
 refine sh fol (kAX a b [(9,.bool (decide (b=(a.length:Int))))]) ?_
 refine ihD h (fun f h=>?_) (fun f h=>?_)
 ·refine sh fol [(2,.str [49])] ?_
  refine Goes.ret ?_
  obtain rfl:=si h
  exact(gw2 [.str [49]] (Ua tS))
 refine Goes.skip ?_
 obtain⟨e,d,h⟩:=bnd h
 refine sq (gr fol [3] (kA3 e) (ac (hs (.done (.opt (qU ZT 22 (.str a) (some (.i (w64 (b+1)))) none none)) (.str e)) (z8 qkQ (some (w64 (b+1))) none d)) az) ?_)
 refine Goes.ret ?_
 obtain rfl:=si h
 exact(gw2 [.str e] (Ua tS))
def qcU (N:Nat) (a:Str) (digits:Int):Option Bool:=
 (if(a.length:Int)<=(w64 ((w64 (2*digits))+2))then
 (yY N a).bind fun b=>
 if b=0 then
 (qcM N a).bind fun c=>
 (yS c).bind fun d=>
 if(d.length:Int)<=digits then
 (qcL N a).bind fun e=>
 some (decide ((e.length:Int)<=digits))
 else
 some false
 else
 some false
 else
 some false:Option Bool).bind fun f=>
 some f
theorem qaW (N:Nat) (a:Str) (digits:Int) {res:Bool} (h:qcU N a digits=some res):qb ZT (.fn 21) [.str a,.i digits] [] (.bool res) []:=by
 unfold qcU at h
 refine Ub Tryz.func21 rfl rfl (m:=31) rfl (rs:=[.tmp 4]) rfl (l:=(kA1 a [(1,.i digits)])) rfl ?_
 refine sh fol (kA1 a [(1,.i digits)]) ?_
 refine sq ?_
 obtain⟨n,b,h⟩:=bnd h
 refine Goes.cut (s':=(ofG 31 (kA0 n),[])) ?_ ?_
 ·rcases wyD b with⟨f,b⟩|⟨f,b⟩
  ·obtain⟨q,c,b⟩:=bnd b
   rcases wyD b with⟨j,b⟩|⟨j,b⟩
   ·obtain⟨o,d,b⟩:=bnd b
    obtain⟨r,e,b⟩:=bnd b
    rcases wyD b with⟨k,b⟩|⟨k,b⟩
    ·obtain⟨p,g,b⟩:=bnd b
     obtain rfl:=si b
     exact tr fol [6,8,11,13,14,19,21] (kA0 (decide ((p.length:Int)<=digits))) (ac (gw f) (ac (cv (yJ N a c)) (ac (gw j) (ac (cv (qfw N a d)) (ac (cv (xq o e)) (ac (gw k) (ac (cv (qjj N a g)) az)))))))
    obtain rfl:=si b
    exact tr fol [6,8,11,13,14,19] [(4,.bool false)] (ac (gw f) (ac (cv (yJ N a c)) (ac (gw j) (ac (cv (qfw N a d)) (ac (cv (xq o e)) (ac (gw k) az))))))
   obtain rfl:=si b
   exact tr fol [6,8,11] [(4,.bool false)] (ac (gw f) (ac (cv (yJ N a c)) (ac (gw j) az)))
  obtain rfl:=si b
  exact tr fol [6] [(4,.bool false)] (ac (gw f) az)
 refine Goes.ret ?_
 obtain rfl:=si h
 exact(gw2 [.bool n] (Ua tB))
def zG (l:List Int):Nat->Int->Option (Unit⊕Int)
 |0,_=>none
 |K+1,a=>
  if a<(l.length:Int)then
  (idx l a).bind fun b=>
  if(!decide (b=0))=true then
  some (.inr b)
  else
  zG l K (w64 (a+1))
  else
  some (.inl ())
def jL (N:Nat) (l:List Int):Option Int:=
 (zG l N 0).bind (fun
 |(.inl ())=>
 some 0
 |(.inr a)=>
 some a)
theorem qaA (N:Nat) (l:List Int) {res:Int} (h:jL N l=some res):qb ZT (.fn 79) [vl encI l] [] (.i res) []:=by
 unfold jL at h
 refine Ub Tryz.func79 rfl rfl (m:=15) rfl (rs:=[.tmp 2]) rfl (l:=(kAq l [])) rfl ?_
 refine sh fol (kAq l []) ?_
 refine sq ?_
 refine sh fol (kAu l [(6,.i (l.length:Int)),(7,.i 0)]) ?_
 refine Goes.block ?_
 obtain⟨d,g2,h⟩:=bnd h
 refine Goes.imp (Q:=fun x s'=>(x= .exit 0/\(.inl ())=d/\Sub s' (ofG 15 [],[]))\/(x= .ret/\ ∃e,(.inr e)=d/\jZ ZT [.tmp 2] (.i e) .ret s')) ?_ ?_
 ·refine Uc (fun M s=> ∃(a:Int),s=(ofG 15 (kAu l (kAl (l.length:Int) a)),[])/\zG l M a=some d) ?_ (m:=N) ⟨_,rfl,g2⟩
  rintro M s ⟨a,rfl,g2⟩
  cases M with
  |zero=>simp only[zG]at g2;cases g2
  |succ M=>
   rw[zG]at g2
   refine sh fol (kAu l [(6,.i (l.length:Int)),(7,.i a),(8,.bool (decide (a<(l.length:Int))))]) ?_
   refine sq ?_
   refine ihD g2 (fun f g2=>?_) (fun f g2=>?_)
   ·refine Goes.skip ?_
    refine sq (Goes.block ?_)
    obtain⟨c,b,g2⟩:=bnd g2
    refine sq (gr fol [0,1] ((4,.i c)::(kAu l (kAl (l.length:Int) a))) (ac (iv sl199 encI b) (ac (lv 0 ce27 encI b rfl) az)) ?_)
    refine sh fol ((4,.i c)::(kAu l ((6,.i (l.length:Int))::(7,.i a)::(kA2 (!decide (c=0)))))) ?_
    refine ihB g2 (fun g g2=>?_) (fun g g2=>?_)
    ·refine sh fol [(2,.i c)] ?_
     refine Goes.ret ?_
     obtain rfl:=si g2
     exact Or.inr (⟨rfl,_,rfl,(gw2 [.i c] (Ua tI))⟩)
    refine Goes.skip ?_
    refine gh fol (kAu l (kAl (l.length:Int) (w64 (a+1)))) ?_
    exact⟨M,(ofG 15 (kAu l (kAl (l.length:Int) (w64 (a+1)))),[]),Nat.lt_succ_self _,(Sub.refl _),_,rfl,g2⟩
   refine Goes.exit ?_
   obtain rfl:=si g2
   exact Or.inl (⟨rfl,rfl,(Sub.keep [] rfl rfl)⟩)
 rintro x s' (⟨rfl,rfl,hsub⟩|⟨rfl,j,rfl,hret⟩)
 ·try dsimp only at h
  refine Goes.sub hsub ?_
  refine sh fol [(2,.i 0)] ?_
  refine Goes.ret ?_
  obtain rfl:=si h
  exact(gw2 [.i 0] (Ua tI))
 try dsimp only at h
 obtain rfl:=si h
 exact hret
def qce (n:Int):Option Int:=
 if n<0 then
 some (IntKind.wrap .u64 (w64 (0-n)))
 else
 some (IntKind.wrap .u64 n)
theorem qdQ (n:Int) {res:Int} (h:qce n=some res):qb ZT (.fn 216) [.i n] [] (.int .u64 res) []:=by
 unfold qce at h
 refine Ub Tryz.func216 rfl rfl (m:=10) rfl (rs:=[.tmp 2]) rfl (l:=[(0,.i n)]) rfl ?_
 refine sh fol [(0,.i n)] ?_
 refine sq ?_
 refine sh fol ((0,.i n)::(kA0 (decide (n<0)))) ?_
 refine ihD h (fun a h=>?_) (fun a h=>?_)
 ·refine sh fol [(2,.int .u64 (IntKind.wrap .u64 (w64 (0-n))))] ?_
  refine Goes.ret ?_
  obtain rfl:=si h
  exact(gw2 [.int .u64 (IntKind.wrap .u64 (w64 (0-n)))] (Ua tI))
 refine Goes.skip ?_
 refine sh fol [(2,.int .u64 (IntKind.wrap .u64 n))] ?_
 refine Goes.ret ?_
 obtain rfl:=si h
 exact(gw2 [.int .u64 (IntKind.wrap .u64 n)] (Ua tI))
def qH (a:qd):Option (Bool×(List Int)):=
 if(!a.w.isEmpty)=true then
 some (decide (a.s<0),a.w)
 else
 if a.s=0 then
 some (false,[])
 else
 (qce a.s).bind fun b=>
 some (decide (a.s<0),[b])
theorem zJ (a:qd) {res:Bool×(List Int)} (h:qH a=some res):qb ZT (.fn 158) [.agg (nz1 a)] [] (.tuple [.bool res.1,vl (qa .u64) res.2]) []:=by
 unfold qH at h
 refine Ub Tryz.func158 rfl rfl (m:=24) rfl (rs:=[.tmp 2,.tmp 3]) rfl (l:=[(0,.agg (nz1 a))]) rfl ?_
 refine sg fol (kAc []) [.cells (nz1 a)] ?_
 refine sq (Goes.block ?_)
 refine sq (gr fol [2] (kAc (kA0 (!a.w.isEmpty))) (ac (hs (.done (.opt (kg ZT .neq 93 (.tmp 6) (.const (.slice none 0 0)) (nvl (qa .u64) a.w) .nilslice)) (.bool (!a.w.isEmpty))) (ne_nv qap)) az) ?_)
 refine ihB h (fun c h=>?_) (fun c h=>?_)
 ·refine sh fol [(2,.bool (decide (a.s<0))),(3,nvl (qa .u64) a.w)] ?_
  refine Goes.ret ?_
  obtain rfl:=si h
  exact(gw2 [.bool (decide (a.s<0)),nvl (qa .u64) a.w] (FzW.tuple (qc.cons (Ua tB) (qc.cons (FzW.nvL (E:=(qa .u64)) (nl rfl)) qc.nil))))
 refine sh fol (kAc (kA5 (decide (a.s=0)))) ?_
 refine ihD h (fun d h=>?_) (fun d h=>?_)
 ·refine sh fol [(2,.bool false),(3,.nilslice)] ?_
  refine Goes.ret ?_
  obtain rfl:=si h
  exact(gw2 [.bool false,.nilslice] (FzW.tuple (qc.cons (Ua tB) (qc.cons (FzW.nilv (E:=(qa .u64))) qc.nil))))
 refine Goes.skip ?_
 obtain⟨e,b,h⟩:=bnd h
 refine sq (gq fol [5] [(2,.bool (decide (a.s<0))),(3,.slice 1 0 1 1 1)] [.cells (nz1 a),.cells [.int .u64 e]] (ac (cv (qdQ a.s b)) az) ?_)
 refine Goes.ret ?_
 obtain rfl:=si h
 exact(gw2 [.bool (decide (a.s<0)),.slice 1 0 1 1 1] (FzW.tuple (qc.cons (Ua tB) (qc.cons (FzW.fz (Fz.lit rfl rfl (Uf (AllST.cons tI AllST.nil)))) qc.nil))))
def jY (neg:Bool) (w:List Int):Option qd:=
 if(w.length:Int)=0 then
 some (⟨0,[]⟩:qd)
 else
 (if(w.length:Int)=1 then
 (idx w 0).bind fun d=>
 if d<=9223372036854775807 then
 some neg
 else
 some false
 else
 some false:Option Bool).bind fun e=>
 if e=true then
 (idx w 0).bind fun f=>
 some (⟨w64 (0-(w64 f)),[]⟩:qd)
 else
 (if(w.length:Int)=1 then
 (idx w 0).bind fun a=>
 some (decide (a<=9223372036854775807))
 else
 some false:Option Bool).bind fun b=>
 if b=true then
 (idx w 0).bind fun c=>
 some (⟨w64 c,[]⟩:qd)
 else
 if neg=true then
 some (⟨(-1),w⟩:qd)
 else
 some (⟨1,w⟩:qd)
theorem qaa (neg:Bool) (w:List Int) {res:qd} (h:jY neg w=some res):qb ZT (.fn 159) [.bool neg,vl (qa .u64) w] [] (.agg (nz1 res)) []:=by
 unfold jY at h
 refine Ub Tryz.func159 rfl rfl (m:=50) rfl (rs:=[.cell 4 95]) rfl (l:=[(0,.bool neg),(1,vl (qa .u64) w)]) rfl ?_
 refine sg fol ((0,.bool neg)::(1,vl (qa .u64) w)::(kAb [])) [bZ] ?_
 refine sq (Goes.block ?_)
 refine sh fol ((0,.bool neg)::(1,vl (qa .u64) w)::(kAb [(5,.bool (decide ((w.length:Int)=0)))])) ?_
 refine ihD h (fun t h=>?_) (fun t h=>?_)
 ·refine sh fol (kAb []) ?_
  refine Goes.ret ?_
  obtain rfl:=si h
  exact(gw2 [.agg [.i 0,.nilslice]] (FzW.agg (qc.cons (Ua tI) (qc.cons (FzW.nv0 (E:=(qa .u64))) qc.nil))))
 refine sq ?_
 obtain⟨u,a,h⟩:=bnd h
 refine Goes.cut (s':=(ofG 50 ((0,.bool neg)::(1,vl (qa .u64) w)::(kAb [(10,.bool u)])),[bZ])) ?_ ?_
 ·rcases wyD a with⟨j,a⟩|⟨j,a⟩
  ·obtain⟨x,c,a⟩:=bnd a
   rcases wyD a with⟨k,a⟩|⟨k,a⟩
   ·obtain rfl:=si a
    exact tr fol [3,5,6,9] ((0,.bool neg)::(1,vl (qa .u64) w)::(kAb [(10,.bool neg)])) (ac (gw j) (ac (iv zL (qa .u64) c) (ac (lv 0 zT (qa .u64) c rfl) (ac (gw k) az))))
   obtain rfl:=si a
   exact tr fol [3,5,6,9] ((0,.bool neg)::(1,vl (qa .u64) w)::(kAb [(10,.bool false)])) (ac (gw j) (ac (iv zL (qa .u64) c) (ac (lv 0 zT (qa .u64) c rfl) (ac (gw k) az))))
  obtain rfl:=si a
  exact tr fol [3] ((0,.bool neg)::(1,vl (qa .u64) w)::(kAb [(10,.bool false)])) (ac (gw j) az)
 refine ihB h (fun v h=>?_) (fun v h=>?_)
 ·obtain⟨s,f,h⟩:=bnd h
  refine sq (gq fol [1,2] (kAb []) (kAj (w64 (0-(w64 s)))) (ac (iv zL (qa .u64) f) (ac (lv 0 zT (qa .u64) f rfl) az)) ?_)
  refine Goes.ret ?_
  obtain rfl:=si h
  exact(gw2 [.agg [.i (w64 (0-(w64 s))),.nilslice]] (FzW.agg (qc.cons (Ua tI) (qc.cons (FzW.nv0 (E:=(qa .u64))) qc.nil))))
 refine sq ?_
 obtain⟨n,b,h⟩:=bnd h
 refine Goes.cut (s':=(ofG 50 ((0,.bool neg)::(1,vl (qa .u64) w)::(kAb [(29,.bool n)])),[bZ])) ?_ ?_
 ·rcases wyD b with⟨o,b⟩|⟨o,b⟩
  ·obtain⟨p,d,b⟩:=bnd b
   obtain rfl:=si b
   exact tr fol [3,5,6] ((0,.bool neg)::(1,vl (qa .u64) w)::(kAb [(29,.bool (decide (p<=9223372036854775807)))])) (ac (gw o) (ac (iv zL (qa .u64) d) (ac (lv 0 zT (qa .u64) d rfl) az)))
  obtain rfl:=si b
  exact tr fol [3] ((0,.bool neg)::(1,vl (qa .u64) w)::(kAb [(29,.bool false)])) (ac (gw o) az)
 refine ihB h (fun q h=>?_) (fun q h=>?_)
 ·obtain⟨g,e,h⟩:=bnd h
  refine sq (gq fol [1,2] (kAb []) (kAj (w64 g)) (ac (iv zL (qa .u64) e) (ac (lv 0 zT (qa .u64) e rfl) az)) ?_)
  refine Goes.ret ?_
  obtain rfl:=si h
  exact(gw2 [.agg [.i (w64 g),.nilslice]] (FzW.agg (qc.cons (Ua tI) (qc.cons (FzW.nv0 (E:=(qa .u64))) qc.nil))))
 refine sh fol ((1,vl (qa .u64) w)::(kAb [(44,.bool neg)])) ?_
 refine ihB h (fun r h=>?_) (fun r h=>?_)
 ·refine sg fol (kAb []) [.cells [.i (-1),vl (qa .u64) w]] ?_
  refine Goes.ret ?_
  obtain rfl:=si h
  exact(gw2 [.agg [.i (-1),vl (qa .u64) w]] (FzW.agg (qc.cons (Ua tI) (qc.cons (FzW.Lnv (E:=(qa .u64)) (by first|omega|(simp only[decide_eq_false_iff_not,decide_eq_true_eq]at*;omega)) (nl rfl)) qc.nil))))
 refine Goes.skip ?_
 refine sg fol (kAb []) [.cells [.i 1,vl (qa .u64) w]] ?_
 refine Goes.ret ?_
 obtain rfl:=si h
 exact(gw2 [.agg [.i 1,vl (qa .u64) w]] (FzW.agg (qc.cons (Ua tI) (qc.cons (FzW.Lnv (E:=(qa .u64)) (by first|omega|(simp only[decide_eq_false_iff_not,decide_eq_true_eq]at*;omega)) (nl rfl)) qc.nil))))
def qad (w:List Int):Nat->Int->Option Int
 |0,_=>none
 |K+1,a=>
  (if a>0 then
  (idx w (w64 (a-1))).bind fun b=>
  some (decide (b=0))
  else
  some false:Option Bool).bind fun c=>
  if c=true then
  qad w K (w64 (a-1))
  else
  some a
def yO (N:Nat) (w:List Int):Option (List Int):=
 (qad w N (w.length:Int)).bind fun a=>
 (cut w 0 a).bind fun b=>
 some b
theorem y8 (N:Nat) (w:List Int) {res:List Int} (h:yO N w=some res):qb ZT (.fn 225) [vl (qa .u64) w] [] (vl (qa .u64) res) []:=by
 unfold yO at h
 refine Ub Tryz.func225 rfl rfl (m:=21) rfl (rs:=[.tmp 2]) rfl (l:=[(0,vl (qa .u64) w)]) rfl ?_
 refine sh fol [(0,vl (qa .u64) w)] ?_
 refine sh fol [(0,vl (qa .u64) w),(3,.i (w.length:Int))] ?_
 refine sq (Goes.block ?_)
 obtain⟨j,g3,h⟩:=bnd h
 refine Goes.imp (Q:=fun x s'=>(x= .exit 0/\ ∃d,d=j/\Sub s' (ofG 21 [(0,vl (qa .u64) w),(3,.i d)],[]))) ?_ ?_
 ·refine Uc (fun M s=> ∃(b:Int),s=(ofG 21 [(0,vl (qa .u64) w),(3,.i b)],[])/\qad w M b=some j) ?_ (m:=N) ⟨_,rfl,g3⟩
  rintro M s ⟨b,rfl,g3⟩
  cases M with
  |zero=>simp only[qad]at g3;cases g3
  |succ M=>
   rw[qad]at g3
   refine sq ?_
   refine sq ?_
   obtain⟨k,a,g3⟩:=bnd g3
   refine Goes.cut (s':=(ofG 21 [(0,vl (qa .u64) w),(3,.i b),(15,.bool k)],[])) ?_ ?_
   ·rcases wyD a with⟨f,a⟩|⟨f,a⟩
    ·obtain⟨n,c,a⟩:=bnd a
     obtain rfl:=si a
     exact tr fol [2,6,7] [(0,vl (qa .u64) w),(3,.i b),(15,.bool (decide (n=0)))] (ac (gw f) (ac (iv zL (qa .u64) c) (ac (lv 0 zT (qa .u64) c rfl) az)))
    obtain rfl:=si a
    exact tr fol [2] [(0,vl (qa .u64) w),(3,.i b),(15,.bool false)] (ac (gw f) az)
   refine ihB g3 (fun o g3=>?_) (fun o g3=>?_)
   ·refine Goes.skip ?_
    refine Goes.block ?_
    refine gh fol [(0,vl (qa .u64) w),(3,.i (w64 (b-1)))] ?_
    exact⟨M,(ofG 21 [(0,vl (qa .u64) w),(3,.i (w64 (b-1)))],[]),Nat.lt_succ_self _,(Sub.refl _),_,rfl,g3⟩
   refine Goes.exit ?_
   obtain rfl:=si g3
   exact⟨rfl,_,rfl,(Sub.keep [0,3] rfl rfl)⟩
 rintro x s' ⟨rfl,d,rfl,hsub⟩
 refine Goes.sub hsub ?_
 obtain⟨g,e,h⟩:=bnd h
 refine sq (gr fol [2] [(2,vl (qa .u64) g)] (ac (hs (.done (.opt (qU ZT 93 (vl (qa .u64) w) none (some (.i d)) none)) (vl (qa .u64) g)) (qlI zL (E:=(qa .u64)) rfl none (some d) e)) az) ?_)
 refine Goes.ret ?_
 obtain rfl:=si h
 exact(gw2 [vl (qa .u64) g] (Ua (qy (qa .u64) _ (nl rfl))))
end Go.Av
