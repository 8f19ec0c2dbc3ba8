/-
  Walks of functions: what each computes, as a plain function.
-/
import Derived.Test.YtmjcpcnaaolliaaGreatDoorAvJnM
noncomputable section
namespace Go.Av
open Go.Proofs Go.RowKit
abbrev ZT:=Tryz.prog
set_option linter.unusedSectionVars false
set_option linter.unusedVariables false
set_option linter.unusedSimpArgs false
set_option maxRecDepth 100000
theorem fol:Tryz.prog.follows .mixedOrders=true:=by kernel_rfl
structure qJ where
 neg:Bool
 w:List Int
def qku:Enc qJ:=(encB.prod (qnX encI)).comap fun x=>(x.neg,x.w)
instance:SE qku:=⟨nl rfl⟩
structure qC where
 Low:Str
 High:Str
def qk4:Enc qC:=(encS.prod encS).comap fun x=>(x.Low,x.High)
instance:SE qk4:=⟨nl rfl⟩
structure qm where
 s:Int
 w:List Int
def qjD:Enc qm:=(encI.prod (encN (qa .u64))).comap fun x=>(x.s,x.w)
instance:SE qjD:=⟨nl rfl⟩
structure qo where
 Num:qm
 Den:qm
def qh:Enc qo:=(qjD.prod qjD).comap fun x=>(x.Num,x.Den)
instance:SE qh:=⟨nl rfl⟩
abbrev kA {α3:Type} {α4:Type} (a:List Int) (b:List Int) (c:Int) (d:List α3) (e:List α4) (f:Int) (x:List (Nat×AV)):List (Nat×AV):=(8,vl encI a)::(9,vl encI b)::(10,.i c)::(11,.oslice 0 d.length 1)::(12,.slice 1 0 e.length e.length 1)::(13,.i f)::x
abbrev kB (a:List Int) (x:List Blk):List Blk:= .cells (a.flatMap encI.c)::x
abbrev kC {α0:Type} (a:List α0) (x:List (Nat×AV)):List (Nat×AV):=(5,.slice 0 0 a.length a.length 1)::x
abbrev kD (a:Str) (b:Str) (c:Str) (d:Str) (x:List Blk):List Blk:= .cells [.str a,.str b]:: .cells [.str c,.str d]::x
abbrev kE (a:Str) (b:Str) (c:List qo) (x:List Blk):List Blk:= .cells [.str a,.str b]:: .cells [.str [],.str []]:: .cells (c.flatMap qh.c)::x
abbrev kF (x:List (Nat×AV)):List (Nat×AV):=(2,.ptr 0 0)::(3,.ptr 1 0)::(4,.ptr 2 0)::x
abbrev kG {α0:Type} {α2:Type} (a:List α0) (b:Int) (c:List α2) (x:List (Nat×AV)):List (Nat×AV):=(11,.slice 0 0 a.length a.length 1)::(12,.i b)::(13,.slice 1 0 c.length c.length 1)::x
abbrev kH (x:List Blk):List Blk:= .cells [.i 0,.nilslice,.i 0,.nilslice]::x
abbrev kI (a:List Int) (b:List Int) (x:List (Nat×AV)):List (Nat×AV):=(0,vl encI a)::(1,vl encI b)::x
abbrev kJ (a:Int) (b:Int) (c:Int) (d:Int) (x:List (Nat×AV)):List (Nat×AV):=(2,.int .u64 a)::(8,.int .u64 b)::(9,.int .u64 c)::(10,.int .u64 d)::x
abbrev kK {α0:Type} (a:List α0) (b:List qo) (c:Int) (d:Int) (e:List qo) (f:Int) (x:List (Nat×AV)):List (Nat×AV):=(4,.ptr 0 0)::(6,.ptr 1 0)::(8,.gslice 2 a.length 4)::(10,.ptr 3 0)::(18,vl qh b)::(19,.i c)::(20,.i d)::(29,vl qh e)::(30,.i f)::x
abbrev kM (a:Bool) (b:List Int) (c:Bool) (d:List Int) (x:List Blk):List Blk:= .cells [.bool a,vl encI b]:: .cells [.bool c,vl encI d]::x
abbrev kN (x:List Blk):List Blk:= .cells [.str [],.str []]::x
abbrev kO (a:Str) (b:Str) (x:List (Nat×AV)):List (Nat×AV):=(0,.str a)::(1,.str b)::x
abbrev kP (a:Int) (b:Int) (c:Int) (x:List (Nat×AV)):List (Nat×AV):=(14,.int .u64 a)::(15,.int .u64 b)::(16,.int .u64 c)::x
abbrev kQ {α0:Type} (a:List α0) (b:List qo) (c:Int) (d:Int) (x:List (Nat×AV)):List (Nat×AV):=(4,.ptr 0 0)::(6,.ptr 1 0)::(8,.gslice 2 a.length 4)::(18,vl qh b)::(19,.i c)::(20,.i d)::x
abbrev kR (x:List Blk):List Blk:= .cells [.bool false,.nilslice]::x
abbrev kS (x:List (Nat×AV)):List (Nat×AV):=(2,.ptr 0 0)::x
abbrev kT (a:Int) (b:Int) (x:List (Nat×AV)):List (Nat×AV):=(5,.i a)::(6,.int .u64 b)::x
abbrev kU {α0:Type} (a:List α0) (x:List (Nat×AV)):List (Nat×AV):=(6,.slice 0 0 a.length a.length 1)::x
abbrev kV (a:Str) (b:Str) (x:List Blk):List Blk:= .cells [.str a,.str b]::x
abbrev kW (a:Str) (b:Str) (x:List AV):List AV:= .agg [.str a,.str b]::x
abbrev kX (x:List (Nat×AV)):List (Nat×AV):=(4,.ptr 0 0)::x
abbrev kY (a:Int) (b:Int) (x:List (Nat×AV)):List (Nat×AV):=(0,.int .u64 a)::(1,.int .u64 b)::x
abbrev kZ (a:Int) (b:Int) (x:List (Nat×AV)):List (Nat×AV):=(11,.int .u64 a)::(12,.int .u64 b)::x
abbrev kAA (a:Int) (b:Int) (x:List (Nat×AV)):List (Nat×AV):=(7,.int .u64 a)::(8,.int .u64 b)::x
abbrev kAB (a:List qo):List Blk:=[.cells (a.flatMap qh.c)]
abbrev kAC (x:List (Nat×AV)):List (Nat×AV):=(3,.ptr 0 0)::(5,.ptr 1 0)::(7,.ptr 2 0)::x
abbrev kAD (a:Int) (b:Int) (x:List (Nat×AV)):List (Nat×AV):=(0,.i a)::(1,.i b)::x
abbrev kAE (a:Int) (b:Int) (x:List (Nat×AV)):List (Nat×AV):=(21,.i a)::(22,.i b)::x
abbrev kAF {α0:Type} (a:List α0) (x:List (Nat×AV)):List (Nat×AV):=(6,.gslice 0 a.length 1)::x
abbrev kAG (a:Str) (b:Str) (c:Bool) (x:List (Nat×AV)):List (Nat×AV):=(5,.str a)::(6,.str b)::(7,.bool c)::x
abbrev kAH (x:List (Nat×AV)):List (Nat×AV):=(3,.ptr 0 0)::(4,.ptr 1 0)::(6,.ptr 2 0)::x
abbrev kAI (a:List Str) (x:List Blk):List Blk:= .cells (a.flatMap encS.c)::x
abbrev kAJ {α0:Type} (a:List α0) (b:List Str) (c:Int) (x:List (Nat×AV)):List (Nat×AV):=(3,.slice 0 0 a.length a.length 4)::(9,vl encS b)::(10,.i c)::x
abbrev kAK {α0:Type} (a:List α0) (b:List qo) (c:Int) (d:Int) (e:List qo) (f:Int) (g:Int):List (Nat×AV):=[(6,.ptr 1 0),(8,.gslice 6 a.length 4),(10,.ptr 3 0),(18,vl qh b),(19,.i c),(20,.i d),(29,vl qh e),(30,.i f),(31,.i g)]
abbrev kAL (a:Int) (x:List (Nat×AV)):List (Nat×AV):=(6,.int .u64 a)::x
abbrev kAM (a:Int) (b:Int):List (Nat×AV):=[(13,.i a),(14,.i b)]
abbrev kAO {α0:Type} (a:List α0) (b:Int) (c:Int) (x:List (Nat×AV)):List (Nat×AV):=(5,.gslice 0 a.length 1)::(6,.i b)::(7,.i c)::x
abbrev kAP (a:Str) (b:Str) (c:Str) (d:Str) (x:List (Nat×AV)):List (Nat×AV):=(0,.agg [.str a,.str b])::(1,.agg [.str c,.str d])::x
abbrev kAQ (a:Int) (b:Int) (x:List (Nat×AV)):List (Nat×AV):=(11,.int .u64 a)::(13,.int .u64 b)::x
abbrev kAR (x:List (Nat×AV)):List (Nat×AV):=(4,.ptr 2 0)::x
abbrev kAS (a:Str) (x:List (Nat×AV)):List (Nat×AV):=(0,.str a)::x
abbrev kAT (a:List qo) (b:Int):List (Nat×AV):=[(8,.nilslice),(18,vl qh a),(19,.i b),(20,.i 0)]
abbrev kAU (x:List (Nat×AV)):List (Nat×AV):=(4,.ptr 1 0)::(5,.ptr 2 0)::x
abbrev kAV (a:Bool) (b:List Int) (x:List Blk):List Blk:= .cells [.bool a,vl encI b]::x
abbrev kAW (a:Int) (x:List (Nat×AV)):List (Nat×AV):=(5,.ptr 1 0)::(6,.i a)::x
abbrev kAX (a:Int) (b:Int):List (Nat×AV):=[(7,.i a),(8,.i b)]
abbrev kAY (a:List Int):List Blk:=[.frozen (a.flatMap encI.c)]
abbrev kAZ (a:Int) (b:Int) (x:List (Nat×AV)):List (Nat×AV):=(17,.int .u64 a)::(18,.int .u64 b)::x
abbrev kAa:List (Nat×AV):=[(4,.bool false)]
abbrev kAb {α3:Type} (a:List Int) (b:List Int) (c:Int) (d:List α3) (x:List (Nat×AV)):List (Nat×AV):=(8,vl encI a)::(9,vl encI b)::(10,.i c)::(11,.oslice 0 d.length 1)::x
abbrev kAc (x:List (Nat×AV)):List (Nat×AV):=(3,.ptr 1 0)::x
abbrev kAd (a:List qo) (x:List (Nat×AV)):List (Nat×AV):=(0,vl qh a)::x
abbrev kAe (x:List (Nat×AV)):List (Nat×AV):=(1,.ptr 0 0)::x
abbrev kAf (a:Int) (x:List (Nat×AV)):List (Nat×AV):=(7,.int .u64 a)::x
abbrev kAg (a:Bool) (b:List Int):List AV:=[.bool a,vl encI b]
abbrev kAh (a:List Int) (b:Int) (x:List (Nat×AV)):List (Nat×AV):=(0,vl encI a)::(1,.i b)::x
abbrev kAi (a:Str) (b:Str):List AV:=[.str a,.str b]
abbrev kAj (a:Int) (b:Int) (c:Int) (x:List (Nat×AV)):List (Nat×AV):=(14,.i a)::(15,.i b)::(16,.i c)::x
abbrev kAk (a:Str) (b:Str) (c:Int) (x:List (Nat×AV)):List (Nat×AV):=(6,.str a)::(7,.str b)::(8,.i c)::x
abbrev kAl (a:Str) (b:Int) (x:List (Nat×AV)):List (Nat×AV):=(3,.str a)::(4,.i b)::x
abbrev kAm {α0:Type} (a:List α0) (b:Bool) (x:List (Nat×AV)):List (Nat×AV):=(3,.gslice 1 a.length 1)::(4,.bool b)::x
abbrev kAn (a:Int) (b:Int) (c:Int) (d:Int) (x:List (Nat×AV)):List (Nat×AV):=(2,.i a)::(7,.i b)::(9,.i c)::(10,.i d)::x
abbrev kAo (a:Int) (b:Int) (x:List (Nat×AV)):List (Nat×AV):=(8,.i a)::(9,.i b)::x
abbrev kAp (a:Bool) (b:List Int) (c:Bool) (d:List Int):List AV:=[.agg [.bool a,vl encI b],.agg [.bool c,vl encI d]]
abbrev kAq (a:Int) (b:Int):List (Nat×AV):=[(104,.i a),(105,.i b)]
abbrev kAr (a:Int) (b:Int):List (Nat×AV):=[(28,.i a),(29,.i b)]
abbrev kAs (a:Bool):List (Nat×AV):=[(4,.bool a)]
abbrev kAt (a:Int) (b:Int) (c:Int) (x:List (Nat×AV)):List (Nat×AV):=(17,.int .u64 a)::(156,.i b)::(157,.i c)::x
abbrev kAu (a:Bool) (x:List (Nat×AV)):List (Nat×AV):=(3,.bool a)::(4,.ptr 1 0)::x
abbrev kAv {α0:Type} (a:List α0) (x:List (Nat×AV)):List (Nat×AV):=(6,.ptr 1 0)::(8,.gslice 2 a.length 4)::(10,.ptr 3 0)::x
abbrev kAw (a:Str) (b:Bool) (x:List (Nat×AV)):List (Nat×AV):=(5,.str a)::(6,.bool b)::x
abbrev kAx (a:Int) (b:Int):List (Nat×AV):=[(96,.i a),(97,.i b)]
abbrev kAy (a:Int):List Blk:=[.cells [.i a,.nilslice]]
abbrev kAz (a:Int) (b:Int) (x:List (Nat×AV)):List (Nat×AV):=(14,.int .u64 a)::(15,.int .u64 b)::x
abbrev kA0 (a:List qo):List Blk:=[.frozen (a.flatMap qh.c)]
abbrev kA1:List Blk:=[.cells (([]:List Int).flatMap encI.c)]
abbrev kA2 (a:Int) (x:List Blk):List Blk:= .dead:: .cells [.i a]::x
abbrev kA3 (a:Int) (b:Int):List Blk:=[.cells [.i a,.i b]]
abbrev kA4 (a:Str):List (Nat×AV):=[(4,.str a)]
abbrev kA5 (a:Int) (b:Int):List (Nat×AV):=[(6,.i a),(7,.i b)]
abbrev kA6 (a:Int):List (Nat×AV):=[(5,.i a)]
abbrev kA7 {α0:Type} (a:List α0) (x:List (Nat×AV)):List (Nat×AV):=(5,.gslice 0 a.length 1)::x
abbrev kA8 (a:Int) (b:Int) (x:List (Nat×AV)):List (Nat×AV):=(0,.int .u64 a)::(2,.i b)::x
abbrev kA9:List (Nat×AV):=[(2,.ptr 1 0)]
abbrev kBA (a:List Str) (x:List (Nat×AV)):List (Nat×AV):=(0,vl encS a)::x
abbrev kBB (a:Bool):List (Nat×AV):=[(12,.bool a)]
abbrev kBC (a:Str) (b:Str):List Blk:=[.frozen [.str a,.str b]]
abbrev kBD (x:List (Nat×AV)):List (Nat×AV):=(5,.ptr 3 0)::x
abbrev kBE (a:List Int) (b:List Int):List AV:=[vl encI a,vl encI b]
abbrev kBF (a:List Int) (x:List (Nat×AV)):List (Nat×AV):=(0,vl encI a)::x
abbrev kBG (a:Int) (x:List (Nat×AV)):List (Nat×AV):=(0,.i a)::(3,.ptr 0 0)::x
abbrev kBH (a:List Int) (b:List Int):List (Nat×AV):=[(4,vl encI a),(5,vl encI b)]
abbrev kBI (a:Bool):List (Nat×AV):=[(8,.bool a)]
abbrev kBJ (a:Bool) (x:List (Nat×AV)):List (Nat×AV):=(3,.bool a)::x
abbrev kBK (a:Int):List (Nat×AV):=[(6,.ptr 0 0),(7,.i a)]
abbrev kBL (x:List (Nat×AV)):List (Nat×AV):=(10,.ptr 1 0)::x
abbrev kBM (a:Bool):List (Nat×AV):=[(13,.bool a)]
abbrev kBN (a:Bool):List (Nat×AV):=[(15,.bool a)]
abbrev kBO (a:Int) (b:Int):List AV:=[.int .u64 a,.int .u64 b]
abbrev kBP (a:Str):List (Nat×AV):=[(2,.str a)]
abbrev kBQ (x:List (Nat×AV)):List (Nat×AV):=(8,.int .u64 0)::x
abbrev nz1 (x:qm):List AV:=ni1 x.s x.w
abbrev nq1 (x:qo):List AV:=ni2 x.Num.s x.Num.w x.Den.s x.Den.w
theorem qlH:Tryz.prog.underlying 22=some .string:=by kernel_rfl
theorem st9:Tryz.prog.underlying 9=some .string:=by kernel_rfl
theorem vE:SlT ZT 75 3 1 8:=⟨by kernel_rfl,by kernel_rfl,by kernel_rfl,by kernel_rfl⟩
theorem ce3:CeT ZT 3:=⟨by kernel_rfl,by kernel_rfl⟩
theorem qlj:SlT ZT 58 22 1 16:=⟨by kernel_rfl,by kernel_rfl,by kernel_rfl,by kernel_rfl⟩
theorem qlT:CeT ZT 22:=⟨by kernel_rfl,by kernel_rfl⟩
theorem qaI:Tryz.prog.underlying 93=some (.slice 245):=by kernel_rfl
theorem zS:SlT ZT 93 245 1 8:=⟨by kernel_rfl,by kernel_rfl,by kernel_rfl,by kernel_rfl⟩
theorem z8:CeT ZT 245:=⟨by kernel_rfl,by kernel_rfl⟩
theorem qqH:SlT ZT 284 9 1 16:=⟨by kernel_rfl,by kernel_rfl,by kernel_rfl,by kernel_rfl⟩
theorem ce9:CeT ZT 9:=⟨by kernel_rfl,by kernel_rfl⟩
theorem sl199:SlT ZT 199 27 1 8:=⟨by kernel_rfl,by kernel_rfl,by kernel_rfl,by kernel_rfl⟩
theorem ce27:CeT ZT 27:=⟨by kernel_rfl,by kernel_rfl⟩
theorem qcQ:SlT ZT 169 100 4 64:=⟨by kernel_rfl,by kernel_rfl,by kernel_rfl,by kernel_rfl⟩
theorem qfc:AgT ZT 100 4:=⟨by kernel_rfl,by kernel_rfl⟩
def xG (a:Str):Option Int:=
 if(a==[48])=true then
 some 0
 else
 (if(a.length:Int)>0 then
 (idx a 0).bind fun b=>
 some (decide ((b.toNat:Int)=45))
 else
 some false:Option Bool).bind fun c=>
 if c=true then
 some (-1)
 else
 some 1
theorem qbF (a:Str) {res:Int} (h:xG a=some res):qb ZT (.fn 73) [.str a] [] (.i res) []:=by
 unfold xG at h
 refine Ub Tryz.func73 rfl rfl (m:=13) rfl (rs:=[.tmp 2]) rfl (l:=(kAS a [])) rfl ?_
 refine sh fol (kAS a []) ?_
 refine sq ?_
 refine sh fol (kAS a (kAs (a==[48]))) ?_
 refine ihB h (fun f h=>?_) (fun f h=>?_)
 ·refine sh fol [(2,.i 0)] ?_
  refine Goes.ret ?_
  obtain rfl:=si h
  exact(gw2 [.i 0] (Ua tI))
 refine Goes.skip ?_
 refine sq ?_
 refine sq ?_
 obtain⟨g,b,h⟩:=bnd h
 refine Goes.cut (s':=(ofG 13 (kBB g),[])) ?_ ?_
 ·rcases wyD b with⟨d,b⟩|⟨d,b⟩
  ·obtain⟨e,c,b⟩:=bnd b
   obtain rfl:=si b
   exact tr fol [3,5] (kBB (decide ((e.toNat:Int)=45))) (ac (gw d) (ac (hs (.done (.opt (yl ZT 22 (.str a) (.i 0))) (.int .u8 (e.toNat:Int))) (qaJ qlH c)) az))
  obtain rfl:=si b
  exact tr fol [3] [(12,.bool false)] (ac (gw d) az)
 refine ihB h (fun j h=>?_) (fun j h=>?_)
 ·refine sh fol [(2,.i (-1))] ?_
  refine Goes.ret ?_
  obtain rfl:=si h
  exact(gw2 [.i (-1)] (Ua tI))
 refine Goes.skip ?_
 refine sh fol [(2,.i 1)] ?_
 refine Goes.ret ?_
 obtain rfl:=si h
 exact(gw2 [.i 1] (Ua tI))
def qbx (a:Str):Option Str:=
 (xG a).bind fun b=>
 if b<0 then
 (cut a 1 (a.length:Int)).bind fun c=>
 some c
 else
 (xG a).bind fun d=>
 if d=0 then
 some a
 else
 (cat [45] a).bind fun e=>
 some e
theorem qfF (a:Str) {res:Str} (h:qbx a=some res):qb ZT (.fn 24) [.str a] [] (.str res) []:=by
 unfold qbx at h
 refine Ub Tryz.func24 rfl rfl (m:=14) rfl (rs:=[.tmp 2]) rfl (l:=(kAS a [])) rfl ?_
 refine sh fol (kAS a []) ?_
 refine sq ?_
 obtain⟨j,b,h⟩:=bnd h
 refine sq (gr fol [1] (kAS a [(5,.bool (decide (j<0)))]) (ac (cv (qbF a b)) az) ?_)
 refine ihD h (fun k h=>?_) (fun k h=>?_)
 ·obtain⟨f,c,h⟩:=bnd h
  refine sq (gr fol [1] (kBP f) (ac (hs (.done (.opt (qY ZT 22 (.str a) (some (.i 1)) none none)) (.str f)) (zX qlH (some 1) none c)) az) ?_)
  refine Goes.ret ?_
  obtain rfl:=si h
  exact(gw2 [.str f] (Ua tS))
 refine Goes.skip ?_
 refine sq ?_
 obtain⟨n,d,h⟩:=bnd h
 refine sq (gr fol [1] (kAS a [(10,.bool (decide (n=0)))]) (ac (cv (qbF a d)) az) ?_)
 refine ihD h (fun o h=>?_) (fun o h=>?_)
 ·refine sh fol (kBP a) ?_
  refine Goes.ret ?_
  obtain rfl:=si h
  exact(gw2 [.str a] (Ua tS))
 refine Goes.skip ?_
 obtain⟨g,e,h⟩:=bnd h
 refine sq (gr fol [1] (kBP g) (ac (hs (.done (.opt (kL ZT .add 22 (.const (.string ⟨#[45]⟩)) (.tmp 12) (.str [45]) (.str a))) (.str g)) (qaC e)) az) ?_)
 refine Goes.ret ?_
 obtain rfl:=si h
 exact(gw2 [.str g] (Ua tS))
def qU (least:Int):Nat->Int->Str->Option Str
 |0,_,_=>none
 |K+1,a,b=>
  (if a>0 then
  some true
  else
  some (decide ((b.length:Int)<least)):Option Bool).bind fun d=>
  if d=true then
  (cut [48,49,50,51,52,53,54,55,56,57] (a.tmod 10) (w64 ((a.tmod 10)+1))).bind fun e=>
  (cat e b).bind fun c=>
  qU least K (w64 (a.tdiv 10)) c
  else
  some b
def zM (N:Nat) (n:Int) (least:Int):Option Str:=
 (qU least N n []).bind fun a=>
 some a
theorem qaD (N:Nat) (n:Int) (least:Int) {res:Str} (h:zM N n least=some res):qb ZT (.fn 106) [.i n,.i least] [] (.str res) []:=by
 unfold zM at h
 refine Ub Tryz.func106 rfl rfl (m:=25) rfl (rs:=[.tmp 4]) rfl (l:=(kAD n least [])) rfl ?_
 refine sh fol (kAD n least []) ?_
 refine sh fol (kAD n least [(5,.str [])]) ?_
 refine sq (Goes.block ?_)
 obtain⟨k,g4,h⟩:=bnd h
 refine Goes.imp (Q:=fun x s'=>(x= .exit 0/\ ∃f,f=k/\Sub s' (ofG 25 [(5,.str f)],[]))) ?_ ?_
 ·refine Uc (fun M s=> ∃(b:Int) (d:Str),s=(ofG 25 (kAD b least [(5,.str d)]),[])/\qU least M b d=some k) ?_ (m:=N) ⟨_,_,rfl,g4⟩
  rintro M s ⟨b,d,rfl,g4⟩
  cases M with
  |zero=>simp only[qU]at g4;cases g4
  |succ M=>
   rw[qU]at g4
   refine sq ?_
   refine sq ?_
   obtain⟨p,a,g4⟩:=bnd g4
   refine Goes.cut (s':=(ofG 25 (kAD b least ((5,.str d)::(kBM p))),[])) ?_ ?_
   ·rcases wyD a with⟨j,a⟩|⟨j,a⟩
    ·obtain rfl:=si a
     exact tr fol [2] (kAD b least [(5,.str d),(13,.bool true)]) (ac (gw j) az)
    obtain rfl:=si a
    exact tr fol [2] (kAD b least ((5,.str d)::(kBM (decide ((d.length:Int)<least))))) (ac (gw j) az)
   refine ihB g4 (fun q g4=>?_) (fun q g4=>?_)
   ·refine Goes.skip ?_
    refine Goes.block ?_
    obtain⟨o,g,g4⟩:=bnd g4
    obtain⟨c,e,g4⟩:=bnd g4
    refine sq (gr fol [5,7] (kAD b least [(5,.str c)]) (ac (hs (.done (.opt (qY ZT 9 (.str [48,49,50,51,52,53,54,55,56,57]) (some (.i (b.tmod 10))) (some (.i (w64 ((b.tmod 10)+1)))) none)) (.str o)) (zX st9 (some (b.tmod 10)) (some (w64 ((b.tmod 10)+1))) g)) (ac (hs (.done (.opt (kL ZT .add 9 (.tmp 19) (.tmp 20) (.str o) (.str d))) (.str c)) (qaC e)) az)) ?_)
    refine gh fol (kAD (w64 (b.tdiv 10)) least [(5,.str c)]) ?_
    exact⟨M,(ofG 25 (kAD (w64 (b.tdiv 10)) least [(5,.str c)]),[]),Nat.lt_succ_self _,(Sub.refl _),_,_,rfl,g4⟩
   refine Goes.exit ?_
   obtain rfl:=si g4
   exact⟨rfl,_,rfl,(Sub.keep [5] rfl rfl)⟩
 rintro x s' ⟨rfl,f,rfl,hsub⟩
 refine Goes.sub hsub ?_
 refine sh fol (kA4 f) ?_
 refine Goes.ret ?_
 obtain rfl:=si h
 exact(gw2 [.str f] (Ua tS))
def vT (N:Nat) (a:qJ):Nat->Str->Int->Option Str
 |0,_,_=>none
 |K+1,e,b=>
  if b>=0 then
  (idx a.w b).bind fun f=>
  (zM N f 9).bind fun c=>
  (cat e c).bind fun d=>
  vT N a K d (w64 (b-1))
  else
  some e
def qaV (N:Nat) (a:qJ):Option Str:=
 if(a.w.length:Int)=0 then
 some [48]
 else
 (idx a.w (w64 ((a.w.length:Int)-1))).bind fun d=>
 (zM N d 1).bind fun e=>
 (vT N a N e (w64 ((a.w.length:Int)-2))).bind fun c=>
 if a.neg=true then
 (cat [45] c).bind fun b=>
 some b
 else
 some c
theorem qcZ (N:Nat) (a:qJ) {res:Str} (h:qaV N a=some res):qb ZT (.fn 98) [.agg (kAg a.neg a.w)] [] (.str res) []:=by
 unfold qaV at h
 refine Ub Tryz.func98 rfl rfl (m:=39) rfl (rs:=[.tmp 2]) rfl (l:=[(0,.agg [.bool a.neg,vl encI a.w])]) rfl ?_
 refine sg fol (kAe []) (kAV a.neg a.w []) ?_
 refine sq ?_
 refine sh fol (kAe (kBI (decide ((a.w.length:Int)=0)))) ?_
 refine ihD h (fun u h=>?_) (fun u h=>?_)
 ·refine sh fol [(2,.str [48])] ?_
  refine Goes.ret ?_
  obtain rfl:=si h
  exact(gw2 [.str [48]] (Ua tS))
 refine Goes.skip ?_
 obtain⟨v,c,h⟩:=bnd h
 obtain⟨r,n,h⟩:=bnd h
 refine sq (gr fol [6,7,8] (kAe [(3,.str r)]) (ac (iv vE encI c) (ac (lv 0 ce3 encI c rfl) (ac (cv (qaD N v 1 n)) az))) ?_)
 refine sq ?_
 refine sh fol (kAe (kAl r (w64 ((a.w.length:Int)-2)) [])) ?_
 refine Goes.block ?_
 obtain⟨t,g7,h⟩:=bnd h
 refine Goes.imp (Q:=fun x s'=>(x= .exit 0/\ ∃f,f=t/\Sub s' (ofG 39 (kAe [(3,.str f)]),(kAV a.neg a.w [])))) ?_ ?_
 ·refine Uc (fun M s=> ∃(o:Str) (d:Int),s=(ofG 39 (kAe (kAl o d [])),(kAV a.neg a.w []))/\vT N a M o d=some t) ?_ (m:=N) ⟨_,_,rfl,g7⟩
  rintro M s ⟨o,d,rfl,g7⟩
  cases M with
  |zero=>simp only[vT]at g7;cases g7
  |succ M=>
   rw[vT]at g7
   refine sq ?_
   refine sh fol (kAe (kAl o d [(23,.bool (decide (d>=0)))])) ?_
   refine ihD g7 (fun y g7=>?_) (fun y g7=>?_)
   ·refine Goes.skip ?_
    refine sq (Goes.block ?_)
    obtain⟨z,e,g7⟩:=bnd g7
    obtain⟨p,g,g7⟩:=bnd g7
    obtain⟨b,i,g7⟩:=bnd g7
    refine gr fol [4,5,6,7] (kAe (kAl b d [])) (ac (iv vE encI e) (ac (lv 0 ce3 encI e rfl) (ac (cv (qaD N z 9 g)) (ac (hs (.done (.opt (kL ZT .add 9 (.tmp 26) (.tmp 32) (.str o) (.str p))) (.str b)) (qaC i)) az)))) ?_
    refine gh fol (kAe (kAl b (w64 (d-1)) [])) ?_
    exact⟨M,(ofG 39 (kAe (kAl b (w64 (d-1)) [])),(kAV a.neg a.w [])),Nat.lt_succ_self _,(Sub.refl _),_,_,rfl,g7⟩
   refine Goes.exit ?_
   obtain rfl:=si g7
   exact⟨rfl,_,rfl,(Sub.keep [1,3] rfl rfl)⟩
 rintro x s' ⟨rfl,f,rfl,hsub⟩
 refine Goes.sub hsub ?_
 refine sq ?_
 refine sh fol [(3,.str f),(35,.bool a.neg)] ?_
 refine ihB h (fun q h=>?_) (fun q h=>?_)
 ·obtain⟨j,k,h⟩:=bnd h
  refine sq (gr fol [1] (kBP j) (ac (hs (.done (.opt (kL ZT .add 9 (.const (.string ⟨#[45]⟩)) (.tmp 36) (.str [45]) (.str f))) (.str j)) (qaC k)) az) ?_)
  refine Goes.ret ?_
  obtain rfl:=si h
  exact(gw2 [.str j] (Ua tS))
 refine Goes.skip ?_
 refine sh fol (kBP f) ?_
 refine Goes.ret ?_
 obtain rfl:=si h
 exact(gw2 [.str f] (Ua tS))
def kr (a:List Int) (b:List Int):Nat->Int->Option (Unit⊕Int)
 |0,_=>none
 |K+1,c=>
  if c>=0 then
  (idx a c).bind fun d=>
  (idx b c).bind fun e=>
  if d<e then
  some (.inr (-1))
  else
  if d>e then
  some (.inr 1)
  else
  kr a b K (w64 (c-1))
  else
  some (.inl ())
def jC (N:Nat) (a:List Int) (b:List Int):Option Int:=
 if(!decide ((a.length:Int)=(b.length:Int)))=true then
 if(a.length:Int)<(b.length:Int)then
 some (-1)
 else
 some 1
 else
 (kr a b N (w64 ((a.length:Int)-1))).bind (fun
 |(.inl ())=>
 some 0
 |(.inr c)=>
 some c)
theorem qbm (N:Nat) (a:List Int) (b:List Int) {res:Int} (h:jC N a b=some res):qb ZT (.fn 175) (kBE a b) [] (.i res) []:=by
 unfold jC at h
 refine Ub Tryz.func175 rfl rfl (m:=41) rfl (rs:=[.tmp 4]) rfl (l:=(kI a b [])) rfl ?_
 refine sh fol (kI a b []) ?_
 refine sq ?_
 refine sh fol (kI a b [(10,.bool (!decide ((a.length:Int)=(b.length:Int))))]) ?_
 refine ihB h (fun o h=>?_) (fun o h=>?_)
 ·refine sq ?_
  refine sh fol (kBN (decide ((a.length:Int)<(b.length:Int)))) ?_
  refine ihD h (fun p h=>?_) (fun p h=>?_)
  ·refine sh fol [(4,.i (-1))] ?_
   refine Goes.ret ?_
   obtain rfl:=si h
   exact(gw2 [.i (-1)] (Ua tI))
  refine Goes.skip ?_
  refine sh fol [(4,.i 1)] ?_
  refine Goes.ret ?_
  obtain rfl:=si h
  exact(gw2 [.i 1] (Ua tI))
 refine Goes.skip ?_
 refine sq ?_
 refine sh fol (kI a b (kA6 (w64 ((a.length:Int)-1)))) ?_
 refine Goes.block ?_
 obtain⟨f,g4,h⟩:=bnd h
 refine Goes.imp (Q:=fun x s'=>(x= .exit 0/\(.inl ())=f/\Sub s' (ofG 41 [],[]))\/(x= .ret/\ ∃j,(.inr j)=f/\yB ZT [.tmp 4] (.i j) .ret s')) ?_ ?_
 ·refine Uc (fun M s=> ∃(e:Int),s=(ofG 41 (kI a b (kA6 e)),[])/\kr a b M e=some f) ?_ (m:=N) ⟨_,rfl,g4⟩
  rintro M s ⟨e,rfl,g4⟩
  cases M with
  |zero=>simp only[kr]at g4;cases g4
  |succ M=>
   rw[kr]at g4
   refine sq ?_
   refine sh fol (kI a b [(5,.i e),(20,.bool (decide (e>=0)))]) ?_
   refine ihD g4 (fun q g4=>?_) (fun q g4=>?_)
   ·refine Goes.skip ?_
    refine sq (Goes.block ?_)
    refine sq ?_
    obtain⟨k,c,g4⟩:=bnd g4
    obtain⟨n,d,g4⟩:=bnd g4
    refine sq (gr fol [2,3,6,7] (kI a b [(5,.i e),(31,.bool (decide (k<n)))]) (ac (iv vE encI c) (ac (lv 0 ce3 encI c rfl) (ac (iv vE encI d) (ac (lv 0 ce3 encI d rfl) az)))) ?_)
    refine ihD g4 (fun r g4=>?_) (fun r g4=>?_)
    ·refine sh fol [(4,.i (-1))] ?_
     refine Goes.ret ?_
     obtain rfl:=si g4
     exact Or.inr (⟨rfl,_,rfl,(gw2 [.i (-1)] (Ua tI))⟩)
    refine Goes.skip ?_
    refine sq (gr fol [2,3,6,7] (kI a b [(5,.i e),(40,.bool (decide (k>n)))]) (ac (iv vE encI c) (ac (lv 0 ce3 encI c rfl) (ac (iv vE encI d) (ac (lv 0 ce3 encI d rfl) az)))) ?_)
    refine ihD g4 (fun g g4=>?_) (fun g g4=>?_)
    ·refine sh fol [(4,.i 1)] ?_
     refine Goes.ret ?_
     obtain rfl:=si g4
     exact Or.inr (⟨rfl,_,rfl,(gw2 [.i 1] (Ua tI))⟩)
    refine Goes.skip ?_
    refine gh fol (kI a b (kA6 (w64 (e-1)))) ?_
    exact⟨M,(ofG 41 (kI a b (kA6 (w64 (e-1)))),[]),Nat.lt_succ_self _,(Sub.refl _),_,rfl,g4⟩
   refine Goes.exit ?_
   obtain rfl:=si g4
   exact Or.inl (⟨rfl,rfl,(Sub.keep [] rfl rfl)⟩)
 rintro x s' (⟨rfl,rfl,hsub⟩|⟨rfl,t,rfl,hret⟩)
 ·try dsimp only at h
  refine Goes.sub hsub ?_
  refine sh fol [(4,.i 0)] ?_
  refine Goes.ret ?_
  obtain rfl:=si h
  exact(gw2 [.i 0] (Ua tI))
 try dsimp only at h
 obtain rfl:=si h
 exact hret
def yG:Nat->(List Int)->Option (List Int)
 |0,_=>none
 |K+1,a=>
  (if(a.length:Int)>0 then
  (idx a (w64 ((a.length:Int)-1))).bind fun b=>
  some (decide (b=0))
  else
  some false:Option Bool).bind fun c=>
  if c=true then
  (cut a 0 (w64 ((a.length:Int)-1))).bind fun d=>
  yG K d
  else
  some a
def vX (N:Nat) (w:List Int):Option (List Int):=
 (yG N w).bind fun a=>
 some a
theorem yI (N:Nat) (w:List Int) {res:List Int} (h:vX N w=some res):qb ZT (.fn 232) [vl encI w] [] (vl encI res) []:=by
 unfold vX at h
 refine Ub Tryz.func232 rfl rfl (m:=21) rfl (rs:=[.tmp 2]) rfl (l:=(kBF w [])) rfl ?_
 refine sh fol (kBF w []) ?_
 refine sq (Goes.block ?_)
 obtain⟨j,g3,h⟩:=bnd h
 refine Goes.imp (Q:=fun x s'=>(x= .exit 0/\ ∃d,d=j/\Sub s' (ofG 21 (kBF d []),[]))) ?_ ?_
 ·refine Uc (fun M s=> ∃(b:List Int),s=(ofG 21 (kBF b []),[])/\yG M b=some j) ?_ (m:=N) ⟨_,rfl,g3⟩
  rintro M s ⟨b,rfl,g3⟩
  cases M with
  |zero=>simp only[yG]at g3;cases g3
  |succ M=>
   rw[yG]at g3
   refine sq ?_
   refine sq ?_
   obtain⟨k,a,g3⟩:=bnd g3
   refine Goes.cut (s':=(ofG 21 (kBF b [(14,.bool k)]),[])) ?_ ?_
   ·rcases wyD a with⟨f,a⟩|⟨f,a⟩
    ·obtain⟨n,c,a⟩:=bnd a
     obtain rfl:=si a
     exact tr fol [3,8,9] (kBF b [(14,.bool (decide (n=0)))]) (ac (gw f) (ac (iv vE encI c) (ac (lv 0 ce3 encI c rfl) az)))
    obtain rfl:=si a
    exact tr fol [3] (kBF b [(14,.bool false)]) (ac (gw f) az)
   refine ihB g3 (fun o g3=>?_) (fun o g3=>?_)
   ·refine Goes.skip ?_
    refine Goes.block ?_
    obtain⟨g,e,g3⟩:=bnd g3
    refine gr fol [4] (kBF g []) (ac (hs (.done (.opt (qY ZT 75 (vl encI b) none (some (.i (w64 ((b.length:Int)-1)))) none)) (vl encI g)) (qmj vE (E:=encI) rfl none (some (w64 ((b.length:Int)-1))) e)) az) ?_
    exact⟨M,(ofG 21 (kBF g []),[]),Nat.lt_succ_self _,(Sub.refl _),_,rfl,g3⟩
   refine Goes.exit ?_
   obtain rfl:=si g3
   exact⟨rfl,_,rfl,(Sub.keep [0] rfl rfl)⟩
 rintro x s' ⟨rfl,d,rfl,hsub⟩
 refine Goes.sub hsub ?_
 refine sh fol [(2,vl encI d)] ?_
 refine Goes.ret ?_
 obtain rfl:=si h
 exact(gw2 [vl encI d] (Ua (qy encI _ (nl rfl))))
def zF (a:List Int) (b:List Int) (g:Int):Nat->(List Int)->Int->Int->Option ((List Int)×Int)
 |0,_,_,_=>none
 |K+1,h,i,c=>
  if c<(b.length:Int)then
  (idx h (w64 (g+c))).bind fun d=>
  (idx a g).bind fun e=>
  (idx b c).bind fun f=>
  (put h (w64 (g+c)) ((w64 ((w64 (d+(w64 (e*f))))+i)).tmod 1000000000)).bind fun j=>
  zF a b g K j (w64 ((w64 ((w64 (d+(w64 (e*f))))+i)).tdiv 1000000000)) (w64 (c+1))
  else
  some (h,i)
def zI (N:Nat) (a:List Int) (b:List Int):Nat->(List Int)->Int->Option (List Int)
 |0,_,_=>none
 |K+1,h,c=>
  if c<(a.length:Int)then
  (zF a b c N h 0 0).bind fun(d,e)=>
  (idx d (w64 (c+(b.length:Int)))).bind fun f=>
  (put d (w64 (c+(b.length:Int))) (w64 (f+e))).bind fun g=>
  zI N a b K g (w64 (c+1))
  else
  some h
def vK (N:Nat) (a:List Int) (b:List Int):Option (List Int):=
 (mk 8 (w64 ((a.length:Int)+(b.length:Int))) 0).bind fun d=>
 (zI N a b N d 0).bind fun e=>
 (vX N e).bind fun c=>
 some c
theorem qaT (N:Nat) (a:List Int) (b:List Int) {res:List Int} (h:vK N a b=some res):qb ZT (.fn 177) (kBE a b) [] (vl encI res) []:=by
 unfold vK at h
 refine Ub Tryz.func177 rfl rfl (m:=72) rfl (rs:=[.tmp 4]) rfl (l:=(kI a b [])) rfl ?_
 refine sh fol (kI a b []) ?_
 obtain⟨H,I,h⟩:=bnd h
 refine sq (gq fol [5] (kI a b (kC H [])) (kB H []) (ac (hs (.run [] (jf ZT 75 (.i (w64 ((a.length:Int)+(b.length:Int)))) (.i (w64 ((a.length:Int)+(b.length:Int))))) [] (.slice 0 0 H.length H.length 1) (kB H []) false) (qcX vE (E:=encI) (z:=0) rfl (by kernel_rfl) I rfl)) az) ?_)
 refine sq ?_
 refine sh fol (kI a b (kC H [(6,.i 0)])) ?_
 refine Goes.block ?_
 obtain⟨L,g5,h⟩:=bnd h
 refine Goes.imp (Q:=fun x s'=>(x= .exit 0/\ ∃t,t=L/\Sub s' (ofG 72 (kC t []),(kB t [])))) ?_ ?_
 ·refine Uc (fun M s=> ∃(D:List Int) (c:Int),s=(ofG 72 (kI a b (kC D [(6,.i c)])),(kB D []))/\zI N a b M D c=some L) ?_ (m:=N) ⟨_,_,rfl,g5⟩
  rintro M s ⟨D,c,rfl,g5⟩
  cases M with
  |zero=>simp only[zI]at g5;cases g5
  |succ M=>
   rw[zI]at g5
   refine sq ?_
   refine sh fol (kI a b (kC D [(6,.i c),(19,.bool (decide (c<(a.length:Int))))])) ?_
   refine ihD g5 (fun O g5=>?_) (fun O g5=>?_)
   ·refine Goes.skip ?_
    refine sq (Goes.block ?_)
    refine sh fol (kI a b (kC D [(6,.i c),(7,.i 0)])) ?_
    refine sq ?_
    refine sh fol (kI a b (kC D [(6,.i c),(7,.i 0),(8,.i 0)])) ?_
    refine Goes.block ?_
    obtain⟨J,g12,g5⟩:=bnd g5
    refine Goes.imp (Q:=fun x s'=>(x= .exit 2/\ ∃d u,(d,u)=J/\Sub s' (ofG 72 (kI a b (kC d (kA5 c u))),(kB d [])))) ?_ ?_
    ·refine Uc (fun M s=> ∃(p:List Int) (r:Int) (o:Int),s=(ofG 72 (kI a b (kC p ((6,.i c)::(kAX r o)))),(kB p []))/\zF a b c M p r o=some J) ?_ (m:=N) ⟨_,_,_,rfl,g12⟩
     rintro M s ⟨p,r,o,rfl,g12⟩
     cases M with
     |zero=>simp only[zF]at g12;cases g12
     |succ M=>
      rw[zF]at g12
      refine sq ?_
      refine sh fol (kI a b (kC p [(6,.i c),(7,.i r),(8,.i o),(25,.bool (decide (o<(b.length:Int))))])) ?_
      refine ihD g12 (fun K g12=>?_) (fun K g12=>?_)
      ·refine Goes.skip ?_
       refine sq (Goes.block ?_)
       obtain⟨e,f,g12⟩:=bnd g12
       obtain⟨g,v,g12⟩:=bnd g12
       obtain⟨j,w,g12⟩:=bnd g12
       refine sq (gr fol [4,5,8,9,12,13] (kI a b (kC p ((6,.i c)::(kAo o (w64 ((w64 (e+(w64 (g*j))))+r)) [])))) (ac (hs (.done (.opt (qj ZT 75 (.slice 0 0 p.length p.length 1) (.i (w64 (c+o))))) (.ptr 0 ((w64 (c+o):Int).toNat*1+0))) (qao vE f)) (ac (hs (.run [0] (jo ZT 3 (.ptr 0 ((w64 (c+o):Int).toNat*1+0))) (kB p []) (.i e) (kB p []) false) (qcC ce3 (E:=encI) (l:=p) rfl rfl f (nl rfl) rfl)) (ac (iv vE encI v) (ac (lv 0 ce3 encI v rfl) (ac (iv vE encI w) (ac (lv 0 ce3 encI w rfl) az)))))) ?_)
       obtain⟨k,A,g12⟩:=bnd g12
       refine sq (gq fol [6,7] (kI a b (kC p ((6,.i c)::(kAo o (w64 ((w64 (e+(w64 (g*j))))+r)) [])))) (kB k []) (ac (hs (.done (.opt (qj ZT 75 (.slice 0 0 p.length p.length 1) (.i (w64 (c+o))))) (.ptr 0 ((w64 (c+o):Int).toNat*1+0))) (qao vE f)) (ac (hs (.run [0] (qw ZT 3 (.ptr 0 ((w64 (c+o):Int).toNat*1+0)) (.i ((w64 ((w64 (e+(w64 (g*j))))+r)).tmod 1000000000))) (kB p []) .undef (kB k []) true) (qae (E:=encI) (l:=p) (y:=(w64 ((w64 (e+(w64 (g*j))))+r)).tmod 1000000000) rfl (show _=some 1 by kernel_rfl) rfl f rfl rfl rfl rfl rfl A rfl)) az)) ?_)
       refine Goes.sub (show Sub (ofG 72 (kI a b (kC p ((6,.i c)::(kAo o (w64 ((w64 (e+(w64 (g*j))))+r)) [])))),(kB k [])) (ofG 72 (kI a b (kC k ((6,.i c)::(kAo o (w64 ((w64 (e+(w64 (g*j))))+r)) [])))),(kB k []))from(Sub.norm [] [some 0] rfl rfl (.keep (.same (qf encI _)) (.keep (.same (qf encI _)) (.keep (.sliceE rfl (vI A)) (.keep (.same nI) (.keep (.same nI) (.keep (.same nI) .nil)))))) (.ks .nil))) ?_
       refine gh fol (kI a b (kC k ((6,.i c)::(kAX (w64 ((w64 ((w64 (e+(w64 (g*j))))+r)).tdiv 1000000000)) o)))) ?_
       refine gh fol (kI a b (kC k ((6,.i c)::(kAX (w64 ((w64 ((w64 (e+(w64 (g*j))))+r)).tdiv 1000000000)) (w64 (o+1)))))) ?_
       exact⟨M,(ofG 72 (kI a b (kC k ((6,.i c)::(kAX (w64 ((w64 ((w64 (e+(w64 (g*j))))+r)).tdiv 1000000000)) (w64 (o+1)))))),(kB k [])),Nat.lt_succ_self _,(Sub.refl _),_,_,_,rfl,g12⟩
      refine Goes.exit ?_
      obtain rfl:=si g12
      exact⟨rfl,_,_,rfl,(Sub.keep [0,1,5,6,7] rfl rfl)⟩
    rintro x s' ⟨rfl,d,u,rfl,hsub⟩
    try dsimp only at g5
    refine Goes.sub hsub ?_
    obtain⟨F,n,g5⟩:=bnd g5
    obtain⟨q,B,g5⟩:=bnd g5
    refine gq fol [10,11,14,15] (kI a b (kC d [(6,.i c)])) (kB q []) (ac (hs (.done (.opt (qj ZT 75 (.slice 0 0 d.length d.length 1) (.i (w64 (c+(b.length:Int)))))) (.ptr 0 ((w64 (c+(b.length:Int)):Int).toNat*1+0))) (qao vE n)) (ac (hs (.run [0] (jo ZT 3 (.ptr 0 ((w64 (c+(b.length:Int)):Int).toNat*1+0))) (kB d []) (.i F) (kB d []) false) (qcC ce3 (E:=encI) (l:=d) rfl rfl n (nl rfl) rfl)) (ac (hs (.done (.opt (qj ZT 75 (.slice 0 0 d.length d.length 1) (.i (w64 (c+(b.length:Int)))))) (.ptr 0 ((w64 (c+(b.length:Int)):Int).toNat*1+0))) (qao vE n)) (ac (hs (.run [0] (qw ZT 3 (.ptr 0 ((w64 (c+(b.length:Int)):Int).toNat*1+0)) (.i (w64 (F+u)))) (kB d []) .undef (kB q []) true) (qae (E:=encI) (l:=d) (y:=w64 (F+u)) rfl (show _=some 1 by kernel_rfl) rfl n rfl rfl rfl rfl rfl B rfl)) az)))) ?_
    refine Goes.sub (show Sub (ofG 72 (kI a b (kC d [(6,.i c)])),(kB q [])) (ofG 72 (kI a b (kC q [(6,.i c)])),(kB q []))from(Sub.norm [] [some 0] rfl rfl (.keep (.same (qf encI _)) (.keep (.same (qf encI _)) (.keep (.sliceE rfl (vI B)) (.keep (.same nI) .nil)))) (.ks .nil))) ?_
    refine gh fol (kI a b (kC q [(6,.i (w64 (c+1)))])) ?_
    exact⟨M,(ofG 72 (kI a b (kC q [(6,.i (w64 (c+1)))])),(kB q [])),Nat.lt_succ_self _,(Sub.refl _),_,_,rfl,g5⟩
   refine Goes.exit ?_
   obtain rfl:=si g5
   exact⟨rfl,_,rfl,(Sub.keep [5] rfl rfl)⟩
 rintro x s' ⟨rfl,t,rfl,hsub⟩
 refine Goes.sub hsub ?_
 obtain⟨C,G,h⟩:=bnd h
 refine sq (gq fol [1] [(4,vl encI C)] (kAY t) (ac (hs (.callF 232 [.slice 0 0 t.length t.length 1] (kB t []) [0] [vl encI t] (vl encI C)) (yj (FzL.cons (Fz.sl (E:=encI) rfl rfl (nl rfl)) FzL.nil) (yI N t G) (qy encI _ (nl rfl)))) az) ?_)
 refine Goes.sub (show Sub (ofG 72 [(4,vl encI C)],(kAY t)) (ofG 72 [(4,vl encI C)],[])from(Sub.norm [] [] rfl rfl (.keep (.same (qf encI _)) .nil) .nil)) ?_
 refine Goes.ret ?_
 obtain rfl:=si h
 exact(gw2 [vl encI C] (Ua (qy encI _ (nl rfl))))
def zV (a:List Int) (d:Int):Nat->(List Int)->Int->Int->Option ((List Int)×Int)
 |0,_,_,_=>none
 |K+1,c,e,b=>
  if b>=0 then
  (idx a b).bind fun i=>
  (qcf .i64 (w64 ((w64 (e*1000000000))+i)) d).bind fun f=>
  (idx c b).bind fun j=>
  (put c b f).bind fun g=>
  (qeA .i64 (w64 ((w64 (e*1000000000))+i)) d).bind fun h=>
  zV a d K g h (w64 (b-1))
  else
  some (c,e)
def yP (N:Nat) (a:List Int) (d:Int):Option ((List Int)×Int):=
 (mk 8 (a.length:Int) 0).bind fun c=>
 (zV a d N c 0 (w64 ((a.length:Int)-1))).bind fun(e,f)=>
 (vX N e).bind fun b=>
 some (b,f)
theorem qcF (N:Nat) (a:List Int) (d:Int) {res:(List Int)×Int} (h:yP N a d=some res):qb ZT (.fn 231) [vl encI a,.i d] [] (.tuple [vl encI res.1,.i res.2]) []:=by
 unfold yP at h
 refine Ub Tryz.func231 rfl rfl (m:=39) rfl (rs:=[.tmp 4,.tmp 5]) rfl (l:=(kAh a d [])) rfl ?_
 refine sh fol (kAh a d []) ?_
 obtain⟨q,B,h⟩:=bnd h
 refine sq (gq fol [2] (kAh a d (kU q [])) (kB q []) (ac (hs (.run [] (jf ZT 75 (.i (a.length:Int)) (.i (a.length:Int))) [] (.slice 0 0 q.length q.length 1) (kB q []) false) (qcX vE (E:=encI) (z:=0) rfl (by kernel_rfl) B rfl)) az) ?_)
 refine sh fol (kAh a d (kU q [(7,.i 0)])) ?_
 refine sq ?_
 refine sh fol (kAh a d (kU q [(7,.i 0),(8,.i (w64 ((a.length:Int)-1)))])) ?_
 refine Goes.block ?_
 obtain⟨C,g7,h⟩:=bnd h
 refine Goes.imp (Q:=fun x s'=>(x= .exit 0/\ ∃f r,(f,r)=C/\Sub s' (ofG 39 (kU f [(7,.i r)]),(kB f [])))) ?_ ?_
 ·refine Uc (fun M s=> ∃(e:List Int) (n:Int) (c:Int),s=(ofG 39 (kAh a d (kU e (kAX n c))),(kB e []))/\zV a d M e n c=some C) ?_ (m:=N) ⟨_,_,_,rfl,g7⟩
  rintro M s ⟨e,n,c,rfl,g7⟩
  cases M with
  |zero=>simp only[zV]at g7;cases g7
  |succ M=>
   rw[zV]at g7
   refine sq ?_
   refine sh fol (kAh a d (kU e [(7,.i n),(8,.i c),(17,.bool (decide (c>=0)))])) ?_
   refine ihD g7 (fun D g7=>?_) (fun D g7=>?_)
   ·refine Goes.skip ?_
    refine sq (Goes.block ?_)
    obtain⟨A,p,g7⟩:=bnd g7
    refine sq (gr fol [4,5] (kAh a d (kU e (kAo c (w64 ((w64 (n*1000000000))+A)) []))) (ac (iv vE encI p) (ac (lv 0 ce3 encI p rfl) az)) ?_)
    obtain⟨t,u,g7⟩:=bnd g7
    obtain⟨F,g,g7⟩:=bnd g7
    obtain⟨b,j,g7⟩:=bnd g7
    refine sq (gq fol [4,5,6] (kAh a d (kU e (kAo c (w64 ((w64 (n*1000000000))+A)) []))) (kB b []) (ac (hs (.done (.opt (kL ZT .quo 3 (.tmp 29) (.tmp 30) (.i (w64 ((w64 (n*1000000000))+A))) (.i d))) (.i t)) (qbY u)) (ac (hs (.done (.opt (qj ZT 75 (.slice 0 0 e.length e.length 1) (.i c))) (.ptr 0 ((c:Int).toNat*1+0))) (qao vE g)) (ac (hs (.run [0] (qw ZT 3 (.ptr 0 ((c:Int).toNat*1+0)) (.i t)) (kB e []) .undef (kB b []) true) (qae (E:=encI) (l:=e) (y:=t) rfl (show _=some 1 by kernel_rfl) rfl g rfl rfl rfl rfl rfl j rfl)) az))) ?_)
    refine Goes.sub (show Sub (ofG 39 (kAh a d (kU e (kAo c (w64 ((w64 (n*1000000000))+A)) []))),(kB b [])) (ofG 39 (kAh a d (kU b (kAo c (w64 ((w64 (n*1000000000))+A)) []))),(kB b []))from(Sub.norm [] [some 0] rfl rfl (.keep (.same (qf encI _)) (.keep (.same nI) (.keep (.sliceE rfl (vI j)) (.keep (.same nI) (.keep (.same nI) .nil))))) (.ks .nil))) ?_
    obtain⟨o,v,g7⟩:=bnd g7
    refine gr fol [2] (kAh a d (kU b (kAX o c))) (ac (hs (.done (.opt (kL ZT .rem 3 (.tmp 33) (.tmp 34) (.i (w64 ((w64 (n*1000000000))+A))) (.i d))) (.i o)) (qfU v)) az) ?_
    refine gh fol (kAh a d (kU b (kAX o (w64 (c-1))))) ?_
    exact⟨M,(ofG 39 (kAh a d (kU b (kAX o (w64 (c-1))))),(kB b [])),Nat.lt_succ_self _,(Sub.refl _),_,_,_,rfl,g7⟩
   refine Goes.exit ?_
   obtain rfl:=si g7
   exact⟨rfl,_,_,rfl,(Sub.keep [6,7] rfl rfl)⟩
 rintro x s' ⟨rfl,f,r,rfl,hsub⟩
 try dsimp only at h
 refine Goes.sub hsub ?_
 obtain⟨k,w,h⟩:=bnd h
 refine sq (gq fol [1] ((4,vl encI k)::(kA6 r)) (kAY f) (ac (hs (.callF 232 [.slice 0 0 f.length f.length 1] (kB f []) [0] [vl encI f] (vl encI k)) (yj (FzL.cons (Fz.sl (E:=encI) rfl rfl (nl rfl)) FzL.nil) (yI N f w) (qy encI _ (nl rfl)))) az) ?_)
 refine Goes.sub (show Sub (ofG 39 ((4,vl encI k)::(kA6 r)),(kAY f)) (ofG 39 ((4,vl encI k)::(kA6 r)),[])from(Sub.norm [] [] rfl rfl (.keep (.same (qf encI _)) (.keep (.same nI) .nil)) .nil)) ?_
 refine Goes.ret ?_
 obtain rfl:=si h
 exact(gw2 [vl encI k,.i r] (FzW.tuple (qc.cons (Ua (qy encI _ (nl rfl))) (qc.cons (Ua tI) qc.nil))))
def vC (u:List Int) (v:List Int) (j:Int):Nat->Int->Int->Option (Int⊕Int)
 |0,_,_=>none
 |K+1,c,a=>
  (if a>=1000000000 then
  some true
  else
  (idx v (w64 ((v.length:Int)-2))).bind fun d=>
  (idx u (w64 ((w64 (j+(v.length:Int)))-2))).bind fun e=>
  some (decide ((w64 (a*d))>(w64 ((w64 (c*1000000000))+e)))):Option Bool).bind fun f=>
  if f=true then
  (idx v (w64 ((v.length:Int)-1))).bind fun b=>
  if(w64 (c+b))>=1000000000 then
  some (.inr (w64 (a-1)))
  else
  vC u v j K (w64 (c+b)) (w64 (a-1))
  else
  some (.inl a)
def qah (N:Nat) (u:List Int) (v:List Int) (j:Int):Option Int:=
 (idx u (w64 (j+(v.length:Int)))).bind fun b=>
 (idx u (w64 ((w64 (j+(v.length:Int)))-1))).bind fun c=>
 (idx v (w64 ((v.length:Int)-1))).bind fun d=>
 (qcf .i64 (w64 ((w64 (b*1000000000))+c)) d).bind fun e=>
 (qeA .i64 (w64 ((w64 (b*1000000000))+c)) d).bind fun f=>
 (vC u v j N f e).bind (fun
 |(.inl g)=>
 some g
 |(.inr a)=>
 some a)
theorem qhP (N:Nat) (u:List Int) (v:List Int) (j:Int) {res:Int} (h:qah N u v j=some res):qb ZT (.fn 233) [vl encI u,vl encI v,.i j] [] (.i res) []:=by
 unfold qah at h
 refine Ub Tryz.func233 rfl rfl (m:=77) rfl (rs:=[.tmp 6]) rfl (l:=(kI u v [(2,.i j)])) rfl ?_
 refine sh fol (kI u v [(2,.i j)]) ?_
 refine sh fol (kI u v [(2,.i j),(7,.i (v.length:Int))]) ?_
 obtain⟨y,n,h⟩:=bnd h
 obtain⟨z,o,h⟩:=bnd h
 refine sq (gr fol [4,5,12,13] (kI u v ((2,.i j)::(kAX (v.length:Int) (w64 ((w64 (y*1000000000))+z))))) (ac (iv vE encI n) (ac (lv 0 ce3 encI n rfl) (ac (iv vE encI o) (ac (lv 0 ce3 encI o rfl) az)))) ?_)
 obtain⟨G,b,h⟩:=bnd h
 obtain⟨H,q,h⟩:=bnd h
 obtain⟨I,r,h⟩:=bnd h
 refine sq (gr fol [4,5,6,11,12,13] (kI u v (kAn j (v.length:Int) H I [])) (ac (iv vE encI b) (ac (lv 0 ce3 encI b rfl) (ac (hs (.done (.opt (kL ZT .quo 3 (.tmp 28) (.tmp 33) (.i (w64 ((w64 (y*1000000000))+z))) (.i G))) (.i H)) (qbY q)) (ac (iv vE encI b) (ac (lv 0 ce3 encI b rfl) (ac (hs (.done (.opt (kL ZT .rem 3 (.tmp 35) (.tmp 40) (.i (w64 ((w64 (y*1000000000))+z))) (.i G))) (.i I)) (qfU r)) az)))))) ?_)
 refine sq (Goes.block ?_)
 obtain⟨A,g9,h⟩:=bnd h
 refine Goes.imp (Q:=fun x s'=>(x= .exit 0/\ ∃t,(.inl t)=A/\Sub s' (ofG 77 [(9,.i t)],[]))\/(x= .ret/\ ∃w,(.inr w)=A/\yB ZT [.tmp 6] (.i w) .ret s')) ?_ ?_
 ·refine Uc (fun M s=> ∃(d:Int) (c:Int),s=(ofG 77 (kI u v (kAn j (v.length:Int) c d [])),[])/\vC u v j M d c=some A) ?_ (m:=N) ⟨_,_,rfl,g9⟩
  rintro M s ⟨d,c,rfl,g9⟩
  cases M with
  |zero=>simp only[vC]at g9;cases g9
  |succ M=>
   rw[vC]at g9
   refine sq ?_
   refine sq ?_
   obtain⟨B,a,g9⟩:=bnd g9
   refine Goes.cut (s':=(ofG 77 (kI u v (kAn j (v.length:Int) c d [(63,.bool B)])),[])) ?_ ?_
   ·rcases wyD a with⟨p,a⟩|⟨p,a⟩
    ·obtain rfl:=si a
     exact tr fol [2] (kI u v (kAn j (v.length:Int) c d [(63,.bool true)])) (ac (gw p) az)
    obtain⟨C,e,a⟩:=bnd a
    obtain⟨D,f,a⟩:=bnd a
    obtain rfl:=si a
    exact tr fol [2,7,8,17,18] (kI u v (kAn j (v.length:Int) c d [(63,.bool (decide ((w64 (c*C))>(w64 ((w64 (d*1000000000))+D)))))])) (ac (gw p) (ac (iv vE encI e) (ac (lv 0 ce3 encI e rfl) (ac (iv vE encI f) (ac (lv 0 ce3 encI f rfl) az)))))
   refine ihB g9 (fun E g9=>?_) (fun E g9=>?_)
   ·refine Goes.skip ?_
    refine Goes.block ?_
    refine sh fol (kI u v (kAn j (v.length:Int) (w64 (c-1)) d [])) ?_
    obtain⟨k,g,g9⟩:=bnd g9
    refine sq (gr fol [4,5] (kI u v (kAn j (v.length:Int) (w64 (c-1)) (w64 (d+k)) [])) (ac (iv vE encI g) (ac (lv 0 ce3 encI g rfl) az)) ?_)
    refine sh fol (kI u v (kAn j (v.length:Int) (w64 (c-1)) (w64 (d+k)) [(74,.bool (decide ((w64 (d+k))>=1000000000)))])) ?_
    refine ihD g9 (fun F g9=>?_) (fun F g9=>?_)
    ·refine sh fol [(6,.i (w64 (c-1)))] ?_
     refine Goes.ret ?_
     obtain rfl:=si g9
     exact Or.inr (⟨rfl,_,rfl,(gw2 [.i (w64 (c-1))] (Ua tI))⟩)
    refine Goes.skip ?_
    exact⟨M,(ofG 77 (kI u v (kAn j (v.length:Int) (w64 (c-1)) (w64 (d+k)) [])),[]),Nat.lt_succ_self _,(Sub.keep [0,1,2,7,9,10] rfl rfl),_,_,rfl,g9⟩
   refine Goes.exit ?_
   obtain rfl:=si g9
   exact Or.inl (⟨rfl,_,rfl,(Sub.keep [9] rfl rfl)⟩)
 rintro x s' (⟨rfl,t,rfl,hsub⟩|⟨rfl,J,rfl,hret⟩)
 ·try dsimp only at h
  refine Goes.sub hsub ?_
  refine sh fol [(6,.i t)] ?_
  refine Goes.ret ?_
  obtain rfl:=si h
  exact(gw2 [.i t] (Ua tI))
 try dsimp only at h
 obtain rfl:=si h
 exact hret
def jg (a:List Int):Nat->(List Int)->Option (List Int)
 |0,_=>none
 |K+1,b=>
  if(b.length:Int)<(w64 ((a.length:Int)+1))then
  (app 8 b [0]).bind fun c=>
  jg a K c
  else
  some b
def qX (h:List Int) (e:Int) (a:Int):Nat->(List Int)->Int->Int->Option ((List Int)×Int)
 |0,_,_,_=>none
 |K+1,f,b,c=>
  if c<(h.length:Int)then
  (idx h c).bind fun d=>
  (idx f (w64 (c+e))).bind fun g=>
  ((if(w64 (g-((w64 ((w64 (a*d))+b)).tmod 1000000000)))<0 then
  some (w64 ((w64 ((w64 ((w64 (a*d))+b)).tdiv 1000000000))+1),w64 ((w64 (g-((w64 ((w64 (a*d))+b)).tmod 1000000000)))+1000000000))
  else
  some (w64 ((w64 ((w64 (a*d))+b)).tdiv 1000000000),w64 (g-((w64 ((w64 (a*d))+b)).tmod 1000000000))):Option (Int×Int))).bind fun(i,j)=>
  (put f (w64 (c+e)) j).bind fun k=>
  qX h e a K k i (w64 (c+1))
  else
  some (f,b)
def zf (h:List Int) (b:Int) (e:Int):Nat->(List Int)->Int->Int->Option ((List Int)×Int×Int)
 |0,_,_,_=>none
 |K+1,c,d,a=>
  if a<(h.length:Int)then
  (idx c (w64 (a+b))).bind fun f=>
  (idx h a).bind fun g=>
  (put c (w64 (a+b)) ((w64 ((w64 (f+g))+d)).tmod 1000000000)).bind fun i=>
  zf h b e K i (w64 ((w64 ((w64 (f+g))+d)).tdiv 1000000000)) (w64 (a+1))
  else
  some (c,w64 (e-1),d)
def zH (N:Nat) (b:List Int):Nat->(List Int)->(List Int)->Int->Option ((List Int)×(List Int))
 |0,_,_,_=>none
 |K+1,c,d,a=>
  if a>=0 then
  (qah N c b a).bind fun e=>
  (qX b a e N c 0 0).bind fun(g,i)=>
  (idx g (w64 (a+(b.length:Int)))).bind fun j=>
  (put g (w64 (a+(b.length:Int))) (w64 (j-i))).bind fun f=>
  (idx f (w64 (a+(b.length:Int)))).bind fun k=>
  ((if k<0 then
  (zf b a e N f 0 0).bind fun(h,l,m)=>
  (idx h (w64 (a+(b.length:Int)))).bind fun n=>
  (put h (w64 (a+(b.length:Int))) (w64 (n+m))).bind fun o=>
  some (o,l)
  else
  some (f,e):Option ((List Int)×Int))).bind fun(p,q)=>
  (idx d a).bind fun s=>
  (put d a q).bind fun r=>
  zH N b K p r (w64 (a-1))
  else
  some (c,d)
def jJ (N:Nat) (a:List Int) (b:List Int):Option ((List Int)×(List Int)):=
 (jC N a b).bind fun q=>
 if q<0 then
 some ([],a)
 else
 if(b.length:Int)=1 then
 (idx b 0).bind fun r=>
 (yP N a r).bind fun p=>
 (vX N ([p.2]:List Int)).bind fun s=>
 some (p.1,s)
 else
 (idx b (w64 ((b.length:Int)-1))).bind fun t=>
 (qcf .i64 1000000000 (w64 (t+1))).bind fun e=>
 (vK N b ([e]:List Int)).bind fun d=>
 (vK N a ([e]:List Int)).bind fun f=>
 (app 8 ([]:List Int) f).bind fun g=>
 (jg a N g).bind fun c=>
 (mk 8 (w64 ((c.length:Int)-(d.length:Int))) 0).bind fun h=>
 (zH N d N c h (w64 ((w64 ((c.length:Int)-(d.length:Int)))-1))).bind fun(i,j)=>
 (cut i 0 (d.length:Int)).bind fun k=>
 (vX N k).bind fun l=>
 (idx ([e]:List Int) 0).bind fun m=>
 (yP N l m).bind fun n=>
 (vX N j).bind fun o=>
 some (o,n.1)
theorem qaS (N:Nat) (a:List Int) (b:List Int) {res:(List Int)×(List Int)} (h:jJ N a b=some res):qb ZT (.fn 172) (kBE a b) [] (.tuple (kBE res.1 res.2)) []:=by
 unfold jJ at h
 refine Ub Tryz.func172 rfl rfl (m:=206) rfl (rs:=[.tmp 4,.tmp 5]) rfl (l:=(kI a b [])) rfl ?_
 refine sh fol (kI a b []) ?_
 refine sq ?_
 obtain⟨r1,e_r1,h⟩:=bnd h
 refine sq (gr fol [2] (kI a b [(27,.bool (decide (r1<0)))]) (ac (cv (qbm N a b e_r1)) az) ?_)
 refine ihD h (fun c2 h=>?_) (fun c2 h=>?_)
 ·refine sh fol [(4,.nilslice),(5,vl encI a)] ?_
  refine Goes.ret ?_
  obtain rfl:=si h
  exact(gw2 [.nilslice,vl encI a] (FzW.tuple (qc.cons (FzW.nilv (E:=encI)) (qc.cons (Ua (qy encI _ (nl rfl))) qc.nil))))
 refine Goes.skip ?_
 refine sq ?_
 refine sh fol (kI a b [(31,.bool (decide ((b.length:Int)=1)))]) ?_
 refine ihD h (fun c3 h=>?_) (fun c3 h=>?_)
 ·obtain⟨x4,e_x4,h⟩:=bnd h
  obtain⟨r5,e_r5,h⟩:=bnd h
  refine sq (gr fol [2,3,4] [(6,vl encI r5.1),(7,.i r5.2)] (ac (iv vE encI e_x4) (ac (lv 0 ce3 encI e_x4 rfl) (ac (cv (qcF N a x4 e_r5)) az))) ?_)
  obtain⟨r6,e_r6,h⟩:=bnd h
  refine sq (gq fol [3] (kBH r5.1 r6) [.frozen [.i r5.2]] (ac (hs (.callF 232 [.slice 0 0 1 1 1] [.cells [.i r5.2]] [0] [vl encI ([r5.2]:List Int)] (vl encI r6)) (yj (FzL.cons (Fz.lit rfl rfl (Ue (AllST.cons tI AllST.nil))) FzL.nil) (yI N ([r5.2]:List Int) e_r6) (qy encI _ (nl rfl)))) az) ?_)
  refine Goes.sub (show Sub (ofG 206 (kBH r5.1 r6),[.frozen [.i r5.2]]) (ofG 206 (kBH r5.1 r6),[])from(Sub.norm [] [] rfl rfl (.keep (.same (qf encI _)) (.keep (.same (qf encI _)) .nil)) .nil)) ?_
  refine Goes.ret ?_
  obtain rfl:=si h
  exact(gw2 (kBE r5.1 r6) (FzW.tuple (qc.cons (Ua (qy encI _ (nl rfl))) (qc.cons (Ua (qy encI _ (nl rfl))) qc.nil))))
 refine Goes.skip ?_
 obtain⟨x7,e_x7,h⟩:=bnd h
 obtain⟨g,e_q8,h⟩:=bnd h
 refine sq (gq fol [4,5,7] (kI a b [(8,.slice 0 0 1 1 1)]) [.cells [.i g]] (ac (iv vE encI e_x7) (ac (lv 0 ce3 encI e_x7 rfl) (ac (hs (.done (.opt (kL ZT .quo 3 (.const (.int .i64 1000000000)) (.tmp 50) (.i 1000000000) (.i (w64 (x7+1))))) (.i g)) (qbY e_q8)) az))) ?_)
 obtain⟨e,e_r9,h⟩:=bnd h
 refine sq (gq fol [2] (kBF a [(8,.slice 0 0 1 1 1),(9,vl encI e)]) [.frozen [.i g]] (ac (hs (.callF 177 [vl encI b,.slice 0 0 1 1 1] [.cells [.i g]] [0] (kBE b ([g]:List Int)) (vl encI e)) (yj (FzL.cons (Uh (qy encI _ (nl rfl))) (FzL.cons (Fz.lit rfl rfl (Ue (AllST.cons tI AllST.nil))) FzL.nil)) (qaT N b ([g]:List Int) e_r9) (qy encI _ (nl rfl)))) az) ?_)
 refine Goes.sub (show Sub (ofG 206 (kBF a [(8,.slice 0 0 1 1 1),(9,vl encI e)]),[.frozen [.i g]]) (ofG 206 (kBF a [(8,vl encI ([g]:List Int)),(9,vl encI e)]),[])from(Sub.norm [0] [] rfl rfl (.keep (.same (qf encI _)) (.keep (.frz (Fz.litF rfl rfl (Ue (AllST.cons tI AllST.nil))) (qf encI _)) (.keep (.same (qf encI _)) .nil))) .nil)) ?_
 refine sh fol (kBF a [(8,vl encI ([g]:List Int)),(9,vl encI e),(10,.i (e.length:Int))]) ?_
 obtain⟨r10,e_r10,h⟩:=bnd h
 obtain⟨Y,e_l11,h⟩:=bnd h
 refine sq (gq fol [3,4] (kBF a [(8,vl encI ([g]:List Int)),(9,vl encI e),(10,.i (e.length:Int)),(11,.oslice 1 Y.length 1)]) (.dead::(kB Y [])) (ac (cv (qaT N a ([g]:List Int) e_r10)) (ac (hs (.run [0] (yM ZT [75,75] (.slice 0 0 0 0 1) (vl encI r10)) [.cells []] (.oslice 1 Y.length 1) (.dead::(kB Y [])) true) (qbC vE (E:=encI) rfl (src_v (E:=encI) rfl _) (dst_z (E:=encI) rfl rfl rfl e_l11 rfl))) az)) ?_)
 refine sq (Goes.block ?_)
 obtain⟨r14,g14,h⟩:=bnd h
 refine Goes.imp (Q:=fun x s'=>(x= .exit 0/\ ∃A,A=r14/\Sub s' (ofG 206 (kAb ([g]:List Int) e (e.length:Int) A []),(kB A [])))) ?_ ?_
 ·refine Goes.sub (s':=(ofG 206 (kBF a (kAb ([g]:List Int) e (e.length:Int) Y [])),(kB Y []))) (Sub.norm [] [some 1] rfl rfl (.keep (.same (qf encI _)) (.keep (.same (qf encI _)) (.keep (.same (qf encI _)) (.keep (.same nI) (.keep (.oslice rfl) .nil))))) (.ks .nil)) ?_
  refine Uc (fun M s=> ∃(F:List Int),s=(ofG 206 (kBF a (kAb ([g]:List Int) e (e.length:Int) F [])),(kB F []))/\jg a M F=some r14) ?_ (m:=N) ⟨_,rfl,g14⟩
  rintro M s ⟨F,rfl,g14⟩
  cases M with
  |zero=>simp only[jg]at g14;cases g14
  |succ M=>
   rw[jg]at g14
   refine sq ?_
   refine sh fol (kBF a (kAb ([g]:List Int) e (e.length:Int) F [(68,.bool (decide ((F.length:Int)<(w64 ((a.length:Int)+1)))))])) ?_
   refine ihD g14 (fun c15 g14=>?_) (fun c15 g14=>?_)
   ·refine Goes.skip ?_
    refine Goes.block ?_
    obtain⟨Z,e_l16,g14⟩:=bnd g14
    refine gq fol [2] (kBF a [(8,vl encI ([g]:List Int)),(9,vl encI e),(10,.i (e.length:Int)),(11,.oslice 2 Z.length 1)]) (.dead:: .cells [.i 0]::(kB Z [])) (ac (hs (.run [0,1] (yM ZT [75,75] (.oslice 0 F.length 1) (.slice 1 0 1 1 1)) (kB F [.cells [.i 0]]) (.oslice 2 Z.length 1) (.dead:: .cells [.i 0]::(kB Z [])) true) (qbC vE (E:=encI) rfl (qfN (E:=encI) (ys:=[0]) rfl rfl rfl rfl) (dst_o (E:=encI) (l:=F) rfl rfl rfl e_l16 rfl))) az) ?_
    exact⟨M,(ofG 206 (kBF a (kAb ([g]:List Int) e (e.length:Int) Z [])),(kB Z [])),Nat.lt_succ_self _,(Sub.norm [] [some 2] rfl rfl (.keep (.same (qf encI _)) (.keep (.same (qf encI _)) (.keep (.same (qf encI _)) (.keep (.same nI) (.keep (.oslice rfl) .nil))))) (.ks .nil)),_,rfl,g14⟩
   refine Goes.exit ?_
   obtain rfl:=si g14
   exact⟨rfl,_,rfl,(Sub.keep [8,9,10,11] rfl rfl)⟩
 rintro x s' ⟨rfl,A,rfl,hsub⟩
 refine Goes.sub hsub ?_
 obtain⟨V,e_l17,h⟩:=bnd h
 refine sq (gq fol [4] (kAb ([g]:List Int) e (e.length:Int) A [(12,.slice 1 0 V.length V.length 1)]) (kB A (kB V [])) (ac (hs (.run [] (jf ZT 75 (.i (w64 ((A.length:Int)-(e.length:Int)))) (.i (w64 ((A.length:Int)-(e.length:Int))))) (kB A []) (.slice 1 0 V.length V.length 1) (kB A (kB V [])) false) (qcX vE (E:=encI) (z:=0) rfl (by kernel_rfl) e_l17 rfl)) az) ?_)
 refine sq ?_
 refine sh fol (kA ([g]:List Int) e (e.length:Int) A V (w64 ((w64 ((A.length:Int)-(e.length:Int)))-1)) []) ?_
 refine Goes.block ?_
 obtain⟨r23,g23,h⟩:=bnd h
 refine Goes.imp (Q:=fun x s'=>(x= .exit 2/\ ∃a0 o,(a0,o)=r23/\Sub s' (ofG 206 [(8,vl encI ([g]:List Int)),(10,.i (e.length:Int)),(11,.oslice 0 a0.length 1),(12,.slice 1 0 o.length o.length 1)],(kB a0 (kB o []))))) ?_ ?_
 ·refine Uc (fun M s=> ∃(B:List Int) (c:List Int) (d:Int),s=(ofG 206 (kA ([g]:List Int) e (e.length:Int) B c d []),(kB B (kB c [])))/\zH N e M B c d=some r23) ?_ (m:=N) ⟨_,_,_,rfl,g23⟩
  rintro M s ⟨B,c,d,rfl,g23⟩
  cases M with
  |zero=>simp only[zH]at g23;cases g23
  |succ M=>
   rw[zH]at g23
   refine sq ?_
   refine sh fol (kA ([g]:List Int) e (e.length:Int) B c d [(83,.bool (decide (d>=0)))]) ?_
   refine ihD g23 (fun c24 g23=>?_) (fun c24 g23=>?_)
   ·refine Goes.skip ?_
    refine sq (Goes.block ?_)
    obtain⟨f,e_r25,g23⟩:=bnd g23
    refine sq (gr fol [3] (kA ([g]:List Int) e (e.length:Int) B c d [(14,.i f)]) (ac (hs (.call 233 [.oslice 0 B.length 1,vl encI e,.i d] (kB B (kB c [])) [0] [vl encI B,vl encI e,.i d] (.i f)) (qey (FzL.cons (Fz.os (E:=encI) rfl rfl (nl rfl)) (FzL.cons (Uh (qy encI _ (nl rfl))) (FzL.cons (Uh tI) FzL.nil))) (qhP N B e d e_r25) tI rfl)) az) ?_)
    refine sh fol (kA ([g]:List Int) e (e.length:Int) B c d [(14,.i f),(15,.i 0)]) ?_
    refine sq ?_
    refine sh fol (kA ([g]:List Int) e (e.length:Int) B c d [(14,.i f),(15,.i 0),(16,.i 0)]) ?_
    refine Goes.block ?_
    obtain⟨r31,g31,g23⟩:=bnd g23
    refine Goes.imp (Q:=fun x s'=>(x= .exit 4/\ ∃t n30,(t,n30)=r31/\Sub s' (ofG 206 (kA ([g]:List Int) e (e.length:Int) t c d [(14,.i f),(15,.i n30)]),(kB t (kB c []))))) ?_ ?_
    ·refine Uc (fun M s=> ∃(k:List Int) (p:Int) (j:Int),s=(ofG 206 (kA ([g]:List Int) e (e.length:Int) k c d (kAj f p j [])),(kB k (kB c [])))/\qX e d f M k p j=some r31) ?_ (m:=N) ⟨_,_,_,rfl,g31⟩
     rintro M s ⟨k,p,j,rfl,g31⟩
     cases M with
     |zero=>simp only[qX]at g31;cases g31
     |succ M=>
      rw[qX]at g31
      refine sq ?_
      refine sh fol (kA ([g]:List Int) e (e.length:Int) k c d (kAj f p j [(92,.bool (decide (j<(e.length:Int))))])) ?_
      refine ihD g31 (fun c32 g31=>?_) (fun c32 g31=>?_)
      ·refine Goes.skip ?_
       refine sq (Goes.block ?_)
       obtain⟨C,e_x33,g31⟩:=bnd g31
       refine sq (gr fol [3,4] (kA ([g]:List Int) e (e.length:Int) k c d [(14,.i f),(16,.i j),(17,.i (w64 ((w64 (f*C))+p)))]) (ac (iv vE encI e_x33) (ac (lv 0 ce3 encI e_x33 rfl) az)) ?_)
       obtain⟨X,G,g31⟩:=bnd g31
       refine sq (gr fol [4,5] (kA ([g]:List Int) e (e.length:Int) k c d [(14,.i f),(16,.i j),(17,.i (w64 ((w64 (f*C))+p))),(18,.i (w64 (X-((w64 ((w64 (f*C))+p)).tmod 1000000000))))]) (ac (hs (.done (.opt (qj ZT 75 (.oslice 0 k.length 1) (.i (w64 (j+d))))) (.ptr 0 ((w64 (j+d):Int).toNat*1+0))) (qga vE G)) (ac (hs (.run [0] (jo ZT 3 (.ptr 0 ((w64 (j+d):Int).toNat*1+0))) (kB k (kB c [])) (.i X) (kB k (kB c [])) false) (qcC ce3 (E:=encI) (l:=k) rfl rfl G (nl rfl) rfl)) az)) ?_)
       refine sh fol (kA ([g]:List Int) e (e.length:Int) k c d (kAj f (w64 ((w64 ((w64 (f*C))+p)).tdiv 1000000000)) j [(18,.i (w64 (X-((w64 ((w64 (f*C))+p)).tmod 1000000000))))])) ?_
       refine sq ?_
       refine sh fol (kA ([g]:List Int) e (e.length:Int) k c d (kAj f (w64 ((w64 ((w64 (f*C))+p)).tdiv 1000000000)) j [(18,.i (w64 (X-((w64 ((w64 (f*C))+p)).tmod 1000000000)))),(115,.bool (decide ((w64 (X-((w64 ((w64 (f*C))+p)).tmod 1000000000)))<0)))])) ?_
       obtain⟨r37,g37,g31⟩:=bnd g31
       refine Goes.imp (Q:=fun x s'=>(x= .normal/\ ∃O n36,(O,n36)=r37/\Sub s' (ofG 206 (kA ([g]:List Int) e (e.length:Int) k c d (kAj f O j [(18,.i n36)])),(kB k (kB c []))))) ?_ ?_
       ·refine ihD g37 (fun c38 g37=>?_) (fun c38 g37=>?_)
        ·refine sh fol (kA ([g]:List Int) e (e.length:Int) k c d (kAj f (w64 ((w64 ((w64 (f*C))+p)).tdiv 1000000000)) j [(18,.i (w64 ((w64 (X-((w64 ((w64 (f*C))+p)).tmod 1000000000)))+1000000000)))])) ?_
         refine gh fol (kA ([g]:List Int) e (e.length:Int) k c d (kAj f (w64 ((w64 ((w64 ((w64 (f*C))+p)).tdiv 1000000000))+1)) j [(18,.i (w64 ((w64 (X-((w64 ((w64 (f*C))+p)).tmod 1000000000)))+1000000000)))])) ?_
         obtain rfl:=si g37
         exact⟨rfl,_,_,rfl,(Sub.refl _)⟩
        refine Goes.skip ?_
        obtain rfl:=si g37
        exact⟨rfl,_,_,rfl,(Sub.keep [8,9,10,11,12,13,14,15,16,18] rfl rfl)⟩
       rintro x s' ⟨rfl,O,n36,rfl,hsub⟩
       try dsimp only at g31
       refine Goes.sub hsub ?_
       obtain⟨P,e_l39,g31⟩:=bnd g31
       refine gq fol [5,6] (kA ([g]:List Int) e (e.length:Int) k c d (kAj f O j [])) (kB P (kB c [])) (ac (hs (.done (.opt (qj ZT 75 (.oslice 0 k.length 1) (.i (w64 (j+d))))) (.ptr 0 ((w64 (j+d):Int).toNat*1+0))) (qga vE G)) (ac (hs (.run [0] (qw ZT 3 (.ptr 0 ((w64 (j+d):Int).toNat*1+0)) (.i n36)) (kB k (kB c [])) .undef (kB P (kB c [])) true) (qae (E:=encI) (l:=k) (y:=n36) rfl (show _=some 1 by kernel_rfl) rfl G rfl rfl rfl rfl rfl e_l39 rfl)) az)) ?_
       refine Goes.sub (show Sub (ofG 206 (kA ([g]:List Int) e (e.length:Int) k c d (kAj f O j [])),(kB P (kB c []))) (ofG 206 (kA ([g]:List Int) e (e.length:Int) P c d (kAj f O j [])),(kB P (kB c [])))from(Sub.norm [] [some 0,some 1] rfl rfl (.keep (.same (qf encI _)) (.keep (.same (qf encI _)) (.keep (.same nI) (.keep (.osliceE rfl (vI e_l39)) (.keep (.slice rfl) (.keep (.same nI) (.keep (.same nI) (.keep (.same nI) (.keep (.same nI) .nil))))))))) (.ks (.ks .nil)))) ?_
       refine gh fol (kA ([g]:List Int) e (e.length:Int) P c d (kAj f O (w64 (j+1)) [])) ?_
       exact⟨M,(ofG 206 (kA ([g]:List Int) e (e.length:Int) P c d (kAj f O (w64 (j+1)) [])),(kB P (kB c []))),Nat.lt_succ_self _,(Sub.refl _),_,_,_,rfl,g31⟩
      refine Goes.exit ?_
      obtain rfl:=si g31
      exact⟨rfl,_,_,rfl,(Sub.keep [8,9,10,11,12,13,14,15] rfl rfl)⟩
    rintro x s' ⟨rfl,t,n30,rfl,hsub⟩
    try dsimp only at g23
    refine Goes.sub hsub ?_
    obtain⟨x40,H,g23⟩:=bnd g23
    obtain⟨u,e_l41,g23⟩:=bnd g23
    refine sq (gq fol [8,9,12,13] (kA ([g]:List Int) e (e.length:Int) t c d [(14,.i f)]) (kB u (kB c [])) (ac (hs (.done (.opt (qj ZT 75 (.oslice 0 t.length 1) (.i (w64 (d+(e.length:Int)))))) (.ptr 0 ((w64 (d+(e.length:Int)):Int).toNat*1+0))) (qga vE H)) (ac (hs (.run [0] (jo ZT 3 (.ptr 0 ((w64 (d+(e.length:Int)):Int).toNat*1+0))) (kB t (kB c [])) (.i x40) (kB t (kB c [])) false) (qcC ce3 (E:=encI) (l:=t) rfl rfl H (nl rfl) rfl)) (ac (hs (.done (.opt (qj ZT 75 (.oslice 0 t.length 1) (.i (w64 (d+(e.length:Int)))))) (.ptr 0 ((w64 (d+(e.length:Int)):Int).toNat*1+0))) (qga vE H)) (ac (hs (.run [0] (qw ZT 3 (.ptr 0 ((w64 (d+(e.length:Int)):Int).toNat*1+0)) (.i (w64 (x40-n30)))) (kB t (kB c [])) .undef (kB u (kB c [])) true) (qae (E:=encI) (l:=t) (y:=w64 (x40-n30)) rfl (show _=some 1 by kernel_rfl) rfl H rfl rfl rfl rfl rfl e_l41 rfl)) az)))) ?_)
    refine Goes.sub (show Sub (ofG 206 (kA ([g]:List Int) e (e.length:Int) t c d [(14,.i f)]),(kB u (kB c []))) (ofG 206 (kA ([g]:List Int) e (e.length:Int) u c d [(14,.i f)]),(kB u (kB c [])))from(Sub.norm [] [some 0,some 1] rfl rfl (.keep (.same (qf encI _)) (.keep (.same (qf encI _)) (.keep (.same nI) (.keep (.osliceE rfl (vI e_l41)) (.keep (.slice rfl) (.keep (.same nI) (.keep (.same nI) .nil))))))) (.ks (.ks .nil)))) ?_
    refine sq ?_
    obtain⟨x42,e_x42,g23⟩:=bnd g23
    refine sq (gr fol [4,5] (kA ([g]:List Int) e (e.length:Int) u c d [(14,.i f),(145,.bool (decide (x42<0)))]) (ac (hs (.done (.opt (qj ZT 75 (.oslice 0 u.length 1) (.i (w64 (d+(e.length:Int)))))) (.ptr 0 ((w64 (d+(e.length:Int)):Int).toNat*1+0))) (qga vE e_x42)) (ac (hs (.run [0] (jo ZT 3 (.ptr 0 ((w64 (d+(e.length:Int)):Int).toNat*1+0))) (kB u (kB c [])) (.i x42) (kB u (kB c [])) false) (qcC ce3 (E:=encI) (l:=u) rfl rfl e_x42 (nl rfl) rfl)) az)) ?_)
    obtain⟨r45,g45,g23⟩:=bnd g23
    refine Goes.imp (Q:=fun x s'=>(x= .normal/\ ∃q n44,(q,n44)=r45/\Sub s' (ofG 206 (kA ([g]:List Int) e (e.length:Int) q c d [(14,.i n44)]),(kB q (kB c []))))) ?_ ?_
    ·refine ihD g45 (fun c46 g45=>?_) (fun c46 g45=>?_)
     ·refine sh fol (kA ([g]:List Int) e (e.length:Int) u c d [(14,.i (w64 (f-1)))]) ?_
      refine sh fol (kA ([g]:List Int) e (e.length:Int) u c d [(14,.i (w64 (f-1))),(19,.i 0)]) ?_
      refine sq ?_
      refine sh fol (kA ([g]:List Int) e (e.length:Int) u c d [(14,.i (w64 (f-1))),(19,.i 0),(20,.i 0)]) ?_
      refine Goes.block ?_
      obtain⟨r53,g53,g45⟩:=bnd g45
      refine Goes.imp (Q:=fun x s'=>(x= .exit 6/\ ∃v a1 n52,(v,a1,n52)=r53/\Sub s' (ofG 206 (kA ([g]:List Int) e (e.length:Int) v c d [(14,.i a1),(19,.i n52)]),(kB v (kB c []))))) ?_ ?_
      ·refine Uc (fun M s=> ∃(r:List Int) (w:Int) (n:Int),s=(ofG 206 (kA ([g]:List Int) e (e.length:Int) r c d [(14,.i (w64 (f-1))),(19,.i w),(20,.i n)]),(kB r (kB c [])))/\zf e d f M r w n=some r53) ?_ (m:=N) ⟨_,_,_,rfl,g53⟩
       rintro M s ⟨r,w,n,rfl,g53⟩
       cases M with
       |zero=>simp only[zf]at g53;cases g53
       |succ M=>
        rw[zf]at g53
        refine sq ?_
        refine sh fol (kA ([g]:List Int) e (e.length:Int) r c d [(14,.i (w64 (f-1))),(19,.i w),(20,.i n),(150,.bool (decide (n<(e.length:Int))))]) ?_
        refine ihD g53 (fun c54 g53=>?_) (fun c54 g53=>?_)
        ·refine Goes.skip ?_
         refine sq (Goes.block ?_)
         obtain⟨D,I,g53⟩:=bnd g53
         obtain⟨J,e_x56,g53⟩:=bnd g53
         refine sq (gr fol [4,5,8,9] (kA ([g]:List Int) e (e.length:Int) r c d [(14,.i (w64 (f-1))),(20,.i n),(21,.i (w64 ((w64 (D+J))+w)))]) (ac (hs (.done (.opt (qj ZT 75 (.oslice 0 r.length 1) (.i (w64 (n+d))))) (.ptr 0 ((w64 (n+d):Int).toNat*1+0))) (qga vE I)) (ac (hs (.run [0] (jo ZT 3 (.ptr 0 ((w64 (n+d):Int).toNat*1+0))) (kB r (kB c [])) (.i D) (kB r (kB c [])) false) (qcC ce3 (E:=encI) (l:=r) rfl rfl I (nl rfl) rfl)) (ac (iv vE encI e_x56) (ac (lv 0 ce3 encI e_x56 rfl) az)))) ?_)
         obtain⟨K,e_l57,g53⟩:=bnd g53
         refine sq (gq fol [6,7] (kA ([g]:List Int) e (e.length:Int) r c d [(14,.i (w64 (f-1))),(20,.i n),(21,.i (w64 ((w64 (D+J))+w)))]) (kB K (kB c [])) (ac (hs (.done (.opt (qj ZT 75 (.oslice 0 r.length 1) (.i (w64 (n+d))))) (.ptr 0 ((w64 (n+d):Int).toNat*1+0))) (qga vE I)) (ac (hs (.run [0] (qw ZT 3 (.ptr 0 ((w64 (n+d):Int).toNat*1+0)) (.i ((w64 ((w64 (D+J))+w)).tmod 1000000000))) (kB r (kB c [])) .undef (kB K (kB c [])) true) (qae (E:=encI) (l:=r) (y:=(w64 ((w64 (D+J))+w)).tmod 1000000000) rfl (show _=some 1 by kernel_rfl) rfl I rfl rfl rfl rfl rfl e_l57 rfl)) az)) ?_)
         refine Goes.sub (show Sub (ofG 206 (kA ([g]:List Int) e (e.length:Int) r c d [(14,.i (w64 (f-1))),(20,.i n),(21,.i (w64 ((w64 (D+J))+w)))]),(kB K (kB c []))) (ofG 206 (kA ([g]:List Int) e (e.length:Int) K c d [(14,.i (w64 (f-1))),(20,.i n),(21,.i (w64 ((w64 (D+J))+w)))]),(kB K (kB c [])))from(Sub.norm [] [some 0,some 1] rfl rfl (.keep (.same (qf encI _)) (.keep (.same (qf encI _)) (.keep (.same nI) (.keep (.osliceE rfl (vI e_l57)) (.keep (.slice rfl) (.keep (.same nI) (.keep (.same nI) (.keep (.same nI) (.keep (.same nI) .nil))))))))) (.ks (.ks .nil)))) ?_
         refine gh fol (kA ([g]:List Int) e (e.length:Int) K c d [(14,.i (w64 (f-1))),(19,.i (w64 ((w64 ((w64 (D+J))+w)).tdiv 1000000000))),(20,.i n)]) ?_
         refine gh fol (kA ([g]:List Int) e (e.length:Int) K c d [(14,.i (w64 (f-1))),(19,.i (w64 ((w64 ((w64 (D+J))+w)).tdiv 1000000000))),(20,.i (w64 (n+1)))]) ?_
         exact⟨M,(ofG 206 (kA ([g]:List Int) e (e.length:Int) K c d [(14,.i (w64 (f-1))),(19,.i (w64 ((w64 ((w64 (D+J))+w)).tdiv 1000000000))),(20,.i (w64 (n+1)))]),(kB K (kB c []))),Nat.lt_succ_self _,(Sub.refl _),_,_,_,rfl,g53⟩
        refine Goes.exit ?_
        obtain rfl:=si g53
        exact⟨rfl,_,_,_,rfl,(Sub.keep [8,9,10,11,12,13,14,19] rfl rfl)⟩
      rintro x s' ⟨rfl,v,a1,n52,rfl,hsub⟩
      try dsimp only at g45
      refine Goes.sub hsub ?_
      obtain⟨x58,L,g45⟩:=bnd g45
      obtain⟨l59,e_l59,g45⟩:=bnd g45
      refine gq fol [8,9,12,13] (kA ([g]:List Int) e (e.length:Int) v c d [(14,.i a1)]) (kB l59 (kB c [])) (ac (hs (.done (.opt (qj ZT 75 (.oslice 0 v.length 1) (.i (w64 (d+(e.length:Int)))))) (.ptr 0 ((w64 (d+(e.length:Int)):Int).toNat*1+0))) (qga vE L)) (ac (hs (.run [0] (jo ZT 3 (.ptr 0 ((w64 (d+(e.length:Int)):Int).toNat*1+0))) (kB v (kB c [])) (.i x58) (kB v (kB c [])) false) (qcC ce3 (E:=encI) (l:=v) rfl rfl L (nl rfl) rfl)) (ac (hs (.done (.opt (qj ZT 75 (.oslice 0 v.length 1) (.i (w64 (d+(e.length:Int)))))) (.ptr 0 ((w64 (d+(e.length:Int)):Int).toNat*1+0))) (qga vE L)) (ac (hs (.run [0] (qw ZT 3 (.ptr 0 ((w64 (d+(e.length:Int)):Int).toNat*1+0)) (.i (w64 (x58+n52)))) (kB v (kB c [])) .undef (kB l59 (kB c [])) true) (qae (E:=encI) (l:=v) (y:=w64 (x58+n52)) rfl (show _=some 1 by kernel_rfl) rfl L rfl rfl rfl rfl rfl e_l59 rfl)) az)))) ?_
      obtain rfl:=si g45
      exact⟨rfl,_,_,rfl,((show Sub (ofG 206 (kA ([g]:List Int) e (e.length:Int) v c d [(14,.i a1)]),(kB l59 (kB c []))) (ofG 206 (kA ([g]:List Int) e (e.length:Int) l59 c d [(14,.i a1)]),(kB l59 (kB c [])))from(Sub.norm [] [some 0,some 1] rfl rfl (.keep (.same (qf encI _)) (.keep (.same (qf encI _)) (.keep (.same nI) (.keep (.osliceE rfl (vI e_l59)) (.keep (.slice rfl) (.keep (.same nI) (.keep (.same nI) .nil))))))) (.ks (.ks .nil)))).trans (Sub.refl _))⟩
     refine Goes.skip ?_
     obtain rfl:=si g45
     exact⟨rfl,_,_,rfl,(Sub.keep [8,9,10,11,12,13,14] rfl rfl)⟩
    rintro x s' ⟨rfl,q,n44,rfl,hsub⟩
    try dsimp only at g23
    refine Goes.sub hsub ?_
    obtain⟨x60,e_x60,g23⟩:=bnd g23
    obtain⟨U,e_l61,g23⟩:=bnd g23
    refine gq fol [3,4] (kA ([g]:List Int) e (e.length:Int) q c d []) (kB q (kB U [])) (ac (hs (.done (.opt (qj ZT 75 (.slice 1 0 c.length c.length 1) (.i d))) (.ptr 1 ((d:Int).toNat*1+0))) (qao vE e_x60)) (ac (hs (.run [1] (qw ZT 3 (.ptr 1 ((d:Int).toNat*1+0)) (.i n44)) (kB q (kB c [])) .undef (kB q (kB U [])) true) (qae (E:=encI) (l:=c) (y:=n44) rfl (show _=some 1 by kernel_rfl) rfl e_x60 rfl rfl rfl rfl rfl e_l61 rfl)) az)) ?_
    refine Goes.sub (show Sub (ofG 206 (kA ([g]:List Int) e (e.length:Int) q c d []),(kB q (kB U []))) (ofG 206 (kA ([g]:List Int) e (e.length:Int) q U d []),(kB q (kB U [])))from(Sub.norm [] [some 0,some 1] rfl rfl (.keep (.same (qf encI _)) (.keep (.same (qf encI _)) (.keep (.same nI) (.keep (.oslice rfl) (.keep (.sliceE rfl (vI e_l61)) (.keep (.same nI) .nil)))))) (.ks (.ks .nil)))) ?_
    refine gh fol (kA ([g]:List Int) e (e.length:Int) q U (w64 (d-1)) []) ?_
    exact⟨M,(ofG 206 (kA ([g]:List Int) e (e.length:Int) q U (w64 (d-1)) []),(kB q (kB U []))),Nat.lt_succ_self _,(Sub.refl _),_,_,_,rfl,g23⟩
   refine Goes.exit ?_
   obtain rfl:=si g23
   exact⟨rfl,_,_,rfl,(Sub.keep [8,10,11,12] rfl rfl)⟩
 rintro x s' ⟨rfl,a0,o,rfl,hsub⟩
 try dsimp only at h
 refine Goes.sub hsub ?_
 refine sq (Goes.sub (s':=(ofG 206 [(8,vl encI ([g]:List Int)),(10,.i (e.length:Int)),(11,vl encI a0),(12,.slice 0 0 o.length o.length 1)],(kB o []))) (Sub.norm [0] [some 1] rfl rfl (.keep (.same (qf encI _)) (.keep (.same nI) (.keep (.frz (Fz.os (E:=encI) rfl rfl (nl rfl)) (qf encI _)) (.keep (.slice rfl) .nil)))) (.ks .nil)) ?_)
 obtain⟨s62,e_s62,h⟩:=bnd h
 obtain⟨r63,e_r63,h⟩:=bnd h
 obtain⟨x64,e_x64,h⟩:=bnd h
 obtain⟨r65,e_r65,h⟩:=bnd h
 refine gr fol [2,3,5,6,7] [(12,.slice 0 0 o.length o.length 1),(22,vl encI r65.1)] (ac (hs (.done (.opt (qY ZT 75 (vl encI a0) none (some (.i (e.length:Int))) none)) (vl encI s62)) (qmj vE (E:=encI) rfl none (some (e.length:Int)) e_s62)) (ac (cv (yI N s62 e_r63)) (ac (iv vE encI e_x64) (ac (lv 0 ce3 encI e_x64 rfl) (ac (cv (qcF N r63 x64 e_r65)) az))))) ?_
 obtain⟨r66,e_r66,h⟩:=bnd h
 refine sq (gq fol [1] (kBH r66 r65.1) (kAY o) (ac (hs (.callF 232 [.slice 0 0 o.length o.length 1] (kB o []) [0] [vl encI o] (vl encI r66)) (yj (FzL.cons (Fz.sl (E:=encI) rfl rfl (nl rfl)) FzL.nil) (yI N o e_r66) (qy encI _ (nl rfl)))) az) ?_)
 refine Goes.sub (show Sub (ofG 206 (kBH r66 r65.1),(kAY o)) (ofG 206 (kBH r66 r65.1),[])from(Sub.norm [] [] rfl rfl (.keep (.same (qf encI _)) (.keep (.same (qf encI _)) .nil)) .nil)) ?_
 refine Goes.ret ?_
 obtain rfl:=si h
 exact(gw2 (kBE r66 r65.1) (FzW.tuple (qc.cons (Ua (qy encI _ (nl rfl))) (qc.cons (Ua (qy encI _ (nl rfl))) qc.nil))))
def zm (N:Nat):Nat->(List Int)->(List Int)->Option (List Int)
 |0,_,_=>none
 |K+1,b,a=>
  if(a.length:Int)>0 then
  (jJ N b a).bind fun c=>
  zm N K a c.2
  else
  some b
def qaE (N:Nat) (a:List Int) (b:List Int):Option (List Int):=
 (zm N N a b).bind fun c=>
 some c
theorem qd6 (N:Nat) (a:List Int) (b:List Int) {res:List Int} (h:qaE N a b=some res):qb ZT (.fn 102) (kBE a b) [] (vl encI res) []:=by
 unfold qaE at h
 refine Ub Tryz.func102 rfl rfl (m:=19) rfl (rs:=[.tmp 4]) rfl (l:=(kI a b [])) rfl ?_
 refine sh fol (kI a b []) ?_
 refine sq (Goes.block ?_)
 obtain⟨i,g4,h⟩:=bnd h
 refine Goes.imp (Q:=fun x s'=>(x= .exit 0/\ ∃d,d=i/\Sub s' (ofG 19 (kBF d []),[]))) ?_ ?_
 ·refine Uc (fun M s=> ∃(e:List Int) (c:List Int),s=(ofG 19 (kI e c []),[])/\zm N M e c=some i) ?_ (m:=N) ⟨_,_,rfl,g4⟩
  rintro M s ⟨e,c,rfl,g4⟩
  cases M with
  |zero=>simp only[zm]at g4;cases g4
  |succ M=>
   rw[zm]at g4
   refine sq ?_
   refine sh fol (kI e c [(9,.bool (decide ((c.length:Int)>0)))]) ?_
   refine ihD g4 (fun j g4=>?_) (fun j g4=>?_)
   ·refine Goes.skip ?_
    refine Goes.block ?_
    obtain⟨g,f,g4⟩:=bnd g4
    refine sq (gr fol [2] [(1,vl encI c),(6,vl encI g.2)] (ac (cv (qaS N e c f)) az) ?_)
    refine gh fol (kI c g.2 []) ?_
    exact⟨M,(ofG 19 (kI c g.2 []),[]),Nat.lt_succ_self _,(Sub.refl _),_,_,rfl,g4⟩
   refine Goes.exit ?_
   obtain rfl:=si g4
   exact⟨rfl,_,rfl,(Sub.keep [0] rfl rfl)⟩
 rintro x s' ⟨rfl,d,rfl,hsub⟩
 refine Goes.sub hsub ?_
 refine sh fol [(4,vl encI d)] ?_
 refine Goes.ret ?_
 obtain rfl:=si h
 exact(gw2 [vl encI d] (Ua (qy encI _ (nl rfl))))
def zN (N:Nat) (neg:Bool) (w:List Int):Option qJ:=
 (vX N w).bind fun a=>
 (if neg=true then
 some (decide ((a.length:Int)>0))
 else
 some false:Option Bool).bind fun b=>
 some (⟨b,a⟩:qJ)
theorem jb (N:Nat) (neg:Bool) (w:List Int) {res:qJ} (h:zN N neg w=some res):qb ZT (.fn 173) (kAg neg w) [] (.agg (kAg res.neg res.w)) []:=by
 unfold zN at h
 refine Ub Tryz.func173 rfl rfl (m:=15) rfl (rs:=[.cell 4 124]) rfl (l:=[(0,.bool neg),(1,vl encI w)]) rfl ?_
 refine sg fol ((0,.bool neg)::(1,vl encI w)::(kX [])) (kR []) ?_
 obtain⟨b,c,h⟩:=bnd h
 refine sq (gr fol [1] ((0,.bool neg)::(1,vl encI b)::(kX [])) (ac (cv (yI N w c)) az) ?_)
 refine sq ?_
 obtain⟨e,a,h⟩:=bnd h
 refine Goes.cut (s':=(ofG 15 (kX []),(kAV e b []))) ?_ ?_
 ·rcases wyB a with⟨d,a⟩|⟨d,a⟩
  ·obtain rfl:=si a
   exact qaj.rq fol [1] (kX []) (kAV (decide ((b.length:Int)>0)) b []) (ac (gw d) az)
  obtain rfl:=si a
  exact qaj.rq fol [1] (kX []) [.cells [.bool false,vl encI b]] (ac (gw d) az)
 refine Goes.ret ?_
 obtain rfl:=si h
 exact(gw2 [.agg (kAg e b)] (FzW.agg (qc.cons (Ua tB) (qc.cons (Ua (qy encI _ (nl rfl))) qc.nil))))
def xn (N:Nat) (a:qJ):Option qJ:=
 (zN N (!a.neg) a.w).bind fun b=>
 some b
theorem qev (N:Nat) (a:qJ) {res:qJ} (h:xn N a=some res):qb ZT (.fn 171) [.agg (kAg a.neg a.w)] [] (.agg (kAg res.neg res.w)) []:=by
 unfold xn at h
 refine Ub Tryz.func171 rfl rfl (m:=9) rfl (rs:=[.cell 2 124]) rfl (l:=[(0,.agg [.bool a.neg,vl encI a.w])]) rfl ?_
 refine sg fol (kAe kA9) (kAV a.neg a.w (kR [])) ?_
 obtain⟨c,b,h⟩:=bnd h
 refine sq (gq fol [5] kA9 (kM a.neg a.w c.neg c.w []) (ac (cv (jb N (!a.neg) a.w b)) az) ?_)
 refine Goes.ret ?_
 obtain rfl:=si h
 exact(gw2 [.agg (kAg c.neg c.w)] (FzW.agg (qc.cons (Ua tB) (qc.cons (Ua (qy encI _ (nl rfl))) qc.nil))))
def vD (N:Nat) (n:qJ) (d:qJ):Option Str:=
 ((if d.neg=true then
 (xn N n).bind fun l=>
 (xn N d).bind fun m=>
 some (l.neg,l.w,m.neg,m.w)
 else
 some (n.neg,n.w,d.neg,d.w):Option (Bool×(List Int)×Bool×(List Int)))).bind fun(r,o,s,p)=>
 (qaE N o p).bind fun q=>
 (jJ N o q).bind fun c=>
 (jJ N p q).bind fun a=>
 (zN N r c.1).bind fun e=>
 (qaV N e).bind fun b=>
 (if(a.1.length:Int)=1 then
 (idx a.1 0).bind fun f=>
 some (decide (f=1))
 else
 some false:Option Bool).bind fun g=>
 if g=true then
 some b
 else
 (cat b [47]).bind fun h=>
 (zN N false a.1).bind fun i=>
 (qaV N i).bind fun j=>
 (cat h j).bind fun k=>
 some k
theorem qad (N:Nat) (n:qJ) (d:qJ) {res:Str} (h:vD N n d=some res):qb ZT (.fn 95) (kAp n.neg n.w d.neg d.w) [] (.str res) []:=by
 unfold vD at h
 refine Ub Tryz.func95 rfl rfl (m:=57) rfl (rs:=[.tmp 4]) rfl (l:=[(0,.agg [.bool n.neg,vl encI n.w]),(1,.agg [.bool d.neg,vl encI d.w])]) rfl ?_
 refine sg fol (kS (kAc [])) (kM n.neg n.w d.neg d.w []) ?_
 refine sq ?_
 refine sh fol (kS (kAc (kBB d.neg))) ?_
 obtain⟨O,g5,h⟩:=bnd h
 refine Goes.imp (Q:=fun x s'=>(x= .normal/\ ∃y u D v,(y,u,D,v)=O/\Sub s' (ofG 57 (kS (kAc [])),(kM y u D v [])))) ?_ ?_
 ·refine ihB g5 (fun P g5=>?_) (fun P g5=>?_)
  ·obtain⟨L,z,g5⟩:=bnd g5
   obtain⟨M,A,g5⟩:=bnd g5
   refine gq fol [1,3] (kS (kAc [])) (kM L.neg L.w M.neg M.w []) (ac (cv (qev N n z)) (ac (cv (qev N d A)) az)) ?_
   obtain rfl:=si g5
   exact⟨rfl,_,_,_,_,rfl,(Sub.refl _)⟩
  refine Goes.skip ?_
  obtain rfl:=si g5
  exact⟨rfl,_,_,_,_,rfl,(Sub.keep [2,3] rfl rfl)⟩
 rintro x s' ⟨rfl,y,u,D,v,rfl,hsub⟩
 try dsimp only at h
 refine Goes.sub hsub ?_
 obtain⟨E,B,h⟩:=bnd h
 refine sq (gr fol [4] (kS (kAc [(5,vl encI E)])) (ac (cv (qd6 N u v B)) az) ?_)
 obtain⟨f,g,h⟩:=bnd h
 refine sq (gr fol [3] (kS (kAc [(5,vl encI E),(6,vl encI f.1)])) (ac (cv (qaS N u E g)) az) ?_)
 obtain⟨c,i,h⟩:=bnd h
 refine sq (gr fol [3] (kS [(6,vl encI f.1),(8,vl encI c.1)]) (ac (cv (qaS N v E i)) az) ?_)
 obtain⟨F,j,h⟩:=bnd h
 obtain⟨b,k,h⟩:=bnd h
 refine sq (gr fol [3,4] [(8,vl encI c.1),(10,.str b)] (ac (cv (jb N y f.1 j)) (ac (cv (qcZ N F k)) az)) ?_)
 refine sq ?_
 refine sq ?_
 obtain⟨G,a,h⟩:=bnd h
 refine Goes.cut (s':=(ofG 57 [(8,vl encI c.1),(10,.str b),(49,.bool G)],(kM y u D v []))) ?_ ?_
 ·rcases wyD a with⟨o,a⟩|⟨o,a⟩
  ·obtain⟨H,e,a⟩:=bnd a
   obtain rfl:=si a
   exact tr fol [3,5,6] [(8,vl encI c.1),(10,.str b),(49,.bool (decide (H=1)))] (ac (gw o) (ac (iv vE encI e) (ac (lv 0 ce3 encI e rfl) az)))
  obtain rfl:=si a
  exact tr fol [3] [(8,vl encI c.1),(10,.str b),(49,.bool false)] (ac (gw o) az)
 refine ihB h (fun I h=>?_) (fun I h=>?_)
 ·refine sh fol (kA4 b) ?_
  refine Goes.ret ?_
  obtain rfl:=si h
  exact(gw2 [.str b] (Ua tS))
 refine Goes.skip ?_
 obtain⟨C,p,h⟩:=bnd h
 obtain⟨J,q,h⟩:=bnd h
 obtain⟨K,r,h⟩:=bnd h
 obtain⟨s,t,h⟩:=bnd h
 refine sq (gr fol [1,3,4,5] (kA4 s) (ac (hs (.done (.opt (kL ZT .add 9 (.tmp 51) (.const (.string ⟨#[47]⟩)) (.str b) (.str [47]))) (.str C)) (qaC p)) (ac (cv (jb N false c.1 q)) (ac (cv (qcZ N J r)) (ac (hs (.done (.opt (kL ZT .add 9 (.tmp 52) (.tmp 55) (.str C) (.str K))) (.str s)) (qaC t)) az)))) ?_)
 refine Goes.ret ?_
 obtain rfl:=si h
 exact(gw2 [.str s] (Ua tS))
def ja:Nat->(List Int)->Int->Option (List Int)
 |0,_,_=>none
 |K+1,b,a=>
  if(!decide (a=0))=true then
  ((if(a.tmod 1000000000)<0 then
  some (w64 (0-(a.tmod 1000000000)))
  else
  some (a.tmod 1000000000):Option Int)).bind fun c=>
  (app 8 b [c]).bind fun d=>
  ja K d (w64 (a.tdiv 1000000000))
  else
  some b
def vR (N:Nat) (n:Int):Option qJ:=
 (ja N ([]:List Int) n).bind fun b=>
 (zN N (decide (n<0)) b).bind fun a=>
 some a
theorem qa7 (N:Nat) (n:Int) {res:qJ} (h:vR N n=some res):qb ZT (.fn 99) [.i n] [] (.agg (kAg res.neg res.w)) []:=by
 unfold vR at h
 refine Ub Tryz.func99 rfl rfl (m:=25) rfl (rs:=[.cell 2 124]) rfl (l:=[(0,.i n)]) rfl ?_
 refine sg fol ((0,.i n)::(kS [])) (kR []) ?_
 refine sh fol ((0,.i n)::(kS [(3,.nilslice)])) ?_
 refine sh fol ((0,.i n)::(kS ((3,.nilslice)::(kAs (decide (n<0)))))) ?_
 refine sq (Goes.block ?_)
 obtain⟨k,g4,h⟩:=bnd h
 refine Goes.imp (Q:=fun x s'=>(x= .exit 0/\ ∃d,d=k/\Sub s' (ofG 25 (kS (kAm d (decide (n<0)) [])),(kR (kB d []))))) ?_ ?_
 ·refine Goes.sub (s':=(ofG 25 ((0,.i n)::(kS ((3,.gslice 1 ([]:List Int).length 1)::(kAs (decide (n<0)))))),(kR kA1))) (Sub.norm [] [some 0,none] rfl rfl (.keep (.same nI) (.kp (.keep .nil (.keep (.same nB) .nil)))) (.kb rfl (.same sn) (.fresh .nil))) ?_
  refine Uc (fun M s=> ∃(c:List Int) (b:Int),s=(ofG 25 ((0,.i b)::(kS (kAm c (decide (n<0)) []))),(kR (kB c [])))/\ja M c b=some k) ?_ (m:=N) ⟨_,_,rfl,g4⟩
  rintro M s ⟨c,b,rfl,g4⟩
  cases M with
  |zero=>simp only[ja]at g4;cases g4
  |succ M=>
   rw[ja]at g4
   refine sq ?_
   refine sh fol ((0,.i b)::(kS (kAm c (decide (n<0)) [(9,.bool (!decide (b=0)))]))) ?_
   refine ihB g4 (fun o g4=>?_) (fun o g4=>?_)
   ·refine Goes.skip ?_
    refine Goes.block ?_
    refine sh fol ((0,.i b)::(kS (kAm c (decide (n<0)) (kA6 (b.tmod 1000000000))))) ?_
    refine sq ?_
    refine sh fol ((0,.i b)::(kS (kAm c (decide (n<0)) ((5,.i (b.tmod 1000000000))::(kBM (decide ((b.tmod 1000000000)<0))))))) ?_
    obtain⟨p,g7,g4⟩:=bnd g4
    refine Goes.imp (Q:=fun x s'=>(x= .normal/\ ∃e,e=p/\Sub s' (ofG 25 ((0,.i b)::(kS (kAm c (decide (n<0)) (kA6 e)))),(kR (kB c []))))) ?_ ?_
    ·refine ihD g7 (fun q g7=>?_) (fun q g7=>?_)
     ·refine gh fol ((0,.i b)::(kS (kAm c (decide (n<0)) (kA6 (w64 (0-(b.tmod 1000000000))))))) ?_
      obtain rfl:=si g7
      exact⟨rfl,_,rfl,(Sub.refl _)⟩
     refine Goes.skip ?_
     obtain rfl:=si g7
     exact⟨rfl,_,rfl,(Sub.keep [0,2,3,4,5] rfl rfl)⟩
    rintro x s' ⟨rfl,e,rfl,hsub⟩
    refine Goes.sub hsub ?_
    obtain⟨f,j,g4⟩:=bnd g4
    refine sq (gq fol [3] ((0,.i b)::(kS ((3,.gslice 3 f.length 1)::(kAs (decide (n<0)))))) (kR (kA2 e (kB f []))) (ac (hs (.run [1,2] (yM ZT [75,75] (.gslice 1 c.length 1) (.slice 2 0 1 1 1)) (kR (kB c [.cells [.i e]])) (.gslice 3 f.length 1) (kR (kA2 e (kB f []))) true) (qbC vE (E:=encI) rfl (qfN (E:=encI) (ys:=[e]) rfl rfl rfl rfl) (qgC (E:=encI) (l:=c) rfl rfl rfl j rfl))) az) ?_)
    refine gh fol ((0,.i (w64 (b.tdiv 1000000000)))::(kS ((3,.gslice 3 f.length 1)::(kAs (decide (n<0)))))) ?_
    exact⟨M,(ofG 25 ((0,.i (w64 (b.tdiv 1000000000)))::(kS (kAm f (decide (n<0)) []))),(kR (kB f []))),Nat.lt_succ_self _,(Sub.norm [] [some 0,some 3] rfl rfl (.keep (.same nI) (.kp (.keep (.gslice rfl) (.keep (.same nB) .nil)))) (.kb rfl (.same sn) (.ks .nil))),_,_,rfl,g4⟩
   refine Goes.exit ?_
   obtain rfl:=si g4
   exact⟨rfl,_,rfl,(Sub.keep [2,3,4] rfl rfl)⟩
 rintro x s' ⟨rfl,d,rfl,hsub⟩
 refine Goes.sub hsub ?_
 obtain⟨a,g,h⟩:=bnd h
 refine sq (gq fol [2] (kS []) (kAV a.neg a.w (kAY d)) (ac (hs (.callF 173 [.bool (decide (n<0)),.gslice 1 d.length 1] (kR (kB d [])) [1] (kAg (decide (n<0)) d) (.agg (kAg a.neg a.w))) (yj (FzL.cons (Uh tB) (FzL.cons (Fz.gs (E:=encI) rfl rfl (nl rfl)) FzL.nil)) (jb N (decide (n<0)) d g) (Still.agg (AllST.cons tB (AllST.cons (qy encI _ (nl rfl)) AllST.nil))))) az) ?_)
 refine Goes.sub (show Sub (ofG 25 (kS []),(kAV a.neg a.w (kAY d))) (ofG 25 (kS []),(kAV a.neg a.w []))from(Sub.norm [] [some 0] rfl rfl (.kp .nil) (.kb rfl (.same sn) .nil))) ?_
 refine Goes.ret ?_
 obtain rfl:=si h
 exact(gw2 [.agg (kAg a.neg a.w)] (FzW.agg (qc.cons (Ua tB) (qc.cons (Ua (qy encI _ (nl rfl))) qc.nil))))
def jW:Nat->Int->Int->Option Int
 |0,_,_=>none
 |K+1,b,a=>
  if a>0 then
  (qeA .i64 b a).bind fun c=>
  jW K a c
  else
  some b
def qdo (N:Nat) (a:Int) (b:Int):Option Int:=
 (jW N a b).bind fun c=>
 some c
theorem qjq (N:Nat) (a:Int) (b:Int) {res:Int} (h:qdo N a b=some res):qb ZT (.fn 105) [.i a,.i b] [] (.i res) []:=by
 unfold qdo at h
 refine Ub Tryz.func105 rfl rfl (m:=12) rfl (rs:=[.tmp 4]) rfl (l:=(kAD a b [])) rfl ?_
 refine sh fol (kAD a b []) ?_
 refine sq (Goes.block ?_)
 obtain⟨j,g4,h⟩:=bnd h
 refine Goes.imp (Q:=fun x s'=>(x= .exit 0/\ ∃d,d=j/\Sub s' (ofG 12 [(0,.i d)],[]))) ?_ ?_
 ·refine Uc (fun M s=> ∃(e:Int) (c:Int),s=(ofG 12 (kAD e c []),[])/\jW M e c=some j) ?_ (m:=N) ⟨_,_,rfl,g4⟩
  rintro M s ⟨e,c,rfl,g4⟩
  cases M with
  |zero=>simp only[jW]at g4;cases g4
  |succ M=>
   rw[jW]at g4
   refine sq ?_
   refine sh fol (kAD e c [(6,.bool (decide (c>0)))]) ?_
   refine ihD g4 (fun k g4=>?_) (fun k g4=>?_)
   ·refine Goes.skip ?_
    refine Goes.block ?_
    obtain⟨g,f,g4⟩:=bnd g4
    refine gr fol [3] (kAD c g []) (ac (hs (.done (.opt (kL ZT .rem 3 (.tmp 8) (.tmp 9) (.i e) (.i c))) (.i g)) (qfU f)) az) ?_
    exact⟨M,(ofG 12 (kAD c g []),[]),Nat.lt_succ_self _,(Sub.refl _),_,_,rfl,g4⟩
   refine Goes.exit ?_
   obtain rfl:=si g4
   exact⟨rfl,_,rfl,(Sub.keep [0] rfl rfl)⟩
 rintro x s' ⟨rfl,d,rfl,hsub⟩
 refine Goes.sub hsub ?_
 refine sh fol [(4,.i d)] ?_
 refine Goes.ret ?_
 obtain rfl:=si h
 exact(gw2 [.i d] (Ua tI))
def qcj (N:Nat) (num:Int) (den:Int):Option Str:=
 (if num<(-4000000000000000000)then
 some true
 else
 if num>4000000000000000000 then
 some true
 else
 if den<(-4000000000000000000)then
 some true
 else
 some (decide (den>4000000000000000000)):Option Bool).bind fun m=>
 if m=true then
 (vR N num).bind fun n=>
 (vR N den).bind fun o=>
 (vD N n o).bind fun p=>
 some p
 else
 ((if den<0 then
 some (w64 (0-num),w64 (0-den))
 else
 some (num,den):Option (Int×Int))).bind fun(a,c)=>
 (qdo N (if(w64 (0-a))>a then(w64 (0-a))else a) c).bind fun d=>
 (qcf .i64 a d).bind fun b=>
 (qcf .i64 c d).bind fun e=>
 ((if b<0 then
 some [45]
 else
 some []:Option Str)).bind fun g=>
 (zM N (if(w64 (0-b))>b then(w64 (0-b))else b) 1).bind fun h=>
 (cat g h).bind fun f=>
 ((if e>1 then
 (cat f [47]).bind fun i=>
 (zM N e 1).bind fun j=>
 (cat i j).bind fun k=>
 some k
 else
 some f:Option Str)).bind fun l=>
 some l
theorem qeL (N:Nat) (num:Int) (den:Int) {res:Str} (h:qcj N num den=some res):qb ZT (.fn 31) [.i num,.i den] [] (.str res) []:=by
 unfold qcj at h
 refine Ub Tryz.func31 rfl rfl (m:=61) rfl (rs:=[.tmp 4]) rfl (l:=(kAD num den [])) rfl ?_
 refine sh fol (kAD num den []) ?_
 refine sq ?_
 refine sq ?_
 obtain⟨O,a,h⟩:=bnd h
 refine Goes.cut (s':=(ofG 61 (kAD num den [(20,.bool O)]),[])) ?_ ?_
 ·rcases wyD a with⟨v,a⟩|⟨v,a⟩
  ·obtain rfl:=si a
   exact tr fol [2] (kAD num den [(20,.bool true)]) (ac (gw v) az)
  rcases wyD a with⟨C,a⟩|⟨C,a⟩
  ·obtain rfl:=si a
   exact tr fol [2,6] (kAD num den [(20,.bool true)]) (ac (gw v) (ac (gw C) az))
  rcases wyD a with⟨D,a⟩|⟨D,a⟩
  ·obtain rfl:=si a
   exact tr fol [2,6,10] (kAD num den [(20,.bool true)]) (ac (gw v) (ac (gw C) (ac (gw D) az)))
  obtain rfl:=si a
  exact tr fol [2,6,10] (kAD num den [(20,.bool (decide (den>4000000000000000000)))]) (ac (gw v) (ac (gw C) (ac (gw D) az)))
 refine ihB h (fun P h=>?_) (fun P h=>?_)
 ·obtain⟨U,w,h⟩:=bnd h
  obtain⟨V,y,h⟩:=bnd h
  obtain⟨M,z,h⟩:=bnd h
  refine sq (gr fol [1,3,4] (kA4 M) (ac (cv (qa7 N num w)) (ac (cv (qa7 N den y)) (ac (cv (qad N U V z)) az))) ?_)
  refine Goes.ret ?_
  obtain rfl:=si h
  exact(gw2 [.str M] (Ua tS))
 refine Goes.skip ?_
 refine sq ?_
 refine sh fol (kAD num den [(27,.bool (decide (den<0)))]) ?_
 obtain⟨E,g12,h⟩:=bnd h
 refine Goes.imp (Q:=fun x s'=>(x= .normal/\ ∃d e,(d,e)=E/\Sub s' (ofG 61 (kAD d e []),[]))) ?_ ?_
 ·refine ihD g12 (fun F g12=>?_) (fun F g12=>?_)
  ·refine gh fol (kAD (w64 (0-num)) (w64 (0-den)) []) ?_
   obtain rfl:=si g12
   exact⟨rfl,_,_,rfl,(Sub.refl _)⟩
  refine Goes.skip ?_
  obtain rfl:=si g12
  exact⟨rfl,_,_,rfl,(Sub.keep [0,1] rfl rfl)⟩
 rintro x s' ⟨rfl,d,e,rfl,hsub⟩
 try dsimp only at h
 refine Goes.sub hsub ?_
 obtain⟨k,n,h⟩:=bnd h
 refine sq (gr fol [5] (kAD d e (kA6 k)) (ac (cv (qjq N (if(w64 (0-d))>d then(w64 (0-d))else d) e n)) az) ?_)
 obtain⟨b,o,h⟩:=bnd h
 obtain⟨c,p,h⟩:=bnd h
 refine sq (gr fol [2,5] (kAD b c []) (ac (hs (.done (.opt (kL ZT .quo 3 (.tmp 38) (.tmp 39) (.i d) (.i k))) (.i b)) (qbY o)) (ac (hs (.done (.opt (kL ZT .quo 3 (.tmp 41) (.tmp 42) (.i e) (.i k))) (.i c)) (qbY p)) az)) ?_)
 refine sh fol (kAD b c [(6,.str [])]) ?_
 refine sq ?_
 refine sh fol (kAD b c [(6,.str []),(45,.bool (decide (b<0)))]) ?_
 obtain⟨G,g18,h⟩:=bnd h
 refine Goes.imp (Q:=fun x s'=>(x= .normal/\ ∃g,g=G/\Sub s' (ofG 61 (kAD b c [(6,.str g)]),[]))) ?_ ?_
 ·refine ihD g18 (fun H g18=>?_) (fun H g18=>?_)
  ·refine gh fol (kAD b c [(6,.str [45])]) ?_
   obtain rfl:=si g18
   exact⟨rfl,_,rfl,(Sub.refl _)⟩
  refine Goes.skip ?_
  obtain rfl:=si g18
  exact⟨rfl,_,rfl,(Sub.keep [0,1,6] rfl rfl)⟩
 rintro x s' ⟨rfl,g,rfl,hsub⟩
 refine Goes.sub hsub ?_
 obtain⟨I,q,h⟩:=bnd h
 obtain⟨j,r,h⟩:=bnd h
 refine sq (gr fol [5,6] [(1,.i c),(6,.str j)] (ac (cv (qaD N (if(w64 (0-b))>b then(w64 (0-b))else b) 1 q)) (ac (hs (.done (.opt (kL ZT .add 9 (.tmp 46) (.tmp 51) (.str g) (.str I))) (.str j)) (qaC r)) az)) ?_)
 refine sq ?_
 refine sh fol [(1,.i c),(6,.str j),(54,.bool (decide (c>1)))] ?_
 obtain⟨J,g23,h⟩:=bnd h
 refine Goes.imp (Q:=fun x s'=>(x= .normal/\ ∃f,f=J/\Sub s' (ofG 61 [(6,.str f)],[]))) ?_ ?_
 ·refine ihD g23 (fun K g23=>?_) (fun K g23=>?_)
  ·obtain⟨A,s,g23⟩:=bnd g23
   obtain⟨L,t,g23⟩:=bnd g23
   obtain⟨B,u,g23⟩:=bnd g23
   refine gr fol [1,3,4] [(6,.str B)] (ac (hs (.done (.opt (kL ZT .add 9 (.tmp 55) (.const (.string ⟨#[47]⟩)) (.str j) (.str [47]))) (.str A)) (qaC s)) (ac (cv (qaD N c 1 t)) (ac (hs (.done (.opt (kL ZT .add 9 (.tmp 56) (.tmp 58) (.str A) (.str L))) (.str B)) (qaC u)) az))) ?_
   obtain rfl:=si g23
   exact⟨rfl,_,rfl,(Sub.refl _)⟩
  refine Goes.skip ?_
  obtain rfl:=si g23
  exact⟨rfl,_,rfl,(Sub.keep [6] rfl rfl)⟩
 rintro x s' ⟨rfl,f,rfl,hsub⟩
 refine Goes.sub hsub ?_
 refine sh fol (kA4 f) ?_
 refine Goes.ret ?_
 obtain rfl:=si h
 exact(gw2 [.str f] (Ua tS))
def vg (b:Str):Nat->Int->Option (Unit⊕Int)
 |0,_=>none
 |K+1,a=>
  if a<(b.length:Int)then
  (idx b a).bind fun c=>
  if(c.toNat:Int)=47 then
  some (.inr a)
  else
  vg b K (w64 (a+1))
  else
  some (.inl ())
def yw (N:Nat) (a:Str):Option Int:=
 (vg a N 0).bind (fun
 |(.inl ())=>
 some (a.length:Int)
 |(.inr b)=>
 some b)
theorem qag (N:Nat) (a:Str) {res:Int} (h:yw N a=some res):qb ZT (.fn 100) [.str a] [] (.i res) []:=by
 unfold yw at h
 refine Ub Tryz.func100 rfl rfl (m:=17) rfl (rs:=[.tmp 2]) rfl (l:=(kAS a [])) rfl ?_
 refine sh fol (kAS a []) ?_
 refine sq ?_
 refine sh fol (kAS a [(3,.i 0)]) ?_
 refine Goes.block ?_
 obtain⟨d,g2,h⟩:=bnd h
 refine Goes.imp (Q:=fun x s'=>(x= .exit 0/\(.inl ())=d/\Sub s' (ofG 17 (kAS a []),[]))\/(x= .ret/\ ∃e,(.inr e)=d/\yB ZT [.tmp 2] (.i e) .ret s')) ?_ ?_
 ·refine Uc (fun M s=> ∃(b:Int),s=(ofG 17 (kAS a [(3,.i b)]),[])/\vg a M b=some d) ?_ (m:=N) ⟨_,rfl,g2⟩
  rintro M s ⟨b,rfl,g2⟩
  cases M with
  |zero=>simp only[vg]at g2;cases g2
  |succ M=>
   rw[vg]at g2
   refine sq ?_
   refine sh fol (kAS a [(3,.i b),(7,.bool (decide (b<(a.length:Int))))]) ?_
   refine ihD g2 (fun g g2=>?_) (fun g g2=>?_)
   ·refine Goes.skip ?_
    refine sq (Goes.block ?_)
    obtain⟨f,c,g2⟩:=bnd g2
    refine sq (gr fol [2] (kAS a ((3,.i b)::(kBM (decide ((f.toNat:Int)=47))))) (ac (hs (.done (.opt (yl ZT 9 (.str a) (.i b))) (.int .u8 (f.toNat:Int))) (qaJ st9 c)) az) ?_)
    refine ihD g2 (fun j g2=>?_) (fun j g2=>?_)
    ·refine sh fol [(2,.i b)] ?_
     refine Goes.ret ?_
     obtain rfl:=si g2
     exact Or.inr (⟨rfl,_,rfl,(gw2 [.i b] (Ua tI))⟩)
    refine Goes.skip ?_
    refine gh fol (kAS a [(3,.i (w64 (b+1)))]) ?_
    exact⟨M,(ofG 17 (kAS a [(3,.i (w64 (b+1)))]),[]),Nat.lt_succ_self _,(Sub.refl _),_,rfl,g2⟩
   refine Goes.exit ?_
   obtain rfl:=si g2
   exact Or.inl (⟨rfl,rfl,(Sub.keep [0] rfl rfl)⟩)
 rintro x s' (⟨rfl,rfl,hsub⟩|⟨rfl,k,rfl,hret⟩)
 ·try dsimp only at h
  refine Goes.sub hsub ?_
  refine sh fol [(2,.i (a.length:Int))] ?_
  refine Goes.ret ?_
  obtain rfl:=si h
  exact(gw2 [.i (a.length:Int)] (Ua tI))
 try dsimp only at h
 obtain rfl:=si h
 exact hret
def vw (a:Str):Nat->Int->Int->Option Int
 |0,_,_=>none
 |K+1,c,b=>
  if b<(a.length:Int)then
  (idx a b).bind fun d=>
  vw a K (w64 ((w64 ((w64 (10*c))+(w64 (d.toNat:Int))))-48)) (w64 (b+1))
  else
  some c
def xq (N:Nat) (a:Str):Option Int:=
 (vw a N 0 0).bind fun b=>
 some b
theorem qbl (N:Nat) (a:Str) {res:Int} (h:xq N a=some res):qb ZT (.fn 169) [.str a] [] (.i res) []:=by
 unfold xq at h
 refine Ub Tryz.func169 rfl rfl (m:=20) rfl (rs:=[.tmp 2]) rfl (l:=(kAS a [])) rfl ?_
 refine sh fol (kAS a []) ?_
 refine sh fol (kAS a [(3,.i 0)]) ?_
 refine sq ?_
 refine sh fol (kAS a [(3,.i 0),(4,.i 0)]) ?_
 refine Goes.block ?_
 obtain⟨g,g4,h⟩:=bnd h
 refine Goes.imp (Q:=fun x s'=>(x= .exit 0/\ ∃d,d=g/\Sub s' (ofG 20 [(3,.i d)],[]))) ?_ ?_
 ·refine Uc (fun M s=> ∃(c:Int) (b:Int),s=(ofG 20 (kAS a [(3,.i c),(4,.i b)]),[])/\vw a M c b=some g) ?_ (m:=N) ⟨_,_,rfl,g4⟩
  rintro M s ⟨c,b,rfl,g4⟩
  cases M with
  |zero=>simp only[vw]at g4;cases g4
  |succ M=>
   rw[vw]at g4
   refine sq ?_
   refine sh fol (kAS a ((3,.i c)::(4,.i b)::(kBI (decide (b<(a.length:Int)))))) ?_
   refine ihD g4 (fun j g4=>?_) (fun j g4=>?_)
   ·refine Goes.skip ?_
    refine sq (Goes.block ?_)
    obtain⟨f,e,g4⟩:=bnd g4
    refine gr fol [4] (kAS a [(3,.i (w64 ((w64 ((w64 (10*c))+(w64 (f.toNat:Int))))-48))),(4,.i b)]) (ac (hs (.done (.opt (yl ZT 9 (.str a) (.i b))) (.int .u8 (f.toNat:Int))) (qaJ st9 e)) az) ?_
    refine gh fol (kAS a [(3,.i (w64 ((w64 ((w64 (10*c))+(w64 (f.toNat:Int))))-48))),(4,.i (w64 (b+1)))]) ?_
    exact⟨M,(ofG 20 (kAS a [(3,.i (w64 ((w64 ((w64 (10*c))+(w64 (f.toNat:Int))))-48))),(4,.i (w64 (b+1)))]),[]),Nat.lt_succ_self _,(Sub.refl _),_,_,rfl,g4⟩
   refine Goes.exit ?_
   obtain rfl:=si g4
   exact⟨rfl,_,rfl,(Sub.keep [3] rfl rfl)⟩
 rintro x s' ⟨rfl,d,rfl,hsub⟩
 refine Goes.sub hsub ?_
 refine sh fol [(2,.i d)] ?_
 refine Goes.ret ?_
 obtain rfl:=si h
 exact(gw2 [.i d] (Ua tI))
def ve (N:Nat) (a:Str):Option (Int×Int×Bool):=
 if(a.length:Int)>20 then
 some (0,0,false)
 else
 (if(a.length:Int)>0 then
 (idx a 0).bind fun l=>
 some (decide ((l.toNat:Int)=45))
 else
 some false:Option Bool).bind fun k=>
 ((if k=true then
 (cut a 1 (a.length:Int)).bind fun m=>
 some m
 else
 some a:Option Str)).bind fun c=>
 (yw N c).bind fun b=>
 (if b>9 then
 some true
 else
 some (decide ((w64 ((c.length:Int)-b))>10)):Option Bool).bind fun e=>
 if e=true then
 some (0,0,false)
 else
 (cut c 0 b).bind fun f=>
 (xq N f).bind fun d=>
 ((if b<(c.length:Int)then
 (cut c (w64 (b+1)) (c.length:Int)).bind fun g=>
 (xq N g).bind fun h=>
 some h
 else
 some 1:Option Int)).bind fun i=>
 ((if k=true then
 some (w64 (0-d))
 else
 some d:Option Int)).bind fun j=>
 some (j,i,true)
theorem qbj (N:Nat) (a:Str) {res:Int×Int×Bool} (h:ve N a=some res):qb ZT (.fn 93) [.str a] [] (.tuple [.i res.1,.i res.2.1,.bool res.2.2]) []:=by
 unfold ve at h
 refine Ub Tryz.func93 rfl rfl (m:=54) rfl (rs:=[.tmp 2,.tmp 3,.tmp 4]) rfl (l:=(kAS a [])) rfl ?_
 refine sh fol (kAS a []) ?_
 refine sh fol [(5,.str a)] ?_
 refine sq ?_
 refine sh fol ((5,.str a)::(kBM (decide ((a.length:Int)>20)))) ?_
 refine ihD h (fun I h=>?_) (fun I h=>?_)
 ·refine sh fol ((2,.i 0)::(3,.i 0)::kAa) ?_
  refine Goes.ret ?_
  obtain rfl:=si h
  exact(gw2 [.i 0,.i 0,.bool false] (FzW.tuple (qc.cons (Ua tI) (qc.cons (Ua tI) (qc.cons (Ua tB) qc.nil)))))
 refine Goes.skip ?_
 refine sq ?_
 obtain⟨f,c,h⟩:=bnd h
 refine Goes.cut (s':=(ofG 54 (kAw a f []),[])) ?_ ?_
 ·rcases wyD c with⟨y,c⟩|⟨y,c⟩
  ·obtain⟨G,t,c⟩:=bnd c
   obtain rfl:=si c
   exact tr fol [3,5] (kAw a (decide ((G.toNat:Int)=45)) []) (ac (gw y) (ac (hs (.done (.opt (yl ZT 9 (.str a) (.i 0))) (.int .u8 (G.toNat:Int))) (qaJ st9 t)) az))
  obtain rfl:=si c
  exact tr fol [3] [(5,.str a),(6,.bool false)] (ac (gw y) az)
 refine sq ?_
 refine sh fol (kAw a f [(22,.bool f)]) ?_
 obtain⟨J,g7,h⟩:=bnd h
 refine Goes.imp (Q:=fun x s'=>(x= .normal/\ ∃g,g=J/\Sub s' (ofG 54 (kAw g f []),[]))) ?_ ?_
 ·refine ihB g7 (fun K g7=>?_) (fun K g7=>?_)
  ·obtain⟨H,u,g7⟩:=bnd g7
   refine gr fol [1] (kAw H f []) (ac (hs (.done (.opt (qY ZT 9 (.str a) (some (.i 1)) none none)) (.str H)) (zX st9 (some 1) none u)) az) ?_
   obtain rfl:=si g7
   exact⟨rfl,_,rfl,(Sub.refl _)⟩
  refine Goes.skip ?_
  obtain rfl:=si g7
  exact⟨rfl,_,rfl,(Sub.keep [5,6] rfl rfl)⟩
 rintro x s' ⟨rfl,g,rfl,hsub⟩
 refine Goes.sub hsub ?_
 obtain⟨b,n,h⟩:=bnd h
 refine sq (gr fol [1] (kAw g f [(7,.i b)]) (ac (cv (qag N g n)) az) ?_)
 refine sq ?_
 refine sq ?_
 obtain⟨z,d,h⟩:=bnd h
 refine Goes.cut (s':=(ofG 54 (kAw g f [(7,.i b),(35,.bool z)]),[])) ?_ ?_
 ·rcases wyD d with⟨o,d⟩|⟨o,d⟩
  ·obtain rfl:=si d
   exact tr fol [2] (kAw g f [(7,.i b),(35,.bool true)]) (ac (gw o) az)
  obtain rfl:=si d
  exact tr fol [2] (kAw g f [(7,.i b),(35,.bool (decide ((w64 ((g.length:Int)-b))>10)))]) (ac (gw o) az)
 refine ihB h (fun A h=>?_) (fun A h=>?_)
 ·refine sh fol ((2,.i 0)::(3,.i 0)::kAa) ?_
  refine Goes.ret ?_
  obtain rfl:=si h
  exact(gw2 [.i 0,.i 0,.bool false] (FzW.tuple (qc.cons (Ua tI) (qc.cons (Ua tI) (qc.cons (Ua tB) qc.nil)))))
 refine Goes.skip ?_
 obtain⟨v,p,h⟩:=bnd h
 obtain⟨j,q,h⟩:=bnd h
 refine sq (gr fol [2,3] (kAw g f [(7,.i b),(8,.i j),(9,.i 1)]) (ac (hs (.done (.opt (qY ZT 9 (.str g) none (some (.i b)) none)) (.str v)) (zX st9 none (some b) p)) (ac (cv (qbl N v q)) az)) ?_)
 refine sq ?_
 refine sh fol (kAw g f [(7,.i b),(8,.i j),(9,.i 1),(43,.bool (decide (b<(g.length:Int))))]) ?_
 obtain⟨B,g18,h⟩:=bnd h
 refine Goes.imp (Q:=fun x s'=>(x= .normal/\ ∃e,e=B/\Sub s' (ofG 54 ((6,.bool f)::(kAo j e [])),[]))) ?_ ?_
 ·refine ihD g18 (fun C g18=>?_) (fun C g18=>?_)
  ·obtain⟨w,r,g18⟩:=bnd g18
   obtain⟨D,s,g18⟩:=bnd g18
   refine gr fol [3,4] ((6,.bool f)::(kAo j D [])) (ac (hs (.done (.opt (qY ZT 9 (.str g) (some (.i (w64 (b+1)))) none none)) (.str w)) (zX st9 (some (w64 (b+1))) none r)) (ac (cv (qbl N w s)) az)) ?_
   obtain rfl:=si g18
   exact⟨rfl,_,rfl,(Sub.refl _)⟩
  refine Goes.skip ?_
  obtain rfl:=si g18
  exact⟨rfl,_,rfl,(Sub.keep [6,8,9] rfl rfl)⟩
 rintro x s' ⟨rfl,e,rfl,hsub⟩
 refine Goes.sub hsub ?_
 refine sq ?_
 refine sh fol (kAo j e [(49,.bool f)]) ?_
 obtain⟨E,g23,h⟩:=bnd h
 refine Goes.imp (Q:=fun x s'=>(x= .normal/\ ∃k,k=E/\Sub s' (ofG 54 (kAo k e []),[]))) ?_ ?_
 ·refine ihB g23 (fun F g23=>?_) (fun F g23=>?_)
  ·refine gh fol (kAo (w64 (0-j)) e []) ?_
   obtain rfl:=si g23
   exact⟨rfl,_,rfl,(Sub.refl _)⟩
  refine Goes.skip ?_
  obtain rfl:=si g23
  exact⟨rfl,_,rfl,(Sub.keep [8,9] rfl rfl)⟩
 rintro x s' ⟨rfl,k,rfl,hsub⟩
 refine Goes.sub hsub ?_
 refine sh fol [(2,.i k),(3,.i e),(4,.bool true)] ?_
 refine Goes.ret ?_
 obtain rfl:=si h
 exact(gw2 [.i k,.i e,.bool true] (FzW.tuple (qc.cons (Ua tI) (qc.cons (Ua tI) (qc.cons (Ua tB) qc.nil)))))
def yh (N:Nat):Nat->(List Int)->Str->Option ((List Int)×Str)
 |0,_,_=>none
 |K+1,f,a=>
  if(a.length:Int)>9 then
  (cut a (w64 ((a.length:Int)-9)) (a.length:Int)).bind fun b=>
  (xq N b).bind fun c=>
  (app 8 f [c]).bind fun d=>
  (cut a 0 (w64 ((a.length:Int)-9))).bind fun e=>
  yh N K d e
  else
  some (f,a)
def qam (N:Nat) (a:Str):Option qJ:=
 (if(a.length:Int)>0 then
 (idx a 0).bind fun h=>
 some (decide ((h.toNat:Int)=45))
 else
 some false:Option Bool).bind fun g=>
 ((if g=true then
 (cut a 1 (a.length:Int)).bind fun i=>
 some i
 else
 some a:Option Str)).bind fun j=>
 (yh N N ([]:List Int) j).bind fun(b,c)=>
 (xq N c).bind fun d=>
 (app 8 b [d]).bind fun e=>
 (zN N g e).bind fun f=>
 some f
theorem qci (N:Nat) (k:Str) {res:qJ} (h:qam N k=some res):qb ZT (.fn 170) [.str k] [] (.agg (kAg res.neg res.w)) []:=by
 unfold qam at h
 refine Ub Tryz.func170 rfl rfl (m:=40) rfl (rs:=[.cell 2 124]) rfl (l:=(kAS k [])) rfl ?_
 refine sg fol (kAS k (kS [])) (kR []) ?_
 refine sq ?_
 obtain⟨e,b,h⟩:=bnd h
 refine Goes.cut (s':=(ofG 40 (kAS k (kS (kBJ e []))),(kR []))) ?_ ?_
 ·rcases wyD b with⟨H,b⟩|⟨H,b⟩
  ·obtain⟨J,B,b⟩:=bnd b
   obtain rfl:=si b
   exact tr fol [3,5] (kAS k (kS (kBJ (decide ((J.toNat:Int)=45)) []))) (ac (gw H) (ac (hs (.done (.opt (yl ZT 9 (.str k) (.i 0))) (.int .u8 (J.toNat:Int))) (qaJ st9 B)) az))
  obtain rfl:=si b
  exact tr fol [3] (kAS k (kS [(3,.bool false)])) (ac (gw H) az)
 refine sq ?_
 refine sh fol (kAS k (kS (kBJ e (kBM e)))) ?_
 obtain⟨L,g6,h⟩:=bnd h
 refine Goes.imp (Q:=fun x s'=>(x= .normal/\ ∃C,C=L/\Sub s' (ofG 40 (kAS C (kS (kBJ e []))),(kR [])))) ?_ ?_
 ·refine ihB g6 (fun O g6=>?_) (fun O g6=>?_)
  ·obtain⟨K,D,g6⟩:=bnd g6
   refine gr fol [1] (kAS K (kS (kBJ e []))) (ac (hs (.done (.opt (qY ZT 9 (.str k) (some (.i 1)) none none)) (.str K)) (zX st9 (some 1) none D)) az) ?_
   obtain rfl:=si g6
   exact⟨rfl,_,rfl,(Sub.refl _)⟩
  refine Goes.skip ?_
  obtain rfl:=si g6
  exact⟨rfl,_,rfl,(Sub.keep [0,2,3] rfl rfl)⟩
 rintro x s' ⟨rfl,C,rfl,hsub⟩
 refine Goes.sub hsub ?_
 refine sh fol (kAS C (kS (kBJ e [(4,.nilslice)]))) ?_
 refine sq (Goes.block ?_)
 obtain⟨F,g13,h⟩:=bnd h
 refine Goes.imp (Q:=fun x s'=>(x= .exit 0/\ ∃f n,(f,n)=F/\Sub s' (ofG 40 (kAS n (kS (kBJ e [(4,.gslice 1 f.length 1)]))),(kR (kB f []))))) ?_ ?_
 ·refine Goes.sub (s':=(ofG 40 (kAS C (kS (kBJ e [(4,.gslice 1 ([]:List Int).length 1)]))),(kR kA1))) (Sub.norm [] [some 0,none] rfl rfl (.keep (.same nS) (.kp (.keep (.same nB) (.keep .nil .nil)))) (.kb rfl (.same sn) (.fresh .nil))) ?_
  refine Uc (fun M s=> ∃(p:List Int) (a:Str),s=(ofG 40 (kAS a (kS (kBJ e [(4,.gslice 1 p.length 1)]))),(kR (kB p [])))/\yh N M p a=some F) ?_ (m:=N) ⟨_,_,rfl,g13⟩
  rintro M s ⟨p,a,rfl,g13⟩
  cases M with
  |zero=>simp only[yh]at g13;cases g13
  |succ M=>
   rw[yh]at g13
   refine sq ?_
   refine sh fol (kAS a (kS (kBJ e [(4,.gslice 1 p.length 1),(18,.bool (decide ((a.length:Int)>9)))]))) ?_
   refine ihD g13 (fun I g13=>?_) (fun I g13=>?_)
   ·refine Goes.skip ?_
    refine Goes.block ?_
    obtain⟨G,q,g13⟩:=bnd g13
    obtain⟨o,r,g13⟩:=bnd g13
    obtain⟨g,t,g13⟩:=bnd g13
    refine sq (gq fol [5,6,8] (kAS a (kS (kBJ e [(4,.gslice 3 g.length 1)]))) (kR (kA2 o (kB g []))) (ac (hs (.done (.opt (qY ZT 9 (.str a) (some (.i (w64 ((a.length:Int)-9)))) none none)) (.str G)) (zX st9 (some (w64 ((a.length:Int)-9))) none q)) (ac (cv (qbl N G r)) (ac (hs (.run [1,2] (yM ZT [75,75] (.gslice 1 p.length 1) (.slice 2 0 1 1 1)) (kR (kB p [.cells [.i o]])) (.gslice 3 g.length 1) (kR (kA2 o (kB g []))) true) (qbC vE (E:=encI) rfl (qfN (E:=encI) (ys:=[o]) rfl rfl rfl rfl) (qgC (E:=encI) (l:=p) rfl rfl rfl t rfl))) az))) ?_)
    obtain⟨u,v,g13⟩:=bnd g13
    refine gr fol [4] (kAS u (kS (kBJ e [(4,.gslice 3 g.length 1)]))) (ac (hs (.done (.opt (qY ZT 9 (.str a) none (some (.i (w64 ((a.length:Int)-9)))) none)) (.str u)) (zX st9 none (some (w64 ((a.length:Int)-9))) v)) az) ?_
    exact⟨M,(ofG 40 (kAS u (kS (kBJ e [(4,.gslice 1 g.length 1)]))),(kR (kB g []))),Nat.lt_succ_self _,(Sub.norm [] [some 0,some 3] rfl rfl (.keep (.same nS) (.kp (.keep (.same nB) (.keep (.gslice rfl) .nil)))) (.kb rfl (.same sn) (.ks .nil))),_,_,rfl,g13⟩
   refine Goes.exit ?_
   obtain rfl:=si g13
   exact⟨rfl,_,_,rfl,(Sub.keep [0,2,3,4] rfl rfl)⟩
 rintro x s' ⟨rfl,f,n,rfl,hsub⟩
 try dsimp only at h
 refine Goes.sub hsub ?_
 obtain⟨j,y,h⟩:=bnd h
 obtain⟨d,z,h⟩:=bnd h
 obtain⟨c,A,h⟩:=bnd h
 refine sq (gq fol [3,5,6] (kS []) (kAV c.neg c.w (kA2 j (kAY d))) (ac (cv (qbl N n y)) (ac (hs (.run [1,2] (yM ZT [75,75] (.gslice 1 f.length 1) (.slice 2 0 1 1 1)) (kR (kB f [.cells [.i j]])) (.gslice 3 d.length 1) (kR (kA2 j (kB d []))) true) (qbC vE (E:=encI) rfl (qfN (E:=encI) (ys:=[j]) rfl rfl rfl rfl) (qgC (E:=encI) (l:=f) rfl rfl rfl z rfl))) (ac (hs (.callF 173 [.bool e,.gslice 3 d.length 1] (kR (kA2 j (kB d []))) [3] (kAg e d) (.agg (kAg c.neg c.w))) (yj (FzL.cons (Uh tB) (FzL.cons (Fz.gs (E:=encI) rfl rfl (nl rfl)) FzL.nil)) (jb N e d A) (Still.agg (AllST.cons tB (AllST.cons (qy encI _ (nl rfl)) AllST.nil))))) az))) ?_)
 refine Goes.sub (show Sub (ofG 40 (kS []),(kAV c.neg c.w (kA2 j (kAY d)))) (ofG 40 (kS []),(kAV c.neg c.w []))from(Sub.norm [] [some 0] rfl rfl (.kp .nil) (.kb rfl (.same sn) .nil))) ?_
 refine Goes.ret ?_
 obtain rfl:=si h
 exact(gw2 [.agg (kAg c.neg c.w)] (FzW.agg (qc.cons (Ua tB) (qc.cons (Ua (qy encI _ (nl rfl))) qc.nil))))
def jK (N:Nat) (a:Str):Option (qJ×qJ):=
 (yw N a).bind fun b=>
 if b=(a.length:Int)then
 (qam N a).bind fun c=>
 (vR N 1).bind fun d=>
 some (c,d)
 else
 (cut a 0 b).bind fun e=>
 (qam N e).bind fun f=>
 (cut a (w64 (b+1)) (a.length:Int)).bind fun g=>
 (qam N g).bind fun h=>
 some (f,h)
theorem yV (N:Nat) (a:Str) {res:qJ×qJ} (h:jK N a=some res):qb ZT (.fn 94) [.str a] [] (.tuple (kAp res.1.neg res.1.w res.2.neg res.2.w)) []:=by
 unfold jK at h
 refine Ub Tryz.func94 rfl rfl (m:=25) rfl (rs:=[.cell 2 124,.cell 3 124]) rfl (l:=(kAS a [])) rfl ?_
 refine sg fol (kAS a (kS (kAc []))) (kR (kR [])) ?_
 refine sh fol (kS (kAc (kA4 a))) ?_
 obtain⟨b,c,h⟩:=bnd h
 refine sq (gr fol [1] (kS (kAc ((4,.str a)::(kA6 b)))) (ac (cv (qag N a c)) az) ?_)
 refine sq ?_
 refine sh fol (kS (kAc ((4,.str a)::(5,.i b)::(kBB (decide (b=(a.length:Int))))))) ?_
 refine ihD h (fun t h=>?_) (fun t h=>?_)
 ·obtain⟨n,d,h⟩:=bnd h
  obtain⟨o,e,h⟩:=bnd h
  refine sq (gq fol [1,2] (kS (kAc [])) (kM n.neg n.w o.neg o.w []) (ac (cv (qci N a d)) (ac (cv (qa7 N 1 e)) az)) ?_)
  refine Goes.ret ?_
  obtain rfl:=si h
  exact(gw2 (kAp n.neg n.w o.neg o.w) (FzW.tuple (qc.cons (FzW.agg (qc.cons (Ua tB) (qc.cons (Ua (qy encI _ (nl rfl))) qc.nil))) (qc.cons (FzW.agg (qc.cons (Ua tB) (qc.cons (Ua (qy encI _ (nl rfl))) qc.nil))) qc.nil))))
 refine Goes.skip ?_
 obtain⟨r,f,h⟩:=bnd h
 obtain⟨p,g,h⟩:=bnd h
 obtain⟨s,j,h⟩:=bnd h
 obtain⟨q,k,h⟩:=bnd h
 refine sq (gq fol [2,3,7,8] (kS (kAc [])) (kM p.neg p.w q.neg q.w []) (ac (hs (.done (.opt (qY ZT 9 (.str a) none (some (.i b)) none)) (.str r)) (zX st9 none (some b) f)) (ac (cv (qci N r g)) (ac (hs (.done (.opt (qY ZT 9 (.str a) (some (.i (w64 (b+1)))) none none)) (.str s)) (zX st9 (some (w64 (b+1))) none j)) (ac (cv (qci N s k)) az)))) ?_)
 refine Goes.ret ?_
 obtain rfl:=si h
 exact(gw2 (kAp p.neg p.w q.neg q.w) (FzW.tuple (qc.cons (FzW.agg (qc.cons (Ua tB) (qc.cons (Ua (qy encI _ (nl rfl))) qc.nil))) (qc.cons (FzW.agg (qc.cons (Ua tB) (qc.cons (Ua (qy encI _ (nl rfl))) qc.nil))) qc.nil))))
def qap (a:List Int) (i:Int):Option Int:=
 if i<(a.length:Int)then
 (idx a i).bind fun b=>
 some b
 else
 some 0
theorem qcm (a:List Int) (i:Int) {res:Int} (h:qap a i=some res):qb ZT (.fn 234) [vl encI a,.i i] [] (.i res) []:=by
 unfold qap at h
 refine Ub Tryz.func234 rfl rfl (m:=13) rfl (rs:=[.tmp 4]) rfl (l:=(kAh a i [])) rfl ?_
 refine sh fol (kAh a i []) ?_
 refine sq ?_
 refine sh fol (kAh a i (kBI (decide (i<(a.length:Int))))) ?_
 refine ihD h (fun d h=>?_) (fun d h=>?_)
 ·obtain⟨c,b,h⟩:=bnd h
  refine sq (gr fol [2,3] [(4,.i c)] (ac (iv vE encI b) (ac (lv 0 ce3 encI b rfl) az)) ?_)
  refine Goes.ret ?_
  obtain rfl:=si h
  exact(gw2 [.i c] (Ua tI))
 refine Goes.skip ?_
 refine sh fol [(4,.i 0)] ?_
 refine Goes.ret ?_
 obtain rfl:=si h
 exact(gw2 [.i 0] (Ua tI))
def zG (a:List Int) (b:List Int):Nat->(List Int)->Int->Int->Option (List Int)
 |0,_,_,_=>none
 |K+1,h,f,c=>
  (if c<(a.length:Int)then
  some true
  else
  if c<(b.length:Int)then
  some true
  else
  some (decide (f>0)):Option Bool).bind fun i=>
  if i=true then
  (qap a c).bind fun d=>
  (qap b c).bind fun e=>
  (app 8 h [(w64 ((w64 (d+e))+f)).tmod 1000000000]).bind fun g=>
  zG a b K g (w64 ((w64 ((w64 (d+e))+f)).tdiv 1000000000)) (w64 (c+1))
  else
  some h
def xN (N:Nat) (a:List Int) (b:List Int):Option (List Int):=
 (zG a b N ([]:List Int) 0 0).bind fun c=>
 some c
theorem qfp (N:Nat) (a:List Int) (b:List Int) {res:List Int} (h:xN N a b=some res):qb ZT (.fn 174) (kBE a b) [] (vl encI res) []:=by
 unfold xN at h
 refine Ub Tryz.func174 rfl rfl (m:=42) rfl (rs:=[.tmp 4]) rfl (l:=(kI a b [])) rfl ?_
 refine sh fol (kI a b []) ?_
 refine sh fol (kI a b [(5,.nilslice)]) ?_
 refine sh fol (kI a b [(5,.nilslice),(6,.i 0)]) ?_
 refine sq ?_
 refine sh fol (kI a b [(5,.nilslice),(6,.i 0),(7,.i 0)]) ?_
 refine Goes.block ?_
 obtain⟨v,g5,h⟩:=bnd h
 refine Goes.imp (Q:=fun x s'=>(x= .exit 0/\ ∃q,q=v/\Sub s' (ofG 42 (kA7 q []),(kB q [])))) ?_ ?_
 ·refine Goes.sub (s':=(ofG 42 (kI a b [(5,.gslice 0 ([]:List Int).length 1),(6,.i 0),(7,.i 0)]),kA1)) (Sub.norm [] [none] rfl rfl (.keep (.same (qf encI _)) (.keep (.same (qf encI _)) (.keep .nil (.keep (.same nI) (.keep (.same nI) .nil))))) (.fresh .nil)) ?_
  refine Uc (fun M s=> ∃(k:List Int) (f:Int) (j:Int),s=(ofG 42 (kI a b (kAO k f j [])),(kB k []))/\zG a b M k f j=some v) ?_ (m:=N) ⟨_,_,_,rfl,g5⟩
  rintro M s ⟨k,f,j,rfl,g5⟩
  cases M with
  |zero=>simp only[zG]at g5;cases g5
  |succ M=>
   rw[zG]at g5
   refine sq ?_
   refine sq ?_
   obtain⟨w,c,g5⟩:=bnd g5
   refine Goes.cut (s':=(ofG 42 (kI a b (kAO k f j [(22,.bool w)])),(kB k []))) ?_ ?_
   ·rcases wyD c with⟨r,c⟩|⟨r,c⟩
    ·obtain rfl:=si c
     exact tr fol [4] (kI a b (kAO k f j [(22,.bool true)])) (ac (gw r) az)
    rcases wyD c with⟨t,c⟩|⟨t,c⟩
    ·obtain rfl:=si c
     exact tr fol [4,10] (kI a b (kAO k f j [(22,.bool true)])) (ac (gw r) (ac (gw t) az))
    obtain rfl:=si c
    exact tr fol [4,10] (kI a b (kAO k f j [(22,.bool (decide (f>0)))])) (ac (gw r) (ac (gw t) az))
   refine ihB g5 (fun u g5=>?_) (fun u g5=>?_)
   ·refine Goes.skip ?_
    refine sq (Goes.block ?_)
    obtain⟨d,n,g5⟩:=bnd g5
    obtain⟨e,o,g5⟩:=bnd g5
    refine sq (gr fol [2,5] (kI a b (kA7 k (kAX j (w64 ((w64 (d+e))+f))))) (ac (cv (qcm a j n)) (ac (cv (qcm b j o)) az)) ?_)
    obtain⟨g,p,g5⟩:=bnd g5
    refine sq (gq fol [4] (kI a b ((5,.gslice 2 g.length 1)::(kAX j (w64 ((w64 (d+e))+f))))) (kA2 ((w64 ((w64 (d+e))+f)).tmod 1000000000) (kB g [])) (ac (hs (.run [0,1] (yM ZT [75,75] (.gslice 0 k.length 1) (.slice 1 0 1 1 1)) (kB k [.cells [.i ((w64 ((w64 (d+e))+f)).tmod 1000000000)]]) (.gslice 2 g.length 1) (kA2 ((w64 ((w64 (d+e))+f)).tmod 1000000000) (kB g [])) true) (qbC vE (E:=encI) rfl (qfN (E:=encI) (ys:=[(w64 ((w64 (d+e))+f)).tmod 1000000000]) rfl rfl rfl rfl) (qgC (E:=encI) (l:=k) rfl rfl rfl p rfl))) az) ?_)
    refine gh fol (kI a b ((5,.gslice 2 g.length 1)::(kA5 (w64 ((w64 ((w64 (d+e))+f)).tdiv 1000000000)) j))) ?_
    refine gh fol (kI a b ((5,.gslice 2 g.length 1)::(kA5 (w64 ((w64 ((w64 (d+e))+f)).tdiv 1000000000)) (w64 (j+1))))) ?_
    exact⟨M,(ofG 42 (kI a b (kAO g (w64 ((w64 ((w64 (d+e))+f)).tdiv 1000000000)) (w64 (j+1)) [])),(kB g [])),Nat.lt_succ_self _,(Sub.norm [] [some 2] rfl rfl (.keep (.same (qf encI _)) (.keep (.same (qf encI _)) (.keep (.gslice rfl) (.keep (.same nI) (.keep (.same nI) .nil))))) (.ks .nil)),_,_,_,rfl,g5⟩
   refine Goes.exit ?_
   obtain rfl:=si g5
   exact⟨rfl,_,rfl,(Sub.keep [5] rfl rfl)⟩
 rintro x s' ⟨rfl,q,rfl,hsub⟩
 refine Goes.sub hsub ?_
 refine sh fol [(4,.gslice 0 q.length 1)] ?_
 refine Goes.ret ?_
 obtain rfl:=si h
 exact(gw2 [.gslice 0 q.length 1] (FzW.fz (Fz.gs (E:=encI) rfl rfl (nl rfl))))
def zh (a:List Int) (b:List Int):Nat->(List Int)->Int->Int->Option (List Int)
 |0,_,_,_=>none
 |K+1,i,d,c=>
  if c<(a.length:Int)then
  (idx a c).bind fun e=>
  (qap b c).bind fun f=>
  ((if(w64 ((w64 (e-f))-d))<0 then
  some (1,w64 ((w64 ((w64 (e-f))-d))+1000000000))
  else
  some (0,w64 ((w64 (e-f))-d)):Option (Int×Int))).bind fun(j,g)=>
  (app 8 i [g]).bind fun h=>
  zh a b K h j (w64 (c+1))
  else
  some i
def yn (N:Nat) (a:List Int) (b:List Int):Option (List Int):=
 (zh a b N ([]:List Int) 0 0).bind fun d=>
 (vX N d).bind fun c=>
 some c
theorem qcp (N:Nat) (a:List Int) (b:List Int) {res:List Int} (h:yn N a b=some res):qb ZT (.fn 176) (kBE a b) [] (vl encI res) []:=by
 unfold yn at h
 refine Ub Tryz.func176 rfl rfl (m:=35) rfl (rs:=[.tmp 4]) rfl (l:=(kI a b [])) rfl ?_
 refine sh fol (kI a b []) ?_
 refine sh fol (kI a b [(5,.nilslice)]) ?_
 refine sh fol (kI a b [(5,.nilslice),(6,.i 0)]) ?_
 refine sq ?_
 refine sh fol (kI a b [(5,.nilslice),(6,.i 0),(7,.i 0)]) ?_
 refine Goes.block ?_
 obtain⟨y,g5,h⟩:=bnd h
 refine Goes.imp (Q:=fun x s'=>(x= .exit 0/\ ∃j,j=y/\Sub s' (ofG 35 (kA7 j []),(kB j [])))) ?_ ?_
 ·refine Goes.sub (s':=(ofG 35 (kI a b [(5,.gslice 0 ([]:List Int).length 1),(6,.i 0),(7,.i 0)]),kA1)) (Sub.norm [] [none] rfl rfl (.keep (.same (qf encI _)) (.keep (.same (qf encI _)) (.keep .nil (.keep (.same nI) (.keep (.same nI) .nil))))) (.fresh .nil)) ?_
  refine Uc (fun M s=> ∃(c:List Int) (k:Int) (d:Int),s=(ofG 35 (kI a b (kAO c k d [])),(kB c []))/\zh a b M c k d=some y) ?_ (m:=N) ⟨_,_,_,rfl,g5⟩
  rintro M s ⟨c,k,d,rfl,g5⟩
  cases M with
  |zero=>simp only[zh]at g5;cases g5
  |succ M=>
   rw[zh]at g5
   refine sq ?_
   refine sh fol (kI a b (kAO c k d (kBB (decide (d<(a.length:Int)))))) ?_
   refine ihD g5 (fun z g5=>?_) (fun z g5=>?_)
   ·refine Goes.skip ?_
    refine sq (Goes.block ?_)
    obtain⟨q,n,g5⟩:=bnd g5
    obtain⟨r,u,g5⟩:=bnd g5
    refine sq (gr fol [2,3,6] (kI a b (kA7 c (kAX d (w64 ((w64 (q-r))-k))))) (ac (iv vE encI n) (ac (lv 0 ce3 encI n rfl) (ac (cv (qcm b d u)) az))) ?_)
    refine sh fol (kI a b (kA7 c ((6,.i 0)::(kAX d (w64 ((w64 (q-r))-k)))))) ?_
    refine sq ?_
    refine sh fol (kI a b (kA7 c [(6,.i 0),(7,.i d),(8,.i (w64 ((w64 (q-r))-k))),(26,.bool (decide ((w64 ((w64 (q-r))-k))<0)))])) ?_
    obtain⟨v,g11,g5⟩:=bnd g5
    refine Goes.imp (Q:=fun x s'=>(x= .normal/\ ∃t e,(t,e)=v/\Sub s' (ofG 35 (kI a b (kAO c t d [(8,.i e)])),(kB c [])))) ?_ ?_
    ·refine ihD g11 (fun w g11=>?_) (fun w g11=>?_)
     ·refine sh fol (kI a b (kA7 c (kAX d (w64 ((w64 ((w64 (q-r))-k))+1000000000))))) ?_
      refine gh fol (kI a b (kA7 c ((6,.i 1)::(kAX d (w64 ((w64 ((w64 (q-r))-k))+1000000000)))))) ?_
      obtain rfl:=si g11
      exact⟨rfl,_,_,rfl,(Sub.refl _)⟩
     refine Goes.skip ?_
     obtain rfl:=si g11
     exact⟨rfl,_,_,rfl,(Sub.keep [0,1,5,6,7,8] rfl rfl)⟩
    rintro x s' ⟨rfl,t,e,rfl,hsub⟩
    try dsimp only at g5
    refine Goes.sub hsub ?_
    obtain⟨f,o,g5⟩:=bnd g5
    refine gq fol [3] (kI a b ((5,.gslice 2 f.length 1)::(kA5 t d))) (kA2 e (kB f [])) (ac (hs (.run [0,1] (yM ZT [75,75] (.gslice 0 c.length 1) (.slice 1 0 1 1 1)) (kB c [.cells [.i e]]) (.gslice 2 f.length 1) (kA2 e (kB f [])) true) (qbC vE (E:=encI) rfl (qfN (E:=encI) (ys:=[e]) rfl rfl rfl rfl) (qgC (E:=encI) (l:=c) rfl rfl rfl o rfl))) az) ?_
    refine gh fol (kI a b ((5,.gslice 2 f.length 1)::(kA5 t (w64 (d+1))))) ?_
    exact⟨M,(ofG 35 (kI a b (kAO f t (w64 (d+1)) [])),(kB f [])),Nat.lt_succ_self _,(Sub.norm [] [some 2] rfl rfl (.keep (.same (qf encI _)) (.keep (.same (qf encI _)) (.keep (.gslice rfl) (.keep (.same nI) (.keep (.same nI) .nil))))) (.ks .nil)),_,_,_,rfl,g5⟩
   refine Goes.exit ?_
   obtain rfl:=si g5
   exact⟨rfl,_,rfl,(Sub.keep [5] rfl rfl)⟩
 rintro x s' ⟨rfl,j,rfl,hsub⟩
 refine Goes.sub hsub ?_
 obtain⟨g,p,h⟩:=bnd h
 refine sq (gq fol [1] [(4,vl encI g)] (kAY j) (ac (hs (.callF 232 [.gslice 0 j.length 1] (kB j []) [0] [vl encI j] (vl encI g)) (yj (FzL.cons (Fz.gs (E:=encI) rfl rfl (nl rfl)) FzL.nil) (yI N j p) (qy encI _ (nl rfl)))) az) ?_)
 refine Goes.sub (show Sub (ofG 35 [(4,vl encI g)],(kAY j)) (ofG 35 [(4,vl encI g)],[])from(Sub.norm [] [] rfl rfl (.keep (.same (qf encI _)) .nil) .nil)) ?_
 refine Goes.ret ?_
 obtain rfl:=si h
 exact(gw2 [vl encI g] (Ua (qy encI _ (nl rfl))))
def qcg (N:Nat) (a:qJ) (b:qJ):Option qJ:=
 if(a.neg==b.neg)=true then
 (xN N a.w b.w).bind fun c=>
 (zN N a.neg c).bind fun d=>
 some d
 else
 (jC N a.w b.w).bind fun e=>
 if e>=0 then
 (yn N a.w b.w).bind fun f=>
 (zN N a.neg f).bind fun g=>
 some g
 else
 (yn N b.w a.w).bind fun h=>
 (zN N b.neg h).bind fun i=>
 some i
theorem qiD (N:Nat) (a:qJ) (b:qJ) {res:qJ} (h:qcg N a b=some res):qb ZT (.fn 96) (kAp a.neg a.w b.neg b.w) [] (.agg (kAg res.neg res.w)) []:=by
 unfold qcg at h
 refine Ub Tryz.func96 rfl rfl (m:=40) rfl (rs:=[.cell 4 124]) rfl (l:=[(0,.agg [.bool a.neg,vl encI a.w]),(1,.agg [.bool b.neg,vl encI b.w])]) rfl ?_
 refine sg fol (kF []) (kM a.neg a.w b.neg b.w (kR [])) ?_
 refine sq ?_
 refine sh fol (kF [(9,.bool (a.neg==b.neg))]) ?_
 refine ihB h (fun p h=>?_) (fun p h=>?_)
 ·obtain⟨q,c,h⟩:=bnd h
  obtain⟨k,d,h⟩:=bnd h
  refine sq (gq fol [6,7] (kAR []) (kM a.neg a.w b.neg b.w (kAV k.neg k.w [])) (ac (cv (qfp N a.w b.w c)) (ac (cv (jb N a.neg q d)) az)) ?_)
  refine Goes.ret ?_
  obtain rfl:=si h
  exact(gw2 [.agg (kAg k.neg k.w)] (FzW.agg (qc.cons (Ua tB) (qc.cons (Ua (qy encI _ (nl rfl))) qc.nil))))
 refine Goes.skip ?_
 refine sq ?_
 obtain⟨r,e,h⟩:=bnd h
 refine sq (gr fol [4] (kF [(23,.bool (decide (r>=0)))]) (ac (cv (qbm N a.w b.w e)) az) ?_)
 refine ihD h (fun s h=>?_) (fun s h=>?_)
 ·obtain⟨t,f,h⟩:=bnd h
  obtain⟨n,g,h⟩:=bnd h
  refine sq (gq fol [6,7] (kAR []) (kM a.neg a.w b.neg b.w (kAV n.neg n.w [])) (ac (cv (qcp N a.w b.w f)) (ac (cv (jb N a.neg t g)) az)) ?_)
  refine Goes.ret ?_
  obtain rfl:=si h
  exact(gw2 [.agg (kAg n.neg n.w)] (FzW.agg (qc.cons (Ua tB) (qc.cons (Ua (qy encI _ (nl rfl))) qc.nil))))
 refine Goes.skip ?_
 obtain⟨u,i,h⟩:=bnd h
 obtain⟨o,j,h⟩:=bnd h
 refine sq (gq fol [6,7] (kAR []) (kM a.neg a.w b.neg b.w (kAV o.neg o.w [])) (ac (cv (qcp N b.w a.w i)) (ac (cv (jb N b.neg u j)) az)) ?_)
 refine Goes.ret ?_
 obtain rfl:=si h
 exact(gw2 [.agg (kAg o.neg o.w)] (FzW.agg (qc.cons (Ua tB) (qc.cons (Ua (qy encI _ (nl rfl))) qc.nil))))
def yC (N:Nat) (a:qJ) (b:qJ):Option qJ:=
 (vK N a.w b.w).bind fun c=>
 (zN N (!(a.neg==b.neg)) c).bind fun d=>
 some d
theorem qak (N:Nat) (a:qJ) (b:qJ) {res:qJ} (h:yC N a b=some res):qb ZT (.fn 97) (kAp a.neg a.w b.neg b.w) [] (.agg (kAg res.neg res.w)) []:=by
 unfold yC at h
 refine Ub Tryz.func97 rfl rfl (m:=16) rfl (rs:=[.cell 4 124]) rfl (l:=[(0,.agg [.bool a.neg,vl encI a.w]),(1,.agg [.bool b.neg,vl encI b.w])]) rfl ?_
 refine sg fol (kF []) (kM a.neg a.w b.neg b.w (kR [])) ?_
 obtain⟨f,c,h⟩:=bnd h
 obtain⟨e,d,h⟩:=bnd h
 refine sq (gq fol [9,10] (kAR []) (kM a.neg a.w b.neg b.w (kAV e.neg e.w [])) (ac (cv (qaT N a.w b.w c)) (ac (cv (jb N (!(a.neg==b.neg)) f d)) az)) ?_)
 refine Goes.ret ?_
 obtain rfl:=si h
 exact(gw2 [.agg (kAg e.neg e.w)] (FzW.agg (qc.cons (Ua tB) (qc.cons (Ua (qy encI _ (nl rfl))) qc.nil))))
def qb7 (N:Nat) (a:Str) (b:Str):Option Str:=
 (ve N a).bind fun c=>
 (ve N b).bind fun d=>
 (if c.2.2=true then
 some d.2.2
 else
 some false:Option Bool).bind fun l=>
 if l=true then
 (qcj N (w64 ((w64 (c.1*d.2.1))+(w64 (d.1*c.2.1)))) (w64 (c.2.1*d.2.1))).bind fun m=>
 some m
 else
 (jK N a).bind fun e=>
 (jK N b).bind fun f=>
 (yC N e.1 f.2).bind fun g=>
 (yC N f.1 e.2).bind fun h=>
 (qcg N g h).bind fun i=>
 (yC N e.2 f.2).bind fun j=>
 (vD N i j).bind fun k=>
 some k
theorem qfS (N:Nat) (a:Str) (b:Str) {res:Str} (h:qb7 N a b=some res):qb ZT (.fn 25) (kAi a b) [] (.str res) []:=by
 unfold qb7 at h
 refine Ub Tryz.func25 rfl rfl (m:=63) rfl (rs:=[.tmp 4]) rfl (l:=(kO a b [])) rfl ?_
 refine sh fol (kO a b []) ?_
 obtain⟨d,q,h⟩:=bnd h
 refine sq (gr fol [1] (kO a b [(5,.i d.1),(6,.i d.2.1),(7,.bool d.2.2)]) (ac (cv (qbj N a q)) az) ?_)
 obtain⟨e,r,h⟩:=bnd h
 refine sq (gr fol [1] (kO a b ((5,.i d.1)::(6,.i d.2.1)::(7,.bool d.2.2)::(kAo e.1 e.2.1 [(10,.bool e.2.2)]))) (ac (cv (qbj N b r)) az) ?_)
 refine sq ?_
 refine sq ?_
 obtain⟨D,c,h⟩:=bnd h
 refine Goes.cut (s':=(ofG 63 (kO a b ((5,.i d.1)::(6,.i d.2.1)::(kAo e.1 e.2.1 [(30,.bool D)]))),[])) ?_ ?_
 ·rcases wyB c with⟨x,c⟩|⟨x,c⟩
  ·obtain rfl:=si c
   exact tr fol [1] (kO a b ((5,.i d.1)::(6,.i d.2.1)::(kAo e.1 e.2.1 [(30,.bool e.2.2)]))) (ac (gw x) az)
  obtain rfl:=si c
  exact tr fol [1] (kO a b ((5,.i d.1)::(6,.i d.2.1)::(kAo e.1 e.2.1 [(30,.bool false)]))) (ac (gw x) az)
 refine ihB h (fun E h=>?_) (fun E h=>?_)
 ·obtain⟨C,s,h⟩:=bnd h
  refine sq (gr fol [10] (kA4 C) (ac (cv (qeL N (w64 ((w64 (d.1*e.2.1))+(w64 (e.1*d.2.1)))) (w64 (d.2.1*e.2.1)) s)) az) ?_)
  refine Goes.ret ?_
  obtain rfl:=si h
  exact(gw2 [.str C] (Ua tS))
 refine Goes.skip ?_
 obtain⟨f,t,h⟩:=bnd h
 refine sq (gq fol [1] [(1,.str b),(11,.ptr 0 0),(12,.ptr 1 0)] (kM f.1.neg f.1.w f.2.neg f.2.w []) (ac (cv (yV N a t)) az) ?_)
 obtain⟨g,u,h⟩:=bnd h
 refine sq (gq fol [1] [(11,.ptr 0 0),(12,.ptr 1 0),(13,.ptr 2 0),(14,.ptr 3 0)] (kM f.1.neg f.1.w f.2.neg f.2.w (kM g.1.neg g.1.w g.2.neg g.2.w [])) (ac (cv (yV N b u)) az) ?_)
 obtain⟨y,j,h⟩:=bnd h
 obtain⟨z,k,h⟩:=bnd h
 obtain⟨A,n,h⟩:=bnd h
 obtain⟨B,o,h⟩:=bnd h
 obtain⟨v,p,h⟩:=bnd h
 refine sq (gr fol [2,5,6,9,10] (kA4 v) (ac (cv (qak N f.1 g.2 j)) (ac (cv (qak N g.1 f.2 k)) (ac (cv (qiD N y z n)) (ac (cv (qak N f.2 g.2 o)) (ac (cv (qad N A B p)) az))))) ?_)
 refine Goes.ret ?_
 obtain rfl:=si h
 exact(gw2 [.str v] (Ua tS))
def xY (N:Nat) (a:Str) (b:Str):Option Str:=
 (qbx b).bind fun c=>
 (qb7 N a c).bind fun d=>
 some d
theorem qaA (N:Nat) (a:Str) (b:Str) {res:Str} (h:xY N a b=some res):qb ZT (.fn 11) (kAi a b) [] (.str res) []:=by
 unfold xY at h
 refine Ub Tryz.func11 rfl rfl (m:=9) rfl (rs:=[.tmp 4]) rfl (l:=(kO a b [])) rfl ?_
 refine sh fol (kO a b []) ?_
 obtain⟨f,c,h⟩:=bnd h
 obtain⟨e,d,h⟩:=bnd h
 refine sq (gr fol [2,3] (kA4 e) (ac (cv (qfF b c)) (ac (cv (qfS N a f d)) az)) ?_)
 refine Goes.ret ?_
 obtain rfl:=si h
 exact(gw2 [.str e] (Ua tS))
def ym (N:Nat) (a:Str) (b:Str):Option Int:=
 (xY N a b).bind fun c=>
 (xG c).bind fun d=>
 some d
theorem jd (N:Nat) (a:Str) (b:Str) {res:Int} (h:ym N a b=some res):qb ZT (.fn 18) (kAi a b) [] (.i res) []:=by
 unfold ym at h
 refine Ub Tryz.func18 rfl rfl (m:=9) rfl (rs:=[.tmp 4]) rfl (l:=(kO a b [])) rfl ?_
 refine sh fol (kO a b []) ?_
 obtain⟨f,c,h⟩:=bnd h
 obtain⟨e,d,h⟩:=bnd h
 refine sq (gr fol [2,3] [(4,.i e)] (ac (cv (qaA N a b c)) (ac (cv (qbF f d)) az)) ?_)
 refine Goes.ret ?_
 obtain rfl:=si h
 exact(gw2 [.i e] (Ua tI))
def jL (a:Str):Nat->Int->Option (Unit⊕Bool)
 |0,_=>none
 |K+1,b=>
  if b<(a.length:Int)then
  ((idx a b).bind fun c=>
  if(c.toNat:Int)<48 then
  some true
  else
  some (decide ((c.toNat:Int)>57)):Option Bool).bind fun d=>
  if d=true then
  some (.inr false)
  else
  jL a K (w64 (b+1))
  else
  some (.inl ())
def qbe (N:Nat) (b:Str):Option Bool:=
 (jL b N 0).bind (fun
 |(.inl ())=>
 some true
 |(.inr a)=>
 some a)
theorem qgM (N:Nat) (b:Str) {res:Bool} (h:qbe N b=some res):qb ZT (.fn 178) [.str b] [] (.bool res) []:=by
 unfold qbe at h
 refine Ub Tryz.func178 rfl rfl (m:=20) rfl (rs:=[.tmp 2]) rfl (l:=(kAS b [])) rfl ?_
 refine sh fol (kAS b []) ?_
 refine sq ?_
 refine sh fol (kAS b [(3,.i 0)]) ?_
 refine Goes.block ?_
 obtain⟨f,g2,h⟩:=bnd h
 refine Goes.imp (Q:=fun x s'=>(x= .exit 0/\(.inl ())=f/\Sub s' (ofG 20 [],[]))\/(x= .ret/\ ∃j,(.inr j)=f/\yB ZT [.tmp 2] (.bool j) .ret s')) ?_ ?_
 ·refine Uc (fun M s=> ∃(c:Int),s=(ofG 20 (kAS b [(3,.i c)]),[])/\jL b M c=some f) ?_ (m:=N) ⟨_,rfl,g2⟩
  rintro M s ⟨c,rfl,g2⟩
  cases M with
  |zero=>simp only[jL]at g2;cases g2
  |succ M=>
   rw[jL]at g2
   refine sq ?_
   refine sh fol (kAS b [(3,.i c),(7,.bool (decide (c<(b.length:Int))))]) ?_
   refine ihD g2 (fun k g2=>?_) (fun k g2=>?_)
   ·refine Goes.skip ?_
    refine sq (Goes.block ?_)
    refine sq ?_
    obtain⟨n,a,g2⟩:=bnd g2
    refine Goes.cut (s':=(ofG 20 (kAS b [(3,.i c),(19,.bool n)]),[])) ?_ ?_
    ·obtain⟨e,d,a⟩:=bnd a
     rcases wyD a with⟨g,a⟩|⟨g,a⟩
     ·obtain rfl:=si a
      exact tr fol [2,4] (kAS b [(3,.i c),(19,.bool true)]) (ac (hs (.done (.opt (yl ZT 9 (.str b) (.i c))) (.int .u8 (e.toNat:Int))) (qaJ st9 d)) (ac (gw g) az))
     obtain rfl:=si a
     exact tr fol [2,4,7] (kAS b [(3,.i c),(19,.bool (decide ((e.toNat:Int)>57)))]) (ac (hs (.done (.opt (yl ZT 9 (.str b) (.i c))) (.int .u8 (e.toNat:Int))) (qaJ st9 d)) (ac (gw g) (ac (hs (.done (.opt (yl ZT 9 (.str b) (.i c))) (.int .u8 (e.toNat:Int))) (qaJ st9 d)) az)))
    refine ihB g2 (fun o g2=>?_) (fun o g2=>?_)
    ·refine sh fol [(2,.bool false)] ?_
     refine Goes.ret ?_
     obtain rfl:=si g2
     exact Or.inr (⟨rfl,_,rfl,(gw2 [.bool false] (Ua tB))⟩)
    refine Goes.skip ?_
    refine gh fol (kAS b [(3,.i (w64 (c+1)))]) ?_
    exact⟨M,(ofG 20 (kAS b [(3,.i (w64 (c+1)))]),[]),Nat.lt_succ_self _,(Sub.refl _),_,rfl,g2⟩
   refine Goes.exit ?_
   obtain rfl:=si g2
   exact Or.inl (⟨rfl,rfl,(Sub.keep [] rfl rfl)⟩)
 rintro x s' (⟨rfl,rfl,hsub⟩|⟨rfl,p,rfl,hret⟩)
 ·try dsimp only at h
  refine Goes.sub hsub ?_
  refine sh fol [(2,.bool true)] ?_
  refine Goes.ret ?_
  obtain rfl:=si h
  exact(gw2 [.bool true] (Ua tB))
 try dsimp only at h
 obtain rfl:=si h
 exact hret
def jA (N:Nat) (a:Str):Option Bool:=
 (if(a.length:Int)=0 then
 some true
 else
 if(a.length:Int)>1 then
 (idx a 0).bind fun b=>
 some (decide ((b.toNat:Int)=48))
 else
 some false:Option Bool).bind fun c=>
 if c=true then
 some false
 else
 (qbe N a).bind fun d=>
 some d
theorem jl (N:Nat) (b:Str) {res:Bool} (h:jA N b=some res):qb ZT (.fn 101) [.str b] [] (.bool res) []:=by
 unfold jA at h
 refine Ub Tryz.func101 rfl rfl (m:=18) rfl (rs:=[.tmp 2]) rfl (l:=(kAS b [])) rfl ?_
 refine sh fol (kAS b []) ?_
 refine sq ?_
 refine sq ?_
 obtain⟨k,a,h⟩:=bnd h
 refine Goes.cut (s':=(ofG 18 (kAS b (kBN k)),[])) ?_ ?_
 ·rcases wyD a with⟨e,a⟩|⟨e,a⟩
  ·obtain rfl:=si a
   exact tr fol [3] (kAS b [(15,.bool true)]) (ac (gw e) az)
  rcases wyD a with⟨f,a⟩|⟨f,a⟩
  ·obtain⟨g,c,a⟩:=bnd a
   obtain rfl:=si a
   exact tr fol [3,7,9] (kAS b (kBN (decide ((g.toNat:Int)=48)))) (ac (gw e) (ac (gw f) (ac (hs (.done (.opt (yl ZT 9 (.str b) (.i 0))) (.int .u8 (g.toNat:Int))) (qaJ st9 c)) az)))
  obtain rfl:=si a
  exact tr fol [3,7] (kAS b [(15,.bool false)]) (ac (gw e) (ac (gw f) az))
 refine ihB h (fun n h=>?_) (fun n h=>?_)
 ·refine sh fol [(2,.bool false)] ?_
  refine Goes.ret ?_
  obtain rfl:=si h
  exact(gw2 [.bool false] (Ua tB))
 refine Goes.skip ?_
 obtain⟨j,d,h⟩:=bnd h
 refine sq (gr fol [1] [(2,.bool j)] (ac (cv (qgM N b d)) az) ?_)
 refine Goes.ret ?_
 obtain rfl:=si h
 exact(gw2 [.bool j] (Ua tB))
def qaZ (N:Nat) (a:Str):Option Int:=
 (if(a.length:Int)>0 then
 (idx a 0).bind fun t=>
 some (decide ((t.toNat:Int)=45))
 else
 some false:Option Bool).bind fun u=>
 ((if u=true then
 (cut a 1 (a.length:Int)).bind fun v=>
 some v
 else
 some a:Option Str)).bind fun b=>
 (yw N b).bind fun c=>
 ((cut b 0 c).bind fun f=>
 (jA N f).bind fun g=>
 if(!g)=true then
 some true
 else
 (idx a 0).bind fun h=>
 if(h.toNat:Int)=45 then
 (cut b 0 c).bind fun i=>
 some (i==[48])
 else
 some false:Option Bool).bind fun j=>
 if j=true then
 some 1
 else
 (if c<(b.length:Int)then
 (cut b (w64 (c+1)) (b.length:Int)).bind fun k=>
 (jA N k).bind fun l=>
 if(!l)=true then
 some true
 else
 (cut b (w64 (c+1)) (b.length:Int)).bind fun m=>
 if(m==[48])=true then
 some true
 else
 (cut b (w64 (c+1)) (b.length:Int)).bind fun n=>
 some (n==[49])
 else
 some false:Option Bool).bind fun o=>
 if o=true then
 some 1
 else
 (if c>600 then
 some true
 else
 some (decide ((w64 ((w64 ((b.length:Int)-c))-1))>600)):Option Bool).bind fun p=>
 if p=true then
 some 4
 else
 ((if c<(b.length:Int)then
 (jK N b).bind fun d=>
 (qaE N d.1.w d.2.w).bind fun e=>
 (if(!decide ((e.length:Int)=1))=true then
 some true
 else
 (idx e 0).bind fun q=>
 some (!decide (q=1)):Option Bool).bind fun r=>
 if r=true then
 some (.inr 1)
 else
 some (.inl ())
 else
 some (.inl ()):Option (Unit⊕Int))).bind (fun
 |(.inl ())=>
 some 0
 |(.inr s)=>
 some s)
theorem qbo (N:Nat) (a:Str) {res:Int} (h:qaZ N a=some res):qb ZT (.fn 27) [.str a] [] (.i res) []:=by
 unfold qaZ at h
 refine Ub Tryz.func27 rfl rfl (m:=96) rfl (rs:=[.tmp 2]) rfl (l:=(kAS a [])) rfl ?_
 refine sh fol (kAS a []) ?_
 refine sh fol (kAS a [(3,.str a)]) ?_
 refine sq ?_
 refine sq ?_
 obtain⟨b3,g,h⟩:=bnd h
 refine Goes.cut (s':=(ofG 96 (kAS a [(3,.str a),(16,.bool b3)]),[])) ?_ ?_
 ·rcases wyD g with⟨Y,g⟩|⟨Y,g⟩
  ·obtain⟨c2,J,g⟩:=bnd g
   obtain rfl:=si g
   exact tr fol [3,5] (kAS a [(3,.str a),(16,.bool (decide ((c2.toNat:Int)=45)))]) (ac (gw Y) (ac (hs (.done (.opt (yl ZT 9 (.str a) (.i 0))) (.int .u8 (c2.toNat:Int))) (qaJ st9 J)) az))
  obtain rfl:=si g
  exact tr fol [3] (kAS a [(3,.str a),(16,.bool false)]) (ac (gw Y) az)
 obtain⟨r6,g6,h⟩:=bnd h
 refine Goes.imp (Q:=fun x s'=>(x= .normal/\ ∃e,e=r6/\Sub s' (ofG 96 (kAS a [(3,.str e)]),[]))) ?_ ?_
 ·refine ihB g6 (fun c7 g6=>?_) (fun c7 g6=>?_)
  ·obtain⟨s8,K,g6⟩:=bnd g6
   refine gr fol [1] (kAS a [(3,.str s8)]) (ac (hs (.done (.opt (qY ZT 9 (.str a) (some (.i 1)) none none)) (.str s8)) (zX st9 (some 1) none K)) az) ?_
   obtain rfl:=si g6
   exact⟨rfl,_,rfl,(Sub.refl _)⟩
  refine Goes.skip ?_
  obtain rfl:=si g6
  exact⟨rfl,_,rfl,(Sub.keep [0,3] rfl rfl)⟩
 rintro x s' ⟨rfl,e,rfl,hsub⟩
 refine Goes.sub hsub ?_
 obtain⟨d,L,h⟩:=bnd h
 refine sq (gr fol [1] (kAS a (kAl e d [])) (ac (cv (qag N e L)) az) ?_)
 refine sq ?_
 refine sq ?_
 obtain⟨Z,c,h⟩:=bnd h
 refine Goes.cut (s':=(ofG 96 (kAl e d [(36,.bool Z)]),[])) ?_ ?_
 ·obtain⟨r,n,c⟩:=bnd c
  obtain⟨r11,o,c⟩:=bnd c
  rcases wyB c with⟨z,c⟩|⟨z,c⟩
  ·obtain rfl:=si c
   exact tr fol [2,3,5] (kAl e d [(36,.bool true)]) (ac (hs (.done (.opt (qY ZT 9 (.str e) none (some (.i d)) none)) (.str r)) (zX st9 none (some d) n)) (ac (cv (jl N r o)) (ac (gw z) az)))
  obtain⟨M,t,c⟩:=bnd c
  rcases wyD c with⟨B,c⟩|⟨B,c⟩
  ·obtain⟨O,C,c⟩:=bnd c
   obtain rfl:=si c
   exact tr fol [2,3,5,7,9,12] (kAl e d [(36,.bool (O==[48]))]) (ac (hs (.done (.opt (qY ZT 9 (.str e) none (some (.i d)) none)) (.str r)) (zX st9 none (some d) n)) (ac (cv (jl N r o)) (ac (gw z) (ac (hs (.done (.opt (yl ZT 22 (.str a) (.i 0))) (.int .u8 (M.toNat:Int))) (qaJ qlH t)) (ac (gw B) (ac (hs (.done (.opt (qY ZT 9 (.str e) none (some (.i d)) none)) (.str O)) (zX st9 none (some d) C)) az))))))
  obtain rfl:=si c
  exact tr fol [2,3,5,7,9] (kAl e d [(36,.bool false)]) (ac (hs (.done (.opt (qY ZT 9 (.str e) none (some (.i d)) none)) (.str r)) (zX st9 none (some d) n)) (ac (cv (jl N r o)) (ac (gw z) (ac (hs (.done (.opt (yl ZT 22 (.str a) (.i 0))) (.int .u8 (M.toNat:Int))) (qaJ qlH t)) (ac (gw B) az)))))
 refine ihB h (fun a0 h=>?_) (fun a0 h=>?_)
 ·refine sh fol [(2,.i 1)] ?_
  refine Goes.ret ?_
  obtain rfl:=si h
  exact(gw2 [.i 1] (Ua tI))
 refine Goes.skip ?_
 refine sq ?_
 refine sq ?_
 obtain⟨a1,b,h⟩:=bnd h
 refine Goes.cut (s':=(ofG 96 (kAl e d [(62,.bool a1)]),[])) ?_ ?_
 ·rcases wyD b with⟨u,b⟩|⟨u,b⟩
  ·obtain⟨s,p,b⟩:=bnd b
   obtain⟨r21,q,b⟩:=bnd b
   rcases wyB b with⟨A,b⟩|⟨A,b⟩
   ·obtain rfl:=si b
    exact tr fol [4,8,9,11] (kAl e d [(62,.bool true)]) (ac (gw u) (ac (hs (.done (.opt (qY ZT 9 (.str e) (some (.i (w64 (d+1)))) none none)) (.str s)) (zX st9 (some (w64 (d+1))) none p)) (ac (cv (jl N s q)) (ac (gw A) az))))
   obtain⟨P,v,b⟩:=bnd b
   rcases wyB b with⟨D,b⟩|⟨D,b⟩
   ·obtain rfl:=si b
    exact tr fol [4,8,9,11,15,18] (kAl e d [(62,.bool true)]) (ac (gw u) (ac (hs (.done (.opt (qY ZT 9 (.str e) (some (.i (w64 (d+1)))) none none)) (.str s)) (zX st9 (some (w64 (d+1))) none p)) (ac (cv (jl N s q)) (ac (gw A) (ac (hs (.done (.opt (qY ZT 9 (.str e) (some (.i (w64 (d+1)))) none none)) (.str P)) (zX st9 (some (w64 (d+1))) none v)) (ac (gw D) az))))))
   obtain⟨U,E,b⟩:=bnd b
   obtain rfl:=si b
   exact tr fol [4,8,9,11,15,18,22] (kAl e d [(62,.bool (U==[49]))]) (ac (gw u) (ac (hs (.done (.opt (qY ZT 9 (.str e) (some (.i (w64 (d+1)))) none none)) (.str s)) (zX st9 (some (w64 (d+1))) none p)) (ac (cv (jl N s q)) (ac (gw A) (ac (hs (.done (.opt (qY ZT 9 (.str e) (some (.i (w64 (d+1)))) none none)) (.str P)) (zX st9 (some (w64 (d+1))) none v)) (ac (gw D) (ac (hs (.done (.opt (qY ZT 9 (.str e) (some (.i (w64 (d+1)))) none none)) (.str U)) (zX st9 (some (w64 (d+1))) none E)) az)))))))
  obtain rfl:=si b
  exact tr fol [4] (kAl e d [(62,.bool false)]) (ac (gw u) az)
 refine ihB h (fun a2 h=>?_) (fun a2 h=>?_)
 ·refine sh fol [(2,.i 1)] ?_
  refine Goes.ret ?_
  obtain rfl:=si h
  exact(gw2 [.i 1] (Ua tI))
 refine Goes.skip ?_
 refine sq ?_
 refine sq ?_
 obtain⟨a3,j,h⟩:=bnd h
 refine Goes.cut (s':=(ofG 96 (kAl e d [(72,.bool a3)]),[])) ?_ ?_
 ·rcases wyD j with⟨F,j⟩|⟨F,j⟩
  ·obtain rfl:=si j
   exact tr fol [2] (kAl e d [(72,.bool true)]) (ac (gw F) az)
  obtain rfl:=si j
  exact tr fol [2] (kAl e d [(72,.bool (decide ((w64 ((w64 ((e.length:Int)-d))-1))>600)))]) (ac (gw F) az)
 refine ihB h (fun a4 h=>?_) (fun a4 h=>?_)
 ·refine sh fol [(2,.i 4)] ?_
  refine Goes.ret ?_
  obtain rfl:=si h
  exact(gw2 [.i 4] (Ua tI))
 refine Goes.skip ?_
 refine sq ?_
 refine sh fol [(3,.str e),(76,.bool (decide (d<(e.length:Int))))] ?_
 obtain⟨V,g33,h⟩:=bnd h
 refine Goes.imp (Q:=fun x s'=>(x= .normal/\(.inl ())=V/\Sub s' (ofG 96 [],[]))\/(x= .ret/\ ∃X,(.inr X)=V/\yB ZT [.tmp 2] (.i X) .ret s')) ?_ ?_
 ·refine ihD g33 (fun a5 g33=>?_) (fun a5 g33=>?_)
  ·obtain⟨k,G,g33⟩:=bnd g33
   refine sq (gq fol [1] [(5,.ptr 0 0),(6,.ptr 1 0)] (kM k.1.neg k.1.w k.2.neg k.2.w []) (ac (cv (yV N e G)) az) ?_)
   obtain⟨a6,H,g33⟩:=bnd g33
   refine sq (gr fol [4] [(7,vl encI a6)] (ac (cv (qd6 N k.1.w k.2.w H)) az) ?_)
   refine sq ?_
   obtain⟨a7,f,g33⟩:=bnd g33
   refine Goes.cut (s':=(ofG 96 [(95,.bool a7)],(kM k.1.neg k.1.w k.2.neg k.2.w []))) ?_ ?_
   ·rcases wyB f with⟨I,f⟩|⟨I,f⟩
    ·obtain rfl:=si f
     exact tr fol [3] [(95,.bool true)] (ac (gw I) az)
    obtain⟨a8,y,f⟩:=bnd f
    obtain rfl:=si f
    exact tr fol [3,5,6] [(95,.bool (!decide (a8=1)))] (ac (gw I) (ac (iv vE encI y) (ac (lv 0 ce3 encI y rfl) az)))
   refine ihB g33 (fun a9 g33=>?_) (fun a9 g33=>?_)
   ·refine sh fol [(2,.i 1)] ?_
    refine Goes.ret ?_
    obtain rfl:=si g33
    exact Or.inr (⟨rfl,_,rfl,(gw2 [.i 1] (Ua tI))⟩)
   refine Goes.skip ?_
   obtain rfl:=si g33
   exact Or.inl (⟨rfl,rfl,(Sub.norm [] [] rfl rfl .nil .nil)⟩)
  refine Goes.skip ?_
  obtain rfl:=si g33
  exact Or.inl (⟨rfl,rfl,(Sub.keep [] rfl rfl)⟩)
 rintro x s' (⟨rfl,rfl,hsub⟩|⟨rfl,q43,rfl,hret⟩)
 ·try dsimp only at h
  refine Goes.sub hsub ?_
  refine sh fol [(2,.i 0)] ?_
  refine Goes.ret ?_
  obtain rfl:=si h
  exact(gw2 [.i 0] (Ua tI))
 try dsimp only at h
 obtain rfl:=si h
 exact hret
def ko (N:Nat) (v:List Str):Nat->Int->Option (Unit⊕Int)
 |0,_=>none
 |K+1,a=>
  if a<(v.length:Int)then
  (idx v a).bind fun c=>
  (qaZ N c).bind fun b=>
  if(!decide (b=0))=true then
  some (.inr b)
  else
  ko N v K (w64 (a+1))
  else
  some (.inl ())
def qas (N:Nat) (v:List Str):Option Int:=
 (ko N v N 0).bind (fun
 |(.inl ())=>
 some 0
 |(.inr a)=>
 some a)
theorem qfM (N:Nat) (v:List Str) {res:Int} (h:qas N v=some res):qb ZT (.fn 67) [vl encS v] [] (.i res) []:=by
 unfold qas at h
 refine Ub Tryz.func67 rfl rfl (m:=19) rfl (rs:=[.tmp 2]) rfl (l:=(kBA v [])) rfl ?_
 refine sh fol (kBA v []) ?_
 refine sq ?_
 refine sh fol (kBA v [(3,.i 0)]) ?_
 refine Goes.block ?_
 obtain⟨e,g2,h⟩:=bnd h
 refine Goes.imp (Q:=fun x s'=>(x= .exit 0/\(.inl ())=e/\Sub s' (ofG 19 [],[]))\/(x= .ret/\ ∃f,(.inr f)=e/\yB ZT [.tmp 2] (.i f) .ret s')) ?_ ?_
 ·refine Uc (fun M s=> ∃(a:Int),s=(ofG 19 (kBA v [(3,.i a)]),[])/\ko N v M a=some e) ?_ (m:=N) ⟨_,rfl,g2⟩
  rintro M s ⟨a,rfl,g2⟩
  cases M with
  |zero=>simp only[ko]at g2;cases g2
  |succ M=>
   rw[ko]at g2
   refine sq ?_
   refine sh fol (kBA v ((3,.i a)::(kBI (decide (a<(v.length:Int)))))) ?_
   refine ihD g2 (fun g g2=>?_) (fun g g2=>?_)
   ·refine Goes.skip ?_
    refine sq (Goes.block ?_)
    obtain⟨j,b,g2⟩:=bnd g2
    obtain⟨c,d,g2⟩:=bnd g2
    refine sq (gr fol [2,3,4] (kBA v [(3,.i a),(4,.i c)]) (ac (iv qlj encS b) (ac (lv 0 qlT encS b rfl) (ac (cv (qbo N j d)) az))) ?_)
    refine sh fol (kBA v [(3,.i a),(4,.i c),(17,.bool (!decide (c=0)))]) ?_
    refine ihB g2 (fun k g2=>?_) (fun k g2=>?_)
    ·refine sh fol [(2,.i c)] ?_
     refine Goes.ret ?_
     obtain rfl:=si g2
     exact Or.inr (⟨rfl,_,rfl,(gw2 [.i c] (Ua tI))⟩)
    refine Goes.skip ?_
    refine gh fol (kBA v [(3,.i (w64 (a+1)))]) ?_
    exact⟨M,(ofG 19 (kBA v [(3,.i (w64 (a+1)))]),[]),Nat.lt_succ_self _,(Sub.refl _),_,rfl,g2⟩
   refine Goes.exit ?_
   obtain rfl:=si g2
   exact Or.inl (⟨rfl,rfl,(Sub.keep [] rfl rfl)⟩)
 rintro x s' (⟨rfl,rfl,hsub⟩|⟨rfl,n,rfl,hret⟩)
 ·try dsimp only at h
  refine Goes.sub hsub ?_
  refine sh fol [(2,.i 0)] ?_
  refine Goes.ret ?_
  obtain rfl:=si h
  exact(gw2 [.i 0] (Ua tI))
 try dsimp only at h
 obtain rfl:=si h
 exact hret
def ky (N:Nat) (a:qC):Option Int:=
 (qas N ([a.Low,a.High]:List Str)).bind fun b=>
 (if b=0 then
 (ym N a.Low a.High).bind fun c=>
 some (decide (c>0))
 else
 some false:Option Bool).bind fun d=>
 ((if d=true then
 some 11
 else
 some b:Option Int)).bind fun e=>
 some e
theorem ql (N:Nat) (a:qC) {res:Int} (h:ky N a=some res):qb ZT (.fn 9) [.agg (kAi a.Low a.High)] [] (.i res) []:=by
 unfold ky at h
 refine Ub Tryz.func9 rfl rfl (m:=21) rfl (rs:=[.tmp 2]) rfl (l:=[(0,.agg [.str a.Low,.str a.High])]) rfl ?_
 refine sg fol (kAe []) (kV a.Low a.High []) ?_
 obtain⟨c,d,h⟩:=bnd h
 refine sq (gq fol [5] (kAe [(3,.i c)]) (kV a.Low a.High (kV a.Low a.High [])) (ac (hs (.call 67 [.slice 1 0 2 2 1] (kV a.Low a.High (kV a.Low a.High [])) [1] [vl encS ([a.Low,a.High]:List Str)] (.i c)) (qey (FzL.cons (Fz.lit rfl rfl (Ue (AllST.cons tS (AllST.cons tS AllST.nil)))) FzL.nil) (qfM N ([a.Low,a.High]:List Str) d) tI rfl)) az) ?_)
 refine sq ?_
 refine sq ?_
 obtain⟨j,b,h⟩:=bnd h
 refine Goes.cut (s':=(ofG 21 [(3,.i c),(19,.bool j)],(kV a.Low a.High (kV a.Low a.High [])))) ?_ ?_
 ·rcases wyD b with⟨g,b⟩|⟨g,b⟩
  ·obtain⟨k,e,b⟩:=bnd b
   obtain rfl:=si b
   exact tr fol [2,7] [(3,.i c),(19,.bool (decide (k>0)))] (ac (gw g) (ac (cv (jd N a.Low a.High e)) az))
  obtain rfl:=si b
  exact tr fol [2] [(3,.i c),(19,.bool false)] (ac (gw g) az)
 obtain⟨n,g7,h⟩:=bnd h
 refine Goes.imp (Q:=fun x s'=>(x= .normal/\ ∃f,f=n/\Sub s' (ofG 21 [(3,.i f)],[]))) ?_ ?_
 ·refine ihB g7 (fun o g7=>?_) (fun o g7=>?_)
  ·refine gh fol [(3,.i 11)] ?_
   obtain rfl:=si g7
   exact⟨rfl,_,rfl,(Sub.norm [] [] rfl rfl (.keep (.same nI) .nil) .nil)⟩
  refine Goes.skip ?_
  obtain rfl:=si g7
  exact⟨rfl,_,rfl,(Sub.norm [] [] rfl rfl (.keep (.same nI) .nil) .nil)⟩
 rintro x s' ⟨rfl,f,rfl,hsub⟩
 refine Goes.sub hsub ?_
 refine sh fol [(2,.i f)] ?_
 refine Goes.ret ?_
 obtain rfl:=si h
 exact(gw2 [.i f] (Ua tI))
def qdq (a:Str):Option Str:=
 (xG a).bind fun b=>
 if b<0 then
 (cut a 1 (a.length:Int)).bind fun c=>
 some c
 else
 some a
theorem qfH (a:Str) {res:Str} (h:qdq a=some res):qb ZT (.fn 28) [.str a] [] (.str res) []:=by
 unfold qdq at h
 refine Ub Tryz.func28 rfl rfl (m:=9) rfl (rs:=[.tmp 2]) rfl (l:=(kAS a [])) rfl ?_
 refine sh fol (kAS a []) ?_
 refine sq ?_
 obtain⟨e,b,h⟩:=bnd h
 refine sq (gr fol [1] (kAS a [(5,.bool (decide (e<0)))]) (ac (cv (qbF a b)) az) ?_)
 refine ihD h (fun f h=>?_) (fun f h=>?_)
 ·obtain⟨d,c,h⟩:=bnd h
  refine sq (gr fol [1] (kBP d) (ac (hs (.done (.opt (qY ZT 22 (.str a) (some (.i 1)) none none)) (.str d)) (zX qlH (some 1) none c)) az) ?_)
  refine Goes.ret ?_
  obtain rfl:=si h
  exact(gw2 [.str d] (Ua tS))
 refine Goes.skip ?_
 refine sh fol (kBP a) ?_
 refine Goes.ret ?_
 obtain rfl:=si h
 exact(gw2 [.str a] (Ua tS))
def qdw (N:Nat) (a:Str):Option Str:=
 (yw N a).bind fun b=>
 (cut a 0 b).bind fun c=>
 some c
theorem qf8 (N:Nat) (a:Str) {res:Str} (h:qdw N a=some res):qb ZT (.fn 77) [.str a] [] (.str res) []:=by
 unfold qdw at h
 refine Ub Tryz.func77 rfl rfl (m:=7) rfl (rs:=[.tmp 2]) rfl (l:=(kAS a [])) rfl ?_
 refine sh fol (kAS a []) ?_
 obtain⟨e,b,h⟩:=bnd h
 obtain⟨d,c,h⟩:=bnd h
 refine sq (gr fol [2,3] (kBP d) (ac (cv (qag N a b)) (ac (hs (.done (.opt (qY ZT 22 (.str a) none (some (.i e)) none)) (.str d)) (zX qlH none (some e) c)) az)) ?_)
 refine Goes.ret ?_
 obtain rfl:=si h
 exact(gw2 [.str d] (Ua tS))
def qdl (N:Nat) (a:Str):Option Str:=
 (yw N a).bind fun b=>
 if b=(a.length:Int)then
 some [49]
 else
 (cut a (w64 (b+1)) (a.length:Int)).bind fun c=>
 some c
theorem qjB (N:Nat) (a:Str) {res:Str} (h:qdl N a=some res):qb ZT (.fn 78) [.str a] [] (.str res) []:=by
 unfold qdl at h
 refine Ub Tryz.func78 rfl rfl (m:=14) rfl (rs:=[.tmp 2]) rfl (l:=(kAS a [])) rfl ?_
 refine sh fol (kAS a []) ?_
 obtain⟨b,c,h⟩:=bnd h
 refine sq (gr fol [1] (kAS a [(3,.i b)]) (ac (cv (qag N a c)) az) ?_)
 refine sq ?_
 refine sh fol (kAS a [(3,.i b),(9,.bool (decide (b=(a.length:Int))))]) ?_
 refine ihD h (fun f h=>?_) (fun f h=>?_)
 ·refine sh fol [(2,.str [49])] ?_
  refine Goes.ret ?_
  obtain rfl:=si h
  exact(gw2 [.str [49]] (Ua tS))
 refine Goes.skip ?_
 obtain⟨e,d,h⟩:=bnd h
 refine sq (gr fol [3] (kBP e) (ac (hs (.done (.opt (qY ZT 22 (.str a) (some (.i (w64 (b+1)))) none none)) (.str e)) (zX qlH (some (w64 (b+1))) none d)) az) ?_)
 refine Goes.ret ?_
 obtain rfl:=si h
 exact(gw2 [.str e] (Ua tS))
def qb5 (N:Nat) (a:Str) (digits:Int):Option Bool:=
 (if(a.length:Int)<=(w64 ((w64 (2*digits))+2))then
 (qaZ N a).bind fun b=>
 if b=0 then
 (qdw N a).bind fun c=>
 (qdq c).bind fun d=>
 if(d.length:Int)<=digits then
 (qdl N a).bind fun e=>
 some (decide ((e.length:Int)<=digits))
 else
 some false
 else
 some false
 else
 some false:Option Bool).bind fun f=>
 some f
theorem qa5 (N:Nat) (a:Str) (digits:Int) {res:Bool} (h:qb5 N a digits=some res):qb ZT (.fn 21) [.str a,.i digits] [] (.bool res) []:=by
 unfold qb5 at h
 refine Ub Tryz.func21 rfl rfl (m:=31) rfl (rs:=[.tmp 4]) rfl (l:=(kAS a [(1,.i digits)])) rfl ?_
 refine sh fol (kAS a [(1,.i digits)]) ?_
 refine sq ?_
 obtain⟨n,b,h⟩:=bnd h
 refine Goes.cut (s':=(ofG 31 (kAs n),[])) ?_ ?_
 ·rcases wyD b with⟨f,b⟩|⟨f,b⟩
  ·obtain⟨q,c,b⟩:=bnd b
   rcases wyD b with⟨j,b⟩|⟨j,b⟩
   ·obtain⟨o,d,b⟩:=bnd b
    obtain⟨r,e,b⟩:=bnd b
    rcases wyD b with⟨k,b⟩|⟨k,b⟩
    ·obtain⟨p,g,b⟩:=bnd b
     obtain rfl:=si b
     exact tr fol [6,8,11,13,14,19,21] (kAs (decide ((p.length:Int)<=digits))) (ac (gw f) (ac (cv (qbo N a c)) (ac (gw j) (ac (cv (qf8 N a d)) (ac (cv (qfH o e)) (ac (gw k) (ac (cv (qjB N a g)) az)))))))
    obtain rfl:=si b
    exact tr fol [6,8,11,13,14,19] kAa (ac (gw f) (ac (cv (qbo N a c)) (ac (gw j) (ac (cv (qf8 N a d)) (ac (cv (qfH o e)) (ac (gw k) az))))))
   obtain rfl:=si b
   exact tr fol [6,8,11] kAa (ac (gw f) (ac (cv (qbo N a c)) (ac (gw j) az)))
  obtain rfl:=si b
  exact tr fol [6] kAa (ac (gw f) az)
 refine Goes.ret ?_
 obtain rfl:=si h
 exact(gw2 [.bool n] (Ua tB))
def qaM (N:Nat) (a:qC) (digits:Int):Option Bool:=
 ((qb5 N a.Low digits).bind fun b=>
 if b=true then
 (qb5 N a.High digits).bind fun c=>
 if c=true then
 (ky N a).bind fun d=>
 some (decide (d=0))
 else
 some false
 else
 some false:Option Bool).bind fun e=>
 some e
theorem qgi (N:Nat) (b:qC) (digits:Int) {res:Bool} (h:qaM N b digits=some res):qb ZT (.fn 7) (kW b.Low b.High [.i digits]) [] (.bool res) []:=by
 unfold qaM at h
 refine Ub Tryz.func7 rfl rfl (m:=20) rfl (rs:=[.tmp 4]) rfl (l:=[(0,.agg [.str b.Low,.str b.High]),(1,.i digits)]) rfl ?_
 refine sg fol ((1,.i digits)::(kS [])) (kV b.Low b.High []) ?_
 refine sq ?_
 obtain⟨j,a,h⟩:=bnd h
 refine Goes.cut (s':=(ofG 20 (kAs j),(kV b.Low b.High []))) ?_ ?_
 ·obtain⟨n,c,a⟩:=bnd a
  rcases wyB a with⟨f,a⟩|⟨f,a⟩
  ·obtain⟨o,d,a⟩:=bnd a
   rcases wyB a with⟨g,a⟩|⟨g,a⟩
   ·obtain⟨k,e,a⟩:=bnd a
    obtain rfl:=si a
    exact tr fol [3,4,8,10,12] (kAs (decide (k=0))) (ac (cv (qa5 N b.Low digits c)) (ac (gw f) (ac (cv (qa5 N b.High digits d)) (ac (gw g) (ac (cv (ql N b e)) az)))))
   obtain rfl:=si a
   exact tr fol [3,4,8,10] kAa (ac (cv (qa5 N b.Low digits c)) (ac (gw f) (ac (cv (qa5 N b.High digits d)) (ac (gw g) az))))
  obtain rfl:=si a
  exact tr fol [3,4] kAa (ac (cv (qa5 N b.Low digits c)) (ac (gw f) az))
 refine Goes.ret ?_
 obtain rfl:=si h
 exact(gw2 [.bool j] (Ua tB))
def qce (n:Int):Option Int:=
 if n<0 then
 some (IntKind.wrap .u64 (w64 (0-n)))
 else
 some (IntKind.wrap .u64 n)
theorem qel (n:Int) {res:Int} (h:qce n=some res):qb ZT (.fn 216) [.i n] [] (.int .u64 res) []:=by
 unfold qce at h
 refine Ub Tryz.func216 rfl rfl (m:=10) rfl (rs:=[.tmp 2]) rfl (l:=[(0,.i n)]) rfl ?_
 refine sh fol [(0,.i n)] ?_
 refine sq ?_
 refine sh fol ((0,.i n)::(kAs (decide (n<0)))) ?_
 refine ihD h (fun a h=>?_) (fun a h=>?_)
 ·refine sh fol [(2,.int .u64 (IntKind.wrap .u64 (w64 (0-n))))] ?_
  refine Goes.ret ?_
  obtain rfl:=si h
  exact(gw2 [.int .u64 (IntKind.wrap .u64 (w64 (0-n)))] (Ua tI))
 refine Goes.skip ?_
 refine sh fol [(2,.int .u64 (IntKind.wrap .u64 n))] ?_
 refine Goes.ret ?_
 obtain rfl:=si h
 exact(gw2 [.int .u64 (IntKind.wrap .u64 n)] (Ua tI))
def qL (a:qm):Option (Bool×(List Int)):=
 if(!a.w.isEmpty)=true then
 some (decide (a.s<0),a.w)
 else
 if a.s=0 then
 some (false,[])
 else
 (qce a.s).bind fun b=>
 some (decide (a.s<0),[b])
theorem zP (a:qm) {res:Bool×(List Int)} (h:qL a=some res):qb ZT (.fn 158) [.agg (nz1 a)] [] (.tuple [.bool res.1,vl (qa .u64) res.2]) []:=by
 unfold qL at h
 refine Ub Tryz.func158 rfl rfl (m:=24) rfl (rs:=[.tmp 2,.tmp 3]) rfl (l:=[(0,.agg (nz1 a))]) rfl ?_
 refine sg fol (kAe []) [.cells (nz1 a)] ?_
 refine sq (Goes.block ?_)
 refine sq (gr fol [2] (kAe (kAs (!a.w.isEmpty))) (ac (hs (.done (.opt (kL ZT .neq 93 (.tmp 6) (.const (.slice none 0 0)) (nvl (qa .u64) a.w) .nilslice)) (.bool (!a.w.isEmpty))) (ne_nv qaI)) az) ?_)
 refine ihB h (fun c h=>?_) (fun c h=>?_)
 ·refine sh fol [(2,.bool (decide (a.s<0))),(3,nvl (qa .u64) a.w)] ?_
  refine Goes.ret ?_
  obtain rfl:=si h
  exact(gw2 [.bool (decide (a.s<0)),nvl (qa .u64) a.w] (FzW.tuple (qc.cons (Ua tB) (qc.cons (FzW.nvL (E:=(qa .u64)) (nl rfl)) qc.nil))))
 refine sh fol (kAe (kBM (decide (a.s=0)))) ?_
 refine ihD h (fun d h=>?_) (fun d h=>?_)
 ·refine sh fol [(2,.bool false),(3,.nilslice)] ?_
  refine Goes.ret ?_
  obtain rfl:=si h
  exact(gw2 [.bool false,.nilslice] (FzW.tuple (qc.cons (Ua tB) (qc.cons (FzW.nilv (E:=(qa .u64))) qc.nil))))
 refine Goes.skip ?_
 obtain⟨e,b,h⟩:=bnd h
 refine sq (gq fol [5] [(2,.bool (decide (a.s<0))),(3,.slice 1 0 1 1 1)] [.cells (nz1 a),.cells [.int .u64 e]] (ac (cv (qel a.s b)) az) ?_)
 refine Goes.ret ?_
 obtain rfl:=si h
 exact(gw2 [.bool (decide (a.s<0)),.slice 1 0 1 1 1] (FzW.tuple (qc.cons (Ua tB) (qc.cons (FzW.fz (Fz.lit rfl rfl (Ue (AllST.cons tI AllST.nil)))) qc.nil))))
end Go.Av
