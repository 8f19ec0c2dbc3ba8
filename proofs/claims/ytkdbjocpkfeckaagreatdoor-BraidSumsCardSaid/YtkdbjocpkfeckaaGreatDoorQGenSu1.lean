/-
  Walks of functions: what each computes, as a plain function.
-/
import Derived.Test.YtkdbjocpkfeckaaGreatDoorAvJnB9
open Go.IntKind(wrap)
noncomputable section
namespace Go.Av
open Go.Proofs Go.RowKit
abbrev ZU:=qH .u64
abbrev ZT:=Tryz.prog
set_option linter.unusedSectionVars false
set_option linter.unusedVariables false
set_option linter.unusedSimpArgs false
set_option maxRecDepth 100000
theorem fol:Tryz.prog.follows .mixedOrders=true:=by kernel_rfl
structure qC where
 s:Int
 w:List Int
def qi5:Enc qC:=(encI.prod (qhN ZU)).comap fun x=>(x.s,x.w)
instance:SE qi5:=⟨nl rfl⟩
structure qm where
 Num:qC
 Den:qC
def qd:Enc qm:=(qi5.prod qi5).comap fun x=>(x.Num,x.Den)
instance:SE qd:=⟨nl rfl⟩
instance:SE (qc qd):=⟨nl rfl⟩
structure yH where
 neg:Bool
 w:List Int
def qjk:Enc yH:=(encB.prod (qc encI)).comap fun x=>(x.neg,x.w)
instance:SE qjk:=⟨nl rfl⟩
structure qj4 where
 A:List Int
 B:List Int
 K:Int
def qjX:Enc qj4:=((qc encI).prod ((qc encI).prod encI)).comap fun x=>(x.A,x.B,x.K)
instance:SE qjX:=⟨nl rfl⟩
abbrev kA (a:List Int) (x:List Blk):List Blk:= .cells (a.flatMap encI.c)::x
abbrev kB {α0:Type} (a:List α0) (x:List Blk):List Blk:= .cells [.slice 2 0 a.length a.length 1]::x
abbrev kC {α0:Type} (a:List α0) (x:List (Nat×AV)):List (Nat×AV):=(5,.ptr 0 0)::(7,.slice 1 0 a.length a.length 1)::x
abbrev kD (x:List (Nat×AV)):List (Nat×AV):=(2,.ptr 0 0)::(3,.ptr 1 0)::(4,.ptr 2 0)::x
abbrev kE (a:Int) (b:List Int) (x:List Blk):List Blk:= .cells [.i a]:: .cells [vl encI b]::x
abbrev kF (x:List Blk):List Blk:= .cells [.i 0,.nilslice,.i 0,.nilslice]::x
abbrev kG (a:Int) (b:List Int) (c:List Int) (x:List (Nat×AV)):List (Nat×AV):=(0,.i a)::(3,.ptr 0 0)::(5,vl encI b)::(7,vl encI c)::x
abbrev kH {α3:Type} (a:List Int) (b:Int) (c:Int) (d:List α3) (e:Int) (f:Int) (x:List (Nat×AV)):List (Nat×AV):=(39,vl encI a)::(40,.i b)::(41,.i c)::(51,.slice 1 0 d.length d.length 1)::(52,.i e)::(53,.i f)::x
abbrev kI (a:Int) (b:List Int) (x:List (Nat×AV)):List (Nat×AV):=(0,.i a)::(1,vl encI b)::x
abbrev kJ (x:List Blk):List Blk:= .cells [.i 0,.nilslice,.i 0,.nilslice,.i 0,.nilslice,.i 0,.nilslice,.i 0,.nilslice,.i 0,.nilslice,.i 0,.nilslice,.i 0,.nilslice]::x
abbrev kK (a:List qm) (x:List Blk):List Blk:= .cells (a.flatMap qd.c)::x
abbrev kL {α0:Type} {α2:Type} (a:List α0) (b:Int) (c:List α2) (x:List (Nat×AV)):List (Nat×AV):=(5,.gslice 0 a.length 1)::(6,.i b)::(7,.gslice 1 c.length 1)::x
abbrev kM {α0:Type} (a:List α0) (b:List Int) (c:Int) (d:Int) (x:List (Nat×AV)):List (Nat×AV):=(4,.slice 5 0 a.length a.length 1)::(10,vl encI b)::(11,.i c)::(12,.i d)::x
abbrev kN {α0:Type} (a:List α0) (x:List Blk):List Blk:= .cells [.slice 1 0 a.length a.length 1]::x
abbrev kO (a:List Int) (b:List Int) (x:List (Nat×AV)):List (Nat×AV):=(0,vl encI a)::(1,vl encI b)::x
abbrev kP (x:List Blk):List Blk:= .cells [.bool false,.nilslice]::x
abbrev kQ (a:Str) (b:Bool) (x:List (Nat×AV)):List (Nat×AV):=(0,.str a)::(2,.ptr 0 0)::(3,.bool b)::x
abbrev kR (a:List Str) (x:List Blk):List Blk:= .cells (a.flatMap encS.c)::x
abbrev kS {α0:Type} (a:List α0) (x:List (Nat×AV)):List (Nat×AV):=(3,.slice 0 0 a.length a.length 1)::x
abbrev kT {α2:Type} (a:List Int) (b:Int) (c:List α2) (x:List (Nat×AV)):List (Nat×AV):=(0,vl encI a)::(1,.i b)::(6,.slice 0 0 c.length c.length 1)::x
abbrev kU (a:Str) (b:Str) (x:List (Nat×AV)):List (Nat×AV):=(0,.str a)::(1,.str b)::x
abbrev kV (a:Bool) (b:List Int) (x:List Blk):List Blk:= .cells [.bool a,vl encI b]::x
abbrev kW (x:List (Nat×AV)):List (Nat×AV):=(2,.ptr 0 0)::x
abbrev kX (a:Int) (x:List (Nat×AV)):List (Nat×AV):=(0,.i a)::(3,.ptr 0 0)::x
abbrev kY (a:Int) (b:Int) (c:Int) (d:Int) (x:List (Nat×AV)):List (Nat×AV):=(11,.i a)::(12,.i b)::(19,.i c)::(20,.i d)::x
abbrev kZ (a:Int) (b:Int) (x:List (Nat×AV)):List (Nat×AV):=(7,.i a)::(8,.i b)::x
abbrev kAA (a:Int) (b:Int) (x:List Blk):List Blk:= .cells [.i a,.i b]::x
abbrev kAB (a:Str) (b:Str) (c:Bool) (x:List (Nat×AV)):List (Nat×AV):=(5,.str a)::(6,.str b)::(7,.bool c)::x
abbrev kAC (a:List Int) (x:List (Nat×AV)):List (Nat×AV):=(0,vl encI a)::x
abbrev kAD {α0:Type} (a:List α0) (x:List Blk):List Blk:= .cells [.slice 0 0 a.length a.length 1]::x
abbrev kAE {α0:Type} (a:List α0) (x:List (Nat×AV)):List (Nat×AV):=(5,.gslice 0 a.length 1)::x
abbrev kAF {α0:Type} (a:List α0) (x:List (Nat×AV)):List (Nat×AV):=(7,.slice 0 0 a.length a.length 1)::x
abbrev kAG (a:Int) (b:Int) (c:Int) (x:List (Nat×AV)):List (Nat×AV):=(19,.i a)::(21,.i b)::(22,.i c)::x
abbrev kAH (a:Int) (b:Int) (x:List (Nat×AV)):List (Nat×AV):=(0,.i a)::(1,.i b)::x
abbrev kAI (a:List Int) (b:List Int) (c:Int):List Blk:=[.cells [vl encI a,vl encI b,.i c]]
abbrev kAJ (a:Int) (b:Int) (x:List (Nat×AV)):List (Nat×AV):=(0,.int .u64 a)::(1,.int .u64 b)::x
abbrev kAK {α0:Type} (a:List α0) (x:List (Nat×AV)):List (Nat×AV):=(7,.slice 1 0 a.length a.length 4)::x
abbrev kAL (a:List Int) (b:Int) (x:List (Nat×AV)):List (Nat×AV):=(5,vl encI a)::(6,.i b)::x
abbrev kAM (x:List (Nat×AV)):List (Nat×AV):=(4,.ptr 1 0)::(5,.ptr 2 0)::x
abbrev kAN:List (Nat×AV):=[(4,.bool false)]
abbrev kAO {α0:Type} (a:List α0) (x:List (Nat×AV)):List (Nat×AV):=(4,.slice 5 0 a.length a.length 1)::x
abbrev kAP (a:Int):List (Nat×AV):=[(5,.ptr 1 0),(7,.i a),(8,.ptr 3 0)]
abbrev kAQ (a:Int) (b:List Int) (x:List (Nat×AV)):List (Nat×AV):=(0,.i a)::(7,vl encI b)::x
abbrev kAR (a:List Int) (b:Int) (c:Int) (x:List (Nat×AV)):List (Nat×AV):=(8,vl encI a)::(9,.i b)::(10,.i c)::x
abbrev kAS (a:Int) (b:Int) (x:List (Nat×AV)):List (Nat×AV):=(8,.i a)::(9,.i b)::x
abbrev kAT (x:List (Nat×AV)):List (Nat×AV):=(1,.ptr 0 0)::(2,.ptr 1 0)::x
abbrev kAU (a:Int) (b:Int):List (Nat×AV):=[(5,.ptr 0 0),(12,.i a),(13,.i b)]
abbrev kAV (a:Int) (b:Int):List (Nat×AV):=[(20,.i a),(21,.i b)]
abbrev kAW (a:Int) (x:List (Nat×AV)):List (Nat×AV):=(11,.i a)::(12,.ptr 2 0)::x
abbrev kAX (a:Option (List Int)):List Blk:=[.cells ((hof a).flatMap encI.c)]
abbrev kAY (a:Str) (b:Int) (x:List (Nat×AV)):List (Nat×AV):=(3,.str a)::(4,.i b)::x
abbrev kAZ {α0:Type} (a:List α0) (b:Bool) (x:List (Nat×AV)):List (Nat×AV):=(3,.gslice 1 a.length 1)::(4,.bool b)::x
abbrev kAa {α0:Type} (a:List α0) (b:Int) (c:Int) (x:List (Nat×AV)):List (Nat×AV):=(0,.gslice 0 a.length 1)::(2,.i b)::(3,.i c)::x
abbrev kAb (a:List Int) (b:Int) (c:List Int) (d:Int) (e:List Int) (f:Int) (x:List (Nat×AV)):List (Nat×AV):=(7,vl encI a)::(8,.i b)::(9,vl encI c)::(10,.i d)::(11,vl encI e)::(12,.i f)::x
abbrev kAc (a:Int):List (Nat×AV):=[(19,.i a),(190,.bool true)]
abbrev kAd (a:List qm) (b:Int) (c:Int) (x:List (Nat×AV)):List (Nat×AV):=(9,vl qd a)::(10,.i b)::(11,.i c)::x
abbrev kAe (a:Int) (b:Int):List (Nat×AV):=[(11,.i a),(12,.i b)]
abbrev kAf:List Blk:=[.cells (([]:List Int).flatMap encI.c)]
abbrev kAg (a:Int) (x:List (Nat×AV)):List (Nat×AV):=(6,.int .u64 a)::x
abbrev kAh (a:Str) (b:Int) (x:List (Nat×AV)):List (Nat×AV):=(0,.str a)::(3,.i b)::x
abbrev kAi (a:List Int) (b:Int) (x:List (Nat×AV)):List (Nat×AV):=(36,vl encI a)::(42,.i b)::x
abbrev kAj (a:Int) (x:List Blk):List Blk:= .cells [.i a]::x
abbrev kAk (a:Bool):List (Nat×AV):=[(4,.bool a)]
abbrev kAl (a:List Int):List Blk:=[.frozen (a.flatMap encI.c)]
abbrev kAm (a:List Int) (b:Int) (c:Int) (x:List (Nat×AV)):List (Nat×AV):=(39,vl encI a)::(40,.i b)::(41,.i c)::x
abbrev kAn (a:List Int):List AV:=[vl encI a]
abbrev kAo (x:List (Nat×AV)):List (Nat×AV):=(1,.ptr 0 0)::x
abbrev kAp (x:List (Nat×AV)):List (Nat×AV):=(0,.slice 0 0 1 1 4)::x
abbrev kAq (a:Str) (b:Bool) (x:List (Nat×AV)):List (Nat×AV):=(5,.str a)::(6,.bool b)::x
abbrev kAr (a:Int):List (Nat×AV):=[(5,.i a)]
abbrev kAs (x:List (Nat×AV)):List (Nat×AV):=(5,.ptr 1 0)::x
abbrev kAt (a:List Str) (b:List Str) (x:List (Nat×AV)):List (Nat×AV):=(0,vl encS a)::(1,vl encS b)::x
abbrev kAu (a:List qm) (x:List (Nat×AV)):List (Nat×AV):=(0,vl qd a)::x
abbrev kAv (x:List (Nat×AV)):List (Nat×AV):=(3,.ptr 1 0)::x
abbrev kAw (a:Str):List (Nat×AV):=[(0,.str a)]
abbrev kAx (a:Int):List (Nat×AV):=[(2,.i a)]
abbrev kAy (a:List Int) (x:List (Nat×AV)):List (Nat×AV):=(1,vl encI a)::x
abbrev kAz:List (Nat×AV):=[(4,.ptr 2 0)]
abbrev kA0:List (Nat×AV):=[(4,.ptr 1 0)]
abbrev kA1 (a:Bool):List (Nat×AV):=[(10,.bool a)]
abbrev kA2 (a:Bool):List (Nat×AV):=[(13,.bool a)]
abbrev kA3 {α0:Type} (a:List α0) (x:List (Nat×AV)):List (Nat×AV):=(3,.gslice 0 a.length 1)::x
abbrev kA4 (a:List Int) (b:Int):List AV:=[vl encI a,.i b]
abbrev kA5 (a:Bool):List (Nat×AV):=[(8,.bool a)]
abbrev kA6 (a:Int):List Blk:=[.cells [.i a,.nilslice]]
abbrev kA7:List (Nat×AV):=[(2,.bool false)]
abbrev kA8 {α0:Type} (a:List α0) (x:List (Nat×AV)):List (Nat×AV):=(14,.gslice 3 a.length 4)::(15,.ptr 4 0)::(16,.ptr 5 0)::x
abbrev kA9 (a:Int):List (Nat×AV):=[(7,.i a)]
abbrev kBA:List AV:=[.ptr 2 0,.ptr 3 0]
abbrev kBB:List (Nat×AV):=[(4,.bool true)]
abbrev kBC (a:Int):List (Nat×AV):=[(1,.i a)]
abbrev kBD (a:Bool):List (Nat×AV):=[(12,.bool a)]
abbrev kBE (a:Int) (x:List (Nat×AV)):List (Nat×AV):=(0,.int .u64 a)::x
abbrev kBF (a:Int):List (Nat×AV):=[(4,.i a)]
abbrev nz1 (x:qC):List AV:=ni1 x.s x.w
abbrev nq1 (x:qm):List AV:=ni2 x.Num.s x.Num.w x.Den.s x.Den.w
abbrev nq4 (x y z w:qm):List AV:=[.i x.Num.s,nvl ZU x.Num.w,.i x.Den.s,nvl ZU x.Den.w,.i y.Num.s,nvl ZU y.Num.w,.i y.Den.s,nvl ZU y.Den.w,.i z.Num.s,nvl ZU z.Num.w,.i z.Den.s,nvl ZU z.Den.w,.i w.Num.s,nvl ZU w.Num.w,.i w.Den.s,nvl ZU w.Den.w]
abbrev nb4 (a:(qm×qm)×(qm×qm)):List AV:=nq4 a.1.1 a.1.2 a.2.1 a.2.2
theorem qP:SlT ZT 22 3 1 8:=⟨by kernel_rfl,by kernel_rfl,by kernel_rfl,by kernel_rfl⟩
theorem ce3:CeT ZT 3:=⟨by kernel_rfl,by kernel_rfl⟩
theorem qqQ:SlT ZT 155 29 1 8:=⟨by kernel_rfl,by kernel_rfl,by kernel_rfl,by kernel_rfl⟩
theorem ce29:CeT ZT 29:=⟨by kernel_rfl,by kernel_rfl⟩
theorem qbO:SlT ZT 33 22 1 24:=⟨by kernel_rfl,by kernel_rfl,by kernel_rfl,by kernel_rfl⟩
theorem qci:CeT ZT 22:=⟨by kernel_rfl,by kernel_rfl⟩
theorem it3:Tryz.prog.underlying 3=some (.int .i64):=by kernel_rfl
noncomputable abbrev ql:Code:=(Tryz.f71.body.getD .skip).x2.x2.x1.x2.x1
noncomputable abbrev qg:Code:=(Tryz.f72.body.getD .skip).x2.x2.x2.x1.x2.x1
theorem st9:Tryz.prog.underlying 9=some .string:=by kernel_rfl
theorem vX:Tryz.prog.underlying 113=some (.slice 241):=by kernel_rfl
theorem qim:SlT ZT 111 120 1 24:=⟨by kernel_rfl,by kernel_rfl,by kernel_rfl,by kernel_rfl⟩
theorem qdz:SlT ZT 120 117 4 64:=⟨by kernel_rfl,by kernel_rfl,by kernel_rfl,by kernel_rfl⟩
theorem qlY:CeT ZT 120:=⟨by kernel_rfl,by kernel_rfl⟩
theorem qlC:AgT ZT 117 4:=⟨by kernel_rfl,by kernel_rfl⟩
theorem sl113:SlT ZT 113 241 1 8:=⟨by kernel_rfl,by kernel_rfl,by kernel_rfl,by kernel_rfl⟩
theorem ce241:CeT ZT 241:=⟨by kernel_rfl,by kernel_rfl⟩
theorem qhW:SlT ZT 80 71 1 16:=⟨by kernel_rfl,by kernel_rfl,by kernel_rfl,by kernel_rfl⟩
theorem qhK:SlT ZT 68 80 1 24:=⟨by kernel_rfl,by kernel_rfl,by kernel_rfl,by kernel_rfl⟩
theorem st71:Tryz.prog.underlying 71=some .string:=by kernel_rfl
theorem qm8:CeT ZT 71:=⟨by kernel_rfl,by kernel_rfl⟩
theorem qjM:CeT ZT 80:=⟨by kernel_rfl,by kernel_rfl⟩
def qaP (n:Int) (c:Int):Option Bool:=
 (if(!decide (c=0))=true then
 if c>(w64 (0-n))then
 some (decide (c<n))
 else
 some false
 else
 some false:Option Bool).bind fun a=>
 some a
theorem qgc (n:Int) (c:Int) {res:Bool} (h:qaP n c=some res):qf ZT (.fn 46) [.i n,.i c] [] (.bool res) []:=by
 unfold qaP at h;refine Ub Tryz.func46 rfl rfl (m:=18) rfl (rs:=[.tmp 4]) rfl (l:=(kAH n c [])) rfl ?_;refine sh fol (kAH n c []) ?_;refine sq ?_;obtain⟨e,a,h⟩:=bnd h;refine Goes.cut (s':=(ofG 18 (kAk e),[])) ?_ ?_
 ·rcases wyB a with⟨b,a⟩|⟨b,a⟩
  ·rcases wyD a with⟨d,a⟩|⟨d,a⟩
   ·obtain rfl:=si a;exact tr fol [2,8] (kAk (decide (c<n))) (ac (gw b) (ac (gw d) az))
   obtain rfl:=si a;exact tr fol [2,8] kAN (ac (gw b) (ac (gw d) az))
  obtain rfl:=si a;exact tr fol [2] kAN (ac (gw b) az)
 refine Goes.ret ?_;obtain rfl:=si h;exact(gw2 [.bool e] (Ua tB))
def zR (n:Int) (w:List Int):Nat->Int->Option (Unit⊕Int)
 |0,_=>none
 |K+1,a=>
  if a<(w.length:Int)then
  (idx w a).bind fun b=>
  (qaP n b).bind fun c=>
  if(!c)=true then
  some (.inr 3)
  else
  zR n w K (w64 (a+1))
  else
  some (.inl ())
def yZ (N:Nat) (n:Int) (w:List Int):Option Int:=
 (if n<1 then
 some true
 else
 some (decide (n>12)):Option Bool).bind fun b=>
 if b=true then
 some 3
 else
 if(w.length:Int)>200 then
 some 5
 else
 (zR n w N 0).bind (fun
 |(.inl ())=>
 some 0
 |(.inr a)=>
 some a)
theorem qeF (N:Nat) (n:Int) (w:List Int) {res:Int} (h:yZ N n w=some res):qf ZT (.fn 11) (.i n::(kAn w)) [] (.i res) []:=by
 unfold yZ at h;refine Ub Tryz.func11 rfl rfl (m:=28) rfl (rs:=[.tmp 4]) rfl (l:=(kI n w [])) rfl ?_;refine sh fol (kI n w []) ?_;refine sq ?_;refine sq ?_;obtain⟨p,a,h⟩:=bnd h;refine Goes.cut (s':=(ofG 28 (kI n w [(11,.bool p)]),[])) ?_ ?_
 ·rcases wyD a with⟨e,a⟩|⟨e,a⟩
  ·obtain rfl:=si a;exact tr fol [2] (kI n w [(11,.bool true)]) (ac (gw e) az)
  obtain rfl:=si a;exact tr fol [2] (kI n w [(11,.bool (decide (n>12)))]) (ac (gw e) az)
 refine ihB h (fun q h=>?_) (fun q h=>?_)
 ·refine sh fol [(4,.i 3)] ?_;refine Goes.ret ?_;obtain rfl:=si h;exact(gw2 [.i 3] (Ua tI))
 refine Goes.skip ?_;refine sq ?_;refine sh fol (kI n w [(14,.bool (decide ((w.length:Int)>200)))]) ?_;refine ihD h (fun r h=>?_) (fun r h=>?_)
 ·refine sh fol [(4,.i 5)] ?_;refine Goes.ret ?_;obtain rfl:=si h;exact(gw2 [.i 5] (Ua tI))
 refine Goes.skip ?_;refine sq ?_;refine sh fol (kI n w [(5,.i 0)]) ?_;refine Goes.block ?_;obtain⟨f,g7,h⟩:=bnd h;refine Goes.imp (Q:=fun x s'=>(x= .exit 0/\(.inl ())=f/\Sub s' (ofG 28 [],[]))\/(x= .ret/\ ∃o,(.inr o)=f/\qZ ZT [.tmp 4] (.i o) .ret s')) ?_ ?_
 ·refine Uc (fun M s=> ∃(c:Int),s=(ofG 28 (kI n w (kAr c)),[])/\zR n w M c=some f) ?_ (m:=N) ⟨_,rfl,g7⟩;rintro M s ⟨c,rfl,g7⟩
  cases M with
  |zero=>simp only[zR]at g7;cases g7
  |succ M=>
   rw[zR]at g7;refine sq ?_;refine sh fol (kI n w [(5,.i c),(18,.bool (decide (c<(w.length:Int))))]) ?_;refine ihD g7 (fun t g7=>?_) (fun t g7=>?_)
   ·refine Goes.skip ?_;refine sq (Goes.block ?_);obtain⟨g,b,g7⟩:=bnd g7;obtain⟨j,d,g7⟩:=bnd g7;refine sq (gr fol [3,4,5] (kI n w [(5,.i c),(27,.bool (!j))]) (ac (iv qP encI b) (ac (lv 0 ce3 encI b rfl) (ac (cv (qgc n g d)) az))) ?_);refine ihB g7 (fun k g7=>?_) (fun k g7=>?_)
    ·refine sh fol [(4,.i 3)] ?_;refine Goes.ret ?_;obtain rfl:=si g7;exact Or.inr (⟨rfl,_,rfl,(gw2 [.i 3] (Ua tI))⟩)
    refine Goes.skip ?_;refine gh fol (kI n w (kAr (w64 (c+1)))) ?_;exact⟨M,(ofG 28 (kI n w (kAr (w64 (c+1)))),[]),Nat.lt_succ_self _,(Sub.refl _),_,rfl,g7⟩
   refine Goes.exit ?_;obtain rfl:=si g7;exact Or.inl (⟨rfl,rfl,(Sub.keep [] rfl rfl)⟩)
 rintro x s' (⟨rfl,rfl,hsub⟩|⟨rfl,u,rfl,hret⟩)
 ·try dsimp only at h
  refine Goes.sub hsub ?_;refine sh fol [(4,.i 0)] ?_;refine Goes.ret ?_;obtain rfl:=si h;exact(gw2 [.i 0] (Ua tI))
 try dsimp only at h
 obtain rfl:=si h;exact hret
def qbR (N:Nat) (n:Int) (w:List Int) (strands:Int) (letters:Int):Option Bool:=
 (if n<=strands then
 if(w.length:Int)<=letters then
 (yZ N n w).bind fun a=>
 some (decide (a=0))
 else
 some false
 else
 some false:Option Bool).bind fun b=>
 some b
theorem yP (N:Nat) (n:Int) (w:List Int) (strands:Int) (letters:Int) {res:Bool} (h:qbR N n w strands letters=some res):qf ZT (.fn 7) [.i n,vl encI w,.i strands,.i letters] [] (.bool res) []:=by
 unfold qbR at h;refine Ub Tryz.func7 rfl rfl (m:=24) rfl (rs:=[.tmp 8]) rfl (l:=(kI n w [(2,.i strands),(3,.i letters)])) rfl ?_;refine sh fol (kI n w [(2,.i strands),(3,.i letters)]) ?_;refine sq ?_;obtain⟨e,a,h⟩:=bnd h;refine Goes.cut (s':=(ofG 24 (kA5 e),[])) ?_ ?_
 ·rcases wyD a with⟨c,a⟩|⟨c,a⟩
  ·rcases wyD a with⟨d,a⟩|⟨d,a⟩
   ·obtain⟨f,b,a⟩:=bnd a;obtain rfl:=si a;exact tr fol [3,9,12] (kA5 (decide (f=0))) (ac (gw c) (ac (gw d) (ac (cv (qeF N n w b)) az)))
   obtain rfl:=si a;exact tr fol [3,9] [(8,.bool false)] (ac (gw c) (ac (gw d) az))
  obtain rfl:=si a;exact tr fol [3] [(8,.bool false)] (ac (gw c) az)
 refine Goes.ret ?_;obtain rfl:=si h;exact(gw2 [.bool e] (Ua tB))
def jb (a:List Int) (b:List Int):Nat->Int->Option (Unit⊕Bool)
 |0,_=>none
 |K+1,c=>
  if c<(a.length:Int)then
  (idx a c).bind fun d=>
  (idx b c).bind fun e=>
  if(!decide (d=e))=true then
  some (.inr false)
  else
  jb a b K (w64 (c+1))
  else
  some (.inl ())
def yJ (N:Nat) (a:List Int) (b:List Int):Option Bool:=
 if(!decide ((a.length:Int)=(b.length:Int)))=true then
 some false
 else
 (jb a b N 0).bind (fun
 |(.inl ())=>
 some true
 |(.inr c)=>
 some c)
theorem xk (N:Nat) (a:List Int) (b:List Int) {res:Bool} (h:yJ N a b=some res):qf ZT (.fn 19) (vl encI a::(kAn b)) [] (.bool res) []:=by
 unfold yJ at h;refine Ub Tryz.func19 rfl rfl (m:=26) rfl (rs:=[.tmp 4]) rfl (l:=(kO a b [])) rfl ?_;refine sh fol (kO a b []) ?_;refine sq ?_;refine sh fol (kO a b (kA1 (!decide ((a.length:Int)=(b.length:Int))))) ?_;refine ihB h (fun j h=>?_) (fun j h=>?_)
 ·refine sh fol kAN ?_;refine Goes.ret ?_;obtain rfl:=si h;exact(gw2 [.bool false] (Ua tB))
 refine Goes.skip ?_;refine sq ?_;refine sh fol (kO a b [(5,.i 0)]) ?_;refine Goes.block ?_;obtain⟨f,g3,h⟩:=bnd h;refine Goes.imp (Q:=fun x s'=>(x= .exit 0/\(.inl ())=f/\Sub s' (ofG 26 [],[]))\/(x= .ret/\ ∃g,(.inr g)=f/\qZ ZT [.tmp 4] (.bool g) .ret s')) ?_ ?_
 ·refine Uc (fun M s=> ∃(c:Int),s=(ofG 26 (kO a b (kAr c)),[])/\jb a b M c=some f) ?_ (m:=N) ⟨_,rfl,g3⟩;rintro M s ⟨c,rfl,g3⟩
  cases M with
  |zero=>simp only[jb]at g3;cases g3
  |succ M=>
   rw[jb]at g3;refine sq ?_;refine sh fol (kO a b [(5,.i c),(14,.bool (decide (c<(a.length:Int))))]) ?_;refine ihD g3 (fun k g3=>?_) (fun k g3=>?_)
   ·refine Goes.skip ?_;refine sq (Goes.block ?_);obtain⟨n,d,g3⟩:=bnd g3;obtain⟨o,e,g3⟩:=bnd g3;refine sq (gr fol [2,3,6,7] (kO a b [(5,.i c),(25,.bool (!decide (n=o)))]) (ac (iv qP encI d) (ac (lv 0 ce3 encI d rfl) (ac (iv qP encI e) (ac (lv 0 ce3 encI e rfl) az)))) ?_);refine ihB g3 (fun p g3=>?_) (fun p g3=>?_)
    ·refine sh fol kAN ?_;refine Goes.ret ?_;obtain rfl:=si g3;exact Or.inr (⟨rfl,_,rfl,(gw2 [.bool false] (Ua tB))⟩)
    refine Goes.skip ?_;refine gh fol (kO a b (kAr (w64 (c+1)))) ?_;exact⟨M,(ofG 26 (kO a b (kAr (w64 (c+1)))),[]),Nat.lt_succ_self _,(Sub.refl _),_,rfl,g3⟩
   refine Goes.exit ?_;obtain rfl:=si g3;exact Or.inl (⟨rfl,rfl,(Sub.keep [] rfl rfl)⟩)
 rintro x s' (⟨rfl,rfl,hsub⟩|⟨rfl,q,rfl,hret⟩)
 ·try dsimp only at h
  refine Goes.sub hsub ?_;refine sh fol kBB ?_;refine Goes.ret ?_;obtain rfl:=si h;exact(gw2 [.bool true] (Ua tB))
 try dsimp only at h
 obtain rfl:=si h;exact hret
def yn (w:List Int):Option ((List Int)×Int):=
 if(w.length:Int)>200 then
 some ([],5)
 else
 some (w,0)
theorem qcC (w:List Int) {res:(List Int)×Int} (h:yn w=some res):qf ZT (.fn 45) [vl encI w] [] (.tuple (kA4 res.1 res.2)) []:=by
 unfold yn at h;refine Ub Tryz.func45 rfl rfl (m:=8) rfl (rs:=[.tmp 2,.tmp 3]) rfl (l:=(kAC w [])) rfl ?_;refine sh fol (kAC w []) ?_;refine sq ?_;refine sh fol (kAC w [(6,.bool (decide ((w.length:Int)>200)))]) ?_;refine ihD h (fun a h=>?_) (fun a h=>?_)
 ·refine sh fol [(2,.nilslice),(3,.i 5)] ?_;refine Goes.ret ?_;obtain rfl:=si h;exact(gw2 [.nilslice,.i 5] (FzW.tuple (qh.cons (FzW.nilv (E:=encI)) (qh.cons (Ua tI) qh.nil))))
 refine Goes.skip ?_;refine sh fol [(2,vl encI w),(3,.i 0)] ?_;refine Goes.ret ?_;obtain rfl:=si h;exact(gw2 [vl encI w,.i 0] (FzW.tuple (qh.cons (Ua (qE encI _ (nl rfl))) (qh.cons (Ua tI) qh.nil))))
def jE (holds:Bool) (e:Int):Option Int:=
 if holds=true then
 some e
 else
 some 0
theorem qak (holds:Bool) (e:Int) {res:Int} (h:jE holds e=some res):qf ZT (.fn 57) [.bool holds,.i e] [] (.i res) []:=by
 unfold jE at h;refine Ub Tryz.func57 rfl rfl (m:=7) rfl (rs:=[.tmp 4]) rfl (l:=((0,.bool holds)::(kBC e))) rfl ?_;refine sh fol ((0,.bool holds)::(kBC e)) ?_;refine sq ?_;refine sh fol [(1,.i e),(5,.bool holds)] ?_;refine ihB h (fun a h=>?_) (fun a h=>?_)
 ·refine sh fol (kBF e) ?_;refine Goes.ret ?_;obtain rfl:=si h;exact(gw2 [.i e] (Ua tI))
 refine Goes.skip ?_;refine sh fol [(4,.i 0)] ?_;refine Goes.ret ?_;obtain rfl:=si h;exact(gw2 [.i 0] (Ua tI))
def zL (l:List Int):Nat->Int->Option (Unit⊕Int)
 |0,_=>none
 |K+1,a=>
  if a<(l.length:Int)then
  (idx l a).bind fun b=>
  if(!decide (b=0))=true then
  some (.inr b)
  else
  zL l K (w64 (a+1))
  else
  some (.inl ())
def vE (N:Nat) (l:List Int):Option Int:=
 (zL l N 0).bind (fun
 |(.inl ())=>
 some 0
 |(.inr a)=>
 some a)
theorem qb9 (N:Nat) (l:List Int) {res:Int} (h:vE N l=some res):qf ZT (.fn 62) [vl encI l] [] (.i res) []:=by
 unfold vE at h;refine Ub Tryz.func62 rfl rfl (m:=15) rfl (rs:=[.tmp 2]) rfl (l:=(kAC l [])) rfl ?_;refine sh fol (kAC l []) ?_;refine sq ?_;refine sh fol (kAL l (l.length:Int) [(7,.i 0)]) ?_;refine Goes.block ?_;obtain⟨d,g2,h⟩:=bnd h;refine Goes.imp (Q:=fun x s'=>(x= .exit 0/\(.inl ())=d/\Sub s' (ofG 15 [],[]))\/(x= .ret/\ ∃e,(.inr e)=d/\qZ ZT [.tmp 2] (.i e) .ret s')) ?_ ?_
 ·refine Uc (fun M s=> ∃(a:Int),s=(ofG 15 (kAL l (l.length:Int) (kA9 a)),[])/\zL l M a=some d) ?_ (m:=N) ⟨_,rfl,g2⟩;rintro M s ⟨a,rfl,g2⟩
  cases M with
  |zero=>simp only[zL]at g2;cases g2
  |succ M=>
   rw[zL]at g2;refine sh fol (kAL l (l.length:Int) ((7,.i a)::(kA5 (decide (a<(l.length:Int)))))) ?_;refine sq ?_;refine ihD g2 (fun f g2=>?_) (fun f g2=>?_)
   ·refine Goes.skip ?_;refine sq (Goes.block ?_);obtain⟨c,b,g2⟩:=bnd g2;refine sq (gr fol [0,1] ((4,.i c)::(kAL l (l.length:Int) (kA9 a))) (ac (iv qqQ encI b) (ac (lv 0 ce29 encI b rfl) az)) ?_);refine sh fol ((4,.i c)::(kAL l (l.length:Int) ((7,.i a)::(kBD (!decide (c=0)))))) ?_;refine ihB g2 (fun g g2=>?_) (fun g g2=>?_)
    ·refine sh fol (kAx c) ?_;refine Goes.ret ?_;obtain rfl:=si g2;exact Or.inr (⟨rfl,_,rfl,(gw2 [.i c] (Ua tI))⟩)
    refine Goes.skip ?_;refine gh fol (kAL l (l.length:Int) (kA9 (w64 (a+1)))) ?_;exact⟨M,(ofG 15 (kAL l (l.length:Int) (kA9 (w64 (a+1)))),[]),Nat.lt_succ_self _,(Sub.refl _),_,rfl,g2⟩
   refine Goes.exit ?_;obtain rfl:=si g2;exact Or.inl (⟨rfl,rfl,(Sub.keep [] rfl rfl)⟩)
 rintro x s' (⟨rfl,rfl,hsub⟩|⟨rfl,j,rfl,hret⟩)
 ·try dsimp only at h
  refine Goes.sub hsub ?_;refine sh fol [(2,.i 0)] ?_;refine Goes.ret ?_;obtain rfl:=si h;exact(gw2 [.i 0] (Ua tI))
 try dsimp only at h
 obtain rfl:=si h;exact hret
def yO (n:Int):Option Int:=
 (if n<1 then
 (jE true 3).bind fun a=>
 some a
 else
 (jE (decide (n>12)) 3).bind fun b=>
 some b:Option Int).bind fun c=>
 some c
theorem qdC (n:Int) {res:Int} (h:yO n=some res):qf ZT (.fn 98) [.i n] [] (.i res) []:=by
 unfold yO at h;refine Ub Tryz.func98 rfl rfl (m:=10) rfl (rs:=[.tmp 2]) rfl (l:=[(0,.i n)]) rfl ?_;refine sh fol [(0,.i n)] ?_;refine sq ?_;obtain⟨e,a,h⟩:=bnd h;refine Goes.cut (s':=(ofG 10 (kAx e),[])) ?_ ?_
 ·rcases wyD a with⟨d,a⟩|⟨d,a⟩
  ·obtain⟨f,b,a⟩:=bnd a;obtain rfl:=si a;exact tr fol [2,6] (kAx f) (ac (gw d) (ac (cv (qak true 3 b)) az))
  obtain⟨g,c,a⟩:=bnd a;obtain rfl:=si a;exact tr fol [2,6] (kAx g) (ac (gw d) (ac (cv (qak (decide (n>12)) 3 c)) az))
 refine Goes.ret ?_;obtain rfl:=si h;exact(gw2 [.i e] (Ua tI))
def qae (n:Int) (letter:Int):Option Bool:=
 (if letter=0 then
 some true
 else
 if letter<=(w64 (0-n))then
 some true
 else
 some (decide (letter>=n)):Option Bool).bind fun a=>
 some a
theorem qfv (n:Int) (letter:Int) {res:Bool} (h:qae n letter=some res):qf ZT (.fn 104) [.i n,.i letter] [] (.bool res) []:=by
 unfold qae at h;refine Ub Tryz.func104 rfl rfl (m:=18) rfl (rs:=[.tmp 4]) rfl (l:=(kAH n letter [])) rfl ?_;refine sh fol (kAH n letter []) ?_;refine sq ?_;obtain⟨d,a,h⟩:=bnd h;refine Goes.cut (s':=(ofG 18 (kAk d),[])) ?_ ?_
 ·rcases wyD a with⟨b,a⟩|⟨b,a⟩
  ·obtain rfl:=si a;exact tr fol [2] kBB (ac (gw b) az)
  rcases wyD a with⟨c,a⟩|⟨c,a⟩
  ·obtain rfl:=si a;exact tr fol [2,8] kBB (ac (gw b) (ac (gw c) az))
  obtain rfl:=si a;exact tr fol [2,8] (kAk (decide (letter>=n))) (ac (gw b) (ac (gw c) az))
 refine Goes.ret ?_;obtain rfl:=si h;exact(gw2 [.bool d] (Ua tB))
def vR (a:Int) (b:Int):Option Bool:=
 (qae b a).bind fun c=>
 some c
theorem qcx (a:Int) (b:Int) {res:Bool} (h:vR a b=some res):qf ZT (.fn 103) [.i a,.fptr [.i b] 0] [] (.bool res) []:=by
 unfold vR at h;refine Ub Tryz.func103 rfl rfl (m:=7) rfl (rs:=[.tmp 3]) rfl (l:=[(0,.i a),(1,.fptr [.i b] 0)]) rfl ?_;refine sh fol [(0,.i a),(1,.fptr [.i b] 0)] ?_;obtain⟨d,c,h⟩:=bnd h;refine sq (gr fol [2] [(3,.bool d)] (ac (cv (qfv b a c)) az) ?_);refine Goes.ret ?_;obtain rfl:=si h;exact(gw2 [.bool d] (Ua tB))
def qF (a:List Int) (b:Int):Nat->Int->Option (Unit⊕Int)
 |0,_=>none
 |K+1,c=>
  if c<(a.length:Int)then
  (idx a c).bind fun d=>
  (vR d b).bind fun e=>
  if e=true then
  some (.inr c)
  else
  qF a b K (w64 (c+1))
  else
  some (.inl ())
def j3 (N:Nat) (a:List Int) (b:Int):Option Int:=
 (qF a b N 0).bind (fun
 |(.inl ())=>
 some (-1)
 |(.inr c)=>
 some c)
theorem qb4 (N:Nat) (a:List Int) (b:Int) {res:Int} (h:j3 N a b=some res):qf ZT (.fn 171) [vl encI a,.func (.func 103) [] [.fptr [.i b] 0]] [] (.i res) []:=by
 unfold j3 at h;refine Ub Tryz.func171 rfl rfl (m:=19) rfl (rs:=[.tmp 4]) rfl (l:=(kAC a [(1,.func (.func 103) [] [.fptr [.i b] 0])])) rfl ?_;refine sh fol (kAC a [(1,.func (.func 103) [] [.fptr [.i b] 0])]) ?_;refine sq ?_;refine sh fol (kAC a [(1,.func (.func 103) [] [.fptr [.i b] 0]),(7,.i (a.length:Int)),(8,.i 0)]) ?_;refine Goes.block ?_;obtain⟨f,g2,h⟩:=bnd h;refine Goes.imp (Q:=fun x s'=>(x= .exit 0/\(.inl ())=f/\Sub s' (ofG 19 [],[]))\/(x= .ret/\ ∃j,(.inr j)=f/\qZ ZT [.tmp 4] (.i j) .ret s')) ?_ ?_
 ·refine Uc (fun M s=> ∃(c:Int),s=(ofG 19 (kAC a ((1,.func (.func 103) [] [.fptr [.i b] 0])::(kZ (a.length:Int) c []))),[])/\qF a b M c=some f) ?_ (m:=N) ⟨_,rfl,g2⟩;rintro M s ⟨c,rfl,g2⟩
  cases M with
  |zero=>simp only[qF]at g2;cases g2
  |succ M=>
   rw[qF]at g2;refine sh fol (kAC a ((1,.func (.func 103) [] [.fptr [.i b] 0])::(kZ (a.length:Int) c [(9,.bool (decide (c<(a.length:Int))))]))) ?_;refine sq ?_;refine ihD g2 (fun n g2=>?_) (fun n g2=>?_)
   ·refine Goes.skip ?_;refine sq (Goes.block ?_);refine sh fol (kAC a ((1,.func (.func 103) [] [.fptr [.i b] 0])::(5,.i c)::(kZ (a.length:Int) c []))) ?_;obtain⟨g,d,g2⟩:=bnd g2;obtain⟨k,e,g2⟩:=bnd g2;refine sq (gr fol [3,4,5] (kAC a ((1,.func (.func 103) [] [.fptr [.i b] 0])::(5,.i c)::(kZ (a.length:Int) c [(16,.bool k)]))) (ac (iv qP encI d) (ac (lv 0 ce3 encI d rfl) (ac (hs (.call 103 [.i g,.fptr [.i b] 0] [] [] [.i g,.fptr [.i b] 0] (.bool k)) (qeD (FzL.cons (Ui tI) (FzL.cons (Ui (Still.fptr (AllST.cons tI AllST.nil))) FzL.nil)) (qcx g b e) tB)) az))) ?_);refine ihB g2 (fun o g2=>?_) (fun o g2=>?_)
    ·refine sh fol (kBF c) ?_;refine Goes.ret ?_;obtain rfl:=si g2;exact Or.inr (⟨rfl,_,rfl,(gw2 [.i c] (Ua tI))⟩)
    refine Goes.skip ?_;refine gh fol (kAC a ((1,.func (.func 103) [] [.fptr [.i b] 0])::(kZ (a.length:Int) (w64 (c+1)) []))) ?_;exact⟨M,(ofG 19 (kAC a ((1,.func (.func 103) [] [.fptr [.i b] 0])::(kZ (a.length:Int) (w64 (c+1)) []))),[]),Nat.lt_succ_self _,(Sub.refl _),_,rfl,g2⟩
   refine Goes.exit ?_;obtain rfl:=si g2;exact Or.inl (⟨rfl,rfl,(Sub.keep [] rfl rfl)⟩)
 rintro x s' (⟨rfl,rfl,hsub⟩|⟨rfl,p,rfl,hret⟩)
 ·try dsimp only at h
  refine Goes.sub hsub ?_;refine sh fol [(4,.i (-1))] ?_;refine Goes.ret ?_;obtain rfl:=si h;exact(gw2 [.i (-1)] (Ua tI))
 try dsimp only at h
 obtain rfl:=si h;exact hret
def jd (N:Nat) (a:List Int) (b:Int):Option Bool:=
 (j3 N a b).bind fun c=>
 some (decide (c>=0))
theorem qbj (N:Nat) (a:List Int) (b:Int) {res:Bool} (h:jd N a b=some res):qf ZT (.fn 102) [vl encI a,.func (.func 103) [] [.fptr [.i b] 0]] [] (.bool res) []:=by
 unfold jd at h;refine Ub Tryz.func102 rfl rfl (m:=9) rfl (rs:=[.tmp 4]) rfl (l:=(kAC a [(1,.func (.func 103) [] [.fptr [.i b] 0])])) rfl ?_;refine sh fol (kAC a [(1,.func (.func 103) [] [.fptr [.i b] 0])]) ?_;obtain⟨d,c,h⟩:=bnd h;refine sq (gr fol [2] (kAk (decide (d>=0))) (ac (hs (.call 171 [vl encI a,.func (.func 103) [] [.fptr [.i b] 0]] [] [] [vl encI a,.func (.func 103) [] [.fptr [.i b] 0]] (.i d)) (qeD (FzL.cons (Ui (qE encI _ (nl rfl))) (FzL.cons (Fz.func FzL.nil (FzL.cons (Ui (Still.fptr (AllST.cons tI AllST.nil))) FzL.nil)) FzL.nil)) (qb4 N a b c) tI)) az) ?_);refine Goes.ret ?_;obtain rfl:=si h;exact(gw2 [.bool (decide (d>=0))] (Ua tB))
def qY (N:Nat) (n:Int) (w:List Int):Option Int:=
 (yO n).bind fun b=>
 (jE (decide ((w.length:Int)>200)) 5).bind fun c=>
 (vE N ([b,c]:List Int)).bind fun a=>
 if(!decide (a=0))=true then
 some a
 else
 (jd N w n).bind fun d=>
 (jE d 3).bind fun e=>
 some e
theorem ze (N:Nat) (n:Int) (w:List Int) {res:Int} (h:qY N n w=some res):qf ZT (.fn 43) (.i n::(kAn w)) [] (.i res) []:=by
 unfold qY at h;refine Ub Tryz.func43 rfl rfl (m:=21) rfl (rs:=[.tmp 4]) rfl (l:=(kI n w [])) rfl ?_;refine sg fol (kAy w (kW [])) (kAj n []) ?_;refine sq ?_;obtain⟨b,c,h⟩:=bnd h;obtain⟨d,e,h⟩:=bnd h;obtain⟨a,f,h⟩:=bnd h;refine sq (gq fol [1,5,7] (kAy w (kW (kAr a))) (kAj n (kAA b d [])) (ac (cv (qdC n c)) (ac (cv (qak (decide ((w.length:Int)>200)) 5 e)) (ac (hs (.call 62 [.slice 1 0 2 2 1] (kAj n (kAA b d [])) [1] [vl encI ([b,d]:List Int)] (.i a)) (qeE (FzL.cons (Fz.lit rfl rfl (Up (AllST.cons tI (AllST.cons tI AllST.nil)))) FzL.nil) (qb9 N ([b,d]:List Int) f) tI rfl)) az))) ?_);refine sh fol (kAy w (kW [(5,.i a),(15,.bool (!decide (a=0)))])) ?_;refine ihB h (fun p h=>?_) (fun p h=>?_)
 ·refine sh fol (kBF a) ?_;refine Goes.ret ?_;obtain rfl:=si h;exact(gw2 [.i a] (Ua tI))
 refine Goes.skip ?_;obtain⟨k,g,h⟩:=bnd h;obtain⟨o,j,h⟩:=bnd h;refine sq (gr fol [2,3] (kBF o) (ac (hs (.call 102 [vl encI w,.func (.func 103) [] [.ptr 0 0]] (kAj n (kAA b d [])) [0] [vl encI w,.func (.func 103) [] [.fptr [.i n] 0]] (.bool k)) (qeE (FzL.cons (Ui (qE encI _ (nl rfl))) (FzL.cons (Fz.func FzL.nil (FzL.cons (Fz.ptr rfl rfl (FzL.cons (Ui tI) FzL.nil)) FzL.nil)) FzL.nil)) (qbj N w n g) tB rfl)) (ac (cv (qak k 3 j)) az)) ?_);refine Goes.ret ?_;obtain rfl:=si h;exact(gw2 [.i o] (Ua tI))
def y7 (N:Nat) (n:Int) (a:List Int) (b:List Int):Option Int:=
 (qY N n a).bind fun c=>
 (qY N n b).bind fun d=>
 (vE N ([c,d]:List Int)).bind fun e=>
 some e
theorem qeS (N:Nat) (n:Int) (a:List Int) (b:List Int) {res:Int} (h:y7 N n a b=some res):qf ZT (.fn 53) (.i n::vl encI a::(kAn b)) [] (.i res) []:=by
 unfold y7 at h;refine Ub Tryz.func53 rfl rfl (m:=15) rfl (rs:=[.tmp 6]) rfl (l:=(kI n a [(2,vl encI b)])) rfl ?_;refine sh fol (kI n a [(2,vl encI b)]) ?_;obtain⟨f,c,h⟩:=bnd h;obtain⟨g,d,h⟩:=bnd h;obtain⟨j,e,h⟩:=bnd h;refine sq (gq fol [2,5,7] [(6,.i j)] (kAA f g []) (ac (cv (ze N n a c)) (ac (cv (ze N n b d)) (ac (hs (.call 62 [.slice 0 0 2 2 1] (kAA f g []) [0] [vl encI ([f,g]:List Int)] (.i j)) (qeE (FzL.cons (Fz.lit rfl rfl (Up (AllST.cons tI (AllST.cons tI AllST.nil)))) FzL.nil) (qb9 N ([f,g]:List Int) e) tI rfl)) az))) ?_);refine Goes.ret ?_;obtain rfl:=si h;exact(gw2 [.i j] (Ua tI))
def vJ (a:Int):Option (Option (List Int)):=
 ((if a<0 then
 none
 else
 some ():Option Unit)).bind fun _=>
 ((if(w64 (a-(w64 (0-0))))>0 then
 (cut ([]:List Int) 0 0).bind fun e=>
 (qjr 8 (w64 (a-(w64 (0-0)))) 0).bind fun b=>
 (cut b 0 0).bind fun c=>
 some (some c)
 else
 some (none:Option (List Int)):Option (Option (List Int)))).bind fun d=>
 some d
theorem qdE (a:Int) {j:Option (List Int)} (h:vJ a=some j):qf ZT (.fn 134) [.nilslice,.i a] [] (hsl 0 1 j) (kAX j):=by
 unfold vJ at h;refine Un Tryz.func134 rfl rfl (m:=27) rfl (rs:=[.tmp 4]) rfl (l:=((0,.nilslice)::(kBC a))) rfl ?_;intro B hB;refine sh fol ((0,.nilslice)::(kBC a)) ?_;refine sq ?_;refine sh fol [(0,.nilslice),(1,.i a),(6,.bool (decide (a<0)))] ?_;obtain⟨k,g2,h⟩:=bnd h;refine Goes.imp (Q:=fun x s'=>(x= .normal/\()=k/\Sub s' (ofG 27 ((0,.nilslice)::(kBC a)),[]))) ?_ ?_
 ·refine ihD g2 (fun n g2=>?_) (fun n g2=>?_)
  ·cases g2
  refine Goes.skip ?_;obtain rfl:=si g2;exact⟨rfl,rfl,(Sub.keep [0,1] rfl rfl)⟩
 rintro x s' ⟨rfl,rfl,hsub⟩;refine Goes.sub hsub ?_;refine sq ?_;refine sh fol ((0,.nilslice)::(kBC (w64 (a-(w64 (0-0)))))) ?_;refine sh fol [(0,.nilslice),(1,.i (w64 (a-(w64 (0-0))))),(16,.bool (decide ((w64 (a-(w64 (0-0))))>0)))] ?_;obtain⟨o,g5,h⟩:=bnd h;refine Goes.imp (Q:=fun x s'=>(x= .normal/\ ∃c,c=o/\Sub s' (ofG 27 [(0,hsl 0 1 c)],(kAX c)))) ?_ ?_
 ·refine ihD g5 (fun p g5=>?_) (fun p g5=>?_)
  ·obtain⟨q,d,g5⟩:=bnd g5;obtain⟨e,f,g5⟩:=bnd g5;obtain⟨g,b,g5⟩:=bnd g5;refine gq fol [3,5,8] [(0,.oslice 0 g.length 1)] (kA e []) (ac (hs (.done (.opt (qM ZT 22 .nilslice none (some (.i 0)) none)) .nilslice) (qrc (α:=Int) qP none (some 0) d)) (ac (hs (.run [] (jv ZT [22,3] .nilslice (.i (w64 (a-(w64 (0-0)))))) [] (.oslice 0 e.length 1) (kA e []) false) (qpv qP it3 (E:=encI) rfl (z:=0) (by kernel_rfl) f rfl)) (ac (hs (.done (.opt (qM ZT 22 (.oslice 0 e.length 1) none (some (.i 0)) none)) (.oslice 0 g.length 1)) (sh_os qP b)) az))) ?_;obtain rfl:=si g5;exact⟨rfl,_,rfl,((show Sub (ofG 27 [(0,.oslice 0 g.length 1)],(kA e [])) (ofG 27 [(0,.oslice 0 g.length 1)],(kA g []))from(Sub.norm [] [some 0] (by rw[hB];rfl) rfl (.keep (.oslice rfl) .nil) (.kb rfl (jY.cut b) .nil))).trans (Sub.norm [] [some 0] (by rw[hB];rfl) rfl (.keep (zY.hs1 rfl) .nil) (.ks .nil)))⟩
  refine Goes.skip ?_;obtain rfl:=si g5;exact⟨rfl,_,rfl,(Sub.norm [] [none] (by rw[hB];rfl) rfl (.keep zY.hs0 .nil) (.fresh .nil))⟩
 rintro x s' ⟨rfl,c,rfl,hsub⟩;refine Goes.sub hsub ?_;refine sh fol [(4,hsl 0 1 c)] ?_;refine Goes.ret ?_;obtain rfl:=si h;exact(gh2 [hsl 0 1 c] (qbz.refl _ _))
def kg (slices:List (List Int)):Nat->Int->Int->Option Int
 |0,_,_=>none
 |K+1,a,b=>
  if a<(slices.length:Int)then
  (((idx slices a).bind fun c=>
  if(w64 (b+(c.length:Int)))<0 then
  none
  else
  some (w64 (b+(c.length:Int))):Option Int)).bind fun d=>
  kg slices K (w64 (a+1)) d
  else
  some b
def qG (slices:List (List Int)):Nat->(Option (List Int))->Int->Option (Option (List Int))
 |0,_,_=>none
 |K+1,b,a=>
  if a<(slices.length:Int)then
  (idx slices a).bind fun c=>
  ((match b with
  |none=>
  (match c with
  |[]=>
  some (none:Option (List Int))
  |g::xs20=>
  none)
  |some d=>
  (app 8 d c).bind fun e=>
  some (some e)):Option (Option (List Int))).bind fun f=>
  qG slices K f (w64 (a+1))
  else
  some b
def yf (N:Nat) (slices:List (List Int)):Option (List Int):=
 (kg slices N 0 0).bind fun c=>
 (vJ c).bind fun a=>
 (qG slices N a 0).bind fun b=>
 some (hof b)
theorem qd4 (N:Nat) (slices:List (List Int)) {res:List Int} (h:yf N slices=some res):qf ZT (.fn 70) [vl (qc encI) slices] [] (vl encI res) []:=by
 unfold yf at h;refine Ub Tryz.func70 rfl rfl (m:=36) rfl (rs:=[.tmp 2]) rfl (l:=[(0,vl (qc encI) slices)]) rfl ?_;refine sh fol [(0,vl (qc encI) slices)] ?_;refine sh fol [(0,vl (qc encI) slices),(3,.i 0)] ?_;refine sq ?_;refine sh fol [(0,vl (qc encI) slices),(3,.i 0),(9,vl (qc encI) slices),(10,.i (slices.length:Int)),(11,.i 0)] ?_;refine Goes.block ?_;obtain⟨B,g4,h⟩:=bnd h;refine Goes.imp (Q:=fun x s'=>(x= .exit 0/\ ∃v,v=B/\Sub s' (ofG 36 [(0,vl (qc encI) slices),(3,.i v)],[]))) ?_ ?_
 ·refine Uc (fun M s=> ∃(f:Int) (o:Int),s=(ofG 36 [(0,vl (qc encI) slices),(3,.i o),(9,vl (qc encI) slices),(10,.i (slices.length:Int)),(11,.i f)],[])/\kg slices M f o=some B) ?_ (m:=N) ⟨_,_,rfl,g4⟩;rintro M s ⟨f,o,rfl,g4⟩
  cases M with
  |zero=>simp only[kg]at g4;cases g4
  |succ M=>
   rw[kg]at g4;refine sh fol ((0,vl (qc encI) slices)::(3,.i o)::(9,vl (qc encI) slices)::(10,.i (slices.length:Int))::(11,.i f)::(kBD (decide (f<(slices.length:Int))))) ?_;refine sq ?_;refine ihD g4 (fun C g4=>?_) (fun C g4=>?_)
   ·refine Goes.skip ?_;refine sq ?_;obtain⟨D,g7,g4⟩:=bnd g4;refine Goes.imp (Q:=fun x s'=>(x= .normal/\ ∃w,w=D/\Sub s' (ofG 36 [(0,vl (qc encI) slices),(3,.i w),(9,vl (qc encI) slices),(10,.i (slices.length:Int)),(11,.i f)],[]))) ?_ ?_
    ·refine Goes.block ?_;obtain⟨z,p,g7⟩:=bnd g7;refine sq (gr fol [0,1] [(0,vl (qc encI) slices),(3,.i o),(5,vl encI z),(9,vl (qc encI) slices),(10,.i (slices.length:Int)),(11,.i f)] (ac (iv qbO (qc encI) p) (ac (lv 0 qci (qc encI) p rfl) az)) ?_);refine sh fol [(0,vl (qc encI) slices),(3,.i (w64 (o+(z.length:Int)))),(9,vl (qc encI) slices),(10,.i (slices.length:Int)),(11,.i f)] ?_;refine sh fol [(0,vl (qc encI) slices),(3,.i (w64 (o+(z.length:Int)))),(9,vl (qc encI) slices),(10,.i (slices.length:Int)),(11,.i f),(20,.bool (decide ((w64 (o+(z.length:Int)))<0)))] ?_;refine ihD g7 (fun F g7=>?_) (fun F g7=>?_)
     ·cases g7
     refine Goes.skip ?_;obtain rfl:=si g7;exact⟨rfl,_,rfl,(Sub.keep [0,3,9,10,11] rfl rfl)⟩
    rintro x s' ⟨rfl,w,rfl,hsub⟩;refine Goes.sub hsub ?_;refine gh fol [(0,vl (qc encI) slices),(3,.i w),(9,vl (qc encI) slices),(10,.i (slices.length:Int)),(11,.i (w64 (f+1)))] ?_;exact⟨M,(ofG 36 [(0,vl (qc encI) slices),(3,.i w),(9,vl (qc encI) slices),(10,.i (slices.length:Int)),(11,.i (w64 (f+1)))],[]),Nat.lt_succ_self _,(Sub.refl _),_,_,rfl,g4⟩
   refine Goes.exit ?_;obtain rfl:=si g4;exact⟨rfl,_,rfl,(Sub.keep [0,3] rfl rfl)⟩
 rintro x s' ⟨rfl,v,rfl,hsub⟩;refine Goes.sub hsub ?_;obtain⟨g,q,h⟩:=bnd h;refine sq (gq fol [1] [(0,vl (qc encI) slices),(6,hsl 0 1 g)] (kAX g) (ac (hs (.callH 134 [.nilslice,.i v] [] [] (hsl 0 1 g) (kAX g)) (qab [] [some 0] (qdE v q) .nil rfl rfl (.new rfl rfl (.same fa) rfl .nil) (rc (.same (qD.nilslice)) (rc (.same nI) rn)) (.hs rfl) rfl)) az) ?_);refine sq ?_;refine sh fol [(6,hsl 0 1 g),(25,vl (qc encI) slices),(26,.i (slices.length:Int)),(27,.i 0)] ?_;refine Goes.block ?_;obtain⟨y,g15,h⟩:=bnd h;refine Goes.imp (Q:=fun x s'=>(x= .exit 2/\ ∃e,e=y/\Sub s' (ofG 36 [(6,hsl 0 1 e)],(kAX e)))) ?_ ?_
 ·refine Uc (fun M s=> ∃(d:Option (List Int)) (b:Int),s=(ofG 36 [(6,hsl 0 1 d),(25,vl (qc encI) slices),(26,.i (slices.length:Int)),(27,.i b)],(kAX d))/\qG slices M d b=some y) ?_ (m:=N) ⟨_,_,rfl,g15⟩;rintro M s ⟨d,b,rfl,g15⟩
  cases M with
  |zero=>simp only[qG]at g15;cases g15
  |succ M=>
   rw[qG]at g15;refine sh fol [(6,hsl 0 1 d),(25,vl (qc encI) slices),(26,.i (slices.length:Int)),(27,.i b),(28,.bool (decide (b<(slices.length:Int))))] ?_;refine sq ?_;refine ihD g15 (fun A g15=>?_) (fun A g15=>?_)
   ·refine Goes.skip ?_;refine sq (Goes.block ?_);obtain⟨r,j,g15⟩:=bnd g15;refine sq (gr fol [0,1] [(6,hsl 0 1 d),(8,vl encI r),(25,vl (qc encI) slices),(26,.i (slices.length:Int)),(27,.i b)] (ac (iv qbO (qc encI) j) (ac (lv 0 qci (qc encI) j rfl) az)) ?_);obtain⟨k,a,g15⟩:=bnd g15;refine Goes.cutS (s':=(ofG 36 [(6,hsl 0 1 k),(25,vl (qc encI) slices),(26,.i (slices.length:Int)),(27,.i b)],(kAX k))) ?_ ?_
    ·rcases d with _|t
     ·try dsimp only at a
      rcases r with _|⟨G,xs20⟩
      ·try dsimp only at a
       obtain rfl:=si a;exact yK.sub (yK.rq fol [2] [(6,.nilslice),(25,vl (qc encI) slices),(26,.i (slices.length:Int)),(27,.i b)] [.cells ((hof (none:Option (List Int))).flatMap encI.c)] (ac (hs (.run [] (jv ZT [22,22] .nilslice (vl encI ([]:List Int))) [.cells ((hof (none:Option (List Int))).flatMap encI.c)] .nilslice [.cells ((hof (none:Option (List Int))).flatMap encI.c)] false) (qp4 qP)) az)) (Sub.norm [] [none] rfl rfl (.keep zY.hs0 (.keep (.same (qw (qc encI) _)) (.keep (.same nI) (.keep (.same nI) .nil)))) (.fresh .nil))
      try dsimp only at a
      cases a
     try dsimp only at a
     obtain⟨n,u,a⟩:=bnd a;obtain rfl:=si a;exact yK.sub (yK.rq fol [2] [(6,.oslice 1 n.length 1),(25,vl (qc encI) slices),(26,.i (slices.length:Int)),(27,.i b)] (.dead::(kA n [])) (ac (hs (.run [0] (jv ZT [22,22] (.oslice 0 t.length 1) (vl encI r)) (kA t []) (.oslice 1 n.length 1) (.dead::(kA n [])) true) (qbH qP (E:=encI) rfl (qq4 (E:=encI) rfl _) (dst_o (E:=encI) (l:=t) rfl rfl rfl u rfl))) az)) (Sub.norm [] [some 1] rfl rfl (.keep (zY.hs1 rfl) (.keep (.same (qw (qc encI) _)) (.keep (.same nI) (.keep (.same nI) .nil)))) (.ks .nil))
    intro _ hsub;refine Goes.sub hsub ?_;refine gh fol [(6,hsl 0 1 k),(25,vl (qc encI) slices),(26,.i (slices.length:Int)),(27,.i (w64 (b+1)))] ?_;exact⟨M,(ofG 36 [(6,hsl 0 1 k),(25,vl (qc encI) slices),(26,.i (slices.length:Int)),(27,.i (w64 (b+1)))],(kAX k)),Nat.lt_succ_self _,(Sub.refl _),_,_,rfl,g15⟩
   refine Goes.exit ?_;obtain rfl:=si g15;exact⟨rfl,_,rfl,(Sub.keep [6] rfl rfl)⟩
 rintro x s' ⟨rfl,e,rfl,hsub⟩;refine Goes.sub hsub ?_;refine sh fol [(2,hsl 0 1 e)] ?_;refine Goes.ret ?_;obtain rfl:=si h;exact(gw2 [hsl 0 1 e] (FzW.hs (E:=encI) rfl rfl (nl rfl)))
def qaA (N:Nat) (n:Int) (a:List Int) (b:List Int):Option ((List Int)×Int):=
 (y7 N n a b).bind fun c=>
 if(!decide (c=0))=true then
 some ([],c)
 else
 (yf N ([a,b]:List (List Int))).bind fun e=>
 (yn e).bind fun d=>
 some (d.1,d.2)
theorem qf8 (N:Nat) (n:Int) (a:List Int) (b:List Int) {res:(List Int)×Int} (h:qaA N n a b=some res):qf ZT (.fn 25) (.i n::vl encI a::(kAn b)) [] (.tuple (kA4 res.1 res.2)) []:=by
 unfold qaA at h;refine Ub Tryz.func25 rfl rfl (m:=23) rfl (rs:=[.tmp 6,.tmp 7]) rfl (l:=(kI n a [(2,vl encI b)])) rfl ?_;refine sh fol (kI n a [(2,vl encI b)]) ?_;refine sq ?_;obtain⟨d,e,h⟩:=bnd h;refine sq (gr fol [3] (kAy a [(2,vl encI b),(8,.i d)]) (ac (cv (qeS N n a b e)) az) ?_);refine sh fol (kAy a [(2,vl encI b),(8,.i d),(14,.bool (!decide (d=0)))]) ?_;refine ihB h (fun k h=>?_) (fun k h=>?_)
 ·refine sh fol ((6,.nilslice)::(kA9 d)) ?_;refine Goes.ret ?_;obtain rfl:=si h;exact(gw2 [.nilslice,.i d] (FzW.tuple (qh.cons (FzW.nilv (E:=encI)) (qh.cons (Ua tI) qh.nil))))
 refine Goes.skip ?_;obtain⟨j,f,h⟩:=bnd h;obtain⟨c,g,h⟩:=bnd h;refine sq (gq fol [3,4] ((6,vl encI c.1)::(kA9 c.2)) [.frozen [vl encI a,vl encI b]] (ac (hs (.callF 70 [.slice 0 0 2 2 1] [.cells [vl encI a,vl encI b]] [0] [vl (qc encI) ([a,b]:List (List Int))] (vl encI j)) (qfV (FzL.cons (Fz.lit rfl rfl (Up (AllST.cons (qE encI _ (nl rfl)) (AllST.cons (qE encI _ (nl rfl)) AllST.nil)))) FzL.nil) (qd4 N ([a,b]:List (List Int)) f) (qE encI _ (nl rfl)))) (ac (cv (qcC j g)) az)) ?_);refine Goes.sub (show Sub (ofG 23 ((6,vl encI c.1)::(kA9 c.2)),[.frozen [vl encI a,vl encI b]]) (ofG 23 ((6,vl encI c.1)::(kA9 c.2)),[])from(Sub.norm [] [] rfl rfl (.keep (.same (qw encI _)) (.keep (.same nI) .nil)) .nil)) ?_;refine Goes.ret ?_;obtain rfl:=si h;exact(gw2 (kA4 c.1 c.2) (FzW.tuple (qh.cons (Ua (qE encI _ (nl rfl))) (qh.cons (Ua tI) qh.nil))))
def xc (n:Int):Option Int:=
 some (if(w64 (0-n))>n then(w64 (0-n))else n)
theorem qbI (n:Int) {res:Int} (h:xc n=some res):qf ZT (.fn 92) [.i n] [] (.i res) []:=by
 unfold xc at h;refine Ub Tryz.func92 rfl rfl (m:=7) rfl (rs:=[.tmp 2]) rfl (l:=[(0,.i n)]) rfl ?_;refine sh fol [(0,.i n)] ?_;refine sh fol (kAx (if(w64 (0-n))>n then(w64 (0-n))else n)) ?_;refine Goes.ret ?_;obtain rfl:=si h;exact(gw2 [.i (if(w64 (0-n))>n then(w64 (0-n))else n)] (Ua tI))
def zx (c:List Int):Nat->(List Int)->Int->Option (List Int)
 |0,_,_=>none
 |K+1,b,a=>
  if a<(c.length:Int)then
  (idx b a).bind fun e=>
  (put b a a).bind fun d=>
  zx c K d (w64 (a+1))
  else
  some b
def jc (N:Nat) (a:Int):Option (List Int):=
 (mk 8 a 0).bind fun b=>
 (zx b N b 0).bind fun c=>
 some c
theorem xL (N:Nat) (c:Int) {n:List Int} (h:jc N c=some n):qf ZT (.fn 106) [.i c] [] (.slice 0 0 n.length n.length 1) (kA n []):=by
 unfold jc at h;refine Un Tryz.func106 rfl rfl (m:=18) rfl (rs:=[.tmp 2]) rfl (l:=[(0,.i c)]) rfl ?_;intro B hB;refine sh fol [(0,.i c)] ?_;obtain⟨a,k,h⟩:=bnd h;refine sq (gq fol [1] (kS a []) (kA a []) (ac (hs (.run [] (jD ZT 22 (.i c) (.i c)) [] (.slice 0 0 a.length a.length 1) (kA a []) false) (qdK qP (E:=encI) (z:=0) rfl (by kernel_rfl) k rfl)) az) ?_);refine sq ?_;refine sh fol (kS a [(8,.i (a.length:Int)),(9,.i 0)]) ?_;refine Goes.block ?_;obtain⟨o,g6,h⟩:=bnd h;refine Goes.imp (Q:=fun x s'=>(x= .exit 0/\ ∃e,e=o/\Sub s' (ofG 18 (kS e []),(kA e [])))) ?_ ?_
 ·refine Uc (fun M s=> ∃(d:List Int) (b:Int),s=(ofG 18 (kS d (kAS (a.length:Int) b [])),(kA d []))/\zx a M d b=some o) ?_ (m:=N) ⟨_,_,rfl,g6⟩;rintro M s ⟨d,b,rfl,g6⟩
  cases M with
  |zero=>simp only[zx]at g6;cases g6
  |succ M=>
   rw[zx]at g6;refine sh fol (kS d (kAS (a.length:Int) b (kA1 (decide (b<(a.length:Int)))))) ?_;refine sq ?_;refine ihD g6 (fun p g6=>?_) (fun p g6=>?_)
   ·refine Goes.skip ?_;refine sq (Goes.block ?_);refine sh fol (kS d ((4,.i b)::(kAS (a.length:Int) b []))) ?_;obtain⟨q,f,g6⟩:=bnd g6;obtain⟨g,j,g6⟩:=bnd g6;refine gq fol [3,4] (kS d (kAS (a.length:Int) b [])) (kA g []) (ac (hs (.done (.opt (qo ZT 22 (.slice 0 0 d.length d.length 1) (.i b))) (.ptr 0 ((b:Int).toNat*1+0))) (yX qP f)) (ac (hs (.run [0] (qA ZT 3 (.ptr 0 ((b:Int).toNat*1+0)) (.i b)) (kA d []) .undef (kA g []) true) (qbl (E:=encI) (l:=d) (y:=b) rfl (show _=some 1 by kernel_rfl) rfl f rfl rfl rfl rfl rfl j rfl)) az)) ?_;refine Goes.sub (show Sub (ofG 18 (kS d (kAS (a.length:Int) b [])),(kA g [])) (ofG 18 (kS g (kAS (a.length:Int) b [])),(kA g []))from(Sub.norm [] [some 0] (by rw[hB];rfl) rfl (.keep (.sliceE rfl (vS j)) (.keep (.same nI) (.keep (.same nI) .nil))) (.ks .nil))) ?_;refine gh fol (kS g (kAS (a.length:Int) (w64 (b+1)) [])) ?_;exact⟨M,(ofG 18 (kS g (kAS (a.length:Int) (w64 (b+1)) [])),(kA g [])),Nat.lt_succ_self _,(Sub.refl _),_,_,rfl,g6⟩
   refine Goes.exit ?_;obtain rfl:=si g6;exact⟨rfl,_,rfl,(Sub.keep [3] rfl rfl)⟩
 rintro x s' ⟨rfl,e,rfl,hsub⟩;refine Goes.sub hsub ?_;refine sh fol [(2,.slice 0 0 e.length e.length 1)] ?_;refine Goes.ret ?_;obtain rfl:=si h;exact(gh2 [.slice 0 0 e.length e.length 1] (qbz.refl _ _))
def vH (a:Int) (b:List Int):Option Unit:=
 some ()
theorem qaW (a:Int) (b:List Int) (h:vH a b=some ()):qf ZT (.fn 135) (.i a::(kAn b)) [] (.func (.func 183) [] [.ptr 0 0,.ptr 1 0]) (kE a b []):=by
 unfold vH at h;refine Un Tryz.func135 rfl rfl (m:=6) rfl (rs:=[.tmp 4]) rfl (l:=(kI a b [])) rfl ?_;intro B hB;refine sg fol (kW (kAv [])) (kE a b []) ?_;refine sh fol [(4,.func (.func 183) [] [.ptr 0 0,.ptr 1 0])] ?_;refine Goes.ret ?_;exact(gh2 [.func (.func 183) [] [.ptr 0 0,.ptr 1 0]] (qbz.refl _ _))
def qba (a:List Int) (e:Int) (b:Int) (c:Int):Option (List Int):=
 (idx a b).bind fun f=>
 (put a b (w64 (f+1))).bind fun d=>
 (idx d c).bind fun g=>
 (put d c (w64 (g-1))).bind fun h=>
 some h
theorem qfQ (c:List Int) (k:Int) (a:Int) (b:Int) {o:List Int} (h:qba c k a b=some o):qf ZT (.rd 0) [.i k,.agg [.i a,.i b]] (.loop .ready none (ofG 30 [(5,.ptr 1 0)]) ql.xp ql.x1 ql.x2::(kB c (kA c []))) (.bool true) (.loop .ready none (ofG 30 [(5,.ptr 1 0)]) ql.xp ql.x1 ql.x2::(kB o (kA o []))):=by
 unfold qba at h;refine Goes.round (m:=30) (l0:=(kAs [])) (l:=(kAs [(13,.i k),(14,.agg [.i a,.i b])])) rfl rfl rfl ?_;intro B hB;refine Us ?_;refine Goes.rg fol (kAs [(7,.ptr 3 0)]) (.loop .ready none (ofG 30 [(5,.ptr 1 0)]) ql.xp ql.x1 ql.x2::(kB c (kA c (kAA a b [])))) ?_;refine⟨_,Sub.refl _,?_⟩;refine⟨_,_,_,_,_,rfl,?_⟩;refine Us ?_;refine Goes.block ?_;obtain⟨x2,e,h⟩:=bnd h;obtain⟨d,g,h⟩:=bnd h;refine sq (gq fol [3,4,6,7] (kAs [(7,.ptr 3 0)]) (.loop .busy none (ofG 30 [(5,.ptr 1 0)]) ql.xp ql.x1 ql.x2::(kB c (kA d (kAA a b [])))) (ac (hs (.done (.opt (qo ZT 22 (.slice 2 0 c.length c.length 1) (.i a))) (.ptr 2 ((a:Int).toNat*1+0))) (yX qP e)) (ac (hs (.run [2] (z8 ZT 3 (.ptr 2 ((a:Int).toNat*1+0))) (.loop .busy none (ofG 30 [(5,.ptr 1 0)]) ql.xp ql.x1 ql.x2::(kB c (kA c (kAA a b [])))) (.i x2) (.loop .busy none (ofG 30 [(5,.ptr 1 0)]) ql.xp ql.x1 ql.x2::(kB c (kA c (kAA a b [])))) false) (qeQ ce3 (E:=encI) (l:=c) rfl rfl e (nl rfl) rfl)) (ac (hs (.done (.opt (qo ZT 22 (.slice 2 0 c.length c.length 1) (.i a))) (.ptr 2 ((a:Int).toNat*1+0))) (yX qP e)) (ac (hs (.run [2] (qA ZT 3 (.ptr 2 ((a:Int).toNat*1+0)) (.i (w64 (x2+1)))) (.loop .busy none (ofG 30 [(5,.ptr 1 0)]) ql.xp ql.x1 ql.x2::(kB c (kA c (kAA a b [])))) .undef (.loop .busy none (ofG 30 [(5,.ptr 1 0)]) ql.xp ql.x1 ql.x2::(kB c (kA d (kAA a b [])))) true) (qbl (E:=encI) (l:=c) (y:=w64 (x2+1)) rfl (show _=some 1 by kernel_rfl) rfl e rfl rfl rfl rfl rfl g rfl)) az)))) ?_);refine Goes.sub (show Sub (ofG 30 (kAs [(7,.ptr 3 0)]),(.loop .busy none (ofG 30 [(5,.ptr 1 0)]) ql.xp ql.x1 ql.x2::(kB c (kA d (kAA a b []))))) (ofG 30 (kAs [(7,.ptr 3 0)]),(.loop .busy none (ofG 30 [(5,.ptr 1 0)]) ql.xp ql.x1 ql.x2::(kB d (kA d (kAA a b [])))))from(Sub.norm [] [some 0,some 1,some 2,some 3] (by rw[hB];rfl) rfl (.kp (.kp .nil)) (.kb rfl (.loop rfl (.kp .nil)) (.kb rfl (.cells (rc (.sliceE rfl (vS g)) rn)) (.ks (.kb rfl (.same sn) .nil)))))) ?_;obtain⟨p,f,h⟩:=bnd h;obtain⟨n,j,h⟩:=bnd h;refine gq fol [3,4,6,7] [] (.loop .busy none (ofG 30 [(5,.ptr 1 0)]) ql.xp ql.x1 ql.x2::(kB d (kA n (kAA a b [])))) (ac (hs (.done (.opt (qo ZT 22 (.slice 2 0 d.length d.length 1) (.i b))) (.ptr 2 ((b:Int).toNat*1+0))) (yX qP f)) (ac (hs (.run [2] (z8 ZT 3 (.ptr 2 ((b:Int).toNat*1+0))) (.loop .busy none (ofG 30 [(5,.ptr 1 0)]) ql.xp ql.x1 ql.x2::(kB d (kA d (kAA a b [])))) (.i p) (.loop .busy none (ofG 30 [(5,.ptr 1 0)]) ql.xp ql.x1 ql.x2::(kB d (kA d (kAA a b [])))) false) (qeQ ce3 (E:=encI) (l:=d) rfl rfl f (nl rfl) rfl)) (ac (hs (.done (.opt (qo ZT 22 (.slice 2 0 d.length d.length 1) (.i b))) (.ptr 2 ((b:Int).toNat*1+0))) (yX qP f)) (ac (hs (.run [2] (qA ZT 3 (.ptr 2 ((b:Int).toNat*1+0)) (.i (w64 (p-1)))) (.loop .busy none (ofG 30 [(5,.ptr 1 0)]) ql.xp ql.x1 ql.x2::(kB d (kA d (kAA a b [])))) .undef (.loop .busy none (ofG 30 [(5,.ptr 1 0)]) ql.xp ql.x1 ql.x2::(kB d (kA n (kAA a b [])))) true) (qbl (E:=encI) (l:=d) (y:=w64 (p-1)) rfl (show _=some 1 by kernel_rfl) rfl f rfl rfl rfl rfl rfl j rfl)) az)))) ?_;obtain rfl:=si h;exact⟨_,(show Sub (ofG 30 [],(.loop .busy none (ofG 30 [(5,.ptr 1 0)]) ql.xp ql.x1 ql.x2::(kB d (kA n (kAA a b []))))) (ofG 30 [],(.loop .busy none (ofG 30 [(5,.ptr 1 0)]) ql.xp ql.x1 ql.x2::(kB n (kA n []))))from(Sub.norm [] [some 0,some 1,some 2] (by rw[hB];rfl) rfl .nil (.kb rfl (.loop rfl (.kp .nil)) (.kb rfl (.cells (rc (.sliceE rfl (vS j)) rn)) (.ks .nil))))),⟨_,_,rfl,(qbz.refl _ _)⟩⟩
def kw (b:List Int):Nat->(List Int)->(List Int)->Int->Option (List Int)
 |0,_,_,_=>none
 |K+1,k,g,h=>
  if h<(b.length:Int)then
  (idx b h).bind fun c=>
  (xc c).bind fun a=>
  (idx g (w64 (a-1))).bind fun d=>
  (idx g (w64 ((w64 (a-1))+1))).bind fun e=>
  (qba k c d e).bind fun i=>
  (put g (w64 (a-1)) e).bind fun f=>
  (idx f (w64 ((w64 (a-1))+1))).bind fun l=>
  (put f (w64 ((w64 (a-1))+1)) d).bind fun j=>
  kw b K i j (w64 (h+1))
  else
  some k
def vU (N:Nat) (a:List Int) (b:Int) (c:List Int):Option (List Int):=
 (jc N b).bind fun d=>
 (kw c N a d 0).bind fun e=>
 some e
theorem qcz (N:Nat) (n:List Int) (d:Int) (a:List Int) {J:List Int} (h:vU N n d a=some J):qf ZT (.fn 183) [.yld 0,.ptr 3 0,.ptr 4 0] (.loop .ready none (ofG 30 [(5,.ptr 1 0)]) ql.xp ql.x1 ql.x2::(kB n (kA n (kE d a [])))) (.tuple []) (.loop .ready none (ofG 30 [(5,.ptr 1 0)]) ql.xp ql.x1 ql.x2::(kB J (kA J (kE d a [])))):=by
 unfold vU at h;refine Un Tryz.func183 rfl rfl (m:=50) rfl (rs:=[]) rfl (l:=[(0,.yld 0),(1,.ptr 3 0),(2,.ptr 4 0)]) rfl ?_;intro B hB;refine Us ?_;obtain⟨G,H,h⟩:=bnd h;refine sq (gq fol [1] ((0,.yld 0)::(2,.ptr 4 0)::(kAO G [])) (.loop .ready none (ofG 30 [(5,.ptr 1 0)]) ql.xp ql.x1 ql.x2::(kB n (kA n (kE d a (kA G []))))) (ac (hs (.callH 106 [.i d] (.loop .ready none (ofG 30 [(5,.ptr 1 0)]) ql.xp ql.x1 ql.x2::(kB n (kA n (kE d a [])))) [] (.slice 5 0 G.length G.length 1) (.loop .ready none (ofG 30 [(5,.ptr 1 0)]) ql.xp ql.x1 ql.x2::(kB n (kA n (kE d a (kA G [])))))) (qab [] [none,none,none,none,none,some 0] (xL N d H) .nil rfl rfl (.old rfl rfl (.old rfl rfl (.old rfl rfl (.old rfl rfl (.old rfl rfl (.new rfl rfl (.same fa) rfl .nil)))))) (rc (.same nI) rn) (.slice rfl) rfl)) az) ?_);refine sh fol ((0,.yld 0)::(kAO G [(10,vl encI a),(11,.i (a.length:Int)),(12,.i 0)])) ?_;refine Goes.block ?_;obtain⟨K,g8,h⟩:=bnd h;refine Goes.imp (Q:=fun x s'=>(x= .exit 0/\ ∃I,I=K/\Sub s' (ofG 50 [],(.loop .ready none (ofG 30 [(5,.ptr 1 0)]) ql.xp ql.x1 ql.x2::(kB I (kA I (kE d a []))))))) ?_ ?_
 ·refine Uc (fun M s=> ∃(p:List Int) (g:List Int) (q:Int),s=(ofG 50 ((0,.yld 0)::(kM g a (a.length:Int) q [])),(.loop .ready none (ofG 30 [(5,.ptr 1 0)]) ql.xp ql.x1 ql.x2::(kB p (kA p (kE d a (kA g []))))))/\kw a M p g q=some K) ?_ (m:=N) ⟨_,_,_,rfl,g8⟩;rintro M s ⟨p,g,q,rfl,g8⟩
  cases M with
  |zero=>simp only[kw]at g8;cases g8
  |succ M=>
   rw[kw]at g8;refine sh fol ((0,.yld 0)::(kM g a (a.length:Int) q (kA2 (decide (q<(a.length:Int)))))) ?_;refine sq ?_;refine ihD g8 (fun L g8=>?_) (fun L g8=>?_)
   ·refine Goes.skip ?_;refine sq (Goes.block ?_);obtain⟨u,v,g8⟩:=bnd g8;refine sq (gr fol [0,1] ((0,.yld 0)::(kAO g ((6,.i u)::(10,vl encI a)::(kAe (a.length:Int) q)))) (ac (iv qP encI v) (ac (lv 0 ce3 encI v rfl) az)) ?_);obtain⟨f,A,g8⟩:=bnd g8;refine sq (gr fol [1] ((0,.yld 0)::(kAO g ((6,.i u)::(7,.i (w64 (f-1)))::(10,vl encI a)::(kAe (a.length:Int) q)))) (ac (cv (qbI u A)) az) ?_);refine sq ?_;obtain⟨r,j,g8⟩:=bnd g8;obtain⟨t,k,g8⟩:=bnd g8;obtain⟨e,C,g8⟩:=bnd g8;refine sq (gq fol [4,5,9,10,12] ((0,.yld 0)::(kAO g [(7,.i (w64 (f-1))),(10,vl encI a),(11,.i (a.length:Int)),(12,.i q),(32,.bool false)])) (.loop .ready none (ofG 30 [(5,.ptr 1 0)]) ql.xp ql.x1 ql.x2::(kB e (kA e (kE d a (kA g []))))) (ac (hs (.done (.opt (qo ZT 22 (.slice 5 0 g.length g.length 1) (.i (w64 (f-1))))) (.ptr 5 ((w64 (f-1):Int).toNat*1+0))) (yX qP j)) (ac (hs (.run [5] (z8 ZT 3 (.ptr 5 ((w64 (f-1):Int).toNat*1+0))) (.loop .ready none (ofG 30 [(5,.ptr 1 0)]) ql.xp ql.x1 ql.x2::(kB p (kA p (kE d a (kA g []))))) (.i r) (.loop .ready none (ofG 30 [(5,.ptr 1 0)]) ql.xp ql.x1 ql.x2::(kB p (kA p (kE d a (kA g []))))) false) (qeQ ce3 (E:=encI) (l:=g) rfl rfl j (nl rfl) rfl)) (ac (hs (.done (.opt (qo ZT 22 (.slice 5 0 g.length g.length 1) (.i (w64 ((w64 (f-1))+1))))) (.ptr 5 ((w64 ((w64 (f-1))+1):Int).toNat*1+0))) (yX qP k)) (ac (hs (.run [5] (z8 ZT 3 (.ptr 5 ((w64 ((w64 (f-1))+1):Int).toNat*1+0))) (.loop .ready none (ofG 30 [(5,.ptr 1 0)]) ql.xp ql.x1 ql.x2::(kB p (kA p (kE d a (kA g []))))) (.i t) (.loop .ready none (ofG 30 [(5,.ptr 1 0)]) ql.xp ql.x1 ql.x2::(kB p (kA p (kE d a (kA g []))))) false) (qeQ ce3 (E:=encI) (l:=g) rfl rfl k (nl rfl) rfl)) (ac (hs (.callH (.rd 0) [.i u,.agg [.i r,.i t]] (.loop .ready none (ofG 30 [(5,.ptr 1 0)]) ql.xp ql.x1 ql.x2::(kB p (kA p (kE d a (kA g []))))) [0,1,2] (.bool true) (.loop .ready none (ofG 30 [(5,.ptr 1 0)]) ql.xp ql.x1 ql.x2::(kB e (kA e (kE d a (kA g [])))))) (qpL [some 0,some 1,some 2] [some 0,some 1,some 2,none,none,none] (qfQ p u r t C) rfl (.kb rfl (.loop rfl (.kp .nil)) (.kb rfl (.cells (rc (.slice rfl) rn)) (.ks .nil))) rfl rfl (.back rfl rfl (.loop rfl (.kp .nil)) rfl (.back rfl rfl (.cells (rc (.slice rfl) rn)) rfl (.back rfl rfl (.same fa) rfl (.old rfl rfl (.old rfl rfl (.old rfl rfl .nil)))))) (rc (.same nI) (rc (.same (qD.agg sn)) rn)) (.same nB) rfl)) az))))) ?_);refine Goes.ifB (b:=false) (by kernel_rfl) (fun c=>(by cases c)) (fun _=>?_);refine Goes.skip ?_;obtain⟨D,w,g8⟩:=bnd g8;obtain⟨O,F,g8⟩:=bnd g8;obtain⟨o,z,g8⟩:=bnd g8;refine gq fol [8,9,12,13,14,15,16,17] ((0,.yld 0)::(kM g a (a.length:Int) q [])) (.loop .ready none (ofG 30 [(5,.ptr 1 0)]) ql.xp ql.x1 ql.x2::(kB e (kA e (kE d a (kA o []))))) (ac (hs (.done (.opt (qo ZT 22 (.slice 5 0 g.length g.length 1) (.i (w64 ((w64 (f-1))+1))))) (.ptr 5 ((w64 ((w64 (f-1))+1):Int).toNat*1+0))) (yX qP k)) (ac (hs (.run [5] (z8 ZT 3 (.ptr 5 ((w64 ((w64 (f-1))+1):Int).toNat*1+0))) (.loop .ready none (ofG 30 [(5,.ptr 1 0)]) ql.xp ql.x1 ql.x2::(kB e (kA e (kE d a (kA g []))))) (.i t) (.loop .ready none (ofG 30 [(5,.ptr 1 0)]) ql.xp ql.x1 ql.x2::(kB e (kA e (kE d a (kA g []))))) false) (qeQ ce3 (E:=encI) (l:=g) rfl rfl k (nl rfl) rfl)) (ac (hs (.done (.opt (qo ZT 22 (.slice 5 0 g.length g.length 1) (.i (w64 (f-1))))) (.ptr 5 ((w64 (f-1):Int).toNat*1+0))) (yX qP j)) (ac (hs (.run [5] (z8 ZT 3 (.ptr 5 ((w64 (f-1):Int).toNat*1+0))) (.loop .ready none (ofG 30 [(5,.ptr 1 0)]) ql.xp ql.x1 ql.x2::(kB e (kA e (kE d a (kA g []))))) (.i r) (.loop .ready none (ofG 30 [(5,.ptr 1 0)]) ql.xp ql.x1 ql.x2::(kB e (kA e (kE d a (kA g []))))) false) (qeQ ce3 (E:=encI) (l:=g) rfl rfl j (nl rfl) rfl)) (ac (hs (.done (.opt (qo ZT 22 (.slice 5 0 g.length g.length 1) (.i (w64 (f-1))))) (.ptr 5 ((w64 (f-1):Int).toNat*1+0))) (yX qP j)) (ac (hs (.run [5] (qA ZT 3 (.ptr 5 ((w64 (f-1):Int).toNat*1+0)) (.i t)) (.loop .ready none (ofG 30 [(5,.ptr 1 0)]) ql.xp ql.x1 ql.x2::(kB e (kA e (kE d a (kA g []))))) .undef (.loop .ready none (ofG 30 [(5,.ptr 1 0)]) ql.xp ql.x1 ql.x2::(kB e (kA e (kE d a (kA D []))))) true) (qbl (E:=encI) (l:=g) (y:=t) rfl (show _=some 1 by kernel_rfl) rfl j rfl rfl rfl rfl rfl w rfl)) (ac (hs (.done (.opt (qo ZT 22 (.slice 5 0 g.length g.length 1) (.i (w64 ((w64 (f-1))+1))))) (.ptr 5 ((w64 ((w64 (f-1))+1):Int).toNat*1+0))) (yX qP k)) (ac (hs (.run [5] (qA ZT 3 (.ptr 5 ((w64 ((w64 (f-1))+1):Int).toNat*1+0)) (.i r)) (.loop .ready none (ofG 30 [(5,.ptr 1 0)]) ql.xp ql.x1 ql.x2::(kB e (kA e (kE d a (kA D []))))) .undef (.loop .ready none (ofG 30 [(5,.ptr 1 0)]) ql.xp ql.x1 ql.x2::(kB e (kA e (kE d a (kA o []))))) true) (qbl (E:=encI) (l:=D) (y:=r) rfl (show _=some 1 by kernel_rfl) rfl F rfl rfl rfl rfl rfl z rfl)) az)))))))) ?_;refine Goes.sub (show Sub (ofG 50 ((0,.yld 0)::(kM g a (a.length:Int) q [])),(.loop .ready none (ofG 30 [(5,.ptr 1 0)]) ql.xp ql.x1 ql.x2::(kB e (kA e (kE d a (kA o [])))))) (ofG 50 ((0,.yld 0)::(kM o a (a.length:Int) q [])),(.loop .ready none (ofG 30 [(5,.ptr 1 0)]) ql.xp ql.x1 ql.x2::(kB e (kA e (kE d a (kA o []))))))from(Sub.norm [] [some 0,some 1,some 2,some 3,some 4,some 5] (by rw[hB];rfl) rfl (.keep (.yld rfl) (.keep (.sliceE rfl ((vS w).trans (vS z))) (.keep (.same (qw encI _)) (.keep (.same nI) (.keep (.same nI) .nil))))) (.kb rfl (.loop rfl (.kp .nil)) (.kb rfl (.cells (rc (.slice rfl) rn)) (.ks (.kb rfl (.same sn) (.kb rfl (.same sn) (.ks .nil)))))))) ?_;refine gh fol ((0,.yld 0)::(kM o a (a.length:Int) (w64 (q+1)) [])) ?_;exact⟨M,(ofG 50 ((0,.yld 0)::(kM o a (a.length:Int) (w64 (q+1)) [])),(.loop .ready none (ofG 30 [(5,.ptr 1 0)]) ql.xp ql.x1 ql.x2::(kB e (kA e (kE d a (kA o [])))))),Nat.lt_succ_self _,(Sub.refl _),_,_,_,rfl,g8⟩
   refine Goes.exit ?_;obtain rfl:=si g8;exact⟨rfl,_,rfl,(Sub.norm [] [some 0,some 1,some 2,some 3,some 4] (by rw[hB];rfl) rfl .nil (.kb rfl (.loop rfl (.kp .nil)) (.kb rfl (.cells (rc (.slice rfl) rn)) (.ks (.kb rfl (.same sn) (.kb rfl (.same sn) .nil))))))⟩
 rintro x s' ⟨rfl,I,rfl,hsub⟩;obtain rfl:=si h;exact⟨_,hsub,(gh2 [] (qbz.refl _ _))⟩
def qbZ (N:Nat) (n:Int) (w:List Int):Option (List Int):=
 (jc N n).bind fun a=>
 (vH n w).bind fun _=>
 (vU N a n w).bind fun b=>
 some b
theorem qhP (N:Nat) (n:Int) (w:List Int) {res:List Int} (h:qbZ N n w=some res):qf ZT (.fn 71) (.i n::(kAn w)) [] (vl encI res) []:=by
 unfold qbZ at h;refine Ub Tryz.func71 rfl rfl (m:=30) rfl (rs:=[.tmp 4]) rfl (l:=(kI n w [])) rfl ?_;refine sh fol (kI n w []) ?_;obtain⟨a,c,h⟩:=bnd h;refine sq (gq fol [1] (kI n w (kAs [])) (kA a (kAD a [])) (ac (hs (.callH 106 [.i n] [] [] (.slice 0 0 a.length a.length 1) (kA a [])) (qab [] [some 0] (xL N n c) .nil rfl rfl (.new rfl rfl (.same fa) rfl .nil) (rc (.same nI) rn) (.slice rfl) rfl)) az) ?_);refine sq ?_;obtain⟨_,d,h⟩:=bnd h;refine sq (gq fol [2] (kAs [(12,.func (.func 183) [] [.ptr 2 0,.ptr 3 0])]) (kA a (kAD a (kE n w []))) (ac (hs (.callH 135 (.i n::(kAn w)) (kA a (kAD a [])) [] (.func (.func 183) [] kBA) (kA a (kAD a (kE n w [])))) (qab [] [none,none,some 0,some 1] (qaW n w d) .nil rfl rfl (.old rfl rfl (.old rfl rfl (.new rfl rfl (.cells (rc (.same nI) rn)) rfl (.new rfl rfl (.cells (rc (.same (qw encI _)) rn)) rfl .nil)))) (rc (.same nI) (rc (.same (qw encI _)) rn)) (.funcL (sn) (rc (.ptr rfl) (rc (.ptr rfl) rn))) rfl)) az) ?_);refine Goes.block ?_;obtain⟨b,e,h⟩:=bnd h;refine Goes.range fol rfl (gf:=183) (first:=[]) (captured:=kBA) (v:= .tuple []) (A2:=(kA b (kAD b (kE n w [.loop .ready none (ofG 30 [(5,.ptr 1 0)]) ql.xp ql.x1 ql.x2])))) (s':=(ofG 30 (kAs [(12,.func (.func 183) [] [.ptr 2 0,.ptr 3 0])]),(kA b (kAD b (kE n w [.loop .exhausted none (ofG 30 [(5,.ptr 1 0)]) ql.xp ql.x1 ql.x2]))))) (x:= .normal) (by kernel_rfl) (by kernel_rfl) (qj7 (show(Obl.callH 183 (.yld 4::kBA) (kA a (kAD a (kE n w [.loop .ready none (ofG 30 [(5,.ptr 1 0),(12,.func (.func 183) [] [.ptr 2 0,.ptr 3 0])]) ql.xp ql.x1 ql.x2]))) [4,1,0,2,3] (.tuple []) (kA b (kAD b (kE n w [.loop .ready none (ofG 30 [(5,.ptr 1 0)]) ql.xp ql.x1 ql.x2])))).Holds ZT from qab [some 4,some 1,some 0,some 2,some 3] [some 2,some 1,some 3,some 4,some 0] (qcz N a n w e) (.kb rfl (.loop rfl (.kp (.drop .nil))) (.kb rfl (.cells (rc (.slice rfl) rn)) (.ks (.kb rfl (.cells (rc (.same nI) rn)) (.kb rfl (.cells (rc (.same (qw encI _)) rn)) .nil))))) rfl rfl (.back rfl rfl (.same fa) rfl (.back rfl rfl (.cells (rc (.slice rfl) rn)) rfl (.back rfl rfl (.cells (rc (.same nI) rn)) rfl (.back rfl rfl (.cells (rc (.same (qw encI _)) rn)) rfl (.back rfl rfl (.loop rfl (.kp .nil)) rfl .nil))))) (rc (.yld rfl) (rc (.ptr rfl) (rc (.ptr rfl) rn))) (.same (qD.tuple sn)) rfl)) (by kernel_rfl) ?_;refine Goes.sub (show Sub (ofG 30 (kAs [(12,.func (.func 183) [] [.ptr 2 0,.ptr 3 0])]),(kA b (kAD b (kE n w [.loop .exhausted none (ofG 30 [(5,.ptr 1 0)]) ql.xp ql.x1 ql.x2])))) (ofG 30 [(5,.ptr 0 0),(12,.func (.func 183) [] [.ptr 2 0,.ptr 3 0])],(kN b (kA b (kE n w []))))from(Sub.norm [] [some 1,some 0,some 2,some 3] rfl rfl (.kp (.keep (.funcL (sn) (rc (.ptr rfl) (rc (.ptr rfl) rn))) .nil)) (.kb rfl (.cells (rc (.slice rfl) rn)) (.ks (.kb rfl (.same sn) (.kb rfl (.same sn) .nil)))))) ?_;refine sh fol [(4,.slice 1 0 b.length b.length 1)] ?_;refine Goes.ret ?_;obtain rfl:=si h;exact(gw2 [.slice 1 0 b.length b.length 1] (Ux (Fz.sl (E:=encI) rfl rfl (nl rfl))))
def xA (N:Nat) (n:Int) (w:List Int):Option ((List Int)×Int):=
 (qY N n w).bind fun a=>
 if(!decide (a=0))=true then
 some ([],a)
 else
 (qbZ N n w).bind fun b=>
 some (b,0)
theorem qbd (N:Nat) (n:Int) (w:List Int) {res:(List Int)×Int} (h:xA N n w=some res):qf ZT (.fn 26) (.i n::(kAn w)) [] (.tuple (kA4 res.1 res.2)) []:=by
 unfold xA at h;refine Ub Tryz.func26 rfl rfl (m:=16) rfl (rs:=[.tmp 4,.tmp 5]) rfl (l:=(kI n w [])) rfl ?_;refine sh fol (kI n w []) ?_;refine sq ?_;obtain⟨a,b,h⟩:=bnd h;refine sq (gr fol [2] (kI n w [(6,.i a)]) (ac (cv (ze N n w b)) az) ?_);refine sh fol (kI n w [(6,.i a),(11,.bool (!decide (a=0)))]) ?_;refine ihB h (fun e h=>?_) (fun e h=>?_)
 ·refine sh fol ((4,.nilslice)::(kAr a)) ?_;refine Goes.ret ?_;obtain rfl:=si h;exact(gw2 [.nilslice,.i a] (FzW.tuple (qh.cons (FzW.nilv (E:=encI)) (qh.cons (Ua tI) qh.nil))))
 refine Goes.skip ?_;obtain⟨d,c,h⟩:=bnd h;refine sq (gr fol [2] [(4,vl encI d),(5,.i 0)] (ac (cv (qhP N n w c)) az) ?_);refine Goes.ret ?_;obtain rfl:=si h;exact(gw2 [vl encI d,.i 0] (FzW.tuple (qh.cons (Ua (qE encI _ (nl rfl))) (qh.cons (Ua tI) qh.nil))))
def yo (a:Int):Option Int:=
 some (if(if a<1 then a else 1)>(-1)then(if a<1 then a else 1)else(-1))
theorem qbf (a:Int) {res:Int} (h:yo a=some res):qf ZT (.fn 91) [.i a] [] (.i res) []:=by
 unfold yo at h;refine Ub Tryz.func91 rfl rfl (m:=6) rfl (rs:=[.tmp 2]) rfl (l:=[(0,.i a)]) rfl ?_;refine sh fol [(0,.i a)] ?_;refine sh fol (kAx (if(if a<1 then a else 1)>(-1)then(if a<1 then a else 1)else(-1))) ?_;refine Goes.ret ?_;obtain rfl:=si h;exact(gw2 [.i (if(if a<1 then a else 1)>(-1)then(if a<1 then a else 1)else(-1))] (Ua tI))
def qah (c:List (List Int)) (d:Int) (a:Int) (b:Int):Option (List (List Int)):=
 (idx c a).bind fun g=>
 (idx g b).bind fun j=>
 (yo d).bind fun k=>
 (put g b (w64 (j+k))).bind fun h=>
 (idx (qO c a h) b).bind fun i=>
 (idx i a).bind fun l=>
 (yo d).bind fun e=>
 (put i a (w64 (l+e))).bind fun f=>
 some (qO (qO c a h) b f)
theorem qfC (d:List (List Int)) (j:Int) (a:Int) (e:Int) {z:List (List Int)} (h:qah d j a e=some z):qf ZT (.rd 0) [.i j,.agg [.i a,.i e]] (.loop .ready none (ofG 54 [(5,.ptr 1 0)]) qg.xp qg.x1 qg.x2::(kB d [bg encI d])) (.bool true) (.loop .ready none (ofG 54 [(5,.ptr 1 0)]) qg.xp qg.x1 qg.x2::(kB z [bg encI z])):=by
 unfold qah at h;refine Goes.round (m:=54) (l0:=(kAs [])) (l:=(kAs [(25,.i j),(26,.agg [.i a,.i e])])) rfl rfl rfl ?_;intro B hB;refine Us ?_;refine sh fol (kAs [(7,.i j),(26,.agg [.i a,.i e])]) ?_;refine Goes.rg fol (kAP j) (.loop .ready none (ofG 54 [(5,.ptr 1 0)]) qg.xp qg.x1 qg.x2::(kB d (bg encI d::(kAA a e [])))) ?_;refine⟨_,Sub.refl _,?_⟩;refine⟨_,_,_,_,_,rfl,?_⟩;refine Us ?_;refine Goes.block ?_;obtain⟨k,p,h⟩:=bnd h;refine sq (Goes.sub (s':=(ofG 54 (kAP j),(.loop .busy none (ofG 54 [(5,.ptr 1 0)]) qg.xp qg.x1 qg.x2::(kB d (.bag ((d.map (zA encI)).set (a:Int).toNat (.av (.gslice 4 k.length 1)))::(kAA a e (kA k []))))))) (Uu (E:=encI) (b:=2) rfl p) ?_);obtain⟨A,q,h⟩:=bnd h;obtain⟨D,w,h⟩:=bnd h;obtain⟨f,u,h⟩:=bnd h;refine gq fol [3,4,7,8,10,12,13] (kAP j) (.loop .busy none (ofG 54 [(5,.ptr 1 0)]) qg.xp qg.x1 qg.x2::(kB d (.bag ((d.map (zA encI)).set (a:Int).toNat (.av (.gslice 4 k.length 1)))::(kAA a e (kA f []))))) (ac (hs (.done (.opt (qo ZT 33 (.slice 2 0 d.length d.length 1) (.i a))) (.ptr 2 ((a:Int).toNat*1+0))) (yX qbO p)) (ac (hs (.run [2] (z8 ZT 22 (.ptr 2 ((a:Int).toNat*1+0))) (.loop .busy none (ofG 54 [(5,.ptr 1 0)]) qg.xp qg.x1 qg.x2::(kB d (.bag ((d.map (zA encI)).set (a:Int).toNat (.av (.gslice 4 k.length 1)))::(kAA a e (kA k []))))) (.gslice 4 k.length 1) (.loop .busy none (ofG 54 [(5,.ptr 1 0)]) qg.xp qg.x1 qg.x2::(kB d (.bag ((d.map (zA encI)).set (a:Int).toNat (.av (.gslice 4 k.length 1)))::(kAA a e (kA k []))))) false) (qiI qci rfl (at_set p))) (ac (hs (.done (.opt (qo ZT 22 (.gslice 4 k.length 1) (.i e))) (.ptr 4 ((e:Int).toNat*1+0))) (qb3 qP q)) (ac (hs (.run [4] (z8 ZT 3 (.ptr 4 ((e:Int).toNat*1+0))) (.loop .busy none (ofG 54 [(5,.ptr 1 0)]) qg.xp qg.x1 qg.x2::(kB d (.bag ((d.map (zA encI)).set (a:Int).toNat (.av (.gslice 4 k.length 1)))::(kAA a e (kA k []))))) (.i A) (.loop .busy none (ofG 54 [(5,.ptr 1 0)]) qg.xp qg.x1 qg.x2::(kB d (.bag ((d.map (zA encI)).set (a:Int).toNat (.av (.gslice 4 k.length 1)))::(kAA a e (kA k []))))) false) (qeQ ce3 (E:=encI) (l:=k) rfl rfl q (nl rfl) rfl)) (ac (cv (qbf j w)) (ac (hs (.done (.opt (qo ZT 22 (.gslice 4 k.length 1) (.i e))) (.ptr 4 ((e:Int).toNat*1+0))) (qb3 qP q)) (ac (hs (.run [4] (qA ZT 3 (.ptr 4 ((e:Int).toNat*1+0)) (.i (w64 (A+D)))) (.loop .busy none (ofG 54 [(5,.ptr 1 0)]) qg.xp qg.x1 qg.x2::(kB d (.bag ((d.map (zA encI)).set (a:Int).toNat (.av (.gslice 4 k.length 1)))::(kAA a e (kA k []))))) .undef (.loop .busy none (ofG 54 [(5,.ptr 1 0)]) qg.xp qg.x1 qg.x2::(kB d (.bag ((d.map (zA encI)).set (a:Int).toNat (.av (.gslice 4 k.length 1)))::(kAA a e (kA f []))))) true) (qbl (E:=encI) (l:=k) (y:=w64 (A+D)) rfl (show _=some 1 by kernel_rfl) rfl q rfl rfl rfl rfl rfl u rfl)) az))))))) ?_;refine Goes.sub ((show Sub (ofG 54 (kAP j),(.loop .busy none (ofG 54 [(5,.ptr 1 0)]) qg.xp qg.x1 qg.x2::(kB d (.bag ((d.map (zA encI)).set (a:Int).toNat (.av (.gslice 4 k.length 1)))::(kAA a e (kA f [])))))) (ofG 54 (kAP j),(.loop .busy none (ofG 54 [(5,.ptr 1 0)]) qg.xp qg.x1 qg.x2::(kB d (bg encI (qO d a f)::(kAA a e [.dead])))))from(Uo (E:=encI) (b:=2) (c:=4) (Nat.ne_of_beq_eq_false rfl) rfl rfl p .g (vS u))).trans (show Sub (ofG 54 (kAP j),(.loop .busy none (ofG 54 [(5,.ptr 1 0)]) qg.xp qg.x1 qg.x2::(kB d (bg encI (qO d a f)::(kAA a e [.dead]))))) (ofG 54 (kAP j),(.loop .busy none (ofG 54 [(5,.ptr 1 0)]) qg.xp qg.x1 qg.x2::(kB (qO d a f) (bg encI (qO d a f)::(kAA a e [])))))from(Sub.norm [] [some 0,some 1,some 2,some 3] (by rw[hB];rfl) rfl (.kp (.keep (.same nI) (.kp .nil))) (.kb rfl (.loop rfl (.kp .nil)) (.kb rfl (.cells (rc (.sliceE rfl (qcg _ _ _)) rn)) (.kb rfl jY.bgs (.kb rfl (.same sn) .nil))))))) ?_;obtain⟨n,r,h⟩:=bnd h;refine Goes.sub (s':=(ofG 54 (kAP j),(.loop .busy none (ofG 54 [(5,.ptr 1 0)]) qg.xp qg.x1 qg.x2::(kB (qO d a f) (.bag (((qO d a f).map (zA encI)).set (e:Int).toNat (.av (.gslice 4 n.length 1)))::(kAA a e (kA n []))))))) (Uu (E:=encI) (b:=2) rfl r) ?_;obtain⟨C,s,h⟩:=bnd h;obtain⟨x,v,h⟩:=bnd h;obtain⟨o,t,h⟩:=bnd h;refine gq fol [3,4,7,8,10,12,13] [] (.loop .busy none (ofG 54 [(5,.ptr 1 0)]) qg.xp qg.x1 qg.x2::(kB (qO d a f) (.bag (((qO d a f).map (zA encI)).set (e:Int).toNat (.av (.gslice 4 n.length 1)))::(kAA a e (kA o []))))) (ac (hs (.done (.opt (qo ZT 33 (.slice 2 0 (qO d a f).length (qO d a f).length 1) (.i e))) (.ptr 2 ((e:Int).toNat*1+0))) (yX qbO r)) (ac (hs (.run [2] (z8 ZT 22 (.ptr 2 ((e:Int).toNat*1+0))) (.loop .busy none (ofG 54 [(5,.ptr 1 0)]) qg.xp qg.x1 qg.x2::(kB (qO d a f) (.bag (((qO d a f).map (zA encI)).set (e:Int).toNat (.av (.gslice 4 n.length 1)))::(kAA a e (kA n []))))) (.gslice 4 n.length 1) (.loop .busy none (ofG 54 [(5,.ptr 1 0)]) qg.xp qg.x1 qg.x2::(kB (qO d a f) (.bag (((qO d a f).map (zA encI)).set (e:Int).toNat (.av (.gslice 4 n.length 1)))::(kAA a e (kA n []))))) false) (qiI qci rfl (at_set r))) (ac (hs (.done (.opt (qo ZT 22 (.gslice 4 n.length 1) (.i a))) (.ptr 4 ((a:Int).toNat*1+0))) (qb3 qP s)) (ac (hs (.run [4] (z8 ZT 3 (.ptr 4 ((a:Int).toNat*1+0))) (.loop .busy none (ofG 54 [(5,.ptr 1 0)]) qg.xp qg.x1 qg.x2::(kB (qO d a f) (.bag (((qO d a f).map (zA encI)).set (e:Int).toNat (.av (.gslice 4 n.length 1)))::(kAA a e (kA n []))))) (.i C) (.loop .busy none (ofG 54 [(5,.ptr 1 0)]) qg.xp qg.x1 qg.x2::(kB (qO d a f) (.bag (((qO d a f).map (zA encI)).set (e:Int).toNat (.av (.gslice 4 n.length 1)))::(kAA a e (kA n []))))) false) (qeQ ce3 (E:=encI) (l:=n) rfl rfl s (nl rfl) rfl)) (ac (cv (qbf j v)) (ac (hs (.done (.opt (qo ZT 22 (.gslice 4 n.length 1) (.i a))) (.ptr 4 ((a:Int).toNat*1+0))) (qb3 qP s)) (ac (hs (.run [4] (qA ZT 3 (.ptr 4 ((a:Int).toNat*1+0)) (.i (w64 (C+x)))) (.loop .busy none (ofG 54 [(5,.ptr 1 0)]) qg.xp qg.x1 qg.x2::(kB (qO d a f) (.bag (((qO d a f).map (zA encI)).set (e:Int).toNat (.av (.gslice 4 n.length 1)))::(kAA a e (kA n []))))) .undef (.loop .busy none (ofG 54 [(5,.ptr 1 0)]) qg.xp qg.x1 qg.x2::(kB (qO d a f) (.bag (((qO d a f).map (zA encI)).set (e:Int).toNat (.av (.gslice 4 n.length 1)))::(kAA a e (kA o []))))) true) (qbl (E:=encI) (l:=n) (y:=w64 (C+x)) rfl (show _=some 1 by kernel_rfl) rfl s rfl rfl rfl rfl rfl t rfl)) az))))))) ?_;obtain rfl:=si h;exact⟨_,((show Sub (ofG 54 [],(.loop .busy none (ofG 54 [(5,.ptr 1 0)]) qg.xp qg.x1 qg.x2::(kB (qO d a f) (.bag (((qO d a f).map (zA encI)).set (e:Int).toNat (.av (.gslice 4 n.length 1)))::(kAA a e (kA o [])))))) (ofG 54 [],(.loop .busy none (ofG 54 [(5,.ptr 1 0)]) qg.xp qg.x1 qg.x2::(kB (qO d a f) (bg encI (qO (qO d a f) e o)::(kAA a e [.dead])))))from(Uo (E:=encI) (b:=2) (c:=4) (Nat.ne_of_beq_eq_false rfl) rfl rfl r .g (vS t))).trans (show Sub (ofG 54 [],(.loop .busy none (ofG 54 [(5,.ptr 1 0)]) qg.xp qg.x1 qg.x2::(kB (qO d a f) (bg encI (qO (qO d a f) e o)::(kAA a e [.dead]))))) (ofG 54 [],(.loop .busy none (ofG 54 [(5,.ptr 1 0)]) qg.xp qg.x1 qg.x2::(kB (qO (qO d a f) e o) [bg encI (qO (qO d a f) e o)])))from(Sub.norm [] [some 0,some 1,some 2] (by rw[hB];rfl) rfl .nil (.kb rfl (.loop rfl (.kp .nil)) (.kb rfl (.cells (rc (.sliceE rfl (qcg _ _ _)) rn)) (.kb rfl jY.bgs .nil)))))),⟨_,_,rfl,(qbz.refl _ _)⟩⟩
def kr (b:List Int):Nat->(List (List Int))->(List Int)->Int->Option (List (List Int))
 |0,_,_,_=>none
 |K+1,k,g,h=>
  if h<(b.length:Int)then
  (idx b h).bind fun c=>
  (xc c).bind fun a=>
  (idx g (w64 (a-1))).bind fun d=>
  (idx g (w64 ((w64 (a-1))+1))).bind fun e=>
  (qah k c d e).bind fun i=>
  (put g (w64 (a-1)) e).bind fun f=>
  (idx f (w64 ((w64 (a-1))+1))).bind fun l=>
  (put f (w64 ((w64 (a-1))+1)) d).bind fun j=>
  kr b K i j (w64 (h+1))
  else
  some k
def vT (N:Nat) (a:List (List Int)) (b:Int) (c:List Int):Option (List (List Int)):=
 (jc N b).bind fun d=>
 (kr c N a d 0).bind fun e=>
 some e
theorem qcB (N:Nat) (n:List (List Int)) (d:Int) (a:List Int) {J:List (List Int)} (h:vT N n d a=some J):qf ZT (.fn 183) [.yld 0,.ptr 3 0,.ptr 4 0] (.loop .ready none (ofG 54 [(5,.ptr 1 0)]) qg.xp qg.x1 qg.x2::(kB n (bg encI n::(kE d a [])))) (.tuple []) (.loop .ready none (ofG 54 [(5,.ptr 1 0)]) qg.xp qg.x1 qg.x2::(kB J (bg encI J::(kE d a [])))):=by
 unfold vT at h;refine Un Tryz.func183 rfl rfl (m:=50) rfl (rs:=[]) rfl (l:=[(0,.yld 0),(1,.ptr 3 0),(2,.ptr 4 0)]) rfl ?_;intro B hB;refine Us ?_;obtain⟨G,H,h⟩:=bnd h;refine sq (gq fol [1] ((0,.yld 0)::(2,.ptr 4 0)::(kAO G [])) (.loop .ready none (ofG 54 [(5,.ptr 1 0)]) qg.xp qg.x1 qg.x2::(kB n (bg encI n::(kE d a (kA G []))))) (ac (hs (.callH 106 [.i d] (.loop .ready none (ofG 54 [(5,.ptr 1 0)]) qg.xp qg.x1 qg.x2::(kB n (bg encI n::(kE d a [])))) [] (.slice 5 0 G.length G.length 1) (.loop .ready none (ofG 54 [(5,.ptr 1 0)]) qg.xp qg.x1 qg.x2::(kB n (bg encI n::(kE d a (kA G [])))))) (qab [] [none,none,none,none,none,some 0] (xL N d H) .nil rfl rfl (.old rfl rfl (.old rfl rfl (.old rfl rfl (.old rfl rfl (.old rfl rfl (.new rfl rfl (.same fa) rfl .nil)))))) (rc (.same nI) rn) (.slice rfl) rfl)) az) ?_);refine sh fol ((0,.yld 0)::(kAO G [(10,vl encI a),(11,.i (a.length:Int)),(12,.i 0)])) ?_;refine Goes.block ?_;obtain⟨K,g8,h⟩:=bnd h;refine Goes.imp (Q:=fun x s'=>(x= .exit 0/\ ∃I,I=K/\Sub s' (ofG 50 [],(.loop .ready none (ofG 54 [(5,.ptr 1 0)]) qg.xp qg.x1 qg.x2::(kB I (bg encI I::(kE d a []))))))) ?_ ?_
 ·refine Uc (fun M s=> ∃(p:List (List Int)) (g:List Int) (q:Int),s=(ofG 50 ((0,.yld 0)::(kM g a (a.length:Int) q [])),(.loop .ready none (ofG 54 [(5,.ptr 1 0)]) qg.xp qg.x1 qg.x2::(kB p (bg encI p::(kE d a (kA g []))))))/\kr a M p g q=some K) ?_ (m:=N) ⟨_,_,_,rfl,g8⟩;rintro M s ⟨p,g,q,rfl,g8⟩
  cases M with
  |zero=>simp only[kr]at g8;cases g8
  |succ M=>
   rw[kr]at g8;refine sh fol ((0,.yld 0)::(kM g a (a.length:Int) q (kA2 (decide (q<(a.length:Int)))))) ?_;refine sq ?_;refine ihD g8 (fun L g8=>?_) (fun L g8=>?_)
   ·refine Goes.skip ?_;refine sq (Goes.block ?_);obtain⟨u,v,g8⟩:=bnd g8;refine sq (gr fol [0,1] ((0,.yld 0)::(kAO g ((6,.i u)::(10,vl encI a)::(kAe (a.length:Int) q)))) (ac (iv qP encI v) (ac (lv 0 ce3 encI v rfl) az)) ?_);obtain⟨f,A,g8⟩:=bnd g8;refine sq (gr fol [1] ((0,.yld 0)::(kAO g ((6,.i u)::(7,.i (w64 (f-1)))::(10,vl encI a)::(kAe (a.length:Int) q)))) (ac (cv (qbI u A)) az) ?_);refine sq ?_;obtain⟨r,j,g8⟩:=bnd g8;obtain⟨t,k,g8⟩:=bnd g8;obtain⟨e,C,g8⟩:=bnd g8;refine sq (gq fol [4,5,9,10,12] ((0,.yld 0)::(kAO g [(7,.i (w64 (f-1))),(10,vl encI a),(11,.i (a.length:Int)),(12,.i q),(32,.bool false)])) (.loop .ready none (ofG 54 [(5,.ptr 1 0)]) qg.xp qg.x1 qg.x2::(kB e (bg encI e::(kE d a (kA g []))))) (ac (hs (.done (.opt (qo ZT 22 (.slice 5 0 g.length g.length 1) (.i (w64 (f-1))))) (.ptr 5 ((w64 (f-1):Int).toNat*1+0))) (yX qP j)) (ac (hs (.run [5] (z8 ZT 3 (.ptr 5 ((w64 (f-1):Int).toNat*1+0))) (.loop .ready none (ofG 54 [(5,.ptr 1 0)]) qg.xp qg.x1 qg.x2::(kB p (bg encI p::(kE d a (kA g []))))) (.i r) (.loop .ready none (ofG 54 [(5,.ptr 1 0)]) qg.xp qg.x1 qg.x2::(kB p (bg encI p::(kE d a (kA g []))))) false) (qeQ ce3 (E:=encI) (l:=g) rfl rfl j (nl rfl) rfl)) (ac (hs (.done (.opt (qo ZT 22 (.slice 5 0 g.length g.length 1) (.i (w64 ((w64 (f-1))+1))))) (.ptr 5 ((w64 ((w64 (f-1))+1):Int).toNat*1+0))) (yX qP k)) (ac (hs (.run [5] (z8 ZT 3 (.ptr 5 ((w64 ((w64 (f-1))+1):Int).toNat*1+0))) (.loop .ready none (ofG 54 [(5,.ptr 1 0)]) qg.xp qg.x1 qg.x2::(kB p (bg encI p::(kE d a (kA g []))))) (.i t) (.loop .ready none (ofG 54 [(5,.ptr 1 0)]) qg.xp qg.x1 qg.x2::(kB p (bg encI p::(kE d a (kA g []))))) false) (qeQ ce3 (E:=encI) (l:=g) rfl rfl k (nl rfl) rfl)) (ac (hs (.callH (.rd 0) [.i u,.agg [.i r,.i t]] (.loop .ready none (ofG 54 [(5,.ptr 1 0)]) qg.xp qg.x1 qg.x2::(kB p (bg encI p::(kE d a (kA g []))))) [0,1,2] (.bool true) (.loop .ready none (ofG 54 [(5,.ptr 1 0)]) qg.xp qg.x1 qg.x2::(kB e (bg encI e::(kE d a (kA g [])))))) (qpL [some 0,some 1,some 2] [some 0,some 1,some 2,none,none,none] (qfC p u r t C) rfl (.kb rfl (.loop rfl (.kp .nil)) (.kb rfl (.cells (rc (.slice rfl) rn)) (.kb rfl jY.bgs .nil))) rfl rfl (.back rfl rfl (.loop rfl (.kp .nil)) rfl (.back rfl rfl (.cells (rc (.slice rfl) rn)) rfl (.back rfl rfl jY.bgs rfl (.old rfl rfl (.old rfl rfl (.old rfl rfl .nil)))))) (rc (.same nI) (rc (.same (qD.agg sn)) rn)) (.same nB) rfl)) az))))) ?_);refine Goes.ifB (b:=false) (by kernel_rfl) (fun c=>(by cases c)) (fun _=>?_);refine Goes.skip ?_;obtain⟨D,w,g8⟩:=bnd g8;obtain⟨O,F,g8⟩:=bnd g8;obtain⟨o,z,g8⟩:=bnd g8;refine gq fol [8,9,12,13,14,15,16,17] ((0,.yld 0)::(kM g a (a.length:Int) q [])) (.loop .ready none (ofG 54 [(5,.ptr 1 0)]) qg.xp qg.x1 qg.x2::(kB e (bg encI e::(kE d a (kA o []))))) (ac (hs (.done (.opt (qo ZT 22 (.slice 5 0 g.length g.length 1) (.i (w64 ((w64 (f-1))+1))))) (.ptr 5 ((w64 ((w64 (f-1))+1):Int).toNat*1+0))) (yX qP k)) (ac (hs (.run [5] (z8 ZT 3 (.ptr 5 ((w64 ((w64 (f-1))+1):Int).toNat*1+0))) (.loop .ready none (ofG 54 [(5,.ptr 1 0)]) qg.xp qg.x1 qg.x2::(kB e (bg encI e::(kE d a (kA g []))))) (.i t) (.loop .ready none (ofG 54 [(5,.ptr 1 0)]) qg.xp qg.x1 qg.x2::(kB e (bg encI e::(kE d a (kA g []))))) false) (qeQ ce3 (E:=encI) (l:=g) rfl rfl k (nl rfl) rfl)) (ac (hs (.done (.opt (qo ZT 22 (.slice 5 0 g.length g.length 1) (.i (w64 (f-1))))) (.ptr 5 ((w64 (f-1):Int).toNat*1+0))) (yX qP j)) (ac (hs (.run [5] (z8 ZT 3 (.ptr 5 ((w64 (f-1):Int).toNat*1+0))) (.loop .ready none (ofG 54 [(5,.ptr 1 0)]) qg.xp qg.x1 qg.x2::(kB e (bg encI e::(kE d a (kA g []))))) (.i r) (.loop .ready none (ofG 54 [(5,.ptr 1 0)]) qg.xp qg.x1 qg.x2::(kB e (bg encI e::(kE d a (kA g []))))) false) (qeQ ce3 (E:=encI) (l:=g) rfl rfl j (nl rfl) rfl)) (ac (hs (.done (.opt (qo ZT 22 (.slice 5 0 g.length g.length 1) (.i (w64 (f-1))))) (.ptr 5 ((w64 (f-1):Int).toNat*1+0))) (yX qP j)) (ac (hs (.run [5] (qA ZT 3 (.ptr 5 ((w64 (f-1):Int).toNat*1+0)) (.i t)) (.loop .ready none (ofG 54 [(5,.ptr 1 0)]) qg.xp qg.x1 qg.x2::(kB e (bg encI e::(kE d a (kA g []))))) .undef (.loop .ready none (ofG 54 [(5,.ptr 1 0)]) qg.xp qg.x1 qg.x2::(kB e (bg encI e::(kE d a (kA D []))))) true) (qbl (E:=encI) (l:=g) (y:=t) rfl (show _=some 1 by kernel_rfl) rfl j rfl rfl rfl rfl rfl w rfl)) (ac (hs (.done (.opt (qo ZT 22 (.slice 5 0 g.length g.length 1) (.i (w64 ((w64 (f-1))+1))))) (.ptr 5 ((w64 ((w64 (f-1))+1):Int).toNat*1+0))) (yX qP k)) (ac (hs (.run [5] (qA ZT 3 (.ptr 5 ((w64 ((w64 (f-1))+1):Int).toNat*1+0)) (.i r)) (.loop .ready none (ofG 54 [(5,.ptr 1 0)]) qg.xp qg.x1 qg.x2::(kB e (bg encI e::(kE d a (kA D []))))) .undef (.loop .ready none (ofG 54 [(5,.ptr 1 0)]) qg.xp qg.x1 qg.x2::(kB e (bg encI e::(kE d a (kA o []))))) true) (qbl (E:=encI) (l:=D) (y:=r) rfl (show _=some 1 by kernel_rfl) rfl F rfl rfl rfl rfl rfl z rfl)) az)))))))) ?_;refine Goes.sub (show Sub (ofG 50 ((0,.yld 0)::(kM g a (a.length:Int) q [])),(.loop .ready none (ofG 54 [(5,.ptr 1 0)]) qg.xp qg.x1 qg.x2::(kB e (bg encI e::(kE d a (kA o [])))))) (ofG 50 ((0,.yld 0)::(kM o a (a.length:Int) q [])),(.loop .ready none (ofG 54 [(5,.ptr 1 0)]) qg.xp qg.x1 qg.x2::(kB e (bg encI e::(kE d a (kA o []))))))from(Sub.norm [] [some 0,some 1,some 2,some 3,some 4,some 5] (by rw[hB];rfl) rfl (.keep (.yld rfl) (.keep (.sliceE rfl ((vS w).trans (vS z))) (.keep (.same (qw encI _)) (.keep (.same nI) (.keep (.same nI) .nil))))) (.kb rfl (.loop rfl (.kp .nil)) (.kb rfl (.cells (rc (.slice rfl) rn)) (.kb rfl jY.bgs (.kb rfl (.same sn) (.kb rfl (.same sn) (.ks .nil)))))))) ?_;refine gh fol ((0,.yld 0)::(kM o a (a.length:Int) (w64 (q+1)) [])) ?_;exact⟨M,(ofG 50 ((0,.yld 0)::(kM o a (a.length:Int) (w64 (q+1)) [])),(.loop .ready none (ofG 54 [(5,.ptr 1 0)]) qg.xp qg.x1 qg.x2::(kB e (bg encI e::(kE d a (kA o [])))))),Nat.lt_succ_self _,(Sub.refl _),_,_,_,rfl,g8⟩
   refine Goes.exit ?_;obtain rfl:=si g8;exact⟨rfl,_,rfl,(Sub.norm [] [some 0,some 1,some 2,some 3,some 4] (by rw[hB];rfl) rfl .nil (.kb rfl (.loop rfl (.kp .nil)) (.kb rfl (.cells (rc (.slice rfl) rn)) (.kb rfl jY.bgs (.kb rfl (.same sn) (.kb rfl (.same sn) .nil))))))⟩
 rintro x s' ⟨rfl,I,rfl,hsub⟩;obtain rfl:=si h;exact⟨_,hsub,(gh2 [] (qbz.refl _ _))⟩
def yw (n:Int) (c:List (List Int)):Nat->(List (List Int))->Int->Option (List (List Int))
 |0,_,_=>none
 |K+1,b,a=>
  if a<(c.length:Int)then
  (mk 8 n 0).bind fun d=>
  (idx b a).bind fun e=>
  yw n c K (qO b a d) (w64 (a+1))
  else
  some b
def qb0 (N:Nat) (n:Int) (w:List Int):Option (List (List Int)):=
 (mk 24 n ([]:List Int)).bind fun b=>
 (yw n b N b 0).bind fun c=>
 (vH n w).bind fun _=>
 (vT N c n w).bind fun a=>
 some a
theorem qhR (N:Nat) (n:Int) (w:List Int) {res:List (List Int)} (h:qb0 N n w=some res):qf ZT (.fn 72) (.i n::(kAn w)) [] (vl (qc encI) res) []:=by
 unfold qb0 at h;refine Ub Tryz.func72 rfl rfl (m:=54) rfl (rs:=[.tmp 4]) rfl (l:=(kI n w [])) rfl ?_;refine sh fol (kI n w []) ?_;obtain⟨f,o,h⟩:=bnd h;refine sq (gq fol [1] (kI n w (kAs [])) (.cells (f.flatMap (qhN encI).c)::(kAD f [])) (ac (hs (.run [] (jD ZT 33 (.i n) (.i n)) [] (.slice 0 0 f.length f.length 1) [.cells (f.flatMap (qhN encI).c)] false) (qdK qbO (E:=(qhN encI)) (z:=[]) rfl (by kernel_rfl) o rfl)) az) ?_);refine Goes.sub (show Sub (ofG 54 (kI n w (kAs [])),(.cells (f.flatMap (qhN encI).c)::(kAD f []))) (ofG 54 (kI n w (kAs [])),(bg encI f::(kAD f [])))from(Sub.bagNil1 (E:=encI) (b:=0) rfl o)) ?_;refine sq ?_;refine sh fol (kI n w (kAs [(12,.i (f.length:Int)),(13,.i 0)])) ?_;refine Goes.block ?_;obtain⟨t,g5,h⟩:=bnd h;refine Goes.imp (Q:=fun x s'=>(x= .exit 0/\ ∃j,j=t/\Sub s' (ofG 54 (kI n w [(5,.ptr 0 0)]),(kN j [bg encI j])))) ?_ ?_
 ·refine Goes.sub (s':=(ofG 54 (kI n w [(5,.ptr 0 0),(12,.i (f.length:Int)),(13,.i 0)]),(kN f [bg encI f]))) (Sub.norm [] [some 1,some 0] rfl rfl (.keep (.same nI) (.keep (.same (qw encI _)) (.kp (.keep (.same nI) (.keep (.same nI) .nil))))) (.kb rfl (.cells (rc (.slice rfl) rn)) (.kb rfl jY.bgs .nil))) ?_;refine Uc (fun M s=> ∃(d:List (List Int)) (e:Int),s=(ofG 54 (kI n w (kAU (f.length:Int) e)),(kN d [bg encI d]))/\yw n f M d e=some t) ?_ (m:=N) ⟨_,_,rfl,g5⟩;rintro M s ⟨d,e,rfl,g5⟩
  cases M with
  |zero=>simp only[yw]at g5;cases g5
  |succ M=>
   rw[yw]at g5;refine sh fol (kI n w [(5,.ptr 0 0),(12,.i (f.length:Int)),(13,.i e),(14,.bool (decide (e<(f.length:Int))))]) ?_;refine sq ?_;refine ihD g5 (fun u g5=>?_) (fun u g5=>?_)
   ·refine Goes.skip ?_;refine sq (Goes.block ?_);refine sh fol (kI n w [(5,.ptr 0 0),(6,.i e),(12,.i (f.length:Int)),(13,.i e)]) ?_;obtain⟨g,p,g5⟩:=bnd g5;obtain⟨y,k,g5⟩:=bnd g5;refine gq fol [3,4,5] (kI n w (kAU (f.length:Int) e)) (kN d (.bag ((d.map (zA encI)).set (e:Int).toNat (.av (.slice 2 0 g.length g.length 1)))::(kA g []))) (ac (hs (.run [] (jD ZT 22 (.i n) (.i n)) (kN d [bg encI d]) (.slice 2 0 g.length g.length 1) (kN d (bg encI d::(kA g []))) false) (qdK qP (E:=encI) (z:=0) rfl (by kernel_rfl) p rfl)) (ac (hs (.done (.opt (qo ZT 33 (.slice 1 0 d.length d.length 1) (.i e))) (.ptr 1 ((e:Int).toNat*1+0))) (yX qbO k)) (ac (hs (.run [1] (qA ZT 22 (.ptr 1 ((e:Int).toNat*1+0)) (.slice 2 0 g.length g.length 1)) (kN d (bg encI d::(kA g []))) .undef (kN d (.bag ((d.map (zA encI)).set (e:Int).toNat (.av (.slice 2 0 g.length g.length 1)))::(kA g []))) true) (qlI (show _=some 1 by kernel_rfl) rfl (qnl k) rfl rfl rfl)) az))) ?_;refine Goes.sub ((show Sub (ofG 54 (kI n w (kAU (f.length:Int) e)),(kN d (.bag ((d.map (zA encI)).set (e:Int).toNat (.av (.slice 2 0 g.length g.length 1)))::(kA g [])))) (ofG 54 (kI n w (kAU (f.length:Int) e)),(kN d [bg encI (qO d e g),.dead]))from(Uo (E:=encI) (b:=1) (c:=2) (Nat.ne_of_beq_eq_false rfl) rfl rfl k (.s (mk_le p)) rfl)).trans (show Sub (ofG 54 (kI n w (kAU (f.length:Int) e)),(kN d [bg encI (qO d e g),.dead])) (ofG 54 (kI n w (kAU (f.length:Int) e)),(kN (qO d e g) [bg encI (qO d e g)]))from(Sub.norm [] [some 0,some 1] rfl rfl (.keep (.same nI) (.keep (.same (qw encI _)) (.kp (.keep (.same nI) (.keep (.same nI) .nil))))) (.kb rfl (.cells (rc (.sliceE rfl (qcg _ _ _)) rn)) (.kb rfl jY.bgs .nil))))) ?_;refine gh fol (kI n w (kAU (f.length:Int) (w64 (e+1)))) ?_;exact⟨M,(ofG 54 (kI n w (kAU (f.length:Int) (w64 (e+1)))),(kN (qO d e g) [bg encI (qO d e g)])),Nat.lt_succ_self _,(Sub.refl _),_,_,rfl,g5⟩
   refine Goes.exit ?_;obtain rfl:=si g5;exact⟨rfl,_,rfl,(Sub.keep [0,1,5] rfl rfl)⟩
 rintro x s' ⟨rfl,j,rfl,hsub⟩;refine Goes.sub hsub ?_;refine sq ?_;obtain⟨_,r,h⟩:=bnd h;refine sq (gq fol [2] [(5,.ptr 0 0),(24,.func (.func 183) [] [.ptr 2 0,.ptr 3 0])] (kN j (bg encI j::(kE n w []))) (ac (hs (.callH 135 (.i n::(kAn w)) (kN j [bg encI j]) [] (.func (.func 183) [] kBA) (kN j (bg encI j::(kE n w [])))) (qab [] [none,none,some 0,some 1] (qaW n w r) .nil rfl rfl (.old rfl rfl (.old rfl rfl (.new rfl rfl (.cells (rc (.same nI) rn)) rfl (.new rfl rfl (.cells (rc (.same (qw encI _)) rn)) rfl .nil)))) (rc (.same nI) (rc (.same (qw encI _)) rn)) (.funcL (sn) (rc (.ptr rfl) (rc (.ptr rfl) rn))) rfl)) az) ?_);refine Goes.block ?_;obtain⟨a,q,h⟩:=bnd h;refine Goes.range fol rfl (gf:=183) (first:=[]) (captured:=kBA) (v:= .tuple []) (A2:=(kN a (bg encI a::(kE n w [.loop .ready none (ofG 54 [(5,.ptr 0 0)]) qg.xp qg.x1 qg.x2])))) (s':=(ofG 54 [(5,.ptr 0 0),(24,.func (.func 183) [] [.ptr 2 0,.ptr 3 0])],(kN a (bg encI a::(kE n w [.loop .exhausted none (ofG 54 [(5,.ptr 0 0)]) qg.xp qg.x1 qg.x2]))))) (x:= .normal) (by kernel_rfl) (by kernel_rfl) (qj7 (show(Obl.callH 183 (.yld 4::kBA) (kN j (bg encI j::(kE n w [.loop .ready none (ofG 54 [(5,.ptr 0 0),(24,.func (.func 183) [] [.ptr 2 0,.ptr 3 0])]) qg.xp qg.x1 qg.x2]))) [4,0,1,2,3] (.tuple []) (kN a (bg encI a::(kE n w [.loop .ready none (ofG 54 [(5,.ptr 0 0)]) qg.xp qg.x1 qg.x2])))).Holds ZT from qab [some 4,some 0,some 1,some 2,some 3] [some 1,some 2,some 3,some 4,some 0] (qcB N j n w q) (.kb rfl (.loop rfl (.kp (.drop .nil))) (.kb rfl (.cells (rc (.slice rfl) rn)) (.kb rfl jY.bgs (.kb rfl (.cells (rc (.same nI) rn)) (.kb rfl (.cells (rc (.same (qw encI _)) rn)) .nil))))) rfl rfl (.back rfl rfl (.cells (rc (.slice rfl) rn)) rfl (.back rfl rfl jY.bgs rfl (.back rfl rfl (.cells (rc (.same nI) rn)) rfl (.back rfl rfl (.cells (rc (.same (qw encI _)) rn)) rfl (.back rfl rfl (.loop rfl (.kp .nil)) rfl .nil))))) (rc (.yld rfl) (rc (.ptr rfl) (rc (.ptr rfl) rn))) (.same (qD.tuple sn)) rfl)) (by kernel_rfl) ?_;refine Goes.sub (show Sub (ofG 54 [(5,.ptr 0 0),(24,.func (.func 183) [] [.ptr 2 0,.ptr 3 0])],(kN a (bg encI a::(kE n w [.loop .exhausted none (ofG 54 [(5,.ptr 0 0)]) qg.xp qg.x1 qg.x2])))) (ofG 54 [(5,.ptr 0 0),(24,.func (.func 183) [] [.ptr 2 0,.ptr 3 0])],(kN a (bg encI a::(kE n w []))))from(Sub.norm [] [some 0,some 1,some 2,some 3] rfl rfl (.kp (.keep (.funcL (sn) (rc (.ptr rfl) (rc (.ptr rfl) rn))) .nil)) (.kb rfl (.cells (rc (.slice rfl) rn)) (.kb rfl jY.bgs (.kb rfl (.same sn) (.kb rfl (.same sn) .nil)))))) ?_;refine sh fol [(4,.slice 1 0 a.length a.length 1)] ?_;refine Goes.sub (s':=(ofG 54 [(4,.slice 1 0 a.length a.length 1)],(kN a (.frozen (a.flatMap (qc encI).c)::(kE n w []))))) (Sub.bagFreeze (E:=encI) (b:=1) rfl) ?_;refine Goes.ret ?_;obtain rfl:=si h;exact(gw2 [.slice 1 0 a.length a.length 1] (Ux (Fz.slF (E:=(qc encI)) rfl rfl (nl rfl))))
def xw (N:Nat) (n:Int) (w:List Int):Option ((List (List Int))×Int):=
 (qY N n w).bind fun a=>
 if(!decide (a=0))=true then
 some ([],a)
 else
 (qb0 N n w).bind fun b=>
 some (b,0)
theorem qbb (N:Nat) (n:Int) (w:List Int) {res:(List (List Int))×Int} (h:xw N n w=some res):qf ZT (.fn 27) (.i n::(kAn w)) [] (.tuple [vl (qc encI) res.1,.i res.2]) []:=by
 unfold xw at h;refine Ub Tryz.func27 rfl rfl (m:=16) rfl (rs:=[.tmp 4,.tmp 5]) rfl (l:=(kI n w [])) rfl ?_;refine sh fol (kI n w []) ?_;refine sq ?_;obtain⟨a,b,h⟩:=bnd h;refine sq (gr fol [2] (kI n w [(6,.i a)]) (ac (cv (ze N n w b)) az) ?_);refine sh fol (kI n w [(6,.i a),(11,.bool (!decide (a=0)))]) ?_;refine ihB h (fun e h=>?_) (fun e h=>?_)
 ·refine sh fol ((4,.nilslice)::(kAr a)) ?_;refine Goes.ret ?_;obtain rfl:=si h;exact(gw2 [.nilslice,.i a] (FzW.tuple (qh.cons (FzW.nilv (E:=(qc encI))) (qh.cons (Ua tI) qh.nil))))
 refine Goes.skip ?_;obtain⟨d,c,h⟩:=bnd h;refine sq (gr fol [2] [(4,vl (qc encI) d),(5,.i 0)] (ac (cv (qhR N n w c)) az) ?_);refine Goes.ret ?_;obtain rfl:=si h;exact(gw2 [vl (qc encI) d,.i 0] (FzW.tuple (qh.cons (Ua (qE (qc encI) _ (nl rfl))) (qh.cons (Ua tI) qh.nil))))
def jf (w:List Int):Nat->Int->Int->Option Int
 |0,_,_=>none
 |K+1,b,a=>
  if a<(w.length:Int)then
  (idx w a).bind fun c=>
  (yo c).bind fun d=>
  jf w K (w64 (b+d)) (w64 (a+1))
  else
  some b
def qaF (N:Nat) (w:List Int):Option Int:=
 (jf w N 0 0).bind fun a=>
 some a
theorem qe0 (N:Nat) (w:List Int) {res:Int} (h:qaF N w=some res):qf ZT (.fn 73) [vl encI w] [] (.i res) []:=by
 unfold qaF at h;refine Ub Tryz.func73 rfl rfl (m:=18) rfl (rs:=[.tmp 2]) rfl (l:=(kAC w [])) rfl ?_;refine sh fol (kAC w []) ?_;refine sh fol (kAC w [(3,.i 0)]) ?_;refine sq ?_;refine sh fol [(3,.i 0),(6,vl encI w),(7,.i (w.length:Int)),(8,.i 0)] ?_;refine Goes.block ?_;obtain⟨g,g4,h⟩:=bnd h;refine Goes.imp (Q:=fun x s'=>(x= .exit 0/\ ∃d,d=g/\Sub s' (ofG 18 [(3,.i d)],[]))) ?_ ?_
 ·refine Uc (fun M s=> ∃(b:Int) (a:Int),s=(ofG 18 ((3,.i b)::(6,vl encI w)::(kZ (w.length:Int) a [])),[])/\jf w M b a=some g) ?_ (m:=N) ⟨_,_,rfl,g4⟩;rintro M s ⟨b,a,rfl,g4⟩
  cases M with
  |zero=>simp only[jf]at g4;cases g4
  |succ M=>
   rw[jf]at g4;refine sh fol ((3,.i b)::(6,vl encI w)::(kZ (w.length:Int) a [(9,.bool (decide (a<(w.length:Int))))])) ?_;refine sq ?_;refine ihD g4 (fun k g4=>?_) (fun k g4=>?_)
   ·refine Goes.skip ?_;refine sq (Goes.block ?_);obtain⟨j,c,g4⟩:=bnd g4;refine sq (gr fol [0,1] ((3,.i b)::(5,.i j)::(6,vl encI w)::(kZ (w.length:Int) a [])) (ac (iv qP encI c) (ac (lv 0 ce3 encI c rfl) az)) ?_);obtain⟨f,e,g4⟩:=bnd g4;refine gr fol [2] ((3,.i (w64 (b+f)))::(6,vl encI w)::(kZ (w.length:Int) a [])) (ac (cv (qbf j e)) az) ?_;refine gh fol ((3,.i (w64 (b+f)))::(6,vl encI w)::(kZ (w.length:Int) (w64 (a+1)) [])) ?_;exact⟨M,(ofG 18 ((3,.i (w64 (b+f)))::(6,vl encI w)::(kZ (w.length:Int) (w64 (a+1)) [])),[]),Nat.lt_succ_self _,(Sub.refl _),_,_,rfl,g4⟩
   refine Goes.exit ?_;obtain rfl:=si g4;exact⟨rfl,_,rfl,(Sub.keep [3] rfl rfl)⟩
 rintro x s' ⟨rfl,d,rfl,hsub⟩;refine Goes.sub hsub ?_;refine sh fol (kAx d) ?_;refine Goes.ret ?_;obtain rfl:=si h;exact(gw2 [.i d] (Ua tI))
def yL (N:Nat) (n:Int) (w:List Int):Option (Int×Int):=
 (qY N n w).bind fun a=>
 if(!decide (a=0))=true then
 some (0,a)
 else
 (qaF N w).bind fun b=>
 some (b,0)
theorem qcn (N:Nat) (n:Int) (w:List Int) {res:Int×Int} (h:yL N n w=some res):qf ZT (.fn 28) (.i n::(kAn w)) [] (.tuple [.i res.1,.i res.2]) []:=by
 unfold yL at h;refine Ub Tryz.func28 rfl rfl (m:=15) rfl (rs:=[.tmp 4,.tmp 5]) rfl (l:=(kI n w [])) rfl ?_;refine sh fol (kI n w []) ?_;refine sq ?_;obtain⟨a,b,h⟩:=bnd h;refine sq (gr fol [2] (kAy w [(6,.i a)]) (ac (cv (ze N n w b)) az) ?_);refine sh fol (kAy w [(6,.i a),(11,.bool (!decide (a=0)))]) ?_;refine ihB h (fun e h=>?_) (fun e h=>?_)
 ·refine sh fol ((4,.i 0)::(kAr a)) ?_;refine Goes.ret ?_;obtain rfl:=si h;exact(gw2 [.i 0,.i a] (FzW.tuple (qh.cons (Ua tI) (qh.cons (Ua tI) qh.nil))))
 refine Goes.skip ?_;obtain⟨d,c,h⟩:=bnd h;refine sq (gr fol [1] [(4,.i d),(5,.i 0)] (ac (cv (qe0 N w c)) az) ?_);refine Goes.ret ?_;obtain rfl:=si h;exact(gw2 [.i d,.i 0] (FzW.tuple (qh.cons (Ua tI) (qh.cons (Ua tI) qh.nil))))
def zS (p:List Int) (b:Int):Nat->Int->Option (Unit⊕Int)
 |0,_=>none
 |K+1,a=>
  if a<b then
  (idx p a).bind fun c=>
  (idx p b).bind fun d=>
  if c=d then
  some (.inr 15)
  else
  zS p b K (w64 (a+1))
  else
  some (.inl ())
def zz (N:Nat) (p:List Int):Nat->Int->Option (Unit⊕Int)
 |0,_=>none
 |K+1,a=>
  if a<(p.length:Int)then
  ((idx p a).bind fun c=>
  if c<0 then
  some true
  else
  some (decide (c>=(p.length:Int))):Option Bool).bind fun d=>
  if d=true then
  some (.inr 15)
  else
  (zS p a N 0).bind (fun
  |(.inl ())=>
  zz N p K (w64 (a+1))
  |(.inr b)=>
  some (.inr b))
  else
  some (.inl ())
def vZ (N:Nat) (p:List Int):Option Int:=
 if(p.length:Int)>256 then
 some 5
 else
 (zz N p N 0).bind (fun
 |(.inl ())=>
 some 0
 |(.inr a)=>
 some a)
theorem qI (N:Nat) (p:List Int) {res:Int} (h:vZ N p=some res):qf ZT (.fn 29) [vl encI p] [] (.i res) []:=by
 unfold vZ at h;refine Ub Tryz.func29 rfl rfl (m:=42) rfl (rs:=[.tmp 2]) rfl (l:=(kAC p [])) rfl ?_;refine sh fol (kAC p []) ?_;refine sq ?_;refine sh fol (kAC p [(7,.bool (decide ((p.length:Int)>256)))]) ?_;refine ihD h (fun w h=>?_) (fun w h=>?_)
 ·refine sh fol [(2,.i 5)] ?_;refine Goes.ret ?_;obtain rfl:=si h;exact(gw2 [.i 5] (Ua tI))
 refine Goes.skip ?_;refine sq ?_;refine sh fol (kAC p [(3,.i 0)]) ?_;refine Goes.block ?_;obtain⟨k,g3,h⟩:=bnd h;refine Goes.imp (Q:=fun x s'=>(x= .exit 0/\(.inl ())=k/\Sub s' (ofG 42 [],[]))\/(x= .ret/\ ∃v,(.inr v)=k/\qZ ZT [.tmp 2] (.i v) .ret s')) ?_ ?_
 ·refine Uc (fun M s=> ∃(c:Int),s=(ofG 42 (kAC p [(3,.i c)]),[])/\zz N p M c=some k) ?_ (m:=N) ⟨_,rfl,g3⟩;rintro M s ⟨c,rfl,g3⟩
  cases M with
  |zero=>simp only[zz]at g3;cases g3
  |succ M=>
   rw[zz]at g3;refine sq ?_;refine sh fol (kAC p [(3,.i c),(11,.bool (decide (c<(p.length:Int))))]) ?_;refine ihD g3 (fun y g3=>?_) (fun y g3=>?_)
   ·refine Goes.skip ?_;refine sq (Goes.block ?_);refine sq ?_;refine sq ?_;obtain⟨z,a,g3⟩:=bnd g3;refine Goes.cut (s':=(ofG 42 (kAC p [(3,.i c),(27,.bool z)]),[])) ?_ ?_
    ·obtain⟨A,b,a⟩:=bnd a;rcases wyD a with⟨n,a⟩|⟨n,a⟩
     ·obtain rfl:=si a;exact tr fol [2,3,5] (kAC p [(3,.i c),(27,.bool true)]) (ac (iv qP encI b) (ac (lv 0 ce3 encI b rfl) (ac (gw n) az)))
     obtain rfl:=si a;exact tr fol [2,3,5,8,9] (kAC p [(3,.i c),(27,.bool (decide (A>=(p.length:Int))))]) (ac (iv qP encI b) (ac (lv 0 ce3 encI b rfl) (ac (gw n) (ac (iv qP encI b) (ac (lv 0 ce3 encI b rfl) az)))))
    refine ihB g3 (fun o g3=>?_) (fun o g3=>?_)
    ·refine sh fol [(2,.i 15)] ?_;refine Goes.ret ?_;obtain rfl:=si g3;exact Or.inr (⟨rfl,_,rfl,(gw2 [.i 15] (Ua tI))⟩)
    refine Goes.skip ?_;refine sh fol (kAC p [(3,.i c),(4,.i 0)]) ?_;refine Goes.block ?_;obtain⟨g,g12,g3⟩:=bnd g3;refine Goes.imp (Q:=fun x s'=>(x= .exit 2/\(.inl ())=g/\Sub s' (ofG 42 (kAC p [(3,.i c)]),[]))\/(x= .ret/\ ∃j,(.inr j)=g/\qZ ZT [.tmp 2] (.i j) .ret s')) ?_ ?_
    ·refine Uc (fun M s=> ∃(d:Int),s=(ofG 42 (kAC p ((3,.i c)::(kBF d))),[])/\zS p c M d=some g) ?_ (m:=N) ⟨_,rfl,g12⟩;rintro M s ⟨d,rfl,g12⟩
     cases M with
     |zero=>simp only[zS]at g12;cases g12
     |succ M=>
      rw[zS]at g12;refine sq ?_;refine sh fol (kAC p [(3,.i c),(4,.i d),(30,.bool (decide (d<c)))]) ?_;refine ihD g12 (fun q g12=>?_) (fun q g12=>?_)
      ·refine Goes.skip ?_;refine sq (Goes.block ?_);obtain⟨r,e,g12⟩:=bnd g12;obtain⟨t,f,g12⟩:=bnd g12;refine sq (gr fol [2,3,6,7] (kAC p [(3,.i c),(4,.i d),(41,.bool (decide (r=t)))]) (ac (iv qP encI e) (ac (lv 0 ce3 encI e rfl) (ac (iv qP encI f) (ac (lv 0 ce3 encI f rfl) az)))) ?_);refine ihD g12 (fun u g12=>?_) (fun u g12=>?_)
       ·refine sh fol [(2,.i 15)] ?_;refine Goes.ret ?_;obtain rfl:=si g12;exact Or.inr (⟨rfl,_,rfl,(gw2 [.i 15] (Ua tI))⟩)
       refine Goes.skip ?_;refine gh fol (kAC p ((3,.i c)::(kBF (w64 (d+1))))) ?_;exact⟨M,(ofG 42 (kAC p ((3,.i c)::(kBF (w64 (d+1))))),[]),Nat.lt_succ_self _,(Sub.refl _),_,rfl,g12⟩
      refine Goes.exit ?_;obtain rfl:=si g12;exact Or.inl (⟨rfl,rfl,(Sub.keep [0,3] rfl rfl)⟩)
    rintro x s' (⟨rfl,rfl,hsub⟩|⟨rfl,B,rfl,hret⟩)
    ·try dsimp only at g3
     refine Goes.sub hsub ?_;refine gh fol (kAC p [(3,.i (w64 (c+1)))]) ?_;exact⟨M,(ofG 42 (kAC p [(3,.i (w64 (c+1)))]),[]),Nat.lt_succ_self _,(Sub.refl _),_,rfl,g3⟩
    try dsimp only at g3
    obtain rfl:=si g3;exact Or.inr (⟨rfl,_,rfl,hret⟩)
   refine Goes.exit ?_;obtain rfl:=si g3;exact Or.inl (⟨rfl,rfl,(Sub.keep [] rfl rfl)⟩)
 rintro x s' (⟨rfl,rfl,hsub⟩|⟨rfl,C,rfl,hret⟩)
 ·try dsimp only at h
  refine Goes.sub hsub ?_;refine sh fol [(2,.i 0)] ?_;refine Goes.ret ?_;obtain rfl:=si h;exact(gw2 [.i 0] (Ua tI))
 try dsimp only at h
 obtain rfl:=si h;exact hret
def jG (p:List Int) (q:List Int):Nat->(List Int)->Int->Option (List Int)
 |0,_,_=>none
 |K+1,b,a=>
  if a<(p.length:Int)then
  (idx p a).bind fun c=>
  (idx q c).bind fun d=>
  (app 8 b [d]).bind fun e=>
  jG p q K e (w64 (a+1))
  else
  some b
def qac (N:Nat) (p:List Int) (q:List Int):Option (List Int):=
 (jG p q N ([]:List Int) 0).bind fun a=>
 some a
theorem xV (N:Nat) (p:List Int) (q:List Int) {res:List Int} (h:qac N p q=some res):qf ZT (.fn 30) (vl encI p::(kAn q)) [] (vl encI res) []:=by
 unfold qac at h;refine Ub Tryz.func30 rfl rfl (m:=24) rfl (rs:=[.tmp 4]) rfl (l:=(kO p q [])) rfl ?_;refine sh fol (kO p q []) ?_;refine sh fol (kO p q [(5,.nilslice)]) ?_;refine sq ?_;refine sh fol (kO p q [(5,.nilslice),(6,.i 0)]) ?_;refine Goes.block ?_;obtain⟨k,g4,h⟩:=bnd h;refine Goes.imp (Q:=fun x s'=>(x= .exit 0/\ ∃f,f=k/\Sub s' (ofG 24 (kAE f []),(kA f [])))) ?_ ?_
 ·refine Goes.sub (s':=(ofG 24 (kO p q [(5,.gslice 0 ([]:List Int).length 1),(6,.i 0)]),kAf)) (Sub.norm [] [none] rfl rfl (.keep (.same (qw encI _)) (.keep (.same (qw encI _)) (.keep .nil (.keep (.same nI) .nil)))) (.fresh .nil)) ?_;refine Uc (fun M s=> ∃(a:List Int) (b:Int),s=(ofG 24 (kO p q (kAE a [(6,.i b)])),(kA a []))/\jG p q M a b=some k) ?_ (m:=N) ⟨_,_,rfl,g4⟩;rintro M s ⟨a,b,rfl,g4⟩
  cases M with
  |zero=>simp only[jG]at g4;cases g4
  |succ M=>
   rw[jG]at g4;refine sq ?_;refine sh fol (kO p q (kAE a ((6,.i b)::(kA1 (decide (b<(p.length:Int))))))) ?_;refine ihD g4 (fun n g4=>?_) (fun n g4=>?_)
   ·refine Goes.skip ?_;refine sq (Goes.block ?_);obtain⟨o,c,g4⟩:=bnd g4;obtain⟨j,d,g4⟩:=bnd g4;obtain⟨e,g,g4⟩:=bnd g4;refine gq fol [4,5,6,7,9] (kO p q [(5,.gslice 2 e.length 1),(6,.i b)]) (.dead::(kAj j (kA e []))) (ac (iv qP encI c) (ac (lv 0 ce3 encI c rfl) (ac (iv qP encI d) (ac (lv 0 ce3 encI d rfl) (ac (hs (.run [0,1] (jv ZT [22,22] (.gslice 0 a.length 1) (.slice 1 0 1 1 1)) (kA a (kAj j [])) (.gslice 2 e.length 1) (.dead::(kAj j (kA e []))) true) (qbH qP (E:=encI) rfl (qeZ (E:=encI) (ys:=[j]) rfl rfl rfl rfl) (qfY (E:=encI) (l:=a) rfl rfl rfl g rfl))) az))))) ?_;refine gh fol (kO p q [(5,.gslice 2 e.length 1),(6,.i (w64 (b+1)))]) ?_;exact⟨M,(ofG 24 (kO p q (kAE e [(6,.i (w64 (b+1)))])),(kA e [])),Nat.lt_succ_self _,(Sub.norm [] [some 2] rfl rfl (.keep (.same (qw encI _)) (.keep (.same (qw encI _)) (.keep (.gslice rfl) (.keep (.same nI) .nil)))) (.ks .nil)),_,_,rfl,g4⟩
   refine Goes.exit ?_;obtain rfl:=si g4;exact⟨rfl,_,rfl,(Sub.keep [5] rfl rfl)⟩
 rintro x s' ⟨rfl,f,rfl,hsub⟩;refine Goes.sub hsub ?_;refine sh fol [(4,.gslice 0 f.length 1)] ?_;refine Goes.ret ?_;obtain rfl:=si h;exact(gw2 [.gslice 0 f.length 1] (Ux (Fz.gs (E:=encI) rfl rfl (nl rfl))))
def ve (l:List (List Int)) (n:Int):Nat->Int->Option (Unit⊕Bool)
 |0,_=>none
 |K+1,a=>
  if a<(l.length:Int)then
  (idx l a).bind fun b=>
  if(!decide ((b.length:Int)=n))=true then
  some (.inr false)
  else
  ve l n K (w64 (a+1))
  else
  some (.inl ())
def yl (N:Nat) (l:List (List Int)) (n:Int):Option Bool:=
 (ve l n N 0).bind (fun
 |(.inl ())=>
 some (decide ((l.length:Int)=n))
 |(.inr a)=>
 some a)
theorem zM (N:Nat) (l:List (List Int)) (n:Int) {res:Bool} (h:yl N l n=some res):qf ZT (.fn 31) [vl (qc encI) l,.i n] [] (.bool res) []:=by
 unfold yl at h;refine Ub Tryz.func31 rfl rfl (m:=23) rfl (rs:=[.tmp 4]) rfl (l:=((0,vl (qc encI) l)::(kBC n))) rfl ?_;refine sh fol ((0,vl (qc encI) l)::(kBC n)) ?_;refine sq ?_;refine sh fol [(0,vl (qc encI) l),(1,.i n),(7,.i (l.length:Int)),(8,.i 0)] ?_;refine Goes.block ?_;obtain⟨c,g2,h⟩:=bnd h;refine Goes.imp (Q:=fun x s'=>(x= .exit 0/\(.inl ())=c/\Sub s' (ofG 23 ((0,vl (qc encI) l)::(kBC n)),[]))\/(x= .ret/\ ∃d,(.inr d)=c/\qZ ZT [.tmp 4] (.bool d) .ret s')) ?_ ?_
 ·refine Uc (fun M s=> ∃(a:Int),s=(ofG 23 ((0,vl (qc encI) l)::(1,.i n)::(kZ (l.length:Int) a [])),[])/\ve l n M a=some c) ?_ (m:=N) ⟨_,rfl,g2⟩;rintro M s ⟨a,rfl,g2⟩
  cases M with
  |zero=>simp only[ve]at g2;cases g2
  |succ M=>
   rw[ve]at g2;refine sh fol ((0,vl (qc encI) l)::(1,.i n)::(kZ (l.length:Int) a [(9,.bool (decide (a<(l.length:Int))))])) ?_;refine sq ?_;refine ihD g2 (fun e g2=>?_) (fun e g2=>?_)
   ·refine Goes.skip ?_;refine sq (Goes.block ?_);refine sh fol ((0,vl (qc encI) l)::(1,.i n)::(5,.i a)::(kZ (l.length:Int) a [])) ?_;obtain⟨f,b,g2⟩:=bnd g2;refine sq (gr fol [2,3] ((0,vl (qc encI) l)::(1,.i n)::(kZ (l.length:Int) a [(17,.bool (!decide ((f.length:Int)=n)))])) (ac (iv qbO (qc encI) b) (ac (lv 0 qci (qc encI) b rfl) az)) ?_);refine ihB g2 (fun g g2=>?_) (fun g g2=>?_)
    ·refine sh fol kAN ?_;refine Goes.ret ?_;obtain rfl:=si g2;exact Or.inr (⟨rfl,_,rfl,(gw2 [.bool false] (Ua tB))⟩)
    refine Goes.skip ?_;refine gh fol ((0,vl (qc encI) l)::(1,.i n)::(kZ (l.length:Int) (w64 (a+1)) [])) ?_;exact⟨M,(ofG 23 ((0,vl (qc encI) l)::(1,.i n)::(kZ (l.length:Int) (w64 (a+1)) [])),[]),Nat.lt_succ_self _,(Sub.refl _),_,rfl,g2⟩
   refine Goes.exit ?_;obtain rfl:=si g2;exact Or.inl (⟨rfl,rfl,(Sub.keep [0,1] rfl rfl)⟩)
 rintro x s' (⟨rfl,rfl,hsub⟩|⟨rfl,j,rfl,hret⟩)
 ·try dsimp only at h
  refine Goes.sub hsub ?_;refine sh fol (kAk (decide ((l.length:Int)=n))) ?_;refine Goes.ret ?_;obtain rfl:=si h;exact(gw2 [.bool (decide ((l.length:Int)=n))] (Ua tB))
 try dsimp only at h
 obtain rfl:=si h;exact hret
def stringslite_HasPrefix (b:Str) (a:Str):Option Bool:=
 (if(b.length:Int)>=(a.length:Int)then
 (cut b 0 (a.length:Int)).bind fun c=>
 some (c==a)
 else
 some false:Option Bool).bind fun d=>
 some d
theorem yu (c:Str) (a:Str) {res:Bool} (h:stringslite_HasPrefix c a=some res):qf ZT (.fn 240) [.str c,.str a] [] (.bool res) []:=by
 unfold stringslite_HasPrefix at h;refine Ub Tryz.func240 rfl rfl (m:=18) rfl (rs:=[.tmp 4]) rfl (l:=(kU c a [])) rfl ?_;refine sh fol (kU c a []) ?_;refine sq ?_;obtain⟨f,b,h⟩:=bnd h;refine Goes.cut (s':=(ofG 18 (kAk f),[])) ?_ ?_
 ·rcases wyD b with⟨e,b⟩|⟨e,b⟩
  ·obtain⟨g,d,b⟩:=bnd b;obtain rfl:=si b;exact tr fol [5,9] (kAk (g==a)) (ac (gw e) (ac (hs (.done (.opt (qM ZT 9 (.str c) none (some (.i (a.length:Int))) none)) (.str g)) (jI st9 none (some (a.length:Int)) d)) az))
  obtain rfl:=si b;exact tr fol [5] kAN (ac (gw e) az)
 refine Goes.ret ?_;obtain rfl:=si h;exact(gw2 [.bool f] (Ua tB))
def stringslite_CutPrefix (b:Str) (a:Str):Option (Str×Bool):=
 (stringslite_HasPrefix b a).bind fun c=>
 if(!c)=true then
 some (b,false)
 else
 (cut b (a.length:Int) (b.length:Int)).bind fun d=>
 some (d,true)
theorem qcw (b:Str) (a:Str) {res:Str×Bool} (h:stringslite_CutPrefix b a=some res):qf ZT (.fn 184) [.str b,.str a] [] (.tuple [.str res.1,.bool res.2]) []:=by
 unfold stringslite_CutPrefix at h;refine Ub Tryz.func184 rfl rfl (m:=15) rfl (rs:=[.tmp 4,.tmp 5]) rfl (l:=(kU b a [])) rfl ?_;refine sh fol (kU b a []) ?_;refine sq ?_;obtain⟨f,c,h⟩:=bnd h;refine sq (gr fol [2] (kU b a [(9,.bool (!f))]) (ac (cv (yu b a c)) az) ?_);refine ihB h (fun g h=>?_) (fun g h=>?_)
 ·refine sh fol [(4,.str b),(5,.bool false)] ?_;refine Goes.ret ?_;obtain rfl:=si h;exact(gw2 [.str b,.bool false] (FzW.tuple (qh.cons (Ua tS) (qh.cons (Ua tB) qh.nil))))
 refine Goes.skip ?_;obtain⟨e,d,h⟩:=bnd h;refine sq (gr fol [3] [(4,.str e),(5,.bool true)] (ac (hs (.done (.opt (qM ZT 9 (.str b) (some (.i (a.length:Int))) none none)) (.str e)) (jI st9 (some (a.length:Int)) none d)) az) ?_);refine Goes.ret ?_;obtain rfl:=si h;exact(gw2 [.str e,.bool true] (FzW.tuple (qh.cons (Ua tS) (qh.cons (Ua tB) qh.nil))))
def strings_CutPrefix (c:Str) (a:Str):Option (Str×Bool):=
 (stringslite_CutPrefix c a).bind fun b=>
 some (b.1,b.2)
theorem qdS (b:Str) (a:Str) {res:Str×Bool} (h:strings_CutPrefix b a=some res):qf ZT (.fn 136) [.str b,.str a] [] (.tuple [.str res.1,.bool res.2]) []:=by
 unfold strings_CutPrefix at h;refine Ub Tryz.func136 rfl rfl (m:=11) rfl (rs:=[.tmp 4,.tmp 5]) rfl (l:=(kU b a [])) rfl ?_;refine sh fol (kU b a []) ?_;obtain⟨d,c,h⟩:=bnd h;refine sq (gr fol [2] [(4,.str d.1),(5,.bool d.2)] (ac (cv (qcw b a c)) az) ?_);refine Goes.ret ?_;obtain rfl:=si h;exact(gw2 [.str d.1,.bool d.2] (FzW.tuple (qh.cons (Ua tS) (qh.cons (Ua tB) qh.nil))))
def stringslite_IndexByte (a:Str) (c:Int):Option Int:=
 (qlo a c).bind fun b=>
 some b
theorem qcr (a:Str) (c:Int) {res:Int} (h:stringslite_IndexByte a c=some res):qf ZT (.fn 276) [.str a,.int .u8 c] [] (.i res) []:=by
 unfold stringslite_IndexByte at h;refine Ub Tryz.func276 rfl rfl (m:=8) rfl (rs:=[.tmp 4]) rfl (l:=[(0,.str a),(1,.int .u8 c)]) rfl ?_;refine sh fol [(0,.str a),(1,.int .u8 c)] ?_;obtain⟨d,b,h⟩:=bnd h;refine sq (gr fol [2] (kBF d) (ac (cv (qmV a c b)) az) ?_);refine Goes.ret ?_;obtain rfl:=si h;exact(gw2 [.i d] (Ua tI))
def stringslite_Index (a:Str) (substr:Str):Option Int:=
 (if(substr.length:Int)=0 then
 some true
 else
 some (substr==a):Option Bool).bind fun b=>
 if b=true then
 some 0
 else
 if(substr.length:Int)=1 then
 (idx substr 0).bind fun c=>
 (stringslite_IndexByte a (c.toNat:Int)).bind fun d=>
 some d
 else
 if(substr.length:Int)>=(a.length:Int)then
 some (-1)
 else
 none
theorem qdU (b:Str) (substr:Str) {res:Int} (h:stringslite_Index b substr=some res):qf ZT (.fn 241) [.str b,.str substr] [] (.i res) []:=by
 unfold stringslite_Index at h;refine Ub Tryz.func241 rfl rfl (m:=143) rfl (rs:=[.tmp 4]) rfl (l:=(kU b substr [])) rfl ?_;refine sh fol (kU b substr []) ?_;refine sh fol (kU b substr (kAr (substr.length:Int))) ?_;refine sq (Goes.block ?_);refine sq ?_;obtain⟨j,a,h⟩:=bnd h;refine Goes.cut (s':=(ofG 143 (kU b substr [(5,.i (substr.length:Int)),(16,.bool j)]),[])) ?_ ?_
 ·rcases wyD a with⟨e,a⟩|⟨e,a⟩
  ·obtain rfl:=si a;exact tr fol [2] (kU b substr [(5,.i (substr.length:Int)),(16,.bool true)]) (ac (gw e) az)
  obtain rfl:=si a;exact tr fol [2] (kU b substr [(5,.i (substr.length:Int)),(16,.bool (substr==b))]) (ac (gw e) az)
 refine ihB h (fun k h=>?_) (fun k h=>?_)
 ·refine sh fol [(4,.i 0)] ?_;refine Goes.ret ?_;obtain rfl:=si h;exact(gw2 [.i 0] (Ua tI))
 refine sh fol (kU b substr [(5,.i (substr.length:Int)),(24,.bool (decide ((substr.length:Int)=1)))]) ?_;refine ihD h (fun n h=>?_) (fun n h=>?_)
 ·obtain⟨f,c,h⟩:=bnd h;obtain⟨g,d,h⟩:=bnd h;refine sq (gr fol [2,3] (kBF g) (ac (hs (.done (.opt (yx ZT 9 (.str substr) (.i 0))) (.int .u8 (f.toNat:Int))) (qaq st9 c)) (ac (cv (qcr b (f.toNat:Int) d)) az)) ?_);refine Goes.ret ?_;obtain rfl:=si h;exact(gw2 [.i g] (Ua tI))
 refine sh fol (kU b substr [(5,.i (substr.length:Int)),(31,.bool (decide ((substr.length:Int)>=(b.length:Int))))]) ?_;refine ihD h (fun o h=>?_) (fun o h=>?_)
 ·refine sh fol [(4,.i (-1))] ?_;refine Goes.ret ?_;obtain rfl:=si h;exact(gw2 [.i (-1)] (Ua tI))
 cases h
def stringslite_Cut (a:Str) (sep:Str):Option (Str×Str×Bool):=
 (stringslite_Index a sep).bind fun b=>
 if b>=0 then
 (cut a 0 b).bind fun c=>
 (cut a (w64 (b+(sep.length:Int))) (a.length:Int)).bind fun d=>
 some (c,d,true)
 else
 some (a,[],false)
theorem qeI (a:Str) (sep:Str) {res:Str×Str×Bool} (h:stringslite_Cut a sep=some res):qf ZT (.fn 185) [.str a,.str sep] [] (.tuple [.str res.1,.str res.2.1,.bool res.2.2]) []:=by
 unfold stringslite_Cut at h;refine Ub Tryz.func185 rfl rfl (m:=23) rfl (rs:=[.tmp 4,.tmp 5,.tmp 6]) rfl (l:=(kU a sep [])) rfl ?_;refine sh fol (kU a sep []) ?_;refine sq ?_;obtain⟨b,c,h⟩:=bnd h;refine sq (gr fol [2] (kU a sep (kA9 b)) (ac (cv (qdU a sep c)) az) ?_);refine sh fol (kU a sep ((7,.i b)::(kBD (decide (b>=0))))) ?_;refine ihD h (fun j h=>?_) (fun j h=>?_)
 ·obtain⟨f,d,h⟩:=bnd h;obtain⟨g,e,h⟩:=bnd h;refine sq (gr fol [2,8] [(4,.str f),(5,.str g),(6,.bool true)] (ac (hs (.done (.opt (qM ZT 9 (.str a) none (some (.i b)) none)) (.str f)) (jI st9 none (some b) d)) (ac (hs (.done (.opt (qM ZT 9 (.str a) (some (.i (w64 (b+(sep.length:Int))))) none none)) (.str g)) (jI st9 (some (w64 (b+(sep.length:Int)))) none e)) az)) ?_);refine Goes.ret ?_;obtain rfl:=si h;exact(gw2 [.str f,.str g,.bool true] (FzW.tuple (qh.cons (Ua tS) (qh.cons (Ua tS) (qh.cons (Ua tB) qh.nil)))))
 refine Goes.skip ?_;refine sh fol [(4,.str a),(5,.str []),(6,.bool false)] ?_;refine Goes.ret ?_;obtain rfl:=si h;exact(gw2 [.str a,.str [],.bool false] (FzW.tuple (qh.cons (Ua tS) (qh.cons (Ua tS) (qh.cons (Ua tB) qh.nil)))))
def strings_Cut (b:Str) (sep:Str):Option (Str×Str×Bool):=
 (stringslite_Cut b sep).bind fun a=>
 some (a.1,a.2.1,a.2.2)
theorem qdP (b:Str) (sep:Str) {res:Str×Str×Bool} (h:strings_Cut b sep=some res):qf ZT (.fn 137) [.str b,.str sep] [] (.tuple [.str res.1,.str res.2.1,.bool res.2.2]) []:=by
 unfold strings_Cut at h;refine Ub Tryz.func137 rfl rfl (m:=13) rfl (rs:=[.tmp 4,.tmp 5,.tmp 6]) rfl (l:=(kU b sep [])) rfl ?_;refine sh fol (kU b sep []) ?_;obtain⟨a,c,h⟩:=bnd h;refine sq (gr fol [2] ((4,.str a.1)::(kAq a.2.1 a.2.2 [])) (ac (cv (qeI b sep c)) az) ?_);refine Goes.ret ?_;obtain rfl:=si h;exact(gw2 [.str a.1,.str a.2.1,.bool a.2.2] (FzW.tuple (qh.cons (Ua tS) (qh.cons (Ua tS) (qh.cons (Ua tB) qh.nil)))))
def xZ (a:Str):Option Bool:=
 (if(!(a==[]))=true then
 (qn3 a [48,49,50,51,52,53,54,55,56,57]).bind fun b=>
 if(b==[])=true then
 (idx a 0).bind fun c=>
 if(!decide ((c.toNat:Int)=48))=true then
 some true
 else
 some (a==[48])
 else
 some false
 else
 some false:Option Bool).bind fun d=>
 some d
theorem jk (c:Str) {res:Bool} (h:xZ c=some res):qf ZT (.fn 138) [.str c] [] (.bool res) []:=by
 unfold xZ at h;refine Ub Tryz.func138 rfl rfl (m:=19) rfl (rs:=[.tmp 2]) rfl (l:=(kAw c)) rfl ?_;refine sh fol (kAw c) ?_;refine sq ?_;obtain⟨j,a,h⟩:=bnd h;refine Goes.cut (s':=(ofG 19 [(2,.bool j)],[])) ?_ ?_
 ·rcases wyB a with⟨e,a⟩|⟨e,a⟩
  ·obtain⟨n,b,a⟩:=bnd a;rcases wyB a with⟨f,a⟩|⟨f,a⟩
   ·obtain⟨k,d,a⟩:=bnd a;rcases wyB a with⟨g,a⟩|⟨g,a⟩
    ·obtain rfl:=si a;exact tr fol [2,4,7,9,11] [(2,.bool true)] (ac (gw e) (ac (cv (qg3 c [48,49,50,51,52,53,54,55,56,57] b)) (ac (gw f) (ac (hs (.done (.opt (yx ZT 9 (.str c) (.i 0))) (.int .u8 (k.toNat:Int))) (qaq st9 d)) (ac (gw g) az)))))
    obtain rfl:=si a;exact tr fol [2,4,7,9,11] [(2,.bool (c==[48]))] (ac (gw e) (ac (cv (qg3 c [48,49,50,51,52,53,54,55,56,57] b)) (ac (gw f) (ac (hs (.done (.opt (yx ZT 9 (.str c) (.i 0))) (.int .u8 (k.toNat:Int))) (qaq st9 d)) (ac (gw g) az)))))
   obtain rfl:=si a;exact tr fol [2,4,7] kA7 (ac (gw e) (ac (cv (qg3 c [48,49,50,51,52,53,54,55,56,57] b)) (ac (gw f) az)))
  obtain rfl:=si a;exact tr fol [2] kA7 (ac (gw e) az)
 refine Goes.ret ?_;obtain rfl:=si h;exact(gw2 [.bool j] (Ua tB))
def yV (l:List Int):Nat->Int->Option (Unit⊕Int)
 |0,_=>none
 |K+1,a=>
  if a<(l.length:Int)then
  (idx l a).bind fun b=>
  if(!decide (b=0))=true then
  some (.inr b)
  else
  yV l K (w64 (a+1))
  else
  some (.inl ())
def qbG (N:Nat) (l:List Int):Option Int:=
 (yV l N 0).bind (fun
 |(.inl ())=>
 some 0
 |(.inr a)=>
 some a)
theorem qdw (N:Nat) (l:List Int) {res:Int} (h:qbG N l=some res):qf ZT (.fn 139) [vl encI l] [] (.i res) []:=by
 unfold qbG at h;refine Ub Tryz.func139 rfl rfl (m:=15) rfl (rs:=[.tmp 2]) rfl (l:=(kAC l [])) rfl ?_;refine sh fol (kAC l []) ?_;refine sq ?_;refine sh fol (kAL l (l.length:Int) [(7,.i 0)]) ?_;refine Goes.block ?_;obtain⟨d,g2,h⟩:=bnd h;refine Goes.imp (Q:=fun x s'=>(x= .exit 0/\(.inl ())=d/\Sub s' (ofG 15 [],[]))\/(x= .ret/\ ∃e,(.inr e)=d/\qZ ZT [.tmp 2] (.i e) .ret s')) ?_ ?_
 ·refine Uc (fun M s=> ∃(a:Int),s=(ofG 15 (kAL l (l.length:Int) (kA9 a)),[])/\yV l M a=some d) ?_ (m:=N) ⟨_,rfl,g2⟩;rintro M s ⟨a,rfl,g2⟩
  cases M with
  |zero=>simp only[yV]at g2;cases g2
  |succ M=>
   rw[yV]at g2;refine sh fol (kAL l (l.length:Int) ((7,.i a)::(kA5 (decide (a<(l.length:Int)))))) ?_;refine sq ?_;refine ihD g2 (fun f g2=>?_) (fun f g2=>?_)
   ·refine Goes.skip ?_;refine sq (Goes.block ?_);obtain⟨c,b,g2⟩:=bnd g2;refine sq (gr fol [0,1] ((4,.i c)::(kAL l (l.length:Int) (kA9 a))) (ac (iv qqQ encI b) (ac (lv 0 ce29 encI b rfl) az)) ?_);refine sh fol ((4,.i c)::(kAL l (l.length:Int) ((7,.i a)::(kBD (!decide (c=0)))))) ?_;refine ihB g2 (fun g g2=>?_) (fun g g2=>?_)
    ·refine sh fol (kAx c) ?_;refine Goes.ret ?_;obtain rfl:=si g2;exact Or.inr (⟨rfl,_,rfl,(gw2 [.i c] (Ua tI))⟩)
    refine Goes.skip ?_;refine gh fol (kAL l (l.length:Int) (kA9 (w64 (a+1)))) ?_;exact⟨M,(ofG 15 (kAL l (l.length:Int) (kA9 (w64 (a+1)))),[]),Nat.lt_succ_self _,(Sub.refl _),_,rfl,g2⟩
   refine Goes.exit ?_;obtain rfl:=si g2;exact Or.inl (⟨rfl,rfl,(Sub.keep [] rfl rfl)⟩)
 rintro x s' (⟨rfl,rfl,hsub⟩|⟨rfl,j,rfl,hret⟩)
 ·try dsimp only at h
  refine Goes.sub hsub ?_;refine sh fol [(2,.i 0)] ?_;refine Goes.ret ?_;obtain rfl:=si h;exact(gw2 [.i 0] (Ua tI))
 try dsimp only at h
 obtain rfl:=si h;exact hret
def qay (holds:Bool) (e:Int):Option Int:=
 if holds=true then
 some e
 else
 some 0
theorem xO (holds:Bool) (e:Int) {res:Int} (h:qay holds e=some res):qf ZT (.fn 140) [.bool holds,.i e] [] (.i res) []:=by
 unfold qay at h;refine Ub Tryz.func140 rfl rfl (m:=7) rfl (rs:=[.tmp 4]) rfl (l:=((0,.bool holds)::(kBC e))) rfl ?_;refine sh fol ((0,.bool holds)::(kBC e)) ?_;refine sq ?_;refine sh fol [(1,.i e),(5,.bool holds)] ?_;refine ihB h (fun a h=>?_) (fun a h=>?_)
 ·refine sh fol (kBF e) ?_;refine Goes.ret ?_;obtain rfl:=si h;exact(gw2 [.i e] (Ua tI))
 refine Goes.skip ?_;refine sh fol [(4,.i 0)] ?_;refine Goes.ret ?_;obtain rfl:=si h;exact(gw2 [.i 0] (Ua tI))
def zX (a:qC):Option qC:=
 (if a.w.isEmpty=true then
 some (!decide (a.s=(-9223372036854775808)))
 else
 some false:Option Bool).bind fun b=>
 if b=true then
 some (⟨w64 (0-a.s),[]⟩:qC)
 else
 none
theorem vN (a:qC) {res:qC} (h:zX a=some res):qf ZT (.fn 196) [.agg (nz1 a)] [] (.agg (nz1 res)) []:=by
 unfold zX at h;refine Ub Tryz.func196 rfl rfl (m:=26) rfl (rs:=[.cell 2 115]) rfl (l:=[(0,.agg (nz1 a))]) rfl ?_;refine sg fol (kAT []) [.cells (nz1 a),bZ] ?_;refine sq ?_;refine sq ?_;obtain⟨d,b,h⟩:=bnd h;refine Goes.cut (s':=(ofG 26 (kAT (kBD d)),[.cells (nz1 a),bZ])) ?_ ?_
 ·rcases wyB b with⟨c,b⟩|⟨c,b⟩
  ·obtain rfl:=si b;exact tr fol [2,3] (kAT (kBD (!decide (a.s=(-9223372036854775808))))) (ac (hs (.done (.opt (jB ZT .eql 113 (.tmp 6) (.const (.slice none 0 0)) (nvl ZU a.w) .nilslice)) (.bool a.w.isEmpty)) (qag vX)) (ac (gw c) az))
  obtain rfl:=si b;exact tr fol [2,3] (kAT [(12,.bool false)]) (ac (hs (.done (.opt (jB ZT .eql 113 (.tmp 6) (.const (.slice none 0 0)) (nvl ZU a.w) .nilslice)) (.bool a.w.isEmpty)) (qag vX)) (ac (gw c) az))
 refine ihB h (fun e h=>?_) (fun e h=>?_)
 ·refine sg fol [(2,.ptr 1 0)] (.cells (nz1 a)::(kA6 (w64 (0-a.s)))) ?_;refine Goes.ret ?_;obtain rfl:=si h;exact(gw2 [.agg [.i (w64 (0-a.s)),.nilslice]] (FzW.agg (qh.cons (Ua tI) (qh.cons (FzW.nv0 (E:=ZU)) qh.nil))))
 refine Goes.skip ?_;refine sq ?_;cases h
def qaw (a:qC):Option qC:=
 if a.s<0 then
 (zX a).bind fun b=>
 some b
 else
 some a
theorem qdI (a:qC) {res:qC} (h:qaw a=some res):qf ZT (.fn 187) [.agg (nz1 a)] [] (.agg (nz1 res)) []:=by
 unfold qaw at h;refine Ub Tryz.func187 rfl rfl (m:=9) rfl (rs:=[.cell 2 115]) rfl (l:=[(0,.agg (nz1 a))]) rfl ?_;refine sg fol (kAT []) [.cells (nz1 a),bZ] ?_;refine sq ?_;refine sh fol (kAT [(5,.bool (decide (a.s<0)))]) ?_;refine ihD h (fun d h=>?_) (fun d h=>?_)
 ·obtain⟨c,b,h⟩:=bnd h;refine sq (gq fol [1,2] [(2,.ptr 1 0)] [.cells (nz1 a),.cells (nz1 c)] (ac (cv (vN a b)) (ac (hs (.run [1] (qA ZT 115 (.ptr 1 0) (.agg (nz1 c))) [.cells (nz1 a),bZ] .undef [.cells (nz1 a),.cells (nz1 c)] true) (zD (n:=2) (by kernel_rfl) rfl rfl rfl rfl (cac rfl (cac nvc can)) rfl)) az)) ?_);refine Goes.ret ?_;obtain rfl:=si h;exact(gw2 [.agg (nz1 c)] (FzW.agg (qh.cons (Ua tI) (qh.cons (Ua (qx ZU _ (nl rfl))) qh.nil))))
 refine Goes.skip ?_;refine sq (gq fol [1] [(2,.ptr 1 0)] [.cells (nz1 a),.cells (nz1 a)] (ac (hs (.run [1] (qA ZT 115 (.ptr 1 0) (.agg (nz1 a))) [.cells (nz1 a),bZ] .undef [.cells (nz1 a),.cells (nz1 a)] true) (zD (n:=2) (by kernel_rfl) rfl rfl rfl rfl (cac rfl (cac nvc can)) rfl)) az) ?_);refine Goes.ret ?_;obtain rfl:=si h;exact(gw2 [.agg (nz1 a)] (FzW.agg (qh.cons (Ua tI) (qh.cons (Ua (qx ZU _ (nl rfl))) qh.nil))))
def vC (a:qC):Option Int:=
 some (if(if a.s<1 then a.s else 1)>(-1)then(if a.s<1 then a.s else 1)else(-1))
theorem qbA (a:qC) {res:Int} (h:vC a=some res):qf ZT (.fn 188) [.agg (nz1 a)] [] (.i res) []:=by
 unfold vC at h;refine Ub Tryz.func188 rfl rfl (m:=7) rfl (rs:=[.tmp 2]) rfl (l:=[(0,.agg (nz1 a))]) rfl ?_;refine sg fol (kAo []) [.cells (nz1 a)] ?_;refine sh fol (kAx (if(if a.s<1 then a.s else 1)>(-1)then(if a.s<1 then a.s else 1)else(-1))) ?_;refine Goes.ret ?_;obtain rfl:=si h;exact(gw2 [.i (if(if a.s<1 then a.s else 1)>(-1)then(if a.s<1 then a.s else 1)else(-1))] (Ua tI))
def qdo (n:Int):Option qC:=
 some (⟨n,[]⟩:qC)
theorem qbT (n:Int) {res:qC} (h:qdo n=some res):qf ZT (.fn 144) [.i n] [] (.agg (nz1 res)) []:=by
 unfold qdo at h;refine Ub Tryz.func144 rfl rfl (m:=5) rfl (rs:=[.cell 2 115]) rfl (l:=[(0,.i n)]) rfl ?_;refine sg fol ((0,.i n)::(kW [])) [bZ] ?_;refine sg fol (kW []) (kA6 n) ?_;refine Goes.ret ?_;obtain rfl:=si h;exact(gw2 [.agg [.i n,.nilslice]] (FzW.agg (qh.cons (Ua tI) (qh.cons (FzW.nv0 (E:=ZU)) qh.nil))))
def yN (a:qC) (b:qC):Option qC:=
 (if a.w.isEmpty=true then
 some b.w.isEmpty
 else
 some false:Option Bool).bind fun c=>
 ((if c=true then
 if((decide ((w64 (a.s+b.s))>a.s))==(decide (b.s>0)))=true then
 some (.inr (⟨w64 (a.s+b.s),[]⟩:qC))
 else
 some (.inl ())
 else
 some (.inl ()):Option (Unit⊕qC))).bind (fun
 |(.inl ())=>
 none
 |(.inr d)=>
 some d)
theorem qcb (a:qC) (b:qC) {res:qC} (h:yN a b=some res):qf ZT (.fn 195) [.agg (nz1 a),.agg (nz1 b)] [] (.agg (nz1 res)) []:=by
 unfold yN at h;refine Ub Tryz.func195 rfl rfl (m:=67) rfl (rs:=[.cell 4 115]) rfl (l:=[(0,.agg (nz1 a)),(1,.agg (nz1 b))]) rfl ?_;refine sg fol (kD []) [.cells (nz1 a),.cells (nz1 b),bZ] ?_;refine sq ?_;refine sq ?_;obtain⟨g,c,h⟩:=bnd h;refine Goes.cut (s':=(ofG 67 (kD [(17,.bool g)]),[.cells (nz1 a),.cells (nz1 b),bZ])) ?_ ?_
 ·rcases wyB c with⟨d,c⟩|⟨d,c⟩
  ·obtain rfl:=si c;exact tr fol [2,3,6] (kD [(17,.bool b.w.isEmpty)]) (ac (hs (.done (.opt (jB ZT .eql 113 (.tmp 11) (.const (.slice none 0 0)) (nvl ZU a.w) .nilslice)) (.bool a.w.isEmpty)) (qag vX)) (ac (gw d) (ac (hs (.done (.opt (jB ZT .eql 113 (.tmp 15) (.const (.slice none 0 0)) (nvl ZU b.w) .nilslice)) (.bool b.w.isEmpty)) (qag vX)) az)))
  obtain rfl:=si c;exact tr fol [2,3] (kD [(17,.bool false)]) (ac (hs (.done (.opt (jB ZT .eql 113 (.tmp 11) (.const (.slice none 0 0)) (nvl ZU a.w) .nilslice)) (.bool a.w.isEmpty)) (qag vX)) (ac (gw d) az))
 obtain⟨e,g4,h⟩:=bnd h;refine Goes.imp (Q:=fun x s'=>(x= .normal/\(.inl ())=e/\Sub s' (ofG 67 (kD []),[.cells (nz1 a),.cells (nz1 b),bZ]))\/(x= .ret/\ ∃f,(.inr f)=e/\qZ ZT [.cell 4 115] (.agg (nz1 f)) .ret s')) ?_ ?_
 ·refine ihB g4 (fun j g4=>?_) (fun j g4=>?_)
  ·refine sh fol (kD (kAr (w64 (a.s+b.s)))) ?_;refine sh fol (kD [(5,.i (w64 (a.s+b.s))),(30,.bool ((decide ((w64 (a.s+b.s))>a.s))==(decide (b.s>0))))]) ?_;refine ihB g4 (fun k g4=>?_) (fun k g4=>?_)
   ·refine sg fol kAz (.cells (nz1 a):: .cells (nz1 b)::(kA6 (w64 (a.s+b.s)))) ?_;refine Goes.ret ?_;obtain rfl:=si g4;exact Or.inr (⟨rfl,_,rfl,(gw2 [.agg [.i (w64 (a.s+b.s)),.nilslice]] (FzW.agg (qh.cons (Ua tI) (qh.cons (FzW.nv0 (E:=ZU)) qh.nil))))⟩)
   refine Goes.skip ?_;obtain rfl:=si g4;exact Or.inl (⟨rfl,rfl,(Sub.keep [2,3,4] rfl rfl)⟩)
  refine Goes.skip ?_;obtain rfl:=si g4;exact Or.inl (⟨rfl,rfl,(Sub.keep [2,3,4] rfl rfl)⟩)
 rintro x s' (⟨rfl,rfl,hsub⟩|⟨rfl,n,rfl,hret⟩)
 ·try dsimp only at h
  refine Goes.sub hsub ?_;refine sq ?_;cases h
 try dsimp only at h
 obtain rfl:=si h;exact hret
def yI (a:qC) (b:qC):Option (qC×qC):=
 (if a.w.isEmpty=true then
 if b.w.isEmpty=true then
 some (!decide (a.s=(-9223372036854775808)))
 else
 some false
 else
 some false:Option Bool).bind fun e=>
 if e=true then
 (qfq .i64 a.s b.s).bind fun d=>
 (qhf .i64 a.s b.s).bind fun c=>
 ((if c<0 then
 some (w64 (d-1),w64 (c+b.s))
 else
 some (d,c):Option (Int×Int))).bind fun(f,g)=>
 some ((⟨f,[]⟩:qC),(⟨g,[]⟩:qC))
 else
 none
theorem qco (a:qC) (b:qC) {res:qC×qC} (h:yI a b=some res):qf ZT (.fn 189) [.agg (nz1 a),.agg (nz1 b)] [] (.tuple [.agg (nz1 res.1),.agg (nz1 res.2)]) []:=by
 unfold yI at h;refine Ub Tryz.func189 rfl rfl (m:=84) rfl (rs:=[.cell 4 115,.cell 5 115]) rfl (l:=[(0,.agg (nz1 a)),(1,.agg (nz1 b))]) rfl ?_;refine sg fol (kD [(5,.ptr 3 0)]) [.cells (nz1 a),.cells (nz1 b),bZ,bZ] ?_;refine sq ?_;refine sq ?_;obtain⟨r,c,h⟩:=bnd h;refine Goes.cut (s':=(ofG 84 (kD [(5,.ptr 3 0),(28,.bool r)]),[.cells (nz1 a),.cells (nz1 b),bZ,bZ])) ?_ ?_
 ·rcases wyB c with⟨k,c⟩|⟨k,c⟩
  ·rcases wyB c with⟨o,c⟩|⟨o,c⟩
   ·obtain rfl:=si c;exact tr fol [2,3,6,8] (kD [(5,.ptr 3 0),(28,.bool (!decide (a.s=(-9223372036854775808))))]) (ac (hs (.done (.opt (jB ZT .eql 113 (.tmp 17) (.const (.slice none 0 0)) (nvl ZU a.w) .nilslice)) (.bool a.w.isEmpty)) (qag vX)) (ac (gw k) (ac (hs (.done (.opt (jB ZT .eql 113 (.tmp 21) (.const (.slice none 0 0)) (nvl ZU b.w) .nilslice)) (.bool b.w.isEmpty)) (qag vX)) (ac (gw o) az))))
   obtain rfl:=si c;exact tr fol [2,3,6,8] (kD [(5,.ptr 3 0),(28,.bool false)]) (ac (hs (.done (.opt (jB ZT .eql 113 (.tmp 17) (.const (.slice none 0 0)) (nvl ZU a.w) .nilslice)) (.bool a.w.isEmpty)) (qag vX)) (ac (gw k) (ac (hs (.done (.opt (jB ZT .eql 113 (.tmp 21) (.const (.slice none 0 0)) (nvl ZU b.w) .nilslice)) (.bool b.w.isEmpty)) (qag vX)) (ac (gw o) az))))
  obtain rfl:=si c;exact tr fol [2,3] (kD [(5,.ptr 3 0),(28,.bool false)]) (ac (hs (.done (.opt (jB ZT .eql 113 (.tmp 17) (.const (.slice none 0 0)) (nvl ZU a.w) .nilslice)) (.bool a.w.isEmpty)) (qag vX)) (ac (gw k) az))
 refine ihB h (fun t h=>?_) (fun t h=>?_)
 ·obtain⟨n,d,h⟩:=bnd h;obtain⟨e,f,h⟩:=bnd h;refine sq (gr fol [4,9] (kAv ((4,.ptr 2 0)::(5,.ptr 3 0)::(6,.i n)::(kA9 e))) (ac (hs (.done (.opt (jB ZT .quo 3 (.tmp 30) (.tmp 32) (.i a.s) (.i b.s))) (.i n)) (qe7 d)) (ac (hs (.done (.opt (jB ZT .rem 3 (.tmp 35) (.tmp 37) (.i a.s) (.i b.s))) (.i e)) (qiS f)) az)) ?_);refine sq ?_;refine sh fol (kAv [(4,.ptr 2 0),(5,.ptr 3 0),(6,.i n),(7,.i e),(40,.bool (decide (e<0)))]) ?_;obtain⟨p,g10,h⟩:=bnd h;refine Goes.imp (Q:=fun x s'=>(x= .normal/\ ∃g j,(g,j)=p/\Sub s' (ofG 84 ((4,.ptr 0 0)::(kAs ((6,.i g)::(kA9 j)))),[bZ,bZ]))) ?_ ?_
  ·refine ihD g10 (fun q g10=>?_) (fun q g10=>?_)
   ·refine gh fol ((4,.ptr 2 0)::(5,.ptr 3 0)::(6,.i (w64 (n-1)))::(kA9 (w64 (e+b.s)))) ?_;obtain rfl:=si g10;exact⟨rfl,_,_,rfl,(Sub.norm [] [some 2,some 3] rfl rfl (.kp (.kp (.keep (.same nI) (.keep (.same nI) .nil)))) (.kb rfl (.same sn) (.kb rfl (.same sn) .nil)))⟩
   refine Goes.skip ?_;obtain rfl:=si g10;exact⟨rfl,_,_,rfl,(Sub.norm [] [some 2,some 3] rfl rfl (.drop (.kp (.kp (.keep (.same nI) (.keep (.same nI) .nil))))) (.kb rfl (.same sn) (.kb rfl (.same sn) .nil)))⟩
  rintro x s' ⟨rfl,g,j,rfl,hsub⟩
  try dsimp only at h
  refine Goes.sub hsub ?_;refine sg fol ((4,.ptr 0 0)::(kAs [])) (.cells [.i g,.nilslice]::(kA6 j)) ?_;refine Goes.ret ?_;obtain rfl:=si h;exact(gw2 [.agg [.i g,.nilslice],.agg [.i j,.nilslice]] (FzW.tuple (qh.cons (FzW.agg (qh.cons (Ua tI) (qh.cons (FzW.nv0 (E:=ZU)) qh.nil))) (qh.cons (FzW.agg (qh.cons (Ua tI) (qh.cons (FzW.nv0 (E:=ZU)) qh.nil))) qh.nil))))
 refine Goes.skip ?_;refine sq ?_;cases h
def xy:Nat->Int->(List Int)->Int->(List Int)->Option (Int×(List Int))
 |0,_,_,_,_=>none
 |K+1,e,f,b,c=>
  (vC (⟨b,c⟩:qC)).bind fun d=>
  if(!decide (d=0))=true then
  (yI (⟨e,f⟩:qC) (⟨b,c⟩:qC)).bind fun a=>
  xy K b c a.2.s a.2.w
  else
  some (e,f)
def qej (N:Nat) (a:qC) (b:qC):Option qC:=
 (qaw a).bind fun c=>
 (qaw b).bind fun d=>
 (xy N c.s c.w d.s d.w).bind fun(e,f)=>
 some (⟨e,f⟩:qC)
theorem qgI (N:Nat) (a:qC) (b:qC) {res:qC} (h:qej N a b=some res):qf ZT (.fn 141) [.agg (nz1 a),.agg (nz1 b)] [] (.agg (nz1 res)) []:=by
 unfold qej at h;refine Ub Tryz.func141 rfl rfl (m:=23) rfl (rs:=[.cell 4 115]) rfl (l:=[(0,.agg (nz1 a)),(1,.agg (nz1 b))]) rfl ?_;refine sg fol (kD []) [.cells (nz1 a),.cells (nz1 b),bZ] ?_;obtain⟨p,q,h⟩:=bnd h;obtain⟨t,r,h⟩:=bnd h;refine sq (gq fol [1,3,4,5] (kD []) [.cells (nz1 p),.cells (nz1 t),bZ] (ac (cv (qdI a q)) (ac (cv (qdI b r)) (ac (hs (.run [0] (qA ZT 115 (.ptr 0 0) (.agg (nz1 p))) [.cells (nz1 a),.cells (nz1 b),bZ] .undef [.cells (nz1 p),.cells (nz1 b),bZ] true) (zD (n:=2) (by kernel_rfl) rfl rfl rfl rfl (cac rfl (cac nvc can)) rfl)) (ac (hs (.run [1] (qA ZT 115 (.ptr 1 0) (.agg (nz1 t))) [.cells (nz1 p),.cells (nz1 b),bZ] .undef [.cells (nz1 p),.cells (nz1 t),bZ] true) (zD (n:=2) (by kernel_rfl) rfl rfl rfl rfl (cac rfl (cac nvc can)) rfl)) az)))) ?_);refine sq (Goes.block ?_);obtain⟨w,g9,h⟩:=bnd h;refine Goes.imp (Q:=fun x s'=>(x= .exit 0/\ ∃f g,(f,g)=w/\Sub s' (ofG 23 (kW kA0),[.cells (ni1 f g),bZ]))) ?_ ?_
 ·refine Uc (fun M s=> ∃(i:Int) (j:List Int) (d:Int) (e:List Int),s=(ofG 23 (kD []),[.cells (ni1 i j),.cells (ni1 d e),bZ])/\xy M i j d e=some w) ?_ (m:=N) ⟨_,_,_,_,rfl,g9⟩;rintro M s ⟨i,j,d,e,rfl,g9⟩
  cases M with
  |zero=>simp only[xy]at g9;cases g9
  |succ M=>
   rw[xy]at g9;refine sq ?_;obtain⟨u,k,g9⟩:=bnd g9;refine sq (gr fol [1] (kD (kA2 (!decide (u=0)))) (ac (cv (qbA (⟨d,e⟩:qC) k)) az) ?_);refine ihB g9 (fun v g9=>?_) (fun v g9=>?_)
   ·refine Goes.skip ?_;refine Goes.block ?_;obtain⟨c,o,g9⟩:=bnd g9;refine sq (gq fol [2,8,9] (kD [(6,.ptr 4 0)]) [.cells (ni1 i j),.cells (ni1 d e),bZ,.cells (nz1 c.1),.cells (nz1 c.2)] (ac (cv (qco (⟨i,j⟩:qC) (⟨d,e⟩:qC) o)) (ac (hs (.run [3] (qA ZT 115 (.ptr 3 0) (.agg (nz1 c.1))) [.cells (ni1 i j),.cells (ni1 d e),bZ,bZ,bZ] .undef [.cells (ni1 i j),.cells (ni1 d e),bZ,.cells (nz1 c.1),bZ] true) (zD (n:=2) (by kernel_rfl) rfl rfl rfl rfl (cac rfl (cac nvc can)) rfl)) (ac (hs (.run [4] (qA ZT 115 (.ptr 4 0) (.agg (nz1 c.2))) [.cells (ni1 i j),.cells (ni1 d e),bZ,.cells (nz1 c.1),bZ] .undef [.cells (ni1 i j),.cells (ni1 d e),bZ,.cells (nz1 c.1),.cells (nz1 c.2)] true) (zD (n:=2) (by kernel_rfl) rfl rfl rfl rfl (cac rfl (cac nvc can)) rfl)) az))) ?_);refine gq fol [2,3] (kD []) [.cells (ni1 d e),.cells (nz1 c.2),bZ,.cells (nz1 c.1),.cells (nz1 c.2)] (ac (hs (.run [0] (qA ZT 115 (.ptr 0 0) (.agg (ni1 d e))) [.cells (ni1 i j),.cells (ni1 d e),bZ,.cells (nz1 c.1),.cells (nz1 c.2)] .undef [.cells (ni1 d e),.cells (ni1 d e),bZ,.cells (nz1 c.1),.cells (nz1 c.2)] true) (zD (n:=2) (by kernel_rfl) rfl rfl rfl rfl (cac rfl (cac nvc can)) rfl)) (ac (hs (.run [1] (qA ZT 115 (.ptr 1 0) (.agg (nz1 c.2))) [.cells (ni1 d e),.cells (ni1 d e),bZ,.cells (nz1 c.1),.cells (nz1 c.2)] .undef [.cells (ni1 d e),.cells (nz1 c.2),bZ,.cells (nz1 c.1),.cells (nz1 c.2)] true) (zD (n:=2) (by kernel_rfl) rfl rfl rfl rfl (cac rfl (cac nvc can)) rfl)) az)) ?_;exact⟨M,(ofG 23 (kD []),[.cells (ni1 d e),.cells (nz1 c.2),bZ]),Nat.lt_succ_self _,(Sub.norm [] [some 0,some 1,some 2] rfl rfl (.kp (.kp (.kp .nil))) (.kb rfl (.same sn) (.kb rfl (.same sn) (.kb rfl (.same sn) .nil)))),_,_,_,_,rfl,g9⟩
   refine Goes.exit ?_;obtain rfl:=si g9;exact⟨rfl,_,_,rfl,(Sub.norm [] [some 0,some 2] rfl rfl (.kp (.drop (.kp .nil))) (.kb rfl (.same sn) (.kb rfl (.same sn) .nil)))⟩
 rintro x s' ⟨rfl,f,g,rfl,hsub⟩
 try dsimp only at h
 refine Goes.sub hsub ?_;refine sq (gq fol [1] kA0 [.cells (ni1 f g),.cells (ni1 f g)] (ac (hs (.run [1] (qA ZT 115 (.ptr 1 0) (.agg (ni1 f g))) [.cells (ni1 f g),bZ] .undef [.cells (ni1 f g),.cells (ni1 f g)] true) (zD (n:=2) (by kernel_rfl) rfl rfl rfl rfl (cac rfl (cac nvc can)) rfl)) az) ?_);refine Goes.ret ?_;obtain rfl:=si h;exact(gw2 [.agg (ni1 f g)] (FzW.agg (qh.cons (Ua tI) (qh.cons (Ua (qx ZU _ (nl rfl))) qh.nil))))
def strings_HasPrefix (b:Str) (a:Str):Option Bool:=
 (stringslite_HasPrefix b a).bind fun c=>
 some c
theorem qdQ (b:Str) (a:Str) {res:Bool} (h:strings_HasPrefix b a=some res):qf ZT (.fn 190) [.str b,.str a] [] (.bool res) []:=by
 unfold strings_HasPrefix at h;refine Ub Tryz.func190 rfl rfl (m:=8) rfl (rs:=[.tmp 4]) rfl (l:=(kU b a [])) rfl ?_;refine sh fol (kU b a []) ?_;obtain⟨d,c,h⟩:=bnd h;refine sq (gr fol [2] (kAk d) (ac (cv (yu b a c)) az) ?_);refine Goes.ret ?_;obtain rfl:=si h;exact(gw2 [.bool d] (Ua tB))
def stringslite_TrimPrefix (b:Str) (a:Str):Option Str:=
 (stringslite_HasPrefix b a).bind fun c=>
 if c=true then
 (cut b (a.length:Int) (b.length:Int)).bind fun d=>
 some d
 else
 some b
theorem qch (b:Str) (a:Str) {res:Str} (h:stringslite_TrimPrefix b a=some res):qf ZT (.fn 252) [.str b,.str a] [] (.str res) []:=by
 unfold stringslite_TrimPrefix at h;refine Ub Tryz.func252 rfl rfl (m:=13) rfl (rs:=[.tmp 4]) rfl (l:=(kU b a [])) rfl ?_;refine sh fol (kU b a []) ?_;refine sq ?_;obtain⟨f,c,h⟩:=bnd h;refine sq (gr fol [2] (kU b a [(7,.bool f)]) (ac (cv (yu b a c)) az) ?_);refine ihB h (fun g h=>?_) (fun g h=>?_)
 ·obtain⟨e,d,h⟩:=bnd h;refine sq (gr fol [3] [(4,.str e)] (ac (hs (.done (.opt (qM ZT 9 (.str b) (some (.i (a.length:Int))) none none)) (.str e)) (jI st9 (some (a.length:Int)) none d)) az) ?_);refine Goes.ret ?_;obtain rfl:=si h;exact(gw2 [.str e] (Ua tS))
 refine Goes.skip ?_;refine sh fol [(4,.str b)] ?_;refine Goes.ret ?_;obtain rfl:=si h;exact(gw2 [.str b] (Ua tS))
def strings_TrimPrefix (b:Str) (a:Str):Option Str:=
 (stringslite_TrimPrefix b a).bind fun c=>
 some c
theorem qdD (b:Str) (a:Str) {res:Str} (h:strings_TrimPrefix b a=some res):qf ZT (.fn 191) [.str b,.str a] [] (.str res) []:=by
 unfold strings_TrimPrefix at h;refine Ub Tryz.func191 rfl rfl (m:=8) rfl (rs:=[.tmp 4]) rfl (l:=(kU b a [])) rfl ?_;refine sh fol (kU b a []) ?_;obtain⟨d,c,h⟩:=bnd h;refine sq (gr fol [2] [(4,.str d)] (ac (cv (qch b a c)) az) ?_);refine Goes.ret ?_;obtain rfl:=si h;exact(gw2 [.str d] (Ua tS))
def bits_Mul64 (a:Int) (y:Int):Option (Int×Int):=
 some (wrap .u64 ((wrap .u64 ((wrap .u64 ((qW .u64 a 32)*(qW .u64 y 32)))+(qW .u64 (wrap .u64 ((wrap .u64 ((qW .u64 a 32)*(zo .u64 y 4294967295)))+(qW .u64 (wrap .u64 ((zo .u64 a 4294967295)*(zo .u64 y 4294967295))) 32))) 32)))+(qW .u64 (wrap .u64 ((zo .u64 (wrap .u64 ((wrap .u64 ((qW .u64 a 32)*(zo .u64 y 4294967295)))+(qW .u64 (wrap .u64 ((zo .u64 a 4294967295)*(zo .u64 y 4294967295))) 32))) 4294967295)+(wrap .u64 ((zo .u64 a 4294967295)*(qW .u64 y 32))))) 32)),wrap .u64 (a*y))
theorem qeA (a:Int) (y:Int) {res:Int×Int} (h:bits_Mul64 a y=some res):qf ZT (.fn 221) [.int .u64 a,.int .u64 y] [] (.tuple [.int .u64 res.1,.int .u64 res.2]) []:=by
 unfold bits_Mul64 at h;refine Ub Tryz.func221 rfl rfl (m:=51) rfl (rs:=[.tmp 4,.tmp 5]) rfl (l:=(kAJ a y [])) rfl ?_;refine sh fol (kAJ a y []) ?_;refine sh fol (kAJ a y (kAg (zo .u64 a 4294967295) [])) ?_;refine sh fol (kAJ a y (kAg (zo .u64 a 4294967295) [(7,.int .u64 (qW .u64 a 32))])) ?_;refine sh fol (kAJ a y (kAg (zo .u64 a 4294967295) [(7,.int .u64 (qW .u64 a 32)),(8,.int .u64 (zo .u64 y 4294967295))])) ?_;refine sh fol (kAJ a y (kAg (zo .u64 a 4294967295) [(7,.int .u64 (qW .u64 a 32)),(8,.int .u64 (zo .u64 y 4294967295)),(9,.int .u64 (qW .u64 y 32))])) ?_;refine sh fol (kAJ a y (kAg (zo .u64 a 4294967295) [(7,.int .u64 (qW .u64 a 32)),(8,.int .u64 (zo .u64 y 4294967295)),(9,.int .u64 (qW .u64 y 32)),(10,.int .u64 (wrap .u64 ((zo .u64 a 4294967295)*(zo .u64 y 4294967295))))])) ?_;refine sh fol (kAJ a y (kAg (zo .u64 a 4294967295) [(7,.int .u64 (qW .u64 a 32)),(9,.int .u64 (qW .u64 y 32)),(11,.int .u64 (wrap .u64 ((wrap .u64 ((qW .u64 a 32)*(zo .u64 y 4294967295)))+(qW .u64 (wrap .u64 ((zo .u64 a 4294967295)*(zo .u64 y 4294967295))) 32))))])) ?_;refine sh fol (kAJ a y (kAg (zo .u64 a 4294967295) [(7,.int .u64 (qW .u64 a 32)),(9,.int .u64 (qW .u64 y 32)),(11,.int .u64 (wrap .u64 ((wrap .u64 ((qW .u64 a 32)*(zo .u64 y 4294967295)))+(qW .u64 (wrap .u64 ((zo .u64 a 4294967295)*(zo .u64 y 4294967295))) 32)))),(12,.int .u64 (zo .u64 (wrap .u64 ((wrap .u64 ((qW .u64 a 32)*(zo .u64 y 4294967295)))+(qW .u64 (wrap .u64 ((zo .u64 a 4294967295)*(zo .u64 y 4294967295))) 32))) 4294967295))])) ?_;refine sh fol (kAJ a y (kAg (zo .u64 a 4294967295) [(7,.int .u64 (qW .u64 a 32)),(9,.int .u64 (qW .u64 y 32)),(12,.int .u64 (zo .u64 (wrap .u64 ((wrap .u64 ((qW .u64 a 32)*(zo .u64 y 4294967295)))+(qW .u64 (wrap .u64 ((zo .u64 a 4294967295)*(zo .u64 y 4294967295))) 32))) 4294967295)),(13,.int .u64 (qW .u64 (wrap .u64 ((wrap .u64 ((qW .u64 a 32)*(zo .u64 y 4294967295)))+(qW .u64 (wrap .u64 ((zo .u64 a 4294967295)*(zo .u64 y 4294967295))) 32))) 32))])) ?_;refine sh fol (kAJ a y [(7,.int .u64 (qW .u64 a 32)),(9,.int .u64 (qW .u64 y 32)),(12,.int .u64 (wrap .u64 ((zo .u64 (wrap .u64 ((wrap .u64 ((qW .u64 a 32)*(zo .u64 y 4294967295)))+(qW .u64 (wrap .u64 ((zo .u64 a 4294967295)*(zo .u64 y 4294967295))) 32))) 4294967295)+(wrap .u64 ((zo .u64 a 4294967295)*(qW .u64 y 32)))))),(13,.int .u64 (qW .u64 (wrap .u64 ((wrap .u64 ((qW .u64 a 32)*(zo .u64 y 4294967295)))+(qW .u64 (wrap .u64 ((zo .u64 a 4294967295)*(zo .u64 y 4294967295))) 32))) 32))]) ?_;refine sh fol (kAJ a y [(4,.int .u64 (wrap .u64 ((wrap .u64 ((wrap .u64 ((qW .u64 a 32)*(qW .u64 y 32)))+(qW .u64 (wrap .u64 ((wrap .u64 ((qW .u64 a 32)*(zo .u64 y 4294967295)))+(qW .u64 (wrap .u64 ((zo .u64 a 4294967295)*(zo .u64 y 4294967295))) 32))) 32)))+(qW .u64 (wrap .u64 ((zo .u64 (wrap .u64 ((wrap .u64 ((qW .u64 a 32)*(zo .u64 y 4294967295)))+(qW .u64 (wrap .u64 ((zo .u64 a 4294967295)*(zo .u64 y 4294967295))) 32))) 4294967295)+(wrap .u64 ((zo .u64 a 4294967295)*(qW .u64 y 32))))) 32))))]) ?_;refine sh fol [(4,.int .u64 (wrap .u64 ((wrap .u64 ((wrap .u64 ((qW .u64 a 32)*(qW .u64 y 32)))+(qW .u64 (wrap .u64 ((wrap .u64 ((qW .u64 a 32)*(zo .u64 y 4294967295)))+(qW .u64 (wrap .u64 ((zo .u64 a 4294967295)*(zo .u64 y 4294967295))) 32))) 32)))+(qW .u64 (wrap .u64 ((zo .u64 (wrap .u64 ((wrap .u64 ((qW .u64 a 32)*(zo .u64 y 4294967295)))+(qW .u64 (wrap .u64 ((zo .u64 a 4294967295)*(zo .u64 y 4294967295))) 32))) 4294967295)+(wrap .u64 ((zo .u64 a 4294967295)*(qW .u64 y 32))))) 32)))),(5,.int .u64 (wrap .u64 (a*y)))] ?_;refine Goes.ret ?_;obtain rfl:=si h;exact(gw2 [.int .u64 (wrap .u64 ((wrap .u64 ((wrap .u64 ((qW .u64 a 32)*(qW .u64 y 32)))+(qW .u64 (wrap .u64 ((wrap .u64 ((qW .u64 a 32)*(zo .u64 y 4294967295)))+(qW .u64 (wrap .u64 ((zo .u64 a 4294967295)*(zo .u64 y 4294967295))) 32))) 32)))+(qW .u64 (wrap .u64 ((zo .u64 (wrap .u64 ((wrap .u64 ((qW .u64 a 32)*(zo .u64 y 4294967295)))+(qW .u64 (wrap .u64 ((zo .u64 a 4294967295)*(zo .u64 y 4294967295))) 32))) 4294967295)+(wrap .u64 ((zo .u64 a 4294967295)*(qW .u64 y 32))))) 32))),.int .u64 (wrap .u64 (a*y))] (FzW.tuple (qh.cons (Ua tI) (qh.cons (Ua tI) qh.nil))))
def qaL (n:Int):Option Int:=
 if n<0 then
 some (wrap .u64 (w64 (0-n)))
 else
 some (wrap .u64 n)
theorem qd2 (n:Int) {res:Int} (h:qaL n=some res):qf ZT (.fn 255) [.i n] [] (.int .u64 res) []:=by
 unfold qaL at h;refine Ub Tryz.func255 rfl rfl (m:=10) rfl (rs:=[.tmp 2]) rfl (l:=[(0,.i n)]) rfl ?_;refine sh fol [(0,.i n)] ?_;refine sq ?_;refine sh fol ((0,.i n)::(kAk (decide (n<0)))) ?_;refine ihD h (fun a h=>?_) (fun a h=>?_)
 ·refine sh fol [(2,.int .u64 (wrap .u64 (w64 (0-n))))] ?_;refine Goes.ret ?_;obtain rfl:=si h;exact(gw2 [.int .u64 (wrap .u64 (w64 (0-n)))] (Ua tI))
 refine Goes.skip ?_;refine sh fol [(2,.int .u64 (wrap .u64 n))] ?_;refine Goes.ret ?_;obtain rfl:=si h;exact(gw2 [.int .u64 (wrap .u64 n)] (Ua tI))
def zy (a:qC) (b:qC):Option qC:=
 (if a.w.isEmpty=true then
 some b.w.isEmpty
 else
 some false:Option Bool).bind fun f=>
 ((if f=true then
 (qaL a.s).bind fun g=>
 (qaL b.s).bind fun h=>
 (bits_Mul64 g h).bind fun c=>
 (if c.1=0 then
 some (decide (c.2<=9223372036854775807))
 else
 some false:Option Bool).bind fun d=>
 if d=true then
 if(!((decide (a.s<0))==(decide (b.s<0))))=true then
 some (.inr (⟨w64 (0-(w64 c.2)),[]⟩:qC))
 else
 some (.inr (⟨w64 c.2,[]⟩:qC))
 else
 some (.inl ())
 else
 some (.inl ()):Option (Unit⊕qC))).bind (fun
 |(.inl ())=>
 none
 |(.inr e)=>
 some e)
theorem jX (a:qC) (b:qC) {res:qC} (h:zy a b=some res):qf ZT (.fn 193) [.agg (nz1 a),.agg (nz1 b)] [] (.agg (nz1 res)) []:=by
 unfold zy at h;refine Ub Tryz.func193 rfl rfl (m:=66) rfl (rs:=[.cell 4 115]) rfl (l:=[(0,.agg (nz1 a)),(1,.agg (nz1 b))]) rfl ?_;refine sg fol (kD []) [.cells (nz1 a),.cells (nz1 b),bZ] ?_;refine sq ?_;refine sq ?_;obtain⟨u,d,h⟩:=bnd h;refine Goes.cut (s':=(ofG 66 (kD [(18,.bool u)]),[.cells (nz1 a),.cells (nz1 b),bZ])) ?_ ?_
 ·rcases wyB d with⟨n,d⟩|⟨n,d⟩
  ·obtain rfl:=si d;exact tr fol [2,3,6] (kD [(18,.bool b.w.isEmpty)]) (ac (hs (.done (.opt (jB ZT .eql 113 (.tmp 12) (.const (.slice none 0 0)) (nvl ZU a.w) .nilslice)) (.bool a.w.isEmpty)) (qag vX)) (ac (gw n) (ac (hs (.done (.opt (jB ZT .eql 113 (.tmp 16) (.const (.slice none 0 0)) (nvl ZU b.w) .nilslice)) (.bool b.w.isEmpty)) (qag vX)) az)))
  obtain rfl:=si d;exact tr fol [2,3] (kD [(18,.bool false)]) (ac (hs (.done (.opt (jB ZT .eql 113 (.tmp 12) (.const (.slice none 0 0)) (nvl ZU a.w) .nilslice)) (.bool a.w.isEmpty)) (qag vX)) (ac (gw n) az))
 obtain⟨r,g4,h⟩:=bnd h;refine Goes.imp (Q:=fun x s'=>(x= .normal/\(.inl ())=r/\Sub s' (ofG 66 (kD []),[.cells (nz1 a),.cells (nz1 b),bZ]))\/(x= .ret/\ ∃t,(.inr t)=r/\qZ ZT [.cell 4 115] (.agg (nz1 t)) .ret s')) ?_ ?_
 ·refine ihB g4 (fun v g4=>?_) (fun v g4=>?_)
  ·obtain⟨y,g,g4⟩:=bnd g4;obtain⟨z,j,g4⟩:=bnd g4;obtain⟨e,k,g4⟩:=bnd g4;refine sq (gr fol [2,5,6] (kD ((5,.int .u64 e.1)::(kAg e.2 []))) (ac (cv (qd2 a.s g)) (ac (cv (qd2 b.s j)) (ac (cv (qeA y z k)) az))) ?_);refine sq ?_;obtain⟨o,c,g4⟩:=bnd g4;refine Goes.cut (s':=(ofG 66 (kD (kAg e.2 [(34,.bool o)])),[.cells (nz1 a),.cells (nz1 b),bZ])) ?_ ?_
   ·rcases wyD c with⟨f,c⟩|⟨f,c⟩
    ·obtain rfl:=si c;exact tr fol [2] (kD (kAg e.2 [(34,.bool (decide (e.2<=9223372036854775807)))])) (ac (gw f) az)
    obtain rfl:=si c;exact tr fol [2] (kD (kAg e.2 [(34,.bool false)])) (ac (gw f) az)
   refine ihB g4 (fun p g4=>?_) (fun p g4=>?_)
   ·refine sq ?_;refine sh fol ((4,.ptr 2 0)::(kAg e.2 [(41,.bool (!((decide (a.s<0))==(decide (b.s<0)))))])) ?_;refine ihB g4 (fun q g4=>?_) (fun q g4=>?_)
    ·refine sg fol kAz (.cells (nz1 a):: .cells (nz1 b)::(kA6 (w64 (0-(w64 e.2))))) ?_;refine Goes.ret ?_;obtain rfl:=si g4;exact Or.inr (⟨rfl,_,rfl,(gw2 [.agg [.i (w64 (0-(w64 e.2))),.nilslice]] (FzW.agg (qh.cons (Ua tI) (qh.cons (FzW.nv0 (E:=ZU)) qh.nil))))⟩)
    refine Goes.skip ?_;refine sg fol kAz (.cells (nz1 a):: .cells (nz1 b)::(kA6 (w64 e.2))) ?_;refine Goes.ret ?_;obtain rfl:=si g4;exact Or.inr (⟨rfl,_,rfl,(gw2 [.agg [.i (w64 e.2),.nilslice]] (FzW.agg (qh.cons (Ua tI) (qh.cons (FzW.nv0 (E:=ZU)) qh.nil))))⟩)
   refine Goes.skip ?_;obtain rfl:=si g4;exact Or.inl (⟨rfl,rfl,(Sub.keep [2,3,4] rfl rfl)⟩)
  refine Goes.skip ?_;obtain rfl:=si g4;exact Or.inl (⟨rfl,rfl,(Sub.keep [2,3,4] rfl rfl)⟩)
 rintro x s' (⟨rfl,rfl,hsub⟩|⟨rfl,A,rfl,hret⟩)
 ·try dsimp only at h
  refine Goes.sub hsub ?_;refine sq ?_;cases h
 try dsimp only at h
 obtain rfl:=si h;exact hret
def xH:Nat->Int->(List Int)->Int->(List Int)->Int->Option (Int×(List Int))
 |0,_,_,_,_,_=>none
 |K+1,e,f,h,i,g=>
  if g>0 then
  ((((if(zo .i64 g 1)=1 then
  (zy (⟨h,i⟩:qC) (⟨e,f⟩:qC)).bind fun a=>
  some (a.s,a.w)
  else
  some (h,i):Option (Int×(List Int)))).bind fun(b,c)=>
  if g>1 then
  (zy (⟨e,f⟩:qC) (⟨e,f⟩:qC)).bind fun d=>
  some (d.s,d.w,b,c)
  else
  some (e,f,b,c):Option (Int×(List Int)×Int×(List Int)))).bind fun(j,k,l,m)=>
  xH K j k l m (qW .i64 g 1)
  else
  some (h,i)
def qdT (N:Nat) (a:qC) (k:Int):Option qC:=
 (qdo 1).bind fun b=>
 (xH N a.s a.w b.s b.w k).bind fun(c,d)=>
 some (⟨c,d⟩:qC)
theorem qgS (N:Nat) (a:qC) (k:Int) {res:qC} (h:qdT N a k=some res):qf ZT (.fn 194) [.agg (nz1 a),.i k] [] (.agg (nz1 res)) []:=by
 unfold qdT at h;refine Ub Tryz.func194 rfl rfl (m:=23) rfl (rs:=[.cell 4 115]) rfl (l:=((0,.agg (nz1 a))::(kBC k))) rfl ?_;refine sg fol ((1,.i k)::(kW kA0)) [.cells (nz1 a),bZ] ?_;obtain⟨B,y,h⟩:=bnd h;refine sq (gq fol [0,2] ((1,.i k)::(kW (kAM []))) [.cells (nz1 a),bZ,.cells (nz1 B)] (ac (cv (qbT 1 y)) (ac (hs (.run [2] (qA ZT 115 (.ptr 2 0) (.agg (nz1 B))) [.cells (nz1 a),bZ,bZ] .undef [.cells (nz1 a),bZ,.cells (nz1 B)] true) (zD (n:=2) (by kernel_rfl) rfl rfl rfl rfl (cac rfl (cac nvc can)) rfl)) az)) ?_);refine sq (Goes.block ?_);obtain⟨H,g9,h⟩:=bnd h;refine Goes.imp (Q:=fun x s'=>(x= .exit 0/\ ∃g j,(g,j)=H/\Sub s' (ofG 23 ((4,.ptr 0 0)::(kAs [])),[bZ,.cells (ni1 g j)]))) ?_ ?_
 ·refine Uc (fun M s=> ∃(e:Int) (f:List Int) (z:Int) (A:List Int) (b:Int),s=(ofG 23 ((1,.i b)::(kW (kAM []))),[.cells (ni1 e f),bZ,.cells (ni1 z A)])/\xH M e f z A b=some H) ?_ (m:=N) ⟨_,_,_,_,_,rfl,g9⟩;rintro M s ⟨e,f,z,A,b,rfl,g9⟩
  cases M with
  |zero=>simp only[xH]at g9;cases g9
  |succ M=>
   rw[xH]at g9;refine sq ?_;refine sh fol ((1,.i b)::(kW (kAM (kA5 (decide (b>0)))))) ?_;refine ihD g9 (fun C g9=>?_) (fun C g9=>?_)
   ·refine Goes.skip ?_;refine sq ?_;obtain⟨D,g15,g9⟩:=bnd g9;refine Goes.imp (Q:=fun x s'=>(x= .normal/\ ∃o p q r,(o,p,q,r)=D/\Sub s' (ofG 23 ((1,.i b)::(kW (kAM []))),[.cells (ni1 o p),bZ,.cells (ni1 q r)]))) ?_ ?_
    ·refine Goes.block ?_;refine sq ?_;refine sh fol ((1,.i b)::(kW (kAM (kA2 (decide ((zo .i64 b 1)=1)))))) ?_;obtain⟨E,g18,g15⟩:=bnd g15;refine Goes.imp (Q:=fun x s'=>(x= .normal/\ ∃c d,(c,d)=E/\Sub s' (ofG 23 ((1,.i b)::(kW (kAM []))),[.cells (ni1 e f),bZ,.cells (ni1 c d)]))) ?_ ?_
     ·refine ihD g18 (fun F g18=>?_) (fun F g18=>?_)
      ·obtain⟨t,u,g18⟩:=bnd g18;refine gq fol [2,3] ((1,.i b)::(kW (kAM []))) [.cells (ni1 e f),bZ,.cells (nz1 t)] (ac (cv (jX (⟨z,A⟩:qC) (⟨e,f⟩:qC) u)) (ac (hs (.run [2] (qA ZT 115 (.ptr 2 0) (.agg (nz1 t))) [.cells (ni1 e f),bZ,.cells (ni1 z A)] .undef [.cells (ni1 e f),bZ,.cells (nz1 t)] true) (zD (n:=2) (by kernel_rfl) rfl rfl rfl rfl (cac rfl (cac nvc can)) rfl)) az)) ?_;obtain rfl:=si g18;exact⟨rfl,_,_,rfl,(Sub.refl _)⟩
      refine Goes.skip ?_;obtain rfl:=si g18;exact⟨rfl,_,_,rfl,(Sub.keep [1,2,4,5] rfl rfl)⟩
     rintro x s' ⟨rfl,c,d,rfl,hsub⟩
     try dsimp only at g15
     refine Goes.sub hsub ?_;refine sh fol ((1,.i b)::(kW (kAM [(18,.bool (decide (b>1)))]))) ?_;refine ihD g15 (fun G g15=>?_) (fun G g15=>?_)
     ·obtain⟨v,w,g15⟩:=bnd g15;refine gq fol [2,3] ((1,.i b)::(kW (kAM []))) [.cells (nz1 v),bZ,.cells (ni1 c d)] (ac (cv (jX (⟨e,f⟩:qC) (⟨e,f⟩:qC) w)) (ac (hs (.run [0] (qA ZT 115 (.ptr 0 0) (.agg (nz1 v))) [.cells (ni1 e f),bZ,.cells (ni1 c d)] .undef [.cells (nz1 v),bZ,.cells (ni1 c d)] true) (zD (n:=2) (by kernel_rfl) rfl rfl rfl rfl (cac rfl (cac nvc can)) rfl)) az)) ?_;obtain rfl:=si g15;exact⟨rfl,_,_,_,_,rfl,(Sub.refl _)⟩
     refine Goes.skip ?_;obtain rfl:=si g15;exact⟨rfl,_,_,_,_,rfl,(Sub.keep [1,2,4,5] rfl rfl)⟩
    rintro x s' ⟨rfl,o,p,q,r,rfl,hsub⟩
    try dsimp only at g9
    refine Goes.sub hsub ?_;refine gh fol ((1,.i (qW .i64 b 1))::(kW (kAM []))) ?_;exact⟨M,(ofG 23 ((1,.i (qW .i64 b 1))::(kW (kAM []))),[.cells (ni1 o p),bZ,.cells (ni1 q r)]),Nat.lt_succ_self _,(Sub.refl _),_,_,_,_,_,rfl,g9⟩
   refine Goes.exit ?_;obtain rfl:=si g9;exact⟨rfl,_,_,rfl,(Sub.norm [] [some 1,some 2] rfl rfl (.drop (.drop (.kp (.kp .nil)))) (.kb rfl (.same sn) (.kb rfl (.same sn) .nil)))⟩
 rintro x s' ⟨rfl,g,j,rfl,hsub⟩
 try dsimp only at h
 refine Goes.sub hsub ?_;refine sq (gq fol [1] [(4,.ptr 0 0)] [.cells (ni1 g j),.cells (ni1 g j)] (ac (hs (.run [0] (qA ZT 115 (.ptr 0 0) (.agg (ni1 g j))) [bZ,.cells (ni1 g j)] .undef [.cells (ni1 g j),.cells (ni1 g j)] true) (zD (n:=2) (by kernel_rfl) rfl rfl rfl rfl (cac rfl (cac nvc can)) rfl)) az) ?_);refine Goes.ret ?_;obtain rfl:=si h;exact(gw2 [.agg (ni1 g j)] (FzW.agg (qh.cons (Ua tI) (qh.cons (Ua (qx ZU _ (nl rfl))) qh.nil))))
end Go.Av
