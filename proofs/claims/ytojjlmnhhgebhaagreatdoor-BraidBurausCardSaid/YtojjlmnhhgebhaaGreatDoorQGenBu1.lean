/-
  Walks of functions: what each computes, as a plain function.
-/
import Derived.Test.YtojjlmnhhgebhaaGreatDoorAvJnB8
open Go.IntKind(wrap)
noncomputable section
namespace Go.Av
open Go.Proofs Go.RowKit
abbrev ZU:=qa .u64
abbrev ZT:=Tryz.prog
set_option linter.unusedSectionVars false
set_option linter.unusedVariables false
set_option linter.unusedSimpArgs false
set_option maxRecDepth 100000
theorem fol:Tryz.prog.follows .mixedOrders=true:=by kernel_rfl
structure qF where
 neg:Bool
 w:List Int
def qkL:Enc qF:=(encB.prod (qE encI)).comap fun x=>(x.neg,x.w)
instance:SE qkL:=⟨nl rfl⟩
structure qo where
 s:Int
 w:List Int
def qjJ:Enc qo:=(encI.prod (qne ZU)).comap fun x=>(x.s,x.w)
instance:SE qjJ:=⟨nl rfl⟩
structure qj where
 Num:qo
 Den:qo
def qb:Enc qj:=(qjJ.prod qjJ).comap fun x=>(x.Num,x.Den)
instance:SE qb:=⟨nl rfl⟩
instance:SE (qE qb):=⟨nl rfl⟩
abbrev kA {α3:Type} {α4:Type} (a:List Int) (b:List Int) (c:Int) (d:List α3) (e:List α4) (f:Int) (x:List (Nat×AV)):List (Nat×AV):=(8,vl encI a)::(9,vl encI b)::(10,.i c)::(11,.oslice 0 d.length 1)::(12,.slice 1 0 e.length e.length 1)::(13,.i f)::x
abbrev kB (a:List Int) (x:List Blk):List Blk:= .cells (a.flatMap encI.c)::x
abbrev kC {α3:Type} (a:Int) (b:List Int) (c:Str) (d:List α3) (e:Int) (f:Int) (g:Int) (x:List (Nat×AV)):List (Nat×AV):=(0,.i a)::(1,vl encI b)::(2,.str c)::(7,.gslice 0 d.length 1)::(10,.i e)::(11,.i f)::(12,.i g)::x
abbrev kD {α0:Type} (a:List α0) (x:List (Nat×AV)):List (Nat×AV):=(5,.slice 0 0 a.length a.length 1)::x
abbrev kE {α0:Type} (a:List α0) (x:List (Nat×AV)):List (Nat×AV):=(5,.ptr 0 0)::(7,.slice 1 0 a.length a.length 1)::x
abbrev kF {α0:Type} {α2:Type} (a:List α0) (b:Int) (c:List α2) (x:List (Nat×AV)):List (Nat×AV):=(11,.slice 0 0 a.length a.length 1)::(12,.i b)::(13,.slice 1 0 c.length c.length 1)::x
abbrev kG (x:List (Nat×AV)):List (Nat×AV):=(2,.ptr 0 0)::(3,.ptr 1 0)::(4,.ptr 2 0)::x
abbrev kH (a:List Int) (b:List Int) (x:List (Nat×AV)):List (Nat×AV):=(0,vl encI a)::(1,vl encI b)::x
abbrev kI (a:List Str) (x:List Blk):List Blk:= .cells (a.flatMap encS.c)::x
abbrev kJ (a:Int) (b:Int) (c:Int) (d:Int) (x:List (Nat×AV)):List (Nat×AV):=(2,.int .u64 a)::(8,.int .u64 b)::(9,.int .u64 c)::(10,.int .u64 d)::x
abbrev kK (x:List Blk):List Blk:= .cells [.i 0,.nilslice,.i 0,.nilslice]::x
abbrev kM (a:Int) (b:List Int) (c:Str) (x:List (Nat×AV)):List (Nat×AV):=(0,.i a)::(1,vl encI b)::(2,.str c)::x
abbrev kN {α3:Type} (a:List Int) (b:Int) (c:Int) (d:List α3) (e:Int) (f:Int) (x:List (Nat×AV)):List (Nat×AV):=(39,vl encI a)::(40,.i b)::(41,.i c)::(51,.slice 1 0 d.length d.length 1)::(52,.i e)::(53,.i f)::x
abbrev kO (x:List Blk):List Blk:= .cells [.i 0,.nilslice,.i 0,.nilslice,.i 0,.nilslice,.i 0,.nilslice,.i 0,.nilslice,.i 0,.nilslice,.i 0,.nilslice,.i 0,.nilslice]::x
abbrev kP (a:Bool) (b:List Int) (c:Bool) (d:List Int) (x:List Blk):List Blk:= .cells [.bool a,vl encI b]:: .cells [.bool c,vl encI d]::x
abbrev kQ (a:List qj) (x:List Blk):List Blk:= .cells (a.flatMap qb.c)::x
abbrev kR (a:Int) (b:Int) (c:Int) (x:List (Nat×AV)):List (Nat×AV):=(14,.int .u64 a)::(15,.int .u64 b)::(16,.int .u64 c)::x
abbrev kS (x:List Blk):List Blk:= .cells [.bool false,.nilslice]::x
abbrev kT {α0:Type} (a:List α0) (x:List (Nat×AV)):List (Nat×AV):=(6,.slice 0 0 a.length a.length 1)::x
abbrev kU (a:Int) (b:Int) (x:List (Nat×AV)):List (Nat×AV):=(5,.i a)::(6,.int .u64 b)::x
abbrev kV (a:Str) (b:Str) (x:List (Nat×AV)):List (Nat×AV):=(0,.str a)::(1,.str b)::x
abbrev kW (a:Str) (b:Bool) (x:List (Nat×AV)):List (Nat×AV):=(0,.str a)::(2,.ptr 0 0)::(3,.bool b)::x
abbrev kX (a:Int) (b:Int) (x:List (Nat×AV)):List (Nat×AV):=(0,.int .u64 a)::(1,.int .u64 b)::x
abbrev kY (a:Int) (b:List Int) (x:List (Nat×AV)):List (Nat×AV):=(0,.i a)::(1,vl encI b)::x
abbrev kZ (a:Int) (b:Int) (x:List (Nat×AV)):List (Nat×AV):=(11,.int .u64 a)::(12,.int .u64 b)::x
abbrev kAA (a:Int) (x:List (Nat×AV)):List (Nat×AV):=(1,.i a)::(2,.ptr 0 0)::(4,.ptr 1 0)::(5,.ptr 2 0)::x
abbrev kAB (a:Int) (b:Int) (x:List (Nat×AV)):List (Nat×AV):=(7,.int .u64 a)::(8,.int .u64 b)::x
abbrev kAC {α0:Type} (a:List α0) (x:List (Nat×AV)):List (Nat×AV):=(6,.gslice 0 a.length 1)::x
abbrev kAD (a:Int) (b:Int) (x:List (Nat×AV)):List (Nat×AV):=(21,.i a)::(22,.i b)::x
abbrev kAE (x:List (Nat×AV)):List (Nat×AV):=(2,.ptr 0 0)::x
abbrev kAF {α0:Type} (a:List α0) (b:List qj) (c:Int) (x:List (Nat×AV)):List (Nat×AV):=(3,.slice 0 0 a.length a.length 1)::(9,vl qb b)::(10,.i c)::x
abbrev kAG {α0:Type} (a:List α0) (x:List (Nat×AV)):List (Nat×AV):=(5,.gslice 0 a.length 1)::x
abbrev kAH (a:Str) (b:Str) (c:Bool) (x:List (Nat×AV)):List (Nat×AV):=(5,.str a)::(6,.str b)::(7,.bool c)::x
abbrev kAI (a:Int) (b:Int):List (Nat×AV):=[(7,.i a),(8,.i b)]
abbrev kAJ (a:Int) (x:List (Nat×AV)):List (Nat×AV):=(6,.int .u64 a)::x
abbrev kAK (a:Int) (b:Int) (x:List (Nat×AV)):List (Nat×AV):=(0,.i a)::(1,.i b)::x
abbrev kAL (a:List Int) (x:List (Nat×AV)):List (Nat×AV):=(0,vl encI a)::x
abbrev kAN (a:Int) (b:Int):List (Nat×AV):=[(13,.i a),(14,.i b)]
abbrev kAO {α0:Type} (a:List α0) (x:List (Nat×AV)):List (Nat×AV):=(7,.slice 1 0 a.length a.length 4)::x
abbrev kAP (a:Int) (b:Int) (x:List (Nat×AV)):List (Nat×AV):=(11,.int .u64 a)::(13,.int .u64 b)::x
abbrev kAQ (a:Int) (b:Int):List (Nat×AV):=[(20,.i a),(21,.i b)]
abbrev kAR {α0:Type} (a:List α0) (x:List (Nat×AV)):List (Nat×AV):=(7,.gslice 0 a.length 1)::x
abbrev kAS (a:Int) (b:Int) (x:List (Nat×AV)):List (Nat×AV):=(6,.i a)::(7,.i b)::x
abbrev kAT (a:Bool) (b:List Int) (x:List Blk):List Blk:= .cells [.bool a,vl encI b]::x
abbrev kAU (a:List Int):List Blk:=[.frozen (a.flatMap encI.c)]
abbrev kAV (a:Int) (b:Int) (x:List (Nat×AV)):List (Nat×AV):=(17,.int .u64 a)::(18,.int .u64 b)::x
abbrev kAW (x:List (Nat×AV)):List (Nat×AV):=(3,.ptr 1 0)::(4,.ptr 2 0)::(5,.ptr 3 0)::x
abbrev kAX {α3:Type} (a:List Int) (b:List Int) (c:Int) (d:List α3) (x:List (Nat×AV)):List (Nat×AV):=(8,vl encI a)::(9,vl encI b)::(10,.i c)::(11,.oslice 0 d.length 1)::x
abbrev kAY (a:Str):List (Nat×AV):=[(0,.str a)]
abbrev kAZ (a:Int) (x:List (Nat×AV)):List (Nat×AV):=(7,.int .u64 a)::x
abbrev kAa (a:Bool) (b:List Int):List AV:=[.bool a,vl encI b]
abbrev kAb (x:List (Nat×AV)):List (Nat×AV):=(1,.ptr 0 0)::(2,.ptr 1 0)::x
abbrev kAc:List (Nat×AV):=[(4,.ptr 2 0)]
abbrev kAd (a:Int) (b:Int) (c:Int) (x:List (Nat×AV)):List (Nat×AV):=(14,.i a)::(15,.i b)::(16,.i c)::x
abbrev kAe (a:Str) (b:Str) (x:List (Nat×AV)):List (Nat×AV):=(13,.str a)::(14,.str b)::x
abbrev kAf (a:Int) (x:List (Nat×AV)):List (Nat×AV):=(11,.i a)::(12,.ptr 2 0)::x
abbrev kAg (a:Str) (b:Int) (x:List (Nat×AV)):List (Nat×AV):=(0,.str a)::(3,.i b)::x
abbrev kAh (a:Str) (b:Int) (x:List (Nat×AV)):List (Nat×AV):=(3,.str a)::(4,.i b)::x
abbrev kAi {α0:Type} (a:List α0) (b:Bool) (x:List (Nat×AV)):List (Nat×AV):=(3,.gslice 1 a.length 1)::(4,.bool b)::x
abbrev kAj (a:Int) (b:Int) (c:Int) (d:Int) (x:List (Nat×AV)):List (Nat×AV):=(2,.i a)::(7,.i b)::(9,.i c)::(10,.i d)::x
abbrev kAk (x:List (Nat×AV)):List (Nat×AV):=(4,.ptr 0 0)::x
abbrev kAl (a:Int) (b:Int) (x:List (Nat×AV)):List (Nat×AV):=(8,.i a)::(9,.i b)::x
abbrev kAm:List (Nat×AV):=[(4,.bool false)]
abbrev kAn (a:Bool) (b:List Int) (c:Bool) (d:List Int):List AV:=[.agg [.bool a,vl encI b],.agg [.bool c,vl encI d]]
abbrev kAo (a:Int) (b:Int):List (Nat×AV):=[(104,.i a),(105,.i b)]
abbrev kAp (a:Int) (b:Int):List (Nat×AV):=[(28,.i a),(29,.i b)]
abbrev kAq (a:Bool):List (Nat×AV):=[(4,.bool a)]
abbrev kAr (a:List Int) (b:Int) (c:Int) (x:List (Nat×AV)):List (Nat×AV):=(39,vl encI a)::(40,.i b)::(41,.i c)::x
abbrev kAs (a:Int) (b:Int) (c:Int) (x:List (Nat×AV)):List (Nat×AV):=(17,.int .u64 a)::(156,.i b)::(157,.i c)::x
abbrev kAt (a:Int):List (Nat×AV):=[(5,.i a)]
abbrev kAu (x:List (Nat×AV)):List (Nat×AV):=(1,.ptr 0 0)::x
abbrev kAv (x:List (Nat×AV)):List (Nat×AV):=(0,.slice 0 0 1 1 4)::x
abbrev kAw (a:Int) (b:Int):List AV:=[.int .u64 a,.int .u64 b]
abbrev kAx (a:Str) (b:Bool) (x:List (Nat×AV)):List (Nat×AV):=(5,.str a)::(6,.bool b)::x
abbrev kAy (a:Int) (b:Int):List (Nat×AV):=[(96,.i a),(97,.i b)]
abbrev kAz (a:Int):List Blk:=[.cells [.i a,.nilslice]]
abbrev kA0 (a:List Str) (b:List Str) (x:List (Nat×AV)):List (Nat×AV):=(0,vl encS a)::(1,vl encS b)::x
abbrev kA1 (a:List qj) (x:List (Nat×AV)):List (Nat×AV):=(0,vl qb a)::x
abbrev kA2 (a:Int) (b:Int) (x:List (Nat×AV)):List (Nat×AV):=(14,.int .u64 a)::(15,.int .u64 b)::x
abbrev kA3:List (Nat×AV):=[(4,.ptr 1 0)]
abbrev kA4:List Blk:=[.cells (([]:List Int).flatMap encI.c)]
abbrev kA5 (x:List (Nat×AV)):List (Nat×AV):=(3,.ptr 1 0)::x
abbrev kA6 (a:Int) (x:List Blk):List Blk:= .dead:: .cells [.i a]::x
abbrev kA7 (a:Int) (b:Int):List Blk:=[.cells [.i a,.i b]]
abbrev kA8 (a:Bool):List (Nat×AV):=[(12,.bool a)]
abbrev kA9 (a:Bool):List (Nat×AV):=[(10,.bool a)]
abbrev kBA (a:Int):List (Nat×AV):=[(2,.i a)]
abbrev kBB (a:List Int) (x:List (Nat×AV)):List (Nat×AV):=(5,vl encI a)::x
abbrev kBC (a:Bool):List (Nat×AV):=[(13,.bool a)]
abbrev kBD (a:List Int) (b:List Int):List AV:=[vl encI a,vl encI b]
abbrev kBE (a:Int) (x:List (Nat×AV)):List (Nat×AV):=(0,.int .u64 a)::x
abbrev kBF:List (Nat×AV):=[(4,.i (-1))]
abbrev kBG {α0:Type} (a:List α0) (x:List (Nat×AV)):List (Nat×AV):=(14,.gslice 3 a.length 4)::(15,.ptr 4 0)::(16,.ptr 5 0)::x
abbrev kBH (a:Int):List (Nat×AV):=[(8,.i a)]
abbrev kBI {α0:Type} (a:List α0) (x:List (Nat×AV)):List (Nat×AV):=(5,.gslice 2 a.length 1)::x
abbrev kBJ (a:Bool):List (Nat×AV):=[(8,.bool a)]
abbrev kBK (x:List (Nat×AV)):List (Nat×AV):=(10,.ptr 1 0)::x
abbrev kBM:List (Nat×AV):=[(2,.ptr 1 0)]
abbrev kBN (a:Int):List (Nat×AV):=[(4,.i a)]
abbrev kBO (a:Str):List (Nat×AV):=[(4,.str a)]
abbrev kBP (x:List (Nat×AV)):List (Nat×AV):=(8,.int .u64 0)::x
abbrev nz1 (x:qo):List AV:=ni1 x.s x.w
abbrev nq1 (x:qj):List AV:=ni2 x.Num.s x.Num.w x.Den.s x.Den.w
abbrev nq4 (x y z w:qj):List AV:=[.i x.Num.s,nvl ZU x.Num.w,.i x.Den.s,nvl ZU x.Den.w,.i y.Num.s,nvl ZU y.Num.w,.i y.Den.s,nvl ZU y.Den.w,.i z.Num.s,nvl ZU z.Num.w,.i z.Den.s,nvl ZU z.Den.w,.i w.Num.s,nvl ZU w.Num.w,.i w.Den.s,nvl ZU w.Den.w]
abbrev nb4 (a:(qj×qj)×(qj×qj)):List AV:=nq4 a.1.1 a.1.2 a.2.1 a.2.2
theorem ji:SlT ZT 22 3 1 8:=⟨by kernel_rfl,by kernel_rfl,by kernel_rfl,by kernel_rfl⟩
theorem ce3:CeT ZT 3:=⟨by kernel_rfl,by kernel_rfl⟩
theorem st9:Tryz.prog.underlying 9=some .string:=by kernel_rfl
theorem qlm:Tryz.prog.underlying 23=some .string:=by kernel_rfl
theorem qq2:SlT ZT 129 30 1 8:=⟨by kernel_rfl,by kernel_rfl,by kernel_rfl,by kernel_rfl⟩
theorem ce30:CeT ZT 30:=⟨by kernel_rfl,by kernel_rfl⟩
theorem qaC:Tryz.prog.underlying 77=some (.slice 214):=by kernel_rfl
theorem zM:SlT ZT 77 214 1 8:=⟨by kernel_rfl,by kernel_rfl,by kernel_rfl,by kernel_rfl⟩
theorem zS:CeT ZT 214:=⟨by kernel_rfl,by kernel_rfl⟩
theorem qm5:SlT ZT 75 84 1 24:=⟨by kernel_rfl,by kernel_rfl,by kernel_rfl,by kernel_rfl⟩
theorem qgS:SlT ZT 84 81 4 64:=⟨by kernel_rfl,by kernel_rfl,by kernel_rfl,by kernel_rfl⟩
theorem ce84:CeT ZT 84:=⟨by kernel_rfl,by kernel_rfl⟩
theorem ag81:AgT ZT 81 4:=⟨by kernel_rfl,by kernel_rfl⟩
theorem qqX:SlT ZT 250 9 1 16:=⟨by kernel_rfl,by kernel_rfl,by kernel_rfl,by kernel_rfl⟩
theorem ce9:CeT ZT 9:=⟨by kernel_rfl,by kernel_rfl⟩
theorem qgn:SlT ZT 59 23 1 16:=⟨by kernel_rfl,by kernel_rfl,by kernel_rfl,by kernel_rfl⟩
theorem qhD:SlT ZT 29 59 1 24:=⟨by kernel_rfl,by kernel_rfl,by kernel_rfl,by kernel_rfl⟩
theorem qjc:CeT ZT 59:=⟨by kernel_rfl,by kernel_rfl⟩
theorem qnV:CeT ZT 23:=⟨by kernel_rfl,by kernel_rfl⟩
def yo (l:List Int):Nat->Int->Option (Unit⊕Int)
 |0,_=>none
 |K+1,a=>
  if a<(l.length:Int)then
  (idx l a).bind fun b=>
  if(!decide (b=0))=true then
  some (.inr b)
  else
  yo l K (w64 (a+1))
  else
  some (.inl ())
def qa6 (N:Nat) (l:List Int):Option Int:=
 (yo l N 0).bind (fun
 |(.inl ())=>
 some 0
 |(.inr a)=>
 some a)
theorem qhR (N:Nat) (l:List Int) {res:Int} (h:qa6 N l=some res):qc ZT (.fn 5) [vl encI l] [] (.i res) []:=by
 unfold qa6 at h;refine Ub Tryz.func5 rfl rfl (m:=19) rfl (rs:=[.tmp 2]) rfl (l:=(kAL l [])) rfl ?_;refine sh fol (kAL l []) ?_;refine sq ?_;refine sh fol (kAL l [(3,.i 0)]) ?_;refine Goes.block ?_;obtain⟨c,g2,h⟩:=bnd h;refine Goes.imp (Q:=fun x s'=>(x= .exit 0/\(.inl ())=c/\Sub s' (ofG 19 [],[]))\/(x= .ret/\ ∃e,(.inr e)=c/\zJ ZT [.tmp 2] (.i e) .ret s')) ?_ ?_
 ·refine Ud (fun M s=> ∃(b:Int),s=(ofG 19 (kAL l [(3,.i b)]),[])/\yo l M b=some c) ?_ (m:=N) ⟨_,rfl,g2⟩;rintro M s ⟨b,rfl,g2⟩
  cases M with
  |zero=>simp only[yo]at g2;cases g2
  |succ M=>
   rw[yo]at g2;refine sq ?_;refine sh fol (kAL l [(3,.i b),(7,.bool (decide (b<(l.length:Int))))]) ?_;refine ihD g2 (fun f g2=>?_) (fun f g2=>?_)
   ·refine Goes.skip ?_;refine sq (Goes.block ?_);obtain⟨d,a,g2⟩:=bnd g2;refine sq (gr fol [2,3] (kAL l [(3,.i b),(14,.bool (!decide (d=0)))]) (ac (iv ji encI a) (ac (lv 0 ce3 encI a rfl) az)) ?_);refine ihB g2 (fun g g2=>?_) (fun g g2=>?_)
    ·refine sq (gr fol [2,3] (kBA d) (ac (iv ji encI a) (ac (lv 0 ce3 encI a rfl) az)) ?_);refine Goes.ret ?_;obtain rfl:=si g2;exact Or.inr (⟨rfl,_,rfl,(gw2 [.i d] (Ua tI))⟩)
    refine Goes.skip ?_;refine gh fol (kAL l [(3,.i (w64 (b+1)))]) ?_;exact⟨M,(ofG 19 (kAL l [(3,.i (w64 (b+1)))]),[]),Nat.lt_succ_self _,(Sub.refl _),_,rfl,g2⟩
   refine Goes.exit ?_;obtain rfl:=si g2;exact Or.inl (⟨rfl,rfl,(Sub.keep [] rfl rfl)⟩)
 rintro x s' (⟨rfl,rfl,hsub⟩|⟨rfl,j,rfl,hret⟩)
 ·try dsimp only at h
  refine Goes.sub hsub ?_;refine sh fol [(2,.i 0)] ?_;refine Goes.ret ?_;obtain rfl:=si h;exact(gw2 [.i 0] (Ua tI))
 try dsimp only at h
 obtain rfl:=si h;exact hret
def qbb (n:Int) (c:Int):Option Bool:=
 (if(!decide (c=0))=true then
 if c>(w64 (0-n))then
 some (decide (c<n))
 else
 some false
 else
 some false:Option Bool).bind fun a=>
 some a
theorem qgV (n:Int) (c:Int) {res:Bool} (h:qbb n c=some res):qc ZT (.fn 28) [.i n,.i c] [] (.bool res) []:=by
 unfold qbb at h;refine Ub Tryz.func28 rfl rfl (m:=18) rfl (rs:=[.tmp 4]) rfl (l:=(kAK n c [])) rfl ?_;refine sh fol (kAK n c []) ?_;refine sq ?_;obtain⟨e,a,h⟩:=bnd h;refine Ue (s':=(ofG 18 (kAq e),[])) ?_ ?_
 ·rcases wyB a with⟨b,a⟩|⟨b,a⟩
  ·rcases wyD a with⟨d,a⟩|⟨d,a⟩
   ·obtain rfl:=si a;exact tr fol [2,8] (kAq (decide (c<n))) (ac (gw b) (ac (gw d) az))
   obtain rfl:=si a;exact tr fol [2,8] kAm (ac (gw b) (ac (gw d) az))
  obtain rfl:=si a;exact tr fol [2] kAm (ac (gw b) az)
 refine Goes.ret ?_;obtain rfl:=si h;exact(gw2 [.bool e] (Ua tB))
def zZ (n:Int) (w:List Int):Nat->Int->Option (Unit⊕Int)
 |0,_=>none
 |K+1,a=>
  if a<(w.length:Int)then
  (idx w a).bind fun b=>
  (qbb n b).bind fun c=>
  if(!c)=true then
  some (.inr 3)
  else
  zZ n w K (w64 (a+1))
  else
  some (.inl ())
def xP (N:Nat) (n:Int) (w:List Int):Option Int:=
 (if n<1 then
 some true
 else
 some (decide (n>12)):Option Bool).bind fun b=>
 if b=true then
 some 3
 else
 if(w.length:Int)>200 then
 some 5
 else
 (zZ n w N 0).bind (fun
 |(.inl ())=>
 some 0
 |(.inr a)=>
 some a)
theorem qfF (N:Nat) (n:Int) (w:List Int) {res:Int} (h:xP N n w=some res):qc ZT (.fn 6) [.i n,vl encI w] [] (.i res) []:=by
 unfold xP at h;refine Ub Tryz.func6 rfl rfl (m:=28) rfl (rs:=[.tmp 4]) rfl (l:=(kY n w [])) rfl ?_;refine sh fol (kY n w []) ?_;refine sq ?_;refine sq ?_;obtain⟨p,a,h⟩:=bnd h;refine Ue (s':=(ofG 28 (kY n w [(11,.bool p)]),[])) ?_ ?_
 ·rcases wyD a with⟨e,a⟩|⟨e,a⟩
  ·obtain rfl:=si a;exact tr fol [2] (kY n w [(11,.bool true)]) (ac (gw e) az)
  obtain rfl:=si a;exact tr fol [2] (kY n w [(11,.bool (decide (n>12)))]) (ac (gw e) az)
 refine ihB h (fun q h=>?_) (fun q h=>?_)
 ·refine sh fol [(4,.i 3)] ?_;refine Goes.ret ?_;obtain rfl:=si h;exact(gw2 [.i 3] (Ua tI))
 refine Goes.skip ?_;refine sq ?_;refine sh fol (kY n w [(14,.bool (decide ((w.length:Int)>200)))]) ?_;refine ihD h (fun r h=>?_) (fun r h=>?_)
 ·refine sh fol [(4,.i 5)] ?_;refine Goes.ret ?_;obtain rfl:=si h;exact(gw2 [.i 5] (Ua tI))
 refine Goes.skip ?_;refine sq ?_;refine sh fol (kY n w [(5,.i 0)]) ?_;refine Goes.block ?_;obtain⟨f,g7,h⟩:=bnd h;refine Goes.imp (Q:=fun x s'=>(x= .exit 0/\(.inl ())=f/\Sub s' (ofG 28 [],[]))\/(x= .ret/\ ∃o,(.inr o)=f/\zJ ZT [.tmp 4] (.i o) .ret s')) ?_ ?_
 ·refine Ud (fun M s=> ∃(c:Int),s=(ofG 28 (kY n w (kAt c)),[])/\zZ n w M c=some f) ?_ (m:=N) ⟨_,rfl,g7⟩;rintro M s ⟨c,rfl,g7⟩
  cases M with
  |zero=>simp only[zZ]at g7;cases g7
  |succ M=>
   rw[zZ]at g7;refine sq ?_;refine sh fol (kY n w [(5,.i c),(18,.bool (decide (c<(w.length:Int))))]) ?_;refine ihD g7 (fun t g7=>?_) (fun t g7=>?_)
   ·refine Goes.skip ?_;refine sq (Goes.block ?_);obtain⟨g,b,g7⟩:=bnd g7;obtain⟨j,d,g7⟩:=bnd g7;refine sq (gr fol [3,4,5] (kY n w [(5,.i c),(27,.bool (!j))]) (ac (iv ji encI b) (ac (lv 0 ce3 encI b rfl) (ac (cv (qgV n g d)) az))) ?_);refine ihB g7 (fun k g7=>?_) (fun k g7=>?_)
    ·refine sh fol [(4,.i 3)] ?_;refine Goes.ret ?_;obtain rfl:=si g7;exact Or.inr (⟨rfl,_,rfl,(gw2 [.i 3] (Ua tI))⟩)
    refine Goes.skip ?_;refine gh fol (kY n w (kAt (w64 (c+1)))) ?_;exact⟨M,(ofG 28 (kY n w (kAt (w64 (c+1)))),[]),Nat.lt_succ_self _,(Sub.refl _),_,rfl,g7⟩
   refine Goes.exit ?_;obtain rfl:=si g7;exact Or.inl (⟨rfl,rfl,(Sub.keep [] rfl rfl)⟩)
 rintro x s' (⟨rfl,rfl,hsub⟩|⟨rfl,u,rfl,hret⟩)
 ·try dsimp only at h
  refine Goes.sub hsub ?_;refine sh fol [(4,.i 0)] ?_;refine Goes.ret ?_;obtain rfl:=si h;exact(gw2 [.i 0] (Ua tI))
 try dsimp only at h
 obtain rfl:=si h;exact hret
def j6 (b:Str):Nat->Int->Option (Unit⊕Int)
 |0,_=>none
 |K+1,a=>
  if a<(b.length:Int)then
  (idx b a).bind fun c=>
  if(c.toNat:Int)=47 then
  some (.inr a)
  else
  j6 b K (w64 (a+1))
  else
  some (.inl ())
def yR (N:Nat) (a:Str):Option Int:=
 (j6 a N 0).bind (fun
 |(.inl ())=>
 some (a.length:Int)
 |(.inr b)=>
 some b)
theorem qae (N:Nat) (a:Str) {res:Int} (h:yR N a=some res):qc ZT (.fn 29) [.str a] [] (.i res) []:=by
 unfold yR at h;refine Ub Tryz.func29 rfl rfl (m:=17) rfl (rs:=[.tmp 2]) rfl (l:=(kAY a)) rfl ?_;refine sh fol (kAY a) ?_;refine sq ?_;refine sh fol [(0,.str a),(3,.i 0)] ?_;refine Goes.block ?_;obtain⟨d,g2,h⟩:=bnd h;refine Goes.imp (Q:=fun x s'=>(x= .exit 0/\(.inl ())=d/\Sub s' (ofG 17 (kAY a),[]))\/(x= .ret/\ ∃e,(.inr e)=d/\zJ ZT [.tmp 2] (.i e) .ret s')) ?_ ?_
 ·refine Ud (fun M s=> ∃(b:Int),s=(ofG 17 (kAg a b []),[])/\j6 a M b=some d) ?_ (m:=N) ⟨_,rfl,g2⟩;rintro M s ⟨b,rfl,g2⟩
  cases M with
  |zero=>simp only[j6]at g2;cases g2
  |succ M=>
   rw[j6]at g2;refine sq ?_;refine sh fol (kAg a b [(7,.bool (decide (b<(a.length:Int))))]) ?_;refine ihD g2 (fun g g2=>?_) (fun g g2=>?_)
   ·refine Goes.skip ?_;refine sq (Goes.block ?_);obtain⟨f,c,g2⟩:=bnd g2;refine sq (gr fol [2] (kAg a b (kBC (decide ((f.toNat:Int)=47)))) (ac (hs (.done (.opt (yF ZT 9 (.str a) (.i b))) (.int .u8 (f.toNat:Int))) (qaF st9 c)) az) ?_);refine ihD g2 (fun j g2=>?_) (fun j g2=>?_)
    ·refine sh fol (kBA b) ?_;refine Goes.ret ?_;obtain rfl:=si g2;exact Or.inr (⟨rfl,_,rfl,(gw2 [.i b] (Ua tI))⟩)
    refine Goes.skip ?_;refine gh fol (kAg a (w64 (b+1)) []) ?_;exact⟨M,(ofG 17 (kAg a (w64 (b+1)) []),[]),Nat.lt_succ_self _,(Sub.refl _),_,rfl,g2⟩
   refine Goes.exit ?_;obtain rfl:=si g2;exact Or.inl (⟨rfl,rfl,(Sub.keep [0] rfl rfl)⟩)
 rintro x s' (⟨rfl,rfl,hsub⟩|⟨rfl,k,rfl,hret⟩)
 ·try dsimp only at h
  refine Goes.sub hsub ?_;refine sh fol (kBA (a.length:Int)) ?_;refine Goes.ret ?_;obtain rfl:=si h;exact(gw2 [.i (a.length:Int)] (Ua tI))
 try dsimp only at h
 obtain rfl:=si h;exact hret
def jD (a:Str):Nat->Int->Option (Unit⊕Bool)
 |0,_=>none
 |K+1,b=>
  if b<(a.length:Int)then
  ((idx a b).bind fun c=>
  if(c.toNat:Int)<48 then
  some true
  else
  some (decide ((c.toNat:Int)>57)):Option Bool).bind fun d=>
  if d=true then
  some (.inr false)
  else
  jD a K (w64 (b+1))
  else
  some (.inl ())
def qbo (N:Nat) (b:Str):Option Bool:=
 (jD b N 0).bind (fun
 |(.inl ())=>
 some true
 |(.inr a)=>
 some a)
theorem qgR (N:Nat) (b:Str) {res:Bool} (h:qbo N b=some res):qc ZT (.fn 82) [.str b] [] (.bool res) []:=by
 unfold qbo at h;refine Ub Tryz.func82 rfl rfl (m:=20) rfl (rs:=[.tmp 2]) rfl (l:=(kAY b)) rfl ?_;refine sh fol (kAY b) ?_;refine sq ?_;refine sh fol [(0,.str b),(3,.i 0)] ?_;refine Goes.block ?_;obtain⟨f,g2,h⟩:=bnd h;refine Goes.imp (Q:=fun x s'=>(x= .exit 0/\(.inl ())=f/\Sub s' (ofG 20 [],[]))\/(x= .ret/\ ∃j,(.inr j)=f/\zJ ZT [.tmp 2] (.bool j) .ret s')) ?_ ?_
 ·refine Ud (fun M s=> ∃(c:Int),s=(ofG 20 (kAg b c []),[])/\jD b M c=some f) ?_ (m:=N) ⟨_,rfl,g2⟩;rintro M s ⟨c,rfl,g2⟩
  cases M with
  |zero=>simp only[jD]at g2;cases g2
  |succ M=>
   rw[jD]at g2;refine sq ?_;refine sh fol (kAg b c [(7,.bool (decide (c<(b.length:Int))))]) ?_;refine ihD g2 (fun k g2=>?_) (fun k g2=>?_)
   ·refine Goes.skip ?_;refine sq (Goes.block ?_);refine sq ?_;obtain⟨n,a,g2⟩:=bnd g2;refine Ue (s':=(ofG 20 (kAg b c [(19,.bool n)]),[])) ?_ ?_
    ·obtain⟨e,d,a⟩:=bnd a;rcases wyD a with⟨g,a⟩|⟨g,a⟩
     ·obtain rfl:=si a;exact tr fol [2,4] (kAg b c [(19,.bool true)]) (ac (hs (.done (.opt (yF ZT 9 (.str b) (.i c))) (.int .u8 (e.toNat:Int))) (qaF st9 d)) (ac (gw g) az))
     obtain rfl:=si a;exact tr fol [2,4,7] (kAg b c [(19,.bool (decide ((e.toNat:Int)>57)))]) (ac (hs (.done (.opt (yF ZT 9 (.str b) (.i c))) (.int .u8 (e.toNat:Int))) (qaF st9 d)) (ac (gw g) (ac (hs (.done (.opt (yF ZT 9 (.str b) (.i c))) (.int .u8 (e.toNat:Int))) (qaF st9 d)) az)))
    refine ihB g2 (fun o g2=>?_) (fun o g2=>?_)
    ·refine sh fol [(2,.bool false)] ?_;refine Goes.ret ?_;obtain rfl:=si g2;exact Or.inr (⟨rfl,_,rfl,(gw2 [.bool false] (Ua tB))⟩)
    refine Goes.skip ?_;refine gh fol (kAg b (w64 (c+1)) []) ?_;exact⟨M,(ofG 20 (kAg b (w64 (c+1)) []),[]),Nat.lt_succ_self _,(Sub.refl _),_,rfl,g2⟩
   refine Goes.exit ?_;obtain rfl:=si g2;exact Or.inl (⟨rfl,rfl,(Sub.keep [] rfl rfl)⟩)
 rintro x s' (⟨rfl,rfl,hsub⟩|⟨rfl,p,rfl,hret⟩)
 ·try dsimp only at h
  refine Goes.sub hsub ?_;refine sh fol [(2,.bool true)] ?_;refine Goes.ret ?_;obtain rfl:=si h;exact(gw2 [.bool true] (Ua tB))
 try dsimp only at h
 obtain rfl:=si h;exact hret
def jk (N:Nat) (a:Str):Option Bool:=
 (if(a.length:Int)=0 then
 some true
 else
 if(a.length:Int)>1 then
 (idx a 0).bind fun b=>
 some (decide ((b.toNat:Int)=48))
 else
 some false:Option Bool).bind fun c=>
 if c=true then
 some false
 else
 (qbo N a).bind fun d=>
 some d
theorem je (N:Nat) (b:Str) {res:Bool} (h:jk N b=some res):qc ZT (.fn 30) [.str b] [] (.bool res) []:=by
 unfold jk at h;refine Ub Tryz.func30 rfl rfl (m:=18) rfl (rs:=[.tmp 2]) rfl (l:=(kAY b)) rfl ?_;refine sh fol (kAY b) ?_;refine sq ?_;refine sq ?_;obtain⟨k,a,h⟩:=bnd h;refine Ue (s':=(ofG 18 [(0,.str b),(15,.bool k)],[])) ?_ ?_
 ·rcases wyD a with⟨e,a⟩|⟨e,a⟩
  ·obtain rfl:=si a;exact tr fol [3] [(0,.str b),(15,.bool true)] (ac (gw e) az)
  rcases wyD a with⟨f,a⟩|⟨f,a⟩
  ·obtain⟨g,c,a⟩:=bnd a;obtain rfl:=si a;exact tr fol [3,7,9] [(0,.str b),(15,.bool (decide ((g.toNat:Int)=48)))] (ac (gw e) (ac (gw f) (ac (hs (.done (.opt (yF ZT 9 (.str b) (.i 0))) (.int .u8 (g.toNat:Int))) (qaF st9 c)) az)))
  obtain rfl:=si a;exact tr fol [3,7] [(0,.str b),(15,.bool false)] (ac (gw e) (ac (gw f) az))
 refine ihB h (fun n h=>?_) (fun n h=>?_)
 ·refine sh fol [(2,.bool false)] ?_;refine Goes.ret ?_;obtain rfl:=si h;exact(gw2 [.bool false] (Ua tB))
 refine Goes.skip ?_;obtain⟨j,d,h⟩:=bnd h;refine sq (gr fol [1] [(2,.bool j)] (ac (cv (qgR N b d)) az) ?_);refine Goes.ret ?_;obtain rfl:=si h;exact(gw2 [.bool j] (Ua tB))
def vJ (a:Str):Nat->Int->Int->Option Int
 |0,_,_=>none
 |K+1,c,b=>
  if b<(a.length:Int)then
  (idx a b).bind fun d=>
  vJ a K (w64 ((w64 ((w64 (10*c))+(w64 (d.toNat:Int))))-48)) (w64 (b+1))
  else
  some c
def xA (N:Nat) (a:Str):Option Int:=
 (vJ a N 0 0).bind fun b=>
 some b
theorem qbn (N:Nat) (a:Str) {res:Int} (h:xA N a=some res):qc ZT (.fn 154) [.str a] [] (.i res) []:=by
 unfold xA at h;refine Ub Tryz.func154 rfl rfl (m:=20) rfl (rs:=[.tmp 2]) rfl (l:=(kAY a)) rfl ?_;refine sh fol (kAY a) ?_;refine sh fol [(0,.str a),(3,.i 0)] ?_;refine sq ?_;refine sh fol [(0,.str a),(3,.i 0),(4,.i 0)] ?_;refine Goes.block ?_;obtain⟨g,g4,h⟩:=bnd h;refine Goes.imp (Q:=fun x s'=>(x= .exit 0/\ ∃d,d=g/\Sub s' (ofG 20 [(3,.i d)],[]))) ?_ ?_
 ·refine Ud (fun M s=> ∃(c:Int) (b:Int),s=(ofG 20 (kAg a c (kBN b)),[])/\vJ a M c b=some g) ?_ (m:=N) ⟨_,_,rfl,g4⟩;rintro M s ⟨c,b,rfl,g4⟩
  cases M with
  |zero=>simp only[vJ]at g4;cases g4
  |succ M=>
   rw[vJ]at g4;refine sq ?_;refine sh fol (kAg a c ((4,.i b)::(kBJ (decide (b<(a.length:Int)))))) ?_;refine ihD g4 (fun j g4=>?_) (fun j g4=>?_)
   ·refine Goes.skip ?_;refine sq (Goes.block ?_);obtain⟨f,e,g4⟩:=bnd g4;refine gr fol [4] (kAg a (w64 ((w64 ((w64 (10*c))+(w64 (f.toNat:Int))))-48)) (kBN b)) (ac (hs (.done (.opt (yF ZT 9 (.str a) (.i b))) (.int .u8 (f.toNat:Int))) (qaF st9 e)) az) ?_;refine gh fol (kAg a (w64 ((w64 ((w64 (10*c))+(w64 (f.toNat:Int))))-48)) (kBN (w64 (b+1)))) ?_;exact⟨M,(ofG 20 (kAg a (w64 ((w64 ((w64 (10*c))+(w64 (f.toNat:Int))))-48)) (kBN (w64 (b+1)))),[]),Nat.lt_succ_self _,(Sub.refl _),_,_,rfl,g4⟩
   refine Goes.exit ?_;obtain rfl:=si g4;exact⟨rfl,_,rfl,(Sub.keep [3] rfl rfl)⟩
 rintro x s' ⟨rfl,d,rfl,hsub⟩;refine Goes.sub hsub ?_;refine sh fol (kBA d) ?_;refine Goes.ret ?_;obtain rfl:=si h;exact(gw2 [.i d] (Ua tI))
def yV:Nat->(List Int)->Option (List Int)
 |0,_=>none
 |K+1,a=>
  (if(a.length:Int)>0 then
  (idx a (w64 ((a.length:Int)-1))).bind fun b=>
  some (decide (b=0))
  else
  some false:Option Bool).bind fun c=>
  if c=true then
  (cut a 0 (w64 ((a.length:Int)-1))).bind fun d=>
  yV K d
  else
  some a
def yB (N:Nat) (w:List Int):Option (List Int):=
 (yV N w).bind fun a=>
 some a
theorem yU (N:Nat) (w:List Int) {res:List Int} (h:yB N w=some res):qc ZT (.fn 158) [vl encI w] [] (vl encI res) []:=by
 unfold yB at h;refine Ub Tryz.func158 rfl rfl (m:=21) rfl (rs:=[.tmp 2]) rfl (l:=(kAL w [])) rfl ?_;refine sh fol (kAL w []) ?_;refine sq (Goes.block ?_);obtain⟨j,g3,h⟩:=bnd h;refine Goes.imp (Q:=fun x s'=>(x= .exit 0/\ ∃d,d=j/\Sub s' (ofG 21 (kAL d []),[]))) ?_ ?_
 ·refine Ud (fun M s=> ∃(b:List Int),s=(ofG 21 (kAL b []),[])/\yV M b=some j) ?_ (m:=N) ⟨_,rfl,g3⟩;rintro M s ⟨b,rfl,g3⟩
  cases M with
  |zero=>simp only[yV]at g3;cases g3
  |succ M=>
   rw[yV]at g3;refine sq ?_;refine sq ?_;obtain⟨k,a,g3⟩:=bnd g3;refine Ue (s':=(ofG 21 (kAL b [(14,.bool k)]),[])) ?_ ?_
   ·rcases wyD a with⟨f,a⟩|⟨f,a⟩
    ·obtain⟨n,c,a⟩:=bnd a;obtain rfl:=si a;exact tr fol [3,8,9] (kAL b [(14,.bool (decide (n=0)))]) (ac (gw f) (ac (iv ji encI c) (ac (lv 0 ce3 encI c rfl) az)))
    obtain rfl:=si a;exact tr fol [3] (kAL b [(14,.bool false)]) (ac (gw f) az)
   refine ihB g3 (fun o g3=>?_) (fun o g3=>?_)
   ·refine Goes.skip ?_;refine Goes.block ?_;obtain⟨g,e,g3⟩:=bnd g3;refine gr fol [4] (kAL g []) (ac (hs (.done (.opt (qK ZT 22 (vl encI b) none (some (.i (w64 ((b.length:Int)-1)))) none)) (vl encI g)) (qmD ji (E:=encI) rfl none (some (w64 ((b.length:Int)-1))) e)) az) ?_;exact⟨M,(ofG 21 (kAL g []),[]),Nat.lt_succ_self _,(Sub.refl _),_,rfl,g3⟩
   refine Goes.exit ?_;obtain rfl:=si g3;exact⟨rfl,_,rfl,(Sub.keep [0] rfl rfl)⟩
 rintro x s' ⟨rfl,d,rfl,hsub⟩;refine Goes.sub hsub ?_;refine sh fol [(2,vl encI d)] ?_;refine Goes.ret ?_;obtain rfl:=si h;exact(gw2 [vl encI d] (Ua (qw encI _ (nl rfl))))
def zI (N:Nat) (neg:Bool) (w:List Int):Option qF:=
 (yB N w).bind fun a=>
 (if neg=true then
 some (decide ((a.length:Int)>0))
 else
 some false:Option Bool).bind fun b=>
 some (⟨b,a⟩:qF)
theorem zW (N:Nat) (neg:Bool) (w:List Int) {res:qF} (h:zI N neg w=some res):qc ZT (.fn 155) (kAa neg w) [] (.agg (kAa res.neg res.w)) []:=by
 unfold zI at h;refine Ub Tryz.func155 rfl rfl (m:=15) rfl (rs:=[.cell 4 66]) rfl (l:=[(0,.bool neg),(1,vl encI w)]) rfl ?_;refine sg fol ((0,.bool neg)::(1,vl encI w)::(kAk [])) (kS []) ?_;obtain⟨b,c,h⟩:=bnd h;refine sq (gr fol [1] ((0,.bool neg)::(1,vl encI b)::(kAk [])) (ac (cv (yU N w c)) az) ?_);refine sq ?_;obtain⟨e,a,h⟩:=bnd h;refine Ue (s':=(ofG 15 (kAk []),(kAT e b []))) ?_ ?_
 ·rcases wyB a with⟨d,a⟩|⟨d,a⟩
  ·obtain rfl:=si a;exact qd4.rq fol [1] (kAk []) (kAT (decide ((b.length:Int)>0)) b []) (ac (gw d) az)
  obtain rfl:=si a;exact qd4.rq fol [1] (kAk []) [.cells [.bool false,vl encI b]] (ac (gw d) az)
 refine Goes.ret ?_;obtain rfl:=si h;exact(gw2 [.agg (kAa e b)] (FzW.agg (qf.cons (Ua tB) (qf.cons (Ua (qw encI _ (nl rfl))) qf.nil))))
def yh (N:Nat):Nat->(List Int)->Str->Option ((List Int)×Str)
 |0,_,_=>none
 |K+1,f,a=>
  if(a.length:Int)>9 then
  (cut a (w64 ((a.length:Int)-9)) (a.length:Int)).bind fun b=>
  (xA N b).bind fun c=>
  (app 8 f [c]).bind fun d=>
  (cut a 0 (w64 ((a.length:Int)-9))).bind fun e=>
  yh N K d e
  else
  some (f,a)
def qam (N:Nat) (a:Str):Option qF:=
 (if(a.length:Int)>0 then
 (idx a 0).bind fun h=>
 some (decide ((h.toNat:Int)=45))
 else
 some false:Option Bool).bind fun g=>
 ((if g=true then
 (cut a 1 (a.length:Int)).bind fun i=>
 some i
 else
 some a:Option Str)).bind fun j=>
 (yh N N ([]:List Int) j).bind fun(b,c)=>
 (xA N c).bind fun d=>
 (app 8 b [d]).bind fun e=>
 (zI N g e).bind fun f=>
 some f
theorem qcw (N:Nat) (k:Str) {res:qF} (h:qam N k=some res):qc ZT (.fn 83) [.str k] [] (.agg (kAa res.neg res.w)) []:=by
 unfold qam at h;refine Ub Tryz.func83 rfl rfl (m:=40) rfl (rs:=[.cell 2 66]) rfl (l:=(kAY k)) rfl ?_;refine sg fol ((0,.str k)::(kAE [])) (kS []) ?_;refine sq ?_;obtain⟨e,b,h⟩:=bnd h;refine Ue (s':=(ofG 40 (kW k e []),(kS []))) ?_ ?_
 ·rcases wyD b with⟨H,b⟩|⟨H,b⟩
  ·obtain⟨J,B,b⟩:=bnd b;obtain rfl:=si b;exact tr fol [3,5] (kW k (decide ((J.toNat:Int)=45)) []) (ac (gw H) (ac (hs (.done (.opt (yF ZT 9 (.str k) (.i 0))) (.int .u8 (J.toNat:Int))) (qaF st9 B)) az))
  obtain rfl:=si b;exact tr fol [3] ((0,.str k)::(kAE [(3,.bool false)])) (ac (gw H) az)
 refine sq ?_;refine sh fol (kW k e (kBC e)) ?_;obtain⟨L,g6,h⟩:=bnd h;refine Goes.imp (Q:=fun x s'=>(x= .normal/\ ∃C,C=L/\Sub s' (ofG 40 (kW C e []),(kS [])))) ?_ ?_
 ·refine ihB g6 (fun O g6=>?_) (fun O g6=>?_)
  ·obtain⟨K,D,g6⟩:=bnd g6;refine gr fol [1] (kW K e []) (ac (hs (.done (.opt (qK ZT 9 (.str k) (some (.i 1)) none none)) (.str K)) (ja st9 (some 1) none D)) az) ?_;obtain rfl:=si g6;exact⟨rfl,_,rfl,(Sub.refl _)⟩
  refine Goes.skip ?_;obtain rfl:=si g6;exact⟨rfl,_,rfl,(Sub.keep [0,2,3] rfl rfl)⟩
 rintro x s' ⟨rfl,C,rfl,hsub⟩;refine Goes.sub hsub ?_;refine sh fol (kW C e [(4,.nilslice)]) ?_;refine sq (Goes.block ?_);obtain⟨F,g13,h⟩:=bnd h;refine Goes.imp (Q:=fun x s'=>(x= .exit 0/\ ∃f n,(f,n)=F/\Sub s' (ofG 40 (kW n e [(4,.gslice 1 f.length 1)]),(kS (kB f []))))) ?_ ?_
 ·refine Goes.sub (s':=(ofG 40 (kW C e [(4,.gslice 1 ([]:List Int).length 1)]),(kS kA4))) (Uc [] [some 0,none] rfl rfl (.keep (.same nS) (.kp (.keep (.same nB) (.keep .nil .nil)))) (.kb rfl (.same sn) (.fresh .nil))) ?_;refine Ud (fun M s=> ∃(p:List Int) (a:Str),s=(ofG 40 (kW a e [(4,.gslice 1 p.length 1)]),(kS (kB p [])))/\yh N M p a=some F) ?_ (m:=N) ⟨_,_,rfl,g13⟩;rintro M s ⟨p,a,rfl,g13⟩
  cases M with
  |zero=>simp only[yh]at g13;cases g13
  |succ M=>
   rw[yh]at g13;refine sq ?_;refine sh fol (kW a e [(4,.gslice 1 p.length 1),(18,.bool (decide ((a.length:Int)>9)))]) ?_;refine ihD g13 (fun I g13=>?_) (fun I g13=>?_)
   ·refine Goes.skip ?_;refine Goes.block ?_;obtain⟨G,q,g13⟩:=bnd g13;obtain⟨o,r,g13⟩:=bnd g13;obtain⟨g,t,g13⟩:=bnd g13;refine sq (gq fol [5,6,8] (kW a e [(4,.gslice 3 g.length 1)]) (kS (kA6 o (kB g []))) (ac (hs (.done (.opt (qK ZT 9 (.str a) (some (.i (w64 ((a.length:Int)-9)))) none none)) (.str G)) (ja st9 (some (w64 ((a.length:Int)-9))) none q)) (ac (cv (qbn N G r)) (ac (hs (.run [1,2] (yC ZT [22,22] (.gslice 1 p.length 1) (.slice 2 0 1 1 1)) (kS (kB p [.cells [.i o]])) (.gslice 3 g.length 1) (kS (kA6 o (kB g []))) true) (qbG ji (E:=encI) rfl (qfn (E:=encI) (ys:=[o]) rfl rfl rfl rfl) (qgL (E:=encI) (l:=p) rfl rfl rfl t rfl))) az))) ?_);obtain⟨u,v,g13⟩:=bnd g13;refine gr fol [4] (kW u e [(4,.gslice 3 g.length 1)]) (ac (hs (.done (.opt (qK ZT 9 (.str a) none (some (.i (w64 ((a.length:Int)-9)))) none)) (.str u)) (ja st9 none (some (w64 ((a.length:Int)-9))) v)) az) ?_;exact⟨M,(ofG 40 (kW u e [(4,.gslice 1 g.length 1)]),(kS (kB g []))),Nat.lt_succ_self _,(Uc [] [some 0,some 3] rfl rfl (.keep (.same nS) (.kp (.keep (.same nB) (.keep (.gslice rfl) .nil)))) (.kb rfl (.same sn) (.ks .nil))),_,_,rfl,g13⟩
   refine Goes.exit ?_;obtain rfl:=si g13;exact⟨rfl,_,_,rfl,(Sub.keep [0,2,3,4] rfl rfl)⟩
 rintro x s' ⟨rfl,f,n,rfl,hsub⟩
 try dsimp only at h
 refine Goes.sub hsub ?_;obtain⟨j,y,h⟩:=bnd h;obtain⟨d,z,h⟩:=bnd h;obtain⟨c,A,h⟩:=bnd h;refine sq (gq fol [3,5,6] (kAE []) (kAT c.neg c.w (kA6 j (kAU d))) (ac (cv (qbn N n y)) (ac (hs (.run [1,2] (yC ZT [22,22] (.gslice 1 f.length 1) (.slice 2 0 1 1 1)) (kS (kB f [.cells [.i j]])) (.gslice 3 d.length 1) (kS (kA6 j (kB d []))) true) (qbG ji (E:=encI) rfl (qfn (E:=encI) (ys:=[j]) rfl rfl rfl rfl) (qgL (E:=encI) (l:=f) rfl rfl rfl z rfl))) (ac (hs (.callF 155 [.bool e,.gslice 3 d.length 1] (kS (kA6 j (kB d []))) [3] (kAa e d) (.agg (kAa c.neg c.w))) (qaZ (FzL.cons (Ug tB) (FzL.cons (Fz.gs (E:=encI) rfl rfl (nl rfl)) FzL.nil)) (zW N e d A) (Still.agg (AllST.cons tB (AllST.cons (qw encI _ (nl rfl)) AllST.nil))))) az))) ?_);refine Goes.sub (show Sub (ofG 40 (kAE []),(kAT c.neg c.w (kA6 j (kAU d)))) (ofG 40 (kAE []),(kAT c.neg c.w []))from(Uc [] [some 0] rfl rfl (.kp .nil) (.kb rfl (.same sn) .nil))) ?_;refine Goes.ret ?_;obtain rfl:=si h;exact(gw2 [.agg (kAa c.neg c.w)] (FzW.agg (qf.cons (Ua tB) (qf.cons (Ua (qw encI _ (nl rfl))) qf.nil))))
def vw:Nat->(List Int)->Int->Option (List Int)
 |0,_,_=>none
 |K+1,b,a=>
  if(!decide (a=0))=true then
  ((if(a.tmod 1000000000)<0 then
  some (w64 (0-(a.tmod 1000000000)))
  else
  some (a.tmod 1000000000):Option Int)).bind fun c=>
  (app 8 b [c]).bind fun d=>
  vw K d (w64 (a.tdiv 1000000000))
  else
  some b
def qap (N:Nat) (n:Int):Option qF:=
 (vw N ([]:List Int) n).bind fun b=>
 (zI N (decide (n<0)) b).bind fun a=>
 some a
theorem qcB (N:Nat) (n:Int) {res:qF} (h:qap N n=some res):qc ZT (.fn 84) [.i n] [] (.agg (kAa res.neg res.w)) []:=by
 unfold qap at h;refine Ub Tryz.func84 rfl rfl (m:=25) rfl (rs:=[.cell 2 66]) rfl (l:=[(0,.i n)]) rfl ?_;refine sg fol ((0,.i n)::(kAE [])) (kS []) ?_;refine sh fol ((0,.i n)::(kAE [(3,.nilslice)])) ?_;refine sh fol ((0,.i n)::(kAE ((3,.nilslice)::(kAq (decide (n<0)))))) ?_;refine sq (Goes.block ?_);obtain⟨k,g4,h⟩:=bnd h;refine Goes.imp (Q:=fun x s'=>(x= .exit 0/\ ∃d,d=k/\Sub s' (ofG 25 (kAE (kAi d (decide (n<0)) [])),(kS (kB d []))))) ?_ ?_
 ·refine Goes.sub (s':=(ofG 25 ((0,.i n)::(kAE ((3,.gslice 1 ([]:List Int).length 1)::(kAq (decide (n<0)))))),(kS kA4))) (Uc [] [some 0,none] rfl rfl (.keep (.same nI) (.kp (.keep .nil (.keep (.same nB) .nil)))) (.kb rfl (.same sn) (.fresh .nil))) ?_;refine Ud (fun M s=> ∃(c:List Int) (b:Int),s=(ofG 25 ((0,.i b)::(kAE (kAi c (decide (n<0)) []))),(kS (kB c [])))/\vw M c b=some k) ?_ (m:=N) ⟨_,_,rfl,g4⟩;rintro M s ⟨c,b,rfl,g4⟩
  cases M with
  |zero=>simp only[vw]at g4;cases g4
  |succ M=>
   rw[vw]at g4;refine sq ?_;refine sh fol ((0,.i b)::(kAE (kAi c (decide (n<0)) [(9,.bool (!decide (b=0)))]))) ?_;refine ihB g4 (fun o g4=>?_) (fun o g4=>?_)
   ·refine Goes.skip ?_;refine Goes.block ?_;refine sh fol ((0,.i b)::(kAE (kAi c (decide (n<0)) (kAt (b.tmod 1000000000))))) ?_;refine sq ?_;refine sh fol ((0,.i b)::(kAE (kAi c (decide (n<0)) ((5,.i (b.tmod 1000000000))::(kBC (decide ((b.tmod 1000000000)<0))))))) ?_;obtain⟨p,g7,g4⟩:=bnd g4;refine Goes.imp (Q:=fun x s'=>(x= .normal/\ ∃e,e=p/\Sub s' (ofG 25 ((0,.i b)::(kAE (kAi c (decide (n<0)) (kAt e)))),(kS (kB c []))))) ?_ ?_
    ·refine ihD g7 (fun q g7=>?_) (fun q g7=>?_)
     ·refine gh fol ((0,.i b)::(kAE (kAi c (decide (n<0)) (kAt (w64 (0-(b.tmod 1000000000))))))) ?_;obtain rfl:=si g7;exact⟨rfl,_,rfl,(Sub.refl _)⟩
     refine Goes.skip ?_;obtain rfl:=si g7;exact⟨rfl,_,rfl,(Sub.keep [0,2,3,4,5] rfl rfl)⟩
    rintro x s' ⟨rfl,e,rfl,hsub⟩;refine Goes.sub hsub ?_;obtain⟨f,j,g4⟩:=bnd g4;refine sq (gq fol [3] ((0,.i b)::(kAE ((3,.gslice 3 f.length 1)::(kAq (decide (n<0)))))) (kS (kA6 e (kB f []))) (ac (hs (.run [1,2] (yC ZT [22,22] (.gslice 1 c.length 1) (.slice 2 0 1 1 1)) (kS (kB c [.cells [.i e]])) (.gslice 3 f.length 1) (kS (kA6 e (kB f []))) true) (qbG ji (E:=encI) rfl (qfn (E:=encI) (ys:=[e]) rfl rfl rfl rfl) (qgL (E:=encI) (l:=c) rfl rfl rfl j rfl))) az) ?_);refine gh fol ((0,.i (w64 (b.tdiv 1000000000)))::(kAE ((3,.gslice 3 f.length 1)::(kAq (decide (n<0)))))) ?_;exact⟨M,(ofG 25 ((0,.i (w64 (b.tdiv 1000000000)))::(kAE (kAi f (decide (n<0)) []))),(kS (kB f []))),Nat.lt_succ_self _,(Uc [] [some 0,some 3] rfl rfl (.keep (.same nI) (.kp (.keep (.gslice rfl) (.keep (.same nB) .nil)))) (.kb rfl (.same sn) (.ks .nil))),_,_,rfl,g4⟩
   refine Goes.exit ?_;obtain rfl:=si g4;exact⟨rfl,_,rfl,(Sub.keep [2,3,4] rfl rfl)⟩
 rintro x s' ⟨rfl,d,rfl,hsub⟩;refine Goes.sub hsub ?_;obtain⟨a,g,h⟩:=bnd h;refine sq (gq fol [2] (kAE []) (kAT a.neg a.w (kAU d)) (ac (hs (.callF 155 [.bool (decide (n<0)),.gslice 1 d.length 1] (kS (kB d [])) [1] (kAa (decide (n<0)) d) (.agg (kAa a.neg a.w))) (qaZ (FzL.cons (Ug tB) (FzL.cons (Fz.gs (E:=encI) rfl rfl (nl rfl)) FzL.nil)) (zW N (decide (n<0)) d g) (Still.agg (AllST.cons tB (AllST.cons (qw encI _ (nl rfl)) AllST.nil))))) az) ?_);refine Goes.sub (show Sub (ofG 25 (kAE []),(kAT a.neg a.w (kAU d))) (ofG 25 (kAE []),(kAT a.neg a.w []))from(Uc [] [some 0] rfl rfl (.kp .nil) (.kb rfl (.same sn) .nil))) ?_;refine Goes.ret ?_;obtain rfl:=si h;exact(gw2 [.agg (kAa a.neg a.w)] (FzW.agg (qf.cons (Ua tB) (qf.cons (Ua (qw encI _ (nl rfl))) qf.nil))))
def jC (N:Nat) (a:Str):Option (qF×qF):=
 (yR N a).bind fun b=>
 if b=(a.length:Int)then
 (qam N a).bind fun c=>
 (qap N 1).bind fun d=>
 some (c,d)
 else
 (cut a 0 b).bind fun e=>
 (qam N e).bind fun f=>
 (cut a (w64 (b+1)) (a.length:Int)).bind fun g=>
 (qam N g).bind fun h=>
 some (f,h)
theorem xk (N:Nat) (a:Str) {res:qF×qF} (h:jC N a=some res):qc ZT (.fn 31) [.str a] [] (.tuple (kAn res.1.neg res.1.w res.2.neg res.2.w)) []:=by
 unfold jC at h;refine Ub Tryz.func31 rfl rfl (m:=25) rfl (rs:=[.cell 2 66,.cell 3 66]) rfl (l:=(kAY a)) rfl ?_;refine sg fol ((0,.str a)::(kAE (kA5 []))) (kS (kS [])) ?_;refine sh fol (kAE (kA5 (kBO a))) ?_;obtain⟨b,c,h⟩:=bnd h;refine sq (gr fol [1] (kAE (kA5 ((4,.str a)::(kAt b)))) (ac (cv (qae N a c)) az) ?_);refine sq ?_;refine sh fol (kAE (kA5 ((4,.str a)::(5,.i b)::(kA8 (decide (b=(a.length:Int))))))) ?_;refine ihD h (fun t h=>?_) (fun t h=>?_)
 ·obtain⟨n,d,h⟩:=bnd h;obtain⟨o,e,h⟩:=bnd h;refine sq (gq fol [1,2] (kAE (kA5 [])) (kP n.neg n.w o.neg o.w []) (ac (cv (qcw N a d)) (ac (cv (qcB N 1 e)) az)) ?_);refine Goes.ret ?_;obtain rfl:=si h;exact(gw2 (kAn n.neg n.w o.neg o.w) (FzW.tuple (qf.cons (FzW.agg (qf.cons (Ua tB) (qf.cons (Ua (qw encI _ (nl rfl))) qf.nil))) (qf.cons (FzW.agg (qf.cons (Ua tB) (qf.cons (Ua (qw encI _ (nl rfl))) qf.nil))) qf.nil))))
 refine Goes.skip ?_;obtain⟨r,f,h⟩:=bnd h;obtain⟨p,g,h⟩:=bnd h;obtain⟨s,j,h⟩:=bnd h;obtain⟨q,k,h⟩:=bnd h;refine sq (gq fol [2,3,7,8] (kAE (kA5 [])) (kP p.neg p.w q.neg q.w []) (ac (hs (.done (.opt (qK ZT 9 (.str a) none (some (.i b)) none)) (.str r)) (ja st9 none (some b) f)) (ac (cv (qcw N r g)) (ac (hs (.done (.opt (qK ZT 9 (.str a) (some (.i (w64 (b+1)))) none none)) (.str s)) (ja st9 (some (w64 (b+1))) none j)) (ac (cv (qcw N s k)) az)))) ?_);refine Goes.ret ?_;obtain rfl:=si h;exact(gw2 (kAn p.neg p.w q.neg q.w) (FzW.tuple (qf.cons (FzW.agg (qf.cons (Ua tB) (qf.cons (Ua (qw encI _ (nl rfl))) qf.nil))) (qf.cons (FzW.agg (qf.cons (Ua tB) (qf.cons (Ua (qw encI _ (nl rfl))) qf.nil))) qf.nil))))
def qY (a:List Int) (b:List Int):Nat->Int->Option (Unit⊕Int)
 |0,_=>none
 |K+1,c=>
  if c>=0 then
  (idx a c).bind fun d=>
  (idx b c).bind fun e=>
  if d<e then
  some (.inr (-1))
  else
  if d>e then
  some (.inr 1)
  else
  qY a b K (w64 (c-1))
  else
  some (.inl ())
def jy (N:Nat) (a:List Int) (b:List Int):Option Int:=
 if(!decide ((a.length:Int)=(b.length:Int)))=true then
 if(a.length:Int)<(b.length:Int)then
 some (-1)
 else
 some 1
 else
 (qY a b N (w64 ((a.length:Int)-1))).bind (fun
 |(.inl ())=>
 some 0
 |(.inr c)=>
 some c)
theorem qbk (N:Nat) (a:List Int) (b:List Int) {res:Int} (h:jy N a b=some res):qc ZT (.fn 156) (kBD a b) [] (.i res) []:=by
 unfold jy at h;refine Ub Tryz.func156 rfl rfl (m:=41) rfl (rs:=[.tmp 4]) rfl (l:=(kH a b [])) rfl ?_;refine sh fol (kH a b []) ?_;refine sq ?_;refine sh fol (kH a b (kA9 (!decide ((a.length:Int)=(b.length:Int))))) ?_;refine ihB h (fun o h=>?_) (fun o h=>?_)
 ·refine sq ?_;refine sh fol [(15,.bool (decide ((a.length:Int)<(b.length:Int))))] ?_;refine ihD h (fun p h=>?_) (fun p h=>?_)
  ·refine sh fol kBF ?_;refine Goes.ret ?_;obtain rfl:=si h;exact(gw2 [.i (-1)] (Ua tI))
  refine Goes.skip ?_;refine sh fol [(4,.i 1)] ?_;refine Goes.ret ?_;obtain rfl:=si h;exact(gw2 [.i 1] (Ua tI))
 refine Goes.skip ?_;refine sq ?_;refine sh fol (kH a b (kAt (w64 ((a.length:Int)-1)))) ?_;refine Goes.block ?_;obtain⟨f,g4,h⟩:=bnd h;refine Goes.imp (Q:=fun x s'=>(x= .exit 0/\(.inl ())=f/\Sub s' (ofG 41 [],[]))\/(x= .ret/\ ∃j,(.inr j)=f/\zJ ZT [.tmp 4] (.i j) .ret s')) ?_ ?_
 ·refine Ud (fun M s=> ∃(e:Int),s=(ofG 41 (kH a b (kAt e)),[])/\qY a b M e=some f) ?_ (m:=N) ⟨_,rfl,g4⟩;rintro M s ⟨e,rfl,g4⟩
  cases M with
  |zero=>simp only[qY]at g4;cases g4
  |succ M=>
   rw[qY]at g4;refine sq ?_;refine sh fol (kH a b [(5,.i e),(20,.bool (decide (e>=0)))]) ?_;refine ihD g4 (fun q g4=>?_) (fun q g4=>?_)
   ·refine Goes.skip ?_;refine sq (Goes.block ?_);refine sq ?_;obtain⟨k,c,g4⟩:=bnd g4;obtain⟨n,d,g4⟩:=bnd g4;refine sq (gr fol [2,3,6,7] (kH a b [(5,.i e),(31,.bool (decide (k<n)))]) (ac (iv ji encI c) (ac (lv 0 ce3 encI c rfl) (ac (iv ji encI d) (ac (lv 0 ce3 encI d rfl) az)))) ?_);refine ihD g4 (fun r g4=>?_) (fun r g4=>?_)
    ·refine sh fol kBF ?_;refine Goes.ret ?_;obtain rfl:=si g4;exact Or.inr (⟨rfl,_,rfl,(gw2 [.i (-1)] (Ua tI))⟩)
    refine Goes.skip ?_;refine sq (gr fol [2,3,6,7] (kH a b [(5,.i e),(40,.bool (decide (k>n)))]) (ac (iv ji encI c) (ac (lv 0 ce3 encI c rfl) (ac (iv ji encI d) (ac (lv 0 ce3 encI d rfl) az)))) ?_);refine ihD g4 (fun g g4=>?_) (fun g g4=>?_)
    ·refine sh fol [(4,.i 1)] ?_;refine Goes.ret ?_;obtain rfl:=si g4;exact Or.inr (⟨rfl,_,rfl,(gw2 [.i 1] (Ua tI))⟩)
    refine Goes.skip ?_;refine gh fol (kH a b (kAt (w64 (e-1)))) ?_;exact⟨M,(ofG 41 (kH a b (kAt (w64 (e-1)))),[]),Nat.lt_succ_self _,(Sub.refl _),_,rfl,g4⟩
   refine Goes.exit ?_;obtain rfl:=si g4;exact Or.inl (⟨rfl,rfl,(Sub.keep [] rfl rfl)⟩)
 rintro x s' (⟨rfl,rfl,hsub⟩|⟨rfl,t,rfl,hret⟩)
 ·try dsimp only at h
  refine Goes.sub hsub ?_;refine sh fol [(4,.i 0)] ?_;refine Goes.ret ?_;obtain rfl:=si h;exact(gw2 [.i 0] (Ua tI))
 try dsimp only at h
 obtain rfl:=si h;exact hret
def zO (a:List Int) (d:Int):Nat->(List Int)->Int->Int->Option ((List Int)×Int)
 |0,_,_,_=>none
 |K+1,c,e,b=>
  if b>=0 then
  (idx a b).bind fun i=>
  (qco .i64 (w64 ((w64 (e*1000000000))+i)) d).bind fun f=>
  (idx c b).bind fun j=>
  (put c b f).bind fun g=>
  (qeG .i64 (w64 ((w64 (e*1000000000))+i)) d).bind fun h=>
  zO a d K g h (w64 (b-1))
  else
  some (c,e)
def xm (N:Nat) (a:List Int) (d:Int):Option ((List Int)×Int):=
 (mk 8 (a.length:Int) 0).bind fun c=>
 (zO a d N c 0 (w64 ((a.length:Int)-1))).bind fun(e,f)=>
 (yB N e).bind fun b=>
 some (b,f)
theorem qcP (N:Nat) (a:List Int) (d:Int) {res:(List Int)×Int} (h:xm N a d=some res):qc ZT (.fn 157) [vl encI a,.i d] [] (.tuple [vl encI res.1,.i res.2]) []:=by
 unfold xm at h;refine Ub Tryz.func157 rfl rfl (m:=39) rfl (rs:=[.tmp 4,.tmp 5]) rfl (l:=(kAL a [(1,.i d)])) rfl ?_;refine sh fol (kAL a [(1,.i d)]) ?_;obtain⟨q,B,h⟩:=bnd h;refine sq (gq fol [2] (kAL a ((1,.i d)::(kT q []))) (kB q []) (ac (hs (.run [] (zC ZT 22 (.i (a.length:Int)) (.i (a.length:Int))) [] (.slice 0 0 q.length q.length 1) (kB q []) false) (qb0 ji (E:=encI) (z:=0) rfl (by kernel_rfl) B rfl)) az) ?_);refine sh fol (kAL a ((1,.i d)::(kT q [(7,.i 0)]))) ?_;refine sq ?_;refine sh fol (kAL a ((1,.i d)::(kT q ((7,.i 0)::(kBH (w64 ((a.length:Int)-1))))))) ?_;refine Goes.block ?_;obtain⟨C,g7,h⟩:=bnd h;refine Goes.imp (Q:=fun x s'=>(x= .exit 0/\ ∃f r,(f,r)=C/\Sub s' (ofG 39 (kT f [(7,.i r)]),(kB f [])))) ?_ ?_
 ·refine Ud (fun M s=> ∃(e:List Int) (n:Int) (c:Int),s=(ofG 39 (kAL a ((1,.i d)::(kT e (kAI n c)))),(kB e []))/\zO a d M e n c=some C) ?_ (m:=N) ⟨_,_,_,rfl,g7⟩;rintro M s ⟨e,n,c,rfl,g7⟩
  cases M with
  |zero=>simp only[zO]at g7;cases g7
  |succ M=>
   rw[zO]at g7;refine sq ?_;refine sh fol (kAL a ((1,.i d)::(kT e [(7,.i n),(8,.i c),(17,.bool (decide (c>=0)))]))) ?_;refine ihD g7 (fun D g7=>?_) (fun D g7=>?_)
   ·refine Goes.skip ?_;refine sq (Goes.block ?_);obtain⟨A,p,g7⟩:=bnd g7;refine sq (gr fol [4,5] (kAL a ((1,.i d)::(kT e (kAl c (w64 ((w64 (n*1000000000))+A)) [])))) (ac (iv ji encI p) (ac (lv 0 ce3 encI p rfl) az)) ?_);obtain⟨t,u,g7⟩:=bnd g7;obtain⟨F,g,g7⟩:=bnd g7;obtain⟨b,j,g7⟩:=bnd g7;refine sq (gq fol [4,5,6] (kAL a ((1,.i d)::(kT e (kAl c (w64 ((w64 (n*1000000000))+A)) [])))) (kB b []) (ac (hs (.done (.opt (ku ZT .quo 3 (.tmp 29) (.tmp 30) (.i (w64 ((w64 (n*1000000000))+A))) (.i d))) (.i t)) (qb2 u)) (ac (hs (.done (.opt (qd ZT 22 (.slice 0 0 e.length e.length 1) (.i c))) (.ptr 0 ((c:Int).toNat*1+0))) (xx ji g)) (ac (hs (.run [0] (qp ZT 3 (.ptr 0 ((c:Int).toNat*1+0)) (.i t)) (kB e []) .undef (kB b []) true) (vT (E:=encI) (l:=e) (y:=t) rfl (show _=some 1 by kernel_rfl) rfl g rfl rfl rfl rfl rfl j rfl)) az))) ?_);refine Goes.sub (show Sub (ofG 39 (kAL a ((1,.i d)::(kT e (kAl c (w64 ((w64 (n*1000000000))+A)) [])))),(kB b [])) (ofG 39 (kAL a ((1,.i d)::(kT b (kAl c (w64 ((w64 (n*1000000000))+A)) [])))),(kB b []))from(Uc [] [some 0] rfl rfl (.keep (.same (qg encI _)) (.keep (.same nI) (.keep (.sliceE rfl (zn j)) (.keep (.same nI) (.keep (.same nI) .nil))))) (.ks .nil))) ?_;obtain⟨o,v,g7⟩:=bnd g7;refine gr fol [2] (kAL a ((1,.i d)::(kT b (kAI o c)))) (ac (hs (.done (.opt (ku ZT .rem 3 (.tmp 33) (.tmp 34) (.i (w64 ((w64 (n*1000000000))+A))) (.i d))) (.i o)) (qfN v)) az) ?_;refine gh fol (kAL a ((1,.i d)::(kT b (kAI o (w64 (c-1)))))) ?_;exact⟨M,(ofG 39 (kAL a ((1,.i d)::(kT b (kAI o (w64 (c-1)))))),(kB b [])),Nat.lt_succ_self _,(Sub.refl _),_,_,_,rfl,g7⟩
   refine Goes.exit ?_;obtain rfl:=si g7;exact⟨rfl,_,_,rfl,(Sub.keep [6,7] rfl rfl)⟩
 rintro x s' ⟨rfl,f,r,rfl,hsub⟩
 try dsimp only at h
 refine Goes.sub hsub ?_;obtain⟨k,w,h⟩:=bnd h;refine sq (gq fol [1] ((4,vl encI k)::(kAt r)) (kAU f) (ac (hs (.callF 158 [.slice 0 0 f.length f.length 1] (kB f []) [0] [vl encI f] (vl encI k)) (qaZ (FzL.cons (Fz.sl (E:=encI) rfl rfl (nl rfl)) FzL.nil) (yU N f w) (qw encI _ (nl rfl)))) az) ?_);refine Goes.sub (show Sub (ofG 39 ((4,vl encI k)::(kAt r)),(kAU f)) (ofG 39 ((4,vl encI k)::(kAt r)),[])from(Uc [] [] rfl rfl (.keep (.same (qg encI _)) (.keep (.same nI) .nil)) .nil)) ?_;refine Goes.ret ?_;obtain rfl:=si h;exact(gw2 [vl encI k,.i r] (FzW.tuple (qf.cons (Ua (qw encI _ (nl rfl))) (qf.cons (Ua tI) qf.nil))))
def zA (a:List Int) (b:List Int) (g:Int):Nat->(List Int)->Int->Int->Option ((List Int)×Int)
 |0,_,_,_=>none
 |K+1,h,i,c=>
  if c<(b.length:Int)then
  (idx h (w64 (g+c))).bind fun d=>
  (idx a g).bind fun e=>
  (idx b c).bind fun f=>
  (put h (w64 (g+c)) ((w64 ((w64 (d+(w64 (e*f))))+i)).tmod 1000000000)).bind fun j=>
  zA a b g K j (w64 ((w64 ((w64 (d+(w64 (e*f))))+i)).tdiv 1000000000)) (w64 (c+1))
  else
  some (h,i)
def zD (N:Nat) (a:List Int) (b:List Int):Nat->(List Int)->Int->Option (List Int)
 |0,_,_=>none
 |K+1,h,c=>
  if c<(a.length:Int)then
  (zA a b c N h 0 0).bind fun(d,e)=>
  (idx d (w64 (c+(b.length:Int)))).bind fun f=>
  (put d (w64 (c+(b.length:Int))) (w64 (f+e))).bind fun g=>
  zD N a b K g (w64 (c+1))
  else
  some h
def vP (N:Nat) (a:List Int) (b:List Int):Option (List Int):=
 (mk 8 (w64 ((a.length:Int)+(b.length:Int))) 0).bind fun d=>
 (zD N a b N d 0).bind fun e=>
 (yB N e).bind fun c=>
 some c
theorem qaR (N:Nat) (a:List Int) (b:List Int) {res:List Int} (h:vP N a b=some res):qc ZT (.fn 159) (kBD a b) [] (vl encI res) []:=by
 unfold vP at h;refine Ub Tryz.func159 rfl rfl (m:=72) rfl (rs:=[.tmp 4]) rfl (l:=(kH a b [])) rfl ?_;refine sh fol (kH a b []) ?_;obtain⟨H,I,h⟩:=bnd h;refine sq (gq fol [5] (kH a b (kD H [])) (kB H []) (ac (hs (.run [] (zC ZT 22 (.i (w64 ((a.length:Int)+(b.length:Int)))) (.i (w64 ((a.length:Int)+(b.length:Int))))) [] (.slice 0 0 H.length H.length 1) (kB H []) false) (qb0 ji (E:=encI) (z:=0) rfl (by kernel_rfl) I rfl)) az) ?_);refine sq ?_;refine sh fol (kH a b (kD H [(6,.i 0)])) ?_;refine Goes.block ?_;obtain⟨L,g5,h⟩:=bnd h;refine Goes.imp (Q:=fun x s'=>(x= .exit 0/\ ∃t,t=L/\Sub s' (ofG 72 (kD t []),(kB t [])))) ?_ ?_
 ·refine Ud (fun M s=> ∃(D:List Int) (c:Int),s=(ofG 72 (kH a b (kD D [(6,.i c)])),(kB D []))/\zD N a b M D c=some L) ?_ (m:=N) ⟨_,_,rfl,g5⟩;rintro M s ⟨D,c,rfl,g5⟩
  cases M with
  |zero=>simp only[zD]at g5;cases g5
  |succ M=>
   rw[zD]at g5;refine sq ?_;refine sh fol (kH a b (kD D [(6,.i c),(19,.bool (decide (c<(a.length:Int))))])) ?_;refine ihD g5 (fun O g5=>?_) (fun O g5=>?_)
   ·refine Goes.skip ?_;refine sq (Goes.block ?_);refine sh fol (kH a b (kD D [(6,.i c),(7,.i 0)])) ?_;refine sq ?_;refine sh fol (kH a b (kD D [(6,.i c),(7,.i 0),(8,.i 0)])) ?_;refine Goes.block ?_;obtain⟨J,g12,g5⟩:=bnd g5;refine Goes.imp (Q:=fun x s'=>(x= .exit 2/\ ∃d u,(d,u)=J/\Sub s' (ofG 72 (kH a b (kD d (kAS c u []))),(kB d [])))) ?_ ?_
    ·refine Ud (fun M s=> ∃(p:List Int) (r:Int) (o:Int),s=(ofG 72 (kH a b (kD p ((6,.i c)::(kAI r o)))),(kB p []))/\zA a b c M p r o=some J) ?_ (m:=N) ⟨_,_,_,rfl,g12⟩;rintro M s ⟨p,r,o,rfl,g12⟩
     cases M with
     |zero=>simp only[zA]at g12;cases g12
     |succ M=>
      rw[zA]at g12;refine sq ?_;refine sh fol (kH a b (kD p (kAS c r [(8,.i o),(25,.bool (decide (o<(b.length:Int))))]))) ?_;refine ihD g12 (fun K g12=>?_) (fun K g12=>?_)
      ·refine Goes.skip ?_;refine sq (Goes.block ?_);obtain⟨e,f,g12⟩:=bnd g12;obtain⟨g,v,g12⟩:=bnd g12;obtain⟨j,w,g12⟩:=bnd g12;refine sq (gr fol [4,5,8,9,12,13] (kH a b (kD p ((6,.i c)::(kAl o (w64 ((w64 (e+(w64 (g*j))))+r)) [])))) (ac (hs (.done (.opt (qd ZT 22 (.slice 0 0 p.length p.length 1) (.i (w64 (c+o))))) (.ptr 0 ((w64 (c+o):Int).toNat*1+0))) (xx ji f)) (ac (hs (.run [0] (ko ZT 3 (.ptr 0 ((w64 (c+o):Int).toNat*1+0))) (kB p []) (.i e) (kB p []) false) (qcb ce3 (E:=encI) (l:=p) rfl rfl f (nl rfl) rfl)) (ac (iv ji encI v) (ac (lv 0 ce3 encI v rfl) (ac (iv ji encI w) (ac (lv 0 ce3 encI w rfl) az)))))) ?_);obtain⟨k,A,g12⟩:=bnd g12;refine sq (gq fol [6,7] (kH a b (kD p ((6,.i c)::(kAl o (w64 ((w64 (e+(w64 (g*j))))+r)) [])))) (kB k []) (ac (hs (.done (.opt (qd ZT 22 (.slice 0 0 p.length p.length 1) (.i (w64 (c+o))))) (.ptr 0 ((w64 (c+o):Int).toNat*1+0))) (xx ji f)) (ac (hs (.run [0] (qp ZT 3 (.ptr 0 ((w64 (c+o):Int).toNat*1+0)) (.i ((w64 ((w64 (e+(w64 (g*j))))+r)).tmod 1000000000))) (kB p []) .undef (kB k []) true) (vT (E:=encI) (l:=p) (y:=(w64 ((w64 (e+(w64 (g*j))))+r)).tmod 1000000000) rfl (show _=some 1 by kernel_rfl) rfl f rfl rfl rfl rfl rfl A rfl)) az)) ?_);refine Goes.sub (show Sub (ofG 72 (kH a b (kD p ((6,.i c)::(kAl o (w64 ((w64 (e+(w64 (g*j))))+r)) [])))),(kB k [])) (ofG 72 (kH a b (kD k ((6,.i c)::(kAl o (w64 ((w64 (e+(w64 (g*j))))+r)) [])))),(kB k []))from(Uc [] [some 0] rfl rfl (.keep (.same (qg encI _)) (.keep (.same (qg encI _)) (.keep (.sliceE rfl (zn A)) (.keep (.same nI) (.keep (.same nI) (.keep (.same nI) .nil)))))) (.ks .nil))) ?_;refine gh fol (kH a b (kD k ((6,.i c)::(kAI (w64 ((w64 ((w64 (e+(w64 (g*j))))+r)).tdiv 1000000000)) o)))) ?_;refine gh fol (kH a b (kD k ((6,.i c)::(kAI (w64 ((w64 ((w64 (e+(w64 (g*j))))+r)).tdiv 1000000000)) (w64 (o+1)))))) ?_;exact⟨M,(ofG 72 (kH a b (kD k ((6,.i c)::(kAI (w64 ((w64 ((w64 (e+(w64 (g*j))))+r)).tdiv 1000000000)) (w64 (o+1)))))),(kB k [])),Nat.lt_succ_self _,(Sub.refl _),_,_,_,rfl,g12⟩
      refine Goes.exit ?_;obtain rfl:=si g12;exact⟨rfl,_,_,rfl,(Sub.keep [0,1,5,6,7] rfl rfl)⟩
    rintro x s' ⟨rfl,d,u,rfl,hsub⟩
    try dsimp only at g5
    refine Goes.sub hsub ?_;obtain⟨F,n,g5⟩:=bnd g5;obtain⟨q,B,g5⟩:=bnd g5;refine gq fol [10,11,14,15] (kH a b (kD d [(6,.i c)])) (kB q []) (ac (hs (.done (.opt (qd ZT 22 (.slice 0 0 d.length d.length 1) (.i (w64 (c+(b.length:Int)))))) (.ptr 0 ((w64 (c+(b.length:Int)):Int).toNat*1+0))) (xx ji n)) (ac (hs (.run [0] (ko ZT 3 (.ptr 0 ((w64 (c+(b.length:Int)):Int).toNat*1+0))) (kB d []) (.i F) (kB d []) false) (qcb ce3 (E:=encI) (l:=d) rfl rfl n (nl rfl) rfl)) (ac (hs (.done (.opt (qd ZT 22 (.slice 0 0 d.length d.length 1) (.i (w64 (c+(b.length:Int)))))) (.ptr 0 ((w64 (c+(b.length:Int)):Int).toNat*1+0))) (xx ji n)) (ac (hs (.run [0] (qp ZT 3 (.ptr 0 ((w64 (c+(b.length:Int)):Int).toNat*1+0)) (.i (w64 (F+u)))) (kB d []) .undef (kB q []) true) (vT (E:=encI) (l:=d) (y:=w64 (F+u)) rfl (show _=some 1 by kernel_rfl) rfl n rfl rfl rfl rfl rfl B rfl)) az)))) ?_;refine Goes.sub (show Sub (ofG 72 (kH a b (kD d [(6,.i c)])),(kB q [])) (ofG 72 (kH a b (kD q [(6,.i c)])),(kB q []))from(Uc [] [some 0] rfl rfl (.keep (.same (qg encI _)) (.keep (.same (qg encI _)) (.keep (.sliceE rfl (zn B)) (.keep (.same nI) .nil)))) (.ks .nil))) ?_;refine gh fol (kH a b (kD q [(6,.i (w64 (c+1)))])) ?_;exact⟨M,(ofG 72 (kH a b (kD q [(6,.i (w64 (c+1)))])),(kB q [])),Nat.lt_succ_self _,(Sub.refl _),_,_,rfl,g5⟩
   refine Goes.exit ?_;obtain rfl:=si g5;exact⟨rfl,_,rfl,(Sub.keep [5] rfl rfl)⟩
 rintro x s' ⟨rfl,t,rfl,hsub⟩;refine Goes.sub hsub ?_;obtain⟨C,G,h⟩:=bnd h;refine sq (gq fol [1] [(4,vl encI C)] (kAU t) (ac (hs (.callF 158 [.slice 0 0 t.length t.length 1] (kB t []) [0] [vl encI t] (vl encI C)) (qaZ (FzL.cons (Fz.sl (E:=encI) rfl rfl (nl rfl)) FzL.nil) (yU N t G) (qw encI _ (nl rfl)))) az) ?_);refine Goes.sub (show Sub (ofG 72 [(4,vl encI C)],(kAU t)) (ofG 72 [(4,vl encI C)],[])from(Uc [] [] rfl rfl (.keep (.same (qg encI _)) .nil) .nil)) ?_;refine Goes.ret ?_;obtain rfl:=si h;exact(gw2 [vl encI C] (Ua (qw encI _ (nl rfl))))
def jW (u:List Int) (v:List Int) (j:Int):Nat->Int->Int->Option (Int⊕Int)
 |0,_,_=>none
 |K+1,c,a=>
  (if a>=1000000000 then
  some true
  else
  (idx v (w64 ((v.length:Int)-2))).bind fun d=>
  (idx u (w64 ((w64 (j+(v.length:Int)))-2))).bind fun e=>
  some (decide ((w64 (a*d))>(w64 ((w64 (c*1000000000))+e)))):Option Bool).bind fun f=>
  if f=true then
  (idx v (w64 ((v.length:Int)-1))).bind fun b=>
  if(w64 (c+b))>=1000000000 then
  some (.inr (w64 (a-1)))
  else
  jW u v j K (w64 (c+b)) (w64 (a-1))
  else
  some (.inl a)
def qad (N:Nat) (u:List Int) (v:List Int) (j:Int):Option Int:=
 (idx u (w64 (j+(v.length:Int)))).bind fun b=>
 (idx u (w64 ((w64 (j+(v.length:Int)))-1))).bind fun c=>
 (idx v (w64 ((v.length:Int)-1))).bind fun d=>
 (qco .i64 (w64 ((w64 (b*1000000000))+c)) d).bind fun e=>
 (qeG .i64 (w64 ((w64 (b*1000000000))+c)) d).bind fun f=>
 (jW u v j N f e).bind (fun
 |(.inl g)=>
 some g
 |(.inr a)=>
 some a)
theorem qhZ (N:Nat) (u:List Int) (v:List Int) (j:Int) {res:Int} (h:qad N u v j=some res):qc ZT (.fn 160) [vl encI u,vl encI v,.i j] [] (.i res) []:=by
 unfold qad at h;refine Ub Tryz.func160 rfl rfl (m:=77) rfl (rs:=[.tmp 6]) rfl (l:=(kH u v (kBA j))) rfl ?_;refine sh fol (kH u v (kBA j)) ?_;refine sh fol (kH u v [(2,.i j),(7,.i (v.length:Int))]) ?_;obtain⟨y,n,h⟩:=bnd h;obtain⟨z,o,h⟩:=bnd h;refine sq (gr fol [4,5,12,13] (kH u v ((2,.i j)::(kAI (v.length:Int) (w64 ((w64 (y*1000000000))+z))))) (ac (iv ji encI n) (ac (lv 0 ce3 encI n rfl) (ac (iv ji encI o) (ac (lv 0 ce3 encI o rfl) az)))) ?_);obtain⟨G,b,h⟩:=bnd h;obtain⟨H,q,h⟩:=bnd h;obtain⟨I,r,h⟩:=bnd h;refine sq (gr fol [4,5,6,11,12,13] (kH u v (kAj j (v.length:Int) H I [])) (ac (iv ji encI b) (ac (lv 0 ce3 encI b rfl) (ac (hs (.done (.opt (ku ZT .quo 3 (.tmp 28) (.tmp 33) (.i (w64 ((w64 (y*1000000000))+z))) (.i G))) (.i H)) (qb2 q)) (ac (iv ji encI b) (ac (lv 0 ce3 encI b rfl) (ac (hs (.done (.opt (ku ZT .rem 3 (.tmp 35) (.tmp 40) (.i (w64 ((w64 (y*1000000000))+z))) (.i G))) (.i I)) (qfN r)) az)))))) ?_);refine sq (Goes.block ?_);obtain⟨A,g9,h⟩:=bnd h;refine Goes.imp (Q:=fun x s'=>(x= .exit 0/\ ∃t,(.inl t)=A/\Sub s' (ofG 77 [(9,.i t)],[]))\/(x= .ret/\ ∃w,(.inr w)=A/\zJ ZT [.tmp 6] (.i w) .ret s')) ?_ ?_
 ·refine Ud (fun M s=> ∃(d:Int) (c:Int),s=(ofG 77 (kH u v (kAj j (v.length:Int) c d [])),[])/\jW u v j M d c=some A) ?_ (m:=N) ⟨_,_,rfl,g9⟩;rintro M s ⟨d,c,rfl,g9⟩
  cases M with
  |zero=>simp only[jW]at g9;cases g9
  |succ M=>
   rw[jW]at g9;refine sq ?_;refine sq ?_;obtain⟨B,a,g9⟩:=bnd g9;refine Ue (s':=(ofG 77 (kH u v (kAj j (v.length:Int) c d [(63,.bool B)])),[])) ?_ ?_
   ·rcases wyD a with⟨p,a⟩|⟨p,a⟩
    ·obtain rfl:=si a;exact tr fol [2] (kH u v (kAj j (v.length:Int) c d [(63,.bool true)])) (ac (gw p) az)
    obtain⟨C,e,a⟩:=bnd a;obtain⟨D,f,a⟩:=bnd a;obtain rfl:=si a;exact tr fol [2,7,8,17,18] (kH u v (kAj j (v.length:Int) c d [(63,.bool (decide ((w64 (c*C))>(w64 ((w64 (d*1000000000))+D)))))])) (ac (gw p) (ac (iv ji encI e) (ac (lv 0 ce3 encI e rfl) (ac (iv ji encI f) (ac (lv 0 ce3 encI f rfl) az)))))
   refine ihB g9 (fun E g9=>?_) (fun E g9=>?_)
   ·refine Goes.skip ?_;refine Goes.block ?_;refine sh fol (kH u v (kAj j (v.length:Int) (w64 (c-1)) d [])) ?_;obtain⟨k,g,g9⟩:=bnd g9;refine sq (gr fol [4,5] (kH u v (kAj j (v.length:Int) (w64 (c-1)) (w64 (d+k)) [])) (ac (iv ji encI g) (ac (lv 0 ce3 encI g rfl) az)) ?_);refine sh fol (kH u v (kAj j (v.length:Int) (w64 (c-1)) (w64 (d+k)) [(74,.bool (decide ((w64 (d+k))>=1000000000)))])) ?_;refine ihD g9 (fun F g9=>?_) (fun F g9=>?_)
    ·refine sh fol [(6,.i (w64 (c-1)))] ?_;refine Goes.ret ?_;obtain rfl:=si g9;exact Or.inr (⟨rfl,_,rfl,(gw2 [.i (w64 (c-1))] (Ua tI))⟩)
    refine Goes.skip ?_;exact⟨M,(ofG 77 (kH u v (kAj j (v.length:Int) (w64 (c-1)) (w64 (d+k)) [])),[]),Nat.lt_succ_self _,(Sub.keep [0,1,2,7,9,10] rfl rfl),_,_,rfl,g9⟩
   refine Goes.exit ?_;obtain rfl:=si g9;exact Or.inl (⟨rfl,_,rfl,(Sub.keep [9] rfl rfl)⟩)
 rintro x s' (⟨rfl,t,rfl,hsub⟩|⟨rfl,J,rfl,hret⟩)
 ·try dsimp only at h
  refine Goes.sub hsub ?_;refine sh fol [(6,.i t)] ?_;refine Goes.ret ?_;obtain rfl:=si h;exact(gw2 [.i t] (Ua tI))
 try dsimp only at h
 obtain rfl:=si h;exact hret
def z8 (a:List Int):Nat->(List Int)->Option (List Int)
 |0,_=>none
 |K+1,b=>
  if(b.length:Int)<(w64 ((a.length:Int)+1))then
  (app 8 b [0]).bind fun c=>
  z8 a K c
  else
  some b
def qV (h:List Int) (e:Int) (a:Int):Nat->(List Int)->Int->Int->Option ((List Int)×Int)
 |0,_,_,_=>none
 |K+1,f,b,c=>
  if c<(h.length:Int)then
  (idx h c).bind fun d=>
  (idx f (w64 (c+e))).bind fun g=>
  ((if(w64 (g-((w64 ((w64 (a*d))+b)).tmod 1000000000)))<0 then
  some (w64 ((w64 ((w64 ((w64 (a*d))+b)).tdiv 1000000000))+1),w64 ((w64 (g-((w64 ((w64 (a*d))+b)).tmod 1000000000)))+1000000000))
  else
  some (w64 ((w64 ((w64 (a*d))+b)).tdiv 1000000000),w64 (g-((w64 ((w64 (a*d))+b)).tmod 1000000000))):Option (Int×Int))).bind fun(i,j)=>
  (put f (w64 (c+e)) j).bind fun k=>
  qV h e a K k i (w64 (c+1))
  else
  some (f,b)
def zb (h:List Int) (b:Int) (e:Int):Nat->(List Int)->Int->Int->Option ((List Int)×Int×Int)
 |0,_,_,_=>none
 |K+1,c,d,a=>
  if a<(h.length:Int)then
  (idx c (w64 (a+b))).bind fun f=>
  (idx h a).bind fun g=>
  (put c (w64 (a+b)) ((w64 ((w64 (f+g))+d)).tmod 1000000000)).bind fun i=>
  zb h b e K i (w64 ((w64 ((w64 (f+g))+d)).tdiv 1000000000)) (w64 (a+1))
  else
  some (c,w64 (e-1),d)
def zw (N:Nat) (b:List Int):Nat->(List Int)->(List Int)->Int->Option ((List Int)×(List Int))
 |0,_,_,_=>none
 |K+1,c,d,a=>
  if a>=0 then
  (qad N c b a).bind fun e=>
  (qV b a e N c 0 0).bind fun(g,i)=>
  (idx g (w64 (a+(b.length:Int)))).bind fun j=>
  (put g (w64 (a+(b.length:Int))) (w64 (j-i))).bind fun f=>
  (idx f (w64 (a+(b.length:Int)))).bind fun k=>
  ((if k<0 then
  (zb b a e N f 0 0).bind fun(h,l,m)=>
  (idx h (w64 (a+(b.length:Int)))).bind fun n=>
  (put h (w64 (a+(b.length:Int))) (w64 (n+m))).bind fun o=>
  some (o,l)
  else
  some (f,e):Option ((List Int)×Int))).bind fun(p,q)=>
  (idx d a).bind fun s=>
  (put d a q).bind fun r=>
  zw N b K p r (w64 (a-1))
  else
  some (c,d)
def jB (N:Nat) (a:List Int) (b:List Int):Option ((List Int)×(List Int)):=
 (jy N a b).bind fun q=>
 if q<0 then
 some ([],a)
 else
 if(b.length:Int)=1 then
 (idx b 0).bind fun r=>
 (xm N a r).bind fun p=>
 (yB N ([p.2]:List Int)).bind fun s=>
 some (p.1,s)
 else
 (idx b (w64 ((b.length:Int)-1))).bind fun t=>
 (qco .i64 1000000000 (w64 (t+1))).bind fun e=>
 (vP N b ([e]:List Int)).bind fun d=>
 (vP N a ([e]:List Int)).bind fun f=>
 (app 8 ([]:List Int) f).bind fun g=>
 (z8 a N g).bind fun c=>
 (mk 8 (w64 ((c.length:Int)-(d.length:Int))) 0).bind fun h=>
 (zw N d N c h (w64 ((w64 ((c.length:Int)-(d.length:Int)))-1))).bind fun(i,j)=>
 (cut i 0 (d.length:Int)).bind fun k=>
 (yB N k).bind fun l=>
 (idx ([e]:List Int) 0).bind fun m=>
 (xm N l m).bind fun n=>
 (yB N j).bind fun o=>
 some (o,n.1)
theorem qaU (N:Nat) (a:List Int) (b:List Int) {res:(List Int)×(List Int)} (h:jB N a b=some res):qc ZT (.fn 85) (kBD a b) [] (.tuple (kBD res.1 res.2)) []:=by
 unfold jB at h;refine Ub Tryz.func85 rfl rfl (m:=206) rfl (rs:=[.tmp 4,.tmp 5]) rfl (l:=(kH a b [])) rfl ?_;refine sh fol (kH a b []) ?_;refine sq ?_;obtain⟨r1,e_r1,h⟩:=bnd h;refine sq (gr fol [2] (kH a b [(27,.bool (decide (r1<0)))]) (ac (cv (qbk N a b e_r1)) az) ?_);refine ihD h (fun c2 h=>?_) (fun c2 h=>?_)
 ·refine sh fol ((4,.nilslice)::(kBB a [])) ?_;refine Goes.ret ?_;obtain rfl:=si h;exact(gw2 [.nilslice,vl encI a] (FzW.tuple (qf.cons (FzW.nilv (E:=encI)) (qf.cons (Ua (qw encI _ (nl rfl))) qf.nil))))
 refine Goes.skip ?_;refine sq ?_;refine sh fol (kH a b [(31,.bool (decide ((b.length:Int)=1)))]) ?_;refine ihD h (fun c3 h=>?_) (fun c3 h=>?_)
 ·obtain⟨x4,e_x4,h⟩:=bnd h;obtain⟨r5,e_r5,h⟩:=bnd h;refine sq (gr fol [2,3,4] [(6,vl encI r5.1),(7,.i r5.2)] (ac (iv ji encI e_x4) (ac (lv 0 ce3 encI e_x4 rfl) (ac (cv (qcP N a x4 e_r5)) az))) ?_);obtain⟨r6,e_r6,h⟩:=bnd h;refine sq (gq fol [3] ((4,vl encI r5.1)::(kBB r6 [])) [.frozen [.i r5.2]] (ac (hs (.callF 158 [.slice 0 0 1 1 1] [.cells [.i r5.2]] [0] [vl encI ([r5.2]:List Int)] (vl encI r6)) (qaZ (FzL.cons (Fz.lit rfl rfl (Uj (AllST.cons tI AllST.nil))) FzL.nil) (yU N ([r5.2]:List Int) e_r6) (qw encI _ (nl rfl)))) az) ?_);refine Goes.sub (show Sub (ofG 206 ((4,vl encI r5.1)::(kBB r6 [])),[.frozen [.i r5.2]]) (ofG 206 ((4,vl encI r5.1)::(kBB r6 [])),[])from(Uc [] [] rfl rfl (.keep (.same (qg encI _)) (.keep (.same (qg encI _)) .nil)) .nil)) ?_;refine Goes.ret ?_;obtain rfl:=si h;exact(gw2 (kBD r5.1 r6) (FzW.tuple (qf.cons (Ua (qw encI _ (nl rfl))) (qf.cons (Ua (qw encI _ (nl rfl))) qf.nil))))
 refine Goes.skip ?_;obtain⟨x7,e_x7,h⟩:=bnd h;obtain⟨g,e_q8,h⟩:=bnd h;refine sq (gq fol [4,5,7] (kH a b [(8,.slice 0 0 1 1 1)]) [.cells [.i g]] (ac (iv ji encI e_x7) (ac (lv 0 ce3 encI e_x7 rfl) (ac (hs (.done (.opt (ku ZT .quo 3 (.const (.int .i64 1000000000)) (.tmp 50) (.i 1000000000) (.i (w64 (x7+1))))) (.i g)) (qb2 e_q8)) az))) ?_);obtain⟨e,e_r9,h⟩:=bnd h;refine sq (gq fol [2] (kAL a [(8,.slice 0 0 1 1 1),(9,vl encI e)]) [.frozen [.i g]] (ac (hs (.callF 159 [vl encI b,.slice 0 0 1 1 1] [.cells [.i g]] [0] (kBD b ([g]:List Int)) (vl encI e)) (qaZ (FzL.cons (Ug (qw encI _ (nl rfl))) (FzL.cons (Fz.lit rfl rfl (Uj (AllST.cons tI AllST.nil))) FzL.nil)) (qaR N b ([g]:List Int) e_r9) (qw encI _ (nl rfl)))) az) ?_);refine Goes.sub (show Sub (ofG 206 (kAL a [(8,.slice 0 0 1 1 1),(9,vl encI e)]),[.frozen [.i g]]) (ofG 206 (kAL a [(8,vl encI ([g]:List Int)),(9,vl encI e)]),[])from(Uc [0] [] rfl rfl (.keep (.same (qg encI _)) (.keep (.frz (Fz.litF rfl rfl (Uj (AllST.cons tI AllST.nil))) (qg encI _)) (.keep (.same (qg encI _)) .nil))) .nil)) ?_;refine sh fol (kAL a [(8,vl encI ([g]:List Int)),(9,vl encI e),(10,.i (e.length:Int))]) ?_;obtain⟨r10,e_r10,h⟩:=bnd h;obtain⟨Z,e_l11,h⟩:=bnd h;refine sq (gq fol [3,4] (kAL a [(8,vl encI ([g]:List Int)),(9,vl encI e),(10,.i (e.length:Int)),(11,.oslice 1 Z.length 1)]) (.dead::(kB Z [])) (ac (cv (qaR N a ([g]:List Int) e_r10)) (ac (hs (.run [0] (yC ZT [22,22] (.slice 0 0 0 0 1) (vl encI r10)) [.cells []] (.oslice 1 Z.length 1) (.dead::(kB Z [])) true) (qbG ji (E:=encI) rfl (src_v (E:=encI) rfl _) (dst_z (E:=encI) rfl rfl rfl e_l11 rfl))) az)) ?_);refine sq (Goes.block ?_);obtain⟨r14,g14,h⟩:=bnd h;refine Goes.imp (Q:=fun x s'=>(x= .exit 0/\ ∃B,B=r14/\Sub s' (ofG 206 (kAX ([g]:List Int) e (e.length:Int) B []),(kB B [])))) ?_ ?_
 ·refine Goes.sub (s':=(ofG 206 (kAL a (kAX ([g]:List Int) e (e.length:Int) Z [])),(kB Z []))) (Uc [] [some 1] rfl rfl (.keep (.same (qg encI _)) (.keep (.same (qg encI _)) (.keep (.same (qg encI _)) (.keep (.same nI) (.keep (.oslice rfl) .nil))))) (.ks .nil)) ?_;refine Ud (fun M s=> ∃(G:List Int),s=(ofG 206 (kAL a (kAX ([g]:List Int) e (e.length:Int) G [])),(kB G []))/\z8 a M G=some r14) ?_ (m:=N) ⟨_,rfl,g14⟩;rintro M s ⟨G,rfl,g14⟩
  cases M with
  |zero=>simp only[z8]at g14;cases g14
  |succ M=>
   rw[z8]at g14;refine sq ?_;refine sh fol (kAL a (kAX ([g]:List Int) e (e.length:Int) G [(68,.bool (decide ((G.length:Int)<(w64 ((a.length:Int)+1)))))])) ?_;refine ihD g14 (fun c15 g14=>?_) (fun c15 g14=>?_)
   ·refine Goes.skip ?_;refine Goes.block ?_;obtain⟨a0,e_l16,g14⟩:=bnd g14;refine gq fol [2] (kAL a [(8,vl encI ([g]:List Int)),(9,vl encI e),(10,.i (e.length:Int)),(11,.oslice 2 a0.length 1)]) (.dead:: .cells [.i 0]::(kB a0 [])) (ac (hs (.run [0,1] (yC ZT [22,22] (.oslice 0 G.length 1) (.slice 1 0 1 1 1)) (kB G [.cells [.i 0]]) (.oslice 2 a0.length 1) (.dead:: .cells [.i 0]::(kB a0 [])) true) (qbG ji (E:=encI) rfl (qfn (E:=encI) (ys:=[0]) rfl rfl rfl rfl) (dst_o (E:=encI) (l:=G) rfl rfl rfl e_l16 rfl))) az) ?_;exact⟨M,(ofG 206 (kAL a (kAX ([g]:List Int) e (e.length:Int) a0 [])),(kB a0 [])),Nat.lt_succ_self _,(Uc [] [some 2] rfl rfl (.keep (.same (qg encI _)) (.keep (.same (qg encI _)) (.keep (.same (qg encI _)) (.keep (.same nI) (.keep (.oslice rfl) .nil))))) (.ks .nil)),_,rfl,g14⟩
   refine Goes.exit ?_;obtain rfl:=si g14;exact⟨rfl,_,rfl,(Sub.keep [8,9,10,11] rfl rfl)⟩
 rintro x s' ⟨rfl,B,rfl,hsub⟩;refine Goes.sub hsub ?_;obtain⟨X,e_l17,h⟩:=bnd h;refine sq (gq fol [4] (kAX ([g]:List Int) e (e.length:Int) B [(12,.slice 1 0 X.length X.length 1)]) (kB B (kB X [])) (ac (hs (.run [] (zC ZT 22 (.i (w64 ((B.length:Int)-(e.length:Int)))) (.i (w64 ((B.length:Int)-(e.length:Int))))) (kB B []) (.slice 1 0 X.length X.length 1) (kB B (kB X [])) false) (qb0 ji (E:=encI) (z:=0) rfl (by kernel_rfl) e_l17 rfl)) az) ?_);refine sq ?_;refine sh fol (kA ([g]:List Int) e (e.length:Int) B X (w64 ((w64 ((B.length:Int)-(e.length:Int)))-1)) []) ?_;refine Goes.block ?_;obtain⟨r23,g23,h⟩:=bnd h;refine Goes.imp (Q:=fun x s'=>(x= .exit 2/\ ∃a1 o,(a1,o)=r23/\Sub s' (ofG 206 [(8,vl encI ([g]:List Int)),(10,.i (e.length:Int)),(11,.oslice 0 a1.length 1),(12,.slice 1 0 o.length o.length 1)],(kB a1 (kB o []))))) ?_ ?_
 ·refine Ud (fun M s=> ∃(C:List Int) (c:List Int) (d:Int),s=(ofG 206 (kA ([g]:List Int) e (e.length:Int) C c d []),(kB C (kB c [])))/\zw N e M C c d=some r23) ?_ (m:=N) ⟨_,_,_,rfl,g23⟩;rintro M s ⟨C,c,d,rfl,g23⟩
  cases M with
  |zero=>simp only[zw]at g23;cases g23
  |succ M=>
   rw[zw]at g23;refine sq ?_;refine sh fol (kA ([g]:List Int) e (e.length:Int) C c d [(83,.bool (decide (d>=0)))]) ?_;refine ihD g23 (fun c24 g23=>?_) (fun c24 g23=>?_)
   ·refine Goes.skip ?_;refine sq (Goes.block ?_);obtain⟨f,e_r25,g23⟩:=bnd g23;refine sq (gr fol [3] (kA ([g]:List Int) e (e.length:Int) C c d [(14,.i f)]) (ac (hs (.call 160 [.oslice 0 C.length 1,vl encI e,.i d] (kB C (kB c [])) [0] [vl encI C,vl encI e,.i d] (.i f)) (qfG (FzL.cons (Fz.os (E:=encI) rfl rfl (nl rfl)) (FzL.cons (Ug (qw encI _ (nl rfl))) (FzL.cons (Ug tI) FzL.nil))) (qhZ N C e d e_r25) tI rfl)) az) ?_);refine sh fol (kA ([g]:List Int) e (e.length:Int) C c d [(14,.i f),(15,.i 0)]) ?_;refine sq ?_;refine sh fol (kA ([g]:List Int) e (e.length:Int) C c d [(14,.i f),(15,.i 0),(16,.i 0)]) ?_;refine Goes.block ?_;obtain⟨r31,g31,g23⟩:=bnd g23;refine Goes.imp (Q:=fun x s'=>(x= .exit 4/\ ∃u n30,(u,n30)=r31/\Sub s' (ofG 206 (kA ([g]:List Int) e (e.length:Int) u c d [(14,.i f),(15,.i n30)]),(kB u (kB c []))))) ?_ ?_
    ·refine Ud (fun M s=> ∃(k:List Int) (p:Int) (j:Int),s=(ofG 206 (kA ([g]:List Int) e (e.length:Int) k c d (kAd f p j [])),(kB k (kB c [])))/\qV e d f M k p j=some r31) ?_ (m:=N) ⟨_,_,_,rfl,g31⟩;rintro M s ⟨k,p,j,rfl,g31⟩
     cases M with
     |zero=>simp only[qV]at g31;cases g31
     |succ M=>
      rw[qV]at g31;refine sq ?_;refine sh fol (kA ([g]:List Int) e (e.length:Int) k c d (kAd f p j [(92,.bool (decide (j<(e.length:Int))))])) ?_;refine ihD g31 (fun c32 g31=>?_) (fun c32 g31=>?_)
      ·refine Goes.skip ?_;refine sq (Goes.block ?_);obtain⟨D,e_x33,g31⟩:=bnd g31;refine sq (gr fol [3,4] (kA ([g]:List Int) e (e.length:Int) k c d [(14,.i f),(16,.i j),(17,.i (w64 ((w64 (f*D))+p)))]) (ac (iv ji encI e_x33) (ac (lv 0 ce3 encI e_x33 rfl) az)) ?_);obtain⟨Y,H,g31⟩:=bnd g31;refine sq (gr fol [4,5] (kA ([g]:List Int) e (e.length:Int) k c d [(14,.i f),(16,.i j),(17,.i (w64 ((w64 (f*D))+p))),(18,.i (w64 (Y-((w64 ((w64 (f*D))+p)).tmod 1000000000))))]) (ac (hs (.done (.opt (qd ZT 22 (.oslice 0 k.length 1) (.i (w64 (j+d))))) (.ptr 0 ((w64 (j+d):Int).toNat*1+0))) (qfT ji H)) (ac (hs (.run [0] (ko ZT 3 (.ptr 0 ((w64 (j+d):Int).toNat*1+0))) (kB k (kB c [])) (.i Y) (kB k (kB c [])) false) (qcb ce3 (E:=encI) (l:=k) rfl rfl H (nl rfl) rfl)) az)) ?_);refine sh fol (kA ([g]:List Int) e (e.length:Int) k c d (kAd f (w64 ((w64 ((w64 (f*D))+p)).tdiv 1000000000)) j [(18,.i (w64 (Y-((w64 ((w64 (f*D))+p)).tmod 1000000000))))])) ?_;refine sq ?_;refine sh fol (kA ([g]:List Int) e (e.length:Int) k c d (kAd f (w64 ((w64 ((w64 (f*D))+p)).tdiv 1000000000)) j [(18,.i (w64 (Y-((w64 ((w64 (f*D))+p)).tmod 1000000000)))),(115,.bool (decide ((w64 (Y-((w64 ((w64 (f*D))+p)).tmod 1000000000)))<0)))])) ?_;obtain⟨r37,g37,g31⟩:=bnd g31;refine Goes.imp (Q:=fun x s'=>(x= .normal/\ ∃P n36,(P,n36)=r37/\Sub s' (ofG 206 (kA ([g]:List Int) e (e.length:Int) k c d (kAd f P j [(18,.i n36)])),(kB k (kB c []))))) ?_ ?_
       ·refine ihD g37 (fun c38 g37=>?_) (fun c38 g37=>?_)
        ·refine sh fol (kA ([g]:List Int) e (e.length:Int) k c d (kAd f (w64 ((w64 ((w64 (f*D))+p)).tdiv 1000000000)) j [(18,.i (w64 ((w64 (Y-((w64 ((w64 (f*D))+p)).tmod 1000000000)))+1000000000)))])) ?_;refine gh fol (kA ([g]:List Int) e (e.length:Int) k c d (kAd f (w64 ((w64 ((w64 ((w64 (f*D))+p)).tdiv 1000000000))+1)) j [(18,.i (w64 ((w64 (Y-((w64 ((w64 (f*D))+p)).tmod 1000000000)))+1000000000)))])) ?_;obtain rfl:=si g37;exact⟨rfl,_,_,rfl,(Sub.refl _)⟩
        refine Goes.skip ?_;obtain rfl:=si g37;exact⟨rfl,_,_,rfl,(Sub.keep [8,9,10,11,12,13,14,15,16,18] rfl rfl)⟩
       rintro x s' ⟨rfl,P,n36,rfl,hsub⟩
       try dsimp only at g31
       refine Goes.sub hsub ?_;obtain⟨U,e_l39,g31⟩:=bnd g31;refine gq fol [5,6] (kA ([g]:List Int) e (e.length:Int) k c d (kAd f P j [])) (kB U (kB c [])) (ac (hs (.done (.opt (qd ZT 22 (.oslice 0 k.length 1) (.i (w64 (j+d))))) (.ptr 0 ((w64 (j+d):Int).toNat*1+0))) (qfT ji H)) (ac (hs (.run [0] (qp ZT 3 (.ptr 0 ((w64 (j+d):Int).toNat*1+0)) (.i n36)) (kB k (kB c [])) .undef (kB U (kB c [])) true) (vT (E:=encI) (l:=k) (y:=n36) rfl (show _=some 1 by kernel_rfl) rfl H rfl rfl rfl rfl rfl e_l39 rfl)) az)) ?_;refine Goes.sub (show Sub (ofG 206 (kA ([g]:List Int) e (e.length:Int) k c d (kAd f P j [])),(kB U (kB c []))) (ofG 206 (kA ([g]:List Int) e (e.length:Int) U c d (kAd f P j [])),(kB U (kB c [])))from(Uc [] [some 0,some 1] rfl rfl (.keep (.same (qg encI _)) (.keep (.same (qg encI _)) (.keep (.same nI) (.keep (.osliceE rfl (zn e_l39)) (.keep (.slice rfl) (.keep (.same nI) (.keep (.same nI) (.keep (.same nI) (.keep (.same nI) .nil))))))))) (.ks (.ks .nil)))) ?_;refine gh fol (kA ([g]:List Int) e (e.length:Int) U c d (kAd f P (w64 (j+1)) [])) ?_;exact⟨M,(ofG 206 (kA ([g]:List Int) e (e.length:Int) U c d (kAd f P (w64 (j+1)) [])),(kB U (kB c []))),Nat.lt_succ_self _,(Sub.refl _),_,_,_,rfl,g31⟩
      refine Goes.exit ?_;obtain rfl:=si g31;exact⟨rfl,_,_,rfl,(Sub.keep [8,9,10,11,12,13,14,15] rfl rfl)⟩
    rintro x s' ⟨rfl,u,n30,rfl,hsub⟩
    try dsimp only at g23
    refine Goes.sub hsub ?_;obtain⟨x40,I,g23⟩:=bnd g23;obtain⟨v,e_l41,g23⟩:=bnd g23;refine sq (gq fol [8,9,12,13] (kA ([g]:List Int) e (e.length:Int) u c d [(14,.i f)]) (kB v (kB c [])) (ac (hs (.done (.opt (qd ZT 22 (.oslice 0 u.length 1) (.i (w64 (d+(e.length:Int)))))) (.ptr 0 ((w64 (d+(e.length:Int)):Int).toNat*1+0))) (qfT ji I)) (ac (hs (.run [0] (ko ZT 3 (.ptr 0 ((w64 (d+(e.length:Int)):Int).toNat*1+0))) (kB u (kB c [])) (.i x40) (kB u (kB c [])) false) (qcb ce3 (E:=encI) (l:=u) rfl rfl I (nl rfl) rfl)) (ac (hs (.done (.opt (qd ZT 22 (.oslice 0 u.length 1) (.i (w64 (d+(e.length:Int)))))) (.ptr 0 ((w64 (d+(e.length:Int)):Int).toNat*1+0))) (qfT ji I)) (ac (hs (.run [0] (qp ZT 3 (.ptr 0 ((w64 (d+(e.length:Int)):Int).toNat*1+0)) (.i (w64 (x40-n30)))) (kB u (kB c [])) .undef (kB v (kB c [])) true) (vT (E:=encI) (l:=u) (y:=w64 (x40-n30)) rfl (show _=some 1 by kernel_rfl) rfl I rfl rfl rfl rfl rfl e_l41 rfl)) az)))) ?_);refine Goes.sub (show Sub (ofG 206 (kA ([g]:List Int) e (e.length:Int) u c d [(14,.i f)]),(kB v (kB c []))) (ofG 206 (kA ([g]:List Int) e (e.length:Int) v c d [(14,.i f)]),(kB v (kB c [])))from(Uc [] [some 0,some 1] rfl rfl (.keep (.same (qg encI _)) (.keep (.same (qg encI _)) (.keep (.same nI) (.keep (.osliceE rfl (zn e_l41)) (.keep (.slice rfl) (.keep (.same nI) (.keep (.same nI) .nil))))))) (.ks (.ks .nil)))) ?_;refine sq ?_;obtain⟨x42,e_x42,g23⟩:=bnd g23;refine sq (gr fol [4,5] (kA ([g]:List Int) e (e.length:Int) v c d [(14,.i f),(145,.bool (decide (x42<0)))]) (ac (hs (.done (.opt (qd ZT 22 (.oslice 0 v.length 1) (.i (w64 (d+(e.length:Int)))))) (.ptr 0 ((w64 (d+(e.length:Int)):Int).toNat*1+0))) (qfT ji e_x42)) (ac (hs (.run [0] (ko ZT 3 (.ptr 0 ((w64 (d+(e.length:Int)):Int).toNat*1+0))) (kB v (kB c [])) (.i x42) (kB v (kB c [])) false) (qcb ce3 (E:=encI) (l:=v) rfl rfl e_x42 (nl rfl) rfl)) az)) ?_);obtain⟨r45,g45,g23⟩:=bnd g23;refine Goes.imp (Q:=fun x s'=>(x= .normal/\ ∃r n44,(r,n44)=r45/\Sub s' (ofG 206 (kA ([g]:List Int) e (e.length:Int) r c d [(14,.i n44)]),(kB r (kB c []))))) ?_ ?_
    ·refine ihD g45 (fun c46 g45=>?_) (fun c46 g45=>?_)
     ·refine sh fol (kA ([g]:List Int) e (e.length:Int) v c d [(14,.i (w64 (f-1)))]) ?_;refine sh fol (kA ([g]:List Int) e (e.length:Int) v c d [(14,.i (w64 (f-1))),(19,.i 0)]) ?_;refine sq ?_;refine sh fol (kA ([g]:List Int) e (e.length:Int) v c d [(14,.i (w64 (f-1))),(19,.i 0),(20,.i 0)]) ?_;refine Goes.block ?_;obtain⟨r53,q,g45⟩:=bnd g45;refine Goes.imp (Q:=fun x s'=>(x= .exit 6/\ ∃w a2 n52,(w,a2,n52)=r53/\Sub s' (ofG 206 (kA ([g]:List Int) e (e.length:Int) w c d [(14,.i a2),(19,.i n52)]),(kB w (kB c []))))) ?_ ?_
      ·refine Ud (fun M s=> ∃(t:List Int) (A:Int) (n:Int),s=(ofG 206 (kA ([g]:List Int) e (e.length:Int) t c d [(14,.i (w64 (f-1))),(19,.i A),(20,.i n)]),(kB t (kB c [])))/\zb e d f M t A n=some r53) ?_ (m:=N) ⟨_,_,_,rfl,q⟩;rintro M s ⟨t,A,n,rfl,q⟩
       cases M with
       |zero=>simp only[zb]at q;cases q
       |succ M=>
        rw[zb]at q;refine sq ?_;refine sh fol (kA ([g]:List Int) e (e.length:Int) t c d [(14,.i (w64 (f-1))),(19,.i A),(20,.i n),(150,.bool (decide (n<(e.length:Int))))]) ?_;refine ihD q (fun c54 q=>?_) (fun c54 q=>?_)
        ·refine Goes.skip ?_;refine sq (Goes.block ?_);obtain⟨F,J,q⟩:=bnd q;obtain⟨K,e_x56,q⟩:=bnd q;refine sq (gr fol [4,5,8,9] (kA ([g]:List Int) e (e.length:Int) t c d ((14,.i (w64 (f-1)))::(kAQ n (w64 ((w64 (F+K))+A))))) (ac (hs (.done (.opt (qd ZT 22 (.oslice 0 t.length 1) (.i (w64 (n+d))))) (.ptr 0 ((w64 (n+d):Int).toNat*1+0))) (qfT ji J)) (ac (hs (.run [0] (ko ZT 3 (.ptr 0 ((w64 (n+d):Int).toNat*1+0))) (kB t (kB c [])) (.i F) (kB t (kB c [])) false) (qcb ce3 (E:=encI) (l:=t) rfl rfl J (nl rfl) rfl)) (ac (iv ji encI e_x56) (ac (lv 0 ce3 encI e_x56 rfl) az)))) ?_);obtain⟨L,e_l57,q⟩:=bnd q;refine sq (gq fol [6,7] (kA ([g]:List Int) e (e.length:Int) t c d ((14,.i (w64 (f-1)))::(kAQ n (w64 ((w64 (F+K))+A))))) (kB L (kB c [])) (ac (hs (.done (.opt (qd ZT 22 (.oslice 0 t.length 1) (.i (w64 (n+d))))) (.ptr 0 ((w64 (n+d):Int).toNat*1+0))) (qfT ji J)) (ac (hs (.run [0] (qp ZT 3 (.ptr 0 ((w64 (n+d):Int).toNat*1+0)) (.i ((w64 ((w64 (F+K))+A)).tmod 1000000000))) (kB t (kB c [])) .undef (kB L (kB c [])) true) (vT (E:=encI) (l:=t) (y:=(w64 ((w64 (F+K))+A)).tmod 1000000000) rfl (show _=some 1 by kernel_rfl) rfl J rfl rfl rfl rfl rfl e_l57 rfl)) az)) ?_);refine Goes.sub (show Sub (ofG 206 (kA ([g]:List Int) e (e.length:Int) t c d ((14,.i (w64 (f-1)))::(kAQ n (w64 ((w64 (F+K))+A))))),(kB L (kB c []))) (ofG 206 (kA ([g]:List Int) e (e.length:Int) L c d ((14,.i (w64 (f-1)))::(kAQ n (w64 ((w64 (F+K))+A))))),(kB L (kB c [])))from(Uc [] [some 0,some 1] rfl rfl (.keep (.same (qg encI _)) (.keep (.same (qg encI _)) (.keep (.same nI) (.keep (.osliceE rfl (zn e_l57)) (.keep (.slice rfl) (.keep (.same nI) (.keep (.same nI) (.keep (.same nI) (.keep (.same nI) .nil))))))))) (.ks (.ks .nil)))) ?_;refine gh fol (kA ([g]:List Int) e (e.length:Int) L c d [(14,.i (w64 (f-1))),(19,.i (w64 ((w64 ((w64 (F+K))+A)).tdiv 1000000000))),(20,.i n)]) ?_;refine gh fol (kA ([g]:List Int) e (e.length:Int) L c d [(14,.i (w64 (f-1))),(19,.i (w64 ((w64 ((w64 (F+K))+A)).tdiv 1000000000))),(20,.i (w64 (n+1)))]) ?_;exact⟨M,(ofG 206 (kA ([g]:List Int) e (e.length:Int) L c d [(14,.i (w64 (f-1))),(19,.i (w64 ((w64 ((w64 (F+K))+A)).tdiv 1000000000))),(20,.i (w64 (n+1)))]),(kB L (kB c []))),Nat.lt_succ_self _,(Sub.refl _),_,_,_,rfl,q⟩
        refine Goes.exit ?_;obtain rfl:=si q;exact⟨rfl,_,_,_,rfl,(Sub.keep [8,9,10,11,12,13,14,19] rfl rfl)⟩
      rintro x s' ⟨rfl,w,a2,n52,rfl,hsub⟩
      try dsimp only at g45
      refine Goes.sub hsub ?_;obtain⟨x58,O,g45⟩:=bnd g45;obtain⟨l59,e_l59,g45⟩:=bnd g45;refine gq fol [8,9,12,13] (kA ([g]:List Int) e (e.length:Int) w c d [(14,.i a2)]) (kB l59 (kB c [])) (ac (hs (.done (.opt (qd ZT 22 (.oslice 0 w.length 1) (.i (w64 (d+(e.length:Int)))))) (.ptr 0 ((w64 (d+(e.length:Int)):Int).toNat*1+0))) (qfT ji O)) (ac (hs (.run [0] (ko ZT 3 (.ptr 0 ((w64 (d+(e.length:Int)):Int).toNat*1+0))) (kB w (kB c [])) (.i x58) (kB w (kB c [])) false) (qcb ce3 (E:=encI) (l:=w) rfl rfl O (nl rfl) rfl)) (ac (hs (.done (.opt (qd ZT 22 (.oslice 0 w.length 1) (.i (w64 (d+(e.length:Int)))))) (.ptr 0 ((w64 (d+(e.length:Int)):Int).toNat*1+0))) (qfT ji O)) (ac (hs (.run [0] (qp ZT 3 (.ptr 0 ((w64 (d+(e.length:Int)):Int).toNat*1+0)) (.i (w64 (x58+n52)))) (kB w (kB c [])) .undef (kB l59 (kB c [])) true) (vT (E:=encI) (l:=w) (y:=w64 (x58+n52)) rfl (show _=some 1 by kernel_rfl) rfl O rfl rfl rfl rfl rfl e_l59 rfl)) az)))) ?_;obtain rfl:=si g45;exact⟨rfl,_,_,rfl,((show Sub (ofG 206 (kA ([g]:List Int) e (e.length:Int) w c d [(14,.i a2)]),(kB l59 (kB c []))) (ofG 206 (kA ([g]:List Int) e (e.length:Int) l59 c d [(14,.i a2)]),(kB l59 (kB c [])))from(Uc [] [some 0,some 1] rfl rfl (.keep (.same (qg encI _)) (.keep (.same (qg encI _)) (.keep (.same nI) (.keep (.osliceE rfl (zn e_l59)) (.keep (.slice rfl) (.keep (.same nI) (.keep (.same nI) .nil))))))) (.ks (.ks .nil)))).trans (Sub.refl _))⟩
     refine Goes.skip ?_;obtain rfl:=si g45;exact⟨rfl,_,_,rfl,(Sub.keep [8,9,10,11,12,13,14] rfl rfl)⟩
    rintro x s' ⟨rfl,r,n44,rfl,hsub⟩
    try dsimp only at g23
    refine Goes.sub hsub ?_;obtain⟨x60,e_x60,g23⟩:=bnd g23;obtain⟨V,e_l61,g23⟩:=bnd g23;refine gq fol [3,4] (kA ([g]:List Int) e (e.length:Int) r c d []) (kB r (kB V [])) (ac (hs (.done (.opt (qd ZT 22 (.slice 1 0 c.length c.length 1) (.i d))) (.ptr 1 ((d:Int).toNat*1+0))) (xx ji e_x60)) (ac (hs (.run [1] (qp ZT 3 (.ptr 1 ((d:Int).toNat*1+0)) (.i n44)) (kB r (kB c [])) .undef (kB r (kB V [])) true) (vT (E:=encI) (l:=c) (y:=n44) rfl (show _=some 1 by kernel_rfl) rfl e_x60 rfl rfl rfl rfl rfl e_l61 rfl)) az)) ?_;refine Goes.sub (show Sub (ofG 206 (kA ([g]:List Int) e (e.length:Int) r c d []),(kB r (kB V []))) (ofG 206 (kA ([g]:List Int) e (e.length:Int) r V d []),(kB r (kB V [])))from(Uc [] [some 0,some 1] rfl rfl (.keep (.same (qg encI _)) (.keep (.same (qg encI _)) (.keep (.same nI) (.keep (.oslice rfl) (.keep (.sliceE rfl (zn e_l61)) (.keep (.same nI) .nil)))))) (.ks (.ks .nil)))) ?_;refine gh fol (kA ([g]:List Int) e (e.length:Int) r V (w64 (d-1)) []) ?_;exact⟨M,(ofG 206 (kA ([g]:List Int) e (e.length:Int) r V (w64 (d-1)) []),(kB r (kB V []))),Nat.lt_succ_self _,(Sub.refl _),_,_,_,rfl,g23⟩
   refine Goes.exit ?_;obtain rfl:=si g23;exact⟨rfl,_,_,rfl,(Sub.keep [8,10,11,12] rfl rfl)⟩
 rintro x s' ⟨rfl,a1,o,rfl,hsub⟩
 try dsimp only at h
 refine Goes.sub hsub ?_;refine sq (Goes.sub (s':=(ofG 206 [(8,vl encI ([g]:List Int)),(10,.i (e.length:Int)),(11,vl encI a1),(12,.slice 0 0 o.length o.length 1)],(kB o []))) (Uc [0] [some 1] rfl rfl (.keep (.same (qg encI _)) (.keep (.same nI) (.keep (.frz (Fz.os (E:=encI) rfl rfl (nl rfl)) (qg encI _)) (.keep (.slice rfl) .nil)))) (.ks .nil)) ?_);obtain⟨s62,e_s62,h⟩:=bnd h;obtain⟨r63,e_r63,h⟩:=bnd h;obtain⟨x64,e_x64,h⟩:=bnd h;obtain⟨r65,e_r65,h⟩:=bnd h;refine gr fol [2,3,5,6,7] [(12,.slice 0 0 o.length o.length 1),(22,vl encI r65.1)] (ac (hs (.done (.opt (qK ZT 22 (vl encI a1) none (some (.i (e.length:Int))) none)) (vl encI s62)) (qmD ji (E:=encI) rfl none (some (e.length:Int)) e_s62)) (ac (cv (yU N s62 e_r63)) (ac (iv ji encI e_x64) (ac (lv 0 ce3 encI e_x64 rfl) (ac (cv (qcP N r63 x64 e_r65)) az))))) ?_;obtain⟨r66,e_r66,h⟩:=bnd h;refine sq (gq fol [1] ((4,vl encI r66)::(kBB r65.1 [])) (kAU o) (ac (hs (.callF 158 [.slice 0 0 o.length o.length 1] (kB o []) [0] [vl encI o] (vl encI r66)) (qaZ (FzL.cons (Fz.sl (E:=encI) rfl rfl (nl rfl)) FzL.nil) (yU N o e_r66) (qw encI _ (nl rfl)))) az) ?_);refine Goes.sub (show Sub (ofG 206 ((4,vl encI r66)::(kBB r65.1 [])),(kAU o)) (ofG 206 ((4,vl encI r66)::(kBB r65.1 [])),[])from(Uc [] [] rfl rfl (.keep (.same (qg encI _)) (.keep (.same (qg encI _)) .nil)) .nil)) ?_;refine Goes.ret ?_;obtain rfl:=si h;exact(gw2 (kBD r66 r65.1) (FzW.tuple (qf.cons (Ua (qw encI _ (nl rfl))) (qf.cons (Ua (qw encI _ (nl rfl))) qf.nil))))
def zg (N:Nat):Nat->(List Int)->(List Int)->Option (List Int)
 |0,_,_=>none
 |K+1,b,a=>
  if(a.length:Int)>0 then
  (jB N b a).bind fun c=>
  zg N K a c.2
  else
  some b
def qaz (N:Nat) (a:List Int) (b:List Int):Option (List Int):=
 (zg N N a b).bind fun c=>
 some c
theorem qd5 (N:Nat) (a:List Int) (b:List Int) {res:List Int} (h:qaz N a b=some res):qc ZT (.fn 32) (kBD a b) [] (vl encI res) []:=by
 unfold qaz at h;refine Ub Tryz.func32 rfl rfl (m:=19) rfl (rs:=[.tmp 4]) rfl (l:=(kH a b [])) rfl ?_;refine sh fol (kH a b []) ?_;refine sq (Goes.block ?_);obtain⟨i,g4,h⟩:=bnd h;refine Goes.imp (Q:=fun x s'=>(x= .exit 0/\ ∃d,d=i/\Sub s' (ofG 19 (kAL d []),[]))) ?_ ?_
 ·refine Ud (fun M s=> ∃(e:List Int) (c:List Int),s=(ofG 19 (kH e c []),[])/\zg N M e c=some i) ?_ (m:=N) ⟨_,_,rfl,g4⟩;rintro M s ⟨e,c,rfl,g4⟩
  cases M with
  |zero=>simp only[zg]at g4;cases g4
  |succ M=>
   rw[zg]at g4;refine sq ?_;refine sh fol (kH e c [(9,.bool (decide ((c.length:Int)>0)))]) ?_;refine ihD g4 (fun j g4=>?_) (fun j g4=>?_)
   ·refine Goes.skip ?_;refine Goes.block ?_;obtain⟨g,f,g4⟩:=bnd g4;refine sq (gr fol [2] [(1,vl encI c),(6,vl encI g.2)] (ac (cv (qaU N e c f)) az) ?_);refine gh fol (kH c g.2 []) ?_;exact⟨M,(ofG 19 (kH c g.2 []),[]),Nat.lt_succ_self _,(Sub.refl _),_,_,rfl,g4⟩
   refine Goes.exit ?_;obtain rfl:=si g4;exact⟨rfl,_,rfl,(Sub.keep [0] rfl rfl)⟩
 rintro x s' ⟨rfl,d,rfl,hsub⟩;refine Goes.sub hsub ?_;refine sh fol [(4,vl encI d)] ?_;refine Goes.ret ?_;obtain rfl:=si h;exact(gw2 [vl encI d] (Ua (qw encI _ (nl rfl))))
def qa2 (N:Nat) (a:Str):Option Int:=
 (if(a.length:Int)>0 then
 (idx a 0).bind fun t=>
 some (decide ((t.toNat:Int)=45))
 else
 some false:Option Bool).bind fun u=>
 ((if u=true then
 (cut a 1 (a.length:Int)).bind fun v=>
 some v
 else
 some a:Option Str)).bind fun b=>
 (yR N b).bind fun c=>
 ((cut b 0 c).bind fun f=>
 (jk N f).bind fun g=>
 if(!g)=true then
 some true
 else
 (idx a 0).bind fun h=>
 if(h.toNat:Int)=45 then
 (cut b 0 c).bind fun i=>
 some (i==[48])
 else
 some false:Option Bool).bind fun j=>
 if j=true then
 some 1
 else
 (if c<(b.length:Int)then
 (cut b (w64 (c+1)) (b.length:Int)).bind fun k=>
 (jk N k).bind fun l=>
 if(!l)=true then
 some true
 else
 (cut b (w64 (c+1)) (b.length:Int)).bind fun m=>
 if(m==[48])=true then
 some true
 else
 (cut b (w64 (c+1)) (b.length:Int)).bind fun n=>
 some (n==[49])
 else
 some false:Option Bool).bind fun o=>
 if o=true then
 some 1
 else
 (if c>600 then
 some true
 else
 some (decide ((w64 ((w64 ((b.length:Int)-c))-1))>600)):Option Bool).bind fun p=>
 if p=true then
 some 4
 else
 ((if c<(b.length:Int)then
 (jC N b).bind fun d=>
 (qaz N d.1.w d.2.w).bind fun e=>
 (if(!decide ((e.length:Int)=1))=true then
 some true
 else
 (idx e 0).bind fun q=>
 some (!decide (q=1)):Option Bool).bind fun r=>
 if r=true then
 some (.inr 1)
 else
 some (.inl ())
 else
 some (.inl ()):Option (Unit⊕Int))).bind (fun
 |(.inl ())=>
 some 0
 |(.inr s)=>
 some s)
theorem qba (N:Nat) (a:Str) {res:Int} (h:qa2 N a=some res):qc ZT (.fn 7) [.str a] [] (.i res) []:=by
 unfold qa2 at h;refine Ub Tryz.func7 rfl rfl (m:=96) rfl (rs:=[.tmp 2]) rfl (l:=(kAY a)) rfl ?_;refine sh fol (kAY a) ?_;refine sh fol [(0,.str a),(3,.str a)] ?_;refine sq ?_;refine sq ?_;obtain⟨b3,g,h⟩:=bnd h;refine Ue (s':=(ofG 96 [(0,.str a),(3,.str a),(16,.bool b3)],[])) ?_ ?_
 ·rcases wyD g with⟨Y,g⟩|⟨Y,g⟩
  ·obtain⟨c2,J,g⟩:=bnd g;obtain rfl:=si g;exact tr fol [3,5] [(0,.str a),(3,.str a),(16,.bool (decide ((c2.toNat:Int)=45)))] (ac (gw Y) (ac (hs (.done (.opt (yF ZT 9 (.str a) (.i 0))) (.int .u8 (c2.toNat:Int))) (qaF st9 J)) az))
  obtain rfl:=si g;exact tr fol [3] [(0,.str a),(3,.str a),(16,.bool false)] (ac (gw Y) az)
 obtain⟨r6,g6,h⟩:=bnd h;refine Goes.imp (Q:=fun x s'=>(x= .normal/\ ∃e,e=r6/\Sub s' (ofG 96 [(0,.str a),(3,.str e)],[]))) ?_ ?_
 ·refine ihB g6 (fun c7 g6=>?_) (fun c7 g6=>?_)
  ·obtain⟨s8,K,g6⟩:=bnd g6;refine gr fol [1] [(0,.str a),(3,.str s8)] (ac (hs (.done (.opt (qK ZT 9 (.str a) (some (.i 1)) none none)) (.str s8)) (ja st9 (some 1) none K)) az) ?_;obtain rfl:=si g6;exact⟨rfl,_,rfl,(Sub.refl _)⟩
  refine Goes.skip ?_;obtain rfl:=si g6;exact⟨rfl,_,rfl,(Sub.keep [0,3] rfl rfl)⟩
 rintro x s' ⟨rfl,e,rfl,hsub⟩;refine Goes.sub hsub ?_;obtain⟨d,L,h⟩:=bnd h;refine sq (gr fol [1] ((0,.str a)::(kAh e d [])) (ac (cv (qae N e L)) az) ?_);refine sq ?_;refine sq ?_;obtain⟨Z,c,h⟩:=bnd h;refine Ue (s':=(ofG 96 (kAh e d [(36,.bool Z)]),[])) ?_ ?_
 ·obtain⟨r,n,c⟩:=bnd c;obtain⟨r11,o,c⟩:=bnd c;rcases wyB c with⟨z,c⟩|⟨z,c⟩
  ·obtain rfl:=si c;exact tr fol [2,3,5] (kAh e d [(36,.bool true)]) (ac (hs (.done (.opt (qK ZT 9 (.str e) none (some (.i d)) none)) (.str r)) (ja st9 none (some d) n)) (ac (cv (je N r o)) (ac (gw z) az)))
  obtain⟨M,t,c⟩:=bnd c;rcases wyD c with⟨B,c⟩|⟨B,c⟩
  ·obtain⟨O,C,c⟩:=bnd c;obtain rfl:=si c;exact tr fol [2,3,5,7,9,12] (kAh e d [(36,.bool (O==[48]))]) (ac (hs (.done (.opt (qK ZT 9 (.str e) none (some (.i d)) none)) (.str r)) (ja st9 none (some d) n)) (ac (cv (je N r o)) (ac (gw z) (ac (hs (.done (.opt (yF ZT 23 (.str a) (.i 0))) (.int .u8 (M.toNat:Int))) (qaF qlm t)) (ac (gw B) (ac (hs (.done (.opt (qK ZT 9 (.str e) none (some (.i d)) none)) (.str O)) (ja st9 none (some d) C)) az))))))
  obtain rfl:=si c;exact tr fol [2,3,5,7,9] (kAh e d [(36,.bool false)]) (ac (hs (.done (.opt (qK ZT 9 (.str e) none (some (.i d)) none)) (.str r)) (ja st9 none (some d) n)) (ac (cv (je N r o)) (ac (gw z) (ac (hs (.done (.opt (yF ZT 23 (.str a) (.i 0))) (.int .u8 (M.toNat:Int))) (qaF qlm t)) (ac (gw B) az)))))
 refine ihB h (fun a0 h=>?_) (fun a0 h=>?_)
 ·refine sh fol [(2,.i 1)] ?_;refine Goes.ret ?_;obtain rfl:=si h;exact(gw2 [.i 1] (Ua tI))
 refine Goes.skip ?_;refine sq ?_;refine sq ?_;obtain⟨a1,b,h⟩:=bnd h;refine Ue (s':=(ofG 96 (kAh e d [(62,.bool a1)]),[])) ?_ ?_
 ·rcases wyD b with⟨u,b⟩|⟨u,b⟩
  ·obtain⟨s,p,b⟩:=bnd b;obtain⟨r21,q,b⟩:=bnd b;rcases wyB b with⟨A,b⟩|⟨A,b⟩
   ·obtain rfl:=si b;exact tr fol [4,8,9,11] (kAh e d [(62,.bool true)]) (ac (gw u) (ac (hs (.done (.opt (qK ZT 9 (.str e) (some (.i (w64 (d+1)))) none none)) (.str s)) (ja st9 (some (w64 (d+1))) none p)) (ac (cv (je N s q)) (ac (gw A) az))))
   obtain⟨P,v,b⟩:=bnd b;rcases wyB b with⟨D,b⟩|⟨D,b⟩
   ·obtain rfl:=si b;exact tr fol [4,8,9,11,15,18] (kAh e d [(62,.bool true)]) (ac (gw u) (ac (hs (.done (.opt (qK ZT 9 (.str e) (some (.i (w64 (d+1)))) none none)) (.str s)) (ja st9 (some (w64 (d+1))) none p)) (ac (cv (je N s q)) (ac (gw A) (ac (hs (.done (.opt (qK ZT 9 (.str e) (some (.i (w64 (d+1)))) none none)) (.str P)) (ja st9 (some (w64 (d+1))) none v)) (ac (gw D) az))))))
   obtain⟨U,E,b⟩:=bnd b;obtain rfl:=si b;exact tr fol [4,8,9,11,15,18,22] (kAh e d [(62,.bool (U==[49]))]) (ac (gw u) (ac (hs (.done (.opt (qK ZT 9 (.str e) (some (.i (w64 (d+1)))) none none)) (.str s)) (ja st9 (some (w64 (d+1))) none p)) (ac (cv (je N s q)) (ac (gw A) (ac (hs (.done (.opt (qK ZT 9 (.str e) (some (.i (w64 (d+1)))) none none)) (.str P)) (ja st9 (some (w64 (d+1))) none v)) (ac (gw D) (ac (hs (.done (.opt (qK ZT 9 (.str e) (some (.i (w64 (d+1)))) none none)) (.str U)) (ja st9 (some (w64 (d+1))) none E)) az)))))))
  obtain rfl:=si b;exact tr fol [4] (kAh e d [(62,.bool false)]) (ac (gw u) az)
 refine ihB h (fun a2 h=>?_) (fun a2 h=>?_)
 ·refine sh fol [(2,.i 1)] ?_;refine Goes.ret ?_;obtain rfl:=si h;exact(gw2 [.i 1] (Ua tI))
 refine Goes.skip ?_;refine sq ?_;refine sq ?_;obtain⟨a3,j,h⟩:=bnd h;refine Ue (s':=(ofG 96 (kAh e d [(72,.bool a3)]),[])) ?_ ?_
 ·rcases wyD j with⟨F,j⟩|⟨F,j⟩
  ·obtain rfl:=si j;exact tr fol [2] (kAh e d [(72,.bool true)]) (ac (gw F) az)
  obtain rfl:=si j;exact tr fol [2] (kAh e d [(72,.bool (decide ((w64 ((w64 ((e.length:Int)-d))-1))>600)))]) (ac (gw F) az)
 refine ihB h (fun a4 h=>?_) (fun a4 h=>?_)
 ·refine sh fol [(2,.i 4)] ?_;refine Goes.ret ?_;obtain rfl:=si h;exact(gw2 [.i 4] (Ua tI))
 refine Goes.skip ?_;refine sq ?_;refine sh fol [(3,.str e),(76,.bool (decide (d<(e.length:Int))))] ?_;obtain⟨V,g33,h⟩:=bnd h;refine Goes.imp (Q:=fun x s'=>(x= .normal/\(.inl ())=V/\Sub s' (ofG 96 [],[]))\/(x= .ret/\ ∃X,(.inr X)=V/\zJ ZT [.tmp 2] (.i X) .ret s')) ?_ ?_
 ·refine ihD g33 (fun a5 g33=>?_) (fun a5 g33=>?_)
  ·obtain⟨k,G,g33⟩:=bnd g33;refine sq (gq fol [1] [(5,.ptr 0 0),(6,.ptr 1 0)] (kP k.1.neg k.1.w k.2.neg k.2.w []) (ac (cv (xk N e G)) az) ?_);obtain⟨a6,H,g33⟩:=bnd g33;refine sq (gr fol [4] [(7,vl encI a6)] (ac (cv (qd5 N k.1.w k.2.w H)) az) ?_);refine sq ?_;obtain⟨a7,f,g33⟩:=bnd g33;refine Ue (s':=(ofG 96 [(95,.bool a7)],(kP k.1.neg k.1.w k.2.neg k.2.w []))) ?_ ?_
   ·rcases wyB f with⟨I,f⟩|⟨I,f⟩
    ·obtain rfl:=si f;exact tr fol [3] [(95,.bool true)] (ac (gw I) az)
    obtain⟨a8,y,f⟩:=bnd f;obtain rfl:=si f;exact tr fol [3,5,6] [(95,.bool (!decide (a8=1)))] (ac (gw I) (ac (iv ji encI y) (ac (lv 0 ce3 encI y rfl) az)))
   refine ihB g33 (fun a9 g33=>?_) (fun a9 g33=>?_)
   ·refine sh fol [(2,.i 1)] ?_;refine Goes.ret ?_;obtain rfl:=si g33;exact Or.inr (⟨rfl,_,rfl,(gw2 [.i 1] (Ua tI))⟩)
   refine Goes.skip ?_;obtain rfl:=si g33;exact Or.inl (⟨rfl,rfl,(Uc [] [] rfl rfl .nil .nil)⟩)
  refine Goes.skip ?_;obtain rfl:=si g33;exact Or.inl (⟨rfl,rfl,(Sub.keep [] rfl rfl)⟩)
 rintro x s' (⟨rfl,rfl,hsub⟩|⟨rfl,q43,rfl,hret⟩)
 ·try dsimp only at h
  refine Goes.sub hsub ?_;refine sh fol [(2,.i 0)] ?_;refine Goes.ret ?_;obtain rfl:=si h;exact(gw2 [.i 0] (Ua tI))
 try dsimp only at h
 obtain rfl:=si h;exact hret
def qaj (a:Str):Option Int:=
 if(a==[48])=true then
 some 0
 else
 (if(a.length:Int)>0 then
 (idx a 0).bind fun b=>
 some (decide ((b.toNat:Int)=45))
 else
 some false:Option Bool).bind fun c=>
 if c=true then
 some (-1)
 else
 some 1
theorem qc7 (a:Str) {res:Int} (h:qaj a=some res):qc ZT (.fn 86) [.str a] [] (.i res) []:=by
 unfold qaj at h;refine Ub Tryz.func86 rfl rfl (m:=13) rfl (rs:=[.tmp 2]) rfl (l:=(kAY a)) rfl ?_;refine sh fol (kAY a) ?_;refine sq ?_;refine sh fol ((0,.str a)::(kAq (a==[48]))) ?_;refine ihB h (fun f h=>?_) (fun f h=>?_)
 ·refine sh fol [(2,.i 0)] ?_;refine Goes.ret ?_;obtain rfl:=si h;exact(gw2 [.i 0] (Ua tI))
 refine Goes.skip ?_;refine sq ?_;refine sq ?_;obtain⟨g,b,h⟩:=bnd h;refine Ue (s':=(ofG 13 (kA8 g),[])) ?_ ?_
 ·rcases wyD b with⟨d,b⟩|⟨d,b⟩
  ·obtain⟨e,c,b⟩:=bnd b;obtain rfl:=si b;exact tr fol [3,5] (kA8 (decide ((e.toNat:Int)=45))) (ac (gw d) (ac (hs (.done (.opt (yF ZT 23 (.str a) (.i 0))) (.int .u8 (e.toNat:Int))) (qaF qlm c)) az))
  obtain rfl:=si b;exact tr fol [3] [(12,.bool false)] (ac (gw d) az)
 refine ihB h (fun j h=>?_) (fun j h=>?_)
 ·refine sh fol [(2,.i (-1))] ?_;refine Goes.ret ?_;obtain rfl:=si h;exact(gw2 [.i (-1)] (Ua tI))
 refine Goes.skip ?_;refine sh fol [(2,.i 1)] ?_;refine Goes.ret ?_;obtain rfl:=si h;exact(gw2 [.i 1] (Ua tI))
def qa1 (a:Str):Option Str:=
 (qaj a).bind fun b=>
 if b<0 then
 (cut a 1 (a.length:Int)).bind fun c=>
 some c
 else
 some a
theorem qb3 (a:Str) {res:Str} (h:qa1 a=some res):qc ZT (.fn 33) [.str a] [] (.str res) []:=by
 unfold qa1 at h;refine Ub Tryz.func33 rfl rfl (m:=9) rfl (rs:=[.tmp 2]) rfl (l:=(kAY a)) rfl ?_;refine sh fol (kAY a) ?_;refine sq ?_;obtain⟨e,b,h⟩:=bnd h;refine sq (gr fol [1] [(0,.str a),(5,.bool (decide (e<0)))] (ac (cv (qc7 a b)) az) ?_);refine ihD h (fun f h=>?_) (fun f h=>?_)
 ·obtain⟨d,c,h⟩:=bnd h;refine sq (gr fol [1] [(2,.str d)] (ac (hs (.done (.opt (qK ZT 23 (.str a) (some (.i 1)) none none)) (.str d)) (ja qlm (some 1) none c)) az) ?_);refine Goes.ret ?_;obtain rfl:=si h;exact(gw2 [.str d] (Ua tS))
 refine Goes.skip ?_;refine sh fol [(2,.str a)] ?_;refine Goes.ret ?_;obtain rfl:=si h;exact(gw2 [.str a] (Ua tS))
def qa3 (N:Nat) (a:Str):Option Str:=
 (yR N a).bind fun b=>
 (cut a 0 b).bind fun c=>
 some c
theorem qb5 (N:Nat) (a:Str) {res:Str} (h:qa3 N a=some res):qc ZT (.fn 34) [.str a] [] (.str res) []:=by
 unfold qa3 at h;refine Ub Tryz.func34 rfl rfl (m:=7) rfl (rs:=[.tmp 2]) rfl (l:=(kAY a)) rfl ?_;refine sh fol (kAY a) ?_;obtain⟨e,b,h⟩:=bnd h;obtain⟨d,c,h⟩:=bnd h;refine sq (gr fol [2,3] [(2,.str d)] (ac (cv (qae N a b)) (ac (hs (.done (.opt (qK ZT 23 (.str a) none (some (.i e)) none)) (.str d)) (ja qlm none (some e) c)) az)) ?_);refine Goes.ret ?_;obtain rfl:=si h;exact(gw2 [.str d] (Ua tS))
def qa4 (N:Nat) (a:Str):Option Str:=
 (yR N a).bind fun b=>
 if b=(a.length:Int)then
 some [49]
 else
 (cut a (w64 (b+1)) (a.length:Int)).bind fun c=>
 some c
theorem qfK (N:Nat) (a:Str) {res:Str} (h:qa4 N a=some res):qc ZT (.fn 35) [.str a] [] (.str res) []:=by
 unfold qa4 at h;refine Ub Tryz.func35 rfl rfl (m:=14) rfl (rs:=[.tmp 2]) rfl (l:=(kAY a)) rfl ?_;refine sh fol (kAY a) ?_;obtain⟨b,c,h⟩:=bnd h;refine sq (gr fol [1] (kAg a b []) (ac (cv (qae N a c)) az) ?_);refine sq ?_;refine sh fol (kAg a b [(9,.bool (decide (b=(a.length:Int))))]) ?_;refine ihD h (fun f h=>?_) (fun f h=>?_)
 ·refine sh fol [(2,.str [49])] ?_;refine Goes.ret ?_;obtain rfl:=si h;exact(gw2 [.str [49]] (Ua tS))
 refine Goes.skip ?_;obtain⟨e,d,h⟩:=bnd h;refine sq (gr fol [3] [(2,.str e)] (ac (hs (.done (.opt (qK ZT 23 (.str a) (some (.i (w64 (b+1)))) none none)) (.str e)) (ja qlm (some (w64 (b+1))) none d)) az) ?_);refine Goes.ret ?_;obtain rfl:=si h;exact(gw2 [.str e] (Ua tS))
def qdd (N:Nat) (a:Str) (digits:Int):Option Bool:=
 (if(a.length:Int)<=(w64 ((w64 (2*digits))+2))then
 (qa2 N a).bind fun b=>
 if b=0 then
 (qa3 N a).bind fun c=>
 (qa1 c).bind fun d=>
 if(d.length:Int)<=digits then
 (qa4 N a).bind fun e=>
 some (decide ((e.length:Int)<=digits))
 else
 some false
 else
 some false
 else
 some false:Option Bool).bind fun f=>
 some f
theorem qjC (N:Nat) (a:Str) (digits:Int) {res:Bool} (h:qdd N a digits=some res):qc ZT (.fn 8) [.str a,.i digits] [] (.bool res) []:=by
 unfold qdd at h;refine Ub Tryz.func8 rfl rfl (m:=31) rfl (rs:=[.tmp 4]) rfl (l:=[(0,.str a),(1,.i digits)]) rfl ?_;refine sh fol [(0,.str a),(1,.i digits)] ?_;refine sq ?_;obtain⟨n,b,h⟩:=bnd h;refine Ue (s':=(ofG 31 (kAq n),[])) ?_ ?_
 ·rcases wyD b with⟨f,b⟩|⟨f,b⟩
  ·obtain⟨q,c,b⟩:=bnd b;rcases wyD b with⟨j,b⟩|⟨j,b⟩
   ·obtain⟨o,d,b⟩:=bnd b;obtain⟨r,e,b⟩:=bnd b;rcases wyD b with⟨k,b⟩|⟨k,b⟩
    ·obtain⟨p,g,b⟩:=bnd b;obtain rfl:=si b;exact tr fol [6,8,11,13,14,19,21] (kAq (decide ((p.length:Int)<=digits))) (ac (gw f) (ac (cv (qba N a c)) (ac (gw j) (ac (cv (qb5 N a d)) (ac (cv (qb3 o e)) (ac (gw k) (ac (cv (qfK N a g)) az)))))))
    obtain rfl:=si b;exact tr fol [6,8,11,13,14,19] kAm (ac (gw f) (ac (cv (qba N a c)) (ac (gw j) (ac (cv (qb5 N a d)) (ac (cv (qb3 o e)) (ac (gw k) az))))))
   obtain rfl:=si b;exact tr fol [6,8,11] kAm (ac (gw f) (ac (cv (qba N a c)) (ac (gw j) az)))
  obtain rfl:=si b;exact tr fol [6] kAm (ac (gw f) az)
 refine Goes.ret ?_;obtain rfl:=si h;exact(gw2 [.bool n] (Ua tB))
def zU (l:List Int):Nat->Int->Option (Unit⊕Int)
 |0,_=>none
 |K+1,a=>
  if a<(l.length:Int)then
  (idx l a).bind fun b=>
  if(!decide (b=0))=true then
  some (.inr b)
  else
  zU l K (w64 (a+1))
  else
  some (.inl ())
def yP (N:Nat) (l:List Int):Option Int:=
 (zU l N 0).bind (fun
 |(.inl ())=>
 some 0
 |(.inr a)=>
 some a)
theorem qep (N:Nat) (l:List Int) {res:Int} (h:yP N l=some res):qc ZT (.fn 36) [vl encI l] [] (.i res) []:=by
 unfold yP at h;refine Ub Tryz.func36 rfl rfl (m:=15) rfl (rs:=[.tmp 2]) rfl (l:=(kAL l [])) rfl ?_;refine sh fol (kAL l []) ?_;refine sq ?_;refine sh fol (kBB l [(6,.i (l.length:Int)),(7,.i 0)]) ?_;refine Goes.block ?_;obtain⟨d,g2,h⟩:=bnd h;refine Goes.imp (Q:=fun x s'=>(x= .exit 0/\(.inl ())=d/\Sub s' (ofG 15 [],[]))\/(x= .ret/\ ∃e,(.inr e)=d/\zJ ZT [.tmp 2] (.i e) .ret s')) ?_ ?_
 ·refine Ud (fun M s=> ∃(a:Int),s=(ofG 15 (kBB l (kAS (l.length:Int) a [])),[])/\zU l M a=some d) ?_ (m:=N) ⟨_,rfl,g2⟩;rintro M s ⟨a,rfl,g2⟩
  cases M with
  |zero=>simp only[zU]at g2;cases g2
  |succ M=>
   rw[zU]at g2;refine sh fol (kBB l (kAS (l.length:Int) a (kBJ (decide (a<(l.length:Int)))))) ?_;refine sq ?_;refine ihD g2 (fun f g2=>?_) (fun f g2=>?_)
   ·refine Goes.skip ?_;refine sq (Goes.block ?_);obtain⟨c,b,g2⟩:=bnd g2;refine sq (gr fol [0,1] ((4,.i c)::(kBB l (kAS (l.length:Int) a []))) (ac (iv qq2 encI b) (ac (lv 0 ce30 encI b rfl) az)) ?_);refine sh fol ((4,.i c)::(kBB l (kAS (l.length:Int) a (kA8 (!decide (c=0)))))) ?_;refine ihB g2 (fun g g2=>?_) (fun g g2=>?_)
    ·refine sh fol (kBA c) ?_;refine Goes.ret ?_;obtain rfl:=si g2;exact Or.inr (⟨rfl,_,rfl,(gw2 [.i c] (Ua tI))⟩)
    refine Goes.skip ?_;refine gh fol (kBB l (kAS (l.length:Int) (w64 (a+1)) [])) ?_;exact⟨M,(ofG 15 (kBB l (kAS (l.length:Int) (w64 (a+1)) [])),[]),Nat.lt_succ_self _,(Sub.refl _),_,rfl,g2⟩
   refine Goes.exit ?_;obtain rfl:=si g2;exact Or.inl (⟨rfl,rfl,(Sub.keep [] rfl rfl)⟩)
 rintro x s' (⟨rfl,rfl,hsub⟩|⟨rfl,j,rfl,hret⟩)
 ·try dsimp only at h
  refine Goes.sub hsub ?_;refine sh fol [(2,.i 0)] ?_;refine Goes.ret ?_;obtain rfl:=si h;exact(gw2 [.i 0] (Ua tI))
 try dsimp only at h
 obtain rfl:=si h;exact hret
def jJ (holds:Bool) (e:Int):Option Int:=
 if holds=true then
 some e
 else
 some 0
theorem qaJ (holds:Bool) (e:Int) {res:Int} (h:jJ holds e=some res):qc ZT (.fn 39) [.bool holds,.i e] [] (.i res) []:=by
 unfold jJ at h;refine Ub Tryz.func39 rfl rfl (m:=7) rfl (rs:=[.tmp 4]) rfl (l:=[(0,.bool holds),(1,.i e)]) rfl ?_;refine sh fol [(0,.bool holds),(1,.i e)] ?_;refine sq ?_;refine sh fol [(1,.i e),(5,.bool holds)] ?_;refine ihB h (fun a h=>?_) (fun a h=>?_)
 ·refine sh fol (kBN e) ?_;refine Goes.ret ?_;obtain rfl:=si h;exact(gw2 [.i e] (Ua tI))
 refine Goes.skip ?_;refine sh fol [(4,.i 0)] ?_;refine Goes.ret ?_;obtain rfl:=si h;exact(gw2 [.i 0] (Ua tI))
def xB (n:Int):Option Int:=
 (if n<1 then
 (jJ true 3).bind fun a=>
 some a
 else
 (jJ (decide (n>12)) 3).bind fun b=>
 some b:Option Int).bind fun c=>
 some c
theorem qeb (n:Int) {res:Int} (h:xB n=some res):qc ZT (.fn 67) [.i n] [] (.i res) []:=by
 unfold xB at h;refine Ub Tryz.func67 rfl rfl (m:=10) rfl (rs:=[.tmp 2]) rfl (l:=[(0,.i n)]) rfl ?_;refine sh fol [(0,.i n)] ?_;refine sq ?_;obtain⟨e,a,h⟩:=bnd h;refine Ue (s':=(ofG 10 (kBA e),[])) ?_ ?_
 ·rcases wyD a with⟨d,a⟩|⟨d,a⟩
  ·obtain⟨f,b,a⟩:=bnd a;obtain rfl:=si a;exact tr fol [2,6] (kBA f) (ac (gw d) (ac (cv (qaJ true 3 b)) az))
  obtain⟨g,c,a⟩:=bnd a;obtain rfl:=si a;exact tr fol [2,6] (kBA g) (ac (gw d) (ac (cv (qaJ (decide (n>12)) 3 c)) az))
 refine Goes.ret ?_;obtain rfl:=si h;exact(gw2 [.i e] (Ua tI))
def qaK (n:Int) (letter:Int):Option Bool:=
 (if letter=0 then
 some true
 else
 if letter<=(w64 (0-n))then
 some true
 else
 some (decide (letter>=n)):Option Bool).bind fun a=>
 some a
theorem qgB (n:Int) (letter:Int) {res:Bool} (h:qaK n letter=some res):qc ZT (.fn 89) [.i n,.i letter] [] (.bool res) []:=by
 unfold qaK at h;refine Ub Tryz.func89 rfl rfl (m:=18) rfl (rs:=[.tmp 4]) rfl (l:=(kAK n letter [])) rfl ?_;refine sh fol (kAK n letter []) ?_;refine sq ?_;obtain⟨d,a,h⟩:=bnd h;refine Ue (s':=(ofG 18 (kAq d),[])) ?_ ?_
 ·rcases wyD a with⟨b,a⟩|⟨b,a⟩
  ·obtain rfl:=si a;exact tr fol [2] [(4,.bool true)] (ac (gw b) az)
  rcases wyD a with⟨c,a⟩|⟨c,a⟩
  ·obtain rfl:=si a;exact tr fol [2,8] [(4,.bool true)] (ac (gw b) (ac (gw c) az))
  obtain rfl:=si a;exact tr fol [2,8] (kAq (decide (letter>=n))) (ac (gw b) (ac (gw c) az))
 refine Goes.ret ?_;obtain rfl:=si h;exact(gw2 [.bool d] (Ua tB))
def yE (a:Int) (b:Int):Option Bool:=
 (qaK b a).bind fun c=>
 some c
theorem qc0 (a:Int) (b:Int) {res:Bool} (h:yE a b=some res):qc ZT (.fn 88) [.i a,.fptr [.i b] 0] [] (.bool res) []:=by
 unfold yE at h;refine Ub Tryz.func88 rfl rfl (m:=7) rfl (rs:=[.tmp 3]) rfl (l:=[(0,.i a),(1,.fptr [.i b] 0)]) rfl ?_;refine sh fol [(0,.i a),(1,.fptr [.i b] 0)] ?_;obtain⟨d,c,h⟩:=bnd h;refine sq (gr fol [2] [(3,.bool d)] (ac (cv (qgB b a c)) az) ?_);refine Goes.ret ?_;obtain rfl:=si h;exact(gw2 [.bool d] (Ua tB))
def qI (a:List Int) (b:Int):Nat->Int->Option (Unit⊕Int)
 |0,_=>none
 |K+1,c=>
  if c<(a.length:Int)then
  (idx a c).bind fun d=>
  (yE d b).bind fun e=>
  if e=true then
  some (.inr c)
  else
  qI a b K (w64 (c+1))
  else
  some (.inl ())
def vL (N:Nat) (a:List Int) (b:Int):Option Int:=
 (qI a b N 0).bind (fun
 |(.inl ())=>
 some (-1)
 |(.inr c)=>
 some c)
theorem qcE (N:Nat) (a:List Int) (b:Int) {res:Int} (h:vL N a b=some res):qc ZT (.fn 161) [vl encI a,.func (.func 88) [] [.fptr [.i b] 0]] [] (.i res) []:=by
 unfold vL at h;refine Ub Tryz.func161 rfl rfl (m:=19) rfl (rs:=[.tmp 4]) rfl (l:=(kAL a [(1,.func (.func 88) [] [.fptr [.i b] 0])])) rfl ?_;refine sh fol (kAL a [(1,.func (.func 88) [] [.fptr [.i b] 0])]) ?_;refine sq ?_;refine sh fol (kAL a [(1,.func (.func 88) [] [.fptr [.i b] 0]),(7,.i (a.length:Int)),(8,.i 0)]) ?_;refine Goes.block ?_;obtain⟨f,g2,h⟩:=bnd h;refine Goes.imp (Q:=fun x s'=>(x= .exit 0/\(.inl ())=f/\Sub s' (ofG 19 [],[]))\/(x= .ret/\ ∃j,(.inr j)=f/\zJ ZT [.tmp 4] (.i j) .ret s')) ?_ ?_
 ·refine Ud (fun M s=> ∃(c:Int),s=(ofG 19 (kAL a ((1,.func (.func 88) [] [.fptr [.i b] 0])::(kAI (a.length:Int) c))),[])/\qI a b M c=some f) ?_ (m:=N) ⟨_,rfl,g2⟩;rintro M s ⟨c,rfl,g2⟩
  cases M with
  |zero=>simp only[qI]at g2;cases g2
  |succ M=>
   rw[qI]at g2;refine sh fol (kAL a [(1,.func (.func 88) [] [.fptr [.i b] 0]),(7,.i (a.length:Int)),(8,.i c),(9,.bool (decide (c<(a.length:Int))))]) ?_;refine sq ?_;refine ihD g2 (fun n g2=>?_) (fun n g2=>?_)
   ·refine Goes.skip ?_;refine sq (Goes.block ?_);refine sh fol (kAL a ((1,.func (.func 88) [] [.fptr [.i b] 0])::(5,.i c)::(kAI (a.length:Int) c))) ?_;obtain⟨g,d,g2⟩:=bnd g2;obtain⟨k,e,g2⟩:=bnd g2;refine sq (gr fol [3,4,5] (kAL a [(1,.func (.func 88) [] [.fptr [.i b] 0]),(5,.i c),(7,.i (a.length:Int)),(8,.i c),(16,.bool k)]) (ac (iv ji encI d) (ac (lv 0 ce3 encI d rfl) (ac (hs (.call 88 [.i g,.fptr [.i b] 0] [] [] [.i g,.fptr [.i b] 0] (.bool k)) (qfr (FzL.cons (Ug tI) (FzL.cons (Ug (Still.fptr (AllST.cons tI AllST.nil))) FzL.nil)) (qc0 g b e) tB)) az))) ?_);refine ihB g2 (fun o g2=>?_) (fun o g2=>?_)
    ·refine sh fol (kBN c) ?_;refine Goes.ret ?_;obtain rfl:=si g2;exact Or.inr (⟨rfl,_,rfl,(gw2 [.i c] (Ua tI))⟩)
    refine Goes.skip ?_;refine gh fol (kAL a ((1,.func (.func 88) [] [.fptr [.i b] 0])::(kAI (a.length:Int) (w64 (c+1))))) ?_;exact⟨M,(ofG 19 (kAL a ((1,.func (.func 88) [] [.fptr [.i b] 0])::(kAI (a.length:Int) (w64 (c+1))))),[]),Nat.lt_succ_self _,(Sub.refl _),_,rfl,g2⟩
   refine Goes.exit ?_;obtain rfl:=si g2;exact Or.inl (⟨rfl,rfl,(Sub.keep [] rfl rfl)⟩)
 rintro x s' (⟨rfl,rfl,hsub⟩|⟨rfl,p,rfl,hret⟩)
 ·try dsimp only at h
  refine Goes.sub hsub ?_;refine sh fol kBF ?_;refine Goes.ret ?_;obtain rfl:=si h;exact(gw2 [.i (-1)] (Ua tI))
 try dsimp only at h
 obtain rfl:=si h;exact hret
def jl (N:Nat) (a:List Int) (b:Int):Option Bool:=
 (vL N a b).bind fun c=>
 some (decide (c>=0))
theorem qbM (N:Nat) (a:List Int) (b:Int) {res:Bool} (h:jl N a b=some res):qc ZT (.fn 87) [vl encI a,.func (.func 88) [] [.fptr [.i b] 0]] [] (.bool res) []:=by
 unfold jl at h;refine Ub Tryz.func87 rfl rfl (m:=9) rfl (rs:=[.tmp 4]) rfl (l:=(kAL a [(1,.func (.func 88) [] [.fptr [.i b] 0])])) rfl ?_;refine sh fol (kAL a [(1,.func (.func 88) [] [.fptr [.i b] 0])]) ?_;obtain⟨d,c,h⟩:=bnd h;refine sq (gr fol [2] (kAq (decide (d>=0))) (ac (hs (.call 161 [vl encI a,.func (.func 88) [] [.fptr [.i b] 0]] [] [] [vl encI a,.func (.func 88) [] [.fptr [.i b] 0]] (.i d)) (qfr (FzL.cons (Ug (qw encI _ (nl rfl))) (FzL.cons (Fz.func FzL.nil (FzL.cons (Ug (Still.fptr (AllST.cons tI AllST.nil))) FzL.nil)) FzL.nil)) (qcE N a b c) tI)) az) ?_);refine Goes.ret ?_;obtain rfl:=si h;exact(gw2 [.bool (decide (d>=0))] (Ua tB))
def xN (N:Nat) (n:Int) (w:List Int):Option Int:=
 (xB n).bind fun b=>
 (jJ (decide ((w.length:Int)>200)) 5).bind fun c=>
 (yP N ([b,c]:List Int)).bind fun a=>
 if(!decide (a=0))=true then
 some a
 else
 (jl N w n).bind fun d=>
 (jJ d 3).bind fun e=>
 some e
theorem qft (N:Nat) (n:Int) (w:List Int) {res:Int} (h:xN N n w=some res):qc ZT (.fn 37) [.i n,vl encI w] [] (.i res) []:=by
 unfold xN at h;refine Ub Tryz.func37 rfl rfl (m:=21) rfl (rs:=[.tmp 4]) rfl (l:=(kY n w [])) rfl ?_;refine sg fol ((1,vl encI w)::(kAE [])) [.cells [.i n]] ?_;refine sq ?_;obtain⟨b,c,h⟩:=bnd h;obtain⟨d,e,h⟩:=bnd h;obtain⟨a,f,h⟩:=bnd h;refine sq (gq fol [1,5,7] ((1,vl encI w)::(kAE (kAt a))) (.cells [.i n]::(kA7 b d)) (ac (cv (qeb n c)) (ac (cv (qaJ (decide ((w.length:Int)>200)) 5 e)) (ac (hs (.call 36 [.slice 1 0 2 2 1] (.cells [.i n]::(kA7 b d)) [1] [vl encI ([b,d]:List Int)] (.i a)) (qfG (FzL.cons (Fz.lit rfl rfl (Uj (AllST.cons tI (AllST.cons tI AllST.nil)))) FzL.nil) (qep N ([b,d]:List Int) f) tI rfl)) az))) ?_);refine sh fol ((1,vl encI w)::(kAE [(5,.i a),(15,.bool (!decide (a=0)))])) ?_;refine ihB h (fun p h=>?_) (fun p h=>?_)
 ·refine sh fol (kBN a) ?_;refine Goes.ret ?_;obtain rfl:=si h;exact(gw2 [.i a] (Ua tI))
 refine Goes.skip ?_;obtain⟨k,g,h⟩:=bnd h;obtain⟨o,j,h⟩:=bnd h;refine sq (gr fol [2,3] (kBN o) (ac (hs (.call 87 [vl encI w,.func (.func 88) [] [.ptr 0 0]] (.cells [.i n]::(kA7 b d)) [0] [vl encI w,.func (.func 88) [] [.fptr [.i n] 0]] (.bool k)) (qfG (FzL.cons (Ug (qw encI _ (nl rfl))) (FzL.cons (Fz.func FzL.nil (FzL.cons (Fz.ptr rfl rfl (FzL.cons (Ug tI) FzL.nil)) FzL.nil)) FzL.nil)) (qbM N w n g) tB rfl)) (ac (cv (qaJ k 3 j)) az)) ?_);refine Goes.ret ?_;obtain rfl:=si h;exact(gw2 [.i o] (Ua tI))
def stringslite_HasPrefix (b:Str) (a:Str):Option Bool:=
 (if(b.length:Int)>=(a.length:Int)then
 (cut b 0 (a.length:Int)).bind fun c=>
 some (c==a)
 else
 some false:Option Bool).bind fun d=>
 some d
theorem yT (c:Str) (a:Str) {res:Bool} (h:stringslite_HasPrefix c a=some res):qc ZT (.fn 200) [.str c,.str a] [] (.bool res) []:=by
 unfold stringslite_HasPrefix at h;refine Ub Tryz.func200 rfl rfl (m:=18) rfl (rs:=[.tmp 4]) rfl (l:=(kV c a [])) rfl ?_;refine sh fol (kV c a []) ?_;refine sq ?_;obtain⟨f,b,h⟩:=bnd h;refine Ue (s':=(ofG 18 (kAq f),[])) ?_ ?_
 ·rcases wyD b with⟨e,b⟩|⟨e,b⟩
  ·obtain⟨g,d,b⟩:=bnd b;obtain rfl:=si b;exact tr fol [5,9] (kAq (g==a)) (ac (gw e) (ac (hs (.done (.opt (qK ZT 9 (.str c) none (some (.i (a.length:Int))) none)) (.str g)) (ja st9 none (some (a.length:Int)) d)) az))
  obtain rfl:=si b;exact tr fol [5] kAm (ac (gw e) az)
 refine Goes.ret ?_;obtain rfl:=si h;exact(gw2 [.bool f] (Ua tB))
def stringslite_CutPrefix (b:Str) (a:Str):Option (Str×Bool):=
 (stringslite_HasPrefix b a).bind fun c=>
 if(!c)=true then
 some (b,false)
 else
 (cut b (a.length:Int) (b.length:Int)).bind fun d=>
 some (d,true)
theorem qcV (b:Str) (a:Str) {res:Str×Bool} (h:stringslite_CutPrefix b a=some res):qc ZT (.fn 162) [.str b,.str a] [] (.tuple [.str res.1,.bool res.2]) []:=by
 unfold stringslite_CutPrefix at h;refine Ub Tryz.func162 rfl rfl (m:=15) rfl (rs:=[.tmp 4,.tmp 5]) rfl (l:=(kV b a [])) rfl ?_;refine sh fol (kV b a []) ?_;refine sq ?_;obtain⟨f,c,h⟩:=bnd h;refine sq (gr fol [2] (kV b a [(9,.bool (!f))]) (ac (cv (yT b a c)) az) ?_);refine ihB h (fun g h=>?_) (fun g h=>?_)
 ·refine sh fol [(4,.str b),(5,.bool false)] ?_;refine Goes.ret ?_;obtain rfl:=si h;exact(gw2 [.str b,.bool false] (FzW.tuple (qf.cons (Ua tS) (qf.cons (Ua tB) qf.nil))))
 refine Goes.skip ?_;obtain⟨e,d,h⟩:=bnd h;refine sq (gr fol [3] [(4,.str e),(5,.bool true)] (ac (hs (.done (.opt (qK ZT 9 (.str b) (some (.i (a.length:Int))) none none)) (.str e)) (ja st9 (some (a.length:Int)) none d)) az) ?_);refine Goes.ret ?_;obtain rfl:=si h;exact(gw2 [.str e,.bool true] (FzW.tuple (qf.cons (Ua tS) (qf.cons (Ua tB) qf.nil))))
def strings_CutPrefix (c:Str) (a:Str):Option (Str×Bool):=
 (stringslite_CutPrefix c a).bind fun b=>
 some (b.1,b.2)
theorem qeK (b:Str) (a:Str) {res:Str×Bool} (h:strings_CutPrefix b a=some res):qc ZT (.fn 90) [.str b,.str a] [] (.tuple [.str res.1,.bool res.2]) []:=by
 unfold strings_CutPrefix at h;refine Ub Tryz.func90 rfl rfl (m:=11) rfl (rs:=[.tmp 4,.tmp 5]) rfl (l:=(kV b a [])) rfl ?_;refine sh fol (kV b a []) ?_;obtain⟨d,c,h⟩:=bnd h;refine sq (gr fol [2] [(4,.str d.1),(5,.bool d.2)] (ac (cv (qcV b a c)) az) ?_);refine Goes.ret ?_;obtain rfl:=si h;exact(gw2 [.str d.1,.bool d.2] (FzW.tuple (qf.cons (Ua tS) (qf.cons (Ua tB) qf.nil))))
def stringslite_IndexByte (a:Str) (c:Int):Option Int:=
 (qjn a c).bind fun b=>
 some b
theorem qcU (a:Str) (c:Int) {res:Int} (h:stringslite_IndexByte a c=some res):qc ZT (.fn 243) [.str a,.int .u8 c] [] (.i res) []:=by
 unfold stringslite_IndexByte at h;refine Ub Tryz.func243 rfl rfl (m:=8) rfl (rs:=[.tmp 4]) rfl (l:=[(0,.str a),(1,.int .u8 c)]) rfl ?_;refine sh fol [(0,.str a),(1,.int .u8 c)] ?_;obtain⟨d,b,h⟩:=bnd h;refine sq (gr fol [2] (kBN d) (ac (cv (qmK a c b)) az) ?_);refine Goes.ret ?_;obtain rfl:=si h;exact(gw2 [.i d] (Ua tI))
def stringslite_Index (a:Str) (substr:Str):Option Int:=
 (if(substr.length:Int)=0 then
 some true
 else
 some (substr==a):Option Bool).bind fun b=>
 if b=true then
 some 0
 else
 if(substr.length:Int)=1 then
 (idx substr 0).bind fun c=>
 (stringslite_IndexByte a (c.toNat:Int)).bind fun d=>
 some d
 else
 if(substr.length:Int)>=(a.length:Int)then
 some (-1)
 else
 none
theorem qet (b:Str) (substr:Str) {res:Int} (h:stringslite_Index b substr=some res):qc ZT (.fn 201) [.str b,.str substr] [] (.i res) []:=by
 unfold stringslite_Index at h;refine Ub Tryz.func201 rfl rfl (m:=143) rfl (rs:=[.tmp 4]) rfl (l:=(kV b substr [])) rfl ?_;refine sh fol (kV b substr []) ?_;refine sh fol (kV b substr (kAt (substr.length:Int))) ?_;refine sq (Goes.block ?_);refine sq ?_;obtain⟨j,a,h⟩:=bnd h;refine Ue (s':=(ofG 143 (kV b substr [(5,.i (substr.length:Int)),(16,.bool j)]),[])) ?_ ?_
 ·rcases wyD a with⟨e,a⟩|⟨e,a⟩
  ·obtain rfl:=si a;exact tr fol [2] (kV b substr [(5,.i (substr.length:Int)),(16,.bool true)]) (ac (gw e) az)
  obtain rfl:=si a;exact tr fol [2] (kV b substr [(5,.i (substr.length:Int)),(16,.bool (substr==b))]) (ac (gw e) az)
 refine ihB h (fun k h=>?_) (fun k h=>?_)
 ·refine sh fol [(4,.i 0)] ?_;refine Goes.ret ?_;obtain rfl:=si h;exact(gw2 [.i 0] (Ua tI))
 refine sh fol (kV b substr [(5,.i (substr.length:Int)),(24,.bool (decide ((substr.length:Int)=1)))]) ?_;refine ihD h (fun n h=>?_) (fun n h=>?_)
 ·obtain⟨f,c,h⟩:=bnd h;obtain⟨g,d,h⟩:=bnd h;refine sq (gr fol [2,3] (kBN g) (ac (hs (.done (.opt (yF ZT 9 (.str substr) (.i 0))) (.int .u8 (f.toNat:Int))) (qaF st9 c)) (ac (cv (qcU b (f.toNat:Int) d)) az)) ?_);refine Goes.ret ?_;obtain rfl:=si h;exact(gw2 [.i g] (Ua tI))
 refine sh fol (kV b substr [(5,.i (substr.length:Int)),(31,.bool (decide ((substr.length:Int)>=(b.length:Int))))]) ?_;refine ihD h (fun o h=>?_) (fun o h=>?_)
 ·refine sh fol kBF ?_;refine Goes.ret ?_;obtain rfl:=si h;exact(gw2 [.i (-1)] (Ua tI))
 cases h
def stringslite_Cut (a:Str) (sep:Str):Option (Str×Str×Bool):=
 (stringslite_Index a sep).bind fun b=>
 if b>=0 then
 (cut a 0 b).bind fun c=>
 (cut a (w64 (b+(sep.length:Int))) (a.length:Int)).bind fun d=>
 some (c,d,true)
 else
 some (a,[],false)
theorem qfE (a:Str) (sep:Str) {res:Str×Str×Bool} (h:stringslite_Cut a sep=some res):qc ZT (.fn 163) [.str a,.str sep] [] (.tuple [.str res.1,.str res.2.1,.bool res.2.2]) []:=by
 unfold stringslite_Cut at h;refine Ub Tryz.func163 rfl rfl (m:=23) rfl (rs:=[.tmp 4,.tmp 5,.tmp 6]) rfl (l:=(kV a sep [])) rfl ?_;refine sh fol (kV a sep []) ?_;refine sq ?_;obtain⟨b,c,h⟩:=bnd h;refine sq (gr fol [2] (kV a sep [(7,.i b)]) (ac (cv (qet a sep c)) az) ?_);refine sh fol (kV a sep ((7,.i b)::(kA8 (decide (b>=0))))) ?_;refine ihD h (fun j h=>?_) (fun j h=>?_)
 ·obtain⟨f,d,h⟩:=bnd h;obtain⟨g,e,h⟩:=bnd h;refine sq (gr fol [2,8] [(4,.str f),(5,.str g),(6,.bool true)] (ac (hs (.done (.opt (qK ZT 9 (.str a) none (some (.i b)) none)) (.str f)) (ja st9 none (some b) d)) (ac (hs (.done (.opt (qK ZT 9 (.str a) (some (.i (w64 (b+(sep.length:Int))))) none none)) (.str g)) (ja st9 (some (w64 (b+(sep.length:Int)))) none e)) az)) ?_);refine Goes.ret ?_;obtain rfl:=si h;exact(gw2 [.str f,.str g,.bool true] (FzW.tuple (qf.cons (Ua tS) (qf.cons (Ua tS) (qf.cons (Ua tB) qf.nil)))))
 refine Goes.skip ?_;refine sh fol [(4,.str a),(5,.str []),(6,.bool false)] ?_;refine Goes.ret ?_;obtain rfl:=si h;exact(gw2 [.str a,.str [],.bool false] (FzW.tuple (qf.cons (Ua tS) (qf.cons (Ua tS) (qf.cons (Ua tB) qf.nil)))))
def strings_Cut (b:Str) (sep:Str):Option (Str×Str×Bool):=
 (stringslite_Cut b sep).bind fun a=>
 some (a.1,a.2.1,a.2.2)
theorem qeO (b:Str) (sep:Str) {res:Str×Str×Bool} (h:strings_Cut b sep=some res):qc ZT (.fn 91) [.str b,.str sep] [] (.tuple [.str res.1,.str res.2.1,.bool res.2.2]) []:=by
 unfold strings_Cut at h;refine Ub Tryz.func91 rfl rfl (m:=13) rfl (rs:=[.tmp 4,.tmp 5,.tmp 6]) rfl (l:=(kV b sep [])) rfl ?_;refine sh fol (kV b sep []) ?_;obtain⟨a,c,h⟩:=bnd h;refine sq (gr fol [2] ((4,.str a.1)::(kAx a.2.1 a.2.2 [])) (ac (cv (qfE b sep c)) az) ?_);refine Goes.ret ?_;obtain rfl:=si h;exact(gw2 [.str a.1,.str a.2.1,.bool a.2.2] (FzW.tuple (qf.cons (Ua tS) (qf.cons (Ua tS) (qf.cons (Ua tB) qf.nil)))))
def jH (a:Str):Option Bool:=
 (if(!(a==[]))=true then
 (qjX a [48,49,50,51,52,53,54,55,56,57]).bind fun b=>
 if(b==[])=true then
 (idx a 0).bind fun c=>
 if(!decide ((c.toNat:Int)=48))=true then
 some true
 else
 some (a==[48])
 else
 some false
 else
 some false:Option Bool).bind fun d=>
 some d
theorem jw (c:Str) {res:Bool} (h:jH c=some res):qc ZT (.fn 92) [.str c] [] (.bool res) []:=by
 unfold jH at h;refine Ub Tryz.func92 rfl rfl (m:=19) rfl (rs:=[.tmp 2]) rfl (l:=(kAY c)) rfl ?_;refine sh fol (kAY c) ?_;refine sq ?_;obtain⟨j,a,h⟩:=bnd h;refine Ue (s':=(ofG 19 [(2,.bool j)],[])) ?_ ?_
 ·rcases wyB a with⟨e,a⟩|⟨e,a⟩
  ·obtain⟨n,b,a⟩:=bnd a;rcases wyB a with⟨f,a⟩|⟨f,a⟩
   ·obtain⟨k,d,a⟩:=bnd a;rcases wyB a with⟨g,a⟩|⟨g,a⟩
    ·obtain rfl:=si a;exact tr fol [2,4,7,9,11] [(2,.bool true)] (ac (gw e) (ac (cv (qhB c [48,49,50,51,52,53,54,55,56,57] b)) (ac (gw f) (ac (hs (.done (.opt (yF ZT 9 (.str c) (.i 0))) (.int .u8 (k.toNat:Int))) (qaF st9 d)) (ac (gw g) az)))))
    obtain rfl:=si a;exact tr fol [2,4,7,9,11] [(2,.bool (c==[48]))] (ac (gw e) (ac (cv (qhB c [48,49,50,51,52,53,54,55,56,57] b)) (ac (gw f) (ac (hs (.done (.opt (yF ZT 9 (.str c) (.i 0))) (.int .u8 (k.toNat:Int))) (qaF st9 d)) (ac (gw g) az)))))
   obtain rfl:=si a;exact tr fol [2,4,7] [(2,.bool false)] (ac (gw e) (ac (cv (qhB c [48,49,50,51,52,53,54,55,56,57] b)) (ac (gw f) az)))
  obtain rfl:=si a;exact tr fol [2] [(2,.bool false)] (ac (gw e) az)
 refine Goes.ret ?_;obtain rfl:=si h;exact(gw2 [.bool j] (Ua tB))
def zF (l:List Int):Nat->Int->Option (Unit⊕Int)
 |0,_=>none
 |K+1,a=>
  if a<(l.length:Int)then
  (idx l a).bind fun b=>
  if(!decide (b=0))=true then
  some (.inr b)
  else
  zF l K (w64 (a+1))
  else
  some (.inl ())
def yM (N:Nat) (l:List Int):Option Int:=
 (zF l N 0).bind (fun
 |(.inl ())=>
 some 0
 |(.inr a)=>
 some a)
theorem qd6 (N:Nat) (l:List Int) {res:Int} (h:yM N l=some res):qc ZT (.fn 93) [vl encI l] [] (.i res) []:=by
 unfold yM at h;refine Ub Tryz.func93 rfl rfl (m:=15) rfl (rs:=[.tmp 2]) rfl (l:=(kAL l [])) rfl ?_;refine sh fol (kAL l []) ?_;refine sq ?_;refine sh fol (kBB l [(6,.i (l.length:Int)),(7,.i 0)]) ?_;refine Goes.block ?_;obtain⟨d,g2,h⟩:=bnd h;refine Goes.imp (Q:=fun x s'=>(x= .exit 0/\(.inl ())=d/\Sub s' (ofG 15 [],[]))\/(x= .ret/\ ∃e,(.inr e)=d/\zJ ZT [.tmp 2] (.i e) .ret s')) ?_ ?_
 ·refine Ud (fun M s=> ∃(a:Int),s=(ofG 15 (kBB l (kAS (l.length:Int) a [])),[])/\zF l M a=some d) ?_ (m:=N) ⟨_,rfl,g2⟩;rintro M s ⟨a,rfl,g2⟩
  cases M with
  |zero=>simp only[zF]at g2;cases g2
  |succ M=>
   rw[zF]at g2;refine sh fol (kBB l (kAS (l.length:Int) a (kBJ (decide (a<(l.length:Int)))))) ?_;refine sq ?_;refine ihD g2 (fun f g2=>?_) (fun f g2=>?_)
   ·refine Goes.skip ?_;refine sq (Goes.block ?_);obtain⟨c,b,g2⟩:=bnd g2;refine sq (gr fol [0,1] ((4,.i c)::(kBB l (kAS (l.length:Int) a []))) (ac (iv qq2 encI b) (ac (lv 0 ce30 encI b rfl) az)) ?_);refine sh fol ((4,.i c)::(kBB l (kAS (l.length:Int) a (kA8 (!decide (c=0)))))) ?_;refine ihB g2 (fun g g2=>?_) (fun g g2=>?_)
    ·refine sh fol (kBA c) ?_;refine Goes.ret ?_;obtain rfl:=si g2;exact Or.inr (⟨rfl,_,rfl,(gw2 [.i c] (Ua tI))⟩)
    refine Goes.skip ?_;refine gh fol (kBB l (kAS (l.length:Int) (w64 (a+1)) [])) ?_;exact⟨M,(ofG 15 (kBB l (kAS (l.length:Int) (w64 (a+1)) [])),[]),Nat.lt_succ_self _,(Sub.refl _),_,rfl,g2⟩
   refine Goes.exit ?_;obtain rfl:=si g2;exact Or.inl (⟨rfl,rfl,(Sub.keep [] rfl rfl)⟩)
 rintro x s' (⟨rfl,rfl,hsub⟩|⟨rfl,j,rfl,hret⟩)
 ·try dsimp only at h
  refine Goes.sub hsub ?_;refine sh fol [(2,.i 0)] ?_;refine Goes.ret ?_;obtain rfl:=si h;exact(gw2 [.i 0] (Ua tI))
 try dsimp only at h
 obtain rfl:=si h;exact hret
def zz (holds:Bool) (e:Int):Option Int:=
 if holds=true then
 some e
 else
 some 0
theorem qai (holds:Bool) (e:Int) {res:Int} (h:zz holds e=some res):qc ZT (.fn 94) [.bool holds,.i e] [] (.i res) []:=by
 unfold zz at h;refine Ub Tryz.func94 rfl rfl (m:=7) rfl (rs:=[.tmp 4]) rfl (l:=[(0,.bool holds),(1,.i e)]) rfl ?_;refine sh fol [(0,.bool holds),(1,.i e)] ?_;refine sq ?_;refine sh fol [(1,.i e),(5,.bool holds)] ?_;refine ihB h (fun a h=>?_) (fun a h=>?_)
 ·refine sh fol (kBN e) ?_;refine Goes.ret ?_;obtain rfl:=si h;exact(gw2 [.i e] (Ua tI))
 refine Goes.skip ?_;refine sh fol [(4,.i 0)] ?_;refine Goes.ret ?_;obtain rfl:=si h;exact(gw2 [.i 0] (Ua tI))
def qcs (n:Int):Option Int:=
 if n<0 then
 some (wrap .u64 (w64 (0-n)))
 else
 some (wrap .u64 n)
theorem qes (n:Int) {res:Int} (h:qcs n=some res):qc ZT (.fn 215) [.i n] [] (.int .u64 res) []:=by
 unfold qcs at h;refine Ub Tryz.func215 rfl rfl (m:=10) rfl (rs:=[.tmp 2]) rfl (l:=[(0,.i n)]) rfl ?_;refine sh fol [(0,.i n)] ?_;refine sq ?_;refine sh fol ((0,.i n)::(kAq (decide (n<0)))) ?_;refine ihD h (fun a h=>?_) (fun a h=>?_)
 ·refine sh fol [(2,.int .u64 (wrap .u64 (w64 (0-n))))] ?_;refine Goes.ret ?_;obtain rfl:=si h;exact(gw2 [.int .u64 (wrap .u64 (w64 (0-n)))] (Ua tI))
 refine Goes.skip ?_;refine sh fol [(2,.int .u64 (wrap .u64 n))] ?_;refine Goes.ret ?_;obtain rfl:=si h;exact(gw2 [.int .u64 (wrap .u64 n)] (Ua tI))
def qG (a:qo):Option (Bool×(List Int)):=
 if(!a.w.isEmpty)=true then
 some (decide (a.s<0),a.w)
 else
 if a.s=0 then
 some (false,[])
 else
 (qcs a.s).bind fun b=>
 some (decide (a.s<0),[b])
theorem zH (a:qo) {res:Bool×(List Int)} (h:qG a=some res):qc ZT (.fn 209) [.agg (nz1 a)] [] (.tuple [.bool res.1,vl ZU res.2]) []:=by
 unfold qG at h;refine Ub Tryz.func209 rfl rfl (m:=24) rfl (rs:=[.tmp 2,.tmp 3]) rfl (l:=[(0,.agg (nz1 a))]) rfl ?_;refine sg fol (kAu []) [.cells (nz1 a)] ?_;refine sq (Goes.block ?_);refine sq (gr fol [2] (kAu (kAq (!a.w.isEmpty))) (ac (hs (.done (.opt (ku ZT .neq 77 (.tmp 6) (.const (.slice none 0 0)) (nvl ZU a.w) .nilslice)) (.bool (!a.w.isEmpty))) (ne_nv qaC)) az) ?_);refine ihB h (fun c h=>?_) (fun c h=>?_)
 ·refine sh fol [(2,.bool (decide (a.s<0))),(3,nvl ZU a.w)] ?_;refine Goes.ret ?_;obtain rfl:=si h;exact(gw2 [.bool (decide (a.s<0)),nvl ZU a.w] (FzW.tuple (qf.cons (Ua tB) (qf.cons (FzW.nvL (E:=ZU) (nl rfl)) qf.nil))))
 refine sh fol (kAu (kBC (decide (a.s=0)))) ?_;refine ihD h (fun d h=>?_) (fun d h=>?_)
 ·refine sh fol [(2,.bool false),(3,.nilslice)] ?_;refine Goes.ret ?_;obtain rfl:=si h;exact(gw2 [.bool false,.nilslice] (FzW.tuple (qf.cons (Ua tB) (qf.cons (FzW.nilv (E:=ZU)) qf.nil))))
 refine Goes.skip ?_;obtain⟨e,b,h⟩:=bnd h;refine sq (gq fol [5] [(2,.bool (decide (a.s<0))),(3,.slice 1 0 1 1 1)] [.cells (nz1 a),.cells [.int .u64 e]] (ac (cv (qes a.s b)) az) ?_);refine Goes.ret ?_;obtain rfl:=si h;exact(gw2 [.bool (decide (a.s<0)),.slice 1 0 1 1 1] (FzW.tuple (qf.cons (Ua tB) (qf.cons (FzW.fz (Fz.lit rfl rfl (Uj (AllST.cons tI AllST.nil)))) qf.nil))))
def jX (neg:Bool) (w:List Int):Option qo:=
 if(w.length:Int)=0 then
 some (⟨0,[]⟩:qo)
 else
 (if(w.length:Int)=1 then
 (idx w 0).bind fun d=>
 if d<=9223372036854775807 then
 some neg
 else
 some false
 else
 some false:Option Bool).bind fun e=>
 if e=true then
 (idx w 0).bind fun f=>
 some (⟨w64 (0-(w64 f)),[]⟩:qo)
 else
 (if(w.length:Int)=1 then
 (idx w 0).bind fun a=>
 some (decide (a<=9223372036854775807))
 else
 some false:Option Bool).bind fun b=>
 if b=true then
 (idx w 0).bind fun c=>
 some (⟨w64 c,[]⟩:qo)
 else
 if neg=true then
 some (⟨(-1),w⟩:qo)
 else
 some (⟨1,w⟩:qo)
theorem qan (neg:Bool) (w:List Int) {res:qo} (h:jX neg w=some res):qc ZT (.fn 211) [.bool neg,vl ZU w] [] (.agg (nz1 res)) []:=by
 unfold jX at h;refine Ub Tryz.func211 rfl rfl (m:=50) rfl (rs:=[.cell 4 79]) rfl (l:=[(0,.bool neg),(1,vl ZU w)]) rfl ?_;refine sg fol ((0,.bool neg)::(1,vl ZU w)::(kAk [])) [bZ] ?_;refine sq (Goes.block ?_);refine sh fol ((0,.bool neg)::(1,vl ZU w)::(kAk [(5,.bool (decide ((w.length:Int)=0)))])) ?_;refine ihD h (fun t h=>?_) (fun t h=>?_)
 ·refine sh fol (kAk []) ?_;refine Goes.ret ?_;obtain rfl:=si h;exact(gw2 [.agg [.i 0,.nilslice]] (FzW.agg (qf.cons (Ua tI) (qf.cons (Us (E:=ZU)) qf.nil))))
 refine sq ?_;obtain⟨u,a,h⟩:=bnd h;refine Ue (s':=(ofG 50 ((0,.bool neg)::(1,vl ZU w)::(kAk (kA9 u))),[bZ])) ?_ ?_
 ·rcases wyD a with⟨j,a⟩|⟨j,a⟩
  ·obtain⟨x,c,a⟩:=bnd a;rcases wyD a with⟨k,a⟩|⟨k,a⟩
   ·obtain rfl:=si a;exact tr fol [3,5,6,9] ((0,.bool neg)::(1,vl ZU w)::(kAk (kA9 neg))) (ac (gw j) (ac (iv zM ZU c) (ac (lv 0 zS ZU c rfl) (ac (gw k) az))))
   obtain rfl:=si a;exact tr fol [3,5,6,9] ((0,.bool neg)::(1,vl ZU w)::(kAk [(10,.bool false)])) (ac (gw j) (ac (iv zM ZU c) (ac (lv 0 zS ZU c rfl) (ac (gw k) az))))
  obtain rfl:=si a;exact tr fol [3] ((0,.bool neg)::(1,vl ZU w)::(kAk [(10,.bool false)])) (ac (gw j) az)
 refine ihB h (fun v h=>?_) (fun v h=>?_)
 ·obtain⟨s,f,h⟩:=bnd h;refine sq (gq fol [1,2] (kAk []) (kAz (w64 (0-(w64 s)))) (ac (iv zM ZU f) (ac (lv 0 zS ZU f rfl) az)) ?_);refine Goes.ret ?_;obtain rfl:=si h;exact(gw2 [.agg [.i (w64 (0-(w64 s))),.nilslice]] (FzW.agg (qf.cons (Ua tI) (qf.cons (Us (E:=ZU)) qf.nil))))
 refine sq ?_;obtain⟨n,b,h⟩:=bnd h;refine Ue (s':=(ofG 50 ((0,.bool neg)::(1,vl ZU w)::(kAk [(29,.bool n)])),[bZ])) ?_ ?_
 ·rcases wyD b with⟨o,b⟩|⟨o,b⟩
  ·obtain⟨p,d,b⟩:=bnd b;obtain rfl:=si b;exact tr fol [3,5,6] ((0,.bool neg)::(1,vl ZU w)::(kAk [(29,.bool (decide (p<=9223372036854775807)))])) (ac (gw o) (ac (iv zM ZU d) (ac (lv 0 zS ZU d rfl) az)))
  obtain rfl:=si b;exact tr fol [3] ((0,.bool neg)::(1,vl ZU w)::(kAk [(29,.bool false)])) (ac (gw o) az)
 refine ihB h (fun q h=>?_) (fun q h=>?_)
 ·obtain⟨g,e,h⟩:=bnd h;refine sq (gq fol [1,2] (kAk []) (kAz (w64 g)) (ac (iv zM ZU e) (ac (lv 0 zS ZU e rfl) az)) ?_);refine Goes.ret ?_;obtain rfl:=si h;exact(gw2 [.agg [.i (w64 g),.nilslice]] (FzW.agg (qf.cons (Ua tI) (qf.cons (Us (E:=ZU)) qf.nil))))
 refine sh fol ((1,vl ZU w)::(kAk [(44,.bool neg)])) ?_;refine ihB h (fun r h=>?_) (fun r h=>?_)
 ·refine sg fol (kAk []) [.cells [.i (-1),vl ZU w]] ?_;refine Goes.ret ?_;obtain rfl:=si h;exact(gw2 [.agg [.i (-1),vl ZU w]] (FzW.agg (qf.cons (Ua tI) (qf.cons (FzW.Lnv (E:=ZU) (by first|omega|(simp only[decide_eq_false_iff_not,decide_eq_true_eq]at*;omega)) (nl rfl)) qf.nil))))
 refine Goes.skip ?_;refine sg fol (kAk []) [.cells [.i 1,vl ZU w]] ?_;refine Goes.ret ?_;obtain rfl:=si h;exact(gw2 [.agg [.i 1,vl ZU w]] (FzW.agg (qf.cons (Ua tI) (qf.cons (FzW.Lnv (E:=ZU) (by first|omega|(simp only[decide_eq_false_iff_not,decide_eq_true_eq]at*;omega)) (nl rfl)) qf.nil))))
def zx (a:qo):Option qo:=
 (if a.w.isEmpty=true then
 some (!decide (a.s=(-9223372036854775808)))
 else
 some false:Option Bool).bind fun c=>
 if c=true then
 some (⟨w64 (0-a.s),[]⟩:qo)
 else
 (qG a).bind fun b=>
 (jX (!b.1) b.2).bind fun d=>
 some d
theorem jZ (a:qo) {res:qo} (h:zx a=some res):qc ZT (.fn 174) [.agg (nz1 a)] [] (.agg (nz1 res)) []:=by
 unfold zx at h;refine Ub Tryz.func174 rfl rfl (m:=26) rfl (rs:=[.cell 2 79]) rfl (l:=[(0,.agg (nz1 a))]) rfl ?_;refine sg fol (kAb []) [.cells (nz1 a),bZ] ?_;refine sq ?_;refine sq ?_;obtain⟨j,b,h⟩:=bnd h;refine Ue (s':=(ofG 26 (kAb (kA8 j)),[.cells (nz1 a),bZ])) ?_ ?_
 ·rcases wyB b with⟨g,b⟩|⟨g,b⟩
  ·obtain rfl:=si b;exact tr fol [2,3] (kAb (kA8 (!decide (a.s=(-9223372036854775808))))) (ac (hs (.done (.opt (ku ZT .eql 77 (.tmp 6) (.const (.slice none 0 0)) (nvl ZU a.w) .nilslice)) (.bool a.w.isEmpty)) (qaG qaC)) (ac (gw g) az))
  obtain rfl:=si b;exact tr fol [2,3] (kAb [(12,.bool false)]) (ac (hs (.done (.opt (ku ZT .eql 77 (.tmp 6) (.const (.slice none 0 0)) (nvl ZU a.w) .nilslice)) (.bool a.w.isEmpty)) (qaG qaC)) (ac (gw g) az))
 refine ihB h (fun k h=>?_) (fun k h=>?_)
 ·refine sg fol kBM (.cells (nz1 a)::(kAz (w64 (0-a.s)))) ?_;refine Goes.ret ?_;obtain rfl:=si h;exact(gw2 [.agg [.i (w64 (0-a.s)),.nilslice]] (FzW.agg (qf.cons (Ua tI) (qf.cons (Us (E:=ZU)) qf.nil))))
 refine Goes.skip ?_;obtain⟨e,c,h⟩:=bnd h;refine sq (gr fol [1] [(2,.ptr 1 0),(3,.bool e.1),(4,vl ZU e.2)] (ac (cv (zH a c)) az) ?_);obtain⟨f,d,h⟩:=bnd h;refine sq (gq fol [3,4] kBM [.cells (nz1 a),.cells (nz1 f)] (ac (cv (qan (!e.1) e.2 d)) (ac (hs (.run [1] (qp ZT 79 (.ptr 1 0) (.agg (nz1 f))) [.cells (nz1 a),bZ] .undef [.cells (nz1 a),.cells (nz1 f)] true) (kg (n:=2) (by kernel_rfl) rfl rfl rfl rfl (cac rfl (cac nvc can)) rfl)) az)) ?_);refine Goes.ret ?_;obtain rfl:=si h;exact(gw2 [.agg (nz1 f)] (FzW.agg (qf.cons (Ua tI) (qf.cons (Ua (qm ZU _ (nl rfl))) qf.nil))))
def qa0 (a:qo):Option qo:=
 if a.s<0 then
 (zx a).bind fun b=>
 some b
 else
 some a
theorem qeh (a:qo) {res:qo} (h:qa0 a=some res):qc ZT (.fn 165) [.agg (nz1 a)] [] (.agg (nz1 res)) []:=by
 unfold qa0 at h;refine Ub Tryz.func165 rfl rfl (m:=9) rfl (rs:=[.cell 2 79]) rfl (l:=[(0,.agg (nz1 a))]) rfl ?_;refine sg fol (kAb []) [.cells (nz1 a),bZ] ?_;refine sq ?_;refine sh fol (kAb [(5,.bool (decide (a.s<0)))]) ?_;refine ihD h (fun d h=>?_) (fun d h=>?_)
 ·obtain⟨c,b,h⟩:=bnd h;refine sq (gq fol [1,2] kBM [.cells (nz1 a),.cells (nz1 c)] (ac (cv (jZ a b)) (ac (hs (.run [1] (qp ZT 79 (.ptr 1 0) (.agg (nz1 c))) [.cells (nz1 a),bZ] .undef [.cells (nz1 a),.cells (nz1 c)] true) (kg (n:=2) (by kernel_rfl) rfl rfl rfl rfl (cac rfl (cac nvc can)) rfl)) az)) ?_);refine Goes.ret ?_;obtain rfl:=si h;exact(gw2 [.agg (nz1 c)] (FzW.agg (qf.cons (Ua tI) (qf.cons (Ua (qm ZU _ (nl rfl))) qf.nil))))
 refine Goes.skip ?_;refine sq (gq fol [1] kBM [.cells (nz1 a),.cells (nz1 a)] (ac (hs (.run [1] (qp ZT 79 (.ptr 1 0) (.agg (nz1 a))) [.cells (nz1 a),bZ] .undef [.cells (nz1 a),.cells (nz1 a)] true) (kg (n:=2) (by kernel_rfl) rfl rfl rfl rfl (cac rfl (cac nvc can)) rfl)) az) ?_);refine Goes.ret ?_;obtain rfl:=si h;exact(gw2 [.agg (nz1 a)] (FzW.agg (qf.cons (Ua tI) (qf.cons (Ua (qm ZU _ (nl rfl))) qf.nil))))
def ky (a:qo):Option Int:=
 some (if(if a.s<1 then a.s else 1)>(-1)then(if a.s<1 then a.s else 1)else(-1))
theorem xO (a:qo) {res:Int} (h:ky a=some res):qc ZT (.fn 166) [.agg (nz1 a)] [] (.i res) []:=by
 unfold ky at h;refine Ub Tryz.func166 rfl rfl (m:=7) rfl (rs:=[.tmp 2]) rfl (l:=[(0,.agg (nz1 a))]) rfl ?_;refine sg fol (kAu []) [.cells (nz1 a)] ?_;refine sh fol (kBA (if(if a.s<1 then a.s else 1)>(-1)then(if a.s<1 then a.s else 1)else(-1))) ?_;refine Goes.ret ?_;obtain rfl:=si h;exact(gw2 [.i (if(if a.s<1 then a.s else 1)>(-1)then(if a.s<1 then a.s else 1)else(-1))] (Ua tI))
def qcm (n:Int):Option qo:=
 some (⟨n,[]⟩:qo)
theorem qby (n:Int) {res:qo} (h:qcm n=some res):qc ZT (.fn 98) [.i n] [] (.agg (nz1 res)) []:=by
 unfold qcm at h;refine Ub Tryz.func98 rfl rfl (m:=5) rfl (rs:=[.cell 2 79]) rfl (l:=[(0,.i n)]) rfl ?_;refine sg fol ((0,.i n)::(kAE [])) [bZ] ?_;refine sg fol (kAE []) (kAz n) ?_;refine Goes.ret ?_;obtain rfl:=si h;exact(gw2 [.agg [.i n,.nilslice]] (FzW.agg (qf.cons (Ua tI) (qf.cons (Us (E:=ZU)) qf.nil))))
def qag (w:List Int):Nat->Int->Option Int
 |0,_=>none
 |K+1,a=>
  (if a>0 then
  (idx w (w64 (a-1))).bind fun b=>
  some (decide (b=0))
  else
  some false:Option Bool).bind fun c=>
  if c=true then
  qag w K (w64 (a-1))
  else
  some a
def y9 (N:Nat) (w:List Int):Option (List Int):=
 (qag w N (w.length:Int)).bind fun a=>
 (cut w 0 a).bind fun b=>
 some b
theorem xz (N:Nat) (w:List Int) {res:List Int} (h:y9 N w=some res):qc ZT (.fn 252) [vl ZU w] [] (vl ZU res) []:=by
 unfold y9 at h;refine Ub Tryz.func252 rfl rfl (m:=21) rfl (rs:=[.tmp 2]) rfl (l:=[(0,vl ZU w)]) rfl ?_;refine sh fol [(0,vl ZU w)] ?_;refine sh fol [(0,vl ZU w),(3,.i (w.length:Int))] ?_;refine sq (Goes.block ?_);obtain⟨j,g3,h⟩:=bnd h;refine Goes.imp (Q:=fun x s'=>(x= .exit 0/\ ∃d,d=j/\Sub s' (ofG 21 [(0,vl ZU w),(3,.i d)],[]))) ?_ ?_
 ·refine Ud (fun M s=> ∃(b:Int),s=(ofG 21 [(0,vl ZU w),(3,.i b)],[])/\qag w M b=some j) ?_ (m:=N) ⟨_,rfl,g3⟩;rintro M s ⟨b,rfl,g3⟩
  cases M with
  |zero=>simp only[qag]at g3;cases g3
  |succ M=>
   rw[qag]at g3;refine sq ?_;refine sq ?_;obtain⟨k,a,g3⟩:=bnd g3;refine Ue (s':=(ofG 21 [(0,vl ZU w),(3,.i b),(15,.bool k)],[])) ?_ ?_
   ·rcases wyD a with⟨f,a⟩|⟨f,a⟩
    ·obtain⟨n,c,a⟩:=bnd a;obtain rfl:=si a;exact tr fol [2,6,7] [(0,vl ZU w),(3,.i b),(15,.bool (decide (n=0)))] (ac (gw f) (ac (iv zM ZU c) (ac (lv 0 zS ZU c rfl) az)))
    obtain rfl:=si a;exact tr fol [2] [(0,vl ZU w),(3,.i b),(15,.bool false)] (ac (gw f) az)
   refine ihB g3 (fun o g3=>?_) (fun o g3=>?_)
   ·refine Goes.skip ?_;refine Goes.block ?_;refine gh fol [(0,vl ZU w),(3,.i (w64 (b-1)))] ?_;exact⟨M,(ofG 21 [(0,vl ZU w),(3,.i (w64 (b-1)))],[]),Nat.lt_succ_self _,(Sub.refl _),_,rfl,g3⟩
   refine Goes.exit ?_;obtain rfl:=si g3;exact⟨rfl,_,rfl,(Sub.keep [0,3] rfl rfl)⟩
 rintro x s' ⟨rfl,d,rfl,hsub⟩;refine Goes.sub hsub ?_;obtain⟨g,e,h⟩:=bnd h;refine sq (gr fol [2] [(2,vl ZU g)] (ac (hs (.done (.opt (qK ZT 77 (vl ZU w) none (some (.i d)) none)) (vl ZU g)) (qmD zM (E:=ZU) rfl none (some d) e)) az) ?_);refine Goes.ret ?_;obtain rfl:=si h;exact(gw2 [vl ZU g] (Ua (qw ZU _ (nl rfl))))
end Go.Av
