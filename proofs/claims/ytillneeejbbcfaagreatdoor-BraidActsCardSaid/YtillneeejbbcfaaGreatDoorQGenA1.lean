/-
  Walks of functions: what each computes, as a plain function.
-/
import Derived.Test.YtillneeejbbcfaaGreatDoorAvJnB6
noncomputable section
namespace Go.Av
open Go.Proofs Go.RowKit
abbrev ZT:=Tryz.prog
set_option linter.unusedSectionVars false
set_option linter.unusedVariables false
set_option linter.unusedSimpArgs false
set_option maxRecDepth 100000
theorem fol:Tryz.prog.follows .mixedOrders=true:=by kernel_rfl
structure jf where
 Half:Int
 Factors:List (List Int)
def qmI:Enc jf:=(encI.prod (qa (qa encI))).comap fun x=>(x.Half,x.Factors)
instance:SE qmI:=⟨nl rfl⟩
abbrev kA (a:List Int):List Blk:=[.cells (a.flatMap encI.c)]
abbrev kB (a:Int) (b:List Int) (x:List (Nat×AV)):List (Nat×AV):=(0,.i a)::(1,vl encI b)::x
abbrev kC {α0:Type} (a:List α0) (x:List (Nat×AV)):List (Nat×AV):=(3,.slice 0 0 a.length a.length 1)::x
abbrev kD (a:List Int) (x:List (Nat×AV)):List (Nat×AV):=(0,vl encI a)::x
abbrev kE (a:Int) (x:List (Nat×AV)):List (Nat×AV):=(0,.i a)::(4,.ptr 0 0)::(5,.ptr 1 0)::x
abbrev kF (a:Int) (x:List (Nat×AV)):List (Nat×AV):=(0,.i a)::(3,.ptr 0 0)::x
abbrev kG {α1:Type} (a:Int) (b:List α1) (c:List Int) (x:List (Nat×AV)):List (Nat×AV):=(3,.i a)::(4,.slice 0 0 b.length b.length 1)::(11,vl encI c)::(12,.i a)::x
abbrev kH {α0:Type} (a:List α0) (x:List (Nat×AV)):List (Nat×AV):=(5,.gslice 0 a.length 1)::x
abbrev kI (a:Int) (x:List Blk):List Blk:=bZ:: .cells [.i a,.nilslice]::x
abbrev kJ (a:Option (List Int)):List Blk:=[.cells ((hof a).flatMap encI.c)]
abbrev kK {α0:Type} (a:List α0) (x:List Blk):List Blk:= .cells [.gslice 1 a.length 1]::x
abbrev kL (a:List Int) (x:List (Nat×AV)):List (Nat×AV):=(1,vl encI a)::x
abbrev kM {α1:Type} (a:List Int) (b:List α1) (x:List (Nat×AV)):List (Nat×AV):=(3,vl encI a)::(4,.gslice 0 b.length 1)::x
abbrev kN {α0:Type} (a:List α0) (b:Int) (c:Int) (x:List (Nat×AV)):List (Nat×AV):=(48,.gslice 3 a.length 1)::(49,.i b)::(50,.i c)::x
abbrev kO {α0:Type} (a:List α0):List Blk:=[.cells [.gslice 0 a.length 1]]
abbrev kP (a:Int) (b:Int) (x:List (Nat×AV)):List (Nat×AV):=(0,.int .u64 a)::(1,.int .u64 b)::x
abbrev kQ (a:List Int) (b:Int) (c:Int) (x:List (Nat×AV)):List (Nat×AV):=(15,vl encI a)::(16,.i b)::(17,.i c)::x
abbrev kR {α0:Type} (a:List α0) (x:List (Nat×AV)):List (Nat×AV):=(7,.slice 0 0 a.length a.length 1)::x
abbrev kS {α0:Type} (a:List α0) (x:List (Nat×AV)):List (Nat×AV):=(3,.gslice 0 a.length 1)::x
abbrev kT {α0:Type} (a:List α0) (b:Int) (c:Int) (x:List (Nat×AV)):List (Nat×AV):=(0,.slice 0 0 a.length a.length 1)::(2,.i b)::(3,.i c)::x
abbrev kU {α1:Type} (a:Int) (b:List α1) (x:List Blk):List Blk:= .cells [.i a,.gslice 2 b.length 1]::x
abbrev kV {α0:Type} (a:List α0) (x:List (Nat×AV)):List (Nat×AV):=(6,.gslice 2 a.length 1)::x
abbrev kW (a:List Int) (b:Int) (c:Int) (x:List (Nat×AV)):List (Nat×AV):=(10,vl encI a)::(11,.i b)::(12,.i c)::x
abbrev kX {α0:Type} (a:List α0) (x:List (Nat×AV)):List (Nat×AV):=(0,.gslice 0 a.length 1)::x
abbrev kY:List (Nat×AV):=[(4,.bool false)]
abbrev kZ (a:Int) (b:Int) (x:List (Nat×AV)):List (Nat×AV):=(9,.i a)::(10,.i b)::x
abbrev kAA (a:Int):List (Nat×AV):=[(4,.i a)]
abbrev kAB (a:Int) (b:Int):List (Nat×AV):=[(10,.i a),(11,.i b)]
abbrev kAC (a:Int) (b:List Int) (x:List (Nat×AV)):List (Nat×AV):=(5,.i a)::(6,vl encI b)::x
abbrev kAD:List Blk:=[.cells (([]:List Int).flatMap encI.c)]
abbrev kAE (a:Int) (x:List Blk):List Blk:= .dead:: .cells [.i a]::x
abbrev kAF (a:List Int) (b:Int):List Blk:=[.cells (a.flatMap encI.c),.cells [.i b]]
abbrev kAG (a:Int) (b:Int) (x:List (Nat×AV)):List (Nat×AV):=(43,.i a)::(44,.i b)::x
abbrev kAH (a:List Int) (b:List Int):List AV:=[vl encI a,vl encI b]
abbrev kAI (x:List (Nat×AV)):List (Nat×AV):=(1,.ptr 1 0)::x
abbrev kAJ {α0:Type} (a:List α0):List (Nat×AV):=[(2,.slice 0 0 a.length a.length 1)]
abbrev kAK (a:Bool):List (Nat×AV):=[(4,.bool a)]
abbrev kAL (a:Int) (b:Int) (x:List (Nat×AV)):List (Nat×AV):=(6,.int .u64 a)::(7,.int .u64 b)::x
abbrev kAM (a:Int):List (Nat×AV):=[(5,.i a)]
abbrev kAN:List (Nat×AV):=[(4,.bool true)]
abbrev kAO (a:Int) (b:Int) (x:List (Nat×AV)):List (Nat×AV):=(12,.i a)::(13,.i b)::x
abbrev kAP {α0:Type} (a:List α0) (x:List (Nat×AV)):List (Nat×AV):=(8,.gslice 0 a.length 1)::x
abbrev kAQ (a:Int):List (Nat×AV):=[(1,.i a)]
abbrev kAR (a:List Int) (b:Int):List AV:=[vl encI a,.i b]
abbrev kAS (a:List Int) (x:List Blk):List Blk:= .cells [vl encI a]::x
abbrev kAT (a:List Int) (x:List (Nat×AV)):List (Nat×AV):=(2,vl encI a)::x
abbrev kAU (a:Int):List (Nat×AV):=[(3,.i a)]
abbrev kAV (a:Int) (b:Int) (c:Int):List Blk:=[.cells [.i a,.i b,.i c]]
abbrev kAW (a:Int):List (Nat×AV):=[(7,.i a)]
theorem jF:SlT ZT 22 3 1 8:=⟨by kernel_rfl,by kernel_rfl,by kernel_rfl,by kernel_rfl⟩
theorem ce3:CeT ZT 3:=⟨by kernel_rfl,by kernel_rfl⟩
theorem sl141:SlT ZT 141 25 1 8:=⟨by kernel_rfl,by kernel_rfl,by kernel_rfl,by kernel_rfl⟩
theorem ce25:CeT ZT 25:=⟨by kernel_rfl,by kernel_rfl⟩
theorem qbH:SlT ZT 74 3 1 8:=⟨by kernel_rfl,by kernel_rfl,by kernel_rfl,by kernel_rfl⟩
theorem qcF:SlT ZT 122 74 1 24:=⟨by kernel_rfl,by kernel_rfl,by kernel_rfl,by kernel_rfl⟩
theorem qln:CeT ZT 74:=⟨by kernel_rfl,by kernel_rfl⟩
theorem qb6:SlT ZT 28 22 1 24:=⟨by kernel_rfl,by kernel_rfl,by kernel_rfl,by kernel_rfl⟩
theorem qed:CeT ZT 22:=⟨by kernel_rfl,by kernel_rfl⟩
theorem qnz:MpT ZT 180 3 4 (.int .i64) (.bool false):=⟨by kernel_rfl,by kernel_rfl,by kernel_rfl⟩
theorem it3:Tryz.prog.underlying 3=some (.int .i64):=by kernel_rfl
def xX (n:Int) (c:Int):Option Bool:=
 (if(!decide (c=0))=true then
 if c>(w64 (0-n))then
 some (decide (c<n))
 else
 some false
 else
 some false:Option Bool).bind fun a=>
 some a
theorem qeE (n:Int) (c:Int) {res:Bool} (h:xX n c=some res):qb ZT (.fn 49) [.i n,.i c] [] (.bool res) []:=by
 unfold xX at h
 refine Ub Tryz.func49 rfl rfl (m:=18) rfl (rs:=[.tmp 4]) rfl (l:=((0,.i n)::(kAQ c))) rfl ?_
 refine sh fol ((0,.i n)::(kAQ c)) ?_
 refine sq ?_
 obtain⟨e,a,h⟩:=bnd h
 refine Goes.cut (s':=(ofG 18 (kAK e),[])) ?_ ?_
 ·rcases wyB a with⟨b,a⟩|⟨b,a⟩
  ·rcases wyD a with⟨d,a⟩|⟨d,a⟩
   ·obtain rfl:=si a
    exact tr fol [2,8] (kAK (decide (c<n))) (ac (gw b) (ac (gw d) az))
   obtain rfl:=si a
   exact tr fol [2,8] kY (ac (gw b) (ac (gw d) az))
  obtain rfl:=si a
  exact tr fol [2] kY (ac (gw b) az)
 refine Goes.ret ?_
 obtain rfl:=si h
 exact(gw2 [.bool e] (Ua tB))
def zL (n:Int) (w:List Int):Nat->Int->Option (Unit⊕Int)
 |0,_=>none
 |K+1,a=>
  if a<(w.length:Int)then
  (idx w a).bind fun b=>
  (xX n b).bind fun c=>
  if(!c)=true then
  some (.inr 3)
  else
  zL n w K (w64 (a+1))
  else
  some (.inl ())
def vM (N:Nat) (n:Int) (w:List Int):Option Int:=
 (if n<1 then
 some true
 else
 some (decide (n>12)):Option Bool).bind fun b=>
 if b=true then
 some 3
 else
 if(w.length:Int)>200 then
 some 5
 else
 (zL n w N 0).bind (fun
 |(.inl ())=>
 some 0
 |(.inr a)=>
 some a)
theorem qa0 (N:Nat) (n:Int) (w:List Int) {res:Int} (h:vM N n w=some res):qb ZT (.fn 14) [.i n,vl encI w] [] (.i res) []:=by
 unfold vM at h
 refine Ub Tryz.func14 rfl rfl (m:=28) rfl (rs:=[.tmp 4]) rfl (l:=(kB n w [])) rfl ?_
 refine sh fol (kB n w []) ?_
 refine sq ?_
 refine sq ?_
 obtain⟨p,a,h⟩:=bnd h
 refine Goes.cut (s':=(ofG 28 (kB n w [(11,.bool p)]),[])) ?_ ?_
 ·rcases wyD a with⟨e,a⟩|⟨e,a⟩
  ·obtain rfl:=si a
   exact tr fol [2] (kB n w [(11,.bool true)]) (ac (gw e) az)
  obtain rfl:=si a
  exact tr fol [2] (kB n w [(11,.bool (decide (n>12)))]) (ac (gw e) az)
 refine ihB h (fun q h=>?_) (fun q h=>?_)
 ·refine sh fol [(4,.i 3)] ?_
  refine Goes.ret ?_
  obtain rfl:=si h
  exact(gw2 [.i 3] (Ua tI))
 refine Goes.skip ?_
 refine sq ?_
 refine sh fol (kB n w [(14,.bool (decide ((w.length:Int)>200)))]) ?_
 refine ihD h (fun r h=>?_) (fun r h=>?_)
 ·refine sh fol [(4,.i 5)] ?_
  refine Goes.ret ?_
  obtain rfl:=si h
  exact(gw2 [.i 5] (Ua tI))
 refine Goes.skip ?_
 refine sq ?_
 refine sh fol (kB n w [(5,.i 0)]) ?_
 refine Goes.block ?_
 obtain⟨f,g7,h⟩:=bnd h
 refine Goes.imp (Q:=fun x s'=>(x= .exit 0/\(.inl ())=f/\Sub s' (ofG 28 [],[]))\/(x= .ret/\ ∃o,(.inr o)=f/\zU ZT [.tmp 4] (.i o) .ret s')) ?_ ?_
 ·refine Uc (fun M s=> ∃(c:Int),s=(ofG 28 (kB n w (kAM c)),[])/\zL n w M c=some f) ?_ (m:=N) ⟨_,rfl,g7⟩
  rintro M s ⟨c,rfl,g7⟩
  cases M with
  |zero=>simp only[zL]at g7;cases g7
  |succ M=>
   rw[zL]at g7
   refine sq ?_
   refine sh fol (kB n w [(5,.i c),(18,.bool (decide (c<(w.length:Int))))]) ?_
   refine ihD g7 (fun t g7=>?_) (fun t g7=>?_)
   ·refine Goes.skip ?_
    refine sq (Goes.block ?_)
    obtain⟨g,b,g7⟩:=bnd g7
    obtain⟨j,d,g7⟩:=bnd g7
    refine sq (gr fol [3,4,5] (kB n w [(5,.i c),(27,.bool (!j))]) (ac (iv jF encI b) (ac (lv 0 ce3 encI b rfl) (ac (cv (qeE n g d)) az))) ?_)
    refine ihB g7 (fun k g7=>?_) (fun k g7=>?_)
    ·refine sh fol [(4,.i 3)] ?_
     refine Goes.ret ?_
     obtain rfl:=si g7
     exact Or.inr (⟨rfl,_,rfl,(gw2 [.i 3] (Ua tI))⟩)
    refine Goes.skip ?_
    refine gh fol (kB n w (kAM (w64 (c+1)))) ?_
    exact⟨M,(ofG 28 (kB n w (kAM (w64 (c+1)))),[]),Nat.lt_succ_self _,(Sub.refl _),_,rfl,g7⟩
   refine Goes.exit ?_
   obtain rfl:=si g7
   exact Or.inl (⟨rfl,rfl,(Sub.keep [] rfl rfl)⟩)
 rintro x s' (⟨rfl,rfl,hsub⟩|⟨rfl,u,rfl,hret⟩)
 ·try dsimp only at h
  refine Goes.sub hsub ?_
  refine sh fol [(4,.i 0)] ?_
  refine Goes.ret ?_
  obtain rfl:=si h
  exact(gw2 [.i 0] (Ua tI))
 try dsimp only at h
 obtain rfl:=si h
 exact hret
def qaT (N:Nat) (n:Int) (w:List Int) (strands:Int) (letters:Int):Option Bool:=
 (if n<=strands then
 if(w.length:Int)<=letters then
 (vM N n w).bind fun a=>
 some (decide (a=0))
 else
 some false
 else
 some false:Option Bool).bind fun b=>
 some b
theorem qb5 (N:Nat) (n:Int) (w:List Int) (strands:Int) (letters:Int) {res:Bool} (h:qaT N n w strands letters=some res):qb ZT (.fn 5) [.i n,vl encI w,.i strands,.i letters] [] (.bool res) []:=by
 unfold qaT at h
 refine Ub Tryz.func5 rfl rfl (m:=24) rfl (rs:=[.tmp 8]) rfl (l:=(kB n w ((2,.i strands)::(kAU letters)))) rfl ?_
 refine sh fol (kB n w ((2,.i strands)::(kAU letters))) ?_
 refine sq ?_
 obtain⟨e,a,h⟩:=bnd h
 refine Goes.cut (s':=(ofG 24 [(8,.bool e)],[])) ?_ ?_
 ·rcases wyD a with⟨c,a⟩|⟨c,a⟩
  ·rcases wyD a with⟨d,a⟩|⟨d,a⟩
   ·obtain⟨f,b,a⟩:=bnd a
    obtain rfl:=si a
    exact tr fol [3,9,12] [(8,.bool (decide (f=0)))] (ac (gw c) (ac (gw d) (ac (cv (qa0 N n w b)) az)))
   obtain rfl:=si a
   exact tr fol [3,9] [(8,.bool false)] (ac (gw c) (ac (gw d) az))
  obtain rfl:=si a
  exact tr fol [3] [(8,.bool false)] (ac (gw c) az)
 refine Goes.ret ?_
 obtain rfl:=si h
 exact(gw2 [.bool e] (Ua tB))
def zC (l:List Int):Nat->Int->Option (Unit⊕Int)
 |0,_=>none
 |K+1,a=>
  if a<(l.length:Int)then
  (idx l a).bind fun b=>
  if(!decide (b=0))=true then
  some (.inr b)
  else
  zC l K (w64 (a+1))
  else
  some (.inl ())
def ko (N:Nat) (l:List Int):Option Int:=
 (zC l N 0).bind (fun
 |(.inl ())=>
 some 0
 |(.inr a)=>
 some a)
theorem vC (N:Nat) (l:List Int) {res:Int} (h:ko N l=some res):qb ZT (.fn 52) [vl encI l] [] (.i res) []:=by
 unfold ko at h
 refine Ub Tryz.func52 rfl rfl (m:=15) rfl (rs:=[.tmp 2]) rfl (l:=(kD l [])) rfl ?_
 refine sh fol (kD l []) ?_
 refine sq ?_
 refine sh fol [(5,vl encI l),(6,.i (l.length:Int)),(7,.i 0)] ?_
 refine Goes.block ?_
 obtain⟨d,g2,h⟩:=bnd h
 refine Goes.imp (Q:=fun x s'=>(x= .exit 0/\(.inl ())=d/\Sub s' (ofG 15 [],[]))\/(x= .ret/\ ∃e,(.inr e)=d/\zU ZT [.tmp 2] (.i e) .ret s')) ?_ ?_
 ·refine Uc (fun M s=> ∃(a:Int),s=(ofG 15 ((5,vl encI l)::(6,.i (l.length:Int))::(kAW a)),[])/\zC l M a=some d) ?_ (m:=N) ⟨_,rfl,g2⟩
  rintro M s ⟨a,rfl,g2⟩
  cases M with
  |zero=>simp only[zC]at g2;cases g2
  |succ M=>
   rw[zC]at g2
   refine sh fol [(5,vl encI l),(6,.i (l.length:Int)),(7,.i a),(8,.bool (decide (a<(l.length:Int))))] ?_
   refine sq ?_
   refine ihD g2 (fun f g2=>?_) (fun f g2=>?_)
   ·refine Goes.skip ?_
    refine sq (Goes.block ?_)
    obtain⟨c,b,g2⟩:=bnd g2
    refine sq (gr fol [0,1] ((4,.i c)::(5,vl encI l)::(6,.i (l.length:Int))::(kAW a)) (ac (iv sl141 encI b) (ac (lv 0 ce25 encI b rfl) az)) ?_)
    refine sh fol [(4,.i c),(5,vl encI l),(6,.i (l.length:Int)),(7,.i a),(12,.bool (!decide (c=0)))] ?_
    refine ihB g2 (fun g g2=>?_) (fun g g2=>?_)
    ·refine sh fol [(2,.i c)] ?_
     refine Goes.ret ?_
     obtain rfl:=si g2
     exact Or.inr (⟨rfl,_,rfl,(gw2 [.i c] (Ua tI))⟩)
    refine Goes.skip ?_
    refine gh fol ((5,vl encI l)::(6,.i (l.length:Int))::(kAW (w64 (a+1)))) ?_
    exact⟨M,(ofG 15 ((5,vl encI l)::(6,.i (l.length:Int))::(kAW (w64 (a+1)))),[]),Nat.lt_succ_self _,(Sub.refl _),_,rfl,g2⟩
   refine Goes.exit ?_
   obtain rfl:=si g2
   exact Or.inl (⟨rfl,rfl,(Sub.keep [] rfl rfl)⟩)
 rintro x s' (⟨rfl,rfl,hsub⟩|⟨rfl,j,rfl,hret⟩)
 ·try dsimp only at h
  refine Goes.sub hsub ?_
  refine sh fol [(2,.i 0)] ?_
  refine Goes.ret ?_
  obtain rfl:=si h
  exact(gw2 [.i 0] (Ua tI))
 try dsimp only at h
 obtain rfl:=si h
 exact hret
def qF (holds:Bool) (e:Int):Option Int:=
 if holds=true then
 some e
 else
 some 0
theorem qZ (holds:Bool) (e:Int) {res:Int} (h:qF holds e=some res):qb ZT (.fn 57) [.bool holds,.i e] [] (.i res) []:=by
 unfold qF at h
 refine Ub Tryz.func57 rfl rfl (m:=7) rfl (rs:=[.tmp 4]) rfl (l:=((0,.bool holds)::(kAQ e))) rfl ?_
 refine sh fol ((0,.bool holds)::(kAQ e)) ?_
 refine sq ?_
 refine sh fol [(1,.i e),(5,.bool holds)] ?_
 refine ihB h (fun a h=>?_) (fun a h=>?_)
 ·refine sh fol (kAA e) ?_
  refine Goes.ret ?_
  obtain rfl:=si h
  exact(gw2 [.i e] (Ua tI))
 refine Goes.skip ?_
 refine sh fol [(4,.i 0)] ?_
 refine Goes.ret ?_
 obtain rfl:=si h
 exact(gw2 [.i 0] (Ua tI))
def zK (n:Int):Option Int:=
 (if n<1 then
 (qF true 3).bind fun a=>
 some a
 else
 (qF (decide (n>12)) 3).bind fun b=>
 some b:Option Int).bind fun c=>
 some c
theorem jl (n:Int) {res:Int} (h:zK n=some res):qb ZT (.fn 53) [.i n] [] (.i res) []:=by
 unfold zK at h
 refine Ub Tryz.func53 rfl rfl (m:=10) rfl (rs:=[.tmp 2]) rfl (l:=[(0,.i n)]) rfl ?_
 refine sh fol [(0,.i n)] ?_
 refine sq ?_
 obtain⟨e,a,h⟩:=bnd h
 refine Goes.cut (s':=(ofG 10 [(2,.i e)],[])) ?_ ?_
 ·rcases wyD a with⟨d,a⟩|⟨d,a⟩
  ·obtain⟨f,b,a⟩:=bnd a
   obtain rfl:=si a
   exact tr fol [2,6] [(2,.i f)] (ac (gw d) (ac (cv (qZ true 3 b)) az))
  obtain⟨g,c,a⟩:=bnd a
  obtain rfl:=si a
  exact tr fol [2,6] [(2,.i g)] (ac (gw d) (ac (cv (qZ (decide (n>12)) 3 c)) az))
 refine Goes.ret ?_
 obtain rfl:=si h
 exact(gw2 [.i e] (Ua tI))
def xG (n:Int) (letter:Int):Option Bool:=
 (if letter=0 then
 some true
 else
 if letter<=(w64 (0-n))then
 some true
 else
 some (decide (letter>=n)):Option Bool).bind fun a=>
 some a
theorem qd8 (n:Int) (letter:Int) {res:Bool} (h:xG n letter=some res):qb ZT (.fn 82) [.i n,.i letter] [] (.bool res) []:=by
 unfold xG at h
 refine Ub Tryz.func82 rfl rfl (m:=18) rfl (rs:=[.tmp 4]) rfl (l:=((0,.i n)::(kAQ letter))) rfl ?_
 refine sh fol ((0,.i n)::(kAQ letter)) ?_
 refine sq ?_
 obtain⟨d,a,h⟩:=bnd h
 refine Goes.cut (s':=(ofG 18 (kAK d),[])) ?_ ?_
 ·rcases wyD a with⟨b,a⟩|⟨b,a⟩
  ·obtain rfl:=si a
   exact tr fol [2] kAN (ac (gw b) az)
  rcases wyD a with⟨c,a⟩|⟨c,a⟩
  ·obtain rfl:=si a
   exact tr fol [2,8] kAN (ac (gw b) (ac (gw c) az))
  obtain rfl:=si a
  exact tr fol [2,8] (kAK (decide (letter>=n))) (ac (gw b) (ac (gw c) az))
 refine Goes.ret ?_
 obtain rfl:=si h
 exact(gw2 [.bool d] (Ua tB))
def vI (a:Int) (b:Int):Option Bool:=
 (xG b a).bind fun c=>
 some c
theorem qbn (a:Int) (b:Int) {res:Bool} (h:vI a b=some res):qb ZT (.fn 81) [.i a,.fptr [.i b] 0] [] (.bool res) []:=by
 unfold vI at h
 refine Ub Tryz.func81 rfl rfl (m:=7) rfl (rs:=[.tmp 3]) rfl (l:=[(0,.i a),(1,.fptr [.i b] 0)]) rfl ?_
 refine sh fol [(0,.i a),(1,.fptr [.i b] 0)] ?_
 obtain⟨d,c,h⟩:=bnd h
 refine sq (gr fol [2] [(3,.bool d)] (ac (cv (qd8 b a c)) az) ?_)
 refine Goes.ret ?_
 obtain rfl:=si h
 exact(gw2 [.bool d] (Ua tB))
def qo (a:List Int) (b:Int):Nat->Int->Option (Unit⊕Int)
 |0,_=>none
 |K+1,c=>
  if c<(a.length:Int)then
  (idx a c).bind fun d=>
  (vI d b).bind fun e=>
  if e=true then
  some (.inr c)
  else
  qo a b K (w64 (c+1))
  else
  some (.inl ())
def jN (N:Nat) (a:List Int) (b:Int):Option Int:=
 (qo a b N 0).bind (fun
 |(.inl ())=>
 some (-1)
 |(.inr c)=>
 some c)
theorem qa7 (N:Nat) (a:List Int) (b:Int) {res:Int} (h:jN N a b=some res):qb ZT (.fn 141) [vl encI a,.func (.func 81) [] [.fptr [.i b] 0]] [] (.i res) []:=by
 unfold jN at h
 refine Ub Tryz.func141 rfl rfl (m:=19) rfl (rs:=[.tmp 4]) rfl (l:=(kD a [(1,.func (.func 81) [] [.fptr [.i b] 0])])) rfl ?_
 refine sh fol (kD a [(1,.func (.func 81) [] [.fptr [.i b] 0])]) ?_
 refine sq ?_
 refine sh fol (kD a [(1,.func (.func 81) [] [.fptr [.i b] 0]),(7,.i (a.length:Int)),(8,.i 0)]) ?_
 refine Goes.block ?_
 obtain⟨f,g2,h⟩:=bnd h
 refine Goes.imp (Q:=fun x s'=>(x= .exit 0/\(.inl ())=f/\Sub s' (ofG 19 [],[]))\/(x= .ret/\ ∃j,(.inr j)=f/\zU ZT [.tmp 4] (.i j) .ret s')) ?_ ?_
 ·refine Uc (fun M s=> ∃(c:Int),s=(ofG 19 (kD a [(1,.func (.func 81) [] [.fptr [.i b] 0]),(7,.i (a.length:Int)),(8,.i c)]),[])/\qo a b M c=some f) ?_ (m:=N) ⟨_,rfl,g2⟩
  rintro M s ⟨c,rfl,g2⟩
  cases M with
  |zero=>simp only[qo]at g2;cases g2
  |succ M=>
   rw[qo]at g2
   refine sh fol (kD a [(1,.func (.func 81) [] [.fptr [.i b] 0]),(7,.i (a.length:Int)),(8,.i c),(9,.bool (decide (c<(a.length:Int))))]) ?_
   refine sq ?_
   refine ihD g2 (fun n g2=>?_) (fun n g2=>?_)
   ·refine Goes.skip ?_
    refine sq (Goes.block ?_)
    refine sh fol (kD a [(1,.func (.func 81) [] [.fptr [.i b] 0]),(5,.i c),(7,.i (a.length:Int)),(8,.i c)]) ?_
    obtain⟨g,d,g2⟩:=bnd g2
    obtain⟨k,e,g2⟩:=bnd g2
    refine sq (gr fol [3,4,5] (kD a [(1,.func (.func 81) [] [.fptr [.i b] 0]),(5,.i c),(7,.i (a.length:Int)),(8,.i c),(16,.bool k)]) (ac (iv jF encI d) (ac (lv 0 ce3 encI d rfl) (ac (hs (.call 81 [.i g,.fptr [.i b] 0] [] [] [.i g,.fptr [.i b] 0] (.bool k)) (qjG (FzL.cons (Ul tI) (FzL.cons (Ul (Still.fptr (AllST.cons tI AllST.nil))) FzL.nil)) (qbn g b e) tB)) az))) ?_)
    refine ihB g2 (fun o g2=>?_) (fun o g2=>?_)
    ·refine sh fol (kAA c) ?_
     refine Goes.ret ?_
     obtain rfl:=si g2
     exact Or.inr (⟨rfl,_,rfl,(gw2 [.i c] (Ua tI))⟩)
    refine Goes.skip ?_
    refine gh fol (kD a [(1,.func (.func 81) [] [.fptr [.i b] 0]),(7,.i (a.length:Int)),(8,.i (w64 (c+1)))]) ?_
    exact⟨M,(ofG 19 (kD a [(1,.func (.func 81) [] [.fptr [.i b] 0]),(7,.i (a.length:Int)),(8,.i (w64 (c+1)))]),[]),Nat.lt_succ_self _,(Sub.refl _),_,rfl,g2⟩
   refine Goes.exit ?_
   obtain rfl:=si g2
   exact Or.inl (⟨rfl,rfl,(Sub.keep [] rfl rfl)⟩)
 rintro x s' (⟨rfl,rfl,hsub⟩|⟨rfl,p,rfl,hret⟩)
 ·try dsimp only at h
  refine Goes.sub hsub ?_
  refine sh fol [(4,.i (-1))] ?_
  refine Goes.ret ?_
  obtain rfl:=si h
  exact(gw2 [.i (-1)] (Ua tI))
 try dsimp only at h
 obtain rfl:=si h
 exact hret
def zW (N:Nat) (a:List Int) (b:Int):Option Bool:=
 (jN N a b).bind fun c=>
 some (decide (c>=0))
theorem qat (N:Nat) (a:List Int) (b:Int) {res:Bool} (h:zW N a b=some res):qb ZT (.fn 80) [vl encI a,.func (.func 81) [] [.fptr [.i b] 0]] [] (.bool res) []:=by
 unfold zW at h
 refine Ub Tryz.func80 rfl rfl (m:=9) rfl (rs:=[.tmp 4]) rfl (l:=(kD a [(1,.func (.func 81) [] [.fptr [.i b] 0])])) rfl ?_
 refine sh fol (kD a [(1,.func (.func 81) [] [.fptr [.i b] 0])]) ?_
 obtain⟨d,c,h⟩:=bnd h
 refine sq (gr fol [2] (kAK (decide (d>=0))) (ac (hs (.call 141 [vl encI a,.func (.func 81) [] [.fptr [.i b] 0]] [] [] [vl encI a,.func (.func 81) [] [.fptr [.i b] 0]] (.i d)) (qjG (FzL.cons (Ul (zw encI _ (nl rfl))) (FzL.cons (Fz.func FzL.nil (FzL.cons (Ul (Still.fptr (AllST.cons tI AllST.nil))) FzL.nil)) FzL.nil)) (qa7 N a b c) tI)) az) ?_)
 refine Goes.ret ?_
 obtain rfl:=si h
 exact(gw2 [.bool (decide (d>=0))] (Ua tB))
def je (N:Nat) (n:Int) (w:List Int):Option Int:=
 (zK n).bind fun b=>
 (qF (decide ((w.length:Int)>200)) 5).bind fun c=>
 (ko N ([b,c]:List Int)).bind fun a=>
 if(!decide (a=0))=true then
 some a
 else
 (zW N w n).bind fun d=>
 (qF d 3).bind fun e=>
 some e
theorem yB (N:Nat) (n:Int) (w:List Int) {res:Int} (h:je N n w=some res):qb ZT (.fn 34) [.i n,vl encI w] [] (.i res) []:=by
 unfold je at h
 refine Ub Tryz.func34 rfl rfl (m:=21) rfl (rs:=[.tmp 4]) rfl (l:=(kB n w [])) rfl ?_
 refine sg fol (kL w [(2,.ptr 0 0)]) [.cells [.i n]] ?_
 refine sq ?_
 obtain⟨b,c,h⟩:=bnd h
 obtain⟨d,e,h⟩:=bnd h
 obtain⟨a,f,h⟩:=bnd h
 refine sq (gq fol [1,5,7] (kL w ((2,.ptr 0 0)::(kAM a))) [.cells [.i n],.cells [.i b,.i d]] (ac (cv (jl n c)) (ac (cv (qZ (decide ((w.length:Int)>200)) 5 e)) (ac (hs (.call 52 [.slice 1 0 2 2 1] [.cells [.i n],.cells [.i b,.i d]] [1] [vl encI ([b,d]:List Int)] (.i a)) (qbo (FzL.cons (Fz.lit rfl rfl (Um (AllST.cons tI (AllST.cons tI AllST.nil)))) FzL.nil) (vC N ([b,d]:List Int) f) tI rfl)) az))) ?_)
 refine sh fol (kL w [(2,.ptr 0 0),(5,.i a),(15,.bool (!decide (a=0)))]) ?_
 refine ihB h (fun p h=>?_) (fun p h=>?_)
 ·refine sh fol (kAA a) ?_
  refine Goes.ret ?_
  obtain rfl:=si h
  exact(gw2 [.i a] (Ua tI))
 refine Goes.skip ?_
 obtain⟨k,g,h⟩:=bnd h
 obtain⟨o,j,h⟩:=bnd h
 refine sq (gr fol [2,3] (kAA o) (ac (hs (.call 80 [vl encI w,.func (.func 81) [] [.ptr 0 0]] [.cells [.i n],.cells [.i b,.i d]] [0] [vl encI w,.func (.func 81) [] [.fptr [.i n] 0]] (.bool k)) (qbo (FzL.cons (Ul (zw encI _ (nl rfl))) (FzL.cons (Fz.func FzL.nil (FzL.cons (Fz.ptr rfl rfl (FzL.cons (Ul tI) FzL.nil)) FzL.nil)) FzL.nil)) (qat N w n g) tB rfl)) (ac (cv (qZ k 3 j)) az)) ?_)
 refine Goes.ret ?_
 obtain rfl:=si h
 exact(gw2 [.i o] (Ua tI))
def jT (N:Nat) (n:Int) (a:List Int) (b:List Int):Option Int:=
 (je N n a).bind fun c=>
 (je N n b).bind fun d=>
 (ko N ([c,d]:List Int)).bind fun e=>
 some e
theorem qaY (N:Nat) (n:Int) (a:List Int) (b:List Int) {res:Int} (h:jT N n a b=some res):qb ZT (.fn 32) (.i n::(kAH a b)) [] (.i res) []:=by
 unfold jT at h
 refine Ub Tryz.func32 rfl rfl (m:=15) rfl (rs:=[.tmp 6]) rfl (l:=(kB n a (kAT b []))) rfl ?_
 refine sh fol (kB n a (kAT b [])) ?_
 obtain⟨f,c,h⟩:=bnd h
 obtain⟨g,d,h⟩:=bnd h
 obtain⟨j,e,h⟩:=bnd h
 refine sq (gq fol [2,5,7] [(6,.i j)] [.cells [.i f,.i g]] (ac (cv (yB N n a c)) (ac (cv (yB N n b d)) (ac (hs (.call 52 [.slice 0 0 2 2 1] [.cells [.i f,.i g]] [0] [vl encI ([f,g]:List Int)] (.i j)) (qbo (FzL.cons (Fz.lit rfl rfl (Um (AllST.cons tI (AllST.cons tI AllST.nil)))) FzL.nil) (vC N ([f,g]:List Int) e) tI rfl)) az))) ?_)
 refine Goes.ret ?_
 obtain rfl:=si h
 exact(gw2 [.i j] (Ua tI))
def zf (c:List Int):Nat->(List Int)->Int->Option (List Int)
 |0,_,_=>none
 |K+1,b,a=>
  if a<(c.length:Int)then
  (idx b a).bind fun e=>
  (put b a a).bind fun d=>
  zf c K d (w64 (a+1))
  else
  some b
def jO (N:Nat) (a:Int):Option (List Int):=
 (mk 8 a 0).bind fun b=>
 (zf b N b 0).bind fun c=>
 some c
theorem qaw (N:Nat) (c:Int) {n:List Int} (h:jO N c=some n):qb ZT (.fn 83) [.i c] [] (.slice 0 0 n.length n.length 1) (kA n):=by
 unfold jO at h
 refine Uk Tryz.func83 rfl rfl (m:=18) rfl (rs:=[.tmp 2]) rfl (l:=[(0,.i c)]) rfl ?_
 intro B hB
 refine sh fol [(0,.i c)] ?_
 obtain⟨a,k,h⟩:=bnd h
 refine sq (gq fol [1] (kC a []) (kA a) (ac (hs (.run [] (vU ZT 22 (.i c) (.i c)) [] (.slice 0 0 a.length a.length 1) (kA a) false) (qf5 jF (E:=encI) (z:=0) rfl (by kernel_rfl) k rfl)) az) ?_)
 refine sq ?_
 refine sh fol (kC a [(8,.i (a.length:Int)),(9,.i 0)]) ?_
 refine Goes.block ?_
 obtain⟨o,g6,h⟩:=bnd h
 refine Goes.imp (Q:=fun x s'=>(x= .exit 0/\ ∃j,j=o/\Sub s' (ofG 18 (kC j []),(kA j)))) ?_ ?_
 ·refine Uc (fun M s=> ∃(d:List Int) (b:Int),s=(ofG 18 (kC d [(8,.i (a.length:Int)),(9,.i b)]),(kA d))/\zf a M d b=some o) ?_ (m:=N) ⟨_,_,rfl,g6⟩
  rintro M s ⟨d,b,rfl,g6⟩
  cases M with
  |zero=>simp only[zf]at g6;cases g6
  |succ M=>
   rw[zf]at g6
   refine sh fol (kC d [(8,.i (a.length:Int)),(9,.i b),(10,.bool (decide (b<(a.length:Int))))]) ?_
   refine sq ?_
   refine ihD g6 (fun p g6=>?_) (fun p g6=>?_)
   ·refine Goes.skip ?_
    refine sq (Goes.block ?_)
    refine sh fol (kC d [(4,.i b),(8,.i (a.length:Int)),(9,.i b)]) ?_
    obtain⟨q,e,g6⟩:=bnd g6
    obtain⟨f,g,g6⟩:=bnd g6
    refine gq fol [3,4] (kC d [(8,.i (a.length:Int)),(9,.i b)]) (kA f) (ac (hs (.done (.opt (qc ZT 22 (.slice 0 0 d.length d.length 1) (.i b))) (.ptr 0 ((b:Int).toNat*1+0))) (qew jF e)) (ac (hs (.run [0] (yc ZT 3 (.ptr 0 ((b:Int).toNat*1+0)) (.i b)) (kA d) .undef (kA f) true) (qaG (E:=encI) (l:=d) (y:=b) rfl (show _=some 1 by kernel_rfl) rfl e rfl rfl rfl rfl rfl g rfl)) az)) ?_
    refine Goes.sub (show Sub (ofG 18 (kC d [(8,.i (a.length:Int)),(9,.i b)]),(kA f)) (ofG 18 (kC f [(8,.i (a.length:Int)),(9,.i b)]),(kA f))from(Sub.norm [] [some 0] (by rw[hB];rfl) rfl (.keep (.sliceE rfl (yg g)) (.keep (.same nI) (.keep (.same nI) .nil))) (.ks .nil))) ?_
    refine gh fol (kC f [(8,.i (a.length:Int)),(9,.i (w64 (b+1)))]) ?_
    exact⟨M,(ofG 18 (kC f [(8,.i (a.length:Int)),(9,.i (w64 (b+1)))]),(kA f)),Nat.lt_succ_self _,(Sub.refl _),_,_,rfl,g6⟩
   refine Goes.exit ?_
   obtain rfl:=si g6
   exact⟨rfl,_,rfl,(Sub.keep [3] rfl rfl)⟩
 rintro x s' ⟨rfl,j,rfl,hsub⟩
 refine Goes.sub hsub ?_
 refine sh fol (kAJ j) ?_
 refine Goes.ret ?_
 obtain rfl:=si h
 exact(gh2 [.slice 0 0 j.length j.length 1] (qbe.refl _ _))
def qG:Nat->(List Int)->Int->Int->Option (List Int)
 |0,_,_,_=>none
 |K+1,c,d,a=>
  if d<a then
  (idx c a).bind fun f=>
  (idx c d).bind fun g=>
  (put c d f).bind fun b=>
  (idx b a).bind fun h=>
  (put b a g).bind fun e=>
  qG K e (w64 (d+1)) (w64 (a-1))
  else
  some c
def jm (N:Nat) (a:List Int):Option (List Int):=
 (qG N a 0 (w64 ((a.length:Int)-1))).bind fun b=>
 some b
theorem qbs (N:Nat) (b:List Int) {t:List Int} (h:jm N b=some t):qb ZT (.fn 95) [.slice 0 0 b.length b.length 1] (kA b) (.tuple []) (kA t):=by
 unfold jm at h
 refine Uk Tryz.func95 rfl rfl (m:=28) rfl (rs:=[]) rfl (l:=[(0,.slice 0 0 b.length b.length 1)]) rfl ?_
 intro B hB
 refine Goes.subQ ?_
 refine sh fol ((0,.slice 0 0 b.length b.length 1)::(2,.i 0)::(kAU (w64 ((b.length:Int)-1)))) ?_
 refine Goes.block ?_
 obtain⟨u,g6,h⟩:=bnd h
 refine Goes.imp (Q:=fun x s'=>(x= .exit 0/\ ∃p,p=u/\Sub s' (ofG 28 [],(kA p)))) ?_ ?_
 ·refine Uc (fun M s=> ∃(a:List Int) (d:Int) (e:Int),s=(ofG 28 (kT a d e []),(kA a))/\qG M a d e=some u) ?_ (m:=N) ⟨_,_,_,rfl,g6⟩
  rintro M s ⟨a,d,e,rfl,g6⟩
  cases M with
  |zero=>simp only[qG]at g6;cases g6
  |succ M=>
   rw[qG]at g6
   refine sq ?_
   refine sh fol (kT a d e [(9,.bool (decide (d<e)))]) ?_
   refine ihD g6 (fun v g6=>?_) (fun v g6=>?_)
   ·refine Goes.skip ?_
    refine sq (Goes.block ?_)
    obtain⟨q,g,g6⟩:=bnd g6
    obtain⟨r,f,g6⟩:=bnd g6
    obtain⟨n,j,g6⟩:=bnd g6
    obtain⟨w,o,g6⟩:=bnd g6
    obtain⟨c,k,g6⟩:=bnd g6
    refine gq fol [6,7,10,11,12,13,14,15] (kT a d e []) (kA c) (ac (hs (.done (.opt (qc ZT 74 (.slice 0 0 a.length a.length 1) (.i e))) (.ptr 0 ((e:Int).toNat*1+0))) (qew qbH g)) (ac (hs (.run [0] (jY ZT 3 (.ptr 0 ((e:Int).toNat*1+0))) (kA a) (.i q) (kA a) false) (qdu ce3 (E:=encI) (l:=a) rfl rfl g (nl rfl) rfl)) (ac (hs (.done (.opt (qc ZT 74 (.slice 0 0 a.length a.length 1) (.i d))) (.ptr 0 ((d:Int).toNat*1+0))) (qew qbH f)) (ac (hs (.run [0] (jY ZT 3 (.ptr 0 ((d:Int).toNat*1+0))) (kA a) (.i r) (kA a) false) (qdu ce3 (E:=encI) (l:=a) rfl rfl f (nl rfl) rfl)) (ac (hs (.done (.opt (qc ZT 74 (.slice 0 0 a.length a.length 1) (.i d))) (.ptr 0 ((d:Int).toNat*1+0))) (qew qbH f)) (ac (hs (.run [0] (yc ZT 3 (.ptr 0 ((d:Int).toNat*1+0)) (.i q)) (kA a) .undef (kA n) true) (qaG (E:=encI) (l:=a) (y:=q) rfl (show _=some 1 by kernel_rfl) rfl f rfl rfl rfl rfl rfl j rfl)) (ac (hs (.done (.opt (qc ZT 74 (.slice 0 0 a.length a.length 1) (.i e))) (.ptr 0 ((e:Int).toNat*1+0))) (qew qbH g)) (ac (hs (.run [0] (yc ZT 3 (.ptr 0 ((e:Int).toNat*1+0)) (.i r)) (kA n) .undef (kA c) true) (qaG (E:=encI) (l:=n) (y:=r) rfl (show _=some 1 by kernel_rfl) rfl o rfl rfl rfl rfl rfl k rfl)) az)))))))) ?_
    refine Goes.sub (show Sub (ofG 28 (kT a d e []),(kA c)) (ofG 28 (kT c d e []),(kA c))from(Sub.norm [] [some 0] (by rw[hB];rfl) rfl (.keep (.sliceE rfl ((yg j).trans (yg k))) (.keep (.same nI) (.keep (.same nI) .nil))) (.ks .nil))) ?_
    refine gh fol (kT c (w64 (d+1)) (w64 (e-1)) []) ?_
    exact⟨M,(ofG 28 (kT c (w64 (d+1)) (w64 (e-1)) []),(kA c)),Nat.lt_succ_self _,(Sub.refl _),_,_,_,rfl,g6⟩
   refine Goes.exit ?_
   obtain rfl:=si g6
   exact⟨rfl,_,rfl,(Sub.keep [] rfl rfl)⟩
 rintro x s' ⟨rfl,p,rfl,hsub⟩
 obtain rfl:=si h
 exact⟨_,hsub,(gh2 [] (qbe.refl _ _))⟩
def xk (N:Nat) (n:Int):Option (List Int):=
 (jO N n).bind fun a=>
 (jm N a).bind fun b=>
 ((if a.length=b.length then some ()else none:Option Unit)).bind fun c=>
 some b
theorem qao (N:Nat) (n:Int) {res:List Int} (h:xk N n=some res):qb ZT (.fn 43) [.i n] [] (vl encI res) []:=by
 unfold xk at h
 refine Ub Tryz.func43 rfl rfl (m:=9) rfl (rs:=[.tmp 2]) rfl (l:=[(0,.i n)]) rfl ?_
 refine sh fol [(0,.i n)] ?_
 obtain⟨a,c,h⟩:=bnd h
 refine sq (gq fol [1] (kC a []) (kA a) (ac (hs (.callH 83 [.i n] [] [] (.slice 0 0 a.length a.length 1) (kA a)) (yP [] [some 0] (qaw N n c) .nil rfl rfl (.new rfl rfl (.same fa) rfl .nil) (rc (.same nI) rn) (.slice rfl) rfl)) az) ?_)
 obtain⟨b,d,h⟩:=bnd h
 obtain⟨f,e,h⟩:=bnd h
 refine sq (gq fol [1] (kC a []) (kA b) (ac (hs (.callH 95 [.slice 0 0 a.length a.length 1] (kA a) [0] (.tuple []) (kA b)) (yP [some 0] [some 0] (qbs N a d) (.ks .nil) rfl rfl (.back rfl rfl (.same fa) rfl .nil) (rc (.slice rfl) rn) (.same (qj.tuple sn)) rfl)) az) ?_)
 refine Goes.sub (show Sub (ofG 9 (kC a []),(kA b)) (ofG 9 (kC b []),(kA b))from(Sub.norm [] [some 0] rfl rfl (.keep (.sliceE rfl (qgW e)) .nil) (.ks .nil))) ?_
 refine sh fol (kAJ b) ?_
 refine Goes.ret ?_
 obtain rfl:=si h
 exact(gw2 [.slice 0 0 b.length b.length 1] (Uo (Fz.sl (E:=encI) rfl rfl (nl rfl))))
def vg (n:Int):Option Int:=
 some (if(w64 (0-n))>n then(w64 (0-n))else n)
theorem xw (n:Int) {res:Int} (h:vg n=some res):qb ZT (.fn 47) [.i n] [] (.i res) []:=by
 unfold vg at h
 refine Ub Tryz.func47 rfl rfl (m:=7) rfl (rs:=[.tmp 2]) rfl (l:=[(0,.i n)]) rfl ?_
 refine sh fol [(0,.i n)] ?_
 refine sh fol [(2,.i (if(w64 (0-n))>n then(w64 (0-n))else n))] ?_
 refine Goes.ret ?_
 obtain rfl:=si h
 exact(gw2 [.i (if(w64 (0-n))>n then(w64 (0-n))else n)] (Ua tI))
def qM (p:List Int) (i:Int):Option (List Int):=
 (qcq p).bind fun _=>
 (idx p (w64 (i+1))).bind fun b=>
 (idx p i).bind fun c=>
 (put p i b).bind fun a=>
 (idx a (w64 (i+1))).bind fun e=>
 (put a (w64 (i+1)) c).bind fun d=>
 some d
theorem jQ (p:List Int) (i:Int) {res:List Int} (h:qM p i=some res):qb ZT (.fn 84) (kAR p i) [] (vl encI res) []:=by
 unfold qM at h
 refine Ub Tryz.func84 rfl rfl (m:=25) rfl (rs:=[.tmp 4]) rfl (l:=(kD p (kAQ i))) rfl ?_
 refine sh fol (kD p (kAQ i)) ?_
 obtain⟨_,f,h⟩:=bnd h
 refine sq (gq fol [1] ((1,.i i)::(kH p [])) (kA p) (ac (hs (.callH 96 [vl encI p] [] [] (.gslice 0 p.length 1) (kA p)) (yP [] [some 0] (qgK p f) .nil rfl rfl (.new rfl rfl (.same fa) rfl .nil) (rc (.same (qf encI _)) rn) (.gslice rfl) rfl)) az) ?_)
 obtain⟨j,b,h⟩:=bnd h
 obtain⟨k,a,h⟩:=bnd h
 obtain⟨n,c,h⟩:=bnd h
 obtain⟨o,g,h⟩:=bnd h
 obtain⟨e,d,h⟩:=bnd h
 refine sq (gq fol [8,9,12,13,14,15,16,17] (kH p []) (kA e) (ac (hs (.done (.opt (qc ZT 74 (.gslice 0 p.length 1) (.i (w64 (i+1))))) (.ptr 0 ((w64 (i+1):Int).toNat*1+0))) (xA qbH b)) (ac (hs (.run [0] (jY ZT 3 (.ptr 0 ((w64 (i+1):Int).toNat*1+0))) (kA p) (.i j) (kA p) false) (qdu ce3 (E:=encI) (l:=p) rfl rfl b (nl rfl) rfl)) (ac (hs (.done (.opt (qc ZT 74 (.gslice 0 p.length 1) (.i i))) (.ptr 0 ((i:Int).toNat*1+0))) (xA qbH a)) (ac (hs (.run [0] (jY ZT 3 (.ptr 0 ((i:Int).toNat*1+0))) (kA p) (.i k) (kA p) false) (qdu ce3 (E:=encI) (l:=p) rfl rfl a (nl rfl) rfl)) (ac (hs (.done (.opt (qc ZT 74 (.gslice 0 p.length 1) (.i i))) (.ptr 0 ((i:Int).toNat*1+0))) (xA qbH a)) (ac (hs (.run [0] (yc ZT 3 (.ptr 0 ((i:Int).toNat*1+0)) (.i j)) (kA p) .undef (kA n) true) (qaG (E:=encI) (l:=p) (y:=j) rfl (show _=some 1 by kernel_rfl) rfl a rfl rfl rfl rfl rfl c rfl)) (ac (hs (.done (.opt (qc ZT 74 (.gslice 0 p.length 1) (.i (w64 (i+1))))) (.ptr 0 ((w64 (i+1):Int).toNat*1+0))) (xA qbH b)) (ac (hs (.run [0] (yc ZT 3 (.ptr 0 ((w64 (i+1):Int).toNat*1+0)) (.i k)) (kA n) .undef (kA e) true) (qaG (E:=encI) (l:=n) (y:=k) rfl (show _=some 1 by kernel_rfl) rfl g rfl rfl rfl rfl rfl d rfl)) az)))))))) ?_)
 refine Goes.sub (show Sub (ofG 25 (kH p []),(kA e)) (ofG 25 (kH e []),(kA e))from(Sub.norm [] [some 0] rfl rfl (.keep (.gsliceE rfl ((yg c).trans (yg d))) .nil) (.ks .nil))) ?_
 refine sh fol [(4,.gslice 0 e.length 1)] ?_
 refine Goes.ret ?_
 obtain rfl:=si h
 exact(gw2 [.gslice 0 e.length 1] (Uo (Fz.gs (E:=encI) rfl rfl (nl rfl))))
def qI (p:List Int):Nat->(List Int)->Int->Option (List Int)
 |0,_,_=>none
 |K+1,b,a=>
  if a<(p.length:Int)then
  (idx p a).bind fun c=>
  (idx b (w64 ((w64 ((p.length:Int)-1))-a))).bind fun e=>
  (put b (w64 ((w64 ((p.length:Int)-1))-a)) (w64 ((w64 ((p.length:Int)-1))-c))).bind fun d=>
  qI p K d (w64 (a+1))
  else
  some b
def jH (N:Nat) (p:List Int):Option (List Int):=
 (mk 8 (p.length:Int) 0).bind fun a=>
 (qI p N a 0).bind fun b=>
 some b
theorem qbG (N:Nat) (p:List Int) {res:List Int} (h:jH N p=some res):qb ZT (.fn 86) [vl encI p] [] (vl encI res) []:=by
 unfold jH at h
 refine Ub Tryz.func86 rfl rfl (m:=30) rfl (rs:=[.tmp 2]) rfl (l:=(kD p [])) rfl ?_
 refine sh fol (kD p []) ?_
 refine sh fol (kD p (kAU (p.length:Int))) ?_
 obtain⟨j,k,h⟩:=bnd h
 refine sq (gq fol [1] (kD p [(3,.i (p.length:Int)),(4,.slice 0 0 j.length j.length 1)]) (kA j) (ac (hs (.run [] (vU ZT 74 (.i (p.length:Int)) (.i (p.length:Int))) [] (.slice 0 0 j.length j.length 1) (kA j) false) (qf5 qbH (E:=encI) (z:=0) rfl (by kernel_rfl) k rfl)) az) ?_)
 refine sq ?_
 refine sh fol (kG (p.length:Int) j p [(13,.i 0)]) ?_
 refine Goes.block ?_
 obtain⟨o,g5,h⟩:=bnd h
 refine Goes.imp (Q:=fun x s'=>(x= .exit 0/\ ∃c,c=o/\Sub s' (ofG 30 [(4,.slice 0 0 c.length c.length 1)],(kA c)))) ?_ ?_
 ·refine Uc (fun M s=> ∃(b:List Int) (a:Int),s=(ofG 30 (kG (p.length:Int) b p [(13,.i a)]),(kA b))/\qI p M b a=some o) ?_ (m:=N) ⟨_,_,rfl,g5⟩
  rintro M s ⟨b,a,rfl,g5⟩
  cases M with
  |zero=>simp only[qI]at g5;cases g5
  |succ M=>
   rw[qI]at g5
   refine sh fol (kG (p.length:Int) b p [(13,.i a),(14,.bool (decide (a<(p.length:Int))))]) ?_
   refine sq ?_
   refine ihD g5 (fun q g5=>?_) (fun q g5=>?_)
   ·refine Goes.skip ?_
    refine sq (Goes.block ?_)
    obtain⟨n,d,g5⟩:=bnd g5
    refine sq (gr fol [1,2] ((3,.i (p.length:Int))::(4,.slice 0 0 b.length b.length 1)::(5,.i a)::(6,.i n)::(11,vl encI p)::(kAO (p.length:Int) a [])) (ac (iv qbH encI d) (ac (lv 0 ce3 encI d rfl) az)) ?_)
    obtain⟨r,e,g5⟩:=bnd g5
    obtain⟨f,g,g5⟩:=bnd g5
    refine gq fol [9,10] (kG (p.length:Int) b p [(13,.i a)]) (kA f) (ac (hs (.done (.opt (qc ZT 74 (.slice 0 0 b.length b.length 1) (.i (w64 ((w64 ((p.length:Int)-1))-a))))) (.ptr 0 ((w64 ((w64 ((p.length:Int)-1))-a):Int).toNat*1+0))) (qew qbH e)) (ac (hs (.run [0] (yc ZT 3 (.ptr 0 ((w64 ((w64 ((p.length:Int)-1))-a):Int).toNat*1+0)) (.i (w64 ((w64 ((p.length:Int)-1))-n)))) (kA b) .undef (kA f) true) (qaG (E:=encI) (l:=b) (y:=w64 ((w64 ((p.length:Int)-1))-n)) rfl (show _=some 1 by kernel_rfl) rfl e rfl rfl rfl rfl rfl g rfl)) az)) ?_
    refine Goes.sub (show Sub (ofG 30 (kG (p.length:Int) b p [(13,.i a)]),(kA f)) (ofG 30 (kG (p.length:Int) f p [(13,.i a)]),(kA f))from(Sub.norm [] [some 0] rfl rfl (.keep (.same nI) (.keep (.sliceE rfl (yg g)) (.keep (.same (qf encI _)) (.keep (.same nI) (.keep (.same nI) .nil))))) (.ks .nil))) ?_
    refine gh fol (kG (p.length:Int) f p [(13,.i (w64 (a+1)))]) ?_
    exact⟨M,(ofG 30 (kG (p.length:Int) f p [(13,.i (w64 (a+1)))]),(kA f)),Nat.lt_succ_self _,(Sub.refl _),_,_,rfl,g5⟩
   refine Goes.exit ?_
   obtain rfl:=si g5
   exact⟨rfl,_,rfl,(Sub.keep [4] rfl rfl)⟩
 rintro x s' ⟨rfl,c,rfl,hsub⟩
 refine Goes.sub hsub ?_
 refine sh fol (kAJ c) ?_
 refine Goes.ret ?_
 obtain rfl:=si h
 exact(gw2 [.slice 0 0 c.length c.length 1] (Uo (Fz.sl (E:=encI) rfl rfl (nl rfl))))
def ku (p:List Int):Nat->(List Int)->Int->Option (List Int)
 |0,_,_=>none
 |K+1,b,a=>
  if a<(p.length:Int)then
  (idx p a).bind fun c=>
  (idx b c).bind fun e=>
  (put b c a).bind fun d=>
  ku p K d (w64 (a+1))
  else
  some b
def zM (N:Nat) (p:List Int):Option (List Int):=
 (mk 8 (p.length:Int) 0).bind fun a=>
 (ku p N a 0).bind fun b=>
 some b
theorem yR (N:Nat) (p:List Int) {res:List Int} (h:zM N p=some res):qb ZT (.fn 142) [vl encI p] [] (vl encI res) []:=by
 unfold zM at h
 refine Ub Tryz.func142 rfl rfl (m:=22) rfl (rs:=[.tmp 2]) rfl (l:=(kD p [])) rfl ?_
 refine sh fol (kD p []) ?_
 obtain⟨j,k,h⟩:=bnd h
 refine sq (gq fol [2] (kD p (kC j [])) (kA j) (ac (hs (.run [] (vU ZT 74 (.i (p.length:Int)) (.i (p.length:Int))) [] (.slice 0 0 j.length j.length 1) (kA j) false) (qf5 qbH (E:=encI) (z:=0) rfl (by kernel_rfl) k rfl)) az) ?_)
 refine sq ?_
 refine sh fol (kC j [(9,vl encI p),(10,.i (p.length:Int)),(11,.i 0)]) ?_
 refine Goes.block ?_
 obtain⟨o,g5,h⟩:=bnd h
 refine Goes.imp (Q:=fun x s'=>(x= .exit 0/\ ∃g,g=o/\Sub s' (ofG 22 (kC g []),(kA g)))) ?_ ?_
 ·refine Uc (fun M s=> ∃(b:List Int) (a:Int),s=(ofG 22 (kC b ((9,vl encI p)::(kAB (p.length:Int) a))),(kA b))/\ku p M b a=some o) ?_ (m:=N) ⟨_,_,rfl,g5⟩
  rintro M s ⟨b,a,rfl,g5⟩
  cases M with
  |zero=>simp only[ku]at g5;cases g5
  |succ M=>
   rw[ku]at g5
   refine sh fol (kC b [(9,vl encI p),(10,.i (p.length:Int)),(11,.i a),(12,.bool (decide (a<(p.length:Int))))]) ?_
   refine sq ?_
   refine ihD g5 (fun q g5=>?_) (fun q g5=>?_)
   ·refine Goes.skip ?_
    refine sq (Goes.block ?_)
    obtain⟨n,c,g5⟩:=bnd g5
    refine sq (gr fol [1,2] (kC b ((4,.i a)::(5,.i n)::(9,vl encI p)::(kAB (p.length:Int) a))) (ac (iv qbH encI c) (ac (lv 0 ce3 encI c rfl) az)) ?_)
    obtain⟨r,d,g5⟩:=bnd g5
    obtain⟨e,f,g5⟩:=bnd g5
    refine gq fol [3,4] (kC b ((9,vl encI p)::(kAB (p.length:Int) a))) (kA e) (ac (hs (.done (.opt (qc ZT 74 (.slice 0 0 b.length b.length 1) (.i n))) (.ptr 0 ((n:Int).toNat*1+0))) (qew qbH d)) (ac (hs (.run [0] (yc ZT 3 (.ptr 0 ((n:Int).toNat*1+0)) (.i a)) (kA b) .undef (kA e) true) (qaG (E:=encI) (l:=b) (y:=a) rfl (show _=some 1 by kernel_rfl) rfl d rfl rfl rfl rfl rfl f rfl)) az)) ?_
    refine Goes.sub (show Sub (ofG 22 (kC b ((9,vl encI p)::(kAB (p.length:Int) a))),(kA e)) (ofG 22 (kC e ((9,vl encI p)::(kAB (p.length:Int) a))),(kA e))from(Sub.norm [] [some 0] rfl rfl (.keep (.sliceE rfl (yg f)) (.keep (.same (qf encI _)) (.keep (.same nI) (.keep (.same nI) .nil)))) (.ks .nil))) ?_
    refine gh fol (kC e ((9,vl encI p)::(kAB (p.length:Int) (w64 (a+1))))) ?_
    exact⟨M,(ofG 22 (kC e ((9,vl encI p)::(kAB (p.length:Int) (w64 (a+1))))),(kA e)),Nat.lt_succ_self _,(Sub.refl _),_,_,rfl,g5⟩
   refine Goes.exit ?_
   obtain rfl:=si g5
   exact⟨rfl,_,rfl,(Sub.keep [3] rfl rfl)⟩
 rintro x s' ⟨rfl,g,rfl,hsub⟩
 refine Goes.sub hsub ?_
 refine sh fol (kAJ g) ?_
 refine Goes.ret ?_
 obtain rfl:=si h
 exact(gw2 [.slice 0 0 g.length g.length 1] (Uo (Fz.sl (E:=encI) rfl rfl (nl rfl))))
def ja (N:Nat) (p:List Int) (i:Int):Option (List Int):=
 (zM N p).bind fun a=>
 (qM a i).bind fun b=>
 (zM N b).bind fun c=>
 some c
theorem xZ (N:Nat) (p:List Int) (i:Int) {res:List Int} (h:ja N p i=some res):qb ZT (.fn 87) (kAR p i) [] (vl encI res) []:=by
 unfold ja at h
 refine Ub Tryz.func87 rfl rfl (m:=10) rfl (rs:=[.tmp 4]) rfl (l:=(kD p (kAQ i))) rfl ?_
 refine sh fol (kD p (kAQ i)) ?_
 obtain⟨e,a,h⟩:=bnd h
 obtain⟨f,b,h⟩:=bnd h
 obtain⟨d,c,h⟩:=bnd h
 refine sq (gr fol [1,3,4] [(4,vl encI d)] (ac (cv (yR N p a)) (ac (cv (jQ e i b)) (ac (cv (yR N f c)) az))) ?_)
 refine Goes.ret ?_
 obtain rfl:=si h
 exact(gw2 [vl encI d] (Ua (zw encI _ (nl rfl))))
def zA (p:List Int) (i:Int):Option Bool:=
 (idx p i).bind fun a=>
 (idx p (w64 (i+1))).bind fun b=>
 some (decide (a>b))
theorem j5 (p:List Int) (i:Int) {res:Bool} (h:zA p i=some res):qb ZT (.fn 97) (kAR p i) [] (.bool res) []:=by
 unfold zA at h
 refine Ub Tryz.func97 rfl rfl (m:=15) rfl (rs:=[.tmp 4]) rfl (l:=(kD p (kAQ i))) rfl ?_
 refine sh fol (kD p (kAQ i)) ?_
 obtain⟨c,a,h⟩:=bnd h
 obtain⟨d,b,h⟩:=bnd h
 refine sq (gr fol [2,3,7,8] (kAK (decide (c>d))) (ac (iv qbH encI a) (ac (lv 0 ce3 encI a rfl) (ac (iv qbH encI b) (ac (lv 0 ce3 encI b rfl) az)))) ?_)
 refine Goes.ret ?_
 obtain rfl:=si h
 exact(gw2 [.bool (decide (c>d))] (Ua tB))
def vN (N:Nat) (p:List Int) (i:Int):Option Bool:=
 (zM N p).bind fun a=>
 (zA a i).bind fun b=>
 some b
theorem qcB (N:Nat) (p:List Int) (i:Int) {res:Bool} (h:vN N p i=some res):qb ZT (.fn 145) (kAR p i) [] (.bool res) []:=by
 unfold vN at h
 refine Ub Tryz.func145 rfl rfl (m:=9) rfl (rs:=[.tmp 4]) rfl (l:=(kD p (kAQ i))) rfl ?_
 refine sh fol (kD p (kAQ i)) ?_
 obtain⟨d,a,h⟩:=bnd h
 obtain⟨c,b,h⟩:=bnd h
 refine sq (gr fol [1,3] (kAK c) (ac (cv (yR N p a)) (ac (cv (j5 d i b)) az)) ?_)
 refine Goes.ret ?_
 obtain rfl:=si h
 exact(gw2 [.bool c] (Ua tB))
def zT (N:Nat) (a:List Int) (b:List Int):Nat->Int->Int->Option (Unit⊕(Int×Bool))
 |0,_,_=>none
 |K+1,c,d=>
  if c<d then
  ((zA b c).bind fun e=>
  if e=true then
  (vN N a c).bind fun f=>
  some (!f)
  else
  some false:Option Bool).bind fun g=>
  if g=true then
  some (.inr (c,true))
  else
  zT N a b K (w64 (c+1)) d
  else
  some (.inl ())
def jD (N:Nat) (a:List Int) (b:List Int):Option (Int×Bool):=
 (zT N a b N 0 (w64 ((a.length:Int)-1))).bind (fun
 |(.inl ())=>
 some (0,false)
 |(.inr c)=>
 some c)
theorem qbv (N:Nat) (a:List Int) (b:List Int) {res:Int×Bool} (h:jD N a b=some res):qb ZT (.fn 94) (kAH a b) [] (.tuple [.i res.1,.bool res.2]) []:=by
 unfold jD at h
 refine Ub Tryz.func94 rfl rfl (m:=24) rfl (rs:=[.tmp 4,.tmp 5]) rfl (l:=(kD a (kL b []))) rfl ?_
 refine sh fol (kD a (kL b [])) ?_
 refine sq ?_
 refine sh fol (kD a (kL b [(9,.i (w64 ((a.length:Int)-1))),(10,.i 0)])) ?_
 refine Goes.block ?_
 obtain⟨j,g3,h⟩:=bnd h
 refine Goes.imp (Q:=fun x s'=>(x= .exit 0/\(.inl ())=j/\Sub s' (ofG 24 [],[]))\/(x= .ret/\ ∃k,(.inr k)=j/\zU ZT [.tmp 4,.tmp 5] (.tuple [.i k.1,.bool k.2]) .ret s')) ?_ ?_
 ·refine Uc (fun M s=> ∃(d:Int) (e:Int),s=(ofG 24 (kD a (kL b (kZ e d []))),[])/\zT N a b M d e=some j) ?_ (m:=N) ⟨_,_,rfl,g3⟩
  rintro M s ⟨d,e,rfl,g3⟩
  cases M with
  |zero=>simp only[zT]at g3;cases g3
  |succ M=>
   rw[zT]at g3
   refine sh fol (kD a (kL b (kZ e d [(11,.bool (decide (d<e)))]))) ?_
   refine sq ?_
   refine ihD g3 (fun p g3=>?_) (fun p g3=>?_)
   ·refine Goes.skip ?_
    refine sq (Goes.block ?_)
    refine sh fol (kD a (kL b ((6,.i d)::(kZ e d [])))) ?_
    refine sq ?_
    obtain⟨q,c,g3⟩:=bnd g3
    refine Goes.cut (s':=(ofG 24 (kD a (kL b ((6,.i d)::(kZ e d [(21,.bool q)])))),[])) ?_ ?_
    ·obtain⟨u,f,c⟩:=bnd c
     rcases wyB c with⟨n,c⟩|⟨n,c⟩
     ·obtain⟨r,g,c⟩:=bnd c
      obtain rfl:=si c
      exact tr fol [2,3,6] (kD a (kL b ((6,.i d)::(kZ e d [(21,.bool (!r))])))) (ac (cv (j5 b d f)) (ac (gw n) (ac (cv (qcB N a d g)) az)))
     obtain rfl:=si c
     exact tr fol [2,3] (kD a (kL b ((6,.i d)::(kZ e d [(21,.bool false)])))) (ac (cv (j5 b d f)) (ac (gw n) az))
    refine ihB g3 (fun o g3=>?_) (fun o g3=>?_)
    ·refine sh fol [(4,.i d),(5,.bool true)] ?_
     refine Goes.ret ?_
     obtain rfl:=si g3
     exact Or.inr (⟨rfl,_,rfl,(gw2 [.i d,.bool true] (FzW.tuple (zm.cons (Ua tI) (zm.cons (Ua tB) zm.nil))))⟩)
    refine Goes.skip ?_
    refine gh fol (kD a (kL b (kZ e (w64 (d+1)) []))) ?_
    exact⟨M,(ofG 24 (kD a (kL b (kZ e (w64 (d+1)) []))),[]),Nat.lt_succ_self _,(Sub.refl _),_,_,rfl,g3⟩
   refine Goes.exit ?_
   obtain rfl:=si g3
   exact Or.inl (⟨rfl,rfl,(Sub.keep [] rfl rfl)⟩)
 rintro x s' (⟨rfl,rfl,hsub⟩|⟨rfl,t,rfl,hret⟩)
 ·try dsimp only at h
  refine Goes.sub hsub ?_
  refine sh fol [(4,.i 0),(5,.bool false)] ?_
  refine Goes.ret ?_
  obtain rfl:=si h
  exact(gw2 [.i 0,.bool false] (FzW.tuple (zm.cons (Ua tI) (zm.cons (Ua tB) zm.nil))))
 try dsimp only at h
 obtain rfl:=si h
 exact hret
def cmp_isNaN_int (a:Int):Option Bool:=
 some (!decide (a=a))
theorem yu (a:Int) {res:Bool} (h:cmp_isNaN_int a=some res):qb ZT (.fn 215) [.i a] [] (.bool res) []:=by
 unfold cmp_isNaN_int at h
 refine Ub Tryz.func215 rfl rfl (m:=6) rfl (rs:=[.tmp 2]) rfl (l:=[(0,.i a)]) rfl ?_
 refine sh fol [(0,.i a)] ?_
 refine sh fol [(2,.bool (!decide (a=a)))] ?_
 refine Goes.ret ?_
 obtain rfl:=si h
 exact(gw2 [.bool (!decide (a=a))] (Ua tB))
def cmp_Less_int (a:Int) (y:Int):Option Bool:=
 ((cmp_isNaN_int a).bind fun b=>
 if b=true then
 (cmp_isNaN_int y).bind fun c=>
 if(!c)=true then
 some true
 else
 some (decide (a<y))
 else
 some (decide (a<y)):Option Bool).bind fun d=>
 some d
theorem qeC (c:Int) (y:Int) {res:Bool} (h:cmp_Less_int c y=some res):qb ZT (.fn 173) [.i c,.i y] [] (.bool res) []:=by
 unfold cmp_Less_int at h
 refine Ub Tryz.func173 rfl rfl (m:=17) rfl (rs:=[.tmp 4]) rfl (l:=((0,.i c)::(kAQ y))) rfl ?_
 refine sh fol ((0,.i c)::(kAQ y)) ?_
 refine sq ?_
 obtain⟨g,a,h⟩:=bnd h
 refine Goes.cut (s':=(ofG 17 (kAK g),[])) ?_ ?_
 ·obtain⟨j,b,a⟩:=bnd a
  rcases wyB a with⟨e,a⟩|⟨e,a⟩
  ·obtain⟨k,d,a⟩:=bnd a
   rcases wyB a with⟨f,a⟩|⟨f,a⟩
   ·obtain rfl:=si a
    exact tr fol [1,2,4,7] kAN (ac (cv (yu c b)) (ac (gw e) (ac (cv (yu y d)) (ac (gw f) az))))
   obtain rfl:=si a
   exact tr fol [1,2,4,7] (kAK (decide (c<y))) (ac (cv (yu c b)) (ac (gw e) (ac (cv (yu y d)) (ac (gw f) az))))
  obtain rfl:=si a
  exact tr fol [1,2] (kAK (decide (c<y))) (ac (cv (yu c b)) (ac (gw e) az))
 refine Goes.ret ?_
 obtain rfl:=si h
 exact(gw2 [.bool g] (Ua tB))
def qU (b:List Int):Nat->Int->Option (Unit⊕Bool)
 |0,_=>none
 |K+1,a=>
  if a>0 then
  (idx b a).bind fun c=>
  (idx b (w64 (a-1))).bind fun d=>
  (cmp_Less_int c d).bind fun e=>
  if e=true then
  some (.inr false)
  else
  qU b K (w64 (a-1))
  else
  some (.inl ())
def slices_IsSorted_int (N:Nat) (a:List Int):Option Bool:=
 (qU a N (w64 ((a.length:Int)-1))).bind (fun
 |(.inl ())=>
 some true
 |(.inr b)=>
 some b)
theorem qb8 (N:Nat) (a:List Int) {res:Bool} (h:slices_IsSorted_int N a=some res):qb ZT (.fn 144) [vl encI a] [] (.bool res) []:=by
 unfold slices_IsSorted_int at h
 refine Ub Tryz.func144 rfl rfl (m:=21) rfl (rs:=[.tmp 2]) rfl (l:=(kD a [])) rfl ?_
 refine sh fol (kD a []) ?_
 refine sq ?_
 refine sh fol (kD a (kAU (w64 ((a.length:Int)-1)))) ?_
 refine Goes.block ?_
 obtain⟨f,g2,h⟩:=bnd h
 refine Goes.imp (Q:=fun x s'=>(x= .exit 0/\(.inl ())=f/\Sub s' (ofG 21 [],[]))\/(x= .ret/\ ∃g,(.inr g)=f/\zU ZT [.tmp 2] (.bool g) .ret s')) ?_ ?_
 ·refine Uc (fun M s=> ∃(b:Int),s=(ofG 21 (kD a (kAU b)),[])/\qU a M b=some f) ?_ (m:=N) ⟨_,rfl,g2⟩
  rintro M s ⟨b,rfl,g2⟩
  cases M with
  |zero=>simp only[qU]at g2;cases g2
  |succ M=>
   rw[qU]at g2
   refine sq ?_
   refine sh fol (kD a [(3,.i b),(8,.bool (decide (b>0)))]) ?_
   refine ihD g2 (fun j g2=>?_) (fun j g2=>?_)
   ·refine Goes.skip ?_
    refine sq (Goes.block ?_)
    obtain⟨k,c,g2⟩:=bnd g2
    obtain⟨n,d,g2⟩:=bnd g2
    obtain⟨o,e,g2⟩:=bnd g2
    refine sq (gr fol [2,3,7,8,9] (kD a [(3,.i b),(20,.bool o)]) (ac (iv qbH encI c) (ac (lv 0 ce3 encI c rfl) (ac (iv qbH encI d) (ac (lv 0 ce3 encI d rfl) (ac (cv (qeC k n e)) az))))) ?_)
    refine ihB g2 (fun p g2=>?_) (fun p g2=>?_)
    ·refine sh fol [(2,.bool false)] ?_
     refine Goes.ret ?_
     obtain rfl:=si g2
     exact Or.inr (⟨rfl,_,rfl,(gw2 [.bool false] (Ua tB))⟩)
    refine Goes.skip ?_
    refine gh fol (kD a (kAU (w64 (b-1)))) ?_
    exact⟨M,(ofG 21 (kD a (kAU (w64 (b-1)))),[]),Nat.lt_succ_self _,(Sub.refl _),_,rfl,g2⟩
   refine Goes.exit ?_
   obtain rfl:=si g2
   exact Or.inl (⟨rfl,rfl,(Sub.keep [] rfl rfl)⟩)
 rintro x s' (⟨rfl,rfl,hsub⟩|⟨rfl,q,rfl,hret⟩)
 ·try dsimp only at h
  refine Goes.sub hsub ?_
  refine sh fol [(2,.bool true)] ?_
  refine Goes.ret ?_
  obtain rfl:=si h
  exact(gw2 [.bool true] (Ua tB))
 try dsimp only at h
 obtain rfl:=si h
 exact hret
def jA (N:Nat) (p:List Int):Option Bool:=
 (slices_IsSorted_int N p).bind fun a=>
 some a
theorem yS (N:Nat) (p:List Int) {res:Bool} (h:jA N p=some res):qb ZT (.fn 89) [vl encI p] [] (.bool res) []:=by
 unfold jA at h
 refine Ub Tryz.func89 rfl rfl (m:=5) rfl (rs:=[.tmp 2]) rfl (l:=(kD p [])) rfl ?_
 refine sh fol (kD p []) ?_
 obtain⟨b,a,h⟩:=bnd h
 refine sq (gr fol [1] [(2,.bool b)] (ac (cv (qb8 N p a)) az) ?_)
 refine Goes.ret ?_
 obtain rfl:=si h
 exact(gw2 [.bool b] (Ua tB))
def zz (b:List Int) (c:List Int):Nat->Int->Option (Unit⊕Bool)
 |0,_=>none
 |K+1,a=>
  if a<(b.length:Int)then
  (idx b a).bind fun d=>
  (idx c a).bind fun e=>
  if(!decide (d=e))=true then
  some (.inr false)
  else
  zz b c K (w64 (a+1))
  else
  some (.inl ())
def slices_Equal_int (N:Nat) (a:List Int) (b:List Int):Option Bool:=
 if(!decide ((a.length:Int)=(b.length:Int)))=true then
 some false
 else
 (zz a b N 0).bind (fun
 |(.inl ())=>
 some true
 |(.inr c)=>
 some c)
theorem qaI (N:Nat) (a:List Int) (b:List Int) {res:Bool} (h:slices_Equal_int N a b=some res):qb ZT (.fn 90) (kAH a b) [] (.bool res) []:=by
 unfold slices_Equal_int at h
 refine Ub Tryz.func90 rfl rfl (m:=26) rfl (rs:=[.tmp 4]) rfl (l:=(kD a (kL b []))) rfl ?_
 refine sh fol (kD a (kL b [])) ?_
 refine sq ?_
 refine sh fol (kD a (kL b [(10,.bool (!decide ((a.length:Int)=(b.length:Int))))])) ?_
 refine ihB h (fun j h=>?_) (fun j h=>?_)
 ·refine sh fol kY ?_
  refine Goes.ret ?_
  obtain rfl:=si h
  exact(gw2 [.bool false] (Ua tB))
 refine Goes.skip ?_
 refine sq ?_
 refine sh fol (kD a (kL b [(12,.i (a.length:Int)),(13,.i 0)])) ?_
 refine Goes.block ?_
 obtain⟨f,g3,h⟩:=bnd h
 refine Goes.imp (Q:=fun x s'=>(x= .exit 0/\(.inl ())=f/\Sub s' (ofG 26 [],[]))\/(x= .ret/\ ∃g,(.inr g)=f/\zU ZT [.tmp 4] (.bool g) .ret s')) ?_ ?_
 ·refine Uc (fun M s=> ∃(c:Int),s=(ofG 26 (kD a (kL b (kAO (a.length:Int) c []))),[])/\zz a b M c=some f) ?_ (m:=N) ⟨_,rfl,g3⟩
  rintro M s ⟨c,rfl,g3⟩
  cases M with
  |zero=>simp only[zz]at g3;cases g3
  |succ M=>
   rw[zz]at g3
   refine sh fol (kD a (kL b (kAO (a.length:Int) c [(14,.bool (decide (c<(a.length:Int))))]))) ?_
   refine sq ?_
   refine ihD g3 (fun k g3=>?_) (fun k g3=>?_)
   ·refine Goes.skip ?_
    refine sq (Goes.block ?_)
    refine sh fol (kD a (kL b ((5,.i c)::(kAO (a.length:Int) c [])))) ?_
    obtain⟨n,d,g3⟩:=bnd g3
    obtain⟨o,e,g3⟩:=bnd g3
    refine sq (gr fol [2,3,6,7] (kD a (kL b (kAO (a.length:Int) c [(24,.bool (!decide (n=o)))]))) (ac (iv qbH encI d) (ac (lv 0 ce3 encI d rfl) (ac (iv qbH encI e) (ac (lv 0 ce3 encI e rfl) az)))) ?_)
    refine ihB g3 (fun p g3=>?_) (fun p g3=>?_)
    ·refine sh fol kY ?_
     refine Goes.ret ?_
     obtain rfl:=si g3
     exact Or.inr (⟨rfl,_,rfl,(gw2 [.bool false] (Ua tB))⟩)
    refine Goes.skip ?_
    refine gh fol (kD a (kL b (kAO (a.length:Int) (w64 (c+1)) []))) ?_
    exact⟨M,(ofG 26 (kD a (kL b (kAO (a.length:Int) (w64 (c+1)) []))),[]),Nat.lt_succ_self _,(Sub.refl _),_,rfl,g3⟩
   refine Goes.exit ?_
   obtain rfl:=si g3
   exact Or.inl (⟨rfl,rfl,(Sub.keep [] rfl rfl)⟩)
 rintro x s' (⟨rfl,rfl,hsub⟩|⟨rfl,q,rfl,hret⟩)
 ·try dsimp only at h
  refine Goes.sub hsub ?_
  refine sh fol kAN ?_
  refine Goes.ret ?_
  obtain rfl:=si h
  exact(gw2 [.bool true] (Ua tB))
 try dsimp only at h
 obtain rfl:=si h
 exact hret
def qD (N:Nat) (a:List (List Int)):Nat->(List (List Int))->Int->Option (List (List Int))
 |0,_,_=>none
 |K+1,c,b=>
  if b<(a.length:Int)then
  (idx a b).bind fun d=>
  (jH N d).bind fun e=>
  (app 24 c [e]).bind fun f=>
  qD N a K f (w64 (b+1))
  else
  some c
def zX (N:Nat) (a:List (List Int)):Option (List (List Int)):=
 (qD N a N ([]:List (List Int)) 0).bind fun b=>
 some b
theorem qbc (N:Nat) (a:List (List Int)) {o:List (List Int)} (h:zX N a=some o):qb ZT (.fn 85) [.gslice 0 a.length 1,.func (.func 86) [] []] [.cells (a.flatMap (qa encI).c)] (.gslice 1 o.length 1) [.cells (a.flatMap (qa encI).c),.cells (o.flatMap (qa encI).c)]:=by
 unfold zX at h
 refine Uk Tryz.func85 rfl rfl (m:=22) rfl (rs:=[.tmp 4]) rfl (l:=(kX a [(1,.func (.func 86) [] [])])) rfl ?_
 intro B hB
 refine sh fol (kX a [(1,.func (.func 86) [] [])]) ?_
 refine sh fol (kX a [(1,.func (.func 86) [] []),(5,.nilslice)]) ?_
 refine sq ?_
 refine sh fol ((1,.func (.func 86) [] [])::(5,.nilslice)::(kAP a [(9,.i (a.length:Int)),(10,.i 0)])) ?_
 refine Goes.block ?_
 obtain⟨q,g5,h⟩:=bnd h
 refine Goes.imp (Q:=fun x s'=>(x= .exit 0/\ ∃g,g=q/\Sub s' (ofG 22 [(5,.gslice 1 g.length 1)],[.cells (a.flatMap (qa encI).c),.cells (g.flatMap (qa encI).c)]))) ?_ ?_
 ·refine Goes.sub (s':=(ofG 22 ((1,.func (.func 86) [] [])::(5,.gslice 1 ([]:List (List Int)).length 1)::(kAP a [(9,.i (a.length:Int)),(10,.i 0)])),[.cells (a.flatMap (qa encI).c),.cells (([]:List (List Int)).flatMap (qa encI).c)])) (Sub.norm [] [some 0,none] (by rw[hB];rfl) rfl (.keep (.same (qj.func sn sn)) (.keep .nil (.keep (.gslice rfl) (.keep (.same nI) (.keep (.same nI) .nil))))) (.ks (.fresh .nil))) ?_
  refine Uc (fun M s=> ∃(d:List (List Int)) (b:Int),s=(ofG 22 ((1,.func (.func 86) [] [])::(5,.gslice 1 d.length 1)::(kAP a (kZ (a.length:Int) b []))),[.cells (a.flatMap (qa encI).c),.cells (d.flatMap (qa encI).c)])/\qD N a M d b=some q) ?_ (m:=N) ⟨_,_,rfl,g5⟩
  rintro M s ⟨d,b,rfl,g5⟩
  cases M with
  |zero=>simp only[qD]at g5;cases g5
  |succ M=>
   rw[qD]at g5
   refine sh fol ((1,.func (.func 86) [] [])::(5,.gslice 1 d.length 1)::(kAP a (kZ (a.length:Int) b [(11,.bool (decide (b<(a.length:Int))))]))) ?_
   refine sq ?_
   refine ihD g5 (fun r g5=>?_) (fun r g5=>?_)
   ·refine Goes.skip ?_
    refine sq (Goes.block ?_)
    obtain⟨p,e,g5⟩:=bnd g5
    refine sq (gr fol [0,1] ((1,.func (.func 86) [] [])::(5,.gslice 1 d.length 1)::(7,vl encI p)::(kAP a (kZ (a.length:Int) b []))) (ac (hs (.done (.opt (qc ZT 122 (.gslice 0 a.length 1) (.i b))) (.ptr 0 ((b:Int).toNat*1+0))) (xA qcF e)) (ac (hs (.run [0] (jY ZT 74 (.ptr 0 ((b:Int).toNat*1+0))) [.cells (a.flatMap (qa encI).c),.cells (d.flatMap (qa encI).c)] (vl encI p) [.cells (a.flatMap (qa encI).c),.cells (d.flatMap (qa encI).c)] false) (qdu qln (E:=(qa encI)) (l:=a) rfl rfl e (nl rfl) rfl)) az)) ?_)
    obtain⟨n,j,g5⟩:=bnd g5
    obtain⟨f,k,g5⟩:=bnd g5
    refine gq fol [3,5] ((1,.func (.func 86) [] [])::(5,.gslice 3 f.length 1)::(kAP a (kZ (a.length:Int) b []))) (.cells (a.flatMap (qa encI).c):: .dead::(kAS n [.cells (f.flatMap (qa encI).c)])) (ac (cv (qbG N p j)) (ac (hs (.run [1,2] (zq ZT [122,122] (.gslice 1 d.length 1) (.slice 2 0 1 1 1)) (.cells (a.flatMap (qa encI).c):: .cells (d.flatMap (qa encI).c)::(kAS n [])) (.gslice 3 f.length 1) (.cells (a.flatMap (qa encI).c):: .dead::(kAS n [.cells (f.flatMap (qa encI).c)])) true) (yU qcF (E:=(qa encI)) rfl (qc7 (E:=(qa encI)) (ys:=[n]) rfl rfl rfl rfl) (qdA (E:=(qa encI)) (l:=d) rfl rfl rfl k rfl))) az)) ?_
    refine gh fol ((1,.func (.func 86) [] [])::(5,.gslice 3 f.length 1)::(kAP a (kZ (a.length:Int) (w64 (b+1)) []))) ?_
    exact⟨M,(ofG 22 ((1,.func (.func 86) [] [])::(5,.gslice 1 f.length 1)::(kAP a (kZ (a.length:Int) (w64 (b+1)) []))),[.cells (a.flatMap (qa encI).c),.cells (f.flatMap (qa encI).c)]),Nat.lt_succ_self _,(Sub.norm [] [some 0,some 3] (by rw[hB];rfl) rfl (.keep (.same (qj.func sn sn)) (.keep (.gslice rfl) (.keep (.gslice rfl) (.keep (.same nI) (.keep (.same nI) .nil))))) (.ks (.ks .nil))),_,_,rfl,g5⟩
   refine Goes.exit ?_
   obtain rfl:=si g5
   exact⟨rfl,_,rfl,(Sub.keep [5] rfl rfl)⟩
 rintro x s' ⟨rfl,g,rfl,hsub⟩
 refine Goes.sub hsub ?_
 refine sh fol [(4,.gslice 1 g.length 1)] ?_
 refine Goes.ret ?_
 obtain rfl:=si h
 exact(gh2 [.gslice 1 g.length 1] (qbe.refl _ _))
def vz (N:Nat) (a:Int) (b:List (List Int)):Option ((List (List Int))×Bool):=
 (idx b a).bind fun g=>
 (idx b (w64 (a+1))).bind fun h=>
 (jD N g h).bind fun d=>
 ((if d.2=true then
 (ja N g d.1).bind fun i=>
 (qM h d.1).bind fun e=>
 (put b a i).bind fun c=>
 (idx c (w64 (a+1))).bind fun j=>
 (put c (w64 (a+1)) e).bind fun f=>
 some f
 else
 some b:Option (List (List Int)))).bind fun k=>
 some (k,d.2)
theorem qcX (N:Nat) (b:Int) (a:List (List Int)) {w:List (List Int)} {z:Bool} (h:vz N b a=some (w,z)):qb ZT (.fn 143) [.i b,.ptr 0 0] (kK a [.cells (a.flatMap (qa encI).c)]) (.bool z) (kK w [.cells (w.flatMap (qa encI).c)]):=by
 unfold vz at h
 refine Uk Tryz.func143 rfl rfl (m:=41) rfl (rs:=[.tmp 3]) rfl (l:=[(0,.i b),(1,.ptr 0 0)]) rfl ?_
 intro B hB
 refine sh fol [(0,.i b),(1,.ptr 0 0)] ?_
 obtain⟨t,d,h⟩:=bnd h
 obtain⟨u,e,h⟩:=bnd h
 obtain⟨f,q,h⟩:=bnd h
 refine sq (gr fol [2,3,7,8,9] [(0,.i b),(1,.ptr 0 0),(4,.i f.1),(5,.bool f.2)] (ac (hs (.done (.opt (qc ZT 122 (.gslice 1 a.length 1) (.i b))) (.ptr 1 ((b:Int).toNat*1+0))) (xA qcF d)) (ac (hs (.run [1] (jY ZT 74 (.ptr 1 ((b:Int).toNat*1+0))) (kK a [.cells (a.flatMap (qa encI).c)]) (vl encI t) (kK a [.cells (a.flatMap (qa encI).c)]) false) (qdu qln (E:=(qa encI)) (l:=a) rfl rfl d (nl rfl) rfl)) (ac (hs (.done (.opt (qc ZT 122 (.gslice 1 a.length 1) (.i (w64 (b+1))))) (.ptr 1 ((w64 (b+1):Int).toNat*1+0))) (xA qcF e)) (ac (hs (.run [1] (jY ZT 74 (.ptr 1 ((w64 (b+1):Int).toNat*1+0))) (kK a [.cells (a.flatMap (qa encI).c)]) (vl encI u) (kK a [.cells (a.flatMap (qa encI).c)]) false) (qdu qln (E:=(qa encI)) (l:=a) rfl rfl e (nl rfl) rfl)) (ac (cv (qbv N t u q)) az))))) ?_)
 refine sq ?_
 refine sh fol [(0,.i b),(1,.ptr 0 0),(4,.i f.1),(5,.bool f.2),(19,.bool f.2)] ?_
 obtain⟨C,g7,h⟩:=bnd h
 refine Goes.imp (Q:=fun x s'=>(x= .normal/\ ∃v,v=C/\Sub s' (ofG 41 [(5,.bool f.2)],(kK v [.cells (v.flatMap (qa encI).c)])))) ?_ ?_
 ·refine ihB g7 (fun D g7=>?_) (fun D g7=>?_)
  ·obtain⟨A,r,g7⟩:=bnd g7
   obtain⟨s,n,g7⟩:=bnd g7
   obtain⟨o,g,g7⟩:=bnd g7
   obtain⟨F,p,g7⟩:=bnd g7
   obtain⟨j,k,g7⟩:=bnd g7
   refine gq fol [7,8,10,14,15,17,18,19,20,21] [(5,.bool f.2)] (kK a [.cells (j.flatMap (qa encI).c)]) (ac (hs (.done (.opt (qc ZT 122 (.gslice 1 a.length 1) (.i b))) (.ptr 1 ((b:Int).toNat*1+0))) (xA qcF d)) (ac (hs (.run [1] (jY ZT 74 (.ptr 1 ((b:Int).toNat*1+0))) (kK a [.cells (a.flatMap (qa encI).c)]) (vl encI t) (kK a [.cells (a.flatMap (qa encI).c)]) false) (qdu qln (E:=(qa encI)) (l:=a) rfl rfl d (nl rfl) rfl)) (ac (cv (xZ N t f.1 r)) (ac (hs (.done (.opt (qc ZT 122 (.gslice 1 a.length 1) (.i (w64 (b+1))))) (.ptr 1 ((w64 (b+1):Int).toNat*1+0))) (xA qcF e)) (ac (hs (.run [1] (jY ZT 74 (.ptr 1 ((w64 (b+1):Int).toNat*1+0))) (kK a [.cells (a.flatMap (qa encI).c)]) (vl encI u) (kK a [.cells (a.flatMap (qa encI).c)]) false) (qdu qln (E:=(qa encI)) (l:=a) rfl rfl e (nl rfl) rfl)) (ac (cv (jQ u f.1 n)) (ac (hs (.done (.opt (qc ZT 122 (.gslice 1 a.length 1) (.i b))) (.ptr 1 ((b:Int).toNat*1+0))) (xA qcF d)) (ac (hs (.run [1] (yc ZT 74 (.ptr 1 ((b:Int).toNat*1+0)) (vl encI A)) (kK a [.cells (a.flatMap (qa encI).c)]) .undef (kK a [.cells (o.flatMap (qa encI).c)]) true) (qaG (E:=(qa encI)) (l:=a) (y:=A) rfl (show _=some 1 by kernel_rfl) rfl d rfl rfl rfl rfl rfl g rfl)) (ac (hs (.done (.opt (qc ZT 122 (.gslice 1 a.length 1) (.i (w64 (b+1))))) (.ptr 1 ((w64 (b+1):Int).toNat*1+0))) (xA qcF e)) (ac (hs (.run [1] (yc ZT 74 (.ptr 1 ((w64 (b+1):Int).toNat*1+0)) (vl encI s)) (kK a [.cells (o.flatMap (qa encI).c)]) .undef (kK a [.cells (j.flatMap (qa encI).c)]) true) (qaG (E:=(qa encI)) (l:=o) (y:=s) rfl (show _=some 1 by kernel_rfl) rfl p rfl rfl rfl rfl rfl k rfl)) az)))))))))) ?_
   obtain rfl:=si g7
   exact⟨rfl,_,rfl,((show Sub (ofG 41 [(5,.bool f.2)],(kK a [.cells (j.flatMap (qa encI).c)])) (ofG 41 [(5,.bool f.2)],(kK j [.cells (j.flatMap (qa encI).c)]))from(Sub.norm [] [some 0,some 1] (by rw[hB];rfl) rfl (.keep (.same nB) .nil) (.kb rfl (.cells (rc (.gsliceE rfl ((yg g).trans (yg k))) rn)) (.ks .nil)))).trans (Sub.refl _))⟩
  refine Goes.skip ?_
  obtain rfl:=si g7
  exact⟨rfl,_,rfl,(Sub.keep [5] rfl rfl)⟩
 rintro x s' ⟨rfl,v,rfl,hsub⟩
 refine Goes.sub hsub ?_
 refine sh fol [(3,.bool f.2)] ?_
 refine Goes.ret ?_
 simp only[ZI,ZP]at h
 obtain⟨rfl,rfl⟩:=h
 exact(gh2 [.bool f.2] (qbe.refl _ _))
def jy (N:Nat) (e:Int):Nat->(List (List Int))->Bool->Option ((List (List Int))×Bool)
 |0,_,_=>none
 |K+1,b,c=>
  (vz N e b).bind fun(a,d)=>
  ((if b.length=a.length then some ()else none:Option Unit)).bind fun f=>
  if d=true then
  jy N e K a true
  else
  some (a,c)
def jC (N:Nat):Nat->(List (List Int))->Int->Option (List (List Int))
 |0,_,_=>none
 |K+1,c,a=>
  if(w64 (a+1))<(c.length:Int)then
  (((jy N a N c false).bind fun(b,d)=>
  (if d=true then
  some (decide (a>0))
  else
  some false:Option Bool).bind fun e=>
  if e=true then
  some (b,w64 (a-1))
  else
  some (b,w64 (a+1)):Option ((List (List Int))×Int))).bind fun(f,g)=>
  jC N K f g
  else
  some c
def xE (N:Nat) (a:List (List Int)):Option (List (List Int)):=
 (jC N N a 0).bind fun b=>
 some b
theorem qen (N:Nat) (f:List (List Int)) {C:List (List Int)} (h:xE N f=some C):qb ZT (.fn 88) [.gslice 0 f.length 1] [.cells (f.flatMap (qa encI).c)] (.tuple []) [.cells (C.flatMap (qa encI).c)]:=by
 unfold xE at h
 refine Uk Tryz.func88 rfl rfl (m:=23) rfl (rs:=[]) rfl (l:=(kX f [])) rfl ?_
 intro B hB
 refine Goes.subQ ?_
 refine sg fol (kAI []) (.cells (f.flatMap (qa encI).c)::(kO f)) ?_
 refine Goes.scope ?_
 refine sh fol (kAI [(2,.func (.func 143) [] [.ptr 1 0])]) ?_
 refine sq (Goes.label ?_)
 refine sh fol (kAI [(2,.func (.func 143) [] [.ptr 1 0]),(3,.i 0)]) ?_
 refine Goes.block ?_
 obtain⟨D,g5,h⟩:=bnd h
 refine Goes.imp (Q:=fun x s'=>(x= .exit 0/\ ∃v,v=D/\Sub s' (ofG 23 [],[.cells (v.flatMap (qa encI).c)]))) ?_ ?_
 ·refine Uc (fun M s=> ∃(r:List (List Int)) (b:Int),s=(ofG 23 (kAI ((2,.func (.func 143) [] [.ptr 1 0])::(kAU b))),(.cells (r.flatMap (qa encI).c)::(kO r)))/\jC N M r b=some D) ?_ (m:=N) ⟨_,_,rfl,g5⟩
  rintro M s ⟨r,b,rfl,g5⟩
  cases M with
  |zero=>simp only[jC]at g5;cases g5
  |succ M=>
   rw[jC]at g5
   refine sq ?_
   refine sh fol (kAI [(2,.func (.func 143) [] [.ptr 1 0]),(3,.i b),(10,.bool (decide ((w64 (b+1))<(r.length:Int))))]) ?_
   refine ihD g5 (fun E g5=>?_) (fun E g5=>?_)
   ·refine Goes.skip ?_
    obtain⟨F,g9,g5⟩:=bnd g5
    refine Goes.imp (Q:=fun x s'=>(x= .normal/\ ∃q u,(q,u)=F/\Sub s' (ofG 23 (kAI ((2,.func (.func 143) [] [.ptr 1 0])::(kAU u))),(.cells (q.flatMap (qa encI).c)::(kO q))))) ?_ ?_
    ·refine Goes.block ?_
     refine sh fol (kAI ((2,.func (.func 143) [] [.ptr 1 0])::(3,.i b)::kY)) ?_
     refine sq (Goes.block ?_)
     obtain⟨t,g14,g9⟩:=bnd g9
     refine Goes.imp (Q:=fun x s'=>(x= .exit 2/\ ∃g n,(g,n)=t/\Sub s' (ofG 23 (kAI ((2,.func (.func 143) [] [.ptr 1 0])::(3,.i b)::(kAK n))),(.cells (g.flatMap (qa encI).c)::(kO g))))) ?_ ?_
     ·refine Uc (fun M s=> ∃(e:List (List Int)) (j:Bool),s=(ofG 23 (kAI ((2,.func (.func 143) [] [.ptr 1 0])::(3,.i b)::(kAK j))),(.cells (e.flatMap (qa encI).c)::(kO e)))/\jy N b M e j=some t) ?_ (m:=N) ⟨_,_,rfl,g14⟩
      rintro M s ⟨e,j,rfl,g14⟩
      cases M with
      |zero=>simp only[jy]at g14;cases g14
      |succ M=>
       rw[jy]at g14
       refine sq ?_
       obtain⟨⟨d,k⟩,o,g14⟩:=bnd g14
       try dsimp only at g14
       obtain⟨G,w,g14⟩:=bnd g14
       refine sq (gq fol [2] (kAI [(2,.func (.func 143) [] [.ptr 1 0]),(3,.i b),(4,.bool j),(13,.bool k)]) (.cells (d.flatMap (qa encI).c)::(kO d)) (ac (hs (.callH 143 [.i b,.ptr 1 0] (.cells (e.flatMap (qa encI).c)::(kO e)) [1,0] (.bool k) (.cells (d.flatMap (qa encI).c)::(kO d))) (yP [some 1,some 0] [some 1,some 0] (qcX N b e o) (.kb rfl (.cells (rc (.gslice rfl) rn)) (.ks .nil)) rfl rfl (.back rfl rfl (.same fa) rfl (.back rfl rfl (.cells (rc (.gslice rfl) rn)) rfl .nil)) (rc (.same nI) (rc (.ptr rfl) rn)) (.same nB) rfl)) az) ?_)
       refine Goes.sub (show Sub (ofG 23 (kAI [(2,.func (.func 143) [] [.ptr 1 0]),(3,.i b),(4,.bool j),(13,.bool k)]),(.cells (d.flatMap (qa encI).c)::(kO d))) (ofG 23 (kAI [(2,.func (.func 143) [] [.ptr 1 0]),(3,.i b),(4,.bool j),(13,.bool k)]),(.cells (d.flatMap (qa encI).c)::(kO d)))from(Sub.norm [] [some 0,some 1] (by rw[hB];rfl) rfl (.kp (.keep (.funcL (sn) (rc (.ptr rfl) rn)) (.keep (.same nI) (.keep (.same nB) (.keep (.same nB) .nil))))) (.ks (.kb rfl (.cells (rc (.gslice rfl) rn)) .nil)))) ?_
       refine ihB g14 (fun y g14=>?_) (fun y g14=>?_)
       ·refine Goes.skip ?_
        refine Goes.block ?_
        refine gh fol (kAI ((2,.func (.func 143) [] [.ptr 1 0])::(3,.i b)::kAN)) ?_
        exact⟨M,(ofG 23 (kAI ((2,.func (.func 143) [] [.ptr 1 0])::(3,.i b)::kAN)),(.cells (d.flatMap (qa encI).c)::(kO d))),Nat.lt_succ_self _,(Sub.refl _),_,_,rfl,g14⟩
       refine Goes.exit ?_
       obtain rfl:=si g14
       exact⟨rfl,_,_,rfl,(Sub.keep [1,2,3,4] rfl rfl)⟩
     rintro x s' ⟨rfl,g,n,rfl,hsub⟩
     try dsimp only at g9
     refine Goes.sub hsub ?_
     refine sq ?_
     refine sq ?_
     obtain⟨z,a,g9⟩:=bnd g9
     refine Goes.cut (s':=(ofG 23 (kAI [(2,.func (.func 143) [] [.ptr 1 0]),(3,.i b),(18,.bool z)]),(.cells (g.flatMap (qa encI).c)::(kO g)))) ?_ ?_
     ·rcases wyB a with⟨p,a⟩|⟨p,a⟩
      ·obtain rfl:=si a
       exact tr fol [1] (kAI [(2,.func (.func 143) [] [.ptr 1 0]),(3,.i b),(18,.bool (decide (b>0)))]) (ac (gw p) az)
      obtain rfl:=si a
      exact tr fol [1] (kAI [(2,.func (.func 143) [] [.ptr 1 0]),(3,.i b),(18,.bool false)]) (ac (gw p) az)
     refine ihB g9 (fun A g9=>?_) (fun A g9=>?_)
     ·refine sh fol (kAI ((2,.func (.func 143) [] [.ptr 1 0])::(kAU (w64 (b-1))))) ?_
      refine Goes.exit ?_
      obtain rfl:=si g9
      exact⟨rfl,_,_,rfl,(Sub.refl _)⟩
     refine Goes.skip ?_
     refine gh fol (kAI ((2,.func (.func 143) [] [.ptr 1 0])::(kAU (w64 (b+1))))) ?_
     obtain rfl:=si g9
     exact⟨rfl,_,_,rfl,(Sub.refl _)⟩
    rintro x s' ⟨rfl,q,u,rfl,hsub⟩
    try dsimp only at g5
    exact⟨M,(ofG 23 (kAI ((2,.func (.func 143) [] [.ptr 1 0])::(kAU u))),(.cells (q.flatMap (qa encI).c)::(kO q))),Nat.lt_succ_self _,(hsub.trans (Sub.refl _)),_,_,rfl,g5⟩
   refine Goes.exit ?_
   obtain rfl:=si g5
   exact⟨rfl,_,rfl,(Sub.norm [] [some 0] (by rw[hB];rfl) rfl .nil (.ks .nil))⟩
 rintro x s' ⟨rfl,v,rfl,hsub⟩
 obtain rfl:=si h
 exact⟨_,hsub,(gh2 [] (qbe.refl _ _))⟩
def jV (N:Nat) (n:Int) (w:List Int):Nat->Int->(List (List Int))->Int->Option (Int×(List (List Int)))
 |0,_,_,_=>none
 |K+1,c,d,e=>
  if e<(w.length:Int)then
  (((idx w e).bind fun a=>
  (vg a).bind fun b=>
  if a>0 then
  (jO N n).bind fun f=>
  (qM f (w64 (b-1))).bind fun g=>
  (app 24 d [g]).bind fun h=>
  some (c,h)
  else
  (zX N d).bind fun i=>
  (xk N n).bind fun j=>
  (ja N j (w64 (b-1))).bind fun k=>
  (app 24 i [k]).bind fun l=>
  some (w64 (c-1),l):Option (Int×(List (List Int))))).bind fun(o,m)=>
  jV N n w K o m (w64 (e+1))
  else
  some (c,d)
def jW (N:Nat) (n:Int) (c:List (List Int)):Nat->Int->(List (List Int))->Int->Option (Int×(List (List Int)))
 |0,_,_,_=>none
 |K+1,a,b,d=>
  if d<(c.length:Int)then
  (((idx c d).bind fun e=>
  (jA N e).bind fun f=>
  if f=true then
  some (a,b)
  else
  (xk N n).bind fun g=>
  (slices_Equal_int N e g).bind fun h=>
  if h=true then
  some (w64 (a+1),b)
  else
  (app 24 b [e]).bind fun i=>
  some (a,i):Option (Int×(List (List Int))))).bind fun(j,k)=>
  jW N n c K j k (w64 (d+1))
  else
  some (a,b)
def yC (N:Nat) (n:Int) (w:List Int):Option jf:=
 if n=1 then
 some (⟨0,[]⟩:jf)
 else
 (jV N n w N 0 ([]:List (List Int)) 0).bind fun(e,d)=>
 (xE N d).bind fun a=>
 ((if d.length=a.length then some ()else none:Option Unit)).bind fun f=>
 (jW N n a N e ([]:List (List Int)) 0).bind fun(b,c)=>
 some (⟨b,c⟩:jf)
theorem qaD (N:Nat) (n:Int) (w:List Int) {res:jf} (h:yC N n w=some res):qb ZT (.fn 35) [.i n,vl encI w] [] (.agg [.i res.Half,vl (qa encI) res.Factors]) []:=by
 unfold yC at h
 refine Ub Tryz.func35 rfl rfl (m:=74) rfl (rs:=[.cell 4 30]) rfl (l:=(kB n w [])) rfl ?_
 refine sg fol (kB n w [(4,.ptr 0 0)]) [bZ] ?_
 refine sg fol (kB n w [(4,.ptr 0 0),(5,.ptr 1 0)]) [bZ,bZ] ?_
 refine sq ?_
 refine sh fol (kB n w [(4,.ptr 0 0),(5,.ptr 1 0),(13,.bool (decide (n=1)))]) ?_
 refine ihD h (fun c1 h=>?_) (fun c1 h=>?_)
 ·refine sh fol [(4,.ptr 0 0)] ?_
  refine Goes.ret ?_
  obtain rfl:=si h
  exact(gw2 [.agg [.i 0,.nilslice]] (FzW.agg (zm.cons (Ua tI) (zm.cons (FzW.nilv (E:=(qa encI))) zm.nil))))
 refine Goes.skip ?_
 refine sh fol (kB n w [(4,.ptr 0 0),(5,.ptr 1 0),(6,.nilslice)]) ?_
 refine sq ?_
 refine sh fol (kE n [(6,.nilslice),(15,vl encI w),(16,.i (w.length:Int)),(17,.i 0)]) ?_
 refine Goes.block ?_
 obtain⟨r7,g7,h⟩:=bnd h
 refine Goes.imp (Q:=fun x s'=>(x= .exit 0/\ ∃C D,(C,D)=r7/\Sub s' (ofG 74 (kE n (kV D [])),(kI C [.cells (D.flatMap (qa encI).c)])))) ?_ ?_
 ·refine Goes.sub (s':=(ofG 74 (kE n [(6,.gslice 2 ([]:List (List Int)).length 1),(15,vl encI w),(16,.i (w.length:Int)),(17,.i 0)]),[bZ,bZ,.cells (([]:List (List Int)).flatMap (qa encI).c)])) (Sub.norm [] [some 0,some 1,none] rfl rfl (.keep (.same nI) (.kp (.kp (.keep .nil (.keep (.same (qf encI _)) (.keep (.same nI) (.keep (.same nI) .nil))))))) (.kb rfl (.same sn) (.kb rfl (.same sn) (.fresh .nil)))) ?_
  refine Uc (fun M s=> ∃(k:Int) (f:List (List Int)) (q:Int),s=(ofG 74 (kE n (kV f (kQ w (w.length:Int) q []))),(kI k [.cells (f.flatMap (qa encI).c)]))/\jV N n w M k f q=some r7) ?_ (m:=N) ⟨_,_,_,rfl,g7⟩
  rintro M s ⟨k,f,q,rfl,g7⟩
  cases M with
  |zero=>simp only[jV]at g7;cases g7
  |succ M=>
   rw[jV]at g7
   refine sh fol (kE n (kV f (kQ w (w.length:Int) q [(18,.bool (decide (q<(w.length:Int))))]))) ?_
   refine sq ?_
   refine ihD g7 (fun c8 g7=>?_) (fun c8 g7=>?_)
   ·refine Goes.skip ?_
    refine sq ?_
    obtain⟨r11,g11,g7⟩:=bnd g7
    refine Goes.imp (Q:=fun x s'=>(x= .normal/\ ∃n9 r,(n9,r)=r11/\Sub s' (ofG 74 (kE n (kV r (kQ w (w.length:Int) q []))),(kI n9 [.cells (r.flatMap (qa encI).c)])))) ?_ ?_
    ·refine Goes.block ?_
     obtain⟨F,z,g11⟩:=bnd g11
     refine sq (gr fol [0,1] (kE n (kV f ((8,.i F)::(kQ w (w.length:Int) q [])))) (ac (iv jF encI z) (ac (lv 0 ce3 encI z rfl) az)) ?_)
     obtain⟨t,K,g11⟩:=bnd g11
     refine sq (gr fol [1] (kE n (kV f ((8,.i F)::(9,.i (w64 (t-1)))::(kQ w (w.length:Int) q [])))) (ac (cv (xw F K)) az) ?_)
     refine sq ?_
     refine sh fol (kE n (kV f ((9,.i (w64 (t-1)))::(kQ w (w.length:Int) q [(25,.bool (decide (F>0)))])))) ?_
     refine ihD g11 (fun c14 g11=>?_) (fun c14 g11=>?_)
     ·obtain⟨e,L,g11⟩:=bnd g11
      obtain⟨u,O,g11⟩:=bnd g11
      obtain⟨o,P,g11⟩:=bnd g11
      refine sq (gq fol [2,4,6] (kE n ((6,.gslice 5 o.length 1)::(kQ w (w.length:Int) q []))) (kI k (.dead:: .frozen (e.flatMap encI.c)::(kAS u [.cells (o.flatMap (qa encI).c)]))) (ac (hs (.callH 83 [.i n] (kI k [.cells (f.flatMap (qa encI).c)]) [] (.slice 3 0 e.length e.length 1) (kI k (.cells (f.flatMap (qa encI).c)::(kA e)))) (yP [] [none,none,none,some 0] (qaw N n L) .nil rfl rfl (.old rfl rfl (.old rfl rfl (.old rfl rfl (.new rfl rfl (.same fa) rfl .nil)))) (rc (.same nI) rn) (.slice rfl) rfl)) (ac (hs (.callF 84 [.slice 3 0 e.length e.length 1,.i (w64 (t-1))] (kI k (.cells (f.flatMap (qa encI).c)::(kA e))) [3] (kAR e (w64 (t-1))) (vl encI u)) (qja (FzL.cons (Fz.sl (E:=encI) rfl rfl (nl rfl)) (FzL.cons (Ul tI) FzL.nil)) (jQ e (w64 (t-1)) O) (zw encI _ (nl rfl)))) (ac (hs (.run [2,4] (zq ZT [122,122] (.gslice 2 f.length 1) (.slice 4 0 1 1 1)) (kI k (.cells (f.flatMap (qa encI).c):: .frozen (e.flatMap encI.c)::(kAS u []))) (.gslice 5 o.length 1) (kI k (.dead:: .frozen (e.flatMap encI.c)::(kAS u [.cells (o.flatMap (qa encI).c)]))) true) (yU qcF (E:=(qa encI)) rfl (qc7 (E:=(qa encI)) (ys:=[u]) rfl rfl rfl rfl) (qdA (E:=(qa encI)) (l:=f) rfl rfl rfl P rfl))) az))) ?_)
      refine Goes.sub (show Sub (ofG 74 (kE n ((6,.gslice 5 o.length 1)::(kQ w (w.length:Int) q []))),(kI k (.dead:: .frozen (e.flatMap encI.c)::(kAS u [.cells (o.flatMap (qa encI).c)])))) (ofG 74 (kE n (kV o (kQ w (w.length:Int) q []))),(kI k [.cells (o.flatMap (qa encI).c)]))from(Sub.norm [] [some 0,some 1,some 5] rfl rfl (.keep (.same nI) (.kp (.kp (.keep (.gslice rfl) (.keep (.same (qf encI _)) (.keep (.same nI) (.keep (.same nI) .nil))))))) (.kb rfl (.same sn) (.kb rfl (.same sn) (.ks .nil))))) ?_
      refine Goes.exit ?_
      obtain rfl:=si g11
      exact⟨rfl,_,_,rfl,(Sub.refl _)⟩
     refine Goes.skip ?_
     refine sg fol (kE n (kV f ((9,.i (w64 (t-1)))::(kQ w (w.length:Int) q [])))) (kI (w64 (k-1)) [.cells (f.flatMap (qa encI).c)]) ?_
     obtain⟨A,T,g11⟩:=bnd g11
     obtain⟨r21,U,g11⟩:=bnd g11
     obtain⟨G,V,g11⟩:=bnd g11
     obtain⟨H,W,g11⟩:=bnd g11
     refine gq fol [1,3,5,7] (kE n ((6,.gslice 5 H.length 1)::(kQ w (w.length:Int) q []))) (kI (w64 (k-1)) (.cells (f.flatMap (qa encI).c):: .dead::(kAS G [.cells (H.flatMap (qa encI).c)]))) (ac (hs (.callH 85 [.gslice 2 f.length 1,.func (.func 86) [] []] (kI (w64 (k-1)) [.cells (f.flatMap (qa encI).c)]) [2] (.gslice 3 A.length 1) (kI (w64 (k-1)) [.cells (f.flatMap (qa encI).c),.cells (A.flatMap (qa encI).c)])) (yP [some 2] [none,none,some 0,some 1] (qbc N f T) (.ks .nil) rfl rfl (.old rfl rfl (.old rfl rfl (.back rfl rfl (.same fa) rfl (.new rfl rfl (.same fa) rfl .nil)))) (rc (.gslice rfl) (rc (.same (qj.func sn sn)) rn)) (.gslice rfl) rfl)) (ac (cv (qao N n U)) (ac (cv (xZ N r21 (w64 (t-1)) V)) (ac (hs (.run [3,4] (zq ZT [122,122] (.gslice 3 A.length 1) (.slice 4 0 1 1 1)) (kI (w64 (k-1)) (.cells (f.flatMap (qa encI).c):: .cells (A.flatMap (qa encI).c)::(kAS G []))) (.gslice 5 H.length 1) (kI (w64 (k-1)) (.cells (f.flatMap (qa encI).c):: .dead::(kAS G [.cells (H.flatMap (qa encI).c)]))) true) (yU qcF (E:=(qa encI)) rfl (qc7 (E:=(qa encI)) (ys:=[G]) rfl rfl rfl rfl) (qdA (E:=(qa encI)) (l:=A) rfl rfl rfl W rfl))) az)))) ?_
     obtain rfl:=si g11
     exact⟨rfl,_,_,rfl,(Sub.norm [] [some 0,some 1,some 5] rfl rfl (.keep (.same nI) (.kp (.kp (.keep (.gslice rfl) (.keep (.same (qf encI _)) (.keep (.same nI) (.keep (.same nI) .nil))))))) (.kb rfl (.same sn) (.kb rfl (.same sn) (.ks .nil))))⟩
    rintro x s' ⟨rfl,n9,r,rfl,hsub⟩
    try dsimp only at g7
    refine Goes.sub hsub ?_
    refine gh fol (kE n (kV r (kQ w (w.length:Int) (w64 (q+1)) []))) ?_
    exact⟨M,(ofG 74 (kE n (kV r (kQ w (w.length:Int) (w64 (q+1)) []))),(kI n9 [.cells (r.flatMap (qa encI).c)])),Nat.lt_succ_self _,(Sub.refl _),_,_,_,rfl,g7⟩
   refine Goes.exit ?_
   obtain rfl:=si g7
   exact⟨rfl,_,_,rfl,(Sub.keep [0,4,5,6] rfl rfl)⟩
 rintro x s' ⟨rfl,C,D,rfl,hsub⟩
 try dsimp only at h
 refine Goes.sub hsub ?_
 obtain⟨a,X,h⟩:=bnd h
 obtain⟨u26,Y,h⟩:=bnd h
 refine sq (gq fol [1] (kE n (kV D [])) (kI C [.cells (a.flatMap (qa encI).c)]) (ac (hs (.callH 88 [.gslice 2 D.length 1] (kI C [.cells (D.flatMap (qa encI).c)]) [2] (.tuple []) (kI C [.cells (a.flatMap (qa encI).c)])) (yP [some 2] [none,none,some 0] (qen N D X) (.ks .nil) rfl rfl (.old rfl rfl (.old rfl rfl (.back rfl rfl (.same fa) rfl .nil))) (rc (.gslice rfl) rn) (.same (qj.tuple sn)) rfl)) az) ?_)
 refine Goes.sub (show Sub (ofG 74 (kE n (kV D [])),(kI C [.cells (a.flatMap (qa encI).c)])) (ofG 74 (kE n (kV a [])),(kI C [.cells (a.flatMap (qa encI).c)]))from(Sub.norm [] [some 0,some 1,some 2] rfl rfl (.keep (.same nI) (.kp (.kp (.keep (.gsliceE rfl (qgW Y)) .nil)))) (.kb rfl (.same sn) (.kb rfl (.same sn) (.ks .nil))))) ?_
 refine sq ?_
 refine sh fol (kE n [(48,.gslice 2 a.length 1),(49,.i (a.length:Int)),(50,.i 0)]) ?_
 refine Goes.block ?_
 obtain⟨a3,g32,h⟩:=bnd h
 refine Goes.imp (Q:=fun x s'=>(x= .exit 2/\ ∃v p,(v,p)=a3/\Sub s' (ofG 74 [(4,.ptr 0 0),(5,.ptr 1 0)],(bZ::(kU v p [.cells (p.flatMap (qa encI).c)]))))) ?_ ?_
 ·refine Goes.sub (s':=(ofG 74 (kE n [(48,.gslice 3 a.length 1),(49,.i (a.length:Int)),(50,.i 0)]),[bZ,.cells [.i C,.gslice 2 ([]:List (List Int)).length 1],.cells (([]:List (List Int)).flatMap (qa encI).c),.cells (a.flatMap (qa encI).c)])) (Sub.norm [] [some 0,some 1,none,some 2] rfl rfl (.keep (.same nI) (.kp (.kp (.keep (.gslice rfl) (.keep (.same nI) (.keep (.same nI) .nil)))))) (.kb rfl (.same sn) (.kb rfl (.cells (rc (.same nI) (rc (.nil) rn))) (.fresh (.ks .nil))))) ?_
  refine Uc (fun M s=> ∃(j:Int) (d:List (List Int)) (b:Int),s=(ofG 74 (kE n (kN a (a.length:Int) b [])),(bZ::(kU j d [.cells (d.flatMap (qa encI).c),.cells (a.flatMap (qa encI).c)])))/\jW N n a M j d b=some a3) ?_ (m:=N) ⟨_,_,_,rfl,g32⟩
  rintro M s ⟨j,d,b,rfl,g32⟩
  cases M with
  |zero=>simp only[jW]at g32;cases g32
  |succ M=>
   rw[jW]at g32
   refine sh fol (kE n (kN a (a.length:Int) b [(51,.bool (decide (b<(a.length:Int))))])) ?_
   refine sq ?_
   refine ihD g32 (fun c33 g32=>?_) (fun c33 g32=>?_)
   ·refine Goes.skip ?_
    refine sq ?_
    obtain⟨r36,g36,g32⟩:=bnd g32
    refine Goes.imp (Q:=fun x s'=>(x= .normal/\ ∃I y,(I,y)=r36/\Sub s' (ofG 74 (kE n (kN a (a.length:Int) b [])),(bZ::(kU I y [.cells (y.flatMap (qa encI).c),.cells (a.flatMap (qa encI).c)]))))) ?_ ?_
    ·refine Goes.block ?_
     obtain⟨g,B,g36⟩:=bnd g36
     refine sq (gr fol [0,1] (kE n ((11,vl encI g)::(kN a (a.length:Int) b []))) (ac (hs (.done (.opt (qc ZT 122 (.gslice 3 a.length 1) (.i b))) (.ptr 3 ((b:Int).toNat*1+0))) (xA qcF B)) (ac (hs (.run [3] (jY ZT 74 (.ptr 3 ((b:Int).toNat*1+0))) (bZ::(kU j d [.cells (d.flatMap (qa encI).c),.cells (a.flatMap (qa encI).c)])) (vl encI g) (bZ::(kU j d [.cells (d.flatMap (qa encI).c),.cells (a.flatMap (qa encI).c)])) false) (qdu qln (E:=(qa encI)) (l:=a) rfl rfl B (nl rfl) rfl)) az)) ?_)
     refine Goes.block ?_
     obtain⟨r38,Z,g36⟩:=bnd g36
     refine sq (gr fol [1] (kE n ((11,vl encI g)::(kN a (a.length:Int) b [(60,.bool r38)]))) (ac (cv (yS N g Z)) az) ?_)
     refine ihB g36 (fun c39 g36=>?_) (fun c39 g36=>?_)
     ·refine Goes.skip ?_
      obtain rfl:=si g36
      exact⟨rfl,_,_,rfl,(Sub.keep [0,4,5,48,49,50] rfl rfl)⟩
     obtain⟨r40,a0,g36⟩:=bnd g36
     obtain⟨r41,a1,g36⟩:=bnd g36
     refine sq (gr fol [2,3] (kE n ((11,vl encI g)::(kN a (a.length:Int) b [(63,.bool r41)]))) (ac (cv (qao N n a0)) (ac (cv (qaI N g r40 a1)) az)) ?_)
     refine ihB g36 (fun c42 g36=>?_) (fun c42 g36=>?_)
     ·refine Goes.rg fol (kE n (kN a (a.length:Int) b [])) (bZ::(kU (w64 (j+1)) d [.cells (d.flatMap (qa encI).c),.cells (a.flatMap (qa encI).c)])) ?_
      obtain rfl:=si g36
      exact⟨rfl,_,_,rfl,(Sub.refl _)⟩
     obtain⟨J,a2,g36⟩:=bnd g36
     refine gq fol [4] (kE n (kN a (a.length:Int) b [])) (bZ:: .cells [.i j,.gslice 5 J.length 1]:: .dead:: .cells (a.flatMap (qa encI).c)::(kAS g [.cells (J.flatMap (qa encI).c)])) (ac (hs (.run [2,4] (zq ZT [28,28] (.gslice 2 d.length 1) (.slice 4 0 1 1 1)) (bZ::(kU j d (.cells (d.flatMap (qa encI).c):: .cells (a.flatMap (qa encI).c)::(kAS g [])))) (.gslice 5 J.length 1) (bZ::(kU j d (.dead:: .cells (a.flatMap (qa encI).c)::(kAS g [.cells (J.flatMap (qa encI).c)])))) true) (yU qb6 (E:=(qa encI)) rfl (qc7 (E:=(qa encI)) (ys:=[g]) rfl rfl rfl rfl) (qdA (E:=(qa encI)) (l:=d) rfl rfl rfl a2 rfl))) az) ?_
     obtain rfl:=si g36
     exact⟨rfl,_,_,rfl,(Sub.norm [] [some 0,some 1,some 5,some 3] rfl rfl (.keep (.same nI) (.kp (.kp (.keep (.gslice rfl) (.keep (.same nI) (.keep (.same nI) .nil)))))) (.kb rfl (.same sn) (.kb rfl (.cells (rc (.same nI) (rc (.gslice rfl) rn))) (.ks (.ks .nil)))))⟩
    rintro x s' ⟨rfl,I,y,rfl,hsub⟩
    try dsimp only at g32
    refine Goes.sub hsub ?_
    refine gh fol (kE n (kN a (a.length:Int) (w64 (b+1)) [])) ?_
    exact⟨M,(ofG 74 (kE n (kN a (a.length:Int) (w64 (b+1)) [])),(bZ::(kU I y [.cells (y.flatMap (qa encI).c),.cells (a.flatMap (qa encI).c)]))),Nat.lt_succ_self _,(Sub.refl _),_,_,_,rfl,g32⟩
   refine Goes.exit ?_
   obtain rfl:=si g32
   exact⟨rfl,_,_,rfl,(Sub.norm [] [some 0,some 1,some 2] rfl rfl (.drop (.kp (.kp .nil))) (.kb rfl (.same sn) (.kb rfl (.cells (rc (.same nI) (rc (.gslice rfl) rn))) (.ks .nil))))⟩
 rintro x s' ⟨rfl,v,p,rfl,hsub⟩
 try dsimp only at h
 refine Goes.sub hsub ?_
 refine sg fol [(4,.ptr 0 0)] (kU v p (kU v p [.cells (p.flatMap (qa encI).c)])) ?_
 refine Goes.ret ?_
 obtain rfl:=si h
 exact(gw2 [.agg [.i v,.gslice 2 p.length 1]] (FzW.agg (zm.cons (Ua tI) (zm.cons (Uo (Fz.gs (E:=(qa encI)) rfl rfl (nl rfl))) zm.nil))))
def kr (b:List Int) (c:List Int):Nat->Int->Option (Unit⊕Bool)
 |0,_=>none
 |K+1,a=>
  if a<(b.length:Int)then
  (idx b a).bind fun d=>
  (idx c a).bind fun e=>
  if(!decide (d=e))=true then
  some (.inr false)
  else
  kr b c K (w64 (a+1))
  else
  some (.inl ())
def vH (N:Nat) (a:List Int) (b:List Int):Option Bool:=
 if(!decide ((a.length:Int)=(b.length:Int)))=true then
 some false
 else
 (kr a b N 0).bind (fun
 |(.inl ())=>
 some true
 |(.inr c)=>
 some c)
theorem qcf (N:Nat) (a:List Int) (b:List Int) {res:Bool} (h:vH N a b=some res):qb ZT (.fn 76) (kAH a b) [] (.bool res) []:=by
 unfold vH at h
 refine Ub Tryz.func76 rfl rfl (m:=26) rfl (rs:=[.tmp 4]) rfl (l:=(kD a (kL b []))) rfl ?_
 refine sh fol (kD a (kL b [])) ?_
 refine sq ?_
 refine sh fol (kD a (kL b [(10,.bool (!decide ((a.length:Int)=(b.length:Int))))])) ?_
 refine ihB h (fun j h=>?_) (fun j h=>?_)
 ·refine sh fol kY ?_
  refine Goes.ret ?_
  obtain rfl:=si h
  exact(gw2 [.bool false] (Ua tB))
 refine Goes.skip ?_
 refine sq ?_
 refine sh fol (kD a (kL b [(12,.i (a.length:Int)),(13,.i 0)])) ?_
 refine Goes.block ?_
 obtain⟨f,g3,h⟩:=bnd h
 refine Goes.imp (Q:=fun x s'=>(x= .exit 0/\(.inl ())=f/\Sub s' (ofG 26 [],[]))\/(x= .ret/\ ∃g,(.inr g)=f/\zU ZT [.tmp 4] (.bool g) .ret s')) ?_ ?_
 ·refine Uc (fun M s=> ∃(c:Int),s=(ofG 26 (kD a (kL b (kAO (a.length:Int) c []))),[])/\kr a b M c=some f) ?_ (m:=N) ⟨_,rfl,g3⟩
  rintro M s ⟨c,rfl,g3⟩
  cases M with
  |zero=>simp only[kr]at g3;cases g3
  |succ M=>
   rw[kr]at g3
   refine sh fol (kD a (kL b (kAO (a.length:Int) c [(14,.bool (decide (c<(a.length:Int))))]))) ?_
   refine sq ?_
   refine ihD g3 (fun k g3=>?_) (fun k g3=>?_)
   ·refine Goes.skip ?_
    refine sq (Goes.block ?_)
    refine sh fol (kD a (kL b ((5,.i c)::(kAO (a.length:Int) c [])))) ?_
    obtain⟨n,d,g3⟩:=bnd g3
    obtain⟨o,e,g3⟩:=bnd g3
    refine sq (gr fol [2,3,6,7] (kD a (kL b (kAO (a.length:Int) c [(24,.bool (!decide (n=o)))]))) (ac (iv jF encI d) (ac (lv 0 ce3 encI d rfl) (ac (iv jF encI e) (ac (lv 0 ce3 encI e rfl) az)))) ?_)
    refine ihB g3 (fun p g3=>?_) (fun p g3=>?_)
    ·refine sh fol kY ?_
     refine Goes.ret ?_
     obtain rfl:=si g3
     exact Or.inr (⟨rfl,_,rfl,(gw2 [.bool false] (Ua tB))⟩)
    refine Goes.skip ?_
    refine gh fol (kD a (kL b (kAO (a.length:Int) (w64 (c+1)) []))) ?_
    exact⟨M,(ofG 26 (kD a (kL b (kAO (a.length:Int) (w64 (c+1)) []))),[]),Nat.lt_succ_self _,(Sub.refl _),_,rfl,g3⟩
   refine Goes.exit ?_
   obtain rfl:=si g3
   exact Or.inl (⟨rfl,rfl,(Sub.keep [] rfl rfl)⟩)
 rintro x s' (⟨rfl,rfl,hsub⟩|⟨rfl,q,rfl,hret⟩)
 ·try dsimp only at h
  refine Goes.sub hsub ?_
  refine sh fol kAN ?_
  refine Goes.ret ?_
  obtain rfl:=si h
  exact(gw2 [.bool true] (Ua tB))
 try dsimp only at h
 obtain rfl:=si h
 exact hret
def qz (N:Nat) (a:List (List Int)) (b:List (List Int)):Nat->Int->Option (Unit⊕Bool)
 |0,_=>none
 |K+1,c=>
  if c<(a.length:Int)then
  (idx a c).bind fun d=>
  (idx b c).bind fun e=>
  (vH N d e).bind fun f=>
  if(!f)=true then
  some (.inr false)
  else
  qz N a b K (w64 (c+1))
  else
  some (.inl ())
def zS (N:Nat) (a:List (List Int)) (b:List (List Int)):Option Bool:=
 if(!decide ((a.length:Int)=(b.length:Int)))=true then
 some false
 else
 (qz N a b N 0).bind (fun
 |(.inl ())=>
 some true
 |(.inr c)=>
 some c)
theorem qa5 (N:Nat) (a:List (List Int)) (b:List (List Int)) {res:Bool} (h:zS N a b=some res):qb ZT (.fn 131) [vl (qa encI) a,vl (qa encI) b,.func (.func 76) [] []] [] (.bool res) []:=by
 unfold zS at h
 refine Ub Tryz.func131 rfl rfl (m:=32) rfl (rs:=[.tmp 6]) rfl (l:=[(0,vl (qa encI) a),(1,vl (qa encI) b),(2,.func (.func 76) [] [])]) rfl ?_
 refine sh fol [(0,vl (qa encI) a),(1,vl (qa encI) b),(2,.func (.func 76) [] [])] ?_
 refine sq ?_
 refine sh fol [(0,vl (qa encI) a),(1,vl (qa encI) b),(2,.func (.func 76) [] []),(14,.bool (!decide ((a.length:Int)=(b.length:Int))))] ?_
 refine ihB h (fun o h=>?_) (fun o h=>?_)
 ·refine sh fol [(6,.bool false)] ?_
  refine Goes.ret ?_
  obtain rfl:=si h
  exact(gw2 [.bool false] (Ua tB))
 refine Goes.skip ?_
 refine sq ?_
 refine sh fol [(1,vl (qa encI) b),(2,.func (.func 76) [] []),(15,vl (qa encI) a),(16,.i (a.length:Int)),(17,.i 0)] ?_
 refine Goes.block ?_
 obtain⟨g,g3,h⟩:=bnd h
 refine Goes.imp (Q:=fun x s'=>(x= .exit 0/\(.inl ())=g/\Sub s' (ofG 32 [],[]))\/(x= .ret/\ ∃k,(.inr k)=g/\zU ZT [.tmp 6] (.bool k) .ret s')) ?_ ?_
 ·refine Uc (fun M s=> ∃(c:Int),s=(ofG 32 [(1,vl (qa encI) b),(2,.func (.func 76) [] []),(15,vl (qa encI) a),(16,.i (a.length:Int)),(17,.i c)],[])/\qz N a b M c=some g) ?_ (m:=N) ⟨_,rfl,g3⟩
  rintro M s ⟨c,rfl,g3⟩
  cases M with
  |zero=>simp only[qz]at g3;cases g3
  |succ M=>
   rw[qz]at g3
   refine sh fol [(1,vl (qa encI) b),(2,.func (.func 76) [] []),(15,vl (qa encI) a),(16,.i (a.length:Int)),(17,.i c),(18,.bool (decide (c<(a.length:Int))))] ?_
   refine sq ?_
   refine ihD g3 (fun p g3=>?_) (fun p g3=>?_)
   ·refine Goes.skip ?_
    refine sq (Goes.block ?_)
    obtain⟨j,d,g3⟩:=bnd g3
    refine sq (gr fol [1,2] [(1,vl (qa encI) b),(2,.func (.func 76) [] []),(7,.i c),(8,vl encI j),(15,vl (qa encI) a),(16,.i (a.length:Int)),(17,.i c)] (ac (iv qb6 (qa encI) d) (ac (lv 0 qed (qa encI) d rfl) az)) ?_)
    obtain⟨n,e,g3⟩:=bnd g3
    refine sq (gr fol [2,3] [(1,vl (qa encI) b),(2,.func (.func 76) [] []),(8,vl encI j),(9,vl encI n),(15,vl (qa encI) a),(16,.i (a.length:Int)),(17,.i c)] (ac (iv qb6 (qa encI) e) (ac (lv 0 qed (qa encI) e rfl) az)) ?_)
    obtain⟨q,f,g3⟩:=bnd g3
    refine sq (gr fol [3] [(1,vl (qa encI) b),(2,.func (.func 76) [] []),(15,vl (qa encI) a),(16,.i (a.length:Int)),(17,.i c),(30,.bool (!q))] (ac (cv (qcf N j n f)) az) ?_)
    refine ihB g3 (fun r g3=>?_) (fun r g3=>?_)
    ·refine sh fol [(6,.bool false)] ?_
     refine Goes.ret ?_
     obtain rfl:=si g3
     exact Or.inr (⟨rfl,_,rfl,(gw2 [.bool false] (Ua tB))⟩)
    refine Goes.skip ?_
    refine gh fol [(1,vl (qa encI) b),(2,.func (.func 76) [] []),(15,vl (qa encI) a),(16,.i (a.length:Int)),(17,.i (w64 (c+1)))] ?_
    exact⟨M,(ofG 32 [(1,vl (qa encI) b),(2,.func (.func 76) [] []),(15,vl (qa encI) a),(16,.i (a.length:Int)),(17,.i (w64 (c+1)))],[]),Nat.lt_succ_self _,(Sub.refl _),_,rfl,g3⟩
   refine Goes.exit ?_
   obtain rfl:=si g3
   exact Or.inl (⟨rfl,rfl,(Sub.keep [] rfl rfl)⟩)
 rintro x s' (⟨rfl,rfl,hsub⟩|⟨rfl,t,rfl,hret⟩)
 ·try dsimp only at h
  refine Goes.sub hsub ?_
  refine sh fol [(6,.bool true)] ?_
  refine Goes.ret ?_
  obtain rfl:=si h
  exact(gw2 [.bool true] (Ua tB))
 try dsimp only at h
 obtain rfl:=si h
 exact hret
def yH (N:Nat) (f:jf) (g:jf):Option Bool:=
 (if f.Half=g.Half then
 (zS N f.Factors g.Factors).bind fun a=>
 some a
 else
 some false:Option Bool).bind fun b=>
 some b
theorem qdl (N:Nat) (f:jf) (g:jf) {res:Bool} (h:yH N f g=some res):qb ZT (.fn 79) [.agg [.i f.Half,vl (qa encI) f.Factors],.agg [.i g.Half,vl (qa encI) g.Factors]] [] (.bool res) []:=by
 unfold yH at h
 refine Ub Tryz.func79 rfl rfl (m:=17) rfl (rs:=[.tmp 4]) rfl (l:=[(0,.agg [.i f.Half,vl (qa encI) f.Factors]),(1,.agg [.i g.Half,vl (qa encI) g.Factors])]) rfl ?_
 refine sg fol [(2,.ptr 0 0),(3,.ptr 1 0)] [.cells [.i f.Half,vl (qa encI) f.Factors],.cells [.i g.Half,vl (qa encI) g.Factors]] ?_
 refine sq ?_
 obtain⟨d,a,h⟩:=bnd h
 refine Goes.cut (s':=(ofG 17 (kAK d),[.cells [.i f.Half,vl (qa encI) f.Factors],.cells [.i g.Half,vl (qa encI) g.Factors]])) ?_ ?_
 ·rcases wyD a with⟨c,a⟩|⟨c,a⟩
  ·obtain⟨e,b,a⟩:=bnd a
   obtain rfl:=si a
   exact tr fol [5,10] (kAK e) (ac (gw c) (ac (hs (.call 131 [vl (qa encI) f.Factors,vl (qa encI) g.Factors,.func (.func 76) [] []] [] [] [vl (qa encI) f.Factors,vl (qa encI) g.Factors,.func (.func 76) [] []] (.bool e)) (qjG (FzL.cons (Ul (zw (qa encI) _ (nl rfl))) (FzL.cons (Ul (zw (qa encI) _ (nl rfl))) (FzL.cons (Fz.func FzL.nil FzL.nil) FzL.nil))) (qa5 N f.Factors g.Factors b) tB)) az))
  obtain rfl:=si a
  exact tr fol [5] kY (ac (gw c) az)
 refine Goes.ret ?_
 obtain rfl:=si h
 exact(gw2 [.bool d] (Ua tB))
def qax (N:Nat) (n:Int) (a:List Int) (b:List Int):Option Bool:=
 (yC N n a).bind fun c=>
 (yC N n b).bind fun d=>
 (yH N c d).bind fun e=>
 some e
theorem qfE (N:Nat) (n:Int) (a:List Int) (b:List Int) {res:Bool} (h:qax N n a b=some res):qb ZT (.fn 33) (.i n::(kAH a b)) [] (.bool res) []:=by
 unfold qax at h
 refine Ub Tryz.func33 rfl rfl (m:=14) rfl (rs:=[.tmp 6]) rfl (l:=(kB n a (kAT b []))) rfl ?_
 refine sh fol (kB n a (kAT b [])) ?_
 obtain⟨g,c,h⟩:=bnd h
 obtain⟨j,d,h⟩:=bnd h
 obtain⟨f,e,h⟩:=bnd h
 refine sq (gr fol [2,5,6] [(6,.bool f)] (ac (cv (qaD N n a c)) (ac (cv (qaD N n b d)) (ac (cv (qdl N g j e)) az))) ?_)
 refine Goes.ret ?_
 obtain rfl:=si h
 exact(gw2 [.bool f] (Ua tB))
def yA (N:Nat) (n:Int) (a:List Int) (b:List Int):Option (Bool×Int):=
 (jT N n a b).bind fun c=>
 if(!decide (c=0))=true then
 some (false,c)
 else
 (qax N n a b).bind fun d=>
 some (d,0)
theorem qcj (N:Nat) (n:Int) (a:List Int) (b:List Int) {res:Bool×Int} (h:yA N n a b=some res):qb ZT (.fn 6) (.i n::(kAH a b)) [] (.tuple [.bool res.1,.i res.2]) []:=by
 unfold yA at h
 refine Ub Tryz.func6 rfl rfl (m:=20) rfl (rs:=[.tmp 6,.tmp 7]) rfl (l:=(kB n a (kAT b []))) rfl ?_
 refine sh fol (kB n a (kAT b [])) ?_
 refine sq ?_
 obtain⟨c,d,h⟩:=bnd h
 refine sq (gr fol [3] (kB n a (kAT b [(8,.i c)])) (ac (cv (qaY N n a b d)) az) ?_)
 refine sh fol (kB n a (kAT b [(8,.i c),(14,.bool (!decide (c=0)))])) ?_
 refine ihB h (fun g h=>?_) (fun g h=>?_)
 ·refine sh fol ((6,.bool false)::(kAW c)) ?_
  refine Goes.ret ?_
  obtain rfl:=si h
  exact(gw2 [.bool false,.i c] (FzW.tuple (zm.cons (Ua tB) (zm.cons (Ua tI) zm.nil))))
 refine Goes.skip ?_
 obtain⟨f,e,h⟩:=bnd h
 refine sq (gr fol [3] [(6,.bool f),(7,.i 0)] (ac (cv (qfE N n a b e)) az) ?_)
 refine Goes.ret ?_
 obtain rfl:=si h
 exact(gw2 [.bool f,.i 0] (FzW.tuple (zm.cons (Ua tB) (zm.cons (Ua tI) zm.nil))))
def vR (N:Nat) (n:Int) (w:List Int):Option (jf×Int):=
 (je N n w).bind fun a=>
 if(!decide (a=0))=true then
 some ((⟨0,[]⟩:jf),a)
 else
 (yC N n w).bind fun b=>
 some (b,0)
theorem qcd (N:Nat) (n:Int) (w:List Int) {res:jf×Int} (h:vR N n w=some res):qb ZT (.fn 7) [.i n,vl encI w] [] (.tuple [.agg [.i res.1.Half,vl (qa encI) res.1.Factors],.i res.2]) []:=by
 unfold vR at h
 refine Ub Tryz.func7 rfl rfl (m:=17) rfl (rs:=[.cell 4 30,.tmp 5]) rfl (l:=(kB n w [])) rfl ?_
 refine sg fol (kB n w [(4,.ptr 0 0)]) [bZ] ?_
 refine sq ?_
 obtain⟨a,b,h⟩:=bnd h
 refine sq (gr fol [2] (kB n w [(4,.ptr 0 0),(6,.i a)]) (ac (cv (yB N n w b)) az) ?_)
 refine sh fol (kB n w [(4,.ptr 0 0),(6,.i a),(11,.bool (!decide (a=0)))]) ?_
 refine ihB h (fun e h=>?_) (fun e h=>?_)
 ·refine sh fol ((4,.ptr 0 0)::(kAM a)) ?_
  refine Goes.ret ?_
  obtain rfl:=si h
  exact(gw2 [.agg [.i 0,.nilslice],.i a] (FzW.tuple (zm.cons (FzW.agg (zm.cons (Ua tI) (zm.cons (FzW.nilv (E:=(qa encI))) zm.nil))) (zm.cons (Ua tI) zm.nil))))
 refine Goes.skip ?_
 obtain⟨d,c,h⟩:=bnd h
 refine sq (gq fol [2] [(4,.ptr 0 0),(5,.i 0)] [.cells [.i d.Half,vl (qa encI) d.Factors]] (ac (cv (qaD N n w c)) az) ?_)
 refine Goes.ret ?_
 obtain rfl:=si h
 exact(gw2 [.agg [.i d.Half,vl (qa encI) d.Factors],.i 0] (FzW.tuple (zm.cons (FzW.agg (zm.cons (Ua tI) (zm.cons (Ua (zw (qa encI) _ (nl rfl))) zm.nil))) (zm.cons (Ua tI) zm.nil))))
def z8 (a:List Int) (b:List Int):Nat->Int->Option (Unit⊕Bool)
 |0,_=>none
 |K+1,c=>
  if c<(a.length:Int)then
  (idx a c).bind fun d=>
  (idx b c).bind fun e=>
  if(!decide (d=e))=true then
  some (.inr false)
  else
  z8 a b K (w64 (c+1))
  else
  some (.inl ())
def vB (N:Nat) (a:List Int) (b:List Int):Option Bool:=
 if(!decide ((a.length:Int)=(b.length:Int)))=true then
 some false
 else
 (z8 a b N 0).bind (fun
 |(.inl ())=>
 some true
 |(.inr c)=>
 some c)
theorem yV (N:Nat) (a:List Int) (b:List Int) {res:Bool} (h:vB N a b=some res):qb ZT (.fn 28) (kAH a b) [] (.bool res) []:=by
 unfold vB at h
 refine Ub Tryz.func28 rfl rfl (m:=26) rfl (rs:=[.tmp 4]) rfl (l:=(kD a (kL b []))) rfl ?_
 refine sh fol (kD a (kL b [])) ?_
 refine sq ?_
 refine sh fol (kD a (kL b [(10,.bool (!decide ((a.length:Int)=(b.length:Int))))])) ?_
 refine ihB h (fun j h=>?_) (fun j h=>?_)
 ·refine sh fol kY ?_
  refine Goes.ret ?_
  obtain rfl:=si h
  exact(gw2 [.bool false] (Ua tB))
 refine Goes.skip ?_
 refine sq ?_
 refine sh fol (kD a (kL b [(5,.i 0)])) ?_
 refine Goes.block ?_
 obtain⟨f,g3,h⟩:=bnd h
 refine Goes.imp (Q:=fun x s'=>(x= .exit 0/\(.inl ())=f/\Sub s' (ofG 26 [],[]))\/(x= .ret/\ ∃g,(.inr g)=f/\zU ZT [.tmp 4] (.bool g) .ret s')) ?_ ?_
 ·refine Uc (fun M s=> ∃(c:Int),s=(ofG 26 (kD a (kL b (kAM c))),[])/\z8 a b M c=some f) ?_ (m:=N) ⟨_,rfl,g3⟩
  rintro M s ⟨c,rfl,g3⟩
  cases M with
  |zero=>simp only[z8]at g3;cases g3
  |succ M=>
   rw[z8]at g3
   refine sq ?_
   refine sh fol (kD a (kL b [(5,.i c),(14,.bool (decide (c<(a.length:Int))))])) ?_
   refine ihD g3 (fun k g3=>?_) (fun k g3=>?_)
   ·refine Goes.skip ?_
    refine sq (Goes.block ?_)
    obtain⟨n,d,g3⟩:=bnd g3
    obtain⟨o,e,g3⟩:=bnd g3
    refine sq (gr fol [2,3,6,7] (kD a (kL b [(5,.i c),(25,.bool (!decide (n=o)))])) (ac (iv jF encI d) (ac (lv 0 ce3 encI d rfl) (ac (iv jF encI e) (ac (lv 0 ce3 encI e rfl) az)))) ?_)
    refine ihB g3 (fun p g3=>?_) (fun p g3=>?_)
    ·refine sh fol kY ?_
     refine Goes.ret ?_
     obtain rfl:=si g3
     exact Or.inr (⟨rfl,_,rfl,(gw2 [.bool false] (Ua tB))⟩)
    refine Goes.skip ?_
    refine gh fol (kD a (kL b (kAM (w64 (c+1))))) ?_
    exact⟨M,(ofG 26 (kD a (kL b (kAM (w64 (c+1))))),[]),Nat.lt_succ_self _,(Sub.refl _),_,rfl,g3⟩
   refine Goes.exit ?_
   obtain rfl:=si g3
   exact Or.inl (⟨rfl,rfl,(Sub.keep [] rfl rfl)⟩)
 rintro x s' (⟨rfl,rfl,hsub⟩|⟨rfl,q,rfl,hret⟩)
 ·try dsimp only at h
  refine Goes.sub hsub ?_
  refine sh fol kAN ?_
  refine Goes.ret ?_
  obtain rfl:=si h
  exact(gw2 [.bool true] (Ua tB))
 try dsimp only at h
 obtain rfl:=si h
 exact hret
def zQ (N:Nat) (a:List (List Int)) (b:List (List Int)):Nat->Int->Option (Unit⊕Bool)
 |0,_=>none
 |K+1,c=>
  if c<(a.length:Int)then
  (idx a c).bind fun d=>
  (idx b c).bind fun e=>
  (vB N d e).bind fun f=>
  if(!f)=true then
  some (.inr false)
  else
  zQ N a b K (w64 (c+1))
  else
  some (.inl ())
def jd (N:Nat) (a:List (List Int)) (b:List (List Int)):Option Bool:=
 if(!decide ((a.length:Int)=(b.length:Int)))=true then
 some false
 else
 (zQ N a b N 0).bind (fun
 |(.inl ())=>
 some true
 |(.inr c)=>
 some c)
theorem vF (N:Nat) (a:List (List Int)) (b:List (List Int)) {res:Bool} (h:jd N a b=some res):qb ZT (.fn 8) [vl (qa encI) a,vl (qa encI) b] [] (.bool res) []:=by
 unfold jd at h
 refine Ub Tryz.func8 rfl rfl (m:=27) rfl (rs:=[.tmp 4]) rfl (l:=[(0,vl (qa encI) a),(1,vl (qa encI) b)]) rfl ?_
 refine sh fol [(0,vl (qa encI) a),(1,vl (qa encI) b)] ?_
 refine sq ?_
 refine sh fol [(0,vl (qa encI) a),(1,vl (qa encI) b),(10,.bool (!decide ((a.length:Int)=(b.length:Int))))] ?_
 refine ihB h (fun k h=>?_) (fun k h=>?_)
 ·refine sh fol kY ?_
  refine Goes.ret ?_
  obtain rfl:=si h
  exact(gw2 [.bool false] (Ua tB))
 refine Goes.skip ?_
 refine sq ?_
 refine sh fol [(0,vl (qa encI) a),(1,vl (qa encI) b),(5,.i 0)] ?_
 refine Goes.block ?_
 obtain⟨g,g3,h⟩:=bnd h
 refine Goes.imp (Q:=fun x s'=>(x= .exit 0/\(.inl ())=g/\Sub s' (ofG 27 [],[]))\/(x= .ret/\ ∃j,(.inr j)=g/\zU ZT [.tmp 4] (.bool j) .ret s')) ?_ ?_
 ·refine Uc (fun M s=> ∃(c:Int),s=(ofG 27 ((0,vl (qa encI) a)::(1,vl (qa encI) b)::(kAM c)),[])/\zQ N a b M c=some g) ?_ (m:=N) ⟨_,rfl,g3⟩
  rintro M s ⟨c,rfl,g3⟩
  cases M with
  |zero=>simp only[zQ]at g3;cases g3
  |succ M=>
   rw[zQ]at g3
   refine sq ?_
   refine sh fol [(0,vl (qa encI) a),(1,vl (qa encI) b),(5,.i c),(14,.bool (decide (c<(a.length:Int))))] ?_
   refine ihD g3 (fun n g3=>?_) (fun n g3=>?_)
   ·refine Goes.skip ?_
    refine sq (Goes.block ?_)
    obtain⟨o,d,g3⟩:=bnd g3
    obtain⟨p,e,g3⟩:=bnd g3
    obtain⟨q,f,g3⟩:=bnd g3
    refine sq (gr fol [2,3,6,7,8] [(0,vl (qa encI) a),(1,vl (qa encI) b),(5,.i c),(26,.bool (!q))] (ac (iv qb6 (qa encI) d) (ac (lv 0 qed (qa encI) d rfl) (ac (iv qb6 (qa encI) e) (ac (lv 0 qed (qa encI) e rfl) (ac (cv (yV N o p f)) az))))) ?_)
    refine ihB g3 (fun r g3=>?_) (fun r g3=>?_)
    ·refine sh fol kY ?_
     refine Goes.ret ?_
     obtain rfl:=si g3
     exact Or.inr (⟨rfl,_,rfl,(gw2 [.bool false] (Ua tB))⟩)
    refine Goes.skip ?_
    refine gh fol ((0,vl (qa encI) a)::(1,vl (qa encI) b)::(kAM (w64 (c+1)))) ?_
    exact⟨M,(ofG 27 ((0,vl (qa encI) a)::(1,vl (qa encI) b)::(kAM (w64 (c+1)))),[]),Nat.lt_succ_self _,(Sub.refl _),_,rfl,g3⟩
   refine Goes.exit ?_
   obtain rfl:=si g3
   exact Or.inl (⟨rfl,rfl,(Sub.keep [] rfl rfl)⟩)
 rintro x s' (⟨rfl,rfl,hsub⟩|⟨rfl,t,rfl,hret⟩)
 ·try dsimp only at h
  refine Goes.sub hsub ?_
  refine sh fol kAN ?_
  refine Goes.ret ?_
  obtain rfl:=si h
  exact(gw2 [.bool true] (Ua tB))
 try dsimp only at h
 obtain rfl:=si h
 exact hret
def jZ (a:List Int) (b:List Int):Option (List Int):=
 (app 8 ([]:List Int) a).bind fun c=>
 (app 8 c b).bind fun d=>
 some d
theorem yG (a:List Int) (b:List Int) {res:List Int} (h:jZ a b=some res):qb ZT (.fn 15) (kAH a b) [] (vl encI res) []:=by
 unfold jZ at h
 refine Ub Tryz.func15 rfl rfl (m:=10) rfl (rs:=[.tmp 4]) rfl (l:=(kD a (kL b []))) rfl ?_
 refine sh fol (kD a (kL b [])) ?_
 obtain⟨c,d,h⟩:=bnd h
 obtain⟨e,f,h⟩:=bnd h
 refine sq (gq fol [2,4] [(4,.oslice 2 e.length 1)] (.dead:: .dead::(kA e)) (ac (hs (.run [0] (zq ZT [22,22] (.slice 0 0 0 0 1) (vl encI a)) [.cells []] (.oslice 1 c.length 1) (.dead::(kA c)) true) (yU jF (E:=encI) rfl (qhX (E:=encI) rfl _) (dst_z (E:=encI) rfl rfl rfl d rfl))) (ac (hs (.run [1] (zq ZT [22,22] (.oslice 1 c.length 1) (vl encI b)) (.dead::(kA c)) (.oslice 2 e.length 1) (.dead:: .dead::(kA e)) true) (yU jF (E:=encI) rfl (qhX (E:=encI) rfl _) (qki (E:=encI) (l:=c) rfl rfl rfl f rfl))) az)) ?_)
 refine Goes.ret ?_
 obtain rfl:=si h
 exact(gw2 [.oslice 2 e.length 1] (Uo (Fz.os (E:=encI) rfl rfl (nl rfl))))
def jw (w:List Int):Nat->(List Int)->Int->Option (List Int)
 |0,_,_=>none
 |K+1,b,a=>
  if a>=0 then
  (idx w a).bind fun c=>
  (app 8 b [w64 (0-c)]).bind fun d=>
  jw w K d (w64 (a-1))
  else
  some b
def vV (N:Nat) (w:List Int):Option (List Int):=
 (jw w N ([]:List Int) (w64 ((w.length:Int)-1))).bind fun a=>
 some a
theorem qaj (N:Nat) (w:List Int) {res:List Int} (h:vV N w=some res):qb ZT (.fn 16) [vl encI w] [] (vl encI res) []:=by
 unfold vV at h
 refine Ub Tryz.func16 rfl rfl (m:=21) rfl (rs:=[.tmp 2]) rfl (l:=(kD w [])) rfl ?_
 refine sh fol (kD w []) ?_
 refine sh fol (kD w [(3,.nilslice)]) ?_
 refine sq ?_
 refine sh fol (kD w ((3,.nilslice)::(kAA (w64 ((w.length:Int)-1))))) ?_
 refine Goes.block ?_
 obtain⟨j,g4,h⟩:=bnd h
 refine Goes.imp (Q:=fun x s'=>(x= .exit 0/\ ∃e,e=j/\Sub s' (ofG 21 (kS e []),(kA e)))) ?_ ?_
 ·refine Goes.sub (s':=(ofG 21 (kD w ((3,.gslice 0 ([]:List Int).length 1)::(kAA (w64 ((w.length:Int)-1))))),kAD)) (Sub.norm [] [none] rfl rfl (.keep (.same (qf encI _)) (.keep .nil (.keep (.same nI) .nil))) (.fresh .nil)) ?_
  refine Uc (fun M s=> ∃(a:List Int) (b:Int),s=(ofG 21 (kD w (kS a (kAA b))),(kA a))/\jw w M a b=some j) ?_ (m:=N) ⟨_,_,rfl,g4⟩
  rintro M s ⟨a,b,rfl,g4⟩
  cases M with
  |zero=>simp only[jw]at g4;cases g4
  |succ M=>
   rw[jw]at g4
   refine sq ?_
   refine sh fol (kD w (kS a [(4,.i b),(9,.bool (decide (b>=0)))])) ?_
   refine ihD g4 (fun k g4=>?_) (fun k g4=>?_)
   ·refine Goes.skip ?_
    refine sq (Goes.block ?_)
    obtain⟨g,c,g4⟩:=bnd g4
    obtain⟨d,f,g4⟩:=bnd g4
    refine gq fol [3,4,7] (kD w ((3,.gslice 2 d.length 1)::(kAA b))) (kAE (w64 (0-g)) (kA d)) (ac (iv jF encI c) (ac (lv 0 ce3 encI c rfl) (ac (hs (.run [0,1] (zq ZT [22,22] (.gslice 0 a.length 1) (.slice 1 0 1 1 1)) (kAF a (w64 (0-g))) (.gslice 2 d.length 1) (kAE (w64 (0-g)) (kA d)) true) (yU jF (E:=encI) rfl (qc7 (E:=encI) (ys:=[w64 (0-g)]) rfl rfl rfl rfl) (qdA (E:=encI) (l:=a) rfl rfl rfl f rfl))) az))) ?_
    refine gh fol (kD w ((3,.gslice 2 d.length 1)::(kAA (w64 (b-1))))) ?_
    exact⟨M,(ofG 21 (kD w (kS d (kAA (w64 (b-1))))),(kA d)),Nat.lt_succ_self _,(Sub.norm [] [some 2] rfl rfl (.keep (.same (qf encI _)) (.keep (.gslice rfl) (.keep (.same nI) .nil))) (.ks .nil)),_,_,rfl,g4⟩
   refine Goes.exit ?_
   obtain rfl:=si g4
   exact⟨rfl,_,rfl,(Sub.keep [3] rfl rfl)⟩
 rintro x s' ⟨rfl,e,rfl,hsub⟩
 refine Goes.sub hsub ?_
 refine sh fol [(2,.gslice 0 e.length 1)] ?_
 refine Goes.ret ?_
 obtain rfl:=si h
 exact(gw2 [.gslice 0 e.length 1] (Uo (Fz.gs (E:=encI) rfl rfl (nl rfl))))
def qa6 (c:Int):Option Int:=
 some (if(w64 (0-c))>c then(w64 (0-c))else c)
theorem qgj (c:Int) {res:Int} (h:qa6 c=some res):qb ZT (.fn 36) [.i c] [] (.i res) []:=by
 unfold qa6 at h
 refine Ub Tryz.func36 rfl rfl (m:=7) rfl (rs:=[.tmp 2]) rfl (l:=[(0,.i c)]) rfl ?_
 refine sh fol [(0,.i c)] ?_
 refine sh fol [(2,.i (if(w64 (0-c))>c then(w64 (0-c))else c))] ?_
 refine Goes.ret ?_
 obtain rfl:=si h
 exact(gw2 [.i (if(w64 (0-c))>c then(w64 (0-c))else c)] (Ua tI))
def zN (a:List Int):Nat->(Option (List Int))->Int->Option (Option (List Int))
 |0,_,_=>none
 |K+1,q,b=>
  if b<(a.length:Int)then
  ((((match q with
  |none=>
  if 0>0 then
  (idx ([]:List Int) (w64 (0-1))).bind fun g=>
  (idx a b).bind fun h=>
  some ((none:Option (List Int)),decide (g=(w64 (0-h))))
  else
  some ((none:Option (List Int)),false)
  |some c=>
  if(c.length:Int)>0 then
  (idx c (w64 ((c.length:Int)-1))).bind fun i=>
  (idx a b).bind fun j=>
  some ((some c),decide (i=(w64 (0-j))))
  else
  some ((some c),false)):Option ((Option (List Int))×Bool)).bind fun(d,k)=>
  if k=true then
  ((match d with
  |none=>
  (cut ([]:List Int) 0 (w64 (0-1))).bind fun r=>
  some (none:Option (List Int))
  |some e=>
  (cut e 0 (w64 ((e.length:Int)-1))).bind fun l=>
  some (some l)):Option (Option (List Int))).bind fun m=>
  some m
  else
  ((idx a b).bind fun f=>
  (match d with
  |none=>
  some ([f]:List Int)
  |some n=>
  (app 8 n [f]).bind fun o=>
  some o):Option (List Int)).bind fun p=>
  some (some p):Option (Option (List Int)))).bind fun s=>
  zN a K s (w64 (b+1))
  else
  some q
def vJ (N:Nat) (a:List Int):Option (List Int):=
 (zN a N (none:Option (List Int)) 0).bind fun b=>
 some (hof b)
theorem qa1 (N:Nat) (b:List Int) {V:List Int} (h:vJ N b=some V):qb ZT (.fn 37) [vl encI b] [] (vl encI V) []:=by
 unfold vJ at h
 refine Uk Tryz.func37 rfl rfl (m:=41) rfl (rs:=[.tmp 2]) rfl (l:=(kD b [])) rfl ?_
 intro B hB
 refine sh fol (kD b []) ?_
 refine sh fol (kD b [(3,.nilslice)]) ?_
 refine sq ?_
 refine sh fol (kD b [(3,.nilslice),(4,.i 0)]) ?_
 refine Goes.block ?_
 obtain⟨W,g5,h⟩:=bnd h
 refine Goes.imp (Q:=fun x s'=>(x= .exit 0/\ ∃G,G=W/\Sub s' (ofG 41 [(3,hsl 0 1 G)],(kJ G)))) ?_ ?_
 ·refine Goes.sub (s':=(ofG 41 (kD b [(3,hsl 0 1 (none:Option (List Int))),(4,.i 0)]),[.cells ((hof (none:Option (List Int))).flatMap encI.c)])) (Sub.norm [] [none] (by rw[hB];rfl) rfl (.keep (.same (qf encI _)) (.keep zh.hs0 (.keep (.same nI) .nil))) (.fresh .nil)) ?_
  refine Uc (fun M s=> ∃(H:Option (List Int)) (f:Int),s=(ofG 41 (kD b ((3,hsl 0 1 H)::(kAA f))),(kJ H))/\zN b M H f=some W) ?_ (m:=N) ⟨_,_,rfl,g5⟩
  rintro M s ⟨H,f,rfl,g5⟩
  cases M with
  |zero=>simp only[zN]at g5;cases g5
  |succ M=>
   unfold zN at g5
   refine sq ?_
   refine sh fol (kD b [(3,hsl 0 1 H),(4,.i f),(8,.bool (decide (f<(b.length:Int))))]) ?_
   refine ihD g5 (fun X g5=>?_) (fun X g5=>?_)
   ·refine Goes.skip ?_
    refine sq ?_
    obtain⟨Y,g8,g5⟩:=bnd g5
    refine Goes.imp (Q:=fun x s'=>(x= .normal/\ ∃y,y=Y/\Sub s' (ofG 41 (kD b ((3,hsl 0 1 y)::(kAA f))),(kJ y)))) ?_ ?_
    ·refine Goes.block ?_
     refine sq ?_
     obtain⟨⟨u,L⟩,a,g8⟩:=bnd g8
     refine Goes.cutS (s':=(ofG 41 (kD b [(3,hsl 0 1 u),(4,.i f),(27,.bool L)]),(kJ u))) ?_ ?_
     ·rcases H with _|k
      ·try dsimp only at a
       rcases wyD a with⟨z,a⟩|⟨z,a⟩
       ·obtain⟨O,n,a⟩:=bnd a
        obtain⟨P,o,a⟩:=bnd a
        simp only[ZI,ZP]at a
        obtain⟨rfl,rfl⟩:=a
        exact zx.sub (zx.rq fol [3,8,9,12,13] (kD b [(3,.nilslice),(4,.i f),(27,.bool (decide (O=(w64 (0-P)))))]) [.cells ((hof (none:Option (List Int))).flatMap encI.c)] (ac (gw z) (ac (hs (.done (.opt (qc ZT 22 (.nilslice) (.i (w64 (0-1))))) (.fptr (([]:List Int).flatMap encI.c) ((w64 (0-1):Int).toNat*1+0))) (qpB n)) (ac (lv 0 ce3 encI n rfl) (ac (iv jF encI o) (ac (lv 0 ce3 encI o rfl) az)))))) (Sub.norm [] [none] (by rw[hB];rfl) rfl (.keep (.same (qf encI _)) (.keep zh.hs0 (.keep (.same nI) (.keep (.same nB) .nil)))) (.fresh .nil))
       simp only[ZI,ZP]at a
       obtain⟨rfl,rfl⟩:=a
       exact zx.sub (zx.rq fol [3] (kD b [(3,.nilslice),(4,.i f),(27,.bool false)]) [.cells ((hof (none:Option (List Int))).flatMap encI.c)] (ac (gw z) az)) (Sub.norm [] [none] (by rw[hB];rfl) rfl (.keep (.same (qf encI _)) (.keep zh.hs0 (.keep (.same nI) (.keep (.same nB) .nil)))) (.fresh .nil))
      try dsimp only at a
      rcases wyD a with⟨A,a⟩|⟨A,a⟩
      ·obtain⟨I,p,a⟩:=bnd a
       obtain⟨T,q,a⟩:=bnd a
       simp only[ZI,ZP]at a
       obtain⟨rfl,rfl⟩:=a
       exact zx.sub (zx.rq fol [3,8,9,12,13] (kD b [(3,.oslice 0 k.length 1),(4,.i f),(27,.bool (decide (I=(w64 (0-T)))))]) (kA k) (ac (gw A) (ac (hs (.done (.opt (qc ZT 22 (.oslice 0 k.length 1) (.i (w64 ((k.length:Int)-1))))) (.ptr 0 ((w64 ((k.length:Int)-1):Int).toNat*1+0))) (ix_os jF p)) (ac (hs (.run [0] (jY ZT 3 (.ptr 0 ((w64 ((k.length:Int)-1):Int).toNat*1+0))) (kA k) (.i I) (kA k) false) (qdu ce3 (E:=encI) (l:=k) rfl rfl p (nl rfl) rfl)) (ac (iv jF encI q) (ac (lv 0 ce3 encI q rfl) az)))))) (Sub.norm [] [some 0] (by rw[hB];rfl) rfl (.keep (.same (qf encI _)) (.keep (zh.hs1 rfl) (.keep (.same nI) (.keep (.same nB) .nil)))) (.ks .nil))
      simp only[ZI,ZP]at a
      obtain⟨rfl,rfl⟩:=a
      exact zx.sub (zx.rq fol [3] (kD b [(3,.oslice 0 k.length 1),(4,.i f),(27,.bool false)]) (kA k) (ac (gw A) az)) (Sub.norm [] [some 0] (by rw[hB];rfl) rfl (.keep (.same (qf encI _)) (.keep (zh.hs1 rfl) (.keep (.same nI) (.keep (.same nB) .nil)))) (.ks .nil))
     intro _ hsub
     try dsimp only at g8
     refine Goes.sub hsub ?_
     refine ihB g8 (fun U g8=>?_) (fun U g8=>?_)
     ·obtain⟨J,d,g8⟩:=bnd g8
      refine Goes.cutS (s':=(ofG 41 (kD b ((3,hsl 0 1 J)::(kAA f))),(kJ J))) ?_ ?_
      ·rcases u with _|v
       ·try dsimp only at d
        obtain⟨Z,C,d⟩:=bnd d
        obtain rfl:=si d
        exact zx.sub (zx.rq fol [4] (kD b ((3,.nilslice)::(kAA f))) [.cells ((hof (none:Option (List Int))).flatMap encI.c)] (ac (hs (.done (.opt (yZ ZT 22 .nilslice none (some (.i (w64 (0-1)))) none)) .nilslice) (qmy (α:=Int) jF none (some (w64 (0-1))) C)) az)) (Sub.norm [] [none] (by rw[hB];rfl) rfl (.keep (.same (qf encI _)) (.keep zh.hs0 (.keep (.same nI) .nil))) (.fresh .nil))
       try dsimp only at d
       obtain⟨r,t,d⟩:=bnd d
       obtain rfl:=si d
       exact zx.sub (zx.rq fol [4] (kD b ((3,.oslice 0 r.length 1)::(kAA f))) (kA v) (ac (hs (.done (.opt (yZ ZT 22 (.oslice 0 v.length 1) none (some (.i (w64 ((v.length:Int)-1)))) none)) (.oslice 0 r.length 1)) (qoU jF t)) az)) ((show Sub (ofG 41 (kD b ((3,.oslice 0 r.length 1)::(kAA f))),(kA v)) (ofG 41 (kD b ((3,.oslice 0 r.length 1)::(kAA f))),(kA r))from(Sub.norm [] [some 0] (by rw[hB];rfl) rfl (.keep (.same (qf encI _)) (.keep (.oslice rfl) (.keep (.same nI) .nil))) (.kb rfl (xV.cut t) .nil))).trans (Sub.norm [] [some 0] (by rw[hB];rfl) rfl (.keep (.same (qf encI _)) (.keep (zh.hs1 rfl) (.keep (.same nI) .nil))) (.ks .nil)))
      intro _ hsub
      obtain rfl:=si g8
      exact⟨rfl,_,rfl,(hsub.trans (Sub.refl _))⟩
     obtain⟨K,e,g8⟩:=bnd g8
     refine Goes.cutS (s':=(ofG 41 (kD b ((3,.oslice 0 K.length 1)::(kAA f))),(kA K))) ?_ ?_
     ·obtain⟨j,g,e⟩:=bnd e
      rcases u with _|D
      ·try dsimp only at e
       obtain rfl:=si e
       exact zx.sub (zx.rq fol [3,4] (kD b ((3,.oslice 2 1 1)::(kAA f))) [.cells ((hof (none:Option (List Int))).flatMap encI.c),.cells [.i j],.cells [.i j]] (ac (iv jF encI g) (ac (lv 0 ce3 encI g rfl) az))) (Sub.norm [] [some 2] (by rw[hB];rfl) rfl (.keep (.same (qf encI _)) (.keep (zh.osliceE rfl rfl) (.keep (.same nI) .nil))) (.ks .nil))
      try dsimp only at e
      obtain⟨w,F,e⟩:=bnd e
      obtain rfl:=si e
      exact zx.sub (zx.rq fol [3,4,6] (kD b ((3,.oslice 2 w.length 1)::(kAA f))) (kAE j (kA w)) (ac (iv jF encI g) (ac (lv 0 ce3 encI g rfl) (ac (hs (.run [0,1] (zq ZT [22,22] (.oslice 0 D.length 1) (.slice 1 0 1 1 1)) (kAF D j) (.oslice 2 w.length 1) (kAE j (kA w)) true) (yU jF (E:=encI) rfl (qc7 (E:=encI) (ys:=[j]) rfl rfl rfl rfl) (qki (E:=encI) (l:=D) rfl rfl rfl F rfl))) az)))) (Sub.norm [] [some 2] (by rw[hB];rfl) rfl (.keep (.same (qf encI _)) (.keep (.oslice rfl) (.keep (.same nI) .nil))) (.ks .nil))
     intro _ hsub
     obtain rfl:=si g8
     exact⟨rfl,_,rfl,(hsub.trans (Sub.norm [] [some 0] (by rw[hB];rfl) rfl (.keep (.same (qf encI _)) (.keep (zh.hs1 rfl) (.keep (.same nI) .nil))) (.ks .nil)))⟩
    rintro x s' ⟨rfl,y,rfl,hsub⟩
    refine Goes.sub hsub ?_
    refine gh fol (kD b ((3,hsl 0 1 y)::(kAA (w64 (f+1))))) ?_
    exact⟨M,(ofG 41 (kD b ((3,hsl 0 1 y)::(kAA (w64 (f+1))))),(kJ y)),Nat.lt_succ_self _,(Sub.refl _),_,_,rfl,g5⟩
   refine Goes.exit ?_
   obtain rfl:=si g5
   exact⟨rfl,_,rfl,(Sub.keep [3] rfl rfl)⟩
 rintro x s' ⟨rfl,G,rfl,hsub⟩
 refine Goes.sub hsub ?_
 refine sh fol [(2,hsl 0 1 G)] ?_
 refine Goes.ret ?_
 obtain rfl:=si h
 exact(gh2 [hsl 0 1 G] (Sub.norm [0] [] (by rw[hB];rfl) rfl (.keep (zh.hsL (E:=encI) rfl rfl (nl rfl)) .nil) .nil))
def vW (n:Int):Nat->(List (List Int))->Int->Option (List (List Int))
 |0,_,_=>none
 |K+1,b,a=>
  if a<=n then
  (app 24 b [([a]:List Int)]).bind fun c=>
  vW n K c (w64 (a+1))
  else
  some b
def yf (N:Nat) (w:List Int):Nat->(List (List Int))->Int->Option (List (List Int))
 |0,_,_=>none
 |K+1,d,h=>
  if h<(w.length:Int)then
  (((idx w h).bind fun e=>
  (qa6 e).bind fun a=>
  (idx d (w64 (a-1))).bind fun b=>
  (idx d a).bind fun c=>
  if e>0 then
  (jZ b c).bind fun i=>
  (vV N b).bind fun j=>
  (jZ i j).bind fun k=>
  (vJ N k).bind fun l=>
  (put d (w64 (a-1)) l).bind fun f=>
  (idx f a).bind fun t=>
  (put f a b).bind fun m=>
  some m
  else
  (vV N c).bind fun n=>
  (jZ n b).bind fun o=>
  (jZ o c).bind fun p=>
  (vJ N p).bind fun q=>
  (put d (w64 (a-1)) c).bind fun g=>
  (idx g a).bind fun u=>
  (put g a q).bind fun r=>
  some r:Option (List (List Int)))).bind fun s=>
  yf N w K s (w64 (h+1))
  else
  some d
def vZ (N:Nat) (n:Int) (w:List Int):Option (List (List Int)):=
 (vW n N ([]:List (List Int)) 1).bind fun a=>
 (yf N w N a 0).bind fun b=>
 some b
theorem j6 (N:Nat) (n:Int) (w:List Int) {res:List (List Int)} (h:vZ N n w=some res):qb ZT (.fn 9) [.i n,vl encI w] [] (vl (qa encI) res) []:=by
 unfold vZ at h
 refine Ub Tryz.func9 rfl rfl (m:=77) rfl (rs:=[.tmp 4]) rfl (l:=(kB n w [])) rfl ?_
 refine sh fol (kB n w []) ?_
 refine sh fol (kB n w [(5,.nilslice)]) ?_
 refine sq ?_
 refine sh fol (kB n w [(5,.nilslice),(6,.i 1)]) ?_
 refine Goes.block ?_
 obtain⟨r4,g4,h⟩:=bnd h
 refine Goes.imp (Q:=fun x s'=>(x= .exit 0/\ ∃Z,Z=r4/\Sub s' (ofG 77 (kL w (kH Z [])),[.cells (Z.flatMap (qa encI).c)]))) ?_ ?_
 ·refine Goes.sub (s':=(ofG 77 (kB n w [(5,.gslice 0 ([]:List (List Int)).length 1),(6,.i 1)]),[.cells (([]:List (List Int)).flatMap (qa encI).c)])) (Sub.norm [] [none] rfl rfl (.keep (.same nI) (.keep (.same (qf encI _)) (.keep .nil (.keep (.same nI) .nil)))) (.fresh .nil)) ?_
  refine Uc (fun M s=> ∃(q:List (List Int)) (o:Int),s=(ofG 77 (kB n w (kH q [(6,.i o)])),[.cells (q.flatMap (qa encI).c)])/\vW n M q o=some r4) ?_ (m:=N) ⟨_,_,rfl,g4⟩
  rintro M s ⟨q,o,rfl,g4⟩
  cases M with
  |zero=>simp only[vW]at g4;cases g4
  |succ M=>
   rw[vW]at g4
   refine sq ?_
   refine sh fol (kB n w (kH q [(6,.i o),(13,.bool (decide (o<=n)))])) ?_
   refine ihD g4 (fun c5 g4=>?_) (fun c5 g4=>?_)
   ·refine Goes.skip ?_
    refine sq (Goes.block ?_)
    obtain⟨B,C,g4⟩:=bnd g4
    refine gq fol [4] (kB n w [(5,.gslice 3 B.length 1),(6,.i o)]) (kAE o [.cells [.slice 1 0 1 1 1],.cells ((q).flatMap ((qa encI)).c++[.slice 1 0 1 1 1])]) (ac (hs (.run [0,2] (zq ZT [28,28] (.gslice 0 q.length 1) (.slice 2 0 1 1 1)) [.cells (q.flatMap (qa encI).c),.cells [.i o],.cells [.slice 1 0 1 1 1]] (.gslice 3 B.length 1) (kAE o [.cells [.slice 1 0 1 1 1],.cells ((q).flatMap ((qa encI)).c++[.slice 1 0 1 1 1])]) true) (qoq qb6 (E:=(qa encI)) (l:=q) (x:=([o]:List Int)) rfl rfl rfl rfl rfl rfl rfl C rfl)) az) ?_
    refine Goes.sub (show Sub (ofG 77 (kB n w [(5,.gslice 3 B.length 1),(6,.i o)]),(kAE o [.cells [.slice 1 0 1 1 1],.cells ((q).flatMap ((qa encI)).c++[.slice 1 0 1 1 1])])) (ofG 77 (kB n w (kH B [(6,.i o)])),[.cells (B.flatMap (qa encI).c)])from(Sub.norm [1] [some 3] rfl rfl (.keep (.same nI) (.keep (.same (qf encI _)) (.keep (.gslice rfl) (.keep (.same nI) .nil)))) (.kb rfl (xV.my (E:=(qa encI)) C (rc (.frz (Fz.lit rfl rfl (Um (AllST.cons tI AllST.nil))) (qf encI _)) rn)) .nil))) ?_
    refine gh fol (kB n w (kH B [(6,.i (w64 (o+1)))])) ?_
    exact⟨M,(ofG 77 (kB n w (kH B [(6,.i (w64 (o+1)))])),[.cells (B.flatMap (qa encI).c)]),Nat.lt_succ_self _,(Sub.refl _),_,_,rfl,g4⟩
   refine Goes.exit ?_
   obtain rfl:=si g4
   exact⟨rfl,_,rfl,(Sub.keep [1,5] rfl rfl)⟩
 rintro x s' ⟨rfl,Z,rfl,hsub⟩
 refine Goes.sub hsub ?_
 refine sq ?_
 refine sh fol (kL w (kH Z [(7,.i 0)])) ?_
 refine Goes.block ?_
 obtain⟨a0,g10,h⟩:=bnd h
 refine Goes.imp (Q:=fun x s'=>(x= .exit 2/\ ∃Y,Y=a0/\Sub s' (ofG 77 (kH Y []),[.cells (Y.flatMap (qa encI).c)]))) ?_ ?_
 ·refine Uc (fun M s=> ∃(b:List (List Int)) (g:Int),s=(ofG 77 (kL w (kH b (kAW g))),[.cells (b.flatMap (qa encI).c)])/\yf N w M b g=some a0) ?_ (m:=N) ⟨_,_,rfl,g10⟩
  rintro M s ⟨b,g,rfl,g10⟩
  cases M with
  |zero=>simp only[yf]at g10;cases g10
  |succ M=>
   rw[yf]at g10
   refine sq ?_
   refine sh fol (kL w (kH b [(7,.i g),(24,.bool (decide (g<(w.length:Int))))])) ?_
   refine ihD g10 (fun a4 g10=>?_) (fun a4 g10=>?_)
   ·refine Goes.skip ?_
    refine sq ?_
    obtain⟨a5,g13,g10⟩:=bnd g10
    refine Goes.imp (Q:=fun x s'=>(x= .normal/\ ∃p,p=a5/\Sub s' (ofG 77 (kL w (kH p (kAW g))),[.cells (p.flatMap (qa encI).c)]))) ?_ ?_
    ·refine Goes.block ?_
     obtain⟨a1,e,g13⟩:=bnd g13
     obtain⟨a,D,g13⟩:=bnd g13
     refine sq (gr fol [2,3,4] (kL w (kH b [(7,.i g),(8,.i a)])) (ac (iv jF encI e) (ac (lv 0 ce3 encI e rfl) (ac (cv (qgj a1 D)) az))) ?_)
     obtain⟨j,d,g13⟩:=bnd g13
     obtain⟨k,f,g13⟩:=bnd g13
     refine sq (gr fol [3,4,7,8] (kL w (kH b [(7,.i g),(8,.i a),(9,vl encI j),(10,vl encI k)])) (ac (hs (.done (.opt (qc ZT 28 (.gslice 0 b.length 1) (.i (w64 (a-1))))) (.ptr 0 ((w64 (a-1):Int).toNat*1+0))) (xA qb6 d)) (ac (hs (.run [0] (jY ZT 22 (.ptr 0 ((w64 (a-1):Int).toNat*1+0))) [.cells (b.flatMap (qa encI).c)] (vl encI j) [.cells (b.flatMap (qa encI).c)] false) (qdu qed (E:=(qa encI)) (l:=b) rfl rfl d (nl rfl) rfl)) (ac (hs (.done (.opt (qc ZT 28 (.gslice 0 b.length 1) (.i a))) (.ptr 0 ((a:Int).toNat*1+0))) (xA qb6 f)) (ac (hs (.run [0] (jY ZT 22 (.ptr 0 ((a:Int).toNat*1+0))) [.cells (b.flatMap (qa encI).c)] (vl encI k) [.cells (b.flatMap (qa encI).c)] false) (qdu qed (E:=(qa encI)) (l:=b) rfl rfl f (nl rfl) rfl)) az)))) ?_)
     refine sq (gr fol [2,3] (kL w (kH b [(7,.i g),(8,.i a),(9,vl encI j),(10,vl encI k),(45,.bool (decide (a1>0)))])) (ac (iv jF encI e) (ac (lv 0 ce3 encI e rfl) az)) ?_)
     refine ihD g13 (fun a6 g13=>?_) (fun a6 g13=>?_)
     ·obtain⟨a7,F,g13⟩:=bnd g13
      obtain⟨a8,G,g13⟩:=bnd g13
      obtain⟨a2,H,g13⟩:=bnd g13
      obtain⟨I,J,g13⟩:=bnd g13
      obtain⟨K,r,g13⟩:=bnd g13
      obtain⟨x25,L,g13⟩:=bnd g13
      obtain⟨t,u,g13⟩:=bnd g13
      refine gq fol [7,9,10,11,13,14,15,16] (kL w (kH b (kAW g))) [.cells (t.flatMap (qa encI).c)] (ac (cv (yG j k F)) (ac (cv (qaj N j G)) (ac (cv (yG a7 a8 H)) (ac (hs (.callH 37 [vl encI a2] [.cells (b.flatMap (qa encI).c)] [] (vl encI I) [.cells (b.flatMap (qa encI).c)]) (yP [] [none] (qa1 N a2 J) .nil rfl rfl (.old rfl rfl .nil) (rc (.same (qf encI _)) rn) (.same (qf encI _)) rfl)) (ac (hs (.done (.opt (qc ZT 28 (.gslice 0 b.length 1) (.i (w64 (a-1))))) (.ptr 0 ((w64 (a-1):Int).toNat*1+0))) (xA qb6 d)) (ac (hs (.run [0] (yc ZT 22 (.ptr 0 ((w64 (a-1):Int).toNat*1+0)) (vl encI I)) [.cells (b.flatMap (qa encI).c)] .undef [.cells (K.flatMap (qa encI).c)] true) (qaG (E:=(qa encI)) (l:=b) (y:=I) rfl (show _=some 1 by kernel_rfl) rfl d rfl rfl rfl rfl rfl r rfl)) (ac (hs (.done (.opt (qc ZT 28 (.gslice 0 b.length 1) (.i a))) (.ptr 0 ((a:Int).toNat*1+0))) (xA qb6 f)) (ac (hs (.run [0] (yc ZT 22 (.ptr 0 ((a:Int).toNat*1+0)) (vl encI j)) [.cells (K.flatMap (qa encI).c)] .undef [.cells (t.flatMap (qa encI).c)] true) (qaG (E:=(qa encI)) (l:=K) (y:=j) rfl (show _=some 1 by kernel_rfl) rfl L rfl rfl rfl rfl rfl u rfl)) az)))))))) ?_
      obtain rfl:=si g13
      exact⟨rfl,_,rfl,((show Sub (ofG 77 (kL w (kH b (kAW g))),[.cells (t.flatMap (qa encI).c)]) (ofG 77 (kL w (kH t (kAW g))),[.cells (t.flatMap (qa encI).c)])from(Sub.norm [] [some 0] rfl rfl (.keep (.same (qf encI _)) (.keep (.gsliceE rfl ((yg r).trans (yg u))) (.keep (.same nI) .nil))) (.ks .nil))).trans (Sub.refl _))⟩
     obtain⟨a9,O,g13⟩:=bnd g13
     obtain⟨b0,P,g13⟩:=bnd g13
     obtain⟨a3,T,g13⟩:=bnd g13
     obtain⟨U,V,g13⟩:=bnd g13
     obtain⟨W,v,g13⟩:=bnd g13
     obtain⟨x33,X,g13⟩:=bnd g13
     obtain⟨z,A,g13⟩:=bnd g13
     refine gq fol [7,9,11,12,13,14,15,16] (kL w (kH b (kAW g))) [.cells (z.flatMap (qa encI).c)] (ac (cv (qaj N k O)) (ac (cv (yG a9 j P)) (ac (cv (yG b0 k T)) (ac (hs (.callH 37 [vl encI a3] [.cells (b.flatMap (qa encI).c)] [] (vl encI U) [.cells (b.flatMap (qa encI).c)]) (yP [] [none] (qa1 N a3 V) .nil rfl rfl (.old rfl rfl .nil) (rc (.same (qf encI _)) rn) (.same (qf encI _)) rfl)) (ac (hs (.done (.opt (qc ZT 28 (.gslice 0 b.length 1) (.i (w64 (a-1))))) (.ptr 0 ((w64 (a-1):Int).toNat*1+0))) (xA qb6 d)) (ac (hs (.run [0] (yc ZT 22 (.ptr 0 ((w64 (a-1):Int).toNat*1+0)) (vl encI k)) [.cells (b.flatMap (qa encI).c)] .undef [.cells (W.flatMap (qa encI).c)] true) (qaG (E:=(qa encI)) (l:=b) (y:=k) rfl (show _=some 1 by kernel_rfl) rfl d rfl rfl rfl rfl rfl v rfl)) (ac (hs (.done (.opt (qc ZT 28 (.gslice 0 b.length 1) (.i a))) (.ptr 0 ((a:Int).toNat*1+0))) (xA qb6 f)) (ac (hs (.run [0] (yc ZT 22 (.ptr 0 ((a:Int).toNat*1+0)) (vl encI U)) [.cells (W.flatMap (qa encI).c)] .undef [.cells (z.flatMap (qa encI).c)] true) (qaG (E:=(qa encI)) (l:=W) (y:=U) rfl (show _=some 1 by kernel_rfl) rfl X rfl rfl rfl rfl rfl A rfl)) az)))))))) ?_
     obtain rfl:=si g13
     exact⟨rfl,_,rfl,((show Sub (ofG 77 (kL w (kH b (kAW g))),[.cells (z.flatMap (qa encI).c)]) (ofG 77 (kL w (kH z (kAW g))),[.cells (z.flatMap (qa encI).c)])from(Sub.norm [] [some 0] rfl rfl (.keep (.same (qf encI _)) (.keep (.gsliceE rfl ((yg v).trans (yg A))) (.keep (.same nI) .nil))) (.ks .nil))).trans (Sub.refl _))⟩
    rintro x s' ⟨rfl,p,rfl,hsub⟩
    refine Goes.sub hsub ?_
    refine gh fol (kL w (kH p (kAW (w64 (g+1))))) ?_
    exact⟨M,(ofG 77 (kL w (kH p (kAW (w64 (g+1))))),[.cells (p.flatMap (qa encI).c)]),Nat.lt_succ_self _,(Sub.refl _),_,_,rfl,g10⟩
   refine Goes.exit ?_
   obtain rfl:=si g10
   exact⟨rfl,_,rfl,(Sub.keep [5] rfl rfl)⟩
 rintro x s' ⟨rfl,Y,rfl,hsub⟩
 refine Goes.sub hsub ?_
 refine sh fol [(4,.gslice 0 Y.length 1)] ?_
 refine Goes.ret ?_
 obtain rfl:=si h
 exact(gw2 [.gslice 0 Y.length 1] (Uo (Fz.gs (E:=(qa encI)) rfl rfl (nl rfl))))
def xe (N:Nat) (a:jf) (b:jf):Option Bool:=
 (if a.Half=b.Half then
 (jd N a.Factors b.Factors).bind fun c=>
 some c
 else
 some false:Option Bool).bind fun d=>
 some d
theorem qbh (N:Nat) (a:jf) (b:jf) {res:Bool} (h:xe N a b=some res):qb ZT (.fn 10) [.agg [.i a.Half,vl (qa encI) a.Factors],.agg [.i b.Half,vl (qa encI) b.Factors]] [] (.bool res) []:=by
 unfold xe at h
 refine Ub Tryz.func10 rfl rfl (m:=17) rfl (rs:=[.tmp 4]) rfl (l:=[(0,.agg [.i a.Half,vl (qa encI) a.Factors]),(1,.agg [.i b.Half,vl (qa encI) b.Factors])]) rfl ?_
 refine sg fol [(2,.ptr 0 0),(3,.ptr 1 0)] [.cells [.i a.Half,vl (qa encI) a.Factors],.cells [.i b.Half,vl (qa encI) b.Factors]] ?_
 refine sq ?_
 obtain⟨f,c,h⟩:=bnd h
 refine Goes.cut (s':=(ofG 17 (kAK f),[.cells [.i a.Half,vl (qa encI) a.Factors],.cells [.i b.Half,vl (qa encI) b.Factors]])) ?_ ?_
 ·rcases wyD c with⟨e,c⟩|⟨e,c⟩
  ·obtain⟨g,d,c⟩:=bnd c
   obtain rfl:=si c
   exact tr fol [5,10] (kAK g) (ac (gw e) (ac (cv (vF N a.Factors b.Factors d)) az))
  obtain rfl:=si c
  exact tr fol [5] kY (ac (gw e) az)
 refine Goes.ret ?_
 obtain rfl:=si h
 exact(gw2 [.bool f] (Ua tB))
def qaV (f:jf):Option jf:=
 some f
theorem xW (f:jf) {res:jf} (h:qaV f=some res):qb ZT (.fn 11) [.agg [.i f.Half,vl (qa encI) f.Factors]] [] (.agg [.i res.Half,vl (qa encI) res.Factors]) []:=by
 unfold qaV at h
 refine Ub Tryz.func11 rfl rfl (m:=8) rfl (rs:=[.cell 2 36]) rfl (l:=[(0,.agg [.i f.Half,vl (qa encI) f.Factors])]) rfl ?_
 refine sg fol [(1,.ptr 0 0),(2,.ptr 1 0)] [.cells [.i f.Half,vl (qa encI) f.Factors],bZ] ?_
 refine sg fol [(2,.ptr 1 0)] [.cells [.i f.Half,vl (qa encI) f.Factors],.cells [.i f.Half,vl (qa encI) f.Factors]] ?_
 refine Goes.ret ?_
 obtain rfl:=si h
 exact(gw2 [.agg [.i f.Half,vl (qa encI) f.Factors]] (FzW.agg (zm.cons (Ua tI) (zm.cons (Ua (zw (qa encI) _ (nl rfl))) zm.nil))))
def zk (p:List Int) (b:Int):Nat->Int->Option (Unit⊕Int)
 |0,_=>none
 |K+1,a=>
  if a<b then
  (idx p a).bind fun c=>
  (idx p b).bind fun d=>
  if c=d then
  some (.inr 15)
  else
  zk p b K (w64 (a+1))
  else
  some (.inl ())
def qR (N:Nat) (p:List Int):Nat->Int->Option (Unit⊕Int)
 |0,_=>none
 |K+1,a=>
  if a<(p.length:Int)then
  ((idx p a).bind fun c=>
  if c<0 then
  some true
  else
  some (decide (c>=(p.length:Int))):Option Bool).bind fun d=>
  if d=true then
  some (.inr 15)
  else
  (zk p a N 0).bind (fun
  |(.inl ())=>
  qR N p K (w64 (a+1))
  |(.inr b)=>
  some (.inr b))
  else
  some (.inl ())
def jh (N:Nat) (p:List Int):Option Int:=
 if(p.length:Int)>256 then
 some 5
 else
 (qR N p N 0).bind (fun
 |(.inl ())=>
 some 0
 |(.inr a)=>
 some a)
theorem qdp (N:Nat) (p:List Int) {res:Int} (h:jh N p=some res):qb ZT (.fn 38) [vl encI p] [] (.i res) []:=by
 unfold jh at h
 refine Ub Tryz.func38 rfl rfl (m:=42) rfl (rs:=[.tmp 2]) rfl (l:=(kD p [])) rfl ?_
 refine sh fol (kD p []) ?_
 refine sq ?_
 refine sh fol (kD p [(7,.bool (decide ((p.length:Int)>256)))]) ?_
 refine ihD h (fun w h=>?_) (fun w h=>?_)
 ·refine sh fol [(2,.i 5)] ?_
  refine Goes.ret ?_
  obtain rfl:=si h
  exact(gw2 [.i 5] (Ua tI))
 refine Goes.skip ?_
 refine sq ?_
 refine sh fol (kD p [(3,.i 0)]) ?_
 refine Goes.block ?_
 obtain⟨k,g3,h⟩:=bnd h
 refine Goes.imp (Q:=fun x s'=>(x= .exit 0/\(.inl ())=k/\Sub s' (ofG 42 [],[]))\/(x= .ret/\ ∃v,(.inr v)=k/\zU ZT [.tmp 2] (.i v) .ret s')) ?_ ?_
 ·refine Uc (fun M s=> ∃(c:Int),s=(ofG 42 (kD p (kAU c)),[])/\qR N p M c=some k) ?_ (m:=N) ⟨_,rfl,g3⟩
  rintro M s ⟨c,rfl,g3⟩
  cases M with
  |zero=>simp only[qR]at g3;cases g3
  |succ M=>
   rw[qR]at g3
   refine sq ?_
   refine sh fol (kD p [(3,.i c),(11,.bool (decide (c<(p.length:Int))))]) ?_
   refine ihD g3 (fun y g3=>?_) (fun y g3=>?_)
   ·refine Goes.skip ?_
    refine sq (Goes.block ?_)
    refine sq ?_
    refine sq ?_
    obtain⟨z,a,g3⟩:=bnd g3
    refine Goes.cut (s':=(ofG 42 (kD p [(3,.i c),(27,.bool z)]),[])) ?_ ?_
    ·obtain⟨A,b,a⟩:=bnd a
     rcases wyD a with⟨n,a⟩|⟨n,a⟩
     ·obtain rfl:=si a
      exact tr fol [2,3,5] (kD p [(3,.i c),(27,.bool true)]) (ac (iv jF encI b) (ac (lv 0 ce3 encI b rfl) (ac (gw n) az)))
     obtain rfl:=si a
     exact tr fol [2,3,5,8,9] (kD p [(3,.i c),(27,.bool (decide (A>=(p.length:Int))))]) (ac (iv jF encI b) (ac (lv 0 ce3 encI b rfl) (ac (gw n) (ac (iv jF encI b) (ac (lv 0 ce3 encI b rfl) az)))))
    refine ihB g3 (fun o g3=>?_) (fun o g3=>?_)
    ·refine sh fol [(2,.i 15)] ?_
     refine Goes.ret ?_
     obtain rfl:=si g3
     exact Or.inr (⟨rfl,_,rfl,(gw2 [.i 15] (Ua tI))⟩)
    refine Goes.skip ?_
    refine sh fol (kD p [(3,.i c),(4,.i 0)]) ?_
    refine Goes.block ?_
    obtain⟨g,g12,g3⟩:=bnd g3
    refine Goes.imp (Q:=fun x s'=>(x= .exit 2/\(.inl ())=g/\Sub s' (ofG 42 (kD p (kAU c)),[]))\/(x= .ret/\ ∃j,(.inr j)=g/\zU ZT [.tmp 2] (.i j) .ret s')) ?_ ?_
    ·refine Uc (fun M s=> ∃(d:Int),s=(ofG 42 (kD p ((3,.i c)::(kAA d))),[])/\zk p c M d=some g) ?_ (m:=N) ⟨_,rfl,g12⟩
     rintro M s ⟨d,rfl,g12⟩
     cases M with
     |zero=>simp only[zk]at g12;cases g12
     |succ M=>
      rw[zk]at g12
      refine sq ?_
      refine sh fol (kD p [(3,.i c),(4,.i d),(30,.bool (decide (d<c)))]) ?_
      refine ihD g12 (fun q g12=>?_) (fun q g12=>?_)
      ·refine Goes.skip ?_
       refine sq (Goes.block ?_)
       obtain⟨r,e,g12⟩:=bnd g12
       obtain⟨t,f,g12⟩:=bnd g12
       refine sq (gr fol [2,3,6,7] (kD p [(3,.i c),(4,.i d),(41,.bool (decide (r=t)))]) (ac (iv jF encI e) (ac (lv 0 ce3 encI e rfl) (ac (iv jF encI f) (ac (lv 0 ce3 encI f rfl) az)))) ?_)
       refine ihD g12 (fun u g12=>?_) (fun u g12=>?_)
       ·refine sh fol [(2,.i 15)] ?_
        refine Goes.ret ?_
        obtain rfl:=si g12
        exact Or.inr (⟨rfl,_,rfl,(gw2 [.i 15] (Ua tI))⟩)
       refine Goes.skip ?_
       refine gh fol (kD p ((3,.i c)::(kAA (w64 (d+1))))) ?_
       exact⟨M,(ofG 42 (kD p ((3,.i c)::(kAA (w64 (d+1))))),[]),Nat.lt_succ_self _,(Sub.refl _),_,rfl,g12⟩
      refine Goes.exit ?_
      obtain rfl:=si g12
      exact Or.inl (⟨rfl,rfl,(Sub.keep [0,3] rfl rfl)⟩)
    rintro x s' (⟨rfl,rfl,hsub⟩|⟨rfl,B,rfl,hret⟩)
    ·try dsimp only at g3
     refine Goes.sub hsub ?_
     refine gh fol (kD p (kAU (w64 (c+1)))) ?_
     exact⟨M,(ofG 42 (kD p (kAU (w64 (c+1)))),[]),Nat.lt_succ_self _,(Sub.refl _),_,rfl,g3⟩
    try dsimp only at g3
    obtain rfl:=si g3
    exact Or.inr (⟨rfl,_,rfl,hret⟩)
   refine Goes.exit ?_
   obtain rfl:=si g3
   exact Or.inl (⟨rfl,rfl,(Sub.keep [] rfl rfl)⟩)
 rintro x s' (⟨rfl,rfl,hsub⟩|⟨rfl,C,rfl,hret⟩)
 ·try dsimp only at h
  refine Goes.sub hsub ?_
  refine sh fol [(2,.i 0)] ?_
  refine Goes.ret ?_
  obtain rfl:=si h
  exact(gw2 [.i 0] (Ua tI))
 try dsimp only at h
 obtain rfl:=si h
 exact hret
def zZ (n:Int):Nat->(List Int)->Int->Option (List Int)
 |0,_,_=>none
 |K+1,b,a=>
  if a<n then
  (app 8 b [w64 ((w64 (n-1))-a)]).bind fun c=>
  zZ n K c (w64 (a+1))
  else
  some b
def xc (N:Nat) (n:Int):Option (List Int):=
 (zZ n N ([]:List Int) 0).bind fun a=>
 some a
theorem qdH (N:Nat) (n:Int) {res:List Int} (h:xc N n=some res):qb ZT (.fn 92) [.i n] [] (vl encI res) []:=by
 unfold xc at h
 refine Ub Tryz.func92 rfl rfl (m:=18) rfl (rs:=[.tmp 2]) rfl (l:=[(0,.i n)]) rfl ?_
 refine sh fol [(0,.i n)] ?_
 refine sh fol [(0,.i n),(3,.nilslice)] ?_
 refine sq ?_
 refine sh fol [(0,.i n),(3,.nilslice),(4,.i 0)] ?_
 refine Goes.block ?_
 obtain⟨f,g4,h⟩:=bnd h
 refine Goes.imp (Q:=fun x s'=>(x= .exit 0/\ ∃d,d=f/\Sub s' (ofG 18 (kS d []),(kA d)))) ?_ ?_
 ·refine Goes.sub (s':=(ofG 18 [(0,.i n),(3,.gslice 0 ([]:List Int).length 1),(4,.i 0)],kAD)) (Sub.norm [] [none] rfl rfl (.keep (.same nI) (.keep .nil (.keep (.same nI) .nil))) (.fresh .nil)) ?_
  refine Uc (fun M s=> ∃(b:List Int) (a:Int),s=(ofG 18 ((0,.i n)::(kS b (kAA a))),(kA b))/\zZ n M b a=some f) ?_ (m:=N) ⟨_,_,rfl,g4⟩
  rintro M s ⟨b,a,rfl,g4⟩
  cases M with
  |zero=>simp only[zZ]at g4;cases g4
  |succ M=>
   rw[zZ]at g4
   refine sq ?_
   refine sh fol ((0,.i n)::(kS b [(4,.i a),(7,.bool (decide (a<n)))])) ?_
   refine ihD g4 (fun g g4=>?_) (fun g g4=>?_)
   ·refine Goes.skip ?_
    refine sq (Goes.block ?_)
    obtain⟨c,e,g4⟩:=bnd g4
    refine gq fol [6] ((0,.i n)::(3,.gslice 2 c.length 1)::(kAA a)) (kAE (w64 ((w64 (n-1))-a)) (kA c)) (ac (hs (.run [0,1] (zq ZT [22,22] (.gslice 0 b.length 1) (.slice 1 0 1 1 1)) (kAF b (w64 ((w64 (n-1))-a))) (.gslice 2 c.length 1) (kAE (w64 ((w64 (n-1))-a)) (kA c)) true) (yU jF (E:=encI) rfl (qc7 (E:=encI) (ys:=[w64 ((w64 (n-1))-a)]) rfl rfl rfl rfl) (qdA (E:=encI) (l:=b) rfl rfl rfl e rfl))) az) ?_
    refine gh fol ((0,.i n)::(3,.gslice 2 c.length 1)::(kAA (w64 (a+1)))) ?_
    exact⟨M,(ofG 18 ((0,.i n)::(kS c (kAA (w64 (a+1))))),(kA c)),Nat.lt_succ_self _,(Sub.norm [] [some 2] rfl rfl (.keep (.same nI) (.keep (.gslice rfl) (.keep (.same nI) .nil))) (.ks .nil)),_,_,rfl,g4⟩
   refine Goes.exit ?_
   obtain rfl:=si g4
   exact⟨rfl,_,rfl,(Sub.keep [3] rfl rfl)⟩
 rintro x s' ⟨rfl,d,rfl,hsub⟩
 refine Goes.sub hsub ?_
 refine sh fol [(2,.gslice 0 d.length 1)] ?_
 refine Goes.ret ?_
 obtain rfl:=si h
 exact(gw2 [.gslice 0 d.length 1] (Uo (Fz.gs (E:=encI) rfl rfl (nl rfl))))
def zg (a:Int):Nat->(List Int)->Int->Option (List Int)
 |0,_,_=>none
 |K+1,c,b=>
  if b<a then
  (app 8 c [b]).bind fun d=>
  zg a K d (w64 (b+1))
  else
  some c
def vP (N:Nat) (a:Int):Option (List Int):=
 (zg a N ([]:List Int) 0).bind fun b=>
 some b
theorem qar (N:Nat) (a:Int) {g:List Int} (h:vP N a=some g):qb ZT (.fn 91) [.i a] [] (.gslice 0 g.length 1) (kA g):=by
 unfold vP at h
 refine Uk Tryz.func91 rfl rfl (m:=15) rfl (rs:=[.tmp 2]) rfl (l:=[(0,.i a)]) rfl ?_
 intro B hB
 refine sh fol [(0,.i a)] ?_
 refine sh fol [(0,.i a),(3,.nilslice)] ?_
 refine sq ?_
 refine sh fol [(0,.i a),(3,.nilslice),(4,.i 0)] ?_
 refine Goes.block ?_
 obtain⟨j,g5,h⟩:=bnd h
 refine Goes.imp (Q:=fun x s'=>(x= .exit 0/\ ∃e,e=j/\Sub s' (ofG 15 (kS e []),(kA e)))) ?_ ?_
 ·refine Goes.sub (s':=(ofG 15 [(0,.i a),(3,.gslice 0 ([]:List Int).length 1),(4,.i 0)],kAD)) (Sub.norm [] [none] (by rw[hB];rfl) rfl (.keep (.same nI) (.keep .nil (.keep (.same nI) .nil))) (.fresh .nil)) ?_
  refine Uc (fun M s=> ∃(c:List Int) (b:Int),s=(ofG 15 ((0,.i a)::(kS c (kAA b))),(kA c))/\zg a M c b=some j) ?_ (m:=N) ⟨_,_,rfl,g5⟩
  rintro M s ⟨c,b,rfl,g5⟩
  cases M with
  |zero=>simp only[zg]at g5;cases g5
  |succ M=>
   rw[zg]at g5
   refine sq ?_
   refine sh fol ((0,.i a)::(kS c [(4,.i b),(7,.bool (decide (b<a)))])) ?_
   refine ihD g5 (fun k g5=>?_) (fun k g5=>?_)
   ·refine Goes.skip ?_
    refine sq (Goes.block ?_)
    obtain⟨d,f,g5⟩:=bnd g5
    refine gq fol [3] ((0,.i a)::(3,.gslice 2 d.length 1)::(kAA b)) (kAE b (kA d)) (ac (hs (.run [0,1] (zq ZT [22,22] (.gslice 0 c.length 1) (.slice 1 0 1 1 1)) (kAF c b) (.gslice 2 d.length 1) (kAE b (kA d)) true) (yU jF (E:=encI) rfl (qc7 (E:=encI) (ys:=[b]) rfl rfl rfl rfl) (qdA (E:=encI) (l:=c) rfl rfl rfl f rfl))) az) ?_
    refine gh fol ((0,.i a)::(3,.gslice 2 d.length 1)::(kAA (w64 (b+1)))) ?_
    exact⟨M,(ofG 15 ((0,.i a)::(kS d (kAA (w64 (b+1))))),(kA d)),Nat.lt_succ_self _,(Sub.norm [] [some 2] (by rw[hB];rfl) rfl (.keep (.same nI) (.keep (.gslice rfl) (.keep (.same nI) .nil))) (.ks .nil)),_,_,rfl,g5⟩
   refine Goes.exit ?_
   obtain rfl:=si g5
   exact⟨rfl,_,rfl,(Sub.keep [3] rfl rfl)⟩
 rintro x s' ⟨rfl,e,rfl,hsub⟩
 refine Goes.sub hsub ?_
 refine sh fol [(2,.gslice 0 e.length 1)] ?_
 refine Goes.ret ?_
 obtain rfl:=si h
 exact(gh2 [.gslice 0 e.length 1] (qbe.refl _ _))
def qay (N:Nat) (p:List Int):Option Bool:=
 ((vP N (p.length:Int)).bind fun a=>
 (vB N p a).bind fun b=>
 if b=true then
 some (a,true)
 else
 (xc N (p.length:Int)).bind fun c=>
 (vB N p c).bind fun d=>
 some (a,d):Option ((List Int)×Bool)).bind fun(f,e)=>
 some e
theorem qfm (N:Nat) (p:List Int) {res:Bool} (h:qay N p=some res):qb ZT (.fn 39) [vl encI p] [] (.bool res) []:=by
 unfold qay at h
 refine Ub Tryz.func39 rfl rfl (m:=15) rfl (rs:=[.tmp 2]) rfl (l:=(kD p [])) rfl ?_
 refine sh fol (kD p []) ?_
 refine sq ?_
 obtain⟨⟨n,j⟩,a,h⟩:=bnd h
 refine Goes.cut (s':=(ofG 15 [(2,.bool j)],(kA n))) ?_ ?_
 ·obtain⟨b,c,a⟩:=bnd a
  obtain⟨k,d,a⟩:=bnd a
  rcases wyB a with⟨g,a⟩|⟨g,a⟩
  ·simp only[ZI,ZP]at a
   obtain⟨rfl,rfl⟩:=a
   exact zx.rq fol [3,4,5] [(2,.bool true)] (kA b) (ac (hs (.callH 91 [.i (p.length:Int)] [] [] (.gslice 0 b.length 1) (kA b)) (yP [] [some 0] (qar N (p.length:Int) c) .nil rfl rfl (.new rfl rfl (.same fa) rfl .nil) (rc (.same nI) rn) (.gslice rfl) rfl)) (ac (hs (.call 28 [vl encI p,.gslice 0 b.length 1] (kA b) [0] (kAH p b) (.bool k)) (qbo (FzL.cons (Ul (zw encI _ (nl rfl))) (FzL.cons (Fz.gs (E:=encI) rfl rfl (nl rfl)) FzL.nil)) (yV N p b d) tB rfl)) (ac (gw g) az)))
  obtain⟨o,e,a⟩:=bnd a
  obtain⟨q,f,a⟩:=bnd a
  simp only[ZI,ZP]at a
  obtain⟨rfl,rfl⟩:=a
  exact zx.rq fol [3,4,5,9,10] [(2,.bool q)] (kA b) (ac (hs (.callH 91 [.i (p.length:Int)] [] [] (.gslice 0 b.length 1) (kA b)) (yP [] [some 0] (qar N (p.length:Int) c) .nil rfl rfl (.new rfl rfl (.same fa) rfl .nil) (rc (.same nI) rn) (.gslice rfl) rfl)) (ac (hs (.call 28 [vl encI p,.gslice 0 b.length 1] (kA b) [0] (kAH p b) (.bool k)) (qbo (FzL.cons (Ul (zw encI _ (nl rfl))) (FzL.cons (Fz.gs (E:=encI) rfl rfl (nl rfl)) FzL.nil)) (yV N p b d) tB rfl)) (ac (gw g) (ac (cv (qdH N (p.length:Int) e)) (ac (cv (yV N p o f)) az)))))
 try dsimp only at h
 refine Goes.ret ?_
 obtain rfl:=si h
 exact(gw2 [.bool j] (Ua tB))
def xn (p:List Int) (i:Int):Option Bool:=
 (idx p (w64 (i-1))).bind fun a=>
 (idx p i).bind fun b=>
 some (decide (a>b))
theorem qaE (p:List Int) (i:Int) {res:Bool} (h:xn p i=some res):qb ZT (.fn 40) (kAR p i) [] (.bool res) []:=by
 unfold xn at h
 refine Ub Tryz.func40 rfl rfl (m:=15) rfl (rs:=[.tmp 4]) rfl (l:=(kD p (kAQ i))) rfl ?_
 refine sh fol (kD p (kAQ i)) ?_
 obtain⟨c,a,h⟩:=bnd h
 obtain⟨d,b,h⟩:=bnd h
 refine sq (gr fol [3,4,7,8] (kAK (decide (c>d))) (ac (iv jF encI a) (ac (lv 0 ce3 encI a rfl) (ac (iv jF encI b) (ac (lv 0 ce3 encI b rfl) az)))) ?_)
 refine Goes.ret ?_
 obtain rfl:=si h
 exact(gw2 [.bool (decide (c>d))] (Ua tB))
def jo (p:List Int):Nat->(List Int)->Int->Option (List Int)
 |0,_,_=>none
 |K+1,b,a=>
  if a<(p.length:Int)then
  (idx p a).bind fun c=>
  (idx b c).bind fun e=>
  (put b c a).bind fun d=>
  jo p K d (w64 (a+1))
  else
  some b
def xI (N:Nat) (p:List Int):Option (List Int):=
 (mk 8 (p.length:Int) 0).bind fun a=>
 (jo p N a 0).bind fun b=>
 some b
theorem qef (N:Nat) (p:List Int) {res:List Int} (h:xI N p=some res):qb ZT (.fn 93) [vl encI p] [] (vl encI res) []:=by
 unfold xI at h
 refine Ub Tryz.func93 rfl rfl (m:=22) rfl (rs:=[.tmp 2]) rfl (l:=(kD p [])) rfl ?_
 refine sh fol (kD p []) ?_
 obtain⟨j,k,h⟩:=bnd h
 refine sq (gq fol [2] (kD p (kC j [])) (kA j) (ac (hs (.run [] (vU ZT 22 (.i (p.length:Int)) (.i (p.length:Int))) [] (.slice 0 0 j.length j.length 1) (kA j) false) (qf5 jF (E:=encI) (z:=0) rfl (by kernel_rfl) k rfl)) az) ?_)
 refine sq ?_
 refine sh fol (kD p (kC j [(4,.i 0)])) ?_
 refine Goes.block ?_
 obtain⟨o,g5,h⟩:=bnd h
 refine Goes.imp (Q:=fun x s'=>(x= .exit 0/\ ∃g,g=o/\Sub s' (ofG 22 (kC g []),(kA g)))) ?_ ?_
 ·refine Uc (fun M s=> ∃(b:List Int) (a:Int),s=(ofG 22 (kD p (kC b (kAA a))),(kA b))/\jo p M b a=some o) ?_ (m:=N) ⟨_,_,rfl,g5⟩
  rintro M s ⟨b,a,rfl,g5⟩
  cases M with
  |zero=>simp only[jo]at g5;cases g5
  |succ M=>
   rw[jo]at g5
   refine sq ?_
   refine sh fol (kD p (kC b [(4,.i a),(11,.bool (decide (a<(p.length:Int))))])) ?_
   refine ihD g5 (fun q g5=>?_) (fun q g5=>?_)
   ·refine Goes.skip ?_
    refine sq (Goes.block ?_)
    obtain⟨n,c,g5⟩:=bnd g5
    obtain⟨r,d,g5⟩:=bnd g5
    obtain⟨e,f,g5⟩:=bnd g5
    refine gq fol [3,4,6,7] (kD p (kC b (kAA a))) (kA e) (ac (iv jF encI c) (ac (lv 0 ce3 encI c rfl) (ac (hs (.done (.opt (qc ZT 22 (.slice 0 0 b.length b.length 1) (.i n))) (.ptr 0 ((n:Int).toNat*1+0))) (qew jF d)) (ac (hs (.run [0] (yc ZT 3 (.ptr 0 ((n:Int).toNat*1+0)) (.i a)) (kA b) .undef (kA e) true) (qaG (E:=encI) (l:=b) (y:=a) rfl (show _=some 1 by kernel_rfl) rfl d rfl rfl rfl rfl rfl f rfl)) az)))) ?_
    refine Goes.sub (show Sub (ofG 22 (kD p (kC b (kAA a))),(kA e)) (ofG 22 (kD p (kC e (kAA a))),(kA e))from(Sub.norm [] [some 0] rfl rfl (.keep (.same (qf encI _)) (.keep (.sliceE rfl (yg f)) (.keep (.same nI) .nil))) (.ks .nil))) ?_
    refine gh fol (kD p (kC e (kAA (w64 (a+1))))) ?_
    exact⟨M,(ofG 22 (kD p (kC e (kAA (w64 (a+1))))),(kA e)),Nat.lt_succ_self _,(Sub.refl _),_,_,rfl,g5⟩
   refine Goes.exit ?_
   obtain rfl:=si g5
   exact⟨rfl,_,rfl,(Sub.keep [3] rfl rfl)⟩
 rintro x s' ⟨rfl,g,rfl,hsub⟩
 refine Goes.sub hsub ?_
 refine sh fol (kAJ g) ?_
 refine Goes.ret ?_
 obtain rfl:=si h
 exact(gw2 [.slice 0 0 g.length g.length 1] (Uo (Fz.sl (E:=encI) rfl rfl (nl rfl))))
def qaX (N:Nat) (p:List Int) (i:Int):Option Bool:=
 (xI N p).bind fun a=>
 (xn a i).bind fun b=>
 some b
theorem qgf (N:Nat) (p:List Int) (i:Int) {res:Bool} (h:qaX N p i=some res):qb ZT (.fn 41) (kAR p i) [] (.bool res) []:=by
 unfold qaX at h
 refine Ub Tryz.func41 rfl rfl (m:=9) rfl (rs:=[.tmp 4]) rfl (l:=(kD p (kAQ i))) rfl ?_
 refine sh fol (kD p (kAQ i)) ?_
 obtain⟨d,a,h⟩:=bnd h
 obtain⟨c,b,h⟩:=bnd h
 refine sq (gr fol [1,3] (kAK c) (ac (cv (qef N p a)) (ac (cv (qaE d i b)) az)) ?_)
 refine Goes.ret ?_
 obtain rfl:=si h
 exact(gw2 [.bool c] (Ua tB))
def zP (N:Nat) (n:Int) (f:jf) (b:Int) (c:List Int):Nat->Int->Option (Unit⊕Int)
 |0,_=>none
 |K+1,a=>
  (if a<n then
  some (decide (b>0))
  else
  some false:Option Bool).bind fun d=>
  if d=true then
  ((xn c a).bind fun e=>
  if e=true then
  (idx f.Factors (w64 (b-1))).bind fun g=>
  (qaX N g a).bind fun h=>
  some (!h)
  else
  some false:Option Bool).bind fun i=>
  if i=true then
  some (.inr 1)
  else
  zP N n f b c K (w64 (a+1))
  else
  some (.inl ())
def zO (N:Nat) (n:Int) (f:jf):Nat->Int->Option (Unit⊕Int)
 |0,_=>none
 |K+1,a=>
  if a<(f.Factors.length:Int)then
  (idx f.Factors a).bind fun b=>
  if(!decide ((b.length:Int)=n))=true then
  some (.inr 2)
  else
  (jh N b).bind fun c=>
  if(!decide (c=0))=true then
  some (.inr 15)
  else
  (qay N b).bind fun d=>
  if d=true then
  some (.inr 1)
  else
  (zP N n f a b N 1).bind (fun
  |(.inl ())=>
  zO N n f K (w64 (a+1))
  |(.inr e)=>
  some (.inr e))
  else
  some (.inl ())
def vK (N:Nat) (n:Int) (f:jf):Option Int:=
 (if n<1 then
 some true
 else
 if n>12 then
 some true
 else
 if f.Half<(-200)then
 some true
 else
 if f.Half>200 then
 some true
 else
 if n=1 then
 some (!decide (f.Half=0))
 else
 some false:Option Bool).bind fun b=>
 if b=true then
 some 3
 else
 if(f.Factors.length:Int)>200 then
 some 5
 else
 (zO N n f N 0).bind (fun
 |(.inl ())=>
 some 0
 |(.inr a)=>
 some a)
theorem qdr (N:Nat) (n:Int) (f:jf) {res:Int} (h:vK N n f=some res):qb ZT (.fn 12) [.i n,.agg [.i f.Half,vl (qa encI) f.Factors]] [] (.i res) []:=by
 unfold vK at h
 refine Ub Tryz.func12 rfl rfl (m:=81) rfl (rs:=[.tmp 4]) rfl (l:=[(0,.i n),(1,.agg [.i f.Half,vl (qa encI) f.Factors])]) rfl ?_
 refine sg fol (kF n []) [.cells [.i f.Half,vl (qa encI) f.Factors]] ?_
 refine sq ?_
 refine sq ?_
 obtain⟨W,a,h⟩:=bnd h
 refine Goes.cut (s':=(ofG 81 (kF n [(32,.bool W)]),[.cells [.i f.Half,vl (qa encI) f.Factors]])) ?_ ?_
 ·rcases wyD a with⟨p,a⟩|⟨p,a⟩
  ·obtain rfl:=si a
   exact tr fol [2] (kF n [(32,.bool true)]) (ac (gw p) az)
  rcases wyD a with⟨z,a⟩|⟨z,a⟩
  ·obtain rfl:=si a
   exact tr fol [2,6] (kF n [(32,.bool true)]) (ac (gw p) (ac (gw z) az))
  rcases wyD a with⟨A,a⟩|⟨A,a⟩
  ·obtain rfl:=si a
   exact tr fol [2,6,11] (kF n [(32,.bool true)]) (ac (gw p) (ac (gw z) (ac (gw A) az)))
  rcases wyD a with⟨D,a⟩|⟨D,a⟩
  ·obtain rfl:=si a
   exact tr fol [2,6,11,16] (kF n [(32,.bool true)]) (ac (gw p) (ac (gw z) (ac (gw A) (ac (gw D) az))))
  rcases wyD a with⟨E,a⟩|⟨E,a⟩
  ·obtain rfl:=si a
   exact tr fol [2,6,11,16,19] (kF n [(32,.bool (!decide (f.Half=0)))]) (ac (gw p) (ac (gw z) (ac (gw A) (ac (gw D) (ac (gw E) az)))))
  obtain rfl:=si a
  exact tr fol [2,6,11,16,19] (kF n [(32,.bool false)]) (ac (gw p) (ac (gw z) (ac (gw A) (ac (gw D) (ac (gw E) az)))))
 refine ihB h (fun X h=>?_) (fun X h=>?_)
 ·refine sh fol [(4,.i 3)] ?_
  refine Goes.ret ?_
  obtain rfl:=si h
  exact(gw2 [.i 3] (Ua tI))
 refine Goes.skip ?_
 refine sq ?_
 refine sh fol (kF n [(36,.bool (decide ((f.Factors.length:Int)>200)))]) ?_
 refine ihD h (fun Y h=>?_) (fun Y h=>?_)
 ·refine sh fol [(4,.i 5)] ?_
  refine Goes.ret ?_
  obtain rfl:=si h
  exact(gw2 [.i 5] (Ua tI))
 refine Goes.skip ?_
 refine sq ?_
 refine sh fol (kF n [(5,.i 0)]) ?_
 refine Goes.block ?_
 obtain⟨q,g11,h⟩:=bnd h
 refine Goes.imp (Q:=fun x s'=>(x= .exit 0/\(.inl ())=q/\Sub s' (ofG 81 [],[]))\/(x= .ret/\ ∃B,(.inr B)=q/\zU ZT [.tmp 4] (.i B) .ret s')) ?_ ?_
 ·refine Uc (fun M s=> ∃(b:Int),s=(ofG 81 (kF n (kAM b)),[.cells [.i f.Half,vl (qa encI) f.Factors]])/\zO N n f M b=some q) ?_ (m:=N) ⟨_,rfl,g11⟩
  rintro M s ⟨b,rfl,g11⟩
  cases M with
  |zero=>simp only[zO]at g11;cases g11
  |succ M=>
   rw[zO]at g11
   refine sq ?_
   refine sh fol (kF n [(5,.i b),(41,.bool (decide (b<(f.Factors.length:Int))))]) ?_
   refine ihD g11 (fun F g11=>?_) (fun F g11=>?_)
   ·refine Goes.skip ?_
    refine sq (Goes.block ?_)
    obtain⟨d,j,g11⟩:=bnd g11
    refine sq (gr fol [3,4] (kF n (kAC b d [])) (ac (iv qb6 (qa encI) j) (ac (lv 0 qed (qa encI) j rfl) az)) ?_)
    refine sq ?_
    refine sh fol (kF n (kAC b d [(52,.bool (!decide ((d.length:Int)=n)))])) ?_
    refine ihB g11 (fun G g11=>?_) (fun G g11=>?_)
    ·refine sh fol [(4,.i 2)] ?_
     refine Goes.ret ?_
     obtain rfl:=si g11
     exact Or.inr (⟨rfl,_,rfl,(gw2 [.i 2] (Ua tI))⟩)
    refine Goes.skip ?_
    refine sq ?_
    obtain⟨H,r,g11⟩:=bnd g11
    refine sq (gr fol [1] (kF n (kAC b d [(55,.bool (!decide (H=0)))])) (ac (cv (qdp N d r)) az) ?_)
    refine ihB g11 (fun I g11=>?_) (fun I g11=>?_)
    ·refine sh fol [(4,.i 15)] ?_
     refine Goes.ret ?_
     obtain rfl:=si g11
     exact Or.inr (⟨rfl,_,rfl,(gw2 [.i 15] (Ua tI))⟩)
    refine Goes.skip ?_
    refine sq ?_
    obtain⟨J,t,g11⟩:=bnd g11
    refine sq (gr fol [1] (kF n (kAC b d [(57,.bool J)])) (ac (cv (qfm N d t)) az) ?_)
    refine ihB g11 (fun K g11=>?_) (fun K g11=>?_)
    ·refine sh fol [(4,.i 1)] ?_
     refine Goes.ret ?_
     obtain rfl:=si g11
     exact Or.inr (⟨rfl,_,rfl,(gw2 [.i 1] (Ua tI))⟩)
    refine Goes.skip ?_
    refine sh fol (kF n (kAC b d [(7,.i 1)])) ?_
    refine Goes.block ?_
    obtain⟨u,g21,g11⟩:=bnd g11
    refine Goes.imp (Q:=fun x s'=>(x= .exit 2/\(.inl ())=u/\Sub s' (ofG 81 (kF n (kAM b)),[.cells [.i f.Half,vl (qa encI) f.Factors]]))\/(x= .ret/\ ∃C,(.inr C)=u/\zU ZT [.tmp 4] (.i C) .ret s')) ?_ ?_
    ·refine Uc (fun M s=> ∃(e:Int),s=(ofG 81 (kF n (kAC b d (kAW e))),[.cells [.i f.Half,vl (qa encI) f.Factors]])/\zP N n f b d M e=some u) ?_ (m:=N) ⟨_,rfl,g21⟩
     rintro M s ⟨e,rfl,g21⟩
     cases M with
     |zero=>simp only[zP]at g21;cases g21
     |succ M=>
      rw[zP]at g21
      refine sq ?_
      refine sq ?_
      obtain⟨L,g,g21⟩:=bnd g21
      refine Goes.cut (s':=(ofG 81 (kF n (kAC b d [(7,.i e),(64,.bool L)])),[.cells [.i f.Half,vl (qa encI) f.Factors]])) ?_ ?_
      ·rcases wyD g with⟨v,g⟩|⟨v,g⟩
       ·obtain rfl:=si g
        exact tr fol [3] (kF n (kAC b d [(7,.i e),(64,.bool (decide (b>0)))])) (ac (gw v) az)
       obtain rfl:=si g
       exact tr fol [3] (kF n (kAC b d [(7,.i e),(64,.bool false)])) (ac (gw v) az)
      refine ihB g21 (fun O g21=>?_) (fun O g21=>?_)
      ·refine Goes.skip ?_
       refine sq (Goes.block ?_)
       refine sq ?_
       obtain⟨P,c,g21⟩:=bnd g21
       refine Goes.cut (s':=(ofG 81 (kF n (kAC b d [(7,.i e),(80,.bool P)])),[.cells [.i f.Half,vl (qa encI) f.Factors]])) ?_ ?_
       ·obtain⟨Z,k,c⟩:=bnd c
        rcases wyB c with⟨w,c⟩|⟨w,c⟩
        ·obtain⟨T,o,c⟩:=bnd c
         obtain⟨U,y,c⟩:=bnd c
         obtain rfl:=si c
         exact tr fol [2,3,8,9,11] (kF n (kAC b d [(7,.i e),(80,.bool (!U))])) (ac (cv (qaE d e k)) (ac (gw w) (ac (iv qb6 (qa encI) o) (ac (lv 0 qed (qa encI) o rfl) (ac (cv (qgf N T e y)) az)))))
        obtain rfl:=si c
        exact tr fol [2,3] (kF n (kAC b d [(7,.i e),(80,.bool false)])) (ac (cv (qaE d e k)) (ac (gw w) az))
       refine ihB g21 (fun V g21=>?_) (fun V g21=>?_)
       ·refine sh fol [(4,.i 1)] ?_
        refine Goes.ret ?_
        obtain rfl:=si g21
        exact Or.inr (⟨rfl,_,rfl,(gw2 [.i 1] (Ua tI))⟩)
       refine Goes.skip ?_
       refine gh fol (kF n (kAC b d (kAW (w64 (e+1))))) ?_
       exact⟨M,(ofG 81 (kF n (kAC b d (kAW (w64 (e+1))))),[.cells [.i f.Half,vl (qa encI) f.Factors]]),Nat.lt_succ_self _,(Sub.refl _),_,rfl,g21⟩
      refine Goes.exit ?_
      obtain rfl:=si g21
      exact Or.inl (⟨rfl,rfl,(Sub.keep [0,3,5] rfl rfl)⟩)
    rintro x s' (⟨rfl,rfl,hsub⟩|⟨rfl,a0,rfl,hret⟩)
    ·try dsimp only at g11
     refine Goes.sub hsub ?_
     refine gh fol (kF n (kAM (w64 (b+1)))) ?_
     exact⟨M,(ofG 81 (kF n (kAM (w64 (b+1)))),[.cells [.i f.Half,vl (qa encI) f.Factors]]),Nat.lt_succ_self _,(Sub.refl _),_,rfl,g11⟩
    try dsimp only at g11
    obtain rfl:=si g11
    exact Or.inr (⟨rfl,_,rfl,hret⟩)
   refine Goes.exit ?_
   obtain rfl:=si g11
   exact Or.inl (⟨rfl,rfl,(Sub.norm [] [] rfl rfl .nil .nil)⟩)
 rintro x s' (⟨rfl,rfl,hsub⟩|⟨rfl,a1,rfl,hret⟩)
 ·try dsimp only at h
  refine Goes.sub hsub ?_
  refine sh fol [(4,.i 0)] ?_
  refine Goes.ret ?_
  obtain rfl:=si h
  exact(gw2 [.i 0] (Ua tI))
 try dsimp only at h
 obtain rfl:=si h
 exact hret
end Go.Av
