/-
  Walks of functions: what each computes, as a plain function.
-/
import Derived.Test.YtjilgbgaeeielaaGreatAvJnW2
noncomputable section
namespace Go.Av
open Go.Proofs Go.RowKit
abbrev ZT:=Tryz.prog
set_option linter.unusedSectionVars false
set_option linter.unusedVariables false
set_option linter.unusedSimpArgs false
set_option maxRecDepth 100000
theorem fol:Tryz.prog.follows .mixedOrders=true:=by kernel_rfl
structure zw where
 Kind:Str
 At:Int
 Letter:Int
def qx:Enc zw:=(encS.prod (encI.prod encI)).comap fun x=>(x.Kind,x.At,x.Letter)
instance:SE qx:=⟨nl rfl⟩
structure xc where
 Half:Int
 Factors:List (List Int)
def qlk:Enc xc:=(encI.prod (qc (qc encI))).comap fun x=>(x.Half,x.Factors)
instance:SE qlk:=⟨nl rfl⟩
structure qcX where
 Strands:Int
 Word:List Int
 Moves:List zw
 Shift:Int
def qeY:Enc qcX:=(encI.prod ((qc encI).prod ((qc qx).prod (qmv .u8)))).comap fun x=>(x.Strands,x.Word,x.Moves,x.Shift)
instance:SE qeY:=⟨nl rfl⟩
abbrev kA (a:List Int) (x:List Blk):List Blk:= .cells (a.flatMap encI.c)::x
abbrev kB {α0:Type} (a:List α0) (x:List Blk):List Blk:= .cells [.slice 2 0 a.length a.length 1]::x
abbrev kC (a:List Int) (x:List (Nat×AV)):List (Nat×AV):=(1,vl encI a)::(5,.ptr 0 0)::(8,.ptr 1 0)::x
abbrev kD (a:Str) (b:Int) (c:Int) (x:List Blk):List Blk:= .cells [.str a,.i b,.i c]::x
abbrev kE (a:Int) (b:Int) (c:Int) (d:Int) (x:List Blk):List Blk:= .cells [.i a,.i b,.i c,.i d]::x
abbrev kF (a:Int) (b:List Int) (x:List Blk):List Blk:= .cells [.i a]:: .cells [vl encI b]::x
abbrev kG (a:Int) (b:List Int) (x:List (Nat×AV)):List (Nat×AV):=(0,.i a)::(1,vl encI b)::x
abbrev kH (a:Int) (x:List (Nat×AV)):List (Nat×AV):=(0,.i a)::(4,.ptr 0 0)::(5,.ptr 1 0)::x
abbrev kI (a:Int) (b:List Int) (x:List (Nat×AV)):List (Nat×AV):=(1,.ptr 0 0)::(3,.i a)::(4,vl encI b)::x
abbrev kJ (a:List Bool) (x:List Blk):List Blk:= .cells (a.flatMap qiB.c)::x
abbrev kK (a:List Int) (b:List Int) (x:List (Nat×AV)):List (Nat×AV):=(0,vl encI a)::(1,vl encI b)::x
abbrev kL {α0:Type} (a:List α0) (x:List (Nat×AV)):List (Nat×AV):=(3,.slice 0 0 a.length a.length 1)::x
abbrev kM {α1:Type} (a:Int) (b:List α1) (c:List Int) (x:List (Nat×AV)):List (Nat×AV):=(3,.i a)::(4,.slice 0 0 b.length b.length 1)::(11,vl encI c)::(12,.i a)::x
abbrev kN {α1:Type} (a:List Int) (b:List α1) (x:List (Nat×AV)):List (Nat×AV):=(0,vl encI a)::(3,.gslice 0 b.length 1)::(4,.ptr 1 0)::x
abbrev kO (a:List Int) (b:Int) (c:Int) (x:List (Nat×AV)):List (Nat×AV):=(10,vl encI a)::(11,.i b)::(12,.i c)::x
abbrev kP (x:List Blk):List Blk:= .cells [.i 0,.nilfunc,.nilfunc]::x
abbrev kQ (a:List Int) (x:List (Nat×AV)):List (Nat×AV):=(0,vl encI a)::x
abbrev kR (a:Option (List Int)):List Blk:=[.cells ((hof a).flatMap encI.c)]
abbrev kS (a:Int) (x:List Blk):List Blk:=bZ:: .cells [.i a,.nilslice]::x
abbrev kT (a:Int) (b:Int):List Blk:=[.cells [.i a,.i b]]
abbrev kU {α0:Type} (a:List α0) (x:List Blk):List Blk:= .cells [.gslice 1 a.length 1]::x
abbrev kV {α1:Type} (a:List Int) (b:List α1) (x:List (Nat×AV)):List (Nat×AV):=(3,vl encI a)::(4,.gslice 0 b.length 1)::x
abbrev kW (a:Int) (b:Int) (x:List (Nat×AV)):List (Nat×AV):=(12,.i a)::(13,.i b)::x
abbrev kX {α0:Type} (a:List α0) (b:Int) (c:Int) (x:List (Nat×AV)):List (Nat×AV):=(48,.gslice 3 a.length 1)::(49,.i b)::(50,.i c)::x
abbrev kY {α0:Type} (a:List α0) (x:List (Nat×AV)):List (Nat×AV):=(4,.slice 5 0 a.length a.length 1)::x
abbrev kZ (a:List Int) (b:List Int) (c:List Int) (x:List (Nat×AV)):List (Nat×AV):=(1,vl encI a)::(5,.ptr 0 0)::(9,vl encI b)::(10,vl encI c)::(11,.nilslice)::x
abbrev kAA (a:Int):List (Nat×AV):=[(11,.i a)]
abbrev kAB {α0:Type} (a:List α0):List Blk:=[.cells [.gslice 0 a.length 1]]
abbrev kAC (a:List Int) (b:Int) (c:Int) (x:List (Nat×AV)):List (Nat×AV):=(15,vl encI a)::(16,.i b)::(17,.i c)::x
abbrev kAD {α0:Type} (a:List α0) (x:List Blk):List Blk:= .cells [.slice 0 0 a.length a.length 1]::x
abbrev kAE {α0:Type} (a:List α0) (b:Int) (c:Int) (x:List (Nat×AV)):List (Nat×AV):=(0,.slice 0 0 a.length a.length 1)::(2,.i b)::(3,.i c)::x
abbrev kAF {α1:Type} (a:Int) (b:List α1) (x:List Blk):List Blk:= .cells [.i a,.gslice 2 b.length 1]::x
abbrev kAG {α0:Type} (a:List α0) (x:List Blk):List Blk:= .cells [.oslice 4 a.length 1]::x
abbrev kAH {α0:Type} (a:List α0) (x:List (Nat×AV)):List (Nat×AV):=(6,.gslice 2 a.length 1)::x
abbrev kAI (a:List zw) (x:List (Nat×AV)):List (Nat×AV):=(0,vl qx a)::x
abbrev kAJ (x:List (Nat×AV)):List (Nat×AV):=(6,.nilslice)::x
abbrev kAK:List (Nat×AV):=[(4,.bool false)]
abbrev kAL (a:List Int) (b:Str) (c:Int) (d:Int):List AV:=[vl encI a,.agg [.str b,.i c,.i d]]
abbrev kAM (a:Int) (x:List (Nat×AV)):List (Nat×AV):=(1,.ptr 4 0)::(2,.ptr 5 0)::(4,.i a)::x
abbrev kAN (a:List zw) (b:Int) (c:Int) (x:List (Nat×AV)):List (Nat×AV):=(17,vl qx a)::(18,.i b)::(19,.i c)::x
abbrev kAO (a:List zw) (x:List (Nat×AV)):List (Nat×AV):=(2,vl qx a)::x
abbrev kAP (a:Int) (b:List Int) (c:List zw) (d:Int) (x:List Blk):List Blk:= .cells [.i a,vl encI b,vl qx c,.int .u8 d]::x
abbrev kAQ (a:List Int) (b:List Int) (x:List (Nat×AV)):List (Nat×AV):=(9,vl encI a)::(10,vl encI b)::x
abbrev kAR {α0:Type} (a:List α0) (b:Int) (x:List (Nat×AV)):List (Nat×AV):=(8,.gslice 0 a.length 1)::(9,.i b)::x
abbrev kAS (a:List Int) (b:Int) (x:List (Nat×AV)):List (Nat×AV):=(6,vl encI a)::(7,.i b)::x
abbrev kAT (a:Int) (x:List (Nat×AV)):List (Nat×AV):=(5,.ptr 0 0)::(8,.i a)::x
abbrev kAU (a:List Int) (b:Int):List AV:=[vl encI a,.i b]
abbrev kAV:List AV:=[.str [105,110,115,101,114,116],.str [99,97,110,99,101,108],.str [115,119,97,112],.str [116,117,114,110]]
abbrev kAW (x:List Blk):List Blk:= .cells [.nilslice]::x
abbrev kAX (a:Int):List (Nat×AV):=[(6,.ptr 3 0),(7,.i a)]
abbrev kAY (a:Int):List AV:=[.nilslice,.i a]
abbrev kAZ (a:List Int) (b:Int) (x:List (Nat×AV)):List (Nat×AV):=(9,vl encI a)::(10,.i b)::x
abbrev kAa (x:List (Nat×AV)):List (Nat×AV):=(1,.ptr 1 0)::x
abbrev kAb:List (Nat×AV):=[(4,.bool true)]
abbrev kAc (a:Int) (b:Int) (x:List (Nat×AV)):List (Nat×AV):=(8,.i a)::(9,.i b)::x
abbrev kAd (a:List Int) (x:List Blk):List Blk:= .cells [vl encI a]::x
abbrev kAe:List (Nat×AV):=[(2,.bool false)]
abbrev kAf (a:Int) (b:Int) (x:List (Nat×AV)):List (Nat×AV):=(6,.i a)::(7,.i b)::x
abbrev kAg (a:Bool):List (Nat×AV):=[(4,.bool a)]
abbrev kAh (a:List zw):List Blk:=[.cells (a.flatMap qx.c)]
abbrev kAi {α0:Type} (a:List α0) (x:List Blk):List Blk:= .cells [.oslice 7 a.length 1]::x
abbrev kAj (a:List Int) (b:List Int) (c:Int) (x:List (Nat×AV)):List (Nat×AV):=(6,vl encI a)::(8,vl encI b)::(9,.i c)::(10,.ptr 1 0)::x
abbrev kAk:List AV:=[.nilslice,.i 18]
abbrev kAl (a:Int):List (Nat×AV):=[(5,.i a)]
abbrev kAm {α0:Type} (a:List α0):List (Nat×AV):=[(2,.slice 0 0 a.length a.length 1)]
abbrev kAn {α0:Type} (a:List α0) (x:List (Nat×AV)):List (Nat×AV):=(3,.gslice 0 a.length 1)::x
abbrev kAo:List (Nat×AV):=[(5,.ptr 1 0),(7,.ptr 3 0)]
abbrev kAp (a:Int) (b:Int) (x:List (Nat×AV)):List (Nat×AV):=(0,.i a)::(1,.i b)::x
abbrev kAq (a:List Int) (b:List Int):List AV:=[vl encI a,vl encI b]
theorem ja:SlT ZT 22 3 1 8:=⟨by kernel_rfl,by kernel_rfl,by kernel_rfl,by kernel_rfl⟩
theorem ce3:CeT ZT 3:=⟨by kernel_rfl,by kernel_rfl⟩
theorem sl28:SlT ZT 28 56 3 32:=⟨by kernel_rfl,by kernel_rfl,by kernel_rfl,by kernel_rfl⟩
theorem ce9:CeT ZT 9:=⟨by kernel_rfl,by kernel_rfl⟩
theorem sl23:SlT ZT 23 57 3 32:=⟨by kernel_rfl,by kernel_rfl,by kernel_rfl,by kernel_rfl⟩
theorem ag57:AgT ZT 57 3:=⟨by kernel_rfl,by kernel_rfl⟩
theorem ag56:AgT ZT 56 3:=⟨by kernel_rfl,by kernel_rfl⟩
theorem sl116:SlT ZT 116 33 1 8:=⟨by kernel_rfl,by kernel_rfl,by kernel_rfl,by kernel_rfl⟩
theorem ce33:CeT ZT 33:=⟨by kernel_rfl,by kernel_rfl⟩
theorem qhy:MapT ZT 145 9 143 (.agg [.i 0,.nilfunc,.nilfunc]):=⟨by kernel_rfl,by kernel_rfl,by kernel_rfl⟩
theorem qbF:SlT ZT 72 3 1 8:=⟨by kernel_rfl,by kernel_rfl,by kernel_rfl,by kernel_rfl⟩
theorem qcF:SlT ZT 103 72 1 24:=⟨by kernel_rfl,by kernel_rfl,by kernel_rfl,by kernel_rfl⟩
theorem qkr:CeT ZT 72:=⟨by kernel_rfl,by kernel_rfl⟩
theorem qhZ:SlT ZT 36 22 1 24:=⟨by kernel_rfl,by kernel_rfl,by kernel_rfl,by kernel_rfl⟩
theorem qld:MpT ZT 152 3 4 (.int .i64) (.bool false):=⟨by kernel_rfl,by kernel_rfl,by kernel_rfl⟩
theorem qkQ:SlT ZT 153 4 1 1:=⟨by kernel_rfl,by kernel_rfl,by kernel_rfl,by kernel_rfl⟩
theorem ce4:CeT ZT 4:=⟨by kernel_rfl,by kernel_rfl⟩
noncomputable abbrev qp:Code:=(Tryz.f70.body.getD .skip).x2.x2.x2.x1.x2.x1.x1.x2.x2.x1.x1.x2.x2.x2.x1.x2.x1
noncomputable abbrev qd:Code:=(Tryz.f32.body.getD .skip).x2.x2.x1.x2.x1
theorem qjW:CeT ZT 22:=⟨by kernel_rfl,by kernel_rfl⟩
theorem it3:Tryz.prog.underlying 3=some (.int .i64):=by kernel_rfl
abbrev fm1:AV:= .fmap kAV [.agg [.i 0,.func (.func 115) [] [],.func (.func 116) [] []],.agg [.i 2,.func (.func 117) [] [],.func (.func 118) [] []],.agg [.i 2,.func (.func 119) [] [],.func (.func 120) [] []],.agg [.i 3,.func (.func 121) [] [],.func (.func 122) [] []]]
instance:SC 12 fm1:=⟨Still.fmap SX.h (AllST.cons SC.h (AllST.cons SC.h (AllST.cons SC.h (AllST.cons SC.h AllST.nil))))⟩
def xw (n:Int) (c:Int):Option Bool:=
 (if(!decide (c=0))=true then
 if c>(w64 (0-n))then
 some (decide (c<n))
 else
 some false
 else
 some false:Option Bool).bind fun a=>
 some a
theorem xI (n:Int) (c:Int) {res:Bool} (h:xw n c=some res):qf ZT (.fn 41) [.i n,.i c] [] (.bool res) []:=by
 unfold xw at h
 refine Ub Tryz.func41 rfl rfl (m:=18) rfl (rs:=[.tmp 4]) rfl (l:=(kAp n c [])) rfl ?_
 refine sh fol (kAp n c []) ?_
 refine sq ?_
 obtain⟨e,a,h⟩:=bnd h
 refine Goes.cut (s':=(ofG 18 (kAg e),[])) ?_ ?_
 ·rcases wyB a with⟨b,a⟩|⟨b,a⟩
  ·rcases wyD a with⟨d,a⟩|⟨d,a⟩
   ·obtain rfl:=si a
    exact tr fol [2,8] (kAg (decide (c<n))) (ac (gw b) (ac (gw d) az))
   obtain rfl:=si a
   exact tr fol [2,8] kAK (ac (gw b) (ac (gw d) az))
  obtain rfl:=si a
  exact tr fol [2] kAK (ac (gw b) az)
 refine Goes.ret ?_
 obtain rfl:=si h
 exact(gw2 [.bool e] (Ua tB))
def zU (n:Int) (w:List Int):Nat->Int->Option (Unit⊕Int)
 |0,_=>none
 |K+1,a=>
  if a<(w.length:Int)then
  (idx w a).bind fun b=>
  (xw n b).bind fun c=>
  if(!c)=true then
  some (.inr 3)
  else
  zU n w K (w64 (a+1))
  else
  some (.inl ())
def yG (N:Nat) (n:Int) (w:List Int):Option Int:=
 (if n<1 then
 some true
 else
 some (decide (n>12)):Option Bool).bind fun b=>
 if b=true then
 some 3
 else
 if(w.length:Int)>200 then
 some 5
 else
 (zU n w N 0).bind (fun
 |(.inl ())=>
 some 0
 |(.inr a)=>
 some a)
theorem qds (N:Nat) (n:Int) (w:List Int) {res:Int} (h:yG N n w=some res):qf ZT (.fn 20) [.i n,vl encI w] [] (.i res) []:=by
 unfold yG at h
 refine Ub Tryz.func20 rfl rfl (m:=28) rfl (rs:=[.tmp 4]) rfl (l:=(kG n w [])) rfl ?_
 refine sh fol (kG n w []) ?_
 refine sq ?_
 refine sq ?_
 obtain⟨p,a,h⟩:=bnd h
 refine Goes.cut (s':=(ofG 28 (kG n w [(11,.bool p)]),[])) ?_ ?_
 ·rcases wyD a with⟨e,a⟩|⟨e,a⟩
  ·obtain rfl:=si a
   exact tr fol [2] (kG n w [(11,.bool true)]) (ac (gw e) az)
  obtain rfl:=si a
  exact tr fol [2] (kG n w [(11,.bool (decide (n>12)))]) (ac (gw e) az)
 refine ihB h (fun q h=>?_) (fun q h=>?_)
 ·refine sh fol [(4,.i 3)] ?_
  refine Goes.ret ?_
  obtain rfl:=si h
  exact(gw2 [.i 3] (Ua tI))
 refine Goes.skip ?_
 refine sq ?_
 refine sh fol (kG n w [(14,.bool (decide ((w.length:Int)>200)))]) ?_
 refine ihD h (fun r h=>?_) (fun r h=>?_)
 ·refine sh fol [(4,.i 5)] ?_
  refine Goes.ret ?_
  obtain rfl:=si h
  exact(gw2 [.i 5] (Ua tI))
 refine Goes.skip ?_
 refine sq ?_
 refine sh fol (kG n w [(5,.i 0)]) ?_
 refine Goes.block ?_
 obtain⟨f,g7,h⟩:=bnd h
 refine Goes.imp (Q:=fun x s'=>(x= .exit 0/\(.inl ())=f/\Sub s' (ofG 28 [],[]))\/(x= .ret/\ ∃o,(.inr o)=f/\jw ZT [.tmp 4] (.i o) .ret s')) ?_ ?_
 ·refine Uf (fun M s=> ∃(c:Int),s=(ofG 28 (kG n w (kAl c)),[])/\zU n w M c=some f) ?_ (m:=N) ⟨_,rfl,g7⟩
  rintro M s ⟨c,rfl,g7⟩
  cases M with
  |zero=>simp only[zU]at g7;cases g7
  |succ M=>
   rw[zU]at g7
   refine sq ?_
   refine sh fol (kG n w [(5,.i c),(18,.bool (decide (c<(w.length:Int))))]) ?_
   refine ihD g7 (fun t g7=>?_) (fun t g7=>?_)
   ·refine Goes.skip ?_
    refine sq (Goes.block ?_)
    obtain⟨g,b,g7⟩:=bnd g7
    obtain⟨j,d,g7⟩:=bnd g7
    refine sq (gr fol [3,4,5] (kG n w [(5,.i c),(27,.bool (!j))]) (ac (iv ja encI b) (ac (lv 0 ce3 encI b rfl) (ac (cv (xI n g d)) az))) ?_)
    refine ihB g7 (fun k g7=>?_) (fun k g7=>?_)
    ·refine sh fol [(4,.i 3)] ?_
     refine Goes.ret ?_
     obtain rfl:=si g7
     exact Or.inr (⟨rfl,_,rfl,(gw2 [.i 3] (Ua tI))⟩)
    refine Goes.skip ?_
    refine gh fol (kG n w (kAl (w64 (c+1)))) ?_
    exact⟨M,(ofG 28 (kG n w (kAl (w64 (c+1)))),[]),Nat.lt_succ_self _,(Sub.refl _),_,rfl,g7⟩
   refine Goes.exit ?_
   obtain rfl:=si g7
   exact Or.inl (⟨rfl,rfl,(Sub.keep [] rfl rfl)⟩)
 rintro x s' (⟨rfl,rfl,hsub⟩|⟨rfl,u,rfl,hret⟩)
 ·try dsimp only at h
  refine Goes.sub hsub ?_
  refine sh fol [(4,.i 0)] ?_
  refine Goes.ret ?_
  obtain rfl:=si h
  exact(gw2 [.i 0] (Ua tI))
 try dsimp only at h
 obtain rfl:=si h
 exact hret
def qbw (N:Nat) (n:Int) (w:List Int) (strands:Int) (letters:Int):Option Bool:=
 (if n<=strands then
 if(w.length:Int)<=letters then
 (yG N n w).bind fun a=>
 some (decide (a=0))
 else
 some false
 else
 some false:Option Bool).bind fun b=>
 some b
theorem qb3 (N:Nat) (n:Int) (w:List Int) (strands:Int) (letters:Int) {res:Bool} (h:qbw N n w strands letters=some res):qf ZT (.fn 4) [.i n,vl encI w,.i strands,.i letters] [] (.bool res) []:=by
 unfold qbw at h
 refine Ub Tryz.func4 rfl rfl (m:=24) rfl (rs:=[.tmp 8]) rfl (l:=(kG n w [(2,.i strands),(3,.i letters)])) rfl ?_
 refine sh fol (kG n w [(2,.i strands),(3,.i letters)]) ?_
 refine sq ?_
 obtain⟨e,a,h⟩:=bnd h
 refine Goes.cut (s':=(ofG 24 [(8,.bool e)],[])) ?_ ?_
 ·rcases wyD a with⟨c,a⟩|⟨c,a⟩
  ·rcases wyD a with⟨d,a⟩|⟨d,a⟩
   ·obtain⟨f,b,a⟩:=bnd a
    obtain rfl:=si a
    exact tr fol [3,9,12] [(8,.bool (decide (f=0)))] (ac (gw c) (ac (gw d) (ac (cv (qds N n w b)) az)))
   obtain rfl:=si a
   exact tr fol [3,9] [(8,.bool false)] (ac (gw c) (ac (gw d) az))
  obtain rfl:=si a
  exact tr fol [3] [(8,.bool false)] (ac (gw c) az)
 refine Goes.ret ?_
 obtain rfl:=si h
 exact(gw2 [.bool e] (Ua tB))
def zB (l:List zw):Nat->Int->Option (Unit⊕Bool)
 |0,_=>none
 |K+1,a=>
  if a<(l.length:Int)then
  (idx l a).bind fun b=>
  if(b.Kind.length:Int)>20 then
  some (.inr false)
  else
  zB l K (w64 (a+1))
  else
  some (.inl ())
def yn (N:Nat) (l:List zw) (m:Int):Option Bool:=
 (if(l.length:Int)>m then
 if(l.length:Int)<=100000 then
 some true
 else
 some (decide ((l.length:Int)>100002))
 else
 some (decide ((l.length:Int)>100002)):Option Bool).bind fun b=>
 if b=true then
 some false
 else
 (zB l N 0).bind (fun
 |(.inl ())=>
 some true
 |(.inr a)=>
 some a)
theorem qdd (N:Nat) (l:List zw) (m:Int) {res:Bool} (h:yn N l m=some res):qf ZT (.fn 5) [vl qx l,.i m] [] (.bool res) []:=by
 unfold yn at h
 refine Ub Tryz.func5 rfl rfl (m:=33) rfl (rs:=[.tmp 4]) rfl (l:=(kAI l [(1,.i m)])) rfl ?_
 refine sh fol (kAI l [(1,.i m)]) ?_
 refine sq ?_
 refine sq ?_
 obtain⟨n,a,h⟩:=bnd h
 refine Goes.cut (s':=(ofG 33 (kAI l [(19,.bool n)]),[])) ?_ ?_
 ·rcases wyD a with⟨d,a⟩|⟨d,a⟩
  ·rcases wyD a with⟨e,a⟩|⟨e,a⟩
   ·obtain rfl:=si a
    exact tr fol [4,9] (kAI l [(19,.bool true)]) (ac (gw d) (ac (gw e) az))
   obtain rfl:=si a
   exact tr fol [4,9] (kAI l [(19,.bool (decide ((l.length:Int)>100002)))]) (ac (gw d) (ac (gw e) az))
  obtain rfl:=si a
  exact tr fol [4] (kAI l [(19,.bool (decide ((l.length:Int)>100002)))]) (ac (gw d) az)
 refine ihB h (fun o h=>?_) (fun o h=>?_)
 ·refine sh fol kAK ?_
  refine Goes.ret ?_
  obtain rfl:=si h
  exact(gw2 [.bool false] (Ua tB))
 refine Goes.skip ?_
 refine sq ?_
 refine sh fol (kAI l [(5,.i 0)]) ?_
 refine Goes.block ?_
 obtain⟨f,g7,h⟩:=bnd h
 refine Goes.imp (Q:=fun x s'=>(x= .exit 0/\(.inl ())=f/\Sub s' (ofG 33 [],[]))\/(x= .ret/\ ∃k,(.inr k)=f/\jw ZT [.tmp 4] (.bool k) .ret s')) ?_ ?_
 ·refine Uf (fun M s=> ∃(c:Int),s=(ofG 33 (kAI l (kAl c)),[])/\zB l M c=some f) ?_ (m:=N) ⟨_,rfl,g7⟩
  rintro M s ⟨c,rfl,g7⟩
  cases M with
  |zero=>simp only[zB]at g7;cases g7
  |succ M=>
   rw[zB]at g7
   refine sq ?_
   refine sh fol (kAI l [(5,.i c),(23,.bool (decide (c<(l.length:Int))))]) ?_
   refine ihD g7 (fun p g7=>?_) (fun p g7=>?_)
   ·refine Goes.skip ?_
    refine sq (Goes.block ?_)
    obtain⟨g,b,g7⟩:=bnd g7
    refine sq (gr fol [2,4] (kAI l [(5,.i c),(32,.bool (decide ((g.Kind.length:Int)>20)))]) (ac (iv sl28 qx b) (ac (lv 0 ce9 qx b rfl) az)) ?_)
    refine ihD g7 (fun j g7=>?_) (fun j g7=>?_)
    ·refine sh fol kAK ?_
     refine Goes.ret ?_
     obtain rfl:=si g7
     exact Or.inr (⟨rfl,_,rfl,(gw2 [.bool false] (Ua tB))⟩)
    refine Goes.skip ?_
    refine gh fol (kAI l (kAl (w64 (c+1)))) ?_
    exact⟨M,(ofG 33 (kAI l (kAl (w64 (c+1)))),[]),Nat.lt_succ_self _,(Sub.refl _),_,rfl,g7⟩
   refine Goes.exit ?_
   obtain rfl:=si g7
   exact Or.inl (⟨rfl,rfl,(Sub.keep [] rfl rfl)⟩)
 rintro x s' (⟨rfl,rfl,hsub⟩|⟨rfl,q,rfl,hret⟩)
 ·try dsimp only at h
  refine Goes.sub hsub ?_
  refine sh fol kAb ?_
  refine Goes.ret ?_
  obtain rfl:=si h
  exact(gw2 [.bool true] (Ua tB))
 try dsimp only at h
 obtain rfl:=si h
 exact hret
def kg (l:List zw):Nat->(List zw)->Int->Option (List zw)
 |0,_,_=>none
 |K+1,b,a=>
  if a<(l.length:Int)then
  (idx l a).bind fun c=>
  (app 32 b [c]).bind fun d=>
  kg l K d (w64 (a+1))
  else
  some b
def zZ (N:Nat) (l:List zw):Option (List zw):=
 (kg l N ([]:List zw) 0).bind fun a=>
 some a
theorem xW (N:Nat) (l:List zw) {res:List zw} (h:zZ N l=some res):qf ZT (.fn 6) [vl qx l] [] (vl qx res) []:=by
 unfold zZ at h
 refine Ub Tryz.func6 rfl rfl (m:=19) rfl (rs:=[.tmp 2]) rfl (l:=(kAI l [])) rfl ?_
 refine sh fol (kAI l []) ?_
 refine sh fol (kAI l [(3,.nilslice)]) ?_
 refine sq ?_
 refine sh fol (kAI l [(3,.nilslice),(6,.i (l.length:Int)),(7,.i 0)]) ?_
 refine Goes.block ?_
 obtain⟨k,g4,h⟩:=bnd h
 refine Goes.imp (Q:=fun x s'=>(x= .exit 0/\ ∃g,g=k/\Sub s' (ofG 19 [(3,.gslice 0 g.length 3)],(kAh g)))) ?_ ?_
 ·refine Goes.sub (s':=(ofG 19 (kAI l [(3,.gslice 0 ([]:List zw).length 3),(6,.i (l.length:Int)),(7,.i 0)]),[.cells (([]:List zw).flatMap qx.c)])) (Sub.norm [] [none] rfl rfl (.keep (.same (qj qx _)) (.keep .nil (.keep (.same nI) (.keep (.same nI) .nil)))) (.fresh .nil)) ?_
  refine Uf (fun M s=> ∃(d:List zw) (a:Int),s=(ofG 19 (kAI l ((3,.gslice 0 d.length 3)::(kAf (l.length:Int) a []))),(kAh d))/\kg l M d a=some k) ?_ (m:=N) ⟨_,_,rfl,g4⟩
  rintro M s ⟨d,a,rfl,g4⟩
  cases M with
  |zero=>simp only[kg]at g4;cases g4
  |succ M=>
   rw[kg]at g4
   refine sh fol (kAI l ((3,.gslice 0 d.length 3)::(kAf (l.length:Int) a [(8,.bool (decide (a<(l.length:Int))))]))) ?_
   refine sq ?_
   refine ihD g4 (fun n g4=>?_) (fun n g4=>?_)
   ·refine Goes.skip ?_
    refine sq (Goes.block ?_)
    refine sh fol (kAI l ((3,.gslice 0 d.length 3)::(4,.i a)::(kAf (l.length:Int) a []))) ?_
    obtain⟨b,e,g4⟩:=bnd g4
    obtain⟨f,j,g4⟩:=bnd g4
    refine gq fol [3,4,6] (kAI l ((3,.gslice 2 f.length 3)::(kAf (l.length:Int) a []))) (.dead::(kD b.Kind b.At b.Letter (kAh f))) (ac (iv sl23 qx e) (ac (la ag57 qx e) (ac (hs (.run [0,1] (z8 ZT [28,28] (.gslice 0 d.length 3) (.slice 1 0 1 1 3)) (.cells (d.flatMap qx.c)::(kD b.Kind b.At b.Letter [])) (.gslice 2 f.length 3) (.dead::(kD b.Kind b.At b.Letter (kAh f))) true) (qac sl28 (E:=qx) rfl (qey (E:=qx) (ys:=[b]) rfl rfl rfl rfl) (qfQ (E:=qx) (l:=d) rfl rfl rfl j rfl))) az))) ?_
    refine gh fol (kAI l ((3,.gslice 2 f.length 3)::(kAf (l.length:Int) (w64 (a+1)) []))) ?_
    exact⟨M,(ofG 19 (kAI l ((3,.gslice 0 f.length 3)::(kAf (l.length:Int) (w64 (a+1)) []))),(kAh f)),Nat.lt_succ_self _,(Sub.norm [] [some 2] rfl rfl (.keep (.same (qj qx _)) (.keep (.gslice rfl) (.keep (.same nI) (.keep (.same nI) .nil)))) (.ks .nil)),_,_,rfl,g4⟩
   refine Goes.exit ?_
   obtain rfl:=si g4
   exact⟨rfl,_,rfl,(Sub.keep [3] rfl rfl)⟩
 rintro x s' ⟨rfl,g,rfl,hsub⟩
 refine Goes.sub hsub ?_
 refine sh fol [(2,.gslice 0 g.length 3)] ?_
 refine Goes.ret ?_
 obtain rfl:=si h
 exact(gw2 [.gslice 0 g.length 3] (Ur (Fz.gs (E:=qx) rfl rfl (nl rfl))))
def vN (a:List Int) (b:List Int):Option (List Int):=
 (app 8 ([]:List Int) a).bind fun c=>
 (app 8 c b).bind fun d=>
 some d
theorem qaK (a:List Int) (b:List Int) {res:List Int} (h:vN a b=some res):qf ZT (.fn 18) (kAq a b) [] (vl encI res) []:=by
 unfold vN at h
 refine Ub Tryz.func18 rfl rfl (m:=10) rfl (rs:=[.tmp 4]) rfl (l:=(kK a b [])) rfl ?_
 refine sh fol (kK a b []) ?_
 obtain⟨c,d,h⟩:=bnd h
 obtain⟨e,f,h⟩:=bnd h
 refine sq (gq fol [2,4] [(4,.oslice 2 e.length 1)] (.dead:: .dead::(kA e [])) (ac (hs (.run [0] (z8 ZT [22,22] (.slice 0 0 0 0 1) (vl encI a)) [.cells []] (.oslice 1 c.length 1) (.dead::(kA c [])) true) (qac ja (E:=encI) rfl (qlI (E:=encI) rfl _) (dst_z (E:=encI) rfl rfl rfl d rfl))) (ac (hs (.run [1] (z8 ZT [22,22] (.oslice 1 c.length 1) (vl encI b)) (.dead::(kA c [])) (.oslice 2 e.length 1) (.dead:: .dead::(kA e [])) true) (qac ja (E:=encI) rfl (qlI (E:=encI) rfl _) (qmn (E:=encI) (l:=c) rfl rfl rfl f rfl))) az)) ?_)
 refine Goes.ret ?_
 obtain rfl:=si h
 exact(gw2 [.oslice 2 e.length 1] (Ur (Fz.os (E:=encI) rfl rfl (nl rfl))))
def jA (kind:Str):Option Int:=
 if(kind==[105,110,115,101,114,116])=true then
 some 0
 else
 ((if(kind==[99,97,110,99,101,108])=true then
 some (kind==[99,97,110,99,101,108])
 else
 some (kind==[115,119,97,112]):Option Bool)).bind fun a=>
 if a=true then
 some 2
 else
 if(kind==[116,117,114,110])=true then
 some 3
 else
 some (-1)
theorem qf5 (kind:Str) {res:Int} (h:jA kind=some res):qf ZT (.fn 52) [.str kind] [] (.i res) []:=by
 unfold jA at h
 refine Ub Tryz.func52 rfl rfl (m:=11) rfl (rs:=[.tmp 2]) rfl (l:=[(0,.str kind)]) rfl ?_
 refine sh fol [(0,.str kind)] ?_
 refine sq ?_
 refine sh fol [(3,.str kind)] ?_
 refine Goes.block ?_
 refine sh fol ((3,.str kind)::(kAg (kind==[105,110,115,101,114,116]))) ?_
 refine ihB h (fun b h=>?_) (fun b h=>?_)
 ·refine sh fol [(2,.i 0)] ?_
  refine Goes.ret ?_
  obtain rfl:=si h
  exact(gw2 [.i 0] (Ua tI))
 refine sq ?_
 refine sh fol [(3,.str kind),(6,.bool (kind==[99,97,110,99,101,108]))] ?_
 obtain⟨c,g3,h⟩:=bnd h
 refine Goes.imp (Q:=fun x s'=>(x= .normal/\ ∃a,a=c/\Sub s' (ofG 11 [(3,.str kind),(6,.bool a)],[]))) ?_ ?_
 ·refine ihB g3 (fun d g3=>?_) (fun d g3=>?_)
  ·refine Goes.skip ?_
   obtain rfl:=si g3
   exact⟨rfl,_,rfl,(Sub.refl _)⟩
  refine gh fol [(3,.str kind),(6,.bool (kind==[115,119,97,112]))] ?_
  obtain rfl:=si g3
  exact⟨rfl,_,rfl,(Sub.refl _)⟩
 rintro x s' ⟨rfl,a,rfl,hsub⟩
 refine Goes.sub hsub ?_
 refine ihB h (fun e h=>?_) (fun e h=>?_)
 ·refine sh fol [(2,.i 2)] ?_
  refine Goes.ret ?_
  obtain rfl:=si h
  exact(gw2 [.i 2] (Ua tI))
 refine sh fol [(9,.bool (kind==[116,117,114,110]))] ?_
 refine ihB h (fun f h=>?_) (fun f h=>?_)
 ·refine sh fol [(2,.i 3)] ?_
  refine Goes.ret ?_
  obtain rfl:=si h
  exact(gw2 [.i 3] (Ua tI))
 refine Goes.skip ?_
 refine sh fol [(2,.i (-1))] ?_
 refine Goes.ret ?_
 obtain rfl:=si h
 exact(gw2 [.i (-1)] (Ua tI))
def jf (c:Int):Option Int:=
 some (if(w64 (0-c))>c then(w64 (0-c))else c)
theorem zu (c:Int) {res:Int} (h:jf c=some res):qf ZT (.fn 53) [.i c] [] (.i res) []:=by
 unfold jf at h
 refine Ub Tryz.func53 rfl rfl (m:=7) rfl (rs:=[.tmp 2]) rfl (l:=[(0,.i c)]) rfl ?_
 refine sh fol [(0,.i c)] ?_
 refine sh fol [(2,.i (if(w64 (0-c))>c then(w64 (0-c))else c))] ?_
 refine Goes.ret ?_
 obtain rfl:=si h
 exact(gw2 [.i (if(w64 (0-c))>c then(w64 (0-c))else c)] (Ua tI))
def jX (c:Int):Option Int:=
 if c<0 then
 some (-1)
 else
 some 1
theorem yM (c:Int) {res:Int} (h:jX c=some res):qf ZT (.fn 95) [.i c] [] (.i res) []:=by
 unfold jX at h
 refine Ub Tryz.func95 rfl rfl (m:=5) rfl (rs:=[.tmp 2]) rfl (l:=[(0,.i c)]) rfl ?_
 refine sh fol [(0,.i c)] ?_
 refine sq ?_
 refine sh fol (kAg (decide (c<0))) ?_
 refine ihD h (fun a h=>?_) (fun a h=>?_)
 ·refine sh fol [(2,.i (-1))] ?_
  refine Goes.ret ?_
  obtain rfl:=si h
  exact(gw2 [.i (-1)] (Ua tI))
 refine Goes.skip ?_
 refine sh fol [(2,.i 1)] ?_
 refine Goes.ret ?_
 obtain rfl:=si h
 exact(gw2 [.i 1] (Ua tI))
def xN (a:Int) (y:Int) (z:Int):Option ((List Int)×Bool):=
 ((jf a).bind fun j=>
 (jf z).bind fun k=>
 if(!decide (j=k))=true then
 some true
 else
 (jf a).bind fun l=>
 (jf y).bind fun m=>
 (jf (w64 (l-m))).bind fun n=>
 some (!decide (n=1)):Option Bool).bind fun o=>
 if o=true then
 some ([],false)
 else
 (jX a).bind fun b=>
 (jX y).bind fun c=>
 if b=c then
 (jX z).bind fun d=>
 (jf y).bind fun e=>
 some ([w64 (d*e),a,y],true)
 else
 (jX y).bind fun f=>
 (jX z).bind fun g=>
 if f=g then
 (jX a).bind fun h=>
 (jf y).bind fun i=>
 some ([y,z,w64 (h*i)],true)
 else
 some ([],false)
theorem qf1 (b:Int) (y:Int) (z:Int) {res:(List Int)×Bool} (h:xN b y z=some res):qf ZT (.fn 54) [.i b,.i y,.i z] [] (.tuple [vl encI res.1,.bool res.2]) []:=by
 unfold xN at h
 refine Ub Tryz.func54 rfl rfl (m:=48) rfl (rs:=[.tmp 6,.tmp 7]) rfl (l:=(kAp b y [(2,.i z)])) rfl ?_
 refine sh fol (kAp b y [(2,.i z)]) ?_
 refine sq ?_
 refine sq ?_
 obtain⟨H,a,h⟩:=bnd h
 refine Goes.cut (s':=(ofG 48 (kAp b y [(2,.i z),(21,.bool H)]),[])) ?_ ?_
 ·obtain⟨M,c,a⟩:=bnd a
  obtain⟨N,d,a⟩:=bnd a
  rcases wyB a with⟨t,a⟩|⟨t,a⟩
  ·obtain rfl:=si a
   exact tr fol [1,3,5] (kAp b y [(2,.i z),(21,.bool true)]) (ac (cv (zu b c)) (ac (cv (zu z d)) (ac (gw t) az)))
  obtain⟨I,q,a⟩:=bnd a
  obtain⟨J,r,a⟩:=bnd a
  obtain⟨K,s,a⟩:=bnd a
  obtain rfl:=si a
  exact tr fol [1,3,5,7,9,11] (kAp b y [(2,.i z),(21,.bool (!decide (K=1)))]) (ac (cv (zu b c)) (ac (cv (zu z d)) (ac (gw t) (ac (cv (zu b q)) (ac (cv (zu y r)) (ac (cv (zu (w64 (I-J)) s)) az))))))
 refine ihB h (fun L h=>?_) (fun L h=>?_)
 ·refine sh fol (kAJ [(7,.bool false)]) ?_
  refine Goes.ret ?_
  obtain rfl:=si h
  exact(gw2 [.nilslice,.bool false] (FzW.tuple (qo.cons (FzW.nilv (E:=encI)) (qo.cons (Ua tB) qo.nil))))
 refine Goes.skip ?_
 refine sq ?_
 obtain⟨u,e,h⟩:=bnd h
 obtain⟨v,f,h⟩:=bnd h
 refine sq (gr fol [1,3] (kAp b y [(2,.i z),(26,.bool (decide (u=v)))]) (ac (cv (yM b e)) (ac (cv (yM y f)) az)) ?_)
 refine ihD h (fun w h=>?_) (fun w h=>?_)
 ·obtain⟨x,g,h⟩:=bnd h
  obtain⟨A,j,h⟩:=bnd h
  refine sq (gq fol [1,3] [(6,.slice 0 0 3 3 1),(7,.bool true)] [.cells [.i (w64 (x*A)),.i b,.i y]] (ac (cv (yM z g)) (ac (cv (zu y j)) az)) ?_)
  refine Goes.ret ?_
  obtain rfl:=si h
  exact(gw2 [.slice 0 0 3 3 1,.bool true] (FzW.tuple (qo.cons (Ur (Fz.lit rfl rfl (Uc (AllST.cons tI (AllST.cons tI (AllST.cons tI AllST.nil)))))) (qo.cons (Ua tB) qo.nil))))
 refine Goes.skip ?_
 refine sq ?_
 obtain⟨B,k,h⟩:=bnd h
 obtain⟨C,n,h⟩:=bnd h
 refine sq (gr fol [1,3] (kAp b y [(2,.i z),(39,.bool (decide (B=C)))]) (ac (cv (yM y k)) (ac (cv (yM z n)) az)) ?_)
 refine ihD h (fun D h=>?_) (fun D h=>?_)
 ·obtain⟨F,o,h⟩:=bnd h
  obtain⟨G,p,h⟩:=bnd h
  refine sq (gq fol [3,5] [(6,.slice 0 0 3 3 1),(7,.bool true)] [.cells [.i y,.i z,.i (w64 (F*G))]] (ac (cv (yM b o)) (ac (cv (zu y p)) az)) ?_)
  refine Goes.ret ?_
  obtain rfl:=si h
  exact(gw2 [.slice 0 0 3 3 1,.bool true] (FzW.tuple (qo.cons (Ur (Fz.lit rfl rfl (Uc (AllST.cons tI (AllST.cons tI (AllST.cons tI AllST.nil)))))) (qo.cons (Ua tB) qo.nil))))
 refine Goes.skip ?_
 refine sh fol (kAJ [(7,.bool false)]) ?_
 refine Goes.ret ?_
 obtain rfl:=si h
 exact(gw2 [.nilslice,.bool false] (FzW.tuple (qo.cons (FzW.nilv (E:=encI)) (qo.cons (Ua tB) qo.nil))))
def za (n:Int) (w:List Int) (m:zw):Option ((List Int)×Int):=
 (jA m.Kind).bind fun a=>
 if a<0 then
 some ([],13)
 else
 (if a>0 then
 some (!decide (m.Letter=0))
 else
 some false:Option Bool).bind fun v=>
 if v=true then
 some ([],1)
 else
 (if a=0 then
 (xw n m.Letter).bind fun x=>
 if(!x)=true then
 some true
 else
 if m.At<0 then
 some true
 else
 some (decide (m.At>(w64 ((w.length:Int)-a))))
 else
 if m.At<0 then
 some true
 else
 some (decide (m.At>(w64 ((w.length:Int)-a)))):Option Bool).bind fun e=>
 if e=true then
 some ([],3)
 else
 (cut w 0 m.At).bind fun f=>
 (cut w (w64 (m.At+a)) (w.length:Int)).bind fun g=>
 ((if(m.Kind==[105,110,115,101,114,116])=true then
 some (.inl ([m.Letter,w64 (0-m.Letter)]:List Int))
 else
 if(m.Kind==[99,97,110,99,101,108])=true then
 (idx w m.At).bind fun h=>
 (idx w (w64 (m.At+1))).bind fun i=>
 if(!decide (h=(w64 (0-i))))=true then
 some (.inr ([],18))
 else
 some (.inl [])
 else
 if(m.Kind==[115,119,97,112])=true then
 (idx w m.At).bind fun b=>
 (idx w (w64 (m.At+1))).bind fun c=>
 (jf b).bind fun j=>
 (jf c).bind fun k=>
 (jf (w64 (j-k))).bind fun l=>
 if l<2 then
 some (.inr ([],18))
 else
 some (.inl ([c,b]:List Int))
 else
 if(m.Kind==[116,117,114,110])=true then
 (idx w m.At).bind fun o=>
 (idx w (w64 (m.At+1))).bind fun p=>
 (idx w (w64 (m.At+2))).bind fun q=>
 (xN o p q).bind fun d=>
 if(!d.2)=true then
 some (.inr ([],18))
 else
 some (.inl d.1)
 else
 some (.inl []):Option ((List Int)⊕((List Int)×Int)))).bind (fun
 |(.inl r)=>
 (vN f r).bind fun s=>
 (vN s g).bind fun t=>
 some (t,0)
 |(.inr u)=>
 some u)
theorem qh7 (n:Int) (w:List Int) (m:zw) {res:(List Int)×Int} (h:za n w m=some res):qf ZT (.fn 26) (.i n::(kAL w m.Kind m.At m.Letter)) [] (.tuple (kAU res.1 res.2)) []:=by
 unfold za at h
 refine Ub Tryz.func26 rfl rfl (m:=140) rfl (rs:=[.tmp 6,.tmp 7]) rfl (l:=(kG n w [(2,.agg [.str m.Kind,.i m.At,.i m.Letter])])) rfl ?_
 refine sg fol (kG n w [(5,.ptr 0 0)]) (kD m.Kind m.At m.Letter []) ?_
 obtain⟨e,L,h⟩:=bnd h
 refine sq (gr fol [2] (kG n w (kAT e [])) (ac (cv (qf5 m.Kind L)) az) ?_)
 refine sq ?_
 refine sh fol (kG n w (kAT e [(20,.bool (decide (e<0)))])) ?_
 refine ihD h (fun c2 h=>?_) (fun c2 h=>?_)
 ·refine sh fol (kAJ [(7,.i 13)]) ?_
  refine Goes.ret ?_
  obtain rfl:=si h
  exact(gw2 [.nilslice,.i 13] (FzW.tuple (qo.cons (FzW.nilv (E:=encI)) (qo.cons (Ua tI) qo.nil))))
 refine Goes.skip ?_
 refine sq ?_
 refine sq ?_
 obtain⟨b4,d,h⟩:=bnd h
 refine Goes.cut (s':=(ofG 140 (kG n w (kAT e [(27,.bool b4)])),(kD m.Kind m.At m.Letter []))) ?_ ?_
 ·rcases wyD d with⟨P,d⟩|⟨P,d⟩
  ·obtain rfl:=si d
   exact tr fol [2] (kG n w (kAT e [(27,.bool (!decide (m.Letter=0)))])) (ac (gw P) az)
  obtain rfl:=si d
  exact tr fol [2] (kG n w (kAT e [(27,.bool false)])) (ac (gw P) az)
 refine ihB h (fun c6 h=>?_) (fun c6 h=>?_)
 ·refine sh fol (kAJ [(7,.i 1)]) ?_
  refine Goes.ret ?_
  obtain rfl:=si h
  exact(gw2 [.nilslice,.i 1] (FzW.tuple (qo.cons (FzW.nilv (E:=encI)) (qo.cons (Ua tI) qo.nil))))
 refine Goes.skip ?_
 refine sq ?_
 refine sq ?_
 obtain⟨T,a,h⟩:=bnd h
 refine Goes.cut (s':=(ofG 140 ((1,vl encI w)::(kAT e [(50,.bool T)])),(kD m.Kind m.At m.Letter []))) ?_ ?_
 ·rcases wyD a with⟨K,a⟩|⟨K,a⟩
  ·obtain⟨r8,f,a⟩:=bnd a
   rcases wyB a with⟨O,a⟩|⟨O,a⟩
   ·obtain rfl:=si a
    exact tr fol [2,6,9] ((1,vl encI w)::(kAT e [(50,.bool true)])) (ac (gw K) (ac (cv (xI n m.Letter f)) (ac (gw O) az)))
   rcases wyD a with⟨y,a⟩|⟨y,a⟩
   ·obtain rfl:=si a
    exact tr fol [2,6,9,14] ((1,vl encI w)::(kAT e [(50,.bool true)])) (ac (gw K) (ac (cv (xI n m.Letter f)) (ac (gw O) (ac (gw y) az))))
   obtain rfl:=si a
   exact tr fol [2,6,9,14] ((1,vl encI w)::(kAT e [(50,.bool (decide (m.At>(w64 ((w.length:Int)-e)))))])) (ac (gw K) (ac (cv (xI n m.Letter f)) (ac (gw O) (ac (gw y) az))))
  rcases wyD a with⟨z,a⟩|⟨z,a⟩
  ·obtain rfl:=si a
   exact tr fol [2,14] ((1,vl encI w)::(kAT e [(50,.bool true)])) (ac (gw K) (ac (gw z) az))
  obtain rfl:=si a
  exact tr fol [2,14] ((1,vl encI w)::(kAT e [(50,.bool (decide (m.At>(w64 ((w.length:Int)-e)))))])) (ac (gw K) (ac (gw z) az))
 refine ihB h (fun U h=>?_) (fun U h=>?_)
 ·refine sh fol (kAJ [(7,.i 3)]) ?_
  refine Goes.ret ?_
  obtain rfl:=si h
  exact(gw2 [.nilslice,.i 3] (FzW.tuple (qo.cons (FzW.nilv (E:=encI)) (qo.cons (Ua tI) qo.nil))))
 refine Goes.skip ?_
 obtain⟨b,A,h⟩:=bnd h
 obtain⟨c,B,h⟩:=bnd h
 refine sq (gr fol [3,9] ((1,vl encI w)::(5,.ptr 0 0)::(kAQ b c [])) (ac (hs (.done (.opt (yf ZT 22 (vl encI w) none (some (.i m.At)) none)) (vl encI b)) (qdX ja (E:=encI) rfl none (some m.At) A)) (ac (hs (.done (.opt (yf ZT 22 (vl encI w) (some (.i (w64 (m.At+e)))) none none)) (vl encI c)) (qdX ja (E:=encI) rfl (some (w64 (m.At+e))) none B)) az)) ?_)
 refine sh fol (kZ w b c []) ?_
 refine sq ?_
 refine sh fol (kZ w b c [(62,.str m.Kind)]) ?_
 obtain⟨M,g18,h⟩:=bnd h
 refine Goes.imp (Q:=fun x s'=>(x= .normal/\ ∃t,(.inl t)=M/\Sub s' (ofG 140 (kAQ b c [(11,vl encI t)]),[]))\/(x= .ret/\ ∃C,(.inr C)=M/\jw ZT [.tmp 6,.tmp 7] (.tuple (kAU C.1 C.2)) .ret s')) ?_ ?_
 ·refine Goes.block ?_
  refine sh fol (kZ w b c [(62,.str m.Kind),(63,.bool (m.Kind==[105,110,115,101,114,116]))]) ?_
  refine ihB g18 (fun V g18=>?_) (fun V g18=>?_)
  ·refine Goes.rg fol (kAQ b c [(11,.slice 1 0 2 2 1)]) (kD m.Kind m.At m.Letter (kT m.Letter (w64 (0-m.Letter)))) ?_
   obtain rfl:=si g18
   exact Or.inl (⟨rfl,_,rfl,(Sub.norm [1] [] rfl rfl (.keep (.same (qj encI _)) (.keep (.same (qj encI _)) (.keep (.frz (Fz.lit rfl rfl (Uc (AllST.cons tI (AllST.cons tI AllST.nil)))) (qj encI _)) .nil))) .nil)⟩)
  refine sh fol (kZ w b c [(62,.str m.Kind),(71,.bool (m.Kind==[99,97,110,99,101,108]))]) ?_
  refine ihB g18 (fun W g18=>?_) (fun W g18=>?_)
  ·obtain⟨X,g,g18⟩:=bnd g18
   obtain⟨Y,j,g18⟩:=bnd g18
   refine sq (gr fol [3,4,9,10] (kAQ b c [(11,.nilslice),(85,.bool (!decide (X=(w64 (0-Y)))))]) (ac (iv ja encI g) (ac (lv 0 ce3 encI g rfl) (ac (iv ja encI j) (ac (lv 0 ce3 encI j rfl) az)))) ?_)
   refine ihB g18 (fun Z g18=>?_) (fun Z g18=>?_)
   ·refine sh fol (kAJ [(7,.i 18)]) ?_
    refine Goes.ret ?_
    obtain rfl:=si g18
    exact Or.inr (⟨rfl,_,rfl,(gw2 kAk (FzW.tuple (qo.cons (FzW.nilv (E:=encI)) (qo.cons (Ua tI) qo.nil))))⟩)
   refine Goes.skip ?_
   obtain rfl:=si g18
   exact Or.inl (⟨rfl,_,rfl,(Sub.norm [] [] rfl rfl (.keep (.same (qj encI _)) (.keep (.same (qj encI _)) (.keep .nilv .nil))) .nil)⟩)
  refine sh fol (kZ w b c [(62,.str m.Kind),(86,.bool (m.Kind==[115,119,97,112]))]) ?_
  refine ihB g18 (fun a0 g18=>?_) (fun a0 g18=>?_)
  ·obtain⟨u,k,g18⟩:=bnd g18
   obtain⟨v,o,g18⟩:=bnd g18
   refine sq (gr fol [3,4,9,10] (kAQ b c (kW u v [])) (ac (iv ja encI k) (ac (lv 0 ce3 encI k rfl) (ac (iv ja encI o) (ac (lv 0 ce3 encI o rfl) az)))) ?_)
   refine sq ?_
   obtain⟨a1,D,g18⟩:=bnd g18
   obtain⟨a2,F,g18⟩:=bnd g18
   obtain⟨a3,G,g18⟩:=bnd g18
   refine sq (gr fol [1,3,5] (kAQ b c (kW u v [(105,.bool (decide (a3<2)))])) (ac (cv (zu u D)) (ac (cv (zu v F)) (ac (cv (zu (w64 (a1-a2)) G)) az))) ?_)
   refine ihD g18 (fun a4 g18=>?_) (fun a4 g18=>?_)
   ·refine sh fol (kAJ [(7,.i 18)]) ?_
    refine Goes.ret ?_
    obtain rfl:=si g18
    exact Or.inr (⟨rfl,_,rfl,(gw2 kAk (FzW.tuple (qo.cons (FzW.nilv (E:=encI)) (qo.cons (Ua tI) qo.nil))))⟩)
   refine Goes.skip ?_
   refine Goes.rg fol (kAQ b c [(11,.slice 1 0 2 2 1)]) (kD m.Kind m.At m.Letter (kT v u)) ?_
   obtain rfl:=si g18
   exact Or.inl (⟨rfl,_,rfl,(Sub.norm [1] [] rfl rfl (.keep (.same (qj encI _)) (.keep (.same (qj encI _)) (.keep (.frz (Fz.lit rfl rfl (Uc (AllST.cons tI (AllST.cons tI AllST.nil)))) (qj encI _)) .nil))) .nil)⟩)
  refine sh fol (kZ w b c [(109,.bool (m.Kind==[116,117,114,110]))]) ?_
  refine ihB g18 (fun a5 g18=>?_) (fun a5 g18=>?_)
  ·obtain⟨a6,p,g18⟩:=bnd g18
   obtain⟨a7,q,g18⟩:=bnd g18
   obtain⟨a8,r,g18⟩:=bnd g18
   obtain⟨s,H,g18⟩:=bnd g18
   refine sq (gr fol [3,4,9,10,15,16,17] (kAQ b c [(14,vl encI s.1),(15,.bool s.2)]) (ac (iv ja encI p) (ac (lv 0 ce3 encI p rfl) (ac (iv ja encI q) (ac (lv 0 ce3 encI q rfl) (ac (iv ja encI r) (ac (lv 0 ce3 encI r rfl) (ac (cv (qf1 a6 a7 a8 H)) az))))))) ?_)
   refine sq ?_
   refine sh fol (kAQ b c [(14,vl encI s.1),(133,.bool (!s.2))]) ?_
   refine ihB g18 (fun a9 g18=>?_) (fun a9 g18=>?_)
   ·refine sh fol (kAJ [(7,.i 18)]) ?_
    refine Goes.ret ?_
    obtain rfl:=si g18
    exact Or.inr (⟨rfl,_,rfl,(gw2 kAk (FzW.tuple (qo.cons (FzW.nilv (E:=encI)) (qo.cons (Ua tI) qo.nil))))⟩)
   refine Goes.skip ?_
   refine gh fol (kAQ b c [(11,vl encI s.1)]) ?_
   obtain rfl:=si g18
   exact Or.inl (⟨rfl,_,rfl,(Sub.norm [] [] rfl rfl (.keep (.same (qj encI _)) (.keep (.same (qj encI _)) (.keep (.same (qj encI _)) .nil))) .nil)⟩)
  refine Goes.skip ?_
  obtain rfl:=si g18
  exact Or.inl (⟨rfl,_,rfl,(Sub.norm [] [] rfl rfl (.drop (.drop (.keep (.same (qj encI _)) (.keep (.same (qj encI _)) (.keep .nilv .nil))))) .nil)⟩)
 rintro x s' (⟨rfl,t,rfl,hsub⟩|⟨rfl,q40,rfl,hret⟩)
 ·try dsimp only at h
  refine Goes.sub hsub ?_
  obtain⟨b0,I,h⟩:=bnd h
  obtain⟨N,J,h⟩:=bnd h
  refine sq (gr fol [2,4] [(6,vl encI N),(7,.i 0)] (ac (cv (qaK b t I)) (ac (cv (qaK b0 c J)) az)) ?_)
  refine Goes.ret ?_
  obtain rfl:=si h
  exact(gw2 [vl encI N,.i 0] (FzW.tuple (qo.cons (Ua (zq encI _ (nl rfl))) (qo.cons (Ua tI) qo.nil))))
 try dsimp only at h
 obtain rfl:=si h
 exact hret
def kr (n:Int) (l:List zw):Nat->(List Int)->Int->Int->Option ((List Int)×Int)
 |0,_,_,_=>none
 |K+1,d,e,b=>
  (if b<(l.length:Int)then
  some (decide (e=0))
  else
  some false:Option Bool).bind fun f=>
  if f=true then
  (idx l b).bind fun c=>
  (za n d c).bind fun a=>
  kr n l K a.1 a.2 (w64 (b+1))
  else
  some (d,e)
def y7 (N:Nat) (n:Int) (w:List Int) (l:List zw):Option ((List Int)×Int):=
 if(l.length:Int)>100000 then
 some ([],5)
 else
 (kr n l N w 0 0).bind fun(a,b)=>
 some (a,b)
theorem qfW (N:Nat) (n:Int) (w:List Int) (l:List zw) {res:(List Int)×Int} (h:y7 N n w l=some res):qf ZT (.fn 8) [.i n,vl encI w,vl qx l] [] (.tuple (kAU res.1 res.2)) []:=by
 unfold y7 at h
 refine Ub Tryz.func8 rfl rfl (m:=35) rfl (rs:=[.tmp 6,.tmp 7]) rfl (l:=(kG n w (kAO l []))) rfl ?_
 refine sh fol (kG n w (kAO l [])) ?_
 refine sq ?_
 refine sh fol (kG n w (kAO l [(12,.bool (decide ((l.length:Int)>100000)))])) ?_
 refine ihD h (fun t h=>?_) (fun t h=>?_)
 ·refine sh fol (kAJ [(7,.i 5)]) ?_
  refine Goes.ret ?_
  obtain rfl:=si h
  exact(gw2 [.nilslice,.i 5] (FzW.tuple (qo.cons (FzW.nilv (E:=encI)) (qo.cons (Ua tI) qo.nil))))
 refine Goes.skip ?_
 refine sh fol (kG n w (kAO l [(8,.i 0)])) ?_
 refine sq ?_
 refine sh fol (kG n w (kAO l [(8,.i 0),(9,.i 0)])) ?_
 refine Goes.block ?_
 obtain⟨r,g7,h⟩:=bnd h
 refine Goes.imp (Q:=fun x s'=>(x= .exit 0/\ ∃j k,(j,k)=r/\Sub s' (ofG 35 [(1,vl encI j),(8,.i k)],[]))) ?_ ?_
 ·refine Uf (fun M s=> ∃(e:List Int) (f:Int) (d:Int),s=(ofG 35 (kG n e (kAO l (kAc f d []))),[])/\kr n l M e f d=some r) ?_ (m:=N) ⟨_,_,_,rfl,g7⟩
  rintro M s ⟨e,f,d,rfl,g7⟩
  cases M with
  |zero=>simp only[kr]at g7;cases g7
  |succ M=>
   rw[kr]at g7
   refine sq ?_
   refine sq ?_
   obtain⟨u,a,g7⟩:=bnd g7
   refine Goes.cut (s':=(ofG 35 (kG n e (kAO l (kAc f d [(20,.bool u)]))),[])) ?_ ?_
   ·rcases wyD a with⟨o,a⟩|⟨o,a⟩
    ·obtain rfl:=si a
     exact tr fol [4] (kG n e (kAO l (kAc f d [(20,.bool (decide (f=0)))]))) (ac (gw o) az)
    obtain rfl:=si a
    exact tr fol [4] (kG n e (kAO l (kAc f d [(20,.bool false)]))) (ac (gw o) az)
   refine ihB g7 (fun p g7=>?_) (fun p g7=>?_)
   ·refine Goes.skip ?_
    refine sq (Goes.block ?_)
    obtain⟨q,c,g7⟩:=bnd g7
    obtain⟨b,g,g7⟩:=bnd g7
    refine gr fol [4,5,6] (kG n b.1 (kAO l (kAc b.2 d []))) (ac (iv sl28 qx c) (ac (la ag56 qx c) (ac (cv (qh7 n e q g)) az))) ?_
    refine gh fol (kG n b.1 (kAO l (kAc b.2 (w64 (d+1)) []))) ?_
    exact⟨M,(ofG 35 (kG n b.1 (kAO l (kAc b.2 (w64 (d+1)) []))),[]),Nat.lt_succ_self _,(Sub.refl _),_,_,_,rfl,g7⟩
   refine Goes.exit ?_
   obtain rfl:=si g7
   exact⟨rfl,_,_,rfl,(Sub.keep [1,8] rfl rfl)⟩
 rintro x s' ⟨rfl,j,k,rfl,hsub⟩
 try dsimp only at h
 refine Goes.sub hsub ?_
 refine sh fol (kAS j k []) ?_
 refine Goes.ret ?_
 obtain rfl:=si h
 exact(gw2 (kAU j k) (FzW.tuple (qo.cons (Ua (zq encI _ (nl rfl))) (qo.cons (Ua tI) qo.nil))))
def zN (l:List Int):Nat->Int->Option (Unit⊕Int)
 |0,_=>none
 |K+1,a=>
  if a<(l.length:Int)then
  (idx l a).bind fun b=>
  if(!decide (b=0))=true then
  some (.inr b)
  else
  zN l K (w64 (a+1))
  else
  some (.inl ())
def qh (N:Nat) (l:List Int):Option Int:=
 (zN l N 0).bind (fun
 |(.inl ())=>
 some 0
 |(.inr a)=>
 some a)
theorem qg (N:Nat) (l:List Int) {res:Int} (h:qh N l=some res):qf ZT (.fn 33) [vl encI l] [] (.i res) []:=by
 unfold qh at h
 refine Ub Tryz.func33 rfl rfl (m:=15) rfl (rs:=[.tmp 2]) rfl (l:=(kQ l [])) rfl ?_
 refine sh fol (kQ l []) ?_
 refine sq ?_
 refine sh fol [(5,vl encI l),(6,.i (l.length:Int)),(7,.i 0)] ?_
 refine Goes.block ?_
 obtain⟨d,g2,h⟩:=bnd h
 refine Goes.imp (Q:=fun x s'=>(x= .exit 0/\(.inl ())=d/\Sub s' (ofG 15 [],[]))\/(x= .ret/\ ∃e,(.inr e)=d/\jw ZT [.tmp 2] (.i e) .ret s')) ?_ ?_
 ·refine Uf (fun M s=> ∃(a:Int),s=(ofG 15 ((5,vl encI l)::(kAf (l.length:Int) a [])),[])/\zN l M a=some d) ?_ (m:=N) ⟨_,rfl,g2⟩
  rintro M s ⟨a,rfl,g2⟩
  cases M with
  |zero=>simp only[zN]at g2;cases g2
  |succ M=>
   rw[zN]at g2
   refine sh fol ((5,vl encI l)::(kAf (l.length:Int) a [(8,.bool (decide (a<(l.length:Int))))])) ?_
   refine sq ?_
   refine ihD g2 (fun f g2=>?_) (fun f g2=>?_)
   ·refine Goes.skip ?_
    refine sq (Goes.block ?_)
    obtain⟨c,b,g2⟩:=bnd g2
    refine sq (gr fol [0,1] ((4,.i c)::(5,vl encI l)::(kAf (l.length:Int) a [])) (ac (iv sl116 encI b) (ac (lv 0 ce33 encI b rfl) az)) ?_)
    refine sh fol ((4,.i c)::(5,vl encI l)::(kAf (l.length:Int) a [(12,.bool (!decide (c=0)))])) ?_
    refine ihB g2 (fun g g2=>?_) (fun g g2=>?_)
    ·refine sh fol [(2,.i c)] ?_
     refine Goes.ret ?_
     obtain rfl:=si g2
     exact Or.inr (⟨rfl,_,rfl,(gw2 [.i c] (Ua tI))⟩)
    refine Goes.skip ?_
    refine gh fol ((5,vl encI l)::(kAf (l.length:Int) (w64 (a+1)) [])) ?_
    exact⟨M,(ofG 15 ((5,vl encI l)::(kAf (l.length:Int) (w64 (a+1)) [])),[]),Nat.lt_succ_self _,(Sub.refl _),_,rfl,g2⟩
   refine Goes.exit ?_
   obtain rfl:=si g2
   exact Or.inl (⟨rfl,rfl,(Sub.keep [] rfl rfl)⟩)
 rintro x s' (⟨rfl,rfl,hsub⟩|⟨rfl,j,rfl,hret⟩)
 ·try dsimp only at h
  refine Goes.sub hsub ?_
  refine sh fol [(2,.i 0)] ?_
  refine Goes.ret ?_
  obtain rfl:=si h
  exact(gw2 [.i 0] (Ua tI))
 try dsimp only at h
 obtain rfl:=si h
 exact hret
def qb (holds:Bool) (e:Int):Option Int:=
 if holds=true then
 some e
 else
 some 0
theorem qa (holds:Bool) (e:Int) {res:Int} (h:qb holds e=some res):qf ZT (.fn 45) [.bool holds,.i e] [] (.i res) []:=by
 unfold qb at h
 refine Ub Tryz.func45 rfl rfl (m:=7) rfl (rs:=[.tmp 4]) rfl (l:=[(0,.bool holds),(1,.i e)]) rfl ?_
 refine sh fol [(0,.bool holds),(1,.i e)] ?_
 refine sq ?_
 refine sh fol [(1,.i e),(5,.bool holds)] ?_
 refine ihB h (fun a h=>?_) (fun a h=>?_)
 ·refine sh fol [(4,.i e)] ?_
  refine Goes.ret ?_
  obtain rfl:=si h
  exact(gw2 [.i e] (Ua tI))
 refine Goes.skip ?_
 refine sh fol [(4,.i 0)] ?_
 refine Goes.ret ?_
 obtain rfl:=si h
 exact(gw2 [.i 0] (Ua tI))
def zQ (n:Int):Option Int:=
 (if n<1 then
 (qb true 3).bind fun a=>
 some a
 else
 (qb (decide (n>12)) 3).bind fun b=>
 some b:Option Int).bind fun c=>
 some c
theorem qan (n:Int) {res:Int} (h:zQ n=some res):qf ZT (.fn 34) [.i n] [] (.i res) []:=by
 unfold zQ at h
 refine Ub Tryz.func34 rfl rfl (m:=10) rfl (rs:=[.tmp 2]) rfl (l:=[(0,.i n)]) rfl ?_
 refine sh fol [(0,.i n)] ?_
 refine sq ?_
 obtain⟨e,a,h⟩:=bnd h
 refine Goes.cut (s':=(ofG 10 [(2,.i e)],[])) ?_ ?_
 ·rcases wyD a with⟨d,a⟩|⟨d,a⟩
  ·obtain⟨f,b,a⟩:=bnd a
   obtain rfl:=si a
   exact tr fol [2,6] [(2,.i f)] (ac (gw d) (ac (cv (qa true 3 b)) az))
  obtain⟨g,c,a⟩:=bnd a
  obtain rfl:=si a
  exact tr fol [2,6] [(2,.i g)] (ac (gw d) (ac (cv (qa (decide (n>12)) 3 c)) az))
 refine Goes.ret ?_
 obtain rfl:=si h
 exact(gw2 [.i e] (Ua tI))
def qR (n:Int) (letter:Int):Option Bool:=
 (if letter=0 then
 some true
 else
 if letter<=(w64 (0-n))then
 some true
 else
 some (decide (letter>=n)):Option Bool).bind fun a=>
 some a
theorem qw (n:Int) (letter:Int) {res:Bool} (h:qR n letter=some res):qf ZT (.fn 57) [.i n,.i letter] [] (.bool res) []:=by
 unfold qR at h
 refine Ub Tryz.func57 rfl rfl (m:=18) rfl (rs:=[.tmp 4]) rfl (l:=(kAp n letter [])) rfl ?_
 refine sh fol (kAp n letter []) ?_
 refine sq ?_
 obtain⟨d,a,h⟩:=bnd h
 refine Goes.cut (s':=(ofG 18 (kAg d),[])) ?_ ?_
 ·rcases wyD a with⟨b,a⟩|⟨b,a⟩
  ·obtain rfl:=si a
   exact tr fol [2] kAb (ac (gw b) az)
  rcases wyD a with⟨c,a⟩|⟨c,a⟩
  ·obtain rfl:=si a
   exact tr fol [2,8] kAb (ac (gw b) (ac (gw c) az))
  obtain rfl:=si a
  exact tr fol [2,8] (kAg (decide (letter>=n))) (ac (gw b) (ac (gw c) az))
 refine Goes.ret ?_
 obtain rfl:=si h
 exact(gw2 [.bool d] (Ua tB))
def vI (a:Int) (b:Int):Option Bool:=
 (qR b a).bind fun c=>
 some c
theorem qbt (a:Int) (b:Int) {res:Bool} (h:vI a b=some res):qf ZT (.fn 56) [.i a,.fptr [.i b] 0] [] (.bool res) []:=by
 unfold vI at h
 refine Ub Tryz.func56 rfl rfl (m:=7) rfl (rs:=[.tmp 3]) rfl (l:=[(0,.i a),(1,.fptr [.i b] 0)]) rfl ?_
 refine sh fol [(0,.i a),(1,.fptr [.i b] 0)] ?_
 obtain⟨d,c,h⟩:=bnd h
 refine sq (gr fol [2] [(3,.bool d)] (ac (cv (qw b a c)) az) ?_)
 refine Goes.ret ?_
 obtain rfl:=si h
 exact(gw2 [.bool d] (Ua tB))
def qE (a:List Int) (b:Int):Nat->Int->Option (Unit⊕Int)
 |0,_=>none
 |K+1,c=>
  if c<(a.length:Int)then
  (idx a c).bind fun d=>
  (vI d b).bind fun e=>
  if e=true then
  some (.inr c)
  else
  qE a b K (w64 (c+1))
  else
  some (.inl ())
def jQ (N:Nat) (a:List Int) (b:Int):Option Int:=
 (qE a b N 0).bind (fun
 |(.inl ())=>
 some (-1)
 |(.inr c)=>
 some c)
theorem qa5 (N:Nat) (a:List Int) (b:Int) {res:Int} (h:jQ N a b=some res):qf ZT (.fn 96) [vl encI a,.func (.func 56) [] [.fptr [.i b] 0]] [] (.i res) []:=by
 unfold jQ at h
 refine Ub Tryz.func96 rfl rfl (m:=19) rfl (rs:=[.tmp 4]) rfl (l:=(kQ a [(1,.func (.func 56) [] [.fptr [.i b] 0])])) rfl ?_
 refine sh fol (kQ a [(1,.func (.func 56) [] [.fptr [.i b] 0])]) ?_
 refine sq ?_
 refine sh fol (kQ a [(1,.func (.func 56) [] [.fptr [.i b] 0]),(7,.i (a.length:Int)),(8,.i 0)]) ?_
 refine Goes.block ?_
 obtain⟨f,g2,h⟩:=bnd h
 refine Goes.imp (Q:=fun x s'=>(x= .exit 0/\(.inl ())=f/\Sub s' (ofG 19 [],[]))\/(x= .ret/\ ∃j,(.inr j)=f/\jw ZT [.tmp 4] (.i j) .ret s')) ?_ ?_
 ·refine Uf (fun M s=> ∃(c:Int),s=(ofG 19 (kQ a [(1,.func (.func 56) [] [.fptr [.i b] 0]),(7,.i (a.length:Int)),(8,.i c)]),[])/\qE a b M c=some f) ?_ (m:=N) ⟨_,rfl,g2⟩
  rintro M s ⟨c,rfl,g2⟩
  cases M with
  |zero=>simp only[qE]at g2;cases g2
  |succ M=>
   rw[qE]at g2
   refine sh fol (kQ a [(1,.func (.func 56) [] [.fptr [.i b] 0]),(7,.i (a.length:Int)),(8,.i c),(9,.bool (decide (c<(a.length:Int))))]) ?_
   refine sq ?_
   refine ihD g2 (fun n g2=>?_) (fun n g2=>?_)
   ·refine Goes.skip ?_
    refine sq (Goes.block ?_)
    refine sh fol (kQ a [(1,.func (.func 56) [] [.fptr [.i b] 0]),(5,.i c),(7,.i (a.length:Int)),(8,.i c)]) ?_
    obtain⟨g,d,g2⟩:=bnd g2
    obtain⟨k,e,g2⟩:=bnd g2
    refine sq (gr fol [3,4,5] (kQ a [(1,.func (.func 56) [] [.fptr [.i b] 0]),(5,.i c),(7,.i (a.length:Int)),(8,.i c),(16,.bool k)]) (ac (iv ja encI d) (ac (lv 0 ce3 encI d rfl) (ac (hs (.call 56 [.i g,.fptr [.i b] 0] [] [] [.i g,.fptr [.i b] 0] (.bool k)) (qiW (FzL.cons (Uv tI) (FzL.cons (Uv (Still.fptr (AllST.cons tI AllST.nil))) FzL.nil)) (qbt g b e) tB)) az))) ?_)
    refine ihB g2 (fun o g2=>?_) (fun o g2=>?_)
    ·refine sh fol [(4,.i c)] ?_
     refine Goes.ret ?_
     obtain rfl:=si g2
     exact Or.inr (⟨rfl,_,rfl,(gw2 [.i c] (Ua tI))⟩)
    refine Goes.skip ?_
    refine gh fol (kQ a [(1,.func (.func 56) [] [.fptr [.i b] 0]),(7,.i (a.length:Int)),(8,.i (w64 (c+1)))]) ?_
    exact⟨M,(ofG 19 (kQ a [(1,.func (.func 56) [] [.fptr [.i b] 0]),(7,.i (a.length:Int)),(8,.i (w64 (c+1)))]),[]),Nat.lt_succ_self _,(Sub.refl _),_,rfl,g2⟩
   refine Goes.exit ?_
   obtain rfl:=si g2
   exact Or.inl (⟨rfl,rfl,(Sub.keep [] rfl rfl)⟩)
 rintro x s' (⟨rfl,rfl,hsub⟩|⟨rfl,p,rfl,hret⟩)
 ·try dsimp only at h
  refine Goes.sub hsub ?_
  refine sh fol [(4,.i (-1))] ?_
  refine Goes.ret ?_
  obtain rfl:=si h
  exact(gw2 [.i (-1)] (Ua tI))
 try dsimp only at h
 obtain rfl:=si h
 exact hret
def jh (N:Nat) (a:List Int) (b:Int):Option Bool:=
 (jQ N a b).bind fun c=>
 some (decide (c>=0))
theorem qaD (N:Nat) (a:List Int) (b:Int) {res:Bool} (h:jh N a b=some res):qf ZT (.fn 55) [vl encI a,.func (.func 56) [] [.fptr [.i b] 0]] [] (.bool res) []:=by
 unfold jh at h
 refine Ub Tryz.func55 rfl rfl (m:=9) rfl (rs:=[.tmp 4]) rfl (l:=(kQ a [(1,.func (.func 56) [] [.fptr [.i b] 0])])) rfl ?_
 refine sh fol (kQ a [(1,.func (.func 56) [] [.fptr [.i b] 0])]) ?_
 obtain⟨d,c,h⟩:=bnd h
 refine sq (gr fol [2] (kAg (decide (d>=0))) (ac (hs (.call 96 [vl encI a,.func (.func 56) [] [.fptr [.i b] 0]] [] [] [vl encI a,.func (.func 56) [] [.fptr [.i b] 0]] (.i d)) (qiW (FzL.cons (Uv (zq encI _ (nl rfl))) (FzL.cons (Fz.func FzL.nil (FzL.cons (Uv (Still.fptr (AllST.cons tI AllST.nil))) FzL.nil)) FzL.nil)) (qa5 N a b c) tI)) az) ?_)
 refine Goes.ret ?_
 obtain rfl:=si h
 exact(gw2 [.bool (decide (d>=0))] (Ua tB))
def zt (N:Nat) (n:Int) (w:List Int):Option Int:=
 (zQ n).bind fun b=>
 (qb (decide ((w.length:Int)>200)) 5).bind fun c=>
 (qh N ([b,c]:List Int)).bind fun a=>
 if(!decide (a=0))=true then
 some a
 else
 (jh N w n).bind fun d=>
 (qb d 3).bind fun e=>
 some e
theorem jG (N:Nat) (n:Int) (w:List Int) {res:Int} (h:zt N n w=some res):qf ZT (.fn 27) [.i n,vl encI w] [] (.i res) []:=by
 unfold zt at h
 refine Ub Tryz.func27 rfl rfl (m:=21) rfl (rs:=[.tmp 4]) rfl (l:=(kG n w [])) rfl ?_
 refine sg fol [(1,vl encI w),(2,.ptr 0 0)] [.cells [.i n]] ?_
 refine sq ?_
 obtain⟨b,c,h⟩:=bnd h
 obtain⟨d,e,h⟩:=bnd h
 obtain⟨a,f,h⟩:=bnd h
 refine sq (gq fol [1,5,7] ((1,vl encI w)::(2,.ptr 0 0)::(kAl a)) (.cells [.i n]::(kT b d)) (ac (cv (qan n c)) (ac (cv (qa (decide ((w.length:Int)>200)) 5 e)) (ac (hs (.call 33 [.slice 1 0 2 2 1] (.cells [.i n]::(kT b d)) [1] [vl encI ([b,d]:List Int)] (.i a)) (qM (FzL.cons (Fz.lit rfl rfl (Uc (AllST.cons tI (AllST.cons tI AllST.nil)))) FzL.nil) (qg N ([b,d]:List Int) f) tI rfl)) az))) ?_)
 refine sh fol [(1,vl encI w),(2,.ptr 0 0),(5,.i a),(15,.bool (!decide (a=0)))] ?_
 refine ihB h (fun p h=>?_) (fun p h=>?_)
 ·refine sh fol [(4,.i a)] ?_
  refine Goes.ret ?_
  obtain rfl:=si h
  exact(gw2 [.i a] (Ua tI))
 refine Goes.skip ?_
 obtain⟨k,g,h⟩:=bnd h
 obtain⟨o,j,h⟩:=bnd h
 refine sq (gr fol [2,3] [(4,.i o)] (ac (hs (.call 55 [vl encI w,.func (.func 56) [] [.ptr 0 0]] (.cells [.i n]::(kT b d)) [0] [vl encI w,.func (.func 56) [] [.fptr [.i n] 0]] (.bool k)) (qM (FzL.cons (Uv (zq encI _ (nl rfl))) (FzL.cons (Fz.func FzL.nil (FzL.cons (Fz.ptr rfl rfl (FzL.cons (Uv tI) FzL.nil)) FzL.nil)) FzL.nil)) (qaD N w n g) tB rfl)) (ac (cv (qa k 3 j)) az)) ?_)
 refine Goes.ret ?_
 obtain rfl:=si h
 exact(gw2 [.i o] (Ua tI))
def qae (a:List Int):Option Bool:=
 some true
theorem qdN (a:List Int) {res:Bool} (h:qae a=some res):qf ZT (.fn 115) [vl encI a] [] (.bool res) []:=by
 unfold qae at h
 refine Ub Tryz.func115 rfl rfl (m:=3) rfl (rs:=[.tmp 2]) rfl (l:=(kQ a [])) rfl ?_
 refine sh fol [] ?_
 refine sh fol [(2,.bool true)] ?_
 refine Goes.ret ?_
 obtain rfl:=si h
 exact(gw2 [.bool true] (Ua tB))
def qaf (l:List Int):Option Bool:=
 (idx l 0).bind fun a=>
 (idx l 1).bind fun b=>
 some (decide (a=(w64 (0-b))))
theorem qd3 (l:List Int) {res:Bool} (h:qaf l=some res):qf ZT (.fn 117) [vl encI l] [] (.bool res) []:=by
 unfold qaf at h
 refine Ub Tryz.func117 rfl rfl (m:=11) rfl (rs:=[.tmp 2]) rfl (l:=(kQ l [])) rfl ?_
 refine sh fol (kQ l []) ?_
 obtain⟨c,a,h⟩:=bnd h
 obtain⟨d,b,h⟩:=bnd h
 refine sq (gr fol [1,2,4,5] [(2,.bool (decide (c=(w64 (0-d)))))] (ac (iv ja encI a) (ac (lv 0 ce3 encI a rfl) (ac (iv ja encI b) (ac (lv 0 ce3 encI b rfl) az)))) ?_)
 refine Goes.ret ?_
 obtain rfl:=si h
 exact(gw2 [.bool (decide (c=(w64 (0-d))))] (Ua tB))
def jk (n:Int):Option Int:=
 some (if(w64 (0-n))>n then(w64 (0-n))else n)
theorem qA (n:Int) {res:Int} (h:jk n=some res):qf ZT (.fn 59) [.i n] [] (.i res) []:=by
 unfold jk at h
 refine Ub Tryz.func59 rfl rfl (m:=7) rfl (rs:=[.tmp 2]) rfl (l:=[(0,.i n)]) rfl ?_
 refine sh fol [(0,.i n)] ?_
 refine sh fol [(2,.i (if(w64 (0-n))>n then(w64 (0-n))else n))] ?_
 refine Goes.ret ?_
 obtain rfl:=si h
 exact(gw2 [.i (if(w64 (0-n))>n then(w64 (0-n))else n)] (Ua tI))
def y9 (l:List Int):Option Bool:=
 (idx l 0).bind fun a=>
 (jk a).bind fun b=>
 (idx l 1).bind fun c=>
 (jk c).bind fun d=>
 (jk (w64 (b-d))).bind fun e=>
 some (decide (e>=2))
theorem qdJ (l:List Int) {res:Bool} (h:y9 l=some res):qf ZT (.fn 119) [vl encI l] [] (.bool res) []:=by
 unfold y9 at h
 refine Ub Tryz.func119 rfl rfl (m:=14) rfl (rs:=[.tmp 2]) rfl (l:=(kQ l [])) rfl ?_
 refine sh fol (kQ l []) ?_
 obtain⟨g,a,h⟩:=bnd h
 obtain⟨i,c,h⟩:=bnd h
 obtain⟨j,b,h⟩:=bnd h
 obtain⟨k,d,h⟩:=bnd h
 obtain⟨f,e,h⟩:=bnd h
 refine sq (gr fol [1,2,3,5,6,7,9] [(2,.bool (decide (f>=2)))] (ac (iv ja encI a) (ac (lv 0 ce3 encI a rfl) (ac (cv (qA g c)) (ac (iv ja encI b) (ac (lv 0 ce3 encI b rfl) (ac (cv (qA j d)) (ac (cv (qA (w64 (i-k)) e)) az))))))) ?_)
 refine Goes.ret ?_
 obtain rfl:=si h
 exact(gw2 [.bool (decide (f>=2))] (Ua tB))
def zS (a:Int):Option Int:=
 some (if(if a<1 then a else 1)>(-1)then(if a<1 then a else 1)else(-1))
theorem zK (a:Int) {res:Int} (h:zS a=some res):qf ZT (.fn 76) [.i a] [] (.i res) []:=by
 unfold zS at h
 refine Ub Tryz.func76 rfl rfl (m:=6) rfl (rs:=[.tmp 2]) rfl (l:=[(0,.i a)]) rfl ?_
 refine sh fol [(0,.i a)] ?_
 refine sh fol [(2,.i (if(if a<1 then a else 1)>(-1)then(if a<1 then a else 1)else(-1)))] ?_
 refine Goes.ret ?_
 obtain rfl:=si h
 exact(gw2 [.i (if(if a<1 then a else 1)>(-1)then(if a<1 then a else 1)else(-1))] (Ua tI))
def qaB (l:List Int):Option Bool:=
 (idx l 0).bind fun a=>
 (idx l 1).bind fun b=>
 (idx l 2).bind fun h=>
 ((jk a).bind fun i=>
 (jk h).bind fun j=>
 if i=j then
 (jk a).bind fun k=>
 (jk b).bind fun m=>
 (jk (w64 (k-m))).bind fun n=>
 if n=1 then
 (zS a).bind fun c=>
 (zS b).bind fun d=>
 if c=d then
 some true
 else
 (zS b).bind fun e=>
 (zS h).bind fun f=>
 some (decide (e=f))
 else
 some false
 else
 some false:Option Bool).bind fun g=>
 some g
theorem qfD (l:List Int) {res:Bool} (h:qaB l=some res):qf ZT (.fn 121) [vl encI l] [] (.bool res) []:=by
 unfold qaB at h
 refine Ub Tryz.func121 rfl rfl (m:=43) rfl (rs:=[.tmp 2]) rfl (l:=(kQ l [])) rfl ?_
 refine sh fol (kQ l []) ?_
 obtain⟨k,o,h⟩:=bnd h
 obtain⟨r,p,h⟩:=bnd h
 obtain⟨v,q,h⟩:=bnd h
 refine sq (gr fol [1,2,4,5,7,8] ((3,.i k)::(4,.i r)::(kAl v)) (ac (iv ja encI o) (ac (lv 0 ce3 encI o rfl) (ac (iv ja encI p) (ac (lv 0 ce3 encI p rfl) (ac (iv ja encI q) (ac (lv 0 ce3 encI q rfl) az)))))) ?_)
 refine sq ?_
 obtain⟨w,a,h⟩:=bnd h
 refine Goes.cut (s':=(ofG 43 [(2,.bool w)],[])) ?_ ?_
 ·obtain⟨E,b,a⟩:=bnd a
  obtain⟨F,c,a⟩:=bnd a
  rcases wyD a with⟨x,a⟩|⟨x,a⟩
  ·obtain⟨y,d,a⟩:=bnd a
   obtain⟨z,e,a⟩:=bnd a
   obtain⟨G,f,a⟩:=bnd a
   rcases wyD a with⟨n,a⟩|⟨n,a⟩
   ·obtain⟨C,g,a⟩:=bnd a
    obtain⟨D,j,a⟩:=bnd a
    rcases wyD a with⟨s,a⟩|⟨s,a⟩
    ·obtain rfl:=si a
     exact tr fol [1,3,5,7,9,11,14,16,18,20] [(2,.bool true)] (ac (cv (qA k b)) (ac (cv (qA v c)) (ac (gw x) (ac (cv (qA k d)) (ac (cv (qA r e)) (ac (cv (qA (w64 (y-z)) f)) (ac (gw n) (ac (cv (zK k g)) (ac (cv (zK r j)) (ac (gw s) az))))))))))
    obtain⟨A,t,a⟩:=bnd a
    obtain⟨B,u,a⟩:=bnd a
    obtain rfl:=si a
    exact tr fol [1,3,5,7,9,11,14,16,18,20,22,24] [(2,.bool (decide (A=B)))] (ac (cv (qA k b)) (ac (cv (qA v c)) (ac (gw x) (ac (cv (qA k d)) (ac (cv (qA r e)) (ac (cv (qA (w64 (y-z)) f)) (ac (gw n) (ac (cv (zK k g)) (ac (cv (zK r j)) (ac (gw s) (ac (cv (zK r t)) (ac (cv (zK v u)) az))))))))))))
   obtain rfl:=si a
   exact tr fol [1,3,5,7,9,11,14] kAe (ac (cv (qA k b)) (ac (cv (qA v c)) (ac (gw x) (ac (cv (qA k d)) (ac (cv (qA r e)) (ac (cv (qA (w64 (y-z)) f)) (ac (gw n) az)))))))
  obtain rfl:=si a
  exact tr fol [1,3,5] kAe (ac (cv (qA k b)) (ac (cv (qA v c)) (ac (gw x) az)))
 refine Goes.ret ?_
 obtain rfl:=si h
 exact(gw2 [.bool w] (Ua tB))
def yw:Option Unit:=
 some ()
theorem xg {res:Unit} (h:yw=some res):qf ZT (.fn 97) [] [] (fm1) []:=by
 unfold yw at h
 refine Ub Tryz.func97 rfl rfl (m:=7) rfl (rs:=[.tmp 0]) rfl (l:=[]) rfl ?_
 refine sh fol [] ?_
 refine sg fol [(0,.map 0)] [.map kAV [.agg [.i 0,.func (.func 115) [] [],.func (.func 116) [] []],.agg [.i 2,.func (.func 117) [] [],.func (.func 118) [] []],.agg [.i 2,.func (.func 119) [] [],.func (.func 120) [] []],.agg [.i 3,.func (.func 121) [] [],.func (.func 122) [] []]]] ?_
 refine Goes.ret ?_
 obtain rfl:=si h
 exact(gw2 [.map 0] (FzW.of (by kernel_rfl)))
end Go.Av
