/-
  Walks of functions: what each computes, as a plain function.
-/
import Derived.Test.YtbphjicicbikhaaGreatDoorAvJnB7
noncomputable section
namespace Go.Av
open Go.Proofs Go.RowKit
abbrev ZT:=Tryz.prog
set_option linter.unusedSectionVars false
set_option linter.unusedVariables false
set_option linter.unusedSimpArgs false
set_option maxRecDepth 100000
theorem fol:Tryz.prog.follows .mixedOrders=true:=by kernel_rfl
structure qaR where
 Half:Int
 Factors:List (List Int)
def qoA:Enc qaR:=(encI.prod (qc (qc encI))).comap fun x=>(x.Half,x.Factors)
instance:SE qoA:=⟨nl rfl⟩
abbrev kA (a:List Int) (x:List Blk):List Blk:= .cells (a.flatMap encI.c)::x
abbrev kB {α0:Type} (a:List α0) (x:List Blk):List Blk:= .cells [.slice 2 0 a.length a.length 1]::x
abbrev kC (a:Int) (b:List Int) (x:List (Nat×AV)):List (Nat×AV):=(0,.i a)::(1,vl encI b)::x
abbrev kD (a:Int) (b:List Int) (x:List Blk):List Blk:= .cells [.i a]:: .cells [vl encI b]::x
abbrev kE (a:Int) (x:List (Nat×AV)):List (Nat×AV):=(0,.i a)::(4,.ptr 0 0)::(5,.ptr 1 0)::x
abbrev kF {α0:Type} (a:List α0) (b:List Int) (c:Int) (d:Int) (x:List (Nat×AV)):List (Nat×AV):=(4,.slice 5 0 a.length a.length 1)::(10,vl encI b)::(11,.i c)::(12,.i d)::x
abbrev kG {α0:Type} (a:List α0) (x:List Blk):List Blk:= .cells [.slice 1 0 a.length a.length 1]::x
abbrev kH (a:List Int) (b:List Int) (x:List (Nat×AV)):List (Nat×AV):=(0,vl encI a)::(1,vl encI b)::x
abbrev kI {α0:Type} (a:List α0) (x:List (Nat×AV)):List (Nat×AV):=(3,.slice 0 0 a.length a.length 1)::x
abbrev kJ (a:List Int) (b:List Int) (x:List (Nat×AV)):List (Nat×AV):=(2,vl encI a)::(7,vl encI b)::x
abbrev kK {α1:Type} (a:Int) (b:List α1) (c:List Int) (x:List (Nat×AV)):List (Nat×AV):=(3,.i a)::(4,.slice 0 0 b.length b.length 1)::(11,vl encI c)::(12,.i a)::x
abbrev kL (a:Int) (x:List Blk):List Blk:=bZ:: .cells [.i a,.nilslice]::x
abbrev kM (a:List Int) (x:List (Nat×AV)):List (Nat×AV):=(0,vl encI a)::x
abbrev kN (a:List Int) (b:Int) (c:Int) (x:List (Nat×AV)):List (Nat×AV):=(10,vl encI a)::(11,.i b)::(12,.i c)::x
abbrev kO (a:Int) (b:Int) (x:List Blk):List Blk:= .cells [.i a,.i b]::x
abbrev kP {α0:Type} (a:List α0) (x:List Blk):List Blk:= .cells [.slice 0 0 a.length a.length 1]::x
abbrev kQ {α0:Type} (a:List α0) (x:List Blk):List Blk:= .cells [.gslice 1 a.length 1]::x
abbrev kR {α1:Type} (a:List Int) (b:List α1) (x:List (Nat×AV)):List (Nat×AV):=(3,vl encI a)::(4,.gslice 0 b.length 1)::x
abbrev kS {α0:Type} (a:List α0) (b:Int) (c:Int) (x:List (Nat×AV)):List (Nat×AV):=(48,.gslice 3 a.length 1)::(49,.i b)::(50,.i c)::x
abbrev kT {α0:Type} (a:List α0):List Blk:=[.cells [.gslice 0 a.length 1]]
abbrev kU (a:List Int) (b:Int) (c:Int) (x:List (Nat×AV)):List (Nat×AV):=(15,vl encI a)::(16,.i b)::(17,.i c)::x
abbrev kV (a:Int) (b:Int):List (Nat×AV):=[(12,.i a),(13,.i b)]
abbrev kW (a:Int):List (Nat×AV):=[(5,.ptr 1 0),(7,.i a),(8,.ptr 3 0)]
abbrev kX {α0:Type} (a:List α0) (x:List (Nat×AV)):List (Nat×AV):=(4,.slice 5 0 a.length a.length 1)::x
abbrev kY {α0:Type} (a:List α0) (b:Int) (c:Int) (x:List (Nat×AV)):List (Nat×AV):=(0,.slice 0 0 a.length a.length 1)::(2,.i b)::(3,.i c)::x
abbrev kZ {α1:Type} (a:Int) (b:List α1) (x:List Blk):List Blk:= .cells [.i a,.gslice 2 b.length 1]::x
abbrev kAA {α0:Type} (a:List α0) (x:List (Nat×AV)):List (Nat×AV):=(6,.gslice 2 a.length 1)::x
abbrev kAB (a:Option (List Int)):List Blk:=[.cells ((hof a).flatMap encI.c)]
abbrev kAC (a:Int) (b:Int) (x:List (Nat×AV)):List (Nat×AV):=(9,.i a)::(10,.i b)::x
abbrev kAD (a:Int) (b:Int):List (Nat×AV):=[(10,.i a),(11,.i b)]
abbrev kAE:List (Nat×AV):=[(4,.bool false)]
abbrev kAF {α0:Type} (a:List α0) (x:List (Nat×AV)):List (Nat×AV):=(5,.gslice 1 a.length 1)::x
abbrev kAG {α0:Type} (a:List α0) (x:List (Nat×AV)):List (Nat×AV):=(3,.gslice 0 a.length 1)::x
abbrev kAH (x:List (Nat×AV)):List (Nat×AV):=(5,.ptr 1 0)::x
abbrev kAI (a:Int) (b:Int) (c:Int) (d:Int) (e:Bool) (f:Int) (x:List (Nat×AV)):List (Nat×AV):=(17,.i a)::(19,.i b)::(21,.i c)::(23,.i d)::(24,.bool e)::(25,.i f)::x
abbrev kAJ (x:List (Nat×AV)):List (Nat×AV):=(1,.ptr 1 0)::x
abbrev kAK:List Blk:=[.cells (([]:List Int).flatMap encI.c)]
abbrev kAL:List (Nat×AV):=[(6,.bool false)]
abbrev kAM (a:Int) (x:List Blk):List Blk:= .cells [.i a]::x
abbrev kAN (x:List (Nat×AV)):List (Nat×AV):=(5,.ptr 0 0)::x
abbrev kAO {α0:Type} (a:List α0) (x:List (Nat×AV)):List (Nat×AV):=(8,.gslice 0 a.length 1)::x
abbrev kAP (a:List Int):List (Nat×AV):=[(2,vl encI a),(62,.bool true)]
abbrev kAQ (a:List Int) (x:List Blk):List Blk:= .cells [vl encI a]::x
abbrev kAR (a:List Int) (b:List Int):List AV:=[vl encI a,vl encI b]
abbrev kAS:List (Nat×AV):=[(4,.bool true)]
abbrev kAT (a:Bool):List (Nat×AV):=[(4,.bool a)]
abbrev kAU (a:List Int) (x:List (Nat×AV)):List (Nat×AV):=(1,vl encI a)::(2,.ptr 0 0)::x
abbrev kAV {α0:Type} (a:List α0):List (Nat×AV):=[(2,.slice 0 0 a.length a.length 1)]
abbrev kAW:List AV:=[.ptr 2 0,.ptr 3 0]
abbrev kAX (a:Int):List (Nat×AV):=[(1,.i a)]
abbrev kAY (a:Int) (b:List Int):List AV:=[.i a,vl encI b]
theorem xx:SlT ZT 22 3 1 8:=⟨by kernel_rfl,by kernel_rfl,by kernel_rfl,by kernel_rfl⟩
theorem ce3:CeT ZT 3:=⟨by kernel_rfl,by kernel_rfl⟩
theorem sl169:SlT ZT 169 26 1 8:=⟨by kernel_rfl,by kernel_rfl,by kernel_rfl,by kernel_rfl⟩
theorem ce26:CeT ZT 26:=⟨by kernel_rfl,by kernel_rfl⟩
theorem qhh:SlT ZT 25 22 1 24:=⟨by kernel_rfl,by kernel_rfl,by kernel_rfl,by kernel_rfl⟩
noncomputable abbrev qa:Code:=(Tryz.f64.body.getD .skip).x2.x2.x2.x1.x2.x1
theorem qkh:CeT ZT 22:=⟨by kernel_rfl,by kernel_rfl⟩
theorem qbA:SlT ZT 155 3 1 8:=⟨by kernel_rfl,by kernel_rfl,by kernel_rfl,by kernel_rfl⟩
theorem qeE:SlT ZT 208 155 1 24:=⟨by kernel_rfl,by kernel_rfl,by kernel_rfl,by kernel_rfl⟩
theorem qjx:CeT ZT 155:=⟨by kernel_rfl,by kernel_rfl⟩
theorem qov:MpT ZT 223 3 4 (.int .i64) (.bool false):=⟨by kernel_rfl,by kernel_rfl,by kernel_rfl⟩
noncomputable abbrev qb:Code:=(Tryz.f66.body.getD .skip).x2.x2.x1.x2.x1
theorem it3:Tryz.prog.underlying 3=some (.int .i64):=by kernel_rfl
def qbM (n:Int) (c:Int):Option Bool:=
 (if(!decide (c=0))=true then
 if c>(w64 (0-n))then
 some (decide (c<n))
 else
 some false
 else
 some false:Option Bool).bind fun a=>
 some a
theorem qhc (n:Int) (c:Int) {res:Bool} (h:qbM n c=some res):qd ZT (.fn 62) [.i n,.i c] [] (.bool res) []:=by
 unfold qbM at h
 refine Uc Tryz.func62 rfl rfl (m:=18) rfl (rs:=[.tmp 4]) rfl (l:=((0,.i n)::(kAX c))) rfl ?_
 refine sh fol ((0,.i n)::(kAX c)) ?_
 refine sq ?_
 obtain⟨e,a,h⟩:=bnd h
 refine Goes.cut (s':=(ofG 18 (kAT e),[])) ?_ ?_
 ·rcases wyB a with⟨b,a⟩|⟨b,a⟩
  ·rcases wyD a with⟨d,a⟩|⟨d,a⟩
   ·obtain rfl:=si a
    exact tr fol [2,8] (kAT (decide (c<n))) (ac (gw b) (ac (gw d) az))
   obtain rfl:=si a
   exact tr fol [2,8] kAE (ac (gw b) (ac (gw d) az))
  obtain rfl:=si a
  exact tr fol [2] kAE (ac (gw b) az)
 refine Goes.ret ?_
 obtain rfl:=si h
 exact(gw2 [.bool e] (Ua tB))
def vz (n:Int) (w:List Int):Nat->Int->Option (Unit⊕Int)
 |0,_=>none
 |K+1,a=>
  if a<(w.length:Int)then
  (idx w a).bind fun b=>
  (qbM n b).bind fun c=>
  if(!c)=true then
  some (.inr 3)
  else
  vz n w K (w64 (a+1))
  else
  some (.inl ())
def qag (N:Nat) (n:Int) (w:List Int):Option Int:=
 (if n<1 then
 some true
 else
 some (decide (n>12)):Option Bool).bind fun b=>
 if b=true then
 some 3
 else
 if(w.length:Int)>200 then
 some 5
 else
 (vz n w N 0).bind (fun
 |(.inl ())=>
 some 0
 |(.inr a)=>
 some a)
theorem qcR (N:Nat) (n:Int) (w:List Int) {res:Int} (h:qag N n w=some res):qd ZT (.fn 11) (kAY n w) [] (.i res) []:=by
 unfold qag at h
 refine Uc Tryz.func11 rfl rfl (m:=28) rfl (rs:=[.tmp 4]) rfl (l:=(kC n w [])) rfl ?_
 refine sh fol (kC n w []) ?_
 refine sq ?_
 refine sq ?_
 obtain⟨p,a,h⟩:=bnd h
 refine Goes.cut (s':=(ofG 28 (kC n w [(11,.bool p)]),[])) ?_ ?_
 ·rcases wyD a with⟨e,a⟩|⟨e,a⟩
  ·obtain rfl:=si a
   exact tr fol [2] (kC n w [(11,.bool true)]) (ac (gw e) az)
  obtain rfl:=si a
  exact tr fol [2] (kC n w [(11,.bool (decide (n>12)))]) (ac (gw e) az)
 refine ihB h (fun q h=>?_) (fun q h=>?_)
 ·refine sh fol [(4,.i 3)] ?_
  refine Goes.ret ?_
  obtain rfl:=si h
  exact(gw2 [.i 3] (Ua tI))
 refine Goes.skip ?_
 refine sq ?_
 refine sh fol (kC n w [(14,.bool (decide ((w.length:Int)>200)))]) ?_
 refine ihD h (fun r h=>?_) (fun r h=>?_)
 ·refine sh fol [(4,.i 5)] ?_
  refine Goes.ret ?_
  obtain rfl:=si h
  exact(gw2 [.i 5] (Ua tI))
 refine Goes.skip ?_
 refine sq ?_
 refine sh fol (kC n w [(5,.i 0)]) ?_
 refine Goes.block ?_
 obtain⟨f,g7,h⟩:=bnd h
 refine Goes.imp (Q:=fun x s'=>(x= .exit 0/\(.inl ())=f/\Sub s' (ofG 28 [],[]))\/(x= .ret/\ ∃o,(.inr o)=f/\vK ZT [.tmp 4] (.i o) .ret s')) ?_ ?_
 ·refine Ue (fun M s=> ∃(c:Int),s=(ofG 28 (kC n w [(5,.i c)]),[])/\vz n w M c=some f) ?_ (m:=N) ⟨_,rfl,g7⟩
  rintro M s ⟨c,rfl,g7⟩
  cases M with
  |zero=>simp only[vz]at g7;cases g7
  |succ M=>
   rw[vz]at g7
   refine sq ?_
   refine sh fol (kC n w [(5,.i c),(18,.bool (decide (c<(w.length:Int))))]) ?_
   refine ihD g7 (fun t g7=>?_) (fun t g7=>?_)
   ·refine Goes.skip ?_
    refine sq (Goes.block ?_)
    obtain⟨g,b,g7⟩:=bnd g7
    obtain⟨j,d,g7⟩:=bnd g7
    refine sq (gr fol [3,4,5] (kC n w [(5,.i c),(27,.bool (!j))]) (ac (iv xx encI b) (ac (lv 0 ce3 encI b rfl) (ac (cv (qhc n g d)) az))) ?_)
    refine ihB g7 (fun k g7=>?_) (fun k g7=>?_)
    ·refine sh fol [(4,.i 3)] ?_
     refine Goes.ret ?_
     obtain rfl:=si g7
     exact Or.inr (⟨rfl,_,rfl,(gw2 [.i 3] (Ua tI))⟩)
    refine Goes.skip ?_
    refine gh fol (kC n w [(5,.i (w64 (c+1)))]) ?_
    exact⟨M,(ofG 28 (kC n w [(5,.i (w64 (c+1)))]),[]),Nat.lt_succ_self _,(Sub.refl _),_,rfl,g7⟩
   refine Goes.exit ?_
   obtain rfl:=si g7
   exact Or.inl (⟨rfl,rfl,(Sub.keep [] rfl rfl)⟩)
 rintro x s' (⟨rfl,rfl,hsub⟩|⟨rfl,u,rfl,hret⟩)
 ·try dsimp only at h
  refine Goes.sub hsub ?_
  refine sh fol [(4,.i 0)] ?_
  refine Goes.ret ?_
  obtain rfl:=si h
  exact(gw2 [.i 0] (Ua tI))
 try dsimp only at h
 obtain rfl:=si h
 exact hret
def jE (l:List Int):Nat->Int->Option (Unit⊕Int)
 |0,_=>none
 |K+1,a=>
  if a<(l.length:Int)then
  (idx l a).bind fun b=>
  if(!decide (b=0))=true then
  some (.inr b)
  else
  jE l K (w64 (a+1))
  else
  some (.inl ())
def xK (N:Nat) (l:List Int):Option Int:=
 (jE l N 0).bind (fun
 |(.inl ())=>
 some 0
 |(.inr a)=>
 some a)
theorem qbN (N:Nat) (l:List Int) {res:Int} (h:xK N l=some res):qd ZT (.fn 67) [vl encI l] [] (.i res) []:=by
 unfold xK at h
 refine Uc Tryz.func67 rfl rfl (m:=15) rfl (rs:=[.tmp 2]) rfl (l:=(kM l [])) rfl ?_
 refine sh fol (kM l []) ?_
 refine sq ?_
 refine sh fol [(5,vl encI l),(6,.i (l.length:Int)),(7,.i 0)] ?_
 refine Goes.block ?_
 obtain⟨d,g2,h⟩:=bnd h
 refine Goes.imp (Q:=fun x s'=>(x= .exit 0/\(.inl ())=d/\Sub s' (ofG 15 [],[]))\/(x= .ret/\ ∃e,(.inr e)=d/\vK ZT [.tmp 2] (.i e) .ret s')) ?_ ?_
 ·refine Ue (fun M s=> ∃(a:Int),s=(ofG 15 [(5,vl encI l),(6,.i (l.length:Int)),(7,.i a)],[])/\jE l M a=some d) ?_ (m:=N) ⟨_,rfl,g2⟩
  rintro M s ⟨a,rfl,g2⟩
  cases M with
  |zero=>simp only[jE]at g2;cases g2
  |succ M=>
   rw[jE]at g2
   refine sh fol [(5,vl encI l),(6,.i (l.length:Int)),(7,.i a),(8,.bool (decide (a<(l.length:Int))))] ?_
   refine sq ?_
   refine ihD g2 (fun f g2=>?_) (fun f g2=>?_)
   ·refine Goes.skip ?_
    refine sq (Goes.block ?_)
    obtain⟨c,b,g2⟩:=bnd g2
    refine sq (gr fol [0,1] [(4,.i c),(5,vl encI l),(6,.i (l.length:Int)),(7,.i a)] (ac (iv sl169 encI b) (ac (lv 0 ce26 encI b rfl) az)) ?_)
    refine sh fol [(4,.i c),(5,vl encI l),(6,.i (l.length:Int)),(7,.i a),(12,.bool (!decide (c=0)))] ?_
    refine ihB g2 (fun g g2=>?_) (fun g g2=>?_)
    ·refine sh fol [(2,.i c)] ?_
     refine Goes.ret ?_
     obtain rfl:=si g2
     exact Or.inr (⟨rfl,_,rfl,(gw2 [.i c] (Ua tI))⟩)
    refine Goes.skip ?_
    refine gh fol [(5,vl encI l),(6,.i (l.length:Int)),(7,.i (w64 (a+1)))] ?_
    exact⟨M,(ofG 15 [(5,vl encI l),(6,.i (l.length:Int)),(7,.i (w64 (a+1)))],[]),Nat.lt_succ_self _,(Sub.refl _),_,rfl,g2⟩
   refine Goes.exit ?_
   obtain rfl:=si g2
   exact Or.inl (⟨rfl,rfl,(Sub.keep [] rfl rfl)⟩)
 rintro x s' (⟨rfl,rfl,hsub⟩|⟨rfl,j,rfl,hret⟩)
 ·try dsimp only at h
  refine Goes.sub hsub ?_
  refine sh fol [(2,.i 0)] ?_
  refine Goes.ret ?_
  obtain rfl:=si h
  exact(gw2 [.i 0] (Ua tI))
 try dsimp only at h
 obtain rfl:=si h
 exact hret
def yx (holds:Bool) (e:Int):Option Int:=
 if holds=true then
 some e
 else
 some 0
theorem qbl (holds:Bool) (e:Int) {res:Int} (h:yx holds e=some res):qd ZT (.fn 68) [.bool holds,.i e] [] (.i res) []:=by
 unfold yx at h
 refine Uc Tryz.func68 rfl rfl (m:=7) rfl (rs:=[.tmp 4]) rfl (l:=((0,.bool holds)::(kAX e))) rfl ?_
 refine sh fol ((0,.bool holds)::(kAX e)) ?_
 refine sq ?_
 refine sh fol [(1,.i e),(5,.bool holds)] ?_
 refine ihB h (fun a h=>?_) (fun a h=>?_)
 ·refine sh fol [(4,.i e)] ?_
  refine Goes.ret ?_
  obtain rfl:=si h
  exact(gw2 [.i e] (Ua tI))
 refine Goes.skip ?_
 refine sh fol [(4,.i 0)] ?_
 refine Goes.ret ?_
 obtain rfl:=si h
 exact(gw2 [.i 0] (Ua tI))
def jZ (n:Int):Option Int:=
 (if n<1 then
 (yx true 3).bind fun a=>
 some a
 else
 (yx (decide (n>12)) 3).bind fun b=>
 some b:Option Int).bind fun c=>
 some c
theorem qbP (n:Int) {res:Int} (h:jZ n=some res):qd ZT (.fn 117) [.i n] [] (.i res) []:=by
 unfold jZ at h
 refine Uc Tryz.func117 rfl rfl (m:=10) rfl (rs:=[.tmp 2]) rfl (l:=[(0,.i n)]) rfl ?_
 refine sh fol [(0,.i n)] ?_
 refine sq ?_
 obtain⟨e,a,h⟩:=bnd h
 refine Goes.cut (s':=(ofG 10 [(2,.i e)],[])) ?_ ?_
 ·rcases wyD a with⟨d,a⟩|⟨d,a⟩
  ·obtain⟨f,b,a⟩:=bnd a
   obtain rfl:=si a
   exact tr fol [2,6] [(2,.i f)] (ac (gw d) (ac (cv (qbl true 3 b)) az))
  obtain⟨g,c,a⟩:=bnd a
  obtain rfl:=si a
  exact tr fol [2,6] [(2,.i g)] (ac (gw d) (ac (cv (qbl (decide (n>12)) 3 c)) az))
 refine Goes.ret ?_
 obtain rfl:=si h
 exact(gw2 [.i e] (Ua tI))
def qbm (n:Int) (letter:Int):Option Bool:=
 (if letter=0 then
 some true
 else
 if letter<=(w64 (0-n))then
 some true
 else
 some (decide (letter>=n)):Option Bool).bind fun a=>
 some a
theorem qgA (n:Int) (letter:Int) {res:Bool} (h:qbm n letter=some res):qd ZT (.fn 134) [.i n,.i letter] [] (.bool res) []:=by
 unfold qbm at h
 refine Uc Tryz.func134 rfl rfl (m:=18) rfl (rs:=[.tmp 4]) rfl (l:=((0,.i n)::(kAX letter))) rfl ?_
 refine sh fol ((0,.i n)::(kAX letter)) ?_
 refine sq ?_
 obtain⟨d,a,h⟩:=bnd h
 refine Goes.cut (s':=(ofG 18 (kAT d),[])) ?_ ?_
 ·rcases wyD a with⟨b,a⟩|⟨b,a⟩
  ·obtain rfl:=si a
   exact tr fol [2] kAS (ac (gw b) az)
  rcases wyD a with⟨c,a⟩|⟨c,a⟩
  ·obtain rfl:=si a
   exact tr fol [2,8] kAS (ac (gw b) (ac (gw c) az))
  obtain rfl:=si a
  exact tr fol [2,8] (kAT (decide (letter>=n))) (ac (gw b) (ac (gw c) az))
 refine Goes.ret ?_
 obtain rfl:=si h
 exact(gw2 [.bool d] (Ua tB))
def qad (a:Int) (b:Int):Option Bool:=
 (qbm b a).bind fun c=>
 some c
theorem qdr (a:Int) (b:Int) {res:Bool} (h:qad a b=some res):qd ZT (.fn 133) [.i a,.fptr [.i b] 0] [] (.bool res) []:=by
 unfold qad at h
 refine Uc Tryz.func133 rfl rfl (m:=7) rfl (rs:=[.tmp 3]) rfl (l:=[(0,.i a),(1,.fptr [.i b] 0)]) rfl ?_
 refine sh fol [(0,.i a),(1,.fptr [.i b] 0)] ?_
 obtain⟨d,c,h⟩:=bnd h
 refine sq (gr fol [2] [(3,.bool d)] (ac (cv (qgA b a c)) az) ?_)
 refine Goes.ret ?_
 obtain rfl:=si h
 exact(gw2 [.bool d] (Ua tB))
def qo (a:List Int) (b:Int):Nat->Int->Option (Unit⊕Int)
 |0,_=>none
 |K+1,c=>
  if c<(a.length:Int)then
  (idx a c).bind fun d=>
  (qad d b).bind fun e=>
  if e=true then
  some (.inr c)
  else
  qo a b K (w64 (c+1))
  else
  some (.inl ())
def yY (N:Nat) (a:List Int) (b:Int):Option Int:=
 (qo a b N 0).bind (fun
 |(.inl ())=>
 some (-1)
 |(.inr c)=>
 some c)
theorem qcD (N:Nat) (a:List Int) (b:Int) {res:Int} (h:yY N a b=some res):qd ZT (.fn 203) [vl encI a,.func (.func 133) [] [.fptr [.i b] 0]] [] (.i res) []:=by
 unfold yY at h
 refine Uc Tryz.func203 rfl rfl (m:=19) rfl (rs:=[.tmp 4]) rfl (l:=(kM a [(1,.func (.func 133) [] [.fptr [.i b] 0])])) rfl ?_
 refine sh fol (kM a [(1,.func (.func 133) [] [.fptr [.i b] 0])]) ?_
 refine sq ?_
 refine sh fol (kM a [(1,.func (.func 133) [] [.fptr [.i b] 0]),(7,.i (a.length:Int)),(8,.i 0)]) ?_
 refine Goes.block ?_
 obtain⟨f,g2,h⟩:=bnd h
 refine Goes.imp (Q:=fun x s'=>(x= .exit 0/\(.inl ())=f/\Sub s' (ofG 19 [],[]))\/(x= .ret/\ ∃j,(.inr j)=f/\vK ZT [.tmp 4] (.i j) .ret s')) ?_ ?_
 ·refine Ue (fun M s=> ∃(c:Int),s=(ofG 19 (kM a [(1,.func (.func 133) [] [.fptr [.i b] 0]),(7,.i (a.length:Int)),(8,.i c)]),[])/\qo a b M c=some f) ?_ (m:=N) ⟨_,rfl,g2⟩
  rintro M s ⟨c,rfl,g2⟩
  cases M with
  |zero=>simp only[qo]at g2;cases g2
  |succ M=>
   rw[qo]at g2
   refine sh fol (kM a [(1,.func (.func 133) [] [.fptr [.i b] 0]),(7,.i (a.length:Int)),(8,.i c),(9,.bool (decide (c<(a.length:Int))))]) ?_
   refine sq ?_
   refine ihD g2 (fun n g2=>?_) (fun n g2=>?_)
   ·refine Goes.skip ?_
    refine sq (Goes.block ?_)
    refine sh fol (kM a [(1,.func (.func 133) [] [.fptr [.i b] 0]),(5,.i c),(7,.i (a.length:Int)),(8,.i c)]) ?_
    obtain⟨g,d,g2⟩:=bnd g2
    obtain⟨k,e,g2⟩:=bnd g2
    refine sq (gr fol [3,4,5] (kM a [(1,.func (.func 133) [] [.fptr [.i b] 0]),(5,.i c),(7,.i (a.length:Int)),(8,.i c),(16,.bool k)]) (ac (iv xx encI d) (ac (lv 0 ce3 encI d rfl) (ac (hs (.call 133 [.i g,.fptr [.i b] 0] [] [] [.i g,.fptr [.i b] 0] (.bool k)) (qlW (FzL.cons (Up tI) (FzL.cons (Up (Still.fptr (AllST.cons tI AllST.nil))) FzL.nil)) (qdr g b e) tB)) az))) ?_)
    refine ihB g2 (fun o g2=>?_) (fun o g2=>?_)
    ·refine sh fol [(4,.i c)] ?_
     refine Goes.ret ?_
     obtain rfl:=si g2
     exact Or.inr (⟨rfl,_,rfl,(gw2 [.i c] (Ua tI))⟩)
    refine Goes.skip ?_
    refine gh fol (kM a [(1,.func (.func 133) [] [.fptr [.i b] 0]),(7,.i (a.length:Int)),(8,.i (w64 (c+1)))]) ?_
    exact⟨M,(ofG 19 (kM a [(1,.func (.func 133) [] [.fptr [.i b] 0]),(7,.i (a.length:Int)),(8,.i (w64 (c+1)))]),[]),Nat.lt_succ_self _,(Sub.refl _),_,rfl,g2⟩
   refine Goes.exit ?_
   obtain rfl:=si g2
   exact Or.inl (⟨rfl,rfl,(Sub.keep [] rfl rfl)⟩)
 rintro x s' (⟨rfl,rfl,hsub⟩|⟨rfl,p,rfl,hret⟩)
 ·try dsimp only at h
  refine Goes.sub hsub ?_
  refine sh fol [(4,.i (-1))] ?_
  refine Goes.ret ?_
  obtain rfl:=si h
  exact(gw2 [.i (-1)] (Ua tI))
 try dsimp only at h
 obtain rfl:=si h
 exact hret
def vI (N:Nat) (a:List Int) (b:Int):Option Bool:=
 (yY N a b).bind fun c=>
 some (decide (c>=0))
theorem qb3 (N:Nat) (a:List Int) (b:Int) {res:Bool} (h:vI N a b=some res):qd ZT (.fn 132) [vl encI a,.func (.func 133) [] [.fptr [.i b] 0]] [] (.bool res) []:=by
 unfold vI at h
 refine Uc Tryz.func132 rfl rfl (m:=9) rfl (rs:=[.tmp 4]) rfl (l:=(kM a [(1,.func (.func 133) [] [.fptr [.i b] 0])])) rfl ?_
 refine sh fol (kM a [(1,.func (.func 133) [] [.fptr [.i b] 0])]) ?_
 obtain⟨d,c,h⟩:=bnd h
 refine sq (gr fol [2] (kAT (decide (d>=0))) (ac (hs (.call 203 [vl encI a,.func (.func 133) [] [.fptr [.i b] 0]] [] [] [vl encI a,.func (.func 133) [] [.fptr [.i b] 0]] (.i d)) (qlW (FzL.cons (Up (jQ encI _ (nl rfl))) (FzL.cons (Fz.func FzL.nil (FzL.cons (Up (Still.fptr (AllST.cons tI AllST.nil))) FzL.nil)) FzL.nil)) (qcD N a b c) tI)) az) ?_)
 refine Goes.ret ?_
 obtain rfl:=si h
 exact(gw2 [.bool (decide (d>=0))] (Ua tB))
def jf (N:Nat) (n:Int) (w:List Int):Option Int:=
 (jZ n).bind fun b=>
 (yx (decide ((w.length:Int)>200)) 5).bind fun c=>
 (xK N ([b,c]:List Int)).bind fun a=>
 if(!decide (a=0))=true then
 some a
 else
 (vI N w n).bind fun d=>
 (yx d 3).bind fun e=>
 some e
theorem yC (N:Nat) (n:Int) (w:List Int) {res:Int} (h:jf N n w=some res):qd ZT (.fn 63) (kAY n w) [] (.i res) []:=by
 unfold jf at h
 refine Uc Tryz.func63 rfl rfl (m:=21) rfl (rs:=[.tmp 4]) rfl (l:=(kC n w [])) rfl ?_
 refine sg fol (kAU w []) (kAM n []) ?_
 refine sq ?_
 obtain⟨b,c,h⟩:=bnd h
 obtain⟨d,e,h⟩:=bnd h
 obtain⟨a,f,h⟩:=bnd h
 refine sq (gq fol [1,5,7] (kAU w [(5,.i a)]) (kAM n (kO b d [])) (ac (cv (qbP n c)) (ac (cv (qbl (decide ((w.length:Int)>200)) 5 e)) (ac (hs (.call 67 [.slice 1 0 2 2 1] (kAM n (kO b d [])) [1] [vl encI ([b,d]:List Int)] (.i a)) (qfS (FzL.cons (Fz.lit rfl rfl (FzL.still (AllST.cons tI (AllST.cons tI AllST.nil)))) FzL.nil) (qbN N ([b,d]:List Int) f) tI rfl)) az))) ?_)
 refine sh fol (kAU w [(5,.i a),(15,.bool (!decide (a=0)))]) ?_
 refine ihB h (fun p h=>?_) (fun p h=>?_)
 ·refine sh fol [(4,.i a)] ?_
  refine Goes.ret ?_
  obtain rfl:=si h
  exact(gw2 [.i a] (Ua tI))
 refine Goes.skip ?_
 obtain⟨k,g,h⟩:=bnd h
 obtain⟨o,j,h⟩:=bnd h
 refine sq (gr fol [2,3] [(4,.i o)] (ac (hs (.call 132 [vl encI w,.func (.func 133) [] [.ptr 0 0]] (kAM n (kO b d [])) [0] [vl encI w,.func (.func 133) [] [.fptr [.i n] 0]] (.bool k)) (qfS (FzL.cons (Up (jQ encI _ (nl rfl))) (FzL.cons (Fz.func FzL.nil (FzL.cons (Fz.ptr rfl rfl (FzL.cons (Up tI) FzL.nil)) FzL.nil)) FzL.nil)) (qb3 N w n g) tB rfl)) (ac (cv (qbl k 3 j)) az)) ?_)
 refine Goes.ret ?_
 obtain rfl:=si h
 exact(gw2 [.i o] (Ua tI))
def qaK (a:Int):Option Int:=
 some (if(if a<1 then a else 1)>(-1)then(if a<1 then a else 1)else(-1))
theorem qdm (a:Int) {res:Int} (h:qaK a=some res):qd ZT (.fn 122) [.i a] [] (.i res) []:=by
 unfold qaK at h
 refine Uc Tryz.func122 rfl rfl (m:=6) rfl (rs:=[.tmp 2]) rfl (l:=[(0,.i a)]) rfl ?_
 refine sh fol [(0,.i a)] ?_
 refine sh fol [(2,.i (if(if a<1 then a else 1)>(-1)then(if a<1 then a else 1)else(-1)))] ?_
 refine Goes.ret ?_
 obtain rfl:=si h
 exact(gw2 [.i (if(if a<1 then a else 1)>(-1)then(if a<1 then a else 1)else(-1))] (Ua tI))
def qby (n:Int):Option Int:=
 some (if(w64 (0-n))>n then(w64 (0-n))else n)
theorem qcm (n:Int) {res:Int} (h:qby n=some res):qd ZT (.fn 123) [.i n] [] (.i res) []:=by
 unfold qby at h
 refine Uc Tryz.func123 rfl rfl (m:=7) rfl (rs:=[.tmp 2]) rfl (l:=[(0,.i n)]) rfl ?_
 refine sh fol [(0,.i n)] ?_
 refine sh fol [(2,.i (if(w64 (0-n))>n then(w64 (0-n))else n))] ?_
 refine Goes.ret ?_
 obtain rfl:=si h
 exact(gw2 [.i (if(w64 (0-n))>n then(w64 (0-n))else n)] (Ua tI))
def xR (a:Int) (b:List Int):Option Unit:=
 some ()
theorem qbT (a:Int) (b:List Int) (h:xR a b=some ()):qd ZT (.fn 135) (kAY a b) [] (.func (.func 204) [] [.ptr 0 0,.ptr 1 0]) (kD a b []):=by
 unfold xR at h
 refine Uq Tryz.func135 rfl rfl (m:=6) rfl (rs:=[.tmp 4]) rfl (l:=(kC a b [])) rfl ?_
 intro B hB
 refine sg fol [(2,.ptr 0 0),(3,.ptr 1 0)] (kD a b []) ?_
 refine sh fol [(4,.func (.func 204) [] [.ptr 0 0,.ptr 1 0])] ?_
 refine Goes.ret ?_
 exact(gh2 [.func (.func 204) [] [.ptr 0 0,.ptr 1 0]] (qch.refl _ _))
def ja (c:List Int):Nat->(List Int)->Int->Option (List Int)
 |0,_,_=>none
 |K+1,b,a=>
  if a<(c.length:Int)then
  (idx b a).bind fun e=>
  (put b a a).bind fun d=>
  ja c K d (w64 (a+1))
  else
  some b
def zK (N:Nat) (a:Int):Option (List Int):=
 (mk 8 a 0).bind fun b=>
 (ja b N b 0).bind fun c=>
 some c
theorem yQ (N:Nat) (c:Int) {n:List Int} (h:zK N c=some n):qd ZT (.fn 138) [.i c] [] (.slice 0 0 n.length n.length 1) (kA n []):=by
 unfold zK at h
 refine Uq Tryz.func138 rfl rfl (m:=18) rfl (rs:=[.tmp 2]) rfl (l:=[(0,.i c)]) rfl ?_
 intro B hB
 refine sh fol [(0,.i c)] ?_
 obtain⟨a,k,h⟩:=bnd h
 refine sq (gq fol [1] (kI a []) (kA a []) (ac (hs (.run [] (qau ZT 22 (.i c) (.i c)) [] (.slice 0 0 a.length a.length 1) (kA a []) false) (qim xx (E:=encI) (z:=0) rfl (by kernel_rfl) k rfl)) az) ?_)
 refine sq ?_
 refine sh fol (kI a [(8,.i (a.length:Int)),(9,.i 0)]) ?_
 refine Goes.block ?_
 obtain⟨o,g6,h⟩:=bnd h
 refine Goes.imp (Q:=fun x s'=>(x= .exit 0/\ ∃j,j=o/\Sub s' (ofG 18 (kI j []),(kA j [])))) ?_ ?_
 ·refine Ue (fun M s=> ∃(d:List Int) (b:Int),s=(ofG 18 (kI d [(8,.i (a.length:Int)),(9,.i b)]),(kA d []))/\ja a M d b=some o) ?_ (m:=N) ⟨_,_,rfl,g6⟩
  rintro M s ⟨d,b,rfl,g6⟩
  cases M with
  |zero=>simp only[ja]at g6;cases g6
  |succ M=>
   rw[ja]at g6
   refine sh fol (kI d [(8,.i (a.length:Int)),(9,.i b),(10,.bool (decide (b<(a.length:Int))))]) ?_
   refine sq ?_
   refine ihD g6 (fun p g6=>?_) (fun p g6=>?_)
   ·refine Goes.skip ?_
    refine sq (Goes.block ?_)
    refine sh fol (kI d [(4,.i b),(8,.i (a.length:Int)),(9,.i b)]) ?_
    obtain⟨q,e,g6⟩:=bnd g6
    obtain⟨f,g,g6⟩:=bnd g6
    refine gq fol [3,4] (kI d [(8,.i (a.length:Int)),(9,.i b)]) (kA f []) (ac (hs (.done (.opt (qf ZT 22 (.slice 0 0 d.length d.length 1) (.i b))) (.ptr 0 ((b:Int).toNat*1+0))) (qaJ xx e)) (ac (hs (.run [0] (xu ZT 3 (.ptr 0 ((b:Int).toNat*1+0)) (.i b)) (kA d []) .undef (kA f []) true) (qb6 (E:=encI) (l:=d) (y:=b) rfl (show _=some 1 by kernel_rfl) rfl e rfl rfl rfl rfl rfl g rfl)) az)) ?_
    refine Goes.sub (show Sub (ofG 18 (kI d [(8,.i (a.length:Int)),(9,.i b)]),(kA f [])) (ofG 18 (kI f [(8,.i (a.length:Int)),(9,.i b)]),(kA f []))from(Sub.norm [] [some 0] (by rw[hB];rfl) rfl (.keep (.sliceE rfl (qal g)) (.keep (.same nI) (.keep (.same nI) .nil))) (.ks .nil))) ?_
    refine gh fol (kI f [(8,.i (a.length:Int)),(9,.i (w64 (b+1)))]) ?_
    exact⟨M,(ofG 18 (kI f [(8,.i (a.length:Int)),(9,.i (w64 (b+1)))]),(kA f [])),Nat.lt_succ_self _,(Sub.refl _),_,_,rfl,g6⟩
   refine Goes.exit ?_
   obtain rfl:=si g6
   exact⟨rfl,_,rfl,(Sub.keep [3] rfl rfl)⟩
 rintro x s' ⟨rfl,j,rfl,hsub⟩
 refine Goes.sub hsub ?_
 refine sh fol (kAV j) ?_
 refine Goes.ret ?_
 obtain rfl:=si h
 exact(gh2 [.slice 0 0 j.length j.length 1] (qch.refl _ _))
def qbn (c:List (List Int)) (d:Int) (a:Int) (b:Int):Option (List (List Int)):=
 (idx c a).bind fun g=>
 (idx g b).bind fun j=>
 (qaK d).bind fun k=>
 (put g b (w64 (j+k))).bind fun h=>
 (idx (xC c a h) b).bind fun i=>
 (idx i a).bind fun l=>
 (qaK d).bind fun e=>
 (put i a (w64 (l+e))).bind fun f=>
 some (xC (xC c a h) b f)
theorem qgY (d:List (List Int)) (j:Int) (a:Int) (e:Int) {z:List (List Int)} (h:qbn d j a e=some z):qd ZT (.rd 0) [.i j,.agg [.i a,.i e]] (.loop .ready none (ofG 54 [(5,.ptr 1 0)]) qa.xp qa.x1 qa.x2::(kB d [bg encI d])) (.bool true) (.loop .ready none (ofG 54 [(5,.ptr 1 0)]) qa.xp qa.x1 qa.x2::(kB z [bg encI z])):=by
 unfold qbn at h
 refine Goes.round (m:=54) (l0:=(kAH [])) (l:=(kAH [(25,.i j),(26,.agg [.i a,.i e])])) rfl rfl rfl ?_
 intro B hB
 refine Ut ?_
 refine sh fol (kAH [(7,.i j),(26,.agg [.i a,.i e])]) ?_
 refine Goes.rg fol (kW j) (.loop .ready none (ofG 54 [(5,.ptr 1 0)]) qa.xp qa.x1 qa.x2::(kB d (bg encI d::(kO a e [])))) ?_
 refine⟨_,Sub.refl _,?_⟩
 refine⟨_,_,_,_,_,rfl,?_⟩
 refine Ut ?_
 refine Goes.block ?_
 obtain⟨k,p,h⟩:=bnd h
 refine sq (Goes.sub (s':=(ofG 54 (kW j),(.loop .busy none (ofG 54 [(5,.ptr 1 0)]) qa.xp qa.x1 qa.x2::(kB d (.bag ((d.map (qba encI)).set (a:Int).toNat (.av (.gslice 4 k.length 1)))::(kO a e (kA k []))))))) (Sub.bagTake1 (E:=encI) (b:=2) rfl p) ?_)
 obtain⟨A,q,h⟩:=bnd h
 obtain⟨D,w,h⟩:=bnd h
 obtain⟨f,u,h⟩:=bnd h
 refine gq fol [3,4,7,8,10,12,13] (kW j) (.loop .busy none (ofG 54 [(5,.ptr 1 0)]) qa.xp qa.x1 qa.x2::(kB d (.bag ((d.map (qba encI)).set (a:Int).toNat (.av (.gslice 4 k.length 1)))::(kO a e (kA f []))))) (ac (hs (.done (.opt (qf ZT 25 (.slice 2 0 d.length d.length 1) (.i a))) (.ptr 2 ((a:Int).toNat*1+0))) (qaJ qhh p)) (ac (hs (.run [2] (vF ZT 22 (.ptr 2 ((a:Int).toNat*1+0))) (.loop .busy none (ofG 54 [(5,.ptr 1 0)]) qa.xp qa.x1 qa.x2::(kB d (.bag ((d.map (qba encI)).set (a:Int).toNat (.av (.gslice 4 k.length 1)))::(kO a e (kA k []))))) (.gslice 4 k.length 1) (.loop .busy none (ofG 54 [(5,.ptr 1 0)]) qa.xp qa.x1 qa.x2::(kB d (.bag ((d.map (qba encI)).set (a:Int).toNat (.av (.gslice 4 k.length 1)))::(kO a e (kA k []))))) false) (qpe qkh rfl (at_set p))) (ac (hs (.done (.opt (qf ZT 22 (.gslice 4 k.length 1) (.i e))) (.ptr 4 ((e:Int).toNat*1+0))) (qce xx q)) (ac (hs (.run [4] (vF ZT 3 (.ptr 4 ((e:Int).toNat*1+0))) (.loop .busy none (ofG 54 [(5,.ptr 1 0)]) qa.xp qa.x1 qa.x2::(kB d (.bag ((d.map (qba encI)).set (a:Int).toNat (.av (.gslice 4 k.length 1)))::(kO a e (kA k []))))) (.i A) (.loop .busy none (ofG 54 [(5,.ptr 1 0)]) qa.xp qa.x1 qa.x2::(kB d (.bag ((d.map (qba encI)).set (a:Int).toNat (.av (.gslice 4 k.length 1)))::(kO a e (kA k []))))) false) (qcU ce3 (E:=encI) (l:=k) rfl rfl q (nl rfl) rfl)) (ac (cv (qdm j w)) (ac (hs (.done (.opt (qf ZT 22 (.gslice 4 k.length 1) (.i e))) (.ptr 4 ((e:Int).toNat*1+0))) (qce xx q)) (ac (hs (.run [4] (xu ZT 3 (.ptr 4 ((e:Int).toNat*1+0)) (.i (w64 (A+D)))) (.loop .busy none (ofG 54 [(5,.ptr 1 0)]) qa.xp qa.x1 qa.x2::(kB d (.bag ((d.map (qba encI)).set (a:Int).toNat (.av (.gslice 4 k.length 1)))::(kO a e (kA k []))))) .undef (.loop .busy none (ofG 54 [(5,.ptr 1 0)]) qa.xp qa.x1 qa.x2::(kB d (.bag ((d.map (qba encI)).set (a:Int).toNat (.av (.gslice 4 k.length 1)))::(kO a e (kA f []))))) true) (qb6 (E:=encI) (l:=k) (y:=w64 (A+D)) rfl (show _=some 1 by kernel_rfl) rfl q rfl rfl rfl rfl rfl u rfl)) az))))))) ?_
 refine Goes.sub ((show Sub (ofG 54 (kW j),(.loop .busy none (ofG 54 [(5,.ptr 1 0)]) qa.xp qa.x1 qa.x2::(kB d (.bag ((d.map (qba encI)).set (a:Int).toNat (.av (.gslice 4 k.length 1)))::(kO a e (kA f [])))))) (ofG 54 (kW j),(.loop .busy none (ofG 54 [(5,.ptr 1 0)]) qa.xp qa.x1 qa.x2::(kB d (bg encI (xC d a f)::(kO a e [.dead])))))from(Sub.bagGive1 (E:=encI) (b:=2) (c:=4) (Nat.ne_of_beq_eq_false rfl) rfl rfl p .g (qal u))).trans (show Sub (ofG 54 (kW j),(.loop .busy none (ofG 54 [(5,.ptr 1 0)]) qa.xp qa.x1 qa.x2::(kB d (bg encI (xC d a f)::(kO a e [.dead]))))) (ofG 54 (kW j),(.loop .busy none (ofG 54 [(5,.ptr 1 0)]) qa.xp qa.x1 qa.x2::(kB (xC d a f) (bg encI (xC d a f)::(kO a e [])))))from(Sub.norm [] [some 0,some 1,some 2,some 3] (by rw[hB];rfl) rfl (.kp (.keep (.same nI) (.kp .nil))) (.kb rfl (.loop rfl (.kp .nil)) (.kb rfl (.cells (rc (.sliceE rfl (qiB _ _ _)) rn)) (.kb rfl qaE.bgs (.kb rfl (.same sn) .nil))))))) ?_
 obtain⟨n,r,h⟩:=bnd h
 refine Goes.sub (s':=(ofG 54 (kW j),(.loop .busy none (ofG 54 [(5,.ptr 1 0)]) qa.xp qa.x1 qa.x2::(kB (xC d a f) (.bag (((xC d a f).map (qba encI)).set (e:Int).toNat (.av (.gslice 4 n.length 1)))::(kO a e (kA n []))))))) (Sub.bagTake1 (E:=encI) (b:=2) rfl r) ?_
 obtain⟨C,s,h⟩:=bnd h
 obtain⟨x,v,h⟩:=bnd h
 obtain⟨o,t,h⟩:=bnd h
 refine gq fol [3,4,7,8,10,12,13] [] (.loop .busy none (ofG 54 [(5,.ptr 1 0)]) qa.xp qa.x1 qa.x2::(kB (xC d a f) (.bag (((xC d a f).map (qba encI)).set (e:Int).toNat (.av (.gslice 4 n.length 1)))::(kO a e (kA o []))))) (ac (hs (.done (.opt (qf ZT 25 (.slice 2 0 (xC d a f).length (xC d a f).length 1) (.i e))) (.ptr 2 ((e:Int).toNat*1+0))) (qaJ qhh r)) (ac (hs (.run [2] (vF ZT 22 (.ptr 2 ((e:Int).toNat*1+0))) (.loop .busy none (ofG 54 [(5,.ptr 1 0)]) qa.xp qa.x1 qa.x2::(kB (xC d a f) (.bag (((xC d a f).map (qba encI)).set (e:Int).toNat (.av (.gslice 4 n.length 1)))::(kO a e (kA n []))))) (.gslice 4 n.length 1) (.loop .busy none (ofG 54 [(5,.ptr 1 0)]) qa.xp qa.x1 qa.x2::(kB (xC d a f) (.bag (((xC d a f).map (qba encI)).set (e:Int).toNat (.av (.gslice 4 n.length 1)))::(kO a e (kA n []))))) false) (qpe qkh rfl (at_set r))) (ac (hs (.done (.opt (qf ZT 22 (.gslice 4 n.length 1) (.i a))) (.ptr 4 ((a:Int).toNat*1+0))) (qce xx s)) (ac (hs (.run [4] (vF ZT 3 (.ptr 4 ((a:Int).toNat*1+0))) (.loop .busy none (ofG 54 [(5,.ptr 1 0)]) qa.xp qa.x1 qa.x2::(kB (xC d a f) (.bag (((xC d a f).map (qba encI)).set (e:Int).toNat (.av (.gslice 4 n.length 1)))::(kO a e (kA n []))))) (.i C) (.loop .busy none (ofG 54 [(5,.ptr 1 0)]) qa.xp qa.x1 qa.x2::(kB (xC d a f) (.bag (((xC d a f).map (qba encI)).set (e:Int).toNat (.av (.gslice 4 n.length 1)))::(kO a e (kA n []))))) false) (qcU ce3 (E:=encI) (l:=n) rfl rfl s (nl rfl) rfl)) (ac (cv (qdm j v)) (ac (hs (.done (.opt (qf ZT 22 (.gslice 4 n.length 1) (.i a))) (.ptr 4 ((a:Int).toNat*1+0))) (qce xx s)) (ac (hs (.run [4] (xu ZT 3 (.ptr 4 ((a:Int).toNat*1+0)) (.i (w64 (C+x)))) (.loop .busy none (ofG 54 [(5,.ptr 1 0)]) qa.xp qa.x1 qa.x2::(kB (xC d a f) (.bag (((xC d a f).map (qba encI)).set (e:Int).toNat (.av (.gslice 4 n.length 1)))::(kO a e (kA n []))))) .undef (.loop .busy none (ofG 54 [(5,.ptr 1 0)]) qa.xp qa.x1 qa.x2::(kB (xC d a f) (.bag (((xC d a f).map (qba encI)).set (e:Int).toNat (.av (.gslice 4 n.length 1)))::(kO a e (kA o []))))) true) (qb6 (E:=encI) (l:=n) (y:=w64 (C+x)) rfl (show _=some 1 by kernel_rfl) rfl s rfl rfl rfl rfl rfl t rfl)) az))))))) ?_
 obtain rfl:=si h
 exact⟨_,((show Sub (ofG 54 [],(.loop .busy none (ofG 54 [(5,.ptr 1 0)]) qa.xp qa.x1 qa.x2::(kB (xC d a f) (.bag (((xC d a f).map (qba encI)).set (e:Int).toNat (.av (.gslice 4 n.length 1)))::(kO a e (kA o [])))))) (ofG 54 [],(.loop .busy none (ofG 54 [(5,.ptr 1 0)]) qa.xp qa.x1 qa.x2::(kB (xC d a f) (bg encI (xC (xC d a f) e o)::(kO a e [.dead])))))from(Sub.bagGive1 (E:=encI) (b:=2) (c:=4) (Nat.ne_of_beq_eq_false rfl) rfl rfl r .g (qal t))).trans (show Sub (ofG 54 [],(.loop .busy none (ofG 54 [(5,.ptr 1 0)]) qa.xp qa.x1 qa.x2::(kB (xC d a f) (bg encI (xC (xC d a f) e o)::(kO a e [.dead]))))) (ofG 54 [],(.loop .busy none (ofG 54 [(5,.ptr 1 0)]) qa.xp qa.x1 qa.x2::(kB (xC (xC d a f) e o) [bg encI (xC (xC d a f) e o)])))from(Sub.norm [] [some 0,some 1,some 2] (by rw[hB];rfl) rfl .nil (.kb rfl (.loop rfl (.kp .nil)) (.kb rfl (.cells (rc (.sliceE rfl (qiB _ _ _)) rn)) (.kb rfl qaE.bgs .nil)))))),⟨_,_,rfl,(qch.refl _ _)⟩⟩
def qR (b:List Int):Nat->(List (List Int))->(List Int)->Int->Option (List (List Int))
 |0,_,_,_=>none
 |K+1,k,g,h=>
  if h<(b.length:Int)then
  (idx b h).bind fun c=>
  (qby c).bind fun a=>
  (idx g (w64 (a-1))).bind fun d=>
  (idx g (w64 ((w64 (a-1))+1))).bind fun e=>
  (qbn k c d e).bind fun i=>
  (put g (w64 (a-1)) e).bind fun f=>
  (idx f (w64 ((w64 (a-1))+1))).bind fun l=>
  (put f (w64 ((w64 (a-1))+1)) d).bind fun j=>
  qR b K i j (w64 (h+1))
  else
  some k
def qac (N:Nat) (a:List (List Int)) (b:Int) (c:List Int):Option (List (List Int)):=
 (zK N b).bind fun d=>
 (qR c N a d 0).bind fun e=>
 some e
theorem qds (N:Nat) (n:List (List Int)) (d:Int) (a:List Int) {J:List (List Int)} (h:qac N n d a=some J):qd ZT (.fn 204) [.yld 0,.ptr 3 0,.ptr 4 0] (.loop .ready none (ofG 54 [(5,.ptr 1 0)]) qa.xp qa.x1 qa.x2::(kB n (bg encI n::(kD d a [])))) (.tuple []) (.loop .ready none (ofG 54 [(5,.ptr 1 0)]) qa.xp qa.x1 qa.x2::(kB J (bg encI J::(kD d a [])))):=by
 unfold qac at h
 refine Uq Tryz.func204 rfl rfl (m:=50) rfl (rs:=[]) rfl (l:=[(0,.yld 0),(1,.ptr 3 0),(2,.ptr 4 0)]) rfl ?_
 intro B hB
 refine Ut ?_
 obtain⟨G,H,h⟩:=bnd h
 refine sq (gq fol [1] ((0,.yld 0)::(2,.ptr 4 0)::(kX G [])) (.loop .ready none (ofG 54 [(5,.ptr 1 0)]) qa.xp qa.x1 qa.x2::(kB n (bg encI n::(kD d a (kA G []))))) (ac (hs (.callH 138 [.i d] (.loop .ready none (ofG 54 [(5,.ptr 1 0)]) qa.xp qa.x1 qa.x2::(kB n (bg encI n::(kD d a [])))) [] (.slice 5 0 G.length G.length 1) (.loop .ready none (ofG 54 [(5,.ptr 1 0)]) qa.xp qa.x1 qa.x2::(kB n (bg encI n::(kD d a (kA G [])))))) (qaY [] [none,none,none,none,none,some 0] (yQ N d H) .nil rfl rfl (.old rfl rfl (.old rfl rfl (.old rfl rfl (.old rfl rfl (.old rfl rfl (.new rfl rfl (.same fa) rfl .nil)))))) (rc (.same nI) rn) (.slice rfl) rfl)) az) ?_)
 refine sh fol ((0,.yld 0)::(kX G [(10,vl encI a),(11,.i (a.length:Int)),(12,.i 0)])) ?_
 refine Goes.block ?_
 obtain⟨K,g8,h⟩:=bnd h
 refine Goes.imp (Q:=fun x s'=>(x= .exit 0/\ ∃I,I=K/\Sub s' (ofG 50 [],(.loop .ready none (ofG 54 [(5,.ptr 1 0)]) qa.xp qa.x1 qa.x2::(kB I (bg encI I::(kD d a []))))))) ?_ ?_
 ·refine Ue (fun M s=> ∃(p:List (List Int)) (g:List Int) (q:Int),s=(ofG 50 ((0,.yld 0)::(kF g a (a.length:Int) q [])),(.loop .ready none (ofG 54 [(5,.ptr 1 0)]) qa.xp qa.x1 qa.x2::(kB p (bg encI p::(kD d a (kA g []))))))/\qR a M p g q=some K) ?_ (m:=N) ⟨_,_,_,rfl,g8⟩
  rintro M s ⟨p,g,q,rfl,g8⟩
  cases M with
  |zero=>simp only[qR]at g8;cases g8
  |succ M=>
   rw[qR]at g8
   refine sh fol ((0,.yld 0)::(kF g a (a.length:Int) q [(13,.bool (decide (q<(a.length:Int))))])) ?_
   refine sq ?_
   refine ihD g8 (fun L g8=>?_) (fun L g8=>?_)
   ·refine Goes.skip ?_
    refine sq (Goes.block ?_)
    obtain⟨u,v,g8⟩:=bnd g8
    refine sq (gr fol [0,1] ((0,.yld 0)::(kX g ((6,.i u)::(kN a (a.length:Int) q [])))) (ac (iv xx encI v) (ac (lv 0 ce3 encI v rfl) az)) ?_)
    obtain⟨f,A,g8⟩:=bnd g8
    refine sq (gr fol [1] ((0,.yld 0)::(kX g ((6,.i u)::(7,.i (w64 (f-1)))::(kN a (a.length:Int) q [])))) (ac (cv (qcm u A)) az) ?_)
    refine sq ?_
    obtain⟨r,j,g8⟩:=bnd g8
    obtain⟨t,k,g8⟩:=bnd g8
    obtain⟨e,C,g8⟩:=bnd g8
    refine sq (gq fol [4,5,9,10,12] ((0,.yld 0)::(kX g ((7,.i (w64 (f-1)))::(kN a (a.length:Int) q [(32,.bool false)])))) (.loop .ready none (ofG 54 [(5,.ptr 1 0)]) qa.xp qa.x1 qa.x2::(kB e (bg encI e::(kD d a (kA g []))))) (ac (hs (.done (.opt (qf ZT 22 (.slice 5 0 g.length g.length 1) (.i (w64 (f-1))))) (.ptr 5 ((w64 (f-1):Int).toNat*1+0))) (qaJ xx j)) (ac (hs (.run [5] (vF ZT 3 (.ptr 5 ((w64 (f-1):Int).toNat*1+0))) (.loop .ready none (ofG 54 [(5,.ptr 1 0)]) qa.xp qa.x1 qa.x2::(kB p (bg encI p::(kD d a (kA g []))))) (.i r) (.loop .ready none (ofG 54 [(5,.ptr 1 0)]) qa.xp qa.x1 qa.x2::(kB p (bg encI p::(kD d a (kA g []))))) false) (qcU ce3 (E:=encI) (l:=g) rfl rfl j (nl rfl) rfl)) (ac (hs (.done (.opt (qf ZT 22 (.slice 5 0 g.length g.length 1) (.i (w64 ((w64 (f-1))+1))))) (.ptr 5 ((w64 ((w64 (f-1))+1):Int).toNat*1+0))) (qaJ xx k)) (ac (hs (.run [5] (vF ZT 3 (.ptr 5 ((w64 ((w64 (f-1))+1):Int).toNat*1+0))) (.loop .ready none (ofG 54 [(5,.ptr 1 0)]) qa.xp qa.x1 qa.x2::(kB p (bg encI p::(kD d a (kA g []))))) (.i t) (.loop .ready none (ofG 54 [(5,.ptr 1 0)]) qa.xp qa.x1 qa.x2::(kB p (bg encI p::(kD d a (kA g []))))) false) (qcU ce3 (E:=encI) (l:=g) rfl rfl k (nl rfl) rfl)) (ac (hs (.callH (.rd 0) [.i u,.agg [.i r,.i t]] (.loop .ready none (ofG 54 [(5,.ptr 1 0)]) qa.xp qa.x1 qa.x2::(kB p (bg encI p::(kD d a (kA g []))))) [0,1,2] (.bool true) (.loop .ready none (ofG 54 [(5,.ptr 1 0)]) qa.xp qa.x1 qa.x2::(kB e (bg encI e::(kD d a (kA g [])))))) (qpr [some 0,some 1,some 2] [some 0,some 1,some 2,none,none,none] (qgY p u r t C) rfl (.kb rfl (.loop rfl (.kp .nil)) (.kb rfl (.cells (rc (.slice rfl) rn)) (.kb rfl qaE.bgs .nil))) rfl rfl (.back rfl rfl (.loop rfl (.kp .nil)) rfl (.back rfl rfl (.cells (rc (.slice rfl) rn)) rfl (.back rfl rfl qaE.bgs rfl (.old rfl rfl (.old rfl rfl (.old rfl rfl .nil)))))) (rc (.same nI) (rc (.same (qj.agg sn)) rn)) (.same nB) rfl)) az))))) ?_)
    refine Goes.ifB (b:=false) (by kernel_rfl) (fun c=>(by cases c)) (fun _=>?_)
    refine Goes.skip ?_
    obtain⟨D,w,g8⟩:=bnd g8
    obtain⟨O,F,g8⟩:=bnd g8
    obtain⟨o,z,g8⟩:=bnd g8
    refine gq fol [8,9,12,13,14,15,16,17] ((0,.yld 0)::(kF g a (a.length:Int) q [])) (.loop .ready none (ofG 54 [(5,.ptr 1 0)]) qa.xp qa.x1 qa.x2::(kB e (bg encI e::(kD d a (kA o []))))) (ac (hs (.done (.opt (qf ZT 22 (.slice 5 0 g.length g.length 1) (.i (w64 ((w64 (f-1))+1))))) (.ptr 5 ((w64 ((w64 (f-1))+1):Int).toNat*1+0))) (qaJ xx k)) (ac (hs (.run [5] (vF ZT 3 (.ptr 5 ((w64 ((w64 (f-1))+1):Int).toNat*1+0))) (.loop .ready none (ofG 54 [(5,.ptr 1 0)]) qa.xp qa.x1 qa.x2::(kB e (bg encI e::(kD d a (kA g []))))) (.i t) (.loop .ready none (ofG 54 [(5,.ptr 1 0)]) qa.xp qa.x1 qa.x2::(kB e (bg encI e::(kD d a (kA g []))))) false) (qcU ce3 (E:=encI) (l:=g) rfl rfl k (nl rfl) rfl)) (ac (hs (.done (.opt (qf ZT 22 (.slice 5 0 g.length g.length 1) (.i (w64 (f-1))))) (.ptr 5 ((w64 (f-1):Int).toNat*1+0))) (qaJ xx j)) (ac (hs (.run [5] (vF ZT 3 (.ptr 5 ((w64 (f-1):Int).toNat*1+0))) (.loop .ready none (ofG 54 [(5,.ptr 1 0)]) qa.xp qa.x1 qa.x2::(kB e (bg encI e::(kD d a (kA g []))))) (.i r) (.loop .ready none (ofG 54 [(5,.ptr 1 0)]) qa.xp qa.x1 qa.x2::(kB e (bg encI e::(kD d a (kA g []))))) false) (qcU ce3 (E:=encI) (l:=g) rfl rfl j (nl rfl) rfl)) (ac (hs (.done (.opt (qf ZT 22 (.slice 5 0 g.length g.length 1) (.i (w64 (f-1))))) (.ptr 5 ((w64 (f-1):Int).toNat*1+0))) (qaJ xx j)) (ac (hs (.run [5] (xu ZT 3 (.ptr 5 ((w64 (f-1):Int).toNat*1+0)) (.i t)) (.loop .ready none (ofG 54 [(5,.ptr 1 0)]) qa.xp qa.x1 qa.x2::(kB e (bg encI e::(kD d a (kA g []))))) .undef (.loop .ready none (ofG 54 [(5,.ptr 1 0)]) qa.xp qa.x1 qa.x2::(kB e (bg encI e::(kD d a (kA D []))))) true) (qb6 (E:=encI) (l:=g) (y:=t) rfl (show _=some 1 by kernel_rfl) rfl j rfl rfl rfl rfl rfl w rfl)) (ac (hs (.done (.opt (qf ZT 22 (.slice 5 0 g.length g.length 1) (.i (w64 ((w64 (f-1))+1))))) (.ptr 5 ((w64 ((w64 (f-1))+1):Int).toNat*1+0))) (qaJ xx k)) (ac (hs (.run [5] (xu ZT 3 (.ptr 5 ((w64 ((w64 (f-1))+1):Int).toNat*1+0)) (.i r)) (.loop .ready none (ofG 54 [(5,.ptr 1 0)]) qa.xp qa.x1 qa.x2::(kB e (bg encI e::(kD d a (kA D []))))) .undef (.loop .ready none (ofG 54 [(5,.ptr 1 0)]) qa.xp qa.x1 qa.x2::(kB e (bg encI e::(kD d a (kA o []))))) true) (qb6 (E:=encI) (l:=D) (y:=r) rfl (show _=some 1 by kernel_rfl) rfl F rfl rfl rfl rfl rfl z rfl)) az)))))))) ?_
    refine Goes.sub (show Sub (ofG 50 ((0,.yld 0)::(kF g a (a.length:Int) q [])),(.loop .ready none (ofG 54 [(5,.ptr 1 0)]) qa.xp qa.x1 qa.x2::(kB e (bg encI e::(kD d a (kA o [])))))) (ofG 50 ((0,.yld 0)::(kF o a (a.length:Int) q [])),(.loop .ready none (ofG 54 [(5,.ptr 1 0)]) qa.xp qa.x1 qa.x2::(kB e (bg encI e::(kD d a (kA o []))))))from(Sub.norm [] [some 0,some 1,some 2,some 3,some 4,some 5] (by rw[hB];rfl) rfl (.keep (.yld rfl) (.keep (.sliceE rfl ((qal w).trans (qal z))) (.keep (.same (qD encI _)) (.keep (.same nI) (.keep (.same nI) .nil))))) (.kb rfl (.loop rfl (.kp .nil)) (.kb rfl (.cells (rc (.slice rfl) rn)) (.kb rfl qaE.bgs (.kb rfl (.same sn) (.kb rfl (.same sn) (.ks .nil)))))))) ?_
    refine gh fol ((0,.yld 0)::(kF o a (a.length:Int) (w64 (q+1)) [])) ?_
    exact⟨M,(ofG 50 ((0,.yld 0)::(kF o a (a.length:Int) (w64 (q+1)) [])),(.loop .ready none (ofG 54 [(5,.ptr 1 0)]) qa.xp qa.x1 qa.x2::(kB e (bg encI e::(kD d a (kA o [])))))),Nat.lt_succ_self _,(Sub.refl _),_,_,_,rfl,g8⟩
   refine Goes.exit ?_
   obtain rfl:=si g8
   exact⟨rfl,_,rfl,(Sub.norm [] [some 0,some 1,some 2,some 3,some 4] (by rw[hB];rfl) rfl .nil (.kb rfl (.loop rfl (.kp .nil)) (.kb rfl (.cells (rc (.slice rfl) rn)) (.kb rfl qaE.bgs (.kb rfl (.same sn) (.kb rfl (.same sn) .nil))))))⟩
 rintro x s' ⟨rfl,I,rfl,hsub⟩
 obtain rfl:=si h
 exact⟨_,hsub,(gh2 [] (qch.refl _ _))⟩
def qap (n:Int) (c:List (List Int)):Nat->(List (List Int))->Int->Option (List (List Int))
 |0,_,_=>none
 |K+1,b,a=>
  if a<(c.length:Int)then
  (mk 8 n 0).bind fun d=>
  (idx b a).bind fun e=>
  qap n c K (xC b a d) (w64 (a+1))
  else
  some b
def qcA (N:Nat) (n:Int) (w:List Int):Option (List (List Int)):=
 (mk 24 n ([]:List Int)).bind fun b=>
 (qap n b N b 0).bind fun c=>
 (xR n w).bind fun _=>
 (qac N c n w).bind fun a=>
 some a
theorem qiU (N:Nat) (n:Int) (w:List Int) {res:List (List Int)} (h:qcA N n w=some res):qd ZT (.fn 64) (kAY n w) [] (vl (qc encI) res) []:=by
 unfold qcA at h
 refine Uc Tryz.func64 rfl rfl (m:=54) rfl (rs:=[.tmp 4]) rfl (l:=(kC n w [])) rfl ?_
 refine sh fol (kC n w []) ?_
 obtain⟨f,o,h⟩:=bnd h
 refine sq (gq fol [1] (kC n w (kAH [])) (.cells (f.flatMap (qpm encI).c)::(kP f [])) (ac (hs (.run [] (qau ZT 25 (.i n) (.i n)) [] (.slice 0 0 f.length f.length 1) [.cells (f.flatMap (qpm encI).c)] false) (qim qhh (E:=(qpm encI)) (z:=[]) rfl (by kernel_rfl) o rfl)) az) ?_)
 refine Goes.sub (show Sub (ofG 54 (kC n w (kAH [])),(.cells (f.flatMap (qpm encI).c)::(kP f []))) (ofG 54 (kC n w (kAH [])),(bg encI f::(kP f [])))from(Sub.bagNil1 (E:=encI) (b:=0) rfl o)) ?_
 refine sq ?_
 refine sh fol (kC n w (kAH [(12,.i (f.length:Int)),(13,.i 0)])) ?_
 refine Goes.block ?_
 obtain⟨t,g5,h⟩:=bnd h
 refine Goes.imp (Q:=fun x s'=>(x= .exit 0/\ ∃j,j=t/\Sub s' (ofG 54 (kC n w (kAN [])),(kG j [bg encI j])))) ?_ ?_
 ·refine Goes.sub (s':=(ofG 54 (kC n w (kAN [(12,.i (f.length:Int)),(13,.i 0)])),(kG f [bg encI f]))) (Sub.norm [] [some 1,some 0] rfl rfl (.keep (.same nI) (.keep (.same (qD encI _)) (.kp (.keep (.same nI) (.keep (.same nI) .nil))))) (.kb rfl (.cells (rc (.slice rfl) rn)) (.kb rfl qaE.bgs .nil))) ?_
  refine Ue (fun M s=> ∃(d:List (List Int)) (e:Int),s=(ofG 54 (kC n w (kAN (kV (f.length:Int) e))),(kG d [bg encI d]))/\qap n f M d e=some t) ?_ (m:=N) ⟨_,_,rfl,g5⟩
  rintro M s ⟨d,e,rfl,g5⟩
  cases M with
  |zero=>simp only[qap]at g5;cases g5
  |succ M=>
   rw[qap]at g5
   refine sh fol (kC n w (kAN [(12,.i (f.length:Int)),(13,.i e),(14,.bool (decide (e<(f.length:Int))))])) ?_
   refine sq ?_
   refine ihD g5 (fun u g5=>?_) (fun u g5=>?_)
   ·refine Goes.skip ?_
    refine sq (Goes.block ?_)
    refine sh fol (kC n w (kAN ((6,.i e)::(kV (f.length:Int) e)))) ?_
    obtain⟨g,p,g5⟩:=bnd g5
    obtain⟨y,k,g5⟩:=bnd g5
    refine gq fol [3,4,5] (kC n w (kAN (kV (f.length:Int) e))) (kG d (.bag ((d.map (qba encI)).set (e:Int).toNat (.av (.slice 2 0 g.length g.length 1)))::(kA g []))) (ac (hs (.run [] (qau ZT 22 (.i n) (.i n)) (kG d [bg encI d]) (.slice 2 0 g.length g.length 1) (kG d (bg encI d::(kA g []))) false) (qim xx (E:=encI) (z:=0) rfl (by kernel_rfl) p rfl)) (ac (hs (.done (.opt (qf ZT 25 (.slice 1 0 d.length d.length 1) (.i e))) (.ptr 1 ((e:Int).toNat*1+0))) (qaJ qhh k)) (ac (hs (.run [1] (xu ZT 22 (.ptr 1 ((e:Int).toNat*1+0)) (.slice 2 0 g.length g.length 1)) (kG d (bg encI d::(kA g []))) .undef (kG d (.bag ((d.map (qba encI)).set (e:Int).toNat (.av (.slice 2 0 g.length g.length 1)))::(kA g []))) true) (qpS (show _=some 1 by kernel_rfl) rfl (qqy k) rfl rfl rfl)) az))) ?_
    refine Goes.sub ((show Sub (ofG 54 (kC n w (kAN (kV (f.length:Int) e))),(kG d (.bag ((d.map (qba encI)).set (e:Int).toNat (.av (.slice 2 0 g.length g.length 1)))::(kA g [])))) (ofG 54 (kC n w (kAN (kV (f.length:Int) e))),(kG d [bg encI (xC d e g),.dead]))from(Sub.bagGive1 (E:=encI) (b:=1) (c:=2) (Nat.ne_of_beq_eq_false rfl) rfl rfl k (.s (mk_le p)) rfl)).trans (show Sub (ofG 54 (kC n w (kAN (kV (f.length:Int) e))),(kG d [bg encI (xC d e g),.dead])) (ofG 54 (kC n w (kAN (kV (f.length:Int) e))),(kG (xC d e g) [bg encI (xC d e g)]))from(Sub.norm [] [some 0,some 1] rfl rfl (.keep (.same nI) (.keep (.same (qD encI _)) (.kp (.keep (.same nI) (.keep (.same nI) .nil))))) (.kb rfl (.cells (rc (.sliceE rfl (qiB _ _ _)) rn)) (.kb rfl qaE.bgs .nil))))) ?_
    refine gh fol (kC n w (kAN (kV (f.length:Int) (w64 (e+1))))) ?_
    exact⟨M,(ofG 54 (kC n w (kAN (kV (f.length:Int) (w64 (e+1))))),(kG (xC d e g) [bg encI (xC d e g)])),Nat.lt_succ_self _,(Sub.refl _),_,_,rfl,g5⟩
   refine Goes.exit ?_
   obtain rfl:=si g5
   exact⟨rfl,_,rfl,(Sub.keep [0,1,5] rfl rfl)⟩
 rintro x s' ⟨rfl,j,rfl,hsub⟩
 refine Goes.sub hsub ?_
 refine sq ?_
 obtain⟨_,r,h⟩:=bnd h
 refine sq (gq fol [2] (kAN [(24,.func (.func 204) [] [.ptr 2 0,.ptr 3 0])]) (kG j (bg encI j::(kD n w []))) (ac (hs (.callH 135 (kAY n w) (kG j [bg encI j]) [] (.func (.func 204) [] kAW) (kG j (bg encI j::(kD n w [])))) (qaY [] [none,none,some 0,some 1] (qbT n w r) .nil rfl rfl (.old rfl rfl (.old rfl rfl (.new rfl rfl (.cells (rc (.same nI) rn)) rfl (.new rfl rfl (.cells (rc (.same (qD encI _)) rn)) rfl .nil)))) (rc (.same nI) (rc (.same (qD encI _)) rn)) (.funcL (sn) (rc (.ptr rfl) (rc (.ptr rfl) rn))) rfl)) az) ?_)
 refine Goes.block ?_
 obtain⟨a,q,h⟩:=bnd h
 refine Goes.range fol rfl (gf:=204) (first:=[]) (captured:=kAW) (v:= .tuple []) (A2:=(kG a (bg encI a::(kD n w [.loop .ready none (ofG 54 [(5,.ptr 0 0)]) qa.xp qa.x1 qa.x2])))) (s':=(ofG 54 (kAN [(24,.func (.func 204) [] [.ptr 2 0,.ptr 3 0])]),(kG a (bg encI a::(kD n w [.loop .exhausted none (ofG 54 [(5,.ptr 0 0)]) qa.xp qa.x1 qa.x2]))))) (x:= .normal) (by kernel_rfl) (by kernel_rfl) (qkW (show(Obl.callH 204 (.yld 4::kAW) (kG j (bg encI j::(kD n w [.loop .ready none (ofG 54 [(5,.ptr 0 0),(24,.func (.func 204) [] [.ptr 2 0,.ptr 3 0])]) qa.xp qa.x1 qa.x2]))) [4,0,1,2,3] (.tuple []) (kG a (bg encI a::(kD n w [.loop .ready none (ofG 54 [(5,.ptr 0 0)]) qa.xp qa.x1 qa.x2])))).Holds ZT from qaY [some 4,some 0,some 1,some 2,some 3] [some 1,some 2,some 3,some 4,some 0] (qds N j n w q) (.kb rfl (.loop rfl (.kp (.drop .nil))) (.kb rfl (.cells (rc (.slice rfl) rn)) (.kb rfl qaE.bgs (.kb rfl (.cells (rc (.same nI) rn)) (.kb rfl (.cells (rc (.same (qD encI _)) rn)) .nil))))) rfl rfl (.back rfl rfl (.cells (rc (.slice rfl) rn)) rfl (.back rfl rfl qaE.bgs rfl (.back rfl rfl (.cells (rc (.same nI) rn)) rfl (.back rfl rfl (.cells (rc (.same (qD encI _)) rn)) rfl (.back rfl rfl (.loop rfl (.kp .nil)) rfl .nil))))) (rc (.yld rfl) (rc (.ptr rfl) (rc (.ptr rfl) rn))) (.same (qj.tuple sn)) rfl)) (by kernel_rfl) ?_
 refine Goes.sub (show Sub (ofG 54 (kAN [(24,.func (.func 204) [] [.ptr 2 0,.ptr 3 0])]),(kG a (bg encI a::(kD n w [.loop .exhausted none (ofG 54 [(5,.ptr 0 0)]) qa.xp qa.x1 qa.x2])))) (ofG 54 (kAN [(24,.func (.func 204) [] [.ptr 2 0,.ptr 3 0])]),(kG a (bg encI a::(kD n w []))))from(Sub.norm [] [some 0,some 1,some 2,some 3] rfl rfl (.kp (.keep (.funcL (sn) (rc (.ptr rfl) (rc (.ptr rfl) rn))) .nil)) (.kb rfl (.cells (rc (.slice rfl) rn)) (.kb rfl qaE.bgs (.kb rfl (.same sn) (.kb rfl (.same sn) .nil)))))) ?_
 refine sh fol [(4,.slice 1 0 a.length a.length 1)] ?_
 refine Goes.sub (s':=(ofG 54 [(4,.slice 1 0 a.length a.length 1)],(kG a (.frozen (a.flatMap (qc encI).c)::(kD n w []))))) (Sub.bagFreeze (E:=encI) (b:=1) rfl) ?_
 refine Goes.ret ?_
 obtain rfl:=si h
 exact(gw2 [.slice 1 0 a.length a.length 1] (Uz (Fz.slF (E:=(qc encI)) rfl rfl (nl rfl))))
def qcz (N:Nat) (n:Int) (w:List Int):Option ((List (List Int))×Int):=
 (jf N n w).bind fun a=>
 if(!decide (a=0))=true then
 some ([],a)
 else
 (qcA N n w).bind fun b=>
 some (b,0)
theorem qiO (N:Nat) (n:Int) (w:List Int) {res:(List (List Int))×Int} (h:qcz N n w=some res):qd ZT (.fn 12) (kAY n w) [] (.tuple [vl (qc encI) res.1,.i res.2]) []:=by
 unfold qcz at h
 refine Uc Tryz.func12 rfl rfl (m:=16) rfl (rs:=[.tmp 4,.tmp 5]) rfl (l:=(kC n w [])) rfl ?_
 refine sh fol (kC n w []) ?_
 refine sq ?_
 obtain⟨a,b,h⟩:=bnd h
 refine sq (gr fol [2] (kC n w [(6,.i a)]) (ac (cv (yC N n w b)) az) ?_)
 refine sh fol (kC n w [(6,.i a),(11,.bool (!decide (a=0)))]) ?_
 refine ihB h (fun e h=>?_) (fun e h=>?_)
 ·refine sh fol [(4,.nilslice),(5,.i a)] ?_
  refine Goes.ret ?_
  obtain rfl:=si h
  exact(gw2 [.nilslice,.i a] (FzW.tuple (zN.cons (FzW.nilv (E:=(qc encI))) (zN.cons (Ua tI) zN.nil))))
 refine Goes.skip ?_
 obtain⟨d,c,h⟩:=bnd h
 refine sq (gr fol [2] [(4,vl (qc encI) d),(5,.i 0)] (ac (cv (qiU N n w c)) az) ?_)
 refine Goes.ret ?_
 obtain rfl:=si h
 exact(gw2 [vl (qc encI) d,.i 0] (FzW.tuple (zN.cons (Ua (jQ (qc encI) _ (nl rfl))) (zN.cons (Ua tI) zN.nil))))
def vO (a:List Int) (b:List Int):Nat->Int->Option (Unit⊕Bool)
 |0,_=>none
 |K+1,c=>
  if c<(a.length:Int)then
  (idx a c).bind fun d=>
  (idx b c).bind fun e=>
  if(!decide (d=e))=true then
  some (.inr false)
  else
  vO a b K (w64 (c+1))
  else
  some (.inl ())
def yP (N:Nat) (a:List Int) (b:List Int):Option Bool:=
 if(!decide ((a.length:Int)=(b.length:Int)))=true then
 some false
 else
 (vO a b N 0).bind (fun
 |(.inl ())=>
 some true
 |(.inr c)=>
 some c)
theorem xh (N:Nat) (a:List Int) (b:List Int) {res:Bool} (h:yP N a b=some res):qd ZT (.fn 37) (kAR a b) [] (.bool res) []:=by
 unfold yP at h
 refine Uc Tryz.func37 rfl rfl (m:=26) rfl (rs:=[.tmp 4]) rfl (l:=(kH a b [])) rfl ?_
 refine sh fol (kH a b []) ?_
 refine sq ?_
 refine sh fol (kH a b [(10,.bool (!decide ((a.length:Int)=(b.length:Int))))]) ?_
 refine ihB h (fun j h=>?_) (fun j h=>?_)
 ·refine sh fol kAE ?_
  refine Goes.ret ?_
  obtain rfl:=si h
  exact(gw2 [.bool false] (Ua tB))
 refine Goes.skip ?_
 refine sq ?_
 refine sh fol (kH a b [(5,.i 0)]) ?_
 refine Goes.block ?_
 obtain⟨f,g3,h⟩:=bnd h
 refine Goes.imp (Q:=fun x s'=>(x= .exit 0/\(.inl ())=f/\Sub s' (ofG 26 [],[]))\/(x= .ret/\ ∃g,(.inr g)=f/\vK ZT [.tmp 4] (.bool g) .ret s')) ?_ ?_
 ·refine Ue (fun M s=> ∃(c:Int),s=(ofG 26 (kH a b [(5,.i c)]),[])/\vO a b M c=some f) ?_ (m:=N) ⟨_,rfl,g3⟩
  rintro M s ⟨c,rfl,g3⟩
  cases M with
  |zero=>simp only[vO]at g3;cases g3
  |succ M=>
   rw[vO]at g3
   refine sq ?_
   refine sh fol (kH a b [(5,.i c),(14,.bool (decide (c<(a.length:Int))))]) ?_
   refine ihD g3 (fun k g3=>?_) (fun k g3=>?_)
   ·refine Goes.skip ?_
    refine sq (Goes.block ?_)
    obtain⟨n,d,g3⟩:=bnd g3
    obtain⟨o,e,g3⟩:=bnd g3
    refine sq (gr fol [2,3,6,7] (kH a b [(5,.i c),(25,.bool (!decide (n=o)))]) (ac (iv xx encI d) (ac (lv 0 ce3 encI d rfl) (ac (iv xx encI e) (ac (lv 0 ce3 encI e rfl) az)))) ?_)
    refine ihB g3 (fun p g3=>?_) (fun p g3=>?_)
    ·refine sh fol kAE ?_
     refine Goes.ret ?_
     obtain rfl:=si g3
     exact Or.inr (⟨rfl,_,rfl,(gw2 [.bool false] (Ua tB))⟩)
    refine Goes.skip ?_
    refine gh fol (kH a b [(5,.i (w64 (c+1)))]) ?_
    exact⟨M,(ofG 26 (kH a b [(5,.i (w64 (c+1)))]),[]),Nat.lt_succ_self _,(Sub.refl _),_,rfl,g3⟩
   refine Goes.exit ?_
   obtain rfl:=si g3
   exact Or.inl (⟨rfl,rfl,(Sub.keep [] rfl rfl)⟩)
 rintro x s' (⟨rfl,rfl,hsub⟩|⟨rfl,q,rfl,hret⟩)
 ·try dsimp only at h
  refine Goes.sub hsub ?_
  refine sh fol kAS ?_
  refine Goes.ret ?_
  obtain rfl:=si h
  exact(gw2 [.bool true] (Ua tB))
 try dsimp only at h
 obtain rfl:=si h
 exact hret
def qdI (N:Nat) (n:Int) (w:List Int) (strands:Int) (letters:Int):Option Bool:=
 (if n<=strands then
 if(w.length:Int)<=letters then
 (qag N n w).bind fun a=>
 some (decide (a=0))
 else
 some false
 else
 some false:Option Bool).bind fun b=>
 some b
theorem qjW (N:Nat) (n:Int) (w:List Int) (strands:Int) (letters:Int) {res:Bool} (h:qdI N n w strands letters=some res):qd ZT (.fn 38) [.i n,vl encI w,.i strands,.i letters] [] (.bool res) []:=by
 unfold qdI at h
 refine Uc Tryz.func38 rfl rfl (m:=24) rfl (rs:=[.tmp 8]) rfl (l:=(kC n w [(2,.i strands),(3,.i letters)])) rfl ?_
 refine sh fol (kC n w [(2,.i strands),(3,.i letters)]) ?_
 refine sq ?_
 obtain⟨e,a,h⟩:=bnd h
 refine Goes.cut (s':=(ofG 24 [(8,.bool e)],[])) ?_ ?_
 ·rcases wyD a with⟨c,a⟩|⟨c,a⟩
  ·rcases wyD a with⟨d,a⟩|⟨d,a⟩
   ·obtain⟨f,b,a⟩:=bnd a
    obtain rfl:=si a
    exact tr fol [3,9,12] [(8,.bool (decide (f=0)))] (ac (gw c) (ac (gw d) (ac (cv (qcR N n w b)) az)))
   obtain rfl:=si a
   exact tr fol [3,9] [(8,.bool false)] (ac (gw c) (ac (gw d) az))
  obtain rfl:=si a
  exact tr fol [3] [(8,.bool false)] (ac (gw c) az)
 refine Goes.ret ?_
 obtain rfl:=si h
 exact(gw2 [.bool e] (Ua tB))
def qO:Nat->(List Int)->Int->Int->Option (List Int)
 |0,_,_,_=>none
 |K+1,c,d,a=>
  if d<a then
  (idx c a).bind fun f=>
  (idx c d).bind fun g=>
  (put c d f).bind fun b=>
  (idx b a).bind fun h=>
  (put b a g).bind fun e=>
  qO K e (w64 (d+1)) (w64 (a-1))
  else
  some c
def yh (N:Nat) (a:List Int):Option (List Int):=
 (qO N a 0 (w64 ((a.length:Int)-1))).bind fun b=>
 some b
theorem qdl (N:Nat) (b:List Int) {t:List Int} (h:yh N b=some t):qd ZT (.fn 202) [.slice 0 0 b.length b.length 1] (kA b []) (.tuple []) (kA t []):=by
 unfold yh at h
 refine Uq Tryz.func202 rfl rfl (m:=28) rfl (rs:=[]) rfl (l:=[(0,.slice 0 0 b.length b.length 1)]) rfl ?_
 intro B hB
 refine Ut ?_
 refine sh fol [(0,.slice 0 0 b.length b.length 1),(2,.i 0),(3,.i (w64 ((b.length:Int)-1)))] ?_
 refine Goes.block ?_
 obtain⟨u,g6,h⟩:=bnd h
 refine Goes.imp (Q:=fun x s'=>(x= .exit 0/\ ∃p,p=u/\Sub s' (ofG 28 [],(kA p [])))) ?_ ?_
 ·refine Ue (fun M s=> ∃(a:List Int) (d:Int) (e:Int),s=(ofG 28 (kY a d e []),(kA a []))/\qO M a d e=some u) ?_ (m:=N) ⟨_,_,_,rfl,g6⟩
  rintro M s ⟨a,d,e,rfl,g6⟩
  cases M with
  |zero=>simp only[qO]at g6;cases g6
  |succ M=>
   rw[qO]at g6
   refine sq ?_
   refine sh fol (kY a d e [(9,.bool (decide (d<e)))]) ?_
   refine ihD g6 (fun v g6=>?_) (fun v g6=>?_)
   ·refine Goes.skip ?_
    refine sq (Goes.block ?_)
    obtain⟨q,g,g6⟩:=bnd g6
    obtain⟨r,f,g6⟩:=bnd g6
    obtain⟨n,j,g6⟩:=bnd g6
    obtain⟨w,o,g6⟩:=bnd g6
    obtain⟨c,k,g6⟩:=bnd g6
    refine gq fol [6,7,10,11,12,13,14,15] (kY a d e []) (kA c []) (ac (hs (.done (.opt (qf ZT 155 (.slice 0 0 a.length a.length 1) (.i e))) (.ptr 0 ((e:Int).toNat*1+0))) (qaJ qbA g)) (ac (hs (.run [0] (vF ZT 3 (.ptr 0 ((e:Int).toNat*1+0))) (kA a []) (.i q) (kA a []) false) (qcU ce3 (E:=encI) (l:=a) rfl rfl g (nl rfl) rfl)) (ac (hs (.done (.opt (qf ZT 155 (.slice 0 0 a.length a.length 1) (.i d))) (.ptr 0 ((d:Int).toNat*1+0))) (qaJ qbA f)) (ac (hs (.run [0] (vF ZT 3 (.ptr 0 ((d:Int).toNat*1+0))) (kA a []) (.i r) (kA a []) false) (qcU ce3 (E:=encI) (l:=a) rfl rfl f (nl rfl) rfl)) (ac (hs (.done (.opt (qf ZT 155 (.slice 0 0 a.length a.length 1) (.i d))) (.ptr 0 ((d:Int).toNat*1+0))) (qaJ qbA f)) (ac (hs (.run [0] (xu ZT 3 (.ptr 0 ((d:Int).toNat*1+0)) (.i q)) (kA a []) .undef (kA n []) true) (qb6 (E:=encI) (l:=a) (y:=q) rfl (show _=some 1 by kernel_rfl) rfl f rfl rfl rfl rfl rfl j rfl)) (ac (hs (.done (.opt (qf ZT 155 (.slice 0 0 a.length a.length 1) (.i e))) (.ptr 0 ((e:Int).toNat*1+0))) (qaJ qbA g)) (ac (hs (.run [0] (xu ZT 3 (.ptr 0 ((e:Int).toNat*1+0)) (.i r)) (kA n []) .undef (kA c []) true) (qb6 (E:=encI) (l:=n) (y:=r) rfl (show _=some 1 by kernel_rfl) rfl o rfl rfl rfl rfl rfl k rfl)) az)))))))) ?_
    refine Goes.sub (show Sub (ofG 28 (kY a d e []),(kA c [])) (ofG 28 (kY c d e []),(kA c []))from(Sub.norm [] [some 0] (by rw[hB];rfl) rfl (.keep (.sliceE rfl ((qal j).trans (qal k))) (.keep (.same nI) (.keep (.same nI) .nil))) (.ks .nil))) ?_
    refine gh fol (kY c (w64 (d+1)) (w64 (e-1)) []) ?_
    exact⟨M,(ofG 28 (kY c (w64 (d+1)) (w64 (e-1)) []),(kA c [])),Nat.lt_succ_self _,(Sub.refl _),_,_,_,rfl,g6⟩
   refine Goes.exit ?_
   obtain rfl:=si g6
   exact⟨rfl,_,rfl,(Sub.keep [] rfl rfl)⟩
 rintro x s' ⟨rfl,p,rfl,hsub⟩
 obtain rfl:=si h
 exact⟨_,hsub,(gh2 [] (qch.refl _ _))⟩
def qb0 (N:Nat) (n:Int):Option (List Int):=
 (zK N n).bind fun a=>
 (yh N a).bind fun b=>
 ((if a.length=b.length then some ()else none:Option Unit)).bind fun c=>
 some b
theorem qfw (N:Nat) (n:Int) {res:List Int} (h:qb0 N n=some res):qd ZT (.fn 131) [.i n] [] (vl encI res) []:=by
 unfold qb0 at h
 refine Uc Tryz.func131 rfl rfl (m:=9) rfl (rs:=[.tmp 2]) rfl (l:=[(0,.i n)]) rfl ?_
 refine sh fol [(0,.i n)] ?_
 obtain⟨a,c,h⟩:=bnd h
 refine sq (gq fol [1] (kI a []) (kA a []) (ac (hs (.callH 138 [.i n] [] [] (.slice 0 0 a.length a.length 1) (kA a [])) (qaY [] [some 0] (yQ N n c) .nil rfl rfl (.new rfl rfl (.same fa) rfl .nil) (rc (.same nI) rn) (.slice rfl) rfl)) az) ?_)
 obtain⟨b,d,h⟩:=bnd h
 obtain⟨f,e,h⟩:=bnd h
 refine sq (gq fol [1] (kI a []) (kA b []) (ac (hs (.callH 202 [.slice 0 0 a.length a.length 1] (kA a []) [0] (.tuple []) (kA b [])) (qaY [some 0] [some 0] (qdl N a d) (.ks .nil) rfl rfl (.back rfl rfl (.same fa) rfl .nil) (rc (.slice rfl) rn) (.same (qj.tuple sn)) rfl)) az) ?_)
 refine Goes.sub (show Sub (ofG 9 (kI a []),(kA b [])) (ofG 9 (kI b []),(kA b []))from(Sub.norm [] [some 0] rfl rfl (.keep (.sliceE rfl (qm0 e)) .nil) (.ks .nil))) ?_
 refine sh fol (kAV b) ?_
 refine Goes.ret ?_
 obtain rfl:=si h
 exact(gw2 [.slice 0 0 b.length b.length 1] (Uz (Fz.sl (E:=encI) rfl rfl (nl rfl))))
def ky (p:List Int) (i:Int):Option (List Int):=
 (qeB p).bind fun _=>
 (idx p (w64 (i+1))).bind fun b=>
 (idx p i).bind fun c=>
 (put p i b).bind fun a=>
 (idx a (w64 (i+1))).bind fun e=>
 (put a (w64 (i+1)) c).bind fun d=>
 some d
theorem yU (p:List Int) (i:Int) {res:List Int} (h:ky p i=some res):qd ZT (.fn 189) [vl encI p,.i i] [] (vl encI res) []:=by
 unfold ky at h
 refine Uc Tryz.func189 rfl rfl (m:=25) rfl (rs:=[.tmp 4]) rfl (l:=(kM p (kAX i))) rfl ?_
 refine sh fol (kM p (kAX i)) ?_
 obtain⟨_,f,h⟩:=bnd h
 refine sq (gq fol [1] [(1,.i i),(5,.gslice 0 p.length 1)] (kA p []) (ac (hs (.callH 196 [vl encI p] [] [] (.gslice 0 p.length 1) (kA p [])) (qaY [] [some 0] (qjn p f) .nil rfl rfl (.new rfl rfl (.same fa) rfl .nil) (rc (.same (qD encI _)) rn) (.gslice rfl) rfl)) az) ?_)
 obtain⟨j,b,h⟩:=bnd h
 obtain⟨k,a,h⟩:=bnd h
 obtain⟨n,c,h⟩:=bnd h
 obtain⟨o,g,h⟩:=bnd h
 obtain⟨e,d,h⟩:=bnd h
 refine sq (gq fol [8,9,12,13,14,15,16,17] [(5,.gslice 0 p.length 1)] (kA e []) (ac (hs (.done (.opt (qf ZT 155 (.gslice 0 p.length 1) (.i (w64 (i+1))))) (.ptr 0 ((w64 (i+1):Int).toNat*1+0))) (qce qbA b)) (ac (hs (.run [0] (vF ZT 3 (.ptr 0 ((w64 (i+1):Int).toNat*1+0))) (kA p []) (.i j) (kA p []) false) (qcU ce3 (E:=encI) (l:=p) rfl rfl b (nl rfl) rfl)) (ac (hs (.done (.opt (qf ZT 155 (.gslice 0 p.length 1) (.i i))) (.ptr 0 ((i:Int).toNat*1+0))) (qce qbA a)) (ac (hs (.run [0] (vF ZT 3 (.ptr 0 ((i:Int).toNat*1+0))) (kA p []) (.i k) (kA p []) false) (qcU ce3 (E:=encI) (l:=p) rfl rfl a (nl rfl) rfl)) (ac (hs (.done (.opt (qf ZT 155 (.gslice 0 p.length 1) (.i i))) (.ptr 0 ((i:Int).toNat*1+0))) (qce qbA a)) (ac (hs (.run [0] (xu ZT 3 (.ptr 0 ((i:Int).toNat*1+0)) (.i j)) (kA p []) .undef (kA n []) true) (qb6 (E:=encI) (l:=p) (y:=j) rfl (show _=some 1 by kernel_rfl) rfl a rfl rfl rfl rfl rfl c rfl)) (ac (hs (.done (.opt (qf ZT 155 (.gslice 0 p.length 1) (.i (w64 (i+1))))) (.ptr 0 ((w64 (i+1):Int).toNat*1+0))) (qce qbA b)) (ac (hs (.run [0] (xu ZT 3 (.ptr 0 ((w64 (i+1):Int).toNat*1+0)) (.i k)) (kA n []) .undef (kA e []) true) (qb6 (E:=encI) (l:=n) (y:=k) rfl (show _=some 1 by kernel_rfl) rfl g rfl rfl rfl rfl rfl d rfl)) az)))))))) ?_)
 refine Goes.sub (show Sub (ofG 25 [(5,.gslice 0 p.length 1)],(kA e [])) (ofG 25 [(5,.gslice 0 e.length 1)],(kA e []))from(Sub.norm [] [some 0] rfl rfl (.keep (.gsliceE rfl ((qal c).trans (qal d))) .nil) (.ks .nil))) ?_
 refine sh fol [(4,.gslice 0 e.length 1)] ?_
 refine Goes.ret ?_
 obtain rfl:=si h
 exact(gw2 [.gslice 0 e.length 1] (Uz (Fz.gs (E:=encI) rfl rfl (nl rfl))))
def kg (p:List Int):Nat->(List Int)->Int->Option (List Int)
 |0,_,_=>none
 |K+1,b,a=>
  if a<(p.length:Int)then
  (idx p a).bind fun c=>
  (idx b (w64 ((w64 ((p.length:Int)-1))-a))).bind fun e=>
  (put b (w64 ((w64 ((p.length:Int)-1))-a)) (w64 ((w64 ((p.length:Int)-1))-c))).bind fun d=>
  kg p K d (w64 (a+1))
  else
  some b
def yN (N:Nat) (p:List Int):Option (List Int):=
 (mk 8 (p.length:Int) 0).bind fun a=>
 (kg p N a 0).bind fun b=>
 some b
theorem qdz (N:Nat) (p:List Int) {res:List Int} (h:yN N p=some res):qd ZT (.fn 191) [vl encI p] [] (vl encI res) []:=by
 unfold yN at h
 refine Uc Tryz.func191 rfl rfl (m:=30) rfl (rs:=[.tmp 2]) rfl (l:=(kM p [])) rfl ?_
 refine sh fol (kM p []) ?_
 refine sh fol (kM p [(3,.i (p.length:Int))]) ?_
 obtain⟨j,k,h⟩:=bnd h
 refine sq (gq fol [1] (kM p [(3,.i (p.length:Int)),(4,.slice 0 0 j.length j.length 1)]) (kA j []) (ac (hs (.run [] (qau ZT 155 (.i (p.length:Int)) (.i (p.length:Int))) [] (.slice 0 0 j.length j.length 1) (kA j []) false) (qim qbA (E:=encI) (z:=0) rfl (by kernel_rfl) k rfl)) az) ?_)
 refine sq ?_
 refine sh fol (kK (p.length:Int) j p [(13,.i 0)]) ?_
 refine Goes.block ?_
 obtain⟨o,g5,h⟩:=bnd h
 refine Goes.imp (Q:=fun x s'=>(x= .exit 0/\ ∃c,c=o/\Sub s' (ofG 30 [(4,.slice 0 0 c.length c.length 1)],(kA c [])))) ?_ ?_
 ·refine Ue (fun M s=> ∃(b:List Int) (a:Int),s=(ofG 30 (kK (p.length:Int) b p [(13,.i a)]),(kA b []))/\kg p M b a=some o) ?_ (m:=N) ⟨_,_,rfl,g5⟩
  rintro M s ⟨b,a,rfl,g5⟩
  cases M with
  |zero=>simp only[kg]at g5;cases g5
  |succ M=>
   rw[kg]at g5
   refine sh fol (kK (p.length:Int) b p [(13,.i a),(14,.bool (decide (a<(p.length:Int))))]) ?_
   refine sq ?_
   refine ihD g5 (fun q g5=>?_) (fun q g5=>?_)
   ·refine Goes.skip ?_
    refine sq (Goes.block ?_)
    obtain⟨n,d,g5⟩:=bnd g5
    refine sq (gr fol [1,2] ((3,.i (p.length:Int))::(4,.slice 0 0 b.length b.length 1)::(5,.i a)::(6,.i n)::(11,vl encI p)::(kV (p.length:Int) a)) (ac (iv qbA encI d) (ac (lv 0 ce3 encI d rfl) az)) ?_)
    obtain⟨r,e,g5⟩:=bnd g5
    obtain⟨f,g,g5⟩:=bnd g5
    refine gq fol [9,10] (kK (p.length:Int) b p [(13,.i a)]) (kA f []) (ac (hs (.done (.opt (qf ZT 155 (.slice 0 0 b.length b.length 1) (.i (w64 ((w64 ((p.length:Int)-1))-a))))) (.ptr 0 ((w64 ((w64 ((p.length:Int)-1))-a):Int).toNat*1+0))) (qaJ qbA e)) (ac (hs (.run [0] (xu ZT 3 (.ptr 0 ((w64 ((w64 ((p.length:Int)-1))-a):Int).toNat*1+0)) (.i (w64 ((w64 ((p.length:Int)-1))-n)))) (kA b []) .undef (kA f []) true) (qb6 (E:=encI) (l:=b) (y:=w64 ((w64 ((p.length:Int)-1))-n)) rfl (show _=some 1 by kernel_rfl) rfl e rfl rfl rfl rfl rfl g rfl)) az)) ?_
    refine Goes.sub (show Sub (ofG 30 (kK (p.length:Int) b p [(13,.i a)]),(kA f [])) (ofG 30 (kK (p.length:Int) f p [(13,.i a)]),(kA f []))from(Sub.norm [] [some 0] rfl rfl (.keep (.same nI) (.keep (.sliceE rfl (qal g)) (.keep (.same (qD encI _)) (.keep (.same nI) (.keep (.same nI) .nil))))) (.ks .nil))) ?_
    refine gh fol (kK (p.length:Int) f p [(13,.i (w64 (a+1)))]) ?_
    exact⟨M,(ofG 30 (kK (p.length:Int) f p [(13,.i (w64 (a+1)))]),(kA f [])),Nat.lt_succ_self _,(Sub.refl _),_,_,rfl,g5⟩
   refine Goes.exit ?_
   obtain rfl:=si g5
   exact⟨rfl,_,rfl,(Sub.keep [4] rfl rfl)⟩
 rintro x s' ⟨rfl,c,rfl,hsub⟩
 refine Goes.sub hsub ?_
 refine sh fol (kAV c) ?_
 refine Goes.ret ?_
 obtain rfl:=si h
 exact(gw2 [.slice 0 0 c.length c.length 1] (Uz (Fz.sl (E:=encI) rfl rfl (nl rfl))))
def zB (p:List Int):Nat->(List Int)->Int->Option (List Int)
 |0,_,_=>none
 |K+1,b,a=>
  if a<(p.length:Int)then
  (idx p a).bind fun c=>
  (idx b c).bind fun e=>
  (put b c a).bind fun d=>
  zB p K d (w64 (a+1))
  else
  some b
def vg (N:Nat) (p:List Int):Option (List Int):=
 (mk 8 (p.length:Int) 0).bind fun a=>
 (zB p N a 0).bind fun b=>
 some b
theorem qa1 (N:Nat) (p:List Int) {res:List Int} (h:vg N p=some res):qd ZT (.fn 244) [vl encI p] [] (vl encI res) []:=by
 unfold vg at h
 refine Uc Tryz.func244 rfl rfl (m:=22) rfl (rs:=[.tmp 2]) rfl (l:=(kM p [])) rfl ?_
 refine sh fol (kM p []) ?_
 obtain⟨j,k,h⟩:=bnd h
 refine sq (gq fol [2] (kM p (kI j [])) (kA j []) (ac (hs (.run [] (qau ZT 155 (.i (p.length:Int)) (.i (p.length:Int))) [] (.slice 0 0 j.length j.length 1) (kA j []) false) (qim qbA (E:=encI) (z:=0) rfl (by kernel_rfl) k rfl)) az) ?_)
 refine sq ?_
 refine sh fol (kI j [(9,vl encI p),(10,.i (p.length:Int)),(11,.i 0)]) ?_
 refine Goes.block ?_
 obtain⟨o,g5,h⟩:=bnd h
 refine Goes.imp (Q:=fun x s'=>(x= .exit 0/\ ∃g,g=o/\Sub s' (ofG 22 (kI g []),(kA g [])))) ?_ ?_
 ·refine Ue (fun M s=> ∃(b:List Int) (a:Int),s=(ofG 22 (kI b ((9,vl encI p)::(kAD (p.length:Int) a))),(kA b []))/\zB p M b a=some o) ?_ (m:=N) ⟨_,_,rfl,g5⟩
  rintro M s ⟨b,a,rfl,g5⟩
  cases M with
  |zero=>simp only[zB]at g5;cases g5
  |succ M=>
   rw[zB]at g5
   refine sh fol (kI b [(9,vl encI p),(10,.i (p.length:Int)),(11,.i a),(12,.bool (decide (a<(p.length:Int))))]) ?_
   refine sq ?_
   refine ihD g5 (fun q g5=>?_) (fun q g5=>?_)
   ·refine Goes.skip ?_
    refine sq (Goes.block ?_)
    obtain⟨n,c,g5⟩:=bnd g5
    refine sq (gr fol [1,2] (kI b ((4,.i a)::(5,.i n)::(9,vl encI p)::(kAD (p.length:Int) a))) (ac (iv qbA encI c) (ac (lv 0 ce3 encI c rfl) az)) ?_)
    obtain⟨r,d,g5⟩:=bnd g5
    obtain⟨e,f,g5⟩:=bnd g5
    refine gq fol [3,4] (kI b ((9,vl encI p)::(kAD (p.length:Int) a))) (kA e []) (ac (hs (.done (.opt (qf ZT 155 (.slice 0 0 b.length b.length 1) (.i n))) (.ptr 0 ((n:Int).toNat*1+0))) (qaJ qbA d)) (ac (hs (.run [0] (xu ZT 3 (.ptr 0 ((n:Int).toNat*1+0)) (.i a)) (kA b []) .undef (kA e []) true) (qb6 (E:=encI) (l:=b) (y:=a) rfl (show _=some 1 by kernel_rfl) rfl d rfl rfl rfl rfl rfl f rfl)) az)) ?_
    refine Goes.sub (show Sub (ofG 22 (kI b ((9,vl encI p)::(kAD (p.length:Int) a))),(kA e [])) (ofG 22 (kI e ((9,vl encI p)::(kAD (p.length:Int) a))),(kA e []))from(Sub.norm [] [some 0] rfl rfl (.keep (.sliceE rfl (qal f)) (.keep (.same (qD encI _)) (.keep (.same nI) (.keep (.same nI) .nil)))) (.ks .nil))) ?_
    refine gh fol (kI e ((9,vl encI p)::(kAD (p.length:Int) (w64 (a+1))))) ?_
    exact⟨M,(ofG 22 (kI e ((9,vl encI p)::(kAD (p.length:Int) (w64 (a+1))))),(kA e [])),Nat.lt_succ_self _,(Sub.refl _),_,_,rfl,g5⟩
   refine Goes.exit ?_
   obtain rfl:=si g5
   exact⟨rfl,_,rfl,(Sub.keep [3] rfl rfl)⟩
 rintro x s' ⟨rfl,g,rfl,hsub⟩
 refine Goes.sub hsub ?_
 refine sh fol (kAV g) ?_
 refine Goes.ret ?_
 obtain rfl:=si h
 exact(gw2 [.slice 0 0 g.length g.length 1] (Uz (Fz.sl (E:=encI) rfl rfl (nl rfl))))
def vW (N:Nat) (p:List Int) (i:Int):Option (List Int):=
 (vg N p).bind fun a=>
 (ky a i).bind fun b=>
 (vg N b).bind fun c=>
 some c
theorem qbG (N:Nat) (p:List Int) (i:Int) {res:List Int} (h:vW N p i=some res):qd ZT (.fn 192) [vl encI p,.i i] [] (vl encI res) []:=by
 unfold vW at h
 refine Uc Tryz.func192 rfl rfl (m:=10) rfl (rs:=[.tmp 4]) rfl (l:=(kM p (kAX i))) rfl ?_
 refine sh fol (kM p (kAX i)) ?_
 obtain⟨e,a,h⟩:=bnd h
 obtain⟨f,b,h⟩:=bnd h
 obtain⟨d,c,h⟩:=bnd h
 refine sq (gr fol [1,3,4] [(4,vl encI d)] (ac (cv (qa1 N p a)) (ac (cv (yU e i b)) (ac (cv (qa1 N f c)) az))) ?_)
 refine Goes.ret ?_
 obtain rfl:=si h
 exact(gw2 [vl encI d] (Ua (jQ encI _ (nl rfl))))
def jy (p:List Int) (i:Int):Option Bool:=
 (idx p i).bind fun a=>
 (idx p (w64 (i+1))).bind fun b=>
 some (decide (a>b))
theorem xG (p:List Int) (i:Int) {res:Bool} (h:jy p i=some res):qd ZT (.fn 197) [vl encI p,.i i] [] (.bool res) []:=by
 unfold jy at h
 refine Uc Tryz.func197 rfl rfl (m:=15) rfl (rs:=[.tmp 4]) rfl (l:=(kM p (kAX i))) rfl ?_
 refine sh fol (kM p (kAX i)) ?_
 obtain⟨c,a,h⟩:=bnd h
 obtain⟨d,b,h⟩:=bnd h
 refine sq (gr fol [2,3,7,8] (kAT (decide (c>d))) (ac (iv qbA encI a) (ac (lv 0 ce3 encI a rfl) (ac (iv qbA encI b) (ac (lv 0 ce3 encI b rfl) az)))) ?_)
 refine Goes.ret ?_
 obtain rfl:=si h
 exact(gw2 [.bool (decide (c>d))] (Ua tB))
def qao (N:Nat) (p:List Int) (i:Int):Option Bool:=
 (vg N p).bind fun a=>
 (jy a i).bind fun b=>
 some b
theorem qeD (N:Nat) (p:List Int) (i:Int) {res:Bool} (h:qao N p i=some res):qd ZT (.fn 249) [vl encI p,.i i] [] (.bool res) []:=by
 unfold qao at h
 refine Uc Tryz.func249 rfl rfl (m:=9) rfl (rs:=[.tmp 4]) rfl (l:=(kM p (kAX i))) rfl ?_
 refine sh fol (kM p (kAX i)) ?_
 obtain⟨d,a,h⟩:=bnd h
 obtain⟨c,b,h⟩:=bnd h
 refine sq (gr fol [1,3] (kAT c) (ac (cv (qa1 N p a)) (ac (cv (xG d i b)) az)) ?_)
 refine Goes.ret ?_
 obtain rfl:=si h
 exact(gw2 [.bool c] (Ua tB))
def vE (N:Nat) (a:List Int) (b:List Int):Nat->Int->Int->Option (Unit⊕(Int×Bool))
 |0,_,_=>none
 |K+1,c,d=>
  if c<d then
  ((jy b c).bind fun e=>
  if e=true then
  (qao N a c).bind fun f=>
  some (!f)
  else
  some false:Option Bool).bind fun g=>
  if g=true then
  some (.inr (c,true))
  else
  vE N a b K (w64 (c+1)) d
  else
  some (.inl ())
def qaX (N:Nat) (a:List Int) (b:List Int):Option (Int×Bool):=
 (vE N a b N 0 (w64 ((a.length:Int)-1))).bind (fun
 |(.inl ())=>
 some (0,false)
 |(.inr c)=>
 some c)
theorem qgz (N:Nat) (a:List Int) (b:List Int) {res:Int×Bool} (h:qaX N a b=some res):qd ZT (.fn 201) (kAR a b) [] (.tuple [.i res.1,.bool res.2]) []:=by
 unfold qaX at h
 refine Uc Tryz.func201 rfl rfl (m:=24) rfl (rs:=[.tmp 4,.tmp 5]) rfl (l:=(kH a b [])) rfl ?_
 refine sh fol (kH a b []) ?_
 refine sq ?_
 refine sh fol (kH a b [(9,.i (w64 ((a.length:Int)-1))),(10,.i 0)]) ?_
 refine Goes.block ?_
 obtain⟨j,g3,h⟩:=bnd h
 refine Goes.imp (Q:=fun x s'=>(x= .exit 0/\(.inl ())=j/\Sub s' (ofG 24 [],[]))\/(x= .ret/\ ∃k,(.inr k)=j/\vK ZT [.tmp 4,.tmp 5] (.tuple [.i k.1,.bool k.2]) .ret s')) ?_ ?_
 ·refine Ue (fun M s=> ∃(d:Int) (e:Int),s=(ofG 24 (kH a b (kAC e d [])),[])/\vE N a b M d e=some j) ?_ (m:=N) ⟨_,_,rfl,g3⟩
  rintro M s ⟨d,e,rfl,g3⟩
  cases M with
  |zero=>simp only[vE]at g3;cases g3
  |succ M=>
   rw[vE]at g3
   refine sh fol (kH a b (kAC e d [(11,.bool (decide (d<e)))])) ?_
   refine sq ?_
   refine ihD g3 (fun p g3=>?_) (fun p g3=>?_)
   ·refine Goes.skip ?_
    refine sq (Goes.block ?_)
    refine sh fol (kH a b ((6,.i d)::(kAC e d []))) ?_
    refine sq ?_
    obtain⟨q,c,g3⟩:=bnd g3
    refine Goes.cut (s':=(ofG 24 (kH a b ((6,.i d)::(kAC e d [(21,.bool q)]))),[])) ?_ ?_
    ·obtain⟨u,f,c⟩:=bnd c
     rcases wyB c with⟨n,c⟩|⟨n,c⟩
     ·obtain⟨r,g,c⟩:=bnd c
      obtain rfl:=si c
      exact tr fol [2,3,6] (kH a b ((6,.i d)::(kAC e d [(21,.bool (!r))]))) (ac (cv (xG b d f)) (ac (gw n) (ac (cv (qeD N a d g)) az)))
     obtain rfl:=si c
     exact tr fol [2,3] (kH a b ((6,.i d)::(kAC e d [(21,.bool false)]))) (ac (cv (xG b d f)) (ac (gw n) az))
    refine ihB g3 (fun o g3=>?_) (fun o g3=>?_)
    ·refine sh fol [(4,.i d),(5,.bool true)] ?_
     refine Goes.ret ?_
     obtain rfl:=si g3
     exact Or.inr (⟨rfl,_,rfl,(gw2 [.i d,.bool true] (FzW.tuple (zN.cons (Ua tI) (zN.cons (Ua tB) zN.nil))))⟩)
    refine Goes.skip ?_
    refine gh fol (kH a b (kAC e (w64 (d+1)) [])) ?_
    exact⟨M,(ofG 24 (kH a b (kAC e (w64 (d+1)) [])),[]),Nat.lt_succ_self _,(Sub.refl _),_,_,rfl,g3⟩
   refine Goes.exit ?_
   obtain rfl:=si g3
   exact Or.inl (⟨rfl,rfl,(Sub.keep [] rfl rfl)⟩)
 rintro x s' (⟨rfl,rfl,hsub⟩|⟨rfl,t,rfl,hret⟩)
 ·try dsimp only at h
  refine Goes.sub hsub ?_
  refine sh fol [(4,.i 0),(5,.bool false)] ?_
  refine Goes.ret ?_
  obtain rfl:=si h
  exact(gw2 [.i 0,.bool false] (FzW.tuple (zN.cons (Ua tI) (zN.cons (Ua tB) zN.nil))))
 try dsimp only at h
 obtain rfl:=si h
 exact hret
def cmp_isNaN_int (a:Int):Option Bool:=
 some (!decide (a=a))
theorem qaB (a:Int) {res:Bool} (h:cmp_isNaN_int a=some res):qd ZT (.fn 321) [.i a] [] (.bool res) []:=by
 unfold cmp_isNaN_int at h
 refine Uc Tryz.func321 rfl rfl (m:=6) rfl (rs:=[.tmp 2]) rfl (l:=[(0,.i a)]) rfl ?_
 refine sh fol [(0,.i a)] ?_
 refine sh fol [(2,.bool (!decide (a=a)))] ?_
 refine Goes.ret ?_
 obtain rfl:=si h
 exact(gw2 [.bool (!decide (a=a))] (Ua tB))
def cmp_Less_int (a:Int) (y:Int):Option Bool:=
 ((cmp_isNaN_int a).bind fun b=>
 if b=true then
 (cmp_isNaN_int y).bind fun c=>
 if(!c)=true then
 some true
 else
 some (decide (a<y))
 else
 some (decide (a<y)):Option Bool).bind fun d=>
 some d
theorem qha (c:Int) (y:Int) {res:Bool} (h:cmp_Less_int c y=some res):qd ZT (.fn 294) [.i c,.i y] [] (.bool res) []:=by
 unfold cmp_Less_int at h
 refine Uc Tryz.func294 rfl rfl (m:=17) rfl (rs:=[.tmp 4]) rfl (l:=((0,.i c)::(kAX y))) rfl ?_
 refine sh fol ((0,.i c)::(kAX y)) ?_
 refine sq ?_
 obtain⟨g,a,h⟩:=bnd h
 refine Goes.cut (s':=(ofG 17 (kAT g),[])) ?_ ?_
 ·obtain⟨j,b,a⟩:=bnd a
  rcases wyB a with⟨e,a⟩|⟨e,a⟩
  ·obtain⟨k,d,a⟩:=bnd a
   rcases wyB a with⟨f,a⟩|⟨f,a⟩
   ·obtain rfl:=si a
    exact tr fol [1,2,4,7] kAS (ac (cv (qaB c b)) (ac (gw e) (ac (cv (qaB y d)) (ac (gw f) az))))
   obtain rfl:=si a
   exact tr fol [1,2,4,7] (kAT (decide (c<y))) (ac (cv (qaB c b)) (ac (gw e) (ac (cv (qaB y d)) (ac (gw f) az))))
  obtain rfl:=si a
  exact tr fol [1,2] (kAT (decide (c<y))) (ac (cv (qaB c b)) (ac (gw e) az))
 refine Goes.ret ?_
 obtain rfl:=si h
 exact(gw2 [.bool g] (Ua tB))
def zt (b:List Int):Nat->Int->Option (Unit⊕Bool)
 |0,_=>none
 |K+1,a=>
  if a>0 then
  (idx b a).bind fun c=>
  (idx b (w64 (a-1))).bind fun d=>
  (cmp_Less_int c d).bind fun e=>
  if e=true then
  some (.inr false)
  else
  zt b K (w64 (a-1))
  else
  some (.inl ())
def slices_IsSorted_int (N:Nat) (a:List Int):Option Bool:=
 (zt a N (w64 ((a.length:Int)-1))).bind (fun
 |(.inl ())=>
 some true
 |(.inr b)=>
 some b)
theorem qdQ (N:Nat) (a:List Int) {res:Bool} (h:slices_IsSorted_int N a=some res):qd ZT (.fn 246) [vl encI a] [] (.bool res) []:=by
 unfold slices_IsSorted_int at h
 refine Uc Tryz.func246 rfl rfl (m:=21) rfl (rs:=[.tmp 2]) rfl (l:=(kM a [])) rfl ?_
 refine sh fol (kM a []) ?_
 refine sq ?_
 refine sh fol (kM a [(3,.i (w64 ((a.length:Int)-1)))]) ?_
 refine Goes.block ?_
 obtain⟨f,g2,h⟩:=bnd h
 refine Goes.imp (Q:=fun x s'=>(x= .exit 0/\(.inl ())=f/\Sub s' (ofG 21 [],[]))\/(x= .ret/\ ∃g,(.inr g)=f/\vK ZT [.tmp 2] (.bool g) .ret s')) ?_ ?_
 ·refine Ue (fun M s=> ∃(b:Int),s=(ofG 21 (kM a [(3,.i b)]),[])/\zt a M b=some f) ?_ (m:=N) ⟨_,rfl,g2⟩
  rintro M s ⟨b,rfl,g2⟩
  cases M with
  |zero=>simp only[zt]at g2;cases g2
  |succ M=>
   rw[zt]at g2
   refine sq ?_
   refine sh fol (kM a [(3,.i b),(8,.bool (decide (b>0)))]) ?_
   refine ihD g2 (fun j g2=>?_) (fun j g2=>?_)
   ·refine Goes.skip ?_
    refine sq (Goes.block ?_)
    obtain⟨k,c,g2⟩:=bnd g2
    obtain⟨n,d,g2⟩:=bnd g2
    obtain⟨o,e,g2⟩:=bnd g2
    refine sq (gr fol [2,3,7,8,9] (kM a [(3,.i b),(20,.bool o)]) (ac (iv qbA encI c) (ac (lv 0 ce3 encI c rfl) (ac (iv qbA encI d) (ac (lv 0 ce3 encI d rfl) (ac (cv (qha k n e)) az))))) ?_)
    refine ihB g2 (fun p g2=>?_) (fun p g2=>?_)
    ·refine sh fol [(2,.bool false)] ?_
     refine Goes.ret ?_
     obtain rfl:=si g2
     exact Or.inr (⟨rfl,_,rfl,(gw2 [.bool false] (Ua tB))⟩)
    refine Goes.skip ?_
    refine gh fol (kM a [(3,.i (w64 (b-1)))]) ?_
    exact⟨M,(ofG 21 (kM a [(3,.i (w64 (b-1)))]),[]),Nat.lt_succ_self _,(Sub.refl _),_,rfl,g2⟩
   refine Goes.exit ?_
   obtain rfl:=si g2
   exact Or.inl (⟨rfl,rfl,(Sub.keep [] rfl rfl)⟩)
 rintro x s' (⟨rfl,rfl,hsub⟩|⟨rfl,q,rfl,hret⟩)
 ·try dsimp only at h
  refine Goes.sub hsub ?_
  refine sh fol [(2,.bool true)] ?_
  refine Goes.ret ?_
  obtain rfl:=si h
  exact(gw2 [.bool true] (Ua tB))
 try dsimp only at h
 obtain rfl:=si h
 exact hret
def xU (N:Nat) (p:List Int):Option Bool:=
 (slices_IsSorted_int N p).bind fun a=>
 some a
theorem qen (N:Nat) (p:List Int) {res:Bool} (h:xU N p=some res):qd ZT (.fn 194) [vl encI p] [] (.bool res) []:=by
 unfold xU at h
 refine Uc Tryz.func194 rfl rfl (m:=5) rfl (rs:=[.tmp 2]) rfl (l:=(kM p [])) rfl ?_
 refine sh fol (kM p []) ?_
 obtain⟨b,a,h⟩:=bnd h
 refine sq (gr fol [1] [(2,.bool b)] (ac (cv (qdQ N p a)) az) ?_)
 refine Goes.ret ?_
 obtain rfl:=si h
 exact(gw2 [.bool b] (Ua tB))
def jw (b:List Int) (c:List Int):Nat->Int->Option (Unit⊕Bool)
 |0,_=>none
 |K+1,a=>
  if a<(b.length:Int)then
  (idx b a).bind fun d=>
  (idx c a).bind fun e=>
  if(!decide (d=e))=true then
  some (.inr false)
  else
  jw b c K (w64 (a+1))
  else
  some (.inl ())
def slices_Equal_int (N:Nat) (a:List Int) (b:List Int):Option Bool:=
 if(!decide ((a.length:Int)=(b.length:Int)))=true then
 some false
 else
 (jw a b N 0).bind (fun
 |(.inl ())=>
 some true
 |(.inr c)=>
 some c)
theorem qfp (N:Nat) (a:List Int) (b:List Int) {res:Bool} (h:slices_Equal_int N a b=some res):qd ZT (.fn 195) (kAR a b) [] (.bool res) []:=by
 unfold slices_Equal_int at h
 refine Uc Tryz.func195 rfl rfl (m:=26) rfl (rs:=[.tmp 4]) rfl (l:=(kH a b [])) rfl ?_
 refine sh fol (kH a b []) ?_
 refine sq ?_
 refine sh fol (kH a b [(10,.bool (!decide ((a.length:Int)=(b.length:Int))))]) ?_
 refine ihB h (fun j h=>?_) (fun j h=>?_)
 ·refine sh fol kAE ?_
  refine Goes.ret ?_
  obtain rfl:=si h
  exact(gw2 [.bool false] (Ua tB))
 refine Goes.skip ?_
 refine sq ?_
 refine sh fol (kH a b [(12,.i (a.length:Int)),(13,.i 0)]) ?_
 refine Goes.block ?_
 obtain⟨f,g3,h⟩:=bnd h
 refine Goes.imp (Q:=fun x s'=>(x= .exit 0/\(.inl ())=f/\Sub s' (ofG 26 [],[]))\/(x= .ret/\ ∃g,(.inr g)=f/\vK ZT [.tmp 4] (.bool g) .ret s')) ?_ ?_
 ·refine Ue (fun M s=> ∃(c:Int),s=(ofG 26 (kH a b (kV (a.length:Int) c)),[])/\jw a b M c=some f) ?_ (m:=N) ⟨_,rfl,g3⟩
  rintro M s ⟨c,rfl,g3⟩
  cases M with
  |zero=>simp only[jw]at g3;cases g3
  |succ M=>
   rw[jw]at g3
   refine sh fol (kH a b [(12,.i (a.length:Int)),(13,.i c),(14,.bool (decide (c<(a.length:Int))))]) ?_
   refine sq ?_
   refine ihD g3 (fun k g3=>?_) (fun k g3=>?_)
   ·refine Goes.skip ?_
    refine sq (Goes.block ?_)
    refine sh fol (kH a b ((5,.i c)::(kV (a.length:Int) c))) ?_
    obtain⟨n,d,g3⟩:=bnd g3
    obtain⟨o,e,g3⟩:=bnd g3
    refine sq (gr fol [2,3,6,7] (kH a b [(12,.i (a.length:Int)),(13,.i c),(24,.bool (!decide (n=o)))]) (ac (iv qbA encI d) (ac (lv 0 ce3 encI d rfl) (ac (iv qbA encI e) (ac (lv 0 ce3 encI e rfl) az)))) ?_)
    refine ihB g3 (fun p g3=>?_) (fun p g3=>?_)
    ·refine sh fol kAE ?_
     refine Goes.ret ?_
     obtain rfl:=si g3
     exact Or.inr (⟨rfl,_,rfl,(gw2 [.bool false] (Ua tB))⟩)
    refine Goes.skip ?_
    refine gh fol (kH a b (kV (a.length:Int) (w64 (c+1)))) ?_
    exact⟨M,(ofG 26 (kH a b (kV (a.length:Int) (w64 (c+1)))),[]),Nat.lt_succ_self _,(Sub.refl _),_,rfl,g3⟩
   refine Goes.exit ?_
   obtain rfl:=si g3
   exact Or.inl (⟨rfl,rfl,(Sub.keep [] rfl rfl)⟩)
 rintro x s' (⟨rfl,rfl,hsub⟩|⟨rfl,q,rfl,hret⟩)
 ·try dsimp only at h
  refine Goes.sub hsub ?_
  refine sh fol kAS ?_
  refine Goes.ret ?_
  obtain rfl:=si h
  exact(gw2 [.bool true] (Ua tB))
 try dsimp only at h
 obtain rfl:=si h
 exact hret
def qK (N:Nat) (a:List (List Int)):Nat->(List (List Int))->Int->Option (List (List Int))
 |0,_,_=>none
 |K+1,c,b=>
  if b<(a.length:Int)then
  (idx a b).bind fun d=>
  (yN N d).bind fun e=>
  (app 24 c [e]).bind fun f=>
  qK N a K f (w64 (b+1))
  else
  some c
def vV (N:Nat) (a:List (List Int)):Option (List (List Int)):=
 (qK N a N ([]:List (List Int)) 0).bind fun b=>
 some b
theorem qcW (N:Nat) (a:List (List Int)) {o:List (List Int)} (h:vV N a=some o):qd ZT (.fn 190) [.gslice 0 a.length 1,.func (.func 191) [] []] [.cells (a.flatMap (qc encI).c)] (.gslice 1 o.length 1) [.cells (a.flatMap (qc encI).c),.cells (o.flatMap (qc encI).c)]:=by
 unfold vV at h
 refine Uq Tryz.func190 rfl rfl (m:=22) rfl (rs:=[.tmp 4]) rfl (l:=[(0,.gslice 0 a.length 1),(1,.func (.func 191) [] [])]) rfl ?_
 intro B hB
 refine sh fol [(0,.gslice 0 a.length 1),(1,.func (.func 191) [] [])] ?_
 refine sh fol [(0,.gslice 0 a.length 1),(1,.func (.func 191) [] []),(5,.nilslice)] ?_
 refine sq ?_
 refine sh fol ((1,.func (.func 191) [] [])::(5,.nilslice)::(kAO a [(9,.i (a.length:Int)),(10,.i 0)])) ?_
 refine Goes.block ?_
 obtain⟨q,g5,h⟩:=bnd h
 refine Goes.imp (Q:=fun x s'=>(x= .exit 0/\ ∃g,g=q/\Sub s' (ofG 22 (kAF g []),[.cells (a.flatMap (qc encI).c),.cells (g.flatMap (qc encI).c)]))) ?_ ?_
 ·refine Goes.sub (s':=(ofG 22 ((1,.func (.func 191) [] [])::(5,.gslice 1 ([]:List (List Int)).length 1)::(kAO a [(9,.i (a.length:Int)),(10,.i 0)])),[.cells (a.flatMap (qc encI).c),.cells (([]:List (List Int)).flatMap (qc encI).c)])) (Sub.norm [] [some 0,none] (by rw[hB];rfl) rfl (.keep (.same (qj.func sn sn)) (.keep .nil (.keep (.gslice rfl) (.keep (.same nI) (.keep (.same nI) .nil))))) (.ks (.fresh .nil))) ?_
  refine Ue (fun M s=> ∃(d:List (List Int)) (b:Int),s=(ofG 22 ((1,.func (.func 191) [] [])::(kAF d (kAO a (kAC (a.length:Int) b [])))),[.cells (a.flatMap (qc encI).c),.cells (d.flatMap (qc encI).c)])/\qK N a M d b=some q) ?_ (m:=N) ⟨_,_,rfl,g5⟩
  rintro M s ⟨d,b,rfl,g5⟩
  cases M with
  |zero=>simp only[qK]at g5;cases g5
  |succ M=>
   rw[qK]at g5
   refine sh fol ((1,.func (.func 191) [] [])::(kAF d (kAO a (kAC (a.length:Int) b [(11,.bool (decide (b<(a.length:Int))))])))) ?_
   refine sq ?_
   refine ihD g5 (fun r g5=>?_) (fun r g5=>?_)
   ·refine Goes.skip ?_
    refine sq (Goes.block ?_)
    obtain⟨p,e,g5⟩:=bnd g5
    refine sq (gr fol [0,1] ((1,.func (.func 191) [] [])::(kAF d ((7,vl encI p)::(kAO a (kAC (a.length:Int) b []))))) (ac (hs (.done (.opt (qf ZT 208 (.gslice 0 a.length 1) (.i b))) (.ptr 0 ((b:Int).toNat*1+0))) (qce qeE e)) (ac (hs (.run [0] (vF ZT 155 (.ptr 0 ((b:Int).toNat*1+0))) [.cells (a.flatMap (qc encI).c),.cells (d.flatMap (qc encI).c)] (vl encI p) [.cells (a.flatMap (qc encI).c),.cells (d.flatMap (qc encI).c)] false) (qcU qjx (E:=(qc encI)) (l:=a) rfl rfl e (nl rfl) rfl)) az)) ?_)
    obtain⟨n,j,g5⟩:=bnd g5
    obtain⟨f,k,g5⟩:=bnd g5
    refine gq fol [3,5] ((1,.func (.func 191) [] [])::(5,.gslice 3 f.length 1)::(kAO a (kAC (a.length:Int) b []))) (.cells (a.flatMap (qc encI).c):: .dead::(kAQ n [.cells (f.flatMap (qc encI).c)])) (ac (cv (qdz N p j)) (ac (hs (.run [1,2] (y9 ZT [208,208] (.gslice 1 d.length 1) (.slice 2 0 1 1 1)) (.cells (a.flatMap (qc encI).c):: .cells (d.flatMap (qc encI).c)::(kAQ n [])) (.gslice 3 f.length 1) (.cells (a.flatMap (qc encI).c):: .dead::(kAQ n [.cells (f.flatMap (qc encI).c)])) true) (qcl qeE (E:=(qc encI)) rfl (qg7 (E:=(qc encI)) (ys:=[n]) rfl rfl rfl rfl) (qg6 (E:=(qc encI)) (l:=d) rfl rfl rfl k rfl))) az)) ?_
    refine gh fol ((1,.func (.func 191) [] [])::(5,.gslice 3 f.length 1)::(kAO a (kAC (a.length:Int) (w64 (b+1)) []))) ?_
    exact⟨M,(ofG 22 ((1,.func (.func 191) [] [])::(kAF f (kAO a (kAC (a.length:Int) (w64 (b+1)) [])))),[.cells (a.flatMap (qc encI).c),.cells (f.flatMap (qc encI).c)]),Nat.lt_succ_self _,(Sub.norm [] [some 0,some 3] (by rw[hB];rfl) rfl (.keep (.same (qj.func sn sn)) (.keep (.gslice rfl) (.keep (.gslice rfl) (.keep (.same nI) (.keep (.same nI) .nil))))) (.ks (.ks .nil))),_,_,rfl,g5⟩
   refine Goes.exit ?_
   obtain rfl:=si g5
   exact⟨rfl,_,rfl,(Sub.keep [5] rfl rfl)⟩
 rintro x s' ⟨rfl,g,rfl,hsub⟩
 refine Goes.sub hsub ?_
 refine sh fol [(4,.gslice 1 g.length 1)] ?_
 refine Goes.ret ?_
 obtain rfl:=si h
 exact(gh2 [.gslice 1 g.length 1] (qch.refl _ _))
def xL (N:Nat) (a:Int) (b:List (List Int)):Option ((List (List Int))×Bool):=
 (idx b a).bind fun g=>
 (idx b (w64 (a+1))).bind fun h=>
 (qaX N g h).bind fun d=>
 ((if d.2=true then
 (vW N g d.1).bind fun i=>
 (ky h d.1).bind fun e=>
 (put b a i).bind fun c=>
 (idx c (w64 (a+1))).bind fun j=>
 (put c (w64 (a+1)) e).bind fun f=>
 some f
 else
 some b:Option (List (List Int)))).bind fun k=>
 some (k,d.2)
theorem qfo (N:Nat) (b:Int) (a:List (List Int)) {w:List (List Int)} {z:Bool} (h:xL N b a=some (w,z)):qd ZT (.fn 245) [.i b,.ptr 0 0] (kQ a [.cells (a.flatMap (qc encI).c)]) (.bool z) (kQ w [.cells (w.flatMap (qc encI).c)]):=by
 unfold xL at h
 refine Uq Tryz.func245 rfl rfl (m:=41) rfl (rs:=[.tmp 3]) rfl (l:=[(0,.i b),(1,.ptr 0 0)]) rfl ?_
 intro B hB
 refine sh fol [(0,.i b),(1,.ptr 0 0)] ?_
 obtain⟨t,d,h⟩:=bnd h
 obtain⟨u,e,h⟩:=bnd h
 obtain⟨f,q,h⟩:=bnd h
 refine sq (gr fol [2,3,7,8,9] [(0,.i b),(1,.ptr 0 0),(4,.i f.1),(5,.bool f.2)] (ac (hs (.done (.opt (qf ZT 208 (.gslice 1 a.length 1) (.i b))) (.ptr 1 ((b:Int).toNat*1+0))) (qce qeE d)) (ac (hs (.run [1] (vF ZT 155 (.ptr 1 ((b:Int).toNat*1+0))) (kQ a [.cells (a.flatMap (qc encI).c)]) (vl encI t) (kQ a [.cells (a.flatMap (qc encI).c)]) false) (qcU qjx (E:=(qc encI)) (l:=a) rfl rfl d (nl rfl) rfl)) (ac (hs (.done (.opt (qf ZT 208 (.gslice 1 a.length 1) (.i (w64 (b+1))))) (.ptr 1 ((w64 (b+1):Int).toNat*1+0))) (qce qeE e)) (ac (hs (.run [1] (vF ZT 155 (.ptr 1 ((w64 (b+1):Int).toNat*1+0))) (kQ a [.cells (a.flatMap (qc encI).c)]) (vl encI u) (kQ a [.cells (a.flatMap (qc encI).c)]) false) (qcU qjx (E:=(qc encI)) (l:=a) rfl rfl e (nl rfl) rfl)) (ac (cv (qgz N t u q)) az))))) ?_)
 refine sq ?_
 refine sh fol [(0,.i b),(1,.ptr 0 0),(4,.i f.1),(5,.bool f.2),(19,.bool f.2)] ?_
 obtain⟨C,g7,h⟩:=bnd h
 refine Goes.imp (Q:=fun x s'=>(x= .normal/\ ∃v,v=C/\Sub s' (ofG 41 [(5,.bool f.2)],(kQ v [.cells (v.flatMap (qc encI).c)])))) ?_ ?_
 ·refine ihB g7 (fun D g7=>?_) (fun D g7=>?_)
  ·obtain⟨A,r,g7⟩:=bnd g7
   obtain⟨s,n,g7⟩:=bnd g7
   obtain⟨o,g,g7⟩:=bnd g7
   obtain⟨F,p,g7⟩:=bnd g7
   obtain⟨j,k,g7⟩:=bnd g7
   refine gq fol [7,8,10,14,15,17,18,19,20,21] [(5,.bool f.2)] (kQ a [.cells (j.flatMap (qc encI).c)]) (ac (hs (.done (.opt (qf ZT 208 (.gslice 1 a.length 1) (.i b))) (.ptr 1 ((b:Int).toNat*1+0))) (qce qeE d)) (ac (hs (.run [1] (vF ZT 155 (.ptr 1 ((b:Int).toNat*1+0))) (kQ a [.cells (a.flatMap (qc encI).c)]) (vl encI t) (kQ a [.cells (a.flatMap (qc encI).c)]) false) (qcU qjx (E:=(qc encI)) (l:=a) rfl rfl d (nl rfl) rfl)) (ac (cv (qbG N t f.1 r)) (ac (hs (.done (.opt (qf ZT 208 (.gslice 1 a.length 1) (.i (w64 (b+1))))) (.ptr 1 ((w64 (b+1):Int).toNat*1+0))) (qce qeE e)) (ac (hs (.run [1] (vF ZT 155 (.ptr 1 ((w64 (b+1):Int).toNat*1+0))) (kQ a [.cells (a.flatMap (qc encI).c)]) (vl encI u) (kQ a [.cells (a.flatMap (qc encI).c)]) false) (qcU qjx (E:=(qc encI)) (l:=a) rfl rfl e (nl rfl) rfl)) (ac (cv (yU u f.1 n)) (ac (hs (.done (.opt (qf ZT 208 (.gslice 1 a.length 1) (.i b))) (.ptr 1 ((b:Int).toNat*1+0))) (qce qeE d)) (ac (hs (.run [1] (xu ZT 155 (.ptr 1 ((b:Int).toNat*1+0)) (vl encI A)) (kQ a [.cells (a.flatMap (qc encI).c)]) .undef (kQ a [.cells (o.flatMap (qc encI).c)]) true) (qb6 (E:=(qc encI)) (l:=a) (y:=A) rfl (show _=some 1 by kernel_rfl) rfl d rfl rfl rfl rfl rfl g rfl)) (ac (hs (.done (.opt (qf ZT 208 (.gslice 1 a.length 1) (.i (w64 (b+1))))) (.ptr 1 ((w64 (b+1):Int).toNat*1+0))) (qce qeE e)) (ac (hs (.run [1] (xu ZT 155 (.ptr 1 ((w64 (b+1):Int).toNat*1+0)) (vl encI s)) (kQ a [.cells (o.flatMap (qc encI).c)]) .undef (kQ a [.cells (j.flatMap (qc encI).c)]) true) (qb6 (E:=(qc encI)) (l:=o) (y:=s) rfl (show _=some 1 by kernel_rfl) rfl p rfl rfl rfl rfl rfl k rfl)) az)))))))))) ?_
   obtain rfl:=si g7
   exact⟨rfl,_,rfl,((show Sub (ofG 41 [(5,.bool f.2)],(kQ a [.cells (j.flatMap (qc encI).c)])) (ofG 41 [(5,.bool f.2)],(kQ j [.cells (j.flatMap (qc encI).c)]))from(Sub.norm [] [some 0,some 1] (by rw[hB];rfl) rfl (.keep (.same nB) .nil) (.kb rfl (.cells (rc (.gsliceE rfl ((qal g).trans (qal k))) rn)) (.ks .nil)))).trans (Sub.refl _))⟩
  refine Goes.skip ?_
  obtain rfl:=si g7
  exact⟨rfl,_,rfl,(Sub.keep [5] rfl rfl)⟩
 rintro x s' ⟨rfl,v,rfl,hsub⟩
 refine Goes.sub hsub ?_
 refine sh fol [(3,.bool f.2)] ?_
 refine Goes.ret ?_
 simp only[ZI,ZP]at h
 obtain⟨rfl,rfl⟩:=h
 exact(gh2 [.bool f.2] (qch.refl _ _))
def yw (N:Nat) (e:Int):Nat->(List (List Int))->Bool->Option ((List (List Int))×Bool)
 |0,_,_=>none
 |K+1,b,c=>
  (xL N e b).bind fun(a,d)=>
  ((if b.length=a.length then some ()else none:Option Unit)).bind fun f=>
  if d=true then
  yw N e K a true
  else
  some (a,c)
def yH (N:Nat):Nat->(List (List Int))->Int->Option (List (List Int))
 |0,_,_=>none
 |K+1,c,a=>
  if(w64 (a+1))<(c.length:Int)then
  (((yw N a N c false).bind fun(b,d)=>
  (if d=true then
  some (decide (a>0))
  else
  some false:Option Bool).bind fun e=>
  if e=true then
  some (b,w64 (a-1))
  else
  some (b,w64 (a+1)):Option ((List (List Int))×Int))).bind fun(f,g)=>
  yH N K f g
  else
  some c
def qbh (N:Nat) (a:List (List Int)):Option (List (List Int)):=
 (yH N N a 0).bind fun b=>
 some b
theorem qgy (N:Nat) (f:List (List Int)) {C:List (List Int)} (h:qbh N f=some C):qd ZT (.fn 193) [.gslice 0 f.length 1] [.cells (f.flatMap (qc encI).c)] (.tuple []) [.cells (C.flatMap (qc encI).c)]:=by
 unfold qbh at h
 refine Uq Tryz.func193 rfl rfl (m:=23) rfl (rs:=[]) rfl (l:=[(0,.gslice 0 f.length 1)]) rfl ?_
 intro B hB
 refine Ut ?_
 refine sg fol (kAJ []) (.cells (f.flatMap (qc encI).c)::(kT f)) ?_
 refine Goes.scope ?_
 refine sh fol (kAJ [(2,.func (.func 245) [] [.ptr 1 0])]) ?_
 refine sq (Goes.label ?_)
 refine sh fol (kAJ [(2,.func (.func 245) [] [.ptr 1 0]),(3,.i 0)]) ?_
 refine Goes.block ?_
 obtain⟨D,g5,h⟩:=bnd h
 refine Goes.imp (Q:=fun x s'=>(x= .exit 0/\ ∃v,v=D/\Sub s' (ofG 23 [],[.cells (v.flatMap (qc encI).c)]))) ?_ ?_
 ·refine Ue (fun M s=> ∃(r:List (List Int)) (b:Int),s=(ofG 23 (kAJ [(2,.func (.func 245) [] [.ptr 1 0]),(3,.i b)]),(.cells (r.flatMap (qc encI).c)::(kT r)))/\yH N M r b=some D) ?_ (m:=N) ⟨_,_,rfl,g5⟩
  rintro M s ⟨r,b,rfl,g5⟩
  cases M with
  |zero=>simp only[yH]at g5;cases g5
  |succ M=>
   rw[yH]at g5
   refine sq ?_
   refine sh fol (kAJ [(2,.func (.func 245) [] [.ptr 1 0]),(3,.i b),(10,.bool (decide ((w64 (b+1))<(r.length:Int))))]) ?_
   refine ihD g5 (fun E g5=>?_) (fun E g5=>?_)
   ·refine Goes.skip ?_
    obtain⟨F,g9,g5⟩:=bnd g5
    refine Goes.imp (Q:=fun x s'=>(x= .normal/\ ∃q u,(q,u)=F/\Sub s' (ofG 23 (kAJ [(2,.func (.func 245) [] [.ptr 1 0]),(3,.i u)]),(.cells (q.flatMap (qc encI).c)::(kT q))))) ?_ ?_
    ·refine Goes.block ?_
     refine sh fol (kAJ ((2,.func (.func 245) [] [.ptr 1 0])::(3,.i b)::kAE)) ?_
     refine sq (Goes.block ?_)
     obtain⟨t,g14,g9⟩:=bnd g9
     refine Goes.imp (Q:=fun x s'=>(x= .exit 2/\ ∃g n,(g,n)=t/\Sub s' (ofG 23 (kAJ ((2,.func (.func 245) [] [.ptr 1 0])::(3,.i b)::(kAT n))),(.cells (g.flatMap (qc encI).c)::(kT g))))) ?_ ?_
     ·refine Ue (fun M s=> ∃(e:List (List Int)) (j:Bool),s=(ofG 23 (kAJ ((2,.func (.func 245) [] [.ptr 1 0])::(3,.i b)::(kAT j))),(.cells (e.flatMap (qc encI).c)::(kT e)))/\yw N b M e j=some t) ?_ (m:=N) ⟨_,_,rfl,g14⟩
      rintro M s ⟨e,j,rfl,g14⟩
      cases M with
      |zero=>simp only[yw]at g14;cases g14
      |succ M=>
       rw[yw]at g14
       refine sq ?_
       obtain⟨⟨d,k⟩,o,g14⟩:=bnd g14
       try dsimp only at g14
       obtain⟨G,w,g14⟩:=bnd g14
       refine sq (gq fol [2] (kAJ [(2,.func (.func 245) [] [.ptr 1 0]),(3,.i b),(4,.bool j),(13,.bool k)]) (.cells (d.flatMap (qc encI).c)::(kT d)) (ac (hs (.callH 245 [.i b,.ptr 1 0] (.cells (e.flatMap (qc encI).c)::(kT e)) [1,0] (.bool k) (.cells (d.flatMap (qc encI).c)::(kT d))) (qaY [some 1,some 0] [some 1,some 0] (qfo N b e o) (.kb rfl (.cells (rc (.gslice rfl) rn)) (.ks .nil)) rfl rfl (.back rfl rfl (.same fa) rfl (.back rfl rfl (.cells (rc (.gslice rfl) rn)) rfl .nil)) (rc (.same nI) (rc (.ptr rfl) rn)) (.same nB) rfl)) az) ?_)
       refine Goes.sub (show Sub (ofG 23 (kAJ [(2,.func (.func 245) [] [.ptr 1 0]),(3,.i b),(4,.bool j),(13,.bool k)]),(.cells (d.flatMap (qc encI).c)::(kT d))) (ofG 23 (kAJ [(2,.func (.func 245) [] [.ptr 1 0]),(3,.i b),(4,.bool j),(13,.bool k)]),(.cells (d.flatMap (qc encI).c)::(kT d)))from(Sub.norm [] [some 0,some 1] (by rw[hB];rfl) rfl (.kp (.keep (.funcL (sn) (rc (.ptr rfl) rn)) (.keep (.same nI) (.keep (.same nB) (.keep (.same nB) .nil))))) (.ks (.kb rfl (.cells (rc (.gslice rfl) rn)) .nil)))) ?_
       refine ihB g14 (fun y g14=>?_) (fun y g14=>?_)
       ·refine Goes.skip ?_
        refine Goes.block ?_
        refine gh fol (kAJ ((2,.func (.func 245) [] [.ptr 1 0])::(3,.i b)::kAS)) ?_
        exact⟨M,(ofG 23 (kAJ ((2,.func (.func 245) [] [.ptr 1 0])::(3,.i b)::kAS)),(.cells (d.flatMap (qc encI).c)::(kT d))),Nat.lt_succ_self _,(Sub.refl _),_,_,rfl,g14⟩
       refine Goes.exit ?_
       obtain rfl:=si g14
       exact⟨rfl,_,_,rfl,(Sub.keep [1,2,3,4] rfl rfl)⟩
     rintro x s' ⟨rfl,g,n,rfl,hsub⟩
     try dsimp only at g9
     refine Goes.sub hsub ?_
     refine sq ?_
     refine sq ?_
     obtain⟨z,a,g9⟩:=bnd g9
     refine Goes.cut (s':=(ofG 23 (kAJ [(2,.func (.func 245) [] [.ptr 1 0]),(3,.i b),(18,.bool z)]),(.cells (g.flatMap (qc encI).c)::(kT g)))) ?_ ?_
     ·rcases wyB a with⟨p,a⟩|⟨p,a⟩
      ·obtain rfl:=si a
       exact tr fol [1] (kAJ [(2,.func (.func 245) [] [.ptr 1 0]),(3,.i b),(18,.bool (decide (b>0)))]) (ac (gw p) az)
      obtain rfl:=si a
      exact tr fol [1] (kAJ [(2,.func (.func 245) [] [.ptr 1 0]),(3,.i b),(18,.bool false)]) (ac (gw p) az)
     refine ihB g9 (fun A g9=>?_) (fun A g9=>?_)
     ·refine sh fol (kAJ [(2,.func (.func 245) [] [.ptr 1 0]),(3,.i (w64 (b-1)))]) ?_
      refine Goes.exit ?_
      obtain rfl:=si g9
      exact⟨rfl,_,_,rfl,(Sub.refl _)⟩
     refine Goes.skip ?_
     refine gh fol (kAJ [(2,.func (.func 245) [] [.ptr 1 0]),(3,.i (w64 (b+1)))]) ?_
     obtain rfl:=si g9
     exact⟨rfl,_,_,rfl,(Sub.refl _)⟩
    rintro x s' ⟨rfl,q,u,rfl,hsub⟩
    try dsimp only at g5
    exact⟨M,(ofG 23 (kAJ [(2,.func (.func 245) [] [.ptr 1 0]),(3,.i u)]),(.cells (q.flatMap (qc encI).c)::(kT q))),Nat.lt_succ_self _,(hsub.trans (Sub.refl _)),_,_,rfl,g5⟩
   refine Goes.exit ?_
   obtain rfl:=si g5
   exact⟨rfl,_,rfl,(Sub.norm [] [some 0] (by rw[hB];rfl) rfl .nil (.ks .nil))⟩
 rintro x s' ⟨rfl,v,rfl,hsub⟩
 obtain rfl:=si h
 exact⟨_,hsub,(gh2 [] (qch.refl _ _))⟩
def xn (N:Nat) (n:Int) (w:List Int):Nat->Int->(List (List Int))->Int->Option (Int×(List (List Int)))
 |0,_,_,_=>none
 |K+1,c,d,e=>
  if e<(w.length:Int)then
  (((idx w e).bind fun a=>
  (qby a).bind fun b=>
  if a>0 then
  (zK N n).bind fun f=>
  (ky f (w64 (b-1))).bind fun g=>
  (app 24 d [g]).bind fun h=>
  some (c,h)
  else
  (vV N d).bind fun i=>
  (qb0 N n).bind fun j=>
  (vW N j (w64 (b-1))).bind fun k=>
  (app 24 i [k]).bind fun l=>
  some (w64 (c-1),l):Option (Int×(List (List Int))))).bind fun(o,m)=>
  xn N n w K o m (w64 (e+1))
  else
  some (c,d)
def xz (N:Nat) (n:Int) (c:List (List Int)):Nat->Int->(List (List Int))->Int->Option (Int×(List (List Int)))
 |0,_,_,_=>none
 |K+1,a,b,d=>
  if d<(c.length:Int)then
  (((idx c d).bind fun e=>
  (xU N e).bind fun f=>
  if f=true then
  some (a,b)
  else
  (qb0 N n).bind fun g=>
  (slices_Equal_int N e g).bind fun h=>
  if h=true then
  some (w64 (a+1),b)
  else
  (app 24 b [e]).bind fun i=>
  some (a,i):Option (Int×(List (List Int))))).bind fun(j,k)=>
  xz N n c K j k (w64 (d+1))
  else
  some (a,b)
def qM (N:Nat) (n:Int) (w:List Int):Option qaR:=
 if n=1 then
 some (⟨0,[]⟩:qaR)
 else
 (xn N n w N 0 ([]:List (List Int)) 0).bind fun(e,d)=>
 (qbh N d).bind fun a=>
 ((if d.length=a.length then some ()else none:Option Unit)).bind fun f=>
 (xz N n a N e ([]:List (List Int)) 0).bind fun(b,c)=>
 some (⟨b,c⟩:qaR)
theorem qb9 (N:Nat) (n:Int) (w:List Int) {res:qaR} (h:qM N n w=some res):qd ZT (.fn 115) (kAY n w) [] (.agg [.i res.Half,vl (qc encI) res.Factors]) []:=by
 unfold qM at h
 refine Uc Tryz.func115 rfl rfl (m:=74) rfl (rs:=[.cell 4 70]) rfl (l:=(kC n w [])) rfl ?_
 refine sg fol (kC n w [(4,.ptr 0 0)]) [bZ] ?_
 refine sg fol (kC n w ((4,.ptr 0 0)::(kAH []))) [bZ,bZ] ?_
 refine sq ?_
 refine sh fol (kC n w ((4,.ptr 0 0)::(kAH [(13,.bool (decide (n=1)))]))) ?_
 refine ihD h (fun c1 h=>?_) (fun c1 h=>?_)
 ·refine sh fol [(4,.ptr 0 0)] ?_
  refine Goes.ret ?_
  obtain rfl:=si h
  exact(gw2 [.agg [.i 0,.nilslice]] (FzW.agg (zN.cons (Ua tI) (zN.cons (FzW.nilv (E:=(qc encI))) zN.nil))))
 refine Goes.skip ?_
 refine sh fol (kC n w ((4,.ptr 0 0)::(kAH [(6,.nilslice)]))) ?_
 refine sq ?_
 refine sh fol (kE n [(6,.nilslice),(15,vl encI w),(16,.i (w.length:Int)),(17,.i 0)]) ?_
 refine Goes.block ?_
 obtain⟨r7,g7,h⟩:=bnd h
 refine Goes.imp (Q:=fun x s'=>(x= .exit 0/\ ∃C D,(C,D)=r7/\Sub s' (ofG 74 (kE n (kAA D [])),(kL C [.cells (D.flatMap (qc encI).c)])))) ?_ ?_
 ·refine Goes.sub (s':=(ofG 74 (kE n [(6,.gslice 2 ([]:List (List Int)).length 1),(15,vl encI w),(16,.i (w.length:Int)),(17,.i 0)]),[bZ,bZ,.cells (([]:List (List Int)).flatMap (qc encI).c)])) (Sub.norm [] [some 0,some 1,none] rfl rfl (.keep (.same nI) (.kp (.kp (.keep .nil (.keep (.same (qD encI _)) (.keep (.same nI) (.keep (.same nI) .nil))))))) (.kb rfl (.same sn) (.kb rfl (.same sn) (.fresh .nil)))) ?_
  refine Ue (fun M s=> ∃(k:Int) (f:List (List Int)) (q:Int),s=(ofG 74 (kE n (kAA f (kU w (w.length:Int) q []))),(kL k [.cells (f.flatMap (qc encI).c)]))/\xn N n w M k f q=some r7) ?_ (m:=N) ⟨_,_,_,rfl,g7⟩
  rintro M s ⟨k,f,q,rfl,g7⟩
  cases M with
  |zero=>simp only[xn]at g7;cases g7
  |succ M=>
   rw[xn]at g7
   refine sh fol (kE n (kAA f (kU w (w.length:Int) q [(18,.bool (decide (q<(w.length:Int))))]))) ?_
   refine sq ?_
   refine ihD g7 (fun c8 g7=>?_) (fun c8 g7=>?_)
   ·refine Goes.skip ?_
    refine sq ?_
    obtain⟨r11,g11,g7⟩:=bnd g7
    refine Goes.imp (Q:=fun x s'=>(x= .normal/\ ∃n9 r,(n9,r)=r11/\Sub s' (ofG 74 (kE n (kAA r (kU w (w.length:Int) q []))),(kL n9 [.cells (r.flatMap (qc encI).c)])))) ?_ ?_
    ·refine Goes.block ?_
     obtain⟨F,z,g11⟩:=bnd g11
     refine sq (gr fol [0,1] (kE n (kAA f ((8,.i F)::(kU w (w.length:Int) q [])))) (ac (iv xx encI z) (ac (lv 0 ce3 encI z rfl) az)) ?_)
     obtain⟨t,K,g11⟩:=bnd g11
     refine sq (gr fol [1] (kE n (kAA f ((8,.i F)::(9,.i (w64 (t-1)))::(kU w (w.length:Int) q [])))) (ac (cv (qcm F K)) az) ?_)
     refine sq ?_
     refine sh fol (kE n (kAA f ((9,.i (w64 (t-1)))::(kU w (w.length:Int) q [(25,.bool (decide (F>0)))])))) ?_
     refine ihD g11 (fun c14 g11=>?_) (fun c14 g11=>?_)
     ·obtain⟨e,L,g11⟩:=bnd g11
      obtain⟨u,O,g11⟩:=bnd g11
      obtain⟨o,P,g11⟩:=bnd g11
      refine sq (gq fol [2,4,6] (kE n ((6,.gslice 5 o.length 1)::(kU w (w.length:Int) q []))) (kL k (.dead:: .frozen (e.flatMap encI.c)::(kAQ u [.cells (o.flatMap (qc encI).c)]))) (ac (hs (.callH 138 [.i n] (kL k [.cells (f.flatMap (qc encI).c)]) [] (.slice 3 0 e.length e.length 1) (kL k (.cells (f.flatMap (qc encI).c)::(kA e [])))) (qaY [] [none,none,none,some 0] (yQ N n L) .nil rfl rfl (.old rfl rfl (.old rfl rfl (.old rfl rfl (.new rfl rfl (.same fa) rfl .nil)))) (rc (.same nI) rn) (.slice rfl) rfl)) (ac (hs (.callF 189 [.slice 3 0 e.length e.length 1,.i (w64 (t-1))] (kL k (.cells (f.flatMap (qc encI).c)::(kA e []))) [3] [vl encI e,.i (w64 (t-1))] (vl encI u)) (qot (FzL.cons (Fz.sl (E:=encI) rfl rfl (nl rfl)) (FzL.cons (Up tI) FzL.nil)) (yU e (w64 (t-1)) O) (jQ encI _ (nl rfl)))) (ac (hs (.run [2,4] (y9 ZT [208,208] (.gslice 2 f.length 1) (.slice 4 0 1 1 1)) (kL k (.cells (f.flatMap (qc encI).c):: .frozen (e.flatMap encI.c)::(kAQ u []))) (.gslice 5 o.length 1) (kL k (.dead:: .frozen (e.flatMap encI.c)::(kAQ u [.cells (o.flatMap (qc encI).c)]))) true) (qcl qeE (E:=(qc encI)) rfl (qg7 (E:=(qc encI)) (ys:=[u]) rfl rfl rfl rfl) (qg6 (E:=(qc encI)) (l:=f) rfl rfl rfl P rfl))) az))) ?_)
      refine Goes.sub (show Sub (ofG 74 (kE n ((6,.gslice 5 o.length 1)::(kU w (w.length:Int) q []))),(kL k (.dead:: .frozen (e.flatMap encI.c)::(kAQ u [.cells (o.flatMap (qc encI).c)])))) (ofG 74 (kE n (kAA o (kU w (w.length:Int) q []))),(kL k [.cells (o.flatMap (qc encI).c)]))from(Sub.norm [] [some 0,some 1,some 5] rfl rfl (.keep (.same nI) (.kp (.kp (.keep (.gslice rfl) (.keep (.same (qD encI _)) (.keep (.same nI) (.keep (.same nI) .nil))))))) (.kb rfl (.same sn) (.kb rfl (.same sn) (.ks .nil))))) ?_
      refine Goes.exit ?_
      obtain rfl:=si g11
      exact⟨rfl,_,_,rfl,(Sub.refl _)⟩
     refine Goes.skip ?_
     refine sg fol (kE n (kAA f ((9,.i (w64 (t-1)))::(kU w (w.length:Int) q [])))) (kL (w64 (k-1)) [.cells (f.flatMap (qc encI).c)]) ?_
     obtain⟨A,T,g11⟩:=bnd g11
     obtain⟨r21,U,g11⟩:=bnd g11
     obtain⟨G,V,g11⟩:=bnd g11
     obtain⟨H,W,g11⟩:=bnd g11
     refine gq fol [1,3,5,7] (kE n ((6,.gslice 5 H.length 1)::(kU w (w.length:Int) q []))) (kL (w64 (k-1)) (.cells (f.flatMap (qc encI).c):: .dead::(kAQ G [.cells (H.flatMap (qc encI).c)]))) (ac (hs (.callH 190 [.gslice 2 f.length 1,.func (.func 191) [] []] (kL (w64 (k-1)) [.cells (f.flatMap (qc encI).c)]) [2] (.gslice 3 A.length 1) (kL (w64 (k-1)) [.cells (f.flatMap (qc encI).c),.cells (A.flatMap (qc encI).c)])) (qaY [some 2] [none,none,some 0,some 1] (qcW N f T) (.ks .nil) rfl rfl (.old rfl rfl (.old rfl rfl (.back rfl rfl (.same fa) rfl (.new rfl rfl (.same fa) rfl .nil)))) (rc (.gslice rfl) (rc (.same (qj.func sn sn)) rn)) (.gslice rfl) rfl)) (ac (cv (qfw N n U)) (ac (cv (qbG N r21 (w64 (t-1)) V)) (ac (hs (.run [3,4] (y9 ZT [208,208] (.gslice 3 A.length 1) (.slice 4 0 1 1 1)) (kL (w64 (k-1)) (.cells (f.flatMap (qc encI).c):: .cells (A.flatMap (qc encI).c)::(kAQ G []))) (.gslice 5 H.length 1) (kL (w64 (k-1)) (.cells (f.flatMap (qc encI).c):: .dead::(kAQ G [.cells (H.flatMap (qc encI).c)]))) true) (qcl qeE (E:=(qc encI)) rfl (qg7 (E:=(qc encI)) (ys:=[G]) rfl rfl rfl rfl) (qg6 (E:=(qc encI)) (l:=A) rfl rfl rfl W rfl))) az)))) ?_
     obtain rfl:=si g11
     exact⟨rfl,_,_,rfl,(Sub.norm [] [some 0,some 1,some 5] rfl rfl (.keep (.same nI) (.kp (.kp (.keep (.gslice rfl) (.keep (.same (qD encI _)) (.keep (.same nI) (.keep (.same nI) .nil))))))) (.kb rfl (.same sn) (.kb rfl (.same sn) (.ks .nil))))⟩
    rintro x s' ⟨rfl,n9,r,rfl,hsub⟩
    try dsimp only at g7
    refine Goes.sub hsub ?_
    refine gh fol (kE n (kAA r (kU w (w.length:Int) (w64 (q+1)) []))) ?_
    exact⟨M,(ofG 74 (kE n (kAA r (kU w (w.length:Int) (w64 (q+1)) []))),(kL n9 [.cells (r.flatMap (qc encI).c)])),Nat.lt_succ_self _,(Sub.refl _),_,_,_,rfl,g7⟩
   refine Goes.exit ?_
   obtain rfl:=si g7
   exact⟨rfl,_,_,rfl,(Sub.keep [0,4,5,6] rfl rfl)⟩
 rintro x s' ⟨rfl,C,D,rfl,hsub⟩
 try dsimp only at h
 refine Goes.sub hsub ?_
 obtain⟨a,X,h⟩:=bnd h
 obtain⟨u26,Y,h⟩:=bnd h
 refine sq (gq fol [1] (kE n (kAA D [])) (kL C [.cells (a.flatMap (qc encI).c)]) (ac (hs (.callH 193 [.gslice 2 D.length 1] (kL C [.cells (D.flatMap (qc encI).c)]) [2] (.tuple []) (kL C [.cells (a.flatMap (qc encI).c)])) (qaY [some 2] [none,none,some 0] (qgy N D X) (.ks .nil) rfl rfl (.old rfl rfl (.old rfl rfl (.back rfl rfl (.same fa) rfl .nil))) (rc (.gslice rfl) rn) (.same (qj.tuple sn)) rfl)) az) ?_)
 refine Goes.sub (show Sub (ofG 74 (kE n (kAA D [])),(kL C [.cells (a.flatMap (qc encI).c)])) (ofG 74 (kE n (kAA a [])),(kL C [.cells (a.flatMap (qc encI).c)]))from(Sub.norm [] [some 0,some 1,some 2] rfl rfl (.keep (.same nI) (.kp (.kp (.keep (.gsliceE rfl (qm0 Y)) .nil)))) (.kb rfl (.same sn) (.kb rfl (.same sn) (.ks .nil))))) ?_
 refine sq ?_
 refine sh fol (kE n [(48,.gslice 2 a.length 1),(49,.i (a.length:Int)),(50,.i 0)]) ?_
 refine Goes.block ?_
 obtain⟨a3,g32,h⟩:=bnd h
 refine Goes.imp (Q:=fun x s'=>(x= .exit 2/\ ∃v p,(v,p)=a3/\Sub s' (ofG 74 ((4,.ptr 0 0)::(kAH [])),(bZ::(kZ v p [.cells (p.flatMap (qc encI).c)]))))) ?_ ?_
 ·refine Goes.sub (s':=(ofG 74 (kE n [(48,.gslice 3 a.length 1),(49,.i (a.length:Int)),(50,.i 0)]),[bZ,.cells [.i C,.gslice 2 ([]:List (List Int)).length 1],.cells (([]:List (List Int)).flatMap (qc encI).c),.cells (a.flatMap (qc encI).c)])) (Sub.norm [] [some 0,some 1,none,some 2] rfl rfl (.keep (.same nI) (.kp (.kp (.keep (.gslice rfl) (.keep (.same nI) (.keep (.same nI) .nil)))))) (.kb rfl (.same sn) (.kb rfl (.cells (rc (.same nI) (rc (.nil) rn))) (.fresh (.ks .nil))))) ?_
  refine Ue (fun M s=> ∃(j:Int) (d:List (List Int)) (b:Int),s=(ofG 74 (kE n (kS a (a.length:Int) b [])),(bZ::(kZ j d [.cells (d.flatMap (qc encI).c),.cells (a.flatMap (qc encI).c)])))/\xz N n a M j d b=some a3) ?_ (m:=N) ⟨_,_,_,rfl,g32⟩
  rintro M s ⟨j,d,b,rfl,g32⟩
  cases M with
  |zero=>simp only[xz]at g32;cases g32
  |succ M=>
   rw[xz]at g32
   refine sh fol (kE n (kS a (a.length:Int) b [(51,.bool (decide (b<(a.length:Int))))])) ?_
   refine sq ?_
   refine ihD g32 (fun c33 g32=>?_) (fun c33 g32=>?_)
   ·refine Goes.skip ?_
    refine sq ?_
    obtain⟨r36,g36,g32⟩:=bnd g32
    refine Goes.imp (Q:=fun x s'=>(x= .normal/\ ∃I y,(I,y)=r36/\Sub s' (ofG 74 (kE n (kS a (a.length:Int) b [])),(bZ::(kZ I y [.cells (y.flatMap (qc encI).c),.cells (a.flatMap (qc encI).c)]))))) ?_ ?_
    ·refine Goes.block ?_
     obtain⟨g,B,g36⟩:=bnd g36
     refine sq (gr fol [0,1] (kE n ((11,vl encI g)::(kS a (a.length:Int) b []))) (ac (hs (.done (.opt (qf ZT 208 (.gslice 3 a.length 1) (.i b))) (.ptr 3 ((b:Int).toNat*1+0))) (qce qeE B)) (ac (hs (.run [3] (vF ZT 155 (.ptr 3 ((b:Int).toNat*1+0))) (bZ::(kZ j d [.cells (d.flatMap (qc encI).c),.cells (a.flatMap (qc encI).c)])) (vl encI g) (bZ::(kZ j d [.cells (d.flatMap (qc encI).c),.cells (a.flatMap (qc encI).c)])) false) (qcU qjx (E:=(qc encI)) (l:=a) rfl rfl B (nl rfl) rfl)) az)) ?_)
     refine Goes.block ?_
     obtain⟨r38,Z,g36⟩:=bnd g36
     refine sq (gr fol [1] (kE n ((11,vl encI g)::(kS a (a.length:Int) b [(60,.bool r38)]))) (ac (cv (qen N g Z)) az) ?_)
     refine ihB g36 (fun c39 g36=>?_) (fun c39 g36=>?_)
     ·refine Goes.skip ?_
      obtain rfl:=si g36
      exact⟨rfl,_,_,rfl,(Sub.keep [0,4,5,48,49,50] rfl rfl)⟩
     obtain⟨r40,a0,g36⟩:=bnd g36
     obtain⟨r41,a1,g36⟩:=bnd g36
     refine sq (gr fol [2,3] (kE n ((11,vl encI g)::(kS a (a.length:Int) b [(63,.bool r41)]))) (ac (cv (qfw N n a0)) (ac (cv (qfp N g r40 a1)) az)) ?_)
     refine ihB g36 (fun c42 g36=>?_) (fun c42 g36=>?_)
     ·refine Goes.rg fol (kE n (kS a (a.length:Int) b [])) (bZ::(kZ (w64 (j+1)) d [.cells (d.flatMap (qc encI).c),.cells (a.flatMap (qc encI).c)])) ?_
      obtain rfl:=si g36
      exact⟨rfl,_,_,rfl,(Sub.refl _)⟩
     obtain⟨J,a2,g36⟩:=bnd g36
     refine gq fol [4] (kE n (kS a (a.length:Int) b [])) (bZ:: .cells [.i j,.gslice 5 J.length 1]:: .dead:: .cells (a.flatMap (qc encI).c)::(kAQ g [.cells (J.flatMap (qc encI).c)])) (ac (hs (.run [2,4] (y9 ZT [25,25] (.gslice 2 d.length 1) (.slice 4 0 1 1 1)) (bZ::(kZ j d (.cells (d.flatMap (qc encI).c):: .cells (a.flatMap (qc encI).c)::(kAQ g [])))) (.gslice 5 J.length 1) (bZ::(kZ j d (.dead:: .cells (a.flatMap (qc encI).c)::(kAQ g [.cells (J.flatMap (qc encI).c)])))) true) (qcl qhh (E:=(qc encI)) rfl (qg7 (E:=(qc encI)) (ys:=[g]) rfl rfl rfl rfl) (qg6 (E:=(qc encI)) (l:=d) rfl rfl rfl a2 rfl))) az) ?_
     obtain rfl:=si g36
     exact⟨rfl,_,_,rfl,(Sub.norm [] [some 0,some 1,some 5,some 3] rfl rfl (.keep (.same nI) (.kp (.kp (.keep (.gslice rfl) (.keep (.same nI) (.keep (.same nI) .nil)))))) (.kb rfl (.same sn) (.kb rfl (.cells (rc (.same nI) (rc (.gslice rfl) rn))) (.ks (.ks .nil)))))⟩
    rintro x s' ⟨rfl,I,y,rfl,hsub⟩
    try dsimp only at g32
    refine Goes.sub hsub ?_
    refine gh fol (kE n (kS a (a.length:Int) (w64 (b+1)) [])) ?_
    exact⟨M,(ofG 74 (kE n (kS a (a.length:Int) (w64 (b+1)) [])),(bZ::(kZ I y [.cells (y.flatMap (qc encI).c),.cells (a.flatMap (qc encI).c)]))),Nat.lt_succ_self _,(Sub.refl _),_,_,_,rfl,g32⟩
   refine Goes.exit ?_
   obtain rfl:=si g32
   exact⟨rfl,_,_,rfl,(Sub.norm [] [some 0,some 1,some 2] rfl rfl (.drop (.kp (.kp .nil))) (.kb rfl (.same sn) (.kb rfl (.cells (rc (.same nI) (rc (.gslice rfl) rn))) (.ks .nil))))⟩
 rintro x s' ⟨rfl,v,p,rfl,hsub⟩
 try dsimp only at h
 refine Goes.sub hsub ?_
 refine sg fol [(4,.ptr 0 0)] (kZ v p (kZ v p [.cells (p.flatMap (qc encI).c)])) ?_
 refine Goes.ret ?_
 obtain rfl:=si h
 exact(gw2 [.agg [.i v,.gslice 2 p.length 1]] (FzW.agg (zN.cons (Ua tI) (zN.cons (Uz (Fz.gs (E:=(qc encI)) rfl rfl (nl rfl))) zN.nil))))
def qbL (N:Nat) (n:Int) (w:List Int):Option (qaR×Int):=
 (jf N n w).bind fun a=>
 if(!decide (a=0))=true then
 some ((⟨0,[]⟩:qaR),a)
 else
 (qM N n w).bind fun b=>
 some (b,0)
theorem qhg (N:Nat) (n:Int) (w:List Int) {res:qaR×Int} (h:qbL N n w=some res):qd ZT (.fn 41) (kAY n w) [] (.tuple [.agg [.i res.1.Half,vl (qc encI) res.1.Factors],.i res.2]) []:=by
 unfold qbL at h
 refine Uc Tryz.func41 rfl rfl (m:=17) rfl (rs:=[.cell 4 70,.tmp 5]) rfl (l:=(kC n w [])) rfl ?_
 refine sg fol (kC n w [(4,.ptr 0 0)]) [bZ] ?_
 refine sq ?_
 obtain⟨a,b,h⟩:=bnd h
 refine sq (gr fol [2] (kC n w [(4,.ptr 0 0),(6,.i a)]) (ac (cv (yC N n w b)) az) ?_)
 refine sh fol (kC n w [(4,.ptr 0 0),(6,.i a),(11,.bool (!decide (a=0)))]) ?_
 refine ihB h (fun e h=>?_) (fun e h=>?_)
 ·refine sh fol [(4,.ptr 0 0),(5,.i a)] ?_
  refine Goes.ret ?_
  obtain rfl:=si h
  exact(gw2 [.agg [.i 0,.nilslice],.i a] (FzW.tuple (zN.cons (FzW.agg (zN.cons (Ua tI) (zN.cons (FzW.nilv (E:=(qc encI))) zN.nil))) (zN.cons (Ua tI) zN.nil))))
 refine Goes.skip ?_
 obtain⟨d,c,h⟩:=bnd h
 refine sq (gq fol [2] [(4,.ptr 0 0),(5,.i 0)] [.cells [.i d.Half,vl (qc encI) d.Factors]] (ac (cv (qb9 N n w c)) az) ?_)
 refine Goes.ret ?_
 obtain rfl:=si h
 exact(gw2 [.agg [.i d.Half,vl (qc encI) d.Factors],.i 0] (FzW.tuple (zN.cons (FzW.agg (zN.cons (Ua tI) (zN.cons (Ua (jQ (qc encI) _ (nl rfl))) zN.nil))) (zN.cons (Ua tI) zN.nil))))
def qah (N:Nat) (n:Int) (a:List Int) (b:List Int):Option Int:=
 (jf N n a).bind fun c=>
 (jf N n b).bind fun d=>
 (xK N ([c,d]:List Int)).bind fun e=>
 some e
theorem qcw (N:Nat) (n:Int) (a:List Int) (b:List Int) {res:Int} (h:qah N n a b=some res):qd ZT (.fn 100) (.i n::(kAR a b)) [] (.i res) []:=by
 unfold qah at h
 refine Uc Tryz.func100 rfl rfl (m:=15) rfl (rs:=[.tmp 6]) rfl (l:=(kC n a [(2,vl encI b)])) rfl ?_
 refine sh fol (kC n a [(2,vl encI b)]) ?_
 obtain⟨f,c,h⟩:=bnd h
 obtain⟨g,d,h⟩:=bnd h
 obtain⟨j,e,h⟩:=bnd h
 refine sq (gq fol [2,5,7] [(6,.i j)] (kO f g []) (ac (cv (yC N n a c)) (ac (cv (yC N n b d)) (ac (hs (.call 67 [.slice 0 0 2 2 1] (kO f g []) [0] [vl encI ([f,g]:List Int)] (.i j)) (qfS (FzL.cons (Fz.lit rfl rfl (FzL.still (AllST.cons tI (AllST.cons tI AllST.nil)))) FzL.nil) (qbN N ([f,g]:List Int) e) tI rfl)) az))) ?_)
 refine Goes.ret ?_
 obtain rfl:=si h
 exact(gw2 [.i j] (Ua tI))
def zu (b:List Int) (c:List Int):Nat->Int->Option (Unit⊕Bool)
 |0,_=>none
 |K+1,a=>
  if a<(b.length:Int)then
  (idx b a).bind fun d=>
  (idx c a).bind fun e=>
  if(!decide (d=e))=true then
  some (.inr false)
  else
  zu b c K (w64 (a+1))
  else
  some (.inl ())
def xD (N:Nat) (a:List Int) (b:List Int):Option Bool:=
 if(!decide ((a.length:Int)=(b.length:Int)))=true then
 some false
 else
 (zu a b N 0).bind (fun
 |(.inl ())=>
 some true
 |(.inr c)=>
 some c)
theorem qdL (N:Nat) (a:List Int) (b:List Int) {res:Bool} (h:xD N a b=some res):qd ZT (.fn 116) (kAR a b) [] (.bool res) []:=by
 unfold xD at h
 refine Uc Tryz.func116 rfl rfl (m:=26) rfl (rs:=[.tmp 4]) rfl (l:=(kH a b [])) rfl ?_
 refine sh fol (kH a b []) ?_
 refine sq ?_
 refine sh fol (kH a b [(10,.bool (!decide ((a.length:Int)=(b.length:Int))))]) ?_
 refine ihB h (fun j h=>?_) (fun j h=>?_)
 ·refine sh fol kAE ?_
  refine Goes.ret ?_
  obtain rfl:=si h
  exact(gw2 [.bool false] (Ua tB))
 refine Goes.skip ?_
 refine sq ?_
 refine sh fol (kH a b [(12,.i (a.length:Int)),(13,.i 0)]) ?_
 refine Goes.block ?_
 obtain⟨f,g3,h⟩:=bnd h
 refine Goes.imp (Q:=fun x s'=>(x= .exit 0/\(.inl ())=f/\Sub s' (ofG 26 [],[]))\/(x= .ret/\ ∃g,(.inr g)=f/\vK ZT [.tmp 4] (.bool g) .ret s')) ?_ ?_
 ·refine Ue (fun M s=> ∃(c:Int),s=(ofG 26 (kH a b (kV (a.length:Int) c)),[])/\zu a b M c=some f) ?_ (m:=N) ⟨_,rfl,g3⟩
  rintro M s ⟨c,rfl,g3⟩
  cases M with
  |zero=>simp only[zu]at g3;cases g3
  |succ M=>
   rw[zu]at g3
   refine sh fol (kH a b [(12,.i (a.length:Int)),(13,.i c),(14,.bool (decide (c<(a.length:Int))))]) ?_
   refine sq ?_
   refine ihD g3 (fun k g3=>?_) (fun k g3=>?_)
   ·refine Goes.skip ?_
    refine sq (Goes.block ?_)
    refine sh fol (kH a b ((5,.i c)::(kV (a.length:Int) c))) ?_
    obtain⟨n,d,g3⟩:=bnd g3
    obtain⟨o,e,g3⟩:=bnd g3
    refine sq (gr fol [2,3,6,7] (kH a b [(12,.i (a.length:Int)),(13,.i c),(24,.bool (!decide (n=o)))]) (ac (iv xx encI d) (ac (lv 0 ce3 encI d rfl) (ac (iv xx encI e) (ac (lv 0 ce3 encI e rfl) az)))) ?_)
    refine ihB g3 (fun p g3=>?_) (fun p g3=>?_)
    ·refine sh fol kAE ?_
     refine Goes.ret ?_
     obtain rfl:=si g3
     exact Or.inr (⟨rfl,_,rfl,(gw2 [.bool false] (Ua tB))⟩)
    refine Goes.skip ?_
    refine gh fol (kH a b (kV (a.length:Int) (w64 (c+1)))) ?_
    exact⟨M,(ofG 26 (kH a b (kV (a.length:Int) (w64 (c+1)))),[]),Nat.lt_succ_self _,(Sub.refl _),_,rfl,g3⟩
   refine Goes.exit ?_
   obtain rfl:=si g3
   exact Or.inl (⟨rfl,rfl,(Sub.keep [] rfl rfl)⟩)
 rintro x s' (⟨rfl,rfl,hsub⟩|⟨rfl,q,rfl,hret⟩)
 ·try dsimp only at h
  refine Goes.sub hsub ?_
  refine sh fol kAS ?_
  refine Goes.ret ?_
  obtain rfl:=si h
  exact(gw2 [.bool true] (Ua tB))
 try dsimp only at h
 obtain rfl:=si h
 exact hret
def qH (N:Nat) (a:List (List Int)) (b:List (List Int)):Nat->Int->Option (Unit⊕Bool)
 |0,_=>none
 |K+1,c=>
  if c<(a.length:Int)then
  (idx a c).bind fun d=>
  (idx b c).bind fun e=>
  (xD N d e).bind fun f=>
  if(!f)=true then
  some (.inr false)
  else
  qH N a b K (w64 (c+1))
  else
  some (.inl ())
def vD (N:Nat) (a:List (List Int)) (b:List (List Int)):Option Bool:=
 if(!decide ((a.length:Int)=(b.length:Int)))=true then
 some false
 else
 (qH N a b N 0).bind (fun
 |(.inl ())=>
 some true
 |(.inr c)=>
 some c)
theorem qct (N:Nat) (a:List (List Int)) (b:List (List Int)) {res:Bool} (h:vD N a b=some res):qd ZT (.fn 179) [vl (qc encI) a,vl (qc encI) b,.func (.func 116) [] []] [] (.bool res) []:=by
 unfold vD at h
 refine Uc Tryz.func179 rfl rfl (m:=32) rfl (rs:=[.tmp 6]) rfl (l:=[(0,vl (qc encI) a),(1,vl (qc encI) b),(2,.func (.func 116) [] [])]) rfl ?_
 refine sh fol [(0,vl (qc encI) a),(1,vl (qc encI) b),(2,.func (.func 116) [] [])] ?_
 refine sq ?_
 refine sh fol [(0,vl (qc encI) a),(1,vl (qc encI) b),(2,.func (.func 116) [] []),(14,.bool (!decide ((a.length:Int)=(b.length:Int))))] ?_
 refine ihB h (fun o h=>?_) (fun o h=>?_)
 ·refine sh fol kAL ?_
  refine Goes.ret ?_
  obtain rfl:=si h
  exact(gw2 [.bool false] (Ua tB))
 refine Goes.skip ?_
 refine sq ?_
 refine sh fol [(1,vl (qc encI) b),(2,.func (.func 116) [] []),(15,vl (qc encI) a),(16,.i (a.length:Int)),(17,.i 0)] ?_
 refine Goes.block ?_
 obtain⟨g,g3,h⟩:=bnd h
 refine Goes.imp (Q:=fun x s'=>(x= .exit 0/\(.inl ())=g/\Sub s' (ofG 32 [],[]))\/(x= .ret/\ ∃k,(.inr k)=g/\vK ZT [.tmp 6] (.bool k) .ret s')) ?_ ?_
 ·refine Ue (fun M s=> ∃(c:Int),s=(ofG 32 [(1,vl (qc encI) b),(2,.func (.func 116) [] []),(15,vl (qc encI) a),(16,.i (a.length:Int)),(17,.i c)],[])/\qH N a b M c=some g) ?_ (m:=N) ⟨_,rfl,g3⟩
  rintro M s ⟨c,rfl,g3⟩
  cases M with
  |zero=>simp only[qH]at g3;cases g3
  |succ M=>
   rw[qH]at g3
   refine sh fol [(1,vl (qc encI) b),(2,.func (.func 116) [] []),(15,vl (qc encI) a),(16,.i (a.length:Int)),(17,.i c),(18,.bool (decide (c<(a.length:Int))))] ?_
   refine sq ?_
   refine ihD g3 (fun p g3=>?_) (fun p g3=>?_)
   ·refine Goes.skip ?_
    refine sq (Goes.block ?_)
    obtain⟨j,d,g3⟩:=bnd g3
    refine sq (gr fol [1,2] [(1,vl (qc encI) b),(2,.func (.func 116) [] []),(7,.i c),(8,vl encI j),(15,vl (qc encI) a),(16,.i (a.length:Int)),(17,.i c)] (ac (iv qhh (qc encI) d) (ac (lv 0 qkh (qc encI) d rfl) az)) ?_)
    obtain⟨n,e,g3⟩:=bnd g3
    refine sq (gr fol [2,3] [(1,vl (qc encI) b),(2,.func (.func 116) [] []),(8,vl encI j),(9,vl encI n),(15,vl (qc encI) a),(16,.i (a.length:Int)),(17,.i c)] (ac (iv qhh (qc encI) e) (ac (lv 0 qkh (qc encI) e rfl) az)) ?_)
    obtain⟨q,f,g3⟩:=bnd g3
    refine sq (gr fol [3] [(1,vl (qc encI) b),(2,.func (.func 116) [] []),(15,vl (qc encI) a),(16,.i (a.length:Int)),(17,.i c),(30,.bool (!q))] (ac (cv (qdL N j n f)) az) ?_)
    refine ihB g3 (fun r g3=>?_) (fun r g3=>?_)
    ·refine sh fol kAL ?_
     refine Goes.ret ?_
     obtain rfl:=si g3
     exact Or.inr (⟨rfl,_,rfl,(gw2 [.bool false] (Ua tB))⟩)
    refine Goes.skip ?_
    refine gh fol [(1,vl (qc encI) b),(2,.func (.func 116) [] []),(15,vl (qc encI) a),(16,.i (a.length:Int)),(17,.i (w64 (c+1)))] ?_
    exact⟨M,(ofG 32 [(1,vl (qc encI) b),(2,.func (.func 116) [] []),(15,vl (qc encI) a),(16,.i (a.length:Int)),(17,.i (w64 (c+1)))],[]),Nat.lt_succ_self _,(Sub.refl _),_,rfl,g3⟩
   refine Goes.exit ?_
   obtain rfl:=si g3
   exact Or.inl (⟨rfl,rfl,(Sub.keep [] rfl rfl)⟩)
 rintro x s' (⟨rfl,rfl,hsub⟩|⟨rfl,t,rfl,hret⟩)
 ·try dsimp only at h
  refine Goes.sub hsub ?_
  refine sh fol [(6,.bool true)] ?_
  refine Goes.ret ?_
  obtain rfl:=si h
  exact(gw2 [.bool true] (Ua tB))
 try dsimp only at h
 obtain rfl:=si h
 exact hret
def qaS (N:Nat) (f:qaR) (g:qaR):Option Bool:=
 (if f.Half=g.Half then
 (vD N f.Factors g.Factors).bind fun a=>
 some a
 else
 some false:Option Bool).bind fun b=>
 some b
theorem qfQ (N:Nat) (f:qaR) (g:qaR) {res:Bool} (h:qaS N f g=some res):qd ZT (.fn 173) [.agg [.i f.Half,vl (qc encI) f.Factors],.agg [.i g.Half,vl (qc encI) g.Factors]] [] (.bool res) []:=by
 unfold qaS at h
 refine Uc Tryz.func173 rfl rfl (m:=17) rfl (rs:=[.tmp 4]) rfl (l:=[(0,.agg [.i f.Half,vl (qc encI) f.Factors]),(1,.agg [.i g.Half,vl (qc encI) g.Factors])]) rfl ?_
 refine sg fol [(2,.ptr 0 0),(3,.ptr 1 0)] [.cells [.i f.Half,vl (qc encI) f.Factors],.cells [.i g.Half,vl (qc encI) g.Factors]] ?_
 refine sq ?_
 obtain⟨d,a,h⟩:=bnd h
 refine Goes.cut (s':=(ofG 17 (kAT d),[.cells [.i f.Half,vl (qc encI) f.Factors],.cells [.i g.Half,vl (qc encI) g.Factors]])) ?_ ?_
 ·rcases wyD a with⟨c,a⟩|⟨c,a⟩
  ·obtain⟨e,b,a⟩:=bnd a
   obtain rfl:=si a
   exact tr fol [5,10] (kAT e) (ac (gw c) (ac (hs (.call 179 [vl (qc encI) f.Factors,vl (qc encI) g.Factors,.func (.func 116) [] []] [] [] [vl (qc encI) f.Factors,vl (qc encI) g.Factors,.func (.func 116) [] []] (.bool e)) (qlW (FzL.cons (Up (jQ (qc encI) _ (nl rfl))) (FzL.cons (Up (jQ (qc encI) _ (nl rfl))) (FzL.cons (Fz.func FzL.nil FzL.nil) FzL.nil))) (qct N f.Factors g.Factors b) tB)) az))
  obtain rfl:=si a
  exact tr fol [5] kAE (ac (gw c) az)
 refine Goes.ret ?_
 obtain rfl:=si h
 exact(gw2 [.bool d] (Ua tB))
def qcZ (N:Nat) (n:Int) (a:List Int) (b:List Int):Option Bool:=
 (qM N n a).bind fun c=>
 (qM N n b).bind fun d=>
 (qaS N c d).bind fun e=>
 some e
theorem qhW (N:Nat) (n:Int) (a:List Int) (b:List Int) {res:Bool} (h:qcZ N n a b=some res):qd ZT (.fn 101) (.i n::(kAR a b)) [] (.bool res) []:=by
 unfold qcZ at h
 refine Uc Tryz.func101 rfl rfl (m:=14) rfl (rs:=[.tmp 6]) rfl (l:=(kC n a [(2,vl encI b)])) rfl ?_
 refine sh fol (kC n a [(2,vl encI b)]) ?_
 obtain⟨g,c,h⟩:=bnd h
 obtain⟨j,d,h⟩:=bnd h
 obtain⟨f,e,h⟩:=bnd h
 refine sq (gr fol [2,5,6] [(6,.bool f)] (ac (cv (qb9 N n a c)) (ac (cv (qb9 N n b d)) (ac (cv (qfQ N g j e)) az))) ?_)
 refine Goes.ret ?_
 obtain rfl:=si h
 exact(gw2 [.bool f] (Ua tB))
def qbB (N:Nat) (n:Int) (a:List Int) (b:List Int):Option (Bool×Int):=
 (qah N n a b).bind fun c=>
 if(!decide (c=0))=true then
 some (false,c)
 else
 (qcZ N n a b).bind fun d=>
 some (d,0)
theorem qeX (N:Nat) (n:Int) (a:List Int) (b:List Int) {res:Bool×Int} (h:qbB N n a b=some res):qd ZT (.fn 46) (.i n::(kAR a b)) [] (.tuple [.bool res.1,.i res.2]) []:=by
 unfold qbB at h
 refine Uc Tryz.func46 rfl rfl (m:=20) rfl (rs:=[.tmp 6,.tmp 7]) rfl (l:=(kC n a [(2,vl encI b)])) rfl ?_
 refine sh fol (kC n a [(2,vl encI b)]) ?_
 refine sq ?_
 obtain⟨c,d,h⟩:=bnd h
 refine sq (gr fol [3] (kC n a [(2,vl encI b),(8,.i c)]) (ac (cv (qcw N n a b d)) az) ?_)
 refine sh fol (kC n a [(2,vl encI b),(8,.i c),(14,.bool (!decide (c=0)))]) ?_
 refine ihB h (fun g h=>?_) (fun g h=>?_)
 ·refine sh fol [(6,.bool false),(7,.i c)] ?_
  refine Goes.ret ?_
  obtain rfl:=si h
  exact(gw2 [.bool false,.i c] (FzW.tuple (zN.cons (Ua tB) (zN.cons (Ua tI) zN.nil))))
 refine Goes.skip ?_
 obtain⟨f,e,h⟩:=bnd h
 refine sq (gr fol [3] [(6,.bool f),(7,.i 0)] (ac (cv (qhW N n a b e)) az) ?_)
 refine Goes.ret ?_
 obtain rfl:=si h
 exact(gw2 [.bool f,.i 0] (FzW.tuple (zN.cons (Ua tB) (zN.cons (Ua tI) zN.nil))))
def zY (p:List Int) (b:Int):Nat->Int->Option (Unit⊕Int)
 |0,_=>none
 |K+1,a=>
  if a<b then
  (idx p a).bind fun c=>
  (idx p b).bind fun d=>
  if c=d then
  some (.inr 15)
  else
  zY p b K (w64 (a+1))
  else
  some (.inl ())
def j6 (N:Nat) (p:List Int):Nat->Int->Option (Unit⊕Int)
 |0,_=>none
 |K+1,a=>
  if a<(p.length:Int)then
  ((idx p a).bind fun c=>
  if c<0 then
  some true
  else
  some (decide (c>=(p.length:Int))):Option Bool).bind fun d=>
  if d=true then
  some (.inr 15)
  else
  (zY p a N 0).bind (fun
  |(.inl ())=>
  j6 N p K (w64 (a+1))
  |(.inr b)=>
  some (.inr b))
  else
  some (.inl ())
def qaT (N:Nat) (p:List Int):Option Int:=
 if(p.length:Int)>256 then
 some 5
 else
 (j6 N p N 0).bind (fun
 |(.inl ())=>
 some 0
 |(.inr a)=>
 some a)
theorem qcP (N:Nat) (p:List Int) {res:Int} (h:qaT N p=some res):qd ZT (.fn 47) [vl encI p] [] (.i res) []:=by
 unfold qaT at h
 refine Uc Tryz.func47 rfl rfl (m:=42) rfl (rs:=[.tmp 2]) rfl (l:=(kM p [])) rfl ?_
 refine sh fol (kM p []) ?_
 refine sq ?_
 refine sh fol (kM p [(7,.bool (decide ((p.length:Int)>256)))]) ?_
 refine ihD h (fun w h=>?_) (fun w h=>?_)
 ·refine sh fol [(2,.i 5)] ?_
  refine Goes.ret ?_
  obtain rfl:=si h
  exact(gw2 [.i 5] (Ua tI))
 refine Goes.skip ?_
 refine sq ?_
 refine sh fol (kM p [(3,.i 0)]) ?_
 refine Goes.block ?_
 obtain⟨k,g3,h⟩:=bnd h
 refine Goes.imp (Q:=fun x s'=>(x= .exit 0/\(.inl ())=k/\Sub s' (ofG 42 [],[]))\/(x= .ret/\ ∃v,(.inr v)=k/\vK ZT [.tmp 2] (.i v) .ret s')) ?_ ?_
 ·refine Ue (fun M s=> ∃(c:Int),s=(ofG 42 (kM p [(3,.i c)]),[])/\j6 N p M c=some k) ?_ (m:=N) ⟨_,rfl,g3⟩
  rintro M s ⟨c,rfl,g3⟩
  cases M with
  |zero=>simp only[j6]at g3;cases g3
  |succ M=>
   rw[j6]at g3
   refine sq ?_
   refine sh fol (kM p [(3,.i c),(11,.bool (decide (c<(p.length:Int))))]) ?_
   refine ihD g3 (fun y g3=>?_) (fun y g3=>?_)
   ·refine Goes.skip ?_
    refine sq (Goes.block ?_)
    refine sq ?_
    refine sq ?_
    obtain⟨z,a,g3⟩:=bnd g3
    refine Goes.cut (s':=(ofG 42 (kM p [(3,.i c),(27,.bool z)]),[])) ?_ ?_
    ·obtain⟨A,b,a⟩:=bnd a
     rcases wyD a with⟨n,a⟩|⟨n,a⟩
     ·obtain rfl:=si a
      exact tr fol [2,3,5] (kM p [(3,.i c),(27,.bool true)]) (ac (iv xx encI b) (ac (lv 0 ce3 encI b rfl) (ac (gw n) az)))
     obtain rfl:=si a
     exact tr fol [2,3,5,8,9] (kM p [(3,.i c),(27,.bool (decide (A>=(p.length:Int))))]) (ac (iv xx encI b) (ac (lv 0 ce3 encI b rfl) (ac (gw n) (ac (iv xx encI b) (ac (lv 0 ce3 encI b rfl) az)))))
    refine ihB g3 (fun o g3=>?_) (fun o g3=>?_)
    ·refine sh fol [(2,.i 15)] ?_
     refine Goes.ret ?_
     obtain rfl:=si g3
     exact Or.inr (⟨rfl,_,rfl,(gw2 [.i 15] (Ua tI))⟩)
    refine Goes.skip ?_
    refine sh fol (kM p [(3,.i c),(4,.i 0)]) ?_
    refine Goes.block ?_
    obtain⟨g,g12,g3⟩:=bnd g3
    refine Goes.imp (Q:=fun x s'=>(x= .exit 2/\(.inl ())=g/\Sub s' (ofG 42 (kM p [(3,.i c)]),[]))\/(x= .ret/\ ∃j,(.inr j)=g/\vK ZT [.tmp 2] (.i j) .ret s')) ?_ ?_
    ·refine Ue (fun M s=> ∃(d:Int),s=(ofG 42 (kM p [(3,.i c),(4,.i d)]),[])/\zY p c M d=some g) ?_ (m:=N) ⟨_,rfl,g12⟩
     rintro M s ⟨d,rfl,g12⟩
     cases M with
     |zero=>simp only[zY]at g12;cases g12
     |succ M=>
      rw[zY]at g12
      refine sq ?_
      refine sh fol (kM p [(3,.i c),(4,.i d),(30,.bool (decide (d<c)))]) ?_
      refine ihD g12 (fun q g12=>?_) (fun q g12=>?_)
      ·refine Goes.skip ?_
       refine sq (Goes.block ?_)
       obtain⟨r,e,g12⟩:=bnd g12
       obtain⟨t,f,g12⟩:=bnd g12
       refine sq (gr fol [2,3,6,7] (kM p [(3,.i c),(4,.i d),(41,.bool (decide (r=t)))]) (ac (iv xx encI e) (ac (lv 0 ce3 encI e rfl) (ac (iv xx encI f) (ac (lv 0 ce3 encI f rfl) az)))) ?_)
       refine ihD g12 (fun u g12=>?_) (fun u g12=>?_)
       ·refine sh fol [(2,.i 15)] ?_
        refine Goes.ret ?_
        obtain rfl:=si g12
        exact Or.inr (⟨rfl,_,rfl,(gw2 [.i 15] (Ua tI))⟩)
       refine Goes.skip ?_
       refine gh fol (kM p [(3,.i c),(4,.i (w64 (d+1)))]) ?_
       exact⟨M,(ofG 42 (kM p [(3,.i c),(4,.i (w64 (d+1)))]),[]),Nat.lt_succ_self _,(Sub.refl _),_,rfl,g12⟩
      refine Goes.exit ?_
      obtain rfl:=si g12
      exact Or.inl (⟨rfl,rfl,(Sub.keep [0,3] rfl rfl)⟩)
    rintro x s' (⟨rfl,rfl,hsub⟩|⟨rfl,B,rfl,hret⟩)
    ·try dsimp only at g3
     refine Goes.sub hsub ?_
     refine gh fol (kM p [(3,.i (w64 (c+1)))]) ?_
     exact⟨M,(ofG 42 (kM p [(3,.i (w64 (c+1)))]),[]),Nat.lt_succ_self _,(Sub.refl _),_,rfl,g3⟩
    try dsimp only at g3
    obtain rfl:=si g3
    exact Or.inr (⟨rfl,_,rfl,hret⟩)
   refine Goes.exit ?_
   obtain rfl:=si g3
   exact Or.inl (⟨rfl,rfl,(Sub.keep [] rfl rfl)⟩)
 rintro x s' (⟨rfl,rfl,hsub⟩|⟨rfl,C,rfl,hret⟩)
 ·try dsimp only at h
  refine Goes.sub hsub ?_
  refine sh fol [(2,.i 0)] ?_
  refine Goes.ret ?_
  obtain rfl:=si h
  exact(gw2 [.i 0] (Ua tI))
 try dsimp only at h
 obtain rfl:=si h
 exact hret
def qX (p:List Int):Nat->(List (Int×Bool))->Int->Option (Unit⊕Int)
 |0,_,_=>none
 |K+1,e,b=>
  if b<(p.length:Int)then
  (idx p b).bind fun a=>
  (if a<0 then
  some true
  else
  if a>=(p.length:Int)then
  some true
  else
  some ((qcc e a).getD false):Option Bool).bind fun c=>
  if c=true then
  some (.inr 15)
  else
  (some (qfl e a true)).bind fun d=>
  qX p K d (w64 (b+1))
  else
  some (.inl ())
def yI (N:Nat) (p:List Int):Option Int:=
 if(p.length:Int)>256 then
 some 5
 else
 (qX p N ([]:List (Int×Bool)) 0).bind (fun
 |(.inl ())=>
 some 0
 |(.inr a)=>
 some a)
theorem qfj (N:Nat) (p:List Int) {res:Int} (h:yI N p=some res):qd ZT (.fn 136) [vl encI p] [] (.i res) []:=by
 unfold yI at h
 refine Uc Tryz.func136 rfl rfl (m:=32) rfl (rs:=[.tmp 2]) rfl (l:=(kM p [])) rfl ?_
 refine sh fol (kM p []) ?_
 refine sq ?_
 refine sh fol (kM p [(8,.bool (decide ((p.length:Int)>256)))]) ?_
 refine ihD h (fun u h=>?_) (fun u h=>?_)
 ·refine sh fol [(2,.i 5)] ?_
  refine Goes.ret ?_
  obtain rfl:=si h
  exact(gw2 [.i 5] (Ua tI))
 refine Goes.skip ?_
 refine sg fol (kM p [(3,.map 0)]) [mpB (AV.int .i64) fO ([]:List (Int×Bool))] ?_
 refine sq ?_
 refine sh fol (kM p [(3,.map 0),(10,vl encI p),(11,.i (p.length:Int)),(12,.i 0)]) ?_
 refine Goes.block ?_
 obtain⟨n,g4,h⟩:=bnd h
 refine Goes.imp (Q:=fun x s'=>(x= .exit 0/\(.inl ())=n/\Sub s' (ofG 32 [],[]))\/(x= .ret/\ ∃t,(.inr t)=n/\vK ZT [.tmp 2] (.i t) .ret s')) ?_ ?_
 ·refine Ue (fun M s=> ∃(d:List (Int×Bool)) (b:Int),s=(ofG 32 (kM p ((3,.map 0)::(kN p (p.length:Int) b []))),[mpB (AV.int .i64) fO d])/\qX p M d b=some n) ?_ (m:=N) ⟨_,_,rfl,g4⟩
  rintro M s ⟨d,b,rfl,g4⟩
  cases M with
  |zero=>simp only[qX]at g4;cases g4
  |succ M=>
   rw[qX]at g4
   refine sh fol (kM p ((3,.map 0)::(kN p (p.length:Int) b [(13,.bool (decide (b<(p.length:Int))))]))) ?_
   refine sq ?_
   refine ihD g4 (fun v g4=>?_) (fun v g4=>?_)
   ·refine Goes.skip ?_
    refine sq (Goes.block ?_)
    obtain⟨c,e,g4⟩:=bnd g4
    refine sq (gr fol [0,1] (kM p ((3,.map 0)::(5,.i c)::(kN p (p.length:Int) b []))) (ac (iv xx encI e) (ac (lv 0 ce3 encI e rfl) az)) ?_)
    refine sq ?_
    refine sq ?_
    obtain⟨o,a,g4⟩:=bnd g4
    refine Goes.cut (s':=(ofG 32 (kM p ((3,.map 0)::(5,.i c)::(kN p (p.length:Int) b [(28,.bool o)]))),[mpB (AV.int .i64) fO d])) ?_ ?_
    ·rcases wyD a with⟨k,a⟩|⟨k,a⟩
     ·obtain rfl:=si a
      exact tr fol [2] (kM p ((3,.map 0)::(5,.i c)::(kN p (p.length:Int) b [(28,.bool true)]))) (ac (gw k) az)
     rcases wyD a with⟨q,a⟩|⟨q,a⟩
     ·obtain rfl:=si a
      exact tr fol [2,8] (kM p ((3,.map 0)::(5,.i c)::(kN p (p.length:Int) b [(28,.bool true)]))) (ac (gw k) (ac (gw q) az))
     obtain rfl:=si a
     exact tr fol [2,8,11] (kM p ((3,.map 0)::(5,.i c)::(kN p (p.length:Int) b [(28,.bool ((qcc d c).getD false))]))) (ac (gw k) (ac (gw q) (ac (hs (.run [0] (qcj ZT 223 (.map 0) (.i c) false) [mpB (AV.int .i64) fO d] (.bool ((qcc d c).getD false)) [mpB (AV.int .i64) fO d] false) (qn6 (z:=false) (f:=fO) qov keyI rfl c)) az)))
    refine ihB g4 (fun r g4=>?_) (fun r g4=>?_)
    ·refine sh fol [(2,.i 15)] ?_
     refine Goes.ret ?_
     obtain rfl:=si g4
     exact Or.inr (⟨rfl,_,rfl,(gw2 [.i 15] (Ua tI))⟩)
    refine Goes.skip ?_
    obtain⟨g,j,g4⟩:=bnd g4
    refine gq fol [2] (kM p ((3,.map 0)::(kN p (p.length:Int) b []))) [mpB (AV.int .i64) fO g] (ac (hs (.run [0] (qbu ZT 223 (.map 0) (.i c) (.bool true)) [mpB (AV.int .i64) fO d] .undef [mpB (AV.int .i64) fO g] true) (upm qov keyI fO rfl c true j rfl)) az) ?_
    refine gh fol (kM p ((3,.map 0)::(kN p (p.length:Int) (w64 (b+1)) []))) ?_
    exact⟨M,(ofG 32 (kM p ((3,.map 0)::(kN p (p.length:Int) (w64 (b+1)) []))),[mpB (AV.int .i64) fO g]),Nat.lt_succ_self _,(Sub.refl _),_,_,rfl,g4⟩
   refine Goes.exit ?_
   obtain rfl:=si g4
   exact Or.inl (⟨rfl,rfl,(Sub.norm [] [] rfl rfl .nil .nil)⟩)
 rintro x s' (⟨rfl,rfl,hsub⟩|⟨rfl,w,rfl,hret⟩)
 ·try dsimp only at h
  refine Goes.sub hsub ?_
  refine sh fol [(2,.i 0)] ?_
  refine Goes.ret ?_
  obtain rfl:=si h
  exact(gw2 [.i 0] (Ua tI))
 try dsimp only at h
 obtain rfl:=si h
 exact hret
def qbp (N:Nat) (n:Int) (p:List Int):Option Int:=
 (yx (!decide ((p.length:Int)=n)) 2).bind fun a=>
 (yI N p).bind fun b=>
 (xK N ([a,b]:List Int)).bind fun c=>
 some c
theorem qfY (N:Nat) (n:Int) (p:List Int) {res:Int} (h:qbp N n p=some res):qd ZT (.fn 118) (kAY n p) [] (.i res) []:=by
 unfold qbp at h
 refine Uc Tryz.func118 rfl rfl (m:=14) rfl (rs:=[.tmp 4]) rfl (l:=(kC n p [])) rfl ?_
 refine sh fol (kC n p []) ?_
 obtain⟨d,a,h⟩:=bnd h
 obtain⟨e,b,h⟩:=bnd h
 obtain⟨f,c,h⟩:=bnd h
 refine sq (gq fol [4,6,8] [(4,.i f)] (kO d e []) (ac (cv (qbl (!decide ((p.length:Int)=n)) 2 a)) (ac (cv (qfj N p b)) (ac (hs (.call 67 [.slice 0 0 2 2 1] (kO d e []) [0] [vl encI ([d,e]:List Int)] (.i f)) (qfS (FzL.cons (Fz.lit rfl rfl (FzL.still (AllST.cons tI (AllST.cons tI AllST.nil)))) FzL.nil) (qbN N ([d,e]:List Int) c) tI rfl)) az))) ?_)
 refine Goes.ret ?_
 obtain rfl:=si h
 exact(gw2 [.i f] (Ua tI))
def kw (b:List Int):Nat->Int->Option Int
 |0,_=>none
 |K+1,a=>
  (if(w64 (a+1))<(b.length:Int)then
  (jy b a).bind fun c=>
  some (!c)
  else
  some false:Option Bool).bind fun d=>
  if d=true then
  kw b K (w64 (a+1))
  else
  some a
def zW (N:Nat):Nat->(List Int)->(List Int)->Option (List Int)
 |0,_,_=>none
 |K+1,e,a=>
  (kw a N 0).bind fun b=>
  if(w64 (b+1))>=(a.length:Int)then
  some e
  else
  (ky a b).bind fun c=>
  (app 8 e [w64 (b+1)]).bind fun d=>
  zW N K d c
def qam (N:Nat) (p:List Int):Option (List Int):=
 (qeB p).bind fun _=>
 (zW N N ([]:List Int) p).bind fun a=>
 some a
theorem qeL (N:Nat) (p:List Int) {res:List Int} (h:qam N p=some res):qd ZT (.fn 119) [vl encI p] [] (vl encI res) []:=by
 unfold qam at h
 refine Uc Tryz.func119 rfl rfl (m:=35) rfl (rs:=[.tmp 2]) rfl (l:=(kM p [])) rfl ?_
 refine sh fol (kM p []) ?_
 obtain⟨_,o,h⟩:=bnd h
 refine sq (gq fol [1] (kAG p []) (kA p []) (ac (hs (.callH 196 [vl encI p] [] [] (.gslice 0 p.length 1) (kA p [])) (qaY [] [some 0] (qjn p o) .nil rfl rfl (.new rfl rfl (.same fa) rfl .nil) (rc (.same (qD encI _)) rn) (.gslice rfl) rfl)) az) ?_)
 refine sh fol (kAG p [(4,.nilslice)]) ?_
 refine Goes.block ?_
 obtain⟨w,g4,h⟩:=bnd h
 refine Goes.imp (Q:=fun x s'=>(x= .ret/\ ∃y,y=w/\vK ZT [.tmp 2] (vl encI y) .ret s')) ?_ ?_
 ·refine Goes.sub (s':=(ofG 35 [(3,vl encI p),(4,.gslice 0 ([]:List Int).length 1)],kAK)) (Sub.norm [0] [none] rfl rfl (.keep (.frz (Fz.gs (E:=encI) rfl rfl (nl rfl)) (qD encI _)) (.keep .nil .nil)) (.fresh .nil)) ?_
  refine Ue (fun M s=> ∃(b:List Int) (c:List Int),s=(ofG 35 (kR c b []),(kA b []))/\zW N M b c=some w) ?_ (m:=N) ⟨_,_,rfl,g4⟩
  rintro M s ⟨b,c,rfl,g4⟩
  cases M with
  |zero=>simp only[zW]at g4;cases g4
  |succ M=>
   rw[zW]at g4
   refine Goes.block ?_
   refine sh fol (kR c b [(5,.i 0)]) ?_
   refine sq (Goes.block ?_)
   obtain⟨z,g8,g4⟩:=bnd g4
   refine Goes.imp (Q:=fun x s'=>(x= .exit 2/\ ∃e,e=z/\Sub s' (ofG 35 (kR c b [(5,.i e)]),(kA b [])))) ?_ ?_
   ·refine Ue (fun M s=> ∃(f:Int),s=(ofG 35 (kR c b [(5,.i f)]),(kA b []))/\kw c M f=some z) ?_ (m:=N) ⟨_,rfl,g8⟩
    rintro M s ⟨f,rfl,g8⟩
    cases M with
    |zero=>simp only[kw]at g8;cases g8
    |succ M=>
     rw[kw]at g8
     refine sq ?_
     refine sq ?_
     obtain⟨q,a,g8⟩:=bnd g8
     refine Goes.cut (s':=(ofG 35 (kR c b [(5,.i f),(18,.bool q)]),(kA b []))) ?_ ?_
     ·rcases wyD a with⟨r,a⟩|⟨r,a⟩
      ·obtain⟨t,g,a⟩:=bnd a
       obtain rfl:=si a
       exact tr fol [5,8] (kR c b [(5,.i f),(18,.bool (!t))]) (ac (gw r) (ac (cv (xG c f g)) az))
      obtain rfl:=si a
      exact tr fol [5] (kR c b [(5,.i f),(18,.bool false)]) (ac (gw r) az)
     refine ihB g8 (fun u g8=>?_) (fun u g8=>?_)
     ·refine Goes.skip ?_
      refine Goes.block ?_
      refine gh fol (kR c b [(5,.i (w64 (f+1)))]) ?_
      exact⟨M,(ofG 35 (kR c b [(5,.i (w64 (f+1)))]),(kA b [])),Nat.lt_succ_self _,(Sub.refl _),_,rfl,g8⟩
     refine Goes.exit ?_
     obtain rfl:=si g8
     exact⟨rfl,_,rfl,(Sub.keep [3,4,5] rfl rfl)⟩
   rintro x s' ⟨rfl,e,rfl,hsub⟩
   refine Goes.sub hsub ?_
   refine sq ?_
   refine sh fol (kR c b [(5,.i e),(25,.bool (decide ((w64 (e+1))>=(c.length:Int))))]) ?_
   refine ihD g4 (fun v g4=>?_) (fun v g4=>?_)
   ·refine sh fol [(2,.gslice 0 b.length 1)] ?_
    refine Goes.ret ?_
    obtain rfl:=si g4
    exact⟨rfl,_,rfl,(gw2 [.gslice 0 b.length 1] (Uz (Fz.gs (E:=encI) rfl rfl (nl rfl))))⟩
   refine Goes.skip ?_
   obtain⟨j,k,g4⟩:=bnd g4
   refine sq (gr fol [2] (kR j b [(5,.i e)]) (ac (cv (yU c e k)) az) ?_)
   obtain⟨d,n,g4⟩:=bnd g4
   refine gq fol [4] [(3,vl encI j),(4,.gslice 2 d.length 1)] (.dead::(kAM (w64 (e+1)) (kA d []))) (ac (hs (.run [0,1] (y9 ZT [22,22] (.gslice 0 b.length 1) (.slice 1 0 1 1 1)) (kA b (kAM (w64 (e+1)) [])) (.gslice 2 d.length 1) (.dead::(kAM (w64 (e+1)) (kA d []))) true) (qcl xx (E:=encI) rfl (qg7 (E:=encI) (ys:=[w64 (e+1)]) rfl rfl rfl rfl) (qg6 (E:=encI) (l:=b) rfl rfl rfl n rfl))) az) ?_
   exact⟨M,(ofG 35 (kR j d []),(kA d [])),Nat.lt_succ_self _,(Sub.norm [] [some 2] rfl rfl (.keep (.same (qD encI _)) (.keep (.gslice rfl) .nil)) (.ks .nil)),_,_,rfl,g4⟩
 rintro x s' ⟨rfl,A,rfl,hret⟩
 obtain rfl:=si h
 exact hret
def qbe (N:Nat) (n:Int) (p:List Int):Option ((List Int)×Int):=
 (jZ n).bind fun b=>
 (qbp N n p).bind fun c=>
 (xK N ([b,c]:List Int)).bind fun a=>
 if(!decide (a=0))=true then
 some ([],a)
 else
 (qam N p).bind fun d=>
 some (d,0)
theorem qeh (N:Nat) (n:Int) (p:List Int) {res:(List Int)×Int} (h:qbe N n p=some res):qd ZT (.fn 48) (kAY n p) [] (.tuple [vl encI res.1,.i res.2]) []:=by
 unfold qbe at h
 refine Uc Tryz.func48 rfl rfl (m:=19) rfl (rs:=[.tmp 4,.tmp 5]) rfl (l:=(kC n p [])) rfl ?_
 refine sh fol (kC n p []) ?_
 refine sq ?_
 obtain⟨f,b,h⟩:=bnd h
 obtain⟨g,c,h⟩:=bnd h
 obtain⟨a,d,h⟩:=bnd h
 refine sq (gq fol [1,4,6] [(1,vl encI p),(6,.i a)] (kO f g []) (ac (cv (qbP n b)) (ac (cv (qfY N n p c)) (ac (hs (.call 67 [.slice 0 0 2 2 1] (kO f g []) [0] [vl encI ([f,g]:List Int)] (.i a)) (qfS (FzL.cons (Fz.lit rfl rfl (FzL.still (AllST.cons tI (AllST.cons tI AllST.nil)))) FzL.nil) (qbN N ([f,g]:List Int) d) tI rfl)) az))) ?_)
 refine sh fol [(1,vl encI p),(6,.i a),(15,.bool (!decide (a=0)))] ?_
 refine ihB h (fun k h=>?_) (fun k h=>?_)
 ·refine sh fol [(4,.nilslice),(5,.i a)] ?_
  refine Goes.ret ?_
  obtain rfl:=si h
  exact(gw2 [.nilslice,.i a] (FzW.tuple (zN.cons (FzW.nilv (E:=encI)) (zN.cons (Ua tI) zN.nil))))
 refine Goes.skip ?_
 obtain⟨j,e,h⟩:=bnd h
 refine sq (gr fol [1] [(4,vl encI j),(5,.i 0)] (ac (cv (qeL N p e)) az) ?_)
 refine Goes.ret ?_
 obtain rfl:=si h
 exact(gw2 [vl encI j,.i 0] (FzW.tuple (zN.cons (Ua (jQ encI _ (nl rfl))) (zN.cons (Ua tI) zN.nil))))
end Go.Av
