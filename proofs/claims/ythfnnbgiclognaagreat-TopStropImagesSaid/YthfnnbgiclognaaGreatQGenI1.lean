/-
  Walks of functions: what each computes, as a plain function.
-/
import Derived.Test.YthfnnbgiclognaaGreatAvJnI
noncomputable section
namespace Go.Av
open Go.Proofs Go.RowKit
abbrev ZT:=Tryz.prog
set_option linter.unusedSectionVars false
set_option linter.unusedVariables false
set_option linter.unusedSimpArgs false
set_option maxRecDepth 100000
abbrev kA (a:List Int) (x:List Blk):List Blk:= .cells (a.flatMap encI.c)::x
abbrev kB {α0:Type} (a:List α0) (x:List Blk):List Blk:= .cells [.slice 2 0 a.length a.length 1]::x
abbrev kC {α1:Type} (a:List Int) (b:List α1) (c:Int) (x:List (Nat×AV)):List (Nat×AV):=(15,vl encI a)::(17,.gslice 0 b.length 1)::(18,.i c)::x
abbrev kD (a:Int) (b:List Int) (x:List Blk):List Blk:= .cells [.i a]:: .cells [vl encI b]::x
abbrev kE (a:Int) (b:List Int) (x:List (Nat×AV)):List (Nat×AV):=(0,.i a)::(1,vl encI b)::x
abbrev kF (a:List Int) (b:Int) (c:Int) (x:List (Nat×AV)):List (Nat×AV):=(7,vl encI a)::(8,.i b)::(9,.i c)::x
abbrev kG (a:Option (List Int)):List Blk:=[.cells ((hof a).flatMap encI.c)]
abbrev kH {α0:Type} (a:List α0) (x:List (Nat×AV)):List (Nat×AV):=(5,.gslice 0 a.length 1)::x
abbrev kI {α0:Type} (a:List α0) (x:List (Nat×AV)):List (Nat×AV):=(0,.gslice 0 a.length 1)::x
abbrev kJ (a:List Int) (b:List Int) (c:List Int):List Blk:=[.frozen (a.flatMap encI.c),.frozen [vl encI b,vl encI c,.gslice 1 a.length 1]]
abbrev kK (a:List Int) (b:List Int) (c:List Int):List Blk:=[.frozen (a.flatMap encI.c),.frozen [.gslice 1 a.length 1,vl encI b,vl encI c]]
abbrev kL (a:Int) (b:Int) (c:List Int) (d:Int) (x:List (Nat×AV)):List (Nat×AV):=(106,.i a)::(107,.i b)::(135,vl encI c)::(136,.i d)::x
abbrev kM {α0:Type} (a:List α0) (b:List Int) (c:Int) (x:List (Nat×AV)):List (Nat×AV):=(4,.slice 5 0 a.length a.length 1)::(10,vl encI b)::(11,.i c)::x
abbrev kN (a:List Int) (b:Int) (c:Int):List (Nat×AV):=[(23,vl encI a),(24,.i b),(25,.i c)]
abbrev kO (a:List Int) (x:List (Nat×AV)):List (Nat×AV):=(0,vl encI a)::x
abbrev kP {α0:Type} (a:List α0) (x:List (Nat×AV)):List (Nat×AV):=(3,.slice 0 0 a.length a.length 1)::x
abbrev kQ {α0:Type} (a:List α0) (x:List Blk):List Blk:= .cells [.slice 0 0 a.length a.length 1]::x
abbrev kR (a:Int) (b:Int):List Blk:=[.cells [.i a,.i b]]
abbrev kS (a:Int) (b:Int) (x:List (Nat×AV)):List (Nat×AV):=(106,.i a)::(107,.i b)::x
abbrev kT (a:Int) (b:Int):List (Nat×AV):=[(9,.i a),(10,.i b)]
abbrev kU (a:List Int) (x:List (Nat×AV)):List (Nat×AV):=(1,vl encI a)::x
abbrev kV:List Blk:=[.cells (([]:List Int).flatMap encI.c)]
abbrev kW (a:Int) (b:List Int) (c:Int) (x:List (Nat×AV)):List (Nat×AV):=(0,.i a)::(23,vl encI b)::(239,.i c)::x
abbrev kX (a:List Int):List (Nat×AV):=[(15,vl encI a),(105,.bool true)]
abbrev kY {α0:Type} (a:List α0) (x:List (Nat×AV)):List (Nat×AV):=(19,.gslice 1 a.length 1)::x
abbrev kZ {α0:Type} (a:List α0) (x:List (Nat×AV)):List (Nat×AV):=(3,.gslice 0 a.length 1)::x
abbrev kAA {α1:Type} (a:List Int) (b:List α1) (x:List (Nat×AV)):List (Nat×AV):=(15,vl encI a)::(17,.gslice 0 b.length 1)::x
abbrev kAB (a:Int) (x:List Blk):List Blk:= .dead:: .cells [.i a]::x
abbrev kAC {α0:Type} (a:List α0) (b:Int) (x:List (Nat×AV)):List (Nat×AV):=(3,.oslice 1 a.length 1)::(4,.i b)::x
abbrev kAD:List (Nat×AV):=[(6,.bool false)]
abbrev kAE:List (Nat×AV):=[(5,.ptr 1 0),(7,.ptr 3 0)]
abbrev kAF (x:List (Nat×AV)):List (Nat×AV):=(3,.nilslice)::x
theorem fol:Tryz.prog.follows .mixedOrders=true:=by kernel_rfl
theorem ze:SlT ZT 22 3 1 8:=⟨by kernel_rfl,by kernel_rfl,by kernel_rfl,by kernel_rfl⟩
theorem ce3:CeT ZT 3:=⟨by kernel_rfl,by kernel_rfl⟩
theorem sl73:SlT ZT 73 25 1 8:=⟨by kernel_rfl,by kernel_rfl,by kernel_rfl,by kernel_rfl⟩
theorem ce25:CeT ZT 25:=⟨by kernel_rfl,by kernel_rfl⟩
theorem vD:SlT ZT 28 22 1 24:=⟨by kernel_rfl,by kernel_rfl,by kernel_rfl,by kernel_rfl⟩
theorem yF:CeT ZT 22:=⟨by kernel_rfl,by kernel_rfl⟩
theorem it3:Tryz.prog.underlying 3=some (.int .i64):=by kernel_rfl
noncomputable abbrev qb:Code:=(Tryz.f27.body.getD .skip).x2.x2.x1.x2.x1
def vJ (n:Int) (c:Int):Option Bool:=
 (if(!decide (c=0))=true then
 if c>(w64 (0-n))then
 some (decide (c<n))
 else
 some false
 else
 some false:Option Bool).bind fun a=>
 some a
theorem qbO (n:Int) (c:Int) {res:Bool} (h:vJ n c=some res):qd ZT (.fn 28) [.i n,.i c] [] (.bool res) []:=by
 unfold vJ at h
 refine Uc Tryz.func28 rfl rfl (m:=18) rfl (rs:=[.tmp 4]) rfl (l:=[(0,.i n),(1,.i c)]) rfl ?_
 refine sh fol [(0,.i n),(1,.i c)] ?_
 refine sq ?_
 obtain⟨e,a,h⟩:=bnd h
 refine Goes.cut (s':=(ofG 18 [(4,.bool e)],[])) ?_ ?_
 ·rcases wyB a with⟨b,a⟩|⟨b,a⟩
  ·rcases wyD a with⟨d,a⟩|⟨d,a⟩
   ·obtain rfl:=si a
    exact tr fol [2,8] [(4,.bool (decide (c<n)))] (ac (gw b) (ac (gw d) az))
   obtain rfl:=si a
   exact tr fol [2,8] [(4,.bool false)] (ac (gw b) (ac (gw d) az))
  obtain rfl:=si a
  exact tr fol [2] [(4,.bool false)] (ac (gw b) az)
 refine Goes.ret ?_
 obtain rfl:=si h
 exact(gw2 [.bool e] (Ua tB))
def zk (n:Int) (w:List Int):Nat->Int->Option (Unit⊕Int)
 |0,_=>none
 |K+1,a=>
  if a<(w.length:Int)then
  (idx w a).bind fun b=>
  (vJ n b).bind fun c=>
  if(!c)=true then
  some (.inr 3)
  else
  zk n w K (w64 (a+1))
  else
  some (.inl ())
def jD (N:Nat) (n:Int) (w:List Int):Option Int:=
 (if n<1 then
 some true
 else
 some (decide (n>12)):Option Bool).bind fun b=>
 if b=true then
 some 3
 else
 if(w.length:Int)>200 then
 some 5
 else
 (zk n w N 0).bind (fun
 |(.inl ())=>
 some 0
 |(.inr a)=>
 some a)
theorem qbb (N:Nat) (n:Int) (w:List Int) {res:Int} (h:jD N n w=some res):qd ZT (.fn 15) [.i n,vl encI w] [] (.i res) []:=by
 unfold jD at h
 refine Uc Tryz.func15 rfl rfl (m:=28) rfl (rs:=[.tmp 4]) rfl (l:=(kE n w [])) rfl ?_
 refine sh fol (kE n w []) ?_
 refine sq ?_
 refine sq ?_
 obtain⟨p,a,h⟩:=bnd h
 refine Goes.cut (s':=(ofG 28 (kE n w [(11,.bool p)]),[])) ?_ ?_
 ·rcases wyD a with⟨e,a⟩|⟨e,a⟩
  ·obtain rfl:=si a
   exact tr fol [2] (kE n w [(11,.bool true)]) (ac (gw e) az)
  obtain rfl:=si a
  exact tr fol [2] (kE n w [(11,.bool (decide (n>12)))]) (ac (gw e) az)
 refine ihB h (fun q h=>?_) (fun q h=>?_)
 ·refine sh fol [(4,.i 3)] ?_
  refine Goes.ret ?_
  obtain rfl:=si h
  exact(gw2 [.i 3] (Ua tI))
 refine Goes.skip ?_
 refine sq ?_
 refine sh fol (kE n w [(14,.bool (decide ((w.length:Int)>200)))]) ?_
 refine ihD h (fun r h=>?_) (fun r h=>?_)
 ·refine sh fol [(4,.i 5)] ?_
  refine Goes.ret ?_
  obtain rfl:=si h
  exact(gw2 [.i 5] (Ua tI))
 refine Goes.skip ?_
 refine sq ?_
 refine sh fol (kE n w [(5,.i 0)]) ?_
 refine Goes.block ?_
 obtain⟨f,g7,h⟩:=bnd h
 refine Goes.imp (Q:=fun x s'=>(x= .exit 0/\(.inl ())=f/\Sub s' (ofG 28 [],[]))\/(x= .ret/\ ∃o,(.inr o)=f/\jB ZT [.tmp 4] (.i o) .ret s')) ?_ ?_
 ·refine Ub (fun M s=> ∃(c:Int),s=(ofG 28 (kE n w [(5,.i c)]),[])/\zk n w M c=some f) ?_ (m:=N) ⟨_,rfl,g7⟩
  rintro M s ⟨c,rfl,g7⟩
  cases M with
  |zero=>simp only[zk]at g7;cases g7
  |succ M=>
   rw[zk]at g7
   refine sq ?_
   refine sh fol (kE n w [(5,.i c),(18,.bool (decide (c<(w.length:Int))))]) ?_
   refine ihD g7 (fun t g7=>?_) (fun t g7=>?_)
   ·refine Goes.skip ?_
    refine sq (Goes.block ?_)
    obtain⟨g,b,g7⟩:=bnd g7
    obtain⟨j,d,g7⟩:=bnd g7
    refine sq (gr fol [3,4,5] (kE n w [(5,.i c),(27,.bool (!j))]) (ac (iv ze encI b) (ac (lv 0 ce3 encI b rfl) (ac (cv (qbO n g d)) az))) ?_)
    refine ihB g7 (fun k g7=>?_) (fun k g7=>?_)
    ·refine sh fol [(4,.i 3)] ?_
     refine Goes.ret ?_
     obtain rfl:=si g7
     exact Or.inr (⟨rfl,_,rfl,(gw2 [.i 3] (Ua tI))⟩)
    refine Goes.skip ?_
    refine gh fol (kE n w [(5,.i (w64 (c+1)))]) ?_
    exact⟨M,(ofG 28 (kE n w [(5,.i (w64 (c+1)))]),[]),Nat.lt_succ_self _,(Sub.refl _),_,rfl,g7⟩
   refine Goes.exit ?_
   obtain rfl:=si g7
   exact Or.inl (⟨rfl,rfl,(Sub.keep [] rfl rfl)⟩)
 rintro x s' (⟨rfl,rfl,hsub⟩|⟨rfl,u,rfl,hret⟩)
 ·try dsimp only at h
  refine Goes.sub hsub ?_
  refine sh fol [(4,.i 0)] ?_
  refine Goes.ret ?_
  obtain rfl:=si h
  exact(gw2 [.i 0] (Ua tI))
 try dsimp only at h
 obtain rfl:=si h
 exact hret
def yL (N:Nat) (n:Int) (w:List Int) (strands:Int) (letters:Int):Option Bool:=
 (if n<=strands then
 if(w.length:Int)<=letters then
 (jD N n w).bind fun a=>
 some (decide (a=0))
 else
 some false
 else
 some false:Option Bool).bind fun b=>
 some b
theorem xJ (N:Nat) (n:Int) (w:List Int) (strands:Int) (letters:Int) {res:Bool} (h:yL N n w strands letters=some res):qd ZT (.fn 4) [.i n,vl encI w,.i strands,.i letters] [] (.bool res) []:=by
 unfold yL at h
 refine Uc Tryz.func4 rfl rfl (m:=24) rfl (rs:=[.tmp 8]) rfl (l:=(kE n w [(2,.i strands),(3,.i letters)])) rfl ?_
 refine sh fol (kE n w [(2,.i strands),(3,.i letters)]) ?_
 refine sq ?_
 obtain⟨e,a,h⟩:=bnd h
 refine Goes.cut (s':=(ofG 24 [(8,.bool e)],[])) ?_ ?_
 ·rcases wyD a with⟨c,a⟩|⟨c,a⟩
  ·rcases wyD a with⟨d,a⟩|⟨d,a⟩
   ·obtain⟨f,b,a⟩:=bnd a
    obtain rfl:=si a
    exact tr fol [3,9,12] [(8,.bool (decide (f=0)))] (ac (gw c) (ac (gw d) (ac (cv (qbb N n w b)) az)))
   obtain rfl:=si a
   exact tr fol [3,9] [(8,.bool false)] (ac (gw c) (ac (gw d) az))
  obtain rfl:=si a
  exact tr fol [3] [(8,.bool false)] (ac (gw c) az)
 refine Goes.ret ?_
 obtain rfl:=si h
 exact(gw2 [.bool e] (Ua tB))
def zM (l:List Int):Nat->Int->Option (Unit⊕Int)
 |0,_=>none
 |K+1,a=>
  if a<(l.length:Int)then
  (idx l a).bind fun b=>
  if(!decide (b=0))=true then
  some (.inr b)
  else
  zM l K (w64 (a+1))
  else
  some (.inl ())
def jO (N:Nat) (l:List Int):Option Int:=
 (zM l N 0).bind (fun
 |(.inl ())=>
 some 0
 |(.inr a)=>
 some a)
theorem yT (N:Nat) (l:List Int) {res:Int} (h:jO N l=some res):qd ZT (.fn 23) [vl encI l] [] (.i res) []:=by
 unfold jO at h
 refine Uc Tryz.func23 rfl rfl (m:=15) rfl (rs:=[.tmp 2]) rfl (l:=(kO l [])) rfl ?_
 refine sh fol (kO l []) ?_
 refine sq ?_
 refine sh fol [(5,vl encI l),(6,.i (l.length:Int)),(7,.i 0)] ?_
 refine Goes.block ?_
 obtain⟨d,g2,h⟩:=bnd h
 refine Goes.imp (Q:=fun x s'=>(x= .exit 0/\(.inl ())=d/\Sub s' (ofG 15 [],[]))\/(x= .ret/\ ∃e,(.inr e)=d/\jB ZT [.tmp 2] (.i e) .ret s')) ?_ ?_
 ·refine Ub (fun M s=> ∃(a:Int),s=(ofG 15 [(5,vl encI l),(6,.i (l.length:Int)),(7,.i a)],[])/\zM l M a=some d) ?_ (m:=N) ⟨_,rfl,g2⟩
  rintro M s ⟨a,rfl,g2⟩
  cases M with
  |zero=>simp only[zM]at g2;cases g2
  |succ M=>
   rw[zM]at g2
   refine sh fol [(5,vl encI l),(6,.i (l.length:Int)),(7,.i a),(8,.bool (decide (a<(l.length:Int))))] ?_
   refine sq ?_
   refine ihD g2 (fun f g2=>?_) (fun f g2=>?_)
   ·refine Goes.skip ?_
    refine sq (Goes.block ?_)
    obtain⟨c,b,g2⟩:=bnd g2
    refine sq (gr fol [0,1] [(4,.i c),(5,vl encI l),(6,.i (l.length:Int)),(7,.i a)] (ac (iv sl73 encI b) (ac (lv 0 ce25 encI b rfl) az)) ?_)
    refine sh fol [(4,.i c),(5,vl encI l),(6,.i (l.length:Int)),(7,.i a),(12,.bool (!decide (c=0)))] ?_
    refine ihB g2 (fun g g2=>?_) (fun g g2=>?_)
    ·refine sh fol [(2,.i c)] ?_
     refine Goes.ret ?_
     obtain rfl:=si g2
     exact Or.inr (⟨rfl,_,rfl,(gw2 [.i c] (Ua tI))⟩)
    refine Goes.skip ?_
    refine gh fol [(5,vl encI l),(6,.i (l.length:Int)),(7,.i (w64 (a+1)))] ?_
    exact⟨M,(ofG 15 [(5,vl encI l),(6,.i (l.length:Int)),(7,.i (w64 (a+1)))],[]),Nat.lt_succ_self _,(Sub.refl _),_,rfl,g2⟩
   refine Goes.exit ?_
   obtain rfl:=si g2
   exact Or.inl (⟨rfl,rfl,(Sub.keep [] rfl rfl)⟩)
 rintro x s' (⟨rfl,rfl,hsub⟩|⟨rfl,j,rfl,hret⟩)
 ·try dsimp only at h
  refine Goes.sub hsub ?_
  refine sh fol [(2,.i 0)] ?_
  refine Goes.ret ?_
  obtain rfl:=si h
  exact(gw2 [.i 0] (Ua tI))
 try dsimp only at h
 obtain rfl:=si h
 exact hret
def zI (holds:Bool) (e:Int):Option Int:=
 if holds=true then
 some e
 else
 some 0
theorem jY (holds:Bool) (e:Int) {res:Int} (h:zI holds e=some res):qd ZT (.fn 25) [.bool holds,.i e] [] (.i res) []:=by
 unfold zI at h
 refine Uc Tryz.func25 rfl rfl (m:=7) rfl (rs:=[.tmp 4]) rfl (l:=[(0,.bool holds),(1,.i e)]) rfl ?_
 refine sh fol [(0,.bool holds),(1,.i e)] ?_
 refine sq ?_
 refine sh fol [(1,.i e),(5,.bool holds)] ?_
 refine ihB h (fun a h=>?_) (fun a h=>?_)
 ·refine sh fol [(4,.i e)] ?_
  refine Goes.ret ?_
  obtain rfl:=si h
  exact(gw2 [.i e] (Ua tI))
 refine Goes.skip ?_
 refine sh fol [(4,.i 0)] ?_
 refine Goes.ret ?_
 obtain rfl:=si h
 exact(gw2 [.i 0] (Ua tI))
def jo (n:Int):Option Int:=
 (if n<1 then
 (zI true 3).bind fun a=>
 some a
 else
 (zI (decide (n>12)) 3).bind fun b=>
 some b:Option Int).bind fun c=>
 some c
theorem qae (n:Int) {res:Int} (h:jo n=some res):qd ZT (.fn 41) [.i n] [] (.i res) []:=by
 unfold jo at h
 refine Uc Tryz.func41 rfl rfl (m:=10) rfl (rs:=[.tmp 2]) rfl (l:=[(0,.i n)]) rfl ?_
 refine sh fol [(0,.i n)] ?_
 refine sq ?_
 obtain⟨e,a,h⟩:=bnd h
 refine Goes.cut (s':=(ofG 10 [(2,.i e)],[])) ?_ ?_
 ·rcases wyD a with⟨d,a⟩|⟨d,a⟩
  ·obtain⟨f,b,a⟩:=bnd a
   obtain rfl:=si a
   exact tr fol [2,6] [(2,.i f)] (ac (gw d) (ac (cv (jY true 3 b)) az))
  obtain⟨g,c,a⟩:=bnd a
  obtain rfl:=si a
  exact tr fol [2,6] [(2,.i g)] (ac (gw d) (ac (cv (jY (decide (n>12)) 3 c)) az))
 refine Goes.ret ?_
 obtain rfl:=si h
 exact(gw2 [.i e] (Ua tI))
def jZ (n:Int) (letter:Int):Option Bool:=
 (if letter=0 then
 some true
 else
 if letter<=(w64 (0-n))then
 some true
 else
 some (decide (letter>=n)):Option Bool).bind fun a=>
 some a
theorem qbG (n:Int) (letter:Int) {res:Bool} (h:jZ n letter=some res):qd ZT (.fn 44) [.i n,.i letter] [] (.bool res) []:=by
 unfold jZ at h
 refine Uc Tryz.func44 rfl rfl (m:=18) rfl (rs:=[.tmp 4]) rfl (l:=[(0,.i n),(1,.i letter)]) rfl ?_
 refine sh fol [(0,.i n),(1,.i letter)] ?_
 refine sq ?_
 obtain⟨d,a,h⟩:=bnd h
 refine Goes.cut (s':=(ofG 18 [(4,.bool d)],[])) ?_ ?_
 ·rcases wyD a with⟨b,a⟩|⟨b,a⟩
  ·obtain rfl:=si a
   exact tr fol [2] [(4,.bool true)] (ac (gw b) az)
  rcases wyD a with⟨c,a⟩|⟨c,a⟩
  ·obtain rfl:=si a
   exact tr fol [2,8] [(4,.bool true)] (ac (gw b) (ac (gw c) az))
  obtain rfl:=si a
  exact tr fol [2,8] [(4,.bool (decide (letter>=n)))] (ac (gw b) (ac (gw c) az))
 refine Goes.ret ?_
 obtain rfl:=si h
 exact(gw2 [.bool d] (Ua tB))
def zX (a:Int) (b:Int):Option Bool:=
 (jZ b a).bind fun c=>
 some c
theorem xg (a:Int) (b:Int) {res:Bool} (h:zX a b=some res):qd ZT (.fn 43) [.i a,.fptr [.i b] 0] [] (.bool res) []:=by
 unfold zX at h
 refine Uc Tryz.func43 rfl rfl (m:=7) rfl (rs:=[.tmp 3]) rfl (l:=[(0,.i a),(1,.fptr [.i b] 0)]) rfl ?_
 refine sh fol [(0,.i a),(1,.fptr [.i b] 0)] ?_
 obtain⟨d,c,h⟩:=bnd h
 refine sq (gr fol [2] [(3,.bool d)] (ac (cv (qbG b a c)) az) ?_)
 refine Goes.ret ?_
 obtain rfl:=si h
 exact(gw2 [.bool d] (Ua tB))
def qo (a:List Int) (b:Int):Nat->Int->Option (Unit⊕Int)
 |0,_=>none
 |K+1,c=>
  if c<(a.length:Int)then
  (idx a c).bind fun d=>
  (zX d b).bind fun e=>
  if e=true then
  some (.inr c)
  else
  qo a b K (w64 (c+1))
  else
  some (.inl ())
def zO (N:Nat) (a:List Int) (b:Int):Option Int:=
 (qo a b N 0).bind (fun
 |(.inl ())=>
 some (-1)
 |(.inr c)=>
 some c)
theorem yO (N:Nat) (a:List Int) (b:Int) {res:Int} (h:zO N a b=some res):qd ZT (.fn 72) [vl encI a,.func (.func 43) [] [.fptr [.i b] 0]] [] (.i res) []:=by
 unfold zO at h
 refine Uc Tryz.func72 rfl rfl (m:=19) rfl (rs:=[.tmp 4]) rfl (l:=(kO a [(1,.func (.func 43) [] [.fptr [.i b] 0])])) rfl ?_
 refine sh fol (kO a [(1,.func (.func 43) [] [.fptr [.i b] 0])]) ?_
 refine sq ?_
 refine sh fol (kO a [(1,.func (.func 43) [] [.fptr [.i b] 0]),(7,.i (a.length:Int)),(8,.i 0)]) ?_
 refine Goes.block ?_
 obtain⟨f,g2,h⟩:=bnd h
 refine Goes.imp (Q:=fun x s'=>(x= .exit 0/\(.inl ())=f/\Sub s' (ofG 19 [],[]))\/(x= .ret/\ ∃j,(.inr j)=f/\jB ZT [.tmp 4] (.i j) .ret s')) ?_ ?_
 ·refine Ub (fun M s=> ∃(c:Int),s=(ofG 19 (kO a [(1,.func (.func 43) [] [.fptr [.i b] 0]),(7,.i (a.length:Int)),(8,.i c)]),[])/\qo a b M c=some f) ?_ (m:=N) ⟨_,rfl,g2⟩
  rintro M s ⟨c,rfl,g2⟩
  cases M with
  |zero=>simp only[qo]at g2;cases g2
  |succ M=>
   rw[qo]at g2
   refine sh fol (kO a [(1,.func (.func 43) [] [.fptr [.i b] 0]),(7,.i (a.length:Int)),(8,.i c),(9,.bool (decide (c<(a.length:Int))))]) ?_
   refine sq ?_
   refine ihD g2 (fun n g2=>?_) (fun n g2=>?_)
   ·refine Goes.skip ?_
    refine sq (Goes.block ?_)
    refine sh fol (kO a [(1,.func (.func 43) [] [.fptr [.i b] 0]),(5,.i c),(7,.i (a.length:Int)),(8,.i c)]) ?_
    obtain⟨g,d,g2⟩:=bnd g2
    obtain⟨k,e,g2⟩:=bnd g2
    refine sq (gr fol [3,4,5] (kO a [(1,.func (.func 43) [] [.fptr [.i b] 0]),(5,.i c),(7,.i (a.length:Int)),(8,.i c),(16,.bool k)]) (ac (iv ze encI d) (ac (lv 0 ce3 encI d rfl) (ac (hs (.call 43 [.i g,.fptr [.i b] 0] [] [] [.i g,.fptr [.i b] 0] (.bool k)) (qhz (FzL.cons (Ug tI) (FzL.cons (Ug (Still.fptr (AllST.cons tI AllST.nil))) FzL.nil)) (xg g b e) tB)) az))) ?_)
    refine ihB g2 (fun o g2=>?_) (fun o g2=>?_)
    ·refine sh fol [(4,.i c)] ?_
     refine Goes.ret ?_
     obtain rfl:=si g2
     exact Or.inr (⟨rfl,_,rfl,(gw2 [.i c] (Ua tI))⟩)
    refine Goes.skip ?_
    refine gh fol (kO a [(1,.func (.func 43) [] [.fptr [.i b] 0]),(7,.i (a.length:Int)),(8,.i (w64 (c+1)))]) ?_
    exact⟨M,(ofG 19 (kO a [(1,.func (.func 43) [] [.fptr [.i b] 0]),(7,.i (a.length:Int)),(8,.i (w64 (c+1)))]),[]),Nat.lt_succ_self _,(Sub.refl _),_,rfl,g2⟩
   refine Goes.exit ?_
   obtain rfl:=si g2
   exact Or.inl (⟨rfl,rfl,(Sub.keep [] rfl rfl)⟩)
 rintro x s' (⟨rfl,rfl,hsub⟩|⟨rfl,p,rfl,hret⟩)
 ·try dsimp only at h
  refine Goes.sub hsub ?_
  refine sh fol [(4,.i (-1))] ?_
  refine Goes.ret ?_
  obtain rfl:=si h
  exact(gw2 [.i (-1)] (Ua tI))
 try dsimp only at h
 obtain rfl:=si h
 exact hret
def zw (N:Nat) (a:List Int) (b:Int):Option Bool:=
 (zO N a b).bind fun c=>
 some (decide (c>=0))
theorem yg (N:Nat) (a:List Int) (b:Int) {res:Bool} (h:zw N a b=some res):qd ZT (.fn 42) [vl encI a,.func (.func 43) [] [.fptr [.i b] 0]] [] (.bool res) []:=by
 unfold zw at h
 refine Uc Tryz.func42 rfl rfl (m:=9) rfl (rs:=[.tmp 4]) rfl (l:=(kO a [(1,.func (.func 43) [] [.fptr [.i b] 0])])) rfl ?_
 refine sh fol (kO a [(1,.func (.func 43) [] [.fptr [.i b] 0])]) ?_
 obtain⟨d,c,h⟩:=bnd h
 refine sq (gr fol [2] [(4,.bool (decide (d>=0)))] (ac (hs (.call 72 [vl encI a,.func (.func 43) [] [.fptr [.i b] 0]] [] [] [vl encI a,.func (.func 43) [] [.fptr [.i b] 0]] (.i d)) (qhz (FzL.cons (Ug (ko encI _ (nl rfl))) (FzL.cons (Fz.func FzL.nil (FzL.cons (Ug (Still.fptr (AllST.cons tI AllST.nil))) FzL.nil)) FzL.nil)) (yO N a b c) tI)) az) ?_)
 refine Goes.ret ?_
 obtain rfl:=si h
 exact(gw2 [.bool (decide (d>=0))] (Ua tB))
def zx (N:Nat) (n:Int) (w:List Int):Option Int:=
 (jo n).bind fun b=>
 (zI (decide ((w.length:Int)>200)) 5).bind fun c=>
 (jO N ([b,c]:List Int)).bind fun a=>
 if(!decide (a=0))=true then
 some a
 else
 (zw N w n).bind fun d=>
 (zI d 3).bind fun e=>
 some e
theorem jA (N:Nat) (n:Int) (w:List Int) {res:Int} (h:zx N n w=some res):qd ZT (.fn 24) [.i n,vl encI w] [] (.i res) []:=by
 unfold zx at h
 refine Uc Tryz.func24 rfl rfl (m:=21) rfl (rs:=[.tmp 4]) rfl (l:=(kE n w [])) rfl ?_
 refine sg fol (kU w [(2,.ptr 0 0)]) [.cells [.i n]] ?_
 refine sq ?_
 obtain⟨b,c,h⟩:=bnd h
 obtain⟨d,e,h⟩:=bnd h
 obtain⟨a,f,h⟩:=bnd h
 refine sq (gq fol [1,5,7] (kU w [(2,.ptr 0 0),(5,.i a)]) (.cells [.i n]::(kR b d)) (ac (cv (qae n c)) (ac (cv (jY (decide ((w.length:Int)>200)) 5 e)) (ac (hs (.call 23 [.slice 1 0 2 2 1] (.cells [.i n]::(kR b d)) [1] [vl encI ([b,d]:List Int)] (.i a)) (qdK (FzL.cons (Fz.lit rfl rfl (FzL.still (AllST.cons tI (AllST.cons tI AllST.nil)))) FzL.nil) (yT N ([b,d]:List Int) f) tI rfl)) az))) ?_)
 refine sh fol (kU w [(2,.ptr 0 0),(5,.i a),(15,.bool (!decide (a=0)))]) ?_
 refine ihB h (fun p h=>?_) (fun p h=>?_)
 ·refine sh fol [(4,.i a)] ?_
  refine Goes.ret ?_
  obtain rfl:=si h
  exact(gw2 [.i a] (Ua tI))
 refine Goes.skip ?_
 obtain⟨k,g,h⟩:=bnd h
 obtain⟨o,j,h⟩:=bnd h
 refine sq (gr fol [2,3] [(4,.i o)] (ac (hs (.call 42 [vl encI w,.func (.func 43) [] [.ptr 0 0]] (.cells [.i n]::(kR b d)) [0] [vl encI w,.func (.func 43) [] [.fptr [.i n] 0]] (.bool k)) (qdK (FzL.cons (Ug (ko encI _ (nl rfl))) (FzL.cons (Fz.func FzL.nil (FzL.cons (Fz.ptr rfl rfl (FzL.cons (Ug tI) FzL.nil)) FzL.nil)) FzL.nil)) (yg N w n g) tB rfl)) (ac (cv (jY k 3 j)) az)) ?_)
 refine Goes.ret ?_
 obtain rfl:=si h
 exact(gw2 [.i o] (Ua tI))
def j5 (N:Nat) (n:Int) (a:List Int) (b:List Int):Option Int:=
 (zx N n a).bind fun c=>
 (zx N n b).bind fun d=>
 (jO N ([c,d]:List Int)).bind fun e=>
 some e
theorem qa1 (N:Nat) (n:Int) (a:List Int) (b:List Int) {res:Int} (h:j5 N n a b=some res):qd ZT (.fn 20) [.i n,vl encI a,vl encI b] [] (.i res) []:=by
 unfold j5 at h
 refine Uc Tryz.func20 rfl rfl (m:=15) rfl (rs:=[.tmp 6]) rfl (l:=(kE n a [(2,vl encI b)])) rfl ?_
 refine sh fol (kE n a [(2,vl encI b)]) ?_
 obtain⟨f,c,h⟩:=bnd h
 obtain⟨g,d,h⟩:=bnd h
 obtain⟨j,e,h⟩:=bnd h
 refine sq (gq fol [2,5,7] [(6,.i j)] (kR f g) (ac (cv (jA N n a c)) (ac (cv (jA N n b d)) (ac (hs (.call 23 [.slice 0 0 2 2 1] (kR f g) [0] [vl encI ([f,g]:List Int)] (.i j)) (qdK (FzL.cons (Fz.lit rfl rfl (FzL.still (AllST.cons tI (AllST.cons tI AllST.nil)))) FzL.nil) (yT N ([f,g]:List Int) e) tI rfl)) az))) ?_)
 refine Goes.ret ?_
 obtain rfl:=si h
 exact(gw2 [.i j] (Ua tI))
def jX (w:List Int):Option ((List Int)×Int):=
 if(w.length:Int)>200 then
 some ([],5)
 else
 some (w,0)
theorem qbx (w:List Int) {res:(List Int)×Int} (h:jX w=some res):qd ZT (.fn 21) [vl encI w] [] (.tuple [vl encI res.1,.i res.2]) []:=by
 unfold jX at h
 refine Uc Tryz.func21 rfl rfl (m:=8) rfl (rs:=[.tmp 2,.tmp 3]) rfl (l:=(kO w [])) rfl ?_
 refine sh fol (kO w []) ?_
 refine sq ?_
 refine sh fol (kO w [(6,.bool (decide ((w.length:Int)>200)))]) ?_
 refine ihD h (fun a h=>?_) (fun a h=>?_)
 ·refine sh fol [(2,.nilslice),(3,.i 5)] ?_
  refine Goes.ret ?_
  obtain rfl:=si h
  exact(gw2 [.nilslice,.i 5] (FzW.tuple (vz.cons (FzW.nilv (E:=encI)) (vz.cons (Ua tI) vz.nil))))
 refine Goes.skip ?_
 refine sh fol [(2,vl encI w),(3,.i 0)] ?_
 refine Goes.ret ?_
 obtain rfl:=si h
 exact(gw2 [vl encI w,.i 0] (FzW.tuple (vz.cons (Ua (ko encI _ (nl rfl))) (vz.cons (Ua tI) vz.nil))))
def zg (a:Int):Option (Option (List Int)):=
 ((if a<0 then
 none
 else
 some ():Option Unit)).bind fun _=>
 ((if(w64 (a-(w64 (0-0))))>0 then
 (cut ([]:List Int) 0 0).bind fun e=>
 (qca 8 (w64 (a-(w64 (0-0)))) 0).bind fun b=>
 (cut b 0 0).bind fun c=>
 some (some c)
 else
 some (none:Option (List Int)):Option (Option (List Int)))).bind fun d=>
 some d
theorem qag (a:Int) {j:Option (List Int)} (h:zg a=some j):qd ZT (.fn 40) [.nilslice,.i a] [] (hsl 0 1 j) (kG j):=by
 unfold zg at h
 refine Ui Tryz.func40 rfl rfl (m:=27) rfl (rs:=[.tmp 4]) rfl (l:=[(0,.nilslice),(1,.i a)]) rfl ?_
 intro B hB
 refine sh fol [(0,.nilslice),(1,.i a)] ?_
 refine sq ?_
 refine sh fol [(0,.nilslice),(1,.i a),(6,.bool (decide (a<0)))] ?_
 obtain⟨k,g2,h⟩:=bnd h
 refine Goes.imp (Q:=fun x s'=>(x= .normal/\()=k/\Sub s' (ofG 27 [(0,.nilslice),(1,.i a)],[]))) ?_ ?_
 ·refine ihD g2 (fun n g2=>?_) (fun n g2=>?_)
  ·cases g2
  refine Goes.skip ?_
  obtain rfl:=si g2
  exact⟨rfl,rfl,(Sub.keep [0,1] rfl rfl)⟩
 rintro x s' ⟨rfl,rfl,hsub⟩
 refine Goes.sub hsub ?_
 refine sq ?_
 refine sh fol [(0,.nilslice),(1,.i (w64 (a-(w64 (0-0)))))] ?_
 refine sh fol [(0,.nilslice),(1,.i (w64 (a-(w64 (0-0))))),(16,.bool (decide ((w64 (a-(w64 (0-0))))>0)))] ?_
 obtain⟨o,g5,h⟩:=bnd h
 refine Goes.imp (Q:=fun x s'=>(x= .normal/\ ∃c,c=o/\Sub s' (ofG 27 [(0,hsl 0 1 c)],(kG c)))) ?_ ?_
 ·refine ihD g5 (fun p g5=>?_) (fun p g5=>?_)
  ·obtain⟨q,d,g5⟩:=bnd g5
   obtain⟨e,f,g5⟩:=bnd g5
   obtain⟨g,b,g5⟩:=bnd g5
   refine gq fol [3,5,8] [(0,.oslice 0 g.length 1)] (kA e []) (ac (hs (.done (.opt (jJ ZT 22 .nilslice none (some (.i 0)) none)) .nilslice) (qeR (α:=Int) ze none (some 0) d)) (ac (hs (.run [] (zo ZT [22,3] .nilslice (.i (w64 (a-(w64 (0-0)))))) [] (.oslice 0 e.length 1) (kA e []) false) (qgv ze it3 (E:=encI) rfl (z:=0) (by kernel_rfl) f rfl)) (ac (hs (.done (.opt (jJ ZT 22 (.oslice 0 e.length 1) none (some (.i 0)) none)) (.oslice 0 g.length 1)) (qhu ze b)) az))) ?_
   obtain rfl:=si g5
   exact⟨rfl,_,rfl,((show Sub (ofG 27 [(0,.oslice 0 g.length 1)],(kA e [])) (ofG 27 [(0,.oslice 0 g.length 1)],(kA g []))from(Sub.norm [] [some 0] (by rw[hB];rfl) rfl (.keep (.oslice rfl) .nil) (.kb rfl (vB.cut b) .nil))).trans (Sub.norm [] [some 0] (by rw[hB];rfl) rfl (.keep (qJ.hs1 rfl) .nil) (.ks .nil)))⟩
  refine Goes.skip ?_
  obtain rfl:=si g5
  exact⟨rfl,_,rfl,(Sub.norm [] [none] (by rw[hB];rfl) rfl (.keep qJ.hs0 .nil) (.fresh .nil))⟩
 rintro x s' ⟨rfl,c,rfl,hsub⟩
 refine Goes.sub hsub ?_
 refine sh fol [(4,hsl 0 1 c)] ?_
 refine Goes.ret ?_
 obtain rfl:=si h
 exact(gh2 [hsl 0 1 c] (xP.refl _ _))
def qj (slices:List (List Int)):Nat->Int->Int->Option Int
 |0,_,_=>none
 |K+1,a,b=>
  if a<(slices.length:Int)then
  (((idx slices a).bind fun c=>
  if(w64 (b+(c.length:Int)))<0 then
  none
  else
  some (w64 (b+(c.length:Int))):Option Int)).bind fun d=>
  qj slices K (w64 (a+1)) d
  else
  some b
def qf (slices:List (List Int)):Nat->(Option (List Int))->Int->Option (Option (List Int))
 |0,_,_=>none
 |K+1,b,a=>
  if a<(slices.length:Int)then
  (idx slices a).bind fun c=>
  ((match b with
  |none=>
  (match c with
  |[]=>
  some (none:Option (List Int))
  |g::xs20=>
  none)
  |some d=>
  (app 8 d c).bind fun e=>
  some (some e)):Option (Option (List Int))).bind fun f=>
  qf slices K f (w64 (a+1))
  else
  some b
def qV (N:Nat) (slices:List (List Int)):Option (List Int):=
 (qj slices N 0 0).bind fun c=>
 (zg c).bind fun a=>
 (qf slices N a 0).bind fun b=>
 some (hof b)
theorem jQ (N:Nat) (slices:List (List Int)) {res:List Int} (h:qV N slices=some res):qd ZT (.fn 22) [vl (qa encI) slices] [] (vl encI res) []:=by
 unfold qV at h
 refine Uc Tryz.func22 rfl rfl (m:=36) rfl (rs:=[.tmp 2]) rfl (l:=[(0,vl (qa encI) slices)]) rfl ?_
 refine sh fol [(0,vl (qa encI) slices)] ?_
 refine sh fol [(0,vl (qa encI) slices),(3,.i 0)] ?_
 refine sq ?_
 refine sh fol [(0,vl (qa encI) slices),(3,.i 0),(9,vl (qa encI) slices),(10,.i (slices.length:Int)),(11,.i 0)] ?_
 refine Goes.block ?_
 obtain⟨B,g4,h⟩:=bnd h
 refine Goes.imp (Q:=fun x s'=>(x= .exit 0/\ ∃v,v=B/\Sub s' (ofG 36 [(0,vl (qa encI) slices),(3,.i v)],[]))) ?_ ?_
 ·refine Ub (fun M s=> ∃(f:Int) (o:Int),s=(ofG 36 [(0,vl (qa encI) slices),(3,.i o),(9,vl (qa encI) slices),(10,.i (slices.length:Int)),(11,.i f)],[])/\qj slices M f o=some B) ?_ (m:=N) ⟨_,_,rfl,g4⟩
  rintro M s ⟨f,o,rfl,g4⟩
  cases M with
  |zero=>simp only[qj]at g4;cases g4
  |succ M=>
   rw[qj]at g4
   refine sh fol [(0,vl (qa encI) slices),(3,.i o),(9,vl (qa encI) slices),(10,.i (slices.length:Int)),(11,.i f),(12,.bool (decide (f<(slices.length:Int))))] ?_
   refine sq ?_
   refine ihD g4 (fun C g4=>?_) (fun C g4=>?_)
   ·refine Goes.skip ?_
    refine sq ?_
    obtain⟨D,g7,g4⟩:=bnd g4
    refine Goes.imp (Q:=fun x s'=>(x= .normal/\ ∃w,w=D/\Sub s' (ofG 36 [(0,vl (qa encI) slices),(3,.i w),(9,vl (qa encI) slices),(10,.i (slices.length:Int)),(11,.i f)],[]))) ?_ ?_
    ·refine Goes.block ?_
     obtain⟨z,p,g7⟩:=bnd g7
     refine sq (gr fol [0,1] [(0,vl (qa encI) slices),(3,.i o),(5,vl encI z),(9,vl (qa encI) slices),(10,.i (slices.length:Int)),(11,.i f)] (ac (iv vD (qa encI) p) (ac (lv 0 yF (qa encI) p rfl) az)) ?_)
     refine sh fol [(0,vl (qa encI) slices),(3,.i (w64 (o+(z.length:Int)))),(9,vl (qa encI) slices),(10,.i (slices.length:Int)),(11,.i f)] ?_
     refine sh fol [(0,vl (qa encI) slices),(3,.i (w64 (o+(z.length:Int)))),(9,vl (qa encI) slices),(10,.i (slices.length:Int)),(11,.i f),(20,.bool (decide ((w64 (o+(z.length:Int)))<0)))] ?_
     refine ihD g7 (fun F g7=>?_) (fun F g7=>?_)
     ·cases g7
     refine Goes.skip ?_
     obtain rfl:=si g7
     exact⟨rfl,_,rfl,(Sub.keep [0,3,9,10,11] rfl rfl)⟩
    rintro x s' ⟨rfl,w,rfl,hsub⟩
    refine Goes.sub hsub ?_
    refine gh fol [(0,vl (qa encI) slices),(3,.i w),(9,vl (qa encI) slices),(10,.i (slices.length:Int)),(11,.i (w64 (f+1)))] ?_
    exact⟨M,(ofG 36 [(0,vl (qa encI) slices),(3,.i w),(9,vl (qa encI) slices),(10,.i (slices.length:Int)),(11,.i (w64 (f+1)))],[]),Nat.lt_succ_self _,(Sub.refl _),_,_,rfl,g4⟩
   refine Goes.exit ?_
   obtain rfl:=si g4
   exact⟨rfl,_,rfl,(Sub.keep [0,3] rfl rfl)⟩
 rintro x s' ⟨rfl,v,rfl,hsub⟩
 refine Goes.sub hsub ?_
 obtain⟨g,q,h⟩:=bnd h
 refine sq (gq fol [1] [(0,vl (qa encI) slices),(6,hsl 0 1 g)] (kG g) (ac (hs (.callH 40 [.nilslice,.i v] [] [] (hsl 0 1 g) (kG g)) (vI [] [some 0] (qag v q) .nil rfl rfl (.new rfl rfl (.same fa) rfl .nil) (rc (.same (ql.nilslice)) (rc (.same nI) rn)) (.hs rfl) rfl)) az) ?_)
 refine sq ?_
 refine sh fol [(6,hsl 0 1 g),(25,vl (qa encI) slices),(26,.i (slices.length:Int)),(27,.i 0)] ?_
 refine Goes.block ?_
 obtain⟨y,g15,h⟩:=bnd h
 refine Goes.imp (Q:=fun x s'=>(x= .exit 2/\ ∃e,e=y/\Sub s' (ofG 36 [(6,hsl 0 1 e)],(kG e)))) ?_ ?_
 ·refine Ub (fun M s=> ∃(d:Option (List Int)) (b:Int),s=(ofG 36 [(6,hsl 0 1 d),(25,vl (qa encI) slices),(26,.i (slices.length:Int)),(27,.i b)],(kG d))/\qf slices M d b=some y) ?_ (m:=N) ⟨_,_,rfl,g15⟩
  rintro M s ⟨d,b,rfl,g15⟩
  cases M with
  |zero=>simp only[qf]at g15;cases g15
  |succ M=>
   rw[qf]at g15
   refine sh fol [(6,hsl 0 1 d),(25,vl (qa encI) slices),(26,.i (slices.length:Int)),(27,.i b),(28,.bool (decide (b<(slices.length:Int))))] ?_
   refine sq ?_
   refine ihD g15 (fun A g15=>?_) (fun A g15=>?_)
   ·refine Goes.skip ?_
    refine sq (Goes.block ?_)
    obtain⟨r,j,g15⟩:=bnd g15
    refine sq (gr fol [0,1] [(6,hsl 0 1 d),(8,vl encI r),(25,vl (qa encI) slices),(26,.i (slices.length:Int)),(27,.i b)] (ac (iv vD (qa encI) j) (ac (lv 0 yF (qa encI) j rfl) az)) ?_)
    obtain⟨k,a,g15⟩:=bnd g15
    refine Uh (s':=(ofG 36 [(6,hsl 0 1 k),(25,vl (qa encI) slices),(26,.i (slices.length:Int)),(27,.i b)],(kG k))) ?_ ?_
    ·rcases d with _|t
     ·try dsimp only at a
      rcases r with _|⟨G,xs20⟩
      ·try dsimp only at a
       obtain rfl:=si a
       exact qG.sub (qG.rq fol [2] [(6,.nilslice),(25,vl (qa encI) slices),(26,.i (slices.length:Int)),(27,.i b)] [.cells ((hof (none:Option (List Int))).flatMap encI.c)] (ac (hs (.run [] (zo ZT [22,22] .nilslice (vl encI ([]:List Int))) [.cells ((hof (none:Option (List Int))).flatMap encI.c)] .nilslice [.cells ((hof (none:Option (List Int))).flatMap encI.c)] false) (qhG ze)) az)) (Sub.norm [] [none] rfl rfl (.keep qJ.hs0 (.keep (.same (qc (qa encI) _)) (.keep (.same nI) (.keep (.same nI) .nil)))) (.fresh .nil))
      try dsimp only at a
      cases a
     try dsimp only at a
     obtain⟨n,u,a⟩:=bnd a
     obtain rfl:=si a
     exact qG.sub (qG.rq fol [2] [(6,.oslice 1 n.length 1),(25,vl (qa encI) slices),(26,.i (slices.length:Int)),(27,.i b)] (.dead::(kA n [])) (ac (hs (.run [0] (zo ZT [22,22] (.oslice 0 t.length 1) (vl encI r)) (kA t []) (.oslice 1 n.length 1) (.dead::(kA n [])) true) (vX ze (E:=encI) rfl (qde (E:=encI) rfl _) (qe8 (E:=encI) (l:=t) rfl rfl rfl u rfl))) az)) (Sub.norm [] [some 1] rfl rfl (.keep (qJ.hs1 rfl) (.keep (.same (qc (qa encI) _)) (.keep (.same nI) (.keep (.same nI) .nil)))) (.ks .nil))
    intro _ hsub
    refine Goes.sub hsub ?_
    refine gh fol [(6,hsl 0 1 k),(25,vl (qa encI) slices),(26,.i (slices.length:Int)),(27,.i (w64 (b+1)))] ?_
    exact⟨M,(ofG 36 [(6,hsl 0 1 k),(25,vl (qa encI) slices),(26,.i (slices.length:Int)),(27,.i (w64 (b+1)))],(kG k)),Nat.lt_succ_self _,(Sub.refl _),_,_,rfl,g15⟩
   refine Goes.exit ?_
   obtain rfl:=si g15
   exact⟨rfl,_,rfl,(Sub.keep [6] rfl rfl)⟩
 rintro x s' ⟨rfl,e,rfl,hsub⟩
 refine Goes.sub hsub ?_
 refine sh fol [(2,hsl 0 1 e)] ?_
 refine Goes.ret ?_
 obtain rfl:=si h
 exact(gw2 [hsl 0 1 e] (FzW.hs (E:=encI) rfl rfl (nl rfl)))
def vF (N:Nat) (n:Int) (a:List Int) (b:List Int):Option ((List Int)×Int):=
 (j5 N n a b).bind fun c=>
 if(!decide (c=0))=true then
 some ([],c)
 else
 (qV N ([a,b]:List (List Int))).bind fun e=>
 (jX e).bind fun d=>
 some (d.1,d.2)
theorem qbM (N:Nat) (n:Int) (a:List Int) (b:List Int) {res:(List Int)×Int} (h:vF N n a b=some res):qd ZT (.fn 6) [.i n,vl encI a,vl encI b] [] (.tuple [vl encI res.1,.i res.2]) []:=by
 unfold vF at h
 refine Uc Tryz.func6 rfl rfl (m:=23) rfl (rs:=[.tmp 6,.tmp 7]) rfl (l:=(kE n a [(2,vl encI b)])) rfl ?_
 refine sh fol (kE n a [(2,vl encI b)]) ?_
 refine sq ?_
 obtain⟨d,e,h⟩:=bnd h
 refine sq (gr fol [3] (kU a [(2,vl encI b),(8,.i d)]) (ac (cv (qa1 N n a b e)) az) ?_)
 refine sh fol (kU a [(2,vl encI b),(8,.i d),(14,.bool (!decide (d=0)))]) ?_
 refine ihB h (fun k h=>?_) (fun k h=>?_)
 ·refine sh fol [(6,.nilslice),(7,.i d)] ?_
  refine Goes.ret ?_
  obtain rfl:=si h
  exact(gw2 [.nilslice,.i d] (FzW.tuple (vz.cons (FzW.nilv (E:=encI)) (vz.cons (Ua tI) vz.nil))))
 refine Goes.skip ?_
 obtain⟨j,f,h⟩:=bnd h
 obtain⟨c,g,h⟩:=bnd h
 refine sq (gq fol [3,4] [(6,vl encI c.1),(7,.i c.2)] [.frozen [vl encI a,vl encI b]] (ac (hs (.callF 22 [.slice 0 0 2 2 1] [.cells [vl encI a,vl encI b]] [0] [vl (qa encI) ([a,b]:List (List Int))] (vl encI j)) (qds (FzL.cons (Fz.lit rfl rfl (FzL.still (AllST.cons (ko encI _ (nl rfl)) (AllST.cons (ko encI _ (nl rfl)) AllST.nil)))) FzL.nil) (jQ N ([a,b]:List (List Int)) f) (ko encI _ (nl rfl)))) (ac (cv (qbx j g)) az)) ?_)
 refine Goes.sub (show Sub (ofG 23 [(6,vl encI c.1),(7,.i c.2)],[.frozen [vl encI a,vl encI b]]) (ofG 23 [(6,vl encI c.1),(7,.i c.2)],[])from(Sub.norm [] [] rfl rfl (.keep (.same (qc encI _)) (.keep (.same nI) .nil)) .nil)) ?_
 refine Goes.ret ?_
 obtain rfl:=si h
 exact(gw2 [vl encI c.1,.i c.2] (FzW.tuple (vz.cons (Ua (ko encI _ (nl rfl))) (vz.cons (Ua tI) vz.nil))))
def vY (a:Int):Option Int:=
 some (w64 (0-a))
theorem qby (a:Int) {res:Int} (h:vY a=some res):qd ZT (.fn 51) [.i a] [] (.i res) []:=by
 unfold vY at h
 refine Uc Tryz.func51 rfl rfl (m:=5) rfl (rs:=[.tmp 2]) rfl (l:=[(0,.i a)]) rfl ?_
 refine sh fol [(0,.i a)] ?_
 refine sh fol [(2,.i (w64 (0-a)))] ?_
 refine Goes.ret ?_
 obtain rfl:=si h
 exact(gw2 [.i (w64 (0-a))] (Ua tI))
def yI (n:Int):Option Int:=
 some (if(w64 (0-n))>n then(w64 (0-n))else n)
theorem qbd (n:Int) {res:Int} (h:yI n=some res):qd ZT (.fn 45) [.i n] [] (.i res) []:=by
 unfold yI at h
 refine Uc Tryz.func45 rfl rfl (m:=7) rfl (rs:=[.tmp 2]) rfl (l:=[(0,.i n)]) rfl ?_
 refine sh fol [(0,.i n)] ?_
 refine sh fol [(2,.i (if(w64 (0-n))>n then(w64 (0-n))else n))] ?_
 refine Goes.ret ?_
 obtain rfl:=si h
 exact(gw2 [.i (if(w64 (0-n))>n then(w64 (0-n))else n)] (Ua tI))
def qK (a:List Int):Nat->(List Int)->Int->Option (List Int)
 |0,_,_=>none
 |K+1,c,b=>
  if b<(a.length:Int)then
  (idx a b).bind fun d=>
  (vY d).bind fun e=>
  (app 8 c [e]).bind fun f=>
  qK a K f (w64 (b+1))
  else
  some c
def zS (N:Nat) (a:List Int):Option (List Int):=
 (qK a N ([]:List Int) 0).bind fun b=>
 some b
theorem xL (N:Nat) (a:List Int) {n:List Int} (h:zS N a=some n):qd ZT (.fn 50) [vl encI a,.func (.func 51) [] []] [] (.gslice 0 n.length 1) (kA n []):=by
 unfold zS at h
 refine Ui Tryz.func50 rfl rfl (m:=22) rfl (rs:=[.tmp 4]) rfl (l:=(kO a [(1,.func (.func 51) [] [])])) rfl ?_
 intro B hB
 refine sh fol (kO a [(1,.func (.func 51) [] [])]) ?_
 refine sh fol (kO a [(1,.func (.func 51) [] []),(5,.nilslice)]) ?_
 refine sq ?_
 refine sh fol [(1,.func (.func 51) [] []),(5,.nilslice),(8,vl encI a),(9,.i (a.length:Int)),(10,.i 0)] ?_
 refine Goes.block ?_
 obtain⟨o,g5,h⟩:=bnd h
 refine Goes.imp (Q:=fun x s'=>(x= .exit 0/\ ∃f,f=o/\Sub s' (ofG 22 (kH f []),(kA f [])))) ?_ ?_
 ·refine Goes.sub (s':=(ofG 22 [(1,.func (.func 51) [] []),(5,.gslice 0 ([]:List Int).length 1),(8,vl encI a),(9,.i (a.length:Int)),(10,.i 0)],kV)) (Sub.norm [] [none] (by rw[hB];rfl) rfl (.keep (.same (ql.func sn sn)) (.keep .nil (.keep (.same (qc encI _)) (.keep (.same nI) (.keep (.same nI) .nil))))) (.fresh .nil)) ?_
  refine Ub (fun M s=> ∃(b:List Int) (c:Int),s=(ofG 22 ((1,.func (.func 51) [] [])::(kH b ((8,vl encI a)::(kT (a.length:Int) c)))),(kA b []))/\qK a M b c=some o) ?_ (m:=N) ⟨_,_,rfl,g5⟩
  rintro M s ⟨b,c,rfl,g5⟩
  cases M with
  |zero=>simp only[qK]at g5;cases g5
  |succ M=>
   rw[qK]at g5
   refine sh fol ((1,.func (.func 51) [] [])::(kH b [(8,vl encI a),(9,.i (a.length:Int)),(10,.i c),(11,.bool (decide (c<(a.length:Int))))])) ?_
   refine sq ?_
   refine ihD g5 (fun q g5=>?_) (fun q g5=>?_)
   ·refine Goes.skip ?_
    refine sq (Goes.block ?_)
    obtain⟨p,d,g5⟩:=bnd g5
    refine sq (gr fol [0,1] ((1,.func (.func 51) [] [])::(kH b ((7,.i p)::(8,vl encI a)::(kT (a.length:Int) c)))) (ac (iv ze encI d) (ac (lv 0 ce3 encI d rfl) az)) ?_)
    obtain⟨k,g,g5⟩:=bnd g5
    obtain⟨e,j,g5⟩:=bnd g5
    refine gq fol [3,5] ((1,.func (.func 51) [] [])::(5,.gslice 2 e.length 1)::(8,vl encI a)::(kT (a.length:Int) c)) (kAB k (kA e [])) (ac (cv (qby p g)) (ac (hs (.run [0,1] (zo ZT [22,22] (.gslice 0 b.length 1) (.slice 1 0 1 1 1)) (kA b [.cells [.i k]]) (.gslice 2 e.length 1) (kAB k (kA e [])) true) (vX ze (E:=encI) rfl (qfm (E:=encI) (ys:=[k]) rfl rfl rfl rfl) (qdS (E:=encI) (l:=b) rfl rfl rfl j rfl))) az)) ?_
    refine gh fol ((1,.func (.func 51) [] [])::(5,.gslice 2 e.length 1)::(8,vl encI a)::(kT (a.length:Int) (w64 (c+1)))) ?_
    exact⟨M,(ofG 22 ((1,.func (.func 51) [] [])::(kH e ((8,vl encI a)::(kT (a.length:Int) (w64 (c+1)))))),(kA e [])),Nat.lt_succ_self _,(Sub.norm [] [some 2] (by rw[hB];rfl) rfl (.keep (.same (ql.func sn sn)) (.keep (.gslice rfl) (.keep (.same (qc encI _)) (.keep (.same nI) (.keep (.same nI) .nil))))) (.ks .nil)),_,_,rfl,g5⟩
   refine Goes.exit ?_
   obtain rfl:=si g5
   exact⟨rfl,_,rfl,(Sub.keep [5] rfl rfl)⟩
 rintro x s' ⟨rfl,f,rfl,hsub⟩
 refine Goes.sub hsub ?_
 refine sh fol [(4,.gslice 0 f.length 1)] ?_
 refine Goes.ret ?_
 obtain rfl:=si h
 exact(gh2 [.gslice 0 f.length 1] (xP.refl _ _))
def qF:Nat->(List Int)->Int->Int->Option (List Int)
 |0,_,_,_=>none
 |K+1,c,d,a=>
  if d<a then
  (idx c a).bind fun f=>
  (idx c d).bind fun g=>
  (put c d f).bind fun b=>
  (idx b a).bind fun h=>
  (put b a g).bind fun e=>
  qF K e (w64 (d+1)) (w64 (a-1))
  else
  some c
def zD (N:Nat) (a:List Int):Option (List Int):=
 (qF N a 0 (w64 ((a.length:Int)-1))).bind fun b=>
 some b
theorem xm (N:Nat) (f:List Int) {t:List Int} (h:zD N f=some t):qd ZT (.fn 52) [.gslice 0 f.length 1] (kA f []) (.tuple []) (kA t []):=by
 unfold zD at h
 refine Ui Tryz.func52 rfl rfl (m:=28) rfl (rs:=[]) rfl (l:=(kI f [])) rfl ?_
 intro B hB
 refine Goes.subQ ?_
 refine sh fol (kI f [(2,.i 0),(3,.i (w64 ((f.length:Int)-1)))]) ?_
 refine Goes.block ?_
 obtain⟨u,g6,h⟩:=bnd h
 refine Goes.imp (Q:=fun x s'=>(x= .exit 0/\ ∃p,p=u/\Sub s' (ofG 28 [],(kA p [])))) ?_ ?_
 ·refine Ub (fun M s=> ∃(a:List Int) (c:Int) (d:Int),s=(ofG 28 (kI a [(2,.i c),(3,.i d)]),(kA a []))/\qF M a c d=some u) ?_ (m:=N) ⟨_,_,_,rfl,g6⟩
  rintro M s ⟨a,c,d,rfl,g6⟩
  cases M with
  |zero=>simp only[qF]at g6;cases g6
  |succ M=>
   rw[qF]at g6
   refine sq ?_
   refine sh fol (kI a [(2,.i c),(3,.i d),(9,.bool (decide (c<d)))]) ?_
   refine ihD g6 (fun v g6=>?_) (fun v g6=>?_)
   ·refine Goes.skip ?_
    refine sq (Goes.block ?_)
    obtain⟨q,g,g6⟩:=bnd g6
    obtain⟨r,e,g6⟩:=bnd g6
    obtain⟨n,j,g6⟩:=bnd g6
    obtain⟨w,o,g6⟩:=bnd g6
    obtain⟨b,k,g6⟩:=bnd g6
    refine gq fol [6,7,10,11,12,13,14,15] (kI a [(2,.i c),(3,.i d)]) (kA b []) (ac (hs (.done (.opt (qg ZT 22 (.gslice 0 a.length 1) (.i d))) (.ptr 0 ((d:Int).toNat*1+0))) (xe ze g)) (ac (hs (.run [0] (zQ ZT 3 (.ptr 0 ((d:Int).toNat*1+0))) (kA a []) (.i q) (kA a []) false) (qaS ce3 (E:=encI) (l:=a) rfl rfl g (nl rfl) rfl)) (ac (hs (.done (.opt (qg ZT 22 (.gslice 0 a.length 1) (.i c))) (.ptr 0 ((c:Int).toNat*1+0))) (xe ze e)) (ac (hs (.run [0] (zQ ZT 3 (.ptr 0 ((c:Int).toNat*1+0))) (kA a []) (.i r) (kA a []) false) (qaS ce3 (E:=encI) (l:=a) rfl rfl e (nl rfl) rfl)) (ac (hs (.done (.opt (qg ZT 22 (.gslice 0 a.length 1) (.i c))) (.ptr 0 ((c:Int).toNat*1+0))) (xe ze e)) (ac (hs (.run [0] (jV ZT 3 (.ptr 0 ((c:Int).toNat*1+0)) (.i q)) (kA a []) .undef (kA n []) true) (qaw (E:=encI) (l:=a) (y:=q) rfl (show _=some 1 by kernel_rfl) rfl e rfl rfl rfl rfl rfl j rfl)) (ac (hs (.done (.opt (qg ZT 22 (.gslice 0 a.length 1) (.i d))) (.ptr 0 ((d:Int).toNat*1+0))) (xe ze g)) (ac (hs (.run [0] (jV ZT 3 (.ptr 0 ((d:Int).toNat*1+0)) (.i r)) (kA n []) .undef (kA b []) true) (qaw (E:=encI) (l:=n) (y:=r) rfl (show _=some 1 by kernel_rfl) rfl o rfl rfl rfl rfl rfl k rfl)) az)))))))) ?_
    refine Goes.sub (show Sub (ofG 28 (kI a [(2,.i c),(3,.i d)]),(kA b [])) (ofG 28 (kI b [(2,.i c),(3,.i d)]),(kA b []))from(Sub.norm [] [some 0] (by rw[hB];rfl) rfl (.keep (.gsliceE rfl ((vL j).trans (vL k))) (.keep (.same nI) (.keep (.same nI) .nil))) (.ks .nil))) ?_
    refine gh fol (kI b [(2,.i (w64 (c+1))),(3,.i (w64 (d-1)))]) ?_
    exact⟨M,(ofG 28 (kI b [(2,.i (w64 (c+1))),(3,.i (w64 (d-1)))]),(kA b [])),Nat.lt_succ_self _,(Sub.refl _),_,_,_,rfl,g6⟩
   refine Goes.exit ?_
   obtain rfl:=si g6
   exact⟨rfl,_,rfl,(Sub.keep [] rfl rfl)⟩
 rintro x s' ⟨rfl,p,rfl,hsub⟩
 obtain rfl:=si h
 exact⟨_,hsub,(gh2 [] (xP.refl _ _))⟩
def zT (N:Nat) (a:List Int):Option (List Int):=
 (zS N a).bind fun b=>
 (zD N b).bind fun c=>
 ((if b.length=c.length then some ()else none:Option Unit)).bind fun d=>
 some c
theorem yx (N:Nat) (a:List Int) {g:List Int} (h:zT N a=some g):qd ZT (.fn 29) [vl encI a] [] (.gslice 0 g.length 1) (kA g []):=by
 unfold zT at h
 refine Ui Tryz.func29 rfl rfl (m:=9) rfl (rs:=[.tmp 2]) rfl (l:=(kO a [])) rfl ?_
 intro B hB
 refine sh fol (kO a []) ?_
 obtain⟨b,d,h⟩:=bnd h
 refine sq (gq fol [1] (kZ b []) (kA b []) (ac (hs (.callH 50 [vl encI a,.func (.func 51) [] []] [] [] (.gslice 0 b.length 1) (kA b [])) (vI [] [some 0] (xL N a d) .nil rfl rfl (.new rfl rfl (.same fa) rfl .nil) (rc (.same (qc encI _)) (rc (.same (ql.func sn sn)) rn)) (.gslice rfl) rfl)) az) ?_)
 obtain⟨c,e,h⟩:=bnd h
 obtain⟨i,f,h⟩:=bnd h
 refine sq (gq fol [1] (kZ b []) (kA c []) (ac (hs (.callH 52 [.gslice 0 b.length 1] (kA b []) [0] (.tuple []) (kA c [])) (vI [some 0] [some 0] (xm N b e) (.ks .nil) rfl rfl (.back rfl rfl (.same fa) rfl .nil) (rc (.gslice rfl) rn) (.same (ql.tuple sn)) rfl)) az) ?_)
 refine Goes.sub (show Sub (ofG 9 (kZ b []),(kA c [])) (ofG 9 (kZ c []),(kA c []))from(Sub.norm [] [some 0] (by rw[hB];rfl) rfl (.keep (.gsliceE rfl (qhL f)) .nil) (.ks .nil))) ?_
 refine sh fol [(2,.gslice 0 c.length 1)] ?_
 refine Goes.ret ?_
 obtain rfl:=si h
 exact(gh2 [.gslice 0 c.length 1] (xP.refl _ _))
def kr (b:List Int):Nat->(Option (List Int))->Int->Option (Option (List Int))
 |0,_,_=>none
 |K+1,r,h=>
  if h<(b.length:Int)then
  (((idx b h).bind fun g=>
  ((match r with
  |none=>
  some ((none:Option (List Int)),0)
  |some c=>
  some ((some c),(c.length:Int))):Option ((Option (List Int))×Int)).bind fun(d,a)=>
  (if a>0 then
  (match d with
  |none=>
  (idx ([]:List Int) (w64 (a-1))).bind fun i=>
  some ((none:Option (List Int)),decide (i=(w64 (0-g))))
  |some e=>
  (idx e (w64 (a-1))).bind fun j=>
  some ((some e),decide (j=(w64 (0-g)))))
  else
  some (d,false):Option ((Option (List Int))×Bool)).bind fun(f,k)=>
  if k=true then
  ((match f with
  |none=>
  (cut ([]:List Int) 0 (w64 (a-1))).bind fun s=>
  some (none:Option (List Int))
  |some l=>
  (cut l 0 (w64 (a-1))).bind fun m=>
  some (some m)):Option (Option (List Int))).bind fun n=>
  some n
  else
  ((match f with
  |none=>
  some ([g]:List Int)
  |some o=>
  (app 8 o [g]).bind fun p=>
  some p):Option (List Int)).bind fun q=>
  some (some q):Option (Option (List Int)))).bind fun t=>
  kr b K t (w64 (h+1))
  else
  some r
def zU (N:Nat) (a:List Int):Option (List Int):=
 (kr a N (none:Option (List Int)) 0).bind fun b=>
 some (hof b)
theorem yw (N:Nat) (a:List Int) {U:List Int} (h:zU N a=some U):qd ZT (.fn 46) [vl encI a] [] (vl encI U) []:=by
 unfold zU at h
 refine Ui Tryz.func46 rfl rfl (m:=37) rfl (rs:=[.tmp 2]) rfl (l:=(kO a [])) rfl ?_
 intro B hB
 refine sh fol (kO a []) ?_
 refine sh fol (kO a (kAF [])) ?_
 refine sq ?_
 refine sh fol (kAF [(7,vl encI a),(8,.i (a.length:Int)),(9,.i 0)]) ?_
 refine Goes.block ?_
 obtain⟨V,g5,h⟩:=bnd h
 refine Goes.imp (Q:=fun x s'=>(x= .exit 0/\ ∃I,I=V/\Sub s' (ofG 37 [(3,hsl 0 1 I)],(kG I)))) ?_ ?_
 ·refine Goes.sub (s':=(ofG 37 [(3,hsl 0 1 (none:Option (List Int))),(7,vl encI a),(8,.i (a.length:Int)),(9,.i 0)],[.cells ((hof (none:Option (List Int))).flatMap encI.c)])) (Sub.norm [] [none] (by rw[hB];rfl) rfl (.keep qJ.hs0 (.keep (.same (qc encI _)) (.keep (.same nI) (.keep (.same nI) .nil)))) (.fresh .nil)) ?_
  refine Ub (fun M s=> ∃(z:Option (List Int)) (j:Int),s=(ofG 37 ((3,hsl 0 1 z)::(kF a (a.length:Int) j [])),(kG z))/\kr a M z j=some V) ?_ (m:=N) ⟨_,_,rfl,g5⟩
  rintro M s ⟨z,j,rfl,g5⟩
  cases M with
  |zero=>simp only[kr]at g5;cases g5
  |succ M=>
   unfold kr at g5
   refine sh fol ((3,hsl 0 1 z)::(kF a (a.length:Int) j [(10,.bool (decide (j<(a.length:Int))))])) ?_
   refine sq ?_
   refine ihD g5 (fun W g5=>?_) (fun W g5=>?_)
   ·refine Goes.skip ?_
    refine sq ?_
    obtain⟨X,g8,g5⟩:=bnd g5
    refine Goes.imp (Q:=fun x s'=>(x= .normal/\ ∃A,A=X/\Sub s' (ofG 37 ((3,hsl 0 1 A)::(kF a (a.length:Int) j [])),(kG A)))) ?_ ?_
    ·refine Goes.block ?_
     obtain⟨k,y,g8⟩:=bnd g8
     refine sq (gr fol [0,1] ((3,hsl 0 1 z)::(5,.i k)::(kF a (a.length:Int) j [])) (ac (iv ze encI y) (ac (lv 0 ce3 encI y rfl) az)) ?_)
     refine sq ?_
     refine sq ?_
     obtain⟨⟨t,e⟩,f,g8⟩:=bnd g8
     refine Uh (s':=(ofG 37 ((3,hsl 0 1 t)::(5,.i k)::(6,.i e)::(kF a (a.length:Int) j [])),(kG t))) ?_ ?_
     ·rcases z with _|C
      ·try dsimp only at f
       simp only[ZI,ZP]at f
       obtain⟨rfl,rfl⟩:=f
       exact qG.sub (qG.rg fol (kAF ((5,.i k)::(6,.i 0)::(kF a (a.length:Int) j []))) [.cells ((hof (none:Option (List Int))).flatMap encI.c)]) (Sub.norm [] [none] (by rw[hB];rfl) rfl (.keep qJ.hs0 (.keep (.same nI) (.keep (.same nI) (.keep (.same (qc encI _)) (.keep (.same nI) (.keep (.same nI) .nil)))))) (.fresh .nil))
      try dsimp only at f
      simp only[ZI,ZP]at f
      obtain⟨rfl,rfl⟩:=f
      exact qG.sub (qG.rg fol ((3,.oslice 0 C.length 1)::(5,.i k)::(6,.i (C.length:Int))::(kF a (a.length:Int) j [])) (kA C [])) (Sub.norm [] [some 0] (by rw[hB];rfl) rfl (.keep (qJ.hs1 rfl) (.keep (.same nI) (.keep (.same nI) (.keep (.same (qc encI _)) (.keep (.same nI) (.keep (.same nI) .nil)))))) (.ks .nil))
     intro _ hsub
     try dsimp only at g8
     refine Goes.sub hsub ?_
     refine sq ?_
     obtain⟨⟨u,O⟩,b,g8⟩:=bnd g8
     refine Uh (s':=(ofG 37 ((3,hsl 0 1 u)::(5,.i k)::(6,.i e)::(kF a (a.length:Int) j [(26,.bool O)])),(kG u))) ?_ ?_
     ·rcases wyD b with⟨v,b⟩|⟨v,b⟩
      ·rcases t with _|n
       ·try dsimp only at b
        obtain⟨P,o,b⟩:=bnd b
        simp only[ZI,ZP]at b
        obtain⟨rfl,rfl⟩:=b
        exact qG.sub (qG.rq fol [2,6,7] (kAF ((5,.i k)::(6,.i e)::(kF a (a.length:Int) j [(26,.bool (decide (P=(w64 (0-k)))))]))) [.cells ((hof (none:Option (List Int))).flatMap encI.c)] (ac (gw v) (ac (hs (.done (.opt (qg ZT 22 (.nilslice) (.i (w64 (e-1))))) (.fptr (([]:List Int).flatMap encI.c) ((w64 (e-1):Int).toNat*1+0))) (qgq o)) (ac (lv 0 ce3 encI o rfl) az)))) (Sub.norm [] [none] (by rw[hB];rfl) rfl (.keep qJ.hs0 (.keep (.same nI) (.keep (.same nI) (.keep (.same (qc encI _)) (.keep (.same nI) (.keep (.same nI) (.keep (.same nB) .nil))))))) (.fresh .nil))
       try dsimp only at b
       obtain⟨J,p,b⟩:=bnd b
       simp only[ZI,ZP]at b
       obtain⟨rfl,rfl⟩:=b
       exact qG.sub (qG.rq fol [2,6,7] ((3,.oslice 0 n.length 1)::(5,.i k)::(6,.i e)::(kF a (a.length:Int) j [(26,.bool (decide (J=(w64 (0-k)))))])) (kA n []) (ac (gw v) (ac (hs (.done (.opt (qg ZT 22 (.oslice 0 n.length 1) (.i (w64 (e-1))))) (.ptr 0 ((w64 (e-1):Int).toNat*1+0))) (qh5 ze p)) (ac (hs (.run [0] (zQ ZT 3 (.ptr 0 ((w64 (e-1):Int).toNat*1+0))) (kA n []) (.i J) (kA n []) false) (qaS ce3 (E:=encI) (l:=n) rfl rfl p (nl rfl) rfl)) az)))) (Sub.norm [] [some 0] (by rw[hB];rfl) rfl (.keep (qJ.hs1 rfl) (.keep (.same nI) (.keep (.same nI) (.keep (.same (qc encI _)) (.keep (.same nI) (.keep (.same nI) (.keep (.same nB) .nil))))))) (.ks .nil))
      simp only[ZI,ZP]at b
      obtain⟨rfl,rfl⟩:=b
      exact qG.sub (tr fol [2] ((3,hsl 0 1 t)::(5,.i k)::(6,.i e)::(kF a (a.length:Int) j [(26,.bool false)])) (ac (gw v) az)) (Sub.refl _)
     intro _ hsub
     try dsimp only at g8
     refine Goes.sub hsub ?_
     refine ihB g8 (fun T g8=>?_) (fun T g8=>?_)
     ·refine sq ?_
      obtain⟨K,d,g8⟩:=bnd g8
      refine Uh (s':=(ofG 37 ((3,hsl 0 1 K)::(kF a (a.length:Int) j [])),(kG K))) ?_ ?_
      ·rcases u with _|D
       ·try dsimp only at d
        obtain⟨Y,F,d⟩:=bnd d
        obtain rfl:=si d
        exact qG.sub (qG.rq fol [3] (kAF (kF a (a.length:Int) j [])) [.cells ((hof (none:Option (List Int))).flatMap encI.c)] (ac (hs (.done (.opt (jJ ZT 22 .nilslice none (some (.i (w64 (e-1)))) none)) .nilslice) (qeR (α:=Int) ze none (some (w64 (e-1))) F)) az)) (Sub.norm [] [none] (by rw[hB];rfl) rfl (.keep qJ.hs0 (.keep (.same (qc encI _)) (.keep (.same nI) (.keep (.same nI) .nil)))) (.fresh .nil))
       try dsimp only at d
       obtain⟨q,r,d⟩:=bnd d
       obtain rfl:=si d
       exact qG.sub (qG.rq fol [3] ((3,.oslice 0 q.length 1)::(kF a (a.length:Int) j [])) (kA D []) (ac (hs (.done (.opt (jJ ZT 22 (.oslice 0 D.length 1) none (some (.i (w64 (e-1)))) none)) (.oslice 0 q.length 1)) (qhu ze r)) az)) ((show Sub (ofG 37 ((3,.oslice 0 q.length 1)::(kF a (a.length:Int) j [])),(kA D [])) (ofG 37 ((3,.oslice 0 q.length 1)::(kF a (a.length:Int) j [])),(kA q []))from(Sub.norm [] [some 0] (by rw[hB];rfl) rfl (.keep (.oslice rfl) (.keep (.same (qc encI _)) (.keep (.same nI) (.keep (.same nI) .nil)))) (.kb rfl (vB.cut r) .nil))).trans (Sub.norm [] [some 0] (by rw[hB];rfl) rfl (.keep (qJ.hs1 rfl) (.keep (.same (qc encI _)) (.keep (.same nI) (.keep (.same nI) .nil)))) (.ks .nil)))
      intro _ hsub
      refine Goes.sub hsub ?_
      refine Goes.exit ?_
      obtain rfl:=si g8
      exact⟨rfl,_,rfl,(Sub.refl _)⟩
     refine Goes.skip ?_
     obtain⟨L,g,g8⟩:=bnd g8
     refine Uh (s':=(ofG 37 ((3,.oslice 0 L.length 1)::(kF a (a.length:Int) j [])),(kA L []))) ?_ ?_
     ·rcases u with _|G
      ·try dsimp only at g
       obtain rfl:=si g
       exact qG.sub (qG.rg fol ((3,.oslice 2 1 1)::(kF a (a.length:Int) j [])) [.cells ((hof (none:Option (List Int))).flatMap encI.c),.cells [.i k],.cells [.i k]]) (Sub.norm [] [some 2] (by rw[hB];rfl) rfl (.keep (qJ.osliceE rfl rfl) (.keep (.same (qc encI _)) (.keep (.same nI) (.keep (.same nI) .nil)))) (.ks .nil))
      try dsimp only at g
      obtain⟨w,H,g⟩:=bnd g
      obtain rfl:=si g
      exact qG.sub (qG.rq fol [3] ((3,.oslice 2 w.length 1)::(kF a (a.length:Int) j [])) (kAB k (kA w [])) (ac (hs (.run [0,1] (zo ZT [22,22] (.oslice 0 G.length 1) (.slice 1 0 1 1 1)) (kA G [.cells [.i k]]) (.oslice 2 w.length 1) (kAB k (kA w [])) true) (vX ze (E:=encI) rfl (qfm (E:=encI) (ys:=[k]) rfl rfl rfl rfl) (qe8 (E:=encI) (l:=G) rfl rfl rfl H rfl))) az)) (Sub.norm [] [some 2] (by rw[hB];rfl) rfl (.keep (.oslice rfl) (.keep (.same (qc encI _)) (.keep (.same nI) (.keep (.same nI) .nil)))) (.ks .nil))
     intro _ hsub
     obtain rfl:=si g8
     exact⟨rfl,_,rfl,(hsub.trans (Sub.norm [] [some 0] (by rw[hB];rfl) rfl (.keep (qJ.hs1 rfl) (.keep (.same (qc encI _)) (.keep (.same nI) (.keep (.same nI) .nil)))) (.ks .nil)))⟩
    rintro x s' ⟨rfl,A,rfl,hsub⟩
    refine Goes.sub hsub ?_
    refine gh fol ((3,hsl 0 1 A)::(kF a (a.length:Int) (w64 (j+1)) [])) ?_
    exact⟨M,(ofG 37 ((3,hsl 0 1 A)::(kF a (a.length:Int) (w64 (j+1)) [])),(kG A)),Nat.lt_succ_self _,(Sub.refl _),_,_,rfl,g5⟩
   refine Goes.exit ?_
   obtain rfl:=si g5
   exact⟨rfl,_,rfl,(Sub.keep [3] rfl rfl)⟩
 rintro x s' ⟨rfl,I,rfl,hsub⟩
 refine Goes.sub hsub ?_
 refine sh fol [(2,hsl 0 1 I)] ?_
 refine Goes.ret ?_
 obtain rfl:=si h
 exact(gh2 [hsl 0 1 I] (Sub.norm [0] [] (by rw[hB];rfl) rfl (.keep (qJ.hsL (E:=encI) rfl rfl (nl rfl)) .nil) .nil))
def qM (a:List (List Int)):Nat->(List (List Int))->Int->Option (List (List Int))
 |0,_,_=>none
 |K+1,c,b=>
  if b<(a.length:Int)then
  (idx a b).bind fun d=>
  (qdz d).bind fun _=>
  (app 24 c [d]).bind fun e=>
  qM a K e (w64 (b+1))
  else
  some c
def jf (N:Nat) (a:List (List Int)):Option (List (List Int)):=
 (qM a N ([]:List (List Int)) 0).bind fun b=>
 some b
theorem xV (N:Nat) (a:List (List Int)) {res:List (List Int)} (h:jf N a=some res):qd ZT (.fn 47) [vl (qa encI) a,.func (.func 33) [] []] [] (vl (qa encI) res) []:=by
 unfold jf at h
 refine Uc Tryz.func47 rfl rfl (m:=22) rfl (rs:=[.tmp 4]) rfl (l:=[(0,vl (qa encI) a),(1,.func (.func 33) [] [])]) rfl ?_
 refine sh fol [(0,vl (qa encI) a),(1,.func (.func 33) [] [])] ?_
 refine sh fol [(0,vl (qa encI) a),(1,.func (.func 33) [] []),(5,.nilslice)] ?_
 refine sq ?_
 refine sh fol [(1,.func (.func 33) [] []),(5,.nilslice),(8,vl (qa encI) a),(9,.i (a.length:Int)),(10,.i 0)] ?_
 refine Goes.block ?_
 obtain⟨o,g4,h⟩:=bnd h
 refine Goes.imp (Q:=fun x s'=>(x= .exit 0/\ ∃k,k=o/\Sub s' (ofG 22 (kH k []),[.cells (k.flatMap (qa encI).c)]))) ?_ ?_
 ·refine Goes.sub (s':=(ofG 22 [(1,.func (.func 33) [] []),(5,.gslice 0 ([]:List (List Int)).length 1),(8,vl (qa encI) a),(9,.i (a.length:Int)),(10,.i 0)],[.cells (([]:List (List Int)).flatMap (qa encI).c)])) (Sub.norm [] [none] rfl rfl (.keep (.same (ql.func sn sn)) (.keep .nil (.keep (.same (qc (qa encI) _)) (.keep (.same nI) (.keep (.same nI) .nil))))) (.fresh .nil)) ?_
  refine Ub (fun M s=> ∃(d:List (List Int)) (e:Int),s=(ofG 22 ((1,.func (.func 33) [] [])::(kH d ((8,vl (qa encI) a)::(kT (a.length:Int) e)))),[.cells (d.flatMap (qa encI).c)])/\qM a M d e=some o) ?_ (m:=N) ⟨_,_,rfl,g4⟩
  rintro M s ⟨d,e,rfl,g4⟩
  cases M with
  |zero=>simp only[qM]at g4;cases g4
  |succ M=>
   rw[qM]at g4
   refine sh fol ((1,.func (.func 33) [] [])::(kH d [(8,vl (qa encI) a),(9,.i (a.length:Int)),(10,.i e),(11,.bool (decide (e<(a.length:Int))))])) ?_
   refine sq ?_
   refine ihD g4 (fun p g4=>?_) (fun p g4=>?_)
   ·refine Goes.skip ?_
    refine sq (Goes.block ?_)
    obtain⟨b,f,g4⟩:=bnd g4
    refine sq (gr fol [0,1] ((1,.func (.func 33) [] [])::(kH d ((7,vl encI b)::(8,vl (qa encI) a)::(kT (a.length:Int) e)))) (ac (iv vD (qa encI) f) (ac (lv 0 yF (qa encI) f rfl) az)) ?_)
    obtain⟨_,n,g4⟩:=bnd g4
    obtain⟨g,j,g4⟩:=bnd g4
    refine gq fol [3,5] ((1,.func (.func 33) [] [])::(5,.gslice 3 g.length 1)::(8,vl (qa encI) a)::(kT (a.length:Int) e)) (.dead::(kA b [.cells [.gslice 1 b.length 1],.cells ((d).flatMap ((qa encI)).c++[.gslice 1 b.length 1])])) (ac (hs (.callH 33 [vl encI b] [.cells (d.flatMap (qa encI).c)] [] (.gslice 1 b.length 1) (.cells (d.flatMap (qa encI).c)::(kA b []))) (vI [] [none,some 0] (qfz b n) .nil rfl rfl (.old rfl rfl (.new rfl rfl (.same fa) rfl .nil)) (rc (.same (qc encI _)) rn) (.gslice rfl) rfl)) (ac (hs (.run [0,2] (zo ZT [28,28] (.gslice 0 d.length 1) (.slice 2 0 1 1 1)) (.cells (d.flatMap (qa encI).c)::(kA b [.cells [.gslice 1 b.length 1]])) (.gslice 3 g.length 1) (.dead::(kA b [.cells [.gslice 1 b.length 1],.cells ((d).flatMap ((qa encI)).c++[.gslice 1 b.length 1])])) true) (qfd vD (E:=(qa encI)) (l:=d) (x:=b) rfl rfl rfl rfl rfl rfl rfl j rfl)) az)) ?_
    refine Goes.sub (show Sub (ofG 22 ((1,.func (.func 33) [] [])::(5,.gslice 3 g.length 1)::(8,vl (qa encI) a)::(kT (a.length:Int) e)),(.dead::(kA b [.cells [.gslice 1 b.length 1],.cells ((d).flatMap ((qa encI)).c++[.gslice 1 b.length 1])]))) (ofG 22 ((1,.func (.func 33) [] [])::(kH g ((8,vl (qa encI) a)::(kT (a.length:Int) e)))),[.cells (g.flatMap (qa encI).c)])from(Sub.norm [1] [some 3] rfl rfl (.keep (.same (ql.func sn sn)) (.keep (.gslice rfl) (.keep (.same (qc (qa encI) _)) (.keep (.same nI) (.keep (.same nI) .nil))))) (.kb rfl (vB.my (E:=(qa encI)) j (rc (.frz (Fz.gs (E:=encI) rfl rfl (nl rfl)) (qc encI _)) rn)) .nil))) ?_
    refine gh fol ((1,.func (.func 33) [] [])::(kH g ((8,vl (qa encI) a)::(kT (a.length:Int) (w64 (e+1)))))) ?_
    exact⟨M,(ofG 22 ((1,.func (.func 33) [] [])::(kH g ((8,vl (qa encI) a)::(kT (a.length:Int) (w64 (e+1)))))),[.cells (g.flatMap (qa encI).c)]),Nat.lt_succ_self _,(Sub.refl _),_,_,rfl,g4⟩
   refine Goes.exit ?_
   obtain rfl:=si g4
   exact⟨rfl,_,rfl,(Sub.keep [5] rfl rfl)⟩
 rintro x s' ⟨rfl,k,rfl,hsub⟩
 refine Goes.sub hsub ?_
 refine sh fol [(4,.gslice 0 k.length 1)] ?_
 refine Goes.ret ?_
 obtain rfl:=si h
 exact(gw2 [.gslice 0 k.length 1] (FzW.fz (Fz.gs (E:=(qa encI)) rfl rfl (nl rfl))))
def jb (n:Int):Nat->(List (List Int))->Int->Option (List (List Int))
 |0,_,_=>none
 |K+1,b,a=>
  if a<n then
  (app 24 b [([w64 (a+1)]:List Int)]).bind fun c=>
  jb n K c (w64 (a+1))
  else
  some b
def jc (N:Nat) (w:List Int):Nat->(List (List Int))->Int->Option (List (List Int))
 |0,_,_=>none
 |K+1,d,h=>
  if h<(w.length:Int)then
  (((idx w h).bind fun e=>
  (yI e).bind fun a=>
  (idx d (w64 (a-1))).bind fun b=>
  (idx d (w64 ((w64 (a-1))+1))).bind fun c=>
  if e>0 then
  (zT N b).bind fun i=>
  (qV N ([b,c,i]:List (List Int))).bind fun j=>
  (zU N j).bind fun k=>
  (put d (w64 (a-1)) k).bind fun f=>
  (idx f (w64 ((w64 (a-1))+1))).bind fun r=>
  (put f (w64 ((w64 (a-1))+1)) b).bind fun l=>
  some l
  else
  (zT N c).bind fun m=>
  (qV N ([m,b,c]:List (List Int))).bind fun n=>
  (zU N n).bind fun o=>
  (put d (w64 (a-1)) c).bind fun g=>
  (idx g (w64 ((w64 (a-1))+1))).bind fun s=>
  (put g (w64 ((w64 (a-1))+1)) o).bind fun p=>
  some p:Option (List (List Int)))).bind fun q=>
  jc N w K q (w64 (h+1))
  else
  some d
def yS (N:Nat) (n:Int) (w:List Int):Option (List (List Int)):=
 (jb n N ([]:List (List Int)) 0).bind fun b=>
 (jc N w N b 0).bind fun c=>
 (jf N c).bind fun a=>
 some a
theorem qcX (N:Nat) (n:Int) (w:List Int) {res:List (List Int)} (h:yS N n w=some res):qd ZT (.fn 26) [.i n,vl encI w] [] (vl (qa encI) res) []:=by
 unfold yS at h
 refine Uc Tryz.func26 rfl rfl (m:=76) rfl (rs:=[.tmp 4]) rfl (l:=(kE n w [])) rfl ?_
 refine sh fol (kE n w []) ?_
 refine sh fol (kE n w [(5,.nilslice)]) ?_
 refine sq ?_
 refine sh fol (kU w [(5,.nilslice),(12,.i n),(13,.i 0)]) ?_
 refine Goes.block ?_
 obtain⟨r4,g4,h⟩:=bnd h
 refine Goes.imp (Q:=fun x s'=>(x= .exit 0/\ ∃l3,l3=r4/\Sub s' (ofG 76 (kU w (kH l3 [])),[.cells (l3.flatMap (qa encI).c)]))) ?_ ?_
 ·refine Goes.sub (s':=(ofG 76 (kU w [(5,.gslice 0 ([]:List (List Int)).length 1),(12,.i n),(13,.i 0)]),[.cells (([]:List (List Int)).flatMap (qa encI).c)])) (Sub.norm [] [none] rfl rfl (.keep (.same (qc encI _)) (.keep .nil (.keep (.same nI) (.keep (.same nI) .nil)))) (.fresh .nil)) ?_
  refine Ub (fun M s=> ∃(r:List (List Int)) (p:Int),s=(ofG 76 (kU w (kH r [(12,.i n),(13,.i p)])),[.cells (r.flatMap (qa encI).c)])/\jb n M r p=some r4) ?_ (m:=N) ⟨_,_,rfl,g4⟩
  rintro M s ⟨r,p,rfl,g4⟩
  cases M with
  |zero=>simp only[jb]at g4;cases g4
  |succ M=>
   rw[jb]at g4
   refine sh fol (kU w (kH r [(12,.i n),(13,.i p),(14,.bool (decide (p<n)))])) ?_
   refine sq ?_
   refine ihD g4 (fun c5 g4=>?_) (fun c5 g4=>?_)
   ·refine Goes.skip ?_
    refine sq (Goes.block ?_)
    refine sh fol (kU w (kH r [(6,.i p),(12,.i n),(13,.i p)])) ?_
    obtain⟨H,I,g4⟩:=bnd g4
    refine gq fol [5] (kU w [(5,.gslice 3 H.length 1),(12,.i n),(13,.i p)]) (kAB (w64 (p+1)) [.cells [.slice 1 0 1 1 1],.cells ((r).flatMap ((qa encI)).c++[.slice 1 0 1 1 1])]) (ac (hs (.run [0,2] (zo ZT [28,28] (.gslice 0 r.length 1) (.slice 2 0 1 1 1)) [.cells (r.flatMap (qa encI).c),.cells [.i (w64 (p+1))],.cells [.slice 1 0 1 1 1]] (.gslice 3 H.length 1) (kAB (w64 (p+1)) [.cells [.slice 1 0 1 1 1],.cells ((r).flatMap ((qa encI)).c++[.slice 1 0 1 1 1])]) true) (qfd vD (E:=(qa encI)) (l:=r) (x:=([w64 (p+1)]:List Int)) rfl rfl rfl rfl rfl rfl rfl I rfl)) az) ?_
    refine Goes.sub (show Sub (ofG 76 (kU w [(5,.gslice 3 H.length 1),(12,.i n),(13,.i p)]),(kAB (w64 (p+1)) [.cells [.slice 1 0 1 1 1],.cells ((r).flatMap ((qa encI)).c++[.slice 1 0 1 1 1])])) (ofG 76 (kU w (kH H [(12,.i n),(13,.i p)])),[.cells (H.flatMap (qa encI).c)])from(Sub.norm [1] [some 3] rfl rfl (.keep (.same (qc encI _)) (.keep (.gslice rfl) (.keep (.same nI) (.keep (.same nI) .nil)))) (.kb rfl (vB.my (E:=(qa encI)) I (rc (.frz (Fz.lit rfl rfl (FzL.still (AllST.cons tI AllST.nil))) (qc encI _)) rn)) .nil))) ?_
    refine gh fol (kU w (kH H [(12,.i n),(13,.i (w64 (p+1)))])) ?_
    exact⟨M,(ofG 76 (kU w (kH H [(12,.i n),(13,.i (w64 (p+1)))])),[.cells (H.flatMap (qa encI).c)]),Nat.lt_succ_self _,(Sub.refl _),_,_,rfl,g4⟩
   refine Goes.exit ?_
   obtain rfl:=si g4
   exact⟨rfl,_,rfl,(Sub.keep [1,5] rfl rfl)⟩
 rintro x s' ⟨rfl,l3,rfl,hsub⟩
 refine Goes.sub hsub ?_
 refine sq ?_
 refine sh fol (kH l3 [(23,vl encI w),(24,.i (w.length:Int)),(25,.i 0)]) ?_
 refine Goes.block ?_
 obtain⟨r10,g10,h⟩:=bnd h
 refine Goes.imp (Q:=fun x s'=>(x= .exit 2/\ ∃G,G=r10/\Sub s' (ofG 76 (kH G []),[.cells (G.flatMap (qa encI).c)]))) ?_ ?_
 ·refine Ub (fun M s=> ∃(e:List (List Int)) (o:Int),s=(ofG 76 (kH e (kN w (w.length:Int) o)),[.cells (e.flatMap (qa encI).c)])/\jc N w M e o=some r10) ?_ (m:=N) ⟨_,_,rfl,g10⟩
  rintro M s ⟨e,o,rfl,g10⟩
  cases M with
  |zero=>simp only[jc]at g10;cases g10
  |succ M=>
   rw[jc]at g10
   refine sh fol (kH e [(23,vl encI w),(24,.i (w.length:Int)),(25,.i o),(26,.bool (decide (o<(w.length:Int))))]) ?_
   refine sq ?_
   refine ihD g10 (fun c11 g10=>?_) (fun c11 g10=>?_)
   ·refine Goes.skip ?_
    refine sq ?_
    obtain⟨r13,g13,g10⟩:=bnd g10
    refine Goes.imp (Q:=fun x s'=>(x= .normal/\ ∃q,q=r13/\Sub s' (ofG 76 (kH q (kN w (w.length:Int) o)),[.cells (q.flatMap (qa encI).c)]))) ?_ ?_
    ·refine Goes.block ?_
     obtain⟨t,u,g13⟩:=bnd g13
     refine sq (gr fol [0,1] (kH e ((8,.i t)::(kN w (w.length:Int) o))) (ac (iv ze encI u) (ac (lv 0 ce3 encI u rfl) az)) ?_)
     obtain⟨d,J,g13⟩:=bnd g13
     refine sq (gr fol [1] (kH e ((8,.i t)::(9,.i (w64 (d-1)))::(kN w (w.length:Int) o))) (ac (cv (qbd t J)) az) ?_)
     obtain⟨a,j,g13⟩:=bnd g13
     obtain⟨b,k,g13⟩:=bnd g13
     refine sq (gr fol [2,3,7,8] (kH e ((8,.i t)::(9,.i (w64 (d-1)))::(10,vl encI a)::(11,vl encI b)::(kN w (w.length:Int) o))) (ac (hs (.done (.opt (qg ZT 28 (.gslice 0 e.length 1) (.i (w64 (d-1))))) (.ptr 0 ((w64 (d-1):Int).toNat*1+0))) (xe vD j)) (ac (hs (.run [0] (zQ ZT 22 (.ptr 0 ((w64 (d-1):Int).toNat*1+0))) [.cells (e.flatMap (qa encI).c)] (vl encI a) [.cells (e.flatMap (qa encI).c)] false) (qaS yF (E:=(qa encI)) (l:=e) rfl rfl j (nl rfl) rfl)) (ac (hs (.done (.opt (qg ZT 28 (.gslice 0 e.length 1) (.i (w64 ((w64 (d-1))+1))))) (.ptr 0 ((w64 ((w64 (d-1))+1):Int).toNat*1+0))) (xe vD k)) (ac (hs (.run [0] (zQ ZT 22 (.ptr 0 ((w64 ((w64 (d-1))+1):Int).toNat*1+0))) [.cells (e.flatMap (qa encI).c)] (vl encI b) [.cells (e.flatMap (qa encI).c)] false) (qaS yF (E:=(qa encI)) (l:=e) rfl rfl k (nl rfl) rfl)) az)))) ?_)
     refine sh fol (kH e [(9,.i (w64 (d-1))),(10,vl encI a),(11,vl encI b),(23,vl encI w),(24,.i (w.length:Int)),(25,.i o),(42,.bool (decide (t>0)))]) ?_
     refine ihD g13 (fun c18 g13=>?_) (fun c18 g13=>?_)
     ·obtain⟨f,K,g13⟩:=bnd g13
      obtain⟨L,O,g13⟩:=bnd g13
      obtain⟨P,T,g13⟩:=bnd g13
      obtain⟨U,v,g13⟩:=bnd g13
      obtain⟨x25,V,g13⟩:=bnd g13
      obtain⟨z,A,g13⟩:=bnd g13
      refine gq fol [8,10,11,13,14,15,16] (kH e (kN w (w.length:Int) o)) (.cells (z.flatMap (qa encI).c)::(kJ f a b)) (ac (hs (.callH 29 [vl encI a] [.cells (e.flatMap (qa encI).c)] [] (.gslice 1 f.length 1) (.cells (e.flatMap (qa encI).c)::(kA f []))) (vI [] [none,some 0] (yx N a K) .nil rfl rfl (.old rfl rfl (.new rfl rfl (.same fa) rfl .nil)) (rc (.same (qc encI _)) rn) (.gslice rfl) rfl)) (ac (hs (.callF 22 [.slice 2 0 3 3 1] (.cells (e.flatMap (qa encI).c)::(kA f [.cells [vl encI a,vl encI b,.gslice 1 f.length 1]])) [2,1] [vl (qa encI) ([a,b,f]:List (List Int))] (vl encI L)) (qds (FzL.cons (Fz.lit rfl rfl (FzL.cons (Ug (ko encI _ (nl rfl))) (FzL.cons (Ug (ko encI _ (nl rfl))) (FzL.cons (Fz.gs (E:=encI) rfl rfl (nl rfl)) FzL.nil)))) FzL.nil) (jQ N ([a,b,f]:List (List Int)) O) (ko encI _ (nl rfl)))) (ac (hs (.callH 46 [vl encI L] (.cells (e.flatMap (qa encI).c)::(kJ f a b)) [] (vl encI P) (.cells (e.flatMap (qa encI).c)::(kJ f a b))) (vI [] [none,none,none] (yw N L T) .nil rfl rfl (.old rfl rfl (.old rfl rfl (.old rfl rfl .nil))) (rc (.same (qc encI _)) rn) (.same (qc encI _)) rfl)) (ac (hs (.done (.opt (qg ZT 28 (.gslice 0 e.length 1) (.i (w64 (d-1))))) (.ptr 0 ((w64 (d-1):Int).toNat*1+0))) (xe vD j)) (ac (hs (.run [0] (jV ZT 22 (.ptr 0 ((w64 (d-1):Int).toNat*1+0)) (vl encI P)) (.cells (e.flatMap (qa encI).c)::(kJ f a b)) .undef (.cells (U.flatMap (qa encI).c)::(kJ f a b)) true) (qaw (E:=(qa encI)) (l:=e) (y:=P) rfl (show _=some 1 by kernel_rfl) rfl j rfl rfl rfl rfl rfl v rfl)) (ac (hs (.done (.opt (qg ZT 28 (.gslice 0 e.length 1) (.i (w64 ((w64 (d-1))+1))))) (.ptr 0 ((w64 ((w64 (d-1))+1):Int).toNat*1+0))) (xe vD k)) (ac (hs (.run [0] (jV ZT 22 (.ptr 0 ((w64 ((w64 (d-1))+1):Int).toNat*1+0)) (vl encI a)) (.cells (U.flatMap (qa encI).c)::(kJ f a b)) .undef (.cells (z.flatMap (qa encI).c)::(kJ f a b)) true) (qaw (E:=(qa encI)) (l:=U) (y:=a) rfl (show _=some 1 by kernel_rfl) rfl V rfl rfl rfl rfl rfl A rfl)) az))))))) ?_
      obtain rfl:=si g13
      exact⟨rfl,_,rfl,((show Sub (ofG 76 (kH e (kN w (w.length:Int) o)),(.cells (z.flatMap (qa encI).c)::(kJ f a b))) (ofG 76 (kH z (kN w (w.length:Int) o)),[.cells (z.flatMap (qa encI).c)])from(Sub.norm [] [some 0] rfl rfl (.keep (.gsliceE rfl ((vL v).trans (vL A))) (.keep (.same (qc encI _)) (.keep (.same nI) (.keep (.same nI) .nil)))) (.ks .nil))).trans (Sub.refl _))⟩
     obtain⟨g,W,g13⟩:=bnd g13
     obtain⟨X,Y,g13⟩:=bnd g13
     obtain⟨Z,a0,g13⟩:=bnd g13
     obtain⟨a1,B,g13⟩:=bnd g13
     obtain⟨x33,a2,g13⟩:=bnd g13
     obtain⟨C,D,g13⟩:=bnd g13
     refine gq fol [7,11,12,13,14,15,16] (kH e (kN w (w.length:Int) o)) (.cells (C.flatMap (qa encI).c)::(kK g a b)) (ac (hs (.callH 29 [vl encI b] [.cells (e.flatMap (qa encI).c)] [] (.gslice 1 g.length 1) (.cells (e.flatMap (qa encI).c)::(kA g []))) (vI [] [none,some 0] (yx N b W) .nil rfl rfl (.old rfl rfl (.new rfl rfl (.same fa) rfl .nil)) (rc (.same (qc encI _)) rn) (.gslice rfl) rfl)) (ac (hs (.callF 22 [.slice 2 0 3 3 1] (.cells (e.flatMap (qa encI).c)::(kA g [.cells [.gslice 1 g.length 1,vl encI a,vl encI b]])) [2,1] [vl (qa encI) ([g,a,b]:List (List Int))] (vl encI X)) (qds (FzL.cons (Fz.lit rfl rfl (FzL.cons (Fz.gs (E:=encI) rfl rfl (nl rfl)) (FzL.cons (Ug (ko encI _ (nl rfl))) (FzL.cons (Ug (ko encI _ (nl rfl))) FzL.nil)))) FzL.nil) (jQ N ([g,a,b]:List (List Int)) Y) (ko encI _ (nl rfl)))) (ac (hs (.callH 46 [vl encI X] (.cells (e.flatMap (qa encI).c)::(kK g a b)) [] (vl encI Z) (.cells (e.flatMap (qa encI).c)::(kK g a b))) (vI [] [none,none,none] (yw N X a0) .nil rfl rfl (.old rfl rfl (.old rfl rfl (.old rfl rfl .nil))) (rc (.same (qc encI _)) rn) (.same (qc encI _)) rfl)) (ac (hs (.done (.opt (qg ZT 28 (.gslice 0 e.length 1) (.i (w64 (d-1))))) (.ptr 0 ((w64 (d-1):Int).toNat*1+0))) (xe vD j)) (ac (hs (.run [0] (jV ZT 22 (.ptr 0 ((w64 (d-1):Int).toNat*1+0)) (vl encI b)) (.cells (e.flatMap (qa encI).c)::(kK g a b)) .undef (.cells (a1.flatMap (qa encI).c)::(kK g a b)) true) (qaw (E:=(qa encI)) (l:=e) (y:=b) rfl (show _=some 1 by kernel_rfl) rfl j rfl rfl rfl rfl rfl B rfl)) (ac (hs (.done (.opt (qg ZT 28 (.gslice 0 e.length 1) (.i (w64 ((w64 (d-1))+1))))) (.ptr 0 ((w64 ((w64 (d-1))+1):Int).toNat*1+0))) (xe vD k)) (ac (hs (.run [0] (jV ZT 22 (.ptr 0 ((w64 ((w64 (d-1))+1):Int).toNat*1+0)) (vl encI Z)) (.cells (a1.flatMap (qa encI).c)::(kK g a b)) .undef (.cells (C.flatMap (qa encI).c)::(kK g a b)) true) (qaw (E:=(qa encI)) (l:=a1) (y:=Z) rfl (show _=some 1 by kernel_rfl) rfl a2 rfl rfl rfl rfl rfl D rfl)) az))))))) ?_
     obtain rfl:=si g13
     exact⟨rfl,_,rfl,((show Sub (ofG 76 (kH e (kN w (w.length:Int) o)),(.cells (C.flatMap (qa encI).c)::(kK g a b))) (ofG 76 (kH C (kN w (w.length:Int) o)),[.cells (C.flatMap (qa encI).c)])from(Sub.norm [] [some 0] rfl rfl (.keep (.gsliceE rfl ((vL B).trans (vL D))) (.keep (.same (qc encI _)) (.keep (.same nI) (.keep (.same nI) .nil)))) (.ks .nil))).trans (Sub.refl _))⟩
    rintro x s' ⟨rfl,q,rfl,hsub⟩
    refine Goes.sub hsub ?_
    refine gh fol (kH q (kN w (w.length:Int) (w64 (o+1)))) ?_
    exact⟨M,(ofG 76 (kH q (kN w (w.length:Int) (w64 (o+1)))),[.cells (q.flatMap (qa encI).c)]),Nat.lt_succ_self _,(Sub.refl _),_,_,rfl,g10⟩
   refine Goes.exit ?_
   obtain rfl:=si g10
   exact⟨rfl,_,rfl,(Sub.keep [5] rfl rfl)⟩
 rintro x s' ⟨rfl,G,rfl,hsub⟩
 refine Goes.sub hsub ?_
 obtain⟨F,a3,h⟩:=bnd h
 refine sq (gq fol [1] [(4,vl (qa encI) F)] [.frozen (G.flatMap (qa encI).c)] (ac (hs (.callF 47 [.gslice 0 G.length 1,.func (.func 33) [] []] [.cells (G.flatMap (qa encI).c)] [0] [vl (qa encI) G,.func (.func 33) [] []] (vl (qa encI) F)) (qds (FzL.cons (Fz.gs (E:=(qa encI)) rfl rfl (nl rfl)) (FzL.cons (Fz.func FzL.nil FzL.nil) FzL.nil)) (xV N G a3) (ko (qa encI) _ (nl rfl)))) az) ?_)
 refine Goes.sub (show Sub (ofG 76 [(4,vl (qa encI) F)],[.frozen (G.flatMap (qa encI).c)]) (ofG 76 [(4,vl (qa encI) F)],[])from(Sub.norm [] [] rfl rfl (.keep (.same (qc (qa encI) _)) .nil) .nil)) ?_
 refine Goes.ret ?_
 obtain rfl:=si h
 exact(gw2 [vl (qa encI) F] (Ua (ko (qa encI) _ (nl rfl))))
def vo (N:Nat) (n:Int) (w:List Int):Option ((List (List Int))×Int):=
 (zx N n w).bind fun b=>
 (zI (decide ((w.length:Int)>12)) 22).bind fun c=>
 (jO N ([b,c]:List Int)).bind fun a=>
 if(!decide (a=0))=true then
 some ([],a)
 else
 (yS N n w).bind fun d=>
 some (d,0)
theorem xn (N:Nat) (n:Int) (w:List Int) {res:(List (List Int))×Int} (h:vo N n w=some res):qd ZT (.fn 7) [.i n,vl encI w] [] (.tuple [vl (qa encI) res.1,.i res.2]) []:=by
 unfold vo at h
 refine Uc Tryz.func7 rfl rfl (m:=22) rfl (rs:=[.tmp 4,.tmp 5]) rfl (l:=(kE n w [])) rfl ?_
 refine sh fol (kE n w []) ?_
 refine sq ?_
 obtain⟨f,b,h⟩:=bnd h
 obtain⟨g,c,h⟩:=bnd h
 obtain⟨a,d,h⟩:=bnd h
 refine sq (gq fol [2,6,8] (kE n w [(6,.i a)]) (kR f g) (ac (cv (jA N n w b)) (ac (cv (jY (decide ((w.length:Int)>12)) 22 c)) (ac (hs (.call 23 [.slice 0 0 2 2 1] (kR f g) [0] [vl encI ([f,g]:List Int)] (.i a)) (qdK (FzL.cons (Fz.lit rfl rfl (FzL.still (AllST.cons tI (AllST.cons tI AllST.nil)))) FzL.nil) (yT N ([f,g]:List Int) d) tI rfl)) az))) ?_)
 refine sh fol (kE n w [(6,.i a),(17,.bool (!decide (a=0)))]) ?_
 refine ihB h (fun k h=>?_) (fun k h=>?_)
 ·refine sh fol [(4,.nilslice),(5,.i a)] ?_
  refine Goes.ret ?_
  obtain rfl:=si h
  exact(gw2 [.nilslice,.i a] (FzW.tuple (vz.cons (FzW.nilv (E:=(qa encI))) (vz.cons (Ua tI) vz.nil))))
 refine Goes.skip ?_
 obtain⟨j,e,h⟩:=bnd h
 refine sq (gr fol [2] [(4,vl (qa encI) j),(5,.i 0)] (ac (cv (qcX N n w e)) az) ?_)
 refine Goes.ret ?_
 obtain rfl:=si h
 exact(gw2 [vl (qa encI) j,.i 0] (FzW.tuple (vz.cons (Ua (ko (qa encI) _ (nl rfl))) (vz.cons (Ua tI) vz.nil))))
def qX (c:List Int):Nat->(List Int)->Int->Option (List Int)
 |0,_,_=>none
 |K+1,b,a=>
  if a<(c.length:Int)then
  (idx b a).bind fun e=>
  (put b a a).bind fun d=>
  qX c K d (w64 (a+1))
  else
  some b
def zP (N:Nat) (a:Int):Option (List Int):=
 (mk 8 a 0).bind fun b=>
 (qX b N b 0).bind fun c=>
 some c
theorem yc (N:Nat) (c:Int) {n:List Int} (h:zP N c=some n):qd ZT (.fn 48) [.i c] [] (.slice 0 0 n.length n.length 1) (kA n []):=by
 unfold zP at h
 refine Ui Tryz.func48 rfl rfl (m:=18) rfl (rs:=[.tmp 2]) rfl (l:=[(0,.i c)]) rfl ?_
 intro B hB
 refine sh fol [(0,.i c)] ?_
 obtain⟨a,k,h⟩:=bnd h
 refine sq (gq fol [1] (kP a []) (kA a []) (ac (hs (.run [] (vU ZT 22 (.i c) (.i c)) [] (.slice 0 0 a.length a.length 1) (kA a []) false) (qid ze (E:=encI) (z:=0) rfl (by kernel_rfl) k rfl)) az) ?_)
 refine sq ?_
 refine sh fol (kP a [(8,.i (a.length:Int)),(9,.i 0)]) ?_
 refine Goes.block ?_
 obtain⟨o,g6,h⟩:=bnd h
 refine Goes.imp (Q:=fun x s'=>(x= .exit 0/\ ∃e,e=o/\Sub s' (ofG 18 (kP e []),(kA e [])))) ?_ ?_
 ·refine Ub (fun M s=> ∃(d:List Int) (b:Int),s=(ofG 18 (kP d [(8,.i (a.length:Int)),(9,.i b)]),(kA d []))/\qX a M d b=some o) ?_ (m:=N) ⟨_,_,rfl,g6⟩
  rintro M s ⟨d,b,rfl,g6⟩
  cases M with
  |zero=>simp only[qX]at g6;cases g6
  |succ M=>
   rw[qX]at g6
   refine sh fol (kP d [(8,.i (a.length:Int)),(9,.i b),(10,.bool (decide (b<(a.length:Int))))]) ?_
   refine sq ?_
   refine ihD g6 (fun p g6=>?_) (fun p g6=>?_)
   ·refine Goes.skip ?_
    refine sq (Goes.block ?_)
    refine sh fol (kP d [(4,.i b),(8,.i (a.length:Int)),(9,.i b)]) ?_
    obtain⟨q,f,g6⟩:=bnd g6
    obtain⟨g,j,g6⟩:=bnd g6
    refine gq fol [3,4] (kP d [(8,.i (a.length:Int)),(9,.i b)]) (kA g []) (ac (hs (.done (.opt (qg ZT 22 (.slice 0 0 d.length d.length 1) (.i b))) (.ptr 0 ((b:Int).toNat*1+0))) (qaI ze f)) (ac (hs (.run [0] (jV ZT 3 (.ptr 0 ((b:Int).toNat*1+0)) (.i b)) (kA d []) .undef (kA g []) true) (qaw (E:=encI) (l:=d) (y:=b) rfl (show _=some 1 by kernel_rfl) rfl f rfl rfl rfl rfl rfl j rfl)) az)) ?_
    refine Goes.sub (show Sub (ofG 18 (kP d [(8,.i (a.length:Int)),(9,.i b)]),(kA g [])) (ofG 18 (kP g [(8,.i (a.length:Int)),(9,.i b)]),(kA g []))from(Sub.norm [] [some 0] (by rw[hB];rfl) rfl (.keep (.sliceE rfl (vL j)) (.keep (.same nI) (.keep (.same nI) .nil))) (.ks .nil))) ?_
    refine gh fol (kP g [(8,.i (a.length:Int)),(9,.i (w64 (b+1)))]) ?_
    exact⟨M,(ofG 18 (kP g [(8,.i (a.length:Int)),(9,.i (w64 (b+1)))]),(kA g [])),Nat.lt_succ_self _,(Sub.refl _),_,_,rfl,g6⟩
   refine Goes.exit ?_
   obtain rfl:=si g6
   exact⟨rfl,_,rfl,(Sub.keep [3] rfl rfl)⟩
 rintro x s' ⟨rfl,e,rfl,hsub⟩
 refine Goes.sub hsub ?_
 refine sh fol [(2,.slice 0 0 e.length e.length 1)] ?_
 refine Goes.ret ?_
 obtain rfl:=si h
 exact(gh2 [.slice 0 0 e.length e.length 1] (xP.refl _ _))
def jr (a:Int) (b:List Int):Option Unit:=
 some ()
theorem qad (a:Int) (b:List Int) (h:jr a b=some ()):qd ZT (.fn 49) [.i a,vl encI b] [] (.func (.func 73) [] [.ptr 0 0,.ptr 1 0]) (kD a b []):=by
 unfold jr at h
 refine Ui Tryz.func49 rfl rfl (m:=6) rfl (rs:=[.tmp 4]) rfl (l:=(kE a b [])) rfl ?_
 intro B hB
 refine sg fol [(2,.ptr 0 0),(3,.ptr 1 0)] (kD a b []) ?_
 refine sh fol [(4,.func (.func 73) [] [.ptr 0 0,.ptr 1 0])] ?_
 refine Goes.ret ?_
 exact(gh2 [.func (.func 73) [] [.ptr 0 0,.ptr 1 0]] (xP.refl _ _))
def jW (a:List Int) (e:Int) (b:Int) (c:Int):Option (List Int):=
 (idx a b).bind fun f=>
 (put a b (w64 (f+1))).bind fun d=>
 (idx d c).bind fun g=>
 (put d c (w64 (g-1))).bind fun h=>
 some h
theorem qbv (c:List Int) (k:Int) (a:Int) (b:Int) {o:List Int} (h:jW c k a b=some o):qd ZT (.rd 0) [.i k,.agg [.i a,.i b]] (.loop .ready none (ofG 30 [(5,.ptr 1 0)]) qb.xp qb.x1 qb.x2::(kB c (kA c []))) (.bool true) (.loop .ready none (ofG 30 [(5,.ptr 1 0)]) qb.xp qb.x1 qb.x2::(kB o (kA o []))):=by
 unfold jW at h
 refine Goes.round (m:=30) (l0:=[(5,.ptr 1 0)]) (l:=[(5,.ptr 1 0),(13,.i k),(14,.agg [.i a,.i b])]) rfl rfl rfl ?_
 intro B hB
 refine Goes.subQ ?_
 refine Goes.rg fol kAE (.loop .ready none (ofG 30 [(5,.ptr 1 0)]) qb.xp qb.x1 qb.x2::(kB c (kA c (kR a b)))) ?_
 refine⟨_,Sub.refl _,?_⟩
 refine⟨_,_,_,_,_,rfl,?_⟩
 refine Goes.subQ ?_
 refine Goes.block ?_
 obtain⟨x2,e,h⟩:=bnd h
 obtain⟨d,g,h⟩:=bnd h
 refine sq (gq fol [3,4,6,7] kAE (.loop .busy none (ofG 30 [(5,.ptr 1 0)]) qb.xp qb.x1 qb.x2::(kB c (kA d (kR a b)))) (ac (hs (.done (.opt (qg ZT 22 (.slice 2 0 c.length c.length 1) (.i a))) (.ptr 2 ((a:Int).toNat*1+0))) (qaI ze e)) (ac (hs (.run [2] (zQ ZT 3 (.ptr 2 ((a:Int).toNat*1+0))) (.loop .busy none (ofG 30 [(5,.ptr 1 0)]) qb.xp qb.x1 qb.x2::(kB c (kA c (kR a b)))) (.i x2) (.loop .busy none (ofG 30 [(5,.ptr 1 0)]) qb.xp qb.x1 qb.x2::(kB c (kA c (kR a b)))) false) (qaS ce3 (E:=encI) (l:=c) rfl rfl e (nl rfl) rfl)) (ac (hs (.done (.opt (qg ZT 22 (.slice 2 0 c.length c.length 1) (.i a))) (.ptr 2 ((a:Int).toNat*1+0))) (qaI ze e)) (ac (hs (.run [2] (jV ZT 3 (.ptr 2 ((a:Int).toNat*1+0)) (.i (w64 (x2+1)))) (.loop .busy none (ofG 30 [(5,.ptr 1 0)]) qb.xp qb.x1 qb.x2::(kB c (kA c (kR a b)))) .undef (.loop .busy none (ofG 30 [(5,.ptr 1 0)]) qb.xp qb.x1 qb.x2::(kB c (kA d (kR a b)))) true) (qaw (E:=encI) (l:=c) (y:=w64 (x2+1)) rfl (show _=some 1 by kernel_rfl) rfl e rfl rfl rfl rfl rfl g rfl)) az)))) ?_)
 refine Goes.sub (show Sub (ofG 30 kAE,(.loop .busy none (ofG 30 [(5,.ptr 1 0)]) qb.xp qb.x1 qb.x2::(kB c (kA d (kR a b))))) (ofG 30 kAE,(.loop .busy none (ofG 30 [(5,.ptr 1 0)]) qb.xp qb.x1 qb.x2::(kB d (kA d (kR a b)))))from(Sub.norm [] [some 0,some 1,some 2,some 3] (by rw[hB];rfl) rfl (.kp (.kp .nil)) (.kb rfl (.loop rfl (.kp .nil)) (.kb rfl (.cells (rc (.sliceE rfl (vL g)) rn)) (.ks (.kb rfl (.same sn) .nil)))))) ?_
 obtain⟨p,f,h⟩:=bnd h
 obtain⟨n,j,h⟩:=bnd h
 refine gq fol [3,4,6,7] [] (.loop .busy none (ofG 30 [(5,.ptr 1 0)]) qb.xp qb.x1 qb.x2::(kB d (kA n (kR a b)))) (ac (hs (.done (.opt (qg ZT 22 (.slice 2 0 d.length d.length 1) (.i b))) (.ptr 2 ((b:Int).toNat*1+0))) (qaI ze f)) (ac (hs (.run [2] (zQ ZT 3 (.ptr 2 ((b:Int).toNat*1+0))) (.loop .busy none (ofG 30 [(5,.ptr 1 0)]) qb.xp qb.x1 qb.x2::(kB d (kA d (kR a b)))) (.i p) (.loop .busy none (ofG 30 [(5,.ptr 1 0)]) qb.xp qb.x1 qb.x2::(kB d (kA d (kR a b)))) false) (qaS ce3 (E:=encI) (l:=d) rfl rfl f (nl rfl) rfl)) (ac (hs (.done (.opt (qg ZT 22 (.slice 2 0 d.length d.length 1) (.i b))) (.ptr 2 ((b:Int).toNat*1+0))) (qaI ze f)) (ac (hs (.run [2] (jV ZT 3 (.ptr 2 ((b:Int).toNat*1+0)) (.i (w64 (p-1)))) (.loop .busy none (ofG 30 [(5,.ptr 1 0)]) qb.xp qb.x1 qb.x2::(kB d (kA d (kR a b)))) .undef (.loop .busy none (ofG 30 [(5,.ptr 1 0)]) qb.xp qb.x1 qb.x2::(kB d (kA n (kR a b)))) true) (qaw (E:=encI) (l:=d) (y:=w64 (p-1)) rfl (show _=some 1 by kernel_rfl) rfl f rfl rfl rfl rfl rfl j rfl)) az)))) ?_
 obtain rfl:=si h
 exact⟨_,(show Sub (ofG 30 [],(.loop .busy none (ofG 30 [(5,.ptr 1 0)]) qb.xp qb.x1 qb.x2::(kB d (kA n (kR a b))))) (ofG 30 [],(.loop .busy none (ofG 30 [(5,.ptr 1 0)]) qb.xp qb.x1 qb.x2::(kB n (kA n []))))from(Sub.norm [] [some 0,some 1,some 2] (by rw[hB];rfl) rfl .nil (.kb rfl (.loop rfl (.kp .nil)) (.kb rfl (.cells (rc (.sliceE rfl (vL j)) rn)) (.ks .nil))))),⟨_,_,rfl,(xP.refl _ _)⟩⟩
def qE (b:List Int):Nat->(List Int)->(List Int)->Int->Option (List Int)
 |0,_,_,_=>none
 |K+1,k,g,h=>
  if h<(b.length:Int)then
  (idx b h).bind fun c=>
  (yI c).bind fun a=>
  (idx g (w64 (a-1))).bind fun d=>
  (idx g (w64 ((w64 (a-1))+1))).bind fun e=>
  (jW k c d e).bind fun i=>
  (put g (w64 (a-1)) e).bind fun f=>
  (idx f (w64 ((w64 (a-1))+1))).bind fun l=>
  (put f (w64 ((w64 (a-1))+1)) d).bind fun j=>
  qE b K i j (w64 (h+1))
  else
  some k
def zW (N:Nat) (a:List Int) (b:Int) (c:List Int):Option (List Int):=
 (zP N b).bind fun d=>
 (qE c N a d 0).bind fun e=>
 some e
theorem xk (N:Nat) (n:List Int) (d:Int) (a:List Int) {J:List Int} (h:zW N n d a=some J):qd ZT (.fn 73) [.yld 0,.ptr 3 0,.ptr 4 0] (.loop .ready none (ofG 30 [(5,.ptr 1 0)]) qb.xp qb.x1 qb.x2::(kB n (kA n (kD d a [])))) (.tuple []) (.loop .ready none (ofG 30 [(5,.ptr 1 0)]) qb.xp qb.x1 qb.x2::(kB J (kA J (kD d a [])))):=by
 unfold zW at h
 refine Ui Tryz.func73 rfl rfl (m:=50) rfl (rs:=[]) rfl (l:=[(0,.yld 0),(1,.ptr 3 0),(2,.ptr 4 0)]) rfl ?_
 intro B hB
 refine Goes.subQ ?_
 obtain⟨A,H,h⟩:=bnd h
 refine sq (gq fol [1] [(0,.yld 0),(2,.ptr 4 0),(4,.slice 5 0 A.length A.length 1)] (.loop .ready none (ofG 30 [(5,.ptr 1 0)]) qb.xp qb.x1 qb.x2::(kB n (kA n (kD d a (kA A []))))) (ac (hs (.callH 48 [.i d] (.loop .ready none (ofG 30 [(5,.ptr 1 0)]) qb.xp qb.x1 qb.x2::(kB n (kA n (kD d a [])))) [] (.slice 5 0 A.length A.length 1) (.loop .ready none (ofG 30 [(5,.ptr 1 0)]) qb.xp qb.x1 qb.x2::(kB n (kA n (kD d a (kA A [])))))) (vI [] [none,none,none,none,none,some 0] (yc N d H) .nil rfl rfl (.old rfl rfl (.old rfl rfl (.old rfl rfl (.old rfl rfl (.old rfl rfl (.new rfl rfl (.same fa) rfl .nil)))))) (rc (.same nI) rn) (.slice rfl) rfl)) az) ?_)
 refine sh fol ((0,.yld 0)::(kM A a (a.length:Int) [(12,.i 0)])) ?_
 refine Goes.block ?_
 obtain⟨K,g8,h⟩:=bnd h
 refine Goes.imp (Q:=fun x s'=>(x= .exit 0/\ ∃I,I=K/\Sub s' (ofG 50 [],(.loop .ready none (ofG 30 [(5,.ptr 1 0)]) qb.xp qb.x1 qb.x2::(kB I (kA I (kD d a []))))))) ?_ ?_
 ·refine Ub (fun M s=> ∃(p:List Int) (f:List Int) (q:Int),s=(ofG 50 ((0,.yld 0)::(kM f a (a.length:Int) [(12,.i q)])),(.loop .ready none (ofG 30 [(5,.ptr 1 0)]) qb.xp qb.x1 qb.x2::(kB p (kA p (kD d a (kA f []))))))/\qE a M p f q=some K) ?_ (m:=N) ⟨_,_,_,rfl,g8⟩
  rintro M s ⟨p,f,q,rfl,g8⟩
  cases M with
  |zero=>simp only[qE]at g8;cases g8
  |succ M=>
   rw[qE]at g8
   refine sh fol ((0,.yld 0)::(kM f a (a.length:Int) [(12,.i q),(13,.bool (decide (q<(a.length:Int))))])) ?_
   refine sq ?_
   refine ihD g8 (fun L g8=>?_) (fun L g8=>?_)
   ·refine Goes.skip ?_
    refine sq (Goes.block ?_)
    obtain⟨u,v,g8⟩:=bnd g8
    refine sq (gr fol [0,1] [(0,.yld 0),(4,.slice 5 0 f.length f.length 1),(6,.i u),(10,vl encI a),(11,.i (a.length:Int)),(12,.i q)] (ac (iv ze encI v) (ac (lv 0 ce3 encI v rfl) az)) ?_)
    obtain⟨g,C,g8⟩:=bnd g8
    refine sq (gr fol [1] [(0,.yld 0),(4,.slice 5 0 f.length f.length 1),(6,.i u),(7,.i (w64 (g-1))),(10,vl encI a),(11,.i (a.length:Int)),(12,.i q)] (ac (cv (qbd u C)) az) ?_)
    refine sq ?_
    obtain⟨r,j,g8⟩:=bnd g8
    obtain⟨t,k,g8⟩:=bnd g8
    obtain⟨e,D,g8⟩:=bnd g8
    refine sq (gq fol [4,5,9,10,12] [(0,.yld 0),(4,.slice 5 0 f.length f.length 1),(7,.i (w64 (g-1))),(10,vl encI a),(11,.i (a.length:Int)),(12,.i q),(32,.bool false)] (.loop .ready none (ofG 30 [(5,.ptr 1 0)]) qb.xp qb.x1 qb.x2::(kB e (kA e (kD d a (kA f []))))) (ac (hs (.done (.opt (qg ZT 22 (.slice 5 0 f.length f.length 1) (.i (w64 (g-1))))) (.ptr 5 ((w64 (g-1):Int).toNat*1+0))) (qaI ze j)) (ac (hs (.run [5] (zQ ZT 3 (.ptr 5 ((w64 (g-1):Int).toNat*1+0))) (.loop .ready none (ofG 30 [(5,.ptr 1 0)]) qb.xp qb.x1 qb.x2::(kB p (kA p (kD d a (kA f []))))) (.i r) (.loop .ready none (ofG 30 [(5,.ptr 1 0)]) qb.xp qb.x1 qb.x2::(kB p (kA p (kD d a (kA f []))))) false) (qaS ce3 (E:=encI) (l:=f) rfl rfl j (nl rfl) rfl)) (ac (hs (.done (.opt (qg ZT 22 (.slice 5 0 f.length f.length 1) (.i (w64 ((w64 (g-1))+1))))) (.ptr 5 ((w64 ((w64 (g-1))+1):Int).toNat*1+0))) (qaI ze k)) (ac (hs (.run [5] (zQ ZT 3 (.ptr 5 ((w64 ((w64 (g-1))+1):Int).toNat*1+0))) (.loop .ready none (ofG 30 [(5,.ptr 1 0)]) qb.xp qb.x1 qb.x2::(kB p (kA p (kD d a (kA f []))))) (.i t) (.loop .ready none (ofG 30 [(5,.ptr 1 0)]) qb.xp qb.x1 qb.x2::(kB p (kA p (kD d a (kA f []))))) false) (qaS ce3 (E:=encI) (l:=f) rfl rfl k (nl rfl) rfl)) (ac (hs (.callH (.rd 0) [.i u,.agg [.i r,.i t]] (.loop .ready none (ofG 30 [(5,.ptr 1 0)]) qb.xp qb.x1 qb.x2::(kB p (kA p (kD d a (kA f []))))) [0,1,2] (.bool true) (.loop .ready none (ofG 30 [(5,.ptr 1 0)]) qb.xp qb.x1 qb.x2::(kB e (kA e (kD d a (kA f [])))))) (qiE [some 0,some 1,some 2] [some 0,some 1,some 2,none,none,none] (qbv p u r t D) rfl (.kb rfl (.loop rfl (.kp .nil)) (.kb rfl (.cells (rc (.slice rfl) rn)) (.ks .nil))) rfl rfl (.back rfl rfl (.loop rfl (.kp .nil)) rfl (.back rfl rfl (.cells (rc (.slice rfl) rn)) rfl (.back rfl rfl (.same fa) rfl (.old rfl rfl (.old rfl rfl (.old rfl rfl .nil)))))) (rc (.same nI) (rc (.same (ql.agg sn)) rn)) (.same nB) rfl)) az))))) ?_)
    refine Goes.ifB (b:=false) (by kernel_rfl) (fun c=>(by cases c)) (fun _=>?_)
    refine Goes.skip ?_
    obtain⟨F,w,g8⟩:=bnd g8
    obtain⟨O,G,g8⟩:=bnd g8
    obtain⟨o,z,g8⟩:=bnd g8
    refine gq fol [8,9,12,13,14,15,16,17] ((0,.yld 0)::(kM f a (a.length:Int) [(12,.i q)])) (.loop .ready none (ofG 30 [(5,.ptr 1 0)]) qb.xp qb.x1 qb.x2::(kB e (kA e (kD d a (kA o []))))) (ac (hs (.done (.opt (qg ZT 22 (.slice 5 0 f.length f.length 1) (.i (w64 ((w64 (g-1))+1))))) (.ptr 5 ((w64 ((w64 (g-1))+1):Int).toNat*1+0))) (qaI ze k)) (ac (hs (.run [5] (zQ ZT 3 (.ptr 5 ((w64 ((w64 (g-1))+1):Int).toNat*1+0))) (.loop .ready none (ofG 30 [(5,.ptr 1 0)]) qb.xp qb.x1 qb.x2::(kB e (kA e (kD d a (kA f []))))) (.i t) (.loop .ready none (ofG 30 [(5,.ptr 1 0)]) qb.xp qb.x1 qb.x2::(kB e (kA e (kD d a (kA f []))))) false) (qaS ce3 (E:=encI) (l:=f) rfl rfl k (nl rfl) rfl)) (ac (hs (.done (.opt (qg ZT 22 (.slice 5 0 f.length f.length 1) (.i (w64 (g-1))))) (.ptr 5 ((w64 (g-1):Int).toNat*1+0))) (qaI ze j)) (ac (hs (.run [5] (zQ ZT 3 (.ptr 5 ((w64 (g-1):Int).toNat*1+0))) (.loop .ready none (ofG 30 [(5,.ptr 1 0)]) qb.xp qb.x1 qb.x2::(kB e (kA e (kD d a (kA f []))))) (.i r) (.loop .ready none (ofG 30 [(5,.ptr 1 0)]) qb.xp qb.x1 qb.x2::(kB e (kA e (kD d a (kA f []))))) false) (qaS ce3 (E:=encI) (l:=f) rfl rfl j (nl rfl) rfl)) (ac (hs (.done (.opt (qg ZT 22 (.slice 5 0 f.length f.length 1) (.i (w64 (g-1))))) (.ptr 5 ((w64 (g-1):Int).toNat*1+0))) (qaI ze j)) (ac (hs (.run [5] (jV ZT 3 (.ptr 5 ((w64 (g-1):Int).toNat*1+0)) (.i t)) (.loop .ready none (ofG 30 [(5,.ptr 1 0)]) qb.xp qb.x1 qb.x2::(kB e (kA e (kD d a (kA f []))))) .undef (.loop .ready none (ofG 30 [(5,.ptr 1 0)]) qb.xp qb.x1 qb.x2::(kB e (kA e (kD d a (kA F []))))) true) (qaw (E:=encI) (l:=f) (y:=t) rfl (show _=some 1 by kernel_rfl) rfl j rfl rfl rfl rfl rfl w rfl)) (ac (hs (.done (.opt (qg ZT 22 (.slice 5 0 f.length f.length 1) (.i (w64 ((w64 (g-1))+1))))) (.ptr 5 ((w64 ((w64 (g-1))+1):Int).toNat*1+0))) (qaI ze k)) (ac (hs (.run [5] (jV ZT 3 (.ptr 5 ((w64 ((w64 (g-1))+1):Int).toNat*1+0)) (.i r)) (.loop .ready none (ofG 30 [(5,.ptr 1 0)]) qb.xp qb.x1 qb.x2::(kB e (kA e (kD d a (kA F []))))) .undef (.loop .ready none (ofG 30 [(5,.ptr 1 0)]) qb.xp qb.x1 qb.x2::(kB e (kA e (kD d a (kA o []))))) true) (qaw (E:=encI) (l:=F) (y:=r) rfl (show _=some 1 by kernel_rfl) rfl G rfl rfl rfl rfl rfl z rfl)) az)))))))) ?_
    refine Goes.sub (show Sub (ofG 50 ((0,.yld 0)::(kM f a (a.length:Int) [(12,.i q)])),(.loop .ready none (ofG 30 [(5,.ptr 1 0)]) qb.xp qb.x1 qb.x2::(kB e (kA e (kD d a (kA o [])))))) (ofG 50 ((0,.yld 0)::(kM o a (a.length:Int) [(12,.i q)])),(.loop .ready none (ofG 30 [(5,.ptr 1 0)]) qb.xp qb.x1 qb.x2::(kB e (kA e (kD d a (kA o []))))))from(Sub.norm [] [some 0,some 1,some 2,some 3,some 4,some 5] (by rw[hB];rfl) rfl (.keep (.yld rfl) (.keep (.sliceE rfl ((vL w).trans (vL z))) (.keep (.same (qc encI _)) (.keep (.same nI) (.keep (.same nI) .nil))))) (.kb rfl (.loop rfl (.kp .nil)) (.kb rfl (.cells (rc (.slice rfl) rn)) (.ks (.kb rfl (.same sn) (.kb rfl (.same sn) (.ks .nil)))))))) ?_
    refine gh fol ((0,.yld 0)::(kM o a (a.length:Int) [(12,.i (w64 (q+1)))])) ?_
    exact⟨M,(ofG 50 ((0,.yld 0)::(kM o a (a.length:Int) [(12,.i (w64 (q+1)))])),(.loop .ready none (ofG 30 [(5,.ptr 1 0)]) qb.xp qb.x1 qb.x2::(kB e (kA e (kD d a (kA o [])))))),Nat.lt_succ_self _,(Sub.refl _),_,_,_,rfl,g8⟩
   refine Goes.exit ?_
   obtain rfl:=si g8
   exact⟨rfl,_,rfl,(Sub.norm [] [some 0,some 1,some 2,some 3,some 4] (by rw[hB];rfl) rfl .nil (.kb rfl (.loop rfl (.kp .nil)) (.kb rfl (.cells (rc (.slice rfl) rn)) (.ks (.kb rfl (.same sn) (.kb rfl (.same sn) .nil))))))⟩
 rintro x s' ⟨rfl,I,rfl,hsub⟩
 obtain rfl:=si h
 exact⟨_,hsub,(gh2 [] (xP.refl _ _))⟩
def yX (N:Nat) (n:Int) (w:List Int):Option (List Int):=
 (zP N n).bind fun a=>
 (jr n w).bind fun _=>
 (zW N a n w).bind fun b=>
 some b
theorem qcT (N:Nat) (n:Int) (w:List Int) {res:List Int} (h:yX N n w=some res):qd ZT (.fn 27) [.i n,vl encI w] [] (vl encI res) []:=by
 unfold yX at h
 refine Uc Tryz.func27 rfl rfl (m:=30) rfl (rs:=[.tmp 4]) rfl (l:=(kE n w [])) rfl ?_
 refine sh fol (kE n w []) ?_
 obtain⟨b,c,h⟩:=bnd h
 refine sq (gq fol [1] (kE n w [(5,.ptr 1 0)]) (kA b (kQ b [])) (ac (hs (.callH 48 [.i n] [] [] (.slice 0 0 b.length b.length 1) (kA b [])) (vI [] [some 0] (yc N n c) .nil rfl rfl (.new rfl rfl (.same fa) rfl .nil) (rc (.same nI) rn) (.slice rfl) rfl)) az) ?_)
 refine sq ?_
 obtain⟨_,d,h⟩:=bnd h
 refine sq (gq fol [2] [(5,.ptr 1 0),(12,.func (.func 73) [] [.ptr 2 0,.ptr 3 0])] (kA b (kQ b (kD n w []))) (ac (hs (.callH 49 [.i n,vl encI w] (kA b (kQ b [])) [] (.func (.func 73) [] [.ptr 2 0,.ptr 3 0]) (kA b (kQ b (kD n w [])))) (vI [] [none,none,some 0,some 1] (qad n w d) .nil rfl rfl (.old rfl rfl (.old rfl rfl (.new rfl rfl (.cells (rc (.same nI) rn)) rfl (.new rfl rfl (.cells (rc (.same (qc encI _)) rn)) rfl .nil)))) (rc (.same nI) (rc (.same (qc encI _)) rn)) (.funcL (sn) (rc (.ptr rfl) (rc (.ptr rfl) rn))) rfl)) az) ?_)
 refine Goes.block ?_
 obtain⟨a,e,h⟩:=bnd h
 refine Goes.range fol rfl (gf:=73) (first:=[]) (captured:=[.ptr 2 0,.ptr 3 0]) (v:= .tuple []) (A2:=(kA a (kQ a (kD n w [.loop .ready none (ofG 30 [(5,.ptr 1 0)]) qb.xp qb.x1 qb.x2])))) (s':=(ofG 30 [(5,.ptr 1 0),(12,.func (.func 73) [] [.ptr 2 0,.ptr 3 0])],(kA a (kQ a (kD n w [.loop .exhausted none (ofG 30 [(5,.ptr 1 0)]) qb.xp qb.x1 qb.x2]))))) (x:= .normal) (by kernel_rfl) (by kernel_rfl) (qhk (show(Obl.callH 73 [.yld 4,.ptr 2 0,.ptr 3 0] (kA b (kQ b (kD n w [.loop .ready none (ofG 30 [(5,.ptr 1 0),(12,.func (.func 73) [] [.ptr 2 0,.ptr 3 0])]) qb.xp qb.x1 qb.x2]))) [4,1,0,2,3] (.tuple []) (kA a (kQ a (kD n w [.loop .ready none (ofG 30 [(5,.ptr 1 0)]) qb.xp qb.x1 qb.x2])))).Holds ZT from vI [some 4,some 1,some 0,some 2,some 3] [some 2,some 1,some 3,some 4,some 0] (xk N b n w e) (.kb rfl (.loop rfl (.kp (.drop .nil))) (.kb rfl (.cells (rc (.slice rfl) rn)) (.ks (.kb rfl (.cells (rc (.same nI) rn)) (.kb rfl (.cells (rc (.same (qc encI _)) rn)) .nil))))) rfl rfl (.back rfl rfl (.same fa) rfl (.back rfl rfl (.cells (rc (.slice rfl) rn)) rfl (.back rfl rfl (.cells (rc (.same nI) rn)) rfl (.back rfl rfl (.cells (rc (.same (qc encI _)) rn)) rfl (.back rfl rfl (.loop rfl (.kp .nil)) rfl .nil))))) (rc (.yld rfl) (rc (.ptr rfl) (rc (.ptr rfl) rn))) (.same (ql.tuple sn)) rfl)) (by kernel_rfl) ?_
 refine Goes.sub (show Sub (ofG 30 [(5,.ptr 1 0),(12,.func (.func 73) [] [.ptr 2 0,.ptr 3 0])],(kA a (kQ a (kD n w [.loop .exhausted none (ofG 30 [(5,.ptr 1 0)]) qb.xp qb.x1 qb.x2])))) (ofG 30 [(5,.ptr 0 0),(12,.func (.func 73) [] [.ptr 2 0,.ptr 3 0])],(.cells [.slice 1 0 a.length a.length 1]::(kA a (kD n w []))))from(Sub.norm [] [some 1,some 0,some 2,some 3] rfl rfl (.kp (.keep (.funcL (sn) (rc (.ptr rfl) (rc (.ptr rfl) rn))) .nil)) (.kb rfl (.cells (rc (.slice rfl) rn)) (.ks (.kb rfl (.same sn) (.kb rfl (.same sn) .nil)))))) ?_
 refine sh fol [(4,.slice 1 0 a.length a.length 1)] ?_
 refine Goes.ret ?_
 obtain rfl:=si h
 exact(gw2 [.slice 1 0 a.length a.length 1] (FzW.fz (Fz.sl (E:=encI) rfl rfl (nl rfl))))
def yP (N:Nat) (n:Int) (w:List Int):Option ((List Int)×Int):=
 (zx N n w).bind fun a=>
 if(!decide (a=0))=true then
 some ([],a)
 else
 (yX N n w).bind fun b=>
 some (b,0)
theorem qcW (N:Nat) (n:Int) (w:List Int) {res:(List Int)×Int} (h:yP N n w=some res):qd ZT (.fn 8) [.i n,vl encI w] [] (.tuple [vl encI res.1,.i res.2]) []:=by
 unfold yP at h
 refine Uc Tryz.func8 rfl rfl (m:=16) rfl (rs:=[.tmp 4,.tmp 5]) rfl (l:=(kE n w [])) rfl ?_
 refine sh fol (kE n w []) ?_
 refine sq ?_
 obtain⟨a,b,h⟩:=bnd h
 refine sq (gr fol [2] (kE n w [(6,.i a)]) (ac (cv (jA N n w b)) az) ?_)
 refine sh fol (kE n w [(6,.i a),(11,.bool (!decide (a=0)))]) ?_
 refine ihB h (fun e h=>?_) (fun e h=>?_)
 ·refine sh fol [(4,.nilslice),(5,.i a)] ?_
  refine Goes.ret ?_
  obtain rfl:=si h
  exact(gw2 [.nilslice,.i a] (FzW.tuple (vz.cons (FzW.nilv (E:=encI)) (vz.cons (Ua tI) vz.nil))))
 refine Goes.skip ?_
 obtain⟨d,c,h⟩:=bnd h
 refine sq (gr fol [2] [(4,vl encI d),(5,.i 0)] (ac (cv (qcT N n w c)) az) ?_)
 refine Goes.ret ?_
 obtain rfl:=si h
 exact(gw2 [vl encI d,.i 0] (FzW.tuple (vz.cons (Ua (ko encI _ (nl rfl))) (vz.cons (Ua tI) vz.nil))))
def zh (p:List Int) (b:Int):Nat->Int->Option (Unit⊕Int)
 |0,_=>none
 |K+1,a=>
  if a<b then
  (idx p a).bind fun c=>
  (idx p b).bind fun d=>
  if c=d then
  some (.inr 15)
  else
  zh p b K (w64 (a+1))
  else
  some (.inl ())
def zm (N:Nat) (p:List Int):Nat->Int->Option (Unit⊕Int)
 |0,_=>none
 |K+1,a=>
  if a<(p.length:Int)then
  ((idx p a).bind fun c=>
  if c<0 then
  some true
  else
  some (decide (c>=(p.length:Int))):Option Bool).bind fun d=>
  if d=true then
  some (.inr 15)
  else
  (zh p a N 0).bind (fun
  |(.inl ())=>
  zm N p K (w64 (a+1))
  |(.inr b)=>
  some (.inr b))
  else
  some (.inl ())
def jC (N:Nat) (p:List Int):Option Int:=
 if(p.length:Int)>256 then
 some 5
 else
 (zm N p N 0).bind (fun
 |(.inl ())=>
 some 0
 |(.inr a)=>
 some a)
theorem qba (N:Nat) (p:List Int) {res:Int} (h:jC N p=some res):qd ZT (.fn 9) [vl encI p] [] (.i res) []:=by
 unfold jC at h
 refine Uc Tryz.func9 rfl rfl (m:=42) rfl (rs:=[.tmp 2]) rfl (l:=(kO p [])) rfl ?_
 refine sh fol (kO p []) ?_
 refine sq ?_
 refine sh fol (kO p [(7,.bool (decide ((p.length:Int)>256)))]) ?_
 refine ihD h (fun w h=>?_) (fun w h=>?_)
 ·refine sh fol [(2,.i 5)] ?_
  refine Goes.ret ?_
  obtain rfl:=si h
  exact(gw2 [.i 5] (Ua tI))
 refine Goes.skip ?_
 refine sq ?_
 refine sh fol (kO p [(3,.i 0)]) ?_
 refine Goes.block ?_
 obtain⟨k,g3,h⟩:=bnd h
 refine Goes.imp (Q:=fun x s'=>(x= .exit 0/\(.inl ())=k/\Sub s' (ofG 42 [],[]))\/(x= .ret/\ ∃v,(.inr v)=k/\jB ZT [.tmp 2] (.i v) .ret s')) ?_ ?_
 ·refine Ub (fun M s=> ∃(c:Int),s=(ofG 42 (kO p [(3,.i c)]),[])/\zm N p M c=some k) ?_ (m:=N) ⟨_,rfl,g3⟩
  rintro M s ⟨c,rfl,g3⟩
  cases M with
  |zero=>simp only[zm]at g3;cases g3
  |succ M=>
   rw[zm]at g3
   refine sq ?_
   refine sh fol (kO p [(3,.i c),(11,.bool (decide (c<(p.length:Int))))]) ?_
   refine ihD g3 (fun y g3=>?_) (fun y g3=>?_)
   ·refine Goes.skip ?_
    refine sq (Goes.block ?_)
    refine sq ?_
    refine sq ?_
    obtain⟨z,a,g3⟩:=bnd g3
    refine Goes.cut (s':=(ofG 42 (kO p [(3,.i c),(27,.bool z)]),[])) ?_ ?_
    ·obtain⟨A,b,a⟩:=bnd a
     rcases wyD a with⟨n,a⟩|⟨n,a⟩
     ·obtain rfl:=si a
      exact tr fol [2,3,5] (kO p [(3,.i c),(27,.bool true)]) (ac (iv ze encI b) (ac (lv 0 ce3 encI b rfl) (ac (gw n) az)))
     obtain rfl:=si a
     exact tr fol [2,3,5,8,9] (kO p [(3,.i c),(27,.bool (decide (A>=(p.length:Int))))]) (ac (iv ze encI b) (ac (lv 0 ce3 encI b rfl) (ac (gw n) (ac (iv ze encI b) (ac (lv 0 ce3 encI b rfl) az)))))
    refine ihB g3 (fun o g3=>?_) (fun o g3=>?_)
    ·refine sh fol [(2,.i 15)] ?_
     refine Goes.ret ?_
     obtain rfl:=si g3
     exact Or.inr (⟨rfl,_,rfl,(gw2 [.i 15] (Ua tI))⟩)
    refine Goes.skip ?_
    refine sh fol (kO p [(3,.i c),(4,.i 0)]) ?_
    refine Goes.block ?_
    obtain⟨g,g12,g3⟩:=bnd g3
    refine Goes.imp (Q:=fun x s'=>(x= .exit 2/\(.inl ())=g/\Sub s' (ofG 42 (kO p [(3,.i c)]),[]))\/(x= .ret/\ ∃j,(.inr j)=g/\jB ZT [.tmp 2] (.i j) .ret s')) ?_ ?_
    ·refine Ub (fun M s=> ∃(d:Int),s=(ofG 42 (kO p [(3,.i c),(4,.i d)]),[])/\zh p c M d=some g) ?_ (m:=N) ⟨_,rfl,g12⟩
     rintro M s ⟨d,rfl,g12⟩
     cases M with
     |zero=>simp only[zh]at g12;cases g12
     |succ M=>
      rw[zh]at g12
      refine sq ?_
      refine sh fol (kO p [(3,.i c),(4,.i d),(30,.bool (decide (d<c)))]) ?_
      refine ihD g12 (fun q g12=>?_) (fun q g12=>?_)
      ·refine Goes.skip ?_
       refine sq (Goes.block ?_)
       obtain⟨r,e,g12⟩:=bnd g12
       obtain⟨t,f,g12⟩:=bnd g12
       refine sq (gr fol [2,3,6,7] (kO p [(3,.i c),(4,.i d),(41,.bool (decide (r=t)))]) (ac (iv ze encI e) (ac (lv 0 ce3 encI e rfl) (ac (iv ze encI f) (ac (lv 0 ce3 encI f rfl) az)))) ?_)
       refine ihD g12 (fun u g12=>?_) (fun u g12=>?_)
       ·refine sh fol [(2,.i 15)] ?_
        refine Goes.ret ?_
        obtain rfl:=si g12
        exact Or.inr (⟨rfl,_,rfl,(gw2 [.i 15] (Ua tI))⟩)
       refine Goes.skip ?_
       refine gh fol (kO p [(3,.i c),(4,.i (w64 (d+1)))]) ?_
       exact⟨M,(ofG 42 (kO p [(3,.i c),(4,.i (w64 (d+1)))]),[]),Nat.lt_succ_self _,(Sub.refl _),_,rfl,g12⟩
      refine Goes.exit ?_
      obtain rfl:=si g12
      exact Or.inl (⟨rfl,rfl,(Sub.keep [0,3] rfl rfl)⟩)
    rintro x s' (⟨rfl,rfl,hsub⟩|⟨rfl,B,rfl,hret⟩)
    ·try dsimp only at g3
     refine Goes.sub hsub ?_
     refine gh fol (kO p [(3,.i (w64 (c+1)))]) ?_
     exact⟨M,(ofG 42 (kO p [(3,.i (w64 (c+1)))]),[]),Nat.lt_succ_self _,(Sub.refl _),_,rfl,g3⟩
    try dsimp only at g3
    obtain rfl:=si g3
    exact Or.inr (⟨rfl,_,rfl,hret⟩)
   refine Goes.exit ?_
   obtain rfl:=si g3
   exact Or.inl (⟨rfl,rfl,(Sub.keep [] rfl rfl)⟩)
 rintro x s' (⟨rfl,rfl,hsub⟩|⟨rfl,C,rfl,hret⟩)
 ·try dsimp only at h
  refine Goes.sub hsub ?_
  refine sh fol [(2,.i 0)] ?_
  refine Goes.ret ?_
  obtain rfl:=si h
  exact(gw2 [.i 0] (Ua tI))
 try dsimp only at h
 obtain rfl:=si h
 exact hret
def qD (n:Int) (w:List Int):Nat->Int->Option (Unit⊕Bool)
 |0,_=>none
 |K+1,a=>
  if a<(w.length:Int)then
  (idx w a).bind fun b=>
  (if b=0 then
  some true
  else
  if b>n then
  some true
  else
  some (decide (b<(w64 (0-n)))):Option Bool).bind fun c=>
  if c=true then
  some (.inr false)
  else
  qD n w K (w64 (a+1))
  else
  some (.inl ())
def kg (N:Nat) (n:Int) (w:List Int):Option Bool:=
 (qD n w N 0).bind (fun
 |(.inl ())=>
 some (decide ((w.length:Int)<100000))
 |(.inr a)=>
 some a)
theorem zY (N:Nat) (n:Int) (w:List Int) {res:Bool} (h:kg N n w=some res):qd ZT (.fn 10) [.i n,vl encI w] [] (.bool res) []:=by
 unfold kg at h
 refine Uc Tryz.func10 rfl rfl (m:=30) rfl (rs:=[.tmp 4]) rfl (l:=(kE n w [])) rfl ?_
 refine sh fol (kE n w []) ?_
 refine sq ?_
 refine sh fol (kE n w [(7,vl encI w),(8,.i (w.length:Int)),(9,.i 0)]) ?_
 refine Goes.block ?_
 obtain⟨e,g2,h⟩:=bnd h
 refine Goes.imp (Q:=fun x s'=>(x= .exit 0/\(.inl ())=e/\Sub s' (ofG 30 (kU w []),[]))\/(x= .ret/\ ∃j,(.inr j)=e/\jB ZT [.tmp 4] (.bool j) .ret s')) ?_ ?_
 ·refine Ub (fun M s=> ∃(b:Int),s=(ofG 30 (kE n w (kF w (w.length:Int) b [])),[])/\qD n w M b=some e) ?_ (m:=N) ⟨_,rfl,g2⟩
  rintro M s ⟨b,rfl,g2⟩
  cases M with
  |zero=>simp only[qD]at g2;cases g2
  |succ M=>
   rw[qD]at g2
   refine sh fol (kE n w (kF w (w.length:Int) b [(10,.bool (decide (b<(w.length:Int))))])) ?_
   refine sq ?_
   refine ihD g2 (fun o g2=>?_) (fun o g2=>?_)
   ·refine Goes.skip ?_
    refine sq (Goes.block ?_)
    obtain⟨k,c,g2⟩:=bnd g2
    refine sq (gr fol [0,1] (kE n w ((6,.i k)::(kF w (w.length:Int) b []))) (ac (iv ze encI c) (ac (lv 0 ce3 encI c rfl) az)) ?_)
    refine sq ?_
    obtain⟨p,a,g2⟩:=bnd g2
    refine Goes.cut (s':=(ofG 30 (kE n w (kF w (w.length:Int) b [(25,.bool p)])),[])) ?_ ?_
    ·rcases wyD a with⟨d,a⟩|⟨d,a⟩
     ·obtain rfl:=si a
      exact tr fol [2] (kE n w (kF w (w.length:Int) b [(25,.bool true)])) (ac (gw d) az)
     rcases wyD a with⟨f,a⟩|⟨f,a⟩
     ·obtain rfl:=si a
      exact tr fol [2,7] (kE n w (kF w (w.length:Int) b [(25,.bool true)])) (ac (gw d) (ac (gw f) az))
     obtain rfl:=si a
     exact tr fol [2,7] (kE n w (kF w (w.length:Int) b [(25,.bool (decide (k<(w64 (0-n)))))])) (ac (gw d) (ac (gw f) az))
    refine ihB g2 (fun g g2=>?_) (fun g g2=>?_)
    ·refine sh fol [(4,.bool false)] ?_
     refine Goes.ret ?_
     obtain rfl:=si g2
     exact Or.inr (⟨rfl,_,rfl,(gw2 [.bool false] (Ua tB))⟩)
    refine Goes.skip ?_
    refine gh fol (kE n w (kF w (w.length:Int) (w64 (b+1)) [])) ?_
    exact⟨M,(ofG 30 (kE n w (kF w (w.length:Int) (w64 (b+1)) [])),[]),Nat.lt_succ_self _,(Sub.refl _),_,rfl,g2⟩
   refine Goes.exit ?_
   obtain rfl:=si g2
   exact Or.inl (⟨rfl,rfl,(Sub.keep [1] rfl rfl)⟩)
 rintro x s' (⟨rfl,rfl,hsub⟩|⟨rfl,q,rfl,hret⟩)
 ·try dsimp only at h
  refine Goes.sub hsub ?_
  refine sh fol [(4,.bool (decide ((w.length:Int)<100000)))] ?_
  refine Goes.ret ?_
  obtain rfl:=si h
  exact(gw2 [.bool (decide ((w.length:Int)<100000))] (Ua tB))
 try dsimp only at h
 obtain rfl:=si h
 exact hret
def zH (w:List Int):Nat->(List Int)->Int->Option (List Int)
 |0,_,_=>none
 |K+1,b,a=>
  if a>=0 then
  (idx w a).bind fun c=>
  (app 8 b [w64 (0-c)]).bind fun d=>
  zH w K d (w64 (a-1))
  else
  some b
def jH (N:Nat) (w:List Int):Option (List Int):=
 (zH w N ([]:List Int) (w64 ((w.length:Int)-1))).bind fun a=>
 some a
theorem xx (N:Nat) (w:List Int) {res:List Int} (h:jH N w=some res):qd ZT (.fn 11) [vl encI w] [] (vl encI res) []:=by
 unfold jH at h
 refine Uc Tryz.func11 rfl rfl (m:=21) rfl (rs:=[.tmp 2]) rfl (l:=(kO w [])) rfl ?_
 refine sh fol (kO w []) ?_
 refine sh fol (kO w (kAF [])) ?_
 refine sq ?_
 refine sh fol (kO w (kAF [(4,.i (w64 ((w.length:Int)-1)))])) ?_
 refine Goes.block ?_
 obtain⟨j,g4,h⟩:=bnd h
 refine Goes.imp (Q:=fun x s'=>(x= .exit 0/\ ∃e,e=j/\Sub s' (ofG 21 (kZ e []),(kA e [])))) ?_ ?_
 ·refine Goes.sub (s':=(ofG 21 (kO w [(3,.gslice 0 ([]:List Int).length 1),(4,.i (w64 ((w.length:Int)-1)))]),kV)) (Sub.norm [] [none] rfl rfl (.keep (.same (qc encI _)) (.keep .nil (.keep (.same nI) .nil))) (.fresh .nil)) ?_
  refine Ub (fun M s=> ∃(a:List Int) (b:Int),s=(ofG 21 (kO w (kZ a [(4,.i b)])),(kA a []))/\zH w M a b=some j) ?_ (m:=N) ⟨_,_,rfl,g4⟩
  rintro M s ⟨a,b,rfl,g4⟩
  cases M with
  |zero=>simp only[zH]at g4;cases g4
  |succ M=>
   rw[zH]at g4
   refine sq ?_
   refine sh fol (kO w (kZ a [(4,.i b),(9,.bool (decide (b>=0)))])) ?_
   refine ihD g4 (fun k g4=>?_) (fun k g4=>?_)
   ·refine Goes.skip ?_
    refine sq (Goes.block ?_)
    obtain⟨g,c,g4⟩:=bnd g4
    obtain⟨d,f,g4⟩:=bnd g4
    refine gq fol [3,4,7] (kO w [(3,.gslice 2 d.length 1),(4,.i b)]) (kAB (w64 (0-g)) (kA d [])) (ac (iv ze encI c) (ac (lv 0 ce3 encI c rfl) (ac (hs (.run [0,1] (zo ZT [22,22] (.gslice 0 a.length 1) (.slice 1 0 1 1 1)) (kA a [.cells [.i (w64 (0-g))]]) (.gslice 2 d.length 1) (kAB (w64 (0-g)) (kA d [])) true) (vX ze (E:=encI) rfl (qfm (E:=encI) (ys:=[w64 (0-g)]) rfl rfl rfl rfl) (qdS (E:=encI) (l:=a) rfl rfl rfl f rfl))) az))) ?_
    refine gh fol (kO w [(3,.gslice 2 d.length 1),(4,.i (w64 (b-1)))]) ?_
    exact⟨M,(ofG 21 (kO w (kZ d [(4,.i (w64 (b-1)))])),(kA d [])),Nat.lt_succ_self _,(Sub.norm [] [some 2] rfl rfl (.keep (.same (qc encI _)) (.keep (.gslice rfl) (.keep (.same nI) .nil))) (.ks .nil)),_,_,rfl,g4⟩
   refine Goes.exit ?_
   obtain rfl:=si g4
   exact⟨rfl,_,rfl,(Sub.keep [3] rfl rfl)⟩
 rintro x s' ⟨rfl,e,rfl,hsub⟩
 refine Goes.sub hsub ?_
 refine sh fol [(2,.gslice 0 e.length 1)] ?_
 refine Goes.ret ?_
 obtain rfl:=si h
 exact(gw2 [.gslice 0 e.length 1] (FzW.fz (Fz.gs (E:=encI) rfl rfl (nl rfl))))
def zq (a:List Int) (b:List Int):Nat->Int->Option (Unit⊕Bool)
 |0,_=>none
 |K+1,c=>
  if c<(a.length:Int)then
  (idx a c).bind fun d=>
  (idx b c).bind fun e=>
  if(!decide (d=e))=true then
  some (.inr false)
  else
  zq a b K (w64 (c+1))
  else
  some (.inl ())
def jg (N:Nat) (a:List Int) (b:List Int):Option Bool:=
 if(!decide ((a.length:Int)=(b.length:Int)))=true then
 some false
 else
 (zq a b N 0).bind (fun
 |(.inl ())=>
 some true
 |(.inr c)=>
 some c)
theorem xc (N:Nat) (a:List Int) (b:List Int) {res:Bool} (h:jg N a b=some res):qd ZT (.fn 12) [vl encI a,vl encI b] [] (.bool res) []:=by
 unfold jg at h
 refine Uc Tryz.func12 rfl rfl (m:=26) rfl (rs:=[.tmp 4]) rfl (l:=(kO a (kU b []))) rfl ?_
 refine sh fol (kO a (kU b [])) ?_
 refine sq ?_
 refine sh fol (kO a (kU b [(10,.bool (!decide ((a.length:Int)=(b.length:Int))))])) ?_
 refine ihB h (fun j h=>?_) (fun j h=>?_)
 ·refine sh fol [(4,.bool false)] ?_
  refine Goes.ret ?_
  obtain rfl:=si h
  exact(gw2 [.bool false] (Ua tB))
 refine Goes.skip ?_
 refine sq ?_
 refine sh fol (kO a (kU b [(5,.i 0)])) ?_
 refine Goes.block ?_
 obtain⟨f,g3,h⟩:=bnd h
 refine Goes.imp (Q:=fun x s'=>(x= .exit 0/\(.inl ())=f/\Sub s' (ofG 26 [],[]))\/(x= .ret/\ ∃g,(.inr g)=f/\jB ZT [.tmp 4] (.bool g) .ret s')) ?_ ?_
 ·refine Ub (fun M s=> ∃(c:Int),s=(ofG 26 (kO a (kU b [(5,.i c)])),[])/\zq a b M c=some f) ?_ (m:=N) ⟨_,rfl,g3⟩
  rintro M s ⟨c,rfl,g3⟩
  cases M with
  |zero=>simp only[zq]at g3;cases g3
  |succ M=>
   rw[zq]at g3
   refine sq ?_
   refine sh fol (kO a (kU b [(5,.i c),(14,.bool (decide (c<(a.length:Int))))])) ?_
   refine ihD g3 (fun k g3=>?_) (fun k g3=>?_)
   ·refine Goes.skip ?_
    refine sq (Goes.block ?_)
    obtain⟨n,d,g3⟩:=bnd g3
    obtain⟨o,e,g3⟩:=bnd g3
    refine sq (gr fol [2,3,6,7] (kO a (kU b [(5,.i c),(25,.bool (!decide (n=o)))])) (ac (iv ze encI d) (ac (lv 0 ce3 encI d rfl) (ac (iv ze encI e) (ac (lv 0 ce3 encI e rfl) az)))) ?_)
    refine ihB g3 (fun p g3=>?_) (fun p g3=>?_)
    ·refine sh fol [(4,.bool false)] ?_
     refine Goes.ret ?_
     obtain rfl:=si g3
     exact Or.inr (⟨rfl,_,rfl,(gw2 [.bool false] (Ua tB))⟩)
    refine Goes.skip ?_
    refine gh fol (kO a (kU b [(5,.i (w64 (c+1)))])) ?_
    exact⟨M,(ofG 26 (kO a (kU b [(5,.i (w64 (c+1)))])),[]),Nat.lt_succ_self _,(Sub.refl _),_,rfl,g3⟩
   refine Goes.exit ?_
   obtain rfl:=si g3
   exact Or.inl (⟨rfl,rfl,(Sub.keep [] rfl rfl)⟩)
 rintro x s' (⟨rfl,rfl,hsub⟩|⟨rfl,q,rfl,hret⟩)
 ·try dsimp only at h
  refine Goes.sub hsub ?_
  refine sh fol [(4,.bool true)] ?_
  refine Goes.ret ?_
  obtain rfl:=si h
  exact(gw2 [.bool true] (Ua tB))
 try dsimp only at h
 obtain rfl:=si h
 exact hret
def jT (a:List Int) (b:List Int):Option (List Int):=
 (app 8 ([]:List Int) a).bind fun c=>
 (app 8 c b).bind fun d=>
 some d
theorem qab (a:List Int) (b:List Int) {res:List Int} (h:jT a b=some res):qd ZT (.fn 14) [vl encI a,vl encI b] [] (vl encI res) []:=by
 unfold jT at h
 refine Uc Tryz.func14 rfl rfl (m:=10) rfl (rs:=[.tmp 4]) rfl (l:=(kO a (kU b []))) rfl ?_
 refine sh fol (kO a (kU b [])) ?_
 obtain⟨c,d,h⟩:=bnd h
 obtain⟨e,f,h⟩:=bnd h
 refine sq (gq fol [2,4] [(4,.oslice 2 e.length 1)] (.dead:: .dead::(kA e [])) (ac (hs (.run [0] (zo ZT [22,22] (.slice 0 0 0 0 1) (vl encI a)) [.cells []] (.oslice 1 c.length 1) (.dead::(kA c [])) true) (vX ze (E:=encI) rfl (qde (E:=encI) rfl _) (dst_z (E:=encI) rfl rfl rfl d rfl))) (ac (hs (.run [1] (zo ZT [22,22] (.oslice 1 c.length 1) (vl encI b)) (.dead::(kA c [])) (.oslice 2 e.length 1) (.dead:: .dead::(kA e [])) true) (vX ze (E:=encI) rfl (qde (E:=encI) rfl _) (qe8 (E:=encI) (l:=c) rfl rfl rfl f rfl))) az)) ?_)
 refine Goes.ret ?_
 obtain rfl:=si h
 exact(gw2 [.oslice 2 e.length 1] (FzW.fz (Fz.os (E:=encI) rfl rfl (nl rfl))))
end Go.Av
