/-
  Walks of functions: what each computes, as a plain function.
-/
import Derived.Test.YtbphjicicbikhaaGreatDoorAvJnB7
noncomputable section
namespace Go.Av
open Go.Proofs Go.RowKit
abbrev ZT:=Tryz.prog
set_option linter.unusedSectionVars false
set_option linter.unusedVariables false
set_option linter.unusedSimpArgs false
set_option maxRecDepth 100000
abbrev kA (a:List Int) (x:List Blk):List Blk:= .cells (a.flatMap encI.c)::x
abbrev kB {α0:Type} (a:List α0) (x:List Blk):List Blk:= .cells [.slice 2 0 a.length a.length 1]::x
abbrev kC (a:Int) (b:List Int) (x:List Blk):List Blk:= .cells [.i a]:: .cells [vl encI b]::x
abbrev kD {α1:Type} (a:List Int) (b:List α1) (x:List (Nat×AV)):List (Nat×AV):=(1,vl encI a)::(5,.gslice 0 b.length 1)::x
abbrev kE {α1:Type} {α2:Type} (a:List Int) (b:List α1) (c:List α2) (d:Int) (x:List (Nat×AV)):List (Nat×AV):=(0,vl encI a)::(3,.gslice 0 b.length 1)::(4,.slice 1 0 c.length c.length 1)::(5,.i d)::x
abbrev kF (a:List Bool) (x:List Blk):List Blk:= .cells (a.flatMap qd2.c)::x
abbrev kG (a:Int) (b:List Int) (x:List (Nat×AV)):List (Nat×AV):=(0,.i a)::(1,vl encI b)::x
abbrev kH {α0:Type} (a:List α0) (x:List Blk):List Blk:= .cells [.slice 1 0 a.length a.length 1]::x
abbrev kI {α0:Type} (a:List α0) (b:List Int) (c:Int) (d:Int) (x:List (Nat×AV)):List (Nat×AV):=(4,.slice 5 0 a.length a.length 1)::(10,vl encI b)::(11,.i c)::(12,.i d)::x
abbrev kJ (a:Option (List Int)):List Blk:=[.cells ((hof a).flatMap encI.c)]
abbrev kK {α0:Type} (a:List α0) (b:Int) (c:Int) (d:Int) (e:Int):List (Nat×AV):=[(7,.gslice 1 a.length 1),(8,.i b),(9,.i c),(10,.i d),(11,.i e)]
abbrev kL (a:List Int) (x:List (Nat×AV)):List (Nat×AV):=(0,vl encI a)::x
abbrev kM {α0:Type} (a:List α0) (x:List (Nat×AV)):List (Nat×AV):=(3,.slice 0 0 a.length a.length 1)::x
abbrev kN {α0:Type} (a:List α0) (x:List (Nat×AV)):List (Nat×AV):=(5,.gslice 0 a.length 1)::x
abbrev kO (a:List Int) (b:List Int) (c:List Int):List Blk:=[.frozen (a.flatMap encI.c),.frozen [vl encI b,vl encI c,.gslice 1 a.length 1]]
abbrev kP (a:List Int) (b:List Int) (c:List Int):List Blk:=[.frozen (a.flatMap encI.c),.frozen [.gslice 1 a.length 1,vl encI b,vl encI c]]
abbrev kQ (a:List Int) (b:Int) (c:Int) (x:List (Nat×AV)):List (Nat×AV):=(7,vl encI a)::(8,.i b)::(9,.i c)::x
abbrev kR {α0:Type} (a:List α0) (x:List (Nat×AV)):List (Nat×AV):=(3,.gslice 0 a.length 1)::x
abbrev kS {α0:Type} (a:List α0) (x:List Blk):List Blk:= .cells [.slice 0 0 a.length a.length 1]::x
abbrev kT (a:List Int) (b:Int) (c:Int) (x:List (Nat×AV)):List (Nat×AV):=(10,vl encI a)::(11,.i b)::(12,.i c)::x
abbrev kU (a:Int) (b:Int):List (Nat×AV):=[(12,.i a),(13,.i b)]
abbrev kV (a:List Int) (b:Int) (c:Int):List (Nat×AV):=[(23,vl encI a),(24,.i b),(25,.i c)]
abbrev kW (a:Int) (b:Int) (x:List Blk):List Blk:= .cells [.i a,.i b]::x
abbrev kX (a:Int):List (Nat×AV):=[(5,.ptr 1 0),(7,.i a),(8,.ptr 3 0)]
abbrev kY {α0:Type} (a:List α0) (x:List (Nat×AV)):List (Nat×AV):=(4,.slice 5 0 a.length a.length 1)::x
abbrev kZ {α0:Type} (a:List α0) (x:List Blk):List Blk:= .cells [.oslice 4 a.length 1]::x
abbrev kAA (a:Int) (x:List Blk):List Blk:= .cells [.i a]:: .cells [.slice 1 0 1 1 1]::x
abbrev kAB (x:List (Nat×AV)):List (Nat×AV):=(4,.ptr 1 0)::(6,.ptr 3 0)::x
abbrev kAC (a:Int) (x:List (Nat×AV)):List (Nat×AV):=(1,.ptr 4 0)::(2,.ptr 5 0)::(4,.i a)::x
abbrev kAD {α0:Type} (a:List α0) (x:List (Nat×AV)):List (Nat×AV):=(3,.oslice 0 a.length 1)::x
abbrev kAE {α0:Type} (a:List α0) (b:Int) (c:Int) (x:List (Nat×AV)):List (Nat×AV):=(0,.gslice 0 a.length 1)::(2,.i b)::(3,.i c)::x
abbrev kAF {α0:Type} (a:List α0) (b:Int) (x:List (Nat×AV)):List (Nat×AV):=(7,.gslice 1 a.length 1)::(8,.i b)::x
abbrev kAG (x:List (Nat×AV)):List (Nat×AV):=(3,.nilslice)::x
abbrev kAH {α0:Type} (a:List α0) (x:List (Nat×AV)):List (Nat×AV):=(5,.gslice 3 a.length 1)::x
abbrev kAI (a:Int) (x:List Blk):List Blk:= .dead:: .cells [.i a]::x
abbrev kAJ (a:Int) (b:Int):List (Nat×AV):=[(9,.i a),(10,.i b)]
abbrev kAK {α0:Type} (a:List α0) (x:List (Nat×AV)):List (Nat×AV):=(4,.slice 1 0 a.length a.length 1)::x
abbrev kAL (x:List Blk):List Blk:= .cells [.nilslice]::x
abbrev kAM (x:List (Nat×AV)):List (Nat×AV):=(5,.gslice 0 ([]:List (List Int)).length 1)::x
abbrev kAN (a:Int):List (Nat×AV):=[(7,.i a)]
abbrev kAO (a:Int):List (Nat×AV):=[(4,.i a)]
abbrev kAP:List Blk:=[.cells (([]:List Int).flatMap encI.c)]
abbrev kAQ:List (Nat×AV):=[(4,.bool false)]
abbrev kAR (a:Int) (b:List Int):List AV:=[.i a,vl encI b]
abbrev kAS (x:List (Nat×AV)):List (Nat×AV):=(5,.ptr 1 0)::x
abbrev kAT (x:List (Nat×AV)):List (Nat×AV):=(5,.ptr 0 0)::x
abbrev kAU {α0:Type} (a:List α0) (x:List (Nat×AV)):List (Nat×AV):=(6,.gslice 2 a.length 1)::x
abbrev kAV {α0:Type} (a:List α0):List (Nat×AV):=[(4,.gslice 0 a.length 1)]
abbrev kAW (a:Int):List Blk:=[.cells [.i a]]
abbrev kAX {α0:Type} (a:List α0) (x:List Blk):List Blk:= .cells [.oslice 7 a.length 1]::x
abbrev kAY:List AV:=[.ptr 2 0,.ptr 3 0]
abbrev kAZ (x:List (Nat×AV)):List (Nat×AV):=(4,.ptr 1 0)::x
abbrev kAa {α0:Type} (a:Option (List α0)) (x:List (Nat×AV)):List (Nat×AV):=(3,hsl 0 1 a)::x
abbrev kAb (a:Int):List (Nat×AV):=[(12,.i a),(13,.i 0)]
theorem fol:Tryz.prog.follows .mixedOrders=true:=by kernel_rfl
theorem qI:SlT ZT 22 3 1 8:=⟨by kernel_rfl,by kernel_rfl,by kernel_rfl,by kernel_rfl⟩
theorem ce3:CeT ZT 3:=⟨by kernel_rfl,by kernel_rfl⟩
theorem sl169:SlT ZT 169 26 1 8:=⟨by kernel_rfl,by kernel_rfl,by kernel_rfl,by kernel_rfl⟩
theorem ce26:CeT ZT 26:=⟨by kernel_rfl,by kernel_rfl⟩
theorem yg:SlT ZT 25 22 1 24:=⟨by kernel_rfl,by kernel_rfl,by kernel_rfl,by kernel_rfl⟩
noncomputable abbrev qa:Code:=(Tryz.f64.body.getD .skip).x2.x2.x2.x1.x2.x1
theorem qbY:CeT ZT 22:=⟨by kernel_rfl,by kernel_rfl⟩
theorem qiI:MpT ZT 223 3 4 (.int .i64) (.bool false):=⟨by kernel_rfl,by kernel_rfl,by kernel_rfl⟩
theorem qep:SlT ZT 104 4 1 1:=⟨by kernel_rfl,by kernel_rfl,by kernel_rfl,by kernel_rfl⟩
theorem ce4:CeT ZT 4:=⟨by kernel_rfl,by kernel_rfl⟩
noncomputable abbrev qh:Code:=(Tryz.f137.body.getD .skip).x2.x2.x2.x1.x2.x1.x1.x2.x2.x1.x1.x2.x2.x2.x1.x2.x1
noncomputable abbrev qf:Code:=(Tryz.f66.body.getD .skip).x2.x2.x1.x2.x1
theorem it3:Tryz.prog.underlying 3=some (.int .i64):=by kernel_rfl
def yF (n:Int) (c:Int):Option Bool:=
 (if(!decide (c=0))=true then
 if c>(w64 (0-n))then
 some (decide (c<n))
 else
 some false
 else
 some false:Option Bool).bind fun a=>
 some a
theorem qcN (n:Int) (c:Int) {res:Bool} (h:yF n c=some res):qg ZT (.fn 62) [.i n,.i c] [] (.bool res) []:=by
 unfold yF at h
 refine Uc Tryz.func62 rfl rfl (m:=18) rfl (rs:=[.tmp 4]) rfl (l:=[(0,.i n),(1,.i c)]) rfl ?_
 refine sh fol [(0,.i n),(1,.i c)] ?_
 refine sq ?_
 obtain⟨e,a,h⟩:=bnd h
 refine Goes.cut (s':=(ofG 18 [(4,.bool e)],[])) ?_ ?_
 ·rcases wyB a with⟨b,a⟩|⟨b,a⟩
  ·rcases wyD a with⟨d,a⟩|⟨d,a⟩
   ·obtain rfl:=si a
    exact tr fol [2,8] [(4,.bool (decide (c<n)))] (ac (gw b) (ac (gw d) az))
   obtain rfl:=si a
   exact tr fol [2,8] kAQ (ac (gw b) (ac (gw d) az))
  obtain rfl:=si a
  exact tr fol [2] kAQ (ac (gw b) az)
 refine Goes.ret ?_
 obtain rfl:=si h
 exact(gw2 [.bool e] (Ua tB))
def zA (n:Int) (w:List Int):Nat->Int->Option (Unit⊕Int)
 |0,_=>none
 |K+1,a=>
  if a<(w.length:Int)then
  (idx w a).bind fun b=>
  (yF n b).bind fun c=>
  if(!c)=true then
  some (.inr 3)
  else
  zA n w K (w64 (a+1))
  else
  some (.inl ())
def vo (N:Nat) (n:Int) (w:List Int):Option Int:=
 (if n<1 then
 some true
 else
 some (decide (n>12)):Option Bool).bind fun b=>
 if b=true then
 some 3
 else
 if(w.length:Int)>200 then
 some 5
 else
 (zA n w N 0).bind (fun
 |(.inl ())=>
 some 0
 |(.inr a)=>
 some a)
theorem qbO (N:Nat) (n:Int) (w:List Int) {res:Int} (h:vo N n w=some res):qg ZT (.fn 11) (kAR n w) [] (.i res) []:=by
 unfold vo at h
 refine Uc Tryz.func11 rfl rfl (m:=28) rfl (rs:=[.tmp 4]) rfl (l:=(kG n w [])) rfl ?_
 refine sh fol (kG n w []) ?_
 refine sq ?_
 refine sq ?_
 obtain⟨p,a,h⟩:=bnd h
 refine Goes.cut (s':=(ofG 28 (kG n w [(11,.bool p)]),[])) ?_ ?_
 ·rcases wyD a with⟨e,a⟩|⟨e,a⟩
  ·obtain rfl:=si a
   exact tr fol [2] (kG n w [(11,.bool true)]) (ac (gw e) az)
  obtain rfl:=si a
  exact tr fol [2] (kG n w [(11,.bool (decide (n>12)))]) (ac (gw e) az)
 refine ihB h (fun q h=>?_) (fun q h=>?_)
 ·refine sh fol [(4,.i 3)] ?_
  refine Goes.ret ?_
  obtain rfl:=si h
  exact(gw2 [.i 3] (Ua tI))
 refine Goes.skip ?_
 refine sq ?_
 refine sh fol (kG n w [(14,.bool (decide ((w.length:Int)>200)))]) ?_
 refine ihD h (fun r h=>?_) (fun r h=>?_)
 ·refine sh fol [(4,.i 5)] ?_
  refine Goes.ret ?_
  obtain rfl:=si h
  exact(gw2 [.i 5] (Ua tI))
 refine Goes.skip ?_
 refine sq ?_
 refine sh fol (kG n w [(5,.i 0)]) ?_
 refine Goes.block ?_
 obtain⟨f,g7,h⟩:=bnd h
 refine Goes.imp (Q:=fun x s'=>(x= .exit 0/\(.inl ())=f/\Sub s' (ofG 28 [],[]))\/(x= .ret/\ ∃o,(.inr o)=f/\yG ZT [.tmp 4] (.i o) .ret s')) ?_ ?_
 ·refine Ub (fun M s=> ∃(c:Int),s=(ofG 28 (kG n w [(5,.i c)]),[])/\zA n w M c=some f) ?_ (m:=N) ⟨_,rfl,g7⟩
  rintro M s ⟨c,rfl,g7⟩
  cases M with
  |zero=>simp only[zA]at g7;cases g7
  |succ M=>
   rw[zA]at g7
   refine sq ?_
   refine sh fol (kG n w [(5,.i c),(18,.bool (decide (c<(w.length:Int))))]) ?_
   refine ihD g7 (fun t g7=>?_) (fun t g7=>?_)
   ·refine Goes.skip ?_
    refine sq (Goes.block ?_)
    obtain⟨g,b,g7⟩:=bnd g7
    obtain⟨j,d,g7⟩:=bnd g7
    refine sq (gr fol [3,4,5] (kG n w [(5,.i c),(27,.bool (!j))]) (ac (iv qI encI b) (ac (lv 0 ce3 encI b rfl) (ac (cv (qcN n g d)) az))) ?_)
    refine ihB g7 (fun k g7=>?_) (fun k g7=>?_)
    ·refine sh fol [(4,.i 3)] ?_
     refine Goes.ret ?_
     obtain rfl:=si g7
     exact Or.inr (⟨rfl,_,rfl,(gw2 [.i 3] (Ua tI))⟩)
    refine Goes.skip ?_
    refine gh fol (kG n w [(5,.i (w64 (c+1)))]) ?_
    exact⟨M,(ofG 28 (kG n w [(5,.i (w64 (c+1)))]),[]),Nat.lt_succ_self _,(Sub.refl _),_,rfl,g7⟩
   refine Goes.exit ?_
   obtain rfl:=si g7
   exact Or.inl (⟨rfl,rfl,(Sub.keep [] rfl rfl)⟩)
 rintro x s' (⟨rfl,rfl,hsub⟩|⟨rfl,u,rfl,hret⟩)
 ·try dsimp only at h
  refine Goes.sub hsub ?_
  refine sh fol [(4,.i 0)] ?_
  refine Goes.ret ?_
  obtain rfl:=si h
  exact(gw2 [.i 0] (Ua tI))
 try dsimp only at h
 obtain rfl:=si h
 exact hret
def zZ (l:List Int):Nat->Int->Option (Unit⊕Int)
 |0,_=>none
 |K+1,a=>
  if a<(l.length:Int)then
  (idx l a).bind fun b=>
  if(!decide (b=0))=true then
  some (.inr b)
  else
  zZ l K (w64 (a+1))
  else
  some (.inl ())
def yz (N:Nat) (l:List Int):Option Int:=
 (zZ l N 0).bind (fun
 |(.inl ())=>
 some 0
 |(.inr a)=>
 some a)
theorem qbm (N:Nat) (l:List Int) {res:Int} (h:yz N l=some res):qg ZT (.fn 67) [vl encI l] [] (.i res) []:=by
 unfold yz at h
 refine Uc Tryz.func67 rfl rfl (m:=15) rfl (rs:=[.tmp 2]) rfl (l:=(kL l [])) rfl ?_
 refine sh fol (kL l []) ?_
 refine sq ?_
 refine sh fol [(5,vl encI l),(6,.i (l.length:Int)),(7,.i 0)] ?_
 refine Goes.block ?_
 obtain⟨d,g2,h⟩:=bnd h
 refine Goes.imp (Q:=fun x s'=>(x= .exit 0/\(.inl ())=d/\Sub s' (ofG 15 [],[]))\/(x= .ret/\ ∃e,(.inr e)=d/\yG ZT [.tmp 2] (.i e) .ret s')) ?_ ?_
 ·refine Ub (fun M s=> ∃(a:Int),s=(ofG 15 ((5,vl encI l)::(6,.i (l.length:Int))::(kAN a)),[])/\zZ l M a=some d) ?_ (m:=N) ⟨_,rfl,g2⟩
  rintro M s ⟨a,rfl,g2⟩
  cases M with
  |zero=>simp only[zZ]at g2;cases g2
  |succ M=>
   rw[zZ]at g2
   refine sh fol [(5,vl encI l),(6,.i (l.length:Int)),(7,.i a),(8,.bool (decide (a<(l.length:Int))))] ?_
   refine sq ?_
   refine ihD g2 (fun f g2=>?_) (fun f g2=>?_)
   ·refine Goes.skip ?_
    refine sq (Goes.block ?_)
    obtain⟨c,b,g2⟩:=bnd g2
    refine sq (gr fol [0,1] ((4,.i c)::(5,vl encI l)::(6,.i (l.length:Int))::(kAN a)) (ac (iv sl169 encI b) (ac (lv 0 ce26 encI b rfl) az)) ?_)
    refine sh fol [(4,.i c),(5,vl encI l),(6,.i (l.length:Int)),(7,.i a),(12,.bool (!decide (c=0)))] ?_
    refine ihB g2 (fun g g2=>?_) (fun g g2=>?_)
    ·refine sh fol [(2,.i c)] ?_
     refine Goes.ret ?_
     obtain rfl:=si g2
     exact Or.inr (⟨rfl,_,rfl,(gw2 [.i c] (Ua tI))⟩)
    refine Goes.skip ?_
    refine gh fol ((5,vl encI l)::(6,.i (l.length:Int))::(kAN (w64 (a+1)))) ?_
    exact⟨M,(ofG 15 ((5,vl encI l)::(6,.i (l.length:Int))::(kAN (w64 (a+1)))),[]),Nat.lt_succ_self _,(Sub.refl _),_,rfl,g2⟩
   refine Goes.exit ?_
   obtain rfl:=si g2
   exact Or.inl (⟨rfl,rfl,(Sub.keep [] rfl rfl)⟩)
 rintro x s' (⟨rfl,rfl,hsub⟩|⟨rfl,j,rfl,hret⟩)
 ·try dsimp only at h
  refine Goes.sub hsub ?_
  refine sh fol [(2,.i 0)] ?_
  refine Goes.ret ?_
  obtain rfl:=si h
  exact(gw2 [.i 0] (Ua tI))
 try dsimp only at h
 obtain rfl:=si h
 exact hret
def zP (holds:Bool) (e:Int):Option Int:=
 if holds=true then
 some e
 else
 some 0
theorem vQ (holds:Bool) (e:Int) {res:Int} (h:zP holds e=some res):qg ZT (.fn 68) [.bool holds,.i e] [] (.i res) []:=by
 unfold zP at h
 refine Uc Tryz.func68 rfl rfl (m:=7) rfl (rs:=[.tmp 4]) rfl (l:=[(0,.bool holds),(1,.i e)]) rfl ?_
 refine sh fol [(0,.bool holds),(1,.i e)] ?_
 refine sq ?_
 refine sh fol [(1,.i e),(5,.bool holds)] ?_
 refine ihB h (fun a h=>?_) (fun a h=>?_)
 ·refine sh fol (kAO e) ?_
  refine Goes.ret ?_
  obtain rfl:=si h
  exact(gw2 [.i e] (Ua tI))
 refine Goes.skip ?_
 refine sh fol [(4,.i 0)] ?_
 refine Goes.ret ?_
 obtain rfl:=si h
 exact(gw2 [.i 0] (Ua tI))
def jY (n:Int):Option Int:=
 (if n<1 then
 (zP true 3).bind fun a=>
 some a
 else
 (zP (decide (n>12)) 3).bind fun b=>
 some b:Option Int).bind fun c=>
 some c
theorem qa1 (n:Int) {res:Int} (h:jY n=some res):qg ZT (.fn 117) [.i n] [] (.i res) []:=by
 unfold jY at h
 refine Uc Tryz.func117 rfl rfl (m:=10) rfl (rs:=[.tmp 2]) rfl (l:=[(0,.i n)]) rfl ?_
 refine sh fol [(0,.i n)] ?_
 refine sq ?_
 obtain⟨e,a,h⟩:=bnd h
 refine Goes.cut (s':=(ofG 10 [(2,.i e)],[])) ?_ ?_
 ·rcases wyD a with⟨d,a⟩|⟨d,a⟩
  ·obtain⟨f,b,a⟩:=bnd a
   obtain rfl:=si a
   exact tr fol [2,6] [(2,.i f)] (ac (gw d) (ac (cv (vQ true 3 b)) az))
  obtain⟨g,c,a⟩:=bnd a
  obtain rfl:=si a
  exact tr fol [2,6] [(2,.i g)] (ac (gw d) (ac (cv (vQ (decide (n>12)) 3 c)) az))
 refine Goes.ret ?_
 obtain rfl:=si h
 exact(gw2 [.i e] (Ua tI))
def vR (n:Int) (letter:Int):Option Bool:=
 (if letter=0 then
 some true
 else
 if letter<=(w64 (0-n))then
 some true
 else
 some (decide (letter>=n)):Option Bool).bind fun a=>
 some a
theorem qcq (n:Int) (letter:Int) {res:Bool} (h:vR n letter=some res):qg ZT (.fn 134) [.i n,.i letter] [] (.bool res) []:=by
 unfold vR at h
 refine Uc Tryz.func134 rfl rfl (m:=18) rfl (rs:=[.tmp 4]) rfl (l:=[(0,.i n),(1,.i letter)]) rfl ?_
 refine sh fol [(0,.i n),(1,.i letter)] ?_
 refine sq ?_
 obtain⟨d,a,h⟩:=bnd h
 refine Goes.cut (s':=(ofG 18 [(4,.bool d)],[])) ?_ ?_
 ·rcases wyD a with⟨b,a⟩|⟨b,a⟩
  ·obtain rfl:=si a
   exact tr fol [2] [(4,.bool true)] (ac (gw b) az)
  rcases wyD a with⟨c,a⟩|⟨c,a⟩
  ·obtain rfl:=si a
   exact tr fol [2,8] [(4,.bool true)] (ac (gw b) (ac (gw c) az))
  obtain rfl:=si a
  exact tr fol [2,8] [(4,.bool (decide (letter>=n)))] (ac (gw b) (ac (gw c) az))
 refine Goes.ret ?_
 obtain rfl:=si h
 exact(gw2 [.bool d] (Ua tB))
def jD (a:Int) (b:Int):Option Bool:=
 (vR b a).bind fun c=>
 some c
theorem qao (a:Int) (b:Int) {res:Bool} (h:jD a b=some res):qg ZT (.fn 133) [.i a,.fptr [.i b] 0] [] (.bool res) []:=by
 unfold jD at h
 refine Uc Tryz.func133 rfl rfl (m:=7) rfl (rs:=[.tmp 3]) rfl (l:=[(0,.i a),(1,.fptr [.i b] 0)]) rfl ?_
 refine sh fol [(0,.i a),(1,.fptr [.i b] 0)] ?_
 obtain⟨d,c,h⟩:=bnd h
 refine sq (gr fol [2] [(3,.bool d)] (ac (cv (qcq b a c)) az) ?_)
 refine Goes.ret ?_
 obtain rfl:=si h
 exact(gw2 [.bool d] (Ua tB))
def qy (a:List Int) (b:Int):Nat->Int->Option (Unit⊕Int)
 |0,_=>none
 |K+1,c=>
  if c<(a.length:Int)then
  (idx a c).bind fun d=>
  (jD d b).bind fun e=>
  if e=true then
  some (.inr c)
  else
  qy a b K (w64 (c+1))
  else
  some (.inl ())
def jc (N:Nat) (a:List Int) (b:Int):Option Int:=
 (qy a b N 0).bind (fun
 |(.inl ())=>
 some (-1)
 |(.inr c)=>
 some c)
theorem qaf (N:Nat) (a:List Int) (b:Int) {res:Int} (h:jc N a b=some res):qg ZT (.fn 203) [vl encI a,.func (.func 133) [] [.fptr [.i b] 0]] [] (.i res) []:=by
 unfold jc at h
 refine Uc Tryz.func203 rfl rfl (m:=19) rfl (rs:=[.tmp 4]) rfl (l:=(kL a [(1,.func (.func 133) [] [.fptr [.i b] 0])])) rfl ?_
 refine sh fol (kL a [(1,.func (.func 133) [] [.fptr [.i b] 0])]) ?_
 refine sq ?_
 refine sh fol (kL a [(1,.func (.func 133) [] [.fptr [.i b] 0]),(7,.i (a.length:Int)),(8,.i 0)]) ?_
 refine Goes.block ?_
 obtain⟨f,g2,h⟩:=bnd h
 refine Goes.imp (Q:=fun x s'=>(x= .exit 0/\(.inl ())=f/\Sub s' (ofG 19 [],[]))\/(x= .ret/\ ∃j,(.inr j)=f/\yG ZT [.tmp 4] (.i j) .ret s')) ?_ ?_
 ·refine Ub (fun M s=> ∃(c:Int),s=(ofG 19 (kL a [(1,.func (.func 133) [] [.fptr [.i b] 0]),(7,.i (a.length:Int)),(8,.i c)]),[])/\qy a b M c=some f) ?_ (m:=N) ⟨_,rfl,g2⟩
  rintro M s ⟨c,rfl,g2⟩
  cases M with
  |zero=>simp only[qy]at g2;cases g2
  |succ M=>
   rw[qy]at g2
   refine sh fol (kL a [(1,.func (.func 133) [] [.fptr [.i b] 0]),(7,.i (a.length:Int)),(8,.i c),(9,.bool (decide (c<(a.length:Int))))]) ?_
   refine sq ?_
   refine ihD g2 (fun n g2=>?_) (fun n g2=>?_)
   ·refine Goes.skip ?_
    refine sq (Goes.block ?_)
    refine sh fol (kL a [(1,.func (.func 133) [] [.fptr [.i b] 0]),(5,.i c),(7,.i (a.length:Int)),(8,.i c)]) ?_
    obtain⟨g,d,g2⟩:=bnd g2
    obtain⟨k,e,g2⟩:=bnd g2
    refine sq (gr fol [3,4,5] (kL a [(1,.func (.func 133) [] [.fptr [.i b] 0]),(5,.i c),(7,.i (a.length:Int)),(8,.i c),(16,.bool k)]) (ac (iv qI encI d) (ac (lv 0 ce3 encI d rfl) (ac (hs (.call 133 [.i g,.fptr [.i b] 0] [] [] [.i g,.fptr [.i b] 0] (.bool k)) (qh6 (FzL.cons (Ul tI) (FzL.cons (Ul (Still.fptr (AllST.cons tI AllST.nil))) FzL.nil)) (qao g b e) tB)) az))) ?_)
    refine ihB g2 (fun o g2=>?_) (fun o g2=>?_)
    ·refine sh fol (kAO c) ?_
     refine Goes.ret ?_
     obtain rfl:=si g2
     exact Or.inr (⟨rfl,_,rfl,(gw2 [.i c] (Ua tI))⟩)
    refine Goes.skip ?_
    refine gh fol (kL a [(1,.func (.func 133) [] [.fptr [.i b] 0]),(7,.i (a.length:Int)),(8,.i (w64 (c+1)))]) ?_
    exact⟨M,(ofG 19 (kL a [(1,.func (.func 133) [] [.fptr [.i b] 0]),(7,.i (a.length:Int)),(8,.i (w64 (c+1)))]),[]),Nat.lt_succ_self _,(Sub.refl _),_,rfl,g2⟩
   refine Goes.exit ?_
   obtain rfl:=si g2
   exact Or.inl (⟨rfl,rfl,(Sub.keep [] rfl rfl)⟩)
 rintro x s' (⟨rfl,rfl,hsub⟩|⟨rfl,p,rfl,hret⟩)
 ·try dsimp only at h
  refine Goes.sub hsub ?_
  refine sh fol [(4,.i (-1))] ?_
  refine Goes.ret ?_
  obtain rfl:=si h
  exact(gw2 [.i (-1)] (Ua tI))
 try dsimp only at h
 obtain rfl:=si h
 exact hret
def zJ (N:Nat) (a:List Int) (b:Int):Option Bool:=
 (jc N a b).bind fun c=>
 some (decide (c>=0))
theorem xn (N:Nat) (a:List Int) (b:Int) {res:Bool} (h:zJ N a b=some res):qg ZT (.fn 132) [vl encI a,.func (.func 133) [] [.fptr [.i b] 0]] [] (.bool res) []:=by
 unfold zJ at h
 refine Uc Tryz.func132 rfl rfl (m:=9) rfl (rs:=[.tmp 4]) rfl (l:=(kL a [(1,.func (.func 133) [] [.fptr [.i b] 0])])) rfl ?_
 refine sh fol (kL a [(1,.func (.func 133) [] [.fptr [.i b] 0])]) ?_
 obtain⟨d,c,h⟩:=bnd h
 refine sq (gr fol [2] [(4,.bool (decide (d>=0)))] (ac (hs (.call 203 [vl encI a,.func (.func 133) [] [.fptr [.i b] 0]] [] [] [vl encI a,.func (.func 133) [] [.fptr [.i b] 0]] (.i d)) (qh6 (FzL.cons (Ul (zG encI _ (nl rfl))) (FzL.cons (Fz.func FzL.nil (FzL.cons (Ul (Still.fptr (AllST.cons tI AllST.nil))) FzL.nil)) FzL.nil)) (qaf N a b c) tI)) az) ?_)
 refine Goes.ret ?_
 obtain rfl:=si h
 exact(gw2 [.bool (decide (d>=0))] (Ua tB))
def je (N:Nat) (n:Int) (w:List Int):Option Int:=
 (jY n).bind fun b=>
 (zP (decide ((w.length:Int)>200)) 5).bind fun c=>
 (yz N ([b,c]:List Int)).bind fun a=>
 if(!decide (a=0))=true then
 some a
 else
 (zJ N w n).bind fun d=>
 (zP d 3).bind fun e=>
 some e
theorem yx (N:Nat) (n:Int) (w:List Int) {res:Int} (h:je N n w=some res):qg ZT (.fn 63) (kAR n w) [] (.i res) []:=by
 unfold je at h
 refine Uc Tryz.func63 rfl rfl (m:=21) rfl (rs:=[.tmp 4]) rfl (l:=(kG n w [])) rfl ?_
 refine sg fol [(1,vl encI w),(2,.ptr 0 0)] (kAW n) ?_
 refine sq ?_
 obtain⟨b,c,h⟩:=bnd h
 obtain⟨d,e,h⟩:=bnd h
 obtain⟨a,f,h⟩:=bnd h
 refine sq (gq fol [1,5,7] [(1,vl encI w),(2,.ptr 0 0),(5,.i a)] (.cells [.i n]::(kW b d [])) (ac (cv (qa1 n c)) (ac (cv (vQ (decide ((w.length:Int)>200)) 5 e)) (ac (hs (.call 67 [.slice 1 0 2 2 1] (.cells [.i n]::(kW b d [])) [1] [vl encI ([b,d]:List Int)] (.i a)) (qgy (FzL.cons (Fz.lit rfl rfl (FzL.still (AllST.cons tI (AllST.cons tI AllST.nil)))) FzL.nil) (qbm N ([b,d]:List Int) f) tI rfl)) az))) ?_)
 refine sh fol [(1,vl encI w),(2,.ptr 0 0),(5,.i a),(15,.bool (!decide (a=0)))] ?_
 refine ihB h (fun p h=>?_) (fun p h=>?_)
 ·refine sh fol (kAO a) ?_
  refine Goes.ret ?_
  obtain rfl:=si h
  exact(gw2 [.i a] (Ua tI))
 refine Goes.skip ?_
 obtain⟨k,g,h⟩:=bnd h
 obtain⟨o,j,h⟩:=bnd h
 refine sq (gr fol [2,3] (kAO o) (ac (hs (.call 132 [vl encI w,.func (.func 133) [] [.ptr 0 0]] (.cells [.i n]::(kW b d [])) [0] [vl encI w,.func (.func 133) [] [.fptr [.i n] 0]] (.bool k)) (qgy (FzL.cons (Ul (zG encI _ (nl rfl))) (FzL.cons (Fz.func FzL.nil (FzL.cons (Fz.ptr rfl rfl (FzL.cons (Ul tI) FzL.nil)) FzL.nil)) FzL.nil)) (xn N w n g) tB rfl)) (ac (cv (vQ k 3 j)) az)) ?_)
 refine Goes.ret ?_
 obtain rfl:=si h
 exact(gw2 [.i o] (Ua tI))
def yV (a:Int):Option Int:=
 some (if(if a<1 then a else 1)>(-1)then(if a<1 then a else 1)else(-1))
theorem qbL (a:Int) {res:Int} (h:yV a=some res):qg ZT (.fn 122) [.i a] [] (.i res) []:=by
 unfold yV at h
 refine Uc Tryz.func122 rfl rfl (m:=6) rfl (rs:=[.tmp 2]) rfl (l:=[(0,.i a)]) rfl ?_
 refine sh fol [(0,.i a)] ?_
 refine sh fol [(2,.i (if(if a<1 then a else 1)>(-1)then(if a<1 then a else 1)else(-1)))] ?_
 refine Goes.ret ?_
 obtain rfl:=si h
 exact(gw2 [.i (if(if a<1 then a else 1)>(-1)then(if a<1 then a else 1)else(-1))] (Ua tI))
def yR (n:Int):Option Int:=
 some (if(w64 (0-n))>n then(w64 (0-n))else n)
theorem qaI (n:Int) {res:Int} (h:yR n=some res):qg ZT (.fn 123) [.i n] [] (.i res) []:=by
 unfold yR at h
 refine Uc Tryz.func123 rfl rfl (m:=7) rfl (rs:=[.tmp 2]) rfl (l:=[(0,.i n)]) rfl ?_
 refine sh fol [(0,.i n)] ?_
 refine sh fol [(2,.i (if(w64 (0-n))>n then(w64 (0-n))else n))] ?_
 refine Goes.ret ?_
 obtain rfl:=si h
 exact(gw2 [.i (if(w64 (0-n))>n then(w64 (0-n))else n)] (Ua tI))
def zQ (a:Int) (b:List Int):Option Unit:=
 some ()
theorem yM (a:Int) (b:List Int) (h:zQ a b=some ()):qg ZT (.fn 135) (kAR a b) [] (.func (.func 204) [] [.ptr 0 0,.ptr 1 0]) (kC a b []):=by
 unfold zQ at h
 refine Ug Tryz.func135 rfl rfl (m:=6) rfl (rs:=[.tmp 4]) rfl (l:=(kG a b [])) rfl ?_
 intro B hB
 refine sg fol [(2,.ptr 0 0),(3,.ptr 1 0)] (kC a b []) ?_
 refine sh fol [(4,.func (.func 204) [] [.ptr 0 0,.ptr 1 0])] ?_
 refine Goes.ret ?_
 exact(gh2 [.func (.func 204) [] [.ptr 0 0,.ptr 1 0]] (xy.refl _ _))
def kz (c:List Int):Nat->(List Int)->Int->Option (List Int)
 |0,_,_=>none
 |K+1,b,a=>
  if a<(c.length:Int)then
  (idx b a).bind fun e=>
  (put b a a).bind fun d=>
  kz c K d (w64 (a+1))
  else
  some b
def zI (N:Nat) (a:Int):Option (List Int):=
 (mk 8 a 0).bind fun b=>
 (kz b N b 0).bind fun c=>
 some c
theorem vH (N:Nat) (c:Int) {n:List Int} (h:zI N c=some n):qg ZT (.fn 138) [.i c] [] (.slice 0 0 n.length n.length 1) (kA n []):=by
 unfold zI at h
 refine Ug Tryz.func138 rfl rfl (m:=18) rfl (rs:=[.tmp 2]) rfl (l:=[(0,.i c)]) rfl ?_
 intro B hB
 refine sh fol [(0,.i c)] ?_
 obtain⟨a,k,h⟩:=bnd h
 refine sq (gq fol [1] (kM a []) (kA a []) (ac (hs (.run [] (jf ZT 22 (.i c) (.i c)) [] (.slice 0 0 a.length a.length 1) (kA a []) false) (qbZ qI (E:=encI) (z:=0) rfl (by kernel_rfl) k rfl)) az) ?_)
 refine sq ?_
 refine sh fol (kM a [(8,.i (a.length:Int)),(9,.i 0)]) ?_
 refine Goes.block ?_
 obtain⟨o,g6,h⟩:=bnd h
 refine Goes.imp (Q:=fun x s'=>(x= .exit 0/\ ∃e,e=o/\Sub s' (ofG 18 (kM e []),(kA e [])))) ?_ ?_
 ·refine Ub (fun M s=> ∃(d:List Int) (b:Int),s=(ofG 18 (kM d [(8,.i (a.length:Int)),(9,.i b)]),(kA d []))/\kz a M d b=some o) ?_ (m:=N) ⟨_,_,rfl,g6⟩
  rintro M s ⟨d,b,rfl,g6⟩
  cases M with
  |zero=>simp only[kz]at g6;cases g6
  |succ M=>
   rw[kz]at g6
   refine sh fol (kM d [(8,.i (a.length:Int)),(9,.i b),(10,.bool (decide (b<(a.length:Int))))]) ?_
   refine sq ?_
   refine ihD g6 (fun p g6=>?_) (fun p g6=>?_)
   ·refine Goes.skip ?_
    refine sq (Goes.block ?_)
    refine sh fol (kM d [(4,.i b),(8,.i (a.length:Int)),(9,.i b)]) ?_
    obtain⟨q,f,g6⟩:=bnd g6
    obtain⟨g,j,g6⟩:=bnd g6
    refine gq fol [3,4] (kM d [(8,.i (a.length:Int)),(9,.i b)]) (kA g []) (ac (hs (.done (.opt (qc ZT 22 (.slice 0 0 d.length d.length 1) (.i b))) (.ptr 0 ((b:Int).toNat*1+0))) (vg qI f)) (ac (hs (.run [0] (ku ZT 3 (.ptr 0 ((b:Int).toNat*1+0)) (.i b)) (kA d []) .undef (kA g []) true) (jQ (E:=encI) (l:=d) (y:=b) rfl (show _=some 1 by kernel_rfl) rfl f rfl rfl rfl rfl rfl j rfl)) az)) ?_
    refine Goes.sub (show Sub (ofG 18 (kM d [(8,.i (a.length:Int)),(9,.i b)]),(kA g [])) (ofG 18 (kM g [(8,.i (a.length:Int)),(9,.i b)]),(kA g []))from(Sub.norm [] [some 0] (by rw[hB];rfl) rfl (.keep (.sliceE rfl (ky j)) (.keep (.same nI) (.keep (.same nI) .nil))) (.ks .nil))) ?_
    refine gh fol (kM g [(8,.i (a.length:Int)),(9,.i (w64 (b+1)))]) ?_
    exact⟨M,(ofG 18 (kM g [(8,.i (a.length:Int)),(9,.i (w64 (b+1)))]),(kA g [])),Nat.lt_succ_self _,(Sub.refl _),_,_,rfl,g6⟩
   refine Goes.exit ?_
   obtain rfl:=si g6
   exact⟨rfl,_,rfl,(Sub.keep [3] rfl rfl)⟩
 rintro x s' ⟨rfl,e,rfl,hsub⟩
 refine Goes.sub hsub ?_
 refine sh fol [(2,.slice 0 0 e.length e.length 1)] ?_
 refine Goes.ret ?_
 obtain rfl:=si h
 exact(gh2 [.slice 0 0 e.length e.length 1] (xy.refl _ _))
def vS (c:List (List Int)) (d:Int) (a:Int) (b:Int):Option (List (List Int)):=
 (idx c a).bind fun g=>
 (idx g b).bind fun j=>
 (yV d).bind fun k=>
 (put g b (w64 (j+k))).bind fun h=>
 (idx (qw c a h) b).bind fun i=>
 (idx i a).bind fun l=>
 (yV d).bind fun e=>
 (put i a (w64 (l+e))).bind fun f=>
 some (qw (qw c a h) b f)
theorem qcD (d:List (List Int)) (j:Int) (a:Int) (e:Int) {z:List (List Int)} (h:vS d j a e=some z):qg ZT (.rd 0) [.i j,.agg [.i a,.i e]] (.loop .ready none (ofG 54 [(5,.ptr 1 0)]) qa.xp qa.x1 qa.x2::(kB d [bg encI d])) (.bool true) (.loop .ready none (ofG 54 [(5,.ptr 1 0)]) qa.xp qa.x1 qa.x2::(kB z [bg encI z])):=by
 unfold vS at h
 refine Goes.round (m:=54) (l0:=(kAS [])) (l:=(kAS [(25,.i j),(26,.agg [.i a,.i e])])) rfl rfl rfl ?_
 intro B hB
 refine Uj ?_
 refine sh fol (kAS [(7,.i j),(26,.agg [.i a,.i e])]) ?_
 refine Goes.rg fol (kX j) (.loop .ready none (ofG 54 [(5,.ptr 1 0)]) qa.xp qa.x1 qa.x2::(kB d (bg encI d::(kW a e [])))) ?_
 refine⟨_,Sub.refl _,?_⟩
 refine⟨_,_,_,_,_,rfl,?_⟩
 refine Uj ?_
 refine Goes.block ?_
 obtain⟨k,p,h⟩:=bnd h
 refine sq (Goes.sub (s':=(ofG 54 (kX j),(.loop .busy none (ofG 54 [(5,.ptr 1 0)]) qa.xp qa.x1 qa.x2::(kB d (.bag ((d.map (zy encI)).set (a:Int).toNat (.av (.gslice 4 k.length 1)))::(kW a e (kA k []))))))) (Ur (E:=encI) (b:=2) rfl p) ?_)
 obtain⟨A,q,h⟩:=bnd h
 obtain⟨D,w,h⟩:=bnd h
 obtain⟨f,u,h⟩:=bnd h
 refine gq fol [3,4,7,8,10,12,13] (kX j) (.loop .busy none (ofG 54 [(5,.ptr 1 0)]) qa.xp qa.x1 qa.x2::(kB d (.bag ((d.map (zy encI)).set (a:Int).toNat (.av (.gslice 4 k.length 1)))::(kW a e (kA f []))))) (ac (hs (.done (.opt (qc ZT 25 (.slice 2 0 d.length d.length 1) (.i a))) (.ptr 2 ((a:Int).toNat*1+0))) (vg yg p)) (ac (hs (.run [2] (qL ZT 22 (.ptr 2 ((a:Int).toNat*1+0))) (.loop .busy none (ofG 54 [(5,.ptr 1 0)]) qa.xp qa.x1 qa.x2::(kB d (.bag ((d.map (zy encI)).set (a:Int).toNat (.av (.gslice 4 k.length 1)))::(kW a e (kA k []))))) (.gslice 4 k.length 1) (.loop .busy none (ofG 54 [(5,.ptr 1 0)]) qa.xp qa.x1 qa.x2::(kB d (.bag ((d.map (zy encI)).set (a:Int).toNat (.av (.gslice 4 k.length 1)))::(kW a e (kA k []))))) false) (qcF qbY rfl (at_set p))) (ac (hs (.done (.opt (qc ZT 22 (.gslice 4 k.length 1) (.i e))) (.ptr 4 ((e:Int).toNat*1+0))) (zV qI q)) (ac (hs (.run [4] (qL ZT 3 (.ptr 4 ((e:Int).toNat*1+0))) (.loop .busy none (ofG 54 [(5,.ptr 1 0)]) qa.xp qa.x1 qa.x2::(kB d (.bag ((d.map (zy encI)).set (a:Int).toNat (.av (.gslice 4 k.length 1)))::(kW a e (kA k []))))) (.i A) (.loop .busy none (ofG 54 [(5,.ptr 1 0)]) qa.xp qa.x1 qa.x2::(kB d (.bag ((d.map (zy encI)).set (a:Int).toNat (.av (.gslice 4 k.length 1)))::(kW a e (kA k []))))) false) (yI ce3 (E:=encI) (l:=k) rfl rfl q (nl rfl) rfl)) (ac (cv (qbL j w)) (ac (hs (.done (.opt (qc ZT 22 (.gslice 4 k.length 1) (.i e))) (.ptr 4 ((e:Int).toNat*1+0))) (zV qI q)) (ac (hs (.run [4] (ku ZT 3 (.ptr 4 ((e:Int).toNat*1+0)) (.i (w64 (A+D)))) (.loop .busy none (ofG 54 [(5,.ptr 1 0)]) qa.xp qa.x1 qa.x2::(kB d (.bag ((d.map (zy encI)).set (a:Int).toNat (.av (.gslice 4 k.length 1)))::(kW a e (kA k []))))) .undef (.loop .busy none (ofG 54 [(5,.ptr 1 0)]) qa.xp qa.x1 qa.x2::(kB d (.bag ((d.map (zy encI)).set (a:Int).toNat (.av (.gslice 4 k.length 1)))::(kW a e (kA f []))))) true) (jQ (E:=encI) (l:=k) (y:=w64 (A+D)) rfl (show _=some 1 by kernel_rfl) rfl q rfl rfl rfl rfl rfl u rfl)) az))))))) ?_
 refine Goes.sub ((show Sub (ofG 54 (kX j),(.loop .busy none (ofG 54 [(5,.ptr 1 0)]) qa.xp qa.x1 qa.x2::(kB d (.bag ((d.map (zy encI)).set (a:Int).toNat (.av (.gslice 4 k.length 1)))::(kW a e (kA f [])))))) (ofG 54 (kX j),(.loop .busy none (ofG 54 [(5,.ptr 1 0)]) qa.xp qa.x1 qa.x2::(kB d (bg encI (qw d a f)::(kW a e [.dead])))))from(Um (E:=encI) (b:=2) (c:=4) (Nat.ne_of_beq_eq_false rfl) rfl rfl p .g (ky u))).trans (show Sub (ofG 54 (kX j),(.loop .busy none (ofG 54 [(5,.ptr 1 0)]) qa.xp qa.x1 qa.x2::(kB d (bg encI (qw d a f)::(kW a e [.dead]))))) (ofG 54 (kX j),(.loop .busy none (ofG 54 [(5,.ptr 1 0)]) qa.xp qa.x1 qa.x2::(kB (qw d a f) (bg encI (qw d a f)::(kW a e [])))))from(Sub.norm [] [some 0,some 1,some 2,some 3] (by rw[hB];rfl) rfl (.kp (.keep (.same nI) (.kp .nil))) (.kb rfl (.loop rfl (.kp .nil)) (.kb rfl (.cells (rc (.sliceE rfl (qbo _ _ _)) rn)) (.kb rfl zS.bgs (.kb rfl (.same sn) .nil))))))) ?_
 obtain⟨n,r,h⟩:=bnd h
 refine Goes.sub (s':=(ofG 54 (kX j),(.loop .busy none (ofG 54 [(5,.ptr 1 0)]) qa.xp qa.x1 qa.x2::(kB (qw d a f) (.bag (((qw d a f).map (zy encI)).set (e:Int).toNat (.av (.gslice 4 n.length 1)))::(kW a e (kA n []))))))) (Ur (E:=encI) (b:=2) rfl r) ?_
 obtain⟨C,s,h⟩:=bnd h
 obtain⟨x,v,h⟩:=bnd h
 obtain⟨o,t,h⟩:=bnd h
 refine gq fol [3,4,7,8,10,12,13] [] (.loop .busy none (ofG 54 [(5,.ptr 1 0)]) qa.xp qa.x1 qa.x2::(kB (qw d a f) (.bag (((qw d a f).map (zy encI)).set (e:Int).toNat (.av (.gslice 4 n.length 1)))::(kW a e (kA o []))))) (ac (hs (.done (.opt (qc ZT 25 (.slice 2 0 (qw d a f).length (qw d a f).length 1) (.i e))) (.ptr 2 ((e:Int).toNat*1+0))) (vg yg r)) (ac (hs (.run [2] (qL ZT 22 (.ptr 2 ((e:Int).toNat*1+0))) (.loop .busy none (ofG 54 [(5,.ptr 1 0)]) qa.xp qa.x1 qa.x2::(kB (qw d a f) (.bag (((qw d a f).map (zy encI)).set (e:Int).toNat (.av (.gslice 4 n.length 1)))::(kW a e (kA n []))))) (.gslice 4 n.length 1) (.loop .busy none (ofG 54 [(5,.ptr 1 0)]) qa.xp qa.x1 qa.x2::(kB (qw d a f) (.bag (((qw d a f).map (zy encI)).set (e:Int).toNat (.av (.gslice 4 n.length 1)))::(kW a e (kA n []))))) false) (qcF qbY rfl (at_set r))) (ac (hs (.done (.opt (qc ZT 22 (.gslice 4 n.length 1) (.i a))) (.ptr 4 ((a:Int).toNat*1+0))) (zV qI s)) (ac (hs (.run [4] (qL ZT 3 (.ptr 4 ((a:Int).toNat*1+0))) (.loop .busy none (ofG 54 [(5,.ptr 1 0)]) qa.xp qa.x1 qa.x2::(kB (qw d a f) (.bag (((qw d a f).map (zy encI)).set (e:Int).toNat (.av (.gslice 4 n.length 1)))::(kW a e (kA n []))))) (.i C) (.loop .busy none (ofG 54 [(5,.ptr 1 0)]) qa.xp qa.x1 qa.x2::(kB (qw d a f) (.bag (((qw d a f).map (zy encI)).set (e:Int).toNat (.av (.gslice 4 n.length 1)))::(kW a e (kA n []))))) false) (yI ce3 (E:=encI) (l:=n) rfl rfl s (nl rfl) rfl)) (ac (cv (qbL j v)) (ac (hs (.done (.opt (qc ZT 22 (.gslice 4 n.length 1) (.i a))) (.ptr 4 ((a:Int).toNat*1+0))) (zV qI s)) (ac (hs (.run [4] (ku ZT 3 (.ptr 4 ((a:Int).toNat*1+0)) (.i (w64 (C+x)))) (.loop .busy none (ofG 54 [(5,.ptr 1 0)]) qa.xp qa.x1 qa.x2::(kB (qw d a f) (.bag (((qw d a f).map (zy encI)).set (e:Int).toNat (.av (.gslice 4 n.length 1)))::(kW a e (kA n []))))) .undef (.loop .busy none (ofG 54 [(5,.ptr 1 0)]) qa.xp qa.x1 qa.x2::(kB (qw d a f) (.bag (((qw d a f).map (zy encI)).set (e:Int).toNat (.av (.gslice 4 n.length 1)))::(kW a e (kA o []))))) true) (jQ (E:=encI) (l:=n) (y:=w64 (C+x)) rfl (show _=some 1 by kernel_rfl) rfl s rfl rfl rfl rfl rfl t rfl)) az))))))) ?_
 obtain rfl:=si h
 exact⟨_,((show Sub (ofG 54 [],(.loop .busy none (ofG 54 [(5,.ptr 1 0)]) qa.xp qa.x1 qa.x2::(kB (qw d a f) (.bag (((qw d a f).map (zy encI)).set (e:Int).toNat (.av (.gslice 4 n.length 1)))::(kW a e (kA o [])))))) (ofG 54 [],(.loop .busy none (ofG 54 [(5,.ptr 1 0)]) qa.xp qa.x1 qa.x2::(kB (qw d a f) (bg encI (qw (qw d a f) e o)::(kW a e [.dead])))))from(Um (E:=encI) (b:=2) (c:=4) (Nat.ne_of_beq_eq_false rfl) rfl rfl r .g (ky t))).trans (show Sub (ofG 54 [],(.loop .busy none (ofG 54 [(5,.ptr 1 0)]) qa.xp qa.x1 qa.x2::(kB (qw d a f) (bg encI (qw (qw d a f) e o)::(kW a e [.dead]))))) (ofG 54 [],(.loop .busy none (ofG 54 [(5,.ptr 1 0)]) qa.xp qa.x1 qa.x2::(kB (qw (qw d a f) e o) [bg encI (qw (qw d a f) e o)])))from(Sub.norm [] [some 0,some 1,some 2] (by rw[hB];rfl) rfl .nil (.kb rfl (.loop rfl (.kp .nil)) (.kb rfl (.cells (rc (.sliceE rfl (qbo _ _ _)) rn)) (.kb rfl zS.bgs .nil)))))),⟨_,_,rfl,(xy.refl _ _)⟩⟩
def qF (b:List Int):Nat->(List (List Int))->(List Int)->Int->Option (List (List Int))
 |0,_,_,_=>none
 |K+1,k,g,h=>
  if h<(b.length:Int)then
  (idx b h).bind fun c=>
  (yR c).bind fun a=>
  (idx g (w64 (a-1))).bind fun d=>
  (idx g (w64 ((w64 (a-1))+1))).bind fun e=>
  (vS k c d e).bind fun i=>
  (put g (w64 (a-1)) e).bind fun f=>
  (idx f (w64 ((w64 (a-1))+1))).bind fun l=>
  (put f (w64 ((w64 (a-1))+1)) d).bind fun j=>
  qF b K i j (w64 (h+1))
  else
  some k
def jC (N:Nat) (a:List (List Int)) (b:Int) (c:List Int):Option (List (List Int)):=
 (zI N b).bind fun d=>
 (qF c N a d 0).bind fun e=>
 some e
theorem qaj (N:Nat) (n:List (List Int)) (d:Int) (a:List Int) {J:List (List Int)} (h:jC N n d a=some J):qg ZT (.fn 204) [.yld 0,.ptr 3 0,.ptr 4 0] (.loop .ready none (ofG 54 [(5,.ptr 1 0)]) qa.xp qa.x1 qa.x2::(kB n (bg encI n::(kC d a [])))) (.tuple []) (.loop .ready none (ofG 54 [(5,.ptr 1 0)]) qa.xp qa.x1 qa.x2::(kB J (bg encI J::(kC d a [])))):=by
 unfold jC at h
 refine Ug Tryz.func204 rfl rfl (m:=50) rfl (rs:=[]) rfl (l:=[(0,.yld 0),(1,.ptr 3 0),(2,.ptr 4 0)]) rfl ?_
 intro B hB
 refine Uj ?_
 obtain⟨G,H,h⟩:=bnd h
 refine sq (gq fol [1] ((0,.yld 0)::(2,.ptr 4 0)::(kY G [])) (.loop .ready none (ofG 54 [(5,.ptr 1 0)]) qa.xp qa.x1 qa.x2::(kB n (bg encI n::(kC d a (kA G []))))) (ac (hs (.callH 138 [.i d] (.loop .ready none (ofG 54 [(5,.ptr 1 0)]) qa.xp qa.x1 qa.x2::(kB n (bg encI n::(kC d a [])))) [] (.slice 5 0 G.length G.length 1) (.loop .ready none (ofG 54 [(5,.ptr 1 0)]) qa.xp qa.x1 qa.x2::(kB n (bg encI n::(kC d a (kA G [])))))) (jA [] [none,none,none,none,none,some 0] (vH N d H) .nil rfl rfl (.old rfl rfl (.old rfl rfl (.old rfl rfl (.old rfl rfl (.old rfl rfl (.new rfl rfl (.same fa) rfl .nil)))))) (rc (.same nI) rn) (.slice rfl) rfl)) az) ?_)
 refine sh fol ((0,.yld 0)::(kY G [(10,vl encI a),(11,.i (a.length:Int)),(12,.i 0)])) ?_
 refine Goes.block ?_
 obtain⟨K,g8,h⟩:=bnd h
 refine Goes.imp (Q:=fun x s'=>(x= .exit 0/\ ∃I,I=K/\Sub s' (ofG 50 [],(.loop .ready none (ofG 54 [(5,.ptr 1 0)]) qa.xp qa.x1 qa.x2::(kB I (bg encI I::(kC d a []))))))) ?_ ?_
 ·refine Ub (fun M s=> ∃(p:List (List Int)) (g:List Int) (q:Int),s=(ofG 50 ((0,.yld 0)::(kI g a (a.length:Int) q [])),(.loop .ready none (ofG 54 [(5,.ptr 1 0)]) qa.xp qa.x1 qa.x2::(kB p (bg encI p::(kC d a (kA g []))))))/\qF a M p g q=some K) ?_ (m:=N) ⟨_,_,_,rfl,g8⟩
  rintro M s ⟨p,g,q,rfl,g8⟩
  cases M with
  |zero=>simp only[qF]at g8;cases g8
  |succ M=>
   rw[qF]at g8
   refine sh fol ((0,.yld 0)::(kI g a (a.length:Int) q [(13,.bool (decide (q<(a.length:Int))))])) ?_
   refine sq ?_
   refine ihD g8 (fun L g8=>?_) (fun L g8=>?_)
   ·refine Goes.skip ?_
    refine sq (Goes.block ?_)
    obtain⟨u,v,g8⟩:=bnd g8
    refine sq (gr fol [0,1] ((0,.yld 0)::(kY g ((6,.i u)::(kT a (a.length:Int) q [])))) (ac (iv qI encI v) (ac (lv 0 ce3 encI v rfl) az)) ?_)
    obtain⟨f,A,g8⟩:=bnd g8
    refine sq (gr fol [1] ((0,.yld 0)::(kY g ((6,.i u)::(7,.i (w64 (f-1)))::(kT a (a.length:Int) q [])))) (ac (cv (qaI u A)) az) ?_)
    refine sq ?_
    obtain⟨r,j,g8⟩:=bnd g8
    obtain⟨t,k,g8⟩:=bnd g8
    obtain⟨e,C,g8⟩:=bnd g8
    refine sq (gq fol [4,5,9,10,12] ((0,.yld 0)::(kY g ((7,.i (w64 (f-1)))::(kT a (a.length:Int) q [(32,.bool false)])))) (.loop .ready none (ofG 54 [(5,.ptr 1 0)]) qa.xp qa.x1 qa.x2::(kB e (bg encI e::(kC d a (kA g []))))) (ac (hs (.done (.opt (qc ZT 22 (.slice 5 0 g.length g.length 1) (.i (w64 (f-1))))) (.ptr 5 ((w64 (f-1):Int).toNat*1+0))) (vg qI j)) (ac (hs (.run [5] (qL ZT 3 (.ptr 5 ((w64 (f-1):Int).toNat*1+0))) (.loop .ready none (ofG 54 [(5,.ptr 1 0)]) qa.xp qa.x1 qa.x2::(kB p (bg encI p::(kC d a (kA g []))))) (.i r) (.loop .ready none (ofG 54 [(5,.ptr 1 0)]) qa.xp qa.x1 qa.x2::(kB p (bg encI p::(kC d a (kA g []))))) false) (yI ce3 (E:=encI) (l:=g) rfl rfl j (nl rfl) rfl)) (ac (hs (.done (.opt (qc ZT 22 (.slice 5 0 g.length g.length 1) (.i (w64 ((w64 (f-1))+1))))) (.ptr 5 ((w64 ((w64 (f-1))+1):Int).toNat*1+0))) (vg qI k)) (ac (hs (.run [5] (qL ZT 3 (.ptr 5 ((w64 ((w64 (f-1))+1):Int).toNat*1+0))) (.loop .ready none (ofG 54 [(5,.ptr 1 0)]) qa.xp qa.x1 qa.x2::(kB p (bg encI p::(kC d a (kA g []))))) (.i t) (.loop .ready none (ofG 54 [(5,.ptr 1 0)]) qa.xp qa.x1 qa.x2::(kB p (bg encI p::(kC d a (kA g []))))) false) (yI ce3 (E:=encI) (l:=g) rfl rfl k (nl rfl) rfl)) (ac (hs (.callH (.rd 0) [.i u,.agg [.i r,.i t]] (.loop .ready none (ofG 54 [(5,.ptr 1 0)]) qa.xp qa.x1 qa.x2::(kB p (bg encI p::(kC d a (kA g []))))) [0,1,2] (.bool true) (.loop .ready none (ofG 54 [(5,.ptr 1 0)]) qa.xp qa.x1 qa.x2::(kB e (bg encI e::(kC d a (kA g [])))))) (qgq [some 0,some 1,some 2] [some 0,some 1,some 2,none,none,none] (qcD p u r t C) rfl (.kb rfl (.loop rfl (.kp .nil)) (.kb rfl (.cells (rc (.slice rfl) rn)) (.kb rfl zS.bgs .nil))) rfl rfl (.back rfl rfl (.loop rfl (.kp .nil)) rfl (.back rfl rfl (.cells (rc (.slice rfl) rn)) rfl (.back rfl rfl zS.bgs rfl (.old rfl rfl (.old rfl rfl (.old rfl rfl .nil)))))) (rc (.same nI) (rc (.same (qo.agg sn)) rn)) (.same nB) rfl)) az))))) ?_)
    refine Goes.ifB (b:=false) (by kernel_rfl) (fun c=>(by cases c)) (fun _=>?_)
    refine Goes.skip ?_
    obtain⟨D,w,g8⟩:=bnd g8
    obtain⟨O,F,g8⟩:=bnd g8
    obtain⟨o,z,g8⟩:=bnd g8
    refine gq fol [8,9,12,13,14,15,16,17] ((0,.yld 0)::(kI g a (a.length:Int) q [])) (.loop .ready none (ofG 54 [(5,.ptr 1 0)]) qa.xp qa.x1 qa.x2::(kB e (bg encI e::(kC d a (kA o []))))) (ac (hs (.done (.opt (qc ZT 22 (.slice 5 0 g.length g.length 1) (.i (w64 ((w64 (f-1))+1))))) (.ptr 5 ((w64 ((w64 (f-1))+1):Int).toNat*1+0))) (vg qI k)) (ac (hs (.run [5] (qL ZT 3 (.ptr 5 ((w64 ((w64 (f-1))+1):Int).toNat*1+0))) (.loop .ready none (ofG 54 [(5,.ptr 1 0)]) qa.xp qa.x1 qa.x2::(kB e (bg encI e::(kC d a (kA g []))))) (.i t) (.loop .ready none (ofG 54 [(5,.ptr 1 0)]) qa.xp qa.x1 qa.x2::(kB e (bg encI e::(kC d a (kA g []))))) false) (yI ce3 (E:=encI) (l:=g) rfl rfl k (nl rfl) rfl)) (ac (hs (.done (.opt (qc ZT 22 (.slice 5 0 g.length g.length 1) (.i (w64 (f-1))))) (.ptr 5 ((w64 (f-1):Int).toNat*1+0))) (vg qI j)) (ac (hs (.run [5] (qL ZT 3 (.ptr 5 ((w64 (f-1):Int).toNat*1+0))) (.loop .ready none (ofG 54 [(5,.ptr 1 0)]) qa.xp qa.x1 qa.x2::(kB e (bg encI e::(kC d a (kA g []))))) (.i r) (.loop .ready none (ofG 54 [(5,.ptr 1 0)]) qa.xp qa.x1 qa.x2::(kB e (bg encI e::(kC d a (kA g []))))) false) (yI ce3 (E:=encI) (l:=g) rfl rfl j (nl rfl) rfl)) (ac (hs (.done (.opt (qc ZT 22 (.slice 5 0 g.length g.length 1) (.i (w64 (f-1))))) (.ptr 5 ((w64 (f-1):Int).toNat*1+0))) (vg qI j)) (ac (hs (.run [5] (ku ZT 3 (.ptr 5 ((w64 (f-1):Int).toNat*1+0)) (.i t)) (.loop .ready none (ofG 54 [(5,.ptr 1 0)]) qa.xp qa.x1 qa.x2::(kB e (bg encI e::(kC d a (kA g []))))) .undef (.loop .ready none (ofG 54 [(5,.ptr 1 0)]) qa.xp qa.x1 qa.x2::(kB e (bg encI e::(kC d a (kA D []))))) true) (jQ (E:=encI) (l:=g) (y:=t) rfl (show _=some 1 by kernel_rfl) rfl j rfl rfl rfl rfl rfl w rfl)) (ac (hs (.done (.opt (qc ZT 22 (.slice 5 0 g.length g.length 1) (.i (w64 ((w64 (f-1))+1))))) (.ptr 5 ((w64 ((w64 (f-1))+1):Int).toNat*1+0))) (vg qI k)) (ac (hs (.run [5] (ku ZT 3 (.ptr 5 ((w64 ((w64 (f-1))+1):Int).toNat*1+0)) (.i r)) (.loop .ready none (ofG 54 [(5,.ptr 1 0)]) qa.xp qa.x1 qa.x2::(kB e (bg encI e::(kC d a (kA D []))))) .undef (.loop .ready none (ofG 54 [(5,.ptr 1 0)]) qa.xp qa.x1 qa.x2::(kB e (bg encI e::(kC d a (kA o []))))) true) (jQ (E:=encI) (l:=D) (y:=r) rfl (show _=some 1 by kernel_rfl) rfl F rfl rfl rfl rfl rfl z rfl)) az)))))))) ?_
    refine Goes.sub (show Sub (ofG 50 ((0,.yld 0)::(kI g a (a.length:Int) q [])),(.loop .ready none (ofG 54 [(5,.ptr 1 0)]) qa.xp qa.x1 qa.x2::(kB e (bg encI e::(kC d a (kA o [])))))) (ofG 50 ((0,.yld 0)::(kI o a (a.length:Int) q [])),(.loop .ready none (ofG 54 [(5,.ptr 1 0)]) qa.xp qa.x1 qa.x2::(kB e (bg encI e::(kC d a (kA o []))))))from(Sub.norm [] [some 0,some 1,some 2,some 3,some 4,some 5] (by rw[hB];rfl) rfl (.keep (.yld rfl) (.keep (.sliceE rfl ((ky w).trans (ky z))) (.keep (.same (qd encI _)) (.keep (.same nI) (.keep (.same nI) .nil))))) (.kb rfl (.loop rfl (.kp .nil)) (.kb rfl (.cells (rc (.slice rfl) rn)) (.kb rfl zS.bgs (.kb rfl (.same sn) (.kb rfl (.same sn) (.ks .nil)))))))) ?_
    refine gh fol ((0,.yld 0)::(kI o a (a.length:Int) (w64 (q+1)) [])) ?_
    exact⟨M,(ofG 50 ((0,.yld 0)::(kI o a (a.length:Int) (w64 (q+1)) [])),(.loop .ready none (ofG 54 [(5,.ptr 1 0)]) qa.xp qa.x1 qa.x2::(kB e (bg encI e::(kC d a (kA o [])))))),Nat.lt_succ_self _,(Sub.refl _),_,_,_,rfl,g8⟩
   refine Goes.exit ?_
   obtain rfl:=si g8
   exact⟨rfl,_,rfl,(Sub.norm [] [some 0,some 1,some 2,some 3,some 4] (by rw[hB];rfl) rfl .nil (.kb rfl (.loop rfl (.kp .nil)) (.kb rfl (.cells (rc (.slice rfl) rn)) (.kb rfl zS.bgs (.kb rfl (.same sn) (.kb rfl (.same sn) .nil))))))⟩
 rintro x s' ⟨rfl,I,rfl,hsub⟩
 obtain rfl:=si h
 exact⟨_,hsub,(gh2 [] (xy.refl _ _))⟩
def jM (n:Int) (c:List (List Int)):Nat->(List (List Int))->Int->Option (List (List Int))
 |0,_,_=>none
 |K+1,b,a=>
  if a<(c.length:Int)then
  (mk 8 n 0).bind fun d=>
  (idx b a).bind fun e=>
  jM n c K (qw b a d) (w64 (a+1))
  else
  some b
def qae (N:Nat) (n:Int) (w:List Int):Option (List (List Int)):=
 (mk 24 n ([]:List Int)).bind fun b=>
 (jM n b N b 0).bind fun c=>
 (zQ n w).bind fun _=>
 (jC N c n w).bind fun a=>
 some a
theorem qdY (N:Nat) (n:Int) (w:List Int) {res:List (List Int)} (h:qae N n w=some res):qg ZT (.fn 64) (kAR n w) [] (vl (qb encI) res) []:=by
 unfold qae at h
 refine Uc Tryz.func64 rfl rfl (m:=54) rfl (rs:=[.tmp 4]) rfl (l:=(kG n w [])) rfl ?_
 refine sh fol (kG n w []) ?_
 obtain⟨f,o,h⟩:=bnd h
 refine sq (gq fol [1] (kG n w (kAS [])) (.cells (f.flatMap (qiF encI).c)::(kS f [])) (ac (hs (.run [] (jf ZT 25 (.i n) (.i n)) [] (.slice 0 0 f.length f.length 1) [.cells (f.flatMap (qiF encI).c)] false) (qbZ yg (E:=(qiF encI)) (z:=[]) rfl (by kernel_rfl) o rfl)) az) ?_)
 refine Goes.sub (show Sub (ofG 54 (kG n w (kAS [])),(.cells (f.flatMap (qiF encI).c)::(kS f []))) (ofG 54 (kG n w (kAS [])),(bg encI f::(kS f [])))from(Sub.bagNil1 (E:=encI) (b:=0) rfl o)) ?_
 refine sq ?_
 refine sh fol (kG n w (kAS (kAb (f.length:Int)))) ?_
 refine Goes.block ?_
 obtain⟨t,g5,h⟩:=bnd h
 refine Goes.imp (Q:=fun x s'=>(x= .exit 0/\ ∃j,j=t/\Sub s' (ofG 54 (kG n w (kAT [])),(kH j [bg encI j])))) ?_ ?_
 ·refine Goes.sub (s':=(ofG 54 (kG n w (kAT (kAb (f.length:Int)))),(kH f [bg encI f]))) (Sub.norm [] [some 1,some 0] rfl rfl (.keep (.same nI) (.keep (.same (qd encI _)) (.kp (.keep (.same nI) (.keep (.same nI) .nil))))) (.kb rfl (.cells (rc (.slice rfl) rn)) (.kb rfl zS.bgs .nil))) ?_
  refine Ub (fun M s=> ∃(d:List (List Int)) (e:Int),s=(ofG 54 (kG n w (kAT (kU (f.length:Int) e))),(kH d [bg encI d]))/\jM n f M d e=some t) ?_ (m:=N) ⟨_,_,rfl,g5⟩
  rintro M s ⟨d,e,rfl,g5⟩
  cases M with
  |zero=>simp only[jM]at g5;cases g5
  |succ M=>
   rw[jM]at g5
   refine sh fol (kG n w (kAT [(12,.i (f.length:Int)),(13,.i e),(14,.bool (decide (e<(f.length:Int))))])) ?_
   refine sq ?_
   refine ihD g5 (fun u g5=>?_) (fun u g5=>?_)
   ·refine Goes.skip ?_
    refine sq (Goes.block ?_)
    refine sh fol (kG n w (kAT ((6,.i e)::(kU (f.length:Int) e)))) ?_
    obtain⟨g,p,g5⟩:=bnd g5
    obtain⟨y,k,g5⟩:=bnd g5
    refine gq fol [3,4,5] (kG n w (kAT (kU (f.length:Int) e))) (kH d (.bag ((d.map (zy encI)).set (e:Int).toNat (.av (.slice 2 0 g.length g.length 1)))::(kA g []))) (ac (hs (.run [] (jf ZT 22 (.i n) (.i n)) (kH d [bg encI d]) (.slice 2 0 g.length g.length 1) (kH d (bg encI d::(kA g []))) false) (qbZ qI (E:=encI) (z:=0) rfl (by kernel_rfl) p rfl)) (ac (hs (.done (.opt (qc ZT 25 (.slice 1 0 d.length d.length 1) (.i e))) (.ptr 1 ((e:Int).toNat*1+0))) (vg yg k)) (ac (hs (.run [1] (ku ZT 22 (.ptr 1 ((e:Int).toNat*1+0)) (.slice 2 0 g.length g.length 1)) (kH d (bg encI d::(kA g []))) .undef (kH d (.bag ((d.map (zy encI)).set (e:Int).toNat (.av (.slice 2 0 g.length g.length 1)))::(kA g []))) true) (qj5 (show _=some 1 by kernel_rfl) rfl (qkd k) rfl rfl rfl)) az))) ?_
    refine Goes.sub ((show Sub (ofG 54 (kG n w (kAT (kU (f.length:Int) e))),(kH d (.bag ((d.map (zy encI)).set (e:Int).toNat (.av (.slice 2 0 g.length g.length 1)))::(kA g [])))) (ofG 54 (kG n w (kAT (kU (f.length:Int) e))),(kH d [bg encI (qw d e g),.dead]))from(Um (E:=encI) (b:=1) (c:=2) (Nat.ne_of_beq_eq_false rfl) rfl rfl k (.s (qkc p)) rfl)).trans (show Sub (ofG 54 (kG n w (kAT (kU (f.length:Int) e))),(kH d [bg encI (qw d e g),.dead])) (ofG 54 (kG n w (kAT (kU (f.length:Int) e))),(kH (qw d e g) [bg encI (qw d e g)]))from(Sub.norm [] [some 0,some 1] rfl rfl (.keep (.same nI) (.keep (.same (qd encI _)) (.kp (.keep (.same nI) (.keep (.same nI) .nil))))) (.kb rfl (.cells (rc (.sliceE rfl (qbo _ _ _)) rn)) (.kb rfl zS.bgs .nil))))) ?_
    refine gh fol (kG n w (kAT (kU (f.length:Int) (w64 (e+1))))) ?_
    exact⟨M,(ofG 54 (kG n w (kAT (kU (f.length:Int) (w64 (e+1))))),(kH (qw d e g) [bg encI (qw d e g)])),Nat.lt_succ_self _,(Sub.refl _),_,_,rfl,g5⟩
   refine Goes.exit ?_
   obtain rfl:=si g5
   exact⟨rfl,_,rfl,(Sub.keep [0,1,5] rfl rfl)⟩
 rintro x s' ⟨rfl,j,rfl,hsub⟩
 refine Goes.sub hsub ?_
 refine sq ?_
 obtain⟨_,r,h⟩:=bnd h
 refine sq (gq fol [2] (kAT [(24,.func (.func 204) [] [.ptr 2 0,.ptr 3 0])]) (kH j (bg encI j::(kC n w []))) (ac (hs (.callH 135 (kAR n w) (kH j [bg encI j]) [] (.func (.func 204) [] kAY) (kH j (bg encI j::(kC n w [])))) (jA [] [none,none,some 0,some 1] (yM n w r) .nil rfl rfl (.old rfl rfl (.old rfl rfl (.new rfl rfl (.cells (rc (.same nI) rn)) rfl (.new rfl rfl (.cells (rc (.same (qd encI _)) rn)) rfl .nil)))) (rc (.same nI) (rc (.same (qd encI _)) rn)) (.funcL (sn) (rc (.ptr rfl) (rc (.ptr rfl) rn))) rfl)) az) ?_)
 refine Goes.block ?_
 obtain⟨a,q,h⟩:=bnd h
 refine Goes.range fol rfl (gf:=204) (first:=[]) (captured:=kAY) (v:= .tuple []) (A2:=(kH a (bg encI a::(kC n w [.loop .ready none (ofG 54 [(5,.ptr 0 0)]) qa.xp qa.x1 qa.x2])))) (s':=(ofG 54 (kAT [(24,.func (.func 204) [] [.ptr 2 0,.ptr 3 0])]),(kH a (bg encI a::(kC n w [.loop .exhausted none (ofG 54 [(5,.ptr 0 0)]) qa.xp qa.x1 qa.x2]))))) (x:= .normal) (by kernel_rfl) (by kernel_rfl) (qdI (show(Obl.callH 204 (.yld 4::kAY) (kH j (bg encI j::(kC n w [.loop .ready none (ofG 54 [(5,.ptr 0 0),(24,.func (.func 204) [] [.ptr 2 0,.ptr 3 0])]) qa.xp qa.x1 qa.x2]))) [4,0,1,2,3] (.tuple []) (kH a (bg encI a::(kC n w [.loop .ready none (ofG 54 [(5,.ptr 0 0)]) qa.xp qa.x1 qa.x2])))).Holds ZT from jA [some 4,some 0,some 1,some 2,some 3] [some 1,some 2,some 3,some 4,some 0] (qaj N j n w q) (.kb rfl (.loop rfl (.kp (.drop .nil))) (.kb rfl (.cells (rc (.slice rfl) rn)) (.kb rfl zS.bgs (.kb rfl (.cells (rc (.same nI) rn)) (.kb rfl (.cells (rc (.same (qd encI _)) rn)) .nil))))) rfl rfl (.back rfl rfl (.cells (rc (.slice rfl) rn)) rfl (.back rfl rfl zS.bgs rfl (.back rfl rfl (.cells (rc (.same nI) rn)) rfl (.back rfl rfl (.cells (rc (.same (qd encI _)) rn)) rfl (.back rfl rfl (.loop rfl (.kp .nil)) rfl .nil))))) (rc (.yld rfl) (rc (.ptr rfl) (rc (.ptr rfl) rn))) (.same (qo.tuple sn)) rfl)) (by kernel_rfl) ?_
 refine Goes.sub (show Sub (ofG 54 (kAT [(24,.func (.func 204) [] [.ptr 2 0,.ptr 3 0])]),(kH a (bg encI a::(kC n w [.loop .exhausted none (ofG 54 [(5,.ptr 0 0)]) qa.xp qa.x1 qa.x2])))) (ofG 54 (kAT [(24,.func (.func 204) [] [.ptr 2 0,.ptr 3 0])]),(kH a (bg encI a::(kC n w []))))from(Sub.norm [] [some 0,some 1,some 2,some 3] rfl rfl (.kp (.keep (.funcL (sn) (rc (.ptr rfl) (rc (.ptr rfl) rn))) .nil)) (.kb rfl (.cells (rc (.slice rfl) rn)) (.kb rfl zS.bgs (.kb rfl (.same sn) (.kb rfl (.same sn) .nil)))))) ?_
 refine sh fol (kAK a []) ?_
 refine Goes.sub (s':=(ofG 54 (kAK a []),(kH a (.frozen (a.flatMap (qb encI).c)::(kC n w []))))) (Sub.bagFreeze (E:=encI) (b:=1) rfl) ?_
 refine Goes.ret ?_
 obtain rfl:=si h
 exact(gw2 [.slice 1 0 a.length a.length 1] (Uu (Fz.slF (E:=(qb encI)) rfl rfl (nl rfl))))
def yX (N:Nat) (n:Int) (w:List Int):Option ((List (List Int))×Int):=
 (je N n w).bind fun a=>
 if(!decide (a=0))=true then
 some ([],a)
 else
 (qae N n w).bind fun b=>
 some (b,0)
theorem qdX (N:Nat) (n:Int) (w:List Int) {res:(List (List Int))×Int} (h:yX N n w=some res):qg ZT (.fn 12) (kAR n w) [] (.tuple [vl (qb encI) res.1,.i res.2]) []:=by
 unfold yX at h
 refine Uc Tryz.func12 rfl rfl (m:=16) rfl (rs:=[.tmp 4,.tmp 5]) rfl (l:=(kG n w [])) rfl ?_
 refine sh fol (kG n w []) ?_
 refine sq ?_
 obtain⟨a,b,h⟩:=bnd h
 refine sq (gr fol [2] (kG n w [(6,.i a)]) (ac (cv (yx N n w b)) az) ?_)
 refine sh fol (kG n w [(6,.i a),(11,.bool (!decide (a=0)))]) ?_
 refine ihB h (fun e h=>?_) (fun e h=>?_)
 ·refine sh fol [(4,.nilslice),(5,.i a)] ?_
  refine Goes.ret ?_
  obtain rfl:=si h
  exact(gw2 [.nilslice,.i a] (FzW.tuple (yw.cons (FzW.nilv (E:=(qb encI))) (yw.cons (Ua tI) yw.nil))))
 refine Goes.skip ?_
 obtain⟨d,c,h⟩:=bnd h
 refine sq (gr fol [2] [(4,vl (qb encI) d),(5,.i 0)] (ac (cv (qdY N n w c)) az) ?_)
 refine Goes.ret ?_
 obtain rfl:=si h
 exact(gw2 [vl (qb encI) d,.i 0] (FzW.tuple (yw.cons (Ua (zG (qb encI) _ (nl rfl))) (yw.cons (Ua tI) yw.nil))))
def zk (p:List Int):Nat->(List (Int×Bool))->Int->Option (Unit⊕Int)
 |0,_,_=>none
 |K+1,e,b=>
  if b<(p.length:Int)then
  (idx p b).bind fun a=>
  (if a<0 then
  some true
  else
  if a>=(p.length:Int)then
  some true
  else
  some ((qav e a).getD false):Option Bool).bind fun c=>
  if c=true then
  some (.inr 15)
  else
  (some (qbS e a true)).bind fun d=>
  zk p K d (w64 (b+1))
  else
  some (.inl ())
def jS (N:Nat) (p:List Int):Option Int:=
 if(p.length:Int)>256 then
 some 5
 else
 (zk p N ([]:List (Int×Bool)) 0).bind (fun
 |(.inl ())=>
 some 0
 |(.inr a)=>
 some a)
theorem qbw (N:Nat) (p:List Int) {res:Int} (h:jS N p=some res):qg ZT (.fn 136) [vl encI p] [] (.i res) []:=by
 unfold jS at h
 refine Uc Tryz.func136 rfl rfl (m:=32) rfl (rs:=[.tmp 2]) rfl (l:=(kL p [])) rfl ?_
 refine sh fol (kL p []) ?_
 refine sq ?_
 refine sh fol (kL p [(8,.bool (decide ((p.length:Int)>256)))]) ?_
 refine ihD h (fun u h=>?_) (fun u h=>?_)
 ·refine sh fol [(2,.i 5)] ?_
  refine Goes.ret ?_
  obtain rfl:=si h
  exact(gw2 [.i 5] (Ua tI))
 refine Goes.skip ?_
 refine sg fol (kL p [(3,.map 0)]) [mpB (AV.int .i64) fO ([]:List (Int×Bool))] ?_
 refine sq ?_
 refine sh fol (kL p [(3,.map 0),(10,vl encI p),(11,.i (p.length:Int)),(12,.i 0)]) ?_
 refine Goes.block ?_
 obtain⟨n,g4,h⟩:=bnd h
 refine Goes.imp (Q:=fun x s'=>(x= .exit 0/\(.inl ())=n/\Sub s' (ofG 32 [],[]))\/(x= .ret/\ ∃t,(.inr t)=n/\yG ZT [.tmp 2] (.i t) .ret s')) ?_ ?_
 ·refine Ub (fun M s=> ∃(d:List (Int×Bool)) (b:Int),s=(ofG 32 (kL p ((3,.map 0)::(kT p (p.length:Int) b []))),[mpB (AV.int .i64) fO d])/\zk p M d b=some n) ?_ (m:=N) ⟨_,_,rfl,g4⟩
  rintro M s ⟨d,b,rfl,g4⟩
  cases M with
  |zero=>simp only[zk]at g4;cases g4
  |succ M=>
   rw[zk]at g4
   refine sh fol (kL p ((3,.map 0)::(kT p (p.length:Int) b [(13,.bool (decide (b<(p.length:Int))))]))) ?_
   refine sq ?_
   refine ihD g4 (fun v g4=>?_) (fun v g4=>?_)
   ·refine Goes.skip ?_
    refine sq (Goes.block ?_)
    obtain⟨c,e,g4⟩:=bnd g4
    refine sq (gr fol [0,1] (kL p ((3,.map 0)::(5,.i c)::(kT p (p.length:Int) b []))) (ac (iv qI encI e) (ac (lv 0 ce3 encI e rfl) az)) ?_)
    refine sq ?_
    refine sq ?_
    obtain⟨o,a,g4⟩:=bnd g4
    refine Goes.cut (s':=(ofG 32 (kL p ((3,.map 0)::(5,.i c)::(kT p (p.length:Int) b [(28,.bool o)]))),[mpB (AV.int .i64) fO d])) ?_ ?_
    ·rcases wyD a with⟨k,a⟩|⟨k,a⟩
     ·obtain rfl:=si a
      exact tr fol [2] (kL p ((3,.map 0)::(5,.i c)::(kT p (p.length:Int) b [(28,.bool true)]))) (ac (gw k) az)
     rcases wyD a with⟨q,a⟩|⟨q,a⟩
     ·obtain rfl:=si a
      exact tr fol [2,8] (kL p ((3,.map 0)::(5,.i c)::(kT p (p.length:Int) b [(28,.bool true)]))) (ac (gw k) (ac (gw q) az))
     obtain rfl:=si a
     exact tr fol [2,8,11] (kL p ((3,.map 0)::(5,.i c)::(kT p (p.length:Int) b [(28,.bool ((qav d c).getD false))]))) (ac (gw k) (ac (gw q) (ac (hs (.run [0] (xG ZT 223 (.map 0) (.i c) false) [mpB (AV.int .i64) fO d] (.bool ((qav d c).getD false)) [mpB (AV.int .i64) fO d] false) (qii (z:=false) (f:=fO) qiI keyI rfl c)) az)))
    refine ihB g4 (fun r g4=>?_) (fun r g4=>?_)
    ·refine sh fol [(2,.i 15)] ?_
     refine Goes.ret ?_
     obtain rfl:=si g4
     exact Or.inr (⟨rfl,_,rfl,(gw2 [.i 15] (Ua tI))⟩)
    refine Goes.skip ?_
    obtain⟨g,j,g4⟩:=bnd g4
    refine gq fol [2] (kL p ((3,.map 0)::(kT p (p.length:Int) b []))) [mpB (AV.int .i64) fO g] (ac (hs (.run [0] (yh ZT 223 (.map 0) (.i c) (.bool true)) [mpB (AV.int .i64) fO d] .undef [mpB (AV.int .i64) fO g] true) (upm qiI keyI fO rfl c true j rfl)) az) ?_
    refine gh fol (kL p ((3,.map 0)::(kT p (p.length:Int) (w64 (b+1)) []))) ?_
    exact⟨M,(ofG 32 (kL p ((3,.map 0)::(kT p (p.length:Int) (w64 (b+1)) []))),[mpB (AV.int .i64) fO g]),Nat.lt_succ_self _,(Sub.refl _),_,_,rfl,g4⟩
   refine Goes.exit ?_
   obtain rfl:=si g4
   exact Or.inl (⟨rfl,rfl,(Sub.norm [] [] rfl rfl .nil .nil)⟩)
 rintro x s' (⟨rfl,rfl,hsub⟩|⟨rfl,w,rfl,hret⟩)
 ·try dsimp only at h
  refine Goes.sub hsub ?_
  refine sh fol [(2,.i 0)] ?_
  refine Goes.ret ?_
  obtain rfl:=si h
  exact(gw2 [.i 0] (Ua tI))
 try dsimp only at h
 obtain rfl:=si h
 exact hret
def vZ (a:List Int) (b:Int):Option Unit:=
 some ()
theorem qb2 (a:List Int) (b:Int) (h:vZ a b=some ()):qg ZT (.fn 205) [vl encI a,.i b] [] (.func (.func 250) [] [.ptr 0 0,.ptr 1 0]) (kC b a []):=by
 unfold vZ at h
 refine Ug Tryz.func205 rfl rfl (m:=6) rfl (rs:=[.tmp 4]) rfl (l:=(kL a [(1,.i b)])) rfl ?_
 intro B hB
 refine sg fol [(2,.ptr 0 0),(3,.ptr 1 0)] (.cells [vl encI a]::(kAW b)) ?_
 refine sh fol [(4,.func (.func 250) [] [.ptr 1 0,.ptr 0 0])] ?_
 refine Goes.ret ?_
 exact(gh2 [.func (.func 250) [] [.ptr 1 0,.ptr 0 0]] (Sub.norm [] [some 1,some 0] (by rw[hB];rfl) rfl (.keep (.funcL (sn) (rc (.ptr rfl) (rc (.ptr rfl) rn))) .nil) (.kb rfl (.same sn) (.kb rfl (.same sn) .nil))))
def jT (b:List Bool) (c:Option (List Int)) (a:Int):Option ((List Bool)×(List Int)):=
 (idx b a).bind fun h=>
 (put b a true).bind fun d=>
 ((match c with
 |none=>
 some ([a]:List Int)
 |some e=>
 (app 8 e [a]).bind fun f=>
 some f):Option (List Int)).bind fun g=>
 some (d,g)
theorem qbC (d:List Bool) (b:Option (List Int)) (a:Int) {p:List Bool} {q:List Int} (h:jT d b a=some (p,q)):qg ZT (.rd 0) [.i a] (.loop .ready none (ofG 37 [(4,.ptr 1 0),(6,.ptr 3 0)]) qh.xp qh.x1 qh.x2::(kB d (kF d (.cells [hsl 4 1 b]::(kJ b))))) (.bool true) (.loop .ready none (ofG 37 [(4,.ptr 1 0),(6,.ptr 3 0)]) qh.xp qh.x1 qh.x2::(kB p (kF p (.cells [.oslice 5 q.length 1]:: .dead::(kA q []))))):=by
 unfold jT at h
 refine Goes.round (m:=37) (l0:=(kAB [])) (l:=(kAB [(23,.i a)])) rfl rfl rfl ?_
 intro B hB
 refine Uj ?_
 refine gh fol (kAB (kAN a)) ?_
 refine⟨_,Sub.refl _,?_⟩
 refine⟨_,_,_,_,_,rfl,?_⟩
 refine Uj ?_
 refine Goes.block ?_
 obtain⟨s,g,h⟩:=bnd h
 obtain⟨f,j,h⟩:=bnd h
 refine sq (gq fol [2,3] ((6,.ptr 3 0)::(kAN a)) (.loop .busy none (ofG 37 [(4,.ptr 1 0),(6,.ptr 3 0)]) qh.xp qh.x1 qh.x2::(kB d (kF f (.cells [hsl 4 1 b]::(kJ b))))) (ac (hs (.done (.opt (qc ZT 104 (.slice 2 0 d.length d.length 1) (.i a))) (.ptr 2 ((a:Int).toNat*1+0))) (vg qep g)) (ac (hs (.run [2] (ku ZT 4 (.ptr 2 ((a:Int).toNat*1+0)) (.bool true)) (.loop .busy none (ofG 37 [(4,.ptr 1 0),(6,.ptr 3 0)]) qh.xp qh.x1 qh.x2::(kB d (kF d (.cells [hsl 4 1 b]::(kJ b))))) .undef (.loop .busy none (ofG 37 [(4,.ptr 1 0),(6,.ptr 3 0)]) qh.xp qh.x1 qh.x2::(kB d (kF f (.cells [hsl 4 1 b]::(kJ b))))) true) (jQ (E:=qd2) (l:=d) (y:=true) rfl (show _=some 1 by kernel_rfl) rfl g rfl rfl rfl rfl rfl j rfl)) az)) ?_)
 refine Goes.sub (show Sub (ofG 37 ((6,.ptr 3 0)::(kAN a)),(.loop .busy none (ofG 37 [(4,.ptr 1 0),(6,.ptr 3 0)]) qh.xp qh.x1 qh.x2::(kB d (kF f (.cells [hsl 4 1 b]::(kJ b)))))) (ofG 37 ((6,.ptr 3 0)::(kAN a)),(.loop .busy none (ofG 37 [(4,.ptr 1 0),(6,.ptr 3 0)]) qh.xp qh.x1 qh.x2::(kB f (kF f (.cells [hsl 4 1 b]::(kJ b))))))from(Sub.norm [] [some 0,some 1,some 2,some 3,some 4] (by rw[hB];rfl) rfl (.kp (.keep (.same nI) .nil)) (.kb rfl (.loop rfl (.kp (.kp .nil))) (.kb rfl (.cells (rc (.sliceE rfl (ky j)) rn)) (.ks (.kb rfl (.cells (rc (.hs rfl) rn)) (.ks .nil))))))) ?_
 obtain⟨r,e,h⟩:=bnd h
 refine Uk (s':=(ofG 37 [],(.loop .busy none (ofG 37 [(4,.ptr 1 0),(6,.ptr 3 0)]) qh.xp qh.x1 qh.x2::(kB f (kF f (.cells [.oslice 5 r.length 1]:: .dead::(kA r []))))))) ?_ ?_
 ·rcases b with _|k
  ·try dsimp only at e
   obtain rfl:=si e
   exact qE.sub (qE.rg fol [] (.loop .busy none (ofG 37 [(4,.ptr 1 0),(6,.ptr 3 0)]) qh.xp qh.x1 qh.x2::(kB f (kF f (.cells [.oslice 6 1 1]:: .cells ((hof (none:Option (List Int))).flatMap encI.c):: .cells [.i a]::(kAW a)))))) (Sub.norm [] [some 0,some 1,some 2,some 3,some 4,some 6] (by rw[hB];rfl) rfl .nil (.kb rfl (.loop rfl (.kp (.kp .nil))) (.kb rfl (.cells (rc (.slice rfl) rn)) (.ks (.kb rfl (.cells (rc ((qJ.osliceE rfl rfl)) rn)) (.lost (.ks .nil)))))))
  try dsimp only at e
  obtain⟨o,n,e⟩:=bnd e
  obtain rfl:=si e
  exact qE.sub (qE.rq fol [3] [] (.loop .busy none (ofG 37 [(4,.ptr 1 0),(6,.ptr 3 0)]) qh.xp qh.x1 qh.x2::(kB f (kF f (.cells [.oslice 6 o.length 1]::(kAI a (kA o [])))))) (ac (hs (.run [4,5] (ko ZT [22,22] (.oslice 4 k.length 1) (.slice 5 0 1 1 1)) (.loop .busy none (ofG 37 [(4,.ptr 1 0),(6,.ptr 3 0)]) qh.xp qh.x1 qh.x2::(kB f (kF f (kZ k (kA k (kAW a)))))) (.oslice 6 o.length 1) (.loop .busy none (ofG 37 [(4,.ptr 1 0),(6,.ptr 3 0)]) qh.xp qh.x1 qh.x2::(kB f (kF f (kZ k (kAI a (kA o [])))))) true) (y9 qI (E:=encI) rfl (qdr (E:=encI) (ys:=[a]) rfl rfl rfl rfl) (qfo (E:=encI) (l:=k) rfl rfl rfl n rfl))) az)) (Sub.norm [] [some 0,some 1,some 2,some 3,some 4,some 6] (by rw[hB];rfl) rfl .nil (.kb rfl (.loop rfl (.kp (.kp .nil))) (.kb rfl (.cells (rc (.slice rfl) rn)) (.ks (.kb rfl (.cells (rc (.oslice rfl) rn)) (.lost (.ks .nil)))))))
 intro _ hsub
 simp only[ZI,ZP]at h
 obtain⟨rfl,rfl⟩:=h
 exact⟨_,hsub,⟨_,_,rfl,(Sub.keep [0] rfl rfl)⟩⟩
def qZ (a:Int) (b:List Int):Nat->(List Bool)->(Option (List Int))->Int->Option ((List Bool)×(List Int))
 |0,_,_,_=>none
 |K+1,g,h,e=>
  (jT g h e).bind fun(f,c)=>
  (idx b e).bind fun d=>
  if d=a then
  some (f,c)
  else
  qZ a b K f (some c) d
def jv (N:Nat) (b:List Bool) (a:Int) (c:List Int):Option ((List Bool)×(List Int)):=
 (qZ a c N b (none:Option (List Int)) a).bind fun d=>
 some d
theorem qa2 (N:Nat) (f:List Bool) (a:Int) (d:List Int) {t:List Bool} {u:List Int} (h:jv N f a d=some (t,u)):qg ZT (.fn 250) [.yld 0,.ptr 4 0,.ptr 5 0] (.loop .ready none (ofG 37 [(4,.ptr 1 0),(6,.ptr 3 0)]) qh.xp qh.x1 qh.x2::(kB f (kF f (kAL (kC a d []))))) (.tuple []) (.loop .ready none (ofG 37 [(4,.ptr 1 0),(6,.ptr 3 0)]) qh.xp qh.x1 qh.x2::(kB t (kF t (.cells [.oslice 6 u.length 1]::(kC a d (kA u [])))))):=by
 unfold jv at h
 refine Ug Tryz.func250 rfl rfl (m:=16) rfl (rs:=[]) rfl (l:=[(0,.yld 0),(1,.ptr 4 0),(2,.ptr 5 0)]) rfl ?_
 intro B hB
 refine Uj ?_
 refine sh fol ((0,.yld 0)::(kAC a [])) ?_
 refine Goes.block ?_
 obtain⟨w,g6,h⟩:=bnd h
 refine Goes.imp (Q:=fun x s'=>(x= .ret/\ ∃q,q=w/\qba ZT [] (.tuple []) (.loop .ready none (ofG 37 [(4,.ptr 1 0),(6,.ptr 3 0)]) qh.xp qh.x1 qh.x2::(kB q.1 (kF q.1 (.cells [.oslice 6 q.2.length 1]::(kC a d (kA q.2 [])))))) .ret s')) ?_ ?_
 ·refine Goes.sub (s':=(ofG 16 ((0,.yld 0)::(kAC a [])),(.loop .ready none (ofG 37 [(4,.ptr 1 0),(6,.ptr 3 0)]) qh.xp qh.x1 qh.x2::(kB f (kF f (.cells [hsl 6 1 (none:Option (List Int))]::(kC a d [.cells ((hof (none:Option (List Int))).flatMap encI.c)]))))))) (Sub.norm [] [some 0,some 1,some 2,some 3,some 4,some 5,none] (by rw[hB];rfl) rfl (.keep (.yld rfl) (.kp (.kp (.keep (.same nI) .nil)))) (.kb rfl (.loop rfl (.kp (.kp .nil))) (.kb rfl (.cells (rc (.slice rfl) rn)) (.ks (.kb rfl (.cells (rc .hs0 rn)) (.kb rfl (.same sn) (.kb rfl (.same sn) (.fresh .nil)))))))) ?_
  refine Ub (fun M s=> ∃(k:List Bool) (n:Option (List Int)) (o:Int),s=(ofG 16 ((0,.yld 0)::(kAC o [])),(.loop .ready none (ofG 37 [(4,.ptr 1 0),(6,.ptr 3 0)]) qh.xp qh.x1 qh.x2::(kB k (kF k (.cells [hsl 6 1 n]::(kC a d (kJ n)))))))/\qZ a d M k n o=some w) ?_ (m:=N) ⟨_,_,_,rfl,g6⟩
  rintro M s ⟨k,n,o,rfl,g6⟩
  cases M with
  |zero=>simp only[qZ]at g6;cases g6
  |succ M=>
   rw[qZ]at g6
   refine sq ?_
   obtain⟨⟨p,e⟩,r,g6⟩:=bnd g6
   try dsimp only at g6
   refine sq (gq fol [2] ((0,.yld 0)::(kAC o [(8,.bool true)])) (.loop .ready none (ofG 37 [(4,.ptr 1 0),(6,.ptr 3 0)]) qh.xp qh.x1 qh.x2::(kB p (kF p (kAX e (kC a d (.dead::(kA e []))))))) (ac (hs (.callH (.rd 0) [.i o] (.loop .ready none (ofG 37 [(4,.ptr 1 0),(6,.ptr 3 0)]) qh.xp qh.x1 qh.x2::(kB k (kF k (.cells [hsl 6 1 n]::(kC a d (kJ n)))))) [0,1,2,3,6] (.bool true) (.loop .ready none (ofG 37 [(4,.ptr 1 0),(6,.ptr 3 0)]) qh.xp qh.x1 qh.x2::(kB p (kF p (kAX e (kC a d (.dead::(kA e [])))))))) (qgq [some 0,some 1,some 2,some 3,some 6] [some 0,some 1,some 2,some 3,none,none,none,some 5] (qbC k n o r) rfl (.kb rfl (.loop rfl (.kp (.kp .nil))) (.kb rfl (.cells (rc (.slice rfl) rn)) (.ks (.kb rfl (.cells (rc (.hs rfl) rn)) (.ks .nil))))) rfl rfl (.back rfl rfl (.loop rfl (.kp (.kp .nil))) rfl (.back rfl rfl (.cells (rc (.slice rfl) rn)) rfl (.back rfl rfl (.same fa) rfl (.back rfl rfl (.cells (rc (.oslice rfl) rn)) rfl (.old rfl rfl (.old rfl rfl (.dead (.new rfl rfl (.same fa) rfl .nil)))))))) (rc (.same nI) rn) (.same nB) rfl)) az) ?_)
   refine Goes.ifB (b:=true) (by kernel_rfl) (fun _=>?_) (fun c=>(by cases c))
   refine Goes.skip ?_
   refine Goes.block ?_
   obtain⟨j,g,g6⟩:=bnd g6
   refine sq (gr fol [2,3] ((0,.yld 0)::(kAC j [])) (ac (iv qI encI g) (ac (lv 0 ce3 encI g rfl) az)) ?_)
   refine sh fol ((0,.yld 0)::(kAC j [(15,.bool (decide (j=a)))])) ?_
   refine ihD g6 (fun v g6=>?_) (fun v g6=>?_)
   ·refine Goes.ret ?_
    obtain rfl:=si g6
    exact⟨rfl,_,rfl,(gh2 [] (Sub.norm [] [some 0,some 1,some 2,some 3,some 4,some 5,some 7] (by rw[hB];rfl) rfl (.keep (.same (qo.tuple sn)) .nil) (.kb rfl (.loop rfl (.kp (.kp .nil))) (.kb rfl (.cells (rc (.slice rfl) rn)) (.ks (.kb rfl (.cells (rc (.oslice rfl) rn)) (.kb rfl (.same sn) (.kb rfl (.same sn) (.ks .nil)))))))))⟩
   refine Goes.skip ?_
   exact⟨M,(ofG 16 ((0,.yld 0)::(kAC j [])),(.loop .ready none (ofG 37 [(4,.ptr 1 0),(6,.ptr 3 0)]) qh.xp qh.x1 qh.x2::(kB p (kF p (.cells [hsl 6 1 (some e)]::(kC a d (kJ (some e)))))))),Nat.lt_succ_self _,(Sub.norm [] [some 0,some 1,some 2,some 3,some 4,some 5,some 7] (by rw[hB];rfl) rfl (.keep (.yld rfl) (.kp (.kp (.keep (.same nI) .nil)))) (.kb rfl (.loop rfl (.kp (.kp .nil))) (.kb rfl (.cells (rc (.slice rfl) rn)) (.ks (.kb rfl (.cells (rc ((qJ.hs1 rfl)) rn)) (.kb rfl (.same sn) (.kb rfl (.same sn) (.ks .nil)))))))),_,_,_,rfl,g6⟩
 rintro x s' ⟨rfl,y,rfl,hret⟩
 obtain rfl:=si h
 exact⟨_,Sub.refl _,hret⟩
def zm (N:Nat) (a:List Int):Nat->(List (List Int))->(List Bool)->Int->Option (List (List Int))
 |0,_,_,_=>none
 |K+1,c,d,b=>
  if b<(a.length:Int)then
  (((idx d b).bind fun e=>
  if e=true then
  some (c,d)
  else
  (vZ a b).bind fun _=>
  (jv N d b a).bind fun(f,g)=>
  (app 24 c [g]).bind fun h=>
  some (h,f):Option ((List (List Int))×(List Bool)))).bind fun(j,i)=>
  zm N a K j i (w64 (b+1))
  else
  some c
def jU (N:Nat) (a:List Int):Option (List (List Int)):=
 (mk 1 (a.length:Int) false).bind fun b=>
 (zm N a N ([]:List (List Int)) b 0).bind fun c=>
 some c
theorem qbx (N:Nat) (a:List Int) {A:List (List Int)} (h:jU N a=some A):qg ZT (.fn 137) [vl encI a] [] (.gslice 0 A.length 1) [.cells (A.flatMap (qb encI).c)]:=by
 unfold jU at h
 refine Goes.fnHr Tryz.func137 rfl rfl (m:=37) rfl (rs:=[.tmp 2]) rfl (l:=(kL a [])) rfl ?_
 intro B hB hR
 refine sh fol (kL a []) ?_
 refine sh fol (kL a (kAG [])) ?_
 obtain⟨p,w,h⟩:=bnd h
 refine sq (gq fol [2] (kL a (kAG (kAZ []))) (kF p (kS p [])) (ac (hs (.run [] (jf ZT 104 (.i (a.length:Int)) (.i (a.length:Int))) [] (.slice 0 0 p.length p.length 1) (kF p []) false) (qbZ qep (E:=qd2) (z:=false) rfl (by kernel_rfl) w rfl)) az) ?_)
 refine sq ?_
 refine sh fol (kL a (kAG (kAZ (kAb (a.length:Int))))) ?_
 refine Goes.block ?_
 obtain⟨F,g7,h⟩:=bnd h
 refine Goes.imp (Q:=fun x s'=>(x= .exit 0/\ ∃u,u=F/\Sub s' (ofG 37 (kR u []),[.cells (u.flatMap (qb encI).c)]))) ?_ ?_
 ·refine Goes.sub (s':=(ofG 37 (kL a ((3,.gslice 0 ([]:List (List Int)).length 1)::(kAZ (kAb (a.length:Int))))),(.cells (([]:List (List Int)).flatMap (qb encI).c)::(kB p (kF p []))))) (Sub.norm [] [none,some 1,some 0] (by rw[hB];rfl) rfl (.keep (.same (qd encI _)) (.keep .nil (.kp (.keep (.same nI) (.keep (.same nI) .nil))))) (.fresh (.kb rfl (.cells (rc (.slice rfl) rn)) (.ks .nil)))) ?_
  refine Ub (fun M s=> ∃(f:List (List Int)) (g:List Bool) (e:Int),s=(ofG 37 (kL a (kR f (kAZ (kU (a.length:Int) e)))),(.cells (f.flatMap (qb encI).c)::(kB g (kF g []))))/\zm N a M f g e=some F) ?_ (m:=N) ⟨_,_,_,rfl,g7⟩
  rintro M s ⟨f,g,e,rfl,g7⟩
  cases M with
  |zero=>simp only[zm]at g7;cases g7
  |succ M=>
   rw[zm]at g7
   refine sh fol (kL a (kR f (kAZ [(12,.i (a.length:Int)),(13,.i e),(14,.bool (decide (e<(a.length:Int))))]))) ?_
   refine sq ?_
   refine ihD g7 (fun G g7=>?_) (fun G g7=>?_)
   ·refine Goes.skip ?_
    refine sq ?_
    obtain⟨C,g11,g7⟩:=bnd g7
    refine Goes.imp (Q:=fun x s'=>(x= .normal/\ ∃q j,(q,j)=C/\Sub s' (ofG 37 (kL a (kR q (kAZ (kU (a.length:Int) e)))),(.cells (q.flatMap (qb encI).c)::(kB j (kF j [])))))) ?_ ?_
    ·refine Goes.block ?_
     refine sh fol (kL a (kR f (kAZ ((5,.i e)::(kU (a.length:Int) e))))) ?_
     refine sq ?_
     obtain⟨y,k,g11⟩:=bnd g11
     refine sq (gr fol [2,3] (kL a (kR f (kAZ [(5,.i e),(12,.i (a.length:Int)),(13,.i e),(19,.bool y)]))) (ac (hs (.done (.opt (qc ZT 104 (.slice 2 0 g.length g.length 1) (.i e))) (.ptr 2 ((e:Int).toNat*1+0))) (vg qep k)) (ac (hs (.run [2] (qL ZT 4 (.ptr 2 ((e:Int).toNat*1+0))) (.cells (f.flatMap (qb encI).c)::(kB g (kF g []))) (.bool y) (.cells (f.flatMap (qb encI).c)::(kB g (kF g []))) false) (yI ce4 (E:=qd2) (l:=g) rfl rfl k (nl rfl) rfl)) az)) ?_)
     refine ihB g11 (fun D g11=>?_) (fun D g11=>?_)
     ·refine Goes.exit ?_
      obtain rfl:=si g11
      exact⟨rfl,_,_,rfl,(Sub.keep [0,3,4,12,13] rfl rfl)⟩
     refine Goes.skip ?_
     refine sg fol (kL a (kR f (kAZ ((5,.i e)::(6,.ptr 3 0)::(kU (a.length:Int) e))))) (.cells (f.flatMap (qb encI).c)::(kB g (kF g (kAL [])))) ?_
     refine sq ?_
     obtain⟨_,r,g11⟩:=bnd g11
     refine sq (gq fol [2] (kL a (kR f (kAB [(12,.i (a.length:Int)),(13,.i e),(22,.func (.func 250) [] [.ptr 4 0,.ptr 5 0])]))) (.cells (f.flatMap (qb encI).c)::(kB g (kF g (kAL (kC e a []))))) (ac (hs (.callH 205 [vl encI a,.i e] (.cells (f.flatMap (qb encI).c)::(kB g (kF g (kAL [])))) [] (.func (.func 250) [] [.ptr 4 0,.ptr 5 0]) (.cells (f.flatMap (qb encI).c)::(kB g (kF g (kAL (kC e a [])))))) (jA [] [none,none,none,none,some 0,some 1] (qb2 a e r) .nil rfl rfl (.old rfl rfl (.old rfl rfl (.old rfl rfl (.old rfl rfl (.new rfl rfl (.cells (rc (.same nI) rn)) rfl (.new rfl rfl (.cells (rc (.same (qd encI _)) rn)) rfl .nil)))))) (rc (.same (qd encI _)) (rc (.same nI) rn)) (.funcL (sn) (rc (.ptr rfl) (rc (.ptr rfl) rn))) rfl)) az) ?_)
     refine Goes.block ?_
     obtain⟨⟨d,b⟩,t,g11⟩:=bnd g11
     try dsimp only at g11
     refine Goes.range fol hR (gf:=250) (first:=[]) (captured:=[.ptr 4 0,.ptr 5 0]) (v:= .tuple []) (A2:=(.cells (f.flatMap (qb encI).c)::(kB d (kF d (kAX b (kC e a (.loop .ready none (ofG 37 [(4,.ptr 1 0),(6,.ptr 3 0)]) qh.xp qh.x1 qh.x2::(kA b [])))))))) (s':=(ofG 37 (kL a (kR f (kAB [(12,.i (a.length:Int)),(13,.i e),(22,.func (.func 250) [] [.ptr 4 0,.ptr 5 0])]))),(.cells (f.flatMap (qb encI).c)::(kB d (kF d (kAX b (kC e a (.loop .exhausted none (ofG 37 [(4,.ptr 1 0),(6,.ptr 3 0)]) qh.xp qh.x1 qh.x2::(kA b []))))))))) (x:= .normal) (by kernel_rfl) (by kernel_rfl) (qdI (show(Obl.callH 250 [.yld 6,.ptr 4 0,.ptr 5 0] (.cells (f.flatMap (qb encI).c)::(kB g (kF g (kAL (kC e a [.loop .ready none (ofG 37 [(0,vl encI a),(3,.gslice 0 f.length 1),(4,.ptr 1 0),(6,.ptr 3 0),(12,.i (a.length:Int)),(13,.i e),(22,.func (.func 250) [] [.ptr 4 0,.ptr 5 0])]) qh.xp qh.x1 qh.x2]))))) [6,1,2,3,4,5] (.tuple []) (.cells (f.flatMap (qb encI).c)::(kB d (kF d (kAX b (kC e a (.loop .ready none (ofG 37 [(4,.ptr 1 0),(6,.ptr 3 0)]) qh.xp qh.x1 qh.x2::(kA b [])))))))).Holds ZT from jA [some 6,some 1,some 2,some 3,some 4,some 5] [none,some 1,some 2,some 3,some 4,some 5,some 0,some 6] (qa2 N g e a t) (.kb rfl (.loop rfl (.drop (.drop (.kp (.kp (.drop (.drop (.drop .nil)))))))) (.kb rfl (.cells (rc (.slice rfl) rn)) (.ks (.kb rfl (.cells (rc (.same (qo.nilslice)) rn)) (.kb rfl (.cells (rc (.same nI) rn)) (.kb rfl (.cells (rc (.same (qd encI _)) rn)) .nil)))))) rfl rfl (.old rfl rfl (.back rfl rfl (.cells (rc (.slice rfl) rn)) rfl (.back rfl rfl (.same fa) rfl (.back rfl rfl (.cells (rc (.oslice rfl) rn)) rfl (.back rfl rfl (.cells (rc (.same nI) rn)) rfl (.back rfl rfl (.cells (rc (.same (qd encI _)) rn)) rfl (.back rfl rfl (.loop rfl (.kp (.kp .nil))) rfl (.new rfl rfl (.same fa) rfl .nil)))))))) (rc (.yld rfl) (rc (.ptr rfl) (rc (.ptr rfl) rn))) (.same (qo.tuple sn)) rfl)) (by kernel_rfl) ?_
     refine Goes.sub (show Sub (ofG 37 (kL a (kR f (kAB [(12,.i (a.length:Int)),(13,.i e),(22,.func (.func 250) [] [.ptr 4 0,.ptr 5 0])]))),(.cells (f.flatMap (qb encI).c)::(kB d (kF d (kAX b (kC e a (.loop .exhausted none (ofG 37 [(4,.ptr 1 0),(6,.ptr 3 0)]) qh.xp qh.x1 qh.x2::(kA b [])))))))) (ofG 37 (kL a (kR f (kAB [(12,.i (a.length:Int)),(13,.i e),(22,.func (.func 250) [] [.ptr 5 0,.ptr 6 0])]))),(.cells (f.flatMap (qb encI).c)::(kB d (kF d (kZ b (kA b (kC e a [])))))))from(Sub.norm [] [some 0,some 1,some 2,some 3,some 7,some 4,some 5] (by rw[hB];rfl) rfl (.keep (.same (qd encI _)) (.keep (.gslice rfl) (.kp (.kp (.keep (.same nI) (.keep (.same nI) (.keep (.funcL (sn) (rc (.ptr rfl) (rc (.ptr rfl) rn))) .nil))))))) (.ks (.kb rfl (.cells (rc (.slice rfl) rn)) (.ks (.kb rfl (.cells (rc (.oslice rfl) rn)) (.ks (.kb rfl (.same sn) (.kb rfl (.same sn) .nil))))))))) ?_
     obtain⟨n,o,g11⟩:=bnd g11
     refine gq fol [3] (kL a ((3,.gslice 8 n.length 1)::(kAZ (kU (a.length:Int) e)))) (.dead::(kB d (kF d (kZ b (kA b (kC e a (kZ b [.cells ((f).flatMap ((qb encI)).c++[.oslice 4 b.length 1])]))))))) (ac (hs (.run [0,7] (ko ZT [25,25] (.gslice 0 f.length 1) (.slice 7 0 1 1 1)) (.cells (f.flatMap (qb encI).c)::(kB d (kF d (kZ b (kA b (kC e a (kZ b []))))))) (.gslice 8 n.length 1) (.dead::(kB d (kF d (kZ b (kA b (kC e a (kZ b [.cells ((f).flatMap ((qb encI)).c++[.oslice 4 b.length 1])]))))))) true) (qb9 yg (E:=(qb encI)) (l:=f) (x:=b) rfl rfl rfl rfl rfl rfl rfl o rfl)) az) ?_
     obtain rfl:=si g11
     exact⟨rfl,_,_,rfl,((show Sub (ofG 37 (kL a ((3,.gslice 8 n.length 1)::(kAZ (kU (a.length:Int) e)))),(.dead::(kB d (kF d (kZ b (kA b (kC e a (kZ b [.cells ((f).flatMap ((qb encI)).c++[.oslice 4 b.length 1])])))))))) (ofG 37 (kL a (kR n (kAZ (kU (a.length:Int) e)))),(.cells (n.flatMap (qb encI).c)::(kB d (kF d []))))from(Sub.norm [4] [some 8,some 1,some 2] (by rw[hB];rfl) rfl (.keep (.same (qd encI _)) (.keep (.gslice rfl) (.kp (.keep (.same nI) (.keep (.same nI) .nil))))) (.kb rfl (zS.my (E:=(qb encI)) o (rc (.frz (Fz.os (E:=encI) rfl rfl (nl rfl)) (qd encI _)) rn)) (.kb rfl (.cells (rc (.slice rfl) rn)) (.ks .nil))))).trans (Sub.refl _))⟩
    rintro x s' ⟨rfl,q,j,rfl,hsub⟩
    try dsimp only at g7
    refine Goes.sub hsub ?_
    refine gh fol (kL a (kR q (kAZ (kU (a.length:Int) (w64 (e+1)))))) ?_
    exact⟨M,(ofG 37 (kL a (kR q (kAZ (kU (a.length:Int) (w64 (e+1)))))),(.cells (q.flatMap (qb encI).c)::(kB j (kF j [])))),Nat.lt_succ_self _,(Sub.refl _),_,_,_,rfl,g7⟩
   refine Goes.exit ?_
   obtain rfl:=si g7
   exact⟨rfl,_,rfl,(Sub.norm [] [some 0] (by rw[hB];rfl) rfl (.drop (.keep (.gslice rfl) .nil)) (.ks .nil))⟩
 rintro x s' ⟨rfl,u,rfl,hsub⟩
 refine Goes.sub hsub ?_
 refine sh fol [(2,.gslice 0 u.length 1)] ?_
 refine Goes.ret ?_
 obtain rfl:=si h
 exact(gh2 [.gslice 0 u.length 1] (xy.refl _ _))
def y7 (N:Nat) (p:List Int):Option ((List (List Int))×Int):=
 (jS N p).bind fun a=>
 if(!decide (a=0))=true then
 some ([],a)
 else
 (jU N p).bind fun b=>
 some (b,0)
theorem qcx (N:Nat) (p:List Int) {res:(List (List Int))×Int} (h:y7 N p=some res):qg ZT (.fn 65) [vl encI p] [] (.tuple [vl (qb encI) res.1,.i res.2]) []:=by
 unfold y7 at h
 refine Uc Tryz.func65 rfl rfl (m:=12) rfl (rs:=[.tmp 2,.tmp 3]) rfl (l:=(kL p [])) rfl ?_
 refine sh fol (kL p []) ?_
 refine sq ?_
 obtain⟨a,b,h⟩:=bnd h
 refine sq (gr fol [1] (kL p (kAO a)) (ac (cv (qbw N p b)) az) ?_)
 refine sh fol (kL p [(4,.i a),(8,.bool (!decide (a=0)))]) ?_
 refine ihB h (fun f h=>?_) (fun f h=>?_)
 ·refine sh fol [(2,.nilslice),(3,.i a)] ?_
  refine Goes.ret ?_
  obtain rfl:=si h
  exact(gw2 [.nilslice,.i a] (FzW.tuple (yw.cons (FzW.nilv (E:=(qb encI))) (yw.cons (Ua tI) yw.nil))))
 refine Goes.skip ?_
 obtain⟨d,e,h⟩:=bnd h
 refine sq (gq fol [1] [(2,.gslice 0 d.length 1),(3,.i 0)] [.cells (d.flatMap (qb encI).c)] (ac (hs (.callH 137 [vl encI p] [] [] (.gslice 0 d.length 1) [.cells (d.flatMap (qb encI).c)]) (jA [] [some 0] (qbx N p e) .nil rfl rfl (.new rfl rfl (.same fa) rfl .nil) (rc (.same (qd encI _)) rn) (.gslice rfl) rfl)) az) ?_)
 refine Goes.ret ?_
 obtain rfl:=si h
 exact(gw2 [.gslice 0 d.length 1,.i 0] (FzW.tuple (yw.cons (Uu (Fz.gs (E:=(qb encI)) rfl rfl (nl rfl))) (yw.cons (Ua tI) yw.nil))))
def vB (a:List Int) (e:Int) (b:Int) (c:Int):Option (List Int):=
 (idx a b).bind fun f=>
 (put a b (w64 (f+1))).bind fun d=>
 (idx d c).bind fun g=>
 (put d c (w64 (g-1))).bind fun h=>
 some h
theorem qcw (c:List Int) (k:Int) (a:Int) (b:Int) {o:List Int} (h:vB c k a b=some o):qg ZT (.rd 0) [.i k,.agg [.i a,.i b]] (.loop .ready none (ofG 30 [(5,.ptr 1 0)]) qf.xp qf.x1 qf.x2::(kB c (kA c []))) (.bool true) (.loop .ready none (ofG 30 [(5,.ptr 1 0)]) qf.xp qf.x1 qf.x2::(kB o (kA o []))):=by
 unfold vB at h
 refine Goes.round (m:=30) (l0:=(kAS [])) (l:=(kAS [(13,.i k),(14,.agg [.i a,.i b])])) rfl rfl rfl ?_
 intro B hB
 refine Uj ?_
 refine Goes.rg fol (kAS [(7,.ptr 3 0)]) (.loop .ready none (ofG 30 [(5,.ptr 1 0)]) qf.xp qf.x1 qf.x2::(kB c (kA c (kW a b [])))) ?_
 refine⟨_,Sub.refl _,?_⟩
 refine⟨_,_,_,_,_,rfl,?_⟩
 refine Uj ?_
 refine Goes.block ?_
 obtain⟨x2,e,h⟩:=bnd h
 obtain⟨d,g,h⟩:=bnd h
 refine sq (gq fol [3,4,6,7] (kAS [(7,.ptr 3 0)]) (.loop .busy none (ofG 30 [(5,.ptr 1 0)]) qf.xp qf.x1 qf.x2::(kB c (kA d (kW a b [])))) (ac (hs (.done (.opt (qc ZT 22 (.slice 2 0 c.length c.length 1) (.i a))) (.ptr 2 ((a:Int).toNat*1+0))) (vg qI e)) (ac (hs (.run [2] (qL ZT 3 (.ptr 2 ((a:Int).toNat*1+0))) (.loop .busy none (ofG 30 [(5,.ptr 1 0)]) qf.xp qf.x1 qf.x2::(kB c (kA c (kW a b [])))) (.i x2) (.loop .busy none (ofG 30 [(5,.ptr 1 0)]) qf.xp qf.x1 qf.x2::(kB c (kA c (kW a b [])))) false) (yI ce3 (E:=encI) (l:=c) rfl rfl e (nl rfl) rfl)) (ac (hs (.done (.opt (qc ZT 22 (.slice 2 0 c.length c.length 1) (.i a))) (.ptr 2 ((a:Int).toNat*1+0))) (vg qI e)) (ac (hs (.run [2] (ku ZT 3 (.ptr 2 ((a:Int).toNat*1+0)) (.i (w64 (x2+1)))) (.loop .busy none (ofG 30 [(5,.ptr 1 0)]) qf.xp qf.x1 qf.x2::(kB c (kA c (kW a b [])))) .undef (.loop .busy none (ofG 30 [(5,.ptr 1 0)]) qf.xp qf.x1 qf.x2::(kB c (kA d (kW a b [])))) true) (jQ (E:=encI) (l:=c) (y:=w64 (x2+1)) rfl (show _=some 1 by kernel_rfl) rfl e rfl rfl rfl rfl rfl g rfl)) az)))) ?_)
 refine Goes.sub (show Sub (ofG 30 (kAS [(7,.ptr 3 0)]),(.loop .busy none (ofG 30 [(5,.ptr 1 0)]) qf.xp qf.x1 qf.x2::(kB c (kA d (kW a b []))))) (ofG 30 (kAS [(7,.ptr 3 0)]),(.loop .busy none (ofG 30 [(5,.ptr 1 0)]) qf.xp qf.x1 qf.x2::(kB d (kA d (kW a b [])))))from(Sub.norm [] [some 0,some 1,some 2,some 3] (by rw[hB];rfl) rfl (.kp (.kp .nil)) (.kb rfl (.loop rfl (.kp .nil)) (.kb rfl (.cells (rc (.sliceE rfl (ky g)) rn)) (.ks (.kb rfl (.same sn) .nil)))))) ?_
 obtain⟨p,f,h⟩:=bnd h
 obtain⟨n,j,h⟩:=bnd h
 refine gq fol [3,4,6,7] [] (.loop .busy none (ofG 30 [(5,.ptr 1 0)]) qf.xp qf.x1 qf.x2::(kB d (kA n (kW a b [])))) (ac (hs (.done (.opt (qc ZT 22 (.slice 2 0 d.length d.length 1) (.i b))) (.ptr 2 ((b:Int).toNat*1+0))) (vg qI f)) (ac (hs (.run [2] (qL ZT 3 (.ptr 2 ((b:Int).toNat*1+0))) (.loop .busy none (ofG 30 [(5,.ptr 1 0)]) qf.xp qf.x1 qf.x2::(kB d (kA d (kW a b [])))) (.i p) (.loop .busy none (ofG 30 [(5,.ptr 1 0)]) qf.xp qf.x1 qf.x2::(kB d (kA d (kW a b [])))) false) (yI ce3 (E:=encI) (l:=d) rfl rfl f (nl rfl) rfl)) (ac (hs (.done (.opt (qc ZT 22 (.slice 2 0 d.length d.length 1) (.i b))) (.ptr 2 ((b:Int).toNat*1+0))) (vg qI f)) (ac (hs (.run [2] (ku ZT 3 (.ptr 2 ((b:Int).toNat*1+0)) (.i (w64 (p-1)))) (.loop .busy none (ofG 30 [(5,.ptr 1 0)]) qf.xp qf.x1 qf.x2::(kB d (kA d (kW a b [])))) .undef (.loop .busy none (ofG 30 [(5,.ptr 1 0)]) qf.xp qf.x1 qf.x2::(kB d (kA n (kW a b [])))) true) (jQ (E:=encI) (l:=d) (y:=w64 (p-1)) rfl (show _=some 1 by kernel_rfl) rfl f rfl rfl rfl rfl rfl j rfl)) az)))) ?_
 obtain rfl:=si h
 exact⟨_,(show Sub (ofG 30 [],(.loop .busy none (ofG 30 [(5,.ptr 1 0)]) qf.xp qf.x1 qf.x2::(kB d (kA n (kW a b []))))) (ofG 30 [],(.loop .busy none (ofG 30 [(5,.ptr 1 0)]) qf.xp qf.x1 qf.x2::(kB n (kA n []))))from(Sub.norm [] [some 0,some 1,some 2] (by rw[hB];rfl) rfl .nil (.kb rfl (.loop rfl (.kp .nil)) (.kb rfl (.cells (rc (.sliceE rfl (ky j)) rn)) (.ks .nil))))),⟨_,_,rfl,(xy.refl _ _)⟩⟩
def qx (b:List Int):Nat->(List Int)->(List Int)->Int->Option (List Int)
 |0,_,_,_=>none
 |K+1,k,g,h=>
  if h<(b.length:Int)then
  (idx b h).bind fun c=>
  (yR c).bind fun a=>
  (idx g (w64 (a-1))).bind fun d=>
  (idx g (w64 ((w64 (a-1))+1))).bind fun e=>
  (vB k c d e).bind fun i=>
  (put g (w64 (a-1)) e).bind fun f=>
  (idx f (w64 ((w64 (a-1))+1))).bind fun l=>
  (put f (w64 ((w64 (a-1))+1)) d).bind fun j=>
  qx b K i j (w64 (h+1))
  else
  some k
def zO (N:Nat) (a:List Int) (b:Int) (c:List Int):Option (List Int):=
 (zI N b).bind fun d=>
 (qx c N a d 0).bind fun e=>
 some e
theorem qam (N:Nat) (n:List Int) (d:Int) (a:List Int) {J:List Int} (h:zO N n d a=some J):qg ZT (.fn 204) [.yld 0,.ptr 3 0,.ptr 4 0] (.loop .ready none (ofG 30 [(5,.ptr 1 0)]) qf.xp qf.x1 qf.x2::(kB n (kA n (kC d a [])))) (.tuple []) (.loop .ready none (ofG 30 [(5,.ptr 1 0)]) qf.xp qf.x1 qf.x2::(kB J (kA J (kC d a [])))):=by
 unfold zO at h
 refine Ug Tryz.func204 rfl rfl (m:=50) rfl (rs:=[]) rfl (l:=[(0,.yld 0),(1,.ptr 3 0),(2,.ptr 4 0)]) rfl ?_
 intro B hB
 refine Uj ?_
 obtain⟨G,H,h⟩:=bnd h
 refine sq (gq fol [1] ((0,.yld 0)::(2,.ptr 4 0)::(kY G [])) (.loop .ready none (ofG 30 [(5,.ptr 1 0)]) qf.xp qf.x1 qf.x2::(kB n (kA n (kC d a (kA G []))))) (ac (hs (.callH 138 [.i d] (.loop .ready none (ofG 30 [(5,.ptr 1 0)]) qf.xp qf.x1 qf.x2::(kB n (kA n (kC d a [])))) [] (.slice 5 0 G.length G.length 1) (.loop .ready none (ofG 30 [(5,.ptr 1 0)]) qf.xp qf.x1 qf.x2::(kB n (kA n (kC d a (kA G [])))))) (jA [] [none,none,none,none,none,some 0] (vH N d H) .nil rfl rfl (.old rfl rfl (.old rfl rfl (.old rfl rfl (.old rfl rfl (.old rfl rfl (.new rfl rfl (.same fa) rfl .nil)))))) (rc (.same nI) rn) (.slice rfl) rfl)) az) ?_)
 refine sh fol ((0,.yld 0)::(kY G [(10,vl encI a),(11,.i (a.length:Int)),(12,.i 0)])) ?_
 refine Goes.block ?_
 obtain⟨K,g8,h⟩:=bnd h
 refine Goes.imp (Q:=fun x s'=>(x= .exit 0/\ ∃I,I=K/\Sub s' (ofG 50 [],(.loop .ready none (ofG 30 [(5,.ptr 1 0)]) qf.xp qf.x1 qf.x2::(kB I (kA I (kC d a []))))))) ?_ ?_
 ·refine Ub (fun M s=> ∃(p:List Int) (g:List Int) (q:Int),s=(ofG 50 ((0,.yld 0)::(kI g a (a.length:Int) q [])),(.loop .ready none (ofG 30 [(5,.ptr 1 0)]) qf.xp qf.x1 qf.x2::(kB p (kA p (kC d a (kA g []))))))/\qx a M p g q=some K) ?_ (m:=N) ⟨_,_,_,rfl,g8⟩
  rintro M s ⟨p,g,q,rfl,g8⟩
  cases M with
  |zero=>simp only[qx]at g8;cases g8
  |succ M=>
   rw[qx]at g8
   refine sh fol ((0,.yld 0)::(kI g a (a.length:Int) q [(13,.bool (decide (q<(a.length:Int))))])) ?_
   refine sq ?_
   refine ihD g8 (fun L g8=>?_) (fun L g8=>?_)
   ·refine Goes.skip ?_
    refine sq (Goes.block ?_)
    obtain⟨u,v,g8⟩:=bnd g8
    refine sq (gr fol [0,1] ((0,.yld 0)::(kY g ((6,.i u)::(kT a (a.length:Int) q [])))) (ac (iv qI encI v) (ac (lv 0 ce3 encI v rfl) az)) ?_)
    obtain⟨f,A,g8⟩:=bnd g8
    refine sq (gr fol [1] ((0,.yld 0)::(kY g ((6,.i u)::(7,.i (w64 (f-1)))::(kT a (a.length:Int) q [])))) (ac (cv (qaI u A)) az) ?_)
    refine sq ?_
    obtain⟨r,j,g8⟩:=bnd g8
    obtain⟨t,k,g8⟩:=bnd g8
    obtain⟨e,C,g8⟩:=bnd g8
    refine sq (gq fol [4,5,9,10,12] ((0,.yld 0)::(kY g ((7,.i (w64 (f-1)))::(kT a (a.length:Int) q [(32,.bool false)])))) (.loop .ready none (ofG 30 [(5,.ptr 1 0)]) qf.xp qf.x1 qf.x2::(kB e (kA e (kC d a (kA g []))))) (ac (hs (.done (.opt (qc ZT 22 (.slice 5 0 g.length g.length 1) (.i (w64 (f-1))))) (.ptr 5 ((w64 (f-1):Int).toNat*1+0))) (vg qI j)) (ac (hs (.run [5] (qL ZT 3 (.ptr 5 ((w64 (f-1):Int).toNat*1+0))) (.loop .ready none (ofG 30 [(5,.ptr 1 0)]) qf.xp qf.x1 qf.x2::(kB p (kA p (kC d a (kA g []))))) (.i r) (.loop .ready none (ofG 30 [(5,.ptr 1 0)]) qf.xp qf.x1 qf.x2::(kB p (kA p (kC d a (kA g []))))) false) (yI ce3 (E:=encI) (l:=g) rfl rfl j (nl rfl) rfl)) (ac (hs (.done (.opt (qc ZT 22 (.slice 5 0 g.length g.length 1) (.i (w64 ((w64 (f-1))+1))))) (.ptr 5 ((w64 ((w64 (f-1))+1):Int).toNat*1+0))) (vg qI k)) (ac (hs (.run [5] (qL ZT 3 (.ptr 5 ((w64 ((w64 (f-1))+1):Int).toNat*1+0))) (.loop .ready none (ofG 30 [(5,.ptr 1 0)]) qf.xp qf.x1 qf.x2::(kB p (kA p (kC d a (kA g []))))) (.i t) (.loop .ready none (ofG 30 [(5,.ptr 1 0)]) qf.xp qf.x1 qf.x2::(kB p (kA p (kC d a (kA g []))))) false) (yI ce3 (E:=encI) (l:=g) rfl rfl k (nl rfl) rfl)) (ac (hs (.callH (.rd 0) [.i u,.agg [.i r,.i t]] (.loop .ready none (ofG 30 [(5,.ptr 1 0)]) qf.xp qf.x1 qf.x2::(kB p (kA p (kC d a (kA g []))))) [0,1,2] (.bool true) (.loop .ready none (ofG 30 [(5,.ptr 1 0)]) qf.xp qf.x1 qf.x2::(kB e (kA e (kC d a (kA g [])))))) (qgq [some 0,some 1,some 2] [some 0,some 1,some 2,none,none,none] (qcw p u r t C) rfl (.kb rfl (.loop rfl (.kp .nil)) (.kb rfl (.cells (rc (.slice rfl) rn)) (.ks .nil))) rfl rfl (.back rfl rfl (.loop rfl (.kp .nil)) rfl (.back rfl rfl (.cells (rc (.slice rfl) rn)) rfl (.back rfl rfl (.same fa) rfl (.old rfl rfl (.old rfl rfl (.old rfl rfl .nil)))))) (rc (.same nI) (rc (.same (qo.agg sn)) rn)) (.same nB) rfl)) az))))) ?_)
    refine Goes.ifB (b:=false) (by kernel_rfl) (fun c=>(by cases c)) (fun _=>?_)
    refine Goes.skip ?_
    obtain⟨D,w,g8⟩:=bnd g8
    obtain⟨O,F,g8⟩:=bnd g8
    obtain⟨o,z,g8⟩:=bnd g8
    refine gq fol [8,9,12,13,14,15,16,17] ((0,.yld 0)::(kI g a (a.length:Int) q [])) (.loop .ready none (ofG 30 [(5,.ptr 1 0)]) qf.xp qf.x1 qf.x2::(kB e (kA e (kC d a (kA o []))))) (ac (hs (.done (.opt (qc ZT 22 (.slice 5 0 g.length g.length 1) (.i (w64 ((w64 (f-1))+1))))) (.ptr 5 ((w64 ((w64 (f-1))+1):Int).toNat*1+0))) (vg qI k)) (ac (hs (.run [5] (qL ZT 3 (.ptr 5 ((w64 ((w64 (f-1))+1):Int).toNat*1+0))) (.loop .ready none (ofG 30 [(5,.ptr 1 0)]) qf.xp qf.x1 qf.x2::(kB e (kA e (kC d a (kA g []))))) (.i t) (.loop .ready none (ofG 30 [(5,.ptr 1 0)]) qf.xp qf.x1 qf.x2::(kB e (kA e (kC d a (kA g []))))) false) (yI ce3 (E:=encI) (l:=g) rfl rfl k (nl rfl) rfl)) (ac (hs (.done (.opt (qc ZT 22 (.slice 5 0 g.length g.length 1) (.i (w64 (f-1))))) (.ptr 5 ((w64 (f-1):Int).toNat*1+0))) (vg qI j)) (ac (hs (.run [5] (qL ZT 3 (.ptr 5 ((w64 (f-1):Int).toNat*1+0))) (.loop .ready none (ofG 30 [(5,.ptr 1 0)]) qf.xp qf.x1 qf.x2::(kB e (kA e (kC d a (kA g []))))) (.i r) (.loop .ready none (ofG 30 [(5,.ptr 1 0)]) qf.xp qf.x1 qf.x2::(kB e (kA e (kC d a (kA g []))))) false) (yI ce3 (E:=encI) (l:=g) rfl rfl j (nl rfl) rfl)) (ac (hs (.done (.opt (qc ZT 22 (.slice 5 0 g.length g.length 1) (.i (w64 (f-1))))) (.ptr 5 ((w64 (f-1):Int).toNat*1+0))) (vg qI j)) (ac (hs (.run [5] (ku ZT 3 (.ptr 5 ((w64 (f-1):Int).toNat*1+0)) (.i t)) (.loop .ready none (ofG 30 [(5,.ptr 1 0)]) qf.xp qf.x1 qf.x2::(kB e (kA e (kC d a (kA g []))))) .undef (.loop .ready none (ofG 30 [(5,.ptr 1 0)]) qf.xp qf.x1 qf.x2::(kB e (kA e (kC d a (kA D []))))) true) (jQ (E:=encI) (l:=g) (y:=t) rfl (show _=some 1 by kernel_rfl) rfl j rfl rfl rfl rfl rfl w rfl)) (ac (hs (.done (.opt (qc ZT 22 (.slice 5 0 g.length g.length 1) (.i (w64 ((w64 (f-1))+1))))) (.ptr 5 ((w64 ((w64 (f-1))+1):Int).toNat*1+0))) (vg qI k)) (ac (hs (.run [5] (ku ZT 3 (.ptr 5 ((w64 ((w64 (f-1))+1):Int).toNat*1+0)) (.i r)) (.loop .ready none (ofG 30 [(5,.ptr 1 0)]) qf.xp qf.x1 qf.x2::(kB e (kA e (kC d a (kA D []))))) .undef (.loop .ready none (ofG 30 [(5,.ptr 1 0)]) qf.xp qf.x1 qf.x2::(kB e (kA e (kC d a (kA o []))))) true) (jQ (E:=encI) (l:=D) (y:=r) rfl (show _=some 1 by kernel_rfl) rfl F rfl rfl rfl rfl rfl z rfl)) az)))))))) ?_
    refine Goes.sub (show Sub (ofG 50 ((0,.yld 0)::(kI g a (a.length:Int) q [])),(.loop .ready none (ofG 30 [(5,.ptr 1 0)]) qf.xp qf.x1 qf.x2::(kB e (kA e (kC d a (kA o [])))))) (ofG 50 ((0,.yld 0)::(kI o a (a.length:Int) q [])),(.loop .ready none (ofG 30 [(5,.ptr 1 0)]) qf.xp qf.x1 qf.x2::(kB e (kA e (kC d a (kA o []))))))from(Sub.norm [] [some 0,some 1,some 2,some 3,some 4,some 5] (by rw[hB];rfl) rfl (.keep (.yld rfl) (.keep (.sliceE rfl ((ky w).trans (ky z))) (.keep (.same (qd encI _)) (.keep (.same nI) (.keep (.same nI) .nil))))) (.kb rfl (.loop rfl (.kp .nil)) (.kb rfl (.cells (rc (.slice rfl) rn)) (.ks (.kb rfl (.same sn) (.kb rfl (.same sn) (.ks .nil)))))))) ?_
    refine gh fol ((0,.yld 0)::(kI o a (a.length:Int) (w64 (q+1)) [])) ?_
    exact⟨M,(ofG 50 ((0,.yld 0)::(kI o a (a.length:Int) (w64 (q+1)) [])),(.loop .ready none (ofG 30 [(5,.ptr 1 0)]) qf.xp qf.x1 qf.x2::(kB e (kA e (kC d a (kA o [])))))),Nat.lt_succ_self _,(Sub.refl _),_,_,_,rfl,g8⟩
   refine Goes.exit ?_
   obtain rfl:=si g8
   exact⟨rfl,_,rfl,(Sub.norm [] [some 0,some 1,some 2,some 3,some 4] (by rw[hB];rfl) rfl .nil (.kb rfl (.loop rfl (.kp .nil)) (.kb rfl (.cells (rc (.slice rfl) rn)) (.ks (.kb rfl (.same sn) (.kb rfl (.same sn) .nil))))))⟩
 rintro x s' ⟨rfl,I,rfl,hsub⟩
 obtain rfl:=si h
 exact⟨_,hsub,(gh2 [] (xy.refl _ _))⟩
def yc (N:Nat) (n:Int) (w:List Int):Option (List Int):=
 (zI N n).bind fun a=>
 (zQ n w).bind fun _=>
 (zO N a n w).bind fun b=>
 some b
theorem qdZ (N:Nat) (n:Int) (w:List Int) {res:List Int} (h:yc N n w=some res):qg ZT (.fn 66) (kAR n w) [] (vl encI res) []:=by
 unfold yc at h
 refine Uc Tryz.func66 rfl rfl (m:=30) rfl (rs:=[.tmp 4]) rfl (l:=(kG n w [])) rfl ?_
 refine sh fol (kG n w []) ?_
 obtain⟨a,c,h⟩:=bnd h
 refine sq (gq fol [1] (kG n w (kAS [])) (kA a (kS a [])) (ac (hs (.callH 138 [.i n] [] [] (.slice 0 0 a.length a.length 1) (kA a [])) (jA [] [some 0] (vH N n c) .nil rfl rfl (.new rfl rfl (.same fa) rfl .nil) (rc (.same nI) rn) (.slice rfl) rfl)) az) ?_)
 refine sq ?_
 obtain⟨_,d,h⟩:=bnd h
 refine sq (gq fol [2] (kAS [(12,.func (.func 204) [] [.ptr 2 0,.ptr 3 0])]) (kA a (kS a (kC n w []))) (ac (hs (.callH 135 (kAR n w) (kA a (kS a [])) [] (.func (.func 204) [] kAY) (kA a (kS a (kC n w [])))) (jA [] [none,none,some 0,some 1] (yM n w d) .nil rfl rfl (.old rfl rfl (.old rfl rfl (.new rfl rfl (.cells (rc (.same nI) rn)) rfl (.new rfl rfl (.cells (rc (.same (qd encI _)) rn)) rfl .nil)))) (rc (.same nI) (rc (.same (qd encI _)) rn)) (.funcL (sn) (rc (.ptr rfl) (rc (.ptr rfl) rn))) rfl)) az) ?_)
 refine Goes.block ?_
 obtain⟨b,e,h⟩:=bnd h
 refine Goes.range fol rfl (gf:=204) (first:=[]) (captured:=kAY) (v:= .tuple []) (A2:=(kA b (kS b (kC n w [.loop .ready none (ofG 30 [(5,.ptr 1 0)]) qf.xp qf.x1 qf.x2])))) (s':=(ofG 30 (kAS [(12,.func (.func 204) [] [.ptr 2 0,.ptr 3 0])]),(kA b (kS b (kC n w [.loop .exhausted none (ofG 30 [(5,.ptr 1 0)]) qf.xp qf.x1 qf.x2]))))) (x:= .normal) (by kernel_rfl) (by kernel_rfl) (qdI (show(Obl.callH 204 (.yld 4::kAY) (kA a (kS a (kC n w [.loop .ready none (ofG 30 [(5,.ptr 1 0),(12,.func (.func 204) [] [.ptr 2 0,.ptr 3 0])]) qf.xp qf.x1 qf.x2]))) [4,1,0,2,3] (.tuple []) (kA b (kS b (kC n w [.loop .ready none (ofG 30 [(5,.ptr 1 0)]) qf.xp qf.x1 qf.x2])))).Holds ZT from jA [some 4,some 1,some 0,some 2,some 3] [some 2,some 1,some 3,some 4,some 0] (qam N a n w e) (.kb rfl (.loop rfl (.kp (.drop .nil))) (.kb rfl (.cells (rc (.slice rfl) rn)) (.ks (.kb rfl (.cells (rc (.same nI) rn)) (.kb rfl (.cells (rc (.same (qd encI _)) rn)) .nil))))) rfl rfl (.back rfl rfl (.same fa) rfl (.back rfl rfl (.cells (rc (.slice rfl) rn)) rfl (.back rfl rfl (.cells (rc (.same nI) rn)) rfl (.back rfl rfl (.cells (rc (.same (qd encI _)) rn)) rfl (.back rfl rfl (.loop rfl (.kp .nil)) rfl .nil))))) (rc (.yld rfl) (rc (.ptr rfl) (rc (.ptr rfl) rn))) (.same (qo.tuple sn)) rfl)) (by kernel_rfl) ?_
 refine Goes.sub (show Sub (ofG 30 (kAS [(12,.func (.func 204) [] [.ptr 2 0,.ptr 3 0])]),(kA b (kS b (kC n w [.loop .exhausted none (ofG 30 [(5,.ptr 1 0)]) qf.xp qf.x1 qf.x2])))) (ofG 30 (kAT [(12,.func (.func 204) [] [.ptr 2 0,.ptr 3 0])]),(kH b (kA b (kC n w []))))from(Sub.norm [] [some 1,some 0,some 2,some 3] rfl rfl (.kp (.keep (.funcL (sn) (rc (.ptr rfl) (rc (.ptr rfl) rn))) .nil)) (.kb rfl (.cells (rc (.slice rfl) rn)) (.ks (.kb rfl (.same sn) (.kb rfl (.same sn) .nil)))))) ?_
 refine sh fol (kAK b []) ?_
 refine Goes.ret ?_
 obtain rfl:=si h
 exact(gw2 [.slice 1 0 b.length b.length 1] (Uu (Fz.sl (E:=encI) rfl rfl (nl rfl))))
def jo (N:Nat) (n:Int) (w:List Int):Option ((List (List Int))×Int):=
 (je N n w).bind fun a=>
 if(!decide (a=0))=true then
 some ([],a)
 else
 (yc N n w).bind fun c=>
 (y7 N c).bind fun b=>
 some (b.1,b.2)
theorem qbB (N:Nat) (n:Int) (w:List Int) {res:(List (List Int))×Int} (h:jo N n w=some res):qg ZT (.fn 13) (kAR n w) [] (.tuple [vl (qb encI) res.1,.i res.2]) []:=by
 unfold jo at h
 refine Uc Tryz.func13 rfl rfl (m:=19) rfl (rs:=[.tmp 4,.tmp 5]) rfl (l:=(kG n w [])) rfl ?_
 refine sh fol (kG n w []) ?_
 refine sq ?_
 obtain⟨a,b,h⟩:=bnd h
 refine sq (gr fol [2] (kG n w [(6,.i a)]) (ac (cv (yx N n w b)) az) ?_)
 refine sh fol (kG n w [(6,.i a),(11,.bool (!decide (a=0)))]) ?_
 refine ihB h (fun f h=>?_) (fun f h=>?_)
 ·refine sh fol [(4,.nilslice),(5,.i a)] ?_
  refine Goes.ret ?_
  obtain rfl:=si h
  exact(gw2 [.nilslice,.i a] (FzW.tuple (yw.cons (FzW.nilv (E:=(qb encI))) (yw.cons (Ua tI) yw.nil))))
 refine Goes.skip ?_
 obtain⟨g,c,h⟩:=bnd h
 obtain⟨e,d,h⟩:=bnd h
 refine sq (gr fol [2,3] [(4,vl (qb encI) e.1),(5,.i e.2)] (ac (cv (qdZ N n w c)) (ac (cv (qcx N g d)) az)) ?_)
 refine Goes.ret ?_
 obtain rfl:=si h
 exact(gw2 [vl (qb encI) e.1,.i e.2] (FzW.tuple (yw.cons (Ua (zG (qb encI) _ (nl rfl))) (yw.cons (Ua tI) yw.nil))))
def jB (a:Int):Option (Option (List Int)):=
 ((if a<0 then
 none
 else
 some ():Option Unit)).bind fun _=>
 ((if(w64 (a-(w64 (0-0))))>0 then
 (cut ([]:List Int) 0 0).bind fun e=>
 (qfF 8 (w64 (a-(w64 (0-0)))) 0).bind fun b=>
 (cut b 0 0).bind fun c=>
 some (some c)
 else
 some (none:Option (List Int)):Option (Option (List Int)))).bind fun d=>
 some d
theorem qa3 (a:Int) {j:Option (List Int)} (h:jB a=some j):qg ZT (.fn 198) [.nilslice,.i a] [] (hsl 0 1 j) (kJ j):=by
 unfold jB at h
 refine Ug Tryz.func198 rfl rfl (m:=27) rfl (rs:=[.tmp 4]) rfl (l:=[(0,.nilslice),(1,.i a)]) rfl ?_
 intro B hB
 refine sh fol [(0,.nilslice),(1,.i a)] ?_
 refine sq ?_
 refine sh fol [(0,.nilslice),(1,.i a),(6,.bool (decide (a<0)))] ?_
 obtain⟨k,g2,h⟩:=bnd h
 refine Goes.imp (Q:=fun x s'=>(x= .normal/\()=k/\Sub s' (ofG 27 [(0,.nilslice),(1,.i a)],[]))) ?_ ?_
 ·refine ihD g2 (fun n g2=>?_) (fun n g2=>?_)
  ·cases g2
  refine Goes.skip ?_
  obtain rfl:=si g2
  exact⟨rfl,rfl,(Sub.keep [0,1] rfl rfl)⟩
 rintro x s' ⟨rfl,rfl,hsub⟩
 refine Goes.sub hsub ?_
 refine sq ?_
 refine sh fol [(0,.nilslice),(1,.i (w64 (a-(w64 (0-0)))))] ?_
 refine sh fol [(0,.nilslice),(1,.i (w64 (a-(w64 (0-0))))),(16,.bool (decide ((w64 (a-(w64 (0-0))))>0)))] ?_
 obtain⟨o,g5,h⟩:=bnd h
 refine Goes.imp (Q:=fun x s'=>(x= .normal/\ ∃c,c=o/\Sub s' (ofG 27 [(0,hsl 0 1 c)],(kJ c)))) ?_ ?_
 ·refine ihD g5 (fun p g5=>?_) (fun p g5=>?_)
  ·obtain⟨q,d,g5⟩:=bnd g5
   obtain⟨e,f,g5⟩:=bnd g5
   obtain⟨g,b,g5⟩:=bnd g5
   refine gq fol [3,5,8] [(0,.oslice 0 g.length 1)] (kA e []) (ac (hs (.done (.opt (yS ZT 22 .nilslice none (some (.i 0)) none)) .nilslice) (qgo (α:=Int) qI none (some 0) d)) (ac (hs (.run [] (ko ZT [22,3] .nilslice (.i (w64 (a-(w64 (0-0)))))) [] (.oslice 0 e.length 1) (kA e []) false) (qh4 qI it3 (E:=encI) rfl (z:=0) (by kernel_rfl) f rfl)) (ac (hs (.done (.opt (yS ZT 22 (.oslice 0 e.length 1) none (some (.i 0)) none)) (.oslice 0 g.length 1)) (qit qI b)) az))) ?_
   obtain rfl:=si g5
   exact⟨rfl,_,rfl,((show Sub (ofG 27 [(0,.oslice 0 g.length 1)],(kA e [])) (ofG 27 [(0,.oslice 0 g.length 1)],(kA g []))from(Sub.norm [] [some 0] (by rw[hB];rfl) rfl (.keep (.oslice rfl) .nil) (.kb rfl (zS.cut b) .nil))).trans (Sub.norm [] [some 0] (by rw[hB];rfl) rfl (.keep (qJ.hs1 rfl) .nil) (.ks .nil)))⟩
  refine Goes.skip ?_
  obtain rfl:=si g5
  exact⟨rfl,_,rfl,(Sub.norm [] [none] (by rw[hB];rfl) rfl (.keep qJ.hs0 .nil) (.fresh .nil))⟩
 rintro x s' ⟨rfl,c,rfl,hsub⟩
 refine Goes.sub hsub ?_
 refine sh fol [(4,hsl 0 1 c)] ?_
 refine Goes.ret ?_
 obtain rfl:=si h
 exact(gh2 [hsl 0 1 c] (xy.refl _ _))
def qB (slices:List (List Int)):Nat->Int->Int->Option Int
 |0,_,_=>none
 |K+1,a,b=>
  if a<(slices.length:Int)then
  (((idx slices a).bind fun c=>
  if(w64 (b+(c.length:Int)))<0 then
  none
  else
  some (w64 (b+(c.length:Int))):Option Int)).bind fun d=>
  qB slices K (w64 (a+1)) d
  else
  some b
def qp (slices:List (List Int)):Nat->(Option (List Int))->Int->Option (Option (List Int))
 |0,_,_=>none
 |K+1,b,a=>
  if a<(slices.length:Int)then
  (idx slices a).bind fun c=>
  ((match b with
  |none=>
  (match c with
  |[]=>
  some (none:Option (List Int))
  |g::xs20=>
  none)
  |some d=>
  (app 8 d c).bind fun e=>
  some (some e)):Option (Option (List Int))).bind fun f=>
  qp slices K f (w64 (a+1))
  else
  some b
def jd (N:Nat) (slices:List (List Int)):Option (List Int):=
 (qB slices N 0 0).bind fun c=>
 (jB c).bind fun a=>
 (qp slices N a 0).bind fun b=>
 some (hof b)
theorem xh (N:Nat) (slices:List (List Int)) {res:List Int} (h:jd N slices=some res):qg ZT (.fn 124) [vl (qb encI) slices] [] (vl encI res) []:=by
 unfold jd at h
 refine Uc Tryz.func124 rfl rfl (m:=36) rfl (rs:=[.tmp 2]) rfl (l:=[(0,vl (qb encI) slices)]) rfl ?_
 refine sh fol [(0,vl (qb encI) slices)] ?_
 refine sh fol [(0,vl (qb encI) slices),(3,.i 0)] ?_
 refine sq ?_
 refine sh fol [(0,vl (qb encI) slices),(3,.i 0),(9,vl (qb encI) slices),(10,.i (slices.length:Int)),(11,.i 0)] ?_
 refine Goes.block ?_
 obtain⟨B,g4,h⟩:=bnd h
 refine Goes.imp (Q:=fun x s'=>(x= .exit 0/\ ∃v,v=B/\Sub s' (ofG 36 [(0,vl (qb encI) slices),(3,.i v)],[]))) ?_ ?_
 ·refine Ub (fun M s=> ∃(f:Int) (o:Int),s=(ofG 36 [(0,vl (qb encI) slices),(3,.i o),(9,vl (qb encI) slices),(10,.i (slices.length:Int)),(11,.i f)],[])/\qB slices M f o=some B) ?_ (m:=N) ⟨_,_,rfl,g4⟩
  rintro M s ⟨f,o,rfl,g4⟩
  cases M with
  |zero=>simp only[qB]at g4;cases g4
  |succ M=>
   rw[qB]at g4
   refine sh fol [(0,vl (qb encI) slices),(3,.i o),(9,vl (qb encI) slices),(10,.i (slices.length:Int)),(11,.i f),(12,.bool (decide (f<(slices.length:Int))))] ?_
   refine sq ?_
   refine ihD g4 (fun C g4=>?_) (fun C g4=>?_)
   ·refine Goes.skip ?_
    refine sq ?_
    obtain⟨D,g7,g4⟩:=bnd g4
    refine Goes.imp (Q:=fun x s'=>(x= .normal/\ ∃w,w=D/\Sub s' (ofG 36 [(0,vl (qb encI) slices),(3,.i w),(9,vl (qb encI) slices),(10,.i (slices.length:Int)),(11,.i f)],[]))) ?_ ?_
    ·refine Goes.block ?_
     obtain⟨z,p,g7⟩:=bnd g7
     refine sq (gr fol [0,1] [(0,vl (qb encI) slices),(3,.i o),(5,vl encI z),(9,vl (qb encI) slices),(10,.i (slices.length:Int)),(11,.i f)] (ac (iv yg (qb encI) p) (ac (lv 0 qbY (qb encI) p rfl) az)) ?_)
     refine sh fol [(0,vl (qb encI) slices),(3,.i (w64 (o+(z.length:Int)))),(9,vl (qb encI) slices),(10,.i (slices.length:Int)),(11,.i f)] ?_
     refine sh fol [(0,vl (qb encI) slices),(3,.i (w64 (o+(z.length:Int)))),(9,vl (qb encI) slices),(10,.i (slices.length:Int)),(11,.i f),(20,.bool (decide ((w64 (o+(z.length:Int)))<0)))] ?_
     refine ihD g7 (fun F g7=>?_) (fun F g7=>?_)
     ·cases g7
     refine Goes.skip ?_
     obtain rfl:=si g7
     exact⟨rfl,_,rfl,(Sub.keep [0,3,9,10,11] rfl rfl)⟩
    rintro x s' ⟨rfl,w,rfl,hsub⟩
    refine Goes.sub hsub ?_
    refine gh fol [(0,vl (qb encI) slices),(3,.i w),(9,vl (qb encI) slices),(10,.i (slices.length:Int)),(11,.i (w64 (f+1)))] ?_
    exact⟨M,(ofG 36 [(0,vl (qb encI) slices),(3,.i w),(9,vl (qb encI) slices),(10,.i (slices.length:Int)),(11,.i (w64 (f+1)))],[]),Nat.lt_succ_self _,(Sub.refl _),_,_,rfl,g4⟩
   refine Goes.exit ?_
   obtain rfl:=si g4
   exact⟨rfl,_,rfl,(Sub.keep [0,3] rfl rfl)⟩
 rintro x s' ⟨rfl,v,rfl,hsub⟩
 refine Goes.sub hsub ?_
 obtain⟨g,q,h⟩:=bnd h
 refine sq (gq fol [1] [(0,vl (qb encI) slices),(6,hsl 0 1 g)] (kJ g) (ac (hs (.callH 198 [.nilslice,.i v] [] [] (hsl 0 1 g) (kJ g)) (jA [] [some 0] (qa3 v q) .nil rfl rfl (.new rfl rfl (.same fa) rfl .nil) (rc (.same (qo.nilslice)) (rc (.same nI) rn)) (.hs rfl) rfl)) az) ?_)
 refine sq ?_
 refine sh fol [(6,hsl 0 1 g),(25,vl (qb encI) slices),(26,.i (slices.length:Int)),(27,.i 0)] ?_
 refine Goes.block ?_
 obtain⟨y,g15,h⟩:=bnd h
 refine Goes.imp (Q:=fun x s'=>(x= .exit 2/\ ∃e,e=y/\Sub s' (ofG 36 [(6,hsl 0 1 e)],(kJ e)))) ?_ ?_
 ·refine Ub (fun M s=> ∃(d:Option (List Int)) (b:Int),s=(ofG 36 [(6,hsl 0 1 d),(25,vl (qb encI) slices),(26,.i (slices.length:Int)),(27,.i b)],(kJ d))/\qp slices M d b=some y) ?_ (m:=N) ⟨_,_,rfl,g15⟩
  rintro M s ⟨d,b,rfl,g15⟩
  cases M with
  |zero=>simp only[qp]at g15;cases g15
  |succ M=>
   rw[qp]at g15
   refine sh fol [(6,hsl 0 1 d),(25,vl (qb encI) slices),(26,.i (slices.length:Int)),(27,.i b),(28,.bool (decide (b<(slices.length:Int))))] ?_
   refine sq ?_
   refine ihD g15 (fun A g15=>?_) (fun A g15=>?_)
   ·refine Goes.skip ?_
    refine sq (Goes.block ?_)
    obtain⟨r,j,g15⟩:=bnd g15
    refine sq (gr fol [0,1] [(6,hsl 0 1 d),(8,vl encI r),(25,vl (qb encI) slices),(26,.i (slices.length:Int)),(27,.i b)] (ac (iv yg (qb encI) j) (ac (lv 0 qbY (qb encI) j rfl) az)) ?_)
    obtain⟨k,a,g15⟩:=bnd g15
    refine Uk (s':=(ofG 36 [(6,hsl 0 1 k),(25,vl (qb encI) slices),(26,.i (slices.length:Int)),(27,.i b)],(kJ k))) ?_ ?_
    ·rcases d with _|t
     ·try dsimp only at a
      rcases r with _|⟨G,xs20⟩
      ·try dsimp only at a
       obtain rfl:=si a
       exact qE.sub (qE.rq fol [2] [(6,.nilslice),(25,vl (qb encI) slices),(26,.i (slices.length:Int)),(27,.i b)] [.cells ((hof (none:Option (List Int))).flatMap encI.c)] (ac (hs (.run [] (ko ZT [22,22] .nilslice (vl encI ([]:List Int))) [.cells ((hof (none:Option (List Int))).flatMap encI.c)] .nilslice [.cells ((hof (none:Option (List Int))).flatMap encI.c)] false) (qj3 qI)) az)) (Sub.norm [] [none] rfl rfl (.keep qJ.hs0 (.keep (.same (qd (qb encI) _)) (.keep (.same nI) (.keep (.same nI) .nil)))) (.fresh .nil))
      try dsimp only at a
      cases a
     try dsimp only at a
     obtain⟨n,u,a⟩:=bnd a
     obtain rfl:=si a
     exact qE.sub (qE.rq fol [2] [(6,.oslice 1 n.length 1),(25,vl (qb encI) slices),(26,.i (slices.length:Int)),(27,.i b)] (.dead::(kA n [])) (ac (hs (.run [0] (ko ZT [22,22] (.oslice 0 t.length 1) (vl encI r)) (kA t []) (.oslice 1 n.length 1) (.dead::(kA n [])) true) (y9 qI (E:=encI) rfl (qhY (E:=encI) rfl _) (qfo (E:=encI) (l:=t) rfl rfl rfl u rfl))) az)) (Sub.norm [] [some 1] rfl rfl (.keep (qJ.hs1 rfl) (.keep (.same (qd (qb encI) _)) (.keep (.same nI) (.keep (.same nI) .nil)))) (.ks .nil))
    intro _ hsub
    refine Goes.sub hsub ?_
    refine gh fol [(6,hsl 0 1 k),(25,vl (qb encI) slices),(26,.i (slices.length:Int)),(27,.i (w64 (b+1)))] ?_
    exact⟨M,(ofG 36 [(6,hsl 0 1 k),(25,vl (qb encI) slices),(26,.i (slices.length:Int)),(27,.i (w64 (b+1)))],(kJ k)),Nat.lt_succ_self _,(Sub.refl _),_,_,rfl,g15⟩
   refine Goes.exit ?_
   obtain rfl:=si g15
   exact⟨rfl,_,rfl,(Sub.keep [6] rfl rfl)⟩
 rintro x s' ⟨rfl,e,rfl,hsub⟩
 refine Goes.sub hsub ?_
 refine sh fol [(2,hsl 0 1 e)] ?_
 refine Goes.ret ?_
 obtain rfl:=si h
 exact(gw2 [hsl 0 1 e] (FzW.hs (E:=encI) rfl rfl (nl rfl)))
def y8 (a:Int):Option Int:=
 some (w64 (0-a))
theorem qcr (a:Int) {res:Int} (h:y8 a=some res):qg ZT (.fn 127) [.i a] [] (.i res) []:=by
 unfold y8 at h
 refine Uc Tryz.func127 rfl rfl (m:=5) rfl (rs:=[.tmp 2]) rfl (l:=[(0,.i a)]) rfl ?_
 refine sh fol [(0,.i a)] ?_
 refine sh fol [(2,.i (w64 (0-a)))] ?_
 refine Goes.ret ?_
 obtain rfl:=si h
 exact(gw2 [.i (w64 (0-a))] (Ua tI))
def qP (a:List Int):Nat->(List Int)->Int->Option (List Int)
 |0,_,_=>none
 |K+1,c,b=>
  if b<(a.length:Int)then
  (idx a b).bind fun d=>
  (y8 d).bind fun e=>
  (app 8 c [e]).bind fun f=>
  qP a K f (w64 (b+1))
  else
  some c
def jk (N:Nat) (a:List Int):Option (List Int):=
 (qP a N ([]:List Int) 0).bind fun b=>
 some b
theorem qaE (N:Nat) (a:List Int) {n:List Int} (h:jk N a=some n):qg ZT (.fn 120) [vl encI a,.func (.func 127) [] []] [] (.gslice 0 n.length 1) (kA n []):=by
 unfold jk at h
 refine Ug Tryz.func120 rfl rfl (m:=22) rfl (rs:=[.tmp 4]) rfl (l:=(kL a [(1,.func (.func 127) [] [])])) rfl ?_
 intro B hB
 refine sh fol (kL a [(1,.func (.func 127) [] [])]) ?_
 refine sh fol (kL a [(1,.func (.func 127) [] []),(5,.nilslice)]) ?_
 refine sq ?_
 refine sh fol [(1,.func (.func 127) [] []),(5,.nilslice),(8,vl encI a),(9,.i (a.length:Int)),(10,.i 0)] ?_
 refine Goes.block ?_
 obtain⟨o,g5,h⟩:=bnd h
 refine Goes.imp (Q:=fun x s'=>(x= .exit 0/\ ∃f,f=o/\Sub s' (ofG 22 (kN f []),(kA f [])))) ?_ ?_
 ·refine Goes.sub (s':=(ofG 22 [(1,.func (.func 127) [] []),(5,.gslice 0 ([]:List Int).length 1),(8,vl encI a),(9,.i (a.length:Int)),(10,.i 0)],kAP)) (Sub.norm [] [none] (by rw[hB];rfl) rfl (.keep (.same (qo.func sn sn)) (.keep .nil (.keep (.same (qd encI _)) (.keep (.same nI) (.keep (.same nI) .nil))))) (.fresh .nil)) ?_
  refine Ub (fun M s=> ∃(b:List Int) (c:Int),s=(ofG 22 ((1,.func (.func 127) [] [])::(kN b ((8,vl encI a)::(kAJ (a.length:Int) c)))),(kA b []))/\qP a M b c=some o) ?_ (m:=N) ⟨_,_,rfl,g5⟩
  rintro M s ⟨b,c,rfl,g5⟩
  cases M with
  |zero=>simp only[qP]at g5;cases g5
  |succ M=>
   rw[qP]at g5
   refine sh fol ((1,.func (.func 127) [] [])::(kN b [(8,vl encI a),(9,.i (a.length:Int)),(10,.i c),(11,.bool (decide (c<(a.length:Int))))])) ?_
   refine sq ?_
   refine ihD g5 (fun q g5=>?_) (fun q g5=>?_)
   ·refine Goes.skip ?_
    refine sq (Goes.block ?_)
    obtain⟨p,d,g5⟩:=bnd g5
    refine sq (gr fol [0,1] ((1,.func (.func 127) [] [])::(kN b ((7,.i p)::(8,vl encI a)::(kAJ (a.length:Int) c)))) (ac (iv qI encI d) (ac (lv 0 ce3 encI d rfl) az)) ?_)
    obtain⟨k,g,g5⟩:=bnd g5
    obtain⟨e,j,g5⟩:=bnd g5
    refine gq fol [3,5] ((1,.func (.func 127) [] [])::(5,.gslice 2 e.length 1)::(8,vl encI a)::(kAJ (a.length:Int) c)) (kAI k (kA e [])) (ac (cv (qcr p g)) (ac (hs (.run [0,1] (ko ZT [22,22] (.gslice 0 b.length 1) (.slice 1 0 1 1 1)) (kA b (kAW k)) (.gslice 2 e.length 1) (kAI k (kA e [])) true) (y9 qI (E:=encI) rfl (qdr (E:=encI) (ys:=[k]) rfl rfl rfl rfl) (qg7 (E:=encI) (l:=b) rfl rfl rfl j rfl))) az)) ?_
    refine gh fol ((1,.func (.func 127) [] [])::(5,.gslice 2 e.length 1)::(8,vl encI a)::(kAJ (a.length:Int) (w64 (c+1)))) ?_
    exact⟨M,(ofG 22 ((1,.func (.func 127) [] [])::(kN e ((8,vl encI a)::(kAJ (a.length:Int) (w64 (c+1)))))),(kA e [])),Nat.lt_succ_self _,(Sub.norm [] [some 2] (by rw[hB];rfl) rfl (.keep (.same (qo.func sn sn)) (.keep (.gslice rfl) (.keep (.same (qd encI _)) (.keep (.same nI) (.keep (.same nI) .nil))))) (.ks .nil)),_,_,rfl,g5⟩
   refine Goes.exit ?_
   obtain rfl:=si g5
   exact⟨rfl,_,rfl,(Sub.keep [5] rfl rfl)⟩
 rintro x s' ⟨rfl,f,rfl,hsub⟩
 refine Goes.sub hsub ?_
 refine sh fol (kAV f) ?_
 refine Goes.ret ?_
 obtain rfl:=si h
 exact(gh2 [.gslice 0 f.length 1] (xy.refl _ _))
def qG:Nat->(List Int)->Int->Int->Option (List Int)
 |0,_,_,_=>none
 |K+1,c,d,a=>
  if d<a then
  (idx c a).bind fun f=>
  (idx c d).bind fun g=>
  (put c d f).bind fun b=>
  (idx b a).bind fun h=>
  (put b a g).bind fun e=>
  qG K e (w64 (d+1)) (w64 (a-1))
  else
  some c
def zL (N:Nat) (a:List Int):Option (List Int):=
 (qG N a 0 (w64 ((a.length:Int)-1))).bind fun b=>
 some b
theorem qak (N:Nat) (f:List Int) {t:List Int} (h:zL N f=some t):qg ZT (.fn 199) [.gslice 0 f.length 1] (kA f []) (.tuple []) (kA t []):=by
 unfold zL at h
 refine Ug Tryz.func199 rfl rfl (m:=28) rfl (rs:=[]) rfl (l:=[(0,.gslice 0 f.length 1)]) rfl ?_
 intro B hB
 refine Uj ?_
 refine sh fol [(0,.gslice 0 f.length 1),(2,.i 0),(3,.i (w64 ((f.length:Int)-1)))] ?_
 refine Goes.block ?_
 obtain⟨u,g6,h⟩:=bnd h
 refine Goes.imp (Q:=fun x s'=>(x= .exit 0/\ ∃p,p=u/\Sub s' (ofG 28 [],(kA p [])))) ?_ ?_
 ·refine Ub (fun M s=> ∃(a:List Int) (c:Int) (d:Int),s=(ofG 28 (kAE a c d []),(kA a []))/\qG M a c d=some u) ?_ (m:=N) ⟨_,_,_,rfl,g6⟩
  rintro M s ⟨a,c,d,rfl,g6⟩
  cases M with
  |zero=>simp only[qG]at g6;cases g6
  |succ M=>
   rw[qG]at g6
   refine sq ?_
   refine sh fol (kAE a c d [(9,.bool (decide (c<d)))]) ?_
   refine ihD g6 (fun v g6=>?_) (fun v g6=>?_)
   ·refine Goes.skip ?_
    refine sq (Goes.block ?_)
    obtain⟨q,g,g6⟩:=bnd g6
    obtain⟨r,e,g6⟩:=bnd g6
    obtain⟨n,j,g6⟩:=bnd g6
    obtain⟨w,o,g6⟩:=bnd g6
    obtain⟨b,k,g6⟩:=bnd g6
    refine gq fol [6,7,10,11,12,13,14,15] (kAE a c d []) (kA b []) (ac (hs (.done (.opt (qc ZT 22 (.gslice 0 a.length 1) (.i d))) (.ptr 0 ((d:Int).toNat*1+0))) (zV qI g)) (ac (hs (.run [0] (qL ZT 3 (.ptr 0 ((d:Int).toNat*1+0))) (kA a []) (.i q) (kA a []) false) (yI ce3 (E:=encI) (l:=a) rfl rfl g (nl rfl) rfl)) (ac (hs (.done (.opt (qc ZT 22 (.gslice 0 a.length 1) (.i c))) (.ptr 0 ((c:Int).toNat*1+0))) (zV qI e)) (ac (hs (.run [0] (qL ZT 3 (.ptr 0 ((c:Int).toNat*1+0))) (kA a []) (.i r) (kA a []) false) (yI ce3 (E:=encI) (l:=a) rfl rfl e (nl rfl) rfl)) (ac (hs (.done (.opt (qc ZT 22 (.gslice 0 a.length 1) (.i c))) (.ptr 0 ((c:Int).toNat*1+0))) (zV qI e)) (ac (hs (.run [0] (ku ZT 3 (.ptr 0 ((c:Int).toNat*1+0)) (.i q)) (kA a []) .undef (kA n []) true) (jQ (E:=encI) (l:=a) (y:=q) rfl (show _=some 1 by kernel_rfl) rfl e rfl rfl rfl rfl rfl j rfl)) (ac (hs (.done (.opt (qc ZT 22 (.gslice 0 a.length 1) (.i d))) (.ptr 0 ((d:Int).toNat*1+0))) (zV qI g)) (ac (hs (.run [0] (ku ZT 3 (.ptr 0 ((d:Int).toNat*1+0)) (.i r)) (kA n []) .undef (kA b []) true) (jQ (E:=encI) (l:=n) (y:=r) rfl (show _=some 1 by kernel_rfl) rfl o rfl rfl rfl rfl rfl k rfl)) az)))))))) ?_
    refine Goes.sub (show Sub (ofG 28 (kAE a c d []),(kA b [])) (ofG 28 (kAE b c d []),(kA b []))from(Sub.norm [] [some 0] (by rw[hB];rfl) rfl (.keep (.gsliceE rfl ((ky j).trans (ky k))) (.keep (.same nI) (.keep (.same nI) .nil))) (.ks .nil))) ?_
    refine gh fol (kAE b (w64 (c+1)) (w64 (d-1)) []) ?_
    exact⟨M,(ofG 28 (kAE b (w64 (c+1)) (w64 (d-1)) []),(kA b [])),Nat.lt_succ_self _,(Sub.refl _),_,_,_,rfl,g6⟩
   refine Goes.exit ?_
   obtain rfl:=si g6
   exact⟨rfl,_,rfl,(Sub.keep [] rfl rfl)⟩
 rintro x s' ⟨rfl,p,rfl,hsub⟩
 obtain rfl:=si h
 exact⟨_,hsub,(gh2 [] (xy.refl _ _))⟩
def jl (N:Nat) (a:List Int):Option (List Int):=
 (jk N a).bind fun b=>
 (zL N b).bind fun c=>
 ((if b.length=c.length then some ()else none:Option Unit)).bind fun d=>
 some c
theorem xz (N:Nat) (a:List Int) {g:List Int} (h:jl N a=some g):qg ZT (.fn 128) [vl encI a] [] (.gslice 0 g.length 1) (kA g []):=by
 unfold jl at h
 refine Ug Tryz.func128 rfl rfl (m:=9) rfl (rs:=[.tmp 2]) rfl (l:=(kL a [])) rfl ?_
 intro B hB
 refine sh fol (kL a []) ?_
 obtain⟨b,d,h⟩:=bnd h
 refine sq (gq fol [1] (kR b []) (kA b []) (ac (hs (.callH 120 [vl encI a,.func (.func 127) [] []] [] [] (.gslice 0 b.length 1) (kA b [])) (jA [] [some 0] (qaE N a d) .nil rfl rfl (.new rfl rfl (.same fa) rfl .nil) (rc (.same (qd encI _)) (rc (.same (qo.func sn sn)) rn)) (.gslice rfl) rfl)) az) ?_)
 obtain⟨c,e,h⟩:=bnd h
 obtain⟨i,f,h⟩:=bnd h
 refine sq (gq fol [1] (kR b []) (kA c []) (ac (hs (.callH 199 [.gslice 0 b.length 1] (kA b []) [0] (.tuple []) (kA c [])) (jA [some 0] [some 0] (qak N b e) (.ks .nil) rfl rfl (.back rfl rfl (.same fa) rfl .nil) (rc (.gslice rfl) rn) (.same (qo.tuple sn)) rfl)) az) ?_)
 refine Goes.sub (show Sub (ofG 9 (kR b []),(kA c [])) (ofG 9 (kR c []),(kA c []))from(Sub.norm [] [some 0] (by rw[hB];rfl) rfl (.keep (.gsliceE rfl (qj6 f)) .nil) (.ks .nil))) ?_
 refine sh fol [(2,.gslice 0 c.length 1)] ?_
 refine Goes.ret ?_
 obtain rfl:=si h
 exact(gh2 [.gslice 0 c.length 1] (xy.refl _ _))
def zq (b:List Int):Nat->(Option (List Int))->Int->Option (Option (List Int))
 |0,_,_=>none
 |K+1,r,h=>
  if h<(b.length:Int)then
  (((idx b h).bind fun g=>
  ((match r with
  |none=>
  some ((none:Option (List Int)),0)
  |some c=>
  some ((some c),(c.length:Int))):Option ((Option (List Int))×Int)).bind fun(d,a)=>
  (if a>0 then
  (match d with
  |none=>
  (idx ([]:List Int) (w64 (a-1))).bind fun i=>
  some ((none:Option (List Int)),decide (i=(w64 (0-g))))
  |some e=>
  (idx e (w64 (a-1))).bind fun j=>
  some ((some e),decide (j=(w64 (0-g)))))
  else
  some (d,false):Option ((Option (List Int))×Bool)).bind fun(f,k)=>
  if k=true then
  ((match f with
  |none=>
  (cut ([]:List Int) 0 (w64 (a-1))).bind fun s=>
  some (none:Option (List Int))
  |some l=>
  (cut l 0 (w64 (a-1))).bind fun m=>
  some (some m)):Option (Option (List Int))).bind fun n=>
  some n
  else
  ((match f with
  |none=>
  some ([g]:List Int)
  |some o=>
  (app 8 o [g]).bind fun p=>
  some p):Option (List Int)).bind fun q=>
  some (some q):Option (Option (List Int)))).bind fun t=>
  zq b K t (w64 (h+1))
  else
  some r
def jm (N:Nat) (a:List Int):Option (List Int):=
 (zq a N (none:Option (List Int)) 0).bind fun b=>
 some (hof b)
theorem xC (N:Nat) (a:List Int) {U:List Int} (h:jm N a=some U):qg ZT (.fn 139) [vl encI a] [] (vl encI U) []:=by
 unfold jm at h
 refine Ug Tryz.func139 rfl rfl (m:=37) rfl (rs:=[.tmp 2]) rfl (l:=(kL a [])) rfl ?_
 intro B hB
 refine sh fol (kL a []) ?_
 refine sh fol (kL a (kAG [])) ?_
 refine sq ?_
 refine sh fol (kAG [(7,vl encI a),(8,.i (a.length:Int)),(9,.i 0)]) ?_
 refine Goes.block ?_
 obtain⟨V,g5,h⟩:=bnd h
 refine Goes.imp (Q:=fun x s'=>(x= .exit 0/\ ∃I,I=V/\Sub s' (ofG 37 (kAa I []),(kJ I)))) ?_ ?_
 ·refine Goes.sub (s':=(ofG 37 [(3,hsl 0 1 (none:Option (List Int))),(7,vl encI a),(8,.i (a.length:Int)),(9,.i 0)],[.cells ((hof (none:Option (List Int))).flatMap encI.c)])) (Sub.norm [] [none] (by rw[hB];rfl) rfl (.keep qJ.hs0 (.keep (.same (qd encI _)) (.keep (.same nI) (.keep (.same nI) .nil)))) (.fresh .nil)) ?_
  refine Ub (fun M s=> ∃(z:Option (List Int)) (j:Int),s=(ofG 37 (kAa z (kQ a (a.length:Int) j [])),(kJ z))/\zq a M z j=some V) ?_ (m:=N) ⟨_,_,rfl,g5⟩
  rintro M s ⟨z,j,rfl,g5⟩
  cases M with
  |zero=>simp only[zq]at g5;cases g5
  |succ M=>
   unfold zq at g5
   refine sh fol (kAa z (kQ a (a.length:Int) j [(10,.bool (decide (j<(a.length:Int))))])) ?_
   refine sq ?_
   refine ihD g5 (fun W g5=>?_) (fun W g5=>?_)
   ·refine Goes.skip ?_
    refine sq ?_
    obtain⟨X,g8,g5⟩:=bnd g5
    refine Goes.imp (Q:=fun x s'=>(x= .normal/\ ∃A,A=X/\Sub s' (ofG 37 (kAa A (kQ a (a.length:Int) j [])),(kJ A)))) ?_ ?_
    ·refine Goes.block ?_
     obtain⟨k,y,g8⟩:=bnd g8
     refine sq (gr fol [0,1] (kAa z ((5,.i k)::(kQ a (a.length:Int) j []))) (ac (iv qI encI y) (ac (lv 0 ce3 encI y rfl) az)) ?_)
     refine sq ?_
     refine sq ?_
     obtain⟨⟨t,e⟩,f,g8⟩:=bnd g8
     refine Uk (s':=(ofG 37 (kAa t ((5,.i k)::(6,.i e)::(kQ a (a.length:Int) j []))),(kJ t))) ?_ ?_
     ·rcases z with _|C
      ·try dsimp only at f
       simp only[ZI,ZP]at f
       obtain⟨rfl,rfl⟩:=f
       exact qE.sub (qE.rg fol (kAG ((5,.i k)::(6,.i 0)::(kQ a (a.length:Int) j []))) [.cells ((hof (none:Option (List Int))).flatMap encI.c)]) (Sub.norm [] [none] (by rw[hB];rfl) rfl (.keep qJ.hs0 (.keep (.same nI) (.keep (.same nI) (.keep (.same (qd encI _)) (.keep (.same nI) (.keep (.same nI) .nil)))))) (.fresh .nil))
      try dsimp only at f
      simp only[ZI,ZP]at f
      obtain⟨rfl,rfl⟩:=f
      exact qE.sub (qE.rg fol (kAD C ((5,.i k)::(6,.i (C.length:Int))::(kQ a (a.length:Int) j []))) (kA C [])) (Sub.norm [] [some 0] (by rw[hB];rfl) rfl (.keep (qJ.hs1 rfl) (.keep (.same nI) (.keep (.same nI) (.keep (.same (qd encI _)) (.keep (.same nI) (.keep (.same nI) .nil)))))) (.ks .nil))
     intro _ hsub
     try dsimp only at g8
     refine Goes.sub hsub ?_
     refine sq ?_
     obtain⟨⟨u,O⟩,b,g8⟩:=bnd g8
     refine Uk (s':=(ofG 37 (kAa u ((5,.i k)::(6,.i e)::(kQ a (a.length:Int) j [(26,.bool O)]))),(kJ u))) ?_ ?_
     ·rcases wyD b with⟨v,b⟩|⟨v,b⟩
      ·rcases t with _|n
       ·try dsimp only at b
        obtain⟨P,o,b⟩:=bnd b
        simp only[ZI,ZP]at b
        obtain⟨rfl,rfl⟩:=b
        exact qE.sub (qE.rq fol [2,6,7] (kAG ((5,.i k)::(6,.i e)::(kQ a (a.length:Int) j [(26,.bool (decide (P=(w64 (0-k)))))]))) [.cells ((hof (none:Option (List Int))).flatMap encI.c)] (ac (gw v) (ac (hs (.done (.opt (qc ZT 22 (.nilslice) (.i (w64 (e-1))))) (.fptr (([]:List Int).flatMap encI.c) ((w64 (e-1):Int).toNat*1+0))) (qiA o)) (ac (lv 0 ce3 encI o rfl) az)))) (Sub.norm [] [none] (by rw[hB];rfl) rfl (.keep qJ.hs0 (.keep (.same nI) (.keep (.same nI) (.keep (.same (qd encI _)) (.keep (.same nI) (.keep (.same nI) (.keep (.same nB) .nil))))))) (.fresh .nil))
       try dsimp only at b
       obtain⟨J,p,b⟩:=bnd b
       simp only[ZI,ZP]at b
       obtain⟨rfl,rfl⟩:=b
       exact qE.sub (qE.rq fol [2,6,7] (kAD n ((5,.i k)::(6,.i e)::(kQ a (a.length:Int) j [(26,.bool (decide (J=(w64 (0-k)))))]))) (kA n []) (ac (gw v) (ac (hs (.done (.opt (qc ZT 22 (.oslice 0 n.length 1) (.i (w64 (e-1))))) (.ptr 0 ((w64 (e-1):Int).toNat*1+0))) (qkf qI p)) (ac (hs (.run [0] (qL ZT 3 (.ptr 0 ((w64 (e-1):Int).toNat*1+0))) (kA n []) (.i J) (kA n []) false) (yI ce3 (E:=encI) (l:=n) rfl rfl p (nl rfl) rfl)) az)))) (Sub.norm [] [some 0] (by rw[hB];rfl) rfl (.keep (qJ.hs1 rfl) (.keep (.same nI) (.keep (.same nI) (.keep (.same (qd encI _)) (.keep (.same nI) (.keep (.same nI) (.keep (.same nB) .nil))))))) (.ks .nil))
      simp only[ZI,ZP]at b
      obtain⟨rfl,rfl⟩:=b
      exact qE.sub (tr fol [2] (kAa t ((5,.i k)::(6,.i e)::(kQ a (a.length:Int) j [(26,.bool false)]))) (ac (gw v) az)) (Sub.refl _)
     intro _ hsub
     try dsimp only at g8
     refine Goes.sub hsub ?_
     refine ihB g8 (fun T g8=>?_) (fun T g8=>?_)
     ·refine sq ?_
      obtain⟨K,d,g8⟩:=bnd g8
      refine Uk (s':=(ofG 37 (kAa K (kQ a (a.length:Int) j [])),(kJ K))) ?_ ?_
      ·rcases u with _|D
       ·try dsimp only at d
        obtain⟨Y,F,d⟩:=bnd d
        obtain rfl:=si d
        exact qE.sub (qE.rq fol [3] (kAG (kQ a (a.length:Int) j [])) [.cells ((hof (none:Option (List Int))).flatMap encI.c)] (ac (hs (.done (.opt (yS ZT 22 .nilslice none (some (.i (w64 (e-1)))) none)) .nilslice) (qgo (α:=Int) qI none (some (w64 (e-1))) F)) az)) (Sub.norm [] [none] (by rw[hB];rfl) rfl (.keep qJ.hs0 (.keep (.same (qd encI _)) (.keep (.same nI) (.keep (.same nI) .nil)))) (.fresh .nil))
       try dsimp only at d
       obtain⟨q,r,d⟩:=bnd d
       obtain rfl:=si d
       exact qE.sub (qE.rq fol [3] (kAD q (kQ a (a.length:Int) j [])) (kA D []) (ac (hs (.done (.opt (yS ZT 22 (.oslice 0 D.length 1) none (some (.i (w64 (e-1)))) none)) (.oslice 0 q.length 1)) (qit qI r)) az)) ((show Sub (ofG 37 (kAD q (kQ a (a.length:Int) j [])),(kA D [])) (ofG 37 (kAD q (kQ a (a.length:Int) j [])),(kA q []))from(Sub.norm [] [some 0] (by rw[hB];rfl) rfl (.keep (.oslice rfl) (.keep (.same (qd encI _)) (.keep (.same nI) (.keep (.same nI) .nil)))) (.kb rfl (zS.cut r) .nil))).trans (Sub.norm [] [some 0] (by rw[hB];rfl) rfl (.keep (qJ.hs1 rfl) (.keep (.same (qd encI _)) (.keep (.same nI) (.keep (.same nI) .nil)))) (.ks .nil)))
      intro _ hsub
      refine Goes.sub hsub ?_
      refine Goes.exit ?_
      obtain rfl:=si g8
      exact⟨rfl,_,rfl,(Sub.refl _)⟩
     refine Goes.skip ?_
     obtain⟨L,g,g8⟩:=bnd g8
     refine Uk (s':=(ofG 37 (kAD L (kQ a (a.length:Int) j [])),(kA L []))) ?_ ?_
     ·rcases u with _|G
      ·try dsimp only at g
       obtain rfl:=si g
       exact qE.sub (qE.rg fol ((3,.oslice 2 1 1)::(kQ a (a.length:Int) j [])) (.cells ((hof (none:Option (List Int))).flatMap encI.c):: .cells [.i k]::(kAW k))) (Sub.norm [] [some 2] (by rw[hB];rfl) rfl (.keep (qJ.osliceE rfl rfl) (.keep (.same (qd encI _)) (.keep (.same nI) (.keep (.same nI) .nil)))) (.ks .nil))
      try dsimp only at g
      obtain⟨w,H,g⟩:=bnd g
      obtain rfl:=si g
      exact qE.sub (qE.rq fol [3] ((3,.oslice 2 w.length 1)::(kQ a (a.length:Int) j [])) (kAI k (kA w [])) (ac (hs (.run [0,1] (ko ZT [22,22] (.oslice 0 G.length 1) (.slice 1 0 1 1 1)) (kA G (kAW k)) (.oslice 2 w.length 1) (kAI k (kA w [])) true) (y9 qI (E:=encI) rfl (qdr (E:=encI) (ys:=[k]) rfl rfl rfl rfl) (qfo (E:=encI) (l:=G) rfl rfl rfl H rfl))) az)) (Sub.norm [] [some 2] (by rw[hB];rfl) rfl (.keep (.oslice rfl) (.keep (.same (qd encI _)) (.keep (.same nI) (.keep (.same nI) .nil)))) (.ks .nil))
     intro _ hsub
     obtain rfl:=si g8
     exact⟨rfl,_,rfl,(hsub.trans (Sub.norm [] [some 0] (by rw[hB];rfl) rfl (.keep (qJ.hs1 rfl) (.keep (.same (qd encI _)) (.keep (.same nI) (.keep (.same nI) .nil)))) (.ks .nil)))⟩
    rintro x s' ⟨rfl,A,rfl,hsub⟩
    refine Goes.sub hsub ?_
    refine gh fol (kAa A (kQ a (a.length:Int) (w64 (j+1)) [])) ?_
    exact⟨M,(ofG 37 (kAa A (kQ a (a.length:Int) (w64 (j+1)) [])),(kJ A)),Nat.lt_succ_self _,(Sub.refl _),_,_,rfl,g5⟩
   refine Goes.exit ?_
   obtain rfl:=si g5
   exact⟨rfl,_,rfl,(Sub.keep [3] rfl rfl)⟩
 rintro x s' ⟨rfl,I,rfl,hsub⟩
 refine Goes.sub hsub ?_
 refine sh fol [(2,hsl 0 1 I)] ?_
 refine Goes.ret ?_
 obtain rfl:=si h
 exact(gh2 [hsl 0 1 I] (Sub.norm [0] [] (by rw[hB];rfl) rfl (.keep (qJ.hsL (E:=encI) rfl rfl (nl rfl)) .nil) .nil))
def qN (a:List (List Int)):Nat->(List (List Int))->Int->Option (List (List Int))
 |0,_,_=>none
 |K+1,c,b=>
  if b<(a.length:Int)then
  (idx a b).bind fun d=>
  (qeQ d).bind fun _=>
  (app 24 c [d]).bind fun e=>
  qN a K e (w64 (b+1))
  else
  some c
def jR (N:Nat) (a:List (List Int)):Option (List (List Int)):=
 (qN a N ([]:List (List Int)) 0).bind fun b=>
 some b
theorem qaP (N:Nat) (a:List (List Int)) {res:List (List Int)} (h:jR N a=some res):qg ZT (.fn 140) [vl (qb encI) a,.func (.func 102) [] []] [] (vl (qb encI) res) []:=by
 unfold jR at h
 refine Uc Tryz.func140 rfl rfl (m:=22) rfl (rs:=[.tmp 4]) rfl (l:=[(0,vl (qb encI) a),(1,.func (.func 102) [] [])]) rfl ?_
 refine sh fol [(0,vl (qb encI) a),(1,.func (.func 102) [] [])] ?_
 refine sh fol [(0,vl (qb encI) a),(1,.func (.func 102) [] []),(5,.nilslice)] ?_
 refine sq ?_
 refine sh fol [(1,.func (.func 102) [] []),(5,.nilslice),(8,vl (qb encI) a),(9,.i (a.length:Int)),(10,.i 0)] ?_
 refine Goes.block ?_
 obtain⟨o,g4,h⟩:=bnd h
 refine Goes.imp (Q:=fun x s'=>(x= .exit 0/\ ∃k,k=o/\Sub s' (ofG 22 (kN k []),[.cells (k.flatMap (qb encI).c)]))) ?_ ?_
 ·refine Goes.sub (s':=(ofG 22 ((1,.func (.func 102) [] [])::(kAM [(8,vl (qb encI) a),(9,.i (a.length:Int)),(10,.i 0)])),[.cells (([]:List (List Int)).flatMap (qb encI).c)])) (Sub.norm [] [none] rfl rfl (.keep (.same (qo.func sn sn)) (.keep .nil (.keep (.same (qd (qb encI) _)) (.keep (.same nI) (.keep (.same nI) .nil))))) (.fresh .nil)) ?_
  refine Ub (fun M s=> ∃(d:List (List Int)) (e:Int),s=(ofG 22 ((1,.func (.func 102) [] [])::(kN d ((8,vl (qb encI) a)::(kAJ (a.length:Int) e)))),[.cells (d.flatMap (qb encI).c)])/\qN a M d e=some o) ?_ (m:=N) ⟨_,_,rfl,g4⟩
  rintro M s ⟨d,e,rfl,g4⟩
  cases M with
  |zero=>simp only[qN]at g4;cases g4
  |succ M=>
   rw[qN]at g4
   refine sh fol ((1,.func (.func 102) [] [])::(kN d [(8,vl (qb encI) a),(9,.i (a.length:Int)),(10,.i e),(11,.bool (decide (e<(a.length:Int))))])) ?_
   refine sq ?_
   refine ihD g4 (fun p g4=>?_) (fun p g4=>?_)
   ·refine Goes.skip ?_
    refine sq (Goes.block ?_)
    obtain⟨b,f,g4⟩:=bnd g4
    refine sq (gr fol [0,1] ((1,.func (.func 102) [] [])::(kN d ((7,vl encI b)::(8,vl (qb encI) a)::(kAJ (a.length:Int) e)))) (ac (iv yg (qb encI) f) (ac (lv 0 qbY (qb encI) f rfl) az)) ?_)
    obtain⟨_,n,g4⟩:=bnd g4
    obtain⟨g,j,g4⟩:=bnd g4
    refine gq fol [3,5] ((1,.func (.func 102) [] [])::(kAH g ((8,vl (qb encI) a)::(kAJ (a.length:Int) e)))) (.dead::(kA b [.cells [.gslice 1 b.length 1],.cells ((d).flatMap ((qb encI)).c++[.gslice 1 b.length 1])])) (ac (hs (.callH 102 [vl encI b] [.cells (d.flatMap (qb encI).c)] [] (.gslice 1 b.length 1) (.cells (d.flatMap (qb encI).c)::(kA b []))) (jA [] [none,some 0] (qhD b n) .nil rfl rfl (.old rfl rfl (.new rfl rfl (.same fa) rfl .nil)) (rc (.same (qd encI _)) rn) (.gslice rfl) rfl)) (ac (hs (.run [0,2] (ko ZT [25,25] (.gslice 0 d.length 1) (.slice 2 0 1 1 1)) (.cells (d.flatMap (qb encI).c)::(kA b [.cells [.gslice 1 b.length 1]])) (.gslice 3 g.length 1) (.dead::(kA b [.cells [.gslice 1 b.length 1],.cells ((d).flatMap ((qb encI)).c++[.gslice 1 b.length 1])])) true) (qb9 yg (E:=(qb encI)) (l:=d) (x:=b) rfl rfl rfl rfl rfl rfl rfl j rfl)) az)) ?_
    refine Goes.sub (show Sub (ofG 22 ((1,.func (.func 102) [] [])::(kAH g ((8,vl (qb encI) a)::(kAJ (a.length:Int) e)))),(.dead::(kA b [.cells [.gslice 1 b.length 1],.cells ((d).flatMap ((qb encI)).c++[.gslice 1 b.length 1])]))) (ofG 22 ((1,.func (.func 102) [] [])::(kN g ((8,vl (qb encI) a)::(kAJ (a.length:Int) e)))),[.cells (g.flatMap (qb encI).c)])from(Sub.norm [1] [some 3] rfl rfl (.keep (.same (qo.func sn sn)) (.keep (.gslice rfl) (.keep (.same (qd (qb encI) _)) (.keep (.same nI) (.keep (.same nI) .nil))))) (.kb rfl (zS.my (E:=(qb encI)) j (rc (.frz (Fz.gs (E:=encI) rfl rfl (nl rfl)) (qd encI _)) rn)) .nil))) ?_
    refine gh fol ((1,.func (.func 102) [] [])::(kN g ((8,vl (qb encI) a)::(kAJ (a.length:Int) (w64 (e+1)))))) ?_
    exact⟨M,(ofG 22 ((1,.func (.func 102) [] [])::(kN g ((8,vl (qb encI) a)::(kAJ (a.length:Int) (w64 (e+1)))))),[.cells (g.flatMap (qb encI).c)]),Nat.lt_succ_self _,(Sub.refl _),_,_,rfl,g4⟩
   refine Goes.exit ?_
   obtain rfl:=si g4
   exact⟨rfl,_,rfl,(Sub.keep [5] rfl rfl)⟩
 rintro x s' ⟨rfl,k,rfl,hsub⟩
 refine Goes.sub hsub ?_
 refine sh fol (kAV k) ?_
 refine Goes.ret ?_
 obtain rfl:=si h
 exact(gw2 [.gslice 0 k.length 1] (Uu (Fz.gs (E:=(qb encI)) rfl rfl (nl rfl))))
def jI (n:Int):Nat->(List (List Int))->Int->Option (List (List Int))
 |0,_,_=>none
 |K+1,b,a=>
  if a<n then
  (app 24 b [([w64 (a+1)]:List Int)]).bind fun c=>
  jI n K c (w64 (a+1))
  else
  some b
def jK (N:Nat) (w:List Int):Nat->(List (List Int))->Int->Option (List (List Int))
 |0,_,_=>none
 |K+1,d,h=>
  if h<(w.length:Int)then
  (((idx w h).bind fun e=>
  (yR e).bind fun a=>
  (idx d (w64 (a-1))).bind fun b=>
  (idx d (w64 ((w64 (a-1))+1))).bind fun c=>
  if e>0 then
  (jl N b).bind fun i=>
  (jd N ([b,c,i]:List (List Int))).bind fun j=>
  (jm N j).bind fun k=>
  (put d (w64 (a-1)) k).bind fun f=>
  (idx f (w64 ((w64 (a-1))+1))).bind fun r=>
  (put f (w64 ((w64 (a-1))+1)) b).bind fun l=>
  some l
  else
  (jl N c).bind fun m=>
  (jd N ([m,b,c]:List (List Int))).bind fun n=>
  (jm N n).bind fun o=>
  (put d (w64 (a-1)) c).bind fun g=>
  (idx g (w64 ((w64 (a-1))+1))).bind fun s=>
  (put g (w64 ((w64 (a-1))+1)) o).bind fun p=>
  some p:Option (List (List Int)))).bind fun q=>
  jK N w K q (w64 (h+1))
  else
  some d
def qaa (N:Nat) (n:Int) (w:List Int):Option (List (List Int)):=
 (jI n N ([]:List (List Int)) 0).bind fun b=>
 (jK N w N b 0).bind fun c=>
 (jR N c).bind fun a=>
 some a
theorem qd3 (N:Nat) (n:Int) (w:List Int) {res:List (List Int)} (h:qaa N n w=some res):qg ZT (.fn 69) (kAR n w) [] (vl (qb encI) res) []:=by
 unfold qaa at h
 refine Uc Tryz.func69 rfl rfl (m:=76) rfl (rs:=[.tmp 4]) rfl (l:=(kG n w [])) rfl ?_
 refine sh fol (kG n w []) ?_
 refine sh fol (kG n w [(5,.nilslice)]) ?_
 refine sq ?_
 refine sh fol ((1,vl encI w)::(5,.nilslice)::(kAb n)) ?_
 refine Goes.block ?_
 obtain⟨r4,g4,h⟩:=bnd h
 refine Goes.imp (Q:=fun x s'=>(x= .exit 0/\ ∃l3,l3=r4/\Sub s' (ofG 76 (kD w l3 []),[.cells (l3.flatMap (qb encI).c)]))) ?_ ?_
 ·refine Goes.sub (s':=(ofG 76 ((1,vl encI w)::(kAM (kAb n))),[.cells (([]:List (List Int)).flatMap (qb encI).c)])) (Sub.norm [] [none] rfl rfl (.keep (.same (qd encI _)) (.keep .nil (.keep (.same nI) (.keep (.same nI) .nil)))) (.fresh .nil)) ?_
  refine Ub (fun M s=> ∃(r:List (List Int)) (p:Int),s=(ofG 76 (kD w r (kU n p)),[.cells (r.flatMap (qb encI).c)])/\jI n M r p=some r4) ?_ (m:=N) ⟨_,_,rfl,g4⟩
  rintro M s ⟨r,p,rfl,g4⟩
  cases M with
  |zero=>simp only[jI]at g4;cases g4
  |succ M=>
   rw[jI]at g4
   refine sh fol (kD w r [(12,.i n),(13,.i p),(14,.bool (decide (p<n)))]) ?_
   refine sq ?_
   refine ihD g4 (fun c5 g4=>?_) (fun c5 g4=>?_)
   ·refine Goes.skip ?_
    refine sq (Goes.block ?_)
    refine sh fol (kD w r ((6,.i p)::(kU n p))) ?_
    obtain⟨H,I,g4⟩:=bnd g4
    refine gq fol [5] ((1,vl encI w)::(kAH H (kU n p))) (.dead::(kAA (w64 (p+1)) [.cells ((r).flatMap ((qb encI)).c++[.slice 1 0 1 1 1])])) (ac (hs (.run [0,2] (ko ZT [25,25] (.gslice 0 r.length 1) (.slice 2 0 1 1 1)) (.cells (r.flatMap (qb encI).c)::(kAA (w64 (p+1)) [])) (.gslice 3 H.length 1) (.dead::(kAA (w64 (p+1)) [.cells ((r).flatMap ((qb encI)).c++[.slice 1 0 1 1 1])])) true) (qb9 yg (E:=(qb encI)) (l:=r) (x:=([w64 (p+1)]:List Int)) rfl rfl rfl rfl rfl rfl rfl I rfl)) az) ?_
    refine Goes.sub (show Sub (ofG 76 ((1,vl encI w)::(kAH H (kU n p))),(.dead::(kAA (w64 (p+1)) [.cells ((r).flatMap ((qb encI)).c++[.slice 1 0 1 1 1])]))) (ofG 76 (kD w H (kU n p)),[.cells (H.flatMap (qb encI).c)])from(Sub.norm [1] [some 3] rfl rfl (.keep (.same (qd encI _)) (.keep (.gslice rfl) (.keep (.same nI) (.keep (.same nI) .nil)))) (.kb rfl (zS.my (E:=(qb encI)) I (rc (.frz (Fz.lit rfl rfl (FzL.still (AllST.cons tI AllST.nil))) (qd encI _)) rn)) .nil))) ?_
    refine gh fol (kD w H (kU n (w64 (p+1)))) ?_
    exact⟨M,(ofG 76 (kD w H (kU n (w64 (p+1)))),[.cells (H.flatMap (qb encI).c)]),Nat.lt_succ_self _,(Sub.refl _),_,_,rfl,g4⟩
   refine Goes.exit ?_
   obtain rfl:=si g4
   exact⟨rfl,_,rfl,(Sub.keep [1,5] rfl rfl)⟩
 rintro x s' ⟨rfl,l3,rfl,hsub⟩
 refine Goes.sub hsub ?_
 refine sq ?_
 refine sh fol (kN l3 [(23,vl encI w),(24,.i (w.length:Int)),(25,.i 0)]) ?_
 refine Goes.block ?_
 obtain⟨r10,g10,h⟩:=bnd h
 refine Goes.imp (Q:=fun x s'=>(x= .exit 2/\ ∃G,G=r10/\Sub s' (ofG 76 (kN G []),[.cells (G.flatMap (qb encI).c)]))) ?_ ?_
 ·refine Ub (fun M s=> ∃(e:List (List Int)) (o:Int),s=(ofG 76 (kN e (kV w (w.length:Int) o)),[.cells (e.flatMap (qb encI).c)])/\jK N w M e o=some r10) ?_ (m:=N) ⟨_,_,rfl,g10⟩
  rintro M s ⟨e,o,rfl,g10⟩
  cases M with
  |zero=>simp only[jK]at g10;cases g10
  |succ M=>
   rw[jK]at g10
   refine sh fol (kN e [(23,vl encI w),(24,.i (w.length:Int)),(25,.i o),(26,.bool (decide (o<(w.length:Int))))]) ?_
   refine sq ?_
   refine ihD g10 (fun c11 g10=>?_) (fun c11 g10=>?_)
   ·refine Goes.skip ?_
    refine sq ?_
    obtain⟨r13,g13,g10⟩:=bnd g10
    refine Goes.imp (Q:=fun x s'=>(x= .normal/\ ∃q,q=r13/\Sub s' (ofG 76 (kN q (kV w (w.length:Int) o)),[.cells (q.flatMap (qb encI).c)]))) ?_ ?_
    ·refine Goes.block ?_
     obtain⟨t,u,g13⟩:=bnd g13
     refine sq (gr fol [0,1] (kN e ((8,.i t)::(kV w (w.length:Int) o))) (ac (iv qI encI u) (ac (lv 0 ce3 encI u rfl) az)) ?_)
     obtain⟨d,J,g13⟩:=bnd g13
     refine sq (gr fol [1] (kN e ((8,.i t)::(9,.i (w64 (d-1)))::(kV w (w.length:Int) o))) (ac (cv (qaI t J)) az) ?_)
     obtain⟨a,j,g13⟩:=bnd g13
     obtain⟨b,k,g13⟩:=bnd g13
     refine sq (gr fol [2,3,7,8] (kN e ((8,.i t)::(9,.i (w64 (d-1)))::(10,vl encI a)::(11,vl encI b)::(kV w (w.length:Int) o))) (ac (hs (.done (.opt (qc ZT 25 (.gslice 0 e.length 1) (.i (w64 (d-1))))) (.ptr 0 ((w64 (d-1):Int).toNat*1+0))) (zV yg j)) (ac (hs (.run [0] (qL ZT 22 (.ptr 0 ((w64 (d-1):Int).toNat*1+0))) [.cells (e.flatMap (qb encI).c)] (vl encI a) [.cells (e.flatMap (qb encI).c)] false) (yI qbY (E:=(qb encI)) (l:=e) rfl rfl j (nl rfl) rfl)) (ac (hs (.done (.opt (qc ZT 25 (.gslice 0 e.length 1) (.i (w64 ((w64 (d-1))+1))))) (.ptr 0 ((w64 ((w64 (d-1))+1):Int).toNat*1+0))) (zV yg k)) (ac (hs (.run [0] (qL ZT 22 (.ptr 0 ((w64 ((w64 (d-1))+1):Int).toNat*1+0))) [.cells (e.flatMap (qb encI).c)] (vl encI b) [.cells (e.flatMap (qb encI).c)] false) (yI qbY (E:=(qb encI)) (l:=e) rfl rfl k (nl rfl) rfl)) az)))) ?_)
     refine sh fol (kN e [(9,.i (w64 (d-1))),(10,vl encI a),(11,vl encI b),(23,vl encI w),(24,.i (w.length:Int)),(25,.i o),(42,.bool (decide (t>0)))]) ?_
     refine ihD g13 (fun c18 g13=>?_) (fun c18 g13=>?_)
     ·obtain⟨f,K,g13⟩:=bnd g13
      obtain⟨L,O,g13⟩:=bnd g13
      obtain⟨P,T,g13⟩:=bnd g13
      obtain⟨U,v,g13⟩:=bnd g13
      obtain⟨x25,V,g13⟩:=bnd g13
      obtain⟨z,A,g13⟩:=bnd g13
      refine gq fol [8,10,11,13,14,15,16] (kN e (kV w (w.length:Int) o)) (.cells (z.flatMap (qb encI).c)::(kO f a b)) (ac (hs (.callH 128 [vl encI a] [.cells (e.flatMap (qb encI).c)] [] (.gslice 1 f.length 1) (.cells (e.flatMap (qb encI).c)::(kA f []))) (jA [] [none,some 0] (xz N a K) .nil rfl rfl (.old rfl rfl (.new rfl rfl (.same fa) rfl .nil)) (rc (.same (qd encI _)) rn) (.gslice rfl) rfl)) (ac (hs (.callF 124 [.slice 2 0 3 3 1] (.cells (e.flatMap (qb encI).c)::(kA f [.cells [vl encI a,vl encI b,.gslice 1 f.length 1]])) [2,1] [vl (qb encI) ([a,b,f]:List (List Int))] (vl encI L)) (qeO (FzL.cons (Fz.lit rfl rfl (FzL.cons (Ul (zG encI _ (nl rfl))) (FzL.cons (Ul (zG encI _ (nl rfl))) (FzL.cons (Fz.gs (E:=encI) rfl rfl (nl rfl)) FzL.nil)))) FzL.nil) (xh N ([a,b,f]:List (List Int)) O) (zG encI _ (nl rfl)))) (ac (hs (.callH 139 [vl encI L] (.cells (e.flatMap (qb encI).c)::(kO f a b)) [] (vl encI P) (.cells (e.flatMap (qb encI).c)::(kO f a b))) (jA [] [none,none,none] (xC N L T) .nil rfl rfl (.old rfl rfl (.old rfl rfl (.old rfl rfl .nil))) (rc (.same (qd encI _)) rn) (.same (qd encI _)) rfl)) (ac (hs (.done (.opt (qc ZT 25 (.gslice 0 e.length 1) (.i (w64 (d-1))))) (.ptr 0 ((w64 (d-1):Int).toNat*1+0))) (zV yg j)) (ac (hs (.run [0] (ku ZT 22 (.ptr 0 ((w64 (d-1):Int).toNat*1+0)) (vl encI P)) (.cells (e.flatMap (qb encI).c)::(kO f a b)) .undef (.cells (U.flatMap (qb encI).c)::(kO f a b)) true) (jQ (E:=(qb encI)) (l:=e) (y:=P) rfl (show _=some 1 by kernel_rfl) rfl j rfl rfl rfl rfl rfl v rfl)) (ac (hs (.done (.opt (qc ZT 25 (.gslice 0 e.length 1) (.i (w64 ((w64 (d-1))+1))))) (.ptr 0 ((w64 ((w64 (d-1))+1):Int).toNat*1+0))) (zV yg k)) (ac (hs (.run [0] (ku ZT 22 (.ptr 0 ((w64 ((w64 (d-1))+1):Int).toNat*1+0)) (vl encI a)) (.cells (U.flatMap (qb encI).c)::(kO f a b)) .undef (.cells (z.flatMap (qb encI).c)::(kO f a b)) true) (jQ (E:=(qb encI)) (l:=U) (y:=a) rfl (show _=some 1 by kernel_rfl) rfl V rfl rfl rfl rfl rfl A rfl)) az))))))) ?_
      obtain rfl:=si g13
      exact⟨rfl,_,rfl,((show Sub (ofG 76 (kN e (kV w (w.length:Int) o)),(.cells (z.flatMap (qb encI).c)::(kO f a b))) (ofG 76 (kN z (kV w (w.length:Int) o)),[.cells (z.flatMap (qb encI).c)])from(Sub.norm [] [some 0] rfl rfl (.keep (.gsliceE rfl ((ky v).trans (ky A))) (.keep (.same (qd encI _)) (.keep (.same nI) (.keep (.same nI) .nil)))) (.ks .nil))).trans (Sub.refl _))⟩
     obtain⟨g,W,g13⟩:=bnd g13
     obtain⟨X,Y,g13⟩:=bnd g13
     obtain⟨Z,a0,g13⟩:=bnd g13
     obtain⟨a1,B,g13⟩:=bnd g13
     obtain⟨x33,a2,g13⟩:=bnd g13
     obtain⟨C,D,g13⟩:=bnd g13
     refine gq fol [7,11,12,13,14,15,16] (kN e (kV w (w.length:Int) o)) (.cells (C.flatMap (qb encI).c)::(kP g a b)) (ac (hs (.callH 128 [vl encI b] [.cells (e.flatMap (qb encI).c)] [] (.gslice 1 g.length 1) (.cells (e.flatMap (qb encI).c)::(kA g []))) (jA [] [none,some 0] (xz N b W) .nil rfl rfl (.old rfl rfl (.new rfl rfl (.same fa) rfl .nil)) (rc (.same (qd encI _)) rn) (.gslice rfl) rfl)) (ac (hs (.callF 124 [.slice 2 0 3 3 1] (.cells (e.flatMap (qb encI).c)::(kA g [.cells [.gslice 1 g.length 1,vl encI a,vl encI b]])) [2,1] [vl (qb encI) ([g,a,b]:List (List Int))] (vl encI X)) (qeO (FzL.cons (Fz.lit rfl rfl (FzL.cons (Fz.gs (E:=encI) rfl rfl (nl rfl)) (FzL.cons (Ul (zG encI _ (nl rfl))) (FzL.cons (Ul (zG encI _ (nl rfl))) FzL.nil)))) FzL.nil) (xh N ([g,a,b]:List (List Int)) Y) (zG encI _ (nl rfl)))) (ac (hs (.callH 139 [vl encI X] (.cells (e.flatMap (qb encI).c)::(kP g a b)) [] (vl encI Z) (.cells (e.flatMap (qb encI).c)::(kP g a b))) (jA [] [none,none,none] (xC N X a0) .nil rfl rfl (.old rfl rfl (.old rfl rfl (.old rfl rfl .nil))) (rc (.same (qd encI _)) rn) (.same (qd encI _)) rfl)) (ac (hs (.done (.opt (qc ZT 25 (.gslice 0 e.length 1) (.i (w64 (d-1))))) (.ptr 0 ((w64 (d-1):Int).toNat*1+0))) (zV yg j)) (ac (hs (.run [0] (ku ZT 22 (.ptr 0 ((w64 (d-1):Int).toNat*1+0)) (vl encI b)) (.cells (e.flatMap (qb encI).c)::(kP g a b)) .undef (.cells (a1.flatMap (qb encI).c)::(kP g a b)) true) (jQ (E:=(qb encI)) (l:=e) (y:=b) rfl (show _=some 1 by kernel_rfl) rfl j rfl rfl rfl rfl rfl B rfl)) (ac (hs (.done (.opt (qc ZT 25 (.gslice 0 e.length 1) (.i (w64 ((w64 (d-1))+1))))) (.ptr 0 ((w64 ((w64 (d-1))+1):Int).toNat*1+0))) (zV yg k)) (ac (hs (.run [0] (ku ZT 22 (.ptr 0 ((w64 ((w64 (d-1))+1):Int).toNat*1+0)) (vl encI Z)) (.cells (a1.flatMap (qb encI).c)::(kP g a b)) .undef (.cells (C.flatMap (qb encI).c)::(kP g a b)) true) (jQ (E:=(qb encI)) (l:=a1) (y:=Z) rfl (show _=some 1 by kernel_rfl) rfl a2 rfl rfl rfl rfl rfl D rfl)) az))))))) ?_
     obtain rfl:=si g13
     exact⟨rfl,_,rfl,((show Sub (ofG 76 (kN e (kV w (w.length:Int) o)),(.cells (C.flatMap (qb encI).c)::(kP g a b))) (ofG 76 (kN C (kV w (w.length:Int) o)),[.cells (C.flatMap (qb encI).c)])from(Sub.norm [] [some 0] rfl rfl (.keep (.gsliceE rfl ((ky B).trans (ky D))) (.keep (.same (qd encI _)) (.keep (.same nI) (.keep (.same nI) .nil)))) (.ks .nil))).trans (Sub.refl _))⟩
    rintro x s' ⟨rfl,q,rfl,hsub⟩
    refine Goes.sub hsub ?_
    refine gh fol (kN q (kV w (w.length:Int) (w64 (o+1)))) ?_
    exact⟨M,(ofG 76 (kN q (kV w (w.length:Int) (w64 (o+1)))),[.cells (q.flatMap (qb encI).c)]),Nat.lt_succ_self _,(Sub.refl _),_,_,rfl,g10⟩
   refine Goes.exit ?_
   obtain rfl:=si g10
   exact⟨rfl,_,rfl,(Sub.keep [5] rfl rfl)⟩
 rintro x s' ⟨rfl,G,rfl,hsub⟩
 refine Goes.sub hsub ?_
 obtain⟨F,a3,h⟩:=bnd h
 refine sq (gq fol [1] [(4,vl (qb encI) F)] [.frozen (G.flatMap (qb encI).c)] (ac (hs (.callF 140 [.gslice 0 G.length 1,.func (.func 102) [] []] [.cells (G.flatMap (qb encI).c)] [0] [vl (qb encI) G,.func (.func 102) [] []] (vl (qb encI) F)) (qeO (FzL.cons (Fz.gs (E:=(qb encI)) rfl rfl (nl rfl)) (FzL.cons (Fz.func FzL.nil FzL.nil) FzL.nil)) (qaP N G a3) (zG (qb encI) _ (nl rfl)))) az) ?_)
 refine Goes.sub (show Sub (ofG 76 [(4,vl (qb encI) F)],[.frozen (G.flatMap (qb encI).c)]) (ofG 76 [(4,vl (qb encI) F)],[])from(Sub.norm [] [] rfl rfl (.keep (.same (qd (qb encI) _)) .nil) .nil)) ?_
 refine Goes.ret ?_
 obtain rfl:=si h
 exact(gw2 [vl (qb encI) F] (Ua (zG (qb encI) _ (nl rfl))))
def j4 (N:Nat) (n:Int) (w:List Int):Option ((List (List Int))×Int):=
 (je N n w).bind fun b=>
 (zP (decide ((w.length:Int)>12)) 22).bind fun c=>
 (yz N ([b,c]:List Int)).bind fun a=>
 if(!decide (a=0))=true then
 some ([],a)
 else
 (qaa N n w).bind fun d=>
 some (d,0)
theorem qd6 (N:Nat) (n:Int) (w:List Int) {res:(List (List Int))×Int} (h:j4 N n w=some res):qg ZT (.fn 14) (kAR n w) [] (.tuple [vl (qb encI) res.1,.i res.2]) []:=by
 unfold j4 at h
 refine Uc Tryz.func14 rfl rfl (m:=22) rfl (rs:=[.tmp 4,.tmp 5]) rfl (l:=(kG n w [])) rfl ?_
 refine sh fol (kG n w []) ?_
 refine sq ?_
 obtain⟨f,b,h⟩:=bnd h
 obtain⟨g,c,h⟩:=bnd h
 obtain⟨a,d,h⟩:=bnd h
 refine sq (gq fol [2,6,8] (kG n w [(6,.i a)]) (kW f g []) (ac (cv (yx N n w b)) (ac (cv (vQ (decide ((w.length:Int)>12)) 22 c)) (ac (hs (.call 67 [.slice 0 0 2 2 1] (kW f g []) [0] [vl encI ([f,g]:List Int)] (.i a)) (qgy (FzL.cons (Fz.lit rfl rfl (FzL.still (AllST.cons tI (AllST.cons tI AllST.nil)))) FzL.nil) (qbm N ([f,g]:List Int) d) tI rfl)) az))) ?_)
 refine sh fol (kG n w [(6,.i a),(17,.bool (!decide (a=0)))]) ?_
 refine ihB h (fun k h=>?_) (fun k h=>?_)
 ·refine sh fol [(4,.nilslice),(5,.i a)] ?_
  refine Goes.ret ?_
  obtain rfl:=si h
  exact(gw2 [.nilslice,.i a] (FzW.tuple (yw.cons (FzW.nilv (E:=(qb encI))) (yw.cons (Ua tI) yw.nil))))
 refine Goes.skip ?_
 obtain⟨j,e,h⟩:=bnd h
 refine sq (gr fol [2] [(4,vl (qb encI) j),(5,.i 0)] (ac (cv (qd3 N n w e)) az) ?_)
 refine Goes.ret ?_
 obtain rfl:=si h
 exact(gw2 [vl (qb encI) j,.i 0] (FzW.tuple (yw.cons (Ua (zG (qb encI) _ (nl rfl))) (yw.cons (Ua tI) yw.nil))))
def zH (a:List Int) (b:List Int):Nat->Int->Option (Unit⊕Bool)
 |0,_=>none
 |K+1,c=>
  if c<(a.length:Int)then
  (idx a c).bind fun d=>
  (idx b c).bind fun e=>
  if(!decide (d=e))=true then
  some (.inr false)
  else
  zH a b K (w64 (c+1))
  else
  some (.inl ())
def vJ (N:Nat) (a:List Int) (b:List Int):Option Bool:=
 if(!decide ((a.length:Int)=(b.length:Int)))=true then
 some false
 else
 (zH a b N 0).bind (fun
 |(.inl ())=>
 some true
 |(.inr c)=>
 some c)
theorem qcc (N:Nat) (a:List Int) (b:List Int) {res:Bool} (h:vJ N a b=some res):qg ZT (.fn 37) [vl encI a,vl encI b] [] (.bool res) []:=by
 unfold vJ at h
 refine Uc Tryz.func37 rfl rfl (m:=26) rfl (rs:=[.tmp 4]) rfl (l:=(kL a [(1,vl encI b)])) rfl ?_
 refine sh fol (kL a [(1,vl encI b)]) ?_
 refine sq ?_
 refine sh fol (kL a [(1,vl encI b),(10,.bool (!decide ((a.length:Int)=(b.length:Int))))]) ?_
 refine ihB h (fun j h=>?_) (fun j h=>?_)
 ·refine sh fol kAQ ?_
  refine Goes.ret ?_
  obtain rfl:=si h
  exact(gw2 [.bool false] (Ua tB))
 refine Goes.skip ?_
 refine sq ?_
 refine sh fol (kL a [(1,vl encI b),(5,.i 0)]) ?_
 refine Goes.block ?_
 obtain⟨f,g3,h⟩:=bnd h
 refine Goes.imp (Q:=fun x s'=>(x= .exit 0/\(.inl ())=f/\Sub s' (ofG 26 [],[]))\/(x= .ret/\ ∃g,(.inr g)=f/\yG ZT [.tmp 4] (.bool g) .ret s')) ?_ ?_
 ·refine Ub (fun M s=> ∃(c:Int),s=(ofG 26 (kL a [(1,vl encI b),(5,.i c)]),[])/\zH a b M c=some f) ?_ (m:=N) ⟨_,rfl,g3⟩
  rintro M s ⟨c,rfl,g3⟩
  cases M with
  |zero=>simp only[zH]at g3;cases g3
  |succ M=>
   rw[zH]at g3
   refine sq ?_
   refine sh fol (kL a [(1,vl encI b),(5,.i c),(14,.bool (decide (c<(a.length:Int))))]) ?_
   refine ihD g3 (fun k g3=>?_) (fun k g3=>?_)
   ·refine Goes.skip ?_
    refine sq (Goes.block ?_)
    obtain⟨n,d,g3⟩:=bnd g3
    obtain⟨o,e,g3⟩:=bnd g3
    refine sq (gr fol [2,3,6,7] (kL a [(1,vl encI b),(5,.i c),(25,.bool (!decide (n=o)))]) (ac (iv qI encI d) (ac (lv 0 ce3 encI d rfl) (ac (iv qI encI e) (ac (lv 0 ce3 encI e rfl) az)))) ?_)
    refine ihB g3 (fun p g3=>?_) (fun p g3=>?_)
    ·refine sh fol kAQ ?_
     refine Goes.ret ?_
     obtain rfl:=si g3
     exact Or.inr (⟨rfl,_,rfl,(gw2 [.bool false] (Ua tB))⟩)
    refine Goes.skip ?_
    refine gh fol (kL a [(1,vl encI b),(5,.i (w64 (c+1)))]) ?_
    exact⟨M,(ofG 26 (kL a [(1,vl encI b),(5,.i (w64 (c+1)))]),[]),Nat.lt_succ_self _,(Sub.refl _),_,rfl,g3⟩
   refine Goes.exit ?_
   obtain rfl:=si g3
   exact Or.inl (⟨rfl,rfl,(Sub.keep [] rfl rfl)⟩)
 rintro x s' (⟨rfl,rfl,hsub⟩|⟨rfl,q,rfl,hret⟩)
 ·try dsimp only at h
  refine Goes.sub hsub ?_
  refine sh fol [(4,.bool true)] ?_
  refine Goes.ret ?_
  obtain rfl:=si h
  exact(gw2 [.bool true] (Ua tB))
 try dsimp only at h
 obtain rfl:=si h
 exact hret
def zC (N:Nat) (a:List (List Int)) (b:List (List Int)):Nat->Int->Option (Unit⊕Bool)
 |0,_=>none
 |K+1,c=>
  if c<(a.length:Int)then
  (idx a c).bind fun d=>
  (idx b c).bind fun e=>
  (vJ N d e).bind fun f=>
  if(!f)=true then
  some (.inr false)
  else
  zC N a b K (w64 (c+1))
  else
  some (.inl ())
def ve (N:Nat) (a:List (List Int)) (b:List (List Int)):Option Bool:=
 if(!decide ((a.length:Int)=(b.length:Int)))=true then
 some false
 else
 (zC N a b N 0).bind (fun
 |(.inl ())=>
 some true
 |(.inr c)=>
 some c)
theorem qbW (N:Nat) (a:List (List Int)) (b:List (List Int)) {res:Bool} (h:ve N a b=some res):qg ZT (.fn 44) [vl (qb encI) a,vl (qb encI) b] [] (.bool res) []:=by
 unfold ve at h
 refine Uc Tryz.func44 rfl rfl (m:=27) rfl (rs:=[.tmp 4]) rfl (l:=[(0,vl (qb encI) a),(1,vl (qb encI) b)]) rfl ?_
 refine sh fol [(0,vl (qb encI) a),(1,vl (qb encI) b)] ?_
 refine sq ?_
 refine sh fol [(0,vl (qb encI) a),(1,vl (qb encI) b),(10,.bool (!decide ((a.length:Int)=(b.length:Int))))] ?_
 refine ihB h (fun k h=>?_) (fun k h=>?_)
 ·refine sh fol kAQ ?_
  refine Goes.ret ?_
  obtain rfl:=si h
  exact(gw2 [.bool false] (Ua tB))
 refine Goes.skip ?_
 refine sq ?_
 refine sh fol [(0,vl (qb encI) a),(1,vl (qb encI) b),(5,.i 0)] ?_
 refine Goes.block ?_
 obtain⟨g,g3,h⟩:=bnd h
 refine Goes.imp (Q:=fun x s'=>(x= .exit 0/\(.inl ())=g/\Sub s' (ofG 27 [],[]))\/(x= .ret/\ ∃j,(.inr j)=g/\yG ZT [.tmp 4] (.bool j) .ret s')) ?_ ?_
 ·refine Ub (fun M s=> ∃(c:Int),s=(ofG 27 [(0,vl (qb encI) a),(1,vl (qb encI) b),(5,.i c)],[])/\zC N a b M c=some g) ?_ (m:=N) ⟨_,rfl,g3⟩
  rintro M s ⟨c,rfl,g3⟩
  cases M with
  |zero=>simp only[zC]at g3;cases g3
  |succ M=>
   rw[zC]at g3
   refine sq ?_
   refine sh fol [(0,vl (qb encI) a),(1,vl (qb encI) b),(5,.i c),(14,.bool (decide (c<(a.length:Int))))] ?_
   refine ihD g3 (fun n g3=>?_) (fun n g3=>?_)
   ·refine Goes.skip ?_
    refine sq (Goes.block ?_)
    obtain⟨o,d,g3⟩:=bnd g3
    obtain⟨p,e,g3⟩:=bnd g3
    obtain⟨q,f,g3⟩:=bnd g3
    refine sq (gr fol [2,3,6,7,8] [(0,vl (qb encI) a),(1,vl (qb encI) b),(5,.i c),(26,.bool (!q))] (ac (iv yg (qb encI) d) (ac (lv 0 qbY (qb encI) d rfl) (ac (iv yg (qb encI) e) (ac (lv 0 qbY (qb encI) e rfl) (ac (cv (qcc N o p f)) az))))) ?_)
    refine ihB g3 (fun r g3=>?_) (fun r g3=>?_)
    ·refine sh fol kAQ ?_
     refine Goes.ret ?_
     obtain rfl:=si g3
     exact Or.inr (⟨rfl,_,rfl,(gw2 [.bool false] (Ua tB))⟩)
    refine Goes.skip ?_
    refine gh fol [(0,vl (qb encI) a),(1,vl (qb encI) b),(5,.i (w64 (c+1)))] ?_
    exact⟨M,(ofG 27 [(0,vl (qb encI) a),(1,vl (qb encI) b),(5,.i (w64 (c+1)))],[]),Nat.lt_succ_self _,(Sub.refl _),_,rfl,g3⟩
   refine Goes.exit ?_
   obtain rfl:=si g3
   exact Or.inl (⟨rfl,rfl,(Sub.keep [] rfl rfl)⟩)
 rintro x s' (⟨rfl,rfl,hsub⟩|⟨rfl,t,rfl,hret⟩)
 ·try dsimp only at h
  refine Goes.sub hsub ?_
  refine sh fol [(4,.bool true)] ?_
  refine Goes.ret ?_
  obtain rfl:=si h
  exact(gw2 [.bool true] (Ua tB))
 try dsimp only at h
 obtain rfl:=si h
 exact hret
def zF (N:Nat) (a:List (List Int)) (e:Int) (bad:Int) (want:List (List Int)):Option Bool:=
 if(!decide (bad=0))=true then
 (if(a.length:Int)=0 then
 some (decide (e=bad))
 else
 some false:Option Bool).bind fun b=>
 some b
 else
 (if e=0 then
 (ve N a want).bind fun c=>
 some c
 else
 some false:Option Bool).bind fun d=>
 some d
theorem zf (N:Nat) (a:List (List Int)) (e:Int) (bad:Int) (want:List (List Int)) {res:Bool} (h:zF N a e bad want=some res):qg ZT (.fn 15) [vl (qb encI) a,.i e,.i bad,vl (qb encI) want] [] (.bool res) []:=by
 unfold zF at h
 refine Uc Tryz.func15 rfl rfl (m:=26) rfl (rs:=[.tmp 8]) rfl (l:=[(0,vl (qb encI) a),(1,.i e),(2,.i bad),(3,vl (qb encI) want)]) rfl ?_
 refine sh fol [(0,vl (qb encI) a),(1,.i e),(2,.i bad),(3,vl (qb encI) want)] ?_
 refine sq ?_
 refine sh fol [(0,vl (qb encI) a),(1,.i e),(2,.i bad),(3,vl (qb encI) want),(10,.bool (!decide (bad=0)))] ?_
 refine ihB h (fun n h=>?_) (fun n h=>?_)
 ·refine sq ?_
  obtain⟨j,c,h⟩:=bnd h
  refine Goes.cut (s':=(ofG 26 [(8,.bool j)],[])) ?_ ?_
  ·rcases wyD c with⟨f,c⟩|⟨f,c⟩
   ·obtain rfl:=si c
    exact tr fol [3] [(8,.bool (decide (e=bad)))] (ac (gw f) az)
   obtain rfl:=si c
   exact tr fol [3] [(8,.bool false)] (ac (gw f) az)
  refine Goes.ret ?_
  obtain rfl:=si h
  exact(gw2 [.bool j] (Ua tB))
 refine Goes.skip ?_
 refine sq ?_
 obtain⟨k,b,h⟩:=bnd h
 refine Goes.cut (s':=(ofG 26 [(8,.bool k)],[])) ?_ ?_
 ·rcases wyD b with⟨g,b⟩|⟨g,b⟩
  ·obtain⟨o,d,b⟩:=bnd b
   obtain rfl:=si b
   exact tr fol [2,5] [(8,.bool o)] (ac (gw g) (ac (cv (qbW N a want d)) az))
  obtain rfl:=si b
  exact tr fol [2] [(8,.bool false)] (ac (gw g) az)
 refine Goes.ret ?_
 obtain rfl:=si h
 exact(gw2 [.bool k] (Ua tB))
def yu (c:Int):Option Int:=
 some (if(w64 (0-c))>c then(w64 (0-c))else c)
theorem qai (c:Int) {res:Int} (h:yu c=some res):qg ZT (.fn 70) [.i c] [] (.i res) []:=by
 unfold yu at h
 refine Uc Tryz.func70 rfl rfl (m:=7) rfl (rs:=[.tmp 2]) rfl (l:=[(0,.i c)]) rfl ?_
 refine sh fol [(0,.i c)] ?_
 refine sh fol [(2,.i (if(w64 (0-c))>c then(w64 (0-c))else c))] ?_
 refine Goes.ret ?_
 obtain rfl:=si h
 exact(gw2 [.i (if(w64 (0-c))>c then(w64 (0-c))else c)] (Ua tI))
def yj (c:Int):Option Int:=
 if c<0 then
 some (-1)
 else
 some 1
theorem qbE (c:Int) {res:Int} (h:yj c=some res):qg ZT (.fn 71) [.i c] [] (.i res) []:=by
 unfold yj at h
 refine Uc Tryz.func71 rfl rfl (m:=5) rfl (rs:=[.tmp 2]) rfl (l:=[(0,.i c)]) rfl ?_
 refine sh fol [(0,.i c)] ?_
 refine sq ?_
 refine sh fol [(4,.bool (decide (c<0)))] ?_
 refine ihD h (fun a h=>?_) (fun a h=>?_)
 ·refine sh fol [(2,.i (-1))] ?_
  refine Goes.ret ?_
  obtain rfl:=si h
  exact(gw2 [.i (-1)] (Ua tI))
 refine Goes.skip ?_
 refine sh fol [(2,.i 1)] ?_
 refine Goes.ret ?_
 obtain rfl:=si h
 exact(gw2 [.i 1] (Ua tI))
end Go.Av
