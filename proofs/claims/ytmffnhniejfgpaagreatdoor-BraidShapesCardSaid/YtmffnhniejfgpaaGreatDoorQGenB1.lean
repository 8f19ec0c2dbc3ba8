/-
  Walks of functions: what each computes, as a plain function.
-/
import Derived.Test.YtmffnhniejfgpaaGreatDoorAvJnB5
noncomputable section
namespace Go.Av
open Go.Proofs Go.RowKit
abbrev ZT:=Tryz.prog
set_option linter.unusedSectionVars false
set_option linter.unusedVariables false
set_option linter.unusedSimpArgs false
set_option maxRecDepth 100000
theorem fol:Tryz.prog.follows .mixedOrders=true:=by kernel_rfl
structure qcj where
 A:List Int
 B:List Int
 K:Int
def qcs:Enc qcj:=((zi encI).prod ((zi encI).prod encI)).comap fun x=>(x.A,x.B,x.K)
instance:SE qcs:=⟨nl rfl⟩
structure FormT where
 Half:Int
 Factors:List (List Int)
def qew:Enc FormT:=(encI.prod (zi (zi encI))).comap fun x=>(x.Half,x.Factors)
instance:SE qew:=⟨nl rfl⟩
structure MoveT where
 Kind:Str
 At:Int
 Letter:Int
def qfd:Enc MoveT:=(encS.prod (encI.prod encI)).comap fun x=>(x.Kind,x.At,x.Letter)
instance:SE qfd:=⟨nl rfl⟩
abbrev kA (a:List Int):List Blk:=[.cells (a.flatMap encI.c)]
abbrev kB (a:Int) (b:List Int) (x:List (Nat×AV)):List (Nat×AV):=(0,.i a)::(1,vl encI b)::x
abbrev kH (a:List Int) (x:List (Nat×AV)):List (Nat×AV):=(0,vl encI a)::x
abbrev kI (a:Int) (x:List (Nat×AV)):List (Nat×AV):=(0,.i a)::(3,.ptr 0 0)::x
abbrev kJ (a:List Int) (x:List Blk):List Blk:= .cells (a.flatMap encI.c)::x
abbrev kM (a:List Int) (b:Int) (x:List (Nat×AV)):List (Nat×AV):=(6,vl encI a)::(7,.i b)::x
abbrev kO (a:Option (List Int)):List Blk:=[.cells ((hof a).flatMap encI.c)]
abbrev kP (a:List Int) (b:Int) (x:List (Nat×AV)):List (Nat×AV):=(10,vl encI a)::(11,.i b)::x
abbrev kQ (a:List Int) (x:List (Nat×AV)):List (Nat×AV):=(1,vl encI a)::x
abbrev kS {α0:Type} (a:List α0) (x:List (Nat×AV)):List (Nat×AV):=(0,.gslice 0 a.length 1)::x
abbrev kU {α0:Type} (a:List α0) (x:List (Nat×AV)):List (Nat×AV):=(5,.gslice 0 a.length 1)::x
abbrev kV (a:Int) (b:Int):List Blk:=[.cells [.i a,.i b]]
abbrev kZ:List Blk:=[.cells (([]:List Int).flatMap encI.c)]
abbrev kAA:List (Nat×AV):=[(4,.bool false)]
abbrev kAD (a:Int) (x:List Blk):List Blk:= .dead:: .cells [.i a]::x
abbrev kAE {α0:Type} (a:List α0) (x:List (Nat×AV)):List (Nat×AV):=(4,.gslice 0 a.length 1)::x
abbrev kAH {α0:Type} (a:List α0) (x:List (Nat×AV)):List (Nat×AV):=(3,.gslice 0 a.length 1)::x
abbrev kAI (a:List Int) (b:Int) (x:List (Nat×AV)):List (Nat×AV):=(8,vl encI a)::(9,.i b)::x
abbrev kAL (x:List (Nat×AV)):List (Nat×AV):=(6,.nilslice)::x
abbrev kAM (a:Int) (b:Int) (c:Int):List Blk:=[.cells [.i a,.i b,.i c]]
abbrev kAP (a:Int) (b:Int) (x:List (Nat×AV)):List (Nat×AV):=(0,.int .u64 a)::(1,.int .u64 b)::x
abbrev kAQ (a:Int) (b:Int) (x:List (Nat×AV)):List (Nat×AV):=(10,.i a)::(11,.i b)::x
abbrev kAR {α0:Type} (a:List α0) (x:List (Nat×AV)):List (Nat×AV):=(7,.slice 0 0 a.length a.length 1)::x
abbrev kAT (a:List Int) (b:Int):List AV:=[vl encI a,.i b]
abbrev kAU (a:List Int) (b:List Int) (c:Int) (x:List Blk):List Blk:= .cells [vl encI a,vl encI b,.i c]::x
abbrev kAX (a:Int):List (Nat×AV):=[(4,.i a)]
abbrev kAZ (a:List Int) (x:List (Nat×AV)):List (Nat×AV):=(2,vl encI a)::x
abbrev kAa (a:Bool):List (Nat×AV):=[(4,.bool a)]
abbrev kAc (a:Int):List (Nat×AV):=[(5,.i a)]
abbrev kAd (a:Int):List AV:=[.nilslice,.i a]
abbrev kAi (a:List Int) (b:List Int):List AV:=[vl encI a,vl encI b]
abbrev kAk (a:Int) (b:List Int):List AV:=[.i a,vl encI b]
abbrev kAn {α0:Type} (a:List α0) (x:List (Nat×AV)):List (Nat×AV):=(4,.gslice 1 a.length 1)::x
abbrev kAp (a:Bool):List (Nat×AV):=[(8,.bool a)]
abbrev kAq (a:Bool):List (Nat×AV):=[(10,.bool a)]
abbrev kAr (a:List Int) (x:List Blk):List Blk:= .frozen (a.flatMap encI.c)::x
abbrev kAs (x:List (Nat×AV)):List (Nat×AV):=(3,.nilslice)::x
abbrev kAt (a:Int) (b:Int) (x:List (Nat×AV)):List (Nat×AV):=(1,.i a)::(2,.i b)::x
abbrev kAu (a:Int) (x:List Blk):List Blk:= .cells [.i a]::x
abbrev kAv {α0:Type} (a:List α0) (x:List (Nat×AV)):List (Nat×AV):=(5,.gslice 1 a.length 1)::x
abbrev kAw {α0:Type} (a:List α0) (x:List (Nat×AV)):List (Nat×AV):=(6,.gslice 1 a.length 1)::x
abbrev kAx (a:Int):List (Nat×AV):=[(1,.i a)]
abbrev kAy (a:Int):List (Nat×AV):=[(3,.i a)]
abbrev kAz:List AV:=[.str [105,110,115,101,114,116],.str [99,97,110,99,101,108],.str [115,119,97,112],.str [116,117,114,110]]
abbrev kA2 (a:Int):List (Nat×AV):=[(8,.i a)]
abbrev kA4:List (Nat×AV):=[(4,.bool true)]
abbrev kA6:List (Nat×AV):=[(8,.bool false)]
abbrev kA7 {α0:Type} (a:List α0):List (Nat×AV):=[(2,.gslice 0 a.length 1)]
abbrev kA9:List (Nat×AV):=[(4,.i 0)]
abbrev kBA (a:Int) (b:Int) (x:List (Nat×AV)):List (Nat×AV):=(6,.int .u64 a)::(7,.int .u64 b)::x
abbrev kBC (a:Bool):List (Nat×AV):=[(11,.bool a)]
abbrev kBD (x:List (Nat×AV)):List (Nat×AV):=(3,.gslice 0 ([]:List Int).length 1)::x
abbrev kBE {α0:Type} (a:List α0) (x:List (Nat×AV)):List (Nat×AV):=(3,.gslice 2 a.length 1)::x
abbrev kBF (a:Int):List (Nat×AV):=[(10,.i a)]
abbrev kBG (a:Bool):List (Nat×AV):=[(6,.bool a)]
abbrev kBJ:List (Nat×AV):=[(7,.i 0)]
abbrev kBK (a:Int):List (Nat×AV):=[(7,.i a)]
abbrev kBL (a:Bool):List (Nat×AV):=[(14,.bool a)]
abbrev kBM (x:List (Nat×AV)):List (Nat×AV):=(4,.nilslice)::x
abbrev kBO:List (Nat×AV):=[(5,.i 0)]
abbrev kBQ (a:Int):List (Nat×AV):=[(6,.i a)]
abbrev kBT (a:Int):List (Nat×AV):=[(0,.i a)]
theorem ja:SlT ZT 22 3 1 8:=⟨by kernel_rfl,by kernel_rfl,by kernel_rfl,by kernel_rfl⟩
theorem ce3:CeT ZT 3:=⟨by kernel_rfl,by kernel_rfl⟩
theorem sl153:SlT ZT 153 30 1 8:=⟨by kernel_rfl,by kernel_rfl,by kernel_rfl,by kernel_rfl⟩
theorem ce30:CeT ZT 30:=⟨by kernel_rfl,by kernel_rfl⟩
theorem sl23:SlT ZT 23 22 1 24:=⟨by kernel_rfl,by kernel_rfl,by kernel_rfl,by kernel_rfl⟩
theorem ce22:CeT ZT 22:=⟨by kernel_rfl,by kernel_rfl⟩
theorem it3:Tryz.prog.underlying 3=some (.int .i64):=by kernel_rfl
abbrev fm1:AV:= .fmap kAz [.agg [.i 0,.func (.func 209) [] [],.func (.func 210) [] []],.agg [.i 2,.func (.func 211) [] [],.func (.func 212) [] []],.agg [.i 2,.func (.func 213) [] [],.func (.func 214) [] []],.agg [.i 3,.func (.func 215) [] [],.func (.func 216) [] []]]
instance:SC 12 fm1:=⟨Still.fmap SX.h (AllST.cons SC.h (AllST.cons SC.h (AllST.cons SC.h (AllST.cons SC.h AllST.nil))))⟩
def qX (a:List Int) (b:List Int):Nat->Int->Option (Unit⊕Bool)
 |0,_=>none
 |K+1,c=>
  if c<(a.length:Int)then
  (idx a c).bind fun d=>
  (idx b c).bind fun e=>
  if(!decide (d=e))=true then
  some (.inr false)
  else
  qX a b K (w64 (c+1))
  else
  some (.inl ())
def jy (N:Nat) (a:List Int) (b:List Int):Option Bool:=
 if(!decide ((a.length:Int)=(b.length:Int)))=true then
 some false
 else
 (qX a b N 0).bind (fun
 |(.inl ())=>
 some true
 |(.inr c)=>
 some c)
theorem qad (N:Nat) (a:List Int) (b:List Int) {res:Bool} (h:jy N a b=some res):qa ZT (.fn 32) (kAi a b) [] (.bool res) []:=by
 unfold jy at h
 refine Ub Tryz.func32 rfl rfl (m:=26) rfl (rs:=[.tmp 4]) rfl (l:=(kH a (kQ b []))) rfl ?_
 refine sh fol (kH a (kQ b [])) ?_
 refine sq ?_
 refine sh fol (kH a (kQ b (kAq (!decide ((a.length:Int)=(b.length:Int)))))) ?_
 refine ihB h (fun j h=>?_) (fun j h=>?_)
 ·refine sh fol kAA ?_
  refine Goes.ret ?_
  obtain rfl:=si h
  exact(gw2 [.bool false] (Ua tB))
 refine Goes.skip ?_
 refine sq ?_
 refine sh fol (kH a (kQ b kBO)) ?_
 refine Goes.block ?_
 obtain⟨f,g3,h⟩:=bnd h
 refine Goes.imp (Q:=fun x s'=>(x= .exit 0/\(.inl ())=f/\Sub s' (ofG 26 [],[]))\/(x= .ret/\ ∃g,(.inr g)=f/\jo ZT [.tmp 4] (.bool g) .ret s')) ?_ ?_
 ·refine Uc (fun M s=> ∃(c:Int),s=(ofG 26 (kH a (kQ b (kAc c))),[])/\qX a b M c=some f) ?_ (m:=N) ⟨_,rfl,g3⟩
  rintro M s ⟨c,rfl,g3⟩
  cases M with
  |zero=>simp only[qX]at g3;cases g3
  |succ M=>
   rw[qX]at g3
   refine sq ?_
   refine sh fol (kH a (kQ b ((5,.i c)::(kBL (decide (c<(a.length:Int))))))) ?_
   refine ihD g3 (fun k g3=>?_) (fun k g3=>?_)
   ·refine Goes.skip ?_
    refine sq (Goes.block ?_)
    obtain⟨n,d,g3⟩:=bnd g3
    obtain⟨o,e,g3⟩:=bnd g3
    refine sq (gr fol [2,3,6,7] (kH a (kQ b [(5,.i c),(25,.bool (!decide (n=o)))])) (ac (iv ja encI d) (ac (lv 0 ce3 encI d rfl) (ac (iv ja encI e) (ac (lv 0 ce3 encI e rfl) az)))) ?_)
    refine ihB g3 (fun p g3=>?_) (fun p g3=>?_)
    ·refine sh fol kAA ?_
     refine Goes.ret ?_
     obtain rfl:=si g3
     exact Or.inr (⟨rfl,_,rfl,(gw2 [.bool false] (Ua tB))⟩)
    refine Goes.skip ?_
    refine gh fol (kH a (kQ b (kAc (w64 (c+1))))) ?_
    exact⟨M,(ofG 26 (kH a (kQ b (kAc (w64 (c+1))))),[]),Nat.lt_succ_self _,(Sub.refl _),_,rfl,g3⟩
   refine Goes.exit ?_
   obtain rfl:=si g3
   exact Or.inl (⟨rfl,rfl,(Sub.keep [] rfl rfl)⟩)
 rintro x s' (⟨rfl,rfl,hsub⟩|⟨rfl,q,rfl,hret⟩)
 ·try dsimp only at h
  refine Goes.sub hsub ?_
  refine sh fol kA4 ?_
  refine Goes.ret ?_
  obtain rfl:=si h
  exact(gw2 [.bool true] (Ua tB))
 try dsimp only at h
 obtain rfl:=si h
 exact hret
def qN (N:Nat) (a:List Int) (e:Int) (bad:Int) (want:List Int):Option Bool:=
 if(!decide (bad=0))=true then
 (if(a.length:Int)=0 then
 some (decide (e=bad))
 else
 some false:Option Bool).bind fun b=>
 some b
 else
 (if e=0 then
 (jy N a want).bind fun c=>
 some c
 else
 some false:Option Bool).bind fun d=>
 some d
theorem qQ (N:Nat) (a:List Int) (e:Int) (bad:Int) (want:List Int) {res:Bool} (h:qN N a e bad want=some res):qa ZT (.fn 13) (vl encI a:: .i e::(kAk bad want)) [] (.bool res) []:=by
 unfold qN at h
 refine Ub Tryz.func13 rfl rfl (m:=26) rfl (rs:=[.tmp 8]) rfl (l:=(kH a (kAt e bad [(3,vl encI want)]))) rfl ?_
 refine sh fol (kH a (kAt e bad [(3,vl encI want)])) ?_
 refine sq ?_
 refine sh fol (kH a (kAt e bad ((3,vl encI want)::(kAq (!decide (bad=0)))))) ?_
 refine ihB h (fun n h=>?_) (fun n h=>?_)
 ·refine sq ?_
  obtain⟨j,c,h⟩:=bnd h
  refine Goes.cut (s':=(ofG 26 (kAp j),[])) ?_ ?_
  ·rcases wyD c with⟨f,c⟩|⟨f,c⟩
   ·obtain rfl:=si c
    exact tr fol [3] (kAp (decide (e=bad))) (ac (gw f) az)
   obtain rfl:=si c
   exact tr fol [3] kA6 (ac (gw f) az)
  refine Goes.ret ?_
  obtain rfl:=si h
  exact(gw2 [.bool j] (Ua tB))
 refine Goes.skip ?_
 refine sq ?_
 obtain⟨k,b,h⟩:=bnd h
 refine Goes.cut (s':=(ofG 26 (kAp k),[])) ?_ ?_
 ·rcases wyD b with⟨g,b⟩|⟨g,b⟩
  ·obtain⟨o,d,b⟩:=bnd b
   obtain rfl:=si b
   exact tr fol [2,5] (kAp o) (ac (gw g) (ac (cv (qad N a want d)) az))
  obtain rfl:=si b
  exact tr fol [2] kA6 (ac (gw g) az)
 refine Goes.ret ?_
 obtain rfl:=si h
 exact(gw2 [.bool k] (Ua tB))
def jr (n:Int) (c:Int):Option Bool:=
 (if(!decide (c=0))=true then
 if c>(w64 (0-n))then
 some (decide (c<n))
 else
 some false
 else
 some false:Option Bool).bind fun a=>
 some a
theorem qaG (n:Int) (c:Int) {res:Bool} (h:jr n c=some res):qa ZT (.fn 78) [.i n,.i c] [] (.bool res) []:=by
 unfold jr at h
 refine Ub Tryz.func78 rfl rfl (m:=18) rfl (rs:=[.tmp 4]) rfl (l:=((0,.i n)::(kAx c))) rfl ?_
 refine sh fol ((0,.i n)::(kAx c)) ?_
 refine sq ?_
 obtain⟨e,a,h⟩:=bnd h
 refine Goes.cut (s':=(ofG 18 (kAa e),[])) ?_ ?_
 ·rcases wyB a with⟨b,a⟩|⟨b,a⟩
  ·rcases wyD a with⟨d,a⟩|⟨d,a⟩
   ·obtain rfl:=si a
    exact tr fol [2,8] (kAa (decide (c<n))) (ac (gw b) (ac (gw d) az))
   obtain rfl:=si a
   exact tr fol [2,8] kAA (ac (gw b) (ac (gw d) az))
  obtain rfl:=si a
  exact tr fol [2] kAA (ac (gw b) az)
 refine Goes.ret ?_
 obtain rfl:=si h
 exact(gw2 [.bool e] (Ua tB))
def qW (n:Int) (w:List Int):Nat->Int->Option (Unit⊕Int)
 |0,_=>none
 |K+1,a=>
  if a<(w.length:Int)then
  (idx w a).bind fun b=>
  (jr n b).bind fun c=>
  if(!c)=true then
  some (.inr 3)
  else
  qW n w K (w64 (a+1))
  else
  some (.inl ())
def zt (N:Nat) (n:Int) (w:List Int):Option Int:=
 (if n<1 then
 some true
 else
 some (decide (n>12)):Option Bool).bind fun b=>
 if b=true then
 some 3
 else
 if(w.length:Int)>200 then
 some 5
 else
 (qW n w N 0).bind (fun
 |(.inl ())=>
 some 0
 |(.inr a)=>
 some a)
theorem ve (N:Nat) (n:Int) (w:List Int) {res:Int} (h:zt N n w=some res):qa ZT (.fn 20) (kAk n w) [] (.i res) []:=by
 unfold zt at h
 refine Ub Tryz.func20 rfl rfl (m:=28) rfl (rs:=[.tmp 4]) rfl (l:=(kB n w [])) rfl ?_
 refine sh fol (kB n w []) ?_
 refine sq ?_
 refine sq ?_
 obtain⟨p,a,h⟩:=bnd h
 refine Goes.cut (s':=(ofG 28 (kB n w (kBC p)),[])) ?_ ?_
 ·rcases wyD a with⟨e,a⟩|⟨e,a⟩
  ·obtain rfl:=si a
   exact tr fol [2] (kB n w [(11,.bool true)]) (ac (gw e) az)
  obtain rfl:=si a
  exact tr fol [2] (kB n w (kBC (decide (n>12)))) (ac (gw e) az)
 refine ihB h (fun q h=>?_) (fun q h=>?_)
 ·refine sh fol [(4,.i 3)] ?_
  refine Goes.ret ?_
  obtain rfl:=si h
  exact(gw2 [.i 3] (Ua tI))
 refine Goes.skip ?_
 refine sq ?_
 refine sh fol (kB n w (kBL (decide ((w.length:Int)>200)))) ?_
 refine ihD h (fun r h=>?_) (fun r h=>?_)
 ·refine sh fol [(4,.i 5)] ?_
  refine Goes.ret ?_
  obtain rfl:=si h
  exact(gw2 [.i 5] (Ua tI))
 refine Goes.skip ?_
 refine sq ?_
 refine sh fol (kB n w kBO) ?_
 refine Goes.block ?_
 obtain⟨f,g7,h⟩:=bnd h
 refine Goes.imp (Q:=fun x s'=>(x= .exit 0/\(.inl ())=f/\Sub s' (ofG 28 [],[]))\/(x= .ret/\ ∃o,(.inr o)=f/\jo ZT [.tmp 4] (.i o) .ret s')) ?_ ?_
 ·refine Uc (fun M s=> ∃(c:Int),s=(ofG 28 (kB n w (kAc c)),[])/\qW n w M c=some f) ?_ (m:=N) ⟨_,rfl,g7⟩
  rintro M s ⟨c,rfl,g7⟩
  cases M with
  |zero=>simp only[qW]at g7;cases g7
  |succ M=>
   rw[qW]at g7
   refine sq ?_
   refine sh fol (kB n w [(5,.i c),(18,.bool (decide (c<(w.length:Int))))]) ?_
   refine ihD g7 (fun t g7=>?_) (fun t g7=>?_)
   ·refine Goes.skip ?_
    refine sq (Goes.block ?_)
    obtain⟨g,b,g7⟩:=bnd g7
    obtain⟨j,d,g7⟩:=bnd g7
    refine sq (gr fol [3,4,5] (kB n w [(5,.i c),(27,.bool (!j))]) (ac (iv ja encI b) (ac (lv 0 ce3 encI b rfl) (ac (cv (qaG n g d)) az))) ?_)
    refine ihB g7 (fun k g7=>?_) (fun k g7=>?_)
    ·refine sh fol [(4,.i 3)] ?_
     refine Goes.ret ?_
     obtain rfl:=si g7
     exact Or.inr (⟨rfl,_,rfl,(gw2 [.i 3] (Ua tI))⟩)
    refine Goes.skip ?_
    refine gh fol (kB n w (kAc (w64 (c+1)))) ?_
    exact⟨M,(ofG 28 (kB n w (kAc (w64 (c+1)))),[]),Nat.lt_succ_self _,(Sub.refl _),_,rfl,g7⟩
   refine Goes.exit ?_
   obtain rfl:=si g7
   exact Or.inl (⟨rfl,rfl,(Sub.keep [] rfl rfl)⟩)
 rintro x s' (⟨rfl,rfl,hsub⟩|⟨rfl,u,rfl,hret⟩)
 ·try dsimp only at h
  refine Goes.sub hsub ?_
  refine sh fol kA9 ?_
  refine Goes.ret ?_
  obtain rfl:=si h
  exact(gw2 [.i 0] (Ua tI))
 try dsimp only at h
 obtain rfl:=si h
 exact hret
def kR (l:List Int):Nat->Int->Option (Unit⊕Int)
 |0,_=>none
 |K+1,a=>
  if a<(l.length:Int)then
  (idx l a).bind fun b=>
  if(!decide (b=0))=true then
  some (.inr b)
  else
  kR l K (w64 (a+1))
  else
  some (.inl ())
def jl (N:Nat) (l:List Int):Option Int:=
 (kR l N 0).bind (fun
 |(.inl ())=>
 some 0
 |(.inr a)=>
 some a)
theorem yR (N:Nat) (l:List Int) {res:Int} (h:jl N l=some res):qa ZT (.fn 60) [vl encI l] [] (.i res) []:=by
 unfold jl at h
 refine Ub Tryz.func60 rfl rfl (m:=15) rfl (rs:=[.tmp 2]) rfl (l:=(kH l [])) rfl ?_
 refine sh fol (kH l []) ?_
 refine sq ?_
 refine sh fol ((5,vl encI l)::(6,.i (l.length:Int))::kBJ) ?_
 refine Goes.block ?_
 obtain⟨d,g2,h⟩:=bnd h
 refine Goes.imp (Q:=fun x s'=>(x= .exit 0/\(.inl ())=d/\Sub s' (ofG 15 [],[]))\/(x= .ret/\ ∃e,(.inr e)=d/\jo ZT [.tmp 2] (.i e) .ret s')) ?_ ?_
 ·refine Uc (fun M s=> ∃(a:Int),s=(ofG 15 ((5,vl encI l)::(6,.i (l.length:Int))::(kBK a)),[])/\kR l M a=some d) ?_ (m:=N) ⟨_,rfl,g2⟩
  rintro M s ⟨a,rfl,g2⟩
  cases M with
  |zero=>simp only[kR]at g2;cases g2
  |succ M=>
   rw[kR]at g2
   refine sh fol ((5,vl encI l)::(6,.i (l.length:Int))::(7,.i a)::(kAp (decide (a<(l.length:Int))))) ?_
   refine sq ?_
   refine ihD g2 (fun f g2=>?_) (fun f g2=>?_)
   ·refine Goes.skip ?_
    refine sq (Goes.block ?_)
    obtain⟨c,b,g2⟩:=bnd g2
    refine sq (gr fol [0,1] ((4,.i c)::(5,vl encI l)::(6,.i (l.length:Int))::(kBK a)) (ac (iv sl153 encI b) (ac (lv 0 ce30 encI b rfl) az)) ?_)
    refine sh fol [(4,.i c),(5,vl encI l),(6,.i (l.length:Int)),(7,.i a),(12,.bool (!decide (c=0)))] ?_
    refine ihB g2 (fun g g2=>?_) (fun g g2=>?_)
    ·refine sh fol [(2,.i c)] ?_
     refine Goes.ret ?_
     obtain rfl:=si g2
     exact Or.inr (⟨rfl,_,rfl,(gw2 [.i c] (Ua tI))⟩)
    refine Goes.skip ?_
    refine gh fol ((5,vl encI l)::(6,.i (l.length:Int))::(kBK (w64 (a+1)))) ?_
    exact⟨M,(ofG 15 ((5,vl encI l)::(6,.i (l.length:Int))::(kBK (w64 (a+1)))),[]),Nat.lt_succ_self _,(Sub.refl _),_,rfl,g2⟩
   refine Goes.exit ?_
   obtain rfl:=si g2
   exact Or.inl (⟨rfl,rfl,(Sub.keep [] rfl rfl)⟩)
 rintro x s' (⟨rfl,rfl,hsub⟩|⟨rfl,j,rfl,hret⟩)
 ·try dsimp only at h
  refine Goes.sub hsub ?_
  refine sh fol [(2,.i 0)] ?_
  refine Goes.ret ?_
  obtain rfl:=si h
  exact(gw2 [.i 0] (Ua tI))
 try dsimp only at h
 obtain rfl:=si h
 exact hret
def ze (holds:Bool) (e:Int):Option Int:=
 if holds=true then
 some e
 else
 some 0
theorem jL (holds:Bool) (e:Int) {res:Int} (h:ze holds e=some res):qa ZT (.fn 67) [.bool holds,.i e] [] (.i res) []:=by
 unfold ze at h
 refine Ub Tryz.func67 rfl rfl (m:=7) rfl (rs:=[.tmp 4]) rfl (l:=((0,.bool holds)::(kAx e))) rfl ?_
 refine sh fol ((0,.bool holds)::(kAx e)) ?_
 refine sq ?_
 refine sh fol [(1,.i e),(5,.bool holds)] ?_
 refine ihB h (fun a h=>?_) (fun a h=>?_)
 ·refine sh fol (kAX e) ?_
  refine Goes.ret ?_
  obtain rfl:=si h
  exact(gw2 [.i e] (Ua tI))
 refine Goes.skip ?_
 refine sh fol kA9 ?_
 refine Goes.ret ?_
 obtain rfl:=si h
 exact(gw2 [.i 0] (Ua tI))
def zJ (n:Int):Option Int:=
 (if n<1 then
 (ze true 3).bind fun a=>
 some a
 else
 (ze (decide (n>12)) 3).bind fun b=>
 some b:Option Int).bind fun c=>
 some c
theorem yJ (n:Int) {res:Int} (h:zJ n=some res):qa ZT (.fn 61) [.i n] [] (.i res) []:=by
 unfold zJ at h
 refine Ub Tryz.func61 rfl rfl (m:=10) rfl (rs:=[.tmp 2]) rfl (l:=(kBT n)) rfl ?_
 refine sh fol (kBT n) ?_
 refine sq ?_
 obtain⟨e,a,h⟩:=bnd h
 refine Goes.cut (s':=(ofG 10 [(2,.i e)],[])) ?_ ?_
 ·rcases wyD a with⟨d,a⟩|⟨d,a⟩
  ·obtain⟨f,b,a⟩:=bnd a
   obtain rfl:=si a
   exact tr fol [2,6] [(2,.i f)] (ac (gw d) (ac (cv (jL true 3 b)) az))
  obtain⟨g,c,a⟩:=bnd a
  obtain rfl:=si a
  exact tr fol [2,6] [(2,.i g)] (ac (gw d) (ac (cv (jL (decide (n>12)) 3 c)) az))
 refine Goes.ret ?_
 obtain rfl:=si h
 exact(gw2 [.i e] (Ua tI))
def jb (n:Int) (letter:Int):Option Bool:=
 (if letter=0 then
 some true
 else
 if letter<=(w64 (0-n))then
 some true
 else
 some (decide (letter>=n)):Option Bool).bind fun a=>
 some a
theorem qaq (n:Int) (letter:Int) {res:Bool} (h:jb n letter=some res):qa ZT (.fn 92) [.i n,.i letter] [] (.bool res) []:=by
 unfold jb at h
 refine Ub Tryz.func92 rfl rfl (m:=18) rfl (rs:=[.tmp 4]) rfl (l:=((0,.i n)::(kAx letter))) rfl ?_
 refine sh fol ((0,.i n)::(kAx letter)) ?_
 refine sq ?_
 obtain⟨d,a,h⟩:=bnd h
 refine Goes.cut (s':=(ofG 18 (kAa d),[])) ?_ ?_
 ·rcases wyD a with⟨b,a⟩|⟨b,a⟩
  ·obtain rfl:=si a
   exact tr fol [2] kA4 (ac (gw b) az)
  rcases wyD a with⟨c,a⟩|⟨c,a⟩
  ·obtain rfl:=si a
   exact tr fol [2,8] kA4 (ac (gw b) (ac (gw c) az))
  obtain rfl:=si a
  exact tr fol [2,8] (kAa (decide (letter>=n))) (ac (gw b) (ac (gw c) az))
 refine Goes.ret ?_
 obtain rfl:=si h
 exact(gw2 [.bool d] (Ua tB))
def zo (a:Int) (b:Int):Option Bool:=
 (jb b a).bind fun c=>
 some c
theorem vJ (a:Int) (b:Int) {res:Bool} (h:zo a b=some res):qa ZT (.fn 91) [.i a,.fptr [.i b] 0] [] (.bool res) []:=by
 unfold zo at h
 refine Ub Tryz.func91 rfl rfl (m:=7) rfl (rs:=[.tmp 3]) rfl (l:=[(0,.i a),(1,.fptr [.i b] 0)]) rfl ?_
 refine sh fol [(0,.i a),(1,.fptr [.i b] 0)] ?_
 obtain⟨d,c,h⟩:=bnd h
 refine sq (gr fol [2] [(3,.bool d)] (ac (cv (qaq b a c)) az) ?_)
 refine Goes.ret ?_
 obtain rfl:=si h
 exact(gw2 [.bool d] (Ua tB))
def qg (a:List Int) (b:Int):Nat->Int->Option (Unit⊕Int)
 |0,_=>none
 |K+1,c=>
  if c<(a.length:Int)then
  (idx a c).bind fun d=>
  (zo d b).bind fun e=>
  if e=true then
  some (.inr c)
  else
  qg a b K (w64 (c+1))
  else
  some (.inl ())
def kY (N:Nat) (a:List Int) (b:Int):Option Int:=
 (qg a b N 0).bind (fun
 |(.inl ())=>
 some (-1)
 |(.inr c)=>
 some c)
theorem j6 (N:Nat) (a:List Int) (b:Int) {res:Int} (h:kY N a b=some res):qa ZT (.fn 143) [vl encI a,.func (.func 91) [] [.fptr [.i b] 0]] [] (.i res) []:=by
 unfold kY at h
 refine Ub Tryz.func143 rfl rfl (m:=19) rfl (rs:=[.tmp 4]) rfl (l:=(kH a [(1,.func (.func 91) [] [.fptr [.i b] 0])])) rfl ?_
 refine sh fol (kH a [(1,.func (.func 91) [] [.fptr [.i b] 0])]) ?_
 refine sq ?_
 refine sh fol (kH a [(1,.func (.func 91) [] [.fptr [.i b] 0]),(7,.i (a.length:Int)),(8,.i 0)]) ?_
 refine Goes.block ?_
 obtain⟨f,g2,h⟩:=bnd h
 refine Goes.imp (Q:=fun x s'=>(x= .exit 0/\(.inl ())=f/\Sub s' (ofG 19 [],[]))\/(x= .ret/\ ∃j,(.inr j)=f/\jo ZT [.tmp 4] (.i j) .ret s')) ?_ ?_
 ·refine Uc (fun M s=> ∃(c:Int),s=(ofG 19 (kH a ((1,.func (.func 91) [] [.fptr [.i b] 0])::(7,.i (a.length:Int))::(kA2 c))),[])/\qg a b M c=some f) ?_ (m:=N) ⟨_,rfl,g2⟩
  rintro M s ⟨c,rfl,g2⟩
  cases M with
  |zero=>simp only[qg]at g2;cases g2
  |succ M=>
   rw[qg]at g2
   refine sh fol (kH a [(1,.func (.func 91) [] [.fptr [.i b] 0]),(7,.i (a.length:Int)),(8,.i c),(9,.bool (decide (c<(a.length:Int))))]) ?_
   refine sq ?_
   refine ihD g2 (fun n g2=>?_) (fun n g2=>?_)
   ·refine Goes.skip ?_
    refine sq (Goes.block ?_)
    refine sh fol (kH a ((1,.func (.func 91) [] [.fptr [.i b] 0])::(5,.i c)::(7,.i (a.length:Int))::(kA2 c))) ?_
    obtain⟨g,d,g2⟩:=bnd g2
    obtain⟨k,e,g2⟩:=bnd g2
    refine sq (gr fol [3,4,5] (kH a [(1,.func (.func 91) [] [.fptr [.i b] 0]),(5,.i c),(7,.i (a.length:Int)),(8,.i c),(16,.bool k)]) (ac (iv ja encI d) (ac (lv 0 ce3 encI d rfl) (ac (hs (.call 91 [.i g,.fptr [.i b] 0] [] [] [.i g,.fptr [.i b] 0] (.bool k)) (qfx (FzL.cons (Ui tI) (FzL.cons (Ui (Still.fptr (AllST.cons tI AllST.nil))) FzL.nil)) (vJ g b e) tB)) az))) ?_)
    refine ihB g2 (fun o g2=>?_) (fun o g2=>?_)
    ·refine sh fol (kAX c) ?_
     refine Goes.ret ?_
     obtain rfl:=si g2
     exact Or.inr (⟨rfl,_,rfl,(gw2 [.i c] (Ua tI))⟩)
    refine Goes.skip ?_
    refine gh fol (kH a ((1,.func (.func 91) [] [.fptr [.i b] 0])::(7,.i (a.length:Int))::(kA2 (w64 (c+1))))) ?_
    exact⟨M,(ofG 19 (kH a ((1,.func (.func 91) [] [.fptr [.i b] 0])::(7,.i (a.length:Int))::(kA2 (w64 (c+1))))),[]),Nat.lt_succ_self _,(Sub.refl _),_,rfl,g2⟩
   refine Goes.exit ?_
   obtain rfl:=si g2
   exact Or.inl (⟨rfl,rfl,(Sub.keep [] rfl rfl)⟩)
 rintro x s' (⟨rfl,rfl,hsub⟩|⟨rfl,p,rfl,hret⟩)
 ·try dsimp only at h
  refine Goes.sub hsub ?_
  refine sh fol [(4,.i (-1))] ?_
  refine Goes.ret ?_
  obtain rfl:=si h
  exact(gw2 [.i (-1)] (Ua tI))
 try dsimp only at h
 obtain rfl:=si h
 exact hret
def qY (N:Nat) (a:List Int) (b:Int):Option Bool:=
 (kY N a b).bind fun c=>
 some (decide (c>=0))
theorem jM (N:Nat) (a:List Int) (b:Int) {res:Bool} (h:qY N a b=some res):qa ZT (.fn 90) [vl encI a,.func (.func 91) [] [.fptr [.i b] 0]] [] (.bool res) []:=by
 unfold qY at h
 refine Ub Tryz.func90 rfl rfl (m:=9) rfl (rs:=[.tmp 4]) rfl (l:=(kH a [(1,.func (.func 91) [] [.fptr [.i b] 0])])) rfl ?_
 refine sh fol (kH a [(1,.func (.func 91) [] [.fptr [.i b] 0])]) ?_
 obtain⟨d,c,h⟩:=bnd h
 refine sq (gr fol [2] (kAa (decide (d>=0))) (ac (hs (.call 143 [vl encI a,.func (.func 91) [] [.fptr [.i b] 0]] [] [] [vl encI a,.func (.func 91) [] [.fptr [.i b] 0]] (.i d)) (qfx (FzL.cons (Ui (zx encI _ (nl rfl))) (FzL.cons (Fz.func FzL.nil (FzL.cons (Ui (Still.fptr (AllST.cons tI AllST.nil))) FzL.nil)) FzL.nil)) (j6 N a b c) tI)) az) ?_)
 refine Goes.ret ?_
 obtain rfl:=si h
 exact(gw2 [.bool (decide (d>=0))] (Ua tB))
def ku (N:Nat) (n:Int) (w:List Int):Option Int:=
 (zJ n).bind fun b=>
 (ze (decide ((w.length:Int)>200)) 5).bind fun c=>
 (jl N ([b,c]:List Int)).bind fun a=>
 if(!decide (a=0))=true then
 some a
 else
 (qY N w n).bind fun d=>
 (ze d 3).bind fun e=>
 some e
theorem zK (N:Nat) (n:Int) (w:List Int) {res:Int} (h:ku N n w=some res):qa ZT (.fn 33) (kAk n w) [] (.i res) []:=by
 unfold ku at h
 refine Ub Tryz.func33 rfl rfl (m:=21) rfl (rs:=[.tmp 4]) rfl (l:=(kB n w [])) rfl ?_
 refine sg fol (kQ w [(2,.ptr 0 0)]) (kAu n []) ?_
 refine sq ?_
 obtain⟨b,c,h⟩:=bnd h
 obtain⟨d,e,h⟩:=bnd h
 obtain⟨a,f,h⟩:=bnd h
 refine sq (gq fol [1,5,7] (kQ w ((2,.ptr 0 0)::(kAc a))) (kAu n (kV b d)) (ac (cv (yJ n c)) (ac (cv (jL (decide ((w.length:Int)>200)) 5 e)) (ac (hs (.call 60 [.slice 1 0 2 2 1] (kAu n (kV b d)) [1] [vl encI ([b,d]:List Int)] (.i a)) (qbm (FzL.cons (Fz.lit rfl rfl (FzL.still (AllST.cons tI (AllST.cons tI AllST.nil)))) FzL.nil) (yR N ([b,d]:List Int) f) tI rfl)) az))) ?_)
 refine sh fol (kQ w [(2,.ptr 0 0),(5,.i a),(15,.bool (!decide (a=0)))]) ?_
 refine ihB h (fun p h=>?_) (fun p h=>?_)
 ·refine sh fol (kAX a) ?_
  refine Goes.ret ?_
  obtain rfl:=si h
  exact(gw2 [.i a] (Ua tI))
 refine Goes.skip ?_
 obtain⟨k,g,h⟩:=bnd h
 obtain⟨o,j,h⟩:=bnd h
 refine sq (gr fol [2,3] (kAX o) (ac (hs (.call 90 [vl encI w,.func (.func 91) [] [.ptr 0 0]] (kAu n (kV b d)) [0] [vl encI w,.func (.func 91) [] [.fptr [.i n] 0]] (.bool k)) (qbm (FzL.cons (Ui (zx encI _ (nl rfl))) (FzL.cons (Fz.func FzL.nil (FzL.cons (Fz.ptr rfl rfl (FzL.cons (Ui tI) FzL.nil)) FzL.nil)) FzL.nil)) (jM N w n g) tB rfl)) (ac (cv (jL k 3 j)) az)) ?_)
 refine Goes.ret ?_
 obtain rfl:=si h
 exact(gw2 [.i o] (Ua tI))
def vP (n:Int):Option Int:=
 some (if(w64 (0-n))>n then(w64 (0-n))else n)
theorem qb9 (n:Int) {res:Int} (h:vP n=some res):qa ZT (.fn 68) [.i n] [] (.i res) []:=by
 unfold vP at h
 refine Ub Tryz.func68 rfl rfl (m:=7) rfl (rs:=[.tmp 2]) rfl (l:=(kBT n)) rfl ?_
 refine sh fol (kBT n) ?_
 refine sh fol [(2,.i (if(w64 (0-n))>n then(w64 (0-n))else n))] ?_
 refine Goes.ret ?_
 obtain rfl:=si h
 exact(gw2 [.i (if(w64 (0-n))>n then(w64 (0-n))else n)] (Ua tI))
def vw (a:Int):Option Int:=
 some (if(if a<1 then a else 1)>(-1)then(if a<1 then a else 1)else(-1))
theorem qbI (a:Int) {res:Int} (h:vw a=some res):qa ZT (.fn 102) [.i a] [] (.i res) []:=by
 unfold vw at h
 refine Ub Tryz.func102 rfl rfl (m:=6) rfl (rs:=[.tmp 2]) rfl (l:=(kBT a)) rfl ?_
 refine sh fol (kBT a) ?_
 refine sh fol [(2,.i (if(if a<1 then a else 1)>(-1)then(if a<1 then a else 1)else(-1)))] ?_
 refine Goes.ret ?_
 obtain rfl:=si h
 exact(gw2 [.i (if(if a<1 then a else 1)>(-1)then(if a<1 then a else 1)else(-1))] (Ua tI))
def jK (a:Int):Option Int:=
 some (w64 (0-a))
theorem qar (a:Int) {res:Int} (h:jK a=some res):qa ZT (.fn 97) [.i a] [] (.i res) []:=by
 unfold jK at h
 refine Ub Tryz.func97 rfl rfl (m:=5) rfl (rs:=[.tmp 2]) rfl (l:=(kBT a)) rfl ?_
 refine sh fol (kBT a) ?_
 refine sh fol [(2,.i (w64 (0-a)))] ?_
 refine Goes.ret ?_
 obtain rfl:=si h
 exact(gw2 [.i (w64 (0-a))] (Ua tI))
def qz (a:List Int):Nat->(List Int)->Int->Option (List Int)
 |0,_,_=>none
 |K+1,c,b=>
  if b<(a.length:Int)then
  (idx a b).bind fun d=>
  (jK d).bind fun e=>
  (app 8 c [e]).bind fun f=>
  qz a K f (w64 (b+1))
  else
  some c
def zg (N:Nat) (a:List Int):Option (List Int):=
 (qz a N ([]:List Int) 0).bind fun b=>
 some b
theorem yo (N:Nat) (a:List Int) {n:List Int} (h:zg N a=some n):qa ZT (.fn 96) [vl encI a,.func (.func 97) [] []] [] (.gslice 0 n.length 1) (kA n):=by
 unfold zg at h
 refine Goes.fnH Tryz.func96 rfl rfl (m:=22) rfl (rs:=[.tmp 4]) rfl (l:=(kH a [(1,.func (.func 97) [] [])])) rfl ?_
 intro B hB
 refine sh fol (kH a [(1,.func (.func 97) [] [])]) ?_
 refine sh fol (kH a [(1,.func (.func 97) [] []),(5,.nilslice)]) ?_
 refine sq ?_
 refine sh fol ((1,.func (.func 97) [] [])::(5,.nilslice)::(kAI a (a.length:Int) [(10,.i 0)])) ?_
 refine Goes.block ?_
 obtain⟨o,g5,h⟩:=bnd h
 refine Goes.imp (Q:=fun x s'=>(x= .exit 0/\ ∃f,f=o/\Sub s' (ofG 22 (kU f []),(kA f)))) ?_ ?_
 ·refine Goes.sub (s':=(ofG 22 ((1,.func (.func 97) [] [])::(5,.gslice 0 ([]:List Int).length 1)::(kAI a (a.length:Int) [(10,.i 0)])),kZ)) (Sub.norm [] [none] (by rw[hB];rfl) rfl (.keep (.same (qd.func sn sn)) (.keep .nil (.keep (.same (qH encI _)) (.keep (.same nI) (.keep (.same nI) .nil))))) (.fresh .nil)) ?_
  refine Uc (fun M s=> ∃(b:List Int) (c:Int),s=(ofG 22 ((1,.func (.func 97) [] [])::(kU b (kAI a (a.length:Int) (kBF c)))),(kA b))/\qz a M b c=some o) ?_ (m:=N) ⟨_,_,rfl,g5⟩
  rintro M s ⟨b,c,rfl,g5⟩
  cases M with
  |zero=>simp only[qz]at g5;cases g5
  |succ M=>
   rw[qz]at g5
   refine sh fol ((1,.func (.func 97) [] [])::(kU b (kAI a (a.length:Int) ((10,.i c)::(kBC (decide (c<(a.length:Int)))))))) ?_
   refine sq ?_
   refine ihD g5 (fun q g5=>?_) (fun q g5=>?_)
   ·refine Goes.skip ?_
    refine sq (Goes.block ?_)
    obtain⟨p,d,g5⟩:=bnd g5
    refine sq (gr fol [0,1] ((1,.func (.func 97) [] [])::(kU b ((7,.i p)::(kAI a (a.length:Int) (kBF c))))) (ac (iv ja encI d) (ac (lv 0 ce3 encI d rfl) az)) ?_)
    obtain⟨k,g,g5⟩:=bnd g5
    obtain⟨e,j,g5⟩:=bnd g5
    refine gq fol [3,5] ((1,.func (.func 97) [] [])::(5,.gslice 2 e.length 1)::(kAI a (a.length:Int) (kBF c))) (kAD k (kA e)) (ac (cv (qar p g)) (ac (hs (.run [0,1] (zh ZT [22,22] (.gslice 0 b.length 1) (.slice 1 0 1 1 1)) (kJ b (kAu k [])) (.gslice 2 e.length 1) (kAD k (kA e)) true) (vH ja (E:=encI) rfl (qdK (E:=encI) (ys:=[k]) rfl rfl rfl rfl) (qcB (E:=encI) (l:=b) rfl rfl rfl j rfl))) az)) ?_
    refine gh fol ((1,.func (.func 97) [] [])::(5,.gslice 2 e.length 1)::(kAI a (a.length:Int) (kBF (w64 (c+1))))) ?_
    exact⟨M,(ofG 22 ((1,.func (.func 97) [] [])::(kU e (kAI a (a.length:Int) (kBF (w64 (c+1)))))),(kA e)),Nat.lt_succ_self _,(Sub.norm [] [some 2] (by rw[hB];rfl) rfl (.keep (.same (qd.func sn sn)) (.keep (.gslice rfl) (.keep (.same (qH encI _)) (.keep (.same nI) (.keep (.same nI) .nil))))) (.ks .nil)),_,_,rfl,g5⟩
   refine Goes.exit ?_
   obtain rfl:=si g5
   exact⟨rfl,_,rfl,(Sub.keep [5] rfl rfl)⟩
 rintro x s' ⟨rfl,f,rfl,hsub⟩
 refine Goes.sub hsub ?_
 refine sh fol (kAE f []) ?_
 refine Goes.ret ?_
 obtain rfl:=si h
 exact(gh2 [.gslice 0 f.length 1] (yM.refl _ _))
def qw:Nat->(List Int)->Int->Int->Option (List Int)
 |0,_,_,_=>none
 |K+1,c,d,a=>
  if d<a then
  (idx c a).bind fun f=>
  (idx c d).bind fun g=>
  (put c d f).bind fun b=>
  (idx b a).bind fun h=>
  (put b a g).bind fun e=>
  qw K e (w64 (d+1)) (w64 (a-1))
  else
  some c
def ky (N:Nat) (a:List Int):Option (List Int):=
 (qw N a 0 (w64 ((a.length:Int)-1))).bind fun b=>
 some b
theorem vK (N:Nat) (f:List Int) {t:List Int} (h:ky N f=some t):qa ZT (.fn 133) [.gslice 0 f.length 1] (kA f) (.tuple []) (kA t):=by
 unfold ky at h
 refine Goes.fnH Tryz.func133 rfl rfl (m:=28) rfl (rs:=[]) rfl (l:=(kS f [])) rfl ?_
 intro B hB
 refine Goes.subQ ?_
 refine sh fol (kS f ((2,.i 0)::(kAy (w64 ((f.length:Int)-1))))) ?_
 refine Goes.block ?_
 obtain⟨u,g6,h⟩:=bnd h
 refine Goes.imp (Q:=fun x s'=>(x= .exit 0/\ ∃p,p=u/\Sub s' (ofG 28 [],(kA p)))) ?_ ?_
 ·refine Uc (fun M s=> ∃(a:List Int) (c:Int) (d:Int),s=(ofG 28 (kS a ((2,.i c)::(kAy d))),(kA a))/\qw M a c d=some u) ?_ (m:=N) ⟨_,_,_,rfl,g6⟩
  rintro M s ⟨a,c,d,rfl,g6⟩
  cases M with
  |zero=>simp only[qw]at g6;cases g6
  |succ M=>
   rw[qw]at g6
   refine sq ?_
   refine sh fol (kS a [(2,.i c),(3,.i d),(9,.bool (decide (c<d)))]) ?_
   refine ihD g6 (fun v g6=>?_) (fun v g6=>?_)
   ·refine Goes.skip ?_
    refine sq (Goes.block ?_)
    obtain⟨q,g,g6⟩:=bnd g6
    obtain⟨r,e,g6⟩:=bnd g6
    obtain⟨n,j,g6⟩:=bnd g6
    obtain⟨w,o,g6⟩:=bnd g6
    obtain⟨b,k,g6⟩:=bnd g6
    refine gq fol [6,7,10,11,12,13,14,15] (kS a ((2,.i c)::(kAy d))) (kA b) (ac (hs (.done (.opt (kD ZT 22 (.gslice 0 a.length 1) (.i d))) (.ptr 0 ((d:Int).toNat*1+0))) (qdT ja g)) (ac (hs (.run [0] (jm ZT 3 (.ptr 0 ((d:Int).toNat*1+0))) (kA a) (.i q) (kA a) false) (ld_p ce3 (E:=encI) (l:=a) rfl rfl g (nl rfl) rfl)) (ac (hs (.done (.opt (kD ZT 22 (.gslice 0 a.length 1) (.i c))) (.ptr 0 ((c:Int).toNat*1+0))) (qdT ja e)) (ac (hs (.run [0] (jm ZT 3 (.ptr 0 ((c:Int).toNat*1+0))) (kA a) (.i r) (kA a) false) (ld_p ce3 (E:=encI) (l:=a) rfl rfl e (nl rfl) rfl)) (ac (hs (.done (.opt (kD ZT 22 (.gslice 0 a.length 1) (.i c))) (.ptr 0 ((c:Int).toNat*1+0))) (qdT ja e)) (ac (hs (.run [0] (xQ ZT 3 (.ptr 0 ((c:Int).toNat*1+0)) (.i q)) (kA a) .undef (kA n) true) (qgy (E:=encI) (l:=a) (y:=q) rfl (show _=some 1 by kernel_rfl) rfl e rfl rfl rfl rfl rfl j rfl)) (ac (hs (.done (.opt (kD ZT 22 (.gslice 0 a.length 1) (.i d))) (.ptr 0 ((d:Int).toNat*1+0))) (qdT ja g)) (ac (hs (.run [0] (xQ ZT 3 (.ptr 0 ((d:Int).toNat*1+0)) (.i r)) (kA n) .undef (kA b) true) (qgy (E:=encI) (l:=n) (y:=r) rfl (show _=some 1 by kernel_rfl) rfl o rfl rfl rfl rfl rfl k rfl)) az)))))))) ?_
    refine Goes.sub (show Sub (ofG 28 (kS a ((2,.i c)::(kAy d))),(kA b)) (ofG 28 (kS b ((2,.i c)::(kAy d))),(kA b))from(Sub.norm [] [some 0] (by rw[hB];rfl) rfl (.keep (.gsliceE rfl ((qd1 j).trans (qd1 k))) (.keep (.same nI) (.keep (.same nI) .nil))) (.ks .nil))) ?_
    refine gh fol (kS b ((2,.i (w64 (c+1)))::(kAy (w64 (d-1))))) ?_
    exact⟨M,(ofG 28 (kS b ((2,.i (w64 (c+1)))::(kAy (w64 (d-1))))),(kA b)),Nat.lt_succ_self _,(Sub.refl _),_,_,_,rfl,g6⟩
   refine Goes.exit ?_
   obtain rfl:=si g6
   exact⟨rfl,_,rfl,(Sub.keep [] rfl rfl)⟩
 rintro x s' ⟨rfl,p,rfl,hsub⟩
 obtain rfl:=si h
 exact⟨_,hsub,(gh2 [] (yM.refl _ _))⟩
def zk (N:Nat) (a:List Int):Option (List Int):=
 (zg N a).bind fun b=>
 (ky N b).bind fun c=>
 ((if b.length=c.length then some ()else none:Option Unit)).bind fun d=>
 some c
theorem xx (N:Nat) (a:List Int) {g:List Int} (h:zk N a=some g):qa ZT (.fn 73) [vl encI a] [] (.gslice 0 g.length 1) (kA g):=by
 unfold zk at h
 refine Goes.fnH Tryz.func73 rfl rfl (m:=9) rfl (rs:=[.tmp 2]) rfl (l:=(kH a [])) rfl ?_
 intro B hB
 refine sh fol (kH a []) ?_
 obtain⟨b,d,h⟩:=bnd h
 refine sq (gq fol [1] (kAH b []) (kA b) (ac (hs (.callH 96 [vl encI a,.func (.func 97) [] []] [] [] (.gslice 0 b.length 1) (kA b)) (qat [] [some 0] (yo N a d) .nil rfl rfl (.new rfl rfl (.same fa) rfl .nil) (rc (.same (qH encI _)) (rc (.same (qd.func sn sn)) rn)) (.gslice rfl) rfl)) az) ?_)
 obtain⟨c,e,h⟩:=bnd h
 obtain⟨i,f,h⟩:=bnd h
 refine sq (gq fol [1] (kAH b []) (kA c) (ac (hs (.callH 133 [.gslice 0 b.length 1] (kA b) [0] (.tuple []) (kA c)) (qat [some 0] [some 0] (vK N b e) (.ks .nil) rfl rfl (.back rfl rfl (.same fa) rfl .nil) (rc (.gslice rfl) rn) (.same (qd.tuple sn)) rfl)) az) ?_)
 refine Goes.sub (show Sub (ofG 9 (kAH b []),(kA c)) (ofG 9 (kAH c []),(kA c))from(Sub.norm [] [some 0] (by rw[hB];rfl) rfl (.keep (.gsliceE rfl (qgo f)) .nil) (.ks .nil))) ?_
 refine sh fol (kA7 c) ?_
 refine Goes.ret ?_
 obtain rfl:=si h
 exact(gh2 [.gslice 0 c.length 1] (yM.refl _ _))
def jf (c:Int):Option Int:=
 some (if(w64 (0-c))>c then(w64 (0-c))else c)
theorem vO (c:Int) {res:Int} (h:jf c=some res):qa ZT (.fn 77) [.i c] [] (.i res) []:=by
 unfold jf at h
 refine Ub Tryz.func77 rfl rfl (m:=7) rfl (rs:=[.tmp 2]) rfl (l:=(kBT c)) rfl ?_
 refine sh fol (kBT c) ?_
 refine sh fol [(2,.i (if(w64 (0-c))>c then(w64 (0-c))else c))] ?_
 refine Goes.ret ?_
 obtain rfl:=si h
 exact(gw2 [.i (if(w64 (0-c))>c then(w64 (0-c))else c)] (Ua tI))
def ji (c:Int):Option Int:=
 if c<0 then
 some (-1)
 else
 some 1
theorem qbz (c:Int) {res:Int} (h:ji c=some res):qa ZT (.fn 100) [.i c] [] (.i res) []:=by
 unfold ji at h
 refine Ub Tryz.func100 rfl rfl (m:=5) rfl (rs:=[.tmp 2]) rfl (l:=(kBT c)) rfl ?_
 refine sh fol (kBT c) ?_
 refine sq ?_
 refine sh fol (kAa (decide (c<0))) ?_
 refine ihD h (fun a h=>?_) (fun a h=>?_)
 ·refine sh fol [(2,.i (-1))] ?_
  refine Goes.ret ?_
  obtain rfl:=si h
  exact(gw2 [.i (-1)] (Ua tI))
 refine Goes.skip ?_
 refine sh fol [(2,.i 1)] ?_
 refine Goes.ret ?_
 obtain rfl:=si h
 exact(gw2 [.i 1] (Ua tI))
def kE (w:List Int):Nat->(List Int)->Int->Option (List Int)
 |0,_,_=>none
 |K+1,b,a=>
  if a>=0 then
  (idx w a).bind fun c=>
  (app 8 b [w64 (0-c)]).bind fun d=>
  kE w K d (w64 (a-1))
  else
  some b
def zN (N:Nat) (w:List Int):Option (List Int):=
 (kE w N ([]:List Int) (w64 ((w.length:Int)-1))).bind fun a=>
 some a
theorem qax (N:Nat) (w:List Int) {res:List Int} (h:zN N w=some res):qa ZT (.fn 43) [vl encI w] [] (vl encI res) []:=by
 unfold zN at h
 refine Ub Tryz.func43 rfl rfl (m:=21) rfl (rs:=[.tmp 2]) rfl (l:=(kH w [])) rfl ?_
 refine sh fol (kH w []) ?_
 refine sh fol (kH w (kAs [])) ?_
 refine sq ?_
 refine sh fol (kH w (kAs (kAX (w64 ((w.length:Int)-1))))) ?_
 refine Goes.block ?_
 obtain⟨j,g4,h⟩:=bnd h
 refine Goes.imp (Q:=fun x s'=>(x= .exit 0/\ ∃e,e=j/\Sub s' (ofG 21 (kAH e []),(kA e)))) ?_ ?_
 ·refine Goes.sub (s':=(ofG 21 (kH w (kBD (kAX (w64 ((w.length:Int)-1))))),kZ)) (Sub.norm [] [none] rfl rfl (.keep (.same (qH encI _)) (.keep .nil (.keep (.same nI) .nil))) (.fresh .nil)) ?_
  refine Uc (fun M s=> ∃(a:List Int) (b:Int),s=(ofG 21 (kH w (kAH a (kAX b))),(kA a))/\kE w M a b=some j) ?_ (m:=N) ⟨_,_,rfl,g4⟩
  rintro M s ⟨a,b,rfl,g4⟩
  cases M with
  |zero=>simp only[kE]at g4;cases g4
  |succ M=>
   rw[kE]at g4
   refine sq ?_
   refine sh fol (kH w (kAH a [(4,.i b),(9,.bool (decide (b>=0)))])) ?_
   refine ihD g4 (fun k g4=>?_) (fun k g4=>?_)
   ·refine Goes.skip ?_
    refine sq (Goes.block ?_)
    obtain⟨g,c,g4⟩:=bnd g4
    obtain⟨d,f,g4⟩:=bnd g4
    refine gq fol [3,4,7] (kH w (kBE d (kAX b))) (kAD (w64 (0-g)) (kA d)) (ac (iv ja encI c) (ac (lv 0 ce3 encI c rfl) (ac (hs (.run [0,1] (zh ZT [22,22] (.gslice 0 a.length 1) (.slice 1 0 1 1 1)) (kJ a (kAu (w64 (0-g)) [])) (.gslice 2 d.length 1) (kAD (w64 (0-g)) (kA d)) true) (vH ja (E:=encI) rfl (qdK (E:=encI) (ys:=[w64 (0-g)]) rfl rfl rfl rfl) (qcB (E:=encI) (l:=a) rfl rfl rfl f rfl))) az))) ?_
    refine gh fol (kH w (kBE d (kAX (w64 (b-1))))) ?_
    exact⟨M,(ofG 21 (kH w (kAH d (kAX (w64 (b-1))))),(kA d)),Nat.lt_succ_self _,(Sub.norm [] [some 2] rfl rfl (.keep (.same (qH encI _)) (.keep (.gslice rfl) (.keep (.same nI) .nil))) (.ks .nil)),_,_,rfl,g4⟩
   refine Goes.exit ?_
   obtain rfl:=si g4
   exact⟨rfl,_,rfl,(Sub.keep [3] rfl rfl)⟩
 rintro x s' ⟨rfl,e,rfl,hsub⟩
 refine Goes.sub hsub ?_
 refine sh fol (kA7 e) ?_
 refine Goes.ret ?_
 obtain rfl:=si h
 exact(gw2 [.gslice 0 e.length 1] (FzW.fz (Fz.gs (E:=encI) rfl rfl (nl rfl))))
def jI (holds:Bool) (e:Int):Option Int:=
 if holds=true then
 some e
 else
 some 0
theorem xD (holds:Bool) (e:Int) {res:Int} (h:jI holds e=some res):qa ZT (.fn 9) [.bool holds,.i e] [] (.i res) []:=by
 unfold jI at h
 refine Ub Tryz.func9 rfl rfl (m:=7) rfl (rs:=[.tmp 4]) rfl (l:=((0,.bool holds)::(kAx e))) rfl ?_
 refine sh fol ((0,.bool holds)::(kAx e)) ?_
 refine sq ?_
 refine sh fol [(1,.i e),(5,.bool holds)] ?_
 refine ihB h (fun a h=>?_) (fun a h=>?_)
 ·refine sh fol (kAX e) ?_
  refine Goes.ret ?_
  obtain rfl:=si h
  exact(gw2 [.i e] (Ua tI))
 refine Goes.skip ?_
 refine sh fol kA9 ?_
 refine Goes.ret ?_
 obtain rfl:=si h
 exact(gw2 [.i 0] (Ua tI))
def kg (l:List Int):Nat->Int->Option (Unit⊕Int)
 |0,_=>none
 |K+1,a=>
  if a<(l.length:Int)then
  (idx l a).bind fun b=>
  if(!decide (b=0))=true then
  some (.inr b)
  else
  kg l K (w64 (a+1))
  else
  some (.inl ())
def jQ (N:Nat) (l:List Int):Option Int:=
 (kg l N 0).bind (fun
 |(.inl ())=>
 some 0
 |(.inr a)=>
 some a)
theorem qa9 (N:Nat) (l:List Int) {res:Int} (h:jQ N l=some res):qa ZT (.fn 10) [vl encI l] [] (.i res) []:=by
 unfold jQ at h
 refine Ub Tryz.func10 rfl rfl (m:=19) rfl (rs:=[.tmp 2]) rfl (l:=(kH l [])) rfl ?_
 refine sh fol (kH l []) ?_
 refine sq ?_
 refine sh fol (kH l [(3,.i 0)]) ?_
 refine Goes.block ?_
 obtain⟨c,g2,h⟩:=bnd h
 refine Goes.imp (Q:=fun x s'=>(x= .exit 0/\(.inl ())=c/\Sub s' (ofG 19 [],[]))\/(x= .ret/\ ∃e,(.inr e)=c/\jo ZT [.tmp 2] (.i e) .ret s')) ?_ ?_
 ·refine Uc (fun M s=> ∃(b:Int),s=(ofG 19 (kH l (kAy b)),[])/\kg l M b=some c) ?_ (m:=N) ⟨_,rfl,g2⟩
  rintro M s ⟨b,rfl,g2⟩
  cases M with
  |zero=>simp only[kg]at g2;cases g2
  |succ M=>
   rw[kg]at g2
   refine sq ?_
   refine sh fol (kH l [(3,.i b),(7,.bool (decide (b<(l.length:Int))))]) ?_
   refine ihD g2 (fun f g2=>?_) (fun f g2=>?_)
   ·refine Goes.skip ?_
    refine sq (Goes.block ?_)
    obtain⟨d,a,g2⟩:=bnd g2
    refine sq (gr fol [2,3] (kH l ((3,.i b)::(kBL (!decide (d=0))))) (ac (iv ja encI a) (ac (lv 0 ce3 encI a rfl) az)) ?_)
    refine ihB g2 (fun g g2=>?_) (fun g g2=>?_)
    ·refine sq (gr fol [2,3] [(2,.i d)] (ac (iv ja encI a) (ac (lv 0 ce3 encI a rfl) az)) ?_)
     refine Goes.ret ?_
     obtain rfl:=si g2
     exact Or.inr (⟨rfl,_,rfl,(gw2 [.i d] (Ua tI))⟩)
    refine Goes.skip ?_
    refine gh fol (kH l (kAy (w64 (b+1)))) ?_
    exact⟨M,(ofG 19 (kH l (kAy (w64 (b+1)))),[]),Nat.lt_succ_self _,(Sub.refl _),_,rfl,g2⟩
   refine Goes.exit ?_
   obtain rfl:=si g2
   exact Or.inl (⟨rfl,rfl,(Sub.keep [] rfl rfl)⟩)
 rintro x s' (⟨rfl,rfl,hsub⟩|⟨rfl,j,rfl,hret⟩)
 ·try dsimp only at h
  refine Goes.sub hsub ?_
  refine sh fol [(2,.i 0)] ?_
  refine Goes.ret ?_
  obtain rfl:=si h
  exact(gw2 [.i 0] (Ua tI))
 try dsimp only at h
 obtain rfl:=si h
 exact hret
def zY (a:Int) (b:Int):Option Int:=
 (vw a).bind fun c=>
 (vP a).bind fun d=>
 some (w64 (c*(w64 (b-d))))
theorem xy (a:Int) (b:Int) {res:Int} (h:zY a b=some res):qa ZT (.fn 101) [.i a,.fptr [.i b] 0] [] (.i res) []:=by
 unfold zY at h
 refine Ub Tryz.func101 rfl rfl (m:=11) rfl (rs:=[.tmp 3]) rfl (l:=[(0,.i a),(1,.fptr [.i b] 0)]) rfl ?_
 refine sh fol [(0,.i a),(1,.fptr [.i b] 0)] ?_
 obtain⟨e,c,h⟩:=bnd h
 obtain⟨f,d,h⟩:=bnd h
 refine sq (gr fol [1,4] (kAy (w64 (e*(w64 (b-f))))) (ac (cv (qbI a c)) (ac (cv (qb9 a d)) az)) ?_)
 refine Goes.ret ?_
 obtain rfl:=si h
 exact(gw2 [.i (w64 (e*(w64 (b-f))))] (Ua tI))
def qC (a:List Int) (b:Int):Nat->(List Int)->Int->Option (List Int)
 |0,_,_=>none
 |K+1,d,c=>
  if c<(a.length:Int)then
  (idx a c).bind fun e=>
  (zY e b).bind fun f=>
  (app 8 d [f]).bind fun g=>
  qC a b K g (w64 (c+1))
  else
  some d
def zf (N:Nat) (a:List Int) (b:Int):Option (List Int):=
 (qC a b N ([]:List Int) 0).bind fun c=>
 some c
theorem yC (N:Nat) (a:List Int) (b:Int) {p:List Int} (h:zf N a b=some p):qa ZT (.fn 96) [vl encI a,.func (.func 101) [] [.ptr 0 0]] (kAu b []) (.gslice 1 p.length 1) (kAu b (kA p)):=by
 unfold zf at h
 refine Goes.fnH Tryz.func96 rfl rfl (m:=22) rfl (rs:=[.tmp 4]) rfl (l:=(kH a [(1,.func (.func 101) [] [.ptr 0 0])])) rfl ?_
 intro B hB
 refine sh fol (kH a [(1,.func (.func 101) [] [.ptr 0 0])]) ?_
 refine sh fol (kH a [(1,.func (.func 101) [] [.ptr 0 0]),(5,.nilslice)]) ?_
 refine sq ?_
 refine sh fol ((1,.func (.func 101) [] [.ptr 0 0])::(5,.nilslice)::(kAI a (a.length:Int) [(10,.i 0)])) ?_
 refine Goes.block ?_
 obtain⟨q,g5,h⟩:=bnd h
 refine Goes.imp (Q:=fun x s'=>(x= .exit 0/\ ∃g,g=q/\Sub s' (ofG 22 (kAv g []),(kAu b (kA g))))) ?_ ?_
 ·refine Goes.sub (s':=(ofG 22 ((1,.func (.func 101) [] [.ptr 0 0])::(5,.gslice 1 ([]:List Int).length 1)::(kAI a (a.length:Int) [(10,.i 0)])),(kAu b kZ))) (Sub.norm [] [some 0,none] (by rw[hB];rfl) rfl (.keep (.funcL (sn) (rc (.ptr rfl) rn)) (.keep .nil (.keep (.same (qH encI _)) (.keep (.same nI) (.keep (.same nI) .nil))))) (.kb rfl (.same sn) (.fresh .nil))) ?_
  refine Uc (fun M s=> ∃(c:List Int) (d:Int),s=(ofG 22 ((1,.func (.func 101) [] [.ptr 0 0])::(kAv c (kAI a (a.length:Int) (kBF d)))),(kAu b (kA c)))/\qC a b M c d=some q) ?_ (m:=N) ⟨_,_,rfl,g5⟩
  rintro M s ⟨c,d,rfl,g5⟩
  cases M with
  |zero=>simp only[qC]at g5;cases g5
  |succ M=>
   rw[qC]at g5
   refine sh fol ((1,.func (.func 101) [] [.ptr 0 0])::(kAv c (kAI a (a.length:Int) ((10,.i d)::(kBC (decide (d<(a.length:Int)))))))) ?_
   refine sq ?_
   refine ihD g5 (fun r g5=>?_) (fun r g5=>?_)
   ·refine Goes.skip ?_
    refine sq (Goes.block ?_)
    obtain⟨o,e,g5⟩:=bnd g5
    refine sq (gr fol [0,1] ((1,.func (.func 101) [] [.ptr 0 0])::(kAv c ((7,.i o)::(kAI a (a.length:Int) (kBF d))))) (ac (iv ja encI e) (ac (lv 0 ce3 encI e rfl) az)) ?_)
    obtain⟨j,k,g5⟩:=bnd g5
    obtain⟨f,n,g5⟩:=bnd g5
    refine gq fol [3,5] ((1,.func (.func 101) [] [.ptr 0 0])::(5,.gslice 3 f.length 1)::(kAI a (a.length:Int) (kBF d))) (kAu b (kAD j (kA f))) (ac (hs (.call 101 [.i o,.ptr 0 0] (kAu b (kA c)) [0] [.i o,.fptr [.i b] 0] (.i j)) (qbm (FzL.cons (Ui tI) (FzL.cons (Fz.ptr rfl rfl (FzL.cons (Ui tI) FzL.nil)) FzL.nil)) (xy o b k) tI rfl)) (ac (hs (.run [1,2] (zh ZT [22,22] (.gslice 1 c.length 1) (.slice 2 0 1 1 1)) (kAu b (kJ c (kAu j []))) (.gslice 3 f.length 1) (kAu b (kAD j (kA f))) true) (vH ja (E:=encI) rfl (qdK (E:=encI) (ys:=[j]) rfl rfl rfl rfl) (qcB (E:=encI) (l:=c) rfl rfl rfl n rfl))) az)) ?_
    refine gh fol ((1,.func (.func 101) [] [.ptr 0 0])::(5,.gslice 3 f.length 1)::(kAI a (a.length:Int) (kBF (w64 (d+1))))) ?_
    exact⟨M,(ofG 22 ((1,.func (.func 101) [] [.ptr 0 0])::(kAv f (kAI a (a.length:Int) (kBF (w64 (d+1)))))),(kAu b (kA f))),Nat.lt_succ_self _,(Sub.norm [] [some 0,some 3] (by rw[hB];rfl) rfl (.keep (.funcL (sn) (rc (.ptr rfl) rn)) (.keep (.gslice rfl) (.keep (.same (qH encI _)) (.keep (.same nI) (.keep (.same nI) .nil))))) (.kb rfl (.same sn) (.ks .nil))),_,_,rfl,g5⟩
   refine Goes.exit ?_
   obtain rfl:=si g5
   exact⟨rfl,_,rfl,(Sub.keep [5] rfl rfl)⟩
 rintro x s' ⟨rfl,g,rfl,hsub⟩
 refine Goes.sub hsub ?_
 refine sh fol (kAn g []) ?_
 refine Goes.ret ?_
 obtain rfl:=si h
 exact(gh2 [.gslice 1 g.length 1] (yM.refl _ _))
def yG (N:Nat) (n:Int) (w:List Int):Option ((List Int)×Int):=
 (ku N n w).bind fun a=>
 if(!decide (a=0))=true then
 some ([],a)
 else
 (zf N w n).bind fun b=>
 some (b,0)
theorem qbB (N:Nat) (n:Int) (w:List Int) {res:(List Int)×Int} (h:yG N n w=some res):qa ZT (.fn 45) (kAk n w) [] (.tuple (kAT res.1 res.2)) []:=by
 unfold yG at h
 refine Ub Tryz.func45 rfl rfl (m:=16) rfl (rs:=[.tmp 4,.tmp 5]) rfl (l:=(kB n w [])) rfl ?_
 refine sg fol (kQ w [(2,.ptr 0 0)]) (kAu n []) ?_
 refine sq ?_
 obtain⟨a,b,h⟩:=bnd h
 refine sq (gr fol [2] (kQ w ((2,.ptr 0 0)::(kBQ a))) (ac (cv (zK N n w b)) az) ?_)
 refine sh fol (kQ w ((2,.ptr 0 0)::(6,.i a)::(kBC (!decide (a=0))))) ?_
 refine ihB h (fun e h=>?_) (fun e h=>?_)
 ·refine sh fol (kBM (kAc a)) ?_
  refine Goes.ret ?_
  obtain rfl:=si h
  exact(gw2 (kAd a) (FzW.tuple (kX.cons (FzW.nilv (E:=encI)) (kX.cons (Ua tI) kX.nil))))
 refine Goes.skip ?_
 obtain⟨c,d,h⟩:=bnd h
 refine sq (gq fol [2] (kAn c kBO) (kAu n (kA c)) (ac (hs (.callH 96 [vl encI w,.func (.func 101) [] [.ptr 0 0]] (kAu n []) [0] (.gslice 1 c.length 1) (kAu n (kA c))) (qat [some 0] [some 0,some 1] (yC N w n d) (.kb rfl (.cells (rc (.same nI) rn)) .nil) rfl rfl (.back rfl rfl (.cells (rc (.same nI) rn)) rfl (.new rfl rfl (.same fa) rfl .nil)) (rc (.same (qH encI _)) (rc (.funcL (sn) (rc (.ptr rfl) rn)) rn)) (.gslice rfl) rfl)) az) ?_)
 refine Goes.ret ?_
 obtain rfl:=si h
 exact(gw2 [.gslice 1 c.length 1,.i 0] (FzW.tuple (kX.cons (FzW.fz (Fz.gs (E:=encI) rfl rfl (nl rfl))) (kX.cons (Ua tI) kX.nil))))
def zO (w:List Int):Option ((List Int)×Int):=
 if(w.length:Int)>200 then
 some ([],5)
 else
 some (w,0)
theorem vW (w:List Int) {res:(List Int)×Int} (h:zO w=some res):qa ZT (.fn 75) [vl encI w] [] (.tuple (kAT res.1 res.2)) []:=by
 unfold zO at h
 refine Ub Tryz.func75 rfl rfl (m:=8) rfl (rs:=[.tmp 2,.tmp 3]) rfl (l:=(kH w [])) rfl ?_
 refine sh fol (kH w []) ?_
 refine sq ?_
 refine sh fol (kH w (kBG (decide ((w.length:Int)>200)))) ?_
 refine ihD h (fun a h=>?_) (fun a h=>?_)
 ·refine sh fol [(2,.nilslice),(3,.i 5)] ?_
  refine Goes.ret ?_
  obtain rfl:=si h
  exact(gw2 [.nilslice,.i 5] (FzW.tuple (kX.cons (FzW.nilv (E:=encI)) (kX.cons (Ua tI) kX.nil))))
 refine Goes.skip ?_
 refine sh fol (kAZ w [(3,.i 0)]) ?_
 refine Goes.ret ?_
 obtain rfl:=si h
 exact(gw2 [vl encI w,.i 0] (FzW.tuple (kX.cons (Ua (zx encI _ (nl rfl))) (kX.cons (Ua tI) kX.nil))))
def je (N:Nat) (n:Int) (a:List Int) (b:List Int):Option Int:=
 (ku N n a).bind fun c=>
 (ku N n b).bind fun d=>
 (jl N ([c,d]:List Int)).bind fun e=>
 some e
theorem xX (N:Nat) (n:Int) (a:List Int) (b:List Int) {res:Int} (h:je N n a b=some res):qa ZT (.fn 80) (.i n::(kAi a b)) [] (.i res) []:=by
 unfold je at h
 refine Ub Tryz.func80 rfl rfl (m:=15) rfl (rs:=[.tmp 6]) rfl (l:=(kB n a (kAZ b []))) rfl ?_
 refine sh fol (kB n a (kAZ b [])) ?_
 obtain⟨f,c,h⟩:=bnd h
 obtain⟨g,d,h⟩:=bnd h
 obtain⟨j,e,h⟩:=bnd h
 refine sq (gq fol [2,5,7] (kBQ j) (kV f g) (ac (cv (zK N n a c)) (ac (cv (zK N n b d)) (ac (hs (.call 60 [.slice 0 0 2 2 1] (kV f g) [0] [vl encI ([f,g]:List Int)] (.i j)) (qbm (FzL.cons (Fz.lit rfl rfl (FzL.still (AllST.cons tI (AllST.cons tI AllST.nil)))) FzL.nil) (yR N ([f,g]:List Int) e) tI rfl)) az))) ?_)
 refine Goes.ret ?_
 obtain rfl:=si h
 exact(gw2 [.i j] (Ua tI))
def zm (a:Int):Option (Option (List Int)):=
 ((if a<0 then
 none
 else
 some ():Option Unit)).bind fun _=>
 ((if(w64 (a-(w64 (0-0))))>0 then
 (cut ([]:List Int) 0 0).bind fun e=>
 (qcO 8 (w64 (a-(w64 (0-0)))) 0).bind fun b=>
 (cut b 0 0).bind fun c=>
 some (some c)
 else
 some (none:Option (List Int)):Option (Option (List Int)))).bind fun d=>
 some d
theorem yK (a:Int) {j:Option (List Int)} (h:zm a=some j):qa ZT (.fn 145) (kAd a) [] (hsl 0 1 j) (kO j):=by
 unfold zm at h
 refine Goes.fnH Tryz.func145 rfl rfl (m:=27) rfl (rs:=[.tmp 4]) rfl (l:=((0,.nilslice)::(kAx a))) rfl ?_
 intro B hB
 refine sh fol ((0,.nilslice)::(kAx a)) ?_
 refine sq ?_
 refine sh fol ((0,.nilslice)::(1,.i a)::(kBG (decide (a<0)))) ?_
 obtain⟨k,g2,h⟩:=bnd h
 refine Goes.imp (Q:=fun x s'=>(x= .normal/\()=k/\Sub s' (ofG 27 ((0,.nilslice)::(kAx a)),[]))) ?_ ?_
 ·refine ihD g2 (fun n g2=>?_) (fun n g2=>?_)
  ·cases g2
  refine Goes.skip ?_
  obtain rfl:=si g2
  exact⟨rfl,rfl,(Sub.keep [0,1] rfl rfl)⟩
 rintro x s' ⟨rfl,rfl,hsub⟩
 refine Goes.sub hsub ?_
 refine sq ?_
 refine sh fol ((0,.nilslice)::(kAx (w64 (a-(w64 (0-0)))))) ?_
 refine sh fol [(0,.nilslice),(1,.i (w64 (a-(w64 (0-0))))),(16,.bool (decide ((w64 (a-(w64 (0-0))))>0)))] ?_
 obtain⟨o,g5,h⟩:=bnd h
 refine Goes.imp (Q:=fun x s'=>(x= .normal/\ ∃c,c=o/\Sub s' (ofG 27 [(0,hsl 0 1 c)],(kO c)))) ?_ ?_
 ·refine ihD g5 (fun p g5=>?_) (fun p g5=>?_)
  ·obtain⟨q,d,g5⟩:=bnd g5
   obtain⟨e,f,g5⟩:=bnd g5
   obtain⟨g,b,g5⟩:=bnd g5
   refine gq fol [3,5,8] [(0,.oslice 0 g.length 1)] (kA e) (ac (hs (.done (.opt (jk ZT 22 .nilslice none (some (.i 0)) none)) .nilslice) (qgL (α:=Int) ja none (some 0) d)) (ac (hs (.run [] (zh ZT [22,3] .nilslice (.i (w64 (a-(w64 (0-0)))))) [] (.oslice 0 e.length 1) (kA e) false) (qe6 ja it3 (E:=encI) rfl (z:=0) (by kernel_rfl) f rfl)) (ac (hs (.done (.opt (jk ZT 22 (.oslice 0 e.length 1) none (some (.i 0)) none)) (.oslice 0 g.length 1)) (sh_os ja b)) az))) ?_
   obtain rfl:=si g5
   exact⟨rfl,_,rfl,((show Sub (ofG 27 [(0,.oslice 0 g.length 1)],(kA e)) (ofG 27 [(0,.oslice 0 g.length 1)],(kA g))from(Sub.norm [] [some 0] (by rw[hB];rfl) rfl (.keep (.oslice rfl) .nil) (.kb rfl (jT.cut b) .nil))).trans (Sub.norm [] [some 0] (by rw[hB];rfl) rfl (.keep (ko.hs1 rfl) .nil) (.ks .nil)))⟩
  refine Goes.skip ?_
  obtain rfl:=si g5
  exact⟨rfl,_,rfl,(Sub.norm [] [none] (by rw[hB];rfl) rfl (.keep ko.hs0 .nil) (.fresh .nil))⟩
 rintro x s' ⟨rfl,c,rfl,hsub⟩
 refine Goes.sub hsub ?_
 refine sh fol [(4,hsl 0 1 c)] ?_
 refine Goes.ret ?_
 obtain rfl:=si h
 exact(gh2 [hsl 0 1 c] (yM.refl _ _))
def qp (slices:List (List Int)):Nat->Int->Int->Option Int
 |0,_,_=>none
 |K+1,a,b=>
  if a<(slices.length:Int)then
  (((idx slices a).bind fun c=>
  if(w64 (b+(c.length:Int)))<0 then
  none
  else
  some (w64 (b+(c.length:Int))):Option Int)).bind fun d=>
  qp slices K (w64 (a+1)) d
  else
  some b
def qf (slices:List (List Int)):Nat->(Option (List Int))->Int->Option (Option (List Int))
 |0,_,_=>none
 |K+1,b,a=>
  if a<(slices.length:Int)then
  (idx slices a).bind fun c=>
  ((match b with
  |none=>
  (match c with
  |[]=>
  some (none:Option (List Int))
  |g::xs20=>
  none)
  |some d=>
  (app 8 d c).bind fun e=>
  some (some e)):Option (Option (List Int))).bind fun f=>
  qf slices K f (w64 (a+1))
  else
  some b
def zu (N:Nat) (slices:List (List Int)):Option (List Int):=
 (qp slices N 0 0).bind fun c=>
 (zm c).bind fun a=>
 (qf slices N a 0).bind fun b=>
 some (hof b)
theorem xc (N:Nat) (slices:List (List Int)) {res:List Int} (h:zu N slices=some res):qa ZT (.fn 103) [vl (zi encI) slices] [] (vl encI res) []:=by
 unfold zu at h
 refine Ub Tryz.func103 rfl rfl (m:=36) rfl (rs:=[.tmp 2]) rfl (l:=[(0,vl (zi encI) slices)]) rfl ?_
 refine sh fol [(0,vl (zi encI) slices)] ?_
 refine sh fol [(0,vl (zi encI) slices),(3,.i 0)] ?_
 refine sq ?_
 refine sh fol [(0,vl (zi encI) slices),(3,.i 0),(9,vl (zi encI) slices),(10,.i (slices.length:Int)),(11,.i 0)] ?_
 refine Goes.block ?_
 obtain⟨B,g4,h⟩:=bnd h
 refine Goes.imp (Q:=fun x s'=>(x= .exit 0/\ ∃v,v=B/\Sub s' (ofG 36 ((0,vl (zi encI) slices)::(kAy v)),[]))) ?_ ?_
 ·refine Uc (fun M s=> ∃(f:Int) (o:Int),s=(ofG 36 ((0,vl (zi encI) slices)::(3,.i o)::(9,vl (zi encI) slices)::(kAQ (slices.length:Int) f [])),[])/\qp slices M f o=some B) ?_ (m:=N) ⟨_,_,rfl,g4⟩
  rintro M s ⟨f,o,rfl,g4⟩
  cases M with
  |zero=>simp only[qp]at g4;cases g4
  |succ M=>
   rw[qp]at g4
   refine sh fol ((0,vl (zi encI) slices)::(3,.i o)::(9,vl (zi encI) slices)::(kAQ (slices.length:Int) f [(12,.bool (decide (f<(slices.length:Int))))])) ?_
   refine sq ?_
   refine ihD g4 (fun C g4=>?_) (fun C g4=>?_)
   ·refine Goes.skip ?_
    refine sq ?_
    obtain⟨D,g7,g4⟩:=bnd g4
    refine Goes.imp (Q:=fun x s'=>(x= .normal/\ ∃w,w=D/\Sub s' (ofG 36 ((0,vl (zi encI) slices)::(3,.i w)::(9,vl (zi encI) slices)::(kAQ (slices.length:Int) f [])),[]))) ?_ ?_
    ·refine Goes.block ?_
     obtain⟨z,p,g7⟩:=bnd g7
     refine sq (gr fol [0,1] ((0,vl (zi encI) slices)::(3,.i o)::(5,vl encI z)::(9,vl (zi encI) slices)::(kAQ (slices.length:Int) f [])) (ac (iv sl23 (zi encI) p) (ac (lv 0 ce22 (zi encI) p rfl) az)) ?_)
     refine sh fol ((0,vl (zi encI) slices)::(3,.i (w64 (o+(z.length:Int))))::(9,vl (zi encI) slices)::(kAQ (slices.length:Int) f [])) ?_
     refine sh fol ((0,vl (zi encI) slices)::(3,.i (w64 (o+(z.length:Int))))::(9,vl (zi encI) slices)::(kAQ (slices.length:Int) f [(20,.bool (decide ((w64 (o+(z.length:Int)))<0)))])) ?_
     refine ihD g7 (fun F g7=>?_) (fun F g7=>?_)
     ·cases g7
     refine Goes.skip ?_
     obtain rfl:=si g7
     exact⟨rfl,_,rfl,(Sub.keep [0,3,9,10,11] rfl rfl)⟩
    rintro x s' ⟨rfl,w,rfl,hsub⟩
    refine Goes.sub hsub ?_
    refine gh fol ((0,vl (zi encI) slices)::(3,.i w)::(9,vl (zi encI) slices)::(kAQ (slices.length:Int) (w64 (f+1)) [])) ?_
    exact⟨M,(ofG 36 ((0,vl (zi encI) slices)::(3,.i w)::(9,vl (zi encI) slices)::(kAQ (slices.length:Int) (w64 (f+1)) [])),[]),Nat.lt_succ_self _,(Sub.refl _),_,_,rfl,g4⟩
   refine Goes.exit ?_
   obtain rfl:=si g4
   exact⟨rfl,_,rfl,(Sub.keep [0,3] rfl rfl)⟩
 rintro x s' ⟨rfl,v,rfl,hsub⟩
 refine Goes.sub hsub ?_
 obtain⟨g,q,h⟩:=bnd h
 refine sq (gq fol [1] [(0,vl (zi encI) slices),(6,hsl 0 1 g)] (kO g) (ac (hs (.callH 145 (kAd v) [] [] (hsl 0 1 g) (kO g)) (qat [] [some 0] (yK v q) .nil rfl rfl (.new rfl rfl (.same fa) rfl .nil) (rc (.same (qd.nilslice)) (rc (.same nI) rn)) (.hs rfl) rfl)) az) ?_)
 refine sq ?_
 refine sh fol [(6,hsl 0 1 g),(25,vl (zi encI) slices),(26,.i (slices.length:Int)),(27,.i 0)] ?_
 refine Goes.block ?_
 obtain⟨y,g15,h⟩:=bnd h
 refine Goes.imp (Q:=fun x s'=>(x= .exit 2/\ ∃e,e=y/\Sub s' (ofG 36 [(6,hsl 0 1 e)],(kO e)))) ?_ ?_
 ·refine Uc (fun M s=> ∃(d:Option (List Int)) (b:Int),s=(ofG 36 [(6,hsl 0 1 d),(25,vl (zi encI) slices),(26,.i (slices.length:Int)),(27,.i b)],(kO d))/\qf slices M d b=some y) ?_ (m:=N) ⟨_,_,rfl,g15⟩
  rintro M s ⟨d,b,rfl,g15⟩
  cases M with
  |zero=>simp only[qf]at g15;cases g15
  |succ M=>
   rw[qf]at g15
   refine sh fol [(6,hsl 0 1 d),(25,vl (zi encI) slices),(26,.i (slices.length:Int)),(27,.i b),(28,.bool (decide (b<(slices.length:Int))))] ?_
   refine sq ?_
   refine ihD g15 (fun A g15=>?_) (fun A g15=>?_)
   ·refine Goes.skip ?_
    refine sq (Goes.block ?_)
    obtain⟨r,j,g15⟩:=bnd g15
    refine sq (gr fol [0,1] [(6,hsl 0 1 d),(8,vl encI r),(25,vl (zi encI) slices),(26,.i (slices.length:Int)),(27,.i b)] (ac (iv sl23 (zi encI) j) (ac (lv 0 ce22 (zi encI) j rfl) az)) ?_)
    obtain⟨k,a,g15⟩:=bnd g15
    refine Goes.cutS (s':=(ofG 36 [(6,hsl 0 1 k),(25,vl (zi encI) slices),(26,.i (slices.length:Int)),(27,.i b)],(kO k))) ?_ ?_
    ·rcases d with _|t
     ·try dsimp only at a
      rcases r with _|⟨G,xs20⟩
      ·try dsimp only at a
       obtain rfl:=si a
       exact zV.sub (zV.rq fol [2] (kAL [(25,vl (zi encI) slices),(26,.i (slices.length:Int)),(27,.i b)]) [.cells ((hof (none:Option (List Int))).flatMap encI.c)] (ac (hs (.run [] (zh ZT [22,22] .nilslice (vl encI ([]:List Int))) [.cells ((hof (none:Option (List Int))).flatMap encI.c)] .nilslice [.cells ((hof (none:Option (List Int))).flatMap encI.c)] false) (qga ja)) az)) (Sub.norm [] [none] rfl rfl (.keep ko.hs0 (.keep (.same (qH (zi encI) _)) (.keep (.same nI) (.keep (.same nI) .nil)))) (.fresh .nil))
      try dsimp only at a
      cases a
     try dsimp only at a
     obtain⟨n,u,a⟩:=bnd a
     obtain rfl:=si a
     exact zV.sub (zV.rq fol [2] [(6,.oslice 1 n.length 1),(25,vl (zi encI) slices),(26,.i (slices.length:Int)),(27,.i b)] (.dead::(kA n)) (ac (hs (.run [0] (zh ZT [22,22] (.oslice 0 t.length 1) (vl encI r)) (kA t) (.oslice 1 n.length 1) (.dead::(kA n)) true) (vH ja (E:=encI) rfl (qcG (E:=encI) rfl _) (qgx (E:=encI) (l:=t) rfl rfl rfl u rfl))) az)) (Sub.norm [] [some 1] rfl rfl (.keep (ko.hs1 rfl) (.keep (.same (qH (zi encI) _)) (.keep (.same nI) (.keep (.same nI) .nil)))) (.ks .nil))
    intro _ hsub
    refine Goes.sub hsub ?_
    refine gh fol [(6,hsl 0 1 k),(25,vl (zi encI) slices),(26,.i (slices.length:Int)),(27,.i (w64 (b+1)))] ?_
    exact⟨M,(ofG 36 [(6,hsl 0 1 k),(25,vl (zi encI) slices),(26,.i (slices.length:Int)),(27,.i (w64 (b+1)))],(kO k)),Nat.lt_succ_self _,(Sub.refl _),_,_,rfl,g15⟩
   refine Goes.exit ?_
   obtain rfl:=si g15
   exact⟨rfl,_,rfl,(Sub.keep [6] rfl rfl)⟩
 rintro x s' ⟨rfl,e,rfl,hsub⟩
 refine Goes.sub hsub ?_
 refine sh fol [(2,hsl 0 1 e)] ?_
 refine Goes.ret ?_
 obtain rfl:=si h
 exact(gw2 [hsl 0 1 e] (FzW.hs (E:=encI) rfl rfl (nl rfl)))
def jw (N:Nat) (n:Int) (a:List Int) (b:List Int):Option ((List Int)×Int):=
 (je N n a b).bind fun c=>
 if(!decide (c=0))=true then
 some ([],c)
 else
 (zu N ([a,b]:List (List Int))).bind fun e=>
 (zO e).bind fun d=>
 some (d.1,d.2)
theorem qaH (N:Nat) (n:Int) (a:List Int) (b:List Int) {res:(List Int)×Int} (h:jw N n a b=some res):qa ZT (.fn 46) (.i n::(kAi a b)) [] (.tuple (kAT res.1 res.2)) []:=by
 unfold jw at h
 refine Ub Tryz.func46 rfl rfl (m:=23) rfl (rs:=[.tmp 6,.tmp 7]) rfl (l:=(kB n a (kAZ b []))) rfl ?_
 refine sh fol (kB n a (kAZ b [])) ?_
 refine sq ?_
 obtain⟨d,e,h⟩:=bnd h
 refine sq (gr fol [3] (kQ a (kAZ b (kA2 d))) (ac (cv (xX N n a b e)) az) ?_)
 refine sh fol (kQ a (kAZ b ((8,.i d)::(kBL (!decide (d=0)))))) ?_
 refine ihB h (fun k h=>?_) (fun k h=>?_)
 ·refine sh fol (kAL (kBK d)) ?_
  refine Goes.ret ?_
  obtain rfl:=si h
  exact(gw2 (kAd d) (FzW.tuple (kX.cons (FzW.nilv (E:=encI)) (kX.cons (Ua tI) kX.nil))))
 refine Goes.skip ?_
 obtain⟨j,f,h⟩:=bnd h
 obtain⟨c,g,h⟩:=bnd h
 refine sq (gq fol [3,4] (kM c.1 c.2 []) [.frozen [vl encI a,vl encI b]] (ac (hs (.callF 103 [.slice 0 0 2 2 1] [.cells [vl encI a,vl encI b]] [0] [vl (zi encI) ([a,b]:List (List Int))] (vl encI j)) (qeU (FzL.cons (Fz.lit rfl rfl (FzL.still (AllST.cons (zx encI _ (nl rfl)) (AllST.cons (zx encI _ (nl rfl)) AllST.nil)))) FzL.nil) (xc N ([a,b]:List (List Int)) f) (zx encI _ (nl rfl)))) (ac (cv (vW j g)) az)) ?_)
 refine Goes.sub (show Sub (ofG 23 (kM c.1 c.2 []),[.frozen [vl encI a,vl encI b]]) (ofG 23 (kM c.1 c.2 []),[])from(Sub.norm [] [] rfl rfl (.keep (.same (qH encI _)) (.keep (.same nI) .nil)) .nil)) ?_
 refine Goes.ret ?_
 obtain rfl:=si h
 exact(gw2 (kAT c.1 c.2) (FzW.tuple (kX.cons (Ua (zx encI _ (nl rfl))) (kX.cons (Ua tI) kX.nil))))
def bits_Mul64 (a:Int) (y:Int):Option (Int×Int):=
 some (IntKind.wrap .u64 ((IntKind.wrap .u64 ((IntKind.wrap .u64 ((qM .u64 a 32)*(qM .u64 y 32)))+(qM .u64 (IntKind.wrap .u64 ((IntKind.wrap .u64 ((qM .u64 a 32)*(qK .u64 y 4294967295)))+(qM .u64 (IntKind.wrap .u64 ((qK .u64 a 4294967295)*(qK .u64 y 4294967295))) 32))) 32)))+(qM .u64 (IntKind.wrap .u64 ((qK .u64 (IntKind.wrap .u64 ((IntKind.wrap .u64 ((qM .u64 a 32)*(qK .u64 y 4294967295)))+(qM .u64 (IntKind.wrap .u64 ((qK .u64 a 4294967295)*(qK .u64 y 4294967295))) 32))) 4294967295)+(IntKind.wrap .u64 ((qK .u64 a 4294967295)*(qM .u64 y 32))))) 32)),IntKind.wrap .u64 (a*y))
theorem qbF (a:Int) (y:Int) {res:Int×Int} (h:bits_Mul64 a y=some res):qa ZT (.fn 181) [.int .u64 a,.int .u64 y] [] (.tuple [.int .u64 res.1,.int .u64 res.2]) []:=by
 unfold bits_Mul64 at h
 refine Ub Tryz.func181 rfl rfl (m:=51) rfl (rs:=[.tmp 4,.tmp 5]) rfl (l:=(kAP a y [])) rfl ?_
 refine sh fol (kAP a y []) ?_
 refine sh fol (kAP a y [(6,.int .u64 (qK .u64 a 4294967295))]) ?_
 refine sh fol (kAP a y (kBA (qK .u64 a 4294967295) (qM .u64 a 32) [])) ?_
 refine sh fol (kAP a y (kBA (qK .u64 a 4294967295) (qM .u64 a 32) [(8,.int .u64 (qK .u64 y 4294967295))])) ?_
 refine sh fol (kAP a y (kBA (qK .u64 a 4294967295) (qM .u64 a 32) [(8,.int .u64 (qK .u64 y 4294967295)),(9,.int .u64 (qM .u64 y 32))])) ?_
 refine sh fol (kAP a y (kBA (qK .u64 a 4294967295) (qM .u64 a 32) [(8,.int .u64 (qK .u64 y 4294967295)),(9,.int .u64 (qM .u64 y 32)),(10,.int .u64 (IntKind.wrap .u64 ((qK .u64 a 4294967295)*(qK .u64 y 4294967295))))])) ?_
 refine sh fol (kAP a y (kBA (qK .u64 a 4294967295) (qM .u64 a 32) [(9,.int .u64 (qM .u64 y 32)),(11,.int .u64 (IntKind.wrap .u64 ((IntKind.wrap .u64 ((qM .u64 a 32)*(qK .u64 y 4294967295)))+(qM .u64 (IntKind.wrap .u64 ((qK .u64 a 4294967295)*(qK .u64 y 4294967295))) 32))))])) ?_
 refine sh fol (kAP a y (kBA (qK .u64 a 4294967295) (qM .u64 a 32) [(9,.int .u64 (qM .u64 y 32)),(11,.int .u64 (IntKind.wrap .u64 ((IntKind.wrap .u64 ((qM .u64 a 32)*(qK .u64 y 4294967295)))+(qM .u64 (IntKind.wrap .u64 ((qK .u64 a 4294967295)*(qK .u64 y 4294967295))) 32)))),(12,.int .u64 (qK .u64 (IntKind.wrap .u64 ((IntKind.wrap .u64 ((qM .u64 a 32)*(qK .u64 y 4294967295)))+(qM .u64 (IntKind.wrap .u64 ((qK .u64 a 4294967295)*(qK .u64 y 4294967295))) 32))) 4294967295))])) ?_
 refine sh fol (kAP a y (kBA (qK .u64 a 4294967295) (qM .u64 a 32) [(9,.int .u64 (qM .u64 y 32)),(12,.int .u64 (qK .u64 (IntKind.wrap .u64 ((IntKind.wrap .u64 ((qM .u64 a 32)*(qK .u64 y 4294967295)))+(qM .u64 (IntKind.wrap .u64 ((qK .u64 a 4294967295)*(qK .u64 y 4294967295))) 32))) 4294967295)),(13,.int .u64 (qM .u64 (IntKind.wrap .u64 ((IntKind.wrap .u64 ((qM .u64 a 32)*(qK .u64 y 4294967295)))+(qM .u64 (IntKind.wrap .u64 ((qK .u64 a 4294967295)*(qK .u64 y 4294967295))) 32))) 32))])) ?_
 refine sh fol (kAP a y [(7,.int .u64 (qM .u64 a 32)),(9,.int .u64 (qM .u64 y 32)),(12,.int .u64 (IntKind.wrap .u64 ((qK .u64 (IntKind.wrap .u64 ((IntKind.wrap .u64 ((qM .u64 a 32)*(qK .u64 y 4294967295)))+(qM .u64 (IntKind.wrap .u64 ((qK .u64 a 4294967295)*(qK .u64 y 4294967295))) 32))) 4294967295)+(IntKind.wrap .u64 ((qK .u64 a 4294967295)*(qM .u64 y 32)))))),(13,.int .u64 (qM .u64 (IntKind.wrap .u64 ((IntKind.wrap .u64 ((qM .u64 a 32)*(qK .u64 y 4294967295)))+(qM .u64 (IntKind.wrap .u64 ((qK .u64 a 4294967295)*(qK .u64 y 4294967295))) 32))) 32))]) ?_
 refine sh fol (kAP a y [(4,.int .u64 (IntKind.wrap .u64 ((IntKind.wrap .u64 ((IntKind.wrap .u64 ((qM .u64 a 32)*(qM .u64 y 32)))+(qM .u64 (IntKind.wrap .u64 ((IntKind.wrap .u64 ((qM .u64 a 32)*(qK .u64 y 4294967295)))+(qM .u64 (IntKind.wrap .u64 ((qK .u64 a 4294967295)*(qK .u64 y 4294967295))) 32))) 32)))+(qM .u64 (IntKind.wrap .u64 ((qK .u64 (IntKind.wrap .u64 ((IntKind.wrap .u64 ((qM .u64 a 32)*(qK .u64 y 4294967295)))+(qM .u64 (IntKind.wrap .u64 ((qK .u64 a 4294967295)*(qK .u64 y 4294967295))) 32))) 4294967295)+(IntKind.wrap .u64 ((qK .u64 a 4294967295)*(qM .u64 y 32))))) 32))))]) ?_
 refine sh fol [(4,.int .u64 (IntKind.wrap .u64 ((IntKind.wrap .u64 ((IntKind.wrap .u64 ((qM .u64 a 32)*(qM .u64 y 32)))+(qM .u64 (IntKind.wrap .u64 ((IntKind.wrap .u64 ((qM .u64 a 32)*(qK .u64 y 4294967295)))+(qM .u64 (IntKind.wrap .u64 ((qK .u64 a 4294967295)*(qK .u64 y 4294967295))) 32))) 32)))+(qM .u64 (IntKind.wrap .u64 ((qK .u64 (IntKind.wrap .u64 ((IntKind.wrap .u64 ((qM .u64 a 32)*(qK .u64 y 4294967295)))+(qM .u64 (IntKind.wrap .u64 ((qK .u64 a 4294967295)*(qK .u64 y 4294967295))) 32))) 4294967295)+(IntKind.wrap .u64 ((qK .u64 a 4294967295)*(qM .u64 y 32))))) 32)))),(5,.int .u64 (IntKind.wrap .u64 (a*y)))] ?_
 refine Goes.ret ?_
 obtain rfl:=si h
 exact(gw2 [.int .u64 (IntKind.wrap .u64 ((IntKind.wrap .u64 ((IntKind.wrap .u64 ((qM .u64 a 32)*(qM .u64 y 32)))+(qM .u64 (IntKind.wrap .u64 ((IntKind.wrap .u64 ((qM .u64 a 32)*(qK .u64 y 4294967295)))+(qM .u64 (IntKind.wrap .u64 ((qK .u64 a 4294967295)*(qK .u64 y 4294967295))) 32))) 32)))+(qM .u64 (IntKind.wrap .u64 ((qK .u64 (IntKind.wrap .u64 ((IntKind.wrap .u64 ((qM .u64 a 32)*(qK .u64 y 4294967295)))+(qM .u64 (IntKind.wrap .u64 ((qK .u64 a 4294967295)*(qK .u64 y 4294967295))) 32))) 4294967295)+(IntKind.wrap .u64 ((qK .u64 a 4294967295)*(qM .u64 y 32))))) 32))),.int .u64 (IntKind.wrap .u64 (a*y))] (FzW.tuple (kX.cons (Ua tI) (kX.cons (Ua tI) kX.nil))))
def bits_Mul (b:Int) (y:Int):Option (Int×Int):=
 (bits_Mul64 b y).bind fun a=>
 some (a.1,a.2)
theorem qcJ (d:Int) (y:Int) {res:Int×Int} (h:bits_Mul d y=some res):qa ZT (.fn 134) [.int .u64 d,.int .u64 y] [] (.tuple [.int .u64 res.1,.int .u64 res.2]) []:=by
 unfold bits_Mul at h
 refine Ub Tryz.func134 rfl rfl (m:=30) rfl (rs:=[.tmp 4,.tmp 5]) rfl (l:=(kAP d y [])) rfl ?_
 refine sh fol (kAP d y []) ?_
 refine sq ?_
 refine Goes.ifB (b:=false) (by kernel_rfl) (fun c=>(by cases c)) (fun _=>?_)
 refine Goes.skip ?_
 obtain⟨a,e,h⟩:=bnd h
 refine sq (gr fol [2] [(8,.int .u64 a.1),(9,.int .u64 a.2)] (ac (cv (qbF d y e)) az) ?_)
 refine sh fol [(4,.int .u64 a.1),(5,.int .u64 a.2)] ?_
 refine Goes.ret ?_
 obtain rfl:=si h
 exact(gw2 [.int .u64 a.1,.int .u64 a.2] (FzW.tuple (kX.cons (Ua tI) (kX.cons (Ua tI) kX.nil))))
def qx:Nat->(List Int)->Int->Option (List Int)
 |0,_,_=>none
 |K+1,a,c=>
  if c<(a.length:Int)then
  (at' a c).bind fun b=>
  (some (vU a b (a.take b))).bind fun d=>
  qx K d (w64 (c+((Nat.min (a.take b).length (a.length-b):Nat):Int)))
  else
  some a
def kL (N:Nat) (a:List Int) (b:Int):Option (List Int):=
 ((if b<0 then
 none
 else
 some ():Option Unit)).bind fun _=>
 (bits_Mul (IntKind.wrap .u64 (a.length:Int)) (IntKind.wrap .u64 b)).bind fun d=>
 (if d.1>0 then
 some true
 else
 some (decide (d.2>9223372036854775807)):Option Bool).bind fun g=>
 ((if g=true then
 none
 else
 some ():Option Unit)).bind fun _=>
 (mk 8 (w64 d.2) 0).bind fun c=>
 (some (cpy c a)).bind fun e=>
 (qx N e ((Nat.min a.length c.length:Nat):Int)).bind fun f=>
 some f
theorem vS (N:Nat) (b:List Int) (g:Int) {w:List Int} (h:kL N b g=some w):qa ZT (.fn 74) (kAT b g) [] (.slice 0 0 w.length w.length 1) (kA w):=by
 unfold kL at h
 refine Goes.fnH Tryz.func74 rfl rfl (m:=48) rfl (rs:=[.tmp 4]) rfl (l:=(kH b (kAx g))) rfl ?_
 intro B hB
 refine sh fol (kH b (kAx g)) ?_
 refine sq ?_
 refine sh fol (kH b ((1,.i g)::(kAq (decide (g<0))))) ?_
 obtain⟨C,g2,h⟩:=bnd h
 refine Goes.imp (Q:=fun x s'=>(x= .normal/\()=C/\Sub s' (ofG 48 (kH b (kAx g)),[]))) ?_ ?_
 ·refine ihD g2 (fun D g2=>?_) (fun D g2=>?_)
  ·cases g2
  refine Goes.skip ?_
  obtain rfl:=si g2
  exact⟨rfl,rfl,(Sub.keep [0,1] rfl rfl)⟩
 rintro x s' ⟨rfl,rfl,hsub⟩
 refine Goes.sub hsub ?_
 obtain⟨r,u,h⟩:=bnd h
 refine sq (gr fol [5] (kH b [(5,.int .u64 r.1),(6,.int .u64 r.2)]) (ac (cv (qcJ (IntKind.wrap .u64 (b.length:Int)) (IntKind.wrap .u64 g) u)) az) ?_)
 refine sq ?_
 refine sq ?_
 obtain⟨F,j,h⟩:=bnd h
 refine Goes.cut (s':=(ofG 48 (kH b [(6,.int .u64 r.2),(26,.bool F)]),[])) ?_ ?_
 ·rcases wyD j with⟨y,j⟩|⟨y,j⟩
  ·obtain rfl:=si j
   exact tr fol [2] (kH b [(6,.int .u64 r.2),(26,.bool true)]) (ac (gw y) az)
  obtain rfl:=si j
  exact tr fol [2] (kH b [(6,.int .u64 r.2),(26,.bool (decide (r.2>9223372036854775807)))]) (ac (gw y) az)
 obtain⟨G,g8,h⟩:=bnd h
 refine Goes.imp (Q:=fun x s'=>(x= .normal/\()=G/\Sub s' (ofG 48 (kH b [(6,.int .u64 r.2)]),[]))) ?_ ?_
 ·refine ihB g8 (fun H g8=>?_) (fun H g8=>?_)
  ·cases g8
  refine Goes.skip ?_
  obtain rfl:=si g8
  exact⟨rfl,rfl,(Sub.keep [0,6] rfl rfl)⟩
 rintro x s' ⟨rfl,rfl,hsub⟩
 refine Goes.sub hsub ?_
 obtain⟨c,t,h⟩:=bnd h
 refine sq (gq fol [2] (kH b (kAR c [])) (kA c) (ac (hs (.run [] (jJ ZT 22 (.i (w64 r.2)) (.i (w64 r.2))) [] (.slice 0 0 c.length c.length 1) (kA c) false) (qhi ja (E:=encI) (z:=0) rfl (by kernel_rfl) t rfl)) az) ?_)
 obtain⟨o,p,h⟩:=bnd h
 refine sq (gq fol [2] (kAR c (kA2 ((Nat.min b.length c.length:Nat):Int))) (kA o) (ac (hs (.run [0] (jN ZT [22,22] (.slice 0 0 c.length c.length 1) (vl encI b)) (kA c) (.i ((Nat.min b.length c.length:Nat):Int)) (kA o) true) (qgI ja (E:=encI) (l:=c) rfl (qcG (E:=encI) rfl _) (.inl rfl) rfl rfl p rfl)) az) ?_)
 refine Goes.sub (show Sub (ofG 48 (kAR c (kA2 ((Nat.min b.length c.length:Nat):Int))),(kA o)) (ofG 48 (kAR o (kA2 ((Nat.min b.length c.length:Nat):Int))),(kA o))from(Sub.norm [] [some 0] (by rw[hB];rfl) rfl (.keep (.sliceE rfl (qdR p)) (.keep (.same nI) .nil)) (.ks .nil))) ?_
 refine sq (Goes.block ?_)
 obtain⟨v,g15,h⟩:=bnd h
 refine Goes.imp (Q:=fun x s'=>(x= .exit 0/\ ∃k,k=v/\Sub s' (ofG 48 (kAR k []),(kA k)))) ?_ ?_
 ·refine Uc (fun M s=> ∃(a:List Int) (e:Int),s=(ofG 48 (kAR a (kA2 e)),(kA a))/\qx M a e=some v) ?_ (m:=N) ⟨_,_,rfl,g15⟩
  rintro M s ⟨a,e,rfl,g15⟩
  cases M with
  |zero=>simp only[qx]at g15;cases g15
  |succ M=>
   rw[qx]at g15
   refine sq ?_
   refine sh fol (kAR a [(8,.i e),(37,.bool (decide (e<(a.length:Int))))]) ?_
   refine ihD g15 (fun A g15=>?_) (fun A g15=>?_)
   ·refine Goes.skip ?_
    refine Goes.block ?_
    obtain⟨d,f,g15⟩:=bnd g15
    obtain⟨n,q,g15⟩:=bnd g15
    refine gq fol [3,6,7] (kAR a (kA2 (w64 (e+((Nat.min (a.take d).length (a.length-d):Nat):Int))))) (kA n) (ac (hs (.done (.opt (jk ZT 22 (.slice 0 0 a.length a.length 1) (some (.i e)) none none)) (qak 0 1 a.length d)) (qe9 ja f)) (ac (hs (.done (.opt (jk ZT 22 (.slice 0 0 a.length a.length 1) none (some (.i e)) none)) (.slice 0 0 d a.length 1)) (qgO ja f)) (ac (hs (.run [0,0] (jN ZT [22,22] (qak 0 1 a.length d) (.slice 0 0 d a.length 1)) (kA a) (.i ((Nat.min (a.take d).length (a.length-d):Nat):Int)) (kA n) true) (qeH ja (E:=encI) rfl (l:=a) (qge (E:=encI) rfl rfl rfl (qeF f)) (qeF f) rfl rfl q rfl)) az))) ?_
    exact⟨M,(ofG 48 (kAR n (kA2 (w64 (e+((Nat.min (a.take d).length (a.length-d):Nat):Int))))),(kA n)),Nat.lt_succ_self _,((show Sub (ofG 48 (kAR a (kA2 (w64 (e+((Nat.min (a.take d).length (a.length-d):Nat):Int))))),(kA n)) (ofG 48 (kAR n (kA2 (w64 (e+((Nat.min (a.take d).length (a.length-d):Nat):Int))))),(kA n))from(Sub.norm [] [some 0] (by rw[hB];rfl) rfl (.keep (.sliceE rfl (qeg (qeF f) q)) (.keep (.same nI) .nil)) (.ks .nil))).trans (Sub.refl _)),_,_,rfl,g15⟩
   refine Goes.exit ?_
   obtain rfl:=si g15
   exact⟨rfl,_,rfl,(Sub.keep [7] rfl rfl)⟩
 rintro x s' ⟨rfl,k,rfl,hsub⟩
 refine Goes.sub hsub ?_
 refine sh fol [(4,.slice 0 0 k.length k.length 1)] ?_
 refine Goes.ret ?_
 obtain rfl:=si h
 exact(gh2 [.slice 0 0 k.length k.length 1] (yM.refl _ _))
def zS (N:Nat) (n:Int) (w:List Int) (k:Int):Option ((List Int)×Int):=
 (ku N n w).bind fun e=>
 if(!decide (e=0))=true then
 some ([],e)
 else
 ((if(w.length:Int)=0 then
 some (.inr ([],0))
 else
 (if k>200 then
 some true
 else
 some (decide (k<(-200))):Option Bool).bind fun f=>
 if f=true then
 some (.inr ([],5))
 else
 if k<0 then
 (zk N w).bind fun b=>
 some (.inl (b,w64 (0-k)))
 else
 some (.inl (w,k)):Option (((List Int)×Int)⊕((List Int)×Int)))).bind (fun
 |(.inl (g,h))=>
 (kL N g h).bind fun c=>
 (zO c).bind fun a=>
 some (a.1,a.2)
 |(.inr d)=>
 some d)
theorem qbt (N:Nat) (n:Int) (w:List Int) (k:Int) {res:(List Int)×Int} (h:zS N n w k=some res):qa ZT (.fn 47) (.i n::(kAT w k)) [] (.tuple (kAT res.1 res.2)) []:=by
 unfold zS at h
 refine Ub Tryz.func47 rfl rfl (m:=39) rfl (rs:=[.tmp 6,.tmp 7]) rfl (l:=(kB n w [(2,.i k)])) rfl ?_
 refine sh fol (kB n w [(2,.i k)]) ?_
 refine sq ?_
 obtain⟨j,o,h⟩:=bnd h
 refine sq (gr fol [2] (kQ w ((2,.i k)::(kA2 j))) (ac (cv (zK N n w o)) az) ?_)
 refine sh fol (kQ w [(2,.i k),(8,.i j),(13,.bool (!decide (j=0)))]) ?_
 refine ihB h (fun y h=>?_) (fun y h=>?_)
 ·refine sh fol (kAL (kBK j)) ?_
  refine Goes.ret ?_
  obtain rfl:=si h
  exact(gw2 (kAd j) (FzW.tuple (kX.cons (FzW.nilv (E:=encI)) (kX.cons (Ua tI) kX.nil))))
 refine Goes.skip ?_
 refine sq ?_
 obtain⟨v,g5,h⟩:=bnd h
 refine Goes.imp (Q:=fun x s'=>(x= .normal/\ ∃p q,(.inl (p,q))=v/\Sub s' (ofG 39 (kQ p [(2,.i q)]),[]))\/(x= .ret/\ ∃r,(.inr r)=v/\jo ZT [.tmp 6,.tmp 7] (.tuple (kAT r.1 r.2)) .ret s')) ?_ ?_
 ·refine Goes.block ?_
  refine sh fol (kQ w [(2,.i k),(15,.bool (decide ((w.length:Int)=0)))]) ?_
  refine ihD g5 (fun z g5=>?_) (fun z g5=>?_)
  ·refine sh fol (kAL kBJ) ?_
   refine Goes.ret ?_
   obtain rfl:=si g5
   exact Or.inr (⟨rfl,_,rfl,(gw2 [.nilslice,.i 0] (FzW.tuple (kX.cons (FzW.nilv (E:=encI)) (kX.cons (Ua tI) kX.nil))))⟩)
  refine sq ?_
  obtain⟨A,a,g5⟩:=bnd g5
  refine Goes.cut (s':=(ofG 39 (kQ w [(2,.i k),(19,.bool A)]),[])) ?_ ?_
  ·rcases wyD a with⟨s,a⟩|⟨s,a⟩
   ·obtain rfl:=si a
    exact tr fol [2] (kQ w [(2,.i k),(19,.bool true)]) (ac (gw s) az)
   obtain rfl:=si a
   exact tr fol [2] (kQ w [(2,.i k),(19,.bool (decide (k<(-200))))]) (ac (gw s) az)
  refine ihB g5 (fun t g5=>?_) (fun t g5=>?_)
  ·refine sh fol (kAL [(7,.i 5)]) ?_
   refine Goes.ret ?_
   obtain rfl:=si g5
   exact Or.inr (⟨rfl,_,rfl,(gw2 [.nilslice,.i 5] (FzW.tuple (kX.cons (FzW.nilv (E:=encI)) (kX.cons (Ua tI) kX.nil))))⟩)
  refine sh fol (kQ w [(2,.i k),(26,.bool (decide (k<0)))]) ?_
  refine ihD g5 (fun u g5=>?_) (fun u g5=>?_)
  ·obtain⟨d,e,g5⟩:=bnd g5
   refine gq fol [1] [(1,.gslice 0 d.length 1),(2,.i (w64 (0-k)))] (kA d) (ac (hs (.callH 73 [vl encI w] [] [] (.gslice 0 d.length 1) (kA d)) (qat [] [some 0] (xx N w e) .nil rfl rfl (.new rfl rfl (.same fa) rfl .nil) (rc (.same (qH encI _)) rn) (.gslice rfl) rfl)) az) ?_
   obtain rfl:=si g5
   exact Or.inl (⟨rfl,_,_,rfl,(Sub.norm [0] [] rfl rfl (.keep (.frz (Fz.gs (E:=encI) rfl rfl (nl rfl)) (qH encI _)) (.keep (.same nI) .nil)) .nil)⟩)
  refine Goes.skip ?_
  obtain rfl:=si g5
  exact Or.inl (⟨rfl,_,_,rfl,(Sub.keep [1,2] rfl rfl)⟩)
 rintro x s' (⟨rfl,p,q,rfl,hsub⟩|⟨rfl,B,rfl,hret⟩)
 ·try dsimp only at h
  refine Goes.sub hsub ?_
  obtain⟨b,f,h⟩:=bnd h
  obtain⟨c,g,h⟩:=bnd h
  refine sq (gq fol [2,3] (kM c.1 c.2 []) (kAr b []) (ac (hs (.callH 74 (kAT p q) [] [] (.slice 0 0 b.length b.length 1) (kA b)) (qat [] [some 0] (vS N p q f) .nil rfl rfl (.new rfl rfl (.same fa) rfl .nil) (rc (.same (qH encI _)) (rc (.same nI) rn)) (.slice rfl) rfl)) (ac (hs (.callF 75 [.slice 0 0 b.length b.length 1] (kA b) [0] [vl encI b] (.tuple (kAT c.1 c.2))) (qeU (FzL.cons (Fz.sl (E:=encI) rfl rfl (nl rfl)) FzL.nil) (vW b g) (Still.tuple (AllST.cons (zx encI _ (nl rfl)) (AllST.cons tI AllST.nil))))) az)) ?_)
  refine Goes.sub (show Sub (ofG 39 (kM c.1 c.2 []),(kAr b [])) (ofG 39 (kM c.1 c.2 []),[])from(Sub.norm [] [] rfl rfl (.keep (.same (qH encI _)) (.keep (.same nI) .nil)) .nil)) ?_
  refine Goes.ret ?_
  obtain rfl:=si h
  exact(gw2 (kAT c.1 c.2) (FzW.tuple (kX.cons (Ua (zx encI _ (nl rfl))) (kX.cons (Ua tI) kX.nil))))
 try dsimp only at h
 obtain rfl:=si h
 exact hret
def zy (a:List Int) (b:List Int):Option (List Int):=
 (app 8 ([]:List Int) a).bind fun c=>
 (app 8 c b).bind fun d=>
 some d
theorem yI (a:List Int) (b:List Int) {res:List Int} (h:zy a b=some res):qa ZT (.fn 48) (kAi a b) [] (vl encI res) []:=by
 unfold zy at h
 refine Ub Tryz.func48 rfl rfl (m:=10) rfl (rs:=[.tmp 4]) rfl (l:=(kH a (kQ b []))) rfl ?_
 refine sh fol (kH a (kQ b [])) ?_
 obtain⟨c,d,h⟩:=bnd h
 obtain⟨e,f,h⟩:=bnd h
 refine sq (gq fol [2,4] [(4,.oslice 2 e.length 1)] (.dead:: .dead::(kA e)) (ac (hs (.run [0] (zh ZT [22,22] (.slice 0 0 0 0 1) (vl encI a)) [.cells []] (.oslice 1 c.length 1) (.dead::(kA c)) true) (vH ja (E:=encI) rfl (qcG (E:=encI) rfl _) (dst_z (E:=encI) rfl rfl rfl d rfl))) (ac (hs (.run [1] (zh ZT [22,22] (.oslice 1 c.length 1) (vl encI b)) (.dead::(kA c)) (.oslice 2 e.length 1) (.dead:: .dead::(kA e)) true) (vH ja (E:=encI) rfl (qcG (E:=encI) rfl _) (qgx (E:=encI) (l:=c) rfl rfl rfl f rfl))) az)) ?_)
 refine Goes.ret ?_
 obtain rfl:=si h
 exact(gw2 [.oslice 2 e.length 1] (FzW.fz (Fz.os (E:=encI) rfl rfl (nl rfl))))
def zn (k:Int) (e:List Int):Nat->(List Int)->Int->Option (List Int)
 |0,_,_=>none
 |K+1,a,b=>
  (jf k).bind fun c=>
  if b<c then
  (app 8 a e).bind fun d=>
  zn k e K d (w64 (b+1))
  else
  some a
def jO (N:Nat) (w:List Int) (k:Int):Option ((List Int)×Bool):=
 if(w.length:Int)=0 then
 some ([],true)
 else
 (if k>200 then
 some true
 else
 if k<(-200)then
 some true
 else
 (jf k).bind fun c=>
 some (decide ((w64 (c*(w.length:Int)))>200)):Option Bool).bind fun d=>
 if d=true then
 some ([],false)
 else
 ((if k<0 then
 (zN N w).bind fun a=>
 some a
 else
 some w:Option (List Int))).bind fun e=>
 (zn k e N ([]:List Int) 0).bind fun b=>
 some (b,true)
theorem qa2 (N:Nat) (w:List Int) (k:Int) {res:(List Int)×Bool} (h:jO N w k=some res):qa ZT (.fn 49) (kAT w k) [] (.tuple [vl encI res.1,.bool res.2]) []:=by
 unfold jO at h
 refine Ub Tryz.func49 rfl rfl (m:=40) rfl (rs:=[.tmp 4,.tmp 5]) rfl (l:=(kH w (kAx k))) rfl ?_
 refine sh fol (kH w (kAx k)) ?_
 refine sh fol (kH w ((1,.i k)::(kAL []))) ?_
 refine sq ?_
 refine sh fol (kH w ((1,.i k)::(kAL (kAq (decide ((w.length:Int)=0)))))) ?_
 refine ihD h (fun z h=>?_) (fun z h=>?_)
 ·refine sh fol (kBM [(5,.bool true)]) ?_
  refine Goes.ret ?_
  obtain rfl:=si h
  exact(gw2 [.nilslice,.bool true] (FzW.tuple (kX.cons (FzW.nilv (E:=encI)) (kX.cons (Ua tB) kX.nil))))
 refine Goes.skip ?_
 refine sq ?_
 refine sq ?_
 obtain⟨A,a,h⟩:=bnd h
 refine Goes.cut (s':=(ofG 40 (kH w ((1,.i k)::(kAL [(25,.bool A)]))),[])) ?_ ?_
 ·rcases wyD a with⟨q,a⟩|⟨q,a⟩
  ·obtain rfl:=si a
   exact tr fol [2] (kH w ((1,.i k)::(kAL [(25,.bool true)]))) (ac (gw q) az)
  rcases wyD a with⟨r,a⟩|⟨r,a⟩
  ·obtain rfl:=si a
   exact tr fol [2,6] (kH w ((1,.i k)::(kAL [(25,.bool true)]))) (ac (gw q) (ac (gw r) az))
  obtain⟨B,o,a⟩:=bnd a
  obtain rfl:=si a
  exact tr fol [2,6,8] (kH w ((1,.i k)::(kAL [(25,.bool (decide ((w64 (B*(w.length:Int)))>200)))]))) (ac (gw q) (ac (gw r) (ac (cv (vO k o)) az)))
 refine ihB h (fun C h=>?_) (fun C h=>?_)
 ·refine sh fol (kBM [(5,.bool false)]) ?_
  refine Goes.ret ?_
  obtain rfl:=si h
  exact(gw2 [.nilslice,.bool false] (FzW.tuple (kX.cons (FzW.nilv (E:=encI)) (kX.cons (Ua tB) kX.nil))))
 refine Goes.skip ?_
 refine sq ?_
 refine sh fol (kH w ((1,.i k)::(kAL [(27,.bool (decide (k<0)))]))) ?_
 obtain⟨D,g9,h⟩:=bnd h
 refine Goes.imp (Q:=fun x s'=>(x= .normal/\ ∃f,f=D/\Sub s' (ofG 40 (kH f ((1,.i k)::(kAL []))),[]))) ?_ ?_
 ·refine ihD g9 (fun t g9=>?_) (fun t g9=>?_)
  ·obtain⟨u,g,g9⟩:=bnd g9
   refine gr fol [1] (kH u ((1,.i k)::(kAL []))) (ac (cv (qax N w g)) az) ?_
   obtain rfl:=si g9
   exact⟨rfl,_,rfl,(Sub.refl _)⟩
  refine Goes.skip ?_
  obtain rfl:=si g9
  exact⟨rfl,_,rfl,(Sub.keep [0,1,6] rfl rfl)⟩
 rintro x s' ⟨rfl,f,rfl,hsub⟩
 refine Goes.sub hsub ?_
 refine sq ?_
 refine sh fol (kH f ((1,.i k)::(kAL kBJ))) ?_
 refine Goes.block ?_
 obtain⟨p,g15,h⟩:=bnd h
 refine Goes.imp (Q:=fun x s'=>(x= .exit 0/\ ∃e,e=p/\Sub s' (ofG 40 [(6,.gslice 0 e.length 1)],(kA e)))) ?_ ?_
 ·refine Goes.sub (s':=(ofG 40 (kH f ((1,.i k)::(6,.gslice 0 ([]:List Int).length 1)::kBJ)),kZ)) (Sub.norm [] [none] rfl rfl (.keep (.same (qH encI _)) (.keep (.same nI) (.keep .nil (.keep (.same nI) .nil)))) (.fresh .nil)) ?_
  refine Uc (fun M s=> ∃(b:List Int) (c:Int),s=(ofG 40 (kH f ((1,.i k)::(6,.gslice 0 b.length 1)::(kBK c))),(kA b))/\zn k f M b c=some p) ?_ (m:=N) ⟨_,_,rfl,g15⟩
  rintro M s ⟨b,c,rfl,g15⟩
  cases M with
  |zero=>simp only[zn]at g15;cases g15
  |succ M=>
   rw[zn]at g15
   refine sq ?_
   obtain⟨v,j,g15⟩:=bnd g15
   refine sq (gr fol [2] (kH f [(1,.i k),(6,.gslice 0 b.length 1),(7,.i c),(33,.bool (decide (c<v)))]) (ac (cv (vO k j)) az) ?_)
   refine ihD g15 (fun y g15=>?_) (fun y g15=>?_)
   ·refine Goes.skip ?_
    refine sq (Goes.block ?_)
    obtain⟨d,n,g15⟩:=bnd g15
    refine gq fol [2] (kH f ((1,.i k)::(kAw d (kBK c)))) (.dead::(kA d)) (ac (hs (.run [0] (zh ZT [22,22] (.gslice 0 b.length 1) (vl encI f)) (kA b) (.gslice 1 d.length 1) (.dead::(kA d)) true) (vH ja (E:=encI) rfl (qcG (E:=encI) rfl _) (qcB (E:=encI) (l:=b) rfl rfl rfl n rfl))) az) ?_
    refine gh fol (kH f ((1,.i k)::(kAw d (kBK (w64 (c+1)))))) ?_
    exact⟨M,(ofG 40 (kH f ((1,.i k)::(6,.gslice 0 d.length 1)::(kBK (w64 (c+1))))),(kA d)),Nat.lt_succ_self _,(Sub.norm [] [some 1] rfl rfl (.keep (.same (qH encI _)) (.keep (.same nI) (.keep (.gslice rfl) (.keep (.same nI) .nil)))) (.ks .nil)),_,_,rfl,g15⟩
   refine Goes.exit ?_
   obtain rfl:=si g15
   exact⟨rfl,_,rfl,(Sub.keep [6] rfl rfl)⟩
 rintro x s' ⟨rfl,e,rfl,hsub⟩
 refine Goes.sub hsub ?_
 refine sh fol (kAE e [(5,.bool true)]) ?_
 refine Goes.ret ?_
 obtain rfl:=si h
 exact(gw2 [.gslice 0 e.length 1,.bool true] (FzW.tuple (kX.cons (FzW.fz (Fz.gs (E:=encI) rfl rfl (nl rfl))) (kX.cons (Ua tB) kX.nil))))
def zA (n:Int) (w:List Int):Nat->(List Int)->Int->Option (List Int)
 |0,_,_=>none
 |K+1,b,a=>
  if a<(w.length:Int)then
  (idx w a).bind fun c=>
  (ji c).bind fun d=>
  (jf c).bind fun e=>
  (app 8 b [w64 (d*(w64 (n-e)))]).bind fun f=>
  zA n w K f (w64 (a+1))
  else
  some b
def j5 (N:Nat) (n:Int) (w:List Int):Option (List Int):=
 (zA n w N ([]:List Int) 0).bind fun a=>
 some a
theorem xC (N:Nat) (n:Int) (w:List Int) {res:List Int} (h:j5 N n w=some res):qa ZT (.fn 50) (kAk n w) [] (vl encI res) []:=by
 unfold j5 at h
 refine Ub Tryz.func50 rfl rfl (m:=30) rfl (rs:=[.tmp 4]) rfl (l:=(kB n w [])) rfl ?_
 refine sh fol (kB n w []) ?_
 refine sh fol (kB n w [(5,.nilslice)]) ?_
 refine sq ?_
 refine sh fol (kB n w [(5,.nilslice),(6,.i 0)]) ?_
 refine Goes.block ?_
 obtain⟨p,g4,h⟩:=bnd h
 refine Goes.imp (Q:=fun x s'=>(x= .exit 0/\ ∃e,e=p/\Sub s' (ofG 30 (kU e []),(kA e)))) ?_ ?_
 ·refine Goes.sub (s':=(ofG 30 (kB n w [(5,.gslice 0 ([]:List Int).length 1),(6,.i 0)]),kZ)) (Sub.norm [] [none] rfl rfl (.keep (.same nI) (.keep (.same (qH encI _)) (.keep .nil (.keep (.same nI) .nil)))) (.fresh .nil)) ?_
  refine Uc (fun M s=> ∃(b:List Int) (c:Int),s=(ofG 30 (kB n w (kU b (kBQ c))),(kA b))/\zA n w M b c=some p) ?_ (m:=N) ⟨_,_,rfl,g4⟩
  rintro M s ⟨b,c,rfl,g4⟩
  cases M with
  |zero=>simp only[zA]at g4;cases g4
  |succ M=>
   rw[zA]at g4
   refine sq ?_
   refine sh fol (kB n w (kU b ((6,.i c)::(kAq (decide (c<(w.length:Int))))))) ?_
   refine ihD g4 (fun r g4=>?_) (fun r g4=>?_)
   ·refine Goes.skip ?_
    refine sq (Goes.block ?_)
    obtain⟨q,a,g4⟩:=bnd g4
    obtain⟨k,f,g4⟩:=bnd g4
    obtain⟨o,g,g4⟩:=bnd g4
    obtain⟨d,j,g4⟩:=bnd g4
    refine gq fol [3,4,5,9,10,11,15] (kB n w ((5,.gslice 2 d.length 1)::(kBQ c))) (kAD (w64 (k*(w64 (n-o)))) (kA d)) (ac (iv ja encI a) (ac (lv 0 ce3 encI a rfl) (ac (cv (qbz q f)) (ac (iv ja encI a) (ac (lv 0 ce3 encI a rfl) (ac (cv (vO q g)) (ac (hs (.run [0,1] (zh ZT [22,22] (.gslice 0 b.length 1) (.slice 1 0 1 1 1)) (kJ b (kAu (w64 (k*(w64 (n-o)))) [])) (.gslice 2 d.length 1) (kAD (w64 (k*(w64 (n-o)))) (kA d)) true) (vH ja (E:=encI) rfl (qdK (E:=encI) (ys:=[w64 (k*(w64 (n-o)))]) rfl rfl rfl rfl) (qcB (E:=encI) (l:=b) rfl rfl rfl j rfl))) az))))))) ?_
    refine gh fol (kB n w ((5,.gslice 2 d.length 1)::(kBQ (w64 (c+1))))) ?_
    exact⟨M,(ofG 30 (kB n w (kU d (kBQ (w64 (c+1))))),(kA d)),Nat.lt_succ_self _,(Sub.norm [] [some 2] rfl rfl (.keep (.same nI) (.keep (.same (qH encI _)) (.keep (.gslice rfl) (.keep (.same nI) .nil)))) (.ks .nil)),_,_,rfl,g4⟩
   refine Goes.exit ?_
   obtain rfl:=si g4
   exact⟨rfl,_,rfl,(Sub.keep [5] rfl rfl)⟩
 rintro x s' ⟨rfl,e,rfl,hsub⟩
 refine Goes.sub hsub ?_
 refine sh fol (kAE e []) ?_
 refine Goes.ret ?_
 obtain rfl:=si h
 exact(gw2 [.gslice 0 e.length 1] (FzW.fz (Fz.gs (E:=encI) rfl rfl (nl rfl))))
end Go.Av
