/-
  Walks of functions: what each computes, as a plain function.
-/
import Derived.Test.YtmffnhniejfgpaaGreatDoorAvJnB5
noncomputable section
namespace Go.Av
open Go.Proofs Go.RowKit
abbrev ZT:=Tryz.prog
set_option linter.unusedSectionVars false
set_option linter.unusedVariables false
set_option linter.unusedSimpArgs false
set_option maxRecDepth 100000
theorem fol:Tryz.prog.follows .mixedOrders=true:=by kernel_rfl
structure qcJ where
 A:List Int
 B:List Int
 K:Int
def qc7:Enc qcJ:=((qbf encI).prod ((qbf encI).prod encI)).comap fun x=>(x.A,x.B,x.K)
instance:SE qc7:=⟨nl rfl⟩
structure FormT where
 Half:Int
 Factors:List (List Int)
def qfS:Enc FormT:=(encI.prod (qbf (qbf encI))).comap fun x=>(x.Half,x.Factors)
instance:SE qfS:=⟨nl rfl⟩
structure qW where
 Kind:Str
 At:Int
 Letter:Int
def qm:Enc qW:=(encS.prod (encI.prod encI)).comap fun x=>(x.Kind,x.At,x.Letter)
instance:SE qm:=⟨nl rfl⟩
abbrev kA (a:List Int):List Blk:=[.cells (a.flatMap encI.c)]
abbrev kB (a:Int) (b:List Int) (x:List (Nat×AV)):List (Nat×AV):=(0,.i a)::(1,vl encI b)::x
abbrev kD (a:List Int) (b:Int) (x:List (Nat×AV)):List (Nat×AV):=(1,vl encI a)::(5,.ptr 0 0)::(8,.ptr 1 0)::(11,.i b)::x
abbrev kE (a:Str) (b:Int) (c:Int) (x:List Blk):List Blk:= .cells [.str a,.i b,.i c]::x
abbrev kF (a:Int) (b:Int) (c:Int) (d:Int) (x:List Blk):List Blk:= .cells [.i a,.i b,.i c,.i d]::x
abbrev kH (a:List Int) (x:List (Nat×AV)):List (Nat×AV):=(0,vl encI a)::x
abbrev kJ (a:List Int) (x:List Blk):List Blk:= .cells (a.flatMap encI.c)::x
abbrev kM (a:List Int) (b:Int) (x:List (Nat×AV)):List (Nat×AV):=(6,vl encI a)::(7,.i b)::x
abbrev kN (a:List Int) (b:Int) (c:Int) (x:List (Nat×AV)):List (Nat×AV):=(7,vl encI a)::(8,.i b)::(9,.i c)::x
abbrev kP (a:List Int) (b:Int) (x:List (Nat×AV)):List (Nat×AV):=(10,vl encI a)::(11,.i b)::x
abbrev kQ (a:List Int) (x:List (Nat×AV)):List (Nat×AV):=(1,vl encI a)::x
abbrev kV (a:Int) (b:Int):List Blk:=[.cells [.i a,.i b]]
abbrev kW (x:List Blk):List Blk:= .cells [.i 0,.nilfunc,.nilfunc]::x
abbrev kX (x:List (Nat×AV)):List (Nat×AV):=(5,.ptr 0 0)::x
abbrev kAA:List (Nat×AV):=[(4,.bool false)]
abbrev kAB (a:Int) (b:List qW) (x:List (Nat×AV)):List (Nat×AV):=(0,.i a)::(2,vl qm b)::(4,.ptr 0 0)::x
abbrev kAL (x:List (Nat×AV)):List (Nat×AV):=(6,.nilslice)::x
abbrev kAM (a:Int) (b:Int) (c:Int):List Blk:=[.cells [.i a,.i b,.i c]]
abbrev kAO (a:List Int) (b:List Int) (x:List (Nat×AV)):List (Nat×AV):=(9,vl encI a)::(10,vl encI b)::x
abbrev kAQ (a:Int) (b:Int) (x:List (Nat×AV)):List (Nat×AV):=(10,.i a)::(11,.i b)::x
abbrev kAT (a:List Int) (b:Int):List AV:=[vl encI a,.i b]
abbrev kAU (a:List Int) (b:List Int) (c:Int) (x:List Blk):List Blk:= .cells [vl encI a,vl encI b,.i c]::x
abbrev kAX (a:Int):List (Nat×AV):=[(4,.i a)]
abbrev kAZ (a:List Int) (x:List (Nat×AV)):List (Nat×AV):=(2,vl encI a)::x
abbrev kAa (a:Bool):List (Nat×AV):=[(4,.bool a)]
abbrev kAb (a:List qW) (x:List (Nat×AV)):List (Nat×AV):=(0,vl qm a)::x
abbrev kAc (a:Int):List (Nat×AV):=[(5,.i a)]
abbrev kAd (a:Int):List AV:=[.nilslice,.i a]
abbrev kAe (a:List Int) (b:Str) (c:Int) (d:Int):List AV:=[vl encI a,.agg [.str b,.i c,.i d]]
abbrev kAf (a:List qW) (x:List (Nat×AV)):List (Nat×AV):=(2,vl qm a)::x
abbrev kAg (a:List qW) (b:Int) (c:Int) (x:List (Nat×AV)):List (Nat×AV):=(17,vl qm a)::(18,.i b)::(19,.i c)::x
abbrev kAh (x:List (Nat×AV)):List (Nat×AV):=(8,.ptr 1 0)::(9,.bool true)::x
abbrev kAi (a:List Int) (b:List Int):List AV:=[vl encI a,vl encI b]
abbrev kAj (a:List Int) (x:List (Nat×AV)):List (Nat×AV):=(8,.ptr 1 0)::(12,vl encI a)::x
abbrev kAk (a:Int) (b:List Int):List AV:=[.i a,vl encI b]
abbrev kAl (a:Int) (b:Int) (x:List (Nat×AV)):List (Nat×AV):=(8,.i a)::(9,.i b)::x
abbrev kAp (a:Bool):List (Nat×AV):=[(8,.bool a)]
abbrev kAq (a:Bool):List (Nat×AV):=[(10,.bool a)]
abbrev kAs (x:List (Nat×AV)):List (Nat×AV):=(3,.nilslice)::x
abbrev kAt (a:Int) (b:Int) (x:List (Nat×AV)):List (Nat×AV):=(1,.i a)::(2,.i b)::x
abbrev kAu (a:Int) (x:List Blk):List Blk:= .cells [.i a]::x
abbrev kAx (a:Int):List (Nat×AV):=[(1,.i a)]
abbrev kAy (a:Int):List (Nat×AV):=[(3,.i a)]
abbrev kAz:List AV:=[.str [105,110,115,101,114,116],.str [99,97,110,99,101,108],.str [115,119,97,112],.str [116,117,114,110]]
abbrev kA0 (a:Int) (b:Int) (x:List (Nat×AV)):List (Nat×AV):=(12,.i a)::(13,.i b)::x
abbrev kA2 (a:Int):List (Nat×AV):=[(8,.i a)]
abbrev kA4:List (Nat×AV):=[(4,.bool true)]
abbrev kA6:List (Nat×AV):=[(8,.bool false)]
abbrev kA8 (x:List (Nat×AV)):List (Nat×AV):=(4,.ptr 0 0)::x
abbrev kA9:List (Nat×AV):=[(4,.i 0)]
abbrev kBB (a:List Int) (x:List (Nat×AV)):List (Nat×AV):=(6,vl encI a)::x
abbrev kBC (a:Bool):List (Nat×AV):=[(11,.bool a)]
abbrev kBF (a:Int):List (Nat×AV):=[(10,.i a)]
abbrev kBG (a:Bool):List (Nat×AV):=[(6,.bool a)]
abbrev kBJ:List (Nat×AV):=[(7,.i 0)]
abbrev kBK (a:Int):List (Nat×AV):=[(7,.i a)]
abbrev kBL (a:Bool):List (Nat×AV):=[(14,.bool a)]
abbrev kBM (x:List (Nat×AV)):List (Nat×AV):=(4,.nilslice)::x
abbrev kBN (a:List qW):List Blk:=[.cells (a.flatMap qm.c)]
abbrev kBO:List (Nat×AV):=[(5,.i 0)]
abbrev kBP:List AV:=[.nilslice,.i 18]
abbrev kBQ (a:Int):List (Nat×AV):=[(6,.i a)]
abbrev kBT (a:Int):List (Nat×AV):=[(0,.i a)]
abbrev kBU (x:List (Nat×AV)):List (Nat×AV):=(3,.ptr 0 0)::x
theorem ja:SlT ZT 22 3 1 8:=⟨by kernel_rfl,by kernel_rfl,by kernel_rfl,by kernel_rfl⟩
theorem ce3:CeT ZT 3:=⟨by kernel_rfl,by kernel_rfl⟩
theorem sl153:SlT ZT 153 30 1 8:=⟨by kernel_rfl,by kernel_rfl,by kernel_rfl,by kernel_rfl⟩
theorem ce30:CeT ZT 30:=⟨by kernel_rfl,by kernel_rfl⟩
theorem sl55:SlT ZT 55 112 3 32:=⟨by kernel_rfl,by kernel_rfl,by kernel_rfl,by kernel_rfl⟩
theorem ce9:CeT ZT 9:=⟨by kernel_rfl,by kernel_rfl⟩
theorem sl53:SlT ZT 53 84 3 32:=⟨by kernel_rfl,by kernel_rfl,by kernel_rfl,by kernel_rfl⟩
theorem ag84:AgT ZT 84 3:=⟨by kernel_rfl,by kernel_rfl⟩
theorem qcO:MapT ZT 213 9 211 (.agg [.i 0,.nilfunc,.nilfunc]):=⟨by kernel_rfl,by kernel_rfl,by kernel_rfl⟩
theorem ag112:AgT ZT 112 3:=⟨by kernel_rfl,by kernel_rfl⟩
abbrev fm1:AV:= .fmap kAz [.agg [.i 0,.func (.func 209) [] [],.func (.func 210) [] []],.agg [.i 2,.func (.func 211) [] [],.func (.func 212) [] []],.agg [.i 2,.func (.func 213) [] [],.func (.func 214) [] []],.agg [.i 3,.func (.func 215) [] [],.func (.func 216) [] []]]
instance:SC 12 fm1:=⟨Still.fmap SX.h (AllST.cons SC.h (AllST.cons SC.h (AllST.cons SC.h (AllST.cons SC.h AllST.nil))))⟩
def qQ (a:List Int) (b:List Int):Nat->Int->Option (Unit⊕Bool)
 |0,_=>none
 |K+1,c=>
  if c<(a.length:Int)then
  (idx a c).bind fun d=>
  (idx b c).bind fun e=>
  if(!decide (d=e))=true then
  some (.inr false)
  else
  qQ a b K (w64 (c+1))
  else
  some (.inl ())
def zx (N:Nat) (a:List Int) (b:List Int):Option Bool:=
 if(!decide ((a.length:Int)=(b.length:Int)))=true then
 some false
 else
 (qQ a b N 0).bind (fun
 |(.inl ())=>
 some true
 |(.inr c)=>
 some c)
theorem yh (N:Nat) (a:List Int) (b:List Int) {res:Bool} (h:zx N a b=some res):qf ZT (.fn 32) (kAi a b) [] (.bool res) []:=by
 unfold zx at h
 refine Uc Tryz.func32 rfl rfl (m:=26) rfl (rs:=[.tmp 4]) rfl (l:=(kH a (kQ b []))) rfl ?_
 refine sh fol (kH a (kQ b [])) ?_
 refine sq ?_
 refine sh fol (kH a (kQ b (kAq (!decide ((a.length:Int)=(b.length:Int)))))) ?_
 refine ihB h (fun j h=>?_) (fun j h=>?_)
 ·refine sh fol kAA ?_
  refine Goes.ret ?_
  obtain rfl:=si h
  exact(gw2 [.bool false] (Ua tB))
 refine Goes.skip ?_
 refine sq ?_
 refine sh fol (kH a (kQ b kBO)) ?_
 refine Goes.block ?_
 obtain⟨f,g3,h⟩:=bnd h
 refine Goes.imp (Q:=fun x s'=>(x= .exit 0/\(.inl ())=f/\Sub s' (ofG 26 [],[]))\/(x= .ret/\ ∃g,(.inr g)=f/\zP ZT [.tmp 4] (.bool g) .ret s')) ?_ ?_
 ·refine Ue (fun M s=> ∃(c:Int),s=(ofG 26 (kH a (kQ b (kAc c))),[])/\qQ a b M c=some f) ?_ (m:=N) ⟨_,rfl,g3⟩
  rintro M s ⟨c,rfl,g3⟩
  cases M with
  |zero=>simp only[qQ]at g3;cases g3
  |succ M=>
   rw[qQ]at g3
   refine sq ?_
   refine sh fol (kH a (kQ b ((5,.i c)::(kBL (decide (c<(a.length:Int))))))) ?_
   refine ihD g3 (fun k g3=>?_) (fun k g3=>?_)
   ·refine Goes.skip ?_
    refine sq (Goes.block ?_)
    obtain⟨n,d,g3⟩:=bnd g3
    obtain⟨o,e,g3⟩:=bnd g3
    refine sq (gr fol [2,3,6,7] (kH a (kQ b [(5,.i c),(25,.bool (!decide (n=o)))])) (ac (iv ja encI d) (ac (lv 0 ce3 encI d rfl) (ac (iv ja encI e) (ac (lv 0 ce3 encI e rfl) az)))) ?_)
    refine ihB g3 (fun p g3=>?_) (fun p g3=>?_)
    ·refine sh fol kAA ?_
     refine Goes.ret ?_
     obtain rfl:=si g3
     exact Or.inr (⟨rfl,_,rfl,(gw2 [.bool false] (Ua tB))⟩)
    refine Goes.skip ?_
    refine gh fol (kH a (kQ b (kAc (w64 (c+1))))) ?_
    exact⟨M,(ofG 26 (kH a (kQ b (kAc (w64 (c+1))))),[]),Nat.lt_succ_self _,(Sub.refl _),_,rfl,g3⟩
   refine Goes.exit ?_
   obtain rfl:=si g3
   exact Or.inl (⟨rfl,rfl,(Sub.keep [] rfl rfl)⟩)
 rintro x s' (⟨rfl,rfl,hsub⟩|⟨rfl,q,rfl,hret⟩)
 ·try dsimp only at h
  refine Goes.sub hsub ?_
  refine sh fol kA4 ?_
  refine Goes.ret ?_
  obtain rfl:=si h
  exact(gw2 [.bool true] (Ua tB))
 try dsimp only at h
 obtain rfl:=si h
 exact hret
def jI (N:Nat) (a:List Int) (e:Int) (bad:Int) (want:List Int):Option Bool:=
 if(!decide (bad=0))=true then
 (if(a.length:Int)=0 then
 some (decide (e=bad))
 else
 some false:Option Bool).bind fun b=>
 some b
 else
 (if e=0 then
 (zx N a want).bind fun c=>
 some c
 else
 some false:Option Bool).bind fun d=>
 some d
theorem qaa (N:Nat) (a:List Int) (e:Int) (bad:Int) (want:List Int) {res:Bool} (h:jI N a e bad want=some res):qf ZT (.fn 13) (vl encI a:: .i e::(kAk bad want)) [] (.bool res) []:=by
 unfold jI at h
 refine Uc Tryz.func13 rfl rfl (m:=26) rfl (rs:=[.tmp 8]) rfl (l:=(kH a (kAt e bad [(3,vl encI want)]))) rfl ?_
 refine sh fol (kH a (kAt e bad [(3,vl encI want)])) ?_
 refine sq ?_
 refine sh fol (kH a (kAt e bad ((3,vl encI want)::(kAq (!decide (bad=0)))))) ?_
 refine ihB h (fun n h=>?_) (fun n h=>?_)
 ·refine sq ?_
  obtain⟨j,c,h⟩:=bnd h
  refine Goes.cut (s':=(ofG 26 (kAp j),[])) ?_ ?_
  ·rcases wyD c with⟨f,c⟩|⟨f,c⟩
   ·obtain rfl:=si c
    exact tr fol [3] (kAp (decide (e=bad))) (ac (gw f) az)
   obtain rfl:=si c
   exact tr fol [3] kA6 (ac (gw f) az)
  refine Goes.ret ?_
  obtain rfl:=si h
  exact(gw2 [.bool j] (Ua tB))
 refine Goes.skip ?_
 refine sq ?_
 obtain⟨k,b,h⟩:=bnd h
 refine Goes.cut (s':=(ofG 26 (kAp k),[])) ?_ ?_
 ·rcases wyD b with⟨g,b⟩|⟨g,b⟩
  ·obtain⟨o,d,b⟩:=bnd b
   obtain rfl:=si b
   exact tr fol [2,5] (kAp o) (ac (gw g) (ac (cv (yh N a want d)) az))
  obtain rfl:=si b
  exact tr fol [2] kA6 (ac (gw g) az)
 refine Goes.ret ?_
 obtain rfl:=si h
 exact(gw2 [.bool k] (Ua tB))
def jo (n:Int) (c:Int):Option Bool:=
 (if(!decide (c=0))=true then
 if c>(w64 (0-n))then
 some (decide (c<n))
 else
 some false
 else
 some false:Option Bool).bind fun a=>
 some a
theorem jC (n:Int) (c:Int) {res:Bool} (h:jo n c=some res):qf ZT (.fn 78) [.i n,.i c] [] (.bool res) []:=by
 unfold jo at h
 refine Uc Tryz.func78 rfl rfl (m:=18) rfl (rs:=[.tmp 4]) rfl (l:=((0,.i n)::(kAx c))) rfl ?_
 refine sh fol ((0,.i n)::(kAx c)) ?_
 refine sq ?_
 obtain⟨e,a,h⟩:=bnd h
 refine Goes.cut (s':=(ofG 18 (kAa e),[])) ?_ ?_
 ·rcases wyB a with⟨b,a⟩|⟨b,a⟩
  ·rcases wyD a with⟨d,a⟩|⟨d,a⟩
   ·obtain rfl:=si a
    exact tr fol [2,8] (kAa (decide (c<n))) (ac (gw b) (ac (gw d) az))
   obtain rfl:=si a
   exact tr fol [2,8] kAA (ac (gw b) (ac (gw d) az))
  obtain rfl:=si a
  exact tr fol [2] kAA (ac (gw b) az)
 refine Goes.ret ?_
 obtain rfl:=si h
 exact(gw2 [.bool e] (Ua tB))
def kw (n:Int) (w:List Int):Nat->Int->Option (Unit⊕Int)
 |0,_=>none
 |K+1,a=>
  if a<(w.length:Int)then
  (idx w a).bind fun b=>
  (jo n b).bind fun c=>
  if(!c)=true then
  some (.inr 3)
  else
  kw n w K (w64 (a+1))
  else
  some (.inl ())
def zz (N:Nat) (n:Int) (w:List Int):Option Int:=
 (if n<1 then
 some true
 else
 some (decide (n>12)):Option Bool).bind fun b=>
 if b=true then
 some 3
 else
 if(w.length:Int)>200 then
 some 5
 else
 (kw n w N 0).bind (fun
 |(.inl ())=>
 some 0
 |(.inr a)=>
 some a)
theorem vY (N:Nat) (n:Int) (w:List Int) {res:Int} (h:zz N n w=some res):qf ZT (.fn 20) (kAk n w) [] (.i res) []:=by
 unfold zz at h
 refine Uc Tryz.func20 rfl rfl (m:=28) rfl (rs:=[.tmp 4]) rfl (l:=(kB n w [])) rfl ?_
 refine sh fol (kB n w []) ?_
 refine sq ?_
 refine sq ?_
 obtain⟨p,a,h⟩:=bnd h
 refine Goes.cut (s':=(ofG 28 (kB n w (kBC p)),[])) ?_ ?_
 ·rcases wyD a with⟨e,a⟩|⟨e,a⟩
  ·obtain rfl:=si a
   exact tr fol [2] (kB n w [(11,.bool true)]) (ac (gw e) az)
  obtain rfl:=si a
  exact tr fol [2] (kB n w (kBC (decide (n>12)))) (ac (gw e) az)
 refine ihB h (fun q h=>?_) (fun q h=>?_)
 ·refine sh fol [(4,.i 3)] ?_
  refine Goes.ret ?_
  obtain rfl:=si h
  exact(gw2 [.i 3] (Ua tI))
 refine Goes.skip ?_
 refine sq ?_
 refine sh fol (kB n w (kBL (decide ((w.length:Int)>200)))) ?_
 refine ihD h (fun r h=>?_) (fun r h=>?_)
 ·refine sh fol [(4,.i 5)] ?_
  refine Goes.ret ?_
  obtain rfl:=si h
  exact(gw2 [.i 5] (Ua tI))
 refine Goes.skip ?_
 refine sq ?_
 refine sh fol (kB n w kBO) ?_
 refine Goes.block ?_
 obtain⟨f,g7,h⟩:=bnd h
 refine Goes.imp (Q:=fun x s'=>(x= .exit 0/\(.inl ())=f/\Sub s' (ofG 28 [],[]))\/(x= .ret/\ ∃o,(.inr o)=f/\zP ZT [.tmp 4] (.i o) .ret s')) ?_ ?_
 ·refine Ue (fun M s=> ∃(c:Int),s=(ofG 28 (kB n w (kAc c)),[])/\kw n w M c=some f) ?_ (m:=N) ⟨_,rfl,g7⟩
  rintro M s ⟨c,rfl,g7⟩
  cases M with
  |zero=>simp only[kw]at g7;cases g7
  |succ M=>
   rw[kw]at g7
   refine sq ?_
   refine sh fol (kB n w [(5,.i c),(18,.bool (decide (c<(w.length:Int))))]) ?_
   refine ihD g7 (fun t g7=>?_) (fun t g7=>?_)
   ·refine Goes.skip ?_
    refine sq (Goes.block ?_)
    obtain⟨g,b,g7⟩:=bnd g7
    obtain⟨j,d,g7⟩:=bnd g7
    refine sq (gr fol [3,4,5] (kB n w [(5,.i c),(27,.bool (!j))]) (ac (iv ja encI b) (ac (lv 0 ce3 encI b rfl) (ac (cv (jC n g d)) az))) ?_)
    refine ihB g7 (fun k g7=>?_) (fun k g7=>?_)
    ·refine sh fol [(4,.i 3)] ?_
     refine Goes.ret ?_
     obtain rfl:=si g7
     exact Or.inr (⟨rfl,_,rfl,(gw2 [.i 3] (Ua tI))⟩)
    refine Goes.skip ?_
    refine gh fol (kB n w (kAc (w64 (c+1)))) ?_
    exact⟨M,(ofG 28 (kB n w (kAc (w64 (c+1)))),[]),Nat.lt_succ_self _,(Sub.refl _),_,rfl,g7⟩
   refine Goes.exit ?_
   obtain rfl:=si g7
   exact Or.inl (⟨rfl,rfl,(Sub.keep [] rfl rfl)⟩)
 rintro x s' (⟨rfl,rfl,hsub⟩|⟨rfl,u,rfl,hret⟩)
 ·try dsimp only at h
  refine Goes.sub hsub ?_
  refine sh fol kA9 ?_
  refine Goes.ret ?_
  obtain rfl:=si h
  exact(gw2 [.i 0] (Ua tI))
 try dsimp only at h
 obtain rfl:=si h
 exact hret
def qY (l:List Int):Nat->Int->Option (Unit⊕Int)
 |0,_=>none
 |K+1,a=>
  if a<(l.length:Int)then
  (idx l a).bind fun b=>
  if(!decide (b=0))=true then
  some (.inr b)
  else
  qY l K (w64 (a+1))
  else
  some (.inl ())
def qd (N:Nat) (l:List Int):Option Int:=
 (qY l N 0).bind (fun
 |(.inl ())=>
 some 0
 |(.inr a)=>
 some a)
theorem qc (N:Nat) (l:List Int) {res:Int} (h:qd N l=some res):qf ZT (.fn 60) [vl encI l] [] (.i res) []:=by
 unfold qd at h
 refine Uc Tryz.func60 rfl rfl (m:=15) rfl (rs:=[.tmp 2]) rfl (l:=(kH l [])) rfl ?_
 refine sh fol (kH l []) ?_
 refine sq ?_
 refine sh fol ((5,vl encI l)::(6,.i (l.length:Int))::kBJ) ?_
 refine Goes.block ?_
 obtain⟨d,g2,h⟩:=bnd h
 refine Goes.imp (Q:=fun x s'=>(x= .exit 0/\(.inl ())=d/\Sub s' (ofG 15 [],[]))\/(x= .ret/\ ∃e,(.inr e)=d/\zP ZT [.tmp 2] (.i e) .ret s')) ?_ ?_
 ·refine Ue (fun M s=> ∃(a:Int),s=(ofG 15 ((5,vl encI l)::(6,.i (l.length:Int))::(kBK a)),[])/\qY l M a=some d) ?_ (m:=N) ⟨_,rfl,g2⟩
  rintro M s ⟨a,rfl,g2⟩
  cases M with
  |zero=>simp only[qY]at g2;cases g2
  |succ M=>
   rw[qY]at g2
   refine sh fol ((5,vl encI l)::(6,.i (l.length:Int))::(7,.i a)::(kAp (decide (a<(l.length:Int))))) ?_
   refine sq ?_
   refine ihD g2 (fun f g2=>?_) (fun f g2=>?_)
   ·refine Goes.skip ?_
    refine sq (Goes.block ?_)
    obtain⟨c,b,g2⟩:=bnd g2
    refine sq (gr fol [0,1] ((4,.i c)::(5,vl encI l)::(6,.i (l.length:Int))::(kBK a)) (ac (iv sl153 encI b) (ac (lv 0 ce30 encI b rfl) az)) ?_)
    refine sh fol [(4,.i c),(5,vl encI l),(6,.i (l.length:Int)),(7,.i a),(12,.bool (!decide (c=0)))] ?_
    refine ihB g2 (fun g g2=>?_) (fun g g2=>?_)
    ·refine sh fol [(2,.i c)] ?_
     refine Goes.ret ?_
     obtain rfl:=si g2
     exact Or.inr (⟨rfl,_,rfl,(gw2 [.i c] (Ua tI))⟩)
    refine Goes.skip ?_
    refine gh fol ((5,vl encI l)::(6,.i (l.length:Int))::(kBK (w64 (a+1)))) ?_
    exact⟨M,(ofG 15 ((5,vl encI l)::(6,.i (l.length:Int))::(kBK (w64 (a+1)))),[]),Nat.lt_succ_self _,(Sub.refl _),_,rfl,g2⟩
   refine Goes.exit ?_
   obtain rfl:=si g2
   exact Or.inl (⟨rfl,rfl,(Sub.keep [] rfl rfl)⟩)
 rintro x s' (⟨rfl,rfl,hsub⟩|⟨rfl,j,rfl,hret⟩)
 ·try dsimp only at h
  refine Goes.sub hsub ?_
  refine sh fol [(2,.i 0)] ?_
  refine Goes.ret ?_
  obtain rfl:=si h
  exact(gw2 [.i 0] (Ua tI))
 try dsimp only at h
 obtain rfl:=si h
 exact hret
def qb (holds:Bool) (e:Int):Option Int:=
 if holds=true then
 some e
 else
 some 0
theorem qa (holds:Bool) (e:Int) {res:Int} (h:qb holds e=some res):qf ZT (.fn 67) [.bool holds,.i e] [] (.i res) []:=by
 unfold qb at h
 refine Uc Tryz.func67 rfl rfl (m:=7) rfl (rs:=[.tmp 4]) rfl (l:=((0,.bool holds)::(kAx e))) rfl ?_
 refine sh fol ((0,.bool holds)::(kAx e)) ?_
 refine sq ?_
 refine sh fol [(1,.i e),(5,.bool holds)] ?_
 refine ihB h (fun a h=>?_) (fun a h=>?_)
 ·refine sh fol (kAX e) ?_
  refine Goes.ret ?_
  obtain rfl:=si h
  exact(gw2 [.i e] (Ua tI))
 refine Goes.skip ?_
 refine sh fol kA9 ?_
 refine Goes.ret ?_
 obtain rfl:=si h
 exact(gw2 [.i 0] (Ua tI))
def zJ (n:Int):Option Int:=
 (if n<1 then
 (qb true 3).bind fun a=>
 some a
 else
 (qb (decide (n>12)) 3).bind fun b=>
 some b:Option Int).bind fun c=>
 some c
theorem yY (n:Int) {res:Int} (h:zJ n=some res):qf ZT (.fn 61) [.i n] [] (.i res) []:=by
 unfold zJ at h
 refine Uc Tryz.func61 rfl rfl (m:=10) rfl (rs:=[.tmp 2]) rfl (l:=(kBT n)) rfl ?_
 refine sh fol (kBT n) ?_
 refine sq ?_
 obtain⟨e,a,h⟩:=bnd h
 refine Goes.cut (s':=(ofG 10 [(2,.i e)],[])) ?_ ?_
 ·rcases wyD a with⟨d,a⟩|⟨d,a⟩
  ·obtain⟨f,b,a⟩:=bnd a
   obtain rfl:=si a
   exact tr fol [2,6] [(2,.i f)] (ac (gw d) (ac (cv (qa true 3 b)) az))
  obtain⟨g,c,a⟩:=bnd a
  obtain rfl:=si a
  exact tr fol [2,6] [(2,.i g)] (ac (gw d) (ac (cv (qa (decide (n>12)) 3 c)) az))
 refine Goes.ret ?_
 obtain rfl:=si h
 exact(gw2 [.i e] (Ua tI))
def qF (n:Int) (letter:Int):Option Bool:=
 (if letter=0 then
 some true
 else
 if letter<=(w64 (0-n))then
 some true
 else
 some (decide (letter>=n)):Option Bool).bind fun a=>
 some a
theorem qj (n:Int) (letter:Int) {res:Bool} (h:qF n letter=some res):qf ZT (.fn 92) [.i n,.i letter] [] (.bool res) []:=by
 unfold qF at h
 refine Uc Tryz.func92 rfl rfl (m:=18) rfl (rs:=[.tmp 4]) rfl (l:=((0,.i n)::(kAx letter))) rfl ?_
 refine sh fol ((0,.i n)::(kAx letter)) ?_
 refine sq ?_
 obtain⟨d,a,h⟩:=bnd h
 refine Goes.cut (s':=(ofG 18 (kAa d),[])) ?_ ?_
 ·rcases wyD a with⟨b,a⟩|⟨b,a⟩
  ·obtain rfl:=si a
   exact tr fol [2] kA4 (ac (gw b) az)
  rcases wyD a with⟨c,a⟩|⟨c,a⟩
  ·obtain rfl:=si a
   exact tr fol [2,8] kA4 (ac (gw b) (ac (gw c) az))
  obtain rfl:=si a
  exact tr fol [2,8] (kAa (decide (letter>=n))) (ac (gw b) (ac (gw c) az))
 refine Goes.ret ?_
 obtain rfl:=si h
 exact(gw2 [.bool d] (Ua tB))
def zy (a:Int) (b:Int):Option Bool:=
 (qF b a).bind fun c=>
 some c
theorem yj (a:Int) (b:Int) {res:Bool} (h:zy a b=some res):qf ZT (.fn 91) [.i a,.fptr [.i b] 0] [] (.bool res) []:=by
 unfold zy at h
 refine Uc Tryz.func91 rfl rfl (m:=7) rfl (rs:=[.tmp 3]) rfl (l:=[(0,.i a),(1,.fptr [.i b] 0)]) rfl ?_
 refine sh fol [(0,.i a),(1,.fptr [.i b] 0)] ?_
 obtain⟨d,c,h⟩:=bnd h
 refine sq (gr fol [2] [(3,.bool d)] (ac (cv (qj b a c)) az) ?_)
 refine Goes.ret ?_
 obtain rfl:=si h
 exact(gw2 [.bool d] (Ua tB))
def qx (a:List Int) (b:Int):Nat->Int->Option (Unit⊕Int)
 |0,_=>none
 |K+1,c=>
  if c<(a.length:Int)then
  (idx a c).bind fun d=>
  (zy d b).bind fun e=>
  if e=true then
  some (.inr c)
  else
  qx a b K (w64 (c+1))
  else
  some (.inl ())
def zg (N:Nat) (a:List Int) (b:Int):Option Int:=
 (qx a b N 0).bind (fun
 |(.inl ())=>
 some (-1)
 |(.inr c)=>
 some c)
theorem vW (N:Nat) (a:List Int) (b:Int) {res:Int} (h:zg N a b=some res):qf ZT (.fn 143) [vl encI a,.func (.func 91) [] [.fptr [.i b] 0]] [] (.i res) []:=by
 unfold zg at h
 refine Uc Tryz.func143 rfl rfl (m:=19) rfl (rs:=[.tmp 4]) rfl (l:=(kH a [(1,.func (.func 91) [] [.fptr [.i b] 0])])) rfl ?_
 refine sh fol (kH a [(1,.func (.func 91) [] [.fptr [.i b] 0])]) ?_
 refine sq ?_
 refine sh fol (kH a [(1,.func (.func 91) [] [.fptr [.i b] 0]),(7,.i (a.length:Int)),(8,.i 0)]) ?_
 refine Goes.block ?_
 obtain⟨f,g2,h⟩:=bnd h
 refine Goes.imp (Q:=fun x s'=>(x= .exit 0/\(.inl ())=f/\Sub s' (ofG 19 [],[]))\/(x= .ret/\ ∃j,(.inr j)=f/\zP ZT [.tmp 4] (.i j) .ret s')) ?_ ?_
 ·refine Ue (fun M s=> ∃(c:Int),s=(ofG 19 (kH a ((1,.func (.func 91) [] [.fptr [.i b] 0])::(7,.i (a.length:Int))::(kA2 c))),[])/\qx a b M c=some f) ?_ (m:=N) ⟨_,rfl,g2⟩
  rintro M s ⟨c,rfl,g2⟩
  cases M with
  |zero=>simp only[qx]at g2;cases g2
  |succ M=>
   rw[qx]at g2
   refine sh fol (kH a [(1,.func (.func 91) [] [.fptr [.i b] 0]),(7,.i (a.length:Int)),(8,.i c),(9,.bool (decide (c<(a.length:Int))))]) ?_
   refine sq ?_
   refine ihD g2 (fun n g2=>?_) (fun n g2=>?_)
   ·refine Goes.skip ?_
    refine sq (Goes.block ?_)
    refine sh fol (kH a ((1,.func (.func 91) [] [.fptr [.i b] 0])::(5,.i c)::(7,.i (a.length:Int))::(kA2 c))) ?_
    obtain⟨g,d,g2⟩:=bnd g2
    obtain⟨k,e,g2⟩:=bnd g2
    refine sq (gr fol [3,4,5] (kH a [(1,.func (.func 91) [] [.fptr [.i b] 0]),(5,.i c),(7,.i (a.length:Int)),(8,.i c),(16,.bool k)]) (ac (iv ja encI d) (ac (lv 0 ce3 encI d rfl) (ac (hs (.call 91 [.i g,.fptr [.i b] 0] [] [] [.i g,.fptr [.i b] 0] (.bool k)) (qfH (FzL.cons (Up tI) (FzL.cons (Up (Still.fptr (AllST.cons tI AllST.nil))) FzL.nil)) (yj g b e) tB)) az))) ?_)
    refine ihB g2 (fun o g2=>?_) (fun o g2=>?_)
    ·refine sh fol (kAX c) ?_
     refine Goes.ret ?_
     obtain rfl:=si g2
     exact Or.inr (⟨rfl,_,rfl,(gw2 [.i c] (Ua tI))⟩)
    refine Goes.skip ?_
    refine gh fol (kH a ((1,.func (.func 91) [] [.fptr [.i b] 0])::(7,.i (a.length:Int))::(kA2 (w64 (c+1))))) ?_
    exact⟨M,(ofG 19 (kH a ((1,.func (.func 91) [] [.fptr [.i b] 0])::(7,.i (a.length:Int))::(kA2 (w64 (c+1))))),[]),Nat.lt_succ_self _,(Sub.refl _),_,rfl,g2⟩
   refine Goes.exit ?_
   obtain rfl:=si g2
   exact Or.inl (⟨rfl,rfl,(Sub.keep [] rfl rfl)⟩)
 rintro x s' (⟨rfl,rfl,hsub⟩|⟨rfl,p,rfl,hret⟩)
 ·try dsimp only at h
  refine Goes.sub hsub ?_
  refine sh fol [(4,.i (-1))] ?_
  refine Goes.ret ?_
  obtain rfl:=si h
  exact(gw2 [.i (-1)] (Ua tI))
 try dsimp only at h
 obtain rfl:=si h
 exact hret
def kK (N:Nat) (a:List Int) (b:Int):Option Bool:=
 (zg N a b).bind fun c=>
 some (decide (c>=0))
theorem j5 (N:Nat) (a:List Int) (b:Int) {res:Bool} (h:kK N a b=some res):qf ZT (.fn 90) [vl encI a,.func (.func 91) [] [.fptr [.i b] 0]] [] (.bool res) []:=by
 unfold kK at h
 refine Uc Tryz.func90 rfl rfl (m:=9) rfl (rs:=[.tmp 4]) rfl (l:=(kH a [(1,.func (.func 91) [] [.fptr [.i b] 0])])) rfl ?_
 refine sh fol (kH a [(1,.func (.func 91) [] [.fptr [.i b] 0])]) ?_
 obtain⟨d,c,h⟩:=bnd h
 refine sq (gr fol [2] (kAa (decide (d>=0))) (ac (hs (.call 143 [vl encI a,.func (.func 91) [] [.fptr [.i b] 0]] [] [] [vl encI a,.func (.func 91) [] [.fptr [.i b] 0]] (.i d)) (qfH (FzL.cons (Up (zN encI _ (nl rfl))) (FzL.cons (Fz.func FzL.nil (FzL.cons (Up (Still.fptr (AllST.cons tI AllST.nil))) FzL.nil)) FzL.nil)) (vW N a b c) tI)) az) ?_)
 refine Goes.ret ?_
 obtain rfl:=si h
 exact(gw2 [.bool (decide (d>=0))] (Ua tB))
def zl (N:Nat) (n:Int) (w:List Int):Option Int:=
 (zJ n).bind fun b=>
 (qb (decide ((w.length:Int)>200)) 5).bind fun c=>
 (qd N ([b,c]:List Int)).bind fun a=>
 if(!decide (a=0))=true then
 some a
 else
 (kK N w n).bind fun d=>
 (qb d 3).bind fun e=>
 some e
theorem jM (N:Nat) (n:Int) (w:List Int) {res:Int} (h:zl N n w=some res):qf ZT (.fn 33) (kAk n w) [] (.i res) []:=by
 unfold zl at h
 refine Uc Tryz.func33 rfl rfl (m:=21) rfl (rs:=[.tmp 4]) rfl (l:=(kB n w [])) rfl ?_
 refine sg fol (kQ w [(2,.ptr 0 0)]) (kAu n []) ?_
 refine sq ?_
 obtain⟨b,c,h⟩:=bnd h
 obtain⟨d,e,h⟩:=bnd h
 obtain⟨a,f,h⟩:=bnd h
 refine sq (gq fol [1,5,7] (kQ w ((2,.ptr 0 0)::(kAc a))) (kAu n (kV b d)) (ac (cv (yY n c)) (ac (cv (qa (decide ((w.length:Int)>200)) 5 e)) (ac (hs (.call 60 [.slice 1 0 2 2 1] (kAu n (kV b d)) [1] [vl encI ([b,d]:List Int)] (.i a)) (qD (FzL.cons (Fz.lit rfl rfl (Ub (AllST.cons tI (AllST.cons tI AllST.nil)))) FzL.nil) (qc N ([b,d]:List Int) f) tI rfl)) az))) ?_)
 refine sh fol (kQ w [(2,.ptr 0 0),(5,.i a),(15,.bool (!decide (a=0)))]) ?_
 refine ihB h (fun p h=>?_) (fun p h=>?_)
 ·refine sh fol (kAX a) ?_
  refine Goes.ret ?_
  obtain rfl:=si h
  exact(gw2 [.i a] (Ua tI))
 refine Goes.skip ?_
 obtain⟨k,g,h⟩:=bnd h
 obtain⟨o,j,h⟩:=bnd h
 refine sq (gr fol [2,3] (kAX o) (ac (hs (.call 90 [vl encI w,.func (.func 91) [] [.ptr 0 0]] (kAu n (kV b d)) [0] [vl encI w,.func (.func 91) [] [.fptr [.i n] 0]] (.bool k)) (qD (FzL.cons (Up (zN encI _ (nl rfl))) (FzL.cons (Fz.func FzL.nil (FzL.cons (Fz.ptr rfl rfl (FzL.cons (Up tI) FzL.nil)) FzL.nil)) FzL.nil)) (j5 N w n g) tB rfl)) (ac (cv (qa k 3 j)) az)) ?_)
 refine Goes.ret ?_
 obtain rfl:=si h
 exact(gw2 [.i o] (Ua tI))
def zf (n:Int):Option Int:=
 some (if(w64 (0-n))>n then(w64 (0-n))else n)
theorem qp (n:Int) {res:Int} (h:zf n=some res):qf ZT (.fn 68) [.i n] [] (.i res) []:=by
 unfold zf at h
 refine Uc Tryz.func68 rfl rfl (m:=7) rfl (rs:=[.tmp 2]) rfl (l:=(kBT n)) rfl ?_
 refine sh fol (kBT n) ?_
 refine sh fol [(2,.i (if(w64 (0-n))>n then(w64 (0-n))else n))] ?_
 refine Goes.ret ?_
 obtain rfl:=si h
 exact(gw2 [.i (if(w64 (0-n))>n then(w64 (0-n))else n)] (Ua tI))
def zh (a:Int):Option Int:=
 some (if(if a<1 then a else 1)>(-1)then(if a<1 then a else 1)else(-1))
theorem kz (a:Int) {res:Int} (h:zh a=some res):qf ZT (.fn 102) [.i a] [] (.i res) []:=by
 unfold zh at h
 refine Uc Tryz.func102 rfl rfl (m:=6) rfl (rs:=[.tmp 2]) rfl (l:=(kBT a)) rfl ?_
 refine sh fol (kBT a) ?_
 refine sh fol [(2,.i (if(if a<1 then a else 1)>(-1)then(if a<1 then a else 1)else(-1)))] ?_
 refine Goes.ret ?_
 obtain rfl:=si h
 exact(gw2 [.i (if(if a<1 then a else 1)>(-1)then(if a<1 then a else 1)else(-1))] (Ua tI))
def kL (c:Int):Option Int:=
 some (if(w64 (0-c))>c then(w64 (0-c))else c)
theorem qV (c:Int) {res:Int} (h:kL c=some res):qf ZT (.fn 77) [.i c] [] (.i res) []:=by
 unfold kL at h
 refine Uc Tryz.func77 rfl rfl (m:=7) rfl (rs:=[.tmp 2]) rfl (l:=(kBT c)) rfl ?_
 refine sh fol (kBT c) ?_
 refine sh fol [(2,.i (if(w64 (0-c))>c then(w64 (0-c))else c))] ?_
 refine Goes.ret ?_
 obtain rfl:=si h
 exact(gw2 [.i (if(w64 (0-c))>c then(w64 (0-c))else c)] (Ua tI))
def zi (c:Int):Option Int:=
 if c<0 then
 some (-1)
 else
 some 1
theorem zX (c:Int) {res:Int} (h:zi c=some res):qf ZT (.fn 100) [.i c] [] (.i res) []:=by
 unfold zi at h
 refine Uc Tryz.func100 rfl rfl (m:=5) rfl (rs:=[.tmp 2]) rfl (l:=(kBT c)) rfl ?_
 refine sh fol (kBT c) ?_
 refine sq ?_
 refine sh fol (kAa (decide (c<0))) ?_
 refine ihD h (fun a h=>?_) (fun a h=>?_)
 ·refine sh fol [(2,.i (-1))] ?_
  refine Goes.ret ?_
  obtain rfl:=si h
  exact(gw2 [.i (-1)] (Ua tI))
 refine Goes.skip ?_
 refine sh fol [(2,.i 1)] ?_
 refine Goes.ret ?_
 obtain rfl:=si h
 exact(gw2 [.i 1] (Ua tI))
def j4 (holds:Bool) (e:Int):Option Int:=
 if holds=true then
 some e
 else
 some 0
theorem xW (holds:Bool) (e:Int) {res:Int} (h:j4 holds e=some res):qf ZT (.fn 9) [.bool holds,.i e] [] (.i res) []:=by
 unfold j4 at h
 refine Uc Tryz.func9 rfl rfl (m:=7) rfl (rs:=[.tmp 4]) rfl (l:=((0,.bool holds)::(kAx e))) rfl ?_
 refine sh fol ((0,.bool holds)::(kAx e)) ?_
 refine sq ?_
 refine sh fol [(1,.i e),(5,.bool holds)] ?_
 refine ihB h (fun a h=>?_) (fun a h=>?_)
 ·refine sh fol (kAX e) ?_
  refine Goes.ret ?_
  obtain rfl:=si h
  exact(gw2 [.i e] (Ua tI))
 refine Goes.skip ?_
 refine sh fol kA9 ?_
 refine Goes.ret ?_
 obtain rfl:=si h
 exact(gw2 [.i 0] (Ua tI))
def zw (l:List Int):Nat->Int->Option (Unit⊕Int)
 |0,_=>none
 |K+1,a=>
  if a<(l.length:Int)then
  (idx l a).bind fun b=>
  if(!decide (b=0))=true then
  some (.inr b)
  else
  zw l K (w64 (a+1))
  else
  some (.inl ())
def jd (N:Nat) (l:List Int):Option Int:=
 (zw l N 0).bind (fun
 |(.inl ())=>
 some 0
 |(.inr a)=>
 some a)
theorem y7 (N:Nat) (l:List Int) {res:Int} (h:jd N l=some res):qf ZT (.fn 10) [vl encI l] [] (.i res) []:=by
 unfold jd at h
 refine Uc Tryz.func10 rfl rfl (m:=19) rfl (rs:=[.tmp 2]) rfl (l:=(kH l [])) rfl ?_
 refine sh fol (kH l []) ?_
 refine sq ?_
 refine sh fol (kH l [(3,.i 0)]) ?_
 refine Goes.block ?_
 obtain⟨c,g2,h⟩:=bnd h
 refine Goes.imp (Q:=fun x s'=>(x= .exit 0/\(.inl ())=c/\Sub s' (ofG 19 [],[]))\/(x= .ret/\ ∃e,(.inr e)=c/\zP ZT [.tmp 2] (.i e) .ret s')) ?_ ?_
 ·refine Ue (fun M s=> ∃(b:Int),s=(ofG 19 (kH l (kAy b)),[])/\zw l M b=some c) ?_ (m:=N) ⟨_,rfl,g2⟩
  rintro M s ⟨b,rfl,g2⟩
  cases M with
  |zero=>simp only[zw]at g2;cases g2
  |succ M=>
   rw[zw]at g2
   refine sq ?_
   refine sh fol (kH l [(3,.i b),(7,.bool (decide (b<(l.length:Int))))]) ?_
   refine ihD g2 (fun f g2=>?_) (fun f g2=>?_)
   ·refine Goes.skip ?_
    refine sq (Goes.block ?_)
    obtain⟨d,a,g2⟩:=bnd g2
    refine sq (gr fol [2,3] (kH l ((3,.i b)::(kBL (!decide (d=0))))) (ac (iv ja encI a) (ac (lv 0 ce3 encI a rfl) az)) ?_)
    refine ihB g2 (fun g g2=>?_) (fun g g2=>?_)
    ·refine sq (gr fol [2,3] [(2,.i d)] (ac (iv ja encI a) (ac (lv 0 ce3 encI a rfl) az)) ?_)
     refine Goes.ret ?_
     obtain rfl:=si g2
     exact Or.inr (⟨rfl,_,rfl,(gw2 [.i d] (Ua tI))⟩)
    refine Goes.skip ?_
    refine gh fol (kH l (kAy (w64 (b+1)))) ?_
    exact⟨M,(ofG 19 (kH l (kAy (w64 (b+1)))),[]),Nat.lt_succ_self _,(Sub.refl _),_,rfl,g2⟩
   refine Goes.exit ?_
   obtain rfl:=si g2
   exact Or.inl (⟨rfl,rfl,(Sub.keep [] rfl rfl)⟩)
 rintro x s' (⟨rfl,rfl,hsub⟩|⟨rfl,j,rfl,hret⟩)
 ·try dsimp only at h
  refine Goes.sub hsub ?_
  refine sh fol [(2,.i 0)] ?_
  refine Goes.ret ?_
  obtain rfl:=si h
  exact(gw2 [.i 0] (Ua tI))
 try dsimp only at h
 obtain rfl:=si h
 exact hret
def jB (w:List Int):Option ((List Int)×Int):=
 if(w.length:Int)>200 then
 some ([],5)
 else
 some (w,0)
theorem qaM (w:List Int) {res:(List Int)×Int} (h:jB w=some res):qf ZT (.fn 75) [vl encI w] [] (.tuple (kAT res.1 res.2)) []:=by
 unfold jB at h
 refine Uc Tryz.func75 rfl rfl (m:=8) rfl (rs:=[.tmp 2,.tmp 3]) rfl (l:=(kH w [])) rfl ?_
 refine sh fol (kH w []) ?_
 refine sq ?_
 refine sh fol (kH w (kBG (decide ((w.length:Int)>200)))) ?_
 refine ihD h (fun a h=>?_) (fun a h=>?_)
 ·refine sh fol [(2,.nilslice),(3,.i 5)] ?_
  refine Goes.ret ?_
  obtain rfl:=si h
  exact(gw2 [.nilslice,.i 5] (FzW.tuple (qw.cons (FzW.nilv (E:=encI)) (qw.cons (Ua tI) qw.nil))))
 refine Goes.skip ?_
 refine sh fol (kAZ w [(3,.i 0)]) ?_
 refine Goes.ret ?_
 obtain rfl:=si h
 exact(gw2 [vl encI w,.i 0] (FzW.tuple (qw.cons (Ua (zN encI _ (nl rfl))) (qw.cons (Ua tI) qw.nil))))
def jD (N:Nat) (n:Int) (a:List Int) (b:List Int):Option Int:=
 (zl N n a).bind fun c=>
 (zl N n b).bind fun d=>
 (qd N ([c,d]:List Int)).bind fun e=>
 some e
theorem qaj (N:Nat) (n:Int) (a:List Int) (b:List Int) {res:Int} (h:jD N n a b=some res):qf ZT (.fn 80) (.i n::(kAi a b)) [] (.i res) []:=by
 unfold jD at h
 refine Uc Tryz.func80 rfl rfl (m:=15) rfl (rs:=[.tmp 6]) rfl (l:=(kB n a (kAZ b []))) rfl ?_
 refine sh fol (kB n a (kAZ b [])) ?_
 obtain⟨f,c,h⟩:=bnd h
 obtain⟨g,d,h⟩:=bnd h
 obtain⟨j,e,h⟩:=bnd h
 refine sq (gq fol [2,5,7] (kBQ j) (kV f g) (ac (cv (jM N n a c)) (ac (cv (jM N n b d)) (ac (hs (.call 60 [.slice 0 0 2 2 1] (kV f g) [0] [vl encI ([f,g]:List Int)] (.i j)) (qD (FzL.cons (Fz.lit rfl rfl (Ub (AllST.cons tI (AllST.cons tI AllST.nil)))) FzL.nil) (qc N ([f,g]:List Int) e) tI rfl)) az))) ?_)
 refine Goes.ret ?_
 obtain rfl:=si h
 exact(gw2 [.i j] (Ua tI))
def jv (a:List Int) (b:List Int):Option (List Int):=
 (app 8 ([]:List Int) a).bind fun c=>
 (app 8 c b).bind fun d=>
 some d
theorem yU (a:List Int) (b:List Int) {res:List Int} (h:jv a b=some res):qf ZT (.fn 48) (kAi a b) [] (vl encI res) []:=by
 unfold jv at h
 refine Uc Tryz.func48 rfl rfl (m:=10) rfl (rs:=[.tmp 4]) rfl (l:=(kH a (kQ b []))) rfl ?_
 refine sh fol (kH a (kQ b [])) ?_
 obtain⟨c,d,h⟩:=bnd h
 obtain⟨e,f,h⟩:=bnd h
 refine sq (gq fol [2,4] [(4,.oslice 2 e.length 1)] (.dead:: .dead::(kA e)) (ac (hs (.run [0] (vG ZT [22,22] (.slice 0 0 0 0 1) (vl encI a)) [.cells []] (.oslice 1 c.length 1) (.dead::(kA c)) true) (qco ja (E:=encI) rfl (qgQ (E:=encI) rfl _) (dst_z (E:=encI) rfl rfl rfl d rfl))) (ac (hs (.run [1] (vG ZT [22,22] (.oslice 1 c.length 1) (vl encI b)) (.dead::(kA c)) (.oslice 2 e.length 1) (.dead:: .dead::(kA e)) true) (qco ja (E:=encI) rfl (qgQ (E:=encI) rfl _) (dst_o (E:=encI) (l:=c) rfl rfl rfl f rfl))) az)) ?_)
 refine Goes.ret ?_
 obtain rfl:=si h
 exact(gw2 [.oslice 2 e.length 1] (FzW.fz (Fz.os (E:=encI) rfl rfl (nl rfl))))
end Go.Av
