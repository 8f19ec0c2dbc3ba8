/-
  Walks of functions: what each computes, as a plain function.
-/
import Derived.Test.YtmffnhniejfgpaaGreatDoorAvJnB5
noncomputable section
namespace Go.Av
open Go.Proofs Go.RowKit
abbrev ZT:=Tryz.prog
set_option linter.unusedSectionVars false
set_option linter.unusedVariables false
set_option linter.unusedSimpArgs false
set_option maxRecDepth 100000
theorem fol:Tryz.prog.follows .mixedOrders=true:=by kernel_rfl
structure PairT where
 A:List Int
 B:List Int
 K:Int
def qfk:Enc PairT:=((qcH encI).prod ((qcH encI).prod encI)).comap fun x=>(x.A,x.B,x.K)
instance:SE qfk:=⟨nl rfl⟩
structure FormT where
 Half:Int
 Factors:List (List Int)
def qeX:Enc FormT:=(encI.prod (qcH (qcH encI))).comap fun x=>(x.Half,x.Factors)
instance:SE qeX:=⟨nl rfl⟩
structure MoveT where
 Kind:Str
 At:Int
 Letter:Int
def qe4:Enc MoveT:=(encS.prod (encI.prod encI)).comap fun x=>(x.Kind,x.At,x.Letter)
instance:SE qe4:=⟨nl rfl⟩
abbrev kA (a:List Int):List Blk:=[.cells (a.flatMap encI.c)]
abbrev kB (a:Int) (b:List Int) (x:List (Nat×AV)):List (Nat×AV):=(0,.i a)::(1,vl encI b)::x
abbrev kC (a:List Int) (b:Int) (c:List Int) (x:List Blk):List Blk:= .cells [.slice 2 0 a.length a.length 1]:: .cells (a.flatMap encI.c):: .cells [.i b]:: .cells [vl encI c]::x
abbrev kH (a:List Int) (x:List (Nat×AV)):List (Nat×AV):=(0,vl encI a)::x
abbrev kJ (a:List Int) (x:List Blk):List Blk:= .cells (a.flatMap encI.c)::x
abbrev kK {α0:Type} (a:List α0) (x:List (Nat×AV)):List (Nat×AV):=(3,.slice 0 0 a.length a.length 1)::x
abbrev kM (a:List Int) (b:Int) (x:List (Nat×AV)):List (Nat×AV):=(6,vl encI a)::(7,.i b)::x
abbrev kN (a:List Int) (b:Int) (c:Int) (x:List (Nat×AV)):List (Nat×AV):=(7,vl encI a)::(8,.i b)::(9,.i c)::x
abbrev kO (a:Option (List Int)):List Blk:=[.cells ((hof a).flatMap encI.c)]
abbrev kP (a:List Int) (b:Int) (x:List (Nat×AV)):List (Nat×AV):=(10,vl encI a)::(11,.i b)::x
abbrev kQ (a:List Int) (x:List (Nat×AV)):List (Nat×AV):=(1,vl encI a)::x
abbrev kS {α0:Type} (a:List α0) (x:List (Nat×AV)):List (Nat×AV):=(0,.gslice 0 a.length 1)::x
abbrev kT {α0:Type} (a:List α0) (x:List Blk):List Blk:= .cells [.slice 2 0 a.length a.length 1]::x
abbrev kU {α0:Type} (a:List α0) (x:List (Nat×AV)):List (Nat×AV):=(5,.gslice 0 a.length 1)::x
abbrev kV (a:Int) (b:Int):List Blk:=[.cells [.i a,.i b]]
abbrev kX (x:List (Nat×AV)):List (Nat×AV):=(5,.ptr 0 0)::x
abbrev kZ:List Blk:=[.cells (([]:List Int).flatMap encI.c)]
abbrev kAA:List (Nat×AV):=[(4,.bool false)]
abbrev kAC {α0:Type} (a:List α0) (x:List (Nat×AV)):List (Nat×AV):=(3,.oslice 0 a.length 1)::x
abbrev kAD (a:Int) (x:List Blk):List Blk:= .dead:: .cells [.i a]::x
abbrev kAE {α0:Type} (a:List α0) (x:List (Nat×AV)):List (Nat×AV):=(4,.gslice 0 a.length 1)::x
abbrev kAG {α0:Type} (a:List α0) (b:Int) (c:List Int) (x:List Blk):List Blk:= .cells [.slice 0 0 a.length a.length 1]:: .cells [.i b]:: .cells [vl encI c]::x
abbrev kAH {α0:Type} (a:List α0) (x:List (Nat×AV)):List (Nat×AV):=(3,.gslice 0 a.length 1)::x
abbrev kAI (a:List Int) (b:Int) (x:List (Nat×AV)):List (Nat×AV):=(8,vl encI a)::(9,.i b)::x
abbrev kAK {α0:Type} (a:List α0) (x:List (Nat×AV)):List (Nat×AV):=(4,.slice 5 0 a.length a.length 1)::x
abbrev kAT (a:List Int) (b:Int):List AV:=[vl encI a,.i b]
abbrev kAX (a:Int):List (Nat×AV):=[(4,.i a)]
abbrev kAa (a:Bool):List (Nat×AV):=[(4,.bool a)]
abbrev kAc (a:Int):List (Nat×AV):=[(5,.i a)]
abbrev kAd (a:Int):List AV:=[.nilslice,.i a]
abbrev kAi (a:List Int) (b:List Int):List AV:=[vl encI a,vl encI b]
abbrev kAk (a:Int) (b:List Int):List AV:=[.i a,vl encI b]
abbrev kAl (a:Int) (b:Int) (x:List (Nat×AV)):List (Nat×AV):=(8,.i a)::(9,.i b)::x
abbrev kAm (a:List Int) (x:List Blk):List Blk:= .cells [vl encI a]::x
abbrev kAp (a:Bool):List (Nat×AV):=[(8,.bool a)]
abbrev kAq (a:Bool):List (Nat×AV):=[(10,.bool a)]
abbrev kAr (a:List Int) (x:List Blk):List Blk:= .frozen (a.flatMap encI.c)::x
abbrev kAs (x:List (Nat×AV)):List (Nat×AV):=(3,.nilslice)::x
abbrev kAt (a:Int) (b:Int) (x:List (Nat×AV)):List (Nat×AV):=(1,.i a)::(2,.i b)::x
abbrev kAu (a:Int) (x:List Blk):List Blk:= .cells [.i a]::x
abbrev kAx (a:Int):List (Nat×AV):=[(1,.i a)]
abbrev kAy (a:Int):List (Nat×AV):=[(3,.i a)]
abbrev kAz:List AV:=[.str [105,110,115,101,114,116],.str [99,97,110,99,101,108],.str [115,119,97,112],.str [116,117,114,110]]
abbrev kA2 (a:Int):List (Nat×AV):=[(8,.i a)]
abbrev kA4:List (Nat×AV):=[(4,.bool true)]
abbrev kA5 {α0:Type} (a:List α0):List (Nat×AV):=[(2,.slice 0 0 a.length a.length 1)]
abbrev kA6:List (Nat×AV):=[(8,.bool false)]
abbrev kA7 {α0:Type} (a:List α0):List (Nat×AV):=[(2,.gslice 0 a.length 1)]
abbrev kA9:List (Nat×AV):=[(4,.i 0)]
abbrev kBC (a:Bool):List (Nat×AV):=[(11,.bool a)]
abbrev kBD (x:List (Nat×AV)):List (Nat×AV):=(3,.gslice 0 ([]:List Int).length 1)::x
abbrev kBE {α0:Type} (a:List α0) (x:List (Nat×AV)):List (Nat×AV):=(3,.gslice 2 a.length 1)::x
abbrev kBF (a:Int):List (Nat×AV):=[(10,.i a)]
abbrev kBJ:List (Nat×AV):=[(7,.i 0)]
abbrev kBK (a:Int):List (Nat×AV):=[(7,.i a)]
abbrev kBL (a:Bool):List (Nat×AV):=[(14,.bool a)]
abbrev kBM (x:List (Nat×AV)):List (Nat×AV):=(4,.nilslice)::x
abbrev kBO:List (Nat×AV):=[(5,.i 0)]
abbrev kBQ (a:Int):List (Nat×AV):=[(6,.i a)]
abbrev kBR:List (Nat×AV):=[(5,.ptr 1 0),(7,.ptr 3 0)]
abbrev kBS {α0:Type} (a:Option (List α0)) (x:List (Nat×AV)):List (Nat×AV):=(3,hsl 0 1 a)::x
abbrev kBT (a:Int):List (Nat×AV):=[(0,.i a)]
theorem zt:SlT ZT 22 3 1 8:=⟨by kernel_rfl,by kernel_rfl,by kernel_rfl,by kernel_rfl⟩
theorem ce3:CeT ZT 3:=⟨by kernel_rfl,by kernel_rfl⟩
theorem sl153:SlT ZT 153 30 1 8:=⟨by kernel_rfl,by kernel_rfl,by kernel_rfl,by kernel_rfl⟩
theorem ce30:CeT ZT 30:=⟨by kernel_rfl,by kernel_rfl⟩
noncomputable abbrev qa:Code:=(Tryz.f93.body.getD .skip).x2.x2.x1.x2.x1
abbrev fm1:AV:= .fmap kAz [.agg [.i 0,.func (.func 209) [] [],.func (.func 210) [] []],.agg [.i 2,.func (.func 211) [] [],.func (.func 212) [] []],.agg [.i 2,.func (.func 213) [] [],.func (.func 214) [] []],.agg [.i 3,.func (.func 215) [] [],.func (.func 216) [] []]]
instance:SC 12 fm1:=⟨Still.fmap SX.h (AllST.cons SC.h (AllST.cons SC.h (AllST.cons SC.h (AllST.cons SC.h AllST.nil))))⟩
def kz (a:List Int) (b:List Int):Nat->Int->Option (Unit⊕Bool)
 |0,_=>none
 |K+1,c=>
  if c<(a.length:Int)then
  (idx a c).bind fun d=>
  (idx b c).bind fun e=>
  if(!decide (d=e))=true then
  some (.inr false)
  else
  kz a b K (w64 (c+1))
  else
  some (.inl ())
def jK (N:Nat) (a:List Int) (b:List Int):Option Bool:=
 if(!decide ((a.length:Int)=(b.length:Int)))=true then
 some false
 else
 (kz a b N 0).bind (fun
 |(.inl ())=>
 some true
 |(.inr c)=>
 some c)
theorem qak (N:Nat) (a:List Int) (b:List Int) {res:Bool} (h:jK N a b=some res):qb ZT (.fn 32) (kAi a b) [] (.bool res) []:=by
 unfold jK at h
 refine Ub Tryz.func32 rfl rfl (m:=26) rfl (rs:=[.tmp 4]) rfl (l:=(kH a (kQ b []))) rfl ?_
 refine sh fol (kH a (kQ b [])) ?_
 refine sq ?_
 refine sh fol (kH a (kQ b (kAq (!decide ((a.length:Int)=(b.length:Int)))))) ?_
 refine ihB h (fun j h=>?_) (fun j h=>?_)
 ·refine sh fol kAA ?_
  refine Goes.ret ?_
  obtain rfl:=si h
  exact(gw2 [.bool false] (Ua tB))
 refine Goes.skip ?_
 refine sq ?_
 refine sh fol (kH a (kQ b kBO)) ?_
 refine Goes.block ?_
 obtain⟨f,g3,h⟩:=bnd h
 refine Goes.imp (Q:=fun x s'=>(x= .exit 0/\(.inl ())=f/\Sub s' (ofG 26 [],[]))\/(x= .ret/\ ∃g,(.inr g)=f/\vT ZT [.tmp 4] (.bool g) .ret s')) ?_ ?_
 ·refine Uc (fun M s=> ∃(c:Int),s=(ofG 26 (kH a (kQ b (kAc c))),[])/\kz a b M c=some f) ?_ (m:=N) ⟨_,rfl,g3⟩
  rintro M s ⟨c,rfl,g3⟩
  cases M with
  |zero=>simp only[kz]at g3;cases g3
  |succ M=>
   rw[kz]at g3
   refine sq ?_
   refine sh fol (kH a (kQ b ((5,.i c)::(kBL (decide (c<(a.length:Int))))))) ?_
   refine ihD g3 (fun k g3=>?_) (fun k g3=>?_)
   ·refine Goes.skip ?_
    refine sq (Goes.block ?_)
    obtain⟨n,d,g3⟩:=bnd g3
    obtain⟨o,e,g3⟩:=bnd g3
    refine sq (gr fol [2,3,6,7] (kH a (kQ b [(5,.i c),(25,.bool (!decide (n=o)))])) (ac (iv zt encI d) (ac (lv 0 ce3 encI d rfl) (ac (iv zt encI e) (ac (lv 0 ce3 encI e rfl) az)))) ?_)
    refine ihB g3 (fun p g3=>?_) (fun p g3=>?_)
    ·refine sh fol kAA ?_
     refine Goes.ret ?_
     obtain rfl:=si g3
     exact Or.inr (⟨rfl,_,rfl,(gw2 [.bool false] (Ua tB))⟩)
    refine Goes.skip ?_
    refine gh fol (kH a (kQ b (kAc (w64 (c+1))))) ?_
    exact⟨M,(ofG 26 (kH a (kQ b (kAc (w64 (c+1))))),[]),Nat.lt_succ_self _,(Sub.refl _),_,rfl,g3⟩
   refine Goes.exit ?_
   obtain rfl:=si g3
   exact Or.inl (⟨rfl,rfl,(Sub.keep [] rfl rfl)⟩)
 rintro x s' (⟨rfl,rfl,hsub⟩|⟨rfl,q,rfl,hret⟩)
 ·try dsimp only at h
  refine Goes.sub hsub ?_
  refine sh fol kA4 ?_
  refine Goes.ret ?_
  obtain rfl:=si h
  exact(gw2 [.bool true] (Ua tB))
 try dsimp only at h
 obtain rfl:=si h
 exact hret
def qP (N:Nat) (a:List Int) (e:Int) (bad:Int) (want:List Int):Option Bool:=
 if(!decide (bad=0))=true then
 (if(a.length:Int)=0 then
 some (decide (e=bad))
 else
 some false:Option Bool).bind fun b=>
 some b
 else
 (if e=0 then
 (jK N a want).bind fun c=>
 some c
 else
 some false:Option Bool).bind fun d=>
 some d
theorem qc (N:Nat) (a:List Int) (e:Int) (bad:Int) (want:List Int) {res:Bool} (h:qP N a e bad want=some res):qb ZT (.fn 13) (vl encI a:: .i e::(kAk bad want)) [] (.bool res) []:=by
 unfold qP at h
 refine Ub Tryz.func13 rfl rfl (m:=26) rfl (rs:=[.tmp 8]) rfl (l:=(kH a (kAt e bad [(3,vl encI want)]))) rfl ?_
 refine sh fol (kH a (kAt e bad [(3,vl encI want)])) ?_
 refine sq ?_
 refine sh fol (kH a (kAt e bad ((3,vl encI want)::(kAq (!decide (bad=0)))))) ?_
 refine ihB h (fun n h=>?_) (fun n h=>?_)
 ·refine sq ?_
  obtain⟨j,c,h⟩:=bnd h
  refine Goes.cut (s':=(ofG 26 (kAp j),[])) ?_ ?_
  ·rcases wyD c with⟨f,c⟩|⟨f,c⟩
   ·obtain rfl:=si c
    exact tr fol [3] (kAp (decide (e=bad))) (ac (gw f) az)
   obtain rfl:=si c
   exact tr fol [3] kA6 (ac (gw f) az)
  refine Goes.ret ?_
  obtain rfl:=si h
  exact(gw2 [.bool j] (Ua tB))
 refine Goes.skip ?_
 refine sq ?_
 obtain⟨k,b,h⟩:=bnd h
 refine Goes.cut (s':=(ofG 26 (kAp k),[])) ?_ ?_
 ·rcases wyD b with⟨g,b⟩|⟨g,b⟩
  ·obtain⟨o,d,b⟩:=bnd b
   obtain rfl:=si b
   exact tr fol [2,5] (kAp o) (ac (gw g) (ac (cv (qak N a want d)) az))
  obtain rfl:=si b
  exact tr fol [2] kA6 (ac (gw g) az)
 refine Goes.ret ?_
 obtain rfl:=si h
 exact(gw2 [.bool k] (Ua tB))
def jI (n:Int) (c:Int):Option Bool:=
 (if(!decide (c=0))=true then
 if c>(w64 (0-n))then
 some (decide (c<n))
 else
 some false
 else
 some false:Option Bool).bind fun a=>
 some a
theorem qaT (n:Int) (c:Int) {res:Bool} (h:jI n c=some res):qb ZT (.fn 78) [.i n,.i c] [] (.bool res) []:=by
 unfold jI at h
 refine Ub Tryz.func78 rfl rfl (m:=18) rfl (rs:=[.tmp 4]) rfl (l:=((0,.i n)::(kAx c))) rfl ?_
 refine sh fol ((0,.i n)::(kAx c)) ?_
 refine sq ?_
 obtain⟨e,a,h⟩:=bnd h
 refine Goes.cut (s':=(ofG 18 (kAa e),[])) ?_ ?_
 ·rcases wyB a with⟨b,a⟩|⟨b,a⟩
  ·rcases wyD a with⟨d,a⟩|⟨d,a⟩
   ·obtain rfl:=si a
    exact tr fol [2,8] (kAa (decide (c<n))) (ac (gw b) (ac (gw d) az))
   obtain rfl:=si a
   exact tr fol [2,8] kAA (ac (gw b) (ac (gw d) az))
  obtain rfl:=si a
  exact tr fol [2] kAA (ac (gw b) az)
 refine Goes.ret ?_
 obtain rfl:=si h
 exact(gw2 [.bool e] (Ua tB))
def kr (n:Int) (w:List Int):Nat->Int->Option (Unit⊕Int)
 |0,_=>none
 |K+1,a=>
  if a<(w.length:Int)then
  (idx w a).bind fun b=>
  (jI n b).bind fun c=>
  if(!c)=true then
  some (.inr 3)
  else
  kr n w K (w64 (a+1))
  else
  some (.inl ())
def zS (N:Nat) (n:Int) (w:List Int):Option Int:=
 (if n<1 then
 some true
 else
 some (decide (n>12)):Option Bool).bind fun b=>
 if b=true then
 some 3
 else
 if(w.length:Int)>200 then
 some 5
 else
 (kr n w N 0).bind (fun
 |(.inl ())=>
 some 0
 |(.inr a)=>
 some a)
theorem xX (N:Nat) (n:Int) (w:List Int) {res:Int} (h:zS N n w=some res):qb ZT (.fn 20) (kAk n w) [] (.i res) []:=by
 unfold zS at h
 refine Ub Tryz.func20 rfl rfl (m:=28) rfl (rs:=[.tmp 4]) rfl (l:=(kB n w [])) rfl ?_
 refine sh fol (kB n w []) ?_
 refine sq ?_
 refine sq ?_
 obtain⟨p,a,h⟩:=bnd h
 refine Goes.cut (s':=(ofG 28 (kB n w (kBC p)),[])) ?_ ?_
 ·rcases wyD a with⟨e,a⟩|⟨e,a⟩
  ·obtain rfl:=si a
   exact tr fol [2] (kB n w [(11,.bool true)]) (ac (gw e) az)
  obtain rfl:=si a
  exact tr fol [2] (kB n w (kBC (decide (n>12)))) (ac (gw e) az)
 refine ihB h (fun q h=>?_) (fun q h=>?_)
 ·refine sh fol [(4,.i 3)] ?_
  refine Goes.ret ?_
  obtain rfl:=si h
  exact(gw2 [.i 3] (Ua tI))
 refine Goes.skip ?_
 refine sq ?_
 refine sh fol (kB n w (kBL (decide ((w.length:Int)>200)))) ?_
 refine ihD h (fun r h=>?_) (fun r h=>?_)
 ·refine sh fol [(4,.i 5)] ?_
  refine Goes.ret ?_
  obtain rfl:=si h
  exact(gw2 [.i 5] (Ua tI))
 refine Goes.skip ?_
 refine sq ?_
 refine sh fol (kB n w kBO) ?_
 refine Goes.block ?_
 obtain⟨f,g7,h⟩:=bnd h
 refine Goes.imp (Q:=fun x s'=>(x= .exit 0/\(.inl ())=f/\Sub s' (ofG 28 [],[]))\/(x= .ret/\ ∃o,(.inr o)=f/\vT ZT [.tmp 4] (.i o) .ret s')) ?_ ?_
 ·refine Uc (fun M s=> ∃(c:Int),s=(ofG 28 (kB n w (kAc c)),[])/\kr n w M c=some f) ?_ (m:=N) ⟨_,rfl,g7⟩
  rintro M s ⟨c,rfl,g7⟩
  cases M with
  |zero=>simp only[kr]at g7;cases g7
  |succ M=>
   rw[kr]at g7
   refine sq ?_
   refine sh fol (kB n w [(5,.i c),(18,.bool (decide (c<(w.length:Int))))]) ?_
   refine ihD g7 (fun t g7=>?_) (fun t g7=>?_)
   ·refine Goes.skip ?_
    refine sq (Goes.block ?_)
    obtain⟨g,b,g7⟩:=bnd g7
    obtain⟨j,d,g7⟩:=bnd g7
    refine sq (gr fol [3,4,5] (kB n w [(5,.i c),(27,.bool (!j))]) (ac (iv zt encI b) (ac (lv 0 ce3 encI b rfl) (ac (cv (qaT n g d)) az))) ?_)
    refine ihB g7 (fun k g7=>?_) (fun k g7=>?_)
    ·refine sh fol [(4,.i 3)] ?_
     refine Goes.ret ?_
     obtain rfl:=si g7
     exact Or.inr (⟨rfl,_,rfl,(gw2 [.i 3] (Ua tI))⟩)
    refine Goes.skip ?_
    refine gh fol (kB n w (kAc (w64 (c+1)))) ?_
    exact⟨M,(ofG 28 (kB n w (kAc (w64 (c+1)))),[]),Nat.lt_succ_self _,(Sub.refl _),_,rfl,g7⟩
   refine Goes.exit ?_
   obtain rfl:=si g7
   exact Or.inl (⟨rfl,rfl,(Sub.keep [] rfl rfl)⟩)
 rintro x s' (⟨rfl,rfl,hsub⟩|⟨rfl,u,rfl,hret⟩)
 ·try dsimp only at h
  refine Goes.sub hsub ?_
  refine sh fol kA9 ?_
  refine Goes.ret ?_
  obtain rfl:=si h
  exact(gw2 [.i 0] (Ua tI))
 try dsimp only at h
 obtain rfl:=si h
 exact hret
def zm (l:List Int):Nat->Int->Option (Unit⊕Int)
 |0,_=>none
 |K+1,a=>
  if a<(l.length:Int)then
  (idx l a).bind fun b=>
  if(!decide (b=0))=true then
  some (.inr b)
  else
  zm l K (w64 (a+1))
  else
  some (.inl ())
def vg (N:Nat) (l:List Int):Option Int:=
 (zm l N 0).bind (fun
 |(.inl ())=>
 some 0
 |(.inr a)=>
 some a)
theorem qbl (N:Nat) (l:List Int) {res:Int} (h:vg N l=some res):qb ZT (.fn 60) [vl encI l] [] (.i res) []:=by
 unfold vg at h
 refine Ub Tryz.func60 rfl rfl (m:=15) rfl (rs:=[.tmp 2]) rfl (l:=(kH l [])) rfl ?_
 refine sh fol (kH l []) ?_
 refine sq ?_
 refine sh fol ((5,vl encI l)::(6,.i (l.length:Int))::kBJ) ?_
 refine Goes.block ?_
 obtain⟨d,g2,h⟩:=bnd h
 refine Goes.imp (Q:=fun x s'=>(x= .exit 0/\(.inl ())=d/\Sub s' (ofG 15 [],[]))\/(x= .ret/\ ∃e,(.inr e)=d/\vT ZT [.tmp 2] (.i e) .ret s')) ?_ ?_
 ·refine Uc (fun M s=> ∃(a:Int),s=(ofG 15 ((5,vl encI l)::(6,.i (l.length:Int))::(kBK a)),[])/\zm l M a=some d) ?_ (m:=N) ⟨_,rfl,g2⟩
  rintro M s ⟨a,rfl,g2⟩
  cases M with
  |zero=>simp only[zm]at g2;cases g2
  |succ M=>
   rw[zm]at g2
   refine sh fol ((5,vl encI l)::(6,.i (l.length:Int))::(7,.i a)::(kAp (decide (a<(l.length:Int))))) ?_
   refine sq ?_
   refine ihD g2 (fun f g2=>?_) (fun f g2=>?_)
   ·refine Goes.skip ?_
    refine sq (Goes.block ?_)
    obtain⟨c,b,g2⟩:=bnd g2
    refine sq (gr fol [0,1] ((4,.i c)::(5,vl encI l)::(6,.i (l.length:Int))::(kBK a)) (ac (iv sl153 encI b) (ac (lv 0 ce30 encI b rfl) az)) ?_)
    refine sh fol [(4,.i c),(5,vl encI l),(6,.i (l.length:Int)),(7,.i a),(12,.bool (!decide (c=0)))] ?_
    refine ihB g2 (fun g g2=>?_) (fun g g2=>?_)
    ·refine sh fol [(2,.i c)] ?_
     refine Goes.ret ?_
     obtain rfl:=si g2
     exact Or.inr (⟨rfl,_,rfl,(gw2 [.i c] (Ua tI))⟩)
    refine Goes.skip ?_
    refine gh fol ((5,vl encI l)::(6,.i (l.length:Int))::(kBK (w64 (a+1)))) ?_
    exact⟨M,(ofG 15 ((5,vl encI l)::(6,.i (l.length:Int))::(kBK (w64 (a+1)))),[]),Nat.lt_succ_self _,(Sub.refl _),_,rfl,g2⟩
   refine Goes.exit ?_
   obtain rfl:=si g2
   exact Or.inl (⟨rfl,rfl,(Sub.keep [] rfl rfl)⟩)
 rintro x s' (⟨rfl,rfl,hsub⟩|⟨rfl,j,rfl,hret⟩)
 ·try dsimp only at h
  refine Goes.sub hsub ?_
  refine sh fol [(2,.i 0)] ?_
  refine Goes.ret ?_
  obtain rfl:=si h
  exact(gw2 [.i 0] (Ua tI))
 try dsimp only at h
 obtain rfl:=si h
 exact hret
def zw (holds:Bool) (e:Int):Option Int:=
 if holds=true then
 some e
 else
 some 0
theorem jV (holds:Bool) (e:Int) {res:Int} (h:zw holds e=some res):qb ZT (.fn 67) [.bool holds,.i e] [] (.i res) []:=by
 unfold zw at h
 refine Ub Tryz.func67 rfl rfl (m:=7) rfl (rs:=[.tmp 4]) rfl (l:=((0,.bool holds)::(kAx e))) rfl ?_
 refine sh fol ((0,.bool holds)::(kAx e)) ?_
 refine sq ?_
 refine sh fol [(1,.i e),(5,.bool holds)] ?_
 refine ihB h (fun a h=>?_) (fun a h=>?_)
 ·refine sh fol (kAX e) ?_
  refine Goes.ret ?_
  obtain rfl:=si h
  exact(gw2 [.i e] (Ua tI))
 refine Goes.skip ?_
 refine sh fol kA9 ?_
 refine Goes.ret ?_
 obtain rfl:=si h
 exact(gw2 [.i 0] (Ua tI))
def zO (n:Int):Option Int:=
 (if n<1 then
 (zw true 3).bind fun a=>
 some a
 else
 (zw (decide (n>12)) 3).bind fun b=>
 some b:Option Int).bind fun c=>
 some c
theorem yZ (n:Int) {res:Int} (h:zO n=some res):qb ZT (.fn 61) [.i n] [] (.i res) []:=by
 unfold zO at h
 refine Ub Tryz.func61 rfl rfl (m:=10) rfl (rs:=[.tmp 2]) rfl (l:=(kBT n)) rfl ?_
 refine sh fol (kBT n) ?_
 refine sq ?_
 obtain⟨e,a,h⟩:=bnd h
 refine Goes.cut (s':=(ofG 10 [(2,.i e)],[])) ?_ ?_
 ·rcases wyD a with⟨d,a⟩|⟨d,a⟩
  ·obtain⟨f,b,a⟩:=bnd a
   obtain rfl:=si a
   exact tr fol [2,6] [(2,.i f)] (ac (gw d) (ac (cv (jV true 3 b)) az))
  obtain⟨g,c,a⟩:=bnd a
  obtain rfl:=si a
  exact tr fol [2,6] [(2,.i g)] (ac (gw d) (ac (cv (jV (decide (n>12)) 3 c)) az))
 refine Goes.ret ?_
 obtain rfl:=si h
 exact(gw2 [.i e] (Ua tI))
def jk (n:Int) (letter:Int):Option Bool:=
 (if letter=0 then
 some true
 else
 if letter<=(w64 (0-n))then
 some true
 else
 some (decide (letter>=n)):Option Bool).bind fun a=>
 some a
theorem qaH (n:Int) (letter:Int) {res:Bool} (h:jk n letter=some res):qb ZT (.fn 92) [.i n,.i letter] [] (.bool res) []:=by
 unfold jk at h
 refine Ub Tryz.func92 rfl rfl (m:=18) rfl (rs:=[.tmp 4]) rfl (l:=((0,.i n)::(kAx letter))) rfl ?_
 refine sh fol ((0,.i n)::(kAx letter)) ?_
 refine sq ?_
 obtain⟨d,a,h⟩:=bnd h
 refine Goes.cut (s':=(ofG 18 (kAa d),[])) ?_ ?_
 ·rcases wyD a with⟨b,a⟩|⟨b,a⟩
  ·obtain rfl:=si a
   exact tr fol [2] kA4 (ac (gw b) az)
  rcases wyD a with⟨c,a⟩|⟨c,a⟩
  ·obtain rfl:=si a
   exact tr fol [2,8] kA4 (ac (gw b) (ac (gw c) az))
  obtain rfl:=si a
  exact tr fol [2,8] (kAa (decide (letter>=n))) (ac (gw b) (ac (gw c) az))
 refine Goes.ret ?_
 obtain rfl:=si h
 exact(gw2 [.bool d] (Ua tB))
def zB (a:Int) (b:Int):Option Bool:=
 (jk b a).bind fun c=>
 some c
theorem yl (a:Int) (b:Int) {res:Bool} (h:zB a b=some res):qb ZT (.fn 91) [.i a,.fptr [.i b] 0] [] (.bool res) []:=by
 unfold zB at h
 refine Ub Tryz.func91 rfl rfl (m:=7) rfl (rs:=[.tmp 3]) rfl (l:=[(0,.i a),(1,.fptr [.i b] 0)]) rfl ?_
 refine sh fol [(0,.i a),(1,.fptr [.i b] 0)] ?_
 obtain⟨d,c,h⟩:=bnd h
 refine sq (gr fol [2] [(3,.bool d)] (ac (cv (qaH b a c)) az) ?_)
 refine Goes.ret ?_
 obtain rfl:=si h
 exact(gw2 [.bool d] (Ua tB))
def ql (a:List Int) (b:Int):Nat->Int->Option (Unit⊕Int)
 |0,_=>none
 |K+1,c=>
  if c<(a.length:Int)then
  (idx a c).bind fun d=>
  (zB d b).bind fun e=>
  if e=true then
  some (.inr c)
  else
  ql a b K (w64 (c+1))
  else
  some (.inl ())
def zo (N:Nat) (a:List Int) (b:Int):Option Int:=
 (ql a b N 0).bind (fun
 |(.inl ())=>
 some (-1)
 |(.inr c)=>
 some c)
theorem vW (N:Nat) (a:List Int) (b:Int) {res:Int} (h:zo N a b=some res):qb ZT (.fn 143) [vl encI a,.func (.func 91) [] [.fptr [.i b] 0]] [] (.i res) []:=by
 unfold zo at h
 refine Ub Tryz.func143 rfl rfl (m:=19) rfl (rs:=[.tmp 4]) rfl (l:=(kH a [(1,.func (.func 91) [] [.fptr [.i b] 0])])) rfl ?_
 refine sh fol (kH a [(1,.func (.func 91) [] [.fptr [.i b] 0])]) ?_
 refine sq ?_
 refine sh fol (kH a [(1,.func (.func 91) [] [.fptr [.i b] 0]),(7,.i (a.length:Int)),(8,.i 0)]) ?_
 refine Goes.block ?_
 obtain⟨f,g2,h⟩:=bnd h
 refine Goes.imp (Q:=fun x s'=>(x= .exit 0/\(.inl ())=f/\Sub s' (ofG 19 [],[]))\/(x= .ret/\ ∃j,(.inr j)=f/\vT ZT [.tmp 4] (.i j) .ret s')) ?_ ?_
 ·refine Uc (fun M s=> ∃(c:Int),s=(ofG 19 (kH a ((1,.func (.func 91) [] [.fptr [.i b] 0])::(7,.i (a.length:Int))::(kA2 c))),[])/\ql a b M c=some f) ?_ (m:=N) ⟨_,rfl,g2⟩
  rintro M s ⟨c,rfl,g2⟩
  cases M with
  |zero=>simp only[ql]at g2;cases g2
  |succ M=>
   rw[ql]at g2
   refine sh fol (kH a [(1,.func (.func 91) [] [.fptr [.i b] 0]),(7,.i (a.length:Int)),(8,.i c),(9,.bool (decide (c<(a.length:Int))))]) ?_
   refine sq ?_
   refine ihD g2 (fun n g2=>?_) (fun n g2=>?_)
   ·refine Goes.skip ?_
    refine sq (Goes.block ?_)
    refine sh fol (kH a ((1,.func (.func 91) [] [.fptr [.i b] 0])::(5,.i c)::(7,.i (a.length:Int))::(kA2 c))) ?_
    obtain⟨g,d,g2⟩:=bnd g2
    obtain⟨k,e,g2⟩:=bnd g2
    refine sq (gr fol [3,4,5] (kH a [(1,.func (.func 91) [] [.fptr [.i b] 0]),(5,.i c),(7,.i (a.length:Int)),(8,.i c),(16,.bool k)]) (ac (iv zt encI d) (ac (lv 0 ce3 encI d rfl) (ac (hs (.call 91 [.i g,.fptr [.i b] 0] [] [] [.i g,.fptr [.i b] 0] (.bool k)) (qfW (FzL.cons (Ue tI) (FzL.cons (Ue (Still.fptr (AllST.cons tI AllST.nil))) FzL.nil)) (yl g b e) tB)) az))) ?_)
    refine ihB g2 (fun o g2=>?_) (fun o g2=>?_)
    ·refine sh fol (kAX c) ?_
     refine Goes.ret ?_
     obtain rfl:=si g2
     exact Or.inr (⟨rfl,_,rfl,(gw2 [.i c] (Ua tI))⟩)
    refine Goes.skip ?_
    refine gh fol (kH a ((1,.func (.func 91) [] [.fptr [.i b] 0])::(7,.i (a.length:Int))::(kA2 (w64 (c+1))))) ?_
    exact⟨M,(ofG 19 (kH a ((1,.func (.func 91) [] [.fptr [.i b] 0])::(7,.i (a.length:Int))::(kA2 (w64 (c+1))))),[]),Nat.lt_succ_self _,(Sub.refl _),_,rfl,g2⟩
   refine Goes.exit ?_
   obtain rfl:=si g2
   exact Or.inl (⟨rfl,rfl,(Sub.keep [] rfl rfl)⟩)
 rintro x s' (⟨rfl,rfl,hsub⟩|⟨rfl,p,rfl,hret⟩)
 ·try dsimp only at h
  refine Goes.sub hsub ?_
  refine sh fol [(4,.i (-1))] ?_
  refine Goes.ret ?_
  obtain rfl:=si h
  exact(gw2 [.i (-1)] (Ua tI))
 try dsimp only at h
 obtain rfl:=si h
 exact hret
def kD (N:Nat) (a:List Int) (b:Int):Option Bool:=
 (zo N a b).bind fun c=>
 some (decide (c>=0))
theorem jZ (N:Nat) (a:List Int) (b:Int) {res:Bool} (h:kD N a b=some res):qb ZT (.fn 90) [vl encI a,.func (.func 91) [] [.fptr [.i b] 0]] [] (.bool res) []:=by
 unfold kD at h
 refine Ub Tryz.func90 rfl rfl (m:=9) rfl (rs:=[.tmp 4]) rfl (l:=(kH a [(1,.func (.func 91) [] [.fptr [.i b] 0])])) rfl ?_
 refine sh fol (kH a [(1,.func (.func 91) [] [.fptr [.i b] 0])]) ?_
 obtain⟨d,c,h⟩:=bnd h
 refine sq (gr fol [2] (kAa (decide (d>=0))) (ac (hs (.call 143 [vl encI a,.func (.func 91) [] [.fptr [.i b] 0]] [] [] [vl encI a,.func (.func 91) [] [.fptr [.i b] 0]] (.i d)) (qfW (FzL.cons (Ue (zH encI _ (nl rfl))) (FzL.cons (Fz.func FzL.nil (FzL.cons (Ue (Still.fptr (AllST.cons tI AllST.nil))) FzL.nil)) FzL.nil)) (vW N a b c) tI)) az) ?_)
 refine Goes.ret ?_
 obtain rfl:=si h
 exact(gw2 [.bool (decide (d>=0))] (Ua tB))
def qR (N:Nat) (n:Int) (w:List Int):Option Int:=
 (zO n).bind fun b=>
 (zw (decide ((w.length:Int)>200)) 5).bind fun c=>
 (vg N ([b,c]:List Int)).bind fun a=>
 if(!decide (a=0))=true then
 some a
 else
 (kD N w n).bind fun d=>
 (zw d 3).bind fun e=>
 some e
theorem zf (N:Nat) (n:Int) (w:List Int) {res:Int} (h:qR N n w=some res):qb ZT (.fn 33) (kAk n w) [] (.i res) []:=by
 unfold qR at h
 refine Ub Tryz.func33 rfl rfl (m:=21) rfl (rs:=[.tmp 4]) rfl (l:=(kB n w [])) rfl ?_
 refine sg fol (kQ w [(2,.ptr 0 0)]) (kAu n []) ?_
 refine sq ?_
 obtain⟨b,c,h⟩:=bnd h
 obtain⟨d,e,h⟩:=bnd h
 obtain⟨a,f,h⟩:=bnd h
 refine sq (gq fol [1,5,7] (kQ w ((2,.ptr 0 0)::(kAc a))) (kAu n (kV b d)) (ac (cv (yZ n c)) (ac (cv (jV (decide ((w.length:Int)>200)) 5 e)) (ac (hs (.call 60 [.slice 1 0 2 2 1] (kAu n (kV b d)) [1] [vl encI ([b,d]:List Int)] (.i a)) (qbi (FzL.cons (Fz.lit rfl rfl (FzL.still (AllST.cons tI (AllST.cons tI AllST.nil)))) FzL.nil) (qbl N ([b,d]:List Int) f) tI rfl)) az))) ?_)
 refine sh fol (kQ w [(2,.ptr 0 0),(5,.i a),(15,.bool (!decide (a=0)))]) ?_
 refine ihB h (fun p h=>?_) (fun p h=>?_)
 ·refine sh fol (kAX a) ?_
  refine Goes.ret ?_
  obtain rfl:=si h
  exact(gw2 [.i a] (Ua tI))
 refine Goes.skip ?_
 obtain⟨k,g,h⟩:=bnd h
 obtain⟨o,j,h⟩:=bnd h
 refine sq (gr fol [2,3] (kAX o) (ac (hs (.call 90 [vl encI w,.func (.func 91) [] [.ptr 0 0]] (kAu n (kV b d)) [0] [vl encI w,.func (.func 91) [] [.fptr [.i n] 0]] (.bool k)) (qbi (FzL.cons (Ue (zH encI _ (nl rfl))) (FzL.cons (Fz.func FzL.nil (FzL.cons (Fz.ptr rfl rfl (FzL.cons (Ue tI) FzL.nil)) FzL.nil)) FzL.nil)) (jZ N w n g) tB rfl)) (ac (cv (jV k 3 j)) az)) ?_)
 refine Goes.ret ?_
 obtain rfl:=si h
 exact(gw2 [.i o] (Ua tI))
def yC (n:Int):Option Int:=
 some (if(w64 (0-n))>n then(w64 (0-n))else n)
theorem qcg (n:Int) {res:Int} (h:yC n=some res):qb ZT (.fn 68) [.i n] [] (.i res) []:=by
 unfold yC at h
 refine Ub Tryz.func68 rfl rfl (m:=7) rfl (rs:=[.tmp 2]) rfl (l:=(kBT n)) rfl ?_
 refine sh fol (kBT n) ?_
 refine sh fol [(2,.i (if(w64 (0-n))>n then(w64 (0-n))else n))] ?_
 refine Goes.ret ?_
 obtain rfl:=si h
 exact(gw2 [.i (if(w64 (0-n))>n then(w64 (0-n))else n)] (Ua tI))
def qQ (c:List Int):Nat->(List Int)->Int->Option (List Int)
 |0,_,_=>none
 |K+1,b,a=>
  if a<(c.length:Int)then
  (idx b a).bind fun e=>
  (put b a a).bind fun d=>
  qQ c K d (w64 (a+1))
  else
  some b
def zn (N:Nat) (a:Int):Option (List Int):=
 (mk 8 a 0).bind fun b=>
 (qQ b N b 0).bind fun c=>
 some c
theorem vz (N:Nat) (c:Int) {n:List Int} (h:zn N c=some n):qb ZT (.fn 131) [.i c] [] (.slice 0 0 n.length n.length 1) (kA n):=by
 unfold zn at h
 refine Uh Tryz.func131 rfl rfl (m:=18) rfl (rs:=[.tmp 2]) rfl (l:=(kBT c)) rfl ?_
 intro B hB
 refine sh fol (kBT c) ?_
 obtain⟨a,k,h⟩:=bnd h
 refine sq (gq fol [1] (kK a []) (kA a) (ac (hs (.run [] (jA ZT 22 (.i c) (.i c)) [] (.slice 0 0 a.length a.length 1) (kA a) false) (qfD zt (E:=encI) (z:=0) rfl (by kernel_rfl) k rfl)) az) ?_)
 refine sq ?_
 refine sh fol (kK a [(8,.i (a.length:Int)),(9,.i 0)]) ?_
 refine Goes.block ?_
 obtain⟨o,g6,h⟩:=bnd h
 refine Goes.imp (Q:=fun x s'=>(x= .exit 0/\ ∃j,j=o/\Sub s' (ofG 18 (kK j []),(kA j)))) ?_ ?_
 ·refine Uc (fun M s=> ∃(d:List Int) (b:Int),s=(ofG 18 (kK d (kAl (a.length:Int) b [])),(kA d))/\qQ a M d b=some o) ?_ (m:=N) ⟨_,_,rfl,g6⟩
  rintro M s ⟨d,b,rfl,g6⟩
  cases M with
  |zero=>simp only[qQ]at g6;cases g6
  |succ M=>
   rw[qQ]at g6
   refine sh fol (kK d (kAl (a.length:Int) b (kAq (decide (b<(a.length:Int)))))) ?_
   refine sq ?_
   refine ihD g6 (fun p g6=>?_) (fun p g6=>?_)
   ·refine Goes.skip ?_
    refine sq (Goes.block ?_)
    refine sh fol (kK d ((4,.i b)::(kAl (a.length:Int) b []))) ?_
    obtain⟨q,e,g6⟩:=bnd g6
    obtain⟨f,g,g6⟩:=bnd g6
    refine gq fol [3,4] (kK d (kAl (a.length:Int) b [])) (kA f) (ac (hs (.done (.opt (qg ZT 22 (.slice 0 0 d.length d.length 1) (.i b))) (.ptr 0 ((b:Int).toNat*1+0))) (yU zt e)) (ac (hs (.run [0] (jC ZT 3 (.ptr 0 ((b:Int).toNat*1+0)) (.i b)) (kA d) .undef (kA f) true) (xQ (E:=encI) (l:=d) (y:=b) rfl (show _=some 1 by kernel_rfl) rfl e rfl rfl rfl rfl rfl g rfl)) az)) ?_
    refine Goes.sub (show Sub (ofG 18 (kK d (kAl (a.length:Int) b [])),(kA f)) (ofG 18 (kK f (kAl (a.length:Int) b [])),(kA f))from(Sub.norm [] [some 0] (by rw[hB];rfl) rfl (.keep (.sliceE rfl (jU g)) (.keep (.same nI) (.keep (.same nI) .nil))) (.ks .nil))) ?_
    refine gh fol (kK f (kAl (a.length:Int) (w64 (b+1)) [])) ?_
    exact⟨M,(ofG 18 (kK f (kAl (a.length:Int) (w64 (b+1)) [])),(kA f)),Nat.lt_succ_self _,(Sub.refl _),_,_,rfl,g6⟩
   refine Goes.exit ?_
   obtain rfl:=si g6
   exact⟨rfl,_,rfl,(Sub.keep [3] rfl rfl)⟩
 rintro x s' ⟨rfl,j,rfl,hsub⟩
 refine Goes.sub hsub ?_
 refine sh fol (kA5 j) ?_
 refine Goes.ret ?_
 obtain rfl:=si h
 exact(gh2 [.slice 0 0 j.length j.length 1] (yc.refl _ _))
def zM (a:Int) (b:List Int):Option Unit:=
 some ()
theorem yY (a:Int) (b:List Int) (h:zM a b=some ()):qb ZT (.fn 144) (kAk a b) [] (.func (.func 185) [] [.ptr 0 0,.ptr 1 0]) (kAu a (kAm b [])):=by
 unfold zM at h
 refine Uh Tryz.func144 rfl rfl (m:=6) rfl (rs:=[.tmp 4]) rfl (l:=(kB a b [])) rfl ?_
 intro B hB
 refine sg fol [(2,.ptr 0 0),(3,.ptr 1 0)] (kAu a (kAm b [])) ?_
 refine sh fol [(4,.func (.func 185) [] [.ptr 0 0,.ptr 1 0])] ?_
 refine Goes.ret ?_
 exact(gh2 [.func (.func 185) [] [.ptr 0 0,.ptr 1 0]] (yc.refl _ _))
def jl (a:List Int) (e:Int) (b:Int) (c:Int):Option (List Int):=
 (idx a b).bind fun f=>
 (put a b (w64 (f+1))).bind fun d=>
 (idx d c).bind fun g=>
 (put d c (w64 (g-1))).bind fun h=>
 some h
theorem qaz (c:List Int) (k:Int) (a:Int) (b:Int) {o:List Int} (h:jl c k a b=some o):qb ZT (.rd 0) [.i k,.agg [.i a,.i b]] (.loop .ready none (ofG 30 [(5,.ptr 1 0)]) qa.xp qa.x1 qa.x2::(kT c (kA c))) (.bool true) (.loop .ready none (ofG 30 [(5,.ptr 1 0)]) qa.xp qa.x1 qa.x2::(kT o (kA o))):=by
 unfold jl at h
 refine Goes.round (m:=30) (l0:=[(5,.ptr 1 0)]) (l:=[(5,.ptr 1 0),(13,.i k),(14,.agg [.i a,.i b])]) rfl rfl rfl ?_
 intro B hB
 refine Goes.subQ ?_
 refine Goes.rg fol kBR (.loop .ready none (ofG 30 [(5,.ptr 1 0)]) qa.xp qa.x1 qa.x2::(kT c (kJ c (kV a b)))) ?_
 refine⟨_,Sub.refl _,?_⟩
 refine⟨_,_,_,_,_,rfl,?_⟩
 refine Goes.subQ ?_
 refine Goes.block ?_
 obtain⟨x2,e,h⟩:=bnd h
 obtain⟨d,g,h⟩:=bnd h
 refine sq (gq fol [3,4,6,7] kBR (.loop .busy none (ofG 30 [(5,.ptr 1 0)]) qa.xp qa.x1 qa.x2::(kT c (kJ d (kV a b)))) (ac (hs (.done (.opt (qg ZT 22 (.slice 2 0 c.length c.length 1) (.i a))) (.ptr 2 ((a:Int).toNat*1+0))) (yU zt e)) (ac (hs (.run [2] (zJ ZT 3 (.ptr 2 ((a:Int).toNat*1+0))) (.loop .busy none (ofG 30 [(5,.ptr 1 0)]) qa.xp qa.x1 qa.x2::(kT c (kJ c (kV a b)))) (.i x2) (.loop .busy none (ofG 30 [(5,.ptr 1 0)]) qa.xp qa.x1 qa.x2::(kT c (kJ c (kV a b)))) false) (qaR ce3 (E:=encI) (l:=c) rfl rfl e (nl rfl) rfl)) (ac (hs (.done (.opt (qg ZT 22 (.slice 2 0 c.length c.length 1) (.i a))) (.ptr 2 ((a:Int).toNat*1+0))) (yU zt e)) (ac (hs (.run [2] (jC ZT 3 (.ptr 2 ((a:Int).toNat*1+0)) (.i (w64 (x2+1)))) (.loop .busy none (ofG 30 [(5,.ptr 1 0)]) qa.xp qa.x1 qa.x2::(kT c (kJ c (kV a b)))) .undef (.loop .busy none (ofG 30 [(5,.ptr 1 0)]) qa.xp qa.x1 qa.x2::(kT c (kJ d (kV a b)))) true) (xQ (E:=encI) (l:=c) (y:=w64 (x2+1)) rfl (show _=some 1 by kernel_rfl) rfl e rfl rfl rfl rfl rfl g rfl)) az)))) ?_)
 refine Goes.sub (show Sub (ofG 30 kBR,(.loop .busy none (ofG 30 [(5,.ptr 1 0)]) qa.xp qa.x1 qa.x2::(kT c (kJ d (kV a b))))) (ofG 30 kBR,(.loop .busy none (ofG 30 [(5,.ptr 1 0)]) qa.xp qa.x1 qa.x2::(kT d (kJ d (kV a b)))))from(Sub.norm [] [some 0,some 1,some 2,some 3] (by rw[hB];rfl) rfl (.kp (.kp .nil)) (.kb rfl (.loop rfl (.kp .nil)) (.kb rfl (.cells (rc (.sliceE rfl (jU g)) rn)) (.ks (.kb rfl (.same sn) .nil)))))) ?_
 obtain⟨p,f,h⟩:=bnd h
 obtain⟨n,j,h⟩:=bnd h
 refine gq fol [3,4,6,7] [] (.loop .busy none (ofG 30 [(5,.ptr 1 0)]) qa.xp qa.x1 qa.x2::(kT d (kJ n (kV a b)))) (ac (hs (.done (.opt (qg ZT 22 (.slice 2 0 d.length d.length 1) (.i b))) (.ptr 2 ((b:Int).toNat*1+0))) (yU zt f)) (ac (hs (.run [2] (zJ ZT 3 (.ptr 2 ((b:Int).toNat*1+0))) (.loop .busy none (ofG 30 [(5,.ptr 1 0)]) qa.xp qa.x1 qa.x2::(kT d (kJ d (kV a b)))) (.i p) (.loop .busy none (ofG 30 [(5,.ptr 1 0)]) qa.xp qa.x1 qa.x2::(kT d (kJ d (kV a b)))) false) (qaR ce3 (E:=encI) (l:=d) rfl rfl f (nl rfl) rfl)) (ac (hs (.done (.opt (qg ZT 22 (.slice 2 0 d.length d.length 1) (.i b))) (.ptr 2 ((b:Int).toNat*1+0))) (yU zt f)) (ac (hs (.run [2] (jC ZT 3 (.ptr 2 ((b:Int).toNat*1+0)) (.i (w64 (p-1)))) (.loop .busy none (ofG 30 [(5,.ptr 1 0)]) qa.xp qa.x1 qa.x2::(kT d (kJ d (kV a b)))) .undef (.loop .busy none (ofG 30 [(5,.ptr 1 0)]) qa.xp qa.x1 qa.x2::(kT d (kJ n (kV a b)))) true) (xQ (E:=encI) (l:=d) (y:=w64 (p-1)) rfl (show _=some 1 by kernel_rfl) rfl f rfl rfl rfl rfl rfl j rfl)) az)))) ?_
 obtain rfl:=si h
 exact⟨_,(show Sub (ofG 30 [],(.loop .busy none (ofG 30 [(5,.ptr 1 0)]) qa.xp qa.x1 qa.x2::(kT d (kJ n (kV a b))))) (ofG 30 [],(.loop .busy none (ofG 30 [(5,.ptr 1 0)]) qa.xp qa.x1 qa.x2::(kT n (kA n))))from(Sub.norm [] [some 0,some 1,some 2] (by rw[hB];rfl) rfl .nil (.kb rfl (.loop rfl (.kp .nil)) (.kb rfl (.cells (rc (.sliceE rfl (jU j)) rn)) (.ks .nil))))),⟨_,_,rfl,(yc.refl _ _)⟩⟩
def qz (b:List Int):Nat->(List Int)->(List Int)->Int->Option (List Int)
 |0,_,_,_=>none
 |K+1,k,g,h=>
  if h<(b.length:Int)then
  (idx b h).bind fun c=>
  (yC c).bind fun a=>
  (idx g (w64 (a-1))).bind fun d=>
  (idx g (w64 ((w64 (a-1))+1))).bind fun e=>
  (jl k c d e).bind fun i=>
  (put g (w64 (a-1)) e).bind fun f=>
  (idx f (w64 ((w64 (a-1))+1))).bind fun l=>
  (put f (w64 ((w64 (a-1))+1)) d).bind fun j=>
  qz b K i j (w64 (h+1))
  else
  some k
def zC (N:Nat) (a:List Int) (b:Int) (c:List Int):Option (List Int):=
 (zn N b).bind fun d=>
 (qz c N a d 0).bind fun e=>
 some e
theorem yn (N:Nat) (r:List Int) (d:Int) (a:List Int) {J:List Int} (h:zC N r d a=some J):qb ZT (.fn 185) [.yld 0,.ptr 3 0,.ptr 4 0] (.loop .ready none (ofG 30 [(5,.ptr 1 0)]) qa.xp qa.x1 qa.x2::(kC r d a [])) (.tuple []) (.loop .ready none (ofG 30 [(5,.ptr 1 0)]) qa.xp qa.x1 qa.x2::(kC J d a [])):=by
 unfold zC at h
 refine Uh Tryz.func185 rfl rfl (m:=50) rfl (rs:=[]) rfl (l:=[(0,.yld 0),(1,.ptr 3 0),(2,.ptr 4 0)]) rfl ?_
 intro B hB
 refine Goes.subQ ?_
 obtain⟨G,H,h⟩:=bnd h
 refine sq (gq fol [1] ((0,.yld 0)::(2,.ptr 4 0)::(kAK G [])) (.loop .ready none (ofG 30 [(5,.ptr 1 0)]) qa.xp qa.x1 qa.x2::(kC r d a (kA G))) (ac (hs (.callH 131 [.i d] (.loop .ready none (ofG 30 [(5,.ptr 1 0)]) qa.xp qa.x1 qa.x2::(kC r d a [])) [] (.slice 5 0 G.length G.length 1) (.loop .ready none (ofG 30 [(5,.ptr 1 0)]) qa.xp qa.x1 qa.x2::(kC r d a (kA G)))) (jb [] [none,none,none,none,none,some 0] (vz N d H) .nil rfl rfl (.old rfl rfl (.old rfl rfl (.old rfl rfl (.old rfl rfl (.old rfl rfl (.new rfl rfl (.same fa) rfl .nil)))))) (rc (.same nI) rn) (.slice rfl) rfl)) az) ?_)
 refine sh fol ((0,.yld 0)::(kAK G (kP a (a.length:Int) [(12,.i 0)]))) ?_
 refine Goes.block ?_
 obtain⟨K,g8,h⟩:=bnd h
 refine Goes.imp (Q:=fun x s'=>(x= .exit 0/\ ∃I,I=K/\Sub s' (ofG 50 [],(.loop .ready none (ofG 30 [(5,.ptr 1 0)]) qa.xp qa.x1 qa.x2::(kC I d a []))))) ?_ ?_
 ·refine Uc (fun M s=> ∃(z:List Int) (f:List Int) (o:Int),s=(ofG 50 ((0,.yld 0)::(kAK f (kP a (a.length:Int) [(12,.i o)]))),(.loop .ready none (ofG 30 [(5,.ptr 1 0)]) qa.xp qa.x1 qa.x2::(kC z d a (kA f))))/\qz a M z f o=some K) ?_ (m:=N) ⟨_,_,_,rfl,g8⟩
  rintro M s ⟨z,f,o,rfl,g8⟩
  cases M with
  |zero=>simp only[qz]at g8;cases g8
  |succ M=>
   rw[qz]at g8
   refine sh fol ((0,.yld 0)::(kAK f (kP a (a.length:Int) [(12,.i o),(13,.bool (decide (o<(a.length:Int))))]))) ?_
   refine sq ?_
   refine ihD g8 (fun L g8=>?_) (fun L g8=>?_)
   ·refine Goes.skip ?_
    refine sq (Goes.block ?_)
    obtain⟨t,u,g8⟩:=bnd g8
    refine sq (gr fol [0,1] ((0,.yld 0)::(kAK f ((6,.i t)::(kP a (a.length:Int) [(12,.i o)])))) (ac (iv zt encI u) (ac (lv 0 ce3 encI u rfl) az)) ?_)
    obtain⟨e,A,g8⟩:=bnd g8
    refine sq (gr fol [1] ((0,.yld 0)::(kAK f ((6,.i t)::(7,.i (w64 (e-1)))::(kP a (a.length:Int) [(12,.i o)])))) (ac (cv (qcg t A)) az) ?_)
    refine sq ?_
    obtain⟨p,j,g8⟩:=bnd g8
    obtain⟨q,k,g8⟩:=bnd g8
    obtain⟨g,C,g8⟩:=bnd g8
    refine sq (gq fol [4,5,9,10,12] ((0,.yld 0)::(kAK f ((7,.i (w64 (e-1)))::(kP a (a.length:Int) [(12,.i o),(32,.bool false)])))) (.loop .ready none (ofG 30 [(5,.ptr 1 0)]) qa.xp qa.x1 qa.x2::(kC g d a (kA f))) (ac (hs (.done (.opt (qg ZT 22 (.slice 5 0 f.length f.length 1) (.i (w64 (e-1))))) (.ptr 5 ((w64 (e-1):Int).toNat*1+0))) (yU zt j)) (ac (hs (.run [5] (zJ ZT 3 (.ptr 5 ((w64 (e-1):Int).toNat*1+0))) (.loop .ready none (ofG 30 [(5,.ptr 1 0)]) qa.xp qa.x1 qa.x2::(kC z d a (kA f))) (.i p) (.loop .ready none (ofG 30 [(5,.ptr 1 0)]) qa.xp qa.x1 qa.x2::(kC z d a (kA f))) false) (qaR ce3 (E:=encI) (l:=f) rfl rfl j (nl rfl) rfl)) (ac (hs (.done (.opt (qg ZT 22 (.slice 5 0 f.length f.length 1) (.i (w64 ((w64 (e-1))+1))))) (.ptr 5 ((w64 ((w64 (e-1))+1):Int).toNat*1+0))) (yU zt k)) (ac (hs (.run [5] (zJ ZT 3 (.ptr 5 ((w64 ((w64 (e-1))+1):Int).toNat*1+0))) (.loop .ready none (ofG 30 [(5,.ptr 1 0)]) qa.xp qa.x1 qa.x2::(kC z d a (kA f))) (.i q) (.loop .ready none (ofG 30 [(5,.ptr 1 0)]) qa.xp qa.x1 qa.x2::(kC z d a (kA f))) false) (qaR ce3 (E:=encI) (l:=f) rfl rfl k (nl rfl) rfl)) (ac (hs (.callH (.rd 0) [.i t,.agg [.i p,.i q]] (.loop .ready none (ofG 30 [(5,.ptr 1 0)]) qa.xp qa.x1 qa.x2::(kC z d a (kA f))) [0,1,2] (.bool true) (.loop .ready none (ofG 30 [(5,.ptr 1 0)]) qa.xp qa.x1 qa.x2::(kC g d a (kA f)))) (qhd [some 0,some 1,some 2] [some 0,some 1,some 2,none,none,none] (qaz z t p q C) rfl (.kb rfl (.loop rfl (.kp .nil)) (.kb rfl (.cells (rc (.slice rfl) rn)) (.ks .nil))) rfl rfl (.back rfl rfl (.loop rfl (.kp .nil)) rfl (.back rfl rfl (.cells (rc (.slice rfl) rn)) rfl (.back rfl rfl (.same fa) rfl (.old rfl rfl (.old rfl rfl (.old rfl rfl .nil)))))) (rc (.same nI) (rc (.same (qj.agg sn)) rn)) (.same nB) rfl)) az))))) ?_)
    refine Goes.ifB (b:=false) (by kernel_rfl) (fun c=>(by cases c)) (fun _=>?_)
    refine Goes.skip ?_
    obtain⟨D,v,g8⟩:=bnd g8
    obtain⟨O,F,g8⟩:=bnd g8
    obtain⟨n,w,g8⟩:=bnd g8
    refine gq fol [8,9,12,13,14,15,16,17] ((0,.yld 0)::(kAK f (kP a (a.length:Int) [(12,.i o)]))) (.loop .ready none (ofG 30 [(5,.ptr 1 0)]) qa.xp qa.x1 qa.x2::(kC g d a (kA n))) (ac (hs (.done (.opt (qg ZT 22 (.slice 5 0 f.length f.length 1) (.i (w64 ((w64 (e-1))+1))))) (.ptr 5 ((w64 ((w64 (e-1))+1):Int).toNat*1+0))) (yU zt k)) (ac (hs (.run [5] (zJ ZT 3 (.ptr 5 ((w64 ((w64 (e-1))+1):Int).toNat*1+0))) (.loop .ready none (ofG 30 [(5,.ptr 1 0)]) qa.xp qa.x1 qa.x2::(kC g d a (kA f))) (.i q) (.loop .ready none (ofG 30 [(5,.ptr 1 0)]) qa.xp qa.x1 qa.x2::(kC g d a (kA f))) false) (qaR ce3 (E:=encI) (l:=f) rfl rfl k (nl rfl) rfl)) (ac (hs (.done (.opt (qg ZT 22 (.slice 5 0 f.length f.length 1) (.i (w64 (e-1))))) (.ptr 5 ((w64 (e-1):Int).toNat*1+0))) (yU zt j)) (ac (hs (.run [5] (zJ ZT 3 (.ptr 5 ((w64 (e-1):Int).toNat*1+0))) (.loop .ready none (ofG 30 [(5,.ptr 1 0)]) qa.xp qa.x1 qa.x2::(kC g d a (kA f))) (.i p) (.loop .ready none (ofG 30 [(5,.ptr 1 0)]) qa.xp qa.x1 qa.x2::(kC g d a (kA f))) false) (qaR ce3 (E:=encI) (l:=f) rfl rfl j (nl rfl) rfl)) (ac (hs (.done (.opt (qg ZT 22 (.slice 5 0 f.length f.length 1) (.i (w64 (e-1))))) (.ptr 5 ((w64 (e-1):Int).toNat*1+0))) (yU zt j)) (ac (hs (.run [5] (jC ZT 3 (.ptr 5 ((w64 (e-1):Int).toNat*1+0)) (.i q)) (.loop .ready none (ofG 30 [(5,.ptr 1 0)]) qa.xp qa.x1 qa.x2::(kC g d a (kA f))) .undef (.loop .ready none (ofG 30 [(5,.ptr 1 0)]) qa.xp qa.x1 qa.x2::(kC g d a (kA D))) true) (xQ (E:=encI) (l:=f) (y:=q) rfl (show _=some 1 by kernel_rfl) rfl j rfl rfl rfl rfl rfl v rfl)) (ac (hs (.done (.opt (qg ZT 22 (.slice 5 0 f.length f.length 1) (.i (w64 ((w64 (e-1))+1))))) (.ptr 5 ((w64 ((w64 (e-1))+1):Int).toNat*1+0))) (yU zt k)) (ac (hs (.run [5] (jC ZT 3 (.ptr 5 ((w64 ((w64 (e-1))+1):Int).toNat*1+0)) (.i p)) (.loop .ready none (ofG 30 [(5,.ptr 1 0)]) qa.xp qa.x1 qa.x2::(kC g d a (kA D))) .undef (.loop .ready none (ofG 30 [(5,.ptr 1 0)]) qa.xp qa.x1 qa.x2::(kC g d a (kA n))) true) (xQ (E:=encI) (l:=D) (y:=p) rfl (show _=some 1 by kernel_rfl) rfl F rfl rfl rfl rfl rfl w rfl)) az)))))))) ?_
    refine Goes.sub (show Sub (ofG 50 ((0,.yld 0)::(kAK f (kP a (a.length:Int) [(12,.i o)]))),(.loop .ready none (ofG 30 [(5,.ptr 1 0)]) qa.xp qa.x1 qa.x2::(kC g d a (kA n)))) (ofG 50 ((0,.yld 0)::(kAK n (kP a (a.length:Int) [(12,.i o)]))),(.loop .ready none (ofG 30 [(5,.ptr 1 0)]) qa.xp qa.x1 qa.x2::(kC g d a (kA n))))from(Sub.norm [] [some 0,some 1,some 2,some 3,some 4,some 5] (by rw[hB];rfl) rfl (.keep (.yld rfl) (.keep (.sliceE rfl ((jU v).trans (jU w))) (.keep (.same (qf encI _)) (.keep (.same nI) (.keep (.same nI) .nil))))) (.kb rfl (.loop rfl (.kp .nil)) (.kb rfl (.cells (rc (.slice rfl) rn)) (.ks (.kb rfl (.same sn) (.kb rfl (.same sn) (.ks .nil)))))))) ?_
    refine gh fol ((0,.yld 0)::(kAK n (kP a (a.length:Int) [(12,.i (w64 (o+1)))]))) ?_
    exact⟨M,(ofG 50 ((0,.yld 0)::(kAK n (kP a (a.length:Int) [(12,.i (w64 (o+1)))]))),(.loop .ready none (ofG 30 [(5,.ptr 1 0)]) qa.xp qa.x1 qa.x2::(kC g d a (kA n)))),Nat.lt_succ_self _,(Sub.refl _),_,_,_,rfl,g8⟩
   refine Goes.exit ?_
   obtain rfl:=si g8
   exact⟨rfl,_,rfl,(Sub.norm [] [some 0,some 1,some 2,some 3,some 4] (by rw[hB];rfl) rfl .nil (.kb rfl (.loop rfl (.kp .nil)) (.kb rfl (.cells (rc (.slice rfl) rn)) (.ks (.kb rfl (.same sn) (.kb rfl (.same sn) .nil))))))⟩
 rintro x s' ⟨rfl,I,rfl,hsub⟩
 obtain rfl:=si h
 exact⟨_,hsub,(gh2 [] (yc.refl _ _))⟩
def vR (N:Nat) (n:Int) (w:List Int):Option (List Int):=
 (zn N n).bind fun a=>
 (zM n w).bind fun _=>
 (zC N a n w).bind fun b=>
 some b
theorem qbJ (N:Nat) (n:Int) (w:List Int) {res:List Int} (h:vR N n w=some res):qb ZT (.fn 93) (kAk n w) [] (vl encI res) []:=by
 unfold vR at h
 refine Ub Tryz.func93 rfl rfl (m:=30) rfl (rs:=[.tmp 4]) rfl (l:=(kB n w [])) rfl ?_
 refine sh fol (kB n w []) ?_
 obtain⟨a,c,h⟩:=bnd h
 refine sq (gq fol [1] (kB n w [(5,.ptr 1 0)]) (kJ a [.cells [.slice 0 0 a.length a.length 1]]) (ac (hs (.callH 131 [.i n] [] [] (.slice 0 0 a.length a.length 1) (kA a)) (jb [] [some 0] (vz N n c) .nil rfl rfl (.new rfl rfl (.same fa) rfl .nil) (rc (.same nI) rn) (.slice rfl) rfl)) az) ?_)
 refine sq ?_
 obtain⟨_,d,h⟩:=bnd h
 refine sq (gq fol [2] [(5,.ptr 1 0),(12,.func (.func 185) [] [.ptr 2 0,.ptr 3 0])] (kJ a (kAG a n w [])) (ac (hs (.callH 144 (kAk n w) (kJ a [.cells [.slice 0 0 a.length a.length 1]]) [] (.func (.func 185) [] [.ptr 2 0,.ptr 3 0]) (kJ a (kAG a n w []))) (jb [] [none,none,some 0,some 1] (yY n w d) .nil rfl rfl (.old rfl rfl (.old rfl rfl (.new rfl rfl (.cells (rc (.same nI) rn)) rfl (.new rfl rfl (.cells (rc (.same (qf encI _)) rn)) rfl .nil)))) (rc (.same nI) (rc (.same (qf encI _)) rn)) (.funcL (sn) (rc (.ptr rfl) (rc (.ptr rfl) rn))) rfl)) az) ?_)
 refine Goes.block ?_
 obtain⟨b,e,h⟩:=bnd h
 refine Goes.range fol rfl (gf:=185) (first:=[]) (captured:=[.ptr 2 0,.ptr 3 0]) (v:= .tuple []) (A2:=(kJ b (kAG b n w [.loop .ready none (ofG 30 [(5,.ptr 1 0)]) qa.xp qa.x1 qa.x2]))) (s':=(ofG 30 [(5,.ptr 1 0),(12,.func (.func 185) [] [.ptr 2 0,.ptr 3 0])],(kJ b (kAG b n w [.loop .exhausted none (ofG 30 [(5,.ptr 1 0)]) qa.xp qa.x1 qa.x2])))) (x:= .normal) (by kernel_rfl) (by kernel_rfl) (qfI (show(Obl.callH 185 [.yld 4,.ptr 2 0,.ptr 3 0] (kJ a (kAG a n w [.loop .ready none (ofG 30 [(5,.ptr 1 0),(12,.func (.func 185) [] [.ptr 2 0,.ptr 3 0])]) qa.xp qa.x1 qa.x2])) [4,1,0,2,3] (.tuple []) (kJ b (kAG b n w [.loop .ready none (ofG 30 [(5,.ptr 1 0)]) qa.xp qa.x1 qa.x2]))).Holds ZT from jb [some 4,some 1,some 0,some 2,some 3] [some 2,some 1,some 3,some 4,some 0] (yn N a n w e) (.kb rfl (.loop rfl (.kp (.drop .nil))) (.kb rfl (.cells (rc (.slice rfl) rn)) (.ks (.kb rfl (.cells (rc (.same nI) rn)) (.kb rfl (.cells (rc (.same (qf encI _)) rn)) .nil))))) rfl rfl (.back rfl rfl (.same fa) rfl (.back rfl rfl (.cells (rc (.slice rfl) rn)) rfl (.back rfl rfl (.cells (rc (.same nI) rn)) rfl (.back rfl rfl (.cells (rc (.same (qf encI _)) rn)) rfl (.back rfl rfl (.loop rfl (.kp .nil)) rfl .nil))))) (rc (.yld rfl) (rc (.ptr rfl) (rc (.ptr rfl) rn))) (.same (qj.tuple sn)) rfl)) (by kernel_rfl) ?_
 refine Goes.sub (show Sub (ofG 30 [(5,.ptr 1 0),(12,.func (.func 185) [] [.ptr 2 0,.ptr 3 0])],(kJ b (kAG b n w [.loop .exhausted none (ofG 30 [(5,.ptr 1 0)]) qa.xp qa.x1 qa.x2]))) (ofG 30 (kX [(12,.func (.func 185) [] [.ptr 2 0,.ptr 3 0])]),(.cells [.slice 1 0 b.length b.length 1]::(kJ b (kAu n (kAm w [])))))from(Sub.norm [] [some 1,some 0,some 2,some 3] rfl rfl (.kp (.keep (.funcL (sn) (rc (.ptr rfl) (rc (.ptr rfl) rn))) .nil)) (.kb rfl (.cells (rc (.slice rfl) rn)) (.ks (.kb rfl (.same sn) (.kb rfl (.same sn) .nil)))))) ?_
 refine sh fol [(4,.slice 1 0 b.length b.length 1)] ?_
 refine Goes.ret ?_
 obtain rfl:=si h
 exact(gw2 [.slice 1 0 b.length b.length 1] (FzW.fz (Fz.sl (E:=encI) rfl rfl (nl rfl))))
def yT (N:Nat) (n:Int) (w:List Int):Option ((List Int)×Int):=
 (qR N n w).bind fun a=>
 if(!decide (a=0))=true then
 some ([],a)
 else
 (vR N n w).bind fun b=>
 some (b,0)
theorem qbH (N:Nat) (n:Int) (w:List Int) {res:(List Int)×Int} (h:yT N n w=some res):qb ZT (.fn 34) (kAk n w) [] (.tuple (kAT res.1 res.2)) []:=by
 unfold yT at h
 refine Ub Tryz.func34 rfl rfl (m:=16) rfl (rs:=[.tmp 4,.tmp 5]) rfl (l:=(kB n w [])) rfl ?_
 refine sh fol (kB n w []) ?_
 refine sq ?_
 obtain⟨a,b,h⟩:=bnd h
 refine sq (gr fol [2] (kB n w (kBQ a)) (ac (cv (zf N n w b)) az) ?_)
 refine sh fol (kB n w ((6,.i a)::(kBC (!decide (a=0))))) ?_
 refine ihB h (fun e h=>?_) (fun e h=>?_)
 ·refine sh fol (kBM (kAc a)) ?_
  refine Goes.ret ?_
  obtain rfl:=si h
  exact(gw2 (kAd a) (FzW.tuple (zY.cons (FzW.nilv (E:=encI)) (zY.cons (Ua tI) zY.nil))))
 refine Goes.skip ?_
 obtain⟨d,c,h⟩:=bnd h
 refine sq (gr fol [2] ((4,vl encI d)::kBO) (ac (cv (qbJ N n w c)) az) ?_)
 refine Goes.ret ?_
 obtain rfl:=si h
 exact(gw2 [vl encI d,.i 0] (FzW.tuple (zY.cons (Ua (zH encI _ (nl rfl))) (zY.cons (Ua tI) zY.nil))))
def vM (a:Int):Option Int:=
 some (if(if a<1 then a else 1)>(-1)then(if a<1 then a else 1)else(-1))
theorem qbK (a:Int) {res:Int} (h:vM a=some res):qb ZT (.fn 102) [.i a] [] (.i res) []:=by
 unfold vM at h
 refine Ub Tryz.func102 rfl rfl (m:=6) rfl (rs:=[.tmp 2]) rfl (l:=(kBT a)) rfl ?_
 refine sh fol (kBT a) ?_
 refine sh fol [(2,.i (if(if a<1 then a else 1)>(-1)then(if a<1 then a else 1)else(-1)))] ?_
 refine Goes.ret ?_
 obtain rfl:=si h
 exact(gw2 [.i (if(if a<1 then a else 1)>(-1)then(if a<1 then a else 1)else(-1))] (Ua tI))
def kE (w:List Int):Nat->Int->Int->Option Int
 |0,_,_=>none
 |K+1,b,a=>
  if a<(w.length:Int)then
  (idx w a).bind fun c=>
  (vM c).bind fun d=>
  kE w K (w64 (b+d)) (w64 (a+1))
  else
  some b
def jG (N:Nat) (w:List Int):Option Int:=
 (kE w N 0 0).bind fun a=>
 some a
theorem qaw (N:Nat) (w:List Int) {res:Int} (h:jG N w=some res):qb ZT (.fn 94) [vl encI w] [] (.i res) []:=by
 unfold jG at h
 refine Ub Tryz.func94 rfl rfl (m:=18) rfl (rs:=[.tmp 2]) rfl (l:=(kH w [])) rfl ?_
 refine sh fol (kH w []) ?_
 refine sh fol (kH w [(3,.i 0)]) ?_
 refine sq ?_
 refine sh fol ((3,.i 0)::(kM w (w.length:Int) [(8,.i 0)])) ?_
 refine Goes.block ?_
 obtain⟨g,g4,h⟩:=bnd h
 refine Goes.imp (Q:=fun x s'=>(x= .exit 0/\ ∃d,d=g/\Sub s' (ofG 18 (kAy d),[]))) ?_ ?_
 ·refine Uc (fun M s=> ∃(b:Int) (a:Int),s=(ofG 18 ((3,.i b)::(kM w (w.length:Int) (kA2 a))),[])/\kE w M b a=some g) ?_ (m:=N) ⟨_,_,rfl,g4⟩
  rintro M s ⟨b,a,rfl,g4⟩
  cases M with
  |zero=>simp only[kE]at g4;cases g4
  |succ M=>
   rw[kE]at g4
   refine sh fol ((3,.i b)::(kM w (w.length:Int) [(8,.i a),(9,.bool (decide (a<(w.length:Int))))])) ?_
   refine sq ?_
   refine ihD g4 (fun k g4=>?_) (fun k g4=>?_)
   ·refine Goes.skip ?_
    refine sq (Goes.block ?_)
    obtain⟨j,c,g4⟩:=bnd g4
    refine sq (gr fol [0,1] ((3,.i b)::(5,.i j)::(kM w (w.length:Int) (kA2 a))) (ac (iv zt encI c) (ac (lv 0 ce3 encI c rfl) az)) ?_)
    obtain⟨f,e,g4⟩:=bnd g4
    refine gr fol [2] ((3,.i (w64 (b+f)))::(kM w (w.length:Int) (kA2 a))) (ac (cv (qbK j e)) az) ?_
    refine gh fol ((3,.i (w64 (b+f)))::(kM w (w.length:Int) (kA2 (w64 (a+1))))) ?_
    exact⟨M,(ofG 18 ((3,.i (w64 (b+f)))::(kM w (w.length:Int) (kA2 (w64 (a+1))))),[]),Nat.lt_succ_self _,(Sub.refl _),_,_,rfl,g4⟩
   refine Goes.exit ?_
   obtain rfl:=si g4
   exact⟨rfl,_,rfl,(Sub.keep [3] rfl rfl)⟩
 rintro x s' ⟨rfl,d,rfl,hsub⟩
 refine Goes.sub hsub ?_
 refine sh fol [(2,.i d)] ?_
 refine Goes.ret ?_
 obtain rfl:=si h
 exact(gw2 [.i d] (Ua tI))
def jJ (N:Nat) (n:Int) (w:List Int):Option (Int×Int):=
 (qR N n w).bind fun a=>
 if(!decide (a=0))=true then
 some (0,a)
 else
 (jG N w).bind fun b=>
 some (b,0)
theorem qaq (N:Nat) (n:Int) (w:List Int) {res:Int×Int} (h:jJ N n w=some res):qb ZT (.fn 35) (kAk n w) [] (.tuple [.i res.1,.i res.2]) []:=by
 unfold jJ at h
 refine Ub Tryz.func35 rfl rfl (m:=15) rfl (rs:=[.tmp 4,.tmp 5]) rfl (l:=(kB n w [])) rfl ?_
 refine sh fol (kB n w []) ?_
 refine sq ?_
 obtain⟨a,b,h⟩:=bnd h
 refine sq (gr fol [2] (kQ w (kBQ a)) (ac (cv (zf N n w b)) az) ?_)
 refine sh fol (kQ w ((6,.i a)::(kBC (!decide (a=0))))) ?_
 refine ihB h (fun e h=>?_) (fun e h=>?_)
 ·refine sh fol ((4,.i 0)::(kAc a)) ?_
  refine Goes.ret ?_
  obtain rfl:=si h
  exact(gw2 [.i 0,.i a] (FzW.tuple (zY.cons (Ua tI) (zY.cons (Ua tI) zY.nil))))
 refine Goes.skip ?_
 obtain⟨d,c,h⟩:=bnd h
 refine sq (gr fol [1] ((4,.i d)::kBO) (ac (cv (qaw N w c)) az) ?_)
 refine Goes.ret ?_
 obtain rfl:=si h
 exact(gw2 [.i d,.i 0] (FzW.tuple (zY.cons (Ua tI) (zY.cons (Ua tI) zY.nil))))
def qV (b:List Int):Nat->(Option (List Int))->Int->Option (Option (List Int))
 |0,_,_=>none
 |K+1,r,h=>
  if h<(b.length:Int)then
  (((idx b h).bind fun g=>
  ((match r with
  |none=>
  some ((none:Option (List Int)),0)
  |some c=>
  some ((some c),(c.length:Int))):Option ((Option (List Int))×Int)).bind fun(d,a)=>
  (if a>0 then
  (match d with
  |none=>
  (idx ([]:List Int) (w64 (a-1))).bind fun i=>
  some ((none:Option (List Int)),decide (i=(w64 (0-g))))
  |some e=>
  (idx e (w64 (a-1))).bind fun j=>
  some ((some e),decide (j=(w64 (0-g)))))
  else
  some (d,false):Option ((Option (List Int))×Bool)).bind fun(f,k)=>
  if k=true then
  ((match f with
  |none=>
  (cut ([]:List Int) 0 (w64 (a-1))).bind fun s=>
  some (none:Option (List Int))
  |some l=>
  (cut l 0 (w64 (a-1))).bind fun m=>
  some (some m)):Option (Option (List Int))).bind fun n=>
  some n
  else
  ((match f with
  |none=>
  some ([g]:List Int)
  |some o=>
  (app 8 o [g]).bind fun p=>
  some p):Option (List Int)).bind fun q=>
  some (some q):Option (Option (List Int)))).bind fun t=>
  qV b K t (w64 (h+1))
  else
  some r
def jd (N:Nat) (a:List Int):Option (Option (List Int)):=
 (qV a N (none:Option (List Int)) 0).bind fun b=>
 some b
theorem xL (N:Nat) (a:List Int) {O:Option (List Int)} (h:jd N a=some O):qb ZT (.fn 95) [vl encI a] [] (hsl 0 1 O) (kO O):=by
 unfold jd at h
 refine Uh Tryz.func95 rfl rfl (m:=37) rfl (rs:=[.tmp 2]) rfl (l:=(kH a [])) rfl ?_
 intro B hB
 refine sh fol (kH a []) ?_
 refine sh fol (kH a (kAs [])) ?_
 refine sq ?_
 refine sh fol (kAs [(7,vl encI a),(8,.i (a.length:Int)),(9,.i 0)]) ?_
 refine Goes.block ?_
 obtain⟨V,g5,h⟩:=bnd h
 refine Goes.imp (Q:=fun x s'=>(x= .exit 0/\ ∃I,I=V/\Sub s' (ofG 37 (kBS I []),(kO I)))) ?_ ?_
 ·refine Goes.sub (s':=(ofG 37 [(3,hsl 0 1 (none:Option (List Int))),(7,vl encI a),(8,.i (a.length:Int)),(9,.i 0)],[.cells ((hof (none:Option (List Int))).flatMap encI.c)])) (Sub.norm [] [none] (by rw[hB];rfl) rfl (.keep qK.hs0 (.keep (.same (qf encI _)) (.keep (.same nI) (.keep (.same nI) .nil)))) (.fresh .nil)) ?_
  refine Uc (fun M s=> ∃(z:Option (List Int)) (j:Int),s=(ofG 37 (kBS z (kN a (a.length:Int) j [])),(kO z))/\qV a M z j=some V) ?_ (m:=N) ⟨_,_,rfl,g5⟩
  rintro M s ⟨z,j,rfl,g5⟩
  cases M with
  |zero=>simp only[qV]at g5;cases g5
  |succ M=>
   unfold qV at g5
   refine sh fol (kBS z (kN a (a.length:Int) j (kAq (decide (j<(a.length:Int)))))) ?_
   refine sq ?_
   refine ihD g5 (fun W g5=>?_) (fun W g5=>?_)
   ·refine Goes.skip ?_
    refine sq ?_
    obtain⟨X,g8,g5⟩:=bnd g5
    refine Goes.imp (Q:=fun x s'=>(x= .normal/\ ∃A,A=X/\Sub s' (ofG 37 (kBS A (kN a (a.length:Int) j [])),(kO A)))) ?_ ?_
    ·refine Goes.block ?_
     obtain⟨k,y,g8⟩:=bnd g8
     refine sq (gr fol [0,1] (kBS z ((5,.i k)::(kN a (a.length:Int) j []))) (ac (iv zt encI y) (ac (lv 0 ce3 encI y rfl) az)) ?_)
     refine sq ?_
     refine sq ?_
     obtain⟨⟨t,e⟩,f,g8⟩:=bnd g8
     refine Ui (s':=(ofG 37 (kBS t ((5,.i k)::(6,.i e)::(kN a (a.length:Int) j []))),(kO t))) ?_ ?_
     ·rcases z with _|C
      ·try dsimp only at f
       simp only[ZI,ZP]at f
       obtain⟨rfl,rfl⟩:=f
       exact qo.sub (qo.rg fol (kAs ((5,.i k)::(6,.i 0)::(kN a (a.length:Int) j []))) [.cells ((hof (none:Option (List Int))).flatMap encI.c)]) (Sub.norm [] [none] (by rw[hB];rfl) rfl (.keep qK.hs0 (.keep (.same nI) (.keep (.same nI) (.keep (.same (qf encI _)) (.keep (.same nI) (.keep (.same nI) .nil)))))) (.fresh .nil))
      try dsimp only at f
      simp only[ZI,ZP]at f
      obtain⟨rfl,rfl⟩:=f
      exact qo.sub (qo.rg fol (kAC C ((5,.i k)::(6,.i (C.length:Int))::(kN a (a.length:Int) j []))) (kA C)) (Sub.norm [] [some 0] (by rw[hB];rfl) rfl (.keep (qK.hs1 rfl) (.keep (.same nI) (.keep (.same nI) (.keep (.same (qf encI _)) (.keep (.same nI) (.keep (.same nI) .nil)))))) (.ks .nil))
     intro _ hsub
     try dsimp only at g8
     refine Goes.sub hsub ?_
     refine sq ?_
     obtain⟨⟨u,P⟩,b,g8⟩:=bnd g8
     refine Ui (s':=(ofG 37 (kBS u ((5,.i k)::(6,.i e)::(kN a (a.length:Int) j [(26,.bool P)]))),(kO u))) ?_ ?_
     ·rcases wyD b with⟨v,b⟩|⟨v,b⟩
      ·rcases t with _|n
       ·try dsimp only at b
        obtain⟨T,o,b⟩:=bnd b
        simp only[ZI,ZP]at b
        obtain⟨rfl,rfl⟩:=b
        exact qo.sub (qo.rq fol [2,6,7] (kAs ((5,.i k)::(6,.i e)::(kN a (a.length:Int) j [(26,.bool (decide (T=(w64 (0-k)))))]))) [.cells ((hof (none:Option (List Int))).flatMap encI.c)] (ac (gw v) (ac (hs (.done (.opt (qg ZT 22 (.nilslice) (.i (w64 (e-1))))) (.fptr (([]:List Int).flatMap encI.c) ((w64 (e-1):Int).toNat*1+0))) (qfG o)) (ac (lv 0 ce3 encI o rfl) az)))) (Sub.norm [] [none] (by rw[hB];rfl) rfl (.keep qK.hs0 (.keep (.same nI) (.keep (.same nI) (.keep (.same (qf encI _)) (.keep (.same nI) (.keep (.same nI) (.keep (.same nB) .nil))))))) (.fresh .nil))
       try dsimp only at b
       obtain⟨J,p,b⟩:=bnd b
       simp only[ZI,ZP]at b
       obtain⟨rfl,rfl⟩:=b
       exact qo.sub (qo.rq fol [2,6,7] (kAC n ((5,.i k)::(6,.i e)::(kN a (a.length:Int) j [(26,.bool (decide (J=(w64 (0-k)))))]))) (kA n) (ac (gw v) (ac (hs (.done (.opt (qg ZT 22 (.oslice 0 n.length 1) (.i (w64 (e-1))))) (.ptr 0 ((w64 (e-1):Int).toNat*1+0))) (qgD zt p)) (ac (hs (.run [0] (zJ ZT 3 (.ptr 0 ((w64 (e-1):Int).toNat*1+0))) (kA n) (.i J) (kA n) false) (qaR ce3 (E:=encI) (l:=n) rfl rfl p (nl rfl) rfl)) az)))) (Sub.norm [] [some 0] (by rw[hB];rfl) rfl (.keep (qK.hs1 rfl) (.keep (.same nI) (.keep (.same nI) (.keep (.same (qf encI _)) (.keep (.same nI) (.keep (.same nI) (.keep (.same nB) .nil))))))) (.ks .nil))
      simp only[ZI,ZP]at b
      obtain⟨rfl,rfl⟩:=b
      exact qo.sub (tr fol [2] (kBS t ((5,.i k)::(6,.i e)::(kN a (a.length:Int) j [(26,.bool false)]))) (ac (gw v) az)) (Sub.refl _)
     intro _ hsub
     try dsimp only at g8
     refine Goes.sub hsub ?_
     refine ihB g8 (fun U g8=>?_) (fun U g8=>?_)
     ·refine sq ?_
      obtain⟨K,d,g8⟩:=bnd g8
      refine Ui (s':=(ofG 37 (kBS K (kN a (a.length:Int) j [])),(kO K))) ?_ ?_
      ·rcases u with _|D
       ·try dsimp only at d
        obtain⟨Y,F,d⟩:=bnd d
        obtain rfl:=si d
        exact qo.sub (qo.rq fol [3] (kAs (kN a (a.length:Int) j [])) [.cells ((hof (none:Option (List Int))).flatMap encI.c)] (ac (hs (.done (.opt (vS ZT 22 .nilslice none (some (.i (w64 (e-1)))) none)) .nilslice) (qeU (α:=Int) zt none (some (w64 (e-1))) F)) az)) (Sub.norm [] [none] (by rw[hB];rfl) rfl (.keep qK.hs0 (.keep (.same (qf encI _)) (.keep (.same nI) (.keep (.same nI) .nil)))) (.fresh .nil))
       try dsimp only at d
       obtain⟨q,r,d⟩:=bnd d
       obtain rfl:=si d
       exact qo.sub (qo.rq fol [3] (kAC q (kN a (a.length:Int) j [])) (kA D) (ac (hs (.done (.opt (vS ZT 22 (.oslice 0 D.length 1) none (some (.i (w64 (e-1)))) none)) (.oslice 0 q.length 1)) (qgH zt r)) az)) ((show Sub (ofG 37 (kAC q (kN a (a.length:Int) j [])),(kA D)) (ofG 37 (kAC q (kN a (a.length:Int) j [])),(kA q))from(Sub.norm [] [some 0] (by rw[hB];rfl) rfl (.keep (.oslice rfl) (.keep (.same (qf encI _)) (.keep (.same nI) (.keep (.same nI) .nil)))) (.kb rfl (vo.cut r) .nil))).trans (Sub.norm [] [some 0] (by rw[hB];rfl) rfl (.keep (qK.hs1 rfl) (.keep (.same (qf encI _)) (.keep (.same nI) (.keep (.same nI) .nil)))) (.ks .nil)))
      intro _ hsub
      refine Goes.sub hsub ?_
      refine Goes.exit ?_
      obtain rfl:=si g8
      exact⟨rfl,_,rfl,(Sub.refl _)⟩
     refine Goes.skip ?_
     obtain⟨L,g,g8⟩:=bnd g8
     refine Ui (s':=(ofG 37 (kAC L (kN a (a.length:Int) j [])),(kA L))) ?_ ?_
     ·rcases u with _|G
      ·try dsimp only at g
       obtain rfl:=si g
       exact qo.sub (qo.rg fol ((3,.oslice 2 1 1)::(kN a (a.length:Int) j [])) (.cells ((hof (none:Option (List Int))).flatMap encI.c)::(kAu k (kAu k [])))) (Sub.norm [] [some 2] (by rw[hB];rfl) rfl (.keep (qK.osliceE rfl rfl) (.keep (.same (qf encI _)) (.keep (.same nI) (.keep (.same nI) .nil)))) (.ks .nil))
      try dsimp only at g
      obtain⟨w,H,g⟩:=bnd g
      obtain rfl:=si g
      exact qo.sub (qo.rq fol [3] ((3,.oslice 2 w.length 1)::(kN a (a.length:Int) j [])) (kAD k (kA w)) (ac (hs (.run [0,1] (jr ZT [22,22] (.oslice 0 G.length 1) (.slice 1 0 1 1 1)) (kJ G (kAu k [])) (.oslice 2 w.length 1) (kAD k (kA w)) true) (xI zt (E:=encI) rfl (qbW (E:=encI) (ys:=[k]) rfl rfl rfl rfl) (qgF (E:=encI) (l:=G) rfl rfl rfl H rfl))) az)) (Sub.norm [] [some 2] (by rw[hB];rfl) rfl (.keep (.oslice rfl) (.keep (.same (qf encI _)) (.keep (.same nI) (.keep (.same nI) .nil)))) (.ks .nil))
     intro _ hsub
     obtain rfl:=si g8
     exact⟨rfl,_,rfl,(hsub.trans (Sub.norm [] [some 0] (by rw[hB];rfl) rfl (.keep (qK.hs1 rfl) (.keep (.same (qf encI _)) (.keep (.same nI) (.keep (.same nI) .nil)))) (.ks .nil)))⟩
    rintro x s' ⟨rfl,A,rfl,hsub⟩
    refine Goes.sub hsub ?_
    refine gh fol (kBS A (kN a (a.length:Int) (w64 (j+1)) [])) ?_
    exact⟨M,(ofG 37 (kBS A (kN a (a.length:Int) (w64 (j+1)) [])),(kO A)),Nat.lt_succ_self _,(Sub.refl _),_,_,rfl,g5⟩
   refine Goes.exit ?_
   obtain rfl:=si g5
   exact⟨rfl,_,rfl,(Sub.keep [3] rfl rfl)⟩
 rintro x s' ⟨rfl,I,rfl,hsub⟩
 refine Goes.sub hsub ?_
 refine sh fol [(2,hsl 0 1 I)] ?_
 refine Goes.ret ?_
 obtain rfl:=si h
 exact(gh2 [hsl 0 1 I] (yc.refl _ _))
def vF (N:Nat) (n:Int) (w:List Int):Option ((List Int)×Int):=
 (qR N n w).bind fun a=>
 if(!decide (a=0))=true then
 some ([],a)
 else
 (jd N w).bind fun b=>
 some ((hof b),0)
theorem qaU (N:Nat) (n:Int) (w:List Int) {res:(List Int)×Int} (h:vF N n w=some res):qb ZT (.fn 36) (kAk n w) [] (.tuple (kAT res.1 res.2)) []:=by
 unfold vF at h
 refine Ub Tryz.func36 rfl rfl (m:=15) rfl (rs:=[.tmp 4,.tmp 5]) rfl (l:=(kB n w [])) rfl ?_
 refine sh fol (kB n w []) ?_
 refine sq ?_
 obtain⟨a,b,h⟩:=bnd h
 refine sq (gr fol [2] (kQ w (kBQ a)) (ac (cv (zf N n w b)) az) ?_)
 refine sh fol (kQ w ((6,.i a)::(kBC (!decide (a=0))))) ?_
 refine ihB h (fun e h=>?_) (fun e h=>?_)
 ·refine sh fol (kBM (kAc a)) ?_
  refine Goes.ret ?_
  obtain rfl:=si h
  exact(gw2 (kAd a) (FzW.tuple (zY.cons (FzW.nilv (E:=encI)) (zY.cons (Ua tI) zY.nil))))
 refine Goes.skip ?_
 obtain⟨c,d,h⟩:=bnd h
 refine sq (gq fol [1] ((4,hsl 0 1 c)::kBO) (kO c) (ac (hs (.callH 95 [vl encI w] [] [] (hsl 0 1 c) (kO c)) (jb [] [some 0] (xL N w d) .nil rfl rfl (.new rfl rfl (.same fa) rfl .nil) (rc (.same (qf encI _)) rn) (.hs rfl) rfl)) az) ?_)
 refine Goes.ret ?_
 obtain rfl:=si h
 exact(gw2 [hsl 0 1 c,.i 0] (FzW.tuple (zY.cons (FzW.hs (E:=encI) rfl rfl (nl rfl)) (zY.cons (Ua tI) zY.nil))))
def jY (a:Int):Option Int:=
 some (w64 (0-a))
theorem qaK (a:Int) {res:Int} (h:jY a=some res):qb ZT (.fn 97) [.i a] [] (.i res) []:=by
 unfold jY at h
 refine Ub Tryz.func97 rfl rfl (m:=5) rfl (rs:=[.tmp 2]) rfl (l:=(kBT a)) rfl ?_
 refine sh fol (kBT a) ?_
 refine sh fol [(2,.i (w64 (0-a)))] ?_
 refine Goes.ret ?_
 obtain rfl:=si h
 exact(gw2 [.i (w64 (0-a))] (Ua tI))
def qE (a:List Int):Nat->(List Int)->Int->Option (List Int)
 |0,_,_=>none
 |K+1,c,b=>
  if b<(a.length:Int)then
  (idx a b).bind fun d=>
  (jY d).bind fun e=>
  (app 8 c [e]).bind fun f=>
  qE a K f (w64 (b+1))
  else
  some c
def kF (N:Nat) (a:List Int):Option (List Int):=
 (qE a N ([]:List Int) 0).bind fun b=>
 some b
theorem jL (N:Nat) (a:List Int) {n:List Int} (h:kF N a=some n):qb ZT (.fn 96) [vl encI a,.func (.func 97) [] []] [] (.gslice 0 n.length 1) (kA n):=by
 unfold kF at h
 refine Uh Tryz.func96 rfl rfl (m:=22) rfl (rs:=[.tmp 4]) rfl (l:=(kH a [(1,.func (.func 97) [] [])])) rfl ?_
 intro B hB
 refine sh fol (kH a [(1,.func (.func 97) [] [])]) ?_
 refine sh fol (kH a [(1,.func (.func 97) [] []),(5,.nilslice)]) ?_
 refine sq ?_
 refine sh fol ((1,.func (.func 97) [] [])::(5,.nilslice)::(kAI a (a.length:Int) [(10,.i 0)])) ?_
 refine Goes.block ?_
 obtain⟨o,g5,h⟩:=bnd h
 refine Goes.imp (Q:=fun x s'=>(x= .exit 0/\ ∃f,f=o/\Sub s' (ofG 22 (kU f []),(kA f)))) ?_ ?_
 ·refine Goes.sub (s':=(ofG 22 ((1,.func (.func 97) [] [])::(5,.gslice 0 ([]:List Int).length 1)::(kAI a (a.length:Int) [(10,.i 0)])),kZ)) (Sub.norm [] [none] (by rw[hB];rfl) rfl (.keep (.same (qj.func sn sn)) (.keep .nil (.keep (.same (qf encI _)) (.keep (.same nI) (.keep (.same nI) .nil))))) (.fresh .nil)) ?_
  refine Uc (fun M s=> ∃(b:List Int) (c:Int),s=(ofG 22 ((1,.func (.func 97) [] [])::(kU b (kAI a (a.length:Int) (kBF c)))),(kA b))/\qE a M b c=some o) ?_ (m:=N) ⟨_,_,rfl,g5⟩
  rintro M s ⟨b,c,rfl,g5⟩
  cases M with
  |zero=>simp only[qE]at g5;cases g5
  |succ M=>
   rw[qE]at g5
   refine sh fol ((1,.func (.func 97) [] [])::(kU b (kAI a (a.length:Int) ((10,.i c)::(kBC (decide (c<(a.length:Int)))))))) ?_
   refine sq ?_
   refine ihD g5 (fun q g5=>?_) (fun q g5=>?_)
   ·refine Goes.skip ?_
    refine sq (Goes.block ?_)
    obtain⟨p,d,g5⟩:=bnd g5
    refine sq (gr fol [0,1] ((1,.func (.func 97) [] [])::(kU b ((7,.i p)::(kAI a (a.length:Int) (kBF c))))) (ac (iv zt encI d) (ac (lv 0 ce3 encI d rfl) az)) ?_)
    obtain⟨k,g,g5⟩:=bnd g5
    obtain⟨e,j,g5⟩:=bnd g5
    refine gq fol [3,5] ((1,.func (.func 97) [] [])::(5,.gslice 2 e.length 1)::(kAI a (a.length:Int) (kBF c))) (kAD k (kA e)) (ac (cv (qaK p g)) (ac (hs (.run [0,1] (jr ZT [22,22] (.gslice 0 b.length 1) (.slice 1 0 1 1 1)) (kJ b (kAu k [])) (.gslice 2 e.length 1) (kAD k (kA e)) true) (xI zt (E:=encI) rfl (qbW (E:=encI) (ys:=[k]) rfl rfl rfl rfl) (qdO (E:=encI) (l:=b) rfl rfl rfl j rfl))) az)) ?_
    refine gh fol ((1,.func (.func 97) [] [])::(5,.gslice 2 e.length 1)::(kAI a (a.length:Int) (kBF (w64 (c+1))))) ?_
    exact⟨M,(ofG 22 ((1,.func (.func 97) [] [])::(kU e (kAI a (a.length:Int) (kBF (w64 (c+1)))))),(kA e)),Nat.lt_succ_self _,(Sub.norm [] [some 2] (by rw[hB];rfl) rfl (.keep (.same (qj.func sn sn)) (.keep (.gslice rfl) (.keep (.same (qf encI _)) (.keep (.same nI) (.keep (.same nI) .nil))))) (.ks .nil)),_,_,rfl,g5⟩
   refine Goes.exit ?_
   obtain rfl:=si g5
   exact⟨rfl,_,rfl,(Sub.keep [5] rfl rfl)⟩
 rintro x s' ⟨rfl,f,rfl,hsub⟩
 refine Goes.sub hsub ?_
 refine sh fol (kAE f []) ?_
 refine Goes.ret ?_
 obtain rfl:=si h
 exact(gh2 [.gslice 0 f.length 1] (yc.refl _ _))
def qy:Nat->(List Int)->Int->Int->Option (List Int)
 |0,_,_,_=>none
 |K+1,c,d,a=>
  if d<a then
  (idx c a).bind fun f=>
  (idx c d).bind fun g=>
  (put c d f).bind fun b=>
  (idx b a).bind fun h=>
  (put b a g).bind fun e=>
  qy K e (w64 (d+1)) (w64 (a-1))
  else
  some c
def kR (N:Nat) (a:List Int):Option (List Int):=
 (qy N a 0 (w64 ((a.length:Int)-1))).bind fun b=>
 some b
theorem ym (N:Nat) (f:List Int) {t:List Int} (h:kR N f=some t):qb ZT (.fn 133) [.gslice 0 f.length 1] (kA f) (.tuple []) (kA t):=by
 unfold kR at h
 refine Uh Tryz.func133 rfl rfl (m:=28) rfl (rs:=[]) rfl (l:=(kS f [])) rfl ?_
 intro B hB
 refine Goes.subQ ?_
 refine sh fol (kS f ((2,.i 0)::(kAy (w64 ((f.length:Int)-1))))) ?_
 refine Goes.block ?_
 obtain⟨u,g6,h⟩:=bnd h
 refine Goes.imp (Q:=fun x s'=>(x= .exit 0/\ ∃p,p=u/\Sub s' (ofG 28 [],(kA p)))) ?_ ?_
 ·refine Uc (fun M s=> ∃(a:List Int) (c:Int) (d:Int),s=(ofG 28 (kS a ((2,.i c)::(kAy d))),(kA a))/\qy M a c d=some u) ?_ (m:=N) ⟨_,_,_,rfl,g6⟩
  rintro M s ⟨a,c,d,rfl,g6⟩
  cases M with
  |zero=>simp only[qy]at g6;cases g6
  |succ M=>
   rw[qy]at g6
   refine sq ?_
   refine sh fol (kS a [(2,.i c),(3,.i d),(9,.bool (decide (c<d)))]) ?_
   refine ihD g6 (fun v g6=>?_) (fun v g6=>?_)
   ·refine Goes.skip ?_
    refine sq (Goes.block ?_)
    obtain⟨q,g,g6⟩:=bnd g6
    obtain⟨r,e,g6⟩:=bnd g6
    obtain⟨n,j,g6⟩:=bnd g6
    obtain⟨w,o,g6⟩:=bnd g6
    obtain⟨b,k,g6⟩:=bnd g6
    refine gq fol [6,7,10,11,12,13,14,15] (kS a ((2,.i c)::(kAy d))) (kA b) (ac (hs (.done (.opt (qg ZT 22 (.gslice 0 a.length 1) (.i d))) (.ptr 0 ((d:Int).toNat*1+0))) (qaL zt g)) (ac (hs (.run [0] (zJ ZT 3 (.ptr 0 ((d:Int).toNat*1+0))) (kA a) (.i q) (kA a) false) (qaR ce3 (E:=encI) (l:=a) rfl rfl g (nl rfl) rfl)) (ac (hs (.done (.opt (qg ZT 22 (.gslice 0 a.length 1) (.i c))) (.ptr 0 ((c:Int).toNat*1+0))) (qaL zt e)) (ac (hs (.run [0] (zJ ZT 3 (.ptr 0 ((c:Int).toNat*1+0))) (kA a) (.i r) (kA a) false) (qaR ce3 (E:=encI) (l:=a) rfl rfl e (nl rfl) rfl)) (ac (hs (.done (.opt (qg ZT 22 (.gslice 0 a.length 1) (.i c))) (.ptr 0 ((c:Int).toNat*1+0))) (qaL zt e)) (ac (hs (.run [0] (jC ZT 3 (.ptr 0 ((c:Int).toNat*1+0)) (.i q)) (kA a) .undef (kA n) true) (xQ (E:=encI) (l:=a) (y:=q) rfl (show _=some 1 by kernel_rfl) rfl e rfl rfl rfl rfl rfl j rfl)) (ac (hs (.done (.opt (qg ZT 22 (.gslice 0 a.length 1) (.i d))) (.ptr 0 ((d:Int).toNat*1+0))) (qaL zt g)) (ac (hs (.run [0] (jC ZT 3 (.ptr 0 ((d:Int).toNat*1+0)) (.i r)) (kA n) .undef (kA b) true) (xQ (E:=encI) (l:=n) (y:=r) rfl (show _=some 1 by kernel_rfl) rfl o rfl rfl rfl rfl rfl k rfl)) az)))))))) ?_
    refine Goes.sub (show Sub (ofG 28 (kS a ((2,.i c)::(kAy d))),(kA b)) (ofG 28 (kS b ((2,.i c)::(kAy d))),(kA b))from(Sub.norm [] [some 0] (by rw[hB];rfl) rfl (.keep (.gsliceE rfl ((jU j).trans (jU k))) (.keep (.same nI) (.keep (.same nI) .nil))) (.ks .nil))) ?_
    refine gh fol (kS b ((2,.i (w64 (c+1)))::(kAy (w64 (d-1))))) ?_
    exact⟨M,(ofG 28 (kS b ((2,.i (w64 (c+1)))::(kAy (w64 (d-1))))),(kA b)),Nat.lt_succ_self _,(Sub.refl _),_,_,_,rfl,g6⟩
   refine Goes.exit ?_
   obtain rfl:=si g6
   exact⟨rfl,_,rfl,(Sub.keep [] rfl rfl)⟩
 rintro x s' ⟨rfl,p,rfl,hsub⟩
 obtain rfl:=si h
 exact⟨_,hsub,(gh2 [] (yc.refl _ _))⟩
def zG (N:Nat) (a:List Int):Option (List Int):=
 (kF N a).bind fun b=>
 (kR N b).bind fun c=>
 ((if b.length=c.length then some ()else none:Option Unit)).bind fun d=>
 some c
theorem xK (N:Nat) (a:List Int) {g:List Int} (h:zG N a=some g):qb ZT (.fn 73) [vl encI a] [] (.gslice 0 g.length 1) (kA g):=by
 unfold zG at h
 refine Uh Tryz.func73 rfl rfl (m:=9) rfl (rs:=[.tmp 2]) rfl (l:=(kH a [])) rfl ?_
 intro B hB
 refine sh fol (kH a []) ?_
 obtain⟨b,d,h⟩:=bnd h
 refine sq (gq fol [1] (kAH b []) (kA b) (ac (hs (.callH 96 [vl encI a,.func (.func 97) [] []] [] [] (.gslice 0 b.length 1) (kA b)) (jb [] [some 0] (jL N a d) .nil rfl rfl (.new rfl rfl (.same fa) rfl .nil) (rc (.same (qf encI _)) (rc (.same (qj.func sn sn)) rn)) (.gslice rfl) rfl)) az) ?_)
 obtain⟨c,e,h⟩:=bnd h
 obtain⟨i,f,h⟩:=bnd h
 refine sq (gq fol [1] (kAH b []) (kA c) (ac (hs (.callH 133 [.gslice 0 b.length 1] (kA b) [0] (.tuple []) (kA c)) (jb [some 0] [some 0] (ym N b e) (.ks .nil) rfl rfl (.back rfl rfl (.same fa) rfl .nil) (rc (.gslice rfl) rn) (.same (qj.tuple sn)) rfl)) az) ?_)
 refine Goes.sub (show Sub (ofG 9 (kAH b []),(kA c)) (ofG 9 (kAH c []),(kA c))from(Sub.norm [] [some 0] (by rw[hB];rfl) rfl (.keep (.gsliceE rfl (qgu f)) .nil) (.ks .nil))) ?_
 refine sh fol (kA7 c) ?_
 refine Goes.ret ?_
 obtain rfl:=si h
 exact(gh2 [.gslice 0 c.length 1] (yc.refl _ _))
def jX (N:Nat) (n:Int) (w:List Int):Option ((List Int)×Int):=
 (qR N n w).bind fun a=>
 if(!decide (a=0))=true then
 some ([],a)
 else
 (zG N w).bind fun b=>
 some (b,0)
theorem qaC (N:Nat) (n:Int) (w:List Int) {res:(List Int)×Int} (h:jX N n w=some res):qb ZT (.fn 37) (kAk n w) [] (.tuple (kAT res.1 res.2)) []:=by
 unfold jX at h
 refine Ub Tryz.func37 rfl rfl (m:=15) rfl (rs:=[.tmp 4,.tmp 5]) rfl (l:=(kB n w [])) rfl ?_
 refine sh fol (kB n w []) ?_
 refine sq ?_
 obtain⟨a,b,h⟩:=bnd h
 refine sq (gr fol [2] (kQ w (kBQ a)) (ac (cv (zf N n w b)) az) ?_)
 refine sh fol (kQ w ((6,.i a)::(kBC (!decide (a=0))))) ?_
 refine ihB h (fun e h=>?_) (fun e h=>?_)
 ·refine sh fol (kBM (kAc a)) ?_
  refine Goes.ret ?_
  obtain rfl:=si h
  exact(gw2 (kAd a) (FzW.tuple (zY.cons (FzW.nilv (E:=encI)) (zY.cons (Ua tI) zY.nil))))
 refine Goes.skip ?_
 obtain⟨c,d,h⟩:=bnd h
 refine sq (gq fol [1] (kAE c kBO) (kA c) (ac (hs (.callH 73 [vl encI w] [] [] (.gslice 0 c.length 1) (kA c)) (jb [] [some 0] (xK N w d) .nil rfl rfl (.new rfl rfl (.same fa) rfl .nil) (rc (.same (qf encI _)) rn) (.gslice rfl) rfl)) az) ?_)
 refine Goes.ret ?_
 obtain rfl:=si h
 exact(gw2 [.gslice 0 c.length 1,.i 0] (FzW.tuple (zY.cons (FzW.fz (Fz.gs (E:=encI) rfl rfl (nl rfl))) (zY.cons (Ua tI) zY.nil))))
def vH (N:Nat) (n:Int) (w:List Int):Option ((List Int)×Int):=
 (qR N n w).bind fun a=>
 if(!decide (a=0))=true then
 some ([],a)
 else
 (kF N w).bind fun b=>
 some (b,0)
theorem qaQ (N:Nat) (n:Int) (w:List Int) {res:(List Int)×Int} (h:vH N n w=some res):qb ZT (.fn 38) (kAk n w) [] (.tuple (kAT res.1 res.2)) []:=by
 unfold vH at h
 refine Ub Tryz.func38 rfl rfl (m:=15) rfl (rs:=[.tmp 4,.tmp 5]) rfl (l:=(kB n w [])) rfl ?_
 refine sh fol (kB n w []) ?_
 refine sq ?_
 obtain⟨a,b,h⟩:=bnd h
 refine sq (gr fol [2] (kQ w (kBQ a)) (ac (cv (zf N n w b)) az) ?_)
 refine sh fol (kQ w ((6,.i a)::(kBC (!decide (a=0))))) ?_
 refine ihB h (fun e h=>?_) (fun e h=>?_)
 ·refine sh fol (kBM (kAc a)) ?_
  refine Goes.ret ?_
  obtain rfl:=si h
  exact(gw2 (kAd a) (FzW.tuple (zY.cons (FzW.nilv (E:=encI)) (zY.cons (Ua tI) zY.nil))))
 refine Goes.skip ?_
 obtain⟨c,d,h⟩:=bnd h
 refine sq (gq fol [1] (kAE c kBO) (kA c) (ac (hs (.callH 96 [vl encI w,.func (.func 97) [] []] [] [] (.gslice 0 c.length 1) (kA c)) (jb [] [some 0] (jL N w d) .nil rfl rfl (.new rfl rfl (.same fa) rfl .nil) (rc (.same (qf encI _)) (rc (.same (qj.func sn sn)) rn)) (.gslice rfl) rfl)) az) ?_)
 refine Goes.ret ?_
 obtain rfl:=si h
 exact(gw2 [.gslice 0 c.length 1,.i 0] (FzW.tuple (zY.cons (FzW.fz (Fz.gs (E:=encI) rfl rfl (nl rfl))) (zY.cons (Ua tI) zY.nil))))
def zz (a:Int) (e:Int) (bad:Int) (want:Int):Option Bool:=
 if(!decide (bad=0))=true then
 (if a=0 then
 some (decide (e=bad))
 else
 some false:Option Bool).bind fun b=>
 some b
 else
 (if e=0 then
 some (decide (a=want))
 else
 some false:Option Bool).bind fun c=>
 some c
theorem qB (a:Int) (e:Int) (bad:Int) (want:Int) {res:Bool} (h:zz a e bad want=some res):qb ZT (.fn 39) [.i a,.i e,.i bad,.i want] [] (.bool res) []:=by
 unfold zz at h
 refine Ub Tryz.func39 rfl rfl (m:=25) rfl (rs:=[.tmp 8]) rfl (l:=((0,.i a)::(kAt e bad (kAy want)))) rfl ?_
 refine sh fol ((0,.i a)::(kAt e bad (kAy want))) ?_
 refine sq ?_
 refine sh fol ((0,.i a)::(kAt e bad ((3,.i want)::(kAq (!decide (bad=0)))))) ?_
 refine ihB h (fun k h=>?_) (fun k h=>?_)
 ·refine sq ?_
  obtain⟨g,b,h⟩:=bnd h
  refine Goes.cut (s':=(ofG 25 (kAp g),[])) ?_ ?_
  ·rcases wyD b with⟨d,b⟩|⟨d,b⟩
   ·obtain rfl:=si b
    exact tr fol [2] (kAp (decide (e=bad))) (ac (gw d) az)
   obtain rfl:=si b
   exact tr fol [2] kA6 (ac (gw d) az)
  refine Goes.ret ?_
  obtain rfl:=si h
  exact(gw2 [.bool g] (Ua tB))
 refine Goes.skip ?_
 refine sq ?_
 obtain⟨j,c,h⟩:=bnd h
 refine Goes.cut (s':=(ofG 25 (kAp j),[])) ?_ ?_
 ·rcases wyD c with⟨f,c⟩|⟨f,c⟩
  ·obtain rfl:=si c
   exact tr fol [2] (kAp (decide (a=want))) (ac (gw f) az)
  obtain rfl:=si c
  exact tr fol [2] kA6 (ac (gw f) az)
 refine Goes.ret ?_
 obtain rfl:=si h
 exact(gw2 [.bool j] (Ua tB))
def kY (p:List Int):Nat->(List Int)->Int->Option (List Int)
 |0,_,_=>none
 |K+1,b,a=>
  if a<(p.length:Int)then
  (idx p a).bind fun c=>
  (idx b c).bind fun e=>
  (put b c a).bind fun d=>
  kY p K d (w64 (a+1))
  else
  some b
def jW (N:Nat) (p:List Int):Option (List Int):=
 (mk 8 (p.length:Int) 0).bind fun a=>
 (kY p N a 0).bind fun b=>
 some b
theorem qaB (N:Nat) (p:List Int) {res:List Int} (h:jW N p=some res):qb ZT (.fn 98) [vl encI p] [] (vl encI res) []:=by
 unfold jW at h
 refine Ub Tryz.func98 rfl rfl (m:=22) rfl (rs:=[.tmp 2]) rfl (l:=(kH p [])) rfl ?_
 refine sh fol (kH p []) ?_
 obtain⟨j,k,h⟩:=bnd h
 refine sq (gq fol [2] (kH p (kK j [])) (kA j) (ac (hs (.run [] (jA ZT 22 (.i (p.length:Int)) (.i (p.length:Int))) [] (.slice 0 0 j.length j.length 1) (kA j) false) (qfD zt (E:=encI) (z:=0) rfl (by kernel_rfl) k rfl)) az) ?_)
 refine sq ?_
 refine sh fol (kH p (kK j kA9)) ?_
 refine Goes.block ?_
 obtain⟨o,g5,h⟩:=bnd h
 refine Goes.imp (Q:=fun x s'=>(x= .exit 0/\ ∃g,g=o/\Sub s' (ofG 22 (kK g []),(kA g)))) ?_ ?_
 ·refine Uc (fun M s=> ∃(b:List Int) (a:Int),s=(ofG 22 (kH p (kK b (kAX a))),(kA b))/\kY p M b a=some o) ?_ (m:=N) ⟨_,_,rfl,g5⟩
  rintro M s ⟨b,a,rfl,g5⟩
  cases M with
  |zero=>simp only[kY]at g5;cases g5
  |succ M=>
   rw[kY]at g5
   refine sq ?_
   refine sh fol (kH p (kK b ((4,.i a)::(kBC (decide (a<(p.length:Int))))))) ?_
   refine ihD g5 (fun q g5=>?_) (fun q g5=>?_)
   ·refine Goes.skip ?_
    refine sq (Goes.block ?_)
    obtain⟨n,c,g5⟩:=bnd g5
    obtain⟨r,d,g5⟩:=bnd g5
    obtain⟨e,f,g5⟩:=bnd g5
    refine gq fol [3,4,6,7] (kH p (kK b (kAX a))) (kA e) (ac (iv zt encI c) (ac (lv 0 ce3 encI c rfl) (ac (hs (.done (.opt (qg ZT 22 (.slice 0 0 b.length b.length 1) (.i n))) (.ptr 0 ((n:Int).toNat*1+0))) (yU zt d)) (ac (hs (.run [0] (jC ZT 3 (.ptr 0 ((n:Int).toNat*1+0)) (.i a)) (kA b) .undef (kA e) true) (xQ (E:=encI) (l:=b) (y:=a) rfl (show _=some 1 by kernel_rfl) rfl d rfl rfl rfl rfl rfl f rfl)) az)))) ?_
    refine Goes.sub (show Sub (ofG 22 (kH p (kK b (kAX a))),(kA e)) (ofG 22 (kH p (kK e (kAX a))),(kA e))from(Sub.norm [] [some 0] rfl rfl (.keep (.same (qf encI _)) (.keep (.sliceE rfl (jU f)) (.keep (.same nI) .nil))) (.ks .nil))) ?_
    refine gh fol (kH p (kK e (kAX (w64 (a+1))))) ?_
    exact⟨M,(ofG 22 (kH p (kK e (kAX (w64 (a+1))))),(kA e)),Nat.lt_succ_self _,(Sub.refl _),_,_,rfl,g5⟩
   refine Goes.exit ?_
   obtain rfl:=si g5
   exact⟨rfl,_,rfl,(Sub.keep [3] rfl rfl)⟩
 rintro x s' ⟨rfl,g,rfl,hsub⟩
 refine Goes.sub hsub ?_
 refine sh fol (kA5 g) ?_
 refine Goes.ret ?_
 obtain rfl:=si h
 exact(gw2 [.slice 0 0 g.length g.length 1] (FzW.fz (Fz.sl (E:=encI) rfl rfl (nl rfl))))
def vL (c:Int):Option Int:=
 some (if(w64 (0-c))>c then(w64 (0-c))else c)
theorem qbL (c:Int) {res:Int} (h:vL c=some res):qb ZT (.fn 77) [.i c] [] (.i res) []:=by
 unfold vL at h
 refine Ub Tryz.func77 rfl rfl (m:=7) rfl (rs:=[.tmp 2]) rfl (l:=(kBT c)) rfl ?_
 refine sh fol (kBT c) ?_
 refine sh fol [(2,.i (if(w64 (0-c))>c then(w64 (0-c))else c))] ?_
 refine Goes.ret ?_
 obtain rfl:=si h
 exact(gw2 [.i (if(w64 (0-c))>c then(w64 (0-c))else c)] (Ua tI))
def qO (a:Int):Nat->(List Int)->Int->Option (List Int)
 |0,_,_=>none
 |K+1,c,b=>
  if b<a then
  (app 8 c [b]).bind fun d=>
  qO a K d (w64 (b+1))
  else
  some c
def zD (N:Nat) (a:Int):Option (List Int):=
 (qO a N ([]:List Int) 0).bind fun b=>
 some b
theorem y8 (N:Nat) (a:Int) {g:List Int} (h:zD N a=some g):qb ZT (.fn 86) [.i a] [] (.gslice 0 g.length 1) (kA g):=by
 unfold zD at h
 refine Uh Tryz.func86 rfl rfl (m:=15) rfl (rs:=[.tmp 2]) rfl (l:=(kBT a)) rfl ?_
 intro B hB
 refine sh fol (kBT a) ?_
 refine sh fol ((0,.i a)::(kAs [])) ?_
 refine sq ?_
 refine sh fol ((0,.i a)::(kAs kA9)) ?_
 refine Goes.block ?_
 obtain⟨j,g5,h⟩:=bnd h
 refine Goes.imp (Q:=fun x s'=>(x= .exit 0/\ ∃e,e=j/\Sub s' (ofG 15 (kAH e []),(kA e)))) ?_ ?_
 ·refine Goes.sub (s':=(ofG 15 ((0,.i a)::(kBD kA9)),kZ)) (Sub.norm [] [none] (by rw[hB];rfl) rfl (.keep (.same nI) (.keep .nil (.keep (.same nI) .nil))) (.fresh .nil)) ?_
  refine Uc (fun M s=> ∃(c:List Int) (b:Int),s=(ofG 15 ((0,.i a)::(kAH c (kAX b))),(kA c))/\qO a M c b=some j) ?_ (m:=N) ⟨_,_,rfl,g5⟩
  rintro M s ⟨c,b,rfl,g5⟩
  cases M with
  |zero=>simp only[qO]at g5;cases g5
  |succ M=>
   rw[qO]at g5
   refine sq ?_
   refine sh fol ((0,.i a)::(kAH c [(4,.i b),(7,.bool (decide (b<a)))])) ?_
   refine ihD g5 (fun k g5=>?_) (fun k g5=>?_)
   ·refine Goes.skip ?_
    refine sq (Goes.block ?_)
    obtain⟨d,f,g5⟩:=bnd g5
    refine gq fol [3] ((0,.i a)::(kBE d (kAX b))) (kAD b (kA d)) (ac (hs (.run [0,1] (jr ZT [22,22] (.gslice 0 c.length 1) (.slice 1 0 1 1 1)) (kJ c (kAu b [])) (.gslice 2 d.length 1) (kAD b (kA d)) true) (xI zt (E:=encI) rfl (qbW (E:=encI) (ys:=[b]) rfl rfl rfl rfl) (qdO (E:=encI) (l:=c) rfl rfl rfl f rfl))) az) ?_
    refine gh fol ((0,.i a)::(kBE d (kAX (w64 (b+1))))) ?_
    exact⟨M,(ofG 15 ((0,.i a)::(kAH d (kAX (w64 (b+1))))),(kA d)),Nat.lt_succ_self _,(Sub.norm [] [some 2] (by rw[hB];rfl) rfl (.keep (.same nI) (.keep (.gslice rfl) (.keep (.same nI) .nil))) (.ks .nil)),_,_,rfl,g5⟩
   refine Goes.exit ?_
   obtain rfl:=si g5
   exact⟨rfl,_,rfl,(Sub.keep [3] rfl rfl)⟩
 rintro x s' ⟨rfl,e,rfl,hsub⟩
 refine Goes.sub hsub ?_
 refine sh fol (kA7 e) ?_
 refine Goes.ret ?_
 obtain rfl:=si h
 exact(gh2 [.gslice 0 e.length 1] (yc.refl _ _))
def qU (b:List Int):Nat->(List Int)->Int->Option (List Int)
 |0,_,_=>none
 |K+1,d,e=>
  if e<(b.length:Int)then
  (idx b e).bind fun i=>
  (vL i).bind fun a=>
  (idx d a).bind fun f=>
  (idx d (w64 (a-1))).bind fun g=>
  (put d (w64 (a-1)) f).bind fun c=>
  (idx c a).bind fun j=>
  (put c a g).bind fun h=>
  qU b K h (w64 (e+1))
  else
  some d
def jc (N:Nat) (a:Int) (b:List Int):Option (List Int):=
 (zD N a).bind fun c=>
 (qU b N c 0).bind fun d=>
 some d
theorem xN (N:Nat) (g:Int) (a:List Int) {A:List Int} (h:jc N g a=some A):qb ZT (.fn 99) (kAk g a) [] (.gslice 0 A.length 1) (kA A):=by
 unfold jc at h
 refine Uh Tryz.func99 rfl rfl (m:=38) rfl (rs:=[.tmp 4]) rfl (l:=(kB g a [])) rfl ?_
 intro B hB
 refine sh fol (kB g a []) ?_
 obtain⟨w,z,h⟩:=bnd h
 refine sq (gq fol [1] (kQ a (kU w [])) (kA w) (ac (hs (.callH 86 [.i g] [] [] (.gslice 0 w.length 1) (kA w)) (jb [] [some 0] (y8 N g z) .nil rfl rfl (.new rfl rfl (.same fa) rfl .nil) (rc (.same nI) rn) (.gslice rfl) rfl)) az) ?_)
 refine sq ?_
 refine sh fol (kQ a (kU w [(6,.i 0)])) ?_
 refine Goes.block ?_
 obtain⟨C,g7,h⟩:=bnd h
 refine Goes.imp (Q:=fun x s'=>(x= .exit 0/\ ∃v,v=C/\Sub s' (ofG 38 (kU v []),(kA v)))) ?_ ?_
 ·refine Uc (fun M s=> ∃(c:List Int) (j:Int),s=(ofG 38 (kQ a (kU c (kBQ j))),(kA c))/\qU a M c j=some C) ?_ (m:=N) ⟨_,_,rfl,g7⟩
  rintro M s ⟨c,j,rfl,g7⟩
  cases M with
  |zero=>simp only[qU]at g7;cases g7
  |succ M=>
   rw[qU]at g7
   refine sq ?_
   refine sh fol (kQ a (kU c [(6,.i j),(13,.bool (decide (j<(a.length:Int))))])) ?_
   refine ihD g7 (fun D g7=>?_) (fun D g7=>?_)
   ·refine Goes.skip ?_
    refine sq (Goes.block ?_)
    obtain⟨F,o,g7⟩:=bnd g7
    obtain⟨b,p,g7⟩:=bnd g7
    refine sq (gr fol [2,3,4] (kQ a (kU c ((6,.i j)::(kBK b)))) (ac (iv zt encI o) (ac (lv 0 ce3 encI o rfl) (ac (cv (qbL F p)) az))) ?_)
    obtain⟨q,f,g7⟩:=bnd g7
    obtain⟨r,d,g7⟩:=bnd g7
    obtain⟨t,k,g7⟩:=bnd g7
    obtain⟨G,u,g7⟩:=bnd g7
    obtain⟨e,n,g7⟩:=bnd g7
    refine gq fol [7,8,12,13,14,15,16,17] (kQ a (kU c (kBQ j))) (kA e) (ac (hs (.done (.opt (qg ZT 22 (.gslice 0 c.length 1) (.i b))) (.ptr 0 ((b:Int).toNat*1+0))) (qaL zt f)) (ac (hs (.run [0] (zJ ZT 3 (.ptr 0 ((b:Int).toNat*1+0))) (kA c) (.i q) (kA c) false) (qaR ce3 (E:=encI) (l:=c) rfl rfl f (nl rfl) rfl)) (ac (hs (.done (.opt (qg ZT 22 (.gslice 0 c.length 1) (.i (w64 (b-1))))) (.ptr 0 ((w64 (b-1):Int).toNat*1+0))) (qaL zt d)) (ac (hs (.run [0] (zJ ZT 3 (.ptr 0 ((w64 (b-1):Int).toNat*1+0))) (kA c) (.i r) (kA c) false) (qaR ce3 (E:=encI) (l:=c) rfl rfl d (nl rfl) rfl)) (ac (hs (.done (.opt (qg ZT 22 (.gslice 0 c.length 1) (.i (w64 (b-1))))) (.ptr 0 ((w64 (b-1):Int).toNat*1+0))) (qaL zt d)) (ac (hs (.run [0] (jC ZT 3 (.ptr 0 ((w64 (b-1):Int).toNat*1+0)) (.i q)) (kA c) .undef (kA t) true) (xQ (E:=encI) (l:=c) (y:=q) rfl (show _=some 1 by kernel_rfl) rfl d rfl rfl rfl rfl rfl k rfl)) (ac (hs (.done (.opt (qg ZT 22 (.gslice 0 c.length 1) (.i b))) (.ptr 0 ((b:Int).toNat*1+0))) (qaL zt f)) (ac (hs (.run [0] (jC ZT 3 (.ptr 0 ((b:Int).toNat*1+0)) (.i r)) (kA t) .undef (kA e) true) (xQ (E:=encI) (l:=t) (y:=r) rfl (show _=some 1 by kernel_rfl) rfl u rfl rfl rfl rfl rfl n rfl)) az)))))))) ?_
    refine Goes.sub (show Sub (ofG 38 (kQ a (kU c (kBQ j))),(kA e)) (ofG 38 (kQ a (kU e (kBQ j))),(kA e))from(Sub.norm [] [some 0] (by rw[hB];rfl) rfl (.keep (.same (qf encI _)) (.keep (.gsliceE rfl ((jU k).trans (jU n))) (.keep (.same nI) .nil))) (.ks .nil))) ?_
    refine gh fol (kQ a (kU e (kBQ (w64 (j+1))))) ?_
    exact⟨M,(ofG 38 (kQ a (kU e (kBQ (w64 (j+1))))),(kA e)),Nat.lt_succ_self _,(Sub.refl _),_,_,rfl,g7⟩
   refine Goes.exit ?_
   obtain rfl:=si g7
   exact⟨rfl,_,rfl,(Sub.keep [5] rfl rfl)⟩
 rintro x s' ⟨rfl,v,rfl,hsub⟩
 refine Goes.sub hsub ?_
 refine sh fol (kAE v []) ?_
 refine Goes.ret ?_
 obtain rfl:=si h
 exact(gh2 [.gslice 0 v.length 1] (yc.refl _ _))
def vO (N:Nat) (n:Int) (w:List Int):Option (List Int):=
 (jc N n w).bind fun a=>
 (jW N a).bind fun b=>
 some b
theorem zy (N:Nat) (n:Int) (w:List Int) {res:List Int} (h:vO N n w=some res):qb ZT (.fn 40) (kAk n w) [] (vl encI res) []:=by
 unfold vO at h
 refine Ub Tryz.func40 rfl rfl (m:=9) rfl (rs:=[.tmp 4]) rfl (l:=(kB n w [])) rfl ?_
 refine sh fol (kB n w []) ?_
 obtain⟨a,b,h⟩:=bnd h
 obtain⟨c,d,h⟩:=bnd h
 refine sq (gq fol [2,3] [(4,vl encI c)] (kAr a []) (ac (hs (.callH 99 (kAk n w) [] [] (.gslice 0 a.length 1) (kA a)) (jb [] [some 0] (xN N n w b) .nil rfl rfl (.new rfl rfl (.same fa) rfl .nil) (rc (.same nI) (rc (.same (qf encI _)) rn)) (.gslice rfl) rfl)) (ac (hs (.callF 98 [.gslice 0 a.length 1] (kA a) [0] [vl encI a] (vl encI c)) (qg5 (FzL.cons (Fz.gs (E:=encI) rfl rfl (nl rfl)) FzL.nil) (qaB N a d) (zH encI _ (nl rfl)))) az)) ?_)
 refine Goes.sub (show Sub (ofG 9 [(4,vl encI c)],(kAr a [])) (ofG 9 [(4,vl encI c)],[])from(Sub.norm [] [] rfl rfl (.keep (.same (qf encI _)) .nil) .nil)) ?_
 refine Goes.ret ?_
 obtain rfl:=si h
 exact(gw2 [vl encI c] (Ua (zH encI _ (nl rfl))))
def jD (c:Int):Option Int:=
 if c<0 then
 some (-1)
 else
 some 1
theorem qbF (c:Int) {res:Int} (h:jD c=some res):qb ZT (.fn 100) [.i c] [] (.i res) []:=by
 unfold jD at h
 refine Ub Tryz.func100 rfl rfl (m:=5) rfl (rs:=[.tmp 2]) rfl (l:=(kBT c)) rfl ?_
 refine sh fol (kBT c) ?_
 refine sq ?_
 refine sh fol (kAa (decide (c<0))) ?_
 refine ihD h (fun a h=>?_) (fun a h=>?_)
 ·refine sh fol [(2,.i (-1))] ?_
  refine Goes.ret ?_
  obtain rfl:=si h
  exact(gw2 [.i (-1)] (Ua tI))
 refine Goes.skip ?_
 refine sh fol [(2,.i 1)] ?_
 refine Goes.ret ?_
 obtain rfl:=si h
 exact(gw2 [.i 1] (Ua tI))
def kw (w:List Int):Nat->Int->Int->Option Int
 |0,_,_=>none
 |K+1,b,a=>
  if a<(w.length:Int)then
  (idx w a).bind fun c=>
  (jD c).bind fun d=>
  kw w K (w64 (b+d)) (w64 (a+1))
  else
  some b
def jH (N:Nat) (w:List Int):Option Int:=
 (kw w N 0 0).bind fun a=>
 some a
theorem ku (N:Nat) (w:List Int) {res:Int} (h:jH N w=some res):qb ZT (.fn 41) [vl encI w] [] (.i res) []:=by
 unfold jH at h
 refine Ub Tryz.func41 rfl rfl (m:=19) rfl (rs:=[.tmp 2]) rfl (l:=(kH w [])) rfl ?_
 refine sh fol (kH w []) ?_
 refine sh fol (kH w [(3,.i 0)]) ?_
 refine sq ?_
 refine sh fol (kH w ((3,.i 0)::kA9)) ?_
 refine Goes.block ?_
 obtain⟨g,g4,h⟩:=bnd h
 refine Goes.imp (Q:=fun x s'=>(x= .exit 0/\ ∃d,d=g/\Sub s' (ofG 19 (kAy d),[]))) ?_ ?_
 ·refine Uc (fun M s=> ∃(c:Int) (a:Int),s=(ofG 19 (kH w ((3,.i c)::(kAX a))),[])/\kw w M c a=some g) ?_ (m:=N) ⟨_,_,rfl,g4⟩
  rintro M s ⟨c,a,rfl,g4⟩
  cases M with
  |zero=>simp only[kw]at g4;cases g4
  |succ M=>
   rw[kw]at g4
   refine sq ?_
   refine sh fol (kH w ((3,.i c)::(4,.i a)::(kAp (decide (a<(w.length:Int)))))) ?_
   refine ihD g4 (fun j g4=>?_) (fun j g4=>?_)
   ·refine Goes.skip ?_
    refine sq (Goes.block ?_)
    obtain⟨k,b,g4⟩:=bnd g4
    obtain⟨f,e,g4⟩:=bnd g4
    refine gr fol [3,4,5] (kH w ((3,.i (w64 (c+f)))::(kAX a))) (ac (iv zt encI b) (ac (lv 0 ce3 encI b rfl) (ac (cv (qbF k e)) az))) ?_
    refine gh fol (kH w ((3,.i (w64 (c+f)))::(kAX (w64 (a+1))))) ?_
    exact⟨M,(ofG 19 (kH w ((3,.i (w64 (c+f)))::(kAX (w64 (a+1))))),[]),Nat.lt_succ_self _,(Sub.refl _),_,_,rfl,g4⟩
   refine Goes.exit ?_
   obtain rfl:=si g4
   exact⟨rfl,_,rfl,(Sub.keep [3] rfl rfl)⟩
 rintro x s' ⟨rfl,d,rfl,hsub⟩
 refine Goes.sub hsub ?_
 refine sh fol [(2,.i d)] ?_
 refine Goes.ret ?_
 obtain rfl:=si h
 exact(gw2 [.i d] (Ua tI))
def ze (w:List Int):Nat->(List Int)->Int->Option (List Int)
 |0,_,_=>none
 |K+1,b,a=>
  if a>=0 then
  (idx w a).bind fun c=>
  (app 8 b [w64 (0-c)]).bind fun d=>
  ze w K d (w64 (a-1))
  else
  some b
def zW (N:Nat) (w:List Int):Option (List Int):=
 (ze w N ([]:List Int) (w64 ((w.length:Int)-1))).bind fun a=>
 some a
theorem je (N:Nat) (w:List Int) {res:List Int} (h:zW N w=some res):qb ZT (.fn 43) [vl encI w] [] (vl encI res) []:=by
 unfold zW at h
 refine Ub Tryz.func43 rfl rfl (m:=21) rfl (rs:=[.tmp 2]) rfl (l:=(kH w [])) rfl ?_
 refine sh fol (kH w []) ?_
 refine sh fol (kH w (kAs [])) ?_
 refine sq ?_
 refine sh fol (kH w (kAs (kAX (w64 ((w.length:Int)-1))))) ?_
 refine Goes.block ?_
 obtain⟨j,g4,h⟩:=bnd h
 refine Goes.imp (Q:=fun x s'=>(x= .exit 0/\ ∃e,e=j/\Sub s' (ofG 21 (kAH e []),(kA e)))) ?_ ?_
 ·refine Goes.sub (s':=(ofG 21 (kH w (kBD (kAX (w64 ((w.length:Int)-1))))),kZ)) (Sub.norm [] [none] rfl rfl (.keep (.same (qf encI _)) (.keep .nil (.keep (.same nI) .nil))) (.fresh .nil)) ?_
  refine Uc (fun M s=> ∃(a:List Int) (b:Int),s=(ofG 21 (kH w (kAH a (kAX b))),(kA a))/\ze w M a b=some j) ?_ (m:=N) ⟨_,_,rfl,g4⟩
  rintro M s ⟨a,b,rfl,g4⟩
  cases M with
  |zero=>simp only[ze]at g4;cases g4
  |succ M=>
   rw[ze]at g4
   refine sq ?_
   refine sh fol (kH w (kAH a [(4,.i b),(9,.bool (decide (b>=0)))])) ?_
   refine ihD g4 (fun k g4=>?_) (fun k g4=>?_)
   ·refine Goes.skip ?_
    refine sq (Goes.block ?_)
    obtain⟨g,c,g4⟩:=bnd g4
    obtain⟨d,f,g4⟩:=bnd g4
    refine gq fol [3,4,7] (kH w (kBE d (kAX b))) (kAD (w64 (0-g)) (kA d)) (ac (iv zt encI c) (ac (lv 0 ce3 encI c rfl) (ac (hs (.run [0,1] (jr ZT [22,22] (.gslice 0 a.length 1) (.slice 1 0 1 1 1)) (kJ a (kAu (w64 (0-g)) [])) (.gslice 2 d.length 1) (kAD (w64 (0-g)) (kA d)) true) (xI zt (E:=encI) rfl (qbW (E:=encI) (ys:=[w64 (0-g)]) rfl rfl rfl rfl) (qdO (E:=encI) (l:=a) rfl rfl rfl f rfl))) az))) ?_
    refine gh fol (kH w (kBE d (kAX (w64 (b-1))))) ?_
    exact⟨M,(ofG 21 (kH w (kAH d (kAX (w64 (b-1))))),(kA d)),Nat.lt_succ_self _,(Sub.norm [] [some 2] rfl rfl (.keep (.same (qf encI _)) (.keep (.gslice rfl) (.keep (.same nI) .nil))) (.ks .nil)),_,_,rfl,g4⟩
   refine Goes.exit ?_
   obtain rfl:=si g4
   exact⟨rfl,_,rfl,(Sub.keep [3] rfl rfl)⟩
 rintro x s' ⟨rfl,e,rfl,hsub⟩
 refine Goes.sub hsub ?_
 refine sh fol (kA7 e) ?_
 refine Goes.ret ?_
 obtain rfl:=si h
 exact(gw2 [.gslice 0 e.length 1] (FzW.fz (Fz.gs (E:=encI) rfl rfl (nl rfl))))
def zx (w:List Int):Nat->(List Int)->Int->Option (List Int)
 |0,_,_=>none
 |K+1,b,a=>
  if a<(w.length:Int)then
  (idx w a).bind fun c=>
  (app 8 b [w64 (0-c)]).bind fun d=>
  zx w K d (w64 (a+1))
  else
  some b
def jf (N:Nat) (w:List Int):Option (List Int):=
 (zx w N ([]:List Int) 0).bind fun a=>
 some a
theorem yV (N:Nat) (w:List Int) {res:List Int} (h:jf N w=some res):qb ZT (.fn 44) [vl encI w] [] (vl encI res) []:=by
 unfold jf at h
 refine Ub Tryz.func44 rfl rfl (m:=20) rfl (rs:=[.tmp 2]) rfl (l:=(kH w [])) rfl ?_
 refine sh fol (kH w []) ?_
 refine sh fol (kH w (kAs [])) ?_
 refine sq ?_
 refine sh fol (kH w (kAs kA9)) ?_
 refine Goes.block ?_
 obtain⟨j,g4,h⟩:=bnd h
 refine Goes.imp (Q:=fun x s'=>(x= .exit 0/\ ∃e,e=j/\Sub s' (ofG 20 (kAH e []),(kA e)))) ?_ ?_
 ·refine Goes.sub (s':=(ofG 20 (kH w (kBD kA9)),kZ)) (Sub.norm [] [none] rfl rfl (.keep (.same (qf encI _)) (.keep .nil (.keep (.same nI) .nil))) (.fresh .nil)) ?_
  refine Uc (fun M s=> ∃(a:List Int) (b:Int),s=(ofG 20 (kH w (kAH a (kAX b))),(kA a))/\zx w M a b=some j) ?_ (m:=N) ⟨_,_,rfl,g4⟩
  rintro M s ⟨a,b,rfl,g4⟩
  cases M with
  |zero=>simp only[zx]at g4;cases g4
  |succ M=>
   rw[zx]at g4
   refine sq ?_
   refine sh fol (kH w (kAH a ((4,.i b)::(kAp (decide (b<(w.length:Int))))))) ?_
   refine ihD g4 (fun k g4=>?_) (fun k g4=>?_)
   ·refine Goes.skip ?_
    refine sq (Goes.block ?_)
    obtain⟨g,c,g4⟩:=bnd g4
    obtain⟨d,f,g4⟩:=bnd g4
    refine gq fol [3,4,7] (kH w (kBE d (kAX b))) (kAD (w64 (0-g)) (kA d)) (ac (iv zt encI c) (ac (lv 0 ce3 encI c rfl) (ac (hs (.run [0,1] (jr ZT [22,22] (.gslice 0 a.length 1) (.slice 1 0 1 1 1)) (kJ a (kAu (w64 (0-g)) [])) (.gslice 2 d.length 1) (kAD (w64 (0-g)) (kA d)) true) (xI zt (E:=encI) rfl (qbW (E:=encI) (ys:=[w64 (0-g)]) rfl rfl rfl rfl) (qdO (E:=encI) (l:=a) rfl rfl rfl f rfl))) az))) ?_
    refine gh fol (kH w (kBE d (kAX (w64 (b+1))))) ?_
    exact⟨M,(ofG 20 (kH w (kAH d (kAX (w64 (b+1))))),(kA d)),Nat.lt_succ_self _,(Sub.norm [] [some 2] rfl rfl (.keep (.same (qf encI _)) (.keep (.gslice rfl) (.keep (.same nI) .nil))) (.ks .nil)),_,_,rfl,g4⟩
   refine Goes.exit ?_
   obtain rfl:=si g4
   exact⟨rfl,_,rfl,(Sub.keep [3] rfl rfl)⟩
 rintro x s' ⟨rfl,e,rfl,hsub⟩
 refine Goes.sub hsub ?_
 refine sh fol (kA7 e) ?_
 refine Goes.ret ?_
 obtain rfl:=si h
 exact(gw2 [.gslice 0 e.length 1] (FzW.fz (Fz.gs (E:=encI) rfl rfl (nl rfl))))
end Go.Av
