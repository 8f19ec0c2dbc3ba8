/-
  Walks of functions: what each computes, as a plain function.
-/
import Derived.Test.YtmffnhniejfgpaaGreatDoorAvJnB5
noncomputable section
namespace Go.Av
open Go.Proofs Go.RowKit
abbrev ZT:=Tryz.prog
set_option linter.unusedSectionVars false
set_option linter.unusedVariables false
set_option linter.unusedSimpArgs false
set_option maxRecDepth 100000
theorem fol:Tryz.prog.follows .mixedOrders=true:=by kernel_rfl
structure PairT where
 A:List Int
 B:List Int
 K:Int
def qgE:Enc PairT:=((qf encI).prod ((qf encI).prod encI)).comap fun x=>(x.A,x.B,x.K)
instance:SE qgE:=⟨nl rfl⟩
structure zV where
 Half:Int
 Factors:List (List Int)
def qd0:Enc zV:=(encI.prod (qf (qf encI))).comap fun x=>(x.Half,x.Factors)
instance:SE qd0:=⟨nl rfl⟩
structure qiy where
 Kind:Str
 At:Int
 Letter:Int
def qgN:Enc qiy:=(encS.prod (encI.prod encI)).comap fun x=>(x.Kind,x.At,x.Letter)
instance:SE qgN:=⟨nl rfl⟩
abbrev kA (a:List Int):List Blk:=[.cells (a.flatMap encI.c)]
abbrev kB (a:Int) (b:List Int) (x:List (Nat×AV)):List (Nat×AV):=(0,.i a)::(1,vl encI b)::x
abbrev kH (a:List Int) (x:List (Nat×AV)):List (Nat×AV):=(0,vl encI a)::x
abbrev kI (a:Int) (x:List (Nat×AV)):List (Nat×AV):=(0,.i a)::(3,.ptr 0 0)::x
abbrev kJ (a:List Int) (x:List Blk):List Blk:= .cells (a.flatMap encI.c)::x
abbrev kK {α0:Type} (a:List α0) (x:List (Nat×AV)):List (Nat×AV):=(3,.slice 0 0 a.length a.length 1)::x
abbrev kM (a:List Int) (b:Int) (x:List (Nat×AV)):List (Nat×AV):=(6,vl encI a)::(7,.i b)::x
abbrev kP (a:List Int) (b:Int) (x:List (Nat×AV)):List (Nat×AV):=(10,vl encI a)::(11,.i b)::x
abbrev kQ (a:List Int) (x:List (Nat×AV)):List (Nat×AV):=(1,vl encI a)::x
abbrev kS {α0:Type} (a:List α0) (x:List (Nat×AV)):List (Nat×AV):=(0,.gslice 0 a.length 1)::x
abbrev kU {α0:Type} (a:List α0) (x:List (Nat×AV)):List (Nat×AV):=(5,.gslice 0 a.length 1)::x
abbrev kV (a:Int) (b:Int):List Blk:=[.cells [.i a,.i b]]
abbrev kX (x:List (Nat×AV)):List (Nat×AV):=(5,.ptr 0 0)::x
abbrev kZ:List Blk:=[.cells (([]:List Int).flatMap encI.c)]
abbrev kAA:List (Nat×AV):=[(4,.bool false)]
abbrev kAC {α0:Type} (a:List α0) (x:List (Nat×AV)):List (Nat×AV):=(3,.oslice 0 a.length 1)::x
abbrev kAD (a:Int) (x:List Blk):List Blk:= .dead:: .cells [.i a]::x
abbrev kAE {α0:Type} (a:List α0) (x:List (Nat×AV)):List (Nat×AV):=(4,.gslice 0 a.length 1)::x
abbrev kAH {α0:Type} (a:List α0) (x:List (Nat×AV)):List (Nat×AV):=(3,.gslice 0 a.length 1)::x
abbrev kAI (a:List Int) (b:Int) (x:List (Nat×AV)):List (Nat×AV):=(8,vl encI a)::(9,.i b)::x
abbrev kAL (x:List (Nat×AV)):List (Nat×AV):=(6,.nilslice)::x
abbrev kAM (a:Int) (b:Int) (c:Int):List Blk:=[.cells [.i a,.i b,.i c]]
abbrev kAP (a:Int) (b:Int) (x:List (Nat×AV)):List (Nat×AV):=(0,.int .u64 a)::(1,.int .u64 b)::x
abbrev kAQ (a:Int) (b:Int) (x:List (Nat×AV)):List (Nat×AV):=(10,.i a)::(11,.i b)::x
abbrev kAR {α0:Type} (a:List α0) (x:List (Nat×AV)):List (Nat×AV):=(7,.slice 0 0 a.length a.length 1)::x
abbrev kAT (a:List Int) (b:Int):List AV:=[vl encI a,.i b]
abbrev kAV {α0:Type} (a:List α0) (x:List (Nat×AV)):List (Nat×AV):=(6,.gslice 2 a.length 1)::x
abbrev kAW {α0:Type} (a:List α0) (b:Int) (c:Int) (x:List (Nat×AV)):List (Nat×AV):=(0,.slice 0 0 a.length a.length 1)::(2,.i b)::(3,.i c)::x
abbrev kAX (a:Int):List (Nat×AV):=[(4,.i a)]
abbrev kAY (a:List Int) (x:List (Nat×AV)):List (Nat×AV):=(3,.ptr 0 0)::(5,vl encI a)::x
abbrev kAZ (a:List Int) (x:List (Nat×AV)):List (Nat×AV):=(2,vl encI a)::x
abbrev kAa (a:Bool):List (Nat×AV):=[(4,.bool a)]
abbrev kAc (a:Int):List (Nat×AV):=[(5,.i a)]
abbrev kAd (a:Int):List AV:=[.nilslice,.i a]
abbrev kAi (a:List Int) (b:List Int):List AV:=[vl encI a,vl encI b]
abbrev kAk (a:Int) (b:List Int):List AV:=[.i a,vl encI b]
abbrev kAl (a:Int) (b:Int) (x:List (Nat×AV)):List (Nat×AV):=(8,.i a)::(9,.i b)::x
abbrev kAn {α0:Type} (a:List α0) (x:List (Nat×AV)):List (Nat×AV):=(4,.gslice 1 a.length 1)::x
abbrev kAp (a:Bool):List (Nat×AV):=[(8,.bool a)]
abbrev kAq (a:Bool):List (Nat×AV):=[(10,.bool a)]
abbrev kAr (a:List Int) (x:List Blk):List Blk:= .frozen (a.flatMap encI.c)::x
abbrev kAs (x:List (Nat×AV)):List (Nat×AV):=(3,.nilslice)::x
abbrev kAt (a:Int) (b:Int) (x:List (Nat×AV)):List (Nat×AV):=(1,.i a)::(2,.i b)::x
abbrev kAu (a:Int) (x:List Blk):List Blk:= .cells [.i a]::x
abbrev kAw {α0:Type} (a:List α0) (x:List (Nat×AV)):List (Nat×AV):=(6,.gslice 1 a.length 1)::x
abbrev kAx (a:Int):List (Nat×AV):=[(1,.i a)]
abbrev kAy (a:Int):List (Nat×AV):=[(3,.i a)]
abbrev kAz:List AV:=[.str [105,110,115,101,114,116],.str [99,97,110,99,101,108],.str [115,119,97,112],.str [116,117,114,110]]
abbrev kA0 (a:Int) (b:Int) (x:List (Nat×AV)):List (Nat×AV):=(12,.i a)::(13,.i b)::x
abbrev kA1 (a:Int) (b:Int) (x:List (Nat×AV)):List (Nat×AV):=(43,.i a)::(44,.i b)::x
abbrev kA2 (a:Int):List (Nat×AV):=[(8,.i a)]
abbrev kA4:List (Nat×AV):=[(4,.bool true)]
abbrev kA5 {α0:Type} (a:List α0):List (Nat×AV):=[(2,.slice 0 0 a.length a.length 1)]
abbrev kA6:List (Nat×AV):=[(8,.bool false)]
abbrev kA7 {α0:Type} (a:List α0):List (Nat×AV):=[(2,.gslice 0 a.length 1)]
abbrev kA9:List (Nat×AV):=[(4,.i 0)]
abbrev kBA (a:Int) (b:Int) (x:List (Nat×AV)):List (Nat×AV):=(6,.int .u64 a)::(7,.int .u64 b)::x
abbrev kBB (a:List Int) (x:List (Nat×AV)):List (Nat×AV):=(6,vl encI a)::x
abbrev kBC (a:Bool):List (Nat×AV):=[(11,.bool a)]
abbrev kBD (x:List (Nat×AV)):List (Nat×AV):=(3,.gslice 0 ([]:List Int).length 1)::x
abbrev kBE {α0:Type} (a:List α0) (x:List (Nat×AV)):List (Nat×AV):=(3,.gslice 2 a.length 1)::x
abbrev kBF (a:Int):List (Nat×AV):=[(10,.i a)]
abbrev kBG (a:Bool):List (Nat×AV):=[(6,.bool a)]
abbrev kBH (a:Int) (b:Int):List (Nat×AV):=[(32,.i a),(33,.i b)]
abbrev kBJ:List (Nat×AV):=[(7,.i 0)]
abbrev kBK (a:Int):List (Nat×AV):=[(7,.i a)]
abbrev kBL (a:Bool):List (Nat×AV):=[(14,.bool a)]
abbrev kBM (x:List (Nat×AV)):List (Nat×AV):=(4,.nilslice)::x
abbrev kBO:List (Nat×AV):=[(5,.i 0)]
abbrev kBQ (a:Int):List (Nat×AV):=[(6,.i a)]
abbrev kBT (a:Int):List (Nat×AV):=[(0,.i a)]
abbrev kBU (x:List (Nat×AV)):List (Nat×AV):=(3,.ptr 0 0)::x
theorem z8:SlT ZT 22 3 1 8:=⟨by kernel_rfl,by kernel_rfl,by kernel_rfl,by kernel_rfl⟩
theorem ce3:CeT ZT 3:=⟨by kernel_rfl,by kernel_rfl⟩
theorem sl153:SlT ZT 153 30 1 8:=⟨by kernel_rfl,by kernel_rfl,by kernel_rfl,by kernel_rfl⟩
theorem ce30:CeT ZT 30:=⟨by kernel_rfl,by kernel_rfl⟩
theorem qeE:SlT ZT 23 22 1 24:=⟨by kernel_rfl,by kernel_rfl,by kernel_rfl,by kernel_rfl⟩
theorem qeh:CeT ZT 22:=⟨by kernel_rfl,by kernel_rfl⟩
theorem qgH:MpT ZT 202 3 4 (.int .i64) (.bool false):=⟨by kernel_rfl,by kernel_rfl,by kernel_rfl⟩
theorem xY:SlT ZT 93 3 1 8:=⟨by kernel_rfl,by kernel_rfl,by kernel_rfl,by kernel_rfl⟩
abbrev fm1:AV:= .fmap kAz [.agg [.i 0,.func (.func 209) [] [],.func (.func 210) [] []],.agg [.i 2,.func (.func 211) [] [],.func (.func 212) [] []],.agg [.i 2,.func (.func 213) [] [],.func (.func 214) [] []],.agg [.i 3,.func (.func 215) [] [],.func (.func 216) [] []]]
instance:SC 12 fm1:=⟨Still.fmap SX.h (AllST.cons SC.h (AllST.cons SC.h (AllST.cons SC.h (AllST.cons SC.h AllST.nil))))⟩
def qO (a:List Int) (b:List Int):Nat->Int->Option (Unit⊕Bool)
 |0,_=>none
 |K+1,c=>
  if c<(a.length:Int)then
  (idx a c).bind fun d=>
  (idx b c).bind fun e=>
  if(!decide (d=e))=true then
  some (.inr false)
  else
  qO a b K (w64 (c+1))
  else
  some (.inl ())
def zA (N:Nat) (a:List Int) (b:List Int):Option Bool:=
 if(!decide ((a.length:Int)=(b.length:Int)))=true then
 some false
 else
 (qO a b N 0).bind (fun
 |(.inl ())=>
 some true
 |(.inr c)=>
 some c)
theorem jL (N:Nat) (a:List Int) (b:List Int) {res:Bool} (h:zA N a b=some res):qa ZT (.fn 32) (kAi a b) [] (.bool res) []:=by
 unfold zA at h
 refine Ub Tryz.func32 rfl rfl (m:=26) rfl (rs:=[.tmp 4]) rfl (l:=(kH a (kQ b []))) rfl ?_
 refine sh fol (kH a (kQ b [])) ?_
 refine sq ?_
 refine sh fol (kH a (kQ b (kAq (!decide ((a.length:Int)=(b.length:Int)))))) ?_
 refine ihB h (fun j h=>?_) (fun j h=>?_)
 ·refine sh fol kAA ?_
  refine Goes.ret ?_
  obtain rfl:=si h
  exact(gw2 [.bool false] (Ua tB))
 refine Goes.skip ?_
 refine sq ?_
 refine sh fol (kH a (kQ b kBO)) ?_
 refine Goes.block ?_
 obtain⟨f,g3,h⟩:=bnd h
 refine Goes.imp (Q:=fun x s'=>(x= .exit 0/\(.inl ())=f/\Sub s' (ofG 26 [],[]))\/(x= .ret/\ ∃g,(.inr g)=f/\zx ZT [.tmp 4] (.bool g) .ret s')) ?_ ?_
 ·refine Uc (fun M s=> ∃(c:Int),s=(ofG 26 (kH a (kQ b (kAc c))),[])/\qO a b M c=some f) ?_ (m:=N) ⟨_,rfl,g3⟩
  rintro M s ⟨c,rfl,g3⟩
  cases M with
  |zero=>simp only[qO]at g3;cases g3
  |succ M=>
   rw[qO]at g3
   refine sq ?_
   refine sh fol (kH a (kQ b ((5,.i c)::(kBL (decide (c<(a.length:Int))))))) ?_
   refine ihD g3 (fun k g3=>?_) (fun k g3=>?_)
   ·refine Goes.skip ?_
    refine sq (Goes.block ?_)
    obtain⟨n,d,g3⟩:=bnd g3
    obtain⟨o,e,g3⟩:=bnd g3
    refine sq (gr fol [2,3,6,7] (kH a (kQ b [(5,.i c),(25,.bool (!decide (n=o)))])) (ac (iv z8 encI d) (ac (lv 0 ce3 encI d rfl) (ac (iv z8 encI e) (ac (lv 0 ce3 encI e rfl) az)))) ?_)
    refine ihB g3 (fun p g3=>?_) (fun p g3=>?_)
    ·refine sh fol kAA ?_
     refine Goes.ret ?_
     obtain rfl:=si g3
     exact Or.inr (⟨rfl,_,rfl,(gw2 [.bool false] (Ua tB))⟩)
    refine Goes.skip ?_
    refine gh fol (kH a (kQ b (kAc (w64 (c+1))))) ?_
    exact⟨M,(ofG 26 (kH a (kQ b (kAc (w64 (c+1))))),[]),Nat.lt_succ_self _,(Sub.refl _),_,rfl,g3⟩
   refine Goes.exit ?_
   obtain rfl:=si g3
   exact Or.inl (⟨rfl,rfl,(Sub.keep [] rfl rfl)⟩)
 rintro x s' (⟨rfl,rfl,hsub⟩|⟨rfl,q,rfl,hret⟩)
 ·try dsimp only at h
  refine Goes.sub hsub ?_
  refine sh fol kA4 ?_
  refine Goes.ret ?_
  obtain rfl:=si h
  exact(gw2 [.bool true] (Ua tB))
 try dsimp only at h
 obtain rfl:=si h
 exact hret
def zb (N:Nat) (a:List Int) (e:Int) (bad:Int) (want:List Int):Option Bool:=
 if(!decide (bad=0))=true then
 (if(a.length:Int)=0 then
 some (decide (e=bad))
 else
 some false:Option Bool).bind fun b=>
 some b
 else
 (if e=0 then
 (zA N a want).bind fun c=>
 some c
 else
 some false:Option Bool).bind fun d=>
 some d
theorem jd (N:Nat) (a:List Int) (e:Int) (bad:Int) (want:List Int) {res:Bool} (h:zb N a e bad want=some res):qa ZT (.fn 13) (vl encI a:: .i e::(kAk bad want)) [] (.bool res) []:=by
 unfold zb at h
 refine Ub Tryz.func13 rfl rfl (m:=26) rfl (rs:=[.tmp 8]) rfl (l:=(kH a (kAt e bad [(3,vl encI want)]))) rfl ?_
 refine sh fol (kH a (kAt e bad [(3,vl encI want)])) ?_
 refine sq ?_
 refine sh fol (kH a (kAt e bad ((3,vl encI want)::(kAq (!decide (bad=0)))))) ?_
 refine ihB h (fun n h=>?_) (fun n h=>?_)
 ·refine sq ?_
  obtain⟨j,c,h⟩:=bnd h
  refine Goes.cut (s':=(ofG 26 (kAp j),[])) ?_ ?_
  ·rcases wyD c with⟨f,c⟩|⟨f,c⟩
   ·obtain rfl:=si c
    exact tr fol [3] (kAp (decide (e=bad))) (ac (gw f) az)
   obtain rfl:=si c
   exact tr fol [3] kA6 (ac (gw f) az)
  refine Goes.ret ?_
  obtain rfl:=si h
  exact(gw2 [.bool j] (Ua tB))
 refine Goes.skip ?_
 refine sq ?_
 obtain⟨k,b,h⟩:=bnd h
 refine Goes.cut (s':=(ofG 26 (kAp k),[])) ?_ ?_
 ·rcases wyD b with⟨g,b⟩|⟨g,b⟩
  ·obtain⟨o,d,b⟩:=bnd b
   obtain rfl:=si b
   exact tr fol [2,5] (kAp o) (ac (gw g) (ac (cv (jL N a want d)) az))
  obtain rfl:=si b
  exact tr fol [2] kA6 (ac (gw g) az)
 refine Goes.ret ?_
 obtain rfl:=si h
 exact(gw2 [.bool k] (Ua tB))
def zT (l:List Int):Nat->Int->Option (Unit⊕Int)
 |0,_=>none
 |K+1,a=>
  if a<(l.length:Int)then
  (idx l a).bind fun b=>
  if(!decide (b=0))=true then
  some (.inr b)
  else
  zT l K (w64 (a+1))
  else
  some (.inl ())
def zy (N:Nat) (l:List Int):Option Int:=
 (zT l N 0).bind (fun
 |(.inl ())=>
 some 0
 |(.inr a)=>
 some a)
theorem jg (N:Nat) (l:List Int) {res:Int} (h:zy N l=some res):qa ZT (.fn 60) [vl encI l] [] (.i res) []:=by
 unfold zy at h
 refine Ub Tryz.func60 rfl rfl (m:=15) rfl (rs:=[.tmp 2]) rfl (l:=(kH l [])) rfl ?_
 refine sh fol (kH l []) ?_
 refine sq ?_
 refine sh fol ((5,vl encI l)::(6,.i (l.length:Int))::kBJ) ?_
 refine Goes.block ?_
 obtain⟨d,g2,h⟩:=bnd h
 refine Goes.imp (Q:=fun x s'=>(x= .exit 0/\(.inl ())=d/\Sub s' (ofG 15 [],[]))\/(x= .ret/\ ∃e,(.inr e)=d/\zx ZT [.tmp 2] (.i e) .ret s')) ?_ ?_
 ·refine Uc (fun M s=> ∃(a:Int),s=(ofG 15 ((5,vl encI l)::(6,.i (l.length:Int))::(kBK a)),[])/\zT l M a=some d) ?_ (m:=N) ⟨_,rfl,g2⟩
  rintro M s ⟨a,rfl,g2⟩
  cases M with
  |zero=>simp only[zT]at g2;cases g2
  |succ M=>
   rw[zT]at g2
   refine sh fol ((5,vl encI l)::(6,.i (l.length:Int))::(7,.i a)::(kAp (decide (a<(l.length:Int))))) ?_
   refine sq ?_
   refine ihD g2 (fun f g2=>?_) (fun f g2=>?_)
   ·refine Goes.skip ?_
    refine sq (Goes.block ?_)
    obtain⟨c,b,g2⟩:=bnd g2
    refine sq (gr fol [0,1] ((4,.i c)::(5,vl encI l)::(6,.i (l.length:Int))::(kBK a)) (ac (iv sl153 encI b) (ac (lv 0 ce30 encI b rfl) az)) ?_)
    refine sh fol [(4,.i c),(5,vl encI l),(6,.i (l.length:Int)),(7,.i a),(12,.bool (!decide (c=0)))] ?_
    refine ihB g2 (fun g g2=>?_) (fun g g2=>?_)
    ·refine sh fol [(2,.i c)] ?_
     refine Goes.ret ?_
     obtain rfl:=si g2
     exact Or.inr (⟨rfl,_,rfl,(gw2 [.i c] (Ua tI))⟩)
    refine Goes.skip ?_
    refine gh fol ((5,vl encI l)::(6,.i (l.length:Int))::(kBK (w64 (a+1)))) ?_
    exact⟨M,(ofG 15 ((5,vl encI l)::(6,.i (l.length:Int))::(kBK (w64 (a+1)))),[]),Nat.lt_succ_self _,(Sub.refl _),_,rfl,g2⟩
   refine Goes.exit ?_
   obtain rfl:=si g2
   exact Or.inl (⟨rfl,rfl,(Sub.keep [] rfl rfl)⟩)
 rintro x s' (⟨rfl,rfl,hsub⟩|⟨rfl,j,rfl,hret⟩)
 ·try dsimp only at h
  refine Goes.sub hsub ?_
  refine sh fol [(2,.i 0)] ?_
  refine Goes.ret ?_
  obtain rfl:=si h
  exact(gw2 [.i 0] (Ua tI))
 try dsimp only at h
 obtain rfl:=si h
 exact hret
def kR (holds:Bool) (e:Int):Option Int:=
 if holds=true then
 some e
 else
 some 0
theorem kw (holds:Bool) (e:Int) {res:Int} (h:kR holds e=some res):qa ZT (.fn 67) [.bool holds,.i e] [] (.i res) []:=by
 unfold kR at h
 refine Ub Tryz.func67 rfl rfl (m:=7) rfl (rs:=[.tmp 4]) rfl (l:=((0,.bool holds)::(kAx e))) rfl ?_
 refine sh fol ((0,.bool holds)::(kAx e)) ?_
 refine sq ?_
 refine sh fol [(1,.i e),(5,.bool holds)] ?_
 refine ihB h (fun a h=>?_) (fun a h=>?_)
 ·refine sh fol (kAX e) ?_
  refine Goes.ret ?_
  obtain rfl:=si h
  exact(gw2 [.i e] (Ua tI))
 refine Goes.skip ?_
 refine sh fol kA9 ?_
 refine Goes.ret ?_
 obtain rfl:=si h
 exact(gw2 [.i 0] (Ua tI))
def zn (n:Int):Option Int:=
 (if n<1 then
 (kR true 3).bind fun a=>
 some a
 else
 (kR (decide (n>12)) 3).bind fun b=>
 some b:Option Int).bind fun c=>
 some c
theorem zi (n:Int) {res:Int} (h:zn n=some res):qa ZT (.fn 61) [.i n] [] (.i res) []:=by
 unfold zn at h
 refine Ub Tryz.func61 rfl rfl (m:=10) rfl (rs:=[.tmp 2]) rfl (l:=(kBT n)) rfl ?_
 refine sh fol (kBT n) ?_
 refine sq ?_
 obtain⟨e,a,h⟩:=bnd h
 refine Goes.cut (s':=(ofG 10 [(2,.i e)],[])) ?_ ?_
 ·rcases wyD a with⟨d,a⟩|⟨d,a⟩
  ·obtain⟨f,b,a⟩:=bnd a
   obtain rfl:=si a
   exact tr fol [2,6] [(2,.i f)] (ac (gw d) (ac (cv (kw true 3 b)) az))
  obtain⟨g,c,a⟩:=bnd a
  obtain rfl:=si a
  exact tr fol [2,6] [(2,.i g)] (ac (gw d) (ac (cv (kw (decide (n>12)) 3 c)) az))
 refine Goes.ret ?_
 obtain rfl:=si h
 exact(gw2 [.i e] (Ua tI))
def ji (n:Int):Option Int:=
 some (if(w64 (0-n))>n then(w64 (0-n))else n)
theorem vG (n:Int) {res:Int} (h:ji n=some res):qa ZT (.fn 68) [.i n] [] (.i res) []:=by
 unfold ji at h
 refine Ub Tryz.func68 rfl rfl (m:=7) rfl (rs:=[.tmp 2]) rfl (l:=(kBT n)) rfl ?_
 refine sh fol (kBT n) ?_
 refine sh fol [(2,.i (if(w64 (0-n))>n then(w64 (0-n))else n))] ?_
 refine Goes.ret ?_
 obtain rfl:=si h
 exact(gw2 [.i (if(w64 (0-n))>n then(w64 (0-n))else n)] (Ua tI))
def qX (c:List Int):Nat->(List Int)->Int->Option (List Int)
 |0,_,_=>none
 |K+1,b,a=>
  if a<(c.length:Int)then
  (idx b a).bind fun e=>
  (put b a a).bind fun d=>
  qX c K d (w64 (a+1))
  else
  some b
def jb (N:Nat) (a:Int):Option (List Int):=
 (mk 8 a 0).bind fun b=>
 (qX b N b 0).bind fun c=>
 some c
theorem xX (N:Nat) (c:Int) {n:List Int} (h:jb N c=some n):qa ZT (.fn 131) [.i c] [] (.slice 0 0 n.length n.length 1) (kA n):=by
 unfold jb at h
 refine Up Tryz.func131 rfl rfl (m:=18) rfl (rs:=[.tmp 2]) rfl (l:=(kBT c)) rfl ?_
 intro B hB
 refine sh fol (kBT c) ?_
 obtain⟨a,k,h⟩:=bnd h
 refine sq (gq fol [1] (kK a []) (kA a) (ac (hs (.run [] (jr ZT 22 (.i c) (.i c)) [] (.slice 0 0 a.length a.length 1) (kA a) false) (qdm z8 (E:=encI) (z:=0) rfl (by kernel_rfl) k rfl)) az) ?_)
 refine sq ?_
 refine sh fol (kK a [(8,.i (a.length:Int)),(9,.i 0)]) ?_
 refine Goes.block ?_
 obtain⟨o,g6,h⟩:=bnd h
 refine Goes.imp (Q:=fun x s'=>(x= .exit 0/\ ∃j,j=o/\Sub s' (ofG 18 (kK j []),(kA j)))) ?_ ?_
 ·refine Uc (fun M s=> ∃(d:List Int) (b:Int),s=(ofG 18 (kK d (kAl (a.length:Int) b [])),(kA d))/\qX a M d b=some o) ?_ (m:=N) ⟨_,_,rfl,g6⟩
  rintro M s ⟨d,b,rfl,g6⟩
  cases M with
  |zero=>simp only[qX]at g6;cases g6
  |succ M=>
   rw[qX]at g6
   refine sh fol (kK d (kAl (a.length:Int) b (kAq (decide (b<(a.length:Int)))))) ?_
   refine sq ?_
   refine ihD g6 (fun p g6=>?_) (fun p g6=>?_)
   ·refine Goes.skip ?_
    refine sq (Goes.block ?_)
    refine sh fol (kK d ((4,.i b)::(kAl (a.length:Int) b []))) ?_
    obtain⟨q,e,g6⟩:=bnd g6
    obtain⟨f,g,g6⟩:=bnd g6
    refine gq fol [3,4] (kK d (kAl (a.length:Int) b [])) (kA f) (ac (hs (.done (.opt (qd ZT 22 (.slice 0 0 d.length d.length 1) (.i b))) (.ptr 0 ((b:Int).toNat*1+0))) (qcm z8 e)) (ac (hs (.run [0] (jW ZT 3 (.ptr 0 ((b:Int).toNat*1+0)) (.i b)) (kA d) .undef (kA f) true) (xW (E:=encI) (l:=d) (y:=b) rfl (show _=some 1 by kernel_rfl) rfl e rfl rfl rfl rfl rfl g rfl)) az)) ?_
    refine Goes.sub (show Sub (ofG 18 (kK d (kAl (a.length:Int) b [])),(kA f)) (ofG 18 (kK f (kAl (a.length:Int) b [])),(kA f))from(Sub.norm [] [some 0] (by rw[hB];rfl) rfl (.keep (.sliceE rfl (vI g)) (.keep (.same nI) (.keep (.same nI) .nil))) (.ks .nil))) ?_
    refine gh fol (kK f (kAl (a.length:Int) (w64 (b+1)) [])) ?_
    exact⟨M,(ofG 18 (kK f (kAl (a.length:Int) (w64 (b+1)) [])),(kA f)),Nat.lt_succ_self _,(Sub.refl _),_,_,rfl,g6⟩
   refine Goes.exit ?_
   obtain rfl:=si g6
   exact⟨rfl,_,rfl,(Sub.keep [3] rfl rfl)⟩
 rintro x s' ⟨rfl,j,rfl,hsub⟩
 refine Goes.sub hsub ?_
 refine sh fol (kA5 j) ?_
 refine Goes.ret ?_
 obtain rfl:=si h
 exact(gh2 [.slice 0 0 j.length j.length 1] (xS.refl _ _))
def vT (a:Int):Option Int:=
 some (w64 (0-a))
theorem qbt (a:Int) {res:Int} (h:vT a=some res):qa ZT (.fn 97) [.i a] [] (.i res) []:=by
 unfold vT at h
 refine Ub Tryz.func97 rfl rfl (m:=5) rfl (rs:=[.tmp 2]) rfl (l:=(kBT a)) rfl ?_
 refine sh fol (kBT a) ?_
 refine sh fol [(2,.i (w64 (0-a)))] ?_
 refine Goes.ret ?_
 obtain rfl:=si h
 exact(gw2 [.i (w64 (0-a))] (Ua tI))
def qA (a:List Int):Nat->(List Int)->Int->Option (List Int)
 |0,_,_=>none
 |K+1,c,b=>
  if b<(a.length:Int)then
  (idx a b).bind fun d=>
  (vT d).bind fun e=>
  (app 8 c [e]).bind fun f=>
  qA a K f (w64 (b+1))
  else
  some c
def zJ (N:Nat) (a:List Int):Option (List Int):=
 (qA a N ([]:List Int) 0).bind fun b=>
 some b
theorem xy (N:Nat) (a:List Int) {n:List Int} (h:zJ N a=some n):qa ZT (.fn 96) [vl encI a,.func (.func 97) [] []] [] (.gslice 0 n.length 1) (kA n):=by
 unfold zJ at h
 refine Up Tryz.func96 rfl rfl (m:=22) rfl (rs:=[.tmp 4]) rfl (l:=(kH a [(1,.func (.func 97) [] [])])) rfl ?_
 intro B hB
 refine sh fol (kH a [(1,.func (.func 97) [] [])]) ?_
 refine sh fol (kH a [(1,.func (.func 97) [] []),(5,.nilslice)]) ?_
 refine sq ?_
 refine sh fol ((1,.func (.func 97) [] [])::(5,.nilslice)::(kAI a (a.length:Int) [(10,.i 0)])) ?_
 refine Goes.block ?_
 obtain⟨o,g5,h⟩:=bnd h
 refine Goes.imp (Q:=fun x s'=>(x= .exit 0/\ ∃f,f=o/\Sub s' (ofG 22 (kU f []),(kA f)))) ?_ ?_
 ·refine Goes.sub (s':=(ofG 22 ((1,.func (.func 97) [] [])::(5,.gslice 0 ([]:List Int).length 1)::(kAI a (a.length:Int) [(10,.i 0)])),kZ)) (Sub.norm [] [none] (by rw[hB];rfl) rfl (.keep (.same (qg.func sn sn)) (.keep .nil (.keep (.same (qF encI _)) (.keep (.same nI) (.keep (.same nI) .nil))))) (.fresh .nil)) ?_
  refine Uc (fun M s=> ∃(b:List Int) (c:Int),s=(ofG 22 ((1,.func (.func 97) [] [])::(kU b (kAI a (a.length:Int) (kBF c)))),(kA b))/\qA a M b c=some o) ?_ (m:=N) ⟨_,_,rfl,g5⟩
  rintro M s ⟨b,c,rfl,g5⟩
  cases M with
  |zero=>simp only[qA]at g5;cases g5
  |succ M=>
   rw[qA]at g5
   refine sh fol ((1,.func (.func 97) [] [])::(kU b (kAI a (a.length:Int) ((10,.i c)::(kBC (decide (c<(a.length:Int)))))))) ?_
   refine sq ?_
   refine ihD g5 (fun q g5=>?_) (fun q g5=>?_)
   ·refine Goes.skip ?_
    refine sq (Goes.block ?_)
    obtain⟨p,d,g5⟩:=bnd g5
    refine sq (gr fol [0,1] ((1,.func (.func 97) [] [])::(kU b ((7,.i p)::(kAI a (a.length:Int) (kBF c))))) (ac (iv z8 encI d) (ac (lv 0 ce3 encI d rfl) az)) ?_)
    obtain⟨k,g,g5⟩:=bnd g5
    obtain⟨e,j,g5⟩:=bnd g5
    refine gq fol [3,5] ((1,.func (.func 97) [] [])::(5,.gslice 2 e.length 1)::(kAI a (a.length:Int) (kBF c))) (kAD k (kA e)) (ac (cv (qbt p g)) (ac (hs (.run [0,1] (jf ZT [22,22] (.gslice 0 b.length 1) (.slice 1 0 1 1 1)) (kJ b (kAu k [])) (.gslice 2 e.length 1) (kAD k (kA e)) true) (vU z8 (E:=encI) rfl (qcY (E:=encI) (ys:=[k]) rfl rfl rfl rfl) (qbw (E:=encI) (l:=b) rfl rfl rfl j rfl))) az)) ?_
    refine gh fol ((1,.func (.func 97) [] [])::(5,.gslice 2 e.length 1)::(kAI a (a.length:Int) (kBF (w64 (c+1))))) ?_
    exact⟨M,(ofG 22 ((1,.func (.func 97) [] [])::(kU e (kAI a (a.length:Int) (kBF (w64 (c+1)))))),(kA e)),Nat.lt_succ_self _,(Sub.norm [] [some 2] (by rw[hB];rfl) rfl (.keep (.same (qg.func sn sn)) (.keep (.gslice rfl) (.keep (.same (qF encI _)) (.keep (.same nI) (.keep (.same nI) .nil))))) (.ks .nil)),_,_,rfl,g5⟩
   refine Goes.exit ?_
   obtain rfl:=si g5
   exact⟨rfl,_,rfl,(Sub.keep [5] rfl rfl)⟩
 rintro x s' ⟨rfl,f,rfl,hsub⟩
 refine Goes.sub hsub ?_
 refine sh fol (kAE f []) ?_
 refine Goes.ret ?_
 obtain rfl:=si h
 exact(gh2 [.gslice 0 f.length 1] (xS.refl _ _))
def qw:Nat->(List Int)->Int->Int->Option (List Int)
 |0,_,_,_=>none
 |K+1,c,d,a=>
  if d<a then
  (idx c a).bind fun f=>
  (idx c d).bind fun g=>
  (put c d f).bind fun b=>
  (idx b a).bind fun h=>
  (put b a g).bind fun e=>
  qw K e (w64 (d+1)) (w64 (a-1))
  else
  some c
def zk (N:Nat) (a:List Int):Option (List Int):=
 (qw N a 0 (w64 ((a.length:Int)-1))).bind fun b=>
 some b
theorem yR (N:Nat) (f:List Int) {t:List Int} (h:zk N f=some t):qa ZT (.fn 133) [.gslice 0 f.length 1] (kA f) (.tuple []) (kA t):=by
 unfold zk at h
 refine Up Tryz.func133 rfl rfl (m:=28) rfl (rs:=[]) rfl (l:=(kS f [])) rfl ?_
 intro B hB
 refine Goes.subQ ?_
 refine sh fol (kS f ((2,.i 0)::(kAy (w64 ((f.length:Int)-1))))) ?_
 refine Goes.block ?_
 obtain⟨u,g6,h⟩:=bnd h
 refine Goes.imp (Q:=fun x s'=>(x= .exit 0/\ ∃p,p=u/\Sub s' (ofG 28 [],(kA p)))) ?_ ?_
 ·refine Uc (fun M s=> ∃(a:List Int) (c:Int) (d:Int),s=(ofG 28 (kS a ((2,.i c)::(kAy d))),(kA a))/\qw M a c d=some u) ?_ (m:=N) ⟨_,_,_,rfl,g6⟩
  rintro M s ⟨a,c,d,rfl,g6⟩
  cases M with
  |zero=>simp only[qw]at g6;cases g6
  |succ M=>
   rw[qw]at g6
   refine sq ?_
   refine sh fol (kS a [(2,.i c),(3,.i d),(9,.bool (decide (c<d)))]) ?_
   refine ihD g6 (fun v g6=>?_) (fun v g6=>?_)
   ·refine Goes.skip ?_
    refine sq (Goes.block ?_)
    obtain⟨q,g,g6⟩:=bnd g6
    obtain⟨r,e,g6⟩:=bnd g6
    obtain⟨n,j,g6⟩:=bnd g6
    obtain⟨w,o,g6⟩:=bnd g6
    obtain⟨b,k,g6⟩:=bnd g6
    refine gq fol [6,7,10,11,12,13,14,15] (kS a ((2,.i c)::(kAy d))) (kA b) (ac (hs (.done (.opt (qd ZT 22 (.gslice 0 a.length 1) (.i d))) (.ptr 0 ((d:Int).toNat*1+0))) (qbA z8 g)) (ac (hs (.run [0] (jE ZT 3 (.ptr 0 ((d:Int).toNat*1+0))) (kA a) (.i q) (kA a) false) (qcy ce3 (E:=encI) (l:=a) rfl rfl g (nl rfl) rfl)) (ac (hs (.done (.opt (qd ZT 22 (.gslice 0 a.length 1) (.i c))) (.ptr 0 ((c:Int).toNat*1+0))) (qbA z8 e)) (ac (hs (.run [0] (jE ZT 3 (.ptr 0 ((c:Int).toNat*1+0))) (kA a) (.i r) (kA a) false) (qcy ce3 (E:=encI) (l:=a) rfl rfl e (nl rfl) rfl)) (ac (hs (.done (.opt (qd ZT 22 (.gslice 0 a.length 1) (.i c))) (.ptr 0 ((c:Int).toNat*1+0))) (qbA z8 e)) (ac (hs (.run [0] (jW ZT 3 (.ptr 0 ((c:Int).toNat*1+0)) (.i q)) (kA a) .undef (kA n) true) (xW (E:=encI) (l:=a) (y:=q) rfl (show _=some 1 by kernel_rfl) rfl e rfl rfl rfl rfl rfl j rfl)) (ac (hs (.done (.opt (qd ZT 22 (.gslice 0 a.length 1) (.i d))) (.ptr 0 ((d:Int).toNat*1+0))) (qbA z8 g)) (ac (hs (.run [0] (jW ZT 3 (.ptr 0 ((d:Int).toNat*1+0)) (.i r)) (kA n) .undef (kA b) true) (xW (E:=encI) (l:=n) (y:=r) rfl (show _=some 1 by kernel_rfl) rfl o rfl rfl rfl rfl rfl k rfl)) az)))))))) ?_
    refine Goes.sub (show Sub (ofG 28 (kS a ((2,.i c)::(kAy d))),(kA b)) (ofG 28 (kS b ((2,.i c)::(kAy d))),(kA b))from(Sub.norm [] [some 0] (by rw[hB];rfl) rfl (.keep (.gsliceE rfl ((vI j).trans (vI k))) (.keep (.same nI) (.keep (.same nI) .nil))) (.ks .nil))) ?_
    refine gh fol (kS b ((2,.i (w64 (c+1)))::(kAy (w64 (d-1))))) ?_
    exact⟨M,(ofG 28 (kS b ((2,.i (w64 (c+1)))::(kAy (w64 (d-1))))),(kA b)),Nat.lt_succ_self _,(Sub.refl _),_,_,_,rfl,g6⟩
   refine Goes.exit ?_
   obtain rfl:=si g6
   exact⟨rfl,_,rfl,(Sub.keep [] rfl rfl)⟩
 rintro x s' ⟨rfl,p,rfl,hsub⟩
 obtain rfl:=si h
 exact⟨_,hsub,(gh2 [] (xS.refl _ _))⟩
def zM (N:Nat) (a:List Int):Option (List Int):=
 (zJ N a).bind fun b=>
 (zk N b).bind fun c=>
 ((if b.length=c.length then some ()else none:Option Unit)).bind fun d=>
 some c
theorem qaz (N:Nat) (a:List Int) {g:List Int} (h:zM N a=some g):qa ZT (.fn 73) [vl encI a] [] (.gslice 0 g.length 1) (kA g):=by
 unfold zM at h
 refine Up Tryz.func73 rfl rfl (m:=9) rfl (rs:=[.tmp 2]) rfl (l:=(kH a [])) rfl ?_
 intro B hB
 refine sh fol (kH a []) ?_
 obtain⟨b,d,h⟩:=bnd h
 refine sq (gq fol [1] (kAH b []) (kA b) (ac (hs (.callH 96 [vl encI a,.func (.func 97) [] []] [] [] (.gslice 0 b.length 1) (kA b)) (yT [] [some 0] (xy N a d) .nil rfl rfl (.new rfl rfl (.same fa) rfl .nil) (rc (.same (qF encI _)) (rc (.same (qg.func sn sn)) rn)) (.gslice rfl) rfl)) az) ?_)
 obtain⟨c,e,h⟩:=bnd h
 obtain⟨i,f,h⟩:=bnd h
 refine sq (gq fol [1] (kAH b []) (kA c) (ac (hs (.callH 133 [.gslice 0 b.length 1] (kA b) [0] (.tuple []) (kA c)) (yT [some 0] [some 0] (yR N b e) (.ks .nil) rfl rfl (.back rfl rfl (.same fa) rfl .nil) (rc (.gslice rfl) rn) (.same (qg.tuple sn)) rfl)) az) ?_)
 refine Goes.sub (show Sub (ofG 9 (kAH b []),(kA c)) (ofG 9 (kAH c []),(kA c))from(Sub.norm [] [some 0] (by rw[hB];rfl) rfl (.keep (.gsliceE rfl (qfh f)) .nil) (.ks .nil))) ?_
 refine sh fol (kA7 c) ?_
 refine Goes.ret ?_
 obtain rfl:=si h
 exact(gh2 [.gslice 0 c.length 1] (xS.refl _ _))
def zq (p:List Int):Nat->(List Int)->Int->Option (List Int)
 |0,_,_=>none
 |K+1,b,a=>
  if a<(p.length:Int)then
  (idx p a).bind fun c=>
  (idx b c).bind fun e=>
  (put b c a).bind fun d=>
  zq p K d (w64 (a+1))
  else
  some b
def j6 (N:Nat) (p:List Int):Option (List Int):=
 (mk 8 (p.length:Int) 0).bind fun a=>
 (zq p N a 0).bind fun b=>
 some b
theorem qbi (N:Nat) (p:List Int) {res:List Int} (h:j6 N p=some res):qa ZT (.fn 98) [vl encI p] [] (vl encI res) []:=by
 unfold j6 at h
 refine Ub Tryz.func98 rfl rfl (m:=22) rfl (rs:=[.tmp 2]) rfl (l:=(kH p [])) rfl ?_
 refine sh fol (kH p []) ?_
 obtain⟨j,k,h⟩:=bnd h
 refine sq (gq fol [2] (kH p (kK j [])) (kA j) (ac (hs (.run [] (jr ZT 22 (.i (p.length:Int)) (.i (p.length:Int))) [] (.slice 0 0 j.length j.length 1) (kA j) false) (qdm z8 (E:=encI) (z:=0) rfl (by kernel_rfl) k rfl)) az) ?_)
 refine sq ?_
 refine sh fol (kH p (kK j kA9)) ?_
 refine Goes.block ?_
 obtain⟨o,g5,h⟩:=bnd h
 refine Goes.imp (Q:=fun x s'=>(x= .exit 0/\ ∃g,g=o/\Sub s' (ofG 22 (kK g []),(kA g)))) ?_ ?_
 ·refine Uc (fun M s=> ∃(b:List Int) (a:Int),s=(ofG 22 (kH p (kK b (kAX a))),(kA b))/\zq p M b a=some o) ?_ (m:=N) ⟨_,_,rfl,g5⟩
  rintro M s ⟨b,a,rfl,g5⟩
  cases M with
  |zero=>simp only[zq]at g5;cases g5
  |succ M=>
   rw[zq]at g5
   refine sq ?_
   refine sh fol (kH p (kK b ((4,.i a)::(kBC (decide (a<(p.length:Int))))))) ?_
   refine ihD g5 (fun q g5=>?_) (fun q g5=>?_)
   ·refine Goes.skip ?_
    refine sq (Goes.block ?_)
    obtain⟨n,c,g5⟩:=bnd g5
    obtain⟨r,d,g5⟩:=bnd g5
    obtain⟨e,f,g5⟩:=bnd g5
    refine gq fol [3,4,6,7] (kH p (kK b (kAX a))) (kA e) (ac (iv z8 encI c) (ac (lv 0 ce3 encI c rfl) (ac (hs (.done (.opt (qd ZT 22 (.slice 0 0 b.length b.length 1) (.i n))) (.ptr 0 ((n:Int).toNat*1+0))) (qcm z8 d)) (ac (hs (.run [0] (jW ZT 3 (.ptr 0 ((n:Int).toNat*1+0)) (.i a)) (kA b) .undef (kA e) true) (xW (E:=encI) (l:=b) (y:=a) rfl (show _=some 1 by kernel_rfl) rfl d rfl rfl rfl rfl rfl f rfl)) az)))) ?_
    refine Goes.sub (show Sub (ofG 22 (kH p (kK b (kAX a))),(kA e)) (ofG 22 (kH p (kK e (kAX a))),(kA e))from(Sub.norm [] [some 0] rfl rfl (.keep (.same (qF encI _)) (.keep (.sliceE rfl (vI f)) (.keep (.same nI) .nil))) (.ks .nil))) ?_
    refine gh fol (kH p (kK e (kAX (w64 (a+1))))) ?_
    exact⟨M,(ofG 22 (kH p (kK e (kAX (w64 (a+1))))),(kA e)),Nat.lt_succ_self _,(Sub.refl _),_,_,rfl,g5⟩
   refine Goes.exit ?_
   obtain rfl:=si g5
   exact⟨rfl,_,rfl,(Sub.keep [3] rfl rfl)⟩
 rintro x s' ⟨rfl,g,rfl,hsub⟩
 refine Goes.sub hsub ?_
 refine sh fol (kA5 g) ?_
 refine Goes.ret ?_
 obtain rfl:=si h
 exact(gw2 [.slice 0 0 g.length g.length 1] (Uu (Fz.sl (E:=encI) rfl rfl (nl rfl))))
def yB (c:Int):Option Int:=
 some (if(w64 (0-c))>c then(w64 (0-c))else c)
theorem qcA (c:Int) {res:Int} (h:yB c=some res):qa ZT (.fn 77) [.i c] [] (.i res) []:=by
 unfold yB at h
 refine Ub Tryz.func77 rfl rfl (m:=7) rfl (rs:=[.tmp 2]) rfl (l:=(kBT c)) rfl ?_
 refine sh fol (kBT c) ?_
 refine sh fol [(2,.i (if(w64 (0-c))>c then(w64 (0-c))else c))] ?_
 refine Goes.ret ?_
 obtain rfl:=si h
 exact(gw2 [.i (if(w64 (0-c))>c then(w64 (0-c))else c)] (Ua tI))
def qV (a:Int):Nat->(List Int)->Int->Option (List Int)
 |0,_,_=>none
 |K+1,c,b=>
  if b<a then
  (app 8 c [b]).bind fun d=>
  qV a K d (w64 (b+1))
  else
  some c
def ja (N:Nat) (a:Int):Option (List Int):=
 (qV a N ([]:List Int) 0).bind fun b=>
 some b
theorem vW (N:Nat) (a:Int) {g:List Int} (h:ja N a=some g):qa ZT (.fn 86) [.i a] [] (.gslice 0 g.length 1) (kA g):=by
 unfold ja at h
 refine Up Tryz.func86 rfl rfl (m:=15) rfl (rs:=[.tmp 2]) rfl (l:=(kBT a)) rfl ?_
 intro B hB
 refine sh fol (kBT a) ?_
 refine sh fol ((0,.i a)::(kAs [])) ?_
 refine sq ?_
 refine sh fol ((0,.i a)::(kAs kA9)) ?_
 refine Goes.block ?_
 obtain⟨j,g5,h⟩:=bnd h
 refine Goes.imp (Q:=fun x s'=>(x= .exit 0/\ ∃e,e=j/\Sub s' (ofG 15 (kAH e []),(kA e)))) ?_ ?_
 ·refine Goes.sub (s':=(ofG 15 ((0,.i a)::(kBD kA9)),kZ)) (Sub.norm [] [none] (by rw[hB];rfl) rfl (.keep (.same nI) (.keep .nil (.keep (.same nI) .nil))) (.fresh .nil)) ?_
  refine Uc (fun M s=> ∃(c:List Int) (b:Int),s=(ofG 15 ((0,.i a)::(kAH c (kAX b))),(kA c))/\qV a M c b=some j) ?_ (m:=N) ⟨_,_,rfl,g5⟩
  rintro M s ⟨c,b,rfl,g5⟩
  cases M with
  |zero=>simp only[qV]at g5;cases g5
  |succ M=>
   rw[qV]at g5
   refine sq ?_
   refine sh fol ((0,.i a)::(kAH c [(4,.i b),(7,.bool (decide (b<a)))])) ?_
   refine ihD g5 (fun k g5=>?_) (fun k g5=>?_)
   ·refine Goes.skip ?_
    refine sq (Goes.block ?_)
    obtain⟨d,f,g5⟩:=bnd g5
    refine gq fol [3] ((0,.i a)::(kBE d (kAX b))) (kAD b (kA d)) (ac (hs (.run [0,1] (jf ZT [22,22] (.gslice 0 c.length 1) (.slice 1 0 1 1 1)) (kJ c (kAu b [])) (.gslice 2 d.length 1) (kAD b (kA d)) true) (vU z8 (E:=encI) rfl (qcY (E:=encI) (ys:=[b]) rfl rfl rfl rfl) (qbw (E:=encI) (l:=c) rfl rfl rfl f rfl))) az) ?_
    refine gh fol ((0,.i a)::(kBE d (kAX (w64 (b+1))))) ?_
    exact⟨M,(ofG 15 ((0,.i a)::(kAH d (kAX (w64 (b+1))))),(kA d)),Nat.lt_succ_self _,(Sub.norm [] [some 2] (by rw[hB];rfl) rfl (.keep (.same nI) (.keep (.gslice rfl) (.keep (.same nI) .nil))) (.ks .nil)),_,_,rfl,g5⟩
   refine Goes.exit ?_
   obtain rfl:=si g5
   exact⟨rfl,_,rfl,(Sub.keep [3] rfl rfl)⟩
 rintro x s' ⟨rfl,e,rfl,hsub⟩
 refine Goes.sub hsub ?_
 refine sh fol (kA7 e) ?_
 refine Goes.ret ?_
 obtain rfl:=si h
 exact(gh2 [.gslice 0 e.length 1] (xS.refl _ _))
def zl (w:List Int):Nat->(List Int)->Int->Option (List Int)
 |0,_,_=>none
 |K+1,b,a=>
  if a>=0 then
  (idx w a).bind fun c=>
  (app 8 b [w64 (0-c)]).bind fun d=>
  zl w K d (w64 (a-1))
  else
  some b
def jJ (N:Nat) (w:List Int):Option (List Int):=
 (zl w N ([]:List Int) (w64 ((w.length:Int)-1))).bind fun a=>
 some a
theorem qbj (N:Nat) (w:List Int) {res:List Int} (h:jJ N w=some res):qa ZT (.fn 43) [vl encI w] [] (vl encI res) []:=by
 unfold jJ at h
 refine Ub Tryz.func43 rfl rfl (m:=21) rfl (rs:=[.tmp 2]) rfl (l:=(kH w [])) rfl ?_
 refine sh fol (kH w []) ?_
 refine sh fol (kH w (kAs [])) ?_
 refine sq ?_
 refine sh fol (kH w (kAs (kAX (w64 ((w.length:Int)-1))))) ?_
 refine Goes.block ?_
 obtain⟨j,g4,h⟩:=bnd h
 refine Goes.imp (Q:=fun x s'=>(x= .exit 0/\ ∃e,e=j/\Sub s' (ofG 21 (kAH e []),(kA e)))) ?_ ?_
 ·refine Goes.sub (s':=(ofG 21 (kH w (kBD (kAX (w64 ((w.length:Int)-1))))),kZ)) (Sub.norm [] [none] rfl rfl (.keep (.same (qF encI _)) (.keep .nil (.keep (.same nI) .nil))) (.fresh .nil)) ?_
  refine Uc (fun M s=> ∃(a:List Int) (b:Int),s=(ofG 21 (kH w (kAH a (kAX b))),(kA a))/\zl w M a b=some j) ?_ (m:=N) ⟨_,_,rfl,g4⟩
  rintro M s ⟨a,b,rfl,g4⟩
  cases M with
  |zero=>simp only[zl]at g4;cases g4
  |succ M=>
   rw[zl]at g4
   refine sq ?_
   refine sh fol (kH w (kAH a [(4,.i b),(9,.bool (decide (b>=0)))])) ?_
   refine ihD g4 (fun k g4=>?_) (fun k g4=>?_)
   ·refine Goes.skip ?_
    refine sq (Goes.block ?_)
    obtain⟨g,c,g4⟩:=bnd g4
    obtain⟨d,f,g4⟩:=bnd g4
    refine gq fol [3,4,7] (kH w (kBE d (kAX b))) (kAD (w64 (0-g)) (kA d)) (ac (iv z8 encI c) (ac (lv 0 ce3 encI c rfl) (ac (hs (.run [0,1] (jf ZT [22,22] (.gslice 0 a.length 1) (.slice 1 0 1 1 1)) (kJ a (kAu (w64 (0-g)) [])) (.gslice 2 d.length 1) (kAD (w64 (0-g)) (kA d)) true) (vU z8 (E:=encI) rfl (qcY (E:=encI) (ys:=[w64 (0-g)]) rfl rfl rfl rfl) (qbw (E:=encI) (l:=a) rfl rfl rfl f rfl))) az))) ?_
    refine gh fol (kH w (kBE d (kAX (w64 (b-1))))) ?_
    exact⟨M,(ofG 21 (kH w (kAH d (kAX (w64 (b-1))))),(kA d)),Nat.lt_succ_self _,(Sub.norm [] [some 2] rfl rfl (.keep (.same (qF encI _)) (.keep (.gslice rfl) (.keep (.same nI) .nil))) (.ks .nil)),_,_,rfl,g4⟩
   refine Goes.exit ?_
   obtain rfl:=si g4
   exact⟨rfl,_,rfl,(Sub.keep [3] rfl rfl)⟩
 rintro x s' ⟨rfl,e,rfl,hsub⟩
 refine Goes.sub hsub ?_
 refine sh fol (kA7 e) ?_
 refine Goes.ret ?_
 obtain rfl:=si h
 exact(gw2 [.gslice 0 e.length 1] (Uu (Fz.gs (E:=encI) rfl rfl (nl rfl))))
def zm (holds:Bool) (e:Int):Option Int:=
 if holds=true then
 some e
 else
 some 0
theorem jY (holds:Bool) (e:Int) {res:Int} (h:zm holds e=some res):qa ZT (.fn 9) [.bool holds,.i e] [] (.i res) []:=by
 unfold zm at h
 refine Ub Tryz.func9 rfl rfl (m:=7) rfl (rs:=[.tmp 4]) rfl (l:=((0,.bool holds)::(kAx e))) rfl ?_
 refine sh fol ((0,.bool holds)::(kAx e)) ?_
 refine sq ?_
 refine sh fol [(1,.i e),(5,.bool holds)] ?_
 refine ihB h (fun a h=>?_) (fun a h=>?_)
 ·refine sh fol (kAX e) ?_
  refine Goes.ret ?_
  obtain rfl:=si h
  exact(gw2 [.i e] (Ua tI))
 refine Goes.skip ?_
 refine sh fol kA9 ?_
 refine Goes.ret ?_
 obtain rfl:=si h
 exact(gw2 [.i 0] (Ua tI))
def zS (l:List Int):Nat->Int->Option (Unit⊕Int)
 |0,_=>none
 |K+1,a=>
  if a<(l.length:Int)then
  (idx l a).bind fun b=>
  if(!decide (b=0))=true then
  some (.inr b)
  else
  zS l K (w64 (a+1))
  else
  some (.inl ())
def vD (N:Nat) (l:List Int):Option Int:=
 (zS l N 0).bind (fun
 |(.inl ())=>
 some 0
 |(.inr a)=>
 some a)
theorem qcr (N:Nat) (l:List Int) {res:Int} (h:vD N l=some res):qa ZT (.fn 10) [vl encI l] [] (.i res) []:=by
 unfold vD at h
 refine Ub Tryz.func10 rfl rfl (m:=19) rfl (rs:=[.tmp 2]) rfl (l:=(kH l [])) rfl ?_
 refine sh fol (kH l []) ?_
 refine sq ?_
 refine sh fol (kH l [(3,.i 0)]) ?_
 refine Goes.block ?_
 obtain⟨c,g2,h⟩:=bnd h
 refine Goes.imp (Q:=fun x s'=>(x= .exit 0/\(.inl ())=c/\Sub s' (ofG 19 [],[]))\/(x= .ret/\ ∃e,(.inr e)=c/\zx ZT [.tmp 2] (.i e) .ret s')) ?_ ?_
 ·refine Uc (fun M s=> ∃(b:Int),s=(ofG 19 (kH l (kAy b)),[])/\zS l M b=some c) ?_ (m:=N) ⟨_,rfl,g2⟩
  rintro M s ⟨b,rfl,g2⟩
  cases M with
  |zero=>simp only[zS]at g2;cases g2
  |succ M=>
   rw[zS]at g2
   refine sq ?_
   refine sh fol (kH l [(3,.i b),(7,.bool (decide (b<(l.length:Int))))]) ?_
   refine ihD g2 (fun f g2=>?_) (fun f g2=>?_)
   ·refine Goes.skip ?_
    refine sq (Goes.block ?_)
    obtain⟨d,a,g2⟩:=bnd g2
    refine sq (gr fol [2,3] (kH l ((3,.i b)::(kBL (!decide (d=0))))) (ac (iv z8 encI a) (ac (lv 0 ce3 encI a rfl) az)) ?_)
    refine ihB g2 (fun g g2=>?_) (fun g g2=>?_)
    ·refine sq (gr fol [2,3] [(2,.i d)] (ac (iv z8 encI a) (ac (lv 0 ce3 encI a rfl) az)) ?_)
     refine Goes.ret ?_
     obtain rfl:=si g2
     exact Or.inr (⟨rfl,_,rfl,(gw2 [.i d] (Ua tI))⟩)
    refine Goes.skip ?_
    refine gh fol (kH l (kAy (w64 (b+1)))) ?_
    exact⟨M,(ofG 19 (kH l (kAy (w64 (b+1)))),[]),Nat.lt_succ_self _,(Sub.refl _),_,rfl,g2⟩
   refine Goes.exit ?_
   obtain rfl:=si g2
   exact Or.inl (⟨rfl,rfl,(Sub.keep [] rfl rfl)⟩)
 rintro x s' (⟨rfl,rfl,hsub⟩|⟨rfl,j,rfl,hret⟩)
 ·try dsimp only at h
  refine Goes.sub hsub ?_
  refine sh fol [(2,.i 0)] ?_
  refine Goes.ret ?_
  obtain rfl:=si h
  exact(gw2 [.i 0] (Ua tI))
 try dsimp only at h
 obtain rfl:=si h
 exact hret
def jZ (w:List Int):Option ((List Int)×Int):=
 if(w.length:Int)>200 then
 some ([],5)
 else
 some (w,0)
theorem qbf (w:List Int) {res:(List Int)×Int} (h:jZ w=some res):qa ZT (.fn 75) [vl encI w] [] (.tuple (kAT res.1 res.2)) []:=by
 unfold jZ at h
 refine Ub Tryz.func75 rfl rfl (m:=8) rfl (rs:=[.tmp 2,.tmp 3]) rfl (l:=(kH w [])) rfl ?_
 refine sh fol (kH w []) ?_
 refine sq ?_
 refine sh fol (kH w (kBG (decide ((w.length:Int)>200)))) ?_
 refine ihD h (fun a h=>?_) (fun a h=>?_)
 ·refine sh fol [(2,.nilslice),(3,.i 5)] ?_
  refine Goes.ret ?_
  obtain rfl:=si h
  exact(gw2 [.nilslice,.i 5] (FzW.tuple (jm.cons (FzW.nilv (E:=encI)) (jm.cons (Ua tI) jm.nil))))
 refine Goes.skip ?_
 refine sh fol (kAZ w [(3,.i 0)]) ?_
 refine Goes.ret ?_
 obtain rfl:=si h
 exact(gw2 [vl encI w,.i 0] (FzW.tuple (jm.cons (Ua (jC encI _ (nl rfl))) (jm.cons (Ua tI) jm.nil))))
def bits_Mul64 (a:Int) (y:Int):Option (Int×Int):=
 some (IntKind.wrap .u64 ((IntKind.wrap .u64 ((IntKind.wrap .u64 ((qZ .u64 a 32)*(qZ .u64 y 32)))+(qZ .u64 (IntKind.wrap .u64 ((IntKind.wrap .u64 ((qZ .u64 a 32)*(qP .u64 y 4294967295)))+(qZ .u64 (IntKind.wrap .u64 ((qP .u64 a 4294967295)*(qP .u64 y 4294967295))) 32))) 32)))+(qZ .u64 (IntKind.wrap .u64 ((qP .u64 (IntKind.wrap .u64 ((IntKind.wrap .u64 ((qZ .u64 a 32)*(qP .u64 y 4294967295)))+(qZ .u64 (IntKind.wrap .u64 ((qP .u64 a 4294967295)*(qP .u64 y 4294967295))) 32))) 4294967295)+(IntKind.wrap .u64 ((qP .u64 a 4294967295)*(qZ .u64 y 32))))) 32)),IntKind.wrap .u64 (a*y))
theorem qcx (a:Int) (y:Int) {res:Int×Int} (h:bits_Mul64 a y=some res):qa ZT (.fn 181) [.int .u64 a,.int .u64 y] [] (.tuple [.int .u64 res.1,.int .u64 res.2]) []:=by
 unfold bits_Mul64 at h
 refine Ub Tryz.func181 rfl rfl (m:=51) rfl (rs:=[.tmp 4,.tmp 5]) rfl (l:=(kAP a y [])) rfl ?_
 refine sh fol (kAP a y []) ?_
 refine sh fol (kAP a y [(6,.int .u64 (qP .u64 a 4294967295))]) ?_
 refine sh fol (kAP a y (kBA (qP .u64 a 4294967295) (qZ .u64 a 32) [])) ?_
 refine sh fol (kAP a y (kBA (qP .u64 a 4294967295) (qZ .u64 a 32) [(8,.int .u64 (qP .u64 y 4294967295))])) ?_
 refine sh fol (kAP a y (kBA (qP .u64 a 4294967295) (qZ .u64 a 32) [(8,.int .u64 (qP .u64 y 4294967295)),(9,.int .u64 (qZ .u64 y 32))])) ?_
 refine sh fol (kAP a y (kBA (qP .u64 a 4294967295) (qZ .u64 a 32) [(8,.int .u64 (qP .u64 y 4294967295)),(9,.int .u64 (qZ .u64 y 32)),(10,.int .u64 (IntKind.wrap .u64 ((qP .u64 a 4294967295)*(qP .u64 y 4294967295))))])) ?_
 refine sh fol (kAP a y (kBA (qP .u64 a 4294967295) (qZ .u64 a 32) [(9,.int .u64 (qZ .u64 y 32)),(11,.int .u64 (IntKind.wrap .u64 ((IntKind.wrap .u64 ((qZ .u64 a 32)*(qP .u64 y 4294967295)))+(qZ .u64 (IntKind.wrap .u64 ((qP .u64 a 4294967295)*(qP .u64 y 4294967295))) 32))))])) ?_
 refine sh fol (kAP a y (kBA (qP .u64 a 4294967295) (qZ .u64 a 32) [(9,.int .u64 (qZ .u64 y 32)),(11,.int .u64 (IntKind.wrap .u64 ((IntKind.wrap .u64 ((qZ .u64 a 32)*(qP .u64 y 4294967295)))+(qZ .u64 (IntKind.wrap .u64 ((qP .u64 a 4294967295)*(qP .u64 y 4294967295))) 32)))),(12,.int .u64 (qP .u64 (IntKind.wrap .u64 ((IntKind.wrap .u64 ((qZ .u64 a 32)*(qP .u64 y 4294967295)))+(qZ .u64 (IntKind.wrap .u64 ((qP .u64 a 4294967295)*(qP .u64 y 4294967295))) 32))) 4294967295))])) ?_
 refine sh fol (kAP a y (kBA (qP .u64 a 4294967295) (qZ .u64 a 32) [(9,.int .u64 (qZ .u64 y 32)),(12,.int .u64 (qP .u64 (IntKind.wrap .u64 ((IntKind.wrap .u64 ((qZ .u64 a 32)*(qP .u64 y 4294967295)))+(qZ .u64 (IntKind.wrap .u64 ((qP .u64 a 4294967295)*(qP .u64 y 4294967295))) 32))) 4294967295)),(13,.int .u64 (qZ .u64 (IntKind.wrap .u64 ((IntKind.wrap .u64 ((qZ .u64 a 32)*(qP .u64 y 4294967295)))+(qZ .u64 (IntKind.wrap .u64 ((qP .u64 a 4294967295)*(qP .u64 y 4294967295))) 32))) 32))])) ?_
 refine sh fol (kAP a y [(7,.int .u64 (qZ .u64 a 32)),(9,.int .u64 (qZ .u64 y 32)),(12,.int .u64 (IntKind.wrap .u64 ((qP .u64 (IntKind.wrap .u64 ((IntKind.wrap .u64 ((qZ .u64 a 32)*(qP .u64 y 4294967295)))+(qZ .u64 (IntKind.wrap .u64 ((qP .u64 a 4294967295)*(qP .u64 y 4294967295))) 32))) 4294967295)+(IntKind.wrap .u64 ((qP .u64 a 4294967295)*(qZ .u64 y 32)))))),(13,.int .u64 (qZ .u64 (IntKind.wrap .u64 ((IntKind.wrap .u64 ((qZ .u64 a 32)*(qP .u64 y 4294967295)))+(qZ .u64 (IntKind.wrap .u64 ((qP .u64 a 4294967295)*(qP .u64 y 4294967295))) 32))) 32))]) ?_
 refine sh fol (kAP a y [(4,.int .u64 (IntKind.wrap .u64 ((IntKind.wrap .u64 ((IntKind.wrap .u64 ((qZ .u64 a 32)*(qZ .u64 y 32)))+(qZ .u64 (IntKind.wrap .u64 ((IntKind.wrap .u64 ((qZ .u64 a 32)*(qP .u64 y 4294967295)))+(qZ .u64 (IntKind.wrap .u64 ((qP .u64 a 4294967295)*(qP .u64 y 4294967295))) 32))) 32)))+(qZ .u64 (IntKind.wrap .u64 ((qP .u64 (IntKind.wrap .u64 ((IntKind.wrap .u64 ((qZ .u64 a 32)*(qP .u64 y 4294967295)))+(qZ .u64 (IntKind.wrap .u64 ((qP .u64 a 4294967295)*(qP .u64 y 4294967295))) 32))) 4294967295)+(IntKind.wrap .u64 ((qP .u64 a 4294967295)*(qZ .u64 y 32))))) 32))))]) ?_
 refine sh fol [(4,.int .u64 (IntKind.wrap .u64 ((IntKind.wrap .u64 ((IntKind.wrap .u64 ((qZ .u64 a 32)*(qZ .u64 y 32)))+(qZ .u64 (IntKind.wrap .u64 ((IntKind.wrap .u64 ((qZ .u64 a 32)*(qP .u64 y 4294967295)))+(qZ .u64 (IntKind.wrap .u64 ((qP .u64 a 4294967295)*(qP .u64 y 4294967295))) 32))) 32)))+(qZ .u64 (IntKind.wrap .u64 ((qP .u64 (IntKind.wrap .u64 ((IntKind.wrap .u64 ((qZ .u64 a 32)*(qP .u64 y 4294967295)))+(qZ .u64 (IntKind.wrap .u64 ((qP .u64 a 4294967295)*(qP .u64 y 4294967295))) 32))) 4294967295)+(IntKind.wrap .u64 ((qP .u64 a 4294967295)*(qZ .u64 y 32))))) 32)))),(5,.int .u64 (IntKind.wrap .u64 (a*y)))] ?_
 refine Goes.ret ?_
 obtain rfl:=si h
 exact(gw2 [.int .u64 (IntKind.wrap .u64 ((IntKind.wrap .u64 ((IntKind.wrap .u64 ((qZ .u64 a 32)*(qZ .u64 y 32)))+(qZ .u64 (IntKind.wrap .u64 ((IntKind.wrap .u64 ((qZ .u64 a 32)*(qP .u64 y 4294967295)))+(qZ .u64 (IntKind.wrap .u64 ((qP .u64 a 4294967295)*(qP .u64 y 4294967295))) 32))) 32)))+(qZ .u64 (IntKind.wrap .u64 ((qP .u64 (IntKind.wrap .u64 ((IntKind.wrap .u64 ((qZ .u64 a 32)*(qP .u64 y 4294967295)))+(qZ .u64 (IntKind.wrap .u64 ((qP .u64 a 4294967295)*(qP .u64 y 4294967295))) 32))) 4294967295)+(IntKind.wrap .u64 ((qP .u64 a 4294967295)*(qZ .u64 y 32))))) 32))),.int .u64 (IntKind.wrap .u64 (a*y))] (FzW.tuple (jm.cons (Ua tI) (jm.cons (Ua tI) jm.nil))))
def bits_Mul (b:Int) (y:Int):Option (Int×Int):=
 (bits_Mul64 b y).bind fun a=>
 some (a.1,a.2)
theorem qd1 (d:Int) (y:Int) {res:Int×Int} (h:bits_Mul d y=some res):qa ZT (.fn 134) [.int .u64 d,.int .u64 y] [] (.tuple [.int .u64 res.1,.int .u64 res.2]) []:=by
 unfold bits_Mul at h
 refine Ub Tryz.func134 rfl rfl (m:=30) rfl (rs:=[.tmp 4,.tmp 5]) rfl (l:=(kAP d y [])) rfl ?_
 refine sh fol (kAP d y []) ?_
 refine sq ?_
 refine Goes.ifB (b:=false) (by kernel_rfl) (fun c=>(by cases c)) (fun _=>?_)
 refine Goes.skip ?_
 obtain⟨a,e,h⟩:=bnd h
 refine sq (gr fol [2] [(8,.int .u64 a.1),(9,.int .u64 a.2)] (ac (cv (qcx d y e)) az) ?_)
 refine sh fol [(4,.int .u64 a.1),(5,.int .u64 a.2)] ?_
 refine Goes.ret ?_
 obtain rfl:=si h
 exact(gw2 [.int .u64 a.1,.int .u64 a.2] (FzW.tuple (jm.cons (Ua tI) (jm.cons (Ua tI) jm.nil))))
def qx:Nat->(List Int)->Int->Option (List Int)
 |0,_,_=>none
 |K+1,a,c=>
  if c<(a.length:Int)then
  (at' a c).bind fun b=>
  (some (yY a b (a.take b))).bind fun d=>
  qx K d (w64 (c+((Nat.min (a.take b).length (a.length-b):Nat):Int)))
  else
  some a
def qW (N:Nat) (a:List Int) (b:Int):Option (List Int):=
 ((if b<0 then
 none
 else
 some ():Option Unit)).bind fun _=>
 (bits_Mul (IntKind.wrap .u64 (a.length:Int)) (IntKind.wrap .u64 b)).bind fun d=>
 (if d.1>0 then
 some true
 else
 some (decide (d.2>9223372036854775807)):Option Bool).bind fun g=>
 ((if g=true then
 none
 else
 some ():Option Unit)).bind fun _=>
 (mk 8 (w64 d.2) 0).bind fun c=>
 (some (cpy c a)).bind fun e=>
 (qx N e ((Nat.min a.length c.length:Nat):Int)).bind fun f=>
 some f
theorem xg (N:Nat) (b:List Int) (g:Int) {w:List Int} (h:qW N b g=some w):qa ZT (.fn 74) (kAT b g) [] (.slice 0 0 w.length w.length 1) (kA w):=by
 unfold qW at h
 refine Up Tryz.func74 rfl rfl (m:=48) rfl (rs:=[.tmp 4]) rfl (l:=(kH b (kAx g))) rfl ?_
 intro B hB
 refine sh fol (kH b (kAx g)) ?_
 refine sq ?_
 refine sh fol (kH b ((1,.i g)::(kAq (decide (g<0))))) ?_
 obtain⟨C,g2,h⟩:=bnd h
 refine Goes.imp (Q:=fun x s'=>(x= .normal/\()=C/\Sub s' (ofG 48 (kH b (kAx g)),[]))) ?_ ?_
 ·refine ihD g2 (fun D g2=>?_) (fun D g2=>?_)
  ·cases g2
  refine Goes.skip ?_
  obtain rfl:=si g2
  exact⟨rfl,rfl,(Sub.keep [0,1] rfl rfl)⟩
 rintro x s' ⟨rfl,rfl,hsub⟩
 refine Goes.sub hsub ?_
 obtain⟨r,u,h⟩:=bnd h
 refine sq (gr fol [5] (kH b [(5,.int .u64 r.1),(6,.int .u64 r.2)]) (ac (cv (qd1 (IntKind.wrap .u64 (b.length:Int)) (IntKind.wrap .u64 g) u)) az) ?_)
 refine sq ?_
 refine sq ?_
 obtain⟨F,j,h⟩:=bnd h
 refine Goes.cut (s':=(ofG 48 (kH b [(6,.int .u64 r.2),(26,.bool F)]),[])) ?_ ?_
 ·rcases wyD j with⟨y,j⟩|⟨y,j⟩
  ·obtain rfl:=si j
   exact tr fol [2] (kH b [(6,.int .u64 r.2),(26,.bool true)]) (ac (gw y) az)
  obtain rfl:=si j
  exact tr fol [2] (kH b [(6,.int .u64 r.2),(26,.bool (decide (r.2>9223372036854775807)))]) (ac (gw y) az)
 obtain⟨G,g8,h⟩:=bnd h
 refine Goes.imp (Q:=fun x s'=>(x= .normal/\()=G/\Sub s' (ofG 48 (kH b [(6,.int .u64 r.2)]),[]))) ?_ ?_
 ·refine ihB g8 (fun H g8=>?_) (fun H g8=>?_)
  ·cases g8
  refine Goes.skip ?_
  obtain rfl:=si g8
  exact⟨rfl,rfl,(Sub.keep [0,6] rfl rfl)⟩
 rintro x s' ⟨rfl,rfl,hsub⟩
 refine Goes.sub hsub ?_
 obtain⟨c,t,h⟩:=bnd h
 refine sq (gq fol [2] (kH b (kAR c [])) (kA c) (ac (hs (.run [] (jr ZT 22 (.i (w64 r.2)) (.i (w64 r.2))) [] (.slice 0 0 c.length c.length 1) (kA c) false) (qdm z8 (E:=encI) (z:=0) rfl (by kernel_rfl) t rfl)) az) ?_)
 obtain⟨o,p,h⟩:=bnd h
 refine sq (gq fol [2] (kAR c (kA2 ((Nat.min b.length c.length:Nat):Int))) (kA o) (ac (hs (.run [0] (yf ZT [22,22] (.slice 0 0 c.length c.length 1) (vl encI b)) (kA c) (.i ((Nat.min b.length c.length:Nat):Int)) (kA o) true) (qjg z8 (E:=encI) (l:=c) rfl (qdF (E:=encI) rfl _) (.inl rfl) rfl rfl p rfl)) az) ?_)
 refine Goes.sub (show Sub (ofG 48 (kAR c (kA2 ((Nat.min b.length c.length:Nat):Int))),(kA o)) (ofG 48 (kAR o (kA2 ((Nat.min b.length c.length:Nat):Int))),(kA o))from(Sub.norm [] [some 0] (by rw[hB];rfl) rfl (.keep (.sliceE rfl (qe9 p)) (.keep (.same nI) .nil)) (.ks .nil))) ?_
 refine sq (Goes.block ?_)
 obtain⟨v,g15,h⟩:=bnd h
 refine Goes.imp (Q:=fun x s'=>(x= .exit 0/\ ∃k,k=v/\Sub s' (ofG 48 (kAR k []),(kA k)))) ?_ ?_
 ·refine Uc (fun M s=> ∃(a:List Int) (e:Int),s=(ofG 48 (kAR a (kA2 e)),(kA a))/\qx M a e=some v) ?_ (m:=N) ⟨_,_,rfl,g15⟩
  rintro M s ⟨a,e,rfl,g15⟩
  cases M with
  |zero=>simp only[qx]at g15;cases g15
  |succ M=>
   rw[qx]at g15
   refine sq ?_
   refine sh fol (kAR a [(8,.i e),(37,.bool (decide (e<(a.length:Int))))]) ?_
   refine ihD g15 (fun A g15=>?_) (fun A g15=>?_)
   ·refine Goes.skip ?_
    refine Goes.block ?_
    obtain⟨d,f,g15⟩:=bnd g15
    obtain⟨n,q,g15⟩:=bnd g15
    refine gq fol [3,6,7] (kAR a (kA2 (w64 (e+((Nat.min (a.take d).length (a.length-d):Nat):Int))))) (kA n) (ac (hs (.done (.opt (xG ZT 22 (.slice 0 0 a.length a.length 1) (some (.i e)) none none)) (qa7 0 1 a.length d)) (qgU z8 f)) (ac (hs (.done (.opt (xG ZT 22 (.slice 0 0 a.length a.length 1) none (some (.i e)) none)) (.slice 0 0 d a.length 1)) (qiW z8 f)) (ac (hs (.run [0,0] (yf ZT [22,22] (qa7 0 1 a.length d) (.slice 0 0 d a.length 1)) (kA a) (.i ((Nat.min (a.take d).length (a.length-d):Nat):Int)) (kA n) true) (qhf z8 (E:=encI) rfl (l:=a) (qio (E:=encI) rfl rfl rfl (qhe f)) (qhe f) rfl rfl q rfl)) az))) ?_
    exact⟨M,(ofG 48 (kAR n (kA2 (w64 (e+((Nat.min (a.take d).length (a.length-d):Nat):Int))))),(kA n)),Nat.lt_succ_self _,((show Sub (ofG 48 (kAR a (kA2 (w64 (e+((Nat.min (a.take d).length (a.length-d):Nat):Int))))),(kA n)) (ofG 48 (kAR n (kA2 (w64 (e+((Nat.min (a.take d).length (a.length-d):Nat):Int))))),(kA n))from(Sub.norm [] [some 0] (by rw[hB];rfl) rfl (.keep (.sliceE rfl (qfx (qhe f) q)) (.keep (.same nI) .nil)) (.ks .nil))).trans (Sub.refl _)),_,_,rfl,g15⟩
   refine Goes.exit ?_
   obtain rfl:=si g15
   exact⟨rfl,_,rfl,(Sub.keep [7] rfl rfl)⟩
 rintro x s' ⟨rfl,k,rfl,hsub⟩
 refine Goes.sub hsub ?_
 refine sh fol [(4,.slice 0 0 k.length k.length 1)] ?_
 refine Goes.ret ?_
 obtain rfl:=si h
 exact(gh2 [.slice 0 0 k.length k.length 1] (xS.refl _ _))
def qR (p:List Int) (b:Int):Nat->Int->Option (Unit⊕Int)
 |0,_=>none
 |K+1,a=>
  if a<b then
  (idx p a).bind fun c=>
  (idx p b).bind fun d=>
  if c=d then
  some (.inr 15)
  else
  qR p b K (w64 (a+1))
  else
  some (.inl ())
def kL (N:Nat) (p:List Int):Nat->Int->Option (Unit⊕Int)
 |0,_=>none
 |K+1,a=>
  if a<(p.length:Int)then
  ((idx p a).bind fun c=>
  if c<0 then
  some true
  else
  some (decide (c>=(p.length:Int))):Option Bool).bind fun d=>
  if d=true then
  some (.inr 15)
  else
  (qR p a N 0).bind (fun
  |(.inl ())=>
  kL N p K (w64 (a+1))
  |(.inr b)=>
  some (.inr b))
  else
  some (.inl ())
def ze (N:Nat) (p:List Int):Option Int:=
 if(p.length:Int)>256 then
 some 5
 else
 (kL N p N 0).bind (fun
 |(.inl ())=>
 some 0
 |(.inr a)=>
 some a)
theorem yL (N:Nat) (p:List Int) {res:Int} (h:ze N p=some res):qa ZT (.fn 11) [vl encI p] [] (.i res) []:=by
 unfold ze at h
 refine Ub Tryz.func11 rfl rfl (m:=42) rfl (rs:=[.tmp 2]) rfl (l:=(kH p [])) rfl ?_
 refine sh fol (kH p []) ?_
 refine sq ?_
 refine sh fol (kH p [(7,.bool (decide ((p.length:Int)>256)))]) ?_
 refine ihD h (fun w h=>?_) (fun w h=>?_)
 ·refine sh fol [(2,.i 5)] ?_
  refine Goes.ret ?_
  obtain rfl:=si h
  exact(gw2 [.i 5] (Ua tI))
 refine Goes.skip ?_
 refine sq ?_
 refine sh fol (kH p [(3,.i 0)]) ?_
 refine Goes.block ?_
 obtain⟨k,g3,h⟩:=bnd h
 refine Goes.imp (Q:=fun x s'=>(x= .exit 0/\(.inl ())=k/\Sub s' (ofG 42 [],[]))\/(x= .ret/\ ∃v,(.inr v)=k/\zx ZT [.tmp 2] (.i v) .ret s')) ?_ ?_
 ·refine Uc (fun M s=> ∃(c:Int),s=(ofG 42 (kH p (kAy c)),[])/\kL N p M c=some k) ?_ (m:=N) ⟨_,rfl,g3⟩
  rintro M s ⟨c,rfl,g3⟩
  cases M with
  |zero=>simp only[kL]at g3;cases g3
  |succ M=>
   rw[kL]at g3
   refine sq ?_
   refine sh fol (kH p ((3,.i c)::(kBC (decide (c<(p.length:Int)))))) ?_
   refine ihD g3 (fun y g3=>?_) (fun y g3=>?_)
   ·refine Goes.skip ?_
    refine sq (Goes.block ?_)
    refine sq ?_
    refine sq ?_
    obtain⟨z,a,g3⟩:=bnd g3
    refine Goes.cut (s':=(ofG 42 (kH p [(3,.i c),(27,.bool z)]),[])) ?_ ?_
    ·obtain⟨A,b,a⟩:=bnd a
     rcases wyD a with⟨n,a⟩|⟨n,a⟩
     ·obtain rfl:=si a
      exact tr fol [2,3,5] (kH p [(3,.i c),(27,.bool true)]) (ac (iv z8 encI b) (ac (lv 0 ce3 encI b rfl) (ac (gw n) az)))
     obtain rfl:=si a
     exact tr fol [2,3,5,8,9] (kH p [(3,.i c),(27,.bool (decide (A>=(p.length:Int))))]) (ac (iv z8 encI b) (ac (lv 0 ce3 encI b rfl) (ac (gw n) (ac (iv z8 encI b) (ac (lv 0 ce3 encI b rfl) az)))))
    refine ihB g3 (fun o g3=>?_) (fun o g3=>?_)
    ·refine sh fol [(2,.i 15)] ?_
     refine Goes.ret ?_
     obtain rfl:=si g3
     exact Or.inr (⟨rfl,_,rfl,(gw2 [.i 15] (Ua tI))⟩)
    refine Goes.skip ?_
    refine sh fol (kH p ((3,.i c)::kA9)) ?_
    refine Goes.block ?_
    obtain⟨g,g12,g3⟩:=bnd g3
    refine Goes.imp (Q:=fun x s'=>(x= .exit 2/\(.inl ())=g/\Sub s' (ofG 42 (kH p (kAy c)),[]))\/(x= .ret/\ ∃j,(.inr j)=g/\zx ZT [.tmp 2] (.i j) .ret s')) ?_ ?_
    ·refine Uc (fun M s=> ∃(d:Int),s=(ofG 42 (kH p ((3,.i c)::(kAX d))),[])/\qR p c M d=some g) ?_ (m:=N) ⟨_,rfl,g12⟩
     rintro M s ⟨d,rfl,g12⟩
     cases M with
     |zero=>simp only[qR]at g12;cases g12
     |succ M=>
      rw[qR]at g12
      refine sq ?_
      refine sh fol (kH p [(3,.i c),(4,.i d),(30,.bool (decide (d<c)))]) ?_
      refine ihD g12 (fun q g12=>?_) (fun q g12=>?_)
      ·refine Goes.skip ?_
       refine sq (Goes.block ?_)
       obtain⟨r,e,g12⟩:=bnd g12
       obtain⟨t,f,g12⟩:=bnd g12
       refine sq (gr fol [2,3,6,7] (kH p [(3,.i c),(4,.i d),(41,.bool (decide (r=t)))]) (ac (iv z8 encI e) (ac (lv 0 ce3 encI e rfl) (ac (iv z8 encI f) (ac (lv 0 ce3 encI f rfl) az)))) ?_)
       refine ihD g12 (fun u g12=>?_) (fun u g12=>?_)
       ·refine sh fol [(2,.i 15)] ?_
        refine Goes.ret ?_
        obtain rfl:=si g12
        exact Or.inr (⟨rfl,_,rfl,(gw2 [.i 15] (Ua tI))⟩)
       refine Goes.skip ?_
       refine gh fol (kH p ((3,.i c)::(kAX (w64 (d+1))))) ?_
       exact⟨M,(ofG 42 (kH p ((3,.i c)::(kAX (w64 (d+1))))),[]),Nat.lt_succ_self _,(Sub.refl _),_,rfl,g12⟩
      refine Goes.exit ?_
      obtain rfl:=si g12
      exact Or.inl (⟨rfl,rfl,(Sub.keep [0,3] rfl rfl)⟩)
    rintro x s' (⟨rfl,rfl,hsub⟩|⟨rfl,B,rfl,hret⟩)
    ·try dsimp only at g3
     refine Goes.sub hsub ?_
     refine gh fol (kH p (kAy (w64 (c+1)))) ?_
     exact⟨M,(ofG 42 (kH p (kAy (w64 (c+1)))),[]),Nat.lt_succ_self _,(Sub.refl _),_,rfl,g3⟩
    try dsimp only at g3
    obtain rfl:=si g3
    exact Or.inr (⟨rfl,_,rfl,hret⟩)
   refine Goes.exit ?_
   obtain rfl:=si g3
   exact Or.inl (⟨rfl,rfl,(Sub.keep [] rfl rfl)⟩)
 rintro x s' (⟨rfl,rfl,hsub⟩|⟨rfl,C,rfl,hret⟩)
 ·try dsimp only at h
  refine Goes.sub hsub ?_
  refine sh fol [(2,.i 0)] ?_
  refine Goes.ret ?_
  obtain rfl:=si h
  exact(gw2 [.i 0] (Ua tI))
 try dsimp only at h
 obtain rfl:=si h
 exact hret
def q8 (p:List Int):Nat->(List (Int×Bool))->Int->Option (Unit⊕Int)
 |0,_,_=>none
 |K+1,e,b=>
  if b<(p.length:Int)then
  (idx p b).bind fun a=>
  (if a<0 then
  some true
  else
  if a>=(p.length:Int)then
  some true
  else
  some ((yS e a).getD false):Option Bool).bind fun c=>
  if c=true then
  some (.inr 15)
  else
  (some (qaA e a true)).bind fun d=>
  q8 p K d (w64 (b+1))
  else
  some (.inl ())
def zN (N:Nat) (p:List Int):Option Int:=
 if(p.length:Int)>256 then
 some 5
 else
 (q8 p N ([]:List (Int×Bool)) 0).bind (fun
 |(.inl ())=>
 some 0
 |(.inr a)=>
 some a)
theorem qaB (N:Nat) (p:List Int) {res:Int} (h:zN N p=some res):qa ZT (.fn 125) [vl encI p] [] (.i res) []:=by
 unfold zN at h
 refine Ub Tryz.func125 rfl rfl (m:=32) rfl (rs:=[.tmp 2]) rfl (l:=(kH p [])) rfl ?_
 refine sh fol (kH p []) ?_
 refine sq ?_
 refine sh fol (kH p (kAp (decide ((p.length:Int)>256)))) ?_
 refine ihD h (fun u h=>?_) (fun u h=>?_)
 ·refine sh fol [(2,.i 5)] ?_
  refine Goes.ret ?_
  obtain rfl:=si h
  exact(gw2 [.i 5] (Ua tI))
 refine Goes.skip ?_
 refine sg fol (kH p [(3,.map 0)]) [mpB (AV.int .i64) fO ([]:List (Int×Bool))] ?_
 refine sq ?_
 refine sh fol (kH p ((3,.map 0)::(kP p (p.length:Int) [(12,.i 0)]))) ?_
 refine Goes.block ?_
 obtain⟨n,g4,h⟩:=bnd h
 refine Goes.imp (Q:=fun x s'=>(x= .exit 0/\(.inl ())=n/\Sub s' (ofG 32 [],[]))\/(x= .ret/\ ∃t,(.inr t)=n/\zx ZT [.tmp 2] (.i t) .ret s')) ?_ ?_
 ·refine Uc (fun M s=> ∃(d:List (Int×Bool)) (b:Int),s=(ofG 32 (kH p ((3,.map 0)::(kP p (p.length:Int) [(12,.i b)]))),[mpB (AV.int .i64) fO d])/\q8 p M d b=some n) ?_ (m:=N) ⟨_,_,rfl,g4⟩
  rintro M s ⟨d,b,rfl,g4⟩
  cases M with
  |zero=>simp only[q8]at g4;cases g4
  |succ M=>
   rw[q8]at g4
   refine sh fol (kH p ((3,.map 0)::(kP p (p.length:Int) [(12,.i b),(13,.bool (decide (b<(p.length:Int))))]))) ?_
   refine sq ?_
   refine ihD g4 (fun v g4=>?_) (fun v g4=>?_)
   ·refine Goes.skip ?_
    refine sq (Goes.block ?_)
    obtain⟨c,e,g4⟩:=bnd g4
    refine sq (gr fol [0,1] (kH p ((3,.map 0)::(5,.i c)::(kP p (p.length:Int) [(12,.i b)]))) (ac (iv z8 encI e) (ac (lv 0 ce3 encI e rfl) az)) ?_)
    refine sq ?_
    refine sq ?_
    obtain⟨o,a,g4⟩:=bnd g4
    refine Goes.cut (s':=(ofG 32 (kH p ((3,.map 0)::(5,.i c)::(kP p (p.length:Int) [(12,.i b),(28,.bool o)]))),[mpB (AV.int .i64) fO d])) ?_ ?_
    ·rcases wyD a with⟨k,a⟩|⟨k,a⟩
     ·obtain rfl:=si a
      exact tr fol [2] (kH p ((3,.map 0)::(5,.i c)::(kP p (p.length:Int) [(12,.i b),(28,.bool true)]))) (ac (gw k) az)
     rcases wyD a with⟨q,a⟩|⟨q,a⟩
     ·obtain rfl:=si a
      exact tr fol [2,8] (kH p ((3,.map 0)::(5,.i c)::(kP p (p.length:Int) [(12,.i b),(28,.bool true)]))) (ac (gw k) (ac (gw q) az))
     obtain rfl:=si a
     exact tr fol [2,8,11] (kH p ((3,.map 0)::(5,.i c)::(kP p (p.length:Int) [(12,.i b),(28,.bool ((yS d c).getD false))]))) (ac (gw k) (ac (gw q) (ac (hs (.run [0] (yo ZT 202 (.map 0) (.i c) false) [mpB (AV.int .i64) fO d] (.bool ((yS d c).getD false)) [mpB (AV.int .i64) fO d] false) (qhw (z:=false) (f:=fO) qgH keyI rfl c)) az)))
    refine ihB g4 (fun r g4=>?_) (fun r g4=>?_)
    ·refine sh fol [(2,.i 15)] ?_
     refine Goes.ret ?_
     obtain rfl:=si g4
     exact Or.inr (⟨rfl,_,rfl,(gw2 [.i 15] (Ua tI))⟩)
    refine Goes.skip ?_
    obtain⟨g,j,g4⟩:=bnd g4
    refine gq fol [2] (kH p ((3,.map 0)::(kP p (p.length:Int) [(12,.i b)]))) [mpB (AV.int .i64) fO g] (ac (hs (.run [0] (vC ZT 202 (.map 0) (.i c) (.bool true)) [mpB (AV.int .i64) fO d] .undef [mpB (AV.int .i64) fO g] true) (upm qgH keyI fO rfl c true j rfl)) az) ?_
    refine gh fol (kH p ((3,.map 0)::(kP p (p.length:Int) [(12,.i (w64 (b+1)))]))) ?_
    exact⟨M,(ofG 32 (kH p ((3,.map 0)::(kP p (p.length:Int) [(12,.i (w64 (b+1)))]))),[mpB (AV.int .i64) fO g]),Nat.lt_succ_self _,(Sub.refl _),_,_,rfl,g4⟩
   refine Goes.exit ?_
   obtain rfl:=si g4
   exact Or.inl (⟨rfl,rfl,(Sub.norm [] [] rfl rfl .nil .nil)⟩)
 rintro x s' (⟨rfl,rfl,hsub⟩|⟨rfl,w,rfl,hret⟩)
 ·try dsimp only at h
  refine Goes.sub hsub ?_
  refine sh fol [(2,.i 0)] ?_
  refine Goes.ret ?_
  obtain rfl:=si h
  exact(gw2 [.i 0] (Ua tI))
 try dsimp only at h
 obtain rfl:=si h
 exact hret
def zX (N:Nat) (n:Int) (p:List Int):Option Int:=
 (kR (!decide ((p.length:Int)=n)) 2).bind fun a=>
 (zN N p).bind fun b=>
 (zy N ([a,b]:List Int)).bind fun c=>
 some c
theorem yI (N:Nat) (n:Int) (p:List Int) {res:Int} (h:zX N n p=some res):qa ZT (.fn 62) (kAk n p) [] (.i res) []:=by
 unfold zX at h
 refine Ub Tryz.func62 rfl rfl (m:=14) rfl (rs:=[.tmp 4]) rfl (l:=(kB n p [])) rfl ?_
 refine sh fol (kB n p []) ?_
 obtain⟨d,a,h⟩:=bnd h
 obtain⟨e,b,h⟩:=bnd h
 obtain⟨f,c,h⟩:=bnd h
 refine sq (gq fol [4,6,8] (kAX f) (kV d e) (ac (cv (kw (!decide ((p.length:Int)=n)) 2 a)) (ac (cv (qaB N p b)) (ac (hs (.call 60 [.slice 0 0 2 2 1] (kV d e) [0] [vl encI ([d,e]:List Int)] (.i f)) (xN (FzL.cons (Fz.lit rfl rfl (Um (AllST.cons tI (AllST.cons tI AllST.nil)))) FzL.nil) (jg N ([d,e]:List Int) c) tI rfl)) az))) ?_)
 refine Goes.ret ?_
 obtain rfl:=si h
 exact(gw2 [.i f] (Ua tI))
def kg (p:List Int) (i:Int):Option Bool:=
 (idx p i).bind fun a=>
 (idx p (w64 (i+1))).bind fun b=>
 some (decide (a>b))
theorem zL (p:List Int) (i:Int) {res:Bool} (h:kg p i=some res):qa ZT (.fn 127) (kAT p i) [] (.bool res) []:=by
 unfold kg at h
 refine Ub Tryz.func127 rfl rfl (m:=15) rfl (rs:=[.tmp 4]) rfl (l:=(kH p (kAx i))) rfl ?_
 refine sh fol (kH p (kAx i)) ?_
 obtain⟨c,a,h⟩:=bnd h
 obtain⟨d,b,h⟩:=bnd h
 refine sq (gr fol [2,3,7,8] (kAa (decide (c>d))) (ac (iv xY encI a) (ac (lv 0 ce3 encI a rfl) (ac (iv xY encI b) (ac (lv 0 ce3 encI b rfl) az)))) ?_)
 refine Goes.ret ?_
 obtain rfl:=si h
 exact(gw2 [.bool (decide (c>d))] (Ua tB))
def zB (p:List Int) (i:Int):Option (List Int):=
 (qai p).bind fun _=>
 (idx p (w64 (i+1))).bind fun b=>
 (idx p i).bind fun c=>
 (put p i b).bind fun a=>
 (idx a (w64 (i+1))).bind fun e=>
 (put a (w64 (i+1)) c).bind fun d=>
 some d
theorem xk (p:List Int) (i:Int) {res:List Int} (h:zB p i=some res):qa ZT (.fn 128) (kAT p i) [] (vl encI res) []:=by
 unfold zB at h
 refine Ub Tryz.func128 rfl rfl (m:=25) rfl (rs:=[.tmp 4]) rfl (l:=(kH p (kAx i))) rfl ?_
 refine sh fol (kH p (kAx i)) ?_
 obtain⟨_,f,h⟩:=bnd h
 refine sq (gq fol [1] ((1,.i i)::(kU p [])) (kA p) (ac (hs (.callH 126 [vl encI p] [] [] (.gslice 0 p.length 1) (kA p)) (yT [] [some 0] (qcF p f) .nil rfl rfl (.new rfl rfl (.same fa) rfl .nil) (rc (.same (qF encI _)) rn) (.gslice rfl) rfl)) az) ?_)
 obtain⟨j,b,h⟩:=bnd h
 obtain⟨k,a,h⟩:=bnd h
 obtain⟨n,c,h⟩:=bnd h
 obtain⟨o,g,h⟩:=bnd h
 obtain⟨e,d,h⟩:=bnd h
 refine sq (gq fol [8,9,12,13,14,15,16,17] (kU p []) (kA e) (ac (hs (.done (.opt (qd ZT 93 (.gslice 0 p.length 1) (.i (w64 (i+1))))) (.ptr 0 ((w64 (i+1):Int).toNat*1+0))) (qbA xY b)) (ac (hs (.run [0] (jE ZT 3 (.ptr 0 ((w64 (i+1):Int).toNat*1+0))) (kA p) (.i j) (kA p) false) (qcy ce3 (E:=encI) (l:=p) rfl rfl b (nl rfl) rfl)) (ac (hs (.done (.opt (qd ZT 93 (.gslice 0 p.length 1) (.i i))) (.ptr 0 ((i:Int).toNat*1+0))) (qbA xY a)) (ac (hs (.run [0] (jE ZT 3 (.ptr 0 ((i:Int).toNat*1+0))) (kA p) (.i k) (kA p) false) (qcy ce3 (E:=encI) (l:=p) rfl rfl a (nl rfl) rfl)) (ac (hs (.done (.opt (qd ZT 93 (.gslice 0 p.length 1) (.i i))) (.ptr 0 ((i:Int).toNat*1+0))) (qbA xY a)) (ac (hs (.run [0] (jW ZT 3 (.ptr 0 ((i:Int).toNat*1+0)) (.i j)) (kA p) .undef (kA n) true) (xW (E:=encI) (l:=p) (y:=j) rfl (show _=some 1 by kernel_rfl) rfl a rfl rfl rfl rfl rfl c rfl)) (ac (hs (.done (.opt (qd ZT 93 (.gslice 0 p.length 1) (.i (w64 (i+1))))) (.ptr 0 ((w64 (i+1):Int).toNat*1+0))) (qbA xY b)) (ac (hs (.run [0] (jW ZT 3 (.ptr 0 ((w64 (i+1):Int).toNat*1+0)) (.i k)) (kA n) .undef (kA e) true) (xW (E:=encI) (l:=n) (y:=k) rfl (show _=some 1 by kernel_rfl) rfl g rfl rfl rfl rfl rfl d rfl)) az)))))))) ?_)
 refine Goes.sub (show Sub (ofG 25 (kU p []),(kA e)) (ofG 25 (kU e []),(kA e))from(Sub.norm [] [some 0] rfl rfl (.keep (.gsliceE rfl ((vI c).trans (vI d))) .nil) (.ks .nil))) ?_
 refine sh fol (kAE e []) ?_
 refine Goes.ret ?_
 obtain rfl:=si h
 exact(gw2 [.gslice 0 e.length 1] (Uu (Fz.gs (E:=encI) rfl rfl (nl rfl))))
def qz (b:List Int):Nat->Int->Option Int
 |0,_=>none
 |K+1,a=>
  (if(w64 (a+1))<(b.length:Int)then
  (kg b a).bind fun c=>
  some (!c)
  else
  some false:Option Bool).bind fun d=>
  if d=true then
  qz b K (w64 (a+1))
  else
  some a
def qU (N:Nat):Nat->(List Int)->(List Int)->Option (List Int)
 |0,_,_=>none
 |K+1,e,a=>
  (qz a N 0).bind fun b=>
  if(w64 (b+1))>=(a.length:Int)then
  some e
  else
  (zB a b).bind fun c=>
  (app 8 e [w64 (b+1)]).bind fun d=>
  qU N K d c
def kr (N:Nat) (p:List Int):Option (List Int):=
 (qai p).bind fun _=>
 (qU N N ([]:List Int) p).bind fun a=>
 some a
theorem jS (N:Nat) (p:List Int) {res:List Int} (h:kr N p=some res):qa ZT (.fn 63) [vl encI p] [] (vl encI res) []:=by
 unfold kr at h
 refine Ub Tryz.func63 rfl rfl (m:=35) rfl (rs:=[.tmp 2]) rfl (l:=(kH p [])) rfl ?_
 refine sh fol (kH p []) ?_
 obtain⟨_,o,h⟩:=bnd h
 refine sq (gq fol [1] (kAH p []) (kA p) (ac (hs (.callH 126 [vl encI p] [] [] (.gslice 0 p.length 1) (kA p)) (yT [] [some 0] (qcF p o) .nil rfl rfl (.new rfl rfl (.same fa) rfl .nil) (rc (.same (qF encI _)) rn) (.gslice rfl) rfl)) az) ?_)
 refine sh fol (kAH p (kBM [])) ?_
 refine Goes.block ?_
 obtain⟨w,g4,h⟩:=bnd h
 refine Goes.imp (Q:=fun x s'=>(x= .ret/\ ∃y,y=w/\zx ZT [.tmp 2] (vl encI y) .ret s')) ?_ ?_
 ·refine Goes.sub (s':=(ofG 35 [(3,vl encI p),(4,.gslice 0 ([]:List Int).length 1)],kZ)) (Sub.norm [0] [none] rfl rfl (.keep (.frz (Fz.gs (E:=encI) rfl rfl (nl rfl)) (qF encI _)) (.keep .nil .nil)) (.fresh .nil)) ?_
  refine Uc (fun M s=> ∃(b:List Int) (c:List Int),s=(ofG 35 ((3,vl encI c)::(kAE b [])),(kA b))/\qU N M b c=some w) ?_ (m:=N) ⟨_,_,rfl,g4⟩
  rintro M s ⟨b,c,rfl,g4⟩
  cases M with
  |zero=>simp only[qU]at g4;cases g4
  |succ M=>
   rw[qU]at g4
   refine Goes.block ?_
   refine sh fol ((3,vl encI c)::(kAE b kBO)) ?_
   refine sq (Goes.block ?_)
   obtain⟨z,g8,g4⟩:=bnd g4
   refine Goes.imp (Q:=fun x s'=>(x= .exit 2/\ ∃e,e=z/\Sub s' (ofG 35 ((3,vl encI c)::(kAE b (kAc e))),(kA b)))) ?_ ?_
   ·refine Uc (fun M s=> ∃(f:Int),s=(ofG 35 ((3,vl encI c)::(kAE b (kAc f))),(kA b))/\qz c M f=some z) ?_ (m:=N) ⟨_,rfl,g8⟩
    rintro M s ⟨f,rfl,g8⟩
    cases M with
    |zero=>simp only[qz]at g8;cases g8
    |succ M=>
     rw[qz]at g8
     refine sq ?_
     refine sq ?_
     obtain⟨q,a,g8⟩:=bnd g8
     refine Goes.cut (s':=(ofG 35 ((3,vl encI c)::(kAE b [(5,.i f),(18,.bool q)])),(kA b))) ?_ ?_
     ·rcases wyD a with⟨r,a⟩|⟨r,a⟩
      ·obtain⟨t,g,a⟩:=bnd a
       obtain rfl:=si a
       exact tr fol [5,8] ((3,vl encI c)::(kAE b [(5,.i f),(18,.bool (!t))])) (ac (gw r) (ac (cv (zL c f g)) az))
      obtain rfl:=si a
      exact tr fol [5] ((3,vl encI c)::(kAE b [(5,.i f),(18,.bool false)])) (ac (gw r) az)
     refine ihB g8 (fun u g8=>?_) (fun u g8=>?_)
     ·refine Goes.skip ?_
      refine Goes.block ?_
      refine gh fol ((3,vl encI c)::(kAE b (kAc (w64 (f+1))))) ?_
      exact⟨M,(ofG 35 ((3,vl encI c)::(kAE b (kAc (w64 (f+1))))),(kA b)),Nat.lt_succ_self _,(Sub.refl _),_,rfl,g8⟩
     refine Goes.exit ?_
     obtain rfl:=si g8
     exact⟨rfl,_,rfl,(Sub.keep [3,4,5] rfl rfl)⟩
   rintro x s' ⟨rfl,e,rfl,hsub⟩
   refine Goes.sub hsub ?_
   refine sq ?_
   refine sh fol ((3,vl encI c)::(kAE b [(5,.i e),(25,.bool (decide ((w64 (e+1))>=(c.length:Int))))])) ?_
   refine ihD g4 (fun v g4=>?_) (fun v g4=>?_)
   ·refine sh fol (kA7 b) ?_
    refine Goes.ret ?_
    obtain rfl:=si g4
    exact⟨rfl,_,rfl,(gw2 [.gslice 0 b.length 1] (Uu (Fz.gs (E:=encI) rfl rfl (nl rfl))))⟩
   refine Goes.skip ?_
   obtain⟨j,k,g4⟩:=bnd g4
   refine sq (gr fol [2] ((3,vl encI j)::(kAE b (kAc e))) (ac (cv (xk c e k)) az) ?_)
   obtain⟨d,n,g4⟩:=bnd g4
   refine gq fol [4] [(3,vl encI j),(4,.gslice 2 d.length 1)] (kAD (w64 (e+1)) (kA d)) (ac (hs (.run [0,1] (jf ZT [22,22] (.gslice 0 b.length 1) (.slice 1 0 1 1 1)) (kJ b (kAu (w64 (e+1)) [])) (.gslice 2 d.length 1) (kAD (w64 (e+1)) (kA d)) true) (vU z8 (E:=encI) rfl (qcY (E:=encI) (ys:=[w64 (e+1)]) rfl rfl rfl rfl) (qbw (E:=encI) (l:=b) rfl rfl rfl n rfl))) az) ?_
   exact⟨M,(ofG 35 ((3,vl encI j)::(kAE d [])),(kA d)),Nat.lt_succ_self _,(Sub.norm [] [some 2] rfl rfl (.keep (.same (qF encI _)) (.keep (.gslice rfl) .nil)) (.ks .nil)),_,_,rfl,g4⟩
 rintro x s' ⟨rfl,A,rfl,hret⟩
 obtain rfl:=si h
 exact hret
end Go.Av
