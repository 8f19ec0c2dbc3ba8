/-
  Walks of functions: what each computes, as a plain function.
-/
import Derived.Test.YtmffnhniejfgpaaGreatDoorAvJnB5
noncomputable section
namespace Go.Av
open Go.Proofs Go.RowKit
abbrev ZT:=Tryz.prog
set_option linter.unusedSectionVars false
set_option linter.unusedVariables false
set_option linter.unusedSimpArgs false
set_option maxRecDepth 100000
theorem fol:Tryz.prog.follows .mixedOrders=true:=by kernel_rfl
structure PairT where
 A:List Int
 B:List Int
 K:Int
def qgN:Enc PairT:=((qa encI).prod ((qa encI).prod encI)).comap fun x=>(x.A,x.B,x.K)
instance:SE qgN:=⟨nl rfl⟩
structure zx where
 Half:Int
 Factors:List (List Int)
def qhB:Enc zx:=(encI.prod (qa (qa encI))).comap fun x=>(x.Half,x.Factors)
instance:SE qhB:=⟨nl rfl⟩
structure qiT where
 Kind:Str
 At:Int
 Letter:Int
def qgA:Enc qiT:=(encS.prod (encI.prod encI)).comap fun x=>(x.Kind,x.At,x.Letter)
instance:SE qgA:=⟨nl rfl⟩
abbrev kA (a:List Int):List Blk:=[.cells (a.flatMap encI.c)]
abbrev kB (a:Int) (b:List Int) (x:List (Nat×AV)):List (Nat×AV):=(0,.i a)::(1,vl encI b)::x
abbrev kG (x:List (Nat×AV)):List (Nat×AV):=(4,.ptr 0 0)::(5,.ptr 1 0)::x
abbrev kH (a:List Int) (x:List (Nat×AV)):List (Nat×AV):=(0,vl encI a)::x
abbrev kJ (a:List Int) (x:List Blk):List Blk:= .cells (a.flatMap encI.c)::x
abbrev kK {α0:Type} (a:List α0) (x:List (Nat×AV)):List (Nat×AV):=(3,.slice 0 0 a.length a.length 1)::x
abbrev kL {α1:Type} (a:Int) (b:List α1) (x:List Blk):List Blk:=bZ:: .cells [.i a,.gslice 2 b.length 1]::x
abbrev kM (a:List Int) (b:Int) (x:List (Nat×AV)):List (Nat×AV):=(6,vl encI a)::(7,.i b)::x
abbrev kQ (a:List Int) (x:List (Nat×AV)):List (Nat×AV):=(1,vl encI a)::x
abbrev kR {α1:Type} (a:Int) (b:List α1) (c:List Int) (x:List (Nat×AV)):List (Nat×AV):=(3,.i a)::(4,.slice 0 0 b.length b.length 1)::(11,vl encI c)::(12,.i a)::x
abbrev kS {α0:Type} (a:List α0) (x:List (Nat×AV)):List (Nat×AV):=(0,.gslice 0 a.length 1)::x
abbrev kU {α0:Type} (a:List α0) (x:List (Nat×AV)):List (Nat×AV):=(5,.gslice 0 a.length 1)::x
abbrev kV (a:Int) (b:Int):List Blk:=[.cells [.i a,.i b]]
abbrev kY (a:Int) (x:List Blk):List Blk:=bZ:: .cells [.i a,.nilslice]::x
abbrev kZ:List Blk:=[.cells (([]:List Int).flatMap encI.c)]
abbrev kAA:List (Nat×AV):=[(4,.bool false)]
abbrev kAD (a:Int) (x:List Blk):List Blk:= .dead:: .cells [.i a]::x
abbrev kAE {α0:Type} (a:List α0) (x:List (Nat×AV)):List (Nat×AV):=(4,.gslice 0 a.length 1)::x
abbrev kAF {α0:Type} (a:List α0) (x:List Blk):List Blk:= .cells [.gslice 1 a.length 1]::x
abbrev kAH {α0:Type} (a:List α0) (x:List (Nat×AV)):List (Nat×AV):=(3,.gslice 0 a.length 1)::x
abbrev kAI (a:List Int) (b:Int) (x:List (Nat×AV)):List (Nat×AV):=(8,vl encI a)::(9,.i b)::x
abbrev kAJ {α0:Type} (a:List α0) (b:Int) (c:Int) (x:List (Nat×AV)):List (Nat×AV):=(48,.gslice 3 a.length 1)::(49,.i b)::(50,.i c)::x
abbrev kAL (x:List (Nat×AV)):List (Nat×AV):=(6,.nilslice)::x
abbrev kAN {α0:Type} (a:List α0):List Blk:=[.cells [.gslice 0 a.length 1]]
abbrev kAQ (a:Int) (b:Int) (x:List (Nat×AV)):List (Nat×AV):=(10,.i a)::(11,.i b)::x
abbrev kAS (a:List Int) (b:Int) (c:Int) (x:List (Nat×AV)):List (Nat×AV):=(15,vl encI a)::(16,.i b)::(17,.i c)::x
abbrev kAT (a:List Int) (b:Int):List AV:=[vl encI a,.i b]
abbrev kAV {α0:Type} (a:List α0) (x:List (Nat×AV)):List (Nat×AV):=(6,.gslice 2 a.length 1)::x
abbrev kAW {α0:Type} (a:List α0) (b:Int) (c:Int) (x:List (Nat×AV)):List (Nat×AV):=(0,.slice 0 0 a.length a.length 1)::(2,.i b)::(3,.i c)::x
abbrev kAX (a:Int):List (Nat×AV):=[(4,.i a)]
abbrev kAZ (a:List Int) (x:List (Nat×AV)):List (Nat×AV):=(2,vl encI a)::x
abbrev kAa (a:Bool):List (Nat×AV):=[(4,.bool a)]
abbrev kAc (a:Int):List (Nat×AV):=[(5,.i a)]
abbrev kAi (a:List Int) (b:List Int):List AV:=[vl encI a,vl encI b]
abbrev kAk (a:Int) (b:List Int):List AV:=[.i a,vl encI b]
abbrev kAl (a:Int) (b:Int) (x:List (Nat×AV)):List (Nat×AV):=(8,.i a)::(9,.i b)::x
abbrev kAm (a:List Int) (x:List Blk):List Blk:= .cells [vl encI a]::x
abbrev kAn {α0:Type} (a:List α0) (x:List (Nat×AV)):List (Nat×AV):=(4,.gslice 1 a.length 1)::x
abbrev kAo {α0:Type} (a:List α0) (b:Int) (x:List (Nat×AV)):List (Nat×AV):=(8,.gslice 0 a.length 1)::(9,.i b)::x
abbrev kAp (a:Bool):List (Nat×AV):=[(8,.bool a)]
abbrev kAq (a:Bool):List (Nat×AV):=[(10,.bool a)]
abbrev kAr (a:List Int) (x:List Blk):List Blk:= .frozen (a.flatMap encI.c)::x
abbrev kAs (x:List (Nat×AV)):List (Nat×AV):=(3,.nilslice)::x
abbrev kAt (a:Int) (b:Int) (x:List (Nat×AV)):List (Nat×AV):=(1,.i a)::(2,.i b)::x
abbrev kAu (a:Int) (x:List Blk):List Blk:= .cells [.i a]::x
abbrev kAv {α0:Type} (a:List α0) (x:List (Nat×AV)):List (Nat×AV):=(5,.gslice 1 a.length 1)::x
abbrev kAx (a:Int):List (Nat×AV):=[(1,.i a)]
abbrev kAy (a:Int):List (Nat×AV):=[(3,.i a)]
abbrev kAz:List AV:=[.str [105,110,115,101,114,116],.str [99,97,110,99,101,108],.str [115,119,97,112],.str [116,117,114,110]]
abbrev kA0 (a:Int) (b:Int) (x:List (Nat×AV)):List (Nat×AV):=(12,.i a)::(13,.i b)::x
abbrev kA2 (a:Int):List (Nat×AV):=[(8,.i a)]
abbrev kA3 (x:List (Nat×AV)):List (Nat×AV):=(1,.ptr 1 0)::x
abbrev kA4:List (Nat×AV):=[(4,.bool true)]
abbrev kA5 {α0:Type} (a:List α0):List (Nat×AV):=[(2,.slice 0 0 a.length a.length 1)]
abbrev kA6:List (Nat×AV):=[(8,.bool false)]
abbrev kA7 {α0:Type} (a:List α0):List (Nat×AV):=[(2,.gslice 0 a.length 1)]
abbrev kA8 (x:List (Nat×AV)):List (Nat×AV):=(4,.ptr 0 0)::x
abbrev kA9:List (Nat×AV):=[(4,.i 0)]
abbrev kBB (a:List Int) (x:List (Nat×AV)):List (Nat×AV):=(6,vl encI a)::x
abbrev kBC (a:Bool):List (Nat×AV):=[(11,.bool a)]
abbrev kBD (x:List (Nat×AV)):List (Nat×AV):=(3,.gslice 0 ([]:List Int).length 1)::x
abbrev kBE {α0:Type} (a:List α0) (x:List (Nat×AV)):List (Nat×AV):=(3,.gslice 2 a.length 1)::x
abbrev kBF (a:Int):List (Nat×AV):=[(10,.i a)]
abbrev kBG (a:Bool):List (Nat×AV):=[(6,.bool a)]
abbrev kBI (a:Int) (b:Bool) (c:Int) (x:List (Nat×AV)):List (Nat×AV):=(8,.i a)::(11,.bool b)::(12,.i c)::x
abbrev kBJ:List (Nat×AV):=[(7,.i 0)]
abbrev kBK (a:Int):List (Nat×AV):=[(7,.i a)]
abbrev kBL (a:Bool):List (Nat×AV):=[(14,.bool a)]
abbrev kBO:List (Nat×AV):=[(5,.i 0)]
abbrev kBQ (a:Int):List (Nat×AV):=[(6,.i a)]
abbrev kBT (a:Int):List (Nat×AV):=[(0,.i a)]
theorem yo:SlT ZT 22 3 1 8:=⟨by kernel_rfl,by kernel_rfl,by kernel_rfl,by kernel_rfl⟩
theorem ce3:CeT ZT 3:=⟨by kernel_rfl,by kernel_rfl⟩
theorem sl153:SlT ZT 153 30 1 8:=⟨by kernel_rfl,by kernel_rfl,by kernel_rfl,by kernel_rfl⟩
theorem ce30:CeT ZT 30:=⟨by kernel_rfl,by kernel_rfl⟩
theorem xA:SlT ZT 23 22 1 24:=⟨by kernel_rfl,by kernel_rfl,by kernel_rfl,by kernel_rfl⟩
theorem qbn:CeT ZT 22:=⟨by kernel_rfl,by kernel_rfl⟩
theorem xL:SlT ZT 93 3 1 8:=⟨by kernel_rfl,by kernel_rfl,by kernel_rfl,by kernel_rfl⟩
theorem qaE:SlT ZT 162 93 1 24:=⟨by kernel_rfl,by kernel_rfl,by kernel_rfl,by kernel_rfl⟩
theorem qf5:CeT ZT 93:=⟨by kernel_rfl,by kernel_rfl⟩
abbrev fm1:AV:= .fmap kAz [.agg [.i 0,.func (.func 209) [] [],.func (.func 210) [] []],.agg [.i 2,.func (.func 211) [] [],.func (.func 212) [] []],.agg [.i 2,.func (.func 213) [] [],.func (.func 214) [] []],.agg [.i 3,.func (.func 215) [] [],.func (.func 216) [] []]]
instance:SC 12 fm1:=⟨Still.fmap SX.h (AllST.cons SC.h (AllST.cons SC.h (AllST.cons SC.h (AllST.cons SC.h AllST.nil))))⟩
def kW (a:List Int) (b:List Int):Nat->Int->Option (Unit⊕Bool)
 |0,_=>none
 |K+1,c=>
  if c<(a.length:Int)then
  (idx a c).bind fun d=>
  (idx b c).bind fun e=>
  if(!decide (d=e))=true then
  some (.inr false)
  else
  kW a b K (w64 (c+1))
  else
  some (.inl ())
def zY (N:Nat) (a:List Int) (b:List Int):Option Bool:=
 if(!decide ((a.length:Int)=(b.length:Int)))=true then
 some false
 else
 (kW a b N 0).bind (fun
 |(.inl ())=>
 some true
 |(.inr c)=>
 some c)
theorem vZ (N:Nat) (a:List Int) (b:List Int) {res:Bool} (h:zY N a b=some res):qb ZT (.fn 32) (kAi a b) [] (.bool res) []:=by
 unfold zY at h
 refine Ub Tryz.func32 rfl rfl (m:=26) rfl (rs:=[.tmp 4]) rfl (l:=(kH a (kQ b []))) rfl ?_
 refine sh fol (kH a (kQ b [])) ?_
 refine sq ?_
 refine sh fol (kH a (kQ b (kAq (!decide ((a.length:Int)=(b.length:Int)))))) ?_
 refine ihB h (fun j h=>?_) (fun j h=>?_)
 ·refine sh fol kAA ?_
  refine Goes.ret ?_
  obtain rfl:=si h
  exact(gw2 [.bool false] (Ua tB))
 refine Goes.skip ?_
 refine sq ?_
 refine sh fol (kH a (kQ b kBO)) ?_
 refine Goes.block ?_
 obtain⟨f,g3,h⟩:=bnd h
 refine Goes.imp (Q:=fun x s'=>(x= .exit 0/\(.inl ())=f/\Sub s' (ofG 26 [],[]))\/(x= .ret/\ ∃g,(.inr g)=f/\jh ZT [.tmp 4] (.bool g) .ret s')) ?_ ?_
 ·refine Uc (fun M s=> ∃(c:Int),s=(ofG 26 (kH a (kQ b (kAc c))),[])/\kW a b M c=some f) ?_ (m:=N) ⟨_,rfl,g3⟩
  rintro M s ⟨c,rfl,g3⟩
  cases M with
  |zero=>simp only[kW]at g3;cases g3
  |succ M=>
   rw[kW]at g3
   refine sq ?_
   refine sh fol (kH a (kQ b ((5,.i c)::(kBL (decide (c<(a.length:Int))))))) ?_
   refine ihD g3 (fun k g3=>?_) (fun k g3=>?_)
   ·refine Goes.skip ?_
    refine sq (Goes.block ?_)
    obtain⟨n,d,g3⟩:=bnd g3
    obtain⟨o,e,g3⟩:=bnd g3
    refine sq (gr fol [2,3,6,7] (kH a (kQ b [(5,.i c),(25,.bool (!decide (n=o)))])) (ac (iv yo encI d) (ac (lv 0 ce3 encI d rfl) (ac (iv yo encI e) (ac (lv 0 ce3 encI e rfl) az)))) ?_)
    refine ihB g3 (fun p g3=>?_) (fun p g3=>?_)
    ·refine sh fol kAA ?_
     refine Goes.ret ?_
     obtain rfl:=si g3
     exact Or.inr (⟨rfl,_,rfl,(gw2 [.bool false] (Ua tB))⟩)
    refine Goes.skip ?_
    refine gh fol (kH a (kQ b (kAc (w64 (c+1))))) ?_
    exact⟨M,(ofG 26 (kH a (kQ b (kAc (w64 (c+1))))),[]),Nat.lt_succ_self _,(Sub.refl _),_,rfl,g3⟩
   refine Goes.exit ?_
   obtain rfl:=si g3
   exact Or.inl (⟨rfl,rfl,(Sub.keep [] rfl rfl)⟩)
 rintro x s' (⟨rfl,rfl,hsub⟩|⟨rfl,q,rfl,hret⟩)
 ·try dsimp only at h
  refine Goes.sub hsub ?_
  refine sh fol kA4 ?_
  refine Goes.ret ?_
  obtain rfl:=si h
  exact(gw2 [.bool true] (Ua tB))
 try dsimp only at h
 obtain rfl:=si h
 exact hret
def vX (n:Int) (c:Int):Option Bool:=
 (if(!decide (c=0))=true then
 if c>(w64 (0-n))then
 some (decide (c<n))
 else
 some false
 else
 some false:Option Bool).bind fun a=>
 some a
theorem qb1 (n:Int) (c:Int) {res:Bool} (h:vX n c=some res):qb ZT (.fn 78) [.i n,.i c] [] (.bool res) []:=by
 unfold vX at h
 refine Ub Tryz.func78 rfl rfl (m:=18) rfl (rs:=[.tmp 4]) rfl (l:=((0,.i n)::(kAx c))) rfl ?_
 refine sh fol ((0,.i n)::(kAx c)) ?_
 refine sq ?_
 obtain⟨e,a,h⟩:=bnd h
 refine Goes.cut (s':=(ofG 18 (kAa e),[])) ?_ ?_
 ·rcases wyB a with⟨b,a⟩|⟨b,a⟩
  ·rcases wyD a with⟨d,a⟩|⟨d,a⟩
   ·obtain rfl:=si a
    exact tr fol [2,8] (kAa (decide (c<n))) (ac (gw b) (ac (gw d) az))
   obtain rfl:=si a
   exact tr fol [2,8] kAA (ac (gw b) (ac (gw d) az))
  obtain rfl:=si a
  exact tr fol [2] kAA (ac (gw b) az)
 refine Goes.ret ?_
 obtain rfl:=si h
 exact(gw2 [.bool e] (Ua tB))
def ky (n:Int) (w:List Int):Nat->Int->Option (Unit⊕Int)
 |0,_=>none
 |K+1,a=>
  if a<(w.length:Int)then
  (idx w a).bind fun b=>
  (vX n b).bind fun c=>
  if(!c)=true then
  some (.inr 3)
  else
  ky n w K (w64 (a+1))
  else
  some (.inl ())
def jf (N:Nat) (n:Int) (w:List Int):Option Int:=
 (if n<1 then
 some true
 else
 some (decide (n>12)):Option Bool).bind fun b=>
 if b=true then
 some 3
 else
 if(w.length:Int)>200 then
 some 5
 else
 (ky n w N 0).bind (fun
 |(.inl ())=>
 some 0
 |(.inr a)=>
 some a)
theorem y8 (N:Nat) (n:Int) (w:List Int) {res:Int} (h:jf N n w=some res):qb ZT (.fn 20) (kAk n w) [] (.i res) []:=by
 unfold jf at h
 refine Ub Tryz.func20 rfl rfl (m:=28) rfl (rs:=[.tmp 4]) rfl (l:=(kB n w [])) rfl ?_
 refine sh fol (kB n w []) ?_
 refine sq ?_
 refine sq ?_
 obtain⟨p,a,h⟩:=bnd h
 refine Goes.cut (s':=(ofG 28 (kB n w (kBC p)),[])) ?_ ?_
 ·rcases wyD a with⟨e,a⟩|⟨e,a⟩
  ·obtain rfl:=si a
   exact tr fol [2] (kB n w [(11,.bool true)]) (ac (gw e) az)
  obtain rfl:=si a
  exact tr fol [2] (kB n w (kBC (decide (n>12)))) (ac (gw e) az)
 refine ihB h (fun q h=>?_) (fun q h=>?_)
 ·refine sh fol [(4,.i 3)] ?_
  refine Goes.ret ?_
  obtain rfl:=si h
  exact(gw2 [.i 3] (Ua tI))
 refine Goes.skip ?_
 refine sq ?_
 refine sh fol (kB n w (kBL (decide ((w.length:Int)>200)))) ?_
 refine ihD h (fun r h=>?_) (fun r h=>?_)
 ·refine sh fol [(4,.i 5)] ?_
  refine Goes.ret ?_
  obtain rfl:=si h
  exact(gw2 [.i 5] (Ua tI))
 refine Goes.skip ?_
 refine sq ?_
 refine sh fol (kB n w kBO) ?_
 refine Goes.block ?_
 obtain⟨f,g7,h⟩:=bnd h
 refine Goes.imp (Q:=fun x s'=>(x= .exit 0/\(.inl ())=f/\Sub s' (ofG 28 [],[]))\/(x= .ret/\ ∃o,(.inr o)=f/\jh ZT [.tmp 4] (.i o) .ret s')) ?_ ?_
 ·refine Uc (fun M s=> ∃(c:Int),s=(ofG 28 (kB n w (kAc c)),[])/\ky n w M c=some f) ?_ (m:=N) ⟨_,rfl,g7⟩
  rintro M s ⟨c,rfl,g7⟩
  cases M with
  |zero=>simp only[ky]at g7;cases g7
  |succ M=>
   rw[ky]at g7
   refine sq ?_
   refine sh fol (kB n w [(5,.i c),(18,.bool (decide (c<(w.length:Int))))]) ?_
   refine ihD g7 (fun t g7=>?_) (fun t g7=>?_)
   ·refine Goes.skip ?_
    refine sq (Goes.block ?_)
    obtain⟨g,b,g7⟩:=bnd g7
    obtain⟨j,d,g7⟩:=bnd g7
    refine sq (gr fol [3,4,5] (kB n w [(5,.i c),(27,.bool (!j))]) (ac (iv yo encI b) (ac (lv 0 ce3 encI b rfl) (ac (cv (qb1 n g d)) az))) ?_)
    refine ihB g7 (fun k g7=>?_) (fun k g7=>?_)
    ·refine sh fol [(4,.i 3)] ?_
     refine Goes.ret ?_
     obtain rfl:=si g7
     exact Or.inr (⟨rfl,_,rfl,(gw2 [.i 3] (Ua tI))⟩)
    refine Goes.skip ?_
    refine gh fol (kB n w (kAc (w64 (c+1)))) ?_
    exact⟨M,(ofG 28 (kB n w (kAc (w64 (c+1)))),[]),Nat.lt_succ_self _,(Sub.refl _),_,rfl,g7⟩
   refine Goes.exit ?_
   obtain rfl:=si g7
   exact Or.inl (⟨rfl,rfl,(Sub.keep [] rfl rfl)⟩)
 rintro x s' (⟨rfl,rfl,hsub⟩|⟨rfl,u,rfl,hret⟩)
 ·try dsimp only at h
  refine Goes.sub hsub ?_
  refine sh fol kA9 ?_
  refine Goes.ret ?_
  obtain rfl:=si h
  exact(gw2 [.i 0] (Ua tI))
 try dsimp only at h
 obtain rfl:=si h
 exact hret
def kg (l:List Int):Nat->Int->Option (Unit⊕Int)
 |0,_=>none
 |K+1,a=>
  if a<(l.length:Int)then
  (idx l a).bind fun b=>
  if(!decide (b=0))=true then
  some (.inr b)
  else
  kg l K (w64 (a+1))
  else
  some (.inl ())
def jg (N:Nat) (l:List Int):Option Int:=
 (kg l N 0).bind (fun
 |(.inl ())=>
 some 0
 |(.inr a)=>
 some a)
theorem qaD (N:Nat) (l:List Int) {res:Int} (h:jg N l=some res):qb ZT (.fn 60) [vl encI l] [] (.i res) []:=by
 unfold jg at h
 refine Ub Tryz.func60 rfl rfl (m:=15) rfl (rs:=[.tmp 2]) rfl (l:=(kH l [])) rfl ?_
 refine sh fol (kH l []) ?_
 refine sq ?_
 refine sh fol ((5,vl encI l)::(6,.i (l.length:Int))::kBJ) ?_
 refine Goes.block ?_
 obtain⟨d,g2,h⟩:=bnd h
 refine Goes.imp (Q:=fun x s'=>(x= .exit 0/\(.inl ())=d/\Sub s' (ofG 15 [],[]))\/(x= .ret/\ ∃e,(.inr e)=d/\jh ZT [.tmp 2] (.i e) .ret s')) ?_ ?_
 ·refine Uc (fun M s=> ∃(a:Int),s=(ofG 15 ((5,vl encI l)::(6,.i (l.length:Int))::(kBK a)),[])/\kg l M a=some d) ?_ (m:=N) ⟨_,rfl,g2⟩
  rintro M s ⟨a,rfl,g2⟩
  cases M with
  |zero=>simp only[kg]at g2;cases g2
  |succ M=>
   rw[kg]at g2
   refine sh fol ((5,vl encI l)::(6,.i (l.length:Int))::(7,.i a)::(kAp (decide (a<(l.length:Int))))) ?_
   refine sq ?_
   refine ihD g2 (fun f g2=>?_) (fun f g2=>?_)
   ·refine Goes.skip ?_
    refine sq (Goes.block ?_)
    obtain⟨c,b,g2⟩:=bnd g2
    refine sq (gr fol [0,1] ((4,.i c)::(5,vl encI l)::(6,.i (l.length:Int))::(kBK a)) (ac (iv sl153 encI b) (ac (lv 0 ce30 encI b rfl) az)) ?_)
    refine sh fol [(4,.i c),(5,vl encI l),(6,.i (l.length:Int)),(7,.i a),(12,.bool (!decide (c=0)))] ?_
    refine ihB g2 (fun g g2=>?_) (fun g g2=>?_)
    ·refine sh fol [(2,.i c)] ?_
     refine Goes.ret ?_
     obtain rfl:=si g2
     exact Or.inr (⟨rfl,_,rfl,(gw2 [.i c] (Ua tI))⟩)
    refine Goes.skip ?_
    refine gh fol ((5,vl encI l)::(6,.i (l.length:Int))::(kBK (w64 (a+1)))) ?_
    exact⟨M,(ofG 15 ((5,vl encI l)::(6,.i (l.length:Int))::(kBK (w64 (a+1)))),[]),Nat.lt_succ_self _,(Sub.refl _),_,rfl,g2⟩
   refine Goes.exit ?_
   obtain rfl:=si g2
   exact Or.inl (⟨rfl,rfl,(Sub.keep [] rfl rfl)⟩)
 rintro x s' (⟨rfl,rfl,hsub⟩|⟨rfl,j,rfl,hret⟩)
 ·try dsimp only at h
  refine Goes.sub hsub ?_
  refine sh fol [(2,.i 0)] ?_
  refine Goes.ret ?_
  obtain rfl:=si h
  exact(gw2 [.i 0] (Ua tI))
 try dsimp only at h
 obtain rfl:=si h
 exact hret
def zR (holds:Bool) (e:Int):Option Int:=
 if holds=true then
 some e
 else
 some 0
theorem yA (holds:Bool) (e:Int) {res:Int} (h:zR holds e=some res):qb ZT (.fn 67) [.bool holds,.i e] [] (.i res) []:=by
 unfold zR at h
 refine Ub Tryz.func67 rfl rfl (m:=7) rfl (rs:=[.tmp 4]) rfl (l:=((0,.bool holds)::(kAx e))) rfl ?_
 refine sh fol ((0,.bool holds)::(kAx e)) ?_
 refine sq ?_
 refine sh fol [(1,.i e),(5,.bool holds)] ?_
 refine ihB h (fun a h=>?_) (fun a h=>?_)
 ·refine sh fol (kAX e) ?_
  refine Goes.ret ?_
  obtain rfl:=si h
  exact(gw2 [.i e] (Ua tI))
 refine Goes.skip ?_
 refine sh fol kA9 ?_
 refine Goes.ret ?_
 obtain rfl:=si h
 exact(gw2 [.i 0] (Ua tI))
def jJ (n:Int):Option Int:=
 (if n<1 then
 (zR true 3).bind fun a=>
 some a
 else
 (zR (decide (n>12)) 3).bind fun b=>
 some b:Option Int).bind fun c=>
 some c
theorem qan (n:Int) {res:Int} (h:jJ n=some res):qb ZT (.fn 61) [.i n] [] (.i res) []:=by
 unfold jJ at h
 refine Ub Tryz.func61 rfl rfl (m:=10) rfl (rs:=[.tmp 2]) rfl (l:=(kBT n)) rfl ?_
 refine sh fol (kBT n) ?_
 refine sq ?_
 obtain⟨e,a,h⟩:=bnd h
 refine Goes.cut (s':=(ofG 10 [(2,.i e)],[])) ?_ ?_
 ·rcases wyD a with⟨d,a⟩|⟨d,a⟩
  ·obtain⟨f,b,a⟩:=bnd a
   obtain rfl:=si a
   exact tr fol [2,6] [(2,.i f)] (ac (gw d) (ac (cv (yA true 3 b)) az))
  obtain⟨g,c,a⟩:=bnd a
  obtain rfl:=si a
  exact tr fol [2,6] [(2,.i g)] (ac (gw d) (ac (cv (yA (decide (n>12)) 3 c)) az))
 refine Goes.ret ?_
 obtain rfl:=si h
 exact(gw2 [.i e] (Ua tI))
def vK (n:Int) (letter:Int):Option Bool:=
 (if letter=0 then
 some true
 else
 if letter<=(w64 (0-n))then
 some true
 else
 some (decide (letter>=n)):Option Bool).bind fun a=>
 some a
theorem qbH (n:Int) (letter:Int) {res:Bool} (h:vK n letter=some res):qb ZT (.fn 92) [.i n,.i letter] [] (.bool res) []:=by
 unfold vK at h
 refine Ub Tryz.func92 rfl rfl (m:=18) rfl (rs:=[.tmp 4]) rfl (l:=((0,.i n)::(kAx letter))) rfl ?_
 refine sh fol ((0,.i n)::(kAx letter)) ?_
 refine sq ?_
 obtain⟨d,a,h⟩:=bnd h
 refine Goes.cut (s':=(ofG 18 (kAa d),[])) ?_ ?_
 ·rcases wyD a with⟨b,a⟩|⟨b,a⟩
  ·obtain rfl:=si a
   exact tr fol [2] kA4 (ac (gw b) az)
  rcases wyD a with⟨c,a⟩|⟨c,a⟩
  ·obtain rfl:=si a
   exact tr fol [2,8] kA4 (ac (gw b) (ac (gw c) az))
  obtain rfl:=si a
  exact tr fol [2,8] (kAa (decide (letter>=n))) (ac (gw b) (ac (gw c) az))
 refine Goes.ret ?_
 obtain rfl:=si h
 exact(gw2 [.bool d] (Ua tB))
def jc (a:Int) (b:Int):Option Bool:=
 (vK b a).bind fun c=>
 some c
theorem xC (a:Int) (b:Int) {res:Bool} (h:jc a b=some res):qb ZT (.fn 91) [.i a,.fptr [.i b] 0] [] (.bool res) []:=by
 unfold jc at h
 refine Ub Tryz.func91 rfl rfl (m:=7) rfl (rs:=[.tmp 3]) rfl (l:=[(0,.i a),(1,.fptr [.i b] 0)]) rfl ?_
 refine sh fol [(0,.i a),(1,.fptr [.i b] 0)] ?_
 obtain⟨d,c,h⟩:=bnd h
 refine sq (gr fol [2] [(3,.bool d)] (ac (cv (qbH b a c)) az) ?_)
 refine Goes.ret ?_
 obtain rfl:=si h
 exact(gw2 [.bool d] (Ua tB))
def qh (a:List Int) (b:Int):Nat->Int->Option (Unit⊕Int)
 |0,_=>none
 |K+1,c=>
  if c<(a.length:Int)then
  (idx a c).bind fun d=>
  (jc d b).bind fun e=>
  if e=true then
  some (.inr c)
  else
  qh a b K (w64 (c+1))
  else
  some (.inl ())
def zN (N:Nat) (a:List Int) (b:Int):Option Int:=
 (qh a b N 0).bind (fun
 |(.inl ())=>
 some (-1)
 |(.inr c)=>
 some c)
theorem yU (N:Nat) (a:List Int) (b:Int) {res:Int} (h:zN N a b=some res):qb ZT (.fn 143) [vl encI a,.func (.func 91) [] [.fptr [.i b] 0]] [] (.i res) []:=by
 unfold zN at h
 refine Ub Tryz.func143 rfl rfl (m:=19) rfl (rs:=[.tmp 4]) rfl (l:=(kH a [(1,.func (.func 91) [] [.fptr [.i b] 0])])) rfl ?_
 refine sh fol (kH a [(1,.func (.func 91) [] [.fptr [.i b] 0])]) ?_
 refine sq ?_
 refine sh fol (kH a [(1,.func (.func 91) [] [.fptr [.i b] 0]),(7,.i (a.length:Int)),(8,.i 0)]) ?_
 refine Goes.block ?_
 obtain⟨f,g2,h⟩:=bnd h
 refine Goes.imp (Q:=fun x s'=>(x= .exit 0/\(.inl ())=f/\Sub s' (ofG 19 [],[]))\/(x= .ret/\ ∃j,(.inr j)=f/\jh ZT [.tmp 4] (.i j) .ret s')) ?_ ?_
 ·refine Uc (fun M s=> ∃(c:Int),s=(ofG 19 (kH a ((1,.func (.func 91) [] [.fptr [.i b] 0])::(7,.i (a.length:Int))::(kA2 c))),[])/\qh a b M c=some f) ?_ (m:=N) ⟨_,rfl,g2⟩
  rintro M s ⟨c,rfl,g2⟩
  cases M with
  |zero=>simp only[qh]at g2;cases g2
  |succ M=>
   rw[qh]at g2
   refine sh fol (kH a [(1,.func (.func 91) [] [.fptr [.i b] 0]),(7,.i (a.length:Int)),(8,.i c),(9,.bool (decide (c<(a.length:Int))))]) ?_
   refine sq ?_
   refine ihD g2 (fun n g2=>?_) (fun n g2=>?_)
   ·refine Goes.skip ?_
    refine sq (Goes.block ?_)
    refine sh fol (kH a ((1,.func (.func 91) [] [.fptr [.i b] 0])::(5,.i c)::(7,.i (a.length:Int))::(kA2 c))) ?_
    obtain⟨g,d,g2⟩:=bnd g2
    obtain⟨k,e,g2⟩:=bnd g2
    refine sq (gr fol [3,4,5] (kH a [(1,.func (.func 91) [] [.fptr [.i b] 0]),(5,.i c),(7,.i (a.length:Int)),(8,.i c),(16,.bool k)]) (ac (iv yo encI d) (ac (lv 0 ce3 encI d rfl) (ac (hs (.call 91 [.i g,.fptr [.i b] 0] [] [] [.i g,.fptr [.i b] 0] (.bool k)) (qe8 (FzL.cons (Uk tI) (FzL.cons (Uk (Still.fptr (AllST.cons tI AllST.nil))) FzL.nil)) (xC g b e) tB)) az))) ?_)
    refine ihB g2 (fun o g2=>?_) (fun o g2=>?_)
    ·refine sh fol (kAX c) ?_
     refine Goes.ret ?_
     obtain rfl:=si g2
     exact Or.inr (⟨rfl,_,rfl,(gw2 [.i c] (Ua tI))⟩)
    refine Goes.skip ?_
    refine gh fol (kH a ((1,.func (.func 91) [] [.fptr [.i b] 0])::(7,.i (a.length:Int))::(kA2 (w64 (c+1))))) ?_
    exact⟨M,(ofG 19 (kH a ((1,.func (.func 91) [] [.fptr [.i b] 0])::(7,.i (a.length:Int))::(kA2 (w64 (c+1))))),[]),Nat.lt_succ_self _,(Sub.refl _),_,rfl,g2⟩
   refine Goes.exit ?_
   obtain rfl:=si g2
   exact Or.inl (⟨rfl,rfl,(Sub.keep [] rfl rfl)⟩)
 rintro x s' (⟨rfl,rfl,hsub⟩|⟨rfl,p,rfl,hret⟩)
 ·try dsimp only at h
  refine Goes.sub hsub ?_
  refine sh fol [(4,.i (-1))] ?_
  refine Goes.ret ?_
  obtain rfl:=si h
  exact(gw2 [.i (-1)] (Ua tI))
 try dsimp only at h
 obtain rfl:=si h
 exact hret
def kX (N:Nat) (a:List Int) (b:Int):Option Bool:=
 (zN N a b).bind fun c=>
 some (decide (c>=0))
theorem yG (N:Nat) (a:List Int) (b:Int) {res:Bool} (h:kX N a b=some res):qb ZT (.fn 90) [vl encI a,.func (.func 91) [] [.fptr [.i b] 0]] [] (.bool res) []:=by
 unfold kX at h
 refine Ub Tryz.func90 rfl rfl (m:=9) rfl (rs:=[.tmp 4]) rfl (l:=(kH a [(1,.func (.func 91) [] [.fptr [.i b] 0])])) rfl ?_
 refine sh fol (kH a [(1,.func (.func 91) [] [.fptr [.i b] 0])]) ?_
 obtain⟨d,c,h⟩:=bnd h
 refine sq (gr fol [2] (kAa (decide (d>=0))) (ac (hs (.call 143 [vl encI a,.func (.func 91) [] [.fptr [.i b] 0]] [] [] [vl encI a,.func (.func 91) [] [.fptr [.i b] 0]] (.i d)) (qe8 (FzL.cons (Uk (ja encI _ (nl rfl))) (FzL.cons (Fz.func FzL.nil (FzL.cons (Uk (Still.fptr (AllST.cons tI AllST.nil))) FzL.nil)) FzL.nil)) (yU N a b c) tI)) az) ?_)
 refine Goes.ret ?_
 obtain rfl:=si h
 exact(gw2 [.bool (decide (d>=0))] (Ua tB))
def zT (N:Nat) (n:Int) (w:List Int):Option Int:=
 (jJ n).bind fun b=>
 (zR (decide ((w.length:Int)>200)) 5).bind fun c=>
 (jg N ([b,c]:List Int)).bind fun a=>
 if(!decide (a=0))=true then
 some a
 else
 (kX N w n).bind fun d=>
 (zR d 3).bind fun e=>
 some e
theorem vU (N:Nat) (n:Int) (w:List Int) {res:Int} (h:zT N n w=some res):qb ZT (.fn 33) (kAk n w) [] (.i res) []:=by
 unfold zT at h
 refine Ub Tryz.func33 rfl rfl (m:=21) rfl (rs:=[.tmp 4]) rfl (l:=(kB n w [])) rfl ?_
 refine sg fol (kQ w [(2,.ptr 0 0)]) (kAu n []) ?_
 refine sq ?_
 obtain⟨b,c,h⟩:=bnd h
 obtain⟨d,e,h⟩:=bnd h
 obtain⟨a,f,h⟩:=bnd h
 refine sq (gq fol [1,5,7] (kQ w ((2,.ptr 0 0)::(kAc a))) (kAu n (kV b d)) (ac (cv (qan n c)) (ac (cv (yA (decide ((w.length:Int)>200)) 5 e)) (ac (hs (.call 60 [.slice 1 0 2 2 1] (kAu n (kV b d)) [1] [vl encI ([b,d]:List Int)] (.i a)) (qcJ (FzL.cons (Fz.lit rfl rfl (FzL.still (AllST.cons tI (AllST.cons tI AllST.nil)))) FzL.nil) (qaD N ([b,d]:List Int) f) tI rfl)) az))) ?_)
 refine sh fol (kQ w [(2,.ptr 0 0),(5,.i a),(15,.bool (!decide (a=0)))]) ?_
 refine ihB h (fun p h=>?_) (fun p h=>?_)
 ·refine sh fol (kAX a) ?_
  refine Goes.ret ?_
  obtain rfl:=si h
  exact(gw2 [.i a] (Ua tI))
 refine Goes.skip ?_
 obtain⟨k,g,h⟩:=bnd h
 obtain⟨o,j,h⟩:=bnd h
 refine sq (gr fol [2,3] (kAX o) (ac (hs (.call 90 [vl encI w,.func (.func 91) [] [.ptr 0 0]] (kAu n (kV b d)) [0] [vl encI w,.func (.func 91) [] [.fptr [.i n] 0]] (.bool k)) (qcJ (FzL.cons (Uk (ja encI _ (nl rfl))) (FzL.cons (Fz.func FzL.nil (FzL.cons (Fz.ptr rfl rfl (FzL.cons (Uk tI) FzL.nil)) FzL.nil)) FzL.nil)) (yG N w n g) tB rfl)) (ac (cv (yA k 3 j)) az)) ?_)
 refine Goes.ret ?_
 obtain rfl:=si h
 exact(gw2 [.i o] (Ua tI))
def xP (n:Int):Option Int:=
 some (if(w64 (0-n))>n then(w64 (0-n))else n)
theorem qdP (n:Int) {res:Int} (h:xP n=some res):qb ZT (.fn 68) [.i n] [] (.i res) []:=by
 unfold xP at h
 refine Ub Tryz.func68 rfl rfl (m:=7) rfl (rs:=[.tmp 2]) rfl (l:=(kBT n)) rfl ?_
 refine sh fol (kBT n) ?_
 refine sh fol [(2,.i (if(w64 (0-n))>n then(w64 (0-n))else n))] ?_
 refine Goes.ret ?_
 obtain rfl:=si h
 exact(gw2 [.i (if(w64 (0-n))>n then(w64 (0-n))else n)] (Ua tI))
def qQ (c:List Int):Nat->(List Int)->Int->Option (List Int)
 |0,_,_=>none
 |K+1,b,a=>
  if a<(c.length:Int)then
  (idx b a).bind fun e=>
  (put b a a).bind fun d=>
  qQ c K d (w64 (a+1))
  else
  some b
def zM (N:Nat) (a:Int):Option (List Int):=
 (mk 8 a 0).bind fun b=>
 (qQ b N b 0).bind fun c=>
 some c
theorem yB (N:Nat) (c:Int) {n:List Int} (h:zM N c=some n):qb ZT (.fn 131) [.i c] [] (.slice 0 0 n.length n.length 1) (kA n):=by
 unfold zM at h
 refine Uq Tryz.func131 rfl rfl (m:=18) rfl (rs:=[.tmp 2]) rfl (l:=(kBT c)) rfl ?_
 intro B hB
 refine sh fol (kBT c) ?_
 obtain⟨a,k,h⟩:=bnd h
 refine sq (gq fol [1] (kK a []) (kA a) (ac (hs (.run [] (jH ZT 22 (.i c) (.i c)) [] (.slice 0 0 a.length a.length 1) (kA a) false) (qdz yo (E:=encI) (z:=0) rfl (by kernel_rfl) k rfl)) az) ?_)
 refine sq ?_
 refine sh fol (kK a [(8,.i (a.length:Int)),(9,.i 0)]) ?_
 refine Goes.block ?_
 obtain⟨o,g6,h⟩:=bnd h
 refine Goes.imp (Q:=fun x s'=>(x= .exit 0/\ ∃j,j=o/\Sub s' (ofG 18 (kK j []),(kA j)))) ?_ ?_
 ·refine Uc (fun M s=> ∃(d:List Int) (b:Int),s=(ofG 18 (kK d (kAl (a.length:Int) b [])),(kA d))/\qQ a M d b=some o) ?_ (m:=N) ⟨_,_,rfl,g6⟩
  rintro M s ⟨d,b,rfl,g6⟩
  cases M with
  |zero=>simp only[qQ]at g6;cases g6
  |succ M=>
   rw[qQ]at g6
   refine sh fol (kK d (kAl (a.length:Int) b (kAq (decide (b<(a.length:Int)))))) ?_
   refine sq ?_
   refine ihD g6 (fun p g6=>?_) (fun p g6=>?_)
   ·refine Goes.skip ?_
    refine sq (Goes.block ?_)
    refine sh fol (kK d ((4,.i b)::(kAl (a.length:Int) b []))) ?_
    obtain⟨q,e,g6⟩:=bnd g6
    obtain⟨f,g,g6⟩:=bnd g6
    refine gq fol [3,4] (kK d (kAl (a.length:Int) b [])) (kA f) (ac (hs (.done (.opt (qc ZT 22 (.slice 0 0 d.length d.length 1) (.i b))) (.ptr 0 ((b:Int).toNat*1+0))) (qbV yo e)) (ac (hs (.run [0] (jy ZT 3 (.ptr 0 ((b:Int).toNat*1+0)) (.i b)) (kA d) .undef (kA f) true) (xc (E:=encI) (l:=d) (y:=b) rfl (show _=some 1 by kernel_rfl) rfl e rfl rfl rfl rfl rfl g rfl)) az)) ?_
    refine Goes.sub (show Sub (ofG 18 (kK d (kAl (a.length:Int) b [])),(kA f)) (ofG 18 (kK f (kAl (a.length:Int) b [])),(kA f))from(Sub.norm [] [some 0] (by rw[hB];rfl) rfl (.keep (.sliceE rfl (ve g)) (.keep (.same nI) (.keep (.same nI) .nil))) (.ks .nil))) ?_
    refine gh fol (kK f (kAl (a.length:Int) (w64 (b+1)) [])) ?_
    exact⟨M,(ofG 18 (kK f (kAl (a.length:Int) (w64 (b+1)) [])),(kA f)),Nat.lt_succ_self _,(Sub.refl _),_,_,rfl,g6⟩
   refine Goes.exit ?_
   obtain rfl:=si g6
   exact⟨rfl,_,rfl,(Sub.keep [3] rfl rfl)⟩
 rintro x s' ⟨rfl,j,rfl,hsub⟩
 refine Goes.sub hsub ?_
 refine sh fol (kA5 j) ?_
 refine Goes.ret ?_
 obtain rfl:=si h
 exact(gh2 [.slice 0 0 j.length j.length 1] (xY.refl _ _))
def zt (p:List Int):Nat->(List Int)->Int->Option (List Int)
 |0,_,_=>none
 |K+1,b,a=>
  if a<(p.length:Int)then
  (idx p a).bind fun c=>
  (idx b c).bind fun e=>
  (put b c a).bind fun d=>
  zt p K d (w64 (a+1))
  else
  some b
def vN (N:Nat) (p:List Int):Option (List Int):=
 (mk 8 (p.length:Int) 0).bind fun a=>
 (zt p N a 0).bind fun b=>
 some b
theorem qbC (N:Nat) (p:List Int) {res:List Int} (h:vN N p=some res):qb ZT (.fn 98) [vl encI p] [] (vl encI res) []:=by
 unfold vN at h
 refine Ub Tryz.func98 rfl rfl (m:=22) rfl (rs:=[.tmp 2]) rfl (l:=(kH p [])) rfl ?_
 refine sh fol (kH p []) ?_
 obtain⟨j,k,h⟩:=bnd h
 refine sq (gq fol [2] (kH p (kK j [])) (kA j) (ac (hs (.run [] (jH ZT 22 (.i (p.length:Int)) (.i (p.length:Int))) [] (.slice 0 0 j.length j.length 1) (kA j) false) (qdz yo (E:=encI) (z:=0) rfl (by kernel_rfl) k rfl)) az) ?_)
 refine sq ?_
 refine sh fol (kH p (kK j kA9)) ?_
 refine Goes.block ?_
 obtain⟨o,g5,h⟩:=bnd h
 refine Goes.imp (Q:=fun x s'=>(x= .exit 0/\ ∃g,g=o/\Sub s' (ofG 22 (kK g []),(kA g)))) ?_ ?_
 ·refine Uc (fun M s=> ∃(b:List Int) (a:Int),s=(ofG 22 (kH p (kK b (kAX a))),(kA b))/\zt p M b a=some o) ?_ (m:=N) ⟨_,_,rfl,g5⟩
  rintro M s ⟨b,a,rfl,g5⟩
  cases M with
  |zero=>simp only[zt]at g5;cases g5
  |succ M=>
   rw[zt]at g5
   refine sq ?_
   refine sh fol (kH p (kK b ((4,.i a)::(kBC (decide (a<(p.length:Int))))))) ?_
   refine ihD g5 (fun q g5=>?_) (fun q g5=>?_)
   ·refine Goes.skip ?_
    refine sq (Goes.block ?_)
    obtain⟨n,c,g5⟩:=bnd g5
    obtain⟨r,d,g5⟩:=bnd g5
    obtain⟨e,f,g5⟩:=bnd g5
    refine gq fol [3,4,6,7] (kH p (kK b (kAX a))) (kA e) (ac (iv yo encI c) (ac (lv 0 ce3 encI c rfl) (ac (hs (.done (.opt (qc ZT 22 (.slice 0 0 b.length b.length 1) (.i n))) (.ptr 0 ((n:Int).toNat*1+0))) (qbV yo d)) (ac (hs (.run [0] (jy ZT 3 (.ptr 0 ((n:Int).toNat*1+0)) (.i a)) (kA b) .undef (kA e) true) (xc (E:=encI) (l:=b) (y:=a) rfl (show _=some 1 by kernel_rfl) rfl d rfl rfl rfl rfl rfl f rfl)) az)))) ?_
    refine Goes.sub (show Sub (ofG 22 (kH p (kK b (kAX a))),(kA e)) (ofG 22 (kH p (kK e (kAX a))),(kA e))from(Sub.norm [] [some 0] rfl rfl (.keep (.same (qB encI _)) (.keep (.sliceE rfl (ve f)) (.keep (.same nI) .nil))) (.ks .nil))) ?_
    refine gh fol (kH p (kK e (kAX (w64 (a+1))))) ?_
    exact⟨M,(ofG 22 (kH p (kK e (kAX (w64 (a+1))))),(kA e)),Nat.lt_succ_self _,(Sub.refl _),_,_,rfl,g5⟩
   refine Goes.exit ?_
   obtain rfl:=si g5
   exact⟨rfl,_,rfl,(Sub.keep [3] rfl rfl)⟩
 rintro x s' ⟨rfl,g,rfl,hsub⟩
 refine Goes.sub hsub ?_
 refine sh fol (kA5 g) ?_
 refine Goes.ret ?_
 obtain rfl:=si h
 exact(gw2 [.slice 0 0 g.length g.length 1] (Uw (Fz.sl (E:=encI) rfl rfl (nl rfl))))
def yY (c:Int):Option Int:=
 some (if(w64 (0-c))>c then(w64 (0-c))else c)
theorem qc0 (c:Int) {res:Int} (h:yY c=some res):qb ZT (.fn 77) [.i c] [] (.i res) []:=by
 unfold yY at h
 refine Ub Tryz.func77 rfl rfl (m:=7) rfl (rs:=[.tmp 2]) rfl (l:=(kBT c)) rfl ?_
 refine sh fol (kBT c) ?_
 refine sh fol [(2,.i (if(w64 (0-c))>c then(w64 (0-c))else c))] ?_
 refine Goes.ret ?_
 obtain rfl:=si h
 exact(gw2 [.i (if(w64 (0-c))>c then(w64 (0-c))else c)] (Ua tI))
def qR (a:Int):Nat->(List Int)->Int->Option (List Int)
 |0,_,_=>none
 |K+1,c,b=>
  if b<a then
  (app 8 c [b]).bind fun d=>
  qR a K d (w64 (b+1))
  else
  some c
def zL (N:Nat) (a:Int):Option (List Int):=
 (qR a N ([]:List Int) 0).bind fun b=>
 some b
theorem yC (N:Nat) (a:Int) {g:List Int} (h:zL N a=some g):qb ZT (.fn 86) [.i a] [] (.gslice 0 g.length 1) (kA g):=by
 unfold zL at h
 refine Uq Tryz.func86 rfl rfl (m:=15) rfl (rs:=[.tmp 2]) rfl (l:=(kBT a)) rfl ?_
 intro B hB
 refine sh fol (kBT a) ?_
 refine sh fol ((0,.i a)::(kAs [])) ?_
 refine sq ?_
 refine sh fol ((0,.i a)::(kAs kA9)) ?_
 refine Goes.block ?_
 obtain⟨j,g5,h⟩:=bnd h
 refine Goes.imp (Q:=fun x s'=>(x= .exit 0/\ ∃e,e=j/\Sub s' (ofG 15 (kAH e []),(kA e)))) ?_ ?_
 ·refine Goes.sub (s':=(ofG 15 ((0,.i a)::(kBD kA9)),kZ)) (Sub.norm [] [none] (by rw[hB];rfl) rfl (.keep (.same nI) (.keep .nil (.keep (.same nI) .nil))) (.fresh .nil)) ?_
  refine Uc (fun M s=> ∃(c:List Int) (b:Int),s=(ofG 15 ((0,.i a)::(kAH c (kAX b))),(kA c))/\qR a M c b=some j) ?_ (m:=N) ⟨_,_,rfl,g5⟩
  rintro M s ⟨c,b,rfl,g5⟩
  cases M with
  |zero=>simp only[qR]at g5;cases g5
  |succ M=>
   rw[qR]at g5
   refine sq ?_
   refine sh fol ((0,.i a)::(kAH c [(4,.i b),(7,.bool (decide (b<a)))])) ?_
   refine ihD g5 (fun k g5=>?_) (fun k g5=>?_)
   ·refine Goes.skip ?_
    refine sq (Goes.block ?_)
    obtain⟨d,f,g5⟩:=bnd g5
    refine gq fol [3] ((0,.i a)::(kBE d (kAX b))) (kAD b (kA d)) (ac (hs (.run [0,1] (vo ZT [22,22] (.gslice 0 c.length 1) (.slice 1 0 1 1 1)) (kJ c (kAu b [])) (.gslice 2 d.length 1) (kAD b (kA d)) true) (xn yo (E:=encI) rfl (qbR (E:=encI) (ys:=[b]) rfl rfl rfl rfl) (qbS (E:=encI) (l:=c) rfl rfl rfl f rfl))) az) ?_
    refine gh fol ((0,.i a)::(kBE d (kAX (w64 (b+1))))) ?_
    exact⟨M,(ofG 15 ((0,.i a)::(kAH d (kAX (w64 (b+1))))),(kA d)),Nat.lt_succ_self _,(Sub.norm [] [some 2] (by rw[hB];rfl) rfl (.keep (.same nI) (.keep (.gslice rfl) (.keep (.same nI) .nil))) (.ks .nil)),_,_,rfl,g5⟩
   refine Goes.exit ?_
   obtain rfl:=si g5
   exact⟨rfl,_,rfl,(Sub.keep [3] rfl rfl)⟩
 rintro x s' ⟨rfl,e,rfl,hsub⟩
 refine Goes.sub hsub ?_
 refine sh fol (kA7 e) ?_
 refine Goes.ret ?_
 obtain rfl:=si h
 exact(gh2 [.gslice 0 e.length 1] (xY.refl _ _))
def zX (l:List Int):Nat->Int->Option (Unit⊕Int)
 |0,_=>none
 |K+1,a=>
  if a<(l.length:Int)then
  (idx l a).bind fun b=>
  if(!decide (b=0))=true then
  some (.inr b)
  else
  zX l K (w64 (a+1))
  else
  some (.inl ())
def vV (N:Nat) (l:List Int):Option Int:=
 (zX l N 0).bind (fun
 |(.inl ())=>
 some 0
 |(.inr a)=>
 some a)
theorem qcA (N:Nat) (l:List Int) {res:Int} (h:vV N l=some res):qb ZT (.fn 10) [vl encI l] [] (.i res) []:=by
 unfold vV at h
 refine Ub Tryz.func10 rfl rfl (m:=19) rfl (rs:=[.tmp 2]) rfl (l:=(kH l [])) rfl ?_
 refine sh fol (kH l []) ?_
 refine sq ?_
 refine sh fol (kH l [(3,.i 0)]) ?_
 refine Goes.block ?_
 obtain⟨c,g2,h⟩:=bnd h
 refine Goes.imp (Q:=fun x s'=>(x= .exit 0/\(.inl ())=c/\Sub s' (ofG 19 [],[]))\/(x= .ret/\ ∃e,(.inr e)=c/\jh ZT [.tmp 2] (.i e) .ret s')) ?_ ?_
 ·refine Uc (fun M s=> ∃(b:Int),s=(ofG 19 (kH l (kAy b)),[])/\zX l M b=some c) ?_ (m:=N) ⟨_,rfl,g2⟩
  rintro M s ⟨b,rfl,g2⟩
  cases M with
  |zero=>simp only[zX]at g2;cases g2
  |succ M=>
   rw[zX]at g2
   refine sq ?_
   refine sh fol (kH l [(3,.i b),(7,.bool (decide (b<(l.length:Int))))]) ?_
   refine ihD g2 (fun f g2=>?_) (fun f g2=>?_)
   ·refine Goes.skip ?_
    refine sq (Goes.block ?_)
    obtain⟨d,a,g2⟩:=bnd g2
    refine sq (gr fol [2,3] (kH l ((3,.i b)::(kBL (!decide (d=0))))) (ac (iv yo encI a) (ac (lv 0 ce3 encI a rfl) az)) ?_)
    refine ihB g2 (fun g g2=>?_) (fun g g2=>?_)
    ·refine sq (gr fol [2,3] [(2,.i d)] (ac (iv yo encI a) (ac (lv 0 ce3 encI a rfl) az)) ?_)
     refine Goes.ret ?_
     obtain rfl:=si g2
     exact Or.inr (⟨rfl,_,rfl,(gw2 [.i d] (Ua tI))⟩)
    refine Goes.skip ?_
    refine gh fol (kH l (kAy (w64 (b+1)))) ?_
    exact⟨M,(ofG 19 (kH l (kAy (w64 (b+1)))),[]),Nat.lt_succ_self _,(Sub.refl _),_,rfl,g2⟩
   refine Goes.exit ?_
   obtain rfl:=si g2
   exact Or.inl (⟨rfl,rfl,(Sub.keep [] rfl rfl)⟩)
 rintro x s' (⟨rfl,rfl,hsub⟩|⟨rfl,j,rfl,hret⟩)
 ·try dsimp only at h
  refine Goes.sub hsub ?_
  refine sh fol [(2,.i 0)] ?_
  refine Goes.ret ?_
  obtain rfl:=si h
  exact(gw2 [.i 0] (Ua tI))
 try dsimp only at h
 obtain rfl:=si h
 exact hret
def vR (N:Nat) (n:Int) (a:List Int) (b:List Int):Option Int:=
 (zT N n a).bind fun c=>
 (zT N n b).bind fun d=>
 (jg N ([c,d]:List Int)).bind fun e=>
 some e
theorem qa7 (N:Nat) (n:Int) (a:List Int) (b:List Int) {res:Int} (h:vR N n a b=some res):qb ZT (.fn 80) (.i n::(kAi a b)) [] (.i res) []:=by
 unfold vR at h
 refine Ub Tryz.func80 rfl rfl (m:=15) rfl (rs:=[.tmp 6]) rfl (l:=(kB n a (kAZ b []))) rfl ?_
 refine sh fol (kB n a (kAZ b [])) ?_
 obtain⟨f,c,h⟩:=bnd h
 obtain⟨g,d,h⟩:=bnd h
 obtain⟨j,e,h⟩:=bnd h
 refine sq (gq fol [2,5,7] (kBQ j) (kV f g) (ac (cv (vU N n a c)) (ac (cv (vU N n b d)) (ac (hs (.call 60 [.slice 0 0 2 2 1] (kV f g) [0] [vl encI ([f,g]:List Int)] (.i j)) (qcJ (FzL.cons (Fz.lit rfl rfl (FzL.still (AllST.cons tI (AllST.cons tI AllST.nil)))) FzL.nil) (qaD N ([f,g]:List Int) e) tI rfl)) az))) ?_)
 refine Goes.ret ?_
 obtain rfl:=si h
 exact(gw2 [.i j] (Ua tI))
def zb (p:List Int) (i:Int):Option Bool:=
 (idx p i).bind fun a=>
 (idx p (w64 (i+1))).bind fun b=>
 some (decide (a>b))
theorem jQ (p:List Int) (i:Int) {res:Bool} (h:zb p i=some res):qb ZT (.fn 127) (kAT p i) [] (.bool res) []:=by
 unfold zb at h
 refine Ub Tryz.func127 rfl rfl (m:=15) rfl (rs:=[.tmp 4]) rfl (l:=(kH p (kAx i))) rfl ?_
 refine sh fol (kH p (kAx i)) ?_
 obtain⟨c,a,h⟩:=bnd h
 obtain⟨d,b,h⟩:=bnd h
 refine sq (gr fol [2,3,7,8] (kAa (decide (c>d))) (ac (iv xL encI a) (ac (lv 0 ce3 encI a rfl) (ac (iv xL encI b) (ac (lv 0 ce3 encI b rfl) az)))) ?_)
 refine Goes.ret ?_
 obtain rfl:=si h
 exact(gw2 [.bool (decide (c>d))] (Ua tB))
def qU (p:List Int) (i:Int):Option (List Int):=
 (qcg p).bind fun _=>
 (idx p (w64 (i+1))).bind fun b=>
 (idx p i).bind fun c=>
 (put p i b).bind fun a=>
 (idx a (w64 (i+1))).bind fun e=>
 (put a (w64 (i+1)) c).bind fun d=>
 some d
theorem jC (p:List Int) (i:Int) {res:List Int} (h:qU p i=some res):qb ZT (.fn 128) (kAT p i) [] (vl encI res) []:=by
 unfold qU at h
 refine Ub Tryz.func128 rfl rfl (m:=25) rfl (rs:=[.tmp 4]) rfl (l:=(kH p (kAx i))) rfl ?_
 refine sh fol (kH p (kAx i)) ?_
 obtain⟨_,f,h⟩:=bnd h
 refine sq (gq fol [1] ((1,.i i)::(kU p [])) (kA p) (ac (hs (.callH 126 [vl encI p] [] [] (.gslice 0 p.length 1) (kA p)) (xz [] [some 0] (qgf p f) .nil rfl rfl (.new rfl rfl (.same fa) rfl .nil) (rc (.same (qB encI _)) rn) (.gslice rfl) rfl)) az) ?_)
 obtain⟨j,b,h⟩:=bnd h
 obtain⟨k,a,h⟩:=bnd h
 obtain⟨n,c,h⟩:=bnd h
 obtain⟨o,g,h⟩:=bnd h
 obtain⟨e,d,h⟩:=bnd h
 refine sq (gq fol [8,9,12,13,14,15,16,17] (kU p []) (kA e) (ac (hs (.done (.opt (qc ZT 93 (.gslice 0 p.length 1) (.i (w64 (i+1))))) (.ptr 0 ((w64 (i+1):Int).toNat*1+0))) (jB xL b)) (ac (hs (.run [0] (zF ZT 3 (.ptr 0 ((w64 (i+1):Int).toNat*1+0))) (kA p) (.i j) (kA p) false) (xI ce3 (E:=encI) (l:=p) rfl rfl b (nl rfl) rfl)) (ac (hs (.done (.opt (qc ZT 93 (.gslice 0 p.length 1) (.i i))) (.ptr 0 ((i:Int).toNat*1+0))) (jB xL a)) (ac (hs (.run [0] (zF ZT 3 (.ptr 0 ((i:Int).toNat*1+0))) (kA p) (.i k) (kA p) false) (xI ce3 (E:=encI) (l:=p) rfl rfl a (nl rfl) rfl)) (ac (hs (.done (.opt (qc ZT 93 (.gslice 0 p.length 1) (.i i))) (.ptr 0 ((i:Int).toNat*1+0))) (jB xL a)) (ac (hs (.run [0] (jy ZT 3 (.ptr 0 ((i:Int).toNat*1+0)) (.i j)) (kA p) .undef (kA n) true) (xc (E:=encI) (l:=p) (y:=j) rfl (show _=some 1 by kernel_rfl) rfl a rfl rfl rfl rfl rfl c rfl)) (ac (hs (.done (.opt (qc ZT 93 (.gslice 0 p.length 1) (.i (w64 (i+1))))) (.ptr 0 ((w64 (i+1):Int).toNat*1+0))) (jB xL b)) (ac (hs (.run [0] (jy ZT 3 (.ptr 0 ((w64 (i+1):Int).toNat*1+0)) (.i k)) (kA n) .undef (kA e) true) (xc (E:=encI) (l:=n) (y:=k) rfl (show _=some 1 by kernel_rfl) rfl g rfl rfl rfl rfl rfl d rfl)) az)))))))) ?_)
 refine Goes.sub (show Sub (ofG 25 (kU p []),(kA e)) (ofG 25 (kU e []),(kA e))from(Sub.norm [] [some 0] rfl rfl (.keep (.gsliceE rfl ((ve c).trans (ve d))) .nil) (.ks .nil))) ?_
 refine sh fol (kAE e []) ?_
 refine Goes.ret ?_
 obtain rfl:=si h
 exact(gw2 [.gslice 0 e.length 1] (Uw (Fz.gs (E:=encI) rfl rfl (nl rfl))))
end Go.Av
