/-
  Walks of functions: what each computes, as a plain function.
-/
import Derived.Test.YtfffkfkghchbdaaGreatDoorAvJnL
noncomputable section
namespace Go.Av
open Go.Proofs Go.RowKit
abbrev ZT:=Tryz.prog
set_option linter.unusedSectionVars false
set_option linter.unusedVariables false
set_option linter.unusedSimpArgs false
set_option maxRecDepth 100000
theorem fol:Tryz.prog.follows .mixedOrders=true:=by kernel_rfl
structure qw where
 s:Int
 w:List Int
def qgu:Enc qw:=(encI.prod (encN (qa .u64))).comap fun x=>(x.s,x.w)
instance:SE qgu:=⟨nl rfl⟩
structure qQ where
 Num:qw
 Den:qw
def qkP:Enc qQ:=(qgu.prod qgu).comap fun x=>(x.Num,x.Den)
instance:SE qkP:=⟨nl rfl⟩
structure vD where
 neg:Bool
 w:List Int
def qhs:Enc vD:=(qfw.prod (qf encI)).comap fun x=>(x.neg,x.w)
instance:SE qhs:=⟨nl rfl⟩
abbrev kA {α3:Type} {α4:Type} (a:List Int) (b:List Int) (c:Int) (d:List α3) (e:List α4) (f:Int) (x:List (Nat×AV)):List (Nat×AV):=(8,vl encI a)::(9,vl encI b)::(10,.i c)::(11,.oslice 0 d.length 1)::(12,.slice 1 0 e.length e.length 1)::(13,.i f)::x
abbrev kB (a:List Int) (x:List Blk):List Blk:= .cells (a.flatMap encI.c)::x
abbrev kC {α0:Type} (a:List α0) (x:List (Nat×AV)):List (Nat×AV):=(5,.slice 0 0 a.length a.length 1)::x
abbrev kD (a:List Bool) (x:List Blk):List Blk:= .cells [.slice 2 0 a.length a.length 1]:: .cells (a.flatMap qfw.c)::x
abbrev kE {α0:Type} {α2:Type} (a:List α0) (b:Int) (c:List α2) (x:List (Nat×AV)):List (Nat×AV):=(11,.slice 0 0 a.length a.length 1)::(12,.i b)::(13,.slice 1 0 c.length c.length 1)::x
abbrev kF (x:List (Nat×AV)):List (Nat×AV):=(2,.ptr 0 0)::(3,.ptr 1 0)::(4,.ptr 2 0)::x
abbrev kG (a:List Int) (b:List Int) (x:List (Nat×AV)):List (Nat×AV):=(0,vl encI a)::(1,vl encI b)::x
abbrev kH (a:Int) (b:Int) (c:Int) (d:Int) (x:List (Nat×AV)):List (Nat×AV):=(2,.int .u64 a)::(8,.int .u64 b)::(9,.int .u64 c)::(10,.int .u64 d)::x
abbrev kI (a:Int) (b:Int) (c:Int) (d:Int) (e:Int) (f:Int) (g:Int) (h:Int) (i:Int) (j:Int) (k:Int):List Blk:=[.cells [.i a,.i b,.i c,.i d,.i e,.i f,.i g,.i h,.i i,.i j,.i k]]
abbrev kJ (a:Int) (b:Int) (c:Int) (x:List (Nat×AV)):List (Nat×AV):=(21,.i a)::(23,.ptr 0 0)::(24,.i b)::(137,.i c)::(138,.i b)::x
abbrev kK (a:List Int) (b:Int) (x:List (Nat×AV)):List (Nat×AV):=(0,vl encI a)::(2,.i b)::x
abbrev kL {α1:Type} {α4:Type} (a:Int) (b:List α1) (c:List Int) (d:Int) (e:List α4) (f:Int) (g:Int) (h:Int) (x:List (Nat×AV)):List (Nat×AV):=(1,.i a)::(7,.slice 0 0 b.length b.length 1)::(9,vl encI c)::(10,.i d)::(22,.gslice 1 e.length 1)::(23,.i f)::(24,.i g)::(38,vl encI c)::(39,.i h)::x
abbrev kM (x:List Blk):List Blk:= .cells [.i 0,.nilslice,.i 0,.nilslice]::x
abbrev kN (a:Int) (b:Int) (c:Int) (x:List (Nat×AV)):List (Nat×AV):=(14,.int .u64 a)::(15,.int .u64 b)::(16,.int .u64 c)::x
abbrev kO (a:Int) (b:Int) (x:List (Nat×AV)):List (Nat×AV):=(5,.i a)::(6,.int .u64 b)::x
abbrev kP {α0:Type} (a:List α0) (x:List (Nat×AV)):List (Nat×AV):=(6,.slice 0 0 a.length a.length 1)::x
abbrev kQ (x:List Blk):List Blk:= .cells [.bool false,.nilslice]::x
abbrev kR (a:Int) (b:Int) (c:Int):List (Nat×AV):=[(21,.i a),(23,.ptr 0 0),(137,.i b),(138,.i c)]
abbrev kS (a:List Int) (x:List (Nat×AV)):List (Nat×AV):=(0,vl encI a)::x
abbrev kT (a:Int) (b:Int) (x:List (Nat×AV)):List (Nat×AV):=(0,.int .u64 a)::(1,.int .u64 b)::x
abbrev kU (a:Int) (b:Int) (x:List (Nat×AV)):List (Nat×AV):=(11,.int .u64 a)::(12,.int .u64 b)::x
abbrev kV (a:Int) (b:List Int) (x:List Blk):List Blk:= .cells [.i a]:: .cells [vl encI b]::x
abbrev kW (a:Int) (b:Int) (x:List (Nat×AV)):List (Nat×AV):=(7,.int .u64 a)::(8,.int .u64 b)::x
abbrev kX {α0:Type} (a:List α0) (x:List (Nat×AV)):List (Nat×AV):=(3,.gslice 0 a.length 1)::(4,.ptr 1 0)::x
abbrev kY (a:Int) (b:Int) (x:List (Nat×AV)):List (Nat×AV):=(21,.i a)::(22,.i b)::x
abbrev kZ {α0:Type} (a:List α0) (x:List (Nat×AV)):List (Nat×AV):=(6,.gslice 0 a.length 1)::x
abbrev kAA (a:Int) (b:Int) (x:List (Nat×AV)):List (Nat×AV):=(4,.ptr 0 0)::(5,.i a)::(6,.i b)::x
abbrev kAB (a:List Str) (x:List Blk):List Blk:= .cells (a.flatMap encS.c)::x
abbrev kAC (a:Str) (b:Bool) (x:List (Nat×AV)):List (Nat×AV):=(0,.str a)::(2,.ptr 0 0)::(3,.bool b)::x
abbrev kAD {α1:Type} {α2:Type} (a:Int) (b:List α1) (c:List α2) (d:Int) (x:List (Nat×AV)):List (Nat×AV):=(1,.i a)::(7,.slice 0 0 b.length b.length 1)::(22,.gslice 1 c.length 1)::(23,.i d)::x
abbrev kAE (a:Bool) (b:List Int) (x:List Blk):List Blk:= .cells [.bool a,vl encI b]::x
abbrev kAF (a:Int) (x:List (Nat×AV)):List (Nat×AV):=(6,.int .u64 a)::x
abbrev kAG (a:Int) (b:Int):List (Nat×AV):=[(13,.i a),(14,.i b)]
abbrev kAH {α0:Type} (a:List α0) (b:Bool) (x:List (Nat×AV)):List (Nat×AV):=(2,.ptr 0 0)::(3,.gslice 1 a.length 1)::(4,.bool b)::x
abbrev kAI {α0:Type} (a:List α0) (b:List Bool) (x:List Blk):List Blk:= .cells [.slice 2 0 a.length a.length 1]:: .cells (b.flatMap qfw.c)::x
abbrev kAJ (a:Int) (b:Int) (x:List (Nat×AV)):List (Nat×AV):=(11,.int .u64 a)::(13,.int .u64 b)::x
abbrev kAK (a:Option (List Int)):List Blk:=[.cells [hsl 4 1 a],.cells ((hof a).flatMap encI.c)]
abbrev kAL (a:Int) (b:Int) (x:List (Nat×AV)):List (Nat×AV):=(17,.int .u64 a)::(18,.int .u64 b)::x
abbrev kAM (x:List (Nat×AV)):List (Nat×AV):=(3,.ptr 1 0)::(4,.ptr 2 0)::(5,.ptr 3 0)::x
abbrev kAN {α3:Type} (a:List Int) (b:List Int) (c:Int) (d:List α3) (x:List (Nat×AV)):List (Nat×AV):=(8,vl encI a)::(9,vl encI b)::(10,.i c)::(11,.oslice 0 d.length 1)::x
abbrev kAO (a:Int) (x:List (Nat×AV)):List (Nat×AV):=(7,.int .u64 a)::x
abbrev kAP (a:List Int) (b:Int) (c:Int) (x:List (Nat×AV)):List (Nat×AV):=(10,vl encI a)::(11,.i b)::(12,.i c)::x
abbrev kAQ (a:Int) (b:Int) (c:Int) (x:List (Nat×AV)):List (Nat×AV):=(14,.i a)::(15,.i b)::(16,.i c)::x
abbrev kAR {α0:Type} (a:List α0) (b:Int) (x:List (Nat×AV)):List (Nat×AV):=(5,.ptr 0 0)::(16,.gslice 1 a.length 1)::(17,.i b)::x
abbrev kAS (a:List Int):List Blk:=[.frozen (a.flatMap encI.c)]
abbrev kAT (a:Int) (x:List (Nat×AV)):List (Nat×AV):=(1,.ptr 4 0)::(2,.ptr 5 0)::(4,.i a)::x
abbrev kAU (a:Int) (b:Int) (c:Int) (d:Int) (x:List (Nat×AV)):List (Nat×AV):=(2,.i a)::(7,.i b)::(9,.i c)::(10,.i d)::x
abbrev kAV (x:List (Nat×AV)):List (Nat×AV):=(4,.ptr 0 0)::x
abbrev kAW (x:List (Nat×AV)):List (Nat×AV):=(2,.ptr 0 0)::x
abbrev kAX (x:List (Nat×AV)):List (Nat×AV):=(1,.ptr 0 0)::(2,.ptr 1 0)::x
abbrev kAY (a:Str) (b:Int) (x:List (Nat×AV)):List (Nat×AV):=(0,.str a)::(3,.i b)::x
abbrev kAZ (a:Int) (b:Int):List (Nat×AV):=[(104,.i a),(105,.i b)]
abbrev kAa (a:Int) (b:Int):List (Nat×AV):=[(28,.i a),(29,.i b)]
abbrev kAb (a:List Int) (b:Int) (c:Int):List (Nat×AV):=[(16,vl encI a),(17,.i b),(18,.i c)]
abbrev kAc (x:List AV):List AV:= .i 0:: .i 0:: .i 0:: .i 0:: .i 0:: .i 0::x
abbrev kAd (x:List (Nat×AV)):List (Nat×AV):=(4,.ptr 2 0)::x
abbrev kAe (a:Int) (b:Int) (c:Int) (x:List (Nat×AV)):List (Nat×AV):=(17,.int .u64 a)::(156,.i b)::(157,.i c)::x
abbrev kAf (a:Int) (x:List Blk):List Blk:= .dead:: .cells [.i a]::x
abbrev kAg (a:Int) (b:Int):List (Nat×AV):=[(96,.i a),(97,.i b)]
abbrev kAh (a:Int):List Blk:=[.cells [.i a,.nilslice]]
abbrev kAi (x:List Blk):List Blk:= .cells [.nilslice]::x
abbrev kAj (a:Int):List (Nat×AV):=[(6,.ptr 3 0),(7,.i a)]
abbrev kAk (a:Int) (b:Int) (x:List (Nat×AV)):List (Nat×AV):=(14,.int .u64 a)::(15,.int .u64 b)::x
abbrev kAl (a:Int) (b:Int) (x:List (Nat×AV)):List (Nat×AV):=(6,.i a)::(7,.i b)::x
abbrev kAm:List Blk:=[.cells (([]:List Int).flatMap encI.c)]
abbrev kAn (a:Int) (b:Int) (x:List (Nat×AV)):List (Nat×AV):=(12,.i a)::(13,.i b)::x
abbrev kAo (a:Str) (b:Int) (x:List (Nat×AV)):List (Nat×AV):=(3,.str a)::(4,.i b)::x
abbrev kAp (a:Int) (b:Int) (x:List (Nat×AV)):List (Nat×AV):=(0,.int .u64 a)::(2,.i b)::x
abbrev kAq {α0:Type} (a:List α0) (x:List (Nat×AV)):List (Nat×AV):=(7,.slice 0 0 a.length a.length 1)::x
abbrev kAr (a:Str) (b:Str):List (Nat×AV):=[(0,.str a),(1,.str b)]
abbrev kAs (a:List Int) (b:List Int):List AV:=[vl encI a,vl encI b]
abbrev kAt (a:List Int) (b:List Int):List (Nat×AV):=[(4,vl encI a),(5,vl encI b)]
abbrev kAu:List (Nat×AV):=[(1,.ptr 0 0)]
abbrev kAv {α0:Type} (a:List α0) (x:List Blk):List Blk:= .cells [.oslice 7 a.length 1]::x
abbrev kAw (a:Str):List (Nat×AV):=[(0,.str a)]
abbrev kAx (a:List Int) (b:Int) (c:Int) (x:List (Nat×AV)):List (Nat×AV):=(25,vl encI a)::(26,.i b)::(27,.i c)::x
abbrev kAy (a:Bool) (b:List Int):List AV:=[.bool a,vl encI b]
abbrev kAz:List (Nat×AV):=[(6,.bool false)]
abbrev kA0 (a:Int):List (Nat×AV):=[(5,.i a)]
abbrev kA1 (x:List (Nat×AV)):List (Nat×AV):=(10,.ptr 1 0)::x
abbrev kA2 (a:Int):List Blk:=[.cells [.i a]]
abbrev kA3 (a:Int) (b:Int):List AV:=[.int .u64 a,.int .u64 b]
abbrev kA4 (x:List (Nat×AV)):List (Nat×AV):=(8,.int .u64 0)::x
abbrev nz1 (x:qw):List AV:=ni1 x.s x.w
abbrev nq1 (x:qQ):List AV:=ni2 x.Num.s x.Num.w x.Den.s x.Den.w
theorem zy:SlT ZT 40 3 1 8:=⟨by kernel_rfl,by kernel_rfl,by kernel_rfl,by kernel_rfl⟩
theorem ce3:CeT ZT 3:=⟨by kernel_rfl,by kernel_rfl⟩
theorem qmn:MpT ZT 193 3 4 (.int .i64) (.bool false):=⟨by kernel_rfl,by kernel_rfl,by kernel_rfl⟩
theorem yl:Tryz.prog.underlying 126=some (.slice 252):=by kernel_rfl
theorem qD:SlT ZT 126 252 1 8:=⟨by kernel_rfl,by kernel_rfl,by kernel_rfl,by kernel_rfl⟩
theorem zH:CeT ZT 252:=⟨by kernel_rfl,by kernel_rfl⟩
theorem st9:Tryz.prog.underlying 9=some .string:=by kernel_rfl
theorem qnw:SlT ZT 291 9 1 16:=⟨by kernel_rfl,by kernel_rfl,by kernel_rfl,by kernel_rfl⟩
theorem ce9:CeT ZT 9:=⟨by kernel_rfl,by kernel_rfl⟩
theorem qmD:SlT ZT 194 4 1 1:=⟨by kernel_rfl,by kernel_rfl,by kernel_rfl,by kernel_rfl⟩
theorem ce4:CeT ZT 4:=⟨by kernel_rfl,by kernel_rfl⟩
noncomputable abbrev qp:Code:=(Tryz.f65.body.getD .skip).x2.x2.x2.x1.x2.x1.x1.x2.x2.x1.x1.x2.x2.x2.x1.x2.x1
theorem vW:SlT ZT 61 40 1 24:=⟨by kernel_rfl,by kernel_rfl,by kernel_rfl,by kernel_rfl⟩
theorem yn:CeT ZT 40:=⟨by kernel_rfl,by kernel_rfl⟩
theorem sl180:SlT ZT 180 35 1 8:=⟨by kernel_rfl,by kernel_rfl,by kernel_rfl,by kernel_rfl⟩
theorem ce35:CeT ZT 35:=⟨by kernel_rfl,by kernel_rfl⟩
theorem st56:Tryz.prog.underlying 56=some .string:=by kernel_rfl
theorem eqr67:EqAr ZT 67 3 11 .i64:=⟨by kernel_rfl,by kernel_rfl,by kernel_rfl,by kernel_rfl,by kernel_rfl⟩
def qP (a:List Int) (b:List Int):Nat->Int->Option (Unit⊕Bool)
 |0,_=>none
 |K+1,c=>
  if c<(a.length:Int)then
  (idx a c).bind fun d=>
  (idx b c).bind fun e=>
  if(!decide (d=e))=true then
  some (.inr false)
  else
  qP a b K (w64 (c+1))
  else
  some (.inl ())
def jJ (N:Nat) (a:List Int) (b:List Int):Option Bool:=
 if(!decide ((a.length:Int)=(b.length:Int)))=true then
 some false
 else
 (qP a b N 0).bind (fun
 |(.inl ())=>
 some true
 |(.inr c)=>
 some c)
theorem qaa (N:Nat) (a:List Int) (b:List Int) {res:Bool} (h:jJ N a b=some res):qc ZT (.fn 19) (kAs a b) [] (.bool res) []:=by
 unfold jJ at h
 refine Ub Tryz.func19 rfl rfl (m:=26) rfl (rs:=[.tmp 4]) rfl (l:=(kG a b [])) rfl ?_
 refine sh fol (kG a b []) ?_
 refine sq ?_
 refine sh fol (kG a b [(10,.bool (!decide ((a.length:Int)=(b.length:Int))))]) ?_
 refine ihB h (fun j h=>?_) (fun j h=>?_)
 ·refine sh fol [(4,.bool false)] ?_
  refine Goes.ret ?_
  obtain rfl:=si h
  exact(gw2 [.bool false] (Ua tB))
 refine Goes.skip ?_
 refine sq ?_
 refine sh fol (kG a b [(5,.i 0)]) ?_
 refine Goes.block ?_
 obtain⟨f,g3,h⟩:=bnd h
 refine Goes.imp (Q:=fun x s'=>(x= .exit 0/\(.inl ())=f/\Sub s' (ofG 26 [],[]))\/(x= .ret/\ ∃g,(.inr g)=f/\zU ZT [.tmp 4] (.bool g) .ret s')) ?_ ?_
 ·refine Uc (fun M s=> ∃(c:Int),s=(ofG 26 (kG a b (kA0 c)),[])/\qP a b M c=some f) ?_ (m:=N) ⟨_,rfl,g3⟩
  rintro M s ⟨c,rfl,g3⟩
  cases M with
  |zero=>simp only[qP]at g3;cases g3
  |succ M=>
   rw[qP]at g3
   refine sq ?_
   refine sh fol (kG a b [(5,.i c),(14,.bool (decide (c<(a.length:Int))))]) ?_
   refine ihD g3 (fun k g3=>?_) (fun k g3=>?_)
   ·refine Goes.skip ?_
    refine sq (Goes.block ?_)
    obtain⟨n,d,g3⟩:=bnd g3
    obtain⟨o,e,g3⟩:=bnd g3
    refine sq (gr fol [2,3,6,7] (kG a b [(5,.i c),(25,.bool (!decide (n=o)))]) (ac (iv zy encI d) (ac (lv 0 ce3 encI d rfl) (ac (iv zy encI e) (ac (lv 0 ce3 encI e rfl) az)))) ?_)
    refine ihB g3 (fun p g3=>?_) (fun p g3=>?_)
    ·refine sh fol [(4,.bool false)] ?_
     refine Goes.ret ?_
     obtain rfl:=si g3
     exact Or.inr (⟨rfl,_,rfl,(gw2 [.bool false] (Ua tB))⟩)
    refine Goes.skip ?_
    refine gh fol (kG a b (kA0 (w64 (c+1)))) ?_
    exact⟨M,(ofG 26 (kG a b (kA0 (w64 (c+1)))),[]),Nat.lt_succ_self _,(Sub.refl _),_,rfl,g3⟩
   refine Goes.exit ?_
   obtain rfl:=si g3
   exact Or.inl (⟨rfl,rfl,(Sub.keep [] rfl rfl)⟩)
 rintro x s' (⟨rfl,rfl,hsub⟩|⟨rfl,q,rfl,hret⟩)
 ·try dsimp only at h
  refine Goes.sub hsub ?_
  refine sh fol [(4,.bool true)] ?_
  refine Goes.ret ?_
  obtain rfl:=si h
  exact(gw2 [.bool true] (Ua tB))
 try dsimp only at h
 obtain rfl:=si h
 exact hret
def qU (p:List Int) (b:Int):Nat->Int->Option (Unit⊕Int)
 |0,_=>none
 |K+1,a=>
  if a<b then
  (idx p a).bind fun c=>
  (idx p b).bind fun d=>
  if c=d then
  some (.inr 15)
  else
  qU p b K (w64 (a+1))
  else
  some (.inl ())
def qX (N:Nat) (p:List Int):Nat->Int->Option (Unit⊕Int)
 |0,_=>none
 |K+1,a=>
  if a<(p.length:Int)then
  ((idx p a).bind fun c=>
  if c<0 then
  some true
  else
  some (decide (c>=(p.length:Int))):Option Bool).bind fun d=>
  if d=true then
  some (.inr 15)
  else
  (qU p a N 0).bind (fun
  |(.inl ())=>
  qX N p K (w64 (a+1))
  |(.inr b)=>
  some (.inr b))
  else
  some (.inl ())
def zM (N:Nat) (p:List Int):Option Int:=
 if(p.length:Int)>256 then
 some 5
 else
 (qX N p N 0).bind (fun
 |(.inl ())=>
 some 0
 |(.inr a)=>
 some a)
theorem xx (N:Nat) (p:List Int) {res:Int} (h:zM N p=some res):qc ZT (.fn 20) [vl encI p] [] (.i res) []:=by
 unfold zM at h
 refine Ub Tryz.func20 rfl rfl (m:=42) rfl (rs:=[.tmp 2]) rfl (l:=(kS p [])) rfl ?_
 refine sh fol (kS p []) ?_
 refine sq ?_
 refine sh fol (kS p [(7,.bool (decide ((p.length:Int)>256)))]) ?_
 refine ihD h (fun w h=>?_) (fun w h=>?_)
 ·refine sh fol [(2,.i 5)] ?_
  refine Goes.ret ?_
  obtain rfl:=si h
  exact(gw2 [.i 5] (Ua tI))
 refine Goes.skip ?_
 refine sq ?_
 refine sh fol (kS p [(3,.i 0)]) ?_
 refine Goes.block ?_
 obtain⟨k,g3,h⟩:=bnd h
 refine Goes.imp (Q:=fun x s'=>(x= .exit 0/\(.inl ())=k/\Sub s' (ofG 42 [],[]))\/(x= .ret/\ ∃v,(.inr v)=k/\zU ZT [.tmp 2] (.i v) .ret s')) ?_ ?_
 ·refine Uc (fun M s=> ∃(c:Int),s=(ofG 42 (kS p [(3,.i c)]),[])/\qX N p M c=some k) ?_ (m:=N) ⟨_,rfl,g3⟩
  rintro M s ⟨c,rfl,g3⟩
  cases M with
  |zero=>simp only[qX]at g3;cases g3
  |succ M=>
   rw[qX]at g3
   refine sq ?_
   refine sh fol (kS p [(3,.i c),(11,.bool (decide (c<(p.length:Int))))]) ?_
   refine ihD g3 (fun y g3=>?_) (fun y g3=>?_)
   ·refine Goes.skip ?_
    refine sq (Goes.block ?_)
    refine sq ?_
    refine sq ?_
    obtain⟨z,a,g3⟩:=bnd g3
    refine Goes.cut (s':=(ofG 42 (kS p [(3,.i c),(27,.bool z)]),[])) ?_ ?_
    ·obtain⟨A,b,a⟩:=bnd a
     rcases wyD a with⟨n,a⟩|⟨n,a⟩
     ·obtain rfl:=si a
      exact tr fol [2,3,5] (kS p [(3,.i c),(27,.bool true)]) (ac (iv zy encI b) (ac (lv 0 ce3 encI b rfl) (ac (gw n) az)))
     obtain rfl:=si a
     exact tr fol [2,3,5,8,9] (kS p [(3,.i c),(27,.bool (decide (A>=(p.length:Int))))]) (ac (iv zy encI b) (ac (lv 0 ce3 encI b rfl) (ac (gw n) (ac (iv zy encI b) (ac (lv 0 ce3 encI b rfl) az)))))
    refine ihB g3 (fun o g3=>?_) (fun o g3=>?_)
    ·refine sh fol [(2,.i 15)] ?_
     refine Goes.ret ?_
     obtain rfl:=si g3
     exact Or.inr (⟨rfl,_,rfl,(gw2 [.i 15] (Ua tI))⟩)
    refine Goes.skip ?_
    refine sh fol (kS p [(3,.i c),(4,.i 0)]) ?_
    refine Goes.block ?_
    obtain⟨g,g12,g3⟩:=bnd g3
    refine Goes.imp (Q:=fun x s'=>(x= .exit 2/\(.inl ())=g/\Sub s' (ofG 42 (kS p [(3,.i c)]),[]))\/(x= .ret/\ ∃j,(.inr j)=g/\zU ZT [.tmp 2] (.i j) .ret s')) ?_ ?_
    ·refine Uc (fun M s=> ∃(d:Int),s=(ofG 42 (kS p [(3,.i c),(4,.i d)]),[])/\qU p c M d=some g) ?_ (m:=N) ⟨_,rfl,g12⟩
     rintro M s ⟨d,rfl,g12⟩
     cases M with
     |zero=>simp only[qU]at g12;cases g12
     |succ M=>
      rw[qU]at g12
      refine sq ?_
      refine sh fol (kS p [(3,.i c),(4,.i d),(30,.bool (decide (d<c)))]) ?_
      refine ihD g12 (fun q g12=>?_) (fun q g12=>?_)
      ·refine Goes.skip ?_
       refine sq (Goes.block ?_)
       obtain⟨r,e,g12⟩:=bnd g12
       obtain⟨t,f,g12⟩:=bnd g12
       refine sq (gr fol [2,3,6,7] (kS p [(3,.i c),(4,.i d),(41,.bool (decide (r=t)))]) (ac (iv zy encI e) (ac (lv 0 ce3 encI e rfl) (ac (iv zy encI f) (ac (lv 0 ce3 encI f rfl) az)))) ?_)
       refine ihD g12 (fun u g12=>?_) (fun u g12=>?_)
       ·refine sh fol [(2,.i 15)] ?_
        refine Goes.ret ?_
        obtain rfl:=si g12
        exact Or.inr (⟨rfl,_,rfl,(gw2 [.i 15] (Ua tI))⟩)
       refine Goes.skip ?_
       refine gh fol (kS p [(3,.i c),(4,.i (w64 (d+1)))]) ?_
       exact⟨M,(ofG 42 (kS p [(3,.i c),(4,.i (w64 (d+1)))]),[]),Nat.lt_succ_self _,(Sub.refl _),_,rfl,g12⟩
      refine Goes.exit ?_
      obtain rfl:=si g12
      exact Or.inl (⟨rfl,rfl,(Sub.keep [0,3] rfl rfl)⟩)
    rintro x s' (⟨rfl,rfl,hsub⟩|⟨rfl,B,rfl,hret⟩)
    ·try dsimp only at g3
     refine Goes.sub hsub ?_
     refine gh fol (kS p [(3,.i (w64 (c+1)))]) ?_
     exact⟨M,(ofG 42 (kS p [(3,.i (w64 (c+1)))]),[]),Nat.lt_succ_self _,(Sub.refl _),_,rfl,g3⟩
    try dsimp only at g3
    obtain rfl:=si g3
    exact Or.inr (⟨rfl,_,rfl,hret⟩)
   refine Goes.exit ?_
   obtain rfl:=si g3
   exact Or.inl (⟨rfl,rfl,(Sub.keep [] rfl rfl)⟩)
 rintro x s' (⟨rfl,rfl,hsub⟩|⟨rfl,C,rfl,hret⟩)
 ·try dsimp only at h
  refine Goes.sub hsub ?_
  refine sh fol [(2,.i 0)] ?_
  refine Goes.ret ?_
  obtain rfl:=si h
  exact(gw2 [.i 0] (Ua tI))
 try dsimp only at h
 obtain rfl:=si h
 exact hret
def zC (p:List Int):Nat->(List (Int×Bool))->Int->Option (Unit⊕Int)
 |0,_,_=>none
 |K+1,e,b=>
  if b<(p.length:Int)then
  (idx p b).bind fun a=>
  (if a<0 then
  some true
  else
  if a>=(p.length:Int)then
  some true
  else
  some ((qbd e a).getD false):Option Bool).bind fun c=>
  if c=true then
  some (.inr 15)
  else
  (some (qcT e a true)).bind fun d=>
  zC p K d (w64 (b+1))
  else
  some (.inl ())
def qO (N:Nat) (p:List Int):Option Int:=
 if(p.length:Int)>256 then
 some 5
 else
 (zC p N ([]:List (Int×Bool)) 0).bind (fun
 |(.inl ())=>
 some 0
 |(.inr a)=>
 some a)
theorem zZ (N:Nat) (p:List Int) {res:Int} (h:qO N p=some res):qc ZT (.fn 63) [vl encI p] [] (.i res) []:=by
 unfold qO at h
 refine Ub Tryz.func63 rfl rfl (m:=32) rfl (rs:=[.tmp 2]) rfl (l:=(kS p [])) rfl ?_
 refine sh fol (kS p []) ?_
 refine sq ?_
 refine sh fol (kS p [(8,.bool (decide ((p.length:Int)>256)))]) ?_
 refine ihD h (fun u h=>?_) (fun u h=>?_)
 ·refine sh fol [(2,.i 5)] ?_
  refine Goes.ret ?_
  obtain rfl:=si h
  exact(gw2 [.i 5] (Ua tI))
 refine Goes.skip ?_
 refine sg fol (kS p [(3,.map 0)]) [mpB (AV.int .i64) fO ([]:List (Int×Bool))] ?_
 refine sq ?_
 refine sh fol (kS p [(3,.map 0),(10,vl encI p),(11,.i (p.length:Int)),(12,.i 0)]) ?_
 refine Goes.block ?_
 obtain⟨n,g4,h⟩:=bnd h
 refine Goes.imp (Q:=fun x s'=>(x= .exit 0/\(.inl ())=n/\Sub s' (ofG 32 [],[]))\/(x= .ret/\ ∃t,(.inr t)=n/\zU ZT [.tmp 2] (.i t) .ret s')) ?_ ?_
 ·refine Uc (fun M s=> ∃(d:List (Int×Bool)) (b:Int),s=(ofG 32 (kS p ((3,.map 0)::(kAP p (p.length:Int) b []))),[mpB (AV.int .i64) fO d])/\zC p M d b=some n) ?_ (m:=N) ⟨_,_,rfl,g4⟩
  rintro M s ⟨d,b,rfl,g4⟩
  cases M with
  |zero=>simp only[zC]at g4;cases g4
  |succ M=>
   rw[zC]at g4
   refine sh fol (kS p ((3,.map 0)::(kAP p (p.length:Int) b [(13,.bool (decide (b<(p.length:Int))))]))) ?_
   refine sq ?_
   refine ihD g4 (fun v g4=>?_) (fun v g4=>?_)
   ·refine Goes.skip ?_
    refine sq (Goes.block ?_)
    obtain⟨c,e,g4⟩:=bnd g4
    refine sq (gr fol [0,1] (kS p ((3,.map 0)::(5,.i c)::(kAP p (p.length:Int) b []))) (ac (iv zy encI e) (ac (lv 0 ce3 encI e rfl) az)) ?_)
    refine sq ?_
    refine sq ?_
    obtain⟨o,a,g4⟩:=bnd g4
    refine Goes.cut (s':=(ofG 32 (kS p ((3,.map 0)::(5,.i c)::(kAP p (p.length:Int) b [(28,.bool o)]))),[mpB (AV.int .i64) fO d])) ?_ ?_
    ·rcases wyD a with⟨k,a⟩|⟨k,a⟩
     ·obtain rfl:=si a
      exact tr fol [2] (kS p ((3,.map 0)::(5,.i c)::(kAP p (p.length:Int) b [(28,.bool true)]))) (ac (gw k) az)
     rcases wyD a with⟨q,a⟩|⟨q,a⟩
     ·obtain rfl:=si a
      exact tr fol [2,8] (kS p ((3,.map 0)::(5,.i c)::(kAP p (p.length:Int) b [(28,.bool true)]))) (ac (gw k) (ac (gw q) az))
     obtain rfl:=si a
     exact tr fol [2,8,11] (kS p ((3,.map 0)::(5,.i c)::(kAP p (p.length:Int) b [(28,.bool ((qbd d c).getD false))]))) (ac (gw k) (ac (gw q) (ac (hs (.run [0] (qaH ZT 193 (.map 0) (.i c) false) [mpB (AV.int .i64) fO d] (.bool ((qbd d c).getD false)) [mpB (AV.int .i64) fO d] false) (qlu (z:=false) (f:=fO) qmn keyI rfl c)) az)))
    refine ihB g4 (fun r g4=>?_) (fun r g4=>?_)
    ·refine sh fol [(2,.i 15)] ?_
     refine Goes.ret ?_
     obtain rfl:=si g4
     exact Or.inr (⟨rfl,_,rfl,(gw2 [.i 15] (Ua tI))⟩)
    refine Goes.skip ?_
    obtain⟨g,j,g4⟩:=bnd g4
    refine gq fol [2] (kS p ((3,.map 0)::(kAP p (p.length:Int) b []))) [mpB (AV.int .i64) fO g] (ac (hs (.run [0] (xA ZT 193 (.map 0) (.i c) (.bool true)) [mpB (AV.int .i64) fO d] .undef [mpB (AV.int .i64) fO g] true) (upm qmn keyI fO rfl c true j rfl)) az) ?_
    refine gh fol (kS p ((3,.map 0)::(kAP p (p.length:Int) (w64 (b+1)) []))) ?_
    exact⟨M,(ofG 32 (kS p ((3,.map 0)::(kAP p (p.length:Int) (w64 (b+1)) []))),[mpB (AV.int .i64) fO g]),Nat.lt_succ_self _,(Sub.refl _),_,_,rfl,g4⟩
   refine Goes.exit ?_
   obtain rfl:=si g4
   exact Or.inl (⟨rfl,rfl,(Sub.norm [] [] rfl rfl .nil .nil)⟩)
 rintro x s' (⟨rfl,rfl,hsub⟩|⟨rfl,w,rfl,hret⟩)
 ·try dsimp only at h
  refine Goes.sub hsub ?_
  refine sh fol [(2,.i 0)] ?_
  refine Goes.ret ?_
  obtain rfl:=si h
  exact(gw2 [.i 0] (Ua tI))
 try dsimp only at h
 obtain rfl:=si h
 exact hret
def qde (n:Int):Option qw:=
 some (⟨n,[]⟩:qw)
theorem qed (n:Int) {res:qw} (h:qde n=some res):qc ZT (.fn 126) [.i n] [] (.agg (nz1 res)) []:=by
 unfold qde at h
 refine Ub Tryz.func126 rfl rfl (m:=5) rfl (rs:=[.cell 2 128]) rfl (l:=[(0,.i n)]) rfl ?_
 refine sg fol ((0,.i n)::(kAW [])) [bZ] ?_
 refine sg fol (kAW []) (kAh n) ?_
 refine Goes.ret ?_
 obtain rfl:=si h
 exact(gw2 [.agg [.i n,.nilslice]] (FzW.agg (qg.cons (Ua tI) (qg.cons (FzW.nv0 (E:=(qa .u64))) qg.nil))))
def qaR (n:qw):Option qQ:=
 (qde 1).bind fun a=>
 some (⟨n,a⟩:qQ)
theorem qdD (n:qw) {res:qQ} (h:qaR n=some res):qc ZT (.fn 66) [.agg (nz1 n)] [] (.agg (nq1 res)) []:=by
 unfold qaR at h
 refine Ub Tryz.func66 rfl rfl (m:=6) rfl (rs:=[.cell 2 130]) rfl (l:=[(0,.agg (nz1 n))]) rfl ?_
 refine sg fol (kAX []) (.cells (nz1 n)::(kM [])) ?_
 obtain⟨a,b,h⟩:=bnd h
 refine sq (gq fol [1,3] [(2,.ptr 1 0)] [.cells (nz1 n),.cells (ni2 n.s n.w a.s a.w)] (ac (cv (qed 1 b)) (ac (hs (.run [1] (qx ZT 130 (.ptr 1 0) (.agg (ni2 n.s n.w a.s a.w))) (.cells (nz1 n)::(kM [])) .undef [.cells (nz1 n),.cells (ni2 n.s n.w a.s a.w)] true) (zW (n:=4) (by kernel_rfl) rfl rfl rfl rfl (cac rfl (cac nvc (cac rfl (cac nvc can)))) rfl)) az)) ?_)
 refine Goes.ret ?_
 obtain rfl:=si h
 exact(gw2 [.agg (ni2 n.s n.w a.s a.w)] (FzW.agg (qg.cons (Ua tI) (qg.cons (Ua (qF (qa .u64) _ (nl rfl))) (qg.cons (Ua tI) (qg.cons (Ua (qF (qa .u64) _ (nl rfl))) qg.nil))))))
def qgc (n:Int):Option qQ:=
 (qde n).bind fun a=>
 (qaR a).bind fun b=>
 some b
theorem qhj (n:Int) {res:qQ} (h:qgc n=some res):qc ZT (.fn 64) [.i n] [] (.agg (nq1 res)) []:=by
 unfold qgc at h
 refine Ub Tryz.func64 rfl rfl (m:=6) rfl (rs:=[.cell 2 130]) rfl (l:=[(0,.i n)]) rfl ?_
 refine sg fol ((0,.i n)::(kAW [])) (kM []) ?_
 obtain⟨d,a,h⟩:=bnd h
 obtain⟨c,b,h⟩:=bnd h
 refine sq (gq fol [1,2,3] (kAW []) [.cells (nq1 c)] (ac (cv (qed n a)) (ac (cv (qdD d b)) (ac (hs (.run [0] (qx ZT 130 (.ptr 0 0) (.agg (nq1 c))) (kM []) .undef [.cells (nq1 c)] true) (zW (n:=4) (by kernel_rfl) rfl rfl rfl rfl (cac rfl (cac nvc (cac rfl (cac nvc can)))) rfl)) az))) ?_)
 refine Goes.ret ?_
 obtain rfl:=si h
 exact(gw2 [.agg (nq1 c)] (FzW.agg (qg.cons (Ua tI) (qg.cons (Ua (qF (qa .u64) _ (nl rfl))) (qg.cons (Ua tI) (qg.cons (Ua (qF (qa .u64) _ (nl rfl))) qg.nil))))))
def zu (a:qw):Option Int:=
 some (if(if a.s<1 then a.s else 1)>(-1)then(if a.s<1 then a.s else 1)else(-1))
theorem xq (a:qw) {res:Int} (h:zu a=some res):qc ZT (.fn 181) [.agg (nz1 a)] [] (.i res) []:=by
 unfold zu at h
 refine Ub Tryz.func181 rfl rfl (m:=7) rfl (rs:=[.tmp 2]) rfl (l:=[(0,.agg (nz1 a))]) rfl ?_
 refine sg fol kAu [.cells (nz1 a)] ?_
 refine sh fol [(2,.i (if(if a.s<1 then a.s else 1)>(-1)then(if a.s<1 then a.s else 1)else(-1)))] ?_
 refine Goes.ret ?_
 obtain rfl:=si h
 exact(gw2 [.i (if(if a.s<1 then a.s else 1)>(-1)then(if a.s<1 then a.s else 1)else(-1))] (Ua tI))
def qa1 (n:Int):Option Int:=
 if n<0 then
 some (IntKind.wrap .u64 (w64 (0-n)))
 else
 some (IntKind.wrap .u64 n)
theorem qcg (n:Int) {res:Int} (h:qa1 n=some res):qc ZT (.fn 192) [.i n] [] (.int .u64 res) []:=by
 unfold qa1 at h
 refine Ub Tryz.func192 rfl rfl (m:=10) rfl (rs:=[.tmp 2]) rfl (l:=[(0,.i n)]) rfl ?_
 refine sh fol [(0,.i n)] ?_
 refine sq ?_
 refine sh fol [(0,.i n),(4,.bool (decide (n<0)))] ?_
 refine ihD h (fun a h=>?_) (fun a h=>?_)
 ·refine sh fol [(2,.int .u64 (IntKind.wrap .u64 (w64 (0-n))))] ?_
  refine Goes.ret ?_
  obtain rfl:=si h
  exact(gw2 [.int .u64 (IntKind.wrap .u64 (w64 (0-n)))] (Ua tI))
 refine Goes.skip ?_
 refine sh fol [(2,.int .u64 (IntKind.wrap .u64 n))] ?_
 refine Goes.ret ?_
 obtain rfl:=si h
 exact(gw2 [.int .u64 (IntKind.wrap .u64 n)] (Ua tI))
def qC (a:qw):Option (Bool×(List Int)):=
 if(!a.w.isEmpty)=true then
 some (decide (a.s<0),a.w)
 else
 if a.s=0 then
 some (false,[])
 else
 (qa1 a.s).bind fun b=>
 some (decide (a.s<0),[b])
theorem zx (a:qw) {res:Bool×(List Int)} (h:qC a=some res):qc ZT (.fn 183) [.agg (nz1 a)] [] (.tuple [.bool res.1,vl (qa .u64) res.2]) []:=by
 unfold qC at h
 refine Ub Tryz.func183 rfl rfl (m:=24) rfl (rs:=[.tmp 2,.tmp 3]) rfl (l:=[(0,.agg (nz1 a))]) rfl ?_
 refine sg fol kAu [.cells (nz1 a)] ?_
 refine sq (Goes.block ?_)
 refine sq (gr fol [2] [(1,.ptr 0 0),(4,.bool (!a.w.isEmpty))] (ac (hs (.done (.opt (zb ZT .neq 126 (.tmp 6) (.const (.slice none 0 0)) (nvl (qa .u64) a.w) .nilslice)) (.bool (!a.w.isEmpty))) (ne_nv yl)) az) ?_)
 refine ihB h (fun c h=>?_) (fun c h=>?_)
 ·refine sh fol [(2,.bool (decide (a.s<0))),(3,nvl (qa .u64) a.w)] ?_
  refine Goes.ret ?_
  obtain rfl:=si h
  exact(gw2 [.bool (decide (a.s<0)),nvl (qa .u64) a.w] (FzW.tuple (qg.cons (Ua tB) (qg.cons (FzW.nvL (E:=(qa .u64)) (nl rfl)) qg.nil))))
 refine sh fol [(1,.ptr 0 0),(13,.bool (decide (a.s=0)))] ?_
 refine ihD h (fun d h=>?_) (fun d h=>?_)
 ·refine sh fol [(2,.bool false),(3,.nilslice)] ?_
  refine Goes.ret ?_
  obtain rfl:=si h
  exact(gw2 [.bool false,.nilslice] (FzW.tuple (qg.cons (Ua tB) (qg.cons (FzW.nilv (E:=(qa .u64))) qg.nil))))
 refine Goes.skip ?_
 obtain⟨e,b,h⟩:=bnd h
 refine sq (gq fol [5] [(2,.bool (decide (a.s<0))),(3,.slice 1 0 1 1 1)] [.cells (nz1 a),.cells [.int .u64 e]] (ac (cv (qcg a.s b)) az) ?_)
 refine Goes.ret ?_
 obtain rfl:=si h
 exact(gw2 [.bool (decide (a.s<0)),.slice 1 0 1 1 1] (FzW.tuple (qg.cons (Ua tB) (qg.cons (FzW.fz (Fz.lit rfl rfl (Ul (AllST.cons tI AllST.nil)))) qg.nil))))
def jF (neg:Bool) (w:List Int):Option qw:=
 if(w.length:Int)=0 then
 some (⟨0,[]⟩:qw)
 else
 (if(w.length:Int)=1 then
 (idx w 0).bind fun d=>
 if d<=9223372036854775807 then
 some neg
 else
 some false
 else
 some false:Option Bool).bind fun e=>
 if e=true then
 (idx w 0).bind fun f=>
 some (⟨w64 (0-(w64 f)),[]⟩:qw)
 else
 (if(w.length:Int)=1 then
 (idx w 0).bind fun a=>
 some (decide (a<=9223372036854775807))
 else
 some false:Option Bool).bind fun b=>
 if b=true then
 (idx w 0).bind fun c=>
 some (⟨w64 c,[]⟩:qw)
 else
 if neg=true then
 some (⟨(-1),w⟩:qw)
 else
 some (⟨1,w⟩:qw)
theorem yK (neg:Bool) (w:List Int) {res:qw} (h:jF neg w=some res):qc ZT (.fn 184) [.bool neg,vl (qa .u64) w] [] (.agg (nz1 res)) []:=by
 unfold jF at h
 refine Ub Tryz.func184 rfl rfl (m:=50) rfl (rs:=[.cell 4 128]) rfl (l:=[(0,.bool neg),(1,vl (qa .u64) w)]) rfl ?_
 refine sg fol ((0,.bool neg)::(1,vl (qa .u64) w)::(kAV [])) [bZ] ?_
 refine sq (Goes.block ?_)
 refine sh fol ((0,.bool neg)::(1,vl (qa .u64) w)::(kAV [(5,.bool (decide ((w.length:Int)=0)))])) ?_
 refine ihD h (fun t h=>?_) (fun t h=>?_)
 ·refine sh fol (kAV []) ?_
  refine Goes.ret ?_
  obtain rfl:=si h
  exact(gw2 [.agg [.i 0,.nilslice]] (FzW.agg (qg.cons (Ua tI) (qg.cons (FzW.nv0 (E:=(qa .u64))) qg.nil))))
 refine sq ?_
 obtain⟨u,a,h⟩:=bnd h
 refine Goes.cut (s':=(ofG 50 ((0,.bool neg)::(1,vl (qa .u64) w)::(kAV [(10,.bool u)])),[bZ])) ?_ ?_
 ·rcases wyD a with⟨j,a⟩|⟨j,a⟩
  ·obtain⟨x,c,a⟩:=bnd a
   rcases wyD a with⟨k,a⟩|⟨k,a⟩
   ·obtain rfl:=si a
    exact tr fol [3,5,6,9] ((0,.bool neg)::(1,vl (qa .u64) w)::(kAV [(10,.bool neg)])) (ac (gw j) (ac (iv qD (qa .u64) c) (ac (lv 0 zH (qa .u64) c rfl) (ac (gw k) az))))
   obtain rfl:=si a
   exact tr fol [3,5,6,9] ((0,.bool neg)::(1,vl (qa .u64) w)::(kAV [(10,.bool false)])) (ac (gw j) (ac (iv qD (qa .u64) c) (ac (lv 0 zH (qa .u64) c rfl) (ac (gw k) az))))
  obtain rfl:=si a
  exact tr fol [3] ((0,.bool neg)::(1,vl (qa .u64) w)::(kAV [(10,.bool false)])) (ac (gw j) az)
 refine ihB h (fun v h=>?_) (fun v h=>?_)
 ·obtain⟨s,f,h⟩:=bnd h
  refine sq (gq fol [1,2] (kAV []) (kAh (w64 (0-(w64 s)))) (ac (iv qD (qa .u64) f) (ac (lv 0 zH (qa .u64) f rfl) az)) ?_)
  refine Goes.ret ?_
  obtain rfl:=si h
  exact(gw2 [.agg [.i (w64 (0-(w64 s))),.nilslice]] (FzW.agg (qg.cons (Ua tI) (qg.cons (FzW.nv0 (E:=(qa .u64))) qg.nil))))
 refine sq ?_
 obtain⟨n,b,h⟩:=bnd h
 refine Goes.cut (s':=(ofG 50 ((0,.bool neg)::(1,vl (qa .u64) w)::(kAV [(29,.bool n)])),[bZ])) ?_ ?_
 ·rcases wyD b with⟨o,b⟩|⟨o,b⟩
  ·obtain⟨p,d,b⟩:=bnd b
   obtain rfl:=si b
   exact tr fol [3,5,6] ((0,.bool neg)::(1,vl (qa .u64) w)::(kAV [(29,.bool (decide (p<=9223372036854775807)))])) (ac (gw o) (ac (iv qD (qa .u64) d) (ac (lv 0 zH (qa .u64) d rfl) az)))
  obtain rfl:=si b
  exact tr fol [3] ((0,.bool neg)::(1,vl (qa .u64) w)::(kAV [(29,.bool false)])) (ac (gw o) az)
 refine ihB h (fun q h=>?_) (fun q h=>?_)
 ·obtain⟨g,e,h⟩:=bnd h
  refine sq (gq fol [1,2] (kAV []) (kAh (w64 g)) (ac (iv qD (qa .u64) e) (ac (lv 0 zH (qa .u64) e rfl) az)) ?_)
  refine Goes.ret ?_
  obtain rfl:=si h
  exact(gw2 [.agg [.i (w64 g),.nilslice]] (FzW.agg (qg.cons (Ua tI) (qg.cons (FzW.nv0 (E:=(qa .u64))) qg.nil))))
 refine sh fol ((1,vl (qa .u64) w)::(kAV [(44,.bool neg)])) ?_
 refine ihB h (fun r h=>?_) (fun r h=>?_)
 ·refine sg fol (kAV []) [.cells [.i (-1),vl (qa .u64) w]] ?_
  refine Goes.ret ?_
  obtain rfl:=si h
  exact(gw2 [.agg [.i (-1),vl (qa .u64) w]] (FzW.agg (qg.cons (Ua tI) (qg.cons (FzW.Lnv (E:=(qa .u64)) (by first|omega|(simp only[decide_eq_false_iff_not,decide_eq_true_eq]at*;omega)) (nl rfl)) qg.nil))))
 refine Goes.skip ?_
 refine sg fol (kAV []) [.cells [.i 1,vl (qa .u64) w]] ?_
 refine Goes.ret ?_
 obtain rfl:=si h
 exact(gw2 [.agg [.i 1,vl (qa .u64) w]] (FzW.agg (qg.cons (Ua tI) (qg.cons (FzW.Lnv (E:=(qa .u64)) (by first|omega|(simp only[decide_eq_false_iff_not,decide_eq_true_eq]at*;omega)) (nl rfl)) qg.nil))))
def je (a:qw):Option qw:=
 (if a.w.isEmpty=true then
 some (!decide (a.s=(-9223372036854775808)))
 else
 some false:Option Bool).bind fun c=>
 if c=true then
 some (⟨w64 (0-a.s),[]⟩:qw)
 else
 (qC a).bind fun b=>
 (jF (!b.1) b.2).bind fun d=>
 some d
theorem vT (a:qw) {res:qw} (h:je a=some res):qc ZT (.fn 157) [.agg (nz1 a)] [] (.agg (nz1 res)) []:=by
 unfold je at h
 refine Ub Tryz.func157 rfl rfl (m:=26) rfl (rs:=[.cell 2 128]) rfl (l:=[(0,.agg (nz1 a))]) rfl ?_
 refine sg fol (kAX []) [.cells (nz1 a),bZ] ?_
 refine sq ?_
 refine sq ?_
 obtain⟨j,b,h⟩:=bnd h
 refine Goes.cut (s':=(ofG 26 (kAX [(12,.bool j)]),[.cells (nz1 a),bZ])) ?_ ?_
 ·rcases wyB b with⟨g,b⟩|⟨g,b⟩
  ·obtain rfl:=si b
   exact tr fol [2,3] (kAX [(12,.bool (!decide (a.s=(-9223372036854775808))))]) (ac (hs (.done (.opt (zb ZT .eql 126 (.tmp 6) (.const (.slice none 0 0)) (nvl (qa .u64) a.w) .nilslice)) (.bool a.w.isEmpty)) (qac yl)) (ac (gw g) az))
  obtain rfl:=si b
  exact tr fol [2,3] (kAX [(12,.bool false)]) (ac (hs (.done (.opt (zb ZT .eql 126 (.tmp 6) (.const (.slice none 0 0)) (nvl (qa .u64) a.w) .nilslice)) (.bool a.w.isEmpty)) (qac yl)) (ac (gw g) az))
 refine ihB h (fun k h=>?_) (fun k h=>?_)
 ·refine sg fol [(2,.ptr 1 0)] (.cells (nz1 a)::(kAh (w64 (0-a.s)))) ?_
  refine Goes.ret ?_
  obtain rfl:=si h
  exact(gw2 [.agg [.i (w64 (0-a.s)),.nilslice]] (FzW.agg (qg.cons (Ua tI) (qg.cons (FzW.nv0 (E:=(qa .u64))) qg.nil))))
 refine Goes.skip ?_
 obtain⟨e,c,h⟩:=bnd h
 refine sq (gr fol [1] [(2,.ptr 1 0),(3,.bool e.1),(4,vl (qa .u64) e.2)] (ac (cv (zx a c)) az) ?_)
 obtain⟨f,d,h⟩:=bnd h
 refine sq (gq fol [3,4] [(2,.ptr 1 0)] [.cells (nz1 a),.cells (nz1 f)] (ac (cv (yK (!e.1) e.2 d)) (ac (hs (.run [1] (qx ZT 128 (.ptr 1 0) (.agg (nz1 f))) [.cells (nz1 a),bZ] .undef [.cells (nz1 a),.cells (nz1 f)] true) (zW (n:=2) (by kernel_rfl) rfl rfl rfl rfl (cac rfl (cac nvc can)) rfl)) az)) ?_)
 refine Goes.ret ?_
 obtain rfl:=si h
 exact(gw2 [.agg (nz1 f)] (FzW.agg (qg.cons (Ua tI) (qg.cons (Ua (qF (qa .u64) _ (nl rfl))) qg.nil))))
def xD (a:qw):Option qw:=
 if a.s<0 then
 (je a).bind fun b=>
 some b
 else
 some a
theorem qcs (a:qw) {res:qw} (h:xD a=some res):qc ZT (.fn 204) [.agg (nz1 a)] [] (.agg (nz1 res)) []:=by
 unfold xD at h
 refine Ub Tryz.func204 rfl rfl (m:=9) rfl (rs:=[.cell 2 128]) rfl (l:=[(0,.agg (nz1 a))]) rfl ?_
 refine sg fol (kAX []) [.cells (nz1 a),bZ] ?_
 refine sq ?_
 refine sh fol (kAX [(5,.bool (decide (a.s<0)))]) ?_
 refine ihD h (fun d h=>?_) (fun d h=>?_)
 ·obtain⟨c,b,h⟩:=bnd h
  refine sq (gq fol [1,2] [(2,.ptr 1 0)] [.cells (nz1 a),.cells (nz1 c)] (ac (cv (vT a b)) (ac (hs (.run [1] (qx ZT 128 (.ptr 1 0) (.agg (nz1 c))) [.cells (nz1 a),bZ] .undef [.cells (nz1 a),.cells (nz1 c)] true) (zW (n:=2) (by kernel_rfl) rfl rfl rfl rfl (cac rfl (cac nvc can)) rfl)) az)) ?_)
  refine Goes.ret ?_
  obtain rfl:=si h
  exact(gw2 [.agg (nz1 c)] (FzW.agg (qg.cons (Ua tI) (qg.cons (Ua (qF (qa .u64) _ (nl rfl))) qg.nil))))
 refine Goes.skip ?_
 refine sq (gq fol [1] [(2,.ptr 1 0)] [.cells (nz1 a),.cells (nz1 a)] (ac (hs (.run [1] (qx ZT 128 (.ptr 1 0) (.agg (nz1 a))) [.cells (nz1 a),bZ] .undef [.cells (nz1 a),.cells (nz1 a)] true) (zW (n:=2) (by kernel_rfl) rfl rfl rfl rfl (cac rfl (cac nvc can)) rfl)) az) ?_)
 refine Goes.ret ?_
 obtain rfl:=si h
 exact(gw2 [.agg (nz1 a)] (FzW.agg (qg.cons (Ua tI) (qg.cons (Ua (qF (qa .u64) _ (nl rfl))) qg.nil))))
def yT (w:List Int):Nat->Int->Option Int
 |0,_=>none
 |K+1,a=>
  (if a>0 then
  (idx w (w64 (a-1))).bind fun b=>
  some (decide (b=0))
  else
  some false:Option Bool).bind fun c=>
  if c=true then
  yT w K (w64 (a-1))
  else
  some a
def vS (N:Nat) (w:List Int):Option (List Int):=
 (yT w N (w.length:Int)).bind fun a=>
 (cut w 0 a).bind fun b=>
 some b
theorem vY (N:Nat) (w:List Int) {res:List Int} (h:vS N w=some res):qc ZT (.fn 240) [vl (qa .u64) w] [] (vl (qa .u64) res) []:=by
 unfold vS at h
 refine Ub Tryz.func240 rfl rfl (m:=21) rfl (rs:=[.tmp 2]) rfl (l:=[(0,vl (qa .u64) w)]) rfl ?_
 refine sh fol [(0,vl (qa .u64) w)] ?_
 refine sh fol [(0,vl (qa .u64) w),(3,.i (w.length:Int))] ?_
 refine sq (Goes.block ?_)
 obtain⟨j,g3,h⟩:=bnd h
 refine Goes.imp (Q:=fun x s'=>(x= .exit 0/\ ∃d,d=j/\Sub s' (ofG 21 [(0,vl (qa .u64) w),(3,.i d)],[]))) ?_ ?_
 ·refine Uc (fun M s=> ∃(b:Int),s=(ofG 21 [(0,vl (qa .u64) w),(3,.i b)],[])/\yT w M b=some j) ?_ (m:=N) ⟨_,rfl,g3⟩
  rintro M s ⟨b,rfl,g3⟩
  cases M with
  |zero=>simp only[yT]at g3;cases g3
  |succ M=>
   rw[yT]at g3
   refine sq ?_
   refine sq ?_
   obtain⟨k,a,g3⟩:=bnd g3
   refine Goes.cut (s':=(ofG 21 [(0,vl (qa .u64) w),(3,.i b),(15,.bool k)],[])) ?_ ?_
   ·rcases wyD a with⟨f,a⟩|⟨f,a⟩
    ·obtain⟨n,c,a⟩:=bnd a
     obtain rfl:=si a
     exact tr fol [2,6,7] [(0,vl (qa .u64) w),(3,.i b),(15,.bool (decide (n=0)))] (ac (gw f) (ac (iv qD (qa .u64) c) (ac (lv 0 zH (qa .u64) c rfl) az)))
    obtain rfl:=si a
    exact tr fol [2] [(0,vl (qa .u64) w),(3,.i b),(15,.bool false)] (ac (gw f) az)
   refine ihB g3 (fun o g3=>?_) (fun o g3=>?_)
   ·refine Goes.skip ?_
    refine Goes.block ?_
    refine gh fol [(0,vl (qa .u64) w),(3,.i (w64 (b-1)))] ?_
    exact⟨M,(ofG 21 [(0,vl (qa .u64) w),(3,.i (w64 (b-1)))],[]),Nat.lt_succ_self _,(Sub.refl _),_,rfl,g3⟩
   refine Goes.exit ?_
   obtain rfl:=si g3
   exact⟨rfl,_,rfl,(Sub.keep [0,3] rfl rfl)⟩
 rintro x s' ⟨rfl,d,rfl,hsub⟩
 refine Goes.sub hsub ?_
 obtain⟨g,e,h⟩:=bnd h
 refine sq (gr fol [2] [(2,vl (qa .u64) g)] (ac (hs (.done (.opt (zI ZT 126 (vl (qa .u64) w) none (some (.i d)) none)) (vl (qa .u64) g)) (qje qD (E:=(qa .u64)) rfl none (some d) e)) az) ?_)
 refine Goes.ret ?_
 obtain rfl:=si h
 exact(gw2 [vl (qa .u64) g] (Ua (qy (qa .u64) _ (nl rfl))))
def zO (c:List Int) (d:List Int):Nat->(List Int)->Int->Int->Option ((List Int)×Int)
 |0,_,_,_=>none
 |K+1,e,a,j=>
  if a<(c.length:Int)then
  ((if a<(d.length:Int)then
  (idx d a).bind fun f=>
  some f
  else
  some 0:Option Int)).bind fun g=>
  (idx c a).bind fun h=>
  (yH h g j).bind fun b=>
  (idx e a).bind fun k=>
  (put e a b.1).bind fun i=>
  zO c d K i (w64 (a+1)) b.2
  else
  some (e,j)
def y7 (N:Nat) (b:List Int) (y:List Int):Option (List Int):=
 ((if(b.length:Int)<(y.length:Int)then
 some (y,b)
 else
 some (b,y):Option ((List Int)×(List Int)))).bind fun(a,g)=>
 (mk 8 (w64 ((a.length:Int)+1)) 0).bind fun h=>
 (zO a g N h 0 0).bind fun(f,c)=>
 (idx f (a.length:Int)).bind fun i=>
 (put f (a.length:Int) c).bind fun d=>
 (vS N d).bind fun e=>
 some e
theorem qer (N:Nat) (B:List Int) (y:List Int) {res:List Int} (h:y7 N B y=some res):qc ZT (.fn 185) [vl (qa .u64) B,vl (qa .u64) y] [] (vl (qa .u64) res) []:=by
 unfold y7 at h
 refine Ub Tryz.func185 rfl rfl (m:=54) rfl (rs:=[.tmp 4]) rfl (l:=[(0,vl (qa .u64) B),(1,vl (qa .u64) y)]) rfl ?_
 refine sh fol [(0,vl (qa .u64) B),(1,vl (qa .u64) y)] ?_
 refine sq ?_
 refine sh fol [(0,vl (qa .u64) B),(1,vl (qa .u64) y),(13,.bool (decide ((B.length:Int)<(y.length:Int))))] ?_
 obtain⟨P,g3,h⟩:=bnd h
 refine Goes.imp (Q:=fun x s'=>(x= .normal/\ ∃a e,(a,e)=P/\Sub s' (ofG 54 [(0,vl (qa .u64) a),(1,vl (qa .u64) e)],[]))) ?_ ?_
 ·refine ihD g3 (fun U g3=>?_) (fun U g3=>?_)
  ·refine gh fol [(0,vl (qa .u64) y),(1,vl (qa .u64) B)] ?_
   obtain rfl:=si g3
   exact⟨rfl,_,_,rfl,(Sub.refl _)⟩
  refine Goes.skip ?_
  obtain rfl:=si g3
  exact⟨rfl,_,_,rfl,(Sub.keep [0,1] rfl rfl)⟩
 rintro x s' ⟨rfl,a,e,rfl,hsub⟩
 try dsimp only at h
 refine Goes.sub hsub ?_
 obtain⟨C,G,h⟩:=bnd h
 refine sq (gq fol [3] ((0,vl (qa .u64) a)::(1,vl (qa .u64) e)::(kC C [])) [.cells (C.flatMap (qa .u64).c)] (ac (hs (.run [] (zt ZT 126 (.i (w64 ((a.length:Int)+1))) (.i (w64 ((a.length:Int)+1)))) [] (.slice 0 0 C.length C.length 1) [.cells (C.flatMap (qa .u64).c)] false) (qaA qD (E:=(qa .u64)) (z:=0) rfl (by kernel_rfl) G rfl)) az) ?_)
 refine sh fol ((0,vl (qa .u64) a)::(1,vl (qa .u64) e)::(kC C [(6,.int .u64 0)])) ?_
 refine sq ?_
 refine sh fol ((0,vl (qa .u64) a)::(1,vl (qa .u64) e)::(kC C [(6,.int .u64 0),(21,.i (a.length:Int)),(22,.i 0)])) ?_
 refine Goes.block ?_
 obtain⟨H,g11,h⟩:=bnd h
 refine Goes.imp (Q:=fun x s'=>(x= .exit 0/\ ∃v k,(v,k)=H/\Sub s' (ofG 54 ((0,vl (qa .u64) a)::(kC v (kAF k []))),[.cells (v.flatMap (qa .u64).c)]))) ?_ ?_
 ·refine Uc (fun M s=> ∃(f:List Int) (d:Int) (w:Int),s=(ofG 54 ((0,vl (qa .u64) a)::(1,vl (qa .u64) e)::(kC f (kAF w (kY (a.length:Int) d [])))),[.cells (f.flatMap (qa .u64).c)])/\zO a e M f d w=some H) ?_ (m:=N) ⟨_,_,_,rfl,g11⟩
  rintro M s ⟨f,d,w,rfl,g11⟩
  cases M with
  |zero=>simp only[zO]at g11;cases g11
  |succ M=>
   rw[zO]at g11
   refine sh fol ((0,vl (qa .u64) a)::(1,vl (qa .u64) e)::(kC f (kAF w (kY (a.length:Int) d [(23,.bool (decide (d<(a.length:Int))))])))) ?_
   refine sq ?_
   refine ihD g11 (fun I g11=>?_) (fun I g11=>?_)
   ·refine Goes.skip ?_
    refine sq (Goes.block ?_)
    refine sh fol ((0,vl (qa .u64) a)::(1,vl (qa .u64) e)::(kC f (kAF w ((7,.i d)::(kY (a.length:Int) d []))))) ?_
    refine sh fol ((0,vl (qa .u64) a)::(1,vl (qa .u64) e)::(kC f (kAF w ((7,.i d)::(kA4 (kY (a.length:Int) d [])))))) ?_
    refine sq ?_
    refine sh fol ((0,vl (qa .u64) a)::(1,vl (qa .u64) e)::(kC f (kAF w ((7,.i d)::(kA4 (kY (a.length:Int) d [(28,.bool (decide (d<(e.length:Int))))])))))) ?_
    obtain⟨J,g14,g11⟩:=bnd g11
    refine Goes.imp (Q:=fun x s'=>(x= .normal/\ ∃A,A=J/\Sub s' (ofG 54 ((0,vl (qa .u64) a)::(1,vl (qa .u64) e)::(kC f (kAF w ((7,.i d)::(8,.int .u64 A)::(kY (a.length:Int) d []))))),[.cells (f.flatMap (qa .u64).c)]))) ?_ ?_
    ·refine ihD g14 (fun K g14=>?_) (fun K g14=>?_)
     ·obtain⟨L,n,g14⟩:=bnd g14
      refine gr fol [2,3] ((0,vl (qa .u64) a)::(1,vl (qa .u64) e)::(kC f (kAF w ((7,.i d)::(8,.int .u64 L)::(kY (a.length:Int) d []))))) (ac (iv qD (qa .u64) n) (ac (lv 0 zH (qa .u64) n rfl) az)) ?_
      obtain rfl:=si g14
      exact⟨rfl,_,rfl,(Sub.refl _)⟩
     refine Goes.skip ?_
     obtain rfl:=si g14
     exact⟨rfl,_,rfl,(Sub.keep [0,1,5,6,7,8,21,22] rfl rfl)⟩
    rintro x s' ⟨rfl,A,rfl,hsub⟩
    refine Goes.sub hsub ?_
    obtain⟨O,o,g11⟩:=bnd g11
    obtain⟨j,D,g11⟩:=bnd g11
    obtain⟨V,p,g11⟩:=bnd g11
    obtain⟨g,q,g11⟩:=bnd g11
    refine gq fol [4,5,8,12,13] ((0,vl (qa .u64) a)::(1,vl (qa .u64) e)::(kC f (kAF j.2 (kY (a.length:Int) d [])))) [.cells (g.flatMap (qa .u64).c)] (ac (iv qD (qa .u64) o) (ac (lv 0 zH (qa .u64) o rfl) (ac (cv (qaY O A w D)) (ac (hs (.done (.opt (qb ZT 126 (.slice 0 0 f.length f.length 1) (.i d))) (.ptr 0 ((d:Int).toNat*1+0))) (vZ qD p)) (ac (hs (.run [0] (qx ZT 252 (.ptr 0 ((d:Int).toNat*1+0)) (.int .u64 j.1)) [.cells (f.flatMap (qa .u64).c)] .undef [.cells (g.flatMap (qa .u64).c)] true) (yc (E:=(qa .u64)) (l:=f) (y:=j.1) rfl (show _=some 1 by kernel_rfl) rfl p rfl rfl rfl rfl rfl q rfl)) az))))) ?_
    refine Goes.sub (show Sub (ofG 54 ((0,vl (qa .u64) a)::(1,vl (qa .u64) e)::(kC f (kAF j.2 (kY (a.length:Int) d [])))),[.cells (g.flatMap (qa .u64).c)]) (ofG 54 ((0,vl (qa .u64) a)::(1,vl (qa .u64) e)::(kC g (kAF j.2 (kY (a.length:Int) d [])))),[.cells (g.flatMap (qa .u64).c)])from(Sub.norm [] [some 0] rfl rfl (.keep (.same (qd (qa .u64) _)) (.keep (.same (qd (qa .u64) _)) (.keep (.sliceE rfl (jg q)) (.keep (.same nI) (.keep (.same nI) (.keep (.same nI) .nil)))))) (.ks .nil))) ?_
    refine gh fol ((0,vl (qa .u64) a)::(1,vl (qa .u64) e)::(kC g (kAF j.2 (kY (a.length:Int) (w64 (d+1)) [])))) ?_
    exact⟨M,(ofG 54 ((0,vl (qa .u64) a)::(1,vl (qa .u64) e)::(kC g (kAF j.2 (kY (a.length:Int) (w64 (d+1)) [])))),[.cells (g.flatMap (qa .u64).c)]),Nat.lt_succ_self _,(Sub.refl _),_,_,_,rfl,g11⟩
   refine Goes.exit ?_
   obtain rfl:=si g11
   exact⟨rfl,_,_,rfl,(Sub.keep [0,5,6] rfl rfl)⟩
 rintro x s' ⟨rfl,v,k,rfl,hsub⟩
 try dsimp only at h
 refine Goes.sub hsub ?_
 obtain⟨X,r,h⟩:=bnd h
 obtain⟨b,t,h⟩:=bnd h
 refine sq (gq fol [4,5] (kC v []) [.cells (b.flatMap (qa .u64).c)] (ac (hs (.done (.opt (qb ZT 126 (.slice 0 0 v.length v.length 1) (.i (a.length:Int)))) (.ptr 0 (((a.length:Int):Int).toNat*1+0))) (vZ qD r)) (ac (hs (.run [0] (qx ZT 252 (.ptr 0 (((a.length:Int):Int).toNat*1+0)) (.int .u64 k)) [.cells (v.flatMap (qa .u64).c)] .undef [.cells (b.flatMap (qa .u64).c)] true) (yc (E:=(qa .u64)) (l:=v) (y:=k) rfl (show _=some 1 by kernel_rfl) rfl r rfl rfl rfl rfl rfl t rfl)) az)) ?_)
 refine Goes.sub (show Sub (ofG 54 (kC v []),[.cells (b.flatMap (qa .u64).c)]) (ofG 54 (kC b []),[.cells (b.flatMap (qa .u64).c)])from(Sub.norm [] [some 0] rfl rfl (.keep (.sliceE rfl (jg t)) .nil) (.ks .nil))) ?_
 obtain⟨u,F,h⟩:=bnd h
 refine sq (gq fol [1] [(4,vl (qa .u64) u)] [.frozen (b.flatMap (qa .u64).c)] (ac (hs (.callF 240 [.slice 0 0 b.length b.length 1] [.cells (b.flatMap (qa .u64).c)] [0] [vl (qa .u64) b] (vl (qa .u64) u)) (xU (FzL.cons (Fz.sl (E:=(qa .u64)) rfl rfl (nl rfl)) FzL.nil) (vY N b F) (qy (qa .u64) _ (nl rfl)))) az) ?_)
 refine Goes.sub (show Sub (ofG 54 [(4,vl (qa .u64) u)],[.frozen (b.flatMap (qa .u64).c)]) (ofG 54 [(4,vl (qa .u64) u)],[])from(Sub.norm [] [] rfl rfl (.keep (.same (qd (qa .u64) _)) .nil) .nil)) ?_
 refine Goes.ret ?_
 obtain rfl:=si h
 exact(gw2 [vl (qa .u64) u] (Ua (qy (qa .u64) _ (nl rfl))))
def ky (a:List Int) (b:List Int):Nat->Int->Option (Unit⊕Int)
 |0,_=>none
 |K+1,c=>
  if c>=0 then
  (idx a c).bind fun d=>
  (idx b c).bind fun e=>
  if(!decide (d=e))=true then
  if d<e then
  some (.inr (-1))
  else
  some (.inr 1)
  else
  ky a b K (w64 (c-1))
  else
  some (.inl ())
def jo (N:Nat) (a:List Int) (b:List Int):Option Int:=
 if(!decide ((a.length:Int)=(b.length:Int)))=true then
 if(a.length:Int)<(b.length:Int)then
 some (-1)
 else
 some 1
 else
 (ky a b N (w64 ((a.length:Int)-1))).bind (fun
 |(.inl ())=>
 some 0
 |(.inr c)=>
 some c)
theorem qaG (N:Nat) (a:List Int) (b:List Int) {res:Int} (h:jo N a b=some res):qc ZT (.fn 186) [vl (qa .u64) a,vl (qa .u64) b] [] (.i res) []:=by
 unfold jo at h
 refine Ub Tryz.func186 rfl rfl (m:=41) rfl (rs:=[.tmp 4]) rfl (l:=[(0,vl (qa .u64) a),(1,vl (qa .u64) b)]) rfl ?_
 refine sh fol [(0,vl (qa .u64) a),(1,vl (qa .u64) b)] ?_
 refine sq ?_
 refine sh fol [(0,vl (qa .u64) a),(1,vl (qa .u64) b),(10,.bool (!decide ((a.length:Int)=(b.length:Int))))] ?_
 refine ihB h (fun o h=>?_) (fun o h=>?_)
 ·refine sq ?_
  refine sh fol [(15,.bool (decide ((a.length:Int)<(b.length:Int))))] ?_
  refine ihD h (fun p h=>?_) (fun p h=>?_)
  ·refine sh fol [(4,.i (-1))] ?_
   refine Goes.ret ?_
   obtain rfl:=si h
   exact(gw2 [.i (-1)] (Ua tI))
  refine Goes.skip ?_
  refine sh fol [(4,.i 1)] ?_
  refine Goes.ret ?_
  obtain rfl:=si h
  exact(gw2 [.i 1] (Ua tI))
 refine Goes.skip ?_
 refine sq ?_
 refine sh fol ((0,vl (qa .u64) a)::(1,vl (qa .u64) b)::(kA0 (w64 ((a.length:Int)-1)))) ?_
 refine Goes.block ?_
 obtain⟨f,g4,h⟩:=bnd h
 refine Goes.imp (Q:=fun x s'=>(x= .exit 0/\(.inl ())=f/\Sub s' (ofG 41 [],[]))\/(x= .ret/\ ∃j,(.inr j)=f/\zU ZT [.tmp 4] (.i j) .ret s')) ?_ ?_
 ·refine Uc (fun M s=> ∃(e:Int),s=(ofG 41 ((0,vl (qa .u64) a)::(1,vl (qa .u64) b)::(kA0 e)),[])/\ky a b M e=some f) ?_ (m:=N) ⟨_,rfl,g4⟩
  rintro M s ⟨e,rfl,g4⟩
  cases M with
  |zero=>simp only[ky]at g4;cases g4
  |succ M=>
   rw[ky]at g4
   refine sq ?_
   refine sh fol [(0,vl (qa .u64) a),(1,vl (qa .u64) b),(5,.i e),(20,.bool (decide (e>=0)))] ?_
   refine ihD g4 (fun q g4=>?_) (fun q g4=>?_)
   ·refine Goes.skip ?_
    refine sq (Goes.block ?_)
    obtain⟨k,c,g4⟩:=bnd g4
    obtain⟨n,d,g4⟩:=bnd g4
    refine sq (gr fol [2,3,6,7] [(0,vl (qa .u64) a),(1,vl (qa .u64) b),(5,.i e),(31,.bool (!decide (k=n)))] (ac (iv qD (qa .u64) c) (ac (lv 0 zH (qa .u64) c rfl) (ac (iv qD (qa .u64) d) (ac (lv 0 zH (qa .u64) d rfl) az)))) ?_)
    refine ihB g4 (fun r g4=>?_) (fun r g4=>?_)
    ·refine sq ?_
     refine sq (gr fol [2,3,6,7] [(40,.bool (decide (k<n)))] (ac (iv qD (qa .u64) c) (ac (lv 0 zH (qa .u64) c rfl) (ac (iv qD (qa .u64) d) (ac (lv 0 zH (qa .u64) d rfl) az)))) ?_)
     refine ihD g4 (fun g g4=>?_) (fun g g4=>?_)
     ·refine sh fol [(4,.i (-1))] ?_
      refine Goes.ret ?_
      obtain rfl:=si g4
      exact Or.inr (⟨rfl,_,rfl,(gw2 [.i (-1)] (Ua tI))⟩)
     refine Goes.skip ?_
     refine sh fol [(4,.i 1)] ?_
     refine Goes.ret ?_
     obtain rfl:=si g4
     exact Or.inr (⟨rfl,_,rfl,(gw2 [.i 1] (Ua tI))⟩)
    refine Goes.skip ?_
    refine gh fol ((0,vl (qa .u64) a)::(1,vl (qa .u64) b)::(kA0 (w64 (e-1)))) ?_
    exact⟨M,(ofG 41 ((0,vl (qa .u64) a)::(1,vl (qa .u64) b)::(kA0 (w64 (e-1)))),[]),Nat.lt_succ_self _,(Sub.refl _),_,rfl,g4⟩
   refine Goes.exit ?_
   obtain rfl:=si g4
   exact Or.inl (⟨rfl,rfl,(Sub.keep [] rfl rfl)⟩)
 rintro x s' (⟨rfl,rfl,hsub⟩|⟨rfl,t,rfl,hret⟩)
 ·try dsimp only at h
  refine Goes.sub hsub ?_
  refine sh fol [(4,.i 0)] ?_
  refine Goes.ret ?_
  obtain rfl:=si h
  exact(gw2 [.i 0] (Ua tI))
 try dsimp only at h
 obtain rfl:=si h
 exact hret
def z8 (c:List Int) (y:List Int):Nat->(List Int)->Int->Int->Option (List Int)
 |0,_,_,_=>none
 |K+1,d,a,h=>
  if a<(c.length:Int)then
  ((if a<(y.length:Int)then
  (idx y a).bind fun e=>
  some e
  else
  some 0:Option Int)).bind fun i=>
  (idx c a).bind fun f=>
  (qcq f i h).bind fun b=>
  (idx d a).bind fun j=>
  (put d a b.1).bind fun g=>
  z8 c y K g (w64 (a+1)) b.2
  else
  some d
def vz (N:Nat) (b:List Int) (y:List Int):Option (List Int):=
 (mk 8 (b.length:Int) 0).bind fun c=>
 (z8 b y N c 0 0).bind fun d=>
 (vS N d).bind fun a=>
 some a
theorem qbW (N:Nat) (a:List Int) (y:List Int) {res:List Int} (h:vz N a y=some res):qc ZT (.fn 187) [vl (qa .u64) a,vl (qa .u64) y] [] (vl (qa .u64) res) []:=by
 unfold vz at h
 refine Ub Tryz.func187 rfl rfl (m:=41) rfl (rs:=[.tmp 4]) rfl (l:=[(0,vl (qa .u64) a),(1,vl (qa .u64) y)]) rfl ?_
 refine sh fol [(0,vl (qa .u64) a),(1,vl (qa .u64) y)] ?_
 obtain⟨r,v,h⟩:=bnd h
 refine sq (gq fol [2] ((0,vl (qa .u64) a)::(1,vl (qa .u64) y)::(kC r [])) [.cells (r.flatMap (qa .u64).c)] (ac (hs (.run [] (zt ZT 126 (.i (a.length:Int)) (.i (a.length:Int))) [] (.slice 0 0 r.length r.length 1) [.cells (r.flatMap (qa .u64).c)] false) (qaA qD (E:=(qa .u64)) (z:=0) rfl (by kernel_rfl) v rfl)) az) ?_)
 refine sh fol ((0,vl (qa .u64) a)::(1,vl (qa .u64) y)::(kC r [(6,.int .u64 0)])) ?_
 refine sq ?_
 refine sh fol ((0,vl (qa .u64) a)::(1,vl (qa .u64) y)::(kC r [(6,.int .u64 0),(13,.i (a.length:Int)),(14,.i 0)])) ?_
 refine Goes.block ?_
 obtain⟨D,g6,h⟩:=bnd h
 refine Goes.imp (Q:=fun x s'=>(x= .exit 0/\ ∃g,g=D/\Sub s' (ofG 41 (kC g []),[.cells (g.flatMap (qa .u64).c)]))) ?_ ?_
 ·refine Uc (fun M s=> ∃(d:List Int) (b:Int) (q:Int),s=(ofG 41 ((0,vl (qa .u64) a)::(1,vl (qa .u64) y)::(kC d (kAF q (kAG (a.length:Int) b)))),[.cells (d.flatMap (qa .u64).c)])/\z8 a y M d b q=some D) ?_ (m:=N) ⟨_,_,_,rfl,g6⟩
  rintro M s ⟨d,b,q,rfl,g6⟩
  cases M with
  |zero=>simp only[z8]at g6;cases g6
  |succ M=>
   rw[z8]at g6
   refine sh fol ((0,vl (qa .u64) a)::(1,vl (qa .u64) y)::(kC d (kAF q [(13,.i (a.length:Int)),(14,.i b),(15,.bool (decide (b<(a.length:Int))))]))) ?_
   refine sq ?_
   refine ihD g6 (fun F g6=>?_) (fun F g6=>?_)
   ·refine Goes.skip ?_
    refine sq (Goes.block ?_)
    refine sh fol ((0,vl (qa .u64) a)::(1,vl (qa .u64) y)::(kC d (kAF q ((7,.i b)::(kAG (a.length:Int) b))))) ?_
    refine sh fol ((0,vl (qa .u64) a)::(1,vl (qa .u64) y)::(kC d (kAF q ((7,.i b)::(kA4 (kAG (a.length:Int) b)))))) ?_
    refine sq ?_
    refine sh fol ((0,vl (qa .u64) a)::(1,vl (qa .u64) y)::(kC d (kAF q ((7,.i b)::(kA4 [(13,.i (a.length:Int)),(14,.i b),(20,.bool (decide (b<(y.length:Int))))]))))) ?_
    obtain⟨G,g9,g6⟩:=bnd g6
    refine Goes.imp (Q:=fun x s'=>(x= .normal/\ ∃w,w=G/\Sub s' (ofG 41 ((0,vl (qa .u64) a)::(1,vl (qa .u64) y)::(kC d (kAF q ((7,.i b)::(8,.int .u64 w)::(kAG (a.length:Int) b))))),[.cells (d.flatMap (qa .u64).c)]))) ?_ ?_
    ·refine ihD g9 (fun A g9=>?_) (fun A g9=>?_)
     ·obtain⟨B,j,g9⟩:=bnd g9
      refine gr fol [2,3] ((0,vl (qa .u64) a)::(1,vl (qa .u64) y)::(kC d (kAF q ((7,.i b)::(8,.int .u64 B)::(kAG (a.length:Int) b))))) (ac (iv qD (qa .u64) j) (ac (lv 0 zH (qa .u64) j rfl) az)) ?_
      obtain rfl:=si g9
      exact⟨rfl,_,rfl,(Sub.refl _)⟩
     refine Goes.skip ?_
     obtain rfl:=si g9
     exact⟨rfl,_,rfl,(Sub.keep [0,1,5,6,7,8,13,14] rfl rfl)⟩
    rintro x s' ⟨rfl,w,rfl,hsub⟩
    refine Goes.sub hsub ?_
    obtain⟨C,k,g6⟩:=bnd g6
    obtain⟨f,t,g6⟩:=bnd g6
    obtain⟨H,n,g6⟩:=bnd g6
    obtain⟨e,o,g6⟩:=bnd g6
    refine gq fol [4,5,8,12,13] ((0,vl (qa .u64) a)::(1,vl (qa .u64) y)::(kC d (kAF f.2 (kAG (a.length:Int) b)))) [.cells (e.flatMap (qa .u64).c)] (ac (iv qD (qa .u64) k) (ac (lv 0 zH (qa .u64) k rfl) (ac (cv (qeT C w q t)) (ac (hs (.done (.opt (qb ZT 126 (.slice 0 0 d.length d.length 1) (.i b))) (.ptr 0 ((b:Int).toNat*1+0))) (vZ qD n)) (ac (hs (.run [0] (qx ZT 252 (.ptr 0 ((b:Int).toNat*1+0)) (.int .u64 f.1)) [.cells (d.flatMap (qa .u64).c)] .undef [.cells (e.flatMap (qa .u64).c)] true) (yc (E:=(qa .u64)) (l:=d) (y:=f.1) rfl (show _=some 1 by kernel_rfl) rfl n rfl rfl rfl rfl rfl o rfl)) az))))) ?_
    refine Goes.sub (show Sub (ofG 41 ((0,vl (qa .u64) a)::(1,vl (qa .u64) y)::(kC d (kAF f.2 (kAG (a.length:Int) b)))),[.cells (e.flatMap (qa .u64).c)]) (ofG 41 ((0,vl (qa .u64) a)::(1,vl (qa .u64) y)::(kC e (kAF f.2 (kAG (a.length:Int) b)))),[.cells (e.flatMap (qa .u64).c)])from(Sub.norm [] [some 0] rfl rfl (.keep (.same (qd (qa .u64) _)) (.keep (.same (qd (qa .u64) _)) (.keep (.sliceE rfl (jg o)) (.keep (.same nI) (.keep (.same nI) (.keep (.same nI) .nil)))))) (.ks .nil))) ?_
    refine gh fol ((0,vl (qa .u64) a)::(1,vl (qa .u64) y)::(kC e (kAF f.2 (kAG (a.length:Int) (w64 (b+1)))))) ?_
    exact⟨M,(ofG 41 ((0,vl (qa .u64) a)::(1,vl (qa .u64) y)::(kC e (kAF f.2 (kAG (a.length:Int) (w64 (b+1)))))),[.cells (e.flatMap (qa .u64).c)]),Nat.lt_succ_self _,(Sub.refl _),_,_,_,rfl,g6⟩
   refine Goes.exit ?_
   obtain rfl:=si g6
   exact⟨rfl,_,rfl,(Sub.keep [5] rfl rfl)⟩
 rintro x s' ⟨rfl,g,rfl,hsub⟩
 refine Goes.sub hsub ?_
 obtain⟨p,u,h⟩:=bnd h
 refine sq (gq fol [1] [(4,vl (qa .u64) p)] [.frozen (g.flatMap (qa .u64).c)] (ac (hs (.callF 240 [.slice 0 0 g.length g.length 1] [.cells (g.flatMap (qa .u64).c)] [0] [vl (qa .u64) g] (vl (qa .u64) p)) (xU (FzL.cons (Fz.sl (E:=(qa .u64)) rfl rfl (nl rfl)) FzL.nil) (vY N g u) (qy (qa .u64) _ (nl rfl)))) az) ?_)
 refine Goes.sub (show Sub (ofG 41 [(4,vl (qa .u64) p)],[.frozen (g.flatMap (qa .u64).c)]) (ofG 41 [(4,vl (qa .u64) p)],[])from(Sub.norm [] [] rfl rfl (.keep (.same (qd (qa .u64) _)) .nil) .nil)) ?_
 refine Goes.ret ?_
 obtain rfl:=si h
 exact(gw2 [vl (qa .u64) p] (Ua (qy (qa .u64) _ (nl rfl))))
def yR (N:Nat) (a:qw) (b:qw):Option qw:=
 (if a.w.isEmpty=true then
 some b.w.isEmpty
 else
 some false:Option Bool).bind fun m=>
 ((if m=true then
 if((decide ((w64 (a.s+b.s))>a.s))==(decide (b.s>0)))=true then
 some (.inr (⟨w64 (a.s+b.s),[]⟩:qw))
 else
 some (.inl ())
 else
 some (.inl ()):Option (Unit⊕qw))).bind (fun
 |(.inl ())=>
 (qC a).bind fun c=>
 (qC b).bind fun d=>
 if(c.1==d.1)=true then
 (y7 N c.2 d.2).bind fun e=>
 (jF c.1 e).bind fun f=>
 some f
 else
 (jo N c.2 d.2).bind fun g=>
 if g>=0 then
 (vz N c.2 d.2).bind fun h=>
 (jF c.1 h).bind fun i=>
 some i
 else
 (vz N d.2 c.2).bind fun j=>
 (jF d.1 j).bind fun k=>
 some k
 |(.inr l)=>
 some l)
theorem qch (N:Nat) (a:qw) (b:qw) {res:qw} (h:yR N a b=some res):qc ZT (.fn 125) [.agg (nz1 a),.agg (nz1 b)] [] (.agg (nz1 res)) []:=by
 unfold yR at h
 refine Ub Tryz.func125 rfl rfl (m:=67) rfl (rs:=[.cell 4 128]) rfl (l:=[(0,.agg (nz1 a)),(1,.agg (nz1 b))]) rfl ?_
 refine sg fol (kF []) [.cells (nz1 a),.cells (nz1 b),bZ] ?_
 refine sq ?_
 refine sq ?_
 obtain⟨J,c,h⟩:=bnd h
 refine Goes.cut (s':=(ofG 67 (kF [(17,.bool J)]),[.cells (nz1 a),.cells (nz1 b),bZ])) ?_ ?_
 ·rcases wyB c with⟨z,c⟩|⟨z,c⟩
  ·obtain rfl:=si c
   exact tr fol [2,3,6] (kF [(17,.bool b.w.isEmpty)]) (ac (hs (.done (.opt (zb ZT .eql 126 (.tmp 11) (.const (.slice none 0 0)) (nvl (qa .u64) a.w) .nilslice)) (.bool a.w.isEmpty)) (qac yl)) (ac (gw z) (ac (hs (.done (.opt (zb ZT .eql 126 (.tmp 15) (.const (.slice none 0 0)) (nvl (qa .u64) b.w) .nilslice)) (.bool b.w.isEmpty)) (qac yl)) az)))
  obtain rfl:=si c
  exact tr fol [2,3] (kF [(17,.bool false)]) (ac (hs (.done (.opt (zb ZT .eql 126 (.tmp 11) (.const (.slice none 0 0)) (nvl (qa .u64) a.w) .nilslice)) (.bool a.w.isEmpty)) (qac yl)) (ac (gw z) az))
 obtain⟨H,g4,h⟩:=bnd h
 refine Goes.imp (Q:=fun x s'=>(x= .normal/\(.inl ())=H/\Sub s' (ofG 67 (kF []),[.cells (nz1 a),.cells (nz1 b),bZ]))\/(x= .ret/\ ∃I,(.inr I)=H/\zU ZT [.cell 4 128] (.agg (nz1 I)) .ret s')) ?_ ?_
 ·refine ihB g4 (fun K g4=>?_) (fun K g4=>?_)
  ·refine sh fol (kF (kA0 (w64 (a.s+b.s)))) ?_
   refine sh fol (kF [(5,.i (w64 (a.s+b.s))),(30,.bool ((decide ((w64 (a.s+b.s))>a.s))==(decide (b.s>0))))]) ?_
   refine ihB g4 (fun L g4=>?_) (fun L g4=>?_)
   ·refine sg fol (kAd []) (.cells (nz1 a):: .cells (nz1 b)::(kAh (w64 (a.s+b.s)))) ?_
    refine Goes.ret ?_
    obtain rfl:=si g4
    exact Or.inr (⟨rfl,_,rfl,(gw2 [.agg [.i (w64 (a.s+b.s)),.nilslice]] (FzW.agg (qg.cons (Ua tI) (qg.cons (FzW.nv0 (E:=(qa .u64))) qg.nil))))⟩)
   refine Goes.skip ?_
   obtain rfl:=si g4
   exact Or.inl (⟨rfl,rfl,(Sub.keep [2,3,4] rfl rfl)⟩)
  refine Goes.skip ?_
  obtain rfl:=si g4
  exact Or.inl (⟨rfl,rfl,(Sub.keep [2,3,4] rfl rfl)⟩)
 rintro x s' (⟨rfl,rfl,hsub⟩|⟨rfl,M,rfl,hret⟩)
 ·try dsimp only at h
  refine Goes.sub hsub ?_
  obtain⟨d,v,h⟩:=bnd h
  refine sq (gr fol [1] ((3,.ptr 1 0)::(kAd [(6,.bool d.1),(7,vl (qa .u64) d.2)])) (ac (cv (zx a v)) az) ?_)
  obtain⟨e,y,h⟩:=bnd h
  refine sq (gr fol [1] (kAd [(6,.bool d.1),(7,vl (qa .u64) d.2),(8,.bool e.1),(9,vl (qa .u64) e.2)]) (ac (cv (zx b y)) az) ?_)
  refine sq (Goes.block ?_)
  refine sh fol (kAd [(6,.bool d.1),(7,vl (qa .u64) d.2),(8,.bool e.1),(9,vl (qa .u64) e.2),(43,.bool (d.1==e.1))]) ?_
  refine ihB h (fun A h=>?_) (fun A h=>?_)
  ·obtain⟨B,k,h⟩:=bnd h
   obtain⟨f,o,h⟩:=bnd h
   refine sq (gq fol [3,4,5] (kAd []) [.cells (nz1 a),.cells (nz1 b),.cells (nz1 f)] (ac (cv (qer N d.2 e.2 k)) (ac (cv (yK d.1 B o)) (ac (hs (.run [2] (qx ZT 128 (.ptr 2 0) (.agg (nz1 f))) [.cells (nz1 a),.cells (nz1 b),bZ] .undef [.cells (nz1 a),.cells (nz1 b),.cells (nz1 f)] true) (zW (n:=2) (by kernel_rfl) rfl rfl rfl rfl (cac rfl (cac nvc can)) rfl)) az))) ?_)
   refine Goes.ret ?_
   obtain rfl:=si h
   exact(gw2 [.agg (nz1 f)] (FzW.agg (qg.cons (Ua tI) (qg.cons (Ua (qF (qa .u64) _ (nl rfl))) qg.nil))))
  obtain⟨C,p,h⟩:=bnd h
  refine sq (gr fol [2] (kAd [(6,.bool d.1),(7,vl (qa .u64) d.2),(8,.bool e.1),(9,vl (qa .u64) e.2),(52,.bool (decide (C>=0)))]) (ac (cv (qaG N d.2 e.2 p)) az) ?_)
  refine ihD h (fun D h=>?_) (fun D h=>?_)
  ·obtain⟨F,q,h⟩:=bnd h
   obtain⟨g,r,h⟩:=bnd h
   refine sq (gq fol [3,4,5] (kAd []) [.cells (nz1 a),.cells (nz1 b),.cells (nz1 g)] (ac (cv (qbW N d.2 e.2 q)) (ac (cv (yK d.1 F r)) (ac (hs (.run [2] (qx ZT 128 (.ptr 2 0) (.agg (nz1 g))) [.cells (nz1 a),.cells (nz1 b),bZ] .undef [.cells (nz1 a),.cells (nz1 b),.cells (nz1 g)] true) (zW (n:=2) (by kernel_rfl) rfl rfl rfl rfl (cac rfl (cac nvc can)) rfl)) az))) ?_)
   refine Goes.ret ?_
   obtain rfl:=si h
   exact(gw2 [.agg (nz1 g)] (FzW.agg (qg.cons (Ua tI) (qg.cons (Ua (qF (qa .u64) _ (nl rfl))) qg.nil))))
  refine Goes.skip ?_
  obtain⟨G,t,h⟩:=bnd h
  obtain⟨j,u,h⟩:=bnd h
  refine sq (gq fol [3,4,5] (kAd []) [.cells (nz1 a),.cells (nz1 b),.cells (nz1 j)] (ac (cv (qbW N e.2 d.2 t)) (ac (cv (yK e.1 G u)) (ac (hs (.run [2] (qx ZT 128 (.ptr 2 0) (.agg (nz1 j))) [.cells (nz1 a),.cells (nz1 b),bZ] .undef [.cells (nz1 a),.cells (nz1 b),.cells (nz1 j)] true) (zW (n:=2) (by kernel_rfl) rfl rfl rfl rfl (cac rfl (cac nvc can)) rfl)) az))) ?_)
  refine Goes.ret ?_
  obtain rfl:=si h
  exact(gw2 [.agg (nz1 j)] (FzW.agg (qg.cons (Ua tI) (qg.cons (Ua (qF (qa .u64) _ (nl rfl))) qg.nil))))
 try dsimp only at h
 obtain rfl:=si h
 exact hret
def xJ (N:Nat) (a:qw) (b:qw):Option qw:=
 (je b).bind fun c=>
 (yR N a c).bind fun d=>
 some d
theorem qe8 (N:Nat) (a:qw) (b:qw) {res:qw} (h:xJ N a b=some res):qc ZT (.fn 206) [.agg (nz1 a),.agg (nz1 b)] [] (.agg (nz1 res)) []:=by
 unfold xJ at h
 refine Ub Tryz.func206 rfl rfl (m:=9) rfl (rs:=[.cell 4 128]) rfl (l:=[(0,.agg (nz1 a)),(1,.agg (nz1 b))]) rfl ?_
 refine sg fol (kF []) [.cells (nz1 a),.cells (nz1 b),bZ] ?_
 obtain⟨f,c,h⟩:=bnd h
 obtain⟨e,d,h⟩:=bnd h
 refine sq (gq fol [2,3,4] (kAd []) [.cells (nz1 a),.cells (nz1 b),.cells (nz1 e)] (ac (cv (vT b c)) (ac (cv (qch N a f d)) (ac (hs (.run [2] (qx ZT 128 (.ptr 2 0) (.agg (nz1 e))) [.cells (nz1 a),.cells (nz1 b),bZ] .undef [.cells (nz1 a),.cells (nz1 b),.cells (nz1 e)] true) (zW (n:=2) (by kernel_rfl) rfl rfl rfl rfl (cac rfl (cac nvc can)) rfl)) az))) ?_)
 refine Goes.ret ?_
 obtain rfl:=si h
 exact(gw2 [.agg (nz1 e)] (FzW.agg (qg.cons (Ua tI) (qg.cons (Ua (qF (qa .u64) _ (nl rfl))) qg.nil))))
def bits_Len64 (a:Int):Option Int:=
 ((if a>=4294967296 then
 some (qm .u64 a 32,32)
 else
 some (a,0):Option (Int×Int))).bind fun(b,f)=>
 ((if b>=65536 then
 some (qm .u64 b 16,w64 (f+16))
 else
 some (b,f):Option (Int×Int))).bind fun(c,g)=>
 ((if c>=256 then
 some (qm .u64 c 8,w64 (g+8))
 else
 some (c,g):Option (Int×Int))).bind fun(h,d)=>
 (idx ([0,1,2,2,3,3,3,3,4,4,4,4,4,4,4,4,5,5,5,5,5,5,5,5,5,5,5,5,5,5,5,5,6,6,6,6,6,6,6,6,6,6,6,6,6,6,6,6,6,6,6,6,6,6,6,6,6,6,6,6,6,6,6,6,7,7,7,7,7,7,7,7,7,7,7,7,7,7,7,7,7,7,7,7,7,7,7,7,7,7,7,7,7,7,7,7,7,7,7,7,7,7,7,7,7,7,7,7,7,7,7,7,7,7,7,7,7,7,7,7,7,7,7,7,7,7,7,7,8,8,8,8,8,8,8,8,8,8,8,8,8,8,8,8,8,8,8,8,8,8,8,8,8,8,8,8,8,8,8,8,8,8,8,8,8,8,8,8,8,8,8,8,8,8,8,8,8,8,8,8,8,8,8,8,8,8,8,8,8,8,8,8,8,8,8,8,8,8,8,8,8,8,8,8,8,8,8,8,8,8,8,8,8,8,8,8,8,8,8,8,8,8,8,8,8,8,8,8,8,8,8,8,8,8,8,8,8,8,8,8,8,8,8,8,8,8,8,8,8,8,8,8,8,8,8,8]:Str) (IntKind.wrap .u8 h)).bind fun e=>
 some (w64 (d+(w64 (e.toNat:Int))))
theorem qc8 (b:Int) {res:Int} (h:bits_Len64 b=some res):qc ZT (.fn 269) [.int .u64 b] [] (.i res) []:=by
 unfold bits_Len64 at h
 refine Ub Tryz.func269 rfl rfl (m:=25) rfl (rs:=[.tmp 2]) rfl (l:=[(0,.int .u64 b)]) rfl ?_
 refine sh fol [(0,.int .u64 b),(2,.i 0)] ?_
 refine sq ?_
 refine sh fol [(0,.int .u64 b),(2,.i 0),(4,.bool (decide (b>=4294967296)))] ?_
 obtain⟨p,g3,h⟩:=bnd h
 refine Goes.imp (Q:=fun x s'=>(x= .normal/\ ∃c g,(c,g)=p/\Sub s' (ofG 25 (kAp c g []),[]))) ?_ ?_
 ·refine ihD g3 (fun q g3=>?_) (fun q g3=>?_)
  ·refine sh fol [(0,.int .u64 (qm .u64 b 32))] ?_
   refine gh fol [(0,.int .u64 (qm .u64 b 32)),(2,.i 32)] ?_
   obtain rfl:=si g3
   exact⟨rfl,_,_,rfl,(Sub.refl _)⟩
  refine Goes.skip ?_
  obtain rfl:=si g3
  exact⟨rfl,_,_,rfl,(Sub.keep [0,2] rfl rfl)⟩
 rintro x s' ⟨rfl,c,g,rfl,hsub⟩
 try dsimp only at h
 refine Goes.sub hsub ?_
 refine sq ?_
 refine sh fol (kAp c g [(8,.bool (decide (c>=65536)))]) ?_
 obtain⟨r,g7,h⟩:=bnd h
 refine Goes.imp (Q:=fun x s'=>(x= .normal/\ ∃d j,(d,j)=r/\Sub s' (ofG 25 (kAp d j []),[]))) ?_ ?_
 ·refine ihD g7 (fun s g7=>?_) (fun s g7=>?_)
  ·refine sh fol (kAp (qm .u64 c 16) g []) ?_
   refine gh fol (kAp (qm .u64 c 16) (w64 (g+16)) []) ?_
   obtain rfl:=si g7
   exact⟨rfl,_,_,rfl,(Sub.refl _)⟩
  refine Goes.skip ?_
  obtain rfl:=si g7
  exact⟨rfl,_,_,rfl,(Sub.keep [0,2] rfl rfl)⟩
 rintro x s' ⟨rfl,d,j,rfl,hsub⟩
 try dsimp only at h
 refine Goes.sub hsub ?_
 refine sq ?_
 refine sh fol (kAp d j [(14,.bool (decide (d>=256)))]) ?_
 obtain⟨n,g11,h⟩:=bnd h
 refine Goes.imp (Q:=fun x s'=>(x= .normal/\ ∃k a,(k,a)=n/\Sub s' (ofG 25 (kAp k a []),[]))) ?_ ?_
 ·refine ihD g11 (fun o g11=>?_) (fun o g11=>?_)
  ·refine sh fol (kAp (qm .u64 d 8) j []) ?_
   refine gh fol (kAp (qm .u64 d 8) (w64 (j+8)) []) ?_
   obtain rfl:=si g11
   exact⟨rfl,_,_,rfl,(Sub.refl _)⟩
  refine Goes.skip ?_
  obtain rfl:=si g11
  exact⟨rfl,_,_,rfl,(Sub.keep [0,2] rfl rfl)⟩
 rintro x s' ⟨rfl,k,a,rfl,hsub⟩
 try dsimp only at h
 refine Goes.sub hsub ?_
 obtain⟨e,f,h⟩:=bnd h
 refine sq (gr fol [3] [(2,.i (w64 (a+(w64 (e.toNat:Int)))))] (ac (hs (.done (.opt (yP ZT 9 (.str [0,1,2,2,3,3,3,3,4,4,4,4,4,4,4,4,5,5,5,5,5,5,5,5,5,5,5,5,5,5,5,5,6,6,6,6,6,6,6,6,6,6,6,6,6,6,6,6,6,6,6,6,6,6,6,6,6,6,6,6,6,6,6,6,7,7,7,7,7,7,7,7,7,7,7,7,7,7,7,7,7,7,7,7,7,7,7,7,7,7,7,7,7,7,7,7,7,7,7,7,7,7,7,7,7,7,7,7,7,7,7,7,7,7,7,7,7,7,7,7,7,7,7,7,7,7,7,7,8,8,8,8,8,8,8,8,8,8,8,8,8,8,8,8,8,8,8,8,8,8,8,8,8,8,8,8,8,8,8,8,8,8,8,8,8,8,8,8,8,8,8,8,8,8,8,8,8,8,8,8,8,8,8,8,8,8,8,8,8,8,8,8,8,8,8,8,8,8,8,8,8,8,8,8,8,8,8,8,8,8,8,8,8,8,8,8,8,8,8,8,8,8,8,8,8,8,8,8,8,8,8,8,8,8,8,8,8,8,8,8,8,8,8,8,8,8,8,8,8,8,8,8,8,8,8,8]) (.int .u8 (IntKind.wrap .u8 k)))) (.int .u8 (e.toNat:Int))) (qaX st9 f)) az) ?_)
 refine Goes.ret ?_
 obtain rfl:=si h
 exact(gw2 [.i (w64 (a+(w64 (e.toNat:Int))))] (Ua tI))
def bits_LeadingZeros64 (a:Int):Option Int:=
 (bits_Len64 a).bind fun b=>
 some (w64 (64-b))
theorem xW (a:Int) {res:Int} (h:bits_LeadingZeros64 a=some res):qc ZT (.fn 272) [.int .u64 a] [] (.i res) []:=by
 unfold bits_LeadingZeros64 at h
 refine Ub Tryz.func272 rfl rfl (m:=6) rfl (rs:=[.tmp 2]) rfl (l:=[(0,.int .u64 a)]) rfl ?_
 refine sh fol [(0,.int .u64 a)] ?_
 obtain⟨c,b,h⟩:=bnd h
 refine sq (gr fol [1] [(2,.i (w64 (64-c)))] (ac (cv (qc8 a b)) az) ?_)
 refine Goes.ret ?_
 obtain rfl:=si h
 exact(gw2 [.i (w64 (64-c))] (Ua tI))
def vE (d:Int) (c:Int):Nat->Int->Int->Option Int
 |0,_,_=>none
 |K+1,a,b=>
  (if a>=4294967296 then
  some true
  else
  some (decide ((IntKind.wrap .u64 (a*(qz .u64 d 4294967295)))>(IntKind.wrap .u64 ((IntKind.wrap .u64 (4294967296*b))+(qm .u64 c 32))))):Option Bool).bind fun e=>
  if e=true then
  if(IntKind.wrap .u64 (b+(qm .u64 d 32)))>=4294967296 then
  some (IntKind.wrap .u64 (a-1))
  else
  vE d c K (IntKind.wrap .u64 (a-1)) (IntKind.wrap .u64 (b+(qm .u64 d 32)))
  else
  some a
def vH (d:Int) (c:Int):Nat->Int->Int->Option Int
 |0,_,_=>none
 |K+1,b,a=>
  (if a>=4294967296 then
  some true
  else
  some (decide ((IntKind.wrap .u64 (a*(qz .u64 d 4294967295)))>(IntKind.wrap .u64 ((IntKind.wrap .u64 (4294967296*b))+(qz .u64 c 4294967295))))):Option Bool).bind fun e=>
  if e=true then
  if(IntKind.wrap .u64 (b+(qm .u64 d 32)))>=4294967296 then
  some (IntKind.wrap .u64 (a-1))
  else
  vH d c K (IntKind.wrap .u64 (b+(qm .u64 d 32))) (IntKind.wrap .u64 (a-1))
  else
  some a
def xC (N:Nat) (hi:Int) (lo:Int) (y:Int):Option (Int×Int):=
 ((if y=0 then
 none
 else
 some ():Option Unit)).bind fun _=>
 ((if y<=hi then
 none
 else
 some ():Option Unit)).bind fun _=>
 if hi=0 then
 (qbO .u64 lo y).bind fun k=>
 (xk .u64 lo y).bind fun l=>
 some (k,l)
 else
 (bits_LeadingZeros64 y).bind fun f=>
 (qe7 .u64 y (IntKind.wrap .u64 f)).bind fun d=>
 (qe7 .u64 hi (IntKind.wrap .u64 f)).bind fun b=>
 (qhR .u64 lo (IntKind.wrap .u64 (64-(IntKind.wrap .u64 f)))).bind fun c=>
 (qe7 .u64 lo (IntKind.wrap .u64 f)).bind fun a=>
 (qbO .u64 (orI .u64 b c) (qm .u64 d 32)).bind fun g=>
 (vE d a N g (IntKind.wrap .u64 ((orI .u64 b c)-(IntKind.wrap .u64 (g*(qm .u64 d 32)))))).bind fun e=>
 (qbO .u64 (IntKind.wrap .u64 ((IntKind.wrap .u64 ((IntKind.wrap .u64 ((orI .u64 b c)*4294967296))+(qm .u64 a 32)))-(IntKind.wrap .u64 (e*d)))) (qm .u64 d 32)).bind fun h=>
 (vH d a N (IntKind.wrap .u64 ((IntKind.wrap .u64 ((IntKind.wrap .u64 ((IntKind.wrap .u64 ((orI .u64 b c)*4294967296))+(qm .u64 a 32)))-(IntKind.wrap .u64 (e*d))))-(IntKind.wrap .u64 (h*(qm .u64 d 32))))) h).bind fun i=>
 (qhR .u64 (IntKind.wrap .u64 ((IntKind.wrap .u64 ((IntKind.wrap .u64 ((IntKind.wrap .u64 ((IntKind.wrap .u64 ((IntKind.wrap .u64 ((orI .u64 b c)*4294967296))+(qm .u64 a 32)))-(IntKind.wrap .u64 (e*d))))*4294967296))+(qz .u64 a 4294967295)))-(IntKind.wrap .u64 (i*d)))) (IntKind.wrap .u64 f)).bind fun j=>
 some (IntKind.wrap .u64 ((IntKind.wrap .u64 (e*4294967296))+i),j)
theorem qc0 (N:Nat) (hi:Int) (lo:Int) (y:Int) {res:Int×Int} (h:xC N hi lo y=some res):qc ZT (.fn 271) (.int .u64 hi::(kA3 lo y)) [] (.tuple (kA3 res.1 res.2)) []:=by
 unfold xC at h
 refine Ub Tryz.func271 rfl rfl (m:=135) rfl (rs:=[.tmp 6,.tmp 7]) rfl (l:=(kT hi lo [(2,.int .u64 y)])) rfl ?_
 refine sh fol (kT hi lo [(2,.int .u64 y)]) ?_
 refine sq ?_
 refine sh fol (kT hi lo [(2,.int .u64 y),(20,.bool (decide (y=0)))]) ?_
 obtain⟨Z,g1,h⟩:=bnd h
 refine Goes.imp (Q:=fun x s'=>(x= .normal/\()=Z/\Sub s' (ofG 135 (kT hi lo [(2,.int .u64 y)]),[]))) ?_ ?_
 ·refine ihD g1 (fun c2 g1=>?_) (fun c2 g1=>?_)
  ·cases g1
  refine Goes.skip ?_
  obtain rfl:=si g1
  exact⟨rfl,rfl,(Sub.keep [0,1,2] rfl rfl)⟩
 rintro x s' ⟨rfl,rfl,hsub⟩
 refine Goes.sub hsub ?_
 refine sq ?_
 refine sh fol (kT hi lo [(2,.int .u64 y),(24,.bool (decide (y<=hi)))]) ?_
 obtain⟨r3,g3,h⟩:=bnd h
 refine Goes.imp (Q:=fun x s'=>(x= .normal/\()=r3/\Sub s' (ofG 135 (kT hi lo [(2,.int .u64 y)]),[]))) ?_ ?_
 ·refine ihD g3 (fun c4 g3=>?_) (fun c4 g3=>?_)
  ·cases g3
  refine Goes.skip ?_
  obtain rfl:=si g3
  exact⟨rfl,rfl,(Sub.keep [0,1,2] rfl rfl)⟩
 rintro x s' ⟨rfl,rfl,hsub⟩
 refine Goes.sub hsub ?_
 refine sq ?_
 refine sh fol (kT hi lo [(2,.int .u64 y),(27,.bool (decide (hi=0)))]) ?_
 refine ihD h (fun c5 h=>?_) (fun c5 h=>?_)
 ·obtain⟨K,E,h⟩:=bnd h
  obtain⟨L,F,h⟩:=bnd h
  refine sq (gr fol [2,5] (kAF K (kAO L [])) (ac (hs (.done (.opt (zb ZT .quo 252 (.tmp 28) (.tmp 29) (.int .u64 lo) (.int .u64 y))) (.int .u64 K)) (qbP E)) (ac (hs (.done (.opt (zb ZT .rem 252 (.tmp 31) (.tmp 32) (.int .u64 lo) (.int .u64 y))) (.int .u64 L)) (qan F)) az)) ?_)
  refine Goes.ret ?_
  obtain rfl:=si h
  exact(gw2 (kA3 K L) (FzW.tuple (qg.cons (Ua tI) (qg.cons (Ua tI) qg.nil))))
 refine Goes.skip ?_
 obtain⟨f,G,h⟩:=bnd h
 refine sq (gr fol [1] (kT hi lo [(2,.int .u64 y),(8,.int .u64 (IntKind.wrap .u64 f))]) (ac (cv (xW y G)) az) ?_)
 obtain⟨b,H,h⟩:=bnd h
 refine sq (gr fol [2] (kT hi lo [(2,.int .u64 b),(8,.int .u64 (IntKind.wrap .u64 f))]) (ac (hs (.done (.opt (zb ZT .shl 252 (.tmp 37) (.tmp 38) (.int .u64 y) (.int .u64 (IntKind.wrap .u64 f)))) (.int .u64 b)) (qdB H)) az) ?_)
 refine sh fol (kT hi lo [(2,.int .u64 b),(8,.int .u64 (IntKind.wrap .u64 f)),(9,.int .u64 (qm .u64 b 32))]) ?_
 refine sh fol (kT hi lo (kH b (IntKind.wrap .u64 f) (qm .u64 b 32) (qz .u64 b 4294967295) [])) ?_
 obtain⟨c,t,h⟩:=bnd h
 obtain⟨d,u,h⟩:=bnd h
 refine sq (gr fol [2,6] ((1,.int .u64 lo)::(kH b (IntKind.wrap .u64 f) (qm .u64 b 32) (qz .u64 b 4294967295) [(11,.int .u64 (orI .u64 c d))])) (ac (hs (.done (.opt (zb ZT .shl 252 (.tmp 44) (.tmp 45) (.int .u64 hi) (.int .u64 (IntKind.wrap .u64 f)))) (.int .u64 c)) (qdB t)) (ac (hs (.done (.opt (zb ZT .shr 252 (.tmp 47) (.tmp 49) (.int .u64 lo) (.int .u64 (IntKind.wrap .u64 (64-(IntKind.wrap .u64 f)))))) (.int .u64 d)) (qeJ u)) az)) ?_)
 obtain⟨a,v,h⟩:=bnd h
 refine sq (gr fol [2] (kH b (IntKind.wrap .u64 f) (qm .u64 b 32) (qz .u64 b 4294967295) (kU (orI .u64 c d) a [])) (ac (hs (.done (.opt (zb ZT .shl 252 (.tmp 52) (.tmp 53) (.int .u64 lo) (.int .u64 (IntKind.wrap .u64 f)))) (.int .u64 a)) (qdB v)) az) ?_)
 refine sh fol (kH b (IntKind.wrap .u64 f) (qm .u64 b 32) (qz .u64 b 4294967295) (kU (orI .u64 c d) a [(13,.int .u64 (qm .u64 a 32))])) ?_
 refine sh fol (kH b (IntKind.wrap .u64 f) (qm .u64 b 32) (qz .u64 b 4294967295) (kAJ (orI .u64 c d) (qm .u64 a 32) [(14,.int .u64 (qz .u64 a 4294967295))])) ?_
 obtain⟨q,w,h⟩:=bnd h
 refine sq (gr fol [2] (kH b (IntKind.wrap .u64 f) (qm .u64 b 32) (qz .u64 b 4294967295) (kAJ (orI .u64 c d) (qm .u64 a 32) (kAk (qz .u64 a 4294967295) q []))) (ac (hs (.done (.opt (zb ZT .quo 252 (.tmp 59) (.tmp 60) (.int .u64 (orI .u64 c d)) (.int .u64 (qm .u64 b 32)))) (.int .u64 q)) (qbP w)) az) ?_)
 refine sh fol (kH b (IntKind.wrap .u64 f) (qm .u64 b 32) (qz .u64 b 4294967295) (kAJ (orI .u64 c d) (qm .u64 a 32) (kN (qz .u64 a 4294967295) q (IntKind.wrap .u64 ((orI .u64 c d)-(IntKind.wrap .u64 (q*(qm .u64 b 32))))) []))) ?_
 refine sq (Goes.block ?_)
 obtain⟨I,g17,h⟩:=bnd h
 refine Goes.imp (Q:=fun x s'=>(x= .exit 0/\ ∃e,e=I/\Sub s' (ofG 135 (kH b (IntKind.wrap .u64 f) (qm .u64 b 32) (qz .u64 b 4294967295) (kAJ (orI .u64 c d) (qm .u64 a 32) (kAk (qz .u64 a 4294967295) e []))),[]))) ?_ ?_
 ·refine Uc (fun M s=> ∃(j:Int) (g:Int),s=(ofG 135 (kH b (IntKind.wrap .u64 f) (qm .u64 b 32) (qz .u64 b 4294967295) (kAJ (orI .u64 c d) (qm .u64 a 32) (kN (qz .u64 a 4294967295) j g []))),[])/\vE b a M j g=some I) ?_ (m:=N) ⟨_,_,rfl,g17⟩
  rintro M s ⟨j,g,rfl,g17⟩
  cases M with
  |zero=>simp only[vE]at g17;cases g17
  |succ M=>
   rw[vE]at g17
   refine sq ?_
   refine sq ?_
   obtain⟨O,k,g17⟩:=bnd g17
   refine Goes.cut (s':=(ofG 135 (kH b (IntKind.wrap .u64 f) (qm .u64 b 32) (qz .u64 b 4294967295) (kAJ (orI .u64 c d) (qm .u64 a 32) (kN (qz .u64 a 4294967295) j g [(78,.bool O)]))),[])) ?_ ?_
   ·rcases wyD k with⟨z,k⟩|⟨z,k⟩
    ·obtain rfl:=si k
     exact tr fol [2] (kH b (IntKind.wrap .u64 f) (qm .u64 b 32) (qz .u64 b 4294967295) (kAJ (orI .u64 c d) (qm .u64 a 32) (kN (qz .u64 a 4294967295) j g [(78,.bool true)]))) (ac (gw z) az)
    obtain rfl:=si k
    exact tr fol [2] (kH b (IntKind.wrap .u64 f) (qm .u64 b 32) (qz .u64 b 4294967295) (kAJ (orI .u64 c d) (qm .u64 a 32) (kN (qz .u64 a 4294967295) j g [(78,.bool (decide ((IntKind.wrap .u64 (j*(qz .u64 b 4294967295)))>(IntKind.wrap .u64 ((IntKind.wrap .u64 (4294967296*g))+(qm .u64 a 32))))))]))) (ac (gw z) az)
   refine ihB g17 (fun P g17=>?_) (fun P g17=>?_)
   ·refine Goes.skip ?_
    refine Goes.block ?_
    refine sh fol (kH b (IntKind.wrap .u64 f) (qm .u64 b 32) (qz .u64 b 4294967295) (kAJ (orI .u64 c d) (qm .u64 a 32) (kN (qz .u64 a 4294967295) (IntKind.wrap .u64 (j-1)) g []))) ?_
    refine sh fol (kH b (IntKind.wrap .u64 f) (qm .u64 b 32) (qz .u64 b 4294967295) (kAJ (orI .u64 c d) (qm .u64 a 32) (kN (qz .u64 a 4294967295) (IntKind.wrap .u64 (j-1)) (IntKind.wrap .u64 (g+(qm .u64 b 32))) []))) ?_
    refine sh fol (kH b (IntKind.wrap .u64 f) (qm .u64 b 32) (qz .u64 b 4294967295) (kAJ (orI .u64 c d) (qm .u64 a 32) (kN (qz .u64 a 4294967295) (IntKind.wrap .u64 (j-1)) (IntKind.wrap .u64 (g+(qm .u64 b 32))) [(85,.bool (decide ((IntKind.wrap .u64 (g+(qm .u64 b 32)))>=4294967296)))]))) ?_
    refine ihD g17 (fun U g17=>?_) (fun U g17=>?_)
    ·refine Goes.exit ?_
     obtain rfl:=si g17
     exact⟨rfl,_,rfl,(Sub.keep [2,8,9,10,11,13,14,15] rfl rfl)⟩
    refine Goes.skip ?_
    exact⟨M,(ofG 135 (kH b (IntKind.wrap .u64 f) (qm .u64 b 32) (qz .u64 b 4294967295) (kAJ (orI .u64 c d) (qm .u64 a 32) (kN (qz .u64 a 4294967295) (IntKind.wrap .u64 (j-1)) (IntKind.wrap .u64 (g+(qm .u64 b 32))) []))),[]),Nat.lt_succ_self _,(Sub.keep [2,8,9,10,11,13,14,15,16] rfl rfl),_,_,rfl,g17⟩
   refine Goes.exit ?_
   obtain rfl:=si g17
   exact⟨rfl,_,rfl,(Sub.keep [2,8,9,10,11,13,14,15] rfl rfl)⟩
 rintro x s' ⟨rfl,e,rfl,hsub⟩
 refine Goes.sub hsub ?_
 refine sh fol (kH b (IntKind.wrap .u64 f) (qm .u64 b 32) (qz .u64 b 4294967295) (kAk (qz .u64 a 4294967295) e [(17,.int .u64 (IntKind.wrap .u64 ((IntKind.wrap .u64 ((IntKind.wrap .u64 ((orI .u64 c d)*4294967296))+(qm .u64 a 32)))-(IntKind.wrap .u64 (e*b)))))])) ?_
 obtain⟨r,A,h⟩:=bnd h
 refine sq (gr fol [2] (kH b (IntKind.wrap .u64 f) (qm .u64 b 32) (qz .u64 b 4294967295) (kAk (qz .u64 a 4294967295) e (kAL (IntKind.wrap .u64 ((IntKind.wrap .u64 ((IntKind.wrap .u64 ((orI .u64 c d)*4294967296))+(qm .u64 a 32)))-(IntKind.wrap .u64 (e*b)))) r []))) (ac (hs (.done (.opt (zb ZT .quo 252 (.tmp 94) (.tmp 95) (.int .u64 (IntKind.wrap .u64 ((IntKind.wrap .u64 ((IntKind.wrap .u64 ((orI .u64 c d)*4294967296))+(qm .u64 a 32)))-(IntKind.wrap .u64 (e*b))))) (.int .u64 (qm .u64 b 32)))) (.int .u64 r)) (qbP A)) az) ?_)
 refine sh fol (kH b (IntKind.wrap .u64 f) (qm .u64 b 32) (qz .u64 b 4294967295) (kN (qz .u64 a 4294967295) e (IntKind.wrap .u64 ((IntKind.wrap .u64 ((IntKind.wrap .u64 ((IntKind.wrap .u64 ((orI .u64 c d)*4294967296))+(qm .u64 a 32)))-(IntKind.wrap .u64 (e*b))))-(IntKind.wrap .u64 (r*(qm .u64 b 32))))) (kAL (IntKind.wrap .u64 ((IntKind.wrap .u64 ((IntKind.wrap .u64 ((orI .u64 c d)*4294967296))+(qm .u64 a 32)))-(IntKind.wrap .u64 (e*b)))) r []))) ?_
 refine sq (Goes.block ?_)
 obtain⟨J,g27,h⟩:=bnd h
 refine Goes.imp (Q:=fun x s'=>(x= .exit 2/\ ∃p,p=J/\Sub s' (ofG 135 ((2,.int .u64 b)::(8,.int .u64 (IntKind.wrap .u64 f))::(kAk (qz .u64 a 4294967295) e (kAL (IntKind.wrap .u64 ((IntKind.wrap .u64 ((IntKind.wrap .u64 ((orI .u64 c d)*4294967296))+(qm .u64 a 32)))-(IntKind.wrap .u64 (e*b)))) p []))),[]))) ?_ ?_
 ·refine Uc (fun M s=> ∃(i:Int) (n:Int),s=(ofG 135 (kH b (IntKind.wrap .u64 f) (qm .u64 b 32) (qz .u64 b 4294967295) (kN (qz .u64 a 4294967295) e i (kAL (IntKind.wrap .u64 ((IntKind.wrap .u64 ((IntKind.wrap .u64 ((orI .u64 c d)*4294967296))+(qm .u64 a 32)))-(IntKind.wrap .u64 (e*b)))) n []))),[])/\vH b a M i n=some J) ?_ (m:=N) ⟨_,_,rfl,g27⟩
  rintro M s ⟨i,n,rfl,g27⟩
  cases M with
  |zero=>simp only[vH]at g27;cases g27
  |succ M=>
   rw[vH]at g27
   refine sq ?_
   refine sq ?_
   obtain⟨V,o,g27⟩:=bnd g27
   refine Goes.cut (s':=(ofG 135 (kH b (IntKind.wrap .u64 f) (qm .u64 b 32) (qz .u64 b 4294967295) (kN (qz .u64 a 4294967295) e i (kAL (IntKind.wrap .u64 ((IntKind.wrap .u64 ((IntKind.wrap .u64 ((orI .u64 c d)*4294967296))+(qm .u64 a 32)))-(IntKind.wrap .u64 (e*b)))) n [(113,.bool V)]))),[])) ?_ ?_
   ·rcases wyD o with⟨B,o⟩|⟨B,o⟩
    ·obtain rfl:=si o
     exact tr fol [2] (kH b (IntKind.wrap .u64 f) (qm .u64 b 32) (qz .u64 b 4294967295) (kN (qz .u64 a 4294967295) e i (kAL (IntKind.wrap .u64 ((IntKind.wrap .u64 ((IntKind.wrap .u64 ((orI .u64 c d)*4294967296))+(qm .u64 a 32)))-(IntKind.wrap .u64 (e*b)))) n [(113,.bool true)]))) (ac (gw B) az)
    obtain rfl:=si o
    exact tr fol [2] (kH b (IntKind.wrap .u64 f) (qm .u64 b 32) (qz .u64 b 4294967295) (kN (qz .u64 a 4294967295) e i (kAL (IntKind.wrap .u64 ((IntKind.wrap .u64 ((IntKind.wrap .u64 ((orI .u64 c d)*4294967296))+(qm .u64 a 32)))-(IntKind.wrap .u64 (e*b)))) n [(113,.bool (decide ((IntKind.wrap .u64 (n*(qz .u64 b 4294967295)))>(IntKind.wrap .u64 ((IntKind.wrap .u64 (4294967296*i))+(qz .u64 a 4294967295))))))]))) (ac (gw B) az)
   refine ihB g27 (fun X g27=>?_) (fun X g27=>?_)
   ·refine Goes.skip ?_
    refine Goes.block ?_
    refine sh fol (kH b (IntKind.wrap .u64 f) (qm .u64 b 32) (qz .u64 b 4294967295) (kN (qz .u64 a 4294967295) e i (kAL (IntKind.wrap .u64 ((IntKind.wrap .u64 ((IntKind.wrap .u64 ((orI .u64 c d)*4294967296))+(qm .u64 a 32)))-(IntKind.wrap .u64 (e*b)))) (IntKind.wrap .u64 (n-1)) []))) ?_
    refine sh fol (kH b (IntKind.wrap .u64 f) (qm .u64 b 32) (qz .u64 b 4294967295) (kN (qz .u64 a 4294967295) e (IntKind.wrap .u64 (i+(qm .u64 b 32))) (kAL (IntKind.wrap .u64 ((IntKind.wrap .u64 ((IntKind.wrap .u64 ((orI .u64 c d)*4294967296))+(qm .u64 a 32)))-(IntKind.wrap .u64 (e*b)))) (IntKind.wrap .u64 (n-1)) []))) ?_
    refine sh fol (kH b (IntKind.wrap .u64 f) (qm .u64 b 32) (qz .u64 b 4294967295) (kN (qz .u64 a 4294967295) e (IntKind.wrap .u64 (i+(qm .u64 b 32))) (kAL (IntKind.wrap .u64 ((IntKind.wrap .u64 ((IntKind.wrap .u64 ((orI .u64 c d)*4294967296))+(qm .u64 a 32)))-(IntKind.wrap .u64 (e*b)))) (IntKind.wrap .u64 (n-1)) [(120,.bool (decide ((IntKind.wrap .u64 (i+(qm .u64 b 32)))>=4294967296)))]))) ?_
    refine ihD g27 (fun Y g27=>?_) (fun Y g27=>?_)
    ·refine Goes.exit ?_
     obtain rfl:=si g27
     exact⟨rfl,_,rfl,(Sub.keep [2,8,14,15,17,18] rfl rfl)⟩
    refine Goes.skip ?_
    exact⟨M,(ofG 135 (kH b (IntKind.wrap .u64 f) (qm .u64 b 32) (qz .u64 b 4294967295) (kN (qz .u64 a 4294967295) e (IntKind.wrap .u64 (i+(qm .u64 b 32))) (kAL (IntKind.wrap .u64 ((IntKind.wrap .u64 ((IntKind.wrap .u64 ((orI .u64 c d)*4294967296))+(qm .u64 a 32)))-(IntKind.wrap .u64 (e*b)))) (IntKind.wrap .u64 (n-1)) []))),[]),Nat.lt_succ_self _,(Sub.keep [2,8,9,10,14,15,16,17,18] rfl rfl),_,_,rfl,g27⟩
   refine Goes.exit ?_
   obtain rfl:=si g27
   exact⟨rfl,_,rfl,(Sub.keep [2,8,14,15,17,18] rfl rfl)⟩
 rintro x s' ⟨rfl,p,rfl,hsub⟩
 refine Goes.sub hsub ?_
 obtain⟨C,D,h⟩:=bnd h
 refine sq (gr fol [13] (kAF (IntKind.wrap .u64 ((IntKind.wrap .u64 (e*4294967296))+p)) (kAO C [])) (ac (hs (.done (.opt (zb ZT .shr 252 (.tmp 132) (.tmp 133) (.int .u64 (IntKind.wrap .u64 ((IntKind.wrap .u64 ((IntKind.wrap .u64 ((IntKind.wrap .u64 ((IntKind.wrap .u64 ((IntKind.wrap .u64 ((orI .u64 c d)*4294967296))+(qm .u64 a 32)))-(IntKind.wrap .u64 (e*b))))*4294967296))+(qz .u64 a 4294967295)))-(IntKind.wrap .u64 (p*b))))) (.int .u64 (IntKind.wrap .u64 f)))) (.int .u64 C)) (qeJ D)) az) ?_)
 refine Goes.ret ?_
 obtain rfl:=si h
 exact(gw2 (kA3 (IntKind.wrap .u64 ((IntKind.wrap .u64 (e*4294967296))+p)) C) (FzW.tuple (qg.cons (Ua tI) (qg.cons (Ua tI) qg.nil))))
def bits_Mul64 (a:Int) (y:Int):Option (Int×Int):=
 some (IntKind.wrap .u64 ((IntKind.wrap .u64 ((IntKind.wrap .u64 ((qm .u64 a 32)*(qm .u64 y 32)))+(qm .u64 (IntKind.wrap .u64 ((IntKind.wrap .u64 ((qm .u64 a 32)*(qz .u64 y 4294967295)))+(qm .u64 (IntKind.wrap .u64 ((qz .u64 a 4294967295)*(qz .u64 y 4294967295))) 32))) 32)))+(qm .u64 (IntKind.wrap .u64 ((qz .u64 (IntKind.wrap .u64 ((IntKind.wrap .u64 ((qm .u64 a 32)*(qz .u64 y 4294967295)))+(qm .u64 (IntKind.wrap .u64 ((qz .u64 a 4294967295)*(qz .u64 y 4294967295))) 32))) 4294967295)+(IntKind.wrap .u64 ((qz .u64 a 4294967295)*(qm .u64 y 32))))) 32)),IntKind.wrap .u64 (a*y))
theorem qam (a:Int) (y:Int) {res:Int×Int} (h:bits_Mul64 a y=some res):qc ZT (.fn 191) (kA3 a y) [] (.tuple (kA3 res.1 res.2)) []:=by
 unfold bits_Mul64 at h
 refine Ub Tryz.func191 rfl rfl (m:=51) rfl (rs:=[.tmp 4,.tmp 5]) rfl (l:=(kT a y [])) rfl ?_
 refine sh fol (kT a y []) ?_
 refine sh fol (kT a y (kAF (qz .u64 a 4294967295) [])) ?_
 refine sh fol (kT a y (kAF (qz .u64 a 4294967295) (kAO (qm .u64 a 32) []))) ?_
 refine sh fol (kT a y (kAF (qz .u64 a 4294967295) (kW (qm .u64 a 32) (qz .u64 y 4294967295) []))) ?_
 refine sh fol (kT a y (kAF (qz .u64 a 4294967295) (kW (qm .u64 a 32) (qz .u64 y 4294967295) [(9,.int .u64 (qm .u64 y 32))]))) ?_
 refine sh fol (kT a y (kAF (qz .u64 a 4294967295) (kW (qm .u64 a 32) (qz .u64 y 4294967295) [(9,.int .u64 (qm .u64 y 32)),(10,.int .u64 (IntKind.wrap .u64 ((qz .u64 a 4294967295)*(qz .u64 y 4294967295))))]))) ?_
 refine sh fol (kT a y (kAF (qz .u64 a 4294967295) (kAO (qm .u64 a 32) [(9,.int .u64 (qm .u64 y 32)),(11,.int .u64 (IntKind.wrap .u64 ((IntKind.wrap .u64 ((qm .u64 a 32)*(qz .u64 y 4294967295)))+(qm .u64 (IntKind.wrap .u64 ((qz .u64 a 4294967295)*(qz .u64 y 4294967295))) 32))))]))) ?_
 refine sh fol (kT a y (kAF (qz .u64 a 4294967295) (kAO (qm .u64 a 32) ((9,.int .u64 (qm .u64 y 32))::(kU (IntKind.wrap .u64 ((IntKind.wrap .u64 ((qm .u64 a 32)*(qz .u64 y 4294967295)))+(qm .u64 (IntKind.wrap .u64 ((qz .u64 a 4294967295)*(qz .u64 y 4294967295))) 32))) (qz .u64 (IntKind.wrap .u64 ((IntKind.wrap .u64 ((qm .u64 a 32)*(qz .u64 y 4294967295)))+(qm .u64 (IntKind.wrap .u64 ((qz .u64 a 4294967295)*(qz .u64 y 4294967295))) 32))) 4294967295) []))))) ?_
 refine sh fol (kT a y (kAF (qz .u64 a 4294967295) (kAO (qm .u64 a 32) [(9,.int .u64 (qm .u64 y 32)),(12,.int .u64 (qz .u64 (IntKind.wrap .u64 ((IntKind.wrap .u64 ((qm .u64 a 32)*(qz .u64 y 4294967295)))+(qm .u64 (IntKind.wrap .u64 ((qz .u64 a 4294967295)*(qz .u64 y 4294967295))) 32))) 4294967295)),(13,.int .u64 (qm .u64 (IntKind.wrap .u64 ((IntKind.wrap .u64 ((qm .u64 a 32)*(qz .u64 y 4294967295)))+(qm .u64 (IntKind.wrap .u64 ((qz .u64 a 4294967295)*(qz .u64 y 4294967295))) 32))) 32))]))) ?_
 refine sh fol (kT a y (kAO (qm .u64 a 32) [(9,.int .u64 (qm .u64 y 32)),(12,.int .u64 (IntKind.wrap .u64 ((qz .u64 (IntKind.wrap .u64 ((IntKind.wrap .u64 ((qm .u64 a 32)*(qz .u64 y 4294967295)))+(qm .u64 (IntKind.wrap .u64 ((qz .u64 a 4294967295)*(qz .u64 y 4294967295))) 32))) 4294967295)+(IntKind.wrap .u64 ((qz .u64 a 4294967295)*(qm .u64 y 32)))))),(13,.int .u64 (qm .u64 (IntKind.wrap .u64 ((IntKind.wrap .u64 ((qm .u64 a 32)*(qz .u64 y 4294967295)))+(qm .u64 (IntKind.wrap .u64 ((qz .u64 a 4294967295)*(qz .u64 y 4294967295))) 32))) 32))])) ?_
 refine sh fol (kT a y [(4,.int .u64 (IntKind.wrap .u64 ((IntKind.wrap .u64 ((IntKind.wrap .u64 ((qm .u64 a 32)*(qm .u64 y 32)))+(qm .u64 (IntKind.wrap .u64 ((IntKind.wrap .u64 ((qm .u64 a 32)*(qz .u64 y 4294967295)))+(qm .u64 (IntKind.wrap .u64 ((qz .u64 a 4294967295)*(qz .u64 y 4294967295))) 32))) 32)))+(qm .u64 (IntKind.wrap .u64 ((qz .u64 (IntKind.wrap .u64 ((IntKind.wrap .u64 ((qm .u64 a 32)*(qz .u64 y 4294967295)))+(qm .u64 (IntKind.wrap .u64 ((qz .u64 a 4294967295)*(qz .u64 y 4294967295))) 32))) 4294967295)+(IntKind.wrap .u64 ((qz .u64 a 4294967295)*(qm .u64 y 32))))) 32))))]) ?_
 refine sh fol [(4,.int .u64 (IntKind.wrap .u64 ((IntKind.wrap .u64 ((IntKind.wrap .u64 ((qm .u64 a 32)*(qm .u64 y 32)))+(qm .u64 (IntKind.wrap .u64 ((IntKind.wrap .u64 ((qm .u64 a 32)*(qz .u64 y 4294967295)))+(qm .u64 (IntKind.wrap .u64 ((qz .u64 a 4294967295)*(qz .u64 y 4294967295))) 32))) 32)))+(qm .u64 (IntKind.wrap .u64 ((qz .u64 (IntKind.wrap .u64 ((IntKind.wrap .u64 ((qm .u64 a 32)*(qz .u64 y 4294967295)))+(qm .u64 (IntKind.wrap .u64 ((qz .u64 a 4294967295)*(qz .u64 y 4294967295))) 32))) 4294967295)+(IntKind.wrap .u64 ((qz .u64 a 4294967295)*(qm .u64 y 32))))) 32)))),(5,.int .u64 (IntKind.wrap .u64 (a*y)))] ?_
 refine Goes.ret ?_
 obtain rfl:=si h
 exact(gw2 (kA3 (IntKind.wrap .u64 ((IntKind.wrap .u64 ((IntKind.wrap .u64 ((qm .u64 a 32)*(qm .u64 y 32)))+(qm .u64 (IntKind.wrap .u64 ((IntKind.wrap .u64 ((qm .u64 a 32)*(qz .u64 y 4294967295)))+(qm .u64 (IntKind.wrap .u64 ((qz .u64 a 4294967295)*(qz .u64 y 4294967295))) 32))) 32)))+(qm .u64 (IntKind.wrap .u64 ((qz .u64 (IntKind.wrap .u64 ((IntKind.wrap .u64 ((qm .u64 a 32)*(qz .u64 y 4294967295)))+(qm .u64 (IntKind.wrap .u64 ((qz .u64 a 4294967295)*(qz .u64 y 4294967295))) 32))) 4294967295)+(IntKind.wrap .u64 ((qz .u64 a 4294967295)*(qm .u64 y 32))))) 32))) (IntKind.wrap .u64 (a*y))) (FzW.tuple (qg.cons (Ua tI) (qg.cons (Ua tI) qg.nil))))
def zD (b:List Int) (a:Int):Nat->(List Int)->Int->Option (List Int)
 |0,_,_=>none
 |K+1,f,c=>
  if c<(b.length:Int)then
  (((idx b c).bind fun e=>
  (idx f c).bind fun g=>
  (qe7 .u64 e a).bind fun h=>
  (put f c (orI .u64 g h)).bind fun d=>
  if a>0 then
  (qhR .u64 e (w64 (64-a))).bind fun i=>
  (idx d (w64 (c+1))).bind fun k=>
  (put d (w64 (c+1)) i).bind fun j=>
  some j
  else
  some d:Option (List Int))).bind fun l=>
  zD b a K l (w64 (c+1))
  else
  some f
def vK (N:Nat) (a:List Int) (b:Int):Option (List Int):=
 (mk 8 (w64 ((a.length:Int)+1)) 0).bind fun c=>
 (zD a b N c 0).bind fun d=>
 some d
theorem qa8 (N:Nat) (a:List Int) (b:Int) {G:List Int} (h:vK N a b=some G):qc ZT (.fn 273) [vl (qa .u64) a,.i b] [] (.slice 0 0 G.length G.length 1) [.cells (G.flatMap (qa .u64).c)]:=by
 unfold vK at h
 refine Goes.fnH Tryz.func273 rfl rfl (m:=40) rfl (rs:=[.tmp 4]) rfl (l:=[(0,vl (qa .u64) a),(1,.i b)]) rfl ?_
 intro B hB
 refine sh fol [(0,vl (qa .u64) a),(1,.i b)] ?_
 obtain⟨D,F,h⟩:=bnd h
 refine sq (gq fol [3] ((0,vl (qa .u64) a)::(1,.i b)::(kC D [])) [.cells (D.flatMap (qa .u64).c)] (ac (hs (.run [] (zt ZT 126 (.i (w64 ((a.length:Int)+1))) (.i (w64 ((a.length:Int)+1)))) [] (.slice 0 0 D.length D.length 1) [.cells (D.flatMap (qa .u64).c)] false) (qaA qD (E:=(qa .u64)) (z:=0) rfl (by kernel_rfl) F rfl)) az) ?_)
 refine sq ?_
 refine sh fol ((1,.i b)::(kC D [(12,vl (qa .u64) a),(13,.i (a.length:Int)),(14,.i 0)])) ?_
 refine Goes.block ?_
 obtain⟨I,g6,h⟩:=bnd h
 refine Goes.imp (Q:=fun x s'=>(x= .exit 0/\ ∃r,r=I/\Sub s' (ofG 40 (kC r []),[.cells (r.flatMap (qa .u64).c)]))) ?_ ?_
 ·refine Uc (fun M s=> ∃(g:List Int) (d:Int),s=(ofG 40 ((1,.i b)::(kC g ((12,vl (qa .u64) a)::(kAG (a.length:Int) d)))),[.cells (g.flatMap (qa .u64).c)])/\zD a b M g d=some I) ?_ (m:=N) ⟨_,_,rfl,g6⟩
  rintro M s ⟨g,d,rfl,g6⟩
  cases M with
  |zero=>simp only[zD]at g6;cases g6
  |succ M=>
   rw[zD]at g6
   refine sh fol ((1,.i b)::(kC g [(12,vl (qa .u64) a),(13,.i (a.length:Int)),(14,.i d),(15,.bool (decide (d<(a.length:Int))))])) ?_
   refine sq ?_
   refine ihD g6 (fun J g6=>?_) (fun J g6=>?_)
   ·refine Goes.skip ?_
    refine sq ?_
    obtain⟨K,g9,g6⟩:=bnd g6
    refine Goes.imp (Q:=fun x s'=>(x= .normal/\ ∃t,t=K/\Sub s' (ofG 40 ((1,.i b)::(kC t ((12,vl (qa .u64) a)::(kAG (a.length:Int) d)))),[.cells (t.flatMap (qa .u64).c)]))) ?_ ?_
    ·refine Goes.block ?_
     obtain⟨j,k,g9⟩:=bnd g9
     refine sq (gr fol [1,2] ((1,.i b)::(kC g ((6,.i d)::(kAO j ((12,vl (qa .u64) a)::(kAG (a.length:Int) d)))))) (ac (iv qD (qa .u64) k) (ac (lv 0 zH (qa .u64) k rfl) az)) ?_)
     obtain⟨u,f,g9⟩:=bnd g9
     obtain⟨v,w,g9⟩:=bnd g9
     obtain⟨e,n,g9⟩:=bnd g9
     refine sq (gq fol [2,3,6,8,9] ((1,.i b)::(kC g ((6,.i d)::(kAO j ((12,vl (qa .u64) a)::(kAG (a.length:Int) d)))))) [.cells (e.flatMap (qa .u64).c)] (ac (hs (.done (.opt (qb ZT 126 (.slice 0 0 g.length g.length 1) (.i d))) (.ptr 0 ((d:Int).toNat*1+0))) (vZ qD f)) (ac (hs (.run [0] (zJ ZT 252 (.ptr 0 ((d:Int).toNat*1+0))) [.cells (g.flatMap (qa .u64).c)] (.int .u64 u) [.cells (g.flatMap (qa .u64).c)] false) (qaC zH (E:=(qa .u64)) (l:=g) rfl rfl f (nl rfl) rfl)) (ac (hs (.done (.opt (zb ZT .shl 252 (.tmp 23) (.tmp 24) (.int .u64 j) (.i b))) (.int .u64 v)) (qdB w)) (ac (hs (.done (.opt (qb ZT 126 (.slice 0 0 g.length g.length 1) (.i d))) (.ptr 0 ((d:Int).toNat*1+0))) (vZ qD f)) (ac (hs (.run [0] (qx ZT 252 (.ptr 0 ((d:Int).toNat*1+0)) (.int .u64 (orI .u64 u v))) [.cells (g.flatMap (qa .u64).c)] .undef [.cells (e.flatMap (qa .u64).c)] true) (yc (E:=(qa .u64)) (l:=g) (y:=orI .u64 u v) rfl (show _=some 1 by kernel_rfl) rfl f rfl rfl rfl rfl rfl n rfl)) az))))) ?_)
     refine Goes.sub (show Sub (ofG 40 ((1,.i b)::(kC g ((6,.i d)::(kAO j ((12,vl (qa .u64) a)::(kAG (a.length:Int) d)))))),[.cells (e.flatMap (qa .u64).c)]) (ofG 40 ((1,.i b)::(kC e ((6,.i d)::(kAO j ((12,vl (qa .u64) a)::(kAG (a.length:Int) d)))))),[.cells (e.flatMap (qa .u64).c)])from(Sub.norm [] [some 0] (by rw[hB];rfl) rfl (.keep (.same nI) (.keep (.sliceE rfl (jg n)) (.keep (.same nI) (.keep (.same nI) (.keep (.same (qd (qa .u64) _)) (.keep (.same nI) (.keep (.same nI) .nil))))))) (.ks .nil))) ?_
     refine sh fol ((1,.i b)::(kC e ((6,.i d)::(kAO j [(12,vl (qa .u64) a),(13,.i (a.length:Int)),(14,.i d),(29,.bool (decide (b>0)))])))) ?_
     refine ihD g9 (fun H g9=>?_) (fun H g9=>?_)
     ·obtain⟨A,C,g9⟩:=bnd g9
      obtain⟨L,o,g9⟩:=bnd g9
      obtain⟨p,q,g9⟩:=bnd g9
      refine gq fol [6,7,8] ((1,.i b)::(kC e ((12,vl (qa .u64) a)::(kAG (a.length:Int) d)))) [.cells (p.flatMap (qa .u64).c)] (ac (hs (.done (.opt (zb ZT .shr 252 (.tmp 33) (.tmp 35) (.int .u64 j) (.i (w64 (64-b))))) (.int .u64 A)) (qeJ C)) (ac (hs (.done (.opt (qb ZT 126 (.slice 0 0 e.length e.length 1) (.i (w64 (d+1))))) (.ptr 0 ((w64 (d+1):Int).toNat*1+0))) (vZ qD o)) (ac (hs (.run [0] (qx ZT 252 (.ptr 0 ((w64 (d+1):Int).toNat*1+0)) (.int .u64 A)) [.cells (e.flatMap (qa .u64).c)] .undef [.cells (p.flatMap (qa .u64).c)] true) (yc (E:=(qa .u64)) (l:=e) (y:=A) rfl (show _=some 1 by kernel_rfl) rfl o rfl rfl rfl rfl rfl q rfl)) az))) ?_
      obtain rfl:=si g9
      exact⟨rfl,_,rfl,((show Sub (ofG 40 ((1,.i b)::(kC e ((12,vl (qa .u64) a)::(kAG (a.length:Int) d)))),[.cells (p.flatMap (qa .u64).c)]) (ofG 40 ((1,.i b)::(kC p ((12,vl (qa .u64) a)::(kAG (a.length:Int) d)))),[.cells (p.flatMap (qa .u64).c)])from(Sub.norm [] [some 0] (by rw[hB];rfl) rfl (.keep (.same nI) (.keep (.sliceE rfl (jg q)) (.keep (.same (qd (qa .u64) _)) (.keep (.same nI) (.keep (.same nI) .nil))))) (.ks .nil))).trans (Sub.refl _))⟩
     refine Goes.skip ?_
     obtain rfl:=si g9
     exact⟨rfl,_,rfl,(Sub.keep [1,5,12,13,14] rfl rfl)⟩
    rintro x s' ⟨rfl,t,rfl,hsub⟩
    refine Goes.sub hsub ?_
    refine gh fol ((1,.i b)::(kC t ((12,vl (qa .u64) a)::(kAG (a.length:Int) (w64 (d+1)))))) ?_
    exact⟨M,(ofG 40 ((1,.i b)::(kC t ((12,vl (qa .u64) a)::(kAG (a.length:Int) (w64 (d+1)))))),[.cells (t.flatMap (qa .u64).c)]),Nat.lt_succ_self _,(Sub.refl _),_,_,rfl,g6⟩
   refine Goes.exit ?_
   obtain rfl:=si g6
   exact⟨rfl,_,rfl,(Sub.keep [5] rfl rfl)⟩
 rintro x s' ⟨rfl,r,rfl,hsub⟩
 refine Goes.sub hsub ?_
 refine sh fol [(4,.slice 0 0 r.length r.length 1)] ?_
 refine Goes.ret ?_
 obtain rfl:=si h
 exact(gh2 [.slice 0 0 r.length r.length 1] (qcU.refl _ _))
def ve (e:List Int) (f:Nat) (g:Nat) (a:List Int):Nat->Int->Int->Int->Option Int
 |0,_,_,_=>none
 |K+1,b,c,i=>
  if i=0 then
  (idx a (w64 ((a.length:Int)-2))).bind fun j=>
  (bits_Mul64 b j).bind fun d=>
  (if d.1<c then
  some true
  else
  if d.1=c then
  (qdH e f g (w64 ((a.length:Int)-2))).bind fun k=>
  some (decide (d.2<=k))
  else
  some false:Option Bool).bind fun l=>
  if l=true then
  some b
  else
  (idx a (w64 ((a.length:Int)-1))).bind fun m=>
  (yH c m 0).bind fun h=>
  ve e f g a K (IntKind.wrap .u64 (b-1)) h.1 h.2
  else
  some b
def jG (b:Nat) (e:Nat) (c:List Int) (f:Int):Nat->(List Int)->Int->Int->Int->Option ((List Int)×Int×Int)
 |0,_,_,_,_=>none
 |K+1,d,a,g,h=>
  if a<(c.length:Int)then
  (idx c a).bind fun l=>
  (bits_Mul64 f l).bind fun i=>
  (yH i.2 h 0).bind fun j=>
  (qdH d b e a).bind fun m=>
  (qcq m j.1 g).bind fun k=>
  (put d ((b+(a:Int).toNat:Nat):Int) k.1).bind fun n=>
  jG b e c f K n (w64 (a+1)) k.2 (IntKind.wrap .u64 (i.1+j.2))
  else
  some (d,g,h)
def jI (b:Nat) (e:Nat) (c:List Int):Nat->(List Int)->Int->Int->Option ((List Int)×Int)
 |0,_,_,_=>none
 |K+1,d,a,f=>
  if a<(c.length:Int)then
  (qdH d b e a).bind fun h=>
  (idx c a).bind fun i=>
  (yH h i f).bind fun g=>
  (put d ((b+(a:Int).toNat:Nat):Int) g.1).bind fun j=>
  jI b e c K j (w64 (a+1)) g.2
  else
  some (d,f)
def qaw (N:Nat) (d:List Int) (b:Nat) (c:Nat) (v:Nat) (a:List Int):Option ((List Int)×Int):=
 (qdH d b c (a.length:Int)).bind fun u=>
 (idx a (w64 ((a.length:Int)-1))).bind fun l=>
 ((if u>=l then
 (qdH d b c (w64 ((a.length:Int)-1))).bind fun m=>
 (yH m l 0).bind fun f=>
 some (18446744073709551615,f.1,f.2)
 else
 (qdH d b c (w64 ((a.length:Int)-1))).bind fun n=>
 (xC N u n l).bind fun g=>
 some (g.1,g.2,0):Option (Int×Int×Int))).bind fun(w,x,y)=>
 (ve d b c a N w x y).bind fun e=>
 (jG b c a e N d 0 0 0).bind fun(h,o,p)=>
 (qdH h b c (a.length:Int)).bind fun q=>
 (qcq q p o).bind fun i=>
 (put h ((b+((a.length:Int):Int).toNat:Nat):Int) i.1).bind fun j=>
 if i.2=0 then
 some (j,e)
 else
 (jI b c a N j 0 0).bind fun(k,r)=>
 (qdH k b c (a.length:Int)).bind fun s=>
 (put k ((b+((a.length:Int):Int).toNat:Nat):Int) (IntKind.wrap .u64 (s+r))).bind fun t=>
 some (t,IntKind.wrap .u64 (e-1))
theorem qfh (N:Nat) (j:List Int) (b:Nat) (d:Nat) (e:Nat) (a:List Int) {l1:List Int} {n2:Int} (h:qaw N j b d e a=some (l1,n2)):qc ZT (.fn 274) [.slice 0 b d e 1,vl (qa .u64) a] [.cells (j.flatMap (qa .u64).c)] (.int .u64 n2) [.cells (l1.flatMap (qa .u64).c)]:=by
 unfold qaw at h
 refine Goes.fnH Tryz.func274 rfl rfl (m:=186) rfl (rs:=[.tmp 4]) rfl (l:=[(0,.slice 0 b d e 1),(1,vl (qa .u64) a)]) rfl ?_
 intro B hB
 refine sh fol [(0,.slice 0 b d e 1),(1,vl (qa .u64) a)] ?_
 refine sh fol ((0,.slice 0 b d e 1)::(1,vl (qa .u64) a)::(kA0 (a.length:Int))) ?_
 refine sh fol ((0,.slice 0 b d e 1)::(1,vl (qa .u64) a)::(kA0 (a.length:Int))) ?_
 refine sh fol ((0,.slice 0 b d e 1)::(1,vl (qa .u64) a)::(5,.i (a.length:Int))::(kA4 [])) ?_
 refine sq ?_
 obtain⟨x3,L,h⟩:=bnd h
 obtain⟨x4,v,h⟩:=bnd h
 refine sq (gr fol [2,3,7,8] ((0,.slice 0 b d e 1)::(1,vl (qa .u64) a)::(5,.i (a.length:Int))::(kA4 [(30,.bool (decide (x3>=x4)))])) (ac (hs (.done (.opt (qb ZT 126 (.slice 0 b d e 1) (.i (a.length:Int)))) (.ptr 0 ((((b+((a.length:Int):Int).toNat:Nat):Int):Int).toNat*1+0))) (qbt qD L)) (ac (hs (.run [0] (zJ ZT 252 (.ptr 0 ((((b+((a.length:Int):Int).toNat:Nat):Int):Int).toNat*1+0))) [.cells (j.flatMap (qa .u64).c)] (.int .u64 x3) [.cells (j.flatMap (qa .u64).c)] false) (qaC zH (E:=(qa .u64)) (l:=j) rfl rfl (wI L) (nl rfl) rfl)) (ac (iv qD (qa .u64) v) (ac (lv 0 zH (qa .u64) v rfl) az)))) ?_)
 obtain⟨r8,g8,h⟩:=bnd h
 refine Goes.imp (Q:=fun x s'=>(x= .normal/\ ∃n5 n6 n7,(n5,n6,n7)=r8/\Sub s' (ofG 186 ((0,.slice 0 b d e 1)::(1,vl (qa .u64) a)::(kO (a.length:Int) n5 (kW n6 n7 []))),[.cells (j.flatMap (qa .u64).c)]))) ?_ ?_
 ·refine ihD g8 (fun c9 g8=>?_) (fun c9 g8=>?_)
  ·refine sh fol [(0,.slice 0 b d e 1),(1,vl (qa .u64) a),(5,.i (a.length:Int)),(6,.int .u64 18446744073709551615)] ?_
   obtain⟨c8,U,g8⟩:=bnd g8
   obtain⟨d0,b2,g8⟩:=bnd g8
   refine gr fol [3,4,8,9,10] ((0,.slice 0 b d e 1)::(1,vl (qa .u64) a)::(5,.i (a.length:Int))::(6,.int .u64 18446744073709551615)::(kW d0.1 d0.2 [])) (ac (hs (.done (.opt (qb ZT 126 (.slice 0 b d e 1) (.i (w64 ((a.length:Int)-1))))) (.ptr 0 ((((b+(w64 ((a.length:Int)-1):Int).toNat:Nat):Int):Int).toNat*1+0))) (qbt qD U)) (ac (hs (.run [0] (zJ ZT 252 (.ptr 0 ((((b+(w64 ((a.length:Int)-1):Int).toNat:Nat):Int):Int).toNat*1+0))) [.cells (j.flatMap (qa .u64).c)] (.int .u64 c8) [.cells (j.flatMap (qa .u64).c)] false) (qaC zH (E:=(qa .u64)) (l:=j) rfl rfl (wI U) (nl rfl) rfl)) (ac (iv qD (qa .u64) v) (ac (lv 0 zH (qa .u64) v rfl) (ac (cv (qaY c8 x4 0 b2)) az))))) ?_
   obtain rfl:=si g8
   exact⟨rfl,_,_,_,rfl,(Sub.refl _)⟩
  obtain⟨d1,V,g8⟩:=bnd g8
  obtain⟨d2,b3,g8⟩:=bnd g8
  refine gr fol [2,3,7,8,12,13,14] ((0,.slice 0 b d e 1)::(1,vl (qa .u64) a)::(kO (a.length:Int) d2.1 (kAO d2.2 (kA4 [])))) (ac (hs (.done (.opt (qb ZT 126 (.slice 0 b d e 1) (.i (a.length:Int)))) (.ptr 0 ((((b+((a.length:Int):Int).toNat:Nat):Int):Int).toNat*1+0))) (qbt qD L)) (ac (hs (.run [0] (zJ ZT 252 (.ptr 0 ((((b+((a.length:Int):Int).toNat:Nat):Int):Int).toNat*1+0))) [.cells (j.flatMap (qa .u64).c)] (.int .u64 x3) [.cells (j.flatMap (qa .u64).c)] false) (qaC zH (E:=(qa .u64)) (l:=j) rfl rfl (wI L) (nl rfl) rfl)) (ac (hs (.done (.opt (qb ZT 126 (.slice 0 b d e 1) (.i (w64 ((a.length:Int)-1))))) (.ptr 0 ((((b+(w64 ((a.length:Int)-1):Int).toNat:Nat):Int):Int).toNat*1+0))) (qbt qD V)) (ac (hs (.run [0] (zJ ZT 252 (.ptr 0 ((((b+(w64 ((a.length:Int)-1):Int).toNat:Nat):Int):Int).toNat*1+0))) [.cells (j.flatMap (qa .u64).c)] (.int .u64 d1) [.cells (j.flatMap (qa .u64).c)] false) (qaC zH (E:=(qa .u64)) (l:=j) rfl rfl (wI V) (nl rfl) rfl)) (ac (iv qD (qa .u64) v) (ac (lv 0 zH (qa .u64) v rfl) (ac (cv (qc0 N x3 d1 x4 b3)) az))))))) ?_
  obtain rfl:=si g8
  exact⟨rfl,_,_,_,rfl,(Sub.refl _)⟩
 rintro x s' ⟨rfl,n5,n6,n7,rfl,hsub⟩
 try dsimp only at h
 refine Goes.sub hsub ?_
 refine sq (Goes.block ?_)
 obtain⟨d3,g19,h⟩:=bnd h
 refine Goes.imp (Q:=fun x s'=>(x= .exit 0/\ ∃f,f=d3/\Sub s' (ofG 186 ((0,.slice 0 b d e 1)::(1,vl (qa .u64) a)::(kO (a.length:Int) f [])),[.cells (j.flatMap (qa .u64).c)]))) ?_ ?_
 ·refine Uc (fun M s=> ∃(p:Int) (r:Int) (a5:Int),s=(ofG 186 ((0,.slice 0 b d e 1)::(1,vl (qa .u64) a)::(kO (a.length:Int) p (kW r a5 []))),[.cells (j.flatMap (qa .u64).c)])/\ve j b d a M p r a5=some d3) ?_ (m:=N) ⟨_,_,_,rfl,g19⟩
  rintro M s ⟨p,r,a5,rfl,g19⟩
  cases M with
  |zero=>simp only[ve]at g19;cases g19
  |succ M=>
   rw[ve]at g19
   refine sq ?_
   refine sh fol ((0,.slice 0 b d e 1)::(1,vl (qa .u64) a)::(kO (a.length:Int) p (kAO r [(64,.bool (decide (a5=0)))]))) ?_
   refine ihD g19 (fun c20 g19=>?_) (fun c20 g19=>?_)
   ·refine Goes.skip ?_
    refine Goes.block ?_
    obtain⟨x21,X,g19⟩:=bnd g19
    obtain⟨b4,b5,g19⟩:=bnd g19
    refine sq (gr fol [4,5,6] ((0,.slice 0 b d e 1)::(1,vl (qa .u64) a)::(kO (a.length:Int) p (kAO r [(9,.int .u64 b4.1),(10,.int .u64 b4.2)]))) (ac (iv qD (qa .u64) X) (ac (lv 0 zH (qa .u64) X rfl) (ac (cv (qam p x21 b5)) az))) ?_)
    refine sq ?_
    refine sq ?_
    obtain⟨b26,k,g19⟩:=bnd g19
    refine Goes.cut (s':=(ofG 186 ((0,.slice 0 b d e 1)::(1,vl (qa .u64) a)::(kO (a.length:Int) p (kAO r [(91,.bool b26)]))),[.cells (j.flatMap (qa .u64).c)])) ?_ ?_
    ·rcases wyD k with⟨a6,k⟩|⟨a6,k⟩
     ·obtain rfl:=si k
      exact tr fol [3] ((0,.slice 0 b d e 1)::(1,vl (qa .u64) a)::(kO (a.length:Int) p (kAO r [(91,.bool true)]))) (ac (gw a6) az)
     rcases wyD k with⟨b6,k⟩|⟨b6,k⟩
     ·obtain⟨d4,Y,k⟩:=bnd k
      obtain rfl:=si k
      exact tr fol [3,7,12,13] ((0,.slice 0 b d e 1)::(1,vl (qa .u64) a)::(kO (a.length:Int) p (kAO r [(91,.bool (decide (b4.2<=d4)))]))) (ac (gw a6) (ac (gw b6) (ac (hs (.done (.opt (qb ZT 126 (.slice 0 b d e 1) (.i (w64 ((a.length:Int)-2))))) (.ptr 0 ((((b+(w64 ((a.length:Int)-2):Int).toNat:Nat):Int):Int).toNat*1+0))) (qbt qD Y)) (ac (hs (.run [0] (zJ ZT 252 (.ptr 0 ((((b+(w64 ((a.length:Int)-2):Int).toNat:Nat):Int):Int).toNat*1+0))) [.cells (j.flatMap (qa .u64).c)] (.int .u64 d4) [.cells (j.flatMap (qa .u64).c)] false) (qaC zH (E:=(qa .u64)) (l:=j) rfl rfl (wI Y) (nl rfl) rfl)) az))))
     obtain rfl:=si k
     exact tr fol [3,7] ((0,.slice 0 b d e 1)::(1,vl (qa .u64) a)::(kO (a.length:Int) p (kAO r [(91,.bool false)]))) (ac (gw a6) (ac (gw b6) az))
    refine ihB g19 (fun c28 g19=>?_) (fun c28 g19=>?_)
    ·refine Goes.exit ?_
     obtain rfl:=si g19
     exact⟨rfl,_,rfl,(Sub.keep [0,1,5,6] rfl rfl)⟩
    refine Goes.skip ?_
    refine sh fol ((0,.slice 0 b d e 1)::(1,vl (qa .u64) a)::(kO (a.length:Int) (IntKind.wrap .u64 (p-1)) (kAO r []))) ?_
    obtain⟨x29,Z,g19⟩:=bnd g19
    obtain⟨a7,b7,g19⟩:=bnd g19
    refine gr fol [4,5,6] ((0,.slice 0 b d e 1)::(1,vl (qa .u64) a)::(kO (a.length:Int) (IntKind.wrap .u64 (p-1)) (kW a7.1 a7.2 []))) (ac (iv qD (qa .u64) Z) (ac (lv 0 zH (qa .u64) Z rfl) (ac (cv (qaY r x29 0 b7)) az))) ?_
    exact⟨M,(ofG 186 ((0,.slice 0 b d e 1)::(1,vl (qa .u64) a)::(kO (a.length:Int) (IntKind.wrap .u64 (p-1)) (kW a7.1 a7.2 []))),[.cells (j.flatMap (qa .u64).c)]),Nat.lt_succ_self _,(Sub.refl _),_,_,_,rfl,g19⟩
   refine Goes.exit ?_
   obtain rfl:=si g19
   exact⟨rfl,_,rfl,(Sub.keep [0,1,5,6] rfl rfl)⟩
 rintro x s' ⟨rfl,f,rfl,hsub⟩
 refine Goes.sub hsub ?_
 refine sh fol ((0,.slice 0 b d e 1)::(1,vl (qa .u64) a)::(kO (a.length:Int) f [(11,.int .u64 0),(12,.int .u64 0)])) ?_
 refine sq ?_
 refine sh fol ((0,.slice 0 b d e 1)::(1,vl (qa .u64) a)::(kO (a.length:Int) f [(11,.int .u64 0),(12,.int .u64 0),(104,.i (a.length:Int)),(105,.i 0)])) ?_
 refine Goes.block ?_
 obtain⟨d5,g38,h⟩:=bnd h
 refine Goes.imp (Q:=fun x s'=>(x= .exit 2/\ ∃D a8 a9,(D,a8,a9)=d5/\Sub s' (ofG 186 ((0,.slice 0 b d e 1)::(1,vl (qa .u64) a)::(kO (a.length:Int) f (kU a8 a9 []))),[.cells (D.flatMap (qa .u64).c)]))) ?_ ?_
 ·refine Uc (fun M s=> ∃(F:List Int) (g:Int) (t:Int) (G:Int),s=(ofG 186 ((0,.slice 0 b d e 1)::(1,vl (qa .u64) a)::(kO (a.length:Int) f (kU t G (kAZ (a.length:Int) g)))),[.cells (F.flatMap (qa .u64).c)])/\jG b d a f M F g t G=some d5) ?_ (m:=N) ⟨_,_,_,_,rfl,g38⟩
  rintro M s ⟨F,g,t,G,rfl,g38⟩
  cases M with
  |zero=>simp only[jG]at g38;cases g38
  |succ M=>
   rw[jG]at g38
   refine sh fol ((0,.slice 0 b d e 1)::(1,vl (qa .u64) a)::(kO (a.length:Int) f (kU t G [(104,.i (a.length:Int)),(105,.i g),(106,.bool (decide (g<(a.length:Int))))]))) ?_
   refine sq ?_
   refine ihD g38 (fun c39 g38=>?_) (fun c39 g38=>?_)
   ·refine Goes.skip ?_
    refine sq (Goes.block ?_)
    refine sh fol ((0,.slice 0 b d e 1)::(1,vl (qa .u64) a)::(kO (a.length:Int) f (kU t G ((13,.i g)::(kAZ (a.length:Int) g))))) ?_
    obtain⟨x40,a0,g38⟩:=bnd g38
    obtain⟨q,b8,g38⟩:=bnd g38
    refine sq (gr fol [3,4,5] ((0,.slice 0 b d e 1)::(1,vl (qa .u64) a)::(kO (a.length:Int) f (kU t G ((13,.i g)::(kAk q.1 q.2 (kAZ (a.length:Int) g)))))) (ac (iv qD (qa .u64) a0) (ac (lv 0 zH (qa .u64) a0 rfl) (ac (cv (qam f x40 b8)) az))) ?_)
    refine sh fol ((0,.slice 0 b d e 1)::(1,vl (qa .u64) a)::(kO (a.length:Int) f (kU t G ((13,.i g)::(kAk q.1 q.2 (kAZ (a.length:Int) g)))))) ?_
    obtain⟨u,b9,g38⟩:=bnd g38
    refine sq (gr fol [2] ((0,.slice 0 b d e 1)::(1,vl (qa .u64) a)::(kO (a.length:Int) f ((11,.int .u64 t)::(13,.i g)::(kN q.1 u.1 u.2 (kAZ (a.length:Int) g))))) (ac (cv (qaY q.2 G 0 b9)) az) ?_)
    refine sh fol ((0,.slice 0 b d e 1)::(1,vl (qa .u64) a)::(kO (a.length:Int) f (kU t (IntKind.wrap .u64 (q.1+u.2)) ((13,.i g)::(15,.int .u64 u.1)::(kAZ (a.length:Int) g))))) ?_
    obtain⟨d6,w,g38⟩:=bnd g38
    obtain⟨J,c0,g38⟩:=bnd g38
    obtain⟨a1,c1,g38⟩:=bnd g38
    refine gq fol [4,5,8,12,13] ((0,.slice 0 b d e 1)::(1,vl (qa .u64) a)::(kO (a.length:Int) f (kU J.2 (IntKind.wrap .u64 (q.1+u.2)) (kAZ (a.length:Int) g)))) [.cells (a1.flatMap (qa .u64).c)] (ac (hs (.done (.opt (qb ZT 126 (.slice 0 b d e 1) (.i g))) (.ptr 0 ((((b+(g:Int).toNat:Nat):Int):Int).toNat*1+0))) (qbt qD w)) (ac (hs (.run [0] (zJ ZT 252 (.ptr 0 ((((b+(g:Int).toNat:Nat):Int):Int).toNat*1+0))) [.cells (F.flatMap (qa .u64).c)] (.int .u64 d6) [.cells (F.flatMap (qa .u64).c)] false) (qaC zH (E:=(qa .u64)) (l:=F) rfl rfl (wI w) (nl rfl) rfl)) (ac (cv (qeT d6 u.1 t c0)) (ac (hs (.done (.opt (qb ZT 126 (.slice 0 b d e 1) (.i g))) (.ptr 0 ((((b+(g:Int).toNat:Nat):Int):Int).toNat*1+0))) (qbt qD w)) (ac (hs (.run [0] (qx ZT 252 (.ptr 0 ((((b+(g:Int).toNat:Nat):Int):Int).toNat*1+0)) (.int .u64 J.1)) [.cells (F.flatMap (qa .u64).c)] .undef [.cells (a1.flatMap (qa .u64).c)] true) (yc (E:=(qa .u64)) (l:=F) (y:=J.1) rfl (show _=some 1 by kernel_rfl) rfl (wI w) rfl rfl rfl rfl rfl c1 rfl)) az))))) ?_
    refine Goes.sub (show Sub (ofG 186 ((0,.slice 0 b d e 1)::(1,vl (qa .u64) a)::(kO (a.length:Int) f (kU J.2 (IntKind.wrap .u64 (q.1+u.2)) (kAZ (a.length:Int) g)))),[.cells (a1.flatMap (qa .u64).c)]) (ofG 186 ((0,.slice 0 b d e 1)::(1,vl (qa .u64) a)::(kO (a.length:Int) f (kU J.2 (IntKind.wrap .u64 (q.1+u.2)) (kAZ (a.length:Int) g)))),[.cells (a1.flatMap (qa .u64).c)])from(Sub.norm [] [some 0] (by rw[hB];rfl) rfl (.keep (.slice rfl) (.keep (.same (qd (qa .u64) _)) (.keep (.same nI) (.keep (.same nI) (.keep (.same nI) (.keep (.same nI) (.keep (.same nI) (.keep (.same nI) .nil)))))))) (.ks .nil))) ?_
    refine gh fol ((0,.slice 0 b d e 1)::(1,vl (qa .u64) a)::(kO (a.length:Int) f (kU J.2 (IntKind.wrap .u64 (q.1+u.2)) (kAZ (a.length:Int) (w64 (g+1)))))) ?_
    exact⟨M,(ofG 186 ((0,.slice 0 b d e 1)::(1,vl (qa .u64) a)::(kO (a.length:Int) f (kU J.2 (IntKind.wrap .u64 (q.1+u.2)) (kAZ (a.length:Int) (w64 (g+1)))))),[.cells (a1.flatMap (qa .u64).c)]),Nat.lt_succ_self _,(Sub.refl _),_,_,_,_,rfl,g38⟩
   refine Goes.exit ?_
   obtain rfl:=si g38
   exact⟨rfl,_,_,_,rfl,(Sub.keep [0,1,5,6,11,12] rfl rfl)⟩
 rintro x s' ⟨rfl,D,a8,a9,rfl,hsub⟩
 try dsimp only at h
 refine Goes.sub hsub ?_
 obtain⟨d7,z,h⟩:=bnd h
 obtain⟨O,c2,h⟩:=bnd h
 obtain⟨b0,c3,h⟩:=bnd h
 refine sq (gq fol [4,5,8,12,13] ((0,.slice 0 b d e 1)::(1,vl (qa .u64) a)::(kO (a.length:Int) f [(11,.int .u64 O.2)])) [.cells (b0.flatMap (qa .u64).c)] (ac (hs (.done (.opt (qb ZT 126 (.slice 0 b d e 1) (.i (a.length:Int)))) (.ptr 0 ((((b+((a.length:Int):Int).toNat:Nat):Int):Int).toNat*1+0))) (qbt qD z)) (ac (hs (.run [0] (zJ ZT 252 (.ptr 0 ((((b+((a.length:Int):Int).toNat:Nat):Int):Int).toNat*1+0))) [.cells (D.flatMap (qa .u64).c)] (.int .u64 d7) [.cells (D.flatMap (qa .u64).c)] false) (qaC zH (E:=(qa .u64)) (l:=D) rfl rfl (wI z) (nl rfl) rfl)) (ac (cv (qeT d7 a9 a8 c2)) (ac (hs (.done (.opt (qb ZT 126 (.slice 0 b d e 1) (.i (a.length:Int)))) (.ptr 0 ((((b+((a.length:Int):Int).toNat:Nat):Int):Int).toNat*1+0))) (qbt qD z)) (ac (hs (.run [0] (qx ZT 252 (.ptr 0 ((((b+((a.length:Int):Int).toNat:Nat):Int):Int).toNat*1+0)) (.int .u64 O.1)) [.cells (D.flatMap (qa .u64).c)] .undef [.cells (b0.flatMap (qa .u64).c)] true) (yc (E:=(qa .u64)) (l:=D) (y:=O.1) rfl (show _=some 1 by kernel_rfl) rfl (wI z) rfl rfl rfl rfl rfl c3 rfl)) az))))) ?_)
 refine Goes.sub (show Sub (ofG 186 ((0,.slice 0 b d e 1)::(1,vl (qa .u64) a)::(kO (a.length:Int) f [(11,.int .u64 O.2)])),[.cells (b0.flatMap (qa .u64).c)]) (ofG 186 ((0,.slice 0 b d e 1)::(1,vl (qa .u64) a)::(kO (a.length:Int) f [(11,.int .u64 O.2)])),[.cells (b0.flatMap (qa .u64).c)])from(Sub.norm [] [some 0] (by rw[hB];rfl) rfl (.keep (.slice rfl) (.keep (.same (qd (qa .u64) _)) (.keep (.same nI) (.keep (.same nI) (.keep (.same nI) .nil))))) (.ks .nil))) ?_
 refine sq ?_
 refine sh fol ((0,.slice 0 b d e 1)::(1,vl (qa .u64) a)::(kO (a.length:Int) f [(154,.bool (decide (O.2=0)))])) ?_
 refine ihD h (fun c51 h=>?_) (fun c51 h=>?_)
 ·refine sh fol [(4,.int .u64 f)] ?_
  refine Goes.ret ?_
  simp only[ZI,ZP]at h
  obtain⟨rfl,rfl⟩:=h
  exact(gh2 [.int .u64 f] (qcU.refl _ _))
 refine Goes.skip ?_
 refine sh fol ((0,.slice 0 b d e 1)::(1,vl (qa .u64) a)::(kO (a.length:Int) f [(17,.int .u64 0)])) ?_
 refine sq ?_
 refine sh fol ((0,.slice 0 b d e 1)::(1,vl (qa .u64) a)::(kO (a.length:Int) f [(17,.int .u64 0),(156,.i (a.length:Int)),(157,.i 0)])) ?_
 refine Goes.block ?_
 obtain⟨d8,n,h⟩:=bnd h
 refine Goes.imp (Q:=fun x s'=>(x= .exit 4/\ ∃H a2,(H,a2)=d8/\Sub s' (ofG 186 ((0,.slice 0 b d e 1)::(kO (a.length:Int) f [(17,.int .u64 a2)])),[.cells (H.flatMap (qa .u64).c)]))) ?_ ?_
 ·refine Uc (fun M s=> ∃(I:List Int) (o:Int) (P:Int),s=(ofG 186 ((0,.slice 0 b d e 1)::(1,vl (qa .u64) a)::(kO (a.length:Int) f (kAe P (a.length:Int) o []))),[.cells (I.flatMap (qa .u64).c)])/\jI b d a M I o P=some d8) ?_ (m:=N) ⟨_,_,_,rfl,n⟩
  rintro M s ⟨I,o,P,rfl,n⟩
  cases M with
  |zero=>simp only[jI]at n;cases n
  |succ M=>
   rw[jI]at n
   refine sh fol ((0,.slice 0 b d e 1)::(1,vl (qa .u64) a)::(kO (a.length:Int) f (kAe P (a.length:Int) o [(158,.bool (decide (o<(a.length:Int))))]))) ?_
   refine sq ?_
   refine ihD n (fun c58 n=>?_) (fun c58 n=>?_)
   ·refine Goes.skip ?_
    refine sq (Goes.block ?_)
    refine sh fol ((0,.slice 0 b d e 1)::(1,vl (qa .u64) a)::(kO (a.length:Int) f [(17,.int .u64 P),(18,.i o),(156,.i (a.length:Int)),(157,.i o)])) ?_
    obtain⟨d9,A,n⟩:=bnd n
    obtain⟨x60,a3,n⟩:=bnd n
    obtain⟨K,c4,n⟩:=bnd n
    obtain⟨a4,c5,n⟩:=bnd n
    refine gq fol [4,5,8,9,11,15,16] ((0,.slice 0 b d e 1)::(1,vl (qa .u64) a)::(kO (a.length:Int) f (kAe K.2 (a.length:Int) o []))) [.cells (a4.flatMap (qa .u64).c)] (ac (hs (.done (.opt (qb ZT 126 (.slice 0 b d e 1) (.i o))) (.ptr 0 ((((b+(o:Int).toNat:Nat):Int):Int).toNat*1+0))) (qbt qD A)) (ac (hs (.run [0] (zJ ZT 252 (.ptr 0 ((((b+(o:Int).toNat:Nat):Int):Int).toNat*1+0))) [.cells (I.flatMap (qa .u64).c)] (.int .u64 d9) [.cells (I.flatMap (qa .u64).c)] false) (qaC zH (E:=(qa .u64)) (l:=I) rfl rfl (wI A) (nl rfl) rfl)) (ac (iv qD (qa .u64) a3) (ac (lv 0 zH (qa .u64) a3 rfl) (ac (cv (qaY d9 x60 P c4)) (ac (hs (.done (.opt (qb ZT 126 (.slice 0 b d e 1) (.i o))) (.ptr 0 ((((b+(o:Int).toNat:Nat):Int):Int).toNat*1+0))) (qbt qD A)) (ac (hs (.run [0] (qx ZT 252 (.ptr 0 ((((b+(o:Int).toNat:Nat):Int):Int).toNat*1+0)) (.int .u64 K.1)) [.cells (I.flatMap (qa .u64).c)] .undef [.cells (a4.flatMap (qa .u64).c)] true) (yc (E:=(qa .u64)) (l:=I) (y:=K.1) rfl (show _=some 1 by kernel_rfl) rfl (wI A) rfl rfl rfl rfl rfl c5 rfl)) az))))))) ?_
    refine Goes.sub (show Sub (ofG 186 ((0,.slice 0 b d e 1)::(1,vl (qa .u64) a)::(kO (a.length:Int) f (kAe K.2 (a.length:Int) o []))),[.cells (a4.flatMap (qa .u64).c)]) (ofG 186 ((0,.slice 0 b d e 1)::(1,vl (qa .u64) a)::(kO (a.length:Int) f (kAe K.2 (a.length:Int) o []))),[.cells (a4.flatMap (qa .u64).c)])from(Sub.norm [] [some 0] (by rw[hB];rfl) rfl (.keep (.slice rfl) (.keep (.same (qd (qa .u64) _)) (.keep (.same nI) (.keep (.same nI) (.keep (.same nI) (.keep (.same nI) (.keep (.same nI) .nil))))))) (.ks .nil))) ?_
    refine gh fol ((0,.slice 0 b d e 1)::(1,vl (qa .u64) a)::(kO (a.length:Int) f (kAe K.2 (a.length:Int) (w64 (o+1)) []))) ?_
    exact⟨M,(ofG 186 ((0,.slice 0 b d e 1)::(1,vl (qa .u64) a)::(kO (a.length:Int) f (kAe K.2 (a.length:Int) (w64 (o+1)) []))),[.cells (a4.flatMap (qa .u64).c)]),Nat.lt_succ_self _,(Sub.refl _),_,_,_,rfl,n⟩
   refine Goes.exit ?_
   obtain rfl:=si n
   exact⟨rfl,_,_,rfl,(Sub.keep [0,5,6,17] rfl rfl)⟩
 rintro x s' ⟨rfl,H,a2,rfl,hsub⟩
 try dsimp only at h
 refine Goes.sub hsub ?_
 obtain⟨c6,C,h⟩:=bnd h
 obtain⟨b1,c7,h⟩:=bnd h
 refine sq (gq fol [2,3,6,7] (kAF f []) [.cells (b1.flatMap (qa .u64).c)] (ac (hs (.done (.opt (qb ZT 126 (.slice 0 b d e 1) (.i (a.length:Int)))) (.ptr 0 ((((b+((a.length:Int):Int).toNat:Nat):Int):Int).toNat*1+0))) (qbt qD C)) (ac (hs (.run [0] (zJ ZT 252 (.ptr 0 ((((b+((a.length:Int):Int).toNat:Nat):Int):Int).toNat*1+0))) [.cells (H.flatMap (qa .u64).c)] (.int .u64 c6) [.cells (H.flatMap (qa .u64).c)] false) (qaC zH (E:=(qa .u64)) (l:=H) rfl rfl (wI C) (nl rfl) rfl)) (ac (hs (.done (.opt (qb ZT 126 (.slice 0 b d e 1) (.i (a.length:Int)))) (.ptr 0 ((((b+((a.length:Int):Int).toNat:Nat):Int):Int).toNat*1+0))) (qbt qD C)) (ac (hs (.run [0] (qx ZT 252 (.ptr 0 ((((b+((a.length:Int):Int).toNat:Nat):Int):Int).toNat*1+0)) (.int .u64 (IntKind.wrap .u64 (c6+a2)))) [.cells (H.flatMap (qa .u64).c)] .undef [.cells (b1.flatMap (qa .u64).c)] true) (yc (E:=(qa .u64)) (l:=H) (y:=IntKind.wrap .u64 (c6+a2)) rfl (show _=some 1 by kernel_rfl) rfl (wI C) rfl rfl rfl rfl rfl c7 rfl)) az)))) ?_)
 refine Goes.sub (show Sub (ofG 186 (kAF f []),[.cells (b1.flatMap (qa .u64).c)]) (ofG 186 (kAF f []),[.cells (b1.flatMap (qa .u64).c)])from(Sub.norm [] [some 0] (by rw[hB];rfl) rfl (.keep (.same nI) .nil) (.ks .nil))) ?_
 refine sh fol [(4,.int .u64 (IntKind.wrap .u64 (f-1)))] ?_
 refine Goes.ret ?_
 simp only[ZI,ZP]at h
 obtain⟨rfl,rfl⟩:=h
 exact(gh2 [.int .u64 (IntKind.wrap .u64 (f-1))] (qcU.refl _ _))
def jV (N:Nat) (a:List Int) (b:List Int):Nat->(List Int)->Int->Int->Option ((List Int)×Int)
 |0,_,_,_=>none
 |K+1,e,i,c=>
  if c>=0 then
  (idx a c).bind fun f=>
  (idx b 0).bind fun g=>
  (xC N i f g).bind fun d=>
  (idx e c).bind fun j=>
  (put e c d.1).bind fun h=>
  jV N a b K h d.2 (w64 (c-1))
  else
  some (e,i)
def jS (N:Nat) (c:List Int):Nat->(List Int)->(List Int)->Int->Option ((List Int)×(List Int))
 |0,_,_,_=>none
 |K+1,b,d,a=>
  if a>=0 then
  (win b a (w64 ((w64 (a+(c.length:Int)))+1))).bind fun(e,g)=>
  (qaw N b e g (b.length-e) c).bind fun(f,h)=>
  ((if b.length=f.length then some ()else none:Option Unit)).bind fun j=>
  (idx d a).bind fun k=>
  (put d a h).bind fun i=>
  jS N c K f i (w64 (a-1))
  else
  some (b,d)
def jw (c:Int) (e:List Int):Nat->(List Int)->Int->Option (List Int)
 |0,_,_=>none
 |K+1,d,a=>
  if a<(e.length:Int)then
  (((idx d a).bind fun f=>
  (qhR .u64 f c).bind fun g=>
  (put d a g).bind fun b=>
  (if c>0 then
  some (decide ((w64 (a+1))<(b.length:Int)))
  else
  some false:Option Bool).bind fun h=>
  if h=true then
  (idx b a).bind fun i=>
  (idx b (w64 (a+1))).bind fun j=>
  (qe7 .u64 j (w64 (64-c))).bind fun k=>
  (put b a (orI .u64 i k)).bind fun l=>
  some l
  else
  some b:Option (List Int))).bind fun m=>
  jw c e K m (w64 (a+1))
  else
  some d
def xB (N:Nat) (a:List Int) (b:List Int):Option ((List Int)×(List Int)):=
 (jo N a b).bind fun q=>
 if q<0 then
 some ([],a)
 else
 if(b.length:Int)=1 then
 (mk 8 (a.length:Int) 0).bind fun r=>
 (jV N a b N r 0 (w64 ((a.length:Int)-1))).bind fun(s,t)=>
 (vS N s).bind fun e=>
 (vS N ([t]:List Int)).bind fun f=>
 some (e,f)
 else
 (idx b (w64 ((b.length:Int)-1))).bind fun g=>
 (bits_LeadingZeros64 g).bind fun d=>
 (vK N b d).bind fun h=>
 (vS N h).bind fun c=>
 (vK N a d).bind fun i=>
 (mk 8 (w64 ((w64 ((a.length:Int)-(c.length:Int)))+1)) 0).bind fun j=>
 (jS N c N i j (w64 ((a.length:Int)-(c.length:Int)))).bind fun(k,l)=>
 (jw d c N k 0).bind fun m=>
 (vS N l).bind fun n=>
 (cut m 0 (c.length:Int)).bind fun o=>
 (vS N o).bind fun p=>
 some (n,p)
theorem qc9 (N:Nat) (a:List Int) (b:List Int) {res:(List Int)×(List Int)} (h:xB N a b=some res):qc ZT (.fn 248) [vl (qa .u64) a,vl (qa .u64) b] [] (.tuple [vl (qa .u64) res.1,vl (qa .u64) res.2]) []:=by
 unfold xB at h
 refine Ub Tryz.func248 rfl rfl (m:=137) rfl (rs:=[.tmp 4,.tmp 5]) rfl (l:=[(0,vl (qa .u64) a),(1,vl (qa .u64) b)]) rfl ?_
 refine sh fol [(0,vl (qa .u64) a),(1,vl (qa .u64) b)] ?_
 refine sq ?_
 obtain⟨r1,e_r1,h⟩:=bnd h
 refine sq (gr fol [2] [(0,vl (qa .u64) a),(1,vl (qa .u64) b),(19,.bool (decide (r1<0)))] (ac (cv (qaG N a b e_r1)) az) ?_)
 refine ihD h (fun c2 h=>?_) (fun c2 h=>?_)
 ·refine sh fol [(4,.nilslice),(5,vl (qa .u64) a)] ?_
  refine Goes.ret ?_
  obtain rfl:=si h
  exact(gw2 [.nilslice,vl (qa .u64) a] (FzW.tuple (qg.cons (FzW.nilv (E:=(qa .u64))) (qg.cons (Ua (qy (qa .u64) _ (nl rfl))) qg.nil))))
 refine Goes.skip ?_
 refine sq ?_
 refine sh fol [(0,vl (qa .u64) a),(1,vl (qa .u64) b),(23,.bool (decide ((b.length:Int)=1)))] ?_
 refine ihD h (fun c3 h=>?_) (fun c3 h=>?_)
 ·obtain⟨l4,e_l4,h⟩:=bnd h
  refine sq (gq fol [2] ((0,vl (qa .u64) a)::(1,vl (qa .u64) b)::(kP l4 [])) [.cells (l4.flatMap (qa .u64).c)] (ac (hs (.run [] (zt ZT 126 (.i (a.length:Int)) (.i (a.length:Int))) [] (.slice 0 0 l4.length l4.length 1) [.cells (l4.flatMap (qa .u64).c)] false) (qaA qD (E:=(qa .u64)) (z:=0) rfl (by kernel_rfl) e_l4 rfl)) az) ?_)
  refine sh fol ((0,vl (qa .u64) a)::(1,vl (qa .u64) b)::(kP l4 [(7,.int .u64 0)])) ?_
  refine sq ?_
  refine sh fol ((0,vl (qa .u64) a)::(1,vl (qa .u64) b)::(kP l4 [(7,.int .u64 0),(8,.i (w64 ((a.length:Int)-1)))])) ?_
  refine Goes.block ?_
  obtain⟨r10,g10,h⟩:=bnd h
  refine Goes.imp (Q:=fun x s'=>(x= .exit 0/\ ∃J n9,(J,n9)=r10/\Sub s' (ofG 137 (kP J (kAO n9 [])),[.cells (J.flatMap (qa .u64).c)]))) ?_ ?_
  ·refine Uc (fun M s=> ∃(K:List Int) (n6:Int) (F:Int),s=(ofG 137 ((0,vl (qa .u64) a)::(1,vl (qa .u64) b)::(kP K (kAO n6 [(8,.i F)]))),[.cells (K.flatMap (qa .u64).c)])/\jV N a b M K n6 F=some r10) ?_ (m:=N) ⟨_,_,_,rfl,g10⟩
   rintro M s ⟨K,n6,F,rfl,g10⟩
   cases M with
   |zero=>simp only[jV]at g10;cases g10
   |succ M=>
    rw[jV]at g10
    refine sq ?_
    refine sh fol ((0,vl (qa .u64) a)::(1,vl (qa .u64) b)::(kP K (kAO n6 [(8,.i F),(31,.bool (decide (F>=0)))]))) ?_
    refine ihD g10 (fun c11 g10=>?_) (fun c11 g10=>?_)
    ·refine Goes.skip ?_
     refine sq (Goes.block ?_)
     obtain⟨x12,L,g10⟩:=bnd g10
     obtain⟨x13,O,g10⟩:=bnd g10
     obtain⟨C,e_r14,g10⟩:=bnd g10
     obtain⟨x15,P,g10⟩:=bnd g10
     obtain⟨A,U,g10⟩:=bnd g10
     refine gq fol [5,6,8,9,10,14,15] ((0,vl (qa .u64) a)::(1,vl (qa .u64) b)::(kP K (kAO C.2 [(8,.i F)]))) [.cells (A.flatMap (qa .u64).c)] (ac (iv qD (qa .u64) L) (ac (lv 0 zH (qa .u64) L rfl) (ac (iv qD (qa .u64) O) (ac (lv 0 zH (qa .u64) O rfl) (ac (cv (qc0 N n6 x12 x13 e_r14)) (ac (hs (.done (.opt (qb ZT 126 (.slice 0 0 K.length K.length 1) (.i F))) (.ptr 0 ((F:Int).toNat*1+0))) (vZ qD P)) (ac (hs (.run [0] (qx ZT 252 (.ptr 0 ((F:Int).toNat*1+0)) (.int .u64 C.1)) [.cells (K.flatMap (qa .u64).c)] .undef [.cells (A.flatMap (qa .u64).c)] true) (yc (E:=(qa .u64)) (l:=K) (y:=C.1) rfl (show _=some 1 by kernel_rfl) rfl P rfl rfl rfl rfl rfl U rfl)) az))))))) ?_
     refine Goes.sub (show Sub (ofG 137 ((0,vl (qa .u64) a)::(1,vl (qa .u64) b)::(kP K (kAO C.2 [(8,.i F)]))),[.cells (A.flatMap (qa .u64).c)]) (ofG 137 ((0,vl (qa .u64) a)::(1,vl (qa .u64) b)::(kP A (kAO C.2 [(8,.i F)]))),[.cells (A.flatMap (qa .u64).c)])from(Sub.norm [] [some 0] rfl rfl (.keep (.same (qd (qa .u64) _)) (.keep (.same (qd (qa .u64) _)) (.keep (.sliceE rfl (jg U)) (.keep (.same nI) (.keep (.same nI) .nil))))) (.ks .nil))) ?_
     refine gh fol ((0,vl (qa .u64) a)::(1,vl (qa .u64) b)::(kP A (kAO C.2 [(8,.i (w64 (F-1)))]))) ?_
     exact⟨M,(ofG 137 ((0,vl (qa .u64) a)::(1,vl (qa .u64) b)::(kP A (kAO C.2 [(8,.i (w64 (F-1)))]))),[.cells (A.flatMap (qa .u64).c)]),Nat.lt_succ_self _,(Sub.refl _),_,_,_,rfl,g10⟩
    refine Goes.exit ?_
    obtain rfl:=si g10
    exact⟨rfl,_,_,rfl,(Sub.keep [6,7] rfl rfl)⟩
  rintro x s' ⟨rfl,J,n9,rfl,hsub⟩
  try dsimp only at h
  refine Goes.sub hsub ?_
  obtain⟨V,e_r17,h⟩:=bnd h
  obtain⟨X,e_r18,h⟩:=bnd h
  refine sq (gq fol [1,4] [(4,vl (qa .u64) V),(5,vl (qa .u64) X)] [.frozen (J.flatMap (qa .u64).c),.frozen [.int .u64 n9]] (ac (hs (.callF 240 [.slice 0 0 J.length J.length 1] [.cells (J.flatMap (qa .u64).c)] [0] [vl (qa .u64) J] (vl (qa .u64) V)) (xU (FzL.cons (Fz.sl (E:=(qa .u64)) rfl rfl (nl rfl)) FzL.nil) (vY N J e_r17) (qy (qa .u64) _ (nl rfl)))) (ac (hs (.callF 240 [.slice 1 0 1 1 1] [.frozen (J.flatMap (qa .u64).c),.cells [.int .u64 n9]] [1] [vl (qa .u64) ([n9]:List Int)] (vl (qa .u64) X)) (xU (FzL.cons (Fz.lit rfl rfl (Ul (AllST.cons tI AllST.nil))) FzL.nil) (vY N ([n9]:List Int) e_r18) (qy (qa .u64) _ (nl rfl)))) az)) ?_)
  refine Goes.sub (show Sub (ofG 137 [(4,vl (qa .u64) V),(5,vl (qa .u64) X)],[.frozen (J.flatMap (qa .u64).c),.frozen [.int .u64 n9]]) (ofG 137 [(4,vl (qa .u64) V),(5,vl (qa .u64) X)],[])from(Sub.norm [] [] rfl rfl (.keep (.same (qd (qa .u64) _)) (.keep (.same (qd (qa .u64) _)) .nil)) .nil)) ?_
  refine Goes.ret ?_
  obtain rfl:=si h
  exact(gw2 [vl (qa .u64) V,vl (qa .u64) X] (FzW.tuple (qg.cons (Ua (qy (qa .u64) _ (nl rfl))) (qg.cons (Ua (qy (qa .u64) _ (nl rfl))) qg.nil))))
 refine Goes.skip ?_
 obtain⟨x19,Y,h⟩:=bnd h
 obtain⟨g,e_r20,h⟩:=bnd h
 refine sq (gr fol [4,5,6] [(0,vl (qa .u64) a),(1,vl (qa .u64) b),(9,.i g)] (ac (iv qD (qa .u64) Y) (ac (lv 0 zH (qa .u64) Y rfl) (ac (cv (xW x19 e_r20)) az))) ?_)
 obtain⟨t,e_r21,h⟩:=bnd h
 obtain⟨d,e_r23,h⟩:=bnd h
 refine sq (gq fol [2,3] [(0,vl (qa .u64) a),(9,.i g),(10,vl (qa .u64) d)] [.frozen (t.flatMap (qa .u64).c)] (ac (hs (.callH 273 [vl (qa .u64) b,.i g] [] [] (.slice 0 0 t.length t.length 1) [.cells (t.flatMap (qa .u64).c)]) (qaS [] [some 0] (qa8 N b g e_r21) .nil rfl rfl (.new rfl rfl (.same fa) rfl .nil) (rc (.same (qd (qa .u64) _)) (rc (.same nI) rn)) (.slice rfl) rfl)) (ac (hs (.callF 240 [.slice 0 0 t.length t.length 1] [.cells (t.flatMap (qa .u64).c)] [0] [vl (qa .u64) t] (vl (qa .u64) d)) (xU (FzL.cons (Fz.sl (E:=(qa .u64)) rfl rfl (nl rfl)) FzL.nil) (vY N t e_r23) (qy (qa .u64) _ (nl rfl)))) az)) ?_)
 refine Goes.sub (show Sub (ofG 137 [(0,vl (qa .u64) a),(9,.i g),(10,vl (qa .u64) d)],[.frozen (t.flatMap (qa .u64).c)]) (ofG 137 [(0,vl (qa .u64) a),(9,.i g),(10,vl (qa .u64) d)],[])from(Sub.norm [] [] rfl rfl (.keep (.same (qd (qa .u64) _)) (.keep (.same nI) (.keep (.same (qd (qa .u64) _)) .nil))) .nil)) ?_
 obtain⟨p,e_r24,h⟩:=bnd h
 refine sq (gq fol [2] [(0,vl (qa .u64) a),(9,.i g),(10,vl (qa .u64) d),(11,.slice 0 0 p.length p.length 1)] [.cells (p.flatMap (qa .u64).c)] (ac (hs (.callH 273 [vl (qa .u64) a,.i g] [] [] (.slice 0 0 p.length p.length 1) [.cells (p.flatMap (qa .u64).c)]) (qaS [] [some 0] (qa8 N a g e_r24) .nil rfl rfl (.new rfl rfl (.same fa) rfl .nil) (rc (.same (qd (qa .u64) _)) (rc (.same nI) rn)) (.slice rfl) rfl)) az) ?_)
 refine sh fol [(0,vl (qa .u64) a),(9,.i g),(10,vl (qa .u64) d),(11,.slice 0 0 p.length p.length 1),(12,.i (d.length:Int))] ?_
 obtain⟨G,e_l26,h⟩:=bnd h
 refine sq (gq fol [5] ((0,vl (qa .u64) a)::(9,.i g)::(10,vl (qa .u64) d)::(kE p (d.length:Int) G [])) [.cells (p.flatMap (qa .u64).c),.cells (G.flatMap (qa .u64).c)] (ac (hs (.run [] (zt ZT 126 (.i (w64 ((w64 ((a.length:Int)-(d.length:Int)))+1))) (.i (w64 ((w64 ((a.length:Int)-(d.length:Int)))+1)))) [.cells (p.flatMap (qa .u64).c)] (.slice 1 0 G.length G.length 1) [.cells (p.flatMap (qa .u64).c),.cells (G.flatMap (qa .u64).c)] false) (qaA qD (E:=(qa .u64)) (z:=0) rfl (by kernel_rfl) e_l26 rfl)) az) ?_)
 refine sq ?_
 refine sh fol ((9,.i g)::(10,vl (qa .u64) d)::(kE p (d.length:Int) G [(14,.i (w64 ((a.length:Int)-(d.length:Int))))])) ?_
 refine Goes.block ?_
 obtain⟨r32,g32,h⟩:=bnd h
 refine Goes.imp (Q:=fun x s'=>(x= .exit 2/\ ∃Z e,(Z,e)=r32/\Sub s' (ofG 137 ((9,.i g)::(kE Z (d.length:Int) e [])),[.cells (Z.flatMap (qa .u64).c),.cells (e.flatMap (qa .u64).c)]))) ?_ ?_
 ·refine Uc (fun M s=> ∃(o:List Int) (q:List Int) (n:Int),s=(ofG 137 ((9,.i g)::(10,vl (qa .u64) d)::(kE o (d.length:Int) q [(14,.i n)])),[.cells (o.flatMap (qa .u64).c),.cells (q.flatMap (qa .u64).c)])/\jS N d M o q n=some r32) ?_ (m:=N) ⟨_,_,_,rfl,g32⟩
  rintro M s ⟨o,q,n,rfl,g32⟩
  cases M with
  |zero=>simp only[jS]at g32;cases g32
  |succ M=>
   rw[jS]at g32
   refine sq ?_
   refine sh fol ((9,.i g)::(10,vl (qa .u64) d)::(kE o (d.length:Int) q [(14,.i n),(81,.bool (decide (n>=0)))])) ?_
   refine ihD g32 (fun c33 g32=>?_) (fun c33 g32=>?_)
   ·refine Goes.skip ?_
    refine sq (Goes.block ?_)
    obtain⟨⟨H,n36⟩,e_w34,g32⟩:=bnd g32
    try dsimp only at g32
    obtain⟨⟨u,n39⟩,e_r37,g32⟩:=bnd g32
    try dsimp only at g32
    obtain⟨u40,e_u40,g32⟩:=bnd g32
    obtain⟨x41,a0,g32⟩:=bnd g32
    obtain⟨B,a1,g32⟩:=bnd g32
    refine gq fol [8,10,11,12] ((9,.i g)::(10,vl (qa .u64) d)::(kE o (d.length:Int) q [(14,.i n)])) [.cells (u.flatMap (qa .u64).c),.cells (B.flatMap (qa .u64).c)] (ac (hs (.done (.opt (zI ZT 126 (.slice 0 0 o.length o.length 1) (some (.i n)) (some (.i (w64 ((w64 (n+(d.length:Int)))+1)))) none)) (.slice 0 H n36 (o.length-H) 1)) (wn_ix qD e_w34)) (ac (hs (.callH 274 [.slice 0 H n36 (o.length-H) 1,vl (qa .u64) d] [.cells (o.flatMap (qa .u64).c),.cells (q.flatMap (qa .u64).c)] [0] (.int .u64 n39) [.cells (u.flatMap (qa .u64).c),.cells (q.flatMap (qa .u64).c)]) (qaS [some 0] [some 0,none] (qfh N o H n36 (o.length-H) d e_r37) (.ks .nil) rfl rfl (.back rfl rfl (.same fa) rfl (.old rfl rfl .nil)) (rc (.slice rfl) (rc (.same (qd (qa .u64) _)) rn)) (.same nI) rfl)) (ac (hs (.done (.opt (qb ZT 126 (.slice 1 0 q.length q.length 1) (.i n))) (.ptr 1 ((n:Int).toNat*1+0))) (vZ qD a0)) (ac (hs (.run [1] (qx ZT 252 (.ptr 1 ((n:Int).toNat*1+0)) (.int .u64 n39)) [.cells (u.flatMap (qa .u64).c),.cells (q.flatMap (qa .u64).c)] .undef [.cells (u.flatMap (qa .u64).c),.cells (B.flatMap (qa .u64).c)] true) (yc (E:=(qa .u64)) (l:=q) (y:=n39) rfl (show _=some 1 by kernel_rfl) rfl a0 rfl rfl rfl rfl rfl a1 rfl)) az)))) ?_
    refine Goes.sub (show Sub (ofG 137 ((9,.i g)::(10,vl (qa .u64) d)::(kE o (d.length:Int) q [(14,.i n)])),[.cells (u.flatMap (qa .u64).c),.cells (B.flatMap (qa .u64).c)]) (ofG 137 ((9,.i g)::(10,vl (qa .u64) d)::(kE u (d.length:Int) B [(14,.i n)])),[.cells (u.flatMap (qa .u64).c),.cells (B.flatMap (qa .u64).c)])from(Sub.norm [] [some 0,some 1] rfl rfl (.keep (.same nI) (.keep (.same (qd (qa .u64) _)) (.keep (.sliceE rfl (qnp e_u40)) (.keep (.same nI) (.keep (.sliceE rfl (jg a1)) (.keep (.same nI) .nil)))))) (.ks (.ks .nil)))) ?_
    refine gh fol ((9,.i g)::(10,vl (qa .u64) d)::(kE u (d.length:Int) B [(14,.i (w64 (n-1)))])) ?_
    exact⟨M,(ofG 137 ((9,.i g)::(10,vl (qa .u64) d)::(kE u (d.length:Int) B [(14,.i (w64 (n-1)))])),[.cells (u.flatMap (qa .u64).c),.cells (B.flatMap (qa .u64).c)]),Nat.lt_succ_self _,(Sub.refl _),_,_,_,rfl,g32⟩
   refine Goes.exit ?_
   obtain rfl:=si g32
   exact⟨rfl,_,_,rfl,(Sub.keep [9,11,12,13] rfl rfl)⟩
 rintro x s' ⟨rfl,Z,e,rfl,hsub⟩
 try dsimp only at h
 refine Goes.sub hsub ?_
 refine sq ?_
 refine sh fol ((9,.i g)::(kE Z (d.length:Int) e [(96,.i (d.length:Int)),(97,.i 0)])) ?_
 refine Goes.block ?_
 obtain⟨r46,g46,h⟩:=bnd h
 refine Goes.imp (Q:=fun x s'=>(x= .exit 4/\ ∃I,I=r46/\Sub s' (ofG 137 (kE I (d.length:Int) e []),[.cells (I.flatMap (qa .u64).c),.cells (e.flatMap (qa .u64).c)]))) ?_ ?_
 ·refine Uc (fun M s=> ∃(k:List Int) (f:Int),s=(ofG 137 ((9,.i g)::(kE k (d.length:Int) e (kAg (d.length:Int) f))),[.cells (k.flatMap (qa .u64).c),.cells (e.flatMap (qa .u64).c)])/\jw g d M k f=some r46) ?_ (m:=N) ⟨_,_,rfl,g46⟩
  rintro M s ⟨k,f,rfl,g46⟩
  cases M with
  |zero=>simp only[jw]at g46;cases g46
  |succ M=>
   rw[jw]at g46
   refine sh fol ((9,.i g)::(kE k (d.length:Int) e [(96,.i (d.length:Int)),(97,.i f),(98,.bool (decide (f<(d.length:Int))))])) ?_
   refine sq ?_
   refine ihD g46 (fun c47 g46=>?_) (fun c47 g46=>?_)
   ·refine Goes.skip ?_
    refine sq ?_
    obtain⟨r49,g49,g46⟩:=bnd g46
    refine Goes.imp (Q:=fun x s'=>(x= .normal/\ ∃D,D=r49/\Sub s' (ofG 137 ((9,.i g)::(kE D (d.length:Int) e (kAg (d.length:Int) f))),[.cells (D.flatMap (qa .u64).c),.cells (e.flatMap (qa .u64).c)]))) ?_ ?_
    ·refine Goes.block ?_
     refine sh fol ((9,.i g)::(kE k (d.length:Int) e ((15,.i f)::(kAg (d.length:Int) f)))) ?_
     obtain⟨x50,v,g49⟩:=bnd g49
     obtain⟨q51,e_q51,g49⟩:=bnd g49
     obtain⟨j,a2,g49⟩:=bnd g49
     refine sq (gq fol [2,3,5,6,7] ((9,.i g)::(kE k (d.length:Int) e ((15,.i f)::(kAg (d.length:Int) f)))) [.cells (j.flatMap (qa .u64).c),.cells (e.flatMap (qa .u64).c)] (ac (hs (.done (.opt (qb ZT 126 (.slice 0 0 k.length k.length 1) (.i f))) (.ptr 0 ((f:Int).toNat*1+0))) (vZ qD v)) (ac (hs (.run [0] (zJ ZT 252 (.ptr 0 ((f:Int).toNat*1+0))) [.cells (k.flatMap (qa .u64).c),.cells (e.flatMap (qa .u64).c)] (.int .u64 x50) [.cells (k.flatMap (qa .u64).c),.cells (e.flatMap (qa .u64).c)] false) (qaC zH (E:=(qa .u64)) (l:=k) rfl rfl v (nl rfl) rfl)) (ac (hs (.done (.opt (zb ZT .shr 252 (.tmp 103) (.tmp 104) (.int .u64 x50) (.i g))) (.int .u64 q51)) (qeJ e_q51)) (ac (hs (.done (.opt (qb ZT 126 (.slice 0 0 k.length k.length 1) (.i f))) (.ptr 0 ((f:Int).toNat*1+0))) (vZ qD v)) (ac (hs (.run [0] (qx ZT 252 (.ptr 0 ((f:Int).toNat*1+0)) (.int .u64 q51)) [.cells (k.flatMap (qa .u64).c),.cells (e.flatMap (qa .u64).c)] .undef [.cells (j.flatMap (qa .u64).c),.cells (e.flatMap (qa .u64).c)] true) (yc (E:=(qa .u64)) (l:=k) (y:=q51) rfl (show _=some 1 by kernel_rfl) rfl v rfl rfl rfl rfl rfl a2 rfl)) az))))) ?_)
     refine Goes.sub (show Sub (ofG 137 ((9,.i g)::(kE k (d.length:Int) e ((15,.i f)::(kAg (d.length:Int) f)))),[.cells (j.flatMap (qa .u64).c),.cells (e.flatMap (qa .u64).c)]) (ofG 137 ((9,.i g)::(kE j (d.length:Int) e ((15,.i f)::(kAg (d.length:Int) f)))),[.cells (j.flatMap (qa .u64).c),.cells (e.flatMap (qa .u64).c)])from(Sub.norm [] [some 0,some 1] rfl rfl (.keep (.same nI) (.keep (.sliceE rfl (jg a2)) (.keep (.same nI) (.keep (.slice rfl) (.keep (.same nI) (.keep (.same nI) (.keep (.same nI) .nil))))))) (.ks (.ks .nil)))) ?_
     refine sq ?_
     obtain⟨b54,r,g49⟩:=bnd g49
     refine Goes.cut (s':=(ofG 137 ((9,.i g)::(kE j (d.length:Int) e [(15,.i f),(96,.i (d.length:Int)),(97,.i f),(115,.bool b54)])),[.cells (j.flatMap (qa .u64).c),.cells (e.flatMap (qa .u64).c)])) ?_ ?_
     ·rcases wyD r with⟨c53,r⟩|⟨c53,r⟩
      ·obtain rfl:=si r
       exact tr fol [2] ((9,.i g)::(kE j (d.length:Int) e [(15,.i f),(96,.i (d.length:Int)),(97,.i f),(115,.bool (decide ((w64 (f+1))<(j.length:Int))))])) (ac (gw c53) az)
      obtain rfl:=si r
      exact tr fol [2] ((9,.i g)::(kE j (d.length:Int) e [(15,.i f),(96,.i (d.length:Int)),(97,.i f),(115,.bool false)])) (ac (gw c53) az)
     refine ihB g49 (fun c56 g49=>?_) (fun c56 g49=>?_)
     ·obtain⟨x57,w,g49⟩:=bnd g49
      obtain⟨x58,a3,g49⟩:=bnd g49
      obtain⟨q59,e_q59,g49⟩:=bnd g49
      obtain⟨a4,a5,g49⟩:=bnd g49
      refine gq fol [2,3,7,8,11,13,14] ((9,.i g)::(kE j (d.length:Int) e (kAg (d.length:Int) f))) [.cells (a4.flatMap (qa .u64).c),.cells (e.flatMap (qa .u64).c)] (ac (hs (.done (.opt (qb ZT 126 (.slice 0 0 j.length j.length 1) (.i f))) (.ptr 0 ((f:Int).toNat*1+0))) (vZ qD w)) (ac (hs (.run [0] (zJ ZT 252 (.ptr 0 ((f:Int).toNat*1+0))) [.cells (j.flatMap (qa .u64).c),.cells (e.flatMap (qa .u64).c)] (.int .u64 x57) [.cells (j.flatMap (qa .u64).c),.cells (e.flatMap (qa .u64).c)] false) (qaC zH (E:=(qa .u64)) (l:=j) rfl rfl w (nl rfl) rfl)) (ac (hs (.done (.opt (qb ZT 126 (.slice 0 0 j.length j.length 1) (.i (w64 (f+1))))) (.ptr 0 ((w64 (f+1):Int).toNat*1+0))) (vZ qD a3)) (ac (hs (.run [0] (zJ ZT 252 (.ptr 0 ((w64 (f+1):Int).toNat*1+0))) [.cells (j.flatMap (qa .u64).c),.cells (e.flatMap (qa .u64).c)] (.int .u64 x58) [.cells (j.flatMap (qa .u64).c),.cells (e.flatMap (qa .u64).c)] false) (qaC zH (E:=(qa .u64)) (l:=j) rfl rfl a3 (nl rfl) rfl)) (ac (hs (.done (.opt (zb ZT .shl 252 (.tmp 124) (.tmp 126) (.int .u64 x58) (.i (w64 (64-g))))) (.int .u64 q59)) (qdB e_q59)) (ac (hs (.done (.opt (qb ZT 126 (.slice 0 0 j.length j.length 1) (.i f))) (.ptr 0 ((f:Int).toNat*1+0))) (vZ qD w)) (ac (hs (.run [0] (qx ZT 252 (.ptr 0 ((f:Int).toNat*1+0)) (.int .u64 (orI .u64 x57 q59))) [.cells (j.flatMap (qa .u64).c),.cells (e.flatMap (qa .u64).c)] .undef [.cells (a4.flatMap (qa .u64).c),.cells (e.flatMap (qa .u64).c)] true) (yc (E:=(qa .u64)) (l:=j) (y:=orI .u64 x57 q59) rfl (show _=some 1 by kernel_rfl) rfl w rfl rfl rfl rfl rfl a5 rfl)) az))))))) ?_
      obtain rfl:=si g49
      exact⟨rfl,_,rfl,((show Sub (ofG 137 ((9,.i g)::(kE j (d.length:Int) e (kAg (d.length:Int) f))),[.cells (a4.flatMap (qa .u64).c),.cells (e.flatMap (qa .u64).c)]) (ofG 137 ((9,.i g)::(kE a4 (d.length:Int) e (kAg (d.length:Int) f))),[.cells (a4.flatMap (qa .u64).c),.cells (e.flatMap (qa .u64).c)])from(Sub.norm [] [some 0,some 1] rfl rfl (.keep (.same nI) (.keep (.sliceE rfl (jg a5)) (.keep (.same nI) (.keep (.slice rfl) (.keep (.same nI) (.keep (.same nI) .nil)))))) (.ks (.ks .nil)))).trans (Sub.refl _))⟩
     refine Goes.skip ?_
     obtain rfl:=si g49
     exact⟨rfl,_,rfl,(Sub.keep [9,11,12,13,96,97] rfl rfl)⟩
    rintro x s' ⟨rfl,D,rfl,hsub⟩
    refine Goes.sub hsub ?_
    refine gh fol ((9,.i g)::(kE D (d.length:Int) e (kAg (d.length:Int) (w64 (f+1))))) ?_
    exact⟨M,(ofG 137 ((9,.i g)::(kE D (d.length:Int) e (kAg (d.length:Int) (w64 (f+1))))),[.cells (D.flatMap (qa .u64).c),.cells (e.flatMap (qa .u64).c)]),Nat.lt_succ_self _,(Sub.refl _),_,_,rfl,g46⟩
   refine Goes.exit ?_
   obtain rfl:=si g46
   exact⟨rfl,_,rfl,(Sub.keep [11,12,13] rfl rfl)⟩
 rintro x s' ⟨rfl,I,rfl,hsub⟩
 refine Goes.sub hsub ?_
 refine sq (Goes.sub (s':=(ofG 137 [(11,vl (qa .u64) I),(12,.i (d.length:Int)),(13,.slice 0 0 e.length e.length 1)],[.cells (e.flatMap (qa .u64).c)])) (Sub.norm [0] [some 1] rfl rfl (.keep (.frz (Fz.sl (E:=(qa .u64)) rfl rfl (nl rfl)) (qd (qa .u64) _)) (.keep (.same nI) (.keep (.slice rfl) .nil))) (.ks .nil)) ?_)
 obtain⟨a6,e_r62,h⟩:=bnd h
 obtain⟨s63,e_s63,h⟩:=bnd h
 obtain⟨a7,e_r64,h⟩:=bnd h
 refine gq fol [1,4,5] [(4,vl (qa .u64) a6),(5,vl (qa .u64) a7)] [.frozen (e.flatMap (qa .u64).c)] (ac (hs (.callF 240 [.slice 0 0 e.length e.length 1] [.cells (e.flatMap (qa .u64).c)] [0] [vl (qa .u64) e] (vl (qa .u64) a6)) (xU (FzL.cons (Fz.sl (E:=(qa .u64)) rfl rfl (nl rfl)) FzL.nil) (vY N e e_r62) (qy (qa .u64) _ (nl rfl)))) (ac (hs (.done (.opt (zI ZT 126 (vl (qa .u64) I) none (some (.i (d.length:Int))) none)) (vl (qa .u64) s63)) (qje qD (E:=(qa .u64)) rfl none (some (d.length:Int)) e_s63)) (ac (cv (vY N s63 e_r64)) az))) ?_
 refine Goes.sub (show Sub (ofG 137 [(4,vl (qa .u64) a6),(5,vl (qa .u64) a7)],[.frozen (e.flatMap (qa .u64).c)]) (ofG 137 [(4,vl (qa .u64) a6),(5,vl (qa .u64) a7)],[])from(Sub.norm [] [] rfl rfl (.keep (.same (qd (qa .u64) _)) (.keep (.same (qd (qa .u64) _)) .nil)) .nil)) ?_
 refine Goes.ret ?_
 obtain rfl:=si h
 exact(gw2 [vl (qa .u64) a6,vl (qa .u64) a7] (FzW.tuple (qg.cons (Ua (qy (qa .u64) _ (nl rfl))) (qg.cons (Ua (qy (qa .u64) _ (nl rfl))) qg.nil))))
def zX (N:Nat) (a:qw) (b:qw):Option (qw×qw):=
 (if a.w.isEmpty=true then
 if b.w.isEmpty=true then
 some (!decide (a.s=(-9223372036854775808)))
 else
 some false
 else
 some false:Option Bool).bind fun r=>
 if r=true then
 (qbO .i64 a.s b.s).bind fun q=>
 (xk .i64 a.s b.s).bind fun i=>
 ((if i<0 then
 some (w64 (q-1),w64 (i+b.s))
 else
 some (q,i):Option (Int×Int))).bind fun(t,u)=>
 some ((⟨t,[]⟩:qw),(⟨u,[]⟩:qw))
 else
 (qC a).bind fun d=>
 (qC b).bind fun j=>
 (xB N d.2 j.2).bind fun f=>
 (jF d.1 f.1).bind fun e=>
 (jF d.1 f.2).bind fun c=>
 (zu c).bind fun k=>
 ((if k<0 then
 (qde 1).bind fun l=>
 (xJ N e l).bind fun g=>
 (yR N c b).bind fun h=>
 some (g.s,g.w,h.s,h.w)
 else
 some (e.s,e.w,c.s,c.w):Option (Int×(List Int)×Int×(List Int)))).bind fun(m,n,o,p)=>
 some ((⟨m,n⟩:qw),(⟨o,p⟩:qw))
theorem qbc (N:Nat) (a:qw) (b:qw) {res:qw×qw} (h:zX N a b=some res):qc ZT (.fn 205) [.agg (nz1 a),.agg (nz1 b)] [] (.tuple [.agg (nz1 res.1),.agg (nz1 res.2)]) []:=by
 unfold zX at h
 refine Ub Tryz.func205 rfl rfl (m:=84) rfl (rs:=[.cell 4 128,.cell 5 128]) rfl (l:=[(0,.agg (nz1 a)),(1,.agg (nz1 b))]) rfl ?_
 refine sg fol (kF [(5,.ptr 3 0)]) [.cells (nz1 a),.cells (nz1 b),bZ,bZ] ?_
 refine sq ?_
 refine sq ?_
 obtain⟨b3,c,h⟩:=bnd h
 refine Goes.cut (s':=(ofG 84 (kF [(5,.ptr 3 0),(28,.bool b3)]),[.cells (nz1 a),.cells (nz1 b),bZ,bZ])) ?_ ?_
 ·rcases wyB c with⟨L,c⟩|⟨L,c⟩
  ·rcases wyB c with⟨O,c⟩|⟨O,c⟩
   ·obtain rfl:=si c
    exact tr fol [2,3,6,8] (kF [(5,.ptr 3 0),(28,.bool (!decide (a.s=(-9223372036854775808))))]) (ac (hs (.done (.opt (zb ZT .eql 126 (.tmp 17) (.const (.slice none 0 0)) (nvl (qa .u64) a.w) .nilslice)) (.bool a.w.isEmpty)) (qac yl)) (ac (gw L) (ac (hs (.done (.opt (zb ZT .eql 126 (.tmp 21) (.const (.slice none 0 0)) (nvl (qa .u64) b.w) .nilslice)) (.bool b.w.isEmpty)) (qac yl)) (ac (gw O) az))))
   obtain rfl:=si c
   exact tr fol [2,3,6,8] (kF [(5,.ptr 3 0),(28,.bool false)]) (ac (hs (.done (.opt (zb ZT .eql 126 (.tmp 17) (.const (.slice none 0 0)) (nvl (qa .u64) a.w) .nilslice)) (.bool a.w.isEmpty)) (qac yl)) (ac (gw L) (ac (hs (.done (.opt (zb ZT .eql 126 (.tmp 21) (.const (.slice none 0 0)) (nvl (qa .u64) b.w) .nilslice)) (.bool b.w.isEmpty)) (qac yl)) (ac (gw O) az))))
  obtain rfl:=si c
  exact tr fol [2,3] (kF [(5,.ptr 3 0),(28,.bool false)]) (ac (hs (.done (.opt (zb ZT .eql 126 (.tmp 17) (.const (.slice none 0 0)) (nvl (qa .u64) a.w) .nilslice)) (.bool a.w.isEmpty)) (qac yl)) (ac (gw L) az))
 refine ihB h (fun c5 h=>?_) (fun c5 h=>?_)
 ·obtain⟨M,F,h⟩:=bnd h
  obtain⟨G,H,h⟩:=bnd h
  refine sq (gr fol [4,9] (kAM (kAl M G [])) (ac (hs (.done (.opt (zb ZT .quo 3 (.tmp 30) (.tmp 32) (.i a.s) (.i b.s))) (.i M)) (qbP F)) (ac (hs (.done (.opt (zb ZT .rem 3 (.tmp 35) (.tmp 37) (.i a.s) (.i b.s))) (.i G)) (qan H)) az)) ?_)
  refine sq ?_
  refine sh fol (kAM (kAl M G [(40,.bool (decide (G<0)))])) ?_
  obtain⟨P,g10,h⟩:=bnd h
  refine Goes.imp (Q:=fun x s'=>(x= .normal/\ ∃I J,(I,J)=P/\Sub s' (ofG 84 (kAV ((5,.ptr 1 0)::(kAl I J []))),[bZ,bZ]))) ?_ ?_
  ·refine ihD g10 (fun U g10=>?_) (fun U g10=>?_)
   ·refine gh fol (kAd ((5,.ptr 3 0)::(kAl (w64 (M-1)) (w64 (G+b.s)) []))) ?_
    obtain rfl:=si g10
    exact⟨rfl,_,_,rfl,(Sub.norm [] [some 2,some 3] rfl rfl (.kp (.kp (.keep (.same nI) (.keep (.same nI) .nil)))) (.kb rfl (.same sn) (.kb rfl (.same sn) .nil)))⟩
   refine Goes.skip ?_
   obtain rfl:=si g10
   exact⟨rfl,_,_,rfl,(Sub.norm [] [some 2,some 3] rfl rfl (.drop (.kp (.kp (.keep (.same nI) (.keep (.same nI) .nil))))) (.kb rfl (.same sn) (.kb rfl (.same sn) .nil)))⟩
  rintro x s' ⟨rfl,I,J,rfl,hsub⟩
  try dsimp only at h
  refine Goes.sub hsub ?_
  refine sg fol (kAV [(5,.ptr 1 0)]) (.cells [.i I,.nilslice]::(kAh J)) ?_
  refine Goes.ret ?_
  obtain rfl:=si h
  exact(gw2 [.agg [.i I,.nilslice],.agg [.i J,.nilslice]] (FzW.tuple (qg.cons (FzW.agg (qg.cons (Ua tI) (qg.cons (FzW.nv0 (E:=(qa .u64))) qg.nil))) (qg.cons (FzW.agg (qg.cons (Ua tI) (qg.cons (FzW.nv0 (E:=(qa .u64))) qg.nil))) qg.nil))))
 refine Goes.skip ?_
 obtain⟨j,r,h⟩:=bnd h
 refine sq (gr fol [1] (kAM [(8,.bool j.1),(9,vl (qa .u64) j.2)]) (ac (cv (zx a r)) az) ?_)
 obtain⟨K,t,h⟩:=bnd h
 refine sq (gr fol [1] (kAM [(8,.bool j.1),(9,vl (qa .u64) j.2),(11,vl (qa .u64) K.2)]) (ac (cv (zx b t)) az) ?_)
 obtain⟨q,u,h⟩:=bnd h
 refine sq (gr fol [2] (kAM [(8,.bool j.1),(12,vl (qa .u64) q.1),(13,vl (qa .u64) q.2)]) (ac (cv (qc9 N j.2 K.2 u)) az) ?_)
 obtain⟨o,v,h⟩:=bnd h
 obtain⟨k,y,h⟩:=bnd h
 refine sq (gq fol [2,5,8,9] (kAM [(14,.ptr 4 0),(15,.ptr 5 0)]) [.cells (nz1 a),.cells (nz1 b),bZ,bZ,.cells (nz1 o),.cells (nz1 k)] (ac (cv (yK j.1 q.1 v)) (ac (cv (yK j.1 q.2 y)) (ac (hs (.run [4] (qx ZT 128 (.ptr 4 0) (.agg (nz1 o))) [.cells (nz1 a),.cells (nz1 b),bZ,bZ,bZ,bZ] .undef [.cells (nz1 a),.cells (nz1 b),bZ,bZ,.cells (nz1 o),bZ] true) (zW (n:=2) (by kernel_rfl) rfl rfl rfl rfl (cac rfl (cac nvc can)) rfl)) (ac (hs (.run [5] (qx ZT 128 (.ptr 5 0) (.agg (nz1 k))) [.cells (nz1 a),.cells (nz1 b),bZ,bZ,.cells (nz1 o),bZ] .undef [.cells (nz1 a),.cells (nz1 b),bZ,bZ,.cells (nz1 o),.cells (nz1 k)] true) (zW (n:=2) (by kernel_rfl) rfl rfl rfl rfl (cac rfl (cac nvc can)) rfl)) az)))) ?_)
 refine sq ?_
 obtain⟨V,z,h⟩:=bnd h
 refine sq (gr fol [1] (kAM [(14,.ptr 4 0),(15,.ptr 5 0),(75,.bool (decide (V<0)))]) (ac (cv (xq k z)) az) ?_)
 obtain⟨X,g22,h⟩:=bnd h
 refine Goes.imp (Q:=fun x s'=>(x= .normal/\ ∃d e f g,(d,e,f,g)=X/\Sub s' (ofG 84 (kAV [(5,.ptr 1 0),(14,.ptr 2 0),(15,.ptr 3 0)]),[bZ,bZ,.cells (ni1 d e),.cells (ni1 f g)]))) ?_ ?_
 ·refine ihD g22 (fun Y g22=>?_) (fun Y g22=>?_)
  ·obtain⟨Z,A,g22⟩:=bnd g22
   obtain⟨p,B,g22⟩:=bnd g22
   obtain⟨C,D,g22⟩:=bnd g22
   refine gq fol [1,2,5,6,7] (kAd [(5,.ptr 3 0),(14,.ptr 4 0),(15,.ptr 5 0)]) [.cells (nz1 a),.cells (nz1 b),bZ,bZ,.cells (nz1 p),.cells (nz1 C)] (ac (cv (qed 1 A)) (ac (cv (qe8 N o Z B)) (ac (cv (qch N k b D)) (ac (hs (.run [4] (qx ZT 128 (.ptr 4 0) (.agg (nz1 p))) [.cells (nz1 a),.cells (nz1 b),bZ,bZ,.cells (nz1 o),.cells (nz1 k)] .undef [.cells (nz1 a),.cells (nz1 b),bZ,bZ,.cells (nz1 p),.cells (nz1 k)] true) (zW (n:=2) (by kernel_rfl) rfl rfl rfl rfl (cac rfl (cac nvc can)) rfl)) (ac (hs (.run [5] (qx ZT 128 (.ptr 5 0) (.agg (nz1 C))) [.cells (nz1 a),.cells (nz1 b),bZ,bZ,.cells (nz1 p),.cells (nz1 k)] .undef [.cells (nz1 a),.cells (nz1 b),bZ,bZ,.cells (nz1 p),.cells (nz1 C)] true) (zW (n:=2) (by kernel_rfl) rfl rfl rfl rfl (cac rfl (cac nvc can)) rfl)) az))))) ?_
   obtain rfl:=si g22
   exact⟨rfl,_,_,_,_,rfl,(Sub.norm [] [some 2,some 3,some 4,some 5] rfl rfl (.kp (.kp (.kp (.kp .nil)))) (.kb rfl (.same sn) (.kb rfl (.same sn) (.kb rfl (.same sn) (.kb rfl (.same sn) .nil)))))⟩
  refine Goes.skip ?_
  obtain rfl:=si g22
  exact⟨rfl,_,_,_,_,rfl,(Sub.norm [] [some 2,some 3,some 4,some 5] rfl rfl (.drop (.kp (.kp (.kp (.kp .nil))))) (.kb rfl (.same sn) (.kb rfl (.same sn) (.kb rfl (.same sn) (.kb rfl (.same sn) .nil)))))⟩
 rintro x s' ⟨rfl,d,e,f,g,rfl,hsub⟩
 try dsimp only at h
 refine Goes.sub hsub ?_
 refine sq (gq fol [2,3] (kAV [(5,.ptr 1 0)]) [.cells (ni1 d e),.cells (ni1 f g),.cells (ni1 d e),.cells (ni1 f g)] (ac (hs (.run [0] (qx ZT 128 (.ptr 0 0) (.agg (ni1 d e))) [bZ,bZ,.cells (ni1 d e),.cells (ni1 f g)] .undef [.cells (ni1 d e),bZ,.cells (ni1 d e),.cells (ni1 f g)] true) (zW (n:=2) (by kernel_rfl) rfl rfl rfl rfl (cac rfl (cac nvc can)) rfl)) (ac (hs (.run [1] (qx ZT 128 (.ptr 1 0) (.agg (ni1 f g))) [.cells (ni1 d e),bZ,.cells (ni1 d e),.cells (ni1 f g)] .undef [.cells (ni1 d e),.cells (ni1 f g),.cells (ni1 d e),.cells (ni1 f g)] true) (zW (n:=2) (by kernel_rfl) rfl rfl rfl rfl (cac rfl (cac nvc can)) rfl)) az)) ?_)
 refine Goes.ret ?_
 obtain rfl:=si h
 exact(gw2 [.agg (ni1 d e),.agg (ni1 f g)] (FzW.tuple (qg.cons (FzW.agg (qg.cons (Ua tI) (qg.cons (Ua (qF (qa .u64) _ (nl rfl))) qg.nil))) (qg.cons (FzW.agg (qg.cons (Ua tI) (qg.cons (Ua (qF (qa .u64) _ (nl rfl))) qg.nil))) qg.nil))))
def jW (N:Nat):Nat->Int->(List Int)->Int->(List Int)->Option (Int×(List Int))
 |0,_,_,_,_=>none
 |K+1,e,f,b,c=>
  (zu (⟨b,c⟩:qw)).bind fun d=>
  if(!decide (d=0))=true then
  (zX N (⟨e,f⟩:qw) (⟨b,c⟩:qw)).bind fun a=>
  jW N K b c a.2.s a.2.w
  else
  some (e,f)
def qbN (N:Nat) (a:qw) (b:qw):Option qw:=
 (xD a).bind fun c=>
 (xD b).bind fun d=>
 (jW N N c.s c.w d.s d.w).bind fun(e,f)=>
 some (⟨e,f⟩:qw)
theorem qis (N:Nat) (a:qw) (b:qw) {res:qw} (h:qbN N a b=some res):qc ZT (.fn 151) [.agg (nz1 a),.agg (nz1 b)] [] (.agg (nz1 res)) []:=by
 unfold qbN at h
 refine Ub Tryz.func151 rfl rfl (m:=23) rfl (rs:=[.cell 4 128]) rfl (l:=[(0,.agg (nz1 a)),(1,.agg (nz1 b))]) rfl ?_
 refine sg fol (kF []) [.cells (nz1 a),.cells (nz1 b),bZ] ?_
 obtain⟨p,q,h⟩:=bnd h
 obtain⟨t,r,h⟩:=bnd h
 refine sq (gq fol [1,3,4,5] (kF []) [.cells (nz1 p),.cells (nz1 t),bZ] (ac (cv (qcs a q)) (ac (cv (qcs b r)) (ac (hs (.run [0] (qx ZT 128 (.ptr 0 0) (.agg (nz1 p))) [.cells (nz1 a),.cells (nz1 b),bZ] .undef [.cells (nz1 p),.cells (nz1 b),bZ] true) (zW (n:=2) (by kernel_rfl) rfl rfl rfl rfl (cac rfl (cac nvc can)) rfl)) (ac (hs (.run [1] (qx ZT 128 (.ptr 1 0) (.agg (nz1 t))) [.cells (nz1 p),.cells (nz1 b),bZ] .undef [.cells (nz1 p),.cells (nz1 t),bZ] true) (zW (n:=2) (by kernel_rfl) rfl rfl rfl rfl (cac rfl (cac nvc can)) rfl)) az)))) ?_)
 refine sq (Goes.block ?_)
 obtain⟨w,g9,h⟩:=bnd h
 refine Goes.imp (Q:=fun x s'=>(x= .exit 0/\ ∃f g,(f,g)=w/\Sub s' (ofG 23 (kAW [(4,.ptr 1 0)]),[.cells (ni1 f g),bZ]))) ?_ ?_
 ·refine Uc (fun M s=> ∃(i:Int) (j:List Int) (d:Int) (e:List Int),s=(ofG 23 (kF []),[.cells (ni1 i j),.cells (ni1 d e),bZ])/\jW N M i j d e=some w) ?_ (m:=N) ⟨_,_,_,_,rfl,g9⟩
  rintro M s ⟨i,j,d,e,rfl,g9⟩
  cases M with
  |zero=>simp only[jW]at g9;cases g9
  |succ M=>
   rw[jW]at g9
   refine sq ?_
   obtain⟨u,k,g9⟩:=bnd g9
   refine sq (gr fol [1] (kF [(13,.bool (!decide (u=0)))]) (ac (cv (xq (⟨d,e⟩:qw) k)) az) ?_)
   refine ihB g9 (fun v g9=>?_) (fun v g9=>?_)
   ·refine Goes.skip ?_
    refine Goes.block ?_
    obtain⟨c,o,g9⟩:=bnd g9
    refine sq (gq fol [2,8,9] (kF [(6,.ptr 4 0)]) [.cells (ni1 i j),.cells (ni1 d e),bZ,.cells (nz1 c.1),.cells (nz1 c.2)] (ac (cv (qbc N (⟨i,j⟩:qw) (⟨d,e⟩:qw) o)) (ac (hs (.run [3] (qx ZT 128 (.ptr 3 0) (.agg (nz1 c.1))) [.cells (ni1 i j),.cells (ni1 d e),bZ,bZ,bZ] .undef [.cells (ni1 i j),.cells (ni1 d e),bZ,.cells (nz1 c.1),bZ] true) (zW (n:=2) (by kernel_rfl) rfl rfl rfl rfl (cac rfl (cac nvc can)) rfl)) (ac (hs (.run [4] (qx ZT 128 (.ptr 4 0) (.agg (nz1 c.2))) [.cells (ni1 i j),.cells (ni1 d e),bZ,.cells (nz1 c.1),bZ] .undef [.cells (ni1 i j),.cells (ni1 d e),bZ,.cells (nz1 c.1),.cells (nz1 c.2)] true) (zW (n:=2) (by kernel_rfl) rfl rfl rfl rfl (cac rfl (cac nvc can)) rfl)) az))) ?_)
    refine gq fol [2,3] (kF []) [.cells (ni1 d e),.cells (nz1 c.2),bZ,.cells (nz1 c.1),.cells (nz1 c.2)] (ac (hs (.run [0] (qx ZT 128 (.ptr 0 0) (.agg (ni1 d e))) [.cells (ni1 i j),.cells (ni1 d e),bZ,.cells (nz1 c.1),.cells (nz1 c.2)] .undef [.cells (ni1 d e),.cells (ni1 d e),bZ,.cells (nz1 c.1),.cells (nz1 c.2)] true) (zW (n:=2) (by kernel_rfl) rfl rfl rfl rfl (cac rfl (cac nvc can)) rfl)) (ac (hs (.run [1] (qx ZT 128 (.ptr 1 0) (.agg (nz1 c.2))) [.cells (ni1 d e),.cells (ni1 d e),bZ,.cells (nz1 c.1),.cells (nz1 c.2)] .undef [.cells (ni1 d e),.cells (nz1 c.2),bZ,.cells (nz1 c.1),.cells (nz1 c.2)] true) (zW (n:=2) (by kernel_rfl) rfl rfl rfl rfl (cac rfl (cac nvc can)) rfl)) az)) ?_
    exact⟨M,(ofG 23 (kF []),[.cells (ni1 d e),.cells (nz1 c.2),bZ]),Nat.lt_succ_self _,(Sub.norm [] [some 0,some 1,some 2] rfl rfl (.kp (.kp (.kp .nil))) (.kb rfl (.same sn) (.kb rfl (.same sn) (.kb rfl (.same sn) .nil)))),_,_,_,_,rfl,g9⟩
   refine Goes.exit ?_
   obtain rfl:=si g9
   exact⟨rfl,_,_,rfl,(Sub.norm [] [some 0,some 2] rfl rfl (.kp (.drop (.kp .nil))) (.kb rfl (.same sn) (.kb rfl (.same sn) .nil)))⟩
 rintro x s' ⟨rfl,f,g,rfl,hsub⟩
 try dsimp only at h
 refine Goes.sub hsub ?_
 refine sq (gq fol [1] [(4,.ptr 1 0)] [.cells (ni1 f g),.cells (ni1 f g)] (ac (hs (.run [1] (qx ZT 128 (.ptr 1 0) (.agg (ni1 f g))) [.cells (ni1 f g),bZ] .undef [.cells (ni1 f g),.cells (ni1 f g)] true) (zW (n:=2) (by kernel_rfl) rfl rfl rfl rfl (cac rfl (cac nvc can)) rfl)) az) ?_)
 refine Goes.ret ?_
 obtain rfl:=si h
 exact(gw2 [.agg (ni1 f g)] (FzW.agg (qg.cons (Ua tI) (qg.cons (Ua (qF (qa .u64) _ (nl rfl))) qg.nil))))
end Go.Av
