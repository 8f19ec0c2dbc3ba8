/-
  Walks of functions: what each computes, as a plain function.
-/
import Derived.Test.YtbhnngdbhdfhiaaGreatDoorAvJnG
noncomputable section
namespace Go.Av
open Go.Proofs Go.RowKit
abbrev ZT:=Tryz.prog
set_option linter.unusedSectionVars false
set_option linter.unusedVariables false
set_option linter.unusedSimpArgs false
set_option maxRecDepth 100000
theorem fol:Tryz.prog.follows .mixedOrders=true:=by kernel_rfl
structure qx where
 s:Int
 w:List Int
def qho:Enc qx:=(encI.prod (encN (qa .u64))).comap fun x=>(x.s,x.w)
instance:SE qho:=⟨nl rfl⟩
structure qQ where
 Num:qx
 Den:qx
def qlg:Enc qQ:=(qho.prod qho).comap fun x=>(x.Num,x.Den)
instance:SE qlg:=⟨nl rfl⟩
structure qL where
 neg:Bool
 w:List Int
def qin:Enc qL:=(qeR.prod (qp encI)).comap fun x=>(x.neg,x.w)
instance:SE qin:=⟨nl rfl⟩
abbrev kA {α3:Type} {α4:Type} (a:List Int) (b:List Int) (c:Int) (d:List α3) (e:List α4) (f:Int) (x:List (Nat×AV)):List (Nat×AV):=(8,vl encI a)::(9,vl encI b)::(10,.i c)::(11,.oslice 0 d.length 1)::(12,.slice 1 0 e.length e.length 1)::(13,.i f)::x
abbrev kB (a:List Int) (x:List Blk):List Blk:= .cells (a.flatMap encI.c)::x
abbrev kC {α0:Type} (a:List α0) (x:List (Nat×AV)):List (Nat×AV):=(5,.slice 0 0 a.length a.length 1)::x
abbrev kD (a:List Bool) (x:List Blk):List Blk:= .cells [.slice 2 0 a.length a.length 1]:: .cells (a.flatMap qeR.c)::x
abbrev kE {α0:Type} {α2:Type} (a:List α0) (b:Int) (c:List α2) (x:List (Nat×AV)):List (Nat×AV):=(11,.slice 0 0 a.length a.length 1)::(12,.i b)::(13,.slice 1 0 c.length c.length 1)::x
abbrev kF (x:List (Nat×AV)):List (Nat×AV):=(2,.ptr 0 0)::(3,.ptr 1 0)::(4,.ptr 2 0)::x
abbrev kG (a:Int) (b:Int) (c:Int) (d:Int) (x:List (Nat×AV)):List (Nat×AV):=(2,.int .u64 a)::(8,.int .u64 b)::(9,.int .u64 c)::(10,.int .u64 d)::x
abbrev kH {α1:Type} {α2:Type} (a:List Int) (b:List α1) (c:List α2) (d:Int) (x:List (Nat×AV)):List (Nat×AV):=(0,vl encI a)::(3,.gslice 0 b.length 1)::(4,.slice 1 0 c.length c.length 1)::(5,.i d)::x
abbrev kI (a:List Int) (b:List Int) (x:List (Nat×AV)):List (Nat×AV):=(0,vl encI a)::(1,vl encI b)::x
abbrev kJ {α1:Type} {α4:Type} (a:Int) (b:List α1) (c:List Int) (d:Int) (e:List α4) (f:Int) (g:Int) (h:Int) (x:List (Nat×AV)):List (Nat×AV):=(1,.i a)::(7,.slice 0 0 b.length b.length 1)::(9,vl encI c)::(10,.i d)::(22,.gslice 1 e.length 1)::(23,.i f)::(24,.i g)::(38,vl encI c)::(39,.i h)::x
abbrev kK (x:List Blk):List Blk:= .cells [.i 0,.nilslice,.i 0,.nilslice]::x
abbrev kL (a:Int) (b:Int) (c:Int) (x:List (Nat×AV)):List (Nat×AV):=(14,.int .u64 a)::(15,.int .u64 b)::(16,.int .u64 c)::x
abbrev kM (x:List Blk):List Blk:= .cells [.bool false,.nilslice]::x
abbrev kN (a:Int) (b:Int) (x:List (Nat×AV)):List (Nat×AV):=(5,.i a)::(6,.int .u64 b)::x
abbrev kO (a:List Int) (x:List (Nat×AV)):List (Nat×AV):=(0,vl encI a)::x
abbrev kP {α0:Type} (a:List α0) (x:List (Nat×AV)):List (Nat×AV):=(6,.slice 0 0 a.length a.length 1)::x
abbrev kQ (a:Bool) (b:List Int) (x:List Blk):List Blk:= .cells [.bool a,vl encI b]::x
abbrev kR (a:List Bool) (x:List Blk):List Blk:= .cells (a.flatMap qeR.c)::x
abbrev kS (a:Int) (b:Int) (x:List (Nat×AV)):List (Nat×AV):=(0,.int .u64 a)::(1,.int .u64 b)::x
abbrev kT (a:Int) (b:Int) (x:List (Nat×AV)):List (Nat×AV):=(11,.int .u64 a)::(12,.int .u64 b)::x
abbrev kU (a:Int) (b:List Int) (x:List Blk):List Blk:= .cells [.i a]:: .cells [vl encI b]::x
abbrev kV (a:Int) (b:Int) (x:List (Nat×AV)):List (Nat×AV):=(7,.int .u64 a)::(8,.int .u64 b)::x
abbrev kW {α0:Type} (a:List α0) (x:List (Nat×AV)):List (Nat×AV):=(3,.gslice 0 a.length 1)::(4,.ptr 1 0)::x
abbrev kX (a:Int) (b:Int) (x:List (Nat×AV)):List (Nat×AV):=(21,.i a)::(22,.i b)::x
abbrev kY {α0:Type} (a:List α0) (x:List (Nat×AV)):List (Nat×AV):=(6,.gslice 0 a.length 1)::x
abbrev kZ (a:List Str) (x:List Blk):List Blk:= .cells (a.flatMap encS.c)::x
abbrev kAA (x:List (Nat×AV)):List (Nat×AV):=(2,.ptr 0 0)::x
abbrev kAB {α1:Type} {α2:Type} (a:Int) (b:List α1) (c:List α2) (d:Int) (x:List (Nat×AV)):List (Nat×AV):=(1,.i a)::(7,.slice 0 0 b.length b.length 1)::(22,.gslice 1 c.length 1)::(23,.i d)::x
abbrev kAC (a:Int) (x:List (Nat×AV)):List (Nat×AV):=(6,.int .u64 a)::x
abbrev kAD (a:Int) (b:Int):List (Nat×AV):=[(13,.i a),(14,.i b)]
abbrev kAE (a:Int) (b:Int) (x:List (Nat×AV)):List (Nat×AV):=(0,.i a)::(1,.i b)::x
abbrev kAF (a:Int) (b:Int) (x:List (Nat×AV)):List (Nat×AV):=(11,.int .u64 a)::(13,.int .u64 b)::x
abbrev kAG (a:Option (List Int)):List Blk:=[.cells [hsl 4 1 a],.cells ((hof a).flatMap encI.c)]
abbrev kAH (a:Int) (b:Int) (x:List (Nat×AV)):List (Nat×AV):=(17,.int .u64 a)::(18,.int .u64 b)::x
abbrev kAI (x:List (Nat×AV)):List (Nat×AV):=(3,.ptr 1 0)::(4,.ptr 2 0)::(5,.ptr 3 0)::x
abbrev kAJ {α3:Type} (a:List Int) (b:List Int) (c:Int) (d:List α3) (x:List (Nat×AV)):List (Nat×AV):=(8,vl encI a)::(9,vl encI b)::(10,.i c)::(11,.oslice 0 d.length 1)::x
abbrev kAK (a:Int) (x:List (Nat×AV)):List (Nat×AV):=(7,.int .u64 a)::x
abbrev kAL (a:Int) (b:Int) (x:List (Nat×AV)):List (Nat×AV):=(8,.i a)::(9,.i b)::x
abbrev kAM (x:List (Nat×AV)):List (Nat×AV):=(1,.ptr 0 0)::x
abbrev kAN (a:Str) (b:Str) (x:List (Nat×AV)):List (Nat×AV):=(0,.str a)::(1,.str b)::x
abbrev kAO (a:List Int) (b:Int) (c:Int) (x:List (Nat×AV)):List (Nat×AV):=(10,vl encI a)::(11,.i b)::(12,.i c)::x
abbrev kAP (a:Int) (b:Int) (c:Int) (x:List (Nat×AV)):List (Nat×AV):=(14,.i a)::(15,.i b)::(16,.i c)::x
abbrev kAQ {α0:Type} (a:List α0) (b:Int) (x:List (Nat×AV)):List (Nat×AV):=(5,.ptr 0 0)::(16,.gslice 1 a.length 1)::(17,.i b)::x
abbrev kAR (a:List Int):List Blk:=[.frozen (a.flatMap encI.c)]
abbrev kAS (a:Int) (x:List (Nat×AV)):List (Nat×AV):=(1,.ptr 4 0)::(2,.ptr 5 0)::(4,.i a)::x
abbrev kAT {α0:Type} (a:List α0) (b:Bool) (x:List (Nat×AV)):List (Nat×AV):=(3,.gslice 1 a.length 1)::(4,.bool b)::x
abbrev kAU:List (Nat×AV):=[(4,.bool false)]
abbrev kAV (a:Int) (b:Int) (c:Int) (d:Int) (x:List (Nat×AV)):List (Nat×AV):=(2,.i a)::(7,.i b)::(9,.i c)::(10,.i d)::x
abbrev kAW (a:Bool) (b:List Int):List AV:=[.bool a,vl encI b]
abbrev kAX {α0:Type} (a:List α0) (x:List Blk):List Blk:= .cells [.slice 2 0 a.length a.length 1]::x
abbrev kAY (a:Int) (b:Int):List (Nat×AV):=[(104,.i a),(105,.i b)]
abbrev kAZ (x:List (Nat×AV)):List (Nat×AV):=(4,.ptr 0 0)::x
abbrev kAa (x:List (Nat×AV)):List (Nat×AV):=(4,.ptr 2 0)::x
abbrev kAb (a:Int) (b:Int):List (Nat×AV):=[(28,.i a),(29,.i b)]
abbrev kAc (a:Int) (b:Int) (c:Int) (x:List (Nat×AV)):List (Nat×AV):=(17,.int .u64 a)::(156,.i b)::(157,.i c)::x
abbrev kAd {α0:Type} (a:List α0) (x:List (Nat×AV)):List (Nat×AV):=(6,.gslice 2 a.length 1)::x
abbrev kAe (a:Int) (b:Int):List (Nat×AV):=[(96,.i a),(97,.i b)]
abbrev kAf (x:List Blk):List Blk:= .cells [.nilslice]::x
abbrev kAg (a:Int):List (Nat×AV):=[(6,.ptr 3 0),(7,.i a)]
abbrev kAh (a:Int):List Blk:=[.cells [.i a,.nilslice]]
abbrev kAi (a:Int) (b:Int) (x:List (Nat×AV)):List (Nat×AV):=(14,.int .u64 a)::(15,.int .u64 b)::x
abbrev kAj:List (Nat×AV):=[(2,.ptr 1 0)]
abbrev kAk (a:Int) (b:Int) (x:List (Nat×AV)):List (Nat×AV):=(12,.i a)::(13,.i b)::x
abbrev kAl (a:Int):List (Nat×AV):=[(5,.i a)]
abbrev kAm (a:Str):List (Nat×AV):=[(0,.str a)]
abbrev kAn (a:Str) (b:Bool) (x:List (Nat×AV)):List (Nat×AV):=(5,.str a)::(6,.bool b)::x
abbrev kAo (a:Int) (x:List Blk):List Blk:= .dead:: .cells [.i a]::x
abbrev kAp (a:Bool) (b:List Int) (c:Bool) (d:List Int):List AV:=[.agg [.bool a,vl encI b],.agg [.bool c,vl encI d]]
abbrev kAq (a:Bool):List (Nat×AV):=[(4,.bool a)]
abbrev kAr (a:Int) (b:Int) (x:List (Nat×AV)):List (Nat×AV):=(0,.int .u64 a)::(2,.i b)::x
abbrev kAs {α0:Type} (a:List α0) (x:List (Nat×AV)):List (Nat×AV):=(7,.slice 0 0 a.length a.length 1)::x
abbrev kAt {α0:Type} (a:List α0) (x:List (Nat×AV)):List (Nat×AV):=(4,.slice 0 0 a.length a.length 1)::x
abbrev kAu (a:Str) (b:Int) (c:Int) (d:Str) (x:List (Nat×AV)):List (Nat×AV):=(0,.str a)::(1,.i b)::(2,.i c)::(3,.str d)::x
abbrev kAv (a:Str) (b:Int) (x:List (Nat×AV)):List (Nat×AV):=(0,.str a)::(3,.i b)::x
abbrev kAw (a:Int) (b:Int):List (Nat×AV):=[(7,.i a),(8,.i b)]
abbrev kAx (a:List Int) (b:List Int):List (Nat×AV):=[(4,vl encI a),(5,vl encI b)]
abbrev kAy (x:List (Nat×AV)):List (Nat×AV):=(3,.ptr 1 0)::x
abbrev kAz {α0:Type} (a:List α0) (x:List Blk):List Blk:= .cells [.oslice 7 a.length 1]::x
abbrev kA0 (a:Bool) (x:List (Nat×AV)):List (Nat×AV):=(3,.bool a)::x
abbrev kA1 (a:Bool):List (Nat×AV):=[(8,.bool a)]
abbrev kA2 (x:List (Nat×AV)):List (Nat×AV):=(10,.ptr 1 0)::x
abbrev kA3 (a:Bool):List (Nat×AV):=[(13,.bool a)]
abbrev kA4 (a:List Int) (b:List Int):List AV:=[vl encI a,vl encI b]
abbrev kA5:List Blk:=[.cells (([]:List Int).flatMap encI.c)]
abbrev kA6 (a:List Int) (x:List Blk):List Blk:= .cells [vl encI a]::x
abbrev kA7 (a:Int) (b:Int):List AV:=[.int .u64 a,.int .u64 b]
abbrev kA8 (a:List Int) (b:Int) (x:List (Nat×AV)):List (Nat×AV):=(9,vl encI a)::(10,.i b)::x
abbrev kA9 (x:List (Nat×AV)):List (Nat×AV):=(4,.ptr 1 0)::x
abbrev kBA (x:List (Nat×AV)):List (Nat×AV):=(8,.int .u64 0)::x
abbrev nz1 (x:qx):List AV:=ni1 x.s x.w
abbrev nq1 (x:qQ):List AV:=ni2 x.Num.s x.Num.w x.Den.s x.Den.w
theorem qlj:MpT ZT 129 3 4 (.int .i64) (.bool false):=⟨by kernel_rfl,by kernel_rfl,by kernel_rfl⟩
theorem zw:SlT ZT 22 3 1 8:=⟨by kernel_rfl,by kernel_rfl,by kernel_rfl,by kernel_rfl⟩
theorem ce3:CeT ZT 3:=⟨by kernel_rfl,by kernel_rfl⟩
theorem qkP:SlT ZT 45 4 1 1:=⟨by kernel_rfl,by kernel_rfl,by kernel_rfl,by kernel_rfl⟩
theorem ce4:CeT ZT 4:=⟨by kernel_rfl,by kernel_rfl⟩
noncomputable abbrev qo:Code:=(Tryz.f40.body.getD .skip).x2.x2.x2.x1.x2.x1.x1.x2.x2.x1.x1.x2.x2.x2.x1.x2.x1
theorem qgi:SlT ZT 24 22 1 24:=⟨by kernel_rfl,by kernel_rfl,by kernel_rfl,by kernel_rfl⟩
theorem qak:Tryz.prog.underlying 75=some (.slice 182):=by kernel_rfl
theorem zy:SlT ZT 75 182 1 8:=⟨by kernel_rfl,by kernel_rfl,by kernel_rfl,by kernel_rfl⟩
theorem zG:CeT ZT 182:=⟨by kernel_rfl,by kernel_rfl⟩
theorem st9:Tryz.prog.underlying 9=some .string:=by kernel_rfl
theorem qnP:SlT ZT 206 9 1 16:=⟨by kernel_rfl,by kernel_rfl,by kernel_rfl,by kernel_rfl⟩
theorem ce9:CeT ZT 9:=⟨by kernel_rfl,by kernel_rfl⟩
theorem qhG:CeT ZT 22:=⟨by kernel_rfl,by kernel_rfl⟩
theorem st28:Tryz.prog.underlying 28=some .string:=by kernel_rfl
def zA (p:List Int):Nat->(List (Int×Bool))->Int->Option (Unit⊕Int)
 |0,_,_=>none
 |K+1,e,b=>
  if b<(p.length:Int)then
  (idx p b).bind fun a=>
  (if a<0 then
  some true
  else
  if a>=(p.length:Int)then
  some true
  else
  some ((qbx e a).getD false):Option Bool).bind fun c=>
  if c=true then
  some (.inr 15)
  else
  (some (qdq e a true)).bind fun d=>
  zA p K d (w64 (b+1))
  else
  some (.inl ())
def jd (N:Nat) (p:List Int):Option Int:=
 if(p.length:Int)>256 then
 some 5
 else
 (zA p N ([]:List (Int×Bool)) 0).bind (fun
 |(.inl ())=>
 some 0
 |(.inr a)=>
 some a)
theorem xx (N:Nat) (p:List Int) {res:Int} (h:jd N p=some res):qc ZT (.fn 39) [vl encI p] [] (.i res) []:=by
 unfold jd at h
 refine Ub Tryz.func39 rfl rfl (m:=32) rfl (rs:=[.tmp 2]) rfl (l:=(kO p [])) rfl ?_
 refine sh fol (kO p []) ?_
 refine sq ?_
 refine sh fol (kO p (kA1 (decide ((p.length:Int)>256)))) ?_
 refine ihD h (fun u h=>?_) (fun u h=>?_)
 ·refine sh fol [(2,.i 5)] ?_
  refine Goes.ret ?_
  obtain rfl:=si h
  exact(gw2 [.i 5] (Ua tI))
 refine Goes.skip ?_
 refine sg fol (kO p [(3,.map 0)]) [mpB (AV.int .i64) fO ([]:List (Int×Bool))] ?_
 refine sq ?_
 refine sh fol (kO p [(3,.map 0),(10,vl encI p),(11,.i (p.length:Int)),(12,.i 0)]) ?_
 refine Goes.block ?_
 obtain⟨n,g4,h⟩:=bnd h
 refine Goes.imp (Q:=fun x s'=>(x= .exit 0/\(.inl ())=n/\Sub s' (ofG 32 [],[]))\/(x= .ret/\ ∃t,(.inr t)=n/\vJ ZT [.tmp 2] (.i t) .ret s')) ?_ ?_
 ·refine Uc (fun M s=> ∃(d:List (Int×Bool)) (b:Int),s=(ofG 32 (kO p ((3,.map 0)::(kAO p (p.length:Int) b []))),[mpB (AV.int .i64) fO d])/\zA p M d b=some n) ?_ (m:=N) ⟨_,_,rfl,g4⟩
  rintro M s ⟨d,b,rfl,g4⟩
  cases M with
  |zero=>simp only[zA]at g4;cases g4
  |succ M=>
   rw[zA]at g4
   refine sh fol (kO p ((3,.map 0)::(kAO p (p.length:Int) b (kA3 (decide (b<(p.length:Int))))))) ?_
   refine sq ?_
   refine ihD g4 (fun v g4=>?_) (fun v g4=>?_)
   ·refine Goes.skip ?_
    refine sq (Goes.block ?_)
    obtain⟨c,e,g4⟩:=bnd g4
    refine sq (gr fol [0,1] (kO p ((3,.map 0)::(5,.i c)::(kAO p (p.length:Int) b []))) (ac (iv zw encI e) (ac (lv 0 ce3 encI e rfl) az)) ?_)
    refine sq ?_
    refine sq ?_
    obtain⟨o,a,g4⟩:=bnd g4
    refine Goes.cut (s':=(ofG 32 (kO p ((3,.map 0)::(5,.i c)::(kAO p (p.length:Int) b [(28,.bool o)]))),[mpB (AV.int .i64) fO d])) ?_ ?_
    ·rcases wyD a with⟨k,a⟩|⟨k,a⟩
     ·obtain rfl:=si a
      exact tr fol [2] (kO p ((3,.map 0)::(5,.i c)::(kAO p (p.length:Int) b [(28,.bool true)]))) (ac (gw k) az)
     rcases wyD a with⟨q,a⟩|⟨q,a⟩
     ·obtain rfl:=si a
      exact tr fol [2,8] (kO p ((3,.map 0)::(5,.i c)::(kAO p (p.length:Int) b [(28,.bool true)]))) (ac (gw k) (ac (gw q) az))
     obtain rfl:=si a
     exact tr fol [2,8,11] (kO p ((3,.map 0)::(5,.i c)::(kAO p (p.length:Int) b [(28,.bool ((qbx d c).getD false))]))) (ac (gw k) (ac (gw q) (ac (hs (.run [0] (qaV ZT 129 (.map 0) (.i c) false) [mpB (AV.int .i64) fO d] (.bool ((qbx d c).getD false)) [mpB (AV.int .i64) fO d] false) (qlC (z:=false) (f:=fO) qlj keyI rfl c)) az)))
    refine ihB g4 (fun r g4=>?_) (fun r g4=>?_)
    ·refine sh fol [(2,.i 15)] ?_
     refine Goes.ret ?_
     obtain rfl:=si g4
     exact Or.inr (⟨rfl,_,rfl,(gw2 [.i 15] (Ua tI))⟩)
    refine Goes.skip ?_
    obtain⟨g,j,g4⟩:=bnd g4
    refine gq fol [2] (kO p ((3,.map 0)::(kAO p (p.length:Int) b []))) [mpB (AV.int .i64) fO g] (ac (hs (.run [0] (xE ZT 129 (.map 0) (.i c) (.bool true)) [mpB (AV.int .i64) fO d] .undef [mpB (AV.int .i64) fO g] true) (upm qlj keyI fO rfl c true j rfl)) az) ?_
    refine gh fol (kO p ((3,.map 0)::(kAO p (p.length:Int) (w64 (b+1)) []))) ?_
    exact⟨M,(ofG 32 (kO p ((3,.map 0)::(kAO p (p.length:Int) (w64 (b+1)) []))),[mpB (AV.int .i64) fO g]),Nat.lt_succ_self _,(Sub.refl _),_,_,rfl,g4⟩
   refine Goes.exit ?_
   obtain rfl:=si g4
   exact Or.inl (⟨rfl,rfl,(Sub.norm [] [] rfl rfl .nil .nil)⟩)
 rintro x s' (⟨rfl,rfl,hsub⟩|⟨rfl,w,rfl,hret⟩)
 ·try dsimp only at h
  refine Goes.sub hsub ?_
  refine sh fol [(2,.i 0)] ?_
  refine Goes.ret ?_
  obtain rfl:=si h
  exact(gw2 [.i 0] (Ua tI))
 try dsimp only at h
 obtain rfl:=si h
 exact hret
def xC (a:List Int) (b:Int):Option Unit:=
 some ()
theorem qdE (a:List Int) (b:Int) (h:xC a b=some ()):qc ZT (.fn 91) [vl encI a,.i b] [] (.func (.func 144) [] [.ptr 0 0,.ptr 1 0]) (kU b a []):=by
 unfold xC at h
 refine Goes.fnH Tryz.func91 rfl rfl (m:=6) rfl (rs:=[.tmp 4]) rfl (l:=(kO a [(1,.i b)])) rfl ?_
 intro B hB
 refine sg fol (kAA (kAy [])) (kA6 a [.cells [.i b]]) ?_
 refine sh fol [(4,.func (.func 144) [] [.ptr 1 0,.ptr 0 0])] ?_
 refine Goes.ret ?_
 exact(gh2 [.func (.func 144) [] [.ptr 1 0,.ptr 0 0]] (Sub.norm [] [some 1,some 0] (by rw[hB];rfl) rfl (.keep (.funcL (sn) (rc (.ptr rfl) (rc (.ptr rfl) rn))) .nil) (.kb rfl (.same sn) (.kb rfl (.same sn) .nil))))
def yc (b:List Bool) (c:Option (List Int)) (a:Int):Option ((List Bool)×(List Int)):=
 (idx b a).bind fun h=>
 (put b a true).bind fun d=>
 ((match c with
 |none=>
 some ([a]:List Int)
 |some e=>
 (app 8 e [a]).bind fun f=>
 some f):Option (List Int)).bind fun g=>
 some (d,g)
theorem qdm (d:List Bool) (e:Option (List Int)) (a:Int) {q:List Bool} {p:List Int} (h:yc d e a=some (q,p)):qc ZT (.rd 0) [.i a] (.loop .ready none (ofG 37 [(4,.ptr 1 0),(6,.ptr 3 0)]) qo.xp qo.x1 qo.x2::(kD d (kAG e))) (.bool true) (.loop .ready none (ofG 37 [(4,.ptr 1 0),(6,.ptr 3 0)]) qo.xp qo.x1 qo.x2::(kD q (.cells [.oslice 5 p.length 1]:: .dead::(kB p [])))):=by
 unfold yc at h
 refine Goes.round (m:=37) (l0:=(kA9 [(6,.ptr 3 0)])) (l:=(kA9 [(6,.ptr 3 0),(23,.i a)])) rfl rfl rfl ?_
 intro B hB
 refine Goes.subQ ?_
 refine gh fol (kA9 (kAg a)) ?_
 refine⟨_,Sub.refl _,?_⟩
 refine⟨_,_,_,_,_,rfl,?_⟩
 refine Goes.subQ ?_
 refine Goes.block ?_
 obtain⟨s,g,h⟩:=bnd h
 obtain⟨f,j,h⟩:=bnd h
 refine sq (gq fol [2,3] (kAg a) (.loop .busy none (ofG 37 [(4,.ptr 1 0),(6,.ptr 3 0)]) qo.xp qo.x1 qo.x2::(kAX d (kR f (kAG e)))) (ac (hs (.done (.opt (qf ZT 45 (.slice 2 0 d.length d.length 1) (.i a))) (.ptr 2 ((a:Int).toNat*1+0))) (vO qkP g)) (ac (hs (.run [2] (qw ZT 4 (.ptr 2 ((a:Int).toNat*1+0)) (.bool true)) (.loop .busy none (ofG 37 [(4,.ptr 1 0),(6,.ptr 3 0)]) qo.xp qo.x1 qo.x2::(kD d (kAG e))) .undef (.loop .busy none (ofG 37 [(4,.ptr 1 0),(6,.ptr 3 0)]) qo.xp qo.x1 qo.x2::(kAX d (kR f (kAG e)))) true) (yh (E:=qeR) (l:=d) (y:=true) rfl (show _=some 1 by kernel_rfl) rfl g rfl rfl rfl rfl rfl j rfl)) az)) ?_)
 refine Goes.sub (show Sub (ofG 37 (kAg a),(.loop .busy none (ofG 37 [(4,.ptr 1 0),(6,.ptr 3 0)]) qo.xp qo.x1 qo.x2::(kAX d (kR f (kAG e))))) (ofG 37 (kAg a),(.loop .busy none (ofG 37 [(4,.ptr 1 0),(6,.ptr 3 0)]) qo.xp qo.x1 qo.x2::(kD f (kAG e))))from(Sub.norm [] [some 0,some 1,some 2,some 3,some 4] (by rw[hB];rfl) rfl (.kp (.keep (.same nI) .nil)) (.kb rfl (.loop rfl (.kp (.kp .nil))) (.kb rfl (.cells (rc (.sliceE rfl (zS j)) rn)) (.ks (.kb rfl (.cells (rc (.hs rfl) rn)) (.ks .nil))))))) ?_
 obtain⟨r,b,h⟩:=bnd h
 refine Goes.cutS (s':=(ofG 37 [],(.loop .busy none (ofG 37 [(4,.ptr 1 0),(6,.ptr 3 0)]) qo.xp qo.x1 qo.x2::(kD f (.cells [.oslice 5 r.length 1]:: .dead::(kB r [])))))) ?_ ?_
 ·rcases e with _|k
  ·try dsimp only at b
   obtain rfl:=si b
   exact yL.sub (yL.rg fol [] (.loop .busy none (ofG 37 [(4,.ptr 1 0),(6,.ptr 3 0)]) qo.xp qo.x1 qo.x2::(kD f [.cells [.oslice 6 1 1],.cells ((hof (none:Option (List Int))).flatMap encI.c),.cells [.i a],.cells [.i a]]))) (Sub.norm [] [some 0,some 1,some 2,some 3,some 4,some 6] (by rw[hB];rfl) rfl .nil (.kb rfl (.loop rfl (.kp (.kp .nil))) (.kb rfl (.cells (rc (.slice rfl) rn)) (.ks (.kb rfl (.cells (rc ((zo.osliceE rfl rfl)) rn)) (.lost (.ks .nil)))))))
  try dsimp only at b
  obtain⟨o,n,b⟩:=bnd b
  obtain rfl:=si b
  exact yL.sub (yL.rq fol [3] [] (.loop .busy none (ofG 37 [(4,.ptr 1 0),(6,.ptr 3 0)]) qo.xp qo.x1 qo.x2::(kD f (.cells [.oslice 6 o.length 1]::(kAo a (kB o []))))) (ac (hs (.run [4,5] (vP ZT [22,22] (.oslice 4 k.length 1) (.slice 5 0 1 1 1)) (.loop .busy none (ofG 37 [(4,.ptr 1 0),(6,.ptr 3 0)]) qo.xp qo.x1 qo.x2::(kD f (.cells [.oslice 4 k.length 1]::(kB k [.cells [.i a]])))) (.oslice 6 o.length 1) (.loop .busy none (ofG 37 [(4,.ptr 1 0),(6,.ptr 3 0)]) qo.xp qo.x1 qo.x2::(kD f (.cells [.oslice 4 k.length 1]::(kAo a (kB o []))))) true) (qaB zw (E:=encI) rfl (qd4 (E:=encI) (ys:=[a]) rfl rfl rfl rfl) (qnQ (E:=encI) (l:=k) rfl rfl rfl n rfl))) az)) (Sub.norm [] [some 0,some 1,some 2,some 3,some 4,some 6] (by rw[hB];rfl) rfl .nil (.kb rfl (.loop rfl (.kp (.kp .nil))) (.kb rfl (.cells (rc (.slice rfl) rn)) (.ks (.kb rfl (.cells (rc (.oslice rfl) rn)) (.lost (.ks .nil)))))))
 intro _ hsub
 simp only[ZI,ZP]at h
 obtain⟨rfl,rfl⟩:=h
 exact⟨_,hsub,⟨_,_,rfl,(Sub.keep [0] rfl rfl)⟩⟩
def ku (a:Int) (b:List Int):Nat->(List Bool)->(Option (List Int))->Int->Option ((List Bool)×(List Int))
 |0,_,_,_=>none
 |K+1,g,h,e=>
  (yc g h e).bind fun(f,c)=>
  (idx b e).bind fun d=>
  if d=a then
  some (f,c)
  else
  ku a b K f (some c) d
def j6 (N:Nat) (b:List Bool) (a:Int) (c:List Int):Option ((List Bool)×(List Int)):=
 (ku a c N b (none:Option (List Int)) a).bind fun d=>
 some d
theorem qcw (N:Nat) (j:List Bool) (a:Int) (d:List Int) {v:List Bool} {r:List Int} (h:j6 N j a d=some (v,r)):qc ZT (.fn 144) [.yld 0,.ptr 4 0,.ptr 5 0] (.loop .ready none (ofG 37 [(4,.ptr 1 0),(6,.ptr 3 0)]) qo.xp qo.x1 qo.x2::(kD j (kAf (kU a d [])))) (.tuple []) (.loop .ready none (ofG 37 [(4,.ptr 1 0),(6,.ptr 3 0)]) qo.xp qo.x1 qo.x2::(kD v (.cells [.oslice 6 r.length 1]::(kU a d (kB r []))))):=by
 unfold j6 at h
 refine Goes.fnH Tryz.func144 rfl rfl (m:=16) rfl (rs:=[]) rfl (l:=[(0,.yld 0),(1,.ptr 4 0),(2,.ptr 5 0)]) rfl ?_
 intro B hB
 refine Goes.subQ ?_
 refine sh fol ((0,.yld 0)::(kAS a [])) ?_
 refine Goes.block ?_
 obtain⟨w,g6,h⟩:=bnd h
 refine Goes.imp (Q:=fun x s'=>(x= .ret/\ ∃q,q=w/\qcQ ZT [] (.tuple []) (.loop .ready none (ofG 37 [(4,.ptr 1 0),(6,.ptr 3 0)]) qo.xp qo.x1 qo.x2::(kD q.1 (.cells [.oslice 6 q.2.length 1]::(kU a d (kB q.2 []))))) .ret s')) ?_ ?_
 ·refine Goes.sub (s':=(ofG 16 ((0,.yld 0)::(kAS a [])),(.loop .ready none (ofG 37 [(4,.ptr 1 0),(6,.ptr 3 0)]) qo.xp qo.x1 qo.x2::(kD j (.cells [hsl 6 1 (none:Option (List Int))]::(kU a d [.cells ((hof (none:Option (List Int))).flatMap encI.c)])))))) (Sub.norm [] [some 0,some 1,some 2,some 3,some 4,some 5,none] (by rw[hB];rfl) rfl (.keep (.yld rfl) (.kp (.kp (.keep (.same nI) .nil)))) (.kb rfl (.loop rfl (.kp (.kp .nil))) (.kb rfl (.cells (rc (.slice rfl) rn)) (.ks (.kb rfl (.cells (rc .hs0 rn)) (.kb rfl (.same sn) (.kb rfl (.same sn) (.fresh .nil)))))))) ?_
  refine Uc (fun M s=> ∃(o:List Bool) (k:Option (List Int)) (n:Int),s=(ofG 16 ((0,.yld 0)::(kAS n [])),(.loop .ready none (ofG 37 [(4,.ptr 1 0),(6,.ptr 3 0)]) qo.xp qo.x1 qo.x2::(kD o (.cells [hsl 6 1 k]::(kU a d [.cells ((hof k).flatMap encI.c)])))))/\ku a d M o k n=some w) ?_ (m:=N) ⟨_,_,_,rfl,g6⟩
  rintro M s ⟨o,k,n,rfl,g6⟩
  cases M with
  |zero=>simp only[ku]at g6;cases g6
  |succ M=>
   rw[ku]at g6
   refine sq ?_
   obtain⟨⟨t,e⟩,p,g6⟩:=bnd g6
   try dsimp only at g6
   refine sq (gq fol [2] ((0,.yld 0)::(kAS n [(8,.bool true)])) (.loop .ready none (ofG 37 [(4,.ptr 1 0),(6,.ptr 3 0)]) qo.xp qo.x1 qo.x2::(kD t (kAz e (kU a d (.dead::(kB e [])))))) (ac (hs (.callH (.rd 0) [.i n] (.loop .ready none (ofG 37 [(4,.ptr 1 0),(6,.ptr 3 0)]) qo.xp qo.x1 qo.x2::(kD o (.cells [hsl 6 1 k]::(kU a d [.cells ((hof k).flatMap encI.c)])))) [0,1,2,3,6] (.bool true) (.loop .ready none (ofG 37 [(4,.ptr 1 0),(6,.ptr 3 0)]) qo.xp qo.x1 qo.x2::(kD t (kAz e (kU a d (.dead::(kB e []))))))) (qoc [some 0,some 1,some 2,some 3,some 6] [some 0,some 1,some 2,some 3,none,none,none,some 5] (qdm o k n p) rfl (.kb rfl (.loop rfl (.kp (.kp .nil))) (.kb rfl (.cells (rc (.slice rfl) rn)) (.ks (.kb rfl (.cells (rc (.hs rfl) rn)) (.ks .nil))))) rfl rfl (.back rfl rfl (.loop rfl (.kp (.kp .nil))) rfl (.back rfl rfl (.cells (rc (.slice rfl) rn)) rfl (.back rfl rfl (.same fa) rfl (.back rfl rfl (.cells (rc (.oslice rfl) rn)) rfl (.old rfl rfl (.old rfl rfl (.dead (.new rfl rfl (.same fa) rfl .nil)))))))) (rc (.same nI) rn) (.same nB) rfl)) az) ?_)
   refine Goes.ifB (b:=true) (by kernel_rfl) (fun _=>?_) (fun c=>(by cases c))
   refine Goes.skip ?_
   refine Goes.block ?_
   obtain⟨g,f,g6⟩:=bnd g6
   refine sq (gr fol [2,3] ((0,.yld 0)::(kAS g [])) (ac (iv zw encI f) (ac (lv 0 ce3 encI f rfl) az)) ?_)
   refine sh fol ((0,.yld 0)::(kAS g [(15,.bool (decide (g=a)))])) ?_
   refine ihD g6 (fun u g6=>?_) (fun u g6=>?_)
   ·refine Goes.ret ?_
    obtain rfl:=si g6
    exact⟨rfl,_,rfl,(gh2 [] (Sub.norm [] [some 0,some 1,some 2,some 3,some 4,some 5,some 7] (by rw[hB];rfl) rfl (.keep (.same (qB.tuple sn)) .nil) (.kb rfl (.loop rfl (.kp (.kp .nil))) (.kb rfl (.cells (rc (.slice rfl) rn)) (.ks (.kb rfl (.cells (rc (.oslice rfl) rn)) (.kb rfl (.same sn) (.kb rfl (.same sn) (.ks .nil)))))))))⟩
   refine Goes.skip ?_
   exact⟨M,(ofG 16 ((0,.yld 0)::(kAS g [])),(.loop .ready none (ofG 37 [(4,.ptr 1 0),(6,.ptr 3 0)]) qo.xp qo.x1 qo.x2::(kD t (.cells [hsl 6 1 (some e)]::(kU a d [.cells ((hof (some e)).flatMap encI.c)]))))),Nat.lt_succ_self _,(Sub.norm [] [some 0,some 1,some 2,some 3,some 4,some 5,some 7] (by rw[hB];rfl) rfl (.keep (.yld rfl) (.kp (.kp (.keep (.same nI) .nil)))) (.kb rfl (.loop rfl (.kp (.kp .nil))) (.kb rfl (.cells (rc (.slice rfl) rn)) (.ks (.kb rfl (.cells (rc ((zo.hs1 rfl)) rn)) (.kb rfl (.same sn) (.kb rfl (.same sn) (.ks .nil)))))))),_,_,_,rfl,g6⟩
 rintro x s' ⟨rfl,y,rfl,hret⟩
 obtain rfl:=si h
 exact⟨_,Sub.refl _,hret⟩
def zB (N:Nat) (a:List Int):Nat->(List (List Int))->(List Bool)->Int->Option (List (List Int))
 |0,_,_,_=>none
 |K+1,c,d,b=>
  if b<(a.length:Int)then
  (((idx d b).bind fun e=>
  if e=true then
  some (c,d)
  else
  (xC a b).bind fun _=>
  (j6 N d b a).bind fun(f,g)=>
  (app 24 c [g]).bind fun h=>
  some (h,f):Option ((List (List Int))×(List Bool)))).bind fun(j,i)=>
  zB N a K j i (w64 (b+1))
  else
  some c
def jg (N:Nat) (a:List Int):Option (List (List Int)):=
 (mk 1 (a.length:Int) false).bind fun b=>
 (zB N a N ([]:List (List Int)) b 0).bind fun c=>
 some c
theorem xy (N:Nat) (a:List Int) {A:List (List Int)} (h:jg N a=some A):qc ZT (.fn 40) [vl encI a] [] (.gslice 0 A.length 1) [.cells (A.flatMap (qp encI).c)]:=by
 unfold jg at h
 refine Goes.fnHr Tryz.func40 rfl rfl (m:=37) rfl (rs:=[.tmp 2]) rfl (l:=(kO a [])) rfl ?_
 intro B hB hR
 refine sh fol (kO a []) ?_
 refine sh fol (kO a [(3,.nilslice)]) ?_
 obtain⟨o,w,h⟩:=bnd h
 refine sq (gq fol [2] (kO a ((3,.nilslice)::(kA9 []))) (kR o [.cells [.slice 0 0 o.length o.length 1]]) (ac (hs (.run [] (kw ZT 45 (.i (a.length:Int)) (.i (a.length:Int))) [] (.slice 0 0 o.length o.length 1) (kR o []) false) (qaA qkP (E:=qeR) (z:=false) rfl (by kernel_rfl) w rfl)) az) ?_)
 refine sq ?_
 refine sh fol (kO a ((3,.nilslice)::(kA9 [(12,.i (a.length:Int)),(13,.i 0)]))) ?_
 refine Goes.block ?_
 obtain⟨F,g7,h⟩:=bnd h
 refine Goes.imp (Q:=fun x s'=>(x= .exit 0/\ ∃u,u=F/\Sub s' (ofG 37 [(3,.gslice 0 u.length 1)],[.cells (u.flatMap (qp encI).c)]))) ?_ ?_
 ·refine Goes.sub (s':=(ofG 37 (kO a ((3,.gslice 0 ([]:List (List Int)).length 1)::(kA9 [(12,.i (a.length:Int)),(13,.i 0)]))),(.cells (([]:List (List Int)).flatMap (qp encI).c)::(kD o [])))) (Sub.norm [] [none,some 1,some 0] (by rw[hB];rfl) rfl (.keep (.same (qd encI _)) (.keep .nil (.kp (.keep (.same nI) (.keep (.same nI) .nil))))) (.fresh (.kb rfl (.cells (rc (.slice rfl) rn)) (.ks .nil)))) ?_
  refine Uc (fun M s=> ∃(e:List (List Int)) (g:List Bool) (b:Int),s=(ofG 37 (kO a (kW e (kAk (a.length:Int) b []))),(.cells (e.flatMap (qp encI).c)::(kD g [])))/\zB N a M e g b=some F) ?_ (m:=N) ⟨_,_,_,rfl,g7⟩
  rintro M s ⟨e,g,b,rfl,g7⟩
  cases M with
  |zero=>simp only[zB]at g7;cases g7
  |succ M=>
   rw[zB]at g7
   refine sh fol (kO a (kW e (kAk (a.length:Int) b [(14,.bool (decide (b<(a.length:Int))))]))) ?_
   refine sq ?_
   refine ihD g7 (fun G g7=>?_) (fun G g7=>?_)
   ·refine Goes.skip ?_
    refine sq ?_
    obtain⟨C,g11,g7⟩:=bnd g7
    refine Goes.imp (Q:=fun x s'=>(x= .normal/\ ∃p k,(p,k)=C/\Sub s' (ofG 37 (kO a (kW p (kAk (a.length:Int) b []))),(.cells (p.flatMap (qp encI).c)::(kD k []))))) ?_ ?_
    ·refine Goes.block ?_
     refine sh fol (kO a (kW e ((5,.i b)::(kAk (a.length:Int) b [])))) ?_
     refine sq ?_
     obtain⟨y,j,g11⟩:=bnd g11
     refine sq (gr fol [2,3] (kO a (kW e ((5,.i b)::(kAk (a.length:Int) b [(19,.bool y)])))) (ac (hs (.done (.opt (qf ZT 45 (.slice 2 0 g.length g.length 1) (.i b))) (.ptr 2 ((b:Int).toNat*1+0))) (vO qkP j)) (ac (hs (.run [2] (zC ZT 4 (.ptr 2 ((b:Int).toNat*1+0))) (.cells (e.flatMap (qp encI).c)::(kD g [])) (.bool y) (.cells (e.flatMap (qp encI).c)::(kD g [])) false) (qaF ce4 (E:=qeR) (l:=g) rfl rfl j (nl rfl) rfl)) az)) ?_)
     refine ihB g11 (fun D g11=>?_) (fun D g11=>?_)
     ·refine Goes.exit ?_
      obtain rfl:=si g11
      exact⟨rfl,_,_,rfl,(Sub.keep [0,3,4,12,13] rfl rfl)⟩
     refine Goes.skip ?_
     refine sg fol (kO a (kW e ((5,.i b)::(6,.ptr 3 0)::(kAk (a.length:Int) b [])))) (.cells (e.flatMap (qp encI).c)::(kD g (kAf []))) ?_
     refine sq ?_
     obtain⟨_,q,g11⟩:=bnd g11
     refine sq (gq fol [2] (kO a (kW e ((6,.ptr 3 0)::(kAk (a.length:Int) b [(22,.func (.func 144) [] [.ptr 4 0,.ptr 5 0])])))) (.cells (e.flatMap (qp encI).c)::(kD g (kAf (kU b a [])))) (ac (hs (.callH 91 [vl encI a,.i b] (.cells (e.flatMap (qp encI).c)::(kD g (kAf []))) [] (.func (.func 144) [] [.ptr 4 0,.ptr 5 0]) (.cells (e.flatMap (qp encI).c)::(kD g (kAf (kU b a []))))) (qbf [] [none,none,none,none,some 0,some 1] (qdE a b q) .nil rfl rfl (.old rfl rfl (.old rfl rfl (.old rfl rfl (.old rfl rfl (.new rfl rfl (.cells (rc (.same nI) rn)) rfl (.new rfl rfl (.cells (rc (.same (qd encI _)) rn)) rfl .nil)))))) (rc (.same (qd encI _)) (rc (.same nI) rn)) (.funcL (sn) (rc (.ptr rfl) (rc (.ptr rfl) rn))) rfl)) az) ?_)
     refine Goes.block ?_
     obtain⟨⟨f,d⟩,r,g11⟩:=bnd g11
     try dsimp only at g11
     refine Goes.range fol hR (gf:=144) (first:=[]) (captured:=[.ptr 4 0,.ptr 5 0]) (v:= .tuple []) (A2:=(.cells (e.flatMap (qp encI).c)::(kD f (kAz d (kU b a (.loop .ready none (ofG 37 [(4,.ptr 1 0),(6,.ptr 3 0)]) qo.xp qo.x1 qo.x2::(kB d []))))))) (s':=(ofG 37 (kO a (kW e ((6,.ptr 3 0)::(kAk (a.length:Int) b [(22,.func (.func 144) [] [.ptr 4 0,.ptr 5 0])])))),(.cells (e.flatMap (qp encI).c)::(kD f (kAz d (kU b a (.loop .exhausted none (ofG 37 [(4,.ptr 1 0),(6,.ptr 3 0)]) qo.xp qo.x1 qo.x2::(kB d [])))))))) (x:= .normal) (by kernel_rfl) (by kernel_rfl) (qlO (show(Obl.callH 144 [.yld 6,.ptr 4 0,.ptr 5 0] (.cells (e.flatMap (qp encI).c)::(kD g (kAf (kU b a [.loop .ready none (ofG 37 [(0,vl encI a),(3,.gslice 0 e.length 1),(4,.ptr 1 0),(6,.ptr 3 0),(12,.i (a.length:Int)),(13,.i b),(22,.func (.func 144) [] [.ptr 4 0,.ptr 5 0])]) qo.xp qo.x1 qo.x2])))) [6,1,2,3,4,5] (.tuple []) (.cells (e.flatMap (qp encI).c)::(kD f (kAz d (kU b a (.loop .ready none (ofG 37 [(4,.ptr 1 0),(6,.ptr 3 0)]) qo.xp qo.x1 qo.x2::(kB d []))))))).Holds ZT from qbf [some 6,some 1,some 2,some 3,some 4,some 5] [none,some 1,some 2,some 3,some 4,some 5,some 0,some 6] (qcw N g b a r) (.kb rfl (.loop rfl (.drop (.drop (.kp (.kp (.drop (.drop (.drop .nil)))))))) (.kb rfl (.cells (rc (.slice rfl) rn)) (.ks (.kb rfl (.cells (rc (.same (qB.nilslice)) rn)) (.kb rfl (.cells (rc (.same nI) rn)) (.kb rfl (.cells (rc (.same (qd encI _)) rn)) .nil)))))) rfl rfl (.old rfl rfl (.back rfl rfl (.cells (rc (.slice rfl) rn)) rfl (.back rfl rfl (.same fa) rfl (.back rfl rfl (.cells (rc (.oslice rfl) rn)) rfl (.back rfl rfl (.cells (rc (.same nI) rn)) rfl (.back rfl rfl (.cells (rc (.same (qd encI _)) rn)) rfl (.back rfl rfl (.loop rfl (.kp (.kp .nil))) rfl (.new rfl rfl (.same fa) rfl .nil)))))))) (rc (.yld rfl) (rc (.ptr rfl) (rc (.ptr rfl) rn))) (.same (qB.tuple sn)) rfl)) (by kernel_rfl) ?_
     refine Goes.sub (show Sub (ofG 37 (kO a (kW e ((6,.ptr 3 0)::(kAk (a.length:Int) b [(22,.func (.func 144) [] [.ptr 4 0,.ptr 5 0])])))),(.cells (e.flatMap (qp encI).c)::(kD f (kAz d (kU b a (.loop .exhausted none (ofG 37 [(4,.ptr 1 0),(6,.ptr 3 0)]) qo.xp qo.x1 qo.x2::(kB d []))))))) (ofG 37 (kO a (kW e ((6,.ptr 3 0)::(kAk (a.length:Int) b [(22,.func (.func 144) [] [.ptr 5 0,.ptr 6 0])])))),(.cells (e.flatMap (qp encI).c)::(kD f (.cells [.oslice 4 d.length 1]::(kB d (kU b a []))))))from(Sub.norm [] [some 0,some 1,some 2,some 3,some 7,some 4,some 5] (by rw[hB];rfl) rfl (.keep (.same (qd encI _)) (.keep (.gslice rfl) (.kp (.kp (.keep (.same nI) (.keep (.same nI) (.keep (.funcL (sn) (rc (.ptr rfl) (rc (.ptr rfl) rn))) .nil))))))) (.ks (.kb rfl (.cells (rc (.slice rfl) rn)) (.ks (.kb rfl (.cells (rc (.oslice rfl) rn)) (.ks (.kb rfl (.same sn) (.kb rfl (.same sn) .nil))))))))) ?_
     refine Goes.sub (s':=(ofG 37 (kO a (kW e ((6,.ptr 3 0)::(kAk (a.length:Int) b [(22,.func (.func 144) [] [.ptr 4 0,.ptr 5 0])])))),(.cells (e.flatMap (qp encI).c)::(kD f (kA6 d (kU b a [])))))) (Sub.norm [4] [some 0,some 1,some 2,some 3,some 5,some 6] (by rw[hB];rfl) rfl (.keep (.same (qd encI _)) (.keep (.gslice rfl) (.kp (.kp (.keep (.same nI) (.keep (.same nI) (.keep (.funcL (sn) (rc (.ptr rfl) (rc (.ptr rfl) rn))) .nil))))))) (.ks (.kb rfl (.cells (rc (.slice rfl) rn)) (.ks (.kb rfl (.cells (rc (.frz (Fz.os (E:=encI) rfl rfl (nl rfl)) (qd encI _)) rn)) (.kb rfl (.same sn) (.kb rfl (.same sn) .nil))))))) ?_
     obtain⟨n,t,g11⟩:=bnd g11
     refine gq fol [3] (kO a ((3,.gslice 7 n.length 1)::(kA9 (kAk (a.length:Int) b [])))) (.dead::(kD f (kA6 d (kU b a (kA6 d [.cells (n.flatMap (qp encI).c)]))))) (ac (hs (.run [0,6] (vP ZT [24,24] (.gslice 0 e.length 1) (.slice 6 0 1 1 1)) (.cells (e.flatMap (qp encI).c)::(kD f (kA6 d (kU b a (kA6 d []))))) (.gslice 7 n.length 1) (.dead::(kD f (kA6 d (kU b a (kA6 d [.cells (n.flatMap (qp encI).c)]))))) true) (qaB qgi (E:=(qp encI)) rfl (qd4 (E:=(qp encI)) (ys:=[d]) rfl rfl rfl rfl) (qfl (E:=(qp encI)) (l:=e) rfl rfl rfl t rfl))) az) ?_
     obtain rfl:=si g11
     exact⟨rfl,_,_,rfl,(Sub.norm [] [some 7,some 1,some 2] (by rw[hB];rfl) rfl (.keep (.same (qd encI _)) (.keep (.gslice rfl) (.kp (.keep (.same nI) (.keep (.same nI) .nil))))) (.ks (.kb rfl (.cells (rc (.slice rfl) rn)) (.ks .nil))))⟩
    rintro x s' ⟨rfl,p,k,rfl,hsub⟩
    try dsimp only at g7
    refine Goes.sub hsub ?_
    refine gh fol (kO a (kW p (kAk (a.length:Int) (w64 (b+1)) []))) ?_
    exact⟨M,(ofG 37 (kO a (kW p (kAk (a.length:Int) (w64 (b+1)) []))),(.cells (p.flatMap (qp encI).c)::(kD k []))),Nat.lt_succ_self _,(Sub.refl _),_,_,_,rfl,g7⟩
   refine Goes.exit ?_
   obtain rfl:=si g7
   exact⟨rfl,_,rfl,(Sub.norm [] [some 0] (by rw[hB];rfl) rfl (.drop (.keep (.gslice rfl) .nil)) (.ks .nil))⟩
 rintro x s' ⟨rfl,u,rfl,hsub⟩
 refine Goes.sub hsub ?_
 refine sh fol [(2,.gslice 0 u.length 1)] ?_
 refine Goes.ret ?_
 obtain rfl:=si h
 exact(gh2 [.gslice 0 u.length 1] (qdn.refl _ _))
def qaD (N:Nat) (p:List Int):Option ((List (List Int))×Int):=
 (jd N p).bind fun a=>
 if(!decide (a=0))=true then
 some ([],a)
 else
 (jg N p).bind fun b=>
 some (b,0)
theorem qek (N:Nat) (p:List Int) {res:(List (List Int))×Int} (h:qaD N p=some res):qc ZT (.fn 6) [vl encI p] [] (.tuple [vl (qp encI) res.1,.i res.2]) []:=by
 unfold qaD at h
 refine Ub Tryz.func6 rfl rfl (m:=12) rfl (rs:=[.tmp 2,.tmp 3]) rfl (l:=(kO p [])) rfl ?_
 refine sh fol (kO p []) ?_
 refine sq ?_
 obtain⟨a,b,h⟩:=bnd h
 refine sq (gr fol [1] (kO p [(4,.i a)]) (ac (cv (xx N p b)) az) ?_)
 refine sh fol (kO p ((4,.i a)::(kA1 (!decide (a=0))))) ?_
 refine ihB h (fun f h=>?_) (fun f h=>?_)
 ·refine sh fol [(2,.nilslice),(3,.i a)] ?_
  refine Goes.ret ?_
  obtain rfl:=si h
  exact(gw2 [.nilslice,.i a] (FzW.tuple (qg.cons (FzW.nilv (E:=(qp encI))) (qg.cons (Ua tI) qg.nil))))
 refine Goes.skip ?_
 obtain⟨d,e,h⟩:=bnd h
 refine sq (gq fol [1] [(2,.gslice 0 d.length 1),(3,.i 0)] [.cells (d.flatMap (qp encI).c)] (ac (hs (.callH 40 [vl encI p] [] [] (.gslice 0 d.length 1) [.cells (d.flatMap (qp encI).c)]) (qbf [] [some 0] (xy N p e) .nil rfl rfl (.new rfl rfl (.same fa) rfl .nil) (rc (.same (qd encI _)) rn) (.gslice rfl) rfl)) az) ?_)
 refine Goes.ret ?_
 obtain rfl:=si h
 exact(gw2 [.gslice 0 d.length 1,.i 0] (FzW.tuple (qg.cons (FzW.fz (Fz.gs (E:=(qp encI)) rfl rfl (nl rfl))) (qg.cons (Ua tI) qg.nil))))
def qdF (n:Int):Option qx:=
 some (⟨n,[]⟩:qx)
theorem qeA (n:Int) {res:qx} (h:qdF n=some res):qc ZT (.fn 55) [.i n] [] (.agg (nz1 res)) []:=by
 unfold qdF at h
 refine Ub Tryz.func55 rfl rfl (m:=5) rfl (rs:=[.cell 2 77]) rfl (l:=[(0,.i n)]) rfl ?_
 refine sg fol ((0,.i n)::(kAA [])) [bZ] ?_
 refine sg fol (kAA []) (kAh n) ?_
 refine Goes.ret ?_
 obtain rfl:=si h
 exact(gw2 [.agg [.i n,.nilslice]] (FzW.agg (qg.cons (Ua tI) (qg.cons (FzW.nv0 (E:=(qa .u64))) qg.nil))))
def qa5 (n:qx):Option qQ:=
 (qdF 1).bind fun a=>
 some (⟨n,a⟩:qQ)
theorem qdZ (n:qx) {res:qQ} (h:qa5 n=some res):qc ZT (.fn 42) [.agg (nz1 n)] [] (.agg (nq1 res)) []:=by
 unfold qa5 at h
 refine Ub Tryz.func42 rfl rfl (m:=6) rfl (rs:=[.cell 2 79]) rfl (l:=[(0,.agg (nz1 n))]) rfl ?_
 refine sg fol (kAM kAj) (.cells (nz1 n)::(kK [])) ?_
 obtain⟨a,b,h⟩:=bnd h
 refine sq (gq fol [1,3] kAj [.cells (nz1 n),.cells (ni2 n.s n.w a.s a.w)] (ac (cv (qeA 1 b)) (ac (hs (.run [1] (qw ZT 79 (.ptr 1 0) (.agg (ni2 n.s n.w a.s a.w))) (.cells (nz1 n)::(kK [])) .undef [.cells (nz1 n),.cells (ni2 n.s n.w a.s a.w)] true) (zT (n:=4) (by kernel_rfl) rfl rfl rfl rfl (cac rfl (cac nvc (cac rfl (cac nvc can)))) rfl)) az)) ?_)
 refine Goes.ret ?_
 obtain rfl:=si h
 exact(gw2 [.agg (ni2 n.s n.w a.s a.w)] (FzW.agg (qg.cons (Ua tI) (qg.cons (Ua (qG (qa .u64) _ (nl rfl))) (qg.cons (Ua tI) (qg.cons (Ua (qG (qa .u64) _ (nl rfl))) qg.nil))))))
def qgM (n:Int):Option qQ:=
 (qdF n).bind fun a=>
 (qa5 a).bind fun b=>
 some b
theorem qh9 (n:Int) {res:qQ} (h:qgM n=some res):qc ZT (.fn 41) [.i n] [] (.agg (nq1 res)) []:=by
 unfold qgM at h
 refine Ub Tryz.func41 rfl rfl (m:=6) rfl (rs:=[.cell 2 79]) rfl (l:=[(0,.i n)]) rfl ?_
 refine sg fol ((0,.i n)::(kAA [])) (kK []) ?_
 obtain⟨d,a,h⟩:=bnd h
 obtain⟨c,b,h⟩:=bnd h
 refine sq (gq fol [1,2,3] (kAA []) [.cells (nq1 c)] (ac (cv (qeA n a)) (ac (cv (qdZ d b)) (ac (hs (.run [0] (qw ZT 79 (.ptr 0 0) (.agg (nq1 c))) (kK []) .undef [.cells (nq1 c)] true) (zT (n:=4) (by kernel_rfl) rfl rfl rfl rfl (cac rfl (cac nvc (cac rfl (cac nvc can)))) rfl)) az))) ?_)
 refine Goes.ret ?_
 obtain rfl:=si h
 exact(gw2 [.agg (nq1 c)] (FzW.agg (qg.cons (Ua tI) (qg.cons (Ua (qG (qa .u64) _ (nl rfl))) (qg.cons (Ua tI) (qg.cons (Ua (qG (qa .u64) _ (nl rfl))) qg.nil))))))
def zt (a:qx):Option Int:=
 some (if(if a.s<1 then a.s else 1)>(-1)then(if a.s<1 then a.s else 1)else(-1))
theorem xB (a:qx) {res:Int} (h:zt a=some res):qc ZT (.fn 106) [.agg (nz1 a)] [] (.i res) []:=by
 unfold zt at h
 refine Ub Tryz.func106 rfl rfl (m:=7) rfl (rs:=[.tmp 2]) rfl (l:=[(0,.agg (nz1 a))]) rfl ?_
 refine sg fol (kAM []) [.cells (nz1 a)] ?_
 refine sh fol [(2,.i (if(if a.s<1 then a.s else 1)>(-1)then(if a.s<1 then a.s else 1)else(-1)))] ?_
 refine Goes.ret ?_
 obtain rfl:=si h
 exact(gw2 [.i (if(if a.s<1 then a.s else 1)>(-1)then(if a.s<1 then a.s else 1)else(-1))] (Ua tI))
def qbg (n:Int):Option Int:=
 if n<0 then
 some (IntKind.wrap .u64 (w64 (0-n)))
 else
 some (IntKind.wrap .u64 n)
theorem qcz (n:Int) {res:Int} (h:qbg n=some res):qc ZT (.fn 146) [.i n] [] (.int .u64 res) []:=by
 unfold qbg at h
 refine Ub Tryz.func146 rfl rfl (m:=10) rfl (rs:=[.tmp 2]) rfl (l:=[(0,.i n)]) rfl ?_
 refine sh fol [(0,.i n)] ?_
 refine sq ?_
 refine sh fol ((0,.i n)::(kAq (decide (n<0)))) ?_
 refine ihD h (fun a h=>?_) (fun a h=>?_)
 ·refine sh fol [(2,.int .u64 (IntKind.wrap .u64 (w64 (0-n))))] ?_
  refine Goes.ret ?_
  obtain rfl:=si h
  exact(gw2 [.int .u64 (IntKind.wrap .u64 (w64 (0-n)))] (Ua tI))
 refine Goes.skip ?_
 refine sh fol [(2,.int .u64 (IntKind.wrap .u64 n))] ?_
 refine Goes.ret ?_
 obtain rfl:=si h
 exact(gw2 [.int .u64 (IntKind.wrap .u64 n)] (Ua tI))
def qC (a:qx):Option (Bool×(List Int)):=
 if(!a.w.isEmpty)=true then
 some (decide (a.s<0),a.w)
 else
 if a.s=0 then
 some (false,[])
 else
 (qbg a.s).bind fun b=>
 some (decide (a.s<0),[b])
theorem zq (a:qx) {res:Bool×(List Int)} (h:qC a=some res):qc ZT (.fn 120) [.agg (nz1 a)] [] (.tuple [.bool res.1,vl (qa .u64) res.2]) []:=by
 unfold qC at h
 refine Ub Tryz.func120 rfl rfl (m:=24) rfl (rs:=[.tmp 2,.tmp 3]) rfl (l:=[(0,.agg (nz1 a))]) rfl ?_
 refine sg fol (kAM []) [.cells (nz1 a)] ?_
 refine sq (Goes.block ?_)
 refine sq (gr fol [2] (kAM (kAq (!a.w.isEmpty))) (ac (hs (.done (.opt (qO ZT .neq 75 (.tmp 6) (.const (.slice none 0 0)) (nvl (qa .u64) a.w) .nilslice)) (.bool (!a.w.isEmpty))) (ne_nv qak)) az) ?_)
 refine ihB h (fun c h=>?_) (fun c h=>?_)
 ·refine sh fol [(2,.bool (decide (a.s<0))),(3,nvl (qa .u64) a.w)] ?_
  refine Goes.ret ?_
  obtain rfl:=si h
  exact(gw2 [.bool (decide (a.s<0)),nvl (qa .u64) a.w] (FzW.tuple (qg.cons (Ua tB) (qg.cons (FzW.nvL (E:=(qa .u64)) (nl rfl)) qg.nil))))
 refine sh fol (kAM (kA3 (decide (a.s=0)))) ?_
 refine ihD h (fun d h=>?_) (fun d h=>?_)
 ·refine sh fol [(2,.bool false),(3,.nilslice)] ?_
  refine Goes.ret ?_
  obtain rfl:=si h
  exact(gw2 [.bool false,.nilslice] (FzW.tuple (qg.cons (Ua tB) (qg.cons (FzW.nilv (E:=(qa .u64))) qg.nil))))
 refine Goes.skip ?_
 obtain⟨e,b,h⟩:=bnd h
 refine sq (gq fol [5] [(2,.bool (decide (a.s<0))),(3,.slice 1 0 1 1 1)] [.cells (nz1 a),.cells [.int .u64 e]] (ac (cv (qcz a.s b)) az) ?_)
 refine Goes.ret ?_
 obtain rfl:=si h
 exact(gw2 [.bool (decide (a.s<0)),.slice 1 0 1 1 1] (FzW.tuple (qg.cons (Ua tB) (qg.cons (FzW.fz (Fz.lit rfl rfl (Um (AllST.cons tI AllST.nil)))) qg.nil))))
def jy (neg:Bool) (w:List Int):Option qx:=
 if(w.length:Int)=0 then
 some (⟨0,[]⟩:qx)
 else
 (if(w.length:Int)=1 then
 (idx w 0).bind fun d=>
 if d<=9223372036854775807 then
 some neg
 else
 some false
 else
 some false:Option Bool).bind fun e=>
 if e=true then
 (idx w 0).bind fun f=>
 some (⟨w64 (0-(w64 f)),[]⟩:qx)
 else
 (if(w.length:Int)=1 then
 (idx w 0).bind fun a=>
 some (decide (a<=9223372036854775807))
 else
 some false:Option Bool).bind fun b=>
 if b=true then
 (idx w 0).bind fun c=>
 some (⟨w64 c,[]⟩:qx)
 else
 if neg=true then
 some (⟨(-1),w⟩:qx)
 else
 some (⟨1,w⟩:qx)
theorem yZ (neg:Bool) (w:List Int) {res:qx} (h:jy neg w=some res):qc ZT (.fn 121) [.bool neg,vl (qa .u64) w] [] (.agg (nz1 res)) []:=by
 unfold jy at h
 refine Ub Tryz.func121 rfl rfl (m:=50) rfl (rs:=[.cell 4 77]) rfl (l:=[(0,.bool neg),(1,vl (qa .u64) w)]) rfl ?_
 refine sg fol ((0,.bool neg)::(1,vl (qa .u64) w)::(kAZ [])) [bZ] ?_
 refine sq (Goes.block ?_)
 refine sh fol ((0,.bool neg)::(1,vl (qa .u64) w)::(kAZ [(5,.bool (decide ((w.length:Int)=0)))])) ?_
 refine ihD h (fun t h=>?_) (fun t h=>?_)
 ·refine sh fol (kAZ []) ?_
  refine Goes.ret ?_
  obtain rfl:=si h
  exact(gw2 [.agg [.i 0,.nilslice]] (FzW.agg (qg.cons (Ua tI) (qg.cons (FzW.nv0 (E:=(qa .u64))) qg.nil))))
 refine sq ?_
 obtain⟨u,a,h⟩:=bnd h
 refine Goes.cut (s':=(ofG 50 ((0,.bool neg)::(1,vl (qa .u64) w)::(kAZ [(10,.bool u)])),[bZ])) ?_ ?_
 ·rcases wyD a with⟨j,a⟩|⟨j,a⟩
  ·obtain⟨x,c,a⟩:=bnd a
   rcases wyD a with⟨k,a⟩|⟨k,a⟩
   ·obtain rfl:=si a
    exact tr fol [3,5,6,9] ((0,.bool neg)::(1,vl (qa .u64) w)::(kAZ [(10,.bool neg)])) (ac (gw j) (ac (iv zy (qa .u64) c) (ac (lv 0 zG (qa .u64) c rfl) (ac (gw k) az))))
   obtain rfl:=si a
   exact tr fol [3,5,6,9] ((0,.bool neg)::(1,vl (qa .u64) w)::(kAZ [(10,.bool false)])) (ac (gw j) (ac (iv zy (qa .u64) c) (ac (lv 0 zG (qa .u64) c rfl) (ac (gw k) az))))
  obtain rfl:=si a
  exact tr fol [3] ((0,.bool neg)::(1,vl (qa .u64) w)::(kAZ [(10,.bool false)])) (ac (gw j) az)
 refine ihB h (fun v h=>?_) (fun v h=>?_)
 ·obtain⟨s,f,h⟩:=bnd h
  refine sq (gq fol [1,2] (kAZ []) (kAh (w64 (0-(w64 s)))) (ac (iv zy (qa .u64) f) (ac (lv 0 zG (qa .u64) f rfl) az)) ?_)
  refine Goes.ret ?_
  obtain rfl:=si h
  exact(gw2 [.agg [.i (w64 (0-(w64 s))),.nilslice]] (FzW.agg (qg.cons (Ua tI) (qg.cons (FzW.nv0 (E:=(qa .u64))) qg.nil))))
 refine sq ?_
 obtain⟨n,b,h⟩:=bnd h
 refine Goes.cut (s':=(ofG 50 ((0,.bool neg)::(1,vl (qa .u64) w)::(kAZ [(29,.bool n)])),[bZ])) ?_ ?_
 ·rcases wyD b with⟨o,b⟩|⟨o,b⟩
  ·obtain⟨p,d,b⟩:=bnd b
   obtain rfl:=si b
   exact tr fol [3,5,6] ((0,.bool neg)::(1,vl (qa .u64) w)::(kAZ [(29,.bool (decide (p<=9223372036854775807)))])) (ac (gw o) (ac (iv zy (qa .u64) d) (ac (lv 0 zG (qa .u64) d rfl) az)))
  obtain rfl:=si b
  exact tr fol [3] ((0,.bool neg)::(1,vl (qa .u64) w)::(kAZ [(29,.bool false)])) (ac (gw o) az)
 refine ihB h (fun q h=>?_) (fun q h=>?_)
 ·obtain⟨g,e,h⟩:=bnd h
  refine sq (gq fol [1,2] (kAZ []) (kAh (w64 g)) (ac (iv zy (qa .u64) e) (ac (lv 0 zG (qa .u64) e rfl) az)) ?_)
  refine Goes.ret ?_
  obtain rfl:=si h
  exact(gw2 [.agg [.i (w64 g),.nilslice]] (FzW.agg (qg.cons (Ua tI) (qg.cons (FzW.nv0 (E:=(qa .u64))) qg.nil))))
 refine sh fol ((1,vl (qa .u64) w)::(kAZ [(44,.bool neg)])) ?_
 refine ihB h (fun r h=>?_) (fun r h=>?_)
 ·refine sg fol (kAZ []) [.cells [.i (-1),vl (qa .u64) w]] ?_
  refine Goes.ret ?_
  obtain rfl:=si h
  exact(gw2 [.agg [.i (-1),vl (qa .u64) w]] (FzW.agg (qg.cons (Ua tI) (qg.cons (FzW.Lnv (E:=(qa .u64)) (by first|omega|(simp only[decide_eq_false_iff_not,decide_eq_true_eq]at*;omega)) (nl rfl)) qg.nil))))
 refine Goes.skip ?_
 refine sg fol (kAZ []) [.cells [.i 1,vl (qa .u64) w]] ?_
 refine Goes.ret ?_
 obtain rfl:=si h
 exact(gw2 [.agg [.i 1,vl (qa .u64) w]] (FzW.agg (qg.cons (Ua tI) (qg.cons (FzW.Lnv (E:=(qa .u64)) (by first|omega|(simp only[decide_eq_false_iff_not,decide_eq_true_eq]at*;omega)) (nl rfl)) qg.nil))))
def z8 (a:qx):Option qx:=
 (if a.w.isEmpty=true then
 some (!decide (a.s=(-9223372036854775808)))
 else
 some false:Option Bool).bind fun c=>
 if c=true then
 some (⟨w64 (0-a.s),[]⟩:qx)
 else
 (qC a).bind fun b=>
 (jy (!b.1) b.2).bind fun d=>
 some d
theorem vW (a:qx) {res:qx} (h:z8 a=some res):qc ZT (.fn 107) [.agg (nz1 a)] [] (.agg (nz1 res)) []:=by
 unfold z8 at h
 refine Ub Tryz.func107 rfl rfl (m:=26) rfl (rs:=[.cell 2 77]) rfl (l:=[(0,.agg (nz1 a))]) rfl ?_
 refine sg fol (kAM kAj) [.cells (nz1 a),bZ] ?_
 refine sq ?_
 refine sq ?_
 obtain⟨j,b,h⟩:=bnd h
 refine Goes.cut (s':=(ofG 26 (kAM [(2,.ptr 1 0),(12,.bool j)]),[.cells (nz1 a),bZ])) ?_ ?_
 ·rcases wyB b with⟨g,b⟩|⟨g,b⟩
  ·obtain rfl:=si b
   exact tr fol [2,3] (kAM [(2,.ptr 1 0),(12,.bool (!decide (a.s=(-9223372036854775808))))]) (ac (hs (.done (.opt (qO ZT .eql 75 (.tmp 6) (.const (.slice none 0 0)) (nvl (qa .u64) a.w) .nilslice)) (.bool a.w.isEmpty)) (qat qak)) (ac (gw g) az))
  obtain rfl:=si b
  exact tr fol [2,3] (kAM [(2,.ptr 1 0),(12,.bool false)]) (ac (hs (.done (.opt (qO ZT .eql 75 (.tmp 6) (.const (.slice none 0 0)) (nvl (qa .u64) a.w) .nilslice)) (.bool a.w.isEmpty)) (qat qak)) (ac (gw g) az))
 refine ihB h (fun k h=>?_) (fun k h=>?_)
 ·refine sg fol kAj (.cells (nz1 a)::(kAh (w64 (0-a.s)))) ?_
  refine Goes.ret ?_
  obtain rfl:=si h
  exact(gw2 [.agg [.i (w64 (0-a.s)),.nilslice]] (FzW.agg (qg.cons (Ua tI) (qg.cons (FzW.nv0 (E:=(qa .u64))) qg.nil))))
 refine Goes.skip ?_
 obtain⟨e,c,h⟩:=bnd h
 refine sq (gr fol [1] ((2,.ptr 1 0)::(kA0 e.1 [(4,vl (qa .u64) e.2)])) (ac (cv (zq a c)) az) ?_)
 obtain⟨f,d,h⟩:=bnd h
 refine sq (gq fol [3,4] kAj [.cells (nz1 a),.cells (nz1 f)] (ac (cv (yZ (!e.1) e.2 d)) (ac (hs (.run [1] (qw ZT 77 (.ptr 1 0) (.agg (nz1 f))) [.cells (nz1 a),bZ] .undef [.cells (nz1 a),.cells (nz1 f)] true) (zT (n:=2) (by kernel_rfl) rfl rfl rfl rfl (cac rfl (cac nvc can)) rfl)) az)) ?_)
 refine Goes.ret ?_
 obtain rfl:=si h
 exact(gw2 [.agg (nz1 f)] (FzW.agg (qg.cons (Ua tI) (qg.cons (Ua (qG (qa .u64) _ (nl rfl))) qg.nil))))
def y8 (w:List Int):Nat->Int->Option Int
 |0,_=>none
 |K+1,a=>
  (if a>0 then
  (idx w (w64 (a-1))).bind fun b=>
  some (decide (b=0))
  else
  some false:Option Bool).bind fun c=>
  if c=true then
  y8 w K (w64 (a-1))
  else
  some a
def yl (N:Nat) (w:List Int):Option (List Int):=
 (y8 w N (w.length:Int)).bind fun a=>
 (cut w 0 a).bind fun b=>
 some b
theorem yn (N:Nat) (w:List Int) {res:List Int} (h:yl N w=some res):qc ZT (.fn 167) [vl (qa .u64) w] [] (vl (qa .u64) res) []:=by
 unfold yl at h
 refine Ub Tryz.func167 rfl rfl (m:=21) rfl (rs:=[.tmp 2]) rfl (l:=[(0,vl (qa .u64) w)]) rfl ?_
 refine sh fol [(0,vl (qa .u64) w)] ?_
 refine sh fol [(0,vl (qa .u64) w),(3,.i (w.length:Int))] ?_
 refine sq (Goes.block ?_)
 obtain⟨j,g3,h⟩:=bnd h
 refine Goes.imp (Q:=fun x s'=>(x= .exit 0/\ ∃d,d=j/\Sub s' (ofG 21 [(0,vl (qa .u64) w),(3,.i d)],[]))) ?_ ?_
 ·refine Uc (fun M s=> ∃(b:Int),s=(ofG 21 [(0,vl (qa .u64) w),(3,.i b)],[])/\y8 w M b=some j) ?_ (m:=N) ⟨_,rfl,g3⟩
  rintro M s ⟨b,rfl,g3⟩
  cases M with
  |zero=>simp only[y8]at g3;cases g3
  |succ M=>
   rw[y8]at g3
   refine sq ?_
   refine sq ?_
   obtain⟨k,a,g3⟩:=bnd g3
   refine Goes.cut (s':=(ofG 21 [(0,vl (qa .u64) w),(3,.i b),(15,.bool k)],[])) ?_ ?_
   ·rcases wyD a with⟨f,a⟩|⟨f,a⟩
    ·obtain⟨n,c,a⟩:=bnd a
     obtain rfl:=si a
     exact tr fol [2,6,7] [(0,vl (qa .u64) w),(3,.i b),(15,.bool (decide (n=0)))] (ac (gw f) (ac (iv zy (qa .u64) c) (ac (lv 0 zG (qa .u64) c rfl) az)))
    obtain rfl:=si a
    exact tr fol [2] [(0,vl (qa .u64) w),(3,.i b),(15,.bool false)] (ac (gw f) az)
   refine ihB g3 (fun o g3=>?_) (fun o g3=>?_)
   ·refine Goes.skip ?_
    refine Goes.block ?_
    refine gh fol [(0,vl (qa .u64) w),(3,.i (w64 (b-1)))] ?_
    exact⟨M,(ofG 21 [(0,vl (qa .u64) w),(3,.i (w64 (b-1)))],[]),Nat.lt_succ_self _,(Sub.refl _),_,rfl,g3⟩
   refine Goes.exit ?_
   obtain rfl:=si g3
   exact⟨rfl,_,rfl,(Sub.keep [0,3] rfl rfl)⟩
 rintro x s' ⟨rfl,d,rfl,hsub⟩
 refine Goes.sub hsub ?_
 obtain⟨g,e,h⟩:=bnd h
 refine sq (gr fol [2] [(2,vl (qa .u64) g)] (ac (hs (.done (.opt (ja ZT 75 (vl (qa .u64) w) none (some (.i d)) none)) (vl (qa .u64) g)) (qjy zy (E:=(qa .u64)) rfl none (some d) e)) az) ?_)
 refine Goes.ret ?_
 obtain rfl:=si h
 exact(gw2 [vl (qa .u64) g] (Ua (qy (qa .u64) _ (nl rfl))))
def zL (c:List Int) (d:List Int):Nat->(List Int)->Int->Int->Option ((List Int)×Int)
 |0,_,_,_=>none
 |K+1,e,a,j=>
  if a<(c.length:Int)then
  ((if a<(d.length:Int)then
  (idx d a).bind fun f=>
  some f
  else
  some 0:Option Int)).bind fun g=>
  (idx c a).bind fun h=>
  (yS h g j).bind fun b=>
  (idx e a).bind fun k=>
  (put e a b.1).bind fun i=>
  zL c d K i (w64 (a+1)) b.2
  else
  some (e,j)
def xn (N:Nat) (b:List Int) (y:List Int):Option (List Int):=
 ((if(b.length:Int)<(y.length:Int)then
 some (y,b)
 else
 some (b,y):Option ((List Int)×(List Int)))).bind fun(a,g)=>
 (mk 8 (w64 ((a.length:Int)+1)) 0).bind fun h=>
 (zL a g N h 0 0).bind fun(f,c)=>
 (idx f (a.length:Int)).bind fun i=>
 (put f (a.length:Int) c).bind fun d=>
 (yl N d).bind fun e=>
 some e
theorem qeU (N:Nat) (B:List Int) (y:List Int) {res:List Int} (h:xn N B y=some res):qc ZT (.fn 122) [vl (qa .u64) B,vl (qa .u64) y] [] (vl (qa .u64) res) []:=by
 unfold xn at h
 refine Ub Tryz.func122 rfl rfl (m:=54) rfl (rs:=[.tmp 4]) rfl (l:=[(0,vl (qa .u64) B),(1,vl (qa .u64) y)]) rfl ?_
 refine sh fol [(0,vl (qa .u64) B),(1,vl (qa .u64) y)] ?_
 refine sq ?_
 refine sh fol ((0,vl (qa .u64) B)::(1,vl (qa .u64) y)::(kA3 (decide ((B.length:Int)<(y.length:Int))))) ?_
 obtain⟨P,g3,h⟩:=bnd h
 refine Goes.imp (Q:=fun x s'=>(x= .normal/\ ∃a e,(a,e)=P/\Sub s' (ofG 54 [(0,vl (qa .u64) a),(1,vl (qa .u64) e)],[]))) ?_ ?_
 ·refine ihD g3 (fun U g3=>?_) (fun U g3=>?_)
  ·refine gh fol [(0,vl (qa .u64) y),(1,vl (qa .u64) B)] ?_
   obtain rfl:=si g3
   exact⟨rfl,_,_,rfl,(Sub.refl _)⟩
  refine Goes.skip ?_
  obtain rfl:=si g3
  exact⟨rfl,_,_,rfl,(Sub.keep [0,1] rfl rfl)⟩
 rintro x s' ⟨rfl,a,e,rfl,hsub⟩
 try dsimp only at h
 refine Goes.sub hsub ?_
 obtain⟨C,G,h⟩:=bnd h
 refine sq (gq fol [3] ((0,vl (qa .u64) a)::(1,vl (qa .u64) e)::(kC C [])) [.cells (C.flatMap (qa .u64).c)] (ac (hs (.run [] (kw ZT 75 (.i (w64 ((a.length:Int)+1))) (.i (w64 ((a.length:Int)+1)))) [] (.slice 0 0 C.length C.length 1) [.cells (C.flatMap (qa .u64).c)] false) (qaA zy (E:=(qa .u64)) (z:=0) rfl (by kernel_rfl) G rfl)) az) ?_)
 refine sh fol ((0,vl (qa .u64) a)::(1,vl (qa .u64) e)::(kC C [(6,.int .u64 0)])) ?_
 refine sq ?_
 refine sh fol ((0,vl (qa .u64) a)::(1,vl (qa .u64) e)::(kC C [(6,.int .u64 0),(21,.i (a.length:Int)),(22,.i 0)])) ?_
 refine Goes.block ?_
 obtain⟨H,g11,h⟩:=bnd h
 refine Goes.imp (Q:=fun x s'=>(x= .exit 0/\ ∃v k,(v,k)=H/\Sub s' (ofG 54 ((0,vl (qa .u64) a)::(kC v (kAC k []))),[.cells (v.flatMap (qa .u64).c)]))) ?_ ?_
 ·refine Uc (fun M s=> ∃(f:List Int) (d:Int) (w:Int),s=(ofG 54 ((0,vl (qa .u64) a)::(1,vl (qa .u64) e)::(kC f (kAC w (kX (a.length:Int) d [])))),[.cells (f.flatMap (qa .u64).c)])/\zL a e M f d w=some H) ?_ (m:=N) ⟨_,_,_,rfl,g11⟩
  rintro M s ⟨f,d,w,rfl,g11⟩
  cases M with
  |zero=>simp only[zL]at g11;cases g11
  |succ M=>
   rw[zL]at g11
   refine sh fol ((0,vl (qa .u64) a)::(1,vl (qa .u64) e)::(kC f (kAC w (kX (a.length:Int) d [(23,.bool (decide (d<(a.length:Int))))])))) ?_
   refine sq ?_
   refine ihD g11 (fun I g11=>?_) (fun I g11=>?_)
   ·refine Goes.skip ?_
    refine sq (Goes.block ?_)
    refine sh fol ((0,vl (qa .u64) a)::(1,vl (qa .u64) e)::(kC f (kAC w ((7,.i d)::(kX (a.length:Int) d []))))) ?_
    refine sh fol ((0,vl (qa .u64) a)::(1,vl (qa .u64) e)::(kC f (kAC w ((7,.i d)::(kBA (kX (a.length:Int) d [])))))) ?_
    refine sq ?_
    refine sh fol ((0,vl (qa .u64) a)::(1,vl (qa .u64) e)::(kC f (kAC w ((7,.i d)::(kBA (kX (a.length:Int) d [(28,.bool (decide (d<(e.length:Int))))])))))) ?_
    obtain⟨J,g14,g11⟩:=bnd g11
    refine Goes.imp (Q:=fun x s'=>(x= .normal/\ ∃A,A=J/\Sub s' (ofG 54 ((0,vl (qa .u64) a)::(1,vl (qa .u64) e)::(kC f (kAC w ((7,.i d)::(8,.int .u64 A)::(kX (a.length:Int) d []))))),[.cells (f.flatMap (qa .u64).c)]))) ?_ ?_
    ·refine ihD g14 (fun K g14=>?_) (fun K g14=>?_)
     ·obtain⟨L,n,g14⟩:=bnd g14
      refine gr fol [2,3] ((0,vl (qa .u64) a)::(1,vl (qa .u64) e)::(kC f (kAC w ((7,.i d)::(8,.int .u64 L)::(kX (a.length:Int) d []))))) (ac (iv zy (qa .u64) n) (ac (lv 0 zG (qa .u64) n rfl) az)) ?_
      obtain rfl:=si g14
      exact⟨rfl,_,rfl,(Sub.refl _)⟩
     refine Goes.skip ?_
     obtain rfl:=si g14
     exact⟨rfl,_,rfl,(Sub.keep [0,1,5,6,7,8,21,22] rfl rfl)⟩
    rintro x s' ⟨rfl,A,rfl,hsub⟩
    refine Goes.sub hsub ?_
    obtain⟨O,o,g11⟩:=bnd g11
    obtain⟨j,D,g11⟩:=bnd g11
    obtain⟨V,p,g11⟩:=bnd g11
    obtain⟨g,q,g11⟩:=bnd g11
    refine gq fol [4,5,8,12,13] ((0,vl (qa .u64) a)::(1,vl (qa .u64) e)::(kC f (kAC j.2 (kX (a.length:Int) d [])))) [.cells (g.flatMap (qa .u64).c)] (ac (iv zy (qa .u64) o) (ac (lv 0 zG (qa .u64) o rfl) (ac (cv (qbe O A w D)) (ac (hs (.done (.opt (qf ZT 75 (.slice 0 0 f.length f.length 1) (.i d))) (.ptr 0 ((d:Int).toNat*1+0))) (vO zy p)) (ac (hs (.run [0] (qw ZT 182 (.ptr 0 ((d:Int).toNat*1+0)) (.int .u64 j.1)) [.cells (f.flatMap (qa .u64).c)] .undef [.cells (g.flatMap (qa .u64).c)] true) (yh (E:=(qa .u64)) (l:=f) (y:=j.1) rfl (show _=some 1 by kernel_rfl) rfl p rfl rfl rfl rfl rfl q rfl)) az))))) ?_
    refine Goes.sub (show Sub (ofG 54 ((0,vl (qa .u64) a)::(1,vl (qa .u64) e)::(kC f (kAC j.2 (kX (a.length:Int) d [])))),[.cells (g.flatMap (qa .u64).c)]) (ofG 54 ((0,vl (qa .u64) a)::(1,vl (qa .u64) e)::(kC g (kAC j.2 (kX (a.length:Int) d [])))),[.cells (g.flatMap (qa .u64).c)])from(Sub.norm [] [some 0] rfl rfl (.keep (.same (qd (qa .u64) _)) (.keep (.same (qd (qa .u64) _)) (.keep (.sliceE rfl (zS q)) (.keep (.same nI) (.keep (.same nI) (.keep (.same nI) .nil)))))) (.ks .nil))) ?_
    refine gh fol ((0,vl (qa .u64) a)::(1,vl (qa .u64) e)::(kC g (kAC j.2 (kX (a.length:Int) (w64 (d+1)) [])))) ?_
    exact⟨M,(ofG 54 ((0,vl (qa .u64) a)::(1,vl (qa .u64) e)::(kC g (kAC j.2 (kX (a.length:Int) (w64 (d+1)) [])))),[.cells (g.flatMap (qa .u64).c)]),Nat.lt_succ_self _,(Sub.refl _),_,_,_,rfl,g11⟩
   refine Goes.exit ?_
   obtain rfl:=si g11
   exact⟨rfl,_,_,rfl,(Sub.keep [0,5,6] rfl rfl)⟩
 rintro x s' ⟨rfl,v,k,rfl,hsub⟩
 try dsimp only at h
 refine Goes.sub hsub ?_
 obtain⟨X,r,h⟩:=bnd h
 obtain⟨b,t,h⟩:=bnd h
 refine sq (gq fol [4,5] (kC v []) [.cells (b.flatMap (qa .u64).c)] (ac (hs (.done (.opt (qf ZT 75 (.slice 0 0 v.length v.length 1) (.i (a.length:Int)))) (.ptr 0 (((a.length:Int):Int).toNat*1+0))) (vO zy r)) (ac (hs (.run [0] (qw ZT 182 (.ptr 0 (((a.length:Int):Int).toNat*1+0)) (.int .u64 k)) [.cells (v.flatMap (qa .u64).c)] .undef [.cells (b.flatMap (qa .u64).c)] true) (yh (E:=(qa .u64)) (l:=v) (y:=k) rfl (show _=some 1 by kernel_rfl) rfl r rfl rfl rfl rfl rfl t rfl)) az)) ?_)
 refine Goes.sub (show Sub (ofG 54 (kC v []),[.cells (b.flatMap (qa .u64).c)]) (ofG 54 (kC b []),[.cells (b.flatMap (qa .u64).c)])from(Sub.norm [] [some 0] rfl rfl (.keep (.sliceE rfl (zS t)) .nil) (.ks .nil))) ?_
 obtain⟨u,F,h⟩:=bnd h
 refine sq (gq fol [1] [(4,vl (qa .u64) u)] [.frozen (b.flatMap (qa .u64).c)] (ac (hs (.callF 167 [.slice 0 0 b.length b.length 1] [.cells (b.flatMap (qa .u64).c)] [0] [vl (qa .u64) b] (vl (qa .u64) u)) (qam (FzL.cons (Fz.sl (E:=(qa .u64)) rfl rfl (nl rfl)) FzL.nil) (yn N b F) (qy (qa .u64) _ (nl rfl)))) az) ?_)
 refine Goes.sub (show Sub (ofG 54 [(4,vl (qa .u64) u)],[.frozen (b.flatMap (qa .u64).c)]) (ofG 54 [(4,vl (qa .u64) u)],[])from(Sub.norm [] [] rfl rfl (.keep (.same (qd (qa .u64) _)) .nil) .nil)) ?_
 refine Goes.ret ?_
 obtain rfl:=si h
 exact(gw2 [vl (qa .u64) u] (Ua (qy (qa .u64) _ (nl rfl))))
def kr (a:List Int) (b:List Int):Nat->Int->Option (Unit⊕Int)
 |0,_=>none
 |K+1,c=>
  if c>=0 then
  (idx a c).bind fun d=>
  (idx b c).bind fun e=>
  if(!decide (d=e))=true then
  if d<e then
  some (.inr (-1))
  else
  some (.inr 1)
  else
  kr a b K (w64 (c-1))
  else
  some (.inl ())
def jh (N:Nat) (a:List Int) (b:List Int):Option Int:=
 if(!decide ((a.length:Int)=(b.length:Int)))=true then
 if(a.length:Int)<(b.length:Int)then
 some (-1)
 else
 some 1
 else
 (kr a b N (w64 ((a.length:Int)-1))).bind (fun
 |(.inl ())=>
 some 0
 |(.inr c)=>
 some c)
theorem qaT (N:Nat) (a:List Int) (b:List Int) {res:Int} (h:jh N a b=some res):qc ZT (.fn 123) [vl (qa .u64) a,vl (qa .u64) b] [] (.i res) []:=by
 unfold jh at h
 refine Ub Tryz.func123 rfl rfl (m:=41) rfl (rs:=[.tmp 4]) rfl (l:=[(0,vl (qa .u64) a),(1,vl (qa .u64) b)]) rfl ?_
 refine sh fol [(0,vl (qa .u64) a),(1,vl (qa .u64) b)] ?_
 refine sq ?_
 refine sh fol [(0,vl (qa .u64) a),(1,vl (qa .u64) b),(10,.bool (!decide ((a.length:Int)=(b.length:Int))))] ?_
 refine ihB h (fun o h=>?_) (fun o h=>?_)
 ·refine sq ?_
  refine sh fol [(15,.bool (decide ((a.length:Int)<(b.length:Int))))] ?_
  refine ihD h (fun p h=>?_) (fun p h=>?_)
  ·refine sh fol [(4,.i (-1))] ?_
   refine Goes.ret ?_
   obtain rfl:=si h
   exact(gw2 [.i (-1)] (Ua tI))
  refine Goes.skip ?_
  refine sh fol [(4,.i 1)] ?_
  refine Goes.ret ?_
  obtain rfl:=si h
  exact(gw2 [.i 1] (Ua tI))
 refine Goes.skip ?_
 refine sq ?_
 refine sh fol ((0,vl (qa .u64) a)::(1,vl (qa .u64) b)::(kAl (w64 ((a.length:Int)-1)))) ?_
 refine Goes.block ?_
 obtain⟨f,g4,h⟩:=bnd h
 refine Goes.imp (Q:=fun x s'=>(x= .exit 0/\(.inl ())=f/\Sub s' (ofG 41 [],[]))\/(x= .ret/\ ∃j,(.inr j)=f/\vJ ZT [.tmp 4] (.i j) .ret s')) ?_ ?_
 ·refine Uc (fun M s=> ∃(e:Int),s=(ofG 41 ((0,vl (qa .u64) a)::(1,vl (qa .u64) b)::(kAl e)),[])/\kr a b M e=some f) ?_ (m:=N) ⟨_,rfl,g4⟩
  rintro M s ⟨e,rfl,g4⟩
  cases M with
  |zero=>simp only[kr]at g4;cases g4
  |succ M=>
   rw[kr]at g4
   refine sq ?_
   refine sh fol [(0,vl (qa .u64) a),(1,vl (qa .u64) b),(5,.i e),(20,.bool (decide (e>=0)))] ?_
   refine ihD g4 (fun q g4=>?_) (fun q g4=>?_)
   ·refine Goes.skip ?_
    refine sq (Goes.block ?_)
    obtain⟨k,c,g4⟩:=bnd g4
    obtain⟨n,d,g4⟩:=bnd g4
    refine sq (gr fol [2,3,6,7] [(0,vl (qa .u64) a),(1,vl (qa .u64) b),(5,.i e),(31,.bool (!decide (k=n)))] (ac (iv zy (qa .u64) c) (ac (lv 0 zG (qa .u64) c rfl) (ac (iv zy (qa .u64) d) (ac (lv 0 zG (qa .u64) d rfl) az)))) ?_)
    refine ihB g4 (fun r g4=>?_) (fun r g4=>?_)
    ·refine sq ?_
     refine sq (gr fol [2,3,6,7] [(40,.bool (decide (k<n)))] (ac (iv zy (qa .u64) c) (ac (lv 0 zG (qa .u64) c rfl) (ac (iv zy (qa .u64) d) (ac (lv 0 zG (qa .u64) d rfl) az)))) ?_)
     refine ihD g4 (fun g g4=>?_) (fun g g4=>?_)
     ·refine sh fol [(4,.i (-1))] ?_
      refine Goes.ret ?_
      obtain rfl:=si g4
      exact Or.inr (⟨rfl,_,rfl,(gw2 [.i (-1)] (Ua tI))⟩)
     refine Goes.skip ?_
     refine sh fol [(4,.i 1)] ?_
     refine Goes.ret ?_
     obtain rfl:=si g4
     exact Or.inr (⟨rfl,_,rfl,(gw2 [.i 1] (Ua tI))⟩)
    refine Goes.skip ?_
    refine gh fol ((0,vl (qa .u64) a)::(1,vl (qa .u64) b)::(kAl (w64 (e-1)))) ?_
    exact⟨M,(ofG 41 ((0,vl (qa .u64) a)::(1,vl (qa .u64) b)::(kAl (w64 (e-1)))),[]),Nat.lt_succ_self _,(Sub.refl _),_,rfl,g4⟩
   refine Goes.exit ?_
   obtain rfl:=si g4
   exact Or.inl (⟨rfl,rfl,(Sub.keep [] rfl rfl)⟩)
 rintro x s' (⟨rfl,rfl,hsub⟩|⟨rfl,t,rfl,hret⟩)
 ·try dsimp only at h
  refine Goes.sub hsub ?_
  refine sh fol [(4,.i 0)] ?_
  refine Goes.ret ?_
  obtain rfl:=si h
  exact(gw2 [.i 0] (Ua tI))
 try dsimp only at h
 obtain rfl:=si h
 exact hret
def zX (c:List Int) (y:List Int):Nat->(List Int)->Int->Int->Option (List Int)
 |0,_,_,_=>none
 |K+1,d,a,h=>
  if a<(c.length:Int)then
  ((if a<(y.length:Int)then
  (idx y a).bind fun e=>
  some e
  else
  some 0:Option Int)).bind fun i=>
  (idx c a).bind fun f=>
  (qcJ f i h).bind fun b=>
  (idx d a).bind fun j=>
  (put d a b.1).bind fun g=>
  zX c y K g (w64 (a+1)) b.2
  else
  some d
def vH (N:Nat) (b:List Int) (y:List Int):Option (List Int):=
 (mk 8 (b.length:Int) 0).bind fun c=>
 (zX b y N c 0 0).bind fun d=>
 (yl N d).bind fun a=>
 some a
theorem qcl (N:Nat) (a:List Int) (y:List Int) {res:List Int} (h:vH N a y=some res):qc ZT (.fn 124) [vl (qa .u64) a,vl (qa .u64) y] [] (vl (qa .u64) res) []:=by
 unfold vH at h
 refine Ub Tryz.func124 rfl rfl (m:=41) rfl (rs:=[.tmp 4]) rfl (l:=[(0,vl (qa .u64) a),(1,vl (qa .u64) y)]) rfl ?_
 refine sh fol [(0,vl (qa .u64) a),(1,vl (qa .u64) y)] ?_
 obtain⟨r,v,h⟩:=bnd h
 refine sq (gq fol [2] ((0,vl (qa .u64) a)::(1,vl (qa .u64) y)::(kC r [])) [.cells (r.flatMap (qa .u64).c)] (ac (hs (.run [] (kw ZT 75 (.i (a.length:Int)) (.i (a.length:Int))) [] (.slice 0 0 r.length r.length 1) [.cells (r.flatMap (qa .u64).c)] false) (qaA zy (E:=(qa .u64)) (z:=0) rfl (by kernel_rfl) v rfl)) az) ?_)
 refine sh fol ((0,vl (qa .u64) a)::(1,vl (qa .u64) y)::(kC r [(6,.int .u64 0)])) ?_
 refine sq ?_
 refine sh fol ((0,vl (qa .u64) a)::(1,vl (qa .u64) y)::(kC r [(6,.int .u64 0),(13,.i (a.length:Int)),(14,.i 0)])) ?_
 refine Goes.block ?_
 obtain⟨D,g6,h⟩:=bnd h
 refine Goes.imp (Q:=fun x s'=>(x= .exit 0/\ ∃g,g=D/\Sub s' (ofG 41 (kC g []),[.cells (g.flatMap (qa .u64).c)]))) ?_ ?_
 ·refine Uc (fun M s=> ∃(d:List Int) (b:Int) (q:Int),s=(ofG 41 ((0,vl (qa .u64) a)::(1,vl (qa .u64) y)::(kC d (kAC q (kAD (a.length:Int) b)))),[.cells (d.flatMap (qa .u64).c)])/\zX a y M d b q=some D) ?_ (m:=N) ⟨_,_,_,rfl,g6⟩
  rintro M s ⟨d,b,q,rfl,g6⟩
  cases M with
  |zero=>simp only[zX]at g6;cases g6
  |succ M=>
   rw[zX]at g6
   refine sh fol ((0,vl (qa .u64) a)::(1,vl (qa .u64) y)::(kC d (kAC q [(13,.i (a.length:Int)),(14,.i b),(15,.bool (decide (b<(a.length:Int))))]))) ?_
   refine sq ?_
   refine ihD g6 (fun F g6=>?_) (fun F g6=>?_)
   ·refine Goes.skip ?_
    refine sq (Goes.block ?_)
    refine sh fol ((0,vl (qa .u64) a)::(1,vl (qa .u64) y)::(kC d (kAC q ((7,.i b)::(kAD (a.length:Int) b))))) ?_
    refine sh fol ((0,vl (qa .u64) a)::(1,vl (qa .u64) y)::(kC d (kAC q ((7,.i b)::(kBA (kAD (a.length:Int) b)))))) ?_
    refine sq ?_
    refine sh fol ((0,vl (qa .u64) a)::(1,vl (qa .u64) y)::(kC d (kAC q ((7,.i b)::(kBA [(13,.i (a.length:Int)),(14,.i b),(20,.bool (decide (b<(y.length:Int))))]))))) ?_
    obtain⟨G,g9,g6⟩:=bnd g6
    refine Goes.imp (Q:=fun x s'=>(x= .normal/\ ∃w,w=G/\Sub s' (ofG 41 ((0,vl (qa .u64) a)::(1,vl (qa .u64) y)::(kC d (kAC q ((7,.i b)::(8,.int .u64 w)::(kAD (a.length:Int) b))))),[.cells (d.flatMap (qa .u64).c)]))) ?_ ?_
    ·refine ihD g9 (fun A g9=>?_) (fun A g9=>?_)
     ·obtain⟨B,j,g9⟩:=bnd g9
      refine gr fol [2,3] ((0,vl (qa .u64) a)::(1,vl (qa .u64) y)::(kC d (kAC q ((7,.i b)::(8,.int .u64 B)::(kAD (a.length:Int) b))))) (ac (iv zy (qa .u64) j) (ac (lv 0 zG (qa .u64) j rfl) az)) ?_
      obtain rfl:=si g9
      exact⟨rfl,_,rfl,(Sub.refl _)⟩
     refine Goes.skip ?_
     obtain rfl:=si g9
     exact⟨rfl,_,rfl,(Sub.keep [0,1,5,6,7,8,13,14] rfl rfl)⟩
    rintro x s' ⟨rfl,w,rfl,hsub⟩
    refine Goes.sub hsub ?_
    obtain⟨C,k,g6⟩:=bnd g6
    obtain⟨f,t,g6⟩:=bnd g6
    obtain⟨H,n,g6⟩:=bnd g6
    obtain⟨e,o,g6⟩:=bnd g6
    refine gq fol [4,5,8,12,13] ((0,vl (qa .u64) a)::(1,vl (qa .u64) y)::(kC d (kAC f.2 (kAD (a.length:Int) b)))) [.cells (e.flatMap (qa .u64).c)] (ac (iv zy (qa .u64) k) (ac (lv 0 zG (qa .u64) k rfl) (ac (cv (qf8 C w q t)) (ac (hs (.done (.opt (qf ZT 75 (.slice 0 0 d.length d.length 1) (.i b))) (.ptr 0 ((b:Int).toNat*1+0))) (vO zy n)) (ac (hs (.run [0] (qw ZT 182 (.ptr 0 ((b:Int).toNat*1+0)) (.int .u64 f.1)) [.cells (d.flatMap (qa .u64).c)] .undef [.cells (e.flatMap (qa .u64).c)] true) (yh (E:=(qa .u64)) (l:=d) (y:=f.1) rfl (show _=some 1 by kernel_rfl) rfl n rfl rfl rfl rfl rfl o rfl)) az))))) ?_
    refine Goes.sub (show Sub (ofG 41 ((0,vl (qa .u64) a)::(1,vl (qa .u64) y)::(kC d (kAC f.2 (kAD (a.length:Int) b)))),[.cells (e.flatMap (qa .u64).c)]) (ofG 41 ((0,vl (qa .u64) a)::(1,vl (qa .u64) y)::(kC e (kAC f.2 (kAD (a.length:Int) b)))),[.cells (e.flatMap (qa .u64).c)])from(Sub.norm [] [some 0] rfl rfl (.keep (.same (qd (qa .u64) _)) (.keep (.same (qd (qa .u64) _)) (.keep (.sliceE rfl (zS o)) (.keep (.same nI) (.keep (.same nI) (.keep (.same nI) .nil)))))) (.ks .nil))) ?_
    refine gh fol ((0,vl (qa .u64) a)::(1,vl (qa .u64) y)::(kC e (kAC f.2 (kAD (a.length:Int) (w64 (b+1)))))) ?_
    exact⟨M,(ofG 41 ((0,vl (qa .u64) a)::(1,vl (qa .u64) y)::(kC e (kAC f.2 (kAD (a.length:Int) (w64 (b+1)))))),[.cells (e.flatMap (qa .u64).c)]),Nat.lt_succ_self _,(Sub.refl _),_,_,_,rfl,g6⟩
   refine Goes.exit ?_
   obtain rfl:=si g6
   exact⟨rfl,_,rfl,(Sub.keep [5] rfl rfl)⟩
 rintro x s' ⟨rfl,g,rfl,hsub⟩
 refine Goes.sub hsub ?_
 obtain⟨p,u,h⟩:=bnd h
 refine sq (gq fol [1] [(4,vl (qa .u64) p)] [.frozen (g.flatMap (qa .u64).c)] (ac (hs (.callF 167 [.slice 0 0 g.length g.length 1] [.cells (g.flatMap (qa .u64).c)] [0] [vl (qa .u64) g] (vl (qa .u64) p)) (qam (FzL.cons (Fz.sl (E:=(qa .u64)) rfl rfl (nl rfl)) FzL.nil) (yn N g u) (qy (qa .u64) _ (nl rfl)))) az) ?_)
 refine Goes.sub (show Sub (ofG 41 [(4,vl (qa .u64) p)],[.frozen (g.flatMap (qa .u64).c)]) (ofG 41 [(4,vl (qa .u64) p)],[])from(Sub.norm [] [] rfl rfl (.keep (.same (qd (qa .u64) _)) .nil) .nil)) ?_
 refine Goes.ret ?_
 obtain rfl:=si h
 exact(gw2 [vl (qa .u64) p] (Ua (qy (qa .u64) _ (nl rfl))))
def xe (N:Nat) (a:qx) (b:qx):Option qx:=
 (if a.w.isEmpty=true then
 some b.w.isEmpty
 else
 some false:Option Bool).bind fun m=>
 ((if m=true then
 if((decide ((w64 (a.s+b.s))>a.s))==(decide (b.s>0)))=true then
 some (.inr (⟨w64 (a.s+b.s),[]⟩:qx))
 else
 some (.inl ())
 else
 some (.inl ()):Option (Unit⊕qx))).bind (fun
 |(.inl ())=>
 (qC a).bind fun c=>
 (qC b).bind fun d=>
 if(c.1==d.1)=true then
 (xn N c.2 d.2).bind fun e=>
 (jy c.1 e).bind fun f=>
 some f
 else
 (jh N c.2 d.2).bind fun g=>
 if g>=0 then
 (vH N c.2 d.2).bind fun h=>
 (jy c.1 h).bind fun i=>
 some i
 else
 (vH N d.2 c.2).bind fun j=>
 (jy d.1 j).bind fun k=>
 some k
 |(.inr l)=>
 some l)
theorem qcO (N:Nat) (a:qx) (b:qx) {res:qx} (h:xe N a b=some res):qc ZT (.fn 67) [.agg (nz1 a),.agg (nz1 b)] [] (.agg (nz1 res)) []:=by
 unfold xe at h
 refine Ub Tryz.func67 rfl rfl (m:=67) rfl (rs:=[.cell 4 77]) rfl (l:=[(0,.agg (nz1 a)),(1,.agg (nz1 b))]) rfl ?_
 refine sg fol (kF []) [.cells (nz1 a),.cells (nz1 b),bZ] ?_
 refine sq ?_
 refine sq ?_
 obtain⟨J,c,h⟩:=bnd h
 refine Goes.cut (s':=(ofG 67 (kF [(17,.bool J)]),[.cells (nz1 a),.cells (nz1 b),bZ])) ?_ ?_
 ·rcases wyB c with⟨z,c⟩|⟨z,c⟩
  ·obtain rfl:=si c
   exact tr fol [2,3,6] (kF [(17,.bool b.w.isEmpty)]) (ac (hs (.done (.opt (qO ZT .eql 75 (.tmp 11) (.const (.slice none 0 0)) (nvl (qa .u64) a.w) .nilslice)) (.bool a.w.isEmpty)) (qat qak)) (ac (gw z) (ac (hs (.done (.opt (qO ZT .eql 75 (.tmp 15) (.const (.slice none 0 0)) (nvl (qa .u64) b.w) .nilslice)) (.bool b.w.isEmpty)) (qat qak)) az)))
  obtain rfl:=si c
  exact tr fol [2,3] (kF [(17,.bool false)]) (ac (hs (.done (.opt (qO ZT .eql 75 (.tmp 11) (.const (.slice none 0 0)) (nvl (qa .u64) a.w) .nilslice)) (.bool a.w.isEmpty)) (qat qak)) (ac (gw z) az))
 obtain⟨H,g4,h⟩:=bnd h
 refine Goes.imp (Q:=fun x s'=>(x= .normal/\(.inl ())=H/\Sub s' (ofG 67 (kF []),[.cells (nz1 a),.cells (nz1 b),bZ]))\/(x= .ret/\ ∃I,(.inr I)=H/\vJ ZT [.cell 4 77] (.agg (nz1 I)) .ret s')) ?_ ?_
 ·refine ihB g4 (fun K g4=>?_) (fun K g4=>?_)
  ·refine sh fol (kF (kAl (w64 (a.s+b.s)))) ?_
   refine sh fol (kF [(5,.i (w64 (a.s+b.s))),(30,.bool ((decide ((w64 (a.s+b.s))>a.s))==(decide (b.s>0))))]) ?_
   refine ihB g4 (fun L g4=>?_) (fun L g4=>?_)
   ·refine sg fol (kAa []) (.cells (nz1 a):: .cells (nz1 b)::(kAh (w64 (a.s+b.s)))) ?_
    refine Goes.ret ?_
    obtain rfl:=si g4
    exact Or.inr (⟨rfl,_,rfl,(gw2 [.agg [.i (w64 (a.s+b.s)),.nilslice]] (FzW.agg (qg.cons (Ua tI) (qg.cons (FzW.nv0 (E:=(qa .u64))) qg.nil))))⟩)
   refine Goes.skip ?_
   obtain rfl:=si g4
   exact Or.inl (⟨rfl,rfl,(Sub.keep [2,3,4] rfl rfl)⟩)
  refine Goes.skip ?_
  obtain rfl:=si g4
  exact Or.inl (⟨rfl,rfl,(Sub.keep [2,3,4] rfl rfl)⟩)
 rintro x s' (⟨rfl,rfl,hsub⟩|⟨rfl,M,rfl,hret⟩)
 ·try dsimp only at h
  refine Goes.sub hsub ?_
  obtain⟨d,v,h⟩:=bnd h
  refine sq (gr fol [1] (kAy (kAa [(6,.bool d.1),(7,vl (qa .u64) d.2)])) (ac (cv (zq a v)) az) ?_)
  obtain⟨e,y,h⟩:=bnd h
  refine sq (gr fol [1] (kAa [(6,.bool d.1),(7,vl (qa .u64) d.2),(8,.bool e.1),(9,vl (qa .u64) e.2)]) (ac (cv (zq b y)) az) ?_)
  refine sq (Goes.block ?_)
  refine sh fol (kAa [(6,.bool d.1),(7,vl (qa .u64) d.2),(8,.bool e.1),(9,vl (qa .u64) e.2),(43,.bool (d.1==e.1))]) ?_
  refine ihB h (fun A h=>?_) (fun A h=>?_)
  ·obtain⟨B,k,h⟩:=bnd h
   obtain⟨f,o,h⟩:=bnd h
   refine sq (gq fol [3,4,5] (kAa []) [.cells (nz1 a),.cells (nz1 b),.cells (nz1 f)] (ac (cv (qeU N d.2 e.2 k)) (ac (cv (yZ d.1 B o)) (ac (hs (.run [2] (qw ZT 77 (.ptr 2 0) (.agg (nz1 f))) [.cells (nz1 a),.cells (nz1 b),bZ] .undef [.cells (nz1 a),.cells (nz1 b),.cells (nz1 f)] true) (zT (n:=2) (by kernel_rfl) rfl rfl rfl rfl (cac rfl (cac nvc can)) rfl)) az))) ?_)
   refine Goes.ret ?_
   obtain rfl:=si h
   exact(gw2 [.agg (nz1 f)] (FzW.agg (qg.cons (Ua tI) (qg.cons (Ua (qG (qa .u64) _ (nl rfl))) qg.nil))))
  obtain⟨C,p,h⟩:=bnd h
  refine sq (gr fol [2] (kAa [(6,.bool d.1),(7,vl (qa .u64) d.2),(8,.bool e.1),(9,vl (qa .u64) e.2),(52,.bool (decide (C>=0)))]) (ac (cv (qaT N d.2 e.2 p)) az) ?_)
  refine ihD h (fun D h=>?_) (fun D h=>?_)
  ·obtain⟨F,q,h⟩:=bnd h
   obtain⟨g,r,h⟩:=bnd h
   refine sq (gq fol [3,4,5] (kAa []) [.cells (nz1 a),.cells (nz1 b),.cells (nz1 g)] (ac (cv (qcl N d.2 e.2 q)) (ac (cv (yZ d.1 F r)) (ac (hs (.run [2] (qw ZT 77 (.ptr 2 0) (.agg (nz1 g))) [.cells (nz1 a),.cells (nz1 b),bZ] .undef [.cells (nz1 a),.cells (nz1 b),.cells (nz1 g)] true) (zT (n:=2) (by kernel_rfl) rfl rfl rfl rfl (cac rfl (cac nvc can)) rfl)) az))) ?_)
   refine Goes.ret ?_
   obtain rfl:=si h
   exact(gw2 [.agg (nz1 g)] (FzW.agg (qg.cons (Ua tI) (qg.cons (Ua (qG (qa .u64) _ (nl rfl))) qg.nil))))
  refine Goes.skip ?_
  obtain⟨G,t,h⟩:=bnd h
  obtain⟨j,u,h⟩:=bnd h
  refine sq (gq fol [3,4,5] (kAa []) [.cells (nz1 a),.cells (nz1 b),.cells (nz1 j)] (ac (cv (qcl N e.2 d.2 t)) (ac (cv (yZ e.1 G u)) (ac (hs (.run [2] (qw ZT 77 (.ptr 2 0) (.agg (nz1 j))) [.cells (nz1 a),.cells (nz1 b),bZ] .undef [.cells (nz1 a),.cells (nz1 b),.cells (nz1 j)] true) (zT (n:=2) (by kernel_rfl) rfl rfl rfl rfl (cac rfl (cac nvc can)) rfl)) az))) ?_)
  refine Goes.ret ?_
  obtain rfl:=si h
  exact(gw2 [.agg (nz1 j)] (FzW.agg (qg.cons (Ua tI) (qg.cons (Ua (qG (qa .u64) _ (nl rfl))) qg.nil))))
 try dsimp only at h
 obtain rfl:=si h
 exact hret
def xR (N:Nat) (a:qx) (b:qx):Option qx:=
 (z8 b).bind fun c=>
 (xe N a c).bind fun d=>
 some d
theorem qga (N:Nat) (a:qx) (b:qx) {res:qx} (h:xR N a b=some res):qc ZT (.fn 163) [.agg (nz1 a),.agg (nz1 b)] [] (.agg (nz1 res)) []:=by
 unfold xR at h
 refine Ub Tryz.func163 rfl rfl (m:=9) rfl (rs:=[.cell 4 77]) rfl (l:=[(0,.agg (nz1 a)),(1,.agg (nz1 b))]) rfl ?_
 refine sg fol (kF []) [.cells (nz1 a),.cells (nz1 b),bZ] ?_
 obtain⟨f,c,h⟩:=bnd h
 obtain⟨e,d,h⟩:=bnd h
 refine sq (gq fol [2,3,4] (kAa []) [.cells (nz1 a),.cells (nz1 b),.cells (nz1 e)] (ac (cv (vW b c)) (ac (cv (qcO N a f d)) (ac (hs (.run [2] (qw ZT 77 (.ptr 2 0) (.agg (nz1 e))) [.cells (nz1 a),.cells (nz1 b),bZ] .undef [.cells (nz1 a),.cells (nz1 b),.cells (nz1 e)] true) (zT (n:=2) (by kernel_rfl) rfl rfl rfl rfl (cac rfl (cac nvc can)) rfl)) az))) ?_)
 refine Goes.ret ?_
 obtain rfl:=si h
 exact(gw2 [.agg (nz1 e)] (FzW.agg (qg.cons (Ua tI) (qg.cons (Ua (qG (qa .u64) _ (nl rfl))) qg.nil))))
def bits_Len64 (a:Int):Option Int:=
 ((if a>=4294967296 then
 some (ql .u64 a 32,32)
 else
 some (a,0):Option (Int×Int))).bind fun(b,f)=>
 ((if b>=65536 then
 some (ql .u64 b 16,w64 (f+16))
 else
 some (b,f):Option (Int×Int))).bind fun(c,g)=>
 ((if c>=256 then
 some (ql .u64 c 8,w64 (g+8))
 else
 some (c,g):Option (Int×Int))).bind fun(h,d)=>
 (idx ([0,1,2,2,3,3,3,3,4,4,4,4,4,4,4,4,5,5,5,5,5,5,5,5,5,5,5,5,5,5,5,5,6,6,6,6,6,6,6,6,6,6,6,6,6,6,6,6,6,6,6,6,6,6,6,6,6,6,6,6,6,6,6,6,7,7,7,7,7,7,7,7,7,7,7,7,7,7,7,7,7,7,7,7,7,7,7,7,7,7,7,7,7,7,7,7,7,7,7,7,7,7,7,7,7,7,7,7,7,7,7,7,7,7,7,7,7,7,7,7,7,7,7,7,7,7,7,7,8,8,8,8,8,8,8,8,8,8,8,8,8,8,8,8,8,8,8,8,8,8,8,8,8,8,8,8,8,8,8,8,8,8,8,8,8,8,8,8,8,8,8,8,8,8,8,8,8,8,8,8,8,8,8,8,8,8,8,8,8,8,8,8,8,8,8,8,8,8,8,8,8,8,8,8,8,8,8,8,8,8,8,8,8,8,8,8,8,8,8,8,8,8,8,8,8,8,8,8,8,8,8,8,8,8,8,8,8,8,8,8,8,8,8,8,8,8,8,8,8,8,8,8,8,8,8,8]:Str) (IntKind.wrap .u8 h)).bind fun e=>
 some (w64 (d+(w64 (e.toNat:Int))))
theorem qds (b:Int) {res:Int} (h:bits_Len64 b=some res):qc ZT (.fn 165) [.int .u64 b] [] (.i res) []:=by
 unfold bits_Len64 at h
 refine Ub Tryz.func165 rfl rfl (m:=25) rfl (rs:=[.tmp 2]) rfl (l:=[(0,.int .u64 b)]) rfl ?_
 refine sh fol [(0,.int .u64 b),(2,.i 0)] ?_
 refine sq ?_
 refine sh fol ((0,.int .u64 b)::(2,.i 0)::(kAq (decide (b>=4294967296)))) ?_
 obtain⟨p,g3,h⟩:=bnd h
 refine Goes.imp (Q:=fun x s'=>(x= .normal/\ ∃c g,(c,g)=p/\Sub s' (ofG 25 (kAr c g []),[]))) ?_ ?_
 ·refine ihD g3 (fun q g3=>?_) (fun q g3=>?_)
  ·refine sh fol [(0,.int .u64 (ql .u64 b 32))] ?_
   refine gh fol [(0,.int .u64 (ql .u64 b 32)),(2,.i 32)] ?_
   obtain rfl:=si g3
   exact⟨rfl,_,_,rfl,(Sub.refl _)⟩
  refine Goes.skip ?_
  obtain rfl:=si g3
  exact⟨rfl,_,_,rfl,(Sub.keep [0,2] rfl rfl)⟩
 rintro x s' ⟨rfl,c,g,rfl,hsub⟩
 try dsimp only at h
 refine Goes.sub hsub ?_
 refine sq ?_
 refine sh fol (kAr c g (kA1 (decide (c>=65536)))) ?_
 obtain⟨r,g7,h⟩:=bnd h
 refine Goes.imp (Q:=fun x s'=>(x= .normal/\ ∃d j,(d,j)=r/\Sub s' (ofG 25 (kAr d j []),[]))) ?_ ?_
 ·refine ihD g7 (fun s g7=>?_) (fun s g7=>?_)
  ·refine sh fol (kAr (ql .u64 c 16) g []) ?_
   refine gh fol (kAr (ql .u64 c 16) (w64 (g+16)) []) ?_
   obtain rfl:=si g7
   exact⟨rfl,_,_,rfl,(Sub.refl _)⟩
  refine Goes.skip ?_
  obtain rfl:=si g7
  exact⟨rfl,_,_,rfl,(Sub.keep [0,2] rfl rfl)⟩
 rintro x s' ⟨rfl,d,j,rfl,hsub⟩
 try dsimp only at h
 refine Goes.sub hsub ?_
 refine sq ?_
 refine sh fol (kAr d j [(14,.bool (decide (d>=256)))]) ?_
 obtain⟨n,g11,h⟩:=bnd h
 refine Goes.imp (Q:=fun x s'=>(x= .normal/\ ∃k a,(k,a)=n/\Sub s' (ofG 25 (kAr k a []),[]))) ?_ ?_
 ·refine ihD g11 (fun o g11=>?_) (fun o g11=>?_)
  ·refine sh fol (kAr (ql .u64 d 8) j []) ?_
   refine gh fol (kAr (ql .u64 d 8) (w64 (j+8)) []) ?_
   obtain rfl:=si g11
   exact⟨rfl,_,_,rfl,(Sub.refl _)⟩
  refine Goes.skip ?_
  obtain rfl:=si g11
  exact⟨rfl,_,_,rfl,(Sub.keep [0,2] rfl rfl)⟩
 rintro x s' ⟨rfl,k,a,rfl,hsub⟩
 try dsimp only at h
 refine Goes.sub hsub ?_
 obtain⟨e,f,h⟩:=bnd h
 refine sq (gr fol [3] [(2,.i (w64 (a+(w64 (e.toNat:Int)))))] (ac (hs (.done (.opt (qaR ZT 9 (.str [0,1,2,2,3,3,3,3,4,4,4,4,4,4,4,4,5,5,5,5,5,5,5,5,5,5,5,5,5,5,5,5,6,6,6,6,6,6,6,6,6,6,6,6,6,6,6,6,6,6,6,6,6,6,6,6,6,6,6,6,6,6,6,6,7,7,7,7,7,7,7,7,7,7,7,7,7,7,7,7,7,7,7,7,7,7,7,7,7,7,7,7,7,7,7,7,7,7,7,7,7,7,7,7,7,7,7,7,7,7,7,7,7,7,7,7,7,7,7,7,7,7,7,7,7,7,7,7,8,8,8,8,8,8,8,8,8,8,8,8,8,8,8,8,8,8,8,8,8,8,8,8,8,8,8,8,8,8,8,8,8,8,8,8,8,8,8,8,8,8,8,8,8,8,8,8,8,8,8,8,8,8,8,8,8,8,8,8,8,8,8,8,8,8,8,8,8,8,8,8,8,8,8,8,8,8,8,8,8,8,8,8,8,8,8,8,8,8,8,8,8,8,8,8,8,8,8,8,8,8,8,8,8,8,8,8,8,8,8,8,8,8,8,8,8,8,8,8,8,8,8,8,8,8,8,8]) (.int .u8 (IntKind.wrap .u8 k)))) (.int .u8 (e.toNat:Int))) (qet st9 f)) az) ?_)
 refine Goes.ret ?_
 obtain rfl:=si h
 exact(gw2 [.i (w64 (a+(w64 (e.toNat:Int))))] (Ua tI))
def bits_LeadingZeros64 (a:Int):Option Int:=
 (bits_Len64 a).bind fun b=>
 some (w64 (64-b))
theorem qah (a:Int) {res:Int} (h:bits_LeadingZeros64 a=some res):qc ZT (.fn 194) [.int .u64 a] [] (.i res) []:=by
 unfold bits_LeadingZeros64 at h
 refine Ub Tryz.func194 rfl rfl (m:=6) rfl (rs:=[.tmp 2]) rfl (l:=[(0,.int .u64 a)]) rfl ?_
 refine sh fol [(0,.int .u64 a)] ?_
 obtain⟨c,b,h⟩:=bnd h
 refine sq (gr fol [1] [(2,.i (w64 (64-c)))] (ac (cv (qds a b)) az) ?_)
 refine Goes.ret ?_
 obtain rfl:=si h
 exact(gw2 [.i (w64 (64-c))] (Ua tI))
def vL (d:Int) (c:Int):Nat->Int->Int->Option Int
 |0,_,_=>none
 |K+1,a,b=>
  (if a>=4294967296 then
  some true
  else
  some (decide ((IntKind.wrap .u64 (a*(qz .u64 d 4294967295)))>(IntKind.wrap .u64 ((IntKind.wrap .u64 (4294967296*b))+(ql .u64 c 32))))):Option Bool).bind fun e=>
  if e=true then
  if(IntKind.wrap .u64 (b+(ql .u64 d 32)))>=4294967296 then
  some (IntKind.wrap .u64 (a-1))
  else
  vL d c K (IntKind.wrap .u64 (a-1)) (IntKind.wrap .u64 (b+(ql .u64 d 32)))
  else
  some a
def vK (d:Int) (c:Int):Nat->Int->Int->Option Int
 |0,_,_=>none
 |K+1,b,a=>
  (if a>=4294967296 then
  some true
  else
  some (decide ((IntKind.wrap .u64 (a*(qz .u64 d 4294967295)))>(IntKind.wrap .u64 ((IntKind.wrap .u64 (4294967296*b))+(qz .u64 c 4294967295))))):Option Bool).bind fun e=>
  if e=true then
  if(IntKind.wrap .u64 (b+(ql .u64 d 32)))>=4294967296 then
  some (IntKind.wrap .u64 (a-1))
  else
  vK d c K (IntKind.wrap .u64 (b+(ql .u64 d 32))) (IntKind.wrap .u64 (a-1))
  else
  some a
def xH (N:Nat) (hi:Int) (lo:Int) (y:Int):Option (Int×Int):=
 ((if y=0 then
 none
 else
 some ():Option Unit)).bind fun _=>
 ((if y<=hi then
 none
 else
 some ():Option Unit)).bind fun _=>
 if hi=0 then
 (qbh .u64 lo y).bind fun k=>
 (qad .u64 lo y).bind fun l=>
 some (k,l)
 else
 (bits_LeadingZeros64 y).bind fun f=>
 (qfx .u64 y (IntKind.wrap .u64 f)).bind fun d=>
 (qfx .u64 hi (IntKind.wrap .u64 f)).bind fun b=>
 (qio .u64 lo (IntKind.wrap .u64 (64-(IntKind.wrap .u64 f)))).bind fun c=>
 (qfx .u64 lo (IntKind.wrap .u64 f)).bind fun a=>
 (qbh .u64 (orI .u64 b c) (ql .u64 d 32)).bind fun g=>
 (vL d a N g (IntKind.wrap .u64 ((orI .u64 b c)-(IntKind.wrap .u64 (g*(ql .u64 d 32)))))).bind fun e=>
 (qbh .u64 (IntKind.wrap .u64 ((IntKind.wrap .u64 ((IntKind.wrap .u64 ((orI .u64 b c)*4294967296))+(ql .u64 a 32)))-(IntKind.wrap .u64 (e*d)))) (ql .u64 d 32)).bind fun h=>
 (vK d a N (IntKind.wrap .u64 ((IntKind.wrap .u64 ((IntKind.wrap .u64 ((IntKind.wrap .u64 ((orI .u64 b c)*4294967296))+(ql .u64 a 32)))-(IntKind.wrap .u64 (e*d))))-(IntKind.wrap .u64 (h*(ql .u64 d 32))))) h).bind fun i=>
 (qio .u64 (IntKind.wrap .u64 ((IntKind.wrap .u64 ((IntKind.wrap .u64 ((IntKind.wrap .u64 ((IntKind.wrap .u64 ((IntKind.wrap .u64 ((orI .u64 b c)*4294967296))+(ql .u64 a 32)))-(IntKind.wrap .u64 (e*d))))*4294967296))+(qz .u64 a 4294967295)))-(IntKind.wrap .u64 (i*d)))) (IntKind.wrap .u64 f)).bind fun j=>
 some (IntKind.wrap .u64 ((IntKind.wrap .u64 (e*4294967296))+i),j)
theorem qdz (N:Nat) (hi:Int) (lo:Int) (y:Int) {res:Int×Int} (h:xH N hi lo y=some res):qc ZT (.fn 193) (.int .u64 hi::(kA7 lo y)) [] (.tuple (kA7 res.1 res.2)) []:=by
 unfold xH at h
 refine Ub Tryz.func193 rfl rfl (m:=135) rfl (rs:=[.tmp 6,.tmp 7]) rfl (l:=(kS hi lo [(2,.int .u64 y)])) rfl ?_
 refine sh fol (kS hi lo [(2,.int .u64 y)]) ?_
 refine sq ?_
 refine sh fol (kS hi lo [(2,.int .u64 y),(20,.bool (decide (y=0)))]) ?_
 obtain⟨Z,g1,h⟩:=bnd h
 refine Goes.imp (Q:=fun x s'=>(x= .normal/\()=Z/\Sub s' (ofG 135 (kS hi lo [(2,.int .u64 y)]),[]))) ?_ ?_
 ·refine ihD g1 (fun c2 g1=>?_) (fun c2 g1=>?_)
  ·cases g1
  refine Goes.skip ?_
  obtain rfl:=si g1
  exact⟨rfl,rfl,(Sub.keep [0,1,2] rfl rfl)⟩
 rintro x s' ⟨rfl,rfl,hsub⟩
 refine Goes.sub hsub ?_
 refine sq ?_
 refine sh fol (kS hi lo [(2,.int .u64 y),(24,.bool (decide (y<=hi)))]) ?_
 obtain⟨r3,g3,h⟩:=bnd h
 refine Goes.imp (Q:=fun x s'=>(x= .normal/\()=r3/\Sub s' (ofG 135 (kS hi lo [(2,.int .u64 y)]),[]))) ?_ ?_
 ·refine ihD g3 (fun c4 g3=>?_) (fun c4 g3=>?_)
  ·cases g3
  refine Goes.skip ?_
  obtain rfl:=si g3
  exact⟨rfl,rfl,(Sub.keep [0,1,2] rfl rfl)⟩
 rintro x s' ⟨rfl,rfl,hsub⟩
 refine Goes.sub hsub ?_
 refine sq ?_
 refine sh fol (kS hi lo [(2,.int .u64 y),(27,.bool (decide (hi=0)))]) ?_
 refine ihD h (fun c5 h=>?_) (fun c5 h=>?_)
 ·obtain⟨K,E,h⟩:=bnd h
  obtain⟨L,F,h⟩:=bnd h
  refine sq (gr fol [2,5] (kAC K (kAK L [])) (ac (hs (.done (.opt (qO ZT .quo 182 (.tmp 28) (.tmp 29) (.int .u64 lo) (.int .u64 y))) (.int .u64 K)) (qa0 E)) (ac (hs (.done (.opt (qO ZT .rem 182 (.tmp 31) (.tmp 32) (.int .u64 lo) (.int .u64 y))) (.int .u64 L)) (qap F)) az)) ?_)
  refine Goes.ret ?_
  obtain rfl:=si h
  exact(gw2 (kA7 K L) (FzW.tuple (qg.cons (Ua tI) (qg.cons (Ua tI) qg.nil))))
 refine Goes.skip ?_
 obtain⟨f,G,h⟩:=bnd h
 refine sq (gr fol [1] (kS hi lo [(2,.int .u64 y),(8,.int .u64 (IntKind.wrap .u64 f))]) (ac (cv (qah y G)) az) ?_)
 obtain⟨b,H,h⟩:=bnd h
 refine sq (gr fol [2] (kS hi lo [(2,.int .u64 b),(8,.int .u64 (IntKind.wrap .u64 f))]) (ac (hs (.done (.opt (qO ZT .shl 182 (.tmp 37) (.tmp 38) (.int .u64 y) (.int .u64 (IntKind.wrap .u64 f)))) (.int .u64 b)) (qee H)) az) ?_)
 refine sh fol (kS hi lo [(2,.int .u64 b),(8,.int .u64 (IntKind.wrap .u64 f)),(9,.int .u64 (ql .u64 b 32))]) ?_
 refine sh fol (kS hi lo (kG b (IntKind.wrap .u64 f) (ql .u64 b 32) (qz .u64 b 4294967295) [])) ?_
 obtain⟨c,t,h⟩:=bnd h
 obtain⟨d,u,h⟩:=bnd h
 refine sq (gr fol [2,6] ((1,.int .u64 lo)::(kG b (IntKind.wrap .u64 f) (ql .u64 b 32) (qz .u64 b 4294967295) [(11,.int .u64 (orI .u64 c d))])) (ac (hs (.done (.opt (qO ZT .shl 182 (.tmp 44) (.tmp 45) (.int .u64 hi) (.int .u64 (IntKind.wrap .u64 f)))) (.int .u64 c)) (qee t)) (ac (hs (.done (.opt (qO ZT .shr 182 (.tmp 47) (.tmp 49) (.int .u64 lo) (.int .u64 (IntKind.wrap .u64 (64-(IntKind.wrap .u64 f)))))) (.int .u64 d)) (qeY u)) az)) ?_)
 obtain⟨a,v,h⟩:=bnd h
 refine sq (gr fol [2] (kG b (IntKind.wrap .u64 f) (ql .u64 b 32) (qz .u64 b 4294967295) (kT (orI .u64 c d) a [])) (ac (hs (.done (.opt (qO ZT .shl 182 (.tmp 52) (.tmp 53) (.int .u64 lo) (.int .u64 (IntKind.wrap .u64 f)))) (.int .u64 a)) (qee v)) az) ?_)
 refine sh fol (kG b (IntKind.wrap .u64 f) (ql .u64 b 32) (qz .u64 b 4294967295) (kT (orI .u64 c d) a [(13,.int .u64 (ql .u64 a 32))])) ?_
 refine sh fol (kG b (IntKind.wrap .u64 f) (ql .u64 b 32) (qz .u64 b 4294967295) (kAF (orI .u64 c d) (ql .u64 a 32) [(14,.int .u64 (qz .u64 a 4294967295))])) ?_
 obtain⟨q,w,h⟩:=bnd h
 refine sq (gr fol [2] (kG b (IntKind.wrap .u64 f) (ql .u64 b 32) (qz .u64 b 4294967295) (kAF (orI .u64 c d) (ql .u64 a 32) (kAi (qz .u64 a 4294967295) q []))) (ac (hs (.done (.opt (qO ZT .quo 182 (.tmp 59) (.tmp 60) (.int .u64 (orI .u64 c d)) (.int .u64 (ql .u64 b 32)))) (.int .u64 q)) (qa0 w)) az) ?_)
 refine sh fol (kG b (IntKind.wrap .u64 f) (ql .u64 b 32) (qz .u64 b 4294967295) (kAF (orI .u64 c d) (ql .u64 a 32) (kL (qz .u64 a 4294967295) q (IntKind.wrap .u64 ((orI .u64 c d)-(IntKind.wrap .u64 (q*(ql .u64 b 32))))) []))) ?_
 refine sq (Goes.block ?_)
 obtain⟨I,g17,h⟩:=bnd h
 refine Goes.imp (Q:=fun x s'=>(x= .exit 0/\ ∃e,e=I/\Sub s' (ofG 135 (kG b (IntKind.wrap .u64 f) (ql .u64 b 32) (qz .u64 b 4294967295) (kAF (orI .u64 c d) (ql .u64 a 32) (kAi (qz .u64 a 4294967295) e []))),[]))) ?_ ?_
 ·refine Uc (fun M s=> ∃(j:Int) (g:Int),s=(ofG 135 (kG b (IntKind.wrap .u64 f) (ql .u64 b 32) (qz .u64 b 4294967295) (kAF (orI .u64 c d) (ql .u64 a 32) (kL (qz .u64 a 4294967295) j g []))),[])/\vL b a M j g=some I) ?_ (m:=N) ⟨_,_,rfl,g17⟩
  rintro M s ⟨j,g,rfl,g17⟩
  cases M with
  |zero=>simp only[vL]at g17;cases g17
  |succ M=>
   rw[vL]at g17
   refine sq ?_
   refine sq ?_
   obtain⟨O,k,g17⟩:=bnd g17
   refine Goes.cut (s':=(ofG 135 (kG b (IntKind.wrap .u64 f) (ql .u64 b 32) (qz .u64 b 4294967295) (kAF (orI .u64 c d) (ql .u64 a 32) (kL (qz .u64 a 4294967295) j g [(78,.bool O)]))),[])) ?_ ?_
   ·rcases wyD k with⟨z,k⟩|⟨z,k⟩
    ·obtain rfl:=si k
     exact tr fol [2] (kG b (IntKind.wrap .u64 f) (ql .u64 b 32) (qz .u64 b 4294967295) (kAF (orI .u64 c d) (ql .u64 a 32) (kL (qz .u64 a 4294967295) j g [(78,.bool true)]))) (ac (gw z) az)
    obtain rfl:=si k
    exact tr fol [2] (kG b (IntKind.wrap .u64 f) (ql .u64 b 32) (qz .u64 b 4294967295) (kAF (orI .u64 c d) (ql .u64 a 32) (kL (qz .u64 a 4294967295) j g [(78,.bool (decide ((IntKind.wrap .u64 (j*(qz .u64 b 4294967295)))>(IntKind.wrap .u64 ((IntKind.wrap .u64 (4294967296*g))+(ql .u64 a 32))))))]))) (ac (gw z) az)
   refine ihB g17 (fun P g17=>?_) (fun P g17=>?_)
   ·refine Goes.skip ?_
    refine Goes.block ?_
    refine sh fol (kG b (IntKind.wrap .u64 f) (ql .u64 b 32) (qz .u64 b 4294967295) (kAF (orI .u64 c d) (ql .u64 a 32) (kL (qz .u64 a 4294967295) (IntKind.wrap .u64 (j-1)) g []))) ?_
    refine sh fol (kG b (IntKind.wrap .u64 f) (ql .u64 b 32) (qz .u64 b 4294967295) (kAF (orI .u64 c d) (ql .u64 a 32) (kL (qz .u64 a 4294967295) (IntKind.wrap .u64 (j-1)) (IntKind.wrap .u64 (g+(ql .u64 b 32))) []))) ?_
    refine sh fol (kG b (IntKind.wrap .u64 f) (ql .u64 b 32) (qz .u64 b 4294967295) (kAF (orI .u64 c d) (ql .u64 a 32) (kL (qz .u64 a 4294967295) (IntKind.wrap .u64 (j-1)) (IntKind.wrap .u64 (g+(ql .u64 b 32))) [(85,.bool (decide ((IntKind.wrap .u64 (g+(ql .u64 b 32)))>=4294967296)))]))) ?_
    refine ihD g17 (fun U g17=>?_) (fun U g17=>?_)
    ·refine Goes.exit ?_
     obtain rfl:=si g17
     exact⟨rfl,_,rfl,(Sub.keep [2,8,9,10,11,13,14,15] rfl rfl)⟩
    refine Goes.skip ?_
    exact⟨M,(ofG 135 (kG b (IntKind.wrap .u64 f) (ql .u64 b 32) (qz .u64 b 4294967295) (kAF (orI .u64 c d) (ql .u64 a 32) (kL (qz .u64 a 4294967295) (IntKind.wrap .u64 (j-1)) (IntKind.wrap .u64 (g+(ql .u64 b 32))) []))),[]),Nat.lt_succ_self _,(Sub.keep [2,8,9,10,11,13,14,15,16] rfl rfl),_,_,rfl,g17⟩
   refine Goes.exit ?_
   obtain rfl:=si g17
   exact⟨rfl,_,rfl,(Sub.keep [2,8,9,10,11,13,14,15] rfl rfl)⟩
 rintro x s' ⟨rfl,e,rfl,hsub⟩
 refine Goes.sub hsub ?_
 refine sh fol (kG b (IntKind.wrap .u64 f) (ql .u64 b 32) (qz .u64 b 4294967295) (kAi (qz .u64 a 4294967295) e [(17,.int .u64 (IntKind.wrap .u64 ((IntKind.wrap .u64 ((IntKind.wrap .u64 ((orI .u64 c d)*4294967296))+(ql .u64 a 32)))-(IntKind.wrap .u64 (e*b)))))])) ?_
 obtain⟨r,A,h⟩:=bnd h
 refine sq (gr fol [2] (kG b (IntKind.wrap .u64 f) (ql .u64 b 32) (qz .u64 b 4294967295) (kAi (qz .u64 a 4294967295) e (kAH (IntKind.wrap .u64 ((IntKind.wrap .u64 ((IntKind.wrap .u64 ((orI .u64 c d)*4294967296))+(ql .u64 a 32)))-(IntKind.wrap .u64 (e*b)))) r []))) (ac (hs (.done (.opt (qO ZT .quo 182 (.tmp 94) (.tmp 95) (.int .u64 (IntKind.wrap .u64 ((IntKind.wrap .u64 ((IntKind.wrap .u64 ((orI .u64 c d)*4294967296))+(ql .u64 a 32)))-(IntKind.wrap .u64 (e*b))))) (.int .u64 (ql .u64 b 32)))) (.int .u64 r)) (qa0 A)) az) ?_)
 refine sh fol (kG b (IntKind.wrap .u64 f) (ql .u64 b 32) (qz .u64 b 4294967295) (kL (qz .u64 a 4294967295) e (IntKind.wrap .u64 ((IntKind.wrap .u64 ((IntKind.wrap .u64 ((IntKind.wrap .u64 ((orI .u64 c d)*4294967296))+(ql .u64 a 32)))-(IntKind.wrap .u64 (e*b))))-(IntKind.wrap .u64 (r*(ql .u64 b 32))))) (kAH (IntKind.wrap .u64 ((IntKind.wrap .u64 ((IntKind.wrap .u64 ((orI .u64 c d)*4294967296))+(ql .u64 a 32)))-(IntKind.wrap .u64 (e*b)))) r []))) ?_
 refine sq (Goes.block ?_)
 obtain⟨J,g27,h⟩:=bnd h
 refine Goes.imp (Q:=fun x s'=>(x= .exit 2/\ ∃p,p=J/\Sub s' (ofG 135 ((2,.int .u64 b)::(8,.int .u64 (IntKind.wrap .u64 f))::(kAi (qz .u64 a 4294967295) e (kAH (IntKind.wrap .u64 ((IntKind.wrap .u64 ((IntKind.wrap .u64 ((orI .u64 c d)*4294967296))+(ql .u64 a 32)))-(IntKind.wrap .u64 (e*b)))) p []))),[]))) ?_ ?_
 ·refine Uc (fun M s=> ∃(i:Int) (n:Int),s=(ofG 135 (kG b (IntKind.wrap .u64 f) (ql .u64 b 32) (qz .u64 b 4294967295) (kL (qz .u64 a 4294967295) e i (kAH (IntKind.wrap .u64 ((IntKind.wrap .u64 ((IntKind.wrap .u64 ((orI .u64 c d)*4294967296))+(ql .u64 a 32)))-(IntKind.wrap .u64 (e*b)))) n []))),[])/\vK b a M i n=some J) ?_ (m:=N) ⟨_,_,rfl,g27⟩
  rintro M s ⟨i,n,rfl,g27⟩
  cases M with
  |zero=>simp only[vK]at g27;cases g27
  |succ M=>
   rw[vK]at g27
   refine sq ?_
   refine sq ?_
   obtain⟨V,o,g27⟩:=bnd g27
   refine Goes.cut (s':=(ofG 135 (kG b (IntKind.wrap .u64 f) (ql .u64 b 32) (qz .u64 b 4294967295) (kL (qz .u64 a 4294967295) e i (kAH (IntKind.wrap .u64 ((IntKind.wrap .u64 ((IntKind.wrap .u64 ((orI .u64 c d)*4294967296))+(ql .u64 a 32)))-(IntKind.wrap .u64 (e*b)))) n [(113,.bool V)]))),[])) ?_ ?_
   ·rcases wyD o with⟨B,o⟩|⟨B,o⟩
    ·obtain rfl:=si o
     exact tr fol [2] (kG b (IntKind.wrap .u64 f) (ql .u64 b 32) (qz .u64 b 4294967295) (kL (qz .u64 a 4294967295) e i (kAH (IntKind.wrap .u64 ((IntKind.wrap .u64 ((IntKind.wrap .u64 ((orI .u64 c d)*4294967296))+(ql .u64 a 32)))-(IntKind.wrap .u64 (e*b)))) n [(113,.bool true)]))) (ac (gw B) az)
    obtain rfl:=si o
    exact tr fol [2] (kG b (IntKind.wrap .u64 f) (ql .u64 b 32) (qz .u64 b 4294967295) (kL (qz .u64 a 4294967295) e i (kAH (IntKind.wrap .u64 ((IntKind.wrap .u64 ((IntKind.wrap .u64 ((orI .u64 c d)*4294967296))+(ql .u64 a 32)))-(IntKind.wrap .u64 (e*b)))) n [(113,.bool (decide ((IntKind.wrap .u64 (n*(qz .u64 b 4294967295)))>(IntKind.wrap .u64 ((IntKind.wrap .u64 (4294967296*i))+(qz .u64 a 4294967295))))))]))) (ac (gw B) az)
   refine ihB g27 (fun X g27=>?_) (fun X g27=>?_)
   ·refine Goes.skip ?_
    refine Goes.block ?_
    refine sh fol (kG b (IntKind.wrap .u64 f) (ql .u64 b 32) (qz .u64 b 4294967295) (kL (qz .u64 a 4294967295) e i (kAH (IntKind.wrap .u64 ((IntKind.wrap .u64 ((IntKind.wrap .u64 ((orI .u64 c d)*4294967296))+(ql .u64 a 32)))-(IntKind.wrap .u64 (e*b)))) (IntKind.wrap .u64 (n-1)) []))) ?_
    refine sh fol (kG b (IntKind.wrap .u64 f) (ql .u64 b 32) (qz .u64 b 4294967295) (kL (qz .u64 a 4294967295) e (IntKind.wrap .u64 (i+(ql .u64 b 32))) (kAH (IntKind.wrap .u64 ((IntKind.wrap .u64 ((IntKind.wrap .u64 ((orI .u64 c d)*4294967296))+(ql .u64 a 32)))-(IntKind.wrap .u64 (e*b)))) (IntKind.wrap .u64 (n-1)) []))) ?_
    refine sh fol (kG b (IntKind.wrap .u64 f) (ql .u64 b 32) (qz .u64 b 4294967295) (kL (qz .u64 a 4294967295) e (IntKind.wrap .u64 (i+(ql .u64 b 32))) (kAH (IntKind.wrap .u64 ((IntKind.wrap .u64 ((IntKind.wrap .u64 ((orI .u64 c d)*4294967296))+(ql .u64 a 32)))-(IntKind.wrap .u64 (e*b)))) (IntKind.wrap .u64 (n-1)) [(120,.bool (decide ((IntKind.wrap .u64 (i+(ql .u64 b 32)))>=4294967296)))]))) ?_
    refine ihD g27 (fun Y g27=>?_) (fun Y g27=>?_)
    ·refine Goes.exit ?_
     obtain rfl:=si g27
     exact⟨rfl,_,rfl,(Sub.keep [2,8,14,15,17,18] rfl rfl)⟩
    refine Goes.skip ?_
    exact⟨M,(ofG 135 (kG b (IntKind.wrap .u64 f) (ql .u64 b 32) (qz .u64 b 4294967295) (kL (qz .u64 a 4294967295) e (IntKind.wrap .u64 (i+(ql .u64 b 32))) (kAH (IntKind.wrap .u64 ((IntKind.wrap .u64 ((IntKind.wrap .u64 ((orI .u64 c d)*4294967296))+(ql .u64 a 32)))-(IntKind.wrap .u64 (e*b)))) (IntKind.wrap .u64 (n-1)) []))),[]),Nat.lt_succ_self _,(Sub.keep [2,8,9,10,14,15,16,17,18] rfl rfl),_,_,rfl,g27⟩
   refine Goes.exit ?_
   obtain rfl:=si g27
   exact⟨rfl,_,rfl,(Sub.keep [2,8,14,15,17,18] rfl rfl)⟩
 rintro x s' ⟨rfl,p,rfl,hsub⟩
 refine Goes.sub hsub ?_
 obtain⟨C,D,h⟩:=bnd h
 refine sq (gr fol [13] (kAC (IntKind.wrap .u64 ((IntKind.wrap .u64 (e*4294967296))+p)) (kAK C [])) (ac (hs (.done (.opt (qO ZT .shr 182 (.tmp 132) (.tmp 133) (.int .u64 (IntKind.wrap .u64 ((IntKind.wrap .u64 ((IntKind.wrap .u64 ((IntKind.wrap .u64 ((IntKind.wrap .u64 ((IntKind.wrap .u64 ((orI .u64 c d)*4294967296))+(ql .u64 a 32)))-(IntKind.wrap .u64 (e*b))))*4294967296))+(qz .u64 a 4294967295)))-(IntKind.wrap .u64 (p*b))))) (.int .u64 (IntKind.wrap .u64 f)))) (.int .u64 C)) (qeY D)) az) ?_)
 refine Goes.ret ?_
 obtain rfl:=si h
 exact(gw2 (kA7 (IntKind.wrap .u64 ((IntKind.wrap .u64 (e*4294967296))+p)) C) (FzW.tuple (qg.cons (Ua tI) (qg.cons (Ua tI) qg.nil))))
def bits_Mul64 (a:Int) (y:Int):Option (Int×Int):=
 some (IntKind.wrap .u64 ((IntKind.wrap .u64 ((IntKind.wrap .u64 ((ql .u64 a 32)*(ql .u64 y 32)))+(ql .u64 (IntKind.wrap .u64 ((IntKind.wrap .u64 ((ql .u64 a 32)*(qz .u64 y 4294967295)))+(ql .u64 (IntKind.wrap .u64 ((qz .u64 a 4294967295)*(qz .u64 y 4294967295))) 32))) 32)))+(ql .u64 (IntKind.wrap .u64 ((qz .u64 (IntKind.wrap .u64 ((IntKind.wrap .u64 ((ql .u64 a 32)*(qz .u64 y 4294967295)))+(ql .u64 (IntKind.wrap .u64 ((qz .u64 a 4294967295)*(qz .u64 y 4294967295))) 32))) 4294967295)+(IntKind.wrap .u64 ((qz .u64 a 4294967295)*(ql .u64 y 32))))) 32)),IntKind.wrap .u64 (a*y))
theorem qaC (a:Int) (y:Int) {res:Int×Int} (h:bits_Mul64 a y=some res):qc ZT (.fn 145) (kA7 a y) [] (.tuple (kA7 res.1 res.2)) []:=by
 unfold bits_Mul64 at h
 refine Ub Tryz.func145 rfl rfl (m:=51) rfl (rs:=[.tmp 4,.tmp 5]) rfl (l:=(kS a y [])) rfl ?_
 refine sh fol (kS a y []) ?_
 refine sh fol (kS a y (kAC (qz .u64 a 4294967295) [])) ?_
 refine sh fol (kS a y (kAC (qz .u64 a 4294967295) (kAK (ql .u64 a 32) []))) ?_
 refine sh fol (kS a y (kAC (qz .u64 a 4294967295) (kV (ql .u64 a 32) (qz .u64 y 4294967295) []))) ?_
 refine sh fol (kS a y (kAC (qz .u64 a 4294967295) (kV (ql .u64 a 32) (qz .u64 y 4294967295) [(9,.int .u64 (ql .u64 y 32))]))) ?_
 refine sh fol (kS a y (kAC (qz .u64 a 4294967295) (kV (ql .u64 a 32) (qz .u64 y 4294967295) [(9,.int .u64 (ql .u64 y 32)),(10,.int .u64 (IntKind.wrap .u64 ((qz .u64 a 4294967295)*(qz .u64 y 4294967295))))]))) ?_
 refine sh fol (kS a y (kAC (qz .u64 a 4294967295) (kAK (ql .u64 a 32) [(9,.int .u64 (ql .u64 y 32)),(11,.int .u64 (IntKind.wrap .u64 ((IntKind.wrap .u64 ((ql .u64 a 32)*(qz .u64 y 4294967295)))+(ql .u64 (IntKind.wrap .u64 ((qz .u64 a 4294967295)*(qz .u64 y 4294967295))) 32))))]))) ?_
 refine sh fol (kS a y (kAC (qz .u64 a 4294967295) (kAK (ql .u64 a 32) ((9,.int .u64 (ql .u64 y 32))::(kT (IntKind.wrap .u64 ((IntKind.wrap .u64 ((ql .u64 a 32)*(qz .u64 y 4294967295)))+(ql .u64 (IntKind.wrap .u64 ((qz .u64 a 4294967295)*(qz .u64 y 4294967295))) 32))) (qz .u64 (IntKind.wrap .u64 ((IntKind.wrap .u64 ((ql .u64 a 32)*(qz .u64 y 4294967295)))+(ql .u64 (IntKind.wrap .u64 ((qz .u64 a 4294967295)*(qz .u64 y 4294967295))) 32))) 4294967295) []))))) ?_
 refine sh fol (kS a y (kAC (qz .u64 a 4294967295) (kAK (ql .u64 a 32) [(9,.int .u64 (ql .u64 y 32)),(12,.int .u64 (qz .u64 (IntKind.wrap .u64 ((IntKind.wrap .u64 ((ql .u64 a 32)*(qz .u64 y 4294967295)))+(ql .u64 (IntKind.wrap .u64 ((qz .u64 a 4294967295)*(qz .u64 y 4294967295))) 32))) 4294967295)),(13,.int .u64 (ql .u64 (IntKind.wrap .u64 ((IntKind.wrap .u64 ((ql .u64 a 32)*(qz .u64 y 4294967295)))+(ql .u64 (IntKind.wrap .u64 ((qz .u64 a 4294967295)*(qz .u64 y 4294967295))) 32))) 32))]))) ?_
 refine sh fol (kS a y (kAK (ql .u64 a 32) [(9,.int .u64 (ql .u64 y 32)),(12,.int .u64 (IntKind.wrap .u64 ((qz .u64 (IntKind.wrap .u64 ((IntKind.wrap .u64 ((ql .u64 a 32)*(qz .u64 y 4294967295)))+(ql .u64 (IntKind.wrap .u64 ((qz .u64 a 4294967295)*(qz .u64 y 4294967295))) 32))) 4294967295)+(IntKind.wrap .u64 ((qz .u64 a 4294967295)*(ql .u64 y 32)))))),(13,.int .u64 (ql .u64 (IntKind.wrap .u64 ((IntKind.wrap .u64 ((ql .u64 a 32)*(qz .u64 y 4294967295)))+(ql .u64 (IntKind.wrap .u64 ((qz .u64 a 4294967295)*(qz .u64 y 4294967295))) 32))) 32))])) ?_
 refine sh fol (kS a y [(4,.int .u64 (IntKind.wrap .u64 ((IntKind.wrap .u64 ((IntKind.wrap .u64 ((ql .u64 a 32)*(ql .u64 y 32)))+(ql .u64 (IntKind.wrap .u64 ((IntKind.wrap .u64 ((ql .u64 a 32)*(qz .u64 y 4294967295)))+(ql .u64 (IntKind.wrap .u64 ((qz .u64 a 4294967295)*(qz .u64 y 4294967295))) 32))) 32)))+(ql .u64 (IntKind.wrap .u64 ((qz .u64 (IntKind.wrap .u64 ((IntKind.wrap .u64 ((ql .u64 a 32)*(qz .u64 y 4294967295)))+(ql .u64 (IntKind.wrap .u64 ((qz .u64 a 4294967295)*(qz .u64 y 4294967295))) 32))) 4294967295)+(IntKind.wrap .u64 ((qz .u64 a 4294967295)*(ql .u64 y 32))))) 32))))]) ?_
 refine sh fol [(4,.int .u64 (IntKind.wrap .u64 ((IntKind.wrap .u64 ((IntKind.wrap .u64 ((ql .u64 a 32)*(ql .u64 y 32)))+(ql .u64 (IntKind.wrap .u64 ((IntKind.wrap .u64 ((ql .u64 a 32)*(qz .u64 y 4294967295)))+(ql .u64 (IntKind.wrap .u64 ((qz .u64 a 4294967295)*(qz .u64 y 4294967295))) 32))) 32)))+(ql .u64 (IntKind.wrap .u64 ((qz .u64 (IntKind.wrap .u64 ((IntKind.wrap .u64 ((ql .u64 a 32)*(qz .u64 y 4294967295)))+(ql .u64 (IntKind.wrap .u64 ((qz .u64 a 4294967295)*(qz .u64 y 4294967295))) 32))) 4294967295)+(IntKind.wrap .u64 ((qz .u64 a 4294967295)*(ql .u64 y 32))))) 32)))),(5,.int .u64 (IntKind.wrap .u64 (a*y)))] ?_
 refine Goes.ret ?_
 obtain rfl:=si h
 exact(gw2 (kA7 (IntKind.wrap .u64 ((IntKind.wrap .u64 ((IntKind.wrap .u64 ((ql .u64 a 32)*(ql .u64 y 32)))+(ql .u64 (IntKind.wrap .u64 ((IntKind.wrap .u64 ((ql .u64 a 32)*(qz .u64 y 4294967295)))+(ql .u64 (IntKind.wrap .u64 ((qz .u64 a 4294967295)*(qz .u64 y 4294967295))) 32))) 32)))+(ql .u64 (IntKind.wrap .u64 ((qz .u64 (IntKind.wrap .u64 ((IntKind.wrap .u64 ((ql .u64 a 32)*(qz .u64 y 4294967295)))+(ql .u64 (IntKind.wrap .u64 ((qz .u64 a 4294967295)*(qz .u64 y 4294967295))) 32))) 4294967295)+(IntKind.wrap .u64 ((qz .u64 a 4294967295)*(ql .u64 y 32))))) 32))) (IntKind.wrap .u64 (a*y))) (FzW.tuple (qg.cons (Ua tI) (qg.cons (Ua tI) qg.nil))))
def zD (b:List Int) (a:Int):Nat->(List Int)->Int->Option (List Int)
 |0,_,_=>none
 |K+1,f,c=>
  if c<(b.length:Int)then
  (((idx b c).bind fun e=>
  (idx f c).bind fun g=>
  (qfx .u64 e a).bind fun h=>
  (put f c (orI .u64 g h)).bind fun d=>
  if a>0 then
  (qio .u64 e (w64 (64-a))).bind fun i=>
  (idx d (w64 (c+1))).bind fun k=>
  (put d (w64 (c+1)) i).bind fun j=>
  some j
  else
  some d:Option (List Int))).bind fun l=>
  zD b a K l (w64 (c+1))
  else
  some f
def yf (N:Nat) (a:List Int) (b:Int):Option (List Int):=
 (mk 8 (w64 ((a.length:Int)+1)) 0).bind fun c=>
 (zD a b N c 0).bind fun d=>
 some d
theorem qbu (N:Nat) (a:List Int) (b:Int) {G:List Int} (h:yf N a b=some G):qc ZT (.fn 195) [vl (qa .u64) a,.i b] [] (.slice 0 0 G.length G.length 1) [.cells (G.flatMap (qa .u64).c)]:=by
 unfold yf at h
 refine Goes.fnH Tryz.func195 rfl rfl (m:=40) rfl (rs:=[.tmp 4]) rfl (l:=[(0,vl (qa .u64) a),(1,.i b)]) rfl ?_
 intro B hB
 refine sh fol [(0,vl (qa .u64) a),(1,.i b)] ?_
 obtain⟨D,F,h⟩:=bnd h
 refine sq (gq fol [3] ((0,vl (qa .u64) a)::(1,.i b)::(kC D [])) [.cells (D.flatMap (qa .u64).c)] (ac (hs (.run [] (kw ZT 75 (.i (w64 ((a.length:Int)+1))) (.i (w64 ((a.length:Int)+1)))) [] (.slice 0 0 D.length D.length 1) [.cells (D.flatMap (qa .u64).c)] false) (qaA zy (E:=(qa .u64)) (z:=0) rfl (by kernel_rfl) F rfl)) az) ?_)
 refine sq ?_
 refine sh fol ((1,.i b)::(kC D [(12,vl (qa .u64) a),(13,.i (a.length:Int)),(14,.i 0)])) ?_
 refine Goes.block ?_
 obtain⟨I,g6,h⟩:=bnd h
 refine Goes.imp (Q:=fun x s'=>(x= .exit 0/\ ∃r,r=I/\Sub s' (ofG 40 (kC r []),[.cells (r.flatMap (qa .u64).c)]))) ?_ ?_
 ·refine Uc (fun M s=> ∃(g:List Int) (d:Int),s=(ofG 40 ((1,.i b)::(kC g ((12,vl (qa .u64) a)::(kAD (a.length:Int) d)))),[.cells (g.flatMap (qa .u64).c)])/\zD a b M g d=some I) ?_ (m:=N) ⟨_,_,rfl,g6⟩
  rintro M s ⟨g,d,rfl,g6⟩
  cases M with
  |zero=>simp only[zD]at g6;cases g6
  |succ M=>
   rw[zD]at g6
   refine sh fol ((1,.i b)::(kC g [(12,vl (qa .u64) a),(13,.i (a.length:Int)),(14,.i d),(15,.bool (decide (d<(a.length:Int))))])) ?_
   refine sq ?_
   refine ihD g6 (fun J g6=>?_) (fun J g6=>?_)
   ·refine Goes.skip ?_
    refine sq ?_
    obtain⟨K,g9,g6⟩:=bnd g6
    refine Goes.imp (Q:=fun x s'=>(x= .normal/\ ∃t,t=K/\Sub s' (ofG 40 ((1,.i b)::(kC t ((12,vl (qa .u64) a)::(kAD (a.length:Int) d)))),[.cells (t.flatMap (qa .u64).c)]))) ?_ ?_
    ·refine Goes.block ?_
     obtain⟨j,k,g9⟩:=bnd g9
     refine sq (gr fol [1,2] ((1,.i b)::(kC g ((6,.i d)::(kAK j ((12,vl (qa .u64) a)::(kAD (a.length:Int) d)))))) (ac (iv zy (qa .u64) k) (ac (lv 0 zG (qa .u64) k rfl) az)) ?_)
     obtain⟨u,f,g9⟩:=bnd g9
     obtain⟨v,w,g9⟩:=bnd g9
     obtain⟨e,n,g9⟩:=bnd g9
     refine sq (gq fol [2,3,6,8,9] ((1,.i b)::(kC g ((6,.i d)::(kAK j ((12,vl (qa .u64) a)::(kAD (a.length:Int) d)))))) [.cells (e.flatMap (qa .u64).c)] (ac (hs (.done (.opt (qf ZT 75 (.slice 0 0 g.length g.length 1) (.i d))) (.ptr 0 ((d:Int).toNat*1+0))) (vO zy f)) (ac (hs (.run [0] (zC ZT 182 (.ptr 0 ((d:Int).toNat*1+0))) [.cells (g.flatMap (qa .u64).c)] (.int .u64 u) [.cells (g.flatMap (qa .u64).c)] false) (qaF zG (E:=(qa .u64)) (l:=g) rfl rfl f (nl rfl) rfl)) (ac (hs (.done (.opt (qO ZT .shl 182 (.tmp 23) (.tmp 24) (.int .u64 j) (.i b))) (.int .u64 v)) (qee w)) (ac (hs (.done (.opt (qf ZT 75 (.slice 0 0 g.length g.length 1) (.i d))) (.ptr 0 ((d:Int).toNat*1+0))) (vO zy f)) (ac (hs (.run [0] (qw ZT 182 (.ptr 0 ((d:Int).toNat*1+0)) (.int .u64 (orI .u64 u v))) [.cells (g.flatMap (qa .u64).c)] .undef [.cells (e.flatMap (qa .u64).c)] true) (yh (E:=(qa .u64)) (l:=g) (y:=orI .u64 u v) rfl (show _=some 1 by kernel_rfl) rfl f rfl rfl rfl rfl rfl n rfl)) az))))) ?_)
     refine Goes.sub (show Sub (ofG 40 ((1,.i b)::(kC g ((6,.i d)::(kAK j ((12,vl (qa .u64) a)::(kAD (a.length:Int) d)))))),[.cells (e.flatMap (qa .u64).c)]) (ofG 40 ((1,.i b)::(kC e ((6,.i d)::(kAK j ((12,vl (qa .u64) a)::(kAD (a.length:Int) d)))))),[.cells (e.flatMap (qa .u64).c)])from(Sub.norm [] [some 0] (by rw[hB];rfl) rfl (.keep (.same nI) (.keep (.sliceE rfl (zS n)) (.keep (.same nI) (.keep (.same nI) (.keep (.same (qd (qa .u64) _)) (.keep (.same nI) (.keep (.same nI) .nil))))))) (.ks .nil))) ?_
     refine sh fol ((1,.i b)::(kC e ((6,.i d)::(kAK j [(12,vl (qa .u64) a),(13,.i (a.length:Int)),(14,.i d),(29,.bool (decide (b>0)))])))) ?_
     refine ihD g9 (fun H g9=>?_) (fun H g9=>?_)
     ·obtain⟨A,C,g9⟩:=bnd g9
      obtain⟨L,o,g9⟩:=bnd g9
      obtain⟨p,q,g9⟩:=bnd g9
      refine gq fol [6,7,8] ((1,.i b)::(kC e ((12,vl (qa .u64) a)::(kAD (a.length:Int) d)))) [.cells (p.flatMap (qa .u64).c)] (ac (hs (.done (.opt (qO ZT .shr 182 (.tmp 33) (.tmp 35) (.int .u64 j) (.i (w64 (64-b))))) (.int .u64 A)) (qeY C)) (ac (hs (.done (.opt (qf ZT 75 (.slice 0 0 e.length e.length 1) (.i (w64 (d+1))))) (.ptr 0 ((w64 (d+1):Int).toNat*1+0))) (vO zy o)) (ac (hs (.run [0] (qw ZT 182 (.ptr 0 ((w64 (d+1):Int).toNat*1+0)) (.int .u64 A)) [.cells (e.flatMap (qa .u64).c)] .undef [.cells (p.flatMap (qa .u64).c)] true) (yh (E:=(qa .u64)) (l:=e) (y:=A) rfl (show _=some 1 by kernel_rfl) rfl o rfl rfl rfl rfl rfl q rfl)) az))) ?_
      obtain rfl:=si g9
      exact⟨rfl,_,rfl,((show Sub (ofG 40 ((1,.i b)::(kC e ((12,vl (qa .u64) a)::(kAD (a.length:Int) d)))),[.cells (p.flatMap (qa .u64).c)]) (ofG 40 ((1,.i b)::(kC p ((12,vl (qa .u64) a)::(kAD (a.length:Int) d)))),[.cells (p.flatMap (qa .u64).c)])from(Sub.norm [] [some 0] (by rw[hB];rfl) rfl (.keep (.same nI) (.keep (.sliceE rfl (zS q)) (.keep (.same (qd (qa .u64) _)) (.keep (.same nI) (.keep (.same nI) .nil))))) (.ks .nil))).trans (Sub.refl _))⟩
     refine Goes.skip ?_
     obtain rfl:=si g9
     exact⟨rfl,_,rfl,(Sub.keep [1,5,12,13,14] rfl rfl)⟩
    rintro x s' ⟨rfl,t,rfl,hsub⟩
    refine Goes.sub hsub ?_
    refine gh fol ((1,.i b)::(kC t ((12,vl (qa .u64) a)::(kAD (a.length:Int) (w64 (d+1)))))) ?_
    exact⟨M,(ofG 40 ((1,.i b)::(kC t ((12,vl (qa .u64) a)::(kAD (a.length:Int) (w64 (d+1)))))),[.cells (t.flatMap (qa .u64).c)]),Nat.lt_succ_self _,(Sub.refl _),_,_,rfl,g6⟩
   refine Goes.exit ?_
   obtain rfl:=si g6
   exact⟨rfl,_,rfl,(Sub.keep [5] rfl rfl)⟩
 rintro x s' ⟨rfl,r,rfl,hsub⟩
 refine Goes.sub hsub ?_
 refine sh fol (kAt r []) ?_
 refine Goes.ret ?_
 obtain rfl:=si h
 exact(gh2 [.slice 0 0 r.length r.length 1] (qdn.refl _ _))
def ve (e:List Int) (f:Nat) (g:Nat) (a:List Int):Nat->Int->Int->Int->Option Int
 |0,_,_,_=>none
 |K+1,b,c,i=>
  if i=0 then
  (idx a (w64 ((a.length:Int)-2))).bind fun j=>
  (bits_Mul64 b j).bind fun d=>
  (if d.1<c then
  some true
  else
  if d.1=c then
  (qdT e f g (w64 ((a.length:Int)-2))).bind fun k=>
  some (decide (d.2<=k))
  else
  some false:Option Bool).bind fun l=>
  if l=true then
  some b
  else
  (idx a (w64 ((a.length:Int)-1))).bind fun m=>
  (yS c m 0).bind fun h=>
  ve e f g a K (IntKind.wrap .u64 (b-1)) h.1 h.2
  else
  some b
def jB (b:Nat) (e:Nat) (c:List Int) (f:Int):Nat->(List Int)->Int->Int->Int->Option ((List Int)×Int×Int)
 |0,_,_,_,_=>none
 |K+1,d,a,g,h=>
  if a<(c.length:Int)then
  (idx c a).bind fun l=>
  (bits_Mul64 f l).bind fun i=>
  (yS i.2 h 0).bind fun j=>
  (qdT d b e a).bind fun m=>
  (qcJ m j.1 g).bind fun k=>
  (put d ((b+(a:Int).toNat:Nat):Int) k.1).bind fun n=>
  jB b e c f K n (w64 (a+1)) k.2 (IntKind.wrap .u64 (i.1+j.2))
  else
  some (d,g,h)
def jD (b:Nat) (e:Nat) (c:List Int):Nat->(List Int)->Int->Int->Option ((List Int)×Int)
 |0,_,_,_=>none
 |K+1,d,a,f=>
  if a<(c.length:Int)then
  (qdT d b e a).bind fun h=>
  (idx c a).bind fun i=>
  (yS h i f).bind fun g=>
  (put d ((b+(a:Int).toNat:Nat):Int) g.1).bind fun j=>
  jD b e c K j (w64 (a+1)) g.2
  else
  some (d,f)
def qaL (N:Nat) (d:List Int) (b:Nat) (c:Nat) (v:Nat) (a:List Int):Option ((List Int)×Int):=
 (qdT d b c (a.length:Int)).bind fun u=>
 (idx a (w64 ((a.length:Int)-1))).bind fun l=>
 ((if u>=l then
 (qdT d b c (w64 ((a.length:Int)-1))).bind fun m=>
 (yS m l 0).bind fun f=>
 some (18446744073709551615,f.1,f.2)
 else
 (qdT d b c (w64 ((a.length:Int)-1))).bind fun n=>
 (xH N u n l).bind fun g=>
 some (g.1,g.2,0):Option (Int×Int×Int))).bind fun(w,x,y)=>
 (ve d b c a N w x y).bind fun e=>
 (jB b c a e N d 0 0 0).bind fun(h,o,p)=>
 (qdT h b c (a.length:Int)).bind fun q=>
 (qcJ q p o).bind fun i=>
 (put h ((b+((a.length:Int):Int).toNat:Nat):Int) i.1).bind fun j=>
 if i.2=0 then
 some (j,e)
 else
 (jD b c a N j 0 0).bind fun(k,r)=>
 (qdT k b c (a.length:Int)).bind fun s=>
 (put k ((b+((a.length:Int):Int).toNat:Nat):Int) (IntKind.wrap .u64 (s+r))).bind fun t=>
 some (t,IntKind.wrap .u64 (e-1))
theorem qfE (N:Nat) (j:List Int) (b:Nat) (d:Nat) (e:Nat) (a:List Int) {l1:List Int} {n2:Int} (h:qaL N j b d e a=some (l1,n2)):qc ZT (.fn 196) [.slice 0 b d e 1,vl (qa .u64) a] [.cells (j.flatMap (qa .u64).c)] (.int .u64 n2) [.cells (l1.flatMap (qa .u64).c)]:=by
 unfold qaL at h
 refine Goes.fnH Tryz.func196 rfl rfl (m:=186) rfl (rs:=[.tmp 4]) rfl (l:=[(0,.slice 0 b d e 1),(1,vl (qa .u64) a)]) rfl ?_
 intro B hB
 refine sh fol [(0,.slice 0 b d e 1),(1,vl (qa .u64) a)] ?_
 refine sh fol ((0,.slice 0 b d e 1)::(1,vl (qa .u64) a)::(kAl (a.length:Int))) ?_
 refine sh fol ((0,.slice 0 b d e 1)::(1,vl (qa .u64) a)::(kAl (a.length:Int))) ?_
 refine sh fol ((0,.slice 0 b d e 1)::(1,vl (qa .u64) a)::(5,.i (a.length:Int))::(kBA [])) ?_
 refine sq ?_
 obtain⟨x3,K,h⟩:=bnd h
 obtain⟨x4,u,h⟩:=bnd h
 refine sq (gr fol [2,3,7,8] ((0,.slice 0 b d e 1)::(1,vl (qa .u64) a)::(5,.i (a.length:Int))::(kBA [(30,.bool (decide (x3>=x4)))])) (ac (hs (.done (.opt (qf ZT 75 (.slice 0 b d e 1) (.i (a.length:Int)))) (.ptr 0 ((((b+((a.length:Int):Int).toNat:Nat):Int):Int).toNat*1+0))) (qbJ zy K)) (ac (hs (.run [0] (zC ZT 182 (.ptr 0 ((((b+((a.length:Int):Int).toNat:Nat):Int):Int).toNat*1+0))) [.cells (j.flatMap (qa .u64).c)] (.int .u64 x3) [.cells (j.flatMap (qa .u64).c)] false) (qaF zG (E:=(qa .u64)) (l:=j) rfl rfl (wI K) (nl rfl) rfl)) (ac (iv zy (qa .u64) u) (ac (lv 0 zG (qa .u64) u rfl) az)))) ?_)
 obtain⟨r8,g8,h⟩:=bnd h
 refine Goes.imp (Q:=fun x s'=>(x= .normal/\ ∃n5 n6 n7,(n5,n6,n7)=r8/\Sub s' (ofG 186 ((0,.slice 0 b d e 1)::(1,vl (qa .u64) a)::(kN (a.length:Int) n5 (kV n6 n7 []))),[.cells (j.flatMap (qa .u64).c)]))) ?_ ?_
 ·refine ihD g8 (fun c9 g8=>?_) (fun c9 g8=>?_)
  ·refine sh fol [(0,.slice 0 b d e 1),(1,vl (qa .u64) a),(5,.i (a.length:Int)),(6,.int .u64 18446744073709551615)] ?_
   obtain⟨c7,P,g8⟩:=bnd g8
   obtain⟨c8,b1,g8⟩:=bnd g8
   refine gr fol [3,4,8,9,10] ((0,.slice 0 b d e 1)::(1,vl (qa .u64) a)::(5,.i (a.length:Int))::(6,.int .u64 18446744073709551615)::(kV c8.1 c8.2 [])) (ac (hs (.done (.opt (qf ZT 75 (.slice 0 b d e 1) (.i (w64 ((a.length:Int)-1))))) (.ptr 0 ((((b+(w64 ((a.length:Int)-1):Int).toNat:Nat):Int):Int).toNat*1+0))) (qbJ zy P)) (ac (hs (.run [0] (zC ZT 182 (.ptr 0 ((((b+(w64 ((a.length:Int)-1):Int).toNat:Nat):Int):Int).toNat*1+0))) [.cells (j.flatMap (qa .u64).c)] (.int .u64 c7) [.cells (j.flatMap (qa .u64).c)] false) (qaF zG (E:=(qa .u64)) (l:=j) rfl rfl (wI P) (nl rfl) rfl)) (ac (iv zy (qa .u64) u) (ac (lv 0 zG (qa .u64) u rfl) (ac (cv (qbe c7 x4 0 b1)) az))))) ?_
   obtain rfl:=si g8
   exact⟨rfl,_,_,_,rfl,(Sub.refl _)⟩
  obtain⟨d0,U,g8⟩:=bnd g8
  obtain⟨d1,b2,g8⟩:=bnd g8
  refine gr fol [2,3,7,8,12,13,14] ((0,.slice 0 b d e 1)::(1,vl (qa .u64) a)::(kN (a.length:Int) d1.1 (kAK d1.2 (kBA [])))) (ac (hs (.done (.opt (qf ZT 75 (.slice 0 b d e 1) (.i (a.length:Int)))) (.ptr 0 ((((b+((a.length:Int):Int).toNat:Nat):Int):Int).toNat*1+0))) (qbJ zy K)) (ac (hs (.run [0] (zC ZT 182 (.ptr 0 ((((b+((a.length:Int):Int).toNat:Nat):Int):Int).toNat*1+0))) [.cells (j.flatMap (qa .u64).c)] (.int .u64 x3) [.cells (j.flatMap (qa .u64).c)] false) (qaF zG (E:=(qa .u64)) (l:=j) rfl rfl (wI K) (nl rfl) rfl)) (ac (hs (.done (.opt (qf ZT 75 (.slice 0 b d e 1) (.i (w64 ((a.length:Int)-1))))) (.ptr 0 ((((b+(w64 ((a.length:Int)-1):Int).toNat:Nat):Int):Int).toNat*1+0))) (qbJ zy U)) (ac (hs (.run [0] (zC ZT 182 (.ptr 0 ((((b+(w64 ((a.length:Int)-1):Int).toNat:Nat):Int):Int).toNat*1+0))) [.cells (j.flatMap (qa .u64).c)] (.int .u64 d0) [.cells (j.flatMap (qa .u64).c)] false) (qaF zG (E:=(qa .u64)) (l:=j) rfl rfl (wI U) (nl rfl) rfl)) (ac (iv zy (qa .u64) u) (ac (lv 0 zG (qa .u64) u rfl) (ac (cv (qdz N x3 d0 x4 b2)) az))))))) ?_
  obtain rfl:=si g8
  exact⟨rfl,_,_,_,rfl,(Sub.refl _)⟩
 rintro x s' ⟨rfl,n5,n6,n7,rfl,hsub⟩
 try dsimp only at h
 refine Goes.sub hsub ?_
 refine sq (Goes.block ?_)
 obtain⟨d2,g19,h⟩:=bnd h
 refine Goes.imp (Q:=fun x s'=>(x= .exit 0/\ ∃f,f=d2/\Sub s' (ofG 186 ((0,.slice 0 b d e 1)::(1,vl (qa .u64) a)::(kN (a.length:Int) f [])),[.cells (j.flatMap (qa .u64).c)]))) ?_ ?_
 ·refine Uc (fun M s=> ∃(o:Int) (q:Int) (a4:Int),s=(ofG 186 ((0,.slice 0 b d e 1)::(1,vl (qa .u64) a)::(kN (a.length:Int) o (kV q a4 []))),[.cells (j.flatMap (qa .u64).c)])/\ve j b d a M o q a4=some d2) ?_ (m:=N) ⟨_,_,_,rfl,g19⟩
  rintro M s ⟨o,q,a4,rfl,g19⟩
  cases M with
  |zero=>simp only[ve]at g19;cases g19
  |succ M=>
   rw[ve]at g19
   refine sq ?_
   refine sh fol ((0,.slice 0 b d e 1)::(1,vl (qa .u64) a)::(kN (a.length:Int) o (kAK q [(64,.bool (decide (a4=0)))]))) ?_
   refine ihD g19 (fun c20 g19=>?_) (fun c20 g19=>?_)
   ·refine Goes.skip ?_
    refine Goes.block ?_
    obtain⟨x21,V,g19⟩:=bnd g19
    obtain⟨b3,b4,g19⟩:=bnd g19
    refine sq (gr fol [4,5,6] ((0,.slice 0 b d e 1)::(1,vl (qa .u64) a)::(kN (a.length:Int) o (kAK q [(9,.int .u64 b3.1),(10,.int .u64 b3.2)]))) (ac (iv zy (qa .u64) V) (ac (lv 0 zG (qa .u64) V rfl) (ac (cv (qaC o x21 b4)) az))) ?_)
    refine sq ?_
    refine sq ?_
    obtain⟨b26,k,g19⟩:=bnd g19
    refine Goes.cut (s':=(ofG 186 ((0,.slice 0 b d e 1)::(1,vl (qa .u64) a)::(kN (a.length:Int) o (kAK q [(91,.bool b26)]))),[.cells (j.flatMap (qa .u64).c)])) ?_ ?_
    ·rcases wyD k with⟨a5,k⟩|⟨a5,k⟩
     ·obtain rfl:=si k
      exact tr fol [3] ((0,.slice 0 b d e 1)::(1,vl (qa .u64) a)::(kN (a.length:Int) o (kAK q [(91,.bool true)]))) (ac (gw a5) az)
     rcases wyD k with⟨b5,k⟩|⟨b5,k⟩
     ·obtain⟨d3,X,k⟩:=bnd k
      obtain rfl:=si k
      exact tr fol [3,7,12,13] ((0,.slice 0 b d e 1)::(1,vl (qa .u64) a)::(kN (a.length:Int) o (kAK q [(91,.bool (decide (b3.2<=d3)))]))) (ac (gw a5) (ac (gw b5) (ac (hs (.done (.opt (qf ZT 75 (.slice 0 b d e 1) (.i (w64 ((a.length:Int)-2))))) (.ptr 0 ((((b+(w64 ((a.length:Int)-2):Int).toNat:Nat):Int):Int).toNat*1+0))) (qbJ zy X)) (ac (hs (.run [0] (zC ZT 182 (.ptr 0 ((((b+(w64 ((a.length:Int)-2):Int).toNat:Nat):Int):Int).toNat*1+0))) [.cells (j.flatMap (qa .u64).c)] (.int .u64 d3) [.cells (j.flatMap (qa .u64).c)] false) (qaF zG (E:=(qa .u64)) (l:=j) rfl rfl (wI X) (nl rfl) rfl)) az))))
     obtain rfl:=si k
     exact tr fol [3,7] ((0,.slice 0 b d e 1)::(1,vl (qa .u64) a)::(kN (a.length:Int) o (kAK q [(91,.bool false)]))) (ac (gw a5) (ac (gw b5) az))
    refine ihB g19 (fun c28 g19=>?_) (fun c28 g19=>?_)
    ·refine Goes.exit ?_
     obtain rfl:=si g19
     exact⟨rfl,_,rfl,(Sub.keep [0,1,5,6] rfl rfl)⟩
    refine Goes.skip ?_
    refine sh fol ((0,.slice 0 b d e 1)::(1,vl (qa .u64) a)::(kN (a.length:Int) (IntKind.wrap .u64 (o-1)) (kAK q []))) ?_
    obtain⟨x29,Y,g19⟩:=bnd g19
    obtain⟨a6,b6,g19⟩:=bnd g19
    refine gr fol [4,5,6] ((0,.slice 0 b d e 1)::(1,vl (qa .u64) a)::(kN (a.length:Int) (IntKind.wrap .u64 (o-1)) (kV a6.1 a6.2 []))) (ac (iv zy (qa .u64) Y) (ac (lv 0 zG (qa .u64) Y rfl) (ac (cv (qbe q x29 0 b6)) az))) ?_
    exact⟨M,(ofG 186 ((0,.slice 0 b d e 1)::(1,vl (qa .u64) a)::(kN (a.length:Int) (IntKind.wrap .u64 (o-1)) (kV a6.1 a6.2 []))),[.cells (j.flatMap (qa .u64).c)]),Nat.lt_succ_self _,(Sub.refl _),_,_,_,rfl,g19⟩
   refine Goes.exit ?_
   obtain rfl:=si g19
   exact⟨rfl,_,rfl,(Sub.keep [0,1,5,6] rfl rfl)⟩
 rintro x s' ⟨rfl,f,rfl,hsub⟩
 refine Goes.sub hsub ?_
 refine sh fol ((0,.slice 0 b d e 1)::(1,vl (qa .u64) a)::(kN (a.length:Int) f [(11,.int .u64 0),(12,.int .u64 0)])) ?_
 refine sq ?_
 refine sh fol ((0,.slice 0 b d e 1)::(1,vl (qa .u64) a)::(kN (a.length:Int) f [(11,.int .u64 0),(12,.int .u64 0),(104,.i (a.length:Int)),(105,.i 0)])) ?_
 refine Goes.block ?_
 obtain⟨d4,g38,h⟩:=bnd h
 refine Goes.imp (Q:=fun x s'=>(x= .exit 2/\ ∃C a7 a8,(C,a7,a8)=d4/\Sub s' (ofG 186 ((0,.slice 0 b d e 1)::(1,vl (qa .u64) a)::(kN (a.length:Int) f (kT a7 a8 []))),[.cells (C.flatMap (qa .u64).c)]))) ?_ ?_
 ·refine Uc (fun M s=> ∃(D:List Int) (g:Int) (r:Int) (F:Int),s=(ofG 186 ((0,.slice 0 b d e 1)::(1,vl (qa .u64) a)::(kN (a.length:Int) f (kT r F (kAY (a.length:Int) g)))),[.cells (D.flatMap (qa .u64).c)])/\jB b d a f M D g r F=some d4) ?_ (m:=N) ⟨_,_,_,_,rfl,g38⟩
  rintro M s ⟨D,g,r,F,rfl,g38⟩
  cases M with
  |zero=>simp only[jB]at g38;cases g38
  |succ M=>
   rw[jB]at g38
   refine sh fol ((0,.slice 0 b d e 1)::(1,vl (qa .u64) a)::(kN (a.length:Int) f (kT r F [(104,.i (a.length:Int)),(105,.i g),(106,.bool (decide (g<(a.length:Int))))]))) ?_
   refine sq ?_
   refine ihD g38 (fun c39 g38=>?_) (fun c39 g38=>?_)
   ·refine Goes.skip ?_
    refine sq (Goes.block ?_)
    refine sh fol ((0,.slice 0 b d e 1)::(1,vl (qa .u64) a)::(kN (a.length:Int) f (kT r F ((13,.i g)::(kAY (a.length:Int) g))))) ?_
    obtain⟨x40,Z,g38⟩:=bnd g38
    obtain⟨p,b7,g38⟩:=bnd g38
    refine sq (gr fol [3,4,5] ((0,.slice 0 b d e 1)::(1,vl (qa .u64) a)::(kN (a.length:Int) f (kT r F ((13,.i g)::(kAi p.1 p.2 (kAY (a.length:Int) g)))))) (ac (iv zy (qa .u64) Z) (ac (lv 0 zG (qa .u64) Z rfl) (ac (cv (qaC f x40 b7)) az))) ?_)
    refine sh fol ((0,.slice 0 b d e 1)::(1,vl (qa .u64) a)::(kN (a.length:Int) f (kT r F ((13,.i g)::(kAi p.1 p.2 (kAY (a.length:Int) g)))))) ?_
    obtain⟨t,b8,g38⟩:=bnd g38
    refine sq (gr fol [2] ((0,.slice 0 b d e 1)::(1,vl (qa .u64) a)::(kN (a.length:Int) f ((11,.int .u64 r)::(13,.i g)::(kL p.1 t.1 t.2 (kAY (a.length:Int) g))))) (ac (cv (qbe p.2 F 0 b8)) az) ?_)
    refine sh fol ((0,.slice 0 b d e 1)::(1,vl (qa .u64) a)::(kN (a.length:Int) f (kT r (IntKind.wrap .u64 (p.1+t.2)) ((13,.i g)::(15,.int .u64 t.1)::(kAY (a.length:Int) g))))) ?_
    obtain⟨d5,v,g38⟩:=bnd g38
    obtain⟨I,b9,g38⟩:=bnd g38
    obtain⟨a0,c0,g38⟩:=bnd g38
    refine gq fol [4,5,8,12,13] ((0,.slice 0 b d e 1)::(1,vl (qa .u64) a)::(kN (a.length:Int) f (kT I.2 (IntKind.wrap .u64 (p.1+t.2)) (kAY (a.length:Int) g)))) [.cells (a0.flatMap (qa .u64).c)] (ac (hs (.done (.opt (qf ZT 75 (.slice 0 b d e 1) (.i g))) (.ptr 0 ((((b+(g:Int).toNat:Nat):Int):Int).toNat*1+0))) (qbJ zy v)) (ac (hs (.run [0] (zC ZT 182 (.ptr 0 ((((b+(g:Int).toNat:Nat):Int):Int).toNat*1+0))) [.cells (D.flatMap (qa .u64).c)] (.int .u64 d5) [.cells (D.flatMap (qa .u64).c)] false) (qaF zG (E:=(qa .u64)) (l:=D) rfl rfl (wI v) (nl rfl) rfl)) (ac (cv (qf8 d5 t.1 r b9)) (ac (hs (.done (.opt (qf ZT 75 (.slice 0 b d e 1) (.i g))) (.ptr 0 ((((b+(g:Int).toNat:Nat):Int):Int).toNat*1+0))) (qbJ zy v)) (ac (hs (.run [0] (qw ZT 182 (.ptr 0 ((((b+(g:Int).toNat:Nat):Int):Int).toNat*1+0)) (.int .u64 I.1)) [.cells (D.flatMap (qa .u64).c)] .undef [.cells (a0.flatMap (qa .u64).c)] true) (yh (E:=(qa .u64)) (l:=D) (y:=I.1) rfl (show _=some 1 by kernel_rfl) rfl (wI v) rfl rfl rfl rfl rfl c0 rfl)) az))))) ?_
    refine Goes.sub (show Sub (ofG 186 ((0,.slice 0 b d e 1)::(1,vl (qa .u64) a)::(kN (a.length:Int) f (kT I.2 (IntKind.wrap .u64 (p.1+t.2)) (kAY (a.length:Int) g)))),[.cells (a0.flatMap (qa .u64).c)]) (ofG 186 ((0,.slice 0 b d e 1)::(1,vl (qa .u64) a)::(kN (a.length:Int) f (kT I.2 (IntKind.wrap .u64 (p.1+t.2)) (kAY (a.length:Int) g)))),[.cells (a0.flatMap (qa .u64).c)])from(Sub.norm [] [some 0] (by rw[hB];rfl) rfl (.keep (.slice rfl) (.keep (.same (qd (qa .u64) _)) (.keep (.same nI) (.keep (.same nI) (.keep (.same nI) (.keep (.same nI) (.keep (.same nI) (.keep (.same nI) .nil)))))))) (.ks .nil))) ?_
    refine gh fol ((0,.slice 0 b d e 1)::(1,vl (qa .u64) a)::(kN (a.length:Int) f (kT I.2 (IntKind.wrap .u64 (p.1+t.2)) (kAY (a.length:Int) (w64 (g+1)))))) ?_
    exact⟨M,(ofG 186 ((0,.slice 0 b d e 1)::(1,vl (qa .u64) a)::(kN (a.length:Int) f (kT I.2 (IntKind.wrap .u64 (p.1+t.2)) (kAY (a.length:Int) (w64 (g+1)))))),[.cells (a0.flatMap (qa .u64).c)]),Nat.lt_succ_self _,(Sub.refl _),_,_,_,_,rfl,g38⟩
   refine Goes.exit ?_
   obtain rfl:=si g38
   exact⟨rfl,_,_,_,rfl,(Sub.keep [0,1,5,6,11,12] rfl rfl)⟩
 rintro x s' ⟨rfl,C,a7,a8,rfl,hsub⟩
 try dsimp only at h
 refine Goes.sub hsub ?_
 obtain⟨d6,w,h⟩:=bnd h
 obtain⟨L,c1,h⟩:=bnd h
 obtain⟨a9,c2,h⟩:=bnd h
 refine sq (gq fol [4,5,8,12,13] ((0,.slice 0 b d e 1)::(1,vl (qa .u64) a)::(kN (a.length:Int) f [(11,.int .u64 L.2)])) [.cells (a9.flatMap (qa .u64).c)] (ac (hs (.done (.opt (qf ZT 75 (.slice 0 b d e 1) (.i (a.length:Int)))) (.ptr 0 ((((b+((a.length:Int):Int).toNat:Nat):Int):Int).toNat*1+0))) (qbJ zy w)) (ac (hs (.run [0] (zC ZT 182 (.ptr 0 ((((b+((a.length:Int):Int).toNat:Nat):Int):Int).toNat*1+0))) [.cells (C.flatMap (qa .u64).c)] (.int .u64 d6) [.cells (C.flatMap (qa .u64).c)] false) (qaF zG (E:=(qa .u64)) (l:=C) rfl rfl (wI w) (nl rfl) rfl)) (ac (cv (qf8 d6 a8 a7 c1)) (ac (hs (.done (.opt (qf ZT 75 (.slice 0 b d e 1) (.i (a.length:Int)))) (.ptr 0 ((((b+((a.length:Int):Int).toNat:Nat):Int):Int).toNat*1+0))) (qbJ zy w)) (ac (hs (.run [0] (qw ZT 182 (.ptr 0 ((((b+((a.length:Int):Int).toNat:Nat):Int):Int).toNat*1+0)) (.int .u64 L.1)) [.cells (C.flatMap (qa .u64).c)] .undef [.cells (a9.flatMap (qa .u64).c)] true) (yh (E:=(qa .u64)) (l:=C) (y:=L.1) rfl (show _=some 1 by kernel_rfl) rfl (wI w) rfl rfl rfl rfl rfl c2 rfl)) az))))) ?_)
 refine Goes.sub (show Sub (ofG 186 ((0,.slice 0 b d e 1)::(1,vl (qa .u64) a)::(kN (a.length:Int) f [(11,.int .u64 L.2)])),[.cells (a9.flatMap (qa .u64).c)]) (ofG 186 ((0,.slice 0 b d e 1)::(1,vl (qa .u64) a)::(kN (a.length:Int) f [(11,.int .u64 L.2)])),[.cells (a9.flatMap (qa .u64).c)])from(Sub.norm [] [some 0] (by rw[hB];rfl) rfl (.keep (.slice rfl) (.keep (.same (qd (qa .u64) _)) (.keep (.same nI) (.keep (.same nI) (.keep (.same nI) .nil))))) (.ks .nil))) ?_
 refine sq ?_
 refine sh fol ((0,.slice 0 b d e 1)::(1,vl (qa .u64) a)::(kN (a.length:Int) f [(154,.bool (decide (L.2=0)))])) ?_
 refine ihD h (fun c51 h=>?_) (fun c51 h=>?_)
 ·refine sh fol [(4,.int .u64 f)] ?_
  refine Goes.ret ?_
  simp only[ZI,ZP]at h
  obtain⟨rfl,rfl⟩:=h
  exact(gh2 [.int .u64 f] (qdn.refl _ _))
 refine Goes.skip ?_
 refine sh fol ((0,.slice 0 b d e 1)::(1,vl (qa .u64) a)::(kN (a.length:Int) f [(17,.int .u64 0)])) ?_
 refine sq ?_
 refine sh fol ((0,.slice 0 b d e 1)::(1,vl (qa .u64) a)::(kN (a.length:Int) f [(17,.int .u64 0),(156,.i (a.length:Int)),(157,.i 0)])) ?_
 refine Goes.block ?_
 obtain⟨d7,g57,h⟩:=bnd h
 refine Goes.imp (Q:=fun x s'=>(x= .exit 4/\ ∃G a1,(G,a1)=d7/\Sub s' (ofG 186 ((0,.slice 0 b d e 1)::(kN (a.length:Int) f [(17,.int .u64 a1)])),[.cells (G.flatMap (qa .u64).c)]))) ?_ ?_
 ·refine Uc (fun M s=> ∃(H:List Int) (n:Int) (O:Int),s=(ofG 186 ((0,.slice 0 b d e 1)::(1,vl (qa .u64) a)::(kN (a.length:Int) f (kAc O (a.length:Int) n []))),[.cells (H.flatMap (qa .u64).c)])/\jD b d a M H n O=some d7) ?_ (m:=N) ⟨_,_,_,rfl,g57⟩
  rintro M s ⟨H,n,O,rfl,g57⟩
  cases M with
  |zero=>simp only[jD]at g57;cases g57
  |succ M=>
   rw[jD]at g57
   refine sh fol ((0,.slice 0 b d e 1)::(1,vl (qa .u64) a)::(kN (a.length:Int) f (kAc O (a.length:Int) n [(158,.bool (decide (n<(a.length:Int))))]))) ?_
   refine sq ?_
   refine ihD g57 (fun c58 g57=>?_) (fun c58 g57=>?_)
   ·refine Goes.skip ?_
    refine sq (Goes.block ?_)
    refine sh fol ((0,.slice 0 b d e 1)::(1,vl (qa .u64) a)::(kN (a.length:Int) f [(17,.int .u64 O),(18,.i n),(156,.i (a.length:Int)),(157,.i n)])) ?_
    obtain⟨d8,z,g57⟩:=bnd g57
    obtain⟨x60,a2,g57⟩:=bnd g57
    obtain⟨J,c3,g57⟩:=bnd g57
    obtain⟨a3,c4,g57⟩:=bnd g57
    refine gq fol [4,5,8,9,11,15,16] ((0,.slice 0 b d e 1)::(1,vl (qa .u64) a)::(kN (a.length:Int) f (kAc J.2 (a.length:Int) n []))) [.cells (a3.flatMap (qa .u64).c)] (ac (hs (.done (.opt (qf ZT 75 (.slice 0 b d e 1) (.i n))) (.ptr 0 ((((b+(n:Int).toNat:Nat):Int):Int).toNat*1+0))) (qbJ zy z)) (ac (hs (.run [0] (zC ZT 182 (.ptr 0 ((((b+(n:Int).toNat:Nat):Int):Int).toNat*1+0))) [.cells (H.flatMap (qa .u64).c)] (.int .u64 d8) [.cells (H.flatMap (qa .u64).c)] false) (qaF zG (E:=(qa .u64)) (l:=H) rfl rfl (wI z) (nl rfl) rfl)) (ac (iv zy (qa .u64) a2) (ac (lv 0 zG (qa .u64) a2 rfl) (ac (cv (qbe d8 x60 O c3)) (ac (hs (.done (.opt (qf ZT 75 (.slice 0 b d e 1) (.i n))) (.ptr 0 ((((b+(n:Int).toNat:Nat):Int):Int).toNat*1+0))) (qbJ zy z)) (ac (hs (.run [0] (qw ZT 182 (.ptr 0 ((((b+(n:Int).toNat:Nat):Int):Int).toNat*1+0)) (.int .u64 J.1)) [.cells (H.flatMap (qa .u64).c)] .undef [.cells (a3.flatMap (qa .u64).c)] true) (yh (E:=(qa .u64)) (l:=H) (y:=J.1) rfl (show _=some 1 by kernel_rfl) rfl (wI z) rfl rfl rfl rfl rfl c4 rfl)) az))))))) ?_
    refine Goes.sub (show Sub (ofG 186 ((0,.slice 0 b d e 1)::(1,vl (qa .u64) a)::(kN (a.length:Int) f (kAc J.2 (a.length:Int) n []))),[.cells (a3.flatMap (qa .u64).c)]) (ofG 186 ((0,.slice 0 b d e 1)::(1,vl (qa .u64) a)::(kN (a.length:Int) f (kAc J.2 (a.length:Int) n []))),[.cells (a3.flatMap (qa .u64).c)])from(Sub.norm [] [some 0] (by rw[hB];rfl) rfl (.keep (.slice rfl) (.keep (.same (qd (qa .u64) _)) (.keep (.same nI) (.keep (.same nI) (.keep (.same nI) (.keep (.same nI) (.keep (.same nI) .nil))))))) (.ks .nil))) ?_
    refine gh fol ((0,.slice 0 b d e 1)::(1,vl (qa .u64) a)::(kN (a.length:Int) f (kAc J.2 (a.length:Int) (w64 (n+1)) []))) ?_
    exact⟨M,(ofG 186 ((0,.slice 0 b d e 1)::(1,vl (qa .u64) a)::(kN (a.length:Int) f (kAc J.2 (a.length:Int) (w64 (n+1)) []))),[.cells (a3.flatMap (qa .u64).c)]),Nat.lt_succ_self _,(Sub.refl _),_,_,_,rfl,g57⟩
   refine Goes.exit ?_
   obtain rfl:=si g57
   exact⟨rfl,_,_,rfl,(Sub.keep [0,5,6,17] rfl rfl)⟩
 rintro x s' ⟨rfl,G,a1,rfl,hsub⟩
 try dsimp only at h
 refine Goes.sub hsub ?_
 obtain⟨c5,A,h⟩:=bnd h
 obtain⟨b0,c6,h⟩:=bnd h
 refine sq (gq fol [2,3,6,7] (kAC f []) [.cells (b0.flatMap (qa .u64).c)] (ac (hs (.done (.opt (qf ZT 75 (.slice 0 b d e 1) (.i (a.length:Int)))) (.ptr 0 ((((b+((a.length:Int):Int).toNat:Nat):Int):Int).toNat*1+0))) (qbJ zy A)) (ac (hs (.run [0] (zC ZT 182 (.ptr 0 ((((b+((a.length:Int):Int).toNat:Nat):Int):Int).toNat*1+0))) [.cells (G.flatMap (qa .u64).c)] (.int .u64 c5) [.cells (G.flatMap (qa .u64).c)] false) (qaF zG (E:=(qa .u64)) (l:=G) rfl rfl (wI A) (nl rfl) rfl)) (ac (hs (.done (.opt (qf ZT 75 (.slice 0 b d e 1) (.i (a.length:Int)))) (.ptr 0 ((((b+((a.length:Int):Int).toNat:Nat):Int):Int).toNat*1+0))) (qbJ zy A)) (ac (hs (.run [0] (qw ZT 182 (.ptr 0 ((((b+((a.length:Int):Int).toNat:Nat):Int):Int).toNat*1+0)) (.int .u64 (IntKind.wrap .u64 (c5+a1)))) [.cells (G.flatMap (qa .u64).c)] .undef [.cells (b0.flatMap (qa .u64).c)] true) (yh (E:=(qa .u64)) (l:=G) (y:=IntKind.wrap .u64 (c5+a1)) rfl (show _=some 1 by kernel_rfl) rfl (wI A) rfl rfl rfl rfl rfl c6 rfl)) az)))) ?_)
 refine Goes.sub (show Sub (ofG 186 (kAC f []),[.cells (b0.flatMap (qa .u64).c)]) (ofG 186 (kAC f []),[.cells (b0.flatMap (qa .u64).c)])from(Sub.norm [] [some 0] (by rw[hB];rfl) rfl (.keep (.same nI) .nil) (.ks .nil))) ?_
 refine sh fol [(4,.int .u64 (IntKind.wrap .u64 (f-1)))] ?_
 refine Goes.ret ?_
 simp only[ZI,ZP]at h
 obtain⟨rfl,rfl⟩:=h
 exact(gh2 [.int .u64 (IntKind.wrap .u64 (f-1))] (qdn.refl _ _))
def jR (N:Nat) (a:List Int) (b:List Int):Nat->(List Int)->Int->Int->Option ((List Int)×Int)
 |0,_,_,_=>none
 |K+1,e,i,c=>
  if c>=0 then
  (idx a c).bind fun f=>
  (idx b 0).bind fun g=>
  (xH N i f g).bind fun d=>
  (idx e c).bind fun j=>
  (put e c d.1).bind fun h=>
  jR N a b K h d.2 (w64 (c-1))
  else
  some (e,i)
def jV (N:Nat) (c:List Int):Nat->(List Int)->(List Int)->Int->Option ((List Int)×(List Int))
 |0,_,_,_=>none
 |K+1,b,d,a=>
  if a>=0 then
  (win b a (w64 ((w64 (a+(c.length:Int)))+1))).bind fun(e,g)=>
  (qaL N b e g (b.length-e) c).bind fun(f,h)=>
  ((if b.length=f.length then some ()else none:Option Unit)).bind fun j=>
  (idx d a).bind fun k=>
  (put d a h).bind fun i=>
  jV N c K f i (w64 (a-1))
  else
  some (b,d)
def jr (c:Int) (e:List Int):Nat->(List Int)->Int->Option (List Int)
 |0,_,_=>none
 |K+1,d,a=>
  if a<(e.length:Int)then
  (((idx d a).bind fun f=>
  (qio .u64 f c).bind fun g=>
  (put d a g).bind fun b=>
  (if c>0 then
  some (decide ((w64 (a+1))<(b.length:Int)))
  else
  some false:Option Bool).bind fun h=>
  if h=true then
  (idx b a).bind fun i=>
  (idx b (w64 (a+1))).bind fun j=>
  (qfx .u64 j (w64 (64-c))).bind fun k=>
  (put b a (orI .u64 i k)).bind fun l=>
  some l
  else
  some b:Option (List Int))).bind fun m=>
  jr c e K m (w64 (a+1))
  else
  some d
def xQ (N:Nat) (a:List Int) (b:List Int):Option ((List Int)×(List Int)):=
 (jh N a b).bind fun q=>
 if q<0 then
 some ([],a)
 else
 if(b.length:Int)=1 then
 (mk 8 (a.length:Int) 0).bind fun r=>
 (jR N a b N r 0 (w64 ((a.length:Int)-1))).bind fun(s,t)=>
 (yl N s).bind fun e=>
 (yl N ([t]:List Int)).bind fun f=>
 some (e,f)
 else
 (idx b (w64 ((b.length:Int)-1))).bind fun g=>
 (bits_LeadingZeros64 g).bind fun d=>
 (yf N b d).bind fun h=>
 (yl N h).bind fun c=>
 (yf N a d).bind fun i=>
 (mk 8 (w64 ((w64 ((a.length:Int)-(c.length:Int)))+1)) 0).bind fun j=>
 (jV N c N i j (w64 ((a.length:Int)-(c.length:Int)))).bind fun(k,l)=>
 (jr d c N k 0).bind fun m=>
 (yl N l).bind fun n=>
 (cut m 0 (c.length:Int)).bind fun o=>
 (yl N o).bind fun p=>
 some (n,p)
theorem qdx (N:Nat) (a:List Int) (b:List Int) {res:(List Int)×(List Int)} (h:xQ N a b=some res):qc ZT (.fn 164) [vl (qa .u64) a,vl (qa .u64) b] [] (.tuple [vl (qa .u64) res.1,vl (qa .u64) res.2]) []:=by
 unfold xQ at h
 refine Ub Tryz.func164 rfl rfl (m:=137) rfl (rs:=[.tmp 4,.tmp 5]) rfl (l:=[(0,vl (qa .u64) a),(1,vl (qa .u64) b)]) rfl ?_
 refine sh fol [(0,vl (qa .u64) a),(1,vl (qa .u64) b)] ?_
 refine sq ?_
 obtain⟨r1,e_r1,h⟩:=bnd h
 refine sq (gr fol [2] [(0,vl (qa .u64) a),(1,vl (qa .u64) b),(19,.bool (decide (r1<0)))] (ac (cv (qaT N a b e_r1)) az) ?_)
 refine ihD h (fun c2 h=>?_) (fun c2 h=>?_)
 ·refine sh fol [(4,.nilslice),(5,vl (qa .u64) a)] ?_
  refine Goes.ret ?_
  obtain rfl:=si h
  exact(gw2 [.nilslice,vl (qa .u64) a] (FzW.tuple (qg.cons (FzW.nilv (E:=(qa .u64))) (qg.cons (Ua (qy (qa .u64) _ (nl rfl))) qg.nil))))
 refine Goes.skip ?_
 refine sq ?_
 refine sh fol [(0,vl (qa .u64) a),(1,vl (qa .u64) b),(23,.bool (decide ((b.length:Int)=1)))] ?_
 refine ihD h (fun c3 h=>?_) (fun c3 h=>?_)
 ·obtain⟨l4,e_l4,h⟩:=bnd h
  refine sq (gq fol [2] ((0,vl (qa .u64) a)::(1,vl (qa .u64) b)::(kP l4 [])) [.cells (l4.flatMap (qa .u64).c)] (ac (hs (.run [] (kw ZT 75 (.i (a.length:Int)) (.i (a.length:Int))) [] (.slice 0 0 l4.length l4.length 1) [.cells (l4.flatMap (qa .u64).c)] false) (qaA zy (E:=(qa .u64)) (z:=0) rfl (by kernel_rfl) e_l4 rfl)) az) ?_)
  refine sh fol ((0,vl (qa .u64) a)::(1,vl (qa .u64) b)::(kP l4 [(7,.int .u64 0)])) ?_
  refine sq ?_
  refine sh fol ((0,vl (qa .u64) a)::(1,vl (qa .u64) b)::(kP l4 [(7,.int .u64 0),(8,.i (w64 ((a.length:Int)-1)))])) ?_
  refine Goes.block ?_
  obtain⟨r10,g10,h⟩:=bnd h
  refine Goes.imp (Q:=fun x s'=>(x= .exit 0/\ ∃J n9,(J,n9)=r10/\Sub s' (ofG 137 (kP J (kAK n9 [])),[.cells (J.flatMap (qa .u64).c)]))) ?_ ?_
  ·refine Uc (fun M s=> ∃(K:List Int) (n6:Int) (F:Int),s=(ofG 137 ((0,vl (qa .u64) a)::(1,vl (qa .u64) b)::(kP K (kAK n6 [(8,.i F)]))),[.cells (K.flatMap (qa .u64).c)])/\jR N a b M K n6 F=some r10) ?_ (m:=N) ⟨_,_,_,rfl,g10⟩
   rintro M s ⟨K,n6,F,rfl,g10⟩
   cases M with
   |zero=>simp only[jR]at g10;cases g10
   |succ M=>
    rw[jR]at g10
    refine sq ?_
    refine sh fol ((0,vl (qa .u64) a)::(1,vl (qa .u64) b)::(kP K (kAK n6 [(8,.i F),(31,.bool (decide (F>=0)))]))) ?_
    refine ihD g10 (fun c11 g10=>?_) (fun c11 g10=>?_)
    ·refine Goes.skip ?_
     refine sq (Goes.block ?_)
     obtain⟨x12,L,g10⟩:=bnd g10
     obtain⟨x13,O,g10⟩:=bnd g10
     obtain⟨C,e_r14,g10⟩:=bnd g10
     obtain⟨x15,P,g10⟩:=bnd g10
     obtain⟨A,U,g10⟩:=bnd g10
     refine gq fol [5,6,8,9,10,14,15] ((0,vl (qa .u64) a)::(1,vl (qa .u64) b)::(kP K (kAK C.2 [(8,.i F)]))) [.cells (A.flatMap (qa .u64).c)] (ac (iv zy (qa .u64) L) (ac (lv 0 zG (qa .u64) L rfl) (ac (iv zy (qa .u64) O) (ac (lv 0 zG (qa .u64) O rfl) (ac (cv (qdz N n6 x12 x13 e_r14)) (ac (hs (.done (.opt (qf ZT 75 (.slice 0 0 K.length K.length 1) (.i F))) (.ptr 0 ((F:Int).toNat*1+0))) (vO zy P)) (ac (hs (.run [0] (qw ZT 182 (.ptr 0 ((F:Int).toNat*1+0)) (.int .u64 C.1)) [.cells (K.flatMap (qa .u64).c)] .undef [.cells (A.flatMap (qa .u64).c)] true) (yh (E:=(qa .u64)) (l:=K) (y:=C.1) rfl (show _=some 1 by kernel_rfl) rfl P rfl rfl rfl rfl rfl U rfl)) az))))))) ?_
     refine Goes.sub (show Sub (ofG 137 ((0,vl (qa .u64) a)::(1,vl (qa .u64) b)::(kP K (kAK C.2 [(8,.i F)]))),[.cells (A.flatMap (qa .u64).c)]) (ofG 137 ((0,vl (qa .u64) a)::(1,vl (qa .u64) b)::(kP A (kAK C.2 [(8,.i F)]))),[.cells (A.flatMap (qa .u64).c)])from(Sub.norm [] [some 0] rfl rfl (.keep (.same (qd (qa .u64) _)) (.keep (.same (qd (qa .u64) _)) (.keep (.sliceE rfl (zS U)) (.keep (.same nI) (.keep (.same nI) .nil))))) (.ks .nil))) ?_
     refine gh fol ((0,vl (qa .u64) a)::(1,vl (qa .u64) b)::(kP A (kAK C.2 [(8,.i (w64 (F-1)))]))) ?_
     exact⟨M,(ofG 137 ((0,vl (qa .u64) a)::(1,vl (qa .u64) b)::(kP A (kAK C.2 [(8,.i (w64 (F-1)))]))),[.cells (A.flatMap (qa .u64).c)]),Nat.lt_succ_self _,(Sub.refl _),_,_,_,rfl,g10⟩
    refine Goes.exit ?_
    obtain rfl:=si g10
    exact⟨rfl,_,_,rfl,(Sub.keep [6,7] rfl rfl)⟩
  rintro x s' ⟨rfl,J,n9,rfl,hsub⟩
  try dsimp only at h
  refine Goes.sub hsub ?_
  obtain⟨V,e_r17,h⟩:=bnd h
  obtain⟨X,e_r18,h⟩:=bnd h
  refine sq (gq fol [1,4] [(4,vl (qa .u64) V),(5,vl (qa .u64) X)] [.frozen (J.flatMap (qa .u64).c),.frozen [.int .u64 n9]] (ac (hs (.callF 167 [.slice 0 0 J.length J.length 1] [.cells (J.flatMap (qa .u64).c)] [0] [vl (qa .u64) J] (vl (qa .u64) V)) (qam (FzL.cons (Fz.sl (E:=(qa .u64)) rfl rfl (nl rfl)) FzL.nil) (yn N J e_r17) (qy (qa .u64) _ (nl rfl)))) (ac (hs (.callF 167 [.slice 1 0 1 1 1] [.frozen (J.flatMap (qa .u64).c),.cells [.int .u64 n9]] [1] [vl (qa .u64) ([n9]:List Int)] (vl (qa .u64) X)) (qam (FzL.cons (Fz.lit rfl rfl (Um (AllST.cons tI AllST.nil))) FzL.nil) (yn N ([n9]:List Int) e_r18) (qy (qa .u64) _ (nl rfl)))) az)) ?_)
  refine Goes.sub (show Sub (ofG 137 [(4,vl (qa .u64) V),(5,vl (qa .u64) X)],[.frozen (J.flatMap (qa .u64).c),.frozen [.int .u64 n9]]) (ofG 137 [(4,vl (qa .u64) V),(5,vl (qa .u64) X)],[])from(Sub.norm [] [] rfl rfl (.keep (.same (qd (qa .u64) _)) (.keep (.same (qd (qa .u64) _)) .nil)) .nil)) ?_
  refine Goes.ret ?_
  obtain rfl:=si h
  exact(gw2 [vl (qa .u64) V,vl (qa .u64) X] (FzW.tuple (qg.cons (Ua (qy (qa .u64) _ (nl rfl))) (qg.cons (Ua (qy (qa .u64) _ (nl rfl))) qg.nil))))
 refine Goes.skip ?_
 obtain⟨x19,Y,h⟩:=bnd h
 obtain⟨g,e_r20,h⟩:=bnd h
 refine sq (gr fol [4,5,6] [(0,vl (qa .u64) a),(1,vl (qa .u64) b),(9,.i g)] (ac (iv zy (qa .u64) Y) (ac (lv 0 zG (qa .u64) Y rfl) (ac (cv (qah x19 e_r20)) az))) ?_)
 obtain⟨t,e_r21,h⟩:=bnd h
 obtain⟨d,e_r23,h⟩:=bnd h
 refine sq (gq fol [2,3] [(0,vl (qa .u64) a),(9,.i g),(10,vl (qa .u64) d)] [.frozen (t.flatMap (qa .u64).c)] (ac (hs (.callH 195 [vl (qa .u64) b,.i g] [] [] (.slice 0 0 t.length t.length 1) [.cells (t.flatMap (qa .u64).c)]) (qbf [] [some 0] (qbu N b g e_r21) .nil rfl rfl (.new rfl rfl (.same fa) rfl .nil) (rc (.same (qd (qa .u64) _)) (rc (.same nI) rn)) (.slice rfl) rfl)) (ac (hs (.callF 167 [.slice 0 0 t.length t.length 1] [.cells (t.flatMap (qa .u64).c)] [0] [vl (qa .u64) t] (vl (qa .u64) d)) (qam (FzL.cons (Fz.sl (E:=(qa .u64)) rfl rfl (nl rfl)) FzL.nil) (yn N t e_r23) (qy (qa .u64) _ (nl rfl)))) az)) ?_)
 refine Goes.sub (show Sub (ofG 137 [(0,vl (qa .u64) a),(9,.i g),(10,vl (qa .u64) d)],[.frozen (t.flatMap (qa .u64).c)]) (ofG 137 [(0,vl (qa .u64) a),(9,.i g),(10,vl (qa .u64) d)],[])from(Sub.norm [] [] rfl rfl (.keep (.same (qd (qa .u64) _)) (.keep (.same nI) (.keep (.same (qd (qa .u64) _)) .nil))) .nil)) ?_
 obtain⟨p,e_r24,h⟩:=bnd h
 refine sq (gq fol [2] [(0,vl (qa .u64) a),(9,.i g),(10,vl (qa .u64) d),(11,.slice 0 0 p.length p.length 1)] [.cells (p.flatMap (qa .u64).c)] (ac (hs (.callH 195 [vl (qa .u64) a,.i g] [] [] (.slice 0 0 p.length p.length 1) [.cells (p.flatMap (qa .u64).c)]) (qbf [] [some 0] (qbu N a g e_r24) .nil rfl rfl (.new rfl rfl (.same fa) rfl .nil) (rc (.same (qd (qa .u64) _)) (rc (.same nI) rn)) (.slice rfl) rfl)) az) ?_)
 refine sh fol [(0,vl (qa .u64) a),(9,.i g),(10,vl (qa .u64) d),(11,.slice 0 0 p.length p.length 1),(12,.i (d.length:Int))] ?_
 obtain⟨G,e_l26,h⟩:=bnd h
 refine sq (gq fol [5] ((0,vl (qa .u64) a)::(9,.i g)::(10,vl (qa .u64) d)::(kE p (d.length:Int) G [])) [.cells (p.flatMap (qa .u64).c),.cells (G.flatMap (qa .u64).c)] (ac (hs (.run [] (kw ZT 75 (.i (w64 ((w64 ((a.length:Int)-(d.length:Int)))+1))) (.i (w64 ((w64 ((a.length:Int)-(d.length:Int)))+1)))) [.cells (p.flatMap (qa .u64).c)] (.slice 1 0 G.length G.length 1) [.cells (p.flatMap (qa .u64).c),.cells (G.flatMap (qa .u64).c)] false) (qaA zy (E:=(qa .u64)) (z:=0) rfl (by kernel_rfl) e_l26 rfl)) az) ?_)
 refine sq ?_
 refine sh fol ((9,.i g)::(10,vl (qa .u64) d)::(kE p (d.length:Int) G [(14,.i (w64 ((a.length:Int)-(d.length:Int))))])) ?_
 refine Goes.block ?_
 obtain⟨r32,g32,h⟩:=bnd h
 refine Goes.imp (Q:=fun x s'=>(x= .exit 2/\ ∃Z e,(Z,e)=r32/\Sub s' (ofG 137 ((9,.i g)::(kE Z (d.length:Int) e [])),[.cells (Z.flatMap (qa .u64).c),.cells (e.flatMap (qa .u64).c)]))) ?_ ?_
 ·refine Uc (fun M s=> ∃(o:List Int) (q:List Int) (n:Int),s=(ofG 137 ((9,.i g)::(10,vl (qa .u64) d)::(kE o (d.length:Int) q [(14,.i n)])),[.cells (o.flatMap (qa .u64).c),.cells (q.flatMap (qa .u64).c)])/\jV N d M o q n=some r32) ?_ (m:=N) ⟨_,_,_,rfl,g32⟩
  rintro M s ⟨o,q,n,rfl,g32⟩
  cases M with
  |zero=>simp only[jV]at g32;cases g32
  |succ M=>
   rw[jV]at g32
   refine sq ?_
   refine sh fol ((9,.i g)::(10,vl (qa .u64) d)::(kE o (d.length:Int) q [(14,.i n),(81,.bool (decide (n>=0)))])) ?_
   refine ihD g32 (fun c33 g32=>?_) (fun c33 g32=>?_)
   ·refine Goes.skip ?_
    refine sq (Goes.block ?_)
    obtain⟨⟨H,n36⟩,e_w34,g32⟩:=bnd g32
    try dsimp only at g32
    obtain⟨⟨u,n39⟩,e_r37,g32⟩:=bnd g32
    try dsimp only at g32
    obtain⟨u40,e_u40,g32⟩:=bnd g32
    obtain⟨x41,a0,g32⟩:=bnd g32
    obtain⟨B,a1,g32⟩:=bnd g32
    refine gq fol [8,10,11,12] ((9,.i g)::(10,vl (qa .u64) d)::(kE o (d.length:Int) q [(14,.i n)])) [.cells (u.flatMap (qa .u64).c),.cells (B.flatMap (qa .u64).c)] (ac (hs (.done (.opt (ja ZT 75 (.slice 0 0 o.length o.length 1) (some (.i n)) (some (.i (w64 ((w64 (n+(d.length:Int)))+1)))) none)) (.slice 0 H n36 (o.length-H) 1)) (wn_ix zy e_w34)) (ac (hs (.callH 196 [.slice 0 H n36 (o.length-H) 1,vl (qa .u64) d] [.cells (o.flatMap (qa .u64).c),.cells (q.flatMap (qa .u64).c)] [0] (.int .u64 n39) [.cells (u.flatMap (qa .u64).c),.cells (q.flatMap (qa .u64).c)]) (qbf [some 0] [some 0,none] (qfE N o H n36 (o.length-H) d e_r37) (.ks .nil) rfl rfl (.back rfl rfl (.same fa) rfl (.old rfl rfl .nil)) (rc (.slice rfl) (rc (.same (qd (qa .u64) _)) rn)) (.same nI) rfl)) (ac (hs (.done (.opt (qf ZT 75 (.slice 1 0 q.length q.length 1) (.i n))) (.ptr 1 ((n:Int).toNat*1+0))) (vO zy a0)) (ac (hs (.run [1] (qw ZT 182 (.ptr 1 ((n:Int).toNat*1+0)) (.int .u64 n39)) [.cells (u.flatMap (qa .u64).c),.cells (q.flatMap (qa .u64).c)] .undef [.cells (u.flatMap (qa .u64).c),.cells (B.flatMap (qa .u64).c)] true) (yh (E:=(qa .u64)) (l:=q) (y:=n39) rfl (show _=some 1 by kernel_rfl) rfl a0 rfl rfl rfl rfl rfl a1 rfl)) az)))) ?_
    refine Goes.sub (show Sub (ofG 137 ((9,.i g)::(10,vl (qa .u64) d)::(kE o (d.length:Int) q [(14,.i n)])),[.cells (u.flatMap (qa .u64).c),.cells (B.flatMap (qa .u64).c)]) (ofG 137 ((9,.i g)::(10,vl (qa .u64) d)::(kE u (d.length:Int) B [(14,.i n)])),[.cells (u.flatMap (qa .u64).c),.cells (B.flatMap (qa .u64).c)])from(Sub.norm [] [some 0,some 1] rfl rfl (.keep (.same nI) (.keep (.same (qd (qa .u64) _)) (.keep (.sliceE rfl (qnt e_u40)) (.keep (.same nI) (.keep (.sliceE rfl (zS a1)) (.keep (.same nI) .nil)))))) (.ks (.ks .nil)))) ?_
    refine gh fol ((9,.i g)::(10,vl (qa .u64) d)::(kE u (d.length:Int) B [(14,.i (w64 (n-1)))])) ?_
    exact⟨M,(ofG 137 ((9,.i g)::(10,vl (qa .u64) d)::(kE u (d.length:Int) B [(14,.i (w64 (n-1)))])),[.cells (u.flatMap (qa .u64).c),.cells (B.flatMap (qa .u64).c)]),Nat.lt_succ_self _,(Sub.refl _),_,_,_,rfl,g32⟩
   refine Goes.exit ?_
   obtain rfl:=si g32
   exact⟨rfl,_,_,rfl,(Sub.keep [9,11,12,13] rfl rfl)⟩
 rintro x s' ⟨rfl,Z,e,rfl,hsub⟩
 try dsimp only at h
 refine Goes.sub hsub ?_
 refine sq ?_
 refine sh fol ((9,.i g)::(kE Z (d.length:Int) e [(96,.i (d.length:Int)),(97,.i 0)])) ?_
 refine Goes.block ?_
 obtain⟨r46,g46,h⟩:=bnd h
 refine Goes.imp (Q:=fun x s'=>(x= .exit 4/\ ∃I,I=r46/\Sub s' (ofG 137 (kE I (d.length:Int) e []),[.cells (I.flatMap (qa .u64).c),.cells (e.flatMap (qa .u64).c)]))) ?_ ?_
 ·refine Uc (fun M s=> ∃(k:List Int) (f:Int),s=(ofG 137 ((9,.i g)::(kE k (d.length:Int) e (kAe (d.length:Int) f))),[.cells (k.flatMap (qa .u64).c),.cells (e.flatMap (qa .u64).c)])/\jr g d M k f=some r46) ?_ (m:=N) ⟨_,_,rfl,g46⟩
  rintro M s ⟨k,f,rfl,g46⟩
  cases M with
  |zero=>simp only[jr]at g46;cases g46
  |succ M=>
   rw[jr]at g46
   refine sh fol ((9,.i g)::(kE k (d.length:Int) e [(96,.i (d.length:Int)),(97,.i f),(98,.bool (decide (f<(d.length:Int))))])) ?_
   refine sq ?_
   refine ihD g46 (fun c47 g46=>?_) (fun c47 g46=>?_)
   ·refine Goes.skip ?_
    refine sq ?_
    obtain⟨r49,g49,g46⟩:=bnd g46
    refine Goes.imp (Q:=fun x s'=>(x= .normal/\ ∃D,D=r49/\Sub s' (ofG 137 ((9,.i g)::(kE D (d.length:Int) e (kAe (d.length:Int) f))),[.cells (D.flatMap (qa .u64).c),.cells (e.flatMap (qa .u64).c)]))) ?_ ?_
    ·refine Goes.block ?_
     refine sh fol ((9,.i g)::(kE k (d.length:Int) e ((15,.i f)::(kAe (d.length:Int) f)))) ?_
     obtain⟨x50,v,g49⟩:=bnd g49
     obtain⟨q51,e_q51,g49⟩:=bnd g49
     obtain⟨j,a2,g49⟩:=bnd g49
     refine sq (gq fol [2,3,5,6,7] ((9,.i g)::(kE k (d.length:Int) e ((15,.i f)::(kAe (d.length:Int) f)))) [.cells (j.flatMap (qa .u64).c),.cells (e.flatMap (qa .u64).c)] (ac (hs (.done (.opt (qf ZT 75 (.slice 0 0 k.length k.length 1) (.i f))) (.ptr 0 ((f:Int).toNat*1+0))) (vO zy v)) (ac (hs (.run [0] (zC ZT 182 (.ptr 0 ((f:Int).toNat*1+0))) [.cells (k.flatMap (qa .u64).c),.cells (e.flatMap (qa .u64).c)] (.int .u64 x50) [.cells (k.flatMap (qa .u64).c),.cells (e.flatMap (qa .u64).c)] false) (qaF zG (E:=(qa .u64)) (l:=k) rfl rfl v (nl rfl) rfl)) (ac (hs (.done (.opt (qO ZT .shr 182 (.tmp 103) (.tmp 104) (.int .u64 x50) (.i g))) (.int .u64 q51)) (qeY e_q51)) (ac (hs (.done (.opt (qf ZT 75 (.slice 0 0 k.length k.length 1) (.i f))) (.ptr 0 ((f:Int).toNat*1+0))) (vO zy v)) (ac (hs (.run [0] (qw ZT 182 (.ptr 0 ((f:Int).toNat*1+0)) (.int .u64 q51)) [.cells (k.flatMap (qa .u64).c),.cells (e.flatMap (qa .u64).c)] .undef [.cells (j.flatMap (qa .u64).c),.cells (e.flatMap (qa .u64).c)] true) (yh (E:=(qa .u64)) (l:=k) (y:=q51) rfl (show _=some 1 by kernel_rfl) rfl v rfl rfl rfl rfl rfl a2 rfl)) az))))) ?_)
     refine Goes.sub (show Sub (ofG 137 ((9,.i g)::(kE k (d.length:Int) e ((15,.i f)::(kAe (d.length:Int) f)))),[.cells (j.flatMap (qa .u64).c),.cells (e.flatMap (qa .u64).c)]) (ofG 137 ((9,.i g)::(kE j (d.length:Int) e ((15,.i f)::(kAe (d.length:Int) f)))),[.cells (j.flatMap (qa .u64).c),.cells (e.flatMap (qa .u64).c)])from(Sub.norm [] [some 0,some 1] rfl rfl (.keep (.same nI) (.keep (.sliceE rfl (zS a2)) (.keep (.same nI) (.keep (.slice rfl) (.keep (.same nI) (.keep (.same nI) (.keep (.same nI) .nil))))))) (.ks (.ks .nil)))) ?_
     refine sq ?_
     obtain⟨b54,r,g49⟩:=bnd g49
     refine Goes.cut (s':=(ofG 137 ((9,.i g)::(kE j (d.length:Int) e [(15,.i f),(96,.i (d.length:Int)),(97,.i f),(115,.bool b54)])),[.cells (j.flatMap (qa .u64).c),.cells (e.flatMap (qa .u64).c)])) ?_ ?_
     ·rcases wyD r with⟨c53,r⟩|⟨c53,r⟩
      ·obtain rfl:=si r
       exact tr fol [2] ((9,.i g)::(kE j (d.length:Int) e [(15,.i f),(96,.i (d.length:Int)),(97,.i f),(115,.bool (decide ((w64 (f+1))<(j.length:Int))))])) (ac (gw c53) az)
      obtain rfl:=si r
      exact tr fol [2] ((9,.i g)::(kE j (d.length:Int) e [(15,.i f),(96,.i (d.length:Int)),(97,.i f),(115,.bool false)])) (ac (gw c53) az)
     refine ihB g49 (fun c56 g49=>?_) (fun c56 g49=>?_)
     ·obtain⟨x57,w,g49⟩:=bnd g49
      obtain⟨x58,a3,g49⟩:=bnd g49
      obtain⟨q59,e_q59,g49⟩:=bnd g49
      obtain⟨a4,a5,g49⟩:=bnd g49
      refine gq fol [2,3,7,8,11,13,14] ((9,.i g)::(kE j (d.length:Int) e (kAe (d.length:Int) f))) [.cells (a4.flatMap (qa .u64).c),.cells (e.flatMap (qa .u64).c)] (ac (hs (.done (.opt (qf ZT 75 (.slice 0 0 j.length j.length 1) (.i f))) (.ptr 0 ((f:Int).toNat*1+0))) (vO zy w)) (ac (hs (.run [0] (zC ZT 182 (.ptr 0 ((f:Int).toNat*1+0))) [.cells (j.flatMap (qa .u64).c),.cells (e.flatMap (qa .u64).c)] (.int .u64 x57) [.cells (j.flatMap (qa .u64).c),.cells (e.flatMap (qa .u64).c)] false) (qaF zG (E:=(qa .u64)) (l:=j) rfl rfl w (nl rfl) rfl)) (ac (hs (.done (.opt (qf ZT 75 (.slice 0 0 j.length j.length 1) (.i (w64 (f+1))))) (.ptr 0 ((w64 (f+1):Int).toNat*1+0))) (vO zy a3)) (ac (hs (.run [0] (zC ZT 182 (.ptr 0 ((w64 (f+1):Int).toNat*1+0))) [.cells (j.flatMap (qa .u64).c),.cells (e.flatMap (qa .u64).c)] (.int .u64 x58) [.cells (j.flatMap (qa .u64).c),.cells (e.flatMap (qa .u64).c)] false) (qaF zG (E:=(qa .u64)) (l:=j) rfl rfl a3 (nl rfl) rfl)) (ac (hs (.done (.opt (qO ZT .shl 182 (.tmp 124) (.tmp 126) (.int .u64 x58) (.i (w64 (64-g))))) (.int .u64 q59)) (qee e_q59)) (ac (hs (.done (.opt (qf ZT 75 (.slice 0 0 j.length j.length 1) (.i f))) (.ptr 0 ((f:Int).toNat*1+0))) (vO zy w)) (ac (hs (.run [0] (qw ZT 182 (.ptr 0 ((f:Int).toNat*1+0)) (.int .u64 (orI .u64 x57 q59))) [.cells (j.flatMap (qa .u64).c),.cells (e.flatMap (qa .u64).c)] .undef [.cells (a4.flatMap (qa .u64).c),.cells (e.flatMap (qa .u64).c)] true) (yh (E:=(qa .u64)) (l:=j) (y:=orI .u64 x57 q59) rfl (show _=some 1 by kernel_rfl) rfl w rfl rfl rfl rfl rfl a5 rfl)) az))))))) ?_
      obtain rfl:=si g49
      exact⟨rfl,_,rfl,((show Sub (ofG 137 ((9,.i g)::(kE j (d.length:Int) e (kAe (d.length:Int) f))),[.cells (a4.flatMap (qa .u64).c),.cells (e.flatMap (qa .u64).c)]) (ofG 137 ((9,.i g)::(kE a4 (d.length:Int) e (kAe (d.length:Int) f))),[.cells (a4.flatMap (qa .u64).c),.cells (e.flatMap (qa .u64).c)])from(Sub.norm [] [some 0,some 1] rfl rfl (.keep (.same nI) (.keep (.sliceE rfl (zS a5)) (.keep (.same nI) (.keep (.slice rfl) (.keep (.same nI) (.keep (.same nI) .nil)))))) (.ks (.ks .nil)))).trans (Sub.refl _))⟩
     refine Goes.skip ?_
     obtain rfl:=si g49
     exact⟨rfl,_,rfl,(Sub.keep [9,11,12,13,96,97] rfl rfl)⟩
    rintro x s' ⟨rfl,D,rfl,hsub⟩
    refine Goes.sub hsub ?_
    refine gh fol ((9,.i g)::(kE D (d.length:Int) e (kAe (d.length:Int) (w64 (f+1))))) ?_
    exact⟨M,(ofG 137 ((9,.i g)::(kE D (d.length:Int) e (kAe (d.length:Int) (w64 (f+1))))),[.cells (D.flatMap (qa .u64).c),.cells (e.flatMap (qa .u64).c)]),Nat.lt_succ_self _,(Sub.refl _),_,_,rfl,g46⟩
   refine Goes.exit ?_
   obtain rfl:=si g46
   exact⟨rfl,_,rfl,(Sub.keep [11,12,13] rfl rfl)⟩
 rintro x s' ⟨rfl,I,rfl,hsub⟩
 refine Goes.sub hsub ?_
 refine sq (Goes.sub (s':=(ofG 137 [(11,vl (qa .u64) I),(12,.i (d.length:Int)),(13,.slice 0 0 e.length e.length 1)],[.cells (e.flatMap (qa .u64).c)])) (Sub.norm [0] [some 1] rfl rfl (.keep (.frz (Fz.sl (E:=(qa .u64)) rfl rfl (nl rfl)) (qd (qa .u64) _)) (.keep (.same nI) (.keep (.slice rfl) .nil))) (.ks .nil)) ?_)
 obtain⟨a6,e_r62,h⟩:=bnd h
 obtain⟨s63,e_s63,h⟩:=bnd h
 obtain⟨a7,e_r64,h⟩:=bnd h
 refine gq fol [1,4,5] [(4,vl (qa .u64) a6),(5,vl (qa .u64) a7)] [.frozen (e.flatMap (qa .u64).c)] (ac (hs (.callF 167 [.slice 0 0 e.length e.length 1] [.cells (e.flatMap (qa .u64).c)] [0] [vl (qa .u64) e] (vl (qa .u64) a6)) (qam (FzL.cons (Fz.sl (E:=(qa .u64)) rfl rfl (nl rfl)) FzL.nil) (yn N e e_r62) (qy (qa .u64) _ (nl rfl)))) (ac (hs (.done (.opt (ja ZT 75 (vl (qa .u64) I) none (some (.i (d.length:Int))) none)) (vl (qa .u64) s63)) (qjy zy (E:=(qa .u64)) rfl none (some (d.length:Int)) e_s63)) (ac (cv (yn N s63 e_r64)) az))) ?_
 refine Goes.sub (show Sub (ofG 137 [(4,vl (qa .u64) a6),(5,vl (qa .u64) a7)],[.frozen (e.flatMap (qa .u64).c)]) (ofG 137 [(4,vl (qa .u64) a6),(5,vl (qa .u64) a7)],[])from(Sub.norm [] [] rfl rfl (.keep (.same (qd (qa .u64) _)) (.keep (.same (qd (qa .u64) _)) .nil)) .nil)) ?_
 refine Goes.ret ?_
 obtain rfl:=si h
 exact(gw2 [vl (qa .u64) a6,vl (qa .u64) a7] (FzW.tuple (qg.cons (Ua (qy (qa .u64) _ (nl rfl))) (qg.cons (Ua (qy (qa .u64) _ (nl rfl))) qg.nil))))
end Go.Av
