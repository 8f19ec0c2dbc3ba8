/-
  Walks of functions: what each computes, as a plain function.
-/
import Derived.Test.YtbhnngdbhdfhiaaGreatDoorAvJnG
noncomputable section
namespace Go.Av
open Go.Proofs Go.RowKit
abbrev ZT:=Tryz.prog
set_option linter.unusedSectionVars false
set_option linter.unusedVariables false
set_option linter.unusedSimpArgs false
set_option maxRecDepth 100000
theorem fol:Tryz.prog.follows .mixedOrders=true:=by kernel_rfl
structure qm where
 s:Int
 w:List Int
def qfO:Enc qm:=(encI.prod (encN (qa .u64))).comap fun x=>(x.s,x.w)
instance:SE qfO:=⟨nl rfl⟩
structure qP where
 Num:qm
 Den:qm
def qjX:Enc qP:=(qfO.prod qfO).comap fun x=>(x.Num,x.Den)
instance:SE qjX:=⟨nl rfl⟩
structure vZ where
 neg:Bool
 w:List Int
def qgq:Enc vZ:=(qcT.prod (qF encI)).comap fun x=>(x.neg,x.w)
instance:SE qgq:=⟨nl rfl⟩
abbrev kA (a:List Bool) (x:List Blk):List Blk:= .cells [.slice 2 0 a.length a.length 1]:: .cells (a.flatMap qcT.c)::x
abbrev kB {α0:Type} (a:List α0) (x:List (Nat×AV)):List (Nat×AV):=(5,.slice 0 0 a.length a.length 1)::x
abbrev kC {α0:Type} {α2:Type} (a:List α0) (b:Int) (c:List α2) (x:List (Nat×AV)):List (Nat×AV):=(11,.slice 0 0 a.length a.length 1)::(12,.i b)::(13,.slice 1 0 c.length c.length 1)::x
abbrev kD {α4:Type} (a:List Int) (b:Int) (c:Int) (d:Str) (e:List α4) (x:List (Nat×AV)):List (Nat×AV):=(0,vl encI a)::(1,.i b)::(2,.i c)::(9,.str d)::(15,.slice 0 0 e.length e.length 1)::x
abbrev kE (x:List (Nat×AV)):List (Nat×AV):=(2,.ptr 0 0)::(3,.ptr 1 0)::(4,.ptr 2 0)::x
abbrev kF (a:Int) (b:Int) (c:Int) (d:Int) (x:List (Nat×AV)):List (Nat×AV):=(2,.int .u64 a)::(8,.int .u64 b)::(9,.int .u64 c)::(10,.int .u64 d)::x
abbrev kG (a:List Int) (x:List Blk):List Blk:= .cells (a.flatMap encI.c)::x
abbrev kH (a:List Int) (b:Int) (c:Int) (x:List (Nat×AV)):List (Nat×AV):=(0,vl encI a)::(1,.i b)::(2,.i c)::x
abbrev kI {α1:Type} {α4:Type} (a:Int) (b:List α1) (c:List Int) (d:Int) (e:List α4) (f:Int) (g:Int) (h:Int) (x:List (Nat×AV)):List (Nat×AV):=(1,.i a)::(7,.slice 0 0 b.length b.length 1)::(9,vl encI c)::(10,.i d)::(22,.gslice 1 e.length 1)::(23,.i f)::(24,.i g)::(38,vl encI c)::(39,.i h)::x
abbrev kJ (x:List Blk):List Blk:= .cells [.i 0,.nilslice,.i 0,.nilslice]::x
abbrev kK (a:Int) (b:Int) (c:Int) (x:List (Nat×AV)):List (Nat×AV):=(14,.int .u64 a)::(15,.int .u64 b)::(16,.int .u64 c)::x
abbrev kL (a:Int) (b:Int) (x:List (Nat×AV)):List (Nat×AV):=(5,.i a)::(6,.int .u64 b)::x
abbrev kM (a:Int) (b:Int) (c:List Int) (d:Int) (e:Int) (x:List (Nat×AV)):List (Nat×AV):=(101,.i a)::(102,.i b)::(119,vl encI c)::(120,.i d)::(121,.i e)::x
abbrev kN (a:List Int) (x:List (Nat×AV)):List (Nat×AV):=(0,vl encI a)::x
abbrev kO (a:Int) (b:Int) (x:List (Nat×AV)):List (Nat×AV):=(0,.int .u64 a)::(1,.int .u64 b)::x
abbrev kP (a:List Bool) (x:List Blk):List Blk:= .cells (a.flatMap qcT.c)::x
abbrev kQ (a:Int) (b:Int) (x:List (Nat×AV)):List (Nat×AV):=(11,.int .u64 a)::(12,.int .u64 b)::x
abbrev kR (a:Int) (b:List Int) (x:List Blk):List Blk:= .cells [.i a]:: .cells [vl encI b]::x
abbrev kS (a:Int) (b:Int) (x:List (Nat×AV)):List (Nat×AV):=(7,.int .u64 a)::(8,.int .u64 b)::x
abbrev kT {α0:Type} (a:List α0) (x:List (Nat×AV)):List (Nat×AV):=(3,.gslice 0 a.length 1)::(4,.ptr 1 0)::x
abbrev kU (a:Int) (b:Int) (x:List (Nat×AV)):List (Nat×AV):=(21,.i a)::(22,.i b)::x
abbrev kV {α0:Type} (a:List α0) (x:List (Nat×AV)):List (Nat×AV):=(6,.gslice 0 a.length 1)::x
abbrev kW (a:List Str) (x:List Blk):List Blk:= .cells (a.flatMap encS.c)::x
abbrev kX {α1:Type} {α2:Type} (a:Int) (b:List α1) (c:List α2) (d:Int) (x:List (Nat×AV)):List (Nat×AV):=(1,.i a)::(7,.slice 0 0 b.length b.length 1)::(22,.gslice 1 c.length 1)::(23,.i d)::x
abbrev kY (a:Int) (x:List (Nat×AV)):List (Nat×AV):=(6,.int .u64 a)::x
abbrev kZ (a:Int) (b:Int):List (Nat×AV):=[(13,.i a),(14,.i b)]
abbrev kAA {α0:Type} (a:List α0) (b:Int) (x:List (Nat×AV)):List (Nat×AV):=(6,.slice 0 0 a.length a.length 1)::(7,.int .u64 b)::x
abbrev kAB {α0:Type} (a:List α0) (b:Bool) (x:List (Nat×AV)):List (Nat×AV):=(2,.ptr 0 0)::(3,.gslice 1 a.length 1)::(4,.bool b)::x
abbrev kAC (a:Int) (b:Int) (x:List (Nat×AV)):List (Nat×AV):=(11,.int .u64 a)::(13,.int .u64 b)::x
abbrev kAD (x:List Blk):List Blk:= .cells [.bool false,.nilslice]::x
abbrev kAE (a:Option (List Int)):List Blk:=[.cells [hsl 4 1 a],.cells ((hof a).flatMap encI.c)]
abbrev kAF (a:Int) (b:Int) (x:List (Nat×AV)):List (Nat×AV):=(17,.int .u64 a)::(18,.int .u64 b)::x
abbrev kAG (x:List (Nat×AV)):List (Nat×AV):=(3,.ptr 1 0)::(4,.ptr 2 0)::(5,.ptr 3 0)::x
abbrev kAH {α0:Type} (a:List α0) (b:Int) (x:List (Nat×AV)):List (Nat×AV):=(163,.slice 0 0 a.length a.length 1)::(164,.i b)::x
abbrev kAI (a:Int) (b:List Int) (x:List (Nat×AV)):List (Nat×AV):=(16,.i a)::(18,vl encI b)::x
abbrev kAJ (a:List Int) (b:Int) (c:Int) (x:List (Nat×AV)):List (Nat×AV):=(10,vl encI a)::(11,.i b)::(12,.i c)::x
abbrev kAK (x:List (Nat×AV)):List (Nat×AV):=(1,.ptr 0 0)::x
abbrev kAL {α0:Type} (a:List α0) (b:Int) (x:List (Nat×AV)):List (Nat×AV):=(5,.ptr 0 0)::(16,.gslice 1 a.length 1)::(17,.i b)::x
abbrev kAM (a:Int) (x:List (Nat×AV)):List (Nat×AV):=(1,.ptr 4 0)::(2,.ptr 5 0)::(4,.i a)::x
abbrev kAN (a:List Int) (x:List (Nat×AV)):List (Nat×AV):=(1,vl encI a)::x
abbrev kAO (a:Int) (x:List (Nat×AV)):List (Nat×AV):=(7,.int .u64 a)::x
abbrev kAP {α0:Type} (a:List α0) (x:List Blk):List Blk:= .cells [.slice 2 0 a.length a.length 1]::x
abbrev kAQ (a:Int) (b:Int):List (Nat×AV):=[(104,.i a),(105,.i b)]
abbrev kAR (x:List (Nat×AV)):List (Nat×AV):=(4,.ptr 0 0)::x
abbrev kAS (a:Int) (b:Int):List (Nat×AV):=[(28,.i a),(29,.i b)]
abbrev kAT (a:List Int) (b:Int) (c:Int):List (Nat×AV):=[(16,vl encI a),(17,.i b),(18,.i c)]
abbrev kAU (a:List Int) (b:List Int) (c:List Int):List (Nat×AV):=[(25,vl encI a),(27,vl encI b),(29,vl encI c),(244,.bool true)]
abbrev kAV (x:List (Nat×AV)):List (Nat×AV):=(4,.ptr 2 0)::x
abbrev kAW (a:Int) (b:Int) (c:Int) (x:List (Nat×AV)):List (Nat×AV):=(17,.int .u64 a)::(156,.i b)::(157,.i c)::x
abbrev kAX (a:List Int) (b:Int) (x:List (Nat×AV)):List (Nat×AV):=(25,vl encI a)::(26,.i b)::x
abbrev kAY (a:Int) (b:Int):List (Nat×AV):=[(96,.i a),(97,.i b)]
abbrev kAZ (x:List Blk):List Blk:= .cells [.nilslice]::x
abbrev kAa (a:Int):List (Nat×AV):=[(6,.ptr 3 0),(7,.i a)]
abbrev kAb (a:Int):List Blk:=[.cells [.i a,.nilslice]]
abbrev kAc (a:Int) (b:Int) (x:List (Nat×AV)):List (Nat×AV):=(14,.int .u64 a)::(15,.int .u64 b)::x
abbrev kAd (a:Str) (b:List Int) (c:Int) (x:List (Nat×AV)):List (Nat×AV):=(9,.str a)::(23,vl encI b)::(24,.i c)::x
abbrev kAe:List Blk:=[.cells (([]:List Int).flatMap encI.c)]
abbrev kAf (a:Int) (b:Int) (x:List (Nat×AV)):List (Nat×AV):=(12,.i a)::(13,.i b)::x
abbrev kAg (a:Int) (b:Int) (x:List (Nat×AV)):List (Nat×AV):=(101,.i a)::(102,.i b)::x
abbrev kAh (a:Int) (b:Int) (x:List (Nat×AV)):List (Nat×AV):=(0,.int .u64 a)::(2,.i b)::x
abbrev kAi (a:Bool) (b:List Int) (x:List Blk):List Blk:= .cells [.bool a,vl encI b]::x
abbrev kAj:List (Nat×AV):=[(2,.ptr 1 0)]
abbrev kAk {α0:Type} (a:List α0) (x:List (Nat×AV)):List (Nat×AV):=(7,.slice 0 0 a.length a.length 1)::x
abbrev kAl (a:Str) (b:Str):List (Nat×AV):=[(0,.str a),(1,.str b)]
abbrev kAm (a:Int) (x:List (Nat×AV)):List (Nat×AV):=(0,.i a)::(2,.ptr 0 0)::x
abbrev kAn {α0:Type} (a:List α0) (x:List Blk):List Blk:= .cells [.oslice 7 a.length 1]::x
abbrev kAo (a:Int) (x:List Blk):List Blk:= .dead:: .cells [.i a]::x
abbrev kAp:List (Nat×AV):=[(6,.bool false)]
abbrev kAq (x:List (Nat×AV)):List (Nat×AV):=(10,.ptr 1 0)::x
abbrev kAr (a:Int) (b:Int):List AV:=[.int .u64 a,.int .u64 b]
abbrev kAs (x:List (Nat×AV)):List (Nat×AV):=(8,.int .u64 0)::x
abbrev kAt (a:Int) (b:Int) (c:Str) (x:List (Nat×AV)):List (Nat×AV):=(0,.i a)::(1,.i b)::(5,.str c)::x
abbrev nz1 (x:qm):List AV:=ni1 x.s x.w
abbrev nq1 (x:qP):List AV:=ni2 x.Num.s x.Num.w x.Den.s x.Den.w
theorem qkV:MpT ZT 129 3 4 (.int .i64) (.bool false):=⟨by kernel_rfl,by kernel_rfl,by kernel_rfl⟩
theorem vK:SlT ZT 22 3 1 8:=⟨by kernel_rfl,by kernel_rfl,by kernel_rfl,by kernel_rfl⟩
theorem ce3:CeT ZT 3:=⟨by kernel_rfl,by kernel_rfl⟩
theorem qge:SlT ZT 45 4 1 1:=⟨by kernel_rfl,by kernel_rfl,by kernel_rfl,by kernel_rfl⟩
theorem ce4:CeT ZT 4:=⟨by kernel_rfl,by kernel_rfl⟩
noncomputable abbrev ql:Code:=(Tryz.f40.body.getD .skip).x2.x2.x2.x1.x2.x1.x1.x2.x2.x1.x1.x2.x2.x2.x1.x2.x1
theorem sl24:SlT ZT 24 22 1 24:=⟨by kernel_rfl,by kernel_rfl,by kernel_rfl,by kernel_rfl⟩
theorem yP:Tryz.prog.underlying 75=some (.slice 182):=by kernel_rfl
theorem zt:SlT ZT 75 182 1 8:=⟨by kernel_rfl,by kernel_rfl,by kernel_rfl,by kernel_rfl⟩
theorem zx:CeT ZT 182:=⟨by kernel_rfl,by kernel_rfl⟩
theorem st9:Tryz.prog.underlying 9=some .string:=by kernel_rfl
theorem qlT:SlT ZT 206 9 1 16:=⟨by kernel_rfl,by kernel_rfl,by kernel_rfl,by kernel_rfl⟩
theorem ce9:CeT ZT 9:=⟨by kernel_rfl,by kernel_rfl⟩
theorem ce22:CeT ZT 22:=⟨by kernel_rfl,by kernel_rfl⟩
theorem sl142:SlT ZT 142 25 1 8:=⟨by kernel_rfl,by kernel_rfl,by kernel_rfl,by kernel_rfl⟩
theorem ce25:CeT ZT 25:=⟨by kernel_rfl,by kernel_rfl⟩
def zo (p:List Int):Nat->(List (Int×Bool))->Int->Option (Unit⊕Int)
 |0,_,_=>none
 |K+1,e,b=>
  if b<(p.length:Int)then
  (idx p b).bind fun a=>
  (if a<0 then
  some true
  else
  if a>=(p.length:Int)then
  some true
  else
  some ((qaB e a).getD false):Option Bool).bind fun c=>
  if c=true then
  some (.inr 15)
  else
  (some (qb7 e a true)).bind fun d=>
  zo p K d (w64 (b+1))
  else
  some (.inl ())
def qM (N:Nat) (p:List Int):Option Int:=
 if(p.length:Int)>256 then
 some 5
 else
 (zo p N ([]:List (Int×Bool)) 0).bind (fun
 |(.inl ())=>
 some 0
 |(.inr a)=>
 some a)
theorem zQ (N:Nat) (p:List Int) {res:Int} (h:qM N p=some res):qc ZT (.fn 39) [vl encI p] [] (.i res) []:=by
 unfold qM at h
 refine Ub Tryz.func39 rfl rfl (m:=32) rfl (rs:=[.tmp 2]) rfl (l:=(kN p [])) rfl ?_
 refine sh fol (kN p []) ?_
 refine sq ?_
 refine sh fol (kN p [(8,.bool (decide ((p.length:Int)>256)))]) ?_
 refine ihD h (fun u h=>?_) (fun u h=>?_)
 ·refine sh fol [(2,.i 5)] ?_
  refine Goes.ret ?_
  obtain rfl:=si h
  exact(gw2 [.i 5] (Ua tI))
 refine Goes.skip ?_
 refine sg fol (kN p [(3,.map 0)]) [mpB (AV.int .i64) fO ([]:List (Int×Bool))] ?_
 refine sq ?_
 refine sh fol (kN p [(3,.map 0),(10,vl encI p),(11,.i (p.length:Int)),(12,.i 0)]) ?_
 refine Goes.block ?_
 obtain⟨n,g4,h⟩:=bnd h
 refine Goes.imp (Q:=fun x s'=>(x= .exit 0/\(.inl ())=n/\Sub s' (ofG 32 [],[]))\/(x= .ret/\ ∃t,(.inr t)=n/\jF ZT [.tmp 2] (.i t) .ret s')) ?_ ?_
 ·refine Uc (fun M s=> ∃(d:List (Int×Bool)) (b:Int),s=(ofG 32 (kN p ((3,.map 0)::(kAJ p (p.length:Int) b []))),[mpB (AV.int .i64) fO d])/\zo p M d b=some n) ?_ (m:=N) ⟨_,_,rfl,g4⟩
  rintro M s ⟨d,b,rfl,g4⟩
  cases M with
  |zero=>simp only[zo]at g4;cases g4
  |succ M=>
   rw[zo]at g4
   refine sh fol (kN p ((3,.map 0)::(kAJ p (p.length:Int) b [(13,.bool (decide (b<(p.length:Int))))]))) ?_
   refine sq ?_
   refine ihD g4 (fun v g4=>?_) (fun v g4=>?_)
   ·refine Goes.skip ?_
    refine sq (Goes.block ?_)
    obtain⟨c,e,g4⟩:=bnd g4
    refine sq (gr fol [0,1] (kN p ((3,.map 0)::(5,.i c)::(kAJ p (p.length:Int) b []))) (ac (iv vK encI e) (ac (lv 0 ce3 encI e rfl) az)) ?_)
    refine sq ?_
    refine sq ?_
    obtain⟨o,a,g4⟩:=bnd g4
    refine Goes.cut (s':=(ofG 32 (kN p ((3,.map 0)::(5,.i c)::(kAJ p (p.length:Int) b [(28,.bool o)]))),[mpB (AV.int .i64) fO d])) ?_ ?_
    ·rcases wyD a with⟨k,a⟩|⟨k,a⟩
     ·obtain rfl:=si a
      exact tr fol [2] (kN p ((3,.map 0)::(5,.i c)::(kAJ p (p.length:Int) b [(28,.bool true)]))) (ac (gw k) az)
     rcases wyD a with⟨q,a⟩|⟨q,a⟩
     ·obtain rfl:=si a
      exact tr fol [2,8] (kN p ((3,.map 0)::(5,.i c)::(kAJ p (p.length:Int) b [(28,.bool true)]))) (ac (gw k) (ac (gw q) az))
     obtain rfl:=si a
     exact tr fol [2,8,11] (kN p ((3,.map 0)::(5,.i c)::(kAJ p (p.length:Int) b [(28,.bool ((qaB d c).getD false))]))) (ac (gw k) (ac (gw q) (ac (hs (.run [0] (xQ ZT 129 (.map 0) (.i c) false) [mpB (AV.int .i64) fO d] (.bool ((qaB d c).getD false)) [mpB (AV.int .i64) fO d] false) (qjF (z:=false) (f:=fO) qkV keyI rfl c)) az)))
    refine ihB g4 (fun r g4=>?_) (fun r g4=>?_)
    ·refine sh fol [(2,.i 15)] ?_
     refine Goes.ret ?_
     obtain rfl:=si g4
     exact Or.inr (⟨rfl,_,rfl,(gw2 [.i 15] (Ua tI))⟩)
    refine Goes.skip ?_
    obtain⟨g,j,g4⟩:=bnd g4
    refine gq fol [2] (kN p ((3,.map 0)::(kAJ p (p.length:Int) b []))) [mpB (AV.int .i64) fO g] (ac (hs (.run [0] (yH ZT 129 (.map 0) (.i c) (.bool true)) [mpB (AV.int .i64) fO d] .undef [mpB (AV.int .i64) fO g] true) (upm qkV keyI fO rfl c true j rfl)) az) ?_
    refine gh fol (kN p ((3,.map 0)::(kAJ p (p.length:Int) (w64 (b+1)) []))) ?_
    exact⟨M,(ofG 32 (kN p ((3,.map 0)::(kAJ p (p.length:Int) (w64 (b+1)) []))),[mpB (AV.int .i64) fO g]),Nat.lt_succ_self _,(Sub.refl _),_,_,rfl,g4⟩
   refine Goes.exit ?_
   obtain rfl:=si g4
   exact Or.inl (⟨rfl,rfl,(Sub.norm [] [] rfl rfl .nil .nil)⟩)
 rintro x s' (⟨rfl,rfl,hsub⟩|⟨rfl,w,rfl,hret⟩)
 ·try dsimp only at h
  refine Goes.sub hsub ?_
  refine sh fol [(2,.i 0)] ?_
  refine Goes.ret ?_
  obtain rfl:=si h
  exact(gw2 [.i 0] (Ua tI))
 try dsimp only at h
 obtain rfl:=si h
 exact hret
def yG (a:List Int) (b:Int):Option Unit:=
 some ()
theorem qcq (a:List Int) (b:Int) (h:yG a b=some ()):qc ZT (.fn 91) [vl encI a,.i b] [] (.func (.func 144) [] [.ptr 0 0,.ptr 1 0]) (kR b a []):=by
 unfold yG at h
 refine Goes.fnH Tryz.func91 rfl rfl (m:=6) rfl (rs:=[.tmp 4]) rfl (l:=(kN a [(1,.i b)])) rfl ?_
 intro B hB
 refine sg fol [(2,.ptr 0 0),(3,.ptr 1 0)] [.cells [vl encI a],.cells [.i b]] ?_
 refine sh fol [(4,.func (.func 144) [] [.ptr 1 0,.ptr 0 0])] ?_
 refine Goes.ret ?_
 exact(gh2 [.func (.func 144) [] [.ptr 1 0,.ptr 0 0]] (Sub.norm [] [some 1,some 0] (by rw[hB];rfl) rfl (.keep (.funcL (sn) (rc (.ptr rfl) (rc (.ptr rfl) rn))) .nil) (.kb rfl (.same sn) (.kb rfl (.same sn) .nil))))
def jS (b:List Bool) (c:Option (List Int)) (a:Int):Option ((List Bool)×(List Int)):=
 (idx b a).bind fun h=>
 (put b a true).bind fun d=>
 ((match c with
 |none=>
 some ([a]:List Int)
 |some e=>
 (app 8 e [a]).bind fun f=>
 some f):Option (List Int)).bind fun g=>
 some (d,g)
theorem qb5 (d:List Bool) (e:Option (List Int)) (a:Int) {q:List Bool} {p:List Int} (h:jS d e a=some (q,p)):qc ZT (.rd 0) [.i a] (.loop .ready none (ofG 37 [(4,.ptr 1 0),(6,.ptr 3 0)]) ql.xp ql.x1 ql.x2::(kA d (kAE e))) (.bool true) (.loop .ready none (ofG 37 [(4,.ptr 1 0),(6,.ptr 3 0)]) ql.xp ql.x1 ql.x2::(kA q (.cells [.oslice 5 p.length 1]:: .dead::(kG p [])))):=by
 unfold jS at h
 refine Goes.round (m:=37) (l0:=[(4,.ptr 1 0),(6,.ptr 3 0)]) (l:=[(4,.ptr 1 0),(6,.ptr 3 0),(23,.i a)]) rfl rfl rfl ?_
 intro B hB
 refine Goes.subQ ?_
 refine gh fol ((4,.ptr 1 0)::(kAa a)) ?_
 refine⟨_,Sub.refl _,?_⟩
 refine⟨_,_,_,_,_,rfl,?_⟩
 refine Goes.subQ ?_
 refine Goes.block ?_
 obtain⟨s,g,h⟩:=bnd h
 obtain⟨f,j,h⟩:=bnd h
 refine sq (gq fol [2,3] (kAa a) (.loop .busy none (ofG 37 [(4,.ptr 1 0),(6,.ptr 3 0)]) ql.xp ql.x1 ql.x2::(kAP d (kP f (kAE e)))) (ac (hs (.done (.opt (qd ZT 45 (.slice 2 0 d.length d.length 1) (.i a))) (.ptr 2 ((a:Int).toNat*1+0))) (vQ qge g)) (ac (hs (.run [2] (qp ZT 4 (.ptr 2 ((a:Int).toNat*1+0)) (.bool true)) (.loop .busy none (ofG 37 [(4,.ptr 1 0),(6,.ptr 3 0)]) ql.xp ql.x1 ql.x2::(kA d (kAE e))) .undef (.loop .busy none (ofG 37 [(4,.ptr 1 0),(6,.ptr 3 0)]) ql.xp ql.x1 ql.x2::(kAP d (kP f (kAE e)))) true) (yY (E:=qcT) (l:=d) (y:=true) rfl (show _=some 1 by kernel_rfl) rfl g rfl rfl rfl rfl rfl j rfl)) az)) ?_)
 refine Goes.sub (show Sub (ofG 37 (kAa a),(.loop .busy none (ofG 37 [(4,.ptr 1 0),(6,.ptr 3 0)]) ql.xp ql.x1 ql.x2::(kAP d (kP f (kAE e))))) (ofG 37 (kAa a),(.loop .busy none (ofG 37 [(4,.ptr 1 0),(6,.ptr 3 0)]) ql.xp ql.x1 ql.x2::(kA f (kAE e))))from(Sub.norm [] [some 0,some 1,some 2,some 3,some 4] (by rw[hB];rfl) rfl (.kp (.keep (.same nI) .nil)) (.kb rfl (.loop rfl (.kp (.kp .nil))) (.kb rfl (.cells (rc (.sliceE rfl (vG j)) rn)) (.ks (.kb rfl (.cells (rc (.hs rfl) rn)) (.ks .nil))))))) ?_
 obtain⟨r,b,h⟩:=bnd h
 refine Goes.cutS (s':=(ofG 37 [],(.loop .busy none (ofG 37 [(4,.ptr 1 0),(6,.ptr 3 0)]) ql.xp ql.x1 ql.x2::(kA f (.cells [.oslice 5 r.length 1]:: .dead::(kG r [])))))) ?_ ?_
 ·rcases e with _|k
  ·try dsimp only at b
   obtain rfl:=si b
   exact vH.sub (vH.rg fol [] (.loop .busy none (ofG 37 [(4,.ptr 1 0),(6,.ptr 3 0)]) ql.xp ql.x1 ql.x2::(kA f [.cells [.oslice 6 1 1],.cells ((hof (none:Option (List Int))).flatMap encI.c),.cells [.i a],.cells [.i a]]))) (Sub.norm [] [some 0,some 1,some 2,some 3,some 4,some 6] (by rw[hB];rfl) rfl .nil (.kb rfl (.loop rfl (.kp (.kp .nil))) (.kb rfl (.cells (rc (.slice rfl) rn)) (.ks (.kb rfl (.cells (rc ((zi.osliceE rfl rfl)) rn)) (.lost (.ks .nil)))))))
  try dsimp only at b
  obtain⟨o,n,b⟩:=bnd b
  obtain rfl:=si b
  exact vH.sub (vH.rq fol [3] [] (.loop .busy none (ofG 37 [(4,.ptr 1 0),(6,.ptr 3 0)]) ql.xp ql.x1 ql.x2::(kA f (.cells [.oslice 6 o.length 1]::(kAo a (kG o []))))) (ac (hs (.run [4,5] (yo ZT [22,22] (.oslice 4 k.length 1) (.slice 5 0 1 1 1)) (.loop .busy none (ofG 37 [(4,.ptr 1 0),(6,.ptr 3 0)]) ql.xp ql.x1 ql.x2::(kA f (.cells [.oslice 4 k.length 1]::(kG k [.cells [.i a]])))) (.oslice 6 o.length 1) (.loop .busy none (ofG 37 [(4,.ptr 1 0),(6,.ptr 3 0)]) ql.xp ql.x1 ql.x2::(kA f (.cells [.oslice 4 k.length 1]::(kAo a (kG o []))))) true) (qbb vK (E:=encI) rfl (qd5 (E:=encI) (ys:=[a]) rfl rfl rfl rfl) (dst_o (E:=encI) (l:=k) rfl rfl rfl n rfl))) az)) (Sub.norm [] [some 0,some 1,some 2,some 3,some 4,some 6] (by rw[hB];rfl) rfl .nil (.kb rfl (.loop rfl (.kp (.kp .nil))) (.kb rfl (.cells (rc (.slice rfl) rn)) (.ks (.kb rfl (.cells (rc (.oslice rfl) rn)) (.lost (.ks .nil)))))))
 intro _ hsub
 simp only[ZI,ZP]at h
 obtain⟨rfl,rfl⟩:=h
 exact⟨_,hsub,⟨_,_,rfl,(Sub.keep [0] rfl rfl)⟩⟩
def ku (a:Int) (b:List Int):Nat->(List Bool)->(Option (List Int))->Int->Option ((List Bool)×(List Int))
 |0,_,_,_=>none
 |K+1,g,h,e=>
  (jS g h e).bind fun(f,c)=>
  (idx b e).bind fun d=>
  if d=a then
  some (f,c)
  else
  ku a b K f (some c) d
def jI (N:Nat) (b:List Bool) (a:Int) (c:List Int):Option ((List Bool)×(List Int)):=
 (ku a c N b (none:Option (List Int)) a).bind fun d=>
 some d
theorem qbm (N:Nat) (j:List Bool) (a:Int) (d:List Int) {v:List Bool} {r:List Int} (h:jI N j a d=some (v,r)):qc ZT (.fn 144) [.yld 0,.ptr 4 0,.ptr 5 0] (.loop .ready none (ofG 37 [(4,.ptr 1 0),(6,.ptr 3 0)]) ql.xp ql.x1 ql.x2::(kA j (kAZ (kR a d [])))) (.tuple []) (.loop .ready none (ofG 37 [(4,.ptr 1 0),(6,.ptr 3 0)]) ql.xp ql.x1 ql.x2::(kA v (.cells [.oslice 6 r.length 1]::(kR a d (kG r []))))):=by
 unfold jI at h
 refine Goes.fnH Tryz.func144 rfl rfl (m:=16) rfl (rs:=[]) rfl (l:=[(0,.yld 0),(1,.ptr 4 0),(2,.ptr 5 0)]) rfl ?_
 intro B hB
 refine Goes.subQ ?_
 refine sh fol ((0,.yld 0)::(kAM a [])) ?_
 refine Goes.block ?_
 obtain⟨w,g6,h⟩:=bnd h
 refine Goes.imp (Q:=fun x s'=>(x= .ret/\ ∃q,q=w/\qbr ZT [] (.tuple []) (.loop .ready none (ofG 37 [(4,.ptr 1 0),(6,.ptr 3 0)]) ql.xp ql.x1 ql.x2::(kA q.1 (.cells [.oslice 6 q.2.length 1]::(kR a d (kG q.2 []))))) .ret s')) ?_ ?_
 ·refine Goes.sub (s':=(ofG 16 ((0,.yld 0)::(kAM a [])),(.loop .ready none (ofG 37 [(4,.ptr 1 0),(6,.ptr 3 0)]) ql.xp ql.x1 ql.x2::(kA j (.cells [hsl 6 1 (none:Option (List Int))]::(kR a d [.cells ((hof (none:Option (List Int))).flatMap encI.c)])))))) (Sub.norm [] [some 0,some 1,some 2,some 3,some 4,some 5,none] (by rw[hB];rfl) rfl (.keep (.yld rfl) (.kp (.kp (.keep (.same nI) .nil)))) (.kb rfl (.loop rfl (.kp (.kp .nil))) (.kb rfl (.cells (rc (.slice rfl) rn)) (.ks (.kb rfl (.cells (rc .hs0 rn)) (.kb rfl (.same sn) (.kb rfl (.same sn) (.fresh .nil)))))))) ?_
  refine Uc (fun M s=> ∃(o:List Bool) (k:Option (List Int)) (n:Int),s=(ofG 16 ((0,.yld 0)::(kAM n [])),(.loop .ready none (ofG 37 [(4,.ptr 1 0),(6,.ptr 3 0)]) ql.xp ql.x1 ql.x2::(kA o (.cells [hsl 6 1 k]::(kR a d [.cells ((hof k).flatMap encI.c)])))))/\ku a d M o k n=some w) ?_ (m:=N) ⟨_,_,_,rfl,g6⟩
  rintro M s ⟨o,k,n,rfl,g6⟩
  cases M with
  |zero=>simp only[ku]at g6;cases g6
  |succ M=>
   rw[ku]at g6
   refine sq ?_
   obtain⟨⟨t,e⟩,p,g6⟩:=bnd g6
   try dsimp only at g6
   refine sq (gq fol [2] ((0,.yld 0)::(kAM n [(8,.bool true)])) (.loop .ready none (ofG 37 [(4,.ptr 1 0),(6,.ptr 3 0)]) ql.xp ql.x1 ql.x2::(kA t (kAn e (kR a d (.dead::(kG e [])))))) (ac (hs (.callH (.rd 0) [.i n] (.loop .ready none (ofG 37 [(4,.ptr 1 0),(6,.ptr 3 0)]) ql.xp ql.x1 ql.x2::(kA o (.cells [hsl 6 1 k]::(kR a d [.cells ((hof k).flatMap encI.c)])))) [0,1,2,3,6] (.bool true) (.loop .ready none (ofG 37 [(4,.ptr 1 0),(6,.ptr 3 0)]) ql.xp ql.x1 ql.x2::(kA t (kAn e (kR a d (.dead::(kG e []))))))) (qmm [some 0,some 1,some 2,some 3,some 6] [some 0,some 1,some 2,some 3,none,none,none,some 5] (qb5 o k n p) rfl (.kb rfl (.loop rfl (.kp (.kp .nil))) (.kb rfl (.cells (rc (.slice rfl) rn)) (.ks (.kb rfl (.cells (rc (.hs rfl) rn)) (.ks .nil))))) rfl rfl (.back rfl rfl (.loop rfl (.kp (.kp .nil))) rfl (.back rfl rfl (.cells (rc (.slice rfl) rn)) rfl (.back rfl rfl (.same fa) rfl (.back rfl rfl (.cells (rc (.oslice rfl) rn)) rfl (.old rfl rfl (.old rfl rfl (.dead (.new rfl rfl (.same fa) rfl .nil)))))))) (rc (.same nI) rn) (.same nB) rfl)) az) ?_)
   refine Goes.ifB (b:=true) (by kernel_rfl) (fun _=>?_) (fun c=>(by cases c))
   refine Goes.skip ?_
   refine Goes.block ?_
   obtain⟨g,f,g6⟩:=bnd g6
   refine sq (gr fol [2,3] ((0,.yld 0)::(kAM g [])) (ac (iv vK encI f) (ac (lv 0 ce3 encI f rfl) az)) ?_)
   refine sh fol ((0,.yld 0)::(kAM g [(15,.bool (decide (g=a)))])) ?_
   refine ihD g6 (fun u g6=>?_) (fun u g6=>?_)
   ·refine Goes.ret ?_
    obtain rfl:=si g6
    exact⟨rfl,_,rfl,(gh2 [] (Sub.norm [] [some 0,some 1,some 2,some 3,some 4,some 5,some 7] (by rw[hB];rfl) rfl (.keep (.same (qw.tuple sn)) .nil) (.kb rfl (.loop rfl (.kp (.kp .nil))) (.kb rfl (.cells (rc (.slice rfl) rn)) (.ks (.kb rfl (.cells (rc (.oslice rfl) rn)) (.kb rfl (.same sn) (.kb rfl (.same sn) (.ks .nil)))))))))⟩
   refine Goes.skip ?_
   exact⟨M,(ofG 16 ((0,.yld 0)::(kAM g [])),(.loop .ready none (ofG 37 [(4,.ptr 1 0),(6,.ptr 3 0)]) ql.xp ql.x1 ql.x2::(kA t (.cells [hsl 6 1 (some e)]::(kR a d [.cells ((hof (some e)).flatMap encI.c)]))))),Nat.lt_succ_self _,(Sub.norm [] [some 0,some 1,some 2,some 3,some 4,some 5,some 7] (by rw[hB];rfl) rfl (.keep (.yld rfl) (.kp (.kp (.keep (.same nI) .nil)))) (.kb rfl (.loop rfl (.kp (.kp .nil))) (.kb rfl (.cells (rc (.slice rfl) rn)) (.ks (.kb rfl (.cells (rc ((zi.hs1 rfl)) rn)) (.kb rfl (.same sn) (.kb rfl (.same sn) (.ks .nil)))))))),_,_,_,rfl,g6⟩
 rintro x s' ⟨rfl,y,rfl,hret⟩
 obtain rfl:=si h
 exact⟨_,Sub.refl _,hret⟩
def zq (N:Nat) (a:List Int):Nat->(List (List Int))->(List Bool)->Int->Option (List (List Int))
 |0,_,_,_=>none
 |K+1,c,d,b=>
  if b<(a.length:Int)then
  (((idx d b).bind fun e=>
  if e=true then
  some (c,d)
  else
  (yG a b).bind fun _=>
  (jI N d b a).bind fun(f,g)=>
  (app 24 c [g]).bind fun h=>
  some (h,f):Option ((List (List Int))×(List Bool)))).bind fun(j,i)=>
  zq N a K j i (w64 (b+1))
  else
  some c
def zF (N:Nat) (a:List Int):Option (List (List Int)):=
 (mk 1 (a.length:Int) false).bind fun b=>
 (zq N a N ([]:List (List Int)) b 0).bind fun c=>
 some c
theorem yu (N:Nat) (a:List Int) {A:List (List Int)} (h:zF N a=some A):qc ZT (.fn 40) [vl encI a] [] (.gslice 0 A.length 1) [.cells (A.flatMap (qF encI).c)]:=by
 unfold zF at h
 refine Goes.fnHr Tryz.func40 rfl rfl (m:=37) rfl (rs:=[.tmp 2]) rfl (l:=(kN a [])) rfl ?_
 intro B hB hR
 refine sh fol (kN a []) ?_
 refine sh fol (kN a [(3,.nilslice)]) ?_
 obtain⟨o,w,h⟩:=bnd h
 refine sq (gq fol [2] (kN a [(3,.nilslice),(4,.ptr 1 0)]) (kP o [.cells [.slice 0 0 o.length o.length 1]]) (ac (hs (.run [] (zC ZT 45 (.i (a.length:Int)) (.i (a.length:Int))) [] (.slice 0 0 o.length o.length 1) (kP o []) false) (qaz qge (E:=qcT) (z:=false) rfl (by kernel_rfl) w rfl)) az) ?_)
 refine sq ?_
 refine sh fol (kN a [(3,.nilslice),(4,.ptr 1 0),(12,.i (a.length:Int)),(13,.i 0)]) ?_
 refine Goes.block ?_
 obtain⟨F,g7,h⟩:=bnd h
 refine Goes.imp (Q:=fun x s'=>(x= .exit 0/\ ∃u,u=F/\Sub s' (ofG 37 [(3,.gslice 0 u.length 1)],[.cells (u.flatMap (qF encI).c)]))) ?_ ?_
 ·refine Goes.sub (s':=(ofG 37 (kN a [(3,.gslice 0 ([]:List (List Int)).length 1),(4,.ptr 1 0),(12,.i (a.length:Int)),(13,.i 0)]),(.cells (([]:List (List Int)).flatMap (qF encI).c)::(kA o [])))) (Sub.norm [] [none,some 1,some 0] (by rw[hB];rfl) rfl (.keep (.same (qf encI _)) (.keep .nil (.kp (.keep (.same nI) (.keep (.same nI) .nil))))) (.fresh (.kb rfl (.cells (rc (.slice rfl) rn)) (.ks .nil)))) ?_
  refine Uc (fun M s=> ∃(e:List (List Int)) (g:List Bool) (b:Int),s=(ofG 37 (kN a (kT e (kAf (a.length:Int) b []))),(.cells (e.flatMap (qF encI).c)::(kA g [])))/\zq N a M e g b=some F) ?_ (m:=N) ⟨_,_,_,rfl,g7⟩
  rintro M s ⟨e,g,b,rfl,g7⟩
  cases M with
  |zero=>simp only[zq]at g7;cases g7
  |succ M=>
   rw[zq]at g7
   refine sh fol (kN a (kT e (kAf (a.length:Int) b [(14,.bool (decide (b<(a.length:Int))))]))) ?_
   refine sq ?_
   refine ihD g7 (fun G g7=>?_) (fun G g7=>?_)
   ·refine Goes.skip ?_
    refine sq ?_
    obtain⟨C,g11,g7⟩:=bnd g7
    refine Goes.imp (Q:=fun x s'=>(x= .normal/\ ∃p k,(p,k)=C/\Sub s' (ofG 37 (kN a (kT p (kAf (a.length:Int) b []))),(.cells (p.flatMap (qF encI).c)::(kA k []))))) ?_ ?_
    ·refine Goes.block ?_
     refine sh fol (kN a (kT e ((5,.i b)::(kAf (a.length:Int) b [])))) ?_
     refine sq ?_
     obtain⟨y,j,g11⟩:=bnd g11
     refine sq (gr fol [2,3] (kN a (kT e ((5,.i b)::(kAf (a.length:Int) b [(19,.bool y)])))) (ac (hs (.done (.opt (qd ZT 45 (.slice 2 0 g.length g.length 1) (.i b))) (.ptr 2 ((b:Int).toNat*1+0))) (vQ qge j)) (ac (hs (.run [2] (zJ ZT 4 (.ptr 2 ((b:Int).toNat*1+0))) (.cells (e.flatMap (qF encI).c)::(kA g [])) (.bool y) (.cells (e.flatMap (qF encI).c)::(kA g [])) false) (qax ce4 (E:=qcT) (l:=g) rfl rfl j (nl rfl) rfl)) az)) ?_)
     refine ihB g11 (fun D g11=>?_) (fun D g11=>?_)
     ·refine Goes.exit ?_
      obtain rfl:=si g11
      exact⟨rfl,_,_,rfl,(Sub.keep [0,3,4,12,13] rfl rfl)⟩
     refine Goes.skip ?_
     refine sg fol (kN a (kT e ((5,.i b)::(6,.ptr 3 0)::(kAf (a.length:Int) b [])))) (.cells (e.flatMap (qF encI).c)::(kA g (kAZ []))) ?_
     refine sq ?_
     obtain⟨_,q,g11⟩:=bnd g11
     refine sq (gq fol [2] (kN a (kT e ((6,.ptr 3 0)::(kAf (a.length:Int) b [(22,.func (.func 144) [] [.ptr 4 0,.ptr 5 0])])))) (.cells (e.flatMap (qF encI).c)::(kA g (kAZ (kR b a [])))) (ac (hs (.callH 91 [vl encI a,.i b] (.cells (e.flatMap (qF encI).c)::(kA g (kAZ []))) [] (.func (.func 144) [] [.ptr 4 0,.ptr 5 0]) (.cells (e.flatMap (qF encI).c)::(kA g (kAZ (kR b a []))))) (qak [] [none,none,none,none,some 0,some 1] (qcq a b q) .nil rfl rfl (.old rfl rfl (.old rfl rfl (.old rfl rfl (.old rfl rfl (.new rfl rfl (.cells (rc (.same nI) rn)) rfl (.new rfl rfl (.cells (rc (.same (qf encI _)) rn)) rfl .nil)))))) (rc (.same (qf encI _)) (rc (.same nI) rn)) (.funcL (sn) (rc (.ptr rfl) (rc (.ptr rfl) rn))) rfl)) az) ?_)
     refine Goes.block ?_
     obtain⟨⟨f,d⟩,r,g11⟩:=bnd g11
     try dsimp only at g11
     refine Goes.range fol hR (gf:=144) (first:=[]) (captured:=[.ptr 4 0,.ptr 5 0]) (v:= .tuple []) (A2:=(.cells (e.flatMap (qF encI).c)::(kA f (kAn d (kR b a (.loop .ready none (ofG 37 [(4,.ptr 1 0),(6,.ptr 3 0)]) ql.xp ql.x1 ql.x2::(kG d []))))))) (s':=(ofG 37 (kN a (kT e ((6,.ptr 3 0)::(kAf (a.length:Int) b [(22,.func (.func 144) [] [.ptr 4 0,.ptr 5 0])])))),(.cells (e.flatMap (qF encI).c)::(kA f (kAn d (kR b a (.loop .exhausted none (ofG 37 [(4,.ptr 1 0),(6,.ptr 3 0)]) ql.xp ql.x1 ql.x2::(kG d [])))))))) (x:= .normal) (by kernel_rfl) (by kernel_rfl) (qj0 (show(Obl.callH 144 [.yld 6,.ptr 4 0,.ptr 5 0] (.cells (e.flatMap (qF encI).c)::(kA g (kAZ (kR b a [.loop .ready none (ofG 37 [(0,vl encI a),(3,.gslice 0 e.length 1),(4,.ptr 1 0),(6,.ptr 3 0),(12,.i (a.length:Int)),(13,.i b),(22,.func (.func 144) [] [.ptr 4 0,.ptr 5 0])]) ql.xp ql.x1 ql.x2])))) [6,1,2,3,4,5] (.tuple []) (.cells (e.flatMap (qF encI).c)::(kA f (kAn d (kR b a (.loop .ready none (ofG 37 [(4,.ptr 1 0),(6,.ptr 3 0)]) ql.xp ql.x1 ql.x2::(kG d []))))))).Holds ZT from qak [some 6,some 1,some 2,some 3,some 4,some 5] [none,some 1,some 2,some 3,some 4,some 5,some 0,some 6] (qbm N g b a r) (.kb rfl (.loop rfl (.drop (.drop (.kp (.kp (.drop (.drop (.drop .nil)))))))) (.kb rfl (.cells (rc (.slice rfl) rn)) (.ks (.kb rfl (.cells (rc (.same (qw.nilslice)) rn)) (.kb rfl (.cells (rc (.same nI) rn)) (.kb rfl (.cells (rc (.same (qf encI _)) rn)) .nil)))))) rfl rfl (.old rfl rfl (.back rfl rfl (.cells (rc (.slice rfl) rn)) rfl (.back rfl rfl (.same fa) rfl (.back rfl rfl (.cells (rc (.oslice rfl) rn)) rfl (.back rfl rfl (.cells (rc (.same nI) rn)) rfl (.back rfl rfl (.cells (rc (.same (qf encI _)) rn)) rfl (.back rfl rfl (.loop rfl (.kp (.kp .nil))) rfl (.new rfl rfl (.same fa) rfl .nil)))))))) (rc (.yld rfl) (rc (.ptr rfl) (rc (.ptr rfl) rn))) (.same (qw.tuple sn)) rfl)) (by kernel_rfl) ?_
     refine Goes.sub (show Sub (ofG 37 (kN a (kT e ((6,.ptr 3 0)::(kAf (a.length:Int) b [(22,.func (.func 144) [] [.ptr 4 0,.ptr 5 0])])))),(.cells (e.flatMap (qF encI).c)::(kA f (kAn d (kR b a (.loop .exhausted none (ofG 37 [(4,.ptr 1 0),(6,.ptr 3 0)]) ql.xp ql.x1 ql.x2::(kG d []))))))) (ofG 37 (kN a (kT e ((6,.ptr 3 0)::(kAf (a.length:Int) b [(22,.func (.func 144) [] [.ptr 5 0,.ptr 6 0])])))),(.cells (e.flatMap (qF encI).c)::(kA f (.cells [.oslice 4 d.length 1]::(kG d (kR b a []))))))from(Sub.norm [] [some 0,some 1,some 2,some 3,some 7,some 4,some 5] (by rw[hB];rfl) rfl (.keep (.same (qf encI _)) (.keep (.gslice rfl) (.kp (.kp (.keep (.same nI) (.keep (.same nI) (.keep (.funcL (sn) (rc (.ptr rfl) (rc (.ptr rfl) rn))) .nil))))))) (.ks (.kb rfl (.cells (rc (.slice rfl) rn)) (.ks (.kb rfl (.cells (rc (.oslice rfl) rn)) (.ks (.kb rfl (.same sn) (.kb rfl (.same sn) .nil))))))))) ?_
     refine Goes.sub (s':=(ofG 37 (kN a (kT e ((6,.ptr 3 0)::(kAf (a.length:Int) b [(22,.func (.func 144) [] [.ptr 4 0,.ptr 5 0])])))),(.cells (e.flatMap (qF encI).c)::(kA f (.cells [vl encI d]::(kR b a [])))))) (Sub.norm [4] [some 0,some 1,some 2,some 3,some 5,some 6] (by rw[hB];rfl) rfl (.keep (.same (qf encI _)) (.keep (.gslice rfl) (.kp (.kp (.keep (.same nI) (.keep (.same nI) (.keep (.funcL (sn) (rc (.ptr rfl) (rc (.ptr rfl) rn))) .nil))))))) (.ks (.kb rfl (.cells (rc (.slice rfl) rn)) (.ks (.kb rfl (.cells (rc (.frz (Fz.os (E:=encI) rfl rfl (nl rfl)) (qf encI _)) rn)) (.kb rfl (.same sn) (.kb rfl (.same sn) .nil))))))) ?_
     obtain⟨n,t,g11⟩:=bnd g11
     refine gq fol [3] (kN a ((3,.gslice 7 n.length 1)::(4,.ptr 1 0)::(kAf (a.length:Int) b []))) (.dead::(kA f (.cells [vl encI d]::(kR b a [.cells [vl encI d],.cells (n.flatMap (qF encI).c)])))) (ac (hs (.run [0,6] (yo ZT [24,24] (.gslice 0 e.length 1) (.slice 6 0 1 1 1)) (.cells (e.flatMap (qF encI).c)::(kA f (.cells [vl encI d]::(kR b a [.cells [vl encI d]])))) (.gslice 7 n.length 1) (.dead::(kA f (.cells [vl encI d]::(kR b a [.cells [vl encI d],.cells (n.flatMap (qF encI).c)])))) true) (qbb sl24 (E:=(qF encI)) rfl (qd5 (E:=(qF encI)) (ys:=[d]) rfl rfl rfl rfl) (qfg (E:=(qF encI)) (l:=e) rfl rfl rfl t rfl))) az) ?_
     obtain rfl:=si g11
     exact⟨rfl,_,_,rfl,(Sub.norm [] [some 7,some 1,some 2] (by rw[hB];rfl) rfl (.keep (.same (qf encI _)) (.keep (.gslice rfl) (.kp (.keep (.same nI) (.keep (.same nI) .nil))))) (.ks (.kb rfl (.cells (rc (.slice rfl) rn)) (.ks .nil))))⟩
    rintro x s' ⟨rfl,p,k,rfl,hsub⟩
    try dsimp only at g7
    refine Goes.sub hsub ?_
    refine gh fol (kN a (kT p (kAf (a.length:Int) (w64 (b+1)) []))) ?_
    exact⟨M,(ofG 37 (kN a (kT p (kAf (a.length:Int) (w64 (b+1)) []))),(.cells (p.flatMap (qF encI).c)::(kA k []))),Nat.lt_succ_self _,(Sub.refl _),_,_,_,rfl,g7⟩
   refine Goes.exit ?_
   obtain rfl:=si g7
   exact⟨rfl,_,rfl,(Sub.norm [] [some 0] (by rw[hB];rfl) rfl (.drop (.keep (.gslice rfl) .nil)) (.ks .nil))⟩
 rintro x s' ⟨rfl,u,rfl,hsub⟩
 refine Goes.sub hsub ?_
 refine sh fol [(2,.gslice 0 u.length 1)] ?_
 refine Goes.ret ?_
 obtain rfl:=si h
 exact(gh2 [.gslice 0 u.length 1] (qb8.refl _ _))
def yC (N:Nat) (p:List Int):Option ((List (List Int))×Int):=
 (qM N p).bind fun a=>
 if(!decide (a=0))=true then
 some ([],a)
 else
 (zF N p).bind fun b=>
 some (b,0)
theorem qdi (N:Nat) (p:List Int) {res:(List (List Int))×Int} (h:yC N p=some res):qc ZT (.fn 6) [vl encI p] [] (.tuple [vl (qF encI) res.1,.i res.2]) []:=by
 unfold yC at h
 refine Ub Tryz.func6 rfl rfl (m:=12) rfl (rs:=[.tmp 2,.tmp 3]) rfl (l:=(kN p [])) rfl ?_
 refine sh fol (kN p []) ?_
 refine sq ?_
 obtain⟨a,b,h⟩:=bnd h
 refine sq (gr fol [1] (kN p [(4,.i a)]) (ac (cv (zQ N p b)) az) ?_)
 refine sh fol (kN p [(4,.i a),(8,.bool (!decide (a=0)))]) ?_
 refine ihB h (fun f h=>?_) (fun f h=>?_)
 ·refine sh fol [(2,.nilslice),(3,.i a)] ?_
  refine Goes.ret ?_
  obtain rfl:=si h
  exact(gw2 [.nilslice,.i a] (FzW.tuple (qg.cons (FzW.nilv (E:=(qF encI))) (qg.cons (Ua tI) qg.nil))))
 refine Goes.skip ?_
 obtain⟨d,e,h⟩:=bnd h
 refine sq (gq fol [1] [(2,.gslice 0 d.length 1),(3,.i 0)] [.cells (d.flatMap (qF encI).c)] (ac (hs (.callH 40 [vl encI p] [] [] (.gslice 0 d.length 1) [.cells (d.flatMap (qF encI).c)]) (qak [] [some 0] (yu N p e) .nil rfl rfl (.new rfl rfl (.same fa) rfl .nil) (rc (.same (qf encI _)) rn) (.gslice rfl) rfl)) az) ?_)
 refine Goes.ret ?_
 obtain rfl:=si h
 exact(gw2 [.gslice 0 d.length 1,.i 0] (FzW.tuple (qg.cons (FzW.fz (Fz.gs (E:=(qF encI)) rfl rfl (nl rfl))) (qg.cons (Ua tI) qg.nil))))
def qcp (n:Int):Option qm:=
 some (⟨n,[]⟩:qm)
theorem qc7 (n:Int) {res:qm} (h:qcp n=some res):qc ZT (.fn 55) [.i n] [] (.agg (nz1 res)) []:=by
 unfold qcp at h
 refine Ub Tryz.func55 rfl rfl (m:=5) rfl (rs:=[.cell 2 77]) rfl (l:=[(0,.i n)]) rfl ?_
 refine sg fol (kAm n []) [bZ] ?_
 refine sg fol [(2,.ptr 0 0)] (kAb n) ?_
 refine Goes.ret ?_
 obtain rfl:=si h
 exact(gw2 [.agg [.i n,.nilslice]] (FzW.agg (qg.cons (Ua tI) (qg.cons (FzW.nv0 (E:=(qa .u64))) qg.nil))))
def xZ (n:qm):Option qP:=
 (qcp 1).bind fun a=>
 some (⟨n,a⟩:qP)
theorem qcP (n:qm) {res:qP} (h:xZ n=some res):qc ZT (.fn 42) [.agg (nz1 n)] [] (.agg (nq1 res)) []:=by
 unfold xZ at h
 refine Ub Tryz.func42 rfl rfl (m:=6) rfl (rs:=[.cell 2 79]) rfl (l:=[(0,.agg (nz1 n))]) rfl ?_
 refine sg fol (kAK kAj) (.cells (nz1 n)::(kJ [])) ?_
 obtain⟨a,b,h⟩:=bnd h
 refine sq (gq fol [1,3] kAj [.cells (nz1 n),.cells (ni2 n.s n.w a.s a.w)] (ac (cv (qc7 1 b)) (ac (hs (.run [1] (qp ZT 79 (.ptr 1 0) (.agg (ni2 n.s n.w a.s a.w))) (.cells (nz1 n)::(kJ [])) .undef [.cells (nz1 n),.cells (ni2 n.s n.w a.s a.w)] true) (zK (n:=4) (by kernel_rfl) rfl rfl rfl rfl (cac rfl (cac nvc (cac rfl (cac nvc can)))) rfl)) az)) ?_)
 refine Goes.ret ?_
 obtain rfl:=si h
 exact(gw2 [.agg (ni2 n.s n.w a.s a.w)] (FzW.agg (qg.cons (Ua tI) (qg.cons (Ua (qE (qa .u64) _ (nl rfl))) (qg.cons (Ua tI) (qg.cons (Ua (qE (qa .u64) _ (nl rfl))) qg.nil))))))
def qe9 (n:Int):Option qP:=
 (qcp n).bind fun a=>
 (xZ a).bind fun b=>
 some b
theorem qf8 (n:Int) {res:qP} (h:qe9 n=some res):qc ZT (.fn 41) [.i n] [] (.agg (nq1 res)) []:=by
 unfold qe9 at h
 refine Ub Tryz.func41 rfl rfl (m:=6) rfl (rs:=[.cell 2 79]) rfl (l:=[(0,.i n)]) rfl ?_
 refine sg fol (kAm n []) (kJ []) ?_
 obtain⟨d,a,h⟩:=bnd h
 obtain⟨c,b,h⟩:=bnd h
 refine sq (gq fol [1,2,3] [(2,.ptr 0 0)] [.cells (nq1 c)] (ac (cv (qc7 n a)) (ac (cv (qcP d b)) (ac (hs (.run [0] (qp ZT 79 (.ptr 0 0) (.agg (nq1 c))) (kJ []) .undef [.cells (nq1 c)] true) (zK (n:=4) (by kernel_rfl) rfl rfl rfl rfl (cac rfl (cac nvc (cac rfl (cac nvc can)))) rfl)) az))) ?_)
 refine Goes.ret ?_
 obtain rfl:=si h
 exact(gw2 [.agg (nq1 c)] (FzW.agg (qg.cons (Ua tI) (qg.cons (Ua (qE (qa .u64) _ (nl rfl))) (qg.cons (Ua tI) (qg.cons (Ua (qE (qa .u64) _ (nl rfl))) qg.nil))))))
def zl (a:qm):Option Int:=
 some (if(if a.s<1 then a.s else 1)>(-1)then(if a.s<1 then a.s else 1)else(-1))
theorem yE (a:qm) {res:Int} (h:zl a=some res):qc ZT (.fn 106) [.agg (nz1 a)] [] (.i res) []:=by
 unfold zl at h
 refine Ub Tryz.func106 rfl rfl (m:=7) rfl (rs:=[.tmp 2]) rfl (l:=[(0,.agg (nz1 a))]) rfl ?_
 refine sg fol (kAK []) [.cells (nz1 a)] ?_
 refine sh fol [(2,.i (if(if a.s<1 then a.s else 1)>(-1)then(if a.s<1 then a.s else 1)else(-1)))] ?_
 refine Goes.ret ?_
 obtain rfl:=si h
 exact(gw2 [.i (if(if a.s<1 then a.s else 1)>(-1)then(if a.s<1 then a.s else 1)else(-1))] (Ua tI))
def qad (n:Int):Option Int:=
 if n<0 then
 some (IntKind.wrap .u64 (w64 (0-n)))
 else
 some (IntKind.wrap .u64 n)
theorem qbA (n:Int) {res:Int} (h:qad n=some res):qc ZT (.fn 146) [.i n] [] (.int .u64 res) []:=by
 unfold qad at h
 refine Ub Tryz.func146 rfl rfl (m:=10) rfl (rs:=[.tmp 2]) rfl (l:=[(0,.i n)]) rfl ?_
 refine sh fol [(0,.i n)] ?_
 refine sq ?_
 refine sh fol [(0,.i n),(4,.bool (decide (n<0)))] ?_
 refine ihD h (fun a h=>?_) (fun a h=>?_)
 ·refine sh fol [(2,.int .u64 (IntKind.wrap .u64 (w64 (0-n))))] ?_
  refine Goes.ret ?_
  obtain rfl:=si h
  exact(gw2 [.int .u64 (IntKind.wrap .u64 (w64 (0-n)))] (Ua tI))
 refine Goes.skip ?_
 refine sh fol [(2,.int .u64 (IntKind.wrap .u64 n))] ?_
 refine Goes.ret ?_
 obtain rfl:=si h
 exact(gw2 [.int .u64 (IntKind.wrap .u64 n)] (Ua tI))
def qx (a:qm):Option (Bool×(List Int)):=
 if(!a.w.isEmpty)=true then
 some (decide (a.s<0),a.w)
 else
 if a.s=0 then
 some (false,[])
 else
 (qad a.s).bind fun b=>
 some (decide (a.s<0),[b])
theorem zk (a:qm) {res:Bool×(List Int)} (h:qx a=some res):qc ZT (.fn 120) [.agg (nz1 a)] [] (.tuple [.bool res.1,vl (qa .u64) res.2]) []:=by
 unfold qx at h
 refine Ub Tryz.func120 rfl rfl (m:=24) rfl (rs:=[.tmp 2,.tmp 3]) rfl (l:=[(0,.agg (nz1 a))]) rfl ?_
 refine sg fol (kAK []) [.cells (nz1 a)] ?_
 refine sq (Goes.block ?_)
 refine sq (gr fol [2] (kAK [(4,.bool (!a.w.isEmpty))]) (ac (hs (.done (.opt (zn ZT .neq 75 (.tmp 6) (.const (.slice none 0 0)) (nvl (qa .u64) a.w) .nilslice)) (.bool (!a.w.isEmpty))) (ne_nv yP)) az) ?_)
 refine ihB h (fun c h=>?_) (fun c h=>?_)
 ·refine sh fol [(2,.bool (decide (a.s<0))),(3,nvl (qa .u64) a.w)] ?_
  refine Goes.ret ?_
  obtain rfl:=si h
  exact(gw2 [.bool (decide (a.s<0)),nvl (qa .u64) a.w] (FzW.tuple (qg.cons (Ua tB) (qg.cons (FzW.nvL (E:=(qa .u64)) (nl rfl)) qg.nil))))
 refine sh fol (kAK [(13,.bool (decide (a.s=0)))]) ?_
 refine ihD h (fun d h=>?_) (fun d h=>?_)
 ·refine sh fol [(2,.bool false),(3,.nilslice)] ?_
  refine Goes.ret ?_
  obtain rfl:=si h
  exact(gw2 [.bool false,.nilslice] (FzW.tuple (qg.cons (Ua tB) (qg.cons (FzW.nilv (E:=(qa .u64))) qg.nil))))
 refine Goes.skip ?_
 obtain⟨e,b,h⟩:=bnd h
 refine sq (gq fol [5] [(2,.bool (decide (a.s<0))),(3,.slice 1 0 1 1 1)] [.cells (nz1 a),.cells [.int .u64 e]] (ac (cv (qbA a.s b)) az) ?_)
 refine Goes.ret ?_
 obtain rfl:=si h
 exact(gw2 [.bool (decide (a.s<0)),.slice 1 0 1 1 1] (FzW.tuple (qg.cons (Ua tB) (qg.cons (FzW.fz (Fz.lit rfl rfl (FzL.still (AllST.cons tI AllST.nil)))) qg.nil))))
def ji (neg:Bool) (w:List Int):Option qm:=
 if(w.length:Int)=0 then
 some (⟨0,[]⟩:qm)
 else
 (if(w.length:Int)=1 then
 (idx w 0).bind fun d=>
 if d<=9223372036854775807 then
 some neg
 else
 some false
 else
 some false:Option Bool).bind fun e=>
 if e=true then
 (idx w 0).bind fun f=>
 some (⟨w64 (0-(w64 f)),[]⟩:qm)
 else
 (if(w.length:Int)=1 then
 (idx w 0).bind fun a=>
 some (decide (a<=9223372036854775807))
 else
 some false:Option Bool).bind fun b=>
 if b=true then
 (idx w 0).bind fun c=>
 some (⟨w64 c,[]⟩:qm)
 else
 if neg=true then
 some (⟨(-1),w⟩:qm)
 else
 some (⟨1,w⟩:qm)
theorem yf (neg:Bool) (w:List Int) {res:qm} (h:ji neg w=some res):qc ZT (.fn 121) [.bool neg,vl (qa .u64) w] [] (.agg (nz1 res)) []:=by
 unfold ji at h
 refine Ub Tryz.func121 rfl rfl (m:=50) rfl (rs:=[.cell 4 77]) rfl (l:=[(0,.bool neg),(1,vl (qa .u64) w)]) rfl ?_
 refine sg fol ((0,.bool neg)::(1,vl (qa .u64) w)::(kAR [])) [bZ] ?_
 refine sq (Goes.block ?_)
 refine sh fol ((0,.bool neg)::(1,vl (qa .u64) w)::(kAR [(5,.bool (decide ((w.length:Int)=0)))])) ?_
 refine ihD h (fun t h=>?_) (fun t h=>?_)
 ·refine sh fol (kAR []) ?_
  refine Goes.ret ?_
  obtain rfl:=si h
  exact(gw2 [.agg [.i 0,.nilslice]] (FzW.agg (qg.cons (Ua tI) (qg.cons (FzW.nv0 (E:=(qa .u64))) qg.nil))))
 refine sq ?_
 obtain⟨u,a,h⟩:=bnd h
 refine Goes.cut (s':=(ofG 50 ((0,.bool neg)::(1,vl (qa .u64) w)::(kAR [(10,.bool u)])),[bZ])) ?_ ?_
 ·rcases wyD a with⟨j,a⟩|⟨j,a⟩
  ·obtain⟨x,c,a⟩:=bnd a
   rcases wyD a with⟨k,a⟩|⟨k,a⟩
   ·obtain rfl:=si a
    exact tr fol [3,5,6,9] ((0,.bool neg)::(1,vl (qa .u64) w)::(kAR [(10,.bool neg)])) (ac (gw j) (ac (iv zt (qa .u64) c) (ac (lv 0 zx (qa .u64) c rfl) (ac (gw k) az))))
   obtain rfl:=si a
   exact tr fol [3,5,6,9] ((0,.bool neg)::(1,vl (qa .u64) w)::(kAR [(10,.bool false)])) (ac (gw j) (ac (iv zt (qa .u64) c) (ac (lv 0 zx (qa .u64) c rfl) (ac (gw k) az))))
  obtain rfl:=si a
  exact tr fol [3] ((0,.bool neg)::(1,vl (qa .u64) w)::(kAR [(10,.bool false)])) (ac (gw j) az)
 refine ihB h (fun v h=>?_) (fun v h=>?_)
 ·obtain⟨s,f,h⟩:=bnd h
  refine sq (gq fol [1,2] (kAR []) (kAb (w64 (0-(w64 s)))) (ac (iv zt (qa .u64) f) (ac (lv 0 zx (qa .u64) f rfl) az)) ?_)
  refine Goes.ret ?_
  obtain rfl:=si h
  exact(gw2 [.agg [.i (w64 (0-(w64 s))),.nilslice]] (FzW.agg (qg.cons (Ua tI) (qg.cons (FzW.nv0 (E:=(qa .u64))) qg.nil))))
 refine sq ?_
 obtain⟨n,b,h⟩:=bnd h
 refine Goes.cut (s':=(ofG 50 ((0,.bool neg)::(1,vl (qa .u64) w)::(kAR [(29,.bool n)])),[bZ])) ?_ ?_
 ·rcases wyD b with⟨o,b⟩|⟨o,b⟩
  ·obtain⟨p,d,b⟩:=bnd b
   obtain rfl:=si b
   exact tr fol [3,5,6] ((0,.bool neg)::(1,vl (qa .u64) w)::(kAR [(29,.bool (decide (p<=9223372036854775807)))])) (ac (gw o) (ac (iv zt (qa .u64) d) (ac (lv 0 zx (qa .u64) d rfl) az)))
  obtain rfl:=si b
  exact tr fol [3] ((0,.bool neg)::(1,vl (qa .u64) w)::(kAR [(29,.bool false)])) (ac (gw o) az)
 refine ihB h (fun q h=>?_) (fun q h=>?_)
 ·obtain⟨g,e,h⟩:=bnd h
  refine sq (gq fol [1,2] (kAR []) (kAb (w64 g)) (ac (iv zt (qa .u64) e) (ac (lv 0 zx (qa .u64) e rfl) az)) ?_)
  refine Goes.ret ?_
  obtain rfl:=si h
  exact(gw2 [.agg [.i (w64 g),.nilslice]] (FzW.agg (qg.cons (Ua tI) (qg.cons (FzW.nv0 (E:=(qa .u64))) qg.nil))))
 refine sh fol ((1,vl (qa .u64) w)::(kAR [(44,.bool neg)])) ?_
 refine ihB h (fun r h=>?_) (fun r h=>?_)
 ·refine sg fol (kAR []) [.cells [.i (-1),vl (qa .u64) w]] ?_
  refine Goes.ret ?_
  obtain rfl:=si h
  exact(gw2 [.agg [.i (-1),vl (qa .u64) w]] (FzW.agg (qg.cons (Ua tI) (qg.cons (FzW.Lnv (E:=(qa .u64)) (by first|omega|(simp only[decide_eq_false_iff_not,decide_eq_true_eq]at*;omega)) (nl rfl)) qg.nil))))
 refine Goes.skip ?_
 refine sg fol (kAR []) [.cells [.i 1,vl (qa .u64) w]] ?_
 refine Goes.ret ?_
 obtain rfl:=si h
 exact(gw2 [.agg [.i 1,vl (qa .u64) w]] (FzW.agg (qg.cons (Ua tI) (qg.cons (FzW.Lnv (E:=(qa .u64)) (by first|omega|(simp only[decide_eq_false_iff_not,decide_eq_true_eq]at*;omega)) (nl rfl)) qg.nil))))
def zU (a:qm):Option qm:=
 (if a.w.isEmpty=true then
 some (!decide (a.s=(-9223372036854775808)))
 else
 some false:Option Bool).bind fun c=>
 if c=true then
 some (⟨w64 (0-a.s),[]⟩:qm)
 else
 (qx a).bind fun b=>
 (ji (!b.1) b.2).bind fun d=>
 some d
theorem jU (a:qm) {res:qm} (h:zU a=some res):qc ZT (.fn 107) [.agg (nz1 a)] [] (.agg (nz1 res)) []:=by
 unfold zU at h
 refine Ub Tryz.func107 rfl rfl (m:=26) rfl (rs:=[.cell 2 77]) rfl (l:=[(0,.agg (nz1 a))]) rfl ?_
 refine sg fol (kAK kAj) [.cells (nz1 a),bZ] ?_
 refine sq ?_
 refine sq ?_
 obtain⟨j,b,h⟩:=bnd h
 refine Goes.cut (s':=(ofG 26 (kAK [(2,.ptr 1 0),(12,.bool j)]),[.cells (nz1 a),bZ])) ?_ ?_
 ·rcases wyB b with⟨g,b⟩|⟨g,b⟩
  ·obtain rfl:=si b
   exact tr fol [2,3] (kAK [(2,.ptr 1 0),(12,.bool (!decide (a.s=(-9223372036854775808))))]) (ac (hs (.done (.opt (zn ZT .eql 75 (.tmp 6) (.const (.slice none 0 0)) (nvl (qa .u64) a.w) .nilslice)) (.bool a.w.isEmpty)) (y9 yP)) (ac (gw g) az))
  obtain rfl:=si b
  exact tr fol [2,3] (kAK [(2,.ptr 1 0),(12,.bool false)]) (ac (hs (.done (.opt (zn ZT .eql 75 (.tmp 6) (.const (.slice none 0 0)) (nvl (qa .u64) a.w) .nilslice)) (.bool a.w.isEmpty)) (y9 yP)) (ac (gw g) az))
 refine ihB h (fun k h=>?_) (fun k h=>?_)
 ·refine sg fol kAj (.cells (nz1 a)::(kAb (w64 (0-a.s)))) ?_
  refine Goes.ret ?_
  obtain rfl:=si h
  exact(gw2 [.agg [.i (w64 (0-a.s)),.nilslice]] (FzW.agg (qg.cons (Ua tI) (qg.cons (FzW.nv0 (E:=(qa .u64))) qg.nil))))
 refine Goes.skip ?_
 obtain⟨e,c,h⟩:=bnd h
 refine sq (gr fol [1] [(2,.ptr 1 0),(3,.bool e.1),(4,vl (qa .u64) e.2)] (ac (cv (zk a c)) az) ?_)
 obtain⟨f,d,h⟩:=bnd h
 refine sq (gq fol [3,4] kAj [.cells (nz1 a),.cells (nz1 f)] (ac (cv (yf (!e.1) e.2 d)) (ac (hs (.run [1] (qp ZT 77 (.ptr 1 0) (.agg (nz1 f))) [.cells (nz1 a),bZ] .undef [.cells (nz1 a),.cells (nz1 f)] true) (zK (n:=2) (by kernel_rfl) rfl rfl rfl rfl (cac rfl (cac nvc can)) rfl)) az)) ?_)
 refine Goes.ret ?_
 obtain rfl:=si h
 exact(gw2 [.agg (nz1 f)] (FzW.agg (qg.cons (Ua tI) (qg.cons (Ua (qE (qa .u64) _ (nl rfl))) qg.nil))))
def yc (w:List Int):Nat->Int->Option Int
 |0,_=>none
 |K+1,a=>
  (if a>0 then
  (idx w (w64 (a-1))).bind fun b=>
  some (decide (b=0))
  else
  some false:Option Bool).bind fun c=>
  if c=true then
  yc w K (w64 (a-1))
  else
  some a
def jX (N:Nat) (w:List Int):Option (List Int):=
 (yc w N (w.length:Int)).bind fun a=>
 (cut w 0 a).bind fun b=>
 some b
theorem ve (N:Nat) (w:List Int) {res:List Int} (h:jX N w=some res):qc ZT (.fn 167) [vl (qa .u64) w] [] (vl (qa .u64) res) []:=by
 unfold jX at h
 refine Ub Tryz.func167 rfl rfl (m:=21) rfl (rs:=[.tmp 2]) rfl (l:=[(0,vl (qa .u64) w)]) rfl ?_
 refine sh fol [(0,vl (qa .u64) w)] ?_
 refine sh fol [(0,vl (qa .u64) w),(3,.i (w.length:Int))] ?_
 refine sq (Goes.block ?_)
 obtain⟨j,g3,h⟩:=bnd h
 refine Goes.imp (Q:=fun x s'=>(x= .exit 0/\ ∃d,d=j/\Sub s' (ofG 21 [(0,vl (qa .u64) w),(3,.i d)],[]))) ?_ ?_
 ·refine Uc (fun M s=> ∃(b:Int),s=(ofG 21 [(0,vl (qa .u64) w),(3,.i b)],[])/\yc w M b=some j) ?_ (m:=N) ⟨_,rfl,g3⟩
  rintro M s ⟨b,rfl,g3⟩
  cases M with
  |zero=>simp only[yc]at g3;cases g3
  |succ M=>
   rw[yc]at g3
   refine sq ?_
   refine sq ?_
   obtain⟨k,a,g3⟩:=bnd g3
   refine Goes.cut (s':=(ofG 21 [(0,vl (qa .u64) w),(3,.i b),(15,.bool k)],[])) ?_ ?_
   ·rcases wyD a with⟨f,a⟩|⟨f,a⟩
    ·obtain⟨n,c,a⟩:=bnd a
     obtain rfl:=si a
     exact tr fol [2,6,7] [(0,vl (qa .u64) w),(3,.i b),(15,.bool (decide (n=0)))] (ac (gw f) (ac (iv zt (qa .u64) c) (ac (lv 0 zx (qa .u64) c rfl) az)))
    obtain rfl:=si a
    exact tr fol [2] [(0,vl (qa .u64) w),(3,.i b),(15,.bool false)] (ac (gw f) az)
   refine ihB g3 (fun o g3=>?_) (fun o g3=>?_)
   ·refine Goes.skip ?_
    refine Goes.block ?_
    refine gh fol [(0,vl (qa .u64) w),(3,.i (w64 (b-1)))] ?_
    exact⟨M,(ofG 21 [(0,vl (qa .u64) w),(3,.i (w64 (b-1)))],[]),Nat.lt_succ_self _,(Sub.refl _),_,rfl,g3⟩
   refine Goes.exit ?_
   obtain rfl:=si g3
   exact⟨rfl,_,rfl,(Sub.keep [0,3] rfl rfl)⟩
 rintro x s' ⟨rfl,d,rfl,hsub⟩
 refine Goes.sub hsub ?_
 obtain⟨g,e,h⟩:=bnd h
 refine sq (gr fol [2] [(2,vl (qa .u64) g)] (ac (hs (.done (.opt (yx ZT 75 (vl (qa .u64) w) none (some (.i d)) none)) (vl (qa .u64) g)) (qk3 zt (E:=(qa .u64)) rfl none (some d) e)) az) ?_)
 refine Goes.ret ?_
 obtain rfl:=si h
 exact(gw2 [vl (qa .u64) g] (Ua (qZ (qa .u64) _ (nl rfl))))
def zA (c:List Int) (d:List Int):Nat->(List Int)->Int->Int->Option ((List Int)×Int)
 |0,_,_,_=>none
 |K+1,e,a,j=>
  if a<(c.length:Int)then
  ((if a<(d.length:Int)then
  (idx d a).bind fun f=>
  some f
  else
  some 0:Option Int)).bind fun g=>
  (idx c a).bind fun h=>
  (vP h g j).bind fun b=>
  (idx e a).bind fun k=>
  (put e a b.1).bind fun i=>
  zA c d K i (w64 (a+1)) b.2
  else
  some (e,j)
def yh (N:Nat) (b:List Int) (y:List Int):Option (List Int):=
 ((if(b.length:Int)<(y.length:Int)then
 some (y,b)
 else
 some (b,y):Option ((List Int)×(List Int)))).bind fun(a,g)=>
 (mk 8 (w64 ((a.length:Int)+1)) 0).bind fun h=>
 (zA a g N h 0 0).bind fun(f,c)=>
 (idx f (a.length:Int)).bind fun i=>
 (put f (a.length:Int) c).bind fun d=>
 (jX N d).bind fun e=>
 some e
theorem qdx (N:Nat) (B:List Int) (y:List Int) {res:List Int} (h:yh N B y=some res):qc ZT (.fn 122) [vl (qa .u64) B,vl (qa .u64) y] [] (vl (qa .u64) res) []:=by
 unfold yh at h
 refine Ub Tryz.func122 rfl rfl (m:=54) rfl (rs:=[.tmp 4]) rfl (l:=[(0,vl (qa .u64) B),(1,vl (qa .u64) y)]) rfl ?_
 refine sh fol [(0,vl (qa .u64) B),(1,vl (qa .u64) y)] ?_
 refine sq ?_
 refine sh fol [(0,vl (qa .u64) B),(1,vl (qa .u64) y),(13,.bool (decide ((B.length:Int)<(y.length:Int))))] ?_
 obtain⟨P,g3,h⟩:=bnd h
 refine Goes.imp (Q:=fun x s'=>(x= .normal/\ ∃a e,(a,e)=P/\Sub s' (ofG 54 [(0,vl (qa .u64) a),(1,vl (qa .u64) e)],[]))) ?_ ?_
 ·refine ihD g3 (fun U g3=>?_) (fun U g3=>?_)
  ·refine gh fol [(0,vl (qa .u64) y),(1,vl (qa .u64) B)] ?_
   obtain rfl:=si g3
   exact⟨rfl,_,_,rfl,(Sub.refl _)⟩
  refine Goes.skip ?_
  obtain rfl:=si g3
  exact⟨rfl,_,_,rfl,(Sub.keep [0,1] rfl rfl)⟩
 rintro x s' ⟨rfl,a,e,rfl,hsub⟩
 try dsimp only at h
 refine Goes.sub hsub ?_
 obtain⟨C,G,h⟩:=bnd h
 refine sq (gq fol [3] ((0,vl (qa .u64) a)::(1,vl (qa .u64) e)::(kB C [])) [.cells (C.flatMap (qa .u64).c)] (ac (hs (.run [] (zC ZT 75 (.i (w64 ((a.length:Int)+1))) (.i (w64 ((a.length:Int)+1)))) [] (.slice 0 0 C.length C.length 1) [.cells (C.flatMap (qa .u64).c)] false) (qaz zt (E:=(qa .u64)) (z:=0) rfl (by kernel_rfl) G rfl)) az) ?_)
 refine sh fol ((0,vl (qa .u64) a)::(1,vl (qa .u64) e)::(kB C [(6,.int .u64 0)])) ?_
 refine sq ?_
 refine sh fol ((0,vl (qa .u64) a)::(1,vl (qa .u64) e)::(kB C [(6,.int .u64 0),(21,.i (a.length:Int)),(22,.i 0)])) ?_
 refine Goes.block ?_
 obtain⟨H,g11,h⟩:=bnd h
 refine Goes.imp (Q:=fun x s'=>(x= .exit 0/\ ∃v k,(v,k)=H/\Sub s' (ofG 54 ((0,vl (qa .u64) a)::(kB v (kY k []))),[.cells (v.flatMap (qa .u64).c)]))) ?_ ?_
 ·refine Uc (fun M s=> ∃(f:List Int) (d:Int) (w:Int),s=(ofG 54 ((0,vl (qa .u64) a)::(1,vl (qa .u64) e)::(kB f (kY w (kU (a.length:Int) d [])))),[.cells (f.flatMap (qa .u64).c)])/\zA a e M f d w=some H) ?_ (m:=N) ⟨_,_,_,rfl,g11⟩
  rintro M s ⟨f,d,w,rfl,g11⟩
  cases M with
  |zero=>simp only[zA]at g11;cases g11
  |succ M=>
   rw[zA]at g11
   refine sh fol ((0,vl (qa .u64) a)::(1,vl (qa .u64) e)::(kB f (kY w (kU (a.length:Int) d [(23,.bool (decide (d<(a.length:Int))))])))) ?_
   refine sq ?_
   refine ihD g11 (fun I g11=>?_) (fun I g11=>?_)
   ·refine Goes.skip ?_
    refine sq (Goes.block ?_)
    refine sh fol ((0,vl (qa .u64) a)::(1,vl (qa .u64) e)::(kB f (kY w ((7,.i d)::(kU (a.length:Int) d []))))) ?_
    refine sh fol ((0,vl (qa .u64) a)::(1,vl (qa .u64) e)::(kB f (kY w ((7,.i d)::(kAs (kU (a.length:Int) d [])))))) ?_
    refine sq ?_
    refine sh fol ((0,vl (qa .u64) a)::(1,vl (qa .u64) e)::(kB f (kY w ((7,.i d)::(kAs (kU (a.length:Int) d [(28,.bool (decide (d<(e.length:Int))))])))))) ?_
    obtain⟨J,g14,g11⟩:=bnd g11
    refine Goes.imp (Q:=fun x s'=>(x= .normal/\ ∃A,A=J/\Sub s' (ofG 54 ((0,vl (qa .u64) a)::(1,vl (qa .u64) e)::(kB f (kY w ((7,.i d)::(8,.int .u64 A)::(kU (a.length:Int) d []))))),[.cells (f.flatMap (qa .u64).c)]))) ?_ ?_
    ·refine ihD g14 (fun K g14=>?_) (fun K g14=>?_)
     ·obtain⟨L,n,g14⟩:=bnd g14
      refine gr fol [2,3] ((0,vl (qa .u64) a)::(1,vl (qa .u64) e)::(kB f (kY w ((7,.i d)::(8,.int .u64 L)::(kU (a.length:Int) d []))))) (ac (iv zt (qa .u64) n) (ac (lv 0 zx (qa .u64) n rfl) az)) ?_
      obtain rfl:=si g14
      exact⟨rfl,_,rfl,(Sub.refl _)⟩
     refine Goes.skip ?_
     obtain rfl:=si g14
     exact⟨rfl,_,rfl,(Sub.keep [0,1,5,6,7,8,21,22] rfl rfl)⟩
    rintro x s' ⟨rfl,A,rfl,hsub⟩
    refine Goes.sub hsub ?_
    obtain⟨O,o,g11⟩:=bnd g11
    obtain⟨j,D,g11⟩:=bnd g11
    obtain⟨V,p,g11⟩:=bnd g11
    obtain⟨g,q,g11⟩:=bnd g11
    refine gq fol [4,5,8,12,13] ((0,vl (qa .u64) a)::(1,vl (qa .u64) e)::(kB f (kY j.2 (kU (a.length:Int) d [])))) [.cells (g.flatMap (qa .u64).c)] (ac (iv zt (qa .u64) o) (ac (lv 0 zx (qa .u64) o rfl) (ac (cv (qai O A w D)) (ac (hs (.done (.opt (qd ZT 75 (.slice 0 0 f.length f.length 1) (.i d))) (.ptr 0 ((d:Int).toNat*1+0))) (vQ zt p)) (ac (hs (.run [0] (qp ZT 182 (.ptr 0 ((d:Int).toNat*1+0)) (.int .u64 j.1)) [.cells (f.flatMap (qa .u64).c)] .undef [.cells (g.flatMap (qa .u64).c)] true) (yY (E:=(qa .u64)) (l:=f) (y:=j.1) rfl (show _=some 1 by kernel_rfl) rfl p rfl rfl rfl rfl rfl q rfl)) az))))) ?_
    refine Goes.sub (show Sub (ofG 54 ((0,vl (qa .u64) a)::(1,vl (qa .u64) e)::(kB f (kY j.2 (kU (a.length:Int) d [])))),[.cells (g.flatMap (qa .u64).c)]) (ofG 54 ((0,vl (qa .u64) a)::(1,vl (qa .u64) e)::(kB g (kY j.2 (kU (a.length:Int) d [])))),[.cells (g.flatMap (qa .u64).c)])from(Sub.norm [] [some 0] rfl rfl (.keep (.same (qf (qa .u64) _)) (.keep (.same (qf (qa .u64) _)) (.keep (.sliceE rfl (vG q)) (.keep (.same nI) (.keep (.same nI) (.keep (.same nI) .nil)))))) (.ks .nil))) ?_
    refine gh fol ((0,vl (qa .u64) a)::(1,vl (qa .u64) e)::(kB g (kY j.2 (kU (a.length:Int) (w64 (d+1)) [])))) ?_
    exact⟨M,(ofG 54 ((0,vl (qa .u64) a)::(1,vl (qa .u64) e)::(kB g (kY j.2 (kU (a.length:Int) (w64 (d+1)) [])))),[.cells (g.flatMap (qa .u64).c)]),Nat.lt_succ_self _,(Sub.refl _),_,_,_,rfl,g11⟩
   refine Goes.exit ?_
   obtain rfl:=si g11
   exact⟨rfl,_,_,rfl,(Sub.keep [0,5,6] rfl rfl)⟩
 rintro x s' ⟨rfl,v,k,rfl,hsub⟩
 try dsimp only at h
 refine Goes.sub hsub ?_
 obtain⟨X,r,h⟩:=bnd h
 obtain⟨b,t,h⟩:=bnd h
 refine sq (gq fol [4,5] (kB v []) [.cells (b.flatMap (qa .u64).c)] (ac (hs (.done (.opt (qd ZT 75 (.slice 0 0 v.length v.length 1) (.i (a.length:Int)))) (.ptr 0 (((a.length:Int):Int).toNat*1+0))) (vQ zt r)) (ac (hs (.run [0] (qp ZT 182 (.ptr 0 (((a.length:Int):Int).toNat*1+0)) (.int .u64 k)) [.cells (v.flatMap (qa .u64).c)] .undef [.cells (b.flatMap (qa .u64).c)] true) (yY (E:=(qa .u64)) (l:=v) (y:=k) rfl (show _=some 1 by kernel_rfl) rfl r rfl rfl rfl rfl rfl t rfl)) az)) ?_)
 refine Goes.sub (show Sub (ofG 54 (kB v []),[.cells (b.flatMap (qa .u64).c)]) (ofG 54 (kB b []),[.cells (b.flatMap (qa .u64).c)])from(Sub.norm [] [some 0] rfl rfl (.keep (.sliceE rfl (vG t)) .nil) (.ks .nil))) ?_
 obtain⟨u,F,h⟩:=bnd h
 refine sq (gq fol [1] [(4,vl (qa .u64) u)] [.frozen (b.flatMap (qa .u64).c)] (ac (hs (.callF 167 [.slice 0 0 b.length b.length 1] [.cells (b.flatMap (qa .u64).c)] [0] [vl (qa .u64) b] (vl (qa .u64) u)) (qbO (FzL.cons (Fz.sl (E:=(qa .u64)) rfl rfl (nl rfl)) FzL.nil) (ve N b F) (qZ (qa .u64) _ (nl rfl)))) az) ?_)
 refine Goes.sub (show Sub (ofG 54 [(4,vl (qa .u64) u)],[.frozen (b.flatMap (qa .u64).c)]) (ofG 54 [(4,vl (qa .u64) u)],[])from(Sub.norm [] [] rfl rfl (.keep (.same (qf (qa .u64) _)) .nil) .nil)) ?_
 refine Goes.ret ?_
 obtain rfl:=si h
 exact(gw2 [vl (qa .u64) u] (Ua (qZ (qa .u64) _ (nl rfl))))
def ko (a:List Int) (b:List Int):Nat->Int->Option (Unit⊕Int)
 |0,_=>none
 |K+1,c=>
  if c>=0 then
  (idx a c).bind fun d=>
  (idx b c).bind fun e=>
  if(!decide (d=e))=true then
  if d<e then
  some (.inr (-1))
  else
  some (.inr 1)
  else
  ko a b K (w64 (c-1))
  else
  some (.inl ())
def zX (N:Nat) (a:List Int) (b:List Int):Option Int:=
 if(!decide ((a.length:Int)=(b.length:Int)))=true then
 if(a.length:Int)<(b.length:Int)then
 some (-1)
 else
 some 1
 else
 (ko a b N (w64 ((a.length:Int)-1))).bind (fun
 |(.inl ())=>
 some 0
 |(.inr c)=>
 some c)
theorem xN (N:Nat) (a:List Int) (b:List Int) {res:Int} (h:zX N a b=some res):qc ZT (.fn 123) [vl (qa .u64) a,vl (qa .u64) b] [] (.i res) []:=by
 unfold zX at h
 refine Ub Tryz.func123 rfl rfl (m:=41) rfl (rs:=[.tmp 4]) rfl (l:=[(0,vl (qa .u64) a),(1,vl (qa .u64) b)]) rfl ?_
 refine sh fol [(0,vl (qa .u64) a),(1,vl (qa .u64) b)] ?_
 refine sq ?_
 refine sh fol [(0,vl (qa .u64) a),(1,vl (qa .u64) b),(10,.bool (!decide ((a.length:Int)=(b.length:Int))))] ?_
 refine ihB h (fun o h=>?_) (fun o h=>?_)
 ·refine sq ?_
  refine sh fol [(15,.bool (decide ((a.length:Int)<(b.length:Int))))] ?_
  refine ihD h (fun p h=>?_) (fun p h=>?_)
  ·refine sh fol [(4,.i (-1))] ?_
   refine Goes.ret ?_
   obtain rfl:=si h
   exact(gw2 [.i (-1)] (Ua tI))
  refine Goes.skip ?_
  refine sh fol [(4,.i 1)] ?_
  refine Goes.ret ?_
  obtain rfl:=si h
  exact(gw2 [.i 1] (Ua tI))
 refine Goes.skip ?_
 refine sq ?_
 refine sh fol [(0,vl (qa .u64) a),(1,vl (qa .u64) b),(5,.i (w64 ((a.length:Int)-1)))] ?_
 refine Goes.block ?_
 obtain⟨f,g4,h⟩:=bnd h
 refine Goes.imp (Q:=fun x s'=>(x= .exit 0/\(.inl ())=f/\Sub s' (ofG 41 [],[]))\/(x= .ret/\ ∃j,(.inr j)=f/\jF ZT [.tmp 4] (.i j) .ret s')) ?_ ?_
 ·refine Uc (fun M s=> ∃(e:Int),s=(ofG 41 [(0,vl (qa .u64) a),(1,vl (qa .u64) b),(5,.i e)],[])/\ko a b M e=some f) ?_ (m:=N) ⟨_,rfl,g4⟩
  rintro M s ⟨e,rfl,g4⟩
  cases M with
  |zero=>simp only[ko]at g4;cases g4
  |succ M=>
   rw[ko]at g4
   refine sq ?_
   refine sh fol [(0,vl (qa .u64) a),(1,vl (qa .u64) b),(5,.i e),(20,.bool (decide (e>=0)))] ?_
   refine ihD g4 (fun q g4=>?_) (fun q g4=>?_)
   ·refine Goes.skip ?_
    refine sq (Goes.block ?_)
    obtain⟨k,c,g4⟩:=bnd g4
    obtain⟨n,d,g4⟩:=bnd g4
    refine sq (gr fol [2,3,6,7] [(0,vl (qa .u64) a),(1,vl (qa .u64) b),(5,.i e),(31,.bool (!decide (k=n)))] (ac (iv zt (qa .u64) c) (ac (lv 0 zx (qa .u64) c rfl) (ac (iv zt (qa .u64) d) (ac (lv 0 zx (qa .u64) d rfl) az)))) ?_)
    refine ihB g4 (fun r g4=>?_) (fun r g4=>?_)
    ·refine sq ?_
     refine sq (gr fol [2,3,6,7] [(40,.bool (decide (k<n)))] (ac (iv zt (qa .u64) c) (ac (lv 0 zx (qa .u64) c rfl) (ac (iv zt (qa .u64) d) (ac (lv 0 zx (qa .u64) d rfl) az)))) ?_)
     refine ihD g4 (fun g g4=>?_) (fun g g4=>?_)
     ·refine sh fol [(4,.i (-1))] ?_
      refine Goes.ret ?_
      obtain rfl:=si g4
      exact Or.inr (⟨rfl,_,rfl,(gw2 [.i (-1)] (Ua tI))⟩)
     refine Goes.skip ?_
     refine sh fol [(4,.i 1)] ?_
     refine Goes.ret ?_
     obtain rfl:=si g4
     exact Or.inr (⟨rfl,_,rfl,(gw2 [.i 1] (Ua tI))⟩)
    refine Goes.skip ?_
    refine gh fol [(0,vl (qa .u64) a),(1,vl (qa .u64) b),(5,.i (w64 (e-1)))] ?_
    exact⟨M,(ofG 41 [(0,vl (qa .u64) a),(1,vl (qa .u64) b),(5,.i (w64 (e-1)))],[]),Nat.lt_succ_self _,(Sub.refl _),_,rfl,g4⟩
   refine Goes.exit ?_
   obtain rfl:=si g4
   exact Or.inl (⟨rfl,rfl,(Sub.keep [] rfl rfl)⟩)
 rintro x s' (⟨rfl,rfl,hsub⟩|⟨rfl,t,rfl,hret⟩)
 ·try dsimp only at h
  refine Goes.sub hsub ?_
  refine sh fol [(4,.i 0)] ?_
  refine Goes.ret ?_
  obtain rfl:=si h
  exact(gw2 [.i 0] (Ua tI))
 try dsimp only at h
 obtain rfl:=si h
 exact hret
def zV (c:List Int) (y:List Int):Nat->(List Int)->Int->Int->Option (List Int)
 |0,_,_,_=>none
 |K+1,d,a,h=>
  if a<(c.length:Int)then
  ((if a<(y.length:Int)then
  (idx y a).bind fun e=>
  some e
  else
  some 0:Option Int)).bind fun i=>
  (idx c a).bind fun f=>
  (qbL f i h).bind fun b=>
  (idx d a).bind fun j=>
  (put d a b.1).bind fun g=>
  zV c y K g (w64 (a+1)) b.2
  else
  some d
def jM (N:Nat) (b:List Int) (y:List Int):Option (List Int):=
 (mk 8 (b.length:Int) 0).bind fun c=>
 (zV b y N c 0 0).bind fun d=>
 (jX N d).bind fun a=>
 some a
theorem qbj (N:Nat) (a:List Int) (y:List Int) {res:List Int} (h:jM N a y=some res):qc ZT (.fn 124) [vl (qa .u64) a,vl (qa .u64) y] [] (vl (qa .u64) res) []:=by
 unfold jM at h
 refine Ub Tryz.func124 rfl rfl (m:=41) rfl (rs:=[.tmp 4]) rfl (l:=[(0,vl (qa .u64) a),(1,vl (qa .u64) y)]) rfl ?_
 refine sh fol [(0,vl (qa .u64) a),(1,vl (qa .u64) y)] ?_
 obtain⟨r,v,h⟩:=bnd h
 refine sq (gq fol [2] ((0,vl (qa .u64) a)::(1,vl (qa .u64) y)::(kB r [])) [.cells (r.flatMap (qa .u64).c)] (ac (hs (.run [] (zC ZT 75 (.i (a.length:Int)) (.i (a.length:Int))) [] (.slice 0 0 r.length r.length 1) [.cells (r.flatMap (qa .u64).c)] false) (qaz zt (E:=(qa .u64)) (z:=0) rfl (by kernel_rfl) v rfl)) az) ?_)
 refine sh fol ((0,vl (qa .u64) a)::(1,vl (qa .u64) y)::(kB r [(6,.int .u64 0)])) ?_
 refine sq ?_
 refine sh fol ((0,vl (qa .u64) a)::(1,vl (qa .u64) y)::(kB r [(6,.int .u64 0),(13,.i (a.length:Int)),(14,.i 0)])) ?_
 refine Goes.block ?_
 obtain⟨D,g6,h⟩:=bnd h
 refine Goes.imp (Q:=fun x s'=>(x= .exit 0/\ ∃g,g=D/\Sub s' (ofG 41 (kB g []),[.cells (g.flatMap (qa .u64).c)]))) ?_ ?_
 ·refine Uc (fun M s=> ∃(d:List Int) (b:Int) (q:Int),s=(ofG 41 ((0,vl (qa .u64) a)::(1,vl (qa .u64) y)::(kB d (kY q (kZ (a.length:Int) b)))),[.cells (d.flatMap (qa .u64).c)])/\zV a y M d b q=some D) ?_ (m:=N) ⟨_,_,_,rfl,g6⟩
  rintro M s ⟨d,b,q,rfl,g6⟩
  cases M with
  |zero=>simp only[zV]at g6;cases g6
  |succ M=>
   rw[zV]at g6
   refine sh fol ((0,vl (qa .u64) a)::(1,vl (qa .u64) y)::(kB d (kY q [(13,.i (a.length:Int)),(14,.i b),(15,.bool (decide (b<(a.length:Int))))]))) ?_
   refine sq ?_
   refine ihD g6 (fun F g6=>?_) (fun F g6=>?_)
   ·refine Goes.skip ?_
    refine sq (Goes.block ?_)
    refine sh fol ((0,vl (qa .u64) a)::(1,vl (qa .u64) y)::(kB d (kY q ((7,.i b)::(kZ (a.length:Int) b))))) ?_
    refine sh fol ((0,vl (qa .u64) a)::(1,vl (qa .u64) y)::(kB d (kY q ((7,.i b)::(kAs (kZ (a.length:Int) b)))))) ?_
    refine sq ?_
    refine sh fol ((0,vl (qa .u64) a)::(1,vl (qa .u64) y)::(kB d (kY q ((7,.i b)::(kAs [(13,.i (a.length:Int)),(14,.i b),(20,.bool (decide (b<(y.length:Int))))]))))) ?_
    obtain⟨G,g9,g6⟩:=bnd g6
    refine Goes.imp (Q:=fun x s'=>(x= .normal/\ ∃w,w=G/\Sub s' (ofG 41 ((0,vl (qa .u64) a)::(1,vl (qa .u64) y)::(kB d (kY q ((7,.i b)::(8,.int .u64 w)::(kZ (a.length:Int) b))))),[.cells (d.flatMap (qa .u64).c)]))) ?_ ?_
    ·refine ihD g9 (fun A g9=>?_) (fun A g9=>?_)
     ·obtain⟨B,j,g9⟩:=bnd g9
      refine gr fol [2,3] ((0,vl (qa .u64) a)::(1,vl (qa .u64) y)::(kB d (kY q ((7,.i b)::(8,.int .u64 B)::(kZ (a.length:Int) b))))) (ac (iv zt (qa .u64) j) (ac (lv 0 zx (qa .u64) j rfl) az)) ?_
      obtain rfl:=si g9
      exact⟨rfl,_,rfl,(Sub.refl _)⟩
     refine Goes.skip ?_
     obtain rfl:=si g9
     exact⟨rfl,_,rfl,(Sub.keep [0,1,5,6,7,8,13,14] rfl rfl)⟩
    rintro x s' ⟨rfl,w,rfl,hsub⟩
    refine Goes.sub hsub ?_
    obtain⟨C,k,g6⟩:=bnd g6
    obtain⟨f,t,g6⟩:=bnd g6
    obtain⟨H,n,g6⟩:=bnd g6
    obtain⟨e,o,g6⟩:=bnd g6
    refine gq fol [4,5,8,12,13] ((0,vl (qa .u64) a)::(1,vl (qa .u64) y)::(kB d (kY f.2 (kZ (a.length:Int) b)))) [.cells (e.flatMap (qa .u64).c)] (ac (iv zt (qa .u64) k) (ac (lv 0 zx (qa .u64) k rfl) (ac (cv (qet C w q t)) (ac (hs (.done (.opt (qd ZT 75 (.slice 0 0 d.length d.length 1) (.i b))) (.ptr 0 ((b:Int).toNat*1+0))) (vQ zt n)) (ac (hs (.run [0] (qp ZT 182 (.ptr 0 ((b:Int).toNat*1+0)) (.int .u64 f.1)) [.cells (d.flatMap (qa .u64).c)] .undef [.cells (e.flatMap (qa .u64).c)] true) (yY (E:=(qa .u64)) (l:=d) (y:=f.1) rfl (show _=some 1 by kernel_rfl) rfl n rfl rfl rfl rfl rfl o rfl)) az))))) ?_
    refine Goes.sub (show Sub (ofG 41 ((0,vl (qa .u64) a)::(1,vl (qa .u64) y)::(kB d (kY f.2 (kZ (a.length:Int) b)))),[.cells (e.flatMap (qa .u64).c)]) (ofG 41 ((0,vl (qa .u64) a)::(1,vl (qa .u64) y)::(kB e (kY f.2 (kZ (a.length:Int) b)))),[.cells (e.flatMap (qa .u64).c)])from(Sub.norm [] [some 0] rfl rfl (.keep (.same (qf (qa .u64) _)) (.keep (.same (qf (qa .u64) _)) (.keep (.sliceE rfl (vG o)) (.keep (.same nI) (.keep (.same nI) (.keep (.same nI) .nil)))))) (.ks .nil))) ?_
    refine gh fol ((0,vl (qa .u64) a)::(1,vl (qa .u64) y)::(kB e (kY f.2 (kZ (a.length:Int) (w64 (b+1)))))) ?_
    exact⟨M,(ofG 41 ((0,vl (qa .u64) a)::(1,vl (qa .u64) y)::(kB e (kY f.2 (kZ (a.length:Int) (w64 (b+1)))))),[.cells (e.flatMap (qa .u64).c)]),Nat.lt_succ_self _,(Sub.refl _),_,_,_,rfl,g6⟩
   refine Goes.exit ?_
   obtain rfl:=si g6
   exact⟨rfl,_,rfl,(Sub.keep [5] rfl rfl)⟩
 rintro x s' ⟨rfl,g,rfl,hsub⟩
 refine Goes.sub hsub ?_
 obtain⟨p,u,h⟩:=bnd h
 refine sq (gq fol [1] [(4,vl (qa .u64) p)] [.frozen (g.flatMap (qa .u64).c)] (ac (hs (.callF 167 [.slice 0 0 g.length g.length 1] [.cells (g.flatMap (qa .u64).c)] [0] [vl (qa .u64) g] (vl (qa .u64) p)) (qbO (FzL.cons (Fz.sl (E:=(qa .u64)) rfl rfl (nl rfl)) FzL.nil) (ve N g u) (qZ (qa .u64) _ (nl rfl)))) az) ?_)
 refine Goes.sub (show Sub (ofG 41 [(4,vl (qa .u64) p)],[.frozen (g.flatMap (qa .u64).c)]) (ofG 41 [(4,vl (qa .u64) p)],[])from(Sub.norm [] [] rfl rfl (.keep (.same (qf (qa .u64) _)) .nil) .nil)) ?_
 refine Goes.ret ?_
 obtain rfl:=si h
 exact(gw2 [vl (qa .u64) p] (Ua (qZ (qa .u64) _ (nl rfl))))
def vU (N:Nat) (a:qm) (b:qm):Option qm:=
 (if a.w.isEmpty=true then
 some b.w.isEmpty
 else
 some false:Option Bool).bind fun m=>
 ((if m=true then
 if((decide ((w64 (a.s+b.s))>a.s))==(decide (b.s>0)))=true then
 some (.inr (⟨w64 (a.s+b.s),[]⟩:qm))
 else
 some (.inl ())
 else
 some (.inl ()):Option (Unit⊕qm))).bind (fun
 |(.inl ())=>
 (qx a).bind fun c=>
 (qx b).bind fun d=>
 if(c.1==d.1)=true then
 (yh N c.2 d.2).bind fun e=>
 (ji c.1 e).bind fun f=>
 some f
 else
 (zX N c.2 d.2).bind fun g=>
 if g>=0 then
 (jM N c.2 d.2).bind fun h=>
 (ji c.1 h).bind fun i=>
 some i
 else
 (jM N d.2 c.2).bind fun j=>
 (ji d.1 j).bind fun k=>
 some k
 |(.inr l)=>
 some l)
theorem qbQ (N:Nat) (a:qm) (b:qm) {res:qm} (h:vU N a b=some res):qc ZT (.fn 67) [.agg (nz1 a),.agg (nz1 b)] [] (.agg (nz1 res)) []:=by
 unfold vU at h
 refine Ub Tryz.func67 rfl rfl (m:=67) rfl (rs:=[.cell 4 77]) rfl (l:=[(0,.agg (nz1 a)),(1,.agg (nz1 b))]) rfl ?_
 refine sg fol (kE []) [.cells (nz1 a),.cells (nz1 b),bZ] ?_
 refine sq ?_
 refine sq ?_
 obtain⟨J,c,h⟩:=bnd h
 refine Goes.cut (s':=(ofG 67 (kE [(17,.bool J)]),[.cells (nz1 a),.cells (nz1 b),bZ])) ?_ ?_
 ·rcases wyB c with⟨z,c⟩|⟨z,c⟩
  ·obtain rfl:=si c
   exact tr fol [2,3,6] (kE [(17,.bool b.w.isEmpty)]) (ac (hs (.done (.opt (zn ZT .eql 75 (.tmp 11) (.const (.slice none 0 0)) (nvl (qa .u64) a.w) .nilslice)) (.bool a.w.isEmpty)) (y9 yP)) (ac (gw z) (ac (hs (.done (.opt (zn ZT .eql 75 (.tmp 15) (.const (.slice none 0 0)) (nvl (qa .u64) b.w) .nilslice)) (.bool b.w.isEmpty)) (y9 yP)) az)))
  obtain rfl:=si c
  exact tr fol [2,3] (kE [(17,.bool false)]) (ac (hs (.done (.opt (zn ZT .eql 75 (.tmp 11) (.const (.slice none 0 0)) (nvl (qa .u64) a.w) .nilslice)) (.bool a.w.isEmpty)) (y9 yP)) (ac (gw z) az))
 obtain⟨H,g4,h⟩:=bnd h
 refine Goes.imp (Q:=fun x s'=>(x= .normal/\(.inl ())=H/\Sub s' (ofG 67 (kE []),[.cells (nz1 a),.cells (nz1 b),bZ]))\/(x= .ret/\ ∃I,(.inr I)=H/\jF ZT [.cell 4 77] (.agg (nz1 I)) .ret s')) ?_ ?_
 ·refine ihB g4 (fun K g4=>?_) (fun K g4=>?_)
  ·refine sh fol (kE [(5,.i (w64 (a.s+b.s)))]) ?_
   refine sh fol (kE [(5,.i (w64 (a.s+b.s))),(30,.bool ((decide ((w64 (a.s+b.s))>a.s))==(decide (b.s>0))))]) ?_
   refine ihB g4 (fun L g4=>?_) (fun L g4=>?_)
   ·refine sg fol (kAV []) (.cells (nz1 a):: .cells (nz1 b)::(kAb (w64 (a.s+b.s)))) ?_
    refine Goes.ret ?_
    obtain rfl:=si g4
    exact Or.inr (⟨rfl,_,rfl,(gw2 [.agg [.i (w64 (a.s+b.s)),.nilslice]] (FzW.agg (qg.cons (Ua tI) (qg.cons (FzW.nv0 (E:=(qa .u64))) qg.nil))))⟩)
   refine Goes.skip ?_
   obtain rfl:=si g4
   exact Or.inl (⟨rfl,rfl,(Sub.keep [2,3,4] rfl rfl)⟩)
  refine Goes.skip ?_
  obtain rfl:=si g4
  exact Or.inl (⟨rfl,rfl,(Sub.keep [2,3,4] rfl rfl)⟩)
 rintro x s' (⟨rfl,rfl,hsub⟩|⟨rfl,M,rfl,hret⟩)
 ·try dsimp only at h
  refine Goes.sub hsub ?_
  obtain⟨d,v,h⟩:=bnd h
  refine sq (gr fol [1] ((3,.ptr 1 0)::(kAV [(6,.bool d.1),(7,vl (qa .u64) d.2)])) (ac (cv (zk a v)) az) ?_)
  obtain⟨e,y,h⟩:=bnd h
  refine sq (gr fol [1] (kAV [(6,.bool d.1),(7,vl (qa .u64) d.2),(8,.bool e.1),(9,vl (qa .u64) e.2)]) (ac (cv (zk b y)) az) ?_)
  refine sq (Goes.block ?_)
  refine sh fol (kAV [(6,.bool d.1),(7,vl (qa .u64) d.2),(8,.bool e.1),(9,vl (qa .u64) e.2),(43,.bool (d.1==e.1))]) ?_
  refine ihB h (fun A h=>?_) (fun A h=>?_)
  ·obtain⟨B,k,h⟩:=bnd h
   obtain⟨f,o,h⟩:=bnd h
   refine sq (gq fol [3,4,5] (kAV []) [.cells (nz1 a),.cells (nz1 b),.cells (nz1 f)] (ac (cv (qdx N d.2 e.2 k)) (ac (cv (yf d.1 B o)) (ac (hs (.run [2] (qp ZT 77 (.ptr 2 0) (.agg (nz1 f))) [.cells (nz1 a),.cells (nz1 b),bZ] .undef [.cells (nz1 a),.cells (nz1 b),.cells (nz1 f)] true) (zK (n:=2) (by kernel_rfl) rfl rfl rfl rfl (cac rfl (cac nvc can)) rfl)) az))) ?_)
   refine Goes.ret ?_
   obtain rfl:=si h
   exact(gw2 [.agg (nz1 f)] (FzW.agg (qg.cons (Ua tI) (qg.cons (Ua (qE (qa .u64) _ (nl rfl))) qg.nil))))
  obtain⟨C,p,h⟩:=bnd h
  refine sq (gr fol [2] (kAV [(6,.bool d.1),(7,vl (qa .u64) d.2),(8,.bool e.1),(9,vl (qa .u64) e.2),(52,.bool (decide (C>=0)))]) (ac (cv (xN N d.2 e.2 p)) az) ?_)
  refine ihD h (fun D h=>?_) (fun D h=>?_)
  ·obtain⟨F,q,h⟩:=bnd h
   obtain⟨g,r,h⟩:=bnd h
   refine sq (gq fol [3,4,5] (kAV []) [.cells (nz1 a),.cells (nz1 b),.cells (nz1 g)] (ac (cv (qbj N d.2 e.2 q)) (ac (cv (yf d.1 F r)) (ac (hs (.run [2] (qp ZT 77 (.ptr 2 0) (.agg (nz1 g))) [.cells (nz1 a),.cells (nz1 b),bZ] .undef [.cells (nz1 a),.cells (nz1 b),.cells (nz1 g)] true) (zK (n:=2) (by kernel_rfl) rfl rfl rfl rfl (cac rfl (cac nvc can)) rfl)) az))) ?_)
   refine Goes.ret ?_
   obtain rfl:=si h
   exact(gw2 [.agg (nz1 g)] (FzW.agg (qg.cons (Ua tI) (qg.cons (Ua (qE (qa .u64) _ (nl rfl))) qg.nil))))
  refine Goes.skip ?_
  obtain⟨G,t,h⟩:=bnd h
  obtain⟨j,u,h⟩:=bnd h
  refine sq (gq fol [3,4,5] (kAV []) [.cells (nz1 a),.cells (nz1 b),.cells (nz1 j)] (ac (cv (qbj N e.2 d.2 t)) (ac (cv (yf e.1 G u)) (ac (hs (.run [2] (qp ZT 77 (.ptr 2 0) (.agg (nz1 j))) [.cells (nz1 a),.cells (nz1 b),bZ] .undef [.cells (nz1 a),.cells (nz1 b),.cells (nz1 j)] true) (zK (n:=2) (by kernel_rfl) rfl rfl rfl rfl (cac rfl (cac nvc can)) rfl)) az))) ?_)
  refine Goes.ret ?_
  obtain rfl:=si h
  exact(gw2 [.agg (nz1 j)] (FzW.agg (qg.cons (Ua tI) (qg.cons (Ua (qE (qa .u64) _ (nl rfl))) qg.nil))))
 try dsimp only at h
 obtain rfl:=si h
 exact hret
def yM (N:Nat) (a:qm) (b:qm):Option qm:=
 (zU b).bind fun c=>
 (vU N a c).bind fun d=>
 some d
theorem qd9 (N:Nat) (a:qm) (b:qm) {res:qm} (h:yM N a b=some res):qc ZT (.fn 163) [.agg (nz1 a),.agg (nz1 b)] [] (.agg (nz1 res)) []:=by
 unfold yM at h
 refine Ub Tryz.func163 rfl rfl (m:=9) rfl (rs:=[.cell 4 77]) rfl (l:=[(0,.agg (nz1 a)),(1,.agg (nz1 b))]) rfl ?_
 refine sg fol (kE []) [.cells (nz1 a),.cells (nz1 b),bZ] ?_
 obtain⟨f,c,h⟩:=bnd h
 obtain⟨e,d,h⟩:=bnd h
 refine sq (gq fol [2,3,4] (kAV []) [.cells (nz1 a),.cells (nz1 b),.cells (nz1 e)] (ac (cv (jU b c)) (ac (cv (qbQ N a f d)) (ac (hs (.run [2] (qp ZT 77 (.ptr 2 0) (.agg (nz1 e))) [.cells (nz1 a),.cells (nz1 b),bZ] .undef [.cells (nz1 a),.cells (nz1 b),.cells (nz1 e)] true) (zK (n:=2) (by kernel_rfl) rfl rfl rfl rfl (cac rfl (cac nvc can)) rfl)) az))) ?_)
 refine Goes.ret ?_
 obtain rfl:=si h
 exact(gw2 [.agg (nz1 e)] (FzW.agg (qg.cons (Ua tI) (qg.cons (Ua (qE (qa .u64) _ (nl rfl))) qg.nil))))
def bits_Len64 (a:Int):Option Int:=
 ((if a>=4294967296 then
 some (qh .u64 a 32,32)
 else
 some (a,0):Option (Int×Int))).bind fun(b,f)=>
 ((if b>=65536 then
 some (qh .u64 b 16,w64 (f+16))
 else
 some (b,f):Option (Int×Int))).bind fun(c,g)=>
 ((if c>=256 then
 some (qh .u64 c 8,w64 (g+8))
 else
 some (c,g):Option (Int×Int))).bind fun(h,d)=>
 (idx ([0,1,2,2,3,3,3,3,4,4,4,4,4,4,4,4,5,5,5,5,5,5,5,5,5,5,5,5,5,5,5,5,6,6,6,6,6,6,6,6,6,6,6,6,6,6,6,6,6,6,6,6,6,6,6,6,6,6,6,6,6,6,6,6,7,7,7,7,7,7,7,7,7,7,7,7,7,7,7,7,7,7,7,7,7,7,7,7,7,7,7,7,7,7,7,7,7,7,7,7,7,7,7,7,7,7,7,7,7,7,7,7,7,7,7,7,7,7,7,7,7,7,7,7,7,7,7,7,8,8,8,8,8,8,8,8,8,8,8,8,8,8,8,8,8,8,8,8,8,8,8,8,8,8,8,8,8,8,8,8,8,8,8,8,8,8,8,8,8,8,8,8,8,8,8,8,8,8,8,8,8,8,8,8,8,8,8,8,8,8,8,8,8,8,8,8,8,8,8,8,8,8,8,8,8,8,8,8,8,8,8,8,8,8,8,8,8,8,8,8,8,8,8,8,8,8,8,8,8,8,8,8,8,8,8,8,8,8,8,8,8,8,8,8,8,8,8,8,8,8,8,8,8,8,8,8]:Str) (IntKind.wrap .u8 h)).bind fun e=>
 some (w64 (d+(w64 (e.toNat:Int))))
theorem qci (b:Int) {res:Int} (h:bits_Len64 b=some res):qc ZT (.fn 165) [.int .u64 b] [] (.i res) []:=by
 unfold bits_Len64 at h
 refine Ub Tryz.func165 rfl rfl (m:=25) rfl (rs:=[.tmp 2]) rfl (l:=[(0,.int .u64 b)]) rfl ?_
 refine sh fol [(0,.int .u64 b),(2,.i 0)] ?_
 refine sq ?_
 refine sh fol [(0,.int .u64 b),(2,.i 0),(4,.bool (decide (b>=4294967296)))] ?_
 obtain⟨p,g3,h⟩:=bnd h
 refine Goes.imp (Q:=fun x s'=>(x= .normal/\ ∃c g,(c,g)=p/\Sub s' (ofG 25 (kAh c g []),[]))) ?_ ?_
 ·refine ihD g3 (fun q g3=>?_) (fun q g3=>?_)
  ·refine sh fol [(0,.int .u64 (qh .u64 b 32))] ?_
   refine gh fol [(0,.int .u64 (qh .u64 b 32)),(2,.i 32)] ?_
   obtain rfl:=si g3
   exact⟨rfl,_,_,rfl,(Sub.refl _)⟩
  refine Goes.skip ?_
  obtain rfl:=si g3
  exact⟨rfl,_,_,rfl,(Sub.keep [0,2] rfl rfl)⟩
 rintro x s' ⟨rfl,c,g,rfl,hsub⟩
 try dsimp only at h
 refine Goes.sub hsub ?_
 refine sq ?_
 refine sh fol (kAh c g [(8,.bool (decide (c>=65536)))]) ?_
 obtain⟨r,g7,h⟩:=bnd h
 refine Goes.imp (Q:=fun x s'=>(x= .normal/\ ∃d j,(d,j)=r/\Sub s' (ofG 25 (kAh d j []),[]))) ?_ ?_
 ·refine ihD g7 (fun s g7=>?_) (fun s g7=>?_)
  ·refine sh fol (kAh (qh .u64 c 16) g []) ?_
   refine gh fol (kAh (qh .u64 c 16) (w64 (g+16)) []) ?_
   obtain rfl:=si g7
   exact⟨rfl,_,_,rfl,(Sub.refl _)⟩
  refine Goes.skip ?_
  obtain rfl:=si g7
  exact⟨rfl,_,_,rfl,(Sub.keep [0,2] rfl rfl)⟩
 rintro x s' ⟨rfl,d,j,rfl,hsub⟩
 try dsimp only at h
 refine Goes.sub hsub ?_
 refine sq ?_
 refine sh fol (kAh d j [(14,.bool (decide (d>=256)))]) ?_
 obtain⟨n,g11,h⟩:=bnd h
 refine Goes.imp (Q:=fun x s'=>(x= .normal/\ ∃k a,(k,a)=n/\Sub s' (ofG 25 (kAh k a []),[]))) ?_ ?_
 ·refine ihD g11 (fun o g11=>?_) (fun o g11=>?_)
  ·refine sh fol (kAh (qh .u64 d 8) j []) ?_
   refine gh fol (kAh (qh .u64 d 8) (w64 (j+8)) []) ?_
   obtain rfl:=si g11
   exact⟨rfl,_,_,rfl,(Sub.refl _)⟩
  refine Goes.skip ?_
  obtain rfl:=si g11
  exact⟨rfl,_,_,rfl,(Sub.keep [0,2] rfl rfl)⟩
 rintro x s' ⟨rfl,k,a,rfl,hsub⟩
 try dsimp only at h
 refine Goes.sub hsub ?_
 obtain⟨e,f,h⟩:=bnd h
 refine sq (gr fol [3] [(2,.i (w64 (a+(w64 (e.toNat:Int)))))] (ac (hs (.done (.opt (qcs ZT 9 (.str [0,1,2,2,3,3,3,3,4,4,4,4,4,4,4,4,5,5,5,5,5,5,5,5,5,5,5,5,5,5,5,5,6,6,6,6,6,6,6,6,6,6,6,6,6,6,6,6,6,6,6,6,6,6,6,6,6,6,6,6,6,6,6,6,7,7,7,7,7,7,7,7,7,7,7,7,7,7,7,7,7,7,7,7,7,7,7,7,7,7,7,7,7,7,7,7,7,7,7,7,7,7,7,7,7,7,7,7,7,7,7,7,7,7,7,7,7,7,7,7,7,7,7,7,7,7,7,7,8,8,8,8,8,8,8,8,8,8,8,8,8,8,8,8,8,8,8,8,8,8,8,8,8,8,8,8,8,8,8,8,8,8,8,8,8,8,8,8,8,8,8,8,8,8,8,8,8,8,8,8,8,8,8,8,8,8,8,8,8,8,8,8,8,8,8,8,8,8,8,8,8,8,8,8,8,8,8,8,8,8,8,8,8,8,8,8,8,8,8,8,8,8,8,8,8,8,8,8,8,8,8,8,8,8,8,8,8,8,8,8,8,8,8,8,8,8,8,8,8,8,8,8,8,8,8,8]) (.int .u8 (IntKind.wrap .u8 k)))) (.int .u8 (e.toNat:Int))) (qmi st9 f)) az) ?_)
 refine Goes.ret ?_
 obtain rfl:=si h
 exact(gw2 [.i (w64 (a+(w64 (e.toNat:Int))))] (Ua tI))
def bits_LeadingZeros64 (a:Int):Option Int:=
 (bits_Len64 a).bind fun b=>
 some (w64 (64-b))
theorem yR (a:Int) {res:Int} (h:bits_LeadingZeros64 a=some res):qc ZT (.fn 194) [.int .u64 a] [] (.i res) []:=by
 unfold bits_LeadingZeros64 at h
 refine Ub Tryz.func194 rfl rfl (m:=6) rfl (rs:=[.tmp 2]) rfl (l:=[(0,.int .u64 a)]) rfl ?_
 refine sh fol [(0,.int .u64 a)] ?_
 obtain⟨c,b,h⟩:=bnd h
 refine sq (gr fol [1] [(2,.i (w64 (64-c)))] (ac (cv (qci a b)) az) ?_)
 refine Goes.ret ?_
 obtain rfl:=si h
 exact(gw2 [.i (w64 (64-c))] (Ua tI))
def jQ (d:Int) (c:Int):Nat->Int->Int->Option Int
 |0,_,_=>none
 |K+1,a,b=>
  (if a>=4294967296 then
  some true
  else
  some (decide ((IntKind.wrap .u64 (a*(qo .u64 d 4294967295)))>(IntKind.wrap .u64 ((IntKind.wrap .u64 (4294967296*b))+(qh .u64 c 32))))):Option Bool).bind fun e=>
  if e=true then
  if(IntKind.wrap .u64 (b+(qh .u64 d 32)))>=4294967296 then
  some (IntKind.wrap .u64 (a-1))
  else
  jQ d c K (IntKind.wrap .u64 (a-1)) (IntKind.wrap .u64 (b+(qh .u64 d 32)))
  else
  some a
def jP (d:Int) (c:Int):Nat->Int->Int->Option Int
 |0,_,_=>none
 |K+1,b,a=>
  (if a>=4294967296 then
  some true
  else
  some (decide ((IntKind.wrap .u64 (a*(qo .u64 d 4294967295)))>(IntKind.wrap .u64 ((IntKind.wrap .u64 (4294967296*b))+(qo .u64 c 4294967295))))):Option Bool).bind fun e=>
  if e=true then
  if(IntKind.wrap .u64 (b+(qh .u64 d 32)))>=4294967296 then
  some (IntKind.wrap .u64 (a-1))
  else
  jP d c K (IntKind.wrap .u64 (b+(qh .u64 d 32))) (IntKind.wrap .u64 (a-1))
  else
  some a
def yL (N:Nat) (hi:Int) (lo:Int) (y:Int):Option (Int×Int):=
 ((if y=0 then
 none
 else
 some ():Option Unit)).bind fun _=>
 ((if y<=hi then
 none
 else
 some ():Option Unit)).bind fun _=>
 if hi=0 then
 (qeN .u64 lo y).bind fun k=>
 (qaU .u64 lo y).bind fun l=>
 some (k,l)
 else
 (bits_LeadingZeros64 y).bind fun f=>
 (qee .u64 y (IntKind.wrap .u64 f)).bind fun d=>
 (qee .u64 hi (IntKind.wrap .u64 f)).bind fun b=>
 (qgB .u64 lo (IntKind.wrap .u64 (64-(IntKind.wrap .u64 f)))).bind fun c=>
 (qee .u64 lo (IntKind.wrap .u64 f)).bind fun a=>
 (qeN .u64 (orI .u64 b c) (qh .u64 d 32)).bind fun g=>
 (jQ d a N g (IntKind.wrap .u64 ((orI .u64 b c)-(IntKind.wrap .u64 (g*(qh .u64 d 32)))))).bind fun e=>
 (qeN .u64 (IntKind.wrap .u64 ((IntKind.wrap .u64 ((IntKind.wrap .u64 ((orI .u64 b c)*4294967296))+(qh .u64 a 32)))-(IntKind.wrap .u64 (e*d)))) (qh .u64 d 32)).bind fun h=>
 (jP d a N (IntKind.wrap .u64 ((IntKind.wrap .u64 ((IntKind.wrap .u64 ((IntKind.wrap .u64 ((orI .u64 b c)*4294967296))+(qh .u64 a 32)))-(IntKind.wrap .u64 (e*d))))-(IntKind.wrap .u64 (h*(qh .u64 d 32))))) h).bind fun i=>
 (qgB .u64 (IntKind.wrap .u64 ((IntKind.wrap .u64 ((IntKind.wrap .u64 ((IntKind.wrap .u64 ((IntKind.wrap .u64 ((IntKind.wrap .u64 ((orI .u64 b c)*4294967296))+(qh .u64 a 32)))-(IntKind.wrap .u64 (e*d))))*4294967296))+(qo .u64 a 4294967295)))-(IntKind.wrap .u64 (i*d)))) (IntKind.wrap .u64 f)).bind fun j=>
 some (IntKind.wrap .u64 ((IntKind.wrap .u64 (e*4294967296))+i),j)
theorem qcd (N:Nat) (hi:Int) (lo:Int) (y:Int) {res:Int×Int} (h:yL N hi lo y=some res):qc ZT (.fn 193) (.int .u64 hi::(kAr lo y)) [] (.tuple (kAr res.1 res.2)) []:=by
 unfold yL at h
 refine Ub Tryz.func193 rfl rfl (m:=135) rfl (rs:=[.tmp 6,.tmp 7]) rfl (l:=(kO hi lo [(2,.int .u64 y)])) rfl ?_
 refine sh fol (kO hi lo [(2,.int .u64 y)]) ?_
 refine sq ?_
 refine sh fol (kO hi lo [(2,.int .u64 y),(20,.bool (decide (y=0)))]) ?_
 obtain⟨Z,g1,h⟩:=bnd h
 refine Goes.imp (Q:=fun x s'=>(x= .normal/\()=Z/\Sub s' (ofG 135 (kO hi lo [(2,.int .u64 y)]),[]))) ?_ ?_
 ·refine ihD g1 (fun c2 g1=>?_) (fun c2 g1=>?_)
  ·cases g1
  refine Goes.skip ?_
  obtain rfl:=si g1
  exact⟨rfl,rfl,(Sub.keep [0,1,2] rfl rfl)⟩
 rintro x s' ⟨rfl,rfl,hsub⟩
 refine Goes.sub hsub ?_
 refine sq ?_
 refine sh fol (kO hi lo [(2,.int .u64 y),(24,.bool (decide (y<=hi)))]) ?_
 obtain⟨r3,g3,h⟩:=bnd h
 refine Goes.imp (Q:=fun x s'=>(x= .normal/\()=r3/\Sub s' (ofG 135 (kO hi lo [(2,.int .u64 y)]),[]))) ?_ ?_
 ·refine ihD g3 (fun c4 g3=>?_) (fun c4 g3=>?_)
  ·cases g3
  refine Goes.skip ?_
  obtain rfl:=si g3
  exact⟨rfl,rfl,(Sub.keep [0,1,2] rfl rfl)⟩
 rintro x s' ⟨rfl,rfl,hsub⟩
 refine Goes.sub hsub ?_
 refine sq ?_
 refine sh fol (kO hi lo [(2,.int .u64 y),(27,.bool (decide (hi=0)))]) ?_
 refine ihD h (fun c5 h=>?_) (fun c5 h=>?_)
 ·obtain⟨K,E,h⟩:=bnd h
  obtain⟨L,F,h⟩:=bnd h
  refine sq (gr fol [2,5] (kY K (kAO L [])) (ac (hs (.done (.opt (zn ZT .quo 182 (.tmp 28) (.tmp 29) (.int .u64 lo) (.int .u64 y))) (.int .u64 K)) (qdP E)) (ac (hs (.done (.opt (zn ZT .rem 182 (.tmp 31) (.tmp 32) (.int .u64 lo) (.int .u64 y))) (.int .u64 L)) (qbY F)) az)) ?_)
  refine Goes.ret ?_
  obtain rfl:=si h
  exact(gw2 (kAr K L) (FzW.tuple (qg.cons (Ua tI) (qg.cons (Ua tI) qg.nil))))
 refine Goes.skip ?_
 obtain⟨f,G,h⟩:=bnd h
 refine sq (gr fol [1] (kO hi lo [(2,.int .u64 y),(8,.int .u64 (IntKind.wrap .u64 f))]) (ac (cv (yR y G)) az) ?_)
 obtain⟨b,H,h⟩:=bnd h
 refine sq (gr fol [2] (kO hi lo [(2,.int .u64 b),(8,.int .u64 (IntKind.wrap .u64 f))]) (ac (hs (.done (.opt (zn ZT .shl 182 (.tmp 37) (.tmp 38) (.int .u64 y) (.int .u64 (IntKind.wrap .u64 f)))) (.int .u64 b)) (qcQ H)) az) ?_)
 refine sh fol (kO hi lo [(2,.int .u64 b),(8,.int .u64 (IntKind.wrap .u64 f)),(9,.int .u64 (qh .u64 b 32))]) ?_
 refine sh fol (kO hi lo (kF b (IntKind.wrap .u64 f) (qh .u64 b 32) (qo .u64 b 4294967295) [])) ?_
 obtain⟨c,t,h⟩:=bnd h
 obtain⟨d,u,h⟩:=bnd h
 refine sq (gr fol [2,6] ((1,.int .u64 lo)::(kF b (IntKind.wrap .u64 f) (qh .u64 b 32) (qo .u64 b 4294967295) [(11,.int .u64 (orI .u64 c d))])) (ac (hs (.done (.opt (zn ZT .shl 182 (.tmp 44) (.tmp 45) (.int .u64 hi) (.int .u64 (IntKind.wrap .u64 f)))) (.int .u64 c)) (qcQ t)) (ac (hs (.done (.opt (zn ZT .shr 182 (.tmp 47) (.tmp 49) (.int .u64 lo) (.int .u64 (IntKind.wrap .u64 (64-(IntKind.wrap .u64 f)))))) (.int .u64 d)) (qdL u)) az)) ?_)
 obtain⟨a,v,h⟩:=bnd h
 refine sq (gr fol [2] (kF b (IntKind.wrap .u64 f) (qh .u64 b 32) (qo .u64 b 4294967295) (kQ (orI .u64 c d) a [])) (ac (hs (.done (.opt (zn ZT .shl 182 (.tmp 52) (.tmp 53) (.int .u64 lo) (.int .u64 (IntKind.wrap .u64 f)))) (.int .u64 a)) (qcQ v)) az) ?_)
 refine sh fol (kF b (IntKind.wrap .u64 f) (qh .u64 b 32) (qo .u64 b 4294967295) (kQ (orI .u64 c d) a [(13,.int .u64 (qh .u64 a 32))])) ?_
 refine sh fol (kF b (IntKind.wrap .u64 f) (qh .u64 b 32) (qo .u64 b 4294967295) (kAC (orI .u64 c d) (qh .u64 a 32) [(14,.int .u64 (qo .u64 a 4294967295))])) ?_
 obtain⟨q,w,h⟩:=bnd h
 refine sq (gr fol [2] (kF b (IntKind.wrap .u64 f) (qh .u64 b 32) (qo .u64 b 4294967295) (kAC (orI .u64 c d) (qh .u64 a 32) (kAc (qo .u64 a 4294967295) q []))) (ac (hs (.done (.opt (zn ZT .quo 182 (.tmp 59) (.tmp 60) (.int .u64 (orI .u64 c d)) (.int .u64 (qh .u64 b 32)))) (.int .u64 q)) (qdP w)) az) ?_)
 refine sh fol (kF b (IntKind.wrap .u64 f) (qh .u64 b 32) (qo .u64 b 4294967295) (kAC (orI .u64 c d) (qh .u64 a 32) (kK (qo .u64 a 4294967295) q (IntKind.wrap .u64 ((orI .u64 c d)-(IntKind.wrap .u64 (q*(qh .u64 b 32))))) []))) ?_
 refine sq (Goes.block ?_)
 obtain⟨I,g17,h⟩:=bnd h
 refine Goes.imp (Q:=fun x s'=>(x= .exit 0/\ ∃e,e=I/\Sub s' (ofG 135 (kF b (IntKind.wrap .u64 f) (qh .u64 b 32) (qo .u64 b 4294967295) (kAC (orI .u64 c d) (qh .u64 a 32) (kAc (qo .u64 a 4294967295) e []))),[]))) ?_ ?_
 ·refine Uc (fun M s=> ∃(j:Int) (g:Int),s=(ofG 135 (kF b (IntKind.wrap .u64 f) (qh .u64 b 32) (qo .u64 b 4294967295) (kAC (orI .u64 c d) (qh .u64 a 32) (kK (qo .u64 a 4294967295) j g []))),[])/\jQ b a M j g=some I) ?_ (m:=N) ⟨_,_,rfl,g17⟩
  rintro M s ⟨j,g,rfl,g17⟩
  cases M with
  |zero=>simp only[jQ]at g17;cases g17
  |succ M=>
   rw[jQ]at g17
   refine sq ?_
   refine sq ?_
   obtain⟨O,k,g17⟩:=bnd g17
   refine Goes.cut (s':=(ofG 135 (kF b (IntKind.wrap .u64 f) (qh .u64 b 32) (qo .u64 b 4294967295) (kAC (orI .u64 c d) (qh .u64 a 32) (kK (qo .u64 a 4294967295) j g [(78,.bool O)]))),[])) ?_ ?_
   ·rcases wyD k with⟨z,k⟩|⟨z,k⟩
    ·obtain rfl:=si k
     exact tr fol [2] (kF b (IntKind.wrap .u64 f) (qh .u64 b 32) (qo .u64 b 4294967295) (kAC (orI .u64 c d) (qh .u64 a 32) (kK (qo .u64 a 4294967295) j g [(78,.bool true)]))) (ac (gw z) az)
    obtain rfl:=si k
    exact tr fol [2] (kF b (IntKind.wrap .u64 f) (qh .u64 b 32) (qo .u64 b 4294967295) (kAC (orI .u64 c d) (qh .u64 a 32) (kK (qo .u64 a 4294967295) j g [(78,.bool (decide ((IntKind.wrap .u64 (j*(qo .u64 b 4294967295)))>(IntKind.wrap .u64 ((IntKind.wrap .u64 (4294967296*g))+(qh .u64 a 32))))))]))) (ac (gw z) az)
   refine ihB g17 (fun P g17=>?_) (fun P g17=>?_)
   ·refine Goes.skip ?_
    refine Goes.block ?_
    refine sh fol (kF b (IntKind.wrap .u64 f) (qh .u64 b 32) (qo .u64 b 4294967295) (kAC (orI .u64 c d) (qh .u64 a 32) (kK (qo .u64 a 4294967295) (IntKind.wrap .u64 (j-1)) g []))) ?_
    refine sh fol (kF b (IntKind.wrap .u64 f) (qh .u64 b 32) (qo .u64 b 4294967295) (kAC (orI .u64 c d) (qh .u64 a 32) (kK (qo .u64 a 4294967295) (IntKind.wrap .u64 (j-1)) (IntKind.wrap .u64 (g+(qh .u64 b 32))) []))) ?_
    refine sh fol (kF b (IntKind.wrap .u64 f) (qh .u64 b 32) (qo .u64 b 4294967295) (kAC (orI .u64 c d) (qh .u64 a 32) (kK (qo .u64 a 4294967295) (IntKind.wrap .u64 (j-1)) (IntKind.wrap .u64 (g+(qh .u64 b 32))) [(85,.bool (decide ((IntKind.wrap .u64 (g+(qh .u64 b 32)))>=4294967296)))]))) ?_
    refine ihD g17 (fun U g17=>?_) (fun U g17=>?_)
    ·refine Goes.exit ?_
     obtain rfl:=si g17
     exact⟨rfl,_,rfl,(Sub.keep [2,8,9,10,11,13,14,15] rfl rfl)⟩
    refine Goes.skip ?_
    exact⟨M,(ofG 135 (kF b (IntKind.wrap .u64 f) (qh .u64 b 32) (qo .u64 b 4294967295) (kAC (orI .u64 c d) (qh .u64 a 32) (kK (qo .u64 a 4294967295) (IntKind.wrap .u64 (j-1)) (IntKind.wrap .u64 (g+(qh .u64 b 32))) []))),[]),Nat.lt_succ_self _,(Sub.keep [2,8,9,10,11,13,14,15,16] rfl rfl),_,_,rfl,g17⟩
   refine Goes.exit ?_
   obtain rfl:=si g17
   exact⟨rfl,_,rfl,(Sub.keep [2,8,9,10,11,13,14,15] rfl rfl)⟩
 rintro x s' ⟨rfl,e,rfl,hsub⟩
 refine Goes.sub hsub ?_
 refine sh fol (kF b (IntKind.wrap .u64 f) (qh .u64 b 32) (qo .u64 b 4294967295) (kAc (qo .u64 a 4294967295) e [(17,.int .u64 (IntKind.wrap .u64 ((IntKind.wrap .u64 ((IntKind.wrap .u64 ((orI .u64 c d)*4294967296))+(qh .u64 a 32)))-(IntKind.wrap .u64 (e*b)))))])) ?_
 obtain⟨r,A,h⟩:=bnd h
 refine sq (gr fol [2] (kF b (IntKind.wrap .u64 f) (qh .u64 b 32) (qo .u64 b 4294967295) (kAc (qo .u64 a 4294967295) e (kAF (IntKind.wrap .u64 ((IntKind.wrap .u64 ((IntKind.wrap .u64 ((orI .u64 c d)*4294967296))+(qh .u64 a 32)))-(IntKind.wrap .u64 (e*b)))) r []))) (ac (hs (.done (.opt (zn ZT .quo 182 (.tmp 94) (.tmp 95) (.int .u64 (IntKind.wrap .u64 ((IntKind.wrap .u64 ((IntKind.wrap .u64 ((orI .u64 c d)*4294967296))+(qh .u64 a 32)))-(IntKind.wrap .u64 (e*b))))) (.int .u64 (qh .u64 b 32)))) (.int .u64 r)) (qdP A)) az) ?_)
 refine sh fol (kF b (IntKind.wrap .u64 f) (qh .u64 b 32) (qo .u64 b 4294967295) (kK (qo .u64 a 4294967295) e (IntKind.wrap .u64 ((IntKind.wrap .u64 ((IntKind.wrap .u64 ((IntKind.wrap .u64 ((orI .u64 c d)*4294967296))+(qh .u64 a 32)))-(IntKind.wrap .u64 (e*b))))-(IntKind.wrap .u64 (r*(qh .u64 b 32))))) (kAF (IntKind.wrap .u64 ((IntKind.wrap .u64 ((IntKind.wrap .u64 ((orI .u64 c d)*4294967296))+(qh .u64 a 32)))-(IntKind.wrap .u64 (e*b)))) r []))) ?_
 refine sq (Goes.block ?_)
 obtain⟨J,g27,h⟩:=bnd h
 refine Goes.imp (Q:=fun x s'=>(x= .exit 2/\ ∃p,p=J/\Sub s' (ofG 135 ((2,.int .u64 b)::(8,.int .u64 (IntKind.wrap .u64 f))::(kAc (qo .u64 a 4294967295) e (kAF (IntKind.wrap .u64 ((IntKind.wrap .u64 ((IntKind.wrap .u64 ((orI .u64 c d)*4294967296))+(qh .u64 a 32)))-(IntKind.wrap .u64 (e*b)))) p []))),[]))) ?_ ?_
 ·refine Uc (fun M s=> ∃(i:Int) (n:Int),s=(ofG 135 (kF b (IntKind.wrap .u64 f) (qh .u64 b 32) (qo .u64 b 4294967295) (kK (qo .u64 a 4294967295) e i (kAF (IntKind.wrap .u64 ((IntKind.wrap .u64 ((IntKind.wrap .u64 ((orI .u64 c d)*4294967296))+(qh .u64 a 32)))-(IntKind.wrap .u64 (e*b)))) n []))),[])/\jP b a M i n=some J) ?_ (m:=N) ⟨_,_,rfl,g27⟩
  rintro M s ⟨i,n,rfl,g27⟩
  cases M with
  |zero=>simp only[jP]at g27;cases g27
  |succ M=>
   rw[jP]at g27
   refine sq ?_
   refine sq ?_
   obtain⟨V,o,g27⟩:=bnd g27
   refine Goes.cut (s':=(ofG 135 (kF b (IntKind.wrap .u64 f) (qh .u64 b 32) (qo .u64 b 4294967295) (kK (qo .u64 a 4294967295) e i (kAF (IntKind.wrap .u64 ((IntKind.wrap .u64 ((IntKind.wrap .u64 ((orI .u64 c d)*4294967296))+(qh .u64 a 32)))-(IntKind.wrap .u64 (e*b)))) n [(113,.bool V)]))),[])) ?_ ?_
   ·rcases wyD o with⟨B,o⟩|⟨B,o⟩
    ·obtain rfl:=si o
     exact tr fol [2] (kF b (IntKind.wrap .u64 f) (qh .u64 b 32) (qo .u64 b 4294967295) (kK (qo .u64 a 4294967295) e i (kAF (IntKind.wrap .u64 ((IntKind.wrap .u64 ((IntKind.wrap .u64 ((orI .u64 c d)*4294967296))+(qh .u64 a 32)))-(IntKind.wrap .u64 (e*b)))) n [(113,.bool true)]))) (ac (gw B) az)
    obtain rfl:=si o
    exact tr fol [2] (kF b (IntKind.wrap .u64 f) (qh .u64 b 32) (qo .u64 b 4294967295) (kK (qo .u64 a 4294967295) e i (kAF (IntKind.wrap .u64 ((IntKind.wrap .u64 ((IntKind.wrap .u64 ((orI .u64 c d)*4294967296))+(qh .u64 a 32)))-(IntKind.wrap .u64 (e*b)))) n [(113,.bool (decide ((IntKind.wrap .u64 (n*(qo .u64 b 4294967295)))>(IntKind.wrap .u64 ((IntKind.wrap .u64 (4294967296*i))+(qo .u64 a 4294967295))))))]))) (ac (gw B) az)
   refine ihB g27 (fun X g27=>?_) (fun X g27=>?_)
   ·refine Goes.skip ?_
    refine Goes.block ?_
    refine sh fol (kF b (IntKind.wrap .u64 f) (qh .u64 b 32) (qo .u64 b 4294967295) (kK (qo .u64 a 4294967295) e i (kAF (IntKind.wrap .u64 ((IntKind.wrap .u64 ((IntKind.wrap .u64 ((orI .u64 c d)*4294967296))+(qh .u64 a 32)))-(IntKind.wrap .u64 (e*b)))) (IntKind.wrap .u64 (n-1)) []))) ?_
    refine sh fol (kF b (IntKind.wrap .u64 f) (qh .u64 b 32) (qo .u64 b 4294967295) (kK (qo .u64 a 4294967295) e (IntKind.wrap .u64 (i+(qh .u64 b 32))) (kAF (IntKind.wrap .u64 ((IntKind.wrap .u64 ((IntKind.wrap .u64 ((orI .u64 c d)*4294967296))+(qh .u64 a 32)))-(IntKind.wrap .u64 (e*b)))) (IntKind.wrap .u64 (n-1)) []))) ?_
    refine sh fol (kF b (IntKind.wrap .u64 f) (qh .u64 b 32) (qo .u64 b 4294967295) (kK (qo .u64 a 4294967295) e (IntKind.wrap .u64 (i+(qh .u64 b 32))) (kAF (IntKind.wrap .u64 ((IntKind.wrap .u64 ((IntKind.wrap .u64 ((orI .u64 c d)*4294967296))+(qh .u64 a 32)))-(IntKind.wrap .u64 (e*b)))) (IntKind.wrap .u64 (n-1)) [(120,.bool (decide ((IntKind.wrap .u64 (i+(qh .u64 b 32)))>=4294967296)))]))) ?_
    refine ihD g27 (fun Y g27=>?_) (fun Y g27=>?_)
    ·refine Goes.exit ?_
     obtain rfl:=si g27
     exact⟨rfl,_,rfl,(Sub.keep [2,8,14,15,17,18] rfl rfl)⟩
    refine Goes.skip ?_
    exact⟨M,(ofG 135 (kF b (IntKind.wrap .u64 f) (qh .u64 b 32) (qo .u64 b 4294967295) (kK (qo .u64 a 4294967295) e (IntKind.wrap .u64 (i+(qh .u64 b 32))) (kAF (IntKind.wrap .u64 ((IntKind.wrap .u64 ((IntKind.wrap .u64 ((orI .u64 c d)*4294967296))+(qh .u64 a 32)))-(IntKind.wrap .u64 (e*b)))) (IntKind.wrap .u64 (n-1)) []))),[]),Nat.lt_succ_self _,(Sub.keep [2,8,9,10,14,15,16,17,18] rfl rfl),_,_,rfl,g27⟩
   refine Goes.exit ?_
   obtain rfl:=si g27
   exact⟨rfl,_,rfl,(Sub.keep [2,8,14,15,17,18] rfl rfl)⟩
 rintro x s' ⟨rfl,p,rfl,hsub⟩
 refine Goes.sub hsub ?_
 obtain⟨C,D,h⟩:=bnd h
 refine sq (gr fol [13] (kY (IntKind.wrap .u64 ((IntKind.wrap .u64 (e*4294967296))+p)) (kAO C [])) (ac (hs (.done (.opt (zn ZT .shr 182 (.tmp 132) (.tmp 133) (.int .u64 (IntKind.wrap .u64 ((IntKind.wrap .u64 ((IntKind.wrap .u64 ((IntKind.wrap .u64 ((IntKind.wrap .u64 ((IntKind.wrap .u64 ((orI .u64 c d)*4294967296))+(qh .u64 a 32)))-(IntKind.wrap .u64 (e*b))))*4294967296))+(qo .u64 a 4294967295)))-(IntKind.wrap .u64 (p*b))))) (.int .u64 (IntKind.wrap .u64 f)))) (.int .u64 C)) (qdL D)) az) ?_)
 refine Goes.ret ?_
 obtain rfl:=si h
 exact(gw2 (kAr (IntKind.wrap .u64 ((IntKind.wrap .u64 (e*4294967296))+p)) C) (FzW.tuple (qg.cons (Ua tI) (qg.cons (Ua tI) qg.nil))))
def bits_Mul64 (a:Int) (y:Int):Option (Int×Int):=
 some (IntKind.wrap .u64 ((IntKind.wrap .u64 ((IntKind.wrap .u64 ((qh .u64 a 32)*(qh .u64 y 32)))+(qh .u64 (IntKind.wrap .u64 ((IntKind.wrap .u64 ((qh .u64 a 32)*(qo .u64 y 4294967295)))+(qh .u64 (IntKind.wrap .u64 ((qo .u64 a 4294967295)*(qo .u64 y 4294967295))) 32))) 32)))+(qh .u64 (IntKind.wrap .u64 ((qo .u64 (IntKind.wrap .u64 ((IntKind.wrap .u64 ((qh .u64 a 32)*(qo .u64 y 4294967295)))+(qh .u64 (IntKind.wrap .u64 ((qo .u64 a 4294967295)*(qo .u64 y 4294967295))) 32))) 4294967295)+(IntKind.wrap .u64 ((qo .u64 a 4294967295)*(qh .u64 y 32))))) 32)),IntKind.wrap .u64 (a*y))
theorem xu (a:Int) (y:Int) {res:Int×Int} (h:bits_Mul64 a y=some res):qc ZT (.fn 145) (kAr a y) [] (.tuple (kAr res.1 res.2)) []:=by
 unfold bits_Mul64 at h
 refine Ub Tryz.func145 rfl rfl (m:=51) rfl (rs:=[.tmp 4,.tmp 5]) rfl (l:=(kO a y [])) rfl ?_
 refine sh fol (kO a y []) ?_
 refine sh fol (kO a y (kY (qo .u64 a 4294967295) [])) ?_
 refine sh fol (kO a y (kY (qo .u64 a 4294967295) (kAO (qh .u64 a 32) []))) ?_
 refine sh fol (kO a y (kY (qo .u64 a 4294967295) (kS (qh .u64 a 32) (qo .u64 y 4294967295) []))) ?_
 refine sh fol (kO a y (kY (qo .u64 a 4294967295) (kS (qh .u64 a 32) (qo .u64 y 4294967295) [(9,.int .u64 (qh .u64 y 32))]))) ?_
 refine sh fol (kO a y (kY (qo .u64 a 4294967295) (kS (qh .u64 a 32) (qo .u64 y 4294967295) [(9,.int .u64 (qh .u64 y 32)),(10,.int .u64 (IntKind.wrap .u64 ((qo .u64 a 4294967295)*(qo .u64 y 4294967295))))]))) ?_
 refine sh fol (kO a y (kY (qo .u64 a 4294967295) (kAO (qh .u64 a 32) [(9,.int .u64 (qh .u64 y 32)),(11,.int .u64 (IntKind.wrap .u64 ((IntKind.wrap .u64 ((qh .u64 a 32)*(qo .u64 y 4294967295)))+(qh .u64 (IntKind.wrap .u64 ((qo .u64 a 4294967295)*(qo .u64 y 4294967295))) 32))))]))) ?_
 refine sh fol (kO a y (kY (qo .u64 a 4294967295) (kAO (qh .u64 a 32) ((9,.int .u64 (qh .u64 y 32))::(kQ (IntKind.wrap .u64 ((IntKind.wrap .u64 ((qh .u64 a 32)*(qo .u64 y 4294967295)))+(qh .u64 (IntKind.wrap .u64 ((qo .u64 a 4294967295)*(qo .u64 y 4294967295))) 32))) (qo .u64 (IntKind.wrap .u64 ((IntKind.wrap .u64 ((qh .u64 a 32)*(qo .u64 y 4294967295)))+(qh .u64 (IntKind.wrap .u64 ((qo .u64 a 4294967295)*(qo .u64 y 4294967295))) 32))) 4294967295) []))))) ?_
 refine sh fol (kO a y (kY (qo .u64 a 4294967295) (kAO (qh .u64 a 32) [(9,.int .u64 (qh .u64 y 32)),(12,.int .u64 (qo .u64 (IntKind.wrap .u64 ((IntKind.wrap .u64 ((qh .u64 a 32)*(qo .u64 y 4294967295)))+(qh .u64 (IntKind.wrap .u64 ((qo .u64 a 4294967295)*(qo .u64 y 4294967295))) 32))) 4294967295)),(13,.int .u64 (qh .u64 (IntKind.wrap .u64 ((IntKind.wrap .u64 ((qh .u64 a 32)*(qo .u64 y 4294967295)))+(qh .u64 (IntKind.wrap .u64 ((qo .u64 a 4294967295)*(qo .u64 y 4294967295))) 32))) 32))]))) ?_
 refine sh fol (kO a y (kAO (qh .u64 a 32) [(9,.int .u64 (qh .u64 y 32)),(12,.int .u64 (IntKind.wrap .u64 ((qo .u64 (IntKind.wrap .u64 ((IntKind.wrap .u64 ((qh .u64 a 32)*(qo .u64 y 4294967295)))+(qh .u64 (IntKind.wrap .u64 ((qo .u64 a 4294967295)*(qo .u64 y 4294967295))) 32))) 4294967295)+(IntKind.wrap .u64 ((qo .u64 a 4294967295)*(qh .u64 y 32)))))),(13,.int .u64 (qh .u64 (IntKind.wrap .u64 ((IntKind.wrap .u64 ((qh .u64 a 32)*(qo .u64 y 4294967295)))+(qh .u64 (IntKind.wrap .u64 ((qo .u64 a 4294967295)*(qo .u64 y 4294967295))) 32))) 32))])) ?_
 refine sh fol (kO a y [(4,.int .u64 (IntKind.wrap .u64 ((IntKind.wrap .u64 ((IntKind.wrap .u64 ((qh .u64 a 32)*(qh .u64 y 32)))+(qh .u64 (IntKind.wrap .u64 ((IntKind.wrap .u64 ((qh .u64 a 32)*(qo .u64 y 4294967295)))+(qh .u64 (IntKind.wrap .u64 ((qo .u64 a 4294967295)*(qo .u64 y 4294967295))) 32))) 32)))+(qh .u64 (IntKind.wrap .u64 ((qo .u64 (IntKind.wrap .u64 ((IntKind.wrap .u64 ((qh .u64 a 32)*(qo .u64 y 4294967295)))+(qh .u64 (IntKind.wrap .u64 ((qo .u64 a 4294967295)*(qo .u64 y 4294967295))) 32))) 4294967295)+(IntKind.wrap .u64 ((qo .u64 a 4294967295)*(qh .u64 y 32))))) 32))))]) ?_
 refine sh fol [(4,.int .u64 (IntKind.wrap .u64 ((IntKind.wrap .u64 ((IntKind.wrap .u64 ((qh .u64 a 32)*(qh .u64 y 32)))+(qh .u64 (IntKind.wrap .u64 ((IntKind.wrap .u64 ((qh .u64 a 32)*(qo .u64 y 4294967295)))+(qh .u64 (IntKind.wrap .u64 ((qo .u64 a 4294967295)*(qo .u64 y 4294967295))) 32))) 32)))+(qh .u64 (IntKind.wrap .u64 ((qo .u64 (IntKind.wrap .u64 ((IntKind.wrap .u64 ((qh .u64 a 32)*(qo .u64 y 4294967295)))+(qh .u64 (IntKind.wrap .u64 ((qo .u64 a 4294967295)*(qo .u64 y 4294967295))) 32))) 4294967295)+(IntKind.wrap .u64 ((qo .u64 a 4294967295)*(qh .u64 y 32))))) 32)))),(5,.int .u64 (IntKind.wrap .u64 (a*y)))] ?_
 refine Goes.ret ?_
 obtain rfl:=si h
 exact(gw2 (kAr (IntKind.wrap .u64 ((IntKind.wrap .u64 ((IntKind.wrap .u64 ((qh .u64 a 32)*(qh .u64 y 32)))+(qh .u64 (IntKind.wrap .u64 ((IntKind.wrap .u64 ((qh .u64 a 32)*(qo .u64 y 4294967295)))+(qh .u64 (IntKind.wrap .u64 ((qo .u64 a 4294967295)*(qo .u64 y 4294967295))) 32))) 32)))+(qh .u64 (IntKind.wrap .u64 ((qo .u64 (IntKind.wrap .u64 ((IntKind.wrap .u64 ((qh .u64 a 32)*(qo .u64 y 4294967295)))+(qh .u64 (IntKind.wrap .u64 ((qo .u64 a 4294967295)*(qo .u64 y 4294967295))) 32))) 4294967295)+(IntKind.wrap .u64 ((qo .u64 a 4294967295)*(qh .u64 y 32))))) 32))) (IntKind.wrap .u64 (a*y))) (FzW.tuple (qg.cons (Ua tI) (qg.cons (Ua tI) qg.nil))))
def zu (b:List Int) (a:Int):Nat->(List Int)->Int->Option (List Int)
 |0,_,_=>none
 |K+1,f,c=>
  if c<(b.length:Int)then
  (((idx b c).bind fun e=>
  (idx f c).bind fun g=>
  (qee .u64 e a).bind fun h=>
  (put f c (orI .u64 g h)).bind fun d=>
  if a>0 then
  (qgB .u64 e (w64 (64-a))).bind fun i=>
  (idx d (w64 (c+1))).bind fun k=>
  (put d (w64 (c+1)) i).bind fun j=>
  some j
  else
  some d:Option (List Int))).bind fun l=>
  zu b a K l (w64 (c+1))
  else
  some f
def jZ (N:Nat) (a:List Int) (b:Int):Option (List Int):=
 (mk 8 (w64 ((a.length:Int)+1)) 0).bind fun c=>
 (zu a b N c 0).bind fun d=>
 some d
theorem qau (N:Nat) (a:List Int) (b:Int) {G:List Int} (h:jZ N a b=some G):qc ZT (.fn 195) [vl (qa .u64) a,.i b] [] (.slice 0 0 G.length G.length 1) [.cells (G.flatMap (qa .u64).c)]:=by
 unfold jZ at h
 refine Goes.fnH Tryz.func195 rfl rfl (m:=40) rfl (rs:=[.tmp 4]) rfl (l:=[(0,vl (qa .u64) a),(1,.i b)]) rfl ?_
 intro B hB
 refine sh fol [(0,vl (qa .u64) a),(1,.i b)] ?_
 obtain⟨D,F,h⟩:=bnd h
 refine sq (gq fol [3] ((0,vl (qa .u64) a)::(1,.i b)::(kB D [])) [.cells (D.flatMap (qa .u64).c)] (ac (hs (.run [] (zC ZT 75 (.i (w64 ((a.length:Int)+1))) (.i (w64 ((a.length:Int)+1)))) [] (.slice 0 0 D.length D.length 1) [.cells (D.flatMap (qa .u64).c)] false) (qaz zt (E:=(qa .u64)) (z:=0) rfl (by kernel_rfl) F rfl)) az) ?_)
 refine sq ?_
 refine sh fol ((1,.i b)::(kB D [(12,vl (qa .u64) a),(13,.i (a.length:Int)),(14,.i 0)])) ?_
 refine Goes.block ?_
 obtain⟨I,g6,h⟩:=bnd h
 refine Goes.imp (Q:=fun x s'=>(x= .exit 0/\ ∃r,r=I/\Sub s' (ofG 40 (kB r []),[.cells (r.flatMap (qa .u64).c)]))) ?_ ?_
 ·refine Uc (fun M s=> ∃(g:List Int) (d:Int),s=(ofG 40 ((1,.i b)::(kB g ((12,vl (qa .u64) a)::(kZ (a.length:Int) d)))),[.cells (g.flatMap (qa .u64).c)])/\zu a b M g d=some I) ?_ (m:=N) ⟨_,_,rfl,g6⟩
  rintro M s ⟨g,d,rfl,g6⟩
  cases M with
  |zero=>simp only[zu]at g6;cases g6
  |succ M=>
   rw[zu]at g6
   refine sh fol ((1,.i b)::(kB g [(12,vl (qa .u64) a),(13,.i (a.length:Int)),(14,.i d),(15,.bool (decide (d<(a.length:Int))))])) ?_
   refine sq ?_
   refine ihD g6 (fun J g6=>?_) (fun J g6=>?_)
   ·refine Goes.skip ?_
    refine sq ?_
    obtain⟨K,g9,g6⟩:=bnd g6
    refine Goes.imp (Q:=fun x s'=>(x= .normal/\ ∃t,t=K/\Sub s' (ofG 40 ((1,.i b)::(kB t ((12,vl (qa .u64) a)::(kZ (a.length:Int) d)))),[.cells (t.flatMap (qa .u64).c)]))) ?_ ?_
    ·refine Goes.block ?_
     obtain⟨j,k,g9⟩:=bnd g9
     refine sq (gr fol [1,2] ((1,.i b)::(kB g ((6,.i d)::(kAO j ((12,vl (qa .u64) a)::(kZ (a.length:Int) d)))))) (ac (iv zt (qa .u64) k) (ac (lv 0 zx (qa .u64) k rfl) az)) ?_)
     obtain⟨u,f,g9⟩:=bnd g9
     obtain⟨v,w,g9⟩:=bnd g9
     obtain⟨e,n,g9⟩:=bnd g9
     refine sq (gq fol [2,3,6,8,9] ((1,.i b)::(kB g ((6,.i d)::(kAO j ((12,vl (qa .u64) a)::(kZ (a.length:Int) d)))))) [.cells (e.flatMap (qa .u64).c)] (ac (hs (.done (.opt (qd ZT 75 (.slice 0 0 g.length g.length 1) (.i d))) (.ptr 0 ((d:Int).toNat*1+0))) (vQ zt f)) (ac (hs (.run [0] (zJ ZT 182 (.ptr 0 ((d:Int).toNat*1+0))) [.cells (g.flatMap (qa .u64).c)] (.int .u64 u) [.cells (g.flatMap (qa .u64).c)] false) (qax zx (E:=(qa .u64)) (l:=g) rfl rfl f (nl rfl) rfl)) (ac (hs (.done (.opt (zn ZT .shl 182 (.tmp 23) (.tmp 24) (.int .u64 j) (.i b))) (.int .u64 v)) (qcQ w)) (ac (hs (.done (.opt (qd ZT 75 (.slice 0 0 g.length g.length 1) (.i d))) (.ptr 0 ((d:Int).toNat*1+0))) (vQ zt f)) (ac (hs (.run [0] (qp ZT 182 (.ptr 0 ((d:Int).toNat*1+0)) (.int .u64 (orI .u64 u v))) [.cells (g.flatMap (qa .u64).c)] .undef [.cells (e.flatMap (qa .u64).c)] true) (yY (E:=(qa .u64)) (l:=g) (y:=orI .u64 u v) rfl (show _=some 1 by kernel_rfl) rfl f rfl rfl rfl rfl rfl n rfl)) az))))) ?_)
     refine Goes.sub (show Sub (ofG 40 ((1,.i b)::(kB g ((6,.i d)::(kAO j ((12,vl (qa .u64) a)::(kZ (a.length:Int) d)))))),[.cells (e.flatMap (qa .u64).c)]) (ofG 40 ((1,.i b)::(kB e ((6,.i d)::(kAO j ((12,vl (qa .u64) a)::(kZ (a.length:Int) d)))))),[.cells (e.flatMap (qa .u64).c)])from(Sub.norm [] [some 0] (by rw[hB];rfl) rfl (.keep (.same nI) (.keep (.sliceE rfl (vG n)) (.keep (.same nI) (.keep (.same nI) (.keep (.same (qf (qa .u64) _)) (.keep (.same nI) (.keep (.same nI) .nil))))))) (.ks .nil))) ?_
     refine sh fol ((1,.i b)::(kB e ((6,.i d)::(kAO j [(12,vl (qa .u64) a),(13,.i (a.length:Int)),(14,.i d),(29,.bool (decide (b>0)))])))) ?_
     refine ihD g9 (fun H g9=>?_) (fun H g9=>?_)
     ·obtain⟨A,C,g9⟩:=bnd g9
      obtain⟨L,o,g9⟩:=bnd g9
      obtain⟨p,q,g9⟩:=bnd g9
      refine gq fol [6,7,8] ((1,.i b)::(kB e ((12,vl (qa .u64) a)::(kZ (a.length:Int) d)))) [.cells (p.flatMap (qa .u64).c)] (ac (hs (.done (.opt (zn ZT .shr 182 (.tmp 33) (.tmp 35) (.int .u64 j) (.i (w64 (64-b))))) (.int .u64 A)) (qdL C)) (ac (hs (.done (.opt (qd ZT 75 (.slice 0 0 e.length e.length 1) (.i (w64 (d+1))))) (.ptr 0 ((w64 (d+1):Int).toNat*1+0))) (vQ zt o)) (ac (hs (.run [0] (qp ZT 182 (.ptr 0 ((w64 (d+1):Int).toNat*1+0)) (.int .u64 A)) [.cells (e.flatMap (qa .u64).c)] .undef [.cells (p.flatMap (qa .u64).c)] true) (yY (E:=(qa .u64)) (l:=e) (y:=A) rfl (show _=some 1 by kernel_rfl) rfl o rfl rfl rfl rfl rfl q rfl)) az))) ?_
      obtain rfl:=si g9
      exact⟨rfl,_,rfl,((show Sub (ofG 40 ((1,.i b)::(kB e ((12,vl (qa .u64) a)::(kZ (a.length:Int) d)))),[.cells (p.flatMap (qa .u64).c)]) (ofG 40 ((1,.i b)::(kB p ((12,vl (qa .u64) a)::(kZ (a.length:Int) d)))),[.cells (p.flatMap (qa .u64).c)])from(Sub.norm [] [some 0] (by rw[hB];rfl) rfl (.keep (.same nI) (.keep (.sliceE rfl (vG q)) (.keep (.same (qf (qa .u64) _)) (.keep (.same nI) (.keep (.same nI) .nil))))) (.ks .nil))).trans (Sub.refl _))⟩
     refine Goes.skip ?_
     obtain rfl:=si g9
     exact⟨rfl,_,rfl,(Sub.keep [1,5,12,13,14] rfl rfl)⟩
    rintro x s' ⟨rfl,t,rfl,hsub⟩
    refine Goes.sub hsub ?_
    refine gh fol ((1,.i b)::(kB t ((12,vl (qa .u64) a)::(kZ (a.length:Int) (w64 (d+1)))))) ?_
    exact⟨M,(ofG 40 ((1,.i b)::(kB t ((12,vl (qa .u64) a)::(kZ (a.length:Int) (w64 (d+1)))))),[.cells (t.flatMap (qa .u64).c)]),Nat.lt_succ_self _,(Sub.refl _),_,_,rfl,g6⟩
   refine Goes.exit ?_
   obtain rfl:=si g6
   exact⟨rfl,_,rfl,(Sub.keep [5] rfl rfl)⟩
 rintro x s' ⟨rfl,r,rfl,hsub⟩
 refine Goes.sub hsub ?_
 refine sh fol [(4,.slice 0 0 r.length r.length 1)] ?_
 refine Goes.ret ?_
 obtain rfl:=si h
 exact(gh2 [.slice 0 0 r.length r.length 1] (qb8.refl _ _))
def jE (e:List Int) (f:Nat) (g:Nat) (a:List Int):Nat->Int->Int->Int->Option Int
 |0,_,_,_=>none
 |K+1,b,c,i=>
  if i=0 then
  (idx a (w64 ((a.length:Int)-2))).bind fun j=>
  (bits_Mul64 b j).bind fun d=>
  (if d.1<c then
  some true
  else
  if d.1=c then
  (qcS e f g (w64 ((a.length:Int)-2))).bind fun k=>
  some (decide (d.2<=k))
  else
  some false:Option Bool).bind fun l=>
  if l=true then
  some b
  else
  (idx a (w64 ((a.length:Int)-1))).bind fun m=>
  (vP c m 0).bind fun h=>
  jE e f g a K (IntKind.wrap .u64 (b-1)) h.1 h.2
  else
  some b
def je (b:Nat) (e:Nat) (c:List Int) (f:Int):Nat->(List Int)->Int->Int->Int->Option ((List Int)×Int×Int)
 |0,_,_,_,_=>none
 |K+1,d,a,g,h=>
  if a<(c.length:Int)then
  (idx c a).bind fun l=>
  (bits_Mul64 f l).bind fun i=>
  (vP i.2 h 0).bind fun j=>
  (qcS d b e a).bind fun m=>
  (qbL m j.1 g).bind fun k=>
  (put d ((b+(a:Int).toNat:Nat):Int) k.1).bind fun n=>
  je b e c f K n (w64 (a+1)) k.2 (IntKind.wrap .u64 (i.1+j.2))
  else
  some (d,g,h)
def jk (b:Nat) (e:Nat) (c:List Int):Nat->(List Int)->Int->Int->Option ((List Int)×Int)
 |0,_,_,_=>none
 |K+1,d,a,f=>
  if a<(c.length:Int)then
  (qcS d b e a).bind fun h=>
  (idx c a).bind fun i=>
  (vP h i f).bind fun g=>
  (put d ((b+(a:Int).toNat:Nat):Int) g.1).bind fun j=>
  jk b e c K j (w64 (a+1)) g.2
  else
  some (d,f)
def xB (N:Nat) (d:List Int) (b:Nat) (c:Nat) (v:Nat) (a:List Int):Option ((List Int)×Int):=
 (qcS d b c (a.length:Int)).bind fun u=>
 (idx a (w64 ((a.length:Int)-1))).bind fun l=>
 ((if u>=l then
 (qcS d b c (w64 ((a.length:Int)-1))).bind fun m=>
 (vP m l 0).bind fun f=>
 some (18446744073709551615,f.1,f.2)
 else
 (qcS d b c (w64 ((a.length:Int)-1))).bind fun n=>
 (yL N u n l).bind fun g=>
 some (g.1,g.2,0):Option (Int×Int×Int))).bind fun(w,x,y)=>
 (jE d b c a N w x y).bind fun e=>
 (je b c a e N d 0 0 0).bind fun(h,o,p)=>
 (qcS h b c (a.length:Int)).bind fun q=>
 (qbL q p o).bind fun i=>
 (put h ((b+((a.length:Int):Int).toNat:Nat):Int) i.1).bind fun j=>
 if i.2=0 then
 some (j,e)
 else
 (jk b c a N j 0 0).bind fun(k,r)=>
 (qcS k b c (a.length:Int)).bind fun s=>
 (put k ((b+((a.length:Int):Int).toNat:Nat):Int) (IntKind.wrap .u64 (s+r))).bind fun t=>
 some (t,IntKind.wrap .u64 (e-1))
theorem qeu (N:Nat) (j:List Int) (b:Nat) (d:Nat) (e:Nat) (a:List Int) {l1:List Int} {n2:Int} (h:xB N j b d e a=some (l1,n2)):qc ZT (.fn 196) [.slice 0 b d e 1,vl (qa .u64) a] [.cells (j.flatMap (qa .u64).c)] (.int .u64 n2) [.cells (l1.flatMap (qa .u64).c)]:=by
 unfold xB at h
 refine Goes.fnH Tryz.func196 rfl rfl (m:=186) rfl (rs:=[.tmp 4]) rfl (l:=[(0,.slice 0 b d e 1),(1,vl (qa .u64) a)]) rfl ?_
 intro B hB
 refine sh fol [(0,.slice 0 b d e 1),(1,vl (qa .u64) a)] ?_
 refine sh fol [(0,.slice 0 b d e 1),(1,vl (qa .u64) a),(5,.i (a.length:Int))] ?_
 refine sh fol [(0,.slice 0 b d e 1),(1,vl (qa .u64) a),(5,.i (a.length:Int))] ?_
 refine sh fol ((0,.slice 0 b d e 1)::(1,vl (qa .u64) a)::(5,.i (a.length:Int))::(kAs [])) ?_
 refine sq ?_
 obtain⟨x3,K,h⟩:=bnd h
 obtain⟨x4,u,h⟩:=bnd h
 refine sq (gr fol [2,3,7,8] ((0,.slice 0 b d e 1)::(1,vl (qa .u64) a)::(5,.i (a.length:Int))::(kAs [(30,.bool (decide (x3>=x4)))])) (ac (hs (.done (.opt (qd ZT 75 (.slice 0 b d e 1) (.i (a.length:Int)))) (.ptr 0 ((((b+((a.length:Int):Int).toNat:Nat):Int):Int).toNat*1+0))) (qaR zt K)) (ac (hs (.run [0] (zJ ZT 182 (.ptr 0 ((((b+((a.length:Int):Int).toNat:Nat):Int):Int).toNat*1+0))) [.cells (j.flatMap (qa .u64).c)] (.int .u64 x3) [.cells (j.flatMap (qa .u64).c)] false) (qax zx (E:=(qa .u64)) (l:=j) rfl rfl (wI K) (nl rfl) rfl)) (ac (iv zt (qa .u64) u) (ac (lv 0 zx (qa .u64) u rfl) az)))) ?_)
 obtain⟨r8,g8,h⟩:=bnd h
 refine Goes.imp (Q:=fun x s'=>(x= .normal/\ ∃n5 n6 n7,(n5,n6,n7)=r8/\Sub s' (ofG 186 ((0,.slice 0 b d e 1)::(1,vl (qa .u64) a)::(kL (a.length:Int) n5 (kS n6 n7 []))),[.cells (j.flatMap (qa .u64).c)]))) ?_ ?_
 ·refine ihD g8 (fun c9 g8=>?_) (fun c9 g8=>?_)
  ·refine sh fol [(0,.slice 0 b d e 1),(1,vl (qa .u64) a),(5,.i (a.length:Int)),(6,.int .u64 18446744073709551615)] ?_
   obtain⟨c7,P,g8⟩:=bnd g8
   obtain⟨c8,b1,g8⟩:=bnd g8
   refine gr fol [3,4,8,9,10] ((0,.slice 0 b d e 1)::(1,vl (qa .u64) a)::(5,.i (a.length:Int))::(6,.int .u64 18446744073709551615)::(kS c8.1 c8.2 [])) (ac (hs (.done (.opt (qd ZT 75 (.slice 0 b d e 1) (.i (w64 ((a.length:Int)-1))))) (.ptr 0 ((((b+(w64 ((a.length:Int)-1):Int).toNat:Nat):Int):Int).toNat*1+0))) (qaR zt P)) (ac (hs (.run [0] (zJ ZT 182 (.ptr 0 ((((b+(w64 ((a.length:Int)-1):Int).toNat:Nat):Int):Int).toNat*1+0))) [.cells (j.flatMap (qa .u64).c)] (.int .u64 c7) [.cells (j.flatMap (qa .u64).c)] false) (qax zx (E:=(qa .u64)) (l:=j) rfl rfl (wI P) (nl rfl) rfl)) (ac (iv zt (qa .u64) u) (ac (lv 0 zx (qa .u64) u rfl) (ac (cv (qai c7 x4 0 b1)) az))))) ?_
   obtain rfl:=si g8
   exact⟨rfl,_,_,_,rfl,(Sub.refl _)⟩
  obtain⟨d0,U,g8⟩:=bnd g8
  obtain⟨d1,b2,g8⟩:=bnd g8
  refine gr fol [2,3,7,8,12,13,14] ((0,.slice 0 b d e 1)::(1,vl (qa .u64) a)::(kL (a.length:Int) d1.1 (kAO d1.2 (kAs [])))) (ac (hs (.done (.opt (qd ZT 75 (.slice 0 b d e 1) (.i (a.length:Int)))) (.ptr 0 ((((b+((a.length:Int):Int).toNat:Nat):Int):Int).toNat*1+0))) (qaR zt K)) (ac (hs (.run [0] (zJ ZT 182 (.ptr 0 ((((b+((a.length:Int):Int).toNat:Nat):Int):Int).toNat*1+0))) [.cells (j.flatMap (qa .u64).c)] (.int .u64 x3) [.cells (j.flatMap (qa .u64).c)] false) (qax zx (E:=(qa .u64)) (l:=j) rfl rfl (wI K) (nl rfl) rfl)) (ac (hs (.done (.opt (qd ZT 75 (.slice 0 b d e 1) (.i (w64 ((a.length:Int)-1))))) (.ptr 0 ((((b+(w64 ((a.length:Int)-1):Int).toNat:Nat):Int):Int).toNat*1+0))) (qaR zt U)) (ac (hs (.run [0] (zJ ZT 182 (.ptr 0 ((((b+(w64 ((a.length:Int)-1):Int).toNat:Nat):Int):Int).toNat*1+0))) [.cells (j.flatMap (qa .u64).c)] (.int .u64 d0) [.cells (j.flatMap (qa .u64).c)] false) (qax zx (E:=(qa .u64)) (l:=j) rfl rfl (wI U) (nl rfl) rfl)) (ac (iv zt (qa .u64) u) (ac (lv 0 zx (qa .u64) u rfl) (ac (cv (qcd N x3 d0 x4 b2)) az))))))) ?_
  obtain rfl:=si g8
  exact⟨rfl,_,_,_,rfl,(Sub.refl _)⟩
 rintro x s' ⟨rfl,n5,n6,n7,rfl,hsub⟩
 try dsimp only at h
 refine Goes.sub hsub ?_
 refine sq (Goes.block ?_)
 obtain⟨d2,g19,h⟩:=bnd h
 refine Goes.imp (Q:=fun x s'=>(x= .exit 0/\ ∃f,f=d2/\Sub s' (ofG 186 ((0,.slice 0 b d e 1)::(1,vl (qa .u64) a)::(kL (a.length:Int) f [])),[.cells (j.flatMap (qa .u64).c)]))) ?_ ?_
 ·refine Uc (fun M s=> ∃(o:Int) (q:Int) (a4:Int),s=(ofG 186 ((0,.slice 0 b d e 1)::(1,vl (qa .u64) a)::(kL (a.length:Int) o (kS q a4 []))),[.cells (j.flatMap (qa .u64).c)])/\jE j b d a M o q a4=some d2) ?_ (m:=N) ⟨_,_,_,rfl,g19⟩
  rintro M s ⟨o,q,a4,rfl,g19⟩
  cases M with
  |zero=>simp only[jE]at g19;cases g19
  |succ M=>
   rw[jE]at g19
   refine sq ?_
   refine sh fol ((0,.slice 0 b d e 1)::(1,vl (qa .u64) a)::(kL (a.length:Int) o (kAO q [(64,.bool (decide (a4=0)))]))) ?_
   refine ihD g19 (fun c20 g19=>?_) (fun c20 g19=>?_)
   ·refine Goes.skip ?_
    refine Goes.block ?_
    obtain⟨x21,V,g19⟩:=bnd g19
    obtain⟨b3,b4,g19⟩:=bnd g19
    refine sq (gr fol [4,5,6] ((0,.slice 0 b d e 1)::(1,vl (qa .u64) a)::(kL (a.length:Int) o (kAO q [(9,.int .u64 b3.1),(10,.int .u64 b3.2)]))) (ac (iv zt (qa .u64) V) (ac (lv 0 zx (qa .u64) V rfl) (ac (cv (xu o x21 b4)) az))) ?_)
    refine sq ?_
    refine sq ?_
    obtain⟨b26,k,g19⟩:=bnd g19
    refine Goes.cut (s':=(ofG 186 ((0,.slice 0 b d e 1)::(1,vl (qa .u64) a)::(kL (a.length:Int) o (kAO q [(91,.bool b26)]))),[.cells (j.flatMap (qa .u64).c)])) ?_ ?_
    ·rcases wyD k with⟨a5,k⟩|⟨a5,k⟩
     ·obtain rfl:=si k
      exact tr fol [3] ((0,.slice 0 b d e 1)::(1,vl (qa .u64) a)::(kL (a.length:Int) o (kAO q [(91,.bool true)]))) (ac (gw a5) az)
     rcases wyD k with⟨b5,k⟩|⟨b5,k⟩
     ·obtain⟨d3,X,k⟩:=bnd k
      obtain rfl:=si k
      exact tr fol [3,7,12,13] ((0,.slice 0 b d e 1)::(1,vl (qa .u64) a)::(kL (a.length:Int) o (kAO q [(91,.bool (decide (b3.2<=d3)))]))) (ac (gw a5) (ac (gw b5) (ac (hs (.done (.opt (qd ZT 75 (.slice 0 b d e 1) (.i (w64 ((a.length:Int)-2))))) (.ptr 0 ((((b+(w64 ((a.length:Int)-2):Int).toNat:Nat):Int):Int).toNat*1+0))) (qaR zt X)) (ac (hs (.run [0] (zJ ZT 182 (.ptr 0 ((((b+(w64 ((a.length:Int)-2):Int).toNat:Nat):Int):Int).toNat*1+0))) [.cells (j.flatMap (qa .u64).c)] (.int .u64 d3) [.cells (j.flatMap (qa .u64).c)] false) (qax zx (E:=(qa .u64)) (l:=j) rfl rfl (wI X) (nl rfl) rfl)) az))))
     obtain rfl:=si k
     exact tr fol [3,7] ((0,.slice 0 b d e 1)::(1,vl (qa .u64) a)::(kL (a.length:Int) o (kAO q [(91,.bool false)]))) (ac (gw a5) (ac (gw b5) az))
    refine ihB g19 (fun c28 g19=>?_) (fun c28 g19=>?_)
    ·refine Goes.exit ?_
     obtain rfl:=si g19
     exact⟨rfl,_,rfl,(Sub.keep [0,1,5,6] rfl rfl)⟩
    refine Goes.skip ?_
    refine sh fol ((0,.slice 0 b d e 1)::(1,vl (qa .u64) a)::(kL (a.length:Int) (IntKind.wrap .u64 (o-1)) (kAO q []))) ?_
    obtain⟨x29,Y,g19⟩:=bnd g19
    obtain⟨a6,b6,g19⟩:=bnd g19
    refine gr fol [4,5,6] ((0,.slice 0 b d e 1)::(1,vl (qa .u64) a)::(kL (a.length:Int) (IntKind.wrap .u64 (o-1)) (kS a6.1 a6.2 []))) (ac (iv zt (qa .u64) Y) (ac (lv 0 zx (qa .u64) Y rfl) (ac (cv (qai q x29 0 b6)) az))) ?_
    exact⟨M,(ofG 186 ((0,.slice 0 b d e 1)::(1,vl (qa .u64) a)::(kL (a.length:Int) (IntKind.wrap .u64 (o-1)) (kS a6.1 a6.2 []))),[.cells (j.flatMap (qa .u64).c)]),Nat.lt_succ_self _,(Sub.refl _),_,_,_,rfl,g19⟩
   refine Goes.exit ?_
   obtain rfl:=si g19
   exact⟨rfl,_,rfl,(Sub.keep [0,1,5,6] rfl rfl)⟩
 rintro x s' ⟨rfl,f,rfl,hsub⟩
 refine Goes.sub hsub ?_
 refine sh fol ((0,.slice 0 b d e 1)::(1,vl (qa .u64) a)::(kL (a.length:Int) f [(11,.int .u64 0),(12,.int .u64 0)])) ?_
 refine sq ?_
 refine sh fol ((0,.slice 0 b d e 1)::(1,vl (qa .u64) a)::(kL (a.length:Int) f [(11,.int .u64 0),(12,.int .u64 0),(104,.i (a.length:Int)),(105,.i 0)])) ?_
 refine Goes.block ?_
 obtain⟨d4,g38,h⟩:=bnd h
 refine Goes.imp (Q:=fun x s'=>(x= .exit 2/\ ∃C a7 a8,(C,a7,a8)=d4/\Sub s' (ofG 186 ((0,.slice 0 b d e 1)::(1,vl (qa .u64) a)::(kL (a.length:Int) f (kQ a7 a8 []))),[.cells (C.flatMap (qa .u64).c)]))) ?_ ?_
 ·refine Uc (fun M s=> ∃(D:List Int) (g:Int) (r:Int) (F:Int),s=(ofG 186 ((0,.slice 0 b d e 1)::(1,vl (qa .u64) a)::(kL (a.length:Int) f (kQ r F (kAQ (a.length:Int) g)))),[.cells (D.flatMap (qa .u64).c)])/\je b d a f M D g r F=some d4) ?_ (m:=N) ⟨_,_,_,_,rfl,g38⟩
  rintro M s ⟨D,g,r,F,rfl,g38⟩
  cases M with
  |zero=>simp only[je]at g38;cases g38
  |succ M=>
   rw[je]at g38
   refine sh fol ((0,.slice 0 b d e 1)::(1,vl (qa .u64) a)::(kL (a.length:Int) f (kQ r F [(104,.i (a.length:Int)),(105,.i g),(106,.bool (decide (g<(a.length:Int))))]))) ?_
   refine sq ?_
   refine ihD g38 (fun c39 g38=>?_) (fun c39 g38=>?_)
   ·refine Goes.skip ?_
    refine sq (Goes.block ?_)
    refine sh fol ((0,.slice 0 b d e 1)::(1,vl (qa .u64) a)::(kL (a.length:Int) f (kQ r F ((13,.i g)::(kAQ (a.length:Int) g))))) ?_
    obtain⟨x40,Z,g38⟩:=bnd g38
    obtain⟨p,b7,g38⟩:=bnd g38
    refine sq (gr fol [3,4,5] ((0,.slice 0 b d e 1)::(1,vl (qa .u64) a)::(kL (a.length:Int) f (kQ r F ((13,.i g)::(kAc p.1 p.2 (kAQ (a.length:Int) g)))))) (ac (iv zt (qa .u64) Z) (ac (lv 0 zx (qa .u64) Z rfl) (ac (cv (xu f x40 b7)) az))) ?_)
    refine sh fol ((0,.slice 0 b d e 1)::(1,vl (qa .u64) a)::(kL (a.length:Int) f (kQ r F ((13,.i g)::(kAc p.1 p.2 (kAQ (a.length:Int) g)))))) ?_
    obtain⟨t,b8,g38⟩:=bnd g38
    refine sq (gr fol [2] ((0,.slice 0 b d e 1)::(1,vl (qa .u64) a)::(kL (a.length:Int) f ((11,.int .u64 r)::(13,.i g)::(kK p.1 t.1 t.2 (kAQ (a.length:Int) g))))) (ac (cv (qai p.2 F 0 b8)) az) ?_)
    refine sh fol ((0,.slice 0 b d e 1)::(1,vl (qa .u64) a)::(kL (a.length:Int) f (kQ r (IntKind.wrap .u64 (p.1+t.2)) ((13,.i g)::(15,.int .u64 t.1)::(kAQ (a.length:Int) g))))) ?_
    obtain⟨d5,v,g38⟩:=bnd g38
    obtain⟨I,b9,g38⟩:=bnd g38
    obtain⟨a0,c0,g38⟩:=bnd g38
    refine gq fol [4,5,8,12,13] ((0,.slice 0 b d e 1)::(1,vl (qa .u64) a)::(kL (a.length:Int) f (kQ I.2 (IntKind.wrap .u64 (p.1+t.2)) (kAQ (a.length:Int) g)))) [.cells (a0.flatMap (qa .u64).c)] (ac (hs (.done (.opt (qd ZT 75 (.slice 0 b d e 1) (.i g))) (.ptr 0 ((((b+(g:Int).toNat:Nat):Int):Int).toNat*1+0))) (qaR zt v)) (ac (hs (.run [0] (zJ ZT 182 (.ptr 0 ((((b+(g:Int).toNat:Nat):Int):Int).toNat*1+0))) [.cells (D.flatMap (qa .u64).c)] (.int .u64 d5) [.cells (D.flatMap (qa .u64).c)] false) (qax zx (E:=(qa .u64)) (l:=D) rfl rfl (wI v) (nl rfl) rfl)) (ac (cv (qet d5 t.1 r b9)) (ac (hs (.done (.opt (qd ZT 75 (.slice 0 b d e 1) (.i g))) (.ptr 0 ((((b+(g:Int).toNat:Nat):Int):Int).toNat*1+0))) (qaR zt v)) (ac (hs (.run [0] (qp ZT 182 (.ptr 0 ((((b+(g:Int).toNat:Nat):Int):Int).toNat*1+0)) (.int .u64 I.1)) [.cells (D.flatMap (qa .u64).c)] .undef [.cells (a0.flatMap (qa .u64).c)] true) (yY (E:=(qa .u64)) (l:=D) (y:=I.1) rfl (show _=some 1 by kernel_rfl) rfl (wI v) rfl rfl rfl rfl rfl c0 rfl)) az))))) ?_
    refine Goes.sub (show Sub (ofG 186 ((0,.slice 0 b d e 1)::(1,vl (qa .u64) a)::(kL (a.length:Int) f (kQ I.2 (IntKind.wrap .u64 (p.1+t.2)) (kAQ (a.length:Int) g)))),[.cells (a0.flatMap (qa .u64).c)]) (ofG 186 ((0,.slice 0 b d e 1)::(1,vl (qa .u64) a)::(kL (a.length:Int) f (kQ I.2 (IntKind.wrap .u64 (p.1+t.2)) (kAQ (a.length:Int) g)))),[.cells (a0.flatMap (qa .u64).c)])from(Sub.norm [] [some 0] (by rw[hB];rfl) rfl (.keep (.slice rfl) (.keep (.same (qf (qa .u64) _)) (.keep (.same nI) (.keep (.same nI) (.keep (.same nI) (.keep (.same nI) (.keep (.same nI) (.keep (.same nI) .nil)))))))) (.ks .nil))) ?_
    refine gh fol ((0,.slice 0 b d e 1)::(1,vl (qa .u64) a)::(kL (a.length:Int) f (kQ I.2 (IntKind.wrap .u64 (p.1+t.2)) (kAQ (a.length:Int) (w64 (g+1)))))) ?_
    exact⟨M,(ofG 186 ((0,.slice 0 b d e 1)::(1,vl (qa .u64) a)::(kL (a.length:Int) f (kQ I.2 (IntKind.wrap .u64 (p.1+t.2)) (kAQ (a.length:Int) (w64 (g+1)))))),[.cells (a0.flatMap (qa .u64).c)]),Nat.lt_succ_self _,(Sub.refl _),_,_,_,_,rfl,g38⟩
   refine Goes.exit ?_
   obtain rfl:=si g38
   exact⟨rfl,_,_,_,rfl,(Sub.keep [0,1,5,6,11,12] rfl rfl)⟩
 rintro x s' ⟨rfl,C,a7,a8,rfl,hsub⟩
 try dsimp only at h
 refine Goes.sub hsub ?_
 obtain⟨d6,w,h⟩:=bnd h
 obtain⟨L,c1,h⟩:=bnd h
 obtain⟨a9,c2,h⟩:=bnd h
 refine sq (gq fol [4,5,8,12,13] ((0,.slice 0 b d e 1)::(1,vl (qa .u64) a)::(kL (a.length:Int) f [(11,.int .u64 L.2)])) [.cells (a9.flatMap (qa .u64).c)] (ac (hs (.done (.opt (qd ZT 75 (.slice 0 b d e 1) (.i (a.length:Int)))) (.ptr 0 ((((b+((a.length:Int):Int).toNat:Nat):Int):Int).toNat*1+0))) (qaR zt w)) (ac (hs (.run [0] (zJ ZT 182 (.ptr 0 ((((b+((a.length:Int):Int).toNat:Nat):Int):Int).toNat*1+0))) [.cells (C.flatMap (qa .u64).c)] (.int .u64 d6) [.cells (C.flatMap (qa .u64).c)] false) (qax zx (E:=(qa .u64)) (l:=C) rfl rfl (wI w) (nl rfl) rfl)) (ac (cv (qet d6 a8 a7 c1)) (ac (hs (.done (.opt (qd ZT 75 (.slice 0 b d e 1) (.i (a.length:Int)))) (.ptr 0 ((((b+((a.length:Int):Int).toNat:Nat):Int):Int).toNat*1+0))) (qaR zt w)) (ac (hs (.run [0] (qp ZT 182 (.ptr 0 ((((b+((a.length:Int):Int).toNat:Nat):Int):Int).toNat*1+0)) (.int .u64 L.1)) [.cells (C.flatMap (qa .u64).c)] .undef [.cells (a9.flatMap (qa .u64).c)] true) (yY (E:=(qa .u64)) (l:=C) (y:=L.1) rfl (show _=some 1 by kernel_rfl) rfl (wI w) rfl rfl rfl rfl rfl c2 rfl)) az))))) ?_)
 refine Goes.sub (show Sub (ofG 186 ((0,.slice 0 b d e 1)::(1,vl (qa .u64) a)::(kL (a.length:Int) f [(11,.int .u64 L.2)])),[.cells (a9.flatMap (qa .u64).c)]) (ofG 186 ((0,.slice 0 b d e 1)::(1,vl (qa .u64) a)::(kL (a.length:Int) f [(11,.int .u64 L.2)])),[.cells (a9.flatMap (qa .u64).c)])from(Sub.norm [] [some 0] (by rw[hB];rfl) rfl (.keep (.slice rfl) (.keep (.same (qf (qa .u64) _)) (.keep (.same nI) (.keep (.same nI) (.keep (.same nI) .nil))))) (.ks .nil))) ?_
 refine sq ?_
 refine sh fol ((0,.slice 0 b d e 1)::(1,vl (qa .u64) a)::(kL (a.length:Int) f [(154,.bool (decide (L.2=0)))])) ?_
 refine ihD h (fun c51 h=>?_) (fun c51 h=>?_)
 ·refine sh fol [(4,.int .u64 f)] ?_
  refine Goes.ret ?_
  simp only[ZI,ZP]at h
  obtain⟨rfl,rfl⟩:=h
  exact(gh2 [.int .u64 f] (qb8.refl _ _))
 refine Goes.skip ?_
 refine sh fol ((0,.slice 0 b d e 1)::(1,vl (qa .u64) a)::(kL (a.length:Int) f [(17,.int .u64 0)])) ?_
 refine sq ?_
 refine sh fol ((0,.slice 0 b d e 1)::(1,vl (qa .u64) a)::(kL (a.length:Int) f [(17,.int .u64 0),(156,.i (a.length:Int)),(157,.i 0)])) ?_
 refine Goes.block ?_
 obtain⟨d7,g57,h⟩:=bnd h
 refine Goes.imp (Q:=fun x s'=>(x= .exit 4/\ ∃G a1,(G,a1)=d7/\Sub s' (ofG 186 ((0,.slice 0 b d e 1)::(kL (a.length:Int) f [(17,.int .u64 a1)])),[.cells (G.flatMap (qa .u64).c)]))) ?_ ?_
 ·refine Uc (fun M s=> ∃(H:List Int) (n:Int) (O:Int),s=(ofG 186 ((0,.slice 0 b d e 1)::(1,vl (qa .u64) a)::(kL (a.length:Int) f (kAW O (a.length:Int) n []))),[.cells (H.flatMap (qa .u64).c)])/\jk b d a M H n O=some d7) ?_ (m:=N) ⟨_,_,_,rfl,g57⟩
  rintro M s ⟨H,n,O,rfl,g57⟩
  cases M with
  |zero=>simp only[jk]at g57;cases g57
  |succ M=>
   rw[jk]at g57
   refine sh fol ((0,.slice 0 b d e 1)::(1,vl (qa .u64) a)::(kL (a.length:Int) f (kAW O (a.length:Int) n [(158,.bool (decide (n<(a.length:Int))))]))) ?_
   refine sq ?_
   refine ihD g57 (fun c58 g57=>?_) (fun c58 g57=>?_)
   ·refine Goes.skip ?_
    refine sq (Goes.block ?_)
    refine sh fol ((0,.slice 0 b d e 1)::(1,vl (qa .u64) a)::(kL (a.length:Int) f [(17,.int .u64 O),(18,.i n),(156,.i (a.length:Int)),(157,.i n)])) ?_
    obtain⟨d8,z,g57⟩:=bnd g57
    obtain⟨x60,a2,g57⟩:=bnd g57
    obtain⟨J,c3,g57⟩:=bnd g57
    obtain⟨a3,c4,g57⟩:=bnd g57
    refine gq fol [4,5,8,9,11,15,16] ((0,.slice 0 b d e 1)::(1,vl (qa .u64) a)::(kL (a.length:Int) f (kAW J.2 (a.length:Int) n []))) [.cells (a3.flatMap (qa .u64).c)] (ac (hs (.done (.opt (qd ZT 75 (.slice 0 b d e 1) (.i n))) (.ptr 0 ((((b+(n:Int).toNat:Nat):Int):Int).toNat*1+0))) (qaR zt z)) (ac (hs (.run [0] (zJ ZT 182 (.ptr 0 ((((b+(n:Int).toNat:Nat):Int):Int).toNat*1+0))) [.cells (H.flatMap (qa .u64).c)] (.int .u64 d8) [.cells (H.flatMap (qa .u64).c)] false) (qax zx (E:=(qa .u64)) (l:=H) rfl rfl (wI z) (nl rfl) rfl)) (ac (iv zt (qa .u64) a2) (ac (lv 0 zx (qa .u64) a2 rfl) (ac (cv (qai d8 x60 O c3)) (ac (hs (.done (.opt (qd ZT 75 (.slice 0 b d e 1) (.i n))) (.ptr 0 ((((b+(n:Int).toNat:Nat):Int):Int).toNat*1+0))) (qaR zt z)) (ac (hs (.run [0] (qp ZT 182 (.ptr 0 ((((b+(n:Int).toNat:Nat):Int):Int).toNat*1+0)) (.int .u64 J.1)) [.cells (H.flatMap (qa .u64).c)] .undef [.cells (a3.flatMap (qa .u64).c)] true) (yY (E:=(qa .u64)) (l:=H) (y:=J.1) rfl (show _=some 1 by kernel_rfl) rfl (wI z) rfl rfl rfl rfl rfl c4 rfl)) az))))))) ?_
    refine Goes.sub (show Sub (ofG 186 ((0,.slice 0 b d e 1)::(1,vl (qa .u64) a)::(kL (a.length:Int) f (kAW J.2 (a.length:Int) n []))),[.cells (a3.flatMap (qa .u64).c)]) (ofG 186 ((0,.slice 0 b d e 1)::(1,vl (qa .u64) a)::(kL (a.length:Int) f (kAW J.2 (a.length:Int) n []))),[.cells (a3.flatMap (qa .u64).c)])from(Sub.norm [] [some 0] (by rw[hB];rfl) rfl (.keep (.slice rfl) (.keep (.same (qf (qa .u64) _)) (.keep (.same nI) (.keep (.same nI) (.keep (.same nI) (.keep (.same nI) (.keep (.same nI) .nil))))))) (.ks .nil))) ?_
    refine gh fol ((0,.slice 0 b d e 1)::(1,vl (qa .u64) a)::(kL (a.length:Int) f (kAW J.2 (a.length:Int) (w64 (n+1)) []))) ?_
    exact⟨M,(ofG 186 ((0,.slice 0 b d e 1)::(1,vl (qa .u64) a)::(kL (a.length:Int) f (kAW J.2 (a.length:Int) (w64 (n+1)) []))),[.cells (a3.flatMap (qa .u64).c)]),Nat.lt_succ_self _,(Sub.refl _),_,_,_,rfl,g57⟩
   refine Goes.exit ?_
   obtain rfl:=si g57
   exact⟨rfl,_,_,rfl,(Sub.keep [0,5,6,17] rfl rfl)⟩
 rintro x s' ⟨rfl,G,a1,rfl,hsub⟩
 try dsimp only at h
 refine Goes.sub hsub ?_
 obtain⟨c5,A,h⟩:=bnd h
 obtain⟨b0,c6,h⟩:=bnd h
 refine sq (gq fol [2,3,6,7] (kY f []) [.cells (b0.flatMap (qa .u64).c)] (ac (hs (.done (.opt (qd ZT 75 (.slice 0 b d e 1) (.i (a.length:Int)))) (.ptr 0 ((((b+((a.length:Int):Int).toNat:Nat):Int):Int).toNat*1+0))) (qaR zt A)) (ac (hs (.run [0] (zJ ZT 182 (.ptr 0 ((((b+((a.length:Int):Int).toNat:Nat):Int):Int).toNat*1+0))) [.cells (G.flatMap (qa .u64).c)] (.int .u64 c5) [.cells (G.flatMap (qa .u64).c)] false) (qax zx (E:=(qa .u64)) (l:=G) rfl rfl (wI A) (nl rfl) rfl)) (ac (hs (.done (.opt (qd ZT 75 (.slice 0 b d e 1) (.i (a.length:Int)))) (.ptr 0 ((((b+((a.length:Int):Int).toNat:Nat):Int):Int).toNat*1+0))) (qaR zt A)) (ac (hs (.run [0] (qp ZT 182 (.ptr 0 ((((b+((a.length:Int):Int).toNat:Nat):Int):Int).toNat*1+0)) (.int .u64 (IntKind.wrap .u64 (c5+a1)))) [.cells (G.flatMap (qa .u64).c)] .undef [.cells (b0.flatMap (qa .u64).c)] true) (yY (E:=(qa .u64)) (l:=G) (y:=IntKind.wrap .u64 (c5+a1)) rfl (show _=some 1 by kernel_rfl) rfl (wI A) rfl rfl rfl rfl rfl c6 rfl)) az)))) ?_)
 refine Goes.sub (show Sub (ofG 186 (kY f []),[.cells (b0.flatMap (qa .u64).c)]) (ofG 186 (kY f []),[.cells (b0.flatMap (qa .u64).c)])from(Sub.norm [] [some 0] (by rw[hB];rfl) rfl (.keep (.same nI) .nil) (.ks .nil))) ?_
 refine sh fol [(4,.int .u64 (IntKind.wrap .u64 (f-1)))] ?_
 refine Goes.ret ?_
 simp only[ZI,ZP]at h
 obtain⟨rfl,rfl⟩:=h
 exact(gh2 [.int .u64 (IntKind.wrap .u64 (f-1))] (qb8.refl _ _))
def jA (N:Nat) (a:List Int) (b:List Int):Nat->(List Int)->Int->Int->Option ((List Int)×Int)
 |0,_,_,_=>none
 |K+1,e,i,c=>
  if c>=0 then
  (idx a c).bind fun f=>
  (idx b 0).bind fun g=>
  (yL N i f g).bind fun d=>
  (idx e c).bind fun j=>
  (put e c d.1).bind fun h=>
  jA N a b K h d.2 (w64 (c-1))
  else
  some (e,i)
def jD (N:Nat) (c:List Int):Nat->(List Int)->(List Int)->Int->Option ((List Int)×(List Int))
 |0,_,_,_=>none
 |K+1,b,d,a=>
  if a>=0 then
  (win b a (w64 ((w64 (a+(c.length:Int)))+1))).bind fun(e,g)=>
  (xB N b e g (b.length-e) c).bind fun(f,h)=>
  ((if b.length=f.length then some ()else none:Option Unit)).bind fun j=>
  (idx d a).bind fun k=>
  (put d a h).bind fun i=>
  jD N c K f i (w64 (a-1))
  else
  some (b,d)
def jd (c:Int) (e:List Int):Nat->(List Int)->Int->Option (List Int)
 |0,_,_=>none
 |K+1,d,a=>
  if a<(e.length:Int)then
  (((idx d a).bind fun f=>
  (qgB .u64 f c).bind fun g=>
  (put d a g).bind fun b=>
  (if c>0 then
  some (decide ((w64 (a+1))<(b.length:Int)))
  else
  some false:Option Bool).bind fun h=>
  if h=true then
  (idx b a).bind fun i=>
  (idx b (w64 (a+1))).bind fun j=>
  (qee .u64 j (w64 (64-c))).bind fun k=>
  (put b a (orI .u64 i k)).bind fun l=>
  some l
  else
  some b:Option (List Int))).bind fun m=>
  jd c e K m (w64 (a+1))
  else
  some d
def yI (N:Nat) (a:List Int) (b:List Int):Option ((List Int)×(List Int)):=
 (zX N a b).bind fun q=>
 if q<0 then
 some ([],a)
 else
 if(b.length:Int)=1 then
 (mk 8 (a.length:Int) 0).bind fun r=>
 (jA N a b N r 0 (w64 ((a.length:Int)-1))).bind fun(s,t)=>
 (jX N s).bind fun e=>
 (jX N ([t]:List Int)).bind fun f=>
 some (e,f)
 else
 (idx b (w64 ((b.length:Int)-1))).bind fun g=>
 (bits_LeadingZeros64 g).bind fun d=>
 (jZ N b d).bind fun h=>
 (jX N h).bind fun c=>
 (jZ N a d).bind fun i=>
 (mk 8 (w64 ((w64 ((a.length:Int)-(c.length:Int)))+1)) 0).bind fun j=>
 (jD N c N i j (w64 ((a.length:Int)-(c.length:Int)))).bind fun(k,l)=>
 (jd d c N k 0).bind fun m=>
 (jX N l).bind fun n=>
 (cut m 0 (c.length:Int)).bind fun o=>
 (jX N o).bind fun p=>
 some (n,p)
theorem qcf (N:Nat) (a:List Int) (b:List Int) {res:(List Int)×(List Int)} (h:yI N a b=some res):qc ZT (.fn 164) [vl (qa .u64) a,vl (qa .u64) b] [] (.tuple [vl (qa .u64) res.1,vl (qa .u64) res.2]) []:=by
 unfold yI at h
 refine Ub Tryz.func164 rfl rfl (m:=137) rfl (rs:=[.tmp 4,.tmp 5]) rfl (l:=[(0,vl (qa .u64) a),(1,vl (qa .u64) b)]) rfl ?_
 refine sh fol [(0,vl (qa .u64) a),(1,vl (qa .u64) b)] ?_
 refine sq ?_
 obtain⟨r1,e_r1,h⟩:=bnd h
 refine sq (gr fol [2] [(0,vl (qa .u64) a),(1,vl (qa .u64) b),(19,.bool (decide (r1<0)))] (ac (cv (xN N a b e_r1)) az) ?_)
 refine ihD h (fun c2 h=>?_) (fun c2 h=>?_)
 ·refine sh fol [(4,.nilslice),(5,vl (qa .u64) a)] ?_
  refine Goes.ret ?_
  obtain rfl:=si h
  exact(gw2 [.nilslice,vl (qa .u64) a] (FzW.tuple (qg.cons (FzW.nilv (E:=(qa .u64))) (qg.cons (Ua (qZ (qa .u64) _ (nl rfl))) qg.nil))))
 refine Goes.skip ?_
 refine sq ?_
 refine sh fol [(0,vl (qa .u64) a),(1,vl (qa .u64) b),(23,.bool (decide ((b.length:Int)=1)))] ?_
 refine ihD h (fun c3 h=>?_) (fun c3 h=>?_)
 ·obtain⟨l4,e_l4,h⟩:=bnd h
  refine sq (gq fol [2] [(0,vl (qa .u64) a),(1,vl (qa .u64) b),(6,.slice 0 0 l4.length l4.length 1)] [.cells (l4.flatMap (qa .u64).c)] (ac (hs (.run [] (zC ZT 75 (.i (a.length:Int)) (.i (a.length:Int))) [] (.slice 0 0 l4.length l4.length 1) [.cells (l4.flatMap (qa .u64).c)] false) (qaz zt (E:=(qa .u64)) (z:=0) rfl (by kernel_rfl) e_l4 rfl)) az) ?_)
  refine sh fol [(0,vl (qa .u64) a),(1,vl (qa .u64) b),(6,.slice 0 0 l4.length l4.length 1),(7,.int .u64 0)] ?_
  refine sq ?_
  refine sh fol [(0,vl (qa .u64) a),(1,vl (qa .u64) b),(6,.slice 0 0 l4.length l4.length 1),(7,.int .u64 0),(8,.i (w64 ((a.length:Int)-1)))] ?_
  refine Goes.block ?_
  obtain⟨r10,g10,h⟩:=bnd h
  refine Goes.imp (Q:=fun x s'=>(x= .exit 0/\ ∃J n9,(J,n9)=r10/\Sub s' (ofG 137 (kAA J n9 []),[.cells (J.flatMap (qa .u64).c)]))) ?_ ?_
  ·refine Uc (fun M s=> ∃(K:List Int) (n6:Int) (F:Int),s=(ofG 137 ((0,vl (qa .u64) a)::(1,vl (qa .u64) b)::(kAA K n6 [(8,.i F)])),[.cells (K.flatMap (qa .u64).c)])/\jA N a b M K n6 F=some r10) ?_ (m:=N) ⟨_,_,_,rfl,g10⟩
   rintro M s ⟨K,n6,F,rfl,g10⟩
   cases M with
   |zero=>simp only[jA]at g10;cases g10
   |succ M=>
    rw[jA]at g10
    refine sq ?_
    refine sh fol ((0,vl (qa .u64) a)::(1,vl (qa .u64) b)::(kAA K n6 [(8,.i F),(31,.bool (decide (F>=0)))])) ?_
    refine ihD g10 (fun c11 g10=>?_) (fun c11 g10=>?_)
    ·refine Goes.skip ?_
     refine sq (Goes.block ?_)
     obtain⟨x12,L,g10⟩:=bnd g10
     obtain⟨x13,O,g10⟩:=bnd g10
     obtain⟨C,e_r14,g10⟩:=bnd g10
     obtain⟨x15,P,g10⟩:=bnd g10
     obtain⟨A,U,g10⟩:=bnd g10
     refine gq fol [5,6,8,9,10,14,15] ((0,vl (qa .u64) a)::(1,vl (qa .u64) b)::(kAA K C.2 [(8,.i F)])) [.cells (A.flatMap (qa .u64).c)] (ac (iv zt (qa .u64) L) (ac (lv 0 zx (qa .u64) L rfl) (ac (iv zt (qa .u64) O) (ac (lv 0 zx (qa .u64) O rfl) (ac (cv (qcd N n6 x12 x13 e_r14)) (ac (hs (.done (.opt (qd ZT 75 (.slice 0 0 K.length K.length 1) (.i F))) (.ptr 0 ((F:Int).toNat*1+0))) (vQ zt P)) (ac (hs (.run [0] (qp ZT 182 (.ptr 0 ((F:Int).toNat*1+0)) (.int .u64 C.1)) [.cells (K.flatMap (qa .u64).c)] .undef [.cells (A.flatMap (qa .u64).c)] true) (yY (E:=(qa .u64)) (l:=K) (y:=C.1) rfl (show _=some 1 by kernel_rfl) rfl P rfl rfl rfl rfl rfl U rfl)) az))))))) ?_
     refine Goes.sub (show Sub (ofG 137 ((0,vl (qa .u64) a)::(1,vl (qa .u64) b)::(kAA K C.2 [(8,.i F)])),[.cells (A.flatMap (qa .u64).c)]) (ofG 137 ((0,vl (qa .u64) a)::(1,vl (qa .u64) b)::(kAA A C.2 [(8,.i F)])),[.cells (A.flatMap (qa .u64).c)])from(Sub.norm [] [some 0] rfl rfl (.keep (.same (qf (qa .u64) _)) (.keep (.same (qf (qa .u64) _)) (.keep (.sliceE rfl (vG U)) (.keep (.same nI) (.keep (.same nI) .nil))))) (.ks .nil))) ?_
     refine gh fol ((0,vl (qa .u64) a)::(1,vl (qa .u64) b)::(kAA A C.2 [(8,.i (w64 (F-1)))])) ?_
     exact⟨M,(ofG 137 ((0,vl (qa .u64) a)::(1,vl (qa .u64) b)::(kAA A C.2 [(8,.i (w64 (F-1)))])),[.cells (A.flatMap (qa .u64).c)]),Nat.lt_succ_self _,(Sub.refl _),_,_,_,rfl,g10⟩
    refine Goes.exit ?_
    obtain rfl:=si g10
    exact⟨rfl,_,_,rfl,(Sub.keep [6,7] rfl rfl)⟩
  rintro x s' ⟨rfl,J,n9,rfl,hsub⟩
  try dsimp only at h
  refine Goes.sub hsub ?_
  obtain⟨V,e_r17,h⟩:=bnd h
  obtain⟨X,e_r18,h⟩:=bnd h
  refine sq (gq fol [1,4] [(4,vl (qa .u64) V),(5,vl (qa .u64) X)] [.frozen (J.flatMap (qa .u64).c),.frozen [.int .u64 n9]] (ac (hs (.callF 167 [.slice 0 0 J.length J.length 1] [.cells (J.flatMap (qa .u64).c)] [0] [vl (qa .u64) J] (vl (qa .u64) V)) (qbO (FzL.cons (Fz.sl (E:=(qa .u64)) rfl rfl (nl rfl)) FzL.nil) (ve N J e_r17) (qZ (qa .u64) _ (nl rfl)))) (ac (hs (.callF 167 [.slice 1 0 1 1 1] [.frozen (J.flatMap (qa .u64).c),.cells [.int .u64 n9]] [1] [vl (qa .u64) ([n9]:List Int)] (vl (qa .u64) X)) (qbO (FzL.cons (Fz.lit rfl rfl (FzL.still (AllST.cons tI AllST.nil))) FzL.nil) (ve N ([n9]:List Int) e_r18) (qZ (qa .u64) _ (nl rfl)))) az)) ?_)
  refine Goes.sub (show Sub (ofG 137 [(4,vl (qa .u64) V),(5,vl (qa .u64) X)],[.frozen (J.flatMap (qa .u64).c),.frozen [.int .u64 n9]]) (ofG 137 [(4,vl (qa .u64) V),(5,vl (qa .u64) X)],[])from(Sub.norm [] [] rfl rfl (.keep (.same (qf (qa .u64) _)) (.keep (.same (qf (qa .u64) _)) .nil)) .nil)) ?_
  refine Goes.ret ?_
  obtain rfl:=si h
  exact(gw2 [vl (qa .u64) V,vl (qa .u64) X] (FzW.tuple (qg.cons (Ua (qZ (qa .u64) _ (nl rfl))) (qg.cons (Ua (qZ (qa .u64) _ (nl rfl))) qg.nil))))
 refine Goes.skip ?_
 obtain⟨x19,Y,h⟩:=bnd h
 obtain⟨g,e_r20,h⟩:=bnd h
 refine sq (gr fol [4,5,6] [(0,vl (qa .u64) a),(1,vl (qa .u64) b),(9,.i g)] (ac (iv zt (qa .u64) Y) (ac (lv 0 zx (qa .u64) Y rfl) (ac (cv (yR x19 e_r20)) az))) ?_)
 obtain⟨t,e_r21,h⟩:=bnd h
 obtain⟨d,e_r23,h⟩:=bnd h
 refine sq (gq fol [2,3] [(0,vl (qa .u64) a),(9,.i g),(10,vl (qa .u64) d)] [.frozen (t.flatMap (qa .u64).c)] (ac (hs (.callH 195 [vl (qa .u64) b,.i g] [] [] (.slice 0 0 t.length t.length 1) [.cells (t.flatMap (qa .u64).c)]) (qak [] [some 0] (qau N b g e_r21) .nil rfl rfl (.new rfl rfl (.same fa) rfl .nil) (rc (.same (qf (qa .u64) _)) (rc (.same nI) rn)) (.slice rfl) rfl)) (ac (hs (.callF 167 [.slice 0 0 t.length t.length 1] [.cells (t.flatMap (qa .u64).c)] [0] [vl (qa .u64) t] (vl (qa .u64) d)) (qbO (FzL.cons (Fz.sl (E:=(qa .u64)) rfl rfl (nl rfl)) FzL.nil) (ve N t e_r23) (qZ (qa .u64) _ (nl rfl)))) az)) ?_)
 refine Goes.sub (show Sub (ofG 137 [(0,vl (qa .u64) a),(9,.i g),(10,vl (qa .u64) d)],[.frozen (t.flatMap (qa .u64).c)]) (ofG 137 [(0,vl (qa .u64) a),(9,.i g),(10,vl (qa .u64) d)],[])from(Sub.norm [] [] rfl rfl (.keep (.same (qf (qa .u64) _)) (.keep (.same nI) (.keep (.same (qf (qa .u64) _)) .nil))) .nil)) ?_
 obtain⟨p,e_r24,h⟩:=bnd h
 refine sq (gq fol [2] [(0,vl (qa .u64) a),(9,.i g),(10,vl (qa .u64) d),(11,.slice 0 0 p.length p.length 1)] [.cells (p.flatMap (qa .u64).c)] (ac (hs (.callH 195 [vl (qa .u64) a,.i g] [] [] (.slice 0 0 p.length p.length 1) [.cells (p.flatMap (qa .u64).c)]) (qak [] [some 0] (qau N a g e_r24) .nil rfl rfl (.new rfl rfl (.same fa) rfl .nil) (rc (.same (qf (qa .u64) _)) (rc (.same nI) rn)) (.slice rfl) rfl)) az) ?_)
 refine sh fol [(0,vl (qa .u64) a),(9,.i g),(10,vl (qa .u64) d),(11,.slice 0 0 p.length p.length 1),(12,.i (d.length:Int))] ?_
 obtain⟨G,e_l26,h⟩:=bnd h
 refine sq (gq fol [5] ((0,vl (qa .u64) a)::(9,.i g)::(10,vl (qa .u64) d)::(kC p (d.length:Int) G [])) [.cells (p.flatMap (qa .u64).c),.cells (G.flatMap (qa .u64).c)] (ac (hs (.run [] (zC ZT 75 (.i (w64 ((w64 ((a.length:Int)-(d.length:Int)))+1))) (.i (w64 ((w64 ((a.length:Int)-(d.length:Int)))+1)))) [.cells (p.flatMap (qa .u64).c)] (.slice 1 0 G.length G.length 1) [.cells (p.flatMap (qa .u64).c),.cells (G.flatMap (qa .u64).c)] false) (qaz zt (E:=(qa .u64)) (z:=0) rfl (by kernel_rfl) e_l26 rfl)) az) ?_)
 refine sq ?_
 refine sh fol ((9,.i g)::(10,vl (qa .u64) d)::(kC p (d.length:Int) G [(14,.i (w64 ((a.length:Int)-(d.length:Int))))])) ?_
 refine Goes.block ?_
 obtain⟨r32,g32,h⟩:=bnd h
 refine Goes.imp (Q:=fun x s'=>(x= .exit 2/\ ∃Z e,(Z,e)=r32/\Sub s' (ofG 137 ((9,.i g)::(kC Z (d.length:Int) e [])),[.cells (Z.flatMap (qa .u64).c),.cells (e.flatMap (qa .u64).c)]))) ?_ ?_
 ·refine Uc (fun M s=> ∃(o:List Int) (q:List Int) (n:Int),s=(ofG 137 ((9,.i g)::(10,vl (qa .u64) d)::(kC o (d.length:Int) q [(14,.i n)])),[.cells (o.flatMap (qa .u64).c),.cells (q.flatMap (qa .u64).c)])/\jD N d M o q n=some r32) ?_ (m:=N) ⟨_,_,_,rfl,g32⟩
  rintro M s ⟨o,q,n,rfl,g32⟩
  cases M with
  |zero=>simp only[jD]at g32;cases g32
  |succ M=>
   rw[jD]at g32
   refine sq ?_
   refine sh fol ((9,.i g)::(10,vl (qa .u64) d)::(kC o (d.length:Int) q [(14,.i n),(81,.bool (decide (n>=0)))])) ?_
   refine ihD g32 (fun c33 g32=>?_) (fun c33 g32=>?_)
   ·refine Goes.skip ?_
    refine sq (Goes.block ?_)
    obtain⟨⟨H,n36⟩,e_w34,g32⟩:=bnd g32
    try dsimp only at g32
    obtain⟨⟨u,n39⟩,e_r37,g32⟩:=bnd g32
    try dsimp only at g32
    obtain⟨u40,e_u40,g32⟩:=bnd g32
    obtain⟨x41,a0,g32⟩:=bnd g32
    obtain⟨B,a1,g32⟩:=bnd g32
    refine gq fol [8,10,11,12] ((9,.i g)::(10,vl (qa .u64) d)::(kC o (d.length:Int) q [(14,.i n)])) [.cells (u.flatMap (qa .u64).c),.cells (B.flatMap (qa .u64).c)] (ac (hs (.done (.opt (yx ZT 75 (.slice 0 0 o.length o.length 1) (some (.i n)) (some (.i (w64 ((w64 (n+(d.length:Int)))+1)))) none)) (.slice 0 H n36 (o.length-H) 1)) (wn_ix zt e_w34)) (ac (hs (.callH 196 [.slice 0 H n36 (o.length-H) 1,vl (qa .u64) d] [.cells (o.flatMap (qa .u64).c),.cells (q.flatMap (qa .u64).c)] [0] (.int .u64 n39) [.cells (u.flatMap (qa .u64).c),.cells (q.flatMap (qa .u64).c)]) (qak [some 0] [some 0,none] (qeu N o H n36 (o.length-H) d e_r37) (.ks .nil) rfl rfl (.back rfl rfl (.same fa) rfl (.old rfl rfl .nil)) (rc (.slice rfl) (rc (.same (qf (qa .u64) _)) rn)) (.same nI) rfl)) (ac (hs (.done (.opt (qd ZT 75 (.slice 1 0 q.length q.length 1) (.i n))) (.ptr 1 ((n:Int).toNat*1+0))) (vQ zt a0)) (ac (hs (.run [1] (qp ZT 182 (.ptr 1 ((n:Int).toNat*1+0)) (.int .u64 n39)) [.cells (u.flatMap (qa .u64).c),.cells (q.flatMap (qa .u64).c)] .undef [.cells (u.flatMap (qa .u64).c),.cells (B.flatMap (qa .u64).c)] true) (yY (E:=(qa .u64)) (l:=q) (y:=n39) rfl (show _=some 1 by kernel_rfl) rfl a0 rfl rfl rfl rfl rfl a1 rfl)) az)))) ?_
    refine Goes.sub (show Sub (ofG 137 ((9,.i g)::(10,vl (qa .u64) d)::(kC o (d.length:Int) q [(14,.i n)])),[.cells (u.flatMap (qa .u64).c),.cells (B.flatMap (qa .u64).c)]) (ofG 137 ((9,.i g)::(10,vl (qa .u64) d)::(kC u (d.length:Int) B [(14,.i n)])),[.cells (u.flatMap (qa .u64).c),.cells (B.flatMap (qa .u64).c)])from(Sub.norm [] [some 0,some 1] rfl rfl (.keep (.same nI) (.keep (.same (qf (qa .u64) _)) (.keep (.sliceE rfl (qlw e_u40)) (.keep (.same nI) (.keep (.sliceE rfl (vG a1)) (.keep (.same nI) .nil)))))) (.ks (.ks .nil)))) ?_
    refine gh fol ((9,.i g)::(10,vl (qa .u64) d)::(kC u (d.length:Int) B [(14,.i (w64 (n-1)))])) ?_
    exact⟨M,(ofG 137 ((9,.i g)::(10,vl (qa .u64) d)::(kC u (d.length:Int) B [(14,.i (w64 (n-1)))])),[.cells (u.flatMap (qa .u64).c),.cells (B.flatMap (qa .u64).c)]),Nat.lt_succ_self _,(Sub.refl _),_,_,_,rfl,g32⟩
   refine Goes.exit ?_
   obtain rfl:=si g32
   exact⟨rfl,_,_,rfl,(Sub.keep [9,11,12,13] rfl rfl)⟩
 rintro x s' ⟨rfl,Z,e,rfl,hsub⟩
 try dsimp only at h
 refine Goes.sub hsub ?_
 refine sq ?_
 refine sh fol ((9,.i g)::(kC Z (d.length:Int) e [(96,.i (d.length:Int)),(97,.i 0)])) ?_
 refine Goes.block ?_
 obtain⟨r46,g46,h⟩:=bnd h
 refine Goes.imp (Q:=fun x s'=>(x= .exit 4/\ ∃I,I=r46/\Sub s' (ofG 137 (kC I (d.length:Int) e []),[.cells (I.flatMap (qa .u64).c),.cells (e.flatMap (qa .u64).c)]))) ?_ ?_
 ·refine Uc (fun M s=> ∃(k:List Int) (f:Int),s=(ofG 137 ((9,.i g)::(kC k (d.length:Int) e (kAY (d.length:Int) f))),[.cells (k.flatMap (qa .u64).c),.cells (e.flatMap (qa .u64).c)])/\jd g d M k f=some r46) ?_ (m:=N) ⟨_,_,rfl,g46⟩
  rintro M s ⟨k,f,rfl,g46⟩
  cases M with
  |zero=>simp only[jd]at g46;cases g46
  |succ M=>
   rw[jd]at g46
   refine sh fol ((9,.i g)::(kC k (d.length:Int) e [(96,.i (d.length:Int)),(97,.i f),(98,.bool (decide (f<(d.length:Int))))])) ?_
   refine sq ?_
   refine ihD g46 (fun c47 g46=>?_) (fun c47 g46=>?_)
   ·refine Goes.skip ?_
    refine sq ?_
    obtain⟨r49,g49,g46⟩:=bnd g46
    refine Goes.imp (Q:=fun x s'=>(x= .normal/\ ∃D,D=r49/\Sub s' (ofG 137 ((9,.i g)::(kC D (d.length:Int) e (kAY (d.length:Int) f))),[.cells (D.flatMap (qa .u64).c),.cells (e.flatMap (qa .u64).c)]))) ?_ ?_
    ·refine Goes.block ?_
     refine sh fol ((9,.i g)::(kC k (d.length:Int) e ((15,.i f)::(kAY (d.length:Int) f)))) ?_
     obtain⟨x50,v,g49⟩:=bnd g49
     obtain⟨q51,e_q51,g49⟩:=bnd g49
     obtain⟨j,a2,g49⟩:=bnd g49
     refine sq (gq fol [2,3,5,6,7] ((9,.i g)::(kC k (d.length:Int) e ((15,.i f)::(kAY (d.length:Int) f)))) [.cells (j.flatMap (qa .u64).c),.cells (e.flatMap (qa .u64).c)] (ac (hs (.done (.opt (qd ZT 75 (.slice 0 0 k.length k.length 1) (.i f))) (.ptr 0 ((f:Int).toNat*1+0))) (vQ zt v)) (ac (hs (.run [0] (zJ ZT 182 (.ptr 0 ((f:Int).toNat*1+0))) [.cells (k.flatMap (qa .u64).c),.cells (e.flatMap (qa .u64).c)] (.int .u64 x50) [.cells (k.flatMap (qa .u64).c),.cells (e.flatMap (qa .u64).c)] false) (qax zx (E:=(qa .u64)) (l:=k) rfl rfl v (nl rfl) rfl)) (ac (hs (.done (.opt (zn ZT .shr 182 (.tmp 103) (.tmp 104) (.int .u64 x50) (.i g))) (.int .u64 q51)) (qdL e_q51)) (ac (hs (.done (.opt (qd ZT 75 (.slice 0 0 k.length k.length 1) (.i f))) (.ptr 0 ((f:Int).toNat*1+0))) (vQ zt v)) (ac (hs (.run [0] (qp ZT 182 (.ptr 0 ((f:Int).toNat*1+0)) (.int .u64 q51)) [.cells (k.flatMap (qa .u64).c),.cells (e.flatMap (qa .u64).c)] .undef [.cells (j.flatMap (qa .u64).c),.cells (e.flatMap (qa .u64).c)] true) (yY (E:=(qa .u64)) (l:=k) (y:=q51) rfl (show _=some 1 by kernel_rfl) rfl v rfl rfl rfl rfl rfl a2 rfl)) az))))) ?_)
     refine Goes.sub (show Sub (ofG 137 ((9,.i g)::(kC k (d.length:Int) e ((15,.i f)::(kAY (d.length:Int) f)))),[.cells (j.flatMap (qa .u64).c),.cells (e.flatMap (qa .u64).c)]) (ofG 137 ((9,.i g)::(kC j (d.length:Int) e ((15,.i f)::(kAY (d.length:Int) f)))),[.cells (j.flatMap (qa .u64).c),.cells (e.flatMap (qa .u64).c)])from(Sub.norm [] [some 0,some 1] rfl rfl (.keep (.same nI) (.keep (.sliceE rfl (vG a2)) (.keep (.same nI) (.keep (.slice rfl) (.keep (.same nI) (.keep (.same nI) (.keep (.same nI) .nil))))))) (.ks (.ks .nil)))) ?_
     refine sq ?_
     obtain⟨b54,r,g49⟩:=bnd g49
     refine Goes.cut (s':=(ofG 137 ((9,.i g)::(kC j (d.length:Int) e [(15,.i f),(96,.i (d.length:Int)),(97,.i f),(115,.bool b54)])),[.cells (j.flatMap (qa .u64).c),.cells (e.flatMap (qa .u64).c)])) ?_ ?_
     ·rcases wyD r with⟨c53,r⟩|⟨c53,r⟩
      ·obtain rfl:=si r
       exact tr fol [2] ((9,.i g)::(kC j (d.length:Int) e [(15,.i f),(96,.i (d.length:Int)),(97,.i f),(115,.bool (decide ((w64 (f+1))<(j.length:Int))))])) (ac (gw c53) az)
      obtain rfl:=si r
      exact tr fol [2] ((9,.i g)::(kC j (d.length:Int) e [(15,.i f),(96,.i (d.length:Int)),(97,.i f),(115,.bool false)])) (ac (gw c53) az)
     refine ihB g49 (fun c56 g49=>?_) (fun c56 g49=>?_)
     ·obtain⟨x57,w,g49⟩:=bnd g49
      obtain⟨x58,a3,g49⟩:=bnd g49
      obtain⟨q59,e_q59,g49⟩:=bnd g49
      obtain⟨a4,a5,g49⟩:=bnd g49
      refine gq fol [2,3,7,8,11,13,14] ((9,.i g)::(kC j (d.length:Int) e (kAY (d.length:Int) f))) [.cells (a4.flatMap (qa .u64).c),.cells (e.flatMap (qa .u64).c)] (ac (hs (.done (.opt (qd ZT 75 (.slice 0 0 j.length j.length 1) (.i f))) (.ptr 0 ((f:Int).toNat*1+0))) (vQ zt w)) (ac (hs (.run [0] (zJ ZT 182 (.ptr 0 ((f:Int).toNat*1+0))) [.cells (j.flatMap (qa .u64).c),.cells (e.flatMap (qa .u64).c)] (.int .u64 x57) [.cells (j.flatMap (qa .u64).c),.cells (e.flatMap (qa .u64).c)] false) (qax zx (E:=(qa .u64)) (l:=j) rfl rfl w (nl rfl) rfl)) (ac (hs (.done (.opt (qd ZT 75 (.slice 0 0 j.length j.length 1) (.i (w64 (f+1))))) (.ptr 0 ((w64 (f+1):Int).toNat*1+0))) (vQ zt a3)) (ac (hs (.run [0] (zJ ZT 182 (.ptr 0 ((w64 (f+1):Int).toNat*1+0))) [.cells (j.flatMap (qa .u64).c),.cells (e.flatMap (qa .u64).c)] (.int .u64 x58) [.cells (j.flatMap (qa .u64).c),.cells (e.flatMap (qa .u64).c)] false) (qax zx (E:=(qa .u64)) (l:=j) rfl rfl a3 (nl rfl) rfl)) (ac (hs (.done (.opt (zn ZT .shl 182 (.tmp 124) (.tmp 126) (.int .u64 x58) (.i (w64 (64-g))))) (.int .u64 q59)) (qcQ e_q59)) (ac (hs (.done (.opt (qd ZT 75 (.slice 0 0 j.length j.length 1) (.i f))) (.ptr 0 ((f:Int).toNat*1+0))) (vQ zt w)) (ac (hs (.run [0] (qp ZT 182 (.ptr 0 ((f:Int).toNat*1+0)) (.int .u64 (orI .u64 x57 q59))) [.cells (j.flatMap (qa .u64).c),.cells (e.flatMap (qa .u64).c)] .undef [.cells (a4.flatMap (qa .u64).c),.cells (e.flatMap (qa .u64).c)] true) (yY (E:=(qa .u64)) (l:=j) (y:=orI .u64 x57 q59) rfl (show _=some 1 by kernel_rfl) rfl w rfl rfl rfl rfl rfl a5 rfl)) az))))))) ?_
      obtain rfl:=si g49
      exact⟨rfl,_,rfl,((show Sub (ofG 137 ((9,.i g)::(kC j (d.length:Int) e (kAY (d.length:Int) f))),[.cells (a4.flatMap (qa .u64).c),.cells (e.flatMap (qa .u64).c)]) (ofG 137 ((9,.i g)::(kC a4 (d.length:Int) e (kAY (d.length:Int) f))),[.cells (a4.flatMap (qa .u64).c),.cells (e.flatMap (qa .u64).c)])from(Sub.norm [] [some 0,some 1] rfl rfl (.keep (.same nI) (.keep (.sliceE rfl (vG a5)) (.keep (.same nI) (.keep (.slice rfl) (.keep (.same nI) (.keep (.same nI) .nil)))))) (.ks (.ks .nil)))).trans (Sub.refl _))⟩
     refine Goes.skip ?_
     obtain rfl:=si g49
     exact⟨rfl,_,rfl,(Sub.keep [9,11,12,13,96,97] rfl rfl)⟩
    rintro x s' ⟨rfl,D,rfl,hsub⟩
    refine Goes.sub hsub ?_
    refine gh fol ((9,.i g)::(kC D (d.length:Int) e (kAY (d.length:Int) (w64 (f+1))))) ?_
    exact⟨M,(ofG 137 ((9,.i g)::(kC D (d.length:Int) e (kAY (d.length:Int) (w64 (f+1))))),[.cells (D.flatMap (qa .u64).c),.cells (e.flatMap (qa .u64).c)]),Nat.lt_succ_self _,(Sub.refl _),_,_,rfl,g46⟩
   refine Goes.exit ?_
   obtain rfl:=si g46
   exact⟨rfl,_,rfl,(Sub.keep [11,12,13] rfl rfl)⟩
 rintro x s' ⟨rfl,I,rfl,hsub⟩
 refine Goes.sub hsub ?_
 refine sq (Goes.sub (s':=(ofG 137 [(11,vl (qa .u64) I),(12,.i (d.length:Int)),(13,.slice 0 0 e.length e.length 1)],[.cells (e.flatMap (qa .u64).c)])) (Sub.norm [0] [some 1] rfl rfl (.keep (.frz (Fz.sl (E:=(qa .u64)) rfl rfl (nl rfl)) (qf (qa .u64) _)) (.keep (.same nI) (.keep (.slice rfl) .nil))) (.ks .nil)) ?_)
 obtain⟨a6,e_r62,h⟩:=bnd h
 obtain⟨s63,e_s63,h⟩:=bnd h
 obtain⟨r64,e_r64,h⟩:=bnd h
 refine gq fol [1,4,5] [(4,vl (qa .u64) a6),(5,vl (qa .u64) r64)] [.frozen (e.flatMap (qa .u64).c)] (ac (hs (.callF 167 [.slice 0 0 e.length e.length 1] [.cells (e.flatMap (qa .u64).c)] [0] [vl (qa .u64) e] (vl (qa .u64) a6)) (qbO (FzL.cons (Fz.sl (E:=(qa .u64)) rfl rfl (nl rfl)) FzL.nil) (ve N e e_r62) (qZ (qa .u64) _ (nl rfl)))) (ac (hs (.done (.opt (yx ZT 75 (vl (qa .u64) I) none (some (.i (d.length:Int))) none)) (vl (qa .u64) s63)) (qk3 zt (E:=(qa .u64)) rfl none (some (d.length:Int)) e_s63)) (ac (cv (ve N s63 e_r64)) az))) ?_
 refine Goes.sub (show Sub (ofG 137 [(4,vl (qa .u64) a6),(5,vl (qa .u64) r64)],[.frozen (e.flatMap (qa .u64).c)]) (ofG 137 [(4,vl (qa .u64) a6),(5,vl (qa .u64) r64)],[])from(Sub.norm [] [] rfl rfl (.keep (.same (qf (qa .u64) _)) (.keep (.same (qf (qa .u64) _)) .nil)) .nil)) ?_
 refine Goes.ret ?_
 obtain rfl:=si h
 exact(gw2 [vl (qa .u64) a6,vl (qa .u64) r64] (FzW.tuple (qg.cons (Ua (qZ (qa .u64) _ (nl rfl))) (qg.cons (Ua (qZ (qa .u64) _ (nl rfl))) qg.nil))))
end Go.Av
