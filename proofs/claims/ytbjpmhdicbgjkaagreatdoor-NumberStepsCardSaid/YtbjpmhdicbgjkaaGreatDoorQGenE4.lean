/-
  Walks of functions: what each computes, as a plain function.
-/
import Derived.Test.YtbjpmhdicbgjkaaGreatDoorQGenE3
noncomputable section
namespace Go.Av
open Go.Proofs Go.RowKit
set_option linter.unusedSectionVars false
set_option linter.unusedVariables false
set_option linter.unusedSimpArgs false
set_option maxRecDepth 100000
def qa5 (N:Nat) (a:Str):Option Str:=
 (qaN N a).bind fun c=>
 if c=true then
 some a
 else
 (jf N a).bind fun b=>
 (qak N b.1 b.2).bind fun d=>
 (qap N d).bind fun e=>
 some e
theorem qeg (N:Nat) (a:Str) {res:Str} (h:qa5 N a=some res):qb ZT (.fn 33) [.str a] [] (.str res) []:=by
 unfold qa5 at h
 refine Ub Tryz.func33 rfl rfl (m:=17) rfl (rs:=[.tmp 2]) rfl (l:=(kAQ a [])) rfl ?_
 refine sh fol (kAQ a []) ?_
 refine sq ?_
 obtain⟨i,c,h⟩:=bnd h
 refine sq (gr fol [1] (kAQ a [(6,.bool i)]) (ac (cv (qgf N a c)) az) ?_)
 refine ihB h (fun j h=>?_) (fun j h=>?_)
 ·refine sh fol (kBs a) ?_
  refine Goes.ret ?_
  obtain rfl:=si h
  exact(gw2 [.str a] (Ua tS))
 refine Goes.skip ?_
 obtain⟨b,d,h⟩:=bnd h
 refine sq (gq fol [1] (kQ []) (kO b.1.neg b.1.w b.2.neg b.2.w []) (ac (cv (yB N a d)) az) ?_)
 obtain⟨k,e,h⟩:=bnd h
 obtain⟨g,f,h⟩:=bnd h
 refine sq (gr fol [2,3] (kBs g) (ac (cv (qfU N b.1 b.2 e)) (ac (cv (qbF N k f)) az)) ?_)
 refine Goes.ret ?_
 obtain rfl:=si h
 exact(gw2 [.str g] (Ua tS))
def qaj (N:Nat) (a:qm):Option qg:=
 (zU N a.Num a.Den).bind fun b=>
 some b.1
theorem qfV (N:Nat) (a:qm) {res:qg} (h:qaj N a=some res):qb ZT (.fn 103) [.agg (nq1 a)] [] (.agg (nz1 res)) []:=by
 unfold qaj at h
 refine Ub Tryz.func103 rfl rfl (m:=14) rfl (rs:=[.cell 2 106]) rfl (l:=[(0,.agg (nq1 a))]) rfl ?_
 refine sg fol (kAH []) [.cells (nq1 a),bZ] ?_
 obtain⟨b,c,h⟩:=bnd h
 refine sq (gq fol [4,10,11] [(2,.ptr 1 0),(3,.ptr 2 0)] [.cells (nq1 a),bZ,.cells (nz1 b.1),.cells (nz1 b.2)] (ac (cv (qbf N a.Num a.Den c)) (ac (hs (.run [2] (qo ZT 106 (.ptr 2 0) (.agg (nz1 b.1))) [.cells (nq1 a),bZ,bZ,bZ] .undef [.cells (nq1 a),bZ,.cells (nz1 b.1),bZ] true) (qH (n:=2) (by kernel_rfl) rfl rfl rfl rfl (cac rfl (cac nvc can)) rfl)) (ac (hs (.run [3] (qo ZT 106 (.ptr 3 0) (.agg (nz1 b.2))) [.cells (nq1 a),bZ,.cells (nz1 b.1),bZ] .undef [.cells (nq1 a),bZ,.cells (nz1 b.1),.cells (nz1 b.2)] true) (qH (n:=2) (by kernel_rfl) rfl rfl rfl rfl (cac rfl (cac nvc can)) rfl)) az))) ?_)
 refine sq (gq fol [1] kBX [.cells (nq1 a),.cells (nz1 b.1),.cells (nz1 b.1),.cells (nz1 b.2)] (ac (hs (.run [1] (qo ZT 106 (.ptr 1 0) (.agg (nz1 b.1))) [.cells (nq1 a),bZ,.cells (nz1 b.1),.cells (nz1 b.2)] .undef [.cells (nq1 a),.cells (nz1 b.1),.cells (nz1 b.1),.cells (nz1 b.2)] true) (qH (n:=2) (by kernel_rfl) rfl rfl rfl rfl (cac rfl (cac nvc can)) rfl)) az) ?_)
 refine Goes.ret ?_
 obtain rfl:=si h
 exact(gw2 [.agg (nz1 b.1)] (FzW.agg (qd.cons (Ua tI) (qd.cons (Ua (qp (qa .u64) _ (nl rfl))) qd.nil))))
def yS (l:List Str):Nat->Int->Option (Unit⊕Bool)
 |0,_=>none
 |K+1,a=>
  if a<(l.length:Int)then
  (idx l a).bind fun b=>
  if(b.length:Int)>60 then
  some (.inr true)
  else
  yS l K (w64 (a+1))
  else
  some (.inl ())
def qbw (N:Nat) (l:List Str):Option Bool:=
 (yS l N 0).bind (fun
 |(.inl ())=>
 some false
 |(.inr a)=>
 some a)
theorem qbG (N:Nat) (l:List Str) {res:Bool} (h:qbw N l=some res):qb ZT (.fn 11) [vl encS l] [] (.bool res) []:=by
 unfold qbw at h
 refine Ub Tryz.func11 rfl rfl (m:=16) rfl (rs:=[.tmp 2]) rfl (l:=(kBp l [])) rfl ?_
 refine sh fol (kBp l []) ?_
 refine sq ?_
 refine sh fol (kBp l [(3,.i 0)]) ?_
 refine Goes.block ?_
 obtain⟨c,g2,h⟩:=bnd h
 refine Goes.imp (Q:=fun x s'=>(x= .exit 0/\(.inl ())=c/\Sub s' (ofG 16 [],[]))\/(x= .ret/\ ∃d,(.inr d)=c/\zV ZT [.tmp 2] (.bool d) .ret s')) ?_ ?_
 ·refine Uc (fun M s=> ∃(a:Int),s=(ofG 16 (kA4 l a []),[])/\yS l M a=some c) ?_ (m:=N) ⟨_,rfl,g2⟩
  rintro M s ⟨a,rfl,g2⟩
  cases M with
  |zero=>simp only[yS]at g2;cases g2
  |succ M=>
   rw[yS]at g2
   refine sq ?_
   refine sh fol (kA4 l a [(7,.bool (decide (a<(l.length:Int))))]) ?_
   refine ihD g2 (fun e g2=>?_) (fun e g2=>?_)
   ·refine Goes.skip ?_
    refine sq (Goes.block ?_)
    obtain⟨f,b,g2⟩:=bnd g2
    refine sq (gr fol [2,3] (kA4 l a (kBa (decide ((f.length:Int)>60)))) (ac (iv sl56 encS b) (ac (lv 0 qgP encS b rfl) az)) ?_)
    refine ihD g2 (fun g g2=>?_) (fun g g2=>?_)
    ·refine sh fol [(2,.bool true)] ?_
     refine Goes.ret ?_
     obtain rfl:=si g2
     exact Or.inr (⟨rfl,_,rfl,(gw2 [.bool true] (Ua tB))⟩)
    refine Goes.skip ?_
    refine gh fol (kA4 l (w64 (a+1)) []) ?_
    exact⟨M,(ofG 16 (kA4 l (w64 (a+1)) []),[]),Nat.lt_succ_self _,(Sub.refl _),_,rfl,g2⟩
   refine Goes.exit ?_
   obtain rfl:=si g2
   exact Or.inl (⟨rfl,rfl,(Sub.keep [] rfl rfl)⟩)
 rintro x s' (⟨rfl,rfl,hsub⟩|⟨rfl,j,rfl,hret⟩)
 ·try dsimp only at h
  refine Goes.sub hsub ?_
  refine sh fol kA7 ?_
  refine Goes.ret ?_
  obtain rfl:=si h
  exact(gw2 [.bool false] (Ua tB))
 try dsimp only at h
 obtain rfl:=si h
 exact hret
def qZ (N:Nat) (v:List Str):Nat->Int->Option (Unit⊕Int)
 |0,_=>none
 |K+1,a=>
  if a<(v.length:Int)then
  (idx v a).bind fun c=>
  (yK N c).bind fun b=>
  if(!decide (b=0))=true then
  some (.inr b)
  else
  qZ N v K (w64 (a+1))
  else
  some (.inl ())
def qao (N:Nat) (v:List Str):Option Int:=
 (qZ N v N 0).bind (fun
 |(.inl ())=>
 some 0
 |(.inr a)=>
 some a)
theorem qfZ (N:Nat) (v:List Str) {res:Int} (h:qao N v=some res):qb ZT (.fn 78) [vl encS v] [] (.i res) []:=by
 unfold qao at h
 refine Ub Tryz.func78 rfl rfl (m:=19) rfl (rs:=[.tmp 2]) rfl (l:=(kBp v [])) rfl ?_
 refine sh fol (kBp v []) ?_
 refine sq ?_
 refine sh fol (kBp v [(3,.i 0)]) ?_
 refine Goes.block ?_
 obtain⟨e,g2,h⟩:=bnd h
 refine Goes.imp (Q:=fun x s'=>(x= .exit 0/\(.inl ())=e/\Sub s' (ofG 19 [],[]))\/(x= .ret/\ ∃f,(.inr f)=e/\zV ZT [.tmp 2] (.i f) .ret s')) ?_ ?_
 ·refine Uc (fun M s=> ∃(a:Int),s=(ofG 19 (kA4 v a []),[])/\qZ N v M a=some e) ?_ (m:=N) ⟨_,rfl,g2⟩
  rintro M s ⟨a,rfl,g2⟩
  cases M with
  |zero=>simp only[qZ]at g2;cases g2
  |succ M=>
   rw[qZ]at g2
   refine sq ?_
   refine sh fol (kA4 v a (kAz (decide (a<(v.length:Int))))) ?_
   refine ihD g2 (fun g g2=>?_) (fun g g2=>?_)
   ·refine Goes.skip ?_
    refine sq (Goes.block ?_)
    obtain⟨j,b,g2⟩:=bnd g2
    obtain⟨c,d,g2⟩:=bnd g2
    refine sq (gr fol [2,3,4] (kA4 v a (kB7 c)) (ac (iv sl56 encS b) (ac (lv 0 qgP encS b rfl) (ac (cv (qa7 N j d)) az))) ?_)
    refine sh fol (kA4 v a [(4,.i c),(17,.bool (!decide (c=0)))]) ?_
    refine ihB g2 (fun k g2=>?_) (fun k g2=>?_)
    ·refine sh fol (kBM c) ?_
     refine Goes.ret ?_
     obtain rfl:=si g2
     exact Or.inr (⟨rfl,_,rfl,(gw2 [.i c] (Ua tI))⟩)
    refine Goes.skip ?_
    refine gh fol (kA4 v (w64 (a+1)) []) ?_
    exact⟨M,(ofG 19 (kA4 v (w64 (a+1)) []),[]),Nat.lt_succ_self _,(Sub.refl _),_,rfl,g2⟩
   refine Goes.exit ?_
   obtain rfl:=si g2
   exact Or.inl (⟨rfl,rfl,(Sub.keep [] rfl rfl)⟩)
 rintro x s' (⟨rfl,rfl,hsub⟩|⟨rfl,n,rfl,hret⟩)
 ·try dsimp only at h
  refine Goes.sub hsub ?_
  refine sh fol kB3 ?_
  refine Goes.ret ?_
  obtain rfl:=si h
  exact(gw2 [.i 0] (Ua tI))
 try dsimp only at h
 obtain rfl:=si h
 exact hret
def ky (N:Nat) (t:List ve):Nat->Int->Option (Unit⊕Int)
 |0,_=>none
 |K+1,a=>
  if a<(t.length:Int)then
  (idx t a).bind fun b=>
  (qao N ([b.X,b.Y]:List Str)).bind fun f=>
  if(!decide (f=0))=true then
  some (.inr f)
  else
  (if a>0 then
  (idx t (w64 (a-1))).bind fun c=>
  (qaG N b.X c.X).bind fun d=>
  some (decide (d<=0))
  else
  some false:Option Bool).bind fun e=>
  if e=true then
  some (.inr 11)
  else
  ky N t K (w64 (a+1))
  else
  some (.inl ())
def yM (N:Nat) (t:List ve):Option Int:=
 if(t.length:Int)=0 then
 some 12
 else
 if(t.length:Int)>64 then
 some 5
 else
 (ky N t N 0).bind (fun
 |(.inl ())=>
 some 0
 |(.inr a)=>
 some a)
theorem qeb (N:Nat) (t:List ve) {res:Int} (h:yM N t=some res):qb ZT (.fn 12) [vl qw t] [] (.i res) []:=by
 unfold yM at h
 refine Ub Tryz.func12 rfl rfl (m:=49) rfl (rs:=[.tmp 2]) rfl (l:=(kAd t [])) rfl ?_
 refine sh fol (kAd t []) ?_
 refine sq ?_
 refine sh fol (kAd t [(7,.bool (decide ((t.length:Int)=0)))]) ?_
 refine ihD h (fun v h=>?_) (fun v h=>?_)
 ·refine sh fol [(2,.i 12)] ?_
  refine Goes.ret ?_
  obtain rfl:=si h
  exact(gw2 [.i 12] (Ua tI))
 refine Goes.skip ?_
 refine sq ?_
 refine sh fol (kAd t (kBV (decide ((t.length:Int)>64)))) ?_
 refine ihD h (fun w h=>?_) (fun w h=>?_)
 ·refine sh fol [(2,.i 5)] ?_
  refine Goes.ret ?_
  obtain rfl:=si h
  exact(gw2 [.i 5] (Ua tI))
 refine Goes.skip ?_
 refine sq ?_
 refine sh fol (kAd t [(3,.i 0)]) ?_
 refine Goes.block ?_
 obtain⟨n,g4,h⟩:=bnd h
 refine Goes.imp (Q:=fun x s'=>(x= .exit 0/\(.inl ())=n/\Sub s' (ofG 49 [],[]))\/(x= .ret/\ ∃u,(.inr u)=n/\zV ZT [.tmp 2] (.i u) .ret s')) ?_ ?_
 ·refine Uc (fun M s=> ∃(c:Int),s=(ofG 49 (kAd t (kBS c)),[])/\ky N t M c=some n) ?_ (m:=N) ⟨_,rfl,g4⟩
  rintro M s ⟨c,rfl,g4⟩
  cases M with
  |zero=>simp only[ky]at g4;cases g4
  |succ M=>
   rw[ky]at g4
   refine sq ?_
   refine sh fol (kAd t ((3,.i c)::(kBh (decide (c<(t.length:Int)))))) ?_
   refine ihD g4 (fun y g4=>?_) (fun y g4=>?_)
   ·refine Goes.skip ?_
    refine sq (Goes.block ?_)
    obtain⟨d,b,g4⟩:=bnd g4
    obtain⟨j,k,g4⟩:=bnd g4
    refine sq (gq fol [2,4,7,9,11] (kAd t ((3,.i c)::(kB7 j))) (kB d.X d.Y []) (ac (iv qhg qw b) (ac (lv 0 qgP qw b rfl) (ac (iv qhg qw b) (ac (lv 1 qgP qw b rfl) (ac (hs (.call 78 [.slice 0 0 2 2 1] (kB d.X d.Y []) [0] [vl encS ([d.X,d.Y]:List Str)] (.i j)) (qas (FzL.cons (Fz.lit rfl rfl (Ud (AllST.cons tS (AllST.cons tS AllST.nil)))) FzL.nil) (qfZ N ([d.X,d.Y]:List Str) k) tI rfl)) az))))) ?_)
    refine sq ?_
    refine sh fol (kAd t [(3,.i c),(4,.i j),(30,.bool (!decide (j=0)))]) ?_
    refine ihB g4 (fun z g4=>?_) (fun z g4=>?_)
    ·refine sh fol (kBM j) ?_
     refine Goes.ret ?_
     obtain rfl:=si g4
     exact Or.inr (⟨rfl,_,rfl,(gw2 [.i j] (Ua tI))⟩)
    refine Goes.skip ?_
    refine sq ?_
    obtain⟨o,a,g4⟩:=bnd g4
    refine Goes.cut (s':=(ofG 49 (kAd t [(3,.i c),(48,.bool o)]),(kB d.X d.Y []))) ?_ ?_
    ·rcases wyD a with⟨f,a⟩|⟨f,a⟩
     ·obtain⟨p,e,a⟩:=bnd a
      obtain⟨q,g,a⟩:=bnd a
      obtain rfl:=si a
      exact tr fol [2,5,7,11,13,14] (kAd t [(3,.i c),(48,.bool (decide (q<=0)))]) (ac (gw f) (ac (iv qhg qw b) (ac (lv 0 qgP qw b rfl) (ac (iv qhg qw e) (ac (lv 0 qgP qw e rfl) (ac (cv (qdu N d.X p.X g)) az))))))
     obtain rfl:=si a
     exact tr fol [2] (kAd t [(3,.i c),(48,.bool false)]) (ac (gw f) az)
    refine ihB g4 (fun r g4=>?_) (fun r g4=>?_)
    ·refine sh fol [(2,.i 11)] ?_
     refine Goes.ret ?_
     obtain rfl:=si g4
     exact Or.inr (⟨rfl,_,rfl,(gw2 [.i 11] (Ua tI))⟩)
    refine Goes.skip ?_
    refine gh fol (kAd t (kBS (w64 (c+1)))) ?_
    exact⟨M,(ofG 49 (kAd t (kBS (w64 (c+1)))),[]),Nat.lt_succ_self _,(Sub.norm [] [] rfl rfl (.keep (.same (qf qw _)) (.keep (.same nI) .nil)) .nil),_,rfl,g4⟩
   refine Goes.exit ?_
   obtain rfl:=si g4
   exact Or.inl (⟨rfl,rfl,(Sub.keep [] rfl rfl)⟩)
 rintro x s' (⟨rfl,rfl,hsub⟩|⟨rfl,A,rfl,hret⟩)
 ·try dsimp only at h
  refine Goes.sub hsub ?_
  refine sh fol kB3 ?_
  refine Goes.ret ?_
  obtain rfl:=si h
  exact(gw2 [.i 0] (Ua tI))
 try dsimp only at h
 obtain rfl:=si h
 exact hret
def kE (N:Nat) (t:List ve):Nat->Int->Option (Unit⊕Int)
 |0,_=>none
 |K+1,a=>
  if a<(t.length:Int)then
  (idx t a).bind fun c=>
  (xS N ([c.X,c.Y]:List Str)).bind fun b=>
  if(!decide (b=0))=true then
  some (.inr b)
  else
  (if a>0 then
  (vz N c.X).bind fun d=>
  (idx t (w64 (a-1))).bind fun e=>
  (vz N e.X).bind fun f=>
  (zx N d f).bind fun g=>
  some (decide (g<=0))
  else
  some false:Option Bool).bind fun h=>
  if h=true then
  some (.inr 11)
  else
  kE N t K (w64 (a+1))
  else
  some (.inl ())
def vN (N:Nat) (t:List ve):Option Int:=
 (qK (decide ((t.length:Int)=0)) 12).bind fun c=>
 (qK (decide ((t.length:Int)>64)) 5).bind fun d=>
 (kN N ([c,d]:List Int)).bind fun b=>
 if(!decide (b=0))=true then
 some b
 else
 (kE N t N 0).bind (fun
 |(.inl ())=>
 some 0
 |(.inr a)=>
 some a)
theorem qbK (N:Nat) (t:List ve) {res:Int} (h:vN N t=some res):qb ZT (.fn 13) [vl qw t] [] (.i res) []:=by
 unfold vN at h
 refine Ub Tryz.func13 rfl rfl (m:=53) rfl (rs:=[.tmp 2]) rfl (l:=(kAd t [])) rfl ?_
 refine sh fol (kAd t []) ?_
 refine sq ?_
 obtain⟨v,q,h⟩:=bnd h
 obtain⟨w,r,h⟩:=bnd h
 obtain⟨p,u,h⟩:=bnd h
 refine sq (gq fol [3,7,9] (kAd t (kBS p)) (kAE v w) (ac (cv (ji (decide ((t.length:Int)=0)) 12 q)) (ac (cv (ji (decide ((t.length:Int)>64)) 5 r)) (ac (hs (.call 79 [.slice 0 0 2 2 1] (kAE v w) [0] [vl encI ([v,w]:List Int)] (.i p)) (qas (FzL.cons (Fz.lit rfl rfl (Ud (AllST.cons tI (AllST.cons tI AllST.nil)))) FzL.nil) (yG N ([v,w]:List Int) u) tI rfl)) az))) ?_)
 refine sh fol (kAd t [(3,.i p),(18,.bool (!decide (p=0)))]) ?_
 refine ihB h (fun H h=>?_) (fun H h=>?_)
 ·refine sh fol (kBM p) ?_
  refine Goes.ret ?_
  obtain rfl:=si h
  exact(gw2 [.i p] (Ua tI))
 refine Goes.skip ?_
 refine sq ?_
 refine sh fol (kAd t (kBe t [(21,.i (t.length:Int)),(22,.i 0)])) ?_
 refine Goes.block ?_
 obtain⟨y,g6,h⟩:=bnd h
 refine Goes.imp (Q:=fun x s'=>(x= .exit 0/\(.inl ())=y/\Sub s' (ofG 53 [],[]))\/(x= .ret/\ ∃G,(.inr G)=y/\zV ZT [.tmp 2] (.i G) .ret s')) ?_ ?_
 ·refine Goes.sub (s':=(ofG 53 (kAd t (kBe t [(21,.i (t.length:Int)),(22,.i 0)])),[])) (Sub.norm [] [] rfl rfl (.keep (.same (qf qw _)) (.keep (.same (qf qw _)) (.keep (.same nI) (.keep (.same nI) .nil)))) .nil) ?_
  refine Uc (fun M s=> ∃(c:Int),s=(ofG 53 (kAd t (kBe t (kAL (t.length:Int) c []))),[])/\kE N t M c=some y) ?_ (m:=N) ⟨_,rfl,g6⟩
  rintro M s ⟨c,rfl,g6⟩
  cases M with
  |zero=>simp only[kE]at g6;cases g6
  |succ M=>
   rw[kE]at g6
   refine sh fol (kAd t (kBe t (kAL (t.length:Int) c [(23,.bool (decide (c<(t.length:Int))))]))) ?_
   refine sq ?_
   refine ihD g6 (fun I g6=>?_) (fun I g6=>?_)
   ·refine Goes.skip ?_
    refine sq (Goes.block ?_)
    obtain⟨b,f,g6⟩:=bnd g6
    refine sq (gq fol [1,2] (kAd t ((4,.i c)::(5,.ptr 0 0)::(kBe t (kAL (t.length:Int) c [])))) (kB b.X b.Y []) (ac (iv qhg qw f) (ac (la ag27 qw f) az)) ?_)
    refine sq ?_
    obtain⟨d,g,g6⟩:=bnd g6
    refine sq (gq fol [5] (kAd t ((4,.i c)::(5,.ptr 0 0)::(6,.i d)::(kBe t (kAL (t.length:Int) c [])))) (kB b.X b.Y (kB b.X b.Y [])) (ac (hs (.call 81 [.slice 1 0 2 2 1] (kB b.X b.Y (kB b.X b.Y [])) [1] [vl encS ([b.X,b.Y]:List Str)] (.i d)) (qas (FzL.cons (Fz.lit rfl rfl (Ud (AllST.cons tS (AllST.cons tS AllST.nil)))) FzL.nil) (qfi N ([b.X,b.Y]:List Str) g) tI rfl)) az) ?_)
    refine sh fol (kAd t ((4,.i c)::(5,.ptr 0 0)::(6,.i d)::(kBe t (kAL (t.length:Int) c [(34,.bool (!decide (d=0)))])))) ?_
    refine ihB g6 (fun z g6=>?_) (fun z g6=>?_)
    ·refine sh fol (kBM d) ?_
     refine Goes.ret ?_
     obtain rfl:=si g6
     exact Or.inr (⟨rfl,_,rfl,(gw2 [.i d] (Ua tI))⟩)
    refine Goes.skip ?_
    refine sq ?_
    obtain⟨A,a,g6⟩:=bnd g6
    refine Goes.cut (s':=(ofG 53 (kAd t (kBe t (kAL (t.length:Int) c [(51,.bool A)]))),(kB b.X b.Y (kB b.X b.Y [])))) ?_ ?_
    ·rcases wyD a with⟨j,a⟩|⟨j,a⟩
     ·obtain⟨B,k,a⟩:=bnd a
      obtain⟨C,e,a⟩:=bnd a
      obtain⟨D,n,a⟩:=bnd a
      obtain⟨E,o,a⟩:=bnd a
      obtain rfl:=si a
      exact tr fol [2,5,9,11,12,13] (kAd t (kBe t (kAL (t.length:Int) c [(51,.bool (decide (E<=0)))]))) (ac (gw j) (ac (cv (qaz N b.X k)) (ac (iv qhg qw e) (ac (lv 0 qgP qw e rfl) (ac (cv (qaz N C.X n)) (ac (cv (vO N B D o)) az))))))
     obtain rfl:=si a
     exact tr fol [2] (kAd t (kBe t (kAL (t.length:Int) c [(51,.bool false)]))) (ac (gw j) az)
    refine ihB g6 (fun F g6=>?_) (fun F g6=>?_)
    ·refine sh fol [(2,.i 11)] ?_
     refine Goes.ret ?_
     obtain rfl:=si g6
     exact Or.inr (⟨rfl,_,rfl,(gw2 [.i 11] (Ua tI))⟩)
    refine Goes.skip ?_
    refine gh fol (kAd t (kBe t (kAL (t.length:Int) (w64 (c+1)) []))) ?_
    exact⟨M,(ofG 53 (kAd t (kBe t (kAL (t.length:Int) (w64 (c+1)) []))),[]),Nat.lt_succ_self _,(Sub.norm [] [] rfl rfl (.keep (.same (qf qw _)) (.keep (.same (qf qw _)) (.keep (.same nI) (.keep (.same nI) .nil)))) .nil),_,rfl,g6⟩
   refine Goes.exit ?_
   obtain rfl:=si g6
   exact Or.inl (⟨rfl,rfl,(Sub.keep [] rfl rfl)⟩)
 rintro x s' (⟨rfl,rfl,hsub⟩|⟨rfl,J,rfl,hret⟩)
 ·try dsimp only at h
  refine Goes.sub hsub ?_
  refine sh fol kB3 ?_
  refine Goes.ret ?_
  obtain rfl:=si h
  exact(gw2 [.i 0] (Ua tI))
 try dsimp only at h
 obtain rfl:=si h
 exact hret
def yz (N:Nat) (t:List ve) (g:qm):Nat->Int->Str->Int->Option (Str×Int)
 |0,_,_,_=>none
 |K+1,b,h,i=>
  if b<(t.length:Int)then
  (((idx t b).bind fun a=>
  (vz N a.X).bind fun c=>
  (zx N c g).bind fun d=>
  if d<=0 then
  some (a.Y,0)
  else
  some (h,i):Option (Str×Int))).bind fun(e,f)=>
  yz N t g K (w64 (b+1)) e f
  else
  some (h,i)
def qaq (N:Nat) (t:List ve) (b:Str):Option (Str×Int):=
 (vN N t).bind fun d=>
 (xD N b).bind fun e=>
 (kN N ([d,e]:List Int)).bind fun c=>
 if(!decide (c=0))=true then
 some ([],c)
 else
 (vz N b).bind fun f=>
 (yz N t f N 0 [] 3).bind fun(g,a)=>
 some (g,a)
theorem qhu (N:Nat) (t:List ve) (j:Str) {res:Str×Int} (h:qaq N t j=some res):qb ZT (.fn 14) [vl qw t,.str j] [] (.tuple (kA9 res.1 res.2)) []:=by
 unfold qaq at h
 refine Ub Tryz.func14 rfl rfl (m:=40) rfl (rs:=[.tmp 4,.tmp 5]) rfl (l:=(kW t j [])) rfl ?_
 refine sh fol (kW t j []) ?_
 refine sq ?_
 obtain⟨k,w,h⟩:=bnd h
 obtain⟨o,y,h⟩:=bnd h
 obtain⟨r,z,h⟩:=bnd h
 refine sq (gq fol [1,3,5] (kW t j (kB4 r)) (kAE k o) (ac (cv (qbK N t w)) (ac (cv (qaS N j y)) (ac (hs (.call 79 [.slice 0 0 2 2 1] (kAE k o) [0] [vl encI ([k,o]:List Int)] (.i r)) (qas (FzL.cons (Fz.lit rfl rfl (Ud (AllST.cons tI (AllST.cons tI AllST.nil)))) FzL.nil) (yG N ([k,o]:List Int) z) tI rfl)) az))) ?_)
 refine sh fol (kW t j [(6,.i r),(19,.bool (!decide (r=0)))]) ?_
 refine ihB h (fun I h=>?_) (fun I h=>?_)
 ·refine sh fol ((4,.str [])::(kA5 r)) ?_
  refine Goes.ret ?_
  obtain rfl:=si h
  exact(gw2 [.str [],.i r] (FzW.tuple (qd.cons (Ua tS) (qd.cons (Ua tI) qd.nil))))
 refine Goes.skip ?_
 obtain⟨f,A,h⟩:=bnd h
 refine sq (gq fol [1,3] (kAd t [(7,.ptr 1 0)]) (kBQ k o [.cells (nq1 f)]) (ac (cv (qaz N j A)) (ac (hs (.run [1] (qo ZT 108 (.ptr 1 0) (.agg (nq1 f))) (kBQ k o (kD [])) .undef (kBQ k o [.cells (nq1 f)]) true) (qH (n:=4) (by kernel_rfl) rfl rfl rfl rfl (cac rfl (cac nvc (cac rfl (cac nvc can)))) rfl)) az)) ?_)
 refine sh fol (kAd t [(7,.ptr 1 0),(8,.str []),(9,.i 3)]) ?_
 refine sq ?_
 refine sh fol [(7,.ptr 1 0),(8,.str []),(9,.i 3),(23,vl qw t),(24,.i (t.length:Int)),(25,.i 0)] ?_
 refine Goes.block ?_
 obtain⟨B,g11,h⟩:=bnd h
 refine Goes.imp (Q:=fun x s'=>(x= .exit 0/\ ∃C a,(C,a)=B/\Sub s' (ofG 40 [(8,.str C),(9,.i a)],[]))) ?_ ?_
 ·refine Goes.sub (s':=(ofG 40 [(7,.ptr 0 0),(8,.str []),(9,.i 3),(23,vl qw t),(24,.i (t.length:Int)),(25,.i 0)],[.cells (nq1 f)])) (Sub.norm [] [some 1] rfl rfl (.kp (.keep (.same nS) (.keep (.same nI) (.keep (.same (qf qw _)) (.keep (.same nI) (.keep (.same nI) .nil)))))) (.kb rfl (.same sn) .nil)) ?_
  refine Uc (fun M s=> ∃(b:Int) (u:Str) (v:Int),s=(ofG 40 (kA0 u v t (t.length:Int) b []),[.cells (nq1 f)])/\yz N t f M b u v=some B) ?_ (m:=N) ⟨_,_,_,rfl,g11⟩
  rintro M s ⟨b,u,v,rfl,g11⟩
  cases M with
  |zero=>simp only[yz]at g11;cases g11
  |succ M=>
   rw[yz]at g11
   refine sh fol (kA0 u v t (t.length:Int) b [(26,.bool (decide (b<(t.length:Int))))]) ?_
   refine sq ?_
   refine ihD g11 (fun D g11=>?_) (fun D g11=>?_)
   ·refine Goes.skip ?_
    refine sq ?_
    obtain⟨E,g15,g11⟩:=bnd g11
    refine Goes.imp (Q:=fun x s'=>(x= .normal/\ ∃c d,(c,d)=E/\Sub s' (ofG 40 (kA0 c d t (t.length:Int) b []),[.cells (nq1 f)]))) ?_ ?_
    ·refine Goes.block ?_
     obtain⟨g,e,g15⟩:=bnd g15
     refine sq (gq fol [0,1] [(7,.ptr 0 0),(8,.str u),(9,.i v),(11,.ptr 1 0),(23,vl qw t),(24,.i (t.length:Int)),(25,.i b)] (.cells (nq1 f)::(kB g.X g.Y [])) (ac (iv qhg qw e) (ac (la ag27 qw e) az)) ?_)
     obtain⟨F,p,g15⟩:=bnd g15
     obtain⟨G,q,g15⟩:=bnd g15
     refine sq (gr fol [2,4] [(7,.ptr 0 0),(8,.str u),(9,.i v),(11,.ptr 1 0),(23,vl qw t),(24,.i (t.length:Int)),(25,.i b),(34,.bool (decide (G<=0)))] (ac (cv (qaz N g.X p)) (ac (cv (vO N F f q)) az)) ?_)
     refine ihD g15 (fun H g15=>?_) (fun H g15=>?_)
     ·refine gh fol [(7,.ptr 0 0),(8,.str g.Y),(9,.i 0),(23,vl qw t),(24,.i (t.length:Int)),(25,.i b)] ?_
      obtain rfl:=si g15
      exact⟨rfl,_,_,rfl,(Sub.norm [] [some 0] rfl rfl (.kp (.keep (.same nS) (.keep (.same nI) (.keep (.same (qf qw _)) (.keep (.same nI) (.keep (.same nI) .nil)))))) (.kb rfl (.same sn) .nil))⟩
     refine Goes.skip ?_
     obtain rfl:=si g15
     exact⟨rfl,_,_,rfl,(Sub.norm [] [some 0] rfl rfl (.kp (.keep (.same nS) (.keep (.same nI) (.drop (.keep (.same (qf qw _)) (.keep (.same nI) (.keep (.same nI) .nil))))))) (.kb rfl (.same sn) .nil))⟩
    rintro x s' ⟨rfl,c,d,rfl,hsub⟩
    try dsimp only at g11
    refine Goes.sub hsub ?_
    refine gh fol (kA0 c d t (t.length:Int) (w64 (b+1)) []) ?_
    exact⟨M,(ofG 40 (kA0 c d t (t.length:Int) (w64 (b+1)) []),[.cells (nq1 f)]),Nat.lt_succ_self _,(Sub.refl _),_,_,_,rfl,g11⟩
   refine Goes.exit ?_
   obtain rfl:=si g11
   exact⟨rfl,_,_,rfl,(Sub.norm [] [] rfl rfl (.drop (.keep (.same nS) (.keep (.same nI) .nil))) .nil)⟩
 rintro x s' ⟨rfl,C,a,rfl,hsub⟩
 try dsimp only at h
 refine Goes.sub hsub ?_
 refine sh fol ((4,.str C)::(kA5 a)) ?_
 refine Goes.ret ?_
 obtain rfl:=si h
 exact(gw2 (kA9 C a) (FzW.tuple (qd.cons (Ua tS) (qd.cons (Ua tI) qd.nil))))
def qf3 (n:Int):Option qm:=
 (qcy n).bind fun a=>
 (qa2 a).bind fun b=>
 some b
theorem qeD (n:Int) {res:qm} (h:qf3 n=some res):qb ZT (.fn 84) [.i n] [] (.agg (nq1 res)) []:=by
 unfold qf3 at h
 refine Ub Tryz.func84 rfl rfl (m:=6) rfl (rs:=[.cell 2 108]) rfl (l:=[(0,.i n)]) rfl ?_
 refine sg fol ((0,.i n)::(kAM [])) (kD []) ?_
 obtain⟨d,a,h⟩:=bnd h
 obtain⟨c,b,h⟩:=bnd h
 refine sq (gq fol [1,2,3] (kAM []) [.cells (nq1 c)] (ac (cv (qby n a)) (ac (cv (qb4 d b)) (ac (hs (.run [0] (qo ZT 108 (.ptr 0 0) (.agg (nq1 c))) (kD []) .undef [.cells (nq1 c)] true) (qH (n:=4) (by kernel_rfl) rfl rfl rfl rfl (cac rfl (cac nvc (cac rfl (cac nvc can)))) rfl)) az))) ?_)
 refine Goes.ret ?_
 obtain rfl:=si h
 exact(gw2 [.agg (nq1 c)] (FzW.agg (qd.cons (Ua tI) (qd.cons (Ua (qp (qa .u64) _ (nl rfl))) (qd.cons (Ua tI) (qd.cons (Ua (qp (qa .u64) _ (nl rfl))) qd.nil))))))
def xN (N:Nat) (a:qm):Option qm:=
 (qaj N a).bind fun b=>
 (qa2 b).bind fun c=>
 some c
theorem qdU (N:Nat) (a:qm) {res:qm} (h:xN N a=some res):qb ZT (.fn 85) [.agg (nq1 a)] [] (.agg (nq1 res)) []:=by
 unfold xN at h
 refine Ub Tryz.func85 rfl rfl (m:=6) rfl (rs:=[.cell 2 108]) rfl (l:=[(0,.agg (nq1 a))]) rfl ?_
 refine sg fol (kAH []) (.cells (nq1 a)::(kD [])) ?_
 obtain⟨e,b,h⟩:=bnd h
 obtain⟨d,c,h⟩:=bnd h
 refine sq (gq fol [1,2,3] kBX [.cells (nq1 a),.cells (nq1 d)] (ac (cv (qfV N a b)) (ac (cv (qb4 e c)) (ac (hs (.run [1] (qo ZT 108 (.ptr 1 0) (.agg (nq1 d))) (.cells (nq1 a)::(kD [])) .undef [.cells (nq1 a),.cells (nq1 d)] true) (qH (n:=4) (by kernel_rfl) rfl rfl rfl rfl (cac rfl (cac nvc (cac rfl (cac nvc can)))) rfl)) az))) ?_)
 refine Goes.ret ?_
 obtain rfl:=si h
 exact(gw2 [.agg (nq1 d)] (FzW.agg (qd.cons (Ua tI) (qd.cons (Ua (qp (qa .u64) _ (nl rfl))) (qd.cons (Ua tI) (qd.cons (Ua (qp (qa .u64) _ (nl rfl))) qd.nil))))))
def kC (N:Nat) (f:jy) (times:qm) (g:jy):Option jy:=
 (xL N f.n times).bind fun a=>
 (xJ N a g.n).bind fun b=>
 (xL N f.d times).bind fun c=>
 (xJ N c g.d).bind fun e=>
 some (⟨b,e⟩:jy)
theorem qa4 (N:Nat) (f:jy) (times:qm) (g:jy) {res:jy} (h:kC N f times g=some res):qb ZT (.fn 86) [.agg (nq2 f.n f.d),.agg (nq1 times),.agg (nq2 g.n g.d)] [] (.agg (nq2 res.n res.d)) []:=by
 unfold kC at h
 refine Ub Tryz.func86 rfl rfl (m:=22) rfl (rs:=[.cell 6 113]) rfl (l:=[(0,.agg (nq2 f.n f.d)),(1,.agg (nq1 times)),(2,.agg (nq2 g.n g.d))]) rfl ?_
 refine sg fol (kQ [(5,.ptr 2 0),(6,.ptr 3 0)]) (.cells (nq2 f.n f.d):: .cells (nq1 times):: .cells (nq2 g.n g.d)::(kAI [])) ?_
 obtain⟨k,a,h⟩:=bnd h
 obtain⟨i,b,h⟩:=bnd h
 obtain⟨o,c,h⟩:=bnd h
 obtain⟨j,e,h⟩:=bnd h
 refine sq (gq fol [3,6,10,13,15] [(6,.ptr 3 0)] [.cells (nq2 f.n f.d),.cells (nq1 times),.cells (nq2 g.n g.d),.cells (nq2 i j)] (ac (cv (qbW N f.n times a)) (ac (cv (qbZ N k g.n b)) (ac (cv (qbW N f.d times c)) (ac (cv (qbZ N o g.d e)) (ac (hs (.run [3] (qo ZT 113 (.ptr 3 0) (.agg (nq2 i j))) (.cells (nq2 f.n f.d):: .cells (nq1 times):: .cells (nq2 g.n g.d)::(kAI [])) .undef [.cells (nq2 f.n f.d),.cells (nq1 times),.cells (nq2 g.n g.d),.cells (nq2 i j)] true) (qH (n:=8) (by kernel_rfl) rfl rfl rfl rfl (cac rfl (cac nvc (cac rfl (cac nvc (cac rfl (cac nvc (cac rfl (cac nvc can)))))))) rfl)) az))))) ?_)
 refine Goes.ret ?_
 obtain rfl:=si h
 exact(gw2 [.agg (nq2 i j)] (FzW.agg (qd.cons (Ua tI) (qd.cons (Ua (qp (qa .u64) _ (nl rfl))) (qd.cons (Ua tI) (qd.cons (Ua (qp (qa .u64) _ (nl rfl))) (qd.cons (Ua tI) (qd.cons (Ua (qp (qa .u64) _ (nl rfl))) (qd.cons (Ua tI) (qd.cons (Ua (qp (qa .u64) _ (nl rfl))) qd.nil))))))))))
def jO (vals:List Int):Nat->Int->Option (Unit⊕Int)
 |0,_=>none
 |K+1,a=>
  if a<(vals.length:Int)then
  (idx vals a).bind fun b=>
  if(!decide (b=0))=true then
  some (.inr b)
  else
  jO vals K (w64 (a+1))
  else
  some (.inl ())
def qcv (N:Nat) (vals:List Int):Option Int:=
 (jO vals N 0).bind (fun
 |(.inl ())=>
 some 0
 |(.inr a)=>
 some a)
theorem qiz (N:Nat) (vals:List Int) {res:Int} (h:qcv N vals=some res):qb ZT (.fn 91) [vl encI vals] [] (.i res) []:=by
 unfold qcv at h
 refine Ub Tryz.func91 rfl rfl (m:=18) rfl (rs:=[.tmp 2]) rfl (l:=(kAn vals [])) rfl ?_
 refine sh fol (kAn vals []) ?_
 refine sh fol (kAn vals [(3,.i 0)]) ?_
 refine sq ?_
 refine sh fol [(3,.i 0),(6,vl encI vals),(7,.i (vals.length:Int)),(8,.i 0)] ?_
 refine Goes.block ?_
 obtain⟨d,g2,h⟩:=bnd h
 refine Goes.imp (Q:=fun x s'=>(x= .exit 0/\(.inl ())=d/\Sub s' (ofG 18 [(3,.i 0)],[]))\/(x= .ret/\ ∃e,(.inr e)=d/\zV ZT [.tmp 2] (.i e) .ret s')) ?_ ?_
 ·refine Uc (fun M s=> ∃(a:Int),s=(ofG 18 ((3,.i 0)::(6,vl encI vals)::(kAh (vals.length:Int) a)),[])/\jO vals M a=some d) ?_ (m:=N) ⟨_,rfl,g2⟩
  rintro M s ⟨a,rfl,g2⟩
  cases M with
  |zero=>simp only[jO]at g2;cases g2
  |succ M=>
   rw[jO]at g2
   refine sh fol [(3,.i 0),(6,vl encI vals),(7,.i (vals.length:Int)),(8,.i a),(9,.bool (decide (a<(vals.length:Int))))] ?_
   refine sq ?_
   refine ihD g2 (fun f g2=>?_) (fun f g2=>?_)
   ·refine Goes.skip ?_
    refine sq (Goes.block ?_)
    obtain⟨c,b,g2⟩:=bnd g2
    refine sq (gr fol [0,1] ((3,.i 0)::(5,.i c)::(6,vl encI vals)::(kAh (vals.length:Int) a)) (ac (iv jH encI b) (ac (lv 0 ce3 encI b rfl) az)) ?_)
    refine sh fol ((3,.i 0)::(5,.i c)::(6,vl encI vals)::(7,.i (vals.length:Int))::(8,.i a)::(kBh (!decide (c=0)))) ?_
    refine ihB g2 (fun g g2=>?_) (fun g g2=>?_)
    ·refine sh fol (kBM c) ?_
     refine Goes.ret ?_
     obtain rfl:=si g2
     exact Or.inr (⟨rfl,_,rfl,(gw2 [.i c] (Ua tI))⟩)
    refine Goes.skip ?_
    refine gh fol ((3,.i 0)::(6,vl encI vals)::(kAh (vals.length:Int) (w64 (a+1)))) ?_
    exact⟨M,(ofG 18 ((3,.i 0)::(6,vl encI vals)::(kAh (vals.length:Int) (w64 (a+1)))),[]),Nat.lt_succ_self _,(Sub.refl _),_,rfl,g2⟩
   refine Goes.exit ?_
   obtain rfl:=si g2
   exact Or.inl (⟨rfl,rfl,(Sub.keep [3] rfl rfl)⟩)
 rintro x s' (⟨rfl,rfl,hsub⟩|⟨rfl,j,rfl,hret⟩)
 ·try dsimp only at h
  refine Goes.sub hsub ?_
  refine sh fol kB3 ?_
  refine Goes.ret ?_
  obtain rfl:=si h
  exact(gw2 [.i 0] (Ua tI))
 try dsimp only at h
 obtain rfl:=si h
 exact hret
def qaQ (a:qm):Option Int:=
 (ko a.Num).bind fun b=>
 some b
theorem qgq (a:qm) {res:Int} (h:qaQ a=some res):qb ZT (.fn 99) [.agg (nq1 a)] [] (.i res) []:=by
 unfold qaQ at h
 refine Ub Tryz.func99 rfl rfl (m:=6) rfl (rs:=[.tmp 2]) rfl (l:=[(0,.agg (nq1 a))]) rfl ?_
 refine sg fol (kA2 []) [.cells (nq1 a)] ?_
 obtain⟨c,b,h⟩:=bnd h
 refine sq (gr fol [2] (kBM c) (ac (cv (yH a.Num b)) az) ?_)
 refine Goes.ret ?_
 obtain rfl:=si h
 exact(gw2 [.i c] (Ua tI))
def qbx (N:Nat) (a:qm) (b:qm):Option qm:=
 (vT N a b).bind fun c=>
 (qaQ c).bind fun d=>
 if d<0 then
 (vT N b a).bind fun e=>
 some e
 else
 some c
theorem qe3 (N:Nat) (a:qm) (b:qm) {res:qm} (h:qbx N a b=some res):qb ZT (.fn 92) [.agg (nq1 a),.agg (nq1 b)] [] (.agg (nq1 res)) []:=by
 unfold qbx at h
 refine Ub Tryz.func92 rfl rfl (m:=16) rfl (rs:=[.cell 4 108]) rfl (l:=[(0,.agg (nq1 a)),(1,.agg (nq1 b))]) rfl ?_
 refine sg fol (kH []) (.cells (nq1 a):: .cells (nq1 b)::(kD [])) ?_
 obtain⟨c,d,h⟩:=bnd h
 refine sq (gq fol [2,4] (kH (kBc [])) (.cells (nq1 a):: .cells (nq1 b)::(kD [.cells (nq1 c)])) (ac (cv (qaT N a b d)) (ac (hs (.run [3] (qo ZT 108 (.ptr 3 0) (.agg (nq1 c))) (.cells (nq1 a):: .cells (nq1 b)::(kD (kD []))) .undef (.cells (nq1 a):: .cells (nq1 b)::(kD [.cells (nq1 c)])) true) (qH (n:=4) (by kernel_rfl) rfl rfl rfl rfl (cac rfl (cac nvc (cac rfl (cac nvc can)))) rfl)) az)) ?_)
 refine sq ?_
 obtain⟨i,e,h⟩:=bnd h
 refine sq (gr fol [1] (kH (kBc [(11,.bool (decide (i<0)))])) (ac (cv (qgq c e)) az) ?_)
 refine ihD h (fun j h=>?_) (fun j h=>?_)
 ·obtain⟨g,f,h⟩:=bnd h
  refine sq (gq fol [2,3] (kAU []) [.cells (nq1 a),.cells (nq1 b),.cells (nq1 g),.cells (nq1 c)] (ac (cv (qaT N b a f)) (ac (hs (.run [2] (qo ZT 108 (.ptr 2 0) (.agg (nq1 g))) (.cells (nq1 a):: .cells (nq1 b)::(kD [.cells (nq1 c)])) .undef [.cells (nq1 a),.cells (nq1 b),.cells (nq1 g),.cells (nq1 c)] true) (qH (n:=4) (by kernel_rfl) rfl rfl rfl rfl (cac rfl (cac nvc (cac rfl (cac nvc can)))) rfl)) az)) ?_)
  refine Goes.ret ?_
  obtain rfl:=si h
  exact(gw2 [.agg (nq1 g)] (FzW.agg (qd.cons (Ua tI) (qd.cons (Ua (qp (qa .u64) _ (nl rfl))) (qd.cons (Ua tI) (qd.cons (Ua (qp (qa .u64) _ (nl rfl))) qd.nil))))))
 refine Goes.skip ?_
 refine sq (gq fol [1] (kAU []) [.cells (nq1 a),.cells (nq1 b),.cells (nq1 c),.cells (nq1 c)] (ac (hs (.run [2] (qo ZT 108 (.ptr 2 0) (.agg (nq1 c))) (.cells (nq1 a):: .cells (nq1 b)::(kD [.cells (nq1 c)])) .undef [.cells (nq1 a),.cells (nq1 b),.cells (nq1 c),.cells (nq1 c)] true) (qH (n:=4) (by kernel_rfl) rfl rfl rfl rfl (cac rfl (cac nvc (cac rfl (cac nvc can)))) rfl)) az) ?_)
 refine Goes.ret ?_
 obtain rfl:=si h
 exact(gw2 [.agg (nq1 c)] (FzW.agg (qd.cons (Ua tI) (qd.cons (Ua (qp (qa .u64) _ (nl rfl))) (qd.cons (Ua tI) (qd.cons (Ua (qp (qa .u64) _ (nl rfl))) qd.nil))))))
def zQ (N:Nat) (r:qm):Nat->Int->(List Int)->Int->(List Int)->Int->(List Int)->Int->(List Int)->Int->(List Int)->Int->(List Int)->Int->(List Int)->Int->(List Int)->Int->(List Int)->Int->(List Int)->Option ((Int×(List Int)×Int×(List Int)×Int×(List Int)×Int×(List Int)×Int×(List Int)×Int×(List Int)×Int×(List Int)×Int×(List Int))⊕(Str×Int))
 |0,_,_,_,_,_,_,_,_,_,_,_,_,_,_,_,_,_,_,_,_=>none
 |K+1,t,u,v,x,y,z,A,B,c,e,f,g,h,i,j,k,l,m,o,p=>
  (xN N (⟨(⟨l,m⟩:qg),(⟨o,p⟩:qg)⟩:qm)).bind fun q=>
  (kC N (⟨(⟨(⟨c,e⟩:qg),(⟨f,g⟩:qg)⟩:qm),(⟨(⟨h,i⟩:qg),(⟨j,k⟩:qg)⟩:qm)⟩:jy) q (⟨(⟨(⟨t,u⟩:qg),(⟨v,x⟩:qg)⟩:qm),(⟨(⟨y,z⟩:qg),(⟨A,B⟩:qg)⟩:qm)⟩:jy)).bind fun a=>
  (zx N a.d r).bind fun D=>
  if D>0 then
  some (.inl (t,u,v,x,y,z,A,B,c,e,f,g,h,i,j,k))
  else
  (zx N (⟨(⟨l,m⟩:qg),(⟨o,p⟩:qg)⟩:qm) q).bind fun E=>
  if E=0 then
  (jQ N a.n a.d).bind fun F=>
  (vY N F).bind fun C=>
  some (.inr (C.1,C.2))
  else
  (vT N (⟨(⟨l,m⟩:qg),(⟨o,p⟩:qg)⟩:qm) q).bind fun G=>
  (qaB N G).bind fun b=>
  zQ N r K c e f g h i j k a.n.Num.s a.n.Num.w a.n.Den.s a.n.Den.w a.d.Num.s a.d.Num.w a.d.Den.s a.d.Den.w b.Num.s b.Num.w b.Den.s b.Den.w
def vo (N:Nat) (A:Str) (most:Int):Option (Str×Int):=
 ((xD N A).bind fun B=>
 if most<1 then
 (qK true 3).bind fun r3=>
 (kN N ([B,r3]:List Int)).bind fun r4=>
 some (B,r3,r4)
 else
 (qK (decide (most>999999999)) 3).bind fun r5=>
 (kN N ([B,r5]:List Int)).bind fun r6=>
 some (B,r5,r6):Option (Int×Int×Int)).bind fun(n7,n8,n9)=>
 if(!decide (n9=0))=true then
 some ([],n9)
 else
 (qf3 most).bind fun o=>
 (qf3 0).bind fun c=>
 (qf3 1).bind fun e=>
 (qf3 1).bind fun f=>
 (qf3 0).bind fun g=>
 (vz N A).bind fun h=>
 (zQ N o N c.Num.s c.Num.w c.Den.s c.Den.w e.Num.s e.Num.w e.Den.s e.Den.w f.Num.s f.Num.w f.Den.s f.Den.w g.Num.s g.Num.w g.Den.s g.Den.w h.Num.s h.Num.w h.Den.s h.Den.w).bind (fun
 |(.inl (C,D,E,F,p,q,r,t,u,v,x,y,i,j,k,l))=>
 (vT N o (⟨(⟨p,q⟩:qg),(⟨r,t⟩:qg)⟩:qm)).bind fun G=>
 (jQ N G (⟨(⟨i,j⟩:qg),(⟨k,l⟩:qg)⟩:qm)).bind fun H=>
 (xN N H).bind fun I=>
 (kC N (⟨(⟨(⟨u,v⟩:qg),(⟨x,y⟩:qg)⟩:qm),(⟨(⟨i,j⟩:qg),(⟨k,l⟩:qg)⟩:qm)⟩:jy) I (⟨(⟨(⟨C,D⟩:qg),(⟨E,F⟩:qg)⟩:qm),(⟨(⟨p,q⟩:qg),(⟨r,t⟩:qg)⟩:qm)⟩:jy)).bind fun m=>
 (jQ N (⟨(⟨u,v⟩:qg),(⟨x,y⟩:qg)⟩:qm) (⟨(⟨i,j⟩:qg),(⟨k,l⟩:qg)⟩:qm)).bind fun a=>
 (jQ N m.n m.d).bind fun b=>
 (vz N A).bind fun J=>
 (qbx N a J).bind fun K=>
 (vz N A).bind fun L=>
 (qbx N b L).bind fun M=>
 (zx N K M).bind fun O=>
 (zx N (⟨(⟨i,j⟩:qg),(⟨k,l⟩:qg)⟩:qm) m.d).bind fun P=>
 (zx N a b).bind fun Q=>
 (qcv N ([O,P,Q]:List Int)).bind fun U=>
 ((if U>0 then
 some (b.Num.s,b.Num.w,b.Den.s,b.Den.w)
 else
 some (a.Num.s,a.Num.w,a.Den.s,a.Den.w):Option (Int×(List Int)×Int×(List Int)))).bind fun(V,X,Y,Z)=>
 (vY N (⟨(⟨V,X⟩:qg),(⟨Y,Z⟩:qg)⟩:qm)).bind fun z=>
 some (z.1,z.2)
 |(.inr a0)=>
 some a0)
theorem qfS (N:Nat) (V:Str) (most:Int) {res:Str×Int} (h:vo N V most=some res):qb ZT (.fn 15) (kA9 V most) [] (.tuple (kA9 res.1 res.2)) []:=by
 unfold vo at h
 refine Ub Tryz.func15 rfl rfl (m:=117) rfl (rs:=[.tmp 4,.tmp 5]) rfl (l:=(kAQ V [(1,.i most)])) rfl ?_
 refine sh fol (kAQ V [(1,.i most)]) ?_
 refine sq ?_
 refine sq ?_
 obtain⟨⟨n7,n8,n9⟩,c,h⟩:=bnd h
 refine Goes.cut (s':=(ofG 117 (kAQ V ((1,.i most)::(kB4 n9))),(kAE n7 n8))) ?_ ?_
 ·obtain⟨r1,e_r1,c⟩:=bnd c
  rcases wyD c with⟨c2,c⟩|⟨c2,c⟩
  ·obtain⟨r3,e_r3,c⟩:=bnd c
   obtain⟨r4,e_r4,c⟩:=bnd c
   simp only[ZI,ZP]at c
   obtain⟨rfl,rfl,rfl⟩:=c
   exact jY.rq fol [1,4,8,10] (kAQ V ((1,.i most)::(kB4 r4))) (kAE r1 r3) (ac (cv (qaS N V e_r1)) (ac (gw c2) (ac (cv (ji true 3 e_r3)) (ac (hs (.call 79 [.slice 0 0 2 2 1] (kAE r1 r3) [0] [vl encI ([r1,r3]:List Int)] (.i r4)) (qas (FzL.cons (Fz.lit rfl rfl (Ud (AllST.cons tI (AllST.cons tI AllST.nil)))) FzL.nil) (yG N ([r1,r3]:List Int) e_r4) tI rfl)) az))))
  obtain⟨r5,e_r5,c⟩:=bnd c
  obtain⟨r6,e_r6,c⟩:=bnd c
  simp only[ZI,ZP]at c
  obtain⟨rfl,rfl,rfl⟩:=c
  exact jY.rq fol [1,4,8,10] (kAQ V ((1,.i most)::(kB4 r6))) (kAE r1 r5) (ac (cv (qaS N V e_r1)) (ac (gw c2) (ac (cv (ji (decide (most>999999999)) 3 e_r5)) (ac (hs (.call 79 [.slice 0 0 2 2 1] (kAE r1 r5) [0] [vl encI ([r1,r5]:List Int)] (.i r6)) (qas (FzL.cons (Fz.lit rfl rfl (Ud (AllST.cons tI (AllST.cons tI AllST.nil)))) FzL.nil) (yG N ([r1,r5]:List Int) e_r6) tI rfl)) az))))
 try dsimp only at h
 refine sh fol (kAQ V [(1,.i most),(6,.i n9),(29,.bool (!decide (n9=0)))]) ?_
 refine ihB h (fun c11 h=>?_) (fun c11 h=>?_)
 ·refine sh fol ((4,.str [])::(kA5 n9)) ?_
  refine Goes.ret ?_
  obtain rfl:=si h
  exact(gw2 [.str [],.i n9] (FzW.tuple (qd.cons (Ua tS) (qd.cons (Ua tI) qd.nil))))
 refine Goes.skip ?_
 obtain⟨a,e_r12,h⟩:=bnd h
 refine sq (gq fol [1,3] (kAQ V [(7,.ptr 1 0)]) (kBQ n7 n8 [.cells (nq1 a)]) (ac (cv (qeD most e_r12)) (ac (hs (.run [1] (qo ZT 108 (.ptr 1 0) (.agg (nq1 a))) (kBQ n7 n8 (kD [])) .undef (kBQ n7 n8 [.cells (nq1 a)]) true) (qH (n:=4) (by kernel_rfl) rfl rfl rfl rfl (cac rfl (cac nvc (cac rfl (cac nvc can)))) rfl)) az)) ?_)
 obtain⟨a7,e_r13,h⟩:=bnd h
 obtain⟨a8,e_r14,h⟩:=bnd h
 obtain⟨a9,e_r15,h⟩:=bnd h
 obtain⟨b0,e_r16,h⟩:=bnd h
 refine sq (gq fol [0,1,3,4,8,9] (kAQ V [(7,.ptr 1 0),(8,.ptr 2 0),(9,.ptr 3 0)]) (kBQ n7 n8 [.cells (nq1 a),.cells (nq2 a7 a8),.cells (nq2 a9 b0)]) (ac (cv (qeD 0 e_r13)) (ac (cv (qeD 1 e_r14)) (ac (cv (qeD 1 e_r15)) (ac (cv (qeD 0 e_r16)) (ac (hs (.run [2] (qo ZT 113 (.ptr 2 0) (.agg (nq2 a7 a8))) (kBQ n7 n8 (.cells (nq1 a)::(kAI (kAI [])))) .undef (kBQ n7 n8 (.cells (nq1 a):: .cells (nq2 a7 a8)::(kAI []))) true) (qH (n:=8) (by kernel_rfl) rfl rfl rfl rfl (cac rfl (cac nvc (cac rfl (cac nvc (cac rfl (cac nvc (cac rfl (cac nvc can)))))))) rfl)) (ac (hs (.run [3] (qo ZT 113 (.ptr 3 0) (.agg (nq2 a9 b0))) (kBQ n7 n8 (.cells (nq1 a):: .cells (nq2 a7 a8)::(kAI []))) .undef (kBQ n7 n8 [.cells (nq1 a),.cells (nq2 a7 a8),.cells (nq2 a9 b0)]) true) (qH (n:=8) (by kernel_rfl) rfl rfl rfl rfl (cac rfl (cac nvc (cac rfl (cac nvc (cac rfl (cac nvc (cac rfl (cac nvc can)))))))) rfl)) az)))))) ?_)
 obtain⟨r17,e_r17,h⟩:=bnd h
 refine sq (gq fol [1,3] (kAQ V [(7,.ptr 1 0),(8,.ptr 2 0),(9,.ptr 3 0),(10,.ptr 4 0)]) (kBQ n7 n8 [.cells (nq1 a),.cells (nq2 a7 a8),.cells (nq2 a9 b0),.cells (nq1 r17)]) (ac (cv (qaz N V e_r17)) (ac (hs (.run [4] (qo ZT 108 (.ptr 4 0) (.agg (nq1 r17))) (kBQ n7 n8 (.cells (nq1 a):: .cells (nq2 a7 a8):: .cells (nq2 a9 b0)::(kD []))) .undef (kBQ n7 n8 [.cells (nq1 a),.cells (nq2 a7 a8),.cells (nq2 a9 b0),.cells (nq1 r17)]) true) (qH (n:=4) (by kernel_rfl) rfl rfl rfl rfl (cac rfl (cac nvc (cac rfl (cac nvc can)))) rfl)) az)) ?_)
 refine sq (Goes.block ?_)
 obtain⟨r54,g54,h⟩:=bnd h
 refine Goes.imp (Q:=fun x s'=>(x= .exit 0/\ ∃K L O P y z A B C D E F t u v w,(.inl (K,L,O,P,y,z,A,B,C,D,E,F,t,u,v,w))=r54/\Sub s' (ofG 117 (kAQ V [(7,.ptr 0 0),(8,.ptr 1 0),(9,.ptr 2 0)]),[.cells (nq1 a),.cells (ni4 K L O P y z A B),.cells (ni4 C D E F t u v w)]))\/(x= .ret/\ ∃q55,(.inr q55)=r54/\zV ZT [.tmp 4,.tmp 5] (.tuple (kA9 q55.1 q55.2)) .ret s')) ?_ ?_
 ·refine Goes.sub (s':=(ofG 117 (kAG V []),[.cells (nq1 a),.cells (nq2 a7 a8),.cells (nq2 a9 b0),.cells (nq1 r17)])) (Sub.norm [] [some 1,some 2,some 3,some 4] rfl rfl (.keep (.same nS) (.kp (.kp (.kp (.kp .nil))))) (.kb rfl (.same sn) (.kb rfl (.same sn) (.kb rfl (.same sn) (.kb rfl (.same sn) .nil))))) ?_
  refine Uc (fun M s=> ∃(Y:Int) (Z:List Int) (a0:Int) (a1:List Int) (a2:Int) (a3:List Int) (a4:Int) (a5:List Int) (f:Int) (g:List Int) (j:Int) (k:List Int) (o:Int) (p:List Int) (q:Int) (r:List Int) (G:Int) (H:List Int) (I:Int) (J:List Int),s=(ofG 117 (kAG V []),[.cells (nq1 a),.cells (ni4 Y Z a0 a1 a2 a3 a4 a5),.cells (ni4 f g j k o p q r),.cells (ni2 G H I J)])/\zQ N a M Y Z a0 a1 a2 a3 a4 a5 f g j k o p q r G H I J=some r54) ?_ (m:=N) ⟨_,_,_,_,_,_,_,_,_,_,_,_,_,_,_,_,_,_,_,_,rfl,g54⟩
  rintro M s ⟨Y,Z,a0,a1,a2,a3,a4,a5,f,g,j,k,o,p,q,r,G,H,I,J,rfl,g54⟩
  cases M with
  |zero=>simp only[zQ]at g54;cases g54
  |succ M=>
   rw[zQ]at g54
   refine Goes.block ?_
   obtain⟨U,e_r56,g54⟩:=bnd g54
   refine sq (gq fol [1,3] (kAG V [(11,.ptr 4 0)]) [.cells (nq1 a),.cells (ni4 Y Z a0 a1 a2 a3 a4 a5),.cells (ni4 f g j k o p q r),.cells (ni2 G H I J),.cells (nq1 U)] (ac (cv (qdU N (⟨(⟨G,H⟩:qg),(⟨I,J⟩:qg)⟩:qm) e_r56)) (ac (hs (.run [4] (qo ZT 108 (.ptr 4 0) (.agg (nq1 U))) (.cells (nq1 a):: .cells (ni4 Y Z a0 a1 a2 a3 a4 a5):: .cells (ni4 f g j k o p q r):: .cells (ni2 G H I J)::(kD [])) .undef [.cells (nq1 a),.cells (ni4 Y Z a0 a1 a2 a3 a4 a5),.cells (ni4 f g j k o p q r),.cells (ni2 G H I J),.cells (nq1 U)] true) (qH (n:=4) (by kernel_rfl) rfl rfl rfl rfl (cac rfl (cac nvc (cac rfl (cac nvc can)))) rfl)) az)) ?_)
   obtain⟨b,e_r57,g54⟩:=bnd g54
   refine sq (gq fol [3,5] (kAG V [(11,.ptr 4 0),(12,.ptr 5 0)]) [.cells (nq1 a),.cells (ni4 Y Z a0 a1 a2 a3 a4 a5),.cells (ni4 f g j k o p q r),.cells (ni2 G H I J),.cells (nq1 U),.cells (nq2 b.n b.d)] (ac (cv (qa4 N (⟨(⟨(⟨f,g⟩:qg),(⟨j,k⟩:qg)⟩:qm),(⟨(⟨o,p⟩:qg),(⟨q,r⟩:qg)⟩:qm)⟩:jy) U (⟨(⟨(⟨Y,Z⟩:qg),(⟨a0,a1⟩:qg)⟩:qm),(⟨(⟨a2,a3⟩:qg),(⟨a4,a5⟩:qg)⟩:qm)⟩:jy) e_r57)) (ac (hs (.run [5] (qo ZT 113 (.ptr 5 0) (.agg (nq2 b.n b.d))) (.cells (nq1 a):: .cells (ni4 Y Z a0 a1 a2 a3 a4 a5):: .cells (ni4 f g j k o p q r):: .cells (ni2 G H I J):: .cells (nq1 U)::(kAI [])) .undef [.cells (nq1 a),.cells (ni4 Y Z a0 a1 a2 a3 a4 a5),.cells (ni4 f g j k o p q r),.cells (ni2 G H I J),.cells (nq1 U),.cells (nq2 b.n b.d)] true) (qH (n:=8) (by kernel_rfl) rfl rfl rfl rfl (cac rfl (cac nvc (cac rfl (cac nvc (cac rfl (cac nvc (cac rfl (cac nvc can)))))))) rfl)) az)) ?_)
   refine sq ?_
   obtain⟨r58,e_r58,g54⟩:=bnd g54
   refine sq (gr fol [3] (kAG V [(11,.ptr 4 0),(12,.ptr 5 0),(51,.bool (decide (r58>0)))]) (ac (cv (vO N b.d a e_r58)) az) ?_)
   refine ihD g54 (fun c59 g54=>?_) (fun c59 g54=>?_)
   ·refine Goes.exit ?_
    obtain rfl:=si g54
    exact Or.inl (⟨rfl,_,_,_,_,_,_,_,_,_,_,_,_,_,_,_,_,rfl,(Sub.norm [] [some 0,some 1,some 2] rfl rfl (.keep (.same nS) (.kp (.kp (.kp .nil)))) (.kb rfl (.same sn) (.kb rfl (.same sn) (.kb rfl (.same sn) .nil))))⟩)
   refine Goes.skip ?_
   refine sq (gq fol [2,3] (kAG V [(11,.ptr 4 0)]) [.cells (nq1 a),.cells (ni4 f g j k o p q r),.cells (nq2 b.n b.d),.cells (ni2 G H I J),.cells (nq1 U),.cells (nq2 b.n b.d)] (ac (hs (.run [1] (qo ZT 113 (.ptr 1 0) (.agg (ni4 f g j k o p q r))) [.cells (nq1 a),.cells (ni4 Y Z a0 a1 a2 a3 a4 a5),.cells (ni4 f g j k o p q r),.cells (ni2 G H I J),.cells (nq1 U),.cells (nq2 b.n b.d)] .undef [.cells (nq1 a),.cells (ni4 f g j k o p q r),.cells (ni4 f g j k o p q r),.cells (ni2 G H I J),.cells (nq1 U),.cells (nq2 b.n b.d)] true) (qH (n:=8) (by kernel_rfl) rfl rfl rfl rfl (cac rfl (cac nvc (cac rfl (cac nvc (cac rfl (cac nvc (cac rfl (cac nvc can)))))))) rfl)) (ac (hs (.run [2] (qo ZT 113 (.ptr 2 0) (.agg (nq2 b.n b.d))) [.cells (nq1 a),.cells (ni4 f g j k o p q r),.cells (ni4 f g j k o p q r),.cells (ni2 G H I J),.cells (nq1 U),.cells (nq2 b.n b.d)] .undef [.cells (nq1 a),.cells (ni4 f g j k o p q r),.cells (nq2 b.n b.d),.cells (ni2 G H I J),.cells (nq1 U),.cells (nq2 b.n b.d)] true) (qH (n:=8) (by kernel_rfl) rfl rfl rfl rfl (cac rfl (cac nvc (cac rfl (cac nvc (cac rfl (cac nvc (cac rfl (cac nvc can)))))))) rfl)) az)) ?_)
   refine sq ?_
   obtain⟨r60,e_r60,g54⟩:=bnd g54
   refine sq (gr fol [2] (kAG V [(11,.ptr 4 0),(57,.bool (decide (r60=0)))]) (ac (cv (vO N (⟨(⟨G,H⟩:qg),(⟨I,J⟩:qg)⟩:qm) U e_r60)) az) ?_)
   refine ihD g54 (fun c61 g54=>?_) (fun c61 g54=>?_)
   ·obtain⟨r62,e_r62,g54⟩:=bnd g54
    obtain⟨r63,e_r63,g54⟩:=bnd g54
    refine sq (gr fol [4,5] ((4,.str r63.1)::(kA5 r63.2)) (ac (cv (qaU N b.n b.d e_r62)) (ac (cv (qdg N r62 e_r63)) az)) ?_)
    refine Goes.ret ?_
    obtain rfl:=si g54
    exact Or.inr (⟨rfl,_,rfl,(gw2 (kA9 r63.1 r63.2) (FzW.tuple (qd.cons (Ua tS) (qd.cons (Ua tI) qd.nil))))⟩)
   refine Goes.skip ?_
   obtain⟨r64,e_r64,g54⟩:=bnd g54
   obtain⟨r65,e_r65,g54⟩:=bnd g54
   refine gq fol [2,3,4] (kAG V []) [.cells (nq1 a),.cells (ni4 f g j k o p q r),.cells (nq2 b.n b.d),.cells (nq1 r65),.cells (nq1 U),.cells (nq2 b.n b.d)] (ac (cv (qaT N (⟨(⟨G,H⟩:qg),(⟨I,J⟩:qg)⟩:qm) U e_r64)) (ac (cv (qdV N r64 e_r65)) (ac (hs (.run [3] (qo ZT 108 (.ptr 3 0) (.agg (nq1 r65))) [.cells (nq1 a),.cells (ni4 f g j k o p q r),.cells (nq2 b.n b.d),.cells (ni2 G H I J),.cells (nq1 U),.cells (nq2 b.n b.d)] .undef [.cells (nq1 a),.cells (ni4 f g j k o p q r),.cells (nq2 b.n b.d),.cells (nq1 r65),.cells (nq1 U),.cells (nq2 b.n b.d)] true) (qH (n:=4) (by kernel_rfl) rfl rfl rfl rfl (cac rfl (cac nvc (cac rfl (cac nvc can)))) rfl)) az))) ?_
   exact⟨M,(ofG 117 (kAG V []),[.cells (nq1 a),.cells (ni4 f g j k o p q r),.cells (nq2 b.n b.d),.cells (nq1 r65)]),Nat.lt_succ_self _,(Sub.norm [] [some 0,some 1,some 2,some 3] rfl rfl (.keep (.same nS) (.kp (.kp (.kp (.kp .nil))))) (.kb rfl (.same sn) (.kb rfl (.same sn) (.kb rfl (.same sn) (.kb rfl (.same sn) .nil))))),_,_,_,_,_,_,_,_,_,_,_,_,_,_,_,_,_,_,_,_,rfl,g54⟩
 rintro x s' (⟨rfl,K,L,O,P,y,z,A,B,C,D,E,F,t,u,v,w,rfl,hsub⟩|⟨rfl,q87,rfl,hret⟩)
 ·try dsimp only at h
  refine Goes.sub hsub ?_
  obtain⟨r66,e_r66,h⟩:=bnd h
  obtain⟨r67,e_r67,h⟩:=bnd h
  obtain⟨r68,e_r68,h⟩:=bnd h
  obtain⟨e,e_r69,h⟩:=bnd h
  refine sq (gq fol [4,7,8,10,12] (kAQ V [(9,.ptr 2 0),(13,.ptr 3 0)]) [.cells (nq1 a),.cells (ni4 K L O P y z A B),.cells (ni4 C D E F t u v w),.cells (nq2 e.n e.d)] (ac (cv (qaT N a (⟨(⟨y,z⟩:qg),(⟨A,B⟩:qg)⟩:qm) e_r66)) (ac (cv (qaU N r66 (⟨(⟨t,u⟩:qg),(⟨v,w⟩:qg)⟩:qm) e_r67)) (ac (cv (qdU N r67 e_r68)) (ac (cv (qa4 N (⟨(⟨(⟨C,D⟩:qg),(⟨E,F⟩:qg)⟩:qm),(⟨(⟨t,u⟩:qg),(⟨v,w⟩:qg)⟩:qm)⟩:jy) r68 (⟨(⟨(⟨K,L⟩:qg),(⟨O,P⟩:qg)⟩:qm),(⟨(⟨y,z⟩:qg),(⟨A,B⟩:qg)⟩:qm)⟩:jy) e_r69)) (ac (hs (.run [3] (qo ZT 113 (.ptr 3 0) (.agg (nq2 e.n e.d))) (.cells (nq1 a):: .cells (ni4 K L O P y z A B):: .cells (ni4 C D E F t u v w)::(kAI [])) .undef [.cells (nq1 a),.cells (ni4 K L O P y z A B),.cells (ni4 C D E F t u v w),.cells (nq2 e.n e.d)] true) (qH (n:=8) (by kernel_rfl) rfl rfl rfl rfl (cac rfl (cac nvc (cac rfl (cac nvc (cac rfl (cac nvc (cac rfl (cac nvc can)))))))) rfl)) az))))) ?_)
  obtain⟨a6,e_r70,h⟩:=bnd h
  obtain⟨X,e_r71,h⟩:=bnd h
  refine sq (gq fol [4,9,12,13] (kAQ V ((9,.ptr 2 0)::(13,.ptr 3 0)::(kBW []))) [.cells (nq1 a),.cells (ni4 K L O P y z A B),.cells (ni4 C D E F t u v w),.cells (nq2 e.n e.d),.cells (nq1 a6),.cells (nq1 X)] (ac (cv (qaU N (⟨(⟨C,D⟩:qg),(⟨E,F⟩:qg)⟩:qm) (⟨(⟨t,u⟩:qg),(⟨v,w⟩:qg)⟩:qm) e_r70)) (ac (cv (qaU N e.n e.d e_r71)) (ac (hs (.run [4] (qo ZT 108 (.ptr 4 0) (.agg (nq1 a6))) (.cells (nq1 a):: .cells (ni4 K L O P y z A B):: .cells (ni4 C D E F t u v w):: .cells (nq2 e.n e.d)::(kD (kD []))) .undef (.cells (nq1 a):: .cells (ni4 K L O P y z A B):: .cells (ni4 C D E F t u v w):: .cells (nq2 e.n e.d):: .cells (nq1 a6)::(kD [])) true) (qH (n:=4) (by kernel_rfl) rfl rfl rfl rfl (cac rfl (cac nvc (cac rfl (cac nvc can)))) rfl)) (ac (hs (.run [5] (qo ZT 108 (.ptr 5 0) (.agg (nq1 X))) (.cells (nq1 a):: .cells (ni4 K L O P y z A B):: .cells (ni4 C D E F t u v w):: .cells (nq2 e.n e.d):: .cells (nq1 a6)::(kD [])) .undef [.cells (nq1 a),.cells (ni4 K L O P y z A B),.cells (ni4 C D E F t u v w),.cells (nq2 e.n e.d),.cells (nq1 a6),.cells (nq1 X)] true) (qH (n:=4) (by kernel_rfl) rfl rfl rfl rfl (cac rfl (cac nvc (cac rfl (cac nvc can)))) rfl)) az)))) ?_)
  obtain⟨r72,e_r72,h⟩:=bnd h
  obtain⟨r73,e_r73,h⟩:=bnd h
  obtain⟨r74,e_r74,h⟩:=bnd h
  obtain⟨r75,e_r75,h⟩:=bnd h
  obtain⟨b1,e_r76,h⟩:=bnd h
  obtain⟨b2,e_r77,h⟩:=bnd h
  obtain⟨b3,e_r78,h⟩:=bnd h
  obtain⟨r79,e_r79,h⟩:=bnd h
  refine sq (gq fol [2,3,6,7,8,13,16,18] (kBW [(16,.i r79)]) [.cells (nq1 a),.cells (ni4 K L O P y z A B),.cells (ni4 C D E F t u v w),.cells (nq2 e.n e.d),.cells (nq1 a6),.cells (nq1 X),.cells [.i b1,.i b2,.i b3]] (ac (cv (qaz N V e_r72)) (ac (cv (qe3 N a6 r72 e_r73)) (ac (cv (qaz N V e_r74)) (ac (cv (qe3 N X r74 e_r75)) (ac (cv (vO N r73 r75 e_r76)) (ac (cv (vO N (⟨(⟨t,u⟩:qg),(⟨v,w⟩:qg)⟩:qm) e.d e_r77)) (ac (cv (vO N a6 X e_r78)) (ac (hs (.call 91 [.slice 6 0 3 3 1] [.cells (nq1 a),.cells (ni4 K L O P y z A B),.cells (ni4 C D E F t u v w),.cells (nq2 e.n e.d),.cells (nq1 a6),.cells (nq1 X),.cells [.i b1,.i b2,.i b3]] [6] [vl encI ([b1,b2,b3]:List Int)] (.i r79)) (qas (FzL.cons (Fz.lit rfl rfl (Ud (AllST.cons tI (AllST.cons tI (AllST.cons tI AllST.nil))))) FzL.nil) (qiz N ([b1,b2,b3]:List Int) e_r79) tI rfl)) az)))))))) ?_)
  refine sq ?_
  refine sh fol (kBW [(111,.bool (decide (r79>0)))]) ?_
  obtain⟨r84,g84,h⟩:=bnd h
  refine Goes.imp (Q:=fun x s'=>(x= .normal/\ ∃n80 l81 n82 l83,(n80,l81,n82,l83)=r84/\Sub s' (ofG 117 [(14,.ptr 0 0)],[.cells (ni2 n80 l81 n82 l83)]))) ?_ ?_
  ·refine ihD g84 (fun c85 g84=>?_) (fun c85 g84=>?_)
   ·refine gq fol [1] [(14,.ptr 4 0)] [.cells (nq1 a),.cells (ni4 K L O P y z A B),.cells (ni4 C D E F t u v w),.cells (nq2 e.n e.d),.cells (nq1 X),.cells (nq1 X),.cells [.i b1,.i b2,.i b3]] (ac (hs (.run [4] (qo ZT 108 (.ptr 4 0) (.agg (nq1 X))) [.cells (nq1 a),.cells (ni4 K L O P y z A B),.cells (ni4 C D E F t u v w),.cells (nq2 e.n e.d),.cells (nq1 a6),.cells (nq1 X),.cells [.i b1,.i b2,.i b3]] .undef [.cells (nq1 a),.cells (ni4 K L O P y z A B),.cells (ni4 C D E F t u v w),.cells (nq2 e.n e.d),.cells (nq1 X),.cells (nq1 X),.cells [.i b1,.i b2,.i b3]] true) (qH (n:=4) (by kernel_rfl) rfl rfl rfl rfl (cac rfl (cac nvc (cac rfl (cac nvc can)))) rfl)) az) ?_
    obtain rfl:=si g84
    exact⟨rfl,_,_,_,_,rfl,(Sub.norm [] [some 4] rfl rfl (.kp .nil) (.kb rfl (.same sn) .nil))⟩
   refine Goes.skip ?_
   obtain rfl:=si g84
   exact⟨rfl,_,_,_,_,rfl,(Sub.norm [] [some 4] rfl rfl (.kp .nil) (.kb rfl (.same sn) .nil))⟩
  rintro x s' ⟨rfl,n80,l81,n82,l83,rfl,hsub⟩
  try dsimp only at h
  refine Goes.sub hsub ?_
  obtain⟨r86,e_r86,h⟩:=bnd h
  refine sq (gr fol [1] ((4,.str r86.1)::(kA5 r86.2)) (ac (cv (qdg N (⟨(⟨n80,l81⟩:qg),(⟨n82,l83⟩:qg)⟩:qm) e_r86)) az) ?_)
  refine Goes.ret ?_
  obtain rfl:=si h
  exact(gw2 (kA9 r86.1 r86.2) (FzW.tuple (qd.cons (Ua tS) (qd.cons (Ua tI) qd.nil))))
 try dsimp only at h
 obtain rfl:=si h
 exact hret
def yX (N:Nat) (t:List ve) (d:Str):Nat->Str->Int->Int->Option (Str×Int)
 |0,_,_,_=>none
 |K+1,e,f,b=>
  if b<(t.length:Int)then
  (((idx t b).bind fun a=>
  (qaG N a.X d).bind fun c=>
  if c<=0 then
  some (a.Y,0)
  else
  some (e,f):Option (Str×Int))).bind fun(g,h)=>
  yX N t d K g h (w64 (b+1))
  else
  some (e,f)
def qcl (N:Nat) (t:List ve) (a:Str):Option (Str×Int):=
 (yX N t a N [] 3 0).bind fun(b,c)=>
 some (b,c)
theorem qiA (N:Nat) (t:List ve) (b:Str) {res:Str×Int} (h:qcl N t b=some res):qb ZT (.fn 18) [vl qw t,.str b] [] (.tuple (kA9 res.1 res.2)) []:=by
 unfold qcl at h
 refine Ub Tryz.func18 rfl rfl (m:=30) rfl (rs:=[.tmp 4,.tmp 5]) rfl (l:=(kW t b [])) rfl ?_
 refine sh fol (kW t b []) ?_
 refine sh fol (kW t b [(6,.str []),(7,.i 3)]) ?_
 refine sq ?_
 refine sh fol (kW t b [(6,.str []),(7,.i 3),(8,.i 0)]) ?_
 refine Goes.block ?_
 obtain⟨u,g6,h⟩:=bnd h
 refine Goes.imp (Q:=fun x s'=>(x= .exit 0/\ ∃e f,(e,f)=u/\Sub s' (ofG 30 (kBi e f []),[]))) ?_ ?_
 ·refine Uc (fun M s=> ∃(g:Str) (j:Int) (c:Int),s=(ofG 30 (kW t b ((6,.str g)::(kAh j c))),[])/\yX N t b M g j c=some u) ?_ (m:=N) ⟨_,_,_,rfl,g6⟩
  rintro M s ⟨g,j,c,rfl,g6⟩
  cases M with
  |zero=>simp only[yX]at g6;cases g6
  |succ M=>
   rw[yX]at g6
   refine sq ?_
   refine sh fol (kW t b (kBi g j ((8,.i c)::(kBU (decide (c<(t.length:Int))))))) ?_
   refine ihD g6 (fun v g6=>?_) (fun v g6=>?_)
   ·refine Goes.skip ?_
    refine sq ?_
    obtain⟨p,g10,g6⟩:=bnd g6
    refine Goes.imp (Q:=fun x s'=>(x= .normal/\ ∃k n,(k,n)=p/\Sub s' (ofG 30 (kW t b ((6,.str k)::(kAh n c))),[]))) ?_ ?_
    ·refine Goes.block ?_
     obtain⟨o,a,g10⟩:=bnd g10
     obtain⟨q,d,g10⟩:=bnd g10
     refine sq (gr fol [2,4,6] (kW t b (kBi g j [(8,.i c),(22,.bool (decide (q<=0)))])) (ac (iv qhg qw a) (ac (lv 0 qgP qw a rfl) (ac (cv (qdu N o.X b d)) az))) ?_)
     refine ihD g10 (fun r g10=>?_) (fun r g10=>?_)
     ·refine gr fol [2,4] (kW t b ((6,.str o.Y)::(7,.i 0)::(kBw c))) (ac (iv qhg qw a) (ac (lv 1 qgP qw a rfl) az)) ?_
      obtain rfl:=si g10
      exact⟨rfl,_,_,rfl,(Sub.refl _)⟩
     refine Goes.skip ?_
     obtain rfl:=si g10
     exact⟨rfl,_,_,rfl,(Sub.keep [0,1,6,7,8] rfl rfl)⟩
    rintro x s' ⟨rfl,k,n,rfl,hsub⟩
    try dsimp only at g6
    refine Goes.sub hsub ?_
    refine gh fol (kW t b ((6,.str k)::(kAh n (w64 (c+1))))) ?_
    exact⟨M,(ofG 30 (kW t b ((6,.str k)::(kAh n (w64 (c+1))))),[]),Nat.lt_succ_self _,(Sub.refl _),_,_,_,rfl,g6⟩
   refine Goes.exit ?_
   obtain rfl:=si g6
   exact⟨rfl,_,_,rfl,(Sub.keep [6,7] rfl rfl)⟩
 rintro x s' ⟨rfl,e,f,rfl,hsub⟩
 try dsimp only at h
 refine Goes.sub hsub ?_
 refine sh fol ((4,.str e)::(kA5 f)) ?_
 refine Goes.ret ?_
 obtain rfl:=si h
 exact(gw2 (kA9 e f) (FzW.tuple (qd.cons (Ua tS) (qd.cons (Ua tI) qd.nil))))
def xG (holds:Bool) (e:Int):Option Int:=
 if holds=true then
 some e
 else
 some 0
theorem qe0 (holds:Bool) (e:Int) {res:Int} (h:xG holds e=some res):qb ZT (.fn 20) [.bool holds,.i e] [] (.i res) []:=by
 unfold xG at h
 refine Ub Tryz.func20 rfl rfl (m:=7) rfl (rs:=[.tmp 4]) rfl (l:=[(0,.bool holds),(1,.i e)]) rfl ?_
 refine sh fol [(0,.bool holds),(1,.i e)] ?_
 refine sq ?_
 refine sh fol [(1,.i e),(5,.bool holds)] ?_
 refine ihB h (fun a h=>?_) (fun a h=>?_)
 ·refine sh fol (kB7 e) ?_
  refine Goes.ret ?_
  obtain rfl:=si h
  exact(gw2 [.i e] (Ua tI))
 refine Goes.skip ?_
 refine sh fol [(4,.i 0)] ?_
 refine Goes.ret ?_
 obtain rfl:=si h
 exact(gw2 [.i 0] (Ua tI))
def jU (N:Nat) (n:Int):Option Str:=
 (vX N n).bind fun a=>
 (qap N a).bind fun b=>
 some b
theorem qbt (N:Nat) (n:Int) {res:Str} (h:jU N n=some res):qb ZT (.fn 34) [.i n] [] (.str res) []:=by
 unfold jU at h
 refine Ub Tryz.func34 rfl rfl (m:=6) rfl (rs:=[.tmp 2]) rfl (l:=[(0,.i n)]) rfl ?_
 refine sh fol [(0,.i n)] ?_
 obtain⟨d,a,h⟩:=bnd h
 obtain⟨c,b,h⟩:=bnd h
 refine sq (gr fol [1,2] (kBs c) (ac (cv (qbg N n a)) (ac (cv (qbF N d b)) az)) ?_)
 refine Goes.ret ?_
 obtain rfl:=si h
 exact(gw2 [.str c] (Ua tS))
def qY (N:Nat) (d:Str) (n:Str) (o:Int):Nat->Str->Int->Option Str
 |0,_,_=>none
 |K+1,a,b=>
  if b<2 then
  (((jU N b).bind fun e=>
  (qbs N n e).bind fun f=>
  (jU N o).bind fun g=>
  (qch N f g).bind fun c=>
  (qaH N d c).bind fun h=>
  (xn h).bind fun i=>
  (qaH N d a).bind fun j=>
  (xn j).bind fun k=>
  (qaG N i k).bind fun l=>
  if l<0 then
  some c
  else
  some a:Option Str)).bind fun m=>
  qY N d n o K m (w64 (b+1))
  else
  some a
def jN (N:Nat) (b:Str) (most:Int):Nat->Str->Int->Option Str
 |0,_,_=>none
 |K+1,d,a=>
  if a<=most then
  (jU N a).bind fun e=>
  (qcf N b e).bind fun f=>
  (qa5 N f).bind fun g=>
  (qY N b g a N d 0).bind fun c=>
  jN N b most K c (w64 (a+1))
  else
  some d
def xZ (N:Nat) (a:Str) (most:Int):Option Str:=
 (qa5 N a).bind fun b=>
 (jN N a most N b 1).bind fun c=>
 some c
theorem qgA (N:Nat) (a:Str) (most:Int) {res:Str} (h:xZ N a most=some res):qb ZT (.fn 21) (kA9 a most) [] (.str res) []:=by
 unfold xZ at h
 refine Ub Tryz.func21 rfl rfl (m:=47) rfl (rs:=[.tmp 4]) rfl (l:=(kAQ a [(1,.i most)])) rfl ?_
 refine sh fol (kAQ a [(1,.i most)]) ?_
 obtain⟨V,y,h⟩:=bnd h
 refine sq (gr fol [1] (kAF a most V []) (ac (cv (qeg N a y)) az) ?_)
 refine sq ?_
 refine sh fol (kAF a most V [(6,.i 1)]) ?_
 refine Goes.block ?_
 obtain⟨X,g5,h⟩:=bnd h
 refine Goes.imp (Q:=fun x s'=>(x= .exit 0/\ ∃z,z=X/\Sub s' (ofG 47 [(5,.str z)],[]))) ?_ ?_
 ·refine Uc (fun M s=> ∃(w:Str) (c:Int),s=(ofG 47 (kAF a most w (kB4 c)),[])/\jN N a most M w c=some X) ?_ (m:=N) ⟨_,_,rfl,g5⟩
  rintro M s ⟨w,c,rfl,g5⟩
  cases M with
  |zero=>simp only[jN]at g5;cases g5
  |succ M=>
   rw[jN]at g5
   refine sq ?_
   refine sh fol (kAF a most w ((6,.i c)::(kBa (decide (c<=most))))) ?_
   refine ihD g5 (fun Y g5=>?_) (fun Y g5=>?_)
   ·refine Goes.skip ?_
    refine sq (Goes.block ?_)
    obtain⟨Z,A,g5⟩:=bnd g5
    obtain⟨r8,B,g5⟩:=bnd g5
    obtain⟨e,C,g5⟩:=bnd g5
    refine sq (gr fol [2,3,4] (kAF a most w [(6,.i c),(7,.str e)]) (ac (cv (qbt N c A)) (ac (cv (qfN N a Z B)) (ac (cv (qeg N r8 C)) az))) ?_)
    refine sh fol (kAF a most w [(6,.i c),(7,.str e),(8,.i 0)]) ?_
    refine Goes.block ?_
    obtain⟨D,g13,g5⟩:=bnd g5
    refine Goes.imp (Q:=fun x s'=>(x= .exit 2/\ ∃f,f=D/\Sub s' (ofG 47 (kAF a most f (kB4 c)),[]))) ?_ ?_
    ·refine Uc (fun M s=> ∃(d:Str) (b:Int),s=(ofG 47 (kAF a most d (kBK c e b [])),[])/\qY N a e c M d b=some D) ?_ (m:=N) ⟨_,_,rfl,g13⟩
     rintro M s ⟨d,b,rfl,g13⟩
     cases M with
     |zero=>simp only[qY]at g13;cases g13
     |succ M=>
      rw[qY]at g13
      refine sq ?_
      refine sh fol (kAF a most d (kBK c e b [(24,.bool (decide (b<2)))])) ?_
      refine ihD g13 (fun F g13=>?_) (fun F g13=>?_)
      ·refine Goes.skip ?_
       refine sq ?_
       obtain⟨G,g16,g13⟩:=bnd g13
       refine Goes.imp (Q:=fun x s'=>(x= .normal/\ ∃g,g=G/\Sub s' (ofG 47 (kAF a most g (kBK c e b [])),[]))) ?_ ?_
       ·refine Goes.block ?_
        obtain⟨H,k,g16⟩:=bnd g16
        obtain⟨I,n,g16⟩:=bnd g16
        obtain⟨J,o,g16⟩:=bnd g16
        obtain⟨j,p,g16⟩:=bnd g16
        refine sq (gr fol [2,3,5,6] (kAF a most d (kBK c e b [(9,.str j)])) (ac (cv (qbt N b k)) (ac (cv (qf6 N e H n)) (ac (cv (qbt N c o)) (ac (cv (qjj N I J p)) az)))) ?_)
        obtain⟨K,q,g16⟩:=bnd g16
        obtain⟨L,r,g16⟩:=bnd g16
        obtain⟨O,t,g16⟩:=bnd g16
        obtain⟨P,u,g16⟩:=bnd g16
        obtain⟨E,v,g16⟩:=bnd g16
        refine sq (gr fol [2,3,6,7,8] (kAF a most d (kBK c e b (kBB j E []))) (ac (cv (qdA N a j q)) (ac (cv (qb7 K r)) (ac (cv (qdA N a d t)) (ac (cv (qb7 O u)) (ac (cv (qdu N L P v)) az))))) ?_)
        refine sh fol (kAF a most d (kBK c e b [(9,.str j),(44,.bool (decide (E<0)))])) ?_
        refine ihD g16 (fun U g16=>?_) (fun U g16=>?_)
        ·refine gh fol (kAF a most j (kBK c e b [])) ?_
         obtain rfl:=si g16
         exact⟨rfl,_,rfl,(Sub.refl _)⟩
        refine Goes.skip ?_
        obtain rfl:=si g16
        exact⟨rfl,_,rfl,(Sub.keep [0,1,5,6,7,8] rfl rfl)⟩
       rintro x s' ⟨rfl,g,rfl,hsub⟩
       refine Goes.sub hsub ?_
       refine gh fol (kAF a most g (kBK c e (w64 (b+1)) [])) ?_
       exact⟨M,(ofG 47 (kAF a most g (kBK c e (w64 (b+1)) [])),[]),Nat.lt_succ_self _,(Sub.refl _),_,_,rfl,g13⟩
      refine Goes.exit ?_
      obtain rfl:=si g13
      exact⟨rfl,_,rfl,(Sub.keep [0,1,5,6] rfl rfl)⟩
    rintro x s' ⟨rfl,f,rfl,hsub⟩
    refine Goes.sub hsub ?_
    refine gh fol (kAF a most f (kB4 (w64 (c+1)))) ?_
    exact⟨M,(ofG 47 (kAF a most f (kB4 (w64 (c+1)))),[]),Nat.lt_succ_self _,(Sub.refl _),_,_,rfl,g5⟩
   refine Goes.exit ?_
   obtain rfl:=si g5
   exact⟨rfl,_,rfl,(Sub.keep [5] rfl rfl)⟩
 rintro x s' ⟨rfl,z,rfl,hsub⟩
 refine Goes.sub hsub ?_
 refine sh fol (kBb z) ?_
 refine Goes.ret ?_
 obtain rfl:=si h
 exact(gw2 [.str z] (Ua tS))
end Go.Av
