/-
  The walk of the law.
-/
import Derived.Test.YtbjpmhdicbgjkaaGreatDoorQGenE6
import Derived.Test.YtbjpmhdicbgjkaaGreatDoorAvAwkE
noncomputable section
namespace Go.Av
open Go.Proofs Go.RowKit
set_option linter.unusedSectionVars false
set_option linter.unusedVariables false
set_option linter.unusedSimpArgs false
set_option maxRecDepth 100000
def awk:Option Bool:=some true
theorem qgy {res:Bool} (h:awk=some res):qb ZT (.fn 10) [] [] (.bool res) []:=by
 obtain rfl:=si h
 exact qq7
def kz (N:Nat) (t:List ve):Nat->Int->Option (Unit⊕Bool)
 |0,_=>none
 |K+1,a=>
  if a<(t.length:Int)then
  (idx t a).bind fun b=>
  (qbw N ([b.X,b.Y]:List Str)).bind fun c=>
  if c=true then
  some (.inr true)
  else
  kz N t K (w64 (a+1))
  else
  some (.inl ())
def qaf (N:Nat) (t:List ve) (c:Str) (most:Int):Option Bool:=
 ((awk).bind fun x=>
 if(!x)=true then
 some true
 else
 if(t.length:Int)>70 then
 some true
 else
 (qbw N ([c]:List Str)).bind fun y=>
 if y=true then
 some true
 else
 if most>60 then
 some (decide (most<=999999999))
 else
 some false:Option Bool).bind fun z=>
 if z=true then
 (awk).bind fun k=>
 some k
 else
 (kz N t N 0).bind (fun
 |(.inl ())=>
 (yM N t).bind fun d=>
 (vN N t).bind fun l=>
 if(!decide (l=d))=true then
 some false
 else
 (qaq N t c).bind fun e=>
 (vo N c most).bind fun a=>
 (yK N c).bind fun m=>
 (vL N ([d,m]:List Int)).bind fun f=>
 ((if f=0 then
 (qcl N t c).bind fun g=>
 some (g.2,g.1)
 else
 some (f,[]):Option (Int×Str))).bind fun(n,o)=>
 (ym N e.1 e.2 n o).bind fun p=>
 if(!p)=true then
 some false
 else
 ((yK N c).bind fun b=>
 if most<1 then
 (xG true 3).bind fun h=>
 (vL N ([b,h]:List Int)).bind fun q=>
 some (b,h,q)
 else
 (xG (decide (most>999999999)) 3).bind fun i=>
 (vL N ([b,i]:List Int)).bind fun r=>
 some (b,i,r):Option (Int×Int×Int)).bind fun(A,B,j)=>
 if(!decide (j=0))=true then
 (ym N a.1 a.2 j []).bind fun s=>
 some s
 else
 (xZ N c most).bind fun u=>
 (ym N a.1 a.2 0 u).bind fun v=>
 some v
 |(.inr w)=>
 some w)
theorem qem (N:Nat) (t:List ve) (d:Str) (most:Int) {res:Bool} (h:qaf N t d most=some res):qb ZT (.fn 3) (vl qw t::(kA9 d most)) [] (.bool res) []:=by
 unfold qaf at h
 refine Ub Tryz.func3 rfl rfl (m:=115) rfl (rs:=[.tmp 6]) rfl (l:=(kW t d (kBM most))) rfl ?_
 refine sh fol (kW t d (kBM most)) ?_
 refine sq ?_
 refine sq ?_
 obtain⟨b7,b,h⟩:=bnd h
 refine Goes.cutS (s':=(ofG 115 (kW t d [(2,.i most),(35,.bool b7)]),[])) ?_ ?_
 ·obtain⟨r1,k,b⟩:=bnd b
  rcases wyB b with⟨c2,b⟩|⟨c2,b⟩
  ·obtain rfl:=si b
   exact jY.sub (tr fol [0,2] (kW t d ((2,.i most)::kBz)) (ac (cv (qgy k)) (ac (gw c2) az))) (Sub.refl _)
  rcases wyD b with⟨c3,b⟩|⟨c3,b⟩
  ·obtain rfl:=si b
   exact jY.sub (tr fol [0,2,7] (kW t d ((2,.i most)::kBz)) (ac (cv (qgy k)) (ac (gw c2) (ac (gw c3) az)))) (Sub.refl _)
  obtain⟨r4,p,b⟩:=bnd b
  rcases wyB b with⟨c5,b⟩|⟨c5,b⟩
  ·obtain rfl:=si b
   exact jY.sub (jY.rq fol [0,2,7,10,12] (kW t d ((2,.i most)::kBz)) [.cells [.str d]] (ac (cv (qgy k)) (ac (gw c2) (ac (gw c3) (ac (hs (.call 11 [.slice 0 0 1 1 1] [.cells [.str d]] [0] [vl encS ([d]:List Str)] (.bool r4)) (qas (FzL.cons (Fz.lit rfl rfl (Ud (AllST.cons tS AllST.nil))) FzL.nil) (qbG N ([d]:List Str) p) tB rfl)) (ac (gw c5) az)))))) (Sub.norm [] [] rfl rfl (.keep (.same (qf qw _)) (.keep (.same nS) (.keep (.same nI) (.keep (.same nB) .nil)))) .nil)
  rcases wyD b with⟨c6,b⟩|⟨c6,b⟩
  ·obtain rfl:=si b
   exact jY.sub (jY.rq fol [0,2,7,10,12,15] (kW t d [(2,.i most),(35,.bool (decide (most<=999999999)))]) [.cells [.str d]] (ac (cv (qgy k)) (ac (gw c2) (ac (gw c3) (ac (hs (.call 11 [.slice 0 0 1 1 1] [.cells [.str d]] [0] [vl encS ([d]:List Str)] (.bool r4)) (qas (FzL.cons (Fz.lit rfl rfl (Ud (AllST.cons tS AllST.nil))) FzL.nil) (qbG N ([d]:List Str) p) tB rfl)) (ac (gw c5) (ac (gw c6) az))))))) (Sub.norm [] [] rfl rfl (.keep (.same (qf qw _)) (.keep (.same nS) (.keep (.same nI) (.keep (.same nB) .nil)))) .nil)
  obtain rfl:=si b
  exact jY.sub (jY.rq fol [0,2,7,10,12,15] (kW t d [(2,.i most),(35,.bool false)]) [.cells [.str d]] (ac (cv (qgy k)) (ac (gw c2) (ac (gw c3) (ac (hs (.call 11 [.slice 0 0 1 1 1] [.cells [.str d]] [0] [vl encS ([d]:List Str)] (.bool r4)) (qas (FzL.cons (Fz.lit rfl rfl (Ud (AllST.cons tS AllST.nil))) FzL.nil) (qbG N ([d]:List Str) p) tB rfl)) (ac (gw c5) (ac (gw c6) az))))))) (Sub.norm [] [] rfl rfl (.keep (.same (qf qw _)) (.keep (.same nS) (.keep (.same nI) (.keep (.same nB) .nil)))) .nil)
 intro _ hsub
 refine Goes.sub hsub ?_
 refine ihB h (fun c9 h=>?_) (fun c9 h=>?_)
 ·obtain⟨r10,B,h⟩:=bnd h
  refine sq (gr fol [0] [(6,.bool r10)] (ac (cv (qgy B)) az) ?_)
  refine Goes.ret ?_
  obtain rfl:=si h
  exact(gw2 [.bool r10] (Ua tB))
 refine Goes.skip ?_
 refine sq ?_
 refine sh fol (kW t d [(2,.i most),(38,.i (t.length:Int)),(39,.i 0)]) ?_
 refine Goes.block ?_
 obtain⟨C,g12,h⟩:=bnd h
 refine Goes.imp (Q:=fun x s'=>(x= .exit 0/\(.inl ())=C/\Sub s' (ofG 115 (kW t d (kBM most)),[]))\/(x= .ret/\ ∃q13,(.inr q13)=C/\zV ZT [.tmp 6] (.bool q13) .ret s')) ?_ ?_
 ·refine Uc (fun M s=> ∃(f:Int),s=(ofG 115 (kW t d [(2,.i most),(38,.i (t.length:Int)),(39,.i f)]),[])/\kz N t M f=some C) ?_ (m:=N) ⟨_,rfl,g12⟩
  rintro M s ⟨f,rfl,g12⟩
  cases M with
  |zero=>simp only[kz]at g12;cases g12
  |succ M=>
   rw[kz]at g12
   refine sh fol (kW t d [(2,.i most),(38,.i (t.length:Int)),(39,.i f),(40,.bool (decide (f<(t.length:Int))))]) ?_
   refine sq ?_
   refine ihD g12 (fun c14 g12=>?_) (fun c14 g12=>?_)
   ·refine Goes.skip ?_
    refine sq (Goes.block ?_)
    refine sh fol (kW t d [(2,.i most),(7,.i f),(38,.i (t.length:Int)),(39,.i f)]) ?_
    obtain⟨n,g,g12⟩:=bnd g12
    obtain⟨r16,D,g12⟩:=bnd g12
    refine sq (gq fol [2,4,7,9,11] (kW t d [(2,.i most),(38,.i (t.length:Int)),(39,.i f),(53,.bool r16)]) (kB n.X n.Y []) (ac (iv qhg qw g) (ac (lv 0 qgP qw g rfl) (ac (iv qhg qw g) (ac (lv 1 qgP qw g rfl) (ac (hs (.call 11 [.slice 0 0 2 2 1] (kB n.X n.Y []) [0] [vl encS ([n.X,n.Y]:List Str)] (.bool r16)) (qas (FzL.cons (Fz.lit rfl rfl (Ud (AllST.cons tS (AllST.cons tS AllST.nil)))) FzL.nil) (qbG N ([n.X,n.Y]:List Str) D) tB rfl)) az))))) ?_)
    refine ihB g12 (fun c17 g12=>?_) (fun c17 g12=>?_)
    ·refine sh fol [(6,.bool true)] ?_
     refine Goes.ret ?_
     obtain rfl:=si g12
     exact Or.inr (⟨rfl,_,rfl,(gw2 [.bool true] (Ua tB))⟩)
    refine Goes.skip ?_
    refine gh fol (kW t d [(2,.i most),(38,.i (t.length:Int)),(39,.i (w64 (f+1)))]) ?_
    exact⟨M,(ofG 115 (kW t d [(2,.i most),(38,.i (t.length:Int)),(39,.i (w64 (f+1)))]),[]),Nat.lt_succ_self _,(Sub.norm [] [] rfl rfl (.keep (.same (qf qw _)) (.keep (.same nS) (.keep (.same nI) (.keep (.same nI) (.keep (.same nI) .nil))))) .nil),_,rfl,g12⟩
   refine Goes.exit ?_
   obtain rfl:=si g12
   exact Or.inl (⟨rfl,rfl,(Sub.keep [0,1,2] rfl rfl)⟩)
 rintro x s' (⟨rfl,rfl,hsub⟩|⟨rfl,q46,rfl,hret⟩)
 ·try dsimp only at h
  refine Goes.sub hsub ?_
  obtain⟨j,E,h⟩:=bnd h
  refine sq (gr fol [1] (kW t d ((2,.i most)::(kBw j))) (ac (cv (qeb N t E)) az) ?_)
  refine sq ?_
  obtain⟨r19,F,h⟩:=bnd h
  refine sq (gr fol [1] (kW t d [(2,.i most),(8,.i j),(60,.bool (!decide (r19=j)))]) (ac (cv (qbK N t F)) az) ?_)
  refine ihB h (fun c20 h=>?_) (fun c20 h=>?_)
  ·refine sh fol kBD ?_
   refine Goes.ret ?_
   obtain rfl:=si h
   exact(gw2 [.bool false] (Ua tB))
  refine Goes.skip ?_
  obtain⟨e,G,h⟩:=bnd h
  refine sq (gr fol [2] (kW t d ((2,.i most)::(8,.i j)::(kBB e.1 e.2 []))) (ac (cv (qhu N t d G)) az) ?_)
  obtain⟨c,H,h⟩:=bnd h
  refine sq (gr fol [2] (kW t d ((2,.i most)::(8,.i j)::(kBB e.1 e.2 (kBk c.1 c.2 [])))) (ac (cv (qfS N d most H)) az) ?_)
  obtain⟨u,I,h⟩:=bnd h
  obtain⟨q,J,h⟩:=bnd h
  refine sq (gq fol [2,4] (kW t d ((2,.i most)::(kBB e.1 e.2 (kBk c.1 c.2 [(13,.i q)])))) (kAE j u) (ac (cv (qa7 N d I)) (ac (hs (.call 16 [.slice 0 0 2 2 1] (kAE j u) [0] [vl encI ([j,u]:List Int)] (.i q)) (qas (FzL.cons (Fz.lit rfl rfl (Ud (AllST.cons tI (AllST.cons tI AllST.nil)))) FzL.nil) (qcD N ([j,u]:List Int) J) tI rfl)) az)) ?_)
  refine sh fol (kW t d ((2,.i most)::(kBB e.1 e.2 (kBk c.1 c.2 [(13,.i q),(14,.str [])])))) ?_
  refine sq ?_
  refine sh fol (kW t d ((2,.i most)::(kBB e.1 e.2 (kBk c.1 c.2 [(13,.i q),(14,.str []),(79,.bool (decide (q=0)))])))) ?_
  obtain⟨r27,g27,h⟩:=bnd h
  refine Goes.imp (Q:=fun x s'=>(x= .normal/\ ∃v w,(v,w)=r27/\Sub s' (ofG 115 ((1,.str d)::(2,.i most)::(kBB e.1 e.2 (kBk c.1 c.2 [(13,.i v),(14,.str w)]))),[]))) ?_ ?_
  ·refine ihD g27 (fun c28 g27=>?_) (fun c28 g27=>?_)
   ·obtain⟨r29,K,g27⟩:=bnd g27
    refine gr fol [2] ((1,.str d)::(2,.i most)::(kBB e.1 e.2 (kBk c.1 c.2 [(13,.i r29.2),(14,.str r29.1)]))) (ac (cv (qiA N t d K)) az) ?_
    obtain rfl:=si g27
    exact⟨rfl,_,_,rfl,(Sub.norm [] [] rfl rfl (.keep (.same nS) (.keep (.same nI) (.keep (.same nS) (.keep (.same nI) (.keep (.same nS) (.keep (.same nI) (.keep (.same nI) (.keep (.same nS) .nil)))))))) .nil)⟩
   refine Goes.skip ?_
   obtain rfl:=si g27
   exact⟨rfl,_,_,rfl,(Sub.norm [] [] rfl rfl (.drop (.keep (.same nS) (.keep (.same nI) (.keep (.same nS) (.keep (.same nI) (.keep (.same nS) (.keep (.same nI) (.keep (.same nI) (.keep (.same nS) .nil))))))))) .nil)⟩
  rintro x s' ⟨rfl,v,w,rfl,hsub⟩
  try dsimp only at h
  refine Goes.sub hsub ?_
  refine sq ?_
  obtain⟨r30,L,h⟩:=bnd h
  refine sq (gr fol [4] ((1,.str d)::(2,.i most)::(kBk c.1 c.2 [(91,.bool (!r30))])) (ac (cv (qdH N e.1 e.2 v w L)) az) ?_)
  refine ihB h (fun c31 h=>?_) (fun c31 h=>?_)
  ·refine sh fol kBD ?_
   refine Goes.ret ?_
   obtain rfl:=si h
   exact(gw2 [.bool false] (Ua tB))
  refine Goes.skip ?_
  refine sq ?_
  obtain⟨⟨n38,n39,y⟩,a,h⟩:=bnd h
  refine Goes.cut (s':=(ofG 115 ((1,.str d)::(2,.i most)::(kBk c.1 c.2 [(15,.i y)])),(kAE n38 n39))) ?_ ?_
  ·obtain⟨o,r,a⟩:=bnd a
   rcases wyD a with⟨O,a⟩|⟨O,a⟩
   ·obtain⟨z,P,a⟩:=bnd a
    obtain⟨r35,U,a⟩:=bnd a
    simp only[ZI,ZP]at a
    obtain⟨rfl,rfl,rfl⟩:=a
    exact jY.rq fol [1,4,8,10] ((1,.str d)::(2,.i most)::(kBk c.1 c.2 [(15,.i r35)])) (kAE o z) (ac (cv (qa7 N d r)) (ac (gw O) (ac (cv (qe0 true 3 P)) (ac (hs (.call 16 [.slice 0 0 2 2 1] (kAE o z) [0] [vl encI ([o,z]:List Int)] (.i r35)) (qas (FzL.cons (Fz.lit rfl rfl (Ud (AllST.cons tI (AllST.cons tI AllST.nil)))) FzL.nil) (qcD N ([o,z]:List Int) U) tI rfl)) az))))
   obtain⟨A,V,a⟩:=bnd a
   obtain⟨r37,Z,a⟩:=bnd a
   simp only[ZI,ZP]at a
   obtain⟨rfl,rfl,rfl⟩:=a
   exact jY.rq fol [1,4,8,10] ((1,.str d)::(2,.i most)::(kBk c.1 c.2 [(15,.i r37)])) (kAE o A) (ac (cv (qa7 N d r)) (ac (gw O) (ac (cv (qe0 (decide (most>999999999)) 3 V)) (ac (hs (.call 16 [.slice 0 0 2 2 1] (kAE o A) [0] [vl encI ([o,A]:List Int)] (.i r37)) (qas (FzL.cons (Fz.lit rfl rfl (Ud (AllST.cons tI (AllST.cons tI AllST.nil)))) FzL.nil) (qcD N ([o,A]:List Int) Z) tI rfl)) az))))
  try dsimp only at h
  refine sq ?_
  refine sh fol ((1,.str d)::(2,.i most)::(kBk c.1 c.2 [(15,.i y),(104,.bool (!decide (y=0)))])) ?_
  refine ihB h (fun c42 h=>?_) (fun c42 h=>?_)
  ·obtain⟨r43,a0,h⟩:=bnd h
   refine sq (gr fol [3] [(6,.bool r43)] (ac (cv (qdH N c.1 c.2 y [] a0)) az) ?_)
   refine Goes.ret ?_
   obtain rfl:=si h
   exact(gw2 [.bool r43] (Ua tB))
  refine Goes.skip ?_
  obtain⟨r44,a1,h⟩:=bnd h
  obtain⟨r45,a2,h⟩:=bnd h
  refine sq (gr fol [4,5] [(6,.bool r45)] (ac (cv (qgA N d most a1)) (ac (cv (qdH N c.1 c.2 0 r44 a2)) az)) ?_)
  refine Goes.ret ?_
  obtain rfl:=si h
  exact(gw2 [.bool r45] (Ua tB))
 try dsimp only at h
 obtain rfl:=si h
 exact hret
end Go.Av
