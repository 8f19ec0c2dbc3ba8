/-
  The walk of the law.
-/
import Derived.Test.YtmffnhniejfgpaaGreatDoorQGenB4
import Derived.Test.YtmffnhniejfgpaaGreatDoorAvAwkB5
noncomputable section
namespace Go.Av
open Go.Proofs Go.RowKit
set_option linter.unusedSectionVars false
set_option linter.unusedVariables false
set_option linter.unusedSimpArgs false
set_option maxRecDepth 100000
def awk:Option Bool:=some true
theorem qcf {res:Bool} (h:awk=some res):qa ZT (.fn 8) [] [] (.bool res) []:=by
 obtain rfl:=si h
 exact qgt
def zR (N:Nat) (n:Int) (a:qcj):Option Bool:=
 ((awk).bind fun y=>
 if(!y)=true then
 some true
 else
 if(a.A.length:Int)>220 then
 some true
 else
 some (decide ((a.B.length:Int)>220)):Option Bool).bind fun z=>
 if z=true then
 (awk).bind fun C=>
 some C
 else
 (zt N n a.A).bind fun f=>
 (yG N n a.A).bind fun g=>
 (jw N n a.A a.B).bind fun b=>
 (zS N n a.A a.K).bind fun c=>
 (zt N n a.B).bind fun h=>
 (jI (decide ((w64 ((a.A.length:Int)+(a.B.length:Int)))>200)) 5).bind fun i=>
 (jQ N ([f,h,i]:List Int)).bind fun d=>
 (if(!decide (d=0))=true then
 (qN N b.1 b.2 d []).bind fun j=>
 if(!j)=true then
 some true
 else
 if d=0 then
 (zy a.A a.B).bind fun k=>
 (qN N b.1 b.2 0 k).bind fun l=>
 some (!l)
 else
 some false
 else
 if d=0 then
 (zy a.A a.B).bind fun m=>
 (qN N b.1 b.2 0 m).bind fun o=>
 some (!o)
 else
 some false:Option Bool).bind fun p=>
 if p=true then
 some false
 else
 if(!decide (f=0))=true then
 ((qN N g.1 g.2 f []).bind fun q=>
 if q=true then
 (qN N c.1 c.2 f []).bind fun r=>
 some r
 else
 some false:Option Bool).bind fun s=>
 some s
 else
 (jO N a.A a.K).bind fun e=>
 ((j5 N n a.A).bind fun t=>
 (qN N g.1 g.2 0 t).bind fun u=>
 if u=true then
 (jI (!e.2) 5).bind fun v=>
 (qN N c.1 c.2 v e.1).bind fun w=>
 some w
 else
 some false:Option Bool).bind fun x=>
 some x
theorem y9 (N:Nat) (n:Int) (d:qcj) {res:Bool} (h:zR N n d=some res):qa ZT (.fn 7) [.i n,.agg [vl encI d.A,vl encI d.B,.i d.K]] [] (.bool res) []:=by
 unfold zR at h
 refine Ub Tryz.func7 rfl rfl (m:=135) rfl (rs:=[.tmp 4]) rfl (l:=[(0,.i n),(1,.agg [vl encI d.A,vl encI d.B,.i d.K])]) rfl ?_
 refine sg fol (kI n []) (kAU d.A d.B d.K []) ?_
 refine sq ?_
 refine sq ?_
 obtain⟨b4,f,h⟩:=bnd h
 refine Goes.cut (s':=(ofG 135 (kI n [(28,.bool b4)]),(kAU d.A d.B d.K []))) ?_ ?_
 ·obtain⟨r1,s,f⟩:=bnd f
  rcases wyB f with⟨c2,f⟩|⟨c2,f⟩
  ·obtain rfl:=si f
   exact tr fol [0,2] (kI n [(28,.bool true)]) (ac (cv (qcf s)) (ac (gw c2) az))
  rcases wyD f with⟨c3,f⟩|⟨c3,f⟩
  ·obtain rfl:=si f
   exact tr fol [0,2,8] (kI n [(28,.bool true)]) (ac (cv (qcf s)) (ac (gw c2) (ac (gw c3) az)))
  obtain rfl:=si f
  exact tr fol [0,2,8] (kI n [(28,.bool (decide ((d.B.length:Int)>220)))]) (ac (cv (qcf s)) (ac (gw c2) (ac (gw c3) az)))
 refine ihB h (fun c6 h=>?_) (fun c6 h=>?_)
 ·obtain⟨r7,X,h⟩:=bnd h
  refine sq (gr fol [0] (kAa r7) (ac (cv (qcf X)) az) ?_)
  refine Goes.ret ?_
  obtain rfl:=si h
  exact(gw2 [.bool r7] (Ua tB))
 refine Goes.skip ?_
 obtain⟨k,Y,h⟩:=bnd h
 refine sq (gr fol [3] (kI n (kAc k)) (ac (cv (ve N n d.A Y)) az) ?_)
 obtain⟨j,Z,h⟩:=bnd h
 refine sq (gr fol [3] (kI n ((5,.i k)::(kM j.1 j.2 []))) (ac (cv (qbB N n d.A Z)) az) ?_)
 obtain⟨g,z,h⟩:=bnd h
 refine sq (gr fol [5] (kI n ((5,.i k)::(kM j.1 j.2 (kAI g.1 g.2 [])))) (ac (cv (qaH N n d.A d.B z)) az) ?_)
 obtain⟨c,C,h⟩:=bnd h
 refine sq (gr fol [5] (kI n ((5,.i k)::(kM j.1 j.2 (kAI g.1 g.2 (kP c.1 c.2 []))))) (ac (cv (qbt N n d.A d.K C)) az) ?_)
 obtain⟨o,D,h⟩:=bnd h
 obtain⟨p,F,h⟩:=bnd h
 obtain⟨t,G,h⟩:=bnd h
 refine sq (gq fol [4,13,15] (kI n ((5,.i k)::(kM j.1 j.2 (kAI g.1 g.2 (kP c.1 c.2 [(12,.i t)]))))) (kAU d.A d.B d.K (kAM k o p)) (ac (cv (ve N n d.B D)) (ac (cv (xD (decide ((w64 ((d.A.length:Int)+(d.B.length:Int)))>200)) 5 F)) (ac (hs (.call 10 [.slice 1 0 3 3 1] (kAU d.A d.B d.K (kAM k o p)) [1] [vl encI ([k,o,p]:List Int)] (.i t)) (qbm (FzL.cons (Fz.lit rfl rfl (FzL.still (AllST.cons tI (AllST.cons tI (AllST.cons tI AllST.nil))))) FzL.nil) (qa9 N ([k,o,p]:List Int) G) tI rfl)) az))) ?_)
 refine sq ?_
 refine sq ?_
 obtain⟨b24,a,h⟩:=bnd h
 refine Goes.cut (s':=(ofG 135 (kI n ((5,.i k)::(kM j.1 j.2 (kP c.1 c.2 [(98,.bool b24)])))),(kAU d.A d.B d.K (kAM k o p)))) ?_ ?_
 ·rcases wyB a with⟨r,a⟩|⟨r,a⟩
  ·obtain⟨r16,q,a⟩:=bnd a
   rcases wyB a with⟨x,a⟩|⟨x,a⟩
   ·obtain rfl:=si a
    exact tr fol [2,6,9] (kI n ((5,.i k)::(kM j.1 j.2 (kP c.1 c.2 [(98,.bool true)])))) (ac (gw r) (ac (cv ((qa.wk (qQ N g.1 g.2 t [] q) (WkL.cons (Wk.refl _) (WkL.cons (Wk.refl _) (WkL.cons (Wk.refl _) (WkL.cons (Wk.nilv (E:=encI)) WkL.nil))))))) (ac (gw x) az)))
   rcases wyD a with⟨H,a⟩|⟨H,a⟩
   ·obtain⟨r19,I,a⟩:=bnd a
    obtain⟨r20,J,a⟩:=bnd a
    obtain rfl:=si a
    exact tr fol [2,6,9,12,19,20] (kI n ((5,.i k)::(kM j.1 j.2 (kP c.1 c.2 [(98,.bool (!r20))])))) (ac (gw r) (ac (cv ((qa.wk (qQ N g.1 g.2 t [] q) (WkL.cons (Wk.refl _) (WkL.cons (Wk.refl _) (WkL.cons (Wk.refl _) (WkL.cons (Wk.nilv (E:=encI)) WkL.nil))))))) (ac (gw x) (ac (gw H) (ac (cv (yI d.A d.B I)) (ac (cv (qQ N g.1 g.2 0 r19 J)) az))))))
   obtain rfl:=si a
   exact tr fol [2,6,9,12] (kI n ((5,.i k)::(kM j.1 j.2 (kP c.1 c.2 [(98,.bool false)])))) (ac (gw r) (ac (cv ((qa.wk (qQ N g.1 g.2 t [] q) (WkL.cons (Wk.refl _) (WkL.cons (Wk.refl _) (WkL.cons (Wk.refl _) (WkL.cons (Wk.nilv (E:=encI)) WkL.nil))))))) (ac (gw x) (ac (gw H) az))))
  rcases wyD a with⟨L,a⟩|⟨L,a⟩
  ·obtain⟨r22,M,a⟩:=bnd a
   obtain⟨r23,O,a⟩:=bnd a
   obtain rfl:=si a
   exact tr fol [2,12,19,20] (kI n ((5,.i k)::(kM j.1 j.2 (kP c.1 c.2 [(98,.bool (!r23))])))) (ac (gw r) (ac (gw L) (ac (cv (yI d.A d.B M)) (ac (cv (qQ N g.1 g.2 0 r22 O)) az))))
  obtain rfl:=si a
  exact tr fol [2,12] (kI n ((5,.i k)::(kM j.1 j.2 (kP c.1 c.2 [(98,.bool false)])))) (ac (gw r) (ac (gw L) az))
 refine ihB h (fun c26 h=>?_) (fun c26 h=>?_)
 ·refine sh fol kAA ?_
  refine Goes.ret ?_
  obtain rfl:=si h
  exact(gw2 [.bool false] (Ua tB))
 refine Goes.skip ?_
 refine sq ?_
 refine sh fol (kI n ((5,.i k)::(kM j.1 j.2 (kP c.1 c.2 [(100,.bool (!decide (k=0)))])))) ?_
 refine ihB h (fun c27 h=>?_) (fun c27 h=>?_)
 ·refine sq ?_
  obtain⟨a0,e,h⟩:=bnd h
  refine Goes.cut (s':=(ofG 135 (kAa a0),(kAU d.A d.B d.K (kAM k o p)))) ?_ ?_
  ·obtain⟨r28,u,e⟩:=bnd e
   rcases wyB e with⟨P,e⟩|⟨P,e⟩
   ·obtain⟨r30,Q,e⟩:=bnd e
    obtain rfl:=si e
    exact tr fol [3,4,8] (kAa r30) (ac (cv ((qa.wk (qQ N j.1 j.2 k [] u) (WkL.cons (Wk.refl _) (WkL.cons (Wk.refl _) (WkL.cons (Wk.refl _) (WkL.cons (Wk.nilv (E:=encI)) WkL.nil))))))) (ac (gw P) (ac (cv ((qa.wk (qQ N c.1 c.2 k [] Q) (WkL.cons (Wk.refl _) (WkL.cons (Wk.refl _) (WkL.cons (Wk.refl _) (WkL.cons (Wk.nilv (E:=encI)) WkL.nil))))))) az)))
   obtain rfl:=si e
   exact tr fol [3,4] kAA (ac (cv ((qa.wk (qQ N j.1 j.2 k [] u) (WkL.cons (Wk.refl _) (WkL.cons (Wk.refl _) (WkL.cons (Wk.refl _) (WkL.cons (Wk.nilv (E:=encI)) WkL.nil))))))) (ac (gw P) az))
  refine Goes.ret ?_
  obtain rfl:=si h
  exact(gw2 [.bool a0] (Ua tB))
 refine Goes.skip ?_
 obtain⟨y,T,h⟩:=bnd h
 refine sq (gr fol [4] (kI n (kM j.1 j.2 (kP c.1 c.2 ((13,vl encI y.1)::(kBL y.2))))) (ac (cv (qa2 N d.A d.K T)) az) ?_)
 refine sq ?_
 obtain⟨a1,b,h⟩:=bnd h
 refine Goes.cut (s':=(ofG 135 (kAa a1),(kAU d.A d.B d.K (kAM k o p)))) ?_ ?_
 ·obtain⟨a2,v,b⟩:=bnd b
  obtain⟨r35,w,b⟩:=bnd b
  rcases wyB b with⟨U,b⟩|⟨U,b⟩
  ·obtain⟨r37,V,b⟩:=bnd b
   obtain⟨r38,W,b⟩:=bnd b
   obtain rfl:=si b
   exact tr fol [5,6,7,12,14] (kAa r38) (ac (cv (xC N n d.A v)) (ac (cv (qQ N j.1 j.2 0 a2 w)) (ac (gw U) (ac (cv (xD (!y.2) 5 V)) (ac (cv (qQ N c.1 c.2 r37 y.1 W)) az)))))
  obtain rfl:=si b
  exact tr fol [5,6,7] kAA (ac (cv (xC N n d.A v)) (ac (cv (qQ N j.1 j.2 0 a2 w)) (ac (gw U) az)))
 refine Goes.ret ?_
 obtain rfl:=si h
 exact(gw2 [.bool a1] (Ua tB))
end Go.Av
