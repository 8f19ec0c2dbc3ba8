/-
  The walk of the law.
-/
import Derived.Test.YtbjpmhdicbgjkaaGreatDoorQGenE6
import Derived.Test.YtbjpmhdicbgjkaaGreatDoorAvAwkE
noncomputable section
namespace Go.Av
open Go.Proofs Go.RowKit
set_option linter.unusedSectionVars false
set_option linter.unusedVariables false
set_option linter.unusedSimpArgs false
set_option maxRecDepth 100000
def awk:Option Bool:=some true
theorem qcn {res:Bool} (h:awk=some res):qc Tryz.prog (.fn 10) [] [] (.bool res) []:=by
 obtain rfl:=si h
 exact qnF
def yB (N:Nat) (e:Str) (n:(Int×Int)) (a:Str):Option Bool:=
 ((awk).bind fun q=>
 if(!q)=true then
 some true
 else
 if(e.length:Int)>1300 then
 some true
 else
 if(a.length:Int)>1300 then
 some true
 else
 if n.1<(-999999999)then
 some true
 else
 if n.1>999999999 then
 some true
 else
 if n.2<(-999999999)then
 some true
 else
 some (decide (n.2>999999999)):Option Bool).bind fun r=>
 if r=true then
 (awk).bind fun f=>
 some f
 else
 (qbA N n.1 n.2).bind fun b=>
 (yg N a).bind fun c=>
 (xk N e).bind fun g=>
 (xG N e).bind fun h=>
 if(!(g==h))=true then
 some false
 else
 ((if n.2=0 then
 (jU N b.1 b.2 6 []).bind fun i=>
 if(!i)=true then
 some (.inr false)
 else
 some (.inl ())
 else
 (qbn N n.1 n.2).bind fun j=>
 (jU N b.1 b.2 0 j).bind fun k=>
 if(!k)=true then
 some (.inr false)
 else
 some (.inl ()):Option (Unit⊕Bool))).bind (fun
 |(.inl ())=>
 (qap N a).bind fun d=>
 if(!decide (d=0))=true then
 (jU N c.1 c.2 d []).bind fun l=>
 some l
 else
 (qal N a).bind fun m=>
 (jU N c.1 c.2 0 m).bind fun o=>
 some o
 |(.inr p)=>
 some p)
theorem qcd (N:Nat) (f:Str) (n:(Int×Int)) (a:Str) {res:Bool} (h:yB N f n a=some res):qc Tryz.prog (.fn 8) [.str f,.agg [.i n.1,.i n.2],.str a] [] (.bool res) []:=by
 unfold yB at h
 refine Goes.fnW Tryz.func8 rfl rfl (m:=92) rfl (rs:=[.tmp 6]) rfl (l:=(kAQ f ((1,.agg [.i n.1,.i n.2])::(kBs a)))) rfl ?_
 refine sg fol (kAQ f ((2,.str a)::(kY []))) (kAE n.1 n.2) ?_
 refine sq ?_
 refine sq ?_
 obtain⟨b8,b,h⟩:=bnd h
 refine Goes.cut (s':=(ofG 92 (kAQ f ((2,.str a)::(kY [(43,.bool b8)]))),(kAE n.1 n.2))) ?_ ?_
 ·obtain⟨r1,e,b⟩:=bnd b
  rcases wyB b with⟨j,b⟩|⟨j,b⟩
  ·obtain rfl:=si b
   exact tr fol [0,2] (kAQ f ((2,.str a)::(kY [(43,.bool true)]))) (ac (cv (qcn e)) (ac (gw j) az))
  rcases wyD b with⟨k,b⟩|⟨k,b⟩
  ·obtain rfl:=si b
   exact tr fol [0,2,7] (kAQ f ((2,.str a)::(kY [(43,.bool true)]))) (ac (cv (qcn e)) (ac (gw j) (ac (gw k) az)))
  rcases wyD b with⟨B,b⟩|⟨B,b⟩
  ·obtain rfl:=si b
   exact tr fol [0,2,7,12] (kAQ f ((2,.str a)::(kY [(43,.bool true)]))) (ac (cv (qcn e)) (ac (gw j) (ac (gw k) (ac (gw B) az))))
  rcases wyD b with⟨C,b⟩|⟨C,b⟩
  ·obtain rfl:=si b
   exact tr fol [0,2,7,12,17] (kAQ f ((2,.str a)::(kY [(43,.bool true)]))) (ac (cv (qcn e)) (ac (gw j) (ac (gw k) (ac (gw B) (ac (gw C) az)))))
  rcases wyD b with⟨I,b⟩|⟨I,b⟩
  ·obtain rfl:=si b
   exact tr fol [0,2,7,12,17,22] (kAQ f ((2,.str a)::(kY [(43,.bool true)]))) (ac (cv (qcn e)) (ac (gw j) (ac (gw k) (ac (gw B) (ac (gw C) (ac (gw I) az))))))
  rcases wyD b with⟨J,b⟩|⟨J,b⟩
  ·obtain rfl:=si b
   exact tr fol [0,2,7,12,17,22,27] (kAQ f ((2,.str a)::(kY [(43,.bool true)]))) (ac (cv (qcn e)) (ac (gw j) (ac (gw k) (ac (gw B) (ac (gw C) (ac (gw I) (ac (gw J) az)))))))
  obtain rfl:=si b
  exact tr fol [0,2,7,12,17,22,27] (kAQ f ((2,.str a)::(kY [(43,.bool (decide (n.2>999999999)))]))) (ac (cv (qcn e)) (ac (gw j) (ac (gw k) (ac (gw B) (ac (gw C) (ac (gw I) (ac (gw J) az)))))))
 refine ihB h (fun K h=>?_) (fun K h=>?_)
 ·obtain⟨D,o,h⟩:=bnd h
  refine sq (gr fol [0] [(6,.bool D)] (ac (cv (qcn o)) az) ?_)
  refine Goes.ret ?_
  obtain rfl:=si h
  exact(gw2 [.bool D] (FzW.still tB))
 refine Goes.skip ?_
 obtain⟨d,p,h⟩:=bnd h
 refine sq (gr fol [4] (kAQ f ((2,.str a)::(kY ((7,.str d.1)::(kBw d.2))))) (ac (cv (qgW N n.1 n.2 p)) az) ?_)
 obtain⟨c,q,h⟩:=bnd h
 refine sq (gr fol [1] (kAQ f ((2,.str a)::(kY ((7,.str d.1)::(8,.i d.2)::(kBB c.1 c.2 []))))) (ac (cv (qeE N a q)) az) ?_)
 refine sq ?_
 obtain⟨L,r,h⟩:=bnd h
 obtain⟨M,s,h⟩:=bnd h
 refine sq (gr fol [1,3] ((2,.str a)::(kY ((7,.str d.1)::(8,.i d.2)::(kBB c.1 c.2 [(62,.bool (!(L==M)))])))) (ac (cv (qee N f r)) (ac (cv (qez N f s)) az)) ?_)
 refine ihB h (fun O h=>?_) (fun O h=>?_)
 ·refine sh fol kBD ?_
  refine Goes.ret ?_
  obtain rfl:=si h
  exact(gw2 [.bool false] (FzW.still tB))
 refine Goes.skip ?_
 refine sq ?_
 refine sh fol ((2,.str a)::(kY ((7,.str d.1)::(8,.i d.2)::(kBB c.1 c.2 [(65,.bool (decide (n.2=0)))])))) ?_
 obtain⟨E,g17,h⟩:=bnd h
 refine Goes.imp (Q:=fun x s'=>(x= .normal/\(.inl ())=E/\Sub s' (ofG 92 ((2,.str a)::(kBB c.1 c.2 [])),[]))\/(x= .ret/\ ∃F,(.inr F)=E/\jJ Tryz.prog [.tmp 6] (.bool F) .ret s')) ?_ ?_
 ·refine ihD g17 (fun P g17=>?_) (fun P g17=>?_)
  ·obtain⟨U,t,g17⟩:=bnd g17
   refine sq (gr fol [2] ((2,.str a)::(kBB c.1 c.2 [(69,.bool (!U))])) (ac (cv (qay N d.1 d.2 6 [] t)) az) ?_)
   refine ihB g17 (fun V g17=>?_) (fun V g17=>?_)
   ·refine sh fol kBD ?_
    refine Goes.ret ?_
    obtain rfl:=si g17
    exact Or.inr (⟨rfl,_,rfl,(gw2 [.bool false] (FzW.still tB))⟩)
   refine Goes.skip ?_
   obtain rfl:=si g17
   exact Or.inl (⟨rfl,rfl,(Sub.norm [] [] rfl rfl (.keep (.same nS) (.keep (.same nS) (.keep (.same nI) .nil))) .nil)⟩)
  obtain⟨X,u,g17⟩:=bnd g17
  obtain⟨Y,v,g17⟩:=bnd g17
  refine sq (gr fol [6,7] ((2,.str a)::(kBB c.1 c.2 [(78,.bool (!Y))])) (ac (cv (qhN N n.1 n.2 u)) (ac (cv (qay N d.1 d.2 0 X v)) az)) ?_)
  refine ihB g17 (fun Z g17=>?_) (fun Z g17=>?_)
  ·refine sh fol kBD ?_
   refine Goes.ret ?_
   obtain rfl:=si g17
   exact Or.inr (⟨rfl,_,rfl,(gw2 [.bool false] (FzW.still tB))⟩)
  refine Goes.skip ?_
  obtain rfl:=si g17
  exact Or.inl (⟨rfl,rfl,(Sub.norm [] [] rfl rfl (.keep (.same nS) (.keep (.same nS) (.keep (.same nI) .nil))) .nil)⟩)
 rintro x s' (⟨rfl,rfl,hsub⟩|⟨rfl,q30,rfl,hret⟩)
 ·try dsimp only at h
  refine Goes.sub hsub ?_
  obtain⟨g,w,h⟩:=bnd h
  refine sq (gr fol [1] ((2,.str a)::(kBB c.1 c.2 [(11,.i g)])) (ac (cv (qe4 N a w)) az) ?_)
  refine sq ?_
  refine sh fol ((2,.str a)::(kBB c.1 c.2 [(11,.i g),(82,.bool (!decide (g=0)))])) ?_
  refine ihB h (fun a0 h=>?_) (fun a0 h=>?_)
  ·obtain⟨G,y,h⟩:=bnd h
   refine sq (gr fol [3] [(6,.bool G)] (ac (cv (qay N c.1 c.2 g [] y)) az) ?_)
   refine Goes.ret ?_
   obtain rfl:=si h
   exact(gw2 [.bool G] (FzW.still tB))
  refine Goes.skip ?_
  obtain⟨a1,z,h⟩:=bnd h
  obtain⟨H,A,h⟩:=bnd h
  refine sq (gr fol [3,4] [(6,.bool H)] (ac (cv (qft N a z)) (ac (cv (qay N c.1 c.2 0 a1 A)) az)) ?_)
  refine Goes.ret ?_
  obtain rfl:=si h
  exact(gw2 [.bool H] (FzW.still tB))
 try dsimp only at h
 obtain rfl:=si h
 exact hret
end Go.Av
