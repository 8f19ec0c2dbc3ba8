/-
  The walk of the law.
-/
import Derived.Test.YtbjpmhdicbgjkaaGreatDoorQGenE6
import Derived.Test.YtbjpmhdicbgjkaaGreatDoorAvAwkE
noncomputable section
namespace Go.Av
open Go.Proofs Go.RowKit
set_option linter.unusedSectionVars false
set_option linter.unusedVariables false
set_option linter.unusedSimpArgs false
set_option maxRecDepth 100000
def awk:Option Bool:=some true
theorem qlJ {res:Bool} (h:awk=some res):qb ZT (.fn 10) [] [] (.bool res) []:=by
 obtain rfl:=si h
 exact qqO
def qah (N:Nat) (a:qo) (b:qo):Option Bool:=
 ((awk).bind fun z=>
 if(!z)=true then
 some true
 else
 (qcr N ([a.Low,a.High,b.Low,b.High]:List Str)).bind fun A=>
 some A:Option Bool).bind fun B=>
 if B=true then
 (awk).bind fun C=>
 some C
 else
 (vT N a).bind fun D=>
 (vT N b).bind fun E=>
 (qb0 N ([D,E]:List Int)).bind fun d=>
 (qD N a).bind fun h=>
 (vT N a).bind fun i=>
 if(!decide (h=i))=true then
 some false
 else
 (qaE N a b).bind fun e=>
 (xQ N a b).bind fun f=>
 (xO N a b).bind fun g=>
 (qav N a b).bind fun c=>
 if(!decide (d=0))=true then
 ((zl N e.1 e.2 d a).bind fun j=>
 if j=true then
 (zl N f.1 f.2 d a).bind fun k=>
 if k=true then
 (zl N g.1 g.2 d a).bind fun l=>
 if l=true then
 (zl N c.1 c.2 d a).bind fun m=>
 some m
 else
 some false
 else
 some false
 else
 some false:Option Bool).bind fun n=>
 some n
 else
 ((qcH N a b).bind fun o=>
 (zl N e.1 e.2 0 o).bind fun p=>
 if(!p)=true then
 some true
 else
 (qbV N a b).bind fun q=>
 (zl N f.1 f.2 0 q).bind fun r=>
 if(!r)=true then
 some true
 else
 (qbO N a b).bind fun s=>
 (zl N g.1 g.2 0 s).bind fun t=>
 some (!t):Option Bool).bind fun u=>
 if u=true then
 some false
 else
 (qck N b [48]).bind fun v=>
 if v=true then
 (zl N c.1 c.2 6 a).bind fun w=>
 some w
 else
 (qcE N a b).bind fun x=>
 (zl N c.1 c.2 0 x).bind fun y=>
 some y
theorem qes (N:Nat) (a:qo) (b:qo) {res:Bool} (h:qah N a b=some res):qb ZT (.fn 6) (kS a.Low a.High (kS b.Low b.High [])) [] (.bool res) []:=by
 unfold qah at h
 refine Ub Tryz.func6 rfl rfl (m:=129) rfl (rs:=[.tmp 4]) rfl (l:=(kAC a.Low a.High b.Low b.High [])) rfl ?_
 refine sg fol (kR []) (kB a.Low a.High (kB b.Low b.High [])) ?_
 refine sq ?_
 refine sq ?_
 obtain⟨b4,n,h⟩:=bnd h
 refine Goes.cutS (s':=(ofG 129 (kR [(27,.bool b4)]),(kB a.Low a.High (kB b.Low b.High [])))) ?_ ?_
 ·obtain⟨r1,A,n⟩:=bnd n
  rcases wyB n with⟨c2,n⟩|⟨c2,n⟩
  ·obtain rfl:=si n
   exact xG.sub (tr fol [0,2] (kR [(27,.bool true)]) (ac (cv (qlJ A)) (ac (gw c2) az))) (Sub.refl _)
  obtain⟨r3,X,n⟩:=bnd n
  obtain rfl:=si n
  exact xG.sub (xG.rq fol [0,2,12] (kR [(27,.bool r3)]) (kB a.Low a.High (kB b.Low b.High (kB1 a.Low a.High b.Low b.High))) (ac (cv (qlJ A)) (ac (gw c2) (ac (hs (.call 11 [.slice 2 0 4 4 1] (kB a.Low a.High (kB b.Low b.High (kB1 a.Low a.High b.Low b.High))) [2] [vl encS ([a.Low,a.High,b.Low,b.High]:List Str)] (.bool r3)) (qbk (FzL.cons (Fz.lit rfl rfl (Ud (AllST.cons tS (AllST.cons tS (AllST.cons tS (AllST.cons tS AllST.nil)))))) FzL.nil) (qiH N ([a.Low,a.High,b.Low,b.High]:List Str) X) tB rfl)) az)))) (Sub.norm [] [some 0,some 1] rfl rfl (.kp (.kp (.keep (.same nB) .nil))) (.kb rfl (.same sn) (.kb rfl (.same sn) .nil)))
 intro _ hsub
 refine Goes.sub hsub ?_
 refine ihB h (fun c6 h=>?_) (fun c6 h=>?_)
 ·obtain⟨r7,Y,h⟩:=bnd h
  refine sq (gr fol [0] (kAl r7) (ac (cv (qlJ Y)) az) ?_)
  refine Goes.ret ?_
  obtain rfl:=si h
  exact(gw2 [.bool r7] (Ua tB))
 refine Goes.skip ?_
 obtain⟨w,Z,h⟩:=bnd h
 obtain⟨x,a0,h⟩:=bnd h
 obtain⟨g,B,h⟩:=bnd h
 refine sq (gq fol [1,3,5] (kR (kA5 g)) (kB a.Low a.High (kB b.Low b.High (kAE w x))) (ac (cv (qa0 N a Z)) (ac (cv (qa0 N b a0)) (ac (hs (.call 16 [.slice 2 0 2 2 1] (kB a.Low a.High (kB b.Low b.High (kAE w x))) [2] [vl encI ([w,x]:List Int)] (.i g)) (qbk (FzL.cons (Fz.lit rfl rfl (Ud (AllST.cons tI (AllST.cons tI AllST.nil)))) FzL.nil) (qhr N ([w,x]:List Int) B) tI rfl)) az))) ?_)
 refine sq ?_
 obtain⟨r11,C,h⟩:=bnd h
 obtain⟨r12,D,h⟩:=bnd h
 refine sq (gr fol [1,3] (kR [(5,.i g),(39,.bool (!decide (r11=r12)))]) (ac (cv (zg N a C)) (ac (cv (qa0 N a D)) az)) ?_)
 refine ihB h (fun c13 h=>?_) (fun c13 h=>?_)
 ·refine sh fol kAT ?_
  refine Goes.ret ?_
  obtain rfl:=si h
  exact(gw2 [.bool false] (Ua tB))
 refine Goes.skip ?_
 obtain⟨e,E,h⟩:=bnd h
 refine sq (gq fol [2] (kR [(5,.i g),(6,.ptr 3 0),(7,.i e.2)]) (kB a.Low a.High (kB b.Low b.High (kBQ w x (kB e.1.Low e.1.High [])))) (ac (cv (qhJ N a b E)) az) ?_)
 obtain⟨f,F,h⟩:=bnd h
 refine sq (gq fol [2] (kR (kBo g e.2 f.2 [])) (kB a.Low a.High (kB b.Low b.High (kBQ w x (kB e.1.Low e.1.High (kB f.1.Low f.1.High []))))) (ac (cv (qgY N a b F)) az) ?_)
 obtain⟨k,G,h⟩:=bnd h
 refine sq (gq fol [2] (kR (kBo g e.2 f.2 [(10,.ptr 5 0),(11,.i k.2)])) (kB a.Low a.High (kB b.Low b.High (kBQ w x (kB e.1.Low e.1.High (kB f.1.Low f.1.High (kB k.1.Low k.1.High [])))))) (ac (cv (qg0 N a b G)) az) ?_)
 obtain⟨j,H,h⟩:=bnd h
 refine sq (gq fol [2] (kR (kBo g e.2 f.2 ((10,.ptr 5 0)::(11,.i k.2)::(kBv j.2 [])))) (kB a.Low a.High (kB b.Low b.High (kBQ w x (kB e.1.Low e.1.High (kB f.1.Low f.1.High (kB k.1.Low k.1.High (kB j.1.Low j.1.High []))))))) (ac (cv (qiz N a b H)) az) ?_)
 refine sq ?_
 refine sh fol (kR (kBo g e.2 f.2 ((10,.ptr 5 0)::(11,.i k.2)::(kBv j.2 [(65,.bool (!decide (g=0)))])))) ?_
 refine ihB h (fun c18 h=>?_) (fun c18 h=>?_)
 ·refine sq ?_
  obtain⟨a1,c,h⟩:=bnd h
  refine Goes.cut (s':=(ofG 129 (kAl a1),(kB a.Low a.High (kB b.Low b.High (kBQ w x (kB e.1.Low e.1.High (kB f.1.Low f.1.High (kB k.1.Low k.1.High (kB j.1.Low j.1.High []))))))))) ?_ ?_
  ·obtain⟨r19,o,c⟩:=bnd c
   rcases wyB c with⟨s,c⟩|⟨s,c⟩
   ·obtain⟨r21,p,c⟩:=bnd c
    rcases wyB c with⟨y,c⟩|⟨y,c⟩
    ·obtain⟨r23,t,c⟩:=bnd c
     rcases wyB c with⟨I,c⟩|⟨I,c⟩
     ·obtain⟨r25,J,c⟩:=bnd c
      obtain rfl:=si c
      exact tr fol [4,5,10,12,17,19,24] (kAl r25) (ac (cv (qN N e.1 e.2 g a o)) (ac (gw s) (ac (cv (qN N f.1 f.2 g a p)) (ac (gw y) (ac (cv (qN N k.1 k.2 g a t)) (ac (gw I) (ac (cv (qN N j.1 j.2 g a J)) az)))))))
     obtain rfl:=si c
     exact tr fol [4,5,10,12,17,19] kAT (ac (cv (qN N e.1 e.2 g a o)) (ac (gw s) (ac (cv (qN N f.1 f.2 g a p)) (ac (gw y) (ac (cv (qN N k.1 k.2 g a t)) (ac (gw I) az))))))
    obtain rfl:=si c
    exact tr fol [4,5,10,12] kAT (ac (cv (qN N e.1 e.2 g a o)) (ac (gw s) (ac (cv (qN N f.1 f.2 g a p)) (ac (gw y) az))))
   obtain rfl:=si c
   exact tr fol [4,5] kAT (ac (cv (qN N e.1 e.2 g a o)) (ac (gw s) az))
  refine Goes.ret ?_
  obtain rfl:=si h
  exact(gw2 [.bool a1] (Ua tB))
 refine Goes.skip ?_
 refine sq ?_
 refine sq ?_
 obtain⟨b36,d,h⟩:=bnd h
 refine Goes.cut (s':=(ofG 129 (kR (kBv j.2 [(116,.bool b36)])),(kB a.Low a.High (kB b.Low b.High (kBQ w x (kB e.1.Low e.1.High (kB f.1.Low f.1.High (kB k.1.Low k.1.High (kB j.1.Low j.1.High []))))))))) ?_ ?_
 ·obtain⟨K,q,d⟩:=bnd d
  obtain⟨r29,r,d⟩:=bnd d
  rcases wyB d with⟨z,d⟩|⟨z,d⟩
  ·obtain rfl:=si d
   exact tr fol [4,5,7] (kR (kBv j.2 [(116,.bool true)])) (ac (cv (qdc N a b q)) (ac (cv (qN N e.1 e.2 0 K r)) (ac (gw z) az)))
  obtain⟨a2,u,d⟩:=bnd d
  obtain⟨r32,v,d⟩:=bnd d
  rcases wyB d with⟨L,d⟩|⟨L,d⟩
  ·obtain rfl:=si d
   exact tr fol [4,5,7,12,13,16] (kR (kBv j.2 [(116,.bool true)])) (ac (cv (qdc N a b q)) (ac (cv (qN N e.1 e.2 0 K r)) (ac (gw z) (ac (cv (qeR N a b u)) (ac (cv (qN N f.1 f.2 0 a2 v)) (ac (gw L) az))))))
  obtain⟨r34,M,d⟩:=bnd d
  obtain⟨r35,O,d⟩:=bnd d
  obtain rfl:=si d
  exact tr fol [4,5,7,12,13,16,21,22] (kR (kBv j.2 [(116,.bool (!r35))])) (ac (cv (qdc N a b q)) (ac (cv (qN N e.1 e.2 0 K r)) (ac (gw z) (ac (cv (qeR N a b u)) (ac (cv (qN N f.1 f.2 0 a2 v)) (ac (gw L) (ac (cv (qhD N a b M)) (ac (cv (qN N k.1 k.2 0 r34 O)) az))))))))
 refine ihB h (fun c38 h=>?_) (fun c38 h=>?_)
 ·refine sh fol kAT ?_
  refine Goes.ret ?_
  obtain rfl:=si h
  exact(gw2 [.bool false] (Ua tB))
 refine Goes.skip ?_
 refine sq ?_
 obtain⟨r39,P,h⟩:=bnd h
 refine sq (gr fol [1] (kR (kBv j.2 [(118,.bool r39)])) (ac (cv (qjY N b [48] P)) az) ?_)
 refine ihB h (fun c40 h=>?_) (fun c40 h=>?_)
 ·obtain⟨a3,Q,h⟩:=bnd h
  refine sq (gr fol [3] (kAl a3) (ac (cv (qN N j.1 j.2 6 a Q)) az) ?_)
  refine Goes.ret ?_
  obtain rfl:=si h
  exact(gw2 [.bool a3] (Ua tB))
 refine Goes.skip ?_
 obtain⟨r42,U,h⟩:=bnd h
 obtain⟨a4,V,h⟩:=bnd h
 refine sq (gr fol [4,5] (kAl a4) (ac (cv (qiD N a b U)) (ac (cv (qN N j.1 j.2 0 r42 V)) az)) ?_)
 refine Goes.ret ?_
 obtain rfl:=si h
 exact(gw2 [.bool a4] (Ua tB))
end Go.Av
