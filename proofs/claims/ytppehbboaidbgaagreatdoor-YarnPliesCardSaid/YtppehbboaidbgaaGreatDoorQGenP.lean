/-
  The walk of the law.
-/
import Derived.Test.YtppehbboaidbgaaGreatDoorQGenP5
import Derived.Test.YtppehbboaidbgaaGreatDoorAvAwkP
noncomputable section
namespace Go.Av
open Go.Proofs Go.RowKit
set_option linter.unusedSectionVars false
set_option linter.unusedVariables false
set_option linter.unusedSimpArgs false
set_option maxRecDepth 100000
def awk:Option Bool:=some true
theorem qnV {res:Bool} (h:awk=some res):qb ZT (.fn 8) [] [] (.bool res) []:=by
 obtain rfl:=si h;exact qrm
def qaO (N:Nat) (l:List ql) (p:qhU):Option Bool:=
 (qbM N l).bind fun k=>
 ((qbT N k).bind fun w=>
 if(!w)=true then
 some true
 else
 if(p.Name.length:Int)>60 then
 some true
 else
 if(p.Twist.length:Int)>60 then
 some true
 else
 some (decide ((p.Factor.length:Int)>60)):Option Bool).bind fun x=>
 if x=true then
 (awk).bind fun y=>
 some y
 else
 (qa6 N p.Name l p.Twist p.Factor).bind fun h=>
 (qan N p.Name k p.Twist p.Factor).bind fun i=>
 ((if i=0 then
 (qdp N p.Name k p.Twist p.Factor).bind fun a=>
 some (a.1.Name,a.1.Density,a.1.Twist,a.1.Strength,a.1.Dye,a.2)
 else
 some ([],[],[],[],[],i):Option (Str×Str×Str×(List zZ)×Str×Int))).bind fun(b,c,d,e,f,j)=>
 ((if j=0 then
 (qbO N (⟨b,c,d,e,f⟩:ql)).bind fun g=>
 if(!decide (g=0))=true then
 some ([],[],[],[],[],g)
 else
 some (b,c,d,e,f,g)
 else
 some (b,c,d,e,f,j):Option (Str×Str×Str×(List zZ)×Str×Int))).bind fun(m,n,o,q,r,s)=>
 (if h.2=s then
 (qaf N h.1 (⟨m,n,o,q,r⟩:ql)).bind fun t=>
 if t=true then
 (awk).bind fun u=>
 some u
 else
 some false
 else
 some false:Option Bool).bind fun v=>
 some v
theorem qfO (N:Nat) (l:List ql) (p:qhU) {res:Bool} (h:qaO N l p=some res):qb ZT (.fn 3) [vl qd l,.agg [.str p.Name,.str p.Twist,.str p.Factor]] [] (.bool res) []:=by
 unfold qaO at h;refine Ub Tryz.func3 rfl rfl (m:=84) rfl (rs:=[.tmp 4]) rfl (l:=(kAP l [(1,.agg [.str p.Name,.str p.Twist,.str p.Factor])])) rfl ?_;refine sg fol (kAP l [(3,.ptr 0 0)]) [.cells [.str p.Name,.str p.Twist,.str p.Factor]] ?_;obtain⟨d,I,h⟩:=bnd h;refine sq (gr fol [1] (kAP l (kAk d [])) (ac (cv (qiT N l I)) az) ?_);refine sq ?_;refine sq ?_;obtain⟨b6,c,h⟩:=bnd h;refine Ue (s':=(ofG 84 (kAP l (kAk d [(32,.bool b6)])),[.cells [.str p.Name,.str p.Twist,.str p.Factor]])) ?_ ?_
 ·obtain⟨r2,e,c⟩:=bnd c;rcases wyB c with⟨J,c⟩|⟨J,c⟩
  ·obtain rfl:=si c;exact tr fol [1,3] (kAP l (kAk d [(32,.bool true)])) (ac (cv (qbo N d e)) (ac (gw J) az))
  rcases wyD c with⟨M,c⟩|⟨M,c⟩
  ·obtain rfl:=si c;exact tr fol [1,3,9] (kAP l (kAk d [(32,.bool true)])) (ac (cv (qbo N d e)) (ac (gw J) (ac (gw M) az)))
  rcases wyD c with⟨O,c⟩|⟨O,c⟩
  ·obtain rfl:=si c;exact tr fol [1,3,9,15] (kAP l (kAk d [(32,.bool true)])) (ac (cv (qbo N d e)) (ac (gw J) (ac (gw M) (ac (gw O) az))))
  obtain rfl:=si c;exact tr fol [1,3,9,15] (kAP l (kAk d [(32,.bool (decide ((p.Factor.length:Int)>60)))])) (ac (cv (qbo N d e)) (ac (gw J) (ac (gw M) (ac (gw O) az))))
 refine ihB h (fun c8 h=>?_) (fun c8 h=>?_)
 ·obtain⟨r9,K,h⟩:=bnd h;refine sq (gr fol [0] (kBR r9) (ac (cv (qnV K)) az) ?_);refine Goes.ret ?_;obtain rfl:=si h;exact(gw2 [.bool r9] (Ua tB))
 refine Goes.skip ?_;obtain⟨a,B,h⟩:=bnd h;refine sq (gq fol [7] (kAk d [(6,.ptr 1 0),(7,.i a.2)]) (.cells [.str p.Name,.str p.Twist,.str p.Factor]::(kA a.1.Name a.1.Density a.1.Twist a.1.Strength a.1.Dye [])) (ac (cv (qkj N p.Name l p.Twist p.Factor B)) az) ?_);obtain⟨s,C,h⟩:=bnd h;refine sq (gr fol [7] (kAk d ((6,.ptr 1 0)::(kAp a.2 s []))) (ac (cv (qfX N p.Name d p.Twist p.Factor C)) az) ?_);refine sg fol (kAk d ((6,.ptr 1 0)::(kAp a.2 s [(9,.ptr 2 0)]))) (.cells [.str p.Name,.str p.Twist,.str p.Factor]::(kA a.1.Name a.1.Density a.1.Twist a.1.Strength a.1.Dye (kF []))) ?_;refine sq ?_;refine sh fol (kAk d ((6,.ptr 1 0)::(kAp a.2 s [(9,.ptr 2 0),(54,.bool (decide (s=0)))]))) ?_;obtain⟨P,g18,h⟩:=bnd h;refine Goes.imp (Q:=fun x s'=>(x= .normal/\ ∃t u v w y q,(t,u,v,w,y,q)=P/\Sub s' (ofG 84 ((6,.ptr 0 0)::(kAp a.2 q [(9,.ptr 1 0)])),(kA a.1.Name a.1.Density a.1.Twist a.1.Strength a.1.Dye (kA t u v w y []))))) ?_ ?_
 ·refine ihD g18 (fun U g18=>?_) (fun U g18=>?_)
  ·obtain⟨f,D,g18⟩:=bnd g18;refine gq fol [7] ((6,.ptr 1 0)::(kAp a.2 f.2 [(9,.ptr 2 0)])) (.cells [.str p.Name,.str p.Twist,.str p.Factor]::(kA a.1.Name a.1.Density a.1.Twist a.1.Strength a.1.Dye (kA f.1.Name f.1.Density f.1.Twist f.1.Strength f.1.Dye []))) (ac (cv (qjC N p.Name d p.Twist p.Factor D)) az) ?_;obtain rfl:=si g18;exact⟨rfl,_,_,_,_,_,_,rfl,(Uc [] [some 1,some 2] rfl rfl (.kp (.keep (.same nI) (.keep (.same nI) (.kp .nil)))) (.kb rfl (.same sn) (.kb rfl (.same sn) .nil)))⟩
  refine Goes.skip ?_;obtain rfl:=si g18;exact⟨rfl,_,_,_,_,_,_,rfl,(Uc [] [some 1,some 2] rfl rfl (.drop (.drop (.kp (.keep (.same nI) (.keep (.same nI) (.kp .nil)))))) (.kb rfl (.same sn) (.kb rfl (.cells (rc (.same nS) (rc (.same nS) (rc (.same nS) (rc (.nilv) (rc (.same nS) rn)))))) .nil)))⟩
 rintro x s' ⟨rfl,t,u,v,w,y,q,rfl,hsub⟩
 try dsimp only at h
 refine Goes.sub hsub ?_;refine sq ?_;refine sh fol ((6,.ptr 0 0)::(kAp a.2 q [(9,.ptr 1 0),(67,.bool (decide (q=0)))])) ?_;obtain⟨V,g27,h⟩:=bnd h;refine Goes.imp (Q:=fun x s'=>(x= .normal/\ ∃g j k n o E,(g,j,k,n,o,E)=V/\Sub s' (ofG 84 ((6,.ptr 0 0)::(kAp a.2 E [(9,.ptr 1 0)])),(kA a.1.Name a.1.Density a.1.Twist a.1.Strength a.1.Dye (kA g j k n o []))))) ?_ ?_
 ·refine ihD g27 (fun X g27=>?_) (fun X g27=>?_)
  ·obtain⟨z,F,g27⟩:=bnd g27;refine sq (gr fol [1] ((6,.ptr 0 0)::(kAp a.2 z [(9,.ptr 1 0)])) (ac (cv (qiY N (⟨t,u,v,w,y⟩:ql) F)) az) ?_);refine sh fol ((6,.ptr 0 0)::(kAp a.2 z [(9,.ptr 1 0),(71,.bool (!decide (z=0)))])) ?_;refine ihB g27 (fun Y g27=>?_) (fun Y g27=>?_)
   ·refine Goes.rg fol ((6,.ptr 0 0)::(kAp a.2 z [(9,.ptr 1 0)])) (kA a.1.Name a.1.Density a.1.Twist a.1.Strength a.1.Dye (kF [])) ?_;obtain rfl:=si g27;exact⟨rfl,_,_,_,_,_,_,rfl,(Uc [] [some 0,some 1] rfl rfl (.kp (.keep (.same nI) (.keep (.same nI) (.kp .nil)))) (.kb rfl (.same sn) (.kb rfl (.cells (rc (.same nS) (rc (.same nS) (rc (.same nS) (rc (.nilv) (rc (.same nS) rn)))))) .nil)))⟩
   refine Goes.skip ?_;obtain rfl:=si g27;exact⟨rfl,_,_,_,_,_,_,rfl,(Sub.keep [6,7,8,9] rfl rfl)⟩
  refine Goes.skip ?_;obtain rfl:=si g27;exact⟨rfl,_,_,_,_,_,_,rfl,(Sub.keep [6,7,8,9] rfl rfl)⟩
 rintro x s' ⟨rfl,g,j,k,n,o,E,rfl,hsub⟩
 try dsimp only at h
 refine Goes.sub hsub ?_;refine sq ?_;obtain⟨L,b,h⟩:=bnd h;refine Ue (s':=(ofG 84 (kBR L),(kA a.1.Name a.1.Density a.1.Twist a.1.Strength a.1.Dye (kA g j k n o [])))) ?_ ?_
 ·rcases wyD b with⟨A,b⟩|⟨A,b⟩
  ·obtain⟨r32,r,b⟩:=bnd b;rcases wyB b with⟨G,b⟩|⟨G,b⟩
   ·obtain⟨Z,H,b⟩:=bnd b;obtain rfl:=si b;exact tr fol [3,6,8,9] (kBR Z) (ac (gw A) (ac (cv (qcT N a.1 (⟨g,j,k,n,o⟩:ql) r)) (ac (gw G) (ac (cv (qnV H)) az))))
   obtain rfl:=si b;exact tr fol [3,6,8] kBA (ac (gw A) (ac (cv (qcT N a.1 (⟨g,j,k,n,o⟩:ql) r)) (ac (gw G) az)))
  obtain rfl:=si b;exact tr fol [3] kBA (ac (gw A) az)
 refine Goes.ret ?_;obtain rfl:=si h;exact(gw2 [.bool L] (Ua tB))
end Go.Av
