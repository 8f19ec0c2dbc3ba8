/-
  The walk of the law.
-/
import Derived.Test.YtlhmomppjidoiaaGreatDoorQGenY4
import Derived.Test.YtlhmomppjidoiaaGreatDoorAvAwkY
noncomputable section
namespace Go.Av
open Go.Proofs Go.RowKit
set_option linter.unusedSectionVars false
set_option linter.unusedVariables false
set_option linter.unusedSimpArgs false
set_option maxRecDepth 100000
def awk:Option Bool:=some true
theorem qnU {res:Bool} (h:awk=some res):qb ZT (.fn 8) [] [] (.bool res) []:=by
 obtain rfl:=si h
 exact qqJ
def qan (N:Nat) (y:qV) (turns:Str):Option Bool:=
 ((xx N y).bind fun t=>
 if(!t)=true then
 some true
 else
 some (decide ((turns.length:Int)>60)):Option Bool).bind fun u=>
 if u=true then
 (awk).bind fun v=>
 some v
 else
 (xn N y).bind fun g=>
 (jP N y).bind fun w=>
 if(!decide (w=g))=true then
 some false
 else
 (yC N y).bind fun c=>
 (qa3 N y turns).bind fun d=>
 (yV N turns).bind fun h=>
 (qbp N ([g,h]:List Int)).bind fun e=>
 ((if g=0 then
 (yQ N y).bind fun f=>
 some (f.2,f.1)
 else
 some (g,[]):Option (Int×Str))).bind fun(i,j)=>
 ((if e=0 then
 (qas N y turns).bind fun a=>
 (qaI N a).bind fun b=>
 if(!decide (b=0))=true then
 some ([],[],[],[],[],b)
 else
 some (a.Name,a.Density,a.Twist,a.Strength,a.Dye,b)
 else
 some ([],[],[],[],[],e):Option (Str×Str×Str×(List qY)×Str×Int))).bind fun(k,l,m,n,o,p)=>
 (if c.2=i then
 if(c.1==j)=true then
 if d.2=p then
 (xS N d.1 (⟨k,l,m,n,o⟩:qV)).bind fun q=>
 if q=true then
 (awk).bind fun r=>
 some r
 else
 some false
 else
 some false
 else
 some false
 else
 some false:Option Bool).bind fun s=>
 some s
theorem qew (N:Nat) (y:qV) (turns:Str) {res:Bool} (h:qan N y turns=some res):qb ZT (.fn 3) (kAK y.Name y.Density y.Twist y.Strength y.Dye [.str turns]) [] (.bool res) []:=by
 unfold qan at h
 refine Ub Tryz.func3 rfl rfl (m:=86) rfl (rs:=[.tmp 4]) rfl (l:=(kW y.Name y.Density y.Twist y.Strength y.Dye [(1,.str turns)])) rfl ?_
 refine sg fol ((1,.str turns)::(kM [])) (kB y.Name y.Density y.Twist y.Strength y.Dye []) ?_
 refine sg fol ((1,.str turns)::(kM (kBL []))) (kB y.Name y.Density y.Twist y.Strength y.Dye (kB y.Name y.Density y.Twist y.Strength y.Dye [])) ?_
 refine sq ?_
 refine sq ?_
 obtain⟨b3,d,h⟩:=bnd h
 refine Goes.cut (s':=(ofG 86 ((1,.str turns)::(kM (kBL [(23,.bool b3)]))),(kB y.Name y.Density y.Twist y.Strength y.Dye (kB y.Name y.Density y.Twist y.Strength y.Dye [])))) ?_ ?_
 ·obtain⟨r1,A,d⟩:=bnd d
  rcases wyB d with⟨V,d⟩|⟨V,d⟩
  ·obtain rfl:=si d
   exact tr fol [1,3] ((1,.str turns)::(kM (kBL [(23,.bool true)]))) (ac (cv (qb7 N y A)) (ac (gw V) az))
  obtain rfl:=si d
  exact tr fol [1,3] ((1,.str turns)::(kM (kBL [(23,.bool (decide ((turns.length:Int)>60)))]))) (ac (cv (qb7 N y A)) (ac (gw V) az))
 refine ihB h (fun c5 h=>?_) (fun c5 h=>?_)
 ·obtain⟨r6,L,h⟩:=bnd h
  refine sq (gr fol [0] (kBM r6) (ac (cv (qnU L)) az) ?_)
  refine Goes.ret ?_
  obtain rfl:=si h
  exact(gw2 [.bool r6] (Ua tB))
 refine Goes.skip ?_
 obtain⟨j,M,h⟩:=bnd h
 refine sq (gr fol [1] ((1,.str turns)::(kM (kBL [(6,.i j)]))) (ac (cv (qeY N y M)) az) ?_)
 refine sq ?_
 obtain⟨r8,O,h⟩:=bnd h
 refine sq (gr fol [1] ((1,.str turns)::(kM (kBL [(6,.i j),(30,.bool (!decide (r8=j)))]))) (ac (cv (qaN N y O)) az) ?_)
 refine ihB h (fun c9 h=>?_) (fun c9 h=>?_)
 ·refine sh fol kAp ?_
  refine Goes.ret ?_
  obtain rfl:=si h
  exact(gw2 [.bool false] (Ua tB))
 refine Goes.skip ?_
 obtain⟨c,B,h⟩:=bnd h
 refine sq (gr fol [1] ((1,.str turns)::(kM (kBL [(6,.i j),(7,.str c.1),(8,.i c.2)]))) (ac (cv (qfZ N y B)) az) ?_)
 obtain⟨a,C,h⟩:=bnd h
 refine sq (gq fol [2] ((1,.str turns)::(kBL [(6,.i j),(7,.str c.1),(8,.i c.2),(9,.ptr 2 0),(10,.i a.2)])) (kB y.Name y.Density y.Twist y.Strength y.Dye (kB y.Name y.Density y.Twist y.Strength y.Dye (kB a.1.Name a.1.Density a.1.Twist a.1.Strength a.1.Dye []))) (ac (cv (qgk N y turns C)) az) ?_)
 obtain⟨t,D,h⟩:=bnd h
 obtain⟨e,E,h⟩:=bnd h
 refine sq (gq fol [3,5] (kAc turns c.1 c.2 a.2 j e []) (kB y.Name y.Density y.Twist y.Strength y.Dye (kB y.Name y.Density y.Twist y.Strength y.Dye (kB a.1.Name a.1.Density a.1.Twist a.1.Strength a.1.Dye (kAE j t)))) (ac (cv (qaO N turns D)) (ac (hs (.call 13 [.slice 3 0 2 2 1] (kB y.Name y.Density y.Twist y.Strength y.Dye (kB y.Name y.Density y.Twist y.Strength y.Dye (kB a.1.Name a.1.Density a.1.Twist a.1.Strength a.1.Dye (kAE j t)))) [3] [vl encI ([j,t]:List Int)] (.i e)) (qd2 (FzL.cons (Fz.lit rfl rfl (Ue (AllST.cons tI (AllST.cons tI AllST.nil)))) FzL.nil) (qhZ N ([j,t]:List Int) E) tI rfl)) az)) ?_)
 refine sh fol (kAc turns c.1 c.2 a.2 j e [(13,.str [])]) ?_
 refine sg fol (kAc turns c.1 c.2 a.2 j e [(13,.str []),(14,.ptr 4 0)]) (kB y.Name y.Density y.Twist y.Strength y.Dye (kB y.Name y.Density y.Twist y.Strength y.Dye (kB a.1.Name a.1.Density a.1.Twist a.1.Strength a.1.Dye (.cells [.i j,.i t]::(kAC []))))) ?_
 refine sq ?_
 refine sh fol (kAc turns c.1 c.2 a.2 j e [(13,.str []),(14,.ptr 4 0),(49,.bool (decide (j=0)))]) ?_
 obtain⟨X,g16,h⟩:=bnd h
 refine Goes.imp (Q:=fun x s'=>(x= .normal/\ ∃f g,(f,g)=X/\Sub s' (ofG 86 ((1,.str turns)::(5,.ptr 0 0)::(kAa c.1 c.2 a.2 f e g [])),(kB y.Name y.Density y.Twist y.Strength y.Dye (kB a.1.Name a.1.Density a.1.Twist a.1.Strength a.1.Dye (kAC [])))))) ?_ ?_
 ·refine ihD g16 (fun Y g16=>?_) (fun Y g16=>?_)
  ·obtain⟨P,F,g16⟩:=bnd g16
   refine gr fol [1] (kAc turns c.1 c.2 a.2 P.2 e [(13,.str P.1),(14,.ptr 4 0)]) (ac (cv (qff N y F)) az) ?_
   obtain rfl:=si g16
   exact⟨rfl,_,_,rfl,(Sub.norm [] [some 1,some 2,some 4] rfl rfl (.keep (.same nS) (.kp (.keep (.same nS) (.keep (.same nI) (.kp (.keep (.same nI) (.keep (.same nI) (.keep (.same nI) (.keep (.same nS) (.kp .nil)))))))))) (.kb rfl (.same sn) (.kb rfl (.same sn) (.kb rfl (.same sn) .nil))))⟩
  refine Goes.skip ?_
  obtain rfl:=si g16
  exact⟨rfl,_,_,rfl,(Sub.norm [] [some 1,some 2,some 4] rfl rfl (.keep (.same nS) (.kp (.keep (.same nS) (.keep (.same nI) (.kp (.keep (.same nI) (.keep (.same nI) (.keep (.same nI) (.keep (.same nS) (.kp .nil)))))))))) (.kb rfl (.same sn) (.kb rfl (.same sn) (.kb rfl (.same sn) .nil))))⟩
 rintro x s' ⟨rfl,f,g,rfl,hsub⟩
 try dsimp only at h
 refine Goes.sub hsub ?_
 refine sq ?_
 refine sh fol ((1,.str turns)::(5,.ptr 0 0)::(kAa c.1 c.2 a.2 f e g [(56,.bool (decide (e=0)))])) ?_
 obtain⟨Z,g25,h⟩:=bnd h
 refine Goes.imp (Q:=fun x s'=>(x= .normal/\ ∃k n o p q G,(k,n,o,p,q,G)=Z/\Sub s' (ofG 86 [(7,.str c.1),(8,.i c.2),(9,.ptr 0 0),(10,.i a.2),(11,.i f),(12,.i G),(13,.str g),(14,.ptr 1 0)],(kB a.1.Name a.1.Density a.1.Twist a.1.Strength a.1.Dye (kB k n o p q []))))) ?_ ?_
 ·refine ihD g25 (fun a0 g25=>?_) (fun a0 g25=>?_)
  ·obtain⟨r,H,g25⟩:=bnd g25
   refine sq (gq fol [2] [(7,.str c.1),(8,.i c.2),(9,.ptr 1 0),(10,.i a.2),(11,.i f),(13,.str g),(14,.ptr 2 0)] (kB y.Name y.Density y.Twist y.Strength y.Dye (kB a.1.Name a.1.Density a.1.Twist a.1.Strength a.1.Dye (kB r.Name r.Density r.Twist r.Strength r.Dye []))) (ac (cv (qf4 N y turns H)) az) ?_)
   obtain⟨w,I,g25⟩:=bnd g25
   refine sq (gr fol [1] (kAa c.1 c.2 a.2 f w g []) (ac (cv (qhb N r I)) az) ?_)
   refine sh fol (kAa c.1 c.2 a.2 f w g [(63,.bool (!decide (w=0)))]) ?_
   refine ihB g25 (fun a1 g25=>?_) (fun a1 g25=>?_)
   ·refine Goes.rg fol (kAa c.1 c.2 a.2 f w g []) (kB y.Name y.Density y.Twist y.Strength y.Dye (kB a.1.Name a.1.Density a.1.Twist a.1.Strength a.1.Dye (kAC []))) ?_
    obtain rfl:=si g25
    exact⟨rfl,_,_,_,_,_,_,rfl,(Sub.norm [] [some 1,some 2] rfl rfl (.keep (.same nS) (.keep (.same nI) (.kp (.keep (.same nI) (.keep (.same nI) (.keep (.same nI) (.keep (.same nS) (.kp .nil)))))))) (.kb rfl (.same sn) (.kb rfl (.cells (rc (.same nS) (rc (.same nS) (rc (.same nS) (rc (.nilv) (rc (.same nS) rn)))))) .nil)))⟩
   refine Goes.skip ?_
   obtain rfl:=si g25
   exact⟨rfl,_,_,_,_,_,_,rfl,(Sub.norm [] [some 1,some 2] rfl rfl (.keep (.same nS) (.keep (.same nI) (.kp (.keep (.same nI) (.keep (.same nI) (.keep (.same nI) (.keep (.same nS) (.kp .nil)))))))) (.kb rfl (.same sn) (.kb rfl (.same sn) .nil)))⟩
  refine Goes.skip ?_
  obtain rfl:=si g25
  exact⟨rfl,_,_,_,_,_,_,rfl,(Sub.norm [] [some 1,some 2] rfl rfl (.drop (.drop (.keep (.same nS) (.keep (.same nI) (.kp (.keep (.same nI) (.keep (.same nI) (.keep (.same nI) (.keep (.same nS) (.kp .nil)))))))))) (.kb rfl (.same sn) (.kb rfl (.cells (rc (.same nS) (rc (.same nS) (rc (.same nS) (rc (.nilv) (rc (.same nS) rn)))))) .nil)))⟩
 rintro x s' ⟨rfl,k,n,o,p,q,G,rfl,hsub⟩
 try dsimp only at h
 refine Goes.sub hsub ?_
 refine sq ?_
 obtain⟨U,b,h⟩:=bnd h
 refine Goes.cut (s':=(ofG 86 (kBM U),(kB a.1.Name a.1.Density a.1.Twist a.1.Strength a.1.Dye (kB k n o p q [])))) ?_ ?_
 ·rcases wyD b with⟨s,b⟩|⟨s,b⟩
  ·rcases wyB b with⟨u,b⟩|⟨u,b⟩
   ·rcases wyD b with⟨z,b⟩|⟨z,b⟩
    ·obtain⟨r33,v,b⟩:=bnd b
     rcases wyB b with⟨J,b⟩|⟨J,b⟩
     ·obtain⟨a2,K,b⟩:=bnd b
      obtain rfl:=si b
      exact tr fol [3,8,13,16,18,19] (kBM a2) (ac (gw s) (ac (gw u) (ac (gw z) (ac (cv (qck N a.1 (⟨k,n,o,p,q⟩:qV) v)) (ac (gw J) (ac (cv (qnU K)) az))))))
     obtain rfl:=si b
     exact tr fol [3,8,13,16,18] kAp (ac (gw s) (ac (gw u) (ac (gw z) (ac (cv (qck N a.1 (⟨k,n,o,p,q⟩:qV) v)) (ac (gw J) az)))))
    obtain rfl:=si b
    exact tr fol [3,8,13] kAp (ac (gw s) (ac (gw u) (ac (gw z) az)))
   obtain rfl:=si b
   exact tr fol [3,8] kAp (ac (gw s) (ac (gw u) az))
  obtain rfl:=si b
  exact tr fol [3] kAp (ac (gw s) az)
 refine Goes.ret ?_
 obtain rfl:=si h
 exact(gw2 [.bool U] (Ua tB))
end Go.Av
