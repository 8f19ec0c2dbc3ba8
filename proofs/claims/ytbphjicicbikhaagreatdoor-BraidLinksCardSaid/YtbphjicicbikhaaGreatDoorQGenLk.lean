/-
  The walk of the law.
-/
import Derived.Test.YtbphjicicbikhaaGreatDoorQGenLk2
import Derived.Test.YtbphjicicbikhaaGreatDoorAvAwkB7
noncomputable section
namespace Go.Av
open Go.Proofs Go.RowKit
set_option linter.unusedSectionVars false
set_option linter.unusedVariables false
set_option linter.unusedSimpArgs false
set_option maxRecDepth 100000
def awk:Option Bool:=some true
theorem qfY {res:Bool} (h:awk=some res):qg ZT (.fn 10) [] [] (.bool res) []:=by
 obtain rfl:=si h
 exact qjw
def vN (N:Nat) (n:Int) (w:List Int):Option Bool:=
 ((awk).bind fun s=>
 if(!s)=true then
 some true
 else
 some (decide ((w.length:Int)>220)):Option Bool).bind fun t=>
 if t=true then
 (awk).bind fun u=>
 some u
 else
 (vo N n w).bind fun b=>
 (yX N n w).bind fun c=>
 (jo N n w).bind fun d=>
 (j4 N n w).bind fun a=>
 if(!decide (b=0))=true then
 ((zF N c.1 c.2 b []).bind fun e=>
 if e=true then
 (zF N d.1 d.2 b []).bind fun f=>
 if f=true then
 (zF N a.1 a.2 b []).bind fun g=>
 some g
 else
 some false
 else
 some false:Option Bool).bind fun h=>
 some h
 else
 ((xZ N n w).bind fun i=>
 (zF N c.1 c.2 0 i).bind fun j=>
 if(!j)=true then
 some true
 else
 (xX N n w).bind fun k=>
 (yD N k).bind fun l=>
 (zF N d.1 d.2 0 l).bind fun m=>
 some (!m):Option Bool).bind fun o=>
 if o=true then
 some false
 else
 if(w.length:Int)>12 then
 (zF N a.1 a.2 22 []).bind fun p=>
 some p
 else
 (xO N n w).bind fun q=>
 (zF N a.1 a.2 0 q).bind fun r=>
 some r
theorem qby (N:Nat) (n:Int) (w:List Int) {res:Bool} (h:vN N n w=some res):qg ZT (.fn 3) (kAR n w) [] (.bool res) []:=by
 unfold vN at h
 refine Uc Tryz.func3 rfl rfl (m:=88) rfl (rs:=[.tmp 4]) rfl (l:=(kG n w [])) rfl ?_
 refine sh fol (kG n w []) ?_
 refine sq ?_
 refine sq ?_
 obtain⟨b3,d,h⟩:=bnd h
 refine Goes.cut (s':=(ofG 88 (kG n w [(18,.bool b3)]),[])) ?_ ?_
 ·obtain⟨r1,r,d⟩:=bnd d
  rcases wyB d with⟨M,d⟩|⟨M,d⟩
  ·obtain rfl:=si d
   exact tr fol [0,2] (kG n w [(18,.bool true)]) (ac (cv (qfY r)) (ac (gw M) az))
  obtain rfl:=si d
  exact tr fol [0,2] (kG n w [(18,.bool (decide ((w.length:Int)>220)))]) (ac (cv (qfY r)) (ac (gw M) az))
 refine ihB h (fun c5 h=>?_) (fun c5 h=>?_)
 ·obtain⟨Z,D,h⟩:=bnd h
  refine sq (gr fol [0] [(4,.bool Z)] (ac (cv (qfY D)) az) ?_)
  refine Goes.ret ?_
  obtain rfl:=si h
  exact(gw2 [.bool Z] (Ua tB))
 refine Goes.skip ?_
 obtain⟨g,F,h⟩:=bnd h
 refine sq (gr fol [2] (kG n w [(5,.i g)]) (ac (cv (qbO N n w F)) az) ?_)
 obtain⟨e,G,h⟩:=bnd h
 refine sq (gr fol [2] (kG n w ((5,.i g)::(6,vl (qb encI) e.1)::(kAN e.2))) (ac (cv (qdX N n w G)) az) ?_)
 obtain⟨j,H,h⟩:=bnd h
 refine sq (gr fol [2] (kG n w [(5,.i g),(6,vl (qb encI) e.1),(7,.i e.2),(8,vl (qb encI) j.1),(9,.i j.2)]) (ac (cv (qbB N n w H)) az) ?_)
 obtain⟨c,s,h⟩:=bnd h
 refine sq (gr fol [2] (kG n w [(5,.i g),(6,vl (qb encI) e.1),(7,.i e.2),(8,vl (qb encI) j.1),(9,.i j.2),(10,vl (qb encI) c.1),(11,.i c.2)]) (ac (cv (qd6 N n w s)) az) ?_)
 refine sq ?_
 refine sh fol (kG n w [(5,.i g),(6,vl (qb encI) e.1),(7,.i e.2),(8,vl (qb encI) j.1),(9,.i j.2),(10,vl (qb encI) c.1),(11,.i c.2),(42,.bool (!decide (g=0)))]) ?_
 refine ihB h (fun O h=>?_) (fun O h=>?_)
 ·refine sq ?_
  obtain⟨I,a,h⟩:=bnd h
  refine Goes.cut (s':=(ofG 88 [(4,.bool I)],[])) ?_ ?_
  ·obtain⟨r12,f,a⟩:=bnd a
   rcases wyB a with⟨q,a⟩|⟨q,a⟩
   ·obtain⟨r14,k,a⟩:=bnd a
    rcases wyB a with⟨t,a⟩|⟨t,a⟩
    ·obtain⟨P,u,a⟩:=bnd a
     obtain rfl:=si a
     exact tr fol [3,4,8,10,14] [(4,.bool P)] (ac (cv ((qg.wk (zf N e.1 e.2 g [] f) (WkL.cons (Wk.refl _) (WkL.cons (Wk.refl _) (WkL.cons (Wk.refl _) (WkL.cons (Wk.nilv (E:=(qb encI))) WkL.nil))))))) (ac (gw q) (ac (cv ((qg.wk (zf N j.1 j.2 g [] k) (WkL.cons (Wk.refl _) (WkL.cons (Wk.refl _) (WkL.cons (Wk.refl _) (WkL.cons (Wk.nilv (E:=(qb encI))) WkL.nil))))))) (ac (gw t) (ac (cv ((qg.wk (zf N c.1 c.2 g [] u) (WkL.cons (Wk.refl _) (WkL.cons (Wk.refl _) (WkL.cons (Wk.refl _) (WkL.cons (Wk.nilv (E:=(qb encI))) WkL.nil))))))) az)))))
    obtain rfl:=si a
    exact tr fol [3,4,8,10] kAQ (ac (cv ((qg.wk (zf N e.1 e.2 g [] f) (WkL.cons (Wk.refl _) (WkL.cons (Wk.refl _) (WkL.cons (Wk.refl _) (WkL.cons (Wk.nilv (E:=(qb encI))) WkL.nil))))))) (ac (gw q) (ac (cv ((qg.wk (zf N j.1 j.2 g [] k) (WkL.cons (Wk.refl _) (WkL.cons (Wk.refl _) (WkL.cons (Wk.refl _) (WkL.cons (Wk.nilv (E:=(qb encI))) WkL.nil))))))) (ac (gw t) az))))
   obtain rfl:=si a
   exact tr fol [3,4] kAQ (ac (cv ((qg.wk (zf N e.1 e.2 g [] f) (WkL.cons (Wk.refl _) (WkL.cons (Wk.refl _) (WkL.cons (Wk.refl _) (WkL.cons (Wk.nilv (E:=(qb encI))) WkL.nil))))))) (ac (gw q) az))
  refine Goes.ret ?_
  obtain rfl:=si h
  exact(gw2 [.bool I] (Ua tB))
 refine Goes.skip ?_
 refine sq ?_
 refine sq ?_
 obtain⟨Q,b,h⟩:=bnd h
 refine Goes.cut (s':=(ofG 88 (kG n w [(10,vl (qb encI) c.1),(11,.i c.2),(75,.bool Q)]),[])) ?_ ?_
 ·obtain⟨J,o,b⟩:=bnd b
  obtain⟨r20,p,b⟩:=bnd b
  rcases wyB b with⟨v,b⟩|⟨v,b⟩
  ·obtain rfl:=si b
   exact tr fol [4,5,7] (kG n w [(10,vl (qb encI) c.1),(11,.i c.2),(75,.bool true)]) (ac (cv (qbF N n w o)) (ac (cv (zf N e.1 e.2 0 J p)) (ac (gw v) az)))
  obtain⟨T,x,b⟩:=bnd b
  obtain⟨U,y,b⟩:=bnd b
  obtain⟨V,z,b⟩:=bnd b
  obtain rfl:=si b
  exact tr fol [4,5,7,12,13,14] (kG n w [(10,vl (qb encI) c.1),(11,.i c.2),(75,.bool (!V))]) (ac (cv (qbF N n w o)) (ac (cv (zf N e.1 e.2 0 J p)) (ac (gw v) (ac (cv (qd5 N n w x)) (ac (cv (qcO N T y)) (ac (cv (zf N j.1 j.2 0 U z)) az))))))
 refine ihB h (fun W h=>?_) (fun W h=>?_)
 ·refine sh fol kAQ ?_
  refine Goes.ret ?_
  obtain rfl:=si h
  exact(gw2 [.bool false] (Ua tB))
 refine Goes.skip ?_
 refine sq ?_
 refine sh fol (kG n w [(10,vl (qb encI) c.1),(11,.i c.2),(78,.bool (decide ((w.length:Int)>12)))]) ?_
 refine ihD h (fun X h=>?_) (fun X h=>?_)
 ·obtain⟨K,A,h⟩:=bnd h
  refine sq (gr fol [2] [(4,.bool K)] (ac (cv ((qg.wk (zf N c.1 c.2 22 [] A) (WkL.cons (Wk.refl _) (WkL.cons (Wk.refl _) (WkL.cons (Wk.refl _) (WkL.cons (Wk.nilv (E:=(qb encI))) WkL.nil))))))) az) ?_)
  refine Goes.ret ?_
  obtain rfl:=si h
  exact(gw2 [.bool K] (Ua tB))
 refine Goes.skip ?_
 obtain⟨Y,B,h⟩:=bnd h
 obtain⟨L,C,h⟩:=bnd h
 refine sq (gr fol [4,5] [(4,.bool L)] (ac (cv (qdW N n w B)) (ac (cv (zf N c.1 c.2 0 Y C)) az)) ?_)
 refine Goes.ret ?_
 obtain rfl:=si h
 exact(gw2 [.bool L] (Ua tB))
end Go.Av
