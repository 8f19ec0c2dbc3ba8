/-
  The walk of the law.
-/
import Derived.Test.YtmffnhniejfgpaaGreatDoorQGenB4
import Derived.Test.YtmffnhniejfgpaaGreatDoorAvAwkB5
noncomputable section
namespace Go.Av
open Go.Proofs Go.RowKit
set_option linter.unusedSectionVars false
set_option linter.unusedVariables false
set_option linter.unusedSimpArgs false
set_option maxRecDepth 100000
def awk:Option Bool:=some true
theorem qdI {res:Bool} (h:awk=some res):qb ZT (.fn 8) [] [] (.bool res) []:=by
 obtain rfl:=si h
 exact qil
def vH (N:Nat) (n:Int) (a:List Int) (b:List Int):Option Bool:=
 ((awk).bind fun r=>
 if(!r)=true then
 some true
 else
 if(a.length:Int)>220 then
 some true
 else
 some (decide ((b.length:Int)>220)):Option Bool).bind fun s=>
 if s=true then
 (awk).bind fun t=>
 some t
 else
 (jf N n a).bind fun f=>
 (jf N n b).bind fun u=>
 (vV N ([f,u]:List Int)).bind fun d=>
 (if f=0 then
 if n>6 then
 some true
 else
 if(a.length:Int)>14 then
 some true
 else
 if d=0 then
 some (decide ((b.length:Int)>14))
 else
 some false
 else
 if d=0 then
 some (decide ((b.length:Int)>14))
 else
 some false:Option Bool).bind fun g=>
 if g=true then
 some true
 else
 (yN N n a).bind fun c=>
 (xy N n a b).bind fun e=>
 (if(!decide (f=0))=true then
 (jO N c.1 c.2 f (⟨0,[]⟩:zx)).bind fun h=>
 if(!h)=true then
 some true
 else
 if f=0 then
 (ji N n a).bind fun i=>
 (jO N c.1 c.2 0 i).bind fun j=>
 some (!j)
 else
 some false
 else
 if f=0 then
 (ji N n a).bind fun k=>
 (jO N c.1 c.2 0 k).bind fun l=>
 some (!l)
 else
 some false:Option Bool).bind fun m=>
 if m=true then
 some false
 else
 if(!decide (d=0))=true then
 (vD e.1 e.2 d false).bind fun o=>
 some o
 else
 (xm N n a b).bind fun p=>
 (vD e.1 e.2 0 p).bind fun q=>
 some q
theorem qaX (N:Nat) (n:Int) (a:List Int) (b:List Int) {res:Bool} (h:vH N n a b=some res):qb ZT (.fn 4) (.i n::(kAi a b)) [] (.bool res) []:=by
 unfold vH at h
 refine Ub Tryz.func4 rfl rfl (m:=104) rfl (rs:=[.tmp 6]) rfl (l:=(kB n a (kAZ b []))) rfl ?_
 refine sh fol (kB n a (kAZ b [])) ?_
 refine sq ?_
 refine sq ?_
 obtain⟨b4,g,h⟩:=bnd h
 refine Goes.cut (s':=(ofG 104 (kB n a (kAZ b [(24,.bool b4)])),[])) ?_ ?_
 ·obtain⟨r1,r,g⟩:=bnd g
  rcases wyB g with⟨T,g⟩|⟨T,g⟩
  ·obtain rfl:=si g
   exact tr fol [0,2] (kB n a (kAZ b [(24,.bool true)])) (ac (cv (qdI r)) (ac (gw T) az))
  rcases wyD g with⟨U,g⟩|⟨U,g⟩
  ·obtain rfl:=si g
   exact tr fol [0,2,7] (kB n a (kAZ b [(24,.bool true)])) (ac (cv (qdI r)) (ac (gw T) (ac (gw U) az)))
  obtain rfl:=si g
  exact tr fol [0,2,7] (kB n a (kAZ b [(24,.bool (decide ((b.length:Int)>220)))])) (ac (cv (qdI r)) (ac (gw T) (ac (gw U) az)))
 refine ihB h (fun c6 h=>?_) (fun c6 h=>?_)
 ·obtain⟨r7,L,h⟩:=bnd h
  refine sq (gr fol [0] (kBG r7) (ac (cv (qdI L)) az) ?_)
  refine Goes.ret ?_
  obtain rfl:=si h
  exact(gw2 [.bool r7] (Ua tB))
 refine Goes.skip ?_
 obtain⟨k,M,h⟩:=bnd h
 refine sq (gr fol [2] (kB n a (kAZ b (kBK k))) (ac (cv (y8 N n a M)) az) ?_)
 obtain⟨v,O,h⟩:=bnd h
 obtain⟨e,w,h⟩:=bnd h
 refine sq (gq fol [3,5] (kB n a (kAZ b ((7,.i k)::(kA2 e)))) (kV k v) (ac (cv (y8 N n b O)) (ac (hs (.call 10 [.slice 0 0 2 2 1] (kV k v) [0] [vl encI ([k,v]:List Int)] (.i e)) (qcJ (FzL.cons (Fz.lit rfl rfl (FzL.still (AllST.cons tI (AllST.cons tI AllST.nil)))) FzL.nil) (qcA N ([k,v]:List Int) w) tI rfl)) az)) ?_)
 refine sq ?_
 refine sq ?_
 obtain⟨V,d,h⟩:=bnd h
 refine Goes.cut (s':=(ofG 104 (kB n a (kAZ b [(7,.i k),(8,.i e),(54,.bool V)])),(kV k v))) ?_ ?_
 ·rcases wyD d with⟨o,d⟩|⟨o,d⟩
  ·rcases wyD d with⟨s,d⟩|⟨s,d⟩
   ·obtain rfl:=si d
    exact tr fol [2,5] (kB n a (kAZ b [(7,.i k),(8,.i e),(54,.bool true)])) (ac (gw o) (ac (gw s) az))
   rcases wyD d with⟨t,d⟩|⟨t,d⟩
   ·obtain rfl:=si d
    exact tr fol [2,5,11] (kB n a (kAZ b [(7,.i k),(8,.i e),(54,.bool true)])) (ac (gw o) (ac (gw s) (ac (gw t) az)))
   rcases wyD d with⟨x,d⟩|⟨x,d⟩
   ·obtain rfl:=si d
    exact tr fol [2,5,11,14] (kB n a (kAZ b [(7,.i k),(8,.i e),(54,.bool (decide ((b.length:Int)>14)))])) (ac (gw o) (ac (gw s) (ac (gw t) (ac (gw x) az))))
   obtain rfl:=si d
   exact tr fol [2,5,11,14] (kB n a (kAZ b [(7,.i k),(8,.i e),(54,.bool false)])) (ac (gw o) (ac (gw s) (ac (gw t) (ac (gw x) az))))
  rcases wyD d with⟨y,d⟩|⟨y,d⟩
  ·obtain rfl:=si d
   exact tr fol [2,14] (kB n a (kAZ b [(7,.i k),(8,.i e),(54,.bool (decide ((b.length:Int)>14)))])) (ac (gw o) (ac (gw y) az))
  obtain rfl:=si d
  exact tr fol [2,14] (kB n a (kAZ b [(7,.i k),(8,.i e),(54,.bool false)])) (ac (gw o) (ac (gw y) az))
 refine ihB h (fun W h=>?_) (fun W h=>?_)
 ·refine sh fol [(6,.bool true)] ?_
  refine Goes.ret ?_
  obtain rfl:=si h
  exact(gw2 [.bool true] (Ua tB))
 refine Goes.skip ?_
 obtain⟨j,z,h⟩:=bnd h
 refine sq (gq fol [2] (kB n a (kAZ b ((7,.i k)::(8,.i e)::(9,.ptr 1 0)::(kBF j.2)))) [.cells [.i k,.i v],.cells [.i j.1.Half,vl (qa encI) j.1.Factors]] (ac (cv (qb0 N n a z)) az) ?_)
 obtain⟨f,A,h⟩:=bnd h
 refine sq (gr fol [3] (kB n a (kAZ b [(7,.i k),(8,.i e),(9,.ptr 1 0),(10,.i j.2),(11,.bool f.1),(12,.i f.2)])) (ac (cv (qcs N n a b A)) az) ?_)
 refine sq ?_
 refine sq ?_
 obtain⟨X,c,h⟩:=bnd h
 refine Goes.cut (s':=(ofG 104 (kB n a (kAZ b (kBI e f.1 f.2 [(90,.bool X)]))),[.cells [.i k,.i v],.cells [.i j.1.Half,vl (qa encI) j.1.Factors]])) ?_ ?_
 ·rcases wyB c with⟨q,c⟩|⟨q,c⟩
  ·obtain⟨r22,p,c⟩:=bnd c
   rcases wyB c with⟨u,c⟩|⟨u,c⟩
   ·obtain rfl:=si c
    exact tr fol [2,7,10] (kB n a (kAZ b (kBI e f.1 f.2 [(90,.bool true)]))) (ac (gw q) (ac (cv ((qb.wk (vM N j.1 j.2 k (⟨0,[]⟩:zx) p) (WkL.cons (Wk.refl _) (WkL.cons (Wk.refl _) (WkL.cons (Wk.refl _) (WkL.cons (Wk.agg (WkL.cons (Wk.refl _) (WkL.cons (Wk.nilv (E:=(qa encI))) WkL.nil))) WkL.nil))))))) (ac (gw u) az)))
   rcases wyD c with⟨B,c⟩|⟨B,c⟩
   ·obtain⟨Y,C,c⟩:=bnd c
    obtain⟨Z,D,c⟩:=bnd c
    obtain rfl:=si c
    exact tr fol [2,7,10,13,18,19] (kB n a (kAZ b (kBI e f.1 f.2 [(90,.bool (!Z))]))) (ac (gw q) (ac (cv ((qb.wk (vM N j.1 j.2 k (⟨0,[]⟩:zx) p) (WkL.cons (Wk.refl _) (WkL.cons (Wk.refl _) (WkL.cons (Wk.refl _) (WkL.cons (Wk.agg (WkL.cons (Wk.refl _) (WkL.cons (Wk.nilv (E:=(qa encI))) WkL.nil))) WkL.nil))))))) (ac (gw u) (ac (gw B) (ac (cv (vO N n a C)) (ac (cv (vM N j.1 j.2 0 Y D)) az))))))
   obtain rfl:=si c
   exact tr fol [2,7,10,13] (kB n a (kAZ b (kBI e f.1 f.2 [(90,.bool false)]))) (ac (gw q) (ac (cv ((qb.wk (vM N j.1 j.2 k (⟨0,[]⟩:zx) p) (WkL.cons (Wk.refl _) (WkL.cons (Wk.refl _) (WkL.cons (Wk.refl _) (WkL.cons (Wk.agg (WkL.cons (Wk.refl _) (WkL.cons (Wk.nilv (E:=(qa encI))) WkL.nil))) WkL.nil))))))) (ac (gw u) (ac (gw B) az))))
  rcases wyD c with⟨F,c⟩|⟨F,c⟩
  ·obtain⟨a0,G,c⟩:=bnd c
   obtain⟨a1,H,c⟩:=bnd c
   obtain rfl:=si c
   exact tr fol [2,13,18,19] (kB n a (kAZ b (kBI e f.1 f.2 [(90,.bool (!a1))]))) (ac (gw q) (ac (gw F) (ac (cv (vO N n a G)) (ac (cv (vM N j.1 j.2 0 a0 H)) az))))
  obtain rfl:=si c
  exact tr fol [2,13] (kB n a (kAZ b (kBI e f.1 f.2 [(90,.bool false)]))) (ac (gw q) (ac (gw F) az))
 refine ihB h (fun a2 h=>?_) (fun a2 h=>?_)
 ·refine sh fol [(6,.bool false)] ?_
  refine Goes.ret ?_
  obtain rfl:=si h
  exact(gw2 [.bool false] (Ua tB))
 refine Goes.skip ?_
 refine sq ?_
 refine sh fol (kB n a (kAZ b (kBI e f.1 f.2 [(92,.bool (!decide (e=0)))]))) ?_
 refine ihB h (fun a3 h=>?_) (fun a3 h=>?_)
 ·obtain⟨P,I,h⟩:=bnd h
  refine sq (gr fol [3] (kBG P) (ac (cv (qaw f.1 f.2 e false I)) az) ?_)
  refine Goes.ret ?_
  obtain rfl:=si h
  exact(gw2 [.bool P] (Ua tB))
 refine Goes.skip ?_
 obtain⟨a4,J,h⟩:=bnd h
 obtain⟨Q,K,h⟩:=bnd h
 refine sq (gr fol [5,6] (kBG Q) (ac (cv (qco N n a b J)) (ac (cv (qaw f.1 f.2 0 a4 K)) az)) ?_)
 refine Goes.ret ?_
 obtain rfl:=si h
 exact(gw2 [.bool Q] (Ua tB))
end Go.Av
