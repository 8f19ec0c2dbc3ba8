/-
  The walk of the law.
-/
import Derived.Test.YtojjlmnhhgebhaaGreatDoorQGenBu4
import Derived.Test.YtojjlmnhhgebhaaGreatDoorAvAwkB8
noncomputable section
namespace Go.Av
open Go.Proofs Go.RowKit
set_option linter.unusedSectionVars false
set_option linter.unusedVariables false
set_option linter.unusedSimpArgs false
set_option maxRecDepth 100000
def awk:Option Bool:=some true
theorem qjh {res:Bool} (h:awk=some res):qc ZT (.fn 4) [] [] (.bool res) []:=by
 obtain rfl:=si h;exact qqP
def qaa (N:Nat) (n:Int) (w:List Int) (t:Str):Option Bool:=
 ((awk).bind fun m=>
 if(!m)=true then
 some true
 else
 if(w.length:Int)>220 then
 some true
 else
 some (decide ((t.length:Int)>40)):Option Bool).bind fun o=>
 if o=true then
 (awk).bind fun p=>
 some p
 else
 (xP N n w).bind fun q=>
 (qa2 N t).bind fun r=>
 (qa6 N ([q,r]:List Int)).bind fun c=>
 (if c=0 then
 some (t==[48])
 else
 some false:Option Bool).bind fun f=>
 ((if f=true then
 some 6
 else
 some c:Option Int)).bind fun b=>
 (if b=0 then
 if n>5 then
 some true
 else
 if(w.length:Int)>12 then
 some true
 else
 (qdd N t 3).bind fun g=>
 some (!g)
 else
 some false:Option Bool).bind fun h=>
 if h=true then
 some true
 else
 (qal N n w t).bind fun a=>
 if(!decide (b=0))=true then
 (if(a.1.length:Int)=0 then
 some (decide (a.2=b))
 else
 some false:Option Bool).bind fun i=>
 some i
 else
 (qbN N n w t).bind fun d=>
 (yK N d).bind fun e=>
 if(!decide (e=0))=true then
 (if(a.1.length:Int)=0 then
 some (decide (a.2=e))
 else
 some false:Option Bool).bind fun j=>
 some j
 else
 (if a.2=0 then
 (y8 N a.1 d).bind fun k=>
 some k
 else
 some false:Option Bool).bind fun l=>
 some l
theorem qeM (N:Nat) (n:Int) (w:List Int) (t:Str) {res:Bool} (h:qaa N n w t=some res):qc ZT (.fn 3) [.i n,vl encI w,.str t] [] (.bool res) []:=by
 unfold qaa at h;refine Ub Tryz.func3 rfl rfl (m:=93) rfl (rs:=[.tmp 6]) rfl (l:=(kM n w t [])) rfl ?_;refine sh fol (kM n w t []) ?_;refine sq ?_;refine sq ?_;obtain⟨b4,b,h⟩:=bnd h;refine Ue (s':=(ofG 93 (kM n w t [(22,.bool b4)]),[])) ?_ ?_
 ·obtain⟨r1,k,b⟩:=bnd b;rcases wyB b with⟨U,b⟩|⟨U,b⟩
  ·obtain rfl:=si b;exact tr fol [0,2] (kM n w t [(22,.bool true)]) (ac (cv (qjh k)) (ac (gw U) az))
  rcases wyD b with⟨V,b⟩|⟨V,b⟩
  ·obtain rfl:=si b;exact tr fol [0,2,7] (kM n w t [(22,.bool true)]) (ac (cv (qjh k)) (ac (gw U) (ac (gw V) az)))
  obtain rfl:=si b;exact tr fol [0,2,7] (kM n w t [(22,.bool (decide ((t.length:Int)>40)))]) (ac (cv (qjh k)) (ac (gw U) (ac (gw V) az)))
 refine ihB h (fun c6 h=>?_) (fun c6 h=>?_)
 ·obtain⟨r7,H,h⟩:=bnd h;refine sq (gr fol [0] [(6,.bool r7)] (ac (cv (qjh H)) az) ?_);refine Goes.ret ?_;obtain rfl:=si h;exact(gw2 [.bool r7] (Ua tB))
 refine Goes.skip ?_;obtain⟨I,J,h⟩:=bnd h;obtain⟨K,L,h⟩:=bnd h;obtain⟨o,u,h⟩:=bnd h;refine sq (gq fol [2,4,6] (kM n w t [(7,.i o)]) (kA7 I K) (ac (cv (qfF N n w J)) (ac (cv (qba N t L)) (ac (hs (.call 5 [.slice 0 0 2 2 1] (kA7 I K) [0] [vl encI ([I,K]:List Int)] (.i o)) (qfG (FzL.cons (Fz.lit rfl rfl (Uj (AllST.cons tI (AllST.cons tI AllST.nil)))) FzL.nil) (qhR N ([I,K]:List Int) u) tI rfl)) az))) ?_);refine sq ?_;refine sq ?_;obtain⟨X,f,h⟩:=bnd h;refine Ue (s':=(ofG 93 (kM n w t [(7,.i o),(36,.bool X)]),(kA7 I K))) ?_ ?_
 ·rcases wyD f with⟨v,f⟩|⟨v,f⟩
  ·obtain rfl:=si f;exact tr fol [2] (kM n w t [(7,.i o),(36,.bool (t==[48]))]) (ac (gw v) az)
  obtain rfl:=si f;exact tr fol [2] (kM n w t [(7,.i o),(36,.bool false)]) (ac (gw v) az)
 obtain⟨Y,g15,h⟩:=bnd h;refine Goes.imp (Q:=fun x s'=>(x= .normal/\ ∃e,e=Y/\Sub s' (ofG 93 (kM n w t [(7,.i e)]),[]))) ?_ ?_
 ·refine ihB g15 (fun Z g15=>?_) (fun Z g15=>?_)
  ·refine gh fol (kM n w t [(7,.i 6)]) ?_;obtain rfl:=si g15;exact⟨rfl,_,rfl,(Uc [] [] rfl rfl (.keep (.same nI) (.keep (.same (qg encI _)) (.keep (.same nS) (.keep (.same nI) .nil)))) .nil)⟩
  refine Goes.skip ?_;obtain rfl:=si g15;exact⟨rfl,_,rfl,(Uc [] [] rfl rfl (.keep (.same nI) (.keep (.same (qg encI _)) (.keep (.same nS) (.keep (.same nI) .nil)))) .nil)⟩
 rintro x s' ⟨rfl,e,rfl,hsub⟩;refine Goes.sub hsub ?_;refine sq ?_;refine sq ?_;obtain⟨a0,a,h⟩:=bnd h;refine Ue (s':=(ofG 93 (kM n w t [(7,.i e),(52,.bool a0)]),[])) ?_ ?_
 ·rcases wyD a with⟨p,a⟩|⟨p,a⟩
  ·rcases wyD a with⟨r,a⟩|⟨r,a⟩
   ·obtain rfl:=si a;exact tr fol [2,5] (kM n w t [(7,.i e),(52,.bool true)]) (ac (gw p) (ac (gw r) az))
   rcases wyD a with⟨y,a⟩|⟨y,a⟩
   ·obtain rfl:=si a;exact tr fol [2,5,10] (kM n w t [(7,.i e),(52,.bool true)]) (ac (gw p) (ac (gw r) (ac (gw y) az)))
   obtain⟨a1,z,a⟩:=bnd a;obtain rfl:=si a;exact tr fol [2,5,10,12] (kM n w t [(7,.i e),(52,.bool (!a1))]) (ac (gw p) (ac (gw r) (ac (gw y) (ac (cv (qjC N t 3 z)) az))))
  obtain rfl:=si a;exact tr fol [2] (kM n w t [(7,.i e),(52,.bool false)]) (ac (gw p) az)
 refine ihB h (fun a2 h=>?_) (fun a2 h=>?_)
 ·refine sh fol [(6,.bool true)] ?_;refine Goes.ret ?_;obtain rfl:=si h;exact(gw2 [.bool true] (Ua tB))
 refine Goes.skip ?_;obtain⟨d,A,h⟩:=bnd h;refine sq (gr fol [3] (kM n w t [(7,.i e),(8,vl (qE encS) d.1),(9,.i d.2)]) (ac (cv (qhi N n w t A)) az) ?_);refine sq ?_;refine sh fol (kM n w t [(7,.i e),(8,vl (qE encS) d.1),(9,.i d.2),(61,.bool (!decide (e=0)))]) ?_;refine ihB h (fun a3 h=>?_) (fun a3 h=>?_)
 ·refine sq ?_;obtain⟨M,g,h⟩:=bnd h;refine Ue (s':=(ofG 93 [(6,.bool M)],[])) ?_ ?_
  ·rcases wyD g with⟨B,g⟩|⟨B,g⟩
   ·obtain rfl:=si g;exact tr fol [3] [(6,.bool (decide (d.2=e)))] (ac (gw B) az)
   obtain rfl:=si g;exact tr fol [3] [(6,.bool false)] (ac (gw B) az)
  refine Goes.ret ?_;obtain rfl:=si h;exact(gw2 [.bool M] (Ua tB))
 refine Goes.skip ?_;obtain⟨q,C,h⟩:=bnd h;refine sq (gr fol [3] [(8,vl (qE encS) d.1),(9,.i d.2),(10,vl (qE encS) q)] (ac (cv (qir N n w t C)) az) ?_);obtain⟨s,D,h⟩:=bnd h;refine sq (gr fol [1] [(7,.i s),(8,vl (qE encS) d.1),(9,.i d.2),(10,vl (qE encS) q)] (ac (cv (qel N q D)) az) ?_);refine sq ?_;refine sh fol [(7,.i s),(8,vl (qE encS) d.1),(9,.i d.2),(10,vl (qE encS) q),(77,.bool (!decide (s=0)))] ?_;refine ihB h (fun a4 h=>?_) (fun a4 h=>?_)
 ·refine sq ?_;obtain⟨O,j,h⟩:=bnd h;refine Ue (s':=(ofG 93 [(6,.bool O)],[])) ?_ ?_
  ·rcases wyD j with⟨E,j⟩|⟨E,j⟩
   ·obtain rfl:=si j;exact tr fol [3] [(6,.bool (decide (d.2=s)))] (ac (gw E) az)
   obtain rfl:=si j;exact tr fol [3] [(6,.bool false)] (ac (gw E) az)
  refine Goes.ret ?_;obtain rfl:=si h;exact(gw2 [.bool O] (Ua tB))
 refine Goes.skip ?_;refine sq ?_;obtain⟨P,c,h⟩:=bnd h;refine Ue (s':=(ofG 93 [(6,.bool P)],[])) ?_ ?_
 ·rcases wyD c with⟨F,c⟩|⟨F,c⟩
  ·obtain⟨a5,G,c⟩:=bnd c;obtain rfl:=si c;exact tr fol [2,5] [(6,.bool a5)] (ac (gw F) (ac (cv (qe7 N d.1 q G)) az))
  obtain rfl:=si c;exact tr fol [2] [(6,.bool false)] (ac (gw F) az)
 refine Goes.ret ?_;obtain rfl:=si h;exact(gw2 [.bool P] (Ua tB))
end Go.Av
