/-
  The walk of the law.
-/
import Derived.Test.YtbhnngdbhdfhiaaGreatDoorQGenCy3
import Derived.Test.YtbhnngdbhdfhiaaGreatDoorAvAwkG
noncomputable section
namespace Go.Av
open Go.Proofs Go.RowKit
set_option linter.unusedSectionVars false
set_option linter.unusedVariables false
set_option linter.unusedSimpArgs false
set_option maxRecDepth 100000
def awk:Option Bool:=some true
theorem qiI {res:Bool} (h:awk=some res):qc ZT (.fn 5) [] [] (.bool res) []:=by
 obtain rfl:=si h
 exact qot
def yC (N:Nat) (p:List Int) (k:Int):Option Bool:=
 ((awk).bind fun q=>
 if(!q)=true then
 some true
 else
 some (decide ((p.length:Int)>260)):Option Bool).bind fun r=>
 if r=true then
 (awk).bind fun s=>
 some s
 else
 (qaD N p).bind fun b=>
 (qaE N p).bind fun c=>
 (qaY N p k).bind fun d=>
 (yG N p).bind fun a=>
 if(!decide (a=0))=true then
 (if(b.1.length:Int)=0 then
 if b.2=a then
 (xW N c.1 c.2 a []).bind fun e=>
 if e=true then
 (xk N d.1 d.2 a []).bind fun f=>
 some f
 else
 some false
 else
 some false
 else
 some false:Option Bool).bind fun g=>
 some g
 else
 (if b.2=0 then
 (yA N p).bind fun h=>
 (yF N b.1 h).bind fun i=>
 if i=true then
 (qaX N p).bind fun j=>
 (xW N c.1 c.2 0 j).bind fun l=>
 if l=true then
 (qbq N p k).bind fun m=>
 (xk N d.1 d.2 0 m).bind fun n=>
 some n
 else
 some false
 else
 some false
 else
 some false:Option Bool).bind fun o=>
 some o
theorem qct (N:Nat) (p:List Int) (k:Int) {res:Bool} (h:yC N p k=some res):qc ZT (.fn 3) [vl encI p,.i k] [] (.bool res) []:=by
 unfold yC at h
 refine Ub Tryz.func3 rfl rfl (m:=83) rfl (rs:=[.tmp 4]) rfl (l:=(kO p [(1,.i k)])) rfl ?_
 refine sh fol (kO p [(1,.i k)]) ?_
 refine sq ?_
 refine sq ?_
 obtain⟨X,c,h⟩:=bnd h
 refine Goes.cut (s':=(ofG 83 (kO p [(1,.i k),(18,.bool X)]),[])) ?_ ?_
 ·obtain⟨r1,w,c⟩:=bnd c
  rcases wyB c with⟨M,c⟩|⟨M,c⟩
  ·obtain rfl:=si c
   exact tr fol [0,2] (kO p [(1,.i k),(18,.bool true)]) (ac (cv (qiI w)) (ac (gw M) az))
  obtain rfl:=si c
  exact tr fol [0,2] (kO p [(1,.i k),(18,.bool (decide ((p.length:Int)>260)))]) (ac (cv (qiI w)) (ac (gw M) az))
 refine ihB h (fun Y h=>?_) (fun Y h=>?_)
 ·obtain⟨V,F,h⟩:=bnd h
  refine sq (gr fol [0] (kAq V) (ac (cv (qiI F)) az) ?_)
  refine Goes.ret ?_
  obtain rfl:=si h
  exact(gw2 [.bool V] (Ua tB))
 refine Goes.skip ?_
 obtain⟨g,G,h⟩:=bnd h
 refine sq (gr fol [1] (kO p [(1,.i k),(5,vl (qp encI) g.1),(6,.i g.2)]) (ac (cv (qek N p G)) az) ?_)
 obtain⟨d,H,h⟩:=bnd h
 refine sq (gr fol [1] (kO p [(1,.i k),(5,vl (qp encI) g.1),(6,.i g.2),(7,.str d.1),(8,.i d.2)]) (ac (cv (qeF N p H)) az) ?_)
 obtain⟨t,I,h⟩:=bnd h
 refine sq (gr fol [2] (kO p ((1,.i k)::(5,vl (qp encI) g.1)::(6,.i g.2)::(7,.str d.1)::(8,.i d.2)::(kA8 t.1 t.2 []))) (ac (cv (qeO N p k I)) az) ?_)
 obtain⟨j,x,h⟩:=bnd h
 refine sq (gr fol [1] (kO p ((1,.i k)::(5,vl (qp encI) g.1)::(6,.i g.2)::(7,.str d.1)::(8,.i d.2)::(kA8 t.1 t.2 [(11,.i j)]))) (ac (cv (qdL N p x)) az) ?_)
 refine sq ?_
 refine sh fol (kO p ((1,.i k)::(5,vl (qp encI) g.1)::(6,.i g.2)::(7,.str d.1)::(8,.i d.2)::(kA8 t.1 t.2 [(11,.i j),(39,.bool (!decide (j=0)))]))) ?_
 refine ihB h (fun O h=>?_) (fun O h=>?_)
 ·refine sq ?_
  obtain⟨J,b,h⟩:=bnd h
  refine Goes.cut (s':=(ofG 83 (kAq J),[])) ?_ ?_
  ·rcases wyD b with⟨n,b⟩|⟨n,b⟩
   ·rcases wyD b with⟨u,b⟩|⟨u,b⟩
    ·obtain⟨Z,o,b⟩:=bnd b
     rcases wyB b with⟨y,b⟩|⟨y,b⟩
     ·obtain⟨P,z,b⟩:=bnd b
      obtain rfl:=si b
      exact tr fol [3,8,12,14,18] (kAq P) (ac (gw n) (ac (gw u) (ac (cv (qa1 N d.1 d.2 j [] o)) (ac (gw y) (ac (cv ((qc.wk (qdA N t.1 t.2 j [] z) (WkL.cons (Wk.refl _) (WkL.cons (Wk.refl _) (WkL.cons (Wk.refl _) (WkL.cons (Wk.nilv (E:=encI)) WkL.nil))))))) az)))))
     obtain rfl:=si b
     exact tr fol [3,8,12,14] kAU (ac (gw n) (ac (gw u) (ac (cv (qa1 N d.1 d.2 j [] o)) (ac (gw y) az))))
    obtain rfl:=si b
    exact tr fol [3,8] kAU (ac (gw n) (ac (gw u) az))
   obtain rfl:=si b
   exact tr fol [3] kAU (ac (gw n) az)
  refine Goes.ret ?_
  obtain rfl:=si h
  exact(gw2 [.bool J] (Ua tB))
 refine Goes.skip ?_
 refine sq ?_
 obtain⟨K,a,h⟩:=bnd h
 refine Goes.cut (s':=(ofG 83 (kAq K),[])) ?_ ?_
 ·rcases wyD a with⟨q,a⟩|⟨q,a⟩
  ·obtain⟨A,e,a⟩:=bnd a
   obtain⟨a0,f,a⟩:=bnd a
   rcases wyB a with⟨v,a⟩|⟨v,a⟩
   ·obtain⟨L,r,a⟩:=bnd a
    obtain⟨a1,s,a⟩:=bnd a
    rcases wyB a with⟨B,a⟩|⟨B,a⟩
    ·obtain⟨Q,C,a⟩:=bnd a
     obtain⟨U,D,a⟩:=bnd a
     obtain rfl:=si a
     exact tr fol [2,5,6,8,12,13,15,20,21] (kAq U) (ac (gw q) (ac (cv (yH N p e)) (ac (cv (xK N g.1 A f)) (ac (gw v) (ac (cv (qcq N p r)) (ac (cv (qa1 N d.1 d.2 0 L s)) (ac (gw B) (ac (cv (qfZ N p k C)) (ac (cv (qdA N t.1 t.2 0 Q D)) az)))))))))
    obtain rfl:=si a
    exact tr fol [2,5,6,8,12,13,15] kAU (ac (gw q) (ac (cv (yH N p e)) (ac (cv (xK N g.1 A f)) (ac (gw v) (ac (cv (qcq N p r)) (ac (cv (qa1 N d.1 d.2 0 L s)) (ac (gw B) az)))))))
   obtain rfl:=si a
   exact tr fol [2,5,6,8] kAU (ac (gw q) (ac (cv (yH N p e)) (ac (cv (xK N g.1 A f)) (ac (gw v) az))))
  obtain rfl:=si a
  exact tr fol [2] kAU (ac (gw q) az)
 refine Goes.ret ?_
 obtain rfl:=si h
 exact(gw2 [.bool K] (Ua tB))
end Go.Av
