/-
  The walk of the law.
-/
import Derived.Test.YtillneeejbbcfaaGreatDoorQGenA2
import Derived.Test.YtillneeejbbcfaaGreatDoorAvAwkB6
noncomputable section
namespace Go.Av
open Go.Proofs Go.RowKit
set_option linter.unusedSectionVars false
set_option linter.unusedVariables false
set_option linter.unusedSimpArgs false
set_option maxRecDepth 100000
def awk:Option Bool:=some true
theorem qht {res:Bool} (h:awk=some res):qb ZT (.fn 4) [] [] (.bool res) []:=by
 obtain rfl:=si h
 exact qn7
def jc (N:Nat) (n:Int) (a:List Int) (b:List Int):Option Bool:=
 ((awk).bind fun C=>
 if(!C)=true then
 some true
 else
 (qaT N n a 4 6).bind fun D=>
 if(!D)=true then
 some true
 else
 (qaT N n b 4 6).bind fun E=>
 some (!E):Option Bool).bind fun F=>
 if F=true then
 (awk).bind fun G=>
 some G
 else
 (yA N n a b).bind fun e=>
 (vR N n a).bind fun c=>
 (vR N n b).bind fun f=>
 (if(!decide ((w64 ((w64 (e.2+c.2))+f.2))=0))=true then
 some true
 else
 (vZ N n a).bind fun j=>
 (vZ N n b).bind fun k=>
 (jd N j k).bind fun l=>
 if(!(e.1==l))=true then
 some true
 else
 (qaV c.1).bind fun m=>
 (qaV f.1).bind fun o=>
 (xe N m o).bind fun p=>
 if(!(e.1==p))=true then
 some true
 else
 (qaV c.1).bind fun q=>
 (vK N n q).bind fun r=>
 some (!decide (r=0)):Option Bool).bind fun s=>
 if s=true then
 some false
 else
 (qav N n c.1).bind fun d=>
 (if(!decide (d.2=0))=true then
 some true
 else
 (vM N n d.1).bind fun t=>
 some (!decide (t=0)):Option Bool).bind fun u=>
 if u=true then
 some false
 else
 (vV N a).bind fun v=>
 (jZ d.1 v).bind fun w=>
 (if(d.1.length:Int)<=12 then
 (vZ N n w).bind fun x=>
 (vZ N n []).bind fun y=>
 (jd N x y).bind fun z=>
 some (!z)
 else
 some false:Option Bool).bind fun A=>
 if A=true then
 some false
 else
 (xJ N n a).bind fun g=>
 (xy N n a g.1).bind fun h=>
 (yA N n h.1 []).bind fun i=>
 (if(w64 ((w64 (g.2+h.2))+i.2))=0 then
 some i.1
 else
 some false:Option Bool).bind fun B=>
 some B
theorem qdn (N:Nat) (n:Int) (a:List Int) (b:List Int) {res:Bool} (h:jc N n a b=some res):qb ZT (.fn 3) (.i n::(kAH a b)) [] (.bool res) []:=by
 unfold jc at h
 refine Ub Tryz.func3 rfl rfl (m:=147) rfl (rs:=[.tmp 6]) rfl (l:=(kB n a (kAT b []))) rfl ?_
 refine sh fol (kB n a (kAT b [])) ?_
 refine sq ?_
 refine sq ?_
 obtain⟨b6,d,h⟩:=bnd h
 refine Goes.cut (s':=(ofG 147 (kB n a (kAT b [(35,.bool b6)])),[])) ?_ ?_
 ·obtain⟨r1,t,d⟩:=bnd d
  rcases wyB d with⟨c2,d⟩|⟨c2,d⟩
  ·obtain rfl:=si d
   exact tr fol [0,2] (kB n a (kAT b [(35,.bool true)])) (ac (cv (qht t)) (ac (gw c2) az))
  obtain⟨r3,B,d⟩:=bnd d
  rcases wyB d with⟨c4,d⟩|⟨c4,d⟩
  ·obtain rfl:=si d
   exact tr fol [0,2,5,8] (kB n a (kAT b [(35,.bool true)])) (ac (cv (qht t)) (ac (gw c2) (ac (cv (qb5 N n a 4 6 B)) (ac (gw c4) az))))
  obtain⟨r5,a2,d⟩:=bnd d
  obtain rfl:=si d
  exact tr fol [0,2,5,8,11] (kB n a (kAT b [(35,.bool (!r5))])) (ac (cv (qht t)) (ac (gw c2) (ac (cv (qb5 N n a 4 6 B)) (ac (gw c4) (ac (cv (qb5 N n b 4 6 a2)) az)))))
 refine ihB h (fun c8 h=>?_) (fun c8 h=>?_)
 ·obtain⟨r9,a3,h⟩:=bnd h
  refine sq (gr fol [0] [(6,.bool r9)] (ac (cv (qht a3)) az) ?_)
  refine Goes.ret ?_
  obtain rfl:=si h
  exact(gw2 [.bool r9] (Ua tB))
 refine Goes.skip ?_
 obtain⟨s,C,h⟩:=bnd h
 refine sq (gr fol [3] (kB n a (kAT b [(7,.bool s.1),(8,.i s.2)])) (ac (cv (qcj N n a b C)) az) ?_)
 obtain⟨f,D,h⟩:=bnd h
 refine sq (gq fol [2] (kB n a (kAT b [(7,.bool s.1),(8,.i s.2),(9,.ptr 0 0),(10,.i f.2)])) [.cells [.i f.1.Half,vl (qa encI) f.1.Factors]] (ac (cv (qcd N n a D)) az) ?_)
 obtain⟨j,F,h⟩:=bnd h
 refine sq (gq fol [2] (kB n a (kAT b [(7,.bool s.1),(8,.i s.2),(9,.ptr 0 0),(10,.i f.2),(11,.ptr 1 0),(12,.i j.2)])) [.cells [.i f.1.Half,vl (qa encI) f.1.Factors],.cells [.i j.1.Half,vl (qa encI) j.1.Factors]] (ac (cv (qcd N n b F)) az) ?_)
 refine sq ?_
 refine sq ?_
 obtain⟨b24,c,h⟩:=bnd h
 refine Goes.cut (s':=(ofG 147 (kB n a [(9,.ptr 0 0),(88,.bool b24)]),[.cells [.i f.1.Half,vl (qa encI) f.1.Factors],.cells [.i j.1.Half,vl (qa encI) j.1.Factors]])) ?_ ?_
 ·rcases wyB c with⟨u,c⟩|⟨u,c⟩
  ·obtain rfl:=si c
   exact tr fol [6] (kB n a [(9,.ptr 0 0),(88,.bool true)]) (ac (gw u) az)
  obtain⟨G,p,c⟩:=bnd c
  obtain⟨H,q,c⟩:=bnd c
  obtain⟨r16,r,c⟩:=bnd c
  rcases wyB c with⟨z,c⟩|⟨z,c⟩
  ·obtain rfl:=si c
   exact tr fol [6,10,13,14,17] (kB n a [(9,.ptr 0 0),(88,.bool true)]) (ac (gw u) (ac (cv (j6 N n a p)) (ac (cv (j6 N n b q)) (ac (cv (vF N G H r)) (ac (gw z) az)))))
  obtain⟨a4,v,c⟩:=bnd c
  obtain⟨a5,w,c⟩:=bnd c
  obtain⟨r20,x,c⟩:=bnd c
  rcases wyB c with⟨I,c⟩|⟨I,c⟩
  ·obtain rfl:=si c
   exact tr fol [6,10,13,14,17,20,22,23,26] (kB n a [(9,.ptr 0 0),(88,.bool true)]) (ac (gw u) (ac (cv (j6 N n a p)) (ac (cv (j6 N n b q)) (ac (cv (vF N G H r)) (ac (gw z) (ac (cv (xW f.1 v)) (ac (cv (xW j.1 w)) (ac (cv (qbh N a4 a5 x)) (ac (gw I) az)))))))))
  obtain⟨r22,J,c⟩:=bnd c
  obtain⟨r23,K,c⟩:=bnd c
  obtain rfl:=si c
  exact tr fol [6,10,13,14,17,20,22,23,26,29,30] (kB n a [(9,.ptr 0 0),(88,.bool (!decide (r23=0)))]) (ac (gw u) (ac (cv (j6 N n a p)) (ac (cv (j6 N n b q)) (ac (cv (vF N G H r)) (ac (gw z) (ac (cv (xW f.1 v)) (ac (cv (xW j.1 w)) (ac (cv (qbh N a4 a5 x)) (ac (gw I) (ac (cv (xW f.1 J)) (ac (cv (qdr N n r22 K)) az)))))))))))
 refine ihB h (fun c26 h=>?_) (fun c26 h=>?_)
 ·refine sh fol [(6,.bool false)] ?_
  refine Goes.ret ?_
  obtain rfl:=si h
  exact(gw2 [.bool false] (Ua tB))
 refine Goes.skip ?_
 obtain⟨o,L,h⟩:=bnd h
 refine sq (gr fol [2] (kB n a [(13,vl encI o.1),(14,.i o.2)]) (ac (cv (qfj N n f.1 L)) az) ?_)
 refine sq ?_
 refine sq ?_
 obtain⟨b30,g,h⟩:=bnd h
 refine Goes.cut (s':=(ofG 147 (kB n a [(13,vl encI o.1),(102,.bool b30)]),[.cells [.i f.1.Half,vl (qa encI) f.1.Factors],.cells [.i j.1.Half,vl (qa encI) j.1.Factors]])) ?_ ?_
 ·rcases wyB g with⟨M,g⟩|⟨M,g⟩
  ·obtain rfl:=si g
   exact tr fol [2] (kB n a [(13,vl encI o.1),(102,.bool true)]) (ac (gw M) az)
  obtain⟨r29,O,g⟩:=bnd g
  obtain rfl:=si g
  exact tr fol [2,5] (kB n a [(13,vl encI o.1),(102,.bool (!decide (r29=0)))]) (ac (gw M) (ac (cv (qa0 N n o.1 O)) az))
 refine ihB h (fun c32 h=>?_) (fun c32 h=>?_)
 ·refine sh fol [(6,.bool false)] ?_
  refine Goes.ret ?_
  obtain rfl:=si h
  exact(gw2 [.bool false] (Ua tB))
 refine Goes.skip ?_
 obtain⟨r33,P,h⟩:=bnd h
 obtain⟨a6,Q,h⟩:=bnd h
 refine sq (gr fol [2,3] (kB n a [(13,vl encI o.1),(15,vl encI a6)]) (ac (cv (qaj N a P)) (ac (cv (yG o.1 r33 Q)) az)) ?_)
 refine sq ?_
 refine sq ?_
 obtain⟨b39,e,h⟩:=bnd h
 refine Goes.cut (s':=(ofG 147 (kB n a [(118,.bool b39)]),[.cells [.i f.1.Half,vl (qa encI) f.1.Factors],.cells [.i j.1.Half,vl (qa encI) j.1.Factors]])) ?_ ?_
 ·rcases wyD e with⟨T,e⟩|⟨T,e⟩
  ·obtain⟨r36,U,e⟩:=bnd e
   obtain⟨r37,V,e⟩:=bnd e
   obtain⟨r38,W,e⟩:=bnd e
   obtain rfl:=si e
   exact tr fol [3,6,8,9] (kB n a [(118,.bool (!r38))]) (ac (gw T) (ac (cv (j6 N n a6 U)) (ac (cv ((qb.wk (j6 N n [] V) (WkL.cons (Wk.refl _) (WkL.cons (Wk.nilv (E:=encI)) WkL.nil))))) (ac (cv (vF N r36 r37 W)) az))))
  obtain rfl:=si e
  exact tr fol [3] (kB n a [(118,.bool false)]) (ac (gw T) az)
 refine ihB h (fun c41 h=>?_) (fun c41 h=>?_)
 ·refine sh fol [(6,.bool false)] ?_
  refine Goes.ret ?_
  obtain rfl:=si h
  exact(gw2 [.bool false] (Ua tB))
 refine Goes.skip ?_
 obtain⟨y,X,h⟩:=bnd h
 refine sq (gr fol [2] (kB n a [(16,vl encI y.1),(17,.i y.2)]) (ac (cv (qeg N n a X)) az) ?_)
 obtain⟨A,Y,h⟩:=bnd h
 refine sq (gr fol [3] [(0,.i n),(17,.i y.2),(18,vl encI A.1),(19,.i A.2)] (ac (cv (qeB N n a y.1 Y)) az) ?_)
 obtain⟨Z,a0,h⟩:=bnd h
 refine sq (gr fol [2] [(17,.i y.2),(19,.i A.2),(20,.bool Z.1),(21,.i Z.2)] (ac (cv ((qb.wk (qcj N n A.1 [] a0) (WkL.cons (Wk.refl _) (WkL.cons (Wk.refl _) (WkL.cons (Wk.nilv (E:=encI)) WkL.nil)))))) az) ?_)
 refine sq ?_
 obtain⟨a7,k,h⟩:=bnd h
 refine Goes.cut (s':=(ofG 147 [(6,.bool a7)],[.cells [.i f.1.Half,vl (qa encI) f.1.Factors],.cells [.i j.1.Half,vl (qa encI) j.1.Factors]])) ?_ ?_
 ·rcases wyD k with⟨a1,k⟩|⟨a1,k⟩
  ·obtain rfl:=si k
   exact tr fol [6] [(6,.bool Z.1)] (ac (gw a1) az)
  obtain rfl:=si k
  exact tr fol [6] [(6,.bool false)] (ac (gw a1) az)
 refine Goes.ret ?_
 obtain rfl:=si h
 exact(gw2 [.bool a7] (Ua tB))
end Go.Av
