/-
  The walk of the law.
-/
import Derived.Test.YtbjpmhdicbgjkaaGreatDoorQGenE6
import Derived.Test.YtbjpmhdicbgjkaaGreatDoorAvAwkE
noncomputable section
namespace Go.Av
open Go.Proofs Go.RowKit
set_option linter.unusedSectionVars false
set_option linter.unusedVariables false
set_option linter.unusedSimpArgs false
set_option maxRecDepth 100000
def awk:Option Bool:=some true
theorem qhT {res:Bool} (h:awk=some res):qc Tryz.prog (.fn 10) [] [] (.bool res) []:=by
 obtain rfl:=si h
 exact qpH
def yg (N:Nat) (a:Str) (b:Str):Option Bool:=
 ((awk).bind fun B=>
 if(!B)=true then
 some true
 else
 (qbj N a 30).bind fun C=>
 if(!C)=true then
 some true
 else
 (qbj N b 30).bind fun D=>
 some (!D):Option Bool).bind fun E=>
 if E=true then
 (awk).bind fun F=>
 some F
 else
 (vM N a).bind fun c=>
 (vw a).bind fun h=>
 if h<0 then
 some (decide (c.2=3))
 else
 (qaI N b b).bind fun i=>
 (vM N i).bind fun d=>
 (if(!decide ((w64 (c.2+d.2))=0))=true then
 some true
 else
 (vG N c.1).bind fun j=>
 if(!decide (j=0))=true then
 some true
 else
 (vw c.1.Low).bind fun k=>
 if k<0 then
 some true
 else
 (qaI N c.1.Low c.1.Low).bind fun l=>
 (yU N l a).bind fun m=>
 if m>0 then
 some true
 else
 (qaI N c.1.High c.1.High).bind fun n=>
 (yU N n a).bind fun o=>
 if o<0 then
 some true
 else
 (qbh N c.1.High c.1.Low).bind fun p=>
 (yU N p [49,47,49,48,48,48]).bind fun q=>
 some (decide (q>0)):Option Bool).bind fun r=>
 if r=true then
 some false
 else
 ((yS b).bind fun s=>
 (yS b).bind fun t=>
 (qbt s t).bind fun f=>
 if(!((d.1.Low==f.Low)&&((d.1.High==f.High)&&true)))=true then
 some true
 else
 (yU N b a).bind fun u=>
 some (decide (u<0)):Option Bool).bind fun v=>
 if v=true then
 (yS b).bind fun w=>
 (yS b).bind fun x=>
 (qbt w x).bind fun g=>
 some ((d.1.Low==g.Low)&&((d.1.High==g.High)&&true))
 else
 (vM N b).bind fun e=>
 (if e.2=0 then
 (vG N e.1).bind fun y=>
 if y=0 then
 (yU N e.1.High c.1.Low).bind fun z=>
 some (decide (z>=0))
 else
 some false
 else
 some false:Option Bool).bind fun A=>
 some A
theorem qcF (N:Nat) (a:Str) (b:Str) {res:Bool} (h:yg N a b=some res):qc Tryz.prog (.fn 4) (kAR a b) [] (.bool res) []:=by
 unfold yg at h
 refine Goes.fnW Tryz.func4 rfl rfl (m:=125) rfl (rs:=[.tmp 4]) rfl (l:=(kJ a b [])) rfl ?_
 refine sh fol (kJ a b []) ?_
 refine sq ?_
 refine sq ?_
 obtain⟨b6,k,h⟩:=bnd h
 refine Goes.cut (s':=(ofG 125 (kJ a b [(22,.bool b6)]),[])) ?_ ?_
 ·obtain⟨r1,w,k⟩:=bnd k
  rcases wyB k with⟨c2,k⟩|⟨c2,k⟩
  ·obtain rfl:=si k
   exact tr fol [0,2] (kJ a b [(22,.bool true)]) (ac (cv (qhT w)) (ac (gw c2) az))
  obtain⟨r3,G,k⟩:=bnd k
  rcases wyB k with⟨c4,k⟩|⟨c4,k⟩
  ·obtain rfl:=si k
   exact tr fol [0,2,4,7] (kJ a b [(22,.bool true)]) (ac (cv (qhT w)) (ac (gw c2) (ac (cv (qcJ N a 30 G)) (ac (gw c4) az))))
  obtain⟨r5,a2,k⟩:=bnd k
  obtain rfl:=si k
  exact tr fol [0,2,4,7,9] (kJ a b [(22,.bool (!r5))]) (ac (cv (qhT w)) (ac (gw c2) (ac (cv (qcJ N a 30 G)) (ac (gw c4) (ac (cv (qcJ N b 30 a2)) az)))))
 refine ihB h (fun c8 h=>?_) (fun c8 h=>?_)
 ·obtain⟨r9,a3,h⟩:=bnd h
  refine sq (gr fol [0] (kAl r9) (ac (cv (qhT a3)) az) ?_)
  refine Goes.ret ?_
  obtain rfl:=si h
  exact(gw2 [.bool r9] (FzW.still tB))
 refine Goes.skip ?_
 obtain⟨d,H,h⟩:=bnd h
 refine sq (gq fol [1] (kJ a b ((5,.ptr 0 0)::(kB4 d.2))) (kB d.1.Low d.1.High []) (ac (cv (qbq N a H)) az) ?_)
 refine sq ?_
 obtain⟨r11,I,h⟩:=bnd h
 refine sq (gr fol [1] (kJ a b [(5,.ptr 0 0),(6,.i d.2),(31,.bool (decide (r11<0)))]) (ac (cv (jh a I)) az) ?_)
 refine ihD h (fun c12 h=>?_) (fun c12 h=>?_)
 ·refine sh fol (kAl (decide (d.2=3))) ?_
  refine Goes.ret ?_
  obtain rfl:=si h
  exact(gw2 [.bool (decide (d.2=3))] (FzW.still tB))
 refine Goes.skip ?_
 obtain⟨r13,J,h⟩:=bnd h
 obtain⟨f,K,h⟩:=bnd h
 refine sq (gq fol [2,3] (kJ a b ((5,.ptr 0 0)::(6,.i d.2)::(7,.ptr 1 0)::(kBw f.2))) (kB d.1.Low d.1.High (kB f.1.Low f.1.High [])) (ac (cv (xO N b b J)) (ac (cv (qbq N r13 K)) az)) ?_)
 refine sq ?_
 refine sq ?_
 obtain⟨b28,c,h⟩:=bnd h
 refine Goes.cut (s':=(ofG 125 (kJ a b (kAx [(84,.bool b28)])),(kB d.1.Low d.1.High (kB f.1.Low f.1.High [])))) ?_ ?_
 ·rcases wyB c with⟨s,c⟩|⟨s,c⟩
  ·obtain rfl:=si c
   exact tr fol [4] (kJ a b (kAx [(84,.bool true)])) (ac (gw s) az)
  obtain⟨r16,p,c⟩:=bnd c
  rcases wyB c with⟨v,c⟩|⟨v,c⟩
  ·obtain rfl:=si c
   exact tr fol [4,6,9] (kJ a b (kAx [(84,.bool true)])) (ac (gw s) (ac (cv (zJ N d.1 p)) (ac (gw v) az)))
  obtain⟨r18,q,c⟩:=bnd c
  rcases wyD c with⟨x,c⟩|⟨x,c⟩
  ·obtain rfl:=si c
   exact tr fol [4,6,9,12,15] (kJ a b (kAx [(84,.bool true)])) (ac (gw s) (ac (cv (zJ N d.1 p)) (ac (gw v) (ac (cv (jh d.1.Low q)) (ac (gw x) az)))))
  obtain⟨L,t,c⟩:=bnd c
  obtain⟨r21,u,c⟩:=bnd c
  rcases wyD c with⟨E,c⟩|⟨E,c⟩
  ·obtain rfl:=si c
   exact tr fol [4,6,9,12,15,20,22,25] (kJ a b (kAx [(84,.bool true)])) (ac (gw s) (ac (cv (zJ N d.1 p)) (ac (gw v) (ac (cv (jh d.1.Low q)) (ac (gw x) (ac (cv (xO N d.1.Low d.1.Low t)) (ac (cv (jR N L a u)) (ac (gw E) az))))))))
  obtain⟨a4,y,c⟩:=bnd c
  obtain⟨r24,z,c⟩:=bnd c
  rcases wyD c with⟨M,c⟩|⟨M,c⟩
  ·obtain rfl:=si c
   exact tr fol [4,6,9,12,15,20,22,25,30,32,35] (kJ a b (kAx [(84,.bool true)])) (ac (gw s) (ac (cv (zJ N d.1 p)) (ac (gw v) (ac (cv (jh d.1.Low q)) (ac (gw x) (ac (cv (xO N d.1.Low d.1.Low t)) (ac (cv (jR N L a u)) (ac (gw E) (ac (cv (xO N d.1.High d.1.High y)) (ac (cv (jR N a4 a z)) (ac (gw M) az)))))))))))
  obtain⟨r26,O,c⟩:=bnd c
  obtain⟨r27,P,c⟩:=bnd c
  obtain rfl:=si c
  exact tr fol [4,6,9,12,15,20,22,25,30,32,35,40,41] (kJ a b (kAx [(84,.bool (decide (r27>0)))])) (ac (gw s) (ac (cv (zJ N d.1 p)) (ac (gw v) (ac (cv (jh d.1.Low q)) (ac (gw x) (ac (cv (xO N d.1.Low d.1.Low t)) (ac (cv (jR N L a u)) (ac (gw E) (ac (cv (xO N d.1.High d.1.High y)) (ac (cv (jR N a4 a z)) (ac (gw M) (ac (cv (qet N d.1.High d.1.Low O)) (ac (cv (jR N r26 [49,47,49,48,48,48] P)) az)))))))))))))
 refine ihB h (fun c30 h=>?_) (fun c30 h=>?_)
 ·refine sh fol kAT ?_
  refine Goes.ret ?_
  obtain rfl:=si h
  exact(gw2 [.bool false] (FzW.still tB))
 refine Goes.skip ?_
 refine sq ?_
 refine sq ?_
 obtain⟨b36,g,h⟩:=bnd h
 refine Goes.cut (s':=(ofG 125 ((1,.str b)::(kAx [(97,.bool b36)])),(kB d.1.Low d.1.High (kB f.1.Low f.1.High [])))) ?_ ?_
 ·obtain⟨a5,A,g⟩:=bnd g
  obtain⟨a6,B,g⟩:=bnd g
  obtain⟨n,C,g⟩:=bnd g
  rcases wyB g with⟨Q,g⟩|⟨Q,g⟩
  ·obtain rfl:=si g
   exact tr fol [2,4,5,6,7] ((1,.str b)::(kAx [(97,.bool true)])) (ac (cv (vL b A)) (ac (cv (vL b B)) (ac (cv (qbV a5 a6 C)) (ac (hs (.done (.opt (qU Tryz.prog .neq 44 (.tmp 85) (.tmp 90) (.agg (kAR f.1.Low f.1.High)) (.agg (kAR n.Low n.High)))) (.bool (!((f.1.Low==n.Low)&&((f.1.High==n.High)&&true))))) (qoR qnU (e:=((f.1.Low==n.Low)&&((f.1.High==n.High)&&true))) (.cons (a:= .str f.1.Low) (b:= .str n.Low) rfl (by kernel_rfl) (by kernel_rfl) (by kernel_rfl) (.cons (a:= .str f.1.High) (b:= .str n.High) rfl (by kernel_rfl) (by kernel_rfl) (by kernel_rfl) .nil)))) (ac (gw Q) az)))))
  obtain⟨r35,U,g⟩:=bnd g
  obtain rfl:=si g
  exact tr fol [2,4,5,6,7,10] ((1,.str b)::(kAx [(97,.bool (decide (r35<0)))])) (ac (cv (vL b A)) (ac (cv (vL b B)) (ac (cv (qbV a5 a6 C)) (ac (hs (.done (.opt (qU Tryz.prog .neq 44 (.tmp 85) (.tmp 90) (.agg (kAR f.1.Low f.1.High)) (.agg (kAR n.Low n.High)))) (.bool (!((f.1.Low==n.Low)&&((f.1.High==n.High)&&true))))) (qoR qnU (e:=((f.1.Low==n.Low)&&((f.1.High==n.High)&&true))) (.cons (a:= .str f.1.Low) (b:= .str n.Low) rfl (by kernel_rfl) (by kernel_rfl) (by kernel_rfl) (.cons (a:= .str f.1.High) (b:= .str n.High) rfl (by kernel_rfl) (by kernel_rfl) (by kernel_rfl) .nil)))) (ac (gw Q) (ac (cv (jR N b a U)) az))))))
 refine ihB h (fun c38 h=>?_) (fun c38 h=>?_)
 ·obtain⟨r39,V,h⟩:=bnd h
  obtain⟨r40,X,h⟩:=bnd h
  obtain⟨o,Y,h⟩:=bnd h
  refine sq (gr fol [2,4,5,6] (kAl ((f.1.Low==o.Low)&&((f.1.High==o.High)&&true))) (ac (cv (vL b V)) (ac (cv (vL b X)) (ac (cv (qbV r39 r40 Y)) (ac (hs (.done (.opt (qU Tryz.prog .eql 44 (.tmp 98) (.tmp 103) (.agg (kAR f.1.Low f.1.High)) (.agg (kAR o.Low o.High)))) (.bool ((f.1.Low==o.Low)&&((f.1.High==o.High)&&true)))) (eq_ag qnU (e:=((f.1.Low==o.Low)&&((f.1.High==o.High)&&true))) (.cons (a:= .str f.1.Low) (b:= .str o.Low) rfl (by kernel_rfl) (by kernel_rfl) (by kernel_rfl) (.cons (a:= .str f.1.High) (b:= .str o.High) rfl (by kernel_rfl) (by kernel_rfl) (by kernel_rfl) .nil)))) az)))) ?_)
  refine Goes.ret ?_
  obtain rfl:=si h
  exact(gw2 [.bool ((f.1.Low==o.Low)&&((f.1.High==o.High)&&true))] (FzW.still tB))
 refine Goes.skip ?_
 obtain⟨r,Z,h⟩:=bnd h
 refine sq (gq fol [1] [(5,.ptr 0 0),(9,.ptr 2 0),(10,.i r.2)] (kB d.1.Low d.1.High (kB f.1.Low f.1.High (kB r.1.Low r.1.High []))) (ac (cv (qbq N b Z)) az) ?_)
 refine sq ?_
 obtain⟨a7,j,h⟩:=bnd h
 refine Goes.cut (s':=(ofG 125 (kAl a7),(kB d.1.Low d.1.High (kB f.1.Low f.1.High (kB r.1.Low r.1.High []))))) ?_ ?_
 ·rcases wyD j with⟨F,j⟩|⟨F,j⟩
  ·obtain⟨r44,D,j⟩:=bnd j
   rcases wyD j with⟨a0,j⟩|⟨a0,j⟩
   ·obtain⟨r46,a1,j⟩:=bnd j
    obtain rfl:=si j
    exact tr fol [2,4,7,12] (kAl (decide (r46>=0))) (ac (gw F) (ac (cv (zJ N r.1 D)) (ac (gw a0) (ac (cv (jR N r.1.High d.1.Low a1)) az))))
   obtain rfl:=si j
   exact tr fol [2,4,7] kAT (ac (gw F) (ac (cv (zJ N r.1 D)) (ac (gw a0) az)))
  obtain rfl:=si j
  exact tr fol [2] kAT (ac (gw F) az)
 refine Goes.ret ?_
 obtain rfl:=si h
 exact(gw2 [.bool a7] (FzW.still tB))
end Go.Av
