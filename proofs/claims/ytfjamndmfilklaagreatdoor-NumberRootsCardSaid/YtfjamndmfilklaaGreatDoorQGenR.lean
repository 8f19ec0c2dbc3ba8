/-
  The walk of the law.
-/
import Derived.Test.YtfjamndmfilklaaGreatDoorQGenR5
import Derived.Test.YtfjamndmfilklaaGreatDoorAvAwkR
noncomputable section
namespace Go.Av
open Go.Proofs Go.RowKit
set_option linter.unusedSectionVars false
set_option linter.unusedVariables false
set_option linter.unusedSimpArgs false
set_option maxRecDepth 100000
def awk:Option Bool:=some true
theorem qk8 {res:Bool} (h:awk=some res):qb ZT (.fn 5) [] [] (.bool res) []:=by
 obtain rfl:=si h
 exact qq8
def xS (N:Nat) (a:kK) (b:kK) (k:Int):Option Bool:=
 ((awk).bind fun B=>
 if(!B)=true then
 some true
 else
 (qci N ([a.Low,a.High,b.Low,b.High]:List Str)).bind fun C=>
 some C:Option Bool).bind fun D=>
 if D=true then
 (awk).bind fun E=>
 some E
 else
 (jP N a b).bind fun A=>
 (vJ N a.Low).bind fun e=>
 (qa2 N k).bind fun c=>
 (yn N a).bind fun i=>
 (yn N b).bind fun j=>
 (qbH N ([i,j]:List Int)).bind fun f=>
 ((if f=0 then
 (xL N a b).bind fun g=>
 some (g.2,g.1)
 else
 some (f,0):Option (Int×Int))).bind fun(l,m)=>
 (vI A.1 A.2 l m).bind fun n=>
 if(!n)=true then
 some false
 else
 (qa0 N a.Low).bind fun h=>
 ((if h=0 then
 (vS a.Low).bind fun o=>
 (qcA (decide (o<0)) 3).bind fun p=>
 some p
 else
 some h:Option Int)).bind fun d=>
 (if(!decide (d=0))=true then
 (zi N e.1 e.2 d a).bind fun q=>
 if(!q)=true then
 some true
 else
 if d=0 then
 (xA N a.Low).bind fun r=>
 (zi N e.1 e.2 0 r).bind fun s=>
 some (!s)
 else
 some false
 else
 if d=0 then
 (xA N a.Low).bind fun t=>
 (zi N e.1 e.2 0 t).bind fun u=>
 some (!u)
 else
 some false:Option Bool).bind fun v=>
 if v=true then
 some false
 else
 (if k<1 then
 some true
 else
 some (decide (k>30)):Option Bool).bind fun w=>
 if w=true then
 (zi N c.1 c.2 3 a).bind fun x=>
 some x
 else
 (qdn N k).bind fun y=>
 (zi N c.1 c.2 0 y).bind fun z=>
 some z
theorem qef (N:Nat) (a:kK) (b:kK) (k:Int) {res:Bool} (h:xS N a b k=some res):qb ZT (.fn 3) (kV a.Low a.High (kV b.Low b.High [.i k])) [] (.bool res) []:=by
 unfold xS at h
 refine Ub Tryz.func3 rfl rfl (m:=116) rfl (rs:=[.tmp 6]) rfl (l:=(kAG a.Low a.High b.Low b.High (kBF k))) rfl ?_
 refine sg fol ((2,.i k)::(kAA [])) (kB a.Low a.High b.Low b.High []) ?_
 refine sq ?_
 refine sq ?_
 obtain⟨b4,f,h⟩:=bnd h
 refine Goes.cutS (s':=(ofG 116 ((2,.i k)::(kAA [(29,.bool b4)])),(kB a.Low a.High b.Low b.High []))) ?_ ?_
 ·obtain⟨r1,w,f⟩:=bnd f
  rcases wyB f with⟨c2,f⟩|⟨c2,f⟩
  ·obtain rfl:=si f
   exact yL.sub (tr fol [0,2] ((2,.i k)::(kAA [(29,.bool true)])) (ac (cv (qk8 w)) (ac (gw c2) az))) (Sub.refl _)
  obtain⟨r3,Y,f⟩:=bnd f
  obtain rfl:=si f
  exact yL.sub (yL.rq fol [0,2,12] ((2,.i k)::(kAA [(29,.bool r3)])) (kB a.Low a.High b.Low b.High [.cells [.str a.Low,.str a.High,.str b.Low,.str b.High]]) (ac (cv (qk8 w)) (ac (gw c2) (ac (hs (.call 6 [.slice 2 0 4 4 1] (kB a.Low a.High b.Low b.High [.cells [.str a.Low,.str a.High,.str b.Low,.str b.High]]) [2] [vl encS ([a.Low,a.High,b.Low,b.High]:List Str)] (.bool r3)) (qdG (FzL.cons (Fz.lit rfl rfl (Ue (AllST.cons tS (AllST.cons tS (AllST.cons tS (AllST.cons tS AllST.nil)))))) FzL.nil) (qir N ([a.Low,a.High,b.Low,b.High]:List Str) Y) tB rfl)) az)))) (Sub.norm [] [some 0,some 1] rfl rfl (.keep (.same nI) (.kp (.kp (.keep (.same nB) .nil)))) (.kb rfl (.same sn) (.kb rfl (.same sn) .nil)))
 intro _ hsub
 refine Goes.sub hsub ?_
 refine ihB h (fun c6 h=>?_) (fun c6 h=>?_)
 ·obtain⟨r7,Z,h⟩:=bnd h
  refine sq (gr fol [0] [(6,.bool r7)] (ac (cv (qk8 Z)) az) ?_)
  refine Goes.ret ?_
  obtain rfl:=si h
  exact(gw2 [.bool r7] (Ua tB))
 refine Goes.skip ?_
 obtain⟨j,a0,h⟩:=bnd h
 refine sq (gr fol [2] ((2,.i k)::(kAA (kAQ j.1 j.2 []))) (ac (cv (qfR N a b a0)) az) ?_)
 obtain⟨e,a1,h⟩:=bnd h
 refine sq (gq fol [2] ((2,.i k)::(kAA (kAQ j.1 j.2 [(9,.ptr 2 0),(10,.i e.2)]))) (kB a.Low a.High b.Low b.High (kQ e.1.Low e.1.High [])) (ac (cv (qhX N a.Low a1)) az) ?_)
 obtain⟨d,y,h⟩:=bnd h
 refine sq (gq fol [1] ((2,.i k)::(kAA (kAQ j.1 j.2 (kA0 e.2 d.2 [])))) (kB a.Low a.High b.Low b.High (kB e.1.Low e.1.High d.1.Low d.1.High [])) (ac (cv (qjt N k y)) az) ?_)
 obtain⟨r,z,h⟩:=bnd h
 obtain⟨s,A,h⟩:=bnd h
 obtain⟨q,B,h⟩:=bnd h
 refine sq (gq fol [1,3,5] ((2,.i k)::(kAA (kAQ j.1 j.2 (kA0 e.2 d.2 [(13,.i q)])))) (kB a.Low a.High b.Low b.High (kB e.1.Low e.1.High d.1.Low d.1.High (kAt r s))) (ac (cv (qcc N a z)) (ac (cv (qcc N b A)) (ac (hs (.call 10 [.slice 4 0 2 2 1] (kB a.Low a.High b.Low b.High (kB e.1.Low e.1.High d.1.Low d.1.High (kAt r s))) [4] [vl encI ([r,s]:List Int)] (.i q)) (qdG (FzL.cons (Fz.lit rfl rfl (Ue (AllST.cons tI (AllST.cons tI AllST.nil)))) FzL.nil) (qil N ([r,s]:List Int) B) tI rfl)) az))) ?_)
 refine sh fol ((2,.i k)::(kAA (kAQ j.1 j.2 (kA0 e.2 d.2 [(13,.i q),(14,.i 0)])))) ?_
 refine sq ?_
 refine sh fol ((2,.i k)::(kAA (kAQ j.1 j.2 (kA0 e.2 d.2 [(13,.i q),(14,.i 0),(55,.bool (decide (q=0)))])))) ?_
 obtain⟨r16,g16,h⟩:=bnd h
 refine Goes.imp (Q:=fun x s'=>(x= .normal/\ ∃t u,(t,u)=r16/\Sub s' (ofG 116 ((2,.i k)::(3,.ptr 0 0)::(kAQ j.1 j.2 ((9,.ptr 1 0)::(10,.i e.2)::(11,.ptr 2 0)::(12,.i d.2)::(kAN t u)))),(kB a.Low a.High e.1.Low e.1.High (kQ d.1.Low d.1.High []))))) ?_ ?_
 ·refine ihD g16 (fun c17 g16=>?_) (fun c17 g16=>?_)
  ·obtain⟨a2,C,g16⟩:=bnd g16
   refine gr fol [2] ((2,.i k)::(3,.ptr 0 0)::(kAQ j.1 j.2 (kA0 e.2 d.2 (kAN a2.2 a2.1)))) (ac (cv (qf2 N a b C)) az) ?_
   obtain rfl:=si g16
   exact⟨rfl,_,_,rfl,(Sub.norm [] [some 0,some 2,some 3] rfl rfl (.keep (.same nI) (.kp (.keep (.same nI) (.keep (.same nI) (.kp (.keep (.same nI) (.kp (.keep (.same nI) (.keep (.same nI) (.keep (.same nI) .nil)))))))))) (.kb rfl (.same sn) (.kb rfl (.same sn) (.kb rfl (.same sn) .nil))))⟩
  refine Goes.skip ?_
  obtain rfl:=si g16
  exact⟨rfl,_,_,rfl,(Sub.norm [] [some 0,some 2,some 3] rfl rfl (.keep (.same nI) (.kp (.drop (.keep (.same nI) (.keep (.same nI) (.kp (.keep (.same nI) (.kp (.keep (.same nI) (.keep (.same nI) (.keep (.same nI) .nil))))))))))) (.kb rfl (.same sn) (.kb rfl (.same sn) (.kb rfl (.same sn) .nil))))⟩
 rintro x s' ⟨rfl,t,u,rfl,hsub⟩
 try dsimp only at h
 refine Goes.sub hsub ?_
 refine sq ?_
 obtain⟨r19,D,h⟩:=bnd h
 refine sq (gr fol [4] (kAe k e.2 d.2 [(67,.bool (!r19))]) (ac (cv (qgg j.1 j.2 t u D)) az) ?_)
 refine ihB h (fun c20 h=>?_) (fun c20 h=>?_)
 ·refine sh fol [(6,.bool false)] ?_
  refine Goes.ret ?_
  obtain rfl:=si h
  exact(gw2 [.bool false] (Ua tB))
 refine Goes.skip ?_
 obtain⟨E,F,h⟩:=bnd h
 refine sq (gr fol [2] (kAe k e.2 d.2 [(15,.i E)]) (ac (cv (qd7 N a.Low F)) az) ?_)
 refine sq ?_
 refine sh fol (kAe k e.2 d.2 [(15,.i E),(72,.bool (decide (E=0)))]) ?_
 obtain⟨r23,g23,h⟩:=bnd h
 refine Goes.imp (Q:=fun x s'=>(x= .normal/\ ∃o,o=r23/\Sub s' (ofG 116 (kAe k e.2 d.2 [(15,.i o)]),(kB a.Low a.High e.1.Low e.1.High (kQ d.1.Low d.1.High []))))) ?_ ?_
 ·refine ihD g23 (fun c24 g23=>?_) (fun c24 g23=>?_)
  ·obtain⟨r25,G,g23⟩:=bnd g23
   obtain⟨r26,H,g23⟩:=bnd g23
   refine gr fol [2,4] (kAe k e.2 d.2 [(15,.i r26)]) (ac (cv (qaK a.Low G)) (ac (cv (qio (decide (r25<0)) 3 H)) az)) ?_
   obtain rfl:=si g23
   exact⟨rfl,_,rfl,(Sub.refl _)⟩
  refine Goes.skip ?_
  obtain rfl:=si g23
  exact⟨rfl,_,rfl,(Sub.keep [2,3,9,10,11,12,15] rfl rfl)⟩
 rintro x s' ⟨rfl,o,rfl,hsub⟩
 refine Goes.sub hsub ?_
 refine sq ?_
 refine sq ?_
 obtain⟨b36,c,h⟩:=bnd h
 refine Goes.cut (s':=(ofG 116 (kAP k d.2 [(100,.bool b36)]),(kB a.Low a.High e.1.Low e.1.High (kQ d.1.Low d.1.High [])))) ?_ ?_
 ·rcases wyB c with⟨p,c⟩|⟨p,c⟩
  ·obtain⟨r28,n,c⟩:=bnd c
   rcases wyB c with⟨v,c⟩|⟨v,c⟩
   ·obtain rfl:=si c
    exact tr fol [2,7,10] (kAP k d.2 [(100,.bool true)]) (ac (gw p) (ac (cv (vX N e.1 e.2 o a n)) (ac (gw v) az)))
   rcases wyD c with⟨I,c⟩|⟨I,c⟩
   ·obtain⟨r31,J,c⟩:=bnd c
    obtain⟨r32,K,c⟩:=bnd c
    obtain rfl:=si c
    exact tr fol [2,7,10,13,18,19] (kAP k d.2 [(100,.bool (!r32))]) (ac (gw p) (ac (cv (vX N e.1 e.2 o a n)) (ac (gw v) (ac (gw I) (ac (cv (qe4 N a.Low J)) (ac (cv (vX N e.1 e.2 0 r31 K)) az))))))
   obtain rfl:=si c
   exact tr fol [2,7,10,13] (kAP k d.2 [(100,.bool false)]) (ac (gw p) (ac (cv (vX N e.1 e.2 o a n)) (ac (gw v) (ac (gw I) az))))
  rcases wyD c with⟨L,c⟩|⟨L,c⟩
  ·obtain⟨r34,M,c⟩:=bnd c
   obtain⟨r35,O,c⟩:=bnd c
   obtain rfl:=si c
   exact tr fol [2,13,18,19] (kAP k d.2 [(100,.bool (!r35))]) (ac (gw p) (ac (gw L) (ac (cv (qe4 N a.Low M)) (ac (cv (vX N e.1 e.2 0 r34 O)) az))))
  obtain rfl:=si c
  exact tr fol [2,13] (kAP k d.2 [(100,.bool false)]) (ac (gw p) (ac (gw L) az))
 refine ihB h (fun c38 h=>?_) (fun c38 h=>?_)
 ·refine sh fol [(6,.bool false)] ?_
  refine Goes.ret ?_
  obtain rfl:=si h
  exact(gw2 [.bool false] (Ua tB))
 refine Goes.skip ?_
 refine sq ?_
 refine sq ?_
 obtain⟨b40,g,h⟩:=bnd h
 refine Goes.cut (s':=(ofG 116 (kAP k d.2 [(106,.bool b40)]),(kB a.Low a.High e.1.Low e.1.High (kQ d.1.Low d.1.High [])))) ?_ ?_
 ·rcases wyD g with⟨P,g⟩|⟨P,g⟩
  ·obtain rfl:=si g
   exact tr fol [2] (kAP k d.2 [(106,.bool true)]) (ac (gw P) az)
  obtain rfl:=si g
  exact tr fol [2] (kAP k d.2 [(106,.bool (decide (k>30)))]) (ac (gw P) az)
 refine ihB h (fun c42 h=>?_) (fun c42 h=>?_)
 ·obtain⟨a3,U,h⟩:=bnd h
  refine sq (gr fol [3] [(6,.bool a3)] (ac (cv (vX N d.1 d.2 3 a U)) az) ?_)
  refine Goes.ret ?_
  obtain rfl:=si h
  exact(gw2 [.bool a3] (Ua tB))
 refine Goes.skip ?_
 obtain⟨r44,V,h⟩:=bnd h
 obtain⟨a4,X,h⟩:=bnd h
 refine sq (gr fol [3,4] [(6,.bool a4)] (ac (cv (qkG N k V)) (ac (cv (vX N d.1 d.2 0 r44 X)) az)) ?_)
 refine Goes.ret ?_
 obtain rfl:=si h
 exact(gw2 [.bool a4] (Ua tB))
end Go.Av
