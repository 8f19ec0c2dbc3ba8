/-
  The walk of the law.
-/
import Derived.Test.YtlhmomppjidoiaaGreatDoorQGenY4
import Derived.Test.YtlhmomppjidoiaaGreatDoorAvAwkY
noncomputable section
namespace Go.Av
open Go.Proofs Go.RowKit
set_option linter.unusedSectionVars false
set_option linter.unusedVariables false
set_option linter.unusedSimpArgs false
set_option maxRecDepth 100000
def awk:Option Bool:=some true
theorem qlc {res:Bool} (h:awk=some res):qb ZT (.fn 8) [] [] (.bool res) []:=by
 obtain rfl:=si h
 exact qqK
def qaJ (N:Nat) (a:qC) (b:qC) (n:(Str×Str)):Option Bool:=
 ((vD a).bind fun H=>
 (vD b).bind fun I=>
 (qac N ([H,I]:List Int)).bind fun J=>
 if(!decide (J=0))=true then
 some true
 else
 (qbY N n.1 9).bind fun K=>
 if(!K)=true then
 some true
 else
 (qbY N n.2 9).bind fun L=>
 if(!L)=true then
 some true
 else
 (zO N n.1).bind fun M=>
 (zO N n.2).bind fun l=>
 (qac N ([M,l]:List Int)).bind fun m=>
 some (!decide (m=0)):Option Bool).bind fun o=>
 if o=true then
 (awk).bind fun p=>
 some p
 else
 (qaw N a b n.1).bind fun g=>
 (qaw N b a g.1).bind fun h=>
 (qas N a n.1).bind fun c=>
 (qcc N a c.1).bind fun i=>
 (qas N a n.2).bind fun f=>
 (if(!decide (g.2=0))=true then
 some true
 else
 if(!decide (h.2=0))=true then
 some true
 else
 if(!decide (c.2=0))=true then
 some true
 else
 if(!decide (i.2=0))=true then
 some true
 else
 if(!decide (f.2=0))=true then
 some true
 else
 if(!(h.1==n.1))=true then
 some true
 else
 if(!(i.1==n.1))=true then
 some true
 else
 (zO N c.1).bind fun q=>
 (zO N f.1).bind fun r=>
 (qac N ([q,r]:List Int)).bind fun s=>
 some (!decide (s=0)):Option Bool).bind fun t=>
 if t=true then
 some false
 else
 (qaz N n.1 n.2).bind fun j=>
 ((if(!a.Direct)=true then
 some (w64 (0-j))
 else
 some j:Option Int)).bind fun u=>
 (qaz N c.1 f.1).bind fun v=>
 if(!decide (v=u))=true then
 some false
 else
 (qdb N (⟨[122],c.1,[48],([(⟨[48],[49]⟩:qP)]:List qP),[]⟩:qbL) n.2).bind fun d=>
 (qbE N (⟨[122],c.1,[48],([(⟨[48],[49]⟩:qP)]:List qP),[]⟩:qbL) d.1).bind fun k=>
 (if(!decide (d.2=0))=true then
 some true
 else
 if(!decide (k.2=0))=true then
 some true
 else
 if(!(k.1==n.2))=true then
 some true
 else
 (qae N d.1).bind fun w=>
 some (!decide (w=0)):Option Bool).bind fun x=>
 if x=true then
 some false
 else
 (qaY N (⟨[122],c.1,[48],([(⟨[48],[49]⟩:qP)]:List qP),[]⟩:qbL) 100 n.2).bind fun e=>
 if e.2=4 then
 ((qaz N d.1 [49,48,48,48,48,48,48]).bind fun y=>
 if y>0 then
 (awk).bind fun z=>
 some z
 else
 some false:Option Bool).bind fun A=>
 some A
 else
 (if e.2=0 then
 (xK N (w64 (100*e.1))).bind fun B=>
 (qaz N d.1 B).bind fun C=>
 if C<=0 then
 (xK N (w64 ((w64 (100*e.1))-100))).bind fun D=>
 (qaz N d.1 D).bind fun E=>
 if E>0 then
 (awk).bind fun F=>
 some F
 else
 some false
 else
 some false
 else
 some false:Option Bool).bind fun G=>
 some G
theorem qe6 (N:Nat) (a:qC) (b:qC) (n:(Str×Str)) {res:Bool} (h:qaJ N a b n=some res):qb ZT (.fn 6) (kBS a.Length a.Mass a.Direct (kBS b.Length b.Mass b.Direct [.agg [.str n.1,.str n.2]])) [] (.bool res) []:=by
 unfold qaJ at h
 refine Ub Tryz.func6 rfl rfl (m:=220) rfl (rs:=[.tmp 6]) rfl (l:=(kAz a.Length a.Mass a.Direct [(1,.agg [.i b.Length,.i b.Mass,.bool b.Direct]),(2,.agg [.str n.1,.str n.2])])) rfl ?_
 refine sg fol (kX (kA6 [])) (kI a.Length a.Mass a.Direct (kI b.Length b.Mass b.Direct (kAN n.1 n.2 []))) ?_
 refine sg fol (kX (kA6 [(7,.ptr 3 0),(8,.ptr 4 0)])) (kI a.Length a.Mass a.Direct (kI b.Length b.Mass b.Direct (kAN n.1 n.2 (kI a.Length a.Mass a.Direct (kI b.Length b.Mass b.Direct []))))) ?_
 refine sq ?_
 refine sq ?_
 obtain⟨b12,d,h⟩:=bnd h
 refine Goes.cutS (s':=(ofG 220 (kX (kA6 [(58,.bool b12)])),(kI a.Length a.Mass a.Direct (kI b.Length b.Mass b.Direct (kAN n.1 n.2 []))))) ?_ ?_
 ·obtain⟨r,A,d⟩:=bnd d
  obtain⟨s,B,d⟩:=bnd d
  obtain⟨r3,C,d⟩:=bnd d
  rcases wyB d with⟨c4,d⟩|⟨c4,d⟩
  ·obtain rfl:=si d
   exact jg.sub (jg.rq fol [1,3,5,7] (kX (kA6 [(58,.bool true)])) (kI a.Length a.Mass a.Direct (kI b.Length b.Mass b.Direct (kAN n.1 n.2 (kI a.Length a.Mass a.Direct (kI b.Length b.Mass b.Direct (kAE r s)))))) (ac (cv (kg a A)) (ac (cv (kg b B)) (ac (hs (.call 13 [.slice 5 0 2 2 1] (kI a.Length a.Mass a.Direct (kI b.Length b.Mass b.Direct (kAN n.1 n.2 (kI a.Length a.Mass a.Direct (kI b.Length b.Mass b.Direct (kAE r s)))))) [5] [vl encI ([r,s]:List Int)] (.i r3)) (yN (FzL.cons (Fz.lit rfl rfl (Ud (AllST.cons tI (AllST.cons tI AllST.nil)))) FzL.nil) (xg N ([r,s]:List Int) C) tI rfl)) (ac (gw c4) az))))) (Sub.norm [] [some 0,some 1,some 2] rfl rfl (.kp (.kp (.kp (.keep (.same nB) .nil)))) (.kb rfl (.same sn) (.kb rfl (.same sn) (.kb rfl (.same sn) .nil))))
  obtain⟨r5,E,d⟩:=bnd d
  rcases wyB d with⟨c6,d⟩|⟨c6,d⟩
  ·obtain rfl:=si d
   exact jg.sub (jg.rq fol [1,3,5,7,10,13] (kX (kA6 [(58,.bool true)])) (kI a.Length a.Mass a.Direct (kI b.Length b.Mass b.Direct (kAN n.1 n.2 (kI a.Length a.Mass a.Direct (kI b.Length b.Mass b.Direct (kAE r s)))))) (ac (cv (kg a A)) (ac (cv (kg b B)) (ac (hs (.call 13 [.slice 5 0 2 2 1] (kI a.Length a.Mass a.Direct (kI b.Length b.Mass b.Direct (kAN n.1 n.2 (kI a.Length a.Mass a.Direct (kI b.Length b.Mass b.Direct (kAE r s)))))) [5] [vl encI ([r,s]:List Int)] (.i r3)) (yN (FzL.cons (Fz.lit rfl rfl (Ud (AllST.cons tI (AllST.cons tI AllST.nil)))) FzL.nil) (xg N ([r,s]:List Int) C) tI rfl)) (ac (gw c4) (ac (cv (qa1 N n.1 9 E)) (ac (gw c6) az))))))) (Sub.norm [] [some 0,some 1,some 2] rfl rfl (.kp (.kp (.kp (.keep (.same nB) .nil)))) (.kb rfl (.same sn) (.kb rfl (.same sn) (.kb rfl (.same sn) .nil))))
  obtain⟨r7,a0,d⟩:=bnd d
  rcases wyB d with⟨c8,d⟩|⟨c8,d⟩
  ·obtain rfl:=si d
   exact jg.sub (jg.rq fol [1,3,5,7,10,13,16,19] (kX (kA6 [(58,.bool true)])) (kI a.Length a.Mass a.Direct (kI b.Length b.Mass b.Direct (kAN n.1 n.2 (kI a.Length a.Mass a.Direct (kI b.Length b.Mass b.Direct (kAE r s)))))) (ac (cv (kg a A)) (ac (cv (kg b B)) (ac (hs (.call 13 [.slice 5 0 2 2 1] (kI a.Length a.Mass a.Direct (kI b.Length b.Mass b.Direct (kAN n.1 n.2 (kI a.Length a.Mass a.Direct (kI b.Length b.Mass b.Direct (kAE r s)))))) [5] [vl encI ([r,s]:List Int)] (.i r3)) (yN (FzL.cons (Fz.lit rfl rfl (Ud (AllST.cons tI (AllST.cons tI AllST.nil)))) FzL.nil) (xg N ([r,s]:List Int) C) tI rfl)) (ac (gw c4) (ac (cv (qa1 N n.1 9 E)) (ac (gw c6) (ac (cv (qa1 N n.2 9 a0)) (ac (gw c8) az))))))))) (Sub.norm [] [some 0,some 1,some 2] rfl rfl (.kp (.kp (.kp (.keep (.same nB) .nil)))) (.kb rfl (.same sn) (.kb rfl (.same sn) (.kb rfl (.same sn) .nil))))
  obtain⟨r9,e_r9,d⟩:=bnd d
  obtain⟨L,a1,d⟩:=bnd d
  obtain⟨r11,a2,d⟩:=bnd d
  obtain rfl:=si d
  exact jg.sub (jg.rq fol [1,3,5,7,10,13,16,19,22,25,27] (kX (kA6 [(58,.bool (!decide (r11=0)))])) (kI a.Length a.Mass a.Direct (kI b.Length b.Mass b.Direct (kAN n.1 n.2 (kI a.Length a.Mass a.Direct (kI b.Length b.Mass b.Direct (.cells [.i r,.i s]::(kAE r9 L))))))) (ac (cv (kg a A)) (ac (cv (kg b B)) (ac (hs (.call 13 [.slice 5 0 2 2 1] (kI a.Length a.Mass a.Direct (kI b.Length b.Mass b.Direct (kAN n.1 n.2 (kI a.Length a.Mass a.Direct (kI b.Length b.Mass b.Direct (kAE r s)))))) [5] [vl encI ([r,s]:List Int)] (.i r3)) (yN (FzL.cons (Fz.lit rfl rfl (Ud (AllST.cons tI (AllST.cons tI AllST.nil)))) FzL.nil) (xg N ([r,s]:List Int) C) tI rfl)) (ac (gw c4) (ac (cv (qa1 N n.1 9 E)) (ac (gw c6) (ac (cv (qa1 N n.2 9 a0)) (ac (gw c8) (ac (cv (xW N n.1 e_r9)) (ac (cv (xW N n.2 a1)) (ac (hs (.call 13 [.slice 6 0 2 2 1] (kI a.Length a.Mass a.Direct (kI b.Length b.Mass b.Direct (kAN n.1 n.2 (kI a.Length a.Mass a.Direct (kI b.Length b.Mass b.Direct (.cells [.i r,.i s]::(kAE r9 L))))))) [6] [vl encI ([r9,L]:List Int)] (.i r11)) (yN (FzL.cons (Fz.lit rfl rfl (Ud (AllST.cons tI (AllST.cons tI AllST.nil)))) FzL.nil) (xg N ([r9,L]:List Int) a2) tI rfl)) az)))))))))))) (Sub.norm [] [some 0,some 1,some 2] rfl rfl (.kp (.kp (.kp (.keep (.same nB) .nil)))) (.kb rfl (.same sn) (.kb rfl (.same sn) (.kb rfl (.same sn) .nil))))
 intro _ hsub
 refine Goes.sub hsub ?_
 refine ihB h (fun c14 h=>?_) (fun c14 h=>?_)
 ·obtain⟨r15,a3,h⟩:=bnd h
  refine sq (gr fol [0] (kA0 r15) (ac (cv (qlc a3)) az) ?_)
  refine Goes.ret ?_
  obtain rfl:=si h
  exact(gw2 [.bool r15] (Ua tB))
 refine Goes.skip ?_
 obtain⟨v,a4,h⟩:=bnd h
 refine sq (gr fol [4] (kX (kA6 [(9,.str v.1),(10,.i v.2)])) (ac (cv (qdJ N a b n.1 a4)) az) ?_)
 obtain⟨t,a5,h⟩:=bnd h
 refine sq (gr fol [3] ((3,.ptr 0 0)::(kA6 [(10,.i v.2),(11,.str t.1),(12,.i t.2)])) (ac (cv (qdJ N b a v.1 a5)) az) ?_)
 obtain⟨f,a6,h⟩:=bnd h
 refine sq (gr fol [3] ((3,.ptr 0 0)::(kA6 (kV v.2 t.1 t.2 f.1 f.2 []))) (ac (cv (qdR N a n.1 a6)) az) ?_)
 obtain⟨M,a7,h⟩:=bnd h
 refine sq (gr fol [2] ((3,.ptr 0 0)::(kA6 (kV v.2 t.1 t.2 f.1 f.2 [(15,.str M.1),(16,.i M.2)]))) (ac (cv (qil N a f.1 a7)) az) ?_)
 obtain⟨o,a8,h⟩:=bnd h
 refine sq (gr fol [3] ((3,.ptr 0 0)::(kA6 (kV v.2 t.1 t.2 f.1 f.2 [(15,.str M.1),(16,.i M.2),(17,.str o.1),(18,.i o.2)]))) (ac (cv (qdR N a n.2 a8)) az) ?_)
 refine sq ?_
 refine sq ?_
 obtain⟨b31,c,h⟩:=bnd h
 refine Goes.cutS (s':=(ofG 220 ((3,.ptr 0 0)::(kBL [(13,.str f.1),(17,.str o.1),(133,.bool b31)])),(kI a.Length a.Mass a.Direct (kAN n.1 n.2 [])))) ?_ ?_
 ·rcases wyB c with⟨q,c⟩|⟨q,c⟩
  ·obtain rfl:=si c
   exact jg.sub (tr fol [2] (kAG f.1 o.1) (ac (gw q) az)) (Sub.norm [] [some 0,some 2] rfl rfl (.kp (.kp (.keep (.same nS) (.keep (.same nS) (.keep (.same nB) .nil))))) (.kb rfl (.same sn) (.kb rfl (.same sn) .nil)))
  rcases wyB c with⟨u,c⟩|⟨u,c⟩
  ·obtain rfl:=si c
   exact jg.sub (tr fol [2,6] (kAG f.1 o.1) (ac (gw q) (ac (gw u) az))) (Sub.norm [] [some 0,some 2] rfl rfl (.kp (.kp (.keep (.same nS) (.keep (.same nS) (.keep (.same nB) .nil))))) (.kb rfl (.same sn) (.kb rfl (.same sn) .nil)))
  rcases wyB c with⟨w,c⟩|⟨w,c⟩
  ·obtain rfl:=si c
   exact jg.sub (tr fol [2,6,10] (kAG f.1 o.1) (ac (gw q) (ac (gw u) (ac (gw w) az)))) (Sub.norm [] [some 0,some 2] rfl rfl (.kp (.kp (.keep (.same nS) (.keep (.same nS) (.keep (.same nB) .nil))))) (.kb rfl (.same sn) (.kb rfl (.same sn) .nil)))
  rcases wyB c with⟨D,c⟩|⟨D,c⟩
  ·obtain rfl:=si c
   exact jg.sub (tr fol [2,6,10,14] (kAG f.1 o.1) (ac (gw q) (ac (gw u) (ac (gw w) (ac (gw D) az))))) (Sub.norm [] [some 0,some 2] rfl rfl (.kp (.kp (.keep (.same nS) (.keep (.same nS) (.keep (.same nB) .nil))))) (.kb rfl (.same sn) (.kb rfl (.same sn) .nil)))
  rcases wyB c with⟨F,c⟩|⟨F,c⟩
  ·obtain rfl:=si c
   exact jg.sub (tr fol [2,6,10,14,18] (kAG f.1 o.1) (ac (gw q) (ac (gw u) (ac (gw w) (ac (gw D) (ac (gw F) az)))))) (Sub.norm [] [some 0,some 2] rfl rfl (.kp (.kp (.keep (.same nS) (.keep (.same nS) (.keep (.same nB) .nil))))) (.kb rfl (.same sn) (.kb rfl (.same sn) .nil)))
  rcases wyB c with⟨O,c⟩|⟨O,c⟩
  ·obtain rfl:=si c
   exact jg.sub (tr fol [2,6,10,14,18,24] (kAG f.1 o.1) (ac (gw q) (ac (gw u) (ac (gw w) (ac (gw D) (ac (gw F) (ac (gw O) az))))))) (Sub.norm [] [some 0,some 2] rfl rfl (.kp (.kp (.keep (.same nS) (.keep (.same nS) (.keep (.same nB) .nil))))) (.kb rfl (.same sn) (.kb rfl (.same sn) .nil)))
  rcases wyB c with⟨a9,c⟩|⟨a9,c⟩
  ·obtain rfl:=si c
   exact jg.sub (tr fol [2,6,10,14,18,24,30] (kAG f.1 o.1) (ac (gw q) (ac (gw u) (ac (gw w) (ac (gw D) (ac (gw F) (ac (gw O) (ac (gw a9) az)))))))) (Sub.norm [] [some 0,some 2] rfl rfl (.kp (.kp (.keep (.same nS) (.keep (.same nS) (.keep (.same nB) .nil))))) (.kb rfl (.same sn) (.kb rfl (.same sn) .nil)))
  obtain⟨P,b0,c⟩:=bnd c
  obtain⟨U,b1,c⟩:=bnd c
  obtain⟨r30,b2,c⟩:=bnd c
  obtain rfl:=si c
  exact jg.sub (jg.rq fol [2,6,10,14,18,24,30,32,34,36] ((3,.ptr 0 0)::(kA6 [(13,.str f.1),(17,.str o.1),(133,.bool (!decide (r30=0)))])) (kI a.Length a.Mass a.Direct (kI b.Length b.Mass b.Direct (kAN n.1 n.2 (kAE P U)))) (ac (gw q) (ac (gw u) (ac (gw w) (ac (gw D) (ac (gw F) (ac (gw O) (ac (gw a9) (ac (cv (xW N f.1 b0)) (ac (cv (xW N o.1 b1)) (ac (hs (.call 13 [.slice 3 0 2 2 1] (kI a.Length a.Mass a.Direct (kI b.Length b.Mass b.Direct (kAN n.1 n.2 (kAE P U)))) [3] [vl encI ([P,U]:List Int)] (.i r30)) (yN (FzL.cons (Fz.lit rfl rfl (Ud (AllST.cons tI (AllST.cons tI AllST.nil)))) FzL.nil) (xg N ([P,U]:List Int) b2) tI rfl)) az))))))))))) (Sub.norm [] [some 0,some 2] rfl rfl (.kp (.kp (.keep (.same nS) (.keep (.same nS) (.keep (.same nB) .nil))))) (.kb rfl (.same sn) (.kb rfl (.same sn) .nil)))
 intro _ hsub
 refine Goes.sub hsub ?_
 refine ihB h (fun c33 h=>?_) (fun c33 h=>?_)
 ·refine sh fol kAR ?_
  refine Goes.ret ?_
  obtain rfl:=si h
  exact(gw2 [.bool false] (Ua tB))
 refine Goes.skip ?_
 obtain⟨b3,b4,h⟩:=bnd h
 refine sq (gr fol [4] ((3,.ptr 0 0)::(kBL [(13,.str f.1),(17,.str o.1),(19,.i b3)])) (ac (cv (vN N n.1 n.2 b4)) az) ?_)
 refine sq ?_
 refine sh fol (kBL [(13,.str f.1),(17,.str o.1),(19,.i b3),(141,.bool (!a.Direct))]) ?_
 obtain⟨r36,g36,h⟩:=bnd h
 refine Goes.imp (Q:=fun x s'=>(x= .normal/\ ∃V,V=r36/\Sub s' (ofG 220 [(5,.ptr 0 0),(13,.str f.1),(17,.str o.1),(19,.i V)],(kAN n.1 n.2 [])))) ?_ ?_
 ·refine ihB g36 (fun c37 g36=>?_) (fun c37 g36=>?_)
  ·refine gh fol (kBL [(13,.str f.1),(17,.str o.1),(19,.i (w64 (0-b3)))]) ?_
   obtain rfl:=si g36
   exact⟨rfl,_,rfl,(Sub.norm [] [some 1] rfl rfl (.kp (.keep (.same nS) (.keep (.same nS) (.keep (.same nI) .nil)))) (.kb rfl (.same sn) .nil))⟩
  refine Goes.skip ?_
  obtain rfl:=si g36
  exact⟨rfl,_,rfl,(Sub.norm [] [some 1] rfl rfl (.kp (.keep (.same nS) (.keep (.same nS) (.keep (.same nI) .nil)))) (.kb rfl (.same sn) .nil))⟩
 rintro x s' ⟨rfl,V,rfl,hsub⟩
 refine Goes.sub hsub ?_
 refine sq ?_
 obtain⟨r38,b5,h⟩:=bnd h
 refine sq (gr fol [2] [(5,.ptr 0 0),(13,.str f.1),(148,.bool (!decide (r38=V)))] (ac (cv (vN N f.1 o.1 b5)) az) ?_)
 refine ihB h (fun c39 h=>?_) (fun c39 h=>?_)
 ·refine sh fol kAR ?_
  refine Goes.ret ?_
  obtain rfl:=si h
  exact(gw2 [.bool false] (Ua tB))
 refine Goes.skip ?_
 refine sg fol [(5,.ptr 0 0),(20,.ptr 2 0)] (kT n.1 n.2 f.1) ?_
 obtain⟨j,b6,h⟩:=bnd h
 refine sq (gr fol [3] (kAk j.1 [(22,.i j.2)]) (ac (hs (.call 28 (kBV f.1 [.str n.2]) (kT n.1 n.2 f.1) [1] [.agg [.str [122],.str f.1,.str [48],vl qz ([(⟨[48],[49]⟩:qP)]:List qP),.str []],.str n.2] (.tuple [.str j.1,.i j.2])) (yN (FzL.cons (Fz.agg (FzL.cons (Ue tS) (FzL.cons (Ue tS) (FzL.cons (Ue tS) (FzL.cons (Fz.lit rfl rfl (Ud (AllST.cons tS (AllST.cons tS AllST.nil)))) (FzL.cons (Ue tS) FzL.nil)))))) (FzL.cons (Ue tS) FzL.nil)) (qjx N (⟨[122],f.1,[48],([(⟨[48],[49]⟩:qP)]:List qP),[]⟩:qbL) n.2 b6) (Still.tuple (AllST.cons tS (AllST.cons tI AllST.nil))) rfl)) az) ?_)
 obtain⟨X,b7,h⟩:=bnd h
 refine sq (gr fol [2] (kAk j.1 [(22,.i j.2),(23,.str X.1),(24,.i X.2)]) (ac (hs (.call 29 (kBV f.1 [.str j.1]) (kT n.1 n.2 f.1) [1] [.agg [.str [122],.str f.1,.str [48],vl qz ([(⟨[48],[49]⟩:qP)]:List qP),.str []],.str j.1] (.tuple [.str X.1,.i X.2])) (yN (FzL.cons (Fz.agg (FzL.cons (Ue tS) (FzL.cons (Ue tS) (FzL.cons (Ue tS) (FzL.cons (Fz.lit rfl rfl (Ud (AllST.cons tS (AllST.cons tS AllST.nil)))) (FzL.cons (Ue tS) FzL.nil)))))) (FzL.cons (Ue tS) FzL.nil)) (qhL N (⟨[122],f.1,[48],([(⟨[48],[49]⟩:qP)]:List qP),[]⟩:qbL) j.1 b7) (Still.tuple (AllST.cons tS (AllST.cons tI AllST.nil))) rfl)) az) ?_)
 refine sq ?_
 refine sq ?_
 obtain⟨b46,g,h⟩:=bnd h
 refine Goes.cut (s':=(ofG 220 (kAk j.1 [(182,.bool b46)]),(kT n.1 n.2 f.1))) ?_ ?_
 ·rcases wyB g with⟨G,g⟩|⟨G,g⟩
  ·obtain rfl:=si g
   exact tr fol [2] (kAk j.1 [(182,.bool true)]) (ac (gw G) az)
  rcases wyB g with⟨Y,g⟩|⟨Y,g⟩
  ·obtain rfl:=si g
   exact tr fol [2,6] (kAk j.1 [(182,.bool true)]) (ac (gw G) (ac (gw Y) az))
  rcases wyB g with⟨b8,g⟩|⟨b8,g⟩
  ·obtain rfl:=si g
   exact tr fol [2,6,12] (kAk j.1 [(182,.bool true)]) (ac (gw G) (ac (gw Y) (ac (gw b8) az)))
  obtain⟨r45,b9,g⟩:=bnd g
  obtain rfl:=si g
  exact tr fol [2,6,12,14] (kAk j.1 [(182,.bool (!decide (r45=0)))]) (ac (gw G) (ac (gw Y) (ac (gw b8) (ac (cv (qff N j.1 b9)) az))))
 refine ihB h (fun c48 h=>?_) (fun c48 h=>?_)
 ·refine sh fol kAR ?_
  refine Goes.ret ?_
  obtain rfl:=si h
  exact(gw2 [.bool false] (Ua tB))
 refine Goes.skip ?_
 obtain⟨p,c0,h⟩:=bnd h
 refine sq (gr fol [3] [(21,.str j.1),(25,.i p.1),(26,.i p.2)] (ac (hs (.call 30 (kBV f.1 [.i 100,.str n.2]) (kT n.1 n.2 f.1) [1] [.agg [.str [122],.str f.1,.str [48],vl qz ([(⟨[48],[49]⟩:qP)]:List qP),.str []],.i 100,.str n.2] (.tuple [.i p.1,.i p.2])) (yN (FzL.cons (Fz.agg (FzL.cons (Ue tS) (FzL.cons (Ue tS) (FzL.cons (Ue tS) (FzL.cons (Fz.lit rfl rfl (Ud (AllST.cons tS (AllST.cons tS AllST.nil)))) (FzL.cons (Ue tS) FzL.nil)))))) (FzL.cons (Ue tI) (FzL.cons (Ue tS) FzL.nil))) (qgq N (⟨[122],f.1,[48],([(⟨[48],[49]⟩:qP)]:List qP),[]⟩:qbL) 100 n.2 c0) (Still.tuple (AllST.cons tI (AllST.cons tI AllST.nil))) rfl)) az) ?_)
 refine sq ?_
 refine sh fol [(21,.str j.1),(25,.i p.1),(26,.i p.2),(191,.bool (decide (p.2=4)))] ?_
 refine ihD h (fun c50 h=>?_) (fun c50 h=>?_)
 ·refine sq ?_
  obtain⟨b54,k,h⟩:=bnd h
  refine Goes.cut (s':=(ofG 220 (kA0 b54),(kT n.1 n.2 f.1))) ?_ ?_
  ·obtain⟨r51,H,k⟩:=bnd k
   rcases wyD k with⟨c1,k⟩|⟨c1,k⟩
   ·obtain⟨r53,c2,k⟩:=bnd k
    obtain rfl:=si k
    exact tr fol [1,3,4] (kA0 r53) (ac (cv (vN N j.1 [49,48,48,48,48,48,48] H)) (ac (gw c1) (ac (cv (qlc c2)) az)))
   obtain rfl:=si k
   exact tr fol [1,3] kAR (ac (cv (vN N j.1 [49,48,48,48,48,48,48] H)) (ac (gw c1) az))
  refine Goes.ret ?_
  obtain rfl:=si h
  exact(gw2 [.bool b54] (Ua tB))
 refine Goes.skip ?_
 refine sq ?_
 obtain⟨b64,e,h⟩:=bnd h
 refine Goes.cut (s':=(ofG 220 (kA0 b64),(kT n.1 n.2 f.1))) ?_ ?_
 ·rcases wyD e with⟨I,e⟩|⟨I,e⟩
  ·obtain⟨c3,y,e⟩:=bnd e
   obtain⟨r58,z,e⟩:=bnd e
   rcases wyD e with⟨Z,e⟩|⟨Z,e⟩
   ·obtain⟨r60,J,e⟩:=bnd e
    obtain⟨r61,K,e⟩:=bnd e
    rcases wyD e with⟨c5,e⟩|⟨c5,e⟩
    ·obtain⟨r63,c7,e⟩:=bnd e
     obtain rfl:=si e
     exact tr fol [2,6,7,10,15,16,19,20] (kA0 r63) (ac (gw I) (ac (cv (yU N (w64 (100*p.1)) y)) (ac (cv (vN N j.1 c3 z)) (ac (gw Z) (ac (cv (yU N (w64 ((w64 (100*p.1))-100)) J)) (ac (cv (vN N j.1 r60 K)) (ac (gw c5) (ac (cv (qlc c7)) az))))))))
    obtain rfl:=si e
    exact tr fol [2,6,7,10,15,16,19] kAR (ac (gw I) (ac (cv (yU N (w64 (100*p.1)) y)) (ac (cv (vN N j.1 c3 z)) (ac (gw Z) (ac (cv (yU N (w64 ((w64 (100*p.1))-100)) J)) (ac (cv (vN N j.1 r60 K)) (ac (gw c5) az)))))))
   obtain rfl:=si e
   exact tr fol [2,6,7,10] kAR (ac (gw I) (ac (cv (yU N (w64 (100*p.1)) y)) (ac (cv (vN N j.1 c3 z)) (ac (gw Z) az))))
  obtain rfl:=si e
  exact tr fol [2] kAR (ac (gw I) az)
 refine Goes.ret ?_
 obtain rfl:=si h
 exact(gw2 [.bool b64] (Ua tB))
end Go.Av
