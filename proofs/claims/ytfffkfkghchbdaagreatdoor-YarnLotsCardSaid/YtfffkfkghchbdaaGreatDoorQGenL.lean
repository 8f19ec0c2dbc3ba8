/-
  The walk of the law.
-/
import Derived.Test.YtfffkfkghchbdaaGreatDoorQGenL2
import Derived.Test.YtfffkfkghchbdaaGreatDoorAvAwkL
noncomputable section
namespace Go.Av
open Go.Proofs Go.RowKit
set_option linter.unusedSectionVars false
set_option linter.unusedVariables false
set_option linter.unusedSimpArgs false
set_option maxRecDepth 100000
def awk:Option Bool:=some true
theorem qha {res:Bool} (h:awk=some res):qd ZT (.fn 7) [] [] (.bool res) []:=by
 obtain rfl:=si h
 exact qiU
def vY (N:Nat) (o:StateT) (lot:Str) (a:qfo):Option Bool:=
 (vR N o).bind fun f=>
 ((jJ N f 20).bind fun C=>
 if(!C)=true then
 some true
 else
 if(lot.length:Int)>60 then
 some true
 else
 if(a.Yarn.length:Int)>60 then
 some true
 else
 some (decide ((a.Dye.length:Int)>60)):Option Bool).bind fun D=>
 if D=true then
 (awk).bind fun E=>
 some E
 else
 (xK N o lot).bind fun g=>
 (yZ N o a.Yarn a.Dye).bind fun c=>
 (yU N o a.Yarn a.Dye a.Amount).bind fun h=>
 (jI N f).bind fun d=>
 (jQ N a).bind fun p=>
 (z8 N ([d,p]:List Int)).bind fun b=>
 (if a.Amount<0 then
 (zP true 3).bind fun i=>
 (z8 N ([b,i]:List Int)).bind fun q=>
 some (i,q)
 else
 (zP (decide (a.Amount>999999999)) 3).bind fun j=>
 (z8 N ([b,j]:List Int)).bind fun r=>
 some (j,r):Option (Int×Int)).bind fun(F,k)=>
 ((if d=0 then
 (qE N f lot).bind fun e=>
 (zP (decide (e<0)) 10).bind fun l=>
 if e>=0 then
 (qO N f e).bind fun s=>
 some (l,s)
 else
 some (l,0)
 else
 some (d,0):Option (Int×Int))).bind fun(t,u)=>
 ((if b=0 then
 (yE N f a.Yarn a.Dye).bind fun m=>
 some (m.1,m.2)
 else
 some (0,0):Option (Int×Int))).bind fun(v,w)=>
 ((if k=0 then
 (yI N f a.Yarn a.Dye a.Amount).bind fun n=>
 some (n.2,n.1)
 else
 some (k,[]):Option (Int×(List Int)))).bind fun(x,y)=>
 (if g.2=t then
 if g.1=u then
 if c.2.2=b then
 if c.1=v then
 if c.2.1=w then
 if h.2=x then
 (vo N h.1 y).bind fun z=>
 if z=true then
 (awk).bind fun A=>
 some A
 else
 some false
 else
 some false
 else
 some false
 else
 some false
 else
 some false
 else
 some false
 else
 some false:Option Bool).bind fun B=>
 some B
theorem qbB (N:Nat) (n:StateT) (lot:Str) (a:qfo) {res:Bool} (h:vY N n lot a=some res):qd ZT (.fn 3) (kT n.Day n.Lots n.Holds [.str lot,.agg [.str a.Yarn,.str a.Dye,.i a.Amount]]) [] (.bool res) []:=by
 unfold vY at h
 refine Ub Tryz.func3 rfl rfl (m:=167) rfl (rs:=[.tmp 6]) rfl (l:=(kL n.Day n.Lots n.Holds (kAQ lot [(2,.agg [.str a.Yarn,.str a.Dye,.i a.Amount])]))) rfl ?_
 refine sg fol (kAN lot [(5,.ptr 1 0)]) (kA n.Day n.Lots n.Holds (kAJ a.Yarn a.Dye a.Amount [])) ?_
 obtain⟨k,a8,h⟩:=bnd h
 refine sq (gq fol [1] (kAN lot (kN [])) (kA n.Day n.Lots n.Holds (kAJ a.Yarn a.Dye a.Amount (kA k.Day k.Lots k.Holds []))) (ac (cv (qcI N n a8)) az) ?_)
 refine sq ?_
 refine sq ?_
 obtain⟨b6,j,h⟩:=bnd h
 refine Goes.cut (s':=(ofG 167 (kAN lot (kN [(45,.bool b6)])),(kA n.Day n.Lots n.Holds (kAJ a.Yarn a.Dye a.Amount (kA k.Day k.Lots k.Holds []))))) ?_ ?_
 ·obtain⟨r2,w,j⟩:=bnd j
  rcases wyB j with⟨c3,j⟩|⟨c3,j⟩
  ·obtain rfl:=si j
   exact tr fol [1,3] (kAN lot (kN [(45,.bool true)])) (ac (cv (jH N k 20 w)) (ac (gw c3) az))
  rcases wyD j with⟨c4,j⟩|⟨c4,j⟩
  ·obtain rfl:=si j
   exact tr fol [1,3,8] (kAN lot (kN [(45,.bool true)])) (ac (cv (jH N k 20 w)) (ac (gw c3) (ac (gw c4) az)))
  rcases wyD j with⟨c5,j⟩|⟨c5,j⟩
  ·obtain rfl:=si j
   exact tr fol [1,3,8,14] (kAN lot (kN [(45,.bool true)])) (ac (cv (jH N k 20 w)) (ac (gw c3) (ac (gw c4) (ac (gw c5) az))))
  obtain rfl:=si j
  exact tr fol [1,3,8,14] (kAN lot (kN [(45,.bool (decide ((a.Dye.length:Int)>60)))])) (ac (cv (jH N k 20 w)) (ac (gw c3) (ac (gw c4) (ac (gw c5) az))))
 refine ihB h (fun c8 h=>?_) (fun c8 h=>?_)
 ·obtain⟨r9,e_r9,h⟩:=bnd h
  refine sq (gr fol [0] [(6,.bool r9)] (ac (cv (qha e_r9)) az) ?_)
  refine Goes.ret ?_
  obtain rfl:=si h
  exact(gw2 [.bool r9] (Ua tB))
 refine Goes.skip ?_
 obtain⟨d,I,h⟩:=bnd h
 refine sq (gr fol [2] (kAN lot (kN [(8,.i d.1),(9,.i d.2)])) (ac (cv (qdE N n lot I)) az) ?_)
 obtain⟨c,J,h⟩:=bnd h
 refine sq (gr fol [5] (kAN lot (kN (kQ d.1 d.2 c.1 [(11,.i c.2.1),(12,.i c.2.2)]))) (ac (cv (qc9 N n a.Yarn a.Dye J)) az) ?_)
 obtain⟨e,K,h⟩:=bnd h
 refine sq (gr fol [7] (kAQ lot (kN (kQ d.1 d.2 c.1 [(11,.i c.2.1),(12,.i c.2.2),(13,vl encI e.1),(14,.i e.2)]))) (ac (cv (qcX N n a.Yarn a.Dye a.Amount K)) az) ?_)
 obtain⟨o,L,h⟩:=bnd h
 refine sq (gr fol [1] (kAQ lot (kN (kQ d.1 d.2 c.1 [(11,.i c.2.1),(12,.i c.2.2),(13,vl encI e.1),(14,.i e.2),(15,.i o)]))) (ac (cv (qaT N k L)) az) ?_)
 obtain⟨q,M,h⟩:=bnd h
 obtain⟨g,O,h⟩:=bnd h
 refine sq (gq fol [3,5] (kAQ lot (kN (kC d.1 d.2 c.1 c.2.1 c.2.2 e.1 e.2 o g []))) (kA n.Day n.Lots n.Holds (kAJ a.Yarn a.Dye a.Amount (kA k.Day k.Lots k.Holds (kX o q)))) (ac (cv (qa7 N a M)) (ac (hs (.call 12 [.slice 3 0 2 2 1] (kA n.Day n.Lots n.Holds (kAJ a.Yarn a.Dye a.Amount (kA k.Day k.Lots k.Holds (kX o q)))) [3] [vl encI ([o,q]:List Int)] (.i g)) (j3 (FzL.cons (Fz.lit rfl rfl (Ue (AllST.cons tI (AllST.cons tI AllST.nil)))) FzL.nil) (yY N ([o,q]:List Int) O) tI rfl)) az)) ?_)
 refine sq ?_
 obtain⟨⟨n21,p⟩,f,h⟩:=bnd h
 refine Goes.cut (s':=(ofG 167 (kAQ lot (kN (kC d.1 d.2 c.1 c.2.1 c.2.2 e.1 e.2 o g [(18,.i p)]))),(kA n.Day n.Lots n.Holds (kAJ a.Yarn a.Dye a.Amount (kA k.Day k.Lots k.Holds (.cells [.i o,.i q]::(kX g n21))))))) ?_ ?_
 ·rcases wyD f with⟨P,f⟩|⟨P,f⟩
  ·obtain⟨F,U,f⟩:=bnd f
   obtain⟨r18,V,f⟩:=bnd f
   simp only[ZI,ZP]at f
   obtain⟨rfl,rfl⟩:=f
   exact vw.rq fol [4,9,11] (kAQ lot (kN (kC d.1 d.2 c.1 c.2.1 c.2.2 e.1 e.2 o g [(18,.i r18)]))) (kA n.Day n.Lots n.Holds (kAJ a.Yarn a.Dye a.Amount (kA k.Day k.Lots k.Holds (.cells [.i o,.i q]::(kX g F))))) (ac (gw P) (ac (cv (vH true 3 U)) (ac (hs (.call 12 [.slice 4 0 2 2 1] (kA n.Day n.Lots n.Holds (kAJ a.Yarn a.Dye a.Amount (kA k.Day k.Lots k.Holds (.cells [.i o,.i q]::(kX g F))))) [4] [vl encI ([g,F]:List Int)] (.i r18)) (j3 (FzL.cons (Fz.lit rfl rfl (Ue (AllST.cons tI (AllST.cons tI AllST.nil)))) FzL.nil) (yY N ([g,F]:List Int) V) tI rfl)) az)))
  obtain⟨G,X,f⟩:=bnd f
  obtain⟨r20,Y,f⟩:=bnd f
  simp only[ZI,ZP]at f
  obtain⟨rfl,rfl⟩:=f
  exact vw.rq fol [4,9,11] (kAQ lot (kN (kC d.1 d.2 c.1 c.2.1 c.2.2 e.1 e.2 o g [(18,.i r20)]))) (kA n.Day n.Lots n.Holds (kAJ a.Yarn a.Dye a.Amount (kA k.Day k.Lots k.Holds (.cells [.i o,.i q]::(kX g G))))) (ac (gw P) (ac (cv (vH (decide (a.Amount>999999999)) 3 X)) (ac (hs (.call 12 [.slice 4 0 2 2 1] (kA n.Day n.Lots n.Holds (kAJ a.Yarn a.Dye a.Amount (kA k.Day k.Lots k.Holds (.cells [.i o,.i q]::(kX g G))))) [4] [vl encI ([g,G]:List Int)] (.i r20)) (j3 (FzL.cons (Fz.lit rfl rfl (Ue (AllST.cons tI (AllST.cons tI AllST.nil)))) FzL.nil) (yY N ([g,G]:List Int) Y) tI rfl)) az)))
 try dsimp only at h
 refine sh fol (kAQ lot (kN (kC d.1 d.2 c.1 c.2.1 c.2.2 e.1 e.2 o g [(18,.i p),(19,.i 0),(20,.i 0),(21,.i 0)]))) ?_
 refine sh fol (kAQ lot (kN (kC d.1 d.2 c.1 c.2.1 c.2.2 e.1 e.2 o g ((18,.i p)::(19,.i 0)::(kZ []))))) ?_
 refine sq ?_
 refine sh fol (kAQ lot (kN (kC d.1 d.2 c.1 c.2.1 c.2.2 e.1 e.2 o g ((18,.i p)::(19,.i 0)::(kZ [(95,.bool (decide (o=0)))]))))) ?_
 obtain⟨r26,g26,h⟩:=bnd h
 refine Goes.imp (Q:=fun x s'=>(x= .normal/\ ∃r s,(r,s)=r26/\Sub s' (ofG 167 (kAW (kC d.1 d.2 c.1 c.2.1 c.2.2 e.1 e.2 r g ((18,.i p)::(19,.i s)::(kZ [])))),(kAJ a.Yarn a.Dye a.Amount (kA k.Day k.Lots k.Holds []))))) ?_ ?_
 ·refine ihD g26 (fun c27 g26=>?_) (fun c27 g26=>?_)
  ·obtain⟨y,Z,g26⟩:=bnd g26
   refine sq (gr fol [2] (kN (kQ d.1 d.2 c.1 ((11,.i c.2.1)::(12,.i c.2.2)::(13,vl encI e.1)::(14,.i e.2)::(17,.i g)::(18,.i p)::(19,.i 0)::(kZ [(23,.i y)])))) (ac (cv (yH N k lot Z)) az) ?_)
   obtain⟨a0,a1,g26⟩:=bnd g26
   refine sq (gr fol [2] (kN (kC d.1 d.2 c.1 c.2.1 c.2.2 e.1 e.2 a0 g ((18,.i p)::(19,.i 0)::(kZ [(23,.i y)])))) (ac (cv (vH (decide (y<0)) 10 a1)) az) ?_)
   refine sh fol (kN (kC d.1 d.2 c.1 c.2.1 c.2.2 e.1 e.2 a0 g ((18,.i p)::(19,.i 0)::(kZ [(23,.i y),(103,.bool (decide (y>=0)))])))) ?_
   refine ihD g26 (fun c30 g26=>?_) (fun c30 g26=>?_)
   ·obtain⟨r31,a2,g26⟩:=bnd g26
    refine gr fol [2] (kN (kC d.1 d.2 c.1 c.2.1 c.2.2 e.1 e.2 a0 g ((18,.i p)::(19,.i r31)::(kZ [])))) (ac (cv (zV N k y a2)) az) ?_
    obtain rfl:=si g26
    exact⟨rfl,_,_,rfl,(Sub.norm [] [some 1,some 2] rfl rfl (.kp (.kp (.keep (.same nI) (.keep (.same nI) (.keep (.same nI) (.keep (.same nI) (.keep (.same nI) (.keep (.same (qf encI _)) (.keep (.same nI) (.keep (.same nI) (.keep (.same nI) (.keep (.same nI) (.keep (.same nI) (.keep (.same nI) (.keep (.same nI) (.keep (.same (ql.nilslice)) .nil)))))))))))))))) (.kb rfl (.same sn) (.kb rfl (.same sn) .nil)))⟩
   refine Goes.skip ?_
   obtain rfl:=si g26
   exact⟨rfl,_,_,rfl,(Sub.norm [] [some 1,some 2] rfl rfl (.kp (.kp (.keep (.same nI) (.keep (.same nI) (.keep (.same nI) (.keep (.same nI) (.keep (.same nI) (.keep (.same (qf encI _)) (.keep (.same nI) (.keep (.same nI) (.keep (.same nI) (.keep (.same nI) (.keep (.same nI) (.keep (.same nI) (.keep (.same nI) (.keep (.same (ql.nilslice)) .nil)))))))))))))))) (.kb rfl (.same sn) (.kb rfl (.same sn) .nil)))⟩
  refine Goes.skip ?_
  obtain rfl:=si g26
  exact⟨rfl,_,_,rfl,(Sub.norm [] [some 1,some 2] rfl rfl (.drop (.kp (.kp (.keep (.same nI) (.keep (.same nI) (.keep (.same nI) (.keep (.same nI) (.keep (.same nI) (.keep (.same (qf encI _)) (.keep (.same nI) (.keep (.same nI) (.keep (.same nI) (.keep (.same nI) (.keep (.same nI) (.keep (.same nI) (.keep (.same nI) (.keep (.same (ql.nilslice)) .nil))))))))))))))))) (.kb rfl (.same sn) (.kb rfl (.same sn) .nil)))⟩
 rintro x s' ⟨rfl,r,s,rfl,hsub⟩
 try dsimp only at h
 refine Goes.sub hsub ?_
 refine sq ?_
 refine sh fol (kAW (kC d.1 d.2 c.1 c.2.1 c.2.2 e.1 e.2 r g ((18,.i p)::(19,.i s)::(kZ [(108,.bool (decide (g=0)))])))) ?_
 obtain⟨r34,g34,h⟩:=bnd h
 refine Goes.imp (Q:=fun x s'=>(x= .normal/\ ∃z A,(z,A)=r34/\Sub s' (ofG 167 (kAW (kC d.1 d.2 c.1 c.2.1 c.2.2 e.1 e.2 r g [(18,.i p),(19,.i s),(20,.i z),(21,.i A),(22,.nilslice)])),(kAJ a.Yarn a.Dye a.Amount (kA k.Day k.Lots k.Holds []))))) ?_ ?_
 ·refine ihD g34 (fun c35 g34=>?_) (fun c35 g34=>?_)
  ·obtain⟨r36,a3,g34⟩:=bnd g34
   refine gr fol [5] (kAW (kC d.1 d.2 c.1 c.2.1 c.2.2 e.1 e.2 r g [(18,.i p),(19,.i s),(20,.i r36.1),(21,.i r36.2),(22,.nilslice)])) (ac (cv (qcl N k a.Yarn a.Dye a3)) az) ?_
   obtain rfl:=si g34
   exact⟨rfl,_,_,rfl,(Sub.refl _)⟩
  refine Goes.skip ?_
  obtain rfl:=si g34
  exact⟨rfl,_,_,rfl,(Sub.keep [5,7,8,9,10,11,12,13,14,16,17,18,19,20,21,22] rfl rfl)⟩
 rintro x s' ⟨rfl,z,A,rfl,hsub⟩
 try dsimp only at h
 refine Goes.sub hsub ?_
 refine sq ?_
 refine sh fol (kAW (kC d.1 d.2 c.1 c.2.1 c.2.2 e.1 e.2 r g [(18,.i p),(19,.i s),(20,.i z),(21,.i A),(22,.nilslice),(119,.bool (decide (p=0)))])) ?_
 obtain⟨r39,g39,h⟩:=bnd h
 refine Goes.imp (Q:=fun x s'=>(x= .normal/\ ∃a4 C,(a4,C)=r39/\Sub s' (ofG 167 (kC d.1 d.2 c.1 c.2.1 c.2.2 e.1 e.2 r g [(18,.i a4),(19,.i s),(20,.i z),(21,.i A),(22,vl encI C)]),[]))) ?_ ?_
 ·refine ihD g39 (fun c40 g39=>?_) (fun c40 g39=>?_)
  ·obtain⟨r41,a5,g39⟩:=bnd g39
   refine gr fol [7] (kC d.1 d.2 c.1 c.2.1 c.2.2 e.1 e.2 r g [(18,.i r41.2),(19,.i s),(20,.i z),(21,.i A),(22,vl encI r41.1)]) (ac (cv (qch N k a.Yarn a.Dye a.Amount a5)) az) ?_
   obtain rfl:=si g39
   exact⟨rfl,_,_,rfl,(Sub.norm [] [] rfl rfl (.keep (.same nI) (.keep (.same nI) (.keep (.same nI) (.keep (.same nI) (.keep (.same nI) (.keep (.same (qf encI _)) (.keep (.same nI) (.keep (.same nI) (.keep (.same nI) (.keep (.same nI) (.keep (.same nI) (.keep (.same nI) (.keep (.same nI) (.keep (.same (qf encI _)) .nil)))))))))))))) .nil)⟩
  refine Goes.skip ?_
  obtain rfl:=si g39
  exact⟨rfl,_,_,rfl,(Sub.norm [] [] rfl rfl (.drop (.drop (.keep (.same nI) (.keep (.same nI) (.keep (.same nI) (.keep (.same nI) (.keep (.same nI) (.keep (.same (qf encI _)) (.keep (.same nI) (.keep (.same nI) (.keep (.same nI) (.keep (.same nI) (.keep (.same nI) (.keep (.same nI) (.keep (.same nI) (.keep .nilv .nil)))))))))))))))) .nil)⟩
 rintro x s' ⟨rfl,a4,C,rfl,hsub⟩
 try dsimp only at h
 refine Goes.sub hsub ?_
 refine sq ?_
 obtain⟨b51,b,h⟩:=bnd h
 refine Goes.cut (s':=(ofG 167 [(6,.bool b51)],[])) ?_ ?_
 ·rcases wyD b with⟨t,b⟩|⟨t,b⟩
  ·rcases wyD b with⟨u,b⟩|⟨u,b⟩
   ·rcases wyD b with⟨v,b⟩|⟨v,b⟩
    ·rcases wyD b with⟨B,b⟩|⟨B,b⟩
     ·rcases wyD b with⟨D,b⟩|⟨D,b⟩
      ·rcases wyD b with⟨H,b⟩|⟨H,b⟩
       ·obtain⟨r48,E,b⟩:=bnd b
        rcases wyB b with⟨a6,b⟩|⟨a6,b⟩
        ·obtain⟨r50,a7,b⟩:=bnd b
         obtain rfl:=si b
         exact tr fol [3,8,13,18,23,28,31,33,34] [(6,.bool r50)] (ac (gw t) (ac (gw u) (ac (gw v) (ac (gw B) (ac (gw D) (ac (gw H) (ac (cv (xw N e.1 C E)) (ac (gw a6) (ac (cv (qha a7)) az)))))))))
        obtain rfl:=si b
        exact tr fol [3,8,13,18,23,28,31,33] kAY (ac (gw t) (ac (gw u) (ac (gw v) (ac (gw B) (ac (gw D) (ac (gw H) (ac (cv (xw N e.1 C E)) (ac (gw a6) az))))))))
       obtain rfl:=si b
       exact tr fol [3,8,13,18,23,28] kAY (ac (gw t) (ac (gw u) (ac (gw v) (ac (gw B) (ac (gw D) (ac (gw H) az))))))
      obtain rfl:=si b
      exact tr fol [3,8,13,18,23] kAY (ac (gw t) (ac (gw u) (ac (gw v) (ac (gw B) (ac (gw D) az)))))
     obtain rfl:=si b
     exact tr fol [3,8,13,18] kAY (ac (gw t) (ac (gw u) (ac (gw v) (ac (gw B) az))))
    obtain rfl:=si b
    exact tr fol [3,8,13] kAY (ac (gw t) (ac (gw u) (ac (gw v) az)))
   obtain rfl:=si b
   exact tr fol [3,8] kAY (ac (gw t) (ac (gw u) az))
  obtain rfl:=si b
  exact tr fol [3] kAY (ac (gw t) az)
 refine Goes.ret ?_
 obtain rfl:=si h
 exact(gw2 [.bool b51] (Ua tB))
end Go.Av
