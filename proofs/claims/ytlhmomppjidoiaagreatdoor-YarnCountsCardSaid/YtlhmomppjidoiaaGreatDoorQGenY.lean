/-
  The walk of the law.
-/
import Derived.Test.YtlhmomppjidoiaaGreatDoorQGenY4
import Derived.Test.YtlhmomppjidoiaaGreatDoorAvAwkY
noncomputable section
namespace Go.Av
open Go.Proofs Go.RowKit
set_option linter.unusedSectionVars false
set_option linter.unusedVariables false
set_option linter.unusedSimpArgs false
set_option maxRecDepth 100000
def awk:Option Bool:=some true
theorem qmS {res:Bool} (h:awk=some res):qb ZT (.fn 8) [] [] (.bool res) []:=by
 obtain rfl:=si h
 exact qoX
def xD (N:Nat) (a:qz) (b:qz) (n:Str):Option Bool:=
 if(n.length:Int)>60 then
 (awk).bind fun y=>
 some y
 else
 (yM N a n).bind fun v=>
 (xZ N a n).bind fun w=>
 (yL N a b n).bind fun x=>
 (zD a).bind fun z=>
 (yo N n).bind fun A=>
 (jZ N ([z,A]:List Int)).bind fun g=>
 (zD a).bind fun B=>
 (zD b).bind fun h=>
 (yo N n).bind fun i=>
 (jZ N ([B,h,i]:List Int)).bind fun c=>
 ((if g=0 then
 (yT N a n).bind fun j=>
 (qag N a n).bind fun k=>
 some (j,k)
 else
 some ([],[]):Option (Str×Str))).bind fun(l,m)=>
 ((if c=0 then
 (yT N a n).bind fun o=>
 (qag N b o).bind fun p=>
 some p
 else
 some []:Option Str)).bind fun q=>
 (yP N l g).bind fun d=>
 (yP N m g).bind fun e=>
 (yP N q c).bind fun f=>
 ((zu N a).bind fun r=>
 (zD a).bind fun s=>
 if r=s then
 if v.2=d.2 then
 if(v.1==d.1)=true then
 if w.2=e.2 then
 if(w.1==e.1)=true then
 if x.2=f.2 then
 if(x.1==f.1)=true then
 (awk).bind fun t=>
 some t
 else
 some false
 else
 some false
 else
 some false
 else
 some false
 else
 some false
 else
 some false
 else
 some false:Option Bool).bind fun u=>
 some u
theorem qdO (N:Nat) (a:qz) (b:qz) (n:Str) {res:Bool} (h:xD N a b n=some res):qb ZT (.fn 4) (kBS a.Length a.Mass a.Direct (kBS b.Length b.Mass b.Direct [.str n])) [] (.bool res) []:=by
 unfold xD at h
 refine Ub Tryz.func4 rfl rfl (m:=132) rfl (rs:=[.tmp 6]) rfl (l:=(kAz a.Length a.Mass a.Direct ((1,.agg [.i b.Length,.i b.Mass,.bool b.Direct])::(kBH n)))) rfl ?_
 refine sg fol ((2,.str n)::(kX [])) (kI a.Length a.Mass a.Direct (kI b.Length b.Mass b.Direct [])) ?_
 refine sq ?_
 refine sh fol ((2,.str n)::(kX [(24,.bool (decide ((n.length:Int)>60)))])) ?_
 refine ihD h (fun c1 h=>?_) (fun c1 h=>?_)
 ·obtain⟨r2,U,h⟩:=bnd h
  refine sq (gr fol [0] (kA0 r2) (ac (cv (qmS U)) az) ?_)
  refine Goes.ret ?_
  obtain rfl:=si h
  exact(gw2 [.bool r2] (Ua tB))
 refine Goes.skip ?_
 refine sg fol ((2,.str n)::(kX [(7,.ptr 2 0),(8,.ptr 3 0)])) (kI a.Length a.Mass a.Direct (kI b.Length b.Mass b.Direct (kI a.Length a.Mass a.Direct (kI b.Length b.Mass b.Direct [])))) ?_
 obtain⟨f,V,h⟩:=bnd h
 refine sq (gr fol [2] ((2,.str n)::(kX (kAn f.1 [(10,.i f.2)]))) (ac (cv (qft N a n V)) az) ?_)
 obtain⟨j,X,h⟩:=bnd h
 refine sq (gr fol [2] ((2,.str n)::(kX (kAn f.1 [(10,.i f.2),(11,.str j.1),(12,.i j.2)]))) (ac (cv (qhe N a n X)) az) ?_)
 obtain⟨k,Y,h⟩:=bnd h
 refine sq (gr fol [3] (kAT n (kAn f.1 (kV f.2 j.1 j.2 k.1 k.2 []))) (ac (cv (qfm N a b n Y)) az) ?_)
 obtain⟨Z,a0,h⟩:=bnd h
 obtain⟨r7,e_r7,h⟩:=bnd h
 obtain⟨t,e_r8,h⟩:=bnd h
 obtain⟨r9,e_r9,h⟩:=bnd h
 obtain⟨z,D,h⟩:=bnd h
 obtain⟨A,E,h⟩:=bnd h
 obtain⟨g,F,h⟩:=bnd h
 refine sq (gq fol [1,3,5,7,9,11,13] (kAT n (kAn f.1 (kV f.2 j.1 j.2 k.1 k.2 (kAW t g [])))) (kI a.Length a.Mass a.Direct (kI b.Length b.Mass b.Direct (kI a.Length a.Mass a.Direct (kI b.Length b.Mass b.Direct (.cells [.i Z,.i r7]::(kBA r9 z A)))))) (ac (cv (qF a a0)) (ac (cv (qbN N n e_r7)) (ac (hs (.call 13 [.slice 4 0 2 2 1] (kI a.Length a.Mass a.Direct (kI b.Length b.Mass b.Direct (kI a.Length a.Mass a.Direct (kI b.Length b.Mass b.Direct (kAE Z r7))))) [4] [vl encI ([Z,r7]:List Int)] (.i t)) (qbQ (FzL.cons (Fz.lit rfl rfl (Ue (AllST.cons tI (AllST.cons tI AllST.nil)))) FzL.nil) (qdz N ([Z,r7]:List Int) e_r8) tI rfl)) (ac (cv (qF a e_r9)) (ac (cv (qF b D)) (ac (cv (qbN N n E)) (ac (hs (.call 13 [.slice 5 0 3 3 1] (kI a.Length a.Mass a.Direct (kI b.Length b.Mass b.Direct (kI a.Length a.Mass a.Direct (kI b.Length b.Mass b.Direct (.cells [.i Z,.i r7]::(kBA r9 z A)))))) [5] [vl encI ([r9,z,A]:List Int)] (.i g)) (qbQ (FzL.cons (Fz.lit rfl rfl (Ue (AllST.cons tI (AllST.cons tI (AllST.cons tI AllST.nil))))) FzL.nil) (qdz N ([r9,z,A]:List Int) F) tI rfl)) az))))))) ?_)
 refine sh fol (kAT n (kAn f.1 (kV f.2 j.1 j.2 k.1 k.2 (kAW t g [(17,.str []),(18,.str []),(19,.str [])])))) ?_
 refine sq ?_
 refine sh fol (kAT n (kAn f.1 (kV f.2 j.1 j.2 k.1 k.2 (kAW t g [(17,.str []),(18,.str []),(19,.str []),(62,.bool (decide (t=0)))])))) ?_
 obtain⟨r15,g15,h⟩:=bnd h
 refine Goes.imp (Q:=fun x s'=>(x= .normal/\ ∃r p,(r,p)=r15/\Sub s' (ofG 132 (kAT n ((7,.ptr 1 0)::(8,.ptr 2 0)::(9,.str f.1)::(kV f.2 j.1 j.2 k.1 k.2 (kAW t g (kBg r p [(19,.str [])]))))),(kI a.Length a.Mass a.Direct (kI a.Length a.Mass a.Direct (kI b.Length b.Mass b.Direct [])))))) ?_ ?_
 ·refine ihD g15 (fun c16 g15=>?_) (fun c16 g15=>?_)
  ·obtain⟨r17,G,g15⟩:=bnd g15
   obtain⟨r18,H,g15⟩:=bnd g15
   refine gr fol [2,5] (kAT n (kAn f.1 (kV f.2 j.1 j.2 k.1 k.2 (kAW t g (kBg r17 r18 [(19,.str [])]))))) (ac (cv (qb7 N a n G)) (ac (cv (qc8 N a n H)) az)) ?_
   obtain rfl:=si g15
   exact⟨rfl,_,_,rfl,(Sub.norm [] [some 0,some 2,some 3] rfl rfl (.keep (.same nS) (.kp (.kp (.kp (.keep (.same nS) (.keep (.same nI) (.keep (.same nS) (.keep (.same nI) (.keep (.same nS) (.keep (.same nI) (.keep (.same nI) (.keep (.same nI) (.keep (.same nS) (.keep (.same nS) (.keep (.same nS) .nil))))))))))))))) (.kb rfl (.same sn) (.kb rfl (.same sn) (.kb rfl (.same sn) .nil))))⟩
  refine Goes.skip ?_
  obtain rfl:=si g15
  exact⟨rfl,_,_,rfl,(Sub.norm [] [some 0,some 2,some 3] rfl rfl (.keep (.same nS) (.kp (.kp (.kp (.keep (.same nS) (.keep (.same nI) (.keep (.same nS) (.keep (.same nI) (.keep (.same nS) (.keep (.same nI) (.keep (.same nI) (.keep (.same nI) (.keep (.same nS) (.keep (.same nS) (.keep (.same nS) .nil))))))))))))))) (.kb rfl (.same sn) (.kb rfl (.same sn) (.kb rfl (.same sn) .nil))))⟩
 rintro x s' ⟨rfl,r,p,rfl,hsub⟩
 try dsimp only at h
 refine Goes.sub hsub ?_
 refine sq ?_
 refine sh fol (kAT n ((7,.ptr 1 0)::(8,.ptr 2 0)::(9,.str f.1)::(kV f.2 j.1 j.2 k.1 k.2 (kAW t g (kBg r p [(19,.str []),(70,.bool (decide (g=0)))]))))) ?_
 obtain⟨r20,g20,h⟩:=bnd h
 refine Goes.imp (Q:=fun x s'=>(x= .normal/\ ∃u,u=r20/\Sub s' (ofG 132 (kBK f.1 (kV f.2 j.1 j.2 k.1 k.2 (kAW t g (kBg r p [(19,.str u)])))),(kI a.Length a.Mass a.Direct (kI a.Length a.Mass a.Direct []))))) ?_ ?_
 ·refine ihD g20 (fun c21 g20=>?_) (fun c21 g20=>?_)
  ·obtain⟨r22,I,g20⟩:=bnd g20
   obtain⟨r23,J,g20⟩:=bnd g20
   refine gr fol [3,4] (kBK f.1 (kV f.2 j.1 j.2 k.1 k.2 (kAW t g (kBg r p [(19,.str r23)])))) (ac (cv (qb7 N a n I)) (ac (cv (qc8 N b r22 J)) az)) ?_
   obtain rfl:=si g20
   exact⟨rfl,_,rfl,(Sub.norm [] [some 0,some 1] rfl rfl (.kp (.kp (.keep (.same nS) (.keep (.same nI) (.keep (.same nS) (.keep (.same nI) (.keep (.same nS) (.keep (.same nI) (.keep (.same nI) (.keep (.same nI) (.keep (.same nS) (.keep (.same nS) (.keep (.same nS) .nil))))))))))))) (.kb rfl (.same sn) (.kb rfl (.same sn) .nil)))⟩
  refine Goes.skip ?_
  obtain rfl:=si g20
  exact⟨rfl,_,rfl,(Sub.norm [] [some 0,some 1] rfl rfl (.drop (.kp (.kp (.drop (.keep (.same nS) (.keep (.same nI) (.keep (.same nS) (.keep (.same nI) (.keep (.same nS) (.keep (.same nI) (.keep (.same nI) (.keep (.same nI) (.keep (.same nS) (.keep (.same nS) (.keep (.same nS) .nil))))))))))))))) (.kb rfl (.same sn) (.kb rfl (.same sn) .nil)))⟩
 rintro x s' ⟨rfl,u,rfl,hsub⟩
 refine Goes.sub hsub ?_
 obtain⟨v,K,h⟩:=bnd h
 refine sq (gr fol [2] (kBK f.1 (kV f.2 j.1 j.2 k.1 k.2 (kAW t g (kBg v.1 p [(19,.str u),(20,.i v.2)])))) (ac (cv (qbR N r t K)) az) ?_)
 obtain⟨B,L,h⟩:=bnd h
 refine sq (gr fol [2] (kBK f.1 (kV f.2 j.1 j.2 k.1 k.2 ((16,.i g)::(kBg v.1 B.1 [(19,.str u),(20,.i v.2),(21,.i B.2)])))) (ac (cv (qbR N p t L)) az) ?_)
 obtain⟨r26,M,h⟩:=bnd h
 refine sq (gr fol [2] (kBK f.1 (kV f.2 j.1 j.2 k.1 k.2 ((16,.i r26.2)::(kBg v.1 B.1 [(19,.str r26.1),(20,.i v.2),(21,.i B.2)])))) (ac (cv (qbR N u g M)) az) ?_)
 refine sq ?_
 obtain⟨b37,c,h⟩:=bnd h
 refine Goes.cut (s':=(ofG 132 (kA0 b37),(kI a.Length a.Mass a.Direct (kI a.Length a.Mass a.Direct [])))) ?_ ?_
 ·obtain⟨r27,d,c⟩:=bnd c
  obtain⟨r28,e,c⟩:=bnd c
  rcases wyD c with⟨o,c⟩|⟨o,c⟩
  ·rcases wyD c with⟨q,c⟩|⟨q,c⟩
   ·rcases wyB c with⟨s,c⟩|⟨s,c⟩
    ·rcases wyD c with⟨w,c⟩|⟨w,c⟩
     ·rcases wyB c with⟨y,c⟩|⟨y,c⟩
      ·rcases wyD c with⟨C,c⟩|⟨C,c⟩
       ·rcases wyB c with⟨O,c⟩|⟨O,c⟩
        ·obtain⟨r36,P,c⟩:=bnd c
         obtain rfl:=si c
         exact tr fol [1,3,5,10,15,20,25,30,35,36] (kA0 r36) (ac (cv (qD N a d)) (ac (cv (qF a e)) (ac (gw o) (ac (gw q) (ac (gw s) (ac (gw w) (ac (gw y) (ac (gw C) (ac (gw O) (ac (cv (qmS P)) az))))))))))
        obtain rfl:=si c
        exact tr fol [1,3,5,10,15,20,25,30,35] kAR (ac (cv (qD N a d)) (ac (cv (qF a e)) (ac (gw o) (ac (gw q) (ac (gw s) (ac (gw w) (ac (gw y) (ac (gw C) (ac (gw O) az)))))))))
       obtain rfl:=si c
       exact tr fol [1,3,5,10,15,20,25,30] kAR (ac (cv (qD N a d)) (ac (cv (qF a e)) (ac (gw o) (ac (gw q) (ac (gw s) (ac (gw w) (ac (gw y) (ac (gw C) az))))))))
      obtain rfl:=si c
      exact tr fol [1,3,5,10,15,20,25] kAR (ac (cv (qD N a d)) (ac (cv (qF a e)) (ac (gw o) (ac (gw q) (ac (gw s) (ac (gw w) (ac (gw y) az)))))))
     obtain rfl:=si c
     exact tr fol [1,3,5,10,15,20] kAR (ac (cv (qD N a d)) (ac (cv (qF a e)) (ac (gw o) (ac (gw q) (ac (gw s) (ac (gw w) az))))))
    obtain rfl:=si c
    exact tr fol [1,3,5,10,15] kAR (ac (cv (qD N a d)) (ac (cv (qF a e)) (ac (gw o) (ac (gw q) (ac (gw s) az)))))
   obtain rfl:=si c
   exact tr fol [1,3,5,10] kAR (ac (cv (qD N a d)) (ac (cv (qF a e)) (ac (gw o) (ac (gw q) az))))
  obtain rfl:=si c
  exact tr fol [1,3,5] kAR (ac (cv (qD N a d)) (ac (cv (qF a e)) (ac (gw o) az)))
 refine Goes.ret ?_
 obtain rfl:=si h
 exact(gw2 [.bool b37] (Ua tB))
end Go.Av
