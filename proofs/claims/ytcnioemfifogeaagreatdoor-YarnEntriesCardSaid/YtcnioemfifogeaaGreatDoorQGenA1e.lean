/-
  The walk of the law.
-/
import Derived.Test.YtcnioemfifogeaaGreatDoorQGenA1e4
import Derived.Test.YtcnioemfifogeaaGreatDoorAvAwkQ3
noncomputable section
namespace Go.Av
open Go.Proofs Go.RowKit
set_option linter.unusedSectionVars false
set_option linter.unusedVariables false
set_option linter.unusedSimpArgs false
set_option maxRecDepth 100000
def awk:Option Bool:=some true
theorem qkk {res:Bool} (h:awk=some res):qf ZT (.fn 10) [] [] (.bool res) []:=by
 obtain rfl:=si h
 exact qlM
def yU (N:Nat) (h:qm) (e:qh):Option Bool:=
 (yo N h).bind fun d=>
 ((yj N d 20).bind fun y=>
 if(!y)=true then
 some true
 else
 (yl e).bind fun z=>
 some (!z):Option Bool).bind fun A=>
 if A=true then
 (awk).bind fun B=>
 some B
 else
 (qaq N h e).bind fun x=>
 (qdu N h e).bind fun a=>
 (vB N d).bind fun i=>
 (vg N e).bind fun j=>
 (xS N ([i,j]:List Int)).bind fun b=>
 ((if b=0 then
 (xP N d e).bind fun f=>
 (qbA (!decide (f=0)) 18).bind fun k=>
 some (f,k)
 else
 some (0,b):Option (Int×Int))).bind fun(l,g)=>
 ((if g=0 then
 (xg N d e).bind fun c=>
 some (c.Day,c.Lots,c.Holds)
 else
 some (0,[],[]):Option (Int×(List qj)×(List qd)))).bind fun(m,n,o)=>
 ((vO N h).bind fun p=>
 (vB N d).bind fun q=>
 if p=q then
 (vP N e).bind fun r=>
 (vg N e).bind fun s=>
 if r=s then
 if x.2=b then
 if x.1=l then
 if a.2=g then
 (yo N (⟨a.1.Day,a.1.Lots,a.1.Holds⟩:qm)).bind fun t=>
 (qax N t (⟨m,n,o⟩:StateT)).bind fun u=>
 if u=true then
 (awk).bind fun v=>
 some v
 else
 some false
 else
 some false
 else
 some false
 else
 some false
 else
 some false
 else
 some false:Option Bool).bind fun w=>
 some w
theorem qcO (N:Nat) (c:qm) (e:qh) {res:Bool} (h:yU N c e=some res):qf ZT (.fn 4) (kX c.Day c.Lots c.Holds (kAW e.Kind e.Day e.Lot e.Amount e.Yarn e.Dye e.Order [])) [] (.bool res) []:=by
 unfold yU at h
 refine Uc Tryz.func4 rfl rfl (m:=95) rfl (rs:=[.tmp 4]) rfl (l:=(kS c.Day c.Lots c.Holds (kAO e.Kind e.Day e.Lot e.Amount e.Yarn e.Dye e.Order []))) rfl ?_
 refine sg fol (kG []) (kD c.Day c.Lots c.Holds e.Kind e.Day e.Lot e.Amount e.Yarn e.Dye e.Order []) ?_
 obtain⟨d,V,h⟩:=bnd h
 refine sq (gq fol [1] (kG (kZ [])) (kD c.Day c.Lots c.Holds e.Kind e.Day e.Lot e.Amount e.Yarn e.Dye e.Order (kD d.Day d.Lots d.Holds e.Kind e.Day e.Lot e.Amount e.Yarn e.Dye e.Order [])) (ac (cv (qbo N c V)) az) ?_)
 refine sq ?_
 refine sq ?_
 obtain⟨b5,k,h⟩:=bnd h
 refine Goes.cut (s':=(ofG 95 (kG (kZ [(25,.bool b5)])),(kD c.Day c.Lots c.Holds e.Kind e.Day e.Lot e.Amount e.Yarn e.Dye e.Order (kD d.Day d.Lots d.Holds e.Kind e.Day e.Lot e.Amount e.Yarn e.Dye e.Order [])))) ?_ ?_
 ·obtain⟨r2,F,k⟩:=bnd k
  rcases wyB k with⟨c3,k⟩|⟨c3,k⟩
  ·obtain rfl:=si k
   exact tr fol [1,3] (kG (kZ [(25,.bool true)])) (ac (cv (qaX N d 20 F)) (ac (gw c3) az))
  obtain⟨r4,W,k⟩:=bnd k
  obtain rfl:=si k
  exact tr fol [1,3,5] (kG (kZ [(25,.bool (!r4))])) (ac (cv (qaX N d 20 F)) (ac (gw c3) (ac (cv (qdG e W)) az)))
 refine ihB h (fun c7 h=>?_) (fun c7 h=>?_)
 ·obtain⟨r8,X,h⟩:=bnd h
  refine sq (gr fol [0] [(4,.bool r8)] (ac (cv (qkk X)) az) ?_)
  refine Goes.ret ?_
  obtain rfl:=si h
  exact(gw2 [.bool r8] (Ub tB))
 refine Goes.skip ?_
 obtain⟨p,Y,h⟩:=bnd h
 refine sq (gr fol [2] (kG (kZ (kAM p.1 p.2 []))) (ac (cv (qdV N c e Y)) az) ?_)
 obtain⟨b,G,h⟩:=bnd h
 refine sq (gq fol [2] (kG (kZ (kAM p.1 p.2 [(9,.ptr 4 0),(10,.i b.2)]))) (kD c.Day c.Lots c.Holds e.Kind e.Day e.Lot e.Amount e.Yarn e.Dye e.Order (kD d.Day d.Lots d.Holds e.Kind e.Day e.Lot e.Amount e.Yarn e.Dye e.Order (kE b.1.Day b.1.Lots b.1.Holds []))) (ac (cv (qgT N c e G)) az) ?_)
 obtain⟨z,H,h⟩:=bnd h
 obtain⟨A,I,h⟩:=bnd h
 obtain⟨f,J,h⟩:=bnd h
 refine sq (gq fol [1,3,5] (kG (kR p.1 p.2 b.2 f [])) (kD c.Day c.Lots c.Holds e.Kind e.Day e.Lot e.Amount e.Yarn e.Dye e.Order (kD d.Day d.Lots d.Holds e.Kind e.Day e.Lot e.Amount e.Yarn e.Dye e.Order (kE b.1.Day b.1.Lots b.1.Holds (kAR z A)))) (ac (cv (zi N d H)) (ac (cv (zI N e I)) (ac (hs (.call 14 [.slice 5 0 2 2 1] (kD c.Day c.Lots c.Holds e.Kind e.Day e.Lot e.Amount e.Yarn e.Dye e.Order (kD d.Day d.Lots d.Holds e.Kind e.Day e.Lot e.Amount e.Yarn e.Dye e.Order (kE b.1.Day b.1.Lots b.1.Holds (kAR z A)))) [5] [vl encI ([z,A]:List Int)] (.i f)) (jl (FzL.cons (Fz.lit rfl rfl (Ue (AllST.cons tI (AllST.cons tI AllST.nil)))) FzL.nil) (qf5 N ([z,A]:List Int) J) tI rfl)) az))) ?_)
 refine sh fol (kG (kR p.1 p.2 b.2 f [(12,.i 0)])) ?_
 refine sh fol (kG (kR p.1 p.2 b.2 f [(12,.i 0),(13,.i f)])) ?_
 refine sg fol (kG (kR p.1 p.2 b.2 f [(12,.i 0),(13,.i f),(14,.ptr 6 0)])) (kD c.Day c.Lots c.Holds e.Kind e.Day e.Lot e.Amount e.Yarn e.Dye e.Order (kD d.Day d.Lots d.Holds e.Kind e.Day e.Lot e.Amount e.Yarn e.Dye e.Order (kE b.1.Day b.1.Lots b.1.Holds (.cells [.i z,.i A]::(kF []))))) ?_
 refine sq ?_
 refine sh fol (kG (kR p.1 p.2 b.2 f [(12,.i 0),(13,.i f),(14,.ptr 6 0),(47,.bool (decide (f=0)))])) ?_
 obtain⟨r16,g16,h⟩:=bnd h
 refine Goes.imp (Q:=fun x s'=>(x= .normal/\ ∃t r,(t,r)=r16/\Sub s' (ofG 95 (kG (kR p.1 p.2 b.2 f [(12,.i t),(13,.i r),(14,.ptr 5 0)])),(kD c.Day c.Lots c.Holds e.Kind e.Day e.Lot e.Amount e.Yarn e.Dye e.Order (kD d.Day d.Lots d.Holds e.Kind e.Day e.Lot e.Amount e.Yarn e.Dye e.Order (kE b.1.Day b.1.Lots b.1.Holds (kF []))))))) ?_ ?_
 ·refine ihD g16 (fun c17 g16=>?_) (fun c17 g16=>?_)
  ·obtain⟨K,L,g16⟩:=bnd g16
   refine sq (gr fol [2] (kG (kR p.1 p.2 b.2 f [(12,.i K),(14,.ptr 6 0)])) (ac (cv (qfZ N d e L)) az) ?_)
   obtain⟨r19,M,g16⟩:=bnd g16
   refine gr fol [2] (kG (kR p.1 p.2 b.2 f [(12,.i K),(13,.i r19),(14,.ptr 6 0)])) (ac (cv (qgd (!decide (K=0)) 18 M)) az) ?_
   obtain rfl:=si g16
   exact⟨rfl,_,_,rfl,(Sub.norm [] [some 0,some 1,some 2,some 3,some 4,some 6] rfl rfl (.kp (.kp (.kp (.kp (.keep (.same nI) (.keep (.same nI) (.kp (.keep (.same nI) (.keep (.same nI) (.keep (.same nI) (.keep (.same nI) (.kp .nil)))))))))))) (.kb rfl (.same sn) (.kb rfl (.same sn) (.kb rfl (.same sn) (.kb rfl (.same sn) (.kb rfl (.same sn) (.kb rfl (.same sn) .nil)))))))⟩
  refine Goes.skip ?_
  obtain rfl:=si g16
  exact⟨rfl,_,_,rfl,(Sub.norm [] [some 0,some 1,some 2,some 3,some 4,some 6] rfl rfl (.kp (.kp (.kp (.kp (.keep (.same nI) (.keep (.same nI) (.kp (.keep (.same nI) (.keep (.same nI) (.keep (.same nI) (.keep (.same nI) (.kp .nil)))))))))))) (.kb rfl (.same sn) (.kb rfl (.same sn) (.kb rfl (.same sn) (.kb rfl (.same sn) (.kb rfl (.same sn) (.kb rfl (.same sn) .nil)))))))⟩
 rintro x s' ⟨rfl,t,r,rfl,hsub⟩
 try dsimp only at h
 refine Goes.sub hsub ?_
 refine sq ?_
 refine sh fol (kG (kR p.1 p.2 b.2 f [(12,.i t),(13,.i r),(14,.ptr 5 0),(55,.bool (decide (r=0)))])) ?_
 obtain⟨r23,g23,h⟩:=bnd h
 refine Goes.imp (Q:=fun x s'=>(x= .normal/\ ∃u v w,(u,v,w)=r23/\Sub s' (ofG 95 (kG (kR p.1 p.2 b.2 f [(12,.i t),(13,.i r),(14,.ptr 5 0)])),(kD c.Day c.Lots c.Holds e.Kind e.Day e.Lot e.Amount e.Yarn e.Dye e.Order (kD d.Day d.Lots d.Holds e.Kind e.Day e.Lot e.Amount e.Yarn e.Dye e.Order (kE b.1.Day b.1.Lots b.1.Holds (kE u v w []))))))) ?_ ?_
 ·refine ihD g23 (fun c24 g23=>?_) (fun c24 g23=>?_)
  ·obtain⟨O,P,g23⟩:=bnd g23
   refine gq fol [2] (kG (kR p.1 p.2 b.2 f [(12,.i t),(13,.i r),(14,.ptr 5 0)])) (kD c.Day c.Lots c.Holds e.Kind e.Day e.Lot e.Amount e.Yarn e.Dye e.Order (kD d.Day d.Lots d.Holds e.Kind e.Day e.Lot e.Amount e.Yarn e.Dye e.Order (kE b.1.Day b.1.Lots b.1.Holds (kE O.Day O.Lots O.Holds [])))) (ac (cv (qdU N d e P)) az) ?_
   obtain rfl:=si g23
   exact⟨rfl,_,_,_,rfl,(Sub.refl _)⟩
  refine Goes.skip ?_
  obtain rfl:=si g23
  exact⟨rfl,_,_,_,rfl,(Sub.norm [] [some 0,some 1,some 2,some 3,some 4,some 5] rfl rfl (.kp (.kp (.kp (.kp (.keep (.same nI) (.keep (.same nI) (.kp (.keep (.same nI) (.keep (.same nI) (.keep (.same nI) (.keep (.same nI) (.kp .nil)))))))))))) (.kb rfl (.same sn) (.kb rfl (.same sn) (.kb rfl (.same sn) (.kb rfl (.same sn) (.kb rfl (.same sn) (.kb rfl (.cells (rc (.same nI) (rc (.nilv) (rc (.nilv) rn)))) .nil)))))))⟩
 rintro x s' ⟨rfl,u,v,w,rfl,hsub⟩
 try dsimp only at h
 refine Goes.sub hsub ?_
 refine sq ?_
 obtain⟨Z,a,h⟩:=bnd h
 refine Goes.cut (s':=(ofG 95 [(4,.bool Z)],(kD c.Day c.Lots c.Holds e.Kind e.Day e.Lot e.Amount e.Yarn e.Dye e.Order (kD d.Day d.Lots d.Holds e.Kind e.Day e.Lot e.Amount e.Yarn e.Dye e.Order (kE b.1.Day b.1.Lots b.1.Holds (kE u v w [])))))) ?_ ?_
 ·obtain⟨r26,g,a⟩:=bnd a
  obtain⟨r27,j,a⟩:=bnd a
  rcases wyD a with⟨q,a⟩|⟨q,a⟩
  ·obtain⟨r29,n,a⟩:=bnd a
   obtain⟨r30,o,a⟩:=bnd a
   rcases wyD a with⟨s,a⟩|⟨s,a⟩
   ·rcases wyD a with⟨y,a⟩|⟨y,a⟩
    ·rcases wyD a with⟨B,a⟩|⟨B,a⟩
     ·rcases wyD a with⟨E,a⟩|⟨E,a⟩
      ·obtain⟨a0,C,a⟩:=bnd a
       obtain⟨r36,D,a⟩:=bnd a
       rcases wyB a with⟨T,a⟩|⟨T,a⟩
       ·obtain⟨r38,U,a⟩:=bnd a
        obtain rfl:=si a
        exact tr fol [1,3,5,7,9,12,17,22,27,29,31,33,34] [(4,.bool r38)] (ac (cv (zA N c g)) (ac (cv (zi N d j)) (ac (gw q) (ac (cv (zW N e n)) (ac (cv (zI N e o)) (ac (gw s) (ac (gw y) (ac (gw B) (ac (gw E) (ac (cv (qbo N (⟨b.1.Day,b.1.Lots,b.1.Holds⟩:qm) C)) (ac (cv (qdL N a0 (⟨u,v,w⟩:StateT) D)) (ac (gw T) (ac (cv (qkk U)) az)))))))))))))
       obtain rfl:=si a
       exact tr fol [1,3,5,7,9,12,17,22,27,29,31,33] kAY (ac (cv (zA N c g)) (ac (cv (zi N d j)) (ac (gw q) (ac (cv (zW N e n)) (ac (cv (zI N e o)) (ac (gw s) (ac (gw y) (ac (gw B) (ac (gw E) (ac (cv (qbo N (⟨b.1.Day,b.1.Lots,b.1.Holds⟩:qm) C)) (ac (cv (qdL N a0 (⟨u,v,w⟩:StateT) D)) (ac (gw T) az))))))))))))
      obtain rfl:=si a
      exact tr fol [1,3,5,7,9,12,17,22,27] kAY (ac (cv (zA N c g)) (ac (cv (zi N d j)) (ac (gw q) (ac (cv (zW N e n)) (ac (cv (zI N e o)) (ac (gw s) (ac (gw y) (ac (gw B) (ac (gw E) az)))))))))
     obtain rfl:=si a
     exact tr fol [1,3,5,7,9,12,17,22] kAY (ac (cv (zA N c g)) (ac (cv (zi N d j)) (ac (gw q) (ac (cv (zW N e n)) (ac (cv (zI N e o)) (ac (gw s) (ac (gw y) (ac (gw B) az))))))))
    obtain rfl:=si a
    exact tr fol [1,3,5,7,9,12,17] kAY (ac (cv (zA N c g)) (ac (cv (zi N d j)) (ac (gw q) (ac (cv (zW N e n)) (ac (cv (zI N e o)) (ac (gw s) (ac (gw y) az)))))))
   obtain rfl:=si a
   exact tr fol [1,3,5,7,9,12] kAY (ac (cv (zA N c g)) (ac (cv (zi N d j)) (ac (gw q) (ac (cv (zW N e n)) (ac (cv (zI N e o)) (ac (gw s) az))))))
  obtain rfl:=si a
  exact tr fol [1,3,5] kAY (ac (cv (zA N c g)) (ac (cv (zi N d j)) (ac (gw q) az)))
 refine Goes.ret ?_
 obtain rfl:=si h
 exact(gw2 [.bool Z] (Ub tB))
end Go.Av
