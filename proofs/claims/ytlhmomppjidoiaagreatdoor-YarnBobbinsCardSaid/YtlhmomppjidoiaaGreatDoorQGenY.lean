/-
  The walk of the law.
-/
import Derived.Test.YtlhmomppjidoiaaGreatDoorQGenY4
import Derived.Test.YtlhmomppjidoiaaGreatDoorAvAwkY
noncomputable section
namespace Go.Av
open Go.Proofs Go.RowKit
set_option linter.unusedSectionVars false
set_option linter.unusedVariables false
set_option linter.unusedSimpArgs false
set_option maxRecDepth 100000
def awk:Option Bool:=some true
theorem qol {res:Bool} (h:awk=some res):qb ZT (.fn 8) [] [] (.bool res) []:=by
 obtain rfl:=si h
 exact qrj
def xO (N:Nat) (y:yH) (capacity:Int) (length:Str):Option Bool:=
 ((xB N y).bind fun D=>
 if(!D)=true then
 some true
 else
 some (decide ((length.length:Int)>60)):Option Bool).bind fun E=>
 if E=true then
 (awk).bind fun F=>
 some F
 else
 (qbo N y length).bind fun A=>
 (qaf N y length).bind fun B=>
 (xm N y capacity length).bind fun C=>
 (vD N y).bind fun k=>
 (kL N length).bind fun l=>
 (jB N ([k,l]:List Int)).bind fun b=>
 ((vD N y).bind fun a=>
 if capacity<1 then
 (qad true 3).bind fun d=>
 (kL N length).bind fun e=>
 (jB N ([a,d,e]:List Int)).bind fun m=>
 some (a,d,e,m)
 else
 (qad (decide (capacity>999999999)) 3).bind fun f=>
 (kL N length).bind fun g=>
 (jB N ([a,f,g]:List Int)).bind fun n=>
 some (a,f,g,n):Option (Int×Int×Int×Int)).bind fun(G,H,I,c)=>
 ((if b=0 then
 (qbr N y.Density length).bind fun o=>
 (qb5 N length y.Density).bind fun p=>
 some (o,p)
 else
 some ([],[]):Option (Str×Str))).bind fun(q,r)=>
 ((if c=0 then
 (xJ N y capacity length).bind fun h=>
 (yK N 999999999).bind fun s=>
 (qaS N h s).bind fun t=>
 if t>0 then
 some (4,0)
 else
 (qaV N h).bind fun u=>
 some (c,u.1)
 else
 some (c,0):Option (Int×Int))).bind fun(v,w)=>
 (qaj N q b).bind fun i=>
 (qaj N r b).bind fun j=>
 (if A.2=i.2 then
 if(A.1==i.1)=true then
 if B.2=j.2 then
 if(B.1==j.1)=true then
 if C.2=v then
 if C.1=w then
 (awk).bind fun x=>
 some x
 else
 some false
 else
 some false
 else
 some false
 else
 some false
 else
 some false
 else
 some false:Option Bool).bind fun z=>
 some z
theorem qei (N:Nat) (y:yH) (capacity:Int) (length:Str) {res:Bool} (h:xO N y capacity length=some res):qb ZT (.fn 5) (kAK y.Name y.Density y.Twist y.Strength y.Dye [.i capacity,.str length]) [] (.bool res) []:=by
 unfold xO at h
 refine Ub Tryz.func5 rfl rfl (m:=138) rfl (rs:=[.tmp 6]) rfl (l:=(kW y.Name y.Density y.Twist y.Strength y.Dye ((1,.i capacity)::(kBH length)))) rfl ?_
 refine sg fol ((1,.i capacity)::(kAT length [])) (kB y.Name y.Density y.Twist y.Strength y.Dye []) ?_
 refine sg fol ((1,.i capacity)::(kAT length [(7,.ptr 1 0)])) (kB y.Name y.Density y.Twist y.Strength y.Dye (kB y.Name y.Density y.Twist y.Strength y.Dye [])) ?_
 refine sq ?_
 refine sq ?_
 obtain⟨b3,g,h⟩:=bnd h
 refine Goes.cut (s':=(ofG 138 ((1,.i capacity)::(kAT length [(7,.ptr 1 0),(30,.bool b3)])),(kB y.Name y.Density y.Twist y.Strength y.Dye (kB y.Name y.Density y.Twist y.Strength y.Dye [])))) ?_ ?_
 ·obtain⟨r1,H,g⟩:=bnd g
  rcases wyB g with⟨c2,g⟩|⟨c2,g⟩
  ·obtain rfl:=si g
   exact tr fol [1,3] ((1,.i capacity)::(kAT length [(7,.ptr 1 0),(30,.bool true)])) (ac (cv (qcw N y H)) (ac (gw c2) az))
  obtain rfl:=si g
  exact tr fol [1,3] ((1,.i capacity)::(kAT length [(7,.ptr 1 0),(30,.bool (decide ((length.length:Int)>60)))])) (ac (cv (qcw N y H)) (ac (gw c2) az))
 refine ihB h (fun c5 h=>?_) (fun c5 h=>?_)
 ·obtain⟨r6,a8,h⟩:=bnd h
  refine sq (gr fol [0] (kA0 r6) (ac (cv (qol a8)) az) ?_)
  refine Goes.ret ?_
  obtain rfl:=si h
  exact(gw2 [.bool r6] (Ua tB))
 refine Goes.skip ?_
 obtain⟨d,a9,h⟩:=bnd h
 refine sq (gr fol [2] ((1,.i capacity)::(kAT length [(7,.ptr 1 0),(8,.str d.1),(9,.i d.2)])) (ac (cv (qjL N y length a9)) az) ?_)
 obtain⟨e,b0,h⟩:=bnd h
 refine sq (gr fol [2] ((1,.i capacity)::(kAT length [(7,.ptr 1 0),(8,.str d.1),(9,.i d.2),(10,.str e.1),(11,.i e.2)])) (ac (cv (qhh N y length b0)) az) ?_)
 obtain⟨f,b1,h⟩:=bnd h
 refine sq (gr fol [3] (kAo capacity length [(8,.str d.1),(9,.i d.2),(10,.str e.1),(11,.i e.2),(12,.i f.1),(13,.i f.2)]) (ac (cv (qgH N y capacity length b1)) az) ?_)
 obtain⟨o,I,h⟩:=bnd h
 obtain⟨p,J,h⟩:=bnd h
 obtain⟨c,K,h⟩:=bnd h
 refine sq (gq fol [1,3,5] (kAo capacity length (kO d.1 d.2 e.1 e.2 f.1 f.2 c [])) (kB y.Name y.Density y.Twist y.Strength y.Dye (kB y.Name y.Density y.Twist y.Strength y.Dye (kAE o p))) (ac (cv (qaL N y I)) (ac (cv (yC N length J)) (ac (hs (.call 13 [.slice 2 0 2 2 1] (kB y.Name y.Density y.Twist y.Strength y.Dye (kB y.Name y.Density y.Twist y.Strength y.Dye (kAE o p))) [2] [vl encI ([o,p]:List Int)] (.i c)) (qbR (FzL.cons (Fz.lit rfl rfl (Ue (AllST.cons tI (AllST.cons tI AllST.nil)))) FzL.nil) (qcg N ([o,p]:List Int) K) tI rfl)) az))) ?_)
 refine sq ?_
 obtain⟨⟨n21,n22,n23,j⟩,b,h⟩:=bnd h
 refine Goes.cut (s':=(ofG 138 (kAo capacity length (kO d.1 d.2 e.1 e.2 f.1 f.2 c [(15,.i j)])),(kB y.Name y.Density y.Twist y.Strength y.Dye (kB y.Name y.Density y.Twist y.Strength y.Dye (.cells [.i o,.i p]::(kBA n21 n22 n23)))))) ?_ ?_
 ·obtain⟨q,u,b⟩:=bnd b
  rcases wyD b with⟨L,b⟩|⟨L,b⟩
  ·obtain⟨A,M,b⟩:=bnd b
   obtain⟨B,O,b⟩:=bnd b
   obtain⟨b2,P,b⟩:=bnd b
   simp only[ZI,ZP]at b
   obtain⟨rfl,rfl,rfl,rfl⟩:=b
   exact xE.rq fol [1,4,8,10,12] (kAo capacity length (kO d.1 d.2 e.1 e.2 f.1 f.2 c [(15,.i b2)])) (kB y.Name y.Density y.Twist y.Strength y.Dye (kB y.Name y.Density y.Twist y.Strength y.Dye (.cells [.i o,.i p]::(kBA q A B)))) (ac (cv (qaL N y u)) (ac (gw L) (ac (cv (qeS true 3 M)) (ac (cv (yC N length O)) (ac (hs (.call 13 [.slice 3 0 3 3 1] (kB y.Name y.Density y.Twist y.Strength y.Dye (kB y.Name y.Density y.Twist y.Strength y.Dye (.cells [.i o,.i p]::(kBA q A B)))) [3] [vl encI ([q,A,B]:List Int)] (.i b2)) (qbR (FzL.cons (Fz.lit rfl rfl (Ue (AllST.cons tI (AllST.cons tI (AllST.cons tI AllST.nil))))) FzL.nil) (qcg N ([q,A,B]:List Int) P) tI rfl)) az)))))
  obtain⟨C,U,b⟩:=bnd b
  obtain⟨D,V,b⟩:=bnd b
  obtain⟨b4,X,b⟩:=bnd b
  simp only[ZI,ZP]at b
  obtain⟨rfl,rfl,rfl,rfl⟩:=b
  exact xE.rq fol [1,4,8,10,12] (kAo capacity length (kO d.1 d.2 e.1 e.2 f.1 f.2 c [(15,.i b4)])) (kB y.Name y.Density y.Twist y.Strength y.Dye (kB y.Name y.Density y.Twist y.Strength y.Dye (.cells [.i o,.i p]::(kBA q C D)))) (ac (cv (qaL N y u)) (ac (gw L) (ac (cv (qeS (decide (capacity>999999999)) 3 U)) (ac (cv (yC N length V)) (ac (hs (.call 13 [.slice 3 0 3 3 1] (kB y.Name y.Density y.Twist y.Strength y.Dye (kB y.Name y.Density y.Twist y.Strength y.Dye (.cells [.i o,.i p]::(kBA q C D)))) [3] [vl encI ([q,C,D]:List Int)] (.i b4)) (qbR (FzL.cons (Fz.lit rfl rfl (Ue (AllST.cons tI (AllST.cons tI (AllST.cons tI AllST.nil))))) FzL.nil) (qcg N ([q,C,D]:List Int) X) tI rfl)) az)))))
 try dsimp only at h
 refine sh fol (kAo capacity length (kO d.1 d.2 e.1 e.2 f.1 f.2 c [(15,.i j),(16,.str []),(17,.str [])])) ?_
 refine sh fol (kAo capacity length (kO d.1 d.2 e.1 e.2 f.1 f.2 c [(15,.i j),(16,.str []),(17,.str []),(18,.i 0)])) ?_
 refine sq ?_
 refine sh fol (kAo capacity length (kO d.1 d.2 e.1 e.2 f.1 f.2 c [(15,.i j),(16,.str []),(17,.str []),(18,.i 0),(71,.bool (decide (c=0)))])) ?_
 obtain⟨r28,g28,h⟩:=bnd h
 refine Goes.imp (Q:=fun x s'=>(x= .normal/\ ∃n k,(n,k)=r28/\Sub s' (ofG 138 ((1,.i capacity)::(2,.str length)::(7,.ptr 0 0)::(kO d.1 d.2 e.1 e.2 f.1 f.2 c (kAy j n k [(18,.i 0)]))),(kB y.Name y.Density y.Twist y.Strength y.Dye [])))) ?_ ?_
 ·refine ihD g28 (fun c29 g28=>?_) (fun c29 g28=>?_)
  ·obtain⟨r30,Y,g28⟩:=bnd g28
   obtain⟨r31,Z,g28⟩:=bnd g28
   refine gr fol [3,7] (kAo capacity length (kO d.1 d.2 e.1 e.2 f.1 f.2 c (kAy j r30 r31 [(18,.i 0)]))) (ac (cv (qdh N y.Density length Y)) (ac (cv (qfH N length y.Density Z)) az)) ?_
   obtain rfl:=si g28
   exact⟨rfl,_,_,rfl,(Sub.norm [] [some 1] rfl rfl (.keep (.same nI) (.keep (.same nS) (.kp (.keep (.same nS) (.keep (.same nI) (.keep (.same nS) (.keep (.same nI) (.keep (.same nI) (.keep (.same nI) (.keep (.same nI) (.keep (.same nI) (.keep (.same nS) (.keep (.same nS) (.keep (.same nI) .nil)))))))))))))) (.kb rfl (.same sn) .nil))⟩
  refine Goes.skip ?_
  obtain rfl:=si g28
  exact⟨rfl,_,_,rfl,(Sub.norm [] [some 1] rfl rfl (.keep (.same nI) (.keep (.same nS) (.kp (.keep (.same nS) (.keep (.same nI) (.keep (.same nS) (.keep (.same nI) (.keep (.same nI) (.keep (.same nI) (.keep (.same nI) (.keep (.same nI) (.keep (.same nS) (.keep (.same nS) (.keep (.same nI) .nil)))))))))))))) (.kb rfl (.same sn) .nil))⟩
 rintro x s' ⟨rfl,n,k,rfl,hsub⟩
 try dsimp only at h
 refine Goes.sub hsub ?_
 refine sq ?_
 refine sh fol ((1,.i capacity)::(2,.str length)::(7,.ptr 0 0)::(kO d.1 d.2 e.1 e.2 f.1 f.2 c (kAy j n k [(18,.i 0),(81,.bool (decide (j=0)))]))) ?_
 obtain⟨r34,g34,h⟩:=bnd h
 refine Goes.imp (Q:=fun x s'=>(x= .normal/\ ∃v w,(v,w)=r34/\Sub s' (ofG 138 (kO d.1 d.2 e.1 e.2 f.1 f.2 c (kAy v n k [(18,.i w)])),[]))) ?_ ?_
 ·refine ihD g34 (fun c35 g34=>?_) (fun c35 g34=>?_)
  ·obtain⟨E,a0,g34⟩:=bnd g34
   refine sq (gr fol [3] (kO d.1 d.2 e.1 e.2 f.1 f.2 c (kAy j n k [(18,.i 0),(19,.str E)])) (ac (cv (qgo N y capacity length a0)) az) ?_)
   obtain⟨r37,a1,g34⟩:=bnd g34
   obtain⟨r38,a2,g34⟩:=bnd g34
   refine sq (gr fol [1,2] (kO d.1 d.2 e.1 e.2 f.1 f.2 c (kAy j n k [(18,.i 0),(19,.str E),(89,.bool (decide (r38>0)))])) (ac (cv (qcQ N 999999999 a1)) (ac (cv (qfK N E r37 a2)) az)) ?_)
   refine ihD g34 (fun c39 g34=>?_) (fun c39 g34=>?_)
   ·refine gh fol (kO d.1 d.2 e.1 e.2 f.1 f.2 c [(15,.i 4),(16,.str n),(17,.str k),(18,.i 0)]) ?_
    obtain rfl:=si g34
    exact⟨rfl,_,_,rfl,(Sub.norm [] [] rfl rfl (.keep (.same nS) (.keep (.same nI) (.keep (.same nS) (.keep (.same nI) (.keep (.same nI) (.keep (.same nI) (.keep (.same nI) (.keep (.same nI) (.keep (.same nS) (.keep (.same nS) (.keep (.same nI) .nil))))))))))) .nil)⟩
   obtain⟨r40,a3,g34⟩:=bnd g34
   refine gr fol [1] (kO d.1 d.2 e.1 e.2 f.1 f.2 c (kAy j n k [(18,.i r40.1)])) (ac (cv (qhy N E a3)) az) ?_
   obtain rfl:=si g34
   exact⟨rfl,_,_,rfl,(Sub.norm [] [] rfl rfl (.keep (.same nS) (.keep (.same nI) (.keep (.same nS) (.keep (.same nI) (.keep (.same nI) (.keep (.same nI) (.keep (.same nI) (.keep (.same nI) (.keep (.same nS) (.keep (.same nS) (.keep (.same nI) .nil))))))))))) .nil)⟩
  refine Goes.skip ?_
  obtain rfl:=si g34
  exact⟨rfl,_,_,rfl,(Sub.norm [] [] rfl rfl (.drop (.drop (.drop (.keep (.same nS) (.keep (.same nI) (.keep (.same nS) (.keep (.same nI) (.keep (.same nI) (.keep (.same nI) (.keep (.same nI) (.keep (.same nI) (.keep (.same nS) (.keep (.same nS) (.keep (.same nI) .nil)))))))))))))) .nil)⟩
 rintro x s' ⟨rfl,v,w,rfl,hsub⟩
 try dsimp only at h
 refine Goes.sub hsub ?_
 obtain⟨F,a4,h⟩:=bnd h
 refine sq (gr fol [2] (kO d.1 d.2 e.1 e.2 f.1 f.2 c (kAy v F.1 k [(18,.i w),(20,.i F.2)])) (ac (cv (qeU N n c a4)) az) ?_)
 obtain⟨b5,a5,h⟩:=bnd h
 refine sq (gr fol [2] ((8,.str d.1)::(9,.i d.2)::(10,.str e.1)::(11,.i e.2)::(12,.i f.1)::(13,.i f.2)::(kAy v F.1 b5.1 [(18,.i w),(20,.i F.2),(21,.i b5.2)])) (ac (cv (qeU N k c a5)) az) ?_)
 refine sq ?_
 obtain⟨b6,a,h⟩:=bnd h
 refine Goes.cut (s':=(ofG 138 (kA0 b6),[])) ?_ ?_
 ·rcases wyD a with⟨r,a⟩|⟨r,a⟩
  ·rcases wyB a with⟨s,a⟩|⟨s,a⟩
   ·rcases wyD a with⟨t,a⟩|⟨t,a⟩
    ·rcases wyB a with⟨z,a⟩|⟨z,a⟩
     ·rcases wyD a with⟨G,a⟩|⟨G,a⟩
      ·rcases wyD a with⟨a6,a⟩|⟨a6,a⟩
       ·obtain⟨r49,a7,a⟩:=bnd a
        obtain rfl:=si a
        exact tr fol [3,8,13,18,23,28,29] (kA0 r49) (ac (gw r) (ac (gw s) (ac (gw t) (ac (gw z) (ac (gw G) (ac (gw a6) (ac (cv (qol a7)) az)))))))
       obtain rfl:=si a
       exact tr fol [3,8,13,18,23,28] kAR (ac (gw r) (ac (gw s) (ac (gw t) (ac (gw z) (ac (gw G) (ac (gw a6) az))))))
      obtain rfl:=si a
      exact tr fol [3,8,13,18,23] kAR (ac (gw r) (ac (gw s) (ac (gw t) (ac (gw z) (ac (gw G) az)))))
     obtain rfl:=si a
     exact tr fol [3,8,13,18] kAR (ac (gw r) (ac (gw s) (ac (gw t) (ac (gw z) az))))
    obtain rfl:=si a
    exact tr fol [3,8,13] kAR (ac (gw r) (ac (gw s) (ac (gw t) az)))
   obtain rfl:=si a
   exact tr fol [3,8] kAR (ac (gw r) (ac (gw s) az))
  obtain rfl:=si a
  exact tr fol [3] kAR (ac (gw r) az)
 refine Goes.ret ?_
 obtain rfl:=si h
 exact(gw2 [.bool b6] (Ua tB))
end Go.Av
