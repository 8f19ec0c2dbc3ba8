/-
  The walk of the law.
-/
import Derived.Test.YtcnioemfifogeaaGreatDoorQGenA1r5
import Derived.Test.YtcnioemfifogeaaGreatDoorAvAwkQ3
noncomputable section
namespace Go.Av
open Go.Proofs Go.RowKit
set_option linter.unusedSectionVars false
set_option linter.unusedVariables false
set_option linter.unusedSimpArgs false
set_option maxRecDepth 100000
def awk:Option Bool:=some true
theorem qqq {res:Bool} (h:awk=some res):qp ZT (.fn 10) [] [] (.bool res) []:=by
 obtain rfl:=si h
 exact qsb
def jY (e:StateT×(List ku)×Int) (b:List ku):Nat->Int->Option (Unit⊕Bool)
 |0,_=>none
 |K+1,a=>
  if a<(b.length:Int)then
  (idx e.2.1 a).bind fun c=>
  (idx b a).bind fun d=>
  if(!(decide (c.Number=d.Number)&&(decide (c.Rule=d.Rule)&&true)))=true then
  some (.inr false)
  else
  jY e b K (w64 (a+1))
  else
  some (.inl ())
def qbH (N:Nat) (l:List qb) (day:Int):Option Bool:=
 (qca N l).bind fun h=>
 (qbQ N h 30).bind fun C=>
 if(!C)=true then
 (awk).bind fun D=>
 some D
 else
 (qdP N l).bind fun c=>
 (qel N l day).bind fun i=>
 (qbV N h).bind fun d=>
 (if day<0 then
 (qbP true 3).bind fun B=>
 (qa3 N ([d,B]:List Int)).bind fun j=>
 some (B,j)
 else
 (qbP (decide (day>99999)) 3).bind fun e=>
 (qa3 N ([d,e]:List Int)).bind fun k=>
 some (e,k):Option (Int×Int)).bind fun(E,f)=>
 ((if d=0 then
 (qaI N h).bind fun a=>
 some (a.1.Day,a.1.Lots,a.1.Holds,a.2)
 else
 some (0,[],[],[]):Option (Int×(List qB)×(List qf)×(List ku)))).bind fun(m,n,o,g)=>
 ((if f=0 then
 (qdp N h day).bind fun p=>
 (qaI N p).bind fun b=>
 some (b.1.Day,b.1.Lots,b.1.Holds)
 else
 some (0,[],[]):Option (Int×(List qB)×(List qf)))).bind fun(q,r,s)=>
 ((qaM N l).bind fun t=>
 if(!decide (t=d))=true then
 some true
 else
 if(!decide (c.2.2=d))=true then
 some true
 else
 if(!decide (i.2=f))=true then
 some true
 else
 (qbR N (⟨c.1.Day,c.1.Lots,c.1.Holds⟩:StateT)).bind fun u=>
 (qcD N u (⟨m,n,o⟩:qL)).bind fun v=>
 if(!v)=true then
 some true
 else
 (qbR N (⟨i.1.Day,i.1.Lots,i.1.Holds⟩:StateT)).bind fun w=>
 (qcD N w (⟨q,r,s⟩:qL)).bind fun x=>
 if(!x)=true then
 some true
 else
 some (!decide ((c.2.1.length:Int)=(g.length:Int))):Option Bool).bind fun y=>
 if y=true then
 some false
 else
 (jY c g N 0).bind (fun
 |(.inl ())=>
 (awk).bind fun z=>
 some z
 |(.inr A)=>
 some A)
theorem qgG (N:Nat) (l:List qb) (day:Int) {res:Bool} (h:qbH N l day=some res):qp ZT (.fn 3) [vl ql l,.i day] [] (.bool res) []:=by
 unfold qbH at h
 refine Uc Tryz.func3 rfl rfl (m:=114) rfl (rs:=[.tmp 4]) rfl (l:=(kO l [(1,.i day)])) rfl ?_
 refine sh fol (kO l [(1,.i day)]) ?_
 obtain⟨w,a4,h⟩:=bnd h
 refine sq (gr fol [1] (kO l [(1,.i day),(5,vl ql w)]) (ac (cv (qjy N l a4)) az) ?_)
 refine sq ?_
 obtain⟨r2,a5,h⟩:=bnd h
 refine sq (gr fol [1] (kO l [(1,.i day),(5,vl ql w),(21,.bool (!r2))]) (ac (cv (qij N w 30 a5)) az) ?_)
 refine ihB h (fun c3 h=>?_) (fun c3 h=>?_)
 ·obtain⟨r4,a6,h⟩:=bnd h
  refine sq (gr fol [0] [(4,.bool r4)] (ac (cv (qqq a6)) az) ?_)
  refine Goes.ret ?_
  obtain rfl:=si h
  exact(gw2 [.bool r4] (Ub tB))
 refine Goes.skip ?_
 obtain⟨d,a7,h⟩:=bnd h
 refine sq (gq fol [1] (kO l [(1,.i day),(5,vl ql w),(6,.ptr 0 0),(7,vl qG d.2.1),(8,.i d.2.2)]) (kD d.1.Day d.1.Lots d.1.Holds []) (ac (cv (qkE N l a7)) az) ?_)
 obtain⟨j,a8,h⟩:=bnd h
 refine sq (gq fol [2] (kO l (kR day w d.2.1 d.2.2 j.2 [])) (kD d.1.Day d.1.Lots d.1.Holds (kD j.1.Day j.1.Lots j.1.Holds [])) (ac (cv (qls N l day a8)) az) ?_)
 obtain⟨n,a9,h⟩:=bnd h
 refine sq (gr fol [1] (kO l (kR day w d.2.1 d.2.2 j.2 [(11,.i n)])) (ac (cv (qiy N w a9)) az) ?_)
 refine sq ?_
 obtain⟨⟨P,o⟩,g,h⟩:=bnd h
 refine Goes.cut (s':=(ofG 114 (kO l (kR day w d.2.1 d.2.2 j.2 [(11,.i n),(12,.i o)])),(kD d.1.Day d.1.Lots d.1.Holds (kD j.1.Day j.1.Lots j.1.Holds (kAP n P []))))) ?_ ?_
 ·rcases wyD g with⟨c8,g⟩|⟨c8,g⟩
  ·obtain⟨r9,b0,g⟩:=bnd g
   obtain⟨b1,T,g⟩:=bnd g
   simp only[ZI,ZP]at g
   obtain⟨rfl,rfl⟩:=g
   exact zR.rq fol [3,7,9] (kO l (kR day w d.2.1 d.2.2 j.2 [(11,.i n),(12,.i b1)])) (kD d.1.Day d.1.Lots d.1.Holds (kD j.1.Day j.1.Lots j.1.Holds (kAP n r9 []))) (ac (gw c8) (ac (cv (qhG true 3 b0)) (ac (hs (.call 14 [.slice 2 0 2 2 1] (kD d.1.Day d.1.Lots d.1.Holds (kD j.1.Day j.1.Lots j.1.Holds (kAP n r9 []))) [2] [vl encI ([n,r9]:List Int)] (.i b1)) (qaD (FzL.cons (Fz.lit rfl rfl (Uh (AllST.cons tI (AllST.cons tI AllST.nil)))) FzL.nil) (qgP N ([n,r9]:List Int) T) tI rfl)) az)))
  obtain⟨K,U,g⟩:=bnd g
  obtain⟨b2,V,g⟩:=bnd g
  simp only[ZI,ZP]at g
  obtain⟨rfl,rfl⟩:=g
  exact zR.rq fol [3,7,9] (kO l (kR day w d.2.1 d.2.2 j.2 [(11,.i n),(12,.i b2)])) (kD d.1.Day d.1.Lots d.1.Holds (kD j.1.Day j.1.Lots j.1.Holds (kAP n K []))) (ac (gw c8) (ac (cv (qhG (decide (day>99999)) 3 U)) (ac (hs (.call 14 [.slice 2 0 2 2 1] (kD d.1.Day d.1.Lots d.1.Holds (kD j.1.Day j.1.Lots j.1.Holds (kAP n K []))) [2] [vl encI ([n,K]:List Int)] (.i b2)) (qaD (FzL.cons (Fz.lit rfl rfl (Uh (AllST.cons tI (AllST.cons tI AllST.nil)))) FzL.nil) (qgP N ([n,K]:List Int) V) tI rfl)) az)))
 try dsimp only at h
 refine sg fol (kO l (kR day w d.2.1 d.2.2 j.2 (kAw n o []))) (kD d.1.Day d.1.Lots d.1.Holds (kD j.1.Day j.1.Lots j.1.Holds (kAP n P (kF (kF []))))) ?_
 refine sh fol (kO l (kR day w d.2.1 d.2.2 j.2 (kAw n o [(15,.nilslice)]))) ?_
 refine sq ?_
 refine sh fol (kO l (kR day w d.2.1 d.2.2 j.2 (kAw n o [(15,.nilslice),(48,.bool (decide (n=0)))]))) ?_
 obtain⟨r20,g20,h⟩:=bnd h
 refine Goes.imp (Q:=fun x s'=>(x= .normal/\ ∃t u v f,(t,u,v,f)=r20/\Sub s' (ofG 114 (kO l (kR day w d.2.1 d.2.2 j.2 (kAi n o f []))),(kD d.1.Day d.1.Lots d.1.Holds (kD j.1.Day j.1.Lots j.1.Holds (kD t u v (kF []))))))) ?_ ?_
 ·refine ihD g20 (fun c21 g20=>?_) (fun c21 g20=>?_)
  ·obtain⟨L,W,g20⟩:=bnd g20
   refine gq fol [1] (kO l (kR day w d.2.1 d.2.2 j.2 (kAw n o [(15,vl qG L.2)]))) (kD d.1.Day d.1.Lots d.1.Holds (kD j.1.Day j.1.Lots j.1.Holds (kAP n P (kD L.1.Day L.1.Lots L.1.Holds (kF []))))) (ac (cv (qgd N w W)) az) ?_
   obtain rfl:=si g20
   exact⟨rfl,_,_,_,_,rfl,(Sub.norm [] [some 0,some 1,some 3,some 4] rfl rfl (.keep (.same (qN ql _)) (.keep (.same nI) (.keep (.same (qN ql _)) (.kp (.keep (.same (qN qG _)) (.keep (.same nI) (.kp (.keep (.same nI) (.keep (.same nI) (.keep (.same nI) (.kp (.kp (.keep (.same (qN qG _)) .nil))))))))))))) (.kb rfl (.same sn) (.kb rfl (.same sn) (.kb rfl (.same sn) (.kb rfl (.same sn) .nil)))))⟩
  refine Goes.skip ?_
  obtain rfl:=si g20
  exact⟨rfl,_,_,_,_,rfl,(Sub.norm [] [some 0,some 1,some 3,some 4] rfl rfl (.keep (.same (qN ql _)) (.keep (.same nI) (.keep (.same (qN ql _)) (.kp (.keep (.same (qN qG _)) (.keep (.same nI) (.kp (.keep (.same nI) (.keep (.same nI) (.keep (.same nI) (.kp (.kp (.keep .nilv .nil))))))))))))) (.kb rfl (.same sn) (.kb rfl (.same sn) (.kb rfl (.cells (rc (.same nI) (rc (.nilv) (rc (.nilv) rn)))) (.kb rfl (.same sn) .nil)))))⟩
 rintro x s' ⟨rfl,t,u,v,f,rfl,hsub⟩
 try dsimp only at h
 refine Goes.sub hsub ?_
 refine sq ?_
 refine sh fol (kO l (kR day w d.2.1 d.2.2 j.2 (kAi n o f [(55,.bool (decide (o=0)))]))) ?_
 obtain⟨r26,g26,h⟩:=bnd h
 refine Goes.imp (Q:=fun x s'=>(x= .normal/\ ∃B C D,(B,C,D)=r26/\Sub s' (ofG 114 (kO l ((6,.ptr 0 0)::(7,vl qG d.2.1)::(8,.i d.2.2)::(9,.ptr 1 0)::(10,.i j.2)::(kAi n o f []))),(kD d.1.Day d.1.Lots d.1.Holds (kD j.1.Day j.1.Lots j.1.Holds (kD t u v (kD B C D []))))))) ?_ ?_
 ·refine ihD g26 (fun c27 g26=>?_) (fun c27 g26=>?_)
  ·obtain⟨r28,X,g26⟩:=bnd g26
   obtain⟨Y,Z,g26⟩:=bnd g26
   refine gq fol [2,3] (kO l ((6,.ptr 0 0)::(7,vl qG d.2.1)::(8,.i d.2.2)::(9,.ptr 1 0)::(10,.i j.2)::(kAi n o f []))) (kD d.1.Day d.1.Lots d.1.Holds (kD j.1.Day j.1.Lots j.1.Holds (kD t u v (kD Y.1.Day Y.1.Lots Y.1.Holds [])))) (ac (cv (qlw N w day X)) (ac (cv (qgd N r28 Z)) az)) ?_
   obtain rfl:=si g26
   exact⟨rfl,_,_,_,rfl,(Sub.refl _)⟩
  refine Goes.skip ?_
  obtain rfl:=si g26
  exact⟨rfl,_,_,_,rfl,(Sub.norm [] [some 0,some 1,some 2,some 3] rfl rfl (.keep (.same (qN ql _)) (.drop (.drop (.kp (.keep (.same (qN qG _)) (.keep (.same nI) (.kp (.keep (.same nI) (.keep (.same nI) (.keep (.same nI) (.kp (.kp (.keep (.same (qN qG _)) .nil))))))))))))) (.kb rfl (.same sn) (.kb rfl (.same sn) (.kb rfl (.same sn) (.kb rfl (.cells (rc (.same nI) (rc (.nilv) (rc (.nilv) rn)))) .nil)))))⟩
 rintro x s' ⟨rfl,B,C,D,rfl,hsub⟩
 try dsimp only at h
 refine Goes.sub hsub ?_
 refine sq ?_
 refine sq ?_
 obtain⟨b40,c,h⟩:=bnd h
 refine Goes.cut (s':=(ofG 114 (kAB d.2.1 f [(97,.bool b40)]),(kD d.1.Day d.1.Lots d.1.Holds (kD j.1.Day j.1.Lots j.1.Holds (kD t u v (kD B C D [])))))) ?_ ?_
 ·obtain⟨r30,k,c⟩:=bnd c
  rcases wyB c with⟨y,c⟩|⟨y,c⟩
  ·obtain rfl:=si c
   exact tr fol [1,4] (kAB d.2.1 f [(97,.bool true)]) (ac (cv (yB N l k)) (ac (gw y) az))
  rcases wyB c with⟨E,c⟩|⟨E,c⟩
  ·obtain rfl:=si c
   exact tr fol [1,4,9] (kAB d.2.1 f [(97,.bool true)]) (ac (cv (yB N l k)) (ac (gw y) (ac (gw E) az)))
  rcases wyB c with⟨F,c⟩|⟨F,c⟩
  ·obtain rfl:=si c
   exact tr fol [1,4,9,14] (kAB d.2.1 f [(97,.bool true)]) (ac (cv (yB N l k)) (ac (gw y) (ac (gw E) (ac (gw F) az))))
  obtain⟨a0,z,c⟩:=bnd c
  obtain⟨r35,A,c⟩:=bnd c
  rcases wyB c with⟨O,c⟩|⟨O,c⟩
  ·obtain rfl:=si c
   exact tr fol [1,4,9,14,16,18,21] (kAB d.2.1 f [(97,.bool true)]) (ac (cv (yB N l k)) (ac (gw y) (ac (gw E) (ac (gw F) (ac (cv (qbM N (⟨d.1.Day,d.1.Lots,d.1.Holds⟩:StateT) z)) (ac (cv (qch N a0 (⟨t,u,v⟩:qL) A)) (ac (gw O) az)))))))
  obtain⟨b3,G,c⟩:=bnd c
  obtain⟨r38,H,c⟩:=bnd c
  rcases wyB c with⟨a1,c⟩|⟨a1,c⟩
  ·obtain rfl:=si c
   exact tr fol [1,4,9,14,16,18,21,23,25,28] (kAB d.2.1 f [(97,.bool true)]) (ac (cv (yB N l k)) (ac (gw y) (ac (gw E) (ac (gw F) (ac (cv (qbM N (⟨d.1.Day,d.1.Lots,d.1.Holds⟩:StateT) z)) (ac (cv (qch N a0 (⟨t,u,v⟩:qL) A)) (ac (gw O) (ac (cv (qbM N (⟨j.1.Day,j.1.Lots,j.1.Holds⟩:StateT) G)) (ac (cv (qch N b3 (⟨B,C,D⟩:qL) H)) (ac (gw a1) az))))))))))
  obtain rfl:=si c
  exact tr fol [1,4,9,14,16,18,21,23,25,28] (kAB d.2.1 f [(97,.bool (!decide ((d.2.1.length:Int)=(f.length:Int))))]) (ac (cv (yB N l k)) (ac (gw y) (ac (gw E) (ac (gw F) (ac (cv (qbM N (⟨d.1.Day,d.1.Lots,d.1.Holds⟩:StateT) z)) (ac (cv (qch N a0 (⟨t,u,v⟩:qL) A)) (ac (gw O) (ac (cv (qbM N (⟨j.1.Day,j.1.Lots,j.1.Holds⟩:StateT) G)) (ac (cv (qch N b3 (⟨B,C,D⟩:qL) H)) (ac (gw a1) az))))))))))
 refine ihB h (fun c42 h=>?_) (fun c42 h=>?_)
 ·refine sh fol kAt ?_
  refine Goes.ret ?_
  obtain rfl:=si h
  exact(gw2 [.bool false] (Ub tB))
 refine Goes.skip ?_
 refine sq ?_
 refine sh fol (kAB d.2.1 f [(99,.i (f.length:Int)),(100,.i 0)]) ?_
 refine Goes.block ?_
 obtain⟨a2,g44,h⟩:=bnd h
 refine Goes.imp (Q:=fun x s'=>(x= .exit 0/\(.inl ())=a2/\Sub s' (ofG 114 [],[]))\/(x= .ret/\ ∃b4,(.inr b4)=a2/\jF ZT [.tmp 4] (.bool b4) .ret s')) ?_ ?_
 ·refine Goes.sub (s':=(ofG 114 (kAB d.2.1 f [(99,.i (f.length:Int)),(100,.i 0)]),[])) (Sub.norm [] [] rfl rfl (.keep (.same (qN qG _)) (.keep (.same (qN qG _)) (.keep (.same nI) (.keep (.same nI) .nil)))) .nil) ?_
  refine Ud (fun M s=> ∃(p:Int),s=(ofG 114 (kAB d.2.1 f [(99,.i (f.length:Int)),(100,.i p)]),[])/\jY d f M p=some a2) ?_ (m:=N) ⟨_,rfl,g44⟩
  rintro M s ⟨p,rfl,g44⟩
  cases M with
  |zero=>simp only[jY]at g44;cases g44
  |succ M=>
   rw[jY]at g44
   refine sh fol (kAB d.2.1 f [(99,.i (f.length:Int)),(100,.i p),(101,.bool (decide (p<(f.length:Int))))]) ?_
   refine sq ?_
   refine ihD g44 (fun c46 g44=>?_) (fun c46 g44=>?_)
   ·refine Goes.skip ?_
    refine sq (Goes.block ?_)
    refine sh fol (kAB d.2.1 f [(16,.i p),(99,.i (f.length:Int)),(100,.i p)]) ?_
    obtain⟨q,I,g44⟩:=bnd g44
    obtain⟨r,J,g44⟩:=bnd g44
    refine sq (gr fol [2,3,6,7,8] (kAB d.2.1 f [(99,.i (f.length:Int)),(100,.i p),(111,.bool (!(decide (q.Number=r.Number)&&(decide (q.Rule=r.Rule)&&true))))]) (ac (iv sl31 qG I) (ac (la ag53 qG I) (ac (iv sl44 qG J) (ac (la ag52 qG J) (ac (hs (.done (.opt (qgu ZT .neq 52 (.tmp 106) (.tmp 110) (.agg [.i q.Number,.i q.Rule]) (.agg [.i r.Number,.i r.Rule]))) (.bool (!(decide (q.Number=r.Number)&&(decide (q.Rule=r.Rule)&&true))))) (qp9 eqt52 (e:=(decide (q.Number=r.Number)&&(decide (q.Rule=r.Rule)&&true))) (.cons (a:= .i q.Number) (b:= .i r.Number) rfl (by kernel_rfl) (by kernel_rfl) (by kernel_rfl) (.cons (a:= .i q.Rule) (b:= .i r.Rule) rfl (by kernel_rfl) (by kernel_rfl) (by kernel_rfl) .nil)))) az))))) ?_)
    refine ihB g44 (fun c49 g44=>?_) (fun c49 g44=>?_)
    ·refine sh fol kAt ?_
     refine Goes.ret ?_
     obtain rfl:=si g44
     exact Or.inr (⟨rfl,_,rfl,(gw2 [.bool false] (Ub tB))⟩)
    refine Goes.skip ?_
    refine gh fol (kAB d.2.1 f [(99,.i (f.length:Int)),(100,.i (w64 (p+1)))]) ?_
    exact⟨M,(ofG 114 (kAB d.2.1 f [(99,.i (f.length:Int)),(100,.i (w64 (p+1)))]),[]),Nat.lt_succ_self _,(Sub.refl _),_,rfl,g44⟩
   refine Goes.exit ?_
   obtain rfl:=si g44
   exact Or.inl (⟨rfl,rfl,(Sub.keep [] rfl rfl)⟩)
 rintro x s' (⟨rfl,rfl,hsub⟩|⟨rfl,q51,rfl,hret⟩)
 ·try dsimp only at h
  refine Goes.sub hsub ?_
  obtain⟨b5,a3,h⟩:=bnd h
  refine sq (gr fol [0] [(4,.bool b5)] (ac (cv (qqq a3)) az) ?_)
  refine Goes.ret ?_
  obtain rfl:=si h
  exact(gw2 [.bool b5] (Ub tB))
 try dsimp only at h
 obtain rfl:=si h
 exact hret
end Go.Av
