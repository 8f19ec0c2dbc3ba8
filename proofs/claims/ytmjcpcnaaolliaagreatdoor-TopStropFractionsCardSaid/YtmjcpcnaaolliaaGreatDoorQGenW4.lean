/-
  Walks of functions: what each computes, as a plain function.
-/
import Derived.Test.YtmjcpcnaaolliaaGreatDoorQGenW3
noncomputable section
namespace Go.Av
open Go.Proofs Go.RowKit
set_option linter.unusedSectionVars false
set_option linter.unusedVariables false
set_option linter.unusedSimpArgs false
set_option maxRecDepth 100000
def zP (N:Nat) (r:qj):Nat->Int->(List Int)->Int->(List Int)->Int->(List Int)->Int->(List Int)->Int->(List Int)->Int->(List Int)->Int->(List Int)->Int->(List Int)->Int->(List Int)->Int->(List Int)->Option ((Int×(List Int)×Int×(List Int)×Int×(List Int)×Int×(List Int)×Int×(List Int)×Int×(List Int)×Int×(List Int)×Int×(List Int))⊕(Str×Int))
 |0,_,_,_,_,_,_,_,_,_,_,_,_,_,_,_,_,_,_,_,_=>none
 |K+1,t,u,v,x,y,z,A,B,c,e,f,g,h,i,j,k,l,m,o,p=>
  (xm N (⟨(⟨l,m⟩:qd),(⟨o,p⟩:qd)⟩:qj)).bind fun q=>
  (ko N (⟨(⟨(⟨c,e⟩:qd),(⟨f,g⟩:qd)⟩:qj),(⟨(⟨h,i⟩:qd),(⟨j,k⟩:qd)⟩:qj)⟩:jv) q (⟨(⟨(⟨t,u⟩:qd),(⟨v,x⟩:qd)⟩:qj),(⟨(⟨y,z⟩:qd),(⟨A,B⟩:qd)⟩:qj)⟩:jv)).bind fun a=>
  (jO N a.d r).bind fun D=>
  if D>0 then
  some (.inl (t,u,v,x,y,z,A,B,c,e,f,g,h,i,j,k))
  else
  (jO N (⟨(⟨l,m⟩:qd),(⟨o,p⟩:qd)⟩:qj) q).bind fun E=>
  if E=0 then
  (jM N a.n a.d).bind fun F=>
  (vK N F).bind fun C=>
  some (.inr (C.1,C.2))
  else
  (vI N (⟨(⟨l,m⟩:qd),(⟨o,p⟩:qd)⟩:qj) q).bind fun G=>
  (qag N G).bind fun b=>
  zP N r K c e f g h i j k a.n.Num.s a.n.Num.w a.n.Den.s a.n.Den.w a.d.Num.s a.d.Num.w a.d.Den.s a.d.Den.w b.Num.s b.Num.w b.Den.s b.Den.w
def yh (N:Nat) (A:Str) (most:Int):Option (Str×Int):=
 ((qaU N A).bind fun B=>
 if most<1 then
 (qW true 3).bind fun r3=>
 (jL N ([B,r3]:List Int)).bind fun r4=>
 some (B,r3,r4)
 else
 (qW (decide (most>999999999)) 3).bind fun r5=>
 (jL N ([B,r5]:List Int)).bind fun r6=>
 some (B,r5,r6):Option (Int×Int×Int)).bind fun(n7,n8,n9)=>
 if(!decide (n9=0))=true then
 some ([],n9)
 else
 (qfs most).bind fun o=>
 (qfs 0).bind fun c=>
 (qfs 1).bind fun e=>
 (qfs 1).bind fun f=>
 (qfs 0).bind fun g=>
 (qb7 N A).bind fun h=>
 (zP N o N c.Num.s c.Num.w c.Den.s c.Den.w e.Num.s e.Num.w e.Den.s e.Den.w f.Num.s f.Num.w f.Den.s f.Den.w g.Num.s g.Num.w g.Den.s g.Den.w h.Num.s h.Num.w h.Den.s h.Den.w).bind (fun
 |(.inl (C,D,E,F,p,q,r,t,u,v,x,y,i,j,k,l))=>
 (vI N o (⟨(⟨p,q⟩:qd),(⟨r,t⟩:qd)⟩:qj)).bind fun G=>
 (jM N G (⟨(⟨i,j⟩:qd),(⟨k,l⟩:qd)⟩:qj)).bind fun H=>
 (xm N H).bind fun I=>
 (ko N (⟨(⟨(⟨u,v⟩:qd),(⟨x,y⟩:qd)⟩:qj),(⟨(⟨i,j⟩:qd),(⟨k,l⟩:qd)⟩:qj)⟩:jv) I (⟨(⟨(⟨C,D⟩:qd),(⟨E,F⟩:qd)⟩:qj),(⟨(⟨p,q⟩:qd),(⟨r,t⟩:qd)⟩:qj)⟩:jv)).bind fun m=>
 (jM N (⟨(⟨u,v⟩:qd),(⟨x,y⟩:qd)⟩:qj) (⟨(⟨i,j⟩:qd),(⟨k,l⟩:qd)⟩:qj)).bind fun a=>
 (jM N m.n m.d).bind fun b=>
 (qb7 N A).bind fun J=>
 (qbg N a J).bind fun K=>
 (qb7 N A).bind fun L=>
 (qbg N b L).bind fun M=>
 (jO N K M).bind fun O=>
 (jO N (⟨(⟨i,j⟩:qd),(⟨k,l⟩:qd)⟩:qj) m.d).bind fun P=>
 (jO N a b).bind fun Q=>
 (qb5 N ([O,P,Q]:List Int)).bind fun U=>
 ((if U>0 then
 some (b.Num.s,b.Num.w,b.Den.s,b.Den.w)
 else
 some (a.Num.s,a.Num.w,a.Den.s,a.Den.w):Option (Int×(List Int)×Int×(List Int)))).bind fun(V,X,Y,Z)=>
 (vK N (⟨(⟨V,X⟩:qd),(⟨Y,Z⟩:qd)⟩:qj)).bind fun z=>
 some (z.1,z.2)
 |(.inr a0)=>
 some a0)
theorem qaZ (N:Nat) (X:Str) (most:Int) {res:Str×Int} (h:yh N X most=some res):qb ZT (.fn 23) [.str X,.i most] [] (.tuple [.str res.1,.i res.2]) []:=by
 unfold yh at h
 refine Ub Tryz.func23 rfl rfl (m:=117) rfl (rs:=[.tmp 4,.tmp 5]) rfl (l:=(kA1 X [(1,.i most)])) rfl ?_
 refine sh fol (kA1 X [(1,.i most)]) ?_
 refine sq ?_
 refine sq ?_
 obtain⟨⟨n7,n8,n9⟩,c,h⟩:=bnd h
 refine Goes.cut (s':=(ofG 117 (kA1 X [(1,.i most),(6,.i n9)]),(kAf n7 n8 []))) ?_ ?_
 ·obtain⟨r1,e_r1,c⟩:=bnd c
  rcases wyD c with⟨c2,c⟩|⟨c2,c⟩
  ·obtain⟨r3,e_r3,c⟩:=bnd c
   obtain⟨r4,e_r4,c⟩:=bnd c
   simp only[ZI,ZP]at c
   obtain⟨rfl,rfl,rfl⟩:=c
   exact xB.rq fol [1,4,8,10] (kA1 X [(1,.i most),(6,.i r4)]) (kAf r1 r3 []) (ac (cv (qdv N X e_r1)) (ac (gw c2) (ac (cv (yj true 3 e_r3)) (ac (hs (.call 79 [.slice 0 0 2 2 1] (kAf r1 r3 []) [0] [vl encI ([r1,r3]:List Int)] (.i r4)) (qfS (FzL.cons (Fz.lit rfl rfl (Uf (AllST.cons tI (AllST.cons tI AllST.nil)))) FzL.nil) (qaA N ([r1,r3]:List Int) e_r4) tI rfl)) az))))
  obtain⟨r5,e_r5,c⟩:=bnd c
  obtain⟨r6,e_r6,c⟩:=bnd c
  simp only[ZI,ZP]at c
  obtain⟨rfl,rfl,rfl⟩:=c
  exact xB.rq fol [1,4,8,10] (kA1 X [(1,.i most),(6,.i r6)]) (kAf r1 r5 []) (ac (cv (qdv N X e_r1)) (ac (gw c2) (ac (cv (yj (decide (most>999999999)) 3 e_r5)) (ac (hs (.call 79 [.slice 0 0 2 2 1] (kAf r1 r5 []) [0] [vl encI ([r1,r5]:List Int)] (.i r6)) (qfS (FzL.cons (Fz.lit rfl rfl (Uf (AllST.cons tI (AllST.cons tI AllST.nil)))) FzL.nil) (qaA N ([r1,r5]:List Int) e_r6) tI rfl)) az))))
 try dsimp only at h
 refine sh fol (kA1 X [(1,.i most),(6,.i n9),(29,.bool (!decide (n9=0)))]) ?_
 refine ihB h (fun c11 h=>?_) (fun c11 h=>?_)
 ·refine sh fol ((4,.str [])::(kAt n9)) ?_
  refine Goes.ret ?_
  obtain rfl:=si h
  exact(gw2 [.str [],.i n9] (FzW.tuple (qc.cons (Ua tS) (qc.cons (Ua tI) qc.nil))))
 refine Goes.skip ?_
 obtain⟨a,e_r12,h⟩:=bnd h
 refine sq (gq fol [1,3] (kA1 X [(7,.ptr 1 0)]) (kAf n7 n8 [.cells (nq1 a)]) (ac (cv (qdS most e_r12)) (ac (hs (.run [1] (qm ZT 100 (.ptr 1 0) (.agg (nq1 a))) (kAf n7 n8 (kF [])) .undef (kAf n7 n8 [.cells (nq1 a)]) true) (qJ (n:=4) (by kernel_rfl) rfl rfl rfl rfl (cac rfl (cac nvc (cac rfl (cac nvc can)))) rfl)) az)) ?_)
 obtain⟨a8,e_r13,h⟩:=bnd h
 obtain⟨a9,e_r14,h⟩:=bnd h
 obtain⟨b0,e_r15,h⟩:=bnd h
 obtain⟨b1,e_r16,h⟩:=bnd h
 refine sq (gq fol [0,1,3,4,8,9] (kA1 X [(7,.ptr 1 0),(8,.ptr 2 0),(9,.ptr 3 0)]) (kAf n7 n8 [.cells (nq1 a),.cells (nq2 a8 a9),.cells (nq2 b0 b1)]) (ac (cv (qdS 0 e_r13)) (ac (cv (qdS 1 e_r14)) (ac (cv (qdS 1 e_r15)) (ac (cv (qdS 0 e_r16)) (ac (hs (.run [2] (qm ZT 114 (.ptr 2 0) (.agg (nq2 a8 a9))) (kAf n7 n8 (.cells (nq1 a)::(kS (kS [])))) .undef (kAf n7 n8 (.cells (nq1 a):: .cells (nq2 a8 a9)::(kS []))) true) (qJ (n:=8) (by kernel_rfl) rfl rfl rfl rfl (cac rfl (cac nvc (cac rfl (cac nvc (cac rfl (cac nvc (cac rfl (cac nvc can)))))))) rfl)) (ac (hs (.run [3] (qm ZT 114 (.ptr 3 0) (.agg (nq2 b0 b1))) (kAf n7 n8 (.cells (nq1 a):: .cells (nq2 a8 a9)::(kS []))) .undef (kAf n7 n8 [.cells (nq1 a),.cells (nq2 a8 a9),.cells (nq2 b0 b1)]) true) (qJ (n:=8) (by kernel_rfl) rfl rfl rfl rfl (cac rfl (cac nvc (cac rfl (cac nvc (cac rfl (cac nvc (cac rfl (cac nvc can)))))))) rfl)) az)))))) ?_)
 obtain⟨r17,e_r17,h⟩:=bnd h
 refine sq (gq fol [1,3] (kA1 X [(7,.ptr 1 0),(8,.ptr 2 0),(9,.ptr 3 0),(10,.ptr 4 0)]) (kAf n7 n8 [.cells (nq1 a),.cells (nq2 a8 a9),.cells (nq2 b0 b1),.cells (nq1 r17)]) (ac (cv (qec N X e_r17)) (ac (hs (.run [4] (qm ZT 100 (.ptr 4 0) (.agg (nq1 r17))) (kAf n7 n8 (.cells (nq1 a):: .cells (nq2 a8 a9):: .cells (nq2 b0 b1)::(kF []))) .undef (kAf n7 n8 [.cells (nq1 a),.cells (nq2 a8 a9),.cells (nq2 b0 b1),.cells (nq1 r17)]) true) (qJ (n:=4) (by kernel_rfl) rfl rfl rfl rfl (cac rfl (cac nvc (cac rfl (cac nvc can)))) rfl)) az)) ?_)
 refine sq (Goes.block ?_)
 obtain⟨r54,e,h⟩:=bnd h
 refine Goes.imp (Q:=fun x s'=>(x= .exit 0/\ ∃L O P U z A B C D E F G u v w y,(.inl (L,O,P,U,z,A,B,C,D,E,F,G,u,v,w,y))=r54/\Sub s' (ofG 117 (kA1 X [(7,.ptr 0 0),(8,.ptr 1 0),(9,.ptr 2 0)]),[.cells (nq1 a),.cells (ni4 L O P U z A B C),.cells (ni4 D E F G u v w y)]))\/(x= .ret/\ ∃q55,(.inr q55)=r54/\jZ ZT [.tmp 4,.tmp 5] (.tuple [.str q55.1,.i q55.2]) .ret s')) ?_ ?_
 ·refine Goes.sub (s':=(ofG 117 (kR X []),[.cells (nq1 a),.cells (nq2 a8 a9),.cells (nq2 b0 b1),.cells (nq1 r17)])) (Sub.norm [] [some 1,some 2,some 3,some 4] rfl rfl (.keep (.same nS) (.kp (.kp (.kp (.kp .nil))))) (.kb rfl (.same sn) (.kb rfl (.same sn) (.kb rfl (.same sn) (.kb rfl (.same sn) .nil))))) ?_
  refine Uc (fun M s=> ∃(Z:Int) (a0:List Int) (a1:Int) (a2:List Int) (a3:Int) (a4:List Int) (a5:Int) (a6:List Int) (g:Int) (j:List Int) (k:Int) (o:List Int) (p:Int) (q:List Int) (r:Int) (t:List Int) (H:Int) (I:List Int) (J:Int) (K:List Int),s=(ofG 117 (kR X []),[.cells (nq1 a),.cells (ni4 Z a0 a1 a2 a3 a4 a5 a6),.cells (ni4 g j k o p q r t),.cells (ni2 H I J K)])/\zP N a M Z a0 a1 a2 a3 a4 a5 a6 g j k o p q r t H I J K=some r54) ?_ (m:=N) ⟨_,_,_,_,_,_,_,_,_,_,_,_,_,_,_,_,_,_,_,_,rfl,e⟩
  rintro M s ⟨Z,a0,a1,a2,a3,a4,a5,a6,g,j,k,o,p,q,r,t,H,I,J,K,rfl,e⟩
  cases M with
  |zero=>simp only[zP]at e;cases e
  |succ M=>
   rw[zP]at e
   refine Goes.block ?_
   obtain⟨V,e_r56,e⟩:=bnd e
   refine sq (gq fol [1,3] (kR X [(11,.ptr 4 0)]) [.cells (nq1 a),.cells (ni4 Z a0 a1 a2 a3 a4 a5 a6),.cells (ni4 g j k o p q r t),.cells (ni2 H I J K),.cells (nq1 V)] (ac (cv (qdu N (⟨(⟨H,I⟩:qd),(⟨J,K⟩:qd)⟩:qj) e_r56)) (ac (hs (.run [4] (qm ZT 100 (.ptr 4 0) (.agg (nq1 V))) (.cells (nq1 a):: .cells (ni4 Z a0 a1 a2 a3 a4 a5 a6):: .cells (ni4 g j k o p q r t):: .cells (ni2 H I J K)::(kF [])) .undef [.cells (nq1 a),.cells (ni4 Z a0 a1 a2 a3 a4 a5 a6),.cells (ni4 g j k o p q r t),.cells (ni2 H I J K),.cells (nq1 V)] true) (qJ (n:=4) (by kernel_rfl) rfl rfl rfl rfl (cac rfl (cac nvc (cac rfl (cac nvc can)))) rfl)) az)) ?_)
   obtain⟨b,e_r57,e⟩:=bnd e
   refine sq (gq fol [3,5] (kR X [(11,.ptr 4 0),(12,.ptr 5 0)]) [.cells (nq1 a),.cells (ni4 Z a0 a1 a2 a3 a4 a5 a6),.cells (ni4 g j k o p q r t),.cells (ni2 H I J K),.cells (nq1 V),.cells (nq2 b.n b.d)] (ac (cv (qaI N (⟨(⟨(⟨g,j⟩:qd),(⟨k,o⟩:qd)⟩:qj),(⟨(⟨p,q⟩:qd),(⟨r,t⟩:qd)⟩:qj)⟩:jv) V (⟨(⟨(⟨Z,a0⟩:qd),(⟨a1,a2⟩:qd)⟩:qj),(⟨(⟨a3,a4⟩:qd),(⟨a5,a6⟩:qd)⟩:qj)⟩:jv) e_r57)) (ac (hs (.run [5] (qm ZT 114 (.ptr 5 0) (.agg (nq2 b.n b.d))) (.cells (nq1 a):: .cells (ni4 Z a0 a1 a2 a3 a4 a5 a6):: .cells (ni4 g j k o p q r t):: .cells (ni2 H I J K):: .cells (nq1 V)::(kS [])) .undef [.cells (nq1 a),.cells (ni4 Z a0 a1 a2 a3 a4 a5 a6),.cells (ni4 g j k o p q r t),.cells (ni2 H I J K),.cells (nq1 V),.cells (nq2 b.n b.d)] true) (qJ (n:=8) (by kernel_rfl) rfl rfl rfl rfl (cac rfl (cac nvc (cac rfl (cac nvc (cac rfl (cac nvc (cac rfl (cac nvc can)))))))) rfl)) az)) ?_)
   refine sq ?_
   obtain⟨r58,e_r58,e⟩:=bnd e
   refine sq (gr fol [3] (kR X [(11,.ptr 4 0),(12,.ptr 5 0),(51,.bool (decide (r58>0)))]) (ac (cv (xz N b.d a e_r58)) az) ?_)
   refine ihD e (fun c59 e=>?_) (fun c59 e=>?_)
   ·refine Goes.exit ?_
    obtain rfl:=si e
    exact Or.inl (⟨rfl,_,_,_,_,_,_,_,_,_,_,_,_,_,_,_,_,rfl,(Sub.norm [] [some 0,some 1,some 2] rfl rfl (.keep (.same nS) (.kp (.kp (.kp .nil)))) (.kb rfl (.same sn) (.kb rfl (.same sn) (.kb rfl (.same sn) .nil))))⟩)
   refine Goes.skip ?_
   refine sq (gq fol [2,3] (kR X [(11,.ptr 4 0)]) [.cells (nq1 a),.cells (ni4 g j k o p q r t),.cells (nq2 b.n b.d),.cells (ni2 H I J K),.cells (nq1 V),.cells (nq2 b.n b.d)] (ac (hs (.run [1] (qm ZT 114 (.ptr 1 0) (.agg (ni4 g j k o p q r t))) [.cells (nq1 a),.cells (ni4 Z a0 a1 a2 a3 a4 a5 a6),.cells (ni4 g j k o p q r t),.cells (ni2 H I J K),.cells (nq1 V),.cells (nq2 b.n b.d)] .undef [.cells (nq1 a),.cells (ni4 g j k o p q r t),.cells (ni4 g j k o p q r t),.cells (ni2 H I J K),.cells (nq1 V),.cells (nq2 b.n b.d)] true) (qJ (n:=8) (by kernel_rfl) rfl rfl rfl rfl (cac rfl (cac nvc (cac rfl (cac nvc (cac rfl (cac nvc (cac rfl (cac nvc can)))))))) rfl)) (ac (hs (.run [2] (qm ZT 114 (.ptr 2 0) (.agg (nq2 b.n b.d))) [.cells (nq1 a),.cells (ni4 g j k o p q r t),.cells (ni4 g j k o p q r t),.cells (ni2 H I J K),.cells (nq1 V),.cells (nq2 b.n b.d)] .undef [.cells (nq1 a),.cells (ni4 g j k o p q r t),.cells (nq2 b.n b.d),.cells (ni2 H I J K),.cells (nq1 V),.cells (nq2 b.n b.d)] true) (qJ (n:=8) (by kernel_rfl) rfl rfl rfl rfl (cac rfl (cac nvc (cac rfl (cac nvc (cac rfl (cac nvc (cac rfl (cac nvc can)))))))) rfl)) az)) ?_)
   refine sq ?_
   obtain⟨r60,e_r60,e⟩:=bnd e
   refine sq (gr fol [2] (kR X [(11,.ptr 4 0),(57,.bool (decide (r60=0)))]) (ac (cv (xz N (⟨(⟨H,I⟩:qd),(⟨J,K⟩:qd)⟩:qj) V e_r60)) az) ?_)
   refine ihD e (fun c61 e=>?_) (fun c61 e=>?_)
   ·obtain⟨r62,e_r62,e⟩:=bnd e
    obtain⟨r63,e_r63,e⟩:=bnd e
    refine sq (gr fol [4,5] ((4,.str r63.1)::(kAt r63.2)) (ac (cv (qaz N b.n b.d e_r62)) (ac (cv (qcH N r62 e_r63)) az)) ?_)
    refine Goes.ret ?_
    obtain rfl:=si e
    exact Or.inr (⟨rfl,_,rfl,(gw2 [.str r63.1,.i r63.2] (FzW.tuple (qc.cons (Ua tS) (qc.cons (Ua tI) qc.nil))))⟩)
   refine Goes.skip ?_
   obtain⟨r64,e_r64,e⟩:=bnd e
   obtain⟨r65,e_r65,e⟩:=bnd e
   refine gq fol [2,3,4] (kR X []) [.cells (nq1 a),.cells (ni4 g j k o p q r t),.cells (nq2 b.n b.d),.cells (nq1 r65),.cells (nq1 V),.cells (nq2 b.n b.d)] (ac (cv (qax N (⟨(⟨H,I⟩:qd),(⟨J,K⟩:qd)⟩:qj) V e_r64)) (ac (cv (qdx N r64 e_r65)) (ac (hs (.run [3] (qm ZT 100 (.ptr 3 0) (.agg (nq1 r65))) [.cells (nq1 a),.cells (ni4 g j k o p q r t),.cells (nq2 b.n b.d),.cells (ni2 H I J K),.cells (nq1 V),.cells (nq2 b.n b.d)] .undef [.cells (nq1 a),.cells (ni4 g j k o p q r t),.cells (nq2 b.n b.d),.cells (nq1 r65),.cells (nq1 V),.cells (nq2 b.n b.d)] true) (qJ (n:=4) (by kernel_rfl) rfl rfl rfl rfl (cac rfl (cac nvc (cac rfl (cac nvc can)))) rfl)) az))) ?_
   exact⟨M,(ofG 117 (kR X []),[.cells (nq1 a),.cells (ni4 g j k o p q r t),.cells (nq2 b.n b.d),.cells (nq1 r65)]),Nat.lt_succ_self _,(Sub.norm [] [some 0,some 1,some 2,some 3] rfl rfl (.keep (.same nS) (.kp (.kp (.kp (.kp .nil))))) (.kb rfl (.same sn) (.kb rfl (.same sn) (.kb rfl (.same sn) (.kb rfl (.same sn) .nil))))),_,_,_,_,_,_,_,_,_,_,_,_,_,_,_,_,_,_,_,_,rfl,e⟩
 rintro x s' (⟨rfl,L,O,P,U,z,A,B,C,D,E,F,G,u,v,w,y,rfl,hsub⟩|⟨rfl,q87,rfl,hret⟩)
 ·try dsimp only at h
  refine Goes.sub hsub ?_
  obtain⟨r66,e_r66,h⟩:=bnd h
  obtain⟨r67,e_r67,h⟩:=bnd h
  obtain⟨r68,e_r68,h⟩:=bnd h
  obtain⟨f,e_r69,h⟩:=bnd h
  refine sq (gq fol [4,7,8,10,12] (kA1 X [(9,.ptr 2 0),(13,.ptr 3 0)]) [.cells (nq1 a),.cells (ni4 L O P U z A B C),.cells (ni4 D E F G u v w y),.cells (nq2 f.n f.d)] (ac (cv (qax N a (⟨(⟨z,A⟩:qd),(⟨B,C⟩:qd)⟩:qj) e_r66)) (ac (cv (qaz N r66 (⟨(⟨u,v⟩:qd),(⟨w,y⟩:qd)⟩:qj) e_r67)) (ac (cv (qdu N r67 e_r68)) (ac (cv (qaI N (⟨(⟨(⟨D,E⟩:qd),(⟨F,G⟩:qd)⟩:qj),(⟨(⟨u,v⟩:qd),(⟨w,y⟩:qd)⟩:qj)⟩:jv) r68 (⟨(⟨(⟨L,O⟩:qd),(⟨P,U⟩:qd)⟩:qj),(⟨(⟨z,A⟩:qd),(⟨B,C⟩:qd)⟩:qj)⟩:jv) e_r69)) (ac (hs (.run [3] (qm ZT 114 (.ptr 3 0) (.agg (nq2 f.n f.d))) (.cells (nq1 a):: .cells (ni4 L O P U z A B C):: .cells (ni4 D E F G u v w y)::(kS [])) .undef [.cells (nq1 a),.cells (ni4 L O P U z A B C),.cells (ni4 D E F G u v w y),.cells (nq2 f.n f.d)] true) (qJ (n:=8) (by kernel_rfl) rfl rfl rfl rfl (cac rfl (cac nvc (cac rfl (cac nvc (cac rfl (cac nvc (cac rfl (cac nvc can)))))))) rfl)) az))))) ?_)
  obtain⟨a7,e_r70,h⟩:=bnd h
  obtain⟨Y,e_r71,h⟩:=bnd h
  refine sq (gq fol [4,9,12,13] (kA1 X ((9,.ptr 2 0)::(13,.ptr 3 0)::(kAn []))) [.cells (nq1 a),.cells (ni4 L O P U z A B C),.cells (ni4 D E F G u v w y),.cells (nq2 f.n f.d),.cells (nq1 a7),.cells (nq1 Y)] (ac (cv (qaz N (⟨(⟨D,E⟩:qd),(⟨F,G⟩:qd)⟩:qj) (⟨(⟨u,v⟩:qd),(⟨w,y⟩:qd)⟩:qj) e_r70)) (ac (cv (qaz N f.n f.d e_r71)) (ac (hs (.run [4] (qm ZT 100 (.ptr 4 0) (.agg (nq1 a7))) (.cells (nq1 a):: .cells (ni4 L O P U z A B C):: .cells (ni4 D E F G u v w y):: .cells (nq2 f.n f.d)::(kF (kF []))) .undef (.cells (nq1 a):: .cells (ni4 L O P U z A B C):: .cells (ni4 D E F G u v w y):: .cells (nq2 f.n f.d):: .cells (nq1 a7)::(kF [])) true) (qJ (n:=4) (by kernel_rfl) rfl rfl rfl rfl (cac rfl (cac nvc (cac rfl (cac nvc can)))) rfl)) (ac (hs (.run [5] (qm ZT 100 (.ptr 5 0) (.agg (nq1 Y))) (.cells (nq1 a):: .cells (ni4 L O P U z A B C):: .cells (ni4 D E F G u v w y):: .cells (nq2 f.n f.d):: .cells (nq1 a7)::(kF [])) .undef [.cells (nq1 a),.cells (ni4 L O P U z A B C),.cells (ni4 D E F G u v w y),.cells (nq2 f.n f.d),.cells (nq1 a7),.cells (nq1 Y)] true) (qJ (n:=4) (by kernel_rfl) rfl rfl rfl rfl (cac rfl (cac nvc (cac rfl (cac nvc can)))) rfl)) az)))) ?_)
  obtain⟨r72,e_r72,h⟩:=bnd h
  obtain⟨r73,e_r73,h⟩:=bnd h
  obtain⟨r74,e_r74,h⟩:=bnd h
  obtain⟨r75,e_r75,h⟩:=bnd h
  obtain⟨b2,e_r76,h⟩:=bnd h
  obtain⟨b3,e_r77,h⟩:=bnd h
  obtain⟨b4,e_r78,h⟩:=bnd h
  obtain⟨r79,e_r79,h⟩:=bnd h
  refine sq (gq fol [2,3,6,7,8,13,16,18] (kAn [(16,.i r79)]) [.cells (nq1 a),.cells (ni4 L O P U z A B C),.cells (ni4 D E F G u v w y),.cells (nq2 f.n f.d),.cells (nq1 a7),.cells (nq1 Y),.cells [.i b2,.i b3,.i b4]] (ac (cv (qec N X e_r72)) (ac (cv (qeG N a7 r72 e_r73)) (ac (cv (qec N X e_r74)) (ac (cv (qeG N Y r74 e_r75)) (ac (cv (xz N r73 r75 e_r76)) (ac (cv (xz N (⟨(⟨u,v⟩:qd),(⟨w,y⟩:qd)⟩:qj) f.d e_r77)) (ac (cv (xz N a7 Y e_r78)) (ac (hs (.call 91 [.slice 6 0 3 3 1] [.cells (nq1 a),.cells (ni4 L O P U z A B C),.cells (ni4 D E F G u v w y),.cells (nq2 f.n f.d),.cells (nq1 a7),.cells (nq1 Y),.cells [.i b2,.i b3,.i b4]] [6] [vl encI ([b2,b3,b4]:List Int)] (.i r79)) (qfS (FzL.cons (Fz.lit rfl rfl (Uf (AllST.cons tI (AllST.cons tI (AllST.cons tI AllST.nil))))) FzL.nil) (qh5 N ([b2,b3,b4]:List Int) e_r79) tI rfl)) az)))))))) ?_)
  refine sq ?_
  refine sh fol (kAn [(111,.bool (decide (r79>0)))]) ?_
  obtain⟨r84,g84,h⟩:=bnd h
  refine Goes.imp (Q:=fun x s'=>(x= .normal/\ ∃n80 l81 n82 l83,(n80,l81,n82,l83)=r84/\Sub s' (ofG 117 [(14,.ptr 0 0)],[.cells (ni2 n80 l81 n82 l83)]))) ?_ ?_
  ·refine ihD g84 (fun c85 g84=>?_) (fun c85 g84=>?_)
   ·refine gq fol [1] [(14,.ptr 4 0)] [.cells (nq1 a),.cells (ni4 L O P U z A B C),.cells (ni4 D E F G u v w y),.cells (nq2 f.n f.d),.cells (nq1 Y),.cells (nq1 Y),.cells [.i b2,.i b3,.i b4]] (ac (hs (.run [4] (qm ZT 100 (.ptr 4 0) (.agg (nq1 Y))) [.cells (nq1 a),.cells (ni4 L O P U z A B C),.cells (ni4 D E F G u v w y),.cells (nq2 f.n f.d),.cells (nq1 a7),.cells (nq1 Y),.cells [.i b2,.i b3,.i b4]] .undef [.cells (nq1 a),.cells (ni4 L O P U z A B C),.cells (ni4 D E F G u v w y),.cells (nq2 f.n f.d),.cells (nq1 Y),.cells (nq1 Y),.cells [.i b2,.i b3,.i b4]] true) (qJ (n:=4) (by kernel_rfl) rfl rfl rfl rfl (cac rfl (cac nvc (cac rfl (cac nvc can)))) rfl)) az) ?_
    obtain rfl:=si g84
    exact⟨rfl,_,_,_,_,rfl,(Sub.norm [] [some 4] rfl rfl (.kp .nil) (.kb rfl (.same sn) .nil))⟩
   refine Goes.skip ?_
   obtain rfl:=si g84
   exact⟨rfl,_,_,_,_,rfl,(Sub.norm [] [some 4] rfl rfl (.kp .nil) (.kb rfl (.same sn) .nil))⟩
  rintro x s' ⟨rfl,n80,l81,n82,l83,rfl,hsub⟩
  try dsimp only at h
  refine Goes.sub hsub ?_
  obtain⟨r86,e_r86,h⟩:=bnd h
  refine sq (gr fol [1] ((4,.str r86.1)::(kAt r86.2)) (ac (cv (qcH N (⟨(⟨n80,l81⟩:qd),(⟨n82,l83⟩:qd)⟩:qj) e_r86)) az) ?_)
  refine Goes.ret ?_
  obtain rfl:=si h
  exact(gw2 [.str r86.1,.i r86.2] (FzW.tuple (qc.cons (Ua tS) (qc.cons (Ua tI) qc.nil))))
 try dsimp only at h
 obtain rfl:=si h
 exact hret
def xD (N:Nat) (n:Int):Option Str:=
 (vS N n).bind fun a=>
 (xS N a).bind fun b=>
 some b
theorem qbd (N:Nat) (n:Int) {res:Str} (h:xD N n=some res):qb ZT (.fn 26) [.i n] [] (.str res) []:=by
 unfold xD at h
 refine Ub Tryz.func26 rfl rfl (m:=6) rfl (rs:=[.tmp 2]) rfl (l:=[(0,.i n)]) rfl ?_
 refine sh fol [(0,.i n)] ?_
 obtain⟨d,a,h⟩:=bnd h
 obtain⟨c,b,h⟩:=bnd h
 refine sq (gr fol [1,2] (kA3 c) (ac (cv (qaO N n a)) (ac (cv (qbm N d b)) az)) ?_)
 refine Goes.ret ?_
 obtain rfl:=si h
 exact(gw2 [.str c] (Ua tS))
def qaw (N:Nat) (a:Str):Option Bool:=
 (vM N a).bind fun b=>
 some (decide (b=(a.length:Int)))
theorem qfV (N:Nat) (a:Str) {res:Bool} (h:qaw N a=some res):qb ZT (.fn 103) [.str a] [] (.bool res) []:=by
 unfold qaw at h
 refine Ub Tryz.func103 rfl rfl (m:=8) rfl (rs:=[.tmp 2]) rfl (l:=(kAS a)) rfl ?_
 refine sh fol (kAS a) ?_
 obtain⟨c,b,h⟩:=bnd h
 refine sq (gr fol [1] [(2,.bool (decide (c=(a.length:Int))))] (ac (cv (yI N a b)) az) ?_)
 refine Goes.ret ?_
 obtain rfl:=si h
 exact(gw2 [.bool (decide (c=(a.length:Int)))] (Ua tB))
def qae (N:Nat) (a:qB) (b:qB):Option qB:=
 (zZ N a.w b.w).bind fun c=>
 (if a.neg=true then
 some (decide ((c.2.length:Int)>0))
 else
 some false:Option Bool).bind fun d=>
 ((if d=true then
 (yn N c.1 ([1]:List Int)).bind fun e=>
 some e
 else
 some c.1:Option (List Int))).bind fun f=>
 (zn N a.neg f).bind fun g=>
 some g
theorem qfg (N:Nat) (a:qB) (b:qB) {res:qB} (h:qae N a b=some res):qb ZT (.fn 104) (kAV a.neg a.w b.neg b.w) [] (.agg (kAP res.neg res.w)) []:=by
 unfold qae at h
 refine Ub Tryz.func104 rfl rfl (m:=29) rfl (rs:=[.cell 4 124]) rfl (l:=(kAz a.neg a.w b.neg b.w)) rfl ?_
 refine sg fol (kD []) (kK a.neg a.w b.neg b.w (kL [])) ?_
 obtain⟨d,e,h⟩:=bnd h
 refine sq (gr fol [4] (kU (kAG (kAu d.1 [(6,vl encI d.2)]))) (ac (cv (xw N a.w b.w e)) az) ?_)
 refine sq ?_
 refine sq ?_
 obtain⟨p,c,h⟩:=bnd h
 refine Goes.cut (s':=(ofG 29 (kU (kAG (kAu d.1 [(21,.bool p)]))),(kK a.neg a.w b.neg b.w (kL [])))) ?_ ?_
 ·rcases wyB c with⟨o,c⟩|⟨o,c⟩
  ·obtain rfl:=si c
   exact tr fol [2] (kU (kAG (kAu d.1 [(21,.bool (decide ((d.2.length:Int)>0)))]))) (ac (gw o) az)
  obtain rfl:=si c
  exact tr fol [2] (kU (kAG (kAu d.1 [(21,.bool false)]))) (ac (gw o) az)
 obtain⟨q,g6,h⟩:=bnd h
 refine Goes.imp (Q:=fun x s'=>(x= .normal/\ ∃j,j=q/\Sub s' (ofG 29 (kU (kAw (kAu j []))),(kAI a.neg a.w (kL []))))) ?_ ?_
 ·refine ihB g6 (fun r g6=>?_) (fun r g6=>?_)
  ·obtain⟨k,f,g6⟩:=bnd g6
   refine gq fol [2] (kU (kAG (kAu k []))) (kK a.neg a.w b.neg b.w (kL [.frozen [.i 1]])) (ac (hs (.callF 174 [vl encI d.1,.slice 3 0 1 1 1] (kK a.neg a.w b.neg b.w (kL [.cells [.i 1]])) [3] (kAr d.1 ([1]:List Int)) (vl encI k)) (qas (FzL.cons (Ur (qy encI _ (nl rfl))) (FzL.cons (Fz.lit rfl rfl (Uf (AllST.cons tI AllST.nil))) FzL.nil)) (qb6 N d.1 ([1]:List Int) f) (qy encI _ (nl rfl)))) az) ?_
   obtain rfl:=si g6
   exact⟨rfl,_,rfl,((show Sub (ofG 29 (kU (kAG (kAu k []))),(kK a.neg a.w b.neg b.w (kL [.frozen [.i 1]]))) (ofG 29 (kU (kAw (kAu k []))),(kAI a.neg a.w (kL [])))from(Sub.norm [] [some 0,some 2] rfl rfl (.kp (.kp (.keep (.same (qf encI _)) .nil))) (.kb rfl (.same sn) (.kb rfl (.same sn) .nil)))).trans (Sub.refl _))⟩
  refine Goes.skip ?_
  obtain rfl:=si g6
  exact⟨rfl,_,rfl,(Sub.norm [] [some 0,some 2] rfl rfl (.kp (.kp (.keep (.same (qf encI _)) .nil))) (.kb rfl (.same sn) (.kb rfl (.same sn) .nil)))⟩
 rintro x s' ⟨rfl,j,rfl,hsub⟩
 refine Goes.sub hsub ?_
 obtain⟨n,g,h⟩:=bnd h
 refine sq (gq fol [3] (kAw []) (kK a.neg a.w n.neg n.w []) (ac (cv (zI N a.neg j g)) az) ?_)
 refine Goes.ret ?_
 obtain rfl:=si h
 exact(gw2 [.agg (kAP n.neg n.w)] (FzW.agg (qc.cons (Ua tB) (qc.cons (Ua (qy encI _ (nl rfl))) qc.nil))))
def qbt (N:Nat) (a:Str):Option Str:=
 (qaw N a).bind fun c=>
 if c=true then
 some a
 else
 (vP N a).bind fun b=>
 (qae N b.1 b.2).bind fun d=>
 (xS N d).bind fun e=>
 some e
theorem qg9 (N:Nat) (a:Str) {res:Str} (h:qbt N a=some res):qb ZT (.fn 29) [.str a] [] (.str res) []:=by
 unfold qbt at h
 refine Ub Tryz.func29 rfl rfl (m:=17) rfl (rs:=[.tmp 2]) rfl (l:=(kAS a)) rfl ?_
 refine sh fol (kAS a) ?_
 refine sq ?_
 obtain⟨i,c,h⟩:=bnd h
 refine sq (gr fol [1] (kA1 a [(6,.bool i)]) (ac (cv (qfV N a c)) az) ?_)
 refine ihB h (fun j h=>?_) (fun j h=>?_)
 ·refine sh fol (kA3 a) ?_
  refine Goes.ret ?_
  obtain rfl:=si h
  exact(gw2 [.str a] (Ua tS))
 refine Goes.skip ?_
 obtain⟨b,d,h⟩:=bnd h
 refine sq (gq fol [1] ((3,.ptr 0 0)::(kAw [])) (kK b.1.neg b.1.w b.2.neg b.2.w []) (ac (cv (qaR N a d)) az) ?_)
 obtain⟨k,e,h⟩:=bnd h
 obtain⟨g,f,h⟩:=bnd h
 refine sq (gr fol [2,3] (kA3 g) (ac (cv (qfg N b.1 b.2 e)) (ac (cv (qbm N k f)) az)) ?_)
 refine Goes.ret ?_
 obtain rfl:=si h
 exact(gw2 [.str g] (Ua tS))
def qcJ (N:Nat) (a:Int) (b:Int):Option Int:=
 (qbP N (if(w64 (0-a))>a then(w64 (0-a))else a) (if(w64 (0-b))>b then(w64 (0-b))else b)).bind fun c=>
 some c
theorem qiG (N:Nat) (a:Int) (b:Int) {res:Int} (h:qcJ N a b=some res):qb ZT (.fn 30) [.i a,.i b] [] (.i res) []:=by
 unfold qcJ at h
 refine Ub Tryz.func30 rfl rfl (m:=14) rfl (rs:=[.tmp 4]) rfl (l:=(kAF a b [])) rfl ?_
 refine sh fol (kAF a b []) ?_
 obtain⟨d,c,h⟩:=bnd h
 refine sq (gr fol [8] [(4,.i d)] (ac (cv (qfl N (if(w64 (0-a))>a then(w64 (0-a))else a) (if(w64 (0-b))>b then(w64 (0-b))else b) c)) az) ?_)
 refine Goes.ret ?_
 obtain rfl:=si h
 exact(gw2 [.i d] (Ua tI))
end Go.Av
