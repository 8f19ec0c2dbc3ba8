/-
  Walks of functions: what each computes, as a plain function.
-/
import Derived.Test.YtbpkolibdibmeaaGreatQGenAc1
noncomputable section
namespace Go.Av
open Go.Proofs Go.RowKit
set_option linter.unusedSectionVars false
set_option linter.unusedVariables false
set_option linter.unusedSimpArgs false
set_option maxRecDepth 100000
def yz (a:List Int) (b:Str) (c:Int) (d:Int):Option Unit:=
 some ()
theorem qfa (d:List Int) (b:Str) (c:Int) (a:Int) (h:yz d b c a=some ()):qc ZT (.fn 104) (vl encI d::(kAW b c a)) [] (.slice 0 0 2 2 1) (kW a (w64 (0-a)) []):=by
 unfold yz at h;refine Ui Tryz.func104 rfl rfl (m:=11) rfl (rs:=[.tmp 4]) rfl (l:=(kAC d (kA9 b c a))) rfl ?_;intro B hB;refine sg fol [(3,.ptr 0 0)] (kF b c a []) ?_;refine sg fol [(4,.slice 1 0 2 2 1)] (kF b c a (kW a (w64 (0-a)) [])) ?_;refine Goes.ret ?_;exact(gh2 [.slice 1 0 2 2 1] (Uc [] [some 1] (by rw[hB];rfl) rfl (.keep (.slice rfl) .nil) (.kb rfl (.same sn) .nil)))
def yw (a:List Int) (b:Str) (c:Int) (d:Int):Option Unit:=
 some ()
theorem qeS (d:List Int) (a:Str) (b:Int) (c:Int) (h:yw d a b c=some ()):qc ZT (.fn 106) (vl encI d::(kAW a b c)) [] (.nilslice) []:=by
 unfold yw at h;refine Ui Tryz.func106 rfl rfl (m:=5) rfl (rs:=[.tmp 4]) rfl (l:=(kAC d (kA9 a b c))) rfl ?_;intro B hB;refine sg fol [] (kF a b c []) ?_;refine sh fol [(4,.nilslice)] ?_;refine Goes.ret ?_;exact(gh2 [.nilslice] (Uc [] [] (by rw[hB];rfl) rfl (.keep (.same (qH.nilslice)) .nil) .nil))
def yA (a:List Int) (b:Str) (c:Int) (d:Int):Option (Int×Int):=
 (idx a 1).bind fun e=>
 (idx a 0).bind fun f=>
 some (e,f)
theorem qeU (d:List Int) (a:Str) (b:Int) (c:Int) {g:Int} {i:Int} (h:yA d a b c=some (g,i)):qc ZT (.fn 108) (vl encI d::(kAW a b c)) [] (.slice 0 0 2 2 1) (kW g i []):=by
 unfold yA at h;refine Ui Tryz.func108 rfl rfl (m:=12) rfl (rs:=[.tmp 4]) rfl (l:=(kAC d (kA9 a b c))) rfl ?_;intro B hB;refine sg fol (kAC d []) (kF a b c []) ?_;obtain⟨j,e,h⟩:=bnd h;obtain⟨k,f,h⟩:=bnd h;refine sq (gq fol [1,2,4,5] [(4,.slice 1 0 2 2 1)] (kF a b c (kW j k [])) (ac (iv zO encI e) (ac (lv 0 ce3 encI e rfl) (ac (iv zO encI f) (ac (lv 0 ce3 encI f rfl) az)))) ?_);refine Goes.ret ?_;simp only[ZI,ZP]at h;obtain⟨rfl,rfl⟩:=h;exact(gh2 [.slice 1 0 2 2 1] (Uc [] [some 1] (by rw[hB];rfl) rfl (.keep (.slice rfl) .nil) (.kb rfl (.same sn) .nil)))
def yE (a:List Int) (g:Str) (h:Int) (i:Int):Option (List Int):=
 (idx a 0).bind fun c=>
 (idx a 1).bind fun b=>
 (idx a 2).bind fun f=>
 (zM c).bind fun j=>
 (zM b).bind fun k=>
 if j=k then
 (zM f).bind fun l=>
 (qX b).bind fun m=>
 some ([w64 (l*m),c,b]:List Int)
 else
 (zM c).bind fun d=>
 (qX b).bind fun e=>
 some ([b,f,w64 (d*e)]:List Int)
theorem qgl (d:List Int) (a:Str) (b:Int) (c:Int) {w:List Int} (h:yE d a b c=some w):qc ZT (.fn 110) (vl encI d::(kAW a b c)) [] (vl encI w) []:=by
 unfold yE at h;refine Ui Tryz.func110 rfl rfl (m:=38) rfl (rs:=[.tmp 4]) rfl (l:=(kAC d (kA9 a b c))) rfl ?_;intro B hB;refine sg fol (kAC d []) (kF a b c []) ?_;obtain⟨o,e,h⟩:=bnd h;obtain⟨j,f,h⟩:=bnd h;obtain⟨t,g,h⟩:=bnd h;refine sq (gr fol [1,2,4,5,7,8] ((5,.i o)::(kBJ j t [])) (ac (iv zO encI e) (ac (lv 0 ce3 encI e rfl) (ac (iv zO encI f) (ac (lv 0 ce3 encI f rfl) (ac (iv zO encI g) (ac (lv 0 ce3 encI g rfl) az)))))) ?_);refine sq ?_;obtain⟨x,p,h⟩:=bnd h;obtain⟨y,q,h⟩:=bnd h;refine sq (gr fol [1,3] ((5,.i o)::(kBJ j t [(21,.bool (decide (x=y)))])) (ac (cv (z8 o p)) (ac (cv (z8 j q)) az)) ?_);refine ihD h (fun z h=>?_) (fun z h=>?_)
 ·obtain⟨A,r,h⟩:=bnd h;obtain⟨C,s,h⟩:=bnd h;refine sq (gq fol [1,3] [(4,.slice 1 0 3 3 1)] (kF a b c [.cells [.i (w64 (A*C)),.i o,.i j]]) (ac (cv (z8 t r)) (ac (cv (qp j s)) az)) ?_);refine Goes.ret ?_;obtain rfl:=si h;exact(gh2 [.slice 1 0 3 3 1] (Uc [1] [] (by rw[hB];rfl) rfl (.keep (.frz (Fz.lit rfl rfl (Uh (AllST.cons tI (AllST.cons tI (AllST.cons tI AllST.nil))))) (qa encI _)) .nil) .nil))
 refine Goes.skip ?_;obtain⟨u,k,h⟩:=bnd h;obtain⟨v,n,h⟩:=bnd h;refine sq (gq fol [3,5] [(4,.slice 1 0 3 3 1)] (kF a b c [.cells [.i j,.i t,.i (w64 (u*v))]]) (ac (cv (z8 o k)) (ac (cv (qp j n)) az)) ?_);refine Goes.ret ?_;obtain rfl:=si h;exact(gh2 [.slice 1 0 3 3 1] (Uc [1] [] (by rw[hB];rfl) rfl (.keep (.frz (Fz.lit rfl rfl (Uh (AllST.cons tI (AllST.cons tI (AllST.cons tI AllST.nil))))) (qa encI _)) .nil) .nil))
def qJ (N:Nat) (n:Int) (w:List Int) (m:qx):Option ((List Int)×Int):=
 (jV).bind fun r1=>
 if(m.Kind==[105,110,115,101,114,116])=true then
 ((qB false 13).bind fun K=>
 (qB false 1).bind fun L=>
 (qaL n m.Letter).bind fun r8=>
 (qB r8 3).bind fun M=>
 if m.At<0 then
 (qB true 3).bind fun r=>
 (qO N ([K,L,M,r]:List Int)).bind fun O=>
 some (K,L,M,r,O)
 else
 (qB (decide (m.At>(w64 ((w.length:Int)-0)))) 3).bind fun s=>
 (qO N ([K,L,M,s]:List Int)).bind fun P=>
 some (K,L,M,s,P):Option (Int×Int×Int×Int×Int)).bind fun(n15,n16,n17,n18,t)=>
 if(!decide (t=0))=true then
 some ([],t)
 else
 (cut w m.At (w64 (m.At+0))).bind fun u=>
 (qaq u).bind fun Q=>
 if(!Q)=true then
 some ([],18)
 else
 (qdW w).bind fun _=>
 (yz u m.Kind m.At m.Letter).bind fun _=>
 (qcN w m.At (w64 (m.At+0)) m.Letter (w64 (0-m.Letter))).bind fun T=>
 some (T,0)
 else
 if(m.Kind==[99,97,110,99,101,108])=true then
 ((qB false 13).bind fun b=>
 (qB (!decide (m.Letter=0)) 1).bind fun c=>
 (qB false 3).bind fun d=>
 if m.At<0 then
 (qB true 3).bind fun v=>
 (qO N ([b,c,d,v]:List Int)).bind fun U=>
 some (b,c,d,v,U)
 else
 (qB (decide (m.At>(w64 ((w.length:Int)-2)))) 3).bind fun x=>
 (qO N ([b,c,d,x]:List Int)).bind fun V=>
 some (b,c,d,x,V):Option (Int×Int×Int×Int×Int)).bind fun(n37,n38,n39,n40,y)=>
 if(!decide (y=0))=true then
 some ([],y)
 else
 (cut w m.At (w64 (m.At+2))).bind fun z=>
 (xZ z).bind fun X=>
 if(!X)=true then
 some ([],18)
 else
 (qdW w).bind fun _=>
 (yw z m.Kind m.At m.Letter).bind fun _=>
 (qha w m.At (w64 (m.At+2))).bind fun Y=>
 some (Y,0)
 else
 if(m.Kind==[115,119,97,112])=true then
 ((qB false 13).bind fun e=>
 (qB (!decide (m.Letter=0)) 1).bind fun f=>
 (qB false 3).bind fun g=>
 if m.At<0 then
 (qB true 3).bind fun A=>
 (qO N ([e,f,g,A]:List Int)).bind fun Z=>
 some (e,f,g,A,Z)
 else
 (qB (decide (m.At>(w64 ((w.length:Int)-2)))) 3).bind fun B=>
 (qO N ([e,f,g,B]:List Int)).bind fun a0=>
 some (e,f,g,B,a0):Option (Int×Int×Int×Int×Int)).bind fun(n59,n60,n61,n62,C)=>
 if(!decide (C=0))=true then
 some ([],C)
 else
 (cut w m.At (w64 (m.At+2))).bind fun D=>
 (vC D).bind fun a1=>
 if(!a1)=true then
 some ([],18)
 else
 (qdW w).bind fun _=>
 (yA D m.Kind m.At m.Letter).bind fun(a2,a3)=>
 (qcN w m.At (w64 (m.At+2)) a2 a3).bind fun a4=>
 some (a4,0)
 else
 if(m.Kind==[116,117,114,110])=true then
 ((qB false 13).bind fun h=>
 (qB (!decide (m.Letter=0)) 1).bind fun i=>
 (qB false 3).bind fun j=>
 if m.At<0 then
 (qB true 3).bind fun E=>
 (qO N ([h,i,j,E]:List Int)).bind fun a5=>
 some (h,i,j,E,a5)
 else
 (qB (decide (m.At>(w64 ((w.length:Int)-3)))) 3).bind fun F=>
 (qO N ([h,i,j,F]:List Int)).bind fun a6=>
 some (h,i,j,F,a6):Option (Int×Int×Int×Int×Int)).bind fun(n83,n84,n85,n86,G)=>
 if(!decide (G=0))=true then
 some ([],G)
 else
 (cut w m.At (w64 (m.At+3))).bind fun H=>
 (xO H).bind fun a7=>
 if(!a7)=true then
 some ([],18)
 else
 (qdW w).bind fun _=>
 (yE H m.Kind m.At m.Letter).bind fun a8=>
 (qgw w m.At (w64 (m.At+3)) a8).bind fun a9=>
 some (a9,0)
 else
 ((qB true 13).bind fun k=>
 (qB (!decide (m.Letter=0)) 1).bind fun l=>
 (qB false 3).bind fun a=>
 if m.At<0 then
 (qB true 3).bind fun o=>
 (qO N ([k,l,a,o]:List Int)).bind fun I=>
 some (k,l,a,o,I)
 else
 (qB (decide (m.At>(w64 ((w.length:Int)-0)))) 3).bind fun p=>
 (qO N ([k,l,a,p]:List Int)).bind fun J=>
 some (k,l,a,p,J):Option (Int×Int×Int×Int×Int)).bind fun(b0,b1,b2,b3,q)=>
 if(!decide (q=0))=true then
 some ([],q)
 else
 (cut w m.At (w64 (m.At+0))).bind fun b4=>
 none
theorem qdo (N:Nat) (n:Int) (w:List Int) (m:qx) {res:(List Int)×Int} (h:qJ N n w m=some res):qc ZT (.fn 46) (.i n::vl encI w::(kAW m.Kind m.At m.Letter)) [] (.tuple (kBk res.1 res.2)) []:=by
 unfold qJ at h;refine Ub Tryz.func46 rfl rfl (m:=90) rfl (rs:=[.tmp 6,.tmp 7]) rfl (l:=(kC n w [(2,.agg [.str m.Kind,.i m.At,.i m.Letter])])) rfl ?_;refine sg fol (kC n w (kAO [])) (kF m.Kind m.At m.Letter []) ?_;refine sq ?_;obtain⟨r1,j,h⟩:=bnd h;rcases wyB h with⟨f,h⟩|⟨f,h⟩
 ·refine gq fol [0,3] (kC n w (kAO (kAn []))) (kF m.Kind m.At m.Letter [.cells [.i 0,.func (.func 103) [] [],.func (.func 104) [] []]]) (ac (cv (qa1 j)) (ac (hs (.done (qbz ZT 130 (fm1) (.str m.Kind) true) (.tuple (.agg [.i 0,.func (.func 103) [] [],.func (.func 104) [] []]::kBd))) (qlC ql5 [[105,110,115,101,114,116],[99,97,110,99,101,108],[115,119,97,112],[116,117,114,110]] (qfA f) rfl)) az)) ?_;refine sh fol (kC n w (kAO (kAn (kBA (m.Kind==[105,110,115,101,114,116]))))) ?_;refine sq ?_;refine sq ?_;obtain⟨⟨k,o,p,q,a2⟩,b,h⟩:=bnd h;refine Goes.cut (s':=(ofG 90 (kN w (kBI a2)),(kF m.Kind m.At m.Letter (.cells [.i 0,.func (.func 103) [] [],.func (.func 104) [] []]::(kP k o p q []))))) ?_ ?_
  ·obtain⟨r6,e_r6,b⟩:=bnd b;obtain⟨r7,e_r7,b⟩:=bnd b;obtain⟨r8,e_r8,b⟩:=bnd b;obtain⟨r9,e_r9,b⟩:=bnd b;rcases wyD b with⟨c10,b⟩|⟨c10,b⟩
   ·obtain⟨c9,e_r11,b⟩:=bnd b;obtain⟨r12,e_r12,b⟩:=bnd b;simp only[ZI,ZP]at b;obtain⟨rfl,rfl,rfl,rfl,rfl⟩:=b;exact jf.rq fol [2,5,10,12,16,18,22,32,34] (kN w (kBI r12)) (kF m.Kind m.At m.Letter (.cells [.i 0,.func (.func 103) [] [],.func (.func 104) [] []]::(kP r6 r7 r9 c9 []))) (ac (cv (qh false 13 e_r6)) (ac (gw (congrArg not f)) (ac (cv (qh false 1 e_r7)) (ac (gw f) (ac (cv (qcd n m.Letter e_r8)) (ac (cv (qh r8 3 e_r9)) (ac (gw c10) (ac (cv (qh true 3 e_r11)) (ac (hs (.call 24 [.slice 2 0 4 4 1] (kF m.Kind m.At m.Letter (.cells [.i 0,.func (.func 103) [] [],.func (.func 104) [] []]::(kP r6 r7 r9 c9 []))) [2] [vl encI ([r6,r7,r9,c9]:List Int)] (.i r12)) (vZ (FzL.cons (Fz.lit rfl rfl (Uh (AllST.cons tI (AllST.cons tI (AllST.cons tI (AllST.cons tI AllST.nil)))))) FzL.nil) (zy N ([r6,r7,r9,c9]:List Int) e_r12) tI rfl)) az)))))))))
   obtain⟨d0,e_r13,b⟩:=bnd b;obtain⟨r14,e_r14,b⟩:=bnd b;simp only[ZI,ZP]at b;obtain⟨rfl,rfl,rfl,rfl,rfl⟩:=b;exact jf.rq fol [2,5,10,12,16,18,22,32,34] (kN w (kBI r14)) (kF m.Kind m.At m.Letter (.cells [.i 0,.func (.func 103) [] [],.func (.func 104) [] []]::(kP r6 r7 r9 d0 []))) (ac (cv (qh false 13 e_r6)) (ac (gw (congrArg not f)) (ac (cv (qh false 1 e_r7)) (ac (gw f) (ac (cv (qcd n m.Letter e_r8)) (ac (cv (qh r8 3 e_r9)) (ac (gw c10) (ac (cv (qh (decide (m.At>(w64 ((w.length:Int)-0)))) 3 e_r13)) (ac (hs (.call 24 [.slice 2 0 4 4 1] (kF m.Kind m.At m.Letter (.cells [.i 0,.func (.func 103) [] [],.func (.func 104) [] []]::(kP r6 r7 r9 d0 []))) [2] [vl encI ([r6,r7,r9,d0]:List Int)] (.i r14)) (vZ (FzL.cons (Fz.lit rfl rfl (Uh (AllST.cons tI (AllST.cons tI (AllST.cons tI (AllST.cons tI AllST.nil)))))) FzL.nil) (zy N ([r6,r7,r9,d0]:List Int) e_r14) tI rfl)) az)))))))))
  try dsimp only at h
  refine sh fol (kN w [(11,.i a2),(59,.bool (!decide (a2=0)))]) ?_;refine ihB h (fun c21 h=>?_) (fun c21 h=>?_)
  ·refine sh fol (kAm [(7,.i a2)]) ?_;refine Goes.ret ?_;obtain rfl:=si h;exact(gw2 [.nilslice,.i a2] (FzW.tuple (ql.cons (FzW.nilv (E:=encI)) (ql.cons (Ua tI) ql.nil))))
  refine Goes.skip ?_;obtain⟨Y,e_s22,h⟩:=bnd h;refine sq (gr fol [8] (kN w [(12,vl encI Y)]) (ac (hs (.done (.opt (yM ZT 22 (vl encI w) (some (.i m.At)) (some (.i (w64 (m.At+0)))) none)) (vl encI Y)) (qjM zO (E:=encI) rfl (some m.At) (some (w64 (m.At+0))) e_s22)) az) ?_);refine sq ?_;obtain⟨r23,e_r23,h⟩:=bnd h;refine sq (gr fol [3] (kN w [(12,vl encI Y),(74,.bool (!r23))]) (ac (cv (qgK Y e_r23)) az) ?_);refine ihB h (fun c24 h=>?_) (fun c24 h=>?_)
  ·refine sh fol (kAm [(7,.i 18)]) ?_;refine Goes.ret ?_;obtain rfl:=si h;exact(gw2 kBK (FzW.tuple (ql.cons (FzW.nilv (E:=encI)) (ql.cons (Ua tI) ql.nil))))
  refine Goes.skip ?_;obtain⟨_,e_r25,h⟩:=bnd h;obtain⟨_,e_r26,h⟩:=bnd h;obtain⟨a3,e_r27,h⟩:=bnd h;refine sq (gq fol [1,13,14] ((6,.oslice 5 a3.length 1)::kBH) (kF m.Kind m.At m.Letter (.cells [.i 0,.func (.func 103) [] [],.func (.func 104) [] []]::(kP k o p q (.dead::(kW m.Letter (w64 (0-m.Letter)) (kA a3 [])))))) (ac (hs (.callH 26 [vl encI w] (kF m.Kind m.At m.Letter (.cells [.i 0,.func (.func 103) [] [],.func (.func 104) [] []]::(kP k o p q []))) [] (.gslice 3 w.length 1) (kF m.Kind m.At m.Letter (.cells [.i 0,.func (.func 103) [] [],.func (.func 104) [] []]::(kP k o p q (kA w []))))) (zH [] [none,none,none,some 0] (qda w e_r25) .nil rfl rfl (.old rfl rfl (.old rfl rfl (.old rfl rfl (.new rfl rfl (.same fa) rfl .nil)))) (rc (.same (qa encI _)) rn) (.gslice rfl) rfl)) (ac (hs (.callH 104 (vl encI Y::(kAW m.Kind m.At m.Letter)) (kF m.Kind m.At m.Letter (.cells [.i 0,.func (.func 103) [] [],.func (.func 104) [] []]::(kP k o p q (kA w [])))) [] (.slice 4 0 2 2 1) (kF m.Kind m.At m.Letter (.cells [.i 0,.func (.func 103) [] [],.func (.func 104) [] []]::(kP k o p q (kA w (kW m.Letter (w64 (0-m.Letter)) [])))))) (zH [] [none,none,none,none,some 0] (qfa Y m.Kind m.At m.Letter e_r26) .nil rfl rfl (.old rfl rfl (.old rfl rfl (.old rfl rfl (.old rfl rfl (.new rfl rfl (.cells (rc (.same nI) (rc (.same nI) rn))) rfl .nil))))) (rc (.same (qa encI _)) (rc (.same (qH.agg sn)) rn)) (.slice rfl) rfl)) (ac (hs (.callH 83 [.gslice 3 w.length 1,.i m.At,.i (w64 (m.At+0)),.slice 4 0 2 2 1] (kF m.Kind m.At m.Letter (.cells [.i 0,.func (.func 103) [] [],.func (.func 104) [] []]::(kP k o p q (kA w (kW m.Letter (w64 (0-m.Letter)) []))))) [3,4] (.oslice 5 a3.length 1) (kF m.Kind m.At m.Letter (.cells [.i 0,.func (.func 103) [] [],.func (.func 104) [] []]::(kP k o p q (.dead::(kW m.Letter (w64 (0-m.Letter)) (kA a3 []))))))) (zH [some 3,some 4] [none,none,none,none,some 1,some 2] (qmm w m.At (w64 (m.At+0)) m.Letter (w64 (0-m.Letter)) e_r27) (.ks (.kb rfl (.cells (rc (.same nI) (rc (.same nI) rn))) .nil)) rfl rfl (.old rfl rfl (.old rfl rfl (.old rfl rfl (.dead (.back rfl rfl (.cells (rc (.same nI) (rc (.same nI) rn))) rfl (.new rfl rfl (.same fa) rfl .nil)))))) (rc (.gslice rfl) (rc (.same nI) (rc (.same nI) (rc (.slice rfl) rn)))) (.oslice rfl) rfl)) az))) ?_);refine Goes.ret ?_;obtain rfl:=si h;exact(gw2 [.oslice 5 a3.length 1,.i 0] (FzW.tuple (ql.cons (Us (Fz.os (E:=encI) rfl rfl (nl rfl))) (ql.cons (Ua tI) ql.nil))))
 rcases wyB h with⟨c3,h⟩|⟨c3,h⟩
 ·refine gq fol [0,3] (kC n w (kAO (kAn []))) (kF m.Kind m.At m.Letter [.cells [.i 2,.func (.func 105) [] [],.func (.func 106) [] []]]) (ac (cv (qa1 j)) (ac (hs (.done (qbz ZT 130 (fm1) (.str m.Kind) true) (.tuple (.agg [.i 2,.func (.func 105) [] [],.func (.func 106) [] []]::kBd))) (qlC ql5 [[105,110,115,101,114,116],[99,97,110,99,101,108],[115,119,97,112],[116,117,114,110]] (xU f (qfA c3)) rfl)) az)) ?_;refine sh fol (kC n w (kAO (kAn (kBA (m.Kind==[105,110,115,101,114,116]))))) ?_;refine sq ?_;refine sq ?_;obtain⟨⟨r,s,t,u,a4⟩,c,h⟩:=bnd h;refine Goes.cut (s':=(ofG 90 (kN w (kBI a4)),(kF m.Kind m.At m.Letter (.cells [.i 2,.func (.func 105) [] [],.func (.func 106) [] []]::(kP r s t u []))))) ?_ ?_
  ·obtain⟨v,a5,c⟩:=bnd c;obtain⟨x,a6,c⟩:=bnd c;obtain⟨y,a7,c⟩:=bnd c;rcases wyD c with⟨c32,c⟩|⟨c32,c⟩
   ·obtain⟨d1,e_r33,c⟩:=bnd c;obtain⟨r34,e_r34,c⟩:=bnd c;simp only[ZI,ZP]at c;obtain⟨rfl,rfl,rfl,rfl,rfl⟩:=c;exact jf.rq fol [2,5,10,12,18,22,32,34] (kN w (kBI r34)) (kF m.Kind m.At m.Letter (.cells [.i 2,.func (.func 105) [] [],.func (.func 106) [] []]::(kP v x y d1 []))) (ac (cv (qh false 13 a5)) (ac (gw (congrArg not f)) (ac (cv (qh (!decide (m.Letter=0)) 1 a6)) (ac (gw f) (ac (cv (qh false 3 a7)) (ac (gw c32) (ac (cv (qh true 3 e_r33)) (ac (hs (.call 24 [.slice 2 0 4 4 1] (kF m.Kind m.At m.Letter (.cells [.i 2,.func (.func 105) [] [],.func (.func 106) [] []]::(kP v x y d1 []))) [2] [vl encI ([v,x,y,d1]:List Int)] (.i r34)) (vZ (FzL.cons (Fz.lit rfl rfl (Uh (AllST.cons tI (AllST.cons tI (AllST.cons tI (AllST.cons tI AllST.nil)))))) FzL.nil) (zy N ([v,x,y,d1]:List Int) e_r34) tI rfl)) az))))))))
   obtain⟨d2,e_r35,c⟩:=bnd c;obtain⟨r36,e_r36,c⟩:=bnd c;simp only[ZI,ZP]at c;obtain⟨rfl,rfl,rfl,rfl,rfl⟩:=c;exact jf.rq fol [2,5,10,12,18,22,32,34] (kN w (kBI r36)) (kF m.Kind m.At m.Letter (.cells [.i 2,.func (.func 105) [] [],.func (.func 106) [] []]::(kP v x y d2 []))) (ac (cv (qh false 13 a5)) (ac (gw (congrArg not f)) (ac (cv (qh (!decide (m.Letter=0)) 1 a6)) (ac (gw f) (ac (cv (qh false 3 a7)) (ac (gw c32) (ac (cv (qh (decide (m.At>(w64 ((w.length:Int)-2)))) 3 e_r35)) (ac (hs (.call 24 [.slice 2 0 4 4 1] (kF m.Kind m.At m.Letter (.cells [.i 2,.func (.func 105) [] [],.func (.func 106) [] []]::(kP v x y d2 []))) [2] [vl encI ([v,x,y,d2]:List Int)] (.i r36)) (vZ (FzL.cons (Fz.lit rfl rfl (Uh (AllST.cons tI (AllST.cons tI (AllST.cons tI (AllST.cons tI AllST.nil)))))) FzL.nil) (zy N ([v,x,y,d2]:List Int) e_r36) tI rfl)) az))))))))
  try dsimp only at h
  refine sh fol (kN w [(11,.i a4),(59,.bool (!decide (a4=0)))]) ?_;refine ihB h (fun c43 h=>?_) (fun c43 h=>?_)
  ·refine sh fol (kAm [(7,.i a4)]) ?_;refine Goes.ret ?_;obtain rfl:=si h;exact(gw2 [.nilslice,.i a4] (FzW.tuple (ql.cons (FzW.nilv (E:=encI)) (ql.cons (Ua tI) ql.nil))))
  refine Goes.skip ?_;obtain⟨Z,e_s44,h⟩:=bnd h;refine sq (gr fol [8] (kN w [(12,vl encI Z)]) (ac (hs (.done (.opt (yM ZT 22 (vl encI w) (some (.i m.At)) (some (.i (w64 (m.At+2)))) none)) (vl encI Z)) (qjM zO (E:=encI) rfl (some m.At) (some (w64 (m.At+2))) e_s44)) az) ?_);refine sq ?_;obtain⟨r45,e_r45,h⟩:=bnd h;refine sq (gr fol [3] (kN w [(12,vl encI Z),(74,.bool (!r45))]) (ac (cv (qhg Z e_r45)) az) ?_);refine ihB h (fun c46 h=>?_) (fun c46 h=>?_)
  ·refine sh fol (kAm [(7,.i 18)]) ?_;refine Goes.ret ?_;obtain rfl:=si h;exact(gw2 kBK (FzW.tuple (ql.cons (FzW.nilv (E:=encI)) (ql.cons (Ua tI) ql.nil))))
  refine Goes.skip ?_;obtain⟨_,e_r47,h⟩:=bnd h;obtain⟨_,e_r48,h⟩:=bnd h;obtain⟨a8,e_r49,h⟩:=bnd h;refine sq (gq fol [1,13,14] ((6,.oslice 4 a8.length 1)::kBH) (kF m.Kind m.At m.Letter (.cells [.i 2,.func (.func 105) [] [],.func (.func 106) [] []]::(kP r s t u (.dead::(kA a8 []))))) (ac (hs (.callH 26 [vl encI w] (kF m.Kind m.At m.Letter (.cells [.i 2,.func (.func 105) [] [],.func (.func 106) [] []]::(kP r s t u []))) [] (.gslice 3 w.length 1) (kF m.Kind m.At m.Letter (.cells [.i 2,.func (.func 105) [] [],.func (.func 106) [] []]::(kP r s t u (kA w []))))) (zH [] [none,none,none,some 0] (qda w e_r47) .nil rfl rfl (.old rfl rfl (.old rfl rfl (.old rfl rfl (.new rfl rfl (.same fa) rfl .nil)))) (rc (.same (qa encI _)) rn) (.gslice rfl) rfl)) (ac (hs (.callH 106 (vl encI Z::(kAW m.Kind m.At m.Letter)) (kF m.Kind m.At m.Letter (.cells [.i 2,.func (.func 105) [] [],.func (.func 106) [] []]::(kP r s t u (kA w [])))) [] .nilslice (kF m.Kind m.At m.Letter (.cells [.i 2,.func (.func 105) [] [],.func (.func 106) [] []]::(kP r s t u (kA w []))))) (zH [] [none,none,none,none] (qeS Z m.Kind m.At m.Letter e_r48) .nil rfl rfl (.old rfl rfl (.old rfl rfl (.old rfl rfl (.old rfl rfl .nil)))) (rc (.same (qa encI _)) (rc (.same (qH.agg sn)) rn)) (.same (qH.nilslice)) rfl)) (ac (hs (.callH 83 [.gslice 3 w.length 1,.i m.At,.i (w64 (m.At+2)),.nilslice] (kF m.Kind m.At m.Letter (.cells [.i 2,.func (.func 105) [] [],.func (.func 106) [] []]::(kP r s t u (kA w [])))) [3] (.oslice 4 a8.length 1) (kF m.Kind m.At m.Letter (.cells [.i 2,.func (.func 105) [] [],.func (.func 106) [] []]::(kP r s t u (.dead::(kA a8 [])))))) (zH [some 3] [none,none,none,none,some 1] (qsg w m.At (w64 (m.At+2)) e_r49) (.ks .nil) rfl rfl (.old rfl rfl (.old rfl rfl (.old rfl rfl (.dead (.new rfl rfl (.same fa) rfl .nil))))) (rc (.gslice rfl) (rc (.same nI) (rc (.same nI) (rc (.same (qH.nilslice)) rn)))) (.oslice rfl) rfl)) az))) ?_);refine Goes.ret ?_;obtain rfl:=si h;exact(gw2 [.oslice 4 a8.length 1,.i 0] (FzW.tuple (ql.cons (Us (Fz.os (E:=encI) rfl rfl (nl rfl))) (ql.cons (Ua tI) ql.nil))))
 rcases wyB h with⟨c4,h⟩|⟨c4,h⟩
 ·refine gq fol [0,3] (kC n w (kAO (kAn []))) (kF m.Kind m.At m.Letter [.cells [.i 2,.func (.func 107) [] [],.func (.func 108) [] []]]) (ac (cv (qa1 j)) (ac (hs (.done (qbz ZT 130 (fm1) (.str m.Kind) true) (.tuple (.agg [.i 2,.func (.func 107) [] [],.func (.func 108) [] []]::kBd))) (qlC ql5 [[105,110,115,101,114,116],[99,97,110,99,101,108],[115,119,97,112],[116,117,114,110]] (xU f (xU c3 (qfA c4))) rfl)) az)) ?_;refine sh fol (kC n w (kAO (kAn (kBA (m.Kind==[105,110,115,101,114,116]))))) ?_;refine sq ?_;refine sq ?_;obtain⟨⟨z,A,B,C,a9⟩,d,h⟩:=bnd h;refine Goes.cut (s':=(ofG 90 (kN w (kBI a9)),(kF m.Kind m.At m.Letter (.cells [.i 2,.func (.func 107) [] [],.func (.func 108) [] []]::(kP z A B C []))))) ?_ ?_
  ·obtain⟨D,b0,d⟩:=bnd d;obtain⟨F,b1,d⟩:=bnd d;obtain⟨G,b2,d⟩:=bnd d;rcases wyD d with⟨c54,d⟩|⟨c54,d⟩
   ·obtain⟨d3,e_r55,d⟩:=bnd d;obtain⟨r56,e_r56,d⟩:=bnd d;simp only[ZI,ZP]at d;obtain⟨rfl,rfl,rfl,rfl,rfl⟩:=d;exact jf.rq fol [2,5,10,12,18,22,32,34] (kN w (kBI r56)) (kF m.Kind m.At m.Letter (.cells [.i 2,.func (.func 107) [] [],.func (.func 108) [] []]::(kP D F G d3 []))) (ac (cv (qh false 13 b0)) (ac (gw (congrArg not f)) (ac (cv (qh (!decide (m.Letter=0)) 1 b1)) (ac (gw f) (ac (cv (qh false 3 b2)) (ac (gw c54) (ac (cv (qh true 3 e_r55)) (ac (hs (.call 24 [.slice 2 0 4 4 1] (kF m.Kind m.At m.Letter (.cells [.i 2,.func (.func 107) [] [],.func (.func 108) [] []]::(kP D F G d3 []))) [2] [vl encI ([D,F,G,d3]:List Int)] (.i r56)) (vZ (FzL.cons (Fz.lit rfl rfl (Uh (AllST.cons tI (AllST.cons tI (AllST.cons tI (AllST.cons tI AllST.nil)))))) FzL.nil) (zy N ([D,F,G,d3]:List Int) e_r56) tI rfl)) az))))))))
   obtain⟨d4,e_r57,d⟩:=bnd d;obtain⟨r58,e_r58,d⟩:=bnd d;simp only[ZI,ZP]at d;obtain⟨rfl,rfl,rfl,rfl,rfl⟩:=d;exact jf.rq fol [2,5,10,12,18,22,32,34] (kN w (kBI r58)) (kF m.Kind m.At m.Letter (.cells [.i 2,.func (.func 107) [] [],.func (.func 108) [] []]::(kP D F G d4 []))) (ac (cv (qh false 13 b0)) (ac (gw (congrArg not f)) (ac (cv (qh (!decide (m.Letter=0)) 1 b1)) (ac (gw f) (ac (cv (qh false 3 b2)) (ac (gw c54) (ac (cv (qh (decide (m.At>(w64 ((w.length:Int)-2)))) 3 e_r57)) (ac (hs (.call 24 [.slice 2 0 4 4 1] (kF m.Kind m.At m.Letter (.cells [.i 2,.func (.func 107) [] [],.func (.func 108) [] []]::(kP D F G d4 []))) [2] [vl encI ([D,F,G,d4]:List Int)] (.i r58)) (vZ (FzL.cons (Fz.lit rfl rfl (Uh (AllST.cons tI (AllST.cons tI (AllST.cons tI (AllST.cons tI AllST.nil)))))) FzL.nil) (zy N ([D,F,G,d4]:List Int) e_r58) tI rfl)) az))))))))
  try dsimp only at h
  refine sh fol (kN w [(11,.i a9),(59,.bool (!decide (a9=0)))]) ?_;refine ihB h (fun c65 h=>?_) (fun c65 h=>?_)
  ·refine sh fol (kAm [(7,.i a9)]) ?_;refine Goes.ret ?_;obtain rfl:=si h;exact(gw2 [.nilslice,.i a9] (FzW.tuple (ql.cons (FzW.nilv (E:=encI)) (ql.cons (Ua tI) ql.nil))))
  refine Goes.skip ?_;obtain⟨a0,e_s66,h⟩:=bnd h;refine sq (gr fol [8] (kN w [(12,vl encI a0)]) (ac (hs (.done (.opt (yM ZT 22 (vl encI w) (some (.i m.At)) (some (.i (w64 (m.At+2)))) none)) (vl encI a0)) (qjM zO (E:=encI) rfl (some m.At) (some (w64 (m.At+2))) e_s66)) az) ?_);refine sq ?_;obtain⟨r67,e_r67,h⟩:=bnd h;refine sq (gr fol [3] (kN w [(12,vl encI a0),(74,.bool (!r67))]) (ac (cv (qgG a0 e_r67)) az) ?_);refine ihB h (fun c68 h=>?_) (fun c68 h=>?_)
  ·refine sh fol (kAm [(7,.i 18)]) ?_;refine Goes.ret ?_;obtain rfl:=si h;exact(gw2 kBK (FzW.tuple (ql.cons (FzW.nilv (E:=encI)) (ql.cons (Ua tI) ql.nil))))
  refine Goes.skip ?_;obtain⟨_,e_r69,h⟩:=bnd h;obtain⟨⟨b3,b4⟩,e_r70,h⟩:=bnd h
  try dsimp only at h
  obtain⟨b5,e_r73,h⟩:=bnd h;refine sq (gq fol [1,13,14] ((6,.oslice 5 b5.length 1)::kBH) (kF m.Kind m.At m.Letter (.cells [.i 2,.func (.func 107) [] [],.func (.func 108) [] []]::(kP z A B C (.dead::(kW b3 b4 (kA b5 [])))))) (ac (hs (.callH 26 [vl encI w] (kF m.Kind m.At m.Letter (.cells [.i 2,.func (.func 107) [] [],.func (.func 108) [] []]::(kP z A B C []))) [] (.gslice 3 w.length 1) (kF m.Kind m.At m.Letter (.cells [.i 2,.func (.func 107) [] [],.func (.func 108) [] []]::(kP z A B C (kA w []))))) (zH [] [none,none,none,some 0] (qda w e_r69) .nil rfl rfl (.old rfl rfl (.old rfl rfl (.old rfl rfl (.new rfl rfl (.same fa) rfl .nil)))) (rc (.same (qa encI _)) rn) (.gslice rfl) rfl)) (ac (hs (.callH 108 (vl encI a0::(kAW m.Kind m.At m.Letter)) (kF m.Kind m.At m.Letter (.cells [.i 2,.func (.func 107) [] [],.func (.func 108) [] []]::(kP z A B C (kA w [])))) [] (.slice 4 0 2 2 1) (kF m.Kind m.At m.Letter (.cells [.i 2,.func (.func 107) [] [],.func (.func 108) [] []]::(kP z A B C (kA w (kW b3 b4 [])))))) (zH [] [none,none,none,none,some 0] (qeU a0 m.Kind m.At m.Letter e_r70) .nil rfl rfl (.old rfl rfl (.old rfl rfl (.old rfl rfl (.old rfl rfl (.new rfl rfl (.cells (rc (.same nI) (rc (.same nI) rn))) rfl .nil))))) (rc (.same (qa encI _)) (rc (.same (qH.agg sn)) rn)) (.slice rfl) rfl)) (ac (hs (.callH 83 [.gslice 3 w.length 1,.i m.At,.i (w64 (m.At+2)),.slice 4 0 2 2 1] (kF m.Kind m.At m.Letter (.cells [.i 2,.func (.func 107) [] [],.func (.func 108) [] []]::(kP z A B C (kA w (kW b3 b4 []))))) [3,4] (.oslice 5 b5.length 1) (kF m.Kind m.At m.Letter (.cells [.i 2,.func (.func 107) [] [],.func (.func 108) [] []]::(kP z A B C (.dead::(kW b3 b4 (kA b5 []))))))) (zH [some 3,some 4] [none,none,none,none,some 1,some 2] (qmm w m.At (w64 (m.At+2)) b3 b4 e_r73) (.ks (.kb rfl (.cells (rc (.same nI) (rc (.same nI) rn))) .nil)) rfl rfl (.old rfl rfl (.old rfl rfl (.old rfl rfl (.dead (.back rfl rfl (.cells (rc (.same nI) (rc (.same nI) rn))) rfl (.new rfl rfl (.same fa) rfl .nil)))))) (rc (.gslice rfl) (rc (.same nI) (rc (.same nI) (rc (.slice rfl) rn)))) (.oslice rfl) rfl)) az))) ?_);refine Goes.ret ?_;obtain rfl:=si h;exact(gw2 [.oslice 5 b5.length 1,.i 0] (FzW.tuple (ql.cons (Us (Fz.os (E:=encI) rfl rfl (nl rfl))) (ql.cons (Ua tI) ql.nil))))
 rcases wyB h with⟨c5,h⟩|⟨c5,h⟩
 ·refine gq fol [0,3] (kC n w (kAO (kAn []))) (kF m.Kind m.At m.Letter [.cells [.i 3,.func (.func 109) [] [],.func (.func 110) [] []]]) (ac (cv (qa1 j)) (ac (hs (.done (qbz ZT 130 (fm1) (.str m.Kind) true) (.tuple (.agg [.i 3,.func (.func 109) [] [],.func (.func 110) [] []]::kBd))) (qlC ql5 [[105,110,115,101,114,116],[99,97,110,99,101,108],[115,119,97,112],[116,117,114,110]] (xU f (xU c3 (xU c4 (qfA c5)))) rfl)) az)) ?_;refine sh fol (kC n w (kAO (kAn (kBA (m.Kind==[105,110,115,101,114,116]))))) ?_;refine sq ?_;refine sq ?_;obtain⟨⟨H,I,J,K,b6⟩,e,h⟩:=bnd h;refine Goes.cut (s':=(ofG 90 (kN w (kBI b6)),(kF m.Kind m.At m.Letter (.cells [.i 3,.func (.func 109) [] [],.func (.func 110) [] []]::(kP H I J K []))))) ?_ ?_
  ·obtain⟨L,b7,e⟩:=bnd e;obtain⟨M,b8,e⟩:=bnd e;obtain⟨O,b9,e⟩:=bnd e;rcases wyD e with⟨c78,e⟩|⟨c78,e⟩
   ·obtain⟨d5,e_r79,e⟩:=bnd e;obtain⟨r80,e_r80,e⟩:=bnd e;simp only[ZI,ZP]at e;obtain⟨rfl,rfl,rfl,rfl,rfl⟩:=e;exact jf.rq fol [2,5,10,12,18,22,32,34] (kN w (kBI r80)) (kF m.Kind m.At m.Letter (.cells [.i 3,.func (.func 109) [] [],.func (.func 110) [] []]::(kP L M O d5 []))) (ac (cv (qh false 13 b7)) (ac (gw (congrArg not f)) (ac (cv (qh (!decide (m.Letter=0)) 1 b8)) (ac (gw f) (ac (cv (qh false 3 b9)) (ac (gw c78) (ac (cv (qh true 3 e_r79)) (ac (hs (.call 24 [.slice 2 0 4 4 1] (kF m.Kind m.At m.Letter (.cells [.i 3,.func (.func 109) [] [],.func (.func 110) [] []]::(kP L M O d5 []))) [2] [vl encI ([L,M,O,d5]:List Int)] (.i r80)) (vZ (FzL.cons (Fz.lit rfl rfl (Uh (AllST.cons tI (AllST.cons tI (AllST.cons tI (AllST.cons tI AllST.nil)))))) FzL.nil) (zy N ([L,M,O,d5]:List Int) e_r80) tI rfl)) az))))))))
   obtain⟨d6,e_r81,e⟩:=bnd e;obtain⟨r82,e_r82,e⟩:=bnd e;simp only[ZI,ZP]at e;obtain⟨rfl,rfl,rfl,rfl,rfl⟩:=e;exact jf.rq fol [2,5,10,12,18,22,32,34] (kN w (kBI r82)) (kF m.Kind m.At m.Letter (.cells [.i 3,.func (.func 109) [] [],.func (.func 110) [] []]::(kP L M O d6 []))) (ac (cv (qh false 13 b7)) (ac (gw (congrArg not f)) (ac (cv (qh (!decide (m.Letter=0)) 1 b8)) (ac (gw f) (ac (cv (qh false 3 b9)) (ac (gw c78) (ac (cv (qh (decide (m.At>(w64 ((w.length:Int)-3)))) 3 e_r81)) (ac (hs (.call 24 [.slice 2 0 4 4 1] (kF m.Kind m.At m.Letter (.cells [.i 3,.func (.func 109) [] [],.func (.func 110) [] []]::(kP L M O d6 []))) [2] [vl encI ([L,M,O,d6]:List Int)] (.i r82)) (vZ (FzL.cons (Fz.lit rfl rfl (Uh (AllST.cons tI (AllST.cons tI (AllST.cons tI (AllST.cons tI AllST.nil)))))) FzL.nil) (zy N ([L,M,O,d6]:List Int) e_r82) tI rfl)) az))))))))
  try dsimp only at h
  refine sh fol (kN w [(11,.i b6),(59,.bool (!decide (b6=0)))]) ?_;refine ihB h (fun c89 h=>?_) (fun c89 h=>?_)
  ·refine sh fol (kAm [(7,.i b6)]) ?_;refine Goes.ret ?_;obtain rfl:=si h;exact(gw2 [.nilslice,.i b6] (FzW.tuple (ql.cons (FzW.nilv (E:=encI)) (ql.cons (Ua tI) ql.nil))))
  refine Goes.skip ?_;obtain⟨a1,e_s90,h⟩:=bnd h;refine sq (gr fol [8] (kN w [(12,vl encI a1)]) (ac (hs (.done (.opt (yM ZT 22 (vl encI w) (some (.i m.At)) (some (.i (w64 (m.At+3)))) none)) (vl encI a1)) (qjM zO (E:=encI) rfl (some m.At) (some (w64 (m.At+3))) e_s90)) az) ?_);refine sq ?_;obtain⟨r91,e_r91,h⟩:=bnd h;refine sq (gr fol [3] (kN w [(12,vl encI a1),(74,.bool (!r91))]) (ac (cv (qjv a1 e_r91)) az) ?_);refine ihB h (fun c92 h=>?_) (fun c92 h=>?_)
  ·refine sh fol (kAm [(7,.i 18)]) ?_;refine Goes.ret ?_;obtain rfl:=si h;exact(gw2 kBK (FzW.tuple (ql.cons (FzW.nilv (E:=encI)) (ql.cons (Ua tI) ql.nil))))
  refine Goes.skip ?_;obtain⟨_,e_r93,h⟩:=bnd h;obtain⟨l95,e_r94,h⟩:=bnd h;obtain⟨c0,e_r96,h⟩:=bnd h;refine sq (gq fol [1,13,14] ((6,.oslice 4 c0.length 1)::kBH) (kF m.Kind m.At m.Letter (.cells [.i 3,.func (.func 109) [] [],.func (.func 110) [] []]::(kP H I J K (.dead::(kA c0 []))))) (ac (hs (.callH 26 [vl encI w] (kF m.Kind m.At m.Letter (.cells [.i 3,.func (.func 109) [] [],.func (.func 110) [] []]::(kP H I J K []))) [] (.gslice 3 w.length 1) (kF m.Kind m.At m.Letter (.cells [.i 3,.func (.func 109) [] [],.func (.func 110) [] []]::(kP H I J K (kA w []))))) (zH [] [none,none,none,some 0] (qda w e_r93) .nil rfl rfl (.old rfl rfl (.old rfl rfl (.old rfl rfl (.new rfl rfl (.same fa) rfl .nil)))) (rc (.same (qa encI _)) rn) (.gslice rfl) rfl)) (ac (hs (.callH 110 (vl encI a1::(kAW m.Kind m.At m.Letter)) (kF m.Kind m.At m.Letter (.cells [.i 3,.func (.func 109) [] [],.func (.func 110) [] []]::(kP H I J K (kA w [])))) [] (vl encI l95) (kF m.Kind m.At m.Letter (.cells [.i 3,.func (.func 109) [] [],.func (.func 110) [] []]::(kP H I J K (kA w []))))) (zH [] [none,none,none,none] (qgl a1 m.Kind m.At m.Letter e_r94) .nil rfl rfl (.old rfl rfl (.old rfl rfl (.old rfl rfl (.old rfl rfl .nil)))) (rc (.same (qa encI _)) (rc (.same (qH.agg sn)) rn)) (.same (qa encI _)) rfl)) (ac (hs (.callH 83 [.gslice 3 w.length 1,.i m.At,.i (w64 (m.At+3)),vl encI l95] (kF m.Kind m.At m.Letter (.cells [.i 3,.func (.func 109) [] [],.func (.func 110) [] []]::(kP H I J K (kA w [])))) [3] (.oslice 4 c0.length 1) (kF m.Kind m.At m.Letter (.cells [.i 3,.func (.func 109) [] [],.func (.func 110) [] []]::(kP H I J K (.dead::(kA c0 [])))))) (zH [some 3] [none,none,none,none,some 1] (qrx w m.At (w64 (m.At+3)) l95 e_r96) (.ks .nil) rfl rfl (.old rfl rfl (.old rfl rfl (.old rfl rfl (.dead (.new rfl rfl (.same fa) rfl .nil))))) (rc (.gslice rfl) (rc (.same nI) (rc (.same nI) (rc (.same (qa encI _)) rn)))) (.oslice rfl) rfl)) az))) ?_);refine Goes.ret ?_;obtain rfl:=si h;exact(gw2 [.oslice 4 c0.length 1,.i 0] (FzW.tuple (ql.cons (Us (Fz.os (E:=encI) rfl rfl (nl rfl))) (ql.cons (Ua tI) ql.nil))))
 refine gq fol [0,3] (kC n w (kAO [(8,.ptr 1 0),(9,.bool false)])) (kF m.Kind m.At m.Letter (kAw [])) (ac (cv (qa1 j)) (ac (hs (.done (qbz ZT 130 (fm1) (.str m.Kind) true) (.tuple [.agg [.i 0,.nilfunc,.nilfunc],.bool false])) (quv ql5 [[105,110,115,101,114,116],[99,97,110,99,101,108],[115,119,97,112],[116,117,114,110]] (xU f (xU c3 (xU c4 (xU c5 (rfl))))))) az)) ?_;refine sh fol (kC n w (kAO ((8,.ptr 1 0)::(9,.bool false)::(kBA (m.Kind==[105,110,115,101,114,116]))))) ?_;refine sq ?_;refine sq ?_;obtain⟨⟨n106,n107,n108,n109,P⟩,a,h⟩:=bnd h;refine Goes.cut (s':=(ofG 90 (kN w (kBI P)),(kF m.Kind m.At m.Letter (kAw (kP n106 n107 n108 n109 []))))) ?_ ?_
 ·obtain⟨Q,c1,a⟩:=bnd a;obtain⟨T,c7,a⟩:=bnd a;obtain⟨g,U,a⟩:=bnd a;rcases wyD a with⟨c8,a⟩|⟨c8,a⟩
  ·obtain⟨V,d7,a⟩:=bnd a;obtain⟨r103,d8,a⟩:=bnd a;simp only[ZI,ZP]at a;obtain⟨rfl,rfl,rfl,rfl,rfl⟩:=a;exact jf.rq fol [2,5,10,12,18,22,32,34] (kN w (kBI r103)) (kF m.Kind m.At m.Letter (kAw (kP Q T g V []))) (ac (cv (qh true 13 c1)) (ac (gw (congrArg not f)) (ac (cv (qh (!decide (m.Letter=0)) 1 c7)) (ac (gw f) (ac (cv (qh false 3 U)) (ac (gw c8) (ac (cv (qh true 3 d7)) (ac (hs (.call 24 [.slice 2 0 4 4 1] (kF m.Kind m.At m.Letter (kAw (kP Q T g V []))) [2] [vl encI ([Q,T,g,V]:List Int)] (.i r103)) (vZ (FzL.cons (Fz.lit rfl rfl (Uh (AllST.cons tI (AllST.cons tI (AllST.cons tI (AllST.cons tI AllST.nil)))))) FzL.nil) (zy N ([Q,T,g,V]:List Int) d8) tI rfl)) az))))))))
  obtain⟨X,d9,a⟩:=bnd a;obtain⟨r105,e0,a⟩:=bnd a;simp only[ZI,ZP]at a;obtain⟨rfl,rfl,rfl,rfl,rfl⟩:=a;exact jf.rq fol [2,5,10,12,18,22,32,34] (kN w (kBI r105)) (kF m.Kind m.At m.Letter (kAw (kP Q T g X []))) (ac (cv (qh true 13 c1)) (ac (gw (congrArg not f)) (ac (cv (qh (!decide (m.Letter=0)) 1 c7)) (ac (gw f) (ac (cv (qh false 3 U)) (ac (gw c8) (ac (cv (qh (decide (m.At>(w64 ((w.length:Int)-0)))) 3 d9)) (ac (hs (.call 24 [.slice 2 0 4 4 1] (kF m.Kind m.At m.Letter (kAw (kP Q T g X []))) [2] [vl encI ([Q,T,g,X]:List Int)] (.i r105)) (vZ (FzL.cons (Fz.lit rfl rfl (Uh (AllST.cons tI (AllST.cons tI (AllST.cons tI (AllST.cons tI AllST.nil)))))) FzL.nil) (zy N ([Q,T,g,X]:List Int) e0) tI rfl)) az))))))))
 try dsimp only at h
 refine sh fol (kN w [(11,.i P),(59,.bool (!decide (P=0)))]) ?_;refine ihB h (fun c112 h=>?_) (fun c112 h=>?_)
 ·refine sh fol (kAm [(7,.i P)]) ?_;refine Goes.ret ?_;obtain rfl:=si h;exact(gw2 [.nilslice,.i P] (FzW.tuple (ql.cons (FzW.nilv (E:=encI)) (ql.cons (Ua tI) ql.nil))))
 refine Goes.skip ?_;obtain⟨s113,e1,h⟩:=bnd h;refine sq (gr fol [8] (kN w [(12,vl encI s113)]) (ac (hs (.done (.opt (yM ZT 22 (vl encI w) (some (.i m.At)) (some (.i (w64 (m.At+0)))) none)) (vl encI s113)) (qjM zO (E:=encI) rfl (some m.At) (some (w64 (m.At+0))) e1)) az) ?_);refine sq ?_;refine sq ?_;cases h
def yJ (a:List Int):Option Unit:=
 some ()
theorem qdD (a:List Int) (h:yJ a=some ()):qc ZT (.fn 27) [vl encI a] [] (.func (.func 45) [] [.ptr 0 0]) (kD a []):=by
 unfold yJ at h;refine Ui Tryz.func27 rfl rfl (m:=4) rfl (rs:=[.tmp 2]) rfl (l:=(kAC a [])) rfl ?_;intro B hB;refine sg fol [(1,.ptr 0 0)] (kD a []) ?_;refine sh fol [(2,.func (.func 45) [] [.ptr 0 0])] ?_;refine Goes.ret ?_;exact(gh2 [.func (.func 45) [] [.ptr 0 0]] (qcE.refl _ _))
def jk (N:Nat) (d:Int) (e:List Int) (f:Option (List qx)) (a:Str) (b:Int) (c:Int):Option ((List Int)×(List qx)):=
 (qJ N d e (⟨a,b,c⟩:qx)).bind fun g=>
 ((match f with
 |none=>
 some ([(⟨a,b,c⟩:qx)]:List qx)
 |some h=>
 (app 32 h [(⟨a,b,c⟩:qx)]).bind fun i=>
 some i):Option (List qx)).bind fun j=>
 some (g.1,j)
theorem xu (N:Nat) (e:Int) (j:List Int) (g:Option (List qx)) (a:Str) (b:Int) (d:Int) {s:List Int} {r:List qx} (h:jk N e j g a b d=some (s,r)):qc ZT (.fn 28) (.ptr 0 0::(kAW a b d)) (kAT e j g (kI g [])) (.tuple []) (kAV e s r (kJ r)):=by
 unfold jk at h;refine Ui Tryz.func28 rfl rfl (m:=30) rfl (rs:=[]) rfl (l:=(kAX (kA9 a b d))) rfl ?_;intro B hB;refine Ul ?_;refine sg fol (kAX kBS) (kAT e j g (kI g (kF a b d []))) ?_;obtain⟨k,n,h⟩:=bnd h;refine sq (gq fol [10] (kAX kBS) (kAT e k.1 g (kI g (kF a b d []))) (ac (cv (qdo N e j (⟨a,b,d⟩:qx) n)) az) ?_);obtain⟨t,f,h⟩:=bnd h;refine Goes.cutS (s':=(ofG 30 [],(kAV e k.1 t (kJ t)))) ?_ ?_
 ·rcases g with _|o
  ·try dsimp only at f
   obtain rfl:=si f;exact jf.sub (jf.rg fol [] (.cells [.i e,vl encI k.1,.oslice 4 1 3]:: .cells ((hof (none:Option (List qx))).flatMap qy.c)::(kF a b d (kF a b d (kF a b d []))))) (Uc [] [some 0,some 1,some 4] (by rw[hB];rfl) rfl .nil (.kb rfl (.cells (rc (.same nI) (rc (.same (qa encI _)) (rc ((jD.osliceE rfl rfl)) rn)))) (.lost (.ks .nil))))
  try dsimp only at f
  obtain⟨q,p,f⟩:=bnd f;obtain rfl:=si f;exact jf.sub (jf.rq fol [7] [] (kBW e k.1 q (kF a b d (kF a b d (kJ q)))) (ac (hs (.run [1,3] (vM ZT [31,31] (.oslice 1 o.length 3) (.slice 3 0 1 1 3)) (kX e k.1 o (kBh o (kF a b d (kF a b d [])))) (.oslice 4 q.length 3) (kX e k.1 o (.dead::(kF a b d (kF a b d (kJ q))))) true) (qcl qpT (E:=qy) rfl (qgQ (E:=qy) (ys:=[(⟨a,b,d⟩:qx)]) rfl rfl rfl rfl) (qoC (E:=qy) (l:=o) rfl rfl rfl p rfl))) az)) (Uc [] [some 0,some 1,some 4] (by rw[hB];rfl) rfl .nil (.kb rfl (.cells (rc (.same nI) (rc (.same (qa encI _)) (rc (.oslice rfl) rn)))) (.lost (.ks .nil))))
 intro _ hsub;simp only[ZI,ZP]at h;obtain⟨rfl,rfl⟩:=h;exact⟨_,hsub,(gh2 [] (Sub.keep [0] rfl rfl))⟩
def qbS (N:Nat) (a:List Int) (b:List Int) (c:Int) (d:List Int) (e:Option (List qx)) (f:Int) (g:Int):Option ((List Int)×(List qx)):=
 (jk N c d e [105,110,115,101,114,116] (w64 ((w64 ((w64 ((a.length:Int)+(b.length:Int)))-1))-f)) (w64 (0-g))).bind fun(h,i)=>
 some (h,i)
theorem qg2 (N:Nat) (a:List Int) (b:List Int) (c:Int) (g:List Int) (f:Option (List qx)) (d:Int) (e:Int) {o:List Int} {n:List qx} (h:qbS N a b c g f d e=some (o,n)):qc ZT (.rd 0) [.i d,.i e] (.loop .ready none (ofG 89 [(4,.ptr 1 0),(5,.ptr 2 0),(9,.ptr 3 0)]) zP.xp zP.x1 zP.x2::(kD a (kD b (kAK (.cells [.i c,vl encI g,hsl 5 3 f]::(kI f [])))))) (.bool true) (.loop .ready none (ofG 89 [(4,.ptr 1 0),(5,.ptr 2 0),(9,.ptr 3 0)]) zP.xp zP.x1 zP.x2::(kD a (kD b (kAK (kBV c o n (kJ n)))))):=by
 unfold qbS at h;refine Goes.round (m:=89) (l0:=(kAE [])) (l:=(kAE [(44,.i d),(45,.i e)])) rfl rfl rfl ?_;intro B hB;refine Ul ?_;refine sh fol (kAE [(10,.i d),(45,.i e)]) ?_;refine gh fol (kAE ((10,.i d)::(kBI e))) ?_;refine⟨_,Sub.refl _,?_⟩;refine⟨_,_,_,_,_,rfl,?_⟩;refine Ul ?_;refine Goes.block ?_;obtain⟨⟨p,k⟩,j,h⟩:=bnd h
 try dsimp only at h
 refine gq fol [12] [] (.loop .busy none (ofG 89 [(4,.ptr 1 0),(5,.ptr 2 0),(9,.ptr 3 0)]) zP.xp zP.x1 zP.x2::(kD a (kD b (kAK (kBV c p k (kJ k)))))) (ac (hs (.callH 28 (.ptr 4 0::(kA3 (w64 ((w64 ((w64 ((a.length:Int)+(b.length:Int)))-1))-d)) (w64 (0-e)))) (.loop .busy none (ofG 89 [(4,.ptr 1 0),(5,.ptr 2 0),(9,.ptr 3 0)]) zP.xp zP.x1 zP.x2::(kD a (kD b (kAK (.cells [.i c,vl encI g,hsl 5 3 f]::(kI f [])))))) [4,5] (.tuple []) (.loop .busy none (ofG 89 [(4,.ptr 1 0),(5,.ptr 2 0),(9,.ptr 3 0)]) zP.xp zP.x1 zP.x2::(kD a (kD b (kAK (kBV c p k (kJ k))))))) (zH [some 4,some 5] [none,none,none,none,some 0,none,some 2] (xu N c g f [105,110,115,101,114,116] (w64 ((w64 ((w64 ((a.length:Int)+(b.length:Int)))-1))-d)) (w64 (0-e)) j) (.kb rfl (.cells (rc (.same nI) (rc (.same (qa encI _)) (rc (.hs rfl) rn)))) (.ks .nil)) rfl rfl (.old rfl rfl (.old rfl rfl (.old rfl rfl (.old rfl rfl (.back rfl rfl (.cells (rc (.same nI) (rc (.same (qa encI _)) (rc (.oslice rfl) rn)))) rfl (.dead (.new rfl rfl (.same fa) rfl .nil))))))) (rc (.ptr rfl) (rc (.same (qH.agg sn)) rn)) (.same (qH.tuple sn)) rfl)) az) ?_;simp only[ZI,ZP]at h;obtain⟨rfl,rfl⟩:=h;exact⟨_,Sub.refl _,⟨_,_,rfl,(Sub.keep [0] rfl rfl)⟩⟩
def qQ (N:Nat) (a:List Int) (b:List Int) (c:Int) (d:List Int):Nat->(List Int)->(Option (List qx))->Int->Option ((List Int)×(Option (List qx)))
 |0,_,_,_=>none
 |K+1,i,j,e=>
  if e>=0 then
  (idx d e).bind fun f=>
  (qbS N a b c i j e f).bind fun(g,h)=>
  qQ N a b c d K g (some h) (w64 (e-1))
  else
  some (i,j)
def vL (N:Nat) (b:List Int) (c:List Int) (d:Int) (e:List Int) (a:List Int):Option ((List Int)×(Option (List qx))):=
 (qQ N b c d a N e (none:Option (List qx)) (w64 ((a.length:Int)-1))).bind fun(f,g)=>
 some (f,g)
theorem qcC (N:Nat) (d:List Int) (e:List Int) (f:Int) (n:List Int) (a:List Int) {y:List Int} {v:Option (List qx)} (h:vL N d e f n a=some (y,v)):qc ZT (.fn 45) [.yld 0,.ptr 6 0] (.loop .ready none (ofG 89 [(4,.ptr 1 0),(5,.ptr 2 0),(9,.ptr 3 0)]) zP.xp zP.x1 zP.x2::(kD d (kD e (kAK (.cells [.i f,.gslice 5 n.length 1,.nilslice]::(kA n (kD a []))))))) (.tuple []) (.loop .ready none (ofG 89 [(4,.ptr 1 0),(5,.ptr 2 0),(9,.ptr 3 0)]) zP.xp zP.x1 zP.x2::(kD d (kD e (kAK (kBc f y v (kD a (kI v []))))))):=by
 unfold vL at h;refine Ui Tryz.func45 rfl rfl (m:=19) rfl (rs:=[]) rfl (l:=[(0,.yld 0),(1,.ptr 6 0)]) rfl ?_;intro B hB;refine Ul ?_;refine sh fol ((0,.yld 0)::(kBT (w64 ((a.length:Int)-1)) [])) ?_;refine Goes.block ?_;obtain⟨z,g8,h⟩:=bnd h;refine Goes.imp (Q:=fun x s'=>(x= .exit 0/\ ∃w u,(w,u)=z/\Sub s' (ofG 19 [],(.loop .ready none (ofG 89 [(4,.ptr 1 0),(5,.ptr 2 0),(9,.ptr 3 0)]) zP.xp zP.x1 zP.x2::(kD d (kD e (kAK (kBc f w u (kD a (kI u [])))))))))) ?_ ?_
 ·refine Goes.sub (s':=(ofG 19 ((0,.yld 0)::(kBT (w64 ((a.length:Int)-1)) [])),(.loop .ready none (ofG 89 [(4,.ptr 1 0),(5,.ptr 2 0),(9,.ptr 3 0)]) zP.xp zP.x1 zP.x2::(kD d (kD e (kAK (.cells [.i f,vl encI n,hsl 7 3 (none:Option (List qx))]:: .dead::(kD a [.cells ((hof (none:Option (List qx))).flatMap qy.c)])))))))) (Uc [5] [some 0,some 1,some 2,some 3,some 4,some 5,some 6,none] (by rw[hB];rfl) rfl (.keep (.yld rfl) (.kp (.keep (.same nI) .nil))) (.kb rfl (.loop rfl (.kp (.kp (.kp .nil)))) (.kb rfl (.same sn) (.kb rfl (.same sn) (.kb rfl (.cells (rc (.ptr rfl) rn)) (.kb rfl (.cells (rc (.same nI) (rc (.frz (Fz.gs (E:=encI) rfl rfl (nl rfl)) (qa encI _)) (rc .hs0 rn)))) (.lost (.kb rfl (.same sn) (.fresh .nil))))))))) ?_;refine Ue (fun M s=> ∃(r:List Int) (o:Option (List qx)) (k:Int),s=(ofG 19 ((0,.yld 0)::(kBT k [])),(.loop .ready none (ofG 89 [(4,.ptr 1 0),(5,.ptr 2 0),(9,.ptr 3 0)]) zP.xp zP.x1 zP.x2::(kD d (kD e (kAK (kBc f r o (kD a (kI o []))))))))/\qQ N d e f a M r o k=some z) ?_ (m:=N) ⟨_,_,_,rfl,g8⟩;rintro M s ⟨r,o,k,rfl,g8⟩
  cases M with
  |zero=>simp only[qQ]at g8;cases g8
  |succ M=>
   rw[qQ]at g8;refine sq ?_;refine sh fol ((0,.yld 0)::(kBT k [(8,.bool (decide (k>=0)))])) ?_;refine ihD g8 (fun A g8=>?_) (fun A g8=>?_)
   ·refine Goes.skip ?_;refine sq (Goes.block ?_);obtain⟨t,j,g8⟩:=bnd g8;obtain⟨⟨p,g⟩,q,g8⟩:=bnd g8
    try dsimp only at g8
    refine sq (gq fol [4,5,6] ((0,.yld 0)::(kBT k [(18,.bool false)])) (.loop .ready none (ofG 89 [(4,.ptr 1 0),(5,.ptr 2 0),(9,.ptr 3 0)]) zP.xp zP.x1 zP.x2::(kD d (kD e (kAK (.cells [.i f,vl encI p,.oslice 8 g.length 3]:: .dead::(kD a (.dead::(kJ g)))))))) (ac (iv zO encI j) (ac (lv 0 ce3 encI j rfl) (ac (hs (.callH (.rd 0) [.i k,.i t] (.loop .ready none (ofG 89 [(4,.ptr 1 0),(5,.ptr 2 0),(9,.ptr 3 0)]) zP.xp zP.x1 zP.x2::(kD d (kD e (kAK (kBc f r o (kD a (kI o []))))))) [0,1,2,3,4,7] (.bool true) (.loop .ready none (ofG 89 [(4,.ptr 1 0),(5,.ptr 2 0),(9,.ptr 3 0)]) zP.xp zP.x1 zP.x2::(kD d (kD e (kAK (.cells [.i f,vl encI p,.oslice 8 g.length 3]:: .dead::(kD a (.dead::(kJ g))))))))) (qog [some 0,some 1,some 2,some 3,some 4,some 7] [some 0,some 1,some 2,some 3,some 4,none,none,none,some 6] (qg2 N d e f r o k t q) rfl (.kb rfl (.loop rfl (.kp (.kp (.kp .nil)))) (.kb rfl (.cells (rc (.same (qa encI _)) rn)) (.kb rfl (.cells (rc (.same (qa encI _)) rn)) (.kb rfl (.cells (rc (.ptr rfl) rn)) (.kb rfl (.cells (rc (.same nI) (rc (.same (qa encI _)) (rc (.hs rfl) rn)))) (.ks .nil)))))) rfl rfl (.back rfl rfl (.loop rfl (.kp (.kp (.kp .nil)))) rfl (.back rfl rfl (.cells (rc (.same (qa encI _)) rn)) rfl (.back rfl rfl (.cells (rc (.same (qa encI _)) rn)) rfl (.back rfl rfl (.cells (rc (.ptr rfl) rn)) rfl (.back rfl rfl (.cells (rc (.same nI) (rc (.same (qa encI _)) (rc (.oslice rfl) rn)))) rfl (.old rfl rfl (.old rfl rfl (.dead (.new rfl rfl (.same fa) rfl .nil))))))))) (rc (.same nI) (rc (.same nI) rn)) (.same nB) rfl)) az))) ?_);refine U7 (b:=false) (by kernel_rfl) (fun c=>(by cases c)) (fun _=>?_);refine Goes.skip ?_;refine gh fol ((0,.yld 0)::(kBT (w64 (k-1)) [])) ?_;exact⟨M,(ofG 19 ((0,.yld 0)::(kBT (w64 (k-1)) [])),(.loop .ready none (ofG 89 [(4,.ptr 1 0),(5,.ptr 2 0),(9,.ptr 3 0)]) zP.xp zP.x1 zP.x2::(kD d (kD e (kAK (kBc f p (some g) (kD a (kI (some g) [])))))))),Nat.lt_succ_self _,(Uc [] [some 0,some 1,some 2,some 3,some 4,some 5,some 6,some 8] (by rw[hB];rfl) rfl (.keep (.yld rfl) (.kp (.keep (.same nI) .nil))) (.kb rfl (.loop rfl (.kp (.kp (.kp .nil)))) (.kb rfl (.same sn) (.kb rfl (.same sn) (.kb rfl (.cells (rc (.ptr rfl) rn)) (.kb rfl (.cells (rc (.same nI) (rc (.same (qa encI _)) (rc ((jD.hs1 rfl)) rn)))) (.lost (.kb rfl (.same sn) (.ks .nil))))))))),_,_,_,rfl,g8⟩
   refine Goes.exit ?_;obtain rfl:=si g8;exact⟨rfl,_,_,rfl,(Sub.keep [] rfl rfl)⟩
 rintro x s' ⟨rfl,w,u,rfl,hsub⟩
 try dsimp only at h
 simp only[ZI,ZP]at h;obtain⟨rfl,rfl⟩:=h;exact⟨_,hsub,(gh2 [] (Sub.keep [0] rfl rfl))⟩
def qM (a:List Int) (e:Int):Nat->Int->Option (Unit⊕(Int×Int×Bool))
 |0,_=>none
 |K+1,d=>
  if d>=0 then
  (idx a d).bind fun b=>
  (idx a e).bind fun c=>
  if b=(w64 (0-c))then
  some (.inr (d,e,true))
  else
  ((qX b).bind fun f=>
  (qX c).bind fun g=>
  if f=g then
  some true
  else
  (qX b).bind fun h=>
  (qX c).bind fun i=>
  some (decide (h=(w64 (i-1)))):Option Bool).bind fun j=>
  if j=true then
  some (.inl ())
  else
  qM a e K (w64 (d-1))
  else
  some (.inl ())
def qL (N:Nat) (a:List Int) (b:Int):Nat->Int->Option (Unit⊕(Int×Int×Bool))
 |0,_=>none
 |K+1,c=>
  if c<b then
  (qM a c N (w64 (c-1))).bind (fun
  |(.inl ())=>
  qL N a b K (w64 (c+1))
  |(.inr d)=>
  some (.inr d))
  else
  some (.inl ())
def jm (N:Nat) (d:Int) (a:List Int) (e:Option (List qx)) (b:Int):Option (Int×Int×Bool):=
 (qL N a b N 0).bind (fun
 |(.inl ())=>
 some (0,0,false)
 |(.inr c)=>
 some c)
theorem qdC (N:Nat) (f:Int) (e:List Int) (b:Option (List qx)) (c:Int) {H:Int} {I:Int} {J:Bool} (h:jm N f e b c=some (H,I,J)):qc ZT (.fn 29) [.ptr 0 0,.i c] (kAT f e b (kI b [])) (.tuple [.i H,.i I,.bool J]) (kAT f e b (kI b [])):=by
 unfold jm at h;refine Ui Tryz.func29 rfl rfl (m:=57) rfl (rs:=[.tmp 4,.tmp 5,.tmp 6]) rfl (l:=(kAX (kBM c))) rfl ?_;intro B hB;refine sh fol (kAX (kBM c)) ?_;refine sq ?_;refine sh fol (kAX [(11,.i c),(12,.i 0)]) ?_;refine Goes.block ?_;obtain⟨y,g5,h⟩:=bnd h;refine Goes.imp (Q:=fun x s'=>(x= .exit 0/\(.inl ())=y/\Sub s' (ofG 57 [],(kAT f e b (kI b []))))\/(x= .ret/\ ∃w,(.inr w)=y/\qcv ZT [.tmp 4,.tmp 5,.tmp 6] (.tuple [.i w.1,.i w.2.1,.bool w.2.2]) (kAT f e b (kI b [])) .ret s')) ?_ ?_
 ·refine Ue (fun M s=> ∃(d:Int),s=(ofG 57 (kAX (kAG c d [])),(kAT f e b (kI b [])))/\qL N e c M d=some y) ?_ (m:=N) ⟨_,rfl,g5⟩;rintro M s ⟨d,rfl,g5⟩
  cases M with
  |zero=>simp only[qL]at g5;cases g5
  |succ M=>
   rw[qL]at g5;refine sh fol (kAX (kAG c d (kBa (decide (d<c))))) ?_;refine sq ?_;refine ihD g5 (fun K g5=>?_) (fun K g5=>?_)
   ·refine Goes.skip ?_;refine sq (Goes.block ?_);refine sh fol (kAX ((7,.i d)::(kAG c d []))) ?_;refine Goes.scope ?_;refine sq (Goes.label ?_);refine sh fol (kT d (w64 (d-1)) (kAG c d [])) ?_;refine Goes.block ?_;obtain⟨z,g9,g5⟩:=bnd g5;refine Goes.imp (Q:=fun x s'=>(x= .exit 2/\(.inl ())=z/\Sub s' (ofG 57 (kAX (kAG c d [])),(kAT f e b (kI b []))))\/(x= .ret/\ ∃r,(.inr r)=z/\qcv ZT [.tmp 4,.tmp 5,.tmp 6] (.tuple [.i r.1,.i r.2.1,.bool r.2.2]) (kAT f e b (kI b [])) .ret s')) ?_ ?_
    ·refine Ue (fun M s=> ∃(g:Int),s=(ofG 57 (kT d g (kAG c d [])),(kAT f e b (kI b [])))/\qM e d M g=some z) ?_ (m:=N) ⟨_,rfl,g9⟩;rintro M s ⟨g,rfl,g9⟩
     cases M with
     |zero=>simp only[qM]at g9;cases g9
     |succ M=>
      rw[qM]at g9;refine sq ?_;refine sh fol (kT d g (kAG c d (kBZ (decide (g>=0))))) ?_;refine ihD g9 (fun A g9=>?_) (fun A g9=>?_)
      ·refine Goes.skip ?_;refine sq (Goes.block ?_);obtain⟨j,n,g9⟩:=bnd g9;obtain⟨k,o,g9⟩:=bnd g9;refine sq (gr fol [5,6,12,13] (kT d g (kAq j k (kAG c d []))) (ac (iv zO encI n) (ac (lv 0 ce3 encI n rfl) (ac (iv zO encI o) (ac (lv 0 ce3 encI o rfl) az)))) ?_);refine Goes.block ?_;refine sh fol (kT d g (kAq j k (kAG c d [(35,.bool (decide (j=(w64 (0-k)))))]))) ?_;refine ihD g9 (fun C g9=>?_) (fun C g9=>?_)
       ·refine sh fol [(4,.i g),(5,.i d),(6,.bool true)] ?_;refine Goes.ret ?_;obtain rfl:=si g9;exact Or.inr (⟨rfl,_,rfl,(gh2 (.i g:: .i d::kBd) (qcE.refl _ _))⟩)
       refine sq ?_;obtain⟨D,a,g9⟩:=bnd g9;refine Goes.cut (s':=(ofG 57 (kT d g (kAG c d [(42,.bool D)])),(kAT f e b (kI b [])))) ?_ ?_
       ·obtain⟨L,p,a⟩:=bnd a;obtain⟨O,q,a⟩:=bnd a;rcases wyD a with⟨t,a⟩|⟨t,a⟩
        ·obtain rfl:=si a;exact tr fol [1,3,5] (kT d g (kAG c d [(42,.bool true)])) (ac (cv (qp j p)) (ac (cv (qp k q)) (ac (gw t) az)))
        obtain⟨E,u,a⟩:=bnd a;obtain⟨F,v,a⟩:=bnd a;obtain rfl:=si a;exact tr fol [1,3,5,7,9] (kT d g (kAG c d [(42,.bool (decide (E=(w64 (F-1)))))])) (ac (cv (qp j p)) (ac (cv (qp k q)) (ac (gw t) (ac (cv (qp j u)) (ac (cv (qp k v)) az)))))
       refine ihB g9 (fun G g9=>?_) (fun G g9=>?_)
       ·refine Goes.exit ?_;obtain rfl:=si g9;exact Or.inl (⟨rfl,rfl,(Sub.keep [0,11,12] rfl rfl)⟩)
       refine Goes.skip ?_;refine gh fol (kT d (w64 (g-1)) (kAG c d [])) ?_;exact⟨M,(ofG 57 (kT d (w64 (g-1)) (kAG c d [])),(kAT f e b (kI b []))),Nat.lt_succ_self _,(Sub.refl _),_,rfl,g9⟩
      refine Goes.exit ?_;obtain rfl:=si g9;exact Or.inl (⟨rfl,rfl,(Sub.keep [0,11,12] rfl rfl)⟩)
    rintro x s' (⟨rfl,rfl,hsub⟩|⟨rfl,P,rfl,hret⟩)
    ·try dsimp only at g5
     refine Goes.sub hsub ?_;refine gh fol (kAX (kAG c (w64 (d+1)) [])) ?_;exact⟨M,(ofG 57 (kAX (kAG c (w64 (d+1)) [])),(kAT f e b (kI b []))),Nat.lt_succ_self _,(Sub.refl _),_,rfl,g5⟩
    try dsimp only at g5
    obtain rfl:=si g5;exact Or.inr (⟨rfl,_,rfl,hret⟩)
   refine Goes.exit ?_;obtain rfl:=si g5;exact Or.inl (⟨rfl,rfl,(Sub.keep [] rfl rfl)⟩)
 rintro x s' (⟨rfl,rfl,hsub⟩|⟨rfl,T,rfl,hret⟩)
 ·try dsimp only at h
  refine Goes.sub hsub ?_;refine sh fol ((4,.i 0)::(5,.i 0)::kAg) ?_;refine Goes.ret ?_;simp only[ZI,ZP]at h;obtain⟨rfl,rfl,rfl⟩:=h;exact(gh2 [.i 0,.i 0,.bool false] (qcE.refl _ _))
 try dsimp only at h
 obtain rfl:=si h;exact hret
def yV (N:Nat) (d:Int) (e:List Int) (f:List qx) (a:Str) (b:Int) (c:Int):Option ((List Int)×(List qx)):=
 (qJ N d e (⟨a,b,c⟩:qx)).bind fun g=>
 (app 32 f [(⟨a,b,c⟩:qx)]).bind fun h=>
 some (g.1,h)
theorem qeP (N:Nat) (e:Int) (f:List Int) (d:List qx) (a:Str) (b:Int) (c:Int) {o:List Int} {n:List qx} (h:yV N e f d a b c=some (o,n)):qc ZT (.fn 28) (.ptr 0 0::(kAW a b c)) (kX e f d (kJ d)) (.tuple []) (kAV e o n (kJ n)):=by
 unfold yV at h;refine Ui Tryz.func28 rfl rfl (m:=30) rfl (rs:=[]) rfl (l:=(kAX (kA9 a b c))) rfl ?_;intro B hB;refine Ul ?_;refine sg fol (kAX kBS) (kX e f d (kBh d (kF a b c []))) ?_;obtain⟨j,g,h⟩:=bnd h;refine sq (gq fol [10] (kAX kBS) (kX e j.1 d (kBh d (kF a b c []))) (ac (cv (qdo N e f (⟨a,b,c⟩:qx) g)) az) ?_);obtain⟨k,i,h⟩:=bnd h;refine gq fol [7] [] (kBW e j.1 k (kF a b c (kF a b c (kJ k)))) (ac (hs (.run [1,3] (vM ZT [31,31] (.oslice 1 d.length 3) (.slice 3 0 1 1 3)) (kX e j.1 d (kBh d (kF a b c (kF a b c [])))) (.oslice 4 k.length 3) (kX e j.1 d (.dead::(kF a b c (kF a b c (kJ k))))) true) (qcl qpT (E:=qy) rfl (qgQ (E:=qy) (ys:=[(⟨a,b,c⟩:qx)]) rfl rfl rfl rfl) (qoC (E:=qy) (l:=d) rfl rfl rfl i rfl))) az) ?_;simp only[ZI,ZP]at h;obtain⟨rfl,rfl⟩:=h;exact⟨_,Sub.refl _,(gh2 [] (Uc [] [some 0,some 1,some 4] (by rw[hB];rfl) rfl (.keep (.same (qH.tuple sn)) .nil) (.kb rfl (.cells (rc (.same nI) (rc (.same (qa encI _)) (rc (.oslice rfl) rn)))) (.lost (.ks .nil)))))⟩
def qZ (N:Nat) (a:Int) (c:List Int) (f:Int):Nat->(List Int)->(Option (List qx))->Int->Option ((List Int)×(List qx)×Int)
 |0,_,_,_=>none
 |K+1,g,h,b=>
  (idx g (w64 (b+1))).bind fun d=>
  if d=(w64 (0-f))then
  (jk N a g h [99,97,110,99,101,108] b 0).bind fun(e,i)=>
  some (e,i,w64 ((e.length:Int)-(c.length:Int)))
  else
  (qX f).bind fun j=>
  (qX d).bind fun k=>
  (qX (w64 (j-k))).bind fun l=>
  ((if l>=2 then
  (jk N a g h [115,119,97,112] b 0).bind fun(m,n)=>
  some (m,n,w64 (b+1))
  else
  (jk N a g h [105,110,115,101,114,116] (w64 (b+2)) (w64 (0-f))).bind fun(o,p)=>
  (yV N a o p [116,117,114,110] b 0).bind fun(q,r)=>
  some (q,r,w64 (b+3)):Option ((List Int)×(List qx)×Int))).bind fun(s,t,u)=>
  qZ N a c f K s (some t) u
def xA (N:Nat) (c:Int) (a:List Int) (d:Option (List qx)) (b:Int) (f:Int):Option ((List Int)×(List qx)×Int):=
 (idx a b).bind fun g=>
 (qZ N c a g N a d b).bind fun e=>
 some e
theorem qdS (N:Nat) (a:Int) (b:List Int) (k:Option (List qx)) (e:Int) (A:Int) {Z:List Int} {O:List qx} {n3:Int} (h:xA N a b k e A=some (Z,O,n3)):qc ZT (.fn 30) [.ptr 0 0,.i e,.i A] (kAT a b k (kI k [])) (.i n3) (kAV a Z O (kJ O)):=by
 unfold xA at h;refine Ui Tryz.func30 rfl rfl (m:=75) rfl (rs:=[.tmp 6]) rfl (l:=(kAX [(1,.i e),(2,.i A)])) rfl ?_;intro B hB;refine sh fol (kAX (kBM e)) ?_;refine sh fol (kAX [(1,.i e),(7,.i (b.length:Int))]) ?_;obtain⟨c,z,h⟩:=bnd h;refine sq (gr fol [5,6] (kAX ((1,.i e)::(7,.i (b.length:Int))::(kAx c))) (ac (iv zO encI z) (ac (lv 0 ce3 encI z rfl) az)) ?_);refine sh fol (kT (b.length:Int) c (kBg e)) ?_;refine Goes.block ?_;obtain⟨r8,g8,h⟩:=bnd h;refine Goes.imp (Q:=fun x s'=>(x= .ret/\ ∃J,J=r8/\qcv ZT [.tmp 6] (.i J.2.2) (kAV a J.1 J.2.1 (kJ J.2.1)) .ret s')) ?_ ?_
 ·refine Goes.sub (s':=(ofG 75 (kT (b.length:Int) c (kBg e)),(kAU a b k (.dead::(kI k []))))) (Uc [] [some 0,some 1,some 1] (by rw[hB];rfl) rfl (.kp (.keep (.same nI) (.keep (.same nI) (.keep (.same nI) .nil)))) (.kb rfl (.cells (rc (.same nI) (rc (.same (qa encI _)) (rc (.hs rfl) rn)))) (.lost (.ks .nil)))) ?_;refine Ue (fun M s=> ∃(o:List Int) (g:Option (List qx)) (d:Int),s=(ofG 75 (kT (b.length:Int) c (kBg d)),(kAU a o g (.dead::(kI g []))))/\qZ N a b c M o g d=some r8) ?_ (m:=N) ⟨_,_,_,rfl,g8⟩;rintro M s ⟨o,g,d,rfl,g8⟩
  cases M with
  |zero=>simp only[qZ]at g8;cases g8
  |succ M=>
   rw[qZ]at g8;refine Goes.block ?_;obtain⟨p,n,g8⟩:=bnd g8;refine sq (gr fol [6,7] (kT (b.length:Int) c (kAq d p [])) (ac (iv zO encI n) (ac (lv 0 ce3 encI n rfl) az)) ?_);refine Goes.block ?_;refine sh fol (kT (b.length:Int) c (kAq d p [(45,.bool (decide (p=(w64 (0-c)))))])) ?_;refine ihD g8 (fun P g8=>?_) (fun P g8=>?_)
   ·obtain⟨⟨q,r⟩,C,g8⟩:=bnd g8
    try dsimp only at g8
    refine sq (gq fol [3] (kAX [(7,.i (b.length:Int))]) (kAB a q r (.dead::(kJ r))) (ac (hs (.callH 28 [.ptr 0 0,.agg [.str [99,97,110,99,101,108],.i d,.i 0]] (kAU a o g (.dead::(kI g []))) [0,2] (.tuple []) (kAB a q r (.dead::(kJ r)))) (zH [some 0,some 2] [some 0,none,none,some 2] (xu N a o g [99,97,110,99,101,108] d 0 C) (.kb rfl (.cells (rc (.same nI) (rc (.same (qa encI _)) (rc (.hs rfl) rn)))) (.ks .nil)) rfl rfl (.back rfl rfl (.cells (rc (.same nI) (rc (.same (qa encI _)) (rc (.oslice rfl) rn)))) rfl (.old rfl rfl (.dead (.new rfl rfl (.same fa) rfl .nil)))) (rc (.ptr rfl) (rc (.same (qH.agg sn)) rn)) (.same (qH.tuple sn)) rfl)) az) ?_);refine sh fol [(6,.i (w64 ((q.length:Int)-(b.length:Int))))] ?_;refine Goes.ret ?_;obtain rfl:=si g8;exact⟨rfl,_,rfl,(gh2 [.i (w64 ((q.length:Int)-(b.length:Int)))] (Uc [] [some 0,some 1,some 3] (by rw[hB];rfl) rfl (.keep (.same nI) .nil) (.kb rfl (.cells (rc (.same nI) (rc (.same (qa encI _)) (rc (.oslice rfl) rn)))) (.lost (.ks .nil)))))⟩
   obtain⟨T,D,g8⟩:=bnd g8;obtain⟨U,E,g8⟩:=bnd g8;obtain⟨V,F,g8⟩:=bnd g8;refine sq (gr fol [1,3,5] (kT (b.length:Int) c [(9,.i d),(61,.bool (decide (V>=2)))]) (ac (cv (qp c D)) (ac (cv (qp p E)) (ac (cv (qp (w64 (T-U)) F)) az))) ?_);obtain⟨X,g21,g8⟩:=bnd g8;refine Goes.imp (Q:=fun x s'=>(x= .normal/\ ∃t j u,(t,j,u)=X/\Sub s' (ofG 75 (kT (b.length:Int) c (kBg u)),(kAV a t j (kJ j))))) ?_ ?_
   ·refine ihD g21 (fun Y g21=>?_) (fun Y g21=>?_)
    ·obtain⟨⟨K,v⟩,G,g21⟩:=bnd g21
     try dsimp only at g21
     refine sq (gq fol [3] (kT (b.length:Int) c (kBg d)) (kAB a K v (.dead::(kJ v))) (ac (hs (.callH 28 [.ptr 0 0,.agg [.str [115,119,97,112],.i d,.i 0]] (kAU a o g (.dead::(kI g []))) [0,2] (.tuple []) (kAB a K v (.dead::(kJ v)))) (zH [some 0,some 2] [some 0,none,none,some 2] (xu N a o g [115,119,97,112] d 0 G) (.kb rfl (.cells (rc (.same nI) (rc (.same (qa encI _)) (rc (.hs rfl) rn)))) (.ks .nil)) rfl rfl (.back rfl rfl (.cells (rc (.same nI) (rc (.same (qa encI _)) (rc (.oslice rfl) rn)))) rfl (.old rfl rfl (.dead (.new rfl rfl (.same fa) rfl .nil)))) (rc (.ptr rfl) (rc (.same (qH.agg sn)) rn)) (.same (qH.tuple sn)) rfl)) az) ?_);refine gh fol (kT (b.length:Int) c (kBg (w64 (d+1)))) ?_;obtain rfl:=si g21;exact⟨rfl,_,_,_,rfl,(Uc [] [some 0,some 1,some 3] (by rw[hB];rfl) rfl (.kp (.keep (.same nI) (.keep (.same nI) (.keep (.same nI) .nil)))) (.kb rfl (.cells (rc (.same nI) (rc (.same (qa encI _)) (rc (.oslice rfl) rn)))) (.lost (.ks .nil))))⟩
    obtain⟨⟨w,f⟩,H,g21⟩:=bnd g21
    try dsimp only at g21
    refine sq (gq fol [6] (kT (b.length:Int) c (kBg d)) (kAB a w f (.dead::(kJ f))) (ac (hs (.callH 28 (.ptr 0 0::(kA3 (w64 (d+2)) (w64 (0-c)))) (kAU a o g (.dead::(kI g []))) [0,2] (.tuple []) (kAB a w f (.dead::(kJ f)))) (zH [some 0,some 2] [some 0,none,none,some 2] (xu N a o g [105,110,115,101,114,116] (w64 (d+2)) (w64 (0-c)) H) (.kb rfl (.cells (rc (.same nI) (rc (.same (qa encI _)) (rc (.hs rfl) rn)))) (.ks .nil)) rfl rfl (.back rfl rfl (.cells (rc (.same nI) (rc (.same (qa encI _)) (rc (.oslice rfl) rn)))) rfl (.old rfl rfl (.dead (.new rfl rfl (.same fa) rfl .nil)))) (rc (.ptr rfl) (rc (.same (qH.agg sn)) rn)) (.same (qH.tuple sn)) rfl)) az) ?_);obtain⟨⟨L,y⟩,I,g21⟩:=bnd g21
    try dsimp only at g21
    refine sq (gq fol [3] (kT (b.length:Int) c (kBg d)) (kBW a L y (.dead:: .dead::(kJ y))) (ac (hs (.callH 28 [.ptr 0 0,.agg [.str [116,117,114,110],.i d,.i 0]] (kAB a w f (.dead::(kJ f))) [0,3] (.tuple []) (kBW a L y (.dead:: .dead::(kJ y)))) (zH [some 0,some 3] [some 0,none,none,none,some 2] (qeP N a w f [116,117,114,110] d 0 I) (.kb rfl (.cells (rc (.same nI) (rc (.same (qa encI _)) (rc (.oslice rfl) rn)))) (.ks .nil)) rfl rfl (.back rfl rfl (.cells (rc (.same nI) (rc (.same (qa encI _)) (rc (.oslice rfl) rn)))) rfl (.old rfl rfl (.old rfl rfl (.dead (.new rfl rfl (.same fa) rfl .nil))))) (rc (.ptr rfl) (rc (.same (qH.agg sn)) rn)) (.same (qH.tuple sn)) rfl)) az) ?_);refine gh fol (kT (b.length:Int) c (kBg (w64 (d+3)))) ?_;obtain rfl:=si g21;exact⟨rfl,_,_,_,rfl,(Uc [] [some 0,some 1,some 4] (by rw[hB];rfl) rfl (.kp (.keep (.same nI) (.keep (.same nI) (.keep (.same nI) .nil)))) (.kb rfl (.cells (rc (.same nI) (rc (.same (qa encI _)) (rc (.oslice rfl) rn)))) (.lost (.ks .nil))))⟩
   rintro x s' ⟨rfl,t,j,u,rfl,hsub⟩
   try dsimp only at g8
   exact⟨M,(ofG 75 (kT (b.length:Int) c (kBg u)),(kAU a t (some j) (.dead::(kI (some j) [])))),Nat.lt_succ_self _,(hsub.trans (Uc [] [some 0,some 1,some 2] (by rw[hB];rfl) rfl (.kp (.keep (.same nI) (.keep (.same nI) (.keep (.same nI) .nil)))) (.kb rfl (.cells (rc (.same nI) (rc (.same (qa encI _)) (rc ((jD.hs1 rfl)) rn)))) (.lost (.ks .nil))))),_,_,_,rfl,g8⟩
 rintro x s' ⟨rfl,q32,rfl,hret⟩;obtain rfl:=si h;exact hret
def zx (a:List Int) (e:Int):Nat->Int->Option (Unit⊕(Int×Int×Bool))
 |0,_=>none
 |K+1,d=>
  if d>=0 then
  (idx a d).bind fun b=>
  (idx a e).bind fun c=>
  if b=(w64 (0-c))then
  some (.inr (d,e,true))
  else
  ((qX b).bind fun f=>
  (qX c).bind fun g=>
  if f=g then
  some true
  else
  (qX b).bind fun h=>
  (qX c).bind fun i=>
  some (decide (h=(w64 (i-1)))):Option Bool).bind fun j=>
  if j=true then
  some (.inl ())
  else
  zx a e K (w64 (d-1))
  else
  some (.inl ())
def zu (N:Nat) (a:List Int) (b:Int):Nat->Int->Option (Unit⊕(Int×Int×Bool))
 |0,_=>none
 |K+1,c=>
  if c<b then
  (zx a c N (w64 (c-1))).bind (fun
  |(.inl ())=>
  zu N a b K (w64 (c+1))
  |(.inr d)=>
  some (.inr d))
  else
  some (.inl ())
def vg (N:Nat) (d:Int) (a:List Int) (e:List qx) (b:Int):Option (Int×Int×Bool):=
 (zu N a b N 0).bind (fun
 |(.inl ())=>
 some (0,0,false)
 |(.inr c)=>
 some c)
theorem qdE (N:Nat) (f:Int) (e:List Int) (b:List qx) (c:Int) {H:Int} {I:Int} {J:Bool} (h:vg N f e b c=some (H,I,J)):qc ZT (.fn 29) [.ptr 0 0,.i c] (kX f e b (kJ b)) (.tuple [.i H,.i I,.bool J]) (kX f e b (kJ b)):=by
 unfold vg at h;refine Ui Tryz.func29 rfl rfl (m:=57) rfl (rs:=[.tmp 4,.tmp 5,.tmp 6]) rfl (l:=(kAX (kBM c))) rfl ?_;intro B hB;refine sh fol (kAX (kBM c)) ?_;refine sq ?_;refine sh fol (kAX [(11,.i c),(12,.i 0)]) ?_;refine Goes.block ?_;obtain⟨y,g5,h⟩:=bnd h;refine Goes.imp (Q:=fun x s'=>(x= .exit 0/\(.inl ())=y/\Sub s' (ofG 57 [],(kX f e b (kJ b))))\/(x= .ret/\ ∃w,(.inr w)=y/\qcv ZT [.tmp 4,.tmp 5,.tmp 6] (.tuple [.i w.1,.i w.2.1,.bool w.2.2]) (kX f e b (kJ b)) .ret s')) ?_ ?_
 ·refine Ue (fun M s=> ∃(d:Int),s=(ofG 57 (kAX (kAG c d [])),(kX f e b (kJ b)))/\zu N e c M d=some y) ?_ (m:=N) ⟨_,rfl,g5⟩;rintro M s ⟨d,rfl,g5⟩
  cases M with
  |zero=>simp only[zu]at g5;cases g5
  |succ M=>
   rw[zu]at g5;refine sh fol (kAX (kAG c d (kBa (decide (d<c))))) ?_;refine sq ?_;refine ihD g5 (fun K g5=>?_) (fun K g5=>?_)
   ·refine Goes.skip ?_;refine sq (Goes.block ?_);refine sh fol (kAX ((7,.i d)::(kAG c d []))) ?_;refine Goes.scope ?_;refine sq (Goes.label ?_);refine sh fol (kT d (w64 (d-1)) (kAG c d [])) ?_;refine Goes.block ?_;obtain⟨z,g9,g5⟩:=bnd g5;refine Goes.imp (Q:=fun x s'=>(x= .exit 2/\(.inl ())=z/\Sub s' (ofG 57 (kAX (kAG c d [])),(kX f e b (kJ b))))\/(x= .ret/\ ∃r,(.inr r)=z/\qcv ZT [.tmp 4,.tmp 5,.tmp 6] (.tuple [.i r.1,.i r.2.1,.bool r.2.2]) (kX f e b (kJ b)) .ret s')) ?_ ?_
    ·refine Ue (fun M s=> ∃(g:Int),s=(ofG 57 (kT d g (kAG c d [])),(kX f e b (kJ b)))/\zx e d M g=some z) ?_ (m:=N) ⟨_,rfl,g9⟩;rintro M s ⟨g,rfl,g9⟩
     cases M with
     |zero=>simp only[zx]at g9;cases g9
     |succ M=>
      rw[zx]at g9;refine sq ?_;refine sh fol (kT d g (kAG c d (kBZ (decide (g>=0))))) ?_;refine ihD g9 (fun A g9=>?_) (fun A g9=>?_)
      ·refine Goes.skip ?_;refine sq (Goes.block ?_);obtain⟨j,n,g9⟩:=bnd g9;obtain⟨k,o,g9⟩:=bnd g9;refine sq (gr fol [5,6,12,13] (kT d g (kAq j k (kAG c d []))) (ac (iv zO encI n) (ac (lv 0 ce3 encI n rfl) (ac (iv zO encI o) (ac (lv 0 ce3 encI o rfl) az)))) ?_);refine Goes.block ?_;refine sh fol (kT d g (kAq j k (kAG c d [(35,.bool (decide (j=(w64 (0-k)))))]))) ?_;refine ihD g9 (fun C g9=>?_) (fun C g9=>?_)
       ·refine sh fol [(4,.i g),(5,.i d),(6,.bool true)] ?_;refine Goes.ret ?_;obtain rfl:=si g9;exact Or.inr (⟨rfl,_,rfl,(gh2 (.i g:: .i d::kBd) (qcE.refl _ _))⟩)
       refine sq ?_;obtain⟨D,a,g9⟩:=bnd g9;refine Goes.cut (s':=(ofG 57 (kT d g (kAG c d [(42,.bool D)])),(kX f e b (kJ b)))) ?_ ?_
       ·obtain⟨L,p,a⟩:=bnd a;obtain⟨O,q,a⟩:=bnd a;rcases wyD a with⟨t,a⟩|⟨t,a⟩
        ·obtain rfl:=si a;exact tr fol [1,3,5] (kT d g (kAG c d [(42,.bool true)])) (ac (cv (qp j p)) (ac (cv (qp k q)) (ac (gw t) az)))
        obtain⟨E,u,a⟩:=bnd a;obtain⟨F,v,a⟩:=bnd a;obtain rfl:=si a;exact tr fol [1,3,5,7,9] (kT d g (kAG c d [(42,.bool (decide (E=(w64 (F-1)))))])) (ac (cv (qp j p)) (ac (cv (qp k q)) (ac (gw t) (ac (cv (qp j u)) (ac (cv (qp k v)) az)))))
       refine ihB g9 (fun G g9=>?_) (fun G g9=>?_)
       ·refine Goes.exit ?_;obtain rfl:=si g9;exact Or.inl (⟨rfl,rfl,(Sub.keep [0,11,12] rfl rfl)⟩)
       refine Goes.skip ?_;refine gh fol (kT d (w64 (g-1)) (kAG c d [])) ?_;exact⟨M,(ofG 57 (kT d (w64 (g-1)) (kAG c d [])),(kX f e b (kJ b))),Nat.lt_succ_self _,(Sub.refl _),_,rfl,g9⟩
      refine Goes.exit ?_;obtain rfl:=si g9;exact Or.inl (⟨rfl,rfl,(Sub.keep [0,11,12] rfl rfl)⟩)
    rintro x s' (⟨rfl,rfl,hsub⟩|⟨rfl,P,rfl,hret⟩)
    ·try dsimp only at g5
     refine Goes.sub hsub ?_;refine gh fol (kAX (kAG c (w64 (d+1)) [])) ?_;exact⟨M,(ofG 57 (kAX (kAG c (w64 (d+1)) [])),(kX f e b (kJ b))),Nat.lt_succ_self _,(Sub.refl _),_,rfl,g5⟩
    try dsimp only at g5
    obtain rfl:=si g5;exact Or.inr (⟨rfl,_,rfl,hret⟩)
   refine Goes.exit ?_;obtain rfl:=si g5;exact Or.inl (⟨rfl,rfl,(Sub.keep [] rfl rfl)⟩)
 rintro x s' (⟨rfl,rfl,hsub⟩|⟨rfl,T,rfl,hret⟩)
 ·try dsimp only at h
  refine Goes.sub hsub ?_;refine sh fol ((4,.i 0)::(5,.i 0)::kAg) ?_;refine Goes.ret ?_;simp only[ZI,ZP]at h;obtain⟨rfl,rfl,rfl⟩:=h;exact(gh2 [.i 0,.i 0,.bool false] (qcE.refl _ _))
 try dsimp only at h
 obtain rfl:=si h;exact hret
def vz (N:Nat) (n:Int):Nat->(List Int)->(Option (List qx))->Int->Int->Int->Bool->Option ((List Int)×(Option (List qx)))
 |0,_,_,_,_,_,_=>none
 |K+1,a,b,c,g,h,i=>
  if i=true then
  (xA N n a b g h).bind fun(d,e,f)=>
  (vg N n d e (w64 (c+f))).bind fun(j,k,l)=>
  vz N n K d (some e) (w64 (c+f)) j k l
  else
  some (a,b)
def qa8 (N:Nat) (n:Int) (a:List Int) (b:List Int):Option ((List qx)×Int):=
 (jK N n a b).bind fun j=>
 (qB (decide ((w64 ((a.length:Int)+(b.length:Int)))>24)) 22).bind fun k=>
 (qO N ([j,k]:List Int)).bind fun i=>
 if(!decide (i=0))=true then
 some ([],i)
 else
 (zK N n a b).bind fun l=>
 if(!l)=true then
 some ([],23)
 else
 (qdW a).bind fun _=>
 (yJ b).bind fun _=>
 (vL N a b n a b).bind fun(c,d)=>
 (jm N n c d (w64 ((a.length:Int)+(b.length:Int)))).bind fun(e,f,g)=>
 (vz N n N c d (w64 ((a.length:Int)+(b.length:Int))) e f g).bind fun(m,h)=>
 some ((hof h),0)
theorem qjN (N:Nat) (n:Int) (a:List Int) (b:List Int) {res:(List qx)×Int} (h:qa8 N n a b=some res):qc ZT (.fn 9) (.i n::(kAt a b)) [] (.tuple [vl qy res.1,.i res.2]) []:=by
 unfold qa8 at h;refine Ub Tryz.func9 rfl rfl (m:=89) rfl (rs:=[.tmp 6,.tmp 7]) rfl (l:=(kC n a (kAp b []))) rfl ?_;refine sg fol (kM n []) (kD a (kD b [])) ?_;refine sq ?_;obtain⟨j,K,h⟩:=bnd h;obtain⟨k,L,h⟩:=bnd h;obtain⟨J,O,h⟩:=bnd h;refine sq (gq fol [3,10,12] (kM n (kAx J)) (kD a (kD b (kW j k []))) (ac (cv (xq N n a b K)) (ac (cv (qh (decide ((w64 ((a.length:Int)+(b.length:Int)))>24)) 22 L)) (ac (hs (.call 24 [.slice 2 0 2 2 1] (kD a (kD b (kW j k []))) [2] [vl encI ([j,k]:List Int)] (.i J)) (vZ (FzL.cons (Fz.lit rfl rfl (Uh (AllST.cons tI (AllST.cons tI AllST.nil)))) FzL.nil) (zy N ([j,k]:List Int) O) tI rfl)) az))) ?_);refine sh fol (kM n [(8,.i J),(30,.bool (!decide (J=0)))]) ?_;refine ihB h (fun Z h=>?_) (fun Z h=>?_)
 ·refine sh fol (kAm [(7,.i J)]) ?_;refine Goes.ret ?_;obtain rfl:=si h;exact(gw2 [.nilslice,.i J] (FzW.tuple (ql.cons (FzW.nilv (E:=qy)) (ql.cons (Ua tI) ql.nil))))
 refine Goes.skip ?_;refine sq ?_;obtain⟨r5,P,h⟩:=bnd h;refine sq (gr fol [3] (kM n [(36,.bool (!r5))]) (ac (cv (qdg N n a b P)) az) ?_);refine ihB h (fun c6 h=>?_) (fun c6 h=>?_)
 ·refine sh fol (kAm [(7,.i 23)]) ?_;refine Goes.ret ?_;obtain rfl:=si h;exact(gw2 [.nilslice,.i 23] (FzW.tuple (ql.cons (FzW.nilv (E:=qy)) (ql.cons (Ua tI) ql.nil))))
 refine Goes.skip ?_;obtain⟨_,T,h⟩:=bnd h;refine sq (gq fol [2] (kAb [(9,.ptr 5 0)]) (kD a (kD b (kW j k (kA a (kA5 n a (kAK [])))))) (ac (hs (.callH 26 [vl encI a] (kD a (kD b (kW j k []))) [] (.gslice 3 a.length 1) (kD a (kD b (kW j k (kA a []))))) (zH [] [none,none,none,some 0] (qda a T) .nil rfl rfl (.old rfl rfl (.old rfl rfl (.old rfl rfl (.new rfl rfl (.same fa) rfl .nil)))) (rc (.same (qa encI _)) rn) (.gslice rfl) rfl)) az) ?_);refine sq ?_;obtain⟨_,U,h⟩:=bnd h;refine sq (gq fol [1] (kAb [(9,.ptr 5 0),(43,.func (.func 45) [] [.ptr 6 0])]) (kD a (kD b (kW j k (kA a (kA5 n a (kAK (kD b []))))))) (ac (hs (.callH 27 [vl encI b] (kD a (kD b (kW j k (kA a (kA5 n a (kAK [])))))) [] (.func (.func 45) [] [.ptr 6 0]) (kD a (kD b (kW j k (kA a (kA5 n a (kAK (kD b [])))))))) (zH [] [none,none,none,none,none,none,some 0] (qdD b U) .nil rfl rfl (.old rfl rfl (.old rfl rfl (.old rfl rfl (.old rfl rfl (.old rfl rfl (.old rfl rfl (.new rfl rfl (.cells (rc (.same (qa encI _)) rn)) rfl .nil))))))) (rc (.same (qa encI _)) rn) (.funcL (sn) (rc (.ptr rfl) rn)) rfl)) az) ?_);refine Goes.block ?_;obtain⟨⟨f,c⟩,V,h⟩:=bnd h
 try dsimp only at h
 refine Goes.range fol rfl (gf:=45) (first:=[]) (captured:=[.ptr 6 0]) (v:= .tuple []) (A2:=(kD a (kD b (kW j k (.dead:: .cells [.i n,vl encI f,hsl 8 3 c]::(kAK (kD b (.loop .ready none (ofG 89 [(4,.ptr 0 0),(5,.ptr 1 0),(9,.ptr 5 0)]) zP.xp zP.x1 zP.x2::(kI c []))))))))) (s':=(ofG 89 (kAb [(9,.ptr 5 0),(43,.func (.func 45) [] [.ptr 6 0])]),(kD a (kD b (kW j k (.dead:: .cells [.i n,vl encI f,hsl 8 3 c]::(kAK (kD b (.loop .exhausted none (ofG 89 [(4,.ptr 0 0),(5,.ptr 1 0),(9,.ptr 5 0)]) zP.xp zP.x1 zP.x2::(kI c [])))))))))) (x:= .normal) (by kernel_rfl) (by kernel_rfl) (qiF (show(Obl.callH 45 [.yld 7,.ptr 6 0] (kD a (kD b (kW j k (kA a (kA5 n a (kAK (kD b [.loop .ready none (ofG 89 [(4,.ptr 0 0),(5,.ptr 1 0),(9,.ptr 5 0),(43,.func (.func 45) [] [.ptr 6 0])]) zP.xp zP.x1 zP.x2]))))))) [7,0,1,5,4,3,6] (.tuple []) (kD a (kD b (kW j k (.dead:: .cells [.i n,vl encI f,hsl 8 3 c]::(kAK (kD b (.loop .ready none (ofG 89 [(4,.ptr 0 0),(5,.ptr 1 0),(9,.ptr 5 0)]) zP.xp zP.x1 zP.x2::(kI c []))))))))).Holds ZT from zH [some 7,some 0,some 1,some 5,some 4,some 3,some 6] [some 1,some 2,none,none,some 4,some 3,some 6,some 0,some 7] (qcC N a b n a b V) (.kb rfl (.loop rfl (.kp (.kp (.kp (.drop .nil))))) (.kb rfl (.cells (rc (.same (qa encI _)) rn)) (.kb rfl (.cells (rc (.same (qa encI _)) rn)) (.kb rfl (.cells (rc (.ptr rfl) rn)) (.kb rfl (.cells (rc (.same nI) (rc (.gslice rfl) (rc (.same (qH.nilslice)) rn)))) (.ks (.kb rfl (.cells (rc (.same (qa encI _)) rn)) .nil))))))) rfl rfl (.back rfl rfl (.cells (rc (.same (qa encI _)) rn)) rfl (.back rfl rfl (.cells (rc (.same (qa encI _)) rn)) rfl (.old rfl rfl (.dead (.back rfl rfl (.cells (rc (.same nI) (rc (.same (qa encI _)) (rc (.hs rfl) rn)))) rfl (.back rfl rfl (.cells (rc (.ptr rfl) rn)) rfl (.back rfl rfl (.cells (rc (.same (qa encI _)) rn)) rfl (.back rfl rfl (.loop rfl (.kp (.kp (.kp .nil)))) rfl (.new rfl rfl (.same fa) rfl .nil))))))))) (rc (.yld rfl) (rc (.ptr rfl) rn)) (.same (qH.tuple sn)) rfl)) (by kernel_rfl) ?_;refine Goes.sub (show Sub _ (ofG 89 (kAb [(9,.ptr 2 0),(43,.func (.func 45) [] [.ptr 5 0])]),(kD a (kD b (.cells [.ptr 3 0]:: .cells [.i n,vl encI f,hsl 4 3 c]::(kI c (kD b []))))))from(Uc [] [some 0,some 1,some 5,some 4,some 8,some 6] rfl rfl (.kp (.kp (.kp (.keep (.funcL (sn) (rc (.ptr rfl) rn)) .nil)))) (.kb rfl (.same sn) (.kb rfl (.same sn) (.kb rfl (.cells (rc (.ptr rfl) rn)) (.kb rfl (.cells (rc (.same nI) (rc (.same (qa encI _)) (rc (.hs rfl) rn)))) (.ks (.kb rfl (.same sn) .nil)))))))) ?_;refine sh fol [(9,.ptr 2 0),(12,.i (w64 ((a.length:Int)+(b.length:Int))))] ?_;refine sq ?_;obtain⟨⟨y,z,A⟩,B,h⟩:=bnd h
 try dsimp only at h
 refine sq (gr fol [2] ((9,.ptr 2 0)::(kAM (w64 ((a.length:Int)+(b.length:Int))) y [(14,.i z),(15,.bool A)])) (ac (hs (.callH 29 [.ptr 3 0,.i (w64 ((a.length:Int)+(b.length:Int)))] (kD a (kD b (.cells [.ptr 3 0]:: .cells [.i n,vl encI f,hsl 4 3 c]::(kI c (kD b []))))) [3,4] (.tuple [.i y,.i z,.bool A]) (kD a (kD b (.cells [.ptr 3 0]:: .cells [.i n,vl encI f,hsl 4 3 c]::(kI c (kD b [])))))) (zH [some 3,some 4] [none,none,none,some 0,some 1,none] (qdC N n f c (w64 ((a.length:Int)+(b.length:Int))) B) (.kb rfl (.cells (rc (.same nI) (rc (.same (qa encI _)) (rc (.hs rfl) rn)))) (.ks .nil)) rfl rfl (.old rfl rfl (.old rfl rfl (.old rfl rfl (.back rfl rfl (.cells (rc (.same nI) (rc (.same (qa encI _)) (rc (.hs rfl) rn)))) rfl (.back rfl rfl (.same fa) rfl (.old rfl rfl .nil)))))) (rc (.ptr rfl) (rc (.same nI) rn)) (.same (qH.tuple sn)) rfl)) az) ?_);refine Goes.block ?_;obtain⟨X,g24,h⟩:=bnd h;refine Goes.imp (Q:=fun x s'=>(x= .exit 2/\ ∃C o,(C,o)=X/\Sub s' (ofG 89 [(9,.ptr 0 0)],(kBO (kAU n C o (kI o [])))))) ?_ ?_
 ·refine Goes.sub (s':=(ofG 89 ((9,.ptr 0 0)::(kAM (w64 ((a.length:Int)+(b.length:Int))) y [(14,.i z),(15,.bool A)])),(kBO (kAU n f c (kI c []))))) (Uc [] [some 2,some 3,some 4] rfl rfl (.kp (.keep (.same nI) (.keep (.same nI) (.keep (.same nI) (.keep (.same nB) .nil))))) (.kb rfl (.cells (rc (.ptr rfl) rn)) (.kb rfl (.cells (rc (.same nI) (rc (.same (qa encI _)) (rc (.hs rfl) rn)))) (.ks .nil)))) ?_;refine Ue (fun M s=> ∃(u:List Int) (g:Option (List qx)) (e:Int) (p:Int) (q:Int) (w:Bool),s=(ofG 89 ((9,.ptr 0 0)::(kAM e p [(14,.i q),(15,.bool w)])),(kBO (kAU n u g (kI g []))))/\vz N n M u g e p q w=some X) ?_ (m:=N) ⟨_,_,_,_,_,_,rfl,g24⟩;rintro M s ⟨u,g,e,p,q,w,rfl,g24⟩
  cases M with
  |zero=>simp only[vz]at g24;cases g24
  |succ M=>
   rw[vz]at g24;refine sq ?_;refine sh fol ((9,.ptr 0 0)::(kAM e p [(14,.i q),(71,.bool w)])) ?_;refine ihB g24 (fun Y g24=>?_) (fun Y g24=>?_)
   ·refine Goes.skip ?_;refine sq (Goes.block ?_);obtain⟨⟨r,d,t⟩,D,g24⟩:=bnd g24
    try dsimp only at g24
    refine gq fol [4] [(9,.ptr 0 0),(12,.i (w64 (e+t)))] (kBO (kAB n r d (kJ d))) (ac (hs (.callH 30 [.ptr 1 0,.i p,.i q] (kBO (kAU n u g (kI g []))) [1,2] (.i t) (kBO (kAB n r d (kJ d)))) (zH [some 1,some 2] [none,some 0,none,some 2] (qdS N n u g p q D) (.kb rfl (.cells (rc (.same nI) (rc (.same (qa encI _)) (rc (.hs rfl) rn)))) (.ks .nil)) rfl rfl (.old rfl rfl (.back rfl rfl (.cells (rc (.same nI) (rc (.same (qa encI _)) (rc (.oslice rfl) rn)))) rfl (.dead (.new rfl rfl (.same fa) rfl .nil)))) (rc (.ptr rfl) (rc (.same nI) (rc (.same nI) rn))) (.same nI) rfl)) az) ?_;obtain⟨⟨F,G,H⟩,I,g24⟩:=bnd g24
    try dsimp only at g24
    refine gr fol [2] ((9,.ptr 0 0)::(kAM (w64 (e+t)) F [(14,.i G),(15,.bool H)])) (ac (hs (.callH 29 [.ptr 1 0,.i (w64 (e+t))] (kBO (kAB n r d (kJ d))) [1,3] (.tuple [.i F,.i G,.bool H]) (kBO (kAB n r d (kJ d)))) (zH [some 1,some 3] [none,some 0,none,some 1] (qdE N n r d (w64 (e+t)) I) (.kb rfl (.cells (rc (.same nI) (rc (.same (qa encI _)) (rc (.oslice rfl) rn)))) (.ks .nil)) rfl rfl (.old rfl rfl (.back rfl rfl (.cells (rc (.same nI) (rc (.same (qa encI _)) (rc (.oslice rfl) rn)))) rfl (.old rfl rfl (.back rfl rfl (.same fa) rfl .nil)))) (rc (.ptr rfl) (rc (.same nI) rn)) (.same (qH.tuple sn)) rfl)) az) ?_;exact⟨M,(ofG 89 ((9,.ptr 0 0)::(kAM (w64 (e+t)) F [(14,.i G),(15,.bool H)])),(kBO (kAU n r (some d) (kI (some d) [])))),Nat.lt_succ_self _,(Uc [] [some 0,some 1,some 3] rfl rfl (.kp (.keep (.same nI) (.keep (.same nI) (.keep (.same nI) (.keep (.same nB) .nil))))) (.kb rfl (.cells (rc (.ptr rfl) rn)) (.kb rfl (.cells (rc (.same nI) (rc (.same (qa encI _)) (rc ((jD.hs1 rfl)) rn)))) (.ks .nil)))),_,_,_,_,_,_,rfl,g24⟩
   refine Goes.exit ?_;obtain rfl:=si g24;exact⟨rfl,_,_,rfl,(Sub.keep [9] rfl rfl)⟩
 rintro x s' ⟨rfl,C,o,rfl,hsub⟩
 try dsimp only at h
 refine Goes.sub hsub ?_;refine sh fol ((6,hsl 2 3 o)::kBH) ?_;refine Goes.ret ?_;obtain rfl:=si h;exact(gw2 [hsl 2 3 o,.i 0] (FzW.tuple (ql.cons (FzW.hs (E:=qy) rfl rfl (nl rfl)) (ql.cons (Ua tI) ql.nil))))
def vo (w:List Int):Nat->Int->Int->Option Int
 |0,_,_=>none
 |K+1,b,a=>
  if a<(w.length:Int)then
  (idx w a).bind fun c=>
  (zM c).bind fun d=>
  vo w K (w64 (b+d)) (w64 (a+1))
  else
  some b
def qaj (N:Nat) (w:List Int):Option Int:=
 (vo w N 0 0).bind fun a=>
 some a
theorem qdI (N:Nat) (w:List Int) {res:Int} (h:qaj N w=some res):qc ZT (.fn 49) [vl encI w] [] (.i res) []:=by
 unfold qaj at h;refine Ub Tryz.func49 rfl rfl (m:=18) rfl (rs:=[.tmp 2]) rfl (l:=(kAC w [])) rfl ?_;refine sh fol (kAC w []) ?_;refine sh fol (kAC w [(3,.i 0)]) ?_;refine sq ?_;refine sh fol [(3,.i 0),(6,vl encI w),(7,.i (w.length:Int)),(8,.i 0)] ?_;refine Goes.block ?_;obtain⟨g,g4,h⟩:=bnd h;refine Goes.imp (Q:=fun x s'=>(x= .exit 0/\ ∃d,d=g/\Sub s' (ofG 18 [(3,.i d)],[]))) ?_ ?_
 ·refine Ue (fun M s=> ∃(b:Int) (a:Int),s=(ofG 18 ((3,.i b)::(6,vl encI w)::(7,.i (w.length:Int))::(kAx a)),[])/\vo w M b a=some g) ?_ (m:=N) ⟨_,_,rfl,g4⟩;rintro M s ⟨b,a,rfl,g4⟩
  cases M with
  |zero=>simp only[vo]at g4;cases g4
  |succ M=>
   rw[vo]at g4;refine sh fol [(3,.i b),(6,vl encI w),(7,.i (w.length:Int)),(8,.i a),(9,.bool (decide (a<(w.length:Int))))] ?_;refine sq ?_;refine ihD g4 (fun k g4=>?_) (fun k g4=>?_)
   ·refine Goes.skip ?_;refine sq (Goes.block ?_);obtain⟨j,c,g4⟩:=bnd g4;refine sq (gr fol [0,1] ((3,.i b)::(5,.i j)::(6,vl encI w)::(7,.i (w.length:Int))::(kAx a)) (ac (iv zO encI c) (ac (lv 0 ce3 encI c rfl) az)) ?_);obtain⟨f,e,g4⟩:=bnd g4;refine gr fol [2] ((3,.i (w64 (b+f)))::(6,vl encI w)::(7,.i (w.length:Int))::(kAx a)) (ac (cv (z8 j e)) az) ?_;refine gh fol ((3,.i (w64 (b+f)))::(6,vl encI w)::(7,.i (w.length:Int))::(kAx (w64 (a+1)))) ?_;exact⟨M,(ofG 18 ((3,.i (w64 (b+f)))::(6,vl encI w)::(7,.i (w.length:Int))::(kAx (w64 (a+1)))),[]),Nat.lt_succ_self _,(Sub.refl _),_,_,rfl,g4⟩
   refine Goes.exit ?_;obtain rfl:=si g4;exact⟨rfl,_,rfl,(Sub.keep [3] rfl rfl)⟩
 rintro x s' ⟨rfl,d,rfl,hsub⟩;refine Goes.sub hsub ?_;refine sh fol [(2,.i d)] ?_;refine Goes.ret ?_;obtain rfl:=si h;exact(gw2 [.i d] (Ua tI))
def xg (a:Int) (b:List Int):Option Unit:=
 some ()
theorem qb3 (a:Int) (b:List Int) (h:xg a b=some ()):qc ZT (.fn 73) [.i a,vl encI b] [] (.func (.func 96) [] [.ptr 0 0,.ptr 1 0]) (kAA a (kD b [])):=by
 unfold xg at h;refine Ui Tryz.func73 rfl rfl (m:=6) rfl (rs:=[.tmp 4]) rfl (l:=(kC a b [])) rfl ?_;intro B hB;refine sg fol (kAj []) (kAA a (kD b [])) ?_;refine sh fol [(4,.func (.func 96) [] [.ptr 0 0,.ptr 1 0])] ?_;refine Goes.ret ?_;exact(gh2 [.func (.func 96) [] [.ptr 0 0,.ptr 1 0]] (qcE.refl _ _))
def qcj (a:List Int) (e:Int) (b:Int) (c:Int):Option (List Int):=
 (idx a b).bind fun f=>
 (put a b (w64 (f+1))).bind fun d=>
 (idx d c).bind fun g=>
 (put d c (w64 (g-1))).bind fun h=>
 some h
theorem qhI (c:List Int) (k:Int) (a:Int) (b:Int) {o:List Int} (h:qcj c k a b=some o):qc ZT (.rd 0) [.i k,.agg [.i a,.i b]] (.loop .ready none (ofG 30 [(5,.ptr 1 0)]) qm.xp qm.x1 qm.x2::(kB c (kA c []))) (.bool true) (.loop .ready none (ofG 30 [(5,.ptr 1 0)]) qm.xp qm.x1 qm.x2::(kB o (kA o []))):=by
 unfold qcj at h;refine Goes.round (m:=30) (l0:=(kBD [])) (l:=(kBD [(13,.i k),(14,.agg [.i a,.i b])])) rfl rfl rfl ?_;intro B hB;refine Ul ?_;refine Goes.rg fol (kBD [(7,.ptr 3 0)]) (.loop .ready none (ofG 30 [(5,.ptr 1 0)]) qm.xp qm.x1 qm.x2::(kB c (kA c (kW a b [])))) ?_;refine⟨_,Sub.refl _,?_⟩;refine⟨_,_,_,_,_,rfl,?_⟩;refine Ul ?_;refine Goes.block ?_;obtain⟨x2,e,h⟩:=bnd h;obtain⟨d,g,h⟩:=bnd h;refine sq (gq fol [3,4,6,7] (kBD [(7,.ptr 3 0)]) (.loop .busy none (ofG 30 [(5,.ptr 1 0)]) qm.xp qm.x1 qm.x2::(kB c (kA d (kW a b [])))) (ac (hs (.done (.opt (qd ZT 22 (.slice 2 0 c.length c.length 1) (.i a))) (.ptr 2 ((a:Int).toNat*1+0))) (xN zO e)) (ac (hs (.run [2] (zV ZT 3 (.ptr 2 ((a:Int).toNat*1+0))) (.loop .busy none (ofG 30 [(5,.ptr 1 0)]) qm.xp qm.x1 qm.x2::(kB c (kA c (kW a b [])))) (.i x2) (.loop .busy none (ofG 30 [(5,.ptr 1 0)]) qm.xp qm.x1 qm.x2::(kB c (kA c (kW a b [])))) false) (qcK ce3 (E:=encI) (l:=c) rfl rfl e (nl rfl) rfl)) (ac (hs (.done (.opt (qd ZT 22 (.slice 2 0 c.length c.length 1) (.i a))) (.ptr 2 ((a:Int).toNat*1+0))) (xN zO e)) (ac (hs (.run [2] (qI ZT 3 (.ptr 2 ((a:Int).toNat*1+0)) (.i (w64 (x2+1)))) (.loop .busy none (ofG 30 [(5,.ptr 1 0)]) qm.xp qm.x1 qm.x2::(kB c (kA c (kW a b [])))) .undef (.loop .busy none (ofG 30 [(5,.ptr 1 0)]) qm.xp qm.x1 qm.x2::(kB c (kA d (kW a b [])))) true) (qaU (E:=encI) (l:=c) (y:=w64 (x2+1)) rfl (show _=some 1 by kernel_rfl) rfl e rfl rfl rfl rfl rfl g rfl)) az)))) ?_);refine Goes.sub (show Sub _ (ofG 30 (kBD [(7,.ptr 3 0)]),(.loop .busy none (ofG 30 [(5,.ptr 1 0)]) qm.xp qm.x1 qm.x2::(kB d (kA d (kW a b [])))))from(Uc [] [some 0,some 1,some 2,some 3] (by rw[hB];rfl) rfl (.kp (.kp .nil)) (.kb rfl (.loop rfl (.kp .nil)) (.kb rfl (.cells (rc (.sliceE rfl (jM g)) rn)) (.ks (.kb rfl (.same sn) .nil)))))) ?_;obtain⟨p,f,h⟩:=bnd h;obtain⟨n,j,h⟩:=bnd h;refine gq fol [3,4,6,7] [] (.loop .busy none (ofG 30 [(5,.ptr 1 0)]) qm.xp qm.x1 qm.x2::(kB d (kA n (kW a b [])))) (ac (hs (.done (.opt (qd ZT 22 (.slice 2 0 d.length d.length 1) (.i b))) (.ptr 2 ((b:Int).toNat*1+0))) (xN zO f)) (ac (hs (.run [2] (zV ZT 3 (.ptr 2 ((b:Int).toNat*1+0))) (.loop .busy none (ofG 30 [(5,.ptr 1 0)]) qm.xp qm.x1 qm.x2::(kB d (kA d (kW a b [])))) (.i p) (.loop .busy none (ofG 30 [(5,.ptr 1 0)]) qm.xp qm.x1 qm.x2::(kB d (kA d (kW a b [])))) false) (qcK ce3 (E:=encI) (l:=d) rfl rfl f (nl rfl) rfl)) (ac (hs (.done (.opt (qd ZT 22 (.slice 2 0 d.length d.length 1) (.i b))) (.ptr 2 ((b:Int).toNat*1+0))) (xN zO f)) (ac (hs (.run [2] (qI ZT 3 (.ptr 2 ((b:Int).toNat*1+0)) (.i (w64 (p-1)))) (.loop .busy none (ofG 30 [(5,.ptr 1 0)]) qm.xp qm.x1 qm.x2::(kB d (kA d (kW a b [])))) .undef (.loop .busy none (ofG 30 [(5,.ptr 1 0)]) qm.xp qm.x1 qm.x2::(kB d (kA n (kW a b [])))) true) (qaU (E:=encI) (l:=d) (y:=w64 (p-1)) rfl (show _=some 1 by kernel_rfl) rfl f rfl rfl rfl rfl rfl j rfl)) az)))) ?_;obtain rfl:=si h;exact⟨_,(show Sub _ (ofG 30 [],(.loop .busy none (ofG 30 [(5,.ptr 1 0)]) qm.xp qm.x1 qm.x2::(kB n (kA n []))))from(Uc [] [some 0,some 1,some 2] (by rw[hB];rfl) rfl .nil (.kb rfl (.loop rfl (.kp .nil)) (.kb rfl (.cells (rc (.sliceE rfl (jM j)) rn)) (.ks .nil))))),⟨_,_,rfl,(qcE.refl _ _)⟩⟩
def zC (b:List Int):Nat->(List Int)->(List Int)->Int->Option (List Int)
 |0,_,_,_=>none
 |K+1,k,g,h=>
  if h<(b.length:Int)then
  (idx b h).bind fun c=>
  (qX c).bind fun a=>
  (idx g (w64 (a-1))).bind fun d=>
  (idx g (w64 ((w64 (a-1))+1))).bind fun e=>
  (qcj k c d e).bind fun i=>
  (put g (w64 (a-1)) e).bind fun f=>
  (idx f (w64 ((w64 (a-1))+1))).bind fun l=>
  (put f (w64 ((w64 (a-1))+1)) d).bind fun j=>
  zC b K i j (w64 (h+1))
  else
  some k
def xy (N:Nat) (a:List Int) (b:Int) (c:List Int):Option (List Int):=
 (jd N b).bind fun d=>
 (zC c N a d 0).bind fun e=>
 some e
theorem qdR (N:Nat) (n:List Int) (d:Int) (a:List Int) {J:List Int} (h:xy N n d a=some J):qc ZT (.fn 96) [.yld 0,.ptr 3 0,.ptr 4 0] (.loop .ready none (ofG 30 [(5,.ptr 1 0)]) qm.xp qm.x1 qm.x2::(kB n (kA n (kAA d (kD a []))))) (.tuple []) (.loop .ready none (ofG 30 [(5,.ptr 1 0)]) qm.xp qm.x1 qm.x2::(kB J (kA J (kAA d (kD a []))))):=by
 unfold xy at h;refine Ui Tryz.func96 rfl rfl (m:=50) rfl (rs:=[]) rfl (l:=[(0,.yld 0),(1,.ptr 3 0),(2,.ptr 4 0)]) rfl ?_;intro B hB;refine Ul ?_;obtain⟨G,H,h⟩:=bnd h;refine sq (gq fol [1] ((0,.yld 0)::(2,.ptr 4 0)::(kAY G [])) (.loop .ready none (ofG 30 [(5,.ptr 1 0)]) qm.xp qm.x1 qm.x2::(kB n (kA n (kAA d (kD a (kA G [])))))) (ac (hs (.callH 72 [.i d] (.loop .ready none (ofG 30 [(5,.ptr 1 0)]) qm.xp qm.x1 qm.x2::(kB n (kA n (kAA d (kD a []))))) [] (.slice 5 0 G.length G.length 1) (.loop .ready none (ofG 30 [(5,.ptr 1 0)]) qm.xp qm.x1 qm.x2::(kB n (kA n (kAA d (kD a (kA G []))))))) (zH [] [none,none,none,none,none,some 0] (vY N d H) .nil rfl rfl (.old rfl rfl (.old rfl rfl (.old rfl rfl (.old rfl rfl (.old rfl rfl (.new rfl rfl (.same fa) rfl .nil)))))) (rc (.same nI) rn) (.slice rfl) rfl)) az) ?_);refine sh fol ((0,.yld 0)::(kAY G [(10,vl encI a),(11,.i (a.length:Int)),(12,.i 0)])) ?_;refine Goes.block ?_;obtain⟨K,g8,h⟩:=bnd h;refine Goes.imp (Q:=fun x s'=>(x= .exit 0/\ ∃I,I=K/\Sub s' (ofG 50 [],(.loop .ready none (ofG 30 [(5,.ptr 1 0)]) qm.xp qm.x1 qm.x2::(kB I (kA I (kAA d (kD a [])))))))) ?_ ?_
 ·refine Ue (fun M s=> ∃(o:List Int) (g:List Int) (t:Int),s=(ofG 50 ((0,.yld 0)::(kS g a (a.length:Int) t [])),(.loop .ready none (ofG 30 [(5,.ptr 1 0)]) qm.xp qm.x1 qm.x2::(kB o (kA o (kAA d (kD a (kA g [])))))))/\zC a M o g t=some K) ?_ (m:=N) ⟨_,_,_,rfl,g8⟩;rintro M s ⟨o,g,t,rfl,g8⟩
  cases M with
  |zero=>simp only[zC]at g8;cases g8
  |succ M=>
   rw[zC]at g8;refine sh fol ((0,.yld 0)::(kS g a (a.length:Int) t (kBa (decide (t<(a.length:Int)))))) ?_;refine sq ?_;refine ihD g8 (fun L g8=>?_) (fun L g8=>?_)
   ·refine Goes.skip ?_;refine sq (Goes.block ?_);obtain⟨u,v,g8⟩:=bnd g8;refine sq (gr fol [0,1] ((0,.yld 0)::(kAY g ((6,.i u)::(10,vl encI a)::(kAG (a.length:Int) t [])))) (ac (iv zO encI v) (ac (lv 0 ce3 encI v rfl) az)) ?_);obtain⟨f,A,g8⟩:=bnd g8;refine sq (gr fol [1] ((0,.yld 0)::(kAY g (kBJ u (w64 (f-1)) ((10,vl encI a)::(kAG (a.length:Int) t []))))) (ac (cv (qp u A)) az) ?_);refine sq ?_;obtain⟨q,j,g8⟩:=bnd g8;obtain⟨r,k,g8⟩:=bnd g8;obtain⟨e,C,g8⟩:=bnd g8;refine sq (gq fol [4,5,9,10,12] ((0,.yld 0)::(kAY g ((7,.i (w64 (f-1)))::(10,vl encI a)::(kAG (a.length:Int) t [(32,.bool false)])))) (.loop .ready none (ofG 30 [(5,.ptr 1 0)]) qm.xp qm.x1 qm.x2::(kB e (kA e (kAA d (kD a (kA g [])))))) (ac (hs (.done (.opt (qd ZT 22 (.slice 5 0 g.length g.length 1) (.i (w64 (f-1))))) (.ptr 5 ((w64 (f-1):Int).toNat*1+0))) (xN zO j)) (ac (hs (.run [5] (zV ZT 3 (.ptr 5 ((w64 (f-1):Int).toNat*1+0))) (.loop .ready none (ofG 30 [(5,.ptr 1 0)]) qm.xp qm.x1 qm.x2::(kB o (kA o (kAA d (kD a (kA g [])))))) (.i q) (.loop .ready none (ofG 30 [(5,.ptr 1 0)]) qm.xp qm.x1 qm.x2::(kB o (kA o (kAA d (kD a (kA g [])))))) false) (qcK ce3 (E:=encI) (l:=g) rfl rfl j (nl rfl) rfl)) (ac (hs (.done (.opt (qd ZT 22 (.slice 5 0 g.length g.length 1) (.i (w64 ((w64 (f-1))+1))))) (.ptr 5 ((w64 ((w64 (f-1))+1):Int).toNat*1+0))) (xN zO k)) (ac (hs (.run [5] (zV ZT 3 (.ptr 5 ((w64 ((w64 (f-1))+1):Int).toNat*1+0))) (.loop .ready none (ofG 30 [(5,.ptr 1 0)]) qm.xp qm.x1 qm.x2::(kB o (kA o (kAA d (kD a (kA g [])))))) (.i r) (.loop .ready none (ofG 30 [(5,.ptr 1 0)]) qm.xp qm.x1 qm.x2::(kB o (kA o (kAA d (kD a (kA g [])))))) false) (qcK ce3 (E:=encI) (l:=g) rfl rfl k (nl rfl) rfl)) (ac (hs (.callH (.rd 0) [.i u,.agg [.i q,.i r]] (.loop .ready none (ofG 30 [(5,.ptr 1 0)]) qm.xp qm.x1 qm.x2::(kB o (kA o (kAA d (kD a (kA g [])))))) [0,1,2] (.bool true) (.loop .ready none (ofG 30 [(5,.ptr 1 0)]) qm.xp qm.x1 qm.x2::(kB e (kA e (kAA d (kD a (kA g []))))))) (qog [some 0,some 1,some 2] [some 0,some 1,some 2,none,none,none] (qhI o u q r C) rfl (.kb rfl (.loop rfl (.kp .nil)) (.kb rfl (.cells (rc (.slice rfl) rn)) (.ks .nil))) rfl rfl (.back rfl rfl (.loop rfl (.kp .nil)) rfl (.back rfl rfl (.cells (rc (.slice rfl) rn)) rfl (.back rfl rfl (.same fa) rfl (.old rfl rfl (.old rfl rfl (.old rfl rfl .nil)))))) (rc (.same nI) (rc (.same (qH.agg sn)) rn)) (.same nB) rfl)) az))))) ?_);refine U7 (b:=false) (by kernel_rfl) (fun c=>(by cases c)) (fun _=>?_);refine Goes.skip ?_;obtain⟨D,w,g8⟩:=bnd g8;obtain⟨O,F,g8⟩:=bnd g8;obtain⟨p,z,g8⟩:=bnd g8;refine gq fol [8,9,12,13,14,15,16,17] ((0,.yld 0)::(kS g a (a.length:Int) t [])) (.loop .ready none (ofG 30 [(5,.ptr 1 0)]) qm.xp qm.x1 qm.x2::(kB e (kA e (kAA d (kD a (kA p [])))))) (ac (hs (.done (.opt (qd ZT 22 (.slice 5 0 g.length g.length 1) (.i (w64 ((w64 (f-1))+1))))) (.ptr 5 ((w64 ((w64 (f-1))+1):Int).toNat*1+0))) (xN zO k)) (ac (hs (.run [5] (zV ZT 3 (.ptr 5 ((w64 ((w64 (f-1))+1):Int).toNat*1+0))) (.loop .ready none (ofG 30 [(5,.ptr 1 0)]) qm.xp qm.x1 qm.x2::(kB e (kA e (kAA d (kD a (kA g [])))))) (.i r) (.loop .ready none (ofG 30 [(5,.ptr 1 0)]) qm.xp qm.x1 qm.x2::(kB e (kA e (kAA d (kD a (kA g [])))))) false) (qcK ce3 (E:=encI) (l:=g) rfl rfl k (nl rfl) rfl)) (ac (hs (.done (.opt (qd ZT 22 (.slice 5 0 g.length g.length 1) (.i (w64 (f-1))))) (.ptr 5 ((w64 (f-1):Int).toNat*1+0))) (xN zO j)) (ac (hs (.run [5] (zV ZT 3 (.ptr 5 ((w64 (f-1):Int).toNat*1+0))) (.loop .ready none (ofG 30 [(5,.ptr 1 0)]) qm.xp qm.x1 qm.x2::(kB e (kA e (kAA d (kD a (kA g [])))))) (.i q) (.loop .ready none (ofG 30 [(5,.ptr 1 0)]) qm.xp qm.x1 qm.x2::(kB e (kA e (kAA d (kD a (kA g [])))))) false) (qcK ce3 (E:=encI) (l:=g) rfl rfl j (nl rfl) rfl)) (ac (hs (.done (.opt (qd ZT 22 (.slice 5 0 g.length g.length 1) (.i (w64 (f-1))))) (.ptr 5 ((w64 (f-1):Int).toNat*1+0))) (xN zO j)) (ac (hs (.run [5] (qI ZT 3 (.ptr 5 ((w64 (f-1):Int).toNat*1+0)) (.i r)) (.loop .ready none (ofG 30 [(5,.ptr 1 0)]) qm.xp qm.x1 qm.x2::(kB e (kA e (kAA d (kD a (kA g [])))))) .undef (.loop .ready none (ofG 30 [(5,.ptr 1 0)]) qm.xp qm.x1 qm.x2::(kB e (kA e (kAA d (kD a (kA D [])))))) true) (qaU (E:=encI) (l:=g) (y:=r) rfl (show _=some 1 by kernel_rfl) rfl j rfl rfl rfl rfl rfl w rfl)) (ac (hs (.done (.opt (qd ZT 22 (.slice 5 0 g.length g.length 1) (.i (w64 ((w64 (f-1))+1))))) (.ptr 5 ((w64 ((w64 (f-1))+1):Int).toNat*1+0))) (xN zO k)) (ac (hs (.run [5] (qI ZT 3 (.ptr 5 ((w64 ((w64 (f-1))+1):Int).toNat*1+0)) (.i q)) (.loop .ready none (ofG 30 [(5,.ptr 1 0)]) qm.xp qm.x1 qm.x2::(kB e (kA e (kAA d (kD a (kA D [])))))) .undef (.loop .ready none (ofG 30 [(5,.ptr 1 0)]) qm.xp qm.x1 qm.x2::(kB e (kA e (kAA d (kD a (kA p [])))))) true) (qaU (E:=encI) (l:=D) (y:=q) rfl (show _=some 1 by kernel_rfl) rfl F rfl rfl rfl rfl rfl z rfl)) az)))))))) ?_;refine Goes.sub (show Sub _ (ofG 50 ((0,.yld 0)::(kS p a (a.length:Int) t [])),(.loop .ready none (ofG 30 [(5,.ptr 1 0)]) qm.xp qm.x1 qm.x2::(kB e (kA e (kAA d (kD a (kA p [])))))))from(Uc [] [some 0,some 1,some 2,some 3,some 4,some 5] (by rw[hB];rfl) rfl (.keep (.yld rfl) (.keep (.sliceE rfl ((jM w).trans (jM z))) (.keep (.same (qa encI _)) (.keep (.same nI) (.keep (.same nI) .nil))))) (.kb rfl (.loop rfl (.kp .nil)) (.kb rfl (.cells (rc (.slice rfl) rn)) (.ks (.kb rfl (.same sn) (.kb rfl (.same sn) (.ks .nil)))))))) ?_;refine gh fol ((0,.yld 0)::(kS p a (a.length:Int) (w64 (t+1)) [])) ?_;exact⟨M,(ofG 50 ((0,.yld 0)::(kS p a (a.length:Int) (w64 (t+1)) [])),(.loop .ready none (ofG 30 [(5,.ptr 1 0)]) qm.xp qm.x1 qm.x2::(kB e (kA e (kAA d (kD a (kA p []))))))),Nat.lt_succ_self _,(Sub.refl _),_,_,_,rfl,g8⟩
   refine Goes.exit ?_;obtain rfl:=si g8;exact⟨rfl,_,rfl,(Uc [] [some 0,some 1,some 2,some 3,some 4] (by rw[hB];rfl) rfl .nil (.kb rfl (.loop rfl (.kp .nil)) (.kb rfl (.cells (rc (.slice rfl) rn)) (.ks (.kb rfl (.same sn) (.kb rfl (.same sn) .nil))))))⟩
 rintro x s' ⟨rfl,I,rfl,hsub⟩;obtain rfl:=si h;exact⟨_,hsub,(gh2 [] (qcE.refl _ _))⟩
def qch (N:Nat) (n:Int) (w:List Int):Option (List Int):=
 (jd N n).bind fun a=>
 (xg n w).bind fun _=>
 (xy N a n w).bind fun b=>
 some b
theorem qf8 (N:Nat) (n:Int) (w:List Int) {res:List Int} (h:qch N n w=some res):qc ZT (.fn 42) [.i n,vl encI w] [] (vl encI res) []:=by
 unfold qch at h;refine Ub Tryz.func42 rfl rfl (m:=30) rfl (rs:=[.tmp 4]) rfl (l:=(kC n w [])) rfl ?_;refine sh fol (kC n w []) ?_;obtain⟨a,c,h⟩:=bnd h;refine sq (gq fol [1] (kC n w (kBD [])) (kA a (kAJ a [])) (ac (hs (.callH 72 [.i n] [] [] (.slice 0 0 a.length a.length 1) (kA a [])) (zH [] [some 0] (vY N n c) .nil rfl rfl (.new rfl rfl (.same fa) rfl .nil) (rc (.same nI) rn) (.slice rfl) rfl)) az) ?_);refine sq ?_;obtain⟨_,d,h⟩:=bnd h;refine sq (gq fol [2] (kBD [(12,.func (.func 96) [] [.ptr 2 0,.ptr 3 0])]) (kA a (kAJ a (kAA n (kD w [])))) (ac (hs (.callH 73 [.i n,vl encI w] (kA a (kAJ a [])) [] (.func (.func 96) [] kAr) (kA a (kAJ a (kAA n (kD w []))))) (zH [] [none,none,some 0,some 1] (qb3 n w d) .nil rfl rfl (.old rfl rfl (.old rfl rfl (.new rfl rfl (.cells (rc (.same nI) rn)) rfl (.new rfl rfl (.cells (rc (.same (qa encI _)) rn)) rfl .nil)))) (rc (.same nI) (rc (.same (qa encI _)) rn)) (.funcL (sn) (rc (.ptr rfl) (rc (.ptr rfl) rn))) rfl)) az) ?_);refine Goes.block ?_;obtain⟨b,e,h⟩:=bnd h;refine Goes.range fol rfl (gf:=96) (first:=[]) (captured:=kAr) (v:= .tuple []) (A2:=(kA b (kAJ b (kAA n (kD w [.loop .ready none (ofG 30 [(5,.ptr 1 0)]) qm.xp qm.x1 qm.x2]))))) (s':=(ofG 30 (kBD [(12,.func (.func 96) [] [.ptr 2 0,.ptr 3 0])]),(kA b (kAJ b (kAA n (kD w [.loop .exhausted none (ofG 30 [(5,.ptr 1 0)]) qm.xp qm.x1 qm.x2])))))) (x:= .normal) (by kernel_rfl) (by kernel_rfl) (qiF (show(Obl.callH 96 (.yld 4::kAr) (kA a (kAJ a (kAA n (kD w [.loop .ready none (ofG 30 [(5,.ptr 1 0),(12,.func (.func 96) [] [.ptr 2 0,.ptr 3 0])]) qm.xp qm.x1 qm.x2])))) [4,1,0,2,3] (.tuple []) (kA b (kAJ b (kAA n (kD w [.loop .ready none (ofG 30 [(5,.ptr 1 0)]) qm.xp qm.x1 qm.x2]))))).Holds ZT from zH [some 4,some 1,some 0,some 2,some 3] [some 2,some 1,some 3,some 4,some 0] (qdR N a n w e) (.kb rfl (.loop rfl (.kp (.drop .nil))) (.kb rfl (.cells (rc (.slice rfl) rn)) (.ks (.kb rfl (.cells (rc (.same nI) rn)) (.kb rfl (.cells (rc (.same (qa encI _)) rn)) .nil))))) rfl rfl (.back rfl rfl (.same fa) rfl (.back rfl rfl (.cells (rc (.slice rfl) rn)) rfl (.back rfl rfl (.cells (rc (.same nI) rn)) rfl (.back rfl rfl (.cells (rc (.same (qa encI _)) rn)) rfl (.back rfl rfl (.loop rfl (.kp .nil)) rfl .nil))))) (rc (.yld rfl) (rc (.ptr rfl) (rc (.ptr rfl) rn))) (.same (qH.tuple sn)) rfl)) (by kernel_rfl) ?_;refine Goes.sub (show Sub _ (ofG 30 (kAO [(12,.func (.func 96) [] [.ptr 2 0,.ptr 3 0])]),(kU b (kA b (kAA n (kD w [])))))from(Uc [] [some 1,some 0,some 2,some 3] rfl rfl (.kp (.keep (.funcL (sn) (rc (.ptr rfl) (rc (.ptr rfl) rn))) .nil)) (.kb rfl (.cells (rc (.slice rfl) rn)) (.ks (.kb rfl (.same sn) (.kb rfl (.same sn) .nil)))))) ?_;refine sh fol [(4,.slice 1 0 b.length b.length 1)] ?_;refine Goes.ret ?_;obtain rfl:=si h;exact(gw2 [.slice 1 0 b.length b.length 1] (Us (Fz.sl (E:=encI) rfl rfl (nl rfl))))
end Go.Av
