/-
  Walks of functions: what each computes, as a plain function.
-/
import Derived.Test.YtppehbboaidbgaaGreatDoorQGenU3
noncomputable section
namespace Go.Av
open Go.Proofs Go.RowKit
set_option linter.unusedSectionVars false
set_option linter.unusedVariables false
set_option linter.unusedSimpArgs false
set_option maxRecDepth 100000
def jE (a:List Int):Nat->(List Int)->Option (List Int)
 |0,_=>none
 |K+1,b=>
  if(b.length:Int)<(w64 ((a.length:Int)+1))then
  (app 8 b [0]).bind fun c=>
  jE a K c
  else
  some b
def ko (h:List Int) (e:Int) (a:Int):Nat->(List Int)->Int->Int->Option ((List Int)×Int)
 |0,_,_,_=>none
 |K+1,f,b,c=>
  if c<(h.length:Int)then
  (idx h c).bind fun d=>
  (idx f (w64 (c+e))).bind fun g=>
  ((if(w64 (g-((w64 ((w64 (a*d))+b)).tmod 1000000000)))<0 then
  some (w64 ((w64 ((w64 ((w64 (a*d))+b)).tdiv 1000000000))+1),w64 ((w64 (g-((w64 ((w64 (a*d))+b)).tmod 1000000000)))+1000000000))
  else
  some (w64 ((w64 ((w64 (a*d))+b)).tdiv 1000000000),w64 (g-((w64 ((w64 (a*d))+b)).tmod 1000000000))):Option (Int×Int))).bind fun(i,j)=>
  (put f (w64 (c+e)) j).bind fun k=>
  ko h e a K k i (w64 (c+1))
  else
  some (f,b)
def zl (h:List Int) (b:Int) (e:Int):Nat->(List Int)->Int->Int->Option ((List Int)×Int×Int)
 |0,_,_,_=>none
 |K+1,c,d,a=>
  if a<(h.length:Int)then
  (idx c (w64 (a+b))).bind fun f=>
  (idx h a).bind fun g=>
  (put c (w64 (a+b)) ((w64 ((w64 (f+g))+d)).tmod 1000000000)).bind fun i=>
  zl h b e K i (w64 ((w64 ((w64 (f+g))+d)).tdiv 1000000000)) (w64 (a+1))
  else
  some (c,w64 (e-1),d)
def zL (N:Nat) (b:List Int):Nat->(List Int)->(List Int)->Int->Option ((List Int)×(List Int))
 |0,_,_,_=>none
 |K+1,c,d,a=>
  if a>=0 then
  (qaP N c b a).bind fun e=>
  (ko b a e N c 0 0).bind fun(g,i)=>
  (idx g (w64 (a+(b.length:Int)))).bind fun j=>
  (put g (w64 (a+(b.length:Int))) (w64 (j-i))).bind fun f=>
  (idx f (w64 (a+(b.length:Int)))).bind fun k=>
  ((if k<0 then
  (zl b a e N f 0 0).bind fun(h,l,m)=>
  (idx h (w64 (a+(b.length:Int)))).bind fun n=>
  (put h (w64 (a+(b.length:Int))) (w64 (n+m))).bind fun o=>
  some (o,l)
  else
  some (f,e):Option ((List Int)×Int))).bind fun(p,q)=>
  (idx d a).bind fun s=>
  (put d a q).bind fun r=>
  zL N b K p r (w64 (a-1))
  else
  some (c,d)
def ve (N:Nat) (a:List Int) (b:List Int):Option ((List Int)×(List Int)):=
 (jT N a b).bind fun q=>
 if q<0 then
 some ([],a)
 else
 if(b.length:Int)=1 then
 (idx b 0).bind fun r=>
 (xK N a r).bind fun p=>
 (yR N ([p.2]:List Int)).bind fun s=>
 some (p.1,s)
 else
 (idx b (w64 ((b.length:Int)-1))).bind fun t=>
 (qcJ .i64 1000000000 (w64 (t+1))).bind fun e=>
 (yC N b ([e]:List Int)).bind fun d=>
 (yC N a ([e]:List Int)).bind fun f=>
 (app 8 ([]:List Int) f).bind fun g=>
 (jE a N g).bind fun c=>
 (mk 8 (w64 ((c.length:Int)-(d.length:Int))) 0).bind fun h=>
 (zL N d N c h (w64 ((w64 ((c.length:Int)-(d.length:Int)))-1))).bind fun(i,j)=>
 (cut i 0 (d.length:Int)).bind fun k=>
 (yR N k).bind fun l=>
 (idx ([e]:List Int) 0).bind fun m=>
 (xK N l m).bind fun n=>
 (yR N j).bind fun o=>
 some (o,n.1)
theorem qbg (N:Nat) (a:List Int) (b:List Int) {res:(List Int)×(List Int)} (h:ve N a b=some res):qd ZT (.fn 138) (kBO a b) [] (.tuple (kBO res.1 res.2)) []:=by
 unfold ve at h;refine Ub Tryz.func138 rfl rfl (m:=206) rfl (rs:=[.tmp 4,.tmp 5]) rfl (l:=(kH a b [])) rfl ?_;refine sh fol (kH a b []) ?_;refine sq ?_;obtain⟨r1,e_r1,h⟩:=bnd h;refine sq (gr fol [2] (kH a b [(27,.bool (decide (r1<0)))]) (ac (cv (qbq N a b e_r1)) az) ?_);refine ihD h (fun c2 h=>?_) (fun c2 h=>?_)
 ·refine sh fol ((4,.nilslice)::(kBJ a [])) ?_;refine Goes.ret ?_;obtain rfl:=si h;exact(gw2 [.nilslice,vl encI a] (FzW.tuple (qj.cons (FzW.nilv (E:=encI)) (qj.cons (Ua (qA encI _ (nl rfl))) qj.nil))))
 refine Goes.skip ?_;refine sq ?_;refine sh fol (kH a b [(31,.bool (decide ((b.length:Int)=1)))]) ?_;refine ihD h (fun c3 h=>?_) (fun c3 h=>?_)
 ·obtain⟨x4,e_x4,h⟩:=bnd h;obtain⟨r5,e_r5,h⟩:=bnd h;refine sq (gr fol [2,3,4] [(6,vl encI r5.1),(7,.i r5.2)] (ac (iv vZ encI e_x4) (ac (lv 0 ce3 encI e_x4 rfl) (ac (cv (qdc N a x4 e_r5)) az))) ?_);obtain⟨r6,e_r6,h⟩:=bnd h;refine sq (gq fol [3] ((4,vl encI r5.1)::(kBJ r6 [])) [.frozen [.i r5.2]] (ac (hs (.callF 201 [.slice 0 0 1 1 1] [.cells [.i r5.2]] [0] [vl encI ([r5.2]:List Int)] (vl encI r6)) (qax (FzL.cons (Fz.lit rfl rfl (Ue (AllST.cons tI AllST.nil))) FzL.nil) (xw N ([r5.2]:List Int) e_r6) (qA encI _ (nl rfl)))) az) ?_);refine Goes.sub (show Sub (ofG 206 ((4,vl encI r5.1)::(kBJ r6 [])),[.frozen [.i r5.2]]) (ofG 206 ((4,vl encI r5.1)::(kBJ r6 [])),[])from(Sub.norm [] [] rfl rfl (.keep (.same (qg encI _)) (.keep (.same (qg encI _)) .nil)) .nil)) ?_;refine Goes.ret ?_;obtain rfl:=si h;exact(gw2 (kBO r5.1 r6) (FzW.tuple (qj.cons (Ua (qA encI _ (nl rfl))) (qj.cons (Ua (qA encI _ (nl rfl))) qj.nil))))
 refine Goes.skip ?_;obtain⟨x7,e_x7,h⟩:=bnd h;obtain⟨g,e_q8,h⟩:=bnd h;refine sq (gq fol [4,5,7] (kH a b [(8,.slice 0 0 1 1 1)]) [.cells [.i g]] (ac (iv vZ encI e_x7) (ac (lv 0 ce3 encI e_x7 rfl) (ac (hs (.done (.opt (ze ZT .quo 3 (.const (.int .i64 1000000000)) (.tmp 50) (.i 1000000000) (.i (w64 (x7+1))))) (.i g)) (qcq e_q8)) az))) ?_);obtain⟨e,e_r9,h⟩:=bnd h;refine sq (gq fol [2] (kBI a [(8,.slice 0 0 1 1 1),(9,vl encI e)]) [.frozen [.i g]] (ac (hs (.callF 144 [vl encI b,.slice 0 0 1 1 1] [.cells [.i g]] [0] (kBO b ([g]:List Int)) (vl encI e)) (qax (FzL.cons (Uf (qA encI _ (nl rfl))) (FzL.cons (Fz.lit rfl rfl (Ue (AllST.cons tI AllST.nil))) FzL.nil)) (qbi N b ([g]:List Int) e_r9) (qA encI _ (nl rfl)))) az) ?_);refine Goes.sub (show Sub (ofG 206 (kBI a [(8,.slice 0 0 1 1 1),(9,vl encI e)]),[.frozen [.i g]]) (ofG 206 (kBI a [(8,vl encI ([g]:List Int)),(9,vl encI e)]),[])from(Sub.norm [0] [] rfl rfl (.keep (.same (qg encI _)) (.keep (.frz (Fz.litF rfl rfl (Ue (AllST.cons tI AllST.nil))) (qg encI _)) (.keep (.same (qg encI _)) .nil))) .nil)) ?_;refine sh fol (kBI a [(8,vl encI ([g]:List Int)),(9,vl encI e),(10,.i (e.length:Int))]) ?_;obtain⟨r10,e_r10,h⟩:=bnd h;obtain⟨a1,e_l11,h⟩:=bnd h;refine sq (gq fol [3,4] (kBI a [(8,vl encI ([g]:List Int)),(9,vl encI e),(10,.i (e.length:Int)),(11,.oslice 1 a1.length 1)]) (.dead::(kD a1 [])) (ac (cv (qbi N a ([g]:List Int) e_r10)) (ac (hs (.run [0] (xC ZT [80,80] (.slice 0 0 0 0 1) (vl encI r10)) [.cells []] (.oslice 1 a1.length 1) (.dead::(kD a1 [])) true) (qbX vZ (E:=encI) rfl (qof (E:=encI) rfl _) (qrz (E:=encI) rfl rfl rfl e_l11 rfl))) az)) ?_);refine sq (Goes.block ?_);obtain⟨r14,g14,h⟩:=bnd h;refine Goes.imp (Q:=fun x s'=>(x= .exit 0/\ ∃C,C=r14/\Sub s' (ofG 206 (kAd ([g]:List Int) e (e.length:Int) C []),(kD C [])))) ?_ ?_
 ·refine Goes.sub (s':=(ofG 206 (kBI a (kAd ([g]:List Int) e (e.length:Int) a1 [])),(kD a1 []))) (Sub.norm [] [some 1] rfl rfl (.keep (.same (qg encI _)) (.keep (.same (qg encI _)) (.keep (.same (qg encI _)) (.keep (.same nI) (.keep (.oslice rfl) .nil))))) (.ks .nil)) ?_;refine Uc (fun M s=> ∃(I:List Int),s=(ofG 206 (kBI a (kAd ([g]:List Int) e (e.length:Int) I [])),(kD I []))/\jE a M I=some r14) ?_ (m:=N) ⟨_,rfl,g14⟩;rintro M s ⟨I,rfl,g14⟩
  cases M with
  |zero=>simp only[jE]at g14;cases g14
  |succ M=>
   rw[jE]at g14;refine sq ?_;refine sh fol (kBI a (kAd ([g]:List Int) e (e.length:Int) I [(68,.bool (decide ((I.length:Int)<(w64 ((a.length:Int)+1)))))])) ?_;refine ihD g14 (fun c15 g14=>?_) (fun c15 g14=>?_)
   ·refine Goes.skip ?_;refine Goes.block ?_;obtain⟨a2,e_l16,g14⟩:=bnd g14;refine gq fol [2] (kBI a [(8,vl encI ([g]:List Int)),(9,vl encI e),(10,.i (e.length:Int)),(11,.oslice 2 a2.length 1)]) (.dead:: .cells [.i 0]::(kD a2 [])) (ac (hs (.run [0,1] (xC ZT [80,80] (.oslice 0 I.length 1) (.slice 1 0 1 1 1)) (kD I [.cells [.i 0]]) (.oslice 2 a2.length 1) (.dead:: .cells [.i 0]::(kD a2 [])) true) (qbX vZ (E:=encI) rfl (qhO (E:=encI) (ys:=[0]) rfl rfl rfl rfl) (qrt (E:=encI) (l:=I) rfl rfl rfl e_l16 rfl))) az) ?_;exact⟨M,(ofG 206 (kBI a (kAd ([g]:List Int) e (e.length:Int) a2 [])),(kD a2 [])),Nat.lt_succ_self _,(Sub.norm [] [some 2] rfl rfl (.keep (.same (qg encI _)) (.keep (.same (qg encI _)) (.keep (.same (qg encI _)) (.keep (.same nI) (.keep (.oslice rfl) .nil))))) (.ks .nil)),_,rfl,g14⟩
   refine Goes.exit ?_;obtain rfl:=si g14;exact⟨rfl,_,rfl,(Sub.keep [8,9,10,11] rfl rfl)⟩
 rintro x s' ⟨rfl,C,rfl,hsub⟩;refine Goes.sub hsub ?_;obtain⟨Z,e_l17,h⟩:=bnd h;refine sq (gq fol [4] (kAd ([g]:List Int) e (e.length:Int) C [(12,.slice 1 0 Z.length Z.length 1)]) (kD C (kD Z [])) (ac (hs (.run [] (jK ZT 80 (.i (w64 ((C.length:Int)-(e.length:Int)))) (.i (w64 ((C.length:Int)-(e.length:Int))))) (kD C []) (.slice 1 0 Z.length Z.length 1) (kD C (kD Z [])) false) (qd2 vZ (E:=encI) (z:=0) rfl (by kernel_rfl) e_l17 rfl)) az) ?_);refine sq ?_;refine sh fol (kA ([g]:List Int) e (e.length:Int) C Z (w64 ((w64 ((C.length:Int)-(e.length:Int)))-1)) []) ?_;refine Goes.block ?_;obtain⟨r23,g23,h⟩:=bnd h;refine Goes.imp (Q:=fun x s'=>(x= .exit 2/\ ∃a3 p,(a3,p)=r23/\Sub s' (ofG 206 [(8,vl encI ([g]:List Int)),(10,.i (e.length:Int)),(11,.oslice 0 a3.length 1),(12,.slice 1 0 p.length p.length 1)],(kD a3 (kD p []))))) ?_ ?_
 ·refine Uc (fun M s=> ∃(D:List Int) (c:List Int) (d:Int),s=(ofG 206 (kA ([g]:List Int) e (e.length:Int) D c d []),(kD D (kD c [])))/\zL N e M D c d=some r23) ?_ (m:=N) ⟨_,_,_,rfl,g23⟩;rintro M s ⟨D,c,d,rfl,g23⟩
  cases M with
  |zero=>simp only[zL]at g23;cases g23
  |succ M=>
   rw[zL]at g23;refine sq ?_;refine sh fol (kA ([g]:List Int) e (e.length:Int) D c d [(83,.bool (decide (d>=0)))]) ?_;refine ihD g23 (fun c24 g23=>?_) (fun c24 g23=>?_)
   ·refine Goes.skip ?_;refine sq (Goes.block ?_);obtain⟨f,e_r25,g23⟩:=bnd g23;refine sq (gr fol [3] (kA ([g]:List Int) e (e.length:Int) D c d [(14,.i f)]) (ac (hs (.call 202 [.oslice 0 D.length 1,vl encI e,.i d] (kD D (kD c [])) [0] [vl encI D,vl encI e,.i d] (.i f)) (qeo (FzL.cons (Fz.os (E:=encI) rfl rfl (nl rfl)) (FzL.cons (Uf (qA encI _ (nl rfl))) (FzL.cons (Uf tI) FzL.nil))) (qir N D e d e_r25) tI rfl)) az) ?_);refine sh fol (kA ([g]:List Int) e (e.length:Int) D c d [(14,.i f),(15,.i 0)]) ?_;refine sq ?_;refine sh fol (kA ([g]:List Int) e (e.length:Int) D c d [(14,.i f),(15,.i 0),(16,.i 0)]) ?_;refine Goes.block ?_;obtain⟨r31,n,g23⟩:=bnd g23;refine Goes.imp (Q:=fun x s'=>(x= .exit 4/\ ∃v n30,(v,n30)=r31/\Sub s' (ofG 206 (kA ([g]:List Int) e (e.length:Int) v c d [(14,.i f),(15,.i n30)]),(kD v (kD c []))))) ?_ ?_
    ·refine Uc (fun M s=> ∃(k:List Int) (q:Int) (j:Int),s=(ofG 206 (kA ([g]:List Int) e (e.length:Int) k c d ((14,.i f)::(kAS q j []))),(kD k (kD c [])))/\ko e d f M k q j=some r31) ?_ (m:=N) ⟨_,_,_,rfl,n⟩;rintro M s ⟨k,q,j,rfl,n⟩
     cases M with
     |zero=>simp only[ko]at n;cases n
     |succ M=>
      rw[ko]at n;refine sq ?_;refine sh fol (kA ([g]:List Int) e (e.length:Int) k c d ((14,.i f)::(kAS q j [(92,.bool (decide (j<(e.length:Int))))]))) ?_;refine ihD n (fun c32 n=>?_) (fun c32 n=>?_)
      ·refine Goes.skip ?_;refine sq (Goes.block ?_);obtain⟨F,e_x33,n⟩:=bnd n;refine sq (gr fol [3,4] (kA ([g]:List Int) e (e.length:Int) k c d [(14,.i f),(16,.i j),(17,.i (w64 ((w64 (f*F))+q)))]) (ac (iv vZ encI e_x33) (ac (lv 0 ce3 encI e_x33 rfl) az)) ?_);obtain⟨a0,J,n⟩:=bnd n;refine sq (gr fol [4,5] (kA ([g]:List Int) e (e.length:Int) k c d [(14,.i f),(16,.i j),(17,.i (w64 ((w64 (f*F))+q))),(18,.i (w64 (a0-((w64 ((w64 (f*F))+q)).tmod 1000000000))))]) (ac (hs (.done (.opt (ql ZT 80 (.oslice 0 k.length 1) (.i (w64 (j+d))))) (.ptr 0 ((w64 (j+d):Int).toNat*1+0))) (qgH vZ J)) (ac (hs (.run [0] (jJ ZT 3 (.ptr 0 ((w64 (j+d):Int).toNat*1+0))) (kD k (kD c [])) (.i a0) (kD k (kD c [])) false) (qdb ce3 (E:=encI) (l:=k) rfl rfl J (nl rfl) rfl)) az)) ?_);refine sh fol (kA ([g]:List Int) e (e.length:Int) k c d ((14,.i f)::(kAS (w64 ((w64 ((w64 (f*F))+q)).tdiv 1000000000)) j [(18,.i (w64 (a0-((w64 ((w64 (f*F))+q)).tmod 1000000000))))]))) ?_;refine sq ?_;refine sh fol (kA ([g]:List Int) e (e.length:Int) k c d ((14,.i f)::(kAS (w64 ((w64 ((w64 (f*F))+q)).tdiv 1000000000)) j [(18,.i (w64 (a0-((w64 ((w64 (f*F))+q)).tmod 1000000000)))),(115,.bool (decide ((w64 (a0-((w64 ((w64 (f*F))+q)).tmod 1000000000)))<0)))]))) ?_;obtain⟨r37,g37,n⟩:=bnd n;refine Goes.imp (Q:=fun x s'=>(x= .normal/\ ∃V n36,(V,n36)=r37/\Sub s' (ofG 206 (kA ([g]:List Int) e (e.length:Int) k c d ((14,.i f)::(kAS V j [(18,.i n36)]))),(kD k (kD c []))))) ?_ ?_
       ·refine ihD g37 (fun c38 g37=>?_) (fun c38 g37=>?_)
        ·refine sh fol (kA ([g]:List Int) e (e.length:Int) k c d ((14,.i f)::(kAS (w64 ((w64 ((w64 (f*F))+q)).tdiv 1000000000)) j [(18,.i (w64 ((w64 (a0-((w64 ((w64 (f*F))+q)).tmod 1000000000)))+1000000000)))]))) ?_;refine gh fol (kA ([g]:List Int) e (e.length:Int) k c d ((14,.i f)::(kAS (w64 ((w64 ((w64 ((w64 (f*F))+q)).tdiv 1000000000))+1)) j [(18,.i (w64 ((w64 (a0-((w64 ((w64 (f*F))+q)).tmod 1000000000)))+1000000000)))]))) ?_;obtain rfl:=si g37;exact⟨rfl,_,_,rfl,(Sub.refl _)⟩
        refine Goes.skip ?_;obtain rfl:=si g37;exact⟨rfl,_,_,rfl,(Sub.keep [8,9,10,11,12,13,14,15,16,18] rfl rfl)⟩
       rintro x s' ⟨rfl,V,n36,rfl,hsub⟩
       try dsimp only at n
       refine Goes.sub hsub ?_;obtain⟨X,e_l39,n⟩:=bnd n;refine gq fol [5,6] (kA ([g]:List Int) e (e.length:Int) k c d ((14,.i f)::(kAS V j []))) (kD X (kD c [])) (ac (hs (.done (.opt (ql ZT 80 (.oslice 0 k.length 1) (.i (w64 (j+d))))) (.ptr 0 ((w64 (j+d):Int).toNat*1+0))) (qgH vZ J)) (ac (hs (.run [0] (qx ZT 3 (.ptr 0 ((w64 (j+d):Int).toNat*1+0)) (.i n36)) (kD k (kD c [])) .undef (kD X (kD c [])) true) (qaD (E:=encI) (l:=k) (y:=n36) rfl (show _=some 1 by kernel_rfl) rfl J rfl rfl rfl rfl rfl e_l39 rfl)) az)) ?_;refine Goes.sub (show Sub (ofG 206 (kA ([g]:List Int) e (e.length:Int) k c d ((14,.i f)::(kAS V j []))),(kD X (kD c []))) (ofG 206 (kA ([g]:List Int) e (e.length:Int) X c d ((14,.i f)::(kAS V j []))),(kD X (kD c [])))from(Sub.norm [] [some 0,some 1] rfl rfl (.keep (.same (qg encI _)) (.keep (.same (qg encI _)) (.keep (.same nI) (.keep (.osliceE rfl (yE e_l39)) (.keep (.slice rfl) (.keep (.same nI) (.keep (.same nI) (.keep (.same nI) (.keep (.same nI) .nil))))))))) (.ks (.ks .nil)))) ?_;refine gh fol (kA ([g]:List Int) e (e.length:Int) X c d ((14,.i f)::(kAS V (w64 (j+1)) []))) ?_;exact⟨M,(ofG 206 (kA ([g]:List Int) e (e.length:Int) X c d ((14,.i f)::(kAS V (w64 (j+1)) []))),(kD X (kD c []))),Nat.lt_succ_self _,(Sub.refl _),_,_,_,rfl,n⟩
      refine Goes.exit ?_;obtain rfl:=si n;exact⟨rfl,_,_,rfl,(Sub.keep [8,9,10,11,12,13,14,15] rfl rfl)⟩
    rintro x s' ⟨rfl,v,n30,rfl,hsub⟩
    try dsimp only at g23
    refine Goes.sub hsub ?_;obtain⟨x40,K,g23⟩:=bnd g23;obtain⟨w,e_l41,g23⟩:=bnd g23;refine sq (gq fol [8,9,12,13] (kA ([g]:List Int) e (e.length:Int) v c d [(14,.i f)]) (kD w (kD c [])) (ac (hs (.done (.opt (ql ZT 80 (.oslice 0 v.length 1) (.i (w64 (d+(e.length:Int)))))) (.ptr 0 ((w64 (d+(e.length:Int)):Int).toNat*1+0))) (qgH vZ K)) (ac (hs (.run [0] (jJ ZT 3 (.ptr 0 ((w64 (d+(e.length:Int)):Int).toNat*1+0))) (kD v (kD c [])) (.i x40) (kD v (kD c [])) false) (qdb ce3 (E:=encI) (l:=v) rfl rfl K (nl rfl) rfl)) (ac (hs (.done (.opt (ql ZT 80 (.oslice 0 v.length 1) (.i (w64 (d+(e.length:Int)))))) (.ptr 0 ((w64 (d+(e.length:Int)):Int).toNat*1+0))) (qgH vZ K)) (ac (hs (.run [0] (qx ZT 3 (.ptr 0 ((w64 (d+(e.length:Int)):Int).toNat*1+0)) (.i (w64 (x40-n30)))) (kD v (kD c [])) .undef (kD w (kD c [])) true) (qaD (E:=encI) (l:=v) (y:=w64 (x40-n30)) rfl (show _=some 1 by kernel_rfl) rfl K rfl rfl rfl rfl rfl e_l41 rfl)) az)))) ?_);refine Goes.sub (show Sub (ofG 206 (kA ([g]:List Int) e (e.length:Int) v c d [(14,.i f)]),(kD w (kD c []))) (ofG 206 (kA ([g]:List Int) e (e.length:Int) w c d [(14,.i f)]),(kD w (kD c [])))from(Sub.norm [] [some 0,some 1] rfl rfl (.keep (.same (qg encI _)) (.keep (.same (qg encI _)) (.keep (.same nI) (.keep (.osliceE rfl (yE e_l41)) (.keep (.slice rfl) (.keep (.same nI) (.keep (.same nI) .nil))))))) (.ks (.ks .nil)))) ?_;refine sq ?_;obtain⟨x42,e_x42,g23⟩:=bnd g23;refine sq (gr fol [4,5] (kA ([g]:List Int) e (e.length:Int) w c d [(14,.i f),(145,.bool (decide (x42<0)))]) (ac (hs (.done (.opt (ql ZT 80 (.oslice 0 w.length 1) (.i (w64 (d+(e.length:Int)))))) (.ptr 0 ((w64 (d+(e.length:Int)):Int).toNat*1+0))) (qgH vZ e_x42)) (ac (hs (.run [0] (jJ ZT 3 (.ptr 0 ((w64 (d+(e.length:Int)):Int).toNat*1+0))) (kD w (kD c [])) (.i x42) (kD w (kD c [])) false) (qdb ce3 (E:=encI) (l:=w) rfl rfl e_x42 (nl rfl) rfl)) az)) ?_);obtain⟨r45,G,g23⟩:=bnd g23;refine Goes.imp (Q:=fun x s'=>(x= .normal/\ ∃t n44,(t,n44)=r45/\Sub s' (ofG 206 (kA ([g]:List Int) e (e.length:Int) t c d [(14,.i n44)]),(kD t (kD c []))))) ?_ ?_
    ·refine ihD G (fun c46 G=>?_) (fun c46 G=>?_)
     ·refine sh fol (kA ([g]:List Int) e (e.length:Int) w c d [(14,.i (w64 (f-1)))]) ?_;refine sh fol (kA ([g]:List Int) e (e.length:Int) w c d [(14,.i (w64 (f-1))),(19,.i 0)]) ?_;refine sq ?_;refine sh fol (kA ([g]:List Int) e (e.length:Int) w c d [(14,.i (w64 (f-1))),(19,.i 0),(20,.i 0)]) ?_;refine Goes.block ?_;obtain⟨r53,r,G⟩:=bnd G;refine Goes.imp (Q:=fun x s'=>(x= .exit 6/\ ∃A a4 n52,(A,a4,n52)=r53/\Sub s' (ofG 206 (kA ([g]:List Int) e (e.length:Int) A c d [(14,.i a4),(19,.i n52)]),(kD A (kD c []))))) ?_ ?_
      ·refine Uc (fun M s=> ∃(u:List Int) (B:Int) (o:Int),s=(ofG 206 (kA ([g]:List Int) e (e.length:Int) u c d [(14,.i (w64 (f-1))),(19,.i B),(20,.i o)]),(kD u (kD c [])))/\zl e d f M u B o=some r53) ?_ (m:=N) ⟨_,_,_,rfl,r⟩;rintro M s ⟨u,B,o,rfl,r⟩
       cases M with
       |zero=>simp only[zl]at r;cases r
       |succ M=>
        rw[zl]at r;refine sq ?_;refine sh fol (kA ([g]:List Int) e (e.length:Int) u c d [(14,.i (w64 (f-1))),(19,.i B),(20,.i o),(150,.bool (decide (o<(e.length:Int))))]) ?_;refine ihD r (fun c54 r=>?_) (fun c54 r=>?_)
        ·refine Goes.skip ?_;refine sq (Goes.block ?_);obtain⟨H,L,r⟩:=bnd r;obtain⟨O,e_x56,r⟩:=bnd r;refine sq (gr fol [4,5,8,9] (kA ([g]:List Int) e (e.length:Int) u c d [(14,.i (w64 (f-1))),(20,.i o),(21,.i (w64 ((w64 (H+O))+B)))]) (ac (hs (.done (.opt (ql ZT 80 (.oslice 0 u.length 1) (.i (w64 (o+d))))) (.ptr 0 ((w64 (o+d):Int).toNat*1+0))) (qgH vZ L)) (ac (hs (.run [0] (jJ ZT 3 (.ptr 0 ((w64 (o+d):Int).toNat*1+0))) (kD u (kD c [])) (.i H) (kD u (kD c [])) false) (qdb ce3 (E:=encI) (l:=u) rfl rfl L (nl rfl) rfl)) (ac (iv vZ encI e_x56) (ac (lv 0 ce3 encI e_x56 rfl) az)))) ?_);obtain⟨P,e_l57,r⟩:=bnd r;refine sq (gq fol [6,7] (kA ([g]:List Int) e (e.length:Int) u c d [(14,.i (w64 (f-1))),(20,.i o),(21,.i (w64 ((w64 (H+O))+B)))]) (kD P (kD c [])) (ac (hs (.done (.opt (ql ZT 80 (.oslice 0 u.length 1) (.i (w64 (o+d))))) (.ptr 0 ((w64 (o+d):Int).toNat*1+0))) (qgH vZ L)) (ac (hs (.run [0] (qx ZT 3 (.ptr 0 ((w64 (o+d):Int).toNat*1+0)) (.i ((w64 ((w64 (H+O))+B)).tmod 1000000000))) (kD u (kD c [])) .undef (kD P (kD c [])) true) (qaD (E:=encI) (l:=u) (y:=(w64 ((w64 (H+O))+B)).tmod 1000000000) rfl (show _=some 1 by kernel_rfl) rfl L rfl rfl rfl rfl rfl e_l57 rfl)) az)) ?_);refine Goes.sub (show Sub (ofG 206 (kA ([g]:List Int) e (e.length:Int) u c d [(14,.i (w64 (f-1))),(20,.i o),(21,.i (w64 ((w64 (H+O))+B)))]),(kD P (kD c []))) (ofG 206 (kA ([g]:List Int) e (e.length:Int) P c d [(14,.i (w64 (f-1))),(20,.i o),(21,.i (w64 ((w64 (H+O))+B)))]),(kD P (kD c [])))from(Sub.norm [] [some 0,some 1] rfl rfl (.keep (.same (qg encI _)) (.keep (.same (qg encI _)) (.keep (.same nI) (.keep (.osliceE rfl (yE e_l57)) (.keep (.slice rfl) (.keep (.same nI) (.keep (.same nI) (.keep (.same nI) (.keep (.same nI) .nil))))))))) (.ks (.ks .nil)))) ?_;refine gh fol (kA ([g]:List Int) e (e.length:Int) P c d [(14,.i (w64 (f-1))),(19,.i (w64 ((w64 ((w64 (H+O))+B)).tdiv 1000000000))),(20,.i o)]) ?_;refine gh fol (kA ([g]:List Int) e (e.length:Int) P c d [(14,.i (w64 (f-1))),(19,.i (w64 ((w64 ((w64 (H+O))+B)).tdiv 1000000000))),(20,.i (w64 (o+1)))]) ?_;exact⟨M,(ofG 206 (kA ([g]:List Int) e (e.length:Int) P c d [(14,.i (w64 (f-1))),(19,.i (w64 ((w64 ((w64 (H+O))+B)).tdiv 1000000000))),(20,.i (w64 (o+1)))]),(kD P (kD c []))),Nat.lt_succ_self _,(Sub.refl _),_,_,_,rfl,r⟩
        refine Goes.exit ?_;obtain rfl:=si r;exact⟨rfl,_,_,_,rfl,(Sub.keep [8,9,10,11,12,13,14,19] rfl rfl)⟩
      rintro x s' ⟨rfl,A,a4,n52,rfl,hsub⟩
      try dsimp only at G
      refine Goes.sub hsub ?_;obtain⟨x58,U,G⟩:=bnd G;obtain⟨l59,e_l59,G⟩:=bnd G;refine gq fol [8,9,12,13] (kA ([g]:List Int) e (e.length:Int) A c d [(14,.i a4)]) (kD l59 (kD c [])) (ac (hs (.done (.opt (ql ZT 80 (.oslice 0 A.length 1) (.i (w64 (d+(e.length:Int)))))) (.ptr 0 ((w64 (d+(e.length:Int)):Int).toNat*1+0))) (qgH vZ U)) (ac (hs (.run [0] (jJ ZT 3 (.ptr 0 ((w64 (d+(e.length:Int)):Int).toNat*1+0))) (kD A (kD c [])) (.i x58) (kD A (kD c [])) false) (qdb ce3 (E:=encI) (l:=A) rfl rfl U (nl rfl) rfl)) (ac (hs (.done (.opt (ql ZT 80 (.oslice 0 A.length 1) (.i (w64 (d+(e.length:Int)))))) (.ptr 0 ((w64 (d+(e.length:Int)):Int).toNat*1+0))) (qgH vZ U)) (ac (hs (.run [0] (qx ZT 3 (.ptr 0 ((w64 (d+(e.length:Int)):Int).toNat*1+0)) (.i (w64 (x58+n52)))) (kD A (kD c [])) .undef (kD l59 (kD c [])) true) (qaD (E:=encI) (l:=A) (y:=w64 (x58+n52)) rfl (show _=some 1 by kernel_rfl) rfl U rfl rfl rfl rfl rfl e_l59 rfl)) az)))) ?_;obtain rfl:=si G;exact⟨rfl,_,_,rfl,((show Sub (ofG 206 (kA ([g]:List Int) e (e.length:Int) A c d [(14,.i a4)]),(kD l59 (kD c []))) (ofG 206 (kA ([g]:List Int) e (e.length:Int) l59 c d [(14,.i a4)]),(kD l59 (kD c [])))from(Sub.norm [] [some 0,some 1] rfl rfl (.keep (.same (qg encI _)) (.keep (.same (qg encI _)) (.keep (.same nI) (.keep (.osliceE rfl (yE e_l59)) (.keep (.slice rfl) (.keep (.same nI) (.keep (.same nI) .nil))))))) (.ks (.ks .nil)))).trans (Sub.refl _))⟩
     refine Goes.skip ?_;obtain rfl:=si G;exact⟨rfl,_,_,rfl,(Sub.keep [8,9,10,11,12,13,14] rfl rfl)⟩
    rintro x s' ⟨rfl,t,n44,rfl,hsub⟩
    try dsimp only at g23
    refine Goes.sub hsub ?_;obtain⟨x60,e_x60,g23⟩:=bnd g23;obtain⟨Y,e_l61,g23⟩:=bnd g23;refine gq fol [3,4] (kA ([g]:List Int) e (e.length:Int) t c d []) (kD t (kD Y [])) (ac (hs (.done (.opt (ql ZT 80 (.slice 1 0 c.length c.length 1) (.i d))) (.ptr 1 ((d:Int).toNat*1+0))) (qa1 vZ e_x60)) (ac (hs (.run [1] (qx ZT 3 (.ptr 1 ((d:Int).toNat*1+0)) (.i n44)) (kD t (kD c [])) .undef (kD t (kD Y [])) true) (qaD (E:=encI) (l:=c) (y:=n44) rfl (show _=some 1 by kernel_rfl) rfl e_x60 rfl rfl rfl rfl rfl e_l61 rfl)) az)) ?_;refine Goes.sub (show Sub (ofG 206 (kA ([g]:List Int) e (e.length:Int) t c d []),(kD t (kD Y []))) (ofG 206 (kA ([g]:List Int) e (e.length:Int) t Y d []),(kD t (kD Y [])))from(Sub.norm [] [some 0,some 1] rfl rfl (.keep (.same (qg encI _)) (.keep (.same (qg encI _)) (.keep (.same nI) (.keep (.oslice rfl) (.keep (.sliceE rfl (yE e_l61)) (.keep (.same nI) .nil)))))) (.ks (.ks .nil)))) ?_;refine gh fol (kA ([g]:List Int) e (e.length:Int) t Y (w64 (d-1)) []) ?_;exact⟨M,(ofG 206 (kA ([g]:List Int) e (e.length:Int) t Y (w64 (d-1)) []),(kD t (kD Y []))),Nat.lt_succ_self _,(Sub.refl _),_,_,_,rfl,g23⟩
   refine Goes.exit ?_;obtain rfl:=si g23;exact⟨rfl,_,_,rfl,(Sub.keep [8,10,11,12] rfl rfl)⟩
 rintro x s' ⟨rfl,a3,p,rfl,hsub⟩
 try dsimp only at h
 refine Goes.sub hsub ?_;refine sq (Goes.sub (s':=(ofG 206 [(8,vl encI ([g]:List Int)),(10,.i (e.length:Int)),(11,vl encI a3),(12,.slice 0 0 p.length p.length 1)],(kD p []))) (Sub.norm [0] [some 1] rfl rfl (.keep (.same (qg encI _)) (.keep (.same nI) (.keep (.frz (Fz.os (E:=encI) rfl rfl (nl rfl)) (qg encI _)) (.keep (.slice rfl) .nil)))) (.ks .nil)) ?_);obtain⟨s62,e_s62,h⟩:=bnd h;obtain⟨r63,e_r63,h⟩:=bnd h;obtain⟨x64,e_x64,h⟩:=bnd h;obtain⟨r65,e_r65,h⟩:=bnd h;refine gr fol [2,3,5,6,7] [(12,.slice 0 0 p.length p.length 1),(22,vl encI r65.1)] (ac (hs (.done (.opt (kr ZT 80 (vl encI a3) none (some (.i (e.length:Int))) none)) (vl encI s62)) (qjo vZ (E:=encI) rfl none (some (e.length:Int)) e_s62)) (ac (cv (xw N s62 e_r63)) (ac (iv vZ encI e_x64) (ac (lv 0 ce3 encI e_x64 rfl) (ac (cv (qdc N r63 x64 e_r65)) az))))) ?_;obtain⟨r66,e_r66,h⟩:=bnd h;refine sq (gq fol [1] ((4,vl encI r66)::(kBJ r65.1 [])) (kAY p) (ac (hs (.callF 201 [.slice 0 0 p.length p.length 1] (kD p []) [0] [vl encI p] (vl encI r66)) (qax (FzL.cons (Fz.sl (E:=encI) rfl rfl (nl rfl)) FzL.nil) (xw N p e_r66) (qA encI _ (nl rfl)))) az) ?_);refine Goes.sub (show Sub (ofG 206 ((4,vl encI r66)::(kBJ r65.1 [])),(kAY p)) (ofG 206 ((4,vl encI r66)::(kBJ r65.1 [])),[])from(Sub.norm [] [] rfl rfl (.keep (.same (qg encI _)) (.keep (.same (qg encI _)) .nil)) .nil)) ?_;refine Goes.ret ?_;obtain rfl:=si h;exact(gw2 (kBO r66 r65.1) (FzW.tuple (qj.cons (Ua (qA encI _ (nl rfl))) (qj.cons (Ua (qA encI _ (nl rfl))) qj.nil))))
def zq (N:Nat):Nat->(List Int)->(List Int)->Option (List Int)
 |0,_,_=>none
 |K+1,b,a=>
  if(a.length:Int)>0 then
  (ve N b a).bind fun c=>
  zq N K a c.2
  else
  some b
def qaX (N:Nat) (a:List Int) (b:List Int):Option (List Int):=
 (zq N N a b).bind fun c=>
 some c
theorem qew (N:Nat) (a:List Int) (b:List Int) {res:List Int} (h:qaX N a b=some res):qd ZT (.fn 84) (kBO a b) [] (vl encI res) []:=by
 unfold qaX at h;refine Ub Tryz.func84 rfl rfl (m:=19) rfl (rs:=[.tmp 4]) rfl (l:=(kH a b [])) rfl ?_;refine sh fol (kH a b []) ?_;refine sq (Goes.block ?_);obtain⟨i,g4,h⟩:=bnd h;refine Goes.imp (Q:=fun x s'=>(x= .exit 0/\ ∃d,d=i/\Sub s' (ofG 19 (kBI d []),[]))) ?_ ?_
 ·refine Uc (fun M s=> ∃(e:List Int) (c:List Int),s=(ofG 19 (kH e c []),[])/\zq N M e c=some i) ?_ (m:=N) ⟨_,_,rfl,g4⟩;rintro M s ⟨e,c,rfl,g4⟩
  cases M with
  |zero=>simp only[zq]at g4;cases g4
  |succ M=>
   rw[zq]at g4;refine sq ?_;refine sh fol (kH e c [(9,.bool (decide ((c.length:Int)>0)))]) ?_;refine ihD g4 (fun j g4=>?_) (fun j g4=>?_)
   ·refine Goes.skip ?_;refine Goes.block ?_;obtain⟨g,f,g4⟩:=bnd g4;refine sq (gr fol [2] [(1,vl encI c),(6,vl encI g.2)] (ac (cv (qbg N e c f)) az) ?_);refine gh fol (kH c g.2 []) ?_;exact⟨M,(ofG 19 (kH c g.2 []),[]),Nat.lt_succ_self _,(Sub.refl _),_,_,rfl,g4⟩
   refine Goes.exit ?_;obtain rfl:=si g4;exact⟨rfl,_,rfl,(Sub.keep [0] rfl rfl)⟩
 rintro x s' ⟨rfl,d,rfl,hsub⟩;refine Goes.sub hsub ?_;refine sh fol [(4,vl encI d)] ?_;refine Goes.ret ?_;obtain rfl:=si h;exact(gw2 [vl encI d] (Ua (qA encI _ (nl rfl))))
def yK (N:Nat) (a:Str):Option Int:=
 (if(a.length:Int)>0 then
 (idx a 0).bind fun t=>
 some (decide ((t.toNat:Int)=45))
 else
 some false:Option Bool).bind fun u=>
 ((if u=true then
 (cut a 1 (a.length:Int)).bind fun v=>
 some v
 else
 some a:Option Str)).bind fun b=>
 (xm N b).bind fun c=>
 ((cut b 0 c).bind fun f=>
 (jR N f).bind fun g=>
 if(!g)=true then
 some true
 else
 (idx a 0).bind fun h=>
 if(h.toNat:Int)=45 then
 (cut b 0 c).bind fun i=>
 some (i==[48])
 else
 some false:Option Bool).bind fun j=>
 if j=true then
 some 1
 else
 (if c<(b.length:Int)then
 (cut b (w64 (c+1)) (b.length:Int)).bind fun k=>
 (jR N k).bind fun l=>
 if(!l)=true then
 some true
 else
 (cut b (w64 (c+1)) (b.length:Int)).bind fun m=>
 if(m==[48])=true then
 some true
 else
 (cut b (w64 (c+1)) (b.length:Int)).bind fun n=>
 some (n==[49])
 else
 some false:Option Bool).bind fun o=>
 if o=true then
 some 1
 else
 (if c>600 then
 some true
 else
 some (decide ((w64 ((w64 ((b.length:Int)-c))-1))>600)):Option Bool).bind fun p=>
 if p=true then
 some 4
 else
 ((if c<(b.length:Int)then
 (jV N b).bind fun d=>
 (qaX N d.1.w d.2.w).bind fun e=>
 (if(!decide ((e.length:Int)=1))=true then
 some true
 else
 (idx e 0).bind fun q=>
 some (!decide (q=1)):Option Bool).bind fun r=>
 if r=true then
 some (.inr 1)
 else
 some (.inl ())
 else
 some (.inl ()):Option (Unit⊕Int))).bind (fun
 |(.inl ())=>
 some 0
 |(.inr s)=>
 some s)
theorem yU (N:Nat) (a:Str) {res:Int} (h:yK N a=some res):qd ZT (.fn 27) [.str a] [] (.i res) []:=by
 unfold yK at h;refine Ub Tryz.func27 rfl rfl (m:=96) rfl (rs:=[.tmp 2]) rfl (l:=(kAI a)) rfl ?_;refine sh fol (kAI a) ?_;refine sh fol (kA4 a [(3,.str a)]) ?_;refine sq ?_;refine sq ?_;obtain⟨b3,j,h⟩:=bnd h;refine Goes.cut (s':=(ofG 96 (kA4 a [(3,.str a),(16,.bool b3)]),[])) ?_ ?_
 ·rcases wyD j with⟨Z,j⟩|⟨Z,j⟩
  ·obtain⟨c2,K,j⟩:=bnd j;obtain rfl:=si j;exact tr fol [3,5] (kA4 a [(3,.str a),(16,.bool (decide ((c2.toNat:Int)=45)))]) (ac (gw Z) (ac (hs (.done (.opt (yV ZT 9 (.str a) (.i 0))) (.int .u8 (c2.toNat:Int))) (qau st9 K)) az))
  obtain rfl:=si j;exact tr fol [3] (kA4 a [(3,.str a),(16,.bool false)]) (ac (gw Z) az)
 obtain⟨r6,g6,h⟩:=bnd h;refine Goes.imp (Q:=fun x s'=>(x= .normal/\ ∃e,e=r6/\Sub s' (ofG 96 (kA4 a [(3,.str e)]),[]))) ?_ ?_
 ·refine ihB g6 (fun c7 g6=>?_) (fun c7 g6=>?_)
  ·obtain⟨s8,L,g6⟩:=bnd g6;refine gr fol [1] (kA4 a [(3,.str s8)]) (ac (hs (.done (.opt (kr ZT 9 (.str a) (some (.i 1)) none none)) (.str s8)) (jA st9 (some 1) none L)) az) ?_;obtain rfl:=si g6;exact⟨rfl,_,rfl,(Sub.refl _)⟩
  refine Goes.skip ?_;obtain rfl:=si g6;exact⟨rfl,_,rfl,(Sub.keep [0,3] rfl rfl)⟩
 rintro x s' ⟨rfl,e,rfl,hsub⟩;refine Goes.sub hsub ?_;obtain⟨d,M,h⟩:=bnd h;refine sq (gr fol [1] (kA4 a (kAm e d [])) (ac (cv (qaA N e M)) az) ?_);refine sq ?_;refine sq ?_;obtain⟨a0,c,h⟩:=bnd h;refine Goes.cut (s':=(ofG 96 (kAm e d [(36,.bool a0)]),[])) ?_ ?_
 ·obtain⟨s,o,c⟩:=bnd c;obtain⟨r11,p,c⟩:=bnd c;rcases wyB c with⟨A,c⟩|⟨A,c⟩
  ·obtain rfl:=si c;exact tr fol [2,3,5] (kAm e d [(36,.bool true)]) (ac (hs (.done (.opt (kr ZT 9 (.str e) none (some (.i d)) none)) (.str s)) (jA st9 none (some d) o)) (ac (cv (jF N s p)) (ac (gw A) az)))
  obtain⟨O,u,c⟩:=bnd c;rcases wyD c with⟨C,c⟩|⟨C,c⟩
  ·obtain⟨P,D,c⟩:=bnd c;obtain rfl:=si c;exact tr fol [2,3,5,7,9,12] (kAm e d [(36,.bool (P==[48]))]) (ac (hs (.done (.opt (kr ZT 9 (.str e) none (some (.i d)) none)) (.str s)) (jA st9 none (some d) o)) (ac (cv (jF N s p)) (ac (gw A) (ac (hs (.done (.opt (yV ZT 23 (.str a) (.i 0))) (.int .u8 (O.toNat:Int))) (qau qmk u)) (ac (gw C) (ac (hs (.done (.opt (kr ZT 9 (.str e) none (some (.i d)) none)) (.str P)) (jA st9 none (some d) D)) az))))))
  obtain rfl:=si c;exact tr fol [2,3,5,7,9] (kAm e d [(36,.bool false)]) (ac (hs (.done (.opt (kr ZT 9 (.str e) none (some (.i d)) none)) (.str s)) (jA st9 none (some d) o)) (ac (cv (jF N s p)) (ac (gw A) (ac (hs (.done (.opt (yV ZT 23 (.str a) (.i 0))) (.int .u8 (O.toNat:Int))) (qau qmk u)) (ac (gw C) az)))))
 refine ihB h (fun a1 h=>?_) (fun a1 h=>?_)
 ·refine sh fol [(2,.i 1)] ?_;refine Goes.ret ?_;obtain rfl:=si h;exact(gw2 [.i 1] (Ua tI))
 refine Goes.skip ?_;refine sq ?_;refine sq ?_;obtain⟨a2,b,h⟩:=bnd h;refine Goes.cut (s':=(ofG 96 (kAm e d [(62,.bool a2)]),[])) ?_ ?_
 ·rcases wyD b with⟨v,b⟩|⟨v,b⟩
  ·obtain⟨t,q,b⟩:=bnd b;obtain⟨r21,r,b⟩:=bnd b;rcases wyB b with⟨B,b⟩|⟨B,b⟩
   ·obtain rfl:=si b;exact tr fol [4,8,9,11] (kAm e d [(62,.bool true)]) (ac (gw v) (ac (hs (.done (.opt (kr ZT 9 (.str e) (some (.i (w64 (d+1)))) none none)) (.str t)) (jA st9 (some (w64 (d+1))) none q)) (ac (cv (jF N t r)) (ac (gw B) az))))
   obtain⟨U,y,b⟩:=bnd b;rcases wyB b with⟨E,b⟩|⟨E,b⟩
   ·obtain rfl:=si b;exact tr fol [4,8,9,11,15,18] (kAm e d [(62,.bool true)]) (ac (gw v) (ac (hs (.done (.opt (kr ZT 9 (.str e) (some (.i (w64 (d+1)))) none none)) (.str t)) (jA st9 (some (w64 (d+1))) none q)) (ac (cv (jF N t r)) (ac (gw B) (ac (hs (.done (.opt (kr ZT 9 (.str e) (some (.i (w64 (d+1)))) none none)) (.str U)) (jA st9 (some (w64 (d+1))) none y)) (ac (gw E) az))))))
   obtain⟨V,F,b⟩:=bnd b;obtain rfl:=si b;exact tr fol [4,8,9,11,15,18,22] (kAm e d [(62,.bool (V==[49]))]) (ac (gw v) (ac (hs (.done (.opt (kr ZT 9 (.str e) (some (.i (w64 (d+1)))) none none)) (.str t)) (jA st9 (some (w64 (d+1))) none q)) (ac (cv (jF N t r)) (ac (gw B) (ac (hs (.done (.opt (kr ZT 9 (.str e) (some (.i (w64 (d+1)))) none none)) (.str U)) (jA st9 (some (w64 (d+1))) none y)) (ac (gw E) (ac (hs (.done (.opt (kr ZT 9 (.str e) (some (.i (w64 (d+1)))) none none)) (.str V)) (jA st9 (some (w64 (d+1))) none F)) az)))))))
  obtain rfl:=si b;exact tr fol [4] (kAm e d [(62,.bool false)]) (ac (gw v) az)
 refine ihB h (fun a3 h=>?_) (fun a3 h=>?_)
 ·refine sh fol [(2,.i 1)] ?_;refine Goes.ret ?_;obtain rfl:=si h;exact(gw2 [.i 1] (Ua tI))
 refine Goes.skip ?_;refine sq ?_;refine sq ?_;obtain⟨a4,k,h⟩:=bnd h;refine Goes.cut (s':=(ofG 96 (kAm e d [(72,.bool a4)]),[])) ?_ ?_
 ·rcases wyD k with⟨G,k⟩|⟨G,k⟩
  ·obtain rfl:=si k;exact tr fol [2] (kAm e d [(72,.bool true)]) (ac (gw G) az)
  obtain rfl:=si k;exact tr fol [2] (kAm e d [(72,.bool (decide ((w64 ((w64 ((e.length:Int)-d))-1))>600)))]) (ac (gw G) az)
 refine ihB h (fun a5 h=>?_) (fun a5 h=>?_)
 ·refine sh fol [(2,.i 4)] ?_;refine Goes.ret ?_;obtain rfl:=si h;exact(gw2 [.i 4] (Ua tI))
 refine Goes.skip ?_;refine sq ?_;refine sh fol [(3,.str e),(76,.bool (decide (d<(e.length:Int))))] ?_;obtain⟨X,f,h⟩:=bnd h;refine Goes.imp (Q:=fun x s'=>(x= .normal/\(.inl ())=X/\Sub s' (ofG 96 [],[]))\/(x= .ret/\ ∃Y,(.inr Y)=X/\jb ZT [.tmp 2] (.i Y) .ret s')) ?_ ?_
 ·refine ihD f (fun a6 f=>?_) (fun a6 f=>?_)
  ·obtain⟨n,H,f⟩:=bnd f;refine sq (gq fol [1] [(5,.ptr 0 0),(6,.ptr 1 0)] (kL n.1.neg n.1.w n.2.neg n.2.w []) (ac (cv (xH N e H)) az) ?_);obtain⟨a7,I,f⟩:=bnd f;refine sq (gr fol [4] [(7,vl encI a7)] (ac (cv (qew N n.1.w n.2.w I)) az) ?_);refine sq ?_;obtain⟨a8,g,f⟩:=bnd f;refine Goes.cut (s':=(ofG 96 [(95,.bool a8)],(kL n.1.neg n.1.w n.2.neg n.2.w []))) ?_ ?_
   ·rcases wyB g with⟨J,g⟩|⟨J,g⟩
    ·obtain rfl:=si g;exact tr fol [3] [(95,.bool true)] (ac (gw J) az)
    obtain⟨a9,z,g⟩:=bnd g;obtain rfl:=si g;exact tr fol [3,5,6] [(95,.bool (!decide (a9=1)))] (ac (gw J) (ac (iv vZ encI z) (ac (lv 0 ce3 encI z rfl) az)))
   refine ihB f (fun b0 f=>?_) (fun b0 f=>?_)
   ·refine sh fol [(2,.i 1)] ?_;refine Goes.ret ?_;obtain rfl:=si f;exact Or.inr (⟨rfl,_,rfl,(gw2 [.i 1] (Ua tI))⟩)
   refine Goes.skip ?_;obtain rfl:=si f;exact Or.inl (⟨rfl,rfl,(Sub.norm [] [] rfl rfl .nil .nil)⟩)
  refine Goes.skip ?_;obtain rfl:=si f;exact Or.inl (⟨rfl,rfl,(Sub.keep [] rfl rfl)⟩)
 rintro x s' (⟨rfl,rfl,hsub⟩|⟨rfl,q43,rfl,hret⟩)
 ·try dsimp only at h
  refine Goes.sub hsub ?_;refine sh fol [(2,.i 0)] ?_;refine Goes.ret ?_;obtain rfl:=si h;exact(gw2 [.i 0] (Ua tI))
 try dsimp only at h
 obtain rfl:=si h;exact hret
def yB (a:Str):Option Int:=
 if(a==[48])=true then
 some 0
 else
 (if(a.length:Int)>0 then
 (idx a 0).bind fun b=>
 some (decide ((b.toNat:Int)=45))
 else
 some false:Option Bool).bind fun c=>
 if c=true then
 some (-1)
 else
 some 1
theorem qam (a:Str) {res:Int} (h:yB a=some res):qd ZT (.fn 68) [.str a] [] (.i res) []:=by
 unfold yB at h;refine Ub Tryz.func68 rfl rfl (m:=13) rfl (rs:=[.tmp 2]) rfl (l:=(kAI a)) rfl ?_;refine sh fol (kAI a) ?_;refine sq ?_;refine sh fol (kA4 a (kBQ (a==[48]))) ?_;refine ihB h (fun f h=>?_) (fun f h=>?_)
 ·refine sh fol [(2,.i 0)] ?_;refine Goes.ret ?_;obtain rfl:=si h;exact(gw2 [.i 0] (Ua tI))
 refine Goes.skip ?_;refine sq ?_;refine sq ?_;obtain⟨g,b,h⟩:=bnd h;refine Goes.cut (s':=(ofG 13 (kA0 g),[])) ?_ ?_
 ·rcases wyD b with⟨d,b⟩|⟨d,b⟩
  ·obtain⟨e,c,b⟩:=bnd b;obtain rfl:=si b;exact tr fol [3,5] (kA0 (decide ((e.toNat:Int)=45))) (ac (gw d) (ac (hs (.done (.opt (yV ZT 23 (.str a) (.i 0))) (.int .u8 (e.toNat:Int))) (qau qmk c)) az))
  obtain rfl:=si b;exact tr fol [3] [(12,.bool false)] (ac (gw d) az)
 refine ihB h (fun j h=>?_) (fun j h=>?_)
 ·refine sh fol [(2,.i (-1))] ?_;refine Goes.ret ?_;obtain rfl:=si h;exact(gw2 [.i (-1)] (Ua tI))
 refine Goes.skip ?_;refine sh fol [(2,.i 1)] ?_;refine Goes.ret ?_;obtain rfl:=si h;exact(gw2 [.i 1] (Ua tI))
def qdy (a:Str):Option Str:=
 (yB a).bind fun b=>
 if b<0 then
 (cut a 1 (a.length:Int)).bind fun c=>
 some c
 else
 some a
theorem qgy (a:Str) {res:Str} (h:qdy a=some res):qd ZT (.fn 64) [.str a] [] (.str res) []:=by
 unfold qdy at h;refine Ub Tryz.func64 rfl rfl (m:=9) rfl (rs:=[.tmp 2]) rfl (l:=(kAI a)) rfl ?_;refine sh fol (kAI a) ?_;refine sq ?_;obtain⟨e,b,h⟩:=bnd h;refine sq (gr fol [1] (kA4 a [(5,.bool (decide (e<0)))]) (ac (cv (qam a b)) az) ?_);refine ihD h (fun f h=>?_) (fun f h=>?_)
 ·obtain⟨d,c,h⟩:=bnd h;refine sq (gr fol [1] [(2,.str d)] (ac (hs (.done (.opt (kr ZT 23 (.str a) (some (.i 1)) none none)) (.str d)) (jA qmk (some 1) none c)) az) ?_);refine Goes.ret ?_;obtain rfl:=si h;exact(gw2 [.str d] (Ua tS))
 refine Goes.skip ?_;refine sh fol [(2,.str a)] ?_;refine Goes.ret ?_;obtain rfl:=si h;exact(gw2 [.str a] (Ua tS))
def qdO (N:Nat) (a:Str):Option Str:=
 (xm N a).bind fun b=>
 (cut a 0 b).bind fun c=>
 some c
theorem qgf (N:Nat) (a:Str) {res:Str} (h:qdO N a=some res):qd ZT (.fn 65) [.str a] [] (.str res) []:=by
 unfold qdO at h;refine Ub Tryz.func65 rfl rfl (m:=7) rfl (rs:=[.tmp 2]) rfl (l:=(kAI a)) rfl ?_;refine sh fol (kAI a) ?_;obtain⟨e,b,h⟩:=bnd h;obtain⟨d,c,h⟩:=bnd h;refine sq (gr fol [2,3] [(2,.str d)] (ac (cv (qaA N a b)) (ac (hs (.done (.opt (kr ZT 23 (.str a) none (some (.i e)) none)) (.str d)) (jA qmk none (some e) c)) az)) ?_);refine Goes.ret ?_;obtain rfl:=si h;exact(gw2 [.str d] (Ua tS))
def qdx (N:Nat) (a:Str):Option Str:=
 (xm N a).bind fun b=>
 if b=(a.length:Int)then
 some [49]
 else
 (cut a (w64 (b+1)) (a.length:Int)).bind fun c=>
 some c
theorem qky (N:Nat) (a:Str) {res:Str} (h:qdx N a=some res):qd ZT (.fn 66) [.str a] [] (.str res) []:=by
 unfold qdx at h;refine Ub Tryz.func66 rfl rfl (m:=14) rfl (rs:=[.tmp 2]) rfl (l:=(kAI a)) rfl ?_;refine sh fol (kAI a) ?_;obtain⟨b,c,h⟩:=bnd h;refine sq (gr fol [1] (kAB a b []) (ac (cv (qaA N a c)) az) ?_);refine sq ?_;refine sh fol (kAB a b [(9,.bool (decide (b=(a.length:Int))))]) ?_;refine ihD h (fun f h=>?_) (fun f h=>?_)
 ·refine sh fol [(2,.str [49])] ?_;refine Goes.ret ?_;obtain rfl:=si h;exact(gw2 [.str [49]] (Ua tS))
 refine Goes.skip ?_;obtain⟨e,d,h⟩:=bnd h;refine sq (gr fol [3] [(2,.str e)] (ac (hs (.done (.opt (kr ZT 23 (.str a) (some (.i (w64 (b+1)))) none none)) (.str e)) (jA qmk (some (w64 (b+1))) none d)) az) ?_);refine Goes.ret ?_;obtain rfl:=si h;exact(gw2 [.str e] (Ua tS))
def xE (N:Nat) (a:Str) (digits:Int):Option Bool:=
 (if(a.length:Int)<=(w64 ((w64 (2*digits))+2))then
 (yK N a).bind fun b=>
 if b=0 then
 (qdO N a).bind fun c=>
 (qdy c).bind fun d=>
 if(d.length:Int)<=digits then
 (qdx N a).bind fun e=>
 some (decide ((e.length:Int)<=digits))
 else
 some false
 else
 some false
 else
 some false:Option Bool).bind fun f=>
 some f
theorem zi (N:Nat) (a:Str) (digits:Int) {res:Bool} (h:xE N a digits=some res):qd ZT (.fn 14) [.str a,.i digits] [] (.bool res) []:=by
 unfold xE at h;refine Ub Tryz.func14 rfl rfl (m:=31) rfl (rs:=[.tmp 4]) rfl (l:=(kA4 a [(1,.i digits)])) rfl ?_;refine sh fol (kA4 a [(1,.i digits)]) ?_;refine sq ?_;obtain⟨n,b,h⟩:=bnd h;refine Goes.cut (s':=(ofG 31 (kBQ n),[])) ?_ ?_
 ·rcases wyD b with⟨f,b⟩|⟨f,b⟩
  ·obtain⟨q,c,b⟩:=bnd b;rcases wyD b with⟨j,b⟩|⟨j,b⟩
   ·obtain⟨o,d,b⟩:=bnd b;obtain⟨r,e,b⟩:=bnd b;rcases wyD b with⟨k,b⟩|⟨k,b⟩
    ·obtain⟨p,g,b⟩:=bnd b;obtain rfl:=si b;exact tr fol [6,8,11,13,14,19,21] (kBQ (decide ((p.length:Int)<=digits))) (ac (gw f) (ac (cv (yU N a c)) (ac (gw j) (ac (cv (qgf N a d)) (ac (cv (qgy o e)) (ac (gw k) (ac (cv (qky N a g)) az)))))))
    obtain rfl:=si b;exact tr fol [6,8,11,13,14,19] [(4,.bool false)] (ac (gw f) (ac (cv (yU N a c)) (ac (gw j) (ac (cv (qgf N a d)) (ac (cv (qgy o e)) (ac (gw k) az))))))
   obtain rfl:=si b;exact tr fol [6,8,11] [(4,.bool false)] (ac (gw f) (ac (cv (yU N a c)) (ac (gw j) az)))
  obtain rfl:=si b;exact tr fol [6] [(4,.bool false)] (ac (gw f) az)
 refine Goes.ret ?_;obtain rfl:=si h;exact(gw2 [.bool n] (Ua tB))
def vX (N:Nat) (a:Str):Option (Int×Int×Bool):=
 if(a.length:Int)>20 then
 some (0,0,false)
 else
 (if(a.length:Int)>0 then
 (idx a 0).bind fun l=>
 some (decide ((l.toNat:Int)=45))
 else
 some false:Option Bool).bind fun k=>
 ((if k=true then
 (cut a 1 (a.length:Int)).bind fun m=>
 some m
 else
 some a:Option Str)).bind fun c=>
 (xm N c).bind fun b=>
 (if b>9 then
 some true
 else
 some (decide ((w64 ((c.length:Int)-b))>10)):Option Bool).bind fun e=>
 if e=true then
 some (0,0,false)
 else
 (cut c 0 b).bind fun f=>
 (xW N f).bind fun d=>
 ((if b<(c.length:Int)then
 (cut c (w64 (b+1)) (c.length:Int)).bind fun g=>
 (xW N g).bind fun h=>
 some h
 else
 some 1:Option Int)).bind fun i=>
 ((if k=true then
 some (w64 (0-d))
 else
 some d:Option Int)).bind fun j=>
 some (j,i,true)
theorem qbs (N:Nat) (a:Str) {res:Int×Int×Bool} (h:vX N a=some res):qd ZT (.fn 69) [.str a] [] (.tuple [.i res.1,.i res.2.1,.bool res.2.2]) []:=by
 unfold vX at h;refine Ub Tryz.func69 rfl rfl (m:=54) rfl (rs:=[.tmp 2,.tmp 3,.tmp 4]) rfl (l:=(kAI a)) rfl ?_;refine sh fol (kAI a) ?_;refine sh fol [(5,.str a)] ?_;refine sq ?_;refine sh fol ((5,.str a)::(kBE (decide ((a.length:Int)>20)))) ?_;refine ihD h (fun I h=>?_) (fun I h=>?_)
 ·refine sh fol [(2,.i 0),(3,.i 0),(4,.bool false)] ?_;refine Goes.ret ?_;obtain rfl:=si h;exact(gw2 [.i 0,.i 0,.bool false] (FzW.tuple (qj.cons (Ua tI) (qj.cons (Ua tI) (qj.cons (Ua tB) qj.nil)))))
 refine Goes.skip ?_;refine sq ?_;obtain⟨f,c,h⟩:=bnd h;refine Goes.cut (s':=(ofG 54 (kA5 a f []),[])) ?_ ?_
 ·rcases wyD c with⟨y,c⟩|⟨y,c⟩
  ·obtain⟨G,t,c⟩:=bnd c;obtain rfl:=si c;exact tr fol [3,5] (kA5 a (decide ((G.toNat:Int)=45)) []) (ac (gw y) (ac (hs (.done (.opt (yV ZT 9 (.str a) (.i 0))) (.int .u8 (G.toNat:Int))) (qau st9 t)) az))
  obtain rfl:=si c;exact tr fol [3] ((5,.str a)::kBT) (ac (gw y) az)
 refine sq ?_;refine sh fol (kA5 a f [(22,.bool f)]) ?_;obtain⟨J,g7,h⟩:=bnd h;refine Goes.imp (Q:=fun x s'=>(x= .normal/\ ∃g,g=J/\Sub s' (ofG 54 (kA5 g f []),[]))) ?_ ?_
 ·refine ihB g7 (fun K g7=>?_) (fun K g7=>?_)
  ·obtain⟨H,u,g7⟩:=bnd g7;refine gr fol [1] (kA5 H f []) (ac (hs (.done (.opt (kr ZT 9 (.str a) (some (.i 1)) none none)) (.str H)) (jA st9 (some 1) none u)) az) ?_;obtain rfl:=si g7;exact⟨rfl,_,rfl,(Sub.refl _)⟩
  refine Goes.skip ?_;obtain rfl:=si g7;exact⟨rfl,_,rfl,(Sub.keep [5,6] rfl rfl)⟩
 rintro x s' ⟨rfl,g,rfl,hsub⟩;refine Goes.sub hsub ?_;obtain⟨b,n,h⟩:=bnd h;refine sq (gr fol [1] (kA5 g f [(7,.i b)]) (ac (cv (qaA N g n)) az) ?_);refine sq ?_;refine sq ?_;obtain⟨z,d,h⟩:=bnd h;refine Goes.cut (s':=(ofG 54 (kA5 g f [(7,.i b),(35,.bool z)]),[])) ?_ ?_
 ·rcases wyD d with⟨o,d⟩|⟨o,d⟩
  ·obtain rfl:=si d;exact tr fol [2] (kA5 g f [(7,.i b),(35,.bool true)]) (ac (gw o) az)
  obtain rfl:=si d;exact tr fol [2] (kA5 g f [(7,.i b),(35,.bool (decide ((w64 ((g.length:Int)-b))>10)))]) (ac (gw o) az)
 refine ihB h (fun A h=>?_) (fun A h=>?_)
 ·refine sh fol [(2,.i 0),(3,.i 0),(4,.bool false)] ?_;refine Goes.ret ?_;obtain rfl:=si h;exact(gw2 [.i 0,.i 0,.bool false] (FzW.tuple (qj.cons (Ua tI) (qj.cons (Ua tI) (qj.cons (Ua tB) qj.nil)))))
 refine Goes.skip ?_;obtain⟨v,p,h⟩:=bnd h;obtain⟨j,q,h⟩:=bnd h;refine sq (gr fol [2,3] (kA5 g f [(7,.i b),(8,.i j),(9,.i 1)]) (ac (hs (.done (.opt (kr ZT 9 (.str g) none (some (.i b)) none)) (.str v)) (jA st9 none (some b) p)) (ac (cv (qbA N v q)) az)) ?_);refine sq ?_;refine sh fol (kA5 g f [(7,.i b),(8,.i j),(9,.i 1),(43,.bool (decide (b<(g.length:Int))))]) ?_;obtain⟨B,g18,h⟩:=bnd h;refine Goes.imp (Q:=fun x s'=>(x= .normal/\ ∃e,e=B/\Sub s' (ofG 54 ((6,.bool f)::(kAr j e [])),[]))) ?_ ?_
 ·refine ihD g18 (fun C g18=>?_) (fun C g18=>?_)
  ·obtain⟨w,r,g18⟩:=bnd g18;obtain⟨D,s,g18⟩:=bnd g18;refine gr fol [3,4] ((6,.bool f)::(kAr j D [])) (ac (hs (.done (.opt (kr ZT 9 (.str g) (some (.i (w64 (b+1)))) none none)) (.str w)) (jA st9 (some (w64 (b+1))) none r)) (ac (cv (qbA N w s)) az)) ?_;obtain rfl:=si g18;exact⟨rfl,_,rfl,(Sub.refl _)⟩
  refine Goes.skip ?_;obtain rfl:=si g18;exact⟨rfl,_,rfl,(Sub.keep [6,8,9] rfl rfl)⟩
 rintro x s' ⟨rfl,e,rfl,hsub⟩;refine Goes.sub hsub ?_;refine sq ?_;refine sh fol (kAr j e [(49,.bool f)]) ?_;obtain⟨E,g23,h⟩:=bnd h;refine Goes.imp (Q:=fun x s'=>(x= .normal/\ ∃k,k=E/\Sub s' (ofG 54 (kAr k e []),[]))) ?_ ?_
 ·refine ihB g23 (fun F g23=>?_) (fun F g23=>?_)
  ·refine gh fol (kAr (w64 (0-j)) e []) ?_;obtain rfl:=si g23;exact⟨rfl,_,rfl,(Sub.refl _)⟩
  refine Goes.skip ?_;obtain rfl:=si g23;exact⟨rfl,_,rfl,(Sub.keep [8,9] rfl rfl)⟩
 rintro x s' ⟨rfl,k,rfl,hsub⟩;refine Goes.sub hsub ?_;refine sh fol [(2,.i k),(3,.i e),(4,.bool true)] ?_;refine Goes.ret ?_;obtain rfl:=si h;exact(gw2 [.i k,.i e,.bool true] (FzW.tuple (qj.cons (Ua tI) (qj.cons (Ua tI) (qj.cons (Ua tB) qj.nil)))))
def xQ (N:Nat) (a:qM):Option qM:=
 (ja N (!a.neg) a.w).bind fun b=>
 some b
theorem qff (N:Nat) (a:qM) {res:qM} (h:xQ N a=some res):qd ZT (.fn 137) [.agg (kAh a.neg a.w)] [] (.agg (kAh res.neg res.w)) []:=by
 unfold xQ at h;refine Ub Tryz.func137 rfl rfl (m:=9) rfl (rs:=[.cell 2 126]) rfl (l:=[(0,.agg [.bool a.neg,vl encI a.w])]) rfl ?_;refine sg fol (kX kAp) (kAW a.neg a.w (kP [])) ?_;obtain⟨c,b,h⟩:=bnd h;refine sq (gq fol [5] kAp (kL a.neg a.w c.neg c.w []) (ac (cv (jw N (!a.neg) a.w b)) az) ?_);refine Goes.ret ?_;obtain rfl:=si h;exact(gw2 [.agg (kAh c.neg c.w)] (FzW.agg (qj.cons (Ua tB) (qj.cons (Ua (qA encI _ (nl rfl))) qj.nil))))
def qX (least:Int):Nat->Int->Str->Option Str
 |0,_,_=>none
 |K+1,a,b=>
  (if a>0 then
  some true
  else
  some (decide ((b.length:Int)<least)):Option Bool).bind fun d=>
  if d=true then
  (cut [48,49,50,51,52,53,54,55,56,57] (a.tmod 10) (w64 ((a.tmod 10)+1))).bind fun e=>
  (cat e b).bind fun c=>
  qX least K (w64 (a.tdiv 10)) c
  else
  some b
def zY (N:Nat) (n:Int) (least:Int):Option Str:=
 (qX least N n []).bind fun a=>
 some a
theorem qaT (N:Nat) (n:Int) (least:Int) {res:Str} (h:zY N n least=some res):qd ZT (.fn 135) [.i n,.i least] [] (.str res) []:=by
 unfold zY at h;refine Ub Tryz.func135 rfl rfl (m:=25) rfl (rs:=[.tmp 4]) rfl (l:=(kAQ n least [])) rfl ?_;refine sh fol (kAQ n least []) ?_;refine sh fol (kAQ n least [(5,.str [])]) ?_;refine sq (Goes.block ?_);obtain⟨k,g4,h⟩:=bnd h;refine Goes.imp (Q:=fun x s'=>(x= .exit 0/\ ∃f,f=k/\Sub s' (ofG 25 [(5,.str f)],[]))) ?_ ?_
 ·refine Uc (fun M s=> ∃(b:Int) (d:Str),s=(ofG 25 (kAQ b least [(5,.str d)]),[])/\qX least M b d=some k) ?_ (m:=N) ⟨_,_,rfl,g4⟩;rintro M s ⟨b,d,rfl,g4⟩
  cases M with
  |zero=>simp only[qX]at g4;cases g4
  |succ M=>
   rw[qX]at g4;refine sq ?_;refine sq ?_;obtain⟨p,a,g4⟩:=bnd g4;refine Goes.cut (s':=(ofG 25 (kAQ b least ((5,.str d)::(kBE p))),[])) ?_ ?_
   ·rcases wyD a with⟨j,a⟩|⟨j,a⟩
    ·obtain rfl:=si a;exact tr fol [2] (kAQ b least [(5,.str d),(13,.bool true)]) (ac (gw j) az)
    obtain rfl:=si a;exact tr fol [2] (kAQ b least ((5,.str d)::(kBE (decide ((d.length:Int)<least))))) (ac (gw j) az)
   refine ihB g4 (fun q g4=>?_) (fun q g4=>?_)
   ·refine Goes.skip ?_;refine Goes.block ?_;obtain⟨o,g,g4⟩:=bnd g4;obtain⟨c,e,g4⟩:=bnd g4;refine sq (gr fol [5,7] (kAQ b least [(5,.str c)]) (ac (hs (.done (.opt (kr ZT 9 (.str [48,49,50,51,52,53,54,55,56,57]) (some (.i (b.tmod 10))) (some (.i (w64 ((b.tmod 10)+1)))) none)) (.str o)) (jA st9 (some (b.tmod 10)) (some (w64 ((b.tmod 10)+1))) g)) (ac (hs (.done (.opt (ze ZT .add 9 (.tmp 19) (.tmp 20) (.str o) (.str d))) (.str c)) (qbc e)) az)) ?_);refine gh fol (kAQ (w64 (b.tdiv 10)) least [(5,.str c)]) ?_;exact⟨M,(ofG 25 (kAQ (w64 (b.tdiv 10)) least [(5,.str c)]),[]),Nat.lt_succ_self _,(Sub.refl _),_,_,rfl,g4⟩
   refine Goes.exit ?_;obtain rfl:=si g4;exact⟨rfl,_,rfl,(Sub.keep [5] rfl rfl)⟩
 rintro x s' ⟨rfl,f,rfl,hsub⟩;refine Goes.sub hsub ?_;refine sh fol (kBb f) ?_;refine Goes.ret ?_;obtain rfl:=si h;exact(gw2 [.str f] (Ua tS))
def yG (N:Nat) (a:qM):Nat->Str->Int->Option Str
 |0,_,_=>none
 |K+1,e,b=>
  if b>=0 then
  (idx a.w b).bind fun f=>
  (zY N f 9).bind fun c=>
  (cat e c).bind fun d=>
  yG N a K d (w64 (b-1))
  else
  some e
def qbN (N:Nat) (a:qM):Option Str:=
 if(a.w.length:Int)=0 then
 some [48]
 else
 (idx a.w (w64 ((a.w.length:Int)-1))).bind fun d=>
 (zY N d 1).bind fun e=>
 (yG N a N e (w64 ((a.w.length:Int)-2))).bind fun c=>
 if a.neg=true then
 (cat [45] c).bind fun b=>
 some b
 else
 some c
theorem qfN (N:Nat) (a:qM) {res:Str} (h:qbN N a=some res):qd ZT (.fn 139) [.agg (kAh a.neg a.w)] [] (.str res) []:=by
 unfold qbN at h;refine Ub Tryz.func139 rfl rfl (m:=39) rfl (rs:=[.tmp 2]) rfl (l:=[(0,.agg [.bool a.neg,vl encI a.w])]) rfl ?_;refine sg fol (kX []) (kAW a.neg a.w []) ?_;refine sq ?_;refine sh fol (kX (kBY (decide ((a.w.length:Int)=0)))) ?_;refine ihD h (fun u h=>?_) (fun u h=>?_)
 ·refine sh fol [(2,.str [48])] ?_;refine Goes.ret ?_;obtain rfl:=si h;exact(gw2 [.str [48]] (Ua tS))
 refine Goes.skip ?_;obtain⟨v,c,h⟩:=bnd h;obtain⟨r,n,h⟩:=bnd h;refine sq (gr fol [6,7,8] (kX [(3,.str r)]) (ac (iv vZ encI c) (ac (lv 0 ce3 encI c rfl) (ac (cv (qaT N v 1 n)) az))) ?_);refine sq ?_;refine sh fol (kX (kAm r (w64 ((a.w.length:Int)-2)) [])) ?_;refine Goes.block ?_;obtain⟨t,g7,h⟩:=bnd h;refine Goes.imp (Q:=fun x s'=>(x= .exit 0/\ ∃f,f=t/\Sub s' (ofG 39 (kX [(3,.str f)]),(kAW a.neg a.w [])))) ?_ ?_
 ·refine Uc (fun M s=> ∃(o:Str) (d:Int),s=(ofG 39 (kX (kAm o d [])),(kAW a.neg a.w []))/\yG N a M o d=some t) ?_ (m:=N) ⟨_,_,rfl,g7⟩;rintro M s ⟨o,d,rfl,g7⟩
  cases M with
  |zero=>simp only[yG]at g7;cases g7
  |succ M=>
   rw[yG]at g7;refine sq ?_;refine sh fol (kX (kAm o d [(23,.bool (decide (d>=0)))])) ?_;refine ihD g7 (fun y g7=>?_) (fun y g7=>?_)
   ·refine Goes.skip ?_;refine sq (Goes.block ?_);obtain⟨z,e,g7⟩:=bnd g7;obtain⟨p,g,g7⟩:=bnd g7;obtain⟨b,i,g7⟩:=bnd g7;refine gr fol [4,5,6,7] (kX (kAm b d [])) (ac (iv vZ encI e) (ac (lv 0 ce3 encI e rfl) (ac (cv (qaT N z 9 g)) (ac (hs (.done (.opt (ze ZT .add 9 (.tmp 26) (.tmp 32) (.str o) (.str p))) (.str b)) (qbc i)) az)))) ?_;refine gh fol (kX (kAm b (w64 (d-1)) [])) ?_;exact⟨M,(ofG 39 (kX (kAm b (w64 (d-1)) [])),(kAW a.neg a.w [])),Nat.lt_succ_self _,(Sub.refl _),_,_,rfl,g7⟩
   refine Goes.exit ?_;obtain rfl:=si g7;exact⟨rfl,_,rfl,(Sub.keep [1,3] rfl rfl)⟩
 rintro x s' ⟨rfl,f,rfl,hsub⟩;refine Goes.sub hsub ?_;refine sq ?_;refine sh fol [(3,.str f),(35,.bool a.neg)] ?_;refine ihB h (fun q h=>?_) (fun q h=>?_)
 ·obtain⟨j,k,h⟩:=bnd h;refine sq (gr fol [1] [(2,.str j)] (ac (hs (.done (.opt (ze ZT .add 9 (.const (.string ⟨#[45]⟩)) (.tmp 36) (.str [45]) (.str f))) (.str j)) (qbc k)) az) ?_);refine Goes.ret ?_;obtain rfl:=si h;exact(gw2 [.str j] (Ua tS))
 refine Goes.skip ?_;refine sh fol [(2,.str f)] ?_;refine Goes.ret ?_;obtain rfl:=si h;exact(gw2 [.str f] (Ua tS))
def vT (N:Nat) (n:qM) (d:qM):Option Str:=
 ((if d.neg=true then
 (xQ N n).bind fun l=>
 (xQ N d).bind fun m=>
 some (l.neg,l.w,m.neg,m.w)
 else
 some (n.neg,n.w,d.neg,d.w):Option (Bool×(List Int)×Bool×(List Int)))).bind fun(r,o,s,p)=>
 (qaX N o p).bind fun q=>
 (ve N o q).bind fun c=>
 (ve N p q).bind fun a=>
 (ja N r c.1).bind fun e=>
 (qbN N e).bind fun b=>
 (if(a.1.length:Int)=1 then
 (idx a.1 0).bind fun f=>
 some (decide (f=1))
 else
 some false:Option Bool).bind fun g=>
 if g=true then
 some b
 else
 (cat b [47]).bind fun h=>
 (ja N false a.1).bind fun i=>
 (qbN N i).bind fun j=>
 (cat h j).bind fun k=>
 some k
theorem qap (N:Nat) (n:qM) (d:qM) {res:Str} (h:vT N n d=some res):qd ZT (.fn 72) (kAt n.neg n.w d.neg d.w) [] (.str res) []:=by
 unfold vT at h;refine Ub Tryz.func72 rfl rfl (m:=57) rfl (rs:=[.tmp 4]) rfl (l:=[(0,.agg [.bool n.neg,vl encI n.w]),(1,.agg [.bool d.neg,vl encI d.w])]) rfl ?_;refine sg fol (kU (kAV [])) (kL n.neg n.w d.neg d.w []) ?_;refine sq ?_;refine sh fol (kU (kAV (kA0 d.neg))) ?_;obtain⟨O,g5,h⟩:=bnd h;refine Goes.imp (Q:=fun x s'=>(x= .normal/\ ∃y u D v,(y,u,D,v)=O/\Sub s' (ofG 57 (kU (kAV [])),(kL y u D v [])))) ?_ ?_
 ·refine ihB g5 (fun P g5=>?_) (fun P g5=>?_)
  ·obtain⟨L,z,g5⟩:=bnd g5;obtain⟨M,A,g5⟩:=bnd g5;refine gq fol [1,3] (kU (kAV [])) (kL L.neg L.w M.neg M.w []) (ac (cv (qff N n z)) (ac (cv (qff N d A)) az)) ?_;obtain rfl:=si g5;exact⟨rfl,_,_,_,_,rfl,(Sub.refl _)⟩
  refine Goes.skip ?_;obtain rfl:=si g5;exact⟨rfl,_,_,_,_,rfl,(Sub.keep [2,3] rfl rfl)⟩
 rintro x s' ⟨rfl,y,u,D,v,rfl,hsub⟩
 try dsimp only at h
 refine Goes.sub hsub ?_;obtain⟨E,B,h⟩:=bnd h;refine sq (gr fol [4] (kU (kAV (kBJ E []))) (ac (cv (qew N u v B)) az) ?_);obtain⟨f,g,h⟩:=bnd h;refine sq (gr fol [3] (kU (kAV (kBJ E [(6,vl encI f.1)]))) (ac (cv (qbg N u E g)) az) ?_);obtain⟨c,i,h⟩:=bnd h;refine sq (gr fol [3] (kU [(6,vl encI f.1),(8,vl encI c.1)]) (ac (cv (qbg N v E i)) az) ?_);obtain⟨F,j,h⟩:=bnd h;obtain⟨b,k,h⟩:=bnd h;refine sq (gr fol [3,4] [(8,vl encI c.1),(10,.str b)] (ac (cv (jw N y f.1 j)) (ac (cv (qfN N F k)) az)) ?_);refine sq ?_;refine sq ?_;obtain⟨G,a,h⟩:=bnd h;refine Goes.cut (s':=(ofG 57 [(8,vl encI c.1),(10,.str b),(49,.bool G)],(kL y u D v []))) ?_ ?_
 ·rcases wyD a with⟨o,a⟩|⟨o,a⟩
  ·obtain⟨H,e,a⟩:=bnd a;obtain rfl:=si a;exact tr fol [3,5,6] [(8,vl encI c.1),(10,.str b),(49,.bool (decide (H=1)))] (ac (gw o) (ac (iv vZ encI e) (ac (lv 0 ce3 encI e rfl) az)))
  obtain rfl:=si a;exact tr fol [3] [(8,vl encI c.1),(10,.str b),(49,.bool false)] (ac (gw o) az)
 refine ihB h (fun I h=>?_) (fun I h=>?_)
 ·refine sh fol (kBb b) ?_;refine Goes.ret ?_;obtain rfl:=si h;exact(gw2 [.str b] (Ua tS))
 refine Goes.skip ?_;obtain⟨C,p,h⟩:=bnd h;obtain⟨J,q,h⟩:=bnd h;obtain⟨K,r,h⟩:=bnd h;obtain⟨s,t,h⟩:=bnd h;refine sq (gr fol [1,3,4,5] (kBb s) (ac (hs (.done (.opt (ze ZT .add 9 (.tmp 51) (.const (.string ⟨#[47]⟩)) (.str b) (.str [47]))) (.str C)) (qbc p)) (ac (cv (jw N false c.1 q)) (ac (cv (qfN N J r)) (ac (hs (.done (.opt (ze ZT .add 9 (.tmp 52) (.tmp 55) (.str C) (.str K))) (.str s)) (qbc t)) az)))) ?_);refine Goes.ret ?_;obtain rfl:=si h;exact(gw2 [.str s] (Ua tS))
def vK:Nat->Int->Int->Option Int
 |0,_,_=>none
 |K+1,b,a=>
  if a>0 then
  (qeP .i64 b a).bind fun c=>
  vK K a c
  else
  some b
def qdL (N:Nat) (a:Int) (b:Int):Option Int:=
 (vK N a b).bind fun c=>
 some c
theorem qkw (N:Nat) (a:Int) (b:Int) {res:Int} (h:qdL N a b=some res):qd ZT (.fn 134) [.i a,.i b] [] (.i res) []:=by
 unfold qdL at h;refine Ub Tryz.func134 rfl rfl (m:=12) rfl (rs:=[.tmp 4]) rfl (l:=(kAQ a b [])) rfl ?_;refine sh fol (kAQ a b []) ?_;refine sq (Goes.block ?_);obtain⟨j,g4,h⟩:=bnd h;refine Goes.imp (Q:=fun x s'=>(x= .exit 0/\ ∃d,d=j/\Sub s' (ofG 12 [(0,.i d)],[]))) ?_ ?_
 ·refine Uc (fun M s=> ∃(e:Int) (c:Int),s=(ofG 12 (kAQ e c []),[])/\vK M e c=some j) ?_ (m:=N) ⟨_,_,rfl,g4⟩;rintro M s ⟨e,c,rfl,g4⟩
  cases M with
  |zero=>simp only[vK]at g4;cases g4
  |succ M=>
   rw[vK]at g4;refine sq ?_;refine sh fol (kAQ e c [(6,.bool (decide (c>0)))]) ?_;refine ihD g4 (fun k g4=>?_) (fun k g4=>?_)
   ·refine Goes.skip ?_;refine Goes.block ?_;obtain⟨g,f,g4⟩:=bnd g4;refine gr fol [3] (kAQ c g []) (ac (hs (.done (.opt (ze ZT .rem 3 (.tmp 8) (.tmp 9) (.i e) (.i c))) (.i g)) (qga f)) az) ?_;exact⟨M,(ofG 12 (kAQ c g []),[]),Nat.lt_succ_self _,(Sub.refl _),_,_,rfl,g4⟩
   refine Goes.exit ?_;obtain rfl:=si g4;exact⟨rfl,_,rfl,(Sub.keep [0] rfl rfl)⟩
 rintro x s' ⟨rfl,d,rfl,hsub⟩;refine Goes.sub hsub ?_;refine sh fol (kBZ d) ?_;refine Goes.ret ?_;obtain rfl:=si h;exact(gw2 [.i d] (Ua tI))
def qdA (N:Nat) (num:Int) (den:Int):Option Str:=
 (if num<(-4000000000000000000)then
 some true
 else
 if num>4000000000000000000 then
 some true
 else
 if den<(-4000000000000000000)then
 some true
 else
 some (decide (den>4000000000000000000)):Option Bool).bind fun m=>
 if m=true then
 (qaw N num).bind fun n=>
 (qaw N den).bind fun o=>
 (vT N n o).bind fun p=>
 some p
 else
 ((if den<0 then
 some (w64 (0-num),w64 (0-den))
 else
 some (num,den):Option (Int×Int))).bind fun(a,c)=>
 (qdL N (if(w64 (0-a))>a then(w64 (0-a))else a) c).bind fun d=>
 (qcJ .i64 a d).bind fun b=>
 (qcJ .i64 c d).bind fun e=>
 ((if b<0 then
 some [45]
 else
 some []:Option Str)).bind fun g=>
 (zY N (if(w64 (0-b))>b then(w64 (0-b))else b) 1).bind fun h=>
 (cat g h).bind fun f=>
 ((if e>1 then
 (cat f [47]).bind fun i=>
 (zY N e 1).bind fun j=>
 (cat i j).bind fun k=>
 some k
 else
 some f:Option Str)).bind fun l=>
 some l
theorem qhf (N:Nat) (num:Int) (den:Int) {res:Str} (h:qdA N num den=some res):qd ZT (.fn 70) [.i num,.i den] [] (.str res) []:=by
 unfold qdA at h;refine Ub Tryz.func70 rfl rfl (m:=61) rfl (rs:=[.tmp 4]) rfl (l:=(kAQ num den [])) rfl ?_;refine sh fol (kAQ num den []) ?_;refine sq ?_;refine sq ?_;obtain⟨O,a,h⟩:=bnd h;refine Goes.cut (s':=(ofG 61 (kAQ num den [(20,.bool O)]),[])) ?_ ?_
 ·rcases wyD a with⟨v,a⟩|⟨v,a⟩
  ·obtain rfl:=si a;exact tr fol [2] (kAQ num den [(20,.bool true)]) (ac (gw v) az)
  rcases wyD a with⟨C,a⟩|⟨C,a⟩
  ·obtain rfl:=si a;exact tr fol [2,6] (kAQ num den [(20,.bool true)]) (ac (gw v) (ac (gw C) az))
  rcases wyD a with⟨D,a⟩|⟨D,a⟩
  ·obtain rfl:=si a;exact tr fol [2,6,10] (kAQ num den [(20,.bool true)]) (ac (gw v) (ac (gw C) (ac (gw D) az)))
  obtain rfl:=si a;exact tr fol [2,6,10] (kAQ num den [(20,.bool (decide (den>4000000000000000000)))]) (ac (gw v) (ac (gw C) (ac (gw D) az)))
 refine ihB h (fun P h=>?_) (fun P h=>?_)
 ·obtain⟨U,w,h⟩:=bnd h;obtain⟨V,y,h⟩:=bnd h;obtain⟨M,z,h⟩:=bnd h;refine sq (gr fol [1,3,4] (kBb M) (ac (cv (qcN N num w)) (ac (cv (qcN N den y)) (ac (cv (qap N U V z)) az))) ?_);refine Goes.ret ?_;obtain rfl:=si h;exact(gw2 [.str M] (Ua tS))
 refine Goes.skip ?_;refine sq ?_;refine sh fol (kAQ num den [(27,.bool (decide (den<0)))]) ?_;obtain⟨E,g12,h⟩:=bnd h;refine Goes.imp (Q:=fun x s'=>(x= .normal/\ ∃d e,(d,e)=E/\Sub s' (ofG 61 (kAQ d e []),[]))) ?_ ?_
 ·refine ihD g12 (fun F g12=>?_) (fun F g12=>?_)
  ·refine gh fol (kAQ (w64 (0-num)) (w64 (0-den)) []) ?_;obtain rfl:=si g12;exact⟨rfl,_,_,rfl,(Sub.refl _)⟩
  refine Goes.skip ?_;obtain rfl:=si g12;exact⟨rfl,_,_,rfl,(Sub.keep [0,1] rfl rfl)⟩
 rintro x s' ⟨rfl,d,e,rfl,hsub⟩
 try dsimp only at h
 refine Goes.sub hsub ?_;obtain⟨k,n,h⟩:=bnd h;refine sq (gr fol [5] (kAQ d e (kA8 k)) (ac (cv (qkw N (if(w64 (0-d))>d then(w64 (0-d))else d) e n)) az) ?_);obtain⟨b,o,h⟩:=bnd h;obtain⟨c,p,h⟩:=bnd h;refine sq (gr fol [2,5] (kAQ b c []) (ac (hs (.done (.opt (ze ZT .quo 3 (.tmp 38) (.tmp 39) (.i d) (.i k))) (.i b)) (qcq o)) (ac (hs (.done (.opt (ze ZT .quo 3 (.tmp 41) (.tmp 42) (.i e) (.i k))) (.i c)) (qcq p)) az)) ?_);refine sh fol (kAQ b c [(6,.str [])]) ?_;refine sq ?_;refine sh fol (kAQ b c [(6,.str []),(45,.bool (decide (b<0)))]) ?_;obtain⟨G,g18,h⟩:=bnd h;refine Goes.imp (Q:=fun x s'=>(x= .normal/\ ∃g,g=G/\Sub s' (ofG 61 (kAQ b c [(6,.str g)]),[]))) ?_ ?_
 ·refine ihD g18 (fun H g18=>?_) (fun H g18=>?_)
  ·refine gh fol (kAQ b c [(6,.str [45])]) ?_;obtain rfl:=si g18;exact⟨rfl,_,rfl,(Sub.refl _)⟩
  refine Goes.skip ?_;obtain rfl:=si g18;exact⟨rfl,_,rfl,(Sub.keep [0,1,6] rfl rfl)⟩
 rintro x s' ⟨rfl,g,rfl,hsub⟩;refine Goes.sub hsub ?_;obtain⟨I,q,h⟩:=bnd h;obtain⟨j,r,h⟩:=bnd h;refine sq (gr fol [5,6] [(1,.i c),(6,.str j)] (ac (cv (qaT N (if(w64 (0-b))>b then(w64 (0-b))else b) 1 q)) (ac (hs (.done (.opt (ze ZT .add 9 (.tmp 46) (.tmp 51) (.str g) (.str I))) (.str j)) (qbc r)) az)) ?_);refine sq ?_;refine sh fol [(1,.i c),(6,.str j),(54,.bool (decide (c>1)))] ?_;obtain⟨J,g23,h⟩:=bnd h;refine Goes.imp (Q:=fun x s'=>(x= .normal/\ ∃f,f=J/\Sub s' (ofG 61 [(6,.str f)],[]))) ?_ ?_
 ·refine ihD g23 (fun K g23=>?_) (fun K g23=>?_)
  ·obtain⟨A,s,g23⟩:=bnd g23;obtain⟨L,t,g23⟩:=bnd g23;obtain⟨B,u,g23⟩:=bnd g23;refine gr fol [1,3,4] [(6,.str B)] (ac (hs (.done (.opt (ze ZT .add 9 (.tmp 55) (.const (.string ⟨#[47]⟩)) (.str j) (.str [47]))) (.str A)) (qbc s)) (ac (cv (qaT N c 1 t)) (ac (hs (.done (.opt (ze ZT .add 9 (.tmp 56) (.tmp 58) (.str A) (.str L))) (.str B)) (qbc u)) az))) ?_;obtain rfl:=si g23;exact⟨rfl,_,rfl,(Sub.refl _)⟩
  refine Goes.skip ?_;obtain rfl:=si g23;exact⟨rfl,_,rfl,(Sub.keep [6] rfl rfl)⟩
 rintro x s' ⟨rfl,f,rfl,hsub⟩;refine Goes.sub hsub ?_;refine sh fol (kBb f) ?_;refine Goes.ret ?_;obtain rfl:=si h;exact(gw2 [.str f] (Ua tS))
def qav (a:List Int) (i:Int):Option Int:=
 if i<(a.length:Int)then
 (idx a i).bind fun b=>
 some b
 else
 some 0
theorem qcW (a:List Int) (i:Int) {res:Int} (h:qav a i=some res):qd ZT (.fn 203) [vl encI a,.i i] [] (.i res) []:=by
 unfold qav at h;refine Ub Tryz.func203 rfl rfl (m:=13) rfl (rs:=[.tmp 4]) rfl (l:=(kAi a i [])) rfl ?_;refine sh fol (kAi a i []) ?_;refine sq ?_;refine sh fol (kAi a i (kBY (decide (i<(a.length:Int))))) ?_;refine ihD h (fun d h=>?_) (fun d h=>?_)
 ·obtain⟨c,b,h⟩:=bnd h;refine sq (gr fol [2,3] (kBZ c) (ac (iv vZ encI b) (ac (lv 0 ce3 encI b rfl) az)) ?_);refine Goes.ret ?_;obtain rfl:=si h;exact(gw2 [.i c] (Ua tI))
 refine Goes.skip ?_;refine sh fol [(4,.i 0)] ?_;refine Goes.ret ?_;obtain rfl:=si h;exact(gw2 [.i 0] (Ua tI))
def zU (a:List Int) (b:List Int):Nat->(List Int)->Int->Int->Option (List Int)
 |0,_,_,_=>none
 |K+1,h,f,c=>
  (if c<(a.length:Int)then
  some true
  else
  if c<(b.length:Int)then
  some true
  else
  some (decide (f>0)):Option Bool).bind fun i=>
  if i=true then
  (qav a c).bind fun d=>
  (qav b c).bind fun e=>
  (app 8 h [(w64 ((w64 (d+e))+f)).tmod 1000000000]).bind fun g=>
  zU a b K g (w64 ((w64 ((w64 (d+e))+f)).tdiv 1000000000)) (w64 (c+1))
  else
  some h
def qad (N:Nat) (a:List Int) (b:List Int):Option (List Int):=
 (zU a b N ([]:List Int) 0 0).bind fun c=>
 some c
theorem qfY (N:Nat) (a:List Int) (b:List Int) {res:List Int} (h:qad N a b=some res):qd ZT (.fn 141) (kBO a b) [] (vl encI res) []:=by
 unfold qad at h;refine Ub Tryz.func141 rfl rfl (m:=42) rfl (rs:=[.tmp 4]) rfl (l:=(kH a b [])) rfl ?_;refine sh fol (kH a b []) ?_;refine sh fol (kH a b [(5,.nilslice)]) ?_;refine sh fol (kH a b [(5,.nilslice),(6,.i 0)]) ?_;refine sq ?_;refine sh fol (kH a b [(5,.nilslice),(6,.i 0),(7,.i 0)]) ?_;refine Goes.block ?_;obtain⟨v,g5,h⟩:=bnd h;refine Goes.imp (Q:=fun x s'=>(x= .exit 0/\ ∃q,q=v/\Sub s' (ofG 42 (kAN q []),(kD q [])))) ?_ ?_
 ·refine Goes.sub (s':=(ofG 42 (kH a b [(5,.gslice 0 ([]:List Int).length 1),(6,.i 0),(7,.i 0)]),kBC)) (Sub.norm [] [none] rfl rfl (.keep (.same (qg encI _)) (.keep (.same (qg encI _)) (.keep .nil (.keep (.same nI) (.keep (.same nI) .nil))))) (.fresh .nil)) ?_;refine Uc (fun M s=> ∃(k:List Int) (f:Int) (j:Int),s=(ofG 42 (kH a b (kAN k (kAJ f j []))),(kD k []))/\zU a b M k f j=some v) ?_ (m:=N) ⟨_,_,_,rfl,g5⟩;rintro M s ⟨k,f,j,rfl,g5⟩
  cases M with
  |zero=>simp only[zU]at g5;cases g5
  |succ M=>
   rw[zU]at g5;refine sq ?_;refine sq ?_;obtain⟨w,c,g5⟩:=bnd g5;refine Goes.cut (s':=(ofG 42 (kH a b (kAN k (kAJ f j [(22,.bool w)]))),(kD k []))) ?_ ?_
   ·rcases wyD c with⟨r,c⟩|⟨r,c⟩
    ·obtain rfl:=si c;exact tr fol [4] (kH a b (kAN k (kAJ f j [(22,.bool true)]))) (ac (gw r) az)
    rcases wyD c with⟨t,c⟩|⟨t,c⟩
    ·obtain rfl:=si c;exact tr fol [4,10] (kH a b (kAN k (kAJ f j [(22,.bool true)]))) (ac (gw r) (ac (gw t) az))
    obtain rfl:=si c;exact tr fol [4,10] (kH a b (kAN k (kAJ f j [(22,.bool (decide (f>0)))]))) (ac (gw r) (ac (gw t) az))
   refine ihB g5 (fun u g5=>?_) (fun u g5=>?_)
   ·refine Goes.skip ?_;refine sq (Goes.block ?_);obtain⟨d,n,g5⟩:=bnd g5;obtain⟨e,o,g5⟩:=bnd g5;refine sq (gr fol [2,5] (kH a b (kAN k (kA3 j (w64 ((w64 (d+e))+f))))) (ac (cv (qcW a j n)) (ac (cv (qcW b j o)) az)) ?_);obtain⟨g,p,g5⟩:=bnd g5;refine sq (gq fol [4] (kH a b ((5,.gslice 2 g.length 1)::(kA3 j (w64 ((w64 (d+e))+f))))) (kBG ((w64 ((w64 (d+e))+f)).tmod 1000000000) (kD g [])) (ac (hs (.run [0,1] (xC ZT [80,80] (.gslice 0 k.length 1) (.slice 1 0 1 1 1)) (kD k [.cells [.i ((w64 ((w64 (d+e))+f)).tmod 1000000000)]]) (.gslice 2 g.length 1) (kBG ((w64 ((w64 (d+e))+f)).tmod 1000000000) (kD g [])) true) (qbX vZ (E:=encI) rfl (qhO (E:=encI) (ys:=[(w64 ((w64 (d+e))+f)).tmod 1000000000]) rfl rfl rfl rfl) (qjK (E:=encI) (l:=k) rfl rfl rfl p rfl))) az) ?_);refine gh fol (kH a b ((5,.gslice 2 g.length 1)::(kAJ (w64 ((w64 ((w64 (d+e))+f)).tdiv 1000000000)) j []))) ?_;refine gh fol (kH a b ((5,.gslice 2 g.length 1)::(kAJ (w64 ((w64 ((w64 (d+e))+f)).tdiv 1000000000)) (w64 (j+1)) []))) ?_;exact⟨M,(ofG 42 (kH a b (kAN g (kAJ (w64 ((w64 ((w64 (d+e))+f)).tdiv 1000000000)) (w64 (j+1)) []))),(kD g [])),Nat.lt_succ_self _,(Sub.norm [] [some 2] rfl rfl (.keep (.same (qg encI _)) (.keep (.same (qg encI _)) (.keep (.gslice rfl) (.keep (.same nI) (.keep (.same nI) .nil))))) (.ks .nil)),_,_,_,rfl,g5⟩
   refine Goes.exit ?_;obtain rfl:=si g5;exact⟨rfl,_,rfl,(Sub.keep [5] rfl rfl)⟩
 rintro x s' ⟨rfl,q,rfl,hsub⟩;refine Goes.sub hsub ?_;refine sh fol [(4,.gslice 0 q.length 1)] ?_;refine Goes.ret ?_;obtain rfl:=si h;exact(gw2 [.gslice 0 q.length 1] (FzW.fz (Fz.gs (E:=encI) rfl rfl (nl rfl))))
def zn (a:List Int) (b:List Int):Nat->(List Int)->Int->Int->Option (List Int)
 |0,_,_,_=>none
 |K+1,i,d,c=>
  if c<(a.length:Int)then
  (idx a c).bind fun e=>
  (qav b c).bind fun f=>
  ((if(w64 ((w64 (e-f))-d))<0 then
  some (1,w64 ((w64 ((w64 (e-f))-d))+1000000000))
  else
  some (0,w64 ((w64 (e-f))-d)):Option (Int×Int))).bind fun(j,g)=>
  (app 8 i [g]).bind fun h=>
  zn a b K h j (w64 (c+1))
  else
  some i
def xc (N:Nat) (a:List Int) (b:List Int):Option (List Int):=
 (zn a b N ([]:List Int) 0 0).bind fun d=>
 (yR N d).bind fun c=>
 some c
theorem qcX (N:Nat) (a:List Int) (b:List Int) {res:List Int} (h:xc N a b=some res):qd ZT (.fn 143) (kBO a b) [] (vl encI res) []:=by
 unfold xc at h;refine Ub Tryz.func143 rfl rfl (m:=35) rfl (rs:=[.tmp 4]) rfl (l:=(kH a b [])) rfl ?_;refine sh fol (kH a b []) ?_;refine sh fol (kH a b [(5,.nilslice)]) ?_;refine sh fol (kH a b [(5,.nilslice),(6,.i 0)]) ?_;refine sq ?_;refine sh fol (kH a b [(5,.nilslice),(6,.i 0),(7,.i 0)]) ?_;refine Goes.block ?_;obtain⟨y,g5,h⟩:=bnd h;refine Goes.imp (Q:=fun x s'=>(x= .exit 0/\ ∃j,j=y/\Sub s' (ofG 35 (kAN j []),(kD j [])))) ?_ ?_
 ·refine Goes.sub (s':=(ofG 35 (kH a b [(5,.gslice 0 ([]:List Int).length 1),(6,.i 0),(7,.i 0)]),kBC)) (Sub.norm [] [none] rfl rfl (.keep (.same (qg encI _)) (.keep (.same (qg encI _)) (.keep .nil (.keep (.same nI) (.keep (.same nI) .nil))))) (.fresh .nil)) ?_;refine Uc (fun M s=> ∃(c:List Int) (k:Int) (d:Int),s=(ofG 35 (kH a b (kAN c (kAJ k d []))),(kD c []))/\zn a b M c k d=some y) ?_ (m:=N) ⟨_,_,_,rfl,g5⟩;rintro M s ⟨c,k,d,rfl,g5⟩
  cases M with
  |zero=>simp only[zn]at g5;cases g5
  |succ M=>
   rw[zn]at g5;refine sq ?_;refine sh fol (kH a b (kAN c (kAJ k d (kA0 (decide (d<(a.length:Int))))))) ?_;refine ihD g5 (fun z g5=>?_) (fun z g5=>?_)
   ·refine Goes.skip ?_;refine sq (Goes.block ?_);obtain⟨q,n,g5⟩:=bnd g5;obtain⟨r,u,g5⟩:=bnd g5;refine sq (gr fol [2,3,6] (kH a b (kAN c (kA3 d (w64 ((w64 (q-r))-k))))) (ac (iv vZ encI n) (ac (lv 0 ce3 encI n rfl) (ac (cv (qcW b d u)) az))) ?_);refine sh fol (kH a b (kAN c ((6,.i 0)::(kA3 d (w64 ((w64 (q-r))-k)))))) ?_;refine sq ?_;refine sh fol (kH a b (kAN c [(6,.i 0),(7,.i d),(8,.i (w64 ((w64 (q-r))-k))),(26,.bool (decide ((w64 ((w64 (q-r))-k))<0)))])) ?_;obtain⟨v,g11,g5⟩:=bnd g5;refine Goes.imp (Q:=fun x s'=>(x= .normal/\ ∃t e,(t,e)=v/\Sub s' (ofG 35 (kH a b (kAN c (kAJ t d [(8,.i e)]))),(kD c [])))) ?_ ?_
    ·refine ihD g11 (fun w g11=>?_) (fun w g11=>?_)
     ·refine sh fol (kH a b (kAN c (kA3 d (w64 ((w64 ((w64 (q-r))-k))+1000000000))))) ?_;refine gh fol (kH a b (kAN c ((6,.i 1)::(kA3 d (w64 ((w64 ((w64 (q-r))-k))+1000000000)))))) ?_;obtain rfl:=si g11;exact⟨rfl,_,_,rfl,(Sub.refl _)⟩
     refine Goes.skip ?_;obtain rfl:=si g11;exact⟨rfl,_,_,rfl,(Sub.keep [0,1,5,6,7,8] rfl rfl)⟩
    rintro x s' ⟨rfl,t,e,rfl,hsub⟩
    try dsimp only at g5
    refine Goes.sub hsub ?_;obtain⟨f,o,g5⟩:=bnd g5;refine gq fol [3] (kH a b ((5,.gslice 2 f.length 1)::(kAJ t d []))) (kBG e (kD f [])) (ac (hs (.run [0,1] (xC ZT [80,80] (.gslice 0 c.length 1) (.slice 1 0 1 1 1)) (kD c [.cells [.i e]]) (.gslice 2 f.length 1) (kBG e (kD f [])) true) (qbX vZ (E:=encI) rfl (qhO (E:=encI) (ys:=[e]) rfl rfl rfl rfl) (qjK (E:=encI) (l:=c) rfl rfl rfl o rfl))) az) ?_;refine gh fol (kH a b ((5,.gslice 2 f.length 1)::(kAJ t (w64 (d+1)) []))) ?_;exact⟨M,(ofG 35 (kH a b (kAN f (kAJ t (w64 (d+1)) []))),(kD f [])),Nat.lt_succ_self _,(Sub.norm [] [some 2] rfl rfl (.keep (.same (qg encI _)) (.keep (.same (qg encI _)) (.keep (.gslice rfl) (.keep (.same nI) (.keep (.same nI) .nil))))) (.ks .nil)),_,_,_,rfl,g5⟩
   refine Goes.exit ?_;obtain rfl:=si g5;exact⟨rfl,_,rfl,(Sub.keep [5] rfl rfl)⟩
 rintro x s' ⟨rfl,j,rfl,hsub⟩;refine Goes.sub hsub ?_;obtain⟨g,p,h⟩:=bnd h;refine sq (gq fol [1] [(4,vl encI g)] (kAY j) (ac (hs (.callF 201 [.gslice 0 j.length 1] (kD j []) [0] [vl encI j] (vl encI g)) (qax (FzL.cons (Fz.gs (E:=encI) rfl rfl (nl rfl)) FzL.nil) (xw N j p) (qA encI _ (nl rfl)))) az) ?_);refine Goes.sub (show Sub (ofG 35 [(4,vl encI g)],(kAY j)) (ofG 35 [(4,vl encI g)],[])from(Sub.norm [] [] rfl rfl (.keep (.same (qg encI _)) .nil) .nil)) ?_;refine Goes.ret ?_;obtain rfl:=si h;exact(gw2 [vl encI g] (Ua (qA encI _ (nl rfl))))
def qcF (N:Nat) (a:qM) (b:qM):Option qM:=
 if(a.neg==b.neg)=true then
 (qad N a.w b.w).bind fun c=>
 (ja N a.neg c).bind fun d=>
 some d
 else
 (jT N a.w b.w).bind fun e=>
 if e>=0 then
 (xc N a.w b.w).bind fun f=>
 (ja N a.neg f).bind fun g=>
 some g
 else
 (xc N b.w a.w).bind fun h=>
 (ja N b.neg h).bind fun i=>
 some i
theorem qje (N:Nat) (a:qM) (b:qM) {res:qM} (h:qcF N a b=some res):qd ZT (.fn 73) (kAt a.neg a.w b.neg b.w) [] (.agg (kAh res.neg res.w)) []:=by
 unfold qcF at h;refine Ub Tryz.func73 rfl rfl (m:=40) rfl (rs:=[.cell 4 126]) rfl (l:=[(0,.agg [.bool a.neg,vl encI a.w]),(1,.agg [.bool b.neg,vl encI b.w])]) rfl ?_;refine sg fol (kF []) (kL a.neg a.w b.neg b.w (kP [])) ?_;refine sq ?_;refine sh fol (kF [(9,.bool (a.neg==b.neg))]) ?_;refine ihB h (fun p h=>?_) (fun p h=>?_)
 ·obtain⟨q,c,h⟩:=bnd h;obtain⟨k,d,h⟩:=bnd h;refine sq (gq fol [6,7] (kAb []) (kL a.neg a.w b.neg b.w (kAW k.neg k.w [])) (ac (cv (qfY N a.w b.w c)) (ac (cv (jw N a.neg q d)) az)) ?_);refine Goes.ret ?_;obtain rfl:=si h;exact(gw2 [.agg (kAh k.neg k.w)] (FzW.agg (qj.cons (Ua tB) (qj.cons (Ua (qA encI _ (nl rfl))) qj.nil))))
 refine Goes.skip ?_;refine sq ?_;obtain⟨r,e,h⟩:=bnd h;refine sq (gr fol [4] (kF [(23,.bool (decide (r>=0)))]) (ac (cv (qbq N a.w b.w e)) az) ?_);refine ihD h (fun s h=>?_) (fun s h=>?_)
 ·obtain⟨t,f,h⟩:=bnd h;obtain⟨n,g,h⟩:=bnd h;refine sq (gq fol [6,7] (kAb []) (kL a.neg a.w b.neg b.w (kAW n.neg n.w [])) (ac (cv (qcX N a.w b.w f)) (ac (cv (jw N a.neg t g)) az)) ?_);refine Goes.ret ?_;obtain rfl:=si h;exact(gw2 [.agg (kAh n.neg n.w)] (FzW.agg (qj.cons (Ua tB) (qj.cons (Ua (qA encI _ (nl rfl))) qj.nil))))
 refine Goes.skip ?_;obtain⟨u,i,h⟩:=bnd h;obtain⟨o,j,h⟩:=bnd h;refine sq (gq fol [6,7] (kAb []) (kL a.neg a.w b.neg b.w (kAW o.neg o.w [])) (ac (cv (qcX N b.w a.w i)) (ac (cv (jw N b.neg u j)) az)) ?_);refine Goes.ret ?_;obtain rfl:=si h;exact(gw2 [.agg (kAh o.neg o.w)] (FzW.agg (qj.cons (Ua tB) (qj.cons (Ua (qA encI _ (nl rfl))) qj.nil))))
def xq (N:Nat) (a:qM) (b:qM):Option qM:=
 (yC N a.w b.w).bind fun c=>
 (ja N (!(a.neg==b.neg)) c).bind fun d=>
 some d
theorem qaJ (N:Nat) (a:qM) (b:qM) {res:qM} (h:xq N a b=some res):qd ZT (.fn 74) (kAt a.neg a.w b.neg b.w) [] (.agg (kAh res.neg res.w)) []:=by
 unfold xq at h;refine Ub Tryz.func74 rfl rfl (m:=16) rfl (rs:=[.cell 4 126]) rfl (l:=[(0,.agg [.bool a.neg,vl encI a.w]),(1,.agg [.bool b.neg,vl encI b.w])]) rfl ?_;refine sg fol (kF []) (kL a.neg a.w b.neg b.w (kP [])) ?_;obtain⟨f,c,h⟩:=bnd h;obtain⟨e,d,h⟩:=bnd h;refine sq (gq fol [9,10] (kAb []) (kL a.neg a.w b.neg b.w (kAW e.neg e.w [])) (ac (cv (qbi N a.w b.w c)) (ac (cv (jw N (!(a.neg==b.neg)) f d)) az)) ?_);refine Goes.ret ?_;obtain rfl:=si h;exact(gw2 [.agg (kAh e.neg e.w)] (FzW.agg (qj.cons (Ua tB) (qj.cons (Ua (qA encI _ (nl rfl))) qj.nil))))
def qcC (N:Nat) (a:Str) (b:Str):Option Str:=
 (vX N a).bind fun c=>
 (vX N b).bind fun d=>
 (if c.2.2=true then
 some d.2.2
 else
 some false:Option Bool).bind fun l=>
 if l=true then
 (qdA N (w64 ((w64 (c.1*d.2.1))+(w64 (d.1*c.2.1)))) (w64 (c.2.1*d.2.1))).bind fun m=>
 some m
 else
 (jV N a).bind fun e=>
 (jV N b).bind fun f=>
 (xq N e.1 f.2).bind fun g=>
 (xq N f.1 e.2).bind fun h=>
 (qcF N g h).bind fun i=>
 (xq N e.2 f.2).bind fun j=>
 (vT N i j).bind fun k=>
 some k
theorem qgi (N:Nat) (a:Str) (b:Str) {res:Str} (h:qcC N a b=some res):qd ZT (.fn 18) (kBF a b) [] (.str res) []:=by
 unfold qcC at h;refine Ub Tryz.func18 rfl rfl (m:=63) rfl (rs:=[.tmp 4]) rfl (l:=(kQ a b [])) rfl ?_;refine sh fol (kQ a b []) ?_;obtain⟨d,q,h⟩:=bnd h;refine sq (gr fol [1] (kQ a b [(5,.i d.1),(6,.i d.2.1),(7,.bool d.2.2)]) (ac (cv (qbs N a q)) az) ?_);obtain⟨e,r,h⟩:=bnd h;refine sq (gr fol [1] (kQ a b ((5,.i d.1)::(6,.i d.2.1)::(7,.bool d.2.2)::(kAr e.1 e.2.1 [(10,.bool e.2.2)]))) (ac (cv (qbs N b r)) az) ?_);refine sq ?_;refine sq ?_;obtain⟨D,c,h⟩:=bnd h;refine Goes.cut (s':=(ofG 63 (kQ a b ((5,.i d.1)::(6,.i d.2.1)::(kAr e.1 e.2.1 [(30,.bool D)]))),[])) ?_ ?_
 ·rcases wyB c with⟨x,c⟩|⟨x,c⟩
  ·obtain rfl:=si c;exact tr fol [1] (kQ a b ((5,.i d.1)::(6,.i d.2.1)::(kAr e.1 e.2.1 [(30,.bool e.2.2)]))) (ac (gw x) az)
  obtain rfl:=si c;exact tr fol [1] (kQ a b ((5,.i d.1)::(6,.i d.2.1)::(kAr e.1 e.2.1 [(30,.bool false)]))) (ac (gw x) az)
 refine ihB h (fun E h=>?_) (fun E h=>?_)
 ·obtain⟨C,s,h⟩:=bnd h;refine sq (gr fol [10] (kBb C) (ac (cv (qhf N (w64 ((w64 (d.1*e.2.1))+(w64 (e.1*d.2.1)))) (w64 (d.2.1*e.2.1)) s)) az) ?_);refine Goes.ret ?_;obtain rfl:=si h;exact(gw2 [.str C] (Ua tS))
 refine Goes.skip ?_;obtain⟨f,t,h⟩:=bnd h;refine sq (gq fol [1] [(1,.str b),(11,.ptr 0 0),(12,.ptr 1 0)] (kL f.1.neg f.1.w f.2.neg f.2.w []) (ac (cv (xH N a t)) az) ?_);obtain⟨g,u,h⟩:=bnd h;refine sq (gq fol [1] [(11,.ptr 0 0),(12,.ptr 1 0),(13,.ptr 2 0),(14,.ptr 3 0)] (kL f.1.neg f.1.w f.2.neg f.2.w (kL g.1.neg g.1.w g.2.neg g.2.w [])) (ac (cv (xH N b u)) az) ?_);obtain⟨y,j,h⟩:=bnd h;obtain⟨z,k,h⟩:=bnd h;obtain⟨A,n,h⟩:=bnd h;obtain⟨B,o,h⟩:=bnd h;obtain⟨v,p,h⟩:=bnd h;refine sq (gr fol [2,5,6,9,10] (kBb v) (ac (cv (qaJ N f.1 g.2 j)) (ac (cv (qaJ N g.1 f.2 k)) (ac (cv (qje N y z n)) (ac (cv (qaJ N f.2 g.2 o)) (ac (cv (qap N A B p)) az))))) ?_);refine Goes.ret ?_;obtain rfl:=si h;exact(gw2 [.str v] (Ua tS))
def zN (N:Nat) (a:Str):Option Int:=
 (yK N a).bind fun b=>
 (if b=0 then
 (yB a).bind fun c=>
 some (decide (c<=0))
 else
 some false:Option Bool).bind fun d=>
 ((if d=true then
 some 3
 else
 some b:Option Int)).bind fun e=>
 some e
theorem jS (N:Nat) (a:Str) {res:Int} (h:zN N a=some res):qd ZT (.fn 19) [.str a] [] (.i res) []:=by
 unfold zN at h;refine Ub Tryz.func19 rfl rfl (m:=14) rfl (rs:=[.tmp 2]) rfl (l:=(kAI a)) rfl ?_;refine sh fol (kAI a) ?_;obtain⟨f,c,h⟩:=bnd h;refine sq (gr fol [1] (kAB a f []) (ac (cv (yU N a c)) az) ?_);refine sq ?_;refine sq ?_;obtain⟨j,b,h⟩:=bnd h;refine Goes.cut (s':=(ofG 14 ((3,.i f)::(kA0 j)),[])) ?_ ?_
 ·rcases wyD b with⟨g,b⟩|⟨g,b⟩
  ·obtain⟨k,d,b⟩:=bnd b;obtain rfl:=si b;exact tr fol [2,4] ((3,.i f)::(kA0 (decide (k<=0)))) (ac (gw g) (ac (cv (qam a d)) az))
  obtain rfl:=si b;exact tr fol [2] [(3,.i f),(12,.bool false)] (ac (gw g) az)
 obtain⟨n,g7,h⟩:=bnd h;refine Goes.imp (Q:=fun x s'=>(x= .normal/\ ∃e,e=n/\Sub s' (ofG 14 [(3,.i e)],[]))) ?_ ?_
 ·refine ihB g7 (fun o g7=>?_) (fun o g7=>?_)
  ·refine gh fol [(3,.i 3)] ?_;obtain rfl:=si g7;exact⟨rfl,_,rfl,(Sub.refl _)⟩
  refine Goes.skip ?_;obtain rfl:=si g7;exact⟨rfl,_,rfl,(Sub.keep [3] rfl rfl)⟩
 rintro x s' ⟨rfl,e,rfl,hsub⟩;refine Goes.sub hsub ?_;refine sh fol (kBA e) ?_;refine Goes.ret ?_;obtain rfl:=si h;exact(gw2 [.i e] (Ua tI))
def qdJ (a:Str):Option Str:=
 (yB a).bind fun b=>
 if b<0 then
 (cut a 1 (a.length:Int)).bind fun c=>
 some c
 else
 (yB a).bind fun d=>
 if d=0 then
 some a
 else
 (cat [45] a).bind fun e=>
 some e
theorem qj1 (a:Str) {res:Str} (h:qdJ a=some res):qd ZT (.fn 145) [.str a] [] (.str res) []:=by
 unfold qdJ at h;refine Ub Tryz.func145 rfl rfl (m:=14) rfl (rs:=[.tmp 2]) rfl (l:=(kAI a)) rfl ?_;refine sh fol (kAI a) ?_;refine sq ?_;obtain⟨j,b,h⟩:=bnd h;refine sq (gr fol [1] (kA4 a [(5,.bool (decide (j<0)))]) (ac (cv (qam a b)) az) ?_);refine ihD h (fun k h=>?_) (fun k h=>?_)
 ·obtain⟨f,c,h⟩:=bnd h;refine sq (gr fol [1] [(2,.str f)] (ac (hs (.done (.opt (kr ZT 23 (.str a) (some (.i 1)) none none)) (.str f)) (jA qmk (some 1) none c)) az) ?_);refine Goes.ret ?_;obtain rfl:=si h;exact(gw2 [.str f] (Ua tS))
 refine Goes.skip ?_;refine sq ?_;obtain⟨n,d,h⟩:=bnd h;refine sq (gr fol [1] (kA4 a [(10,.bool (decide (n=0)))]) (ac (cv (qam a d)) az) ?_);refine ihD h (fun o h=>?_) (fun o h=>?_)
 ·refine sh fol [(2,.str a)] ?_;refine Goes.ret ?_;obtain rfl:=si h;exact(gw2 [.str a] (Ua tS))
 refine Goes.skip ?_;obtain⟨g,e,h⟩:=bnd h;refine sq (gr fol [1] [(2,.str g)] (ac (hs (.done (.opt (ze ZT .add 23 (.const (.string ⟨#[45]⟩)) (.tmp 12) (.str [45]) (.str a))) (.str g)) (qbc e)) az) ?_);refine Goes.ret ?_;obtain rfl:=si h;exact(gw2 [.str g] (Ua tS))
def qcy (N:Nat) (a:Str) (b:Str):Option Str:=
 (qdJ b).bind fun c=>
 (qcC N a c).bind fun d=>
 some d
theorem qj9 (N:Nat) (a:Str) (b:Str) {res:Str} (h:qcy N a b=some res):qd ZT (.fn 75) (kBF a b) [] (.str res) []:=by
 unfold qcy at h;refine Ub Tryz.func75 rfl rfl (m:=9) rfl (rs:=[.tmp 4]) rfl (l:=(kQ a b [])) rfl ?_;refine sh fol (kQ a b []) ?_;obtain⟨f,c,h⟩:=bnd h;obtain⟨e,d,h⟩:=bnd h;refine sq (gr fol [2,3] (kBb e) (ac (cv (qj1 b c)) (ac (cv (qgi N a f d)) az)) ?_);refine Goes.ret ?_;obtain rfl:=si h;exact(gw2 [.str e] (Ua tS))
def qaS (N:Nat) (a:Str) (b:Str):Option Int:=
 (qcy N a b).bind fun c=>
 (yB c).bind fun d=>
 some d
theorem qcu (N:Nat) (a:Str) (b:Str) {res:Int} (h:qaS N a b=some res):qd ZT (.fn 20) (kBF a b) [] (.i res) []:=by
 unfold qaS at h;refine Ub Tryz.func20 rfl rfl (m:=9) rfl (rs:=[.tmp 4]) rfl (l:=(kQ a b [])) rfl ?_;refine sh fol (kQ a b []) ?_;obtain⟨f,c,h⟩:=bnd h;obtain⟨e,d,h⟩:=bnd h;refine sq (gr fol [2,3] (kBZ e) (ac (cv (qj9 N a b c)) (ac (cv (qam f d)) az)) ?_);refine Goes.ret ?_;obtain rfl:=si h;exact(gw2 [.i e] (Ua tI))
def jO (N:Nat) (a:Str):Option Int:=
 (yK N a).bind fun b=>
 (if b=0 then
 (yB a).bind fun c=>
 some (decide (c<0))
 else
 some false:Option Bool).bind fun d=>
 ((if d=true then
 some 3
 else
 some b:Option Int)).bind fun e=>
 some e
theorem qdd (N:Nat) (a:Str) {res:Int} (h:jO N a=some res):qd ZT (.fn 17) [.str a] [] (.i res) []:=by
 unfold jO at h;refine Ub Tryz.func17 rfl rfl (m:=14) rfl (rs:=[.tmp 2]) rfl (l:=(kAI a)) rfl ?_;refine sh fol (kAI a) ?_;obtain⟨f,c,h⟩:=bnd h;refine sq (gr fol [1] (kAB a f []) (ac (cv (yU N a c)) az) ?_);refine sq ?_;refine sq ?_;obtain⟨j,b,h⟩:=bnd h;refine Goes.cut (s':=(ofG 14 ((3,.i f)::(kA0 j)),[])) ?_ ?_
 ·rcases wyD b with⟨g,b⟩|⟨g,b⟩
  ·obtain⟨k,d,b⟩:=bnd b;obtain rfl:=si b;exact tr fol [2,4] ((3,.i f)::(kA0 (decide (k<0)))) (ac (gw g) (ac (cv (qam a d)) az))
  obtain rfl:=si b;exact tr fol [2] [(3,.i f),(12,.bool false)] (ac (gw g) az)
 obtain⟨n,g7,h⟩:=bnd h;refine Goes.imp (Q:=fun x s'=>(x= .normal/\ ∃e,e=n/\Sub s' (ofG 14 [(3,.i e)],[]))) ?_ ?_
 ·refine ihB g7 (fun o g7=>?_) (fun o g7=>?_)
  ·refine gh fol [(3,.i 3)] ?_;obtain rfl:=si g7;exact⟨rfl,_,rfl,(Sub.refl _)⟩
  refine Goes.skip ?_;obtain rfl:=si g7;exact⟨rfl,_,rfl,(Sub.keep [3] rfl rfl)⟩
 rintro x s' ⟨rfl,e,rfl,hsub⟩;refine Goes.sub hsub ?_;refine sh fol (kBA e) ?_;refine Goes.ret ?_;obtain rfl:=si h;exact(gw2 [.i e] (Ua tI))
def yA (c:Str):Nat->Int->Option (Unit⊕Bool)
 |0,_=>none
 |K+1,b=>
  if b<(c.length:Int)then
  (idx c b).bind fun a=>
  (if(a.toNat:Int)>=97 then
  if(a.toNat:Int)<=122 then
  some true
  else
  if(a.toNat:Int)>=65 then
  some (decide ((a.toNat:Int)<=90))
  else
  some false
  else
  if(a.toNat:Int)>=65 then
  some (decide ((a.toNat:Int)<=90))
  else
  some false:Option Bool).bind fun d=>
  (if(!d)=true then
  if b=0 then
  some true
  else
  if(a.toNat:Int)>=48 then
  if(a.toNat:Int)<=57 then
  some false
  else
  some (!(decide ((a.toNat:Int)=95)))
  else
  some (!(decide ((a.toNat:Int)=95)))
  else
  some false:Option Bool).bind fun e=>
  if e=true then
  some (.inr false)
  else
  yA c K (w64 (b+1))
  else
  some (.inl ())
def qaR (N:Nat) (a:Str):Option Bool:=
 (if(a.length:Int)<1 then
 some true
 else
 some (decide ((a.length:Int)>24)):Option Bool).bind fun c=>
 if c=true then
 some false
 else
 (yA a N 0).bind (fun
 |(.inl ())=>
 some true
 |(.inr b)=>
 some b)
theorem qes (N:Nat) (c:Str) {res:Bool} (h:qaR N c=some res):qd ZT (.fn 60) [.str c] [] (.bool res) []:=by
 unfold qaR at h;refine Ub Tryz.func60 rfl rfl (m:=56) rfl (rs:=[.tmp 2]) rfl (l:=(kAI c)) rfl ?_;refine sh fol (kAI c) ?_;refine sq ?_;refine sq ?_;obtain⟨B,e,h⟩:=bnd h;refine Goes.cut (s':=(ofG 56 (kA4 c (kBE B)),[])) ?_ ?_
 ·rcases wyD e with⟨u,e⟩|⟨u,e⟩
  ·obtain rfl:=si e;exact tr fol [3] (kA4 c [(13,.bool true)]) (ac (gw u) az)
  obtain rfl:=si e;exact tr fol [3] (kA4 c (kBE (decide ((c.length:Int)>24)))) (ac (gw u) az)
 refine ihB h (fun C h=>?_) (fun C h=>?_)
 ·refine sh fol kAc ?_;refine Goes.ret ?_;obtain rfl:=si h;exact(gw2 [.bool false] (Ua tB))
 refine Goes.skip ?_;refine sq ?_;refine sh fol (kA4 c [(3,.i 0)]) ?_;refine Goes.block ?_;obtain⟨v,g6,h⟩:=bnd h;refine Goes.imp (Q:=fun x s'=>(x= .exit 0/\(.inl ())=v/\Sub s' (ofG 56 [],[]))\/(x= .ret/\ ∃A,(.inr A)=v/\jb ZT [.tmp 2] (.bool A) .ret s')) ?_ ?_
 ·refine Uc (fun M s=> ∃(d:Int),s=(ofG 56 (kAB c d []),[])/\yA c M d=some v) ?_ (m:=N) ⟨_,rfl,g6⟩;rintro M s ⟨d,rfl,g6⟩
  cases M with
  |zero=>simp only[yA]at g6;cases g6
  |succ M=>
   rw[yA]at g6;refine sq ?_;refine sh fol (kAB c d [(17,.bool (decide (d<(c.length:Int))))]) ?_;refine ihD g6 (fun D g6=>?_) (fun D g6=>?_)
   ·refine Goes.skip ?_;refine sq (Goes.block ?_);obtain⟨j,t,g6⟩:=bnd g6;refine sq (gr fol [2] (kAB c d [(4,.int .u8 (j.toNat:Int))]) (ac (hs (.done (.opt (yV ZT 9 (.str c) (.i d))) (.int .u8 (j.toNat:Int))) (qau st9 t)) az) ?_);refine sq ?_;obtain⟨w,a,g6⟩:=bnd g6;refine Goes.cut (s':=(ofG 56 (kAB c d [(4,.int .u8 (j.toNat:Int)),(5,.bool w)]),[])) ?_ ?_
    ·rcases wyD a with⟨f,a⟩|⟨f,a⟩
     ·rcases wyD a with⟨n,a⟩|⟨n,a⟩
      ·obtain rfl:=si a;exact tr fol [2,6] (kAB c d [(4,.int .u8 (j.toNat:Int)),(5,.bool true)]) (ac (gw f) (ac (gw n) az))
      rcases wyD a with⟨p,a⟩|⟨p,a⟩
      ·obtain rfl:=si a;exact tr fol [2,6,9] (kAB c d [(4,.int .u8 (j.toNat:Int)),(5,.bool (decide ((j.toNat:Int)<=90)))]) (ac (gw f) (ac (gw n) (ac (gw p) az)))
      obtain rfl:=si a;exact tr fol [2,6,9] (kAB c d [(4,.int .u8 (j.toNat:Int)),(5,.bool false)]) (ac (gw f) (ac (gw n) (ac (gw p) az)))
     rcases wyD a with⟨q,a⟩|⟨q,a⟩
     ·obtain rfl:=si a;exact tr fol [2,9] (kAB c d [(4,.int .u8 (j.toNat:Int)),(5,.bool (decide ((j.toNat:Int)<=90)))]) (ac (gw f) (ac (gw q) az))
     obtain rfl:=si a;exact tr fol [2,9] (kAB c d [(4,.int .u8 (j.toNat:Int)),(5,.bool false)]) (ac (gw f) (ac (gw q) az))
    refine sq ?_;obtain⟨y,b,g6⟩:=bnd g6;refine Goes.cut (s':=(ofG 56 (kAB c d [(55,.bool y)]),[])) ?_ ?_
    ·rcases wyB b with⟨g,b⟩|⟨g,b⟩
     ·rcases wyD b with⟨k,b⟩|⟨k,b⟩
      ·obtain rfl:=si b;exact tr fol [2,5] (kAB c d [(55,.bool true)]) (ac (gw g) (ac (gw k) az))
      rcases wyD b with⟨o,b⟩|⟨o,b⟩
      ·rcases wyD b with⟨r,b⟩|⟨r,b⟩
       ·obtain rfl:=si b;exact tr fol [2,5,8,12] (kAB c d [(55,.bool false)]) (ac (gw g) (ac (gw k) (ac (gw o) (ac (gw r) az))))
       obtain rfl:=si b;exact tr fol [2,5,8,12] (kAB c d [(55,.bool (!(decide ((j.toNat:Int)=95))))]) (ac (gw g) (ac (gw k) (ac (gw o) (ac (gw r) az))))
      obtain rfl:=si b;exact tr fol [2,5,8] (kAB c d [(55,.bool (!(decide ((j.toNat:Int)=95))))]) (ac (gw g) (ac (gw k) (ac (gw o) az)))
     obtain rfl:=si b;exact tr fol [2] (kAB c d [(55,.bool false)]) (ac (gw g) az)
    refine ihB g6 (fun z g6=>?_) (fun z g6=>?_)
    ·refine sh fol kAc ?_;refine Goes.ret ?_;obtain rfl:=si g6;exact Or.inr (⟨rfl,_,rfl,(gw2 [.bool false] (Ua tB))⟩)
    refine Goes.skip ?_;refine gh fol (kAB c (w64 (d+1)) []) ?_;exact⟨M,(ofG 56 (kAB c (w64 (d+1)) []),[]),Nat.lt_succ_self _,(Sub.refl _),_,rfl,g6⟩
   refine Goes.exit ?_;obtain rfl:=si g6;exact Or.inl (⟨rfl,rfl,(Sub.keep [] rfl rfl)⟩)
 rintro x s' (⟨rfl,rfl,hsub⟩|⟨rfl,E,rfl,hret⟩)
 ·try dsimp only at h
  refine Goes.sub hsub ?_;refine sh fol kBP ?_;refine Goes.ret ?_;obtain rfl:=si h;exact(gw2 [.bool true] (Ua tB))
 try dsimp only at h
 obtain rfl:=si h;exact hret
def qaL (N:Nat) (a:Str):Option Bool:=
 (if(a==[])=true then
 some true
 else
 (qaR N a).bind fun b=>
 some b:Option Bool).bind fun c=>
 some c
theorem qih (N:Nat) (b:Str) {res:Bool} (h:qaL N b=some res):qd ZT (.fn 78) [.str b] [] (.bool res) []:=by
 unfold qaL at h;refine Ub Tryz.func78 rfl rfl (m:=9) rfl (rs:=[.tmp 2]) rfl (l:=(kAI b)) rfl ?_;refine sh fol (kAI b) ?_;refine sq ?_;obtain⟨e,a,h⟩:=bnd h;refine Goes.cut (s':=(ofG 9 (kBL e),[])) ?_ ?_
 ·rcases wyB a with⟨d,a⟩|⟨d,a⟩
  ·obtain rfl:=si a;exact tr fol [2] kBP (ac (gw d) az)
  obtain⟨f,c,a⟩:=bnd a;obtain rfl:=si a;exact tr fol [2,4] (kBL f) (ac (gw d) (ac (cv (qes N b c)) az))
 refine Goes.ret ?_;obtain rfl:=si h;exact(gw2 [.bool e] (Ua tB))
def qI (N:Nat) (y:qw):Nat->Int->Option (Unit⊕Int)
 |0,_=>none
 |K+1,a=>
  if a<(y.Strength.length:Int)then
  (idx y.Strength a).bind fun b=>
  (jO N b.X).bind fun c=>
  ((if c=0 then
  (jO N b.Y).bind fun e=>
  some e
  else
  some c:Option Int)).bind fun d=>
  if(!decide (d=0))=true then
  some (.inr d)
  else
  (if a>0 then
  (idx y.Strength (w64 (a-1))).bind fun f=>
  (qaS N b.X f.X).bind fun g=>
  some (decide (g<=0))
  else
  some false:Option Bool).bind fun h=>
  if h=true then
  some (.inr 11)
  else
  qI N y K (w64 (a+1))
  else
  some (.inl ())
def zW (N:Nat) (y:qw):Option Int:=
 (qaR N y.Name).bind fun e=>
 if(!e)=true then
 some 8
 else
 (zN N y.Density).bind fun c=>
 ((if c=0 then
 (yK N y.Twist).bind fun f=>
 some f
 else
 some c:Option Int)).bind fun d=>
 if(!decide (d=0))=true then
 some d
 else
 if(y.Strength.length:Int)=0 then
 some 12
 else
 if(y.Strength.length:Int)>256 then
 some 5
 else
 (qI N y N 0).bind (fun
 |(.inl ())=>
 (qaL N y.Dye).bind fun a=>
 if(!a)=true then
 some 8
 else
 some 0
 |(.inr b)=>
 some b)
theorem jD (N:Nat) (y:qw) {res:Int} (h:zW N y=some res):qd ZT (.fn 23) [.agg [.str y.Name,.str y.Density,.str y.Twist,vl qh y.Strength,.str y.Dye]] [] (.i res) []:=by
 unfold zW at h;refine Ub Tryz.func23 rfl rfl (m:=78) rfl (rs:=[.tmp 2]) rfl (l:=(kAf y.Name y.Density y.Twist y.Strength y.Dye [])) rfl ?_;refine sg fol (kX []) (kB y.Name y.Density y.Twist y.Strength y.Dye []) ?_;refine sq ?_;obtain⟨O,t,h⟩:=bnd h;refine sq (gr fol [2] (kX [(9,.bool (!O))]) (ac (cv (qes N y.Name t)) az) ?_);refine ihB h (fun P h=>?_) (fun P h=>?_)
 ·refine sh fol [(2,.i 8)] ?_;refine Goes.ret ?_;obtain rfl:=si h;exact(gw2 [.i 8] (Ua tI))
 refine Goes.skip ?_;obtain⟨z,u,h⟩:=bnd h;refine sq (gr fol [2] (kX [(3,.i z)]) (ac (cv (jS N y.Density u)) az) ?_);refine sq ?_;refine sh fol (kX [(3,.i z),(14,.bool (decide (z=0)))]) ?_;obtain⟨U,g5,h⟩:=bnd h;refine Goes.imp (Q:=fun x s'=>(x= .normal/\ ∃f,f=U/\Sub s' (ofG 78 (kX [(3,.i f)]),(kB y.Name y.Density y.Twist y.Strength y.Dye [])))) ?_ ?_
 ·refine ihD g5 (fun V g5=>?_) (fun V g5=>?_)
  ·obtain⟨Z,v,g5⟩:=bnd g5;refine gr fol [2] (kX [(3,.i Z)]) (ac (cv (yU N y.Twist v)) az) ?_;obtain rfl:=si g5;exact⟨rfl,_,rfl,(Sub.refl _)⟩
  refine Goes.skip ?_;obtain rfl:=si g5;exact⟨rfl,_,rfl,(Sub.keep [1,3] rfl rfl)⟩
 rintro x s' ⟨rfl,f,rfl,hsub⟩;refine Goes.sub hsub ?_;refine sq ?_;refine sh fol (kX [(3,.i f),(19,.bool (!decide (f=0)))]) ?_;refine ihB h (fun c8 h=>?_) (fun c8 h=>?_)
 ·refine sh fol (kBA f) ?_;refine Goes.ret ?_;obtain rfl:=si h;exact(gw2 [.i f] (Ua tI))
 refine Goes.skip ?_;refine sq ?_;refine sh fol (kX [(24,.bool (decide ((y.Strength.length:Int)=0)))]) ?_;refine ihD h (fun c9 h=>?_) (fun c9 h=>?_)
 ·refine sh fol [(2,.i 12)] ?_;refine Goes.ret ?_;obtain rfl:=si h;exact(gw2 [.i 12] (Ua tI))
 refine Goes.skip ?_;refine sq ?_;refine sh fol (kX [(28,.bool (decide ((y.Strength.length:Int)>256)))]) ?_;refine ihD h (fun A h=>?_) (fun A h=>?_)
 ·refine sh fol [(2,.i 5)] ?_;refine Goes.ret ?_;obtain rfl:=si h;exact(gw2 [.i 5] (Ua tI))
 refine Goes.skip ?_;refine sq ?_;refine sh fol (kX [(4,.i 0)]) ?_;refine Goes.block ?_;obtain⟨g,g12,h⟩:=bnd h;refine Goes.imp (Q:=fun x s'=>(x= .exit 0/\(.inl ())=g/\Sub s' (ofG 78 (kX []),(kB y.Name y.Density y.Twist y.Strength y.Dye [])))\/(x= .ret/\ ∃w,(.inr w)=g/\jb ZT [.tmp 2] (.i w) .ret s')) ?_ ?_
 ·refine Uc (fun M s=> ∃(b:Int),s=(ofG 78 (kX (kBZ b)),(kB y.Name y.Density y.Twist y.Strength y.Dye []))/\qI N y M b=some g) ?_ (m:=N) ⟨_,rfl,g12⟩;rintro M s ⟨b,rfl,g12⟩
  cases M with
  |zero=>simp only[qI]at g12;cases g12
  |succ M=>
   rw[qI]at g12;refine sq ?_;refine sh fol (kX [(4,.i b),(33,.bool (decide (b<(y.Strength.length:Int))))]) ?_;refine ihD g12 (fun B g12=>?_) (fun B g12=>?_)
   ·refine Goes.skip ?_;refine sq (Goes.block ?_);obtain⟨j,c,g12⟩:=bnd g12;obtain⟨k,n,g12⟩:=bnd g12;refine sq (gr fol [3,5,6] (kX ((4,.i b)::(kA8 k))) (ac (iv qee qh c) (ac (lv 0 qiJ qh c rfl) (ac (cv (qdd N j.X n)) az))) ?_);refine sq ?_;refine sh fol (kX [(4,.i b),(5,.i k),(44,.bool (decide (k=0)))]) ?_;obtain⟨C,g18,g12⟩:=bnd g12;refine Goes.imp (Q:=fun x s'=>(x= .normal/\ ∃d,d=C/\Sub s' (ofG 78 (kX ((4,.i b)::(kA8 d))),(kB y.Name y.Density y.Twist y.Strength y.Dye [])))) ?_ ?_
    ·refine ihD g18 (fun D g18=>?_) (fun D g18=>?_)
     ·obtain⟨E,o,g18⟩:=bnd g18;refine gr fol [3,5,6] (kX ((4,.i b)::(kA8 E))) (ac (iv qee qh c) (ac (lv 1 qiJ qh c rfl) (ac (cv (qdd N j.Y o)) az))) ?_;obtain rfl:=si g18;exact⟨rfl,_,rfl,(Sub.refl _)⟩
     refine Goes.skip ?_;obtain rfl:=si g18;exact⟨rfl,_,rfl,(Sub.keep [1,4,5] rfl rfl)⟩
    rintro x s' ⟨rfl,d,rfl,hsub⟩;refine Goes.sub hsub ?_;refine sq ?_;refine sh fol (kX [(4,.i b),(5,.i d),(53,.bool (!decide (d=0)))]) ?_;refine ihB g12 (fun F g12=>?_) (fun F g12=>?_)
    ·refine sh fol (kBA d) ?_;refine Goes.ret ?_;obtain rfl:=si g12;exact Or.inr (⟨rfl,_,rfl,(gw2 [.i d] (Ua tI))⟩)
    refine Goes.skip ?_;refine sq ?_;obtain⟨G,a,g12⟩:=bnd g12;refine Goes.cut (s':=(ofG 78 (kX [(4,.i b),(73,.bool G)]),(kB y.Name y.Density y.Twist y.Strength y.Dye []))) ?_ ?_
    ·rcases wyD a with⟨p,a⟩|⟨p,a⟩
     ·obtain⟨H,e,a⟩:=bnd a;obtain⟨I,q,a⟩:=bnd a;obtain rfl:=si a;exact tr fol [2,6,8,13,15,16] (kX [(4,.i b),(73,.bool (decide (I<=0)))]) (ac (gw p) (ac (iv qee qh c) (ac (lv 0 qiJ qh c rfl) (ac (iv qee qh e) (ac (lv 0 qiJ qh e rfl) (ac (cv (qcu N j.X H.X q)) az))))))
     obtain rfl:=si a;exact tr fol [2] (kX [(4,.i b),(73,.bool false)]) (ac (gw p) az)
    refine ihB g12 (fun J g12=>?_) (fun J g12=>?_)
    ·refine sh fol [(2,.i 11)] ?_;refine Goes.ret ?_;obtain rfl:=si g12;exact Or.inr (⟨rfl,_,rfl,(gw2 [.i 11] (Ua tI))⟩)
    refine Goes.skip ?_;refine gh fol (kX (kBZ (w64 (b+1)))) ?_;exact⟨M,(ofG 78 (kX (kBZ (w64 (b+1)))),(kB y.Name y.Density y.Twist y.Strength y.Dye [])),Nat.lt_succ_self _,(Sub.refl _),_,rfl,g12⟩
   refine Goes.exit ?_;obtain rfl:=si g12;exact Or.inl (⟨rfl,rfl,(Sub.keep [1] rfl rfl)⟩)
 rintro x s' (⟨rfl,rfl,hsub⟩|⟨rfl,q30,rfl,hret⟩)
 ·try dsimp only at h
  refine Goes.sub hsub ?_;refine sq ?_;obtain⟨K,r,h⟩:=bnd h;refine sq (gr fol [2] [(77,.bool (!K))] (ac (cv (qih N y.Dye r)) az) ?_);refine ihB h (fun L h=>?_) (fun L h=>?_)
  ·refine sh fol [(2,.i 8)] ?_;refine Goes.ret ?_;obtain rfl:=si h;exact(gw2 [.i 8] (Ua tI))
  refine Goes.skip ?_;refine sh fol [(2,.i 0)] ?_;refine Goes.ret ?_;obtain rfl:=si h;exact(gw2 [.i 0] (Ua tI))
 try dsimp only at h
 obtain rfl:=si h;exact hret
def zk (y:qw):Nat->Int->Option (Unit⊕Bool)
 |0,_=>none
 |K+1,a=>
  if a<(y.Strength.length:Int)then
  ((idx y.Strength a).bind fun b=>
  if(b.X.length:Int)>60 then
  some true
  else
  some (decide ((b.Y.length:Int)>60)):Option Bool).bind fun c=>
  if c=true then
  some (.inr false)
  else
  zk y K (w64 (a+1))
  else
  some (.inl ())
def qag (N:Nat) (y:qw):Option Bool:=
 (if(y.Name.length:Int)>60 then
 some true
 else
 if(y.Density.length:Int)>60 then
 some true
 else
 if(y.Twist.length:Int)>60 then
 some true
 else
 if(y.Dye.length:Int)>60 then
 some true
 else
 if(y.Strength.length:Int)>8 then
 if(y.Strength.length:Int)<=256 then
 some true
 else
 some (decide ((y.Strength.length:Int)>259))
 else
 some (decide ((y.Strength.length:Int)>259)):Option Bool).bind fun b=>
 if b=true then
 some false
 else
 (zk y N 0).bind (fun
 |(.inl ())=>
 some true
 |(.inr a)=>
 some a)
theorem vF (N:Nat) (y:qw) {res:Bool} (h:qag N y=some res):qd ZT (.fn 28) [.agg [.str y.Name,.str y.Density,.str y.Twist,vl qh y.Strength,.str y.Dye]] [] (.bool res) []:=by
 unfold qag at h;refine Ub Tryz.func28 rfl rfl (m:=69) rfl (rs:=[.tmp 2]) rfl (l:=(kAf y.Name y.Density y.Twist y.Strength y.Dye [])) rfl ?_;refine sg fol (kX []) (kB y.Name y.Density y.Twist y.Strength y.Dye []) ?_;refine sq ?_;refine sq ?_;obtain⟨w,a,h⟩:=bnd h;refine Goes.cut (s':=(ofG 69 (kX [(43,.bool w)]),(kB y.Name y.Density y.Twist y.Strength y.Dye []))) ?_ ?_
 ·rcases wyD a with⟨e,a⟩|⟨e,a⟩
  ·obtain rfl:=si a;exact tr fol [4] (kX [(43,.bool true)]) (ac (gw e) az)
  rcases wyD a with⟨f,a⟩|⟨f,a⟩
  ·obtain rfl:=si a;exact tr fol [4,10] (kX [(43,.bool true)]) (ac (gw e) (ac (gw f) az))
  rcases wyD a with⟨k,a⟩|⟨k,a⟩
  ·obtain rfl:=si a;exact tr fol [4,10,16] (kX [(43,.bool true)]) (ac (gw e) (ac (gw f) (ac (gw k) az)))
  rcases wyD a with⟨n,a⟩|⟨n,a⟩
  ·obtain rfl:=si a;exact tr fol [4,10,16,22] (kX [(43,.bool true)]) (ac (gw e) (ac (gw f) (ac (gw k) (ac (gw n) az))))
  rcases wyD a with⟨p,a⟩|⟨p,a⟩
  ·rcases wyD a with⟨q,a⟩|⟨q,a⟩
   ·obtain rfl:=si a;exact tr fol [4,10,16,22,27,34] (kX [(43,.bool true)]) (ac (gw e) (ac (gw f) (ac (gw k) (ac (gw n) (ac (gw p) (ac (gw q) az))))))
   obtain rfl:=si a;exact tr fol [4,10,16,22,27,34] (kX [(43,.bool (decide ((y.Strength.length:Int)>259)))]) (ac (gw e) (ac (gw f) (ac (gw k) (ac (gw n) (ac (gw p) (ac (gw q) az))))))
  obtain rfl:=si a;exact tr fol [4,10,16,22,27] (kX [(43,.bool (decide ((y.Strength.length:Int)>259)))]) (ac (gw e) (ac (gw f) (ac (gw k) (ac (gw n) (ac (gw p) az)))))
 refine ihB h (fun z h=>?_) (fun z h=>?_)
 ·refine sh fol kAc ?_;refine Goes.ret ?_;obtain rfl:=si h;exact(gw2 [.bool false] (Ua tB))
 refine Goes.skip ?_;refine sq ?_;refine sh fol (kX [(3,.i 0)]) ?_;refine Goes.block ?_;obtain⟨g,g11,h⟩:=bnd h;refine Goes.imp (Q:=fun x s'=>(x= .exit 0/\(.inl ())=g/\Sub s' (ofG 69 [],[]))\/(x= .ret/\ ∃o,(.inr o)=g/\jb ZT [.tmp 2] (.bool o) .ret s')) ?_ ?_
 ·refine Uc (fun M s=> ∃(d:Int),s=(ofG 69 (kX [(3,.i d)]),(kB y.Name y.Density y.Twist y.Strength y.Dye []))/\zk y M d=some g) ?_ (m:=N) ⟨_,rfl,g11⟩;rintro M s ⟨d,rfl,g11⟩
  cases M with
  |zero=>simp only[zk]at g11;cases g11
  |succ M=>
   rw[zk]at g11;refine sq ?_;refine sh fol (kX [(3,.i d),(48,.bool (decide (d<(y.Strength.length:Int))))]) ?_;refine ihD g11 (fun r g11=>?_) (fun r g11=>?_)
   ·refine Goes.skip ?_;refine sq (Goes.block ?_);refine sq ?_;obtain⟨t,b,g11⟩:=bnd g11;refine Goes.cut (s':=(ofG 69 (kX [(3,.i d),(68,.bool t)]),(kB y.Name y.Density y.Twist y.Strength y.Dye []))) ?_ ?_
    ·obtain⟨u,c,b⟩:=bnd b;rcases wyD b with⟨j,b⟩|⟨j,b⟩
     ·obtain rfl:=si b;exact tr fol [3,5,8] (kX [(3,.i d),(68,.bool true)]) (ac (iv qee qh c) (ac (lv 0 qiJ qh c rfl) (ac (gw j) az)))
     obtain rfl:=si b;exact tr fol [3,5,8,12,14] (kX [(3,.i d),(68,.bool (decide ((u.Y.length:Int)>60)))]) (ac (iv qee qh c) (ac (lv 0 qiJ qh c rfl) (ac (gw j) (ac (iv qee qh c) (ac (lv 1 qiJ qh c rfl) az)))))
    refine ihB g11 (fun v g11=>?_) (fun v g11=>?_)
    ·refine sh fol kAc ?_;refine Goes.ret ?_;obtain rfl:=si g11;exact Or.inr (⟨rfl,_,rfl,(gw2 [.bool false] (Ua tB))⟩)
    refine Goes.skip ?_;refine gh fol (kX [(3,.i (w64 (d+1)))]) ?_;exact⟨M,(ofG 69 (kX [(3,.i (w64 (d+1)))]),(kB y.Name y.Density y.Twist y.Strength y.Dye [])),Nat.lt_succ_self _,(Sub.refl _),_,rfl,g11⟩
   refine Goes.exit ?_;obtain rfl:=si g11;exact Or.inl (⟨rfl,rfl,(Sub.norm [] [] rfl rfl .nil .nil)⟩)
 rintro x s' (⟨rfl,rfl,hsub⟩|⟨rfl,A,rfl,hret⟩)
 ·try dsimp only at h
  refine Goes.sub hsub ?_;refine sh fol kBP ?_;refine Goes.ret ?_;obtain rfl:=si h;exact(gw2 [.bool true] (Ua tB))
 try dsimp only at h
 obtain rfl:=si h;exact hret
def ku (N:Nat) (c:qw):Nat->Int->Option (Unit⊕Bool)
 |0,_=>none
 |K+1,a=>
  if a<(c.Strength.length:Int)then
  (idx c.Strength a).bind fun b=>
  ((xE N b.X 6).bind fun d=>
  if(!d)=true then
  some true
  else
  (xE N b.Y 6).bind fun e=>
  some (!e):Option Bool).bind fun f=>
  if f=true then
  some (.inr false)
  else
  ku N c K (w64 (a+1))
  else
  some (.inl ())
def kw (N:Nat) (l:List qw):Nat->Int->Option (Unit⊕Bool)
 |0,_=>none
 |K+1,b=>
  if b<(l.length:Int)then
  (idx l b).bind fun a=>
  ((qag N a).bind fun c=>
  if(!c)=true then
  some true
  else
  (zW N a).bind fun d=>
  if(!decide (d=0))=true then
  some true
  else
  if(a.Strength.length:Int)>8 then
  some true
  else
  (idx a.Strength 0).bind fun e=>
  if(!(e.X==[48]))=true then
  some true
  else
  (xE N a.Density 6).bind fun f=>
  if(!f)=true then
  some true
  else
  (xE N a.Twist 6).bind fun g=>
  some (!g):Option Bool).bind fun h=>
  if h=true then
  some (.inr false)
  else
  (ku N a N 0).bind (fun
  |(.inl ())=>
  kw N l K (w64 (b+1))
  |(.inr i)=>
  some (.inr i))
  else
  some (.inl ())
def jG (N:Nat) (l:List qw):Option Bool:=
 (if(l.length:Int)<1 then
 some true
 else
 some (decide ((l.length:Int)>4)):Option Bool).bind fun b=>
 if b=true then
 some false
 else
 (kw N l N 0).bind (fun
 |(.inl ())=>
 some true
 |(.inr a)=>
 some a)
theorem qH (N:Nat) (l:List qw) {res:Bool} (h:jG N l=some res):qd ZT (.fn 21) [vl qf l] [] (.bool res) []:=by
 unfold jG at h;refine Ub Tryz.func21 rfl rfl (m:=76) rfl (rs:=[.tmp 2]) rfl (l:=(kAs l [])) rfl ?_;refine sh fol (kAs l []) ?_;refine sq ?_;refine sq ?_;obtain⟨U,k,h⟩:=bnd h;refine Goes.cut (s':=(ofG 76 (kAs l [(15,.bool U)]),[])) ?_ ?_
 ·rcases wyD k with⟨E,k⟩|⟨E,k⟩
  ·obtain rfl:=si k;exact tr fol [3] (kAs l [(15,.bool true)]) (ac (gw E) az)
  obtain rfl:=si k;exact tr fol [3] (kAs l [(15,.bool (decide ((l.length:Int)>4)))]) (ac (gw E) az)
 refine ihB h (fun V h=>?_) (fun V h=>?_)
 ·refine sh fol kAc ?_;refine Goes.ret ?_;obtain rfl:=si h;exact(gw2 [.bool false] (Ua tB))
 refine Goes.skip ?_;refine sq ?_;refine sh fol [(16,vl qf l),(17,.i (l.length:Int)),(18,.i 0)] ?_;refine Goes.block ?_;obtain⟨F,g6,h⟩:=bnd h;refine Goes.imp (Q:=fun x s'=>(x= .exit 0/\(.inl ())=F/\Sub s' (ofG 76 [],[]))\/(x= .ret/\ ∃P,(.inr P)=F/\jb ZT [.tmp 2] (.bool P) .ret s')) ?_ ?_
 ·refine Uc (fun M s=> ∃(d:Int),s=(ofG 76 (kR l (l.length:Int) d []),[])/\kw N l M d=some F) ?_ (m:=N) ⟨_,rfl,g6⟩;rintro M s ⟨d,rfl,g6⟩
  cases M with
  |zero=>simp only[kw]at g6;cases g6
  |succ M=>
   rw[kw]at g6;refine sh fol (kR l (l.length:Int) d [(19,.bool (decide (d<(l.length:Int))))]) ?_;refine sq ?_;refine ihD g6 (fun Z g6=>?_) (fun Z g6=>?_)
   ·refine Goes.skip ?_;refine sq (Goes.block ?_);obtain⟨b,w,g6⟩:=bnd g6;refine sq (gq fol [0,1] (kAa (kR l (l.length:Int) d [])) (kB b.Name b.Density b.Twist b.Strength b.Dye []) (ac (iv qh3 qf w) (ac (la qnJ qf w) az)) ?_);refine sg fol (kAa ((5,.ptr 1 0)::(kR l (l.length:Int) d []))) (kB b.Name b.Density b.Twist b.Strength b.Dye (kB b.Name b.Density b.Twist b.Strength b.Dye [])) ?_;refine sq ?_;refine sq ?_;obtain⟨G,a,g6⟩:=bnd g6;refine Goes.cut (s':=(ofG 76 (kAa (kR l (l.length:Int) d [(56,.bool G)])),(kB b.Name b.Density b.Twist b.Strength b.Dye (kB b.Name b.Density b.Twist b.Strength b.Dye [])))) ?_ ?_
    ·obtain⟨a0,e,a⟩:=bnd a;rcases wyB a with⟨n,a⟩|⟨n,a⟩
     ·obtain rfl:=si a;exact tr fol [1,3] (kAa (kR l (l.length:Int) d [(56,.bool true)])) (ac (cv (vF N b e)) (ac (gw n) az))
     obtain⟨a1,g,a⟩:=bnd a;rcases wyB a with⟨p,a⟩|⟨p,a⟩
     ·obtain rfl:=si a;exact tr fol [1,3,5,8] (kAa (kR l (l.length:Int) d [(56,.bool true)])) (ac (cv (vF N b e)) (ac (gw n) (ac (cv (jD N b g)) (ac (gw p) az))))
     rcases wyD a with⟨q,a⟩|⟨q,a⟩
     ·obtain rfl:=si a;exact tr fol [1,3,5,8,14] (kAa (kR l (l.length:Int) d [(56,.bool true)])) (ac (cv (vF N b e)) (ac (gw n) (ac (cv (jD N b g)) (ac (gw p) (ac (gw q) az)))))
     obtain⟨a2,f,a⟩:=bnd a;rcases wyB a with⟨v,a⟩|⟨v,a⟩
     ·obtain rfl:=si a;exact tr fol [1,3,5,8,14,17,19,22] (kAa (kR l (l.length:Int) d [(56,.bool true)])) (ac (cv (vF N b e)) (ac (gw n) (ac (cv (jD N b g)) (ac (gw p) (ac (gw q) (ac (iv qee qh f) (ac (lv 0 qiJ qh f rfl) (ac (gw v) az))))))))
     obtain⟨a3,r,a⟩:=bnd a;rcases wyB a with⟨y,a⟩|⟨y,a⟩
     ·obtain rfl:=si a;exact tr fol [1,3,5,8,14,17,19,22,25,28] (kAa (kR l (l.length:Int) d [(56,.bool true)])) (ac (cv (vF N b e)) (ac (gw n) (ac (cv (jD N b g)) (ac (gw p) (ac (gw q) (ac (iv qee qh f) (ac (lv 0 qiJ qh f rfl) (ac (gw v) (ac (cv (zi N b.Density 6 r)) (ac (gw y) az))))))))))
     obtain⟨H,z,a⟩:=bnd a;obtain rfl:=si a;exact tr fol [1,3,5,8,14,17,19,22,25,28,31] (kAa (kR l (l.length:Int) d [(56,.bool (!H))])) (ac (cv (vF N b e)) (ac (gw n) (ac (cv (jD N b g)) (ac (gw p) (ac (gw q) (ac (iv qee qh f) (ac (lv 0 qiJ qh f rfl) (ac (gw v) (ac (cv (zi N b.Density 6 r)) (ac (gw y) (ac (cv (zi N b.Twist 6 z)) az)))))))))))
    refine ihB g6 (fun I g6=>?_) (fun I g6=>?_)
    ·refine sh fol kAc ?_;refine Goes.ret ?_;obtain rfl:=si g6;exact Or.inr (⟨rfl,_,rfl,(gw2 [.bool false] (Ua tB))⟩)
    refine Goes.skip ?_;refine sh fol (kR l (l.length:Int) d [(58,vl qh b.Strength),(59,.i (b.Strength.length:Int)),(60,.i 0)]) ?_;refine Goes.block ?_;obtain⟨A,g24,g6⟩:=bnd g6;refine Goes.imp (Q:=fun x s'=>(x= .exit 2/\(.inl ())=A/\Sub s' (ofG 76 (kR l (l.length:Int) d []),[]))\/(x= .ret/\ ∃D,(.inr D)=A/\jb ZT [.tmp 2] (.bool D) .ret s')) ?_ ?_
    ·refine Goes.sub (s':=(ofG 76 (kR l (l.length:Int) d [(58,vl qh b.Strength),(59,.i (b.Strength.length:Int)),(60,.i 0)]),[])) (Sub.norm [] [] rfl rfl (.keep (.same (qg qf _)) (.keep (.same nI) (.keep (.same nI) (.keep (.same (qg qh _)) (.keep (.same nI) (.keep (.same nI) .nil)))))) .nil) ?_;refine Uc (fun M s=> ∃(j:Int),s=(ofG 76 (kR l (l.length:Int) d (kAl b.Strength (b.Strength.length:Int) j [])),[])/\ku N b M j=some A) ?_ (m:=N) ⟨_,rfl,g24⟩;rintro M s ⟨j,rfl,g24⟩
     cases M with
     |zero=>simp only[ku]at g24;cases g24
     |succ M=>
      rw[ku]at g24;refine sh fol (kR l (l.length:Int) d (kAl b.Strength (b.Strength.length:Int) j [(61,.bool (decide (j<(b.Strength.length:Int))))])) ?_;refine sq ?_;refine ihD g24 (fun J g24=>?_) (fun J g24=>?_)
      ·refine Goes.skip ?_;refine sq (Goes.block ?_);obtain⟨o,t,g24⟩:=bnd g24;refine sq (gq fol [0,1] ((7,.ptr 0 0)::(kR l (l.length:Int) d (kAl b.Strength (b.Strength.length:Int) j []))) (kAC o.X o.Y []) (ac (iv qee qh t) (ac (la qmm qh t) az)) ?_);refine sq ?_;obtain⟨K,c,g24⟩:=bnd g24;refine Goes.cut (s':=(ofG 76 (kR l (l.length:Int) d (kAl b.Strength (b.Strength.length:Int) j [(73,.bool K)])),(kAC o.X o.Y []))) ?_ ?_
       ·obtain⟨a4,u,c⟩:=bnd c;rcases wyB c with⟨B,c⟩|⟨B,c⟩
        ·obtain rfl:=si c;exact tr fol [2,4] (kR l (l.length:Int) d (kAl b.Strength (b.Strength.length:Int) j [(73,.bool true)])) (ac (cv (zi N o.X 6 u)) (ac (gw B) az))
        obtain⟨L,C,c⟩:=bnd c;obtain rfl:=si c;exact tr fol [2,4,7] (kR l (l.length:Int) d (kAl b.Strength (b.Strength.length:Int) j [(73,.bool (!L))])) (ac (cv (zi N o.X 6 u)) (ac (gw B) (ac (cv (zi N o.Y 6 C)) az)))
       refine ihB g24 (fun O g24=>?_) (fun O g24=>?_)
       ·refine sh fol kAc ?_;refine Goes.ret ?_;obtain rfl:=si g24;exact Or.inr (⟨rfl,_,rfl,(gw2 [.bool false] (Ua tB))⟩)
       refine Goes.skip ?_;refine gh fol (kR l (l.length:Int) d (kAl b.Strength (b.Strength.length:Int) (w64 (j+1)) [])) ?_;exact⟨M,(ofG 76 (kR l (l.length:Int) d (kAl b.Strength (b.Strength.length:Int) (w64 (j+1)) [])),[]),Nat.lt_succ_self _,(Sub.norm [] [] rfl rfl (.keep (.same (qg qf _)) (.keep (.same nI) (.keep (.same nI) (.keep (.same (qg qh _)) (.keep (.same nI) (.keep (.same nI) .nil)))))) .nil),_,rfl,g24⟩
      refine Goes.exit ?_;obtain rfl:=si g24;exact Or.inl (⟨rfl,rfl,(Sub.keep [16,17,18] rfl rfl)⟩)
    rintro x s' (⟨rfl,rfl,hsub⟩|⟨rfl,a5,rfl,hret⟩)
    ·try dsimp only at g6
     refine Goes.sub hsub ?_;refine gh fol (kR l (l.length:Int) (w64 (d+1)) []) ?_;exact⟨M,(ofG 76 (kR l (l.length:Int) (w64 (d+1)) []),[]),Nat.lt_succ_self _,(Sub.refl _),_,rfl,g6⟩
    try dsimp only at g6
    obtain rfl:=si g6;exact Or.inr (⟨rfl,_,rfl,hret⟩)
   refine Goes.exit ?_;obtain rfl:=si g6;exact Or.inl (⟨rfl,rfl,(Sub.keep [] rfl rfl)⟩)
 rintro x s' (⟨rfl,rfl,hsub⟩|⟨rfl,a6,rfl,hret⟩)
 ·try dsimp only at h
  refine Goes.sub hsub ?_;refine sh fol kBP ?_;refine Goes.ret ?_;obtain rfl:=si h;exact(gw2 [.bool true] (Ua tB))
 try dsimp only at h
 obtain rfl:=si h;exact hret
def qbl (N:Nat) (a:Str) (b:Str):Option Str:=
 (vX N a).bind fun c=>
 (vX N b).bind fun d=>
 (if c.2.2=true then
 some d.2.2
 else
 some false:Option Bool).bind fun j=>
 if j=true then
 (qdA N (w64 (c.1*d.1)) (w64 (c.2.1*d.2.1))).bind fun k=>
 some k
 else
 (jV N a).bind fun h=>
 (jV N b).bind fun i=>
 (xq N h.1 i.1).bind fun e=>
 (xq N h.2 i.2).bind fun f=>
 (vT N e f).bind fun g=>
 some g
theorem qco (N:Nat) (a:Str) (b:Str) {res:Str} (h:qbl N a b=some res):qd ZT (.fn 24) (kBF a b) [] (.str res) []:=by
 unfold qbl at h;refine Ub Tryz.func24 rfl rfl (m:=55) rfl (rs:=[.tmp 4]) rfl (l:=(kQ a b [])) rfl ?_;refine sh fol (kQ a b []) ?_;obtain⟨d,o,h⟩:=bnd h;refine sq (gr fol [1] (kQ a b [(5,.i d.1),(6,.i d.2.1),(7,.bool d.2.2)]) (ac (cv (qbs N a o)) az) ?_);obtain⟨e,p,h⟩:=bnd h;refine sq (gr fol [1] (kQ a b ((5,.i d.1)::(6,.i d.2.1)::(7,.bool d.2.2)::(kAr e.1 e.2.1 [(10,.bool e.2.2)]))) (ac (cv (qbs N b p)) az) ?_);refine sq ?_;refine sq ?_;obtain⟨z,c,h⟩:=bnd h;refine Goes.cut (s':=(ofG 55 (kQ a b ((5,.i d.1)::(6,.i d.2.1)::(kAr e.1 e.2.1 [(30,.bool z)]))),[])) ?_ ?_
 ·rcases wyB c with⟨u,c⟩|⟨u,c⟩
  ·obtain rfl:=si c;exact tr fol [1] (kQ a b ((5,.i d.1)::(6,.i d.2.1)::(kAr e.1 e.2.1 [(30,.bool e.2.2)]))) (ac (gw u) az)
  obtain rfl:=si c;exact tr fol [1] (kQ a b ((5,.i d.1)::(6,.i d.2.1)::(kAr e.1 e.2.1 [(30,.bool false)]))) (ac (gw u) az)
 refine ihB h (fun A h=>?_) (fun A h=>?_)
 ·obtain⟨y,q,h⟩:=bnd h;refine sq (gr fol [6] (kBb y) (ac (cv (qhf N (w64 (d.1*e.1)) (w64 (d.2.1*e.2.1)) q)) az) ?_);refine Goes.ret ?_;obtain rfl:=si h;exact(gw2 [.str y] (Ua tS))
 refine Goes.skip ?_;obtain⟨f,r,h⟩:=bnd h;refine sq (gq fol [1] [(1,.str b),(11,.ptr 0 0),(12,.ptr 1 0)] (kL f.1.neg f.1.w f.2.neg f.2.w []) (ac (cv (xH N a r)) az) ?_);obtain⟨n,s,h⟩:=bnd h;refine sq (gq fol [1] [(11,.ptr 0 0),(12,.ptr 1 0),(13,.ptr 2 0),(14,.ptr 3 0)] (kL f.1.neg f.1.w f.2.neg f.2.w (kL n.1.neg n.1.w n.2.neg n.2.w [])) (ac (cv (xH N b s)) az) ?_);obtain⟨v,g,h⟩:=bnd h;obtain⟨x,j,h⟩:=bnd h;obtain⟨t,k,h⟩:=bnd h;refine sq (gr fol [2,5,6] (kBb t) (ac (cv (qaJ N f.1 n.1 g)) (ac (cv (qaJ N f.2 n.2 j)) (ac (cv (qap N v x k)) az))) ?_);refine Goes.ret ?_;obtain rfl:=si h;exact(gw2 [.str t] (Ua tS))
def qcv (N:Nat) (y:qw) (length:Str):Option (Str×Int):=
 (zR N y).bind fun c=>
 (jQ N length).bind fun d=>
 (zQ N ([c,d]:List Int)).bind fun a=>
 if(!decide (a=0))=true then
 some ([],a)
 else
 (jH N y.Density).bind fun e=>
 (jH N length).bind fun f=>
 (qaV N e f).bind fun g=>
 (qaG N g).bind fun b=>
 some (b.1,b.2)
theorem qgh (N:Nat) (y:qw) (length:Str) {res:Str×Int} (h:qcv N y length=some res):qd ZT (.fn 25) (kAj y.Name y.Density y.Twist y.Strength y.Dye [.str length]) [] (.tuple [.str res.1,.i res.2]) []:=by
 unfold qcv at h;refine Ub Tryz.func25 rfl rfl (m:=25) rfl (rs:=[.tmp 4,.tmp 5]) rfl (l:=(kAf y.Name y.Density y.Twist y.Strength y.Dye [(1,.str length)])) rfl ?_;refine sg fol ((1,.str length)::(kU [])) (kB y.Name y.Density y.Twist y.Strength y.Dye []) ?_;refine sq ?_;obtain⟨k,b,h⟩:=bnd h;obtain⟨n,c,h⟩:=bnd h;obtain⟨a,d,h⟩:=bnd h;refine sq (gq fol [1,3,5] ((1,.str length)::(kU [(6,.i a)])) (kB y.Name y.Density y.Twist y.Strength y.Dye (kAx k n)) (ac (cv (qdk N y b)) (ac (cv (qcc N length c)) (ac (hs (.call 41 [.slice 1 0 2 2 1] (kB y.Name y.Density y.Twist y.Strength y.Dye (kAx k n)) [1] [vl encI ([k,n]:List Int)] (.i a)) (qeo (FzL.cons (Fz.lit rfl rfl (Ue (AllST.cons tI (AllST.cons tI AllST.nil)))) FzL.nil) (qao N ([k,n]:List Int) d) tI rfl)) az))) ?_);refine sh fol ((1,.str length)::(kU [(6,.i a),(14,.bool (!decide (a=0)))])) ?_;refine ihB h (fun p h=>?_) (fun p h=>?_)
 ·refine sh fol ((4,.str [])::(kA8 a)) ?_;refine Goes.ret ?_;obtain rfl:=si h;exact(gw2 [.str [],.i a] (FzW.tuple (qj.cons (Ua tS) (qj.cons (Ua tI) qj.nil))))
 refine Goes.skip ?_;obtain⟨q,e,h⟩:=bnd h;obtain⟨r,f,h⟩:=bnd h;obtain⟨s,g,h⟩:=bnd h;obtain⟨o,j,h⟩:=bnd h;refine sq (gr fol [2,4,5,6] ((4,.str o.1)::(kA8 o.2)) (ac (cv (jZ N y.Density e)) (ac (cv (jZ N length f)) (ac (cv (qet N q r g)) (ac (cv (qcI N s j)) az)))) ?_);refine Goes.ret ?_;obtain rfl:=si h;exact(gw2 [.str o.1,.i o.2] (FzW.tuple (qj.cons (Ua tS) (qj.cons (Ua tI) qj.nil))))
def xI (N:Nat) (a:Str):Option Str:=
 (jV N a).bind fun b=>
 (vT N b.2 b.1).bind fun c=>
 some c
theorem qfv (N:Nat) (a:Str) {res:Str} (h:xI N a=some res):qd ZT (.fn 81) [.str a] [] (.str res) []:=by
 unfold xI at h;refine Ub Tryz.func81 rfl rfl (m:=13) rfl (rs:=[.tmp 2]) rfl (l:=(kAI a)) rfl ?_;refine sh fol (kAI a) ?_;obtain⟨b,c,h⟩:=bnd h;refine sq (gq fol [1] [(3,.ptr 0 0),(4,.ptr 1 0)] (kL b.1.neg b.1.w b.2.neg b.2.w []) (ac (cv (xH N a c)) az) ?_);obtain⟨e,d,h⟩:=bnd h;refine sq (gr fol [2] [(2,.str e)] (ac (cv (qap N b.2 b.1 d)) az) ?_);refine Goes.ret ?_;obtain rfl:=si h;exact(gw2 [.str e] (Ua tS))
def qcz (N:Nat) (a:Str) (b:Str):Option Str:=
 (xI N b).bind fun c=>
 (qbl N a c).bind fun d=>
 some d
theorem qkq (N:Nat) (a:Str) (b:Str) {res:Str} (h:qcz N a b=some res):qd ZT (.fn 26) (kBF a b) [] (.str res) []:=by
 unfold qcz at h;refine Ub Tryz.func26 rfl rfl (m:=9) rfl (rs:=[.tmp 4]) rfl (l:=(kQ a b [])) rfl ?_;refine sh fol (kQ a b []) ?_;obtain⟨f,c,h⟩:=bnd h;obtain⟨e,d,h⟩:=bnd h;refine sq (gr fol [2,3] (kBb e) (ac (cv (qfv N b c)) (ac (cv (qco N a f d)) az)) ?_);refine Goes.ret ?_;obtain rfl:=si h;exact(gw2 [.str e] (Ua tS))
end Go.Av
