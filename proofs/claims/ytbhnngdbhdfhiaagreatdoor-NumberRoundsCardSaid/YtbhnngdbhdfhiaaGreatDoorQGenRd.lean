/-
  The walk of the law.
-/
import Derived.Test.YtbhnngdbhdfhiaaGreatDoorQGenRd2
import Derived.Test.YtbhnngdbhdfhiaaGreatDoorAvAwkG
noncomputable section
namespace Go.Av
open Go.Proofs Go.RowKit
set_option linter.unusedSectionVars false
set_option linter.unusedVariables false
set_option linter.unusedSimpArgs false
set_option maxRecDepth 100000
def awk:Option Bool:=some true
theorem qbs {res:Bool} (h:awk=some res):qc ZT (.fn 5) [] [] (.bool res) []:=by
 obtain rfl:=si h
 exact qml
def qz (p:List Int) (a:List Int):Nat->(List Bool)->Int->Option ((List Bool)⊕Bool)
 |0,_,_=>none
 |K+1,c,d=>
  if d<(a.length:Int)then
  (idx a d).bind fun b=>
  ((idx a 0).bind fun e=>
  if b<e then
  some true
  else
  if b>=(p.length:Int)then
  some true
  else
  (idx c b).bind fun f=>
  if f=true then
  some true
  else
  (idx p b).bind fun g=>
  (qaU .i64 (w64 (d+1)) (a.length:Int)).bind fun h=>
  (idx a h).bind fun i=>
  some (!decide (g=i)):Option Bool).bind fun j=>
  if j=true then
  some (.inr false)
  else
  (idx c b).bind fun l=>
  (put c b true).bind fun k=>
  qz p a K k (w64 (d+1))
  else
  some (.inl c)
def qL (N:Nat) (p:List Int) (b:(List (List Int))×Int):Nat->(List Bool)->Int->Int->Option ((List Bool)⊕Bool)
 |0,_,_,_=>none
 |K+1,d,c,e=>
  if c<(b.1.length:Int)then
  (idx b.1 c).bind fun a=>
  (if(a.length:Int)=0 then
  some true
  else
  (idx a 0).bind fun f=>
  some (decide (f<=e)):Option Bool).bind fun g=>
  if g=true then
  some (.inr false)
  else
  (idx a 0).bind fun h=>
  (qz p a N d 0).bind (fun
  |(.inl i)=>
  qL N p b K i (w64 (c+1)) h
  |(.inr j)=>
  some (.inr j))
  else
  some (.inl d)
def kw (a:List Bool):Nat->Int->Option (Unit⊕Bool)
 |0,_=>none
 |K+1,b=>
  if b<(a.length:Int)then
  (idx a b).bind fun c=>
  if(!c)=true then
  some (.inr false)
  else
  kw a K (w64 (b+1))
  else
  some (.inl ())
def kr (N:Nat) (p:List Int) (b:Str×Int):Nat->(List Int)->Int->Option (Unit⊕Bool)
 |0,_,_=>none
 |K+1,d,a=>
  if a<=60 then
  (jN N d p).bind fun c=>
  (jH N (p.length:Int)).bind fun e=>
  (qW N c e).bind fun f=>
  if f=true then
  (vO N a).bind fun g=>
  if(!(b.1==g))=true then
  some (.inr false)
  else
  some (.inl ())
  else
  (vO N a).bind fun h=>
  if(b.1==h)=true then
  some (.inr false)
  else
  kr N p b K c (w64 (a+1))
  else
  some (.inl ())
def vz (N:Nat) (p:List Int) (k:Int) (n:Int):Option Bool:=
 ((awk).bind fun z=>
 if(!z)=true then
 some true
 else
 if(p.length:Int)>12 then
 some true
 else
 (zh N p).bind fun A=>
 if(!decide (A=0))=true then
 some true
 else
 if k<(-40)then
 some true
 else
 if k>40 then
 some true
 else
 if n<(-40)then
 some true
 else
 some (decide (n>40)):Option Bool).bind fun B=>
 if B=true then
 (awk).bind fun h=>
 some h
 else
 (yC N p).bind fun c=>
 (yA N p).bind fun d=>
 (vT N p).bind fun e=>
 (vX N p e.1).bind fun f=>
 (if(!decide ((w64 ((w64 ((w64 (c.2+d.2))+e.2))+f.2))=0))=true then
 some true
 else
 (jH N (p.length:Int)).bind fun i=>
 (qW N f.1 i).bind fun j=>
 some (!j):Option Bool).bind fun l=>
 if l=true then
 some false
 else
 (mk 1 (p.length:Int) false).bind fun m=>
 (qL N p c N m 0 (-1)).bind (fun
 |(.inl o)=>
 (kw o N 0).bind (fun
 |(.inl ())=>
 (jH N (p.length:Int)).bind fun q=>
 (kr N p d N q 1).bind (fun
 |(.inl ())=>
 (vE N p k).bind fun a=>
 (vE N p n).bind fun b=>
 (vE N p (w64 (k+n))).bind fun g=>
 (if(!decide ((w64 ((w64 (a.2+b.2))+g.2))=0))=true then
 some true
 else
 (zh N a.1).bind fun r=>
 if(!decide (r=0))=true then
 some true
 else
 (zh N b.1).bind fun s=>
 if(!decide (s=0))=true then
 some true
 else
 if(!decide ((a.1.length:Int)=(p.length:Int)))=true then
 some true
 else
 some (!decide ((b.1.length:Int)=(p.length:Int))):Option Bool).bind fun t=>
 if t=true then
 some false
 else
 (jN N a.1 b.1).bind fun u=>
 (qW N u g.1).bind fun v=>
 some v
 |(.inr w)=>
 some w)
 |(.inr x)=>
 some x)
 |(.inr y)=>
 some y)
theorem qbn (N:Nat) (p:List Int) (k:Int) (n:Int) {res:Bool} (h:vz N p k n=some res):qc ZT (.fn 4) [vl encI p,.i k,.i n] [] (.bool res) []:=by
 unfold vz at h
 refine Ub Tryz.func4 rfl rfl (m:=250) rfl (rs:=[.tmp 6]) rfl (l:=(kH p k n [])) rfl ?_
 refine sh fol (kH p k n []) ?_
 refine sq ?_
 refine sq ?_
 obtain⟨b9,b,h⟩:=bnd h
 refine Goes.cut (s':=(ofG 250 (kH p k n [(58,.bool b9)]),[])) ?_ ?_
 ·obtain⟨r1,G,b⟩:=bnd b
  rcases wyB b with⟨c2,b⟩|⟨c2,b⟩
  ·obtain rfl:=si b
   exact tr fol [0,2] (kH p k n [(58,.bool true)]) (ac (cv (qbs G)) (ac (gw c2) az))
  rcases wyD b with⟨c3,b⟩|⟨c3,b⟩
  ·obtain rfl:=si b
   exact tr fol [0,2,7] (kH p k n [(58,.bool true)]) (ac (cv (qbs G)) (ac (gw c2) (ac (gw c3) az)))
  obtain⟨r4,L,b⟩:=bnd b
  rcases wyB b with⟨c5,b⟩|⟨c5,b⟩
  ·obtain rfl:=si b
   exact tr fol [0,2,7,9,12] (kH p k n [(58,.bool true)]) (ac (cv (qbs G)) (ac (gw c2) (ac (gw c3) (ac (cv (qB N p L)) (ac (gw c5) az)))))
  rcases wyD b with⟨c6,b⟩|⟨c6,b⟩
  ·obtain rfl:=si b
   exact tr fol [0,2,7,9,12,16] (kH p k n [(58,.bool true)]) (ac (cv (qbs G)) (ac (gw c2) (ac (gw c3) (ac (cv (qB N p L)) (ac (gw c5) (ac (gw c6) az))))))
  rcases wyD b with⟨c7,b⟩|⟨c7,b⟩
  ·obtain rfl:=si b
   exact tr fol [0,2,7,9,12,16,20] (kH p k n [(58,.bool true)]) (ac (cv (qbs G)) (ac (gw c2) (ac (gw c3) (ac (cv (qB N p L)) (ac (gw c5) (ac (gw c6) (ac (gw c7) az)))))))
  rcases wyD b with⟨c8,b⟩|⟨c8,b⟩
  ·obtain rfl:=si b
   exact tr fol [0,2,7,9,12,16,20,24] (kH p k n [(58,.bool true)]) (ac (cv (qbs G)) (ac (gw c2) (ac (gw c3) (ac (cv (qB N p L)) (ac (gw c5) (ac (gw c6) (ac (gw c7) (ac (gw c8) az))))))))
  obtain rfl:=si b
  exact tr fol [0,2,7,9,12,16,20,24] (kH p k n [(58,.bool (decide (n>40)))]) (ac (cv (qbs G)) (ac (gw c2) (ac (gw c3) (ac (cv (qB N p L)) (ac (gw c5) (ac (gw c6) (ac (gw c7) (ac (gw c8) az))))))))
 refine ihB h (fun c11 h=>?_) (fun c11 h=>?_)
 ·obtain⟨r12,e_r12,h⟩:=bnd h
  refine sq (gr fol [0] [(6,.bool r12)] (ac (cv (qbs e_r12)) az) ?_)
  refine Goes.ret ?_
  obtain rfl:=si h
  exact(gw2 [.bool r12] (Ua tB))
 refine Goes.skip ?_
 obtain⟨a,e_r13,h⟩:=bnd h
 refine sq (gr fol [1] (kH p k n [(7,vl (qF encI) a.1),(8,.i a.2)]) (ac (cv (qdi N p e_r13)) az) ?_)
 obtain⟨c,e_r14,h⟩:=bnd h
 refine sq (gr fol [1] (kH p k n [(7,vl (qF encI) a.1),(8,.i a.2),(9,.str c.1),(10,.i c.2)]) (ac (cv (qcY N p e_r14)) az) ?_)
 obtain⟨b1,e_r15,h⟩:=bnd h
 refine sq (gr fol [1] (kH p k n [(7,vl (qF encI) a.1),(8,.i a.2),(9,.str c.1),(10,.i c.2),(11,vl encI b1.1),(12,.i b1.2)]) (ac (cv (qcN N p e_r15)) az) ?_)
 obtain⟨r16,e_r16,h⟩:=bnd h
 refine sq (gr fol [2] (kH p k n [(7,vl (qF encI) a.1),(8,.i a.2),(9,.str c.1),(10,.i c.2),(12,.i b1.2),(13,vl encI r16.1),(14,.i r16.2)]) (ac (cv (qcF N p b1.1 e_r16)) az) ?_)
 refine sq ?_
 refine sq ?_
 obtain⟨b20,q,h⟩:=bnd h
 refine Goes.cut (s':=(ofG 250 (kH p k n [(7,vl (qF encI) a.1),(9,.str c.1),(96,.bool b20)]),[])) ?_ ?_
 ·rcases wyB q with⟨c17,q⟩|⟨c17,q⟩
  ·obtain rfl:=si q
   exact tr fol [8] (kH p k n [(7,vl (qF encI) a.1),(9,.str c.1),(96,.bool true)]) (ac (gw c17) az)
  obtain⟨r18,e_r18,q⟩:=bnd q
  obtain⟨r19,e_r19,q⟩:=bnd q
  obtain rfl:=si q
  exact tr fol [8,12,13] (kH p k n [(7,vl (qF encI) a.1),(9,.str c.1),(96,.bool (!r19))]) (ac (gw c17) (ac (cv (yQ N (p.length:Int) e_r18)) (ac (cv (yU N r16.1 r18 e_r19)) az)))
 refine ihB h (fun c22 h=>?_) (fun c22 h=>?_)
 ·refine sh fol kAp ?_
  refine Goes.ret ?_
  obtain rfl:=si h
  exact(gw2 [.bool false] (Ua tB))
 refine Goes.skip ?_
 obtain⟨H,e_l23,h⟩:=bnd h
 refine sq (gq fol [2] (kH p k n [(7,vl (qF encI) a.1),(9,.str c.1),(15,.slice 0 0 H.length H.length 1)]) (kP H []) (ac (hs (.run [] (zC ZT 45 (.i (p.length:Int)) (.i (p.length:Int))) [] (.slice 0 0 H.length H.length 1) (kP H []) false) (qaz qge (E:=qcT) (z:=false) rfl (by kernel_rfl) e_l23 rfl)) az) ?_)
 refine sh fol (kH p k n [(7,vl (qF encI) a.1),(9,.str c.1),(15,.slice 0 0 H.length H.length 1),(16,.i (-1))]) ?_
 refine sq ?_
 refine sh fol (kD p k n c.1 H [(16,.i (-1)),(100,vl (qF encI) a.1),(101,.i (a.1.length:Int)),(102,.i 0)]) ?_
 refine Goes.block ?_
 obtain⟨r28,g28,h⟩:=bnd h
 refine Goes.imp (Q:=fun x s'=>(x= .exit 0/\ ∃j,(.inl j)=r28/\Sub s' (ofG 250 (kD p k n c.1 j []),(kP j [])))\/(x= .ret/\ ∃q29,(.inr q29)=r28/\jF ZT [.tmp 6] (.bool q29) .ret s')) ?_ ?_
 ·refine Uc (fun M s=> ∃(C:List Bool) (o:Int) (V:Int),s=(ofG 250 (kD p k n c.1 C ((16,.i V)::(100,vl (qF encI) a.1)::(kAg (a.1.length:Int) o []))),(kP C []))/\qL N p a M C o V=some r28) ?_ (m:=N) ⟨_,_,_,rfl,g28⟩
  rintro M s ⟨C,o,V,rfl,g28⟩
  cases M with
  |zero=>simp only[qL]at g28;cases g28
  |succ M=>
   rw[qL]at g28
   refine sh fol (kD p k n c.1 C ((16,.i V)::(100,vl (qF encI) a.1)::(kAg (a.1.length:Int) o [(103,.bool (decide (o<(a.1.length:Int))))]))) ?_
   refine sq ?_
   refine ihD g28 (fun c30 g28=>?_) (fun c30 g28=>?_)
   ·refine Goes.skip ?_
    refine sq (Goes.block ?_)
    obtain⟨d,Z,g28⟩:=bnd g28
    refine sq (gr fol [0,1] (kD p k n c.1 C (kAI V d ((100,vl (qF encI) a.1)::(kAg (a.1.length:Int) o [])))) (ac (iv sl24 (qF encI) Z) (ac (lv 0 ce22 (qF encI) Z rfl) az)) ?_)
    refine sq ?_
    refine sq ?_
    obtain⟨b34,w,g28⟩:=bnd g28
    refine Goes.cut (s':=(ofG 250 (kD p k n c.1 C ((18,vl encI d)::(100,vl (qF encI) a.1)::(kAg (a.1.length:Int) o [(115,.bool b34)]))),(kP C []))) ?_ ?_
    ·rcases wyD w with⟨c32,w⟩|⟨c32,w⟩
     ·obtain rfl:=si w
      exact tr fol [3] (kD p k n c.1 C ((18,vl encI d)::(100,vl (qF encI) a.1)::(kAg (a.1.length:Int) o [(115,.bool true)]))) (ac (gw c32) az)
     obtain⟨x33,a0,w⟩:=bnd w
     obtain rfl:=si w
     exact tr fol [3,5,6] (kD p k n c.1 C ((18,vl encI d)::(100,vl (qF encI) a.1)::(kAg (a.1.length:Int) o [(115,.bool (decide (x33<=V)))]))) (ac (gw c32) (ac (iv vK encI a0) (ac (lv 0 ce3 encI a0 rfl) az)))
    refine ihB g28 (fun c36 g28=>?_) (fun c36 g28=>?_)
    ·refine sh fol kAp ?_
     refine Goes.ret ?_
     obtain rfl:=si g28
     exact Or.inr (⟨rfl,_,rfl,(gw2 [.bool false] (Ua tB))⟩)
    refine Goes.skip ?_
    obtain⟨r,a1,g28⟩:=bnd g28
    refine sq (gr fol [1,2] (kD p k n c.1 C (kAI r d ((100,vl (qF encI) a.1)::(kAg (a.1.length:Int) o [])))) (ac (iv vK encI a1) (ac (lv 0 ce3 encI a1 rfl) az)) ?_)
    refine sh fol (kD p k n c.1 C (kAI r d ((100,vl (qF encI) a.1)::(kAg (a.1.length:Int) o [(119,vl encI d),(120,.i (d.length:Int)),(121,.i 0)])))) ?_
    refine Goes.block ?_
    obtain⟨r41,g41,g28⟩:=bnd g28
    refine Goes.imp (Q:=fun x s'=>(x= .exit 2/\ ∃P,(.inl P)=r41/\Sub s' (ofG 250 (kD p k n c.1 P ((16,.i r)::(100,vl (qF encI) a.1)::(kAg (a.1.length:Int) o []))),(kP P [])))\/(x= .ret/\ ∃q42,(.inr q42)=r41/\jF ZT [.tmp 6] (.bool q42) .ret s')) ?_ ?_
    ·refine Uc (fun M s=> ∃(g:List Bool) (t:Int),s=(ofG 250 (kD p k n c.1 g (kAI r d ((100,vl (qF encI) a.1)::(kM (a.1.length:Int) o d (d.length:Int) t [])))),(kP g []))/\qz p d M g t=some r41) ?_ (m:=N) ⟨_,_,rfl,g41⟩
     rintro M s ⟨g,t,rfl,g41⟩
     cases M with
     |zero=>simp only[qz]at g41;cases g41
     |succ M=>
      rw[qz]at g41
      refine sh fol (kD p k n c.1 g (kAI r d ((100,vl (qF encI) a.1)::(kM (a.1.length:Int) o d (d.length:Int) t [(122,.bool (decide (t<(d.length:Int))))])))) ?_
      refine sq ?_
      refine ihD g41 (fun c43 g41=>?_) (fun c43 g41=>?_)
      ·refine Goes.skip ?_
       refine sq (Goes.block ?_)
       obtain⟨A,a2,g41⟩:=bnd g41
       refine sq (gr fol [1,2] (kD p k n c.1 g (kAI r d ((19,.i t)::(20,.i A)::(100,vl (qF encI) a.1)::(kM (a.1.length:Int) o d (d.length:Int) t [])))) (ac (iv vK encI a2) (ac (lv 0 ce3 encI a2 rfl) az)) ?_)
       refine sq ?_
       refine sq ?_
       obtain⟨b53,e,g41⟩:=bnd g41
       refine Goes.cut (s':=(ofG 250 (kD p k n c.1 g (kAI r d ((20,.i A)::(100,vl (qF encI) a.1)::(kM (a.1.length:Int) o d (d.length:Int) t [(157,.bool b53)])))),(kP g []))) ?_ ?_
       ·obtain⟨x45,u,e⟩:=bnd e
        rcases wyD e with⟨a3,e⟩|⟨a3,e⟩
        ·obtain rfl:=si e
         exact tr fol [2,3,5] (kD p k n c.1 g (kAI r d ((20,.i A)::(100,vl (qF encI) a.1)::(kM (a.1.length:Int) o d (d.length:Int) t [(157,.bool true)])))) (ac (iv vK encI u) (ac (lv 0 ce3 encI u rfl) (ac (gw a3) az)))
        rcases wyD e with⟨b2,e⟩|⟨b2,e⟩
        ·obtain rfl:=si e
         exact tr fol [2,3,5,11] (kD p k n c.1 g (kAI r d ((20,.i A)::(100,vl (qF encI) a.1)::(kM (a.1.length:Int) o d (d.length:Int) t [(157,.bool true)])))) (ac (iv vK encI u) (ac (lv 0 ce3 encI u rfl) (ac (gw a3) (ac (gw b2) az))))
        obtain⟨x48,I,e⟩:=bnd e
        rcases wyB e with⟨c49,e⟩|⟨c49,e⟩
        ·obtain rfl:=si e
         exact tr fol [2,3,5,11,14,15,17] (kD p k n c.1 g (kAI r d ((20,.i A)::(100,vl (qF encI) a.1)::(kM (a.1.length:Int) o d (d.length:Int) t [(157,.bool true)])))) (ac (iv vK encI u) (ac (lv 0 ce3 encI u rfl) (ac (gw a3) (ac (gw b2) (ac (hs (.done (.opt (qd ZT 45 (.slice 0 0 g.length g.length 1) (.i A))) (.ptr 0 ((A:Int).toNat*1+0))) (vQ qge I)) (ac (hs (.run [0] (zJ ZT 4 (.ptr 0 ((A:Int).toNat*1+0))) (kP g []) (.bool x48) (kP g []) false) (qax ce4 (E:=qcT) (l:=g) rfl rfl I (nl rfl) rfl)) (ac (gw c49) az)))))))
        obtain⟨x50,a4,e⟩:=bnd e
        obtain⟨q51,e_q51,e⟩:=bnd e
        obtain⟨x52,a5,e⟩:=bnd e
        obtain rfl:=si e
        exact tr fol [2,3,5,11,14,15,17,20,21,27,28,29] (kD p k n c.1 g (kAI r d ((20,.i A)::(100,vl (qF encI) a.1)::(kM (a.1.length:Int) o d (d.length:Int) t [(157,.bool (!decide (x50=x52)))])))) (ac (iv vK encI u) (ac (lv 0 ce3 encI u rfl) (ac (gw a3) (ac (gw b2) (ac (hs (.done (.opt (qd ZT 45 (.slice 0 0 g.length g.length 1) (.i A))) (.ptr 0 ((A:Int).toNat*1+0))) (vQ qge I)) (ac (hs (.run [0] (zJ ZT 4 (.ptr 0 ((A:Int).toNat*1+0))) (kP g []) (.bool x48) (kP g []) false) (qax ce4 (E:=qcT) (l:=g) rfl rfl I (nl rfl) rfl)) (ac (gw c49) (ac (iv vK encI a4) (ac (lv 0 ce3 encI a4 rfl) (ac (hs (.done (.opt (zn ZT .rem 3 (.tmp 150) (.tmp 152) (.i (w64 (t+1))) (.i (d.length:Int)))) (.i q51)) (qbY e_q51)) (ac (iv vK encI a5) (ac (lv 0 ce3 encI a5 rfl) az))))))))))))
       refine ihB g41 (fun c55 g41=>?_) (fun c55 g41=>?_)
       ·refine sh fol kAp ?_
        refine Goes.ret ?_
        obtain rfl:=si g41
        exact Or.inr (⟨rfl,_,rfl,(gw2 [.bool false] (Ua tB))⟩)
       refine Goes.skip ?_
       obtain⟨x56,a6,g41⟩:=bnd g41
       obtain⟨O,a7,g41⟩:=bnd g41
       refine gq fol [2,3] (kD p k n c.1 g (kAI r d ((100,vl (qF encI) a.1)::(kM (a.1.length:Int) o d (d.length:Int) t [])))) (kP O []) (ac (hs (.done (.opt (qd ZT 45 (.slice 0 0 g.length g.length 1) (.i A))) (.ptr 0 ((A:Int).toNat*1+0))) (vQ qge a6)) (ac (hs (.run [0] (qp ZT 4 (.ptr 0 ((A:Int).toNat*1+0)) (.bool true)) (kP g []) .undef (kP O []) true) (yY (E:=qcT) (l:=g) (y:=true) rfl (show _=some 1 by kernel_rfl) rfl a6 rfl rfl rfl rfl rfl a7 rfl)) az)) ?_
       refine Goes.sub (show Sub (ofG 250 (kD p k n c.1 g (kAI r d ((100,vl (qF encI) a.1)::(kM (a.1.length:Int) o d (d.length:Int) t [])))),(kP O [])) (ofG 250 (kD p k n c.1 O (kAI r d ((100,vl (qF encI) a.1)::(kM (a.1.length:Int) o d (d.length:Int) t [])))),(kP O []))from(Sub.norm [] [some 0] rfl rfl (.keep (.same (qf encI _)) (.keep (.same nI) (.keep (.same nI) (.keep (.same nS) (.keep (.sliceE rfl (vG a7)) (.keep (.same nI) (.keep (.same (qf encI _)) (.keep (.same (qf (qF encI) _)) (.keep (.same nI) (.keep (.same nI) (.keep (.same (qf encI _)) (.keep (.same nI) (.keep (.same nI) .nil))))))))))))) (.ks .nil))) ?_
       refine gh fol (kD p k n c.1 O (kAI r d ((100,vl (qF encI) a.1)::(kM (a.1.length:Int) o d (d.length:Int) (w64 (t+1)) [])))) ?_
       exact⟨M,(ofG 250 (kD p k n c.1 O (kAI r d ((100,vl (qF encI) a.1)::(kM (a.1.length:Int) o d (d.length:Int) (w64 (t+1)) [])))),(kP O [])),Nat.lt_succ_self _,(Sub.refl _),_,_,rfl,g41⟩
      refine Goes.exit ?_
      obtain rfl:=si g41
      exact Or.inl (⟨rfl,_,rfl,(Sub.keep [0,1,2,9,15,16,100,101,102] rfl rfl)⟩)
    rintro x s' (⟨rfl,P,rfl,hsub⟩|⟨rfl,q58,rfl,hret⟩)
    ·try dsimp only at g28
     refine Goes.sub hsub ?_
     refine gh fol (kD p k n c.1 P ((16,.i r)::(100,vl (qF encI) a.1)::(kAg (a.1.length:Int) (w64 (o+1)) []))) ?_
     exact⟨M,(ofG 250 (kD p k n c.1 P ((16,.i r)::(100,vl (qF encI) a.1)::(kAg (a.1.length:Int) (w64 (o+1)) []))),(kP P [])),Nat.lt_succ_self _,(Sub.refl _),_,_,_,rfl,g28⟩
    try dsimp only at g28
    obtain rfl:=si g28
    exact Or.inr (⟨rfl,_,rfl,hret⟩)
   refine Goes.exit ?_
   obtain rfl:=si g28
   exact Or.inl (⟨rfl,_,rfl,(Sub.keep [0,1,2,9,15] rfl rfl)⟩)
 rintro x s' (⟨rfl,j,rfl,hsub⟩|⟨rfl,q95,rfl,hret⟩)
 ·try dsimp only at h
  refine Goes.sub hsub ?_
  refine sq ?_
  refine sh fol (kH p k n ((9,.str c.1)::(kAH j (j.length:Int) [(165,.i 0)]))) ?_
  refine Goes.block ?_
  obtain⟨r60,g60,h⟩:=bnd h
  refine Goes.imp (Q:=fun x s'=>(x= .exit 4/\(.inl ())=r60/\Sub s' (ofG 250 (kH p k n [(9,.str c.1)]),[]))\/(x= .ret/\ ∃q61,(.inr q61)=r60/\jF ZT [.tmp 6] (.bool q61) .ret s')) ?_ ?_
  ·refine Uc (fun M s=> ∃(D:Int),s=(ofG 250 (kH p k n ((9,.str c.1)::(kAH j (j.length:Int) [(165,.i D)]))),(kP j []))/\kw j M D=some r60) ?_ (m:=N) ⟨_,rfl,g60⟩
   rintro M s ⟨D,rfl,g60⟩
   cases M with
   |zero=>simp only[kw]at g60;cases g60
   |succ M=>
    rw[kw]at g60
    refine sh fol (kH p k n ((9,.str c.1)::(kAH j (j.length:Int) [(165,.i D),(166,.bool (decide (D<(j.length:Int))))]))) ?_
    refine sq ?_
    refine ihD g60 (fun c62 g60=>?_) (fun c62 g60=>?_)
    ·refine Goes.skip ?_
     refine sq (Goes.block ?_)
     obtain⟨x63,a8,g60⟩:=bnd g60
     refine sq (gr fol [0,1] (kH p k n ((9,.str c.1)::(22,.bool x63)::(kAH j (j.length:Int) [(165,.i D)]))) (ac (hs (.done (.opt (qd ZT 45 (.slice 0 0 j.length j.length 1) (.i D))) (.ptr 0 ((D:Int).toNat*1+0))) (vQ qge a8)) (ac (hs (.run [0] (zJ ZT 4 (.ptr 0 ((D:Int).toNat*1+0))) (kP j []) (.bool x63) (kP j []) false) (qax ce4 (E:=qcT) (l:=j) rfl rfl a8 (nl rfl) rfl)) az)) ?_)
     refine sh fol (kH p k n ((9,.str c.1)::(kAH j (j.length:Int) [(165,.i D),(170,.bool (!x63))]))) ?_
     refine ihB g60 (fun c64 g60=>?_) (fun c64 g60=>?_)
     ·refine sh fol kAp ?_
      refine Goes.ret ?_
      obtain rfl:=si g60
      exact Or.inr (⟨rfl,_,rfl,(gw2 [.bool false] (Ua tB))⟩)
     refine Goes.skip ?_
     refine gh fol (kH p k n ((9,.str c.1)::(kAH j (j.length:Int) [(165,.i (w64 (D+1)))]))) ?_
     exact⟨M,(ofG 250 (kH p k n ((9,.str c.1)::(kAH j (j.length:Int) [(165,.i (w64 (D+1)))]))),(kP j [])),Nat.lt_succ_self _,(Sub.refl _),_,rfl,g60⟩
    refine Goes.exit ?_
    obtain rfl:=si g60
    exact Or.inl (⟨rfl,rfl,(Sub.norm [] [] rfl rfl (.keep (.same (qf encI _)) (.keep (.same nI) (.keep (.same nI) (.keep (.same nS) .nil)))) .nil)⟩)
  rintro x s' (⟨rfl,rfl,hsub⟩|⟨rfl,q94,rfl,hret⟩)
  ·try dsimp only at h
   refine Goes.sub hsub ?_
   obtain⟨r65,e_r65,h⟩:=bnd h
   refine sq (gr fol [2] (kH p k n [(9,.str c.1),(23,vl encI r65)]) (ac (cv (yQ N (p.length:Int) e_r65)) az) ?_)
   refine sq ?_
   refine sh fol (kH p k n [(9,.str c.1),(23,vl encI r65),(24,.i 1)]) ?_
   refine Goes.block ?_
   obtain⟨r68,g68,h⟩:=bnd h
   refine Goes.imp (Q:=fun x s'=>(x= .exit 6/\(.inl ())=r68/\Sub s' (ofG 250 (kH p k n []),[]))\/(x= .ret/\ ∃q69,(.inr q69)=r68/\jF ZT [.tmp 6] (.bool q69) .ret s')) ?_ ?_
   ·refine Uc (fun M s=> ∃(a9:List Int) (F:Int),s=(ofG 250 (kH p k n (kAd c.1 a9 F [])),[])/\kr N p c M a9 F=some r68) ?_ (m:=N) ⟨_,_,rfl,g68⟩
    rintro M s ⟨a9,F,rfl,g68⟩
    cases M with
    |zero=>simp only[kr]at g68;cases g68
    |succ M=>
     rw[kr]at g68
     refine sq ?_
     refine sh fol (kH p k n (kAd c.1 a9 F [(176,.bool (decide (F<=60)))])) ?_
     refine ihD g68 (fun c70 g68=>?_) (fun c70 g68=>?_)
     ·refine Goes.skip ?_
      refine sq (Goes.block ?_)
      obtain⟨X,e_r71,g68⟩:=bnd g68
      refine sq (gr fol [2] (kH p k n (kAd c.1 X F [])) (ac (cv (qaM N a9 p e_r71)) az) ?_)
      refine sq ?_
      obtain⟨r72,e_r72,g68⟩:=bnd g68
      obtain⟨r73,e_r73,g68⟩:=bnd g68
      refine sq (gr fol [3,4] (kH p k n (kAd c.1 X F [(186,.bool r73)])) (ac (cv (yQ N (p.length:Int) e_r72)) (ac (cv (yU N X r72 e_r73)) az)) ?_)
      refine ihB g68 (fun c74 g68=>?_) (fun c74 g68=>?_)
      ·refine sq ?_
       obtain⟨r75,e_r75,g68⟩:=bnd g68
       refine sq (gr fol [2] (kH p k n [(190,.bool (!(c.1==r75)))]) (ac (cv (qaJ N F e_r75)) az) ?_)
       refine ihB g68 (fun c76 g68=>?_) (fun c76 g68=>?_)
       ·refine sh fol kAp ?_
        refine Goes.ret ?_
        obtain rfl:=si g68
        exact Or.inr (⟨rfl,_,rfl,(gw2 [.bool false] (Ua tB))⟩)
       refine Goes.skip ?_
       refine Goes.exit ?_
       obtain rfl:=si g68
       exact Or.inl (⟨rfl,rfl,(Sub.keep [0,1,2] rfl rfl)⟩)
      refine Goes.skip ?_
      obtain⟨r77,e_r77,g68⟩:=bnd g68
      refine sq (gr fol [2] (kH p k n (kAd c.1 X F [(194,.bool (c.1==r77))])) (ac (cv (qaJ N F e_r77)) az) ?_)
      refine ihB g68 (fun c78 g68=>?_) (fun c78 g68=>?_)
      ·refine sh fol kAp ?_
       refine Goes.ret ?_
       obtain rfl:=si g68
       exact Or.inr (⟨rfl,_,rfl,(gw2 [.bool false] (Ua tB))⟩)
      refine Goes.skip ?_
      refine gh fol (kH p k n (kAd c.1 X (w64 (F+1)) [])) ?_
      exact⟨M,(ofG 250 (kH p k n (kAd c.1 X (w64 (F+1)) [])),[]),Nat.lt_succ_self _,(Sub.refl _),_,_,rfl,g68⟩
     refine Goes.exit ?_
     obtain rfl:=si g68
     exact Or.inl (⟨rfl,rfl,(Sub.keep [0,1,2] rfl rfl)⟩)
   rintro x s' (⟨rfl,rfl,hsub⟩|⟨rfl,q93,rfl,hret⟩)
   ·try dsimp only at h
    refine Goes.sub hsub ?_
    obtain⟨v,e_r79,h⟩:=bnd h
    refine sq (gr fol [2] (kH p k n (kAX v.1 v.2 [])) (ac (cv (xK N p k e_r79)) az) ?_)
    obtain⟨B,e_r80,h⟩:=bnd h
    refine sq (gr fol [2] (kH p k n (kAX v.1 v.2 [(27,vl encI B.1),(28,.i B.2)])) (ac (cv (xK N p n e_r80)) az) ?_)
    obtain⟨J,e_r81,h⟩:=bnd h
    refine sq (gr fol [4] (kN p (kAX v.1 v.2 [(27,vl encI B.1),(28,.i B.2),(29,vl encI J.1),(30,.i J.2)])) (ac (cv (xK N p (w64 (k+n)) e_r81)) az) ?_)
    refine sq ?_
    refine sq ?_
    obtain⟨b88,f,h⟩:=bnd h
    refine Goes.cut (s':=(ofG 250 [(25,vl encI v.1),(27,vl encI B.1),(29,vl encI J.1),(244,.bool b88)],[])) ?_ ?_
    ·rcases wyB f with⟨Y,f⟩|⟨Y,f⟩
     ·obtain rfl:=si f
      exact tr fol [6] (kAU v.1 B.1 J.1) (ac (gw Y) az)
     obtain⟨r83,K,f⟩:=bnd f
     rcases wyB f with⟨b0,f⟩|⟨b0,f⟩
     ·obtain rfl:=si f
      exact tr fol [6,8,11] (kAU v.1 B.1 J.1) (ac (gw Y) (ac (cv (qB N v.1 K)) (ac (gw b0) az)))
     obtain⟨r85,U,f⟩:=bnd f
     rcases wyB f with⟨b3,f⟩|⟨b3,f⟩
     ·obtain rfl:=si f
      exact tr fol [6,8,11,13,16] (kAU v.1 B.1 J.1) (ac (gw Y) (ac (cv (qB N v.1 K)) (ac (gw b0) (ac (cv (qB N B.1 U)) (ac (gw b3) az)))))
     rcases wyB f with⟨c87,f⟩|⟨c87,f⟩
     ·obtain rfl:=si f
      exact tr fol [6,8,11,13,16,23] (kAU v.1 B.1 J.1) (ac (gw Y) (ac (cv (qB N v.1 K)) (ac (gw b0) (ac (cv (qB N B.1 U)) (ac (gw b3) (ac (gw c87) az))))))
     obtain rfl:=si f
     exact tr fol [6,8,11,13,16,23] [(25,vl encI v.1),(27,vl encI B.1),(29,vl encI J.1),(244,.bool (!decide ((B.1.length:Int)=(p.length:Int))))] (ac (gw Y) (ac (cv (qB N v.1 K)) (ac (gw b0) (ac (cv (qB N B.1 U)) (ac (gw b3) (ac (gw c87) az))))))
    refine ihB h (fun c90 h=>?_) (fun c90 h=>?_)
    ·refine sh fol kAp ?_
     refine Goes.ret ?_
     obtain rfl:=si h
     exact(gw2 [.bool false] (Ua tB))
    refine Goes.skip ?_
    obtain⟨r91,e_r91,h⟩:=bnd h
    obtain⟨r92,e_r92,h⟩:=bnd h
    refine sq (gr fol [2,4] [(6,.bool r92)] (ac (cv (qaM N v.1 B.1 e_r91)) (ac (cv (yU N r91 J.1 e_r92)) az)) ?_)
    refine Goes.ret ?_
    obtain rfl:=si h
    exact(gw2 [.bool r92] (Ua tB))
   try dsimp only at h
   obtain rfl:=si h
   exact hret
  try dsimp only at h
  obtain rfl:=si h
  exact hret
 try dsimp only at h
 obtain rfl:=si h
 exact hret
end Go.Av
