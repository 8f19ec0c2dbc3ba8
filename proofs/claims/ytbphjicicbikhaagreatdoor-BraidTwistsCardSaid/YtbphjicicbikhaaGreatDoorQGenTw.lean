/-
  The walk of the law.
-/
import Derived.Test.YtbphjicicbikhaaGreatDoorQGenTw2
import Derived.Test.YtbphjicicbikhaaGreatDoorAvAwkB7
noncomputable section
namespace Go.Av
open Go.Proofs Go.RowKit
set_option linter.unusedSectionVars false
set_option linter.unusedVariables false
set_option linter.unusedSimpArgs false
set_option maxRecDepth 100000
def awk:Option Bool:=some true
theorem qfV {res:Bool} (h:awk=some res):qd ZT (.fn 10) [] [] (.bool res) []:=by
 obtain rfl:=si h
 exact qp0
def zX (a:Int):Nat->(List Int)->Int->Option (List Int)
 |0,_,_=>none
 |K+1,c,b=>
  if b<a then
  (app 8 c [b]).bind fun d=>
  zX a K d (w64 (b+1))
  else
  some c
def qai (N:Nat) (a:Int):Option (List Int):=
 (zX a N ([]:List Int) 0).bind fun b=>
 some b
theorem qeC (N:Nat) (a:Int) {g:List Int} (h:qai N a=some g):qd ZT (.fn 54) [.i a] [] (.gslice 0 g.length 1) (kA g []):=by
 unfold qai at h
 refine Uq Tryz.func54 rfl rfl (m:=15) rfl (rs:=[.tmp 2]) rfl (l:=[(0,.i a)]) rfl ?_
 intro B hB
 refine sh fol [(0,.i a)] ?_
 refine sh fol [(0,.i a),(3,.nilslice)] ?_
 refine sq ?_
 refine sh fol [(0,.i a),(3,.nilslice),(4,.i 0)] ?_
 refine Goes.block ?_
 obtain⟨j,g5,h⟩:=bnd h
 refine Goes.imp (Q:=fun x s'=>(x= .exit 0/\ ∃e,e=j/\Sub s' (ofG 15 (kAG e []),(kA e [])))) ?_ ?_
 ·refine Goes.sub (s':=(ofG 15 [(0,.i a),(3,.gslice 0 ([]:List Int).length 1),(4,.i 0)],kAK)) (Sub.norm [] [none] (by rw[hB];rfl) rfl (.keep (.same nI) (.keep .nil (.keep (.same nI) .nil))) (.fresh .nil)) ?_
  refine Ue (fun M s=> ∃(c:List Int) (b:Int),s=(ofG 15 ((0,.i a)::(kAG c [(4,.i b)])),(kA c []))/\zX a M c b=some j) ?_ (m:=N) ⟨_,_,rfl,g5⟩
  rintro M s ⟨c,b,rfl,g5⟩
  cases M with
  |zero=>simp only[zX]at g5;cases g5
  |succ M=>
   rw[zX]at g5
   refine sq ?_
   refine sh fol ((0,.i a)::(kAG c [(4,.i b),(7,.bool (decide (b<a)))])) ?_
   refine ihD g5 (fun k g5=>?_) (fun k g5=>?_)
   ·refine Goes.skip ?_
    refine sq (Goes.block ?_)
    obtain⟨d,f,g5⟩:=bnd g5
    refine gq fol [3] [(0,.i a),(3,.gslice 2 d.length 1),(4,.i b)] (.dead::(kAM b (kA d []))) (ac (hs (.run [0,1] (y9 ZT [22,22] (.gslice 0 c.length 1) (.slice 1 0 1 1 1)) (kA c (kAM b [])) (.gslice 2 d.length 1) (.dead::(kAM b (kA d []))) true) (qcl xx (E:=encI) rfl (qg7 (E:=encI) (ys:=[b]) rfl rfl rfl rfl) (qg6 (E:=encI) (l:=c) rfl rfl rfl f rfl))) az) ?_
    refine gh fol [(0,.i a),(3,.gslice 2 d.length 1),(4,.i (w64 (b+1)))] ?_
    exact⟨M,(ofG 15 ((0,.i a)::(kAG d [(4,.i (w64 (b+1)))])),(kA d [])),Nat.lt_succ_self _,(Sub.norm [] [some 2] (by rw[hB];rfl) rfl (.keep (.same nI) (.keep (.gslice rfl) (.keep (.same nI) .nil))) (.ks .nil)),_,_,rfl,g5⟩
   refine Goes.exit ?_
   obtain rfl:=si g5
   exact⟨rfl,_,rfl,(Sub.keep [3] rfl rfl)⟩
 rintro x s' ⟨rfl,e,rfl,hsub⟩
 refine Goes.sub hsub ?_
 refine sh fol [(2,.gslice 0 e.length 1)] ?_
 refine Goes.ret ?_
 obtain rfl:=si h
 exact(gh2 [.gslice 0 e.length 1] (qch.refl _ _))
def zV (n:Int) (p:List Int) (c:(List (List Int))×Int) (b:Int):Nat->Int->Option (Unit⊕Bool)
 |0,_=>none
 |K+1,a=>
  if a<n then
  (idx p b).bind fun d=>
  (idx p a).bind fun e=>
  ((if d>e then
  some 1
  else
  some 0:Option Int)).bind fun f=>
  (idx c.1 b).bind fun g=>
  (idx g a).bind fun h=>
  if(!decide (h=f))=true then
  some (.inr false)
  else
  zV n p c b K (w64 (a+1))
  else
  some (.inl ())
def zT (N:Nat) (n:Int) (p:List Int) (b:(List (List Int))×Int):Nat->Int->Option (Unit⊕Bool)
 |0,_=>none
 |K+1,a=>
  if a<n then
  (zV n p b a N (w64 (a+1))).bind (fun
  |(.inl ())=>
  zT N n p b K (w64 (a+1))
  |(.inr c)=>
  some (.inr c))
  else
  some (.inl ())
def qa3 (N:Nat) (n:Int) (p:List Int) (w:List Int):Option Bool:=
 ((awk).bind fun I=>
 if(!I)=true then
 some true
 else
 if n<1 then
 some true
 else
 if n>6 then
 some true
 else
 if(!decide ((p.length:Int)=n))=true then
 some true
 else
 (qaT N p).bind fun J=>
 if(!decide (J=0))=true then
 some true
 else
 (qdI N n w 6 6).bind fun K=>
 some (!K):Option Bool).bind fun L=>
 if L=true then
 (awk).bind fun o=>
 some o
 else
 (qbe N n p).bind fun c=>
 (qcG N n c.1).bind fun f=>
 (qcz N n c.1).bind fun d=>
 (if(!decide ((w64 ((w64 (c.2+f.2))+d.2))=0))=true then
 some true
 else
 (yP N f.1 p).bind fun q=>
 if(!q)=true then
 some true
 else
 (qbF N d.1 n).bind fun r=>
 if(!r)=true then
 some true
 else
 (qag N n c.1).bind fun s=>
 some (!decide (s=0)):Option Bool).bind fun t=>
 if t=true then
 some false
 else
 (zT N n p d N 0).bind (fun
 |(.inl ())=>
 (qaF N n).bind fun u=>
 (qbe N n u).bind fun b=>
 (qcM N n w).bind fun g=>
 (xI N n b.1 w).bind fun e=>
 (xI N n g.1 b.1).bind fun h=>
 (qbB N n e.1 h.1).bind fun i=>
 (xI N n b.1 e.1).bind fun j=>
 (xI N n w b.1).bind fun k=>
 (xI N n k.1 b.1).bind fun l=>
 (qbB N n j.1 l.1).bind fun m=>
 (qbL N n c.1).bind fun a=>
 (if(!decide ((w64 ((w64 ((w64 ((w64 ((w64 ((w64 ((w64 ((w64 ((w64 (b.2+g.2))+e.2))+h.2))+i.2))+j.2))+k.2))+l.2))+m.2))+a.2))=0))=true then
 some true
 else
 if(!i.1)=true then
 some true
 else
 some (!m.1):Option Bool).bind fun v=>
 if v=true then
 some false
 else
 (if n=1 then
 some true
 else
 (qai N n).bind fun x=>
 (yP N p x).bind fun y=>
 some y:Option Bool).bind fun z=>
 if z=true then
 (if a.1.Half=0 then
 some (decide ((a.1.Factors.length:Int)=0))
 else
 some false:Option Bool).bind fun A=>
 some A
 else
 (qaF N n).bind fun B=>
 (yP N p B).bind fun C=>
 if C=true then
 (if a.1.Half=1 then
 some (decide ((a.1.Factors.length:Int)=0))
 else
 some false:Option Bool).bind fun D=>
 some D
 else
 (if a.1.Half=0 then
 if(a.1.Factors.length:Int)=1 then
 (idx a.1.Factors 0).bind fun E=>
 (yP N E p).bind fun F=>
 some F
 else
 some false
 else
 some false:Option Bool).bind fun G=>
 some G
 |(.inr H)=>
 some H)
theorem qeY (N:Nat) (n:Int) (p:List Int) (w:List Int) {res:Bool} (h:qa3 N n p w=some res):qd ZT (.fn 8) (.i n::(kAR p w)) [] (.bool res) []:=by
 unfold qa3 at h
 refine Uc Tryz.func8 rfl rfl (m:=281) rfl (rs:=[.tmp 6]) rfl (l:=(kC n p [(2,vl encI w)])) rfl ?_
 refine sh fol (kC n p [(2,vl encI w)]) ?_
 refine sq ?_
 refine sq ?_
 obtain⟨b9,a,h⟩:=bnd h
 refine Goes.cut (s':=(ofG 281 (kC n p [(2,vl encI w),(62,.bool b9)]),[])) ?_ ?_
 ·obtain⟨r1,z,a⟩:=bnd a
  rcases wyB a with⟨c2,a⟩|⟨c2,a⟩
  ·obtain rfl:=si a
   exact tr fol [0,2] (kC n p (kAP w)) (ac (cv (qfV z)) (ac (gw c2) az))
  rcases wyD a with⟨c3,a⟩|⟨c3,a⟩
  ·obtain rfl:=si a
   exact tr fol [0,2,6] (kC n p (kAP w)) (ac (cv (qfV z)) (ac (gw c2) (ac (gw c3) az)))
  rcases wyD a with⟨c4,a⟩|⟨c4,a⟩
  ·obtain rfl:=si a
   exact tr fol [0,2,6,10] (kC n p (kAP w)) (ac (cv (qfV z)) (ac (gw c2) (ac (gw c3) (ac (gw c4) az))))
  rcases wyB a with⟨c5,a⟩|⟨c5,a⟩
  ·obtain rfl:=si a
   exact tr fol [0,2,6,10,16] (kC n p (kAP w)) (ac (cv (qfV z)) (ac (gw c2) (ac (gw c3) (ac (gw c4) (ac (gw c5) az)))))
  obtain⟨r6,Z,a⟩:=bnd a
  rcases wyB a with⟨c7,a⟩|⟨c7,a⟩
  ·obtain rfl:=si a
   exact tr fol [0,2,6,10,16,18,21] (kC n p (kAP w)) (ac (cv (qfV z)) (ac (gw c2) (ac (gw c3) (ac (gw c4) (ac (gw c5) (ac (cv (qcP N p Z)) (ac (gw c7) az)))))))
  obtain⟨r8,e_r8,a⟩:=bnd a
  obtain rfl:=si a
  exact tr fol [0,2,6,10,16,18,21,24] (kC n p [(2,vl encI w),(62,.bool (!r8))]) (ac (cv (qfV z)) (ac (gw c2) (ac (gw c3) (ac (gw c4) (ac (gw c5) (ac (cv (qcP N p Z)) (ac (gw c7) (ac (cv (qjW N n w 6 6 e_r8)) az))))))))
 refine ihB h (fun c11 h=>?_) (fun c11 h=>?_)
 ·obtain⟨r12,e_r12,h⟩:=bnd h
  refine sq (gr fol [0] [(6,.bool r12)] (ac (cv (qfV e_r12)) az) ?_)
  refine Goes.ret ?_
  obtain rfl:=si h
  exact(gw2 [.bool r12] (Ua tB))
 refine Goes.skip ?_
 obtain⟨b,e_r13,h⟩:=bnd h
 refine sq (gr fol [2] (kC n p (kJ w b.1 [(8,.i b.2)])) (ac (cv (qeh N n p e_r13)) az) ?_)
 obtain⟨C,e_r14,h⟩:=bnd h
 refine sq (gr fol [2] (kC n p (kJ w b.1 [(8,.i b.2),(9,vl encI C.1),(10,.i C.2)])) (ac (cv (qiY N n b.1 e_r14)) az) ?_)
 obtain⟨d,e_r15,h⟩:=bnd h
 refine sq (gr fol [2] (kC n p (kJ w b.1 [(8,.i b.2),(9,vl encI C.1),(10,.i C.2),(11,vl (qc encI) d.1),(12,.i d.2)])) (ac (cv (qiO N n b.1 e_r15)) az) ?_)
 refine sq ?_
 refine sq ?_
 obtain⟨b22,c,h⟩:=bnd h
 refine Goes.cut (s':=(ofG 281 (kC n p (kJ w b.1 [(11,vl (qc encI) d.1),(105,.bool b22)])),[])) ?_ ?_
 ·rcases wyB c with⟨H,c⟩|⟨H,c⟩
  ·obtain rfl:=si c
   exact tr fol [6] (kC n p (kJ w b.1 [(11,vl (qc encI) d.1),(105,.bool true)])) (ac (gw H) az)
  obtain⟨r17,D,c⟩:=bnd c
  rcases wyB c with⟨V,c⟩|⟨V,c⟩
  ·obtain rfl:=si c
   exact tr fol [6,9,12] (kC n p (kJ w b.1 [(11,vl (qc encI) d.1),(105,.bool true)])) (ac (gw H) (ac (cv (xh N C.1 p D)) (ac (gw V) az)))
  obtain⟨r19,I,c⟩:=bnd c
  rcases wyB c with⟨c20,c⟩|⟨c20,c⟩
  ·obtain rfl:=si c
   exact tr fol [6,9,12,15,18] (kC n p (kJ w b.1 [(11,vl (qc encI) d.1),(105,.bool true)])) (ac (gw H) (ac (cv (xh N C.1 p D)) (ac (gw V) (ac (cv (qel N d.1 n I)) (ac (gw c20) az)))))
  obtain⟨r21,e_r21,c⟩:=bnd c
  obtain rfl:=si c
  exact tr fol [6,9,12,15,18,21] (kC n p (kJ w b.1 [(11,vl (qc encI) d.1),(105,.bool (!decide (r21=0)))])) (ac (gw H) (ac (cv (xh N C.1 p D)) (ac (gw V) (ac (cv (qel N d.1 n I)) (ac (gw c20) (ac (cv (qcR N n b.1 e_r21)) az))))))
 refine ihB h (fun c24 h=>?_) (fun c24 h=>?_)
 ·refine sh fol kAL ?_
  refine Goes.ret ?_
  obtain rfl:=si h
  exact(gw2 [.bool false] (Ua tB))
 refine Goes.skip ?_
 refine sq ?_
 refine sh fol (kC n p (kJ w b.1 [(11,vl (qc encI) d.1),(13,.i 0)])) ?_
 refine Goes.block ?_
 obtain⟨r26,g26,h⟩:=bnd h
 refine Goes.imp (Q:=fun x s'=>(x= .exit 0/\(.inl ())=r26/\Sub s' (ofG 281 (kC n p (kJ w b.1 [])),[]))\/(x= .ret/\ ∃q27,(.inr q27)=r26/\vK ZT [.tmp 6] (.bool q27) .ret s')) ?_ ?_
 ·refine Ue (fun M s=> ∃(j:Int),s=(ofG 281 (kC n p (kJ w b.1 [(11,vl (qc encI) d.1),(13,.i j)])),[])/\zT N n p d M j=some r26) ?_ (m:=N) ⟨_,rfl,g26⟩
  rintro M s ⟨j,rfl,g26⟩
  cases M with
  |zero=>simp only[zT]at g26;cases g26
  |succ M=>
   rw[zT]at g26
   refine sq ?_
   refine sh fol (kC n p (kJ w b.1 [(11,vl (qc encI) d.1),(13,.i j),(108,.bool (decide (j<n)))])) ?_
   refine ihD g26 (fun c28 g26=>?_) (fun c28 g26=>?_)
   ·refine Goes.skip ?_
    refine sq (Goes.block ?_)
    refine sh fol (kC n p (kJ w b.1 [(11,vl (qc encI) d.1),(13,.i j),(14,.i (w64 (j+1)))])) ?_
    refine Goes.block ?_
    obtain⟨r30,g30,g26⟩:=bnd g26
    refine Goes.imp (Q:=fun x s'=>(x= .exit 2/\(.inl ())=r30/\Sub s' (ofG 281 (kC n p (kJ w b.1 [(11,vl (qc encI) d.1),(13,.i j)])),[]))\/(x= .ret/\ ∃q31,(.inr q31)=r30/\vK ZT [.tmp 6] (.bool q31) .ret s')) ?_ ?_
    ·refine Ue (fun M s=> ∃(r:Int),s=(ofG 281 (kC n p (kJ w b.1 [(11,vl (qc encI) d.1),(13,.i j),(14,.i r)])),[])/\zV n p d j M r=some r30) ?_ (m:=N) ⟨_,rfl,g30⟩
     rintro M s ⟨r,rfl,g30⟩
     cases M with
     |zero=>simp only[zV]at g30;cases g30
     |succ M=>
      rw[zV]at g30
      refine sq ?_
      refine sh fol (kC n p (kJ w b.1 [(11,vl (qc encI) d.1),(13,.i j),(14,.i r),(115,.bool (decide (r<n)))])) ?_
      refine ihD g30 (fun c32 g30=>?_) (fun c32 g30=>?_)
      ·refine Goes.skip ?_
       refine sq (Goes.block ?_)
       refine sh fol (kC n p (kJ w b.1 [(11,vl (qc encI) d.1),(13,.i j),(14,.i r),(15,.i 0)])) ?_
       refine sq ?_
       obtain⟨x33,J,g30⟩:=bnd g30
       obtain⟨x34,K,g30⟩:=bnd g30
       refine sq (gr fol [2,3,6,7] (kC n p (kJ w b.1 [(11,vl (qc encI) d.1),(13,.i j),(14,.i r),(15,.i 0),(126,.bool (decide (x33>x34)))])) (ac (iv xx encI J) (ac (lv 0 ce3 encI J rfl) (ac (iv xx encI K) (ac (lv 0 ce3 encI K rfl) az)))) ?_)
       obtain⟨r36,g36,g30⟩:=bnd g30
       refine Goes.imp (Q:=fun x s'=>(x= .normal/\ ∃W,W=r36/\Sub s' (ofG 281 (kC n p (kJ w b.1 [(11,vl (qc encI) d.1),(13,.i j),(14,.i r),(15,.i W)])),[]))) ?_ ?_
       ·refine ihD g36 (fun c37 g36=>?_) (fun c37 g36=>?_)
        ·refine gh fol (kC n p (kJ w b.1 [(11,vl (qc encI) d.1),(13,.i j),(14,.i r),(15,.i 1)])) ?_
         obtain rfl:=si g36
         exact⟨rfl,_,rfl,(Sub.refl _)⟩
        refine Goes.skip ?_
        obtain rfl:=si g36
        exact⟨rfl,_,rfl,(Sub.keep [0,1,2,7,11,13,14,15] rfl rfl)⟩
       rintro x s' ⟨rfl,W,rfl,hsub⟩
       refine Goes.sub hsub ?_
       obtain⟨x38,L,g30⟩:=bnd g30
       obtain⟨x39,O,g30⟩:=bnd g30
       refine sq (gr fol [2,3,5,6] (kC n p (kJ w b.1 [(11,vl (qc encI) d.1),(13,.i j),(14,.i r),(135,.bool (!decide (x39=W)))])) (ac (iv qhh (qc encI) L) (ac (lv 0 qkh (qc encI) L rfl) (ac (iv xx encI O) (ac (lv 0 ce3 encI O rfl) az)))) ?_)
       refine ihB g30 (fun c40 g30=>?_) (fun c40 g30=>?_)
       ·refine sh fol kAL ?_
        refine Goes.ret ?_
        obtain rfl:=si g30
        exact Or.inr (⟨rfl,_,rfl,(gw2 [.bool false] (Ua tB))⟩)
       refine Goes.skip ?_
       refine gh fol (kC n p (kJ w b.1 [(11,vl (qc encI) d.1),(13,.i j),(14,.i (w64 (r+1)))])) ?_
       exact⟨M,(ofG 281 (kC n p (kJ w b.1 [(11,vl (qc encI) d.1),(13,.i j),(14,.i (w64 (r+1)))])),[]),Nat.lt_succ_self _,(Sub.refl _),_,rfl,g30⟩
      refine Goes.exit ?_
      obtain rfl:=si g30
      exact Or.inl (⟨rfl,rfl,(Sub.keep [0,1,2,7,11,13] rfl rfl)⟩)
    rintro x s' (⟨rfl,rfl,hsub⟩|⟨rfl,q41,rfl,hret⟩)
    ·try dsimp only at g26
     refine Goes.sub hsub ?_
     refine gh fol (kC n p (kJ w b.1 [(11,vl (qc encI) d.1),(13,.i (w64 (j+1)))])) ?_
     exact⟨M,(ofG 281 (kC n p (kJ w b.1 [(11,vl (qc encI) d.1),(13,.i (w64 (j+1)))])),[]),Nat.lt_succ_self _,(Sub.refl _),_,rfl,g26⟩
    try dsimp only at g26
    obtain rfl:=si g26
    exact Or.inr (⟨rfl,_,rfl,hret⟩)
   refine Goes.exit ?_
   obtain rfl:=si g26
   exact Or.inl (⟨rfl,rfl,(Sub.keep [0,1,2,7] rfl rfl)⟩)
 rintro x s' (⟨rfl,rfl,hsub⟩|⟨rfl,q80,rfl,hret⟩)
 ·try dsimp only at h
  refine Goes.sub hsub ?_
  obtain⟨r42,e_r42,h⟩:=bnd h
  obtain⟨g,e_r43,h⟩:=bnd h
  refine sq (gr fol [2,3] (kC n p (kJ w b.1 [(16,vl encI g.1),(17,.i g.2)])) (ac (cv (qc9 N n e_r42)) (ac (cv (qeh N n r42 e_r43)) az)) ?_)
  obtain⟨t,e_r44,h⟩:=bnd h
  refine sq (gr fol [2] (kC n p (kJ w b.1 [(16,vl encI g.1),(17,.i g.2),(18,vl encI t.1),(19,.i t.2)])) (ac (cv (qiM N n w e_r44)) az) ?_)
  obtain⟨q,e_r45,h⟩:=bnd h
  refine sq (gr fol [3] (kC n p (kJ w b.1 [(16,vl encI g.1),(17,.i g.2),(18,vl encI t.1),(19,.i t.2),(20,vl encI q.1),(21,.i q.2)])) (ac (cv (qaP N n g.1 w e_r45)) az) ?_)
  obtain⟨A,e_r46,h⟩:=bnd h
  refine sq (gr fol [3] (kC n p (kJ w b.1 [(16,vl encI g.1),(17,.i g.2),(19,.i t.2),(20,vl encI q.1),(21,.i q.2),(22,vl encI A.1),(23,.i A.2)])) (ac (cv (qaP N n t.1 g.1 e_r46)) az) ?_)
  obtain⟨u,e_r47,h⟩:=bnd h
  refine sq (gr fol [3] (kC n p (kJ w b.1 [(16,vl encI g.1),(17,.i g.2),(19,.i t.2),(20,vl encI q.1),(21,.i q.2),(23,.i A.2),(24,.bool u.1),(25,.i u.2)])) (ac (cv (qeX N n q.1 A.1 e_r47)) az) ?_)
  obtain⟨B,e_r48,h⟩:=bnd h
  refine sq (gr fol [3] (kC n p (kJ w b.1 ((16,vl encI g.1)::(kAI g.2 t.2 q.2 A.2 u.1 u.2 [(26,vl encI B.1),(27,.i B.2)])))) (ac (cv (qaP N n g.1 q.1 e_r48)) az) ?_)
  obtain⟨G,e_r49,h⟩:=bnd h
  refine sq (gr fol [3] (kC n p ((7,vl encI b.1)::(16,vl encI g.1)::(kAI g.2 t.2 q.2 A.2 u.1 u.2 [(26,vl encI B.1),(27,.i B.2),(28,vl encI G.1),(29,.i G.2)]))) (ac (cv (qaP N n w g.1 e_r49)) az) ?_)
  obtain⟨P,e_r50,h⟩:=bnd h
  refine sq (gr fol [3] (kC n p ((7,vl encI b.1)::(kAI g.2 t.2 q.2 A.2 u.1 u.2 [(26,vl encI B.1),(27,.i B.2),(29,.i G.2),(30,vl encI P.1),(31,.i P.2)]))) (ac (cv (qaP N n G.1 g.1 e_r50)) az) ?_)
  obtain⟨T,e_r51,h⟩:=bnd h
  refine sq (gr fol [3] (kC n p ((7,vl encI b.1)::(kAI g.2 t.2 q.2 A.2 u.1 u.2 [(27,.i B.2),(29,.i G.2),(31,.i P.2),(32,.bool T.1),(33,.i T.2)]))) (ac (cv (qeX N n B.1 P.1 e_r51)) az) ?_)
  obtain⟨f,e_r52,h⟩:=bnd h
  refine sq (gq fol [2] (kC n p (kAI g.2 t.2 q.2 A.2 u.1 u.2 [(27,.i B.2),(29,.i G.2),(31,.i P.2),(32,.bool T.1),(33,.i T.2),(34,.ptr 0 0),(35,.i f.2)])) [.cells [.i f.1.Half,vl (qc encI) f.1.Factors]] (ac (cv (qhg N n b.1 e_r52)) az) ?_)
  refine sq ?_
  refine sq ?_
  obtain⟨b55,k,h⟩:=bnd h
  refine Goes.cut (s':=(ofG 281 (kC n p [(34,.ptr 0 0),(231,.bool b55)]),[.cells [.i f.1.Half,vl (qc encI) f.1.Factors]])) ?_ ?_
  ·rcases wyB k with⟨X,k⟩|⟨X,k⟩
   ·obtain rfl:=si k
    exact tr fol [20] (kC n p [(34,.ptr 0 0),(231,.bool true)]) (ac (gw X) az)
   rcases wyB k with⟨c54,k⟩|⟨c54,k⟩
   ·obtain rfl:=si k
    exact tr fol [20,24] (kC n p [(34,.ptr 0 0),(231,.bool true)]) (ac (gw X) (ac (gw c54) az))
   obtain rfl:=si k
   exact tr fol [20,24] (kC n p [(34,.ptr 0 0),(231,.bool (!T.1))]) (ac (gw X) (ac (gw c54) az))
  refine ihB h (fun c57 h=>?_) (fun c57 h=>?_)
  ·refine sh fol kAL ?_
   refine Goes.ret ?_
   obtain rfl:=si h
   exact(gw2 [.bool false] (Ua tB))
  refine Goes.skip ?_
  refine sq (Goes.block ?_)
  refine sq ?_
  obtain⟨b62,o,h⟩:=bnd h
  refine Goes.cutS (s':=(ofG 281 (kC n p [(34,.ptr 0 0),(232,.bool b62)]),[.cells [.i f.1.Half,vl (qc encI) f.1.Factors]])) ?_ ?_
  ·rcases wyD o with⟨c58,o⟩|⟨c58,o⟩
   ·obtain rfl:=si o
    exact qaI.sub (tr fol [2] (kC n p [(34,.ptr 0 0),(232,.bool true)]) (ac (gw c58) az)) (Sub.refl _)
   obtain⟨F,e_r59,o⟩:=bnd o
   obtain⟨r61,e_r61,o⟩:=bnd o
   obtain rfl:=si o
   exact qaI.sub (qaI.rq fol [2,5,6] (kC n p [(34,.ptr 0 0),(232,.bool r61)]) (.cells [.i f.1.Half,vl (qc encI) f.1.Factors]::(kA F [])) (ac (gw c58) (ac (hs (.callH 54 [.i n] [.cells [.i f.1.Half,vl (qc encI) f.1.Factors]] [] (.gslice 1 F.length 1) (.cells [.i f.1.Half,vl (qc encI) f.1.Factors]::(kA F []))) (qaY [] [none,some 0] (qeC N n e_r59) .nil rfl rfl (.old rfl rfl (.new rfl rfl (.same fa) rfl .nil)) (rc (.same nI) rn) (.gslice rfl) rfl)) (ac (hs (.call 37 [vl encI p,.gslice 1 F.length 1] (.cells [.i f.1.Half,vl (qc encI) f.1.Factors]::(kA F [])) [1] (kAR p F) (.bool r61)) (qfS (FzL.cons (Up (jQ encI _ (nl rfl))) (FzL.cons (Fz.gs (E:=encI) rfl rfl (nl rfl)) FzL.nil)) (xh N p F e_r61) tB rfl)) az)))) (Sub.norm [] [some 0] rfl rfl (.keep (.same nI) (.keep (.same (qD encI _)) (.kp (.keep (.same nB) .nil)))) (.kb rfl (.same sn) .nil))
  intro _ hsub
  refine Goes.sub hsub ?_
  refine ihB h (fun c64 h=>?_) (fun c64 h=>?_)
  ·refine sq ?_
   obtain⟨b66,v,h⟩:=bnd h
   refine Goes.cut (s':=(ofG 281 [(6,.bool b66)],[.cells [.i f.1.Half,vl (qc encI) f.1.Factors]])) ?_ ?_
   ·rcases wyD v with⟨c65,v⟩|⟨c65,v⟩
    ·obtain rfl:=si v
     exact tr fol [3] [(6,.bool (decide ((f.1.Factors.length:Int)=0)))] (ac (gw c65) az)
    obtain rfl:=si v
    exact tr fol [3] kAL (ac (gw c65) az)
   refine Goes.ret ?_
   obtain rfl:=si h
   exact(gw2 [.bool b66] (Ua tB))
  obtain⟨r68,e_r68,h⟩:=bnd h
  obtain⟨r69,e_r69,h⟩:=bnd h
  refine sq (gr fol [2,3] [(1,vl encI p),(34,.ptr 0 0),(250,.bool r69)] (ac (cv (qc9 N n e_r68)) (ac (cv (xh N p r68 e_r69)) az)) ?_)
  refine ihB h (fun c70 h=>?_) (fun c70 h=>?_)
  ·refine sq ?_
   obtain⟨b72,y,h⟩:=bnd h
   refine Goes.cut (s':=(ofG 281 [(6,.bool b72)],[.cells [.i f.1.Half,vl (qc encI) f.1.Factors]])) ?_ ?_
   ·rcases wyD y with⟨c71,y⟩|⟨c71,y⟩
    ·obtain rfl:=si y
     exact tr fol [3] [(6,.bool (decide ((f.1.Factors.length:Int)=0)))] (ac (gw c71) az)
    obtain rfl:=si y
    exact tr fol [3] kAL (ac (gw c71) az)
   refine Goes.ret ?_
   obtain rfl:=si h
   exact(gw2 [.bool b72] (Ua tB))
  refine Goes.skip ?_
  refine sq ?_
  obtain⟨b78,e,h⟩:=bnd h
  refine Goes.cut (s':=(ofG 281 [(6,.bool b78)],[.cells [.i f.1.Half,vl (qc encI) f.1.Factors]])) ?_ ?_
  ·rcases wyD e with⟨Y,e⟩|⟨Y,e⟩
   ·rcases wyD e with⟨c75,e⟩|⟨c75,e⟩
    ·obtain⟨x76,U,e⟩:=bnd e
     obtain⟨r77,e_r77,e⟩:=bnd e
     obtain rfl:=si e
     exact tr fol [3,9,12,13,15] [(6,.bool r77)] (ac (gw Y) (ac (gw c75) (ac (iv qhh (qc encI) U) (ac (lv 0 qkh (qc encI) U rfl) (ac (cv (xh N x76 p e_r77)) az)))))
    obtain rfl:=si e
    exact tr fol [3,9] kAL (ac (gw Y) (ac (gw c75) az))
   obtain rfl:=si e
   exact tr fol [3] kAL (ac (gw Y) az)
  refine Goes.ret ?_
  obtain rfl:=si h
  exact(gw2 [.bool b78] (Ua tB))
 try dsimp only at h
 obtain rfl:=si h
 exact hret
end Go.Av
