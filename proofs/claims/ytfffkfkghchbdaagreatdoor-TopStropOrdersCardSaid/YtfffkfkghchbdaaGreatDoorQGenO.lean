/-
  The walk of the law.
-/
import Derived.Test.YtfffkfkghchbdaaGreatDoorQGenO3
import Derived.Test.YtfffkfkghchbdaaGreatDoorAvAwkK
noncomputable section
namespace Go.Av
open Go.Proofs Go.RowKit
set_option linter.unusedSectionVars false
set_option linter.unusedVariables false
set_option linter.unusedSimpArgs false
set_option maxRecDepth 100000
def awk:Option Bool:=some true
theorem qlD {res:Bool} (h:awk=some res):qc ZT (.fn 21) [] [] (.bool res) []:=by
 obtain rfl:=si h
 exact qon
def qG (z:(List (List Int))×Int) (A:(List (List Int))×Int) (C:Int×Bool):Nat->Int->Int->Int->Int->Int->Int->Int->Int->Int->Int->Int->Int->Option ((Int×Int×Int×Int×Int×Int×Int×Int×Int×Int×Int)⊕Bool)
 |0,_,_,_,_,_,_,_,_,_,_,_,_=>none
 |K+1,a,b,c,d,e,f,g,h,i,j,k,y=>
  if y<(z.1.length:Int)then
  ((idx z.1 y).bind fun B=>
  if(B.length:Int)<1 then
  some true
  else
  if(B.length:Int)>10 then
  some true
  else
  (idx A.1 y).bind fun D=>
  if(D.length:Int)<1 then
  some true
  else
  if(D.length:Int)>10 then
  some true
  else
  (xk .i64 C.1 (B.length:Int)).bind fun Q=>
  some (!decide (Q=0)):Option Bool).bind fun U=>
  if U=true then
  some (.inr false)
  else
  ((idx z.1 y).bind fun l=>
  if(l.length:Int)=0 then
  some (w64 (a+1),b,d,e,f,g,h,i,j,k,c)
  else
  if(l.length:Int)=1 then
  some (a,w64 (b+1),d,e,f,g,h,i,j,k,c)
  else
  if(l.length:Int)=2 then
  some (a,b,w64 (d+1),e,f,g,h,i,j,k,c)
  else
  if(l.length:Int)=3 then
  some (a,b,d,w64 (e+1),f,g,h,i,j,k,c)
  else
  if(l.length:Int)=4 then
  some (a,b,d,e,w64 (f+1),g,h,i,j,k,c)
  else
  if(l.length:Int)=5 then
  some (a,b,d,e,f,w64 (g+1),h,i,j,k,c)
  else
  if(l.length:Int)=6 then
  some (a,b,d,e,f,g,w64 (h+1),i,j,k,c)
  else
  if(l.length:Int)=7 then
  some (a,b,d,e,f,g,h,w64 (i+1),j,k,c)
  else
  if(l.length:Int)=8 then
  some (a,b,d,e,f,g,h,i,w64 (j+1),k,c)
  else
  if(l.length:Int)=9 then
  some (a,b,d,e,f,g,h,i,j,w64 (k+1),c)
  else
  if(l.length:Int)=10 then
  some (a,b,d,e,f,g,h,i,j,k,w64 (c+1))
  else
  none:Option (Int×Int×Int×Int×Int×Int×Int×Int×Int×Int×Int)).bind fun(m,n,o,p,q,r,s,t,u,v,w)=>
  ((idx A.1 y).bind fun x=>
  if(x.length:Int)=0 then
  some (w64 (m-1),n,o,p,q,r,s,t,u,v,w)
  else
  if(x.length:Int)=1 then
  some (m,w64 (n-1),o,p,q,r,s,t,u,v,w)
  else
  if(x.length:Int)=2 then
  some (m,n,w64 (o-1),p,q,r,s,t,u,v,w)
  else
  if(x.length:Int)=3 then
  some (m,n,o,w64 (p-1),q,r,s,t,u,v,w)
  else
  if(x.length:Int)=4 then
  some (m,n,o,p,w64 (q-1),r,s,t,u,v,w)
  else
  if(x.length:Int)=5 then
  some (m,n,o,p,q,w64 (r-1),s,t,u,v,w)
  else
  if(x.length:Int)=6 then
  some (m,n,o,p,q,r,w64 (s-1),t,u,v,w)
  else
  if(x.length:Int)=7 then
  some (m,n,o,p,q,r,s,w64 (t-1),u,v,w)
  else
  if(x.length:Int)=8 then
  some (m,n,o,p,q,r,s,t,w64 (u-1),v,w)
  else
  if(x.length:Int)=9 then
  some (m,n,o,p,q,r,s,t,u,w64 (v-1),w)
  else
  if(x.length:Int)=10 then
  some (m,n,o,p,q,r,s,t,u,v,w64 (w-1))
  else
  none:Option (Int×Int×Int×Int×Int×Int×Int×Int×Int×Int×Int)).bind fun(E,F,G,H,I,J,L,M,N,O,P)=>
  qG z A C K E F P G H I J L M N O (w64 (y+1))
  else
  some (.inl (a,b,d,e,f,g,h,i,j,k,c))
def qH (N:Nat) (p:List Int) (c:Int×Bool):Nat->Int->Option (Unit⊕Bool)
 |0,_=>none
 |K+1,a=>
  if a<=c.1 then
  (yh N p a).bind fun b=>
  (if(!decide (b.2=0))=true then
  some true
  else
  (yQ N (p.length:Int)).bind fun d=>
  (jJ N b.1 d).bind fun e=>
  some (!(e==(decide (a=c.1)))):Option Bool).bind fun f=>
  if f=true then
  some (.inr false)
  else
  qH N p c K (w64 (a+1))
  else
  some (.inl ())
def jy (N:Nat) (p:List Int) (b:List Int) (k:Int):Option Bool:=
 (if(p.length:Int)>10 then
 some true
 else
 if(!decide ((b.length:Int)=(p.length:Int)))=true then
 some true
 else
 (zM N p).bind fun I=>
 if(!decide (I=0))=true then
 some true
 else
 (zM N b).bind fun J=>
 some (!decide (J=0)):Option Bool).bind fun K=>
 if K=true then
 (awk).bind fun L=>
 some L
 else
 (yE N p).bind fun c=>
 (yO N b).bind fun i=>
 (vL N i.1 p).bind fun j=>
 (vL N j.1 b).bind fun f=>
 (yE N f.1).bind fun l=>
 (jU N p).bind fun g=>
 (jU N f.1).bind fun h=>
 (if(!decide ((w64 ((w64 ((w64 ((w64 ((w64 ((w64 (c.2+i.2))+j.2))+f.2))+l.2))+g.2))+h.2))=0))=true then
 some true
 else
 if(!(c.1==l.1))=true then
 some true
 else
 some (!decide ((g.1.length:Int)=(h.1.length:Int))):Option Bool).bind fun u=>
 if u=true then
 some false
 else
 (xG N c.1).bind fun a=>
 ((xK N c.1).bind fun v=>
 if(!decide (v=0))=true then
 some true
 else
 if(!a.2)=true then
 some true
 else
 if a.1<1 then
 some true
 else
 some (decide (a.1>60)):Option Bool).bind fun w=>
 if w=true then
 some false
 else
 (qG g h a N 0 0 0 0 0 0 0 0 0 0 0 0).bind (fun
 |(.inl (x,y,z,A,B,C,D,E,F,G,H))=>
 if(!decide (([x,y,z,A,B,C,D,E,F,G,H]:List Int)=[0,0,0,0,0,0,0,0,0,0,0]))=true then
 some false
 else
 (qH N p a N 1).bind (fun
 |(.inl ())=>
 (yh N p k).bind fun d=>
 (xk .i64 k a.1).bind fun m=>
 (xk .i64 (w64 (m+a.1)) a.1).bind fun n=>
 (yh N p n).bind fun e=>
 (if(w64 (d.2+e.2))=0 then
 (jJ N d.1 e.1).bind fun o=>
 if o=true then
 (awk).bind fun q=>
 some q
 else
 some false
 else
 some false:Option Bool).bind fun r=>
 some r
 |(.inr s)=>
 some s)
 |(.inr t)=>
 some t)
theorem qaM (N:Nat) (p:List Int) (E:List Int) (k:Int) {res:Bool} (h:jy N p E k=some res):qc ZT (.fn 4) [vl encI p,vl encI E,.i k] [] (.bool res) []:=by
 unfold jy at h
 refine Ub Tryz.func4 rfl rfl (m:=257) rfl (rs:=[.tmp 6]) rfl (l:=(kG p E [(2,.i k)])) rfl ?_
 refine sh fol (kG p E [(2,.i k)]) ?_
 refine sq ?_
 refine sq ?_
 obtain⟨b6,u,h⟩:=bnd h
 refine Goes.cut (s':=(ofG 257 (kG p E [(2,.i k),(51,.bool b6)]),[])) ?_ ?_
 ·rcases wyD u with⟨c1,u⟩|⟨c1,u⟩
  ·obtain rfl:=si u
   exact tr fol [3] (kG p E [(2,.i k),(51,.bool true)]) (ac (gw c1) az)
  rcases wyB u with⟨c2,u⟩|⟨c2,u⟩
  ·obtain rfl:=si u
   exact tr fol [3,10] (kG p E [(2,.i k),(51,.bool true)]) (ac (gw c1) (ac (gw c2) az))
  obtain⟨r3,f3,u⟩:=bnd u
  rcases wyB u with⟨c4,u⟩|⟨c4,u⟩
  ·obtain rfl:=si u
   exact tr fol [3,10,12,15] (kG p E [(2,.i k),(51,.bool true)]) (ac (gw c1) (ac (gw c2) (ac (cv (xx N p f3)) (ac (gw c4) az))))
  obtain⟨r5,e_r5,u⟩:=bnd u
  obtain rfl:=si u
  exact tr fol [3,10,12,15,17] (kG p E [(2,.i k),(51,.bool (!decide (r5=0)))]) (ac (gw c1) (ac (gw c2) (ac (cv (xx N p f3)) (ac (gw c4) (ac (cv (xx N E e_r5)) az)))))
 refine ihB h (fun c8 h=>?_) (fun c8 h=>?_)
 ·obtain⟨r9,e_r9,h⟩:=bnd h
  refine sq (gr fol [0] [(6,.bool r9)] (ac (cv (qlD e_r9)) az) ?_)
  refine Goes.ret ?_
  obtain rfl:=si h
  exact(gw2 [.bool r9] (Ua tB))
 refine Goes.skip ?_
 obtain⟨v,h9,h⟩:=bnd h
 refine sq (gr fol [1] (kG p E [(2,.i k),(7,.str v.1),(8,.i v.2)]) (ac (cv (qbv N p h9)) az) ?_)
 obtain⟨b1,i0,h⟩:=bnd h
 refine sq (gr fol [1] (kG p E [(2,.i k),(7,.str v.1),(8,.i v.2),(9,vl encI b1.1),(10,.i b1.2)]) (ac (cv (qdT N E i0)) az) ?_)
 obtain⟨b2,i1,h⟩:=bnd h
 refine sq (gr fol [2] (kG p E [(2,.i k),(7,.str v.1),(8,.i v.2),(10,.i b1.2),(11,vl encI b2.1),(12,.i b2.2)]) (ac (cv (qa6 N b1.1 p i1)) az) ?_)
 obtain⟨a9,i2,h⟩:=bnd h
 refine sq (gr fol [2] (kK p k [(7,.str v.1),(8,.i v.2),(10,.i b1.2),(12,.i b2.2),(13,vl encI a9.1),(14,.i a9.2)]) (ac (cv (qa6 N b2.1 E i2)) az) ?_)
 obtain⟨d2,i3,h⟩:=bnd h
 refine sq (gr fol [1] (kK p k [(7,.str v.1),(8,.i v.2),(10,.i b1.2),(12,.i b2.2),(13,vl encI a9.1),(14,.i a9.2),(15,.str d2.1),(16,.i d2.2)]) (ac (cv (qbv N a9.1 i3)) az) ?_)
 obtain⟨c,i4,h⟩:=bnd h
 refine sq (gr fol [1] (kK p k [(7,.str v.1),(8,.i v.2),(10,.i b1.2),(12,.i b2.2),(13,vl encI a9.1),(14,.i a9.2),(15,.str d2.1),(16,.i d2.2),(17,vl (qf encI) c.1),(18,.i c.2)]) (ac (cv (qbp N p i4)) az) ?_)
 obtain⟨e,i5,h⟩:=bnd h
 refine sq (gr fol [1] (kK p k [(7,.str v.1),(8,.i v.2),(10,.i b1.2),(12,.i b2.2),(14,.i a9.2),(15,.str d2.1),(16,.i d2.2),(17,vl (qf encI) c.1),(18,.i c.2),(19,vl (qf encI) e.1),(20,.i e.2)]) (ac (cv (qbp N a9.1 i5)) az) ?_)
 refine sq ?_
 refine sq ?_
 obtain⟨b19,D,h⟩:=bnd h
 refine Goes.cut (s':=(ofG 257 (kK p k [(7,.str v.1),(17,vl (qf encI) c.1),(19,vl (qf encI) e.1),(115,.bool b19)]),[])) ?_ ?_
 ·rcases wyB D with⟨e2,D⟩|⟨e2,D⟩
  ·obtain rfl:=si D
   exact tr fol [14] (kK p k [(7,.str v.1),(17,vl (qf encI) c.1),(19,vl (qf encI) e.1),(115,.bool true)]) (ac (gw e2) az)
  rcases wyB D with⟨i6,D⟩|⟨i6,D⟩
  ·obtain rfl:=si D
   exact tr fol [14,19] (kK p k [(7,.str v.1),(17,vl (qf encI) c.1),(19,vl (qf encI) e.1),(115,.bool true)]) (ac (gw e2) (ac (gw i6) az))
  obtain rfl:=si D
  exact tr fol [14,19] (kK p k [(7,.str v.1),(17,vl (qf encI) c.1),(19,vl (qf encI) e.1),(115,.bool (!decide ((c.1.length:Int)=(e.1.length:Int))))]) (ac (gw e2) (ac (gw i6) az))
 refine ihB h (fun c21 h=>?_) (fun c21 h=>?_)
 ·refine sh fol kAz ?_
  refine Goes.ret ?_
  obtain rfl:=si h
  exact(gw2 [.bool false] (Ua tB))
 refine Goes.skip ?_
 obtain⟨d,i7,h⟩:=bnd h
 refine sq (gr fol [1] (kK p k [(7,.str v.1),(17,vl (qf encI) c.1),(19,vl (qf encI) e.1),(21,.i d.1),(22,.bool d.2)]) (ac (cv (qfI N v.1 i7)) az) ?_)
 refine sq ?_
 refine sq ?_
 obtain⟨b27,r,h⟩:=bnd h
 refine Goes.cut (s':=(ofG 257 (kK p k [(17,vl (qf encI) c.1),(19,vl (qf encI) e.1),(21,.i d.1),(135,.bool b27)]),[])) ?_ ?_
 ·obtain⟨r23,b0,r⟩:=bnd r
  rcases wyB r with⟨d4,r⟩|⟨d4,r⟩
  ·obtain rfl:=si r
   exact tr fol [1,3] (kK p k [(17,vl (qf encI) c.1),(19,vl (qf encI) e.1),(21,.i d.1),(135,.bool true)]) (ac (cv (xL N v.1 b0)) (ac (gw d4) az))
  rcases wyB r with⟨e3,r⟩|⟨e3,r⟩
  ·obtain rfl:=si r
   exact tr fol [1,3,7] (kK p k [(17,vl (qf encI) c.1),(19,vl (qf encI) e.1),(21,.i d.1),(135,.bool true)]) (ac (cv (xL N v.1 b0)) (ac (gw d4) (ac (gw e3) az)))
  rcases wyD r with⟨i8,r⟩|⟨i8,r⟩
  ·obtain rfl:=si r
   exact tr fol [1,3,7,11] (kK p k [(17,vl (qf encI) c.1),(19,vl (qf encI) e.1),(21,.i d.1),(135,.bool true)]) (ac (cv (xL N v.1 b0)) (ac (gw d4) (ac (gw e3) (ac (gw i8) az))))
  obtain rfl:=si r
  exact tr fol [1,3,7,11] (kK p k [(17,vl (qf encI) c.1),(19,vl (qf encI) e.1),(21,.i d.1),(135,.bool (decide (d.1>60)))]) (ac (cv (xL N v.1 b0)) (ac (gw d4) (ac (gw e3) (ac (gw i8) az))))
 refine ihB h (fun c29 h=>?_) (fun c29 h=>?_)
 ·refine sh fol kAz ?_
  refine Goes.ret ?_
  obtain rfl:=si h
  exact(gw2 [.bool false] (Ua tB))
 refine Goes.skip ?_
 refine sg fol (kK p k [(17,vl (qf encI) c.1),(19,vl (qf encI) e.1),(21,.i d.1),(23,.ptr 0 0)]) [.cells [.i 0,.i 0,.i 0,.i 0,.i 0,.i 0,.i 0,.i 0,.i 0,.i 0,.i 0]] ?_
 refine sq ?_
 refine sh fol (kK p k [(17,vl (qf encI) c.1),(19,vl (qf encI) e.1),(21,.i d.1),(23,.ptr 0 0),(137,.i (c.1.length:Int)),(138,.i 0)]) ?_
 refine Goes.block ?_
 obtain⟨i9,y,h⟩:=bnd h
 refine Goes.imp (Q:=fun x s'=>(x= .exit 0/\ ∃b3 b4 b5 b7 b8 b9 c0 c3 c5 c6 c7,(.inl (b3,b4,b5,b7,b8,b9,c0,c3,c5,c6,c7))=i9/\Sub s' (ofG 257 (kK p k [(21,.i d.1),(23,.ptr 0 0)]),(kI b3 b4 b5 b7 b8 b9 c0 c3 c5 c6 c7)))\/(x= .ret/\ ∃q54,(.inr q54)=i9/\zU ZT [.tmp 6] (.bool q54) .ret s')) ?_ ?_
 ·refine Uc (fun M s=> ∃(F:Int) (G:Int) (H:Int) (I:Int) (J:Int) (K:Int) (L:Int) (O:Int) (P:Int) (U:Int) (V:Int) (o:Int),s=(ofG 257 (kK p k ((17,vl (qf encI) c.1)::(19,vl (qf encI) e.1)::(kR d.1 (c.1.length:Int) o))),(kI F G I J K L O P U V H))/\qG c e d M F G H I J K L O P U V o=some i9) ?_ (m:=N) ⟨_,_,_,_,_,_,_,_,_,_,_,_,rfl,y⟩
  rintro M s ⟨F,G,H,I,J,K,L,O,P,U,V,o,rfl,y⟩
  cases M with
  |zero=>simp only[qG]at y;cases y
  |succ M=>
   rw[qG]at y
   refine sh fol (kK p k [(17,vl (qf encI) c.1),(19,vl (qf encI) e.1),(21,.i d.1),(23,.ptr 0 0),(137,.i (c.1.length:Int)),(138,.i o),(139,.bool (decide (o<(c.1.length:Int))))]) ?_
   refine sq ?_
   refine ihD y (fun c55 y=>?_) (fun c55 y=>?_)
   ·refine Goes.skip ?_
    refine sq (Goes.block ?_)
    refine sh fol (kK p k ((17,vl (qf encI) c.1)::(19,vl (qf encI) e.1)::(kJ d.1 o (c.1.length:Int) []))) ?_
    refine sq ?_
    refine sq ?_
    obtain⟨b63,f,y⟩:=bnd y
    refine Goes.cut (s':=(ofG 257 (kK p k ((17,vl (qf encI) c.1)::(19,vl (qf encI) e.1)::(kJ d.1 o (c.1.length:Int) [(180,.bool b63)]))),(kI F G I J K L O P U V H))) ?_ ?_
    ·obtain⟨x56,n,f⟩:=bnd f
     rcases wyD f with⟨d3,f⟩|⟨d3,f⟩
     ·obtain rfl:=si f
      exact tr fol [2,3,6] (kK p k ((17,vl (qf encI) c.1)::(19,vl (qf encI) e.1)::(kJ d.1 o (c.1.length:Int) [(180,.bool true)]))) (ac (iv vW (qf encI) n) (ac (lv 0 yn (qf encI) n rfl) (ac (gw d3) az)))
     rcases wyD f with⟨d5,f⟩|⟨d5,f⟩
     ·obtain rfl:=si f
      exact tr fol [2,3,6,9,10,14] (kK p k ((17,vl (qf encI) c.1)::(19,vl (qf encI) e.1)::(kJ d.1 o (c.1.length:Int) [(180,.bool true)]))) (ac (iv vW (qf encI) n) (ac (lv 0 yn (qf encI) n rfl) (ac (gw d3) (ac (iv vW (qf encI) n) (ac (lv 0 yn (qf encI) n rfl) (ac (gw d5) az))))))
     obtain⟨x59,B,f⟩:=bnd f
     rcases wyD f with⟨e4,f⟩|⟨e4,f⟩
     ·obtain rfl:=si f
      exact tr fol [2,3,6,9,10,14,17,18,22] (kK p k ((17,vl (qf encI) c.1)::(19,vl (qf encI) e.1)::(kJ d.1 o (c.1.length:Int) [(180,.bool true)]))) (ac (iv vW (qf encI) n) (ac (lv 0 yn (qf encI) n rfl) (ac (gw d3) (ac (iv vW (qf encI) n) (ac (lv 0 yn (qf encI) n rfl) (ac (gw d5) (ac (iv vW (qf encI) B) (ac (lv 0 yn (qf encI) B rfl) (ac (gw e4) az)))))))))
     rcases wyD f with⟨j0,f⟩|⟨j0,f⟩
     ·obtain rfl:=si f
      exact tr fol [2,3,6,9,10,14,17,18,22,25,26,30] (kK p k ((17,vl (qf encI) c.1)::(19,vl (qf encI) e.1)::(kJ d.1 o (c.1.length:Int) [(180,.bool true)]))) (ac (iv vW (qf encI) n) (ac (lv 0 yn (qf encI) n rfl) (ac (gw d3) (ac (iv vW (qf encI) n) (ac (lv 0 yn (qf encI) n rfl) (ac (gw d5) (ac (iv vW (qf encI) B) (ac (lv 0 yn (qf encI) B rfl) (ac (gw e4) (ac (iv vW (qf encI) B) (ac (lv 0 yn (qf encI) B rfl) (ac (gw j0) az))))))))))))
     obtain⟨q62,j1,f⟩:=bnd f
     obtain rfl:=si f
     exact tr fol [2,3,6,9,10,14,17,18,22,25,26,30,34,35,37] (kK p k ((17,vl (qf encI) c.1)::(19,vl (qf encI) e.1)::(kJ d.1 o (c.1.length:Int) [(180,.bool (!decide (q62=0)))]))) (ac (iv vW (qf encI) n) (ac (lv 0 yn (qf encI) n rfl) (ac (gw d3) (ac (iv vW (qf encI) n) (ac (lv 0 yn (qf encI) n rfl) (ac (gw d5) (ac (iv vW (qf encI) B) (ac (lv 0 yn (qf encI) B rfl) (ac (gw e4) (ac (iv vW (qf encI) B) (ac (lv 0 yn (qf encI) B rfl) (ac (gw j0) (ac (iv vW (qf encI) n) (ac (lv 0 yn (qf encI) n rfl) (ac (hs (.done (.opt (zb ZT .rem 3 (.tmp 172) (.tmp 177) (.i d.1) (.i (x56.length:Int)))) (.i q62)) (qan j1)) az)))))))))))))))
    refine ihB y (fun c65 y=>?_) (fun c65 y=>?_)
    ·refine sh fol kAz ?_
     refine Goes.ret ?_
     obtain rfl:=si y
     exact Or.inr (⟨rfl,_,rfl,(gw2 [.bool false] (Ua tB))⟩)
    refine Goes.skip ?_
    refine sq ?_
    obtain⟨⟨X,Y,Z,a0,a1,a2,a3,a4,a5,a6,a7⟩,b,y⟩:=bnd y
    refine Goes.cut (s':=(ofG 257 (kK p k ((17,vl (qf encI) c.1)::(19,vl (qf encI) e.1)::(kJ d.1 o (c.1.length:Int) []))),(kI X Y Z a0 a1 a2 a3 a4 a5 a6 a7))) ?_ ?_
    ·obtain⟨z,g,b⟩:=bnd b
     rcases wyD b with⟨j2,b⟩|⟨j2,b⟩
     ·simp only[ZI,ZP]at b
      obtain⟨rfl,rfl,rfl,rfl,rfl,rfl,rfl,rfl,rfl,rfl,rfl⟩:=b
      exact zo.rq fol [2,3,5,8] (kK p k ((17,vl (qf encI) c.1)::(19,vl (qf encI) e.1)::(kJ d.1 o (c.1.length:Int) []))) (kI (w64 (F+1)) G I J K L O P U V H) (ac (iv vW (qf encI) g) (ac (lv 0 yn (qf encI) g rfl) (ac (hs (.done (.opt (qb ZT 67 (.ptr 0 0) (.i (z.length:Int)))) (.ptr 0 0)) (ixA (ot j2) (by kernel_rfl))) (ac (hs (.done (.opt (qb ZT 67 (.ptr 0 0) (.i (z.length:Int)))) (.ptr 0 0)) (ixA (ot j2) (by kernel_rfl))) az))))
     rcases wyD b with⟨j3,b⟩|⟨j3,b⟩
     ·simp only[ZI,ZP]at b
      obtain⟨rfl,rfl,rfl,rfl,rfl,rfl,rfl,rfl,rfl,rfl,rfl⟩:=b
      exact zo.rq fol [2,3,5,8] (kK p k ((17,vl (qf encI) c.1)::(19,vl (qf encI) e.1)::(kJ d.1 o (c.1.length:Int) []))) (kI F (w64 (G+1)) I J K L O P U V H) (ac (iv vW (qf encI) g) (ac (lv 0 yn (qf encI) g rfl) (ac (hs (.done (.opt (qb ZT 67 (.ptr 0 0) (.i (z.length:Int)))) (.ptr 0 1)) (ixA (ot j3) (by kernel_rfl))) (ac (hs (.done (.opt (qb ZT 67 (.ptr 0 0) (.i (z.length:Int)))) (.ptr 0 1)) (ixA (ot j3) (by kernel_rfl))) az))))
     rcases wyD b with⟨j4,b⟩|⟨j4,b⟩
     ·simp only[ZI,ZP]at b
      obtain⟨rfl,rfl,rfl,rfl,rfl,rfl,rfl,rfl,rfl,rfl,rfl⟩:=b
      exact zo.rq fol [2,3,5,8] (kK p k ((17,vl (qf encI) c.1)::(19,vl (qf encI) e.1)::(kJ d.1 o (c.1.length:Int) []))) (kI F G (w64 (I+1)) J K L O P U V H) (ac (iv vW (qf encI) g) (ac (lv 0 yn (qf encI) g rfl) (ac (hs (.done (.opt (qb ZT 67 (.ptr 0 0) (.i (z.length:Int)))) (.ptr 0 2)) (ixA (ot j4) (by kernel_rfl))) (ac (hs (.done (.opt (qb ZT 67 (.ptr 0 0) (.i (z.length:Int)))) (.ptr 0 2)) (ixA (ot j4) (by kernel_rfl))) az))))
     rcases wyD b with⟨j5,b⟩|⟨j5,b⟩
     ·simp only[ZI,ZP]at b
      obtain⟨rfl,rfl,rfl,rfl,rfl,rfl,rfl,rfl,rfl,rfl,rfl⟩:=b
      exact zo.rq fol [2,3,5,8] (kK p k ((17,vl (qf encI) c.1)::(19,vl (qf encI) e.1)::(kJ d.1 o (c.1.length:Int) []))) (kI F G I (w64 (J+1)) K L O P U V H) (ac (iv vW (qf encI) g) (ac (lv 0 yn (qf encI) g rfl) (ac (hs (.done (.opt (qb ZT 67 (.ptr 0 0) (.i (z.length:Int)))) (.ptr 0 3)) (ixA (ot j5) (by kernel_rfl))) (ac (hs (.done (.opt (qb ZT 67 (.ptr 0 0) (.i (z.length:Int)))) (.ptr 0 3)) (ixA (ot j5) (by kernel_rfl))) az))))
     rcases wyD b with⟨j7,b⟩|⟨j7,b⟩
     ·simp only[ZI,ZP]at b
      obtain⟨rfl,rfl,rfl,rfl,rfl,rfl,rfl,rfl,rfl,rfl,rfl⟩:=b
      exact zo.rq fol [2,3,5,8] (kK p k ((17,vl (qf encI) c.1)::(19,vl (qf encI) e.1)::(kJ d.1 o (c.1.length:Int) []))) (kI F G I J (w64 (K+1)) L O P U V H) (ac (iv vW (qf encI) g) (ac (lv 0 yn (qf encI) g rfl) (ac (hs (.done (.opt (qb ZT 67 (.ptr 0 0) (.i (z.length:Int)))) (.ptr 0 4)) (ixA (ot j7) (by kernel_rfl))) (ac (hs (.done (.opt (qb ZT 67 (.ptr 0 0) (.i (z.length:Int)))) (.ptr 0 4)) (ixA (ot j7) (by kernel_rfl))) az))))
     rcases wyD b with⟨j8,b⟩|⟨j8,b⟩
     ·simp only[ZI,ZP]at b
      obtain⟨rfl,rfl,rfl,rfl,rfl,rfl,rfl,rfl,rfl,rfl,rfl⟩:=b
      exact zo.rq fol [2,3,5,8] (kK p k ((17,vl (qf encI) c.1)::(19,vl (qf encI) e.1)::(kJ d.1 o (c.1.length:Int) []))) (kI F G I J K (w64 (L+1)) O P U V H) (ac (iv vW (qf encI) g) (ac (lv 0 yn (qf encI) g rfl) (ac (hs (.done (.opt (qb ZT 67 (.ptr 0 0) (.i (z.length:Int)))) (.ptr 0 5)) (ixA (ot j8) (by kernel_rfl))) (ac (hs (.done (.opt (qb ZT 67 (.ptr 0 0) (.i (z.length:Int)))) (.ptr 0 5)) (ixA (ot j8) (by kernel_rfl))) az))))
     rcases wyD b with⟨j9,b⟩|⟨j9,b⟩
     ·simp only[ZI,ZP]at b
      obtain⟨rfl,rfl,rfl,rfl,rfl,rfl,rfl,rfl,rfl,rfl,rfl⟩:=b
      exact zo.rq fol [2,3,5,8] (kK p k ((17,vl (qf encI) c.1)::(19,vl (qf encI) e.1)::(kJ d.1 o (c.1.length:Int) []))) (kI F G I J K L (w64 (O+1)) P U V H) (ac (iv vW (qf encI) g) (ac (lv 0 yn (qf encI) g rfl) (ac (hs (.done (.opt (qb ZT 67 (.ptr 0 0) (.i (z.length:Int)))) (.ptr 0 6)) (ixA (ot j9) (by kernel_rfl))) (ac (hs (.done (.opt (qb ZT 67 (.ptr 0 0) (.i (z.length:Int)))) (.ptr 0 6)) (ixA (ot j9) (by kernel_rfl))) az))))
     rcases wyD b with⟨k0,b⟩|⟨k0,b⟩
     ·simp only[ZI,ZP]at b
      obtain⟨rfl,rfl,rfl,rfl,rfl,rfl,rfl,rfl,rfl,rfl,rfl⟩:=b
      exact zo.rq fol [2,3,5,8] (kK p k ((17,vl (qf encI) c.1)::(19,vl (qf encI) e.1)::(kJ d.1 o (c.1.length:Int) []))) (kI F G I J K L O (w64 (P+1)) U V H) (ac (iv vW (qf encI) g) (ac (lv 0 yn (qf encI) g rfl) (ac (hs (.done (.opt (qb ZT 67 (.ptr 0 0) (.i (z.length:Int)))) (.ptr 0 7)) (ixA (ot k0) (by kernel_rfl))) (ac (hs (.done (.opt (qb ZT 67 (.ptr 0 0) (.i (z.length:Int)))) (.ptr 0 7)) (ixA (ot k0) (by kernel_rfl))) az))))
     rcases wyD b with⟨k1,b⟩|⟨k1,b⟩
     ·simp only[ZI,ZP]at b
      obtain⟨rfl,rfl,rfl,rfl,rfl,rfl,rfl,rfl,rfl,rfl,rfl⟩:=b
      exact zo.rq fol [2,3,5,8] (kK p k ((17,vl (qf encI) c.1)::(19,vl (qf encI) e.1)::(kJ d.1 o (c.1.length:Int) []))) (kI F G I J K L O P (w64 (U+1)) V H) (ac (iv vW (qf encI) g) (ac (lv 0 yn (qf encI) g rfl) (ac (hs (.done (.opt (qb ZT 67 (.ptr 0 0) (.i (z.length:Int)))) (.ptr 0 8)) (ixA (ot k1) (by kernel_rfl))) (ac (hs (.done (.opt (qb ZT 67 (.ptr 0 0) (.i (z.length:Int)))) (.ptr 0 8)) (ixA (ot k1) (by kernel_rfl))) az))))
     rcases wyD b with⟨k2,b⟩|⟨k2,b⟩
     ·simp only[ZI,ZP]at b
      obtain⟨rfl,rfl,rfl,rfl,rfl,rfl,rfl,rfl,rfl,rfl,rfl⟩:=b
      exact zo.rq fol [2,3,5,8] (kK p k ((17,vl (qf encI) c.1)::(19,vl (qf encI) e.1)::(kJ d.1 o (c.1.length:Int) []))) (kI F G I J K L O P U (w64 (V+1)) H) (ac (iv vW (qf encI) g) (ac (lv 0 yn (qf encI) g rfl) (ac (hs (.done (.opt (qb ZT 67 (.ptr 0 0) (.i (z.length:Int)))) (.ptr 0 9)) (ixA (ot k2) (by kernel_rfl))) (ac (hs (.done (.opt (qb ZT 67 (.ptr 0 0) (.i (z.length:Int)))) (.ptr 0 9)) (ixA (ot k2) (by kernel_rfl))) az))))
     rcases wyD b with⟨k3,b⟩|⟨k3,b⟩
     ·simp only[ZI,ZP]at b
      obtain⟨rfl,rfl,rfl,rfl,rfl,rfl,rfl,rfl,rfl,rfl,rfl⟩:=b
      exact zo.rq fol [2,3,5,8] (kK p k ((17,vl (qf encI) c.1)::(19,vl (qf encI) e.1)::(kJ d.1 o (c.1.length:Int) []))) (kI F G I J K L O P U V (w64 (H+1))) (ac (iv vW (qf encI) g) (ac (lv 0 yn (qf encI) g rfl) (ac (hs (.done (.opt (qb ZT 67 (.ptr 0 0) (.i (z.length:Int)))) (.ptr 0 10)) (ixA (ot k3) (by kernel_rfl))) (ac (hs (.done (.opt (qb ZT 67 (.ptr 0 0) (.i (z.length:Int)))) (.ptr 0 10)) (ixA (ot k3) (by kernel_rfl))) az))))
     cases b
    try dsimp only at y
    obtain⟨⟨f4,f5,f6,f7,f8,f9,h0,h1,h2,h3,h4⟩,a,y⟩:=bnd y
    refine Goes.cut (s':=(ofG 257 (kK p k ((17,vl (qf encI) c.1)::(19,vl (qf encI) e.1)::(kR d.1 (c.1.length:Int) o))),(kI f4 f5 f6 f7 f8 f9 h0 h1 h2 h3 h4))) ?_ ?_
    ·obtain⟨A,j,a⟩:=bnd a
     rcases wyD a with⟨k4,a⟩|⟨k4,a⟩
     ·simp only[ZI,ZP]at a
      obtain⟨rfl,rfl,rfl,rfl,rfl,rfl,rfl,rfl,rfl,rfl,rfl⟩:=a
      exact zo.rq fol [2,3,5,8] (kK p k ((17,vl (qf encI) c.1)::(19,vl (qf encI) e.1)::(kR d.1 (c.1.length:Int) o))) (kI (w64 (X-1)) Y Z a0 a1 a2 a3 a4 a5 a6 a7) (ac (iv vW (qf encI) j) (ac (lv 0 yn (qf encI) j rfl) (ac (hs (.done (.opt (qb ZT 67 (.ptr 0 0) (.i (A.length:Int)))) (.ptr 0 0)) (ixA (ot k4) (by kernel_rfl))) (ac (hs (.done (.opt (qb ZT 67 (.ptr 0 0) (.i (A.length:Int)))) (.ptr 0 0)) (ixA (ot k4) (by kernel_rfl))) az))))
     rcases wyD a with⟨k5,a⟩|⟨k5,a⟩
     ·simp only[ZI,ZP]at a
      obtain⟨rfl,rfl,rfl,rfl,rfl,rfl,rfl,rfl,rfl,rfl,rfl⟩:=a
      exact zo.rq fol [2,3,5,8] (kK p k ((17,vl (qf encI) c.1)::(19,vl (qf encI) e.1)::(kR d.1 (c.1.length:Int) o))) (kI X (w64 (Y-1)) Z a0 a1 a2 a3 a4 a5 a6 a7) (ac (iv vW (qf encI) j) (ac (lv 0 yn (qf encI) j rfl) (ac (hs (.done (.opt (qb ZT 67 (.ptr 0 0) (.i (A.length:Int)))) (.ptr 0 1)) (ixA (ot k5) (by kernel_rfl))) (ac (hs (.done (.opt (qb ZT 67 (.ptr 0 0) (.i (A.length:Int)))) (.ptr 0 1)) (ixA (ot k5) (by kernel_rfl))) az))))
     rcases wyD a with⟨k6,a⟩|⟨k6,a⟩
     ·simp only[ZI,ZP]at a
      obtain⟨rfl,rfl,rfl,rfl,rfl,rfl,rfl,rfl,rfl,rfl,rfl⟩:=a
      exact zo.rq fol [2,3,5,8] (kK p k ((17,vl (qf encI) c.1)::(19,vl (qf encI) e.1)::(kR d.1 (c.1.length:Int) o))) (kI X Y (w64 (Z-1)) a0 a1 a2 a3 a4 a5 a6 a7) (ac (iv vW (qf encI) j) (ac (lv 0 yn (qf encI) j rfl) (ac (hs (.done (.opt (qb ZT 67 (.ptr 0 0) (.i (A.length:Int)))) (.ptr 0 2)) (ixA (ot k6) (by kernel_rfl))) (ac (hs (.done (.opt (qb ZT 67 (.ptr 0 0) (.i (A.length:Int)))) (.ptr 0 2)) (ixA (ot k6) (by kernel_rfl))) az))))
     rcases wyD a with⟨k7,a⟩|⟨k7,a⟩
     ·simp only[ZI,ZP]at a
      obtain⟨rfl,rfl,rfl,rfl,rfl,rfl,rfl,rfl,rfl,rfl,rfl⟩:=a
      exact zo.rq fol [2,3,5,8] (kK p k ((17,vl (qf encI) c.1)::(19,vl (qf encI) e.1)::(kR d.1 (c.1.length:Int) o))) (kI X Y Z (w64 (a0-1)) a1 a2 a3 a4 a5 a6 a7) (ac (iv vW (qf encI) j) (ac (lv 0 yn (qf encI) j rfl) (ac (hs (.done (.opt (qb ZT 67 (.ptr 0 0) (.i (A.length:Int)))) (.ptr 0 3)) (ixA (ot k7) (by kernel_rfl))) (ac (hs (.done (.opt (qb ZT 67 (.ptr 0 0) (.i (A.length:Int)))) (.ptr 0 3)) (ixA (ot k7) (by kernel_rfl))) az))))
     rcases wyD a with⟨k8,a⟩|⟨k8,a⟩
     ·simp only[ZI,ZP]at a
      obtain⟨rfl,rfl,rfl,rfl,rfl,rfl,rfl,rfl,rfl,rfl,rfl⟩:=a
      exact zo.rq fol [2,3,5,8] (kK p k ((17,vl (qf encI) c.1)::(19,vl (qf encI) e.1)::(kR d.1 (c.1.length:Int) o))) (kI X Y Z a0 (w64 (a1-1)) a2 a3 a4 a5 a6 a7) (ac (iv vW (qf encI) j) (ac (lv 0 yn (qf encI) j rfl) (ac (hs (.done (.opt (qb ZT 67 (.ptr 0 0) (.i (A.length:Int)))) (.ptr 0 4)) (ixA (ot k8) (by kernel_rfl))) (ac (hs (.done (.opt (qb ZT 67 (.ptr 0 0) (.i (A.length:Int)))) (.ptr 0 4)) (ixA (ot k8) (by kernel_rfl))) az))))
     rcases wyD a with⟨k9,a⟩|⟨k9,a⟩
     ·simp only[ZI,ZP]at a
      obtain⟨rfl,rfl,rfl,rfl,rfl,rfl,rfl,rfl,rfl,rfl,rfl⟩:=a
      exact zo.rq fol [2,3,5,8] (kK p k ((17,vl (qf encI) c.1)::(19,vl (qf encI) e.1)::(kR d.1 (c.1.length:Int) o))) (kI X Y Z a0 a1 (w64 (a2-1)) a3 a4 a5 a6 a7) (ac (iv vW (qf encI) j) (ac (lv 0 yn (qf encI) j rfl) (ac (hs (.done (.opt (qb ZT 67 (.ptr 0 0) (.i (A.length:Int)))) (.ptr 0 5)) (ixA (ot k9) (by kernel_rfl))) (ac (hs (.done (.opt (qb ZT 67 (.ptr 0 0) (.i (A.length:Int)))) (.ptr 0 5)) (ixA (ot k9) (by kernel_rfl))) az))))
     rcases wyD a with⟨l0,a⟩|⟨l0,a⟩
     ·simp only[ZI,ZP]at a
      obtain⟨rfl,rfl,rfl,rfl,rfl,rfl,rfl,rfl,rfl,rfl,rfl⟩:=a
      exact zo.rq fol [2,3,5,8] (kK p k ((17,vl (qf encI) c.1)::(19,vl (qf encI) e.1)::(kR d.1 (c.1.length:Int) o))) (kI X Y Z a0 a1 a2 (w64 (a3-1)) a4 a5 a6 a7) (ac (iv vW (qf encI) j) (ac (lv 0 yn (qf encI) j rfl) (ac (hs (.done (.opt (qb ZT 67 (.ptr 0 0) (.i (A.length:Int)))) (.ptr 0 6)) (ixA (ot l0) (by kernel_rfl))) (ac (hs (.done (.opt (qb ZT 67 (.ptr 0 0) (.i (A.length:Int)))) (.ptr 0 6)) (ixA (ot l0) (by kernel_rfl))) az))))
     rcases wyD a with⟨l1,a⟩|⟨l1,a⟩
     ·simp only[ZI,ZP]at a
      obtain⟨rfl,rfl,rfl,rfl,rfl,rfl,rfl,rfl,rfl,rfl,rfl⟩:=a
      exact zo.rq fol [2,3,5,8] (kK p k ((17,vl (qf encI) c.1)::(19,vl (qf encI) e.1)::(kR d.1 (c.1.length:Int) o))) (kI X Y Z a0 a1 a2 a3 (w64 (a4-1)) a5 a6 a7) (ac (iv vW (qf encI) j) (ac (lv 0 yn (qf encI) j rfl) (ac (hs (.done (.opt (qb ZT 67 (.ptr 0 0) (.i (A.length:Int)))) (.ptr 0 7)) (ixA (ot l1) (by kernel_rfl))) (ac (hs (.done (.opt (qb ZT 67 (.ptr 0 0) (.i (A.length:Int)))) (.ptr 0 7)) (ixA (ot l1) (by kernel_rfl))) az))))
     rcases wyD a with⟨l2,a⟩|⟨l2,a⟩
     ·simp only[ZI,ZP]at a
      obtain⟨rfl,rfl,rfl,rfl,rfl,rfl,rfl,rfl,rfl,rfl,rfl⟩:=a
      exact zo.rq fol [2,3,5,8] (kK p k ((17,vl (qf encI) c.1)::(19,vl (qf encI) e.1)::(kR d.1 (c.1.length:Int) o))) (kI X Y Z a0 a1 a2 a3 a4 (w64 (a5-1)) a6 a7) (ac (iv vW (qf encI) j) (ac (lv 0 yn (qf encI) j rfl) (ac (hs (.done (.opt (qb ZT 67 (.ptr 0 0) (.i (A.length:Int)))) (.ptr 0 8)) (ixA (ot l2) (by kernel_rfl))) (ac (hs (.done (.opt (qb ZT 67 (.ptr 0 0) (.i (A.length:Int)))) (.ptr 0 8)) (ixA (ot l2) (by kernel_rfl))) az))))
     rcases wyD a with⟨d6,a⟩|⟨d6,a⟩
     ·simp only[ZI,ZP]at a
      obtain⟨rfl,rfl,rfl,rfl,rfl,rfl,rfl,rfl,rfl,rfl,rfl⟩:=a
      exact zo.rq fol [2,3,5,8] (kK p k ((17,vl (qf encI) c.1)::(19,vl (qf encI) e.1)::(kR d.1 (c.1.length:Int) o))) (kI X Y Z a0 a1 a2 a3 a4 a5 (w64 (a6-1)) a7) (ac (iv vW (qf encI) j) (ac (lv 0 yn (qf encI) j rfl) (ac (hs (.done (.opt (qb ZT 67 (.ptr 0 0) (.i (A.length:Int)))) (.ptr 0 9)) (ixA (ot d6) (by kernel_rfl))) (ac (hs (.done (.opt (qb ZT 67 (.ptr 0 0) (.i (A.length:Int)))) (.ptr 0 9)) (ixA (ot d6) (by kernel_rfl))) az))))
     rcases wyD a with⟨d7,a⟩|⟨d7,a⟩
     ·simp only[ZI,ZP]at a
      obtain⟨rfl,rfl,rfl,rfl,rfl,rfl,rfl,rfl,rfl,rfl,rfl⟩:=a
      exact zo.rq fol [2,3,5,8] (kK p k ((17,vl (qf encI) c.1)::(19,vl (qf encI) e.1)::(kR d.1 (c.1.length:Int) o))) (kI X Y Z a0 a1 a2 a3 a4 a5 a6 (w64 (a7-1))) (ac (iv vW (qf encI) j) (ac (lv 0 yn (qf encI) j rfl) (ac (hs (.done (.opt (qb ZT 67 (.ptr 0 0) (.i (A.length:Int)))) (.ptr 0 10)) (ixA (ot d7) (by kernel_rfl))) (ac (hs (.done (.opt (qb ZT 67 (.ptr 0 0) (.i (A.length:Int)))) (.ptr 0 10)) (ixA (ot d7) (by kernel_rfl))) az))))
     cases a
    try dsimp only at y
    refine gh fol (kK p k ((17,vl (qf encI) c.1)::(19,vl (qf encI) e.1)::(kR d.1 (c.1.length:Int) (w64 (o+1))))) ?_
    exact⟨M,(ofG 257 (kK p k ((17,vl (qf encI) c.1)::(19,vl (qf encI) e.1)::(kR d.1 (c.1.length:Int) (w64 (o+1))))),(kI f4 f5 f6 f7 f8 f9 h0 h1 h2 h3 h4)),Nat.lt_succ_self _,(Sub.refl _),_,_,_,_,_,_,_,_,_,_,_,_,rfl,y⟩
   refine Goes.exit ?_
   obtain rfl:=si y
   exact Or.inl (⟨rfl,_,_,_,_,_,_,_,_,_,_,_,rfl,(Sub.keep [0,2,21,23] rfl rfl)⟩)
 rintro x s' (⟨rfl,b3,b4,b5,b7,b8,b9,c0,c3,c5,c6,c7,rfl,hsub⟩|⟨rfl,q137,rfl,hret⟩)
 ·try dsimp only at h
  refine Goes.sub hsub ?_
  refine sq ?_
  refine sq (gr fol [2] (kK p k [(21,.i d.1),(202,.bool (!decide (([b3,b4,b5,b7,b8,b9,c0,c3,c5,c6,c7]:List Int)=[0,0,0,0,0,0,0,0,0,0,0])))]) (ac (hs (.done (.opt (zb ZT .neq 67 (.tmp 200) (.tmp 201) (.agg [.i b3,.i b4,.i b5,.i b7,.i b8,.i b9,.i c0,.i c3,.i c5,.i c6,.i c7]) (.agg (kAc [.i 0,.i 0,.i 0,.i 0,.i 0])))) (.bool (!decide (([b3,b4,b5,b7,b8,b9,c0,c3,c5,c6,c7]:List Int)=[0,0,0,0,0,0,0,0,0,0,0])))) (ne_ar eqr67 (xs:=[b3,b4,b5,b7,b8,b9,c0,c3,c5,c6,c7]) (ys:=[0,0,0,0,0,0,0,0,0,0,0]) rfl rfl)) az) ?_)
  refine ihB h (fun c114 h=>?_) (fun c114 h=>?_)
  ·refine sh fol kAz ?_
   refine Goes.ret ?_
   obtain rfl:=si h
   exact(gw2 [.bool false] (Ua tB))
  refine Goes.skip ?_
  refine sq ?_
  refine sh fol (kK p k [(21,.i d.1),(25,.i 1)]) ?_
  refine Goes.block ?_
  obtain⟨d8,t,h⟩:=bnd h
  refine Goes.imp (Q:=fun x s'=>(x= .exit 2/\(.inl ())=d8/\Sub s' (ofG 257 (kK p k [(21,.i d.1)]),[]))\/(x= .ret/\ ∃h5,(.inr h5)=d8/\zU ZT [.tmp 6] (.bool h5) .ret s')) ?_ ?_
  ·refine Goes.sub (s':=(ofG 257 (kK p k [(21,.i d.1),(25,.i 1)]),[])) (Sub.norm [] [] rfl rfl (.keep (.same (qd encI _)) (.keep (.same nI) (.keep (.same nI) (.keep (.same nI) .nil)))) .nil) ?_
   refine Uc (fun M s=> ∃(C:Int),s=(ofG 257 (kK p k [(21,.i d.1),(25,.i C)]),[])/\qH N p d M C=some d8) ?_ (m:=N) ⟨_,rfl,t⟩
   rintro M s ⟨C,rfl,t⟩
   cases M with
   |zero=>simp only[qH]at t;cases t
   |succ M=>
    rw[qH]at t
    refine sq ?_
    refine sh fol (kK p k [(21,.i d.1),(25,.i C),(205,.bool (decide (C<=d.1)))]) ?_
    refine ihD t (fun c118 t=>?_) (fun c118 t=>?_)
    ·refine Goes.skip ?_
     refine sq (Goes.block ?_)
     obtain⟨d9,e5,t⟩:=bnd t
     refine sq (gr fol [2] (kK p k [(21,.i d.1),(25,.i C),(26,vl encI d9.1),(27,.i d9.2)]) (ac (cv (qaB N p C e5)) az) ?_)
     refine sq ?_
     obtain⟨b123,w,t⟩:=bnd t
     refine Goes.cut (s':=(ofG 257 (kK p k [(21,.i d.1),(25,.i C),(226,.bool b123)]),[])) ?_ ?_
     ·rcases wyB w with⟨e0,w⟩|⟨e0,w⟩
      ·obtain rfl:=si w
       exact tr fol [2] (kK p k [(21,.i d.1),(25,.i C),(226,.bool true)]) (ac (gw e0) az)
      obtain⟨r121,e6,w⟩:=bnd w
      obtain⟨r122,e7,w⟩:=bnd w
      obtain rfl:=si w
      exact tr fol [2,6,7] (kK p k [(21,.i d.1),(25,.i C),(226,.bool (!(r122==(decide (C=d.1)))))]) (ac (gw e0) (ac (cv (qdw N (p.length:Int) e6)) (ac (cv (qaa N d9.1 r121 e7)) az)))
     refine ihB t (fun c125 t=>?_) (fun c125 t=>?_)
     ·refine sh fol kAz ?_
      refine Goes.ret ?_
      obtain rfl:=si t
      exact Or.inr (⟨rfl,_,rfl,(gw2 [.bool false] (Ua tB))⟩)
     refine Goes.skip ?_
     refine gh fol (kK p k [(21,.i d.1),(25,.i (w64 (C+1)))]) ?_
     exact⟨M,(ofG 257 (kK p k [(21,.i d.1),(25,.i (w64 (C+1)))]),[]),Nat.lt_succ_self _,(Sub.refl _),_,rfl,t⟩
    refine Goes.exit ?_
    obtain rfl:=si t
    exact Or.inl (⟨rfl,rfl,(Sub.keep [0,2,21] rfl rfl)⟩)
  rintro x s' (⟨rfl,rfl,hsub⟩|⟨rfl,q136,rfl,hret⟩)
  ·try dsimp only at h
   refine Goes.sub hsub ?_
   obtain⟨a8,e8,h⟩:=bnd h
   refine sq (gr fol [2] (kK p k [(21,.i d.1),(28,vl encI a8.1),(29,.i a8.2)]) (ac (cv (qaB N p k e8)) az) ?_)
   obtain⟨h6,e9,h⟩:=bnd h
   obtain⟨h7,f0,h⟩:=bnd h
   obtain⟨c9,f1,h⟩:=bnd h
   refine sq (gr fol [3,7,8] [(28,vl encI a8.1),(29,.i a8.2),(30,vl encI c9.1),(31,.i c9.2)] (ac (hs (.done (.opt (zb ZT .rem 3 (.tmp 235) (.tmp 236) (.i k) (.i d.1))) (.i h6)) (qan e9)) (ac (hs (.done (.opt (zb ZT .rem 3 (.tmp 239) (.tmp 240) (.i (w64 (h6+d.1))) (.i d.1))) (.i h7)) (qan f0)) (ac (cv (qaB N p h7 f1)) az))) ?_)
   refine sq ?_
   obtain⟨h8,q,h⟩:=bnd h
   refine Goes.cut (s':=(ofG 257 [(6,.bool h8)],[])) ?_ ?_
   ·rcases wyD q with⟨d0,q⟩|⟨d0,q⟩
    ·obtain⟨r131,d1,q⟩:=bnd q
     rcases wyB q with⟨e1,q⟩|⟨e1,q⟩
     ·obtain⟨r133,f2,q⟩:=bnd q
      obtain rfl:=si q
      exact tr fol [4,7,9,10] [(6,.bool r133)] (ac (gw d0) (ac (cv (qaa N a8.1 c9.1 d1)) (ac (gw e1) (ac (cv (qlD f2)) az))))
     obtain rfl:=si q
     exact tr fol [4,7,9] kAz (ac (gw d0) (ac (cv (qaa N a8.1 c9.1 d1)) (ac (gw e1) az)))
    obtain rfl:=si q
    exact tr fol [4] kAz (ac (gw d0) az)
   refine Goes.ret ?_
   obtain rfl:=si h
   exact(gw2 [.bool h8] (Ua tB))
  try dsimp only at h
  obtain rfl:=si h
  exact hret
 try dsimp only at h
 obtain rfl:=si h
 exact hret
end Go.Av
