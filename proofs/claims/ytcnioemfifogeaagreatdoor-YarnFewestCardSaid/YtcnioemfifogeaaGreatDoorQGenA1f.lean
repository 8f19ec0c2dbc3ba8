/-
  The walk of the law.
-/
import Derived.Test.YtcnioemfifogeaaGreatDoorQGenA1f4
import Derived.Test.YtcnioemfifogeaaGreatDoorAvAwkQ3
noncomputable section
namespace Go.Av
open Go.Proofs Go.RowKit
set_option linter.unusedSectionVars false
set_option linter.unusedVariables false
set_option linter.unusedSimpArgs false
set_option maxRecDepth 100000
def awk:Option Bool:=some true
theorem qwO {res:Bool} (h:awk=some res):qJ ZT (.fn 10) [] [] (.bool res) []:=by
 obtain rfl:=si h
 exact qCx
def qen (N:Nat) (h:StateT) (a:qvz) (f:(List Int)×Int):Nat->Int->Int->Int->Option ((Int×Int)⊕Bool)
 |0,_,_,_=>none
 |K+1,d,e,l=>
  if d<(f.1.length:Int)then
  (idx f.1 d).bind fun c=>
  (if c<0 then
  some true
  else
  if c>=(h.Lots.length:Int)then
  some true
  else
  if d>0 then
  (idx f.1 (w64 (d-1))).bind fun m=>
  if c<=m then
  some true
  else
  (idx h.Lots c).bind fun i=>
  if(!(i.Yarn==a.Yarn))=true then
  some true
  else
  some (!(i.Dye==a.Dye))
  else
  (idx h.Lots c).bind fun j=>
  if(!(j.Yarn==a.Yarn))=true then
  some true
  else
  some (!(j.Dye==a.Dye)):Option Bool).bind fun n=>
  if n=true then
  some (.inr false)
  else
  (idx h.Lots c).bind fun k=>
  (qpH N h k.Name).bind fun b=>
  if(!decide (b.2=0))=true then
  some (.inr false)
  else
  (qn8 N h (⟨[114,101,115,101,114,118,101],h.Day,k.Name,(if(if a.Amount<b.1 then a.Amount else b.1)>1 then(if a.Amount<b.1 then a.Amount else b.1)else 1),[],[],[102,117,114,116,104,101,114]⟩:ky)).bind fun g=>
  (if(!decide (g.2=0))=true then
  some (w64 (e+b.1),true)
  else
  if(!decide (g.1=0))=true then
  if(!decide (g.1=4))=true then
  some (w64 (e+b.1),!decide (g.1=5))
  else
  some (w64 (e+b.1),false)
  else
  some (w64 (e+b.1),false):Option (Int×Bool)).bind fun(o,p)=>
  if p=true then
  some (.inr false)
  else
  qen N h a f K (w64 (d+1)) o b.1
  else
  some (.inl (e,l))
def qex (N:Nat) (a:qvz) (e:qgM):Nat->(List Int)->Int->Option (List Int)
 |0,_,_=>none
 |K+1,c,b=>
  if b<(e.Lots.length:Int)then
  (((idx e.Lots b).bind fun d=>
  (if(d.Yarn==a.Yarn)=true then
  some (d.Dye==a.Dye)
  else
  some false:Option Bool).bind fun f=>
  if f=true then
  (qhs N e b).bind fun g=>
  (app 8 c [g]).bind fun h=>
  some h
  else
  some c:Option (List Int))).bind fun i=>
  qex N a e K i (w64 (b+1))
  else
  some c
def qcR (a:List Int):Nat->Int->Int->Option Int
 |0,_,_=>none
 |K+1,c,b=>
  if b<(a.length:Int)then
  (((idx a b).bind fun d=>
  (idx a c).bind fun e=>
  if d>e then
  some b
  else
  some c:Option Int)).bind fun f=>
  qcR a K f (w64 (b+1))
  else
  some c
def qea (N:Nat) (c:(List Int)×Int):Nat->(List Int)->Int->Int->Option Int
 |0,_,_,_=>none
 |K+1,a,b,d=>
  if d<(w64 ((c.1.length:Int)-1))then
  (((qcR a N 0 0).bind fun e=>
  if(a.length:Int)>0 then
  (idx a e).bind fun f=>
  (put a e 0).bind fun g=>
  some (g,w64 (b+f))
  else
  some (a,b):Option ((List Int)×Int))).bind fun(h,i)=>
  qea N c K h i (w64 (d+1))
  else
  some b
def qj3 (N:Nat) (c:StateT) (a:qvz):Option Bool:=
 (qk6 N c).bind fun i=>
 ((qiu N i 10).bind fun s=>
 if(!s)=true then
 some true
 else
 if(c.Lots.length:Int)>10 then
 some true
 else
 if(a.Yarn.length:Int)>60 then
 some true
 else
 if(a.Dye.length:Int)>60 then
 some true
 else
 (qhr N i).bind fun t=>
 if(!decide (t=0))=true then
 some true
 else
 (qhQ N a).bind fun u=>
 if(!decide (u=0))=true then
 some true
 else
 if a.Amount<1 then
 some true
 else
 some (decide (a.Amount>999999999)):Option Bool).bind fun j=>
 if j=true then
 (awk).bind fun k=>
 some k
 else
 (qol N c a.Yarn a.Dye a.Amount).bind fun b=>
 (qod N c a.Yarn a.Dye).bind fun d=>
 if(!decide (d.2.2=0))=true then
 some false
 else
 if(!decide (b.2=0))=true then
 (if b.2=22 then
 (awk).bind fun l=>
 some l
 else
 if b.2=32 then
 if d.2.1<a.Amount then
 (awk).bind fun m=>
 some m
 else
 some false
 else
 some false:Option Bool).bind fun n=>
 some n
 else
 (qen N c a b N 0 0 0).bind (fun
 |(.inl (e,o))=>
 (if e<a.Amount then
 some true
 else
 some (decide ((w64 (e-o))>=a.Amount)):Option Bool).bind fun p=>
 if p=true then
 some false
 else
 (qex N a i N ([]:List Int) 0).bind fun q=>
 (qea N b N q 0 0).bind fun r=>
 (if r<a.Amount then
 (awk).bind fun f=>
 some f
 else
 some false:Option Bool).bind fun g=>
 some g
 |(.inr h)=>
 some h)
theorem qse (N:Nat) (u:StateT) (a:qvz) {res:Bool} (h:qj3 N u a=some res):qJ ZT (.fn 6) (kAE u.Day u.Lots u.Holds [.agg [.str a.Yarn,.str a.Dye,.i a.Amount]]) [] (.bool res) []:=by
 unfold qj3 at h
 refine Uc Tryz.func6 rfl rfl (m:=291) rfl (rs:=[.tmp 4]) rfl (l:=(kZ u.Day u.Lots u.Holds [(1,.agg [.str a.Yarn,.str a.Dye,.i a.Amount])])) rfl ?_
 refine sg fol (kN []) (kD u.Day u.Lots u.Holds (kT a.Yarn a.Dye a.Amount [])) ?_
 obtain⟨f,e_r1,h⟩:=bnd h
 refine sq (gq fol [1] (kN [(5,.ptr 2 0)]) (kD u.Day u.Lots u.Holds (kT a.Yarn a.Dye a.Amount (kD f.Day f.Lots f.Holds []))) (ac (cv (qvV N u e_r1)) az) ?_)
 refine sq ?_
 refine sq ?_
 obtain⟨b12,c,h⟩:=bnd h
 refine Goes.cut (s':=(ofG 291 (kN [(5,.ptr 2 0),(67,.bool b12)]),(kD u.Day u.Lots u.Holds (kT a.Yarn a.Dye a.Amount (kD f.Day f.Lots f.Holds []))))) ?_ ?_
 ·obtain⟨r2,G,c⟩:=bnd c
  rcases wyB c with⟨c3,c⟩|⟨c3,c⟩
  ·obtain rfl:=si c
   exact tr fol [1,3] (kN kAg) (ac (cv (qcT N f 10 G)) (ac (gw c3) az))
  rcases wyD c with⟨c4,c⟩|⟨c4,c⟩
  ·obtain rfl:=si c
   exact tr fol [1,3,9] (kN kAg) (ac (cv (qcT N f 10 G)) (ac (gw c3) (ac (gw c4) az)))
  rcases wyD c with⟨c5,c⟩|⟨c5,c⟩
  ·obtain rfl:=si c
   exact tr fol [1,3,9,15] (kN kAg) (ac (cv (qcT N f 10 G)) (ac (gw c3) (ac (gw c4) (ac (gw c5) az))))
  rcases wyD c with⟨c6,c⟩|⟨c6,c⟩
  ·obtain rfl:=si c
   exact tr fol [1,3,9,15,21] (kN kAg) (ac (cv (qcT N f 10 G)) (ac (gw c3) (ac (gw c4) (ac (gw c5) (ac (gw c6) az)))))
  obtain⟨r7,a1,c⟩:=bnd c
  rcases wyB c with⟨c8,c⟩|⟨c8,c⟩
  ·obtain rfl:=si c
   exact tr fol [1,3,9,15,21,23,26] (kN kAg) (ac (cv (qcT N f 10 G)) (ac (gw c3) (ac (gw c4) (ac (gw c5) (ac (gw c6) (ac (cv (qiq N f a1)) (ac (gw c8) az)))))))
  obtain⟨r9,a4,c⟩:=bnd c
  rcases wyB c with⟨c10,c⟩|⟨c10,c⟩
  ·obtain rfl:=si c
   exact tr fol [1,3,9,15,21,23,26,28,31] (kN kAg) (ac (cv (qcT N f 10 G)) (ac (gw c3) (ac (gw c4) (ac (gw c5) (ac (gw c6) (ac (cv (qiq N f a1)) (ac (gw c8) (ac (cv (qkJ N a a4)) (ac (gw c10) az)))))))))
  rcases wyD c with⟨c11,c⟩|⟨c11,c⟩
  ·obtain rfl:=si c
   exact tr fol [1,3,9,15,21,23,26,28,31,36] (kN kAg) (ac (cv (qcT N f 10 G)) (ac (gw c3) (ac (gw c4) (ac (gw c5) (ac (gw c6) (ac (cv (qiq N f a1)) (ac (gw c8) (ac (cv (qkJ N a a4)) (ac (gw c10) (ac (gw c11) az))))))))))
  obtain rfl:=si c
  exact tr fol [1,3,9,15,21,23,26,28,31,36] (kN [(5,.ptr 2 0),(67,.bool (decide (a.Amount>999999999)))]) (ac (cv (qcT N f 10 G)) (ac (gw c3) (ac (gw c4) (ac (gw c5) (ac (gw c6) (ac (cv (qiq N f a1)) (ac (gw c8) (ac (cv (qkJ N a a4)) (ac (gw c10) (ac (gw c11) az))))))))))
 refine ihB h (fun c14 h=>?_) (fun c14 h=>?_)
 ·obtain⟨r15,e_r15,h⟩:=bnd h
  refine sq (gr fol [0] (kA1 r15) (ac (cv (qwO e_r15)) az) ?_)
  refine Goes.ret ?_
  obtain rfl:=si h
  exact(gw2 [.bool r15] (Ub tB))
 refine Goes.skip ?_
 obtain⟨b,e_r16,h⟩:=bnd h
 refine sq (gr fol [7] (kN [(5,.ptr 2 0),(6,vl encI b.1),(7,.i b.2)]) (ac (cv (qv8 N u a.Yarn a.Dye a.Amount e_r16)) az) ?_)
 obtain⟨a5,e_r17,h⟩:=bnd h
 refine sq (gr fol [5] (kN [(5,.ptr 2 0),(6,vl encI b.1),(7,.i b.2),(9,.i a5.2.1),(10,.i a5.2.2)]) (ac (cv (qwg N u a.Yarn a.Dye e_r17)) az) ?_)
 refine sq ?_
 refine sh fol (kN [(5,.ptr 2 0),(6,vl encI b.1),(7,.i b.2),(9,.i a5.2.1),(91,.bool (!decide (a5.2.2=0)))]) ?_
 refine ihB h (fun c18 h=>?_) (fun c18 h=>?_)
 ·refine sh fol kAf ?_
  refine Goes.ret ?_
  obtain rfl:=si h
  exact(gw2 [.bool false] (Ub tB))
 refine Goes.skip ?_
 refine sq ?_
 refine sh fol (kN [(5,.ptr 2 0),(6,vl encI b.1),(7,.i b.2),(9,.i a5.2.1),(93,.bool (!decide (b.2=0)))]) ?_
 refine ihB h (fun c19 h=>?_) (fun c19 h=>?_)
 ·refine sq ?_
  obtain⟨b25,g,h⟩:=bnd h
  refine Goes.cut (s':=(ofG 291 (kA1 b25),(kD u.Day u.Lots u.Holds (kT a.Yarn a.Dye a.Amount (kD f.Day f.Lots f.Holds []))))) ?_ ?_
  ·rcases wyD g with⟨a6,g⟩|⟨a6,g⟩
   ·obtain⟨r21,e_r21,g⟩:=bnd g
    obtain rfl:=si g
    exact tr fol [2,13] (kA1 r21) (ac (gw a6) (ac (cv (qwO e_r21)) az))
   rcases wyD g with⟨c22,g⟩|⟨c22,g⟩
   ·rcases wyD g with⟨c23,g⟩|⟨c23,g⟩
    ·obtain⟨r24,e_r24,g⟩:=bnd g
     obtain rfl:=si g
     exact tr fol [2,5,12,13] (kA1 r24) (ac (gw a6) (ac (gw c22) (ac (gw c23) (ac (cv (qwO e_r24)) az))))
    obtain rfl:=si g
    exact tr fol [2,5,12] kAf (ac (gw a6) (ac (gw c22) (ac (gw c23) az)))
   obtain rfl:=si g
   exact tr fol [2,5] kAf (ac (gw a6) (ac (gw c22) az))
  refine Goes.ret ?_
  obtain rfl:=si h
  exact(gw2 [.bool b25] (Ub tB))
 refine Goes.skip ?_
 refine sh fol (kJ b.1 []) ?_
 refine sh fol (kJ b.1 [(12,.i 0),(13,.i 0)]) ?_
 refine sq ?_
 refine sh fol (kJ b.1 [(12,.i 0),(13,.i 0),(109,vl encI b.1),(110,.i (b.1.length:Int)),(111,.i 0)]) ?_
 refine Goes.block ?_
 obtain⟨r32,g32,h⟩:=bnd h
 refine Goes.imp (Q:=fun x s'=>(x= .exit 0/\ ∃n30 n31,(.inl (n30,n31))=r32/\Sub s' (ofG 291 (kY b.1 ((11,.nilslice)::(kAx n30 n31 []))),(kT a.Yarn a.Dye a.Amount (kD f.Day f.Lots f.Holds []))))\/(x= .ret/\ ∃q33,(.inr q33)=r32/\qbg ZT [.tmp 4] (.bool q33) .ret s')) ?_ ?_
 ·refine Ud (fun M s=> ∃(k:Int) (p:Int) (n29:Int),s=(ofG 291 (kJ b.1 (kAx p n29 (kV b.1 (b.1.length:Int) k []))),(kD u.Day u.Lots u.Holds (kT a.Yarn a.Dye a.Amount (kD f.Day f.Lots f.Holds []))))/\qen N u a b M k p n29=some r32) ?_ (m:=N) ⟨_,_,_,rfl,g32⟩
  rintro M s ⟨k,p,n29,rfl,g32⟩
  cases M with
  |zero=>simp only[qen]at g32;cases g32
  |succ M=>
   rw[qen]at g32
   refine sh fol (kJ b.1 (kAx p n29 (kV b.1 (b.1.length:Int) k [(112,.bool (decide (k<(b.1.length:Int))))]))) ?_
   refine sq ?_
   refine ihD g32 (fun c34 g32=>?_) (fun c34 g32=>?_)
   ·refine Goes.skip ?_
    refine sq (Goes.block ?_)
    obtain⟨H,a7,g32⟩:=bnd g32
    refine sq (gr fol [1,2] (kJ b.1 ((12,.i p)::(14,.i k)::(15,.i H)::(kV b.1 (b.1.length:Int) k []))) (ac (iv qrz encI a7) (ac (lv 0 ce3 encI a7 rfl) az)) ?_)
    refine sq ?_
    refine sq ?_
    obtain⟨b45,d,g32⟩:=bnd g32
    refine Goes.cut (s':=(ofG 291 (kJ b.1 ((12,.i p)::(15,.i H)::(kV b.1 (b.1.length:Int) k [(159,.bool b45)]))),(kD u.Day u.Lots u.Holds (kT a.Yarn a.Dye a.Amount (kD f.Day f.Lots f.Holds []))))) ?_ ?_
    ·rcases wyD d with⟨X,d⟩|⟨X,d⟩
     ·obtain rfl:=si d
      exact tr fol [2] (kJ b.1 ((12,.i p)::(15,.i H)::(kV b.1 (b.1.length:Int) k [(159,.bool true)]))) (ac (gw X) az)
     rcases wyD d with⟨Y,d⟩|⟨Y,d⟩
     ·obtain rfl:=si d
      exact tr fol [2,9] (kJ b.1 ((12,.i p)::(15,.i H)::(kV b.1 (b.1.length:Int) k [(159,.bool true)]))) (ac (gw X) (ac (gw Y) az))
     rcases wyD d with⟨a2,d⟩|⟨a2,d⟩
     ·obtain⟨x39,A,d⟩:=bnd d
      rcases wyD d with⟨c40,d⟩|⟨c40,d⟩
      ·obtain rfl:=si d
       exact tr fol [2,9,12,17,18,22] (kJ b.1 ((12,.i p)::(15,.i H)::(kV b.1 (b.1.length:Int) k [(159,.bool true)]))) (ac (gw X) (ac (gw Y) (ac (gw a2) (ac (iv qrz encI A) (ac (lv 0 ce3 encI A rfl) (ac (gw c40) az))))))
      obtain⟨x41,B,d⟩:=bnd d
      rcases wyB d with⟨c42,d⟩|⟨c42,d⟩
      ·obtain rfl:=si d
       exact tr fol [2,9,12,17,18,22,26,28,33] (kJ b.1 ((12,.i p)::(15,.i H)::(kV b.1 (b.1.length:Int) k [(159,.bool true)]))) (ac (gw X) (ac (gw Y) (ac (gw a2) (ac (iv qrz encI A) (ac (lv 0 ce3 encI A rfl) (ac (gw c40) (ac (iv qoB qg B) (ac (lv 1 ce9 qg B rfl) (ac (gw c42) az)))))))))
      obtain rfl:=si d
      exact tr fol [2,9,12,17,18,22,26,28,33,37,39] (kJ b.1 ((12,.i p)::(15,.i H)::(kV b.1 (b.1.length:Int) k [(159,.bool (!(x41.Dye==a.Dye)))]))) (ac (gw X) (ac (gw Y) (ac (gw a2) (ac (iv qrz encI A) (ac (lv 0 ce3 encI A rfl) (ac (gw c40) (ac (iv qoB qg B) (ac (lv 1 ce9 qg B rfl) (ac (gw c42) (ac (iv qoB qg B) (ac (lv 2 ce9 qg B rfl) az)))))))))))
     obtain⟨x43,C,d⟩:=bnd d
     rcases wyB d with⟨c44,d⟩|⟨c44,d⟩
     ·obtain rfl:=si d
      exact tr fol [2,9,12,26,28,33] (kJ b.1 ((12,.i p)::(15,.i H)::(kV b.1 (b.1.length:Int) k [(159,.bool true)]))) (ac (gw X) (ac (gw Y) (ac (gw a2) (ac (iv qoB qg C) (ac (lv 1 ce9 qg C rfl) (ac (gw c44) az))))))
     obtain rfl:=si d
     exact tr fol [2,9,12,26,28,33,37,39] (kJ b.1 ((12,.i p)::(15,.i H)::(kV b.1 (b.1.length:Int) k [(159,.bool (!(x43.Dye==a.Dye)))]))) (ac (gw X) (ac (gw Y) (ac (gw a2) (ac (iv qoB qg C) (ac (lv 1 ce9 qg C rfl) (ac (gw c44) (ac (iv qoB qg C) (ac (lv 2 ce9 qg C rfl) az))))))))
    refine ihB g32 (fun c47 g32=>?_) (fun c47 g32=>?_)
    ·refine sh fol kAf ?_
     refine Goes.ret ?_
     obtain rfl:=si g32
     exact Or.inr (⟨rfl,_,rfl,(gw2 [.bool false] (Ub tB))⟩)
    refine Goes.skip ?_
    obtain⟨x48,T,g32⟩:=bnd g32
    obtain⟨n,e_r49,g32⟩:=bnd g32
    refine sq (gr fol [4,6,7] (kJ b.1 ((12,.i p)::(kAk H n.1 ((17,.i n.2)::(kV b.1 (b.1.length:Int) k []))))) (ac (iv qoB qg T) (ac (lv 0 ce9 qg T rfl) (ac (cv (qw7 N u x48.Name e_r49)) az))) ?_)
    refine sq ?_
    refine sh fol (kJ b.1 ((12,.i p)::(kAk H n.1 (kV b.1 (b.1.length:Int) k [(172,.bool (!decide (n.2=0)))])))) ?_
    refine ihB g32 (fun c50 g32=>?_) (fun c50 g32=>?_)
    ·refine sh fol kAf ?_
     refine Goes.ret ?_
     obtain rfl:=si g32
     exact Or.inr (⟨rfl,_,rfl,(gw2 [.bool false] (Ub tB))⟩)
    refine Goes.skip ?_
    refine sh fol (kJ b.1 (kAx (w64 (p+n.1)) n.1 (kAk H n.1 (kV b.1 (b.1.length:Int) k [])))) ?_
    obtain⟨r51,e_r51,g32⟩:=bnd g32
    refine sq (gr fol [6,8,15] (kJ b.1 (kAx (w64 (p+n.1)) n.1 ((18,.i r51.1)::(19,.i r51.2)::(kV b.1 (b.1.length:Int) k [])))) (ac (iv qoB qg T) (ac (lv 0 ce9 qg T rfl) (ac (cv (qwe N u (⟨[114,101,115,101,114,118,101],u.Day,x48.Name,(if(if a.Amount<n.1 then a.Amount else n.1)>1 then(if a.Amount<n.1 then a.Amount else n.1)else 1),[],[],[102,117,114,116,104,101,114]⟩:ky) e_r51)) az))) ?_)
    refine sq ?_
    obtain⟨⟨n55,b56⟩,j,g32⟩:=bnd g32
    refine Goes.cut (s':=(ofG 291 (kJ b.1 (kAx n55 n.1 (kV b.1 (b.1.length:Int) k [(209,.bool b56)]))),(kD u.Day u.Lots u.Holds (kT a.Yarn a.Dye a.Amount (kD f.Day f.Lots f.Holds []))))) ?_ ?_
    ·rcases wyB j with⟨a8,j⟩|⟨a8,j⟩
     ·simp only[ZI,ZP]at j
      obtain⟨rfl,rfl⟩:=j
      exact tr fol [2] (kJ b.1 (kAx (w64 (p+n.1)) n.1 (kV b.1 (b.1.length:Int) k [(209,.bool true)]))) (ac (gw a8) az)
     rcases wyB j with⟨c53,j⟩|⟨c53,j⟩
     ·rcases wyB j with⟨c54,j⟩|⟨c54,j⟩
      ·simp only[ZI,ZP]at j
       obtain⟨rfl,rfl⟩:=j
       exact tr fol [2,5,9] (kJ b.1 (kAx (w64 (p+n.1)) n.1 (kV b.1 (b.1.length:Int) k [(209,.bool (!decide (r51.1=5)))]))) (ac (gw a8) (ac (gw c53) (ac (gw c54) az)))
      simp only[ZI,ZP]at j
      obtain⟨rfl,rfl⟩:=j
      exact tr fol [2,5,9] (kJ b.1 (kAx (w64 (p+n.1)) n.1 (kV b.1 (b.1.length:Int) k [(209,.bool false)]))) (ac (gw a8) (ac (gw c53) (ac (gw c54) az)))
     simp only[ZI,ZP]at j
     obtain⟨rfl,rfl⟩:=j
     exact tr fol [2,5] (kJ b.1 (kAx (w64 (p+n.1)) n.1 (kV b.1 (b.1.length:Int) k [(209,.bool false)]))) (ac (gw a8) (ac (gw c53) az))
    try dsimp only at g32
    refine ihB g32 (fun c58 g32=>?_) (fun c58 g32=>?_)
    ·refine sh fol kAf ?_
     refine Goes.ret ?_
     obtain rfl:=si g32
     exact Or.inr (⟨rfl,_,rfl,(gw2 [.bool false] (Ub tB))⟩)
    refine Goes.skip ?_
    refine gh fol (kJ b.1 (kAx n55 n.1 (kV b.1 (b.1.length:Int) (w64 (k+1)) []))) ?_
    exact⟨M,(ofG 291 (kJ b.1 (kAx n55 n.1 (kV b.1 (b.1.length:Int) (w64 (k+1)) []))),(kD u.Day u.Lots u.Holds (kT a.Yarn a.Dye a.Amount (kD f.Day f.Lots f.Holds [])))),Nat.lt_succ_self _,(Sub.refl _),_,_,_,rfl,g32⟩
   refine Goes.exit ?_
   obtain rfl:=si g32
   exact Or.inl (⟨rfl,_,_,rfl,(Sub.norm [] [some 1,some 2] rfl rfl (.drop (.kp (.kp (.keep (.same (zu encI _)) (.keep (.same (jT.nilslice)) (.keep (.same nI) (.keep (.same nI) .nil))))))) (.kb rfl (.same sn) (.kb rfl (.same sn) .nil)))⟩)
 rintro x s' (⟨rfl,n30,n31,rfl,hsub⟩|⟨rfl,q103,rfl,hret⟩)
 ·try dsimp only at h
  refine Goes.sub hsub ?_
  refine sq ?_
  refine sq ?_
  obtain⟨b60,K,h⟩:=bnd h
  refine Goes.cut (s':=(ofG 291 (kY b.1 [(11,.nilslice),(222,.bool b60)]),(kT a.Yarn a.Dye a.Amount (kD f.Day f.Lots f.Holds [])))) ?_ ?_
  ·rcases wyD K with⟨c59,K⟩|⟨c59,K⟩
   ·obtain rfl:=si K
    exact tr fol [4] (kY b.1 [(11,.nilslice),(222,.bool true)]) (ac (gw c59) az)
   obtain rfl:=si K
   exact tr fol [4] (kY b.1 [(11,.nilslice),(222,.bool (decide ((w64 (n30-n31))>=a.Amount)))]) (ac (gw c59) az)
  refine ihB h (fun c62 h=>?_) (fun c62 h=>?_)
  ·refine sh fol kAf ?_
   refine Goes.ret ?_
   obtain rfl:=si h
   exact(gw2 [.bool false] (Ub tB))
  refine Goes.skip ?_
  refine sq ?_
  refine sh fol (kY b.1 [(11,.nilslice),(224,vl qg f.Lots),(225,.i (f.Lots.length:Int)),(226,.i 0)]) ?_
  refine Goes.block ?_
  obtain⟨r66,I,h⟩:=bnd h
  refine Goes.imp (Q:=fun x s'=>(x= .exit 2/\ ∃a3,a3=r66/\Sub s' (ofG 291 ((3,.ptr 0 0)::(6,vl encI b.1)::(kAa a3 [])),(kT a.Yarn a.Dye a.Amount (kO a3 []))))) ?_ ?_
  ·refine Goes.sub (s':=(ofG 291 (kY b.1 [(11,.gslice 2 ([]:List Int).length 1),(224,vl qg f.Lots),(225,.i (f.Lots.length:Int)),(226,.i 0)]),(kT a.Yarn a.Dye a.Amount (kD f.Day f.Lots f.Holds kA7)))) (Sub.norm [] [some 0,some 1,none] rfl rfl (.kp (.kp (.keep (.same (zu encI _)) (.keep .nil (.keep (.same (zu qg _)) (.keep (.same nI) (.keep (.same nI) .nil))))))) (.kb rfl (.same sn) (.kb rfl (.same sn) (.fresh .nil)))) ?_
   refine Ud (fun M s=> ∃(z:List Int) (v:Int),s=(ofG 291 (kY b.1 (kAo z (kAR f.Lots (f.Lots.length:Int) v []))),(kT a.Yarn a.Dye a.Amount (kD f.Day f.Lots f.Holds (kO z []))))/\qex N a f M z v=some r66) ?_ (m:=N) ⟨_,_,rfl,I⟩
   rintro M s ⟨z,v,rfl,I⟩
   cases M with
   |zero=>simp only[qex]at I;cases I
   |succ M=>
    rw[qex]at I
    refine sh fol (kY b.1 (kAo z (kAR f.Lots (f.Lots.length:Int) v [(227,.bool (decide (v<(f.Lots.length:Int))))]))) ?_
    refine sq ?_
    refine ihD I (fun c67 I=>?_) (fun c67 I=>?_)
    ·refine Goes.skip ?_
     refine sq ?_
     obtain⟨r69,D,I⟩:=bnd I
     refine Goes.imp (Q:=fun x s'=>(x= .normal/\ ∃Z,Z=r69/\Sub s' (ofG 291 (kY b.1 (kAo Z (kAR f.Lots (f.Lots.length:Int) v []))),(kT a.Yarn a.Dye a.Amount (kD f.Day f.Lots f.Holds (kO Z [])))))) ?_ ?_
     ·refine Goes.block ?_
      obtain⟨q,a9,D⟩:=bnd D
      refine sq (gq fol [1,2] (kY b.1 (kAo z ((20,.i v)::(21,.ptr 3 0)::(kAR f.Lots (f.Lots.length:Int) v [])))) (kT a.Yarn a.Dye a.Amount (kD f.Day f.Lots f.Holds (kO z (kR q.Name q.Yarn q.Dye q.Stock [])))) (ac (iv qt3 qg a9) (ac (la ag84 qg a9) az)) ?_)
      refine sq ?_
      obtain⟨b72,L,D⟩:=bnd D
      refine Goes.cut (s':=(ofG 291 (kY b.1 (kAo z ((20,.i v)::(kAR f.Lots (f.Lots.length:Int) v [(242,.bool b72)])))),(kT a.Yarn a.Dye a.Amount (kD f.Day f.Lots f.Holds (kO z (kR q.Name q.Yarn q.Dye q.Stock [])))))) ?_ ?_
      ·rcases wyB L with⟨c71,L⟩|⟨c71,L⟩
       ·obtain rfl:=si L
        exact tr fol [5] (kY b.1 (kAo z ((20,.i v)::(kAR f.Lots (f.Lots.length:Int) v [(242,.bool (q.Dye==a.Dye))])))) (ac (gw c71) az)
       obtain rfl:=si L
       exact tr fol [5] (kY b.1 (kAo z ((20,.i v)::(kAR f.Lots (f.Lots.length:Int) v [(242,.bool false)])))) (ac (gw c71) az)
      refine ihB D (fun c74 D=>?_) (fun c74 D=>?_)
      ·obtain⟨r75,e_r75,D⟩:=bnd D
       obtain⟨l76,e_l76,D⟩:=bnd D
       refine gq fol [3,5] (kY b.1 ((11,.gslice 5 l76.length 1)::(kAR f.Lots (f.Lots.length:Int) v []))) (kT a.Yarn a.Dye a.Amount (kD f.Day f.Lots f.Holds (.dead::(kR q.Name q.Yarn q.Dye q.Stock (.cells [.i r75]::(kO l76 [])))))) (ac (cv (qnn N f v e_r75)) (ac (hs (.run [2,4] (qiX ZT [79,79] (.gslice 2 z.length 1) (.slice 4 0 1 1 1)) (kT a.Yarn a.Dye a.Amount (kD f.Day f.Lots f.Holds (kO z (kR q.Name q.Yarn q.Dye q.Stock [.cells [.i r75]])))) (.gslice 5 l76.length 1) (kT a.Yarn a.Dye a.Amount (kD f.Day f.Lots f.Holds (.dead::(kR q.Name q.Yarn q.Dye q.Stock (.cells [.i r75]::(kO l76 [])))))) true) (qnK qrz (E:=encI) rfl (qvN (E:=encI) (ys:=[r75]) rfl rfl rfl rfl) (qwy (E:=encI) (l:=z) rfl rfl rfl e_l76 rfl))) az)) ?_
       obtain rfl:=si D
       exact⟨rfl,_,rfl,(Sub.norm [] [some 0,some 1,some 5] rfl rfl (.kp (.kp (.keep (.same (zu encI _)) (.keep (.gslice rfl) (.keep (.same (zu qg _)) (.keep (.same nI) (.keep (.same nI) .nil))))))) (.kb rfl (.same sn) (.kb rfl (.same sn) (.ks .nil))))⟩
      refine Goes.skip ?_
      obtain rfl:=si D
      exact⟨rfl,_,rfl,(Sub.norm [] [some 0,some 1,some 2] rfl rfl (.kp (.kp (.keep (.same (zu encI _)) (.keep (.gslice rfl) (.drop (.keep (.same (zu qg _)) (.keep (.same nI) (.keep (.same nI) .nil)))))))) (.kb rfl (.same sn) (.kb rfl (.same sn) (.ks .nil))))⟩
     rintro x s' ⟨rfl,Z,rfl,hsub⟩
     refine Goes.sub hsub ?_
     refine gh fol (kY b.1 (kAo Z (kAR f.Lots (f.Lots.length:Int) (w64 (v+1)) []))) ?_
     exact⟨M,(ofG 291 (kY b.1 (kAo Z (kAR f.Lots (f.Lots.length:Int) (w64 (v+1)) []))),(kT a.Yarn a.Dye a.Amount (kD f.Day f.Lots f.Holds (kO Z [])))),Nat.lt_succ_self _,(Sub.refl _),_,_,rfl,I⟩
    refine Goes.exit ?_
    obtain rfl:=si I
    exact⟨rfl,_,rfl,(Sub.norm [] [some 0,some 2] rfl rfl (.kp (.drop (.keep (.same (zu encI _)) (.keep (.gslice rfl) .nil)))) (.kb rfl (.same sn) (.ks .nil)))⟩
  rintro x s' ⟨rfl,a3,rfl,hsub⟩
  refine Goes.sub hsub ?_
  refine sh fol ((3,.ptr 0 0)::(6,vl encI b.1)::(kAa a3 [(22,.i 0)])) ?_
  refine sq ?_
  refine sh fol ((3,.ptr 0 0)::(kAa a3 [(22,.i 0),(252,.i (w64 ((b.1.length:Int)-1))),(253,.i 0)])) ?_
  refine Goes.block ?_
  obtain⟨r81,F,h⟩:=bnd h
  refine Goes.imp (Q:=fun x s'=>(x= .exit 4/\ ∃n80,n80=r81/\Sub s' (ofG 291 [(3,.ptr 0 0),(22,.i n80)],(kT a.Yarn a.Dye a.Amount [])))) ?_ ?_
  ·refine Ud (fun M s=> ∃(e:List Int) (r:Int) (o:Int),s=(ofG 291 (kP e r (kAV (w64 ((b.1.length:Int)-1)) o [])),(kT a.Yarn a.Dye a.Amount (kO e [])))/\qea N b M e r o=some r81) ?_ (m:=N) ⟨_,_,_,rfl,F⟩
   rintro M s ⟨e,r,o,rfl,F⟩
   cases M with
   |zero=>simp only[qea]at F;cases F
   |succ M=>
    rw[qea]at F
    refine sh fol (kP e r (kAV (w64 ((b.1.length:Int)-1)) o [(254,.bool (decide (o<(w64 ((b.1.length:Int)-1)))))])) ?_
    refine sq ?_
    refine ihD F (fun c82 F=>?_) (fun c82 F=>?_)
    ·refine Goes.skip ?_
     refine sq ?_
     obtain⟨r85,O,F⟩:=bnd F
     refine Goes.imp (Q:=fun x s'=>(x= .normal/\ ∃a0 b0,(a0,b0)=r85/\Sub s' (ofG 291 (kP a0 b0 (kAV (w64 ((b.1.length:Int)-1)) o [])),(kT a.Yarn a.Dye a.Amount (kO a0 []))))) ?_ ?_
     ·refine Goes.block ?_
      refine sh fol (kP e r ((23,.i 0)::(kAV (w64 ((b.1.length:Int)-1)) o []))) ?_
      refine sq ?_
      refine sh fol (kP e r ((23,.i 0)::(kAV (w64 ((b.1.length:Int)-1)) o [(256,.i (e.length:Int)),(257,.i 0)]))) ?_
      refine Goes.block ?_
      obtain⟨r89,J,O⟩:=bnd O
      refine Goes.imp (Q:=fun x s'=>(x= .exit 6/\ ∃P,P=r89/\Sub s' (ofG 291 (kP e r ((23,.i P)::(kAV (w64 ((b.1.length:Int)-1)) o []))),(kT a.Yarn a.Dye a.Amount (kO e []))))) ?_ ?_
      ·refine Ud (fun M s=> ∃(U:Int) (w:Int),s=(ofG 291 (kP e r ((23,.i U)::(kAV (w64 ((b.1.length:Int)-1)) o [(256,.i (e.length:Int)),(257,.i w)]))),(kT a.Yarn a.Dye a.Amount (kO e [])))/\qcR e M U w=some r89) ?_ (m:=N) ⟨_,_,rfl,J⟩
       rintro M s ⟨U,w,rfl,J⟩
       cases M with
       |zero=>simp only[qcR]at J;cases J
       |succ M=>
        rw[qcR]at J
        refine sh fol (kP e r ((23,.i U)::(kAV (w64 ((b.1.length:Int)-1)) o [(256,.i (e.length:Int)),(257,.i w),(258,.bool (decide (w<(e.length:Int))))]))) ?_
        refine sq ?_
        refine ihD J (fun c90 J=>?_) (fun c90 J=>?_)
        ·refine Goes.skip ?_
         refine sq ?_
         obtain⟨r92,V,J⟩:=bnd J
         refine Goes.imp (Q:=fun x s'=>(x= .normal/\ ∃b1,b1=r92/\Sub s' (ofG 291 (kP e r ((23,.i b1)::(kAV (w64 ((b.1.length:Int)-1)) o [(256,.i (e.length:Int)),(257,.i w)]))),(kT a.Yarn a.Dye a.Amount (kO e []))))) ?_ ?_
         ·refine Goes.block ?_
          refine sh fol (kP e r ((23,.i U)::(24,.i w)::(kAV (w64 ((b.1.length:Int)-1)) o [(256,.i (e.length:Int)),(257,.i w)]))) ?_
          obtain⟨x93,b2,V⟩:=bnd V
          obtain⟨x94,b3,V⟩:=bnd V
          refine sq (gr fol [2,3,6,7] (kP e r ((23,.i U)::(24,.i w)::(kAV (w64 ((b.1.length:Int)-1)) o [(256,.i (e.length:Int)),(257,.i w),(268,.bool (decide (x93>x94)))]))) (ac (hs (.done (.opt (zi ZT 79 (.gslice 1 e.length 1) (.i w))) (.ptr 1 ((w:Int).toNat*1+0))) (qtE qrz b2)) (ac (hs (.run [1] (qjE ZT 3 (.ptr 1 ((w:Int).toNat*1+0))) (kT a.Yarn a.Dye a.Amount (kO e [])) (.i x93) (kT a.Yarn a.Dye a.Amount (kO e [])) false) (ld_p ce3 (E:=encI) (l:=e) rfl rfl b2 (nl rfl) rfl)) (ac (hs (.done (.opt (zi ZT 79 (.gslice 1 e.length 1) (.i U))) (.ptr 1 ((U:Int).toNat*1+0))) (qtE qrz b3)) (ac (hs (.run [1] (qjE ZT 3 (.ptr 1 ((U:Int).toNat*1+0))) (kT a.Yarn a.Dye a.Amount (kO e [])) (.i x94) (kT a.Yarn a.Dye a.Amount (kO e [])) false) (ld_p ce3 (E:=encI) (l:=e) rfl rfl b3 (nl rfl) rfl)) az)))) ?_)
          refine ihD V (fun c95 V=>?_) (fun c95 V=>?_)
          ·refine gh fol (kP e r ((23,.i w)::(kAV (w64 ((b.1.length:Int)-1)) o [(256,.i (e.length:Int)),(257,.i w)]))) ?_
           obtain rfl:=si V
           exact⟨rfl,_,rfl,(Sub.refl _)⟩
          refine Goes.skip ?_
          obtain rfl:=si V
          exact⟨rfl,_,rfl,(Sub.keep [3,11,22,23,252,253,256,257] rfl rfl)⟩
         rintro x s' ⟨rfl,b1,rfl,hsub⟩
         refine Goes.sub hsub ?_
         refine gh fol (kP e r ((23,.i b1)::(kAV (w64 ((b.1.length:Int)-1)) o [(256,.i (e.length:Int)),(257,.i (w64 (w+1)))]))) ?_
         exact⟨M,(ofG 291 (kP e r ((23,.i b1)::(kAV (w64 ((b.1.length:Int)-1)) o [(256,.i (e.length:Int)),(257,.i (w64 (w+1)))]))),(kT a.Yarn a.Dye a.Amount (kO e []))),Nat.lt_succ_self _,(Sub.refl _),_,_,rfl,J⟩
        refine Goes.exit ?_
        obtain rfl:=si J
        exact⟨rfl,_,rfl,(Sub.keep [3,11,22,23,252,253] rfl rfl)⟩
      rintro x s' ⟨rfl,P,rfl,hsub⟩
      refine Goes.sub hsub ?_
      refine sh fol (kP e r ((23,.i P)::(kAV (w64 ((b.1.length:Int)-1)) o [(273,.bool (decide ((e.length:Int)>0)))]))) ?_
      refine ihD O (fun c96 O=>?_) (fun c96 O=>?_)
      ·obtain⟨b4,W,O⟩:=bnd O
       refine sq (gr fol [3,4] (kP e (w64 (r+b4)) ((23,.i P)::(kAV (w64 ((b.1.length:Int)-1)) o []))) (ac (hs (.done (.opt (zi ZT 79 (.gslice 1 e.length 1) (.i P))) (.ptr 1 ((P:Int).toNat*1+0))) (qtE qrz W)) (ac (hs (.run [1] (qjE ZT 3 (.ptr 1 ((P:Int).toNat*1+0))) (kT a.Yarn a.Dye a.Amount (kO e [])) (.i b4) (kT a.Yarn a.Dye a.Amount (kO e [])) false) (ld_p ce3 (E:=encI) (l:=e) rfl rfl W (nl rfl) rfl)) az)) ?_)
       obtain⟨b5,b6,O⟩:=bnd O
       refine gq fol [2,3] (kP e (w64 (r+b4)) (kAV (w64 ((b.1.length:Int)-1)) o [])) (kT a.Yarn a.Dye a.Amount (kO b5 [])) (ac (hs (.done (.opt (zi ZT 79 (.gslice 1 e.length 1) (.i P))) (.ptr 1 ((P:Int).toNat*1+0))) (qtE qrz W)) (ac (hs (.run [1] (qqB ZT 3 (.ptr 1 ((P:Int).toNat*1+0)) (.i 0)) (kT a.Yarn a.Dye a.Amount (kO e [])) .undef (kT a.Yarn a.Dye a.Amount (kO b5 [])) true) (qzH (E:=encI) (l:=e) (y:=0) rfl (show _=some 1 by kernel_rfl) rfl W rfl rfl rfl rfl rfl b6 rfl)) az)) ?_
       obtain rfl:=si O
       exact⟨rfl,_,_,rfl,((show Sub (ofG 291 (kP e (w64 (r+b4)) (kAV (w64 ((b.1.length:Int)-1)) o [])),(kT a.Yarn a.Dye a.Amount (kO b5 []))) (ofG 291 (kP b5 (w64 (r+b4)) (kAV (w64 ((b.1.length:Int)-1)) o [])),(kT a.Yarn a.Dye a.Amount (kO b5 [])))from(Sub.norm [] [some 0,some 1] rfl rfl (.kp (.keep (.gsliceE rfl (quL b6)) (.keep (.same nI) (.keep (.same nI) (.keep (.same nI) .nil))))) (.kb rfl (.same sn) (.ks .nil)))).trans (Sub.refl _))⟩
      refine Goes.skip ?_
      obtain rfl:=si O
      exact⟨rfl,_,_,rfl,(Sub.keep [3,11,22,252,253] rfl rfl)⟩
     rintro x s' ⟨rfl,a0,b0,rfl,hsub⟩
     try dsimp only at F
     refine Goes.sub hsub ?_
     refine gh fol (kP a0 b0 (kAV (w64 ((b.1.length:Int)-1)) (w64 (o+1)) [])) ?_
     exact⟨M,(ofG 291 (kP a0 b0 (kAV (w64 ((b.1.length:Int)-1)) (w64 (o+1)) [])),(kT a.Yarn a.Dye a.Amount (kO a0 []))),Nat.lt_succ_self _,(Sub.refl _),_,_,_,rfl,F⟩
    refine Goes.exit ?_
    obtain rfl:=si F
    exact⟨rfl,_,rfl,(Sub.norm [] [some 0] rfl rfl (.kp (.drop (.keep (.same nI) .nil))) (.kb rfl (.same sn) .nil))⟩
  rintro x s' ⟨rfl,n80,rfl,hsub⟩
  refine Goes.sub hsub ?_
  refine sq ?_
  obtain⟨b101,t,h⟩:=bnd h
  refine Goes.cut (s':=(ofG 291 (kA1 b101),(kT a.Yarn a.Dye a.Amount []))) ?_ ?_
  ·rcases wyD t with⟨c99,t⟩|⟨c99,t⟩
   ·obtain⟨r100,e_r100,t⟩:=bnd t
    obtain rfl:=si t
    exact tr fol [4,5] (kA1 r100) (ac (gw c99) (ac (cv (qwO e_r100)) az))
   obtain rfl:=si t
   exact tr fol [4] kAf (ac (gw c99) az)
  refine Goes.ret ?_
  obtain rfl:=si h
  exact(gw2 [.bool b101] (Ub tB))
 try dsimp only at h
 obtain rfl:=si h
 exact hret
end Go.Av
