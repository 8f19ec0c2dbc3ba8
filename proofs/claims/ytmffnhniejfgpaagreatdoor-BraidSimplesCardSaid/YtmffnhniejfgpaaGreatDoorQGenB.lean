/-
  The walk of the law.
-/
import Derived.Test.YtmffnhniejfgpaaGreatDoorQGenB4
import Derived.Test.YtmffnhniejfgpaaGreatDoorAvAwkB5
noncomputable section
namespace Go.Av
open Go.Proofs Go.RowKit
set_option linter.unusedSectionVars false
set_option linter.unusedVariables false
set_option linter.unusedSimpArgs false
set_option maxRecDepth 100000
def awk:Option Bool:=some true
theorem qc8 {res:Bool} (h:awk=some res):qa ZT (.fn 8) [] [] (.bool res) []:=by
 obtain rfl:=si h
 exact qhT
def qJ (f:zV):Nat->Int->Option (Unit⊕Bool)
 |0,_=>none
 |K+1,a=>
  if a<(f.Factors.length:Int)then
  (idx f.Factors a).bind fun b=>
  if(b.length:Int)>14 then
  some (.inr true)
  else
  qJ f K (w64 (a+1))
  else
  some (.inl ())
def jw (N:Nat) (n:Int) (p:List Int) (f:zV):Option Bool:=
 ((awk).bind fun B=>
 if(!B)=true then
 some true
 else
 if(p.length:Int)>260 then
 some true
 else
 some (decide ((f.Factors.length:Int)>220)):Option Bool).bind fun C=>
 if C=true then
 (awk).bind fun D=>
 some D
 else
 (qJ f N 0).bind (fun
 |(.inl ())=>
 (if n<1 then
 (zm true 3).bind fun g=>
 some g
 else
 (zm (decide (n>12)) 3).bind fun h=>
 some h:Option Int).bind fun i=>
 (zm (!decide ((p.length:Int)=n)) 2).bind fun j=>
 (ze N p).bind fun k=>
 (zm (!decide (k=0)) 15).bind fun l=>
 (vD N ([i,j,l]:List Int)).bind fun b=>
 (vE N n p).bind fun a=>
 (if(!decide (b=0))=true then
 (zb N a.1 a.2 b []).bind fun m=>
 if(!m)=true then
 some true
 else
 if b=0 then
 (kD N p).bind fun o=>
 (zb N a.1 a.2 0 o).bind fun q=>
 some (!q)
 else
 some false
 else
 if b=0 then
 (kD N p).bind fun r=>
 (zb N a.1 a.2 0 r).bind fun s=>
 some (!s)
 else
 some false:Option Bool).bind fun t=>
 if t=true then
 some false
 else
 (y9 f).bind fun u=>
 (jG N n u).bind fun d=>
 (zH N n f).bind fun v=>
 if(!decide (v=d))=true then
 some false
 else
 (jQ N n f).bind fun c=>
 if(!decide (d=0))=true then
 (zb N c.1 c.2 d []).bind fun w=>
 some w
 else
 (y9 f).bind fun x=>
 (vV N n x).bind fun e=>
 (zm (decide ((e.length:Int)>200)) 5).bind fun y=>
 (zb N c.1 c.2 y e).bind fun z=>
 some z
 |(.inr A)=>
 some A)
theorem xU (N:Nat) (n:Int) (p:List Int) (f:zV) {res:Bool} (h:jw N n p f=some res):qa ZT (.fn 3) [.i n,vl encI p,.agg [.i f.Half,vl (qf encI) f.Factors]] [] (.bool res) []:=by
 unfold jw at h
 refine Ub Tryz.func3 rfl rfl (m:=123) rfl (rs:=[.tmp 6]) rfl (l:=(kB n p [(2,.agg [.i f.Half,vl (qf encI) f.Factors])])) rfl ?_
 refine sg fol (kB n p (kX [])) [.cells [.i f.Half,vl (qf encI) f.Factors]] ?_
 refine sq ?_
 refine sq ?_
 obtain⟨b4,c,h⟩:=bnd h
 refine Goes.cut (s':=(ofG 123 (kB n p (kX [(28,.bool b4)])),[.cells [.i f.Half,vl (qf encI) f.Factors]])) ?_ ?_
 ·obtain⟨r1,r,c⟩:=bnd c
  rcases wyB c with⟨c2,c⟩|⟨c2,c⟩
  ·obtain rfl:=si c
   exact tr fol [0,2] (kB n p (kX [(28,.bool true)])) (ac (cv (qc8 r)) (ac (gw c2) az))
  rcases wyD c with⟨c3,c⟩|⟨c3,c⟩
  ·obtain rfl:=si c
   exact tr fol [0,2,7] (kB n p (kX [(28,.bool true)])) (ac (cv (qc8 r)) (ac (gw c2) (ac (gw c3) az)))
  obtain rfl:=si c
  exact tr fol [0,2,7] (kB n p (kX [(28,.bool (decide ((f.Factors.length:Int)>220)))])) (ac (cv (qc8 r)) (ac (gw c2) (ac (gw c3) az)))
 refine ihB h (fun c6 h=>?_) (fun c6 h=>?_)
 ·obtain⟨r7,a3,h⟩:=bnd h
  refine sq (gr fol [0] (kBG r7) (ac (cv (qc8 a3)) az) ?_)
  refine Goes.ret ?_
  obtain rfl:=si h
  exact(gw2 [.bool r7] (Ua tB))
 refine Goes.skip ?_
 refine sq ?_
 refine sh fol (kB n p (kX [(32,.i (f.Factors.length:Int)),(33,.i 0)])) ?_
 refine Goes.block ?_
 obtain⟨r9,g9,h⟩:=bnd h
 refine Goes.imp (Q:=fun x s'=>(x= .exit 0/\(.inl ())=r9/\Sub s' (ofG 123 (kB n p (kX [])),[.cells [.i f.Half,vl (qf encI) f.Factors]]))\/(x= .ret/\ ∃a4,(.inr a4)=r9/\zx ZT [.tmp 6] (.bool a4) .ret s')) ?_ ?_
 ·refine Uc (fun M s=> ∃(w:Int),s=(ofG 123 (kB n p (kX (kBH (f.Factors.length:Int) w))),[.cells [.i f.Half,vl (qf encI) f.Factors]])/\qJ f M w=some r9) ?_ (m:=N) ⟨_,rfl,g9⟩
  rintro M s ⟨w,rfl,g9⟩
  cases M with
  |zero=>simp only[qJ]at g9;cases g9
  |succ M=>
   rw[qJ]at g9
   refine sh fol (kB n p (kX [(32,.i (f.Factors.length:Int)),(33,.i w),(34,.bool (decide (w<(f.Factors.length:Int))))])) ?_
   refine sq ?_
   refine ihD g9 (fun c11 g9=>?_) (fun c11 g9=>?_)
   ·refine Goes.skip ?_
    refine sq (Goes.block ?_)
    refine sh fol (kB n p (kX ((7,.i w)::(kBH (f.Factors.length:Int) w)))) ?_
    obtain⟨x12,t,g9⟩:=bnd g9
    refine sq (gr fol [3,4] (kB n p (kX [(32,.i (f.Factors.length:Int)),(33,.i w),(42,.bool (decide ((x12.length:Int)>14)))])) (ac (iv qeE (qf encI) t) (ac (lv 0 qeh (qf encI) t rfl) az)) ?_)
    refine ihD g9 (fun c13 g9=>?_) (fun c13 g9=>?_)
    ·refine sh fol [(6,.bool true)] ?_
     refine Goes.ret ?_
     obtain rfl:=si g9
     exact Or.inr (⟨rfl,_,rfl,(gw2 [.bool true] (Ua tB))⟩)
    refine Goes.skip ?_
    refine gh fol (kB n p (kX (kBH (f.Factors.length:Int) (w64 (w+1))))) ?_
    exact⟨M,(ofG 123 (kB n p (kX (kBH (f.Factors.length:Int) (w64 (w+1))))),[.cells [.i f.Half,vl (qf encI) f.Factors]]),Nat.lt_succ_self _,(Sub.refl _),_,rfl,g9⟩
   refine Goes.exit ?_
   obtain rfl:=si g9
   exact Or.inl (⟨rfl,rfl,(Sub.keep [0,1,5] rfl rfl)⟩)
 rintro x s' (⟨rfl,rfl,hsub⟩|⟨rfl,q47,rfl,hret⟩)
 ·try dsimp only at h
  refine Goes.sub hsub ?_
  refine sq ?_
  obtain⟨k,b,h⟩:=bnd h
  refine Goes.cut (s':=(ofG 123 (kB n p (kX (kA2 k))),[.cells [.i f.Half,vl (qf encI) f.Factors]])) ?_ ?_
  ·rcases wyD b with⟨z,b⟩|⟨z,b⟩
   ·obtain⟨r15,A,b⟩:=bnd b
    obtain rfl:=si b
    exact tr fol [2,6] (kB n p (kX (kA2 r15))) (ac (gw z) (ac (cv (jY true 3 A)) az))
   obtain⟨r16,B,b⟩:=bnd b
   obtain rfl:=si b
   exact tr fol [2,6] (kB n p (kX (kA2 r16))) (ac (gw z) (ac (cv (jY (decide (n>12)) 3 B)) az))
  obtain⟨u,C,h⟩:=bnd h
  obtain⟨r20,D,h⟩:=bnd h
  obtain⟨v,F,h⟩:=bnd h
  obtain⟨o,G,h⟩:=bnd h
  refine sq (gq fol [5,7,9,11] (kB n p (kX [(9,.i o)])) (.cells [.i f.Half,vl (qf encI) f.Factors]::(kAM k u v)) (ac (cv (jY (!decide ((p.length:Int)=n)) 2 C)) (ac (cv (yL N p D)) (ac (cv (jY (!decide (r20=0)) 15 F)) (ac (hs (.call 10 [.slice 1 0 3 3 1] (.cells [.i f.Half,vl (qf encI) f.Factors]::(kAM k u v)) [1] [vl encI ([k,u,v]:List Int)] (.i o)) (xN (FzL.cons (Fz.lit rfl rfl (Um (AllST.cons tI (AllST.cons tI (AllST.cons tI AllST.nil))))) FzL.nil) (qcr N ([k,u,v]:List Int) G) tI rfl)) az)))) ?_)
  obtain⟨d,H,h⟩:=bnd h
  refine sq (gr fol [2] (kB n p (kX ((9,.i o)::(kP d.1 d.2 [])))) (ac (cv (qbC N n p H)) az) ?_)
  refine sq ?_
  refine sq ?_
  obtain⟨b33,a,h⟩:=bnd h
  refine Goes.cut (s':=(ofG 123 ((0,.i n)::(kX [(89,.bool b33)])),(.cells [.i f.Half,vl (qf encI) f.Factors]::(kAM k u v)))) ?_ ?_
  ·rcases wyB a with⟨q,a⟩|⟨q,a⟩
   ·obtain⟨r25,g,a⟩:=bnd a
    rcases wyB a with⟨y,a⟩|⟨y,a⟩
    ·obtain rfl:=si a
     exact tr fol [2,6,9] ((0,.i n)::(kX [(89,.bool true)])) (ac (gw q) (ac (cv ((qa.wk (jd N d.1 d.2 o [] g) (WkL.cons (Wk.refl _) (WkL.cons (Wk.refl _) (WkL.cons (Wk.refl _) (WkL.cons (Wk.nilv (E:=encI)) WkL.nil))))))) (ac (gw y) az)))
    rcases wyD a with⟨I,a⟩|⟨I,a⟩
    ·obtain⟨r28,J,a⟩:=bnd a
     obtain⟨r29,K,a⟩:=bnd a
     obtain rfl:=si a
     exact tr fol [2,6,9,12,16,17] ((0,.i n)::(kX [(89,.bool (!r29))])) (ac (gw q) (ac (cv ((qa.wk (jd N d.1 d.2 o [] g) (WkL.cons (Wk.refl _) (WkL.cons (Wk.refl _) (WkL.cons (Wk.refl _) (WkL.cons (Wk.nilv (E:=encI)) WkL.nil))))))) (ac (gw y) (ac (gw I) (ac (cv (vg N p J)) (ac (cv (jd N d.1 d.2 0 r28 K)) az))))))
    obtain rfl:=si a
    exact tr fol [2,6,9,12] ((0,.i n)::(kX [(89,.bool false)])) (ac (gw q) (ac (cv ((qa.wk (jd N d.1 d.2 o [] g) (WkL.cons (Wk.refl _) (WkL.cons (Wk.refl _) (WkL.cons (Wk.refl _) (WkL.cons (Wk.nilv (E:=encI)) WkL.nil))))))) (ac (gw y) (ac (gw I) az))))
   rcases wyD a with⟨L,a⟩|⟨L,a⟩
   ·obtain⟨r31,O,a⟩:=bnd a
    obtain⟨r32,P,a⟩:=bnd a
    obtain rfl:=si a
    exact tr fol [2,12,16,17] ((0,.i n)::(kX [(89,.bool (!r32))])) (ac (gw q) (ac (gw L) (ac (cv (vg N p O)) (ac (cv (jd N d.1 d.2 0 r31 P)) az))))
   obtain rfl:=si a
   exact tr fol [2,12] ((0,.i n)::(kX [(89,.bool false)])) (ac (gw q) (ac (gw L) az))
  refine ihB h (fun c35 h=>?_) (fun c35 h=>?_)
  ·refine sh fol [(6,.bool false)] ?_
   refine Goes.ret ?_
   obtain rfl:=si h
   exact(gw2 [.bool false] (Ua tB))
  refine Goes.skip ?_
  obtain⟨r36,T,h⟩:=bnd h
  obtain⟨j,U,h⟩:=bnd h
  refine sq (gr fol [2,3] ((0,.i n)::(kX [(12,.i j)])) (ac (cv (qaW f T)) (ac (cv (qaL N n r36 U)) az)) ?_)
  refine sq ?_
  obtain⟨r38,V,h⟩:=bnd h
  refine sq (gr fol [2] ((0,.i n)::(kX [(12,.i j),(98,.bool (!decide (r38=j)))])) (ac (cv (yJ N n f V)) az) ?_)
  refine ihB h (fun c39 h=>?_) (fun c39 h=>?_)
  ·refine sh fol [(6,.bool false)] ?_
   refine Goes.ret ?_
   obtain rfl:=si h
   exact(gw2 [.bool false] (Ua tB))
  refine Goes.skip ?_
  obtain⟨e,W,h⟩:=bnd h
  refine sq (gr fol [2] ((0,.i n)::(kX [(12,.i j),(13,vl encI e.1),(14,.i e.2)])) (ac (cv (qcl N n f W)) az) ?_)
  refine sq ?_
  refine sh fol ((0,.i n)::(kX [(12,.i j),(13,vl encI e.1),(14,.i e.2),(106,.bool (!decide (j=0)))])) ?_
  refine ihB h (fun c41 h=>?_) (fun c41 h=>?_)
  ·obtain⟨a5,X,h⟩:=bnd h
   refine sq (gr fol [3] (kBG a5) (ac (cv ((qa.wk (jd N e.1 e.2 j [] X) (WkL.cons (Wk.refl _) (WkL.cons (Wk.refl _) (WkL.cons (Wk.refl _) (WkL.cons (Wk.nilv (E:=encI)) WkL.nil))))))) az) ?_)
   refine Goes.ret ?_
   obtain rfl:=si h
   exact(gw2 [.bool a5] (Ua tB))
  refine Goes.skip ?_
  obtain⟨r43,Y,h⟩:=bnd h
  obtain⟨Z,a0,h⟩:=bnd h
  refine sq (gr fol [2,3] [(13,vl encI e.1),(14,.i e.2),(15,vl encI Z)] (ac (cv (qaW f Y)) (ac (cv (qbX N n r43 a0)) az)) ?_)
  obtain⟨r45,a1,h⟩:=bnd h
  obtain⟨a6,a2,h⟩:=bnd h
  refine sq (gr fol [5,7] (kBG a6) (ac (cv (jY (decide ((Z.length:Int)>200)) 5 a1)) (ac (cv (jd N e.1 e.2 r45 Z a2)) az)) ?_)
  refine Goes.ret ?_
  obtain rfl:=si h
  exact(gw2 [.bool a6] (Ua tB))
 try dsimp only at h
 obtain rfl:=si h
 exact hret
end Go.Av
