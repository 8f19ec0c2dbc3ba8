/-
  The walk of the law.
-/
import Derived.Test.YtcnioemfifogeaaGreatDoorQGenTs4
import Derived.Test.YtcnioemfifogeaaGreatDoorAvAwkT3
noncomputable section
namespace Go.Av
open Go.Proofs Go.RowKit
set_option linter.unusedSectionVars false
set_option linter.unusedVariables false
set_option linter.unusedSimpArgs false
set_option maxRecDepth 100000
def awk:Option Bool:=some true
theorem qCE {res:Bool} (h:awk=some res):zu ZT (.fn 37) [] [] (.bool res) []:=by
 obtain rfl:=si h
 exact qIG
def y7 (l:List zi):Nat->(List zi)->Int->Option ((List zi)⊕Bool)
 |0,_,_=>none
 |K+1,c,b=>
  if b<(l.length:Int)then
  (idx l b).bind fun a=>
  if(a.Lot.length:Int)>20 then
  (awk).bind fun d=>
  some (.inr d)
  else
  (cat [122,95] a.Lot).bind fun e=>
  (if(a.Lot.length:Int)>2 then
  (cut a.Lot 0 2).bind fun f=>
  some (f==[122,95])
  else
  some false:Option Bool).bind fun g=>
  if g=true then
  (awk).bind fun h=>
  some (.inr h)
  else
  (app 96 c [a,(⟨a.Kind,a.Day,e,a.Amount,a.Yarn,a.Dye,a.Order⟩:zi)]).bind fun i=>
  y7 l K i (w64 (b+1))
  else
  some (.inl c)
def qcv (N:Nat) (a:StateT×(List qe6)×Int) (c:StateT×(List qe6)×Int):Nat->Int->Int->Option (Int⊕Bool)
 |0,_,_=>none
 |K+1,f,d=>
  if d<(a.1.Lots.length:Int)then
  (idx a.1.Lots d).bind fun b=>
  (qpt N a.1 b.Name).bind fun e=>
  (qpt N c.1 b.Name).bind fun g=>
  (cat [122,95] b.Name).bind fun i=>
  (qpt N c.1 i).bind fun h=>
  (if(!decide (e.2=0))=true then
  some true
  else
  if(!decide (g.2=0))=true then
  some true
  else
  if(!decide (h.2=0))=true then
  some true
  else
  if(!decide (e.1=g.1))=true then
  some true
  else
  some (!decide (e.1=h.1)):Option Bool).bind fun j=>
  if j=true then
  some (.inr false)
  else
  qcv N a c K (w64 (f+(w64 (2*b.Stock)))) (w64 (d+1))
  else
  some (.inl f)
def qcA (a:StateT×(List qe6)×Int):Nat->Int->Int->Option Int
 |0,_,_=>none
 |K+1,c,b=>
  if b<(a.1.Lots.length:Int)then
  (idx a.1.Lots b).bind fun d=>
  qcA a K (w64 (c+d.Stock)) (w64 (b+1))
  else
  some c
def qja (N:Nat) (l:List zi):Option Bool:=
 (if(l.length:Int)>16 then
 some true
 else
 (qgj N l).bind fun m=>
 (qpj N m 16).bind fun n=>
 if(!n)=true then
 some true
 else
 (qgj N l).bind fun o=>
 (qpk N o).bind fun p=>
 some (!decide (p=0)):Option Bool).bind fun q=>
 if q=true then
 (awk).bind fun c=>
 some c
 else
 (y7 l N ([]:List zi) 0).bind (fun
 |(.inl d)=>
 (qqv N l).bind fun b=>
 (qqv N d).bind fun a=>
 (if(!decide (b.2.2=0))=true then
 some true
 else
 if(!decide (a.2.2=0))=true then
 some true
 else
 if(!decide ((a.2.1.length:Int)=(w64 (2*(b.2.1.length:Int)))))=true then
 some true
 else
 if(!decide ((a.1.Lots.length:Int)=(w64 (2*(b.1.Lots.length:Int)))))=true then
 some true
 else
 if(!decide ((a.1.Holds.length:Int)=(w64 (2*(b.1.Holds.length:Int)))))=true then
 some true
 else
 some (!decide (a.1.Day=b.1.Day)):Option Bool).bind fun e=>
 if e=true then
 some false
 else
 (qcv N b a N 0 0).bind (fun
 |(.inl f)=>
 (qcA a N 0 0).bind fun g=>
 (if f=g then
 (awk).bind fun h=>
 some h
 else
 some false:Option Bool).bind fun i=>
 some i
 |(.inr j)=>
 some j)
 |(.inr k)=>
 some k)
theorem qsb (N:Nat) (l:List zi) {res:Bool} (h:qja N l=some res):zu ZT (.fn 7) [vl jT l] [] (.bool res) []:=by
 unfold qja at h
 refine Uc Tryz.func7 rfl rfl (m:=200) rfl (rs:=[.tmp 2]) rfl (l:=(kN l [])) rfl ?_
 refine sh fol (kN l []) ?_
 refine sq ?_
 refine sq ?_
 obtain⟨b7,g,h⟩:=bnd h
 refine Goes.cut (s':=(ofG 200 (kN l [(39,.bool b7)]),[])) ?_ ?_
 ·rcases wyD g with⟨c1,g⟩|⟨c1,g⟩
  ·obtain rfl:=si g
   exact tr fol [3] (kN l [(39,.bool true)]) (ac (gw c1) az)
  obtain⟨r2,V,g⟩:=bnd g
  obtain⟨r3,W,g⟩:=bnd g
  rcases wyB g with⟨c4,g⟩|⟨c4,g⟩
  ·obtain rfl:=si g
   exact tr fol [3,5,6,9] (kN l [(39,.bool true)]) (ac (gw c1) (ac (cv (ql6 N l V)) (ac (cv (quf N r2 16 W)) (ac (gw c4) az))))
  obtain⟨r5,b9,g⟩:=bnd g
  obtain⟨r6,c0,g⟩:=bnd g
  obtain rfl:=si g
  exact tr fol [3,5,6,9,11,12] (kN l [(39,.bool (!decide (r6=0)))]) (ac (gw c1) (ac (cv (ql6 N l V)) (ac (cv (quf N r2 16 W)) (ac (gw c4) (ac (cv (ql6 N l b9)) (ac (cv (qyM N r5 c0)) az))))))
 refine ihB h (fun c9 h=>?_) (fun c9 h=>?_)
 ·obtain⟨c2,X,h⟩:=bnd h
  refine sq (gr fol [0] (kAJ c2) (ac (cv (qCE X)) az) ?_)
  refine Goes.ret ?_
  obtain rfl:=si h
  exact(gw2 [.bool c2] (Ub tB))
 refine Goes.skip ?_
 refine sh fol (kN l [(3,.nilslice)]) ?_
 refine sq ?_
 refine sh fol (kN l [(3,.nilslice),(41,vl jT l),(42,.i (l.length:Int)),(43,.i 0)]) ?_
 refine Goes.block ?_
 obtain⟨Y,g14,h⟩:=bnd h
 refine Goes.imp (Q:=fun x s'=>(x= .exit 0/\ ∃u,(.inl u)=Y/\Sub s' (ofG 200 (kN l (kAC u [])),(kT u [])))\/(x= .ret/\ ∃c3,(.inr c3)=Y/\qhA ZT [.tmp 2] (.bool c3) .ret s')) ?_ ?_
 ·refine Goes.sub (s':=(ofG 200 (kN l [(3,.gslice 0 ([]:List zi).length 7),(41,vl jT l),(42,.i (l.length:Int)),(43,.i 0)]),[.cells (([]:List zi).flatMap jT.c)])) (Sub.norm [] [none] rfl rfl (.keep (.same (qbl jT _)) (.keep .nil (.keep (.same (qbl jT _)) (.keep (.same nI) (.keep (.same nI) .nil))))) (.fresh .nil)) ?_
  refine Ud (fun M s=> ∃(k:List zi) (p:Int),s=(ofG 200 (kN l (kAC k (kW l (l.length:Int) p []))),(kT k []))/\y7 l M k p=some Y) ?_ (m:=N) ⟨_,_,rfl,g14⟩
  rintro M s ⟨k,p,rfl,g14⟩
  cases M with
  |zero=>simp only[y7]at g14;cases g14
  |succ M=>
   rw[y7]at g14
   refine sh fol (kN l (kAC k (kW l (l.length:Int) p [(44,.bool (decide (p<(l.length:Int))))]))) ?_
   refine sq ?_
   refine ihD g14 (fun c16 g14=>?_) (fun c16 g14=>?_)
   ·refine Goes.skip ?_
    refine sq (Goes.block ?_)
    obtain⟨a,I,g14⟩:=bnd g14
    refine sq (gq fol [0,1] (kN l (kAC k ((5,.ptr 1 0)::(kW l (l.length:Int) p [])))) (kT k (kD a.Kind a.Day a.Lot a.Amount a.Yarn a.Dye a.Order [])) (ac (iv qFX jT I) (ac (la ag56 jT I) az)) ?_)
    refine sq ?_
    refine sh fol (kN l (kAC k ((5,.ptr 1 0)::(kW l (l.length:Int) p [(50,.bool (decide ((a.Lot.length:Int)>20)))])))) ?_
    refine ihD g14 (fun c18 g14=>?_) (fun c18 g14=>?_)
    ·obtain⟨c5,Z,g14⟩:=bnd g14
     refine sq (gr fol [0] (kAJ c5) (ac (cv (qCE Z)) az) ?_)
     refine Goes.ret ?_
     obtain rfl:=si g14
     exact Or.inr (⟨rfl,_,rfl,(gw2 [.bool c5] (Ub tB))⟩)
    refine Goes.skip ?_
    refine sg fol (kN l (kAC k (kAk (kW l (l.length:Int) p [])))) (kT k (kD a.Kind a.Day a.Lot a.Amount a.Yarn a.Dye a.Order (kD a.Kind a.Day a.Lot a.Amount a.Yarn a.Dye a.Order []))) ?_
    obtain⟨y,a0,g14⟩:=bnd g14
    refine sq (gq fol [2] (kN l (kAC k (kAk (kW l (l.length:Int) p [])))) (kT k (kD a.Kind a.Day a.Lot a.Amount a.Yarn a.Dye a.Order (kD a.Kind a.Day y a.Amount a.Yarn a.Dye a.Order []))) (ac (hs (.done (.opt (qxH ZT .add 9 (.const (.string ⟨#[122,95]⟩)) (.tmp 54) (.str [122,95]) (.str a.Lot))) (.str y)) (qFz a0)) az) ?_)
    refine sq ?_
    refine sq ?_
    obtain⟨b23,q,g14⟩:=bnd g14
    refine Goes.cut (s':=(ofG 200 (kN l (kAC k (kAk (kW l (l.length:Int) p [(66,.bool b23)])))),(kT k (kD a.Kind a.Day a.Lot a.Amount a.Yarn a.Dye a.Order (kD a.Kind a.Day y a.Amount a.Yarn a.Dye a.Order []))))) ?_ ?_
    ·rcases wyD q with⟨a1,q⟩|⟨a1,q⟩
     ·obtain⟨c6,a2,q⟩:=bnd q
      obtain rfl:=si q
      exact tr fol [4,7] (kN l (kAC k (kAk (kW l (l.length:Int) p [(66,.bool (c6==[122,95]))])))) (ac (gw a1) (ac (hs (.done (.opt (qmA ZT 9 (.str a.Lot) none (some (.i 2)) none)) (.str c6)) (qJk st9 none (some 2) a2)) az))
     obtain rfl:=si q
     exact tr fol [4] (kN l (kAC k (kAk (kW l (l.length:Int) p [(66,.bool false)])))) (ac (gw a1) az)
    refine ihB g14 (fun c25 g14=>?_) (fun c25 g14=>?_)
    ·obtain⟨c7,a3,g14⟩:=bnd g14
     refine sq (gr fol [0] (kAJ c7) (ac (cv (qCE a3)) az) ?_)
     refine Goes.ret ?_
     obtain rfl:=si g14
     exact Or.inr (⟨rfl,_,rfl,(gw2 [.bool c7] (Ub tB))⟩)
    refine Goes.skip ?_
    obtain⟨B,a4,g14⟩:=bnd g14
    refine gq fol [4] (kN l ((3,.gslice 4 B.length 7)::(kW l (l.length:Int) p []))) (.dead::(kD a.Kind a.Day a.Lot a.Amount a.Yarn a.Dye a.Order (kD a.Kind a.Day y a.Amount a.Yarn a.Dye a.Order (kAY a.Kind a.Day a.Lot a.Amount a.Yarn a.Dye a.Order y (kT B []))))) (ac (hs (.run [0,3] (qqW ZT [22,22] (.gslice 0 k.length 7) (.slice 3 0 2 2 7)) (kT k (kD a.Kind a.Day a.Lot a.Amount a.Yarn a.Dye a.Order (kD a.Kind a.Day y a.Amount a.Yarn a.Dye a.Order (kAY a.Kind a.Day a.Lot a.Amount a.Yarn a.Dye a.Order y [])))) (.gslice 4 B.length 7) (.dead::(kD a.Kind a.Day a.Lot a.Amount a.Yarn a.Dye a.Order (kD a.Kind a.Day y a.Amount a.Yarn a.Dye a.Order (kAY a.Kind a.Day a.Lot a.Amount a.Yarn a.Dye a.Order y (kT B []))))) true) (qyQ qFX (E:=jT) rfl (qEj (E:=jT) (ys:=[a,(⟨a.Kind,a.Day,y,a.Amount,a.Yarn,a.Dye,a.Order⟩:zi)]) rfl rfl rfl rfl) (qFg (E:=jT) (l:=k) rfl rfl rfl a4 rfl))) az) ?_
    refine gh fol (kN l ((3,.gslice 4 B.length 7)::(kW l (l.length:Int) (w64 (p+1)) []))) ?_
    exact⟨M,(ofG 200 (kN l (kAC B (kW l (l.length:Int) (w64 (p+1)) []))),(kT B [])),Nat.lt_succ_self _,(Sub.norm [] [some 4] rfl rfl (.keep (.same (qbl jT _)) (.keep (.gslice rfl) (.keep (.same (qbl jT _)) (.keep (.same nI) (.keep (.same nI) .nil))))) (.ks .nil)),_,_,rfl,g14⟩
   refine Goes.exit ?_
   obtain rfl:=si g14
   exact Or.inl (⟨rfl,_,rfl,(Sub.keep [0,3] rfl rfl)⟩)
 rintro x s' (⟨rfl,u,rfl,hsub⟩|⟨rfl,q67,rfl,hret⟩)
 ·try dsimp only at h
  refine Goes.sub hsub ?_
  obtain⟨b,a5,h⟩:=bnd h
  refine sq (gq fol [1] (kAC u [(7,.ptr 1 0),(8,vl qbo b.2.1),(9,.i b.2.2)]) (kT u (kE b.1.Day b.1.Lots b.1.Holds [])) (ac (cv (qwx N l a5)) az) ?_)
  obtain⟨d,a6,h⟩:=bnd h
  refine sq (gq fol [1] [(7,.ptr 1 0),(8,vl qbo b.2.1),(9,.i b.2.2),(10,.ptr 2 0),(11,vl qbo d.2.1),(12,.i d.2.2)] (.frozen (u.flatMap jT.c)::(kE b.1.Day b.1.Lots b.1.Holds (kE d.1.Day d.1.Lots d.1.Holds []))) (ac (hs (.callF 11 [.gslice 0 u.length 7] (kT u (kE b.1.Day b.1.Lots b.1.Holds [])) [0] [vl jT u] (.tuple (kAA d.1.Day d.1.Lots d.1.Holds [vl qbo d.2.1,.i d.2.2]))) (qJH (FzL.cons (Fz.gs (E:=jT) rfl rfl (nl rfl)) FzL.nil) (qwx N u a6) (Still.tuple (AllST.cons (Still.agg (AllST.cons tI (AllST.cons (jo qN _ (nl rfl)) (AllST.cons (jo qJ _ (nl rfl)) AllST.nil)))) (AllST.cons (jo qbo _ (nl rfl)) (AllST.cons tI AllST.nil)))))) az) ?_)
  refine Goes.sub (show Sub (ofG 200 [(7,.ptr 1 0),(8,vl qbo b.2.1),(9,.i b.2.2),(10,.ptr 2 0),(11,vl qbo d.2.1),(12,.i d.2.2)],(.frozen (u.flatMap jT.c)::(kE b.1.Day b.1.Lots b.1.Holds (kE d.1.Day d.1.Lots d.1.Holds [])))) (ofG 200 [(7,.ptr 0 0),(8,vl qbo b.2.1),(9,.i b.2.2),(10,.ptr 1 0),(11,vl qbo d.2.1),(12,.i d.2.2)],(kE b.1.Day b.1.Lots b.1.Holds (kE d.1.Day d.1.Lots d.1.Holds [])))from(Sub.norm [] [some 1,some 2] rfl rfl (.kp (.keep (.same (qbl qbo _)) (.keep (.same nI) (.kp (.keep (.same (qbl qbo _)) (.keep (.same nI) .nil)))))) (.kb rfl (.same sn) (.kb rfl (.same sn) .nil)))) ?_
  refine sq ?_
  refine sq ?_
  obtain⟨b35,e,h⟩:=bnd h
  refine Goes.cut (s':=(ofG 200 [(7,.ptr 0 0),(10,.ptr 1 0),(126,.bool b35)],(kE b.1.Day b.1.Lots b.1.Holds (kE d.1.Day d.1.Lots d.1.Holds [])))) ?_ ?_
  ·rcases wyB e with⟨C,e⟩|⟨C,e⟩
   ·obtain rfl:=si e
    exact tr fol [2] kAT (ac (gw C) az)
   rcases wyB e with⟨G,e⟩|⟨G,e⟩
   ·obtain rfl:=si e
    exact tr fol [2,6] kAT (ac (gw C) (ac (gw G) az))
   rcases wyB e with⟨J,e⟩|⟨J,e⟩
   ·obtain rfl:=si e
    exact tr fol [2,6,14] kAT (ac (gw C) (ac (gw G) (ac (gw J) az)))
   rcases wyB e with⟨P,e⟩|⟨P,e⟩
   ·obtain rfl:=si e
    exact tr fol [2,6,14,24] kAT (ac (gw C) (ac (gw G) (ac (gw J) (ac (gw P) az))))
   rcases wyB e with⟨a7,e⟩|⟨a7,e⟩
   ·obtain rfl:=si e
    exact tr fol [2,6,14,24,34] kAT (ac (gw C) (ac (gw G) (ac (gw J) (ac (gw P) (ac (gw a7) az)))))
   obtain rfl:=si e
   exact tr fol [2,6,14,24,34] [(7,.ptr 0 0),(10,.ptr 1 0),(126,.bool (!decide (d.1.Day=b.1.Day)))] (ac (gw C) (ac (gw G) (ac (gw J) (ac (gw P) (ac (gw a7) az)))))
  refine ihB h (fun c37 h=>?_) (fun c37 h=>?_)
  ·refine sh fol kAR ?_
   refine Goes.ret ?_
   obtain rfl:=si h
   exact(gw2 [.bool false] (Ub tB))
  refine Goes.skip ?_
  refine sh fol [(7,.ptr 0 0),(10,.ptr 1 0),(13,.i 0),(14,.i 0)] ?_
  refine sq ?_
  refine sh fol [(7,.ptr 0 0),(10,.ptr 1 0),(13,.i 0),(14,.i 0),(128,vl qN b.1.Lots),(129,.i (b.1.Lots.length:Int)),(130,.i 0)] ?_
  refine Goes.block ?_
  obtain⟨a8,j,h⟩:=bnd h
  refine Goes.imp (Q:=fun x s'=>(x= .exit 2/\ ∃v,(.inl v)=a8/\Sub s' (ofG 200 [(10,.ptr 0 0),(13,.i v),(14,.i 0)],(kE d.1.Day d.1.Lots d.1.Holds [])))\/(x= .ret/\ ∃c8,(.inr c8)=a8/\qhA ZT [.tmp 2] (.bool c8) .ret s')) ?_ ?_
  ·refine Ud (fun M s=> ∃(o:Int) (n:Int),s=(ofG 200 (kO o (kR b.1.Lots (b.1.Lots.length:Int) n [])),(kE b.1.Day b.1.Lots b.1.Holds (kE d.1.Day d.1.Lots d.1.Holds [])))/\qcv N b d M o n=some a8) ?_ (m:=N) ⟨_,_,rfl,j⟩
   rintro M s ⟨o,n,rfl,j⟩
   cases M with
   |zero=>simp only[qcv]at j;cases j
   |succ M=>
    rw[qcv]at j
    refine sh fol (kO o (kR b.1.Lots (b.1.Lots.length:Int) n [(131,.bool (decide (n<(b.1.Lots.length:Int))))])) ?_
    refine sq ?_
    refine ihD j (fun c43 j=>?_) (fun c43 j=>?_)
    ·refine Goes.skip ?_
     refine sq (Goes.block ?_)
     obtain⟨t,K,j⟩:=bnd j
     refine sq (gq fol [0,1] (kO o ((16,.ptr 2 0)::(kR b.1.Lots (b.1.Lots.length:Int) n []))) (kE b.1.Day b.1.Lots b.1.Holds (kE d.1.Day d.1.Lots d.1.Holds (kX t.Name t.Yarn t.Dye t.Stock []))) (ac (iv qzZ qN K) (ac (la qC3 qN K) az)) ?_)
     obtain⟨D,a9,j⟩:=bnd j
     refine sq (gr fol [3] (kO o ((16,.ptr 2 0)::(17,.i D.1)::(18,.i D.2)::(kR b.1.Lots (b.1.Lots.length:Int) n []))) (ac (cv (qvr N b.1 t.Name a9)) az) ?_)
     obtain⟨T,b0,j⟩:=bnd j
     refine sq (gr fol [3] (kO o ((16,.ptr 2 0)::(17,.i D.1)::(18,.i D.2)::(19,.i T.1)::(20,.i T.2)::(kR b.1.Lots (b.1.Lots.length:Int) n []))) (ac (cv (qvr N d.1 t.Name b0)) az) ?_)
     obtain⟨d0,b1,j⟩:=bnd j
     obtain⟨b2,b3,j⟩:=bnd j
     refine sq (gr fol [3,4] (kO o ((16,.ptr 2 0)::(17,.i D.1)::(18,.i D.2)::(19,.i T.1)::(20,.i T.2)::(21,.i b2.1)::(22,.i b2.2)::(kR b.1.Lots (b.1.Lots.length:Int) n []))) (ac (hs (.done (.opt (qxH ZT .add 9 (.const (.string ⟨#[122,95]⟩)) (.tmp 151) (.str [122,95]) (.str t.Name))) (.str d0)) (qFz b1)) (ac (cv (qvr N d.1 d0 b3)) az)) ?_)
     refine sq ?_
     refine sq ?_
     obtain⟨b53,f,j⟩:=bnd j
     refine Goes.cut (s':=(ofG 200 (kO o ((16,.ptr 2 0)::(kR b.1.Lots (b.1.Lots.length:Int) n [(175,.bool b53)]))),(kE b.1.Day b.1.Lots b.1.Holds (kE d.1.Day d.1.Lots d.1.Holds (kX t.Name t.Yarn t.Dye t.Stock []))))) ?_ ?_
     ·rcases wyB f with⟨H,f⟩|⟨H,f⟩
      ·obtain rfl:=si f
       exact tr fol [2] (kO o ((16,.ptr 2 0)::(kR b.1.Lots (b.1.Lots.length:Int) n [(175,.bool true)]))) (ac (gw H) az)
      rcases wyB f with⟨L,f⟩|⟨L,f⟩
      ·obtain rfl:=si f
       exact tr fol [2,6] (kO o ((16,.ptr 2 0)::(kR b.1.Lots (b.1.Lots.length:Int) n [(175,.bool true)]))) (ac (gw H) (ac (gw L) az))
      rcases wyB f with⟨U,f⟩|⟨U,f⟩
      ·obtain rfl:=si f
       exact tr fol [2,6,10] (kO o ((16,.ptr 2 0)::(kR b.1.Lots (b.1.Lots.length:Int) n [(175,.bool true)]))) (ac (gw H) (ac (gw L) (ac (gw U) az)))
      rcases wyB f with⟨b4,f⟩|⟨b4,f⟩
      ·obtain rfl:=si f
       exact tr fol [2,6,10,15] (kO o ((16,.ptr 2 0)::(kR b.1.Lots (b.1.Lots.length:Int) n [(175,.bool true)]))) (ac (gw H) (ac (gw L) (ac (gw U) (ac (gw b4) az))))
      obtain rfl:=si f
      exact tr fol [2,6,10,15] (kO o ((16,.ptr 2 0)::(kR b.1.Lots (b.1.Lots.length:Int) n [(175,.bool (!decide (D.1=b2.1)))]))) (ac (gw H) (ac (gw L) (ac (gw U) (ac (gw b4) az))))
     refine ihB j (fun c55 j=>?_) (fun c55 j=>?_)
     ·refine sh fol kAR ?_
      refine Goes.ret ?_
      obtain rfl:=si j
      exact Or.inr (⟨rfl,_,rfl,(gw2 [.bool false] (Ub tB))⟩)
     refine Goes.skip ?_
     refine gh fol (kO (w64 (o+(w64 (2*t.Stock)))) (kR b.1.Lots (b.1.Lots.length:Int) n [])) ?_
     refine gh fol (kO (w64 (o+(w64 (2*t.Stock)))) (kR b.1.Lots (b.1.Lots.length:Int) (w64 (n+1)) [])) ?_
     exact⟨M,(ofG 200 (kO (w64 (o+(w64 (2*t.Stock)))) (kR b.1.Lots (b.1.Lots.length:Int) (w64 (n+1)) [])),(kE b.1.Day b.1.Lots b.1.Holds (kE d.1.Day d.1.Lots d.1.Holds []))),Nat.lt_succ_self _,(Sub.norm [] [some 0,some 1] rfl rfl (.kp (.kp (.keep (.same nI) (.keep (.same nI) (.keep (.same (qbl qN _)) (.keep (.same nI) (.keep (.same nI) .nil))))))) (.kb rfl (.same sn) (.kb rfl (.same sn) .nil))),_,_,rfl,j⟩
    refine Goes.exit ?_
    obtain rfl:=si j
    exact Or.inl (⟨rfl,_,rfl,(Sub.norm [] [some 1] rfl rfl (.drop (.kp (.keep (.same nI) (.keep (.same nI) .nil)))) (.kb rfl (.same sn) .nil))⟩)
  rintro x s' (⟨rfl,v,rfl,hsub⟩|⟨rfl,q66,rfl,hret⟩)
  ·try dsimp only at h
   refine Goes.sub hsub ?_
   refine sq ?_
   refine sh fol [(13,.i v),(14,.i 0),(183,vl qN d.1.Lots),(184,.i (d.1.Lots.length:Int)),(185,.i 0)] ?_
   refine Goes.block ?_
   obtain⟨d1,w,h⟩:=bnd h
   refine Goes.imp (Q:=fun x s'=>(x= .exit 4/\ ∃b5,b5=d1/\Sub s' (ofG 200 [(13,.i v),(14,.i b5)],[]))) ?_ ?_
   ·refine Goes.sub (s':=(ofG 200 [(13,.i v),(14,.i 0),(183,vl qN d.1.Lots),(184,.i (d.1.Lots.length:Int)),(185,.i 0)],[])) (Sub.norm [] [] rfl rfl (.keep (.same nI) (.keep (.same nI) (.keep (.same (qbl qN _)) (.keep (.same nI) (.keep (.same nI) .nil))))) .nil) ?_
    refine Ud (fun M s=> ∃(A:Int) (z:Int),s=(ofG 200 (kAd v A d.1.Lots (d.1.Lots.length:Int) z []),[])/\qcA d M A z=some d1) ?_ (m:=N) ⟨_,_,rfl,w⟩
    rintro M s ⟨A,z,rfl,w⟩
    cases M with
    |zero=>simp only[qcA]at w;cases w
    |succ M=>
     rw[qcA]at w
     refine sh fol (kAd v A d.1.Lots (d.1.Lots.length:Int) z [(186,.bool (decide (z<(d.1.Lots.length:Int))))]) ?_
     refine sq ?_
     refine ihD w (fun c60 w=>?_) (fun c60 w=>?_)
     ·refine Goes.skip ?_
      refine sq (Goes.block ?_)
      obtain⟨F,O,w⟩:=bnd w
      refine sq (gq fol [0,1] [(13,.i v),(14,.i A),(24,.ptr 0 0),(183,vl qN d.1.Lots),(184,.i (d.1.Lots.length:Int)),(185,.i z)] (kX F.Name F.Yarn F.Dye F.Stock []) (ac (iv qzZ qN O) (ac (la qC3 qN O) az)) ?_)
      refine gh fol (kAd v (w64 (A+F.Stock)) d.1.Lots (d.1.Lots.length:Int) z []) ?_
      refine gh fol (kAd v (w64 (A+F.Stock)) d.1.Lots (d.1.Lots.length:Int) (w64 (z+1)) []) ?_
      exact⟨M,(ofG 200 (kAd v (w64 (A+F.Stock)) d.1.Lots (d.1.Lots.length:Int) (w64 (z+1)) []),[]),Nat.lt_succ_self _,(Sub.norm [] [] rfl rfl (.keep (.same nI) (.keep (.same nI) (.keep (.same (qbl qN _)) (.keep (.same nI) (.keep (.same nI) .nil))))) .nil),_,_,rfl,w⟩
     refine Goes.exit ?_
     obtain rfl:=si w
     exact⟨rfl,_,rfl,(Sub.keep [13,14] rfl rfl)⟩
   rintro x s' ⟨rfl,b5,rfl,hsub⟩
   refine Goes.sub hsub ?_
   refine sq ?_
   obtain⟨d2,r,h⟩:=bnd h
   refine Goes.cut (s':=(ofG 200 (kAJ d2),[])) ?_ ?_
   ·rcases wyD r with⟨b6,r⟩|⟨b6,r⟩
    ·obtain⟨r63,b8,r⟩:=bnd r
     obtain rfl:=si r
     exact tr fol [3,4] (kAJ r63) (ac (gw b6) (ac (cv (qCE b8)) az))
    obtain rfl:=si r
    exact tr fol [3] kAR (ac (gw b6) az)
   refine Goes.ret ?_
   obtain rfl:=si h
   exact(gw2 [.bool d2] (Ub tB))
  try dsimp only at h
  obtain rfl:=si h
  exact hret
 try dsimp only at h
 obtain rfl:=si h
 exact hret
end Go.Av
