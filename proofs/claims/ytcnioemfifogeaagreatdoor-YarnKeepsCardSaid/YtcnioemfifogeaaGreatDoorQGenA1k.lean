/-
  The walk of the law.
-/
import Derived.Test.YtcnioemfifogeaaGreatDoorQGenA1k4
import Derived.Test.YtcnioemfifogeaaGreatDoorAvAwkQ3
noncomputable section
namespace Go.Av
open Go.Proofs Go.RowKit
set_option linter.unusedSectionVars false
set_option linter.unusedVariables false
set_option linter.unusedSimpArgs false
set_option maxRecDepth 100000
def awk:Option Bool:=some true
theorem qwP {res:Bool} (h:awk=some res):qE ZT (.fn 10) [] [] (.bool res) []:=by
 obtain rfl:=si h
 exact qxm
def qbB (N:Nat) (l:List qw):Nat->Int->(List qH)->(List qp)->(List qw)->(List zU)->Int->Int->Option ((Int×(List qH)×(List qp)×(List qw)×(List zU)×Int)⊕Bool)
 |0,_,_,_,_,_,_,_=>none
 |K+1,c,d,e,i,j,g,h=>
  if g<(l.length:Int)then
  (((idx l g).bind fun f=>
  (qbK N (⟨c,d,e⟩:StateT)).bind fun k=>
  (qb9 N k).bind fun m=>
  if(!decide (m=0))=true then
  some (.inr false)
  else
  (qg2 N (⟨c,d,e⟩:StateT) f).bind fun a=>
  (qko N (⟨c,d,e⟩:StateT) f).bind fun b=>
  (if(!decide (a.2=0))=true then
  some true
  else
  if(!decide (a.1=0))=true then
  if(!decide (b.2=18))=true then
  some true
  else
  if a.1=0 then
  some (!decide (b.2=0))
  else
  some false
  else
  if a.1=0 then
  some (!decide (b.2=0))
  else
  some false:Option Bool).bind fun n=>
  if n=true then
  some (.inr false)
  else
  if(!decide (a.1=0))=true then
  (app 16 j [(⟨w64 (g+1),a.1⟩:zU)]).bind fun o=>
  some (.inl (c,d,e,i,o,h))
  else
  ((if(f.Kind==[114,101,99,101,105,118,101])=true then
  some (w64 (h+f.Amount))
  else
  some h:Option Int)).bind fun p=>
  (app 96 i [f]).bind fun q=>
  some (.inl (b.1.Day,b.1.Lots,b.1.Holds,q,j,p)):Option ((Int×(List qH)×(List qp)×(List qw)×(List zU)×Int)⊕Bool))).bind (fun
  |(.inl (r,s,t,u,v,w))=>
  qbB N l K r s t u v (w64 (g+1)) w
  |(.inr x)=>
  some (.inr x))
  else
  some (.inl (c,d,e,i,j,h))
def qbp (c:List zU) (b:StateT×(List zU)×Int):Nat->Int->Option (Unit⊕Bool)
 |0,_=>none
 |K+1,a=>
  if a<(b.2.1.length:Int)then
  (idx b.2.1 a).bind fun d=>
  (idx c a).bind fun e=>
  if(!(decide (d.Number=e.Number)&&(decide (d.Rule=e.Rule)&&true)))=true then
  some (.inr false)
  else
  qbp c b K (w64 (a+1))
  else
  some (.inl ())
def qby (N:Nat) (e:List qp) (f:Int) (a:List qH):Nat->Int->Int->Option (Int⊕Bool)
 |0,_,_=>none
 |K+1,b,g=>
  if b<(a.length:Int)then
  (idx a b).bind fun c=>
  (qj5 N (⟨f,a,e⟩:StateT) c.Name).bind fun d=>
  (if(!decide (d.2=0))=true then
  some true
  else
  if d.1<0 then
  some true
  else
  some (decide (d.1>c.Stock)):Option Bool).bind fun h=>
  if h=true then
  some (.inr false)
  else
  qby N e f a K (w64 (b+1)) (w64 (g+c.Stock))
  else
  some (.inl g)
def qbu (a:List qp):Nat->Int->Int->Option Int
 |0,_,_=>none
 |K+1,b,c=>
  if b<(a.length:Int)then
  (idx a b).bind fun d=>
  qbu a K (w64 (b+1)) (w64 (c+d.Taken))
  else
  some c
def qf3 (N:Nat) (l:List qw):Option Bool:=
 (qfX N l).bind fun z=>
 (if(l.length:Int)>24 then
 some true
 else
 (qfm N z 24).bind fun A=>
 if(!A)=true then
 some true
 else
 (qft N z).bind fun B=>
 some (!decide (B=0)):Option Bool).bind fun C=>
 if C=true then
 (awk).bind fun D=>
 some D
 else
 (qbB N l N 0 ([]:List qH) ([]:List qp) ([]:List qw) ([]:List zU) 0 0).bind (fun
 |(.inl (d,e,b,m,f,n))=>
 (qgq N l).bind fun a=>
 (qgq N m).bind fun c=>
 (if(!decide (a.2.2=0))=true then
 some true
 else
 if(!decide (c.2.2=0))=true then
 some true
 else
 if(!decide ((a.2.1.length:Int)=(f.length:Int)))=true then
 some true
 else
 if(!decide ((c.2.1.length:Int)=0))=true then
 some true
 else
 (qbK N (⟨a.1.Day,a.1.Lots,a.1.Holds⟩:StateT)).bind fun o=>
 (qbK N (⟨d,e,b⟩:StateT)).bind fun p=>
 (qgd N o p).bind fun q=>
 if(!q)=true then
 some true
 else
 (qbK N (⟨c.1.Day,c.1.Lots,c.1.Holds⟩:StateT)).bind fun r=>
 (qbK N (⟨d,e,b⟩:StateT)).bind fun s=>
 (qgd N r s).bind fun t=>
 if(!t)=true then
 some true
 else
 (qbK N (⟨d,e,b⟩:StateT)).bind fun u=>
 (qb9 N u).bind fun v=>
 some (!decide (v=0)):Option Bool).bind fun w=>
 if w=true then
 some false
 else
 (qbp f a N 0).bind (fun
 |(.inl ())=>
 (qby N b d e N 0 0).bind (fun
 |(.inl x)=>
 (qbu b N 0 x).bind fun y=>
 (if y=n then
 (awk).bind fun g=>
 some g
 else
 some false:Option Bool).bind fun h=>
 some h
 |(.inr i)=>
 some i)
 |(.inr j)=>
 some j)
 |(.inr k)=>
 some k)
theorem qnG (N:Nat) (l:List qw) {res:Bool} (h:qf3 N l=some res):qE ZT (.fn 5) [vl qJ l] [] (.bool res) []:=by
 unfold qf3 at h
 refine Uc Tryz.func5 rfl rfl (m:=223) rfl (rs:=[.tmp 2]) rfl (l:=(kS l [])) rfl ?_
 refine sh fol (kS l []) ?_
 obtain⟨r1,f9,h⟩:=bnd h
 refine sq (gr fol [1] (kS l [(3,vl qJ r1)]) (ac (cv (qoX N l f9)) az) ?_)
 refine sq ?_
 refine sq ?_
 obtain⟨b6,y,h⟩:=bnd h
 refine Goes.cut (s':=(ofG 223 (kS l [(42,.bool b6)]),[])) ?_ ?_
 ·rcases wyD y with⟨c2,y⟩|⟨c2,y⟩
  ·obtain rfl:=si y
   exact tr fol [3] (kS l [(42,.bool true)]) (ac (gw c2) az)
  obtain⟨r3,d5,y⟩:=bnd y
  rcases wyB y with⟨c4,y⟩|⟨c4,y⟩
  ·obtain rfl:=si y
   exact tr fol [3,5,8] (kS l [(42,.bool true)]) (ac (gw c2) (ac (cv (qjC N r1 24 d5)) (ac (gw c4) az)))
  obtain⟨r5,h0,y⟩:=bnd y
  obtain rfl:=si y
  exact tr fol [3,5,8,10] (kS l [(42,.bool (!decide (r5=0)))]) (ac (gw c2) (ac (cv (qjC N r1 24 d5)) (ac (gw c4) (ac (cv (qol N r1 h0)) az))))
 refine ihB h (fun c8 h=>?_) (fun c8 h=>?_)
 ·obtain⟨r9,h1,h⟩:=bnd h
  refine sq (gr fol [0] (kAV r9) (ac (cv (qwP h1)) az) ?_)
  refine Goes.ret ?_
  obtain rfl:=si h
  exact(gw2 [.bool r9] (Ub tB))
 refine Goes.skip ?_
 refine sg fol (kS l (kAH [])) (kF []) ?_
 refine sh fol (kS l (kAH [(5,.nilslice)])) ?_
 refine sh fol (kS l (kAH [(5,.nilslice),(6,.nilslice)])) ?_
 refine sh fol (kS l (kAH [(5,.nilslice),(6,.nilslice),(7,.i 0)])) ?_
 refine sq ?_
 refine sh fol (kS l (kAH [(5,.nilslice),(6,.nilslice),(7,.i 0),(44,vl qJ l),(45,.i (l.length:Int)),(46,.i 0)])) ?_
 refine Goes.block ?_
 obtain⟨d7,g23,h⟩:=bnd h
 refine Goes.imp (Q:=fun x s'=>(x= .exit 0/\ ∃w j n P q k,(.inl (w,j,n,P,q,k))=d7/\Sub s' (ofG 223 (kJ l P q k []),(kD w j n (kW P (kO q [])))))\/(x= .ret/\ ∃h2,(.inr h2)=d7/\jT ZT [.tmp 2] (.bool h2) .ret s')) ?_ ?_
 ·refine Goes.sub (s':=(ofG 223 (kS l (kAH [(5,.gslice 1 ([]:List qw).length 7),(6,.gslice 2 ([]:List zU).length 2),(7,.i 0),(44,vl qJ l),(45,.i (l.length:Int)),(46,.i 0)])),[.cells [.i 0,vl qo ([]:List qH),vl qg ([]:List qp)],.cells (([]:List qw).flatMap qJ.c),.cells (([]:List zU).flatMap ze.c)])) (Sub.norm [] [some 0,none,none] rfl rfl (.keep (.same (zu qJ _)) (.kp (.keep .nil (.keep .nil (.keep (.same nI) (.keep (.same (zu qJ _)) (.keep (.same nI) (.keep (.same nI) .nil)))))))) (.kb rfl (.cells (rc (.same nI) (rc (.nilv) (rc (.nilv) rn)))) (.fresh (.fresh .nil)))) ?_
  refine Ud (fun M s=> ∃(G:Int) (H:List qH) (I:List qp) (u:List qw) (t:List zU) (p:Int) (A:Int),s=(ofG 223 (kJ l u t A (kR l (l.length:Int) p [])),(kD G H I (kW u (kO t []))))/\qbB N l M G H I u t p A=some d7) ?_ (m:=N) ⟨_,_,_,_,_,_,_,rfl,g23⟩
  rintro M s ⟨G,H,I,u,t,p,A,rfl,g23⟩
  cases M with
  |zero=>simp only[qbB]at g23;cases g23
  |succ M=>
   rw[qbB]at g23
   refine sh fol (kJ l u t A (kR l (l.length:Int) p [(47,.bool (decide (p<(l.length:Int))))])) ?_
   refine sq ?_
   refine ihD g23 (fun c25 g23=>?_) (fun c25 g23=>?_)
   ·refine Goes.skip ?_
    refine sq ?_
    obtain⟨h3,g32,g23⟩:=bnd g23
    refine Goes.imp (Q:=fun x s'=>(x= .normal/\ ∃c6 c7 c9 Z a0 b0,(.inl (c6,c7,c9,Z,a0,b0))=h3/\Sub s' (ofG 223 (kJ l Z a0 b0 (kR l (l.length:Int) p [])),(kD c6 c7 c9 (kW Z (kO a0 [])))))\/(x= .ret/\ ∃h4,(.inr h4)=h3/\jT ZT [.tmp 2] (.bool h4) .ret s')) ?_ ?_
    ·refine Goes.block ?_
     obtain⟨d,b1,g32⟩:=bnd g32
     refine sq (gq fol [1,2] (kJ l u t A ((8,.i p)::(9,.ptr 3 0)::(kR l (l.length:Int) p []))) (kD G H I (kW u (kO t (kE d.Kind d.Day d.Lot d.Amount d.Yarn d.Dye d.Order [])))) (ac (iv quP qJ b1) (ac (la ag56 qJ b1) az)) ?_)
     refine sq ?_
     obtain⟨r35,d8,g32⟩:=bnd g32
     obtain⟨r36,d9,g32⟩:=bnd g32
     refine sq (gr fol [1,2] (kJ l u t A ((8,.i p)::(9,.ptr 3 0)::(kR l (l.length:Int) p [(54,.bool (!decide (r36=0)))]))) (ac (cv (xu N (⟨G,H,I⟩:StateT) d8)) (ac (cv (qhU N r35 d9)) az)) ?_)
     refine ihB g32 (fun c37 g32=>?_) (fun c37 g32=>?_)
     ·refine sh fol kAQ ?_
      refine Goes.ret ?_
      obtain rfl:=si g32
      exact Or.inr (⟨rfl,_,rfl,(gw2 [.bool false] (Ub tB))⟩)
     refine Goes.skip ?_
     obtain⟨F,e0,g32⟩:=bnd g32
     refine sq (gr fol [2] (kJ l u t A ((8,.i p)::(9,.ptr 3 0)::(10,.i F.1)::(11,.i F.2)::(kR l (l.length:Int) p []))) (ac (cv (qng N (⟨G,H,I⟩:StateT) d e0)) az) ?_)
     obtain⟨r,e1,g32⟩:=bnd g32
     refine sq (gq fol [2] (kJ l u t A ((8,.i p)::(9,.ptr 3 0)::(10,.i F.1)::(11,.i F.2)::(12,.ptr 4 0)::(13,.i r.2)::(kR l (l.length:Int) p []))) (kD G H I (kW u (kO t (kE d.Kind d.Day d.Lot d.Amount d.Yarn d.Dye d.Order (kD r.1.Day r.1.Lots r.1.Holds []))))) (ac (cv (qrH N (⟨G,H,I⟩:StateT) d e1)) az) ?_)
     refine sq ?_
     refine sq ?_
     obtain⟨b45,o,g32⟩:=bnd g32
     refine Goes.cut (s':=(ofG 223 (kJ l u t A (kAM p F.1 (kR l (l.length:Int) p [(84,.bool b45)]))),(kD G H I (kW u (kO t (kE d.Kind d.Day d.Lot d.Amount d.Yarn d.Dye d.Order (kD r.1.Day r.1.Lots r.1.Holds []))))))) ?_ ?_
     ·rcases wyB o with⟨a1,o⟩|⟨a1,o⟩
      ·obtain rfl:=si o
       exact tr fol [2] (kJ l u t A (kAM p F.1 (kR l (l.length:Int) p [(84,.bool true)]))) (ac (gw a1) az)
      rcases wyB o with⟨a7,o⟩|⟨a7,o⟩
      ·rcases wyB o with⟨d0,o⟩|⟨d0,o⟩
       ·obtain rfl:=si o
        exact tr fol [2,5,10] (kJ l u t A (kAM p F.1 (kR l (l.length:Int) p [(84,.bool true)]))) (ac (gw a1) (ac (gw a7) (ac (gw d0) az)))
       rcases wyD o with⟨e2,o⟩|⟨e2,o⟩
       ·obtain rfl:=si o
        exact tr fol [2,5,10,13] (kJ l u t A (kAM p F.1 (kR l (l.length:Int) p [(84,.bool (!decide (r.2=0)))]))) (ac (gw a1) (ac (gw a7) (ac (gw d0) (ac (gw e2) az))))
       obtain rfl:=si o
       exact tr fol [2,5,10,13] (kJ l u t A (kAM p F.1 (kR l (l.length:Int) p [(84,.bool false)]))) (ac (gw a1) (ac (gw a7) (ac (gw d0) (ac (gw e2) az))))
      rcases wyD o with⟨e3,o⟩|⟨e3,o⟩
      ·obtain rfl:=si o
       exact tr fol [2,5,13] (kJ l u t A (kAM p F.1 (kR l (l.length:Int) p [(84,.bool (!decide (r.2=0)))]))) (ac (gw a1) (ac (gw a7) (ac (gw e3) az)))
      obtain rfl:=si o
      exact tr fol [2,5,13] (kJ l u t A (kAM p F.1 (kR l (l.length:Int) p [(84,.bool false)]))) (ac (gw a1) (ac (gw a7) (ac (gw e3) az)))
     refine ihB g32 (fun c47 g32=>?_) (fun c47 g32=>?_)
     ·refine sh fol kAQ ?_
      refine Goes.ret ?_
      obtain rfl:=si g32
      exact Or.inr (⟨rfl,_,rfl,(gw2 [.bool false] (Ub tB))⟩)
     refine Goes.skip ?_
     refine sq ?_
     refine sh fol (kJ l u t A (kAM p F.1 (kR l (l.length:Int) p [(86,.bool (!decide (F.1=0)))]))) ?_
     refine ihB g32 (fun c48 g32=>?_) (fun c48 g32=>?_)
     ·obtain⟨d1,e4,g32⟩:=bnd g32
      refine sq (gq fol [6] (kS l (kAH ((5,.gslice 1 u.length 7)::(6,.gslice 6 d1.length 2)::(7,.i A)::(kR l (l.length:Int) p [])))) (kD G H I (kW u (.dead::(kE d.Kind d.Day d.Lot d.Amount d.Yarn d.Dye d.Order (kD r.1.Day r.1.Lots r.1.Holds (.cells [.i (w64 (p+1)),.i F.1]::(kO d1 []))))))) (ac (hs (.run [2,5] (qe9 ZT [31,31] (.gslice 2 t.length 2) (.slice 5 0 1 1 2)) (kD G H I (kW u (kO t (kE d.Kind d.Day d.Lot d.Amount d.Yarn d.Dye d.Order (kD r.1.Day r.1.Lots r.1.Holds (kAU (w64 (p+1)) F.1)))))) (.gslice 6 d1.length 2) (kD G H I (kW u (.dead::(kE d.Kind d.Day d.Lot d.Amount d.Yarn d.Dye d.Order (kD r.1.Day r.1.Lots r.1.Holds (.cells [.i (w64 (p+1)),.i F.1]::(kO d1 []))))))) true) (qjy sl31 (E:=ze) rfl (qo7 (E:=ze) (ys:=[(⟨w64 (p+1),F.1⟩:zU)]) rfl rfl rfl rfl) (qqc (E:=ze) (l:=t) rfl rfl rfl e4 rfl))) az) ?_)
      refine Goes.exit ?_
      obtain rfl:=si g32
      exact Or.inl (⟨rfl,_,_,_,_,_,_,rfl,(Sub.norm [] [some 0,some 1,some 6] rfl rfl (.keep (.same (zu qJ _)) (.kp (.keep (.gslice rfl) (.keep (.gslice rfl) (.keep (.same nI) (.keep (.same (zu qJ _)) (.keep (.same nI) (.keep (.same nI) .nil)))))))) (.kb rfl (.same sn) (.ks (.ks .nil))))⟩)
     refine Goes.skip ?_
     refine sq ?_
     refine sh fol (kJ l u t A ((9,.ptr 3 0)::(12,.ptr 4 0)::(kR l (l.length:Int) p [(96,.bool (d.Kind==[114,101,99,101,105,118,101]))]))) ?_
     obtain⟨r51,g51,g32⟩:=bnd g32
     refine Goes.imp (Q:=fun x s'=>(x= .normal/\ ∃b2,b2=r51/\Sub s' (ofG 223 (kJ l u t b2 ((9,.ptr 3 0)::(12,.ptr 4 0)::(kR l (l.length:Int) p []))),(kD G H I (kW u (kO t (kE d.Kind d.Day d.Lot d.Amount d.Yarn d.Dye d.Order (kD r.1.Day r.1.Lots r.1.Holds [])))))))) ?_ ?_
     ·refine ihB g51 (fun c52 g51=>?_) (fun c52 g51=>?_)
      ·refine gh fol (kJ l u t (w64 (A+d.Amount)) ((9,.ptr 3 0)::(12,.ptr 4 0)::(kR l (l.length:Int) p []))) ?_
       obtain rfl:=si g51
       exact⟨rfl,_,rfl,(Sub.refl _)⟩
      refine Goes.skip ?_
      obtain rfl:=si g51
      exact⟨rfl,_,rfl,(Sub.keep [0,4,5,6,7,9,12,44,45,46] rfl rfl)⟩
     rintro x s' ⟨rfl,b2,rfl,hsub⟩
     refine Goes.sub hsub ?_
     obtain⟨a8,e5,g32⟩:=bnd g32
     refine sq (gq fol [3] (kS l (kAH ((5,.gslice 6 a8.length 7)::(6,.gslice 2 t.length 2)::(7,.i b2)::(12,.ptr 4 0)::(kR l (l.length:Int) p [])))) (kD G H I (.dead::(kO t (kE d.Kind d.Day d.Lot d.Amount d.Yarn d.Dye d.Order (kD r.1.Day r.1.Lots r.1.Holds (kE d.Kind d.Day d.Lot d.Amount d.Yarn d.Dye d.Order (kW a8 []))))))) (ac (hs (.run [1,5] (qe9 ZT [22,22] (.gslice 1 u.length 7) (.slice 5 0 1 1 7)) (kD G H I (kW u (kO t (kE d.Kind d.Day d.Lot d.Amount d.Yarn d.Dye d.Order (kD r.1.Day r.1.Lots r.1.Holds (kE d.Kind d.Day d.Lot d.Amount d.Yarn d.Dye d.Order [])))))) (.gslice 6 a8.length 7) (kD G H I (.dead::(kO t (kE d.Kind d.Day d.Lot d.Amount d.Yarn d.Dye d.Order (kD r.1.Day r.1.Lots r.1.Holds (kE d.Kind d.Day d.Lot d.Amount d.Yarn d.Dye d.Order (kW a8 []))))))) true) (qjy quP (E:=qJ) rfl (qo7 (E:=qJ) (ys:=[d]) rfl rfl rfl rfl) (qqc (E:=qJ) (l:=u) rfl rfl rfl e5 rfl))) az) ?_)
     refine Goes.rg fol (kS l (kAH ((5,.gslice 6 a8.length 7)::(6,.gslice 2 t.length 2)::(7,.i b2)::(kR l (l.length:Int) p [])))) (kD r.1.Day r.1.Lots r.1.Holds (.dead::(kO t (kE d.Kind d.Day d.Lot d.Amount d.Yarn d.Dye d.Order (kD r.1.Day r.1.Lots r.1.Holds (kE d.Kind d.Day d.Lot d.Amount d.Yarn d.Dye d.Order (kW a8 []))))))) ?_
     obtain rfl:=si g32
     exact Or.inl (⟨rfl,_,_,_,_,_,_,rfl,(Sub.norm [] [some 0,some 6,some 2] rfl rfl (.keep (.same (zu qJ _)) (.kp (.keep (.gslice rfl) (.keep (.gslice rfl) (.keep (.same nI) (.keep (.same (zu qJ _)) (.keep (.same nI) (.keep (.same nI) .nil)))))))) (.kb rfl (.same sn) (.ks (.ks .nil))))⟩)
    rintro x s' (⟨rfl,c6,c7,c9,Z,a0,b0,rfl,hsub⟩|⟨rfl,q54,rfl,hret⟩)
    ·try dsimp only at g23
     refine Goes.sub hsub ?_
     refine gh fol (kJ l Z a0 b0 (kR l (l.length:Int) (w64 (p+1)) [])) ?_
     exact⟨M,(ofG 223 (kJ l Z a0 b0 (kR l (l.length:Int) (w64 (p+1)) [])),(kD c6 c7 c9 (kW Z (kO a0 [])))),Nat.lt_succ_self _,(Sub.refl _),_,_,_,_,_,_,_,rfl,g23⟩
    try dsimp only at g23
    obtain rfl:=si g23
    exact Or.inr (⟨rfl,_,rfl,hret⟩)
   refine Goes.exit ?_
   obtain rfl:=si g23
   exact Or.inl (⟨rfl,_,_,_,_,_,_,rfl,(Sub.keep [0,4,5,6,7] rfl rfl)⟩)
 rintro x s' (⟨rfl,w,j,n,P,q,k,rfl,hsub⟩|⟨rfl,q106,rfl,hret⟩)
 ·try dsimp only at h
  refine Goes.sub hsub ?_
  obtain⟨g,e6,h⟩:=bnd h
  refine sq (gq fol [1] (kAH ((5,.gslice 1 P.length 7)::(kAs q k g.2.1 g.2.2 []))) (kD w j n (kW P (kO q (kD g.1.Day g.1.Lots g.1.Holds [])))) (ac (cv (qlE N l e6)) az) ?_)
  obtain⟨v,e7,h⟩:=bnd h
  refine sq (gq fol [1] (kAH (kAs q k g.2.1 g.2.2 [(17,.ptr 4 0),(18,vl ze v.2.1),(19,.i v.2.2)])) (kD w j n (.frozen (P.flatMap qJ.c)::(kO q (kD g.1.Day g.1.Lots g.1.Holds (kD v.1.Day v.1.Lots v.1.Holds []))))) (ac (hs (.callF 11 [.gslice 1 P.length 7] (kD w j n (kW P (kO q (kD g.1.Day g.1.Lots g.1.Holds [])))) [1] [vl qJ P] (.tuple (kY v.1.Day v.1.Lots v.1.Holds [vl ze v.2.1,.i v.2.2]))) (qx4 (FzL.cons (Fz.gs (E:=qJ) rfl rfl (nl rfl)) FzL.nil) (qlE N P e7) (Still.tuple (AllST.cons (Still.agg (AllST.cons tI (AllST.cons (qG qo _ (nl rfl)) (AllST.cons (qG qg _ (nl rfl)) AllST.nil)))) (AllST.cons (qG ze _ (nl rfl)) (AllST.cons tI AllST.nil)))))) az) ?_)
  refine Goes.sub (show Sub (ofG 223 (kAH (kAs q k g.2.1 g.2.2 [(17,.ptr 4 0),(18,vl ze v.2.1),(19,.i v.2.2)])),(kD w j n (.frozen (P.flatMap qJ.c)::(kO q (kD g.1.Day g.1.Lots g.1.Holds (kD v.1.Day v.1.Lots v.1.Holds [])))))) (ofG 223 (kAH [(6,.gslice 1 q.length 2),(7,.i k),(14,.ptr 2 0),(15,vl ze g.2.1),(16,.i g.2.2),(17,.ptr 3 0),(18,vl ze v.2.1),(19,.i v.2.2)]),(kD w j n (kO q (kD g.1.Day g.1.Lots g.1.Holds (kD v.1.Day v.1.Lots v.1.Holds [])))))from(Sub.norm [] [some 0,some 2,some 3,some 4] rfl rfl (.kp (.keep (.gslice rfl) (.keep (.same nI) (.kp (.keep (.same (zu ze _)) (.keep (.same nI) (.kp (.keep (.same (zu ze _)) (.keep (.same nI) .nil))))))))) (.kb rfl (.same sn) (.ks (.kb rfl (.same sn) (.kb rfl (.same sn) .nil)))))) ?_
  refine sq ?_
  refine sq ?_
  obtain⟨b71,f,h⟩:=bnd h
  refine Goes.cut (s':=(ofG 223 (kN q k g.2.1 [(158,.bool b71)]),(kD w j n (kO q (kD g.1.Day g.1.Lots g.1.Holds (kD v.1.Day v.1.Lots v.1.Holds [])))))) ?_ ?_
  ·rcases wyB f with⟨X,f⟩|⟨X,f⟩
   ·obtain rfl:=si f
    exact tr fol [2] (kN q k g.2.1 kAy) (ac (gw X) az)
   rcases wyB f with⟨a2,f⟩|⟨a2,f⟩
   ·obtain rfl:=si f
    exact tr fol [2,6] (kN q k g.2.1 kAy) (ac (gw X) (ac (gw a2) az))
   rcases wyB f with⟨a9,f⟩|⟨a9,f⟩
   ·obtain rfl:=si f
    exact tr fol [2,6,13] (kN q k g.2.1 kAy) (ac (gw X) (ac (gw a2) (ac (gw a9) az)))
   rcases wyB f with⟨b3,f⟩|⟨b3,f⟩
   ·obtain rfl:=si f
    exact tr fol [2,6,13,18] (kN q k g.2.1 kAy) (ac (gw X) (ac (gw a2) (ac (gw a9) (ac (gw b3) az))))
   obtain⟨e8,a3,f⟩:=bnd f
   obtain⟨e9,a4,f⟩:=bnd f
   obtain⟨r63,a5,f⟩:=bnd f
   rcases wyB f with⟨d2,f⟩|⟨d2,f⟩
   ·obtain rfl:=si f
    exact tr fol [2,6,13,18,20,22,23,26] (kN q k g.2.1 kAy) (ac (gw X) (ac (gw a2) (ac (gw a9) (ac (gw b3) (ac (cv (xu N (⟨g.1.Day,g.1.Lots,g.1.Holds⟩:StateT) a3)) (ac (cv (xu N (⟨w,j,n⟩:StateT) a4)) (ac (cv (qfK N e8 e9 a5)) (ac (gw d2) az))))))))
   obtain⟨h5,b4,f⟩:=bnd f
   obtain⟨h6,b5,f⟩:=bnd f
   obtain⟨r67,b7,f⟩:=bnd f
   rcases wyB f with⟨f0,f⟩|⟨f0,f⟩
   ·obtain rfl:=si f
    exact tr fol [2,6,13,18,20,22,23,26,28,30,31,34] (kN q k g.2.1 kAy) (ac (gw X) (ac (gw a2) (ac (gw a9) (ac (gw b3) (ac (cv (xu N (⟨g.1.Day,g.1.Lots,g.1.Holds⟩:StateT) a3)) (ac (cv (xu N (⟨w,j,n⟩:StateT) a4)) (ac (cv (qfK N e8 e9 a5)) (ac (gw d2) (ac (cv (xu N (⟨v.1.Day,v.1.Lots,v.1.Holds⟩:StateT) b4)) (ac (cv (xu N (⟨w,j,n⟩:StateT) b5)) (ac (cv (qfK N h5 h6 b7)) (ac (gw f0) az))))))))))))
   obtain⟨r69,f1,f⟩:=bnd f
   obtain⟨r70,f2,f⟩:=bnd f
   obtain rfl:=si f
   exact tr fol [2,6,13,18,20,22,23,26,28,30,31,34,36,37] (kN q k g.2.1 [(158,.bool (!decide (r70=0)))]) (ac (gw X) (ac (gw a2) (ac (gw a9) (ac (gw b3) (ac (cv (xu N (⟨g.1.Day,g.1.Lots,g.1.Holds⟩:StateT) a3)) (ac (cv (xu N (⟨w,j,n⟩:StateT) a4)) (ac (cv (qfK N e8 e9 a5)) (ac (gw d2) (ac (cv (xu N (⟨v.1.Day,v.1.Lots,v.1.Holds⟩:StateT) b4)) (ac (cv (xu N (⟨w,j,n⟩:StateT) b5)) (ac (cv (qfK N h5 h6 b7)) (ac (gw f0) (ac (cv (xu N (⟨w,j,n⟩:StateT) f1)) (ac (cv (qhU N r69 f2)) az))))))))))))))
  refine ihB h (fun c73 h=>?_) (fun c73 h=>?_)
  ·refine sh fol kAQ ?_
   refine Goes.ret ?_
   obtain rfl:=si h
   exact(gw2 [.bool false] (Ub tB))
  refine Goes.skip ?_
  refine sq ?_
  refine sh fol (kN q k g.2.1 [(160,.i (g.2.1.length:Int)),(161,.i 0)]) ?_
  refine Goes.block ?_
  obtain⟨f3,D,h⟩:=bnd h
  refine Goes.imp (Q:=fun x s'=>(x= .exit 2/\(.inl ())=f3/\Sub s' (ofG 223 (kAH [(7,.i k)]),(kD w j n [])))\/(x= .ret/\ ∃h7,(.inr h7)=f3/\jT ZT [.tmp 2] (.bool h7) .ret s')) ?_ ?_
  ·refine Goes.sub (s':=(ofG 223 (kN q k g.2.1 [(160,.i (g.2.1.length:Int)),(161,.i 0)]),(kD w j n (kO q [])))) (Sub.norm [] [some 0,some 1] rfl rfl (.kp (.keep (.gslice rfl) (.keep (.same nI) (.keep (.same (zu ze _)) (.keep (.same nI) (.keep (.same nI) .nil)))))) (.kb rfl (.same sn) (.ks .nil))) ?_
   refine Ud (fun M s=> ∃(K:Int),s=(ofG 223 (kN q k g.2.1 [(160,.i (g.2.1.length:Int)),(161,.i K)]),(kD w j n (kO q [])))/\qbp q g M K=some f3) ?_ (m:=N) ⟨_,rfl,D⟩
   rintro M s ⟨K,rfl,D⟩
   cases M with
   |zero=>simp only[qbp]at D;cases D
   |succ M=>
    rw[qbp]at D
    refine sh fol (kN q k g.2.1 [(160,.i (g.2.1.length:Int)),(161,.i K),(162,.bool (decide (K<(g.2.1.length:Int))))]) ?_
    refine sq ?_
    refine ihD D (fun c77 D=>?_) (fun c77 D=>?_)
    ·refine Goes.skip ?_
     refine sq (Goes.block ?_)
     refine sh fol (kN q k g.2.1 [(20,.i K),(160,.i (g.2.1.length:Int)),(161,.i K)]) ?_
     obtain⟨V,b8,D⟩:=bnd D
     obtain⟨T,b9,D⟩:=bnd D
     refine sq (gr fol [2,3,6,7,8] (kN q k g.2.1 [(160,.i (g.2.1.length:Int)),(161,.i K),(172,.bool (!(decide (V.Number=T.Number)&&(decide (V.Rule=T.Rule)&&true))))]) (ac (iv sl31 ze b8) (ac (la ag53 ze b8) (ac (hs (.done (.opt (qP ZT 31 (.gslice 1 q.length 2) (.i K))) (.ptr 1 ((K:Int).toNat*2+0))) (qrc sl31 b9)) (ac (hs (.run [1] (qf0 ZT 53 (.ptr 1 ((K:Int).toNat*2+0))) (kD w j n (kO q [])) (.agg [.i T.Number,.i T.Rule]) (kD w j n (kO q [])) false) (qwp ag53 (E:=ze) (l:=q) rfl rfl b9)) (ac (hs (.done (.opt (qlB ZT .neq 53 (.tmp 167) (.tmp 171) (.agg [.i V.Number,.i V.Rule]) (.agg [.i T.Number,.i T.Rule]))) (.bool (!(decide (V.Number=T.Number)&&(decide (V.Rule=T.Rule)&&true))))) (qwM eqt53 (e:=(decide (V.Number=T.Number)&&(decide (V.Rule=T.Rule)&&true))) (.cons (a:= .i V.Number) (b:= .i T.Number) rfl (by kernel_rfl) (by kernel_rfl) (by kernel_rfl) (.cons (a:= .i V.Rule) (b:= .i T.Rule) rfl (by kernel_rfl) (by kernel_rfl) (by kernel_rfl) .nil)))) az))))) ?_)
     refine ihB D (fun c80 D=>?_) (fun c80 D=>?_)
     ·refine sh fol kAQ ?_
      refine Goes.ret ?_
      obtain rfl:=si D
      exact Or.inr (⟨rfl,_,rfl,(gw2 [.bool false] (Ub tB))⟩)
     refine Goes.skip ?_
     refine gh fol (kN q k g.2.1 [(160,.i (g.2.1.length:Int)),(161,.i (w64 (K+1)))]) ?_
     exact⟨M,(ofG 223 (kN q k g.2.1 [(160,.i (g.2.1.length:Int)),(161,.i (w64 (K+1)))]),(kD w j n (kO q []))),Nat.lt_succ_self _,(Sub.refl _),_,rfl,D⟩
    refine Goes.exit ?_
    obtain rfl:=si D
    exact Or.inl (⟨rfl,rfl,(Sub.norm [] [some 0] rfl rfl (.kp (.drop (.keep (.same nI) .nil))) (.kb rfl (.same sn) .nil))⟩)
  rintro x s' (⟨rfl,rfl,hsub⟩|⟨rfl,q105,rfl,hret⟩)
  ·try dsimp only at h
   refine Goes.sub hsub ?_
   refine sh fol (kAH [(7,.i k),(21,.i 0)]) ?_
   refine sq ?_
   refine sh fol (kAH [(7,.i k),(21,.i 0),(175,vl qo j),(176,.i (j.length:Int)),(177,.i 0)]) ?_
   refine Goes.block ?_
   obtain⟨f4,z,h⟩:=bnd h
   refine Goes.imp (Q:=fun x s'=>(x= .exit 4/\ ∃c0,(.inl c0)=f4/\Sub s' (ofG 223 (kAH (kAl k c0 [])),(kD w j n [])))\/(x= .ret/\ ∃h8,(.inr h8)=f4/\jT ZT [.tmp 2] (.bool h8) .ret s')) ?_ ?_
   ·refine Ud (fun M s=> ∃(J:Int) (L:Int),s=(ofG 223 (kAH (kAl k L (kAG j (j.length:Int) J []))),(kD w j n []))/\qby N n w j M J L=some f4) ?_ (m:=N) ⟨_,_,rfl,z⟩
    rintro M s ⟨J,L,rfl,z⟩
    cases M with
    |zero=>simp only[qby]at z;cases z
    |succ M=>
     rw[qby]at z
     refine sh fol (kAH (kAl k L (kAG j (j.length:Int) J [(178,.bool (decide (J<(j.length:Int))))]))) ?_
     refine sq ?_
     refine ihD z (fun c86 z=>?_) (fun c86 z=>?_)
     ·refine Goes.skip ?_
      refine sq (Goes.block ?_)
      obtain⟨O,c1,z⟩:=bnd z
      refine sq (gq fol [0,1] (kAH (kAl k L ((23,.ptr 1 0)::(kAG j (j.length:Int) J [])))) (kD w j n (kX O.Name O.Yarn O.Dye O.Stock [])) (ac (iv qps qo c1) (ac (la qr9 qo c1) az)) ?_)
      obtain⟨f5,f6,z⟩:=bnd z
      refine sq (gr fol [3] (kAH (kAl k L ((23,.ptr 1 0)::(24,.i f5.1)::(25,.i f5.2)::(kAG j (j.length:Int) J [])))) (ac (cv (qrB N (⟨w,j,n⟩:StateT) O.Name f6)) az) ?_)
      refine sq ?_
      refine sq ?_
      obtain⟨b91,B,z⟩:=bnd z
      refine Goes.cut (s':=(ofG 223 (kAH (kAl k L ((23,.ptr 1 0)::(kAG j (j.length:Int) J [(199,.bool b91)])))),(kD w j n (kX O.Name O.Yarn O.Dye O.Stock [])))) ?_ ?_
      ·rcases wyB B with⟨d3,B⟩|⟨d3,B⟩
       ·obtain rfl:=si B
        exact tr fol [2] (kAH (kAl k L ((23,.ptr 1 0)::(kAG j (j.length:Int) J [(199,.bool true)])))) (ac (gw d3) az)
       rcases wyD B with⟨f7,B⟩|⟨f7,B⟩
       ·obtain rfl:=si B
        exact tr fol [2,6] (kAH (kAl k L ((23,.ptr 1 0)::(kAG j (j.length:Int) J [(199,.bool true)])))) (ac (gw d3) (ac (gw f7) az))
       obtain rfl:=si B
       exact tr fol [2,6] (kAH (kAl k L ((23,.ptr 1 0)::(kAG j (j.length:Int) J [(199,.bool (decide (f5.1>O.Stock)))])))) (ac (gw d3) (ac (gw f7) az))
      refine ihB z (fun c93 z=>?_) (fun c93 z=>?_)
      ·refine sh fol kAQ ?_
       refine Goes.ret ?_
       obtain rfl:=si z
       exact Or.inr (⟨rfl,_,rfl,(gw2 [.bool false] (Ub tB))⟩)
      refine Goes.skip ?_
      refine gh fol (kAH (kAl k (w64 (L+O.Stock)) (kAG j (j.length:Int) J []))) ?_
      refine gh fol (kAH (kAl k (w64 (L+O.Stock)) (kAG j (j.length:Int) (w64 (J+1)) []))) ?_
      exact⟨M,(ofG 223 (kAH (kAl k (w64 (L+O.Stock)) (kAG j (j.length:Int) (w64 (J+1)) []))),(kD w j n [])),Nat.lt_succ_self _,(Sub.norm [] [some 0] rfl rfl (.kp (.keep (.same nI) (.keep (.same nI) (.keep (.same (zu qo _)) (.keep (.same nI) (.keep (.same nI) .nil)))))) (.kb rfl (.same sn) .nil)),_,_,rfl,z⟩
     refine Goes.exit ?_
     obtain rfl:=si z
     exact Or.inl (⟨rfl,_,rfl,(Sub.keep [4,7,21] rfl rfl)⟩)
   rintro x s' (⟨rfl,c0,rfl,hsub⟩|⟨rfl,q104,rfl,hret⟩)
   ·try dsimp only at h
    refine Goes.sub hsub ?_
    refine sq ?_
    refine sh fol (kAZ k c0 n (n.length:Int) [(208,.i 0)]) ?_
    refine Goes.block ?_
    obtain⟨h9,U,h⟩:=bnd h
    refine Goes.imp (Q:=fun x s'=>(x= .exit 6/\ ∃f8,f8=h9/\Sub s' (ofG 223 (kAl k f8 []),[]))) ?_ ?_
    ·refine Goes.sub (s':=(ofG 223 (kAZ k c0 n (n.length:Int) [(208,.i 0)]),[])) (Sub.norm [] [] rfl rfl (.keep (.same nI) (.keep (.same nI) (.keep (.same (zu qg _)) (.keep (.same nI) (.keep (.same nI) .nil))))) .nil) ?_
     refine Ud (fun M s=> ∃(W:Int) (Y:Int),s=(ofG 223 (kAZ k Y n (n.length:Int) [(208,.i W)]),[])/\qbu n M W Y=some h9) ?_ (m:=N) ⟨_,_,rfl,U⟩
     rintro M s ⟨W,Y,rfl,U⟩
     cases M with
     |zero=>simp only[qbu]at U;cases U
     |succ M=>
      rw[qbu]at U
      refine sh fol (kAZ k Y n (n.length:Int) [(208,.i W),(209,.bool (decide (W<(n.length:Int))))]) ?_
      refine sq ?_
      refine ihD U (fun c98 U=>?_) (fun c98 U=>?_)
      ·refine Goes.skip ?_
       refine sq (Goes.block ?_)
       obtain⟨a6,c3,U⟩:=bnd U
       refine sq (gq fol [0,1] (kAl k Y [(27,.ptr 0 0),(206,vl qg n),(207,.i (n.length:Int)),(208,.i W)]) (kM a6.Lot a6.Order a6.Reserved a6.Taken []) (ac (iv qhR qg c3) (ac (la qqT qg c3) az)) ?_)
       refine gh fol (kAZ k (w64 (Y+a6.Taken)) n (n.length:Int) [(208,.i W)]) ?_
       refine gh fol (kAZ k (w64 (Y+a6.Taken)) n (n.length:Int) [(208,.i (w64 (W+1)))]) ?_
       exact⟨M,(ofG 223 (kAZ k (w64 (Y+a6.Taken)) n (n.length:Int) [(208,.i (w64 (W+1)))]),[]),Nat.lt_succ_self _,(Sub.norm [] [] rfl rfl (.keep (.same nI) (.keep (.same nI) (.keep (.same (zu qg _)) (.keep (.same nI) (.keep (.same nI) .nil))))) .nil),_,_,rfl,U⟩
      refine Goes.exit ?_
      obtain rfl:=si U
      exact⟨rfl,_,rfl,(Sub.keep [7,21] rfl rfl)⟩
    rintro x s' ⟨rfl,f8,rfl,hsub⟩
    refine Goes.sub hsub ?_
    refine sq ?_
    obtain⟨d6,C,h⟩:=bnd h
    refine Goes.cut (s':=(ofG 223 (kAV d6),[])) ?_ ?_
    ·rcases wyD C with⟨c5,C⟩|⟨c5,C⟩
     ·obtain⟨i0,d4,C⟩:=bnd C
      obtain rfl:=si C
      exact tr fol [3,4] (kAV i0) (ac (gw c5) (ac (cv (qwP d4)) az))
     obtain rfl:=si C
     exact tr fol [3] kAQ (ac (gw c5) az)
    refine Goes.ret ?_
    obtain rfl:=si h
    exact(gw2 [.bool d6] (Ub tB))
   try dsimp only at h
   obtain rfl:=si h
   exact hret
  try dsimp only at h
  obtain rfl:=si h
  exact hret
 try dsimp only at h
 obtain rfl:=si h
 exact hret
end Go.Av
