/-
  Walks of functions: what each computes, as a plain function.
-/
import Derived.Test.YtfffkfkghchbdaaGreatDoorQGenL1
noncomputable section
namespace Go.Av
open Go.Proofs Go.RowKit
set_option linter.unusedSectionVars false
set_option linter.unusedVariables false
set_option linter.unusedSimpArgs false
set_option maxRecDepth 100000
def kz (N:Nat) (d:qX):Nat->Int->Option (Unit⊕Int)
 |0,_=>none
 |K+1,b=>
  if b<(d.Lots.length:Int)then
  (idx d.Lots b).bind fun a=>
  ((zX N a.Name).bind fun j=>
  if(!j)=true then
  some true
  else
  (zX N a.Yarn).bind fun e=>
  if(!e)=true then
  some true
  else
  (vU N a.Dye).bind fun f=>
  some (!f):Option Bool).bind fun g=>
  if g=true then
  some (.inr 8)
  else
  (if b>0 then
  (idx d.Lots (w64 (b-1))).bind fun c=>
  some (ltL a.Name c.Name||a.Name==c.Name)
  else
  some false:Option Bool).bind fun h=>
  if h=true then
  some (.inr 11)
  else
  (vS a.Stock 0 999999999).bind fun i=>
  if i=true then
  some (.inr 3)
  else
  kz N d K (w64 (b+1))
  else
  some (.inl ())
def ze (N:Nat) (c:qX):Nat->Int->Option (Unit⊕Int)
 |0,_=>none
 |K+1,b=>
  if b<(c.Holds.length:Int)then
  (idx c.Holds b).bind fun a=>
  (qE N c a.Lot).bind fun d=>
  if d<0 then
  some (.inr 10)
  else
  (zX N a.Order).bind fun e=>
  if(!e)=true then
  some (.inr 8)
  else
  (if b>0 then
  (idx c.Holds (w64 (b-1))).bind fun f=>
  (vT a f).bind fun g=>
  some (!g)
  else
  some false:Option Bool).bind fun h=>
  if h=true then
  some (.inr 11)
  else
  ((vS a.Reserved 0 999999999).bind fun i=>
  if i=true then
  some true
  else
  (vS a.Taken 0 999999999).bind fun j=>
  some j:Option Bool).bind fun k=>
  if k=true then
  some (.inr 3)
  else
  (if a.Reserved=0 then
  some (decide (a.Taken=0))
  else
  some false:Option Bool).bind fun l=>
  if l=true then
  some (.inr 6)
  else
  ze N c K (w64 (b+1))
  else
  some (.inl ())
def qB (N:Nat) (b:qX):Nat->Int->Option (Unit⊕Int)
 |0,_=>none
 |K+1,a=>
  if a<(b.Lots.length:Int)then
  (qO N b a).bind fun c=>
  if c<0 then
  some (.inr 32)
  else
  qB N b K (w64 (a+1))
  else
  some (.inl ())
def jI (N:Nat) (a:qX):Option Int:=
 (vS a.Day 0 99999).bind fun e=>
 if e=true then
 some 3
 else
 if(a.Lots.length:Int)>64 then
 some 5
 else
 (kz N a N 0).bind (fun
 |(.inl ())=>
 if(a.Holds.length:Int)>256 then
 some 5
 else
 (ze N a N 0).bind (fun
 |(.inl ())=>
 (qB N a N 0).bind (fun
 |(.inl ())=>
 some 0
 |(.inr b)=>
 some b)
 |(.inr c)=>
 some c)
 |(.inr d)=>
 some d)
theorem qaT (N:Nat) (a:qX) {res:Int} (h:jI N a=some res):qd ZT (.fn 11) [.agg [.i a.Day,vl qa a.Lots,vl qb a.Holds]] [] (.i res) []:=by
 unfold jI at h
 refine Ub Tryz.func11 rfl rfl (m:=125) rfl (rs:=[.tmp 2]) rfl (l:=(kL a.Day a.Lots a.Holds [])) rfl ?_
 refine sg fol (kS []) (kA a.Day a.Lots a.Holds []) ?_
 refine sq ?_
 obtain⟨r1,P,h⟩:=bnd h
 refine sq (gr fol [2] (kS [(10,.bool r1)]) (ac (cv (vZ a.Day 0 99999 P)) az) ?_)
 refine ihB h (fun c2 h=>?_) (fun c2 h=>?_)
 ·refine sh fol [(2,.i 3)] ?_
  refine Goes.ret ?_
  obtain rfl:=si h
  exact(gw2 [.i 3] (Ua tI))
 refine Goes.skip ?_
 refine sq ?_
 refine sh fol (kS [(14,.bool (decide ((a.Lots.length:Int)>64)))]) ?_
 refine ihD h (fun c3 h=>?_) (fun c3 h=>?_)
 ·refine sh fol [(2,.i 5)] ?_
  refine Goes.ret ?_
  obtain rfl:=si h
  exact(gw2 [.i 5] (Ua tI))
 refine Goes.skip ?_
 refine sq ?_
 refine sh fol (kS [(3,.i 0)]) ?_
 refine Goes.block ?_
 obtain⟨Y,g5,h⟩:=bnd h
 refine Goes.imp (Q:=fun x s'=>(x= .exit 0/\(.inl ())=Y/\Sub s' (ofG 125 (kS []),(kA a.Day a.Lots a.Holds [])))\/(x= .ret/\ ∃q6,(.inr q6)=Y/\zh ZT [.tmp 2] (.i q6) .ret s')) ?_ ?_
 ·refine Uc (fun M s=> ∃(o:Int),s=(ofG 125 (kS [(3,.i o)]),(kA a.Day a.Lots a.Holds []))/\kz N a M o=some Y) ?_ (m:=N) ⟨_,rfl,g5⟩
  rintro M s ⟨o,rfl,g5⟩
  cases M with
  |zero=>simp only[kz]at g5;cases g5
  |succ M=>
   rw[kz]at g5
   refine sq ?_
   refine sh fol (kS [(3,.i o),(19,.bool (decide (o<(a.Lots.length:Int))))]) ?_
   refine ihD g5 (fun c7 g5=>?_) (fun c7 g5=>?_)
   ·refine Goes.skip ?_
    refine sq (Goes.block ?_)
    obtain⟨k,y,g5⟩:=bnd g5
    refine sq (gq fol [3,4] (kS (kAU o [])) (kA a.Day a.Lots a.Holds (kK k.Name k.Yarn k.Dye k.Stock [])) (ac (iv xG qa y) (ac (la ag73 qa y) az)) ?_)
    refine sq ?_
    refine sq ?_
    obtain⟨Z,b,g5⟩:=bnd g5
    refine Goes.cut (s':=(ofG 125 (kS (kAU o [(42,.bool Z)])),(kA a.Day a.Lots a.Holds (kK k.Name k.Yarn k.Dye k.Stock [])))) ?_ ?_
    ·obtain⟨r9,p,b⟩:=bnd b
     rcases wyB b with⟨w,b⟩|⟨w,b⟩
     ·obtain rfl:=si b
      exact tr fol [2,4] (kS (kAU o kAX)) (ac (cv (zi N k.Name p)) (ac (gw w) az))
     obtain⟨r11,q,b⟩:=bnd b
     rcases wyB b with⟨z,b⟩|⟨z,b⟩
     ·obtain rfl:=si b
      exact tr fol [2,4,7,10] (kS (kAU o kAX)) (ac (cv (zi N k.Name p)) (ac (gw w) (ac (cv (zi N k.Yarn q)) (ac (gw z) az))))
     obtain⟨a0,A,b⟩:=bnd b
     obtain rfl:=si b
     exact tr fol [2,4,7,10,13] (kS (kAU o [(42,.bool (!a0))])) (ac (cv (zi N k.Name p)) (ac (gw w) (ac (cv (zi N k.Yarn q)) (ac (gw z) (ac (cv (qaK N k.Dye A)) az)))))
    refine ihB g5 (fun a1 g5=>?_) (fun a1 g5=>?_)
    ·refine sh fol [(2,.i 8)] ?_
     refine Goes.ret ?_
     obtain rfl:=si g5
     exact Or.inr (⟨rfl,_,rfl,(gw2 [.i 8] (Ua tI))⟩)
    refine Goes.skip ?_
    refine sq ?_
    refine sq ?_
    obtain⟨a2,g,g5⟩:=bnd g5
    refine Goes.cut (s':=(ofG 125 (kS (kAU o [(56,.bool a2)])),(kA a.Day a.Lots a.Holds (kK k.Name k.Yarn k.Dye k.Stock [])))) ?_ ?_
    ·rcases wyD g with⟨B,g⟩|⟨B,g⟩
     ·obtain⟨U,r,g⟩:=bnd g
      obtain rfl:=si g
      exact tr fol [2,9,11] (kS (kAU o [(56,.bool (ltL k.Name U.Name||k.Name==U.Name))])) (ac (gw B) (ac (iv xG qa r) (ac (lv 0 ce9 qa r rfl) az)))
     obtain rfl:=si g
     exact tr fol [2] (kS (kAU o [(56,.bool false)])) (ac (gw B) az)
    refine ihB g5 (fun a3 g5=>?_) (fun a3 g5=>?_)
    ·refine sh fol [(2,.i 11)] ?_
     refine Goes.ret ?_
     obtain rfl:=si g5
     exact Or.inr (⟨rfl,_,rfl,(gw2 [.i 11] (Ua tI))⟩)
    refine Goes.skip ?_
    obtain⟨a4,C,g5⟩:=bnd g5
    refine sq (gr fol [2] (kS [(3,.i o),(59,.bool a4)]) (ac (cv (vZ k.Stock 0 999999999 C)) az) ?_)
    refine ihB g5 (fun a5 g5=>?_) (fun a5 g5=>?_)
    ·refine sh fol [(2,.i 3)] ?_
     refine Goes.ret ?_
     obtain rfl:=si g5
     exact Or.inr (⟨rfl,_,rfl,(gw2 [.i 3] (Ua tI))⟩)
    refine Goes.skip ?_
    refine gh fol (kS [(3,.i (w64 (o+1)))]) ?_
    exact⟨M,(ofG 125 (kS [(3,.i (w64 (o+1)))]),(kA a.Day a.Lots a.Holds [])),Nat.lt_succ_self _,(Sub.norm [] [some 0] rfl rfl (.kp (.keep (.same nI) .nil)) (.kb rfl (.same sn) .nil)),_,rfl,g5⟩
   refine Goes.exit ?_
   obtain rfl:=si g5
   exact Or.inl (⟨rfl,rfl,(Sub.keep [1] rfl rfl)⟩)
 rintro x s' (⟨rfl,rfl,hsub⟩|⟨rfl,q58,rfl,hret⟩)
 ·try dsimp only at h
  refine Goes.sub hsub ?_
  refine sq ?_
  refine sh fol (kS [(63,.bool (decide ((a.Holds.length:Int)>256)))]) ?_
  refine ihD h (fun a6 h=>?_) (fun a6 h=>?_)
  ·refine sh fol [(2,.i 5)] ?_
   refine Goes.ret ?_
   obtain rfl:=si h
   exact(gw2 [.i 5] (Ua tI))
  refine Goes.skip ?_
  refine sq ?_
  refine sh fol (kS [(5,.i 0)]) ?_
  refine Goes.block ?_
  obtain⟨D,g26,h⟩:=bnd h
  refine Goes.imp (Q:=fun x s'=>(x= .exit 2/\(.inl ())=D/\Sub s' (ofG 125 (kS []),(kA a.Day a.Lots a.Holds [])))\/(x= .ret/\ ∃V,(.inr V)=D/\zh ZT [.tmp 2] (.i V) .ret s')) ?_ ?_
  ·refine Uc (fun M s=> ∃(d:Int),s=(ofG 125 (kS (kAb d)),(kA a.Day a.Lots a.Holds []))/\ze N a M d=some D) ?_ (m:=N) ⟨_,rfl,g26⟩
   rintro M s ⟨d,rfl,g26⟩
   cases M with
   |zero=>simp only[ze]at g26;cases g26
   |succ M=>
    rw[ze]at g26
    refine sq ?_
    refine sh fol (kS [(5,.i d),(68,.bool (decide (d<(a.Holds.length:Int))))]) ?_
    refine ihD g26 (fun a7 g26=>?_) (fun a7 g26=>?_)
    ·refine Goes.skip ?_
     refine sq (Goes.block ?_)
     obtain⟨c,t,g26⟩:=bnd g26
     refine sq (gq fol [3,4] (kS (kAP d [])) (kA a.Day a.Lots a.Holds (kH c.Lot c.Order c.Reserved c.Taken [])) (ac (iv qee qb t) (ac (la ag76 qb t) az)) ?_)
     refine sq ?_
     obtain⟨a8,E,g26⟩:=bnd g26
     refine sq (gr fol [3] (kS (kAP d [(80,.bool (decide (a8<0)))])) (ac (cv (yH N a c.Lot E)) az) ?_)
     refine ihD g26 (fun a9 g26=>?_) (fun a9 g26=>?_)
     ·refine sh fol [(2,.i 10)] ?_
      refine Goes.ret ?_
      obtain rfl:=si g26
      exact Or.inr (⟨rfl,_,rfl,(gw2 [.i 10] (Ua tI))⟩)
     refine Goes.skip ?_
     refine sq ?_
     obtain⟨b0,F,g26⟩:=bnd g26
     refine sq (gr fol [2] (kS (kAP d [(84,.bool (!b0))])) (ac (cv (zi N c.Order F)) az) ?_)
     refine ihB g26 (fun b1 g26=>?_) (fun b1 g26=>?_)
     ·refine sh fol [(2,.i 8)] ?_
      refine Goes.ret ?_
      obtain rfl:=si g26
      exact Or.inr (⟨rfl,_,rfl,(gw2 [.i 8] (Ua tI))⟩)
     refine Goes.skip ?_
     refine sq ?_
     refine sq ?_
     obtain⟨b2,e,g26⟩:=bnd g26
     refine Goes.cut (s':=(ofG 125 (kS (kAP d [(97,.bool b2)])),(kA a.Day a.Lots a.Holds (kH c.Lot c.Order c.Reserved c.Taken [])))) ?_ ?_
     ·rcases wyD e with⟨G,e⟩|⟨G,e⟩
      ·obtain⟨b3,u,e⟩:=bnd e
       obtain⟨b4,H,e⟩:=bnd e
       obtain rfl:=si e
       exact tr fol [2,8,9,10] (kS (kAP d [(97,.bool (!b4))])) (ac (gw G) (ac (iv qee qb u) (ac (la ag76 qb u) (ac (cv (qcL c b3 H)) az))))
      obtain rfl:=si e
      exact tr fol [2] (kS (kAP d [(97,.bool false)])) (ac (gw G) az)
     refine ihB g26 (fun b5 g26=>?_) (fun b5 g26=>?_)
     ·refine sh fol [(2,.i 11)] ?_
      refine Goes.ret ?_
      obtain rfl:=si g26
      exact Or.inr (⟨rfl,_,rfl,(gw2 [.i 11] (Ua tI))⟩)
     refine Goes.skip ?_
     refine sq ?_
     refine sq ?_
     obtain⟨b6,f,g26⟩:=bnd g26
     refine Goes.cut (s':=(ofG 125 (kS (kAP d [(105,.bool b6)])),(kA a.Day a.Lots a.Holds (kH c.Lot c.Order c.Reserved c.Taken [])))) ?_ ?_
     ·obtain⟨r40,v,f⟩:=bnd f
      rcases wyB f with⟨I,f⟩|⟨I,f⟩
      ·obtain rfl:=si f
       exact tr fol [2,3] (kS (kAP d [(105,.bool true)])) (ac (cv (vZ c.Reserved 0 999999999 v)) (ac (gw I) az))
      obtain⟨b7,J,f⟩:=bnd f
      obtain rfl:=si f
      exact tr fol [2,3,6] (kS (kAP d [(105,.bool b7)])) (ac (cv (vZ c.Reserved 0 999999999 v)) (ac (gw I) (ac (cv (vZ c.Taken 0 999999999 J)) az)))
     refine ihB g26 (fun b8 g26=>?_) (fun b8 g26=>?_)
     ·refine sh fol [(2,.i 3)] ?_
      refine Goes.ret ?_
      obtain rfl:=si g26
      exact Or.inr (⟨rfl,_,rfl,(gw2 [.i 3] (Ua tI))⟩)
     refine Goes.skip ?_
     refine sq ?_
     obtain⟨b9,j,g26⟩:=bnd g26
     refine Goes.cut (s':=(ofG 125 (kS [(5,.i d),(113,.bool b9)]),(kA a.Day a.Lots a.Holds (kH c.Lot c.Order c.Reserved c.Taken [])))) ?_ ?_
     ·rcases wyD j with⟨K,j⟩|⟨K,j⟩
      ·obtain rfl:=si j
       exact tr fol [3] (kS [(5,.i d),(113,.bool (decide (c.Taken=0)))]) (ac (gw K) az)
      obtain rfl:=si j
      exact tr fol [3] (kS [(5,.i d),(113,.bool false)]) (ac (gw K) az)
     refine ihB g26 (fun c0 g26=>?_) (fun c0 g26=>?_)
     ·refine sh fol [(2,.i 6)] ?_
      refine Goes.ret ?_
      obtain rfl:=si g26
      exact Or.inr (⟨rfl,_,rfl,(gw2 [.i 6] (Ua tI))⟩)
     refine Goes.skip ?_
     refine gh fol (kS (kAb (w64 (d+1)))) ?_
     exact⟨M,(ofG 125 (kS (kAb (w64 (d+1)))),(kA a.Day a.Lots a.Holds [])),Nat.lt_succ_self _,(Sub.norm [] [some 0] rfl rfl (.kp (.keep (.same nI) .nil)) (.kb rfl (.same sn) .nil)),_,rfl,g26⟩
    refine Goes.exit ?_
    obtain rfl:=si g26
    exact Or.inl (⟨rfl,rfl,(Sub.keep [1] rfl rfl)⟩)
  rintro x s' (⟨rfl,rfl,hsub⟩|⟨rfl,q57,rfl,hret⟩)
  ·try dsimp only at h
   refine Goes.sub hsub ?_
   refine sq ?_
   refine sh fol (kS [(7,.i 0)]) ?_
   refine Goes.block ?_
   obtain⟨L,g51,h⟩:=bnd h
   refine Goes.imp (Q:=fun x s'=>(x= .exit 4/\(.inl ())=L/\Sub s' (ofG 125 [],[]))\/(x= .ret/\ ∃X,(.inr X)=L/\zh ZT [.tmp 2] (.i X) .ret s')) ?_ ?_
   ·refine Uc (fun M s=> ∃(n:Int),s=(ofG 125 (kS [(7,.i n)]),(kA a.Day a.Lots a.Holds []))/\qB N a M n=some L) ?_ (m:=N) ⟨_,rfl,g51⟩
    rintro M s ⟨n,rfl,g51⟩
    cases M with
    |zero=>simp only[qB]at g51;cases g51
    |succ M=>
     rw[qB]at g51
     refine sq ?_
     refine sh fol (kS [(7,.i n),(118,.bool (decide (n<(a.Lots.length:Int))))]) ?_
     refine ihD g51 (fun c1 g51=>?_) (fun c1 g51=>?_)
     ·refine Goes.skip ?_
      refine sq (Goes.block ?_)
      obtain⟨c4,O,g51⟩:=bnd g51
      refine sq (gr fol [2] (kS [(7,.i n),(124,.bool (decide (c4<0)))]) (ac (cv (zV N a n O)) az) ?_)
      refine ihD g51 (fun c5 g51=>?_) (fun c5 g51=>?_)
      ·refine sh fol [(2,.i 32)] ?_
       refine Goes.ret ?_
       obtain rfl:=si g51
       exact Or.inr (⟨rfl,_,rfl,(gw2 [.i 32] (Ua tI))⟩)
      refine Goes.skip ?_
      refine gh fol (kS [(7,.i (w64 (n+1)))]) ?_
      exact⟨M,(ofG 125 (kS [(7,.i (w64 (n+1)))]),(kA a.Day a.Lots a.Holds [])),Nat.lt_succ_self _,(Sub.refl _),_,rfl,g51⟩
     refine Goes.exit ?_
     obtain rfl:=si g51
     exact Or.inl (⟨rfl,rfl,(Sub.norm [] [] rfl rfl .nil .nil)⟩)
   rintro x s' (⟨rfl,rfl,hsub⟩|⟨rfl,q56,rfl,hret⟩)
   ·try dsimp only at h
    refine Goes.sub hsub ?_
    refine sh fol [(2,.i 0)] ?_
    refine Goes.ret ?_
    obtain rfl:=si h
    exact(gw2 [.i 0] (Ua tI))
   try dsimp only at h
   obtain rfl:=si h
   exact hret
  try dsimp only at h
  obtain rfl:=si h
  exact hret
 try dsimp only at h
 obtain rfl:=si h
 exact hret
def jb (l:List Int):Nat->Int->Option (Unit⊕Int)
 |0,_=>none
 |K+1,a=>
  if a<(l.length:Int)then
  (idx l a).bind fun b=>
  if(!decide (b=0))=true then
  some (.inr b)
  else
  jb l K (w64 (a+1))
  else
  some (.inl ())
def z8 (N:Nat) (l:List Int):Option Int:=
 (jb l N 0).bind (fun
 |(.inl ())=>
 some 0
 |(.inr a)=>
 some a)
theorem yY (N:Nat) (l:List Int) {res:Int} (h:z8 N l=some res):qd ZT (.fn 12) [vl encI l] [] (.i res) []:=by
 unfold z8 at h
 refine Ub Tryz.func12 rfl rfl (m:=15) rfl (rs:=[.tmp 2]) rfl (l:=[(0,vl encI l)]) rfl ?_
 refine sh fol [(0,vl encI l)] ?_
 refine sq ?_
 refine sh fol [(5,vl encI l),(6,.i (l.length:Int)),(7,.i 0)] ?_
 refine Goes.block ?_
 obtain⟨d,g2,h⟩:=bnd h
 refine Goes.imp (Q:=fun x s'=>(x= .exit 0/\(.inl ())=d/\Sub s' (ofG 15 [],[]))\/(x= .ret/\ ∃e,(.inr e)=d/\zh ZT [.tmp 2] (.i e) .ret s')) ?_ ?_
 ·refine Uc (fun M s=> ∃(a:Int),s=(ofG 15 (kAA l (l.length:Int) a []),[])/\jb l M a=some d) ?_ (m:=N) ⟨_,rfl,g2⟩
  rintro M s ⟨a,rfl,g2⟩
  cases M with
  |zero=>simp only[jb]at g2;cases g2
  |succ M=>
   rw[jb]at g2
   refine sh fol (kAA l (l.length:Int) a [(8,.bool (decide (a<(l.length:Int))))]) ?_
   refine sq ?_
   refine ihD g2 (fun f g2=>?_) (fun f g2=>?_)
   ·refine Goes.skip ?_
    refine sq (Goes.block ?_)
    obtain⟨c,b,g2⟩:=bnd g2
    refine sq (gr fol [0,1] ((4,.i c)::(kAA l (l.length:Int) a [])) (ac (iv qah encI b) (ac (lv 0 ce3 encI b rfl) az)) ?_)
    refine sh fol ((4,.i c)::(kAA l (l.length:Int) a [(12,.bool (!decide (c=0)))])) ?_
    refine ihB g2 (fun g g2=>?_) (fun g g2=>?_)
    ·refine sh fol [(2,.i c)] ?_
     refine Goes.ret ?_
     obtain rfl:=si g2
     exact Or.inr (⟨rfl,_,rfl,(gw2 [.i c] (Ua tI))⟩)
    refine Goes.skip ?_
    refine gh fol (kAA l (l.length:Int) (w64 (a+1)) []) ?_
    exact⟨M,(ofG 15 (kAA l (l.length:Int) (w64 (a+1)) []),[]),Nat.lt_succ_self _,(Sub.refl _),_,rfl,g2⟩
   refine Goes.exit ?_
   obtain rfl:=si g2
   exact Or.inl (⟨rfl,rfl,(Sub.keep [] rfl rfl)⟩)
 rintro x s' (⟨rfl,rfl,hsub⟩|⟨rfl,j,rfl,hret⟩)
 ·try dsimp only at h
  refine Goes.sub hsub ?_
  refine sh fol [(2,.i 0)] ?_
  refine Goes.ret ?_
  obtain rfl:=si h
  exact(gw2 [.i 0] (Ua tI))
 try dsimp only at h
 obtain rfl:=si h
 exact hret
def zP (holds:Bool) (e:Int):Option Int:=
 if holds=true then
 some e
 else
 some 0
theorem vH (holds:Bool) (e:Int) {res:Int} (h:zP holds e=some res):qd ZT (.fn 14) [.bool holds,.i e] [] (.i res) []:=by
 unfold zP at h
 refine Ub Tryz.func14 rfl rfl (m:=7) rfl (rs:=[.tmp 4]) rfl (l:=[(0,.bool holds),(1,.i e)]) rfl ?_
 refine sh fol [(0,.bool holds),(1,.i e)] ?_
 refine sq ?_
 refine sh fol [(1,.i e),(5,.bool holds)] ?_
 refine ihB h (fun a h=>?_) (fun a h=>?_)
 ·refine sh fol [(4,.i e)] ?_
  refine Goes.ret ?_
  obtain rfl:=si h
  exact(gw2 [.i e] (Ua tI))
 refine Goes.skip ?_
 refine sh fol [(4,.i 0)] ?_
 refine Goes.ret ?_
 obtain rfl:=si h
 exact(gw2 [.i 0] (Ua tI))
def jQ (N:Nat) (a:qfo):Option Int:=
 ((zX N a.Yarn).bind fun b=>
 if(!b)=true then
 (zP true 8).bind fun c=>
 some c
 else
 (vU N a.Dye).bind fun d=>
 (zP (!d) 8).bind fun e=>
 some e:Option Int).bind fun f=>
 some f
theorem qa7 (N:Nat) (a:qfo) {res:Int} (h:jQ N a=some res):qd ZT (.fn 13) [.agg [.str a.Yarn,.str a.Dye,.i a.Amount]] [] (.i res) []:=by
 unfold jQ at h
 refine Ub Tryz.func13 rfl rfl (m:=14) rfl (rs:=[.tmp 2]) rfl (l:=[(0,.agg [.str a.Yarn,.str a.Dye,.i a.Amount])]) rfl ?_
 refine sg fol (kS []) (kAJ a.Yarn a.Dye a.Amount []) ?_
 refine sq ?_
 obtain⟨j,b,h⟩:=bnd h
 refine Goes.cut (s':=(ofG 14 [(2,.i j)],(kAJ a.Yarn a.Dye a.Amount []))) ?_ ?_
 ·obtain⟨p,c,b⟩:=bnd b
  rcases wyB b with⟨g,b⟩|⟨g,b⟩
  ·obtain⟨k,d,b⟩:=bnd b
   obtain rfl:=si b
   exact tr fol [2,4,10] [(2,.i k)] (ac (cv (zi N a.Yarn c)) (ac (gw g) (ac (cv (vH true 8 d)) az)))
  obtain⟨n,e,b⟩:=bnd b
  obtain⟨o,f,b⟩:=bnd b
  obtain rfl:=si b
  exact tr fol [2,4,7,10] [(2,.i o)] (ac (cv (zi N a.Yarn c)) (ac (gw g) (ac (cv (qaK N a.Dye e)) (ac (cv (vH (!n) 8 f)) az))))
 refine Goes.ret ?_
 obtain rfl:=si h
 exact(gw2 [.i j] (Ua tI))
def jf (N:Nat) (a:qX) (yarn:Str) (dye:Str):Nat->Int->Int->Int->Option (Int×Int)
 |0,_,_,_=>none
 |K+1,b,d,e=>
  if b<(a.Lots.length:Int)then
  ((((idx a.Lots b).bind fun c=>
  if(c.Yarn==yarn)=true then
  some (c.Dye==dye)
  else
  some false:Option Bool).bind fun f=>
  if f=true then
  (idx a.Lots b).bind fun g=>
  (qO N a b).bind fun h=>
  some (w64 (d+g.Stock),w64 (e+h))
  else
  some (d,e):Option (Int×Int))).bind fun(i,j)=>
  jf N a yarn dye K (w64 (b+1)) i j
  else
  some (d,e)
def yE (N:Nat) (a:qX) (yarn:Str) (dye:Str):Option (Int×Int):=
 (jf N a yarn dye N 0 0 0).bind fun(b,c)=>
 some (b,c)
theorem qcl (N:Nat) (c:qX) (yarn:Str) (dye:Str) {res:Int×Int} (h:yE N c yarn dye=some res):qd ZT (.fn 17) (kT c.Day c.Lots c.Holds [.str yarn,.str dye]) [] (.tuple [.i res.1,.i res.2]) []:=by
 unfold yE at h
 refine Ub Tryz.func17 rfl rfl (m:=51) rfl (rs:=[.tmp 6,.tmp 7]) rfl (l:=(kL c.Day c.Lots c.Holds (kAQ yarn [(2,.str dye)]))) rfl ?_
 refine sg fol (kD yarn dye []) (kA c.Day c.Lots c.Holds []) ?_
 refine sh fol (kD yarn dye [(8,.i 0),(9,.i 0)]) ?_
 refine sq ?_
 refine sh fol (kD yarn dye [(8,.i 0),(9,.i 0),(10,.i 0)]) ?_
 refine Goes.block ?_
 obtain⟨z,g6,h⟩:=bnd h
 refine Goes.imp (Q:=fun x s'=>(x= .exit 0/\ ∃n o,(n,o)=z/\Sub s' (ofG 51 [(8,.i n),(9,.i o)],[]))) ?_ ?_
 ·refine Uc (fun M s=> ∃(d:Int) (f:Int) (g:Int),s=(ofG 51 (kD yarn dye (kQ f g d [])),(kA c.Day c.Lots c.Holds []))/\jf N c yarn dye M d f g=some z) ?_ (m:=N) ⟨_,_,_,rfl,g6⟩
  rintro M s ⟨d,f,g,rfl,g6⟩
  cases M with
  |zero=>simp only[jf]at g6;cases g6
  |succ M=>
   rw[jf]at g6
   refine sq ?_
   refine sh fol (kD yarn dye (kQ f g d [(15,.bool (decide (d<(c.Lots.length:Int))))])) ?_
   refine ihD g6 (fun A g6=>?_) (fun A g6=>?_)
   ·refine Goes.skip ?_
    refine sq ?_
    obtain⟨t,g10,g6⟩:=bnd g6
    refine Goes.imp (Q:=fun x s'=>(x= .normal/\ ∃p q,(p,q)=t/\Sub s' (ofG 51 (kD yarn dye (kQ p q d [])),(kA c.Day c.Lots c.Holds [])))) ?_ ?_
    ·refine Goes.block ?_
     refine sq ?_
     obtain⟨u,a,g10⟩:=bnd g10
     refine Goes.cut (s':=(ofG 51 (kD yarn dye (kQ f g d [(35,.bool u)])),(kA c.Day c.Lots c.Holds []))) ?_ ?_
     ·obtain⟨v,b,a⟩:=bnd a
      rcases wyB a with⟨j,a⟩|⟨j,a⟩
      ·obtain rfl:=si a
       exact tr fol [3,5,8,12,14] (kD yarn dye (kQ f g d [(35,.bool (v.Dye==dye))])) (ac (iv xG qa b) (ac (lv 1 ce9 qa b rfl) (ac (gw j) (ac (iv xG qa b) (ac (lv 2 ce9 qa b rfl) az)))))
      obtain rfl:=si a
      exact tr fol [3,5,8] (kD yarn dye (kQ f g d [(35,.bool false)])) (ac (iv xG qa b) (ac (lv 1 ce9 qa b rfl) (ac (gw j) az)))
     refine ihB g10 (fun w g10=>?_) (fun w g10=>?_)
     ·obtain⟨r,e,g10⟩:=bnd g10
      refine sq (gr fol [4,6] (kD yarn dye (kQ (w64 (f+r.Stock)) g d [])) (ac (iv xG qa e) (ac (lv 3 ce3 qa e rfl) az)) ?_)
      obtain⟨y,k,g10⟩:=bnd g10
      refine gr fol [3] (kD yarn dye (kQ (w64 (f+r.Stock)) (w64 (g+y)) d [])) (ac (cv (zV N c d k)) az) ?_
      obtain rfl:=si g10
      exact⟨rfl,_,_,rfl,(Sub.refl _)⟩
     refine Goes.skip ?_
     obtain rfl:=si g10
     exact⟨rfl,_,_,rfl,(Sub.keep [1,2,3,8,9,10] rfl rfl)⟩
    rintro x s' ⟨rfl,p,q,rfl,hsub⟩
    try dsimp only at g6
    refine Goes.sub hsub ?_
    refine gh fol (kD yarn dye (kQ p q (w64 (d+1)) [])) ?_
    exact⟨M,(ofG 51 (kD yarn dye (kQ p q (w64 (d+1)) [])),(kA c.Day c.Lots c.Holds [])),Nat.lt_succ_self _,(Sub.refl _),_,_,_,rfl,g6⟩
   refine Goes.exit ?_
   obtain rfl:=si g6
   exact⟨rfl,_,_,rfl,(Sub.norm [] [] rfl rfl (.drop (.drop (.drop (.keep (.same nI) (.keep (.same nI) .nil))))) .nil)⟩
 rintro x s' ⟨rfl,n,o,rfl,hsub⟩
 try dsimp only at h
 refine Goes.sub hsub ?_
 refine sh fol [(6,.i n),(7,.i o)] ?_
 refine Goes.ret ?_
 obtain rfl:=si h
 exact(gw2 [.i n,.i o] (FzW.tuple (zA.cons (Ua tI) (zA.cons (Ua tI) zA.nil))))
def jw (N:Nat) (b:qX) (yarn:Str) (dye:Str):Nat->(List Int)->Int->Option (List Int)
 |0,_,_=>none
 |K+1,c,a=>
  if a<(b.Lots.length:Int)then
  ((((idx b.Lots a).bind fun g=>
  if(g.Yarn==yarn)=true then
  if(g.Dye==dye)=true then
  (qO N b a).bind fun d=>
  some (decide (d>0))
  else
  some false
  else
  some false:Option Bool).bind fun e=>
  if e=true then
  (app 8 c [a]).bind fun f=>
  some f
  else
  some c:Option (List Int))).bind fun h=>
  jw N b yarn dye K h (w64 (a+1))
  else
  some c
def qaN (N:Nat) (a:qX) (yarn:Str) (dye:Str):Option (List Int):=
 (jw N a yarn dye N ([]:List Int) 0).bind fun b=>
 some b
theorem qdS (N:Nat) (b:qX) (yarn:Str) (dye:Str) {res:List Int} (h:qaN N b yarn dye=some res):qd ZT (.fn 58) (kT b.Day b.Lots b.Holds [.str yarn,.str dye]) [] (vl encI res) []:=by
 unfold qaN at h
 refine Ub Tryz.func58 rfl rfl (m:=45) rfl (rs:=[.tmp 6]) rfl (l:=(kL b.Day b.Lots b.Holds (kAQ yarn [(2,.str dye)]))) rfl ?_
 refine sg fol (kD yarn dye []) (kA b.Day b.Lots b.Holds []) ?_
 refine sh fol (kD yarn dye [(7,.nilslice)]) ?_
 refine sq ?_
 refine sh fol (kD yarn dye [(7,.nilslice),(8,.i 0)]) ?_
 refine Goes.block ?_
 obtain⟨u,g4,h⟩:=bnd h
 refine Goes.imp (Q:=fun x s'=>(x= .exit 0/\ ∃o,o=u/\Sub s' (ofG 45 [(7,.gslice 0 o.length 1)],(kF o [])))) ?_ ?_
 ·refine Goes.sub (s':=(ofG 45 (kD yarn dye [(7,.gslice 1 ([]:List Int).length 1),(8,.i 0)]),(kA b.Day b.Lots b.Holds kAO))) (Sub.norm [] [some 0,none] rfl rfl (.keep (.same nS) (.keep (.same nS) (.kp (.keep .nil (.keep (.same nI) .nil))))) (.kb rfl (.same sn) (.fresh .nil))) ?_
  refine Uc (fun M s=> ∃(e:List Int) (d:Int),s=(ofG 45 (kD yarn dye (kAI e d [])),(kA b.Day b.Lots b.Holds (kF e [])))/\jw N b yarn dye M e d=some u) ?_ (m:=N) ⟨_,_,rfl,g4⟩
  rintro M s ⟨e,d,rfl,g4⟩
  cases M with
  |zero=>simp only[jw]at g4;cases g4
  |succ M=>
   rw[jw]at g4
   refine sq ?_
   refine sh fol (kD yarn dye (kAI e d [(13,.bool (decide (d<(b.Lots.length:Int))))])) ?_
   refine ihD g4 (fun v g4=>?_) (fun v g4=>?_)
   ·refine Goes.skip ?_
    refine sq ?_
    obtain⟨w,g7,g4⟩:=bnd g4
    refine Goes.imp (Q:=fun x s'=>(x= .normal/\ ∃g,g=w/\Sub s' (ofG 45 (kD yarn dye (kAI g d [])),(kA b.Day b.Lots b.Holds (kF g []))))) ?_ ?_
    ·refine Goes.block ?_
     refine sq ?_
     obtain⟨q,a,g7⟩:=bnd g7
     refine Goes.cut (s':=(ofG 45 (kD yarn dye (kAI e d [(39,.bool q)])),(kA b.Day b.Lots b.Holds (kF e [])))) ?_ ?_
     ·obtain⟨y,c,a⟩:=bnd a
      rcases wyB a with⟨p,a⟩|⟨p,a⟩
      ·rcases wyB a with⟨j,a⟩|⟨j,a⟩
       ·obtain⟨r,k,a⟩:=bnd a
        obtain rfl:=si a
        exact tr fol [3,5,8,12,14,18,21] (kD yarn dye (kAI e d [(39,.bool (decide (r>0)))])) (ac (iv xG qa c) (ac (lv 1 ce9 qa c rfl) (ac (gw p) (ac (iv xG qa c) (ac (lv 2 ce9 qa c rfl) (ac (gw j) (ac (cv (zV N b d k)) az)))))))
       obtain rfl:=si a
       exact tr fol [3,5,8,12,14,18] (kD yarn dye (kAI e d [(39,.bool false)])) (ac (iv xG qa c) (ac (lv 1 ce9 qa c rfl) (ac (gw p) (ac (iv xG qa c) (ac (lv 2 ce9 qa c rfl) (ac (gw j) az))))))
      obtain rfl:=si a
      exact tr fol [3,5,8] (kD yarn dye (kAI e d [(39,.bool false)])) (ac (iv xG qa c) (ac (lv 1 ce9 qa c rfl) (ac (gw p) az)))
     refine ihB g7 (fun t g7=>?_) (fun t g7=>?_)
     ·obtain⟨f,n,g7⟩:=bnd g7
      refine gq fol [3] (kD yarn dye [(7,.gslice 3 f.length 1),(8,.i d)]) (kA b.Day b.Lots b.Holds (.dead:: .cells [.i d]::(kF f []))) (ac (hs (.run [1,2] (j5 ZT [40,40] (.gslice 1 e.length 1) (.slice 2 0 1 1 1)) (kA b.Day b.Lots b.Holds (kF e [.cells [.i d]])) (.gslice 3 f.length 1) (kA b.Day b.Lots b.Holds (.dead:: .cells [.i d]::(kF f []))) true) (xx qah (E:=encI) rfl (qdi (E:=encI) (ys:=[d]) rfl rfl rfl rfl) (qdr (E:=encI) (l:=e) rfl rfl rfl n rfl))) az) ?_
      obtain rfl:=si g7
      exact⟨rfl,_,rfl,(Sub.norm [] [some 0,some 3] rfl rfl (.keep (.same nS) (.keep (.same nS) (.kp (.keep (.gslice rfl) (.keep (.same nI) .nil))))) (.kb rfl (.same sn) (.ks .nil)))⟩
     refine Goes.skip ?_
     obtain rfl:=si g7
     exact⟨rfl,_,rfl,(Sub.keep [1,2,3,7,8] rfl rfl)⟩
    rintro x s' ⟨rfl,g,rfl,hsub⟩
    refine Goes.sub hsub ?_
    refine gh fol (kD yarn dye (kAI g (w64 (d+1)) [])) ?_
    exact⟨M,(ofG 45 (kD yarn dye (kAI g (w64 (d+1)) [])),(kA b.Day b.Lots b.Holds (kF g []))),Nat.lt_succ_self _,(Sub.refl _),_,_,rfl,g4⟩
   refine Goes.exit ?_
   obtain rfl:=si g4
   exact⟨rfl,_,rfl,(Sub.norm [] [some 1] rfl rfl (.drop (.drop (.drop (.keep (.gslice rfl) .nil)))) (.ks .nil))⟩
 rintro x s' ⟨rfl,o,rfl,hsub⟩
 refine Goes.sub hsub ?_
 refine sh fol [(6,.gslice 0 o.length 1)] ?_
 refine Goes.ret ?_
 obtain rfl:=si h
 exact(gw2 [.gslice 0 o.length 1] (FzW.fz (Fz.gs (E:=encI) rfl rfl (nl rfl))))
def zQ (a:List Int) (b:List Int):Nat->Int->Option (Unit⊕Bool)
 |0,_=>none
 |K+1,c=>
  if c<(a.length:Int)then
  (idx a c).bind fun d=>
  (idx b c).bind fun e=>
  if(!decide (d=e))=true then
  some (.inr (decide (d<e)))
  else
  zQ a b K (w64 (c+1))
  else
  some (.inl ())
def vC (N:Nat) (a:List Int) (b:List Int):Option Bool:=
 (zQ a b N 0).bind (fun
 |(.inl ())=>
 some false
 |(.inr c)=>
 some c)
theorem qbW (N:Nat) (a:List Int) (b:List Int) {res:Bool} (h:vC N a b=some res):qd ZT (.fn 59) [vl encI a,vl encI b] [] (.bool res) []:=by
 unfold vC at h
 refine Ub Tryz.func59 rfl rfl (m:=30) rfl (rs:=[.tmp 4]) rfl (l:=(kJ a b [])) rfl ?_
 refine sh fol (kJ a b []) ?_
 refine sq ?_
 refine sh fol (kJ a b [(5,.i 0)]) ?_
 refine Goes.block ?_
 obtain⟨f,g2,h⟩:=bnd h
 refine Goes.imp (Q:=fun x s'=>(x= .exit 0/\(.inl ())=f/\Sub s' (ofG 30 [],[]))\/(x= .ret/\ ∃k,(.inr k)=f/\zh ZT [.tmp 4] (.bool k) .ret s')) ?_ ?_
 ·refine Uc (fun M s=> ∃(e:Int),s=(ofG 30 (kJ a b (kAb e)),[])/\zQ a b M e=some f) ?_ (m:=N) ⟨_,rfl,g2⟩
  rintro M s ⟨e,rfl,g2⟩
  cases M with
  |zero=>simp only[zQ]at g2;cases g2
  |succ M=>
   rw[zQ]at g2
   refine sq ?_
   refine sh fol (kJ a b [(5,.i e),(9,.bool (decide (e<(a.length:Int))))]) ?_
   refine ihD g2 (fun n g2=>?_) (fun n g2=>?_)
   ·refine Goes.skip ?_
    refine sq (Goes.block ?_)
    obtain⟨g,c,g2⟩:=bnd g2
    obtain⟨j,d,g2⟩:=bnd g2
    refine sq (gr fol [2,3,6,7] (kJ a b [(5,.i e),(20,.bool (!decide (g=j)))]) (ac (iv qah encI c) (ac (lv 0 ce3 encI c rfl) (ac (iv qah encI d) (ac (lv 0 ce3 encI d rfl) az)))) ?_)
    refine ihB g2 (fun o g2=>?_) (fun o g2=>?_)
    ·refine sq (gr fol [2,3,6,7] [(4,.bool (decide (g<j)))] (ac (iv qah encI c) (ac (lv 0 ce3 encI c rfl) (ac (iv qah encI d) (ac (lv 0 ce3 encI d rfl) az)))) ?_)
     refine Goes.ret ?_
     obtain rfl:=si g2
     exact Or.inr (⟨rfl,_,rfl,(gw2 [.bool (decide (g<j))] (Ua tB))⟩)
    refine Goes.skip ?_
    refine gh fol (kJ a b (kAb (w64 (e+1)))) ?_
    exact⟨M,(ofG 30 (kJ a b (kAb (w64 (e+1)))),[]),Nat.lt_succ_self _,(Sub.refl _),_,rfl,g2⟩
   refine Goes.exit ?_
   obtain rfl:=si g2
   exact Or.inl (⟨rfl,rfl,(Sub.keep [] rfl rfl)⟩)
 rintro x s' (⟨rfl,rfl,hsub⟩|⟨rfl,p,rfl,hret⟩)
 ·try dsimp only at h
  refine Goes.sub hsub ?_
  refine sh fol kAS ?_
  refine Goes.ret ?_
  obtain rfl:=si h
  exact(gw2 [.bool false] (Ua tB))
 try dsimp only at h
 obtain rfl:=si h
 exact hret
def jg (N:Nat) (k:qX) (e:List Int) (l:Int):Nat->(List Int)->Int->Int->Option ((List Int)×Int)
 |0,_,_,_=>none
 |K+1,b,c,a=>
  if a<(e.length:Int)then
  (((qgp .i64 l a).bind fun f=>
  if(f.tmod 2)=1 then
  (idx e a).bind fun d=>
  (app 8 b [d]).bind fun g=>
  (qO N k d).bind fun h=>
  some (g,w64 (c+h))
  else
  some (b,c):Option ((List Int)×Int))).bind fun(i,j)=>
  jg N k e l K i j (w64 (a+1))
  else
  some (b,c)
def zn (N:Nat) (k:qX) (amount:Int) (c:List Int):Nat->(List Int)->Bool->Int->Option ((List Int)×Bool)
 |0,_,_,_=>none
 |K+1,b,d,e=>
  (qgN .i64 1 (c.length:Int)).bind fun l=>
  if e<l then
  (((jg N k c e N ([]:List Int) 0 0).bind fun(a,f)=>
  (if f>=amount then
  if(!d)=true then
  some true
  else
  if(a.length:Int)<(b.length:Int)then
  some true
  else
  if(a.length:Int)=(b.length:Int)then
  (vC N a b).bind fun g=>
  some g
  else
  some false
  else
  some false:Option Bool).bind fun h=>
  if h=true then
  some (a,true)
  else
  some (b,d):Option ((List Int)×Bool))).bind fun(i,j)=>
  zn N k amount c K i j (w64 (e+1))
  else
  some (b,d)
def yI (N:Nat) (a:qX) (yarn:Str) (dye:Str) (amount:Int):Option ((List Int)×Int):=
 (qaN N a yarn dye).bind fun b=>
 if(b.length:Int)>8 then
 some ([],22)
 else
 (zn N a amount b N ([]:List Int) false 0).bind fun(c,d)=>
 if(!d)=true then
 some ([],32)
 else
 some (c,0)
theorem qch (N:Nat) (b:qX) (yarn:Str) (dye:Str) (amount:Int) {res:(List Int)×Int} (h:yI N b yarn dye amount=some res):qd ZT (.fn 18) (kT b.Day b.Lots b.Holds [.str yarn,.str dye,.i amount]) [] (.tuple [vl encI res.1,.i res.2]) []:=by
 unfold yI at h
 refine Ub Tryz.func18 rfl rfl (m:=87) rfl (rs:=[.tmp 8,.tmp 9]) rfl (l:=(kL b.Day b.Lots b.Holds (kAQ yarn [(2,.str dye),(3,.i amount)]))) rfl ?_
 refine sg fol (kG yarn dye amount []) (kA b.Day b.Lots b.Holds []) ?_
 obtain⟨c,I,h⟩:=bnd h
 refine sq (gr fol [3] (kAF amount [(10,vl encI c)]) (ac (cv (qdS N b yarn dye I)) az) ?_)
 refine sq ?_
 refine sh fol (kAF amount [(10,vl encI c),(23,.bool (decide ((c.length:Int)>8)))]) ?_
 refine ihD h (fun c2 h=>?_) (fun c2 h=>?_)
 ·refine sh fol [(8,.nilslice),(9,.i 22)] ?_
  refine Goes.ret ?_
  obtain rfl:=si h
  exact(gw2 [.nilslice,.i 22] (FzW.tuple (zA.cons (FzW.nilv (E:=encI)) (zA.cons (Ua tI) zA.nil))))
 refine Goes.skip ?_
 refine sh fol (kAF amount [(10,vl encI c),(11,.nilslice)]) ?_
 refine sh fol (kAF amount [(10,vl encI c),(11,.nilslice),(12,.bool false)]) ?_
 refine sq ?_
 refine sh fol (kAF amount [(10,vl encI c),(11,.nilslice),(12,.bool false),(13,.i 0)]) ?_
 refine Goes.block ?_
 obtain⟨r8,g8,h⟩:=bnd h
 refine Goes.imp (Q:=fun x s'=>(x= .exit 0/\ ∃H P,(H,P)=r8/\Sub s' (ofG 87 [(11,vl encI H),(12,.bool P)],[]))) ?_ ?_
 ·refine Goes.sub (s':=(ofG 87 (kAF amount [(10,vl encI c),(11,vl encI ([]:List Int)),(12,.bool false),(13,.i 0)]),(kA b.Day b.Lots b.Holds []))) (Sub.norm [] [some 0] rfl rfl (.keep (.same nI) (.kp (.keep (.same (qf encI _)) (.keep .nilv (.keep (.same nB) (.keep (.same nI) .nil)))))) (.kb rfl (.same sn) .nil)) ?_
  refine Uc (fun M s=> ∃(f:List Int) (j:Bool) (e:Int),s=(ofG 87 (kB amount c f j e []),(kA b.Day b.Lots b.Holds []))/\zn N b amount c M f j e=some r8) ?_ (m:=N) ⟨_,_,_,rfl,g8⟩
  rintro M s ⟨f,j,e,rfl,g8⟩
  cases M with
  |zero=>simp only[zn]at g8;cases g8
  |succ M=>
   rw[zn]at g8
   refine sq ?_
   obtain⟨q9,J,g8⟩:=bnd g8
   refine sq (gr fol [3] (kB amount c f j e [(28,.bool (decide (e<q9)))]) (ac (hs (.done (.opt (qaV ZT .shl 3 (.const (.int .i64 1)) (.tmp 26) (.i 1) (.i (c.length:Int)))) (.i q9)) (qfJ J)) az) ?_)
   refine ihD g8 (fun U g8=>?_) (fun U g8=>?_)
   ·refine Goes.skip ?_
    refine sq ?_
    obtain⟨V,g13,g8⟩:=bnd g8
    refine Goes.imp (Q:=fun x s'=>(x= .normal/\ ∃r t,(r,t)=V/\Sub s' (ofG 87 (kB amount c r t e []),(kA b.Day b.Lots b.Holds [])))) ?_ ?_
    ·refine Goes.block ?_
     refine sh fol (kB amount c f j e [(14,.nilslice)]) ?_
     refine sh fol (kB amount c f j e [(14,.nilslice),(15,.i 0)]) ?_
     refine sq ?_
     refine sh fol (kB amount c f j e [(14,.nilslice),(15,.i 0),(16,.i 0)]) ?_
     refine Goes.block ?_
     obtain⟨K,g19,g13⟩:=bnd g13
     refine Goes.imp (Q:=fun x s'=>(x= .exit 2/\ ∃d A,(d,A)=K/\Sub s' (ofG 87 (kB amount c f j e (kAD d [(15,.i A)])),(kA b.Day b.Lots b.Holds (kF d []))))) ?_ ?_
     ·refine Goes.sub (s':=(ofG 87 (kB amount c f j e [(14,.gslice 1 ([]:List Int).length 1),(15,.i 0),(16,.i 0)]),(kA b.Day b.Lots b.Holds kAO))) (Sub.norm [] [some 0,none] rfl rfl (.keep (.same nI) (.kp (.keep (.same (qf encI _)) (.keep (.same (qf encI _)) (.keep (.same nB) (.keep (.same nI) (.keep .nil (.keep (.same nI) (.keep (.same nI) .nil))))))))) (.kb rfl (.same sn) (.fresh .nil))) ?_
      refine Uc (fun M s=> ∃(k:List Int) (o:Int) (g:Int),s=(ofG 87 (kB amount c f j e (kAD k (kAB o g []))),(kA b.Day b.Lots b.Holds (kF k [])))/\jg N b c e M k o g=some K) ?_ (m:=N) ⟨_,_,_,rfl,g19⟩
      rintro M s ⟨k,o,g,rfl,g19⟩
      cases M with
      |zero=>simp only[jg]at g19;cases g19
      |succ M=>
       rw[jg]at g19
       refine sq ?_
       refine sh fol (kB amount c f j e (kAD k (kAB o g [(34,.bool (decide (g<(c.length:Int))))]))) ?_
       refine ihD g19 (fun X g19=>?_) (fun X g19=>?_)
       ·refine Goes.skip ?_
        refine sq ?_
        obtain⟨Y,g23,g19⟩:=bnd g19
        refine Goes.imp (Q:=fun x s'=>(x= .normal/\ ∃p u,(p,u)=Y/\Sub s' (ofG 87 (kB amount c f j e (kAD p (kAB u g []))),(kA b.Day b.Lots b.Holds (kF p []))))) ?_ ?_
        ·refine Goes.block ?_
         obtain⟨L,B,g23⟩:=bnd g23
         refine sq (gr fol [2] (kB amount c f j e (kAD k (kAB o g [(41,.bool (decide ((L.tmod 2)=1)))]))) (ac (hs (.done (.opt (qaV ZT .shr 3 (.tmp 37) (.tmp 38) (.i e) (.i g))) (.i L)) (qfN B)) az) ?_)
         refine ihD g23 (fun Z g23=>?_) (fun Z g23=>?_)
         ·obtain⟨v,n,g23⟩:=bnd g23
          obtain⟨w,C,g23⟩:=bnd g23
          refine sq (gq fol [3,4,6] (kB amount c f j e ((14,.gslice 3 w.length 1)::(kAB o g []))) (kA b.Day b.Lots b.Holds (.dead:: .cells [.i v]::(kF w []))) (ac (iv qah encI n) (ac (lv 0 ce3 encI n rfl) (ac (hs (.run [1,2] (j5 ZT [40,40] (.gslice 1 k.length 1) (.slice 2 0 1 1 1)) (kA b.Day b.Lots b.Holds (kF k [.cells [.i v]])) (.gslice 3 w.length 1) (kA b.Day b.Lots b.Holds (.dead:: .cells [.i v]::(kF w []))) true) (xx qah (E:=encI) rfl (qdi (E:=encI) (ys:=[v]) rfl rfl rfl rfl) (qdr (E:=encI) (l:=k) rfl rfl rfl C rfl))) az))) ?_)
          obtain⟨a0,D,g23⟩:=bnd g23
          refine gr fol [4,5,6] (kB amount c f j e ((14,.gslice 3 w.length 1)::(kAB (w64 (o+a0)) g []))) (ac (iv qah encI n) (ac (lv 0 ce3 encI n rfl) (ac (cv (zV N b v D)) az))) ?_
          obtain rfl:=si g23
          exact⟨rfl,_,_,rfl,(Sub.norm [] [some 0,some 3] rfl rfl (.keep (.same nI) (.kp (.keep (.same (qf encI _)) (.keep (.same (qf encI _)) (.keep (.same nB) (.keep (.same nI) (.keep (.gslice rfl) (.keep (.same nI) (.keep (.same nI) .nil))))))))) (.kb rfl (.same sn) (.ks .nil)))⟩
         refine Goes.skip ?_
         obtain rfl:=si g23
         exact⟨rfl,_,_,rfl,(Sub.keep [3,4,10,11,12,13,14,15,16] rfl rfl)⟩
        rintro x s' ⟨rfl,p,u,rfl,hsub⟩
        try dsimp only at g19
        refine Goes.sub hsub ?_
        refine gh fol (kB amount c f j e (kAD p (kAB u (w64 (g+1)) []))) ?_
        exact⟨M,(ofG 87 (kB amount c f j e (kAD p (kAB u (w64 (g+1)) []))),(kA b.Day b.Lots b.Holds (kF p []))),Nat.lt_succ_self _,(Sub.refl _),_,_,_,rfl,g19⟩
       refine Goes.exit ?_
       obtain rfl:=si g19
       exact⟨rfl,_,_,rfl,(Sub.keep [3,4,10,11,12,13,14,15] rfl rfl)⟩
     rintro x s' ⟨rfl,d,A,rfl,hsub⟩
     try dsimp only at g13
     refine Goes.sub hsub ?_
     refine sq ?_
     obtain⟨a1,a,g13⟩:=bnd g13
     refine Goes.cut (s':=(ofG 87 (kB amount c f j e (kAD d [(82,.bool a1)])),(kA b.Day b.Lots b.Holds (kF d [])))) ?_ ?_
     ·rcases wyD a with⟨q,a⟩|⟨q,a⟩
      ·rcases wyB a with⟨y,a⟩|⟨y,a⟩
       ·obtain rfl:=si a
        exact tr fol [3,6] (kB amount c f j e (kAD d [(82,.bool true)])) (ac (gw q) (ac (gw y) az))
       rcases wyD a with⟨z,a⟩|⟨z,a⟩
       ·obtain rfl:=si a
        exact tr fol [3,6,13] (kB amount c f j e (kAD d [(82,.bool true)])) (ac (gw q) (ac (gw y) (ac (gw z) az)))
       rcases wyD a with⟨F,a⟩|⟨F,a⟩
       ·obtain⟨O,G,a⟩:=bnd a
        obtain rfl:=si a
        exact tr fol [3,6,13,19,22] (kB amount c f j e (kAD d [(82,.bool O)])) (ac (gw q) (ac (gw y) (ac (gw z) (ac (gw F) (ac (hs (.call 59 [.gslice 1 d.length 1,vl encI f] (kA b.Day b.Lots b.Holds (kF d [])) [1] [vl encI d,vl encI f] (.bool O)) (j3 (FzL.cons (Fz.gs (E:=encI) rfl rfl (nl rfl)) (FzL.cons (Ud (qz encI _ (nl rfl))) FzL.nil)) (qbW N d f G) tB rfl)) az)))))
       obtain rfl:=si a
       exact tr fol [3,6,13,19] (kB amount c f j e (kAD d [(82,.bool false)])) (ac (gw q) (ac (gw y) (ac (gw z) (ac (gw F) az))))
      obtain rfl:=si a
      exact tr fol [3] (kB amount c f j e (kAD d [(82,.bool false)])) (ac (gw q) az)
     refine ihB g13 (fun a2 g13=>?_) (fun a2 g13=>?_)
     ·refine sh fol (kAF amount ((10,vl encI c)::(kAV d [(13,.i e)]))) ?_
      refine gh fol (kAF amount ((10,vl encI c)::(kAV d [(12,.bool true),(13,.i e)]))) ?_
      obtain rfl:=si g13
      exact⟨rfl,_,_,rfl,(Sub.norm [1] [some 0] rfl rfl (.keep (.same nI) (.kp (.keep (.same (qf encI _)) (.keep (.frz (Fz.gs (E:=encI) rfl rfl (nl rfl)) (qf encI _)) (.keep (.same nB) (.keep (.same nI) .nil)))))) (.kb rfl (.same sn) .nil))⟩
     refine Goes.skip ?_
     obtain rfl:=si g13
     exact⟨rfl,_,_,rfl,(Sub.norm [] [some 0] rfl rfl (.keep (.same nI) (.kp (.keep (.same (qf encI _)) (.keep (.same (qf encI _)) (.keep (.same nB) (.keep (.same nI) .nil)))))) (.kb rfl (.same sn) .nil))⟩
    rintro x s' ⟨rfl,r,t,rfl,hsub⟩
    try dsimp only at g8
    refine Goes.sub hsub ?_
    refine gh fol (kB amount c r t (w64 (e+1)) []) ?_
    exact⟨M,(ofG 87 (kB amount c r t (w64 (e+1)) []),(kA b.Day b.Lots b.Holds [])),Nat.lt_succ_self _,(Sub.refl _),_,_,_,rfl,g8⟩
   refine Goes.exit ?_
   obtain rfl:=si g8
   exact⟨rfl,_,_,rfl,(Sub.norm [] [] rfl rfl (.drop (.drop (.drop (.keep (.same (qf encI _)) (.keep (.same nB) .nil))))) .nil)⟩
 rintro x s' ⟨rfl,H,P,rfl,hsub⟩
 try dsimp only at h
 refine Goes.sub hsub ?_
 refine sq ?_
 refine sh fol [(11,vl encI H),(85,.bool (!P))] ?_
 refine ihB h (fun a3 h=>?_) (fun a3 h=>?_)
 ·refine sh fol [(8,.nilslice),(9,.i 32)] ?_
  refine Goes.ret ?_
  obtain rfl:=si h
  exact(gw2 [.nilslice,.i 32] (FzW.tuple (zA.cons (FzW.nilv (E:=encI)) (zA.cons (Ua tI) zA.nil))))
 refine Goes.skip ?_
 refine sh fol [(8,vl encI H),(9,.i 0)] ?_
 refine Goes.ret ?_
 obtain rfl:=si h
 exact(gw2 [vl encI H,.i 0] (FzW.tuple (zA.cons (Ua (qz encI _ (nl rfl))) (zA.cons (Ua tI) zA.nil))))
def zo (a:List Int) (b:List Int):Nat->Int->Option (Unit⊕Bool)
 |0,_=>none
 |K+1,c=>
  if c<(a.length:Int)then
  (idx a c).bind fun d=>
  (idx b c).bind fun e=>
  if(!decide (d=e))=true then
  some (.inr false)
  else
  zo a b K (w64 (c+1))
  else
  some (.inl ())
def vo (N:Nat) (a:List Int) (b:List Int):Option Bool:=
 if(!decide ((a.length:Int)=(b.length:Int)))=true then
 some false
 else
 (zo a b N 0).bind (fun
 |(.inl ())=>
 some true
 |(.inr c)=>
 some c)
theorem xw (N:Nat) (a:List Int) (b:List Int) {res:Bool} (h:vo N a b=some res):qd ZT (.fn 19) [vl encI a,vl encI b] [] (.bool res) []:=by
 unfold vo at h
 refine Ub Tryz.func19 rfl rfl (m:=26) rfl (rs:=[.tmp 4]) rfl (l:=(kJ a b [])) rfl ?_
 refine sh fol (kJ a b []) ?_
 refine sq ?_
 refine sh fol (kJ a b [(10,.bool (!decide ((a.length:Int)=(b.length:Int))))]) ?_
 refine ihB h (fun j h=>?_) (fun j h=>?_)
 ·refine sh fol kAS ?_
  refine Goes.ret ?_
  obtain rfl:=si h
  exact(gw2 [.bool false] (Ua tB))
 refine Goes.skip ?_
 refine sq ?_
 refine sh fol (kJ a b [(5,.i 0)]) ?_
 refine Goes.block ?_
 obtain⟨f,g3,h⟩:=bnd h
 refine Goes.imp (Q:=fun x s'=>(x= .exit 0/\(.inl ())=f/\Sub s' (ofG 26 [],[]))\/(x= .ret/\ ∃g,(.inr g)=f/\zh ZT [.tmp 4] (.bool g) .ret s')) ?_ ?_
 ·refine Uc (fun M s=> ∃(c:Int),s=(ofG 26 (kJ a b (kAb c)),[])/\zo a b M c=some f) ?_ (m:=N) ⟨_,rfl,g3⟩
  rintro M s ⟨c,rfl,g3⟩
  cases M with
  |zero=>simp only[zo]at g3;cases g3
  |succ M=>
   rw[zo]at g3
   refine sq ?_
   refine sh fol (kJ a b [(5,.i c),(14,.bool (decide (c<(a.length:Int))))]) ?_
   refine ihD g3 (fun k g3=>?_) (fun k g3=>?_)
   ·refine Goes.skip ?_
    refine sq (Goes.block ?_)
    obtain⟨n,d,g3⟩:=bnd g3
    obtain⟨o,e,g3⟩:=bnd g3
    refine sq (gr fol [2,3,6,7] (kJ a b [(5,.i c),(25,.bool (!decide (n=o)))]) (ac (iv qah encI d) (ac (lv 0 ce3 encI d rfl) (ac (iv qah encI e) (ac (lv 0 ce3 encI e rfl) az)))) ?_)
    refine ihB g3 (fun p g3=>?_) (fun p g3=>?_)
    ·refine sh fol kAS ?_
     refine Goes.ret ?_
     obtain rfl:=si g3
     exact Or.inr (⟨rfl,_,rfl,(gw2 [.bool false] (Ua tB))⟩)
    refine Goes.skip ?_
    refine gh fol (kJ a b (kAb (w64 (c+1)))) ?_
    exact⟨M,(ofG 26 (kJ a b (kAb (w64 (c+1)))),[]),Nat.lt_succ_self _,(Sub.refl _),_,rfl,g3⟩
   refine Goes.exit ?_
   obtain rfl:=si g3
   exact Or.inl (⟨rfl,rfl,(Sub.keep [] rfl rfl)⟩)
 rintro x s' (⟨rfl,rfl,hsub⟩|⟨rfl,q,rfl,hret⟩)
 ·try dsimp only at h
  refine Goes.sub hsub ?_
  refine sh fol [(4,.bool true)] ?_
  refine Goes.ret ?_
  obtain rfl:=si h
  exact(gw2 [.bool true] (Ua tB))
 try dsimp only at h
 obtain rfl:=si h
 exact hret
end Go.Av
