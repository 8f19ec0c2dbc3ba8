/-
  Walks of functions: what each computes, as a plain function.
-/
import Derived.Test.YtcnioemfifogeaaGreatDoorQGenA1f3
noncomputable section
namespace Go.Av
open Go.Proofs Go.RowKit
set_option linter.unusedSectionVars false
set_option linter.unusedVariables false
set_option linter.unusedSimpArgs false
set_option maxRecDepth 100000
def qn8 (N:Nat) (a:StateT) (e:ky):Option (Int×Int):=
 (qeP N a).bind fun c=>
 (qju N e).bind fun d=>
 (qdH N ([c,d]:List Int)).bind fun b=>
 if(!decide (b=0))=true then
 some (0,b)
 else
 (qiw N a e).bind fun f=>
 some (f,0)
theorem qwe (N:Nat) (a:StateT) (e:ky) {res:Int×Int} (h:qn8 N a e=some res):qJ ZT (.fn 23) (kAE a.Day a.Lots a.Holds [.agg [.str e.Kind,.i e.Day,.str e.Lot,.i e.Amount,.str e.Yarn,.str e.Dye,.str e.Order]]) [] (.tuple [.i res.1,.i res.2]) []:=by
 unfold qn8 at h
 refine Uc Tryz.func23 rfl rfl (m:=19) rfl (rs:=[.tmp 4,.tmp 5]) rfl (l:=(kZ a.Day a.Lots a.Holds [(1,.agg [.str e.Kind,.i e.Day,.str e.Lot,.i e.Amount,.str e.Yarn,.str e.Dye,.str e.Order])])) rfl ?_
 refine sg fol (kN []) (kD a.Day a.Lots a.Holds (kF e.Kind e.Day e.Lot e.Amount e.Yarn e.Dye e.Order [])) ?_
 refine sq ?_
 obtain⟨j,c,h⟩:=bnd h
 obtain⟨k,d,h⟩:=bnd h
 obtain⟨b,f,h⟩:=bnd h
 refine sq (gq fol [1,3,5] (kN [(6,.i b)]) (kD a.Day a.Lots a.Holds (kF e.Kind e.Day e.Lot e.Amount e.Yarn e.Dye e.Order (kAO j k))) (ac (cv (qkL N a c)) (ac (cv (qsR N e d)) (ac (hs (.call 50 [.slice 2 0 2 2 1] (kD a.Day a.Lots a.Holds (kF e.Kind e.Day e.Lot e.Amount e.Yarn e.Dye e.Order (kAO j k))) [2] [vl encI ([j,k]:List Int)] (.i b)) (qe6 (FzL.cons (Fz.lit rfl rfl (Ue (AllST.cons tI (AllST.cons tI AllST.nil)))) FzL.nil) (qcv N ([j,k]:List Int) f) tI rfl)) az))) ?_)
 refine sh fol (kN [(6,.i b),(14,.bool (!decide (b=0)))]) ?_
 refine ihB h (fun o h=>?_) (fun o h=>?_)
 ·refine sh fol ((4,.i 0)::(kAn b)) ?_
  refine Goes.ret ?_
  obtain rfl:=si h
  exact(gw2 [.i 0,.i b] (FzW.tuple (jo.cons (Ub tI) (jo.cons (Ub tI) jo.nil))))
 refine Goes.skip ?_
 obtain⟨n,g,h⟩:=bnd h
 refine sq (gr fol [2] [(4,.i n),(5,.i 0)] (ac (cv (qr9 N a e g)) az) ?_)
 refine Goes.ret ?_
 obtain rfl:=si h
 exact(gw2 [.i n,.i 0] (FzW.tuple (jo.cons (Ub tI) (jo.cons (Ub tI) jo.nil))))
def qeq (a:qgM) (i:Int):Nat->Int->Int->Option Int
 |0,_,_=>none
 |K+1,b,c=>
  if c<(a.Holds.length:Int)then
  (((idx a.Holds c).bind fun e=>
  (idx a.Lots i).bind fun d=>
  if(e.Lot==d.Name)=true then
  some (w64 (b-e.Reserved))
  else
  some b:Option Int)).bind fun f=>
  qeq a i K f (w64 (c+1))
  else
  some b
def qhs (N:Nat) (a:qgM) (i:Int):Option Int:=
 (idx a.Lots i).bind fun b=>
 (qeq a i N b.Stock 0).bind fun c=>
 some c
theorem qnn (N:Nat) (a:qgM) (i:Int) {res:Int} (h:qhs N a i=some res):qJ ZT (.fn 35) (kAE a.Day a.Lots a.Holds [.i i]) [] (.i res) []:=by
 unfold qhs at h
 refine Uc Tryz.func35 rfl rfl (m:=42) rfl (rs:=[.tmp 4]) rfl (l:=(kZ a.Day a.Lots a.Holds [(1,.i i)])) rfl ?_
 refine sg fol ((1,.i i)::(kU [])) (kD a.Day a.Lots a.Holds []) ?_
 obtain⟨o,e,h⟩:=bnd h
 refine sq (gr fol [3,5] ((1,.i i)::(kU (kAn o.Stock))) (ac (iv qt3 qg e) (ac (lv 3 ce3 qg e rfl) az)) ?_)
 refine sq ?_
 refine sh fol ((1,.i i)::(kU [(5,.i o.Stock),(6,.i 0)])) ?_
 refine Goes.block ?_
 obtain⟨p,g5,h⟩:=bnd h
 refine Goes.imp (Q:=fun x s'=>(x= .exit 0/\ ∃g,g=p/\Sub s' (ofG 42 (kAn g),[]))) ?_ ?_
 ·refine Ud (fun M s=> ∃(f:Int) (d:Int),s=(ofG 42 ((1,.i i)::(kU (kAN f d))),(kD a.Day a.Lots a.Holds []))/\qeq a i M f d=some p) ?_ (m:=N) ⟨_,_,rfl,g5⟩
  rintro M s ⟨f,d,rfl,g5⟩
  cases M with
  |zero=>simp only[qeq]at g5;cases g5
  |succ M=>
   rw[qeq]at g5
   refine sq ?_
   refine sh fol ((1,.i i)::(kU [(5,.i f),(6,.i d),(17,.bool (decide (d<(a.Holds.length:Int))))])) ?_
   refine ihD g5 (fun r g5=>?_) (fun r g5=>?_)
   ·refine Goes.skip ?_
    refine sq ?_
    obtain⟨t,g8,g5⟩:=bnd g5
    refine Goes.imp (Q:=fun x s'=>(x= .normal/\ ∃j,j=t/\Sub s' (ofG 42 ((1,.i i)::(kU (kAN j d))),(kD a.Day a.Lots a.Holds [])))) ?_ ?_
    ·refine Goes.block ?_
     obtain⟨q,b,g8⟩:=bnd g8
     obtain⟨k,c,g8⟩:=bnd g8
     refine sq (gr fol [3,5,9,11] ((1,.i i)::(kU [(5,.i f),(6,.i d),(32,.bool (q.Lot==k.Name))])) (ac (iv qx7 qE b) (ac (lv 0 ce9 qE b rfl) (ac (iv qt3 qg c) (ac (lv 0 ce9 qg c rfl) az)))) ?_)
     refine ihB g8 (fun n g8=>?_) (fun n g8=>?_)
     ·refine gr fol [4,6] ((1,.i i)::(kU (kAN (w64 (f-q.Reserved)) d))) (ac (iv qx7 qE b) (ac (lv 2 ce3 qE b rfl) az)) ?_
      obtain rfl:=si g8
      exact⟨rfl,_,rfl,(Sub.refl _)⟩
     refine Goes.skip ?_
     obtain rfl:=si g8
     exact⟨rfl,_,rfl,(Sub.keep [1,2,5,6] rfl rfl)⟩
    rintro x s' ⟨rfl,j,rfl,hsub⟩
    refine Goes.sub hsub ?_
    refine gh fol ((1,.i i)::(kU (kAN j (w64 (d+1))))) ?_
    exact⟨M,(ofG 42 ((1,.i i)::(kU (kAN j (w64 (d+1))))),(kD a.Day a.Lots a.Holds [])),Nat.lt_succ_self _,(Sub.refl _),_,_,rfl,g5⟩
   refine Goes.exit ?_
   obtain rfl:=si g5
   exact⟨rfl,_,rfl,(Sub.norm [] [] rfl rfl (.drop (.drop (.keep (.same nI) .nil))) .nil)⟩
 rintro x s' ⟨rfl,g,rfl,hsub⟩
 refine Goes.sub hsub ?_
 refine sh fol (kAz g) ?_
 refine Goes.ret ?_
 obtain rfl:=si h
 exact(gw2 [.i g] (Ub tI))
def qk9 (n:Int) (least:Int) (most:Int):Option Bool:=
 (if n<least then
 some true
 else
 some (decide (n>most)):Option Bool).bind fun a=>
 some a
theorem qlA (n:Int) (least:Int) (most:Int) {res:Bool} (h:qk9 n least most=some res):qJ ZT (.fn 60) [.i n,.i least,.i most] [] (.bool res) []:=by
 unfold qk9 at h
 refine Uc Tryz.func60 rfl rfl (m:=15) rfl (rs:=[.tmp 6]) rfl (l:=((0,.i n)::(1,.i least)::(kA2 most))) rfl ?_
 refine sh fol ((0,.i n)::(1,.i least)::(kA2 most)) ?_
 refine sq ?_
 obtain⟨c,a,h⟩:=bnd h
 refine Goes.cut (s':=(ofG 15 [(6,.bool c)],[])) ?_ ?_
 ·rcases wyD a with⟨b,a⟩|⟨b,a⟩
  ·obtain rfl:=si a
   exact tr fol [3] [(6,.bool true)] (ac (gw b) az)
  obtain rfl:=si a
  exact tr fol [3] [(6,.bool (decide (n>most)))] (ac (gw b) az)
 refine Goes.ret ?_
 obtain rfl:=si h
 exact(gw2 [.bool c] (Ub tB))
def qgZ (c:Str):Nat->Int->Option (Unit⊕Bool)
 |0,_=>none
 |K+1,b=>
  if b<(c.length:Int)then
  (idx c b).bind fun a=>
  (if(a.toNat:Int)>=97 then
  if(a.toNat:Int)<=122 then
  some true
  else
  if(a.toNat:Int)>=65 then
  some (decide ((a.toNat:Int)<=90))
  else
  some false
  else
  if(a.toNat:Int)>=65 then
  some (decide ((a.toNat:Int)<=90))
  else
  some false:Option Bool).bind fun d=>
  (if(!d)=true then
  if b=0 then
  some true
  else
  if(a.toNat:Int)>=48 then
  if(a.toNat:Int)<=57 then
  some false
  else
  some (!(decide ((a.toNat:Int)=95)))
  else
  some (!(decide ((a.toNat:Int)=95)))
  else
  some false:Option Bool).bind fun e=>
  if e=true then
  some (.inr false)
  else
  qgZ c K (w64 (b+1))
  else
  some (.inl ())
def qg6 (N:Nat) (a:Str):Option Bool:=
 (if(a.length:Int)<1 then
 some true
 else
 some (decide ((a.length:Int)>24)):Option Bool).bind fun c=>
 if c=true then
 some false
 else
 (qgZ a N 0).bind (fun
 |(.inl ())=>
 some true
 |(.inr b)=>
 some b)
theorem qeN (N:Nat) (c:Str) {res:Bool} (h:qg6 N c=some res):qJ ZT (.fn 61) [.str c] [] (.bool res) []:=by
 unfold qg6 at h
 refine Uc Tryz.func61 rfl rfl (m:=56) rfl (rs:=[.tmp 2]) rfl (l:=[(0,.str c)]) rfl ?_
 refine sh fol [(0,.str c)] ?_
 refine sq ?_
 refine sq ?_
 obtain⟨B,e,h⟩:=bnd h
 refine Goes.cut (s':=(ofG 56 [(0,.str c),(13,.bool B)],[])) ?_ ?_
 ·rcases wyD e with⟨u,e⟩|⟨u,e⟩
  ·obtain rfl:=si e
   exact tr fol [3] [(0,.str c),(13,.bool true)] (ac (gw u) az)
  obtain rfl:=si e
  exact tr fol [3] [(0,.str c),(13,.bool (decide ((c.length:Int)>24)))] (ac (gw u) az)
 refine ihB h (fun C h=>?_) (fun C h=>?_)
 ·refine sh fol kAv ?_
  refine Goes.ret ?_
  obtain rfl:=si h
  exact(gw2 [.bool false] (Ub tB))
 refine Goes.skip ?_
 refine sq ?_
 refine sh fol [(0,.str c),(3,.i 0)] ?_
 refine Goes.block ?_
 obtain⟨v,g6,h⟩:=bnd h
 refine Goes.imp (Q:=fun x s'=>(x= .exit 0/\(.inl ())=v/\Sub s' (ofG 56 [],[]))\/(x= .ret/\ ∃A,(.inr A)=v/\qbg ZT [.tmp 2] (.bool A) .ret s')) ?_ ?_
 ·refine Ud (fun M s=> ∃(d:Int),s=(ofG 56 (kAj c d []),[])/\qgZ c M d=some v) ?_ (m:=N) ⟨_,rfl,g6⟩
  rintro M s ⟨d,rfl,g6⟩
  cases M with
  |zero=>simp only[qgZ]at g6;cases g6
  |succ M=>
   rw[qgZ]at g6
   refine sq ?_
   refine sh fol (kAj c d [(17,.bool (decide (d<(c.length:Int))))]) ?_
   refine ihD g6 (fun D g6=>?_) (fun D g6=>?_)
   ·refine Goes.skip ?_
    refine sq (Goes.block ?_)
    obtain⟨j,t,g6⟩:=bnd g6
    refine sq (gr fol [2] (kAj c d [(4,.int .u8 (j.toNat:Int))]) (ac (hs (.done (.opt (qsN ZT 9 (.str c) (.i d))) (.int .u8 (j.toNat:Int))) (qDB st9 t)) az) ?_)
    refine sq ?_
    obtain⟨w,a,g6⟩:=bnd g6
    refine Goes.cut (s':=(ofG 56 (kAj c d [(4,.int .u8 (j.toNat:Int)),(5,.bool w)]),[])) ?_ ?_
    ·rcases wyD a with⟨f,a⟩|⟨f,a⟩
     ·rcases wyD a with⟨n,a⟩|⟨n,a⟩
      ·obtain rfl:=si a
       exact tr fol [2,6] (kAj c d [(4,.int .u8 (j.toNat:Int)),(5,.bool true)]) (ac (gw f) (ac (gw n) az))
      rcases wyD a with⟨p,a⟩|⟨p,a⟩
      ·obtain rfl:=si a
       exact tr fol [2,6,9] (kAj c d [(4,.int .u8 (j.toNat:Int)),(5,.bool (decide ((j.toNat:Int)<=90)))]) (ac (gw f) (ac (gw n) (ac (gw p) az)))
      obtain rfl:=si a
      exact tr fol [2,6,9] (kAj c d [(4,.int .u8 (j.toNat:Int)),(5,.bool false)]) (ac (gw f) (ac (gw n) (ac (gw p) az)))
     rcases wyD a with⟨q,a⟩|⟨q,a⟩
     ·obtain rfl:=si a
      exact tr fol [2,9] (kAj c d [(4,.int .u8 (j.toNat:Int)),(5,.bool (decide ((j.toNat:Int)<=90)))]) (ac (gw f) (ac (gw q) az))
     obtain rfl:=si a
     exact tr fol [2,9] (kAj c d [(4,.int .u8 (j.toNat:Int)),(5,.bool false)]) (ac (gw f) (ac (gw q) az))
    refine sq ?_
    obtain⟨y,b,g6⟩:=bnd g6
    refine Goes.cut (s':=(ofG 56 (kAj c d [(55,.bool y)]),[])) ?_ ?_
    ·rcases wyB b with⟨g,b⟩|⟨g,b⟩
     ·rcases wyD b with⟨k,b⟩|⟨k,b⟩
      ·obtain rfl:=si b
       exact tr fol [2,5] (kAj c d [(55,.bool true)]) (ac (gw g) (ac (gw k) az))
      rcases wyD b with⟨o,b⟩|⟨o,b⟩
      ·rcases wyD b with⟨r,b⟩|⟨r,b⟩
       ·obtain rfl:=si b
        exact tr fol [2,5,8,12] (kAj c d [(55,.bool false)]) (ac (gw g) (ac (gw k) (ac (gw o) (ac (gw r) az))))
       obtain rfl:=si b
       exact tr fol [2,5,8,12] (kAj c d [(55,.bool (!(decide ((j.toNat:Int)=95))))]) (ac (gw g) (ac (gw k) (ac (gw o) (ac (gw r) az))))
      obtain rfl:=si b
      exact tr fol [2,5,8] (kAj c d [(55,.bool (!(decide ((j.toNat:Int)=95))))]) (ac (gw g) (ac (gw k) (ac (gw o) az)))
     obtain rfl:=si b
     exact tr fol [2] (kAj c d [(55,.bool false)]) (ac (gw g) az)
    refine ihB g6 (fun z g6=>?_) (fun z g6=>?_)
    ·refine sh fol kAv ?_
     refine Goes.ret ?_
     obtain rfl:=si g6
     exact Or.inr (⟨rfl,_,rfl,(gw2 [.bool false] (Ub tB))⟩)
    refine Goes.skip ?_
    refine gh fol (kAj c (w64 (d+1)) []) ?_
    exact⟨M,(ofG 56 (kAj c (w64 (d+1)) []),[]),Nat.lt_succ_self _,(Sub.refl _),_,rfl,g6⟩
   refine Goes.exit ?_
   obtain rfl:=si g6
   exact Or.inl (⟨rfl,rfl,(Sub.keep [] rfl rfl)⟩)
 rintro x s' (⟨rfl,rfl,hsub⟩|⟨rfl,E,rfl,hret⟩)
 ·try dsimp only at h
  refine Goes.sub hsub ?_
  refine sh fol [(2,.bool true)] ?_
  refine Goes.ret ?_
  obtain rfl:=si h
  exact(gw2 [.bool true] (Ub tB))
 try dsimp only at h
 obtain rfl:=si h
 exact hret
def qlh (N:Nat) (a:Str):Option Bool:=
 (if(a==[])=true then
 some true
 else
 (qg6 N a).bind fun b=>
 some b:Option Bool).bind fun c=>
 some c
theorem qrs (N:Nat) (b:Str) {res:Bool} (h:qlh N b=some res):qJ ZT (.fn 62) [.str b] [] (.bool res) []:=by
 unfold qlh at h
 refine Uc Tryz.func62 rfl rfl (m:=9) rfl (rs:=[.tmp 2]) rfl (l:=[(0,.str b)]) rfl ?_
 refine sh fol [(0,.str b)] ?_
 refine sq ?_
 obtain⟨e,a,h⟩:=bnd h
 refine Goes.cut (s':=(ofG 9 (kAi e),[])) ?_ ?_
 ·rcases wyB a with⟨d,a⟩|⟨d,a⟩
  ·obtain rfl:=si a
   exact tr fol [2] [(2,.bool true)] (ac (gw d) az)
  obtain⟨f,c,a⟩:=bnd a
  obtain rfl:=si a
  exact tr fol [2,4] (kAi f) (ac (gw d) (ac (cv (qeN N b c)) az))
 refine Goes.ret ?_
 obtain rfl:=si h
 exact(gw2 [.bool e] (Ub tB))
def qbf (b:qgM) (name:Str):Nat->Int->Option (Unit⊕Int)
 |0,_=>none
 |K+1,a=>
  if a<(b.Lots.length:Int)then
  (idx b.Lots a).bind fun c=>
  if(c.Name==name)=true then
  some (.inr a)
  else
  qbf b name K (w64 (a+1))
  else
  some (.inl ())
def qhW (N:Nat) (a:qgM) (name:Str):Option Int:=
 (qbf a name N 0).bind (fun
 |(.inl ())=>
 some (-1)
 |(.inr b)=>
 some b)
theorem qrB (N:Nat) (a:qgM) (name:Str) {res:Int} (h:qhW N a name=some res):qJ ZT (.fn 63) (kAE a.Day a.Lots a.Holds [.str name]) [] (.i res) []:=by
 unfold qhW at h
 refine Uc Tryz.func63 rfl rfl (m:=22) rfl (rs:=[.tmp 4]) rfl (l:=(kZ a.Day a.Lots a.Holds [(1,.str name)])) rfl ?_
 refine sg fol ((1,.str name)::(kU [])) (kD a.Day a.Lots a.Holds []) ?_
 refine sq ?_
 refine sh fol ((1,.str name)::(kU [(5,.i 0)])) ?_
 refine Goes.block ?_
 obtain⟨d,g2,h⟩:=bnd h
 refine Goes.imp (Q:=fun x s'=>(x= .exit 0/\(.inl ())=d/\Sub s' (ofG 22 [],[]))\/(x= .ret/\ ∃e,(.inr e)=d/\qbg ZT [.tmp 4] (.i e) .ret s')) ?_ ?_
 ·refine Ud (fun M s=> ∃(b:Int),s=(ofG 22 ((1,.str name)::(kU (kAn b))),(kD a.Day a.Lots a.Holds []))/\qbf a name M b=some d) ?_ (m:=N) ⟨_,rfl,g2⟩
  rintro M s ⟨b,rfl,g2⟩
  cases M with
  |zero=>simp only[qbf]at g2;cases g2
  |succ M=>
   rw[qbf]at g2
   refine sq ?_
   refine sh fol ((1,.str name)::(kU [(5,.i b),(10,.bool (decide (b<(a.Lots.length:Int))))])) ?_
   refine ihD g2 (fun f g2=>?_) (fun f g2=>?_)
   ·refine Goes.skip ?_
    refine sq (Goes.block ?_)
    obtain⟨g,c,g2⟩:=bnd g2
    refine sq (gr fol [3,5] ((1,.str name)::(kU [(5,.i b),(20,.bool (g.Name==name))])) (ac (iv qt3 qg c) (ac (lv 0 ce9 qg c rfl) az)) ?_)
    refine ihB g2 (fun j g2=>?_) (fun j g2=>?_)
    ·refine sh fol (kAz b) ?_
     refine Goes.ret ?_
     obtain rfl:=si g2
     exact Or.inr (⟨rfl,_,rfl,(gw2 [.i b] (Ub tI))⟩)
    refine Goes.skip ?_
    refine gh fol ((1,.str name)::(kU (kAn (w64 (b+1))))) ?_
    exact⟨M,(ofG 22 ((1,.str name)::(kU (kAn (w64 (b+1))))),(kD a.Day a.Lots a.Holds [])),Nat.lt_succ_self _,(Sub.refl _),_,rfl,g2⟩
   refine Goes.exit ?_
   obtain rfl:=si g2
   exact Or.inl (⟨rfl,rfl,(Sub.norm [] [] rfl rfl .nil .nil)⟩)
 rintro x s' (⟨rfl,rfl,hsub⟩|⟨rfl,k,rfl,hret⟩)
 ·try dsimp only at h
  refine Goes.sub hsub ?_
  refine sh fol kAp ?_
  refine Goes.ret ?_
  obtain rfl:=si h
  exact(gw2 [.i (-1)] (Ub tI))
 try dsimp only at h
 obtain rfl:=si h
 exact hret
def qk4 (a:qG) (b:qG):Option Bool:=
 (if(!(ltL a.Lot b.Lot||a.Lot==b.Lot))=true then
 some true
 else
 if(a.Lot==b.Lot)=true then
 some (!(ltL a.Order b.Order||a.Order==b.Order))
 else
 some false:Option Bool).bind fun c=>
 some c
theorem qvF (a:qG) (b:qG) {res:Bool} (h:qk4 a b=some res):qJ ZT (.fn 64) (kAM a.Lot a.Order a.Reserved a.Taken (kAM b.Lot b.Order b.Reserved b.Taken [])) [] (.bool res) []:=by
 unfold qk4 at h
 refine Uc Tryz.func64 rfl rfl (m:=24) rfl (rs:=[.tmp 4]) rfl (l:=(kA8 a.Lot a.Order a.Reserved a.Taken [(1,.agg [.str b.Lot,.str b.Order,.i b.Reserved,.i b.Taken])])) rfl ?_
 refine sg fol (kN []) (kL a.Lot a.Order a.Reserved a.Taken (kL b.Lot b.Order b.Reserved b.Taken [])) ?_
 refine sq ?_
 obtain⟨f,c,h⟩:=bnd h
 refine Goes.cut (s':=(ofG 24 (kA1 f),(kL a.Lot a.Order a.Reserved a.Taken (kL b.Lot b.Order b.Reserved b.Taken [])))) ?_ ?_
 ·rcases wyB c with⟨d,c⟩|⟨d,c⟩
  ·obtain rfl:=si c
   exact tr fol [5] kAy (ac (gw d) az)
  rcases wyB c with⟨e,c⟩|⟨e,c⟩
  ·obtain rfl:=si c
   exact tr fol [5,11] (kA1 (!(ltL a.Order b.Order||a.Order==b.Order))) (ac (gw d) (ac (gw e) az))
  obtain rfl:=si c
  exact tr fol [5,11] kAf (ac (gw d) (ac (gw e) az))
 refine Goes.ret ?_
 obtain rfl:=si h
 exact(gw2 [.bool f] (Ub tB))
def qd8 (N:Nat) (d:qgM):Nat->Int->Option (Unit⊕Int)
 |0,_=>none
 |K+1,b=>
  if b<(d.Lots.length:Int)then
  (idx d.Lots b).bind fun a=>
  ((qg6 N a.Name).bind fun j=>
  if(!j)=true then
  some true
  else
  (qg6 N a.Yarn).bind fun e=>
  if(!e)=true then
  some true
  else
  (qlh N a.Dye).bind fun f=>
  some (!f):Option Bool).bind fun g=>
  if g=true then
  some (.inr 8)
  else
  (if b>0 then
  (idx d.Lots (w64 (b-1))).bind fun c=>
  some (ltL a.Name c.Name||a.Name==c.Name)
  else
  some false:Option Bool).bind fun h=>
  if h=true then
  some (.inr 11)
  else
  (qk9 a.Stock 0 999999999).bind fun i=>
  if i=true then
  some (.inr 3)
  else
  qd8 N d K (w64 (b+1))
  else
  some (.inl ())
def qet (N:Nat) (c:qgM):Nat->Int->Option (Unit⊕Int)
 |0,_=>none
 |K+1,b=>
  if b<(c.Holds.length:Int)then
  (idx c.Holds b).bind fun a=>
  (qhW N c a.Lot).bind fun d=>
  if d<0 then
  some (.inr 10)
  else
  (qg6 N a.Order).bind fun e=>
  if(!e)=true then
  some (.inr 8)
  else
  (if b>0 then
  (idx c.Holds (w64 (b-1))).bind fun f=>
  (qk4 a f).bind fun g=>
  some (!g)
  else
  some false:Option Bool).bind fun h=>
  if h=true then
  some (.inr 11)
  else
  ((qk9 a.Reserved 0 999999999).bind fun i=>
  if i=true then
  some true
  else
  (qk9 a.Taken 0 999999999).bind fun j=>
  some j:Option Bool).bind fun k=>
  if k=true then
  some (.inr 3)
  else
  (if a.Reserved=0 then
  some (decide (a.Taken=0))
  else
  some false:Option Bool).bind fun l=>
  if l=true then
  some (.inr 6)
  else
  qet N c K (w64 (b+1))
  else
  some (.inl ())
def qba (N:Nat) (b:qgM):Nat->Int->Option (Unit⊕Int)
 |0,_=>none
 |K+1,a=>
  if a<(b.Lots.length:Int)then
  (qhs N b a).bind fun c=>
  if c<0 then
  some (.inr 32)
  else
  qba N b K (w64 (a+1))
  else
  some (.inl ())
def qhr (N:Nat) (a:qgM):Option Int:=
 (qk9 a.Day 0 99999).bind fun e=>
 if e=true then
 some 3
 else
 if(a.Lots.length:Int)>64 then
 some 5
 else
 (qd8 N a N 0).bind (fun
 |(.inl ())=>
 if(a.Holds.length:Int)>256 then
 some 5
 else
 (qet N a N 0).bind (fun
 |(.inl ())=>
 (qba N a N 0).bind (fun
 |(.inl ())=>
 some 0
 |(.inr b)=>
 some b)
 |(.inr c)=>
 some c)
 |(.inr d)=>
 some d)
theorem qiq (N:Nat) (a:qgM) {res:Int} (h:qhr N a=some res):qJ ZT (.fn 25) [.agg (kE a.Day a.Lots a.Holds)] [] (.i res) []:=by
 unfold qhr at h
 refine Uc Tryz.func25 rfl rfl (m:=125) rfl (rs:=[.tmp 2]) rfl (l:=(kZ a.Day a.Lots a.Holds [])) rfl ?_
 refine sg fol (kAA []) (kD a.Day a.Lots a.Holds []) ?_
 refine sq ?_
 obtain⟨r1,P,h⟩:=bnd h
 refine sq (gr fol [2] (kAA [(10,.bool r1)]) (ac (cv (qlA a.Day 0 99999 P)) az) ?_)
 refine ihB h (fun c2 h=>?_) (fun c2 h=>?_)
 ·refine sh fol [(2,.i 3)] ?_
  refine Goes.ret ?_
  obtain rfl:=si h
  exact(gw2 [.i 3] (Ub tI))
 refine Goes.skip ?_
 refine sq ?_
 refine sh fol (kAA [(14,.bool (decide ((a.Lots.length:Int)>64)))]) ?_
 refine ihD h (fun c3 h=>?_) (fun c3 h=>?_)
 ·refine sh fol [(2,.i 5)] ?_
  refine Goes.ret ?_
  obtain rfl:=si h
  exact(gw2 [.i 5] (Ub tI))
 refine Goes.skip ?_
 refine sq ?_
 refine sh fol (kAA [(3,.i 0)]) ?_
 refine Goes.block ?_
 obtain⟨W,g5,h⟩:=bnd h
 refine Goes.imp (Q:=fun x s'=>(x= .exit 0/\(.inl ())=W/\Sub s' (ofG 125 (kAA []),(kD a.Day a.Lots a.Holds [])))\/(x= .ret/\ ∃q6,(.inr q6)=W/\qbg ZT [.tmp 2] (.i q6) .ret s')) ?_ ?_
 ·refine Ud (fun M s=> ∃(o:Int),s=(ofG 125 (kAA [(3,.i o)]),(kD a.Day a.Lots a.Holds []))/\qd8 N a M o=some W) ?_ (m:=N) ⟨_,rfl,g5⟩
  rintro M s ⟨o,rfl,g5⟩
  cases M with
  |zero=>simp only[qd8]at g5;cases g5
  |succ M=>
   rw[qd8]at g5
   refine sq ?_
   refine sh fol (kAA [(3,.i o),(19,.bool (decide (o<(a.Lots.length:Int))))]) ?_
   refine ihD g5 (fun c7 g5=>?_) (fun c7 g5=>?_)
   ·refine Goes.skip ?_
    refine sq (Goes.block ?_)
    obtain⟨k,y,g5⟩:=bnd g5
    refine sq (gq fol [3,4] (kAA ((3,.i o)::kAZ)) (kD a.Day a.Lots a.Holds (kR k.Name k.Yarn k.Dye k.Stock [])) (ac (iv qt3 qg y) (ac (la ag84 qg y) az)) ?_)
    refine sq ?_
    refine sq ?_
    obtain⟨X,b,g5⟩:=bnd g5
    refine Goes.cut (s':=(ofG 125 (kAA (kA9 o [(42,.bool X)])),(kD a.Day a.Lots a.Holds (kR k.Name k.Yarn k.Dye k.Stock [])))) ?_ ?_
    ·obtain⟨r9,p,b⟩:=bnd b
     rcases wyB b with⟨w,b⟩|⟨w,b⟩
     ·obtain rfl:=si b
      exact tr fol [2,4] (kAA (kA9 o kA4)) (ac (cv (qeN N k.Name p)) (ac (gw w) az))
     obtain⟨r11,q,b⟩:=bnd b
     rcases wyB b with⟨z,b⟩|⟨z,b⟩
     ·obtain rfl:=si b
      exact tr fol [2,4,7,10] (kAA (kA9 o kA4)) (ac (cv (qeN N k.Name p)) (ac (gw w) (ac (cv (qeN N k.Yarn q)) (ac (gw z) az))))
     obtain⟨Y,A,b⟩:=bnd b
     obtain rfl:=si b
     exact tr fol [2,4,7,10,13] (kAA (kA9 o [(42,.bool (!Y))])) (ac (cv (qeN N k.Name p)) (ac (gw w) (ac (cv (qeN N k.Yarn q)) (ac (gw z) (ac (cv (qrs N k.Dye A)) az)))))
    refine ihB g5 (fun Z g5=>?_) (fun Z g5=>?_)
    ·refine sh fol [(2,.i 8)] ?_
     refine Goes.ret ?_
     obtain rfl:=si g5
     exact Or.inr (⟨rfl,_,rfl,(gw2 [.i 8] (Ub tI))⟩)
    refine Goes.skip ?_
    refine sq ?_
    refine sq ?_
    obtain⟨a0,g,g5⟩:=bnd g5
    refine Goes.cut (s':=(ofG 125 (kAA (kA9 o [(56,.bool a0)])),(kD a.Day a.Lots a.Holds (kR k.Name k.Yarn k.Dye k.Stock [])))) ?_ ?_
    ·rcases wyD g with⟨B,g⟩|⟨B,g⟩
     ·obtain⟨T,r,g⟩:=bnd g
      obtain rfl:=si g
      exact tr fol [2,9,11] (kAA (kA9 o [(56,.bool (ltL k.Name T.Name||k.Name==T.Name))])) (ac (gw B) (ac (iv qt3 qg r) (ac (lv 0 ce9 qg r rfl) az)))
     obtain rfl:=si g
     exact tr fol [2] (kAA (kA9 o [(56,.bool false)])) (ac (gw B) az)
    refine ihB g5 (fun a1 g5=>?_) (fun a1 g5=>?_)
    ·refine sh fol [(2,.i 11)] ?_
     refine Goes.ret ?_
     obtain rfl:=si g5
     exact Or.inr (⟨rfl,_,rfl,(gw2 [.i 11] (Ub tI))⟩)
    refine Goes.skip ?_
    obtain⟨a2,C,g5⟩:=bnd g5
    refine sq (gr fol [2] (kAA [(3,.i o),(59,.bool a2)]) (ac (cv (qlA k.Stock 0 999999999 C)) az) ?_)
    refine ihB g5 (fun a3 g5=>?_) (fun a3 g5=>?_)
    ·refine sh fol [(2,.i 3)] ?_
     refine Goes.ret ?_
     obtain rfl:=si g5
     exact Or.inr (⟨rfl,_,rfl,(gw2 [.i 3] (Ub tI))⟩)
    refine Goes.skip ?_
    refine gh fol (kAA [(3,.i (w64 (o+1)))]) ?_
    exact⟨M,(ofG 125 (kAA [(3,.i (w64 (o+1)))]),(kD a.Day a.Lots a.Holds [])),Nat.lt_succ_self _,(Sub.norm [] [some 0] rfl rfl (.kp (.keep (.same nI) .nil)) (.kb rfl (.same sn) .nil)),_,rfl,g5⟩
   refine Goes.exit ?_
   obtain rfl:=si g5
   exact Or.inl (⟨rfl,rfl,(Sub.keep [1] rfl rfl)⟩)
 rintro x s' (⟨rfl,rfl,hsub⟩|⟨rfl,q58,rfl,hret⟩)
 ·try dsimp only at h
  refine Goes.sub hsub ?_
  refine sq ?_
  refine sh fol (kAA [(63,.bool (decide ((a.Holds.length:Int)>256)))]) ?_
  refine ihD h (fun a4 h=>?_) (fun a4 h=>?_)
  ·refine sh fol [(2,.i 5)] ?_
   refine Goes.ret ?_
   obtain rfl:=si h
   exact(gw2 [.i 5] (Ub tI))
  refine Goes.skip ?_
  refine sq ?_
  refine sh fol (kAA [(5,.i 0)]) ?_
  refine Goes.block ?_
  obtain⟨D,g26,h⟩:=bnd h
  refine Goes.imp (Q:=fun x s'=>(x= .exit 2/\(.inl ())=D/\Sub s' (ofG 125 (kAA []),(kD a.Day a.Lots a.Holds [])))\/(x= .ret/\ ∃U,(.inr U)=D/\qbg ZT [.tmp 2] (.i U) .ret s')) ?_ ?_
  ·refine Ud (fun M s=> ∃(d:Int),s=(ofG 125 (kAA (kAn d)),(kD a.Day a.Lots a.Holds []))/\qet N a M d=some D) ?_ (m:=N) ⟨_,rfl,g26⟩
   rintro M s ⟨d,rfl,g26⟩
   cases M with
   |zero=>simp only[qet]at g26;cases g26
   |succ M=>
    rw[qet]at g26
    refine sq ?_
    refine sh fol (kAA [(5,.i d),(68,.bool (decide (d<(a.Holds.length:Int))))]) ?_
    refine ihD g26 (fun a5 g26=>?_) (fun a5 g26=>?_)
    ·refine Goes.skip ?_
     refine sq (Goes.block ?_)
     obtain⟨c,t,g26⟩:=bnd g26
     refine sq (gq fol [3,4] (kAA (kAs d [])) (kD a.Day a.Lots a.Holds (kL c.Lot c.Order c.Reserved c.Taken [])) (ac (iv qx7 qE t) (ac (la qDd qE t) az)) ?_)
     refine sq ?_
     obtain⟨a6,E,g26⟩:=bnd g26
     refine sq (gr fol [3] (kAA (kAs d [(80,.bool (decide (a6<0)))])) (ac (cv (qrB N a c.Lot E)) az) ?_)
     refine ihD g26 (fun a7 g26=>?_) (fun a7 g26=>?_)
     ·refine sh fol [(2,.i 10)] ?_
      refine Goes.ret ?_
      obtain rfl:=si g26
      exact Or.inr (⟨rfl,_,rfl,(gw2 [.i 10] (Ub tI))⟩)
     refine Goes.skip ?_
     refine sq ?_
     obtain⟨a8,F,g26⟩:=bnd g26
     refine sq (gr fol [2] (kAA (kAs d [(84,.bool (!a8))])) (ac (cv (qeN N c.Order F)) az) ?_)
     refine ihB g26 (fun a9 g26=>?_) (fun a9 g26=>?_)
     ·refine sh fol [(2,.i 8)] ?_
      refine Goes.ret ?_
      obtain rfl:=si g26
      exact Or.inr (⟨rfl,_,rfl,(gw2 [.i 8] (Ub tI))⟩)
     refine Goes.skip ?_
     refine sq ?_
     refine sq ?_
     obtain⟨b0,e,g26⟩:=bnd g26
     refine Goes.cut (s':=(ofG 125 (kAA (kAs d [(97,.bool b0)])),(kD a.Day a.Lots a.Holds (kL c.Lot c.Order c.Reserved c.Taken [])))) ?_ ?_
     ·rcases wyD e with⟨G,e⟩|⟨G,e⟩
      ·obtain⟨b1,u,e⟩:=bnd e
       obtain⟨b2,H,e⟩:=bnd e
       obtain rfl:=si e
       exact tr fol [2,8,9,10] (kAA (kAs d [(97,.bool (!b2))])) (ac (gw G) (ac (iv qx7 qE u) (ac (la qDd qE u) (ac (cv (qvF c b1 H)) az))))
      obtain rfl:=si e
      exact tr fol [2] (kAA (kAs d [(97,.bool false)])) (ac (gw G) az)
     refine ihB g26 (fun b3 g26=>?_) (fun b3 g26=>?_)
     ·refine sh fol [(2,.i 11)] ?_
      refine Goes.ret ?_
      obtain rfl:=si g26
      exact Or.inr (⟨rfl,_,rfl,(gw2 [.i 11] (Ub tI))⟩)
     refine Goes.skip ?_
     refine sq ?_
     refine sq ?_
     obtain⟨b4,f,g26⟩:=bnd g26
     refine Goes.cut (s':=(ofG 125 (kAA (kAs d [(105,.bool b4)])),(kD a.Day a.Lots a.Holds (kL c.Lot c.Order c.Reserved c.Taken [])))) ?_ ?_
     ·obtain⟨r40,v,f⟩:=bnd f
      rcases wyB f with⟨I,f⟩|⟨I,f⟩
      ·obtain rfl:=si f
       exact tr fol [2,3] (kAA (kAs d [(105,.bool true)])) (ac (cv (qlA c.Reserved 0 999999999 v)) (ac (gw I) az))
      obtain⟨b5,J,f⟩:=bnd f
      obtain rfl:=si f
      exact tr fol [2,3,6] (kAA (kAs d [(105,.bool b5)])) (ac (cv (qlA c.Reserved 0 999999999 v)) (ac (gw I) (ac (cv (qlA c.Taken 0 999999999 J)) az)))
     refine ihB g26 (fun b6 g26=>?_) (fun b6 g26=>?_)
     ·refine sh fol [(2,.i 3)] ?_
      refine Goes.ret ?_
      obtain rfl:=si g26
      exact Or.inr (⟨rfl,_,rfl,(gw2 [.i 3] (Ub tI))⟩)
     refine Goes.skip ?_
     refine sq ?_
     obtain⟨b7,j,g26⟩:=bnd g26
     refine Goes.cut (s':=(ofG 125 (kAA [(5,.i d),(113,.bool b7)]),(kD a.Day a.Lots a.Holds (kL c.Lot c.Order c.Reserved c.Taken [])))) ?_ ?_
     ·rcases wyD j with⟨K,j⟩|⟨K,j⟩
      ·obtain rfl:=si j
       exact tr fol [3] (kAA [(5,.i d),(113,.bool (decide (c.Taken=0)))]) (ac (gw K) az)
      obtain rfl:=si j
      exact tr fol [3] (kAA [(5,.i d),(113,.bool false)]) (ac (gw K) az)
     refine ihB g26 (fun b8 g26=>?_) (fun b8 g26=>?_)
     ·refine sh fol [(2,.i 6)] ?_
      refine Goes.ret ?_
      obtain rfl:=si g26
      exact Or.inr (⟨rfl,_,rfl,(gw2 [.i 6] (Ub tI))⟩)
     refine Goes.skip ?_
     refine gh fol (kAA (kAn (w64 (d+1)))) ?_
     exact⟨M,(ofG 125 (kAA (kAn (w64 (d+1)))),(kD a.Day a.Lots a.Holds [])),Nat.lt_succ_self _,(Sub.norm [] [some 0] rfl rfl (.kp (.keep (.same nI) .nil)) (.kb rfl (.same sn) .nil)),_,rfl,g26⟩
    refine Goes.exit ?_
    obtain rfl:=si g26
    exact Or.inl (⟨rfl,rfl,(Sub.keep [1] rfl rfl)⟩)
  rintro x s' (⟨rfl,rfl,hsub⟩|⟨rfl,q57,rfl,hret⟩)
  ·try dsimp only at h
   refine Goes.sub hsub ?_
   refine sq ?_
   refine sh fol (kAA [(7,.i 0)]) ?_
   refine Goes.block ?_
   obtain⟨L,g51,h⟩:=bnd h
   refine Goes.imp (Q:=fun x s'=>(x= .exit 4/\(.inl ())=L/\Sub s' (ofG 125 [],[]))\/(x= .ret/\ ∃V,(.inr V)=L/\qbg ZT [.tmp 2] (.i V) .ret s')) ?_ ?_
   ·refine Ud (fun M s=> ∃(n:Int),s=(ofG 125 (kAA [(7,.i n)]),(kD a.Day a.Lots a.Holds []))/\qba N a M n=some L) ?_ (m:=N) ⟨_,rfl,g51⟩
    rintro M s ⟨n,rfl,g51⟩
    cases M with
    |zero=>simp only[qba]at g51;cases g51
    |succ M=>
     rw[qba]at g51
     refine sq ?_
     refine sh fol (kAA [(7,.i n),(118,.bool (decide (n<(a.Lots.length:Int))))]) ?_
     refine ihD g51 (fun b9 g51=>?_) (fun b9 g51=>?_)
     ·refine Goes.skip ?_
      refine sq (Goes.block ?_)
      obtain⟨c0,O,g51⟩:=bnd g51
      refine sq (gr fol [2] (kAA [(7,.i n),(124,.bool (decide (c0<0)))]) (ac (cv (qnn N a n O)) az) ?_)
      refine ihD g51 (fun c1 g51=>?_) (fun c1 g51=>?_)
      ·refine sh fol [(2,.i 32)] ?_
       refine Goes.ret ?_
       obtain rfl:=si g51
       exact Or.inr (⟨rfl,_,rfl,(gw2 [.i 32] (Ub tI))⟩)
      refine Goes.skip ?_
      refine gh fol (kAA [(7,.i (w64 (n+1)))]) ?_
      exact⟨M,(ofG 125 (kAA [(7,.i (w64 (n+1)))]),(kD a.Day a.Lots a.Holds [])),Nat.lt_succ_self _,(Sub.refl _),_,rfl,g51⟩
     refine Goes.exit ?_
     obtain rfl:=si g51
     exact Or.inl (⟨rfl,rfl,(Sub.norm [] [] rfl rfl .nil .nil)⟩)
   rintro x s' (⟨rfl,rfl,hsub⟩|⟨rfl,q56,rfl,hret⟩)
   ·try dsimp only at h
    refine Goes.sub hsub ?_
    refine sh fol [(2,.i 0)] ?_
    refine Goes.ret ?_
    obtain rfl:=si h
    exact(gw2 [.i 0] (Ub tI))
   try dsimp only at h
   obtain rfl:=si h
   exact hret
  try dsimp only at h
  obtain rfl:=si h
  exact hret
 try dsimp only at h
 obtain rfl:=si h
 exact hret
def qpH (N:Nat) (a:StateT) (lot:Str):Option (Int×Int):=
 (qeP N a).bind fun b=>
 if(!decide (b=0))=true then
 some (0,b)
 else
 (qfa N a lot).bind fun c=>
 if(!c.2)=true then
 some (0,10)
 else
 (idx a.Lots c.1).bind fun d=>
 (qbI N a d).bind fun e=>
 some (e,0)
theorem qw7 (N:Nat) (a:StateT) (lot:Str) {res:Int×Int} (h:qpH N a lot=some res):qJ ZT (.fn 31) (kAE a.Day a.Lots a.Holds [.str lot]) [] (.tuple [.i res.1,.i res.2]) []:=by
 unfold qpH at h
 refine Uc Tryz.func31 rfl rfl (m:=29) rfl (rs:=[.tmp 4,.tmp 5]) rfl (l:=(kZ a.Day a.Lots a.Holds [(1,.str lot)])) rfl ?_
 refine sg fol ((1,.str lot)::(kU [])) (kD a.Day a.Lots a.Holds []) ?_
 refine sq ?_
 obtain⟨c,d,h⟩:=bnd h
 refine sq (gr fol [1] ((1,.str lot)::(kU [(6,.i c)])) (ac (cv (qkL N a d)) az) ?_)
 refine sh fol ((1,.str lot)::(kU [(6,.i c),(12,.bool (!decide (c=0)))])) ?_
 refine ihB h (fun k h=>?_) (fun k h=>?_)
 ·refine sh fol ((4,.i 0)::(kAn c)) ?_
  refine Goes.ret ?_
  obtain rfl:=si h
  exact(gw2 [.i 0,.i c] (FzW.tuple (jo.cons (Ub tI) (jo.cons (Ub tI) jo.nil))))
 refine Goes.skip ?_
 obtain⟨g,e,h⟩:=bnd h
 refine sq (gr fol [2] (kU [(7,.i g.1),(8,.bool g.2)]) (ac (cv (qlP N a lot e)) az) ?_)
 refine sq ?_
 refine sh fol (kU [(7,.i g.1),(21,.bool (!g.2))]) ?_
 refine ihB h (fun n h=>?_) (fun n h=>?_)
 ·refine sh fol [(4,.i 0),(5,.i 10)] ?_
  refine Goes.ret ?_
  obtain rfl:=si h
  exact(gw2 [.i 0,.i 10] (FzW.tuple (jo.cons (Ub tI) (jo.cons (Ub tI) jo.nil))))
 refine Goes.skip ?_
 obtain⟨o,b,h⟩:=bnd h
 obtain⟨j,f,h⟩:=bnd h
 refine sq (gr fol [4,5,6] [(4,.i j),(5,.i 0)] (ac (iv qoB qg b) (ac (la qvb qg b) (ac (cv (qeS N a o f)) az))) ?_)
 refine Goes.ret ?_
 obtain rfl:=si h
 exact(gw2 [.i j,.i 0] (FzW.tuple (jo.cons (Ub tI) (jo.cons (Ub tI) jo.nil))))
def qlY (holds:Bool) (e:Int):Option Int:=
 if holds=true then
 some e
 else
 some 0
theorem qsz (holds:Bool) (e:Int) {res:Int} (h:qlY holds e=some res):qJ ZT (.fn 15) [.bool holds,.i e] [] (.i res) []:=by
 unfold qlY at h
 refine Uc Tryz.func15 rfl rfl (m:=7) rfl (rs:=[.tmp 4]) rfl (l:=[(0,.bool holds),(1,.i e)]) rfl ?_
 refine sh fol [(0,.bool holds),(1,.i e)] ?_
 refine sq ?_
 refine sh fol [(1,.i e),(5,.bool holds)] ?_
 refine ihB h (fun a h=>?_) (fun a h=>?_)
 ·refine sh fol (kAz e) ?_
  refine Goes.ret ?_
  obtain rfl:=si h
  exact(gw2 [.i e] (Ub tI))
 refine Goes.skip ?_
 refine sh fol [(4,.i 0)] ?_
 refine Goes.ret ?_
 obtain rfl:=si h
 exact(gw2 [.i 0] (Ub tI))
def qhQ (N:Nat) (a:qvz):Option Int:=
 ((qg6 N a.Yarn).bind fun b=>
 if(!b)=true then
 (qlY true 8).bind fun c=>
 some c
 else
 (qlh N a.Dye).bind fun d=>
 (qlY (!d) 8).bind fun e=>
 some e:Option Int).bind fun f=>
 some f
theorem qkJ (N:Nat) (a:qvz) {res:Int} (h:qhQ N a=some res):qJ ZT (.fn 32) [.agg [.str a.Yarn,.str a.Dye,.i a.Amount]] [] (.i res) []:=by
 unfold qhQ at h
 refine Uc Tryz.func32 rfl rfl (m:=14) rfl (rs:=[.tmp 2]) rfl (l:=[(0,.agg [.str a.Yarn,.str a.Dye,.i a.Amount])]) rfl ?_
 refine sg fol (kAA []) (kT a.Yarn a.Dye a.Amount []) ?_
 refine sq ?_
 obtain⟨j,b,h⟩:=bnd h
 refine Goes.cut (s':=(ofG 14 (kA2 j),(kT a.Yarn a.Dye a.Amount []))) ?_ ?_
 ·obtain⟨p,c,b⟩:=bnd b
  rcases wyB b with⟨g,b⟩|⟨g,b⟩
  ·obtain⟨k,d,b⟩:=bnd b
   obtain rfl:=si b
   exact tr fol [2,4,10] (kA2 k) (ac (cv (qeN N a.Yarn c)) (ac (gw g) (ac (cv (qsz true 8 d)) az)))
  obtain⟨n,e,b⟩:=bnd b
  obtain⟨o,f,b⟩:=bnd b
  obtain rfl:=si b
  exact tr fol [2,4,7,10] (kA2 o) (ac (cv (qeN N a.Yarn c)) (ac (gw g) (ac (cv (qrs N a.Dye e)) (ac (cv (qsz (!n) 8 f)) az))))
 refine Goes.ret ?_
 obtain rfl:=si h
 exact(gw2 [.i j] (Ub tI))
def qgl (N:Nat) (a:StateT) (yarn:Str) (dye:Str):Option Int:=
 (qeP N a).bind fun b=>
 (qhy N yarn).bind fun c=>
 (qig N dye).bind fun d=>
 (qdH N ([b,c,d]:List Int)).bind fun e=>
 some e
theorem qpj (N:Nat) (a:StateT) (yarn:Str) (dye:Str) {res:Int} (h:qgl N a yarn dye=some res):qJ ZT (.fn 81) (kAE a.Day a.Lots a.Holds [.str yarn,.str dye]) [] (.i res) []:=by
 unfold qgl at h
 refine Uc Tryz.func81 rfl rfl (m:=15) rfl (rs:=[.tmp 6]) rfl (l:=(kZ a.Day a.Lots a.Holds [(1,.str yarn),(2,.str dye)])) rfl ?_
 refine sg fol (kAC yarn dye []) (kD a.Day a.Lots a.Holds []) ?_
 obtain⟨f,b,h⟩:=bnd h
 obtain⟨g,c,h⟩:=bnd h
 obtain⟨j,d,h⟩:=bnd h
 obtain⟨k,e,h⟩:=bnd h
 refine sq (gq fol [1,3,5,7] [(6,.i k)] (kD a.Day a.Lots a.Holds [.cells [.i f,.i g,.i j]]) (ac (cv (qkL N a b)) (ac (cv (qge N yarn c)) (ac (cv (qmz N dye d)) (ac (hs (.call 50 [.slice 1 0 3 3 1] (kD a.Day a.Lots a.Holds [.cells [.i f,.i g,.i j]]) [1] [vl encI ([f,g,j]:List Int)] (.i k)) (qe6 (FzL.cons (Fz.lit rfl rfl (Ue (AllST.cons tI (AllST.cons tI (AllST.cons tI AllST.nil))))) FzL.nil) (qcv N ([f,g,j]:List Int) e) tI rfl)) az)))) ?_)
 refine Goes.ret ?_
 obtain rfl:=si h
 exact(gw2 [.i k] (Ub tI))
def qhx:Option (List Int):=
 qzJ (some []) ((app 8 ([]:List Int) ([]:List Int)).bind fun a=>
 some a)
theorem qqU {res:List Int} (h:qhx=some res):qJ ZT (.fn 82) [vl encI ([]:List Int)] [] (vl encI res) []:=by
 unfold qhx at h
 refine Uc Tryz.func82 rfl rfl (m:=8) rfl (rs:=[.tmp 2]) rfl (l:=[(0,vl encI ([]:List Int))]) rfl ?_
 refine sh fol [(0,vl encI ([]:List Int))] ?_
 refine sq ?_
 refine sh fol [(0,vl encI ([]:List Int)),(4,.anyb)] ?_
 refine Goes.condAny (by kernel_rfl) ?_ ?_
 ·replace h:=(quZ h).1
  refine sh fol [(2,.nilslice)] ?_
  refine Goes.ret ?_
  obtain rfl:=si h
  exact(gw2 [.nilslice] (FzW.nilv (E:=encI)))
 replace h:=(quZ h).2
 refine Goes.skip ?_
 obtain⟨a,b,h⟩:=bnd h
 refine sq (gq fol [2] [(2,.oslice 1 a.length 1)] (.dead::(kO a [])) (ac (hs (.run [0] (qiX ZT [79,79] (.slice 0 0 0 0 1) (vl encI ([]:List Int))) [.cells []] (.oslice 1 a.length 1) (.dead::(kO a [])) true) (qnK qrz (E:=encI) rfl (qDp (E:=encI) rfl _) (qDm (E:=encI) rfl rfl rfl b rfl))) az) ?_)
 refine Goes.ret ?_
 obtain rfl:=si h
 exact(gw2 [.oslice 1 a.length 1] (FzW.fz (Fz.os (E:=encI) rfl rfl (nl rfl))))
def qhv (hd:Int) (tl:List Int):Option (List Int):=
 (app 8 ([]:List Int) (hd::tl)).bind fun a=>
 some a
theorem qqR (hd:Int) (tl:List Int) {res:List Int} (h:qhv hd tl=some res):qJ ZT (.fn 82) [vl encI (hd::tl)] [] (vl encI res) []:=by
 unfold qhv at h
 refine Uc Tryz.func82 rfl rfl (m:=8) rfl (rs:=[.tmp 2]) rfl (l:=[(0,vl encI (hd::tl))]) rfl ?_
 refine sh fol [(0,vl encI (hd::tl))] ?_
 refine sq ?_
 refine sh fol ((0,vl encI (hd::tl))::kAf) ?_
 refine Goes.ifB (b:=false) (by kernel_rfl) (fun c=>(by cases c)) (fun _=>?_)
 refine Goes.skip ?_
 obtain⟨a,d,h⟩:=bnd h
 refine sq (gq fol [2] [(2,.oslice 1 a.length 1)] (.dead::(kO a [])) (ac (hs (.run [0] (qiX ZT [79,79] (.slice 0 0 0 0 1) (vl encI (hd::tl))) [.cells []] (.oslice 1 a.length 1) (.dead::(kO a [])) true) (qnK qrz (E:=encI) rfl (qDp (E:=encI) rfl _) (qDm (E:=encI) rfl rfl rfl d rfl))) az) ?_)
 refine Goes.ret ?_
 obtain rfl:=si h
 exact(gw2 [.oslice 1 a.length 1] (FzW.fz (Fz.os (E:=encI) rfl rfl (nl rfl))))
def slices_Clone_int:(List Int)->Option (List Int)
 |[]=>qhx
 |hd::tl=>qhv hd tl
theorem qsb (l:List Int) {res:List Int} (h:slices_Clone_int l=some res):qJ ZT (.fn 82) [vl encI l] [] (vl encI res) []:=by
 cases l with
 |nil=>exact qqU h
 |cons hd tl=>exact qqR hd tl h
def cmp_isNaN_int (a:Int):Option Bool:=
 some (!decide (a=a))
theorem qpV (a:Int) {res:Bool} (h:cmp_isNaN_int a=some res):qJ ZT (.fn 145) [.i a] [] (.bool res) []:=by
 unfold cmp_isNaN_int at h
 refine Uc Tryz.func145 rfl rfl (m:=6) rfl (rs:=[.tmp 2]) rfl (l:=[(0,.i a)]) rfl ?_
 refine sh fol [(0,.i a)] ?_
 refine sh fol (kAi (!decide (a=a))) ?_
 refine Goes.ret ?_
 obtain rfl:=si h
 exact(gw2 [.bool (!decide (a=a))] (Ub tB))
def cmp_Compare_int (a:Int) (y:Int):Option Int:=
 (cmp_isNaN_int a).bind fun c=>
 (cmp_isNaN_int y).bind fun b=>
 if c=true then
 if b=true then
 some 0
 else
 some (-1)
 else
 if b=true then
 some 1
 else
 if a<y then
 some (-1)
 else
 if a>y then
 some 1
 else
 some 0
theorem qot (a:Int) (y:Int) {res:Int} (h:cmp_Compare_int a y=some res):qJ ZT (.fn 84) [.i a,.i y] [] (.i res) []:=by
 unfold cmp_Compare_int at h
 refine Uc Tryz.func84 rfl rfl (m:=20) rfl (rs:=[.tmp 4]) rfl (l:=[(0,.i a),(1,.i y)]) rfl ?_
 refine sh fol [(0,.i a),(1,.i y)] ?_
 obtain⟨e,b,h⟩:=bnd h
 refine sq (gr fol [1] [(0,.i a),(1,.i y),(5,.bool e)] (ac (cv (qpV a b)) az) ?_)
 obtain⟨d,c,h⟩:=bnd h
 refine sq (gr fol [1] [(0,.i a),(1,.i y),(5,.bool e),(6,.bool d)] (ac (cv (qpV y c)) az) ?_)
 refine sq ?_
 refine sh fol [(0,.i a),(1,.i y),(6,.bool d),(11,.bool e)] ?_
 refine ihB h (fun f h=>?_) (fun f h=>?_)
 ·refine sq ?_
  refine sh fol [(12,.bool d)] ?_
  refine ihB h (fun g h=>?_) (fun g h=>?_)
  ·refine sh fol [(4,.i 0)] ?_
   refine Goes.ret ?_
   obtain rfl:=si h
   exact(gw2 [.i 0] (Ub tI))
  refine Goes.skip ?_
  refine sh fol kAp ?_
  refine Goes.ret ?_
  obtain rfl:=si h
  exact(gw2 [.i (-1)] (Ub tI))
 refine Goes.skip ?_
 refine sq ?_
 refine sh fol [(0,.i a),(1,.i y),(13,.bool d)] ?_
 refine ihB h (fun j h=>?_) (fun j h=>?_)
 ·refine sh fol [(4,.i 1)] ?_
  refine Goes.ret ?_
  obtain rfl:=si h
  exact(gw2 [.i 1] (Ub tI))
 refine Goes.skip ?_
 refine sq ?_
 refine sh fol [(0,.i a),(1,.i y),(16,.bool (decide (a<y)))] ?_
 refine ihD h (fun k h=>?_) (fun k h=>?_)
 ·refine sh fol kAp ?_
  refine Goes.ret ?_
  obtain rfl:=si h
  exact(gw2 [.i (-1)] (Ub tI))
 refine Goes.skip ?_
 refine sq ?_
 refine sh fol [(19,.bool (decide (a>y)))] ?_
 refine ihD h (fun n h=>?_) (fun n h=>?_)
 ·refine sh fol [(4,.i 1)] ?_
  refine Goes.ret ?_
  obtain rfl:=si h
  exact(gw2 [.i 1] (Ub tI))
 refine Goes.skip ?_
 refine sh fol [(4,.i 0)] ?_
 refine Goes.ret ?_
 obtain rfl:=si h
 exact(gw2 [.i 0] (Ub tI))
def qcU (c:List Int) (d:List Int):Nat->Int->Option (((List Int)×(List Int))⊕Int)
 |0,_=>none
 |K+1,a=>
  if a<(c.length:Int)then
  (idx c a).bind fun e=>
  if a>=(d.length:Int)then
  some (.inr 1)
  else
  (idx d a).bind fun f=>
  (cmp_Compare_int e f).bind fun b=>
  if(!decide (b=0))=true then
  some (.inr b)
  else
  qcU c d K (w64 (a+1))
  else
  some (.inl (c,d))
def qjp (N:Nat) (b:List Int) (c:List Int):Option Int:=
 (qcU b c N 0).bind (fun
 |(.inl (d,e))=>
 if(d.length:Int)<(e.length:Int)then
 some (-1)
 else
 some 0
 |(.inr a)=>
 some a)
theorem qqQ (N:Nat) (a:List Int) (b:List Int) {res:Int} (h:qjp N a b=some res):qJ ZT (.fn 85) [vl encI a,vl encI b] [] (.i res) []:=by
 unfold qjp at h
 refine Uc Tryz.func85 rfl rfl (m:=36) rfl (rs:=[.tmp 4]) rfl (l:=(kAY a b [])) rfl ?_
 refine sh fol (kAY a b []) ?_
 refine sq ?_
 refine sh fol (kAY a b [(9,vl encI a),(10,.i (a.length:Int)),(11,.i 0)]) ?_
 refine Goes.block ?_
 obtain⟨o,g4,h⟩:=bnd h
 refine Goes.imp (Q:=fun x s'=>(x= .exit 0/\ ∃j k,(.inl (j,k))=o/\Sub s' (ofG 36 (kAY j k []),[]))\/(x= .ret/\ ∃r,(.inr r)=o/\qbg ZT [.tmp 4] (.i r) .ret s')) ?_ ?_
 ·refine Ud (fun M s=> ∃(c:Int),s=(ofG 36 (kAY a b ((9,vl encI a)::(kAG (a.length:Int) c []))),[])/\qcU a b M c=some o) ?_ (m:=N) ⟨_,rfl,g4⟩
  rintro M s ⟨c,rfl,g4⟩
  cases M with
  |zero=>simp only[qcU]at g4;cases g4
  |succ M=>
   rw[qcU]at g4
   refine sh fol (kAY a b ((9,vl encI a)::(kAG (a.length:Int) c [(12,.bool (decide (c<(a.length:Int))))]))) ?_
   refine sq ?_
   refine ihD g4 (fun u g4=>?_) (fun u g4=>?_)
   ·refine Goes.skip ?_
    refine sq (Goes.block ?_)
    obtain⟨n,e,g4⟩:=bnd g4
    refine sq (gr fol [1,2] (kAY a b ((5,.i c)::(6,.i n)::(9,vl encI a)::(kAG (a.length:Int) c []))) (ac (iv qrz encI e) (ac (lv 0 ce3 encI e rfl) az)) ?_)
    refine sq ?_
    refine sh fol (kAY a b ((5,.i c)::(6,.i n)::(9,vl encI a)::(kAG (a.length:Int) c [(19,.bool (decide (c>=(b.length:Int))))]))) ?_
    refine ihD g4 (fun v g4=>?_) (fun v g4=>?_)
    ·refine sh fol [(4,.i 1)] ?_
     refine Goes.ret ?_
     obtain rfl:=si g4
     exact Or.inr (⟨rfl,_,rfl,(gw2 [.i 1] (Ub tI))⟩)
    refine Goes.skip ?_
    obtain⟨t,f,g4⟩:=bnd g4
    refine sq (gr fol [2,3] (kAY a b ((6,.i n)::(7,.i t)::(9,vl encI a)::(kAG (a.length:Int) c []))) (ac (iv qrz encI f) (ac (lv 0 ce3 encI f rfl) az)) ?_)
    obtain⟨d,g,g4⟩:=bnd g4
    refine sq (gr fol [2] (kAY a b ((8,.i d)::(9,vl encI a)::(kAG (a.length:Int) c []))) (ac (cv (qot n t g)) az) ?_)
    refine sh fol (kAY a b ((8,.i d)::(9,vl encI a)::(kAG (a.length:Int) c [(28,.bool (!decide (d=0)))]))) ?_
    refine ihB g4 (fun p g4=>?_) (fun p g4=>?_)
    ·refine sh fol (kAz d) ?_
     refine Goes.ret ?_
     obtain rfl:=si g4
     exact Or.inr (⟨rfl,_,rfl,(gw2 [.i d] (Ub tI))⟩)
    refine Goes.skip ?_
    refine gh fol (kAY a b ((9,vl encI a)::(kAG (a.length:Int) (w64 (c+1)) []))) ?_
    exact⟨M,(ofG 36 (kAY a b ((9,vl encI a)::(kAG (a.length:Int) (w64 (c+1)) []))),[]),Nat.lt_succ_self _,(Sub.refl _),_,rfl,g4⟩
   refine Goes.exit ?_
   obtain rfl:=si g4
   exact Or.inl (⟨rfl,_,_,rfl,(Sub.keep [0,1] rfl rfl)⟩)
 rintro x s' (⟨rfl,j,k,rfl,hsub⟩|⟨rfl,w,rfl,hret⟩)
 ·try dsimp only at h
  refine Goes.sub hsub ?_
  refine sq ?_
  refine sh fol [(35,.bool (decide ((j.length:Int)<(k.length:Int))))] ?_
  refine ihD h (fun q h=>?_) (fun q h=>?_)
  ·refine sh fol kAp ?_
   refine Goes.ret ?_
   obtain rfl:=si h
   exact(gw2 [.i (-1)] (Ub tI))
  refine Goes.skip ?_
  refine sh fol [(4,.i 0)] ?_
  refine Goes.ret ?_
  obtain rfl:=si h
  exact(gw2 [.i 0] (Ub tI))
 try dsimp only at h
 obtain rfl:=si h
 exact hret
def qhj (N:Nat) (b:StateT) (yarn:Str) (dye:Str):Nat->(List Int)->Int->Int->Option ((List Int)×Int)
 |0,_,_,_=>none
 |K+1,d,e,c=>
  if c<(b.Lots.length:Int)then
  (((idx b.Lots c).bind fun a=>
  (if(a.Yarn==yarn)=true then
  if(a.Dye==dye)=true then
  (qbI N b a).bind fun f=>
  some (decide (f>0))
  else
  some false
  else
  some false:Option Bool).bind fun g=>
  if g=true then
  (app 8 d [c]).bind fun h=>
  (qbI N b a).bind fun i=>
  some (h,w64 (e+i))
  else
  some (d,e):Option ((List Int)×Int))).bind fun(j,k)=>
  qhj N b yarn dye K j k (w64 (c+1))
  else
  some (d,e)
def qh1 (N:Nat) (f:StateT) (g:List Int) (d:Int):Nat->(List Int)->Int->Int->Option ((List Int)×Int)
 |0,_,_,_=>none
 |K+1,b,c,a=>
  if a<(g.length:Int)then
  (((idx g a).bind fun e=>
  (qBX .i64 d a).bind fun h=>
  if(andI .i64 h 1)=1 then
  (app 8 b [e]).bind fun i=>
  (idx f.Lots e).bind fun j=>
  (qbI N f j).bind fun k=>
  some (i,w64 (c-k))
  else
  some (b,c):Option ((List Int)×Int))).bind fun(l,m)=>
  qh1 N f g d K l m (w64 (a+1))
  else
  some (b,c)
def qif (N:Nat) (j:StateT) (amount:Int) (k:List Int) (d:Int):Nat->(List Int)->Int->Option (List Int)
 |0,_,_=>none
 |K+1,a,b=>
  if b<d then
  (((qh1 N j k b N ([]:List Int) amount 0).bind fun(c,e)=>
  if e>0 then
  some a
  else
  (cmp_Compare_int (c.length:Int) (a.length:Int)).bind fun f=>
  (qjp N c a).bind fun g=>
  (qmo N ([f,g]:List Int)).bind fun h=>
  if h<0 then
  some c
  else
  some a:Option (List Int))).bind fun i=>
  qif N j amount k d K i (w64 (b+1))
  else
  some a
def qol (N:Nat) (c:StateT) (yarn:Str) (dye:Str) (amount:Int):Option ((List Int)×Int):=
 (qgl N c yarn dye).bind fun j=>
 (qgz amount 0 999999999).bind fun k=>
 (qdH N ([j,k]:List Int)).bind fun i=>
 if(!decide (i=0))=true then
 some ([],i)
 else
 (qhj N c yarn dye N ([]:List Int) 0 0).bind fun(b,l)=>
 (qcB (decide ((b.length:Int)>8)) 22).bind fun d=>
 (qcB (decide (l<amount)) 32).bind fun e=>
 (qdH N ([d,e]:List Int)).bind fun a=>
 if(!decide (a=0))=true then
 some ([],a)
 else
 (slices_Clone_int b).bind fun f=>
 (shlO .i64 1 (b.length:Int)).bind fun g=>
 (qif N c amount b g N f 0).bind fun h=>
 some (h,0)
theorem qv8 (N:Nat) (a:StateT) (yarn:Str) (dye:Str) (amount:Int) {res:(List Int)×Int} (h:qol N a yarn dye amount=some res):qJ ZT (.fn 33) (kAE a.Day a.Lots a.Holds [.str yarn,.str dye,.i amount]) [] (.tuple [vl encI res.1,.i res.2]) []:=by
 unfold qol at h
 refine Uc Tryz.func33 rfl rfl (m:=131) rfl (rs:=[.tmp 8,.tmp 9]) rfl (l:=(kZ a.Day a.Lots a.Holds [(1,.str yarn),(2,.str dye),(3,.i amount)])) rfl ?_
 refine sg fol (kS yarn dye amount []) (kD a.Day a.Lots a.Holds []) ?_
 refine Goes.scope ?_
 refine sq ?_
 obtain⟨r1,e_r1,h⟩:=bnd h
 obtain⟨r2,e_r2,h⟩:=bnd h
 obtain⟨r3,e_r3,h⟩:=bnd h
 refine sq (gq fol [3,5,7] (kS yarn dye amount [(10,.i r3)]) (kD a.Day a.Lots a.Holds (kAO r1 r2)) (ac (cv (qpj N a yarn dye e_r1)) (ac (cv (qe9 amount 0 999999999 e_r2)) (ac (hs (.call 50 [.slice 1 0 2 2 1] (kD a.Day a.Lots a.Holds (kAO r1 r2)) [1] [vl encI ([r1,r2]:List Int)] (.i r3)) (qe6 (FzL.cons (Fz.lit rfl rfl (Ue (AllST.cons tI (AllST.cons tI AllST.nil)))) FzL.nil) (qcv N ([r1,r2]:List Int) e_r3) tI rfl)) az))) ?_)
 refine sh fol (kS yarn dye amount [(10,.i r3),(31,.bool (!decide (r3=0)))]) ?_
 refine ihB h (fun c4 h=>?_) (fun c4 h=>?_)
 ·refine sh fol [(8,.nilslice),(9,.i r3)] ?_
  refine Goes.ret ?_
  obtain rfl:=si h
  exact(gw2 [.nilslice,.i r3] (FzW.tuple (jo.cons (FzW.nilv (E:=encI)) (jo.cons (Ub tI) jo.nil))))
 refine Goes.skip ?_
 refine sh fol (kS yarn dye amount [(11,.nilslice)]) ?_
 refine sh fol (kS yarn dye amount [(11,.nilslice),(12,.i 0)]) ?_
 refine sq ?_
 refine sh fol (kS yarn dye amount [(11,.nilslice),(12,.i 0),(34,vl qg a.Lots),(35,.i (a.Lots.length:Int)),(36,.i 0)]) ?_
 refine Goes.block ?_
 obtain⟨r10,g10,h⟩:=bnd h
 refine Goes.imp (Q:=fun x s'=>(x= .exit 0/\ ∃d n9,(d,n9)=r10/\Sub s' (ofG 131 ((3,.i amount)::(kA3 (kAa d [(12,.i n9)]))),(kD a.Day a.Lots a.Holds (kO d []))))) ?_ ?_
 ·refine Goes.sub (s':=(ofG 131 (kS yarn dye amount [(11,.gslice 1 ([]:List Int).length 1),(12,.i 0),(34,vl qg a.Lots),(35,.i (a.Lots.length:Int)),(36,.i 0)]),(kD a.Day a.Lots a.Holds kA7))) (Sub.norm [] [some 0,none] rfl rfl (.keep (.same nS) (.keep (.same nS) (.keep (.same nI) (.kp (.keep .nil (.keep (.same nI) (.keep (.same (zu qg _)) (.keep (.same nI) (.keep (.same nI) .nil))))))))) (.kb rfl (.same sn) (.fresh .nil))) ?_
  refine Ud (fun M s=> ∃(r:List Int) (A:Int) (p:Int),s=(ofG 131 (kS yarn dye amount (kAa r (kAm A a.Lots (a.Lots.length:Int) p []))),(kD a.Day a.Lots a.Holds (kO r [])))/\qhj N a yarn dye M r A p=some r10) ?_ (m:=N) ⟨_,_,_,rfl,g10⟩
  rintro M s ⟨r,A,p,rfl,g10⟩
  cases M with
  |zero=>simp only[qhj]at g10;cases g10
  |succ M=>
   rw[qhj]at g10
   refine sh fol (kS yarn dye amount (kAa r (kAm A a.Lots (a.Lots.length:Int) p [(37,.bool (decide (p<(a.Lots.length:Int))))]))) ?_
   refine sq ?_
   refine ihD g10 (fun c11 g10=>?_) (fun c11 g10=>?_)
   ·refine Goes.skip ?_
    refine sq ?_
    obtain⟨r14,g14,g10⟩:=bnd g10
    refine Goes.imp (Q:=fun x s'=>(x= .normal/\ ∃t B,(t,B)=r14/\Sub s' (ofG 131 (kS yarn dye amount (kAa t (kAm B a.Lots (a.Lots.length:Int) p []))),(kD a.Day a.Lots a.Holds (kO t []))))) ?_ ?_
    ·refine Goes.block ?_
     obtain⟨j,C,g14⟩:=bnd g14
     refine sq (gq fol [1,2] (kS yarn dye amount (kAI r A p a.Lots (a.Lots.length:Int) [])) (kD a.Day a.Lots a.Holds (kO r (kR j.Name j.Yarn j.Dye j.Stock []))) (ac (iv qoB qg C) (ac (la qvb qg C) az)) ?_)
     refine sq ?_
     obtain⟨b19,g,g14⟩:=bnd g14
     refine Goes.cut (s':=(ofG 131 (kS yarn dye amount (kAI r A p a.Lots (a.Lots.length:Int) [(56,.bool b19)])),(kD a.Day a.Lots a.Holds (kO r (kR j.Name j.Yarn j.Dye j.Stock []))))) ?_ ?_
     ·rcases wyB g with⟨P,g⟩|⟨P,g⟩
      ·rcases wyB g with⟨V,g⟩|⟨V,g⟩
       ·obtain⟨r18,W,g⟩:=bnd g
        obtain rfl:=si g
        exact tr fol [4,10,13] (kS yarn dye amount (kAI r A p a.Lots (a.Lots.length:Int) [(56,.bool (decide (r18>0)))])) (ac (gw P) (ac (gw V) (ac (cv (qeS N a j W)) az)))
       obtain rfl:=si g
       exact tr fol [4,10] (kS yarn dye amount (kAI r A p a.Lots (a.Lots.length:Int) [(56,.bool false)])) (ac (gw P) (ac (gw V) az))
      obtain rfl:=si g
      exact tr fol [4] (kS yarn dye amount (kAI r A p a.Lots (a.Lots.length:Int) [(56,.bool false)])) (ac (gw P) az)
     refine ihB g14 (fun c21 g14=>?_) (fun c21 g14=>?_)
     ·obtain⟨D,X,g14⟩:=bnd g14
      refine sq (gq fol [3] (kS yarn dye amount [(11,.gslice 4 D.length 1),(12,.i A),(14,.ptr 2 0),(34,vl qg a.Lots),(35,.i (a.Lots.length:Int)),(36,.i p)]) (kD a.Day a.Lots a.Holds (.dead::(kR j.Name j.Yarn j.Dye j.Stock (.cells [.i p]::(kO D []))))) (ac (hs (.run [1,3] (qiX ZT [79,79] (.gslice 1 r.length 1) (.slice 3 0 1 1 1)) (kD a.Day a.Lots a.Holds (kO r (kR j.Name j.Yarn j.Dye j.Stock [.cells [.i p]]))) (.gslice 4 D.length 1) (kD a.Day a.Lots a.Holds (.dead::(kR j.Name j.Yarn j.Dye j.Stock (.cells [.i p]::(kO D []))))) true) (qnK qrz (E:=encI) rfl (qvN (E:=encI) (ys:=[p]) rfl rfl rfl rfl) (qwy (E:=encI) (l:=r) rfl rfl rfl X rfl))) az) ?_)
      obtain⟨r23,Y,g14⟩:=bnd g14
      refine gr fol [3] (kS yarn dye amount ((11,.gslice 4 D.length 1)::(kAm (w64 (A+r23)) a.Lots (a.Lots.length:Int) p []))) (ac (cv (qeS N a j Y)) az) ?_
      obtain rfl:=si g14
      exact⟨rfl,_,_,rfl,(Sub.norm [] [some 0,some 4] rfl rfl (.keep (.same nS) (.keep (.same nS) (.keep (.same nI) (.kp (.keep (.gslice rfl) (.keep (.same nI) (.keep (.same (zu qg _)) (.keep (.same nI) (.keep (.same nI) .nil))))))))) (.kb rfl (.same sn) (.ks .nil)))⟩
     refine Goes.skip ?_
     obtain rfl:=si g14
     exact⟨rfl,_,_,rfl,(Sub.norm [] [some 0,some 1] rfl rfl (.keep (.same nS) (.keep (.same nS) (.keep (.same nI) (.kp (.keep (.gslice rfl) (.keep (.same nI) (.drop (.drop (.keep (.same (zu qg _)) (.keep (.same nI) (.keep (.same nI) .nil))))))))))) (.kb rfl (.same sn) (.ks .nil)))⟩
    rintro x s' ⟨rfl,t,B,rfl,hsub⟩
    try dsimp only at g10
    refine Goes.sub hsub ?_
    refine gh fol (kS yarn dye amount (kAa t (kAm B a.Lots (a.Lots.length:Int) (w64 (p+1)) []))) ?_
    exact⟨M,(ofG 131 (kS yarn dye amount (kAa t (kAm B a.Lots (a.Lots.length:Int) (w64 (p+1)) []))),(kD a.Day a.Lots a.Holds (kO t []))),Nat.lt_succ_self _,(Sub.refl _),_,_,_,rfl,g10⟩
   refine Goes.exit ?_
   obtain rfl:=si g10
   exact⟨rfl,_,_,rfl,(Sub.keep [3,4,11,12] rfl rfl)⟩
 rintro x s' ⟨rfl,d,n9,rfl,hsub⟩
 try dsimp only at h
 refine Goes.sub hsub ?_
 refine sq ?_
 obtain⟨u,Z,h⟩:=bnd h
 obtain⟨v,a0,h⟩:=bnd h
 obtain⟨z,a1,h⟩:=bnd h
 refine sq (gq fol [3,7,9] ((3,.i amount)::(kA3 (kAa d [(15,.i z)]))) (kD a.Day a.Lots a.Holds (kO d (kAO u v))) (ac (cv (xA (decide ((d.length:Int)>8)) 22 Z)) (ac (cv (xA (decide (n9<amount)) 32 a0)) (ac (hs (.call 50 [.slice 2 0 2 2 1] (kD a.Day a.Lots a.Holds (kO d (kAO u v))) [2] [vl encI ([u,v]:List Int)] (.i z)) (qe6 (FzL.cons (Fz.lit rfl rfl (Ue (AllST.cons tI (AllST.cons tI AllST.nil)))) FzL.nil) (qcv N ([u,v]:List Int) a1) tI rfl)) az))) ?_)
 refine sh fol ((3,.i amount)::(kA3 (kAa d [(15,.i z),(78,.bool (!decide (z=0)))]))) ?_
 refine ihB h (fun c27 h=>?_) (fun c27 h=>?_)
 ·refine sh fol [(8,.nilslice),(9,.i z)] ?_
  refine Goes.ret ?_
  obtain rfl:=si h
  exact(gw2 [.nilslice,.i z] (FzW.tuple (jo.cons (FzW.nilv (E:=encI)) (jo.cons (Ub tI) jo.nil))))
 refine Goes.skip ?_
 obtain⟨F,a2,h⟩:=bnd h
 refine sq (gq fol [1] ((3,.i amount)::(kA3 (kAa d [(16,vl encI F)]))) (kD a.Day a.Lots a.Holds (.frozen (d.flatMap encI.c)::(kAO u v))) (ac (hs (.callF 82 [.gslice 1 d.length 1] (kD a.Day a.Lots a.Holds (kO d (kAO u v))) [1] [vl encI d] (vl encI F)) (qDr (FzL.cons (Fz.gs (E:=encI) rfl rfl (nl rfl)) FzL.nil) (qsb d a2) (qN encI _ (nl rfl)))) az) ?_)
 refine Goes.sub (show Sub (ofG 131 ((3,.i amount)::(kA3 (kAa d [(16,vl encI F)]))),(kD a.Day a.Lots a.Holds (.frozen (d.flatMap encI.c)::(kAO u v)))) (ofG 131 (kM amount d F []),(kD a.Day a.Lots a.Holds []))from(Sub.norm [1] [some 0] rfl rfl (.keep (.same nI) (.kp (.keep (.frz (Fz.gsF (E:=encI) rfl rfl (nl rfl)) (zu encI _)) (.keep (.same (zu encI _)) .nil)))) (.kb rfl (.same sn) .nil))) ?_
 refine sq (Goes.label ?_)
 refine sq ?_
 obtain⟨e,a3,h⟩:=bnd h
 refine sq (gr fol [2] (kM amount d F [(84,.i e),(85,.i 0)]) (ac (hs (.done (.opt (qqV ZT .shl 3 (.const (.int .i64 1)) (.tmp 83) (.i 1) (.i (d.length:Int)))) (.i e)) (qCr a3)) az) ?_)
 refine Goes.block ?_
 obtain⟨r33,g33,h⟩:=bnd h
 refine Goes.imp (Q:=fun x s'=>(x= .exit 2/\ ∃G,G=r33/\Sub s' (ofG 131 [(16,vl encI G)],[]))) ?_ ?_
 ·refine Ud (fun M s=> ∃(f:List Int) (b:Int),s=(ofG 131 (kM amount d f (kAw e b)),(kD a.Day a.Lots a.Holds []))/\qif N a amount d e M f b=some r33) ?_ (m:=N) ⟨_,_,rfl,g33⟩
  rintro M s ⟨f,b,rfl,g33⟩
  cases M with
  |zero=>simp only[qif]at g33;cases g33
  |succ M=>
   rw[qif]at g33
   refine sh fol (kM amount d f [(84,.i e),(85,.i b),(86,.bool (decide (b<e)))]) ?_
   refine sq ?_
   refine ihD g33 (fun c34 g33=>?_) (fun c34 g33=>?_)
   ·refine Goes.skip ?_
    refine sq ?_
    obtain⟨r36,g36,g33⟩:=bnd g33
    refine Goes.imp (Q:=fun x s'=>(x= .normal/\ ∃H,H=r36/\Sub s' (ofG 131 (kM amount d H (kAw e b)),(kD a.Day a.Lots a.Holds [])))) ?_ ?_
    ·refine Goes.block ?_
     refine sh fol (kM amount d f ((17,.i b)::(kAw e b))) ?_
     refine sh fol (kM amount d f ((17,.i b)::(18,.nilslice)::(kAw e b))) ?_
     refine sh fol (kM amount d f ((17,.i b)::(18,.nilslice)::(19,.i amount)::(kAw e b))) ?_
     refine sq ?_
     refine sh fol (kM amount d f ((17,.i b)::(18,.nilslice)::(19,.i amount)::(kAH e b d (d.length:Int) [(91,.i 0)]))) ?_
     refine Goes.block ?_
     obtain⟨r42,g42,g36⟩:=bnd g36
     refine Goes.imp (Q:=fun x s'=>(x= .exit 4/\ ∃k T,(k,T)=r42/\Sub s' (ofG 131 (kM amount d f ((18,.gslice 1 k.length 1)::(19,.i T)::(kAw e b))),(kD a.Day a.Lots a.Holds (kO k []))))) ?_ ?_
     ·refine Goes.sub (s':=(ofG 131 (kM amount d f ((17,.i b)::(18,.gslice 1 ([]:List Int).length 1)::(19,.i amount)::(kAH e b d (d.length:Int) [(91,.i 0)]))),(kD a.Day a.Lots a.Holds kA7))) (Sub.norm [] [some 0,none] rfl rfl (.keep (.same nI) (.kp (.keep (.same (zu encI _)) (.keep (.same (zu encI _)) (.keep (.same nI) (.keep .nil (.keep (.same nI) (.keep (.same nI) (.keep (.same nI) (.keep (.same (zu encI _)) (.keep (.same nI) (.keep (.same nI) .nil)))))))))))) (.kb rfl (.same sn) (.fresh .nil))) ?_
      refine Ud (fun M s=> ∃(o:List Int) (q:Int) (n:Int),s=(ofG 131 (kM amount d f (kAe b o q (kAH e b d (d.length:Int) [(91,.i n)]))),(kD a.Day a.Lots a.Holds (kO o [])))/\qh1 N a d b M o q n=some r42) ?_ (m:=N) ⟨_,_,_,rfl,g42⟩
      rintro M s ⟨o,q,n,rfl,g42⟩
      cases M with
      |zero=>simp only[qh1]at g42;cases g42
      |succ M=>
       rw[qh1]at g42
       refine sh fol (kM amount d f (kAe b o q (kAH e b d (d.length:Int) [(91,.i n),(92,.bool (decide (n<(d.length:Int))))]))) ?_
       refine sq ?_
       refine ihD g42 (fun c43 g42=>?_) (fun c43 g42=>?_)
       ·refine Goes.skip ?_
        refine sq ?_
        obtain⟨r46,g46,g42⟩:=bnd g42
        refine Goes.imp (Q:=fun x s'=>(x= .normal/\ ∃w I,(w,I)=r46/\Sub s' (ofG 131 (kM amount d f (kAe b w I (kAH e b d (d.length:Int) [(91,.i n)]))),(kD a.Day a.Lots a.Holds (kO w []))))) ?_ ?_
        ·refine Goes.block ?_
         obtain⟨y,J,g46⟩:=bnd g46
         refine sq (gr fol [1,2] (kM amount d f (kAe b o q ((20,.i n)::(21,.i y)::(kAH e b d (d.length:Int) [(91,.i n)])))) (ac (iv qrz encI J) (ac (lv 0 ce3 encI J rfl) az)) ?_)
         obtain⟨q48,a4,g46⟩:=bnd g46
         refine sq (gr fol [2] (kM amount d f (kAe b o q ((21,.i y)::(kAH e b d (d.length:Int) [(91,.i n),(100,.bool (decide ((andI .i64 q48 1)=1)))])))) (ac (hs (.done (.opt (qqV ZT .shr 3 (.tmp 96) (.tmp 97) (.i b) (.i n))) (.i q48)) (qCP a4)) az) ?_)
         refine ihD g46 (fun c49 g46=>?_) (fun c49 g46=>?_)
         ·obtain⟨K,a5,g46⟩:=bnd g46
          refine sq (gq fol [3] (kM amount d f ((17,.i b)::(18,.gslice 3 K.length 1)::(19,.i q)::(21,.i y)::(kAH e b d (d.length:Int) [(91,.i n)]))) (kD a.Day a.Lots a.Holds (.dead:: .cells [.i y]::(kO K []))) (ac (hs (.run [1,2] (qiX ZT [79,79] (.gslice 1 o.length 1) (.slice 2 0 1 1 1)) (kD a.Day a.Lots a.Holds (kO o [.cells [.i y]])) (.gslice 3 K.length 1) (kD a.Day a.Lots a.Holds (.dead:: .cells [.i y]::(kO K []))) true) (qnK qrz (E:=encI) rfl (qvN (E:=encI) (ys:=[y]) rfl rfl rfl rfl) (qwy (E:=encI) (l:=o) rfl rfl rfl a5 rfl))) az) ?_)
          obtain⟨x51,L,g46⟩:=bnd g46
          obtain⟨r52,a6,g46⟩:=bnd g46
          refine gr fol [5,6,7] (kM amount d f ((17,.i b)::(18,.gslice 3 K.length 1)::(19,.i (w64 (q-r52)))::(kAH e b d (d.length:Int) [(91,.i n)]))) (ac (iv qoB qg L) (ac (la qvb qg L) (ac (cv (qeS N a x51 a6)) az))) ?_
          obtain rfl:=si g46
          exact⟨rfl,_,_,rfl,(Sub.norm [] [some 0,some 3] rfl rfl (.keep (.same nI) (.kp (.keep (.same (zu encI _)) (.keep (.same (zu encI _)) (.keep (.same nI) (.keep (.gslice rfl) (.keep (.same nI) (.keep (.same nI) (.keep (.same nI) (.keep (.same (zu encI _)) (.keep (.same nI) (.keep (.same nI) .nil)))))))))))) (.kb rfl (.same sn) (.ks .nil)))⟩
         refine Goes.skip ?_
         obtain rfl:=si g46
         exact⟨rfl,_,_,rfl,(Sub.keep [3,4,11,16,17,18,19,84,85,89,90,91] rfl rfl)⟩
        rintro x s' ⟨rfl,w,I,rfl,hsub⟩
        try dsimp only at g42
        refine Goes.sub hsub ?_
        refine gh fol (kM amount d f (kAe b w I (kAH e b d (d.length:Int) [(91,.i (w64 (n+1)))]))) ?_
        exact⟨M,(ofG 131 (kM amount d f (kAe b w I (kAH e b d (d.length:Int) [(91,.i (w64 (n+1)))]))),(kD a.Day a.Lots a.Holds (kO w []))),Nat.lt_succ_self _,(Sub.refl _),_,_,_,rfl,g42⟩
       refine Goes.exit ?_
       obtain rfl:=si g42
       exact⟨rfl,_,_,rfl,(Sub.keep [3,4,11,16,18,19,84,85] rfl rfl)⟩
     rintro x s' ⟨rfl,k,T,rfl,hsub⟩
     try dsimp only at g36
     refine Goes.sub hsub ?_
     refine sq ?_
     refine sh fol (kM amount d f [(18,.gslice 1 k.length 1),(84,.i e),(85,.i b),(116,.bool (decide (T>0)))]) ?_
     refine ihD g36 (fun c53 g36=>?_) (fun c53 g36=>?_)
     ·refine Goes.exit ?_
      obtain rfl:=si g36
      exact⟨rfl,_,rfl,(Sub.norm [] [some 0] rfl rfl (.keep (.same nI) (.kp (.keep (.same (zu encI _)) (.keep (.same (zu encI _)) (.drop (.keep (.same nI) (.keep (.same nI) .nil))))))) (.kb rfl (.same sn) .nil))⟩
     refine Goes.skip ?_
     obtain⟨U,a7,g36⟩:=bnd g36
     obtain⟨O,a8,g36⟩:=bnd g36
     obtain⟨r56,a9,g36⟩:=bnd g36
     refine sq (gq fol [4,7,9] (kM amount d f [(18,.gslice 1 k.length 1),(84,.i e),(85,.i b),(127,.bool (decide (r56<0)))]) (kD a.Day a.Lots a.Holds (kO k (kAO U O))) (ac (cv (qot (k.length:Int) (f.length:Int) a7)) (ac (hs (.call 85 [.gslice 1 k.length 1,vl encI f] (kD a.Day a.Lots a.Holds (kO k [])) [1] [vl encI k,vl encI f] (.i O)) (qe6 (FzL.cons (Fz.gs (E:=encI) rfl rfl (nl rfl)) (FzL.cons (Ua (qN encI _ (nl rfl))) FzL.nil)) (qqQ N k f a8) tI rfl)) (ac (hs (.call 83 [.slice 2 0 2 2 1] (kD a.Day a.Lots a.Holds (kO k (kAO U O))) [2] [vl encI ([U,O]:List Int)] (.i r56)) (qe6 (FzL.cons (Fz.lit rfl rfl (Ue (AllST.cons tI (AllST.cons tI AllST.nil)))) FzL.nil) (qsv N ([U,O]:List Int) a9) tI rfl)) az))) ?_)
     refine ihD g36 (fun c57 g36=>?_) (fun c57 g36=>?_)
     ·refine gh fol ((3,.i amount)::(kA3 ((11,vl encI d)::(16,.gslice 1 k.length 1)::(kAw e b)))) ?_
      obtain rfl:=si g36
      exact⟨rfl,_,rfl,(Sub.norm [1] [some 0] rfl rfl (.keep (.same nI) (.kp (.keep (.same (zu encI _)) (.keep (.frz (Fz.gs (E:=encI) rfl rfl (nl rfl)) (zu encI _)) (.keep (.same nI) (.keep (.same nI) .nil)))))) (.kb rfl (.same sn) .nil))⟩
     refine Goes.skip ?_
     obtain rfl:=si g36
     exact⟨rfl,_,rfl,(Sub.norm [] [some 0] rfl rfl (.keep (.same nI) (.kp (.keep (.same (zu encI _)) (.keep (.same (zu encI _)) (.drop (.keep (.same nI) (.keep (.same nI) .nil))))))) (.kb rfl (.same sn) .nil))⟩
    rintro x s' ⟨rfl,H,rfl,hsub⟩
    refine Goes.sub hsub ?_
    refine gh fol (kM amount d H (kAw e (w64 (b+1)))) ?_
    exact⟨M,(ofG 131 (kM amount d H (kAw e (w64 (b+1)))),(kD a.Day a.Lots a.Holds [])),Nat.lt_succ_self _,(Sub.refl _),_,_,rfl,g33⟩
   refine Goes.exit ?_
   obtain rfl:=si g33
   exact⟨rfl,_,rfl,(Sub.norm [] [] rfl rfl (.drop (.drop (.drop (.keep (.same (zu encI _)) .nil)))) .nil)⟩
 rintro x s' ⟨rfl,G,rfl,hsub⟩
 refine Goes.sub hsub ?_
 refine sh fol [(8,vl encI G),(9,.i 0)] ?_
 refine Goes.ret ?_
 obtain rfl:=si h
 exact(gw2 [vl encI G,.i 0] (FzW.tuple (jo.cons (Ub (qN encI _ (nl rfl))) (jo.cons (Ub tI) jo.nil))))
def qic (N:Nat) (b:StateT) (yarn:Str) (dye:Str):Nat->Int->Int->Int->Option (Int×Int)
 |0,_,_,_=>none
 |K+1,c,d,e=>
  if e<(b.Lots.length:Int)then
  (((idx b.Lots e).bind fun a=>
  (if(a.Yarn==yarn)=true then
  some (a.Dye==dye)
  else
  some false:Option Bool).bind fun f=>
  if f=true then
  (qbI N b a).bind fun g=>
  some (w64 (c+a.Stock),w64 (d+g))
  else
  some (c,d):Option (Int×Int))).bind fun(h,i)=>
  qic N b yarn dye K h i (w64 (e+1))
  else
  some (c,d)
def qod (N:Nat) (a:StateT) (yarn:Str) (dye:Str):Option (Int×Int×Int):=
 (qgl N a yarn dye).bind fun b=>
 if(!decide (b=0))=true then
 some (0,0,b)
 else
 (qic N a yarn dye N 0 0 0).bind fun(c,d)=>
 some (c,d,0)
theorem qwg (N:Nat) (a:StateT) (yarn:Str) (dye:Str) {res:Int×Int×Int} (h:qod N a yarn dye=some res):qJ ZT (.fn 34) (kAE a.Day a.Lots a.Holds [.str yarn,.str dye]) [] (.tuple [.i res.1,.i res.2.1,.i res.2.2]) []:=by
 unfold qod at h
 refine Uc Tryz.func34 rfl rfl (m:=50) rfl (rs:=[.tmp 6,.tmp 7,.tmp 8]) rfl (l:=(kZ a.Day a.Lots a.Holds [(1,.str yarn),(2,.str dye)])) rfl ?_
 refine sg fol (kAC yarn dye []) (kD a.Day a.Lots a.Holds []) ?_
 refine sq ?_
 obtain⟨p,q,h⟩:=bnd h
 refine sq (gr fol [3] (kAC yarn dye [(9,.i p)]) (ac (cv (qpj N a yarn dye q)) az) ?_)
 refine sh fol (kAC yarn dye [(9,.i p),(19,.bool (!decide (p=0)))]) ?_
 refine ihB h (fun A h=>?_) (fun A h=>?_)
 ·refine sh fol [(6,.i 0),(7,.i 0),(8,.i p)] ?_
  refine Goes.ret ?_
  obtain rfl:=si h
  exact(gw2 [.i 0,.i 0,.i p] (FzW.tuple (jo.cons (Ub tI) (jo.cons (Ub tI) (jo.cons (Ub tI) jo.nil)))))
 refine Goes.skip ?_
 refine sh fol (kAC yarn dye [(10,.i 0),(11,.i 0)]) ?_
 refine sq ?_
 refine sh fol (kAC yarn dye [(10,.i 0),(11,.i 0),(22,vl qg a.Lots),(23,.i (a.Lots.length:Int)),(24,.i 0)]) ?_
 refine Goes.block ?_
 obtain⟨z,g8,h⟩:=bnd h
 refine Goes.imp (Q:=fun x s'=>(x= .exit 0/\ ∃r t,(r,t)=z/\Sub s' (ofG 50 (kAG r t []),[]))) ?_ ?_
 ·refine Ud (fun M s=> ∃(j:Int) (k:Int) (d:Int),s=(ofG 50 (kAC yarn dye (kAG j k (kAQ a.Lots (a.Lots.length:Int) d []))),(kD a.Day a.Lots a.Holds []))/\qic N a yarn dye M j k d=some z) ?_ (m:=N) ⟨_,_,_,rfl,g8⟩
  rintro M s ⟨j,k,d,rfl,g8⟩
  cases M with
  |zero=>simp only[qic]at g8;cases g8
  |succ M=>
   rw[qic]at g8
   refine sh fol (kAC yarn dye (kAG j k (kAQ a.Lots (a.Lots.length:Int) d [(25,.bool (decide (d<(a.Lots.length:Int))))]))) ?_
   refine sq ?_
   refine ihD g8 (fun B g8=>?_) (fun B g8=>?_)
   ·refine Goes.skip ?_
    refine sq ?_
    obtain⟨u,g12,g8⟩:=bnd g8
    refine Goes.imp (Q:=fun x s'=>(x= .normal/\ ∃e f,(e,f)=u/\Sub s' (ofG 50 (kAC yarn dye (kAG e f (kAQ a.Lots (a.Lots.length:Int) d []))),(kD a.Day a.Lots a.Holds [])))) ?_ ?_
    ·refine Goes.block ?_
     obtain⟨b,g,g12⟩:=bnd g12
     refine sq (gq fol [0,1] (kAC yarn dye (kAG j k ((13,.ptr 1 0)::(kAQ a.Lots (a.Lots.length:Int) d [])))) (kD a.Day a.Lots a.Holds (kR b.Name b.Yarn b.Dye b.Stock [])) (ac (iv qoB qg g) (ac (la qvb qg g) az)) ?_)
     refine sq ?_
     obtain⟨v,c,g12⟩:=bnd g12
     refine Goes.cut (s':=(ofG 50 (kAC yarn dye (kAG j k ((13,.ptr 1 0)::(kAQ a.Lots (a.Lots.length:Int) d [(37,.bool v)])))),(kD a.Day a.Lots a.Holds (kR b.Name b.Yarn b.Dye b.Stock [])))) ?_ ?_
     ·rcases wyB c with⟨n,c⟩|⟨n,c⟩
      ·obtain rfl:=si c
       exact tr fol [4] (kAC yarn dye (kAG j k ((13,.ptr 1 0)::(kAQ a.Lots (a.Lots.length:Int) d [(37,.bool (b.Dye==dye))])))) (ac (gw n) az)
      obtain rfl:=si c
      exact tr fol [4] (kAC yarn dye (kAG j k ((13,.ptr 1 0)::(kAQ a.Lots (a.Lots.length:Int) d [(37,.bool false)])))) (ac (gw n) az)
     refine ihB g12 (fun w g12=>?_) (fun w g12=>?_)
     ·refine sh fol (kAC yarn dye (kAG (w64 (j+b.Stock)) k ((13,.ptr 1 0)::(kAQ a.Lots (a.Lots.length:Int) d [])))) ?_
      obtain⟨y,o,g12⟩:=bnd g12
      refine gr fol [3] (kAC yarn dye (kAG (w64 (j+b.Stock)) (w64 (k+y)) (kAQ a.Lots (a.Lots.length:Int) d []))) (ac (cv (qeS N a b o)) az) ?_
      obtain rfl:=si g12
      exact⟨rfl,_,_,rfl,(Sub.norm [] [some 0] rfl rfl (.keep (.same nS) (.keep (.same nS) (.kp (.keep (.same nI) (.keep (.same nI) (.keep (.same (zu qg _)) (.keep (.same nI) (.keep (.same nI) .nil)))))))) (.kb rfl (.same sn) .nil))⟩
     refine Goes.skip ?_
     obtain rfl:=si g12
     exact⟨rfl,_,_,rfl,(Sub.norm [] [some 0] rfl rfl (.keep (.same nS) (.keep (.same nS) (.kp (.keep (.same nI) (.keep (.same nI) (.drop (.keep (.same (zu qg _)) (.keep (.same nI) (.keep (.same nI) .nil))))))))) (.kb rfl (.same sn) .nil))⟩
    rintro x s' ⟨rfl,e,f,rfl,hsub⟩
    try dsimp only at g8
    refine Goes.sub hsub ?_
    refine gh fol (kAC yarn dye (kAG e f (kAQ a.Lots (a.Lots.length:Int) (w64 (d+1)) []))) ?_
    exact⟨M,(ofG 50 (kAC yarn dye (kAG e f (kAQ a.Lots (a.Lots.length:Int) (w64 (d+1)) []))),(kD a.Day a.Lots a.Holds [])),Nat.lt_succ_self _,(Sub.refl _),_,_,_,rfl,g8⟩
   refine Goes.exit ?_
   obtain rfl:=si g8
   exact⟨rfl,_,_,rfl,(Sub.norm [] [] rfl rfl (.drop (.drop (.drop (.keep (.same nI) (.keep (.same nI) .nil))))) .nil)⟩
 rintro x s' ⟨rfl,r,t,rfl,hsub⟩
 try dsimp only at h
 refine Goes.sub hsub ?_
 refine sh fol [(6,.i r),(7,.i t),(8,.i 0)] ?_
 refine Goes.ret ?_
 obtain rfl:=si h
 exact(gw2 [.i r,.i t,.i 0] (FzW.tuple (jo.cons (Ub tI) (jo.cons (Ub tI) (jo.cons (Ub tI) jo.nil)))))
end Go.Av
