/-
  Walks of functions: what each computes, as a plain function.
-/
import Derived.Test.YtppehbboaidbgaaGreatDoorQGenP3
noncomputable section
namespace Go.Av
open Go.Proofs Go.RowKit
set_option linter.unusedSectionVars false
set_option linter.unusedVariables false
set_option linter.unusedSimpArgs false
set_option maxRecDepth 100000
def vC (a:Str):Nat->Int->Int->Option Int
 |0,_,_=>none
 |K+1,c,b=>
  if b<(a.length:Int)then
  (idx a b).bind fun d=>
  vC a K (w64 ((w64 ((w64 (10*c))+(w64 (d.toNat:Int))))-48)) (w64 (b+1))
  else
  some c
def xJ (N:Nat) (a:Str):Option Int:=
 (vC a N 0 0).bind fun b=>
 some b
theorem qbp (N:Nat) (a:Str) {res:Int} (h:xJ N a=some res):qb ZT (.fn 132) [.str a] [] (.i res) []:=by
 unfold xJ at h;refine Ub Tryz.func132 rfl rfl (m:=20) rfl (rs:=[.tmp 2]) rfl (l:=(kAM a)) rfl ?_;refine sh fol (kAM a) ?_;refine sh fol (kBG a [(3,.i 0)]) ?_;refine sq ?_;refine sh fol (kBG a [(3,.i 0),(4,.i 0)]) ?_;refine Goes.block ?_;obtain⟨g,g4,h⟩:=bnd h;refine Goes.imp (Q:=fun x s'=>(x= .exit 0/\ ∃d,d=g/\Sub s' (ofG 20 [(3,.i d)],[]))) ?_ ?_
 ·refine Ud (fun M s=> ∃(c:Int) (b:Int),s=(ofG 20 (kAH a c (kBW b)),[])/\vC a M c b=some g) ?_ (m:=N) ⟨_,_,rfl,g4⟩;rintro M s ⟨c,b,rfl,g4⟩
  cases M with
  |zero=>simp only[vC]at g4;cases g4
  |succ M=>
   rw[vC]at g4;refine sq ?_;refine sh fol (kAH a c ((4,.i b)::(kBe (decide (b<(a.length:Int)))))) ?_;refine ihD g4 (fun j g4=>?_) (fun j g4=>?_)
   ·refine Goes.skip ?_;refine sq (Goes.block ?_);obtain⟨f,e,g4⟩:=bnd g4;refine gr fol [4] (kAH a (w64 ((w64 ((w64 (10*c))+(w64 (f.toNat:Int))))-48)) (kBW b)) (ac (hs (.done (.opt (yw ZT 9 (.str a) (.i b))) (.int .u8 (f.toNat:Int))) (qaH st9 e)) az) ?_;refine gh fol (kAH a (w64 ((w64 ((w64 (10*c))+(w64 (f.toNat:Int))))-48)) (kBW (w64 (b+1)))) ?_;exact⟨M,(ofG 20 (kAH a (w64 ((w64 ((w64 (10*c))+(w64 (f.toNat:Int))))-48)) (kBW (w64 (b+1)))),[]),Nat.lt_succ_self _,(Sub.refl _),_,_,rfl,g4⟩
   refine Goes.exit ?_;obtain rfl:=si g4;exact⟨rfl,_,rfl,(Sub.keep [3] rfl rfl)⟩
 rintro x s' ⟨rfl,d,rfl,hsub⟩;refine Goes.sub hsub ?_;refine sh fol (kBL d) ?_;refine Goes.ret ?_;obtain rfl:=si h;exact(gw2 [.i d] (Ua tI))
def yD (N:Nat):Nat->(List Int)->Str->Option ((List Int)×Str)
 |0,_,_=>none
 |K+1,f,a=>
  if(a.length:Int)>9 then
  (cut a (w64 ((a.length:Int)-9)) (a.length:Int)).bind fun b=>
  (xJ N b).bind fun c=>
  (app 8 f [c]).bind fun d=>
  (cut a 0 (w64 ((a.length:Int)-9))).bind fun e=>
  yD N K d e
  else
  some (f,a)
def qaB (N:Nat) (a:Str):Option qI:=
 (if(a.length:Int)>0 then
 (idx a 0).bind fun h=>
 some (decide ((h.toNat:Int)=45))
 else
 some false:Option Bool).bind fun g=>
 ((if g=true then
 (cut a 1 (a.length:Int)).bind fun i=>
 some i
 else
 some a:Option Str)).bind fun j=>
 (yD N N ([]:List Int) j).bind fun(b,c)=>
 (xJ N c).bind fun d=>
 (app 8 b [d]).bind fun e=>
 (zO N g e).bind fun f=>
 some f
theorem qcy (N:Nat) (k:Str) {res:qI} (h:qaB N k=some res):qb ZT (.fn 136) [.str k] [] (.agg (kAl res.neg res.w)) []:=by
 unfold qaB at h;refine Ub Tryz.func136 rfl rfl (m:=40) rfl (rs:=[.cell 2 126]) rfl (l:=(kAM k)) rfl ?_;refine sg fol (kBG k (kQ [])) (kS []) ?_;refine sq ?_;obtain⟨e,b,h⟩:=bnd h;refine Ue (s':=(ofG 40 (kBG k (kQ (kBO e []))),(kS []))) ?_ ?_
 ·rcases wyD b with⟨H,b⟩|⟨H,b⟩
  ·obtain⟨J,B,b⟩:=bnd b;obtain rfl:=si b;exact tr fol [3,5] (kBG k (kQ (kBO (decide ((J.toNat:Int)=45)) []))) (ac (gw H) (ac (hs (.done (.opt (yw ZT 9 (.str k) (.i 0))) (.int .u8 (J.toNat:Int))) (qaH st9 B)) az))
  obtain rfl:=si b;exact tr fol [3] (kBG k (kQ [(3,.bool false)])) (ac (gw H) az)
 refine sq ?_;refine sh fol (kBG k (kQ (kBO e (kBC e)))) ?_;obtain⟨L,g6,h⟩:=bnd h;refine Goes.imp (Q:=fun x s'=>(x= .normal/\ ∃C,C=L/\Sub s' (ofG 40 (kBG C (kQ (kBO e []))),(kS [])))) ?_ ?_
 ·refine ihB g6 (fun O g6=>?_) (fun O g6=>?_)
  ·obtain⟨K,D,g6⟩:=bnd g6;refine gr fol [1] (kBG K (kQ (kBO e []))) (ac (hs (.done (.opt (kg ZT 9 (.str k) (some (.i 1)) none none)) (.str K)) (jr st9 (some 1) none D)) az) ?_;obtain rfl:=si g6;exact⟨rfl,_,rfl,(Sub.refl _)⟩
  refine Goes.skip ?_;obtain rfl:=si g6;exact⟨rfl,_,rfl,(Sub.keep [0,2,3] rfl rfl)⟩
 rintro x s' ⟨rfl,C,rfl,hsub⟩;refine Goes.sub hsub ?_;refine sh fol (kBG C (kQ (kBO e [(4,.nilslice)]))) ?_;refine sq (Goes.block ?_);obtain⟨F,g13,h⟩:=bnd h;refine Goes.imp (Q:=fun x s'=>(x= .exit 0/\ ∃f n,(f,n)=F/\Sub s' (ofG 40 (kBG n (kQ (kBO e [(4,.gslice 1 f.length 1)]))),(kS (kD f []))))) ?_ ?_
 ·refine Goes.sub (s':=(ofG 40 (kBG C (kQ (kBO e [(4,.gslice 1 ([]:List Int).length 1)]))),(kS kBQ))) (Uc [] [some 0,none] rfl rfl (.keep (.same nS) (.kp (.keep (.same nB) (.keep .nil .nil)))) (.kb rfl (.same sn) (.fresh .nil))) ?_;refine Ud (fun M s=> ∃(p:List Int) (a:Str),s=(ofG 40 (kBG a (kQ (kBO e [(4,.gslice 1 p.length 1)]))),(kS (kD p [])))/\yD N M p a=some F) ?_ (m:=N) ⟨_,_,rfl,g13⟩;rintro M s ⟨p,a,rfl,g13⟩
  cases M with
  |zero=>simp only[yD]at g13;cases g13
  |succ M=>
   rw[yD]at g13;refine sq ?_;refine sh fol (kBG a (kQ (kBO e [(4,.gslice 1 p.length 1),(18,.bool (decide ((a.length:Int)>9)))]))) ?_;refine ihD g13 (fun I g13=>?_) (fun I g13=>?_)
   ·refine Goes.skip ?_;refine Goes.block ?_;obtain⟨G,q,g13⟩:=bnd g13;obtain⟨o,r,g13⟩:=bnd g13;obtain⟨g,t,g13⟩:=bnd g13;refine sq (gq fol [5,6,8] (kBG a (kQ (kBO e [(4,.gslice 3 g.length 1)]))) (kS (kBS o (kD g []))) (ac (hs (.done (.opt (kg ZT 9 (.str a) (some (.i (w64 ((a.length:Int)-9)))) none none)) (.str G)) (jr st9 (some (w64 ((a.length:Int)-9))) none q)) (ac (cv (qbp N G r)) (ac (hs (.run [1,2] (yF ZT [80,80] (.gslice 1 p.length 1) (.slice 2 0 1 1 1)) (kS (kD p [.cells [.i o]])) (.gslice 3 g.length 1) (kS (kBS o (kD g []))) true) (qa4 vz (E:=encI) rfl (qgj (E:=encI) (ys:=[o]) rfl rfl rfl rfl) (qi6 (E:=encI) (l:=p) rfl rfl rfl t rfl))) az))) ?_);obtain⟨u,v,g13⟩:=bnd g13;refine gr fol [4] (kBG u (kQ (kBO e [(4,.gslice 3 g.length 1)]))) (ac (hs (.done (.opt (kg ZT 9 (.str a) none (some (.i (w64 ((a.length:Int)-9)))) none)) (.str u)) (jr st9 none (some (w64 ((a.length:Int)-9))) v)) az) ?_;exact⟨M,(ofG 40 (kBG u (kQ (kBO e [(4,.gslice 1 g.length 1)]))),(kS (kD g []))),Nat.lt_succ_self _,(Uc [] [some 0,some 3] rfl rfl (.keep (.same nS) (.kp (.keep (.same nB) (.keep (.gslice rfl) .nil)))) (.kb rfl (.same sn) (.ks .nil))),_,_,rfl,g13⟩
   refine Goes.exit ?_;obtain rfl:=si g13;exact⟨rfl,_,_,rfl,(Sub.keep [0,2,3,4] rfl rfl)⟩
 rintro x s' ⟨rfl,f,n,rfl,hsub⟩
 try dsimp only at h
 refine Goes.sub hsub ?_;obtain⟨j,y,h⟩:=bnd h;obtain⟨d,z,h⟩:=bnd h;obtain⟨c,A,h⟩:=bnd h;refine sq (gq fol [3,5,6] (kQ []) (kAc c.neg c.w (kBS j (kAe d))) (ac (cv (qbp N n y)) (ac (hs (.run [1,2] (yF ZT [80,80] (.gslice 1 f.length 1) (.slice 2 0 1 1 1)) (kS (kD f [.cells [.i j]])) (.gslice 3 d.length 1) (kS (kBS j (kD d []))) true) (qa4 vz (E:=encI) rfl (qgj (E:=encI) (ys:=[j]) rfl rfl rfl rfl) (qi6 (E:=encI) (l:=f) rfl rfl rfl z rfl))) (ac (hs (.callF 140 [.bool e,.gslice 3 d.length 1] (kS (kBS j (kD d []))) [3] (kAl e d) (.agg (kAl c.neg c.w))) (qaV (FzL.cons (Uk tB) (FzL.cons (Fz.gs (E:=encI) rfl rfl (nl rfl)) FzL.nil)) (jf N e d A) (Still.agg (AllST.cons tB (AllST.cons (qB encI _ (nl rfl)) AllST.nil))))) az))) ?_);refine Goes.sub (show Sub (ofG 40 (kQ []),(kAc c.neg c.w (kBS j (kAe d)))) (ofG 40 (kQ []),(kAc c.neg c.w []))from(Uc [] [some 0] rfl rfl (.kp .nil) (.kb rfl (.same sn) .nil))) ?_;refine Goes.ret ?_;obtain rfl:=si h;exact(gw2 [.agg (kAl c.neg c.w)] (FzW.agg (qd.cons (Ua tB) (qd.cons (Ua (qB encI _ (nl rfl))) qd.nil))))
def yT (N:Nat) (a:Str):Option (qI×qI):=
 (yO N a).bind fun b=>
 if b=(a.length:Int)then
 (qaB N a).bind fun c=>
 (qaA N 1).bind fun d=>
 some (c,d)
 else
 (cut a 0 b).bind fun e=>
 (qaB N e).bind fun f=>
 (cut a (w64 (b+1)) (a.length:Int)).bind fun g=>
 (qaB N g).bind fun h=>
 some (f,h)
theorem qct (N:Nat) (a:Str) {res:qI×qI} (h:yT N a=some res):qb ZT (.fn 71) [.str a] [] (.tuple (kA1 res.1.neg res.1.w res.2.neg res.2.w)) []:=by
 unfold yT at h;refine Ub Tryz.func71 rfl rfl (m:=25) rfl (rs:=[.cell 2 126,.cell 3 126]) rfl (l:=(kAM a)) rfl ?_;refine sg fol (kBG a (kQ (kAN []))) (kS (kS [])) ?_;refine sh fol (kQ (kAN (kBY a))) ?_;obtain⟨b,c,h⟩:=bnd h;refine sq (gr fol [1] (kQ (kAN ((4,.str a)::(kA8 b)))) (ac (cv (qaz N a c)) az) ?_);refine sq ?_;refine sh fol (kQ (kAN ((4,.str a)::(5,.i b)::(kBD (decide (b=(a.length:Int))))))) ?_;refine ihD h (fun t h=>?_) (fun t h=>?_)
 ·obtain⟨n,d,h⟩:=bnd h;obtain⟨o,e,h⟩:=bnd h;refine sq (gq fol [1,2] (kQ (kAN [])) (kN n.neg n.w o.neg o.w []) (ac (cv (qcy N a d)) (ac (cv (qcO N 1 e)) az)) ?_);refine Goes.ret ?_;obtain rfl:=si h;exact(gw2 (kA1 n.neg n.w o.neg o.w) (FzW.tuple (qd.cons (FzW.agg (qd.cons (Ua tB) (qd.cons (Ua (qB encI _ (nl rfl))) qd.nil))) (qd.cons (FzW.agg (qd.cons (Ua tB) (qd.cons (Ua (qB encI _ (nl rfl))) qd.nil))) qd.nil))))
 refine Goes.skip ?_;obtain⟨r,f,h⟩:=bnd h;obtain⟨p,g,h⟩:=bnd h;obtain⟨s,j,h⟩:=bnd h;obtain⟨q,k,h⟩:=bnd h;refine sq (gq fol [2,3,7,8] (kQ (kAN [])) (kN p.neg p.w q.neg q.w []) (ac (hs (.done (.opt (kg ZT 9 (.str a) none (some (.i b)) none)) (.str r)) (jr st9 none (some b) f)) (ac (cv (qcy N r g)) (ac (hs (.done (.opt (kg ZT 9 (.str a) (some (.i (w64 (b+1)))) none none)) (.str s)) (jr st9 (some (w64 (b+1))) none j)) (ac (cv (qcy N s k)) az)))) ?_);refine Goes.ret ?_;obtain rfl:=si h;exact(gw2 (kA1 p.neg p.w q.neg q.w) (FzW.tuple (qd.cons (FzW.agg (qd.cons (Ua tB) (qd.cons (Ua (qB encI _ (nl rfl))) qd.nil))) (qd.cons (FzW.agg (qd.cons (Ua tB) (qd.cons (Ua (qB encI _ (nl rfl))) qd.nil))) qd.nil))))
def jP (a:Str):Nat->Int->Option (Unit⊕Bool)
 |0,_=>none
 |K+1,b=>
  if b<(a.length:Int)then
  ((idx a b).bind fun c=>
  if(c.toNat:Int)<48 then
  some true
  else
  some (decide ((c.toNat:Int)>57)):Option Bool).bind fun d=>
  if d=true then
  some (.inr false)
  else
  jP a K (w64 (b+1))
  else
  some (.inl ())
def qbD (N:Nat) (b:Str):Option Bool:=
 (jP b N 0).bind (fun
 |(.inl ())=>
 some true
 |(.inr a)=>
 some a)
theorem qhm (N:Nat) (b:Str) {res:Bool} (h:qbD N b=some res):qb ZT (.fn 148) [.str b] [] (.bool res) []:=by
 unfold qbD at h;refine Ub Tryz.func148 rfl rfl (m:=20) rfl (rs:=[.tmp 2]) rfl (l:=(kAM b)) rfl ?_;refine sh fol (kAM b) ?_;refine sq ?_;refine sh fol (kBG b [(3,.i 0)]) ?_;refine Goes.block ?_;obtain⟨f,g2,h⟩:=bnd h;refine Goes.imp (Q:=fun x s'=>(x= .exit 0/\(.inl ())=f/\Sub s' (ofG 20 [],[]))\/(x= .ret/\ ∃j,(.inr j)=f/\zh ZT [.tmp 2] (.bool j) .ret s')) ?_ ?_
 ·refine Ud (fun M s=> ∃(c:Int),s=(ofG 20 (kAH b c []),[])/\jP b M c=some f) ?_ (m:=N) ⟨_,rfl,g2⟩;rintro M s ⟨c,rfl,g2⟩
  cases M with
  |zero=>simp only[jP]at g2;cases g2
  |succ M=>
   rw[jP]at g2;refine sq ?_;refine sh fol (kAH b c [(7,.bool (decide (c<(b.length:Int))))]) ?_;refine ihD g2 (fun k g2=>?_) (fun k g2=>?_)
   ·refine Goes.skip ?_;refine sq (Goes.block ?_);refine sq ?_;obtain⟨n,a,g2⟩:=bnd g2;refine Ue (s':=(ofG 20 (kAH b c [(19,.bool n)]),[])) ?_ ?_
    ·obtain⟨e,d,a⟩:=bnd a;rcases wyD a with⟨g,a⟩|⟨g,a⟩
     ·obtain rfl:=si a;exact tr fol [2,4] (kAH b c [(19,.bool true)]) (ac (hs (.done (.opt (yw ZT 9 (.str b) (.i c))) (.int .u8 (e.toNat:Int))) (qaH st9 d)) (ac (gw g) az))
     obtain rfl:=si a;exact tr fol [2,4,7] (kAH b c [(19,.bool (decide ((e.toNat:Int)>57)))]) (ac (hs (.done (.opt (yw ZT 9 (.str b) (.i c))) (.int .u8 (e.toNat:Int))) (qaH st9 d)) (ac (gw g) (ac (hs (.done (.opt (yw ZT 9 (.str b) (.i c))) (.int .u8 (e.toNat:Int))) (qaH st9 d)) az)))
    refine ihB g2 (fun o g2=>?_) (fun o g2=>?_)
    ·refine sh fol kAo ?_;refine Goes.ret ?_;obtain rfl:=si g2;exact Or.inr (⟨rfl,_,rfl,(gw2 [.bool false] (Ua tB))⟩)
    refine Goes.skip ?_;refine gh fol (kAH b (w64 (c+1)) []) ?_;exact⟨M,(ofG 20 (kAH b (w64 (c+1)) []),[]),Nat.lt_succ_self _,(Sub.refl _),_,rfl,g2⟩
   refine Goes.exit ?_;obtain rfl:=si g2;exact Or.inl (⟨rfl,rfl,(Sub.keep [] rfl rfl)⟩)
 rintro x s' (⟨rfl,rfl,hsub⟩|⟨rfl,p,rfl,hret⟩)
 ·try dsimp only at h
  refine Goes.sub hsub ?_;refine sh fol kBg ?_;refine Goes.ret ?_;obtain rfl:=si h;exact(gw2 [.bool true] (Ua tB))
 try dsimp only at h
 obtain rfl:=si h;exact hret
def jG (N:Nat) (a:Str):Option Bool:=
 (if(a.length:Int)=0 then
 some true
 else
 if(a.length:Int)>1 then
 (idx a 0).bind fun b=>
 some (decide ((b.toNat:Int)=48))
 else
 some false:Option Bool).bind fun c=>
 if c=true then
 some false
 else
 (qbD N a).bind fun d=>
 some d
theorem jy (N:Nat) (b:Str) {res:Bool} (h:jG N b=some res):qb ZT (.fn 83) [.str b] [] (.bool res) []:=by
 unfold jG at h;refine Ub Tryz.func83 rfl rfl (m:=18) rfl (rs:=[.tmp 2]) rfl (l:=(kAM b)) rfl ?_;refine sh fol (kAM b) ?_;refine sq ?_;refine sq ?_;obtain⟨k,a,h⟩:=bnd h;refine Ue (s':=(ofG 18 (kBG b [(15,.bool k)]),[])) ?_ ?_
 ·rcases wyD a with⟨e,a⟩|⟨e,a⟩
  ·obtain rfl:=si a;exact tr fol [3] (kBG b [(15,.bool true)]) (ac (gw e) az)
  rcases wyD a with⟨f,a⟩|⟨f,a⟩
  ·obtain⟨g,c,a⟩:=bnd a;obtain rfl:=si a;exact tr fol [3,7,9] (kBG b [(15,.bool (decide ((g.toNat:Int)=48)))]) (ac (gw e) (ac (gw f) (ac (hs (.done (.opt (yw ZT 9 (.str b) (.i 0))) (.int .u8 (g.toNat:Int))) (qaH st9 c)) az)))
  obtain rfl:=si a;exact tr fol [3,7] (kBG b [(15,.bool false)]) (ac (gw e) (ac (gw f) az))
 refine ihB h (fun n h=>?_) (fun n h=>?_)
 ·refine sh fol kAo ?_;refine Goes.ret ?_;obtain rfl:=si h;exact(gw2 [.bool false] (Ua tB))
 refine Goes.skip ?_;obtain⟨j,d,h⟩:=bnd h;refine sq (gr fol [1] (kBT j) (ac (cv (qhm N b d)) az) ?_);refine Goes.ret ?_;obtain rfl:=si h;exact(gw2 [.bool j] (Ua tB))
def kr (a:List Int) (b:List Int):Nat->Int->Option (Unit⊕Int)
 |0,_=>none
 |K+1,c=>
  if c>=0 then
  (idx a c).bind fun d=>
  (idx b c).bind fun e=>
  if d<e then
  some (.inr (-1))
  else
  if d>e then
  some (.inr 1)
  else
  kr a b K (w64 (c-1))
  else
  some (.inl ())
def jK (N:Nat) (a:List Int) (b:List Int):Option Int:=
 if(!decide ((a.length:Int)=(b.length:Int)))=true then
 if(a.length:Int)<(b.length:Int)then
 some (-1)
 else
 some 1
 else
 (kr a b N (w64 ((a.length:Int)-1))).bind (fun
 |(.inl ())=>
 some 0
 |(.inr c)=>
 some c)
theorem qbo (N:Nat) (a:List Int) (b:List Int) {res:Int} (h:jK N a b=some res):qb ZT (.fn 142) (kBb a b) [] (.i res) []:=by
 unfold jK at h;refine Ub Tryz.func142 rfl rfl (m:=41) rfl (rs:=[.tmp 4]) rfl (l:=(kI a b [])) rfl ?_;refine sh fol (kI a b []) ?_;refine sq ?_;refine sh fol (kI a b (kBh (!decide ((a.length:Int)=(b.length:Int))))) ?_;refine ihB h (fun o h=>?_) (fun o h=>?_)
 ·refine sq ?_;refine sh fol [(15,.bool (decide ((a.length:Int)<(b.length:Int))))] ?_;refine ihD h (fun p h=>?_) (fun p h=>?_)
  ·refine sh fol [(4,.i (-1))] ?_;refine Goes.ret ?_;obtain rfl:=si h;exact(gw2 [.i (-1)] (Ua tI))
  refine Goes.skip ?_;refine sh fol [(4,.i 1)] ?_;refine Goes.ret ?_;obtain rfl:=si h;exact(gw2 [.i 1] (Ua tI))
 refine Goes.skip ?_;refine sq ?_;refine sh fol (kI a b (kA8 (w64 ((a.length:Int)-1)))) ?_;refine Goes.block ?_;obtain⟨f,g4,h⟩:=bnd h;refine Goes.imp (Q:=fun x s'=>(x= .exit 0/\(.inl ())=f/\Sub s' (ofG 41 [],[]))\/(x= .ret/\ ∃j,(.inr j)=f/\zh ZT [.tmp 4] (.i j) .ret s')) ?_ ?_
 ·refine Ud (fun M s=> ∃(e:Int),s=(ofG 41 (kI a b (kA8 e)),[])/\kr a b M e=some f) ?_ (m:=N) ⟨_,rfl,g4⟩;rintro M s ⟨e,rfl,g4⟩
  cases M with
  |zero=>simp only[kr]at g4;cases g4
  |succ M=>
   rw[kr]at g4;refine sq ?_;refine sh fol (kI a b [(5,.i e),(20,.bool (decide (e>=0)))]) ?_;refine ihD g4 (fun q g4=>?_) (fun q g4=>?_)
   ·refine Goes.skip ?_;refine sq (Goes.block ?_);refine sq ?_;obtain⟨k,c,g4⟩:=bnd g4;obtain⟨n,d,g4⟩:=bnd g4;refine sq (gr fol [2,3,6,7] (kI a b [(5,.i e),(31,.bool (decide (k<n)))]) (ac (iv vz encI c) (ac (lv 0 ce3 encI c rfl) (ac (iv vz encI d) (ac (lv 0 ce3 encI d rfl) az)))) ?_);refine ihD g4 (fun r g4=>?_) (fun r g4=>?_)
    ·refine sh fol [(4,.i (-1))] ?_;refine Goes.ret ?_;obtain rfl:=si g4;exact Or.inr (⟨rfl,_,rfl,(gw2 [.i (-1)] (Ua tI))⟩)
    refine Goes.skip ?_;refine sq (gr fol [2,3,6,7] (kI a b [(5,.i e),(40,.bool (decide (k>n)))]) (ac (iv vz encI c) (ac (lv 0 ce3 encI c rfl) (ac (iv vz encI d) (ac (lv 0 ce3 encI d rfl) az)))) ?_);refine ihD g4 (fun g g4=>?_) (fun g g4=>?_)
    ·refine sh fol [(4,.i 1)] ?_;refine Goes.ret ?_;obtain rfl:=si g4;exact Or.inr (⟨rfl,_,rfl,(gw2 [.i 1] (Ua tI))⟩)
    refine Goes.skip ?_;refine gh fol (kI a b (kA8 (w64 (e-1)))) ?_;exact⟨M,(ofG 41 (kI a b (kA8 (w64 (e-1)))),[]),Nat.lt_succ_self _,(Sub.refl _),_,rfl,g4⟩
   refine Goes.exit ?_;obtain rfl:=si g4;exact Or.inl (⟨rfl,rfl,(Sub.keep [] rfl rfl)⟩)
 rintro x s' (⟨rfl,rfl,hsub⟩|⟨rfl,t,rfl,hret⟩)
 ·try dsimp only at h
  refine Goes.sub hsub ?_;refine sh fol [(4,.i 0)] ?_;refine Goes.ret ?_;obtain rfl:=si h;exact(gw2 [.i 0] (Ua tI))
 try dsimp only at h
 obtain rfl:=si h;exact hret
def zC (a:List Int) (b:List Int) (g:Int):Nat->(List Int)->Int->Int->Option ((List Int)×Int)
 |0,_,_,_=>none
 |K+1,h,i,c=>
  if c<(b.length:Int)then
  (idx h (w64 (g+c))).bind fun d=>
  (idx a g).bind fun e=>
  (idx b c).bind fun f=>
  (put h (w64 (g+c)) ((w64 ((w64 (d+(w64 (e*f))))+i)).tmod 1000000000)).bind fun j=>
  zC a b g K j (w64 ((w64 ((w64 (d+(w64 (e*f))))+i)).tdiv 1000000000)) (w64 (c+1))
  else
  some (h,i)
def zK (N:Nat) (a:List Int) (b:List Int):Nat->(List Int)->Int->Option (List Int)
 |0,_,_=>none
 |K+1,h,c=>
  if c<(a.length:Int)then
  (zC a b c N h 0 0).bind fun(d,e)=>
  (idx d (w64 (c+(b.length:Int)))).bind fun f=>
  (put d (w64 (c+(b.length:Int))) (w64 (f+e))).bind fun g=>
  zK N a b K g (w64 (c+1))
  else
  some h
def vX (N:Nat) (a:List Int) (b:List Int):Option (List Int):=
 (mk 8 (w64 ((a.length:Int)+(b.length:Int))) 0).bind fun d=>
 (zK N a b N d 0).bind fun e=>
 (yz N e).bind fun c=>
 some c
theorem qbd (N:Nat) (a:List Int) (b:List Int) {res:List Int} (h:vX N a b=some res):qb ZT (.fn 144) (kBb a b) [] (vl encI res) []:=by
 unfold vX at h;refine Ub Tryz.func144 rfl rfl (m:=72) rfl (rs:=[.tmp 4]) rfl (l:=(kI a b [])) rfl ?_;refine sh fol (kI a b []) ?_;obtain⟨H,I,h⟩:=bnd h;refine sq (gq fol [5] (kI a b (kE H [])) (kD H []) (ac (hs (.run [] (zF ZT 80 (.i (w64 ((a.length:Int)+(b.length:Int)))) (.i (w64 ((a.length:Int)+(b.length:Int))))) [] (.slice 0 0 H.length H.length 1) (kD H []) false) (qec vz (E:=encI) (z:=0) rfl (by kernel_rfl) I rfl)) az) ?_);refine sq ?_;refine sh fol (kI a b (kE H [(6,.i 0)])) ?_;refine Goes.block ?_;obtain⟨L,g5,h⟩:=bnd h;refine Goes.imp (Q:=fun x s'=>(x= .exit 0/\ ∃t,t=L/\Sub s' (ofG 72 (kE t []),(kD t [])))) ?_ ?_
 ·refine Ud (fun M s=> ∃(D:List Int) (c:Int),s=(ofG 72 (kI a b (kE D [(6,.i c)])),(kD D []))/\zK N a b M D c=some L) ?_ (m:=N) ⟨_,_,rfl,g5⟩;rintro M s ⟨D,c,rfl,g5⟩
  cases M with
  |zero=>simp only[zK]at g5;cases g5
  |succ M=>
   rw[zK]at g5;refine sq ?_;refine sh fol (kI a b (kE D [(6,.i c),(19,.bool (decide (c<(a.length:Int))))])) ?_;refine ihD g5 (fun O g5=>?_) (fun O g5=>?_)
   ·refine Goes.skip ?_;refine sq (Goes.block ?_);refine sh fol (kI a b (kE D [(6,.i c),(7,.i 0)])) ?_;refine sq ?_;refine sh fol (kI a b (kE D [(6,.i c),(7,.i 0),(8,.i 0)])) ?_;refine Goes.block ?_;obtain⟨J,g12,g5⟩:=bnd g5;refine Goes.imp (Q:=fun x s'=>(x= .exit 2/\ ∃d u,(d,u)=J/\Sub s' (ofG 72 (kI a b (kE d (kAK c u []))),(kD d [])))) ?_ ?_
    ·refine Ud (fun M s=> ∃(p:List Int) (r:Int) (o:Int),s=(ofG 72 (kI a b (kE p (kAK c r [(8,.i o)]))),(kD p []))/\zC a b c M p r o=some J) ?_ (m:=N) ⟨_,_,_,rfl,g12⟩;rintro M s ⟨p,r,o,rfl,g12⟩
     cases M with
     |zero=>simp only[zC]at g12;cases g12
     |succ M=>
      rw[zC]at g12;refine sq ?_;refine sh fol (kI a b (kE p (kAK c r [(8,.i o),(25,.bool (decide (o<(b.length:Int))))]))) ?_;refine ihD g12 (fun K g12=>?_) (fun K g12=>?_)
      ·refine Goes.skip ?_;refine sq (Goes.block ?_);obtain⟨e,f,g12⟩:=bnd g12;obtain⟨g,v,g12⟩:=bnd g12;obtain⟨j,w,g12⟩:=bnd g12;refine sq (gr fol [4,5,8,9,12,13] (kI a b (kE p ((6,.i c)::(kA0 o (w64 ((w64 (e+(w64 (g*j))))+r)) [])))) (ac (hs (.done (.opt (ql ZT 80 (.slice 0 0 p.length p.length 1) (.i (w64 (c+o))))) (.ptr 0 ((w64 (c+o):Int).toNat*1+0))) (qaT vz f)) (ac (hs (.run [0] (jD ZT 3 (.ptr 0 ((w64 (c+o):Int).toNat*1+0))) (kD p []) (.i e) (kD p []) false) (qcR ce3 (E:=encI) (l:=p) rfl rfl f (nl rfl) rfl)) (ac (iv vz encI v) (ac (lv 0 ce3 encI v rfl) (ac (iv vz encI w) (ac (lv 0 ce3 encI w rfl) az)))))) ?_);obtain⟨k,A,g12⟩:=bnd g12;refine sq (gq fol [6,7] (kI a b (kE p ((6,.i c)::(kA0 o (w64 ((w64 (e+(w64 (g*j))))+r)) [])))) (kD k []) (ac (hs (.done (.opt (ql ZT 80 (.slice 0 0 p.length p.length 1) (.i (w64 (c+o))))) (.ptr 0 ((w64 (c+o):Int).toNat*1+0))) (qaT vz f)) (ac (hs (.run [0] (qx ZT 3 (.ptr 0 ((w64 (c+o):Int).toNat*1+0)) (.i ((w64 ((w64 (e+(w64 (g*j))))+r)).tmod 1000000000))) (kD p []) .undef (kD k []) true) (qau (E:=encI) (l:=p) (y:=(w64 ((w64 (e+(w64 (g*j))))+r)).tmod 1000000000) rfl (show _=some 1 by kernel_rfl) rfl f rfl rfl rfl rfl rfl A rfl)) az)) ?_);refine Goes.sub (show Sub (ofG 72 (kI a b (kE p ((6,.i c)::(kA0 o (w64 ((w64 (e+(w64 (g*j))))+r)) [])))),(kD k [])) (ofG 72 (kI a b (kE k ((6,.i c)::(kA0 o (w64 ((w64 (e+(w64 (g*j))))+r)) [])))),(kD k []))from(Uc [] [some 0] rfl rfl (.keep (.same (qf encI _)) (.keep (.same (qf encI _)) (.keep (.sliceE rfl (yf A)) (.keep (.same nI) (.keep (.same nI) (.keep (.same nI) .nil)))))) (.ks .nil))) ?_;refine gh fol (kI a b (kE k (kAK c (w64 ((w64 ((w64 (e+(w64 (g*j))))+r)).tdiv 1000000000)) [(8,.i o)]))) ?_;refine gh fol (kI a b (kE k (kAK c (w64 ((w64 ((w64 (e+(w64 (g*j))))+r)).tdiv 1000000000)) [(8,.i (w64 (o+1)))]))) ?_;exact⟨M,(ofG 72 (kI a b (kE k (kAK c (w64 ((w64 ((w64 (e+(w64 (g*j))))+r)).tdiv 1000000000)) [(8,.i (w64 (o+1)))]))),(kD k [])),Nat.lt_succ_self _,(Sub.refl _),_,_,_,rfl,g12⟩
      refine Goes.exit ?_;obtain rfl:=si g12;exact⟨rfl,_,_,rfl,(Sub.keep [0,1,5,6,7] rfl rfl)⟩
    rintro x s' ⟨rfl,d,u,rfl,hsub⟩
    try dsimp only at g5
    refine Goes.sub hsub ?_;obtain⟨F,n,g5⟩:=bnd g5;obtain⟨q,B,g5⟩:=bnd g5;refine gq fol [10,11,14,15] (kI a b (kE d [(6,.i c)])) (kD q []) (ac (hs (.done (.opt (ql ZT 80 (.slice 0 0 d.length d.length 1) (.i (w64 (c+(b.length:Int)))))) (.ptr 0 ((w64 (c+(b.length:Int)):Int).toNat*1+0))) (qaT vz n)) (ac (hs (.run [0] (jD ZT 3 (.ptr 0 ((w64 (c+(b.length:Int)):Int).toNat*1+0))) (kD d []) (.i F) (kD d []) false) (qcR ce3 (E:=encI) (l:=d) rfl rfl n (nl rfl) rfl)) (ac (hs (.done (.opt (ql ZT 80 (.slice 0 0 d.length d.length 1) (.i (w64 (c+(b.length:Int)))))) (.ptr 0 ((w64 (c+(b.length:Int)):Int).toNat*1+0))) (qaT vz n)) (ac (hs (.run [0] (qx ZT 3 (.ptr 0 ((w64 (c+(b.length:Int)):Int).toNat*1+0)) (.i (w64 (F+u)))) (kD d []) .undef (kD q []) true) (qau (E:=encI) (l:=d) (y:=w64 (F+u)) rfl (show _=some 1 by kernel_rfl) rfl n rfl rfl rfl rfl rfl B rfl)) az)))) ?_;refine Goes.sub (show Sub (ofG 72 (kI a b (kE d [(6,.i c)])),(kD q [])) (ofG 72 (kI a b (kE q [(6,.i c)])),(kD q []))from(Uc [] [some 0] rfl rfl (.keep (.same (qf encI _)) (.keep (.same (qf encI _)) (.keep (.sliceE rfl (yf B)) (.keep (.same nI) .nil)))) (.ks .nil))) ?_;refine gh fol (kI a b (kE q [(6,.i (w64 (c+1)))])) ?_;exact⟨M,(ofG 72 (kI a b (kE q [(6,.i (w64 (c+1)))])),(kD q [])),Nat.lt_succ_self _,(Sub.refl _),_,_,rfl,g5⟩
   refine Goes.exit ?_;obtain rfl:=si g5;exact⟨rfl,_,rfl,(Sub.keep [5] rfl rfl)⟩
 rintro x s' ⟨rfl,t,rfl,hsub⟩;refine Goes.sub hsub ?_;obtain⟨C,G,h⟩:=bnd h;refine sq (gq fol [1] [(4,vl encI C)] (kAe t) (ac (hs (.callF 201 [.slice 0 0 t.length t.length 1] (kD t []) [0] [vl encI t] (vl encI C)) (qaV (FzL.cons (Fz.sl (E:=encI) rfl rfl (nl rfl)) FzL.nil) (xg N t G) (qB encI _ (nl rfl)))) az) ?_);refine Goes.sub (show Sub (ofG 72 [(4,vl encI C)],(kAe t)) (ofG 72 [(4,vl encI C)],[])from(Uc [] [] rfl rfl (.keep (.same (qf encI _)) .nil) .nil)) ?_;refine Goes.ret ?_;obtain rfl:=si h;exact(gw2 [vl encI C] (Ua (qB encI _ (nl rfl))))
def zV (a:List Int) (d:Int):Nat->(List Int)->Int->Int->Option ((List Int)×Int)
 |0,_,_,_=>none
 |K+1,c,e,b=>
  if b>=0 then
  (idx a b).bind fun i=>
  (qcH .i64 (w64 ((w64 (e*1000000000))+i)) d).bind fun f=>
  (idx c b).bind fun j=>
  (put c b f).bind fun g=>
  (qes .i64 (w64 ((w64 (e*1000000000))+i)) d).bind fun h=>
  zV a d K g h (w64 (b-1))
  else
  some (c,e)
def xz (N:Nat) (a:List Int) (d:Int):Option ((List Int)×Int):=
 (mk 8 (a.length:Int) 0).bind fun c=>
 (zV a d N c 0 (w64 ((a.length:Int)-1))).bind fun(e,f)=>
 (yz N e).bind fun b=>
 some (b,f)
theorem qcW (N:Nat) (a:List Int) (d:Int) {res:(List Int)×Int} (h:xz N a d=some res):qb ZT (.fn 200) [vl encI a,.i d] [] (.tuple [vl encI res.1,.i res.2]) []:=by
 unfold xz at h;refine Ub Tryz.func200 rfl rfl (m:=39) rfl (rs:=[.tmp 4,.tmp 5]) rfl (l:=(kAm a d [])) rfl ?_;refine sh fol (kAm a d []) ?_;obtain⟨q,B,h⟩:=bnd h;refine sq (gq fol [2] (kAm a d (kX q [])) (kD q []) (ac (hs (.run [] (zF ZT 80 (.i (a.length:Int)) (.i (a.length:Int))) [] (.slice 0 0 q.length q.length 1) (kD q []) false) (qec vz (E:=encI) (z:=0) rfl (by kernel_rfl) B rfl)) az) ?_);refine sh fol (kAm a d (kX q [(7,.i 0)])) ?_;refine sq ?_;refine sh fol (kAm a d (kX q [(7,.i 0),(8,.i (w64 ((a.length:Int)-1)))])) ?_;refine Goes.block ?_;obtain⟨C,g7,h⟩:=bnd h;refine Goes.imp (Q:=fun x s'=>(x= .exit 0/\ ∃f r,(f,r)=C/\Sub s' (ofG 39 (kX f [(7,.i r)]),(kD f [])))) ?_ ?_
 ·refine Ud (fun M s=> ∃(e:List Int) (n:Int) (c:Int),s=(ofG 39 (kAm a d (kX e (kAp n c []))),(kD e []))/\zV a d M e n c=some C) ?_ (m:=N) ⟨_,_,_,rfl,g7⟩;rintro M s ⟨e,n,c,rfl,g7⟩
  cases M with
  |zero=>simp only[zV]at g7;cases g7
  |succ M=>
   rw[zV]at g7;refine sq ?_;refine sh fol (kAm a d (kX e (kAp n c [(17,.bool (decide (c>=0)))]))) ?_;refine ihD g7 (fun D g7=>?_) (fun D g7=>?_)
   ·refine Goes.skip ?_;refine sq (Goes.block ?_);obtain⟨A,p,g7⟩:=bnd g7;refine sq (gr fol [4,5] (kAm a d (kX e (kA0 c (w64 ((w64 (n*1000000000))+A)) []))) (ac (iv vz encI p) (ac (lv 0 ce3 encI p rfl) az)) ?_);obtain⟨t,u,g7⟩:=bnd g7;obtain⟨F,g,g7⟩:=bnd g7;obtain⟨b,j,g7⟩:=bnd g7;refine sq (gq fol [4,5,6] (kAm a d (kX e (kA0 c (w64 ((w64 (n*1000000000))+A)) []))) (kD b []) (ac (hs (.done (.opt (ku ZT .quo 3 (.tmp 29) (.tmp 30) (.i (w64 ((w64 (n*1000000000))+A))) (.i d))) (.i t)) (qcl u)) (ac (hs (.done (.opt (ql ZT 80 (.slice 0 0 e.length e.length 1) (.i c))) (.ptr 0 ((c:Int).toNat*1+0))) (qaT vz g)) (ac (hs (.run [0] (qx ZT 3 (.ptr 0 ((c:Int).toNat*1+0)) (.i t)) (kD e []) .undef (kD b []) true) (qau (E:=encI) (l:=e) (y:=t) rfl (show _=some 1 by kernel_rfl) rfl g rfl rfl rfl rfl rfl j rfl)) az))) ?_);refine Goes.sub (show Sub (ofG 39 (kAm a d (kX e (kA0 c (w64 ((w64 (n*1000000000))+A)) []))),(kD b [])) (ofG 39 (kAm a d (kX b (kA0 c (w64 ((w64 (n*1000000000))+A)) []))),(kD b []))from(Uc [] [some 0] rfl rfl (.keep (.same (qf encI _)) (.keep (.same nI) (.keep (.sliceE rfl (yf j)) (.keep (.same nI) (.keep (.same nI) .nil))))) (.ks .nil))) ?_;obtain⟨o,v,g7⟩:=bnd g7;refine gr fol [2] (kAm a d (kX b (kAp o c []))) (ac (hs (.done (.opt (ku ZT .rem 3 (.tmp 33) (.tmp 34) (.i (w64 ((w64 (n*1000000000))+A))) (.i d))) (.i o)) (qgo v)) az) ?_;refine gh fol (kAm a d (kX b (kAp o (w64 (c-1)) []))) ?_;exact⟨M,(ofG 39 (kAm a d (kX b (kAp o (w64 (c-1)) []))),(kD b [])),Nat.lt_succ_self _,(Sub.refl _),_,_,_,rfl,g7⟩
   refine Goes.exit ?_;obtain rfl:=si g7;exact⟨rfl,_,_,rfl,(Sub.keep [6,7] rfl rfl)⟩
 rintro x s' ⟨rfl,f,r,rfl,hsub⟩
 try dsimp only at h
 refine Goes.sub hsub ?_;obtain⟨k,w,h⟩:=bnd h;refine sq (gq fol [1] ((4,vl encI k)::(kA8 r)) (kAe f) (ac (hs (.callF 201 [.slice 0 0 f.length f.length 1] (kD f []) [0] [vl encI f] (vl encI k)) (qaV (FzL.cons (Fz.sl (E:=encI) rfl rfl (nl rfl)) FzL.nil) (xg N f w) (qB encI _ (nl rfl)))) az) ?_);refine Goes.sub (show Sub (ofG 39 ((4,vl encI k)::(kA8 r)),(kAe f)) (ofG 39 ((4,vl encI k)::(kA8 r)),[])from(Uc [] [] rfl rfl (.keep (.same (qf encI _)) (.keep (.same nI) .nil)) .nil)) ?_;refine Goes.ret ?_;obtain rfl:=si h;exact(gw2 [vl encI k,.i r] (FzW.tuple (qd.cons (Ua (qB encI _ (nl rfl))) (qd.cons (Ua tI) qd.nil))))
def vK (u:List Int) (v:List Int) (j:Int):Nat->Int->Int->Option (Int⊕Int)
 |0,_,_=>none
 |K+1,c,a=>
  (if a>=1000000000 then
  some true
  else
  (idx v (w64 ((v.length:Int)-2))).bind fun d=>
  (idx u (w64 ((w64 (j+(v.length:Int)))-2))).bind fun e=>
  some (decide ((w64 (a*d))>(w64 ((w64 (c*1000000000))+e)))):Option Bool).bind fun f=>
  if f=true then
  (idx v (w64 ((v.length:Int)-1))).bind fun b=>
  if(w64 (c+b))>=1000000000 then
  some (.inr (w64 (a-1)))
  else
  vK u v j K (w64 (c+b)) (w64 (a-1))
  else
  some (.inl a)
def qaE (N:Nat) (u:List Int) (v:List Int) (j:Int):Option Int:=
 (idx u (w64 (j+(v.length:Int)))).bind fun b=>
 (idx u (w64 ((w64 (j+(v.length:Int)))-1))).bind fun c=>
 (idx v (w64 ((v.length:Int)-1))).bind fun d=>
 (qcH .i64 (w64 ((w64 (b*1000000000))+c)) d).bind fun e=>
 (qes .i64 (w64 ((w64 (b*1000000000))+c)) d).bind fun f=>
 (vK u v j N f e).bind (fun
 |(.inl g)=>
 some g
 |(.inr a)=>
 some a)
theorem qir (N:Nat) (u:List Int) (v:List Int) (j:Int) {res:Int} (h:qaE N u v j=some res):qb ZT (.fn 202) [vl encI u,vl encI v,.i j] [] (.i res) []:=by
 unfold qaE at h;refine Ub Tryz.func202 rfl rfl (m:=77) rfl (rs:=[.tmp 6]) rfl (l:=(kI u v (kBL j))) rfl ?_;refine sh fol (kI u v (kBL j)) ?_;refine sh fol (kI u v [(2,.i j),(7,.i (v.length:Int))]) ?_;obtain⟨y,n,h⟩:=bnd h;obtain⟨z,o,h⟩:=bnd h;refine sq (gr fol [4,5,12,13] (kI u v ((2,.i j)::(kAp (v.length:Int) (w64 ((w64 (y*1000000000))+z)) []))) (ac (iv vz encI n) (ac (lv 0 ce3 encI n rfl) (ac (iv vz encI o) (ac (lv 0 ce3 encI o rfl) az)))) ?_);obtain⟨G,b,h⟩:=bnd h;obtain⟨H,q,h⟩:=bnd h;obtain⟨I,r,h⟩:=bnd h;refine sq (gr fol [4,5,6,11,12,13] (kI u v (kAv j (v.length:Int) H I [])) (ac (iv vz encI b) (ac (lv 0 ce3 encI b rfl) (ac (hs (.done (.opt (ku ZT .quo 3 (.tmp 28) (.tmp 33) (.i (w64 ((w64 (y*1000000000))+z))) (.i G))) (.i H)) (qcl q)) (ac (iv vz encI b) (ac (lv 0 ce3 encI b rfl) (ac (hs (.done (.opt (ku ZT .rem 3 (.tmp 35) (.tmp 40) (.i (w64 ((w64 (y*1000000000))+z))) (.i G))) (.i I)) (qgo r)) az)))))) ?_);refine sq (Goes.block ?_);obtain⟨A,g9,h⟩:=bnd h;refine Goes.imp (Q:=fun x s'=>(x= .exit 0/\ ∃t,(.inl t)=A/\Sub s' (ofG 77 [(9,.i t)],[]))\/(x= .ret/\ ∃w,(.inr w)=A/\zh ZT [.tmp 6] (.i w) .ret s')) ?_ ?_
 ·refine Ud (fun M s=> ∃(d:Int) (c:Int),s=(ofG 77 (kI u v (kAv j (v.length:Int) c d [])),[])/\vK u v j M d c=some A) ?_ (m:=N) ⟨_,_,rfl,g9⟩;rintro M s ⟨d,c,rfl,g9⟩
  cases M with
  |zero=>simp only[vK]at g9;cases g9
  |succ M=>
   rw[vK]at g9;refine sq ?_;refine sq ?_;obtain⟨B,a,g9⟩:=bnd g9;refine Ue (s':=(ofG 77 (kI u v (kAv j (v.length:Int) c d [(63,.bool B)])),[])) ?_ ?_
   ·rcases wyD a with⟨p,a⟩|⟨p,a⟩
    ·obtain rfl:=si a;exact tr fol [2] (kI u v (kAv j (v.length:Int) c d [(63,.bool true)])) (ac (gw p) az)
    obtain⟨C,e,a⟩:=bnd a;obtain⟨D,f,a⟩:=bnd a;obtain rfl:=si a;exact tr fol [2,7,8,17,18] (kI u v (kAv j (v.length:Int) c d [(63,.bool (decide ((w64 (c*C))>(w64 ((w64 (d*1000000000))+D)))))])) (ac (gw p) (ac (iv vz encI e) (ac (lv 0 ce3 encI e rfl) (ac (iv vz encI f) (ac (lv 0 ce3 encI f rfl) az)))))
   refine ihB g9 (fun E g9=>?_) (fun E g9=>?_)
   ·refine Goes.skip ?_;refine Goes.block ?_;refine sh fol (kI u v (kAv j (v.length:Int) (w64 (c-1)) d [])) ?_;obtain⟨k,g,g9⟩:=bnd g9;refine sq (gr fol [4,5] (kI u v (kAv j (v.length:Int) (w64 (c-1)) (w64 (d+k)) [])) (ac (iv vz encI g) (ac (lv 0 ce3 encI g rfl) az)) ?_);refine sh fol (kI u v (kAv j (v.length:Int) (w64 (c-1)) (w64 (d+k)) [(74,.bool (decide ((w64 (d+k))>=1000000000)))])) ?_;refine ihD g9 (fun F g9=>?_) (fun F g9=>?_)
    ·refine sh fol [(6,.i (w64 (c-1)))] ?_;refine Goes.ret ?_;obtain rfl:=si g9;exact Or.inr (⟨rfl,_,rfl,(gw2 [.i (w64 (c-1))] (Ua tI))⟩)
    refine Goes.skip ?_;exact⟨M,(ofG 77 (kI u v (kAv j (v.length:Int) (w64 (c-1)) (w64 (d+k)) [])),[]),Nat.lt_succ_self _,(Sub.keep [0,1,2,7,9,10] rfl rfl),_,_,rfl,g9⟩
   refine Goes.exit ?_;obtain rfl:=si g9;exact Or.inl (⟨rfl,_,rfl,(Sub.keep [9] rfl rfl)⟩)
 rintro x s' (⟨rfl,t,rfl,hsub⟩|⟨rfl,J,rfl,hret⟩)
 ·try dsimp only at h
  refine Goes.sub hsub ?_;refine sh fol [(6,.i t)] ?_;refine Goes.ret ?_;obtain rfl:=si h;exact(gw2 [.i t] (Ua tI))
 try dsimp only at h
 obtain rfl:=si h;exact hret
def jv (a:List Int):Nat->(List Int)->Option (List Int)
 |0,_=>none
 |K+1,b=>
  if(b.length:Int)<(w64 ((a.length:Int)+1))then
  (app 8 b [0]).bind fun c=>
  jv a K c
  else
  some b
def qZ (h:List Int) (e:Int) (a:Int):Nat->(List Int)->Int->Int->Option ((List Int)×Int)
 |0,_,_,_=>none
 |K+1,f,b,c=>
  if c<(h.length:Int)then
  (idx h c).bind fun d=>
  (idx f (w64 (c+e))).bind fun g=>
  ((if(w64 (g-((w64 ((w64 (a*d))+b)).tmod 1000000000)))<0 then
  some (w64 ((w64 ((w64 ((w64 (a*d))+b)).tdiv 1000000000))+1),w64 ((w64 (g-((w64 ((w64 (a*d))+b)).tmod 1000000000)))+1000000000))
  else
  some (w64 ((w64 ((w64 (a*d))+b)).tdiv 1000000000),w64 (g-((w64 ((w64 (a*d))+b)).tmod 1000000000))):Option (Int×Int))).bind fun(i,j)=>
  (put f (w64 (c+e)) j).bind fun k=>
  qZ h e a K k i (w64 (c+1))
  else
  some (f,b)
def zg (h:List Int) (b:Int) (e:Int):Nat->(List Int)->Int->Int->Option ((List Int)×Int×Int)
 |0,_,_,_=>none
 |K+1,c,d,a=>
  if a<(h.length:Int)then
  (idx c (w64 (a+b))).bind fun f=>
  (idx h a).bind fun g=>
  (put c (w64 (a+b)) ((w64 ((w64 (f+g))+d)).tmod 1000000000)).bind fun i=>
  zg h b e K i (w64 ((w64 ((w64 (f+g))+d)).tdiv 1000000000)) (w64 (a+1))
  else
  some (c,w64 (e-1),d)
def zJ (N:Nat) (b:List Int):Nat->(List Int)->(List Int)->Int->Option ((List Int)×(List Int))
 |0,_,_,_=>none
 |K+1,c,d,a=>
  if a>=0 then
  (qaE N c b a).bind fun e=>
  (qZ b a e N c 0 0).bind fun(g,i)=>
  (idx g (w64 (a+(b.length:Int)))).bind fun j=>
  (put g (w64 (a+(b.length:Int))) (w64 (j-i))).bind fun f=>
  (idx f (w64 (a+(b.length:Int)))).bind fun k=>
  ((if k<0 then
  (zg b a e N f 0 0).bind fun(h,l,m)=>
  (idx h (w64 (a+(b.length:Int)))).bind fun n=>
  (put h (w64 (a+(b.length:Int))) (w64 (n+m))).bind fun o=>
  some (o,l)
  else
  some (f,e):Option ((List Int)×Int))).bind fun(p,q)=>
  (idx d a).bind fun s=>
  (put d a q).bind fun r=>
  zJ N b K p r (w64 (a-1))
  else
  some (c,d)
def jQ (N:Nat) (a:List Int) (b:List Int):Option ((List Int)×(List Int)):=
 (jK N a b).bind fun q=>
 if q<0 then
 some ([],a)
 else
 if(b.length:Int)=1 then
 (idx b 0).bind fun r=>
 (xz N a r).bind fun p=>
 (yz N ([p.2]:List Int)).bind fun s=>
 some (p.1,s)
 else
 (idx b (w64 ((b.length:Int)-1))).bind fun t=>
 (qcH .i64 1000000000 (w64 (t+1))).bind fun e=>
 (vX N b ([e]:List Int)).bind fun d=>
 (vX N a ([e]:List Int)).bind fun f=>
 (app 8 ([]:List Int) f).bind fun g=>
 (jv a N g).bind fun c=>
 (mk 8 (w64 ((c.length:Int)-(d.length:Int))) 0).bind fun h=>
 (zJ N d N c h (w64 ((w64 ((c.length:Int)-(d.length:Int)))-1))).bind fun(i,j)=>
 (cut i 0 (d.length:Int)).bind fun k=>
 (yz N k).bind fun l=>
 (idx ([e]:List Int) 0).bind fun m=>
 (xz N l m).bind fun n=>
 (yz N j).bind fun o=>
 some (o,n.1)
theorem qbb (N:Nat) (a:List Int) (b:List Int) {res:(List Int)×(List Int)} (h:jQ N a b=some res):qb ZT (.fn 138) (kBb a b) [] (.tuple (kBb res.1 res.2)) []:=by
 unfold jQ at h;refine Ub Tryz.func138 rfl rfl (m:=206) rfl (rs:=[.tmp 4,.tmp 5]) rfl (l:=(kI a b [])) rfl ?_;refine sh fol (kI a b []) ?_;refine sq ?_;obtain⟨r1,e_r1,h⟩:=bnd h;refine sq (gr fol [2] (kI a b [(27,.bool (decide (r1<0)))]) (ac (cv (qbo N a b e_r1)) az) ?_);refine ihD h (fun c2 h=>?_) (fun c2 h=>?_)
 ·refine sh fol ((4,.nilslice)::(kBV a [])) ?_;refine Goes.ret ?_;obtain rfl:=si h;exact(gw2 [.nilslice,vl encI a] (FzW.tuple (qd.cons (FzW.nilv (E:=encI)) (qd.cons (Ua (qB encI _ (nl rfl))) qd.nil))))
 refine Goes.skip ?_;refine sq ?_;refine sh fol (kI a b [(31,.bool (decide ((b.length:Int)=1)))]) ?_;refine ihD h (fun c3 h=>?_) (fun c3 h=>?_)
 ·obtain⟨x4,e_x4,h⟩:=bnd h;obtain⟨r5,e_r5,h⟩:=bnd h;refine sq (gr fol [2,3,4] [(6,vl encI r5.1),(7,.i r5.2)] (ac (iv vz encI e_x4) (ac (lv 0 ce3 encI e_x4 rfl) (ac (cv (qcW N a x4 e_r5)) az))) ?_);obtain⟨r6,e_r6,h⟩:=bnd h;refine sq (gq fol [3] ((4,vl encI r5.1)::(kBV r6 [])) [.frozen [.i r5.2]] (ac (hs (.callF 201 [.slice 0 0 1 1 1] [.cells [.i r5.2]] [0] [vl encI ([r5.2]:List Int)] (vl encI r6)) (qaV (FzL.cons (Fz.lit rfl rfl (Ug (AllST.cons tI AllST.nil))) FzL.nil) (xg N ([r5.2]:List Int) e_r6) (qB encI _ (nl rfl)))) az) ?_);refine Goes.sub (show Sub (ofG 206 ((4,vl encI r5.1)::(kBV r6 [])),[.frozen [.i r5.2]]) (ofG 206 ((4,vl encI r5.1)::(kBV r6 [])),[])from(Uc [] [] rfl rfl (.keep (.same (qf encI _)) (.keep (.same (qf encI _)) .nil)) .nil)) ?_;refine Goes.ret ?_;obtain rfl:=si h;exact(gw2 (kBb r5.1 r6) (FzW.tuple (qd.cons (Ua (qB encI _ (nl rfl))) (qd.cons (Ua (qB encI _ (nl rfl))) qd.nil))))
 refine Goes.skip ?_;obtain⟨x7,e_x7,h⟩:=bnd h;obtain⟨g,e_q8,h⟩:=bnd h;refine sq (gq fol [4,5,7] (kI a b [(8,.slice 0 0 1 1 1)]) [.cells [.i g]] (ac (iv vz encI e_x7) (ac (lv 0 ce3 encI e_x7 rfl) (ac (hs (.done (.opt (ku ZT .quo 3 (.const (.int .i64 1000000000)) (.tmp 50) (.i 1000000000) (.i (w64 (x7+1))))) (.i g)) (qcl e_q8)) az))) ?_);obtain⟨e,e_r9,h⟩:=bnd h;refine sq (gq fol [2] (kBU a [(8,.slice 0 0 1 1 1),(9,vl encI e)]) [.frozen [.i g]] (ac (hs (.callF 144 [vl encI b,.slice 0 0 1 1 1] [.cells [.i g]] [0] (kBb b ([g]:List Int)) (vl encI e)) (qaV (FzL.cons (Uk (qB encI _ (nl rfl))) (FzL.cons (Fz.lit rfl rfl (Ug (AllST.cons tI AllST.nil))) FzL.nil)) (qbd N b ([g]:List Int) e_r9) (qB encI _ (nl rfl)))) az) ?_);refine Goes.sub (show Sub (ofG 206 (kBU a [(8,.slice 0 0 1 1 1),(9,vl encI e)]),[.frozen [.i g]]) (ofG 206 (kBU a [(8,vl encI ([g]:List Int)),(9,vl encI e)]),[])from(Uc [0] [] rfl rfl (.keep (.same (qf encI _)) (.keep (.frz (Fz.litF rfl rfl (Ug (AllST.cons tI AllST.nil))) (qf encI _)) (.keep (.same (qf encI _)) .nil))) .nil)) ?_;refine sh fol (kBU a [(8,vl encI ([g]:List Int)),(9,vl encI e),(10,.i (e.length:Int))]) ?_;obtain⟨r10,e_r10,h⟩:=bnd h;obtain⟨Y,e_l11,h⟩:=bnd h;refine sq (gq fol [3,4] (kBU a [(8,vl encI ([g]:List Int)),(9,vl encI e),(10,.i (e.length:Int)),(11,.oslice 1 Y.length 1)]) (.dead::(kD Y [])) (ac (cv (qbd N a ([g]:List Int) e_r10)) (ac (hs (.run [0] (yF ZT [80,80] (.slice 0 0 0 0 1) (vl encI r10)) [.cells []] (.oslice 1 Y.length 1) (.dead::(kD Y [])) true) (qa4 vz (E:=encI) rfl (qpq (E:=encI) rfl _) (qoQ (E:=encI) rfl rfl rfl e_l11 rfl))) az)) ?_);refine sq (Goes.block ?_);obtain⟨r14,g14,h⟩:=bnd h;refine Goes.imp (Q:=fun x s'=>(x= .exit 0/\ ∃A,A=r14/\Sub s' (ofG 206 (kAi ([g]:List Int) e (e.length:Int) A []),(kD A [])))) ?_ ?_
 ·refine Goes.sub (s':=(ofG 206 (kBU a (kAi ([g]:List Int) e (e.length:Int) Y [])),(kD Y []))) (Uc [] [some 1] rfl rfl (.keep (.same (qf encI _)) (.keep (.same (qf encI _)) (.keep (.same (qf encI _)) (.keep (.same nI) (.keep (.oslice rfl) .nil))))) (.ks .nil)) ?_;refine Ud (fun M s=> ∃(F:List Int),s=(ofG 206 (kBU a (kAi ([g]:List Int) e (e.length:Int) F [])),(kD F []))/\jv a M F=some r14) ?_ (m:=N) ⟨_,rfl,g14⟩;rintro M s ⟨F,rfl,g14⟩
  cases M with
  |zero=>simp only[jv]at g14;cases g14
  |succ M=>
   rw[jv]at g14;refine sq ?_;refine sh fol (kBU a (kAi ([g]:List Int) e (e.length:Int) F [(68,.bool (decide ((F.length:Int)<(w64 ((a.length:Int)+1)))))])) ?_;refine ihD g14 (fun c15 g14=>?_) (fun c15 g14=>?_)
   ·refine Goes.skip ?_;refine Goes.block ?_;obtain⟨Z,e_l16,g14⟩:=bnd g14;refine gq fol [2] (kBU a [(8,vl encI ([g]:List Int)),(9,vl encI e),(10,.i (e.length:Int)),(11,.oslice 2 Z.length 1)]) (.dead:: .cells [.i 0]::(kD Z [])) (ac (hs (.run [0,1] (yF ZT [80,80] (.oslice 0 F.length 1) (.slice 1 0 1 1 1)) (kD F [.cells [.i 0]]) (.oslice 2 Z.length 1) (.dead:: .cells [.i 0]::(kD Z [])) true) (qa4 vz (E:=encI) rfl (qgj (E:=encI) (ys:=[0]) rfl rfl rfl rfl) (qrp (E:=encI) (l:=F) rfl rfl rfl e_l16 rfl))) az) ?_;exact⟨M,(ofG 206 (kBU a (kAi ([g]:List Int) e (e.length:Int) Z [])),(kD Z [])),Nat.lt_succ_self _,(Uc [] [some 2] rfl rfl (.keep (.same (qf encI _)) (.keep (.same (qf encI _)) (.keep (.same (qf encI _)) (.keep (.same nI) (.keep (.oslice rfl) .nil))))) (.ks .nil)),_,rfl,g14⟩
   refine Goes.exit ?_;obtain rfl:=si g14;exact⟨rfl,_,rfl,(Sub.keep [8,9,10,11] rfl rfl)⟩
 rintro x s' ⟨rfl,A,rfl,hsub⟩;refine Goes.sub hsub ?_;obtain⟨V,e_l17,h⟩:=bnd h;refine sq (gq fol [4] (kAi ([g]:List Int) e (e.length:Int) A [(12,.slice 1 0 V.length V.length 1)]) (kD A (kD V [])) (ac (hs (.run [] (zF ZT 80 (.i (w64 ((A.length:Int)-(e.length:Int)))) (.i (w64 ((A.length:Int)-(e.length:Int))))) (kD A []) (.slice 1 0 V.length V.length 1) (kD A (kD V [])) false) (qec vz (E:=encI) (z:=0) rfl (by kernel_rfl) e_l17 rfl)) az) ?_);refine sq ?_;refine sh fol (kB ([g]:List Int) e (e.length:Int) A V (w64 ((w64 ((A.length:Int)-(e.length:Int)))-1)) []) ?_;refine Goes.block ?_;obtain⟨r23,g23,h⟩:=bnd h;refine Goes.imp (Q:=fun x s'=>(x= .exit 2/\ ∃a0 o,(a0,o)=r23/\Sub s' (ofG 206 [(8,vl encI ([g]:List Int)),(10,.i (e.length:Int)),(11,.oslice 0 a0.length 1),(12,.slice 1 0 o.length o.length 1)],(kD a0 (kD o []))))) ?_ ?_
 ·refine Ud (fun M s=> ∃(B:List Int) (c:List Int) (d:Int),s=(ofG 206 (kB ([g]:List Int) e (e.length:Int) B c d []),(kD B (kD c [])))/\zJ N e M B c d=some r23) ?_ (m:=N) ⟨_,_,_,rfl,g23⟩;rintro M s ⟨B,c,d,rfl,g23⟩
  cases M with
  |zero=>simp only[zJ]at g23;cases g23
  |succ M=>
   rw[zJ]at g23;refine sq ?_;refine sh fol (kB ([g]:List Int) e (e.length:Int) B c d [(83,.bool (decide (d>=0)))]) ?_;refine ihD g23 (fun c24 g23=>?_) (fun c24 g23=>?_)
   ·refine Goes.skip ?_;refine sq (Goes.block ?_);obtain⟨f,e_r25,g23⟩:=bnd g23;refine sq (gr fol [3] (kB ([g]:List Int) e (e.length:Int) B c d [(14,.i f)]) (ac (hs (.call 202 [.oslice 0 B.length 1,vl encI e,.i d] (kD B (kD c [])) [0] [vl encI B,vl encI e,.i d] (.i f)) (qdN (FzL.cons (Fz.os (E:=encI) rfl rfl (nl rfl)) (FzL.cons (Uk (qB encI _ (nl rfl))) (FzL.cons (Uk tI) FzL.nil))) (qir N B e d e_r25) tI rfl)) az) ?_);refine sh fol (kB ([g]:List Int) e (e.length:Int) B c d [(14,.i f),(15,.i 0)]) ?_;refine sq ?_;refine sh fol (kB ([g]:List Int) e (e.length:Int) B c d [(14,.i f),(15,.i 0),(16,.i 0)]) ?_;refine Goes.block ?_;obtain⟨r31,g31,g23⟩:=bnd g23;refine Goes.imp (Q:=fun x s'=>(x= .exit 4/\ ∃t n30,(t,n30)=r31/\Sub s' (ofG 206 (kB ([g]:List Int) e (e.length:Int) t c d [(14,.i f),(15,.i n30)]),(kD t (kD c []))))) ?_ ?_
    ·refine Ud (fun M s=> ∃(k:List Int) (p:Int) (j:Int),s=(ofG 206 (kB ([g]:List Int) e (e.length:Int) k c d ((14,.i f)::(kAZ p j []))),(kD k (kD c [])))/\qZ e d f M k p j=some r31) ?_ (m:=N) ⟨_,_,_,rfl,g31⟩;rintro M s ⟨k,p,j,rfl,g31⟩
     cases M with
     |zero=>simp only[qZ]at g31;cases g31
     |succ M=>
      rw[qZ]at g31;refine sq ?_;refine sh fol (kB ([g]:List Int) e (e.length:Int) k c d ((14,.i f)::(kAZ p j [(92,.bool (decide (j<(e.length:Int))))]))) ?_;refine ihD g31 (fun c32 g31=>?_) (fun c32 g31=>?_)
      ·refine Goes.skip ?_;refine sq (Goes.block ?_);obtain⟨C,e_x33,g31⟩:=bnd g31;refine sq (gr fol [3,4] (kB ([g]:List Int) e (e.length:Int) k c d [(14,.i f),(16,.i j),(17,.i (w64 ((w64 (f*C))+p)))]) (ac (iv vz encI e_x33) (ac (lv 0 ce3 encI e_x33 rfl) az)) ?_);obtain⟨X,G,g31⟩:=bnd g31;refine sq (gr fol [4,5] (kB ([g]:List Int) e (e.length:Int) k c d [(14,.i f),(16,.i j),(17,.i (w64 ((w64 (f*C))+p))),(18,.i (w64 (X-((w64 ((w64 (f*C))+p)).tmod 1000000000))))]) (ac (hs (.done (.opt (ql ZT 80 (.oslice 0 k.length 1) (.i (w64 (j+d))))) (.ptr 0 ((w64 (j+d):Int).toNat*1+0))) (qgD vz G)) (ac (hs (.run [0] (jD ZT 3 (.ptr 0 ((w64 (j+d):Int).toNat*1+0))) (kD k (kD c [])) (.i X) (kD k (kD c [])) false) (qcR ce3 (E:=encI) (l:=k) rfl rfl G (nl rfl) rfl)) az)) ?_);refine sh fol (kB ([g]:List Int) e (e.length:Int) k c d ((14,.i f)::(kAZ (w64 ((w64 ((w64 (f*C))+p)).tdiv 1000000000)) j [(18,.i (w64 (X-((w64 ((w64 (f*C))+p)).tmod 1000000000))))]))) ?_;refine sq ?_;refine sh fol (kB ([g]:List Int) e (e.length:Int) k c d ((14,.i f)::(kAZ (w64 ((w64 ((w64 (f*C))+p)).tdiv 1000000000)) j [(18,.i (w64 (X-((w64 ((w64 (f*C))+p)).tmod 1000000000)))),(115,.bool (decide ((w64 (X-((w64 ((w64 (f*C))+p)).tmod 1000000000)))<0)))]))) ?_;obtain⟨r37,g37,g31⟩:=bnd g31;refine Goes.imp (Q:=fun x s'=>(x= .normal/\ ∃O n36,(O,n36)=r37/\Sub s' (ofG 206 (kB ([g]:List Int) e (e.length:Int) k c d ((14,.i f)::(kAZ O j [(18,.i n36)]))),(kD k (kD c []))))) ?_ ?_
       ·refine ihD g37 (fun c38 g37=>?_) (fun c38 g37=>?_)
        ·refine sh fol (kB ([g]:List Int) e (e.length:Int) k c d ((14,.i f)::(kAZ (w64 ((w64 ((w64 (f*C))+p)).tdiv 1000000000)) j [(18,.i (w64 ((w64 (X-((w64 ((w64 (f*C))+p)).tmod 1000000000)))+1000000000)))]))) ?_;refine gh fol (kB ([g]:List Int) e (e.length:Int) k c d ((14,.i f)::(kAZ (w64 ((w64 ((w64 ((w64 (f*C))+p)).tdiv 1000000000))+1)) j [(18,.i (w64 ((w64 (X-((w64 ((w64 (f*C))+p)).tmod 1000000000)))+1000000000)))]))) ?_;obtain rfl:=si g37;exact⟨rfl,_,_,rfl,(Sub.refl _)⟩
        refine Goes.skip ?_;obtain rfl:=si g37;exact⟨rfl,_,_,rfl,(Sub.keep [8,9,10,11,12,13,14,15,16,18] rfl rfl)⟩
       rintro x s' ⟨rfl,O,n36,rfl,hsub⟩
       try dsimp only at g31
       refine Goes.sub hsub ?_;obtain⟨P,e_l39,g31⟩:=bnd g31;refine gq fol [5,6] (kB ([g]:List Int) e (e.length:Int) k c d ((14,.i f)::(kAZ O j []))) (kD P (kD c [])) (ac (hs (.done (.opt (ql ZT 80 (.oslice 0 k.length 1) (.i (w64 (j+d))))) (.ptr 0 ((w64 (j+d):Int).toNat*1+0))) (qgD vz G)) (ac (hs (.run [0] (qx ZT 3 (.ptr 0 ((w64 (j+d):Int).toNat*1+0)) (.i n36)) (kD k (kD c [])) .undef (kD P (kD c [])) true) (qau (E:=encI) (l:=k) (y:=n36) rfl (show _=some 1 by kernel_rfl) rfl G rfl rfl rfl rfl rfl e_l39 rfl)) az)) ?_;refine Goes.sub (show Sub (ofG 206 (kB ([g]:List Int) e (e.length:Int) k c d ((14,.i f)::(kAZ O j []))),(kD P (kD c []))) (ofG 206 (kB ([g]:List Int) e (e.length:Int) P c d ((14,.i f)::(kAZ O j []))),(kD P (kD c [])))from(Uc [] [some 0,some 1] rfl rfl (.keep (.same (qf encI _)) (.keep (.same (qf encI _)) (.keep (.same nI) (.keep (.osliceE rfl (yf e_l39)) (.keep (.slice rfl) (.keep (.same nI) (.keep (.same nI) (.keep (.same nI) (.keep (.same nI) .nil))))))))) (.ks (.ks .nil)))) ?_;refine gh fol (kB ([g]:List Int) e (e.length:Int) P c d ((14,.i f)::(kAZ O (w64 (j+1)) []))) ?_;exact⟨M,(ofG 206 (kB ([g]:List Int) e (e.length:Int) P c d ((14,.i f)::(kAZ O (w64 (j+1)) []))),(kD P (kD c []))),Nat.lt_succ_self _,(Sub.refl _),_,_,_,rfl,g31⟩
      refine Goes.exit ?_;obtain rfl:=si g31;exact⟨rfl,_,_,rfl,(Sub.keep [8,9,10,11,12,13,14,15] rfl rfl)⟩
    rintro x s' ⟨rfl,t,n30,rfl,hsub⟩
    try dsimp only at g23
    refine Goes.sub hsub ?_;obtain⟨x40,H,g23⟩:=bnd g23;obtain⟨u,e_l41,g23⟩:=bnd g23;refine sq (gq fol [8,9,12,13] (kB ([g]:List Int) e (e.length:Int) t c d [(14,.i f)]) (kD u (kD c [])) (ac (hs (.done (.opt (ql ZT 80 (.oslice 0 t.length 1) (.i (w64 (d+(e.length:Int)))))) (.ptr 0 ((w64 (d+(e.length:Int)):Int).toNat*1+0))) (qgD vz H)) (ac (hs (.run [0] (jD ZT 3 (.ptr 0 ((w64 (d+(e.length:Int)):Int).toNat*1+0))) (kD t (kD c [])) (.i x40) (kD t (kD c [])) false) (qcR ce3 (E:=encI) (l:=t) rfl rfl H (nl rfl) rfl)) (ac (hs (.done (.opt (ql ZT 80 (.oslice 0 t.length 1) (.i (w64 (d+(e.length:Int)))))) (.ptr 0 ((w64 (d+(e.length:Int)):Int).toNat*1+0))) (qgD vz H)) (ac (hs (.run [0] (qx ZT 3 (.ptr 0 ((w64 (d+(e.length:Int)):Int).toNat*1+0)) (.i (w64 (x40-n30)))) (kD t (kD c [])) .undef (kD u (kD c [])) true) (qau (E:=encI) (l:=t) (y:=w64 (x40-n30)) rfl (show _=some 1 by kernel_rfl) rfl H rfl rfl rfl rfl rfl e_l41 rfl)) az)))) ?_);refine Goes.sub (show Sub (ofG 206 (kB ([g]:List Int) e (e.length:Int) t c d [(14,.i f)]),(kD u (kD c []))) (ofG 206 (kB ([g]:List Int) e (e.length:Int) u c d [(14,.i f)]),(kD u (kD c [])))from(Uc [] [some 0,some 1] rfl rfl (.keep (.same (qf encI _)) (.keep (.same (qf encI _)) (.keep (.same nI) (.keep (.osliceE rfl (yf e_l41)) (.keep (.slice rfl) (.keep (.same nI) (.keep (.same nI) .nil))))))) (.ks (.ks .nil)))) ?_;refine sq ?_;obtain⟨x42,e_x42,g23⟩:=bnd g23;refine sq (gr fol [4,5] (kB ([g]:List Int) e (e.length:Int) u c d [(14,.i f),(145,.bool (decide (x42<0)))]) (ac (hs (.done (.opt (ql ZT 80 (.oslice 0 u.length 1) (.i (w64 (d+(e.length:Int)))))) (.ptr 0 ((w64 (d+(e.length:Int)):Int).toNat*1+0))) (qgD vz e_x42)) (ac (hs (.run [0] (jD ZT 3 (.ptr 0 ((w64 (d+(e.length:Int)):Int).toNat*1+0))) (kD u (kD c [])) (.i x42) (kD u (kD c [])) false) (qcR ce3 (E:=encI) (l:=u) rfl rfl e_x42 (nl rfl) rfl)) az)) ?_);obtain⟨r45,g45,g23⟩:=bnd g23;refine Goes.imp (Q:=fun x s'=>(x= .normal/\ ∃q n44,(q,n44)=r45/\Sub s' (ofG 206 (kB ([g]:List Int) e (e.length:Int) q c d [(14,.i n44)]),(kD q (kD c []))))) ?_ ?_
    ·refine ihD g45 (fun c46 g45=>?_) (fun c46 g45=>?_)
     ·refine sh fol (kB ([g]:List Int) e (e.length:Int) u c d [(14,.i (w64 (f-1)))]) ?_;refine sh fol (kB ([g]:List Int) e (e.length:Int) u c d [(14,.i (w64 (f-1))),(19,.i 0)]) ?_;refine sq ?_;refine sh fol (kB ([g]:List Int) e (e.length:Int) u c d [(14,.i (w64 (f-1))),(19,.i 0),(20,.i 0)]) ?_;refine Goes.block ?_;obtain⟨r53,g53,g45⟩:=bnd g45;refine Goes.imp (Q:=fun x s'=>(x= .exit 6/\ ∃v a1 n52,(v,a1,n52)=r53/\Sub s' (ofG 206 (kB ([g]:List Int) e (e.length:Int) v c d [(14,.i a1),(19,.i n52)]),(kD v (kD c []))))) ?_ ?_
      ·refine Ud (fun M s=> ∃(r:List Int) (w:Int) (n:Int),s=(ofG 206 (kB ([g]:List Int) e (e.length:Int) r c d [(14,.i (w64 (f-1))),(19,.i w),(20,.i n)]),(kD r (kD c [])))/\zg e d f M r w n=some r53) ?_ (m:=N) ⟨_,_,_,rfl,g53⟩;rintro M s ⟨r,w,n,rfl,g53⟩
       cases M with
       |zero=>simp only[zg]at g53;cases g53
       |succ M=>
        rw[zg]at g53;refine sq ?_;refine sh fol (kB ([g]:List Int) e (e.length:Int) r c d [(14,.i (w64 (f-1))),(19,.i w),(20,.i n),(150,.bool (decide (n<(e.length:Int))))]) ?_;refine ihD g53 (fun c54 g53=>?_) (fun c54 g53=>?_)
        ·refine Goes.skip ?_;refine sq (Goes.block ?_);obtain⟨D,I,g53⟩:=bnd g53;obtain⟨J,e_x56,g53⟩:=bnd g53;refine sq (gr fol [4,5,8,9] (kB ([g]:List Int) e (e.length:Int) r c d [(14,.i (w64 (f-1))),(20,.i n),(21,.i (w64 ((w64 (D+J))+w)))]) (ac (hs (.done (.opt (ql ZT 80 (.oslice 0 r.length 1) (.i (w64 (n+d))))) (.ptr 0 ((w64 (n+d):Int).toNat*1+0))) (qgD vz I)) (ac (hs (.run [0] (jD ZT 3 (.ptr 0 ((w64 (n+d):Int).toNat*1+0))) (kD r (kD c [])) (.i D) (kD r (kD c [])) false) (qcR ce3 (E:=encI) (l:=r) rfl rfl I (nl rfl) rfl)) (ac (iv vz encI e_x56) (ac (lv 0 ce3 encI e_x56 rfl) az)))) ?_);obtain⟨K,e_l57,g53⟩:=bnd g53;refine sq (gq fol [6,7] (kB ([g]:List Int) e (e.length:Int) r c d [(14,.i (w64 (f-1))),(20,.i n),(21,.i (w64 ((w64 (D+J))+w)))]) (kD K (kD c [])) (ac (hs (.done (.opt (ql ZT 80 (.oslice 0 r.length 1) (.i (w64 (n+d))))) (.ptr 0 ((w64 (n+d):Int).toNat*1+0))) (qgD vz I)) (ac (hs (.run [0] (qx ZT 3 (.ptr 0 ((w64 (n+d):Int).toNat*1+0)) (.i ((w64 ((w64 (D+J))+w)).tmod 1000000000))) (kD r (kD c [])) .undef (kD K (kD c [])) true) (qau (E:=encI) (l:=r) (y:=(w64 ((w64 (D+J))+w)).tmod 1000000000) rfl (show _=some 1 by kernel_rfl) rfl I rfl rfl rfl rfl rfl e_l57 rfl)) az)) ?_);refine Goes.sub (show Sub (ofG 206 (kB ([g]:List Int) e (e.length:Int) r c d [(14,.i (w64 (f-1))),(20,.i n),(21,.i (w64 ((w64 (D+J))+w)))]),(kD K (kD c []))) (ofG 206 (kB ([g]:List Int) e (e.length:Int) K c d [(14,.i (w64 (f-1))),(20,.i n),(21,.i (w64 ((w64 (D+J))+w)))]),(kD K (kD c [])))from(Uc [] [some 0,some 1] rfl rfl (.keep (.same (qf encI _)) (.keep (.same (qf encI _)) (.keep (.same nI) (.keep (.osliceE rfl (yf e_l57)) (.keep (.slice rfl) (.keep (.same nI) (.keep (.same nI) (.keep (.same nI) (.keep (.same nI) .nil))))))))) (.ks (.ks .nil)))) ?_;refine gh fol (kB ([g]:List Int) e (e.length:Int) K c d [(14,.i (w64 (f-1))),(19,.i (w64 ((w64 ((w64 (D+J))+w)).tdiv 1000000000))),(20,.i n)]) ?_;refine gh fol (kB ([g]:List Int) e (e.length:Int) K c d [(14,.i (w64 (f-1))),(19,.i (w64 ((w64 ((w64 (D+J))+w)).tdiv 1000000000))),(20,.i (w64 (n+1)))]) ?_;exact⟨M,(ofG 206 (kB ([g]:List Int) e (e.length:Int) K c d [(14,.i (w64 (f-1))),(19,.i (w64 ((w64 ((w64 (D+J))+w)).tdiv 1000000000))),(20,.i (w64 (n+1)))]),(kD K (kD c []))),Nat.lt_succ_self _,(Sub.refl _),_,_,_,rfl,g53⟩
        refine Goes.exit ?_;obtain rfl:=si g53;exact⟨rfl,_,_,_,rfl,(Sub.keep [8,9,10,11,12,13,14,19] rfl rfl)⟩
      rintro x s' ⟨rfl,v,a1,n52,rfl,hsub⟩
      try dsimp only at g45
      refine Goes.sub hsub ?_;obtain⟨x58,L,g45⟩:=bnd g45;obtain⟨l59,e_l59,g45⟩:=bnd g45;refine gq fol [8,9,12,13] (kB ([g]:List Int) e (e.length:Int) v c d [(14,.i a1)]) (kD l59 (kD c [])) (ac (hs (.done (.opt (ql ZT 80 (.oslice 0 v.length 1) (.i (w64 (d+(e.length:Int)))))) (.ptr 0 ((w64 (d+(e.length:Int)):Int).toNat*1+0))) (qgD vz L)) (ac (hs (.run [0] (jD ZT 3 (.ptr 0 ((w64 (d+(e.length:Int)):Int).toNat*1+0))) (kD v (kD c [])) (.i x58) (kD v (kD c [])) false) (qcR ce3 (E:=encI) (l:=v) rfl rfl L (nl rfl) rfl)) (ac (hs (.done (.opt (ql ZT 80 (.oslice 0 v.length 1) (.i (w64 (d+(e.length:Int)))))) (.ptr 0 ((w64 (d+(e.length:Int)):Int).toNat*1+0))) (qgD vz L)) (ac (hs (.run [0] (qx ZT 3 (.ptr 0 ((w64 (d+(e.length:Int)):Int).toNat*1+0)) (.i (w64 (x58+n52)))) (kD v (kD c [])) .undef (kD l59 (kD c [])) true) (qau (E:=encI) (l:=v) (y:=w64 (x58+n52)) rfl (show _=some 1 by kernel_rfl) rfl L rfl rfl rfl rfl rfl e_l59 rfl)) az)))) ?_;obtain rfl:=si g45;exact⟨rfl,_,_,rfl,((show Sub (ofG 206 (kB ([g]:List Int) e (e.length:Int) v c d [(14,.i a1)]),(kD l59 (kD c []))) (ofG 206 (kB ([g]:List Int) e (e.length:Int) l59 c d [(14,.i a1)]),(kD l59 (kD c [])))from(Uc [] [some 0,some 1] rfl rfl (.keep (.same (qf encI _)) (.keep (.same (qf encI _)) (.keep (.same nI) (.keep (.osliceE rfl (yf e_l59)) (.keep (.slice rfl) (.keep (.same nI) (.keep (.same nI) .nil))))))) (.ks (.ks .nil)))).trans (Sub.refl _))⟩
     refine Goes.skip ?_;obtain rfl:=si g45;exact⟨rfl,_,_,rfl,(Sub.keep [8,9,10,11,12,13,14] rfl rfl)⟩
    rintro x s' ⟨rfl,q,n44,rfl,hsub⟩
    try dsimp only at g23
    refine Goes.sub hsub ?_;obtain⟨x60,e_x60,g23⟩:=bnd g23;obtain⟨U,e_l61,g23⟩:=bnd g23;refine gq fol [3,4] (kB ([g]:List Int) e (e.length:Int) q c d []) (kD q (kD U [])) (ac (hs (.done (.opt (ql ZT 80 (.slice 1 0 c.length c.length 1) (.i d))) (.ptr 1 ((d:Int).toNat*1+0))) (qaT vz e_x60)) (ac (hs (.run [1] (qx ZT 3 (.ptr 1 ((d:Int).toNat*1+0)) (.i n44)) (kD q (kD c [])) .undef (kD q (kD U [])) true) (qau (E:=encI) (l:=c) (y:=n44) rfl (show _=some 1 by kernel_rfl) rfl e_x60 rfl rfl rfl rfl rfl e_l61 rfl)) az)) ?_;refine Goes.sub (show Sub (ofG 206 (kB ([g]:List Int) e (e.length:Int) q c d []),(kD q (kD U []))) (ofG 206 (kB ([g]:List Int) e (e.length:Int) q U d []),(kD q (kD U [])))from(Uc [] [some 0,some 1] rfl rfl (.keep (.same (qf encI _)) (.keep (.same (qf encI _)) (.keep (.same nI) (.keep (.oslice rfl) (.keep (.sliceE rfl (yf e_l61)) (.keep (.same nI) .nil)))))) (.ks (.ks .nil)))) ?_;refine gh fol (kB ([g]:List Int) e (e.length:Int) q U (w64 (d-1)) []) ?_;exact⟨M,(ofG 206 (kB ([g]:List Int) e (e.length:Int) q U (w64 (d-1)) []),(kD q (kD U []))),Nat.lt_succ_self _,(Sub.refl _),_,_,_,rfl,g23⟩
   refine Goes.exit ?_;obtain rfl:=si g23;exact⟨rfl,_,_,rfl,(Sub.keep [8,10,11,12] rfl rfl)⟩
 rintro x s' ⟨rfl,a0,o,rfl,hsub⟩
 try dsimp only at h
 refine Goes.sub hsub ?_;refine sq (Goes.sub (s':=(ofG 206 [(8,vl encI ([g]:List Int)),(10,.i (e.length:Int)),(11,vl encI a0),(12,.slice 0 0 o.length o.length 1)],(kD o []))) (Uc [0] [some 1] rfl rfl (.keep (.same (qf encI _)) (.keep (.same nI) (.keep (.frz (Fz.os (E:=encI) rfl rfl (nl rfl)) (qf encI _)) (.keep (.slice rfl) .nil)))) (.ks .nil)) ?_);obtain⟨s62,e_s62,h⟩:=bnd h;obtain⟨r63,e_r63,h⟩:=bnd h;obtain⟨x64,e_x64,h⟩:=bnd h;obtain⟨r65,e_r65,h⟩:=bnd h;refine gr fol [2,3,5,6,7] [(12,.slice 0 0 o.length o.length 1),(22,vl encI r65.1)] (ac (hs (.done (.opt (kg ZT 80 (vl encI a0) none (some (.i (e.length:Int))) none)) (vl encI s62)) (qjn vz (E:=encI) rfl none (some (e.length:Int)) e_s62)) (ac (cv (xg N s62 e_r63)) (ac (iv vz encI e_x64) (ac (lv 0 ce3 encI e_x64 rfl) (ac (cv (qcW N r63 x64 e_r65)) az))))) ?_;obtain⟨r66,e_r66,h⟩:=bnd h;refine sq (gq fol [1] ((4,vl encI r66)::(kBV r65.1 [])) (kAe o) (ac (hs (.callF 201 [.slice 0 0 o.length o.length 1] (kD o []) [0] [vl encI o] (vl encI r66)) (qaV (FzL.cons (Fz.sl (E:=encI) rfl rfl (nl rfl)) FzL.nil) (xg N o e_r66) (qB encI _ (nl rfl)))) az) ?_);refine Goes.sub (show Sub (ofG 206 ((4,vl encI r66)::(kBV r65.1 [])),(kAe o)) (ofG 206 ((4,vl encI r66)::(kBV r65.1 [])),[])from(Uc [] [] rfl rfl (.keep (.same (qf encI _)) (.keep (.same (qf encI _)) .nil)) .nil)) ?_;refine Goes.ret ?_;obtain rfl:=si h;exact(gw2 (kBb r66 r65.1) (FzW.tuple (qd.cons (Ua (qB encI _ (nl rfl))) (qd.cons (Ua (qB encI _ (nl rfl))) qd.nil))))
def zk (N:Nat):Nat->(List Int)->(List Int)->Option (List Int)
 |0,_,_=>none
 |K+1,b,a=>
  if(a.length:Int)>0 then
  (jQ N b a).bind fun c=>
  zk N K a c.2
  else
  some b
def qaR (N:Nat) (a:List Int) (b:List Int):Option (List Int):=
 (zk N N a b).bind fun c=>
 some c
theorem qef (N:Nat) (a:List Int) (b:List Int) {res:List Int} (h:qaR N a b=some res):qb ZT (.fn 84) (kBb a b) [] (vl encI res) []:=by
 unfold qaR at h;refine Ub Tryz.func84 rfl rfl (m:=19) rfl (rs:=[.tmp 4]) rfl (l:=(kI a b [])) rfl ?_;refine sh fol (kI a b []) ?_;refine sq (Goes.block ?_);obtain⟨i,g4,h⟩:=bnd h;refine Goes.imp (Q:=fun x s'=>(x= .exit 0/\ ∃d,d=i/\Sub s' (ofG 19 (kBU d []),[]))) ?_ ?_
 ·refine Ud (fun M s=> ∃(e:List Int) (c:List Int),s=(ofG 19 (kI e c []),[])/\zk N M e c=some i) ?_ (m:=N) ⟨_,_,rfl,g4⟩;rintro M s ⟨e,c,rfl,g4⟩
  cases M with
  |zero=>simp only[zk]at g4;cases g4
  |succ M=>
   rw[zk]at g4;refine sq ?_;refine sh fol (kI e c [(9,.bool (decide ((c.length:Int)>0)))]) ?_;refine ihD g4 (fun j g4=>?_) (fun j g4=>?_)
   ·refine Goes.skip ?_;refine Goes.block ?_;obtain⟨g,f,g4⟩:=bnd g4;refine sq (gr fol [2] [(1,vl encI c),(6,vl encI g.2)] (ac (cv (qbb N e c f)) az) ?_);refine gh fol (kI c g.2 []) ?_;exact⟨M,(ofG 19 (kI c g.2 []),[]),Nat.lt_succ_self _,(Sub.refl _),_,_,rfl,g4⟩
   refine Goes.exit ?_;obtain rfl:=si g4;exact⟨rfl,_,rfl,(Sub.keep [0] rfl rfl)⟩
 rintro x s' ⟨rfl,d,rfl,hsub⟩;refine Goes.sub hsub ?_;refine sh fol [(4,vl encI d)] ?_;refine Goes.ret ?_;obtain rfl:=si h;exact(gw2 [vl encI d] (Ua (qB encI _ (nl rfl))))
def yM (N:Nat) (a:Str):Option Int:=
 (if(a.length:Int)>0 then
 (idx a 0).bind fun t=>
 some (decide ((t.toNat:Int)=45))
 else
 some false:Option Bool).bind fun u=>
 ((if u=true then
 (cut a 1 (a.length:Int)).bind fun v=>
 some v
 else
 some a:Option Str)).bind fun b=>
 (yO N b).bind fun c=>
 ((cut b 0 c).bind fun f=>
 (jG N f).bind fun g=>
 if(!g)=true then
 some true
 else
 (idx a 0).bind fun h=>
 if(h.toNat:Int)=45 then
 (cut b 0 c).bind fun i=>
 some (i==[48])
 else
 some false:Option Bool).bind fun j=>
 if j=true then
 some 1
 else
 (if c<(b.length:Int)then
 (cut b (w64 (c+1)) (b.length:Int)).bind fun k=>
 (jG N k).bind fun l=>
 if(!l)=true then
 some true
 else
 (cut b (w64 (c+1)) (b.length:Int)).bind fun m=>
 if(m==[48])=true then
 some true
 else
 (cut b (w64 (c+1)) (b.length:Int)).bind fun n=>
 some (n==[49])
 else
 some false:Option Bool).bind fun o=>
 if o=true then
 some 1
 else
 (if c>600 then
 some true
 else
 some (decide ((w64 ((w64 ((b.length:Int)-c))-1))>600)):Option Bool).bind fun p=>
 if p=true then
 some 4
 else
 ((if c<(b.length:Int)then
 (yT N b).bind fun d=>
 (qaR N d.1.w d.2.w).bind fun e=>
 (if(!decide ((e.length:Int)=1))=true then
 some true
 else
 (idx e 0).bind fun q=>
 some (!decide (q=1)):Option Bool).bind fun r=>
 if r=true then
 some (.inr 1)
 else
 some (.inl ())
 else
 some (.inl ()):Option (Unit⊕Int))).bind (fun
 |(.inl ())=>
 some 0
 |(.inr s)=>
 some s)
theorem yo (N:Nat) (a:Str) {res:Int} (h:yM N a=some res):qb ZT (.fn 27) [.str a] [] (.i res) []:=by
 unfold yM at h;refine Ub Tryz.func27 rfl rfl (m:=96) rfl (rs:=[.tmp 2]) rfl (l:=(kAM a)) rfl ?_;refine sh fol (kAM a) ?_;refine sh fol (kBG a [(3,.str a)]) ?_;refine sq ?_;refine sq ?_;obtain⟨b3,g,h⟩:=bnd h;refine Ue (s':=(ofG 96 (kBG a [(3,.str a),(16,.bool b3)]),[])) ?_ ?_
 ·rcases wyD g with⟨Y,g⟩|⟨Y,g⟩
  ·obtain⟨c2,J,g⟩:=bnd g;obtain rfl:=si g;exact tr fol [3,5] (kBG a [(3,.str a),(16,.bool (decide ((c2.toNat:Int)=45)))]) (ac (gw Y) (ac (hs (.done (.opt (yw ZT 9 (.str a) (.i 0))) (.int .u8 (c2.toNat:Int))) (qaH st9 J)) az))
  obtain rfl:=si g;exact tr fol [3] (kBG a [(3,.str a),(16,.bool false)]) (ac (gw Y) az)
 obtain⟨r6,g6,h⟩:=bnd h;refine Goes.imp (Q:=fun x s'=>(x= .normal/\ ∃e,e=r6/\Sub s' (ofG 96 (kBG a [(3,.str e)]),[]))) ?_ ?_
 ·refine ihB g6 (fun c7 g6=>?_) (fun c7 g6=>?_)
  ·obtain⟨s8,K,g6⟩:=bnd g6;refine gr fol [1] (kBG a [(3,.str s8)]) (ac (hs (.done (.opt (kg ZT 9 (.str a) (some (.i 1)) none none)) (.str s8)) (jr st9 (some 1) none K)) az) ?_;obtain rfl:=si g6;exact⟨rfl,_,rfl,(Sub.refl _)⟩
  refine Goes.skip ?_;obtain rfl:=si g6;exact⟨rfl,_,rfl,(Sub.keep [0,3] rfl rfl)⟩
 rintro x s' ⟨rfl,e,rfl,hsub⟩;refine Goes.sub hsub ?_;obtain⟨d,L,h⟩:=bnd h;refine sq (gr fol [1] (kBG a (kAt e d [])) (ac (cv (qaz N e L)) az) ?_);refine sq ?_;refine sq ?_;obtain⟨Z,c,h⟩:=bnd h;refine Ue (s':=(ofG 96 (kAt e d [(36,.bool Z)]),[])) ?_ ?_
 ·obtain⟨r,n,c⟩:=bnd c;obtain⟨r11,o,c⟩:=bnd c;rcases wyB c with⟨z,c⟩|⟨z,c⟩
  ·obtain rfl:=si c;exact tr fol [2,3,5] (kAt e d [(36,.bool true)]) (ac (hs (.done (.opt (kg ZT 9 (.str e) none (some (.i d)) none)) (.str r)) (jr st9 none (some d) n)) (ac (cv (jy N r o)) (ac (gw z) az)))
  obtain⟨M,t,c⟩:=bnd c;rcases wyD c with⟨B,c⟩|⟨B,c⟩
  ·obtain⟨O,C,c⟩:=bnd c;obtain rfl:=si c;exact tr fol [2,3,5,7,9,12] (kAt e d [(36,.bool (O==[48]))]) (ac (hs (.done (.opt (kg ZT 9 (.str e) none (some (.i d)) none)) (.str r)) (jr st9 none (some d) n)) (ac (cv (jy N r o)) (ac (gw z) (ac (hs (.done (.opt (yw ZT 23 (.str a) (.i 0))) (.int .u8 (M.toNat:Int))) (qaH ql0 t)) (ac (gw B) (ac (hs (.done (.opt (kg ZT 9 (.str e) none (some (.i d)) none)) (.str O)) (jr st9 none (some d) C)) az))))))
  obtain rfl:=si c;exact tr fol [2,3,5,7,9] (kAt e d [(36,.bool false)]) (ac (hs (.done (.opt (kg ZT 9 (.str e) none (some (.i d)) none)) (.str r)) (jr st9 none (some d) n)) (ac (cv (jy N r o)) (ac (gw z) (ac (hs (.done (.opt (yw ZT 23 (.str a) (.i 0))) (.int .u8 (M.toNat:Int))) (qaH ql0 t)) (ac (gw B) az)))))
 refine ihB h (fun a0 h=>?_) (fun a0 h=>?_)
 ·refine sh fol [(2,.i 1)] ?_;refine Goes.ret ?_;obtain rfl:=si h;exact(gw2 [.i 1] (Ua tI))
 refine Goes.skip ?_;refine sq ?_;refine sq ?_;obtain⟨a1,b,h⟩:=bnd h;refine Ue (s':=(ofG 96 (kAt e d [(62,.bool a1)]),[])) ?_ ?_
 ·rcases wyD b with⟨u,b⟩|⟨u,b⟩
  ·obtain⟨s,p,b⟩:=bnd b;obtain⟨r21,q,b⟩:=bnd b;rcases wyB b with⟨A,b⟩|⟨A,b⟩
   ·obtain rfl:=si b;exact tr fol [4,8,9,11] (kAt e d [(62,.bool true)]) (ac (gw u) (ac (hs (.done (.opt (kg ZT 9 (.str e) (some (.i (w64 (d+1)))) none none)) (.str s)) (jr st9 (some (w64 (d+1))) none p)) (ac (cv (jy N s q)) (ac (gw A) az))))
   obtain⟨P,v,b⟩:=bnd b;rcases wyB b with⟨D,b⟩|⟨D,b⟩
   ·obtain rfl:=si b;exact tr fol [4,8,9,11,15,18] (kAt e d [(62,.bool true)]) (ac (gw u) (ac (hs (.done (.opt (kg ZT 9 (.str e) (some (.i (w64 (d+1)))) none none)) (.str s)) (jr st9 (some (w64 (d+1))) none p)) (ac (cv (jy N s q)) (ac (gw A) (ac (hs (.done (.opt (kg ZT 9 (.str e) (some (.i (w64 (d+1)))) none none)) (.str P)) (jr st9 (some (w64 (d+1))) none v)) (ac (gw D) az))))))
   obtain⟨U,E,b⟩:=bnd b;obtain rfl:=si b;exact tr fol [4,8,9,11,15,18,22] (kAt e d [(62,.bool (U==[49]))]) (ac (gw u) (ac (hs (.done (.opt (kg ZT 9 (.str e) (some (.i (w64 (d+1)))) none none)) (.str s)) (jr st9 (some (w64 (d+1))) none p)) (ac (cv (jy N s q)) (ac (gw A) (ac (hs (.done (.opt (kg ZT 9 (.str e) (some (.i (w64 (d+1)))) none none)) (.str P)) (jr st9 (some (w64 (d+1))) none v)) (ac (gw D) (ac (hs (.done (.opt (kg ZT 9 (.str e) (some (.i (w64 (d+1)))) none none)) (.str U)) (jr st9 (some (w64 (d+1))) none E)) az)))))))
  obtain rfl:=si b;exact tr fol [4] (kAt e d [(62,.bool false)]) (ac (gw u) az)
 refine ihB h (fun a2 h=>?_) (fun a2 h=>?_)
 ·refine sh fol [(2,.i 1)] ?_;refine Goes.ret ?_;obtain rfl:=si h;exact(gw2 [.i 1] (Ua tI))
 refine Goes.skip ?_;refine sq ?_;refine sq ?_;obtain⟨a3,j,h⟩:=bnd h;refine Ue (s':=(ofG 96 (kAt e d [(72,.bool a3)]),[])) ?_ ?_
 ·rcases wyD j with⟨F,j⟩|⟨F,j⟩
  ·obtain rfl:=si j;exact tr fol [2] (kAt e d [(72,.bool true)]) (ac (gw F) az)
  obtain rfl:=si j;exact tr fol [2] (kAt e d [(72,.bool (decide ((w64 ((w64 ((e.length:Int)-d))-1))>600)))]) (ac (gw F) az)
 refine ihB h (fun a4 h=>?_) (fun a4 h=>?_)
 ·refine sh fol [(2,.i 4)] ?_;refine Goes.ret ?_;obtain rfl:=si h;exact(gw2 [.i 4] (Ua tI))
 refine Goes.skip ?_;refine sq ?_;refine sh fol [(3,.str e),(76,.bool (decide (d<(e.length:Int))))] ?_;obtain⟨V,g33,h⟩:=bnd h;refine Goes.imp (Q:=fun x s'=>(x= .normal/\(.inl ())=V/\Sub s' (ofG 96 [],[]))\/(x= .ret/\ ∃X,(.inr X)=V/\zh ZT [.tmp 2] (.i X) .ret s')) ?_ ?_
 ·refine ihD g33 (fun a5 g33=>?_) (fun a5 g33=>?_)
  ·obtain⟨k,G,g33⟩:=bnd g33;refine sq (gq fol [1] [(5,.ptr 0 0),(6,.ptr 1 0)] (kN k.1.neg k.1.w k.2.neg k.2.w []) (ac (cv (qct N e G)) az) ?_);obtain⟨a6,H,g33⟩:=bnd g33;refine sq (gr fol [4] [(7,vl encI a6)] (ac (cv (qef N k.1.w k.2.w H)) az) ?_);refine sq ?_;obtain⟨a7,f,g33⟩:=bnd g33;refine Ue (s':=(ofG 96 [(95,.bool a7)],(kN k.1.neg k.1.w k.2.neg k.2.w []))) ?_ ?_
   ·rcases wyB f with⟨I,f⟩|⟨I,f⟩
    ·obtain rfl:=si f;exact tr fol [3] [(95,.bool true)] (ac (gw I) az)
    obtain⟨a8,y,f⟩:=bnd f;obtain rfl:=si f;exact tr fol [3,5,6] [(95,.bool (!decide (a8=1)))] (ac (gw I) (ac (iv vz encI y) (ac (lv 0 ce3 encI y rfl) az)))
   refine ihB g33 (fun a9 g33=>?_) (fun a9 g33=>?_)
   ·refine sh fol [(2,.i 1)] ?_;refine Goes.ret ?_;obtain rfl:=si g33;exact Or.inr (⟨rfl,_,rfl,(gw2 [.i 1] (Ua tI))⟩)
   refine Goes.skip ?_;obtain rfl:=si g33;exact Or.inl (⟨rfl,rfl,(Uc [] [] rfl rfl .nil .nil)⟩)
  refine Goes.skip ?_;obtain rfl:=si g33;exact Or.inl (⟨rfl,rfl,(Sub.keep [] rfl rfl)⟩)
 rintro x s' (⟨rfl,rfl,hsub⟩|⟨rfl,q43,rfl,hret⟩)
 ·try dsimp only at h
  refine Goes.sub hsub ?_;refine sh fol [(2,.i 0)] ?_;refine Goes.ret ?_;obtain rfl:=si h;exact(gw2 [.i 0] (Ua tI))
 try dsimp only at h
 obtain rfl:=si h;exact hret
def vV (a:Str):Option Int:=
 if(a==[48])=true then
 some 0
 else
 (if(a.length:Int)>0 then
 (idx a 0).bind fun b=>
 some (decide ((b.toNat:Int)=45))
 else
 some false:Option Bool).bind fun c=>
 if c=true then
 some (-1)
 else
 some 1
theorem qah (a:Str) {res:Int} (h:vV a=some res):qb ZT (.fn 68) [.str a] [] (.i res) []:=by
 unfold vV at h;refine Ub Tryz.func68 rfl rfl (m:=13) rfl (rs:=[.tmp 2]) rfl (l:=(kAM a)) rfl ?_;refine sh fol (kAM a) ?_;refine sq ?_;refine sh fol (kBG a (kBR (a==[48]))) ?_;refine ihB h (fun f h=>?_) (fun f h=>?_)
 ·refine sh fol [(2,.i 0)] ?_;refine Goes.ret ?_;obtain rfl:=si h;exact(gw2 [.i 0] (Ua tI))
 refine Goes.skip ?_;refine sq ?_;refine sq ?_;obtain⟨g,b,h⟩:=bnd h;refine Ue (s':=(ofG 13 (kBD g),[])) ?_ ?_
 ·rcases wyD b with⟨d,b⟩|⟨d,b⟩
  ·obtain⟨e,c,b⟩:=bnd b;obtain rfl:=si b;exact tr fol [3,5] (kBD (decide ((e.toNat:Int)=45))) (ac (gw d) (ac (hs (.done (.opt (yw ZT 23 (.str a) (.i 0))) (.int .u8 (e.toNat:Int))) (qaH ql0 c)) az))
  obtain rfl:=si b;exact tr fol [3] [(12,.bool false)] (ac (gw d) az)
 refine ihB h (fun j h=>?_) (fun j h=>?_)
 ·refine sh fol [(2,.i (-1))] ?_;refine Goes.ret ?_;obtain rfl:=si h;exact(gw2 [.i (-1)] (Ua tI))
 refine Goes.skip ?_;refine sh fol [(2,.i 1)] ?_;refine Goes.ret ?_;obtain rfl:=si h;exact(gw2 [.i 1] (Ua tI))
def jJ (N:Nat) (a:Str):Option Int:=
 (yM N a).bind fun b=>
 (if b=0 then
 (vV a).bind fun c=>
 some (decide (c<=0))
 else
 some false:Option Bool).bind fun d=>
 ((if d=true then
 some 3
 else
 some b:Option Int)).bind fun e=>
 some e
theorem yU (N:Nat) (a:Str) {res:Int} (h:jJ N a=some res):qb ZT (.fn 19) [.str a] [] (.i res) []:=by
 unfold jJ at h;refine Ub Tryz.func19 rfl rfl (m:=14) rfl (rs:=[.tmp 2]) rfl (l:=(kAM a)) rfl ?_;refine sh fol (kAM a) ?_;obtain⟨f,c,h⟩:=bnd h;refine sq (gr fol [1] (kAH a f []) (ac (cv (yo N a c)) az) ?_);refine sq ?_;refine sq ?_;obtain⟨j,b,h⟩:=bnd h;refine Ue (s':=(ofG 14 ((3,.i f)::(kBD j)),[])) ?_ ?_
 ·rcases wyD b with⟨g,b⟩|⟨g,b⟩
  ·obtain⟨k,d,b⟩:=bnd b;obtain rfl:=si b;exact tr fol [2,4] ((3,.i f)::(kBD (decide (k<=0)))) (ac (gw g) (ac (cv (qah a d)) az))
  obtain rfl:=si b;exact tr fol [2] [(3,.i f),(12,.bool false)] (ac (gw g) az)
 obtain⟨n,g7,h⟩:=bnd h;refine Goes.imp (Q:=fun x s'=>(x= .normal/\ ∃e,e=n/\Sub s' (ofG 14 [(3,.i e)],[]))) ?_ ?_
 ·refine ihB g7 (fun o g7=>?_) (fun o g7=>?_)
  ·refine gh fol [(3,.i 3)] ?_;obtain rfl:=si g7;exact⟨rfl,_,rfl,(Sub.refl _)⟩
  refine Goes.skip ?_;obtain rfl:=si g7;exact⟨rfl,_,rfl,(Sub.keep [3] rfl rfl)⟩
 rintro x s' ⟨rfl,e,rfl,hsub⟩;refine Goes.sub hsub ?_;refine sh fol (kBL e) ?_;refine Goes.ret ?_;obtain rfl:=si h;exact(gw2 [.i e] (Ua tI))
def yN (N:Nat) (a:Str):Option (Int×Int×Bool):=
 if(a.length:Int)>20 then
 some (0,0,false)
 else
 (if(a.length:Int)>0 then
 (idx a 0).bind fun l=>
 some (decide ((l.toNat:Int)=45))
 else
 some false:Option Bool).bind fun k=>
 ((if k=true then
 (cut a 1 (a.length:Int)).bind fun m=>
 some m
 else
 some a:Option Str)).bind fun c=>
 (yO N c).bind fun b=>
 (if b>9 then
 some true
 else
 some (decide ((w64 ((c.length:Int)-b))>10)):Option Bool).bind fun e=>
 if e=true then
 some (0,0,false)
 else
 (cut c 0 b).bind fun f=>
 (xJ N f).bind fun d=>
 ((if b<(c.length:Int)then
 (cut c (w64 (b+1)) (c.length:Int)).bind fun g=>
 (xJ N g).bind fun h=>
 some h
 else
 some 1:Option Int)).bind fun i=>
 ((if k=true then
 some (w64 (0-d))
 else
 some d:Option Int)).bind fun j=>
 some (j,i,true)
theorem qer (N:Nat) (a:Str) {res:Int×Int×Bool} (h:yN N a=some res):qb ZT (.fn 69) [.str a] [] (.tuple [.i res.1,.i res.2.1,.bool res.2.2]) []:=by
 unfold yN at h;refine Ub Tryz.func69 rfl rfl (m:=54) rfl (rs:=[.tmp 2,.tmp 3,.tmp 4]) rfl (l:=(kAM a)) rfl ?_;refine sh fol (kAM a) ?_;refine sh fol [(5,.str a)] ?_;refine sq ?_;refine sh fol ((5,.str a)::(kBC (decide ((a.length:Int)>20)))) ?_;refine ihD h (fun I h=>?_) (fun I h=>?_)
 ·refine sh fol ((2,.i 0)::(3,.i 0)::kBA) ?_;refine Goes.ret ?_;obtain rfl:=si h;exact(gw2 [.i 0,.i 0,.bool false] (FzW.tuple (qd.cons (Ua tI) (qd.cons (Ua tI) (qd.cons (Ua tB) qd.nil)))))
 refine Goes.skip ?_;refine sq ?_;obtain⟨f,c,h⟩:=bnd h;refine Ue (s':=(ofG 54 (kBH a f []),[])) ?_ ?_
 ·rcases wyD c with⟨y,c⟩|⟨y,c⟩
  ·obtain⟨G,t,c⟩:=bnd c;obtain rfl:=si c;exact tr fol [3,5] (kBH a (decide ((G.toNat:Int)=45)) []) (ac (gw y) (ac (hs (.done (.opt (yw ZT 9 (.str a) (.i 0))) (.int .u8 (G.toNat:Int))) (qaH st9 t)) az))
  obtain rfl:=si c;exact tr fol [3] ((5,.str a)::kBJ) (ac (gw y) az)
 refine sq ?_;refine sh fol (kBH a f [(22,.bool f)]) ?_;obtain⟨J,g7,h⟩:=bnd h;refine Goes.imp (Q:=fun x s'=>(x= .normal/\ ∃g,g=J/\Sub s' (ofG 54 (kBH g f []),[]))) ?_ ?_
 ·refine ihB g7 (fun K g7=>?_) (fun K g7=>?_)
  ·obtain⟨H,u,g7⟩:=bnd g7;refine gr fol [1] (kBH H f []) (ac (hs (.done (.opt (kg ZT 9 (.str a) (some (.i 1)) none none)) (.str H)) (jr st9 (some 1) none u)) az) ?_;obtain rfl:=si g7;exact⟨rfl,_,rfl,(Sub.refl _)⟩
  refine Goes.skip ?_;obtain rfl:=si g7;exact⟨rfl,_,rfl,(Sub.keep [5,6] rfl rfl)⟩
 rintro x s' ⟨rfl,g,rfl,hsub⟩;refine Goes.sub hsub ?_;obtain⟨b,n,h⟩:=bnd h;refine sq (gr fol [1] (kBH g f [(7,.i b)]) (ac (cv (qaz N g n)) az) ?_);refine sq ?_;refine sq ?_;obtain⟨z,d,h⟩:=bnd h;refine Ue (s':=(ofG 54 (kBH g f [(7,.i b),(35,.bool z)]),[])) ?_ ?_
 ·rcases wyD d with⟨o,d⟩|⟨o,d⟩
  ·obtain rfl:=si d;exact tr fol [2] (kBH g f [(7,.i b),(35,.bool true)]) (ac (gw o) az)
  obtain rfl:=si d;exact tr fol [2] (kBH g f [(7,.i b),(35,.bool (decide ((w64 ((g.length:Int)-b))>10)))]) (ac (gw o) az)
 refine ihB h (fun A h=>?_) (fun A h=>?_)
 ·refine sh fol ((2,.i 0)::(3,.i 0)::kBA) ?_;refine Goes.ret ?_;obtain rfl:=si h;exact(gw2 [.i 0,.i 0,.bool false] (FzW.tuple (qd.cons (Ua tI) (qd.cons (Ua tI) (qd.cons (Ua tB) qd.nil)))))
 refine Goes.skip ?_;obtain⟨v,p,h⟩:=bnd h;obtain⟨j,q,h⟩:=bnd h;refine sq (gr fol [2,3] (kBH g f (kAp b j [(9,.i 1)])) (ac (hs (.done (.opt (kg ZT 9 (.str g) none (some (.i b)) none)) (.str v)) (jr st9 none (some b) p)) (ac (cv (qbp N v q)) az)) ?_);refine sq ?_;refine sh fol (kBH g f (kAp b j [(9,.i 1),(43,.bool (decide (b<(g.length:Int))))])) ?_;obtain⟨B,g18,h⟩:=bnd h;refine Goes.imp (Q:=fun x s'=>(x= .normal/\ ∃e,e=B/\Sub s' (ofG 54 ((6,.bool f)::(kA0 j e [])),[]))) ?_ ?_
 ·refine ihD g18 (fun C g18=>?_) (fun C g18=>?_)
  ·obtain⟨w,r,g18⟩:=bnd g18;obtain⟨D,s,g18⟩:=bnd g18;refine gr fol [3,4] ((6,.bool f)::(kA0 j D [])) (ac (hs (.done (.opt (kg ZT 9 (.str g) (some (.i (w64 (b+1)))) none none)) (.str w)) (jr st9 (some (w64 (b+1))) none r)) (ac (cv (qbp N w s)) az)) ?_;obtain rfl:=si g18;exact⟨rfl,_,rfl,(Sub.refl _)⟩
  refine Goes.skip ?_;obtain rfl:=si g18;exact⟨rfl,_,rfl,(Sub.keep [6,8,9] rfl rfl)⟩
 rintro x s' ⟨rfl,e,rfl,hsub⟩;refine Goes.sub hsub ?_;refine sq ?_;refine sh fol (kA0 j e [(49,.bool f)]) ?_;obtain⟨E,g23,h⟩:=bnd h;refine Goes.imp (Q:=fun x s'=>(x= .normal/\ ∃k,k=E/\Sub s' (ofG 54 (kA0 k e []),[]))) ?_ ?_
 ·refine ihB g23 (fun F g23=>?_) (fun F g23=>?_)
  ·refine gh fol (kA0 (w64 (0-j)) e []) ?_;obtain rfl:=si g23;exact⟨rfl,_,rfl,(Sub.refl _)⟩
  refine Goes.skip ?_;obtain rfl:=si g23;exact⟨rfl,_,rfl,(Sub.keep [8,9] rfl rfl)⟩
 rintro x s' ⟨rfl,k,rfl,hsub⟩;refine Goes.sub hsub ?_;refine sh fol [(2,.i k),(3,.i e),(4,.bool true)] ?_;refine Goes.ret ?_;obtain rfl:=si h;exact(gw2 [.i k,.i e,.bool true] (FzW.tuple (qd.cons (Ua tI) (qd.cons (Ua tI) (qd.cons (Ua tB) qd.nil)))))
def xG (N:Nat) (a:qI):Option qI:=
 (zO N (!a.neg) a.w).bind fun b=>
 some b
theorem qeE (N:Nat) (a:qI) {res:qI} (h:xG N a=some res):qb ZT (.fn 137) [.agg (kAl a.neg a.w)] [] (.agg (kAl res.neg res.w)) []:=by
 unfold xG at h;refine Ub Tryz.func137 rfl rfl (m:=9) rfl (rs:=[.cell 2 126]) rfl (l:=[(0,.agg [.bool a.neg,vl encI a.w])]) rfl ?_;refine sg fol (kV kAw) (kAc a.neg a.w (kS [])) ?_;obtain⟨c,b,h⟩:=bnd h;refine sq (gq fol [5] kAw (kN a.neg a.w c.neg c.w []) (ac (cv (jf N (!a.neg) a.w b)) az) ?_);refine Goes.ret ?_;obtain rfl:=si h;exact(gw2 [.agg (kAl c.neg c.w)] (FzW.agg (qd.cons (Ua tB) (qd.cons (Ua (qB encI _ (nl rfl))) qd.nil))))
def qY (least:Int):Nat->Int->Str->Option Str
 |0,_,_=>none
 |K+1,a,b=>
  (if a>0 then
  some true
  else
  some (decide ((b.length:Int)<least)):Option Bool).bind fun d=>
  if d=true then
  (cut [48,49,50,51,52,53,54,55,56,57] (a.tmod 10) (w64 ((a.tmod 10)+1))).bind fun e=>
  (cat e b).bind fun c=>
  qY least K (w64 (a.tdiv 10)) c
  else
  some b
def zN (N:Nat) (n:Int) (least:Int):Option Str:=
 (qY least N n []).bind fun a=>
 some a
theorem qaO (N:Nat) (n:Int) (least:Int) {res:Str} (h:zN N n least=some res):qb ZT (.fn 135) [.i n,.i least] [] (.str res) []:=by
 unfold zN at h;refine Ub Tryz.func135 rfl rfl (m:=25) rfl (rs:=[.tmp 4]) rfl (l:=(kAX n least [])) rfl ?_;refine sh fol (kAX n least []) ?_;refine sh fol (kAX n least [(5,.str [])]) ?_;refine sq (Goes.block ?_);obtain⟨k,g4,h⟩:=bnd h;refine Goes.imp (Q:=fun x s'=>(x= .exit 0/\ ∃f,f=k/\Sub s' (ofG 25 [(5,.str f)],[]))) ?_ ?_
 ·refine Ud (fun M s=> ∃(b:Int) (d:Str),s=(ofG 25 (kAX b least [(5,.str d)]),[])/\qY least M b d=some k) ?_ (m:=N) ⟨_,_,rfl,g4⟩;rintro M s ⟨b,d,rfl,g4⟩
  cases M with
  |zero=>simp only[qY]at g4;cases g4
  |succ M=>
   rw[qY]at g4;refine sq ?_;refine sq ?_;obtain⟨p,a,g4⟩:=bnd g4;refine Ue (s':=(ofG 25 (kAX b least ((5,.str d)::(kBC p))),[])) ?_ ?_
   ·rcases wyD a with⟨j,a⟩|⟨j,a⟩
    ·obtain rfl:=si a;exact tr fol [2] (kAX b least [(5,.str d),(13,.bool true)]) (ac (gw j) az)
    obtain rfl:=si a;exact tr fol [2] (kAX b least ((5,.str d)::(kBC (decide ((d.length:Int)<least))))) (ac (gw j) az)
   refine ihB g4 (fun q g4=>?_) (fun q g4=>?_)
   ·refine Goes.skip ?_;refine Goes.block ?_;obtain⟨o,g,g4⟩:=bnd g4;obtain⟨c,e,g4⟩:=bnd g4;refine sq (gr fol [5,7] (kAX b least [(5,.str c)]) (ac (hs (.done (.opt (kg ZT 9 (.str [48,49,50,51,52,53,54,55,56,57]) (some (.i (b.tmod 10))) (some (.i (w64 ((b.tmod 10)+1)))) none)) (.str o)) (jr st9 (some (b.tmod 10)) (some (w64 ((b.tmod 10)+1))) g)) (ac (hs (.done (.opt (ku ZT .add 9 (.tmp 19) (.tmp 20) (.str o) (.str d))) (.str c)) (qa2 e)) az)) ?_);refine gh fol (kAX (w64 (b.tdiv 10)) least [(5,.str c)]) ?_;exact⟨M,(ofG 25 (kAX (w64 (b.tdiv 10)) least [(5,.str c)]),[]),Nat.lt_succ_self _,(Sub.refl _),_,_,rfl,g4⟩
   refine Goes.exit ?_;obtain rfl:=si g4;exact⟨rfl,_,rfl,(Sub.keep [5] rfl rfl)⟩
 rintro x s' ⟨rfl,f,rfl,hsub⟩;refine Goes.sub hsub ?_;refine sh fol (kBY f) ?_;refine Goes.ret ?_;obtain rfl:=si h;exact(gw2 [.str f] (Ua tS))
def ym (N:Nat) (a:qI):Nat->Str->Int->Option Str
 |0,_,_=>none
 |K+1,e,b=>
  if b>=0 then
  (idx a.w b).bind fun f=>
  (zN N f 9).bind fun c=>
  (cat e c).bind fun d=>
  ym N a K d (w64 (b-1))
  else
  some e
def qbU (N:Nat) (a:qI):Option Str:=
 if(a.w.length:Int)=0 then
 some [48]
 else
 (idx a.w (w64 ((a.w.length:Int)-1))).bind fun d=>
 (zN N d 1).bind fun e=>
 (ym N a N e (w64 ((a.w.length:Int)-2))).bind fun c=>
 if a.neg=true then
 (cat [45] c).bind fun b=>
 some b
 else
 some c
theorem qfo (N:Nat) (a:qI) {res:Str} (h:qbU N a=some res):qb ZT (.fn 139) [.agg (kAl a.neg a.w)] [] (.str res) []:=by
 unfold qbU at h;refine Ub Tryz.func139 rfl rfl (m:=39) rfl (rs:=[.tmp 2]) rfl (l:=[(0,.agg [.bool a.neg,vl encI a.w])]) rfl ?_;refine sg fol (kV []) (kAc a.neg a.w []) ?_;refine sq ?_;refine sh fol (kV (kBe (decide ((a.w.length:Int)=0)))) ?_;refine ihD h (fun u h=>?_) (fun u h=>?_)
 ·refine sh fol [(2,.str [48])] ?_;refine Goes.ret ?_;obtain rfl:=si h;exact(gw2 [.str [48]] (Ua tS))
 refine Goes.skip ?_;obtain⟨v,c,h⟩:=bnd h;obtain⟨r,n,h⟩:=bnd h;refine sq (gr fol [6,7,8] (kV [(3,.str r)]) (ac (iv vz encI c) (ac (lv 0 ce3 encI c rfl) (ac (cv (qaO N v 1 n)) az))) ?_);refine sq ?_;refine sh fol (kV (kAt r (w64 ((a.w.length:Int)-2)) [])) ?_;refine Goes.block ?_;obtain⟨t,g7,h⟩:=bnd h;refine Goes.imp (Q:=fun x s'=>(x= .exit 0/\ ∃f,f=t/\Sub s' (ofG 39 (kV [(3,.str f)]),(kAc a.neg a.w [])))) ?_ ?_
 ·refine Ud (fun M s=> ∃(o:Str) (d:Int),s=(ofG 39 (kV (kAt o d [])),(kAc a.neg a.w []))/\ym N a M o d=some t) ?_ (m:=N) ⟨_,_,rfl,g7⟩;rintro M s ⟨o,d,rfl,g7⟩
  cases M with
  |zero=>simp only[ym]at g7;cases g7
  |succ M=>
   rw[ym]at g7;refine sq ?_;refine sh fol (kV (kAt o d [(23,.bool (decide (d>=0)))])) ?_;refine ihD g7 (fun y g7=>?_) (fun y g7=>?_)
   ·refine Goes.skip ?_;refine sq (Goes.block ?_);obtain⟨z,e,g7⟩:=bnd g7;obtain⟨p,g,g7⟩:=bnd g7;obtain⟨b,i,g7⟩:=bnd g7;refine gr fol [4,5,6,7] (kV (kAt b d [])) (ac (iv vz encI e) (ac (lv 0 ce3 encI e rfl) (ac (cv (qaO N z 9 g)) (ac (hs (.done (.opt (ku ZT .add 9 (.tmp 26) (.tmp 32) (.str o) (.str p))) (.str b)) (qa2 i)) az)))) ?_;refine gh fol (kV (kAt b (w64 (d-1)) [])) ?_;exact⟨M,(ofG 39 (kV (kAt b (w64 (d-1)) [])),(kAc a.neg a.w [])),Nat.lt_succ_self _,(Sub.refl _),_,_,rfl,g7⟩
   refine Goes.exit ?_;obtain rfl:=si g7;exact⟨rfl,_,rfl,(Sub.keep [1,3] rfl rfl)⟩
 rintro x s' ⟨rfl,f,rfl,hsub⟩;refine Goes.sub hsub ?_;refine sq ?_;refine sh fol [(3,.str f),(35,.bool a.neg)] ?_;refine ihB h (fun q h=>?_) (fun q h=>?_)
 ·obtain⟨j,k,h⟩:=bnd h;refine sq (gr fol [1] [(2,.str j)] (ac (hs (.done (.opt (ku ZT .add 9 (.const (.string ⟨#[45]⟩)) (.tmp 36) (.str [45]) (.str f))) (.str j)) (qa2 k)) az) ?_);refine Goes.ret ?_;obtain rfl:=si h;exact(gw2 [.str j] (Ua tS))
 refine Goes.skip ?_;refine sh fol [(2,.str f)] ?_;refine Goes.ret ?_;obtain rfl:=si h;exact(gw2 [.str f] (Ua tS))
def xA (N:Nat) (n:qI) (d:qI):Option Str:=
 ((if d.neg=true then
 (xG N n).bind fun l=>
 (xG N d).bind fun m=>
 some (l.neg,l.w,m.neg,m.w)
 else
 some (n.neg,n.w,d.neg,d.w):Option (Bool×(List Int)×Bool×(List Int)))).bind fun(r,o,s,p)=>
 (qaR N o p).bind fun q=>
 (jQ N o q).bind fun c=>
 (jQ N p q).bind fun a=>
 (zO N r c.1).bind fun e=>
 (qbU N e).bind fun b=>
 (if(a.1.length:Int)=1 then
 (idx a.1 0).bind fun f=>
 some (decide (f=1))
 else
 some false:Option Bool).bind fun g=>
 if g=true then
 some b
 else
 (cat b [47]).bind fun h=>
 (zO N false a.1).bind fun i=>
 (qbU N i).bind fun j=>
 (cat h j).bind fun k=>
 some k
theorem qcX (N:Nat) (n:qI) (d:qI) {res:Str} (h:xA N n d=some res):qb ZT (.fn 72) (kA1 n.neg n.w d.neg d.w) [] (.str res) []:=by
 unfold xA at h;refine Ub Tryz.func72 rfl rfl (m:=57) rfl (rs:=[.tmp 4]) rfl (l:=[(0,.agg [.bool n.neg,vl encI n.w]),(1,.agg [.bool d.neg,vl encI d.w])]) rfl ?_;refine sg fol (kQ (kAN [])) (kN n.neg n.w d.neg d.w []) ?_;refine sq ?_;refine sh fol (kQ (kAN (kBD d.neg))) ?_;obtain⟨O,g5,h⟩:=bnd h;refine Goes.imp (Q:=fun x s'=>(x= .normal/\ ∃y u D v,(y,u,D,v)=O/\Sub s' (ofG 57 (kQ (kAN [])),(kN y u D v [])))) ?_ ?_
 ·refine ihB g5 (fun P g5=>?_) (fun P g5=>?_)
  ·obtain⟨L,z,g5⟩:=bnd g5;obtain⟨M,A,g5⟩:=bnd g5;refine gq fol [1,3] (kQ (kAN [])) (kN L.neg L.w M.neg M.w []) (ac (cv (qeE N n z)) (ac (cv (qeE N d A)) az)) ?_;obtain rfl:=si g5;exact⟨rfl,_,_,_,_,rfl,(Sub.refl _)⟩
  refine Goes.skip ?_;obtain rfl:=si g5;exact⟨rfl,_,_,_,_,rfl,(Sub.keep [2,3] rfl rfl)⟩
 rintro x s' ⟨rfl,y,u,D,v,rfl,hsub⟩
 try dsimp only at h
 refine Goes.sub hsub ?_;obtain⟨E,B,h⟩:=bnd h;refine sq (gr fol [4] (kQ (kAN (kBV E []))) (ac (cv (qef N u v B)) az) ?_);obtain⟨f,g,h⟩:=bnd h;refine sq (gr fol [3] (kQ (kAN (kBV E [(6,vl encI f.1)]))) (ac (cv (qbb N u E g)) az) ?_);obtain⟨c,i,h⟩:=bnd h;refine sq (gr fol [3] (kQ [(6,vl encI f.1),(8,vl encI c.1)]) (ac (cv (qbb N v E i)) az) ?_);obtain⟨F,j,h⟩:=bnd h;obtain⟨b,k,h⟩:=bnd h;refine sq (gr fol [3,4] [(8,vl encI c.1),(10,.str b)] (ac (cv (jf N y f.1 j)) (ac (cv (qfo N F k)) az)) ?_);refine sq ?_;refine sq ?_;obtain⟨G,a,h⟩:=bnd h;refine Ue (s':=(ofG 57 [(8,vl encI c.1),(10,.str b),(49,.bool G)],(kN y u D v []))) ?_ ?_
 ·rcases wyD a with⟨o,a⟩|⟨o,a⟩
  ·obtain⟨H,e,a⟩:=bnd a;obtain rfl:=si a;exact tr fol [3,5,6] [(8,vl encI c.1),(10,.str b),(49,.bool (decide (H=1)))] (ac (gw o) (ac (iv vz encI e) (ac (lv 0 ce3 encI e rfl) az)))
  obtain rfl:=si a;exact tr fol [3] [(8,vl encI c.1),(10,.str b),(49,.bool false)] (ac (gw o) az)
 refine ihB h (fun I h=>?_) (fun I h=>?_)
 ·refine sh fol (kBY b) ?_;refine Goes.ret ?_;obtain rfl:=si h;exact(gw2 [.str b] (Ua tS))
 refine Goes.skip ?_;obtain⟨C,p,h⟩:=bnd h;obtain⟨J,q,h⟩:=bnd h;obtain⟨K,r,h⟩:=bnd h;obtain⟨s,t,h⟩:=bnd h;refine sq (gr fol [1,3,4,5] (kBY s) (ac (hs (.done (.opt (ku ZT .add 9 (.tmp 51) (.const (.string ⟨#[47]⟩)) (.str b) (.str [47]))) (.str C)) (qa2 p)) (ac (cv (jf N false c.1 q)) (ac (cv (qfo N J r)) (ac (hs (.done (.opt (ku ZT .add 9 (.tmp 52) (.tmp 55) (.str C) (.str K))) (.str s)) (qa2 t)) az)))) ?_);refine Goes.ret ?_;obtain rfl:=si h;exact(gw2 [.str s] (Ua tS))
def ve:Nat->Int->Int->Option Int
 |0,_,_=>none
 |K+1,b,a=>
  if a>0 then
  (qes .i64 b a).bind fun c=>
  ve K a c
  else
  some b
def qdz (N:Nat) (a:Int) (b:Int):Option Int:=
 (ve N a b).bind fun c=>
 some c
theorem qj2 (N:Nat) (a:Int) (b:Int) {res:Int} (h:qdz N a b=some res):qb ZT (.fn 134) [.i a,.i b] [] (.i res) []:=by
 unfold qdz at h;refine Ub Tryz.func134 rfl rfl (m:=12) rfl (rs:=[.tmp 4]) rfl (l:=(kAX a b [])) rfl ?_;refine sh fol (kAX a b []) ?_;refine sq (Goes.block ?_);obtain⟨j,g4,h⟩:=bnd h;refine Goes.imp (Q:=fun x s'=>(x= .exit 0/\ ∃d,d=j/\Sub s' (ofG 12 [(0,.i d)],[]))) ?_ ?_
 ·refine Ud (fun M s=> ∃(e:Int) (c:Int),s=(ofG 12 (kAX e c []),[])/\ve M e c=some j) ?_ (m:=N) ⟨_,_,rfl,g4⟩;rintro M s ⟨e,c,rfl,g4⟩
  cases M with
  |zero=>simp only[ve]at g4;cases g4
  |succ M=>
   rw[ve]at g4;refine sq ?_;refine sh fol (kAX e c [(6,.bool (decide (c>0)))]) ?_;refine ihD g4 (fun k g4=>?_) (fun k g4=>?_)
   ·refine Goes.skip ?_;refine Goes.block ?_;obtain⟨g,f,g4⟩:=bnd g4;refine gr fol [3] (kAX c g []) (ac (hs (.done (.opt (ku ZT .rem 3 (.tmp 8) (.tmp 9) (.i e) (.i c))) (.i g)) (qgo f)) az) ?_;exact⟨M,(ofG 12 (kAX c g []),[]),Nat.lt_succ_self _,(Sub.refl _),_,_,rfl,g4⟩
   refine Goes.exit ?_;obtain rfl:=si g4;exact⟨rfl,_,rfl,(Sub.keep [0] rfl rfl)⟩
 rintro x s' ⟨rfl,d,rfl,hsub⟩;refine Goes.sub hsub ?_;refine sh fol (kBW d) ?_;refine Goes.ret ?_;obtain rfl:=si h;exact(gw2 [.i d] (Ua tI))
def qe2 (N:Nat) (num:Int) (den:Int):Option Str:=
 (if num<(-4000000000000000000)then
 some true
 else
 if num>4000000000000000000 then
 some true
 else
 if den<(-4000000000000000000)then
 some true
 else
 some (decide (den>4000000000000000000)):Option Bool).bind fun m=>
 if m=true then
 (qaA N num).bind fun n=>
 (qaA N den).bind fun o=>
 (xA N n o).bind fun p=>
 some p
 else
 ((if den<0 then
 some (w64 (0-num),w64 (0-den))
 else
 some (num,den):Option (Int×Int))).bind fun(a,c)=>
 (qdz N (if(w64 (0-a))>a then(w64 (0-a))else a) c).bind fun d=>
 (qcH .i64 a d).bind fun b=>
 (qcH .i64 c d).bind fun e=>
 ((if b<0 then
 some [45]
 else
 some []:Option Str)).bind fun g=>
 (zN N (if(w64 (0-b))>b then(w64 (0-b))else b) 1).bind fun h=>
 (cat g h).bind fun f=>
 ((if e>1 then
 (cat f [47]).bind fun i=>
 (zN N e 1).bind fun j=>
 (cat i j).bind fun k=>
 some k
 else
 some f:Option Str)).bind fun l=>
 some l
theorem qls (N:Nat) (num:Int) (den:Int) {res:Str} (h:qe2 N num den=some res):qb ZT (.fn 70) [.i num,.i den] [] (.str res) []:=by
 unfold qe2 at h;refine Ub Tryz.func70 rfl rfl (m:=61) rfl (rs:=[.tmp 4]) rfl (l:=(kAX num den [])) rfl ?_;refine sh fol (kAX num den []) ?_;refine sq ?_;refine sq ?_;obtain⟨O,a,h⟩:=bnd h;refine Ue (s':=(ofG 61 (kAX num den [(20,.bool O)]),[])) ?_ ?_
 ·rcases wyD a with⟨v,a⟩|⟨v,a⟩
  ·obtain rfl:=si a;exact tr fol [2] (kAX num den [(20,.bool true)]) (ac (gw v) az)
  rcases wyD a with⟨C,a⟩|⟨C,a⟩
  ·obtain rfl:=si a;exact tr fol [2,6] (kAX num den [(20,.bool true)]) (ac (gw v) (ac (gw C) az))
  rcases wyD a with⟨D,a⟩|⟨D,a⟩
  ·obtain rfl:=si a;exact tr fol [2,6,10] (kAX num den [(20,.bool true)]) (ac (gw v) (ac (gw C) (ac (gw D) az)))
  obtain rfl:=si a;exact tr fol [2,6,10] (kAX num den [(20,.bool (decide (den>4000000000000000000)))]) (ac (gw v) (ac (gw C) (ac (gw D) az)))
 refine ihB h (fun P h=>?_) (fun P h=>?_)
 ·obtain⟨U,w,h⟩:=bnd h;obtain⟨V,y,h⟩:=bnd h;obtain⟨M,z,h⟩:=bnd h;refine sq (gr fol [1,3,4] (kBY M) (ac (cv (qcO N num w)) (ac (cv (qcO N den y)) (ac (cv (qcX N U V z)) az))) ?_);refine Goes.ret ?_;obtain rfl:=si h;exact(gw2 [.str M] (Ua tS))
 refine Goes.skip ?_;refine sq ?_;refine sh fol (kAX num den [(27,.bool (decide (den<0)))]) ?_;obtain⟨E,g12,h⟩:=bnd h;refine Goes.imp (Q:=fun x s'=>(x= .normal/\ ∃d e,(d,e)=E/\Sub s' (ofG 61 (kAX d e []),[]))) ?_ ?_
 ·refine ihD g12 (fun F g12=>?_) (fun F g12=>?_)
  ·refine gh fol (kAX (w64 (0-num)) (w64 (0-den)) []) ?_;obtain rfl:=si g12;exact⟨rfl,_,_,rfl,(Sub.refl _)⟩
  refine Goes.skip ?_;obtain rfl:=si g12;exact⟨rfl,_,_,rfl,(Sub.keep [0,1] rfl rfl)⟩
 rintro x s' ⟨rfl,d,e,rfl,hsub⟩
 try dsimp only at h
 refine Goes.sub hsub ?_;obtain⟨k,n,h⟩:=bnd h;refine sq (gr fol [5] (kAX d e (kA8 k)) (ac (cv (qj2 N (if(w64 (0-d))>d then(w64 (0-d))else d) e n)) az) ?_);obtain⟨b,o,h⟩:=bnd h;obtain⟨c,p,h⟩:=bnd h;refine sq (gr fol [2,5] (kAX b c []) (ac (hs (.done (.opt (ku ZT .quo 3 (.tmp 38) (.tmp 39) (.i d) (.i k))) (.i b)) (qcl o)) (ac (hs (.done (.opt (ku ZT .quo 3 (.tmp 41) (.tmp 42) (.i e) (.i k))) (.i c)) (qcl p)) az)) ?_);refine sh fol (kAX b c [(6,.str [])]) ?_;refine sq ?_;refine sh fol (kAX b c [(6,.str []),(45,.bool (decide (b<0)))]) ?_;obtain⟨G,g18,h⟩:=bnd h;refine Goes.imp (Q:=fun x s'=>(x= .normal/\ ∃g,g=G/\Sub s' (ofG 61 (kAX b c [(6,.str g)]),[]))) ?_ ?_
 ·refine ihD g18 (fun H g18=>?_) (fun H g18=>?_)
  ·refine gh fol (kAX b c [(6,.str [45])]) ?_;obtain rfl:=si g18;exact⟨rfl,_,rfl,(Sub.refl _)⟩
  refine Goes.skip ?_;obtain rfl:=si g18;exact⟨rfl,_,rfl,(Sub.keep [0,1,6] rfl rfl)⟩
 rintro x s' ⟨rfl,g,rfl,hsub⟩;refine Goes.sub hsub ?_;obtain⟨I,q,h⟩:=bnd h;obtain⟨j,r,h⟩:=bnd h;refine sq (gr fol [5,6] [(1,.i c),(6,.str j)] (ac (cv (qaO N (if(w64 (0-b))>b then(w64 (0-b))else b) 1 q)) (ac (hs (.done (.opt (ku ZT .add 9 (.tmp 46) (.tmp 51) (.str g) (.str I))) (.str j)) (qa2 r)) az)) ?_);refine sq ?_;refine sh fol [(1,.i c),(6,.str j),(54,.bool (decide (c>1)))] ?_;obtain⟨J,g23,h⟩:=bnd h;refine Goes.imp (Q:=fun x s'=>(x= .normal/\ ∃f,f=J/\Sub s' (ofG 61 [(6,.str f)],[]))) ?_ ?_
 ·refine ihD g23 (fun K g23=>?_) (fun K g23=>?_)
  ·obtain⟨A,s,g23⟩:=bnd g23;obtain⟨L,t,g23⟩:=bnd g23;obtain⟨B,u,g23⟩:=bnd g23;refine gr fol [1,3,4] [(6,.str B)] (ac (hs (.done (.opt (ku ZT .add 9 (.tmp 55) (.const (.string ⟨#[47]⟩)) (.str j) (.str [47]))) (.str A)) (qa2 s)) (ac (cv (qaO N c 1 t)) (ac (hs (.done (.opt (ku ZT .add 9 (.tmp 56) (.tmp 58) (.str A) (.str L))) (.str B)) (qa2 u)) az))) ?_;obtain rfl:=si g23;exact⟨rfl,_,rfl,(Sub.refl _)⟩
  refine Goes.skip ?_;obtain rfl:=si g23;exact⟨rfl,_,rfl,(Sub.keep [6] rfl rfl)⟩
 rintro x s' ⟨rfl,f,rfl,hsub⟩;refine Goes.sub hsub ?_;refine sh fol (kBY f) ?_;refine Goes.ret ?_;obtain rfl:=si h;exact(gw2 [.str f] (Ua tS))
def qay (a:List Int) (i:Int):Option Int:=
 if i<(a.length:Int)then
 (idx a i).bind fun b=>
 some b
 else
 some 0
theorem qcG (a:List Int) (i:Int) {res:Int} (h:qay a i=some res):qb ZT (.fn 203) [vl encI a,.i i] [] (.i res) []:=by
 unfold qay at h;refine Ub Tryz.func203 rfl rfl (m:=13) rfl (rs:=[.tmp 4]) rfl (l:=(kAm a i [])) rfl ?_;refine sh fol (kAm a i []) ?_;refine sq ?_;refine sh fol (kAm a i (kBe (decide (i<(a.length:Int))))) ?_;refine ihD h (fun d h=>?_) (fun d h=>?_)
 ·obtain⟨c,b,h⟩:=bnd h;refine sq (gr fol [2,3] (kBW c) (ac (iv vz encI b) (ac (lv 0 ce3 encI b rfl) az)) ?_);refine Goes.ret ?_;obtain rfl:=si h;exact(gw2 [.i c] (Ua tI))
 refine Goes.skip ?_;refine sh fol [(4,.i 0)] ?_;refine Goes.ret ?_;obtain rfl:=si h;exact(gw2 [.i 0] (Ua tI))
def zI (a:List Int) (b:List Int):Nat->(List Int)->Int->Int->Option (List Int)
 |0,_,_,_=>none
 |K+1,h,f,c=>
  (if c<(a.length:Int)then
  some true
  else
  if c<(b.length:Int)then
  some true
  else
  some (decide (f>0)):Option Bool).bind fun i=>
  if i=true then
  (qay a c).bind fun d=>
  (qay b c).bind fun e=>
  (app 8 h [(w64 ((w64 (d+e))+f)).tmod 1000000000]).bind fun g=>
  zI a b K g (w64 ((w64 ((w64 (d+e))+f)).tdiv 1000000000)) (w64 (c+1))
  else
  some h
def xZ (N:Nat) (a:List Int) (b:List Int):Option (List Int):=
 (zI a b N ([]:List Int) 0 0).bind fun c=>
 some c
theorem qfV (N:Nat) (a:List Int) (b:List Int) {res:List Int} (h:xZ N a b=some res):qb ZT (.fn 141) (kBb a b) [] (vl encI res) []:=by
 unfold xZ at h;refine Ub Tryz.func141 rfl rfl (m:=42) rfl (rs:=[.tmp 4]) rfl (l:=(kI a b [])) rfl ?_;refine sh fol (kI a b []) ?_;refine sh fol (kI a b [(5,.nilslice)]) ?_;refine sh fol (kI a b [(5,.nilslice),(6,.i 0)]) ?_;refine sq ?_;refine sh fol (kI a b [(5,.nilslice),(6,.i 0),(7,.i 0)]) ?_;refine Goes.block ?_;obtain⟨v,g5,h⟩:=bnd h;refine Goes.imp (Q:=fun x s'=>(x= .exit 0/\ ∃q,q=v/\Sub s' (ofG 42 (kAV q []),(kD q [])))) ?_ ?_
 ·refine Goes.sub (s':=(ofG 42 (kI a b [(5,.gslice 0 ([]:List Int).length 1),(6,.i 0),(7,.i 0)]),kBQ)) (Uc [] [none] rfl rfl (.keep (.same (qf encI _)) (.keep (.same (qf encI _)) (.keep .nil (.keep (.same nI) (.keep (.same nI) .nil))))) (.fresh .nil)) ?_;refine Ud (fun M s=> ∃(k:List Int) (f:Int) (j:Int),s=(ofG 42 (kI a b (kAV k (kAK f j []))),(kD k []))/\zI a b M k f j=some v) ?_ (m:=N) ⟨_,_,_,rfl,g5⟩;rintro M s ⟨k,f,j,rfl,g5⟩
  cases M with
  |zero=>simp only[zI]at g5;cases g5
  |succ M=>
   rw[zI]at g5;refine sq ?_;refine sq ?_;obtain⟨w,c,g5⟩:=bnd g5;refine Ue (s':=(ofG 42 (kI a b (kAV k (kAK f j [(22,.bool w)]))),(kD k []))) ?_ ?_
   ·rcases wyD c with⟨r,c⟩|⟨r,c⟩
    ·obtain rfl:=si c;exact tr fol [4] (kI a b (kAV k (kAK f j [(22,.bool true)]))) (ac (gw r) az)
    rcases wyD c with⟨t,c⟩|⟨t,c⟩
    ·obtain rfl:=si c;exact tr fol [4,10] (kI a b (kAV k (kAK f j [(22,.bool true)]))) (ac (gw r) (ac (gw t) az))
    obtain rfl:=si c;exact tr fol [4,10] (kI a b (kAV k (kAK f j [(22,.bool (decide (f>0)))]))) (ac (gw r) (ac (gw t) az))
   refine ihB g5 (fun u g5=>?_) (fun u g5=>?_)
   ·refine Goes.skip ?_;refine sq (Goes.block ?_);obtain⟨d,n,g5⟩:=bnd g5;obtain⟨e,o,g5⟩:=bnd g5;refine sq (gr fol [2,5] (kI a b (kAV k (kAp j (w64 ((w64 (d+e))+f)) []))) (ac (cv (qcG a j n)) (ac (cv (qcG b j o)) az)) ?_);obtain⟨g,p,g5⟩:=bnd g5;refine sq (gq fol [4] (kI a b ((5,.gslice 2 g.length 1)::(kAp j (w64 ((w64 (d+e))+f)) []))) (kBS ((w64 ((w64 (d+e))+f)).tmod 1000000000) (kD g [])) (ac (hs (.run [0,1] (yF ZT [80,80] (.gslice 0 k.length 1) (.slice 1 0 1 1 1)) (kD k [.cells [.i ((w64 ((w64 (d+e))+f)).tmod 1000000000)]]) (.gslice 2 g.length 1) (kBS ((w64 ((w64 (d+e))+f)).tmod 1000000000) (kD g [])) true) (qa4 vz (E:=encI) rfl (qgj (E:=encI) (ys:=[(w64 ((w64 (d+e))+f)).tmod 1000000000]) rfl rfl rfl rfl) (qi6 (E:=encI) (l:=k) rfl rfl rfl p rfl))) az) ?_);refine gh fol (kI a b ((5,.gslice 2 g.length 1)::(kAK (w64 ((w64 ((w64 (d+e))+f)).tdiv 1000000000)) j []))) ?_;refine gh fol (kI a b ((5,.gslice 2 g.length 1)::(kAK (w64 ((w64 ((w64 (d+e))+f)).tdiv 1000000000)) (w64 (j+1)) []))) ?_;exact⟨M,(ofG 42 (kI a b (kAV g (kAK (w64 ((w64 ((w64 (d+e))+f)).tdiv 1000000000)) (w64 (j+1)) []))),(kD g [])),Nat.lt_succ_self _,(Uc [] [some 2] rfl rfl (.keep (.same (qf encI _)) (.keep (.same (qf encI _)) (.keep (.gslice rfl) (.keep (.same nI) (.keep (.same nI) .nil))))) (.ks .nil)),_,_,_,rfl,g5⟩
   refine Goes.exit ?_;obtain rfl:=si g5;exact⟨rfl,_,rfl,(Sub.keep [5] rfl rfl)⟩
 rintro x s' ⟨rfl,q,rfl,hsub⟩;refine Goes.sub hsub ?_;refine sh fol [(4,.gslice 0 q.length 1)] ?_;refine Goes.ret ?_;obtain rfl:=si h;exact(gw2 [.gslice 0 q.length 1] (FzW.fz (Fz.gs (E:=encI) rfl rfl (nl rfl))))
def ze (a:List Int) (b:List Int):Nat->(List Int)->Int->Int->Option (List Int)
 |0,_,_,_=>none
 |K+1,i,d,c=>
  if c<(a.length:Int)then
  (idx a c).bind fun e=>
  (qay b c).bind fun f=>
  ((if(w64 ((w64 (e-f))-d))<0 then
  some (1,w64 ((w64 ((w64 (e-f))-d))+1000000000))
  else
  some (0,w64 ((w64 (e-f))-d)):Option (Int×Int))).bind fun(j,g)=>
  (app 8 i [g]).bind fun h=>
  ze a b K h j (w64 (c+1))
  else
  some i
def yJ (N:Nat) (a:List Int) (b:List Int):Option (List Int):=
 (ze a b N ([]:List Int) 0 0).bind fun d=>
 (yz N d).bind fun c=>
 some c
theorem qcz (N:Nat) (a:List Int) (b:List Int) {res:List Int} (h:yJ N a b=some res):qb ZT (.fn 143) (kBb a b) [] (vl encI res) []:=by
 unfold yJ at h;refine Ub Tryz.func143 rfl rfl (m:=35) rfl (rs:=[.tmp 4]) rfl (l:=(kI a b [])) rfl ?_;refine sh fol (kI a b []) ?_;refine sh fol (kI a b [(5,.nilslice)]) ?_;refine sh fol (kI a b [(5,.nilslice),(6,.i 0)]) ?_;refine sq ?_;refine sh fol (kI a b [(5,.nilslice),(6,.i 0),(7,.i 0)]) ?_;refine Goes.block ?_;obtain⟨y,g5,h⟩:=bnd h;refine Goes.imp (Q:=fun x s'=>(x= .exit 0/\ ∃j,j=y/\Sub s' (ofG 35 (kAV j []),(kD j [])))) ?_ ?_
 ·refine Goes.sub (s':=(ofG 35 (kI a b [(5,.gslice 0 ([]:List Int).length 1),(6,.i 0),(7,.i 0)]),kBQ)) (Uc [] [none] rfl rfl (.keep (.same (qf encI _)) (.keep (.same (qf encI _)) (.keep .nil (.keep (.same nI) (.keep (.same nI) .nil))))) (.fresh .nil)) ?_;refine Ud (fun M s=> ∃(c:List Int) (k:Int) (d:Int),s=(ofG 35 (kI a b (kAV c (kAK k d []))),(kD c []))/\ze a b M c k d=some y) ?_ (m:=N) ⟨_,_,_,rfl,g5⟩;rintro M s ⟨c,k,d,rfl,g5⟩
  cases M with
  |zero=>simp only[ze]at g5;cases g5
  |succ M=>
   rw[ze]at g5;refine sq ?_;refine sh fol (kI a b (kAV c (kAK k d (kBD (decide (d<(a.length:Int))))))) ?_;refine ihD g5 (fun z g5=>?_) (fun z g5=>?_)
   ·refine Goes.skip ?_;refine sq (Goes.block ?_);obtain⟨q,n,g5⟩:=bnd g5;obtain⟨r,u,g5⟩:=bnd g5;refine sq (gr fol [2,3,6] (kI a b (kAV c (kAp d (w64 ((w64 (q-r))-k)) []))) (ac (iv vz encI n) (ac (lv 0 ce3 encI n rfl) (ac (cv (qcG b d u)) az))) ?_);refine sh fol (kI a b (kAV c ((6,.i 0)::(kAp d (w64 ((w64 (q-r))-k)) [])))) ?_;refine sq ?_;refine sh fol (kI a b (kAV c ((6,.i 0)::(kAp d (w64 ((w64 (q-r))-k)) [(26,.bool (decide ((w64 ((w64 (q-r))-k))<0)))])))) ?_;obtain⟨v,g11,g5⟩:=bnd g5;refine Goes.imp (Q:=fun x s'=>(x= .normal/\ ∃t e,(t,e)=v/\Sub s' (ofG 35 (kI a b (kAV c (kAK t d [(8,.i e)]))),(kD c [])))) ?_ ?_
    ·refine ihD g11 (fun w g11=>?_) (fun w g11=>?_)
     ·refine sh fol (kI a b (kAV c (kAp d (w64 ((w64 ((w64 (q-r))-k))+1000000000)) []))) ?_;refine gh fol (kI a b (kAV c ((6,.i 1)::(kAp d (w64 ((w64 ((w64 (q-r))-k))+1000000000)) [])))) ?_;obtain rfl:=si g11;exact⟨rfl,_,_,rfl,(Sub.refl _)⟩
     refine Goes.skip ?_;obtain rfl:=si g11;exact⟨rfl,_,_,rfl,(Sub.keep [0,1,5,6,7,8] rfl rfl)⟩
    rintro x s' ⟨rfl,t,e,rfl,hsub⟩
    try dsimp only at g5
    refine Goes.sub hsub ?_;obtain⟨f,o,g5⟩:=bnd g5;refine gq fol [3] (kI a b ((5,.gslice 2 f.length 1)::(kAK t d []))) (kBS e (kD f [])) (ac (hs (.run [0,1] (yF ZT [80,80] (.gslice 0 c.length 1) (.slice 1 0 1 1 1)) (kD c [.cells [.i e]]) (.gslice 2 f.length 1) (kBS e (kD f [])) true) (qa4 vz (E:=encI) rfl (qgj (E:=encI) (ys:=[e]) rfl rfl rfl rfl) (qi6 (E:=encI) (l:=c) rfl rfl rfl o rfl))) az) ?_;refine gh fol (kI a b ((5,.gslice 2 f.length 1)::(kAK t (w64 (d+1)) []))) ?_;exact⟨M,(ofG 35 (kI a b (kAV f (kAK t (w64 (d+1)) []))),(kD f [])),Nat.lt_succ_self _,(Uc [] [some 2] rfl rfl (.keep (.same (qf encI _)) (.keep (.same (qf encI _)) (.keep (.gslice rfl) (.keep (.same nI) (.keep (.same nI) .nil))))) (.ks .nil)),_,_,_,rfl,g5⟩
   refine Goes.exit ?_;obtain rfl:=si g5;exact⟨rfl,_,rfl,(Sub.keep [5] rfl rfl)⟩
 rintro x s' ⟨rfl,j,rfl,hsub⟩;refine Goes.sub hsub ?_;obtain⟨g,p,h⟩:=bnd h;refine sq (gq fol [1] [(4,vl encI g)] (kAe j) (ac (hs (.callF 201 [.gslice 0 j.length 1] (kD j []) [0] [vl encI j] (vl encI g)) (qaV (FzL.cons (Fz.gs (E:=encI) rfl rfl (nl rfl)) FzL.nil) (xg N j p) (qB encI _ (nl rfl)))) az) ?_);refine Goes.sub (show Sub (ofG 35 [(4,vl encI g)],(kAe j)) (ofG 35 [(4,vl encI g)],[])from(Uc [] [] rfl rfl (.keep (.same (qf encI _)) .nil) .nil)) ?_;refine Goes.ret ?_;obtain rfl:=si h;exact(gw2 [vl encI g] (Ua (qB encI _ (nl rfl))))
def qcI (N:Nat) (a:qI) (b:qI):Option qI:=
 if(a.neg==b.neg)=true then
 (xZ N a.w b.w).bind fun c=>
 (zO N a.neg c).bind fun d=>
 some d
 else
 (jK N a.w b.w).bind fun e=>
 if e>=0 then
 (yJ N a.w b.w).bind fun f=>
 (zO N a.neg f).bind fun g=>
 some g
 else
 (yJ N b.w a.w).bind fun h=>
 (zO N b.neg h).bind fun i=>
 some i
theorem qji (N:Nat) (a:qI) (b:qI) {res:qI} (h:qcI N a b=some res):qb ZT (.fn 73) (kA1 a.neg a.w b.neg b.w) [] (.agg (kAl res.neg res.w)) []:=by
 unfold qcI at h;refine Ub Tryz.func73 rfl rfl (m:=40) rfl (rs:=[.cell 4 126]) rfl (l:=[(0,.agg [.bool a.neg,vl encI a.w]),(1,.agg [.bool b.neg,vl encI b.w])]) rfl ?_;refine sg fol (kG []) (kN a.neg a.w b.neg b.w (kS [])) ?_;refine sq ?_;refine sh fol (kG [(9,.bool (a.neg==b.neg))]) ?_;refine ihB h (fun p h=>?_) (fun p h=>?_)
 ·obtain⟨q,c,h⟩:=bnd h;obtain⟨k,d,h⟩:=bnd h;refine sq (gq fol [6,7] (kAg []) (kN a.neg a.w b.neg b.w (kAc k.neg k.w [])) (ac (cv (qfV N a.w b.w c)) (ac (cv (jf N a.neg q d)) az)) ?_);refine Goes.ret ?_;obtain rfl:=si h;exact(gw2 [.agg (kAl k.neg k.w)] (FzW.agg (qd.cons (Ua tB) (qd.cons (Ua (qB encI _ (nl rfl))) qd.nil))))
 refine Goes.skip ?_;refine sq ?_;obtain⟨r,e,h⟩:=bnd h;refine sq (gr fol [4] (kG [(23,.bool (decide (r>=0)))]) (ac (cv (qbo N a.w b.w e)) az) ?_);refine ihD h (fun s h=>?_) (fun s h=>?_)
 ·obtain⟨t,f,h⟩:=bnd h;obtain⟨n,g,h⟩:=bnd h;refine sq (gq fol [6,7] (kAg []) (kN a.neg a.w b.neg b.w (kAc n.neg n.w [])) (ac (cv (qcz N a.w b.w f)) (ac (cv (jf N a.neg t g)) az)) ?_);refine Goes.ret ?_;obtain rfl:=si h;exact(gw2 [.agg (kAl n.neg n.w)] (FzW.agg (qd.cons (Ua tB) (qd.cons (Ua (qB encI _ (nl rfl))) qd.nil))))
 refine Goes.skip ?_;obtain⟨u,i,h⟩:=bnd h;obtain⟨o,j,h⟩:=bnd h;refine sq (gq fol [6,7] (kAg []) (kN a.neg a.w b.neg b.w (kAc o.neg o.w [])) (ac (cv (qcz N b.w a.w i)) (ac (cv (jf N b.neg u j)) az)) ?_);refine Goes.ret ?_;obtain rfl:=si h;exact(gw2 [.agg (kAl o.neg o.w)] (FzW.agg (qd.cons (Ua tB) (qd.cons (Ua (qB encI _ (nl rfl))) qd.nil))))
def qax (N:Nat) (a:qI) (b:qI):Option qI:=
 (vX N a.w b.w).bind fun c=>
 (zO N (!(a.neg==b.neg)) c).bind fun d=>
 some d
theorem qcJ (N:Nat) (a:qI) (b:qI) {res:qI} (h:qax N a b=some res):qb ZT (.fn 74) (kA1 a.neg a.w b.neg b.w) [] (.agg (kAl res.neg res.w)) []:=by
 unfold qax at h;refine Ub Tryz.func74 rfl rfl (m:=16) rfl (rs:=[.cell 4 126]) rfl (l:=[(0,.agg [.bool a.neg,vl encI a.w]),(1,.agg [.bool b.neg,vl encI b.w])]) rfl ?_;refine sg fol (kG []) (kN a.neg a.w b.neg b.w (kS [])) ?_;obtain⟨f,c,h⟩:=bnd h;obtain⟨e,d,h⟩:=bnd h;refine sq (gq fol [9,10] (kAg []) (kN a.neg a.w b.neg b.w (kAc e.neg e.w [])) (ac (cv (qbd N a.w b.w c)) (ac (cv (jf N (!(a.neg==b.neg)) f d)) az)) ?_);refine Goes.ret ?_;obtain rfl:=si h;exact(gw2 [.agg (kAl e.neg e.w)] (FzW.agg (qd.cons (Ua tB) (qd.cons (Ua (qB encI _ (nl rfl))) qd.nil))))
def qbR (N:Nat) (a:Str) (b:Str):Option Str:=
 (yN N a).bind fun c=>
 (yN N b).bind fun d=>
 (if c.2.2=true then
 some d.2.2
 else
 some false:Option Bool).bind fun l=>
 if l=true then
 (qe2 N (w64 ((w64 (c.1*d.2.1))+(w64 (d.1*c.2.1)))) (w64 (c.2.1*d.2.1))).bind fun m=>
 some m
 else
 (yT N a).bind fun e=>
 (yT N b).bind fun f=>
 (qax N e.1 f.2).bind fun g=>
 (qax N f.1 e.2).bind fun h=>
 (qcI N g h).bind fun i=>
 (qax N e.2 f.2).bind fun j=>
 (xA N i j).bind fun k=>
 some k
theorem qdJ (N:Nat) (a:Str) (b:Str) {res:Str} (h:qbR N a b=some res):qb ZT (.fn 18) (kBB a b) [] (.str res) []:=by
 unfold qbR at h;refine Ub Tryz.func18 rfl rfl (m:=63) rfl (rs:=[.tmp 4]) rfl (l:=(kT a b [])) rfl ?_;refine sh fol (kT a b []) ?_;obtain⟨d,p,h⟩:=bnd h;refine sq (gr fol [1] (kT a b (kBP d.1 d.2.1 [(7,.bool d.2.2)])) (ac (cv (qer N a p)) az) ?_);obtain⟨e,q,h⟩:=bnd h;refine sq (gr fol [1] (kT a b (kBP d.1 d.2.1 ((7,.bool d.2.2)::(kA0 e.1 e.2.1 (kBh e.2.2))))) (ac (cv (qer N b q)) az) ?_);refine sq ?_;refine sq ?_;obtain⟨C,c,h⟩:=bnd h;refine Ue (s':=(ofG 63 (kT a b (kBP d.1 d.2.1 (kA0 e.1 e.2.1 [(30,.bool C)]))),[])) ?_ ?_
 ·rcases wyB c with⟨v,c⟩|⟨v,c⟩
  ·obtain rfl:=si c;exact tr fol [1] (kT a b (kBP d.1 d.2.1 (kA0 e.1 e.2.1 [(30,.bool e.2.2)]))) (ac (gw v) az)
  obtain rfl:=si c;exact tr fol [1] (kT a b (kBP d.1 d.2.1 (kA0 e.1 e.2.1 [(30,.bool false)]))) (ac (gw v) az)
 refine ihB h (fun D h=>?_) (fun D h=>?_)
 ·obtain⟨B,r,h⟩:=bnd h;refine sq (gr fol [10] (kBY B) (ac (cv (qls N (w64 ((w64 (d.1*e.2.1))+(w64 (e.1*d.2.1)))) (w64 (d.2.1*e.2.1)) r)) az) ?_);refine Goes.ret ?_;obtain rfl:=si h;exact(gw2 [.str B] (Ua tS))
 refine Goes.skip ?_;obtain⟨f,s,h⟩:=bnd h;refine sq (gq fol [1] [(1,.str b),(11,.ptr 0 0),(12,.ptr 1 0)] (kN f.1.neg f.1.w f.2.neg f.2.w []) (ac (cv (qct N a s)) az) ?_);obtain⟨g,t,h⟩:=bnd h;refine sq (gq fol [1] [(11,.ptr 0 0),(12,.ptr 1 0),(13,.ptr 2 0),(14,.ptr 3 0)] (kN f.1.neg f.1.w f.2.neg f.2.w (kN g.1.neg g.1.w g.2.neg g.2.w [])) (ac (cv (qct N b t)) az) ?_);obtain⟨x,i,h⟩:=bnd h;obtain⟨y,j,h⟩:=bnd h;obtain⟨z,k,h⟩:=bnd h;obtain⟨A,n,h⟩:=bnd h;obtain⟨u,o,h⟩:=bnd h;refine sq (gr fol [2,5,6,9,10] (kBY u) (ac (cv (qcJ N f.1 g.2 i)) (ac (cv (qcJ N g.1 f.2 j)) (ac (cv (qji N x y k)) (ac (cv (qcJ N f.2 g.2 n)) (ac (cv (qcX N z A o)) az))))) ?_);refine Goes.ret ?_;obtain rfl:=si h;exact(gw2 [.str u] (Ua tS))
def qdH (a:Str):Option Str:=
 (vV a).bind fun b=>
 if b<0 then
 (cut a 1 (a.length:Int)).bind fun c=>
 some c
 else
 (vV a).bind fun d=>
 if d=0 then
 some a
 else
 (cat [45] a).bind fun e=>
 some e
theorem qka (a:Str) {res:Str} (h:qdH a=some res):qb ZT (.fn 145) [.str a] [] (.str res) []:=by
 unfold qdH at h;refine Ub Tryz.func145 rfl rfl (m:=14) rfl (rs:=[.tmp 2]) rfl (l:=(kAM a)) rfl ?_;refine sh fol (kAM a) ?_;refine sq ?_;obtain⟨j,b,h⟩:=bnd h;refine sq (gr fol [1] (kBG a [(5,.bool (decide (j<0)))]) (ac (cv (qah a b)) az) ?_);refine ihD h (fun k h=>?_) (fun k h=>?_)
 ·obtain⟨f,c,h⟩:=bnd h;refine sq (gr fol [1] [(2,.str f)] (ac (hs (.done (.opt (kg ZT 23 (.str a) (some (.i 1)) none none)) (.str f)) (jr ql0 (some 1) none c)) az) ?_);refine Goes.ret ?_;obtain rfl:=si h;exact(gw2 [.str f] (Ua tS))
 refine Goes.skip ?_;refine sq ?_;obtain⟨n,d,h⟩:=bnd h;refine sq (gr fol [1] (kBG a (kBh (decide (n=0)))) (ac (cv (qah a d)) az) ?_);refine ihD h (fun o h=>?_) (fun o h=>?_)
 ·refine sh fol [(2,.str a)] ?_;refine Goes.ret ?_;obtain rfl:=si h;exact(gw2 [.str a] (Ua tS))
 refine Goes.skip ?_;obtain⟨g,e,h⟩:=bnd h;refine sq (gr fol [1] [(2,.str g)] (ac (hs (.done (.opt (ku ZT .add 23 (.const (.string ⟨#[45]⟩)) (.tmp 12) (.str [45]) (.str a))) (.str g)) (qa2 e)) az) ?_);refine Goes.ret ?_;obtain rfl:=si h;exact(gw2 [.str g] (Ua tS))
def qcr (N:Nat) (a:Str) (b:Str):Option Str:=
 (qdH b).bind fun c=>
 (qbR N a c).bind fun d=>
 some d
theorem qki (N:Nat) (a:Str) (b:Str) {res:Str} (h:qcr N a b=some res):qb ZT (.fn 75) (kBB a b) [] (.str res) []:=by
 unfold qcr at h;refine Ub Tryz.func75 rfl rfl (m:=9) rfl (rs:=[.tmp 4]) rfl (l:=(kT a b [])) rfl ?_;refine sh fol (kT a b []) ?_;obtain⟨f,c,h⟩:=bnd h;obtain⟨e,d,h⟩:=bnd h;refine sq (gr fol [2,3] (kBY e) (ac (cv (qka b c)) (ac (cv (qdJ N a f d)) az)) ?_);refine Goes.ret ?_;obtain rfl:=si h;exact(gw2 [.str e] (Ua tS))
def qad (N:Nat) (a:Str) (b:Str):Option Int:=
 (qcr N a b).bind fun c=>
 (vV c).bind fun d=>
 some d
theorem xK (N:Nat) (a:Str) (b:Str) {res:Int} (h:qad N a b=some res):qb ZT (.fn 20) (kBB a b) [] (.i res) []:=by
 unfold qad at h;refine Ub Tryz.func20 rfl rfl (m:=9) rfl (rs:=[.tmp 4]) rfl (l:=(kT a b [])) rfl ?_;refine sh fol (kT a b []) ?_;obtain⟨f,c,h⟩:=bnd h;obtain⟨e,d,h⟩:=bnd h;refine sq (gr fol [2,3] (kBW e) (ac (cv (qki N a b c)) (ac (cv (qah f d)) az)) ?_);refine Goes.ret ?_;obtain rfl:=si h;exact(gw2 [.i e] (Ua tI))
def jd (N:Nat) (a:Str):Option Int:=
 (yM N a).bind fun b=>
 (if b=0 then
 (vV a).bind fun c=>
 some (decide (c<0))
 else
 some false:Option Bool).bind fun d=>
 ((if d=true then
 some 3
 else
 some b:Option Int)).bind fun e=>
 some e
theorem qby (N:Nat) (a:Str) {res:Int} (h:jd N a=some res):qb ZT (.fn 17) [.str a] [] (.i res) []:=by
 unfold jd at h;refine Ub Tryz.func17 rfl rfl (m:=14) rfl (rs:=[.tmp 2]) rfl (l:=(kAM a)) rfl ?_;refine sh fol (kAM a) ?_;obtain⟨f,c,h⟩:=bnd h;refine sq (gr fol [1] (kAH a f []) (ac (cv (yo N a c)) az) ?_);refine sq ?_;refine sq ?_;obtain⟨j,b,h⟩:=bnd h;refine Ue (s':=(ofG 14 ((3,.i f)::(kBD j)),[])) ?_ ?_
 ·rcases wyD b with⟨g,b⟩|⟨g,b⟩
  ·obtain⟨k,d,b⟩:=bnd b;obtain rfl:=si b;exact tr fol [2,4] ((3,.i f)::(kBD (decide (k<0)))) (ac (gw g) (ac (cv (qah a d)) az))
  obtain rfl:=si b;exact tr fol [2] [(3,.i f),(12,.bool false)] (ac (gw g) az)
 obtain⟨n,g7,h⟩:=bnd h;refine Goes.imp (Q:=fun x s'=>(x= .normal/\ ∃e,e=n/\Sub s' (ofG 14 [(3,.i e)],[]))) ?_ ?_
 ·refine ihB g7 (fun o g7=>?_) (fun o g7=>?_)
  ·refine gh fol [(3,.i 3)] ?_;obtain rfl:=si g7;exact⟨rfl,_,rfl,(Sub.refl _)⟩
  refine Goes.skip ?_;obtain rfl:=si g7;exact⟨rfl,_,rfl,(Sub.keep [3] rfl rfl)⟩
 rintro x s' ⟨rfl,e,rfl,hsub⟩;refine Goes.sub hsub ?_;refine sh fol (kBL e) ?_;refine Goes.ret ?_;obtain rfl:=si h;exact(gw2 [.i e] (Ua tI))
def vW (c:Str):Nat->Int->Option (Unit⊕Bool)
 |0,_=>none
 |K+1,b=>
  if b<(c.length:Int)then
  (idx c b).bind fun a=>
  (if(a.toNat:Int)>=97 then
  if(a.toNat:Int)<=122 then
  some true
  else
  if(a.toNat:Int)>=65 then
  some (decide ((a.toNat:Int)<=90))
  else
  some false
  else
  if(a.toNat:Int)>=65 then
  some (decide ((a.toNat:Int)<=90))
  else
  some false:Option Bool).bind fun d=>
  (if(!d)=true then
  if b=0 then
  some true
  else
  if(a.toNat:Int)>=48 then
  if(a.toNat:Int)<=57 then
  some false
  else
  some (!(decide ((a.toNat:Int)=95)))
  else
  some (!(decide ((a.toNat:Int)=95)))
  else
  some false:Option Bool).bind fun e=>
  if e=true then
  some (.inr false)
  else
  vW c K (w64 (b+1))
  else
  some (.inl ())
def xO (N:Nat) (a:Str):Option Bool:=
 (if(a.length:Int)<1 then
 some true
 else
 some (decide ((a.length:Int)>24)):Option Bool).bind fun c=>
 if c=true then
 some false
 else
 (vW a N 0).bind (fun
 |(.inl ())=>
 some true
 |(.inr b)=>
 some b)
theorem qch (N:Nat) (c:Str) {res:Bool} (h:xO N c=some res):qb ZT (.fn 60) [.str c] [] (.bool res) []:=by
 unfold xO at h;refine Ub Tryz.func60 rfl rfl (m:=56) rfl (rs:=[.tmp 2]) rfl (l:=(kAM c)) rfl ?_;refine sh fol (kAM c) ?_;refine sq ?_;refine sq ?_;obtain⟨B,e,h⟩:=bnd h;refine Ue (s':=(ofG 56 (kBG c (kBC B)),[])) ?_ ?_
 ·rcases wyD e with⟨u,e⟩|⟨u,e⟩
  ·obtain rfl:=si e;exact tr fol [3] (kBG c [(13,.bool true)]) (ac (gw u) az)
  obtain rfl:=si e;exact tr fol [3] (kBG c (kBC (decide ((c.length:Int)>24)))) (ac (gw u) az)
 refine ihB h (fun C h=>?_) (fun C h=>?_)
 ·refine sh fol kAo ?_;refine Goes.ret ?_;obtain rfl:=si h;exact(gw2 [.bool false] (Ua tB))
 refine Goes.skip ?_;refine sq ?_;refine sh fol (kBG c [(3,.i 0)]) ?_;refine Goes.block ?_;obtain⟨v,g6,h⟩:=bnd h;refine Goes.imp (Q:=fun x s'=>(x= .exit 0/\(.inl ())=v/\Sub s' (ofG 56 [],[]))\/(x= .ret/\ ∃A,(.inr A)=v/\zh ZT [.tmp 2] (.bool A) .ret s')) ?_ ?_
 ·refine Ud (fun M s=> ∃(d:Int),s=(ofG 56 (kAH c d []),[])/\vW c M d=some v) ?_ (m:=N) ⟨_,rfl,g6⟩;rintro M s ⟨d,rfl,g6⟩
  cases M with
  |zero=>simp only[vW]at g6;cases g6
  |succ M=>
   rw[vW]at g6;refine sq ?_;refine sh fol (kAH c d [(17,.bool (decide (d<(c.length:Int))))]) ?_;refine ihD g6 (fun D g6=>?_) (fun D g6=>?_)
   ·refine Goes.skip ?_;refine sq (Goes.block ?_);obtain⟨j,t,g6⟩:=bnd g6;refine sq (gr fol [2] (kAH c d [(4,.int .u8 (j.toNat:Int))]) (ac (hs (.done (.opt (yw ZT 9 (.str c) (.i d))) (.int .u8 (j.toNat:Int))) (qaH st9 t)) az) ?_);refine sq ?_;obtain⟨w,a,g6⟩:=bnd g6;refine Ue (s':=(ofG 56 (kAH c d [(4,.int .u8 (j.toNat:Int)),(5,.bool w)]),[])) ?_ ?_
    ·rcases wyD a with⟨f,a⟩|⟨f,a⟩
     ·rcases wyD a with⟨n,a⟩|⟨n,a⟩
      ·obtain rfl:=si a;exact tr fol [2,6] (kAH c d [(4,.int .u8 (j.toNat:Int)),(5,.bool true)]) (ac (gw f) (ac (gw n) az))
      rcases wyD a with⟨p,a⟩|⟨p,a⟩
      ·obtain rfl:=si a;exact tr fol [2,6,9] (kAH c d [(4,.int .u8 (j.toNat:Int)),(5,.bool (decide ((j.toNat:Int)<=90)))]) (ac (gw f) (ac (gw n) (ac (gw p) az)))
      obtain rfl:=si a;exact tr fol [2,6,9] (kAH c d [(4,.int .u8 (j.toNat:Int)),(5,.bool false)]) (ac (gw f) (ac (gw n) (ac (gw p) az)))
     rcases wyD a with⟨q,a⟩|⟨q,a⟩
     ·obtain rfl:=si a;exact tr fol [2,9] (kAH c d [(4,.int .u8 (j.toNat:Int)),(5,.bool (decide ((j.toNat:Int)<=90)))]) (ac (gw f) (ac (gw q) az))
     obtain rfl:=si a;exact tr fol [2,9] (kAH c d [(4,.int .u8 (j.toNat:Int)),(5,.bool false)]) (ac (gw f) (ac (gw q) az))
    refine sq ?_;obtain⟨y,b,g6⟩:=bnd g6;refine Ue (s':=(ofG 56 (kAH c d [(55,.bool y)]),[])) ?_ ?_
    ·rcases wyB b with⟨g,b⟩|⟨g,b⟩
     ·rcases wyD b with⟨k,b⟩|⟨k,b⟩
      ·obtain rfl:=si b;exact tr fol [2,5] (kAH c d [(55,.bool true)]) (ac (gw g) (ac (gw k) az))
      rcases wyD b with⟨o,b⟩|⟨o,b⟩
      ·rcases wyD b with⟨r,b⟩|⟨r,b⟩
       ·obtain rfl:=si b;exact tr fol [2,5,8,12] (kAH c d [(55,.bool false)]) (ac (gw g) (ac (gw k) (ac (gw o) (ac (gw r) az))))
       obtain rfl:=si b;exact tr fol [2,5,8,12] (kAH c d [(55,.bool (!(decide ((j.toNat:Int)=95))))]) (ac (gw g) (ac (gw k) (ac (gw o) (ac (gw r) az))))
      obtain rfl:=si b;exact tr fol [2,5,8] (kAH c d [(55,.bool (!(decide ((j.toNat:Int)=95))))]) (ac (gw g) (ac (gw k) (ac (gw o) az)))
     obtain rfl:=si b;exact tr fol [2] (kAH c d [(55,.bool false)]) (ac (gw g) az)
    refine ihB g6 (fun z g6=>?_) (fun z g6=>?_)
    ·refine sh fol kAo ?_;refine Goes.ret ?_;obtain rfl:=si g6;exact Or.inr (⟨rfl,_,rfl,(gw2 [.bool false] (Ua tB))⟩)
    refine Goes.skip ?_;refine gh fol (kAH c (w64 (d+1)) []) ?_;exact⟨M,(ofG 56 (kAH c (w64 (d+1)) []),[]),Nat.lt_succ_self _,(Sub.refl _),_,rfl,g6⟩
   refine Goes.exit ?_;obtain rfl:=si g6;exact Or.inl (⟨rfl,rfl,(Sub.keep [] rfl rfl)⟩)
 rintro x s' (⟨rfl,rfl,hsub⟩|⟨rfl,E,rfl,hret⟩)
 ·try dsimp only at h
  refine Goes.sub hsub ?_;refine sh fol kBg ?_;refine Goes.ret ?_;obtain rfl:=si h;exact(gw2 [.bool true] (Ua tB))
 try dsimp only at h
 obtain rfl:=si h;exact hret
def qcd (N:Nat) (a:Str):Option Bool:=
 (if(a==[])=true then
 some true
 else
 (xO N a).bind fun b=>
 some b:Option Bool).bind fun c=>
 some c
theorem qim (N:Nat) (b:Str) {res:Bool} (h:qcd N b=some res):qb ZT (.fn 78) [.str b] [] (.bool res) []:=by
 unfold qcd at h;refine Ub Tryz.func78 rfl rfl (m:=9) rfl (rs:=[.tmp 2]) rfl (l:=(kAM b)) rfl ?_;refine sh fol (kAM b) ?_;refine sq ?_;obtain⟨e,a,h⟩:=bnd h;refine Ue (s':=(ofG 9 (kBT e),[])) ?_ ?_
 ·rcases wyB a with⟨d,a⟩|⟨d,a⟩
  ·obtain rfl:=si a;exact tr fol [2] kBg (ac (gw d) az)
  obtain⟨f,c,a⟩:=bnd a;obtain rfl:=si a;exact tr fol [2,4] (kBT f) (ac (gw d) (ac (cv (qch N b c)) az))
 refine Goes.ret ?_;obtain rfl:=si h;exact(gw2 [.bool e] (Ua tB))
def qO (N:Nat) (y:qh):Nat->Int->Option (Unit⊕Int)
 |0,_=>none
 |K+1,a=>
  if a<(y.Strength.length:Int)then
  (idx y.Strength a).bind fun b=>
  (jd N b.X).bind fun c=>
  ((if c=0 then
  (jd N b.Y).bind fun e=>
  some e
  else
  some c:Option Int)).bind fun d=>
  if(!decide (d=0))=true then
  some (.inr d)
  else
  (if a>0 then
  (idx y.Strength (w64 (a-1))).bind fun f=>
  (qad N b.X f.X).bind fun g=>
  some (decide (g<=0))
  else
  some false:Option Bool).bind fun h=>
  if h=true then
  some (.inr 11)
  else
  qO N y K (w64 (a+1))
  else
  some (.inl ())
def yH (N:Nat) (y:qh):Option Int:=
 (xO N y.Name).bind fun e=>
 if(!e)=true then
 some 8
 else
 (jJ N y.Density).bind fun c=>
 ((if c=0 then
 (yM N y.Twist).bind fun f=>
 some f
 else
 some c:Option Int)).bind fun d=>
 if(!decide (d=0))=true then
 some d
 else
 if(y.Strength.length:Int)=0 then
 some 12
 else
 if(y.Strength.length:Int)>256 then
 some 5
 else
 (qO N y N 0).bind (fun
 |(.inl ())=>
 (qcd N y.Dye).bind fun a=>
 if(!a)=true then
 some 8
 else
 some 0
 |(.inr b)=>
 some b)
theorem qfO (N:Nat) (y:qh) {res:Int} (h:yH N y=some res):qb ZT (.fn 23) [.agg (kAn y.Name y.Density y.Twist y.Strength y.Dye)] [] (.i res) []:=by
 unfold yH at h;refine Ub Tryz.func23 rfl rfl (m:=78) rfl (rs:=[.tmp 2]) rfl (l:=(kAE y.Name y.Density y.Twist y.Strength y.Dye [])) rfl ?_;refine sg fol (kV []) (kA y.Name y.Density y.Twist y.Strength y.Dye []) ?_;refine sq ?_;obtain⟨O,t,h⟩:=bnd h;refine sq (gr fol [2] (kV [(9,.bool (!O))]) (ac (cv (qch N y.Name t)) az) ?_);refine ihB h (fun P h=>?_) (fun P h=>?_)
 ·refine sh fol [(2,.i 8)] ?_;refine Goes.ret ?_;obtain rfl:=si h;exact(gw2 [.i 8] (Ua tI))
 refine Goes.skip ?_;obtain⟨z,u,h⟩:=bnd h;refine sq (gr fol [2] (kV [(3,.i z)]) (ac (cv (yU N y.Density u)) az) ?_);refine sq ?_;refine sh fol (kV [(3,.i z),(14,.bool (decide (z=0)))]) ?_;obtain⟨U,g5,h⟩:=bnd h;refine Goes.imp (Q:=fun x s'=>(x= .normal/\ ∃f,f=U/\Sub s' (ofG 78 (kV [(3,.i f)]),(kA y.Name y.Density y.Twist y.Strength y.Dye [])))) ?_ ?_
 ·refine ihD g5 (fun V g5=>?_) (fun V g5=>?_)
  ·obtain⟨Z,v,g5⟩:=bnd g5;refine gr fol [2] (kV [(3,.i Z)]) (ac (cv (yo N y.Twist v)) az) ?_;obtain rfl:=si g5;exact⟨rfl,_,rfl,(Sub.refl _)⟩
  refine Goes.skip ?_;obtain rfl:=si g5;exact⟨rfl,_,rfl,(Sub.keep [1,3] rfl rfl)⟩
 rintro x s' ⟨rfl,f,rfl,hsub⟩;refine Goes.sub hsub ?_;refine sq ?_;refine sh fol (kV [(3,.i f),(19,.bool (!decide (f=0)))]) ?_;refine ihB h (fun c8 h=>?_) (fun c8 h=>?_)
 ·refine sh fol (kBL f) ?_;refine Goes.ret ?_;obtain rfl:=si h;exact(gw2 [.i f] (Ua tI))
 refine Goes.skip ?_;refine sq ?_;refine sh fol (kV [(24,.bool (decide ((y.Strength.length:Int)=0)))]) ?_;refine ihD h (fun c9 h=>?_) (fun c9 h=>?_)
 ·refine sh fol [(2,.i 12)] ?_;refine Goes.ret ?_;obtain rfl:=si h;exact(gw2 [.i 12] (Ua tI))
 refine Goes.skip ?_;refine sq ?_;refine sh fol (kV [(28,.bool (decide ((y.Strength.length:Int)>256)))]) ?_;refine ihD h (fun A h=>?_) (fun A h=>?_)
 ·refine sh fol [(2,.i 5)] ?_;refine Goes.ret ?_;obtain rfl:=si h;exact(gw2 [.i 5] (Ua tI))
 refine Goes.skip ?_;refine sq ?_;refine sh fol (kV [(4,.i 0)]) ?_;refine Goes.block ?_;obtain⟨g,g12,h⟩:=bnd h;refine Goes.imp (Q:=fun x s'=>(x= .exit 0/\(.inl ())=g/\Sub s' (ofG 78 (kV []),(kA y.Name y.Density y.Twist y.Strength y.Dye [])))\/(x= .ret/\ ∃w,(.inr w)=g/\zh ZT [.tmp 2] (.i w) .ret s')) ?_ ?_
 ·refine Ud (fun M s=> ∃(b:Int),s=(ofG 78 (kV (kBW b)),(kA y.Name y.Density y.Twist y.Strength y.Dye []))/\qO N y M b=some g) ?_ (m:=N) ⟨_,rfl,g12⟩;rintro M s ⟨b,rfl,g12⟩
  cases M with
  |zero=>simp only[qO]at g12;cases g12
  |succ M=>
   rw[qO]at g12;refine sq ?_;refine sh fol (kV [(4,.i b),(33,.bool (decide (b<(y.Strength.length:Int))))]) ?_;refine ihD g12 (fun B g12=>?_) (fun B g12=>?_)
   ·refine Goes.skip ?_;refine sq (Goes.block ?_);obtain⟨j,c,g12⟩:=bnd g12;obtain⟨k,n,g12⟩:=bnd g12;refine sq (gr fol [3,5,6] (kV ((4,.i b)::(kA8 k))) (ac (iv qeR qg c) (ac (lv 0 qlq qg c rfl) (ac (cv (qby N j.X n)) az))) ?_);refine sq ?_;refine sh fol (kV [(4,.i b),(5,.i k),(44,.bool (decide (k=0)))]) ?_;obtain⟨C,g18,g12⟩:=bnd g12;refine Goes.imp (Q:=fun x s'=>(x= .normal/\ ∃d,d=C/\Sub s' (ofG 78 (kV ((4,.i b)::(kA8 d))),(kA y.Name y.Density y.Twist y.Strength y.Dye [])))) ?_ ?_
    ·refine ihD g18 (fun D g18=>?_) (fun D g18=>?_)
     ·obtain⟨E,o,g18⟩:=bnd g18;refine gr fol [3,5,6] (kV ((4,.i b)::(kA8 E))) (ac (iv qeR qg c) (ac (lv 1 qlq qg c rfl) (ac (cv (qby N j.Y o)) az))) ?_;obtain rfl:=si g18;exact⟨rfl,_,rfl,(Sub.refl _)⟩
     refine Goes.skip ?_;obtain rfl:=si g18;exact⟨rfl,_,rfl,(Sub.keep [1,4,5] rfl rfl)⟩
    rintro x s' ⟨rfl,d,rfl,hsub⟩;refine Goes.sub hsub ?_;refine sq ?_;refine sh fol (kV [(4,.i b),(5,.i d),(53,.bool (!decide (d=0)))]) ?_;refine ihB g12 (fun F g12=>?_) (fun F g12=>?_)
    ·refine sh fol (kBL d) ?_;refine Goes.ret ?_;obtain rfl:=si g12;exact Or.inr (⟨rfl,_,rfl,(gw2 [.i d] (Ua tI))⟩)
    refine Goes.skip ?_;refine sq ?_;obtain⟨G,a,g12⟩:=bnd g12;refine Ue (s':=(ofG 78 (kV [(4,.i b),(73,.bool G)]),(kA y.Name y.Density y.Twist y.Strength y.Dye []))) ?_ ?_
    ·rcases wyD a with⟨p,a⟩|⟨p,a⟩
     ·obtain⟨H,e,a⟩:=bnd a;obtain⟨I,q,a⟩:=bnd a;obtain rfl:=si a;exact tr fol [2,6,8,13,15,16] (kV [(4,.i b),(73,.bool (decide (I<=0)))]) (ac (gw p) (ac (iv qeR qg c) (ac (lv 0 qlq qg c rfl) (ac (iv qeR qg e) (ac (lv 0 qlq qg e rfl) (ac (cv (xK N j.X H.X q)) az))))))
     obtain rfl:=si a;exact tr fol [2] (kV [(4,.i b),(73,.bool false)]) (ac (gw p) az)
    refine ihB g12 (fun J g12=>?_) (fun J g12=>?_)
    ·refine sh fol [(2,.i 11)] ?_;refine Goes.ret ?_;obtain rfl:=si g12;exact Or.inr (⟨rfl,_,rfl,(gw2 [.i 11] (Ua tI))⟩)
    refine Goes.skip ?_;refine gh fol (kV (kBW (w64 (b+1)))) ?_;exact⟨M,(ofG 78 (kV (kBW (w64 (b+1)))),(kA y.Name y.Density y.Twist y.Strength y.Dye [])),Nat.lt_succ_self _,(Sub.refl _),_,rfl,g12⟩
   refine Goes.exit ?_;obtain rfl:=si g12;exact Or.inl (⟨rfl,rfl,(Sub.keep [1] rfl rfl)⟩)
 rintro x s' (⟨rfl,rfl,hsub⟩|⟨rfl,q30,rfl,hret⟩)
 ·try dsimp only at h
  refine Goes.sub hsub ?_;refine sq ?_;obtain⟨K,r,h⟩:=bnd h;refine sq (gr fol [2] [(77,.bool (!K))] (ac (cv (qim N y.Dye r)) az) ?_);refine ihB h (fun L h=>?_) (fun L h=>?_)
  ·refine sh fol [(2,.i 8)] ?_;refine Goes.ret ?_;obtain rfl:=si h;exact(gw2 [.i 8] (Ua tI))
  refine Goes.skip ?_;refine sh fol [(2,.i 0)] ?_;refine Goes.ret ?_;obtain rfl:=si h;exact(gw2 [.i 0] (Ua tI))
 try dsimp only at h
 obtain rfl:=si h;exact hret
def kL (N:Nat) (l:List qh):Nat->Int->Option (Unit⊕Int)
 |0,_=>none
 |K+1,b=>
  if b<(l.length:Int)then
  (idx l b).bind fun c=>
  (yH N c).bind fun a=>
  if(!decide (a=0))=true then
  some (.inr a)
  else
  kL N l K (w64 (b+1))
  else
  some (.inl ())
def qav (N:Nat) (name:Str) (l:List qh) (twist:Str) (factor:Str):Option Int:=
 (xO N name).bind fun h=>
 if(!h)=true then
 some 8
 else
 if(l.length:Int)=0 then
 some 12
 else
 if(l.length:Int)>12 then
 some 5
 else
 (kL N l N 0).bind (fun
 |(.inl ())=>
 (yM N twist).bind fun a=>
 ((if a=0 then
 (jJ N factor).bind fun c=>
 some c
 else
 some a:Option Int)).bind fun b=>
 (if b=0 then
 (qad N factor [49]).bind fun d=>
 some (decide (d>0))
 else
 some false:Option Bool).bind fun e=>
 ((if e=true then
 some 3
 else
 some b:Option Int)).bind fun f=>
 some f
 |(.inr g)=>
 some g)
theorem qgx (N:Nat) (name:Str) (l:List qh) (twist:Str) (factor:Str) {res:Int} (h:qav N name l twist factor=some res):qb ZT (.fn 10) (.str name::vl qc l::(kBB twist factor)) [] (.i res) []:=by
 unfold qav at h;refine Ub Tryz.func10 rfl rfl (m:=49) rfl (rs:=[.tmp 8]) rfl (l:=(kM name l twist [(3,.str factor)])) rfl ?_;refine sh fol (kM name l twist [(3,.str factor)]) ?_;refine sq ?_;obtain⟨D,q,h⟩:=bnd h;refine sq (gr fol [1] (kAa l twist factor [(14,.bool (!D))]) (ac (cv (qch N name q)) az) ?_);refine ihB h (fun E h=>?_) (fun E h=>?_)
 ·refine sh fol [(8,.i 8)] ?_;refine Goes.ret ?_;obtain rfl:=si h;exact(gw2 [.i 8] (Ua tI))
 refine Goes.skip ?_;refine sq ?_;refine sh fol (kAa l twist factor [(17,.bool (decide ((l.length:Int)=0)))]) ?_;refine ihD h (fun F h=>?_) (fun F h=>?_)
 ·refine sh fol [(8,.i 12)] ?_;refine Goes.ret ?_;obtain rfl:=si h;exact(gw2 [.i 12] (Ua tI))
 refine Goes.skip ?_;refine sq ?_;refine sh fol (kAa l twist factor [(20,.bool (decide ((l.length:Int)>12)))]) ?_;refine ihD h (fun G h=>?_) (fun G h=>?_)
 ·refine sh fol [(8,.i 5)] ?_;refine Goes.ret ?_;obtain rfl:=si h;exact(gw2 [.i 5] (Ua tI))
 refine Goes.skip ?_;refine sq ?_;refine sh fol (kAa l twist factor [(9,.i 0)]) ?_;refine Goes.block ?_;obtain⟨r,g6,h⟩:=bnd h;refine Goes.imp (Q:=fun x s'=>(x= .exit 0/\(.inl ())=r/\Sub s' (ofG 49 [(2,.str twist),(3,.str factor)],[]))\/(x= .ret/\ ∃C,(.inr C)=r/\zh ZT [.tmp 8] (.i C) .ret s')) ?_ ?_
 ·refine Ud (fun M s=> ∃(e:Int),s=(ofG 49 (kAa l twist factor [(9,.i e)]),[])/\kL N l M e=some r) ?_ (m:=N) ⟨_,rfl,g6⟩;rintro M s ⟨e,rfl,g6⟩
  cases M with
  |zero=>simp only[kL]at g6;cases g6
  |succ M=>
   rw[kL]at g6;refine sq ?_;refine sh fol (kAa l twist factor [(9,.i e),(24,.bool (decide (e<(l.length:Int))))]) ?_;refine ihD g6 (fun H g6=>?_) (fun H g6=>?_)
   ·refine Goes.skip ?_;refine sq (Goes.block ?_);obtain⟨I,f,g6⟩:=bnd g6;obtain⟨c,g,g6⟩:=bnd g6;refine sq (gr fol [2,3,4] (kAa l twist factor [(9,.i e),(10,.i c)]) (ac (iv sl26 qc f) (ac (la ag37 qc f) (ac (cv (qfO N I g)) az))) ?_);refine sh fol (kAa l twist factor [(9,.i e),(10,.i c),(33,.bool (!decide (c=0)))]) ?_;refine ihB g6 (fun t g6=>?_) (fun t g6=>?_)
    ·refine sh fol [(8,.i c)] ?_;refine Goes.ret ?_;obtain rfl:=si g6;exact Or.inr (⟨rfl,_,rfl,(gw2 [.i c] (Ua tI))⟩)
    refine Goes.skip ?_;refine gh fol (kAa l twist factor [(9,.i (w64 (e+1)))]) ?_;exact⟨M,(ofG 49 (kAa l twist factor [(9,.i (w64 (e+1)))]),[]),Nat.lt_succ_self _,(Sub.refl _),_,rfl,g6⟩
   refine Goes.exit ?_;obtain rfl:=si g6;exact Or.inl (⟨rfl,rfl,(Sub.keep [2,3] rfl rfl)⟩)
 rintro x s' (⟨rfl,rfl,hsub⟩|⟨rfl,J,rfl,hret⟩)
 ·try dsimp only at h
  refine Goes.sub hsub ?_;obtain⟨j,k,h⟩:=bnd h;refine sq (gr fol [1] [(3,.str factor),(11,.i j)] (ac (cv (yo N twist k)) az) ?_);refine sq ?_;refine sh fol [(3,.str factor),(11,.i j),(38,.bool (decide (j=0)))] ?_;obtain⟨u,g14,h⟩:=bnd h;refine Goes.imp (Q:=fun x s'=>(x= .normal/\ ∃b,b=u/\Sub s' (ofG 49 [(3,.str factor),(11,.i b)],[]))) ?_ ?_
  ·refine ihD g14 (fun v g14=>?_) (fun v g14=>?_)
   ·obtain⟨w,n,g14⟩:=bnd g14;refine gr fol [1] [(3,.str factor),(11,.i w)] (ac (cv (yU N factor n)) az) ?_;obtain rfl:=si g14;exact⟨rfl,_,rfl,(Sub.refl _)⟩
   refine Goes.skip ?_;obtain rfl:=si g14;exact⟨rfl,_,rfl,(Sub.keep [3,11] rfl rfl)⟩
  rintro x s' ⟨rfl,b,rfl,hsub⟩;refine Goes.sub hsub ?_;refine sq ?_;refine sq ?_;obtain⟨y,a,h⟩:=bnd h;refine Ue (s':=(ofG 49 [(11,.i b),(47,.bool y)],[])) ?_ ?_
  ·rcases wyD a with⟨o,a⟩|⟨o,a⟩
   ·obtain⟨z,p,a⟩:=bnd a;obtain rfl:=si a;exact tr fol [2,4] [(11,.i b),(47,.bool (decide (z>0)))] (ac (gw o) (ac (cv (xK N factor [49] p)) az))
   obtain rfl:=si a;exact tr fol [2] [(11,.i b),(47,.bool false)] (ac (gw o) az)
  obtain⟨A,g22,h⟩:=bnd h;refine Goes.imp (Q:=fun x s'=>(x= .normal/\ ∃d,d=A/\Sub s' (ofG 49 [(11,.i d)],[]))) ?_ ?_
  ·refine ihB g22 (fun B g22=>?_) (fun B g22=>?_)
   ·refine gh fol [(11,.i 3)] ?_;obtain rfl:=si g22;exact⟨rfl,_,rfl,(Sub.refl _)⟩
   refine Goes.skip ?_;obtain rfl:=si g22;exact⟨rfl,_,rfl,(Sub.keep [11] rfl rfl)⟩
  rintro x s' ⟨rfl,d,rfl,hsub⟩;refine Goes.sub hsub ?_;refine sh fol [(8,.i d)] ?_;refine Goes.ret ?_;obtain rfl:=si h;exact(gw2 [.i d] (Ua tI))
 try dsimp only at h
 obtain rfl:=si h;exact hret
end Go.Av
