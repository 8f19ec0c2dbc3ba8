/-
  Walks of functions: what each computes, as a plain function.
-/
import Derived.Test.YtillneeejbbcfaaGreatDoorQGenA1
noncomputable section
namespace Go.Av
open Go.Proofs Go.RowKit
set_option linter.unusedSectionVars false
set_option linter.unusedVariables false
set_option linter.unusedSimpArgs false
set_option maxRecDepth 100000
def zB (p:List Int):Nat->(List (Int×Bool))->Int->Option (Unit⊕Int)
 |0,_,_=>none
 |K+1,e,b=>
  if b<(p.length:Int)then
  (idx p b).bind fun a=>
  (if a<0 then
  some true
  else
  if a>=(p.length:Int)then
  some true
  else
  some ((qbq e a).getD false):Option Bool).bind fun c=>
  if c=true then
  some (.inr 15)
  else
  (some (qcW e a true)).bind fun d=>
  zB p K d (w64 (b+1))
  else
  some (.inl ())
def vw (N:Nat) (p:List Int):Option Int:=
 if(p.length:Int)>256 then
 some 5
 else
 (zB p N ([]:List (Int×Bool)) 0).bind (fun
 |(.inl ())=>
 some 0
 |(.inr a)=>
 some a)
theorem qcZ (N:Nat) (p:List Int) {res:Int} (h:vw N p=some res):qb ZT (.fn 104) [vl encI p] [] (.i res) []:=by
 unfold vw at h
 refine Ub Tryz.func104 rfl rfl (m:=32) rfl (rs:=[.tmp 2]) rfl (l:=(kD p [])) rfl ?_
 refine sh fol (kD p []) ?_
 refine sq ?_
 refine sh fol (kD p [(8,.bool (decide ((p.length:Int)>256)))]) ?_
 refine ihD h (fun u h=>?_) (fun u h=>?_)
 ·refine sh fol [(2,.i 5)] ?_
  refine Goes.ret ?_
  obtain rfl:=si h
  exact(gw2 [.i 5] (Ua tI))
 refine Goes.skip ?_
 refine sg fol (kD p [(3,.map 0)]) [mpB (AV.int .i64) fO ([]:List (Int×Bool))] ?_
 refine sq ?_
 refine sh fol (kD p [(3,.map 0),(10,vl encI p),(11,.i (p.length:Int)),(12,.i 0)]) ?_
 refine Goes.block ?_
 obtain⟨n,g4,h⟩:=bnd h
 refine Goes.imp (Q:=fun x s'=>(x= .exit 0/\(.inl ())=n/\Sub s' (ofG 32 [],[]))\/(x= .ret/\ ∃t,(.inr t)=n/\zU ZT [.tmp 2] (.i t) .ret s')) ?_ ?_
 ·refine Uc (fun M s=> ∃(d:List (Int×Bool)) (b:Int),s=(ofG 32 (kD p ((3,.map 0)::(kW p (p.length:Int) b []))),[mpB (AV.int .i64) fO d])/\zB p M d b=some n) ?_ (m:=N) ⟨_,_,rfl,g4⟩
  rintro M s ⟨d,b,rfl,g4⟩
  cases M with
  |zero=>simp only[zB]at g4;cases g4
  |succ M=>
   rw[zB]at g4
   refine sh fol (kD p ((3,.map 0)::(kW p (p.length:Int) b [(13,.bool (decide (b<(p.length:Int))))]))) ?_
   refine sq ?_
   refine ihD g4 (fun v g4=>?_) (fun v g4=>?_)
   ·refine Goes.skip ?_
    refine sq (Goes.block ?_)
    obtain⟨c,e,g4⟩:=bnd g4
    refine sq (gr fol [0,1] (kD p ((3,.map 0)::(5,.i c)::(kW p (p.length:Int) b []))) (ac (iv jF encI e) (ac (lv 0 ce3 encI e rfl) az)) ?_)
    refine sq ?_
    refine sq ?_
    obtain⟨o,a,g4⟩:=bnd g4
    refine Goes.cut (s':=(ofG 32 (kD p ((3,.map 0)::(5,.i c)::(kW p (p.length:Int) b [(28,.bool o)]))),[mpB (AV.int .i64) fO d])) ?_ ?_
    ·rcases wyD a with⟨k,a⟩|⟨k,a⟩
     ·obtain rfl:=si a
      exact tr fol [2] (kD p ((3,.map 0)::(5,.i c)::(kW p (p.length:Int) b [(28,.bool true)]))) (ac (gw k) az)
     rcases wyD a with⟨q,a⟩|⟨q,a⟩
     ·obtain rfl:=si a
      exact tr fol [2,8] (kD p ((3,.map 0)::(5,.i c)::(kW p (p.length:Int) b [(28,.bool true)]))) (ac (gw k) (ac (gw q) az))
     obtain rfl:=si a
     exact tr fol [2,8,11] (kD p ((3,.map 0)::(5,.i c)::(kW p (p.length:Int) b [(28,.bool ((qbq d c).getD false))]))) (ac (gw k) (ac (gw q) (ac (hs (.run [0] (qaK ZT 180 (.map 0) (.i c) false) [mpB (AV.int .i64) fO d] (.bool ((qbq d c).getD false)) [mpB (AV.int .i64) fO d] false) (qma (z:=false) (f:=fO) qnz keyI rfl c)) az)))
    refine ihB g4 (fun r g4=>?_) (fun r g4=>?_)
    ·refine sh fol [(2,.i 15)] ?_
     refine Goes.ret ?_
     obtain rfl:=si g4
     exact Or.inr (⟨rfl,_,rfl,(gw2 [.i 15] (Ua tI))⟩)
    refine Goes.skip ?_
    obtain⟨g,j,g4⟩:=bnd g4
    refine gq fol [2] (kD p ((3,.map 0)::(kW p (p.length:Int) b []))) [mpB (AV.int .i64) fO g] (ac (hs (.run [0] (xO ZT 180 (.map 0) (.i c) (.bool true)) [mpB (AV.int .i64) fO d] .undef [mpB (AV.int .i64) fO g] true) (upm qnz keyI fO rfl c true j rfl)) az) ?_
    refine gh fol (kD p ((3,.map 0)::(kW p (p.length:Int) (w64 (b+1)) []))) ?_
    exact⟨M,(ofG 32 (kD p ((3,.map 0)::(kW p (p.length:Int) (w64 (b+1)) []))),[mpB (AV.int .i64) fO g]),Nat.lt_succ_self _,(Sub.refl _),_,_,rfl,g4⟩
   refine Goes.exit ?_
   obtain rfl:=si g4
   exact Or.inl (⟨rfl,rfl,(Sub.norm [] [] rfl rfl .nil .nil)⟩)
 rintro x s' (⟨rfl,rfl,hsub⟩|⟨rfl,w,rfl,hret⟩)
 ·try dsimp only at h
  refine Goes.sub hsub ?_
  refine sh fol [(2,.i 0)] ?_
  refine Goes.ret ?_
  obtain rfl:=si h
  exact(gw2 [.i 0] (Ua tI))
 try dsimp only at h
 obtain rfl:=si h
 exact hret
def vL (N:Nat) (n:Int) (p:List Int):Option Int:=
 (qF (!decide ((p.length:Int)=n)) 2).bind fun a=>
 (vw N p).bind fun b=>
 (ko N ([a,b]:List Int)).bind fun c=>
 some c
theorem qdi (N:Nat) (n:Int) (p:List Int) {res:Int} (h:vL N n p=some res):qb ZT (.fn 54) [.i n,vl encI p] [] (.i res) []:=by
 unfold vL at h
 refine Ub Tryz.func54 rfl rfl (m:=14) rfl (rs:=[.tmp 4]) rfl (l:=(kB n p [])) rfl ?_
 refine sh fol (kB n p []) ?_
 obtain⟨d,a,h⟩:=bnd h
 obtain⟨e,b,h⟩:=bnd h
 obtain⟨f,c,h⟩:=bnd h
 refine sq (gq fol [4,6,8] (kAA f) [.cells [.i d,.i e]] (ac (cv (qZ (!decide ((p.length:Int)=n)) 2 a)) (ac (cv (qcZ N p b)) (ac (hs (.call 52 [.slice 0 0 2 2 1] [.cells [.i d,.i e]] [0] [vl encI ([d,e]:List Int)] (.i f)) (qbo (FzL.cons (Fz.lit rfl rfl (Um (AllST.cons tI (AllST.cons tI AllST.nil)))) FzL.nil) (vC N ([d,e]:List Int) c) tI rfl)) az))) ?_)
 refine Goes.ret ?_
 obtain rfl:=si h
 exact(gw2 [.i f] (Ua tI))
def qP (N:Nat) (n:Int) (f:jf):Nat->Int->Option (Unit⊕Int)
 |0,_=>none
 |K+1,a=>
  if a<(f.Factors.length:Int)then
  (idx f.Factors a).bind fun b=>
  (vL N n b).bind fun c=>
  if(!decide (c=0))=true then
  some (.inr c)
  else
  ((if a>0 then
  (idx f.Factors (w64 (a-1))).bind fun d=>
  (jD N d b).bind fun e=>
  some e.2
  else
  some false:Option Bool)).bind fun g=>
  (if g=true then
  some true
  else
  (jA N b).bind fun h=>
  if h=true then
  some true
  else
  (xk N n).bind fun i=>
  (slices_Equal_int N b i).bind fun j=>
  some j:Option Bool).bind fun k=>
  if k=true then
  some (.inr 1)
  else
  qP N n f K (w64 (a+1))
  else
  some (.inl ())
def jb (N:Nat) (n:Int) (f:jf):Option Int:=
 ((zK n).bind fun a=>
 (vg f.Half).bind fun q=>
 if q>200 then
 (qF true 3).bind fun l=>
 (qF (decide ((f.Factors.length:Int)>200)) 5).bind fun m=>
 (ko N ([a,l,m]:List Int)).bind fun r=>
 some (a,l,m,r)
 else
 if f.Half<(-200)then
 (qF true 3).bind fun o=>
 (qF (decide ((f.Factors.length:Int)>200)) 5).bind fun p=>
 (ko N ([a,o,p]:List Int)).bind fun h=>
 some (a,o,p,h)
 else
 if n=1 then
 (qF (!decide (f.Half=0)) 3).bind fun b=>
 (qF (decide ((f.Factors.length:Int)>200)) 5).bind fun c=>
 (ko N ([a,b,c]:List Int)).bind fun i=>
 some (a,b,c,i)
 else
 (qF false 3).bind fun d=>
 (qF (decide ((f.Factors.length:Int)>200)) 5).bind fun e=>
 (ko N ([a,d,e]:List Int)).bind fun j=>
 some (a,d,e,j):Option (Int×Int×Int×Int)).bind fun(s,t,u,g)=>
 if(!decide (g=0))=true then
 some g
 else
 (qP N n f N 0).bind (fun
 |(.inl ())=>
 some 0
 |(.inr k)=>
 some k)
theorem qdh (N:Nat) (n:Int) (f:jf) {res:Int} (h:jb N n f=some res):qb ZT (.fn 42) [.i n,.agg [.i f.Half,vl (qa encI) f.Factors]] [] (.i res) []:=by
 unfold jb at h
 refine Ub Tryz.func42 rfl rfl (m:=80) rfl (rs:=[.tmp 4]) rfl (l:=[(0,.i n),(1,.agg [.i f.Half,vl (qa encI) f.Factors])]) rfl ?_
 refine sg fol (kF n []) [.cells [.i f.Half,vl (qa encI) f.Factors]] ?_
 refine sq ?_
 refine sq ?_
 obtain⟨⟨n18,n19,n20,k⟩,a,h⟩:=bnd h
 refine Goes.cut (s':=(ofG 80 (kF n (kAM k)),(.cells [.i f.Half,vl (qa encI) f.Factors]::(kAV n18 n19 n20)))) ?_ ?_
 ·obtain⟨e,g,a⟩:=bnd a
  obtain⟨r2,j,a⟩:=bnd a
  rcases wyD a with⟨T,a⟩|⟨T,a⟩
  ·obtain⟨r4,U,a⟩:=bnd a
   obtain⟨r5,V,a⟩:=bnd a
   obtain⟨r6,W,a⟩:=bnd a
   simp only[ZI,ZP]at a
   obtain⟨rfl,rfl,rfl,rfl⟩:=a
   exact zx.rq fol [1,4,6,20,25,27] (kF n (kAM r6)) (.cells [.i f.Half,vl (qa encI) f.Factors]::(kAV e r4 r5)) (ac (cv (jl n g)) (ac (cv (xw f.Half j)) (ac (gw T) (ac (cv (qZ true 3 U)) (ac (cv (qZ (decide ((f.Factors.length:Int)>200)) 5 V)) (ac (hs (.call 52 [.slice 1 0 3 3 1] (.cells [.i f.Half,vl (qa encI) f.Factors]::(kAV e r4 r5)) [1] [vl encI ([e,r4,r5]:List Int)] (.i r6)) (qbo (FzL.cons (Fz.lit rfl rfl (Um (AllST.cons tI (AllST.cons tI (AllST.cons tI AllST.nil))))) FzL.nil) (vC N ([e,r4,r5]:List Int) W) tI rfl)) az))))))
  rcases wyD a with⟨c7,a⟩|⟨c7,a⟩
  ·obtain⟨r8,X,a⟩:=bnd a
   obtain⟨r9,Y,a⟩:=bnd a
   obtain⟨Z,z,a⟩:=bnd a
   simp only[ZI,ZP]at a
   obtain⟨rfl,rfl,rfl,rfl⟩:=a
   exact zx.rq fol [1,4,6,11,20,25,27] (kF n (kAM Z)) (.cells [.i f.Half,vl (qa encI) f.Factors]::(kAV e r8 r9)) (ac (cv (jl n g)) (ac (cv (xw f.Half j)) (ac (gw T) (ac (gw c7) (ac (cv (qZ true 3 X)) (ac (cv (qZ (decide ((f.Factors.length:Int)>200)) 5 Y)) (ac (hs (.call 52 [.slice 1 0 3 3 1] (.cells [.i f.Half,vl (qa encI) f.Factors]::(kAV e r8 r9)) [1] [vl encI ([e,r8,r9]:List Int)] (.i Z)) (qbo (FzL.cons (Fz.lit rfl rfl (Um (AllST.cons tI (AllST.cons tI (AllST.cons tI AllST.nil))))) FzL.nil) (vC N ([e,r8,r9]:List Int) z) tI rfl)) az)))))))
  rcases wyD a with⟨A,a⟩|⟨A,a⟩
  ·obtain⟨t,B,a⟩:=bnd a
   obtain⟨u,C,a⟩:=bnd a
   obtain⟨a0,D,a⟩:=bnd a
   simp only[ZI,ZP]at a
   obtain⟨rfl,rfl,rfl,rfl⟩:=a
   exact zx.rq fol [1,4,6,11,14,20,25,27] (kF n (kAM a0)) (.cells [.i f.Half,vl (qa encI) f.Factors]::(kAV e t u)) (ac (cv (jl n g)) (ac (cv (xw f.Half j)) (ac (gw T) (ac (gw c7) (ac (gw A) (ac (cv (qZ (!decide (f.Half=0)) 3 B)) (ac (cv (qZ (decide ((f.Factors.length:Int)>200)) 5 C)) (ac (hs (.call 52 [.slice 1 0 3 3 1] (.cells [.i f.Half,vl (qa encI) f.Factors]::(kAV e t u)) [1] [vl encI ([e,t,u]:List Int)] (.i a0)) (qbo (FzL.cons (Fz.lit rfl rfl (Um (AllST.cons tI (AllST.cons tI (AllST.cons tI AllST.nil))))) FzL.nil) (vC N ([e,t,u]:List Int) D) tI rfl)) az))))))))
  obtain⟨v,E,a⟩:=bnd a
  obtain⟨w,F,a⟩:=bnd a
  obtain⟨a1,G,a⟩:=bnd a
  simp only[ZI,ZP]at a
  obtain⟨rfl,rfl,rfl,rfl⟩:=a
  exact zx.rq fol [1,4,6,11,14,20,25,27] (kF n (kAM a1)) (.cells [.i f.Half,vl (qa encI) f.Factors]::(kAV e v w)) (ac (cv (jl n g)) (ac (cv (xw f.Half j)) (ac (gw T) (ac (gw c7) (ac (gw A) (ac (cv (qZ false 3 E)) (ac (cv (qZ (decide ((f.Factors.length:Int)>200)) 5 F)) (ac (hs (.call 52 [.slice 1 0 3 3 1] (.cells [.i f.Half,vl (qa encI) f.Factors]::(kAV e v w)) [1] [vl encI ([e,v,w]:List Int)] (.i a1)) (qbo (FzL.cons (Fz.lit rfl rfl (Um (AllST.cons tI (AllST.cons tI (AllST.cons tI AllST.nil))))) FzL.nil) (vC N ([e,v,w]:List Int) G) tI rfl)) az))))))))
 try dsimp only at h
 refine sh fol (kF n [(5,.i k),(39,.bool (!decide (k=0)))]) ?_
 refine ihB h (fun c23 h=>?_) (fun c23 h=>?_)
 ·refine sh fol (kAA k) ?_
  refine Goes.ret ?_
  obtain rfl:=si h
  exact(gw2 [.i k] (Ua tI))
 refine Goes.skip ?_
 refine sq ?_
 refine sh fol (kF n [(42,vl (qa encI) f.Factors),(43,.i (f.Factors.length:Int)),(44,.i 0)]) ?_
 refine Goes.block ?_
 obtain⟨H,g25,h⟩:=bnd h
 refine Goes.imp (Q:=fun x s'=>(x= .exit 0/\(.inl ())=H/\Sub s' (ofG 80 [],[]))\/(x= .ret/\ ∃a2,(.inr a2)=H/\zU ZT [.tmp 4] (.i a2) .ret s')) ?_ ?_
 ·refine Goes.sub (s':=(ofG 80 (kF n [(42,vl (qa encI) f.Factors),(43,.i (f.Factors.length:Int)),(44,.i 0)]),[.cells [.i f.Half,vl (qa encI) f.Factors]])) (Sub.norm [] [some 0] rfl rfl (.keep (.same nI) (.kp (.keep (.same (qf (qa encI) _)) (.keep (.same nI) (.keep (.same nI) .nil))))) (.kb rfl (.same sn) .nil)) ?_
  refine Uc (fun M s=> ∃(c:Int),s=(ofG 80 (kF n ((42,vl (qa encI) f.Factors)::(kAG (f.Factors.length:Int) c []))),[.cells [.i f.Half,vl (qa encI) f.Factors]])/\qP N n f M c=some H) ?_ (m:=N) ⟨_,rfl,g25⟩
  rintro M s ⟨c,rfl,g25⟩
  cases M with
  |zero=>simp only[qP]at g25;cases g25
  |succ M=>
   rw[qP]at g25
   refine sh fol (kF n ((42,vl (qa encI) f.Factors)::(kAG (f.Factors.length:Int) c [(45,.bool (decide (c<(f.Factors.length:Int))))]))) ?_
   refine sq ?_
   refine ihD g25 (fun c27 g25=>?_) (fun c27 g25=>?_)
   ·refine Goes.skip ?_
    refine sq (Goes.block ?_)
    obtain⟨d,o,g25⟩:=bnd g25
    refine sq (gr fol [1,2] (kF n ((6,.i c)::(7,vl encI d)::(42,vl (qa encI) f.Factors)::(kAG (f.Factors.length:Int) c []))) (ac (iv qb6 (qa encI) o) (ac (lv 0 qed (qa encI) o rfl) az)) ?_)
    refine sq ?_
    obtain⟨p,I,g25⟩:=bnd g25
    refine sq (gr fol [2] (kF n ((6,.i c)::(7,vl encI d)::(8,.i p)::(42,vl (qa encI) f.Factors)::(kAG (f.Factors.length:Int) c []))) (ac (cv (qdi N n d I)) az) ?_)
    refine sh fol (kF n ((6,.i c)::(7,vl encI d)::(8,.i p)::(42,vl (qa encI) f.Factors)::(kAG (f.Factors.length:Int) c [(53,.bool (!decide (p=0)))]))) ?_
    refine ihB g25 (fun c30 g25=>?_) (fun c30 g25=>?_)
    ·refine sh fol (kAA p) ?_
     refine Goes.ret ?_
     obtain rfl:=si g25
     exact Or.inr (⟨rfl,_,rfl,(gw2 [.i p] (Ua tI))⟩)
    refine Goes.skip ?_
    refine sh fol (kF n ((6,.i c)::(7,vl encI d)::(9,.bool false)::(42,vl (qa encI) f.Factors)::(kAG (f.Factors.length:Int) c []))) ?_
    refine sq ?_
    refine sh fol (kF n ((6,.i c)::(7,vl encI d)::(9,.bool false)::(42,vl (qa encI) f.Factors)::(kAG (f.Factors.length:Int) c [(56,.bool (decide (c>0)))]))) ?_
    obtain⟨r32,g32,g25⟩:=bnd g25
    refine Goes.imp (Q:=fun x s'=>(x= .normal/\ ∃J,J=r32/\Sub s' (ofG 80 (kF n ((7,vl encI d)::(9,.bool J)::(42,vl (qa encI) f.Factors)::(kAG (f.Factors.length:Int) c []))),[.cells [.i f.Half,vl (qa encI) f.Factors]]))) ?_ ?_
    ·refine ihD g32 (fun c33 g32=>?_) (fun c33 g32=>?_)
     ·obtain⟨x34,q,g32⟩:=bnd g32
      obtain⟨r35,K,g32⟩:=bnd g32
      refine gr fol [4,5,7] (kF n ((7,vl encI d)::(9,.bool r35.2)::(42,vl (qa encI) f.Factors)::(kAG (f.Factors.length:Int) c []))) (ac (iv qb6 (qa encI) q) (ac (lv 0 qed (qa encI) q rfl) (ac (cv (qbv N x34 d K)) az))) ?_
      obtain rfl:=si g32
      exact⟨rfl,_,rfl,(Sub.refl _)⟩
     refine Goes.skip ?_
     obtain rfl:=si g32
     exact⟨rfl,_,rfl,(Sub.keep [0,3,7,9,42,43,44] rfl rfl)⟩
    rintro x s' ⟨rfl,J,rfl,hsub⟩
    refine Goes.sub hsub ?_
    refine sq ?_
    obtain⟨b41,b,g25⟩:=bnd g25
    refine Goes.cut (s':=(ofG 80 (kF n ((42,vl (qa encI) f.Factors)::(kAG (f.Factors.length:Int) c [(78,.bool b41)]))),[.cells [.i f.Half,vl (qa encI) f.Factors]])) ?_ ?_
    ·rcases wyB b with⟨y,b⟩|⟨y,b⟩
     ·obtain rfl:=si b
      exact tr fol [1] (kF n ((42,vl (qa encI) f.Factors)::(kAG (f.Factors.length:Int) c [(78,.bool true)]))) (ac (gw y) az)
     obtain⟨r37,r,b⟩:=bnd b
     rcases wyB b with⟨L,b⟩|⟨L,b⟩
     ·obtain rfl:=si b
      exact tr fol [1,3,5] (kF n ((42,vl (qa encI) f.Factors)::(kAG (f.Factors.length:Int) c [(78,.bool true)]))) (ac (gw y) (ac (cv (yS N d r)) (ac (gw L) az)))
     obtain⟨r39,O,b⟩:=bnd b
     obtain⟨r40,P,b⟩:=bnd b
     obtain rfl:=si b
     exact tr fol [1,3,5,8,9] (kF n ((42,vl (qa encI) f.Factors)::(kAG (f.Factors.length:Int) c [(78,.bool r40)]))) (ac (gw y) (ac (cv (yS N d r)) (ac (gw L) (ac (cv (qao N n O)) (ac (cv (qaI N d r39 P)) az)))))
    refine ihB g25 (fun c43 g25=>?_) (fun c43 g25=>?_)
    ·refine sh fol [(4,.i 1)] ?_
     refine Goes.ret ?_
     obtain rfl:=si g25
     exact Or.inr (⟨rfl,_,rfl,(gw2 [.i 1] (Ua tI))⟩)
    refine Goes.skip ?_
    refine gh fol (kF n ((42,vl (qa encI) f.Factors)::(kAG (f.Factors.length:Int) (w64 (c+1)) []))) ?_
    exact⟨M,(ofG 80 (kF n ((42,vl (qa encI) f.Factors)::(kAG (f.Factors.length:Int) (w64 (c+1)) []))),[.cells [.i f.Half,vl (qa encI) f.Factors]]),Nat.lt_succ_self _,(Sub.refl _),_,rfl,g25⟩
   refine Goes.exit ?_
   obtain rfl:=si g25
   exact Or.inl (⟨rfl,rfl,(Sub.norm [] [] rfl rfl .nil .nil)⟩)
 rintro x s' (⟨rfl,rfl,hsub⟩|⟨rfl,q44,rfl,hret⟩)
 ·try dsimp only at h
  refine Goes.sub hsub ?_
  refine sh fol [(4,.i 0)] ?_
  refine Goes.ret ?_
  obtain rfl:=si h
  exact(gw2 [.i 0] (Ua tI))
 try dsimp only at h
 obtain rfl:=si h
 exact hret
def qN (b:List Int):Nat->Int->Option Int
 |0,_=>none
 |K+1,a=>
  (if(w64 (a+1))<(b.length:Int)then
  (zA b a).bind fun c=>
  some (!c)
  else
  some false:Option Bool).bind fun d=>
  if d=true then
  qN b K (w64 (a+1))
  else
  some a
def zi (N:Nat):Nat->(List Int)->(List Int)->Option (List Int)
 |0,_,_=>none
 |K+1,e,a=>
  (qN a N 0).bind fun b=>
  if(w64 (b+1))>=(a.length:Int)then
  some e
  else
  (qM a b).bind fun c=>
  (app 8 e [w64 (b+1)]).bind fun d=>
  zi N K d c
def jR (N:Nat) (p:List Int):Option (List Int):=
 (qcq p).bind fun _=>
 (zi N N ([]:List Int) p).bind fun a=>
 some a
theorem qaB (N:Nat) (p:List Int) {res:List Int} (h:jR N p=some res):qb ZT (.fn 44) [vl encI p] [] (vl encI res) []:=by
 unfold jR at h
 refine Ub Tryz.func44 rfl rfl (m:=35) rfl (rs:=[.tmp 2]) rfl (l:=(kD p [])) rfl ?_
 refine sh fol (kD p []) ?_
 obtain⟨_,o,h⟩:=bnd h
 refine sq (gq fol [1] (kS p []) (kA p) (ac (hs (.callH 96 [vl encI p] [] [] (.gslice 0 p.length 1) (kA p)) (yP [] [some 0] (qgK p o) .nil rfl rfl (.new rfl rfl (.same fa) rfl .nil) (rc (.same (qf encI _)) rn) (.gslice rfl) rfl)) az) ?_)
 refine sh fol (kS p [(4,.nilslice)]) ?_
 refine Goes.block ?_
 obtain⟨w,g4,h⟩:=bnd h
 refine Goes.imp (Q:=fun x s'=>(x= .ret/\ ∃y,y=w/\zU ZT [.tmp 2] (vl encI y) .ret s')) ?_ ?_
 ·refine Goes.sub (s':=(ofG 35 [(3,vl encI p),(4,.gslice 0 ([]:List Int).length 1)],kAD)) (Sub.norm [0] [none] rfl rfl (.keep (.frz (Fz.gs (E:=encI) rfl rfl (nl rfl)) (qf encI _)) (.keep .nil .nil)) (.fresh .nil)) ?_
  refine Uc (fun M s=> ∃(b:List Int) (c:List Int),s=(ofG 35 (kM c b []),(kA b))/\zi N M b c=some w) ?_ (m:=N) ⟨_,_,rfl,g4⟩
  rintro M s ⟨b,c,rfl,g4⟩
  cases M with
  |zero=>simp only[zi]at g4;cases g4
  |succ M=>
   rw[zi]at g4
   refine Goes.block ?_
   refine sh fol (kM c b [(5,.i 0)]) ?_
   refine sq (Goes.block ?_)
   obtain⟨z,g8,g4⟩:=bnd g4
   refine Goes.imp (Q:=fun x s'=>(x= .exit 2/\ ∃e,e=z/\Sub s' (ofG 35 (kM c b (kAM e)),(kA b)))) ?_ ?_
   ·refine Uc (fun M s=> ∃(f:Int),s=(ofG 35 (kM c b (kAM f)),(kA b))/\qN c M f=some z) ?_ (m:=N) ⟨_,rfl,g8⟩
    rintro M s ⟨f,rfl,g8⟩
    cases M with
    |zero=>simp only[qN]at g8;cases g8
    |succ M=>
     rw[qN]at g8
     refine sq ?_
     refine sq ?_
     obtain⟨q,a,g8⟩:=bnd g8
     refine Goes.cut (s':=(ofG 35 (kM c b [(5,.i f),(18,.bool q)]),(kA b))) ?_ ?_
     ·rcases wyD a with⟨r,a⟩|⟨r,a⟩
      ·obtain⟨t,g,a⟩:=bnd a
       obtain rfl:=si a
       exact tr fol [5,8] (kM c b [(5,.i f),(18,.bool (!t))]) (ac (gw r) (ac (cv (j5 c f g)) az))
      obtain rfl:=si a
      exact tr fol [5] (kM c b [(5,.i f),(18,.bool false)]) (ac (gw r) az)
     refine ihB g8 (fun u g8=>?_) (fun u g8=>?_)
     ·refine Goes.skip ?_
      refine Goes.block ?_
      refine gh fol (kM c b (kAM (w64 (f+1)))) ?_
      exact⟨M,(ofG 35 (kM c b (kAM (w64 (f+1)))),(kA b)),Nat.lt_succ_self _,(Sub.refl _),_,rfl,g8⟩
     refine Goes.exit ?_
     obtain rfl:=si g8
     exact⟨rfl,_,rfl,(Sub.keep [3,4,5] rfl rfl)⟩
   rintro x s' ⟨rfl,e,rfl,hsub⟩
   refine Goes.sub hsub ?_
   refine sq ?_
   refine sh fol (kM c b [(5,.i e),(25,.bool (decide ((w64 (e+1))>=(c.length:Int))))]) ?_
   refine ihD g4 (fun v g4=>?_) (fun v g4=>?_)
   ·refine sh fol [(2,.gslice 0 b.length 1)] ?_
    refine Goes.ret ?_
    obtain rfl:=si g4
    exact⟨rfl,_,rfl,(gw2 [.gslice 0 b.length 1] (Uo (Fz.gs (E:=encI) rfl rfl (nl rfl))))⟩
   refine Goes.skip ?_
   obtain⟨j,k,g4⟩:=bnd g4
   refine sq (gr fol [2] (kM j b (kAM e)) (ac (cv (jQ c e k)) az) ?_)
   obtain⟨d,n,g4⟩:=bnd g4
   refine gq fol [4] [(3,vl encI j),(4,.gslice 2 d.length 1)] (kAE (w64 (e+1)) (kA d)) (ac (hs (.run [0,1] (zq ZT [22,22] (.gslice 0 b.length 1) (.slice 1 0 1 1 1)) (kAF b (w64 (e+1))) (.gslice 2 d.length 1) (kAE (w64 (e+1)) (kA d)) true) (yU jF (E:=encI) rfl (qc7 (E:=encI) (ys:=[w64 (e+1)]) rfl rfl rfl rfl) (qdA (E:=encI) (l:=b) rfl rfl rfl n rfl))) az) ?_
   exact⟨M,(ofG 35 (kM j d []),(kA d)),Nat.lt_succ_self _,(Sub.norm [] [some 2] rfl rfl (.keep (.same (qf encI _)) (.keep (.gslice rfl) .nil)) (.ks .nil)),_,_,rfl,g4⟩
 rintro x s' ⟨rfl,A,rfl,hret⟩
 obtain rfl:=si h
 exact hret
def qap (a:Int):Option Int:=
 some (w64 (0-a))
theorem qd1 (a:Int) {res:Int} (h:qap a=some res):qb ZT (.fn 99) [.i a] [] (.i res) []:=by
 unfold qap at h
 refine Ub Tryz.func99 rfl rfl (m:=5) rfl (rs:=[.tmp 2]) rfl (l:=[(0,.i a)]) rfl ?_
 refine sh fol [(0,.i a)] ?_
 refine sh fol [(2,.i (w64 (0-a)))] ?_
 refine Goes.ret ?_
 obtain rfl:=si h
 exact(gw2 [.i (w64 (0-a))] (Ua tI))
def bits_Mul64 (a:Int) (y:Int):Option (Int×Int):=
 some (IntKind.wrap .u64 ((IntKind.wrap .u64 ((IntKind.wrap .u64 ((zu .u64 a 32)*(zu .u64 y 32)))+(zu .u64 (IntKind.wrap .u64 ((IntKind.wrap .u64 ((zu .u64 a 32)*(kz .u64 y 4294967295)))+(zu .u64 (IntKind.wrap .u64 ((kz .u64 a 4294967295)*(kz .u64 y 4294967295))) 32))) 32)))+(zu .u64 (IntKind.wrap .u64 ((kz .u64 (IntKind.wrap .u64 ((IntKind.wrap .u64 ((zu .u64 a 32)*(kz .u64 y 4294967295)))+(zu .u64 (IntKind.wrap .u64 ((kz .u64 a 4294967295)*(kz .u64 y 4294967295))) 32))) 4294967295)+(IntKind.wrap .u64 ((kz .u64 a 4294967295)*(zu .u64 y 32))))) 32)),IntKind.wrap .u64 (a*y))
theorem qgd (a:Int) (y:Int) {res:Int×Int} (h:bits_Mul64 a y=some res):qb ZT (.fn 147) [.int .u64 a,.int .u64 y] [] (.tuple [.int .u64 res.1,.int .u64 res.2]) []:=by
 unfold bits_Mul64 at h
 refine Ub Tryz.func147 rfl rfl (m:=51) rfl (rs:=[.tmp 4,.tmp 5]) rfl (l:=(kP a y [])) rfl ?_
 refine sh fol (kP a y []) ?_
 refine sh fol (kP a y [(6,.int .u64 (kz .u64 a 4294967295))]) ?_
 refine sh fol (kP a y (kAL (kz .u64 a 4294967295) (zu .u64 a 32) [])) ?_
 refine sh fol (kP a y (kAL (kz .u64 a 4294967295) (zu .u64 a 32) [(8,.int .u64 (kz .u64 y 4294967295))])) ?_
 refine sh fol (kP a y (kAL (kz .u64 a 4294967295) (zu .u64 a 32) [(8,.int .u64 (kz .u64 y 4294967295)),(9,.int .u64 (zu .u64 y 32))])) ?_
 refine sh fol (kP a y (kAL (kz .u64 a 4294967295) (zu .u64 a 32) [(8,.int .u64 (kz .u64 y 4294967295)),(9,.int .u64 (zu .u64 y 32)),(10,.int .u64 (IntKind.wrap .u64 ((kz .u64 a 4294967295)*(kz .u64 y 4294967295))))])) ?_
 refine sh fol (kP a y (kAL (kz .u64 a 4294967295) (zu .u64 a 32) [(9,.int .u64 (zu .u64 y 32)),(11,.int .u64 (IntKind.wrap .u64 ((IntKind.wrap .u64 ((zu .u64 a 32)*(kz .u64 y 4294967295)))+(zu .u64 (IntKind.wrap .u64 ((kz .u64 a 4294967295)*(kz .u64 y 4294967295))) 32))))])) ?_
 refine sh fol (kP a y (kAL (kz .u64 a 4294967295) (zu .u64 a 32) [(9,.int .u64 (zu .u64 y 32)),(11,.int .u64 (IntKind.wrap .u64 ((IntKind.wrap .u64 ((zu .u64 a 32)*(kz .u64 y 4294967295)))+(zu .u64 (IntKind.wrap .u64 ((kz .u64 a 4294967295)*(kz .u64 y 4294967295))) 32)))),(12,.int .u64 (kz .u64 (IntKind.wrap .u64 ((IntKind.wrap .u64 ((zu .u64 a 32)*(kz .u64 y 4294967295)))+(zu .u64 (IntKind.wrap .u64 ((kz .u64 a 4294967295)*(kz .u64 y 4294967295))) 32))) 4294967295))])) ?_
 refine sh fol (kP a y (kAL (kz .u64 a 4294967295) (zu .u64 a 32) [(9,.int .u64 (zu .u64 y 32)),(12,.int .u64 (kz .u64 (IntKind.wrap .u64 ((IntKind.wrap .u64 ((zu .u64 a 32)*(kz .u64 y 4294967295)))+(zu .u64 (IntKind.wrap .u64 ((kz .u64 a 4294967295)*(kz .u64 y 4294967295))) 32))) 4294967295)),(13,.int .u64 (zu .u64 (IntKind.wrap .u64 ((IntKind.wrap .u64 ((zu .u64 a 32)*(kz .u64 y 4294967295)))+(zu .u64 (IntKind.wrap .u64 ((kz .u64 a 4294967295)*(kz .u64 y 4294967295))) 32))) 32))])) ?_
 refine sh fol (kP a y [(7,.int .u64 (zu .u64 a 32)),(9,.int .u64 (zu .u64 y 32)),(12,.int .u64 (IntKind.wrap .u64 ((kz .u64 (IntKind.wrap .u64 ((IntKind.wrap .u64 ((zu .u64 a 32)*(kz .u64 y 4294967295)))+(zu .u64 (IntKind.wrap .u64 ((kz .u64 a 4294967295)*(kz .u64 y 4294967295))) 32))) 4294967295)+(IntKind.wrap .u64 ((kz .u64 a 4294967295)*(zu .u64 y 32)))))),(13,.int .u64 (zu .u64 (IntKind.wrap .u64 ((IntKind.wrap .u64 ((zu .u64 a 32)*(kz .u64 y 4294967295)))+(zu .u64 (IntKind.wrap .u64 ((kz .u64 a 4294967295)*(kz .u64 y 4294967295))) 32))) 32))]) ?_
 refine sh fol (kP a y [(4,.int .u64 (IntKind.wrap .u64 ((IntKind.wrap .u64 ((IntKind.wrap .u64 ((zu .u64 a 32)*(zu .u64 y 32)))+(zu .u64 (IntKind.wrap .u64 ((IntKind.wrap .u64 ((zu .u64 a 32)*(kz .u64 y 4294967295)))+(zu .u64 (IntKind.wrap .u64 ((kz .u64 a 4294967295)*(kz .u64 y 4294967295))) 32))) 32)))+(zu .u64 (IntKind.wrap .u64 ((kz .u64 (IntKind.wrap .u64 ((IntKind.wrap .u64 ((zu .u64 a 32)*(kz .u64 y 4294967295)))+(zu .u64 (IntKind.wrap .u64 ((kz .u64 a 4294967295)*(kz .u64 y 4294967295))) 32))) 4294967295)+(IntKind.wrap .u64 ((kz .u64 a 4294967295)*(zu .u64 y 32))))) 32))))]) ?_
 refine sh fol [(4,.int .u64 (IntKind.wrap .u64 ((IntKind.wrap .u64 ((IntKind.wrap .u64 ((zu .u64 a 32)*(zu .u64 y 32)))+(zu .u64 (IntKind.wrap .u64 ((IntKind.wrap .u64 ((zu .u64 a 32)*(kz .u64 y 4294967295)))+(zu .u64 (IntKind.wrap .u64 ((kz .u64 a 4294967295)*(kz .u64 y 4294967295))) 32))) 32)))+(zu .u64 (IntKind.wrap .u64 ((kz .u64 (IntKind.wrap .u64 ((IntKind.wrap .u64 ((zu .u64 a 32)*(kz .u64 y 4294967295)))+(zu .u64 (IntKind.wrap .u64 ((kz .u64 a 4294967295)*(kz .u64 y 4294967295))) 32))) 4294967295)+(IntKind.wrap .u64 ((kz .u64 a 4294967295)*(zu .u64 y 32))))) 32)))),(5,.int .u64 (IntKind.wrap .u64 (a*y)))] ?_
 refine Goes.ret ?_
 obtain rfl:=si h
 exact(gw2 [.int .u64 (IntKind.wrap .u64 ((IntKind.wrap .u64 ((IntKind.wrap .u64 ((zu .u64 a 32)*(zu .u64 y 32)))+(zu .u64 (IntKind.wrap .u64 ((IntKind.wrap .u64 ((zu .u64 a 32)*(kz .u64 y 4294967295)))+(zu .u64 (IntKind.wrap .u64 ((kz .u64 a 4294967295)*(kz .u64 y 4294967295))) 32))) 32)))+(zu .u64 (IntKind.wrap .u64 ((kz .u64 (IntKind.wrap .u64 ((IntKind.wrap .u64 ((zu .u64 a 32)*(kz .u64 y 4294967295)))+(zu .u64 (IntKind.wrap .u64 ((kz .u64 a 4294967295)*(kz .u64 y 4294967295))) 32))) 4294967295)+(IntKind.wrap .u64 ((kz .u64 a 4294967295)*(zu .u64 y 32))))) 32))),.int .u64 (IntKind.wrap .u64 (a*y))] (FzW.tuple (zm.cons (Ua tI) (zm.cons (Ua tI) zm.nil))))
def bits_Mul (b:Int) (y:Int):Option (Int×Int):=
 (bits_Mul64 b y).bind fun a=>
 some (a.1,a.2)
theorem qiB (d:Int) (y:Int) {res:Int×Int} (h:bits_Mul d y=some res):qb ZT (.fn 101) [.int .u64 d,.int .u64 y] [] (.tuple [.int .u64 res.1,.int .u64 res.2]) []:=by
 unfold bits_Mul at h
 refine Ub Tryz.func101 rfl rfl (m:=30) rfl (rs:=[.tmp 4,.tmp 5]) rfl (l:=(kP d y [])) rfl ?_
 refine sh fol (kP d y []) ?_
 refine sq ?_
 refine Goes.ifB (b:=false) (by kernel_rfl) (fun c=>(by cases c)) (fun _=>?_)
 refine Goes.skip ?_
 obtain⟨a,e,h⟩:=bnd h
 refine sq (gr fol [2] [(8,.int .u64 a.1),(9,.int .u64 a.2)] (ac (cv (qgd d y e)) az) ?_)
 refine sh fol [(4,.int .u64 a.1),(5,.int .u64 a.2)] ?_
 refine Goes.ret ?_
 obtain rfl:=si h
 exact(gw2 [.int .u64 a.1,.int .u64 a.2] (FzW.tuple (zm.cons (Ua tI) (zm.cons (Ua tI) zm.nil))))
def vX (w:List Int):Option ((List Int)×Int):=
 if(w.length:Int)>200 then
 some ([],5)
 else
 some (w,0)
theorem qbw (w:List Int) {res:(List Int)×Int} (h:vX w=some res):qb ZT (.fn 48) [vl encI w] [] (.tuple (kAR res.1 res.2)) []:=by
 unfold vX at h
 refine Ub Tryz.func48 rfl rfl (m:=8) rfl (rs:=[.tmp 2,.tmp 3]) rfl (l:=(kD w [])) rfl ?_
 refine sh fol (kD w []) ?_
 refine sq ?_
 refine sh fol (kD w [(6,.bool (decide ((w.length:Int)>200)))]) ?_
 refine ihD h (fun a h=>?_) (fun a h=>?_)
 ·refine sh fol [(2,.nilslice),(3,.i 5)] ?_
  refine Goes.ret ?_
  obtain rfl:=si h
  exact(gw2 [.nilslice,.i 5] (FzW.tuple (zm.cons (FzW.nilv (E:=encI)) (zm.cons (Ua tI) zm.nil))))
 refine Goes.skip ?_
 refine sh fol (kAT w [(3,.i 0)]) ?_
 refine Goes.ret ?_
 obtain rfl:=si h
 exact(gw2 [vl encI w,.i 0] (FzW.tuple (zm.cons (Ua (zw encI _ (nl rfl))) (zm.cons (Ua tI) zm.nil))))
def qV (a:List Int):Nat->(List Int)->Int->Option (List Int)
 |0,_,_=>none
 |K+1,c,b=>
  if b<(a.length:Int)then
  (idx a b).bind fun d=>
  (qap d).bind fun e=>
  (app 8 c [e]).bind fun f=>
  qV a K f (w64 (b+1))
  else
  some c
def jX (N:Nat) (a:List Int):Option (List Int):=
 (qV a N ([]:List Int) 0).bind fun b=>
 some b
theorem qb1 (N:Nat) (a:List Int) {n:List Int} (h:jX N a=some n):qb ZT (.fn 98) [vl encI a,.func (.func 99) [] []] [] (.gslice 0 n.length 1) (kA n):=by
 unfold jX at h
 refine Uk Tryz.func98 rfl rfl (m:=22) rfl (rs:=[.tmp 4]) rfl (l:=(kD a [(1,.func (.func 99) [] [])])) rfl ?_
 intro B hB
 refine sh fol (kD a [(1,.func (.func 99) [] [])]) ?_
 refine sh fol (kD a [(1,.func (.func 99) [] []),(5,.nilslice)]) ?_
 refine sq ?_
 refine sh fol [(1,.func (.func 99) [] []),(5,.nilslice),(8,vl encI a),(9,.i (a.length:Int)),(10,.i 0)] ?_
 refine Goes.block ?_
 obtain⟨o,g5,h⟩:=bnd h
 refine Goes.imp (Q:=fun x s'=>(x= .exit 0/\ ∃f,f=o/\Sub s' (ofG 22 (kH f []),(kA f)))) ?_ ?_
 ·refine Goes.sub (s':=(ofG 22 [(1,.func (.func 99) [] []),(5,.gslice 0 ([]:List Int).length 1),(8,vl encI a),(9,.i (a.length:Int)),(10,.i 0)],kAD)) (Sub.norm [] [none] (by rw[hB];rfl) rfl (.keep (.same (qj.func sn sn)) (.keep .nil (.keep (.same (qf encI _)) (.keep (.same nI) (.keep (.same nI) .nil))))) (.fresh .nil)) ?_
  refine Uc (fun M s=> ∃(b:List Int) (c:Int),s=(ofG 22 ((1,.func (.func 99) [] [])::(kH b ((8,vl encI a)::(kZ (a.length:Int) c [])))),(kA b))/\qV a M b c=some o) ?_ (m:=N) ⟨_,_,rfl,g5⟩
  rintro M s ⟨b,c,rfl,g5⟩
  cases M with
  |zero=>simp only[qV]at g5;cases g5
  |succ M=>
   rw[qV]at g5
   refine sh fol ((1,.func (.func 99) [] [])::(kH b ((8,vl encI a)::(kZ (a.length:Int) c [(11,.bool (decide (c<(a.length:Int))))])))) ?_
   refine sq ?_
   refine ihD g5 (fun q g5=>?_) (fun q g5=>?_)
   ·refine Goes.skip ?_
    refine sq (Goes.block ?_)
    obtain⟨p,d,g5⟩:=bnd g5
    refine sq (gr fol [0,1] ((1,.func (.func 99) [] [])::(kH b ((7,.i p)::(8,vl encI a)::(kZ (a.length:Int) c [])))) (ac (iv jF encI d) (ac (lv 0 ce3 encI d rfl) az)) ?_)
    obtain⟨k,g,g5⟩:=bnd g5
    obtain⟨e,j,g5⟩:=bnd g5
    refine gq fol [3,5] ((1,.func (.func 99) [] [])::(5,.gslice 2 e.length 1)::(8,vl encI a)::(kZ (a.length:Int) c [])) (kAE k (kA e)) (ac (cv (qd1 p g)) (ac (hs (.run [0,1] (zq ZT [22,22] (.gslice 0 b.length 1) (.slice 1 0 1 1 1)) (kAF b k) (.gslice 2 e.length 1) (kAE k (kA e)) true) (yU jF (E:=encI) rfl (qc7 (E:=encI) (ys:=[k]) rfl rfl rfl rfl) (qdA (E:=encI) (l:=b) rfl rfl rfl j rfl))) az)) ?_
    refine gh fol ((1,.func (.func 99) [] [])::(5,.gslice 2 e.length 1)::(8,vl encI a)::(kZ (a.length:Int) (w64 (c+1)) [])) ?_
    exact⟨M,(ofG 22 ((1,.func (.func 99) [] [])::(kH e ((8,vl encI a)::(kZ (a.length:Int) (w64 (c+1)) [])))),(kA e)),Nat.lt_succ_self _,(Sub.norm [] [some 2] (by rw[hB];rfl) rfl (.keep (.same (qj.func sn sn)) (.keep (.gslice rfl) (.keep (.same (qf encI _)) (.keep (.same nI) (.keep (.same nI) .nil))))) (.ks .nil)),_,_,rfl,g5⟩
   refine Goes.exit ?_
   obtain rfl:=si g5
   exact⟨rfl,_,rfl,(Sub.keep [5] rfl rfl)⟩
 rintro x s' ⟨rfl,f,rfl,hsub⟩
 refine Goes.sub hsub ?_
 refine sh fol [(4,.gslice 0 f.length 1)] ?_
 refine Goes.ret ?_
 obtain rfl:=si h
 exact(gh2 [.gslice 0 f.length 1] (qbe.refl _ _))
def qH:Nat->(List Int)->Int->Int->Option (List Int)
 |0,_,_,_=>none
 |K+1,c,d,a=>
  if d<a then
  (idx c a).bind fun f=>
  (idx c d).bind fun g=>
  (put c d f).bind fun b=>
  (idx b a).bind fun h=>
  (put b a g).bind fun e=>
  qH K e (w64 (d+1)) (w64 (a-1))
  else
  some c
def ji (N:Nat) (a:List Int):Option (List Int):=
 (qH N a 0 (w64 ((a.length:Int)-1))).bind fun b=>
 some b
theorem qbj (N:Nat) (f:List Int) {t:List Int} (h:ji N f=some t):qb ZT (.fn 100) [.gslice 0 f.length 1] (kA f) (.tuple []) (kA t):=by
 unfold ji at h
 refine Uk Tryz.func100 rfl rfl (m:=28) rfl (rs:=[]) rfl (l:=(kX f [])) rfl ?_
 intro B hB
 refine Goes.subQ ?_
 refine sh fol (kX f ((2,.i 0)::(kAU (w64 ((f.length:Int)-1))))) ?_
 refine Goes.block ?_
 obtain⟨u,g6,h⟩:=bnd h
 refine Goes.imp (Q:=fun x s'=>(x= .exit 0/\ ∃p,p=u/\Sub s' (ofG 28 [],(kA p)))) ?_ ?_
 ·refine Uc (fun M s=> ∃(a:List Int) (c:Int) (d:Int),s=(ofG 28 (kX a ((2,.i c)::(kAU d))),(kA a))/\qH M a c d=some u) ?_ (m:=N) ⟨_,_,_,rfl,g6⟩
  rintro M s ⟨a,c,d,rfl,g6⟩
  cases M with
  |zero=>simp only[qH]at g6;cases g6
  |succ M=>
   rw[qH]at g6
   refine sq ?_
   refine sh fol (kX a [(2,.i c),(3,.i d),(9,.bool (decide (c<d)))]) ?_
   refine ihD g6 (fun v g6=>?_) (fun v g6=>?_)
   ·refine Goes.skip ?_
    refine sq (Goes.block ?_)
    obtain⟨q,g,g6⟩:=bnd g6
    obtain⟨r,e,g6⟩:=bnd g6
    obtain⟨n,j,g6⟩:=bnd g6
    obtain⟨w,o,g6⟩:=bnd g6
    obtain⟨b,k,g6⟩:=bnd g6
    refine gq fol [6,7,10,11,12,13,14,15] (kX a ((2,.i c)::(kAU d))) (kA b) (ac (hs (.done (.opt (qc ZT 22 (.gslice 0 a.length 1) (.i d))) (.ptr 0 ((d:Int).toNat*1+0))) (xA jF g)) (ac (hs (.run [0] (jY ZT 3 (.ptr 0 ((d:Int).toNat*1+0))) (kA a) (.i q) (kA a) false) (qdu ce3 (E:=encI) (l:=a) rfl rfl g (nl rfl) rfl)) (ac (hs (.done (.opt (qc ZT 22 (.gslice 0 a.length 1) (.i c))) (.ptr 0 ((c:Int).toNat*1+0))) (xA jF e)) (ac (hs (.run [0] (jY ZT 3 (.ptr 0 ((c:Int).toNat*1+0))) (kA a) (.i r) (kA a) false) (qdu ce3 (E:=encI) (l:=a) rfl rfl e (nl rfl) rfl)) (ac (hs (.done (.opt (qc ZT 22 (.gslice 0 a.length 1) (.i c))) (.ptr 0 ((c:Int).toNat*1+0))) (xA jF e)) (ac (hs (.run [0] (yc ZT 3 (.ptr 0 ((c:Int).toNat*1+0)) (.i q)) (kA a) .undef (kA n) true) (qaG (E:=encI) (l:=a) (y:=q) rfl (show _=some 1 by kernel_rfl) rfl e rfl rfl rfl rfl rfl j rfl)) (ac (hs (.done (.opt (qc ZT 22 (.gslice 0 a.length 1) (.i d))) (.ptr 0 ((d:Int).toNat*1+0))) (xA jF g)) (ac (hs (.run [0] (yc ZT 3 (.ptr 0 ((d:Int).toNat*1+0)) (.i r)) (kA n) .undef (kA b) true) (qaG (E:=encI) (l:=n) (y:=r) rfl (show _=some 1 by kernel_rfl) rfl o rfl rfl rfl rfl rfl k rfl)) az)))))))) ?_
    refine Goes.sub (show Sub (ofG 28 (kX a ((2,.i c)::(kAU d))),(kA b)) (ofG 28 (kX b ((2,.i c)::(kAU d))),(kA b))from(Sub.norm [] [some 0] (by rw[hB];rfl) rfl (.keep (.gsliceE rfl ((yg j).trans (yg k))) (.keep (.same nI) (.keep (.same nI) .nil))) (.ks .nil))) ?_
    refine gh fol (kX b ((2,.i (w64 (c+1)))::(kAU (w64 (d-1))))) ?_
    exact⟨M,(ofG 28 (kX b ((2,.i (w64 (c+1)))::(kAU (w64 (d-1))))),(kA b)),Nat.lt_succ_self _,(Sub.refl _),_,_,_,rfl,g6⟩
   refine Goes.exit ?_
   obtain rfl:=si g6
   exact⟨rfl,_,rfl,(Sub.keep [] rfl rfl)⟩
 rintro x s' ⟨rfl,p,rfl,hsub⟩
 obtain rfl:=si h
 exact⟨_,hsub,(gh2 [] (qbe.refl _ _))⟩
def vo (N:Nat) (a:List Int):Option (List Int):=
 (jX N a).bind fun b=>
 (ji N b).bind fun c=>
 ((if b.length=c.length then some ()else none:Option Unit)).bind fun d=>
 some c
theorem qaH (N:Nat) (a:List Int) {g:List Int} (h:vo N a=some g):qb ZT (.fn 45) [vl encI a] [] (.gslice 0 g.length 1) (kA g):=by
 unfold vo at h
 refine Uk Tryz.func45 rfl rfl (m:=9) rfl (rs:=[.tmp 2]) rfl (l:=(kD a [])) rfl ?_
 intro B hB
 refine sh fol (kD a []) ?_
 obtain⟨b,d,h⟩:=bnd h
 refine sq (gq fol [1] (kS b []) (kA b) (ac (hs (.callH 98 [vl encI a,.func (.func 99) [] []] [] [] (.gslice 0 b.length 1) (kA b)) (yP [] [some 0] (qb1 N a d) .nil rfl rfl (.new rfl rfl (.same fa) rfl .nil) (rc (.same (qf encI _)) (rc (.same (qj.func sn sn)) rn)) (.gslice rfl) rfl)) az) ?_)
 obtain⟨c,e,h⟩:=bnd h
 obtain⟨i,f,h⟩:=bnd h
 refine sq (gq fol [1] (kS b []) (kA c) (ac (hs (.callH 100 [.gslice 0 b.length 1] (kA b) [0] (.tuple []) (kA c)) (yP [some 0] [some 0] (qbj N b e) (.ks .nil) rfl rfl (.back rfl rfl (.same fa) rfl .nil) (rc (.gslice rfl) rn) (.same (qj.tuple sn)) rfl)) az) ?_)
 refine Goes.sub (show Sub (ofG 9 (kS b []),(kA c)) (ofG 9 (kS c []),(kA c))from(Sub.norm [] [some 0] (by rw[hB];rfl) rfl (.keep (.gsliceE rfl (qgW f)) .nil) (.ks .nil))) ?_
 refine sh fol [(2,.gslice 0 c.length 1)] ?_
 refine Goes.ret ?_
 obtain rfl:=si h
 exact(gh2 [.gslice 0 c.length 1] (qbe.refl _ _))
def qJ:Nat->(List Int)->Int->Option (List Int)
 |0,_,_=>none
 |K+1,a,c=>
  if c<(a.length:Int)then
  (at' a c).bind fun b=>
  (some (qbz a b (a.take b))).bind fun d=>
  qJ K d (w64 (c+((Nat.min (a.take b).length (a.length-b):Nat):Int)))
  else
  some a
def zR (N:Nat) (a:List Int) (b:Int):Option (List Int):=
 ((if b<0 then
 none
 else
 some ():Option Unit)).bind fun _=>
 (bits_Mul (IntKind.wrap .u64 (a.length:Int)) (IntKind.wrap .u64 b)).bind fun d=>
 (if d.1>0 then
 some true
 else
 some (decide (d.2>9223372036854775807)):Option Bool).bind fun g=>
 ((if g=true then
 none
 else
 some ():Option Unit)).bind fun _=>
 (mk 8 (w64 d.2) 0).bind fun c=>
 (some (cpy c a)).bind fun e=>
 (qJ N e ((Nat.min a.length c.length:Nat):Int)).bind fun f=>
 some f
theorem qbC (N:Nat) (b:List Int) (g:Int) {w:List Int} (h:zR N b g=some w):qb ZT (.fn 46) (kAR b g) [] (.slice 0 0 w.length w.length 1) (kA w):=by
 unfold zR at h
 refine Uk Tryz.func46 rfl rfl (m:=48) rfl (rs:=[.tmp 4]) rfl (l:=(kD b (kAQ g))) rfl ?_
 intro B hB
 refine sh fol (kD b (kAQ g)) ?_
 refine sq ?_
 refine sh fol (kD b [(1,.i g),(10,.bool (decide (g<0)))]) ?_
 obtain⟨C,g2,h⟩:=bnd h
 refine Goes.imp (Q:=fun x s'=>(x= .normal/\()=C/\Sub s' (ofG 48 (kD b (kAQ g)),[]))) ?_ ?_
 ·refine ihD g2 (fun D g2=>?_) (fun D g2=>?_)
  ·cases g2
  refine Goes.skip ?_
  obtain rfl:=si g2
  exact⟨rfl,rfl,(Sub.keep [0,1] rfl rfl)⟩
 rintro x s' ⟨rfl,rfl,hsub⟩
 refine Goes.sub hsub ?_
 obtain⟨r,u,h⟩:=bnd h
 refine sq (gr fol [5] (kD b [(5,.int .u64 r.1),(6,.int .u64 r.2)]) (ac (cv (qiB (IntKind.wrap .u64 (b.length:Int)) (IntKind.wrap .u64 g) u)) az) ?_)
 refine sq ?_
 refine sq ?_
 obtain⟨F,j,h⟩:=bnd h
 refine Goes.cut (s':=(ofG 48 (kD b [(6,.int .u64 r.2),(26,.bool F)]),[])) ?_ ?_
 ·rcases wyD j with⟨y,j⟩|⟨y,j⟩
  ·obtain rfl:=si j
   exact tr fol [2] (kD b [(6,.int .u64 r.2),(26,.bool true)]) (ac (gw y) az)
  obtain rfl:=si j
  exact tr fol [2] (kD b [(6,.int .u64 r.2),(26,.bool (decide (r.2>9223372036854775807)))]) (ac (gw y) az)
 obtain⟨G,g8,h⟩:=bnd h
 refine Goes.imp (Q:=fun x s'=>(x= .normal/\()=G/\Sub s' (ofG 48 (kD b [(6,.int .u64 r.2)]),[]))) ?_ ?_
 ·refine ihB g8 (fun H g8=>?_) (fun H g8=>?_)
  ·cases g8
  refine Goes.skip ?_
  obtain rfl:=si g8
  exact⟨rfl,rfl,(Sub.keep [0,6] rfl rfl)⟩
 rintro x s' ⟨rfl,rfl,hsub⟩
 refine Goes.sub hsub ?_
 obtain⟨c,t,h⟩:=bnd h
 refine sq (gq fol [2] (kD b (kR c [])) (kA c) (ac (hs (.run [] (vU ZT 22 (.i (w64 r.2)) (.i (w64 r.2))) [] (.slice 0 0 c.length c.length 1) (kA c) false) (qf5 jF (E:=encI) (z:=0) rfl (by kernel_rfl) t rfl)) az) ?_)
 obtain⟨o,p,h⟩:=bnd h
 refine sq (gq fol [2] (kR c [(8,.i ((Nat.min b.length c.length:Nat):Int))]) (kA o) (ac (hs (.run [0] (qaA ZT [22,22] (.slice 0 0 c.length c.length 1) (vl encI b)) (kA c) (.i ((Nat.min b.length c.length:Nat):Int)) (kA o) true) (qpC jF (E:=encI) (l:=c) rfl (qhX (E:=encI) rfl _) (.inl rfl) rfl rfl p rfl)) az) ?_)
 refine Goes.sub (show Sub (ofG 48 (kR c [(8,.i ((Nat.min b.length c.length:Nat):Int))]),(kA o)) (ofG 48 (kR o [(8,.i ((Nat.min b.length c.length:Nat):Int))]),(kA o))from(Sub.norm [] [some 0] (by rw[hB];rfl) rfl (.keep (.sliceE rfl (qkD p)) (.keep (.same nI) .nil)) (.ks .nil))) ?_
 refine sq (Goes.block ?_)
 obtain⟨v,g15,h⟩:=bnd h
 refine Goes.imp (Q:=fun x s'=>(x= .exit 0/\ ∃k,k=v/\Sub s' (ofG 48 (kR k []),(kA k)))) ?_ ?_
 ·refine Uc (fun M s=> ∃(a:List Int) (e:Int),s=(ofG 48 (kR a [(8,.i e)]),(kA a))/\qJ M a e=some v) ?_ (m:=N) ⟨_,_,rfl,g15⟩
  rintro M s ⟨a,e,rfl,g15⟩
  cases M with
  |zero=>simp only[qJ]at g15;cases g15
  |succ M=>
   rw[qJ]at g15
   refine sq ?_
   refine sh fol (kR a [(8,.i e),(37,.bool (decide (e<(a.length:Int))))]) ?_
   refine ihD g15 (fun A g15=>?_) (fun A g15=>?_)
   ·refine Goes.skip ?_
    refine Goes.block ?_
    obtain⟨d,f,g15⟩:=bnd g15
    obtain⟨n,q,g15⟩:=bnd g15
    refine gq fol [3,6,7] (kR a [(8,.i (w64 (e+((Nat.min (a.take d).length (a.length-d):Nat):Int))))]) (kA n) (ac (hs (.done (.opt (yZ ZT 22 (.slice 0 0 a.length a.length 1) (some (.i e)) none none)) (qdB 0 1 a.length d)) (qmK jF f)) (ac (hs (.done (.opt (yZ ZT 22 (.slice 0 0 a.length a.length 1) none (some (.i e)) none)) (.slice 0 0 d a.length 1)) (qpL jF f)) (ac (hs (.run [0,0] (qaA ZT [22,22] (qdB 0 1 a.length d) (.slice 0 0 d a.length 1)) (kA a) (.i ((Nat.min (a.take d).length (a.length-d):Nat):Int)) (kA n) true) (qnn jF (E:=encI) rfl (l:=a) (qoC (E:=encI) rfl rfl rfl (qnC f)) (qnC f) rfl rfl q rfl)) az))) ?_
    exact⟨M,(ofG 48 (kR n [(8,.i (w64 (e+((Nat.min (a.take d).length (a.length-d):Nat):Int))))]),(kA n)),Nat.lt_succ_self _,((show Sub (ofG 48 (kR a [(8,.i (w64 (e+((Nat.min (a.take d).length (a.length-d):Nat):Int))))]),(kA n)) (ofG 48 (kR n [(8,.i (w64 (e+((Nat.min (a.take d).length (a.length-d):Nat):Int))))]),(kA n))from(Sub.norm [] [some 0] (by rw[hB];rfl) rfl (.keep (.sliceE rfl (qlu (qnC f) q)) (.keep (.same nI) .nil)) (.ks .nil))).trans (Sub.refl _)),_,_,rfl,g15⟩
   refine Goes.exit ?_
   obtain rfl:=si g15
   exact⟨rfl,_,rfl,(Sub.keep [7] rfl rfl)⟩
 rintro x s' ⟨rfl,k,rfl,hsub⟩
 refine Goes.sub hsub ?_
 refine sh fol [(4,.slice 0 0 k.length k.length 1)] ?_
 refine Goes.ret ?_
 obtain rfl:=si h
 exact(gh2 [.slice 0 0 k.length k.length 1] (qbe.refl _ _))
def jL (N:Nat) (f:jf):Nat->(List Int)->Int->Option (List Int)
 |0,_,_=>none
 |K+1,b,a=>
  if a<(f.Factors.length:Int)then
  (idx f.Factors a).bind fun c=>
  (jR N c).bind fun d=>
  (app 8 b d).bind fun e=>
  jL N f K e (w64 (a+1))
  else
  some b
def qav (N:Nat) (n:Int) (f:jf):Option ((List Int)×Int):=
 (jb N n f).bind fun e=>
 if(!decide (e=0))=true then
 some ([],e)
 else
 (xk N n).bind fun h=>
 (jR N h).bind fun g=>
 ((if f.Half<0 then
 (vo N g).bind fun i=>
 some i
 else
 some g:Option (List Int))).bind fun j=>
 (vg f.Half).bind fun c=>
 (zR N j c).bind fun a=>
 (if a.length<=1000000000 then some ()else none:Option Unit).bind fun k=>
 (jL N f N a 0).bind fun d=>
 (vX d).bind fun b=>
 some (b.1,b.2)
theorem qfj (N:Nat) (n:Int) (f:jf) {res:(List Int)×Int} (h:qav N n f=some res):qb ZT (.fn 13) [.i n,.agg [.i f.Half,vl (qa encI) f.Factors]] [] (.tuple (kAR res.1 res.2)) []:=by
 unfold qav at h
 refine Ub Tryz.func13 rfl rfl (m:=46) rfl (rs:=[.tmp 4,.tmp 5]) rfl (l:=[(0,.i n),(1,.agg [.i f.Half,vl (qa encI) f.Factors])]) rfl ?_
 refine sg fol (kF n []) [.cells [.i f.Half,vl (qa encI) f.Factors]] ?_
 refine sq ?_
 obtain⟨v,w,h⟩:=bnd h
 refine sq (gr fol [2] (kF n [(6,.i v)]) (ac (cv (qdh N n f w)) az) ?_)
 refine sh fol (kF n [(6,.i v),(15,.bool (!decide (v=0)))]) ?_
 refine ihB h (fun K h=>?_) (fun K h=>?_)
 ·refine sh fol ((4,.nilslice)::(kAM v)) ?_
  refine Goes.ret ?_
  obtain rfl:=si h
  exact(gw2 [.nilslice,.i v] (FzW.tuple (zm.cons (FzW.nilv (E:=encI)) (zm.cons (Ua tI) zm.nil))))
 refine Goes.skip ?_
 obtain⟨L,y,h⟩:=bnd h
 obtain⟨G,z,h⟩:=bnd h
 refine sq (gr fol [1,2] [(3,.ptr 0 0),(7,vl encI G)] (ac (cv (qao N n y)) (ac (cv (qaB N L z)) az)) ?_)
 refine sq ?_
 refine sh fol [(3,.ptr 0 0),(7,vl encI G),(22,.bool (decide (f.Half<0)))] ?_
 obtain⟨O,g6,h⟩:=bnd h
 refine Goes.imp (Q:=fun x s'=>(x= .normal/\ ∃A,A=O/\Sub s' (ofG 46 [(3,.ptr 0 0),(7,vl encI A)],[.cells [.i f.Half,vl (qa encI) f.Factors]]))) ?_ ?_
 ·refine ihD g6 (fun P g6=>?_) (fun P g6=>?_)
  ·obtain⟨H,B,g6⟩:=bnd g6
   refine gq fol [1] [(3,.ptr 0 0),(7,.gslice 1 H.length 1)] (.cells [.i f.Half,vl (qa encI) f.Factors]::(kA H)) (ac (hs (.callH 45 [vl encI G] [.cells [.i f.Half,vl (qa encI) f.Factors]] [] (.gslice 1 H.length 1) (.cells [.i f.Half,vl (qa encI) f.Factors]::(kA H))) (yP [] [none,some 0] (qaH N G B) .nil rfl rfl (.old rfl rfl (.new rfl rfl (.same fa) rfl .nil)) (rc (.same (qf encI _)) rn) (.gslice rfl) rfl)) az) ?_
   obtain rfl:=si g6
   exact⟨rfl,_,rfl,(Sub.norm [1] [some 0] rfl rfl (.kp (.keep (.frz (Fz.gs (E:=encI) rfl rfl (nl rfl)) (qf encI _)) .nil)) (.kb rfl (.same sn) .nil))⟩
  refine Goes.skip ?_
  obtain rfl:=si g6
  exact⟨rfl,_,rfl,(Sub.keep [3,7] rfl rfl)⟩
 rintro x s' ⟨rfl,A,rfl,hsub⟩
 refine Goes.sub hsub ?_
 obtain⟨C,o,h⟩:=bnd h
 obtain⟨a,p,h⟩:=bnd h
 refine sq (gq fol [3,4] [(3,.ptr 0 0),(8,.slice 1 0 a.length a.length 1)] (.cells [.i f.Half,vl (qa encI) f.Factors]::(kA a)) (ac (cv (xw f.Half o)) (ac (hs (.callH 46 (kAR A C) [.cells [.i f.Half,vl (qa encI) f.Factors]] [] (.slice 1 0 a.length a.length 1) (.cells [.i f.Half,vl (qa encI) f.Factors]::(kA a))) (yP [] [none,some 0] (qbC N A C p) .nil rfl rfl (.old rfl rfl (.new rfl rfl (.same fa) rfl .nil)) (rc (.same (qf encI _)) (rc (.same nI) rn)) (.slice rfl) rfl)) az)) ?_)
 refine sq ?_
 refine sh fol [(8,.slice 1 0 a.length a.length 1),(31,vl (qa encI) f.Factors),(32,.i (f.Factors.length:Int)),(33,.i 0)] ?_
 refine Goes.block ?_
 obtain⟨T,q,h⟩:=bnd h
 obtain⟨D,g17,h⟩:=bnd h
 refine Goes.imp (Q:=fun x s'=>(x= .exit 0/\ ∃b,b=D/\Sub s' (ofG 46 [(8,.oslice 0 b.length 1)],(kA b)))) ?_ ?_
 ·refine Goes.sub (s':=(ofG 46 [(8,.oslice 0 a.length 1),(31,vl (qa encI) f.Factors),(32,.i (f.Factors.length:Int)),(33,.i 0)],(kA a))) (Sub.norm [9999] [some 1] rfl rfl (.keep (zh.ownL rfl rfl (qn4 encI a) (qor q) rfl rfl) (.keep (.same (qf (qa encI) _)) (.keep (.same nI) (.keep (.same nI) .nil)))) (.ks .nil)) ?_
  refine Uc (fun M s=> ∃(e:List Int) (g:Int),s=(ofG 46 [(8,.oslice 0 e.length 1),(31,vl (qa encI) f.Factors),(32,.i (f.Factors.length:Int)),(33,.i g)],(kA e))/\jL N f M e g=some D) ?_ (m:=N) ⟨_,_,rfl,g17⟩
  rintro M s ⟨e,g,rfl,g17⟩
  cases M with
  |zero=>simp only[jL]at g17;cases g17
  |succ M=>
   rw[jL]at g17
   refine sh fol [(8,.oslice 0 e.length 1),(31,vl (qa encI) f.Factors),(32,.i (f.Factors.length:Int)),(33,.i g),(34,.bool (decide (g<(f.Factors.length:Int))))] ?_
   refine sq ?_
   refine ihD g17 (fun I g17=>?_) (fun I g17=>?_)
   ·refine Goes.skip ?_
    refine sq (Goes.block ?_)
    obtain⟨F,k,g17⟩:=bnd g17
    refine sq (gr fol [0,1] [(8,.oslice 0 e.length 1),(10,vl encI F),(31,vl (qa encI) f.Factors),(32,.i (f.Factors.length:Int)),(33,.i g)] (ac (iv qb6 (qa encI) k) (ac (lv 0 qed (qa encI) k rfl) az)) ?_)
    obtain⟨J,r,g17⟩:=bnd g17
    obtain⟨j,t,g17⟩:=bnd g17
    refine gq fol [2,3] [(8,.oslice 1 j.length 1),(31,vl (qa encI) f.Factors),(32,.i (f.Factors.length:Int)),(33,.i g)] (.dead::(kA j)) (ac (cv (qaB N F r)) (ac (hs (.run [0] (zq ZT [22,22] (.oslice 0 e.length 1) (vl encI J)) (kA e) (.oslice 1 j.length 1) (.dead::(kA j)) true) (yU jF (E:=encI) rfl (qhX (E:=encI) rfl _) (qki (E:=encI) (l:=e) rfl rfl rfl t rfl))) az)) ?_
    refine gh fol [(8,.oslice 1 j.length 1),(31,vl (qa encI) f.Factors),(32,.i (f.Factors.length:Int)),(33,.i (w64 (g+1)))] ?_
    exact⟨M,(ofG 46 [(8,.oslice 0 j.length 1),(31,vl (qa encI) f.Factors),(32,.i (f.Factors.length:Int)),(33,.i (w64 (g+1)))],(kA j)),Nat.lt_succ_self _,(Sub.norm [] [some 1] rfl rfl (.keep (.oslice rfl) (.keep (.same (qf (qa encI) _)) (.keep (.same nI) (.keep (.same nI) .nil)))) (.ks .nil)),_,_,rfl,g17⟩
   refine Goes.exit ?_
   obtain rfl:=si g17
   exact⟨rfl,_,rfl,(Sub.keep [8] rfl rfl)⟩
 rintro x s' ⟨rfl,b,rfl,hsub⟩
 refine Goes.sub hsub ?_
 obtain⟨d,u,h⟩:=bnd h
 refine sq (gq fol [1] ((4,vl encI d.1)::(kAM d.2)) [.frozen (b.flatMap encI.c)] (ac (hs (.callF 48 [.oslice 0 b.length 1] (kA b) [0] [vl encI b] (.tuple (kAR d.1 d.2))) (qja (FzL.cons (Fz.os (E:=encI) rfl rfl (nl rfl)) FzL.nil) (qbw b u) (Still.tuple (AllST.cons (zw encI _ (nl rfl)) (AllST.cons tI AllST.nil))))) az) ?_)
 refine Goes.sub (show Sub (ofG 46 ((4,vl encI d.1)::(kAM d.2)),[.frozen (b.flatMap encI.c)]) (ofG 46 ((4,vl encI d.1)::(kAM d.2)),[])from(Sub.norm [] [] rfl rfl (.keep (.same (qf encI _)) (.keep (.same nI) .nil)) .nil)) ?_
 refine Goes.ret ?_
 obtain rfl:=si h
 exact(gw2 (kAR d.1 d.2) (FzW.tuple (zm.cons (Ua (zw encI _ (nl rfl))) (zm.cons (Ua tI) zm.nil))))
def xJ (N:Nat) (n:Int) (w:List Int):Option ((List Int)×Int):=
 (je N n w).bind fun a=>
 if(!decide (a=0))=true then
 some ([],a)
 else
 (vo N w).bind fun b=>
 some (b,0)
theorem qeg (N:Nat) (n:Int) (w:List Int) {res:(List Int)×Int} (h:xJ N n w=some res):qb ZT (.fn 17) [.i n,vl encI w] [] (.tuple (kAR res.1 res.2)) []:=by
 unfold xJ at h
 refine Ub Tryz.func17 rfl rfl (m:=15) rfl (rs:=[.tmp 4,.tmp 5]) rfl (l:=(kB n w [])) rfl ?_
 refine sh fol (kB n w []) ?_
 refine sq ?_
 obtain⟨a,b,h⟩:=bnd h
 refine sq (gr fol [2] (kL w [(6,.i a)]) (ac (cv (yB N n w b)) az) ?_)
 refine sh fol (kL w [(6,.i a),(11,.bool (!decide (a=0)))]) ?_
 refine ihB h (fun e h=>?_) (fun e h=>?_)
 ·refine sh fol ((4,.nilslice)::(kAM a)) ?_
  refine Goes.ret ?_
  obtain rfl:=si h
  exact(gw2 [.nilslice,.i a] (FzW.tuple (zm.cons (FzW.nilv (E:=encI)) (zm.cons (Ua tI) zm.nil))))
 refine Goes.skip ?_
 obtain⟨c,d,h⟩:=bnd h
 refine sq (gq fol [1] [(4,.gslice 0 c.length 1),(5,.i 0)] (kA c) (ac (hs (.callH 45 [vl encI w] [] [] (.gslice 0 c.length 1) (kA c)) (yP [] [some 0] (qaH N w d) .nil rfl rfl (.new rfl rfl (.same fa) rfl .nil) (rc (.same (qf encI _)) rn) (.gslice rfl) rfl)) az) ?_)
 refine Goes.ret ?_
 obtain rfl:=si h
 exact(gw2 [.gslice 0 c.length 1,.i 0] (FzW.tuple (zm.cons (Uo (Fz.gs (E:=encI) rfl rfl (nl rfl))) (zm.cons (Ua tI) zm.nil))))
def vG (a:Int):Option (Option (List Int)):=
 ((if a<0 then
 none
 else
 some ():Option Unit)).bind fun _=>
 ((if(w64 (a-(w64 (0-0))))>0 then
 (cut ([]:List Int) 0 0).bind fun e=>
 (qia 8 (w64 (a-(w64 (0-0)))) 0).bind fun b=>
 (cut b 0 0).bind fun c=>
 some (some c)
 else
 some (none:Option (List Int)):Option (Option (List Int)))).bind fun d=>
 some d
theorem qcg (a:Int) {j:Option (List Int)} (h:vG a=some j):qb ZT (.fn 102) [.nilslice,.i a] [] (hsl 0 1 j) (kJ j):=by
 unfold vG at h
 refine Uk Tryz.func102 rfl rfl (m:=27) rfl (rs:=[.tmp 4]) rfl (l:=((0,.nilslice)::(kAQ a))) rfl ?_
 intro B hB
 refine sh fol ((0,.nilslice)::(kAQ a)) ?_
 refine sq ?_
 refine sh fol [(0,.nilslice),(1,.i a),(6,.bool (decide (a<0)))] ?_
 obtain⟨k,g2,h⟩:=bnd h
 refine Goes.imp (Q:=fun x s'=>(x= .normal/\()=k/\Sub s' (ofG 27 ((0,.nilslice)::(kAQ a)),[]))) ?_ ?_
 ·refine ihD g2 (fun n g2=>?_) (fun n g2=>?_)
  ·cases g2
  refine Goes.skip ?_
  obtain rfl:=si g2
  exact⟨rfl,rfl,(Sub.keep [0,1] rfl rfl)⟩
 rintro x s' ⟨rfl,rfl,hsub⟩
 refine Goes.sub hsub ?_
 refine sq ?_
 refine sh fol ((0,.nilslice)::(kAQ (w64 (a-(w64 (0-0)))))) ?_
 refine sh fol [(0,.nilslice),(1,.i (w64 (a-(w64 (0-0))))),(16,.bool (decide ((w64 (a-(w64 (0-0))))>0)))] ?_
 obtain⟨o,g5,h⟩:=bnd h
 refine Goes.imp (Q:=fun x s'=>(x= .normal/\ ∃c,c=o/\Sub s' (ofG 27 [(0,hsl 0 1 c)],(kJ c)))) ?_ ?_
 ·refine ihD g5 (fun p g5=>?_) (fun p g5=>?_)
  ·obtain⟨q,d,g5⟩:=bnd g5
   obtain⟨e,f,g5⟩:=bnd g5
   obtain⟨g,b,g5⟩:=bnd g5
   refine gq fol [3,5,8] [(0,.oslice 0 g.length 1)] (kA e) (ac (hs (.done (.opt (yZ ZT 22 .nilslice none (some (.i 0)) none)) .nilslice) (qmy (α:=Int) jF none (some 0) d)) (ac (hs (.run [] (zq ZT [22,3] .nilslice (.i (w64 (a-(w64 (0-0)))))) [] (.oslice 0 e.length 1) (kA e) false) (qlO jF it3 (E:=encI) rfl (z:=0) (by kernel_rfl) f rfl)) (ac (hs (.done (.opt (yZ ZT 22 (.oslice 0 e.length 1) none (some (.i 0)) none)) (.oslice 0 g.length 1)) (qoU jF b)) az))) ?_
   obtain rfl:=si g5
   exact⟨rfl,_,rfl,((show Sub (ofG 27 [(0,.oslice 0 g.length 1)],(kA e)) (ofG 27 [(0,.oslice 0 g.length 1)],(kA g))from(Sub.norm [] [some 0] (by rw[hB];rfl) rfl (.keep (.oslice rfl) .nil) (.kb rfl (xV.cut b) .nil))).trans (Sub.norm [] [some 0] (by rw[hB];rfl) rfl (.keep (zh.hs1 rfl) .nil) (.ks .nil)))⟩
  refine Goes.skip ?_
  obtain rfl:=si g5
  exact⟨rfl,_,rfl,(Sub.norm [] [none] (by rw[hB];rfl) rfl (.keep zh.hs0 .nil) (.fresh .nil))⟩
 rintro x s' ⟨rfl,c,rfl,hsub⟩
 refine Goes.sub hsub ?_
 refine sh fol [(4,hsl 0 1 c)] ?_
 refine Goes.ret ?_
 obtain rfl:=si h
 exact(gh2 [hsl 0 1 c] (qbe.refl _ _))
def qE (slices:List (List Int)):Nat->Int->Int->Option Int
 |0,_,_=>none
 |K+1,a,b=>
  if a<(slices.length:Int)then
  (((idx slices a).bind fun c=>
  if(w64 (b+(c.length:Int)))<0 then
  none
  else
  some (w64 (b+(c.length:Int))):Option Int)).bind fun d=>
  qE slices K (w64 (a+1)) d
  else
  some b
def qp (slices:List (List Int)):Nat->(Option (List Int))->Int->Option (Option (List Int))
 |0,_,_=>none
 |K+1,b,a=>
  if a<(slices.length:Int)then
  (idx slices a).bind fun c=>
  ((match b with
  |none=>
  (match c with
  |[]=>
  some (none:Option (List Int))
  |g::xs20=>
  none)
  |some d=>
  (app 8 d c).bind fun e=>
  some (some e)):Option (Option (List Int))).bind fun f=>
  qp slices K f (w64 (a+1))
  else
  some b
def vQ (N:Nat) (slices:List (List Int)):Option (List Int):=
 (qE slices N 0 0).bind fun c=>
 (vG c).bind fun a=>
 (qp slices N a 0).bind fun b=>
 some (hof b)
theorem qcw (N:Nat) (slices:List (List Int)) {res:List Int} (h:vQ N slices=some res):qb ZT (.fn 50) [vl (qa encI) slices] [] (vl encI res) []:=by
 unfold vQ at h
 refine Ub Tryz.func50 rfl rfl (m:=36) rfl (rs:=[.tmp 2]) rfl (l:=[(0,vl (qa encI) slices)]) rfl ?_
 refine sh fol [(0,vl (qa encI) slices)] ?_
 refine sh fol [(0,vl (qa encI) slices),(3,.i 0)] ?_
 refine sq ?_
 refine sh fol [(0,vl (qa encI) slices),(3,.i 0),(9,vl (qa encI) slices),(10,.i (slices.length:Int)),(11,.i 0)] ?_
 refine Goes.block ?_
 obtain⟨B,g4,h⟩:=bnd h
 refine Goes.imp (Q:=fun x s'=>(x= .exit 0/\ ∃v,v=B/\Sub s' (ofG 36 ((0,vl (qa encI) slices)::(kAU v)),[]))) ?_ ?_
 ·refine Uc (fun M s=> ∃(f:Int) (o:Int),s=(ofG 36 ((0,vl (qa encI) slices)::(3,.i o)::(9,vl (qa encI) slices)::(kAB (slices.length:Int) f)),[])/\qE slices M f o=some B) ?_ (m:=N) ⟨_,_,rfl,g4⟩
  rintro M s ⟨f,o,rfl,g4⟩
  cases M with
  |zero=>simp only[qE]at g4;cases g4
  |succ M=>
   rw[qE]at g4
   refine sh fol [(0,vl (qa encI) slices),(3,.i o),(9,vl (qa encI) slices),(10,.i (slices.length:Int)),(11,.i f),(12,.bool (decide (f<(slices.length:Int))))] ?_
   refine sq ?_
   refine ihD g4 (fun C g4=>?_) (fun C g4=>?_)
   ·refine Goes.skip ?_
    refine sq ?_
    obtain⟨D,g7,g4⟩:=bnd g4
    refine Goes.imp (Q:=fun x s'=>(x= .normal/\ ∃w,w=D/\Sub s' (ofG 36 ((0,vl (qa encI) slices)::(3,.i w)::(9,vl (qa encI) slices)::(kAB (slices.length:Int) f)),[]))) ?_ ?_
    ·refine Goes.block ?_
     obtain⟨z,p,g7⟩:=bnd g7
     refine sq (gr fol [0,1] ((0,vl (qa encI) slices)::(3,.i o)::(5,vl encI z)::(9,vl (qa encI) slices)::(kAB (slices.length:Int) f)) (ac (iv qb6 (qa encI) p) (ac (lv 0 qed (qa encI) p rfl) az)) ?_)
     refine sh fol ((0,vl (qa encI) slices)::(3,.i (w64 (o+(z.length:Int))))::(9,vl (qa encI) slices)::(kAB (slices.length:Int) f)) ?_
     refine sh fol [(0,vl (qa encI) slices),(3,.i (w64 (o+(z.length:Int)))),(9,vl (qa encI) slices),(10,.i (slices.length:Int)),(11,.i f),(20,.bool (decide ((w64 (o+(z.length:Int)))<0)))] ?_
     refine ihD g7 (fun F g7=>?_) (fun F g7=>?_)
     ·cases g7
     refine Goes.skip ?_
     obtain rfl:=si g7
     exact⟨rfl,_,rfl,(Sub.keep [0,3,9,10,11] rfl rfl)⟩
    rintro x s' ⟨rfl,w,rfl,hsub⟩
    refine Goes.sub hsub ?_
    refine gh fol ((0,vl (qa encI) slices)::(3,.i w)::(9,vl (qa encI) slices)::(kAB (slices.length:Int) (w64 (f+1)))) ?_
    exact⟨M,(ofG 36 ((0,vl (qa encI) slices)::(3,.i w)::(9,vl (qa encI) slices)::(kAB (slices.length:Int) (w64 (f+1)))),[]),Nat.lt_succ_self _,(Sub.refl _),_,_,rfl,g4⟩
   refine Goes.exit ?_
   obtain rfl:=si g4
   exact⟨rfl,_,rfl,(Sub.keep [0,3] rfl rfl)⟩
 rintro x s' ⟨rfl,v,rfl,hsub⟩
 refine Goes.sub hsub ?_
 obtain⟨g,q,h⟩:=bnd h
 refine sq (gq fol [1] [(0,vl (qa encI) slices),(6,hsl 0 1 g)] (kJ g) (ac (hs (.callH 102 [.nilslice,.i v] [] [] (hsl 0 1 g) (kJ g)) (yP [] [some 0] (qcg v q) .nil rfl rfl (.new rfl rfl (.same fa) rfl .nil) (rc (.same (qj.nilslice)) (rc (.same nI) rn)) (.hs rfl) rfl)) az) ?_)
 refine sq ?_
 refine sh fol [(6,hsl 0 1 g),(25,vl (qa encI) slices),(26,.i (slices.length:Int)),(27,.i 0)] ?_
 refine Goes.block ?_
 obtain⟨y,g15,h⟩:=bnd h
 refine Goes.imp (Q:=fun x s'=>(x= .exit 2/\ ∃e,e=y/\Sub s' (ofG 36 [(6,hsl 0 1 e)],(kJ e)))) ?_ ?_
 ·refine Uc (fun M s=> ∃(d:Option (List Int)) (b:Int),s=(ofG 36 [(6,hsl 0 1 d),(25,vl (qa encI) slices),(26,.i (slices.length:Int)),(27,.i b)],(kJ d))/\qp slices M d b=some y) ?_ (m:=N) ⟨_,_,rfl,g15⟩
  rintro M s ⟨d,b,rfl,g15⟩
  cases M with
  |zero=>simp only[qp]at g15;cases g15
  |succ M=>
   rw[qp]at g15
   refine sh fol [(6,hsl 0 1 d),(25,vl (qa encI) slices),(26,.i (slices.length:Int)),(27,.i b),(28,.bool (decide (b<(slices.length:Int))))] ?_
   refine sq ?_
   refine ihD g15 (fun A g15=>?_) (fun A g15=>?_)
   ·refine Goes.skip ?_
    refine sq (Goes.block ?_)
    obtain⟨r,j,g15⟩:=bnd g15
    refine sq (gr fol [0,1] [(6,hsl 0 1 d),(8,vl encI r),(25,vl (qa encI) slices),(26,.i (slices.length:Int)),(27,.i b)] (ac (iv qb6 (qa encI) j) (ac (lv 0 qed (qa encI) j rfl) az)) ?_)
    obtain⟨k,a,g15⟩:=bnd g15
    refine Goes.cutS (s':=(ofG 36 [(6,hsl 0 1 k),(25,vl (qa encI) slices),(26,.i (slices.length:Int)),(27,.i b)],(kJ k))) ?_ ?_
    ·rcases d with _|t
     ·try dsimp only at a
      rcases r with _|⟨G,xs20⟩
      ·try dsimp only at a
       obtain rfl:=si a
       exact zx.sub (zx.rq fol [2] [(6,.nilslice),(25,vl (qa encI) slices),(26,.i (slices.length:Int)),(27,.i b)] [.cells ((hof (none:Option (List Int))).flatMap encI.c)] (ac (hs (.run [] (zq ZT [22,22] .nilslice (vl encI ([]:List Int))) [.cells ((hof (none:Option (List Int))).flatMap encI.c)] .nilslice [.cells ((hof (none:Option (List Int))).flatMap encI.c)] false) (qnS jF)) az)) (Sub.norm [] [none] rfl rfl (.keep zh.hs0 (.keep (.same (qf (qa encI) _)) (.keep (.same nI) (.keep (.same nI) .nil)))) (.fresh .nil))
      try dsimp only at a
      cases a
     try dsimp only at a
     obtain⟨n,u,a⟩:=bnd a
     obtain rfl:=si a
     exact zx.sub (zx.rq fol [2] [(6,.oslice 1 n.length 1),(25,vl (qa encI) slices),(26,.i (slices.length:Int)),(27,.i b)] (.dead::(kA n)) (ac (hs (.run [0] (zq ZT [22,22] (.oslice 0 t.length 1) (vl encI r)) (kA t) (.oslice 1 n.length 1) (.dead::(kA n)) true) (yU jF (E:=encI) rfl (qhX (E:=encI) rfl _) (qki (E:=encI) (l:=t) rfl rfl rfl u rfl))) az)) (Sub.norm [] [some 1] rfl rfl (.keep (zh.hs1 rfl) (.keep (.same (qf (qa encI) _)) (.keep (.same nI) (.keep (.same nI) .nil)))) (.ks .nil))
    intro _ hsub
    refine Goes.sub hsub ?_
    refine gh fol [(6,hsl 0 1 k),(25,vl (qa encI) slices),(26,.i (slices.length:Int)),(27,.i (w64 (b+1)))] ?_
    exact⟨M,(ofG 36 [(6,hsl 0 1 k),(25,vl (qa encI) slices),(26,.i (slices.length:Int)),(27,.i (w64 (b+1)))],(kJ k)),Nat.lt_succ_self _,(Sub.refl _),_,_,rfl,g15⟩
   refine Goes.exit ?_
   obtain rfl:=si g15
   exact⟨rfl,_,rfl,(Sub.keep [6] rfl rfl)⟩
 rintro x s' ⟨rfl,e,rfl,hsub⟩
 refine Goes.sub hsub ?_
 refine sh fol [(2,hsl 0 1 e)] ?_
 refine Goes.ret ?_
 obtain rfl:=si h
 exact(gw2 [hsl 0 1 e] (FzW.hs (E:=encI) rfl rfl (nl rfl)))
def xy (N:Nat) (n:Int) (a:List Int) (b:List Int):Option ((List Int)×Int):=
 (jT N n a b).bind fun c=>
 if(!decide (c=0))=true then
 some ([],c)
 else
 (vQ N ([a,b]:List (List Int))).bind fun e=>
 (vX e).bind fun d=>
 some (d.1,d.2)
theorem qeB (N:Nat) (n:Int) (a:List Int) (b:List Int) {res:(List Int)×Int} (h:xy N n a b=some res):qb ZT (.fn 18) (.i n::(kAH a b)) [] (.tuple (kAR res.1 res.2)) []:=by
 unfold xy at h
 refine Ub Tryz.func18 rfl rfl (m:=23) rfl (rs:=[.tmp 6,.tmp 7]) rfl (l:=(kB n a (kAT b []))) rfl ?_
 refine sh fol (kB n a (kAT b [])) ?_
 refine sq ?_
 obtain⟨d,e,h⟩:=bnd h
 refine sq (gr fol [3] (kL a (kAT b [(8,.i d)])) (ac (cv (qaY N n a b e)) az) ?_)
 refine sh fol (kL a (kAT b [(8,.i d),(14,.bool (!decide (d=0)))])) ?_
 refine ihB h (fun k h=>?_) (fun k h=>?_)
 ·refine sh fol ((6,.nilslice)::(kAW d)) ?_
  refine Goes.ret ?_
  obtain rfl:=si h
  exact(gw2 [.nilslice,.i d] (FzW.tuple (zm.cons (FzW.nilv (E:=encI)) (zm.cons (Ua tI) zm.nil))))
 refine Goes.skip ?_
 obtain⟨j,f,h⟩:=bnd h
 obtain⟨c,g,h⟩:=bnd h
 refine sq (gq fol [3,4] ((6,vl encI c.1)::(kAW c.2)) [.frozen [vl encI a,vl encI b]] (ac (hs (.callF 50 [.slice 0 0 2 2 1] [.cells [vl encI a,vl encI b]] [0] [vl (qa encI) ([a,b]:List (List Int))] (vl encI j)) (qja (FzL.cons (Fz.lit rfl rfl (Um (AllST.cons (zw encI _ (nl rfl)) (AllST.cons (zw encI _ (nl rfl)) AllST.nil)))) FzL.nil) (qcw N ([a,b]:List (List Int)) f) (zw encI _ (nl rfl)))) (ac (cv (qbw j g)) az)) ?_)
 refine Goes.sub (show Sub (ofG 23 ((6,vl encI c.1)::(kAW c.2)),[.frozen [vl encI a,vl encI b]]) (ofG 23 ((6,vl encI c.1)::(kAW c.2)),[])from(Sub.norm [] [] rfl rfl (.keep (.same (qf encI _)) (.keep (.same nI) .nil)) .nil)) ?_
 refine Goes.ret ?_
 obtain rfl:=si h
 exact(gw2 (kAR c.1 c.2) (FzW.tuple (zm.cons (Ua (zw encI _ (nl rfl))) (zm.cons (Ua tI) zm.nil))))
end Go.Av
