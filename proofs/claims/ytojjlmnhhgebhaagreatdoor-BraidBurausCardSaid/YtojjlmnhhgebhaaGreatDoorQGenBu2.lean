/-
  Walks of functions: what each computes, as a plain function.
-/
import Derived.Test.YtojjlmnhhgebhaaGreatDoorQGenBu1
open Go.IntKind(wrap)
noncomputable section
namespace Go.Av
open Go.Proofs Go.RowKit
set_option linter.unusedSectionVars false
set_option linter.unusedVariables false
set_option linter.unusedSimpArgs false
set_option maxRecDepth 100000
def zV (c:List Int) (d:List Int):Nat->(List Int)->Int->Int->Option ((List Int)×Int)
 |0,_,_,_=>none
 |K+1,e,a,j=>
  if a<(c.length:Int)then
  ((if a<(d.length:Int)then
  (idx d a).bind fun f=>
  some f
  else
  some 0:Option Int)).bind fun g=>
  (idx c a).bind fun h=>
  (xZ h g j).bind fun b=>
  (idx e a).bind fun k=>
  (put e a b.1).bind fun i=>
  zV c d K i (w64 (a+1)) b.2
  else
  some (e,j)
def qaA (N:Nat) (b:List Int) (y:List Int):Option (List Int):=
 ((if(b.length:Int)<(y.length:Int)then
 some (y,b)
 else
 some (b,y):Option ((List Int)×(List Int)))).bind fun(a,g)=>
 (mk 8 (w64 ((a.length:Int)+1)) 0).bind fun h=>
 (zV a g N h 0 0).bind fun(f,c)=>
 (idx f (a.length:Int)).bind fun i=>
 (put f (a.length:Int) c).bind fun d=>
 (y9 N d).bind fun e=>
 some e
theorem qgT (N:Nat) (B:List Int) (y:List Int) {res:List Int} (h:qaA N B y=some res):qc ZT (.fn 217) [vl ZU B,vl ZU y] [] (vl ZU res) []:=by
 unfold qaA at h;refine Ub Tryz.func217 rfl rfl (m:=54) rfl (rs:=[.tmp 4]) rfl (l:=[(0,vl ZU B),(1,vl ZU y)]) rfl ?_;refine sh fol [(0,vl ZU B),(1,vl ZU y)] ?_;refine sq ?_;refine sh fol ((0,vl ZU B)::(1,vl ZU y)::(kBC (decide ((B.length:Int)<(y.length:Int))))) ?_;obtain⟨P,g3,h⟩:=bnd h;refine Goes.imp (Q:=fun x s'=>(x= .normal/\ ∃a e,(a,e)=P/\Sub s' (ofG 54 [(0,vl ZU a),(1,vl ZU e)],[]))) ?_ ?_
 ·refine ihD g3 (fun U g3=>?_) (fun U g3=>?_)
  ·refine gh fol [(0,vl ZU y),(1,vl ZU B)] ?_;obtain rfl:=si g3;exact⟨rfl,_,_,rfl,(Sub.refl _)⟩
  refine Goes.skip ?_;obtain rfl:=si g3;exact⟨rfl,_,_,rfl,(Sub.keep [0,1] rfl rfl)⟩
 rintro x s' ⟨rfl,a,e,rfl,hsub⟩
 try dsimp only at h
 refine Goes.sub hsub ?_;obtain⟨C,G,h⟩:=bnd h;refine sq (gq fol [3] ((0,vl ZU a)::(1,vl ZU e)::(kD C [])) [.cells (C.flatMap ZU.c)] (ac (hs (.run [] (zC ZT 77 (.i (w64 ((a.length:Int)+1))) (.i (w64 ((a.length:Int)+1)))) [] (.slice 0 0 C.length C.length 1) [.cells (C.flatMap ZU.c)] false) (qb0 zM (E:=ZU) (z:=0) rfl (by kernel_rfl) G rfl)) az) ?_);refine sh fol ((0,vl ZU a)::(1,vl ZU e)::(kD C [(6,.int .u64 0)])) ?_;refine sq ?_;refine sh fol ((0,vl ZU a)::(1,vl ZU e)::(kD C [(6,.int .u64 0),(21,.i (a.length:Int)),(22,.i 0)])) ?_;refine Goes.block ?_;obtain⟨H,g11,h⟩:=bnd h;refine Goes.imp (Q:=fun x s'=>(x= .exit 0/\ ∃v k,(v,k)=H/\Sub s' (ofG 54 ((0,vl ZU a)::(kD v (kAJ k []))),[.cells (v.flatMap ZU.c)]))) ?_ ?_
 ·refine Ud (fun M s=> ∃(f:List Int) (d:Int) (w:Int),s=(ofG 54 ((0,vl ZU a)::(1,vl ZU e)::(kD f (kAJ w (kAD (a.length:Int) d [])))),[.cells (f.flatMap ZU.c)])/\zV a e M f d w=some H) ?_ (m:=N) ⟨_,_,_,rfl,g11⟩;rintro M s ⟨f,d,w,rfl,g11⟩
  cases M with
  |zero=>simp only[zV]at g11;cases g11
  |succ M=>
   rw[zV]at g11;refine sh fol ((0,vl ZU a)::(1,vl ZU e)::(kD f (kAJ w (kAD (a.length:Int) d [(23,.bool (decide (d<(a.length:Int))))])))) ?_;refine sq ?_;refine ihD g11 (fun I g11=>?_) (fun I g11=>?_)
   ·refine Goes.skip ?_;refine sq (Goes.block ?_);refine sh fol ((0,vl ZU a)::(1,vl ZU e)::(kD f (kAJ w ((7,.i d)::(kAD (a.length:Int) d []))))) ?_;refine sh fol ((0,vl ZU a)::(1,vl ZU e)::(kD f (kAJ w ((7,.i d)::(kBP (kAD (a.length:Int) d [])))))) ?_;refine sq ?_;refine sh fol ((0,vl ZU a)::(1,vl ZU e)::(kD f (kAJ w ((7,.i d)::(kBP (kAD (a.length:Int) d [(28,.bool (decide (d<(e.length:Int))))])))))) ?_;obtain⟨J,g14,g11⟩:=bnd g11;refine Goes.imp (Q:=fun x s'=>(x= .normal/\ ∃A,A=J/\Sub s' (ofG 54 ((0,vl ZU a)::(1,vl ZU e)::(kD f (kAJ w ((7,.i d)::(8,.int .u64 A)::(kAD (a.length:Int) d []))))),[.cells (f.flatMap ZU.c)]))) ?_ ?_
    ·refine ihD g14 (fun K g14=>?_) (fun K g14=>?_)
     ·obtain⟨L,n,g14⟩:=bnd g14;refine gr fol [2,3] ((0,vl ZU a)::(1,vl ZU e)::(kD f (kAJ w ((7,.i d)::(8,.int .u64 L)::(kAD (a.length:Int) d []))))) (ac (iv zM ZU n) (ac (lv 0 zS ZU n rfl) az)) ?_;obtain rfl:=si g14;exact⟨rfl,_,rfl,(Sub.refl _)⟩
     refine Goes.skip ?_;obtain rfl:=si g14;exact⟨rfl,_,rfl,(Sub.keep [0,1,5,6,7,8,21,22] rfl rfl)⟩
    rintro x s' ⟨rfl,A,rfl,hsub⟩;refine Goes.sub hsub ?_;obtain⟨O,o,g11⟩:=bnd g11;obtain⟨j,D,g11⟩:=bnd g11;obtain⟨V,p,g11⟩:=bnd g11;obtain⟨g,q,g11⟩:=bnd g11;refine gq fol [4,5,8,12,13] ((0,vl ZU a)::(1,vl ZU e)::(kD f (kAJ j.2 (kAD (a.length:Int) d [])))) [.cells (g.flatMap ZU.c)] (ac (iv zM ZU o) (ac (lv 0 zS ZU o rfl) (ac (cv (qcx O A w D)) (ac (hs (.done (.opt (qd ZT 77 (.slice 0 0 f.length f.length 1) (.i d))) (.ptr 0 ((d:Int).toNat*1+0))) (xx zM p)) (ac (hs (.run [0] (qp ZT 214 (.ptr 0 ((d:Int).toNat*1+0)) (.int .u64 j.1)) [.cells (f.flatMap ZU.c)] .undef [.cells (g.flatMap ZU.c)] true) (vT (E:=ZU) (l:=f) (y:=j.1) rfl (show _=some 1 by kernel_rfl) rfl p rfl rfl rfl rfl rfl q rfl)) az))))) ?_;refine Goes.sub (show Sub (ofG 54 ((0,vl ZU a)::(1,vl ZU e)::(kD f (kAJ j.2 (kAD (a.length:Int) d [])))),[.cells (g.flatMap ZU.c)]) (ofG 54 ((0,vl ZU a)::(1,vl ZU e)::(kD g (kAJ j.2 (kAD (a.length:Int) d [])))),[.cells (g.flatMap ZU.c)])from(Uc [] [some 0] rfl rfl (.keep (.same (qg ZU _)) (.keep (.same (qg ZU _)) (.keep (.sliceE rfl (zn q)) (.keep (.same nI) (.keep (.same nI) (.keep (.same nI) .nil)))))) (.ks .nil))) ?_;refine gh fol ((0,vl ZU a)::(1,vl ZU e)::(kD g (kAJ j.2 (kAD (a.length:Int) (w64 (d+1)) [])))) ?_;exact⟨M,(ofG 54 ((0,vl ZU a)::(1,vl ZU e)::(kD g (kAJ j.2 (kAD (a.length:Int) (w64 (d+1)) [])))),[.cells (g.flatMap ZU.c)]),Nat.lt_succ_self _,(Sub.refl _),_,_,_,rfl,g11⟩
   refine Goes.exit ?_;obtain rfl:=si g11;exact⟨rfl,_,_,rfl,(Sub.keep [0,5,6] rfl rfl)⟩
 rintro x s' ⟨rfl,v,k,rfl,hsub⟩
 try dsimp only at h
 refine Goes.sub hsub ?_;obtain⟨X,r,h⟩:=bnd h;obtain⟨b,t,h⟩:=bnd h;refine sq (gq fol [4,5] (kD v []) [.cells (b.flatMap ZU.c)] (ac (hs (.done (.opt (qd ZT 77 (.slice 0 0 v.length v.length 1) (.i (a.length:Int)))) (.ptr 0 (((a.length:Int):Int).toNat*1+0))) (xx zM r)) (ac (hs (.run [0] (qp ZT 214 (.ptr 0 (((a.length:Int):Int).toNat*1+0)) (.int .u64 k)) [.cells (v.flatMap ZU.c)] .undef [.cells (b.flatMap ZU.c)] true) (vT (E:=ZU) (l:=v) (y:=k) rfl (show _=some 1 by kernel_rfl) rfl r rfl rfl rfl rfl rfl t rfl)) az)) ?_);refine Goes.sub (show Sub (ofG 54 (kD v []),[.cells (b.flatMap ZU.c)]) (ofG 54 (kD b []),[.cells (b.flatMap ZU.c)])from(Uc [] [some 0] rfl rfl (.keep (.sliceE rfl (zn t)) .nil) (.ks .nil))) ?_;obtain⟨u,F,h⟩:=bnd h;refine sq (gq fol [1] [(4,vl ZU u)] [.frozen (b.flatMap ZU.c)] (ac (hs (.callF 252 [.slice 0 0 b.length b.length 1] [.cells (b.flatMap ZU.c)] [0] [vl ZU b] (vl ZU u)) (qaZ (FzL.cons (Fz.sl (E:=ZU) rfl rfl (nl rfl)) FzL.nil) (xz N b F) (qw ZU _ (nl rfl)))) az) ?_);refine Goes.sub (show Sub (ofG 54 [(4,vl ZU u)],[.frozen (b.flatMap ZU.c)]) (ofG 54 [(4,vl ZU u)],[])from(Uc [] [] rfl rfl (.keep (.same (qg ZU _)) .nil) .nil)) ?_;refine Goes.ret ?_;obtain rfl:=si h;exact(gw2 [vl ZU u] (Ua (qw ZU _ (nl rfl))))
def zl (a:List Int) (b:List Int):Nat->Int->Option (Unit⊕Int)
 |0,_=>none
 |K+1,c=>
  if c>=0 then
  (idx a c).bind fun d=>
  (idx b c).bind fun e=>
  if(!decide (d=e))=true then
  if d<e then
  some (.inr (-1))
  else
  some (.inr 1)
  else
  zl a b K (w64 (c-1))
  else
  some (.inl ())
def jK (N:Nat) (a:List Int) (b:List Int):Option Int:=
 if(!decide ((a.length:Int)=(b.length:Int)))=true then
 if(a.length:Int)<(b.length:Int)then
 some (-1)
 else
 some 1
 else
 (zl a b N (w64 ((a.length:Int)-1))).bind (fun
 |(.inl ())=>
 some 0
 |(.inr c)=>
 some c)
theorem qb1 (N:Nat) (a:List Int) (b:List Int) {res:Int} (h:jK N a b=some res):qc ZT (.fn 218) [vl ZU a,vl ZU b] [] (.i res) []:=by
 unfold jK at h;refine Ub Tryz.func218 rfl rfl (m:=41) rfl (rs:=[.tmp 4]) rfl (l:=[(0,vl ZU a),(1,vl ZU b)]) rfl ?_;refine sh fol [(0,vl ZU a),(1,vl ZU b)] ?_;refine sq ?_;refine sh fol ((0,vl ZU a)::(1,vl ZU b)::(kA9 (!decide ((a.length:Int)=(b.length:Int))))) ?_;refine ihB h (fun o h=>?_) (fun o h=>?_)
 ·refine sq ?_;refine sh fol [(15,.bool (decide ((a.length:Int)<(b.length:Int))))] ?_;refine ihD h (fun p h=>?_) (fun p h=>?_)
  ·refine sh fol kBF ?_;refine Goes.ret ?_;obtain rfl:=si h;exact(gw2 [.i (-1)] (Ua tI))
  refine Goes.skip ?_;refine sh fol [(4,.i 1)] ?_;refine Goes.ret ?_;obtain rfl:=si h;exact(gw2 [.i 1] (Ua tI))
 refine Goes.skip ?_;refine sq ?_;refine sh fol ((0,vl ZU a)::(1,vl ZU b)::(kAt (w64 ((a.length:Int)-1)))) ?_;refine Goes.block ?_;obtain⟨f,g4,h⟩:=bnd h;refine Goes.imp (Q:=fun x s'=>(x= .exit 0/\(.inl ())=f/\Sub s' (ofG 41 [],[]))\/(x= .ret/\ ∃j,(.inr j)=f/\zJ ZT [.tmp 4] (.i j) .ret s')) ?_ ?_
 ·refine Ud (fun M s=> ∃(e:Int),s=(ofG 41 ((0,vl ZU a)::(1,vl ZU b)::(kAt e)),[])/\zl a b M e=some f) ?_ (m:=N) ⟨_,rfl,g4⟩;rintro M s ⟨e,rfl,g4⟩
  cases M with
  |zero=>simp only[zl]at g4;cases g4
  |succ M=>
   rw[zl]at g4;refine sq ?_;refine sh fol [(0,vl ZU a),(1,vl ZU b),(5,.i e),(20,.bool (decide (e>=0)))] ?_;refine ihD g4 (fun q g4=>?_) (fun q g4=>?_)
   ·refine Goes.skip ?_;refine sq (Goes.block ?_);obtain⟨k,c,g4⟩:=bnd g4;obtain⟨n,d,g4⟩:=bnd g4;refine sq (gr fol [2,3,6,7] [(0,vl ZU a),(1,vl ZU b),(5,.i e),(31,.bool (!decide (k=n)))] (ac (iv zM ZU c) (ac (lv 0 zS ZU c rfl) (ac (iv zM ZU d) (ac (lv 0 zS ZU d rfl) az)))) ?_);refine ihB g4 (fun r g4=>?_) (fun r g4=>?_)
    ·refine sq ?_;refine sq (gr fol [2,3,6,7] [(40,.bool (decide (k<n)))] (ac (iv zM ZU c) (ac (lv 0 zS ZU c rfl) (ac (iv zM ZU d) (ac (lv 0 zS ZU d rfl) az)))) ?_);refine ihD g4 (fun g g4=>?_) (fun g g4=>?_)
     ·refine sh fol kBF ?_;refine Goes.ret ?_;obtain rfl:=si g4;exact Or.inr (⟨rfl,_,rfl,(gw2 [.i (-1)] (Ua tI))⟩)
     refine Goes.skip ?_;refine sh fol [(4,.i 1)] ?_;refine Goes.ret ?_;obtain rfl:=si g4;exact Or.inr (⟨rfl,_,rfl,(gw2 [.i 1] (Ua tI))⟩)
    refine Goes.skip ?_;refine gh fol ((0,vl ZU a)::(1,vl ZU b)::(kAt (w64 (e-1)))) ?_;exact⟨M,(ofG 41 ((0,vl ZU a)::(1,vl ZU b)::(kAt (w64 (e-1)))),[]),Nat.lt_succ_self _,(Sub.refl _),_,rfl,g4⟩
   refine Goes.exit ?_;obtain rfl:=si g4;exact Or.inl (⟨rfl,rfl,(Sub.keep [] rfl rfl)⟩)
 rintro x s' (⟨rfl,rfl,hsub⟩|⟨rfl,t,rfl,hret⟩)
 ·try dsimp only at h
  refine Goes.sub hsub ?_;refine sh fol [(4,.i 0)] ?_;refine Goes.ret ?_;obtain rfl:=si h;exact(gw2 [.i 0] (Ua tI))
 try dsimp only at h
 obtain rfl:=si h;exact hret
def jG (c:List Int) (y:List Int):Nat->(List Int)->Int->Int->Option (List Int)
 |0,_,_,_=>none
 |K+1,d,a,h=>
  if a<(c.length:Int)then
  ((if a<(y.length:Int)then
  (idx y a).bind fun e=>
  some e
  else
  some 0:Option Int)).bind fun i=>
  (idx c a).bind fun f=>
  (qeJ f i h).bind fun b=>
  (idx d a).bind fun j=>
  (put d a b.1).bind fun g=>
  jG c y K g (w64 (a+1)) b.2
  else
  some d
def yI (N:Nat) (b:List Int) (y:List Int):Option (List Int):=
 (mk 8 (b.length:Int) 0).bind fun c=>
 (jG b y N c 0 0).bind fun d=>
 (y9 N d).bind fun a=>
 some a
theorem qd1 (N:Nat) (a:List Int) (y:List Int) {res:List Int} (h:yI N a y=some res):qc ZT (.fn 219) [vl ZU a,vl ZU y] [] (vl ZU res) []:=by
 unfold yI at h;refine Ub Tryz.func219 rfl rfl (m:=41) rfl (rs:=[.tmp 4]) rfl (l:=[(0,vl ZU a),(1,vl ZU y)]) rfl ?_;refine sh fol [(0,vl ZU a),(1,vl ZU y)] ?_;obtain⟨r,v,h⟩:=bnd h;refine sq (gq fol [2] ((0,vl ZU a)::(1,vl ZU y)::(kD r [])) [.cells (r.flatMap ZU.c)] (ac (hs (.run [] (zC ZT 77 (.i (a.length:Int)) (.i (a.length:Int))) [] (.slice 0 0 r.length r.length 1) [.cells (r.flatMap ZU.c)] false) (qb0 zM (E:=ZU) (z:=0) rfl (by kernel_rfl) v rfl)) az) ?_);refine sh fol ((0,vl ZU a)::(1,vl ZU y)::(kD r [(6,.int .u64 0)])) ?_;refine sq ?_;refine sh fol ((0,vl ZU a)::(1,vl ZU y)::(kD r [(6,.int .u64 0),(13,.i (a.length:Int)),(14,.i 0)])) ?_;refine Goes.block ?_;obtain⟨D,g6,h⟩:=bnd h;refine Goes.imp (Q:=fun x s'=>(x= .exit 0/\ ∃g,g=D/\Sub s' (ofG 41 (kD g []),[.cells (g.flatMap ZU.c)]))) ?_ ?_
 ·refine Ud (fun M s=> ∃(d:List Int) (b:Int) (q:Int),s=(ofG 41 ((0,vl ZU a)::(1,vl ZU y)::(kD d (kAJ q (kAN (a.length:Int) b)))),[.cells (d.flatMap ZU.c)])/\jG a y M d b q=some D) ?_ (m:=N) ⟨_,_,_,rfl,g6⟩;rintro M s ⟨d,b,q,rfl,g6⟩
  cases M with
  |zero=>simp only[jG]at g6;cases g6
  |succ M=>
   rw[jG]at g6;refine sh fol ((0,vl ZU a)::(1,vl ZU y)::(kD d (kAJ q [(13,.i (a.length:Int)),(14,.i b),(15,.bool (decide (b<(a.length:Int))))]))) ?_;refine sq ?_;refine ihD g6 (fun F g6=>?_) (fun F g6=>?_)
   ·refine Goes.skip ?_;refine sq (Goes.block ?_);refine sh fol ((0,vl ZU a)::(1,vl ZU y)::(kD d (kAJ q ((7,.i b)::(kAN (a.length:Int) b))))) ?_;refine sh fol ((0,vl ZU a)::(1,vl ZU y)::(kD d (kAJ q ((7,.i b)::(kBP (kAN (a.length:Int) b)))))) ?_;refine sq ?_;refine sh fol ((0,vl ZU a)::(1,vl ZU y)::(kD d (kAJ q ((7,.i b)::(kBP [(13,.i (a.length:Int)),(14,.i b),(20,.bool (decide (b<(y.length:Int))))]))))) ?_;obtain⟨G,g9,g6⟩:=bnd g6;refine Goes.imp (Q:=fun x s'=>(x= .normal/\ ∃w,w=G/\Sub s' (ofG 41 ((0,vl ZU a)::(1,vl ZU y)::(kD d (kAJ q ((7,.i b)::(8,.int .u64 w)::(kAN (a.length:Int) b))))),[.cells (d.flatMap ZU.c)]))) ?_ ?_
    ·refine ihD g9 (fun A g9=>?_) (fun A g9=>?_)
     ·obtain⟨B,j,g9⟩:=bnd g9;refine gr fol [2,3] ((0,vl ZU a)::(1,vl ZU y)::(kD d (kAJ q ((7,.i b)::(8,.int .u64 B)::(kAN (a.length:Int) b))))) (ac (iv zM ZU j) (ac (lv 0 zS ZU j rfl) az)) ?_;obtain rfl:=si g9;exact⟨rfl,_,rfl,(Sub.refl _)⟩
     refine Goes.skip ?_;obtain rfl:=si g9;exact⟨rfl,_,rfl,(Sub.keep [0,1,5,6,7,8,13,14] rfl rfl)⟩
    rintro x s' ⟨rfl,w,rfl,hsub⟩;refine Goes.sub hsub ?_;obtain⟨C,k,g6⟩:=bnd g6;obtain⟨f,t,g6⟩:=bnd g6;obtain⟨H,n,g6⟩:=bnd g6;obtain⟨e,o,g6⟩:=bnd g6;refine gq fol [4,5,8,12,13] ((0,vl ZU a)::(1,vl ZU y)::(kD d (kAJ f.2 (kAN (a.length:Int) b)))) [.cells (e.flatMap ZU.c)] (ac (iv zM ZU k) (ac (lv 0 zS ZU k rfl) (ac (cv (qhL C w q t)) (ac (hs (.done (.opt (qd ZT 77 (.slice 0 0 d.length d.length 1) (.i b))) (.ptr 0 ((b:Int).toNat*1+0))) (xx zM n)) (ac (hs (.run [0] (qp ZT 214 (.ptr 0 ((b:Int).toNat*1+0)) (.int .u64 f.1)) [.cells (d.flatMap ZU.c)] .undef [.cells (e.flatMap ZU.c)] true) (vT (E:=ZU) (l:=d) (y:=f.1) rfl (show _=some 1 by kernel_rfl) rfl n rfl rfl rfl rfl rfl o rfl)) az))))) ?_;refine Goes.sub (show Sub (ofG 41 ((0,vl ZU a)::(1,vl ZU y)::(kD d (kAJ f.2 (kAN (a.length:Int) b)))),[.cells (e.flatMap ZU.c)]) (ofG 41 ((0,vl ZU a)::(1,vl ZU y)::(kD e (kAJ f.2 (kAN (a.length:Int) b)))),[.cells (e.flatMap ZU.c)])from(Uc [] [some 0] rfl rfl (.keep (.same (qg ZU _)) (.keep (.same (qg ZU _)) (.keep (.sliceE rfl (zn o)) (.keep (.same nI) (.keep (.same nI) (.keep (.same nI) .nil)))))) (.ks .nil))) ?_;refine gh fol ((0,vl ZU a)::(1,vl ZU y)::(kD e (kAJ f.2 (kAN (a.length:Int) (w64 (b+1)))))) ?_;exact⟨M,(ofG 41 ((0,vl ZU a)::(1,vl ZU y)::(kD e (kAJ f.2 (kAN (a.length:Int) (w64 (b+1)))))),[.cells (e.flatMap ZU.c)]),Nat.lt_succ_self _,(Sub.refl _),_,_,_,rfl,g6⟩
   refine Goes.exit ?_;obtain rfl:=si g6;exact⟨rfl,_,rfl,(Sub.keep [5] rfl rfl)⟩
 rintro x s' ⟨rfl,g,rfl,hsub⟩;refine Goes.sub hsub ?_;obtain⟨p,u,h⟩:=bnd h;refine sq (gq fol [1] [(4,vl ZU p)] [.frozen (g.flatMap ZU.c)] (ac (hs (.callF 252 [.slice 0 0 g.length g.length 1] [.cells (g.flatMap ZU.c)] [0] [vl ZU g] (vl ZU p)) (qaZ (FzL.cons (Fz.sl (E:=ZU) rfl rfl (nl rfl)) FzL.nil) (xz N g u) (qw ZU _ (nl rfl)))) az) ?_);refine Goes.sub (show Sub (ofG 41 [(4,vl ZU p)],[.frozen (g.flatMap ZU.c)]) (ofG 41 [(4,vl ZU p)],[])from(Uc [] [] rfl rfl (.keep (.same (qg ZU _)) .nil) .nil)) ?_;refine Goes.ret ?_;obtain rfl:=si h;exact(gw2 [vl ZU p] (Ua (qw ZU _ (nl rfl))))
def vH (N:Nat) (a:qo) (b:qo):Option qo:=
 (if a.w.isEmpty=true then
 some b.w.isEmpty
 else
 some false:Option Bool).bind fun m=>
 ((if m=true then
 if((decide ((w64 (a.s+b.s))>a.s))==(decide (b.s>0)))=true then
 some (.inr (⟨w64 (a.s+b.s),[]⟩:qo))
 else
 some (.inl ())
 else
 some (.inl ()):Option (Unit⊕qo))).bind (fun
 |(.inl ())=>
 (qG a).bind fun c=>
 (qG b).bind fun d=>
 if(c.1==d.1)=true then
 (qaA N c.2 d.2).bind fun e=>
 (jX c.1 e).bind fun f=>
 some f
 else
 (jK N c.2 d.2).bind fun g=>
 if g>=0 then
 (yI N c.2 d.2).bind fun h=>
 (jX c.1 h).bind fun i=>
 some i
 else
 (yI N d.2 c.2).bind fun j=>
 (jX d.1 j).bind fun k=>
 some k
 |(.inr l)=>
 some l)
theorem qac (N:Nat) (a:qo) (b:qo) {res:qo} (h:vH N a b=some res):qc ZT (.fn 173) [.agg (nz1 a),.agg (nz1 b)] [] (.agg (nz1 res)) []:=by
 unfold vH at h;refine Ub Tryz.func173 rfl rfl (m:=67) rfl (rs:=[.cell 4 79]) rfl (l:=[(0,.agg (nz1 a)),(1,.agg (nz1 b))]) rfl ?_;refine sg fol (kG []) [.cells (nz1 a),.cells (nz1 b),bZ] ?_;refine sq ?_;refine sq ?_;obtain⟨J,c,h⟩:=bnd h;refine Ue (s':=(ofG 67 (kG [(17,.bool J)]),[.cells (nz1 a),.cells (nz1 b),bZ])) ?_ ?_
 ·rcases wyB c with⟨z,c⟩|⟨z,c⟩
  ·obtain rfl:=si c;exact tr fol [2,3,6] (kG [(17,.bool b.w.isEmpty)]) (ac (hs (.done (.opt (ku ZT .eql 77 (.tmp 11) (.const (.slice none 0 0)) (nvl ZU a.w) .nilslice)) (.bool a.w.isEmpty)) (qaG qaC)) (ac (gw z) (ac (hs (.done (.opt (ku ZT .eql 77 (.tmp 15) (.const (.slice none 0 0)) (nvl ZU b.w) .nilslice)) (.bool b.w.isEmpty)) (qaG qaC)) az)))
  obtain rfl:=si c;exact tr fol [2,3] (kG [(17,.bool false)]) (ac (hs (.done (.opt (ku ZT .eql 77 (.tmp 11) (.const (.slice none 0 0)) (nvl ZU a.w) .nilslice)) (.bool a.w.isEmpty)) (qaG qaC)) (ac (gw z) az))
 obtain⟨H,g4,h⟩:=bnd h;refine Goes.imp (Q:=fun x s'=>(x= .normal/\(.inl ())=H/\Sub s' (ofG 67 (kG []),[.cells (nz1 a),.cells (nz1 b),bZ]))\/(x= .ret/\ ∃I,(.inr I)=H/\zJ ZT [.cell 4 79] (.agg (nz1 I)) .ret s')) ?_ ?_
 ·refine ihB g4 (fun K g4=>?_) (fun K g4=>?_)
  ·refine sh fol (kG (kAt (w64 (a.s+b.s)))) ?_;refine sh fol (kG [(5,.i (w64 (a.s+b.s))),(30,.bool ((decide ((w64 (a.s+b.s))>a.s))==(decide (b.s>0))))]) ?_;refine ihB g4 (fun L g4=>?_) (fun L g4=>?_)
   ·refine sg fol kAc (.cells (nz1 a):: .cells (nz1 b)::(kAz (w64 (a.s+b.s)))) ?_;refine Goes.ret ?_;obtain rfl:=si g4;exact Or.inr (⟨rfl,_,rfl,(gw2 [.agg [.i (w64 (a.s+b.s)),.nilslice]] (FzW.agg (qf.cons (Ua tI) (qf.cons (Us (E:=ZU)) qf.nil))))⟩)
   refine Goes.skip ?_;obtain rfl:=si g4;exact Or.inl (⟨rfl,rfl,(Sub.keep [2,3,4] rfl rfl)⟩)
  refine Goes.skip ?_;obtain rfl:=si g4;exact Or.inl (⟨rfl,rfl,(Sub.keep [2,3,4] rfl rfl)⟩)
 rintro x s' (⟨rfl,rfl,hsub⟩|⟨rfl,M,rfl,hret⟩)
 ·try dsimp only at h
  refine Goes.sub hsub ?_;obtain⟨d,v,h⟩:=bnd h;refine sq (gr fol [1] (kA5 [(4,.ptr 2 0),(6,.bool d.1),(7,vl ZU d.2)]) (ac (cv (zH a v)) az) ?_);obtain⟨e,y,h⟩:=bnd h;refine sq (gr fol [1] [(4,.ptr 2 0),(6,.bool d.1),(7,vl ZU d.2),(8,.bool e.1),(9,vl ZU e.2)] (ac (cv (zH b y)) az) ?_);refine sq (Goes.block ?_);refine sh fol [(4,.ptr 2 0),(6,.bool d.1),(7,vl ZU d.2),(8,.bool e.1),(9,vl ZU e.2),(43,.bool (d.1==e.1))] ?_;refine ihB h (fun A h=>?_) (fun A h=>?_)
  ·obtain⟨B,k,h⟩:=bnd h;obtain⟨f,o,h⟩:=bnd h;refine sq (gq fol [3,4,5] kAc [.cells (nz1 a),.cells (nz1 b),.cells (nz1 f)] (ac (cv (qgT N d.2 e.2 k)) (ac (cv (qan d.1 B o)) (ac (hs (.run [2] (qp ZT 79 (.ptr 2 0) (.agg (nz1 f))) [.cells (nz1 a),.cells (nz1 b),bZ] .undef [.cells (nz1 a),.cells (nz1 b),.cells (nz1 f)] true) (kg (n:=2) (by kernel_rfl) rfl rfl rfl rfl (cac rfl (cac nvc can)) rfl)) az))) ?_);refine Goes.ret ?_;obtain rfl:=si h;exact(gw2 [.agg (nz1 f)] (FzW.agg (qf.cons (Ua tI) (qf.cons (Ua (qm ZU _ (nl rfl))) qf.nil))))
  obtain⟨C,p,h⟩:=bnd h;refine sq (gr fol [2] [(4,.ptr 2 0),(6,.bool d.1),(7,vl ZU d.2),(8,.bool e.1),(9,vl ZU e.2),(52,.bool (decide (C>=0)))] (ac (cv (qb1 N d.2 e.2 p)) az) ?_);refine ihD h (fun D h=>?_) (fun D h=>?_)
  ·obtain⟨F,q,h⟩:=bnd h;obtain⟨g,r,h⟩:=bnd h;refine sq (gq fol [3,4,5] kAc [.cells (nz1 a),.cells (nz1 b),.cells (nz1 g)] (ac (cv (qd1 N d.2 e.2 q)) (ac (cv (qan d.1 F r)) (ac (hs (.run [2] (qp ZT 79 (.ptr 2 0) (.agg (nz1 g))) [.cells (nz1 a),.cells (nz1 b),bZ] .undef [.cells (nz1 a),.cells (nz1 b),.cells (nz1 g)] true) (kg (n:=2) (by kernel_rfl) rfl rfl rfl rfl (cac rfl (cac nvc can)) rfl)) az))) ?_);refine Goes.ret ?_;obtain rfl:=si h;exact(gw2 [.agg (nz1 g)] (FzW.agg (qf.cons (Ua tI) (qf.cons (Ua (qm ZU _ (nl rfl))) qf.nil))))
  refine Goes.skip ?_;obtain⟨G,t,h⟩:=bnd h;obtain⟨j,u,h⟩:=bnd h;refine sq (gq fol [3,4,5] kAc [.cells (nz1 a),.cells (nz1 b),.cells (nz1 j)] (ac (cv (qd1 N e.2 d.2 t)) (ac (cv (qan e.1 G u)) (ac (hs (.run [2] (qp ZT 79 (.ptr 2 0) (.agg (nz1 j))) [.cells (nz1 a),.cells (nz1 b),bZ] .undef [.cells (nz1 a),.cells (nz1 b),.cells (nz1 j)] true) (kg (n:=2) (by kernel_rfl) rfl rfl rfl rfl (cac rfl (cac nvc can)) rfl)) az))) ?_);refine Goes.ret ?_;obtain rfl:=si h;exact(gw2 [.agg (nz1 j)] (FzW.agg (qf.cons (Ua tI) (qf.cons (Ua (qm ZU _ (nl rfl))) qf.nil))))
 try dsimp only at h
 obtain rfl:=si h;exact hret
def xq (N:Nat) (a:qo) (b:qo):Option qo:=
 (zx b).bind fun c=>
 (vH N a c).bind fun d=>
 some d
theorem qeB (N:Nat) (a:qo) (b:qo) {res:qo} (h:xq N a b=some res):qc ZT (.fn 175) [.agg (nz1 a),.agg (nz1 b)] [] (.agg (nz1 res)) []:=by
 unfold xq at h;refine Ub Tryz.func175 rfl rfl (m:=9) rfl (rs:=[.cell 4 79]) rfl (l:=[(0,.agg (nz1 a)),(1,.agg (nz1 b))]) rfl ?_;refine sg fol (kG []) [.cells (nz1 a),.cells (nz1 b),bZ] ?_;obtain⟨f,c,h⟩:=bnd h;obtain⟨e,d,h⟩:=bnd h;refine sq (gq fol [2,3,4] kAc [.cells (nz1 a),.cells (nz1 b),.cells (nz1 e)] (ac (cv (jZ b c)) (ac (cv (qac N a f d)) (ac (hs (.run [2] (qp ZT 79 (.ptr 2 0) (.agg (nz1 e))) [.cells (nz1 a),.cells (nz1 b),bZ] .undef [.cells (nz1 a),.cells (nz1 b),.cells (nz1 e)] true) (kg (n:=2) (by kernel_rfl) rfl rfl rfl rfl (cac rfl (cac nvc can)) rfl)) az))) ?_);refine Goes.ret ?_;obtain rfl:=si h;exact(gw2 [.agg (nz1 e)] (FzW.agg (qf.cons (Ua tI) (qf.cons (Ua (qm ZU _ (nl rfl))) qf.nil))))
def bits_Len64 (a:Int):Option Int:=
 ((if a>=4294967296 then
 some (qz .u64 a 32,32)
 else
 some (a,0):Option (Int×Int))).bind fun(b,f)=>
 ((if b>=65536 then
 some (qz .u64 b 16,w64 (f+16))
 else
 some (b,f):Option (Int×Int))).bind fun(c,g)=>
 ((if c>=256 then
 some (qz .u64 c 8,w64 (g+8))
 else
 some (c,g):Option (Int×Int))).bind fun(h,d)=>
 (idx ([0,1,2,2,3,3,3,3,4,4,4,4,4,4,4,4,5,5,5,5,5,5,5,5,5,5,5,5,5,5,5,5,6,6,6,6,6,6,6,6,6,6,6,6,6,6,6,6,6,6,6,6,6,6,6,6,6,6,6,6,6,6,6,6,7,7,7,7,7,7,7,7,7,7,7,7,7,7,7,7,7,7,7,7,7,7,7,7,7,7,7,7,7,7,7,7,7,7,7,7,7,7,7,7,7,7,7,7,7,7,7,7,7,7,7,7,7,7,7,7,7,7,7,7,7,7,7,7,8,8,8,8,8,8,8,8,8,8,8,8,8,8,8,8,8,8,8,8,8,8,8,8,8,8,8,8,8,8,8,8,8,8,8,8,8,8,8,8,8,8,8,8,8,8,8,8,8,8,8,8,8,8,8,8,8,8,8,8,8,8,8,8,8,8,8,8,8,8,8,8,8,8,8,8,8,8,8,8,8,8,8,8,8,8,8,8,8,8,8,8,8,8,8,8,8,8,8,8,8,8,8,8,8,8,8,8,8,8,8,8,8,8,8,8,8,8,8,8,8,8,8,8,8,8,8,8]:Str) (wrap .u8 h)).bind fun e=>
 some (w64 (d+(w64 (e.toNat:Int))))
theorem qfo (b:Int) {res:Int} (h:bits_Len64 b=some res):qc ZT (.fn 222) [.int .u64 b] [] (.i res) []:=by
 unfold bits_Len64 at h;refine Ub Tryz.func222 rfl rfl (m:=25) rfl (rs:=[.tmp 2]) rfl (l:=(kBE b [])) rfl ?_;refine sh fol (kBE b [(2,.i 0)]) ?_;refine sq ?_;refine sh fol (kBE b ((2,.i 0)::(kAq (decide (b>=4294967296))))) ?_;obtain⟨p,g3,h⟩:=bnd h;refine Goes.imp (Q:=fun x s'=>(x= .normal/\ ∃c g,(c,g)=p/\Sub s' (ofG 25 (kBE c (kBA g)),[]))) ?_ ?_
 ·refine ihD g3 (fun q g3=>?_) (fun q g3=>?_)
  ·refine sh fol (kBE (qz .u64 b 32) []) ?_;refine gh fol (kBE (qz .u64 b 32) [(2,.i 32)]) ?_;obtain rfl:=si g3;exact⟨rfl,_,_,rfl,(Sub.refl _)⟩
  refine Goes.skip ?_;obtain rfl:=si g3;exact⟨rfl,_,_,rfl,(Sub.keep [0,2] rfl rfl)⟩
 rintro x s' ⟨rfl,c,g,rfl,hsub⟩
 try dsimp only at h
 refine Goes.sub hsub ?_;refine sq ?_;refine sh fol (kBE c ((2,.i g)::(kBJ (decide (c>=65536))))) ?_;obtain⟨r,g7,h⟩:=bnd h;refine Goes.imp (Q:=fun x s'=>(x= .normal/\ ∃d j,(d,j)=r/\Sub s' (ofG 25 (kBE d (kBA j)),[]))) ?_ ?_
 ·refine ihD g7 (fun s g7=>?_) (fun s g7=>?_)
  ·refine sh fol (kBE (qz .u64 c 16) (kBA g)) ?_;refine gh fol (kBE (qz .u64 c 16) (kBA (w64 (g+16)))) ?_;obtain rfl:=si g7;exact⟨rfl,_,_,rfl,(Sub.refl _)⟩
  refine Goes.skip ?_;obtain rfl:=si g7;exact⟨rfl,_,_,rfl,(Sub.keep [0,2] rfl rfl)⟩
 rintro x s' ⟨rfl,d,j,rfl,hsub⟩
 try dsimp only at h
 refine Goes.sub hsub ?_;refine sq ?_;refine sh fol (kBE d [(2,.i j),(14,.bool (decide (d>=256)))]) ?_;obtain⟨n,g11,h⟩:=bnd h;refine Goes.imp (Q:=fun x s'=>(x= .normal/\ ∃k a,(k,a)=n/\Sub s' (ofG 25 (kBE k (kBA a)),[]))) ?_ ?_
 ·refine ihD g11 (fun o g11=>?_) (fun o g11=>?_)
  ·refine sh fol (kBE (qz .u64 d 8) (kBA j)) ?_;refine gh fol (kBE (qz .u64 d 8) (kBA (w64 (j+8)))) ?_;obtain rfl:=si g11;exact⟨rfl,_,_,rfl,(Sub.refl _)⟩
  refine Goes.skip ?_;obtain rfl:=si g11;exact⟨rfl,_,_,rfl,(Sub.keep [0,2] rfl rfl)⟩
 rintro x s' ⟨rfl,k,a,rfl,hsub⟩
 try dsimp only at h
 refine Goes.sub hsub ?_;obtain⟨e,f,h⟩:=bnd h;refine sq (gr fol [3] (kBA (w64 (a+(w64 (e.toNat:Int))))) (ac (hs (.done (.opt (yF ZT 9 (.str [0,1,2,2,3,3,3,3,4,4,4,4,4,4,4,4,5,5,5,5,5,5,5,5,5,5,5,5,5,5,5,5,6,6,6,6,6,6,6,6,6,6,6,6,6,6,6,6,6,6,6,6,6,6,6,6,6,6,6,6,6,6,6,6,7,7,7,7,7,7,7,7,7,7,7,7,7,7,7,7,7,7,7,7,7,7,7,7,7,7,7,7,7,7,7,7,7,7,7,7,7,7,7,7,7,7,7,7,7,7,7,7,7,7,7,7,7,7,7,7,7,7,7,7,7,7,7,7,8,8,8,8,8,8,8,8,8,8,8,8,8,8,8,8,8,8,8,8,8,8,8,8,8,8,8,8,8,8,8,8,8,8,8,8,8,8,8,8,8,8,8,8,8,8,8,8,8,8,8,8,8,8,8,8,8,8,8,8,8,8,8,8,8,8,8,8,8,8,8,8,8,8,8,8,8,8,8,8,8,8,8,8,8,8,8,8,8,8,8,8,8,8,8,8,8,8,8,8,8,8,8,8,8,8,8,8,8,8,8,8,8,8,8,8,8,8,8,8,8,8,8,8,8,8,8,8]) (.int .u8 (wrap .u8 k)))) (.int .u8 (e.toNat:Int))) (qaF st9 f)) az) ?_);refine Goes.ret ?_;obtain rfl:=si h;exact(gw2 [.i (w64 (a+(w64 (e.toNat:Int))))] (Ua tI))
def bits_LeadingZeros64 (a:Int):Option Int:=
 (bits_Len64 a).bind fun b=>
 some (w64 (64-b))
theorem qbi (a:Int) {res:Int} (h:bits_LeadingZeros64 a=some res):qc ZT (.fn 253) [.int .u64 a] [] (.i res) []:=by
 unfold bits_LeadingZeros64 at h;refine Ub Tryz.func253 rfl rfl (m:=6) rfl (rs:=[.tmp 2]) rfl (l:=(kBE a [])) rfl ?_;refine sh fol (kBE a []) ?_;obtain⟨c,b,h⟩:=bnd h;refine sq (gr fol [1] (kBA (w64 (64-c))) (ac (cv (qfo a b)) az) ?_);refine Goes.ret ?_;obtain rfl:=si h;exact(gw2 [.i (w64 (64-c))] (Ua tI))
def yS (d:Int) (c:Int):Nat->Int->Int->Option Int
 |0,_,_=>none
 |K+1,a,b=>
  (if a>=4294967296 then
  some true
  else
  some (decide ((wrap .u64 (a*(qB .u64 d 4294967295)))>(wrap .u64 ((wrap .u64 (4294967296*b))+(qz .u64 c 32))))):Option Bool).bind fun e=>
  if e=true then
  if(wrap .u64 (b+(qz .u64 d 32)))>=4294967296 then
  some (wrap .u64 (a-1))
  else
  yS d c K (wrap .u64 (a-1)) (wrap .u64 (b+(qz .u64 d 32)))
  else
  some a
def yX (d:Int) (c:Int):Nat->Int->Int->Option Int
 |0,_,_=>none
 |K+1,b,a=>
  (if a>=4294967296 then
  some true
  else
  some (decide ((wrap .u64 (a*(qB .u64 d 4294967295)))>(wrap .u64 ((wrap .u64 (4294967296*b))+(qB .u64 c 4294967295))))):Option Bool).bind fun e=>
  if e=true then
  if(wrap .u64 (b+(qz .u64 d 32)))>=4294967296 then
  some (wrap .u64 (a-1))
  else
  yX d c K (wrap .u64 (b+(qz .u64 d 32))) (wrap .u64 (a-1))
  else
  some a
def qaW (N:Nat) (hi:Int) (lo:Int) (y:Int):Option (Int×Int):=
 ((if y=0 then
 none
 else
 some ():Option Unit)).bind fun _=>
 ((if y<=hi then
 none
 else
 some ():Option Unit)).bind fun _=>
 if hi=0 then
 (qco .u64 lo y).bind fun k=>
 (qeG .u64 lo y).bind fun l=>
 some (k,l)
 else
 (bits_LeadingZeros64 y).bind fun f=>
 (qib .u64 y (wrap .u64 f)).bind fun d=>
 (qib .u64 hi (wrap .u64 f)).bind fun b=>
 (qkA .u64 lo (wrap .u64 (64-(wrap .u64 f)))).bind fun c=>
 (qib .u64 lo (wrap .u64 f)).bind fun a=>
 (qco .u64 (orI .u64 b c) (qz .u64 d 32)).bind fun g=>
 (yS d a N g (wrap .u64 ((orI .u64 b c)-(wrap .u64 (g*(qz .u64 d 32)))))).bind fun e=>
 (qco .u64 (wrap .u64 ((wrap .u64 ((wrap .u64 ((orI .u64 b c)*4294967296))+(qz .u64 a 32)))-(wrap .u64 (e*d)))) (qz .u64 d 32)).bind fun h=>
 (yX d a N (wrap .u64 ((wrap .u64 ((wrap .u64 ((wrap .u64 ((orI .u64 b c)*4294967296))+(qz .u64 a 32)))-(wrap .u64 (e*d))))-(wrap .u64 (h*(qz .u64 d 32))))) h).bind fun i=>
 (qkA .u64 (wrap .u64 ((wrap .u64 ((wrap .u64 ((wrap .u64 ((wrap .u64 ((wrap .u64 ((orI .u64 b c)*4294967296))+(qz .u64 a 32)))-(wrap .u64 (e*d))))*4294967296))+(qB .u64 a 4294967295)))-(wrap .u64 (i*d)))) (wrap .u64 f)).bind fun j=>
 some (wrap .u64 ((wrap .u64 (e*4294967296))+i),j)
theorem qfl (N:Nat) (hi:Int) (lo:Int) (y:Int) {res:Int×Int} (h:qaW N hi lo y=some res):qc ZT (.fn 251) (.int .u64 hi::(kAw lo y)) [] (.tuple (kAw res.1 res.2)) []:=by
 unfold qaW at h;refine Ub Tryz.func251 rfl rfl (m:=135) rfl (rs:=[.tmp 6,.tmp 7]) rfl (l:=(kX hi lo [(2,.int .u64 y)])) rfl ?_;refine sh fol (kX hi lo [(2,.int .u64 y)]) ?_;refine sq ?_;refine sh fol (kX hi lo [(2,.int .u64 y),(20,.bool (decide (y=0)))]) ?_;obtain⟨Z,g1,h⟩:=bnd h;refine Goes.imp (Q:=fun x s'=>(x= .normal/\()=Z/\Sub s' (ofG 135 (kX hi lo [(2,.int .u64 y)]),[]))) ?_ ?_
 ·refine ihD g1 (fun c2 g1=>?_) (fun c2 g1=>?_)
  ·cases g1
  refine Goes.skip ?_;obtain rfl:=si g1;exact⟨rfl,rfl,(Sub.keep [0,1,2] rfl rfl)⟩
 rintro x s' ⟨rfl,rfl,hsub⟩;refine Goes.sub hsub ?_;refine sq ?_;refine sh fol (kX hi lo [(2,.int .u64 y),(24,.bool (decide (y<=hi)))]) ?_;obtain⟨r3,g3,h⟩:=bnd h;refine Goes.imp (Q:=fun x s'=>(x= .normal/\()=r3/\Sub s' (ofG 135 (kX hi lo [(2,.int .u64 y)]),[]))) ?_ ?_
 ·refine ihD g3 (fun c4 g3=>?_) (fun c4 g3=>?_)
  ·cases g3
  refine Goes.skip ?_;obtain rfl:=si g3;exact⟨rfl,rfl,(Sub.keep [0,1,2] rfl rfl)⟩
 rintro x s' ⟨rfl,rfl,hsub⟩;refine Goes.sub hsub ?_;refine sq ?_;refine sh fol (kX hi lo [(2,.int .u64 y),(27,.bool (decide (hi=0)))]) ?_;refine ihD h (fun c5 h=>?_) (fun c5 h=>?_)
 ·obtain⟨K,E,h⟩:=bnd h;obtain⟨L,F,h⟩:=bnd h;refine sq (gr fol [2,5] (kAJ K (kAZ L [])) (ac (hs (.done (.opt (ku ZT .quo 214 (.tmp 28) (.tmp 29) (.int .u64 lo) (.int .u64 y))) (.int .u64 K)) (qb2 E)) (ac (hs (.done (.opt (ku ZT .rem 214 (.tmp 31) (.tmp 32) (.int .u64 lo) (.int .u64 y))) (.int .u64 L)) (qfN F)) az)) ?_);refine Goes.ret ?_;obtain rfl:=si h;exact(gw2 (kAw K L) (FzW.tuple (qf.cons (Ua tI) (qf.cons (Ua tI) qf.nil))))
 refine Goes.skip ?_;obtain⟨f,G,h⟩:=bnd h;refine sq (gr fol [1] (kX hi lo [(2,.int .u64 y),(8,.int .u64 (wrap .u64 f))]) (ac (cv (qbi y G)) az) ?_);obtain⟨b,H,h⟩:=bnd h;refine sq (gr fol [2] (kX hi lo [(2,.int .u64 b),(8,.int .u64 (wrap .u64 f))]) (ac (hs (.done (.opt (ku ZT .shl 214 (.tmp 37) (.tmp 38) (.int .u64 y) (.int .u64 (wrap .u64 f)))) (.int .u64 b)) (qf3 H)) az) ?_);refine sh fol (kX hi lo [(2,.int .u64 b),(8,.int .u64 (wrap .u64 f)),(9,.int .u64 (qz .u64 b 32))]) ?_;refine sh fol (kX hi lo (kJ b (wrap .u64 f) (qz .u64 b 32) (qB .u64 b 4294967295) [])) ?_;obtain⟨c,t,h⟩:=bnd h;obtain⟨d,u,h⟩:=bnd h;refine sq (gr fol [2,6] ((1,.int .u64 lo)::(kJ b (wrap .u64 f) (qz .u64 b 32) (qB .u64 b 4294967295) [(11,.int .u64 (orI .u64 c d))])) (ac (hs (.done (.opt (ku ZT .shl 214 (.tmp 44) (.tmp 45) (.int .u64 hi) (.int .u64 (wrap .u64 f)))) (.int .u64 c)) (qf3 t)) (ac (hs (.done (.opt (ku ZT .shr 214 (.tmp 47) (.tmp 49) (.int .u64 lo) (.int .u64 (wrap .u64 (64-(wrap .u64 f)))))) (.int .u64 d)) (qg5 u)) az)) ?_);obtain⟨a,v,h⟩:=bnd h;refine sq (gr fol [2] (kJ b (wrap .u64 f) (qz .u64 b 32) (qB .u64 b 4294967295) (kZ (orI .u64 c d) a [])) (ac (hs (.done (.opt (ku ZT .shl 214 (.tmp 52) (.tmp 53) (.int .u64 lo) (.int .u64 (wrap .u64 f)))) (.int .u64 a)) (qf3 v)) az) ?_);refine sh fol (kJ b (wrap .u64 f) (qz .u64 b 32) (qB .u64 b 4294967295) (kZ (orI .u64 c d) a [(13,.int .u64 (qz .u64 a 32))])) ?_;refine sh fol (kJ b (wrap .u64 f) (qz .u64 b 32) (qB .u64 b 4294967295) (kAP (orI .u64 c d) (qz .u64 a 32) [(14,.int .u64 (qB .u64 a 4294967295))])) ?_;obtain⟨q,w,h⟩:=bnd h;refine sq (gr fol [2] (kJ b (wrap .u64 f) (qz .u64 b 32) (qB .u64 b 4294967295) (kAP (orI .u64 c d) (qz .u64 a 32) (kA2 (qB .u64 a 4294967295) q []))) (ac (hs (.done (.opt (ku ZT .quo 214 (.tmp 59) (.tmp 60) (.int .u64 (orI .u64 c d)) (.int .u64 (qz .u64 b 32)))) (.int .u64 q)) (qb2 w)) az) ?_);refine sh fol (kJ b (wrap .u64 f) (qz .u64 b 32) (qB .u64 b 4294967295) (kAP (orI .u64 c d) (qz .u64 a 32) (kR (qB .u64 a 4294967295) q (wrap .u64 ((orI .u64 c d)-(wrap .u64 (q*(qz .u64 b 32))))) []))) ?_;refine sq (Goes.block ?_);obtain⟨I,g17,h⟩:=bnd h;refine Goes.imp (Q:=fun x s'=>(x= .exit 0/\ ∃e,e=I/\Sub s' (ofG 135 (kJ b (wrap .u64 f) (qz .u64 b 32) (qB .u64 b 4294967295) (kAP (orI .u64 c d) (qz .u64 a 32) (kA2 (qB .u64 a 4294967295) e []))),[]))) ?_ ?_
 ·refine Ud (fun M s=> ∃(j:Int) (g:Int),s=(ofG 135 (kJ b (wrap .u64 f) (qz .u64 b 32) (qB .u64 b 4294967295) (kAP (orI .u64 c d) (qz .u64 a 32) (kR (qB .u64 a 4294967295) j g []))),[])/\yS b a M j g=some I) ?_ (m:=N) ⟨_,_,rfl,g17⟩;rintro M s ⟨j,g,rfl,g17⟩
  cases M with
  |zero=>simp only[yS]at g17;cases g17
  |succ M=>
   rw[yS]at g17;refine sq ?_;refine sq ?_;obtain⟨O,k,g17⟩:=bnd g17;refine Ue (s':=(ofG 135 (kJ b (wrap .u64 f) (qz .u64 b 32) (qB .u64 b 4294967295) (kAP (orI .u64 c d) (qz .u64 a 32) (kR (qB .u64 a 4294967295) j g [(78,.bool O)]))),[])) ?_ ?_
   ·rcases wyD k with⟨z,k⟩|⟨z,k⟩
    ·obtain rfl:=si k;exact tr fol [2] (kJ b (wrap .u64 f) (qz .u64 b 32) (qB .u64 b 4294967295) (kAP (orI .u64 c d) (qz .u64 a 32) (kR (qB .u64 a 4294967295) j g [(78,.bool true)]))) (ac (gw z) az)
    obtain rfl:=si k;exact tr fol [2] (kJ b (wrap .u64 f) (qz .u64 b 32) (qB .u64 b 4294967295) (kAP (orI .u64 c d) (qz .u64 a 32) (kR (qB .u64 a 4294967295) j g [(78,.bool (decide ((wrap .u64 (j*(qB .u64 b 4294967295)))>(wrap .u64 ((wrap .u64 (4294967296*g))+(qz .u64 a 32))))))]))) (ac (gw z) az)
   refine ihB g17 (fun P g17=>?_) (fun P g17=>?_)
   ·refine Goes.skip ?_;refine Goes.block ?_;refine sh fol (kJ b (wrap .u64 f) (qz .u64 b 32) (qB .u64 b 4294967295) (kAP (orI .u64 c d) (qz .u64 a 32) (kR (qB .u64 a 4294967295) (wrap .u64 (j-1)) g []))) ?_;refine sh fol (kJ b (wrap .u64 f) (qz .u64 b 32) (qB .u64 b 4294967295) (kAP (orI .u64 c d) (qz .u64 a 32) (kR (qB .u64 a 4294967295) (wrap .u64 (j-1)) (wrap .u64 (g+(qz .u64 b 32))) []))) ?_;refine sh fol (kJ b (wrap .u64 f) (qz .u64 b 32) (qB .u64 b 4294967295) (kAP (orI .u64 c d) (qz .u64 a 32) (kR (qB .u64 a 4294967295) (wrap .u64 (j-1)) (wrap .u64 (g+(qz .u64 b 32))) [(85,.bool (decide ((wrap .u64 (g+(qz .u64 b 32)))>=4294967296)))]))) ?_;refine ihD g17 (fun U g17=>?_) (fun U g17=>?_)
    ·refine Goes.exit ?_;obtain rfl:=si g17;exact⟨rfl,_,rfl,(Sub.keep [2,8,9,10,11,13,14,15] rfl rfl)⟩
    refine Goes.skip ?_;exact⟨M,(ofG 135 (kJ b (wrap .u64 f) (qz .u64 b 32) (qB .u64 b 4294967295) (kAP (orI .u64 c d) (qz .u64 a 32) (kR (qB .u64 a 4294967295) (wrap .u64 (j-1)) (wrap .u64 (g+(qz .u64 b 32))) []))),[]),Nat.lt_succ_self _,(Sub.keep [2,8,9,10,11,13,14,15,16] rfl rfl),_,_,rfl,g17⟩
   refine Goes.exit ?_;obtain rfl:=si g17;exact⟨rfl,_,rfl,(Sub.keep [2,8,9,10,11,13,14,15] rfl rfl)⟩
 rintro x s' ⟨rfl,e,rfl,hsub⟩;refine Goes.sub hsub ?_;refine sh fol (kJ b (wrap .u64 f) (qz .u64 b 32) (qB .u64 b 4294967295) (kA2 (qB .u64 a 4294967295) e [(17,.int .u64 (wrap .u64 ((wrap .u64 ((wrap .u64 ((orI .u64 c d)*4294967296))+(qz .u64 a 32)))-(wrap .u64 (e*b)))))])) ?_;obtain⟨r,A,h⟩:=bnd h;refine sq (gr fol [2] (kJ b (wrap .u64 f) (qz .u64 b 32) (qB .u64 b 4294967295) (kA2 (qB .u64 a 4294967295) e (kAV (wrap .u64 ((wrap .u64 ((wrap .u64 ((orI .u64 c d)*4294967296))+(qz .u64 a 32)))-(wrap .u64 (e*b)))) r []))) (ac (hs (.done (.opt (ku ZT .quo 214 (.tmp 94) (.tmp 95) (.int .u64 (wrap .u64 ((wrap .u64 ((wrap .u64 ((orI .u64 c d)*4294967296))+(qz .u64 a 32)))-(wrap .u64 (e*b))))) (.int .u64 (qz .u64 b 32)))) (.int .u64 r)) (qb2 A)) az) ?_);refine sh fol (kJ b (wrap .u64 f) (qz .u64 b 32) (qB .u64 b 4294967295) (kR (qB .u64 a 4294967295) e (wrap .u64 ((wrap .u64 ((wrap .u64 ((wrap .u64 ((orI .u64 c d)*4294967296))+(qz .u64 a 32)))-(wrap .u64 (e*b))))-(wrap .u64 (r*(qz .u64 b 32))))) (kAV (wrap .u64 ((wrap .u64 ((wrap .u64 ((orI .u64 c d)*4294967296))+(qz .u64 a 32)))-(wrap .u64 (e*b)))) r []))) ?_;refine sq (Goes.block ?_);obtain⟨J,g27,h⟩:=bnd h;refine Goes.imp (Q:=fun x s'=>(x= .exit 2/\ ∃p,p=J/\Sub s' (ofG 135 ((2,.int .u64 b)::(8,.int .u64 (wrap .u64 f))::(kA2 (qB .u64 a 4294967295) e (kAV (wrap .u64 ((wrap .u64 ((wrap .u64 ((orI .u64 c d)*4294967296))+(qz .u64 a 32)))-(wrap .u64 (e*b)))) p []))),[]))) ?_ ?_
 ·refine Ud (fun M s=> ∃(i:Int) (n:Int),s=(ofG 135 (kJ b (wrap .u64 f) (qz .u64 b 32) (qB .u64 b 4294967295) (kR (qB .u64 a 4294967295) e i (kAV (wrap .u64 ((wrap .u64 ((wrap .u64 ((orI .u64 c d)*4294967296))+(qz .u64 a 32)))-(wrap .u64 (e*b)))) n []))),[])/\yX b a M i n=some J) ?_ (m:=N) ⟨_,_,rfl,g27⟩;rintro M s ⟨i,n,rfl,g27⟩
  cases M with
  |zero=>simp only[yX]at g27;cases g27
  |succ M=>
   rw[yX]at g27;refine sq ?_;refine sq ?_;obtain⟨V,o,g27⟩:=bnd g27;refine Ue (s':=(ofG 135 (kJ b (wrap .u64 f) (qz .u64 b 32) (qB .u64 b 4294967295) (kR (qB .u64 a 4294967295) e i (kAV (wrap .u64 ((wrap .u64 ((wrap .u64 ((orI .u64 c d)*4294967296))+(qz .u64 a 32)))-(wrap .u64 (e*b)))) n [(113,.bool V)]))),[])) ?_ ?_
   ·rcases wyD o with⟨B,o⟩|⟨B,o⟩
    ·obtain rfl:=si o;exact tr fol [2] (kJ b (wrap .u64 f) (qz .u64 b 32) (qB .u64 b 4294967295) (kR (qB .u64 a 4294967295) e i (kAV (wrap .u64 ((wrap .u64 ((wrap .u64 ((orI .u64 c d)*4294967296))+(qz .u64 a 32)))-(wrap .u64 (e*b)))) n [(113,.bool true)]))) (ac (gw B) az)
    obtain rfl:=si o;exact tr fol [2] (kJ b (wrap .u64 f) (qz .u64 b 32) (qB .u64 b 4294967295) (kR (qB .u64 a 4294967295) e i (kAV (wrap .u64 ((wrap .u64 ((wrap .u64 ((orI .u64 c d)*4294967296))+(qz .u64 a 32)))-(wrap .u64 (e*b)))) n [(113,.bool (decide ((wrap .u64 (n*(qB .u64 b 4294967295)))>(wrap .u64 ((wrap .u64 (4294967296*i))+(qB .u64 a 4294967295))))))]))) (ac (gw B) az)
   refine ihB g27 (fun X g27=>?_) (fun X g27=>?_)
   ·refine Goes.skip ?_;refine Goes.block ?_;refine sh fol (kJ b (wrap .u64 f) (qz .u64 b 32) (qB .u64 b 4294967295) (kR (qB .u64 a 4294967295) e i (kAV (wrap .u64 ((wrap .u64 ((wrap .u64 ((orI .u64 c d)*4294967296))+(qz .u64 a 32)))-(wrap .u64 (e*b)))) (wrap .u64 (n-1)) []))) ?_;refine sh fol (kJ b (wrap .u64 f) (qz .u64 b 32) (qB .u64 b 4294967295) (kR (qB .u64 a 4294967295) e (wrap .u64 (i+(qz .u64 b 32))) (kAV (wrap .u64 ((wrap .u64 ((wrap .u64 ((orI .u64 c d)*4294967296))+(qz .u64 a 32)))-(wrap .u64 (e*b)))) (wrap .u64 (n-1)) []))) ?_;refine sh fol (kJ b (wrap .u64 f) (qz .u64 b 32) (qB .u64 b 4294967295) (kR (qB .u64 a 4294967295) e (wrap .u64 (i+(qz .u64 b 32))) (kAV (wrap .u64 ((wrap .u64 ((wrap .u64 ((orI .u64 c d)*4294967296))+(qz .u64 a 32)))-(wrap .u64 (e*b)))) (wrap .u64 (n-1)) [(120,.bool (decide ((wrap .u64 (i+(qz .u64 b 32)))>=4294967296)))]))) ?_;refine ihD g27 (fun Y g27=>?_) (fun Y g27=>?_)
    ·refine Goes.exit ?_;obtain rfl:=si g27;exact⟨rfl,_,rfl,(Sub.keep [2,8,14,15,17,18] rfl rfl)⟩
    refine Goes.skip ?_;exact⟨M,(ofG 135 (kJ b (wrap .u64 f) (qz .u64 b 32) (qB .u64 b 4294967295) (kR (qB .u64 a 4294967295) e (wrap .u64 (i+(qz .u64 b 32))) (kAV (wrap .u64 ((wrap .u64 ((wrap .u64 ((orI .u64 c d)*4294967296))+(qz .u64 a 32)))-(wrap .u64 (e*b)))) (wrap .u64 (n-1)) []))),[]),Nat.lt_succ_self _,(Sub.keep [2,8,9,10,14,15,16,17,18] rfl rfl),_,_,rfl,g27⟩
   refine Goes.exit ?_;obtain rfl:=si g27;exact⟨rfl,_,rfl,(Sub.keep [2,8,14,15,17,18] rfl rfl)⟩
 rintro x s' ⟨rfl,p,rfl,hsub⟩;refine Goes.sub hsub ?_;obtain⟨C,D,h⟩:=bnd h;refine sq (gr fol [13] (kAJ (wrap .u64 ((wrap .u64 (e*4294967296))+p)) (kAZ C [])) (ac (hs (.done (.opt (ku ZT .shr 214 (.tmp 132) (.tmp 133) (.int .u64 (wrap .u64 ((wrap .u64 ((wrap .u64 ((wrap .u64 ((wrap .u64 ((wrap .u64 ((orI .u64 c d)*4294967296))+(qz .u64 a 32)))-(wrap .u64 (e*b))))*4294967296))+(qB .u64 a 4294967295)))-(wrap .u64 (p*b))))) (.int .u64 (wrap .u64 f)))) (.int .u64 C)) (qg5 D)) az) ?_);refine Goes.ret ?_;obtain rfl:=si h;exact(gw2 (kAw (wrap .u64 ((wrap .u64 (e*4294967296))+p)) C) (FzW.tuple (qf.cons (Ua tI) (qf.cons (Ua tI) qf.nil))))
def bits_Mul64 (a:Int) (y:Int):Option (Int×Int):=
 some (wrap .u64 ((wrap .u64 ((wrap .u64 ((qz .u64 a 32)*(qz .u64 y 32)))+(qz .u64 (wrap .u64 ((wrap .u64 ((qz .u64 a 32)*(qB .u64 y 4294967295)))+(qz .u64 (wrap .u64 ((qB .u64 a 4294967295)*(qB .u64 y 4294967295))) 32))) 32)))+(qz .u64 (wrap .u64 ((qB .u64 (wrap .u64 ((wrap .u64 ((qz .u64 a 32)*(qB .u64 y 4294967295)))+(qz .u64 (wrap .u64 ((qB .u64 a 4294967295)*(qB .u64 y 4294967295))) 32))) 4294967295)+(wrap .u64 ((qB .u64 a 4294967295)*(qz .u64 y 32))))) 32)),wrap .u64 (a*y))
theorem qaL (a:Int) (y:Int) {res:Int×Int} (h:bits_Mul64 a y=some res):qc ZT (.fn 194) (kAw a y) [] (.tuple (kAw res.1 res.2)) []:=by
 unfold bits_Mul64 at h;refine Ub Tryz.func194 rfl rfl (m:=51) rfl (rs:=[.tmp 4,.tmp 5]) rfl (l:=(kX a y [])) rfl ?_;refine sh fol (kX a y []) ?_;refine sh fol (kX a y (kAJ (qB .u64 a 4294967295) [])) ?_;refine sh fol (kX a y (kAJ (qB .u64 a 4294967295) (kAZ (qz .u64 a 32) []))) ?_;refine sh fol (kX a y (kAJ (qB .u64 a 4294967295) (kAB (qz .u64 a 32) (qB .u64 y 4294967295) []))) ?_;refine sh fol (kX a y (kAJ (qB .u64 a 4294967295) (kAB (qz .u64 a 32) (qB .u64 y 4294967295) [(9,.int .u64 (qz .u64 y 32))]))) ?_;refine sh fol (kX a y (kAJ (qB .u64 a 4294967295) (kAB (qz .u64 a 32) (qB .u64 y 4294967295) [(9,.int .u64 (qz .u64 y 32)),(10,.int .u64 (wrap .u64 ((qB .u64 a 4294967295)*(qB .u64 y 4294967295))))]))) ?_;refine sh fol (kX a y (kAJ (qB .u64 a 4294967295) (kAZ (qz .u64 a 32) [(9,.int .u64 (qz .u64 y 32)),(11,.int .u64 (wrap .u64 ((wrap .u64 ((qz .u64 a 32)*(qB .u64 y 4294967295)))+(qz .u64 (wrap .u64 ((qB .u64 a 4294967295)*(qB .u64 y 4294967295))) 32))))]))) ?_;refine sh fol (kX a y (kAJ (qB .u64 a 4294967295) (kAZ (qz .u64 a 32) ((9,.int .u64 (qz .u64 y 32))::(kZ (wrap .u64 ((wrap .u64 ((qz .u64 a 32)*(qB .u64 y 4294967295)))+(qz .u64 (wrap .u64 ((qB .u64 a 4294967295)*(qB .u64 y 4294967295))) 32))) (qB .u64 (wrap .u64 ((wrap .u64 ((qz .u64 a 32)*(qB .u64 y 4294967295)))+(qz .u64 (wrap .u64 ((qB .u64 a 4294967295)*(qB .u64 y 4294967295))) 32))) 4294967295) []))))) ?_;refine sh fol (kX a y (kAJ (qB .u64 a 4294967295) (kAZ (qz .u64 a 32) [(9,.int .u64 (qz .u64 y 32)),(12,.int .u64 (qB .u64 (wrap .u64 ((wrap .u64 ((qz .u64 a 32)*(qB .u64 y 4294967295)))+(qz .u64 (wrap .u64 ((qB .u64 a 4294967295)*(qB .u64 y 4294967295))) 32))) 4294967295)),(13,.int .u64 (qz .u64 (wrap .u64 ((wrap .u64 ((qz .u64 a 32)*(qB .u64 y 4294967295)))+(qz .u64 (wrap .u64 ((qB .u64 a 4294967295)*(qB .u64 y 4294967295))) 32))) 32))]))) ?_;refine sh fol (kX a y (kAZ (qz .u64 a 32) [(9,.int .u64 (qz .u64 y 32)),(12,.int .u64 (wrap .u64 ((qB .u64 (wrap .u64 ((wrap .u64 ((qz .u64 a 32)*(qB .u64 y 4294967295)))+(qz .u64 (wrap .u64 ((qB .u64 a 4294967295)*(qB .u64 y 4294967295))) 32))) 4294967295)+(wrap .u64 ((qB .u64 a 4294967295)*(qz .u64 y 32)))))),(13,.int .u64 (qz .u64 (wrap .u64 ((wrap .u64 ((qz .u64 a 32)*(qB .u64 y 4294967295)))+(qz .u64 (wrap .u64 ((qB .u64 a 4294967295)*(qB .u64 y 4294967295))) 32))) 32))])) ?_;refine sh fol (kX a y [(4,.int .u64 (wrap .u64 ((wrap .u64 ((wrap .u64 ((qz .u64 a 32)*(qz .u64 y 32)))+(qz .u64 (wrap .u64 ((wrap .u64 ((qz .u64 a 32)*(qB .u64 y 4294967295)))+(qz .u64 (wrap .u64 ((qB .u64 a 4294967295)*(qB .u64 y 4294967295))) 32))) 32)))+(qz .u64 (wrap .u64 ((qB .u64 (wrap .u64 ((wrap .u64 ((qz .u64 a 32)*(qB .u64 y 4294967295)))+(qz .u64 (wrap .u64 ((qB .u64 a 4294967295)*(qB .u64 y 4294967295))) 32))) 4294967295)+(wrap .u64 ((qB .u64 a 4294967295)*(qz .u64 y 32))))) 32))))]) ?_;refine sh fol [(4,.int .u64 (wrap .u64 ((wrap .u64 ((wrap .u64 ((qz .u64 a 32)*(qz .u64 y 32)))+(qz .u64 (wrap .u64 ((wrap .u64 ((qz .u64 a 32)*(qB .u64 y 4294967295)))+(qz .u64 (wrap .u64 ((qB .u64 a 4294967295)*(qB .u64 y 4294967295))) 32))) 32)))+(qz .u64 (wrap .u64 ((qB .u64 (wrap .u64 ((wrap .u64 ((qz .u64 a 32)*(qB .u64 y 4294967295)))+(qz .u64 (wrap .u64 ((qB .u64 a 4294967295)*(qB .u64 y 4294967295))) 32))) 4294967295)+(wrap .u64 ((qB .u64 a 4294967295)*(qz .u64 y 32))))) 32)))),(5,.int .u64 (wrap .u64 (a*y)))] ?_;refine Goes.ret ?_;obtain rfl:=si h;exact(gw2 (kAw (wrap .u64 ((wrap .u64 ((wrap .u64 ((qz .u64 a 32)*(qz .u64 y 32)))+(qz .u64 (wrap .u64 ((wrap .u64 ((qz .u64 a 32)*(qB .u64 y 4294967295)))+(qz .u64 (wrap .u64 ((qB .u64 a 4294967295)*(qB .u64 y 4294967295))) 32))) 32)))+(qz .u64 (wrap .u64 ((qB .u64 (wrap .u64 ((wrap .u64 ((qz .u64 a 32)*(qB .u64 y 4294967295)))+(qz .u64 (wrap .u64 ((qB .u64 a 4294967295)*(qB .u64 y 4294967295))) 32))) 4294967295)+(wrap .u64 ((qB .u64 a 4294967295)*(qz .u64 y 32))))) 32))) (wrap .u64 (a*y))) (FzW.tuple (qf.cons (Ua tI) (qf.cons (Ua tI) qf.nil))))
def zN (b:List Int) (a:Int):Nat->(List Int)->Int->Option (List Int)
 |0,_,_=>none
 |K+1,f,c=>
  if c<(b.length:Int)then
  (((idx b c).bind fun e=>
  (idx f c).bind fun g=>
  (qib .u64 e a).bind fun h=>
  (put f c (orI .u64 g h)).bind fun d=>
  if a>0 then
  (qkA .u64 e (w64 (64-a))).bind fun i=>
  (idx d (w64 (c+1))).bind fun k=>
  (put d (w64 (c+1)) i).bind fun j=>
  some j
  else
  some d:Option (List Int))).bind fun l=>
  zN b a K l (w64 (c+1))
  else
  some f
def xh (N:Nat) (a:List Int) (b:Int):Option (List Int):=
 (mk 8 (w64 ((a.length:Int)+1)) 0).bind fun c=>
 (zN a b N c 0).bind fun d=>
 some d
theorem qcO (N:Nat) (a:List Int) (b:Int) {G:List Int} (h:xh N a b=some G):qc ZT (.fn 254) [vl ZU a,.i b] [] (.slice 0 0 G.length G.length 1) [.cells (G.flatMap ZU.c)]:=by
 unfold xh at h;refine Goes.fnH Tryz.func254 rfl rfl (m:=40) rfl (rs:=[.tmp 4]) rfl (l:=[(0,vl ZU a),(1,.i b)]) rfl ?_;intro B hB;refine sh fol [(0,vl ZU a),(1,.i b)] ?_;obtain⟨D,F,h⟩:=bnd h;refine sq (gq fol [3] ((0,vl ZU a)::(1,.i b)::(kD D [])) [.cells (D.flatMap ZU.c)] (ac (hs (.run [] (zC ZT 77 (.i (w64 ((a.length:Int)+1))) (.i (w64 ((a.length:Int)+1)))) [] (.slice 0 0 D.length D.length 1) [.cells (D.flatMap ZU.c)] false) (qb0 zM (E:=ZU) (z:=0) rfl (by kernel_rfl) F rfl)) az) ?_);refine sq ?_;refine sh fol ((1,.i b)::(kD D [(12,vl ZU a),(13,.i (a.length:Int)),(14,.i 0)])) ?_;refine Goes.block ?_;obtain⟨I,g6,h⟩:=bnd h;refine Goes.imp (Q:=fun x s'=>(x= .exit 0/\ ∃r,r=I/\Sub s' (ofG 40 (kD r []),[.cells (r.flatMap ZU.c)]))) ?_ ?_
 ·refine Ud (fun M s=> ∃(g:List Int) (d:Int),s=(ofG 40 ((1,.i b)::(kD g ((12,vl ZU a)::(kAN (a.length:Int) d)))),[.cells (g.flatMap ZU.c)])/\zN a b M g d=some I) ?_ (m:=N) ⟨_,_,rfl,g6⟩;rintro M s ⟨g,d,rfl,g6⟩
  cases M with
  |zero=>simp only[zN]at g6;cases g6
  |succ M=>
   rw[zN]at g6;refine sh fol ((1,.i b)::(kD g [(12,vl ZU a),(13,.i (a.length:Int)),(14,.i d),(15,.bool (decide (d<(a.length:Int))))])) ?_;refine sq ?_;refine ihD g6 (fun J g6=>?_) (fun J g6=>?_)
   ·refine Goes.skip ?_;refine sq ?_;obtain⟨K,g9,g6⟩:=bnd g6;refine Goes.imp (Q:=fun x s'=>(x= .normal/\ ∃t,t=K/\Sub s' (ofG 40 ((1,.i b)::(kD t ((12,vl ZU a)::(kAN (a.length:Int) d)))),[.cells (t.flatMap ZU.c)]))) ?_ ?_
    ·refine Goes.block ?_;obtain⟨j,k,g9⟩:=bnd g9;refine sq (gr fol [1,2] ((1,.i b)::(kD g ((6,.i d)::(kAZ j ((12,vl ZU a)::(kAN (a.length:Int) d)))))) (ac (iv zM ZU k) (ac (lv 0 zS ZU k rfl) az)) ?_);obtain⟨u,f,g9⟩:=bnd g9;obtain⟨v,w,g9⟩:=bnd g9;obtain⟨e,n,g9⟩:=bnd g9;refine sq (gq fol [2,3,6,8,9] ((1,.i b)::(kD g ((6,.i d)::(kAZ j ((12,vl ZU a)::(kAN (a.length:Int) d)))))) [.cells (e.flatMap ZU.c)] (ac (hs (.done (.opt (qd ZT 77 (.slice 0 0 g.length g.length 1) (.i d))) (.ptr 0 ((d:Int).toNat*1+0))) (xx zM f)) (ac (hs (.run [0] (ko ZT 214 (.ptr 0 ((d:Int).toNat*1+0))) [.cells (g.flatMap ZU.c)] (.int .u64 u) [.cells (g.flatMap ZU.c)] false) (qcb zS (E:=ZU) (l:=g) rfl rfl f (nl rfl) rfl)) (ac (hs (.done (.opt (ku ZT .shl 214 (.tmp 23) (.tmp 24) (.int .u64 j) (.i b))) (.int .u64 v)) (qf3 w)) (ac (hs (.done (.opt (qd ZT 77 (.slice 0 0 g.length g.length 1) (.i d))) (.ptr 0 ((d:Int).toNat*1+0))) (xx zM f)) (ac (hs (.run [0] (qp ZT 214 (.ptr 0 ((d:Int).toNat*1+0)) (.int .u64 (orI .u64 u v))) [.cells (g.flatMap ZU.c)] .undef [.cells (e.flatMap ZU.c)] true) (vT (E:=ZU) (l:=g) (y:=orI .u64 u v) rfl (show _=some 1 by kernel_rfl) rfl f rfl rfl rfl rfl rfl n rfl)) az))))) ?_);refine Goes.sub (show Sub (ofG 40 ((1,.i b)::(kD g ((6,.i d)::(kAZ j ((12,vl ZU a)::(kAN (a.length:Int) d)))))),[.cells (e.flatMap ZU.c)]) (ofG 40 ((1,.i b)::(kD e ((6,.i d)::(kAZ j ((12,vl ZU a)::(kAN (a.length:Int) d)))))),[.cells (e.flatMap ZU.c)])from(Uc [] [some 0] (by rw[hB];rfl) rfl (.keep (.same nI) (.keep (.sliceE rfl (zn n)) (.keep (.same nI) (.keep (.same nI) (.keep (.same (qg ZU _)) (.keep (.same nI) (.keep (.same nI) .nil))))))) (.ks .nil))) ?_;refine sh fol ((1,.i b)::(kD e ((6,.i d)::(kAZ j [(12,vl ZU a),(13,.i (a.length:Int)),(14,.i d),(29,.bool (decide (b>0)))])))) ?_;refine ihD g9 (fun H g9=>?_) (fun H g9=>?_)
     ·obtain⟨A,C,g9⟩:=bnd g9;obtain⟨L,o,g9⟩:=bnd g9;obtain⟨p,q,g9⟩:=bnd g9;refine gq fol [6,7,8] ((1,.i b)::(kD e ((12,vl ZU a)::(kAN (a.length:Int) d)))) [.cells (p.flatMap ZU.c)] (ac (hs (.done (.opt (ku ZT .shr 214 (.tmp 33) (.tmp 35) (.int .u64 j) (.i (w64 (64-b))))) (.int .u64 A)) (qg5 C)) (ac (hs (.done (.opt (qd ZT 77 (.slice 0 0 e.length e.length 1) (.i (w64 (d+1))))) (.ptr 0 ((w64 (d+1):Int).toNat*1+0))) (xx zM o)) (ac (hs (.run [0] (qp ZT 214 (.ptr 0 ((w64 (d+1):Int).toNat*1+0)) (.int .u64 A)) [.cells (e.flatMap ZU.c)] .undef [.cells (p.flatMap ZU.c)] true) (vT (E:=ZU) (l:=e) (y:=A) rfl (show _=some 1 by kernel_rfl) rfl o rfl rfl rfl rfl rfl q rfl)) az))) ?_;obtain rfl:=si g9;exact⟨rfl,_,rfl,((show Sub (ofG 40 ((1,.i b)::(kD e ((12,vl ZU a)::(kAN (a.length:Int) d)))),[.cells (p.flatMap ZU.c)]) (ofG 40 ((1,.i b)::(kD p ((12,vl ZU a)::(kAN (a.length:Int) d)))),[.cells (p.flatMap ZU.c)])from(Uc [] [some 0] (by rw[hB];rfl) rfl (.keep (.same nI) (.keep (.sliceE rfl (zn q)) (.keep (.same (qg ZU _)) (.keep (.same nI) (.keep (.same nI) .nil))))) (.ks .nil))).trans (Sub.refl _))⟩
     refine Goes.skip ?_;obtain rfl:=si g9;exact⟨rfl,_,rfl,(Sub.keep [1,5,12,13,14] rfl rfl)⟩
    rintro x s' ⟨rfl,t,rfl,hsub⟩;refine Goes.sub hsub ?_;refine gh fol ((1,.i b)::(kD t ((12,vl ZU a)::(kAN (a.length:Int) (w64 (d+1)))))) ?_;exact⟨M,(ofG 40 ((1,.i b)::(kD t ((12,vl ZU a)::(kAN (a.length:Int) (w64 (d+1)))))),[.cells (t.flatMap ZU.c)]),Nat.lt_succ_self _,(Sub.refl _),_,_,rfl,g6⟩
   refine Goes.exit ?_;obtain rfl:=si g6;exact⟨rfl,_,rfl,(Sub.keep [5] rfl rfl)⟩
 rintro x s' ⟨rfl,r,rfl,hsub⟩;refine Goes.sub hsub ?_;refine sh fol [(4,.slice 0 0 r.length r.length 1)] ?_;refine Goes.ret ?_;obtain rfl:=si h;exact(gh2 [.slice 0 0 r.length r.length 1] (qgo.refl _ _))
def yu (e:List Int) (f:Nat) (g:Nat) (a:List Int):Nat->Int->Int->Int->Option Int
 |0,_,_,_=>none
 |K+1,b,c,i=>
  if i=0 then
  (idx a (w64 ((a.length:Int)-2))).bind fun j=>
  (bits_Mul64 b j).bind fun d=>
  (if d.1<c then
  some true
  else
  if d.1=c then
  (qf7 e f g (w64 ((a.length:Int)-2))).bind fun k=>
  some (decide (d.2<=k))
  else
  some false:Option Bool).bind fun l=>
  if l=true then
  some b
  else
  (idx a (w64 ((a.length:Int)-1))).bind fun m=>
  (xZ c m 0).bind fun h=>
  yu e f g a K (wrap .u64 (b-1)) h.1 h.2
  else
  some b
def vz (b:Nat) (e:Nat) (c:List Int) (f:Int):Nat->(List Int)->Int->Int->Int->Option ((List Int)×Int×Int)
 |0,_,_,_,_=>none
 |K+1,d,a,g,h=>
  if a<(c.length:Int)then
  (idx c a).bind fun l=>
  (bits_Mul64 f l).bind fun i=>
  (xZ i.2 h 0).bind fun j=>
  (qf7 d b e a).bind fun m=>
  (qeJ m j.1 g).bind fun k=>
  (put d ((b+(a:Int).toNat:Nat):Int) k.1).bind fun n=>
  vz b e c f K n (w64 (a+1)) k.2 (wrap .u64 (i.1+j.2))
  else
  some (d,g,h)
def vD (b:Nat) (e:Nat) (c:List Int):Nat->(List Int)->Int->Int->Option ((List Int)×Int)
 |0,_,_,_=>none
 |K+1,d,a,f=>
  if a<(c.length:Int)then
  (qf7 d b e a).bind fun h=>
  (idx c a).bind fun i=>
  (xZ h i f).bind fun g=>
  (put d ((b+(a:Int).toNat:Nat):Int) g.1).bind fun j=>
  vD b e c K j (w64 (a+1)) g.2
  else
  some (d,f)
def qbL (N:Nat) (d:List Int) (b:Nat) (c:Nat) (v:Nat) (a:List Int):Option ((List Int)×Int):=
 (qf7 d b c (a.length:Int)).bind fun u=>
 (idx a (w64 ((a.length:Int)-1))).bind fun l=>
 ((if u>=l then
 (qf7 d b c (w64 ((a.length:Int)-1))).bind fun m=>
 (xZ m l 0).bind fun f=>
 some (18446744073709551615,f.1,f.2)
 else
 (qf7 d b c (w64 ((a.length:Int)-1))).bind fun n=>
 (qaW N u n l).bind fun g=>
 some (g.1,g.2,0):Option (Int×Int×Int))).bind fun(w,x,y)=>
 (yu d b c a N w x y).bind fun e=>
 (vz b c a e N d 0 0 0).bind fun(h,o,p)=>
 (qf7 h b c (a.length:Int)).bind fun q=>
 (qeJ q p o).bind fun i=>
 (put h ((b+((a.length:Int):Int).toNat:Nat):Int) i.1).bind fun j=>
 if i.2=0 then
 some (j,e)
 else
 (vD b c a N j 0 0).bind fun(k,r)=>
 (qf7 k b c (a.length:Int)).bind fun s=>
 (put k ((b+((a.length:Int):Int).toNat:Nat):Int) (wrap .u64 (s+r))).bind fun t=>
 some (t,wrap .u64 (e-1))
theorem qhn (N:Nat) (j:List Int) (b:Nat) (d:Nat) (e:Nat) (a:List Int) {l1:List Int} {n2:Int} (h:qbL N j b d e a=some (l1,n2)):qc ZT (.fn 255) [.slice 0 b d e 1,vl ZU a] [.cells (j.flatMap ZU.c)] (.int .u64 n2) [.cells (l1.flatMap ZU.c)]:=by
 unfold qbL at h;refine Goes.fnH Tryz.func255 rfl rfl (m:=186) rfl (rs:=[.tmp 4]) rfl (l:=[(0,.slice 0 b d e 1),(1,vl ZU a)]) rfl ?_;intro B hB;refine sh fol [(0,.slice 0 b d e 1),(1,vl ZU a)] ?_;refine sh fol ((0,.slice 0 b d e 1)::(1,vl ZU a)::(kAt (a.length:Int))) ?_;refine sh fol ((0,.slice 0 b d e 1)::(1,vl ZU a)::(kAt (a.length:Int))) ?_;refine sh fol ((0,.slice 0 b d e 1)::(1,vl ZU a)::(5,.i (a.length:Int))::(kBP [])) ?_;refine sq ?_;obtain⟨x3,L,h⟩:=bnd h;obtain⟨x4,v,h⟩:=bnd h;refine sq (gr fol [2,3,7,8] ((0,.slice 0 b d e 1)::(1,vl ZU a)::(5,.i (a.length:Int))::(kBP [(30,.bool (decide (x3>=x4)))])) (ac (hs (.done (.opt (qd ZT 77 (.slice 0 b d e 1) (.i (a.length:Int)))) (.ptr 0 ((((b+((a.length:Int):Int).toNat:Nat):Int):Int).toNat*1+0))) (qdk zM L)) (ac (hs (.run [0] (ko ZT 214 (.ptr 0 ((((b+((a.length:Int):Int).toNat:Nat):Int):Int).toNat*1+0))) [.cells (j.flatMap ZU.c)] (.int .u64 x3) [.cells (j.flatMap ZU.c)] false) (qcb zS (E:=ZU) (l:=j) rfl rfl (wI L) (nl rfl) rfl)) (ac (iv zM ZU v) (ac (lv 0 zS ZU v rfl) az)))) ?_);obtain⟨r8,g8,h⟩:=bnd h;refine Goes.imp (Q:=fun x s'=>(x= .normal/\ ∃n5 n6 n7,(n5,n6,n7)=r8/\Sub s' (ofG 186 ((0,.slice 0 b d e 1)::(1,vl ZU a)::(kU (a.length:Int) n5 (kAB n6 n7 []))),[.cells (j.flatMap ZU.c)]))) ?_ ?_
 ·refine ihD g8 (fun c9 g8=>?_) (fun c9 g8=>?_)
  ·refine sh fol [(0,.slice 0 b d e 1),(1,vl ZU a),(5,.i (a.length:Int)),(6,.int .u64 18446744073709551615)] ?_;obtain⟨c8,U,g8⟩:=bnd g8;obtain⟨d0,b2,g8⟩:=bnd g8;refine gr fol [3,4,8,9,10] ((0,.slice 0 b d e 1)::(1,vl ZU a)::(5,.i (a.length:Int))::(6,.int .u64 18446744073709551615)::(kAB d0.1 d0.2 [])) (ac (hs (.done (.opt (qd ZT 77 (.slice 0 b d e 1) (.i (w64 ((a.length:Int)-1))))) (.ptr 0 ((((b+(w64 ((a.length:Int)-1):Int).toNat:Nat):Int):Int).toNat*1+0))) (qdk zM U)) (ac (hs (.run [0] (ko ZT 214 (.ptr 0 ((((b+(w64 ((a.length:Int)-1):Int).toNat:Nat):Int):Int).toNat*1+0))) [.cells (j.flatMap ZU.c)] (.int .u64 c8) [.cells (j.flatMap ZU.c)] false) (qcb zS (E:=ZU) (l:=j) rfl rfl (wI U) (nl rfl) rfl)) (ac (iv zM ZU v) (ac (lv 0 zS ZU v rfl) (ac (cv (qcx c8 x4 0 b2)) az))))) ?_;obtain rfl:=si g8;exact⟨rfl,_,_,_,rfl,(Sub.refl _)⟩
  obtain⟨d1,V,g8⟩:=bnd g8;obtain⟨d2,b3,g8⟩:=bnd g8;refine gr fol [2,3,7,8,12,13,14] ((0,.slice 0 b d e 1)::(1,vl ZU a)::(kU (a.length:Int) d2.1 (kAZ d2.2 (kBP [])))) (ac (hs (.done (.opt (qd ZT 77 (.slice 0 b d e 1) (.i (a.length:Int)))) (.ptr 0 ((((b+((a.length:Int):Int).toNat:Nat):Int):Int).toNat*1+0))) (qdk zM L)) (ac (hs (.run [0] (ko ZT 214 (.ptr 0 ((((b+((a.length:Int):Int).toNat:Nat):Int):Int).toNat*1+0))) [.cells (j.flatMap ZU.c)] (.int .u64 x3) [.cells (j.flatMap ZU.c)] false) (qcb zS (E:=ZU) (l:=j) rfl rfl (wI L) (nl rfl) rfl)) (ac (hs (.done (.opt (qd ZT 77 (.slice 0 b d e 1) (.i (w64 ((a.length:Int)-1))))) (.ptr 0 ((((b+(w64 ((a.length:Int)-1):Int).toNat:Nat):Int):Int).toNat*1+0))) (qdk zM V)) (ac (hs (.run [0] (ko ZT 214 (.ptr 0 ((((b+(w64 ((a.length:Int)-1):Int).toNat:Nat):Int):Int).toNat*1+0))) [.cells (j.flatMap ZU.c)] (.int .u64 d1) [.cells (j.flatMap ZU.c)] false) (qcb zS (E:=ZU) (l:=j) rfl rfl (wI V) (nl rfl) rfl)) (ac (iv zM ZU v) (ac (lv 0 zS ZU v rfl) (ac (cv (qfl N x3 d1 x4 b3)) az))))))) ?_;obtain rfl:=si g8;exact⟨rfl,_,_,_,rfl,(Sub.refl _)⟩
 rintro x s' ⟨rfl,n5,n6,n7,rfl,hsub⟩
 try dsimp only at h
 refine Goes.sub hsub ?_;refine sq (Goes.block ?_);obtain⟨d3,g19,h⟩:=bnd h;refine Goes.imp (Q:=fun x s'=>(x= .exit 0/\ ∃f,f=d3/\Sub s' (ofG 186 ((0,.slice 0 b d e 1)::(1,vl ZU a)::(kU (a.length:Int) f [])),[.cells (j.flatMap ZU.c)]))) ?_ ?_
 ·refine Ud (fun M s=> ∃(p:Int) (r:Int) (a5:Int),s=(ofG 186 ((0,.slice 0 b d e 1)::(1,vl ZU a)::(kU (a.length:Int) p (kAB r a5 []))),[.cells (j.flatMap ZU.c)])/\yu j b d a M p r a5=some d3) ?_ (m:=N) ⟨_,_,_,rfl,g19⟩;rintro M s ⟨p,r,a5,rfl,g19⟩
  cases M with
  |zero=>simp only[yu]at g19;cases g19
  |succ M=>
   rw[yu]at g19;refine sq ?_;refine sh fol ((0,.slice 0 b d e 1)::(1,vl ZU a)::(kU (a.length:Int) p (kAZ r [(64,.bool (decide (a5=0)))]))) ?_;refine ihD g19 (fun c20 g19=>?_) (fun c20 g19=>?_)
   ·refine Goes.skip ?_;refine Goes.block ?_;obtain⟨x21,X,g19⟩:=bnd g19;obtain⟨b4,b5,g19⟩:=bnd g19;refine sq (gr fol [4,5,6] ((0,.slice 0 b d e 1)::(1,vl ZU a)::(kU (a.length:Int) p (kAZ r [(9,.int .u64 b4.1),(10,.int .u64 b4.2)]))) (ac (iv zM ZU X) (ac (lv 0 zS ZU X rfl) (ac (cv (qaL p x21 b5)) az))) ?_);refine sq ?_;refine sq ?_;obtain⟨b26,k,g19⟩:=bnd g19;refine Ue (s':=(ofG 186 ((0,.slice 0 b d e 1)::(1,vl ZU a)::(kU (a.length:Int) p (kAZ r [(91,.bool b26)]))),[.cells (j.flatMap ZU.c)])) ?_ ?_
    ·rcases wyD k with⟨a6,k⟩|⟨a6,k⟩
     ·obtain rfl:=si k;exact tr fol [3] ((0,.slice 0 b d e 1)::(1,vl ZU a)::(kU (a.length:Int) p (kAZ r [(91,.bool true)]))) (ac (gw a6) az)
     rcases wyD k with⟨b6,k⟩|⟨b6,k⟩
     ·obtain⟨d4,Y,k⟩:=bnd k;obtain rfl:=si k;exact tr fol [3,7,12,13] ((0,.slice 0 b d e 1)::(1,vl ZU a)::(kU (a.length:Int) p (kAZ r [(91,.bool (decide (b4.2<=d4)))]))) (ac (gw a6) (ac (gw b6) (ac (hs (.done (.opt (qd ZT 77 (.slice 0 b d e 1) (.i (w64 ((a.length:Int)-2))))) (.ptr 0 ((((b+(w64 ((a.length:Int)-2):Int).toNat:Nat):Int):Int).toNat*1+0))) (qdk zM Y)) (ac (hs (.run [0] (ko ZT 214 (.ptr 0 ((((b+(w64 ((a.length:Int)-2):Int).toNat:Nat):Int):Int).toNat*1+0))) [.cells (j.flatMap ZU.c)] (.int .u64 d4) [.cells (j.flatMap ZU.c)] false) (qcb zS (E:=ZU) (l:=j) rfl rfl (wI Y) (nl rfl) rfl)) az))))
     obtain rfl:=si k;exact tr fol [3,7] ((0,.slice 0 b d e 1)::(1,vl ZU a)::(kU (a.length:Int) p (kAZ r [(91,.bool false)]))) (ac (gw a6) (ac (gw b6) az))
    refine ihB g19 (fun c28 g19=>?_) (fun c28 g19=>?_)
    ·refine Goes.exit ?_;obtain rfl:=si g19;exact⟨rfl,_,rfl,(Sub.keep [0,1,5,6] rfl rfl)⟩
    refine Goes.skip ?_;refine sh fol ((0,.slice 0 b d e 1)::(1,vl ZU a)::(kU (a.length:Int) (wrap .u64 (p-1)) (kAZ r []))) ?_;obtain⟨x29,Z,g19⟩:=bnd g19;obtain⟨a7,b7,g19⟩:=bnd g19;refine gr fol [4,5,6] ((0,.slice 0 b d e 1)::(1,vl ZU a)::(kU (a.length:Int) (wrap .u64 (p-1)) (kAB a7.1 a7.2 []))) (ac (iv zM ZU Z) (ac (lv 0 zS ZU Z rfl) (ac (cv (qcx r x29 0 b7)) az))) ?_;exact⟨M,(ofG 186 ((0,.slice 0 b d e 1)::(1,vl ZU a)::(kU (a.length:Int) (wrap .u64 (p-1)) (kAB a7.1 a7.2 []))),[.cells (j.flatMap ZU.c)]),Nat.lt_succ_self _,(Sub.refl _),_,_,_,rfl,g19⟩
   refine Goes.exit ?_;obtain rfl:=si g19;exact⟨rfl,_,rfl,(Sub.keep [0,1,5,6] rfl rfl)⟩
 rintro x s' ⟨rfl,f,rfl,hsub⟩;refine Goes.sub hsub ?_;refine sh fol ((0,.slice 0 b d e 1)::(1,vl ZU a)::(kU (a.length:Int) f [(11,.int .u64 0),(12,.int .u64 0)])) ?_;refine sq ?_;refine sh fol ((0,.slice 0 b d e 1)::(1,vl ZU a)::(kU (a.length:Int) f [(11,.int .u64 0),(12,.int .u64 0),(104,.i (a.length:Int)),(105,.i 0)])) ?_;refine Goes.block ?_;obtain⟨d5,g38,h⟩:=bnd h;refine Goes.imp (Q:=fun x s'=>(x= .exit 2/\ ∃D a8 a9,(D,a8,a9)=d5/\Sub s' (ofG 186 ((0,.slice 0 b d e 1)::(1,vl ZU a)::(kU (a.length:Int) f (kZ a8 a9 []))),[.cells (D.flatMap ZU.c)]))) ?_ ?_
 ·refine Ud (fun M s=> ∃(F:List Int) (g:Int) (t:Int) (G:Int),s=(ofG 186 ((0,.slice 0 b d e 1)::(1,vl ZU a)::(kU (a.length:Int) f (kZ t G (kAo (a.length:Int) g)))),[.cells (F.flatMap ZU.c)])/\vz b d a f M F g t G=some d5) ?_ (m:=N) ⟨_,_,_,_,rfl,g38⟩;rintro M s ⟨F,g,t,G,rfl,g38⟩
  cases M with
  |zero=>simp only[vz]at g38;cases g38
  |succ M=>
   rw[vz]at g38;refine sh fol ((0,.slice 0 b d e 1)::(1,vl ZU a)::(kU (a.length:Int) f (kZ t G [(104,.i (a.length:Int)),(105,.i g),(106,.bool (decide (g<(a.length:Int))))]))) ?_;refine sq ?_;refine ihD g38 (fun c39 g38=>?_) (fun c39 g38=>?_)
   ·refine Goes.skip ?_;refine sq (Goes.block ?_);refine sh fol ((0,.slice 0 b d e 1)::(1,vl ZU a)::(kU (a.length:Int) f (kZ t G ((13,.i g)::(kAo (a.length:Int) g))))) ?_;obtain⟨x40,a0,g38⟩:=bnd g38;obtain⟨q,b8,g38⟩:=bnd g38;refine sq (gr fol [3,4,5] ((0,.slice 0 b d e 1)::(1,vl ZU a)::(kU (a.length:Int) f (kZ t G ((13,.i g)::(kA2 q.1 q.2 (kAo (a.length:Int) g)))))) (ac (iv zM ZU a0) (ac (lv 0 zS ZU a0 rfl) (ac (cv (qaL f x40 b8)) az))) ?_);refine sh fol ((0,.slice 0 b d e 1)::(1,vl ZU a)::(kU (a.length:Int) f (kZ t G ((13,.i g)::(kA2 q.1 q.2 (kAo (a.length:Int) g)))))) ?_;obtain⟨u,b9,g38⟩:=bnd g38;refine sq (gr fol [2] ((0,.slice 0 b d e 1)::(1,vl ZU a)::(kU (a.length:Int) f ((11,.int .u64 t)::(13,.i g)::(kR q.1 u.1 u.2 (kAo (a.length:Int) g))))) (ac (cv (qcx q.2 G 0 b9)) az) ?_);refine sh fol ((0,.slice 0 b d e 1)::(1,vl ZU a)::(kU (a.length:Int) f (kZ t (wrap .u64 (q.1+u.2)) ((13,.i g)::(15,.int .u64 u.1)::(kAo (a.length:Int) g))))) ?_;obtain⟨d6,w,g38⟩:=bnd g38;obtain⟨J,c0,g38⟩:=bnd g38;obtain⟨a1,c1,g38⟩:=bnd g38;refine gq fol [4,5,8,12,13] ((0,.slice 0 b d e 1)::(1,vl ZU a)::(kU (a.length:Int) f (kZ J.2 (wrap .u64 (q.1+u.2)) (kAo (a.length:Int) g)))) [.cells (a1.flatMap ZU.c)] (ac (hs (.done (.opt (qd ZT 77 (.slice 0 b d e 1) (.i g))) (.ptr 0 ((((b+(g:Int).toNat:Nat):Int):Int).toNat*1+0))) (qdk zM w)) (ac (hs (.run [0] (ko ZT 214 (.ptr 0 ((((b+(g:Int).toNat:Nat):Int):Int).toNat*1+0))) [.cells (F.flatMap ZU.c)] (.int .u64 d6) [.cells (F.flatMap ZU.c)] false) (qcb zS (E:=ZU) (l:=F) rfl rfl (wI w) (nl rfl) rfl)) (ac (cv (qhL d6 u.1 t c0)) (ac (hs (.done (.opt (qd ZT 77 (.slice 0 b d e 1) (.i g))) (.ptr 0 ((((b+(g:Int).toNat:Nat):Int):Int).toNat*1+0))) (qdk zM w)) (ac (hs (.run [0] (qp ZT 214 (.ptr 0 ((((b+(g:Int).toNat:Nat):Int):Int).toNat*1+0)) (.int .u64 J.1)) [.cells (F.flatMap ZU.c)] .undef [.cells (a1.flatMap ZU.c)] true) (vT (E:=ZU) (l:=F) (y:=J.1) rfl (show _=some 1 by kernel_rfl) rfl (wI w) rfl rfl rfl rfl rfl c1 rfl)) az))))) ?_;refine Goes.sub (show Sub (ofG 186 ((0,.slice 0 b d e 1)::(1,vl ZU a)::(kU (a.length:Int) f (kZ J.2 (wrap .u64 (q.1+u.2)) (kAo (a.length:Int) g)))),[.cells (a1.flatMap ZU.c)]) (ofG 186 ((0,.slice 0 b d e 1)::(1,vl ZU a)::(kU (a.length:Int) f (kZ J.2 (wrap .u64 (q.1+u.2)) (kAo (a.length:Int) g)))),[.cells (a1.flatMap ZU.c)])from(Uc [] [some 0] (by rw[hB];rfl) rfl (.keep (.slice rfl) (.keep (.same (qg ZU _)) (.keep (.same nI) (.keep (.same nI) (.keep (.same nI) (.keep (.same nI) (.keep (.same nI) (.keep (.same nI) .nil)))))))) (.ks .nil))) ?_;refine gh fol ((0,.slice 0 b d e 1)::(1,vl ZU a)::(kU (a.length:Int) f (kZ J.2 (wrap .u64 (q.1+u.2)) (kAo (a.length:Int) (w64 (g+1)))))) ?_;exact⟨M,(ofG 186 ((0,.slice 0 b d e 1)::(1,vl ZU a)::(kU (a.length:Int) f (kZ J.2 (wrap .u64 (q.1+u.2)) (kAo (a.length:Int) (w64 (g+1)))))),[.cells (a1.flatMap ZU.c)]),Nat.lt_succ_self _,(Sub.refl _),_,_,_,_,rfl,g38⟩
   refine Goes.exit ?_;obtain rfl:=si g38;exact⟨rfl,_,_,_,rfl,(Sub.keep [0,1,5,6,11,12] rfl rfl)⟩
 rintro x s' ⟨rfl,D,a8,a9,rfl,hsub⟩
 try dsimp only at h
 refine Goes.sub hsub ?_;obtain⟨d7,z,h⟩:=bnd h;obtain⟨O,c2,h⟩:=bnd h;obtain⟨b0,c3,h⟩:=bnd h;refine sq (gq fol [4,5,8,12,13] ((0,.slice 0 b d e 1)::(1,vl ZU a)::(kU (a.length:Int) f [(11,.int .u64 O.2)])) [.cells (b0.flatMap ZU.c)] (ac (hs (.done (.opt (qd ZT 77 (.slice 0 b d e 1) (.i (a.length:Int)))) (.ptr 0 ((((b+((a.length:Int):Int).toNat:Nat):Int):Int).toNat*1+0))) (qdk zM z)) (ac (hs (.run [0] (ko ZT 214 (.ptr 0 ((((b+((a.length:Int):Int).toNat:Nat):Int):Int).toNat*1+0))) [.cells (D.flatMap ZU.c)] (.int .u64 d7) [.cells (D.flatMap ZU.c)] false) (qcb zS (E:=ZU) (l:=D) rfl rfl (wI z) (nl rfl) rfl)) (ac (cv (qhL d7 a9 a8 c2)) (ac (hs (.done (.opt (qd ZT 77 (.slice 0 b d e 1) (.i (a.length:Int)))) (.ptr 0 ((((b+((a.length:Int):Int).toNat:Nat):Int):Int).toNat*1+0))) (qdk zM z)) (ac (hs (.run [0] (qp ZT 214 (.ptr 0 ((((b+((a.length:Int):Int).toNat:Nat):Int):Int).toNat*1+0)) (.int .u64 O.1)) [.cells (D.flatMap ZU.c)] .undef [.cells (b0.flatMap ZU.c)] true) (vT (E:=ZU) (l:=D) (y:=O.1) rfl (show _=some 1 by kernel_rfl) rfl (wI z) rfl rfl rfl rfl rfl c3 rfl)) az))))) ?_);refine Goes.sub (show Sub (ofG 186 ((0,.slice 0 b d e 1)::(1,vl ZU a)::(kU (a.length:Int) f [(11,.int .u64 O.2)])),[.cells (b0.flatMap ZU.c)]) (ofG 186 ((0,.slice 0 b d e 1)::(1,vl ZU a)::(kU (a.length:Int) f [(11,.int .u64 O.2)])),[.cells (b0.flatMap ZU.c)])from(Uc [] [some 0] (by rw[hB];rfl) rfl (.keep (.slice rfl) (.keep (.same (qg ZU _)) (.keep (.same nI) (.keep (.same nI) (.keep (.same nI) .nil))))) (.ks .nil))) ?_;refine sq ?_;refine sh fol ((0,.slice 0 b d e 1)::(1,vl ZU a)::(kU (a.length:Int) f [(154,.bool (decide (O.2=0)))])) ?_;refine ihD h (fun c51 h=>?_) (fun c51 h=>?_)
 ·refine sh fol [(4,.int .u64 f)] ?_;refine Goes.ret ?_;simp only[ZI,ZP]at h;obtain⟨rfl,rfl⟩:=h;exact(gh2 [.int .u64 f] (qgo.refl _ _))
 refine Goes.skip ?_;refine sh fol ((0,.slice 0 b d e 1)::(1,vl ZU a)::(kU (a.length:Int) f [(17,.int .u64 0)])) ?_;refine sq ?_;refine sh fol ((0,.slice 0 b d e 1)::(1,vl ZU a)::(kU (a.length:Int) f [(17,.int .u64 0),(156,.i (a.length:Int)),(157,.i 0)])) ?_;refine Goes.block ?_;obtain⟨d8,n,h⟩:=bnd h;refine Goes.imp (Q:=fun x s'=>(x= .exit 4/\ ∃H a2,(H,a2)=d8/\Sub s' (ofG 186 ((0,.slice 0 b d e 1)::(kU (a.length:Int) f [(17,.int .u64 a2)])),[.cells (H.flatMap ZU.c)]))) ?_ ?_
 ·refine Ud (fun M s=> ∃(I:List Int) (o:Int) (P:Int),s=(ofG 186 ((0,.slice 0 b d e 1)::(1,vl ZU a)::(kU (a.length:Int) f (kAs P (a.length:Int) o []))),[.cells (I.flatMap ZU.c)])/\vD b d a M I o P=some d8) ?_ (m:=N) ⟨_,_,_,rfl,n⟩;rintro M s ⟨I,o,P,rfl,n⟩
  cases M with
  |zero=>simp only[vD]at n;cases n
  |succ M=>
   rw[vD]at n;refine sh fol ((0,.slice 0 b d e 1)::(1,vl ZU a)::(kU (a.length:Int) f (kAs P (a.length:Int) o [(158,.bool (decide (o<(a.length:Int))))]))) ?_;refine sq ?_;refine ihD n (fun c58 n=>?_) (fun c58 n=>?_)
   ·refine Goes.skip ?_;refine sq (Goes.block ?_);refine sh fol ((0,.slice 0 b d e 1)::(1,vl ZU a)::(kU (a.length:Int) f [(17,.int .u64 P),(18,.i o),(156,.i (a.length:Int)),(157,.i o)])) ?_;obtain⟨d9,A,n⟩:=bnd n;obtain⟨x60,a3,n⟩:=bnd n;obtain⟨K,c4,n⟩:=bnd n;obtain⟨a4,c5,n⟩:=bnd n;refine gq fol [4,5,8,9,11,15,16] ((0,.slice 0 b d e 1)::(1,vl ZU a)::(kU (a.length:Int) f (kAs K.2 (a.length:Int) o []))) [.cells (a4.flatMap ZU.c)] (ac (hs (.done (.opt (qd ZT 77 (.slice 0 b d e 1) (.i o))) (.ptr 0 ((((b+(o:Int).toNat:Nat):Int):Int).toNat*1+0))) (qdk zM A)) (ac (hs (.run [0] (ko ZT 214 (.ptr 0 ((((b+(o:Int).toNat:Nat):Int):Int).toNat*1+0))) [.cells (I.flatMap ZU.c)] (.int .u64 d9) [.cells (I.flatMap ZU.c)] false) (qcb zS (E:=ZU) (l:=I) rfl rfl (wI A) (nl rfl) rfl)) (ac (iv zM ZU a3) (ac (lv 0 zS ZU a3 rfl) (ac (cv (qcx d9 x60 P c4)) (ac (hs (.done (.opt (qd ZT 77 (.slice 0 b d e 1) (.i o))) (.ptr 0 ((((b+(o:Int).toNat:Nat):Int):Int).toNat*1+0))) (qdk zM A)) (ac (hs (.run [0] (qp ZT 214 (.ptr 0 ((((b+(o:Int).toNat:Nat):Int):Int).toNat*1+0)) (.int .u64 K.1)) [.cells (I.flatMap ZU.c)] .undef [.cells (a4.flatMap ZU.c)] true) (vT (E:=ZU) (l:=I) (y:=K.1) rfl (show _=some 1 by kernel_rfl) rfl (wI A) rfl rfl rfl rfl rfl c5 rfl)) az))))))) ?_;refine Goes.sub (show Sub (ofG 186 ((0,.slice 0 b d e 1)::(1,vl ZU a)::(kU (a.length:Int) f (kAs K.2 (a.length:Int) o []))),[.cells (a4.flatMap ZU.c)]) (ofG 186 ((0,.slice 0 b d e 1)::(1,vl ZU a)::(kU (a.length:Int) f (kAs K.2 (a.length:Int) o []))),[.cells (a4.flatMap ZU.c)])from(Uc [] [some 0] (by rw[hB];rfl) rfl (.keep (.slice rfl) (.keep (.same (qg ZU _)) (.keep (.same nI) (.keep (.same nI) (.keep (.same nI) (.keep (.same nI) (.keep (.same nI) .nil))))))) (.ks .nil))) ?_;refine gh fol ((0,.slice 0 b d e 1)::(1,vl ZU a)::(kU (a.length:Int) f (kAs K.2 (a.length:Int) (w64 (o+1)) []))) ?_;exact⟨M,(ofG 186 ((0,.slice 0 b d e 1)::(1,vl ZU a)::(kU (a.length:Int) f (kAs K.2 (a.length:Int) (w64 (o+1)) []))),[.cells (a4.flatMap ZU.c)]),Nat.lt_succ_self _,(Sub.refl _),_,_,_,rfl,n⟩
   refine Goes.exit ?_;obtain rfl:=si n;exact⟨rfl,_,_,rfl,(Sub.keep [0,5,6,17] rfl rfl)⟩
 rintro x s' ⟨rfl,H,a2,rfl,hsub⟩
 try dsimp only at h
 refine Goes.sub hsub ?_;obtain⟨c6,C,h⟩:=bnd h;obtain⟨b1,c7,h⟩:=bnd h;refine sq (gq fol [2,3,6,7] (kAJ f []) [.cells (b1.flatMap ZU.c)] (ac (hs (.done (.opt (qd ZT 77 (.slice 0 b d e 1) (.i (a.length:Int)))) (.ptr 0 ((((b+((a.length:Int):Int).toNat:Nat):Int):Int).toNat*1+0))) (qdk zM C)) (ac (hs (.run [0] (ko ZT 214 (.ptr 0 ((((b+((a.length:Int):Int).toNat:Nat):Int):Int).toNat*1+0))) [.cells (H.flatMap ZU.c)] (.int .u64 c6) [.cells (H.flatMap ZU.c)] false) (qcb zS (E:=ZU) (l:=H) rfl rfl (wI C) (nl rfl) rfl)) (ac (hs (.done (.opt (qd ZT 77 (.slice 0 b d e 1) (.i (a.length:Int)))) (.ptr 0 ((((b+((a.length:Int):Int).toNat:Nat):Int):Int).toNat*1+0))) (qdk zM C)) (ac (hs (.run [0] (qp ZT 214 (.ptr 0 ((((b+((a.length:Int):Int).toNat:Nat):Int):Int).toNat*1+0)) (.int .u64 (wrap .u64 (c6+a2)))) [.cells (H.flatMap ZU.c)] .undef [.cells (b1.flatMap ZU.c)] true) (vT (E:=ZU) (l:=H) (y:=wrap .u64 (c6+a2)) rfl (show _=some 1 by kernel_rfl) rfl (wI C) rfl rfl rfl rfl rfl c7 rfl)) az)))) ?_);refine Goes.sub (show Sub (ofG 186 (kAJ f []),[.cells (b1.flatMap ZU.c)]) (ofG 186 (kAJ f []),[.cells (b1.flatMap ZU.c)])from(Uc [] [some 0] (by rw[hB];rfl) rfl (.keep (.same nI) .nil) (.ks .nil))) ?_;refine sh fol [(4,.int .u64 (wrap .u64 (f-1)))] ?_;refine Goes.ret ?_;simp only[ZI,ZP]at h;obtain⟨rfl,rfl⟩:=h;exact(gh2 [.int .u64 (wrap .u64 (f-1))] (qgo.refl _ _))
def vV (N:Nat) (a:List Int) (b:List Int):Nat->(List Int)->Int->Int->Option ((List Int)×Int)
 |0,_,_,_=>none
 |K+1,e,i,c=>
  if c>=0 then
  (idx a c).bind fun f=>
  (idx b 0).bind fun g=>
  (qaW N i f g).bind fun d=>
  (idx e c).bind fun j=>
  (put e c d.1).bind fun h=>
  vV N a b K h d.2 (w64 (c-1))
  else
  some (e,i)
def vY (N:Nat) (c:List Int):Nat->(List Int)->(List Int)->Int->Option ((List Int)×(List Int))
 |0,_,_,_=>none
 |K+1,b,d,a=>
  if a>=0 then
  (win b a (w64 ((w64 (a+(c.length:Int)))+1))).bind fun(e,g)=>
  (qbL N b e g (b.length-e) c).bind fun(f,h)=>
  ((if b.length=f.length then some ()else none:Option Unit)).bind fun j=>
  (idx d a).bind fun k=>
  (put d a h).bind fun i=>
  vY N c K f i (w64 (a-1))
  else
  some (b,d)
def jR (c:Int) (e:List Int):Nat->(List Int)->Int->Option (List Int)
 |0,_,_=>none
 |K+1,d,a=>
  if a<(e.length:Int)then
  (((idx d a).bind fun f=>
  (qkA .u64 f c).bind fun g=>
  (put d a g).bind fun b=>
  (if c>0 then
  some (decide ((w64 (a+1))<(b.length:Int)))
  else
  some false:Option Bool).bind fun h=>
  if h=true then
  (idx b a).bind fun i=>
  (idx b (w64 (a+1))).bind fun j=>
  (qib .u64 j (w64 (64-c))).bind fun k=>
  (put b a (orI .u64 i k)).bind fun l=>
  some l
  else
  some b:Option (List Int))).bind fun m=>
  jR c e K m (w64 (a+1))
  else
  some d
def qaY (N:Nat) (a:List Int) (b:List Int):Option ((List Int)×(List Int)):=
 (jK N a b).bind fun q=>
 if q<0 then
 some ([],a)
 else
 if(b.length:Int)=1 then
 (mk 8 (a.length:Int) 0).bind fun r=>
 (vV N a b N r 0 (w64 ((a.length:Int)-1))).bind fun(s,t)=>
 (y9 N s).bind fun e=>
 (y9 N ([t]:List Int)).bind fun f=>
 some (e,f)
 else
 (idx b (w64 ((b.length:Int)-1))).bind fun g=>
 (bits_LeadingZeros64 g).bind fun d=>
 (xh N b d).bind fun h=>
 (y9 N h).bind fun c=>
 (xh N a d).bind fun i=>
 (mk 8 (w64 ((w64 ((a.length:Int)-(c.length:Int)))+1)) 0).bind fun j=>
 (vY N c N i j (w64 ((a.length:Int)-(c.length:Int)))).bind fun(k,l)=>
 (jR d c N k 0).bind fun m=>
 (y9 N l).bind fun n=>
 (cut m 0 (c.length:Int)).bind fun o=>
 (y9 N o).bind fun p=>
 some (n,p)
theorem qe9 (N:Nat) (a:List Int) (b:List Int) {res:(List Int)×(List Int)} (h:qaY N a b=some res):qc ZT (.fn 210) [vl ZU a,vl ZU b] [] (.tuple [vl ZU res.1,vl ZU res.2]) []:=by
 unfold qaY at h;refine Ub Tryz.func210 rfl rfl (m:=137) rfl (rs:=[.tmp 4,.tmp 5]) rfl (l:=[(0,vl ZU a),(1,vl ZU b)]) rfl ?_;refine sh fol [(0,vl ZU a),(1,vl ZU b)] ?_;refine sq ?_;obtain⟨r1,e_r1,h⟩:=bnd h;refine sq (gr fol [2] [(0,vl ZU a),(1,vl ZU b),(19,.bool (decide (r1<0)))] (ac (cv (qb1 N a b e_r1)) az) ?_);refine ihD h (fun c2 h=>?_) (fun c2 h=>?_)
 ·refine sh fol [(4,.nilslice),(5,vl ZU a)] ?_;refine Goes.ret ?_;obtain rfl:=si h;exact(gw2 [.nilslice,vl ZU a] (FzW.tuple (qf.cons (FzW.nilv (E:=ZU)) (qf.cons (Ua (qw ZU _ (nl rfl))) qf.nil))))
 refine Goes.skip ?_;refine sq ?_;refine sh fol [(0,vl ZU a),(1,vl ZU b),(23,.bool (decide ((b.length:Int)=1)))] ?_;refine ihD h (fun c3 h=>?_) (fun c3 h=>?_)
 ·obtain⟨l4,e_l4,h⟩:=bnd h;refine sq (gq fol [2] ((0,vl ZU a)::(1,vl ZU b)::(kT l4 [])) [.cells (l4.flatMap ZU.c)] (ac (hs (.run [] (zC ZT 77 (.i (a.length:Int)) (.i (a.length:Int))) [] (.slice 0 0 l4.length l4.length 1) [.cells (l4.flatMap ZU.c)] false) (qb0 zM (E:=ZU) (z:=0) rfl (by kernel_rfl) e_l4 rfl)) az) ?_);refine sh fol ((0,vl ZU a)::(1,vl ZU b)::(kT l4 [(7,.int .u64 0)])) ?_;refine sq ?_;refine sh fol ((0,vl ZU a)::(1,vl ZU b)::(kT l4 ((7,.int .u64 0)::(kBH (w64 ((a.length:Int)-1)))))) ?_;refine Goes.block ?_;obtain⟨r10,g10,h⟩:=bnd h;refine Goes.imp (Q:=fun x s'=>(x= .exit 0/\ ∃K n9,(K,n9)=r10/\Sub s' (ofG 137 (kT K (kAZ n9 [])),[.cells (K.flatMap ZU.c)]))) ?_ ?_
  ·refine Ud (fun M s=> ∃(L:List Int) (n6:Int) (G:Int),s=(ofG 137 ((0,vl ZU a)::(1,vl ZU b)::(kT L (kAZ n6 (kBH G)))),[.cells (L.flatMap ZU.c)])/\vV N a b M L n6 G=some r10) ?_ (m:=N) ⟨_,_,_,rfl,g10⟩;rintro M s ⟨L,n6,G,rfl,g10⟩
   cases M with
   |zero=>simp only[vV]at g10;cases g10
   |succ M=>
    rw[vV]at g10;refine sq ?_;refine sh fol ((0,vl ZU a)::(1,vl ZU b)::(kT L (kAZ n6 [(8,.i G),(31,.bool (decide (G>=0)))]))) ?_;refine ihD g10 (fun c11 g10=>?_) (fun c11 g10=>?_)
    ·refine Goes.skip ?_;refine sq (Goes.block ?_);obtain⟨x12,O,g10⟩:=bnd g10;obtain⟨x13,P,g10⟩:=bnd g10;obtain⟨D,e_r14,g10⟩:=bnd g10;obtain⟨x15,U,g10⟩:=bnd g10;obtain⟨B,V,g10⟩:=bnd g10;refine gq fol [5,6,8,9,10,14,15] ((0,vl ZU a)::(1,vl ZU b)::(kT L (kAZ D.2 (kBH G)))) [.cells (B.flatMap ZU.c)] (ac (iv zM ZU O) (ac (lv 0 zS ZU O rfl) (ac (iv zM ZU P) (ac (lv 0 zS ZU P rfl) (ac (cv (qfl N n6 x12 x13 e_r14)) (ac (hs (.done (.opt (qd ZT 77 (.slice 0 0 L.length L.length 1) (.i G))) (.ptr 0 ((G:Int).toNat*1+0))) (xx zM U)) (ac (hs (.run [0] (qp ZT 214 (.ptr 0 ((G:Int).toNat*1+0)) (.int .u64 D.1)) [.cells (L.flatMap ZU.c)] .undef [.cells (B.flatMap ZU.c)] true) (vT (E:=ZU) (l:=L) (y:=D.1) rfl (show _=some 1 by kernel_rfl) rfl U rfl rfl rfl rfl rfl V rfl)) az))))))) ?_;refine Goes.sub (show Sub (ofG 137 ((0,vl ZU a)::(1,vl ZU b)::(kT L (kAZ D.2 (kBH G)))),[.cells (B.flatMap ZU.c)]) (ofG 137 ((0,vl ZU a)::(1,vl ZU b)::(kT B (kAZ D.2 (kBH G)))),[.cells (B.flatMap ZU.c)])from(Uc [] [some 0] rfl rfl (.keep (.same (qg ZU _)) (.keep (.same (qg ZU _)) (.keep (.sliceE rfl (zn V)) (.keep (.same nI) (.keep (.same nI) .nil))))) (.ks .nil))) ?_;refine gh fol ((0,vl ZU a)::(1,vl ZU b)::(kT B (kAZ D.2 (kBH (w64 (G-1)))))) ?_;exact⟨M,(ofG 137 ((0,vl ZU a)::(1,vl ZU b)::(kT B (kAZ D.2 (kBH (w64 (G-1)))))),[.cells (B.flatMap ZU.c)]),Nat.lt_succ_self _,(Sub.refl _),_,_,_,rfl,g10⟩
    refine Goes.exit ?_;obtain rfl:=si g10;exact⟨rfl,_,_,rfl,(Sub.keep [6,7] rfl rfl)⟩
  rintro x s' ⟨rfl,K,n9,rfl,hsub⟩
  try dsimp only at h
  refine Goes.sub hsub ?_;obtain⟨X,e_r17,h⟩:=bnd h;obtain⟨Y,e_r18,h⟩:=bnd h;refine sq (gq fol [1,4] [(4,vl ZU X),(5,vl ZU Y)] [.frozen (K.flatMap ZU.c),.frozen [.int .u64 n9]] (ac (hs (.callF 252 [.slice 0 0 K.length K.length 1] [.cells (K.flatMap ZU.c)] [0] [vl ZU K] (vl ZU X)) (qaZ (FzL.cons (Fz.sl (E:=ZU) rfl rfl (nl rfl)) FzL.nil) (xz N K e_r17) (qw ZU _ (nl rfl)))) (ac (hs (.callF 252 [.slice 1 0 1 1 1] [.frozen (K.flatMap ZU.c),.cells [.int .u64 n9]] [1] [vl ZU ([n9]:List Int)] (vl ZU Y)) (qaZ (FzL.cons (Fz.lit rfl rfl (Uj (AllST.cons tI AllST.nil))) FzL.nil) (xz N ([n9]:List Int) e_r18) (qw ZU _ (nl rfl)))) az)) ?_);refine Goes.sub (show Sub (ofG 137 [(4,vl ZU X),(5,vl ZU Y)],[.frozen (K.flatMap ZU.c),.frozen [.int .u64 n9]]) (ofG 137 [(4,vl ZU X),(5,vl ZU Y)],[])from(Uc [] [] rfl rfl (.keep (.same (qg ZU _)) (.keep (.same (qg ZU _)) .nil)) .nil)) ?_;refine Goes.ret ?_;obtain rfl:=si h;exact(gw2 [vl ZU X,vl ZU Y] (FzW.tuple (qf.cons (Ua (qw ZU _ (nl rfl))) (qf.cons (Ua (qw ZU _ (nl rfl))) qf.nil))))
 refine Goes.skip ?_;obtain⟨x19,Z,h⟩:=bnd h;obtain⟨g,e_r20,h⟩:=bnd h;refine sq (gr fol [4,5,6] [(0,vl ZU a),(1,vl ZU b),(9,.i g)] (ac (iv zM ZU Z) (ac (lv 0 zS ZU Z rfl) (ac (cv (qbi x19 e_r20)) az))) ?_);obtain⟨u,e_r21,h⟩:=bnd h;obtain⟨d,e_r23,h⟩:=bnd h;refine sq (gq fol [2,3] [(0,vl ZU a),(9,.i g),(10,vl ZU d)] [.frozen (u.flatMap ZU.c)] (ac (hs (.callH 254 [vl ZU b,.i g] [] [] (.slice 0 0 u.length u.length 1) [.cells (u.flatMap ZU.c)]) (qew [] [some 0] (qcO N b g e_r21) .nil rfl rfl (.new rfl rfl (.same fa) rfl .nil) (rc (.same (qg ZU _)) (rc (.same nI) rn)) (.slice rfl) rfl)) (ac (hs (.callF 252 [.slice 0 0 u.length u.length 1] [.cells (u.flatMap ZU.c)] [0] [vl ZU u] (vl ZU d)) (qaZ (FzL.cons (Fz.sl (E:=ZU) rfl rfl (nl rfl)) FzL.nil) (xz N u e_r23) (qw ZU _ (nl rfl)))) az)) ?_);refine Goes.sub (show Sub (ofG 137 [(0,vl ZU a),(9,.i g),(10,vl ZU d)],[.frozen (u.flatMap ZU.c)]) (ofG 137 [(0,vl ZU a),(9,.i g),(10,vl ZU d)],[])from(Uc [] [] rfl rfl (.keep (.same (qg ZU _)) (.keep (.same nI) (.keep (.same (qg ZU _)) .nil))) .nil)) ?_;obtain⟨q,e_r24,h⟩:=bnd h;refine sq (gq fol [2] [(0,vl ZU a),(9,.i g),(10,vl ZU d),(11,.slice 0 0 q.length q.length 1)] [.cells (q.flatMap ZU.c)] (ac (hs (.callH 254 [vl ZU a,.i g] [] [] (.slice 0 0 q.length q.length 1) [.cells (q.flatMap ZU.c)]) (qew [] [some 0] (qcO N a g e_r24) .nil rfl rfl (.new rfl rfl (.same fa) rfl .nil) (rc (.same (qg ZU _)) (rc (.same nI) rn)) (.slice rfl) rfl)) az) ?_);refine sh fol [(0,vl ZU a),(9,.i g),(10,vl ZU d),(11,.slice 0 0 q.length q.length 1),(12,.i (d.length:Int))] ?_;obtain⟨H,e_l26,h⟩:=bnd h;refine sq (gq fol [5] ((0,vl ZU a)::(9,.i g)::(10,vl ZU d)::(kF q (d.length:Int) H [])) [.cells (q.flatMap ZU.c),.cells (H.flatMap ZU.c)] (ac (hs (.run [] (zC ZT 77 (.i (w64 ((w64 ((a.length:Int)-(d.length:Int)))+1))) (.i (w64 ((w64 ((a.length:Int)-(d.length:Int)))+1)))) [.cells (q.flatMap ZU.c)] (.slice 1 0 H.length H.length 1) [.cells (q.flatMap ZU.c),.cells (H.flatMap ZU.c)] false) (qb0 zM (E:=ZU) (z:=0) rfl (by kernel_rfl) e_l26 rfl)) az) ?_);refine sq ?_;refine sh fol ((9,.i g)::(10,vl ZU d)::(kF q (d.length:Int) H [(14,.i (w64 ((a.length:Int)-(d.length:Int))))])) ?_;refine Goes.block ?_;obtain⟨r32,g32,h⟩:=bnd h;refine Goes.imp (Q:=fun x s'=>(x= .exit 2/\ ∃a0 e,(a0,e)=r32/\Sub s' (ofG 137 ((9,.i g)::(kF a0 (d.length:Int) e [])),[.cells (a0.flatMap ZU.c),.cells (e.flatMap ZU.c)]))) ?_ ?_
 ·refine Ud (fun M s=> ∃(p:List Int) (r:List Int) (o:Int),s=(ofG 137 ((9,.i g)::(10,vl ZU d)::(kF p (d.length:Int) r [(14,.i o)])),[.cells (p.flatMap ZU.c),.cells (r.flatMap ZU.c)])/\vY N d M p r o=some r32) ?_ (m:=N) ⟨_,_,_,rfl,g32⟩;rintro M s ⟨p,r,o,rfl,g32⟩
  cases M with
  |zero=>simp only[vY]at g32;cases g32
  |succ M=>
   rw[vY]at g32;refine sq ?_;refine sh fol ((9,.i g)::(10,vl ZU d)::(kF p (d.length:Int) r [(14,.i o),(81,.bool (decide (o>=0)))])) ?_;refine ihD g32 (fun c33 g32=>?_) (fun c33 g32=>?_)
   ·refine Goes.skip ?_;refine sq (Goes.block ?_);obtain⟨⟨I,n36⟩,e_w34,g32⟩:=bnd g32
    try dsimp only at g32
    obtain⟨⟨v,n39⟩,e_r37,g32⟩:=bnd g32
    try dsimp only at g32
    obtain⟨u40,e_u40,g32⟩:=bnd g32;obtain⟨x41,a1,g32⟩:=bnd g32;obtain⟨C,a2,g32⟩:=bnd g32;refine gq fol [8,10,11,12] ((9,.i g)::(10,vl ZU d)::(kF p (d.length:Int) r [(14,.i o)])) [.cells (v.flatMap ZU.c),.cells (C.flatMap ZU.c)] (ac (hs (.done (.opt (qK ZT 77 (.slice 0 0 p.length p.length 1) (some (.i o)) (some (.i (w64 ((w64 (o+(d.length:Int)))+1)))) none)) (.slice 0 I n36 (p.length-I) 1)) (wn_ix zM e_w34)) (ac (hs (.callH 255 [.slice 0 I n36 (p.length-I) 1,vl ZU d] [.cells (p.flatMap ZU.c),.cells (r.flatMap ZU.c)] [0] (.int .u64 n39) [.cells (v.flatMap ZU.c),.cells (r.flatMap ZU.c)]) (qew [some 0] [some 0,none] (qhn N p I n36 (p.length-I) d e_r37) (.ks .nil) rfl rfl (.back rfl rfl (.same fa) rfl (.old rfl rfl .nil)) (rc (.slice rfl) (rc (.same (qg ZU _)) rn)) (.same nI) rfl)) (ac (hs (.done (.opt (qd ZT 77 (.slice 1 0 r.length r.length 1) (.i o))) (.ptr 1 ((o:Int).toNat*1+0))) (xx zM a1)) (ac (hs (.run [1] (qp ZT 214 (.ptr 1 ((o:Int).toNat*1+0)) (.int .u64 n39)) [.cells (v.flatMap ZU.c),.cells (r.flatMap ZU.c)] .undef [.cells (v.flatMap ZU.c),.cells (C.flatMap ZU.c)] true) (vT (E:=ZU) (l:=r) (y:=n39) rfl (show _=some 1 by kernel_rfl) rfl a1 rfl rfl rfl rfl rfl a2 rfl)) az)))) ?_;refine Goes.sub (show Sub (ofG 137 ((9,.i g)::(10,vl ZU d)::(kF p (d.length:Int) r [(14,.i o)])),[.cells (v.flatMap ZU.c),.cells (C.flatMap ZU.c)]) (ofG 137 ((9,.i g)::(10,vl ZU d)::(kF v (d.length:Int) C [(14,.i o)])),[.cells (v.flatMap ZU.c),.cells (C.flatMap ZU.c)])from(Uc [] [some 0,some 1] rfl rfl (.keep (.same nI) (.keep (.same (qg ZU _)) (.keep (.sliceE rfl (qqv e_u40)) (.keep (.same nI) (.keep (.sliceE rfl (zn a2)) (.keep (.same nI) .nil)))))) (.ks (.ks .nil)))) ?_;refine gh fol ((9,.i g)::(10,vl ZU d)::(kF v (d.length:Int) C [(14,.i (w64 (o-1)))])) ?_;exact⟨M,(ofG 137 ((9,.i g)::(10,vl ZU d)::(kF v (d.length:Int) C [(14,.i (w64 (o-1)))])),[.cells (v.flatMap ZU.c),.cells (C.flatMap ZU.c)]),Nat.lt_succ_self _,(Sub.refl _),_,_,_,rfl,g32⟩
   refine Goes.exit ?_;obtain rfl:=si g32;exact⟨rfl,_,_,rfl,(Sub.keep [9,11,12,13] rfl rfl)⟩
 rintro x s' ⟨rfl,a0,e,rfl,hsub⟩
 try dsimp only at h
 refine Goes.sub hsub ?_;refine sq ?_;refine sh fol ((9,.i g)::(kF a0 (d.length:Int) e [(96,.i (d.length:Int)),(97,.i 0)])) ?_;refine Goes.block ?_;obtain⟨r46,g46,h⟩:=bnd h;refine Goes.imp (Q:=fun x s'=>(x= .exit 4/\ ∃J,J=r46/\Sub s' (ofG 137 (kF J (d.length:Int) e []),[.cells (J.flatMap ZU.c),.cells (e.flatMap ZU.c)]))) ?_ ?_
 ·refine Ud (fun M s=> ∃(n:List Int) (f:Int),s=(ofG 137 ((9,.i g)::(kF n (d.length:Int) e (kAy (d.length:Int) f))),[.cells (n.flatMap ZU.c),.cells (e.flatMap ZU.c)])/\jR g d M n f=some r46) ?_ (m:=N) ⟨_,_,rfl,g46⟩;rintro M s ⟨n,f,rfl,g46⟩
  cases M with
  |zero=>simp only[jR]at g46;cases g46
  |succ M=>
   rw[jR]at g46;refine sh fol ((9,.i g)::(kF n (d.length:Int) e [(96,.i (d.length:Int)),(97,.i f),(98,.bool (decide (f<(d.length:Int))))])) ?_;refine sq ?_;refine ihD g46 (fun c47 g46=>?_) (fun c47 g46=>?_)
   ·refine Goes.skip ?_;refine sq ?_;obtain⟨r49,k,g46⟩:=bnd g46;refine Goes.imp (Q:=fun x s'=>(x= .normal/\ ∃F,F=r49/\Sub s' (ofG 137 ((9,.i g)::(kF F (d.length:Int) e (kAy (d.length:Int) f))),[.cells (F.flatMap ZU.c),.cells (e.flatMap ZU.c)]))) ?_ ?_
    ·refine Goes.block ?_;refine sh fol ((9,.i g)::(kF n (d.length:Int) e ((15,.i f)::(kAy (d.length:Int) f)))) ?_;obtain⟨x50,w,k⟩:=bnd k;obtain⟨q51,e_q51,k⟩:=bnd k;obtain⟨j,a3,k⟩:=bnd k;refine sq (gq fol [2,3,5,6,7] ((9,.i g)::(kF n (d.length:Int) e ((15,.i f)::(kAy (d.length:Int) f)))) [.cells (j.flatMap ZU.c),.cells (e.flatMap ZU.c)] (ac (hs (.done (.opt (qd ZT 77 (.slice 0 0 n.length n.length 1) (.i f))) (.ptr 0 ((f:Int).toNat*1+0))) (xx zM w)) (ac (hs (.run [0] (ko ZT 214 (.ptr 0 ((f:Int).toNat*1+0))) [.cells (n.flatMap ZU.c),.cells (e.flatMap ZU.c)] (.int .u64 x50) [.cells (n.flatMap ZU.c),.cells (e.flatMap ZU.c)] false) (qcb zS (E:=ZU) (l:=n) rfl rfl w (nl rfl) rfl)) (ac (hs (.done (.opt (ku ZT .shr 214 (.tmp 103) (.tmp 104) (.int .u64 x50) (.i g))) (.int .u64 q51)) (qg5 e_q51)) (ac (hs (.done (.opt (qd ZT 77 (.slice 0 0 n.length n.length 1) (.i f))) (.ptr 0 ((f:Int).toNat*1+0))) (xx zM w)) (ac (hs (.run [0] (qp ZT 214 (.ptr 0 ((f:Int).toNat*1+0)) (.int .u64 q51)) [.cells (n.flatMap ZU.c),.cells (e.flatMap ZU.c)] .undef [.cells (j.flatMap ZU.c),.cells (e.flatMap ZU.c)] true) (vT (E:=ZU) (l:=n) (y:=q51) rfl (show _=some 1 by kernel_rfl) rfl w rfl rfl rfl rfl rfl a3 rfl)) az))))) ?_);refine Goes.sub (show Sub (ofG 137 ((9,.i g)::(kF n (d.length:Int) e ((15,.i f)::(kAy (d.length:Int) f)))),[.cells (j.flatMap ZU.c),.cells (e.flatMap ZU.c)]) (ofG 137 ((9,.i g)::(kF j (d.length:Int) e ((15,.i f)::(kAy (d.length:Int) f)))),[.cells (j.flatMap ZU.c),.cells (e.flatMap ZU.c)])from(Uc [] [some 0,some 1] rfl rfl (.keep (.same nI) (.keep (.sliceE rfl (zn a3)) (.keep (.same nI) (.keep (.slice rfl) (.keep (.same nI) (.keep (.same nI) (.keep (.same nI) .nil))))))) (.ks (.ks .nil)))) ?_;refine sq ?_;obtain⟨b54,t,k⟩:=bnd k;refine Ue (s':=(ofG 137 ((9,.i g)::(kF j (d.length:Int) e [(15,.i f),(96,.i (d.length:Int)),(97,.i f),(115,.bool b54)])),[.cells (j.flatMap ZU.c),.cells (e.flatMap ZU.c)])) ?_ ?_
     ·rcases wyD t with⟨c53,t⟩|⟨c53,t⟩
      ·obtain rfl:=si t;exact tr fol [2] ((9,.i g)::(kF j (d.length:Int) e [(15,.i f),(96,.i (d.length:Int)),(97,.i f),(115,.bool (decide ((w64 (f+1))<(j.length:Int))))])) (ac (gw c53) az)
      obtain rfl:=si t;exact tr fol [2] ((9,.i g)::(kF j (d.length:Int) e [(15,.i f),(96,.i (d.length:Int)),(97,.i f),(115,.bool false)])) (ac (gw c53) az)
     refine ihB k (fun c56 k=>?_) (fun c56 k=>?_)
     ·obtain⟨x57,A,k⟩:=bnd k;obtain⟨x58,a4,k⟩:=bnd k;obtain⟨q59,e_q59,k⟩:=bnd k;obtain⟨a5,a6,k⟩:=bnd k;refine gq fol [2,3,7,8,11,13,14] ((9,.i g)::(kF j (d.length:Int) e (kAy (d.length:Int) f))) [.cells (a5.flatMap ZU.c),.cells (e.flatMap ZU.c)] (ac (hs (.done (.opt (qd ZT 77 (.slice 0 0 j.length j.length 1) (.i f))) (.ptr 0 ((f:Int).toNat*1+0))) (xx zM A)) (ac (hs (.run [0] (ko ZT 214 (.ptr 0 ((f:Int).toNat*1+0))) [.cells (j.flatMap ZU.c),.cells (e.flatMap ZU.c)] (.int .u64 x57) [.cells (j.flatMap ZU.c),.cells (e.flatMap ZU.c)] false) (qcb zS (E:=ZU) (l:=j) rfl rfl A (nl rfl) rfl)) (ac (hs (.done (.opt (qd ZT 77 (.slice 0 0 j.length j.length 1) (.i (w64 (f+1))))) (.ptr 0 ((w64 (f+1):Int).toNat*1+0))) (xx zM a4)) (ac (hs (.run [0] (ko ZT 214 (.ptr 0 ((w64 (f+1):Int).toNat*1+0))) [.cells (j.flatMap ZU.c),.cells (e.flatMap ZU.c)] (.int .u64 x58) [.cells (j.flatMap ZU.c),.cells (e.flatMap ZU.c)] false) (qcb zS (E:=ZU) (l:=j) rfl rfl a4 (nl rfl) rfl)) (ac (hs (.done (.opt (ku ZT .shl 214 (.tmp 124) (.tmp 126) (.int .u64 x58) (.i (w64 (64-g))))) (.int .u64 q59)) (qf3 e_q59)) (ac (hs (.done (.opt (qd ZT 77 (.slice 0 0 j.length j.length 1) (.i f))) (.ptr 0 ((f:Int).toNat*1+0))) (xx zM A)) (ac (hs (.run [0] (qp ZT 214 (.ptr 0 ((f:Int).toNat*1+0)) (.int .u64 (orI .u64 x57 q59))) [.cells (j.flatMap ZU.c),.cells (e.flatMap ZU.c)] .undef [.cells (a5.flatMap ZU.c),.cells (e.flatMap ZU.c)] true) (vT (E:=ZU) (l:=j) (y:=orI .u64 x57 q59) rfl (show _=some 1 by kernel_rfl) rfl A rfl rfl rfl rfl rfl a6 rfl)) az))))))) ?_;obtain rfl:=si k;exact⟨rfl,_,rfl,((show Sub (ofG 137 ((9,.i g)::(kF j (d.length:Int) e (kAy (d.length:Int) f))),[.cells (a5.flatMap ZU.c),.cells (e.flatMap ZU.c)]) (ofG 137 ((9,.i g)::(kF a5 (d.length:Int) e (kAy (d.length:Int) f))),[.cells (a5.flatMap ZU.c),.cells (e.flatMap ZU.c)])from(Uc [] [some 0,some 1] rfl rfl (.keep (.same nI) (.keep (.sliceE rfl (zn a6)) (.keep (.same nI) (.keep (.slice rfl) (.keep (.same nI) (.keep (.same nI) .nil)))))) (.ks (.ks .nil)))).trans (Sub.refl _))⟩
     refine Goes.skip ?_;obtain rfl:=si k;exact⟨rfl,_,rfl,(Sub.keep [9,11,12,13,96,97] rfl rfl)⟩
    rintro x s' ⟨rfl,F,rfl,hsub⟩;refine Goes.sub hsub ?_;refine gh fol ((9,.i g)::(kF F (d.length:Int) e (kAy (d.length:Int) (w64 (f+1))))) ?_;exact⟨M,(ofG 137 ((9,.i g)::(kF F (d.length:Int) e (kAy (d.length:Int) (w64 (f+1))))),[.cells (F.flatMap ZU.c),.cells (e.flatMap ZU.c)]),Nat.lt_succ_self _,(Sub.refl _),_,_,rfl,g46⟩
   refine Goes.exit ?_;obtain rfl:=si g46;exact⟨rfl,_,rfl,(Sub.keep [11,12,13] rfl rfl)⟩
 rintro x s' ⟨rfl,J,rfl,hsub⟩;refine Goes.sub hsub ?_;refine sq (Goes.sub (s':=(ofG 137 [(11,vl ZU J),(12,.i (d.length:Int)),(13,.slice 0 0 e.length e.length 1)],[.cells (e.flatMap ZU.c)])) (Uc [0] [some 1] rfl rfl (.keep (.frz (Fz.sl (E:=ZU) rfl rfl (nl rfl)) (qg ZU _)) (.keep (.same nI) (.keep (.slice rfl) .nil))) (.ks .nil)) ?_);obtain⟨a7,e_r62,h⟩:=bnd h;obtain⟨s63,e_s63,h⟩:=bnd h;obtain⟨a8,e_r64,h⟩:=bnd h;refine gq fol [1,4,5] [(4,vl ZU a7),(5,vl ZU a8)] [.frozen (e.flatMap ZU.c)] (ac (hs (.callF 252 [.slice 0 0 e.length e.length 1] [.cells (e.flatMap ZU.c)] [0] [vl ZU e] (vl ZU a7)) (qaZ (FzL.cons (Fz.sl (E:=ZU) rfl rfl (nl rfl)) FzL.nil) (xz N e e_r62) (qw ZU _ (nl rfl)))) (ac (hs (.done (.opt (qK ZT 77 (vl ZU J) none (some (.i (d.length:Int))) none)) (vl ZU s63)) (qmD zM (E:=ZU) rfl none (some (d.length:Int)) e_s63)) (ac (cv (xz N s63 e_r64)) az))) ?_;refine Goes.sub (show Sub (ofG 137 [(4,vl ZU a7),(5,vl ZU a8)],[.frozen (e.flatMap ZU.c)]) (ofG 137 [(4,vl ZU a7),(5,vl ZU a8)],[])from(Uc [] [] rfl rfl (.keep (.same (qg ZU _)) (.keep (.same (qg ZU _)) .nil)) .nil)) ?_;refine Goes.ret ?_;obtain rfl:=si h;exact(gw2 [vl ZU a7,vl ZU a8] (FzW.tuple (qf.cons (Ua (qw ZU _ (nl rfl))) (qf.cons (Ua (qw ZU _ (nl rfl))) qf.nil))))
def jv (N:Nat) (a:qo) (b:qo):Option (qo×qo):=
 (if a.w.isEmpty=true then
 if b.w.isEmpty=true then
 some (!decide (a.s=(-9223372036854775808)))
 else
 some false
 else
 some false:Option Bool).bind fun r=>
 if r=true then
 (qco .i64 a.s b.s).bind fun q=>
 (qeG .i64 a.s b.s).bind fun i=>
 ((if i<0 then
 some (w64 (q-1),w64 (i+b.s))
 else
 some (q,i):Option (Int×Int))).bind fun(t,u)=>
 some ((⟨t,[]⟩:qo),(⟨u,[]⟩:qo))
 else
 (qG a).bind fun d=>
 (qG b).bind fun j=>
 (qaY N d.2 j.2).bind fun f=>
 (jX d.1 f.1).bind fun e=>
 (jX d.1 f.2).bind fun c=>
 (ky c).bind fun k=>
 ((if k<0 then
 (qcm 1).bind fun l=>
 (xq N e l).bind fun g=>
 (vH N c b).bind fun h=>
 some (g.s,g.w,h.s,h.w)
 else
 some (e.s,e.w,c.s,c.w):Option (Int×(List Int)×Int×(List Int)))).bind fun(m,n,o,p)=>
 some ((⟨m,n⟩:qo),(⟨o,p⟩:qo))
theorem qcQ (N:Nat) (a:qo) (b:qo) {res:qo×qo} (h:jv N a b=some res):qc ZT (.fn 167) [.agg (nz1 a),.agg (nz1 b)] [] (.tuple [.agg (nz1 res.1),.agg (nz1 res.2)]) []:=by
 unfold jv at h;refine Ub Tryz.func167 rfl rfl (m:=84) rfl (rs:=[.cell 4 79,.cell 5 79]) rfl (l:=[(0,.agg (nz1 a)),(1,.agg (nz1 b))]) rfl ?_;refine sg fol (kG [(5,.ptr 3 0)]) [.cells (nz1 a),.cells (nz1 b),bZ,bZ] ?_;refine sq ?_;refine sq ?_;obtain⟨b3,c,h⟩:=bnd h;refine Ue (s':=(ofG 84 (kG [(5,.ptr 3 0),(28,.bool b3)]),[.cells (nz1 a),.cells (nz1 b),bZ,bZ])) ?_ ?_
 ·rcases wyB c with⟨L,c⟩|⟨L,c⟩
  ·rcases wyB c with⟨O,c⟩|⟨O,c⟩
   ·obtain rfl:=si c;exact tr fol [2,3,6,8] (kG [(5,.ptr 3 0),(28,.bool (!decide (a.s=(-9223372036854775808))))]) (ac (hs (.done (.opt (ku ZT .eql 77 (.tmp 17) (.const (.slice none 0 0)) (nvl ZU a.w) .nilslice)) (.bool a.w.isEmpty)) (qaG qaC)) (ac (gw L) (ac (hs (.done (.opt (ku ZT .eql 77 (.tmp 21) (.const (.slice none 0 0)) (nvl ZU b.w) .nilslice)) (.bool b.w.isEmpty)) (qaG qaC)) (ac (gw O) az))))
   obtain rfl:=si c;exact tr fol [2,3,6,8] (kG [(5,.ptr 3 0),(28,.bool false)]) (ac (hs (.done (.opt (ku ZT .eql 77 (.tmp 17) (.const (.slice none 0 0)) (nvl ZU a.w) .nilslice)) (.bool a.w.isEmpty)) (qaG qaC)) (ac (gw L) (ac (hs (.done (.opt (ku ZT .eql 77 (.tmp 21) (.const (.slice none 0 0)) (nvl ZU b.w) .nilslice)) (.bool b.w.isEmpty)) (qaG qaC)) (ac (gw O) az))))
  obtain rfl:=si c;exact tr fol [2,3] (kG [(5,.ptr 3 0),(28,.bool false)]) (ac (hs (.done (.opt (ku ZT .eql 77 (.tmp 17) (.const (.slice none 0 0)) (nvl ZU a.w) .nilslice)) (.bool a.w.isEmpty)) (qaG qaC)) (ac (gw L) az))
 refine ihB h (fun c5 h=>?_) (fun c5 h=>?_)
 ·obtain⟨M,F,h⟩:=bnd h;obtain⟨G,H,h⟩:=bnd h;refine sq (gr fol [4,9] (kAW (kAS M G [])) (ac (hs (.done (.opt (ku ZT .quo 3 (.tmp 30) (.tmp 32) (.i a.s) (.i b.s))) (.i M)) (qb2 F)) (ac (hs (.done (.opt (ku ZT .rem 3 (.tmp 35) (.tmp 37) (.i a.s) (.i b.s))) (.i G)) (qfN H)) az)) ?_);refine sq ?_;refine sh fol (kAW (kAS M G [(40,.bool (decide (G<0)))])) ?_;obtain⟨P,g10,h⟩:=bnd h;refine Goes.imp (Q:=fun x s'=>(x= .normal/\ ∃I J,(I,J)=P/\Sub s' (ofG 84 (kAk ((5,.ptr 1 0)::(kAS I J []))),[bZ,bZ]))) ?_ ?_
  ·refine ihD g10 (fun U g10=>?_) (fun U g10=>?_)
   ·refine gh fol ((4,.ptr 2 0)::(5,.ptr 3 0)::(kAS (w64 (M-1)) (w64 (G+b.s)) [])) ?_;obtain rfl:=si g10;exact⟨rfl,_,_,rfl,(Uc [] [some 2,some 3] rfl rfl (.kp (.kp (.keep (.same nI) (.keep (.same nI) .nil)))) (.kb rfl (.same sn) (.kb rfl (.same sn) .nil)))⟩
   refine Goes.skip ?_;obtain rfl:=si g10;exact⟨rfl,_,_,rfl,(Uc [] [some 2,some 3] rfl rfl (.drop (.kp (.kp (.keep (.same nI) (.keep (.same nI) .nil))))) (.kb rfl (.same sn) (.kb rfl (.same sn) .nil)))⟩
  rintro x s' ⟨rfl,I,J,rfl,hsub⟩
  try dsimp only at h
  refine Goes.sub hsub ?_;refine sg fol (kAk [(5,.ptr 1 0)]) (.cells [.i I,.nilslice]::(kAz J)) ?_;refine Goes.ret ?_;obtain rfl:=si h;exact(gw2 [.agg [.i I,.nilslice],.agg [.i J,.nilslice]] (FzW.tuple (qf.cons (FzW.agg (qf.cons (Ua tI) (qf.cons (Us (E:=ZU)) qf.nil))) (qf.cons (FzW.agg (qf.cons (Ua tI) (qf.cons (Us (E:=ZU)) qf.nil))) qf.nil))))
 refine Goes.skip ?_;obtain⟨j,r,h⟩:=bnd h;refine sq (gr fol [1] (kAW [(8,.bool j.1),(9,vl ZU j.2)]) (ac (cv (zH a r)) az) ?_);obtain⟨K,t,h⟩:=bnd h;refine sq (gr fol [1] (kAW [(8,.bool j.1),(9,vl ZU j.2),(11,vl ZU K.2)]) (ac (cv (zH b t)) az) ?_);obtain⟨q,u,h⟩:=bnd h;refine sq (gr fol [2] (kAW [(8,.bool j.1),(12,vl ZU q.1),(13,vl ZU q.2)]) (ac (cv (qe9 N j.2 K.2 u)) az) ?_);obtain⟨o,v,h⟩:=bnd h;obtain⟨k,y,h⟩:=bnd h;refine sq (gq fol [2,5,8,9] (kAW [(14,.ptr 4 0),(15,.ptr 5 0)]) [.cells (nz1 a),.cells (nz1 b),bZ,bZ,.cells (nz1 o),.cells (nz1 k)] (ac (cv (qan j.1 q.1 v)) (ac (cv (qan j.1 q.2 y)) (ac (hs (.run [4] (qp ZT 79 (.ptr 4 0) (.agg (nz1 o))) [.cells (nz1 a),.cells (nz1 b),bZ,bZ,bZ,bZ] .undef [.cells (nz1 a),.cells (nz1 b),bZ,bZ,.cells (nz1 o),bZ] true) (kg (n:=2) (by kernel_rfl) rfl rfl rfl rfl (cac rfl (cac nvc can)) rfl)) (ac (hs (.run [5] (qp ZT 79 (.ptr 5 0) (.agg (nz1 k))) [.cells (nz1 a),.cells (nz1 b),bZ,bZ,.cells (nz1 o),bZ] .undef [.cells (nz1 a),.cells (nz1 b),bZ,bZ,.cells (nz1 o),.cells (nz1 k)] true) (kg (n:=2) (by kernel_rfl) rfl rfl rfl rfl (cac rfl (cac nvc can)) rfl)) az)))) ?_);refine sq ?_;obtain⟨V,z,h⟩:=bnd h;refine sq (gr fol [1] (kAW [(14,.ptr 4 0),(15,.ptr 5 0),(75,.bool (decide (V<0)))]) (ac (cv (xO k z)) az) ?_);obtain⟨X,g22,h⟩:=bnd h;refine Goes.imp (Q:=fun x s'=>(x= .normal/\ ∃d e f g,(d,e,f,g)=X/\Sub s' (ofG 84 (kAk [(5,.ptr 1 0),(14,.ptr 2 0),(15,.ptr 3 0)]),[bZ,bZ,.cells (ni1 d e),.cells (ni1 f g)]))) ?_ ?_
 ·refine ihD g22 (fun Y g22=>?_) (fun Y g22=>?_)
  ·obtain⟨Z,A,g22⟩:=bnd g22;obtain⟨p,B,g22⟩:=bnd g22;obtain⟨C,D,g22⟩:=bnd g22;refine gq fol [1,2,5,6,7] [(4,.ptr 2 0),(5,.ptr 3 0),(14,.ptr 4 0),(15,.ptr 5 0)] [.cells (nz1 a),.cells (nz1 b),bZ,bZ,.cells (nz1 p),.cells (nz1 C)] (ac (cv (qby 1 A)) (ac (cv (qeB N o Z B)) (ac (cv (qac N k b D)) (ac (hs (.run [4] (qp ZT 79 (.ptr 4 0) (.agg (nz1 p))) [.cells (nz1 a),.cells (nz1 b),bZ,bZ,.cells (nz1 o),.cells (nz1 k)] .undef [.cells (nz1 a),.cells (nz1 b),bZ,bZ,.cells (nz1 p),.cells (nz1 k)] true) (kg (n:=2) (by kernel_rfl) rfl rfl rfl rfl (cac rfl (cac nvc can)) rfl)) (ac (hs (.run [5] (qp ZT 79 (.ptr 5 0) (.agg (nz1 C))) [.cells (nz1 a),.cells (nz1 b),bZ,bZ,.cells (nz1 p),.cells (nz1 k)] .undef [.cells (nz1 a),.cells (nz1 b),bZ,bZ,.cells (nz1 p),.cells (nz1 C)] true) (kg (n:=2) (by kernel_rfl) rfl rfl rfl rfl (cac rfl (cac nvc can)) rfl)) az))))) ?_;obtain rfl:=si g22;exact⟨rfl,_,_,_,_,rfl,(Uc [] [some 2,some 3,some 4,some 5] rfl rfl (.kp (.kp (.kp (.kp .nil)))) (.kb rfl (.same sn) (.kb rfl (.same sn) (.kb rfl (.same sn) (.kb rfl (.same sn) .nil)))))⟩
  refine Goes.skip ?_;obtain rfl:=si g22;exact⟨rfl,_,_,_,_,rfl,(Uc [] [some 2,some 3,some 4,some 5] rfl rfl (.drop (.kp (.kp (.kp (.kp .nil))))) (.kb rfl (.same sn) (.kb rfl (.same sn) (.kb rfl (.same sn) (.kb rfl (.same sn) .nil)))))⟩
 rintro x s' ⟨rfl,d,e,f,g,rfl,hsub⟩
 try dsimp only at h
 refine Goes.sub hsub ?_;refine sq (gq fol [2,3] (kAk [(5,.ptr 1 0)]) [.cells (ni1 d e),.cells (ni1 f g),.cells (ni1 d e),.cells (ni1 f g)] (ac (hs (.run [0] (qp ZT 79 (.ptr 0 0) (.agg (ni1 d e))) [bZ,bZ,.cells (ni1 d e),.cells (ni1 f g)] .undef [.cells (ni1 d e),bZ,.cells (ni1 d e),.cells (ni1 f g)] true) (kg (n:=2) (by kernel_rfl) rfl rfl rfl rfl (cac rfl (cac nvc can)) rfl)) (ac (hs (.run [1] (qp ZT 79 (.ptr 1 0) (.agg (ni1 f g))) [.cells (ni1 d e),bZ,.cells (ni1 d e),.cells (ni1 f g)] .undef [.cells (ni1 d e),.cells (ni1 f g),.cells (ni1 d e),.cells (ni1 f g)] true) (kg (n:=2) (by kernel_rfl) rfl rfl rfl rfl (cac rfl (cac nvc can)) rfl)) az)) ?_);refine Goes.ret ?_;obtain rfl:=si h;exact(gw2 [.agg (ni1 d e),.agg (ni1 f g)] (FzW.tuple (qf.cons (FzW.agg (qf.cons (Ua tI) (qf.cons (Ua (qm ZU _ (nl rfl))) qf.nil))) (qf.cons (FzW.agg (qf.cons (Ua tI) (qf.cons (Ua (qm ZU _ (nl rfl))) qf.nil))) qf.nil))))
def yz (N:Nat):Nat->Int->(List Int)->Int->(List Int)->Option (Int×(List Int))
 |0,_,_,_,_=>none
 |K+1,e,f,b,c=>
  (ky (⟨b,c⟩:qo)).bind fun d=>
  if(!decide (d=0))=true then
  (jv N (⟨e,f⟩:qo) (⟨b,c⟩:qo)).bind fun a=>
  yz N K b c a.2.s a.2.w
  else
  some (e,f)
def qcN (N:Nat) (a:qo) (b:qo):Option qo:=
 (qa0 a).bind fun c=>
 (qa0 b).bind fun d=>
 (yz N N c.s c.w d.s d.w).bind fun(e,f)=>
 some (⟨e,f⟩:qo)
theorem qh3 (N:Nat) (a:qo) (b:qo) {res:qo} (h:qcN N a b=some res):qc ZT (.fn 95) [.agg (nz1 a),.agg (nz1 b)] [] (.agg (nz1 res)) []:=by
 unfold qcN at h;refine Ub Tryz.func95 rfl rfl (m:=23) rfl (rs:=[.cell 4 79]) rfl (l:=[(0,.agg (nz1 a)),(1,.agg (nz1 b))]) rfl ?_;refine sg fol (kG []) [.cells (nz1 a),.cells (nz1 b),bZ] ?_;obtain⟨p,q,h⟩:=bnd h;obtain⟨t,r,h⟩:=bnd h;refine sq (gq fol [1,3,4,5] (kG []) [.cells (nz1 p),.cells (nz1 t),bZ] (ac (cv (qeh a q)) (ac (cv (qeh b r)) (ac (hs (.run [0] (qp ZT 79 (.ptr 0 0) (.agg (nz1 p))) [.cells (nz1 a),.cells (nz1 b),bZ] .undef [.cells (nz1 p),.cells (nz1 b),bZ] true) (kg (n:=2) (by kernel_rfl) rfl rfl rfl rfl (cac rfl (cac nvc can)) rfl)) (ac (hs (.run [1] (qp ZT 79 (.ptr 1 0) (.agg (nz1 t))) [.cells (nz1 p),.cells (nz1 b),bZ] .undef [.cells (nz1 p),.cells (nz1 t),bZ] true) (kg (n:=2) (by kernel_rfl) rfl rfl rfl rfl (cac rfl (cac nvc can)) rfl)) az)))) ?_);refine sq (Goes.block ?_);obtain⟨w,g9,h⟩:=bnd h;refine Goes.imp (Q:=fun x s'=>(x= .exit 0/\ ∃f g,(f,g)=w/\Sub s' (ofG 23 (kAE kA3),[.cells (ni1 f g),bZ]))) ?_ ?_
 ·refine Ud (fun M s=> ∃(i:Int) (j:List Int) (d:Int) (e:List Int),s=(ofG 23 (kG []),[.cells (ni1 i j),.cells (ni1 d e),bZ])/\yz N M i j d e=some w) ?_ (m:=N) ⟨_,_,_,_,rfl,g9⟩;rintro M s ⟨i,j,d,e,rfl,g9⟩
  cases M with
  |zero=>simp only[yz]at g9;cases g9
  |succ M=>
   rw[yz]at g9;refine sq ?_;obtain⟨u,k,g9⟩:=bnd g9;refine sq (gr fol [1] (kG (kBC (!decide (u=0)))) (ac (cv (xO (⟨d,e⟩:qo) k)) az) ?_);refine ihB g9 (fun v g9=>?_) (fun v g9=>?_)
   ·refine Goes.skip ?_;refine Goes.block ?_;obtain⟨c,o,g9⟩:=bnd g9;refine sq (gq fol [2,8,9] (kG [(6,.ptr 4 0)]) [.cells (ni1 i j),.cells (ni1 d e),bZ,.cells (nz1 c.1),.cells (nz1 c.2)] (ac (cv (qcQ N (⟨i,j⟩:qo) (⟨d,e⟩:qo) o)) (ac (hs (.run [3] (qp ZT 79 (.ptr 3 0) (.agg (nz1 c.1))) [.cells (ni1 i j),.cells (ni1 d e),bZ,bZ,bZ] .undef [.cells (ni1 i j),.cells (ni1 d e),bZ,.cells (nz1 c.1),bZ] true) (kg (n:=2) (by kernel_rfl) rfl rfl rfl rfl (cac rfl (cac nvc can)) rfl)) (ac (hs (.run [4] (qp ZT 79 (.ptr 4 0) (.agg (nz1 c.2))) [.cells (ni1 i j),.cells (ni1 d e),bZ,.cells (nz1 c.1),bZ] .undef [.cells (ni1 i j),.cells (ni1 d e),bZ,.cells (nz1 c.1),.cells (nz1 c.2)] true) (kg (n:=2) (by kernel_rfl) rfl rfl rfl rfl (cac rfl (cac nvc can)) rfl)) az))) ?_);refine gq fol [2,3] (kG []) [.cells (ni1 d e),.cells (nz1 c.2),bZ,.cells (nz1 c.1),.cells (nz1 c.2)] (ac (hs (.run [0] (qp ZT 79 (.ptr 0 0) (.agg (ni1 d e))) [.cells (ni1 i j),.cells (ni1 d e),bZ,.cells (nz1 c.1),.cells (nz1 c.2)] .undef [.cells (ni1 d e),.cells (ni1 d e),bZ,.cells (nz1 c.1),.cells (nz1 c.2)] true) (kg (n:=2) (by kernel_rfl) rfl rfl rfl rfl (cac rfl (cac nvc can)) rfl)) (ac (hs (.run [1] (qp ZT 79 (.ptr 1 0) (.agg (nz1 c.2))) [.cells (ni1 d e),.cells (ni1 d e),bZ,.cells (nz1 c.1),.cells (nz1 c.2)] .undef [.cells (ni1 d e),.cells (nz1 c.2),bZ,.cells (nz1 c.1),.cells (nz1 c.2)] true) (kg (n:=2) (by kernel_rfl) rfl rfl rfl rfl (cac rfl (cac nvc can)) rfl)) az)) ?_;exact⟨M,(ofG 23 (kG []),[.cells (ni1 d e),.cells (nz1 c.2),bZ]),Nat.lt_succ_self _,(Uc [] [some 0,some 1,some 2] rfl rfl (.kp (.kp (.kp .nil))) (.kb rfl (.same sn) (.kb rfl (.same sn) (.kb rfl (.same sn) .nil)))),_,_,_,_,rfl,g9⟩
   refine Goes.exit ?_;obtain rfl:=si g9;exact⟨rfl,_,_,rfl,(Uc [] [some 0,some 2] rfl rfl (.kp (.drop (.kp .nil))) (.kb rfl (.same sn) (.kb rfl (.same sn) .nil)))⟩
 rintro x s' ⟨rfl,f,g,rfl,hsub⟩
 try dsimp only at h
 refine Goes.sub hsub ?_;refine sq (gq fol [1] kA3 [.cells (ni1 f g),.cells (ni1 f g)] (ac (hs (.run [1] (qp ZT 79 (.ptr 1 0) (.agg (ni1 f g))) [.cells (ni1 f g),bZ] .undef [.cells (ni1 f g),.cells (ni1 f g)] true) (kg (n:=2) (by kernel_rfl) rfl rfl rfl rfl (cac rfl (cac nvc can)) rfl)) az) ?_);refine Goes.ret ?_;obtain rfl:=si h;exact(gw2 [.agg (ni1 f g)] (FzW.agg (qf.cons (Ua tI) (qf.cons (Ua (qm ZU _ (nl rfl))) qf.nil))))
def strings_HasPrefix (b:Str) (a:Str):Option Bool:=
 (stringslite_HasPrefix b a).bind fun c=>
 some c
theorem qex (b:Str) (a:Str) {res:Bool} (h:strings_HasPrefix b a=some res):qc ZT (.fn 168) [.str b,.str a] [] (.bool res) []:=by
 unfold strings_HasPrefix at h;refine Ub Tryz.func168 rfl rfl (m:=8) rfl (rs:=[.tmp 4]) rfl (l:=(kV b a [])) rfl ?_;refine sh fol (kV b a []) ?_;obtain⟨d,c,h⟩:=bnd h;refine sq (gr fol [2] (kAq d) (ac (cv (yT b a c)) az) ?_);refine Goes.ret ?_;obtain rfl:=si h;exact(gw2 [.bool d] (Ua tB))
def stringslite_TrimPrefix (b:Str) (a:Str):Option Str:=
 (stringslite_HasPrefix b a).bind fun c=>
 if c=true then
 (cut b (a.length:Int) (b.length:Int)).bind fun d=>
 some d
 else
 some b
theorem qcH (b:Str) (a:Str) {res:Str} (h:stringslite_TrimPrefix b a=some res):qc ZT (.fn 212) [.str b,.str a] [] (.str res) []:=by
 unfold stringslite_TrimPrefix at h;refine Ub Tryz.func212 rfl rfl (m:=13) rfl (rs:=[.tmp 4]) rfl (l:=(kV b a [])) rfl ?_;refine sh fol (kV b a []) ?_;refine sq ?_;obtain⟨f,c,h⟩:=bnd h;refine sq (gr fol [2] (kV b a [(7,.bool f)]) (ac (cv (yT b a c)) az) ?_);refine ihB h (fun g h=>?_) (fun g h=>?_)
 ·obtain⟨e,d,h⟩:=bnd h;refine sq (gr fol [3] (kBO e) (ac (hs (.done (.opt (qK ZT 9 (.str b) (some (.i (a.length:Int))) none none)) (.str e)) (ja st9 (some (a.length:Int)) none d)) az) ?_);refine Goes.ret ?_;obtain rfl:=si h;exact(gw2 [.str e] (Ua tS))
 refine Goes.skip ?_;refine sh fol (kBO b) ?_;refine Goes.ret ?_;obtain rfl:=si h;exact(gw2 [.str b] (Ua tS))
def strings_TrimPrefix (b:Str) (a:Str):Option Str:=
 (stringslite_TrimPrefix b a).bind fun c=>
 some c
theorem qbs (b:Str) (a:Str) {res:Str} (h:strings_TrimPrefix b a=some res):qc ZT (.fn 169) [.str b,.str a] [] (.str res) []:=by
 unfold strings_TrimPrefix at h;refine Ub Tryz.func169 rfl rfl (m:=8) rfl (rs:=[.tmp 4]) rfl (l:=(kV b a [])) rfl ?_;refine sh fol (kV b a []) ?_;obtain⟨d,c,h⟩:=bnd h;refine sq (gr fol [2] (kBO d) (ac (cv (qcH b a c)) az) ?_);refine Goes.ret ?_;obtain rfl:=si h;exact(gw2 [.str d] (Ua tS))
def jE (b:List Int) (l:Int) (g:Int):Nat->(List Int)->Int->Int->Option ((List Int)×Int)
 |0,_,_,_=>none
 |K+1,h,a,c=>
  if a<(b.length:Int)then
  (idx b a).bind fun i=>
  (bits_Mul64 l i).bind fun d=>
  (idx h (w64 (g+a))).bind fun j=>
  (xZ d.2 j 0).bind fun e=>
  (xZ e.1 c 0).bind fun f=>
  (put h (w64 (g+a)) f.1).bind fun k=>
  jE b l g K k (w64 (a+1)) (wrap .u64 ((wrap .u64 (d.1+e.2))+f.2))
  else
  some (h,c)
def jF (N:Nat) (a:List Int) (b:List Int):Nat->(List Int)->Int->Option (List Int)
 |0,_,_=>none
 |K+1,g,c=>
  if c<(a.length:Int)then
  (idx a c).bind fun h=>
  (jE b h c N g 0 0).bind fun(d,e)=>
  (idx d (w64 (c+(b.length:Int)))).bind fun i=>
  (put d (w64 (c+(b.length:Int))) e).bind fun f=>
  jF N a b K f (w64 (c+1))
  else
  some g
def qav (N:Nat) (a:List Int) (b:List Int):Option (List Int):=
 (mk 8 (w64 ((a.length:Int)+(b.length:Int))) 0).bind fun d=>
 (jF N a b N d 0).bind fun e=>
 (y9 N e).bind fun c=>
 some c
theorem qgY (N:Nat) (a:List Int) (b:List Int) {res:List Int} (h:qav N a b=some res):qc ZT (.fn 216) [vl ZU a,vl ZU b] [] (vl ZU res) []:=by
 unfold qav at h;refine Ub Tryz.func216 rfl rfl (m:=80) rfl (rs:=[.tmp 4]) rfl (l:=[(0,vl ZU a),(1,vl ZU b)]) rfl ?_;refine sh fol [(0,vl ZU a),(1,vl ZU b)] ?_;obtain⟨L,O,h⟩:=bnd h;refine sq (gq fol [5] ((0,vl ZU a)::(1,vl ZU b)::(kD L [])) [.cells (L.flatMap ZU.c)] (ac (hs (.run [] (zC ZT 77 (.i (w64 ((a.length:Int)+(b.length:Int)))) (.i (w64 ((a.length:Int)+(b.length:Int))))) [] (.slice 0 0 L.length L.length 1) [.cells (L.flatMap ZU.c)] false) (qb0 zM (E:=ZU) (z:=0) rfl (by kernel_rfl) O rfl)) az) ?_);refine sq ?_;refine sh fol ((1,vl ZU b)::(kD L [(20,vl ZU a),(21,.i (a.length:Int)),(22,.i 0)])) ?_;refine Goes.block ?_;obtain⟨Y,g5,h⟩:=bnd h;refine Goes.imp (Q:=fun x s'=>(x= .exit 0/\ ∃u,u=Y/\Sub s' (ofG 80 (kD u []),[.cells (u.flatMap ZU.c)]))) ?_ ?_
 ·refine Ud (fun M s=> ∃(F:List Int) (d:Int),s=(ofG 80 ((1,vl ZU b)::(kD F ((20,vl ZU a)::(kAD (a.length:Int) d [])))),[.cells (F.flatMap ZU.c)])/\jF N a b M F d=some Y) ?_ (m:=N) ⟨_,_,rfl,g5⟩;rintro M s ⟨F,d,rfl,g5⟩
  cases M with
  |zero=>simp only[jF]at g5;cases g5
  |succ M=>
   rw[jF]at g5;refine sh fol ((1,vl ZU b)::(kD F ((20,vl ZU a)::(kAD (a.length:Int) d [(23,.bool (decide (d<(a.length:Int))))])))) ?_;refine sq ?_;refine ihD g5 (fun Z g5=>?_) (fun Z g5=>?_)
   ·refine Goes.skip ?_;refine sq (Goes.block ?_);obtain⟨q,G,g5⟩:=bnd g5;refine sq (gr fol [1,2] ((1,vl ZU b)::(kD F ((6,.i d)::(kAZ q ((20,vl ZU a)::(kAD (a.length:Int) d [])))))) (ac (iv zM ZU G) (ac (lv 0 zS ZU G rfl) az)) ?_);refine sh fol ((1,vl ZU b)::(kD F ((6,.i d)::(kAZ q (kBP ((20,vl ZU a)::(kAD (a.length:Int) d []))))))) ?_;refine sq ?_;refine sh fol ((1,vl ZU b)::(kD F ((6,.i d)::(kAZ q (kBP ((20,vl ZU a)::(kAD (a.length:Int) d [(27,vl ZU b),(28,.i (b.length:Int)),(29,.i 0)]))))))) ?_;refine Goes.block ?_;obtain⟨P,g13,g5⟩:=bnd g5;refine Goes.imp (Q:=fun x s'=>(x= .exit 2/\ ∃k v,(k,v)=P/\Sub s' (ofG 80 ((1,vl ZU b)::(kD k ((6,.i d)::(8,.int .u64 v)::(20,vl ZU a)::(kAD (a.length:Int) d [])))),[.cells (k.flatMap ZU.c)]))) ?_ ?_
    ·refine Ud (fun M s=> ∃(j:List Int) (e:Int) (n:Int),s=(ofG 80 ((1,vl ZU b)::(kD j ((6,.i d)::(kAB q n ((20,vl ZU a)::(kAD (a.length:Int) d ((27,vl ZU b)::(kAp (b.length:Int) e)))))))),[.cells (j.flatMap ZU.c)])/\jE b q d M j e n=some P) ?_ (m:=N) ⟨_,_,_,rfl,g13⟩;rintro M s ⟨j,e,n,rfl,g13⟩
     cases M with
     |zero=>simp only[jE]at g13;cases g13
     |succ M=>
      rw[jE]at g13;refine sh fol ((1,vl ZU b)::(kD j ((6,.i d)::(kAB q n ((20,vl ZU a)::(kAD (a.length:Int) d [(27,vl ZU b),(28,.i (b.length:Int)),(29,.i e),(30,.bool (decide (e<(b.length:Int))))])))))) ?_;refine sq ?_;refine ihD g13 (fun X g13=>?_) (fun X g13=>?_)
      ·refine Goes.skip ?_;refine sq (Goes.block ?_);obtain⟨U,w,g13⟩:=bnd g13;refine sq (gr fol [1,2] ((1,vl ZU b)::(kD j ((6,.i d)::(kAB q n ((9,.i e)::(10,.int .u64 U)::(20,vl ZU a)::(kAD (a.length:Int) d ((27,vl ZU b)::(kAp (b.length:Int) e)))))))) (ac (iv zM ZU w) (ac (lv 0 zS ZU w rfl) az)) ?_);obtain⟨f,H,g13⟩:=bnd g13;refine sq (gr fol [2] ((1,vl ZU b)::(kD j ((6,.i d)::(kAB q n ((9,.i e)::(kZ f.1 f.2 ((20,vl ZU a)::(kAD (a.length:Int) d ((27,vl ZU b)::(kAp (b.length:Int) e)))))))))) (ac (cv (qaL q U H)) az) ?_);refine sh fol ((1,vl ZU b)::(kD j ((6,.i d)::(kAB q n ((9,.i e)::(kZ f.1 f.2 ((20,vl ZU a)::(kAD (a.length:Int) d ((27,vl ZU b)::(kAp (b.length:Int) e)))))))))) ?_;obtain⟨V,o,g13⟩:=bnd g13;obtain⟨g,I,g13⟩:=bnd g13;refine sq (gr fol [5,6,7] ((1,vl ZU b)::(kD j ((6,.i d)::(kAB q n ((9,.i e)::(kZ f.1 g.1 ((13,.int .u64 g.2)::(20,vl ZU a)::(kAD (a.length:Int) d ((27,vl ZU b)::(kAp (b.length:Int) e)))))))))) (ac (hs (.done (.opt (qd ZT 77 (.slice 0 0 j.length j.length 1) (.i (w64 (d+e))))) (.ptr 0 ((w64 (d+e):Int).toNat*1+0))) (xx zM o)) (ac (hs (.run [0] (ko ZT 214 (.ptr 0 ((w64 (d+e):Int).toNat*1+0))) [.cells (j.flatMap ZU.c)] (.int .u64 V) [.cells (j.flatMap ZU.c)] false) (qcb zS (E:=ZU) (l:=j) rfl rfl o (nl rfl) rfl)) (ac (cv (qcx f.2 V 0 I)) az))) ?_);refine sh fol ((1,vl ZU b)::(kD j ((6,.i d)::(kAB q n ((9,.i e)::(kZ (wrap .u64 (f.1+g.2)) g.1 ((20,vl ZU a)::(kAD (a.length:Int) d ((27,vl ZU b)::(kAp (b.length:Int) e)))))))))) ?_;obtain⟨p,J,g13⟩:=bnd g13;refine sq (gr fol [2] ((1,vl ZU b)::(kD j ((6,.i d)::(kAZ q ((9,.i e)::(kZ (wrap .u64 (f.1+g.2)) p.1 ((13,.int .u64 p.2)::(20,vl ZU a)::(kAD (a.length:Int) d ((27,vl ZU b)::(kAp (b.length:Int) e)))))))))) (ac (cv (qcx g.1 n 0 J)) az) ?_);obtain⟨r,A,g13⟩:=bnd g13;refine gq fol [8,9] ((1,vl ZU b)::(kD j ((6,.i d)::(kAB q (wrap .u64 ((wrap .u64 (f.1+g.2))+p.2)) ((20,vl ZU a)::(kAD (a.length:Int) d ((27,vl ZU b)::(kAp (b.length:Int) e)))))))) [.cells (r.flatMap ZU.c)] (ac (hs (.done (.opt (qd ZT 77 (.slice 0 0 j.length j.length 1) (.i (w64 (d+e))))) (.ptr 0 ((w64 (d+e):Int).toNat*1+0))) (xx zM o)) (ac (hs (.run [0] (qp ZT 214 (.ptr 0 ((w64 (d+e):Int).toNat*1+0)) (.int .u64 p.1)) [.cells (j.flatMap ZU.c)] .undef [.cells (r.flatMap ZU.c)] true) (vT (E:=ZU) (l:=j) (y:=p.1) rfl (show _=some 1 by kernel_rfl) rfl o rfl rfl rfl rfl rfl A rfl)) az)) ?_;refine Goes.sub (show Sub (ofG 80 ((1,vl ZU b)::(kD j ((6,.i d)::(kAB q (wrap .u64 ((wrap .u64 (f.1+g.2))+p.2)) ((20,vl ZU a)::(kAD (a.length:Int) d ((27,vl ZU b)::(kAp (b.length:Int) e)))))))),[.cells (r.flatMap ZU.c)]) (ofG 80 ((1,vl ZU b)::(kD r ((6,.i d)::(kAB q (wrap .u64 ((wrap .u64 (f.1+g.2))+p.2)) ((20,vl ZU a)::(kAD (a.length:Int) d ((27,vl ZU b)::(kAp (b.length:Int) e)))))))),[.cells (r.flatMap ZU.c)])from(Uc [] [some 0] rfl rfl (.keep (.same (qg ZU _)) (.keep (.sliceE rfl (zn A)) (.keep (.same nI) (.keep (.same nI) (.keep (.same nI) (.keep (.same (qg ZU _)) (.keep (.same nI) (.keep (.same nI) (.keep (.same (qg ZU _)) (.keep (.same nI) (.keep (.same nI) .nil))))))))))) (.ks .nil))) ?_;refine gh fol ((1,vl ZU b)::(kD r ((6,.i d)::(kAB q (wrap .u64 ((wrap .u64 (f.1+g.2))+p.2)) ((20,vl ZU a)::(kAD (a.length:Int) d ((27,vl ZU b)::(kAp (b.length:Int) (w64 (e+1)))))))))) ?_;exact⟨M,(ofG 80 ((1,vl ZU b)::(kD r ((6,.i d)::(kAB q (wrap .u64 ((wrap .u64 (f.1+g.2))+p.2)) ((20,vl ZU a)::(kAD (a.length:Int) d ((27,vl ZU b)::(kAp (b.length:Int) (w64 (e+1)))))))))),[.cells (r.flatMap ZU.c)]),Nat.lt_succ_self _,(Sub.refl _),_,_,_,rfl,g13⟩
      refine Goes.exit ?_;obtain rfl:=si g13;exact⟨rfl,_,_,rfl,(Sub.keep [1,5,6,8,20,21,22] rfl rfl)⟩
    rintro x s' ⟨rfl,k,v,rfl,hsub⟩
    try dsimp only at g5
    refine Goes.sub hsub ?_;obtain⟨a0,B,g5⟩:=bnd g5;obtain⟨t,C,g5⟩:=bnd g5;refine gq fol [6,7] ((1,vl ZU b)::(kD k ((20,vl ZU a)::(kAD (a.length:Int) d [])))) [.cells (t.flatMap ZU.c)] (ac (hs (.done (.opt (qd ZT 77 (.slice 0 0 k.length k.length 1) (.i (w64 (d+(b.length:Int)))))) (.ptr 0 ((w64 (d+(b.length:Int)):Int).toNat*1+0))) (xx zM B)) (ac (hs (.run [0] (qp ZT 214 (.ptr 0 ((w64 (d+(b.length:Int)):Int).toNat*1+0)) (.int .u64 v)) [.cells (k.flatMap ZU.c)] .undef [.cells (t.flatMap ZU.c)] true) (vT (E:=ZU) (l:=k) (y:=v) rfl (show _=some 1 by kernel_rfl) rfl B rfl rfl rfl rfl rfl C rfl)) az)) ?_;refine Goes.sub (show Sub (ofG 80 ((1,vl ZU b)::(kD k ((20,vl ZU a)::(kAD (a.length:Int) d [])))),[.cells (t.flatMap ZU.c)]) (ofG 80 ((1,vl ZU b)::(kD t ((20,vl ZU a)::(kAD (a.length:Int) d [])))),[.cells (t.flatMap ZU.c)])from(Uc [] [some 0] rfl rfl (.keep (.same (qg ZU _)) (.keep (.sliceE rfl (zn C)) (.keep (.same (qg ZU _)) (.keep (.same nI) (.keep (.same nI) .nil))))) (.ks .nil))) ?_;refine gh fol ((1,vl ZU b)::(kD t ((20,vl ZU a)::(kAD (a.length:Int) (w64 (d+1)) [])))) ?_;exact⟨M,(ofG 80 ((1,vl ZU b)::(kD t ((20,vl ZU a)::(kAD (a.length:Int) (w64 (d+1)) [])))),[.cells (t.flatMap ZU.c)]),Nat.lt_succ_self _,(Sub.refl _),_,_,rfl,g5⟩
   refine Goes.exit ?_;obtain rfl:=si g5;exact⟨rfl,_,rfl,(Sub.keep [5] rfl rfl)⟩
 rintro x s' ⟨rfl,u,rfl,hsub⟩;refine Goes.sub hsub ?_;obtain⟨D,K,h⟩:=bnd h;refine sq (gq fol [1] [(4,vl ZU D)] [.frozen (u.flatMap ZU.c)] (ac (hs (.callF 252 [.slice 0 0 u.length u.length 1] [.cells (u.flatMap ZU.c)] [0] [vl ZU u] (vl ZU D)) (qaZ (FzL.cons (Fz.sl (E:=ZU) rfl rfl (nl rfl)) FzL.nil) (xz N u K) (qw ZU _ (nl rfl)))) az) ?_);refine Goes.sub (show Sub (ofG 80 [(4,vl ZU D)],[.frozen (u.flatMap ZU.c)]) (ofG 80 [(4,vl ZU D)],[])from(Uc [] [] rfl rfl (.keep (.same (qg ZU _)) .nil) .nil)) ?_;refine Goes.ret ?_;obtain rfl:=si h;exact(gw2 [vl ZU D] (Ua (qw ZU _ (nl rfl))))
def qM (N:Nat) (a:qo) (b:qo):Option qo:=
 (if a.w.isEmpty=true then
 some b.w.isEmpty
 else
 some false:Option Bool).bind fun j=>
 ((if j=true then
 (qcs a.s).bind fun k=>
 (qcs b.s).bind fun l=>
 (bits_Mul64 k l).bind fun e=>
 (if e.1=0 then
 some (decide (e.2<=9223372036854775807))
 else
 some false:Option Bool).bind fun f=>
 if f=true then
 if(!((decide (a.s<0))==(decide (b.s<0))))=true then
 some (.inr (⟨w64 (0-(w64 e.2)),[]⟩:qo))
 else
 some (.inr (⟨w64 e.2,[]⟩:qo))
 else
 some (.inl ())
 else
 some (.inl ()):Option (Unit⊕qo))).bind (fun
 |(.inl ())=>
 (qG a).bind fun c=>
 (qG b).bind fun d=>
 (qav N c.2 d.2).bind fun g=>
 (jX (!(c.1==d.1)) g).bind fun h=>
 some h
 |(.inr i)=>
 some i)
theorem jY (N:Nat) (a:qo) (b:qo) {res:qo} (h:qM N a b=some res):qc ZT (.fn 171) [.agg (nz1 a),.agg (nz1 b)] [] (.agg (nz1 res)) []:=by
 unfold qM at h;refine Ub Tryz.func171 rfl rfl (m:=66) rfl (rs:=[.cell 4 79]) rfl (l:=[(0,.agg (nz1 a)),(1,.agg (nz1 b))]) rfl ?_;refine sg fol (kG []) [.cells (nz1 a),.cells (nz1 b),bZ] ?_;refine sq ?_;refine sq ?_;obtain⟨G,d,h⟩:=bnd h;refine Ue (s':=(ofG 66 (kG [(18,.bool G)]),[.cells (nz1 a),.cells (nz1 b),bZ])) ?_ ?_
 ·rcases wyB d with⟨y,d⟩|⟨y,d⟩
  ·obtain rfl:=si d;exact tr fol [2,3,6] (kG [(18,.bool b.w.isEmpty)]) (ac (hs (.done (.opt (ku ZT .eql 77 (.tmp 12) (.const (.slice none 0 0)) (nvl ZU a.w) .nilslice)) (.bool a.w.isEmpty)) (qaG qaC)) (ac (gw y) (ac (hs (.done (.opt (ku ZT .eql 77 (.tmp 16) (.const (.slice none 0 0)) (nvl ZU b.w) .nilslice)) (.bool b.w.isEmpty)) (qaG qaC)) az)))
  obtain rfl:=si d;exact tr fol [2,3] (kG [(18,.bool false)]) (ac (hs (.done (.opt (ku ZT .eql 77 (.tmp 12) (.const (.slice none 0 0)) (nvl ZU a.w) .nilslice)) (.bool a.w.isEmpty)) (qaG qaC)) (ac (gw y) az))
 obtain⟨D,g4,h⟩:=bnd h;refine Goes.imp (Q:=fun x s'=>(x= .normal/\(.inl ())=D/\Sub s' (ofG 66 (kG []),[.cells (nz1 a),.cells (nz1 b),bZ]))\/(x= .ret/\ ∃F,(.inr F)=D/\zJ ZT [.cell 4 79] (.agg (nz1 F)) .ret s')) ?_ ?_
 ·refine ihB g4 (fun H g4=>?_) (fun H g4=>?_)
  ·obtain⟨I,t,g4⟩:=bnd g4;obtain⟨J,u,g4⟩:=bnd g4;obtain⟨f,v,g4⟩:=bnd g4;refine sq (gr fol [2,5,6] (kG ((5,.int .u64 f.1)::(kAJ f.2 []))) (ac (cv (qes a.s t)) (ac (cv (qes b.s u)) (ac (cv (qaL I J v)) az))) ?_);refine sq ?_;obtain⟨z,c,g4⟩:=bnd g4;refine Ue (s':=(ofG 66 (kG (kAJ f.2 [(34,.bool z)])),[.cells (nz1 a),.cells (nz1 b),bZ])) ?_ ?_
   ·rcases wyD c with⟨k,c⟩|⟨k,c⟩
    ·obtain rfl:=si c;exact tr fol [2] (kG (kAJ f.2 [(34,.bool (decide (f.2<=9223372036854775807)))])) (ac (gw k) az)
    obtain rfl:=si c;exact tr fol [2] (kG (kAJ f.2 [(34,.bool false)])) (ac (gw k) az)
   refine ihB g4 (fun A g4=>?_) (fun A g4=>?_)
   ·refine sq ?_;refine sh fol ((4,.ptr 2 0)::(kAJ f.2 [(41,.bool (!((decide (a.s<0))==(decide (b.s<0)))))])) ?_;refine ihB g4 (fun B g4=>?_) (fun B g4=>?_)
    ·refine sg fol kAc (.cells (nz1 a):: .cells (nz1 b)::(kAz (w64 (0-(w64 f.2))))) ?_;refine Goes.ret ?_;obtain rfl:=si g4;exact Or.inr (⟨rfl,_,rfl,(gw2 [.agg [.i (w64 (0-(w64 f.2))),.nilslice]] (FzW.agg (qf.cons (Ua tI) (qf.cons (Us (E:=ZU)) qf.nil))))⟩)
    refine Goes.skip ?_;refine sg fol kAc (.cells (nz1 a):: .cells (nz1 b)::(kAz (w64 f.2))) ?_;refine Goes.ret ?_;obtain rfl:=si g4;exact Or.inr (⟨rfl,_,rfl,(gw2 [.agg [.i (w64 f.2),.nilslice]] (FzW.agg (qf.cons (Ua tI) (qf.cons (Us (E:=ZU)) qf.nil))))⟩)
   refine Goes.skip ?_;obtain rfl:=si g4;exact Or.inl (⟨rfl,rfl,(Sub.keep [2,3,4] rfl rfl)⟩)
  refine Goes.skip ?_;obtain rfl:=si g4;exact Or.inl (⟨rfl,rfl,(Sub.keep [2,3,4] rfl rfl)⟩)
 rintro x s' (⟨rfl,rfl,hsub⟩|⟨rfl,K,rfl,hret⟩)
 ·try dsimp only at h
  refine Goes.sub hsub ?_;obtain⟨e,o,h⟩:=bnd h;refine sq (gr fol [1] (kA5 [(4,.ptr 2 0),(7,.bool e.1),(8,vl ZU e.2)]) (ac (cv (zH a o)) az) ?_);obtain⟨g,p,h⟩:=bnd h;refine sq (gr fol [1] [(4,.ptr 2 0),(7,.bool e.1),(8,vl ZU e.2),(9,.bool g.1),(10,vl ZU g.2)] (ac (cv (zH b p)) az) ?_);obtain⟨C,q,h⟩:=bnd h;obtain⟨j,r,h⟩:=bnd h;refine sq (gq fol [5,6,7] kAc [.cells (nz1 a),.cells (nz1 b),.cells (nz1 j)] (ac (cv (qgY N e.2 g.2 q)) (ac (cv (qan (!(e.1==g.1)) C r)) (ac (hs (.run [2] (qp ZT 79 (.ptr 2 0) (.agg (nz1 j))) [.cells (nz1 a),.cells (nz1 b),bZ] .undef [.cells (nz1 a),.cells (nz1 b),.cells (nz1 j)] true) (kg (n:=2) (by kernel_rfl) rfl rfl rfl rfl (cac rfl (cac nvc can)) rfl)) az))) ?_);refine Goes.ret ?_;obtain rfl:=si h;exact(gw2 [.agg (nz1 j)] (FzW.agg (qf.cons (Ua tI) (qf.cons (Ua (qm ZU _ (nl rfl))) qf.nil))))
 try dsimp only at h
 obtain rfl:=si h;exact hret
def vK (N:Nat):Nat->Int->(List Int)->Int->(List Int)->Int->Option (Int×(List Int))
 |0,_,_,_,_,_=>none
 |K+1,e,f,h,i,g=>
  if g>0 then
  ((((if(qB .i64 g 1)=1 then
  (qM N (⟨h,i⟩:qo) (⟨e,f⟩:qo)).bind fun a=>
  some (a.s,a.w)
  else
  some (h,i):Option (Int×(List Int)))).bind fun(b,c)=>
  if g>1 then
  (qM N (⟨e,f⟩:qo) (⟨e,f⟩:qo)).bind fun d=>
  some (d.s,d.w,b,c)
  else
  some (e,f,b,c):Option (Int×(List Int)×Int×(List Int)))).bind fun(j,k,l,m)=>
  vK N K j k l m (qz .i64 g 1)
  else
  some (h,i)
def qbH (N:Nat) (a:qo) (k:Int):Option qo:=
 (qcm 1).bind fun b=>
 (vK N N a.s a.w b.s b.w k).bind fun(c,d)=>
 some (⟨c,d⟩:qo)
theorem qhH (N:Nat) (a:qo) (k:Int) {res:qo} (h:qbH N a k=some res):qc ZT (.fn 172) [.agg (nz1 a),.i k] [] (.agg (nz1 res)) []:=by
 unfold qbH at h;refine Ub Tryz.func172 rfl rfl (m:=23) rfl (rs:=[.cell 4 79]) rfl (l:=[(0,.agg (nz1 a)),(1,.i k)]) rfl ?_;refine sg fol ((1,.i k)::(kAE kA3)) [.cells (nz1 a),bZ] ?_;obtain⟨B,y,h⟩:=bnd h;refine sq (gq fol [0,2] (kAA k []) [.cells (nz1 a),bZ,.cells (nz1 B)] (ac (cv (qby 1 y)) (ac (hs (.run [2] (qp ZT 79 (.ptr 2 0) (.agg (nz1 B))) [.cells (nz1 a),bZ,bZ] .undef [.cells (nz1 a),bZ,.cells (nz1 B)] true) (kg (n:=2) (by kernel_rfl) rfl rfl rfl rfl (cac rfl (cac nvc can)) rfl)) az)) ?_);refine sq (Goes.block ?_);obtain⟨H,g9,h⟩:=bnd h;refine Goes.imp (Q:=fun x s'=>(x= .exit 0/\ ∃g j,(g,j)=H/\Sub s' (ofG 23 (kAk [(5,.ptr 1 0)]),[bZ,.cells (ni1 g j)]))) ?_ ?_
 ·refine Ud (fun M s=> ∃(e:Int) (f:List Int) (z:Int) (A:List Int) (b:Int),s=(ofG 23 (kAA b []),[.cells (ni1 e f),bZ,.cells (ni1 z A)])/\vK N M e f z A b=some H) ?_ (m:=N) ⟨_,_,_,_,_,rfl,g9⟩;rintro M s ⟨e,f,z,A,b,rfl,g9⟩
  cases M with
  |zero=>simp only[vK]at g9;cases g9
  |succ M=>
   rw[vK]at g9;refine sq ?_;refine sh fol (kAA b (kBJ (decide (b>0)))) ?_;refine ihD g9 (fun C g9=>?_) (fun C g9=>?_)
   ·refine Goes.skip ?_;refine sq ?_;obtain⟨D,g15,g9⟩:=bnd g9;refine Goes.imp (Q:=fun x s'=>(x= .normal/\ ∃o p q r,(o,p,q,r)=D/\Sub s' (ofG 23 (kAA b []),[.cells (ni1 o p),bZ,.cells (ni1 q r)]))) ?_ ?_
    ·refine Goes.block ?_;refine sq ?_;refine sh fol (kAA b (kBC (decide ((qB .i64 b 1)=1)))) ?_;obtain⟨E,g18,g15⟩:=bnd g15;refine Goes.imp (Q:=fun x s'=>(x= .normal/\ ∃c d,(c,d)=E/\Sub s' (ofG 23 (kAA b []),[.cells (ni1 e f),bZ,.cells (ni1 c d)]))) ?_ ?_
     ·refine ihD g18 (fun F g18=>?_) (fun F g18=>?_)
      ·obtain⟨t,u,g18⟩:=bnd g18;refine gq fol [2,3] (kAA b []) [.cells (ni1 e f),bZ,.cells (nz1 t)] (ac (cv (jY N (⟨z,A⟩:qo) (⟨e,f⟩:qo) u)) (ac (hs (.run [2] (qp ZT 79 (.ptr 2 0) (.agg (nz1 t))) [.cells (ni1 e f),bZ,.cells (ni1 z A)] .undef [.cells (ni1 e f),bZ,.cells (nz1 t)] true) (kg (n:=2) (by kernel_rfl) rfl rfl rfl rfl (cac rfl (cac nvc can)) rfl)) az)) ?_;obtain rfl:=si g18;exact⟨rfl,_,_,rfl,(Sub.refl _)⟩
      refine Goes.skip ?_;obtain rfl:=si g18;exact⟨rfl,_,_,rfl,(Sub.keep [1,2,4,5] rfl rfl)⟩
     rintro x s' ⟨rfl,c,d,rfl,hsub⟩
     try dsimp only at g15
     refine Goes.sub hsub ?_;refine sh fol (kAA b [(18,.bool (decide (b>1)))]) ?_;refine ihD g15 (fun G g15=>?_) (fun G g15=>?_)
     ·obtain⟨v,w,g15⟩:=bnd g15;refine gq fol [2,3] (kAA b []) [.cells (nz1 v),bZ,.cells (ni1 c d)] (ac (cv (jY N (⟨e,f⟩:qo) (⟨e,f⟩:qo) w)) (ac (hs (.run [0] (qp ZT 79 (.ptr 0 0) (.agg (nz1 v))) [.cells (ni1 e f),bZ,.cells (ni1 c d)] .undef [.cells (nz1 v),bZ,.cells (ni1 c d)] true) (kg (n:=2) (by kernel_rfl) rfl rfl rfl rfl (cac rfl (cac nvc can)) rfl)) az)) ?_;obtain rfl:=si g15;exact⟨rfl,_,_,_,_,rfl,(Sub.refl _)⟩
     refine Goes.skip ?_;obtain rfl:=si g15;exact⟨rfl,_,_,_,_,rfl,(Sub.keep [1,2,4,5] rfl rfl)⟩
    rintro x s' ⟨rfl,o,p,q,r,rfl,hsub⟩
    try dsimp only at g9
    refine Goes.sub hsub ?_;refine gh fol (kAA (qz .i64 b 1) []) ?_;exact⟨M,(ofG 23 (kAA (qz .i64 b 1) []),[.cells (ni1 o p),bZ,.cells (ni1 q r)]),Nat.lt_succ_self _,(Sub.refl _),_,_,_,_,_,rfl,g9⟩
   refine Goes.exit ?_;obtain rfl:=si g9;exact⟨rfl,_,_,rfl,(Uc [] [some 1,some 2] rfl rfl (.drop (.drop (.kp (.kp .nil)))) (.kb rfl (.same sn) (.kb rfl (.same sn) .nil)))⟩
 rintro x s' ⟨rfl,g,j,rfl,hsub⟩
 try dsimp only at h
 refine Goes.sub hsub ?_;refine sq (gq fol [1] (kAk []) [.cells (ni1 g j),.cells (ni1 g j)] (ac (hs (.run [0] (qp ZT 79 (.ptr 0 0) (.agg (ni1 g j))) [bZ,.cells (ni1 g j)] .undef [.cells (ni1 g j),.cells (ni1 g j)] true) (kg (n:=2) (by kernel_rfl) rfl rfl rfl rfl (cac rfl (cac nvc can)) rfl)) az) ?_);refine Goes.ret ?_;obtain rfl:=si h;exact(gw2 [.agg (ni1 g j)] (FzW.agg (qf.cons (Ua tI) (qf.cons (Ua (qm ZU _ (nl rfl))) qf.nil))))
def xw (N:Nat):Nat->Int->(List Int)->Str->Option (Int×(List Int))
 |0,_,_,_=>none
 |K+1,j,k,a=>
  if(a.length:Int)>0 then
  (cut a 0 (if(a.length:Int)<18 then(a.length:Int)else 18)).bind fun c=>
  (qkD c).bind fun d=>
  (qcm 10).bind fun e=>
  (qbH N e (if(a.length:Int)<18 then(a.length:Int)else 18)).bind fun f=>
  (qM N (⟨j,k⟩:qo) f).bind fun g=>
  (qcm d.1).bind fun h=>
  (vH N g h).bind fun b=>
  (cut a (if(a.length:Int)<18 then(a.length:Int)else 18) (a.length:Int)).bind fun i=>
  xw N K b.s b.w i
  else
  some (j,k)
def qbg (N:Nat) (b:Str):Option qo:=
 (strings_HasPrefix b [45]).bind fun e=>
 (strings_TrimPrefix b [45]).bind fun f=>
 (xw N N 0 [] f).bind fun(c,d)=>
 if e=true then
 (zx (⟨c,d⟩:qo)).bind fun a=>
 some a
 else
 some (⟨c,d⟩:qo)
theorem qbR (N:Nat) (g:Str) {res:qo} (h:qbg N g=some res):qc ZT (.fn 96) [.str g] [] (.agg (nz1 res)) []:=by
 unfold qbg at h;refine Ub Tryz.func96 rfl rfl (m:=41) rfl (rs:=[.cell 2 79]) rfl (l:=(kAY g)) rfl ?_;refine sg fol ((0,.str g)::(kAE [])) [bZ] ?_;obtain⟨d,y,h⟩:=bnd h;refine sq (gr fol [1] (kW g d []) (ac (cv (qex g [45] y)) az) ?_);obtain⟨J,z,h⟩:=bnd h;refine sq (gr fol [1] (kW J d []) (ac (cv (qbs g [45] z)) az) ?_);refine sg fol (kW J d kA3) [bZ,bZ] ?_;refine sq (Goes.block ?_);obtain⟨K,g8,h⟩:=bnd h;refine Goes.imp (Q:=fun x s'=>(x= .exit 0/\ ∃b c,(b,c)=K/\Sub s' (ofG 41 (kAE ((3,.bool d)::kA3)),[bZ,.cells (ni1 b c)]))) ?_ ?_
 ·refine Ud (fun M s=> ∃(A:Int) (B:List Int) (a:Str),s=(ofG 41 (kW a d kA3),[bZ,.cells (ni1 A B)])/\xw N M A B a=some K) ?_ (m:=N) ⟨_,_,_,rfl,g8⟩;rintro M s ⟨A,B,a,rfl,g8⟩
  cases M with
  |zero=>simp only[xw]at g8;cases g8
  |succ M=>
   rw[xw]at g8;refine sq ?_;refine sh fol (kW a d [(4,.ptr 1 0),(15,.bool (decide ((a.length:Int)>0)))]) ?_;refine ihD g8 (fun L g8=>?_) (fun L g8=>?_)
   ·refine Goes.skip ?_;refine Goes.block ?_;refine sh fol (kW a d ((4,.ptr 1 0)::(kAt (if(a.length:Int)<18 then(a.length:Int)else 18)))) ?_;obtain⟨C,j,g8⟩:=bnd g8;obtain⟨D,k,g8⟩:=bnd g8;refine sq (gr fol [2,3] (kW a d [(4,.ptr 1 0),(5,.i (if(a.length:Int)<18 then(a.length:Int)else 18)),(6,.i D.1)]) (ac (hs (.done (.opt (qK ZT 9 (.str a) none (some (.i (if(a.length:Int)<18 then(a.length:Int)else 18))) none)) (.str C)) (ja st9 none (some (if(a.length:Int)<18 then(a.length:Int)else 18)) j)) (ac (cv (qoU C k)) az)) ?_);obtain⟨E,o,g8⟩:=bnd g8;obtain⟨F,p,g8⟩:=bnd g8;obtain⟨G,q,g8⟩:=bnd g8;obtain⟨H,r,g8⟩:=bnd g8;obtain⟨e,t,g8⟩:=bnd g8;refine sq (gq fol [1,3,4,6,7,8] (kW a d ((4,.ptr 1 0)::(kAt (if(a.length:Int)<18 then(a.length:Int)else 18)))) [bZ,.cells (nz1 e)] (ac (cv (qby 10 o)) (ac (cv (qhH N E (if(a.length:Int)<18 then(a.length:Int)else 18) p)) (ac (cv (jY N (⟨A,B⟩:qo) F q)) (ac (cv (qby D.1 r)) (ac (cv (qac N G H t)) (ac (hs (.run [1] (qp ZT 79 (.ptr 1 0) (.agg (nz1 e))) [bZ,.cells (ni1 A B)] .undef [bZ,.cells (nz1 e)] true) (kg (n:=2) (by kernel_rfl) rfl rfl rfl rfl (cac rfl (cac nvc can)) rfl)) az)))))) ?_);obtain⟨u,v,g8⟩:=bnd g8;refine gr fol [2] (kW u d kA3) (ac (hs (.done (.opt (qK ZT 9 (.str a) (some (.i (if(a.length:Int)<18 then(a.length:Int)else 18))) none none)) (.str u)) (ja st9 (some (if(a.length:Int)<18 then(a.length:Int)else 18)) none v)) az) ?_;exact⟨M,(ofG 41 (kW u d kA3),[bZ,.cells (nz1 e)]),Nat.lt_succ_self _,(Sub.refl _),_,_,_,rfl,g8⟩
   refine Goes.exit ?_;obtain rfl:=si g8;exact⟨rfl,_,_,rfl,(Sub.keep [2,3,4] rfl rfl)⟩
 rintro x s' ⟨rfl,b,c,rfl,hsub⟩
 try dsimp only at h
 refine Goes.sub hsub ?_;refine sq ?_;refine sh fol (kAE [(4,.ptr 1 0),(37,.bool d)]) ?_;refine ihB h (fun I h=>?_) (fun I h=>?_)
 ·obtain⟨f,w,h⟩:=bnd h;refine sq (gq fol [1,2] (kAE []) [.cells (nz1 f),.cells (ni1 b c)] (ac (cv (jZ (⟨b,c⟩:qo) w)) (ac (hs (.run [0] (qp ZT 79 (.ptr 0 0) (.agg (nz1 f))) [bZ,.cells (ni1 b c)] .undef [.cells (nz1 f),.cells (ni1 b c)] true) (kg (n:=2) (by kernel_rfl) rfl rfl rfl rfl (cac rfl (cac nvc can)) rfl)) az)) ?_);refine Goes.ret ?_;obtain rfl:=si h;exact(gw2 [.agg (nz1 f)] (FzW.agg (qf.cons (Ua tI) (qf.cons (Ua (qm ZU _ (nl rfl))) qf.nil))))
 refine Goes.skip ?_;refine sq (gq fol [1] (kAE []) [.cells (ni1 b c),.cells (ni1 b c)] (ac (hs (.run [0] (qp ZT 79 (.ptr 0 0) (.agg (ni1 b c))) [bZ,.cells (ni1 b c)] .undef [.cells (ni1 b c),.cells (ni1 b c)] true) (kg (n:=2) (by kernel_rfl) rfl rfl rfl rfl (cac rfl (cac nvc can)) rfl)) az) ?_);refine Goes.ret ?_;obtain rfl:=si h;exact(gw2 [.agg (ni1 b c)] (FzW.agg (qf.cons (Ua tI) (qf.cons (Ua (qm ZU _ (nl rfl))) qf.nil))))
end Go.Av
