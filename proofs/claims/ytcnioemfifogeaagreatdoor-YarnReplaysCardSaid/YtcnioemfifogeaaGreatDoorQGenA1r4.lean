/-
  Walks of functions: what each computes, as a plain function.
-/
import Derived.Test.YtcnioemfifogeaaGreatDoorQGenA1r3
noncomputable section
namespace Go.Av
open Go.Proofs Go.RowKit
set_option linter.unusedSectionVars false
set_option linter.unusedVariables false
set_option linter.unusedSimpArgs false
set_option maxRecDepth 100000
def qat (N:Nat) (l:List qb):Nat->Int->(List qB)->(List qf)->(List ku)->Int->Option (Int×(List qB)×(List qf)×(List ku))
 |0,_,_,_,_,_=>none
 |K+1,d,e,f,h,g=>
  if g<(l.length:Int)then
  (((idx l g).bind fun b=>
  (qa2 N (⟨d,e,f⟩:StateT) b).bind fun c=>
  if(!decide (c=0))=true then
  (app 16 h [(⟨w64 (g+1),c⟩:ku)]).bind fun i=>
  some (d,e,f,i)
  else
  (yG N (⟨d,e,f⟩:StateT) b).bind fun a=>
  some (a.Day,a.Lots,a.Holds,h):Option (Int×(List qB)×(List qf)×(List ku)))).bind fun(j,k,m,n)=>
  qat N l K j k m n (w64 (g+1))
  else
  some (d,e,f,h)
def qaK (N:Nat) (l:List qb):Option (StateT×(List ku)):=
 (qat N l N 0 ([]:List qB) ([]:List qf) ([]:List ku) 0).bind fun(a,b,c,d)=>
 some ((⟨a,b,c⟩:StateT),d)
theorem qeA (N:Nat) (l:List qb) {res:StateT×(List ku)} (h:qaK N l=some res):qp ZT (.fn 49) [vl ql l] [] (.tuple (kV res.1.Day res.1.Lots res.1.Holds [vl qG res.2])) []:=by
 unfold qaK at h
 refine Uc Tryz.func49 rfl rfl (m:=34) rfl (rs:=[.cell 2 30,.tmp 3]) rfl (l:=(kO l [])) rfl ?_
 refine sg fol (kO l (kAI [])) (kF []) ?_
 refine sg fol (kO l (kN [])) (kF (kF [])) ?_
 refine sh fol (kO l (kN [(5,.nilslice)])) ?_
 refine sq ?_
 refine sh fol (kN [(5,.nilslice),(9,vl ql l),(10,.i (l.length:Int)),(11,.i 0)]) ?_
 refine Goes.block ?_
 obtain⟨B,g10,h⟩:=bnd h
 refine Goes.imp (Q:=fun x s'=>(x= .exit 0/\ ∃y z A r,(y,z,A,r)=B/\Sub s' (ofG 34 (kN (kAN r [])),(kF (kD y z A (kAE r [])))))) ?_ ?_
 ·refine Goes.sub (s':=(ofG 34 (kN [(5,.gslice 2 ([]:List ku).length 2),(9,vl ql l),(10,.i (l.length:Int)),(11,.i 0)]),(kF kAp))) (Sub.norm [] [some 0,some 1,none] rfl rfl (.kp (.kp (.keep .nil (.keep (.same (qN ql _)) (.keep (.same nI) (.keep (.same nI) .nil)))))) (.kb rfl (.same sn) (.kb rfl (.cells (rc (.same nI) (rc (.nilv) (rc (.nilv) rn)))) (.fresh .nil)))) ?_
  refine Ud (fun M s=> ∃(g:Int) (j:List qB) (k:List qf) (e:List ku) (b:Int),s=(ofG 34 (kN (kAN e (kAT l (l.length:Int) b []))),(kF (kD g j k (kAE e []))))/\qat N l M g j k e b=some B) ?_ (m:=N) ⟨_,_,_,_,_,rfl,g10⟩
  rintro M s ⟨g,j,k,e,b,rfl,g10⟩
  cases M with
  |zero=>simp only[qat]at g10;cases g10
  |succ M=>
   rw[qat]at g10
   refine sh fol (kN (kAN e (kAT l (l.length:Int) b [(12,.bool (decide (b<(l.length:Int))))]))) ?_
   refine sq ?_
   refine ihD g10 (fun C g10=>?_) (fun C g10=>?_)
   ·refine Goes.skip ?_
    refine sq ?_
    obtain⟨D,g16,g10⟩:=bnd g10
    refine Goes.imp (Q:=fun x s'=>(x= .normal/\ ∃n o p c,(n,o,p,c)=D/\Sub s' (ofG 34 (kN (kAN c (kAT l (l.length:Int) b []))),(kF (kD n o p (kAE c [])))))) ?_ ?_
    ·refine Goes.block ?_
     obtain⟨a,f,g16⟩:=bnd g16
     refine sq (gq fol [1,2] (kN (kAN e ((6,.i b)::(7,.ptr 3 0)::(kAT l (l.length:Int) b [])))) (kF (kD g j k (kAE e (kE a.Kind a.Day a.Lot a.Amount a.Yarn a.Dye a.Order [])))) (ac (iv qf2 ql f) (ac (la qpe ql f) az)) ?_)
     refine sq ?_
     obtain⟨d,t,g16⟩:=bnd g16
     refine sq (gr fol [2] (kN (kAN e ((6,.i b)::(7,.ptr 3 0)::(8,.i d)::(kAT l (l.length:Int) b [])))) (ac (cv (qhj N (⟨g,j,k⟩:StateT) a t)) az) ?_)
     refine sh fol (kN (kAN e ((6,.i b)::(7,.ptr 3 0)::(8,.i d)::(kAT l (l.length:Int) b [(20,.bool (!decide (d=0)))])))) ?_
     refine ihB g16 (fun F g16=>?_) (fun F g16=>?_)
     ·obtain⟨q,u,g16⟩:=bnd g16
      refine sq (gq fol [6] (kN ((5,.gslice 5 q.length 2)::(kAT l (l.length:Int) b []))) (kF (kD g j k (.dead::(kE a.Kind a.Day a.Lot a.Amount a.Yarn a.Dye a.Order (kAP (w64 (b+1)) d (kAE q [])))))) (ac (hs (.run [2,4] (xK ZT [31,31] (.gslice 2 e.length 2) (.slice 4 0 1 1 2)) (kF (kD g j k (kAE e (kE a.Kind a.Day a.Lot a.Amount a.Yarn a.Dye a.Order (kAP (w64 (b+1)) d []))))) (.gslice 5 q.length 2) (kF (kD g j k (.dead::(kE a.Kind a.Day a.Lot a.Amount a.Yarn a.Dye a.Order (kAP (w64 (b+1)) d (kAE q [])))))) true) (qbI sl31 (E:=qG) rfl (qe2 (E:=qG) (ys:=[(⟨w64 (b+1),d⟩:ku)]) rfl rfl rfl rfl) (qft (E:=qG) (l:=e) rfl rfl rfl u rfl))) az) ?_)
      refine Goes.exit ?_
      obtain rfl:=si g16
      exact⟨rfl,_,_,_,_,rfl,(Sub.norm [] [some 0,some 1,some 5] rfl rfl (.kp (.kp (.keep (.gslice rfl) (.keep (.same (qN ql _)) (.keep (.same nI) (.keep (.same nI) .nil)))))) (.kb rfl (.same sn) (.kb rfl (.same sn) (.ks .nil))))⟩
     refine Goes.skip ?_
     obtain⟨v,w,g16⟩:=bnd g16
     refine gq fol [2] (kN (kAN e (kAT l (l.length:Int) b []))) (kF (kD v.Day v.Lots v.Holds (kAE e (kE a.Kind a.Day a.Lot a.Amount a.Yarn a.Dye a.Order [])))) (ac (cv (qeu N (⟨g,j,k⟩:StateT) a w)) az) ?_
     obtain rfl:=si g16
     exact⟨rfl,_,_,_,_,rfl,(Sub.norm [] [some 0,some 1,some 2] rfl rfl (.kp (.kp (.keep (.gslice rfl) (.keep (.same (qN ql _)) (.keep (.same nI) (.keep (.same nI) .nil)))))) (.kb rfl (.same sn) (.kb rfl (.same sn) (.ks .nil))))⟩
    rintro x s' ⟨rfl,n,o,p,c,rfl,hsub⟩
    try dsimp only at g10
    refine Goes.sub hsub ?_
    refine gh fol (kN (kAN c (kAT l (l.length:Int) (w64 (b+1)) []))) ?_
    exact⟨M,(ofG 34 (kN (kAN c (kAT l (l.length:Int) (w64 (b+1)) []))),(kF (kD n o p (kAE c [])))),Nat.lt_succ_self _,(Sub.refl _),_,_,_,_,_,rfl,g10⟩
   refine Goes.exit ?_
   obtain rfl:=si g10
   exact⟨rfl,_,_,_,_,rfl,(Sub.keep [2,4,5] rfl rfl)⟩
 rintro x s' ⟨rfl,y,z,A,r,rfl,hsub⟩
 try dsimp only at h
 refine Goes.sub hsub ?_
 refine sg fol (kAI [(3,.gslice 2 r.length 2)]) (kD y z A (kD y z A (kAE r []))) ?_
 refine Goes.ret ?_
 obtain rfl:=si h
 exact(gw2 (kV y z A [.gslice 2 r.length 2]) (FzW.tuple (qJ.cons (FzW.agg (qJ.cons (Ub tI) (qJ.cons (Ub (qw qo _ (nl rfl))) (qJ.cons (Ub (qw qg _ (nl rfl))) qJ.nil)))) (qJ.cons (FzW.fz (Um (E:=qG) rfl rfl (nl rfl))) qJ.nil))))
def qdP (N:Nat) (l:List qb):Option (StateT×(List ku)×Int):=
 (qaM N l).bind fun a=>
 if(!decide (a=0))=true then
 some ((⟨0,[],[]⟩:StateT),[],a)
 else
 (qaK N l).bind fun b=>
 some (b.1,b.2,0)
theorem qkE (N:Nat) (l:List qb) {res:StateT×(List ku)×Int} (h:qdP N l=some res):qp ZT (.fn 11) [vl ql l] [] (.tuple (kV res.1.Day res.1.Lots res.1.Holds [vl qG res.2.1,.i res.2.2])) []:=by
 unfold qdP at h
 refine Uc Tryz.func11 rfl rfl (m:=21) rfl (rs:=[.cell 2 30,.tmp 3,.tmp 4]) rfl (l:=(kO l [])) rfl ?_
 refine sg fol (kO l (kAI [])) (kF []) ?_
 refine sq ?_
 obtain⟨b,c,h⟩:=bnd h
 refine sq (gr fol [1] (kO l (kAI (kAY b))) (ac (cv (yB N l c)) az) ?_)
 refine sh fol (kO l (kAI [(5,.i b),(11,.bool (!decide (b=0)))])) ?_
 refine ihB h (fun e h=>?_) (fun e h=>?_)
 ·refine sh fol (kAI ((3,.nilslice)::(kA3 b))) ?_
  refine Goes.ret ?_
  obtain rfl:=si h
  exact(gw2 [.agg [.i 0,.nilslice,.nilslice],.nilslice,.i b] (FzW.tuple (qJ.cons (FzW.agg (qJ.cons (Ub tI) (qJ.cons (FzW.nilv (E:=qo)) (qJ.cons (FzW.nilv (E:=qg)) qJ.nil)))) (qJ.cons (FzW.nilv (E:=qG)) (qJ.cons (Ub tI) qJ.nil)))))
 refine Goes.skip ?_
 obtain⟨a,d,h⟩:=bnd h
 refine sq (gq fol [1] (kAI [(6,.ptr 1 0),(7,vl qG a.2)]) (kF (kD a.1.Day a.1.Lots a.1.Holds [])) (ac (cv (qeA N l d)) az) ?_)
 refine sg fol (kAI [(3,vl qG a.2),(4,.i 0)]) (kD a.1.Day a.1.Lots a.1.Holds (kD a.1.Day a.1.Lots a.1.Holds [])) ?_
 refine Goes.ret ?_
 obtain rfl:=si h
 exact(gw2 (kV a.1.Day a.1.Lots a.1.Holds [vl qG a.2,.i 0]) (FzW.tuple (qJ.cons (FzW.agg (qJ.cons (Ub tI) (qJ.cons (Ub (qw qo _ (nl rfl))) (qJ.cons (Ub (qw qg _ (nl rfl))) qJ.nil)))) (qJ.cons (Ub (qw qG _ (nl rfl))) (qJ.cons (Ub tI) qJ.nil)))))
def qan (a:qb) (b:Int):Option Bool:=
 some (decide (a.Day>b))
theorem qb8 (a:qb) (b:Int) {res:Bool} (h:qan a b=some res):qp ZT (.fn 54) (kAF a.Kind a.Day a.Lot a.Amount a.Yarn a.Dye a.Order [.fptr [.i b] 0]) [] (.bool res) []:=by
 unfold qan at h
 refine Uc Tryz.func54 rfl rfl (m:=8) rfl (rs:=[.tmp 3]) rfl (l:=[(0,.agg [.str a.Kind,.i a.Day,.str a.Lot,.i a.Amount,.str a.Yarn,.str a.Dye,.str a.Order]),(1,.fptr [.i b] 0)]) rfl ?_
 refine sg fol ((1,.fptr [.i b] 0)::(kAI [])) (kE a.Kind a.Day a.Lot a.Amount a.Yarn a.Dye a.Order []) ?_
 refine sh fol (kA7 (decide (a.Day>b))) ?_
 refine Goes.ret ?_
 obtain rfl:=si h
 exact(gw2 [.bool (decide (a.Day>b))] (Ub tB))
def kz (a:List qb) (b:Int):Nat->Int->Option (Unit⊕Int)
 |0,_=>none
 |K+1,c=>
  if c<(a.length:Int)then
  (idx a c).bind fun d=>
  (qan d b).bind fun e=>
  if e=true then
  some (.inr c)
  else
  kz a b K (w64 (c+1))
  else
  some (.inl ())
def yJ (N:Nat) (a:List qb) (b:Int):Option Int:=
 (kz a b N 0).bind (fun
 |(.inl ())=>
 some (-1)
 |(.inr c)=>
 some c)
theorem qbt (N:Nat) (a:List qb) (b:Int) {res:Int} (h:yJ N a b=some res):qp ZT (.fn 112) [vl ql a,.func (.func 54) [] [.fptr [.i b] 0]] [] (.i res) []:=by
 unfold yJ at h
 refine Uc Tryz.func112 rfl rfl (m:=19) rfl (rs:=[.tmp 4]) rfl (l:=(kO a [(1,.func (.func 54) [] [.fptr [.i b] 0])])) rfl ?_
 refine sh fol (kO a [(1,.func (.func 54) [] [.fptr [.i b] 0])]) ?_
 refine sq ?_
 refine sh fol (kO a [(1,.func (.func 54) [] [.fptr [.i b] 0]),(7,.i (a.length:Int)),(8,.i 0)]) ?_
 refine Goes.block ?_
 obtain⟨g,g2,h⟩:=bnd h
 refine Goes.imp (Q:=fun x s'=>(x= .exit 0/\(.inl ())=g/\Sub s' (ofG 19 [],[]))\/(x= .ret/\ ∃j,(.inr j)=g/\jF ZT [.tmp 4] (.i j) .ret s')) ?_ ?_
 ·refine Ud (fun M s=> ∃(d:Int),s=(ofG 19 (kO a ((1,.func (.func 54) [] [.fptr [.i b] 0])::(kAR (a.length:Int) d))),[])/\kz a b M d=some g) ?_ (m:=N) ⟨_,rfl,g2⟩
  rintro M s ⟨d,rfl,g2⟩
  cases M with
  |zero=>simp only[kz]at g2;cases g2
  |succ M=>
   rw[kz]at g2
   refine sh fol (kO a ((1,.func (.func 54) [] [.fptr [.i b] 0])::(7,.i (a.length:Int))::(kAr d (decide (d<(a.length:Int)))))) ?_
   refine sq ?_
   refine ihD g2 (fun n g2=>?_) (fun n g2=>?_)
   ·refine Goes.skip ?_
    refine sq (Goes.block ?_)
    refine sh fol (kO a ((1,.func (.func 54) [] [.fptr [.i b] 0])::(5,.i d)::(kAR (a.length:Int) d))) ?_
    obtain⟨c,e,g2⟩:=bnd g2
    obtain⟨k,f,g2⟩:=bnd g2
    refine sq (gr fol [3,4,5] (kO a [(1,.func (.func 54) [] [.fptr [.i b] 0]),(5,.i d),(7,.i (a.length:Int)),(8,.i d),(16,.bool k)]) (ac (iv qf2 ql e) (ac (la qpe ql e) (ac (hs (.call 54 (kAF c.Kind c.Day c.Lot c.Amount c.Yarn c.Dye c.Order [.fptr [.i b] 0]) [] [] (kAF c.Kind c.Day c.Lot c.Amount c.Yarn c.Dye c.Order [.fptr [.i b] 0]) (.bool k)) (zn (FzL.cons (Ua (Still.agg (AllST.cons tS (AllST.cons tI (AllST.cons tS (AllST.cons tI (AllST.cons tS (AllST.cons tS (AllST.cons tS AllST.nil))))))))) (FzL.cons (Ua (Still.fptr (AllST.cons tI AllST.nil))) FzL.nil)) (qb8 c b f) tB)) az))) ?_)
    refine ihB g2 (fun o g2=>?_) (fun o g2=>?_)
    ·refine sh fol (kA3 d) ?_
     refine Goes.ret ?_
     obtain rfl:=si g2
     exact Or.inr (⟨rfl,_,rfl,(gw2 [.i d] (Ub tI))⟩)
    refine Goes.skip ?_
    refine gh fol (kO a ((1,.func (.func 54) [] [.fptr [.i b] 0])::(kAR (a.length:Int) (w64 (d+1))))) ?_
    exact⟨M,(ofG 19 (kO a ((1,.func (.func 54) [] [.fptr [.i b] 0])::(kAR (a.length:Int) (w64 (d+1))))),[]),Nat.lt_succ_self _,(Sub.refl _),_,rfl,g2⟩
   refine Goes.exit ?_
   obtain rfl:=si g2
   exact Or.inl (⟨rfl,rfl,(Sub.keep [] rfl rfl)⟩)
 rintro x s' (⟨rfl,rfl,hsub⟩|⟨rfl,p,rfl,hret⟩)
 ·try dsimp only at h
  refine Goes.sub hsub ?_
  refine sh fol kA5 ?_
  refine Goes.ret ?_
  obtain rfl:=si h
  exact(gw2 [.i (-1)] (Ub tI))
 try dsimp only at h
 obtain rfl:=si h
 exact hret
def qM (b:Int):Nat->(List qb)->Int->Int->Option ((List qb)×Int)
 |0,_,_,_=>none
 |K+1,a,c,e=>
  if e<(a.length:Int)then
  (((idx a e).bind fun d=>
  (qan d b).bind fun f=>
  if(!f)=true then
  (idx a c).bind fun j=>
  (put a c d).bind fun g=>
  some (g,w64 (c+1))
  else
  some (a,c):Option ((List qb)×Int))).bind fun(h,i)=>
  qM b K h i (w64 (e+1))
  else
  some (a,c)
def zb (N:Nat) (a:List qb) (b:Int):Option (Unit⊕(List qb)):=
 (yJ N a b).bind fun f=>
 if f=(-1)then
 some (.inl ())
 else
 (qM b N a f (w64 (f+1))).bind fun(c,g)=>
 (if g=0 then
 ((if 0<c.length then some ()else none:Option Unit)).bind fun k=>
 (some (qdh c 0 (⟨[],0,[],0,[],[],[]⟩:qb))).bind fun h=>
 some h
 else
 (at' c g).bind fun d=>
 ((if d<c.length then some ()else none:Option Unit)).bind fun l=>
 (some (qdh c d (⟨[],0,[],0,[],[],[]⟩:qb))).bind fun i=>
 some i:Option (List qb)).bind fun e=>
 ((if 0<e.length then some ()else none:Option Unit)).bind fun m=>
 (cut e 0 g).bind fun j=>
 some (.inr j)
theorem qde (N:Nat) (d:List qb) (b:Int) (h:zb N d b=some (.inl ())):qp ZT (.fn 52) [.gslice 0 d.length 7,.func (.func 54) [] [.ptr 1 0]] (kJ d b []) (.gslice 0 d.length 7) (kJ d b []):=by
 unfold zb at h
 refine Goes.fnH Tryz.func52 rfl rfl (m:=42) rfl (rs:=[.tmp 4]) rfl (l:=(kT d [(1,.func (.func 54) [] [.ptr 1 0])])) rfl ?_
 intro B hB
 refine sh fol (kT d [(1,.func (.func 54) [] [.ptr 1 0])]) ?_
 obtain⟨P,T,h⟩:=bnd h
 refine sq (gr fol [2] (kT d ((1,.func (.func 54) [] [.ptr 1 0])::(kAY P))) (ac (hs (.call 112 [.gslice 0 d.length 7,.func (.func 54) [] [.ptr 1 0]] (kJ d b []) [0,1] [vl ql d,.func (.func 54) [] [.fptr [.i b] 0]] (.i P)) (qaD (FzL.cons (Um (E:=ql) rfl rfl (nl rfl)) (FzL.cons (Fz.func FzL.nil (FzL.cons (Fz.ptr rfl rfl (FzL.cons (Ua tI) FzL.nil)) FzL.nil)) FzL.nil)) (qbt N d b T) tI rfl)) az) ?_)
 refine sq ?_
 refine sh fol (kT d [(1,.func (.func 54) [] [.ptr 1 0]),(5,.i P),(12,.bool (decide (P=(-1))))]) ?_
 refine ihD h (fun Z h=>?_) (fun Z h=>?_)
 ·refine sh fol [(4,.gslice 0 d.length 7)] ?_
  refine Goes.ret ?_
  cases h
  exact(gh2 [.gslice 0 d.length 7] (qh0.refl _ _))
 refine Goes.skip ?_
 refine sq ?_
 refine sh fol (kT d ((1,.func (.func 54) [] [.ptr 1 0])::(kY P (w64 (P+1))))) ?_
 refine Goes.block ?_
 obtain⟨Y,g9,h⟩:=bnd h
 refine Goes.imp (Q:=fun x s'=>(x= .exit 0/\ ∃g k,(g,k)=Y/\Sub s' (ofG 42 (kT g (kAY k)),(kJ g b [])))) ?_ ?_
 ·refine Ud (fun M s=> ∃(e:List qb) (n:Int) (f:Int),s=(ofG 42 (kT e ((1,.func (.func 54) [] [.ptr 1 0])::(kY n f))),(kJ e b []))/\qM b M e n f=some Y) ?_ (m:=N) ⟨_,_,_,rfl,g9⟩
  rintro M s ⟨e,n,f,rfl,g9⟩
  cases M with
  |zero=>simp only[qM]at g9;cases g9
  |succ M=>
   rw[qM]at g9
   refine sq ?_
   refine sh fol (kT e [(1,.func (.func 54) [] [.ptr 1 0]),(5,.i n),(6,.i f),(19,.bool (decide (f<(e.length:Int))))]) ?_
   refine ihD g9 (fun V g9=>?_) (fun V g9=>?_)
   ·refine Goes.skip ?_
    refine sq ?_
    obtain⟨W,g13,g9⟩:=bnd g9
    refine Goes.imp (Q:=fun x s'=>(x= .normal/\ ∃j p,(j,p)=W/\Sub s' (ofG 42 (kT j ((1,.func (.func 54) [] [.ptr 1 0])::(kY p f))),(kJ j b [])))) ?_ ?_
    ·refine Goes.block ?_
     obtain⟨a,q,g13⟩:=bnd g13
     refine sq (gq fol [2,3] (kT e ((1,.func (.func 54) [] [.ptr 1 0])::(kAo n f []))) (kJ e b (kE a.Kind a.Day a.Lot a.Amount a.Yarn a.Dye a.Order [])) (ac (hs (.done (.opt (qH ZT 22 (.gslice 0 e.length 7) (.i f))) (.ptr 0 ((f:Int).toNat*7+0))) (qiq qf2 q)) (ac (hs (.run [0] (qb4 ZT 56 (.ptr 0 ((f:Int).toNat*7+0))) (kJ e b []) (.agg (kA a.Kind a.Day a.Lot a.Amount a.Yarn a.Dye a.Order)) (kJ e b []) false) (qo4 qpe (E:=ql) (l:=e) rfl rfl q)) az)) ?_)
     obtain⟨U,K,g13⟩:=bnd g13
     refine sq (gr fol [2] (kT e ((1,.func (.func 54) [] [.ptr 1 0])::(kAo n f [(29,.bool (!U))]))) (ac (hs (.call 54 (kAF a.Kind a.Day a.Lot a.Amount a.Yarn a.Dye a.Order [.ptr 1 0]) (kJ e b (kE a.Kind a.Day a.Lot a.Amount a.Yarn a.Dye a.Order [])) [1] (kAF a.Kind a.Day a.Lot a.Amount a.Yarn a.Dye a.Order [.fptr [.i b] 0]) (.bool U)) (qaD (FzL.cons (Ua (Still.agg (AllST.cons tS (AllST.cons tI (AllST.cons tS (AllST.cons tI (AllST.cons tS (AllST.cons tS (AllST.cons tS AllST.nil))))))))) (FzL.cons (Fz.ptr rfl rfl (FzL.cons (Ua tI) FzL.nil)) FzL.nil)) (qb8 a b K) tB rfl)) az) ?_)
     refine ihB g13 (fun X g13=>?_) (fun X g13=>?_)
     ·obtain⟨a0,r,g13⟩:=bnd g13
      obtain⟨o,t,g13⟩:=bnd g13
      refine sq (gq fol [3,4] (kT e ((1,.func (.func 54) [] [.ptr 1 0])::(kY n f))) (kJ o b (kE a.Kind a.Day a.Lot a.Amount a.Yarn a.Dye a.Order [])) (ac (hs (.done (.opt (qH ZT 22 (.gslice 0 e.length 7) (.i n))) (.ptr 0 ((n:Int).toNat*7+0))) (qiq qf2 r)) (ac (hs (.run [0] (qe9 ZT 56 (.ptr 0 ((n:Int).toNat*7+0)) (.agg (kA a.Kind a.Day a.Lot a.Amount a.Yarn a.Dye a.Order))) (kJ e b (kE a.Kind a.Day a.Lot a.Amount a.Yarn a.Dye a.Order [])) .undef (kJ o b (kE a.Kind a.Day a.Lot a.Amount a.Yarn a.Dye a.Order [])) true) (qno (E:=ql) (l:=e) (y:=a) rfl (show _=some 7 by kernel_rfl) rfl r rfl rfl rfl rfl rfl t rfl)) az)) ?_)
      refine Goes.sub (show Sub (ofG 42 (kT e ((1,.func (.func 54) [] [.ptr 1 0])::(kY n f))),(kJ o b (kE a.Kind a.Day a.Lot a.Amount a.Yarn a.Dye a.Order []))) (ofG 42 (kT o ((1,.func (.func 54) [] [.ptr 1 0])::(kY n f))),(kJ o b []))from(Sub.norm [] [some 0,some 1] (by rw[hB];rfl) rfl (.keep (.gsliceE rfl (qif t)) (.keep (.funcL (sn) (rc (.ptr rfl) rn)) (.keep (.same nI) (.keep (.same nI) .nil)))) (.ks (.kb rfl (.same sn) .nil)))) ?_
      refine gh fol (kT o ((1,.func (.func 54) [] [.ptr 1 0])::(kY (w64 (n+1)) f))) ?_
      obtain rfl:=si g13
      exact⟨rfl,_,_,rfl,(Sub.refl _)⟩
     refine Goes.skip ?_
     obtain rfl:=si g13
     exact⟨rfl,_,_,rfl,(Sub.norm [] [some 0,some 1] (by rw[hB];rfl) rfl (.keep (.gslice rfl) (.keep (.funcL (sn) (rc (.ptr rfl) rn)) (.keep (.same nI) (.keep (.same nI) .nil)))) (.ks (.kb rfl (.same sn) .nil)))⟩
    rintro x s' ⟨rfl,j,p,rfl,hsub⟩
    try dsimp only at g9
    refine Goes.sub hsub ?_
    refine gh fol (kT j ((1,.func (.func 54) [] [.ptr 1 0])::(kY p (w64 (f+1))))) ?_
    exact⟨M,(ofG 42 (kT j ((1,.func (.func 54) [] [.ptr 1 0])::(kY p (w64 (f+1))))),(kJ j b [])),Nat.lt_succ_self _,(Sub.refl _),_,_,_,rfl,g9⟩
   refine Goes.exit ?_
   obtain rfl:=si g9
   exact⟨rfl,_,_,rfl,(Sub.keep [0,5] rfl rfl)⟩
 rintro x s' ⟨rfl,g,k,rfl,hsub⟩
 try dsimp only at h
 refine Goes.sub hsub ?_
 refine sq ?_
 obtain⟨I,c,h⟩:=bnd h
 refine Goes.cutS (s':=(ofG 42 (kT I (kAY k)),(kJ I b []))) ?_ ?_
 ·rcases wyD c with⟨L,c⟩|⟨L,c⟩
  ·obtain⟨a1,u,c⟩:=bnd c
   obtain⟨v,w,c⟩:=bnd c
   obtain rfl:=si c
   exact zR.sub (zR.rq fol [2,3] (kT g (kAY k)) (kJ v b []) (ac (hs (.done (.opt (qak ZT 22 (.gslice 0 g.length 7) (some (.i k)) none none)) (.oslice 0 g.length 7)) (qj8 qf2 (ot L) (xQ u))) (ac (hs (.run [0] (qbT ZT [22] (.oslice 0 g.length 7)) (kJ g b []) (.tuple []) (kJ v b []) true) (qo1 qf2 (E:=ql) (z:=(⟨[],0,[],0,[],[],[]⟩:qb)) rfl (by kernel_rfl) rfl (xQ u) rfl w rfl)) az))) ((show Sub (ofG 42 (kT g (kAY k)),(kJ v b [])) (ofG 42 (kT v (kAY k)),(kJ v b []))from(Sub.norm [] [some 0,some 1] (by rw[hB];rfl) rfl (.keep (.gsliceE rfl (qcK (Nat.zero_le _) w)) (.keep (.same nI) .nil)) (.ks (.kb rfl (.same sn) .nil)))).trans (Sub.refl _))
  obtain⟨J,A,c⟩:=bnd c
  obtain⟨a2,C,c⟩:=bnd c
  obtain⟨D,F,c⟩:=bnd c
  obtain rfl:=si c
  exact zR.sub (zR.rq fol [2,3] (kT g (kAY k)) (kJ D b []) (ac (hs (.done (.opt (qak ZT 22 (.gslice 0 g.length 7) (some (.i k)) none none)) (.wslice 0 (J*7) (g.length-J) 7)) (qiJ qf2 (of_decide_eq_false L) A (xQ C))) (ac (hs (.run [0] (qbT ZT [22] (.wslice 0 (J*7) (g.length-J) 7)) (kJ g b []) (.tuple []) (kJ D b []) true) (qoI qf2 (E:=ql) (z:=(⟨[],0,[],0,[],[],[]⟩:qb)) rfl (by kernel_rfl) rfl (xQ C) rfl F rfl)) az))) ((show Sub (ofG 42 (kT g (kAY k)),(kJ D b [])) (ofG 42 (kT D (kAY k)),(kJ D b []))from(Sub.norm [] [some 0,some 1] (by rw[hB];rfl) rfl (.keep (.gsliceE rfl (qcK (qoB A) F)) (.keep (.same nI) .nil)) (.ks (.kb rfl (.same sn) .nil)))).trans (Sub.refl _))
 intro _ hsub
 refine Goes.sub hsub ?_
 obtain⟨a3,O,h⟩:=bnd h
 obtain⟨G,H,h⟩:=bnd h
 refine sq (gr fol [2] (kA0 G) (ac (hs (.done (.opt (qak ZT 22 (.gslice 0 I.length 7) none (some (.i k)) none)) (.oslice 0 G.length 7)) (qoV qf2 (xQ O) H)) az) ?_)
 refine Goes.sub (show Sub (ofG 42 (kA0 G),(kJ I b [])) (ofG 42 (kA0 G),(kJ G b []))from(Sub.norm [] [some 0,some 1] (by rw[hB];rfl) rfl (.keep (.oslice rfl) .nil) (.kb rfl (qcB.cut H) (.kb rfl (.same sn) .nil)))) ?_
 refine Goes.ret ?_
 cases h
theorem qdf (N:Nat) (d:List qb) (b:Int) {V:List qb} (h:zb N d b=some (.inr V)):qp ZT (.fn 52) [.gslice 0 d.length 7,.func (.func 54) [] [.ptr 1 0]] (kJ d b []) (.oslice 0 V.length 7) (kJ V b []):=by
 unfold zb at h
 refine Goes.fnH Tryz.func52 rfl rfl (m:=42) rfl (rs:=[.tmp 4]) rfl (l:=(kT d [(1,.func (.func 54) [] [.ptr 1 0])])) rfl ?_
 intro B hB
 refine sh fol (kT d [(1,.func (.func 54) [] [.ptr 1 0])]) ?_
 obtain⟨P,T,h⟩:=bnd h
 refine sq (gr fol [2] (kT d ((1,.func (.func 54) [] [.ptr 1 0])::(kAY P))) (ac (hs (.call 112 [.gslice 0 d.length 7,.func (.func 54) [] [.ptr 1 0]] (kJ d b []) [0,1] [vl ql d,.func (.func 54) [] [.fptr [.i b] 0]] (.i P)) (qaD (FzL.cons (Um (E:=ql) rfl rfl (nl rfl)) (FzL.cons (Fz.func FzL.nil (FzL.cons (Fz.ptr rfl rfl (FzL.cons (Ua tI) FzL.nil)) FzL.nil)) FzL.nil)) (qbt N d b T) tI rfl)) az) ?_)
 refine sq ?_
 refine sh fol (kT d [(1,.func (.func 54) [] [.ptr 1 0]),(5,.i P),(12,.bool (decide (P=(-1))))]) ?_
 refine ihD h (fun c3 h=>?_) (fun c3 h=>?_)
 ·refine sh fol [(4,.gslice 0 d.length 7)] ?_
  refine Goes.ret ?_
  cases h
 refine Goes.skip ?_
 refine sq ?_
 refine sh fol (kT d ((1,.func (.func 54) [] [.ptr 1 0])::(kY P (w64 (P+1))))) ?_
 refine Goes.block ?_
 obtain⟨Z,g9,h⟩:=bnd h
 refine Goes.imp (Q:=fun x s'=>(x= .exit 0/\ ∃g k,(g,k)=Z/\Sub s' (ofG 42 (kT g (kAY k)),(kJ g b [])))) ?_ ?_
 ·refine Ud (fun M s=> ∃(e:List qb) (n:Int) (f:Int),s=(ofG 42 (kT e ((1,.func (.func 54) [] [.ptr 1 0])::(kY n f))),(kJ e b []))/\qM b M e n f=some Z) ?_ (m:=N) ⟨_,_,_,rfl,g9⟩
  rintro M s ⟨e,n,f,rfl,g9⟩
  cases M with
  |zero=>simp only[qM]at g9;cases g9
  |succ M=>
   rw[qM]at g9
   refine sq ?_
   refine sh fol (kT e [(1,.func (.func 54) [] [.ptr 1 0]),(5,.i n),(6,.i f),(19,.bool (decide (f<(e.length:Int))))]) ?_
   refine ihD g9 (fun W g9=>?_) (fun W g9=>?_)
   ·refine Goes.skip ?_
    refine sq ?_
    obtain⟨X,g13,g9⟩:=bnd g9
    refine Goes.imp (Q:=fun x s'=>(x= .normal/\ ∃j q,(j,q)=X/\Sub s' (ofG 42 (kT j ((1,.func (.func 54) [] [.ptr 1 0])::(kY q f))),(kJ j b [])))) ?_ ?_
    ·refine Goes.block ?_
     obtain⟨a,r,g13⟩:=bnd g13
     refine sq (gq fol [2,3] (kT e ((1,.func (.func 54) [] [.ptr 1 0])::(kAo n f []))) (kJ e b (kE a.Kind a.Day a.Lot a.Amount a.Yarn a.Dye a.Order [])) (ac (hs (.done (.opt (qH ZT 22 (.gslice 0 e.length 7) (.i f))) (.ptr 0 ((f:Int).toNat*7+0))) (qiq qf2 r)) (ac (hs (.run [0] (qb4 ZT 56 (.ptr 0 ((f:Int).toNat*7+0))) (kJ e b []) (.agg (kA a.Kind a.Day a.Lot a.Amount a.Yarn a.Dye a.Order)) (kJ e b []) false) (qo4 qpe (E:=ql) (l:=e) rfl rfl r)) az)) ?_)
     obtain⟨U,K,g13⟩:=bnd g13
     refine sq (gr fol [2] (kT e ((1,.func (.func 54) [] [.ptr 1 0])::(kAo n f [(29,.bool (!U))]))) (ac (hs (.call 54 (kAF a.Kind a.Day a.Lot a.Amount a.Yarn a.Dye a.Order [.ptr 1 0]) (kJ e b (kE a.Kind a.Day a.Lot a.Amount a.Yarn a.Dye a.Order [])) [1] (kAF a.Kind a.Day a.Lot a.Amount a.Yarn a.Dye a.Order [.fptr [.i b] 0]) (.bool U)) (qaD (FzL.cons (Ua (Still.agg (AllST.cons tS (AllST.cons tI (AllST.cons tS (AllST.cons tI (AllST.cons tS (AllST.cons tS (AllST.cons tS AllST.nil))))))))) (FzL.cons (Fz.ptr rfl rfl (FzL.cons (Ua tI) FzL.nil)) FzL.nil)) (qb8 a b K) tB rfl)) az) ?_)
     refine ihB g13 (fun Y g13=>?_) (fun Y g13=>?_)
     ·obtain⟨x17,t,g13⟩:=bnd g13
      obtain⟨o,u,g13⟩:=bnd g13
      refine sq (gq fol [3,4] (kT e ((1,.func (.func 54) [] [.ptr 1 0])::(kY n f))) (kJ o b (kE a.Kind a.Day a.Lot a.Amount a.Yarn a.Dye a.Order [])) (ac (hs (.done (.opt (qH ZT 22 (.gslice 0 e.length 7) (.i n))) (.ptr 0 ((n:Int).toNat*7+0))) (qiq qf2 t)) (ac (hs (.run [0] (qe9 ZT 56 (.ptr 0 ((n:Int).toNat*7+0)) (.agg (kA a.Kind a.Day a.Lot a.Amount a.Yarn a.Dye a.Order))) (kJ e b (kE a.Kind a.Day a.Lot a.Amount a.Yarn a.Dye a.Order [])) .undef (kJ o b (kE a.Kind a.Day a.Lot a.Amount a.Yarn a.Dye a.Order [])) true) (qno (E:=ql) (l:=e) (y:=a) rfl (show _=some 7 by kernel_rfl) rfl t rfl rfl rfl rfl rfl u rfl)) az)) ?_)
      refine Goes.sub (show Sub (ofG 42 (kT e ((1,.func (.func 54) [] [.ptr 1 0])::(kY n f))),(kJ o b (kE a.Kind a.Day a.Lot a.Amount a.Yarn a.Dye a.Order []))) (ofG 42 (kT o ((1,.func (.func 54) [] [.ptr 1 0])::(kY n f))),(kJ o b []))from(Sub.norm [] [some 0,some 1] (by rw[hB];rfl) rfl (.keep (.gsliceE rfl (qif u)) (.keep (.funcL (sn) (rc (.ptr rfl) rn)) (.keep (.same nI) (.keep (.same nI) .nil)))) (.ks (.kb rfl (.same sn) .nil)))) ?_
      refine gh fol (kT o ((1,.func (.func 54) [] [.ptr 1 0])::(kY (w64 (n+1)) f))) ?_
      obtain rfl:=si g13
      exact⟨rfl,_,_,rfl,(Sub.refl _)⟩
     refine Goes.skip ?_
     obtain rfl:=si g13
     exact⟨rfl,_,_,rfl,(Sub.norm [] [some 0,some 1] (by rw[hB];rfl) rfl (.keep (.gslice rfl) (.keep (.funcL (sn) (rc (.ptr rfl) rn)) (.keep (.same nI) (.keep (.same nI) .nil)))) (.ks (.kb rfl (.same sn) .nil)))⟩
    rintro x s' ⟨rfl,j,q,rfl,hsub⟩
    try dsimp only at g9
    refine Goes.sub hsub ?_
    refine gh fol (kT j ((1,.func (.func 54) [] [.ptr 1 0])::(kY q (w64 (f+1))))) ?_
    exact⟨M,(ofG 42 (kT j ((1,.func (.func 54) [] [.ptr 1 0])::(kY q (w64 (f+1))))),(kJ j b [])),Nat.lt_succ_self _,(Sub.refl _),_,_,_,rfl,g9⟩
   refine Goes.exit ?_
   obtain rfl:=si g9
   exact⟨rfl,_,_,rfl,(Sub.keep [0,5] rfl rfl)⟩
 rintro x s' ⟨rfl,g,k,rfl,hsub⟩
 try dsimp only at h
 refine Goes.sub hsub ?_
 refine sq ?_
 obtain⟨I,c,h⟩:=bnd h
 refine Goes.cutS (s':=(ofG 42 (kT I (kAY k)),(kJ I b []))) ?_ ?_
 ·rcases wyD c with⟨L,c⟩|⟨L,c⟩
  ·obtain⟨u20,v,c⟩:=bnd c
   obtain⟨w,A,c⟩:=bnd c
   obtain rfl:=si c
   exact zR.sub (zR.rq fol [2,3] (kT g (kAY k)) (kJ w b []) (ac (hs (.done (.opt (qak ZT 22 (.gslice 0 g.length 7) (some (.i k)) none none)) (.oslice 0 g.length 7)) (qj8 qf2 (ot L) (xQ v))) (ac (hs (.run [0] (qbT ZT [22] (.oslice 0 g.length 7)) (kJ g b []) (.tuple []) (kJ w b []) true) (qo1 qf2 (E:=ql) (z:=(⟨[],0,[],0,[],[],[]⟩:qb)) rfl (by kernel_rfl) rfl (xQ v) rfl A rfl)) az))) ((show Sub (ofG 42 (kT g (kAY k)),(kJ w b [])) (ofG 42 (kT w (kAY k)),(kJ w b []))from(Sub.norm [] [some 0,some 1] (by rw[hB];rfl) rfl (.keep (.gsliceE rfl (qcK (Nat.zero_le _) A)) (.keep (.same nI) .nil)) (.ks (.kb rfl (.same sn) .nil)))).trans (Sub.refl _))
  obtain⟨J,C,c⟩:=bnd c
  obtain⟨u23,D,c⟩:=bnd c
  obtain⟨F,G,c⟩:=bnd c
  obtain rfl:=si c
  exact zR.sub (zR.rq fol [2,3] (kT g (kAY k)) (kJ F b []) (ac (hs (.done (.opt (qak ZT 22 (.gslice 0 g.length 7) (some (.i k)) none none)) (.wslice 0 (J*7) (g.length-J) 7)) (qiJ qf2 (of_decide_eq_false L) C (xQ D))) (ac (hs (.run [0] (qbT ZT [22] (.wslice 0 (J*7) (g.length-J) 7)) (kJ g b []) (.tuple []) (kJ F b []) true) (qoI qf2 (E:=ql) (z:=(⟨[],0,[],0,[],[],[]⟩:qb)) rfl (by kernel_rfl) rfl (xQ D) rfl G rfl)) az))) ((show Sub (ofG 42 (kT g (kAY k)),(kJ F b [])) (ofG 42 (kT F (kAY k)),(kJ F b []))from(Sub.norm [] [some 0,some 1] (by rw[hB];rfl) rfl (.keep (.gsliceE rfl (qcK (qoB C) G)) (.keep (.same nI) .nil)) (.ks (.kb rfl (.same sn) .nil)))).trans (Sub.refl _))
 intro _ hsub
 refine Goes.sub hsub ?_
 obtain⟨u28,O,h⟩:=bnd h
 obtain⟨p,H,h⟩:=bnd h
 refine sq (gr fol [2] (kA0 p) (ac (hs (.done (.opt (qak ZT 22 (.gslice 0 I.length 7) none (some (.i k)) none)) (.oslice 0 p.length 7)) (qoV qf2 (xQ O) H)) az) ?_)
 refine Goes.sub (show Sub (ofG 42 (kA0 p),(kJ I b [])) (ofG 42 (kA0 p),(kJ p b []))from(Sub.norm [] [some 0,some 1] (by rw[hB];rfl) rfl (.keep (.oslice rfl) .nil) (.kb rfl (qcB.cut H) (.kb rfl (.same sn) .nil)))) ?_
 refine Goes.ret ?_
 obtain rfl:=Sum.inr.inj (si h)
 exact(gh2 [.oslice 0 p.length 7] (qh0.refl _ _))
def qel (N:Nat) (l:List qb) (day:Int):Option (StateT×Int):=
 (qaM N l).bind fun b=>
 (qbY day 0 99999).bind fun c=>
 (qbm N ([b,c]:List Int)).bind fun a=>
 if(!decide (a=0))=true then
 some ((⟨0,[],[]⟩:StateT),a)
 else
 (qfW l).bind fun _=>
 (zb N l day).bind fun d=>
 match d with
 | .inl _=>
 (qaK N l).bind fun e=>
 some (e.1,0)
 | .inr f=>
 (qaK N f).bind fun g=>
 some (g.1,0)
theorem qls (N:Nat) (l:List qb) (day:Int) {res:StateT×Int} (h:qel N l day=some res):qp ZT (.fn 12) [vl ql l,.i day] [] (.tuple (kV res.1.Day res.1.Lots res.1.Holds [.i res.2])) []:=by
 unfold qel at h
 refine Uc Tryz.func12 rfl rfl (m:=28) rfl (rs:=[.cell 4 30,.tmp 5]) rfl (l:=(kO l [(1,.i day)])) rfl ?_
 refine sg fol (kO l ((3,.ptr 0 0)::(kAf []))) (.cells [.i day]::(kF [])) ?_
 refine sq ?_
 obtain⟨d,n,h⟩:=bnd h
 obtain⟨e,o,h⟩:=bnd h
 obtain⟨k,p,h⟩:=bnd h
 refine sq (gq fol [1,3,5] (kO l ((3,.ptr 0 0)::(kAf [(6,.i k)]))) (.cells [.i day]::(kF (kAP d e []))) (ac (cv (yB N l n)) (ac (cv (qet day 0 99999 o)) (ac (hs (.call 50 [.slice 2 0 2 2 1] (.cells [.i day]::(kF (kAP d e []))) [2] [vl encI ([d,e]:List Int)] (.i k)) (qaD (FzL.cons (Fz.lit rfl rfl (Uh (AllST.cons tI (AllST.cons tI AllST.nil)))) FzL.nil) (qcd N ([d,e]:List Int) p) tI rfl)) az))) ?_)
 refine sh fol (kO l ((3,.ptr 0 0)::(kAf [(6,.i k),(16,.bool (!decide (k=0)))]))) ?_
 refine ihB h (fun s h=>?_) (fun s h=>?_)
 ·refine sh fol (kAf (kAY k)) ?_
  refine Goes.ret ?_
  obtain rfl:=si h
  exact(gw2 [.agg [.i 0,.nilslice,.nilslice],.i k] (FzW.tuple (qJ.cons (FzW.agg (qJ.cons (Ub tI) (qJ.cons (FzW.nilv (E:=qo)) (qJ.cons (FzW.nilv (E:=qg)) qJ.nil)))) (qJ.cons (Ub tI) qJ.nil))))
 refine Goes.skip ?_
 refine sq ?_
 obtain⟨_,f,h⟩:=bnd h
 obtain⟨t,g,h⟩:=bnd h
 rcases t with _|j
 ·try dsimp only at h
  obtain⟨a,q,h⟩:=bnd h
  refine gq fol [1,3,4] (kAf [(7,.ptr 4 0)]) (.cells [.i day]::(kF (kAP d e (.frozen (l.flatMap ql.c)::(kD a.1.Day a.1.Lots a.1.Holds []))))) (ac (hs (.callH 53 [vl ql l] (.cells [.i day]::(kF (kAP d e []))) [] (.gslice 3 l.length 7) (.cells [.i day]::(kF (kAP d e (kAA l))))) (qdS [] [none,none,none,some 0] (qhK l f) .nil rfl rfl (.old rfl rfl (.old rfl rfl (.old rfl rfl (.new rfl rfl (.same fa) rfl .nil)))) (rc (.same (qN ql _)) rn) (.gslice rfl) rfl)) (ac (hs (.callH 52 [.gslice 3 l.length 7,.func (.func 54) [] [.ptr 0 0]] (.cells [.i day]::(kF (kAP d e (kAA l)))) [3,0] (.gslice 3 l.length 7) (.cells [.i day]::(kF (kAP d e (kAA l))))) (qdS [some 3,some 0] [some 1,none,none,some 0] (qde N l day g) (.ks (.kb rfl (.cells (rc (.same nI) rn)) .nil)) rfl rfl (.back rfl rfl (.cells (rc (.same nI) rn)) rfl (.old rfl rfl (.old rfl rfl (.back rfl rfl (.same fa) rfl .nil)))) (rc (.gslice rfl) (rc (.funcL (sn) (rc (.ptr rfl) rn)) rn)) (.gslice rfl) rfl)) (ac (hs (.callF 49 [.gslice 3 l.length 7] (.cells [.i day]::(kF (kAP d e (kAA l)))) [3] [vl ql l] (.tuple (kV a.1.Day a.1.Lots a.1.Holds [vl qG a.2]))) (qqM (FzL.cons (Um (E:=ql) rfl rfl (nl rfl)) FzL.nil) (qeA N l q) (Still.tuple (AllST.cons (Still.agg (AllST.cons tI (AllST.cons (qw qo _ (nl rfl)) (AllST.cons (qw qg _ (nl rfl)) AllST.nil)))) (AllST.cons (qw qG _ (nl rfl)) AllST.nil))))) az))) ?_
  refine Goes.sub (show Sub (ofG 28 (kAf [(7,.ptr 4 0)]),(.cells [.i day]::(kF (kAP d e (.frozen (l.flatMap ql.c)::(kD a.1.Day a.1.Lots a.1.Holds [])))))) (ofG 28 [(4,.ptr 0 0),(7,.ptr 1 0)],(kF (kD a.1.Day a.1.Lots a.1.Holds [])))from(Sub.norm [] [some 1,some 4] rfl rfl (.kp (.kp .nil)) (.kb rfl (.same sn) (.kb rfl (.same sn) .nil)))) ?_
  refine sg fol [(4,.ptr 0 0),(5,.i 0)] (kD a.1.Day a.1.Lots a.1.Holds (kD a.1.Day a.1.Lots a.1.Holds [])) ?_
  refine Goes.ret ?_
  obtain rfl:=si h
  exact(gw2 (kV a.1.Day a.1.Lots a.1.Holds [.i 0]) (FzW.tuple (qJ.cons (FzW.agg (qJ.cons (Ub tI) (qJ.cons (Ub (qw qo _ (nl rfl))) (qJ.cons (Ub (qw qg _ (nl rfl))) qJ.nil)))) (qJ.cons (Ub tI) qJ.nil))))
 try dsimp only at h
 obtain⟨b,r,h⟩:=bnd h
 refine gq fol [1,3,4] (kAf [(7,.ptr 4 0)]) (.cells [.i day]::(kF (kAP d e (.frozen (j.flatMap ql.c)::(kD b.1.Day b.1.Lots b.1.Holds []))))) (ac (hs (.callH 53 [vl ql l] (.cells [.i day]::(kF (kAP d e []))) [] (.gslice 3 l.length 7) (.cells [.i day]::(kF (kAP d e (kAA l))))) (qdS [] [none,none,none,some 0] (qhK l f) .nil rfl rfl (.old rfl rfl (.old rfl rfl (.old rfl rfl (.new rfl rfl (.same fa) rfl .nil)))) (rc (.same (qN ql _)) rn) (.gslice rfl) rfl)) (ac (hs (.callH 52 [.gslice 3 l.length 7,.func (.func 54) [] [.ptr 0 0]] (.cells [.i day]::(kF (kAP d e (kAA l)))) [3,0] (.oslice 3 j.length 7) (.cells [.i day]::(kF (kAP d e (kAA j))))) (qdS [some 3,some 0] [some 1,none,none,some 0] (qdf N l day g) (.ks (.kb rfl (.cells (rc (.same nI) rn)) .nil)) rfl rfl (.back rfl rfl (.cells (rc (.same nI) rn)) rfl (.old rfl rfl (.old rfl rfl (.back rfl rfl (.same fa) rfl .nil)))) (rc (.gslice rfl) (rc (.funcL (sn) (rc (.ptr rfl) rn)) rn)) (.oslice rfl) rfl)) (ac (hs (.callF 49 [.oslice 3 j.length 7] (.cells [.i day]::(kF (kAP d e (kAA j)))) [3] [vl ql j] (.tuple (kV b.1.Day b.1.Lots b.1.Holds [vl qG b.2]))) (qqM (FzL.cons (Fz.os (E:=ql) rfl rfl (nl rfl)) FzL.nil) (qeA N j r) (Still.tuple (AllST.cons (Still.agg (AllST.cons tI (AllST.cons (qw qo _ (nl rfl)) (AllST.cons (qw qg _ (nl rfl)) AllST.nil)))) (AllST.cons (qw qG _ (nl rfl)) AllST.nil))))) az))) ?_
 refine Goes.sub (show Sub (ofG 28 (kAf [(7,.ptr 4 0)]),(.cells [.i day]::(kF (kAP d e (.frozen (j.flatMap ql.c)::(kD b.1.Day b.1.Lots b.1.Holds [])))))) (ofG 28 [(4,.ptr 0 0),(7,.ptr 1 0)],(kF (kD b.1.Day b.1.Lots b.1.Holds [])))from(Sub.norm [] [some 1,some 4] rfl rfl (.kp (.kp .nil)) (.kb rfl (.same sn) (.kb rfl (.same sn) .nil)))) ?_
 refine sg fol [(4,.ptr 0 0),(5,.i 0)] (kD b.1.Day b.1.Lots b.1.Holds (kD b.1.Day b.1.Lots b.1.Holds [])) ?_
 refine Goes.ret ?_
 obtain rfl:=si h
 exact(gw2 (kV b.1.Day b.1.Lots b.1.Holds [.i 0]) (FzW.tuple (qJ.cons (FzW.agg (qJ.cons (Ub tI) (qJ.cons (Ub (qw qo _ (nl rfl))) (qJ.cons (Ub (qw qg _ (nl rfl))) qJ.nil)))) (qJ.cons (Ub tI) qJ.nil))))
def qej (n:Int) (least:Int) (most:Int):Option Bool:=
 (if n<least then
 some true
 else
 some (decide (n>most)):Option Bool).bind fun a=>
 some a
theorem qfH (n:Int) (least:Int) (most:Int) {res:Bool} (h:qej n least most=some res):qp ZT (.fn 60) [.i n,.i least,.i most] [] (.bool res) []:=by
 unfold qej at h
 refine Uc Tryz.func60 rfl rfl (m:=15) rfl (rs:=[.tmp 6]) rfl (l:=((0,.i n)::(1,.i least)::(kA4 most))) rfl ?_
 refine sh fol ((0,.i n)::(1,.i least)::(kA4 most)) ?_
 refine sq ?_
 obtain⟨c,a,h⟩:=bnd h
 refine Goes.cut (s':=(ofG 15 [(6,.bool c)],[])) ?_ ?_
 ·rcases wyD a with⟨b,a⟩|⟨b,a⟩
  ·obtain rfl:=si a
   exact tr fol [3] [(6,.bool true)] (ac (gw b) az)
  obtain rfl:=si a
  exact tr fol [3] [(6,.bool (decide (n>most)))] (ac (gw b) az)
 refine Goes.ret ?_
 obtain rfl:=si h
 exact(gw2 [.bool c] (Ub tB))
def qab (c:Str):Nat->Int->Option (Unit⊕Bool)
 |0,_=>none
 |K+1,b=>
  if b<(c.length:Int)then
  (idx c b).bind fun a=>
  (if(a.toNat:Int)>=97 then
  if(a.toNat:Int)<=122 then
  some true
  else
  if(a.toNat:Int)>=65 then
  some (decide ((a.toNat:Int)<=90))
  else
  some false
  else
  if(a.toNat:Int)>=65 then
  some (decide ((a.toNat:Int)<=90))
  else
  some false:Option Bool).bind fun d=>
  (if(!d)=true then
  if b=0 then
  some true
  else
  if(a.toNat:Int)>=48 then
  if(a.toNat:Int)<=57 then
  some false
  else
  some (!(decide ((a.toNat:Int)=95)))
  else
  some (!(decide ((a.toNat:Int)=95)))
  else
  some false:Option Bool).bind fun e=>
  if e=true then
  some (.inr false)
  else
  qab c K (w64 (b+1))
  else
  some (.inl ())
def qaJ (N:Nat) (a:Str):Option Bool:=
 (if(a.length:Int)<1 then
 some true
 else
 some (decide ((a.length:Int)>24)):Option Bool).bind fun c=>
 if c=true then
 some false
 else
 (qab a N 0).bind (fun
 |(.inl ())=>
 some true
 |(.inr b)=>
 some b)
theorem qbu (N:Nat) (c:Str) {res:Bool} (h:qaJ N c=some res):qp ZT (.fn 61) [.str c] [] (.bool res) []:=by
 unfold qaJ at h
 refine Uc Tryz.func61 rfl rfl (m:=56) rfl (rs:=[.tmp 2]) rfl (l:=[(0,.str c)]) rfl ?_
 refine sh fol [(0,.str c)] ?_
 refine sq ?_
 refine sq ?_
 obtain⟨B,e,h⟩:=bnd h
 refine Goes.cut (s':=(ofG 56 [(0,.str c),(13,.bool B)],[])) ?_ ?_
 ·rcases wyD e with⟨u,e⟩|⟨u,e⟩
  ·obtain rfl:=si e
   exact tr fol [3] [(0,.str c),(13,.bool true)] (ac (gw u) az)
  obtain rfl:=si e
  exact tr fol [3] [(0,.str c),(13,.bool (decide ((c.length:Int)>24)))] (ac (gw u) az)
 refine ihB h (fun C h=>?_) (fun C h=>?_)
 ·refine sh fol kAh ?_
  refine Goes.ret ?_
  obtain rfl:=si h
  exact(gw2 [.bool false] (Ub tB))
 refine Goes.skip ?_
 refine sq ?_
 refine sh fol [(0,.str c),(3,.i 0)] ?_
 refine Goes.block ?_
 obtain⟨v,g6,h⟩:=bnd h
 refine Goes.imp (Q:=fun x s'=>(x= .exit 0/\(.inl ())=v/\Sub s' (ofG 56 [],[]))\/(x= .ret/\ ∃A,(.inr A)=v/\jF ZT [.tmp 2] (.bool A) .ret s')) ?_ ?_
 ·refine Ud (fun M s=> ∃(d:Int),s=(ofG 56 (kAg c d []),[])/\qab c M d=some v) ?_ (m:=N) ⟨_,rfl,g6⟩
  rintro M s ⟨d,rfl,g6⟩
  cases M with
  |zero=>simp only[qab]at g6;cases g6
  |succ M=>
   rw[qab]at g6
   refine sq ?_
   refine sh fol (kAg c d [(17,.bool (decide (d<(c.length:Int))))]) ?_
   refine ihD g6 (fun D g6=>?_) (fun D g6=>?_)
   ·refine Goes.skip ?_
    refine sq (Goes.block ?_)
    obtain⟨j,t,g6⟩:=bnd g6
    refine sq (gr fol [2] (kAg c d [(4,.int .u8 (j.toNat:Int))]) (ac (hs (.done (.opt (qhP ZT 9 (.str c) (.i d))) (.int .u8 (j.toNat:Int))) (qsv st9 t)) az) ?_)
    refine sq ?_
    obtain⟨w,a,g6⟩:=bnd g6
    refine Goes.cut (s':=(ofG 56 (kAg c d [(4,.int .u8 (j.toNat:Int)),(5,.bool w)]),[])) ?_ ?_
    ·rcases wyD a with⟨f,a⟩|⟨f,a⟩
     ·rcases wyD a with⟨n,a⟩|⟨n,a⟩
      ·obtain rfl:=si a
       exact tr fol [2,6] (kAg c d [(4,.int .u8 (j.toNat:Int)),(5,.bool true)]) (ac (gw f) (ac (gw n) az))
      rcases wyD a with⟨p,a⟩|⟨p,a⟩
      ·obtain rfl:=si a
       exact tr fol [2,6,9] (kAg c d [(4,.int .u8 (j.toNat:Int)),(5,.bool (decide ((j.toNat:Int)<=90)))]) (ac (gw f) (ac (gw n) (ac (gw p) az)))
      obtain rfl:=si a
      exact tr fol [2,6,9] (kAg c d [(4,.int .u8 (j.toNat:Int)),(5,.bool false)]) (ac (gw f) (ac (gw n) (ac (gw p) az)))
     rcases wyD a with⟨q,a⟩|⟨q,a⟩
     ·obtain rfl:=si a
      exact tr fol [2,9] (kAg c d [(4,.int .u8 (j.toNat:Int)),(5,.bool (decide ((j.toNat:Int)<=90)))]) (ac (gw f) (ac (gw q) az))
     obtain rfl:=si a
     exact tr fol [2,9] (kAg c d [(4,.int .u8 (j.toNat:Int)),(5,.bool false)]) (ac (gw f) (ac (gw q) az))
    refine sq ?_
    obtain⟨y,b,g6⟩:=bnd g6
    refine Goes.cut (s':=(ofG 56 (kAg c d [(55,.bool y)]),[])) ?_ ?_
    ·rcases wyB b with⟨g,b⟩|⟨g,b⟩
     ·rcases wyD b with⟨k,b⟩|⟨k,b⟩
      ·obtain rfl:=si b
       exact tr fol [2,5] (kAg c d [(55,.bool true)]) (ac (gw g) (ac (gw k) az))
      rcases wyD b with⟨o,b⟩|⟨o,b⟩
      ·rcases wyD b with⟨r,b⟩|⟨r,b⟩
       ·obtain rfl:=si b
        exact tr fol [2,5,8,12] (kAg c d [(55,.bool false)]) (ac (gw g) (ac (gw k) (ac (gw o) (ac (gw r) az))))
       obtain rfl:=si b
       exact tr fol [2,5,8,12] (kAg c d [(55,.bool (!(decide ((j.toNat:Int)=95))))]) (ac (gw g) (ac (gw k) (ac (gw o) (ac (gw r) az))))
      obtain rfl:=si b
      exact tr fol [2,5,8] (kAg c d [(55,.bool (!(decide ((j.toNat:Int)=95))))]) (ac (gw g) (ac (gw k) (ac (gw o) az)))
     obtain rfl:=si b
     exact tr fol [2] (kAg c d [(55,.bool false)]) (ac (gw g) az)
    refine ihB g6 (fun z g6=>?_) (fun z g6=>?_)
    ·refine sh fol kAh ?_
     refine Goes.ret ?_
     obtain rfl:=si g6
     exact Or.inr (⟨rfl,_,rfl,(gw2 [.bool false] (Ub tB))⟩)
    refine Goes.skip ?_
    refine gh fol (kAg c (w64 (d+1)) []) ?_
    exact⟨M,(ofG 56 (kAg c (w64 (d+1)) []),[]),Nat.lt_succ_self _,(Sub.refl _),_,rfl,g6⟩
   refine Goes.exit ?_
   obtain rfl:=si g6
   exact Or.inl (⟨rfl,rfl,(Sub.keep [] rfl rfl)⟩)
 rintro x s' (⟨rfl,rfl,hsub⟩|⟨rfl,E,rfl,hret⟩)
 ·try dsimp only at h
  refine Goes.sub hsub ?_
  refine sh fol [(2,.bool true)] ?_
  refine Goes.ret ?_
  obtain rfl:=si h
  exact(gw2 [.bool true] (Ub tB))
 try dsimp only at h
 obtain rfl:=si h
 exact hret
def qdF (N:Nat) (a:Str):Option Bool:=
 (if(a==[])=true then
 some true
 else
 (qaJ N a).bind fun b=>
 some b:Option Bool).bind fun c=>
 some c
theorem qkU (N:Nat) (b:Str) {res:Bool} (h:qdF N b=some res):qp ZT (.fn 62) [.str b] [] (.bool res) []:=by
 unfold qdF at h
 refine Uc Tryz.func62 rfl rfl (m:=9) rfl (rs:=[.tmp 2]) rfl (l:=[(0,.str b)]) rfl ?_
 refine sh fol [(0,.str b)] ?_
 refine sq ?_
 obtain⟨e,a,h⟩:=bnd h
 refine Goes.cut (s':=(ofG 9 (kAc e),[])) ?_ ?_
 ·rcases wyB a with⟨d,a⟩|⟨d,a⟩
  ·obtain rfl:=si a
   exact tr fol [2] [(2,.bool true)] (ac (gw d) az)
  obtain⟨f,c,a⟩:=bnd a
  obtain rfl:=si a
  exact tr fol [2,4] (kAc f) (ac (gw d) (ac (cv (qbu N b c)) az))
 refine Goes.ret ?_
 obtain rfl:=si h
 exact(gw2 [.bool e] (Ub tB))
def qa0 (N:Nat) (e:qb):Option Int:=
 (if(!(e.Kind==[114,101,99,101,105,118,101]))=true then
 if(!(e.Kind==[114,101,115,101,114,118,101]))=true then
 if(!(e.Kind==[114,101,108,101,97,115,101]))=true then
 if(!(e.Kind==[116,97,107,101]))=true then
 some (!(e.Kind==[114,101,116,117,114,110]))
 else
 some false
 else
 some false
 else
 some false
 else
 some false:Option Bool).bind fun j=>
 if j=true then
 some 13
 else
 ((qej e.Day 0 99999).bind fun k=>
 if k=true then
 some true
 else
 (qej e.Amount 1 999999999).bind fun a=>
 some a:Option Bool).bind fun b=>
 if b=true then
 some 3
 else
 (qaJ N e.Lot).bind fun c=>
 if(!c)=true then
 some 8
 else
 if(e.Kind==[114,101,99,101,105,118,101])=true then
 ((qaJ N e.Yarn).bind fun d=>
 if(!d)=true then
 some true
 else
 (qdF N e.Dye).bind fun f=>
 some (!f):Option Bool).bind fun g=>
 if g=true then
 some 8
 else
 if(!(e.Order==[]))=true then
 some 1
 else
 some 0
 else
 (qaJ N e.Order).bind fun h=>
 if(!h)=true then
 some 8
 else
 (if(!(e.Yarn==[]))=true then
 some true
 else
 some (!(e.Dye==[])):Option Bool).bind fun i=>
 if i=true then
 some 1
 else
 some 0
theorem qhr (N:Nat) (e:qb) {res:Int} (h:qa0 N e=some res):qp ZT (.fn 26) [.agg (kA e.Kind e.Day e.Lot e.Amount e.Yarn e.Dye e.Order)] [] (.i res) []:=by
 unfold qa0 at h
 refine Uc Tryz.func26 rfl rfl (m:=63) rfl (rs:=[.tmp 2]) rfl (l:=[(0,.agg [.str e.Kind,.i e.Day,.str e.Lot,.i e.Amount,.str e.Yarn,.str e.Dye,.str e.Order])]) rfl ?_
 refine sg fol (kAW []) (kE e.Kind e.Day e.Lot e.Amount e.Yarn e.Dye e.Order []) ?_
 refine sh fol (kAW [(3,.str e.Kind)]) ?_
 refine sq ?_
 refine sq ?_
 obtain⟨K,a,h⟩:=bnd h
 refine Goes.cut (s':=(ofG 63 (kAW [(3,.str e.Kind),(23,.bool K)]),(kE e.Kind e.Day e.Lot e.Amount e.Yarn e.Dye e.Order []))) ?_ ?_
 ·rcases wyB a with⟨r,a⟩|⟨r,a⟩
  ·rcases wyB a with⟨s,a⟩|⟨s,a⟩
   ·rcases wyB a with⟨t,a⟩|⟨t,a⟩
    ·rcases wyB a with⟨u,a⟩|⟨u,a⟩
     ·obtain rfl:=si a
      exact tr fol [2,6,10,14] (kAW [(3,.str e.Kind),(23,.bool (!(e.Kind==[114,101,116,117,114,110])))]) (ac (gw r) (ac (gw s) (ac (gw t) (ac (gw u) az))))
     obtain rfl:=si a
     exact tr fol [2,6,10,14] (kAW [(3,.str e.Kind),(23,.bool false)]) (ac (gw r) (ac (gw s) (ac (gw t) (ac (gw u) az))))
    obtain rfl:=si a
    exact tr fol [2,6,10] (kAW [(3,.str e.Kind),(23,.bool false)]) (ac (gw r) (ac (gw s) (ac (gw t) az)))
   obtain rfl:=si a
   exact tr fol [2,6] (kAW [(3,.str e.Kind),(23,.bool false)]) (ac (gw r) (ac (gw s) az))
  obtain rfl:=si a
  exact tr fol [2] (kAW [(3,.str e.Kind),(23,.bool false)]) (ac (gw r) az)
 refine ihB h (fun L h=>?_) (fun L h=>?_)
 ·refine sh fol [(2,.i 13)] ?_
  refine Goes.ret ?_
  obtain rfl:=si h
  exact(gw2 [.i 13] (Ub tI))
 refine Goes.skip ?_
 refine sq ?_
 refine sq ?_
 obtain⟨v,b,h⟩:=bnd h
 refine Goes.cut (s':=(ofG 63 (kAW [(3,.str e.Kind),(31,.bool v)]),(kE e.Kind e.Day e.Lot e.Amount e.Yarn e.Dye e.Order []))) ?_ ?_
 ·obtain⟨O,g,b⟩:=bnd b
  rcases wyB b with⟨w,b⟩|⟨w,b⟩
  ·obtain rfl:=si b
   exact tr fol [2,3] (kAW [(3,.str e.Kind),(31,.bool true)]) (ac (cv (qfH e.Day 0 99999 g)) (ac (gw w) az))
  obtain⟨x,j,b⟩:=bnd b
  obtain rfl:=si b
  exact tr fol [2,3,6] (kAW [(3,.str e.Kind),(31,.bool x)]) (ac (cv (qfH e.Day 0 99999 g)) (ac (gw w) (ac (cv (qfH e.Amount 1 999999999 j)) az)))
 refine ihB h (fun y h=>?_) (fun y h=>?_)
 ·refine sh fol [(2,.i 3)] ?_
  refine Goes.ret ?_
  obtain rfl:=si h
  exact(gw2 [.i 3] (Ub tI))
 refine Goes.skip ?_
 refine sq ?_
 obtain⟨z,k,h⟩:=bnd h
 refine sq (gr fol [2] (kAW [(3,.str e.Kind),(35,.bool (!z))]) (ac (cv (qbu N e.Lot k)) az) ?_)
 refine ihB h (fun A h=>?_) (fun A h=>?_)
 ·refine sh fol [(2,.i 8)] ?_
  refine Goes.ret ?_
  obtain rfl:=si h
  exact(gw2 [.i 8] (Ub tI))
 refine Goes.skip ?_
 refine sq ?_
 refine sh fol (kAW [(37,.bool (e.Kind==[114,101,99,101,105,118,101]))]) ?_
 refine ihB h (fun B h=>?_) (fun B h=>?_)
 ·refine sq ?_
  refine sq ?_
  obtain⟨C,c,h⟩:=bnd h
  refine Goes.cut (s':=(ofG 63 (kAW [(47,.bool C)]),(kE e.Kind e.Day e.Lot e.Amount e.Yarn e.Dye e.Order []))) ?_ ?_
  ·obtain⟨M,f,c⟩:=bnd c
   rcases wyB c with⟨n,c⟩|⟨n,c⟩
   ·obtain rfl:=si c
    exact tr fol [2,4] (kAW [(47,.bool true)]) (ac (cv (qbu N e.Yarn f)) (ac (gw n) az))
   obtain⟨D,o,c⟩:=bnd c
   obtain rfl:=si c
   exact tr fol [2,4,7] (kAW [(47,.bool (!D))]) (ac (cv (qbu N e.Yarn f)) (ac (gw n) (ac (cv (qkU N e.Dye o)) az)))
  refine ihB h (fun E h=>?_) (fun E h=>?_)
  ·refine sh fol [(2,.i 8)] ?_
   refine Goes.ret ?_
   obtain rfl:=si h
   exact(gw2 [.i 8] (Ub tI))
  refine Goes.skip ?_
  refine sq ?_
  refine sh fol [(50,.bool (!(e.Order==[])))] ?_
  refine ihB h (fun F h=>?_) (fun F h=>?_)
  ·refine sh fol [(2,.i 1)] ?_
   refine Goes.ret ?_
   obtain rfl:=si h
   exact(gw2 [.i 1] (Ub tI))
  refine Goes.skip ?_
  refine sh fol [(2,.i 0)] ?_
  refine Goes.ret ?_
  obtain rfl:=si h
  exact(gw2 [.i 0] (Ub tI))
 refine Goes.skip ?_
 refine sq ?_
 obtain⟨G,p,h⟩:=bnd h
 refine sq (gr fol [2] (kAW [(54,.bool (!G))]) (ac (cv (qbu N e.Order p)) az) ?_)
 refine ihB h (fun H h=>?_) (fun H h=>?_)
 ·refine sh fol [(2,.i 8)] ?_
  refine Goes.ret ?_
  obtain rfl:=si h
  exact(gw2 [.i 8] (Ub tI))
 refine Goes.skip ?_
 refine sq ?_
 refine sq ?_
 obtain⟨I,d,h⟩:=bnd h
 refine Goes.cut (s':=(ofG 63 [(62,.bool I)],(kE e.Kind e.Day e.Lot e.Amount e.Yarn e.Dye e.Order []))) ?_ ?_
 ·rcases wyB d with⟨q,d⟩|⟨q,d⟩
  ·obtain rfl:=si d
   exact tr fol [3] [(62,.bool true)] (ac (gw q) az)
  obtain rfl:=si d
  exact tr fol [3] [(62,.bool (!(e.Dye==[])))] (ac (gw q) az)
 refine ihB h (fun J h=>?_) (fun J h=>?_)
 ·refine sh fol [(2,.i 1)] ?_
  refine Goes.ret ?_
  obtain rfl:=si h
  exact(gw2 [.i 1] (Ub tI))
 refine Goes.skip ?_
 refine sh fol [(2,.i 0)] ?_
 refine Goes.ret ?_
 obtain rfl:=si h
 exact(gw2 [.i 0] (Ub tI))
def yE (N:Nat) (l:List qb):Nat->Int->Option (Unit⊕Int)
 |0,_=>none
 |K+1,a=>
  if a<(l.length:Int)then
  (idx l a).bind fun c=>
  (qa0 N c).bind fun b=>
  if(!decide (b=0))=true then
  some (.inr b)
  else
  yE N l K (w64 (a+1))
  else
  some (.inl ())
def qbV (N:Nat) (l:List qb):Option Int:=
 if(l.length:Int)>1000 then
 some 5
 else
 (yE N l N 0).bind (fun
 |(.inl ())=>
 some 0
 |(.inr a)=>
 some a)
theorem qiy (N:Nat) (l:List qb) {res:Int} (h:qbV N l=some res):qp ZT (.fn 13) [vl ql l] [] (.i res) []:=by
 unfold qbV at h
 refine Uc Tryz.func13 rfl rfl (m:=22) rfl (rs:=[.tmp 2]) rfl (l:=(kO l [])) rfl ?_
 refine sh fol (kO l []) ?_
 refine sq ?_
 refine sh fol (kO l [(7,.bool (decide ((l.length:Int)>1000)))]) ?_
 refine ihD h (fun g h=>?_) (fun g h=>?_)
 ·refine sh fol [(2,.i 5)] ?_
  refine Goes.ret ?_
  obtain rfl:=si h
  exact(gw2 [.i 5] (Ub tI))
 refine Goes.skip ?_
 refine sq ?_
 refine sh fol (kO l [(3,.i 0)]) ?_
 refine Goes.block ?_
 obtain⟨e,g3,h⟩:=bnd h
 refine Goes.imp (Q:=fun x s'=>(x= .exit 0/\(.inl ())=e/\Sub s' (ofG 22 [],[]))\/(x= .ret/\ ∃f,(.inr f)=e/\jF ZT [.tmp 2] (.i f) .ret s')) ?_ ?_
 ·refine Ud (fun M s=> ∃(a:Int),s=(ofG 22 (kO l [(3,.i a)]),[])/\yE N l M a=some e) ?_ (m:=N) ⟨_,rfl,g3⟩
  rintro M s ⟨a,rfl,g3⟩
  cases M with
  |zero=>simp only[yE]at g3;cases g3
  |succ M=>
   rw[yE]at g3
   refine sq ?_
   refine sh fol (kO l [(3,.i a),(11,.bool (decide (a<(l.length:Int))))]) ?_
   refine ihD g3 (fun j g3=>?_) (fun j g3=>?_)
   ·refine Goes.skip ?_
    refine sq (Goes.block ?_)
    obtain⟨k,b,g3⟩:=bnd g3
    obtain⟨c,d,g3⟩:=bnd g3
    refine sq (gr fol [2,3,4] (kO l ((3,.i a)::(kA3 c))) (ac (iv qmQ ql b) (ac (la qp4 ql b) (ac (cv (qhr N k d)) az))) ?_)
    refine sh fol (kO l [(3,.i a),(4,.i c),(20,.bool (!decide (c=0)))]) ?_
    refine ihB g3 (fun n g3=>?_) (fun n g3=>?_)
    ·refine sh fol (kA4 c) ?_
     refine Goes.ret ?_
     obtain rfl:=si g3
     exact Or.inr (⟨rfl,_,rfl,(gw2 [.i c] (Ub tI))⟩)
    refine Goes.skip ?_
    refine gh fol (kO l [(3,.i (w64 (a+1)))]) ?_
    exact⟨M,(ofG 22 (kO l [(3,.i (w64 (a+1)))]),[]),Nat.lt_succ_self _,(Sub.refl _),_,rfl,g3⟩
   refine Goes.exit ?_
   obtain rfl:=si g3
   exact Or.inl (⟨rfl,rfl,(Sub.keep [] rfl rfl)⟩)
 rintro x s' (⟨rfl,rfl,hsub⟩|⟨rfl,o,rfl,hret⟩)
 ·try dsimp only at h
  refine Goes.sub hsub ?_
  refine sh fol [(2,.i 0)] ?_
  refine Goes.ret ?_
  obtain rfl:=si h
  exact(gw2 [.i 0] (Ub tI))
 try dsimp only at h
 obtain rfl:=si h
 exact hret
def qar (l:List Int):Nat->Int->Option (Unit⊕Int)
 |0,_=>none
 |K+1,a=>
  if a<(l.length:Int)then
  (idx l a).bind fun b=>
  if(!decide (b=0))=true then
  some (.inr b)
  else
  qar l K (w64 (a+1))
  else
  some (.inl ())
def qa3 (N:Nat) (l:List Int):Option Int:=
 (qar l N 0).bind (fun
 |(.inl ())=>
 some 0
 |(.inr a)=>
 some a)
theorem qgP (N:Nat) (l:List Int) {res:Int} (h:qa3 N l=some res):qp ZT (.fn 14) [vl encI l] [] (.i res) []:=by
 unfold qa3 at h
 refine Uc Tryz.func14 rfl rfl (m:=15) rfl (rs:=[.tmp 2]) rfl (l:=[(0,vl encI l)]) rfl ?_
 refine sh fol [(0,vl encI l)] ?_
 refine sq ?_
 refine sh fol [(5,vl encI l),(6,.i (l.length:Int)),(7,.i 0)] ?_
 refine Goes.block ?_
 obtain⟨d,g2,h⟩:=bnd h
 refine Goes.imp (Q:=fun x s'=>(x= .exit 0/\(.inl ())=d/\Sub s' (ofG 15 [],[]))\/(x= .ret/\ ∃e,(.inr e)=d/\jF ZT [.tmp 2] (.i e) .ret s')) ?_ ?_
 ·refine Ud (fun M s=> ∃(a:Int),s=(ofG 15 (kAU l (l.length:Int) a []),[])/\qar l M a=some d) ?_ (m:=N) ⟨_,rfl,g2⟩
  rintro M s ⟨a,rfl,g2⟩
  cases M with
  |zero=>simp only[qar]at g2;cases g2
  |succ M=>
   rw[qar]at g2
   refine sh fol (kAU l (l.length:Int) a [(8,.bool (decide (a<(l.length:Int))))]) ?_
   refine sq ?_
   refine ihD g2 (fun f g2=>?_) (fun f g2=>?_)
   ·refine Goes.skip ?_
    refine sq (Goes.block ?_)
    obtain⟨c,b,g2⟩:=bnd g2
    refine sq (gr fol [0,1] ((4,.i c)::(kAU l (l.length:Int) a [])) (ac (iv sl79 encI b) (ac (lv 0 ce3 encI b rfl) az)) ?_)
    refine sh fol ((4,.i c)::(kAU l (l.length:Int) a [(12,.bool (!decide (c=0)))])) ?_
    refine ihB g2 (fun g g2=>?_) (fun g g2=>?_)
    ·refine sh fol (kA4 c) ?_
     refine Goes.ret ?_
     obtain rfl:=si g2
     exact Or.inr (⟨rfl,_,rfl,(gw2 [.i c] (Ub tI))⟩)
    refine Goes.skip ?_
    refine gh fol (kAU l (l.length:Int) (w64 (a+1)) []) ?_
    exact⟨M,(ofG 15 (kAU l (l.length:Int) (w64 (a+1)) []),[]),Nat.lt_succ_self _,(Sub.refl _),_,rfl,g2⟩
   refine Goes.exit ?_
   obtain rfl:=si g2
   exact Or.inl (⟨rfl,rfl,(Sub.keep [] rfl rfl)⟩)
 rintro x s' (⟨rfl,rfl,hsub⟩|⟨rfl,j,rfl,hret⟩)
 ·try dsimp only at h
  refine Goes.sub hsub ?_
  refine sh fol [(2,.i 0)] ?_
  refine Goes.ret ?_
  obtain rfl:=si h
  exact(gw2 [.i 0] (Ub tI))
 try dsimp only at h
 obtain rfl:=si h
 exact hret
def qbP (holds:Bool) (e:Int):Option Int:=
 if holds=true then
 some e
 else
 some 0
theorem qhG (holds:Bool) (e:Int) {res:Int} (h:qbP holds e=some res):qp ZT (.fn 15) [.bool holds,.i e] [] (.i res) []:=by
 unfold qbP at h
 refine Uc Tryz.func15 rfl rfl (m:=7) rfl (rs:=[.tmp 4]) rfl (l:=[(0,.bool holds),(1,.i e)]) rfl ?_
 refine sh fol [(0,.bool holds),(1,.i e)] ?_
 refine sq ?_
 refine sh fol [(1,.i e),(5,.bool holds)] ?_
 refine ihB h (fun a h=>?_) (fun a h=>?_)
 ·refine sh fol (kA3 e) ?_
  refine Goes.ret ?_
  obtain rfl:=si h
  exact(gw2 [.i e] (Ub tI))
 refine Goes.skip ?_
 refine sh fol [(4,.i 0)] ?_
 refine Goes.ret ?_
 obtain rfl:=si h
 exact(gw2 [.i 0] (Ub tI))
def jr (a:qL) (lot:Str) (order:Str):Nat->Int->Option (Unit⊕qf)
 |0,_=>none
 |K+1,b=>
  if b<(a.Holds.length:Int)then
  ((idx a.Holds b).bind fun d=>
  if(d.Lot==lot)=true then
  some (d.Order==order)
  else
  some false:Option Bool).bind fun e=>
  if e=true then
  (idx a.Holds b).bind fun c=>
  some (.inr c)
  else
  jr a lot order K (w64 (b+1))
  else
  some (.inl ())
def yC (N:Nat) (b:qL) (lot:Str) (order:Str):Option qf:=
 (jr b lot order N 0).bind (fun
 |(.inl ())=>
 some (⟨lot,order,0,0⟩:qf)
 |(.inr a)=>
 some a)
theorem qb6 (N:Nat) (a:qL) (lot:Str) (order:Str) {res:qf} (h:yC N a lot order=some res):qp ZT (.fn 65) (kV a.Day a.Lots a.Holds [.str lot,.str order]) [] (.agg (kAy res.Lot res.Order res.Reserved res.Taken)) []:=by
 unfold yC at h
 refine Uc Tryz.func65 rfl rfl (m:=41) rfl (rs:=[.cell 6 118]) rfl (l:=(kAD a.Day a.Lots a.Holds [(1,.str lot),(2,.str order)])) rfl ?_
 refine sg fol (kAK lot order []) (kD a.Day a.Lots a.Holds kAk) ?_
 refine sq ?_
 refine sh fol (kAK lot order [(7,.i 0)]) ?_
 refine Goes.block ?_
 obtain⟨j,g2,h⟩:=bnd h
 refine Goes.imp (Q:=fun x s'=>(x= .exit 0/\(.inl ())=j/\Sub s' (ofG 41 [(1,.str lot),(2,.str order),(6,.ptr 0 0)],kAk))\/(x= .ret/\ ∃g,(.inr g)=j/\jF ZT [.cell 6 118] (.agg (kAy g.Lot g.Order g.Reserved g.Taken)) .ret s')) ?_ ?_
 ·refine Ud (fun M s=> ∃(f:Int),s=(ofG 41 (kAK lot order [(7,.i f)]),(kD a.Day a.Lots a.Holds kAk))/\jr a lot order M f=some j) ?_ (m:=N) ⟨_,rfl,g2⟩
  rintro M s ⟨f,rfl,g2⟩
  cases M with
  |zero=>simp only[jr]at g2;cases g2
  |succ M=>
   rw[jr]at g2
   refine sq ?_
   refine sh fol (kAK lot order [(7,.i f),(12,.bool (decide (f<(a.Holds.length:Int))))]) ?_
   refine ihD g2 (fun n g2=>?_) (fun n g2=>?_)
   ·refine Goes.skip ?_
    refine sq (Goes.block ?_)
    refine sq ?_
    obtain⟨o,b,g2⟩:=bnd g2
    refine Goes.cut (s':=(ofG 41 (kAK lot order [(7,.i f),(32,.bool o)]),(kD a.Day a.Lots a.Holds kAk))) ?_ ?_
    ·obtain⟨p,c,b⟩:=bnd b
     rcases wyB b with⟨k,b⟩|⟨k,b⟩
     ·obtain rfl:=si b
      exact tr fol [3,5,8,12,14] (kAK lot order [(7,.i f),(32,.bool (p.Order==order))]) (ac (iv qjl qg c) (ac (lv 0 ce9 qg c rfl) (ac (gw k) (ac (iv qjl qg c) (ac (lv 1 ce9 qg c rfl) az)))))
     obtain rfl:=si b
     exact tr fol [3,5,8] (kAK lot order [(7,.i f),(32,.bool false)]) (ac (iv qjl qg c) (ac (lv 0 ce9 qg c rfl) (ac (gw k) az)))
    refine ihB g2 (fun q g2=>?_) (fun q g2=>?_)
    ·obtain⟨d,e,g2⟩:=bnd g2
     refine sq (gq fol [3,4] [(6,.ptr 1 0)] (kD a.Day a.Lots a.Holds (kK d.Lot d.Order d.Reserved d.Taken [])) (ac (iv qjl qg e) (ac (la qoY qg e) az)) ?_)
     refine Goes.ret ?_
     obtain rfl:=si g2
     exact Or.inr (⟨rfl,_,rfl,(gw2 [.agg (kAy d.Lot d.Order d.Reserved d.Taken)] (FzW.agg (qJ.cons (Ub tS) (qJ.cons (Ub tS) (qJ.cons (Ub tI) (qJ.cons (Ub tI) qJ.nil))))))⟩)
    refine Goes.skip ?_
    refine gh fol (kAK lot order [(7,.i (w64 (f+1)))]) ?_
    exact⟨M,(ofG 41 (kAK lot order [(7,.i (w64 (f+1)))]),(kD a.Day a.Lots a.Holds kAk)),Nat.lt_succ_self _,(Sub.refl _),_,rfl,g2⟩
   refine Goes.exit ?_
   obtain rfl:=si g2
   exact Or.inl (⟨rfl,rfl,(Sub.norm [] [some 1] rfl rfl (.keep (.same nS) (.keep (.same nS) (.drop (.kp .nil)))) (.kb rfl (.same sn) .nil))⟩)
 rintro x s' (⟨rfl,rfl,hsub⟩|⟨rfl,r,rfl,hret⟩)
 ·try dsimp only at h
  refine Goes.sub hsub ?_
  refine sg fol [(6,.ptr 0 0)] [.cells [.str lot,.str order,.i 0,.i 0]] ?_
  refine Goes.ret ?_
  obtain rfl:=si h
  exact(gw2 [.agg [.str lot,.str order,.i 0,.i 0]] (FzW.agg (qJ.cons (Ub tS) (qJ.cons (Ub tS) (qJ.cons (Ub tI) (qJ.cons (Ub tI) qJ.nil))))))
 try dsimp only at h
 obtain rfl:=si h
 exact hret
def zW (b:qL) (name:Str):Nat->Int->Option (Unit⊕Int)
 |0,_=>none
 |K+1,a=>
  if a<(b.Lots.length:Int)then
  (idx b.Lots a).bind fun c=>
  if(c.Name==name)=true then
  some (.inr a)
  else
  zW b name K (w64 (a+1))
  else
  some (.inl ())
def jH (N:Nat) (a:qL) (name:Str):Option Int:=
 (zW a name N 0).bind (fun
 |(.inl ())=>
 some (-1)
 |(.inr b)=>
 some b)
theorem qbO (N:Nat) (a:qL) (name:Str) {res:Int} (h:jH N a name=some res):qp ZT (.fn 63) (kV a.Day a.Lots a.Holds [.str name]) [] (.i res) []:=by
 unfold jH at h
 refine Uc Tryz.func63 rfl rfl (m:=22) rfl (rs:=[.tmp 4]) rfl (l:=(kAD a.Day a.Lots a.Holds [(1,.str name)])) rfl ?_
 refine sg fol ((1,.str name)::(kAI [])) (kD a.Day a.Lots a.Holds []) ?_
 refine sq ?_
 refine sh fol ((1,.str name)::(kAI [(5,.i 0)])) ?_
 refine Goes.block ?_
 obtain⟨d,g2,h⟩:=bnd h
 refine Goes.imp (Q:=fun x s'=>(x= .exit 0/\(.inl ())=d/\Sub s' (ofG 22 [],[]))\/(x= .ret/\ ∃e,(.inr e)=d/\jF ZT [.tmp 4] (.i e) .ret s')) ?_ ?_
 ·refine Ud (fun M s=> ∃(b:Int),s=(ofG 22 ((1,.str name)::(kAI (kAY b))),(kD a.Day a.Lots a.Holds []))/\zW a name M b=some d) ?_ (m:=N) ⟨_,rfl,g2⟩
  rintro M s ⟨b,rfl,g2⟩
  cases M with
  |zero=>simp only[zW]at g2;cases g2
  |succ M=>
   rw[zW]at g2
   refine sq ?_
   refine sh fol ((1,.str name)::(kAI [(5,.i b),(10,.bool (decide (b<(a.Lots.length:Int))))])) ?_
   refine ihD g2 (fun f g2=>?_) (fun f g2=>?_)
   ·refine Goes.skip ?_
    refine sq (Goes.block ?_)
    obtain⟨g,c,g2⟩:=bnd g2
    refine sq (gr fol [3,5] ((1,.str name)::(kAI [(5,.i b),(20,.bool (g.Name==name))])) (ac (iv qh1 qo c) (ac (lv 0 ce9 qo c rfl) az)) ?_)
    refine ihB g2 (fun j g2=>?_) (fun j g2=>?_)
    ·refine sh fol (kA3 b) ?_
     refine Goes.ret ?_
     obtain rfl:=si g2
     exact Or.inr (⟨rfl,_,rfl,(gw2 [.i b] (Ub tI))⟩)
    refine Goes.skip ?_
    refine gh fol ((1,.str name)::(kAI (kAY (w64 (b+1))))) ?_
    exact⟨M,(ofG 22 ((1,.str name)::(kAI (kAY (w64 (b+1))))),(kD a.Day a.Lots a.Holds [])),Nat.lt_succ_self _,(Sub.refl _),_,rfl,g2⟩
   refine Goes.exit ?_
   obtain rfl:=si g2
   exact Or.inl (⟨rfl,rfl,(Sub.norm [] [] rfl rfl .nil .nil)⟩)
 rintro x s' (⟨rfl,rfl,hsub⟩|⟨rfl,k,rfl,hret⟩)
 ·try dsimp only at h
  refine Goes.sub hsub ?_
  refine sh fol kA5 ?_
  refine Goes.ret ?_
  obtain rfl:=si h
  exact(gw2 [.i (-1)] (Ub tI))
 try dsimp only at h
 obtain rfl:=si h
 exact hret
def jZ (b:qL) (e:qb) (amount:Int):Nat->(List qB)->Bool->Int->Option ((List qB)×Bool)
 |0,_,_,_=>none
 |K+1,c,d,f=>
  if f<(b.Lots.length:Int)then
  (idx b.Lots f).bind fun a=>
  (if(!d)=true then
  some (!(ltL a.Name e.Lot||a.Name==e.Lot))
  else
  some false:Option Bool).bind fun g=>
  ((if g=true then
  (app 56 c [(⟨e.Lot,e.Yarn,e.Dye,amount⟩:qB)]).bind fun h=>
  some (h,true)
  else
  some (c,d):Option ((List qB)×Bool))).bind fun(i,j)=>
  ((if(a.Name==e.Lot)=true then
  some (w64 (a.Stock+amount))
  else
  some a.Stock:Option Int)).bind fun k=>
  (app 56 i [(⟨a.Name,a.Yarn,a.Dye,k⟩:qB)]).bind fun l=>
  jZ b e amount K l j (w64 (f+1))
  else
  some (c,d)
def yD (N:Nat) (a:qL) (e:qb) (amount:Int):Option qL:=
 (jH N a e.Lot).bind fun f=>
 (jZ a e amount N ([]:List qB) (decide (f>=0)) 0).bind fun(d,g)=>
 ((if(!g)=true then
 (app 56 d [(⟨e.Lot,e.Yarn,e.Dye,amount⟩:qB)]).bind fun b=>
 some b
 else
 some d:Option (List qB))).bind fun c=>
 some (⟨a.Day,c,a.Holds⟩:qL)
theorem qbZ (N:Nat) (a:qL) (e:qb) (amount:Int) {res:qL} (h:yD N a e amount=some res):qp ZT (.fn 66) (kV a.Day a.Lots a.Holds (kAF e.Kind e.Day e.Lot e.Amount e.Yarn e.Dye e.Order [.i amount])) [] (.agg (kH res.Day res.Lots res.Holds)) []:=by
 unfold yD at h
 refine Uc Tryz.func66 rfl rfl (m:=78) rfl (rs:=[.cell 6 43]) rfl (l:=(kAD a.Day a.Lots a.Holds (kAx e.Kind e.Day e.Lot e.Amount e.Yarn e.Dye e.Order (kA4 amount)))) rfl ?_
 refine sg fol (kP amount []) (kD a.Day a.Lots a.Holds (kE e.Kind e.Day e.Lot e.Amount e.Yarn e.Dye e.Order (kF []))) ?_
 refine sh fol (kP amount [(7,.nilslice)]) ?_
 obtain⟨D,B,h⟩:=bnd h
 refine sq (gr fol [3] (kP amount [(7,.nilslice),(8,.bool (decide (D>=0)))]) (ac (cv (qbO N a e.Lot B)) az) ?_)
 refine sq ?_
 refine sh fol (kP amount [(7,.nilslice),(8,.bool (decide (D>=0))),(9,.i 0)]) ?_
 refine Goes.block ?_
 obtain⟨O,g7,h⟩:=bnd h
 refine Goes.imp (Q:=fun x s'=>(x= .exit 0/\ ∃t C,(t,C)=O/\Sub s' (ofG 78 (kP amount [(7,.gslice 3 t.length 4),(8,.bool C)]),(kD a.Day a.Lots a.Holds (kE e.Kind e.Day e.Lot e.Amount e.Yarn e.Dye e.Order (kF (kQ t []))))))) ?_ ?_
 ·refine Goes.sub (s':=(ofG 78 (kP amount [(7,.gslice 3 ([]:List qB).length 4),(8,.bool (decide (D>=0))),(9,.i 0)]),(kD a.Day a.Lots a.Holds (kE e.Kind e.Day e.Lot e.Amount e.Yarn e.Dye e.Order (kF [.cells (([]:List qB).flatMap qo.c)]))))) (Sub.norm [] [some 0,some 1,some 2,none] rfl rfl (.keep (.same nI) (.kp (.kp (.kp (.keep .nil (.keep (.same nB) (.keep (.same nI) .nil))))))) (.kb rfl (.same sn) (.kb rfl (.same sn) (.kb rfl (.same sn) (.fresh .nil))))) ?_
  refine Ud (fun M s=> ∃(p:List qB) (u:Bool) (n:Int),s=(ofG 78 (kP amount [(7,.gslice 3 p.length 4),(8,.bool u),(9,.i n)]),(kD a.Day a.Lots a.Holds (kE e.Kind e.Day e.Lot e.Amount e.Yarn e.Dye e.Order (kF (kQ p [])))))/\jZ a e amount M p u n=some O) ?_ (m:=N) ⟨_,_,_,rfl,g7⟩
  rintro M s ⟨p,u,n,rfl,g7⟩
  cases M with
  |zero=>simp only[jZ]at g7;cases g7
  |succ M=>
   rw[jZ]at g7
   refine sq ?_
   refine sh fol (kP amount [(7,.gslice 3 p.length 4),(8,.bool u),(9,.i n),(20,.bool (decide (n<(a.Lots.length:Int))))]) ?_
   refine ihD g7 (fun P g7=>?_) (fun P g7=>?_)
   ·refine Goes.skip ?_
    refine sq (Goes.block ?_)
    obtain⟨b,v,g7⟩:=bnd g7
    refine sq (gq fol [3,4] (kP amount (kAH p u n [])) (kD a.Day a.Lots a.Holds (kE e.Kind e.Day e.Lot e.Amount e.Yarn e.Dye e.Order (kF (kQ p (kU b.Name b.Yarn b.Dye b.Stock []))))) (ac (iv qh1 qo v) (ac (la ag84 qo v) az)) ?_)
    refine sq ?_
    refine sq ?_
    obtain⟨F,f,g7⟩:=bnd g7
    refine Goes.cut (s':=(ofG 78 (kP amount (kAH p u n [(36,.bool F)])),(kD a.Day a.Lots a.Holds (kE e.Kind e.Day e.Lot e.Amount e.Yarn e.Dye e.Order (kF (kQ p (kU b.Name b.Yarn b.Dye b.Stock []))))))) ?_ ?_
    ·rcases wyB f with⟨w,f⟩|⟨w,f⟩
     ·obtain rfl:=si f
      exact tr fol [2] (kP amount (kAH p u n [(36,.bool (!(ltL b.Name e.Lot||b.Name==e.Lot)))])) (ac (gw w) az)
     obtain rfl:=si f
     exact tr fol [2] (kP amount (kAH p u n [(36,.bool false)])) (ac (gw w) az)
    obtain⟨G,g15,g7⟩:=bnd g7
    refine Goes.imp (Q:=fun x s'=>(x= .normal/\ ∃d k,(d,k)=G/\Sub s' (ofG 78 (kP amount (kAH d k n [])),(kD a.Day a.Lots a.Holds (kE e.Kind e.Day e.Lot e.Amount e.Yarn e.Dye e.Order (kF (kQ d (kU b.Name b.Yarn b.Dye b.Stock [])))))))) ?_ ?_
    ·refine ihB g15 (fun H g15=>?_) (fun H g15=>?_)
     ·obtain⟨q,y,g15⟩:=bnd g15
      refine sq (gq fol [10] (kP amount [(7,.gslice 6 q.length 4),(9,.i n),(10,.ptr 4 0)]) (kD a.Day a.Lots a.Holds (kE e.Kind e.Day e.Lot e.Amount e.Yarn e.Dye e.Order (kF (.dead::(kU b.Name b.Yarn b.Dye b.Stock (kU e.Lot e.Yarn e.Dye amount (kQ q []))))))) (ac (hs (.run [3,5] (xK ZT [40,40] (.gslice 3 p.length 4) (.slice 5 0 1 1 4)) (kD a.Day a.Lots a.Holds (kE e.Kind e.Day e.Lot e.Amount e.Yarn e.Dye e.Order (kF (kQ p (kU b.Name b.Yarn b.Dye b.Stock (kU e.Lot e.Yarn e.Dye amount [])))))) (.gslice 6 q.length 4) (kD a.Day a.Lots a.Holds (kE e.Kind e.Day e.Lot e.Amount e.Yarn e.Dye e.Order (kF (.dead::(kU b.Name b.Yarn b.Dye b.Stock (kU e.Lot e.Yarn e.Dye amount (kQ q []))))))) true) (qbI qh1 (E:=qo) rfl (qe2 (E:=qo) (ys:=[(⟨e.Lot,e.Yarn,e.Dye,amount⟩:qB)]) rfl rfl rfl rfl) (qft (E:=qo) (l:=p) rfl rfl rfl y rfl))) az) ?_)
      refine gh fol (kP amount [(7,.gslice 6 q.length 4),(8,.bool true),(9,.i n),(10,.ptr 4 0)]) ?_
      obtain rfl:=si g15
      exact⟨rfl,_,_,rfl,(Sub.norm [] [some 0,some 1,some 2,some 6,some 4] rfl rfl (.keep (.same nI) (.kp (.kp (.kp (.keep (.gslice rfl) (.keep (.same nB) (.keep (.same nI) (.kp .nil)))))))) (.kb rfl (.same sn) (.kb rfl (.same sn) (.kb rfl (.same sn) (.ks (.kb rfl (.same sn) .nil))))))⟩
     refine Goes.skip ?_
     obtain rfl:=si g15
     exact⟨rfl,_,_,rfl,(Sub.keep [2,3,4,6,7,8,9,10] rfl rfl)⟩
    rintro x s' ⟨rfl,d,k,rfl,hsub⟩
    try dsimp only at g7
    refine Goes.sub hsub ?_
    refine sq ?_
    refine sh fol (kP amount (kAH d k n [(52,.bool (b.Name==e.Lot))])) ?_
    obtain⟨I,g19,g7⟩:=bnd g7
    refine Goes.imp (Q:=fun x s'=>(x= .normal/\ ∃g,g=I/\Sub s' (ofG 78 (kP amount (kAH d k n [])),(kD a.Day a.Lots a.Holds (kE e.Kind e.Day e.Lot e.Amount e.Yarn e.Dye e.Order (kF (kQ d (kU b.Name b.Yarn b.Dye g [])))))))) ?_ ?_
    ·refine ihB g19 (fun J g19=>?_) (fun J g19=>?_)
     ·refine Goes.rg fol (kP amount (kAH d k n [])) (kD a.Day a.Lots a.Holds (kE e.Kind e.Day e.Lot e.Amount e.Yarn e.Dye e.Order (kF (kQ d (kU b.Name b.Yarn b.Dye (w64 (b.Stock+amount)) []))))) ?_
      obtain rfl:=si g19
      exact⟨rfl,_,rfl,(Sub.refl _)⟩
     refine Goes.skip ?_
     obtain rfl:=si g19
     exact⟨rfl,_,rfl,(Sub.keep [2,3,4,6,7,8,9,10] rfl rfl)⟩
    rintro x s' ⟨rfl,g,rfl,hsub⟩
    refine Goes.sub hsub ?_
    obtain⟨o,z,g7⟩:=bnd g7
    refine gq fol [3] (kP amount [(7,.gslice 6 o.length 4),(8,.bool k),(9,.i n)]) (kD a.Day a.Lots a.Holds (kE e.Kind e.Day e.Lot e.Amount e.Yarn e.Dye e.Order (kF (.dead::(kU b.Name b.Yarn b.Dye g (kU b.Name b.Yarn b.Dye g (kQ o []))))))) (ac (hs (.run [3,5] (xK ZT [40,40] (.gslice 3 d.length 4) (.slice 5 0 1 1 4)) (kD a.Day a.Lots a.Holds (kE e.Kind e.Day e.Lot e.Amount e.Yarn e.Dye e.Order (kF (kQ d (kU b.Name b.Yarn b.Dye g (kU b.Name b.Yarn b.Dye g [])))))) (.gslice 6 o.length 4) (kD a.Day a.Lots a.Holds (kE e.Kind e.Day e.Lot e.Amount e.Yarn e.Dye e.Order (kF (.dead::(kU b.Name b.Yarn b.Dye g (kU b.Name b.Yarn b.Dye g (kQ o []))))))) true) (qbI qh1 (E:=qo) rfl (qe2 (E:=qo) (ys:=[(⟨b.Name,b.Yarn,b.Dye,g⟩:qB)]) rfl rfl rfl rfl) (qft (E:=qo) (l:=d) rfl rfl rfl z rfl))) az) ?_
    refine gh fol (kP amount [(7,.gslice 6 o.length 4),(8,.bool k),(9,.i (w64 (n+1)))]) ?_
    exact⟨M,(ofG 78 (kP amount [(7,.gslice 3 o.length 4),(8,.bool k),(9,.i (w64 (n+1)))]),(kD a.Day a.Lots a.Holds (kE e.Kind e.Day e.Lot e.Amount e.Yarn e.Dye e.Order (kF (kQ o []))))),Nat.lt_succ_self _,(Sub.norm [] [some 0,some 1,some 2,some 6] rfl rfl (.keep (.same nI) (.kp (.kp (.kp (.keep (.gslice rfl) (.keep (.same nB) (.keep (.same nI) .nil))))))) (.kb rfl (.same sn) (.kb rfl (.same sn) (.kb rfl (.same sn) (.ks .nil))))),_,_,_,rfl,g7⟩
   refine Goes.exit ?_
   obtain rfl:=si g7
   exact⟨rfl,_,_,rfl,(Sub.keep [2,3,4,6,7,8] rfl rfl)⟩
 rintro x s' ⟨rfl,t,C,rfl,hsub⟩
 try dsimp only at h
 refine Goes.sub hsub ?_
 refine sq ?_
 refine sh fol (kP amount [(7,.gslice 3 t.length 4),(63,.bool (!C))]) ?_
 obtain⟨K,g23,h⟩:=bnd h
 refine Goes.imp (Q:=fun x s'=>(x= .normal/\ ∃j,j=K/\Sub s' (ofG 78 [(3,.ptr 0 0),(6,.ptr 1 0),(7,.gslice 2 j.length 4)],(kD a.Day a.Lots a.Holds (kF (kQ j [])))))) ?_ ?_
 ·refine ihB g23 (fun L g23=>?_) (fun L g23=>?_)
  ·obtain⟨r,A,g23⟩:=bnd g23
   refine gq fol [10] [(3,.ptr 0 0),(6,.ptr 2 0),(7,.gslice 5 r.length 4)] (kD a.Day a.Lots a.Holds (kE e.Kind e.Day e.Lot e.Amount e.Yarn e.Dye e.Order (kF (.dead::(kU e.Lot e.Yarn e.Dye amount (kQ r [])))))) (ac (hs (.run [3,4] (xK ZT [40,40] (.gslice 3 t.length 4) (.slice 4 0 1 1 4)) (kD a.Day a.Lots a.Holds (kE e.Kind e.Day e.Lot e.Amount e.Yarn e.Dye e.Order (kF (kQ t (kU e.Lot e.Yarn e.Dye amount []))))) (.gslice 5 r.length 4) (kD a.Day a.Lots a.Holds (kE e.Kind e.Day e.Lot e.Amount e.Yarn e.Dye e.Order (kF (.dead::(kU e.Lot e.Yarn e.Dye amount (kQ r [])))))) true) (qbI qh1 (E:=qo) rfl (qe2 (E:=qo) (ys:=[(⟨e.Lot,e.Yarn,e.Dye,amount⟩:qB)]) rfl rfl rfl rfl) (qft (E:=qo) (l:=t) rfl rfl rfl A rfl))) az) ?_
   obtain rfl:=si g23
   exact⟨rfl,_,rfl,(Sub.norm [] [some 0,some 2,some 5] rfl rfl (.kp (.kp (.keep (.gslice rfl) .nil))) (.kb rfl (.same sn) (.kb rfl (.same sn) (.ks .nil))))⟩
  refine Goes.skip ?_
  obtain rfl:=si g23
  exact⟨rfl,_,rfl,(Sub.norm [] [some 0,some 2,some 3] rfl rfl (.drop (.kp (.drop (.kp (.keep (.gslice rfl) .nil))))) (.kb rfl (.same sn) (.kb rfl (.same sn) (.ks .nil))))⟩
 rintro x s' ⟨rfl,j,rfl,hsub⟩
 refine Goes.sub hsub ?_
 refine sg fol [(3,.ptr 0 0),(6,.ptr 1 0)] (.cells [.i a.Day,.gslice 2 j.length 4,vl qg a.Holds]::(kF (kQ j []))) ?_
 refine sg fol [(6,.ptr 1 0)] (.cells [.i a.Day,.gslice 2 j.length 4,vl qg a.Holds]:: .cells [.i a.Day,.gslice 2 j.length 4,vl qg a.Holds]::(kQ j [])) ?_
 refine Goes.ret ?_
 obtain rfl:=si h
 exact(gw2 [.agg [.i a.Day,.gslice 2 j.length 4,vl qg a.Holds]] (FzW.agg (qJ.cons (Ub tI) (qJ.cons (FzW.fz (Um (E:=qo) rfl rfl (nl rfl))) (qJ.cons (Ub (qw qg _ (nl rfl))) qJ.nil)))))
def qcI (a:qf) (b:qf):Option Bool:=
 (if(!(ltL a.Lot b.Lot||a.Lot==b.Lot))=true then
 some true
 else
 if(a.Lot==b.Lot)=true then
 some (!(ltL a.Order b.Order||a.Order==b.Order))
 else
 some false:Option Bool).bind fun c=>
 some c
theorem qkF (a:qf) (b:qf) {res:Bool} (h:qcI a b=some res):qp ZT (.fn 64) (kAS a.Lot a.Order a.Reserved a.Taken (kAS b.Lot b.Order b.Reserved b.Taken [])) [] (.bool res) []:=by
 unfold qcI at h
 refine Uc Tryz.func64 rfl rfl (m:=24) rfl (rs:=[.tmp 4]) rfl (l:=[(0,.agg [.str a.Lot,.str a.Order,.i a.Reserved,.i a.Taken]),(1,.agg [.str b.Lot,.str b.Order,.i b.Reserved,.i b.Taken])]) rfl ?_
 refine sg fol (kG []) (kK a.Lot a.Order a.Reserved a.Taken (kK b.Lot b.Order b.Reserved b.Taken [])) ?_
 refine sq ?_
 obtain⟨f,c,h⟩:=bnd h
 refine Goes.cut (s':=(ofG 24 [(4,.bool f)],(kK a.Lot a.Order a.Reserved a.Taken (kK b.Lot b.Order b.Reserved b.Taken [])))) ?_ ?_
 ·rcases wyB c with⟨d,c⟩|⟨d,c⟩
  ·obtain rfl:=si c
   exact tr fol [5] kAv (ac (gw d) az)
  rcases wyB c with⟨e,c⟩|⟨e,c⟩
  ·obtain rfl:=si c
   exact tr fol [5,11] [(4,.bool (!(ltL a.Order b.Order||a.Order==b.Order)))] (ac (gw d) (ac (gw e) az))
  obtain rfl:=si c
  exact tr fol [5,11] kAt (ac (gw d) (ac (gw e) az))
 refine Goes.ret ?_
 obtain rfl:=si h
 exact(gw2 [.bool f] (Ub tB))
def yw (e:qL) (b:qf):Nat->(List qf)->Bool->Int->Option ((List qf)×Bool)
 |0,_,_,_=>none
 |K+1,c,d,f=>
  if f<(e.Holds.length:Int)then
  (((idx e.Holds f).bind fun a=>
  (if(a.Lot==b.Lot)=true then
  some (a.Order==b.Order)
  else
  some false:Option Bool).bind fun g=>
  if g=true then
  some (c,d)
  else
  (if(!d)=true then
  (qcI a b).bind fun h=>
  some h
  else
  some false:Option Bool).bind fun i=>
  ((if i=true then
  (app 48 c [b]).bind fun j=>
  some (j,true)
  else
  some (c,d):Option ((List qf)×Bool))).bind fun(k,l)=>
  (app 48 k [a]).bind fun m=>
  some (m,l):Option ((List qf)×Bool))).bind fun(n,o)=>
  yw e b K n o (w64 (f+1))
  else
  some (c,d)
def qbz (N:Nat) (b:qL) (a:qf):Option qL:=
 (if a.Reserved=0 then
 some (decide (a.Taken=0))
 else
 some false:Option Bool).bind fun f=>
 (yw b a N ([]:List qf) f 0).bind fun(e,g)=>
 ((if(!g)=true then
 (app 48 e [a]).bind fun c=>
 some c
 else
 some e:Option (List qf))).bind fun d=>
 some (⟨b.Day,b.Lots,d⟩:qL)
theorem qhO (N:Nat) (d:qL) (a:qf) {res:qL} (h:qbz N d a=some res):qp ZT (.fn 67) (kV d.Day d.Lots d.Holds (kAS a.Lot a.Order a.Reserved a.Taken [])) [] (.agg (kH res.Day res.Lots res.Holds)) []:=by
 unfold qbz at h
 refine Uc Tryz.func67 rfl rfl (m:=65) rfl (rs:=[.cell 4 43]) rfl (l:=(kAD d.Day d.Lots d.Holds [(1,.agg [.str a.Lot,.str a.Order,.i a.Reserved,.i a.Taken])])) rfl ?_
 refine sg fol (kG (kAm [])) (kD d.Day d.Lots d.Holds (kK a.Lot a.Order a.Reserved a.Taken (kF []))) ?_
 refine sh fol (kG (kAm [(5,.nilslice)])) ?_
 refine sq ?_
 obtain⟨I,n,h⟩:=bnd h
 refine Goes.cut (s':=(ofG 65 (kG (kAm [(5,.nilslice),(6,.bool I)])),(kD d.Day d.Lots d.Holds (kK a.Lot a.Order a.Reserved a.Taken (kF []))))) ?_ ?_
 ·rcases wyD n with⟨J,n⟩|⟨J,n⟩
  ·obtain rfl:=si n
   exact tr fol [3] (kG (kAm [(5,.nilslice),(6,.bool (decide (a.Taken=0)))])) (ac (gw J) az)
  obtain rfl:=si n
  exact tr fol [3] (kG (kAm [(5,.nilslice),(6,.bool false)])) (ac (gw J) az)
 refine sq ?_
 refine sh fol (kG (kAm [(5,.nilslice),(6,.bool I),(7,.i 0)])) ?_
 refine Goes.block ?_
 obtain⟨Z,g9,h⟩:=bnd h
 refine Goes.imp (Q:=fun x s'=>(x= .exit 0/\ ∃z H,(z,H)=Z/\Sub s' (ofG 65 (kG (kAm [(5,.gslice 3 z.length 4),(6,.bool H)])),(kD d.Day d.Lots d.Holds (kK a.Lot a.Order a.Reserved a.Taken (kF (kI z []))))))) ?_ ?_
 ·refine Goes.sub (s':=(ofG 65 (kG (kAm [(5,.gslice 3 ([]:List qf).length 4),(6,.bool I),(7,.i 0)])),(kD d.Day d.Lots d.Holds (kK a.Lot a.Order a.Reserved a.Taken (kF [.cells (([]:List qf).flatMap qg.c)]))))) (Sub.norm [] [some 0,some 1,some 2,none] rfl rfl (.kp (.kp (.kp (.keep .nil (.keep (.same nB) (.keep (.same nI) .nil)))))) (.kb rfl (.same sn) (.kb rfl (.same sn) (.kb rfl (.same sn) (.fresh .nil))))) ?_
  refine Ud (fun M s=> ∃(k:List qf) (q:Bool) (j:Int),s=(ofG 65 (kG (kW k q j [])),(kD d.Day d.Lots d.Holds (kK a.Lot a.Order a.Reserved a.Taken (kF (kI k [])))))/\yw d a M k q j=some Z) ?_ (m:=N) ⟨_,_,_,rfl,g9⟩
  rintro M s ⟨k,q,j,rfl,g9⟩
  cases M with
  |zero=>simp only[yw]at g9;cases g9
  |succ M=>
   rw[yw]at g9
   refine sq ?_
   refine sh fol (kG (kW k q j [(21,.bool (decide (j<(d.Holds.length:Int))))])) ?_
   refine ihD g9 (fun K g9=>?_) (fun K g9=>?_)
   ·refine Goes.skip ?_
    refine sq ?_
    obtain⟨L,g13,g9⟩:=bnd g9
    refine Goes.imp (Q:=fun x s'=>(x= .normal/\ ∃o r,(o,r)=L/\Sub s' (ofG 65 (kG (kW o r j [])),(kD d.Day d.Lots d.Holds (kK a.Lot a.Order a.Reserved a.Taken (kF (kI o []))))))) ?_ ?_
    ·refine Goes.block ?_
     obtain⟨b,t,g13⟩:=bnd g13
     refine sq (gq fol [3,4] (kG (kW k q j [(8,.ptr 4 0)])) (kD d.Day d.Lots d.Holds (kK a.Lot a.Order a.Reserved a.Taken (kF (kI k (kK b.Lot b.Order b.Reserved b.Taken []))))) (ac (iv qjl qg t) (ac (la qoY qg t) az)) ?_)
     refine sq ?_
     refine sq ?_
     obtain⟨O,f,g13⟩:=bnd g13
     refine Goes.cut (s':=(ofG 65 (kG (kW k q j [(8,.ptr 4 0),(40,.bool O)])),(kD d.Day d.Lots d.Holds (kK a.Lot a.Order a.Reserved a.Taken (kF (kI k (kK b.Lot b.Order b.Reserved b.Taken []))))))) ?_ ?_
     ·rcases wyB f with⟨A,f⟩|⟨A,f⟩
      ·obtain rfl:=si f
       exact tr fol [5] (kG (kW k q j [(8,.ptr 4 0),(40,.bool (b.Order==a.Order))])) (ac (gw A) az)
      obtain rfl:=si f
      exact tr fol [5] (kG (kW k q j [(8,.ptr 4 0),(40,.bool false)])) (ac (gw A) az)
     refine ihB g13 (fun P g13=>?_) (fun P g13=>?_)
     ·refine Goes.exit ?_
      obtain rfl:=si g13
      exact⟨rfl,_,_,rfl,(Sub.norm [] [some 0,some 1,some 2,some 3] rfl rfl (.kp (.kp (.kp (.keep (.gslice rfl) (.keep (.same nB) (.keep (.same nI) .nil)))))) (.kb rfl (.same sn) (.kb rfl (.same sn) (.kb rfl (.same sn) (.ks .nil)))))⟩
     refine Goes.skip ?_
     refine sq ?_
     refine sq ?_
     obtain⟨T,e,g13⟩:=bnd g13
     refine Goes.cut (s':=(ofG 65 (kG (kW k q j [(8,.ptr 4 0),(47,.bool T)])),(kD d.Day d.Lots d.Holds (kK a.Lot a.Order a.Reserved a.Taken (kF (kI k (kK b.Lot b.Order b.Reserved b.Taken []))))))) ?_ ?_
     ·rcases wyB e with⟨B,e⟩|⟨B,e⟩
      ·obtain⟨U,C,e⟩:=bnd e
       obtain rfl:=si e
       exact tr fol [2,5] (kG (kW k q j [(8,.ptr 4 0),(47,.bool U)])) (ac (gw B) (ac (cv (qkF b a C)) az))
      obtain rfl:=si e
      exact tr fol [2] (kG (kW k q j [(8,.ptr 4 0),(47,.bool false)])) (ac (gw B) az)
     obtain⟨V,g25,g13⟩:=bnd g13
     refine Goes.imp (Q:=fun x s'=>(x= .normal/\ ∃p v,(p,v)=V/\Sub s' (ofG 65 (kG (kW p v j [(8,.ptr 4 0)])),(kD d.Day d.Lots d.Holds (kK a.Lot a.Order a.Reserved a.Taken (kF (kI p (kK b.Lot b.Order b.Reserved b.Taken [])))))))) ?_ ?_
     ·refine ihB g25 (fun W g25=>?_) (fun W g25=>?_)
      ·obtain⟨u,D,g25⟩:=bnd g25
       refine sq (gq fol [3] (kG (kAm [(5,.gslice 6 u.length 4),(7,.i j),(8,.ptr 4 0)])) (kD d.Day d.Lots d.Holds (kK a.Lot a.Order a.Reserved a.Taken (kF (.dead::(kK b.Lot b.Order b.Reserved b.Taken (kK a.Lot a.Order a.Reserved a.Taken (kI u []))))))) (ac (hs (.run [3,5] (xK ZT [41,41] (.gslice 3 k.length 4) (.slice 5 0 1 1 4)) (kD d.Day d.Lots d.Holds (kK a.Lot a.Order a.Reserved a.Taken (kF (kI k (kK b.Lot b.Order b.Reserved b.Taken (kK a.Lot a.Order a.Reserved a.Taken [])))))) (.gslice 6 u.length 4) (kD d.Day d.Lots d.Holds (kK a.Lot a.Order a.Reserved a.Taken (kF (.dead::(kK b.Lot b.Order b.Reserved b.Taken (kK a.Lot a.Order a.Reserved a.Taken (kI u []))))))) true) (qbI qjl (E:=qg) rfl (qe2 (E:=qg) (ys:=[a]) rfl rfl rfl rfl) (qft (E:=qg) (l:=k) rfl rfl rfl D rfl))) az) ?_)
       refine gh fol (kG (kAm [(5,.gslice 6 u.length 4),(6,.bool true),(7,.i j),(8,.ptr 4 0)])) ?_
       obtain rfl:=si g25
       exact⟨rfl,_,_,rfl,(Sub.norm [] [some 0,some 1,some 2,some 6,some 4] rfl rfl (.kp (.kp (.kp (.keep (.gslice rfl) (.keep (.same nB) (.keep (.same nI) (.kp .nil))))))) (.kb rfl (.same sn) (.kb rfl (.same sn) (.kb rfl (.same sn) (.ks (.kb rfl (.same sn) .nil))))))⟩
      refine Goes.skip ?_
      obtain rfl:=si g25
      exact⟨rfl,_,_,rfl,(Sub.keep [2,3,4,5,6,7,8] rfl rfl)⟩
     rintro x s' ⟨rfl,p,v,rfl,hsub⟩
     try dsimp only at g13
     refine Goes.sub hsub ?_
     obtain⟨w,F,g13⟩:=bnd g13
     refine gq fol [3] (kG (kAm [(5,.gslice 6 w.length 4),(6,.bool v),(7,.i j)])) (kD d.Day d.Lots d.Holds (kK a.Lot a.Order a.Reserved a.Taken (kF (.dead::(kK b.Lot b.Order b.Reserved b.Taken (kK b.Lot b.Order b.Reserved b.Taken (kI w []))))))) (ac (hs (.run [3,5] (xK ZT [41,41] (.gslice 3 p.length 4) (.slice 5 0 1 1 4)) (kD d.Day d.Lots d.Holds (kK a.Lot a.Order a.Reserved a.Taken (kF (kI p (kK b.Lot b.Order b.Reserved b.Taken (kK b.Lot b.Order b.Reserved b.Taken [])))))) (.gslice 6 w.length 4) (kD d.Day d.Lots d.Holds (kK a.Lot a.Order a.Reserved a.Taken (kF (.dead::(kK b.Lot b.Order b.Reserved b.Taken (kK b.Lot b.Order b.Reserved b.Taken (kI w []))))))) true) (qbI qjl (E:=qg) rfl (qe2 (E:=qg) (ys:=[b]) rfl rfl rfl rfl) (qft (E:=qg) (l:=p) rfl rfl rfl F rfl))) az) ?_
     obtain rfl:=si g13
     exact⟨rfl,_,_,rfl,(Sub.norm [] [some 0,some 1,some 2,some 6] rfl rfl (.kp (.kp (.kp (.keep (.gslice rfl) (.keep (.same nB) (.keep (.same nI) .nil)))))) (.kb rfl (.same sn) (.kb rfl (.same sn) (.kb rfl (.same sn) (.ks .nil)))))⟩
    rintro x s' ⟨rfl,o,r,rfl,hsub⟩
    try dsimp only at g9
    refine Goes.sub hsub ?_
    refine gh fol (kG (kW o r (w64 (j+1)) [])) ?_
    exact⟨M,(ofG 65 (kG (kW o r (w64 (j+1)) [])),(kD d.Day d.Lots d.Holds (kK a.Lot a.Order a.Reserved a.Taken (kF (kI o []))))),Nat.lt_succ_self _,(Sub.refl _),_,_,_,rfl,g9⟩
   refine Goes.exit ?_
   obtain rfl:=si g9
   exact⟨rfl,_,_,rfl,(Sub.keep [2,3,4,5,6] rfl rfl)⟩
 rintro x s' ⟨rfl,z,H,rfl,hsub⟩
 try dsimp only at h
 refine Goes.sub hsub ?_
 refine sq ?_
 refine sh fol (kG (kAm [(5,.gslice 3 z.length 4),(57,.bool (!H))])) ?_
 obtain⟨X,g30,h⟩:=bnd h
 refine Goes.imp (Q:=fun x s'=>(x= .normal/\ ∃g,g=X/\Sub s' (ofG 65 (kN [(5,.gslice 2 g.length 4)]),(kD d.Day d.Lots d.Holds (kF (kI g [])))))) ?_ ?_
 ·refine ihB g30 (fun Y g30=>?_) (fun Y g30=>?_)
  ·obtain⟨y,G,g30⟩:=bnd g30
   refine gq fol [3] (kAI (kAm [(5,.gslice 5 y.length 4)])) (kD d.Day d.Lots d.Holds (kK a.Lot a.Order a.Reserved a.Taken (kF (.dead::(kK a.Lot a.Order a.Reserved a.Taken (kI y [])))))) (ac (hs (.run [3,4] (xK ZT [41,41] (.gslice 3 z.length 4) (.slice 4 0 1 1 4)) (kD d.Day d.Lots d.Holds (kK a.Lot a.Order a.Reserved a.Taken (kF (kI z (kK a.Lot a.Order a.Reserved a.Taken []))))) (.gslice 5 y.length 4) (kD d.Day d.Lots d.Holds (kK a.Lot a.Order a.Reserved a.Taken (kF (.dead::(kK a.Lot a.Order a.Reserved a.Taken (kI y [])))))) true) (qbI qjl (E:=qg) rfl (qe2 (E:=qg) (ys:=[a]) rfl rfl rfl rfl) (qft (E:=qg) (l:=z) rfl rfl rfl G rfl))) az) ?_
   obtain rfl:=si g30
   exact⟨rfl,_,rfl,(Sub.norm [] [some 0,some 2,some 5] rfl rfl (.kp (.kp (.keep (.gslice rfl) .nil))) (.kb rfl (.same sn) (.kb rfl (.same sn) (.ks .nil))))⟩
  refine Goes.skip ?_
  obtain rfl:=si g30
  exact⟨rfl,_,rfl,(Sub.norm [] [some 0,some 2,some 3] rfl rfl (.kp (.drop (.kp (.keep (.gslice rfl) .nil)))) (.kb rfl (.same sn) (.kb rfl (.same sn) (.ks .nil))))⟩
 rintro x s' ⟨rfl,g,rfl,hsub⟩
 refine Goes.sub hsub ?_
 refine sg fol (kN []) (kAJ d.Day d.Lots g (kF (kI g []))) ?_
 refine sg fol (kAf []) (kAJ d.Day d.Lots g (kAJ d.Day d.Lots g (kI g []))) ?_
 refine Goes.ret ?_
 obtain rfl:=si h
 exact(gw2 [.agg [.i d.Day,vl qo d.Lots,.gslice 2 g.length 4]] (FzW.agg (qJ.cons (Ub tI) (qJ.cons (Ub (qw qo _ (nl rfl))) (qJ.cons (FzW.fz (Um (E:=qg) rfl rfl (nl rfl))) qJ.nil)))))
def qbW (N:Nat) (a:qL) (e:qb):Option qL:=
 if(e.Kind==[114,101,99,101,105,118,101])=true then
 (yD N (⟨e.Day,a.Lots,a.Holds⟩:qL) e e.Amount).bind fun g=>
 some g
 else
 (yC N (⟨e.Day,a.Lots,a.Holds⟩:qL) e.Lot e.Order).bind fun b=>
 ((if(e.Kind==[114,101,115,101,114,118,101])=true then
 some (e.Day,a.Lots,a.Holds,w64 (b.Reserved+e.Amount),b.Taken)
 else
 if(e.Kind==[114,101,108,101,97,115,101])=true then
 some (e.Day,a.Lots,a.Holds,w64 (b.Reserved-e.Amount),b.Taken)
 else
 if(e.Kind==[116,97,107,101])=true then
 (yD N (⟨e.Day,a.Lots,a.Holds⟩:qL) e (w64 (0-e.Amount))).bind fun c=>
 some (c.Day,c.Lots,c.Holds,(if(w64 (b.Reserved-e.Amount))>0 then(w64 (b.Reserved-e.Amount))else 0),w64 (b.Taken+e.Amount))
 else
 (yD N (⟨e.Day,a.Lots,a.Holds⟩:qL) e e.Amount).bind fun d=>
 some (d.Day,d.Lots,d.Holds,b.Reserved,w64 (b.Taken-e.Amount)):Option (Int×(List qB)×(List qf)×Int×Int))).bind fun(h,i,j,k,l)=>
 (qbz N (⟨h,i,j⟩:qL) (⟨b.Lot,b.Order,k,l⟩:qf)).bind fun f=>
 some f
theorem qhw (N:Nat) (b:qL) (e:qb) {res:qL} (h:qbW N b e=some res):qp ZT (.fn 28) (kV b.Day b.Lots b.Holds (kAF e.Kind e.Day e.Lot e.Amount e.Yarn e.Dye e.Order [])) [] (.agg (kH res.Day res.Lots res.Holds)) []:=by
 unfold qbW at h
 refine Uc Tryz.func28 rfl rfl (m:=76) rfl (rs:=[.cell 4 43]) rfl (l:=(kAD b.Day b.Lots b.Holds (kAx e.Kind e.Day e.Lot e.Amount e.Yarn e.Dye e.Order []))) rfl ?_
 refine sg fol (kG (kAm [])) (kD b.Day b.Lots b.Holds (kE e.Kind e.Day e.Lot e.Amount e.Yarn e.Dye e.Order (kF []))) ?_
 refine sg fol (kG (kAm [])) (kD e.Day b.Lots b.Holds (kE e.Kind e.Day e.Lot e.Amount e.Yarn e.Dye e.Order (kF []))) ?_
 refine sq ?_
 refine sh fol (kG (kAm [(11,.bool (e.Kind==[114,101,99,101,105,118,101]))])) ?_
 refine ihB h (fun y h=>?_) (fun y h=>?_)
 ·obtain⟨k,n,h⟩:=bnd h
  refine sq (gq fol [4] (kAm []) (kD e.Day b.Lots b.Holds (kE e.Kind e.Day e.Lot e.Amount e.Yarn e.Dye e.Order (kD k.Day k.Lots k.Holds []))) (ac (cv (qbZ N (⟨e.Day,b.Lots,b.Holds⟩:qL) e e.Amount n)) az) ?_)
  refine Goes.ret ?_
  obtain rfl:=si h
  exact(gw2 [.agg (kH k.Day k.Lots k.Holds)] (FzW.agg (qJ.cons (Ub tI) (qJ.cons (Ub (qw qo _ (nl rfl))) (qJ.cons (Ub (qw qg _ (nl rfl))) qJ.nil)))))
 refine Goes.skip ?_
 obtain⟨a,o,h⟩:=bnd h
 refine sq (gq fol [5] (kG (kZ [])) (kD e.Day b.Lots b.Holds (kE e.Kind e.Day e.Lot e.Amount e.Yarn e.Dye e.Order (kF (kK a.Lot a.Order a.Reserved a.Taken [])))) (ac (cv (qb6 N (⟨e.Day,b.Lots,b.Holds⟩:qL) e.Lot e.Order o)) az) ?_)
 refine sq ?_
 refine sh fol (kG (kZ [(24,.str e.Kind)])) ?_
 obtain⟨z,g9,h⟩:=bnd h
 refine Goes.imp (Q:=fun x s'=>(x= .normal/\ ∃p q r s t,(p,q,r,s,t)=z/\Sub s' (ofG 76 (kN [(5,.ptr 2 0)]),(kD p q r (kF (kK a.Lot a.Order s t [])))))) ?_ ?_
 ·refine Goes.block ?_
  refine sh fol (kG (kZ [(24,.str e.Kind),(36,.bool (e.Kind==[114,101,115,101,114,118,101]))])) ?_
  refine ihB g9 (fun u g9=>?_) (fun u g9=>?_)
  ·refine Goes.rg fol (kAI (kZ [])) (kD e.Day b.Lots b.Holds (kE e.Kind e.Day e.Lot e.Amount e.Yarn e.Dye e.Order (kF (kK a.Lot a.Order (w64 (a.Reserved+e.Amount)) a.Taken [])))) ?_
   obtain rfl:=si g9
   exact⟨rfl,_,_,_,_,_,rfl,(Sub.norm [] [some 0,some 2,some 3] rfl rfl (.kp (.kp (.kp .nil))) (.kb rfl (.same sn) (.kb rfl (.same sn) (.kb rfl (.same sn) .nil))))⟩
  refine sh fol (kG (kZ [(24,.str e.Kind),(44,.bool (e.Kind==[114,101,108,101,97,115,101]))])) ?_
  refine ihB g9 (fun v g9=>?_) (fun v g9=>?_)
  ·refine Goes.rg fol (kAI (kZ [])) (kD e.Day b.Lots b.Holds (kE e.Kind e.Day e.Lot e.Amount e.Yarn e.Dye e.Order (kF (kK a.Lot a.Order (w64 (a.Reserved-e.Amount)) a.Taken [])))) ?_
   obtain rfl:=si g9
   exact⟨rfl,_,_,_,_,_,rfl,(Sub.norm [] [some 0,some 2,some 3] rfl rfl (.kp (.kp (.kp .nil))) (.kb rfl (.same sn) (.kb rfl (.same sn) (.kb rfl (.same sn) .nil))))⟩
  refine sh fol (kG (kZ [(52,.bool (e.Kind==[116,97,107,101]))])) ?_
  refine ihB g9 (fun w g9=>?_) (fun w g9=>?_)
  ·obtain⟨c,g,g9⟩:=bnd g9
   refine sq (gq fol [5] (kG (kZ [])) (kD c.Day c.Lots c.Holds (kE e.Kind e.Day e.Lot e.Amount e.Yarn e.Dye e.Order (kF (kK a.Lot a.Order a.Reserved a.Taken [])))) (ac (cv (qbZ N (⟨e.Day,b.Lots,b.Holds⟩:qL) e (w64 (0-e.Amount)) g)) az) ?_)
   refine sg fol (kG (kZ [])) (kD c.Day c.Lots c.Holds (kE e.Kind e.Day e.Lot e.Amount e.Yarn e.Dye e.Order (kF (kK a.Lot a.Order (if(w64 (a.Reserved-e.Amount))>0 then(w64 (a.Reserved-e.Amount))else 0) a.Taken [])))) ?_
   refine Goes.rg fol (kAI (kZ [])) (kD c.Day c.Lots c.Holds (kE e.Kind e.Day e.Lot e.Amount e.Yarn e.Dye e.Order (kF (kK a.Lot a.Order (if(w64 (a.Reserved-e.Amount))>0 then(w64 (a.Reserved-e.Amount))else 0) (w64 (a.Taken+e.Amount)) [])))) ?_
   obtain rfl:=si g9
   exact⟨rfl,_,_,_,_,_,rfl,(Sub.norm [] [some 0,some 2,some 3] rfl rfl (.kp (.kp (.kp .nil))) (.kb rfl (.same sn) (.kb rfl (.same sn) (.kb rfl (.same sn) .nil))))⟩
  obtain⟨d,i,g9⟩:=bnd g9
  refine sq (gq fol [4] (kG (kZ [])) (kD d.Day d.Lots d.Holds (kE e.Kind e.Day e.Lot e.Amount e.Yarn e.Dye e.Order (kF (kK a.Lot a.Order a.Reserved a.Taken [])))) (ac (cv (qbZ N (⟨e.Day,b.Lots,b.Holds⟩:qL) e e.Amount i)) az) ?_)
  refine Goes.rg fol (kAI (kZ [])) (kD d.Day d.Lots d.Holds (kE e.Kind e.Day e.Lot e.Amount e.Yarn e.Dye e.Order (kF (kK a.Lot a.Order a.Reserved (w64 (a.Taken-e.Amount)) [])))) ?_
  obtain rfl:=si g9
  exact⟨rfl,_,_,_,_,_,rfl,(Sub.norm [] [some 0,some 2,some 3] rfl rfl (.kp (.kp (.kp .nil))) (.kb rfl (.same sn) (.kb rfl (.same sn) (.kb rfl (.same sn) .nil))))⟩
 rintro x s' ⟨rfl,p,q,r,s,t,rfl,hsub⟩
 try dsimp only at h
 refine Goes.sub hsub ?_
 obtain⟨f,j,h⟩:=bnd h
 refine sq (gq fol [2] (kAf []) (kD p q r (kD f.Day f.Lots f.Holds (kK a.Lot a.Order s t []))) (ac (cv (qhO N (⟨p,q,r⟩:qL) (⟨a.Lot,a.Order,s,t⟩:qf) j)) az) ?_)
 refine Goes.ret ?_
 obtain rfl:=si h
 exact(gw2 [.agg (kH f.Day f.Lots f.Holds)] (FzW.agg (qJ.cons (Ub tI) (qJ.cons (Ub (qw qo _ (nl rfl))) (qJ.cons (Ub (qw qg _ (nl rfl))) qJ.nil)))))
def vD (a:qL) (i:Int):Nat->Int->Int->Option Int
 |0,_,_=>none
 |K+1,b,c=>
  if c<(a.Holds.length:Int)then
  (((idx a.Holds c).bind fun e=>
  (idx a.Lots i).bind fun d=>
  if(e.Lot==d.Name)=true then
  some (w64 (b-e.Reserved))
  else
  some b:Option Int)).bind fun f=>
  vD a i K f (w64 (c+1))
  else
  some b
def qaZ (N:Nat) (a:qL) (i:Int):Option Int:=
 (idx a.Lots i).bind fun b=>
 (vD a i N b.Stock 0).bind fun c=>
 some c
theorem qhs (N:Nat) (a:qL) (i:Int) {res:Int} (h:qaZ N a i=some res):qp ZT (.fn 35) (kV a.Day a.Lots a.Holds [.i i]) [] (.i res) []:=by
 unfold qaZ at h
 refine Uc Tryz.func35 rfl rfl (m:=42) rfl (rs:=[.tmp 4]) rfl (l:=(kAD a.Day a.Lots a.Holds [(1,.i i)])) rfl ?_
 refine sg fol ((1,.i i)::(kAI [])) (kD a.Day a.Lots a.Holds []) ?_
 obtain⟨o,e,h⟩:=bnd h
 refine sq (gr fol [3,5] ((1,.i i)::(kAI (kAY o.Stock))) (ac (iv qh1 qo e) (ac (lv 3 ce3 qo e rfl) az)) ?_)
 refine sq ?_
 refine sh fol ((1,.i i)::(kAI [(5,.i o.Stock),(6,.i 0)])) ?_
 refine Goes.block ?_
 obtain⟨p,g5,h⟩:=bnd h
 refine Goes.imp (Q:=fun x s'=>(x= .exit 0/\ ∃g,g=p/\Sub s' (ofG 42 (kAY g),[]))) ?_ ?_
 ·refine Ud (fun M s=> ∃(f:Int) (d:Int),s=(ofG 42 ((1,.i i)::(kAI (kY f d))),(kD a.Day a.Lots a.Holds []))/\vD a i M f d=some p) ?_ (m:=N) ⟨_,_,rfl,g5⟩
  rintro M s ⟨f,d,rfl,g5⟩
  cases M with
  |zero=>simp only[vD]at g5;cases g5
  |succ M=>
   rw[vD]at g5
   refine sq ?_
   refine sh fol ((1,.i i)::(kAI [(5,.i f),(6,.i d),(17,.bool (decide (d<(a.Holds.length:Int))))])) ?_
   refine ihD g5 (fun r g5=>?_) (fun r g5=>?_)
   ·refine Goes.skip ?_
    refine sq ?_
    obtain⟨t,g8,g5⟩:=bnd g5
    refine Goes.imp (Q:=fun x s'=>(x= .normal/\ ∃j,j=t/\Sub s' (ofG 42 ((1,.i i)::(kAI (kY j d))),(kD a.Day a.Lots a.Holds [])))) ?_ ?_
    ·refine Goes.block ?_
     obtain⟨q,b,g8⟩:=bnd g8
     obtain⟨k,c,g8⟩:=bnd g8
     refine sq (gr fol [3,5,9,11] ((1,.i i)::(kAI [(5,.i f),(6,.i d),(32,.bool (q.Lot==k.Name))])) (ac (iv qjl qg b) (ac (lv 0 ce9 qg b rfl) (ac (iv qh1 qo c) (ac (lv 0 ce9 qo c rfl) az)))) ?_)
     refine ihB g8 (fun n g8=>?_) (fun n g8=>?_)
     ·refine gr fol [4,6] ((1,.i i)::(kAI (kY (w64 (f-q.Reserved)) d))) (ac (iv qjl qg b) (ac (lv 2 ce3 qg b rfl) az)) ?_
      obtain rfl:=si g8
      exact⟨rfl,_,rfl,(Sub.refl _)⟩
     refine Goes.skip ?_
     obtain rfl:=si g8
     exact⟨rfl,_,rfl,(Sub.keep [1,2,5,6] rfl rfl)⟩
    rintro x s' ⟨rfl,j,rfl,hsub⟩
    refine Goes.sub hsub ?_
    refine gh fol ((1,.i i)::(kAI (kY j (w64 (d+1))))) ?_
    exact⟨M,(ofG 42 ((1,.i i)::(kAI (kY j (w64 (d+1))))),(kD a.Day a.Lots a.Holds [])),Nat.lt_succ_self _,(Sub.refl _),_,_,rfl,g5⟩
   refine Goes.exit ?_
   obtain rfl:=si g5
   exact⟨rfl,_,rfl,(Sub.norm [] [] rfl rfl (.drop (.drop (.keep (.same nI) .nil))) .nil)⟩
 rintro x s' ⟨rfl,g,rfl,hsub⟩
 refine Goes.sub hsub ?_
 refine sh fol (kA3 g) ?_
 refine Goes.ret ?_
 obtain rfl:=si h
 exact(gw2 [.i g] (Ub tI))
def qdR (N:Nat) (d:qL) (e:qb):Option Int:=
 if e.Day<d.Day then
 some 1
 else
 (jH N d e.Lot).bind fun f=>
 ((if(e.Kind==[114,101,99,101,105,118,101])=true then
 (if f>=0 then
 (idx d.Lots f).bind fun n=>
 if(!(n.Yarn==e.Yarn))=true then
 some true
 else
 some (!(n.Dye==e.Dye))
 else
 some false:Option Bool).bind fun o=>
 if o=true then
 some (.inr 2)
 else
 some (.inl ())
 else
 if f<0 then
 some (.inr 2)
 else
 (yC N d e.Lot e.Order).bind fun a=>
 (qaZ N d f).bind fun b=>
 (if(e.Kind==[114,101,115,101,114,118,101])=true then
 if e.Amount>b then
 some true
 else
 if(e.Kind==[114,101,108,101,97,115,101])=true then
 if e.Amount>a.Reserved then
 some true
 else
 if(e.Kind==[116,97,107,101])=true then
 if e.Amount>(w64 (b+a.Reserved))then
 some true
 else
 if(e.Kind==[114,101,116,117,114,110])=true then
 some (decide (e.Amount>a.Taken))
 else
 some false
 else
 if(e.Kind==[114,101,116,117,114,110])=true then
 some (decide (e.Amount>a.Taken))
 else
 some false
 else
 if(e.Kind==[116,97,107,101])=true then
 if e.Amount>(w64 (b+a.Reserved))then
 some true
 else
 if(e.Kind==[114,101,116,117,114,110])=true then
 some (decide (e.Amount>a.Taken))
 else
 some false
 else
 if(e.Kind==[114,101,116,117,114,110])=true then
 some (decide (e.Amount>a.Taken))
 else
 some false
 else
 if(e.Kind==[114,101,108,101,97,115,101])=true then
 if e.Amount>a.Reserved then
 some true
 else
 if(e.Kind==[116,97,107,101])=true then
 if e.Amount>(w64 (b+a.Reserved))then
 some true
 else
 if(e.Kind==[114,101,116,117,114,110])=true then
 some (decide (e.Amount>a.Taken))
 else
 some false
 else
 if(e.Kind==[114,101,116,117,114,110])=true then
 some (decide (e.Amount>a.Taken))
 else
 some false
 else
 if(e.Kind==[116,97,107,101])=true then
 if e.Amount>(w64 (b+a.Reserved))then
 some true
 else
 if(e.Kind==[114,101,116,117,114,110])=true then
 some (decide (e.Amount>a.Taken))
 else
 some false
 else
 if(e.Kind==[114,101,116,117,114,110])=true then
 some (decide (e.Amount>a.Taken))
 else
 some false:Option Bool).bind fun g=>
 if g=true then
 some (.inr 3)
 else
 some (.inl ()):Option (Unit⊕Int))).bind (fun
 |(.inl ())=>
 (qbW N d e).bind fun c=>
 (jH N c e.Lot).bind fun h=>
 ((idx c.Lots h).bind fun i=>
 if i.Stock>999999999 then
 some true
 else
 (yC N c e.Lot e.Order).bind fun j=>
 some (decide (j.Taken>999999999)):Option Bool).bind fun k=>
 if k=true then
 some 4
 else
 (if(c.Lots.length:Int)>64 then
 some true
 else
 some (decide ((c.Holds.length:Int)>256)):Option Bool).bind fun l=>
 if l=true then
 some 5
 else
 some 0
 |(.inr m)=>
 some m)
theorem qkP (N:Nat) (f:qL) (e:qb) {res:Int} (h:qdR N f e=some res):qp ZT (.fn 27) (kV f.Day f.Lots f.Holds (kAF e.Kind e.Day e.Lot e.Amount e.Yarn e.Dye e.Order [])) [] (.i res) []:=by
 unfold qdR at h
 refine Uc Tryz.func27 rfl rfl (m:=137) rfl (rs:=[.tmp 4]) rfl (l:=(kAD f.Day f.Lots f.Holds (kAx e.Kind e.Day e.Lot e.Amount e.Yarn e.Dye e.Order []))) rfl ?_
 refine sg fol (kG []) (kD f.Day f.Lots f.Holds (kE e.Kind e.Day e.Lot e.Amount e.Yarn e.Dye e.Order [])) ?_
 refine sq ?_
 refine sh fol (kG [(13,.bool (decide (e.Day<f.Day)))]) ?_
 refine ihD h (fun c1 h=>?_) (fun c1 h=>?_)
 ·refine sh fol [(4,.i 1)] ?_
  refine Goes.ret ?_
  obtain rfl:=si h
  exact(gw2 [.i 1] (Ub tI))
 refine Goes.skip ?_
 obtain⟨W,X,h⟩:=bnd h
 refine sq (gr fol [3] (kG (kAY W)) (ac (cv (qbO N f e.Lot X)) az) ?_)
 refine sq ?_
 refine sh fol (kG [(5,.i W),(20,.bool (e.Kind==[114,101,99,101,105,118,101]))]) ?_
 obtain⟨r3,g3,h⟩:=bnd h
 refine Goes.imp (Q:=fun x s'=>(x= .normal/\(.inl ())=r3/\Sub s' (ofG 137 (kG []),(kD f.Day f.Lots f.Holds (kE e.Kind e.Day e.Lot e.Amount e.Yarn e.Dye e.Order []))))\/(x= .ret/\ ∃q4,(.inr q4)=r3/\jF ZT [.tmp 4] (.i q4) .ret s')) ?_ ?_
 ·refine ihB g3 (fun c5 g3=>?_) (fun c5 g3=>?_)
  ·refine sq ?_
   obtain⟨b9,c,g3⟩:=bnd g3
   refine Goes.cut (s':=(ofG 137 (kG [(44,.bool b9)]),(kD f.Day f.Lots f.Holds (kE e.Kind e.Day e.Lot e.Amount e.Yarn e.Dye e.Order [])))) ?_ ?_
   ·rcases wyD c with⟨Y,c⟩|⟨Y,c⟩
    ·obtain⟨x7,q,c⟩:=bnd c
     rcases wyB c with⟨Z,c⟩|⟨Z,c⟩
     ·obtain rfl:=si c
      exact tr fol [2,6,8,12] (kG [(44,.bool true)]) (ac (gw Y) (ac (iv qh1 qo q) (ac (lv 1 ce9 qo q rfl) (ac (gw Z) az))))
     obtain rfl:=si c
     exact tr fol [2,6,8,12,16,18] (kG [(44,.bool (!(x7.Dye==e.Dye)))]) (ac (gw Y) (ac (iv qh1 qo q) (ac (lv 1 ce9 qo q rfl) (ac (gw Z) (ac (iv qh1 qo q) (ac (lv 2 ce9 qo q rfl) az))))))
    obtain rfl:=si c
    exact tr fol [2] (kG [(44,.bool false)]) (ac (gw Y) az)
   refine ihB g3 (fun a0 g3=>?_) (fun a0 g3=>?_)
   ·refine sh fol [(4,.i 2)] ?_
    refine Goes.ret ?_
    obtain rfl:=si g3
    exact Or.inr (⟨rfl,_,rfl,(gw2 [.i 2] (Ub tI))⟩)
   refine Goes.skip ?_
   obtain rfl:=si g3
   exact Or.inl (⟨rfl,rfl,(Sub.keep [2,3] rfl rfl)⟩)
  refine sq ?_
  refine sh fol (kG [(5,.i W),(46,.bool (decide (W<0)))]) ?_
  refine ihD g3 (fun a1 g3=>?_) (fun a1 g3=>?_)
  ·refine sh fol [(4,.i 2)] ?_
   refine Goes.ret ?_
   obtain rfl:=si g3
   exact Or.inr (⟨rfl,_,rfl,(gw2 [.i 2] (Ub tI))⟩)
  refine Goes.skip ?_
  obtain⟨g,D,g3⟩:=bnd g3
  refine sq (gq fol [5] (kG [(5,.i W),(6,.ptr 2 0)]) (kD f.Day f.Lots f.Holds (kE e.Kind e.Day e.Lot e.Amount e.Yarn e.Dye e.Order (kK g.Lot g.Order g.Reserved g.Taken []))) (ac (cv (qb6 N f e.Lot e.Order D)) az) ?_)
  obtain⟨a2,E,g3⟩:=bnd g3
  refine sq (gr fol [2] (kG [(6,.ptr 2 0),(7,.i a2)]) (ac (cv (qhs N f W E)) az) ?_)
  refine sq ?_
  obtain⟨a3,a,g3⟩:=bnd g3
  refine Goes.cut (s':=(ofG 137 (kG [(102,.bool a3)]),(kD f.Day f.Lots f.Holds (kE e.Kind e.Day e.Lot e.Amount e.Yarn e.Dye e.Order (kK g.Lot g.Order g.Reserved g.Taken []))))) ?_ ?_
  ·rcases wyB a with⟨b,a⟩|⟨b,a⟩
   ·rcases wyD a with⟨j,a⟩|⟨j,a⟩
    ·obtain rfl:=si a
     exact tr fol [3,9] (kG kA1) (ac (gw b) (ac (gw j) az))
    rcases wyB a with⟨k,a⟩|⟨k,a⟩
    ·rcases wyD a with⟨s,a⟩|⟨s,a⟩
     ·obtain rfl:=si a
      exact tr fol [3,9,13,21] (kG kA1) (ac (gw b) (ac (gw j) (ac (gw k) (ac (gw s) az))))
     rcases wyB a with⟨u,a⟩|⟨u,a⟩
     ·rcases wyD a with⟨z,a⟩|⟨z,a⟩
      ·obtain rfl:=si a
       exact tr fol [3,9,13,21,25,35] (kG kA1) (ac (gw b) (ac (gw j) (ac (gw k) (ac (gw s) (ac (gw u) (ac (gw z) az))))))
      rcases wyB a with⟨F,a⟩|⟨F,a⟩
      ·obtain rfl:=si a
       exact tr fol [3,9,13,21,25,35,39] (kG [(102,.bool (decide (e.Amount>g.Taken)))]) (ac (gw b) (ac (gw j) (ac (gw k) (ac (gw s) (ac (gw u) (ac (gw z) (ac (gw F) az)))))))
      obtain rfl:=si a
      exact tr fol [3,9,13,21,25,35,39] (kG kAs) (ac (gw b) (ac (gw j) (ac (gw k) (ac (gw s) (ac (gw u) (ac (gw z) (ac (gw F) az)))))))
     rcases wyB a with⟨G,a⟩|⟨G,a⟩
     ·obtain rfl:=si a
      exact tr fol [3,9,13,21,25,39] (kG [(102,.bool (decide (e.Amount>g.Taken)))]) (ac (gw b) (ac (gw j) (ac (gw k) (ac (gw s) (ac (gw u) (ac (gw G) az))))))
     obtain rfl:=si a
     exact tr fol [3,9,13,21,25,39] (kG kAs) (ac (gw b) (ac (gw j) (ac (gw k) (ac (gw s) (ac (gw u) (ac (gw G) az))))))
    rcases wyB a with⟨v,a⟩|⟨v,a⟩
    ·rcases wyD a with⟨A,a⟩|⟨A,a⟩
     ·obtain rfl:=si a
      exact tr fol [3,9,13,25,35] (kG kA1) (ac (gw b) (ac (gw j) (ac (gw k) (ac (gw v) (ac (gw A) az)))))
     rcases wyB a with⟨H,a⟩|⟨H,a⟩
     ·obtain rfl:=si a
      exact tr fol [3,9,13,25,35,39] (kG [(102,.bool (decide (e.Amount>g.Taken)))]) (ac (gw b) (ac (gw j) (ac (gw k) (ac (gw v) (ac (gw A) (ac (gw H) az))))))
     obtain rfl:=si a
     exact tr fol [3,9,13,25,35,39] (kG kAs) (ac (gw b) (ac (gw j) (ac (gw k) (ac (gw v) (ac (gw A) (ac (gw H) az))))))
    rcases wyB a with⟨I,a⟩|⟨I,a⟩
    ·obtain rfl:=si a
     exact tr fol [3,9,13,25,39] (kG [(102,.bool (decide (e.Amount>g.Taken)))]) (ac (gw b) (ac (gw j) (ac (gw k) (ac (gw v) (ac (gw I) az)))))
    obtain rfl:=si a
    exact tr fol [3,9,13,25,39] (kG kAs) (ac (gw b) (ac (gw j) (ac (gw k) (ac (gw v) (ac (gw I) az)))))
   rcases wyB a with⟨n,a⟩|⟨n,a⟩
   ·rcases wyD a with⟨t,a⟩|⟨t,a⟩
    ·obtain rfl:=si a
     exact tr fol [3,13,21] (kG kA1) (ac (gw b) (ac (gw n) (ac (gw t) az)))
    rcases wyB a with⟨w,a⟩|⟨w,a⟩
    ·rcases wyD a with⟨B,a⟩|⟨B,a⟩
     ·obtain rfl:=si a
      exact tr fol [3,13,21,25,35] (kG kA1) (ac (gw b) (ac (gw n) (ac (gw t) (ac (gw w) (ac (gw B) az)))))
     rcases wyB a with⟨J,a⟩|⟨J,a⟩
     ·obtain rfl:=si a
      exact tr fol [3,13,21,25,35,39] (kG [(102,.bool (decide (e.Amount>g.Taken)))]) (ac (gw b) (ac (gw n) (ac (gw t) (ac (gw w) (ac (gw B) (ac (gw J) az))))))
     obtain rfl:=si a
     exact tr fol [3,13,21,25,35,39] (kG kAs) (ac (gw b) (ac (gw n) (ac (gw t) (ac (gw w) (ac (gw B) (ac (gw J) az))))))
    rcases wyB a with⟨K,a⟩|⟨K,a⟩
    ·obtain rfl:=si a
     exact tr fol [3,13,21,25,39] (kG [(102,.bool (decide (e.Amount>g.Taken)))]) (ac (gw b) (ac (gw n) (ac (gw t) (ac (gw w) (ac (gw K) az)))))
    obtain rfl:=si a
    exact tr fol [3,13,21,25,39] (kG kAs) (ac (gw b) (ac (gw n) (ac (gw t) (ac (gw w) (ac (gw K) az)))))
   rcases wyB a with⟨y,a⟩|⟨y,a⟩
   ·rcases wyD a with⟨C,a⟩|⟨C,a⟩
    ·obtain rfl:=si a
     exact tr fol [3,13,25,35] (kG kA1) (ac (gw b) (ac (gw n) (ac (gw y) (ac (gw C) az))))
    rcases wyB a with⟨L,a⟩|⟨L,a⟩
    ·obtain rfl:=si a
     exact tr fol [3,13,25,35,39] (kG [(102,.bool (decide (e.Amount>g.Taken)))]) (ac (gw b) (ac (gw n) (ac (gw y) (ac (gw C) (ac (gw L) az)))))
    obtain rfl:=si a
    exact tr fol [3,13,25,35,39] (kG kAs) (ac (gw b) (ac (gw n) (ac (gw y) (ac (gw C) (ac (gw L) az)))))
   rcases wyB a with⟨M,a⟩|⟨M,a⟩
   ·obtain rfl:=si a
    exact tr fol [3,13,25,39] (kG [(102,.bool (decide (e.Amount>g.Taken)))]) (ac (gw b) (ac (gw n) (ac (gw y) (ac (gw M) az))))
   obtain rfl:=si a
   exact tr fol [3,13,25,39] (kG kAs) (ac (gw b) (ac (gw n) (ac (gw y) (ac (gw M) az))))
  refine ihB g3 (fun a4 g3=>?_) (fun a4 g3=>?_)
  ·refine sh fol [(4,.i 3)] ?_
   refine Goes.ret ?_
   obtain rfl:=si g3
   exact Or.inr (⟨rfl,_,rfl,(gw2 [.i 3] (Ub tI))⟩)
  refine Goes.skip ?_
  obtain rfl:=si g3
  exact Or.inl (⟨rfl,rfl,(Sub.norm [] [some 0,some 1] rfl rfl (.kp (.kp .nil)) (.kb rfl (.same sn) (.kb rfl (.same sn) .nil)))⟩)
 rintro x s' (⟨rfl,rfl,hsub⟩|⟨rfl,q52,rfl,hret⟩)
 ·try dsimp only at h
  refine Goes.sub hsub ?_
  obtain⟨o,O,h⟩:=bnd h
  refine sq (gq fol [2] [(3,.ptr 1 0),(8,.ptr 2 0)] (kD f.Day f.Lots f.Holds (kE e.Kind e.Day e.Lot e.Amount e.Yarn e.Dye e.Order (kD o.Day o.Lots o.Holds []))) (ac (cv (qhw N f e O)) az) ?_)
  obtain⟨a5,P,h⟩:=bnd h
  refine sq (gr fol [3] [(3,.ptr 1 0),(5,.i a5),(8,.ptr 2 0)] (ac (cv (qbO N o e.Lot P)) az) ?_)
  refine sq ?_
  refine sq ?_
  obtain⟨a6,d,h⟩:=bnd h
  refine Goes.cut (s':=(ofG 137 [(8,.ptr 2 0),(126,.bool a6)],(kD f.Day f.Lots f.Holds (kE e.Kind e.Day e.Lot e.Amount e.Yarn e.Dye e.Order (kD o.Day o.Lots o.Holds []))))) ?_ ?_
  ·obtain⟨x42,r,d⟩:=bnd d
   rcases wyD d with⟨T,d⟩|⟨T,d⟩
   ·obtain rfl:=si d
    exact tr fol [3,5,7] [(8,.ptr 2 0),(126,.bool true)] (ac (iv qh1 qo r) (ac (lv 3 ce3 qo r rfl) (ac (gw T) az)))
   obtain⟨a7,U,d⟩:=bnd d
   obtain rfl:=si d
   exact tr fol [3,5,7,13] [(8,.ptr 2 0),(126,.bool (decide (a7.Taken>999999999)))] (ac (iv qh1 qo r) (ac (lv 3 ce3 qo r rfl) (ac (gw T) (ac (cv (qb6 N o e.Lot e.Order U)) az))))
  refine ihB h (fun a8 h=>?_) (fun a8 h=>?_)
  ·refine sh fol [(4,.i 4)] ?_
   refine Goes.ret ?_
   obtain rfl:=si h
   exact(gw2 [.i 4] (Ub tI))
  refine Goes.skip ?_
  refine sq ?_
  refine sq ?_
  obtain⟨a9,p,h⟩:=bnd h
  refine Goes.cut (s':=(ofG 137 [(136,.bool a9)],(kD f.Day f.Lots f.Holds (kE e.Kind e.Day e.Lot e.Amount e.Yarn e.Dye e.Order (kD o.Day o.Lots o.Holds []))))) ?_ ?_
  ·rcases wyD p with⟨V,p⟩|⟨V,p⟩
   ·obtain rfl:=si p
    exact tr fol [4] [(136,.bool true)] (ac (gw V) az)
   obtain rfl:=si p
   exact tr fol [4] [(136,.bool (decide ((o.Holds.length:Int)>256)))] (ac (gw V) az)
  refine ihB h (fun b0 h=>?_) (fun b0 h=>?_)
  ·refine sh fol [(4,.i 5)] ?_
   refine Goes.ret ?_
   obtain rfl:=si h
   exact(gw2 [.i 5] (Ub tI))
  refine Goes.skip ?_
  refine sh fol [(4,.i 0)] ?_
  refine Goes.ret ?_
  obtain rfl:=si h
  exact(gw2 [.i 0] (Ub tI))
 try dsimp only at h
 obtain rfl:=si h
 exact hret
end Go.Av
