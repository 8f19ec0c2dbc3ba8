/-
  Walks of functions: what each computes, as a plain function.
-/
import Derived.Test.YthgioiakbbhonaaGreatDoorQGenEi4
noncomputable section
namespace Go.Av
open Go.Proofs Go.RowKit
set_option linter.unusedSectionVars false
set_option linter.unusedVariables false
set_option linter.unusedSimpArgs false
set_option maxRecDepth 100000
def qcR (N:Nat) (a:Str) (b:Str):Option Str:=
 (yn N a).bind λc=>
 (yn N b).bind λd=>
 (if c.2.2=true then
 some d.2.2
 else
 some false:Option Bool).bind λl=>
 if l=true then
 (qd3 N (w64 ((w64 (c.1*d.2.1))+(w64 (d.1*c.2.1)))) (w64 (c.2.1*d.2.1))).bind λm=>
 some m
 else
 (vZ N a).bind λe=>
 (vZ N b).bind λf=>
 (xB N e.1 f.2).bind λg=>
 (xB N f.1 e.2).bind λh=>
 (qdc N g h).bind λi=>
 (xB N e.2 f.2).bind λj=>
 (xc N i j).bind λk=>
 some k
theorem qgI (N:Nat) (a:Str) (b:Str) {res:Str} (h:qcR N a b=some res):qf ZT (.fn 45) [.str a,.str b] [] (.str res) []:=by
 unfold qcR at h;obtain⟨d,p,e,q,C,c,h⟩:=bn3 h;refine Ub Tryz.func45 rfl rfl (m:=63) rfl (rs:=[.tmp 4]) rfl (l:=(kX a b [])) rfl<|sh fol (kX a b [])<|sq<|gr fol [1] (kX a b (kBT d.1 d.2.1 [(7,.bool d.2.2)])) (qh (cv (qbK N a p)))<|sq<|gr fol [1] (kX a b (kBT d.1 d.2.1 ((7,.bool d.2.2)::(kAu e.1 e.2.1 (kBI e.2.2))))) (qh (cv (qbK N b q)))<|sq<|sq<|Goes.cut (s':=(ofG 63 (kX a b (kBT d.1 d.2.1 (kAu e.1 e.2.1 [(30,.bool C)]))),[])) ?_ ?_
 ·rcases wyB c with⟨v,c⟩|⟨v,c⟩
  ·cases c
   exact tr fol [1] (kX a b (kBT d.1 d.2.1 (kAu e.1 e.2.1 [(30,.bool e.2.2)]))) (qh (gw v))
  cases c
  exact tr fol [1] (kX a b (kBT d.1 d.2.1 (kAu e.1 e.2.1 [(30,.bool false)]))) (qh (gw v))
 refine ihB h (λD h=>?_) (λD h=>?_)
 ·obtain⟨B,r,rfl⟩:=bs1 h;exact sq<|gr fol [10] (kBi B) (qh (cv (qhk N (w64 ((w64 (d.1*e.2.1))+(w64 (e.1*d.2.1)))) (w64 (d.2.1*e.2.1)) r)))<|Goes.ret<|(gw2 [.str B] (Ua tS))
 obtain⟨f,s,g,t,x,i,y,j,z,k,A,n,u,o,rfl⟩:=bs7 h;exact Goes.skip<|sq<|gq fol [1] ((1,.str b)::(kBd [])) (kM f.1.neg f.1.w f.2.neg f.2.w []) (qh (cv (qaR N a s)))<|sq<|gq fol [1] (kBd [(13,.ptr 2 0),(14,.ptr 3 0)]) (kM f.1.neg f.1.w f.2.neg f.2.w (kM g.1.neg g.1.w g.2.neg g.2.w [])) (qh (cv (qaR N b t)))<|sq<|gr fol [2,5,6,9,10] (kBi u) (qbj (cv (qaX N f.1 g.2 i)) (cv (qaX N g.1 f.2 j)) (cv (qjn N x y k)) (cv (qaX N f.2 g.2 n)) (cv (qbN N z A o)))<|Goes.ret<|(gw2 [.str u] (Ua tS))
def qcP (N:Nat) (a:Str) (b:Str):Option Str:=
 (yn N a).bind λc=>
 (yn N b).bind λd=>
 (if c.2.2=true then
 some d.2.2
 else
 some false:Option Bool).bind λj=>
 if j=true then
 (qd3 N (w64 (c.1*d.1)) (w64 (c.2.1*d.2.1))).bind λk=>
 some k
 else
 (vZ N a).bind λh=>
 (vZ N b).bind λi=>
 (xB N h.1 i.1).bind λe=>
 (xB N h.2 i.2).bind λf=>
 (xc N e f).bind λg=>
 some g
theorem qgE (N:Nat) (a:Str) (b:Str) {res:Str} (h:qcP N a b=some res):qf ZT (.fn 46) [.str a,.str b] [] (.str res) []:=by
 unfold qcP at h;obtain⟨d,n,e,o,y,c,h⟩:=bn3 h;refine Ub Tryz.func46 rfl rfl (m:=55) rfl (rs:=[.tmp 4]) rfl (l:=(kX a b [])) rfl<|sh fol (kX a b [])<|sq<|gr fol [1] (kX a b (kBT d.1 d.2.1 [(7,.bool d.2.2)])) (qh (cv (qbK N a n)))<|sq<|gr fol [1] (kX a b (kBT d.1 d.2.1 ((7,.bool d.2.2)::(kAu e.1 e.2.1 (kBI e.2.2))))) (qh (cv (qbK N b o)))<|sq<|sq<|Goes.cut (s':=(ofG 55 (kX a b (kBT d.1 d.2.1 (kAu e.1 e.2.1 [(30,.bool y)]))),[])) ?_ ?_
 ·rcases wyB c with⟨t,c⟩|⟨t,c⟩
  ·cases c
   exact tr fol [1] (kX a b (kBT d.1 d.2.1 (kAu e.1 e.2.1 [(30,.bool e.2.2)]))) (qh (gw t))
  cases c
  exact tr fol [1] (kX a b (kBT d.1 d.2.1 (kAu e.1 e.2.1 [(30,.bool false)]))) (qh (gw t))
 refine ihB h (λz h=>?_) (λz h=>?_)
 ·obtain⟨x,p,rfl⟩:=bs1 h;exact sq<|gr fol [6] (kBi x) (qh (cv (qhk N (w64 (d.1*e.1)) (w64 (d.2.1*e.2.1)) p)))<|Goes.ret<|(gw2 [.str x] (Ua tS))
 obtain⟨f,q,k,r,u,g,v,i,s,j,rfl⟩:=bs5 h;exact Goes.skip<|sq<|gq fol [1] ((1,.str b)::(kBd [])) (kM f.1.neg f.1.w f.2.neg f.2.w []) (qh (cv (qaR N a q)))<|sq<|gq fol [1] (kBd [(13,.ptr 2 0),(14,.ptr 3 0)]) (kM f.1.neg f.1.w f.2.neg f.2.w (kM k.1.neg k.1.w k.2.neg k.2.w [])) (qh (cv (qaR N b r)))<|sq<|gr fol [2,5,6] (kBi s) (qI (cv (qaX N f.1 k.1 g)) (cv (qaX N f.2 k.2 i)) (cv (qbN N u v j)))<|Goes.ret<|(gw2 [.str s] (Ua tS))
def vD (N:Nat) (a:List Str) (b:List Str):Nat->Str->Int->Option Str
 |0,_,_=>none
 |K+1,d,c=>
  if c<(a.length:Int)then
  (idx a c).bind λe=>
  (idx b c).bind λf=>
  (qcP N e f).bind λg=>
  (qcR N d g).bind λh=>
  vD N a b K h (w64 (c+1))
  else
  some d
def xL (N:Nat) (a:List Str) (b:List Str):Option Str:=
 (vD N a b N [48] 0).bind λc=>
 some c
theorem qca (N:Nat) (a:List Str) (b:List Str) {res:Str} (h:xL N a b=some res):qf ZT (.fn 13) [vl encS a,vl encS b] [] (.str res) []:=by
 unfold xL at h;obtain⟨n,g4,h⟩:=bnd h;refine Ub Tryz.func13 rfl rfl (m:=25) rfl (rs:=[.tmp 4]) rfl (l:=(kAk a (kAJ b []))) rfl<|sh fol (kAk a (kAJ b []))<|sh fol (kAk a (kAJ b [(5,.str [48])]))<|sq<|sh fol (kAk a (kAJ b [(5,.str [48]),(6,.i 0)]))<|Goes.block<|Goes.imp (Q:=λx s'=>(x= .exit 0/\ ∃f,f=n/\Sub s' (ofG 25 [(5,.str f)],[]))) ?_ ?_
 ·refine Ud (λM s=> ∃(g:Str) (e:Int),s=(ofG 25 (kAk a (kAJ b ((5,.str g)::(kBw e)))),[])/\vD N a b M g e=some n) ?_ (m:=N) ⟨_,_,rfl,g4⟩;rintro M s ⟨g,e,rfl,g4⟩
  cases M with
  |zero=>simp only[vD]at g4;cases g4
  |succ M=>
   rw[vD]at g4;refine sq<|sh fol (kAk a (kAJ b ((5,.str g)::(6,.i e)::(kBI (decide (e<(zl a)))))))<|ihD g4 (λp g4=>?_) (λp g4=>?_)
   ·obtain⟨q,c,r,d,t,j,o,k,g4⟩:=bn4 g4;exact Goes.skip<|sq<|Goes.block<|gr fol [3,4,7,8,9,10] (kAk a (kAJ b ((5,.str o)::(kBw e)))) (qcE (iv qeI encS c) (lv 0 qf8 encS c rfl) (iv qeI encS d) (lv 0 qf8 encS d rfl) (cv (qgE N q r j)) (cv (qgI N g t k)))<|gh fol (kAk a (kAJ b ((5,.str o)::(kBw (w64 (e+1))))))<|zo ⟨_,_,rfl,g4⟩
   cases g4
   exact Goes.exit<|⟨rfl,_,rfl,(Sub.keep [5] rfl rfl)⟩
 rintro x s' ⟨rfl,f,rfl,hsub⟩;obtain rfl:=si h;exact Goes.sub hsub<|sh fol (kBi f)<|Goes.ret<|(gw2 [.str f] (Ua tS))
def qbb (a:Str):Option Bool:=
 some (a==[48])
theorem qeC (a:Str) {res:Bool} (h:qbb a=some res):qf ZT (.fn 47) [.str a] [] (.bool res) []:=by
 unfold qbb at h;cases h
 exact Ub Tryz.func47 rfl rfl (m:=5) rfl (rs:=[.tmp 2]) rfl (l:=(kAn a)) rfl<|sh fol (kAn a)<|sh fol (kBr (a==[48]))<|Goes.ret<|(gw2 [.bool (a==[48])] (Ua tB))
def vN (N:Nat) (m:List (List Str)) (y:List Str) (g:Int):Nat->Str->Int->Option Str
 |0,_,_=>none
 |K+1,h,a=>
  if a<(m.length:Int)then
  (idx y a).bind λb=>
  (idx m a).bind λc=>
  (idx c g).bind λd=>
  (qcP N b d).bind λe=>
  (qcR N h e).bind λf=>
  vN N m y g K f (w64 (a+1))
  else
  some h
def vH (N:Nat) (m:List (List Str)) (y:List Str):Nat->Int->Option (Unit⊕Bool)
 |0,_=>none
 |K+1,a=>
  (idx m 0).bind λc=>
  if a<(c.length:Int)then
  (vN N m y a N [48] 0).bind λd=>
  (qbb d).bind λb=>
  if(!b)=true then
  some (.inr false)
  else
  vH N m y K (w64 (a+1))
  else
  some (.inl ())
def qbn (N:Nat) (m:List (List Str)) (b:List Str) (y:List Str):Option Bool:=
 (vH N m y N 0).bind (λ
 |(.inl ())=>
 (xL N b y).bind λa=>
 (qbb a).bind λc=>
 some (!c)
 |(.inr d)=>
 some d)
theorem qdW (N:Nat) (m:List (List Str)) (b:List Str) (y:List Str) {res:Bool} (h:qbn N m b y=some res):qf ZT (.fn 11) [vl eSS m,vl encS b,vl encS y] [] (.bool res) []:=by
 unfold qbn at h;obtain⟨v,g2,h⟩:=bnd h;refine Ub Tryz.func11 rfl rfl (m:=46) rfl (rs:=[.tmp 6]) rfl (l:=((0,vl eSS m)::(kI b y []))) rfl<|sh fol ((0,vl eSS m)::(kI b y []))<|sq<|sh fol ((0,vl eSS m)::(kI b y [(7,.i 0)]))<|Goes.block<|Goes.imp (Q:=λx s'=>(x= .exit 0/\(.inl ())=v/\Sub s' (ofG 46 (kI b y []),[]))\/(x= .ret/\ ∃F,(.inr F)=v/\zm ZT [.tmp 6] (.bool F) .ret s')) ?_ ?_
 ·refine Ud (λM s=> ∃(a:Int),s=(ofG 46 ((0,vl eSS m)::(kI b y [(7,.i a)])),[])/\vH N m y M a=some v) ?_ (m:=N) ⟨_,rfl,g2⟩;rintro M s ⟨a,rfl,g2⟩
  cases M with
  |zero=>simp only[vH]at g2;cases g2
  |succ M=>
   rw[vH]at g2;obtain⟨H,f,g2⟩:=bnd g2;refine sq<|sq<|gr fol [2,3] ((0,vl eSS m)::(kI b y ((7,.i a)::(kBP (decide (a<(zl H))))))) (qA (iv qcA eSS f) (lv 0 qcz eSS f rfl))<|ihD g2 (λI g2=>?_) (λI g2=>?_)
   ·obtain⟨G,g9,g2⟩:=bnd g2;refine Goes.skip<|sq<|Goes.block<|sh fol ((0,vl eSS m)::(kI b y [(7,.i a),(8,.str [48])]))<|sq<|sh fol ((0,vl eSS m)::(kI b y [(7,.i a),(8,.str [48]),(9,.i 0)]))<|Goes.block<|Goes.imp (Q:=λx s'=>(x= .exit 2/\ ∃u,u=G/\Sub s' (ofG 46 ((0,vl eSS m)::(kI b y [(7,.i a),(8,.str u)])),[]))) ?_ ?_
    ·refine Ud (λM s=> ∃(q:Str) (g:Int),s=(ofG 46 ((0,vl eSS m)::(kI b y [(7,.i a),(8,.str q),(9,.i g)])),[])/\vN N m y a M q g=some G) ?_ (m:=N) ⟨_,_,rfl,g9⟩;rintro M s ⟨q,g,rfl,g9⟩
     cases M with
     |zero=>simp only[vN]at g9;cases g9
     |succ M=>
      rw[vN]at g9;refine sq<|sh fol ((0,vl eSS m)::(kI b y [(7,.i a),(8,.str q),(9,.i g),(21,.bool (decide (g<(zl m))))]))<|ihD g9 (λw g9=>?_) (λw g9=>?_)
      ·obtain⟨z,c,J,d,A,e,B,j,r,k,g9⟩:=bn5 g9;exact Goes.skip<|sq<|Goes.block<|gr fol [3,4,7,8,10,11,12,13] ((0,vl eSS m)::(kI b y [(7,.i a),(8,.str r),(9,.i g)])) (qkW (iv qeI encS c) (lv 0 qf8 encS c rfl) (iv qcA eSS d) (lv 0 qcz eSS d rfl) (iv qeI encS e) (lv 0 qf8 encS e rfl) (cv (qgE N z A j)) (cv (qgI N q B k)))<|gh fol ((0,vl eSS m)::(kI b y [(7,.i a),(8,.str r),(9,.i (w64 (g+1)))]))<|zo ⟨_,_,rfl,g9⟩
      cases g9
      exact Goes.exit<|⟨rfl,_,rfl,(Sub.keep [0,1,2,7,8] rfl rfl)⟩
    rintro x s' ⟨rfl,u,rfl,hsub⟩;obtain⟨C,n,g2⟩:=bnd g2;refine Goes.sub hsub<|sq<|gr fol [1] ((0,vl eSS m)::(kI b y [(7,.i a),(40,.bool (!C))])) (qh (cv (qeC u n)))<|ihB g2 (λD g2=>?_) (λD g2=>?_)
    ·cases g2
     exact sh fol kAy<|Goes.ret<|Or.inr (⟨rfl,_,rfl,(gw2 [.bool false] (Ua tB))⟩)
    exact Goes.skip<|gh fol ((0,vl eSS m)::(kI b y [(7,.i (w64 (a+1)))]))<|zo ⟨_,rfl,g2⟩
   cases g2
   exact Goes.exit<|Or.inl (⟨rfl,rfl,(Sub.keep [1,2] rfl rfl)⟩)
 rintro x s' (⟨rfl,rfl,hsub⟩|⟨rfl,K,rfl,hret⟩)
 ·try dsimp only at h
  obtain⟨E,o,t,p,rfl⟩:=bs2 h;exact Goes.sub hsub<|sq<|gr fol [2,3] [(6,.bool (!t))] (qA (cv (qca N b y o)) (cv (qeC E p)))<|Goes.ret<|(gw2 [.bool (!t)] (Ua tB))
 try dsimp only at h
 cases h
 exact hret
def xq (a:qb):Option Bool:=
 (jO a).bind λb=>
 some (!decide (b=0))
theorem qdI (a:qb) {res:Bool} (h:xq a=some res):qf ZT (.fn 54) [.agg (nq1 a)] [] (.bool res) []:=by
 unfold xq at h;obtain⟨c,b,rfl⟩:=bs1 h;exact Ub Tryz.func54 rfl rfl (m:=6) rfl (rs:=[.tmp 2]) rfl (l:=[(0,.agg (nq1 a))]) rfl<|sg fol (kAg []) [.cells (nq1 a)]<|sq<|gr fol [1] (kBr (!decide (c=0))) (qh (cv (yV a b)))<|Goes.ret<|(gw2 [.bool (!decide (c=0))] (Ua tB))
def qZ (a:List qb):Nat->Int->Option (Unit⊕Int)
 |0,_=>none
 |K+1,b=>
  if b<(a.length:Int)then
  (idx a b).bind λc=>
  (xq c).bind λd=>
  if d=true then
  some (.inr b)
  else
  qZ a K (w64 (b+1))
  else
  some (.inl ())
def vQ (N:Nat) (a:List qb):Option Int:=
 (qZ a N 0).bind (λ
 |(.inl ())=>
 some (-1)
 |(.inr b)=>
 some b)
theorem qcG (N:Nat) (a:List qb) {res:Int} (h:vQ N a=some res):qf ZT (.fn 105) [vl qa a,.func (.func 54) [] []] [] (.i res) []:=by
 unfold vQ at h;obtain⟨e,g2,h⟩:=bnd h;refine Ub Tryz.func105 rfl rfl (m:=19) rfl (rs:=[.tmp 4]) rfl (l:=(kAZ a [(1,.func (.func 54) [] [])])) rfl<|sh fol (kAZ a [(1,.func (.func 54) [] [])])<|sq<|sh fol (kAZ a [(1,.func (.func 54) [] []),(7,.i (zl a)),(8,.i 0)])<|Goes.block<|Goes.imp (Q:=λx s'=>(x= .exit 0/\(.inl ())=e/\Sub s' (ofG 19 [],[]))\/(x= .ret/\ ∃f,(.inr f)=e/\zm ZT [.tmp 4] (.i f) .ret s')) ?_ ?_
 ·refine Ud (λM s=> ∃(b:Int),s=(ofG 19 (kAZ a ((1,.func (.func 54) [] [])::(kAE (zl a) b))),[])/\qZ a M b=some e) ?_ (m:=N) ⟨_,rfl,g2⟩;rintro M s ⟨b,rfl,g2⟩
  cases M with
  |zero=>simp only[qZ]at g2;cases g2
  |succ M=>
   rw[qZ]at g2;refine sh fol (kAZ a ((1,.func (.func 54) [] [])::(kBt (zl a) b (kBs (decide (b<(zl a)))))))<|sq<|ihD g2 (λg g2=>?_) (λg g2=>?_)
   ·obtain⟨j,c,k,d,g2⟩:=bn2 g2;refine Goes.skip<|sq<|Goes.block<|sh fol (kAZ a ((1,.func (.func 54) [] [])::(5,.i b)::(kAE (zl a) b)))<|sq<|gr fol [3,4,5] (kAZ a ((1,.func (.func 54) [] [])::(5,.i b)::(kBt (zl a) b [(16,.bool k)]))) (qI (iv qaP qa c) (la qfG qa c) (cv (qdI j d)))<|ihB g2 (λn g2=>?_) (λn g2=>?_)
    ·cases g2
     exact sh fol [(4,.i b)]<|Goes.ret<|Or.inr (⟨rfl,_,rfl,(gw2 [.i b] (Ua tI))⟩)
    exact Goes.skip<|gh fol (kAZ a ((1,.func (.func 54) [] [])::(kAE (zl a) (w64 (b+1)))))<|zo ⟨_,rfl,g2⟩
   cases g2
   exact Goes.exit<|Or.inl (⟨rfl,rfl,(Sub.keep [] rfl rfl)⟩)
 rintro x s' (⟨rfl,rfl,hsub⟩|⟨rfl,o,rfl,hret⟩)
 ·try dsimp only at h
  cases h
  exact Goes.sub hsub<|sh fol kBg<|Goes.ret<|(gw2 [.i (-1)] (Ua tI))
 try dsimp only at h
 cases h
 exact hret
def jL (N:Nat) (a:List qb):Option Bool:=
 (vQ N a).bind λb=>
 some (decide (b>=0))
theorem qch (N:Nat) (a:List qb) {res:Bool} (h:jL N a=some res):qf ZT (.fn 53) [vl qa a,.func (.func 54) [] []] [] (.bool res) []:=by
 unfold jL at h;obtain⟨c,b,rfl⟩:=bs1 h;exact Ub Tryz.func53 rfl rfl (m:=9) rfl (rs:=[.tmp 4]) rfl (l:=(kAZ a [(1,.func (.func 54) [] [])])) rfl<|sh fol (kAZ a [(1,.func (.func 54) [] [])])<|sq<|gr fol [2] (kBC (decide (c>=0))) (qh (hs (.call 105 [vl qa a,.func (.func 54) [] []] [] [] [vl qa a,.func (.func 54) [] []] (.i c)) (qkq (FzL.cons (Un (qw qa _ (nl rfl))) (FzL.cons (Fz.func FzL.nil FzL.nil) FzL.nil)) (qcG N a b) tI)))<|Goes.ret<|(gw2 [.bool (decide (c>=0))] (Ua tB))
def zL (N:Nat) (d:qb) (b:List qb):Nat->(List qb)->Int->Option (List qb)
 |0,_,_=>none
 |K+1,c,a=>
  if a<(b.length:Int)then
  (idx b a).bind λe=>
  (idx c a).bind λf=>
  (qal N d e).bind λg=>
  (qbd N f g).bind λh=>
  (put c a h).bind λi=>
  zL N d b K i (w64 (a+1))
  else
  some c
def zK (N:Nat) (m:List (List Str)) (b:List Str) (y:List Str):Nat->(List qb)->Int->Option (List qb)
 |0,_,_=>none
 |K+1,c,a=>
  if a<(m.length:Int)then
  (idx m a).bind λd=>
  (idx y a).bind λe=>
  (qb1 N e).bind λf=>
  (jR N d).bind λg=>
  (idx b a).bind λh=>
  (qb1 N h).bind λi=>
  (app 64 g [i]).bind λj=>
  (zL N f j N c 0).bind λk=>
  zK N m b y K k (w64 (a+1))
  else
  some c
def y7 (N:Nat) (m:List (List Str)) (b:List Str) (y:List Str):Option Int:=
 (za N m b).bind λl=>
 (qN (!decide ((y.length:Int)=(m.length:Int))) 2).bind λn=>
 (yL N y).bind λo=>
 (jy N ([l,n,o]:List Int)).bind λk=>
 if(!decide (k=0))=true then
 some k
 else
 (qgC 0).bind λc=>
 (idx m 0).bind λp=>
 (vz N c.Num.s c.Num.w c.Den.s c.Den.w (w64 ((p.length:Int)+1))).bind λq=>
 (zK N m b y N q 0).bind λa=>
 (cut a 0 (w64 ((a.length:Int)-1))).bind λd=>
 (jL N d).bind λe=>
 (if e=true then
 (qN true 21).bind λf=>
 some f
 else
 (idx a (w64 ((a.length:Int)-1))).bind λg=>
 (jO g).bind λh=>
 (qN (decide (h=0)) 21).bind λi=>
 some i:Option Int).bind λj=>
 some j
theorem qeJ (N:Nat) (m:List (List Str)) (b:List Str) (y:List Str) {res:Int} (h:y7 N m b y=some res):qf ZT (.fn 12) [vl eSS m,vl encS b,vl encS y] [] (.i res) []:=by
 unfold y7 at h;obtain⟨J,e_r1,K,e_r2,L,e_r3,r4,e_r4,h⟩:=bn4 h;refine Ub Tryz.func12 rfl rfl (m:=97) rfl (rs:=[.tmp 6]) rfl (l:=((0,vl eSS m)::(kI b y []))) rfl<|sh fol ((0,vl eSS m)::(kI b y []))<|sq<|sq<|gq fol [2,8,10,12] ((0,vl eSS m)::(kI b y [(7,.i r4)])) [.cells [.i J,.i K,.i L]] (zM (cv (xJ N m b e_r1)) (cv (ji (!decide ((zl y)=(zl m))) 2 e_r2)) (cv (qbB N y e_r3)) (hs (.call 48 [.slice 0 0 3 3 1] [.cells [.i J,.i K,.i L]] [0] [vl encI ([J,K,L]:List Int)] (.i r4)) (qgT (FzL.cons (Fz.lit rfl rfl (Uf (AllST.cons tI (AllST.cons tI (AllST.cons tI AllST.nil))))) FzL.nil) (qaA N ([J,K,L]:List Int) e_r4) tI rfl)))<|sh fol ((0,vl eSS m)::(kI b y [(7,.i r4),(30,.bool (!decide (r4=0)))]))<|ihB h (λc5 h=>?_) (λc5 h=>?_)
 ·obtain rfl:=si h;exact sh fol (kBw r4)<|Goes.ret<|(gw2 [.i r4] (Ua tI))
 obtain⟨O,e_r6,x7,I,D,e_r8,r13,g13,h⟩:=bn4 h;refine Goes.skip<|sq<|gq fol [0,3,4,7] ((0,vl eSS m)::(kI b y [(8,.slice 2 0 D.length D.length 4)])) (.cells [.i J,.i K,.i L]:: .cells (nq1 O)::(kA D [])) (zM (cv (qis 0 e_r6)) (iv qcA eSS I) (lv 0 qcz eSS I rfl) (hs (.callH 36 [.slice 1 0 1 1 4,.i (w64 ((zl x7)+1))] [.cells [.i J,.i K,.i L],.cells (nq1 O)] [1] (.slice 2 0 D.length D.length 4) (.cells [.i J,.i K,.i L]:: .cells (nq1 O)::(kA D []))) (qbA [some 1] [none,some 0,some 1] (qbq N O.Num.s O.Num.w O.Den.s O.Den.w (w64 ((zl x7)+1)) e_r8) (.kb rfl (.cells (rc (.same nI) (rc (.same (xA eU _)) (rc (.same nI) (rc (.same (xA eU _)) rn))))) .nil) rfl rfl (.old rfl rfl (.back rfl rfl (.cells (rc (.same nI) (rc (.same (xA eU _)) (rc (.same nI) (rc (.same (xA eU _)) rn))))) rfl (.new rfl rfl (.same fa) rfl .nil))) (rc (.slice rfl) (rc (.same nI) rn)) (.slice rfl) rfl)))<|sq<|sh fol (kI b y [(8,.slice 2 0 D.length D.length 4),(40,vl eSS m),(41,.i (zl m)),(42,.i 0)])<|Goes.block<|Goes.imp (Q:=λx s'=>(x= .exit 0/\ ∃j,j=r13/\Sub s' (ofG 97 (kW j []),(kA j [])))) ?_ ?_
 ·refine Goes.sub (s':=(ofG 97 (kI b y (kW D [(40,vl eSS m),(41,.i (zl m)),(42,.i 0)])),(kA D []))) (Uc [] [some 2] rfl rfl (.keep (.same (qc encS _)) (.keep (.same (qc encS _)) (.keep (.slice rfl) (.keep (.same (qc eSS _)) (.keep (.same nI) (.keep (.same nI) .nil)))))) (.ks .nil))<|Ud (λM s=> ∃(g:List qb) (e:Int),s=(ofG 97 (kI b y (kW g ((40,vl eSS m)::(kBx (zl m) e [])))),(kA g []))/\zK N m b y M g e=some r13) ?_ (m:=N) ⟨_,_,rfl,g13⟩;rintro M s ⟨g,e,rfl,g13⟩
  cases M with
  |zero=>simp only[zK]at g13;cases g13
  |succ M=>
   rw[zK]at g13;refine sh fol (kI b y (kW g ((40,vl eSS m)::(kBx (zl m) e [(43,.bool (decide (e<(zl m))))]))))<|sq<|ihD g13 (λc14 g13=>?_) (λc14 g13=>?_)
   ·obtain⟨F,q,x16,r,c,P,t,U,x20,u,G,V,a,X,r26,g26,g13⟩:=bn8 g13;refine Goes.skip<|sq<|Goes.block<|sq<|gr fol [1,2] (kI b y (kW g (kBW e F ((40,vl eSS m)::(kBx (zl m) e []))))) (qA (iv qcA eSS q) (lv 0 qcz eSS q rfl))<|sq<|gq fol [2,3,4,6] (kI b y (kW g (kBW e F (kBa ((40,vl eSS m)::(kBx (zl m) e [])))))) (kA g [.cells (nq1 c)]) (zM (iv qeI encS r) (lv 0 qf8 encS r rfl) (cv (qcm N x16 P)) (hs (.run [1] (qx ZT 76 (.ptr 1 0) (.agg (nq1 c))) (kA g (kL [])) .undef (kA g [.cells (nq1 c)]) true) (zq (n:=4) (by kernel_rfl) rfl rfl rfl rfl (cac rfl (cac nvc (cac rfl (cac nvc can)))) rfl)))<|sq<|gq fol [1,4,5,6,8] (kI b y (kW g (kBa ((40,vl eSS m)::(kBx (zl m) e ((60,gF 4 a)::(kBK (zl a)))))))) (kA g (.cells (nq1 c):: .dead:: .cells (nq1 G)::(kA a []))) (qbj (hs (.callH 39 [vl encS F] (kA g [.cells (nq1 c)]) [] (gF 2 t) (kA g (.cells (nq1 c)::(kA t [])))) (qbA [] [none,none,some 0] (qaT N F U) .nil rfl rfl (.old rfl rfl (.old rfl rfl (.new rfl rfl (.same fa) rfl .nil))) (rc (.same (qc encS _)) rn) (.gslice rfl) rfl)) (iv qeI encS u) (lv 0 qf8 encS u rfl) (cv (qcm N x20 V)) (hs (.run [2,3] (zO ZT [70,70] (gF 2 t) (.slice 3 0 1 1 4)) (kA g (.cells (nq1 c)::(kA t [.cells (nq1 G)]))) (gF 4 a) (kA g (.cells (nq1 c):: .dead:: .cells (nq1 G)::(kA a []))) true) (qaq qaP (E:=qa) rfl (qdy (E:=qa) (ys:=[G]) rfl rfl rfl rfl) (qex (E:=qa) (l:=t) rfl rfl rfl X rfl))))<|Goes.block<|Goes.imp (Q:=λx s'=>(x= .exit 2/\ ∃v,v=r26/\Sub s' (ofG 97 (kI b y (kW v ((40,vl eSS m)::(kBx (zl m) e [])))),(kA v [])))) ?_ ?_
    ·refine Goes.sub (s':=(ofG 97 (kI b y (kW g (kBa ((40,vl eSS m)::(kBx (zl m) e ((60,gF 2 a)::(kBK (zl a)))))))),(kA g (.cells (nq1 c)::(kA a []))))) (Uc [] [some 0,some 1,some 4] rfl rfl (.keep (.same (qc encS _)) (.keep (.same (qc encS _)) (.keep (.slice rfl) (.kp (.keep (.same (qc eSS _)) (.keep (.same nI) (.keep (.same nI) (.keep (.gslice rfl) (.keep (.same nI) (.keep (.same nI) .nil)))))))))) (.ks (.kb rfl (.same sn) (.ks .nil))))<|Ud (λM s=> ∃(d:List qb) (f:Int),s=(ofG 97 (kI b y (kW d (kBa ((40,vl eSS m)::(kAO (zl m) e a (zl a) f []))))),(kA d (.cells (nq1 c)::(kA a []))))/\zL N c a M d f=some r26) ?_ (m:=N) ⟨_,_,rfl,g26⟩;rintro M s ⟨d,f,rfl,g26⟩
     cases M with
     |zero=>simp only[zL]at g26;cases g26
     |succ M=>
      rw[zL]at g26;refine sh fol (kI b y (kW d (kBa ((40,vl eSS m)::(kAO (zl m) e a (zl a) f [(63,.bool (decide (f<(zl a))))])))))<|sq<|ihD g26 (λc27 g26=>?_) (λc27 g26=>?_)
      ·obtain⟨o,z,x29,p,r30,Y,r31,Z,A,B,g26⟩:=bn5 g26;exact Goes.skip<|sq<|Goes.block<|sq<|gq fol [1,2,5] (kI b y (kW d (kBa ((12,.i f)::(13,.ptr 3 0)::(40,vl eSS m)::(kAO (zl m) e a (zl a) f []))))) (kA d (.cells (nq1 c)::(kA a [.cells (nq1 o)]))) (qI (hs (.done (.opt (qd ZT 70 (gF 2 a) (.i f))) (.ptr 2 ((f:Int).toNat*4+0))) (xG qaP z)) (hs (.run [2] (qX ZT 76 (.ptr 2 ((f:Int).toNat*4+0))) (kA d (.cells (nq1 c)::(kA a []))) (.agg (nq1 o)) (kA d (.cells (nq1 c)::(kA a []))) false) (qeQ qfG (E:=qa) (l:=a) rfl rfl z)) (hs (.run [3] (qx ZT 76 (.ptr 3 0) (.agg (nq1 o))) (kA d (.cells (nq1 c)::(kA a (kL [])))) .undef (kA d (.cells (nq1 c)::(kA a [.cells (nq1 o)]))) true) (zq (n:=4) (by kernel_rfl) rfl rfl rfl rfl (cac rfl (cac nvc (cac rfl (cac nvc can)))) rfl)))<|gq fol [4,5,8,9,10,11] (kI b y (kW d (kBa ((40,vl eSS m)::(kAO (zl m) e a (zl a) f []))))) (kA A (.cells (nq1 c)::(kA a [.cells (nq1 o)]))) (qcE (hs (.done (.opt (qd ZT 70 (.slice 0 0 d.length d.length 4) (.i f))) (.ptr 0 ((f:Int).toNat*4+0))) (qad qaP p)) (hs (.run [0] (qX ZT 76 (.ptr 0 ((f:Int).toNat*4+0))) (kA d (.cells (nq1 c)::(kA a [.cells (nq1 o)]))) (.agg (nq1 x29)) (kA d (.cells (nq1 c)::(kA a [.cells (nq1 o)]))) false) (qeQ qfG (E:=qa) (l:=d) rfl rfl p)) (cv (qcw N c o Y)) (cv (qey N x29 r30 Z)) (hs (.done (.opt (qd ZT 70 (.slice 0 0 d.length d.length 4) (.i f))) (.ptr 0 ((f:Int).toNat*4+0))) (qad qaP p)) (hs (.run [0] (qx ZT 76 (.ptr 0 ((f:Int).toNat*4+0)) (.agg (nq1 r31))) (kA d (.cells (nq1 c)::(kA a [.cells (nq1 o)]))) .undef (kA A (.cells (nq1 c)::(kA a [.cells (nq1 o)]))) true) (xS (E:=qa) (l:=d) (y:=r31) rfl (show _=some 4 by kernel_rfl) rfl p rfl rfl rfl (cac rfl (cac nvc (cac rfl (cac nvc can)))) rfl B rfl)))<|Goes.sub (show Sub _ (ofG 97 (kI b y (kW A (kBa ((40,vl eSS m)::(kAO (zl m) e a (zl a) f []))))),(kA A (.cells (nq1 c)::(kA a []))))from(Uc [] [some 0,some 1,some 2] rfl rfl (.keep (.same (qc encS _)) (.keep (.same (qc encS _)) (.keep (.sliceE rfl (jv B)) (.kp (.keep (.same (qc eSS _)) (.keep (.same nI) (.keep (.same nI) (.keep (.gslice rfl) (.keep (.same nI) (.keep (.same nI) .nil)))))))))) (.ks (.kb rfl (.same sn) (.ks .nil)))))<|gh fol (kI b y (kW A (kBa ((40,vl eSS m)::(kAO (zl m) e a (zl a) (w64 (f+1)) [])))))<|zo ⟨_,_,rfl,g26⟩
      cases g26
      exact Goes.exit<|⟨rfl,_,rfl,(Uc [] [some 0] rfl rfl (.keep (.same (qc encS _)) (.keep (.same (qc encS _)) (.keep (.slice rfl) (.drop (.keep (.same (qc eSS _)) (.keep (.same nI) (.keep (.same nI) .nil))))))) (.ks .nil))⟩
    rintro x s' ⟨rfl,v,rfl,hsub⟩;exact Goes.sub hsub<|gh fol (kI b y (kW v ((40,vl eSS m)::(kBx (zl m) (w64 (e+1)) []))))<|zo ⟨_,_,rfl,g13⟩
   cases g13
   exact Goes.exit<|⟨rfl,_,rfl,(Sub.keep [8] rfl rfl)⟩
 rintro x s' ⟨rfl,j,rfl,hsub⟩;obtain⟨H,a0,r34,a1,n40,k,h⟩:=bn3 h;refine Goes.sub hsub<|sh fol (kW j (kBV (w64 ((zl j)-1))))<|sq<|Goes.sub (s':=(ofG 97 ((8,vl qa j)::(kBV (w64 ((zl j)-1)))),[])) (Uc [0] [] rfl rfl (.keep (.frz (Fz.sl (E:=qa) rfl rfl (nl rfl)) (qc qa _)) (.keep (.same nI) .nil)) .nil)<|gr fol [2,3] ((8,vl qa j)::(14,.i (w64 ((zl j)-1)))::(kBP r34)) (qA (hs (.done (.opt (qC ZT 70 (vl qa j) none (some (.i (w64 ((zl j)-1)))) none)) (vl qa H)) (qjL qaP (E:=qa) rfl none (some (w64 ((zl j)-1))) a0)) (hs (.call 53 [vl qa H,.func (.func 54) [] []] [] [] [vl qa H,.func (.func 54) [] []] (.bool r34)) (qkq (FzL.cons (Un (qw qa _ (nl rfl))) (FzL.cons (Fz.func FzL.nil FzL.nil) FzL.nil)) (qch N H a1) tB)))<|sq<|Goes.cut (s':=(ofG 97 (kBw n40),[])) ?_ ?_
 ·rcases wyB k with⟨a2,k⟩|⟨a2,k⟩
  ·obtain⟨r36,a3,rfl⟩:=bs1 k;exact tr fol [1,9] (kBw r36) (qA (gw a2) (cv (ji true 21 a3)))
  obtain⟨x37,C,r38,a4,r39,a5,rfl⟩:=bs3 k;exact tr fol [1,4,5,6,9] (kBw r39) (qbj (gw a2) (iv qaP qa C) (la qfG qa C) (cv (yV x37 a4)) (cv (ji (decide (r38=0)) 21 a5)))
 obtain rfl:=si h;exact Goes.ret<|(gw2 [.i n40] (Ua tI))
def vL (a:List Str) (b:List Str):Nat->Int->Option (Unit⊕Bool)
 |0,_=>none
 |K+1,c=>
  if c<(a.length:Int)then
  (idx a c).bind λd=>
  (idx b c).bind λe=>
  if(!(d==e))=true then
  some (.inr false)
  else
  vL a b K (w64 (c+1))
  else
  some (.inl ())
def qaD (N:Nat) (a:List Str) (b:List Str):Option Bool:=
 if(!decide ((a.length:Int)=(b.length:Int)))=true then
 some false
 else
 (vL a b N 0).bind (λ
 |(.inl ())=>
 some true
 |(.inr c)=>
 some c)
theorem qgV (N:Nat) (a:List Str) (b:List Str) {res:Bool} (h:qaD N a b=some res):qf ZT (.fn 14) [vl encS a,vl encS b] [] (.bool res) []:=by
 unfold qaD at h;refine Ub Tryz.func14 rfl rfl (m:=26) rfl (rs:=[.tmp 4]) rfl (l:=(kAk a (kAJ b []))) rfl<|sh fol (kAk a (kAJ b []))<|sq<|sh fol (kAk a (kAJ b (kBI (!decide ((zl a)=(zl b))))))<|ihB h (λj h=>?_) (λj h=>?_)
 ·cases h
  exact sh fol kBF<|Goes.ret<|(gw2 [.bool false] (Ua tB))
 obtain⟨f,g3,h⟩:=bnd h;refine Goes.skip<|sq<|sh fol (kAk a (kAJ b [(5,.i 0)]))<|Goes.block<|Goes.imp (Q:=λx s'=>(x= .exit 0/\(.inl ())=f/\Sub s' (ofG 26 [],[]))\/(x= .ret/\ ∃g,(.inr g)=f/\zm ZT [.tmp 4] (.bool g) .ret s')) ?_ ?_
 ·refine Ud (λM s=> ∃(e:Int),s=(ofG 26 (kAk a (kAJ b (kA8 e))),[])/\vL a b M e=some f) ?_ (m:=N) ⟨_,rfl,g3⟩;rintro M s ⟨e,rfl,g3⟩
  cases M with
  |zero=>simp only[vL]at g3;cases g3
  |succ M=>
   rw[vL]at g3;refine sq<|sh fol (kAk a (kAJ b [(5,.i e),(14,.bool (decide (e<(zl a))))]))<|ihD g3 (λk g3=>?_) (λk g3=>?_)
   ·obtain⟨n,c,o,d,g3⟩:=bn2 g3;refine Goes.skip<|sq<|Goes.block<|sq<|gr fol [2,3,6,7] (kAk a (kAJ b [(5,.i e),(25,.bool (!(n==o)))])) (zM (iv qeI encS c) (lv 0 qf8 encS c rfl) (iv qeI encS d) (lv 0 qf8 encS d rfl))<|ihB g3 (λp g3=>?_) (λp g3=>?_)
    ·cases g3
     exact sh fol kBF<|Goes.ret<|Or.inr (⟨rfl,_,rfl,(gw2 [.bool false] (Ua tB))⟩)
    exact Goes.skip<|gh fol (kAk a (kAJ b (kA8 (w64 (e+1)))))<|zo ⟨_,rfl,g3⟩
   cases g3
   exact Goes.exit<|Or.inl (⟨rfl,rfl,(Sub.keep [] rfl rfl)⟩)
 rintro x s' (⟨rfl,rfl,hsub⟩|⟨rfl,q,rfl,hret⟩)
 ·try dsimp only at h
  cases h
  exact Goes.sub hsub<|sh fol [(4,.bool true)]<|Goes.ret<|(gw2 [.bool true] (Ua tB))
 try dsimp only at h
 cases h
 exact hret
end Go.Av
