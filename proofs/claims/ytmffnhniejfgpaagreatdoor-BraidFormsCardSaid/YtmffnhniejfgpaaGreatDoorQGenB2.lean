/-
  Walks of functions: what each computes, as a plain function.
-/
import Derived.Test.YtmffnhniejfgpaaGreatDoorQGenB1
noncomputable section
namespace Go.Av
open Go.Proofs Go.RowKit
set_option linter.unusedSectionVars false
set_option linter.unusedVariables false
set_option linter.unusedSimpArgs false
set_option maxRecDepth 100000
def kP (n:Int):Nat->(List Int)->Int->Option (List Int)
 |0,_,_=>none
 |K+1,b,a=>
  if a<n then
  (app 8 b [w64 ((w64 (n-1))-a)]).bind fun c=>
  kP n K c (w64 (a+1))
  else
  some b
def vE (N:Nat) (n:Int):Option (List Int):=
 (kP n N ([]:List Int) 0).bind fun a=>
 some a
theorem qbr (N:Nat) (n:Int) {res:List Int} (h:vE N n=some res):qb ZT (.fn 76) [.i n] [] (vl encI res) []:=by
 unfold vE at h
 refine Ub Tryz.func76 rfl rfl (m:=18) rfl (rs:=[.tmp 2]) rfl (l:=(kBT n)) rfl ?_
 refine sh fol (kBT n) ?_
 refine sh fol ((0,.i n)::(kAs [])) ?_
 refine sq ?_
 refine sh fol ((0,.i n)::(kAs kA9)) ?_
 refine Goes.block ?_
 obtain⟨f,g4,h⟩:=bnd h
 refine Goes.imp (Q:=fun x s'=>(x= .exit 0/\ ∃d,d=f/\Sub s' (ofG 18 (kAH d []),(kA d)))) ?_ ?_
 ·refine Goes.sub (s':=(ofG 18 ((0,.i n)::(kBD kA9)),kZ)) (Sub.norm [] [none] rfl rfl (.keep (.same nI) (.keep .nil (.keep (.same nI) .nil))) (.fresh .nil)) ?_
  refine Uc (fun M s=> ∃(b:List Int) (a:Int),s=(ofG 18 ((0,.i n)::(kAH b (kAX a))),(kA b))/\kP n M b a=some f) ?_ (m:=N) ⟨_,_,rfl,g4⟩
  rintro M s ⟨b,a,rfl,g4⟩
  cases M with
  |zero=>simp only[kP]at g4;cases g4
  |succ M=>
   rw[kP]at g4
   refine sq ?_
   refine sh fol ((0,.i n)::(kAH b [(4,.i a),(7,.bool (decide (a<n)))])) ?_
   refine ihD g4 (fun g g4=>?_) (fun g g4=>?_)
   ·refine Goes.skip ?_
    refine sq (Goes.block ?_)
    obtain⟨c,e,g4⟩:=bnd g4
    refine gq fol [6] ((0,.i n)::(kBE c (kAX a))) (kAD (w64 ((w64 (n-1))-a)) (kA c)) (ac (hs (.run [0,1] (vo ZT [22,22] (.gslice 0 b.length 1) (.slice 1 0 1 1 1)) (kJ b (kAu (w64 ((w64 (n-1))-a)) [])) (.gslice 2 c.length 1) (kAD (w64 ((w64 (n-1))-a)) (kA c)) true) (xn yo (E:=encI) rfl (qbR (E:=encI) (ys:=[w64 ((w64 (n-1))-a)]) rfl rfl rfl rfl) (qbS (E:=encI) (l:=b) rfl rfl rfl e rfl))) az) ?_
    refine gh fol ((0,.i n)::(kBE c (kAX (w64 (a+1))))) ?_
    exact⟨M,(ofG 18 ((0,.i n)::(kAH c (kAX (w64 (a+1))))),(kA c)),Nat.lt_succ_self _,(Sub.norm [] [some 2] rfl rfl (.keep (.same nI) (.keep (.gslice rfl) (.keep (.same nI) .nil))) (.ks .nil)),_,_,rfl,g4⟩
   refine Goes.exit ?_
   obtain rfl:=si g4
   exact⟨rfl,_,rfl,(Sub.keep [3] rfl rfl)⟩
 rintro x s' ⟨rfl,d,rfl,hsub⟩
 refine Goes.sub hsub ?_
 refine sh fol (kA7 d) ?_
 refine Goes.ret ?_
 obtain rfl:=si h
 exact(gw2 [.gslice 0 d.length 1] (Uw (Fz.gs (E:=encI) rfl rfl (nl rfl))))
def vF (p:List Int) (i:Int):Option Bool:=
 (idx p (w64 (i-1))).bind fun a=>
 (idx p i).bind fun b=>
 some (decide (a>b))
theorem yI (p:List Int) (i:Int) {res:Bool} (h:vF p i=some res):qb ZT (.fn 65) (kAT p i) [] (.bool res) []:=by
 unfold vF at h
 refine Ub Tryz.func65 rfl rfl (m:=15) rfl (rs:=[.tmp 4]) rfl (l:=(kH p (kAx i))) rfl ?_
 refine sh fol (kH p (kAx i)) ?_
 obtain⟨c,a,h⟩:=bnd h
 obtain⟨d,b,h⟩:=bnd h
 refine sq (gr fol [3,4,7,8] (kAa (decide (c>d))) (ac (iv yo encI a) (ac (lv 0 ce3 encI a rfl) (ac (iv yo encI b) (ac (lv 0 ce3 encI b rfl) az)))) ?_)
 refine Goes.ret ?_
 obtain rfl:=si h
 exact(gw2 [.bool (decide (c>d))] (Ua tB))
def y9 (N:Nat) (p:List Int) (i:Int):Option Bool:=
 (vN N p).bind fun a=>
 (vF a i).bind fun b=>
 some b
theorem qc7 (N:Nat) (p:List Int) (i:Int) {res:Bool} (h:y9 N p i=some res):qb ZT (.fn 66) (kAT p i) [] (.bool res) []:=by
 unfold y9 at h
 refine Ub Tryz.func66 rfl rfl (m:=9) rfl (rs:=[.tmp 4]) rfl (l:=(kH p (kAx i))) rfl ?_
 refine sh fol (kH p (kAx i)) ?_
 obtain⟨d,a,h⟩:=bnd h
 obtain⟨c,b,h⟩:=bnd h
 refine sq (gr fol [1,3] (kAa c) (ac (cv (qbC N p a)) (ac (cv (yI d i b)) az)) ?_)
 refine Goes.ret ?_
 obtain rfl:=si h
 exact(gw2 [.bool c] (Ua tB))
def qaO (f:zx):Option zx:=
 some f
theorem qdS (f:zx) {res:zx} (h:qaO f=some res):qb ZT (.fn 16) [.agg [.i f.Half,vl (qa encI) f.Factors]] [] (.agg [.i res.Half,vl (qa encI) res.Factors]) []:=by
 unfold qaO at h
 refine Ub Tryz.func16 rfl rfl (m:=8) rfl (rs:=[.cell 2 36]) rfl (l:=[(0,.agg [.i f.Half,vl (qa encI) f.Factors])]) rfl ?_
 refine sg fol [(1,.ptr 0 0),(2,.ptr 1 0)] [.cells [.i f.Half,vl (qa encI) f.Factors],bZ] ?_
 refine sg fol [(2,.ptr 1 0)] [.cells [.i f.Half,vl (qa encI) f.Factors],.cells [.i f.Half,vl (qa encI) f.Factors]] ?_
 refine Goes.ret ?_
 obtain rfl:=si h
 exact(gw2 [.agg [.i f.Half,vl (qa encI) f.Factors]] (FzW.agg (jm.cons (Ua tI) (jm.cons (Ua (ja (qa encI) _ (nl rfl))) jm.nil))))
def qK (p:List Int):Nat->(List Int)->Int->Option (List Int)
 |0,_,_=>none
 |K+1,b,a=>
  if a<(p.length:Int)then
  (idx p a).bind fun c=>
  (idx b c).bind fun e=>
  (put b c a).bind fun d=>
  qK p K d (w64 (a+1))
  else
  some b
def kz (N:Nat) (p:List Int):Option (List Int):=
 (mk 8 (p.length:Int) 0).bind fun a=>
 (qK p N a 0).bind fun b=>
 some b
theorem j5 (N:Nat) (p:List Int) {res:List Int} (h:kz N p=some res):qb ZT (.fn 178) [vl encI p] [] (vl encI res) []:=by
 unfold kz at h
 refine Ub Tryz.func178 rfl rfl (m:=22) rfl (rs:=[.tmp 2]) rfl (l:=(kH p [])) rfl ?_
 refine sh fol (kH p []) ?_
 obtain⟨j,k,h⟩:=bnd h
 refine sq (gq fol [2] (kH p (kK j [])) (kA j) (ac (hs (.run [] (jH ZT 93 (.i (p.length:Int)) (.i (p.length:Int))) [] (.slice 0 0 j.length j.length 1) (kA j) false) (qdz xL (E:=encI) (z:=0) rfl (by kernel_rfl) k rfl)) az) ?_)
 refine sq ?_
 refine sh fol (kK j [(9,vl encI p),(10,.i (p.length:Int)),(11,.i 0)]) ?_
 refine Goes.block ?_
 obtain⟨o,g5,h⟩:=bnd h
 refine Goes.imp (Q:=fun x s'=>(x= .exit 0/\ ∃g,g=o/\Sub s' (ofG 22 (kK g []),(kA g)))) ?_ ?_
 ·refine Uc (fun M s=> ∃(b:List Int) (a:Int),s=(ofG 22 (kK b ((9,vl encI p)::(kAQ (p.length:Int) a []))),(kA b))/\qK p M b a=some o) ?_ (m:=N) ⟨_,_,rfl,g5⟩
  rintro M s ⟨b,a,rfl,g5⟩
  cases M with
  |zero=>simp only[qK]at g5;cases g5
  |succ M=>
   rw[qK]at g5
   refine sh fol (kK b ((9,vl encI p)::(kAQ (p.length:Int) a [(12,.bool (decide (a<(p.length:Int))))]))) ?_
   refine sq ?_
   refine ihD g5 (fun q g5=>?_) (fun q g5=>?_)
   ·refine Goes.skip ?_
    refine sq (Goes.block ?_)
    obtain⟨n,c,g5⟩:=bnd g5
    refine sq (gr fol [1,2] (kK b ((4,.i a)::(5,.i n)::(9,vl encI p)::(kAQ (p.length:Int) a []))) (ac (iv xL encI c) (ac (lv 0 ce3 encI c rfl) az)) ?_)
    obtain⟨r,d,g5⟩:=bnd g5
    obtain⟨e,f,g5⟩:=bnd g5
    refine gq fol [3,4] (kK b ((9,vl encI p)::(kAQ (p.length:Int) a []))) (kA e) (ac (hs (.done (.opt (qc ZT 93 (.slice 0 0 b.length b.length 1) (.i n))) (.ptr 0 ((n:Int).toNat*1+0))) (qbV xL d)) (ac (hs (.run [0] (jy ZT 3 (.ptr 0 ((n:Int).toNat*1+0)) (.i a)) (kA b) .undef (kA e) true) (xc (E:=encI) (l:=b) (y:=a) rfl (show _=some 1 by kernel_rfl) rfl d rfl rfl rfl rfl rfl f rfl)) az)) ?_
    refine Goes.sub (show Sub (ofG 22 (kK b ((9,vl encI p)::(kAQ (p.length:Int) a []))),(kA e)) (ofG 22 (kK e ((9,vl encI p)::(kAQ (p.length:Int) a []))),(kA e))from(Sub.norm [] [some 0] rfl rfl (.keep (.sliceE rfl (ve f)) (.keep (.same (qB encI _)) (.keep (.same nI) (.keep (.same nI) .nil)))) (.ks .nil))) ?_
    refine gh fol (kK e ((9,vl encI p)::(kAQ (p.length:Int) (w64 (a+1)) []))) ?_
    exact⟨M,(ofG 22 (kK e ((9,vl encI p)::(kAQ (p.length:Int) (w64 (a+1)) []))),(kA e)),Nat.lt_succ_self _,(Sub.refl _),_,_,rfl,g5⟩
   refine Goes.exit ?_
   obtain rfl:=si g5
   exact⟨rfl,_,rfl,(Sub.keep [3] rfl rfl)⟩
 rintro x s' ⟨rfl,g,rfl,hsub⟩
 refine Goes.sub hsub ?_
 refine sh fol (kA5 g) ?_
 refine Goes.ret ?_
 obtain rfl:=si h
 exact(gw2 [.slice 0 0 g.length g.length 1] (Uw (Fz.sl (E:=encI) rfl rfl (nl rfl))))
def jk (N:Nat) (p:List Int) (i:Int):Option Bool:=
 (kz N p).bind fun a=>
 (zb a i).bind fun b=>
 some b
theorem qaA (N:Nat) (p:List Int) (i:Int) {res:Bool} (h:jk N p i=some res):qb ZT (.fn 129) (kAT p i) [] (.bool res) []:=by
 unfold jk at h
 refine Ub Tryz.func129 rfl rfl (m:=9) rfl (rs:=[.tmp 4]) rfl (l:=(kH p (kAx i))) rfl ?_
 refine sh fol (kH p (kAx i)) ?_
 obtain⟨d,a,h⟩:=bnd h
 obtain⟨c,b,h⟩:=bnd h
 refine sq (gr fol [1,3] (kAa c) (ac (cv (j5 N p a)) (ac (cv (jQ d i b)) az)) ?_)
 refine Goes.ret ?_
 obtain rfl:=si h
 exact(gw2 [.bool c] (Ua tB))
def kI (N:Nat) (a:List Int) (b:List Int):Nat->Int->Int->Option (Unit⊕(Int×Bool))
 |0,_,_=>none
 |K+1,c,d=>
  if c<d then
  ((zb b c).bind fun e=>
  if e=true then
  (jk N a c).bind fun f=>
  some (!f)
  else
  some false:Option Bool).bind fun g=>
  if g=true then
  some (.inr (c,true))
  else
  kI N a b K (w64 (c+1)) d
  else
  some (.inl ())
def jV (N:Nat) (a:List Int) (b:List Int):Option (Int×Bool):=
 (kI N a b N 0 (w64 ((a.length:Int)-1))).bind (fun
 |(.inl ())=>
 some (0,false)
 |(.inr c)=>
 some c)
theorem qbL (N:Nat) (a:List Int) (b:List Int) {res:Int×Bool} (h:jV N a b=some res):qb ZT (.fn 69) (kAi a b) [] (.tuple [.i res.1,.bool res.2]) []:=by
 unfold jV at h
 refine Ub Tryz.func69 rfl rfl (m:=24) rfl (rs:=[.tmp 4,.tmp 5]) rfl (l:=(kH a (kQ b []))) rfl ?_
 refine sh fol (kH a (kQ b [])) ?_
 refine sq ?_
 refine sh fol (kH a (kQ b [(9,.i (w64 ((a.length:Int)-1))),(10,.i 0)])) ?_
 refine Goes.block ?_
 obtain⟨j,g3,h⟩:=bnd h
 refine Goes.imp (Q:=fun x s'=>(x= .exit 0/\(.inl ())=j/\Sub s' (ofG 24 [],[]))\/(x= .ret/\ ∃k,(.inr k)=j/\jh ZT [.tmp 4,.tmp 5] (.tuple [.i k.1,.bool k.2]) .ret s')) ?_ ?_
 ·refine Uc (fun M s=> ∃(d:Int) (e:Int),s=(ofG 24 (kH a (kQ b ((9,.i e)::(kBF d)))),[])/\kI N a b M d e=some j) ?_ (m:=N) ⟨_,_,rfl,g3⟩
  rintro M s ⟨d,e,rfl,g3⟩
  cases M with
  |zero=>simp only[kI]at g3;cases g3
  |succ M=>
   rw[kI]at g3
   refine sh fol (kH a (kQ b ((9,.i e)::(10,.i d)::(kBC (decide (d<e)))))) ?_
   refine sq ?_
   refine ihD g3 (fun p g3=>?_) (fun p g3=>?_)
   ·refine Goes.skip ?_
    refine sq (Goes.block ?_)
    refine sh fol (kH a (kQ b ((6,.i d)::(9,.i e)::(kBF d)))) ?_
    refine sq ?_
    obtain⟨q,c,g3⟩:=bnd g3
    refine Goes.cut (s':=(ofG 24 (kH a (kQ b [(6,.i d),(9,.i e),(10,.i d),(21,.bool q)])),[])) ?_ ?_
    ·obtain⟨u,f,c⟩:=bnd c
     rcases wyB c with⟨n,c⟩|⟨n,c⟩
     ·obtain⟨r,g,c⟩:=bnd c
      obtain rfl:=si c
      exact tr fol [2,3,6] (kH a (kQ b [(6,.i d),(9,.i e),(10,.i d),(21,.bool (!r))])) (ac (cv (jQ b d f)) (ac (gw n) (ac (cv (qaA N a d g)) az)))
     obtain rfl:=si c
     exact tr fol [2,3] (kH a (kQ b [(6,.i d),(9,.i e),(10,.i d),(21,.bool false)])) (ac (cv (jQ b d f)) (ac (gw n) az))
    refine ihB g3 (fun o g3=>?_) (fun o g3=>?_)
    ·refine sh fol [(4,.i d),(5,.bool true)] ?_
     refine Goes.ret ?_
     obtain rfl:=si g3
     exact Or.inr (⟨rfl,_,rfl,(gw2 [.i d,.bool true] (FzW.tuple (jm.cons (Ua tI) (jm.cons (Ua tB) jm.nil))))⟩)
    refine Goes.skip ?_
    refine gh fol (kH a (kQ b ((9,.i e)::(kBF (w64 (d+1)))))) ?_
    exact⟨M,(ofG 24 (kH a (kQ b ((9,.i e)::(kBF (w64 (d+1)))))),[]),Nat.lt_succ_self _,(Sub.refl _),_,_,rfl,g3⟩
   refine Goes.exit ?_
   obtain rfl:=si g3
   exact Or.inl (⟨rfl,rfl,(Sub.keep [] rfl rfl)⟩)
 rintro x s' (⟨rfl,rfl,hsub⟩|⟨rfl,t,rfl,hret⟩)
 ·try dsimp only at h
  refine Goes.sub hsub ?_
  refine sh fol [(4,.i 0),(5,.bool false)] ?_
  refine Goes.ret ?_
  obtain rfl:=si h
  exact(gw2 [.i 0,.bool false] (FzW.tuple (jm.cons (Ua tI) (jm.cons (Ua tB) jm.nil))))
 try dsimp only at h
 obtain rfl:=si h
 exact hret
def cmp_isNaN_int (a:Int):Option Bool:=
 some (!decide (a=a))
theorem jw (a:Int) {res:Bool} (h:cmp_isNaN_int a=some res):qb ZT (.fn 208) [.i a] [] (.bool res) []:=by
 unfold cmp_isNaN_int at h
 refine Ub Tryz.func208 rfl rfl (m:=6) rfl (rs:=[.tmp 2]) rfl (l:=(kBT a)) rfl ?_
 refine sh fol (kBT a) ?_
 refine sh fol [(2,.bool (!decide (a=a)))] ?_
 refine Goes.ret ?_
 obtain rfl:=si h
 exact(gw2 [.bool (!decide (a=a))] (Ua tB))
def cmp_Less_int (a:Int) (y:Int):Option Bool:=
 ((cmp_isNaN_int a).bind fun b=>
 if b=true then
 (cmp_isNaN_int y).bind fun c=>
 if(!c)=true then
 some true
 else
 some (decide (a<y))
 else
 some (decide (a<y)):Option Bool).bind fun d=>
 some d
theorem qb2 (c:Int) (y:Int) {res:Bool} (h:cmp_Less_int c y=some res):qb ZT (.fn 179) [.i c,.i y] [] (.bool res) []:=by
 unfold cmp_Less_int at h
 refine Ub Tryz.func179 rfl rfl (m:=17) rfl (rs:=[.tmp 4]) rfl (l:=((0,.i c)::(kAx y))) rfl ?_
 refine sh fol ((0,.i c)::(kAx y)) ?_
 refine sq ?_
 obtain⟨g,a,h⟩:=bnd h
 refine Goes.cut (s':=(ofG 17 (kAa g),[])) ?_ ?_
 ·obtain⟨j,b,a⟩:=bnd a
  rcases wyB a with⟨e,a⟩|⟨e,a⟩
  ·obtain⟨k,d,a⟩:=bnd a
   rcases wyB a with⟨f,a⟩|⟨f,a⟩
   ·obtain rfl:=si a
    exact tr fol [1,2,4,7] kA4 (ac (cv (jw c b)) (ac (gw e) (ac (cv (jw y d)) (ac (gw f) az))))
   obtain rfl:=si a
   exact tr fol [1,2,4,7] (kAa (decide (c<y))) (ac (cv (jw c b)) (ac (gw e) (ac (cv (jw y d)) (ac (gw f) az))))
  obtain rfl:=si a
  exact tr fol [1,2] (kAa (decide (c<y))) (ac (cv (jw c b)) (ac (gw e) az))
 refine Goes.ret ?_
 obtain rfl:=si h
 exact(gw2 [.bool g] (Ua tB))
def qE (b:List Int):Nat->Int->Option (Unit⊕Bool)
 |0,_=>none
 |K+1,a=>
  if a>0 then
  (idx b a).bind fun c=>
  (idx b (w64 (a-1))).bind fun d=>
  (cmp_Less_int c d).bind fun e=>
  if e=true then
  some (.inr false)
  else
  qE b K (w64 (a-1))
  else
  some (.inl ())
def slices_IsSorted_int (N:Nat) (a:List Int):Option Bool:=
 (qE a N (w64 ((a.length:Int)-1))).bind (fun
 |(.inl ())=>
 some true
 |(.inr b)=>
 some b)
theorem qag (N:Nat) (a:List Int) {res:Bool} (h:slices_IsSorted_int N a=some res):qb ZT (.fn 130) [vl encI a] [] (.bool res) []:=by
 unfold slices_IsSorted_int at h
 refine Ub Tryz.func130 rfl rfl (m:=21) rfl (rs:=[.tmp 2]) rfl (l:=(kH a [])) rfl ?_
 refine sh fol (kH a []) ?_
 refine sq ?_
 refine sh fol (kH a (kAy (w64 ((a.length:Int)-1)))) ?_
 refine Goes.block ?_
 obtain⟨f,g2,h⟩:=bnd h
 refine Goes.imp (Q:=fun x s'=>(x= .exit 0/\(.inl ())=f/\Sub s' (ofG 21 [],[]))\/(x= .ret/\ ∃g,(.inr g)=f/\jh ZT [.tmp 2] (.bool g) .ret s')) ?_ ?_
 ·refine Uc (fun M s=> ∃(b:Int),s=(ofG 21 (kH a (kAy b)),[])/\qE a M b=some f) ?_ (m:=N) ⟨_,rfl,g2⟩
  rintro M s ⟨b,rfl,g2⟩
  cases M with
  |zero=>simp only[qE]at g2;cases g2
  |succ M=>
   rw[qE]at g2
   refine sq ?_
   refine sh fol (kH a ((3,.i b)::(kAp (decide (b>0))))) ?_
   refine ihD g2 (fun j g2=>?_) (fun j g2=>?_)
   ·refine Goes.skip ?_
    refine sq (Goes.block ?_)
    obtain⟨k,c,g2⟩:=bnd g2
    obtain⟨n,d,g2⟩:=bnd g2
    obtain⟨o,e,g2⟩:=bnd g2
    refine sq (gr fol [2,3,7,8,9] (kH a [(3,.i b),(20,.bool o)]) (ac (iv xL encI c) (ac (lv 0 ce3 encI c rfl) (ac (iv xL encI d) (ac (lv 0 ce3 encI d rfl) (ac (cv (qb2 k n e)) az))))) ?_)
    refine ihB g2 (fun p g2=>?_) (fun p g2=>?_)
    ·refine sh fol [(2,.bool false)] ?_
     refine Goes.ret ?_
     obtain rfl:=si g2
     exact Or.inr (⟨rfl,_,rfl,(gw2 [.bool false] (Ua tB))⟩)
    refine Goes.skip ?_
    refine gh fol (kH a (kAy (w64 (b-1)))) ?_
    exact⟨M,(ofG 21 (kH a (kAy (w64 (b-1)))),[]),Nat.lt_succ_self _,(Sub.refl _),_,rfl,g2⟩
   refine Goes.exit ?_
   obtain rfl:=si g2
   exact Or.inl (⟨rfl,rfl,(Sub.keep [] rfl rfl)⟩)
 rintro x s' (⟨rfl,rfl,hsub⟩|⟨rfl,q,rfl,hret⟩)
 ·try dsimp only at h
  refine Goes.sub hsub ?_
  refine sh fol [(2,.bool true)] ?_
  refine Goes.ret ?_
  obtain rfl:=si h
  exact(gw2 [.bool true] (Ua tB))
 try dsimp only at h
 obtain rfl:=si h
 exact hret
def zZ (N:Nat) (p:List Int):Option Bool:=
 (slices_IsSorted_int N p).bind fun a=>
 some a
theorem qam (N:Nat) (p:List Int) {res:Bool} (h:zZ N p=some res):qb ZT (.fn 70) [vl encI p] [] (.bool res) []:=by
 unfold zZ at h
 refine Ub Tryz.func70 rfl rfl (m:=5) rfl (rs:=[.tmp 2]) rfl (l:=(kH p [])) rfl ?_
 refine sh fol (kH p []) ?_
 obtain⟨b,a,h⟩:=bnd h
 refine sq (gr fol [1] [(2,.bool b)] (ac (cv (qag N p a)) az) ?_)
 refine Goes.ret ?_
 obtain rfl:=si h
 exact(gw2 [.bool b] (Ua tB))
def qX (b:List Int) (c:List Int):Nat->Int->Option (Unit⊕Bool)
 |0,_=>none
 |K+1,a=>
  if a<(b.length:Int)then
  (idx b a).bind fun d=>
  (idx c a).bind fun e=>
  if(!decide (d=e))=true then
  some (.inr false)
  else
  qX b c K (w64 (a+1))
  else
  some (.inl ())
def slices_Equal_int (N:Nat) (a:List Int) (b:List Int):Option Bool:=
 if(!decide ((a.length:Int)=(b.length:Int)))=true then
 some false
 else
 (qX a b N 0).bind (fun
 |(.inl ())=>
 some true
 |(.inr c)=>
 some c)
theorem qaW (N:Nat) (a:List Int) (b:List Int) {res:Bool} (h:slices_Equal_int N a b=some res):qb ZT (.fn 71) (kAi a b) [] (.bool res) []:=by
 unfold slices_Equal_int at h
 refine Ub Tryz.func71 rfl rfl (m:=26) rfl (rs:=[.tmp 4]) rfl (l:=(kH a (kQ b []))) rfl ?_
 refine sh fol (kH a (kQ b [])) ?_
 refine sq ?_
 refine sh fol (kH a (kQ b (kAq (!decide ((a.length:Int)=(b.length:Int)))))) ?_
 refine ihB h (fun j h=>?_) (fun j h=>?_)
 ·refine sh fol kAA ?_
  refine Goes.ret ?_
  obtain rfl:=si h
  exact(gw2 [.bool false] (Ua tB))
 refine Goes.skip ?_
 refine sq ?_
 refine sh fol (kH a (kQ b [(12,.i (a.length:Int)),(13,.i 0)])) ?_
 refine Goes.block ?_
 obtain⟨f,g3,h⟩:=bnd h
 refine Goes.imp (Q:=fun x s'=>(x= .exit 0/\(.inl ())=f/\Sub s' (ofG 26 [],[]))\/(x= .ret/\ ∃g,(.inr g)=f/\jh ZT [.tmp 4] (.bool g) .ret s')) ?_ ?_
 ·refine Uc (fun M s=> ∃(c:Int),s=(ofG 26 (kH a (kQ b (kA0 (a.length:Int) c []))),[])/\qX a b M c=some f) ?_ (m:=N) ⟨_,rfl,g3⟩
  rintro M s ⟨c,rfl,g3⟩
  cases M with
  |zero=>simp only[qX]at g3;cases g3
  |succ M=>
   rw[qX]at g3
   refine sh fol (kH a (kQ b (kA0 (a.length:Int) c (kBL (decide (c<(a.length:Int))))))) ?_
   refine sq ?_
   refine ihD g3 (fun k g3=>?_) (fun k g3=>?_)
   ·refine Goes.skip ?_
    refine sq (Goes.block ?_)
    refine sh fol (kH a (kQ b ((5,.i c)::(kA0 (a.length:Int) c [])))) ?_
    obtain⟨n,d,g3⟩:=bnd g3
    obtain⟨o,e,g3⟩:=bnd g3
    refine sq (gr fol [2,3,6,7] (kH a (kQ b (kA0 (a.length:Int) c [(24,.bool (!decide (n=o)))]))) (ac (iv xL encI d) (ac (lv 0 ce3 encI d rfl) (ac (iv xL encI e) (ac (lv 0 ce3 encI e rfl) az)))) ?_)
    refine ihB g3 (fun p g3=>?_) (fun p g3=>?_)
    ·refine sh fol kAA ?_
     refine Goes.ret ?_
     obtain rfl:=si g3
     exact Or.inr (⟨rfl,_,rfl,(gw2 [.bool false] (Ua tB))⟩)
    refine Goes.skip ?_
    refine gh fol (kH a (kQ b (kA0 (a.length:Int) (w64 (c+1)) []))) ?_
    exact⟨M,(ofG 26 (kH a (kQ b (kA0 (a.length:Int) (w64 (c+1)) []))),[]),Nat.lt_succ_self _,(Sub.refl _),_,rfl,g3⟩
   refine Goes.exit ?_
   obtain rfl:=si g3
   exact Or.inl (⟨rfl,rfl,(Sub.keep [] rfl rfl)⟩)
 rintro x s' (⟨rfl,rfl,hsub⟩|⟨rfl,q,rfl,hret⟩)
 ·try dsimp only at h
  refine Goes.sub hsub ?_
  refine sh fol kA4 ?_
  refine Goes.ret ?_
  obtain rfl:=si h
  exact(gw2 [.bool true] (Ua tB))
 try dsimp only at h
 obtain rfl:=si h
 exact hret
def qy:Nat->(List Int)->Int->Int->Option (List Int)
 |0,_,_,_=>none
 |K+1,c,d,a=>
  if d<a then
  (idx c a).bind fun f=>
  (idx c d).bind fun g=>
  (put c d f).bind fun b=>
  (idx b a).bind fun h=>
  (put b a g).bind fun e=>
  qy K e (w64 (d+1)) (w64 (a-1))
  else
  some c
def zk (N:Nat) (a:List Int):Option (List Int):=
 (qy N a 0 (w64 ((a.length:Int)-1))).bind fun b=>
 some b
theorem xG (N:Nat) (b:List Int) {t:List Int} (h:zk N b=some t):qb ZT (.fn 132) [.slice 0 0 b.length b.length 1] (kA b) (.tuple []) (kA t):=by
 unfold zk at h
 refine Uq Tryz.func132 rfl rfl (m:=28) rfl (rs:=[]) rfl (l:=[(0,.slice 0 0 b.length b.length 1)]) rfl ?_
 intro B hB
 refine Goes.subQ ?_
 refine sh fol ((0,.slice 0 0 b.length b.length 1)::(2,.i 0)::(kAy (w64 ((b.length:Int)-1)))) ?_
 refine Goes.block ?_
 obtain⟨u,g6,h⟩:=bnd h
 refine Goes.imp (Q:=fun x s'=>(x= .exit 0/\ ∃p,p=u/\Sub s' (ofG 28 [],(kA p)))) ?_ ?_
 ·refine Uc (fun M s=> ∃(a:List Int) (d:Int) (e:Int),s=(ofG 28 (kAW a d e []),(kA a))/\qy M a d e=some u) ?_ (m:=N) ⟨_,_,_,rfl,g6⟩
  rintro M s ⟨a,d,e,rfl,g6⟩
  cases M with
  |zero=>simp only[qy]at g6;cases g6
  |succ M=>
   rw[qy]at g6
   refine sq ?_
   refine sh fol (kAW a d e [(9,.bool (decide (d<e)))]) ?_
   refine ihD g6 (fun v g6=>?_) (fun v g6=>?_)
   ·refine Goes.skip ?_
    refine sq (Goes.block ?_)
    obtain⟨q,g,g6⟩:=bnd g6
    obtain⟨r,f,g6⟩:=bnd g6
    obtain⟨n,j,g6⟩:=bnd g6
    obtain⟨w,o,g6⟩:=bnd g6
    obtain⟨c,k,g6⟩:=bnd g6
    refine gq fol [6,7,10,11,12,13,14,15] (kAW a d e []) (kA c) (ac (hs (.done (.opt (qc ZT 93 (.slice 0 0 a.length a.length 1) (.i e))) (.ptr 0 ((e:Int).toNat*1+0))) (qbV xL g)) (ac (hs (.run [0] (zF ZT 3 (.ptr 0 ((e:Int).toNat*1+0))) (kA a) (.i q) (kA a) false) (xI ce3 (E:=encI) (l:=a) rfl rfl g (nl rfl) rfl)) (ac (hs (.done (.opt (qc ZT 93 (.slice 0 0 a.length a.length 1) (.i d))) (.ptr 0 ((d:Int).toNat*1+0))) (qbV xL f)) (ac (hs (.run [0] (zF ZT 3 (.ptr 0 ((d:Int).toNat*1+0))) (kA a) (.i r) (kA a) false) (xI ce3 (E:=encI) (l:=a) rfl rfl f (nl rfl) rfl)) (ac (hs (.done (.opt (qc ZT 93 (.slice 0 0 a.length a.length 1) (.i d))) (.ptr 0 ((d:Int).toNat*1+0))) (qbV xL f)) (ac (hs (.run [0] (jy ZT 3 (.ptr 0 ((d:Int).toNat*1+0)) (.i q)) (kA a) .undef (kA n) true) (xc (E:=encI) (l:=a) (y:=q) rfl (show _=some 1 by kernel_rfl) rfl f rfl rfl rfl rfl rfl j rfl)) (ac (hs (.done (.opt (qc ZT 93 (.slice 0 0 a.length a.length 1) (.i e))) (.ptr 0 ((e:Int).toNat*1+0))) (qbV xL g)) (ac (hs (.run [0] (jy ZT 3 (.ptr 0 ((e:Int).toNat*1+0)) (.i r)) (kA n) .undef (kA c) true) (xc (E:=encI) (l:=n) (y:=r) rfl (show _=some 1 by kernel_rfl) rfl o rfl rfl rfl rfl rfl k rfl)) az)))))))) ?_
    refine Goes.sub (show Sub (ofG 28 (kAW a d e []),(kA c)) (ofG 28 (kAW c d e []),(kA c))from(Sub.norm [] [some 0] (by rw[hB];rfl) rfl (.keep (.sliceE rfl ((ve j).trans (ve k))) (.keep (.same nI) (.keep (.same nI) .nil))) (.ks .nil))) ?_
    refine gh fol (kAW c (w64 (d+1)) (w64 (e-1)) []) ?_
    exact⟨M,(ofG 28 (kAW c (w64 (d+1)) (w64 (e-1)) []),(kA c)),Nat.lt_succ_self _,(Sub.refl _),_,_,_,rfl,g6⟩
   refine Goes.exit ?_
   obtain rfl:=si g6
   exact⟨rfl,_,rfl,(Sub.keep [] rfl rfl)⟩
 rintro x s' ⟨rfl,p,rfl,hsub⟩
 obtain rfl:=si h
 exact⟨_,hsub,(gh2 [] (xY.refl _ _))⟩
def ym (N:Nat) (n:Int):Option (List Int):=
 (zM N n).bind fun a=>
 (zk N a).bind fun b=>
 ((if a.length=b.length then some ()else none:Option Unit)).bind fun c=>
 some b
theorem qaZ (N:Nat) (n:Int) {res:List Int} (h:ym N n=some res):qb ZT (.fn 72) [.i n] [] (vl encI res) []:=by
 unfold ym at h
 refine Ub Tryz.func72 rfl rfl (m:=9) rfl (rs:=[.tmp 2]) rfl (l:=(kBT n)) rfl ?_
 refine sh fol (kBT n) ?_
 obtain⟨a,c,h⟩:=bnd h
 refine sq (gq fol [1] (kK a []) (kA a) (ac (hs (.callH 131 [.i n] [] [] (.slice 0 0 a.length a.length 1) (kA a)) (xz [] [some 0] (yB N n c) .nil rfl rfl (.new rfl rfl (.same fa) rfl .nil) (rc (.same nI) rn) (.slice rfl) rfl)) az) ?_)
 obtain⟨b,d,h⟩:=bnd h
 obtain⟨f,e,h⟩:=bnd h
 refine sq (gq fol [1] (kK a []) (kA b) (ac (hs (.callH 132 [.slice 0 0 a.length a.length 1] (kA a) [0] (.tuple []) (kA b)) (xz [some 0] [some 0] (xG N a d) (.ks .nil) rfl rfl (.back rfl rfl (.same fa) rfl .nil) (rc (.slice rfl) rn) (.same (qg.tuple sn)) rfl)) az) ?_)
 refine Goes.sub (show Sub (ofG 9 (kK a []),(kA b)) (ofG 9 (kK b []),(kA b))from(Sub.norm [] [some 0] rfl rfl (.keep (.sliceE rfl (qdy e)) .nil) (.ks .nil))) ?_
 refine sh fol (kA5 b) ?_
 refine Goes.ret ?_
 obtain rfl:=si h
 exact(gw2 [.slice 0 0 b.length b.length 1] (Uw (Fz.sl (E:=encI) rfl rfl (nl rfl))))
end Go.Av
