/-
  Walks of functions: what each computes, as a plain function.
-/
import Derived.Test.YtkdbjocpkfeckaaGreatDoorQGenEr3
noncomputable section
namespace Go.Av
open Go.Proofs Go.RowKit
set_option linter.unusedSectionVars false
set_option linter.unusedVariables false
set_option linter.unusedSimpArgs false
set_option maxRecDepth 100000
def vX (a:List Int):Option Unit:=
 some ()
theorem qcU (a:List Int) (h:vX a=some ()):qb ZT (.fn 66) [vl encI a] [] (.func (.func 133) [] [.ptr 0 0]) (kC a []):=by
 unfold vX at h;refine Ug Tryz.func66 rfl rfl (m:=4) rfl (rs:=[.tmp 2]) rfl (l:=(kAP a [])) rfl ?_;intro B hB;refine sg fol [(1,.ptr 0 0)] (kC a []) ?_;refine sh fol [(2,.func (.func 133) [] [.ptr 0 0])] ?_;refine Goes.ret ?_;exact(gh2 [.func (.func 133) [] [.ptr 0 0]] (qbI.refl _ _))
def jg (N:Nat) (d:Int) (e:List Int) (f:Option (List qG)) (a:Str) (b:Int) (c:Int):Option ((List Int)×(List qG)):=
 (zK N d e (⟨a,b,c⟩:qG)).bind fun g=>
 ((match f with
 |none=>
 some ([(⟨a,b,c⟩:qG)]:List qG)
 |some h=>
 (app 32 h [(⟨a,b,c⟩:qG)]).bind fun i=>
 some i):Option (List qG)).bind fun j=>
 some (g.1,j)
theorem yO (N:Nat) (e:Int) (j:List Int) (g:Option (List qG)) (a:Str) (b:Int) (d:Int) {s:List Int} {r:List qG} (h:jg N e j g a b d=some (s,r)):qb ZT (.fn 67) (.ptr 0 0::(kAX a b d)) (kAO e j g (kI g [])) (.tuple []) (kAR e s r (kK r)):=by
 unfold jg at h;refine Ug Tryz.func67 rfl rfl (m:=30) rfl (rs:=[]) rfl (l:=(kAT (kA1 a b d))) rfl ?_;intro B hB;refine Ul ?_;refine sg fol (kAT kBI) (kAO e j g (kI g (kG a b d []))) ?_;obtain⟨k,n,h⟩:=bnd h;refine sq (gq fol [10] (kAT kBI) (kAO e k.1 g (kI g (kG a b d []))) (ac (cv (qcS N e j (⟨a,b,d⟩:qG) n)) az) ?_);obtain⟨t,f,h⟩:=bnd h;refine Goes.cutS (s':=(ofG 30 [],(kAR e k.1 t (kK t)))) ?_ ?_
 ·rcases g with _|o
  ·try dsimp only at f
   obtain rfl:=si f;exact vV.sub (vV.rg fol [] (.cells [.i e,vl encI k.1,.oslice 4 1 3]:: .cells ((hof (none:Option (List qG))).flatMap qO.c)::(kG a b d (kG a b d (kG a b d []))))) (Sub.norm [] [some 0,some 1,some 4] (by rw[hB];rfl) rfl .nil (.kb rfl (.cells (rc (.same nI) (rc (.same (qf encI _)) (rc ((jL.osliceE rfl rfl)) rn)))) (.lost (.ks .nil))))
  try dsimp only at f
  obtain⟨q,p,f⟩:=bnd f;obtain rfl:=si f;exact vV.sub (vV.rq fol [7] [] (kBN e k.1 q (kG a b d (kG a b d (kK q)))) (ac (hs (.run [1,3] (qaV ZT [23,23] (.oslice 1 o.length 3) (.slice 3 0 1 1 3)) (kX e k.1 o (.cells (o.flatMap qO.c)::(kG a b d (kG a b d [])))) (.oslice 4 q.length 3) (kX e k.1 o (.dead::(kG a b d (kG a b d (kK q))))) true) (qeS sl23 (E:=qO) rfl (qh6 (E:=qO) (ys:=[(⟨a,b,d⟩:qG)]) rfl rfl rfl rfl) (qtK (E:=qO) (l:=o) rfl rfl rfl p rfl))) az)) (Sub.norm [] [some 0,some 1,some 4] (by rw[hB];rfl) rfl .nil (.kb rfl (.cells (rc (.same nI) (rc (.same (qf encI _)) (rc (.oslice rfl) rn)))) (.lost (.ks .nil))))
 intro _ hsub;simp only[ZI,ZP]at h;obtain⟨rfl,rfl⟩:=h;exact⟨_,hsub,(gh2 [] (Sub.keep [0] rfl rfl))⟩
def qbf (N:Nat) (a:List Int) (b:List Int) (c:Int) (d:List Int) (e:Option (List qG)) (f:Int) (g:Int):Option ((List Int)×(List qG)):=
 (jg N c d e [105,110,115,101,114,116] (w64 ((w64 ((w64 ((a.length:Int)+(b.length:Int)))-1))-f)) (w64 (0-g))).bind fun(h,i)=>
 some (h,i)
theorem qf1 (N:Nat) (a:List Int) (b:List Int) (c:Int) (g:List Int) (f:Option (List qG)) (d:Int) (e:Int) {o:List Int} {n:List qG} (h:qbf N a b c g f d e=some (o,n)):qb ZT (.rd 0) [.i d,.i e] (.loop .ready none (ofG 89 [(4,.ptr 1 0),(5,.ptr 2 0),(9,.ptr 3 0)]) qP.xp qP.x1 qP.x2::(kC a (kC b (kAH (.cells [.i c,vl encI g,hsl 5 3 f]::(kI f [])))))) (.bool true) (.loop .ready none (ofG 89 [(4,.ptr 1 0),(5,.ptr 2 0),(9,.ptr 3 0)]) qP.xp qP.x1 qP.x2::(kC a (kC b (kAH (kBM c o n (kK n)))))):=by
 unfold qbf at h;refine Goes.round (m:=89) (l0:=(kAC [])) (l:=(kAC [(44,.i d),(45,.i e)])) rfl rfl rfl ?_;intro B hB;refine Ul ?_;refine sh fol (kAC [(10,.i d),(45,.i e)]) ?_;refine gh fol (kAC ((10,.i d)::(kBA e))) ?_;refine⟨_,Sub.refl _,?_⟩;refine⟨_,_,_,_,_,rfl,?_⟩;refine Ul ?_;refine Goes.block ?_;obtain⟨⟨p,k⟩,j,h⟩:=bnd h
 try dsimp only at h
 refine gq fol [12] [] (.loop .busy none (ofG 89 [(4,.ptr 1 0),(5,.ptr 2 0),(9,.ptr 3 0)]) qP.xp qP.x1 qP.x2::(kC a (kC b (kAH (kBM c p k (kK k)))))) (ac (hs (.callH 67 (.ptr 4 0::(kAu (w64 ((w64 ((w64 ((a.length:Int)+(b.length:Int)))-1))-d)) (w64 (0-e)))) (.loop .busy none (ofG 89 [(4,.ptr 1 0),(5,.ptr 2 0),(9,.ptr 3 0)]) qP.xp qP.x1 qP.x2::(kC a (kC b (kAH (.cells [.i c,vl encI g,hsl 5 3 f]::(kI f [])))))) [4,5] (.tuple []) (.loop .busy none (ofG 89 [(4,.ptr 1 0),(5,.ptr 2 0),(9,.ptr 3 0)]) qP.xp qP.x1 qP.x2::(kC a (kC b (kAH (kBM c p k (kK k))))))) (zG [some 4,some 5] [none,none,none,none,some 0,none,some 2] (yO N c g f [105,110,115,101,114,116] (w64 ((w64 ((w64 ((a.length:Int)+(b.length:Int)))-1))-d)) (w64 (0-e)) j) (.kb rfl (.cells (rc (.same nI) (rc (.same (qf encI _)) (rc (.hs rfl) rn)))) (.ks .nil)) rfl rfl (.old rfl rfl (.old rfl rfl (.old rfl rfl (.old rfl rfl (.back rfl rfl (.cells (rc (.same nI) (rc (.same (qf encI _)) (rc (.oslice rfl) rn)))) rfl (.dead (.new rfl rfl (.same fa) rfl .nil))))))) (rc (.ptr rfl) (rc (.same (qA.agg sn)) rn)) (.same (qA.tuple sn)) rfl)) az) ?_;simp only[ZI,ZP]at h;obtain⟨rfl,rfl⟩:=h;exact⟨_,Sub.refl _,⟨_,_,rfl,(Sub.keep [0] rfl rfl)⟩⟩
def qN (N:Nat) (a:List Int) (b:List Int) (c:Int) (d:List Int):Nat->(List Int)->(Option (List qG))->Int->Option ((List Int)×(Option (List qG)))
 |0,_,_,_=>none
 |K+1,i,j,e=>
  if e>=0 then
  (idx d e).bind fun f=>
  (qbf N a b c i j e f).bind fun(g,h)=>
  qN N a b c d K g (some h) (w64 (e-1))
  else
  some (i,j)
def j5 (N:Nat) (b:List Int) (c:List Int) (d:Int) (e:List Int) (a:List Int):Option ((List Int)×(Option (List qG))):=
 (qN N b c d a N e (none:Option (List qG)) (w64 ((a.length:Int)-1))).bind fun(f,g)=>
 some (f,g)
theorem qcb (N:Nat) (d:List Int) (e:List Int) (f:Int) (n:List Int) (a:List Int) {y:List Int} {v:Option (List qG)} (h:j5 N d e f n a=some (y,v)):qb ZT (.fn 133) [.yld 0,.ptr 6 0] (.loop .ready none (ofG 89 [(4,.ptr 1 0),(5,.ptr 2 0),(9,.ptr 3 0)]) qP.xp qP.x1 qP.x2::(kC d (kC e (kAH (.cells [.i f,.gslice 5 n.length 1,.nilslice]::(kA n (kC a []))))))) (.tuple []) (.loop .ready none (ofG 89 [(4,.ptr 1 0),(5,.ptr 2 0),(9,.ptr 3 0)]) qP.xp qP.x1 qP.x2::(kC d (kC e (kAH (.cells [.i f,vl encI y,hsl 7 3 v]:: .dead::(kC a (kI v []))))))):=by
 unfold j5 at h;refine Ug Tryz.func133 rfl rfl (m:=19) rfl (rs:=[]) rfl (l:=[(0,.yld 0),(1,.ptr 6 0)]) rfl ?_;intro B hB;refine Ul ?_;refine sh fol ((0,.yld 0)::(kBJ (w64 ((a.length:Int)-1)) [])) ?_;refine Goes.block ?_;obtain⟨z,g8,h⟩:=bnd h;refine Goes.imp (Q:=fun x s'=>(x= .exit 0/\ ∃w u,(w,u)=z/\Sub s' (ofG 19 [],(.loop .ready none (ofG 89 [(4,.ptr 1 0),(5,.ptr 2 0),(9,.ptr 3 0)]) qP.xp qP.x1 qP.x2::(kC d (kC e (kAH (.cells [.i f,vl encI w,hsl 7 3 u]:: .dead::(kC a (kI u [])))))))))) ?_ ?_
 ·refine Goes.sub (s':=(ofG 19 ((0,.yld 0)::(kBJ (w64 ((a.length:Int)-1)) [])),(.loop .ready none (ofG 89 [(4,.ptr 1 0),(5,.ptr 2 0),(9,.ptr 3 0)]) qP.xp qP.x1 qP.x2::(kC d (kC e (kAH (.cells [.i f,vl encI n,hsl 7 3 (none:Option (List qG))]:: .dead::(kC a [.cells ((hof (none:Option (List qG))).flatMap qO.c)])))))))) (Sub.norm [5] [some 0,some 1,some 2,some 3,some 4,some 5,some 6,none] (by rw[hB];rfl) rfl (.keep (.yld rfl) (.kp (.keep (.same nI) .nil))) (.kb rfl (.loop rfl (.kp (.kp (.kp .nil)))) (.kb rfl (.same sn) (.kb rfl (.same sn) (.kb rfl (.cells (rc (.ptr rfl) rn)) (.kb rfl (.cells (rc (.same nI) (rc (.frz (Fz.gs (E:=encI) rfl rfl (nl rfl)) (qf encI _)) (rc .hs0 rn)))) (.lost (.kb rfl (.same sn) (.fresh .nil))))))))) ?_;refine Ud (fun M s=> ∃(r:List Int) (o:Option (List qG)) (k:Int),s=(ofG 19 ((0,.yld 0)::(kBJ k [])),(.loop .ready none (ofG 89 [(4,.ptr 1 0),(5,.ptr 2 0),(9,.ptr 3 0)]) qP.xp qP.x1 qP.x2::(kC d (kC e (kAH (.cells [.i f,vl encI r,hsl 7 3 o]:: .dead::(kC a (kI o []))))))))/\qN N d e f a M r o k=some z) ?_ (m:=N) ⟨_,_,_,rfl,g8⟩;rintro M s ⟨r,o,k,rfl,g8⟩
  cases M with
  |zero=>simp only[qN]at g8;cases g8
  |succ M=>
   rw[qN]at g8;refine sq ?_;refine sh fol ((0,.yld 0)::(kBJ k [(8,.bool (decide (k>=0)))])) ?_;refine ihD g8 (fun A g8=>?_) (fun A g8=>?_)
   ·refine Goes.skip ?_;refine sq (Goes.block ?_);obtain⟨t,j,g8⟩:=bnd g8;obtain⟨⟨p,g⟩,q,g8⟩:=bnd g8
    try dsimp only at g8
    refine sq (gq fol [4,5,6] ((0,.yld 0)::(kBJ k [(18,.bool false)])) (.loop .ready none (ofG 89 [(4,.ptr 1 0),(5,.ptr 2 0),(9,.ptr 3 0)]) qP.xp qP.x1 qP.x2::(kC d (kC e (kAH (.cells [.i f,vl encI p,.oslice 8 g.length 3]:: .dead::(kC a (.dead::(kK g)))))))) (ac (iv vo encI j) (ac (lv 0 ce3 encI j rfl) (ac (hs (.callH (.rd 0) [.i k,.i t] (.loop .ready none (ofG 89 [(4,.ptr 1 0),(5,.ptr 2 0),(9,.ptr 3 0)]) qP.xp qP.x1 qP.x2::(kC d (kC e (kAH (.cells [.i f,vl encI r,hsl 7 3 o]:: .dead::(kC a (kI o []))))))) [0,1,2,3,4,7] (.bool true) (.loop .ready none (ofG 89 [(4,.ptr 1 0),(5,.ptr 2 0),(9,.ptr 3 0)]) qP.xp qP.x1 qP.x2::(kC d (kC e (kAH (.cells [.i f,vl encI p,.oslice 8 g.length 3]:: .dead::(kC a (.dead::(kK g))))))))) (qnu [some 0,some 1,some 2,some 3,some 4,some 7] [some 0,some 1,some 2,some 3,some 4,none,none,none,some 6] (qf1 N d e f r o k t q) rfl (.kb rfl (.loop rfl (.kp (.kp (.kp .nil)))) (.kb rfl (.cells (rc (.same (qf encI _)) rn)) (.kb rfl (.cells (rc (.same (qf encI _)) rn)) (.kb rfl (.cells (rc (.ptr rfl) rn)) (.kb rfl (.cells (rc (.same nI) (rc (.same (qf encI _)) (rc (.hs rfl) rn)))) (.ks .nil)))))) rfl rfl (.back rfl rfl (.loop rfl (.kp (.kp (.kp .nil)))) rfl (.back rfl rfl (.cells (rc (.same (qf encI _)) rn)) rfl (.back rfl rfl (.cells (rc (.same (qf encI _)) rn)) rfl (.back rfl rfl (.cells (rc (.ptr rfl) rn)) rfl (.back rfl rfl (.cells (rc (.same nI) (rc (.same (qf encI _)) (rc (.oslice rfl) rn)))) rfl (.old rfl rfl (.old rfl rfl (.dead (.new rfl rfl (.same fa) rfl .nil))))))))) (rc (.same nI) (rc (.same nI) rn)) (.same nB) rfl)) az))) ?_);refine U8 (b:=false) (by kernel_rfl) (fun c=>(by cases c)) (fun _=>?_);refine Goes.skip ?_;refine gh fol ((0,.yld 0)::(kBJ (w64 (k-1)) [])) ?_;exact⟨M,(ofG 19 ((0,.yld 0)::(kBJ (w64 (k-1)) [])),(.loop .ready none (ofG 89 [(4,.ptr 1 0),(5,.ptr 2 0),(9,.ptr 3 0)]) qP.xp qP.x1 qP.x2::(kC d (kC e (kAH (.cells [.i f,vl encI p,hsl 7 3 (some g)]:: .dead::(kC a (kI (some g) [])))))))),Nat.lt_succ_self _,(Sub.norm [] [some 0,some 1,some 2,some 3,some 4,some 5,some 6,some 8] (by rw[hB];rfl) rfl (.keep (.yld rfl) (.kp (.keep (.same nI) .nil))) (.kb rfl (.loop rfl (.kp (.kp (.kp .nil)))) (.kb rfl (.same sn) (.kb rfl (.same sn) (.kb rfl (.cells (rc (.ptr rfl) rn)) (.kb rfl (.cells (rc (.same nI) (rc (.same (qf encI _)) (rc ((jL.hs1 rfl)) rn)))) (.lost (.kb rfl (.same sn) (.ks .nil))))))))),_,_,_,rfl,g8⟩
   refine Goes.exit ?_;obtain rfl:=si g8;exact⟨rfl,_,_,rfl,(Sub.keep [] rfl rfl)⟩
 rintro x s' ⟨rfl,w,u,rfl,hsub⟩
 try dsimp only at h
 simp only[ZI,ZP]at h;obtain⟨rfl,rfl⟩:=h;exact⟨_,hsub,(gh2 [] (Sub.keep [0] rfl rfl))⟩
def qJ (a:List Int) (e:Int):Nat->Int->Option (Unit⊕(Int×Int×Bool))
 |0,_=>none
 |K+1,d=>
  if d>=0 then
  (idx a d).bind fun b=>
  (idx a e).bind fun c=>
  if b=(w64 (0-c))then
  some (.inr (d,e,true))
  else
  ((qQ b).bind fun f=>
  (qQ c).bind fun g=>
  if f=g then
  some true
  else
  (qQ b).bind fun h=>
  (qQ c).bind fun i=>
  some (decide (h=(w64 (i-1)))):Option Bool).bind fun j=>
  if j=true then
  some (.inl ())
  else
  qJ a e K (w64 (d-1))
  else
  some (.inl ())
def qI (N:Nat) (a:List Int) (b:Int):Nat->Int->Option (Unit⊕(Int×Int×Bool))
 |0,_=>none
 |K+1,c=>
  if c<b then
  (qJ a c N (w64 (c-1))).bind (fun
  |(.inl ())=>
  qI N a b K (w64 (c+1))
  |(.inr d)=>
  some (.inr d))
  else
  some (.inl ())
def jk (N:Nat) (d:Int) (a:List Int) (e:Option (List qG)) (b:Int):Option (Int×Int×Bool):=
 (qI N a b N 0).bind (fun
 |(.inl ())=>
 some (0,0,false)
 |(.inr c)=>
 some c)
theorem qc0 (N:Nat) (f:Int) (e:List Int) (b:Option (List qG)) (c:Int) {H:Int} {I:Int} {J:Bool} (h:jk N f e b c=some (H,I,J)):qb ZT (.fn 68) [.ptr 0 0,.i c] (kAO f e b (kI b [])) (.tuple [.i H,.i I,.bool J]) (kAO f e b (kI b [])):=by
 unfold jk at h;refine Ug Tryz.func68 rfl rfl (m:=57) rfl (rs:=[.tmp 4,.tmp 5,.tmp 6]) rfl (l:=(kAT (kBC c))) rfl ?_;intro B hB;refine sh fol (kAT (kBC c)) ?_;refine sq ?_;refine sh fol (kAT [(11,.i c),(12,.i 0)]) ?_;refine Goes.block ?_;obtain⟨y,g5,h⟩:=bnd h;refine Goes.imp (Q:=fun x s'=>(x= .exit 0/\(.inl ())=y/\Sub s' (ofG 57 [],(kAO f e b (kI b []))))\/(x= .ret/\ ∃w,(.inr w)=y/\qbZ ZT [.tmp 4,.tmp 5,.tmp 6] (.tuple [.i w.1,.i w.2.1,.bool w.2.2]) (kAO f e b (kI b [])) .ret s')) ?_ ?_
 ·refine Ud (fun M s=> ∃(d:Int),s=(ofG 57 (kAT (kAD c d [])),(kAO f e b (kI b [])))/\qI N e c M d=some y) ?_ (m:=N) ⟨_,rfl,g5⟩;rintro M s ⟨d,rfl,g5⟩
  cases M with
  |zero=>simp only[qI]at g5;cases g5
  |succ M=>
   rw[qI]at g5;refine sh fol (kAT (kAD c d [(13,.bool (decide (d<c)))])) ?_;refine sq ?_;refine ihD g5 (fun K g5=>?_) (fun K g5=>?_)
   ·refine Goes.skip ?_;refine sq (Goes.block ?_);refine sh fol (kAT ((7,.i d)::(kAD c d []))) ?_;refine Goes.scope ?_;refine sq (Goes.label ?_);refine sh fol (kS d (w64 (d-1)) (kAD c d [])) ?_;refine Goes.block ?_;obtain⟨z,g9,g5⟩:=bnd g5;refine Goes.imp (Q:=fun x s'=>(x= .exit 2/\(.inl ())=z/\Sub s' (ofG 57 (kAT (kAD c d [])),(kAO f e b (kI b []))))\/(x= .ret/\ ∃r,(.inr r)=z/\qbZ ZT [.tmp 4,.tmp 5,.tmp 6] (.tuple [.i r.1,.i r.2.1,.bool r.2.2]) (kAO f e b (kI b [])) .ret s')) ?_ ?_
    ·refine Ud (fun M s=> ∃(g:Int),s=(ofG 57 (kS d g (kAD c d [])),(kAO f e b (kI b [])))/\qJ e d M g=some z) ?_ (m:=N) ⟨_,rfl,g9⟩;rintro M s ⟨g,rfl,g9⟩
     cases M with
     |zero=>simp only[qJ]at g9;cases g9
     |succ M=>
      rw[qJ]at g9;refine sq ?_;refine sh fol (kS d g (kAD c d [(18,.bool (decide (g>=0)))])) ?_;refine ihD g9 (fun A g9=>?_) (fun A g9=>?_)
      ·refine Goes.skip ?_;refine sq (Goes.block ?_);obtain⟨j,n,g9⟩:=bnd g9;obtain⟨k,o,g9⟩:=bnd g9;refine sq (gr fol [5,6,12,13] (kS d g (kAi j k (kAD c d []))) (ac (iv vo encI n) (ac (lv 0 ce3 encI n rfl) (ac (iv vo encI o) (ac (lv 0 ce3 encI o rfl) az)))) ?_);refine Goes.block ?_;refine sh fol (kS d g (kAi j k (kAD c d [(35,.bool (decide (j=(w64 (0-k)))))]))) ?_;refine ihD g9 (fun C g9=>?_) (fun C g9=>?_)
       ·refine sh fol [(4,.i g),(5,.i d),(6,.bool true)] ?_;refine Goes.ret ?_;obtain rfl:=si g9;exact Or.inr (⟨rfl,_,rfl,(gh2 [.i g,.i d,.bool true] (qbI.refl _ _))⟩)
       refine sq ?_;obtain⟨D,a,g9⟩:=bnd g9;refine Goes.cut (s':=(ofG 57 (kS d g (kAD c d [(42,.bool D)])),(kAO f e b (kI b [])))) ?_ ?_
       ·obtain⟨L,p,a⟩:=bnd a;obtain⟨O,q,a⟩:=bnd a;rcases wyD a with⟨t,a⟩|⟨t,a⟩
        ·obtain rfl:=si a;exact tr fol [1,3,5] (kS d g (kAD c d [(42,.bool true)])) (ac (cv (qp j p)) (ac (cv (qp k q)) (ac (gw t) az)))
        obtain⟨E,u,a⟩:=bnd a;obtain⟨F,v,a⟩:=bnd a;obtain rfl:=si a;exact tr fol [1,3,5,7,9] (kS d g (kAD c d [(42,.bool (decide (E=(w64 (F-1)))))])) (ac (cv (qp j p)) (ac (cv (qp k q)) (ac (gw t) (ac (cv (qp j u)) (ac (cv (qp k v)) az)))))
       refine ihB g9 (fun G g9=>?_) (fun G g9=>?_)
       ·refine Goes.exit ?_;obtain rfl:=si g9;exact Or.inl (⟨rfl,rfl,(Sub.keep [0,11,12] rfl rfl)⟩)
       refine Goes.skip ?_;refine gh fol (kS d (w64 (g-1)) (kAD c d [])) ?_;exact⟨M,(ofG 57 (kS d (w64 (g-1)) (kAD c d [])),(kAO f e b (kI b []))),Nat.lt_succ_self _,(Sub.refl _),_,rfl,g9⟩
      refine Goes.exit ?_;obtain rfl:=si g9;exact Or.inl (⟨rfl,rfl,(Sub.keep [0,11,12] rfl rfl)⟩)
    rintro x s' (⟨rfl,rfl,hsub⟩|⟨rfl,P,rfl,hret⟩)
    ·try dsimp only at g5
     refine Goes.sub hsub ?_;refine gh fol (kAT (kAD c (w64 (d+1)) [])) ?_;exact⟨M,(ofG 57 (kAT (kAD c (w64 (d+1)) [])),(kAO f e b (kI b []))),Nat.lt_succ_self _,(Sub.refl _),_,rfl,g5⟩
    try dsimp only at g5
    obtain rfl:=si g5;exact Or.inr (⟨rfl,_,rfl,hret⟩)
   refine Goes.exit ?_;obtain rfl:=si g5;exact Or.inl (⟨rfl,rfl,(Sub.keep [] rfl rfl)⟩)
 rintro x s' (⟨rfl,rfl,hsub⟩|⟨rfl,U,rfl,hret⟩)
 ·try dsimp only at h
  refine Goes.sub hsub ?_;refine sh fol ((4,.i 0)::(5,.i 0)::kAh) ?_;refine Goes.ret ?_;simp only[ZI,ZP]at h;obtain⟨rfl,rfl,rfl⟩:=h;exact(gh2 [.i 0,.i 0,.bool false] (qbI.refl _ _))
 try dsimp only at h
 obtain rfl:=si h;exact hret
def yE (N:Nat) (d:Int) (e:List Int) (f:List qG) (a:Str) (b:Int) (c:Int):Option ((List Int)×(List qG)):=
 (zK N d e (⟨a,b,c⟩:qG)).bind fun g=>
 (app 32 f [(⟨a,b,c⟩:qG)]).bind fun h=>
 some (g.1,h)
theorem qd9 (N:Nat) (f:Int) (g:List Int) (e:List qG) (a:Str) (b:Int) (d:Int) {p:List Int} {o:List qG} (h:yE N f g e a b d=some (p,o)):qb ZT (.fn 67) (.ptr 0 0::(kAX a b d)) (kX f g e (kK e)) (.tuple []) (kAR f p o (kK o)):=by
 unfold yE at h;refine Ug Tryz.func67 rfl rfl (m:=30) rfl (rs:=[]) rfl (l:=(kAT (kA1 a b d))) rfl ?_;intro B hB;refine Ul ?_;refine sg fol (kAT kBI) (kX f g e (.cells (e.flatMap qO.c)::(kG a b d []))) ?_;obtain⟨k,i,h⟩:=bnd h;refine sq (gq fol [10] (kAT kBI) (kX f k.1 e (.cells (e.flatMap qO.c)::(kG a b d []))) (ac (cv (qcS N f g (⟨a,b,d⟩:qG) i)) az) ?_);obtain⟨n,j,h⟩:=bnd h;refine gq fol [7] [] (kBN f k.1 n (kG a b d (kG a b d (kK n)))) (ac (hs (.run [1,3] (qaV ZT [23,23] (.oslice 1 e.length 3) (.slice 3 0 1 1 3)) (kX f k.1 e (.cells (e.flatMap qO.c)::(kG a b d (kG a b d [])))) (.oslice 4 n.length 3) (kX f k.1 e (.dead::(kG a b d (kG a b d (kK n))))) true) (qeS sl23 (E:=qO) rfl (qh6 (E:=qO) (ys:=[(⟨a,b,d⟩:qG)]) rfl rfl rfl rfl) (qtK (E:=qO) (l:=e) rfl rfl rfl j rfl))) az) ?_;simp only[ZI,ZP]at h;obtain⟨rfl,rfl⟩:=h;exact⟨_,Sub.refl _,(gh2 [] (Sub.norm [] [some 0,some 1,some 4] (by rw[hB];rfl) rfl (.keep (.same (qA.tuple sn)) .nil) (.kb rfl (.cells (rc (.same nI) (rc (.same (qf encI _)) (rc (.oslice rfl) rn)))) (.lost (.ks .nil)))))⟩
def qR (N:Nat) (a:Int) (c:List Int) (f:Int):Nat->(List Int)->(Option (List qG))->Int->Option ((List Int)×(List qG)×Int)
 |0,_,_,_=>none
 |K+1,g,h,b=>
  (idx g (w64 (b+1))).bind fun d=>
  if d=(w64 (0-f))then
  (jg N a g h [99,97,110,99,101,108] b 0).bind fun(e,i)=>
  some (e,i,w64 ((e.length:Int)-(c.length:Int)))
  else
  (qQ f).bind fun j=>
  (qQ d).bind fun k=>
  (qQ (w64 (j-k))).bind fun l=>
  ((if l>=2 then
  (jg N a g h [115,119,97,112] b 0).bind fun(m,n)=>
  some (m,n,w64 (b+1))
  else
  (jg N a g h [105,110,115,101,114,116] (w64 (b+2)) (w64 (0-f))).bind fun(o,p)=>
  (yE N a o p [116,117,114,110] b 0).bind fun(q,r)=>
  some (q,r,w64 (b+3)):Option ((List Int)×(List qG)×Int))).bind fun(s,t,u)=>
  qR N a c f K s (some t) u
def yN (N:Nat) (c:Int) (a:List Int) (d:Option (List qG)) (b:Int) (f:Int):Option ((List Int)×(List qG)×Int):=
 (idx a b).bind fun g=>
 (qR N c a g N a d b).bind fun e=>
 some e
theorem qdg (N:Nat) (a:Int) (b:List Int) (k:Option (List qG)) (e:Int) (A:Int) {l1:List Int} {O:List qG} {n3:Int} (h:yN N a b k e A=some (l1,O,n3)):qb ZT (.fn 69) [.ptr 0 0,.i e,.i A] (kAO a b k (kI k [])) (.i n3) (kAR a l1 O (kK O)):=by
 unfold yN at h;refine Ug Tryz.func69 rfl rfl (m:=75) rfl (rs:=[.tmp 6]) rfl (l:=(kAT [(1,.i e),(2,.i A)])) rfl ?_;intro B hB;refine sh fol (kAT (kBC e)) ?_;refine sh fol (kAT [(1,.i e),(7,.i (b.length:Int))]) ?_;obtain⟨c,z,h⟩:=bnd h;refine sq (gr fol [5,6] (kAT ((1,.i e)::(7,.i (b.length:Int))::(kAp c))) (ac (iv vo encI z) (ac (lv 0 ce3 encI z rfl) az)) ?_);refine sh fol (kS (b.length:Int) c [(9,.i e)]) ?_;refine Goes.block ?_;obtain⟨r8,g8,h⟩:=bnd h;refine Goes.imp (Q:=fun x s'=>(x= .ret/\ ∃J,J=r8/\qbZ ZT [.tmp 6] (.i J.2.2) (kAR a J.1 J.2.1 (kK J.2.1)) .ret s')) ?_ ?_
 ·refine Goes.sub (s':=(ofG 75 (kS (b.length:Int) c [(9,.i e)]),(kAQ a b k (.dead::(kI k []))))) (Sub.norm [] [some 0,some 1,some 1] (by rw[hB];rfl) rfl (.kp (.keep (.same nI) (.keep (.same nI) (.keep (.same nI) .nil)))) (.kb rfl (.cells (rc (.same nI) (rc (.same (qf encI _)) (rc (.hs rfl) rn)))) (.lost (.ks .nil)))) ?_;refine Ud (fun M s=> ∃(o:List Int) (g:Option (List qG)) (d:Int),s=(ofG 75 (kS (b.length:Int) c [(9,.i d)]),(kAQ a o g (.dead::(kI g []))))/\qR N a b c M o g d=some r8) ?_ (m:=N) ⟨_,_,_,rfl,g8⟩;rintro M s ⟨o,g,d,rfl,g8⟩
  cases M with
  |zero=>simp only[qR]at g8;cases g8
  |succ M=>
   rw[qR]at g8;refine Goes.block ?_;obtain⟨p,n,g8⟩:=bnd g8;refine sq (gr fol [6,7] (kS (b.length:Int) c (kAi d p [])) (ac (iv vo encI n) (ac (lv 0 ce3 encI n rfl) az)) ?_);refine Goes.block ?_;refine sh fol (kS (b.length:Int) c (kAi d p [(45,.bool (decide (p=(w64 (0-c)))))])) ?_;refine ihD g8 (fun P g8=>?_) (fun P g8=>?_)
   ·obtain⟨⟨q,r⟩,C,g8⟩:=bnd g8
    try dsimp only at g8
    refine sq (gq fol [3] (kAT [(7,.i (b.length:Int))]) (kZ a q r (.dead::(kK r))) (ac (hs (.callH 67 [.ptr 0 0,.agg [.str [99,97,110,99,101,108],.i d,.i 0]] (kAQ a o g (.dead::(kI g []))) [0,2] (.tuple []) (kZ a q r (.dead::(kK r)))) (zG [some 0,some 2] [some 0,none,none,some 2] (yO N a o g [99,97,110,99,101,108] d 0 C) (.kb rfl (.cells (rc (.same nI) (rc (.same (qf encI _)) (rc (.hs rfl) rn)))) (.ks .nil)) rfl rfl (.back rfl rfl (.cells (rc (.same nI) (rc (.same (qf encI _)) (rc (.oslice rfl) rn)))) rfl (.old rfl rfl (.dead (.new rfl rfl (.same fa) rfl .nil)))) (rc (.ptr rfl) (rc (.same (qA.agg sn)) rn)) (.same (qA.tuple sn)) rfl)) az) ?_);refine sh fol [(6,.i (w64 ((q.length:Int)-(b.length:Int))))] ?_;refine Goes.ret ?_;obtain rfl:=si g8;exact⟨rfl,_,rfl,(gh2 [.i (w64 ((q.length:Int)-(b.length:Int)))] (Sub.norm [] [some 0,some 1,some 3] (by rw[hB];rfl) rfl (.keep (.same nI) .nil) (.kb rfl (.cells (rc (.same nI) (rc (.same (qf encI _)) (rc (.oslice rfl) rn)))) (.lost (.ks .nil)))))⟩
   obtain⟨U,D,g8⟩:=bnd g8;obtain⟨V,E,g8⟩:=bnd g8;obtain⟨X,F,g8⟩:=bnd g8;refine sq (gr fol [1,3,5] (kS (b.length:Int) c [(9,.i d),(61,.bool (decide (X>=2)))]) (ac (cv (qp c D)) (ac (cv (qp p E)) (ac (cv (qp (w64 (U-V)) F)) az))) ?_);obtain⟨Y,g21,g8⟩:=bnd g8;refine Goes.imp (Q:=fun x s'=>(x= .normal/\ ∃t j u,(t,j,u)=Y/\Sub s' (ofG 75 (kS (b.length:Int) c [(9,.i u)]),(kAR a t j (kK j))))) ?_ ?_
   ·refine ihD g21 (fun Z g21=>?_) (fun Z g21=>?_)
    ·obtain⟨⟨K,v⟩,G,g21⟩:=bnd g21
     try dsimp only at g21
     refine sq (gq fol [3] (kS (b.length:Int) c [(9,.i d)]) (kZ a K v (.dead::(kK v))) (ac (hs (.callH 67 [.ptr 0 0,.agg [.str [115,119,97,112],.i d,.i 0]] (kAQ a o g (.dead::(kI g []))) [0,2] (.tuple []) (kZ a K v (.dead::(kK v)))) (zG [some 0,some 2] [some 0,none,none,some 2] (yO N a o g [115,119,97,112] d 0 G) (.kb rfl (.cells (rc (.same nI) (rc (.same (qf encI _)) (rc (.hs rfl) rn)))) (.ks .nil)) rfl rfl (.back rfl rfl (.cells (rc (.same nI) (rc (.same (qf encI _)) (rc (.oslice rfl) rn)))) rfl (.old rfl rfl (.dead (.new rfl rfl (.same fa) rfl .nil)))) (rc (.ptr rfl) (rc (.same (qA.agg sn)) rn)) (.same (qA.tuple sn)) rfl)) az) ?_);refine gh fol (kS (b.length:Int) c [(9,.i (w64 (d+1)))]) ?_;obtain rfl:=si g21;exact⟨rfl,_,_,_,rfl,(Sub.norm [] [some 0,some 1,some 3] (by rw[hB];rfl) rfl (.kp (.keep (.same nI) (.keep (.same nI) (.keep (.same nI) .nil)))) (.kb rfl (.cells (rc (.same nI) (rc (.same (qf encI _)) (rc (.oslice rfl) rn)))) (.lost (.ks .nil))))⟩
    obtain⟨⟨w,f⟩,H,g21⟩:=bnd g21
    try dsimp only at g21
    refine sq (gq fol [6] (kS (b.length:Int) c [(9,.i d)]) (kZ a w f (.dead::(kK f))) (ac (hs (.callH 67 (.ptr 0 0::(kAu (w64 (d+2)) (w64 (0-c)))) (kAQ a o g (.dead::(kI g []))) [0,2] (.tuple []) (kZ a w f (.dead::(kK f)))) (zG [some 0,some 2] [some 0,none,none,some 2] (yO N a o g [105,110,115,101,114,116] (w64 (d+2)) (w64 (0-c)) H) (.kb rfl (.cells (rc (.same nI) (rc (.same (qf encI _)) (rc (.hs rfl) rn)))) (.ks .nil)) rfl rfl (.back rfl rfl (.cells (rc (.same nI) (rc (.same (qf encI _)) (rc (.oslice rfl) rn)))) rfl (.old rfl rfl (.dead (.new rfl rfl (.same fa) rfl .nil)))) (rc (.ptr rfl) (rc (.same (qA.agg sn)) rn)) (.same (qA.tuple sn)) rfl)) az) ?_);obtain⟨⟨L,y⟩,I,g21⟩:=bnd g21
    try dsimp only at g21
    refine sq (gq fol [3] (kS (b.length:Int) c [(9,.i d)]) (kBN a L y (.dead:: .dead::(kK y))) (ac (hs (.callH 67 [.ptr 0 0,.agg [.str [116,117,114,110],.i d,.i 0]] (kZ a w f (.dead::(kK f))) [0,3] (.tuple []) (kBN a L y (.dead:: .dead::(kK y)))) (zG [some 0,some 3] [some 0,none,none,none,some 2] (qd9 N a w f [116,117,114,110] d 0 I) (.kb rfl (.cells (rc (.same nI) (rc (.same (qf encI _)) (rc (.oslice rfl) rn)))) (.ks .nil)) rfl rfl (.back rfl rfl (.cells (rc (.same nI) (rc (.same (qf encI _)) (rc (.oslice rfl) rn)))) rfl (.old rfl rfl (.old rfl rfl (.dead (.new rfl rfl (.same fa) rfl .nil))))) (rc (.ptr rfl) (rc (.same (qA.agg sn)) rn)) (.same (qA.tuple sn)) rfl)) az) ?_);refine gh fol (kS (b.length:Int) c [(9,.i (w64 (d+3)))]) ?_;obtain rfl:=si g21;exact⟨rfl,_,_,_,rfl,(Sub.norm [] [some 0,some 1,some 4] (by rw[hB];rfl) rfl (.kp (.keep (.same nI) (.keep (.same nI) (.keep (.same nI) .nil)))) (.kb rfl (.cells (rc (.same nI) (rc (.same (qf encI _)) (rc (.oslice rfl) rn)))) (.lost (.ks .nil))))⟩
   rintro x s' ⟨rfl,t,j,u,rfl,hsub⟩
   try dsimp only at g8
   exact⟨M,(ofG 75 (kS (b.length:Int) c [(9,.i u)]),(kAQ a t (some j) (.dead::(kI (some j) [])))),Nat.lt_succ_self _,(hsub.trans (Sub.norm [] [some 0,some 1,some 2] (by rw[hB];rfl) rfl (.kp (.keep (.same nI) (.keep (.same nI) (.keep (.same nI) .nil)))) (.kb rfl (.cells (rc (.same nI) (rc (.same (qf encI _)) (rc ((jL.hs1 rfl)) rn)))) (.lost (.ks .nil))))),_,_,_,rfl,g8⟩
 rintro x s' ⟨rfl,q32,rfl,hret⟩;obtain rfl:=si h;exact hret
def zh (a:List Int) (e:Int):Nat->Int->Option (Unit⊕(Int×Int×Bool))
 |0,_=>none
 |K+1,d=>
  if d>=0 then
  (idx a d).bind fun b=>
  (idx a e).bind fun c=>
  if b=(w64 (0-c))then
  some (.inr (d,e,true))
  else
  ((qQ b).bind fun f=>
  (qQ c).bind fun g=>
  if f=g then
  some true
  else
  (qQ b).bind fun h=>
  (qQ c).bind fun i=>
  some (decide (h=(w64 (i-1)))):Option Bool).bind fun j=>
  if j=true then
  some (.inl ())
  else
  zh a e K (w64 (d-1))
  else
  some (.inl ())
def zi (N:Nat) (a:List Int) (b:Int):Nat->Int->Option (Unit⊕(Int×Int×Bool))
 |0,_=>none
 |K+1,c=>
  if c<b then
  (zh a c N (w64 (c-1))).bind (fun
  |(.inl ())=>
  zi N a b K (w64 (c+1))
  |(.inr d)=>
  some (.inr d))
  else
  some (.inl ())
def jO (N:Nat) (d:Int) (a:List Int) (e:List qG) (b:Int):Option (Int×Int×Bool):=
 (zi N a b N 0).bind (fun
 |(.inl ())=>
 some (0,0,false)
 |(.inr c)=>
 some c)
theorem qcV (N:Nat) (f:Int) (e:List Int) (b:List qG) (c:Int) {H:Int} {I:Int} {J:Bool} (h:jO N f e b c=some (H,I,J)):qb ZT (.fn 68) [.ptr 0 0,.i c] (kX f e b (kK b)) (.tuple [.i H,.i I,.bool J]) (kX f e b (kK b)):=by
 unfold jO at h;refine Ug Tryz.func68 rfl rfl (m:=57) rfl (rs:=[.tmp 4,.tmp 5,.tmp 6]) rfl (l:=(kAT (kBC c))) rfl ?_;intro B hB;refine sh fol (kAT (kBC c)) ?_;refine sq ?_;refine sh fol (kAT [(11,.i c),(12,.i 0)]) ?_;refine Goes.block ?_;obtain⟨y,g5,h⟩:=bnd h;refine Goes.imp (Q:=fun x s'=>(x= .exit 0/\(.inl ())=y/\Sub s' (ofG 57 [],(kX f e b (kK b))))\/(x= .ret/\ ∃w,(.inr w)=y/\qbZ ZT [.tmp 4,.tmp 5,.tmp 6] (.tuple [.i w.1,.i w.2.1,.bool w.2.2]) (kX f e b (kK b)) .ret s')) ?_ ?_
 ·refine Ud (fun M s=> ∃(d:Int),s=(ofG 57 (kAT (kAD c d [])),(kX f e b (kK b)))/\zi N e c M d=some y) ?_ (m:=N) ⟨_,rfl,g5⟩;rintro M s ⟨d,rfl,g5⟩
  cases M with
  |zero=>simp only[zi]at g5;cases g5
  |succ M=>
   rw[zi]at g5;refine sh fol (kAT (kAD c d [(13,.bool (decide (d<c)))])) ?_;refine sq ?_;refine ihD g5 (fun K g5=>?_) (fun K g5=>?_)
   ·refine Goes.skip ?_;refine sq (Goes.block ?_);refine sh fol (kAT ((7,.i d)::(kAD c d []))) ?_;refine Goes.scope ?_;refine sq (Goes.label ?_);refine sh fol (kS d (w64 (d-1)) (kAD c d [])) ?_;refine Goes.block ?_;obtain⟨z,g9,g5⟩:=bnd g5;refine Goes.imp (Q:=fun x s'=>(x= .exit 2/\(.inl ())=z/\Sub s' (ofG 57 (kAT (kAD c d [])),(kX f e b (kK b))))\/(x= .ret/\ ∃r,(.inr r)=z/\qbZ ZT [.tmp 4,.tmp 5,.tmp 6] (.tuple [.i r.1,.i r.2.1,.bool r.2.2]) (kX f e b (kK b)) .ret s')) ?_ ?_
    ·refine Ud (fun M s=> ∃(g:Int),s=(ofG 57 (kS d g (kAD c d [])),(kX f e b (kK b)))/\zh e d M g=some z) ?_ (m:=N) ⟨_,rfl,g9⟩;rintro M s ⟨g,rfl,g9⟩
     cases M with
     |zero=>simp only[zh]at g9;cases g9
     |succ M=>
      rw[zh]at g9;refine sq ?_;refine sh fol (kS d g (kAD c d [(18,.bool (decide (g>=0)))])) ?_;refine ihD g9 (fun A g9=>?_) (fun A g9=>?_)
      ·refine Goes.skip ?_;refine sq (Goes.block ?_);obtain⟨j,n,g9⟩:=bnd g9;obtain⟨k,o,g9⟩:=bnd g9;refine sq (gr fol [5,6,12,13] (kS d g (kAi j k (kAD c d []))) (ac (iv vo encI n) (ac (lv 0 ce3 encI n rfl) (ac (iv vo encI o) (ac (lv 0 ce3 encI o rfl) az)))) ?_);refine Goes.block ?_;refine sh fol (kS d g (kAi j k (kAD c d [(35,.bool (decide (j=(w64 (0-k)))))]))) ?_;refine ihD g9 (fun C g9=>?_) (fun C g9=>?_)
       ·refine sh fol [(4,.i g),(5,.i d),(6,.bool true)] ?_;refine Goes.ret ?_;obtain rfl:=si g9;exact Or.inr (⟨rfl,_,rfl,(gh2 [.i g,.i d,.bool true] (qbI.refl _ _))⟩)
       refine sq ?_;obtain⟨D,a,g9⟩:=bnd g9;refine Goes.cut (s':=(ofG 57 (kS d g (kAD c d [(42,.bool D)])),(kX f e b (kK b)))) ?_ ?_
       ·obtain⟨L,p,a⟩:=bnd a;obtain⟨O,q,a⟩:=bnd a;rcases wyD a with⟨t,a⟩|⟨t,a⟩
        ·obtain rfl:=si a;exact tr fol [1,3,5] (kS d g (kAD c d [(42,.bool true)])) (ac (cv (qp j p)) (ac (cv (qp k q)) (ac (gw t) az)))
        obtain⟨E,u,a⟩:=bnd a;obtain⟨F,v,a⟩:=bnd a;obtain rfl:=si a;exact tr fol [1,3,5,7,9] (kS d g (kAD c d [(42,.bool (decide (E=(w64 (F-1)))))])) (ac (cv (qp j p)) (ac (cv (qp k q)) (ac (gw t) (ac (cv (qp j u)) (ac (cv (qp k v)) az)))))
       refine ihB g9 (fun G g9=>?_) (fun G g9=>?_)
       ·refine Goes.exit ?_;obtain rfl:=si g9;exact Or.inl (⟨rfl,rfl,(Sub.keep [0,11,12] rfl rfl)⟩)
       refine Goes.skip ?_;refine gh fol (kS d (w64 (g-1)) (kAD c d [])) ?_;exact⟨M,(ofG 57 (kS d (w64 (g-1)) (kAD c d [])),(kX f e b (kK b))),Nat.lt_succ_self _,(Sub.refl _),_,rfl,g9⟩
      refine Goes.exit ?_;obtain rfl:=si g9;exact Or.inl (⟨rfl,rfl,(Sub.keep [0,11,12] rfl rfl)⟩)
    rintro x s' (⟨rfl,rfl,hsub⟩|⟨rfl,P,rfl,hret⟩)
    ·try dsimp only at g5
     refine Goes.sub hsub ?_;refine gh fol (kAT (kAD c (w64 (d+1)) [])) ?_;exact⟨M,(ofG 57 (kAT (kAD c (w64 (d+1)) [])),(kX f e b (kK b))),Nat.lt_succ_self _,(Sub.refl _),_,rfl,g5⟩
    try dsimp only at g5
    obtain rfl:=si g5;exact Or.inr (⟨rfl,_,rfl,hret⟩)
   refine Goes.exit ?_;obtain rfl:=si g5;exact Or.inl (⟨rfl,rfl,(Sub.keep [] rfl rfl)⟩)
 rintro x s' (⟨rfl,rfl,hsub⟩|⟨rfl,U,rfl,hret⟩)
 ·try dsimp only at h
  refine Goes.sub hsub ?_;refine sh fol ((4,.i 0)::(5,.i 0)::kAh) ?_;refine Goes.ret ?_;simp only[ZI,ZP]at h;obtain⟨rfl,rfl,rfl⟩:=h;exact(gh2 [.i 0,.i 0,.bool false] (qbI.refl _ _))
 try dsimp only at h
 obtain rfl:=si h;exact hret
def jQ (N:Nat) (n:Int):Nat->(List Int)->(Option (List qG))->Int->Int->Int->Bool->Option ((List Int)×(Option (List qG)))
 |0,_,_,_,_,_,_=>none
 |K+1,a,b,c,g,h,i=>
  if i=true then
  (yN N n a b g h).bind fun(d,e,f)=>
  (jO N n d e (w64 (c+f))).bind fun(j,k,l)=>
  jQ N n K d (some e) (w64 (c+f)) j k l
  else
  some (a,b)
def qau (N:Nat) (n:Int) (a:List Int) (b:List Int):Option ((List qG)×Int):=
 (jG N n a b).bind fun j=>
 (qx (decide ((w64 ((a.length:Int)+(b.length:Int)))>24)) 22).bind fun k=>
 (ky N ([j,k]:List Int)).bind fun i=>
 if(!decide (i=0))=true then
 some ([],i)
 else
 (jZ N n a b).bind fun l=>
 if(!l)=true then
 some ([],23)
 else
 (qdh a).bind fun _=>
 (vX b).bind fun _=>
 (j5 N a b n a b).bind fun(c,d)=>
 (jk N n c d (w64 ((a.length:Int)+(b.length:Int)))).bind fun(e,f,g)=>
 (jQ N n N c d (w64 ((a.length:Int)+(b.length:Int))) e f g).bind fun(m,h)=>
 some ((hof h),0)
theorem qiJ (N:Nat) (n:Int) (a:List Int) (b:List Int) {res:(List qG)×Int} (h:qau N n a b=some res):qb ZT (.fn 22) (.i n::(kAs a b)) [] (.tuple [vl qO res.1,.i res.2]) []:=by
 unfold qau at h;refine Ub Tryz.func22 rfl rfl (m:=89) rfl (rs:=[.tmp 6,.tmp 7]) rfl (l:=(kE n a (kAS b []))) rfl ?_;refine sg fol (kM n []) (kC a (kC b [])) ?_;refine sq ?_;obtain⟨g,K,h⟩:=bnd h;obtain⟨j,L,h⟩:=bnd h;obtain⟨J,O,h⟩:=bnd h;refine sq (gq fol [3,10,12] (kM n (kAp J)) (kC a (kC b (kW g j []))) (ac (cv (yx N n a b K)) (ac (cv (qh (decide ((w64 ((a.length:Int)+(b.length:Int)))>24)) 22 L)) (ac (hs (.call 62 [.slice 2 0 2 2 1] (kC a (kC b (kW g j []))) [2] [vl encI ([g,j]:List Int)] (.i J)) (vL (FzL.cons (Fz.lit rfl rfl (Uh (AllST.cons tI (AllST.cons tI AllST.nil)))) FzL.nil) (zm N ([g,j]:List Int) O) tI rfl)) az))) ?_);refine sh fol (kM n [(8,.i J),(30,.bool (!decide (J=0)))]) ?_;refine ihB h (fun c4 h=>?_) (fun c4 h=>?_)
 ·refine sh fol (kAw J) ?_;refine Goes.ret ?_;obtain rfl:=si h;exact(gw2 [.nilslice,.i J] (FzW.tuple (ql.cons (FzW.nilv (E:=qO)) (ql.cons (Ua tI) ql.nil))))
 refine Goes.skip ?_;refine sq ?_;obtain⟨r5,P,h⟩:=bnd h;refine sq (gr fol [3] (kM n [(36,.bool (!r5))]) (ac (cv (qcH N n a b P)) az) ?_);refine ihB h (fun c6 h=>?_) (fun c6 h=>?_)
 ·refine sh fol [(6,.nilslice),(7,.i 23)] ?_;refine Goes.ret ?_;obtain rfl:=si h;exact(gw2 [.nilslice,.i 23] (FzW.tuple (ql.cons (FzW.nilv (E:=qO)) (ql.cons (Ua tI) ql.nil))))
 refine Goes.skip ?_;obtain⟨_,U,h⟩:=bnd h;refine sq (gq fol [2] (kAY [(9,.ptr 5 0)]) (kC a (kC b (kW g j (kA a (kAx n a (kAH [])))))) (ac (hs (.callH 65 [vl encI a] (kC a (kC b (kW g j []))) [] (.gslice 3 a.length 1) (kC a (kC b (kW g j (kA a []))))) (zG [] [none,none,none,some 0] (qcB a U) .nil rfl rfl (.old rfl rfl (.old rfl rfl (.old rfl rfl (.new rfl rfl (.same fa) rfl .nil)))) (rc (.same (qf encI _)) rn) (.gslice rfl) rfl)) az) ?_);refine sq ?_;obtain⟨_,V,h⟩:=bnd h;refine sq (gq fol [1] (kAY [(9,.ptr 5 0),(43,.func (.func 133) [] [.ptr 6 0])]) (kC a (kC b (kW g j (kA a (kAx n a (kAH (kC b []))))))) (ac (hs (.callH 66 [vl encI b] (kC a (kC b (kW g j (kA a (kAx n a (kAH [])))))) [] (.func (.func 133) [] [.ptr 6 0]) (kC a (kC b (kW g j (kA a (kAx n a (kAH (kC b [])))))))) (zG [] [none,none,none,none,none,none,some 0] (qcU b V) .nil rfl rfl (.old rfl rfl (.old rfl rfl (.old rfl rfl (.old rfl rfl (.old rfl rfl (.old rfl rfl (.new rfl rfl (.cells (rc (.same (qf encI _)) rn)) rfl .nil))))))) (rc (.same (qf encI _)) rn) (.funcL (sn) (rc (.ptr rfl) rn)) rfl)) az) ?_);refine Goes.block ?_;obtain⟨⟨e,c⟩,X,h⟩:=bnd h
 try dsimp only at h
 refine Goes.range fol rfl (gf:=133) (first:=[]) (captured:=[.ptr 6 0]) (v:= .tuple []) (A2:=(kC a (kC b (kW g j (.dead:: .cells [.i n,vl encI e,hsl 8 3 c]::(kAH (kC b (.loop .ready none (ofG 89 [(4,.ptr 0 0),(5,.ptr 1 0),(9,.ptr 5 0)]) qP.xp qP.x1 qP.x2::(kI c []))))))))) (s':=(ofG 89 (kAY [(9,.ptr 5 0),(43,.func (.func 133) [] [.ptr 6 0])]),(kC a (kC b (kW g j (.dead:: .cells [.i n,vl encI e,hsl 8 3 c]::(kAH (kC b (.loop .exhausted none (ofG 89 [(4,.ptr 0 0),(5,.ptr 1 0),(9,.ptr 5 0)]) qP.xp qP.x1 qP.x2::(kI c [])))))))))) (x:= .normal) (by kernel_rfl) (by kernel_rfl) (qiG (show(Obl.callH 133 [.yld 7,.ptr 6 0] (kC a (kC b (kW g j (kA a (kAx n a (kAH (kC b [.loop .ready none (ofG 89 [(4,.ptr 0 0),(5,.ptr 1 0),(9,.ptr 5 0),(43,.func (.func 133) [] [.ptr 6 0])]) qP.xp qP.x1 qP.x2]))))))) [7,0,1,5,4,3,6] (.tuple []) (kC a (kC b (kW g j (.dead:: .cells [.i n,vl encI e,hsl 8 3 c]::(kAH (kC b (.loop .ready none (ofG 89 [(4,.ptr 0 0),(5,.ptr 1 0),(9,.ptr 5 0)]) qP.xp qP.x1 qP.x2::(kI c []))))))))).Holds ZT from zG [some 7,some 0,some 1,some 5,some 4,some 3,some 6] [some 1,some 2,none,none,some 4,some 3,some 6,some 0,some 7] (qcb N a b n a b X) (.kb rfl (.loop rfl (.kp (.kp (.kp (.drop .nil))))) (.kb rfl (.cells (rc (.same (qf encI _)) rn)) (.kb rfl (.cells (rc (.same (qf encI _)) rn)) (.kb rfl (.cells (rc (.ptr rfl) rn)) (.kb rfl (.cells (rc (.same nI) (rc (.gslice rfl) (rc (.same (qA.nilslice)) rn)))) (.ks (.kb rfl (.cells (rc (.same (qf encI _)) rn)) .nil))))))) rfl rfl (.back rfl rfl (.cells (rc (.same (qf encI _)) rn)) rfl (.back rfl rfl (.cells (rc (.same (qf encI _)) rn)) rfl (.old rfl rfl (.dead (.back rfl rfl (.cells (rc (.same nI) (rc (.same (qf encI _)) (rc (.hs rfl) rn)))) rfl (.back rfl rfl (.cells (rc (.ptr rfl) rn)) rfl (.back rfl rfl (.cells (rc (.same (qf encI _)) rn)) rfl (.back rfl rfl (.loop rfl (.kp (.kp (.kp .nil)))) rfl (.new rfl rfl (.same fa) rfl .nil))))))))) (rc (.yld rfl) (rc (.ptr rfl) rn)) (.same (qA.tuple sn)) rfl)) (by kernel_rfl) ?_;refine Goes.sub (show Sub (ofG 89 (kAY [(9,.ptr 5 0),(43,.func (.func 133) [] [.ptr 6 0])]),(kC a (kC b (kW g j (.dead:: .cells [.i n,vl encI e,hsl 8 3 c]::(kAH (kC b (.loop .exhausted none (ofG 89 [(4,.ptr 0 0),(5,.ptr 1 0),(9,.ptr 5 0)]) qP.xp qP.x1 qP.x2::(kI c []))))))))) (ofG 89 (kAY [(9,.ptr 2 0),(43,.func (.func 133) [] [.ptr 5 0])]),(kC a (kC b (.cells [.ptr 3 0]:: .cells [.i n,vl encI e,hsl 4 3 c]::(kI c (kC b []))))))from(Sub.norm [] [some 0,some 1,some 5,some 4,some 8,some 6] rfl rfl (.kp (.kp (.kp (.keep (.funcL (sn) (rc (.ptr rfl) rn)) .nil)))) (.kb rfl (.same sn) (.kb rfl (.same sn) (.kb rfl (.cells (rc (.ptr rfl) rn)) (.kb rfl (.cells (rc (.same nI) (rc (.same (qf encI _)) (rc (.hs rfl) rn)))) (.ks (.kb rfl (.same sn) .nil)))))))) ?_;refine sh fol [(9,.ptr 2 0),(12,.i (w64 ((a.length:Int)+(b.length:Int))))] ?_;refine sq ?_;obtain⟨⟨y,z,A⟩,B,h⟩:=bnd h
 try dsimp only at h
 refine sq (gr fol [2] ((9,.ptr 2 0)::(kAJ (w64 ((a.length:Int)+(b.length:Int))) y [(14,.i z),(15,.bool A)])) (ac (hs (.callH 68 [.ptr 3 0,.i (w64 ((a.length:Int)+(b.length:Int)))] (kC a (kC b (.cells [.ptr 3 0]:: .cells [.i n,vl encI e,hsl 4 3 c]::(kI c (kC b []))))) [3,4] (.tuple [.i y,.i z,.bool A]) (kC a (kC b (.cells [.ptr 3 0]:: .cells [.i n,vl encI e,hsl 4 3 c]::(kI c (kC b [])))))) (zG [some 3,some 4] [none,none,none,some 0,some 1,none] (qc0 N n e c (w64 ((a.length:Int)+(b.length:Int))) B) (.kb rfl (.cells (rc (.same nI) (rc (.same (qf encI _)) (rc (.hs rfl) rn)))) (.ks .nil)) rfl rfl (.old rfl rfl (.old rfl rfl (.old rfl rfl (.back rfl rfl (.cells (rc (.same nI) (rc (.same (qf encI _)) (rc (.hs rfl) rn)))) rfl (.back rfl rfl (.same fa) rfl (.old rfl rfl .nil)))))) (rc (.ptr rfl) (rc (.same nI) rn)) (.same (qA.tuple sn)) rfl)) az) ?_);refine Goes.block ?_;obtain⟨Y,g24,h⟩:=bnd h;refine Goes.imp (Q:=fun x s'=>(x= .exit 2/\ ∃C o,(C,o)=Y/\Sub s' (ofG 89 [(9,.ptr 0 0)],(kBE (kAQ n C o (kI o [])))))) ?_ ?_
 ·refine Goes.sub (s':=(ofG 89 ((9,.ptr 0 0)::(kAJ (w64 ((a.length:Int)+(b.length:Int))) y [(14,.i z),(15,.bool A)])),(kBE (kAQ n e c (kI c []))))) (Sub.norm [] [some 2,some 3,some 4] rfl rfl (.kp (.keep (.same nI) (.keep (.same nI) (.keep (.same nI) (.keep (.same nB) .nil))))) (.kb rfl (.cells (rc (.ptr rfl) rn)) (.kb rfl (.cells (rc (.same nI) (rc (.same (qf encI _)) (rc (.hs rfl) rn)))) (.ks .nil)))) ?_;refine Ud (fun M s=> ∃(u:List Int) (k:Option (List qG)) (f:Int) (p:Int) (q:Int) (w:Bool),s=(ofG 89 ((9,.ptr 0 0)::(kAJ f p [(14,.i q),(15,.bool w)])),(kBE (kAQ n u k (kI k []))))/\jQ N n M u k f p q w=some Y) ?_ (m:=N) ⟨_,_,_,_,_,_,rfl,g24⟩;rintro M s ⟨u,k,f,p,q,w,rfl,g24⟩
  cases M with
  |zero=>simp only[jQ]at g24;cases g24
  |succ M=>
   rw[jQ]at g24;refine sq ?_;refine sh fol ((9,.ptr 0 0)::(kAJ f p [(14,.i q),(71,.bool w)])) ?_;refine ihB g24 (fun Z g24=>?_) (fun Z g24=>?_)
   ·refine Goes.skip ?_;refine sq (Goes.block ?_);obtain⟨⟨r,d,t⟩,D,g24⟩:=bnd g24
    try dsimp only at g24
    refine gq fol [4] [(9,.ptr 0 0),(12,.i (w64 (f+t)))] (kBE (kZ n r d (kK d))) (ac (hs (.callH 69 [.ptr 1 0,.i p,.i q] (kBE (kAQ n u k (kI k []))) [1,2] (.i t) (kBE (kZ n r d (kK d)))) (zG [some 1,some 2] [none,some 0,none,some 2] (qdg N n u k p q D) (.kb rfl (.cells (rc (.same nI) (rc (.same (qf encI _)) (rc (.hs rfl) rn)))) (.ks .nil)) rfl rfl (.old rfl rfl (.back rfl rfl (.cells (rc (.same nI) (rc (.same (qf encI _)) (rc (.oslice rfl) rn)))) rfl (.dead (.new rfl rfl (.same fa) rfl .nil)))) (rc (.ptr rfl) (rc (.same nI) (rc (.same nI) rn))) (.same nI) rfl)) az) ?_;obtain⟨⟨F,G,H⟩,I,g24⟩:=bnd g24
    try dsimp only at g24
    refine gr fol [2] ((9,.ptr 0 0)::(kAJ (w64 (f+t)) F [(14,.i G),(15,.bool H)])) (ac (hs (.callH 68 [.ptr 1 0,.i (w64 (f+t))] (kBE (kZ n r d (kK d))) [1,3] (.tuple [.i F,.i G,.bool H]) (kBE (kZ n r d (kK d)))) (zG [some 1,some 3] [none,some 0,none,some 1] (qcV N n r d (w64 (f+t)) I) (.kb rfl (.cells (rc (.same nI) (rc (.same (qf encI _)) (rc (.oslice rfl) rn)))) (.ks .nil)) rfl rfl (.old rfl rfl (.back rfl rfl (.cells (rc (.same nI) (rc (.same (qf encI _)) (rc (.oslice rfl) rn)))) rfl (.old rfl rfl (.back rfl rfl (.same fa) rfl .nil)))) (rc (.ptr rfl) (rc (.same nI) rn)) (.same (qA.tuple sn)) rfl)) az) ?_;exact⟨M,(ofG 89 ((9,.ptr 0 0)::(kAJ (w64 (f+t)) F [(14,.i G),(15,.bool H)])),(kBE (kAQ n r (some d) (kI (some d) [])))),Nat.lt_succ_self _,(Sub.norm [] [some 0,some 1,some 3] rfl rfl (.kp (.keep (.same nI) (.keep (.same nI) (.keep (.same nI) (.keep (.same nB) .nil))))) (.kb rfl (.cells (rc (.ptr rfl) rn)) (.kb rfl (.cells (rc (.same nI) (rc (.same (qf encI _)) (rc ((jL.hs1 rfl)) rn)))) (.ks .nil)))),_,_,_,_,_,_,rfl,g24⟩
   refine Goes.exit ?_;obtain rfl:=si g24;exact⟨rfl,_,_,rfl,(Sub.keep [9] rfl rfl)⟩
 rintro x s' ⟨rfl,C,o,rfl,hsub⟩
 try dsimp only at h
 refine Goes.sub hsub ?_;refine sh fol ((6,hsl 2 3 o)::kBG) ?_;refine Goes.ret ?_;obtain rfl:=si h;exact(gw2 [hsl 2 3 o,.i 0] (FzW.tuple (ql.cons (FzW.hs (E:=qO) rfl rfl (nl rfl)) (ql.cons (Ua tI) ql.nil))))
def qZ (N:Nat) (n:Int) (a:List Int) (b:List Int):Nat->Int->Option (Unit⊕(Str×Int))
 |0,_=>none
 |K+1,c=>
  if c<5 then
  if c=0 then
  (zw N a b).bind fun d=>
  if d=true then
  some (.inr ([101,120,112,111,110,101,110,116],0))
  else
  qZ N n a b K (w64 (c+1))
  else
  if c=1 then
  (zt N n a b).bind fun e=>
  if e=true then
  some (.inr ([112,101,114,109],0))
  else
  qZ N n a b K (w64 (c+1))
  else
  if c=2 then
  (zo N n a b).bind fun f=>
  if f=true then
  some (.inr ([108,105,110,107],0))
  else
  qZ N n a b K (w64 (c+1))
  else
  if c=3 then
  (zu N n a b).bind fun g=>
  if g=true then
  some (.inr ([98,117,114,97,117],0))
  else
  qZ N n a b K (w64 (c+1))
  else
  if c=4 then
  (zL N n a b).bind fun h=>
  if h=true then
  some (.inr ([102,111,114,109],0))
  else
  qZ N n a b K (w64 (c+1))
  else
  none
  else
  some (.inl ())
def qbe (N:Nat) (n:Int) (a:List Int) (b:List Int):Option (Str×Int):=
 (jG N n a b).bind fun d=>
 if(!decide (d=0))=true then
 some ([],d)
 else
 (jW n a b).bind fun _=>
 (qZ N n a b N 0).bind (fun
 |(.inl ())=>
 some ([],7)
 |(.inr c)=>
 some c)
theorem qg6 (N:Nat) (n:Int) (a:List Int) (b:List Int) {res:Str×Int} (h:qbe N n a b=some res):qb ZT (.fn 23) (.i n::(kAs a b)) [] (.tuple [.str res.1,.i res.2]) []:=by
 unfold qbe at h;refine Ub Tryz.func23 rfl rfl (m:=33) rfl (rs:=[.tmp 6,.tmp 7]) rfl (l:=(kE n a (kAS b []))) rfl ?_;refine sh fol (kE n a (kAS b [])) ?_;refine sq ?_;obtain⟨k,o,h⟩:=bnd h;refine sq (gr fol [3] (kE n a (kAS b (kAp k))) (ac (cv (yx N n a b o)) az) ?_);refine sh fol (kE n a (kAS b [(8,.i k),(16,.bool (!decide (k=0)))])) ?_;refine ihB h (fun J h=>?_) (fun J h=>?_)
 ·refine sh fol [(6,.str []),(7,.i k)] ?_;refine Goes.ret ?_;obtain rfl:=si h;exact(gw2 [.str [],.i k] (FzW.tuple (ql.cons (Ua tS) (ql.cons (Ua tI) ql.nil))))
 refine Goes.skip ?_;refine sq ?_;obtain⟨_,p,h⟩:=bnd h;refine sq (gq fol [3] [(21,.slice 0 0 5 5 2),(22,.i 5),(23,.i 0)] (.cells [.str [101,120,112,111,110,101,110,116],.func (.func 121) [] [.ptr 1 0,.ptr 2 0],.str [112,101,114,109],.func (.func 122) [] [.ptr 3 0,.ptr 1 0,.ptr 2 0],.str [108,105,110,107],.func (.func 123) [] [.ptr 3 0,.ptr 1 0,.ptr 2 0],.str [98,117,114,97,117],.func (.func 125) [] [.ptr 3 0,.ptr 1 0,.ptr 2 0],.str [102,111,114,109],.func (.func 131) [] [.ptr 3 0,.ptr 1 0,.ptr 2 0]]::(kC a (kC b (kAB n [])))) (ac (hs (.callH 54 (.i n::(kAs a b)) [] [] (.slice 0 0 5 5 2) (.cells [.str [101,120,112,111,110,101,110,116],.func (.func 121) [] [.ptr 1 0,.ptr 2 0],.str [112,101,114,109],.func (.func 122) [] [.ptr 3 0,.ptr 1 0,.ptr 2 0],.str [108,105,110,107],.func (.func 123) [] [.ptr 3 0,.ptr 1 0,.ptr 2 0],.str [98,117,114,97,117],.func (.func 125) [] [.ptr 3 0,.ptr 1 0,.ptr 2 0],.str [102,111,114,109],.func (.func 131) [] [.ptr 3 0,.ptr 1 0,.ptr 2 0]]::(kC a (kC b (kAB n []))))) (zG [] [some 0,some 1,some 2,some 3] (qbd n a b p) .nil rfl rfl (.new rfl rfl (.cells (rc (.same nS) (rc (.funcL (sn) (rc (.ptr rfl) (rc (.ptr rfl) rn))) (rc (.same nS) (rc (.funcL (sn) (rc (.ptr rfl) (rc (.ptr rfl) (rc (.ptr rfl) rn)))) (rc (.same nS) (rc (.funcL (sn) (rc (.ptr rfl) (rc (.ptr rfl) (rc (.ptr rfl) rn)))) (rc (.same nS) (rc (.funcL (sn) (rc (.ptr rfl) (rc (.ptr rfl) (rc (.ptr rfl) rn)))) (rc (.same nS) (rc (.funcL (sn) (rc (.ptr rfl) (rc (.ptr rfl) (rc (.ptr rfl) rn)))) rn))))))))))) rfl (.new rfl rfl (.cells (rc (.same (qf encI _)) rn)) rfl (.new rfl rfl (.cells (rc (.same (qf encI _)) rn)) rfl (.new rfl rfl (.cells (rc (.same nI) rn)) rfl .nil)))) (rc (.same nI) (rc (.same (qf encI _)) (rc (.same (qf encI _)) rn))) (.slice rfl) rfl)) az) ?_);refine Goes.block ?_;obtain⟨A,g5,h⟩:=bnd h;refine Goes.imp (Q:=fun x s'=>(x= .exit 0/\(.inl ())=A/\Sub s' (ofG 33 [],[]))\/(x= .ret/\ ∃B,(.inr B)=A/\jM ZT [.tmp 6,.tmp 7] (.tuple [.str B.1,.i B.2]) .ret s')) ?_ ?_
 ·refine Ud (fun M s=> ∃(c:Int),s=(ofG 33 (kQ c []),(.cells [.str [101,120,112,111,110,101,110,116],.func (.func 121) [] [.ptr 1 0,.ptr 2 0],.str [112,101,114,109],.func (.func 122) [] [.ptr 3 0,.ptr 1 0,.ptr 2 0],.str [108,105,110,107],.func (.func 123) [] [.ptr 3 0,.ptr 1 0,.ptr 2 0],.str [98,117,114,97,117],.func (.func 125) [] [.ptr 3 0,.ptr 1 0,.ptr 2 0],.str [102,111,114,109],.func (.func 131) [] [.ptr 3 0,.ptr 1 0,.ptr 2 0]]::(kC a (kC b (kAB n [])))))/\qZ N n a b M c=some A) ?_ (m:=N) ⟨_,rfl,g5⟩;rintro M s ⟨c,rfl,g5⟩
  cases M with
  |zero=>simp only[qZ]at g5;cases g5
  |succ M=>
   rw[qZ]at g5;refine sh fol (kQ c [(24,.bool (decide (c<5)))]) ?_;refine sq ?_;refine ihD g5 (fun K g5=>?_) (fun K g5=>?_)
   ·refine Goes.skip ?_;refine sq (Goes.block ?_);refine sq ?_;rcases wyD g5 with⟨H,g5⟩|⟨H,g5⟩
    ·refine gq fol [0] ((10,.ptr 4 0)::(kQ c [])) (.cells [.str [101,120,112,111,110,101,110,116],.func (.func 121) [] [.ptr 1 0,.ptr 2 0],.str [112,101,114,109],.func (.func 122) [] [.ptr 3 0,.ptr 1 0,.ptr 2 0],.str [108,105,110,107],.func (.func 123) [] [.ptr 3 0,.ptr 1 0,.ptr 2 0],.str [98,117,114,97,117],.func (.func 125) [] [.ptr 3 0,.ptr 1 0,.ptr 2 0],.str [102,111,114,109],.func (.func 131) [] [.ptr 3 0,.ptr 1 0,.ptr 2 0]]::(kC a (kC b (kAB n [.cells [.str [101,120,112,111,110,101,110,116],.func (.func 121) [] [.ptr 1 0,.ptr 2 0]]])))) (ac (hs (.done (.opt (qd ZT 89 (.slice 0 0 5 5 2) (.i c))) (.ptr 0 0)) (ixA (ot H) (by kernel_rfl))) az) ?_;obtain⟨q,d,g5⟩:=bnd g5;refine sq (gr fol [2] ((10,.ptr 4 0)::(kQ c [(29,.bool q)])) (ac (hs (.call 121 [.ptr 1 0,.ptr 2 0] (.cells [.str [101,120,112,111,110,101,110,116],.func (.func 121) [] [.ptr 1 0,.ptr 2 0],.str [112,101,114,109],.func (.func 122) [] [.ptr 3 0,.ptr 1 0,.ptr 2 0],.str [108,105,110,107],.func (.func 123) [] [.ptr 3 0,.ptr 1 0,.ptr 2 0],.str [98,117,114,97,117],.func (.func 125) [] [.ptr 3 0,.ptr 1 0,.ptr 2 0],.str [102,111,114,109],.func (.func 131) [] [.ptr 3 0,.ptr 1 0,.ptr 2 0]]::(kC a (kC b (kAB n [.cells [.str [101,120,112,111,110,101,110,116],.func (.func 121) [] [.ptr 1 0,.ptr 2 0]]])))) [1,2] [.fptr [vl encI a] 0,.fptr [vl encI b] 0] (.bool q)) (vL (FzL.cons (Fz.ptr rfl rfl (FzL.cons (Uc (qy encI _ (nl rfl))) FzL.nil)) (FzL.cons (Fz.ptr rfl rfl (FzL.cons (Uc (qy encI _ (nl rfl))) FzL.nil)) FzL.nil)) (qaI N a b d) tB rfl)) az) ?_);refine ihB g5 (fun C g5=>?_) (fun C g5=>?_)
     ·refine sh fol ((6,.str [101,120,112,111,110,101,110,116])::kBG) ?_;refine Goes.ret ?_;obtain rfl:=si g5;exact Or.inr (⟨rfl,_,rfl,(gw2 [.str [101,120,112,111,110,101,110,116],.i 0] (FzW.tuple (ql.cons (Ua tS) (ql.cons (Ua tI) ql.nil))))⟩)
     refine Goes.skip ?_;refine gh fol (kQ (w64 (c+1)) []) ?_;exact⟨M,(ofG 33 (kQ (w64 (c+1)) []),(.cells [.str [101,120,112,111,110,101,110,116],.func (.func 121) [] [.ptr 1 0,.ptr 2 0],.str [112,101,114,109],.func (.func 122) [] [.ptr 3 0,.ptr 1 0,.ptr 2 0],.str [108,105,110,107],.func (.func 123) [] [.ptr 3 0,.ptr 1 0,.ptr 2 0],.str [98,117,114,97,117],.func (.func 125) [] [.ptr 3 0,.ptr 1 0,.ptr 2 0],.str [102,111,114,109],.func (.func 131) [] [.ptr 3 0,.ptr 1 0,.ptr 2 0]]::(kC a (kC b (kAB n []))))),Nat.lt_succ_self _,(Sub.norm [] [some 0,some 1,some 2,some 3] rfl rfl (.keep (.slice rfl) (.keep (.same nI) (.keep (.same nI) .nil))) (.kb rfl (.cells (rc (.same nS) (rc (.funcL (sn) (rc (.ptr rfl) (rc (.ptr rfl) rn))) (rc (.same nS) (rc (.funcL (sn) (rc (.ptr rfl) (rc (.ptr rfl) (rc (.ptr rfl) rn)))) (rc (.same nS) (rc (.funcL (sn) (rc (.ptr rfl) (rc (.ptr rfl) (rc (.ptr rfl) rn)))) (rc (.same nS) (rc (.funcL (sn) (rc (.ptr rfl) (rc (.ptr rfl) (rc (.ptr rfl) rn)))) (rc (.same nS) (rc (.funcL (sn) (rc (.ptr rfl) (rc (.ptr rfl) (rc (.ptr rfl) rn)))) rn))))))))))) (.kb rfl (.same sn) (.kb rfl (.same sn) (.kb rfl (.same sn) .nil))))),_,rfl,g5⟩
    rcases wyD g5 with⟨I,g5⟩|⟨I,g5⟩
    ·refine gq fol [0] ((10,.ptr 4 0)::(kQ c [])) (.cells [.str [101,120,112,111,110,101,110,116],.func (.func 121) [] [.ptr 1 0,.ptr 2 0],.str [112,101,114,109],.func (.func 122) [] [.ptr 3 0,.ptr 1 0,.ptr 2 0],.str [108,105,110,107],.func (.func 123) [] [.ptr 3 0,.ptr 1 0,.ptr 2 0],.str [98,117,114,97,117],.func (.func 125) [] [.ptr 3 0,.ptr 1 0,.ptr 2 0],.str [102,111,114,109],.func (.func 131) [] [.ptr 3 0,.ptr 1 0,.ptr 2 0]]::(kC a (kC b (kAB n [.cells [.str [112,101,114,109],.func (.func 122) [] [.ptr 3 0,.ptr 1 0,.ptr 2 0]]])))) (ac (hs (.done (.opt (qd ZT 89 (.slice 0 0 5 5 2) (.i c))) (.ptr 0 2)) (ixA (ot I) (by kernel_rfl))) az) ?_;obtain⟨r,e,g5⟩:=bnd g5;refine sq (gr fol [2] ((10,.ptr 4 0)::(kQ c [(29,.bool r)])) (ac (hs (.call 122 kBF (.cells [.str [101,120,112,111,110,101,110,116],.func (.func 121) [] [.ptr 1 0,.ptr 2 0],.str [112,101,114,109],.func (.func 122) [] [.ptr 3 0,.ptr 1 0,.ptr 2 0],.str [108,105,110,107],.func (.func 123) [] [.ptr 3 0,.ptr 1 0,.ptr 2 0],.str [98,117,114,97,117],.func (.func 125) [] [.ptr 3 0,.ptr 1 0,.ptr 2 0],.str [102,111,114,109],.func (.func 131) [] [.ptr 3 0,.ptr 1 0,.ptr 2 0]]::(kC a (kC b (kAB n [.cells [.str [112,101,114,109],.func (.func 122) [] [.ptr 3 0,.ptr 1 0,.ptr 2 0]]])))) [1,2,3] [.fptr [.i n] 0,.fptr [vl encI a] 0,.fptr [vl encI b] 0] (.bool r)) (vL (FzL.cons (Fz.ptr rfl rfl (FzL.cons (Uc tI) FzL.nil)) (FzL.cons (Fz.ptr rfl rfl (FzL.cons (Uc (qy encI _ (nl rfl))) FzL.nil)) (FzL.cons (Fz.ptr rfl rfl (FzL.cons (Uc (qy encI _ (nl rfl))) FzL.nil)) FzL.nil))) (qaG N n a b e) tB rfl)) az) ?_);refine ihB g5 (fun D g5=>?_) (fun D g5=>?_)
     ·refine sh fol ((6,.str [112,101,114,109])::kBG) ?_;refine Goes.ret ?_;obtain rfl:=si g5;exact Or.inr (⟨rfl,_,rfl,(gw2 [.str [112,101,114,109],.i 0] (FzW.tuple (ql.cons (Ua tS) (ql.cons (Ua tI) ql.nil))))⟩)
     refine Goes.skip ?_;refine gh fol (kQ (w64 (c+1)) []) ?_;exact⟨M,(ofG 33 (kQ (w64 (c+1)) []),(.cells [.str [101,120,112,111,110,101,110,116],.func (.func 121) [] [.ptr 1 0,.ptr 2 0],.str [112,101,114,109],.func (.func 122) [] [.ptr 3 0,.ptr 1 0,.ptr 2 0],.str [108,105,110,107],.func (.func 123) [] [.ptr 3 0,.ptr 1 0,.ptr 2 0],.str [98,117,114,97,117],.func (.func 125) [] [.ptr 3 0,.ptr 1 0,.ptr 2 0],.str [102,111,114,109],.func (.func 131) [] [.ptr 3 0,.ptr 1 0,.ptr 2 0]]::(kC a (kC b (kAB n []))))),Nat.lt_succ_self _,(Sub.norm [] [some 0,some 1,some 2,some 3] rfl rfl (.keep (.slice rfl) (.keep (.same nI) (.keep (.same nI) .nil))) (.kb rfl (.cells (rc (.same nS) (rc (.funcL (sn) (rc (.ptr rfl) (rc (.ptr rfl) rn))) (rc (.same nS) (rc (.funcL (sn) (rc (.ptr rfl) (rc (.ptr rfl) (rc (.ptr rfl) rn)))) (rc (.same nS) (rc (.funcL (sn) (rc (.ptr rfl) (rc (.ptr rfl) (rc (.ptr rfl) rn)))) (rc (.same nS) (rc (.funcL (sn) (rc (.ptr rfl) (rc (.ptr rfl) (rc (.ptr rfl) rn)))) (rc (.same nS) (rc (.funcL (sn) (rc (.ptr rfl) (rc (.ptr rfl) (rc (.ptr rfl) rn)))) rn))))))))))) (.kb rfl (.same sn) (.kb rfl (.same sn) (.kb rfl (.same sn) .nil))))),_,rfl,g5⟩
    rcases wyD g5 with⟨t,g5⟩|⟨t,g5⟩
    ·refine gq fol [0] ((10,.ptr 4 0)::(kQ c [])) (.cells [.str [101,120,112,111,110,101,110,116],.func (.func 121) [] [.ptr 1 0,.ptr 2 0],.str [112,101,114,109],.func (.func 122) [] [.ptr 3 0,.ptr 1 0,.ptr 2 0],.str [108,105,110,107],.func (.func 123) [] [.ptr 3 0,.ptr 1 0,.ptr 2 0],.str [98,117,114,97,117],.func (.func 125) [] [.ptr 3 0,.ptr 1 0,.ptr 2 0],.str [102,111,114,109],.func (.func 131) [] [.ptr 3 0,.ptr 1 0,.ptr 2 0]]::(kC a (kC b (kAB n [.cells [.str [108,105,110,107],.func (.func 123) [] [.ptr 3 0,.ptr 1 0,.ptr 2 0]]])))) (ac (hs (.done (.opt (qd ZT 89 (.slice 0 0 5 5 2) (.i c))) (.ptr 0 4)) (ixA (ot t) (by kernel_rfl))) az) ?_;obtain⟨u,f,g5⟩:=bnd g5;refine sq (gr fol [2] ((10,.ptr 4 0)::(kQ c [(29,.bool u)])) (ac (hs (.call 123 kBF (.cells [.str [101,120,112,111,110,101,110,116],.func (.func 121) [] [.ptr 1 0,.ptr 2 0],.str [112,101,114,109],.func (.func 122) [] [.ptr 3 0,.ptr 1 0,.ptr 2 0],.str [108,105,110,107],.func (.func 123) [] [.ptr 3 0,.ptr 1 0,.ptr 2 0],.str [98,117,114,97,117],.func (.func 125) [] [.ptr 3 0,.ptr 1 0,.ptr 2 0],.str [102,111,114,109],.func (.func 131) [] [.ptr 3 0,.ptr 1 0,.ptr 2 0]]::(kC a (kC b (kAB n [.cells [.str [108,105,110,107],.func (.func 123) [] [.ptr 3 0,.ptr 1 0,.ptr 2 0]]])))) [1,2,3] [.fptr [.i n] 0,.fptr [vl encI a] 0,.fptr [vl encI b] 0] (.bool u)) (vL (FzL.cons (Fz.ptr rfl rfl (FzL.cons (Uc tI) FzL.nil)) (FzL.cons (Fz.ptr rfl rfl (FzL.cons (Uc (qy encI _ (nl rfl))) FzL.nil)) (FzL.cons (Fz.ptr rfl rfl (FzL.cons (Uc (qy encI _ (nl rfl))) FzL.nil)) FzL.nil))) (qaF N n a b f) tB rfl)) az) ?_);refine ihB g5 (fun E g5=>?_) (fun E g5=>?_)
     ·refine sh fol ((6,.str [108,105,110,107])::kBG) ?_;refine Goes.ret ?_;obtain rfl:=si g5;exact Or.inr (⟨rfl,_,rfl,(gw2 [.str [108,105,110,107],.i 0] (FzW.tuple (ql.cons (Ua tS) (ql.cons (Ua tI) ql.nil))))⟩)
     refine Goes.skip ?_;refine gh fol (kQ (w64 (c+1)) []) ?_;exact⟨M,(ofG 33 (kQ (w64 (c+1)) []),(.cells [.str [101,120,112,111,110,101,110,116],.func (.func 121) [] [.ptr 1 0,.ptr 2 0],.str [112,101,114,109],.func (.func 122) [] [.ptr 3 0,.ptr 1 0,.ptr 2 0],.str [108,105,110,107],.func (.func 123) [] [.ptr 3 0,.ptr 1 0,.ptr 2 0],.str [98,117,114,97,117],.func (.func 125) [] [.ptr 3 0,.ptr 1 0,.ptr 2 0],.str [102,111,114,109],.func (.func 131) [] [.ptr 3 0,.ptr 1 0,.ptr 2 0]]::(kC a (kC b (kAB n []))))),Nat.lt_succ_self _,(Sub.norm [] [some 0,some 1,some 2,some 3] rfl rfl (.keep (.slice rfl) (.keep (.same nI) (.keep (.same nI) .nil))) (.kb rfl (.cells (rc (.same nS) (rc (.funcL (sn) (rc (.ptr rfl) (rc (.ptr rfl) rn))) (rc (.same nS) (rc (.funcL (sn) (rc (.ptr rfl) (rc (.ptr rfl) (rc (.ptr rfl) rn)))) (rc (.same nS) (rc (.funcL (sn) (rc (.ptr rfl) (rc (.ptr rfl) (rc (.ptr rfl) rn)))) (rc (.same nS) (rc (.funcL (sn) (rc (.ptr rfl) (rc (.ptr rfl) (rc (.ptr rfl) rn)))) (rc (.same nS) (rc (.funcL (sn) (rc (.ptr rfl) (rc (.ptr rfl) (rc (.ptr rfl) rn)))) rn))))))))))) (.kb rfl (.same sn) (.kb rfl (.same sn) (.kb rfl (.same sn) .nil))))),_,rfl,g5⟩
    rcases wyD g5 with⟨v,g5⟩|⟨v,g5⟩
    ·refine gq fol [0] ((10,.ptr 4 0)::(kQ c [])) (.cells [.str [101,120,112,111,110,101,110,116],.func (.func 121) [] [.ptr 1 0,.ptr 2 0],.str [112,101,114,109],.func (.func 122) [] [.ptr 3 0,.ptr 1 0,.ptr 2 0],.str [108,105,110,107],.func (.func 123) [] [.ptr 3 0,.ptr 1 0,.ptr 2 0],.str [98,117,114,97,117],.func (.func 125) [] [.ptr 3 0,.ptr 1 0,.ptr 2 0],.str [102,111,114,109],.func (.func 131) [] [.ptr 3 0,.ptr 1 0,.ptr 2 0]]::(kC a (kC b (kAB n [.cells [.str [98,117,114,97,117],.func (.func 125) [] [.ptr 3 0,.ptr 1 0,.ptr 2 0]]])))) (ac (hs (.done (.opt (qd ZT 89 (.slice 0 0 5 5 2) (.i c))) (.ptr 0 6)) (ixA (ot v) (by kernel_rfl))) az) ?_;obtain⟨w,g,g5⟩:=bnd g5;refine sq (gr fol [2] ((10,.ptr 4 0)::(kQ c [(29,.bool w)])) (ac (hs (.call 125 kBF (.cells [.str [101,120,112,111,110,101,110,116],.func (.func 121) [] [.ptr 1 0,.ptr 2 0],.str [112,101,114,109],.func (.func 122) [] [.ptr 3 0,.ptr 1 0,.ptr 2 0],.str [108,105,110,107],.func (.func 123) [] [.ptr 3 0,.ptr 1 0,.ptr 2 0],.str [98,117,114,97,117],.func (.func 125) [] [.ptr 3 0,.ptr 1 0,.ptr 2 0],.str [102,111,114,109],.func (.func 131) [] [.ptr 3 0,.ptr 1 0,.ptr 2 0]]::(kC a (kC b (kAB n [.cells [.str [98,117,114,97,117],.func (.func 125) [] [.ptr 3 0,.ptr 1 0,.ptr 2 0]]])))) [1,2,3] [.fptr [.i n] 0,.fptr [vl encI a] 0,.fptr [vl encI b] 0] (.bool w)) (vL (FzL.cons (Fz.ptr rfl rfl (FzL.cons (Uc tI) FzL.nil)) (FzL.cons (Fz.ptr rfl rfl (FzL.cons (Uc (qy encI _ (nl rfl))) FzL.nil)) (FzL.cons (Fz.ptr rfl rfl (FzL.cons (Uc (qy encI _ (nl rfl))) FzL.nil)) FzL.nil))) (qaJ N n a b g) tB rfl)) az) ?_);refine ihB g5 (fun F g5=>?_) (fun F g5=>?_)
     ·refine sh fol ((6,.str [98,117,114,97,117])::kBG) ?_;refine Goes.ret ?_;obtain rfl:=si g5;exact Or.inr (⟨rfl,_,rfl,(gw2 [.str [98,117,114,97,117],.i 0] (FzW.tuple (ql.cons (Ua tS) (ql.cons (Ua tI) ql.nil))))⟩)
     refine Goes.skip ?_;refine gh fol (kQ (w64 (c+1)) []) ?_;exact⟨M,(ofG 33 (kQ (w64 (c+1)) []),(.cells [.str [101,120,112,111,110,101,110,116],.func (.func 121) [] [.ptr 1 0,.ptr 2 0],.str [112,101,114,109],.func (.func 122) [] [.ptr 3 0,.ptr 1 0,.ptr 2 0],.str [108,105,110,107],.func (.func 123) [] [.ptr 3 0,.ptr 1 0,.ptr 2 0],.str [98,117,114,97,117],.func (.func 125) [] [.ptr 3 0,.ptr 1 0,.ptr 2 0],.str [102,111,114,109],.func (.func 131) [] [.ptr 3 0,.ptr 1 0,.ptr 2 0]]::(kC a (kC b (kAB n []))))),Nat.lt_succ_self _,(Sub.norm [] [some 0,some 1,some 2,some 3] rfl rfl (.keep (.slice rfl) (.keep (.same nI) (.keep (.same nI) .nil))) (.kb rfl (.cells (rc (.same nS) (rc (.funcL (sn) (rc (.ptr rfl) (rc (.ptr rfl) rn))) (rc (.same nS) (rc (.funcL (sn) (rc (.ptr rfl) (rc (.ptr rfl) (rc (.ptr rfl) rn)))) (rc (.same nS) (rc (.funcL (sn) (rc (.ptr rfl) (rc (.ptr rfl) (rc (.ptr rfl) rn)))) (rc (.same nS) (rc (.funcL (sn) (rc (.ptr rfl) (rc (.ptr rfl) (rc (.ptr rfl) rn)))) (rc (.same nS) (rc (.funcL (sn) (rc (.ptr rfl) (rc (.ptr rfl) (rc (.ptr rfl) rn)))) rn))))))))))) (.kb rfl (.same sn) (.kb rfl (.same sn) (.kb rfl (.same sn) .nil))))),_,rfl,g5⟩
    rcases wyD g5 with⟨y,g5⟩|⟨y,g5⟩
    ·refine gq fol [0] ((10,.ptr 4 0)::(kQ c [])) (.cells [.str [101,120,112,111,110,101,110,116],.func (.func 121) [] [.ptr 1 0,.ptr 2 0],.str [112,101,114,109],.func (.func 122) [] [.ptr 3 0,.ptr 1 0,.ptr 2 0],.str [108,105,110,107],.func (.func 123) [] [.ptr 3 0,.ptr 1 0,.ptr 2 0],.str [98,117,114,97,117],.func (.func 125) [] [.ptr 3 0,.ptr 1 0,.ptr 2 0],.str [102,111,114,109],.func (.func 131) [] [.ptr 3 0,.ptr 1 0,.ptr 2 0]]::(kC a (kC b (kAB n [.cells [.str [102,111,114,109],.func (.func 131) [] [.ptr 3 0,.ptr 1 0,.ptr 2 0]]])))) (ac (hs (.done (.opt (qd ZT 89 (.slice 0 0 5 5 2) (.i c))) (.ptr 0 8)) (ixA (ot y) (by kernel_rfl))) az) ?_;obtain⟨z,j,g5⟩:=bnd g5;refine sq (gr fol [2] ((10,.ptr 4 0)::(kQ c [(29,.bool z)])) (ac (hs (.call 131 kBF (.cells [.str [101,120,112,111,110,101,110,116],.func (.func 121) [] [.ptr 1 0,.ptr 2 0],.str [112,101,114,109],.func (.func 122) [] [.ptr 3 0,.ptr 1 0,.ptr 2 0],.str [108,105,110,107],.func (.func 123) [] [.ptr 3 0,.ptr 1 0,.ptr 2 0],.str [98,117,114,97,117],.func (.func 125) [] [.ptr 3 0,.ptr 1 0,.ptr 2 0],.str [102,111,114,109],.func (.func 131) [] [.ptr 3 0,.ptr 1 0,.ptr 2 0]]::(kC a (kC b (kAB n [.cells [.str [102,111,114,109],.func (.func 131) [] [.ptr 3 0,.ptr 1 0,.ptr 2 0]]])))) [1,2,3] [.fptr [.i n] 0,.fptr [vl encI a] 0,.fptr [vl encI b] 0] (.bool z)) (vL (FzL.cons (Fz.ptr rfl rfl (FzL.cons (Uc tI) FzL.nil)) (FzL.cons (Fz.ptr rfl rfl (FzL.cons (Uc (qy encI _ (nl rfl))) FzL.nil)) (FzL.cons (Fz.ptr rfl rfl (FzL.cons (Uc (qy encI _ (nl rfl))) FzL.nil)) FzL.nil))) (qaH N n a b j) tB rfl)) az) ?_);refine ihB g5 (fun G g5=>?_) (fun G g5=>?_)
     ·refine sh fol ((6,.str [102,111,114,109])::kBG) ?_;refine Goes.ret ?_;obtain rfl:=si g5;exact Or.inr (⟨rfl,_,rfl,(gw2 [.str [102,111,114,109],.i 0] (FzW.tuple (ql.cons (Ua tS) (ql.cons (Ua tI) ql.nil))))⟩)
     refine Goes.skip ?_;refine gh fol (kQ (w64 (c+1)) []) ?_;exact⟨M,(ofG 33 (kQ (w64 (c+1)) []),(.cells [.str [101,120,112,111,110,101,110,116],.func (.func 121) [] [.ptr 1 0,.ptr 2 0],.str [112,101,114,109],.func (.func 122) [] [.ptr 3 0,.ptr 1 0,.ptr 2 0],.str [108,105,110,107],.func (.func 123) [] [.ptr 3 0,.ptr 1 0,.ptr 2 0],.str [98,117,114,97,117],.func (.func 125) [] [.ptr 3 0,.ptr 1 0,.ptr 2 0],.str [102,111,114,109],.func (.func 131) [] [.ptr 3 0,.ptr 1 0,.ptr 2 0]]::(kC a (kC b (kAB n []))))),Nat.lt_succ_self _,(Sub.norm [] [some 0,some 1,some 2,some 3] rfl rfl (.keep (.slice rfl) (.keep (.same nI) (.keep (.same nI) .nil))) (.kb rfl (.cells (rc (.same nS) (rc (.funcL (sn) (rc (.ptr rfl) (rc (.ptr rfl) rn))) (rc (.same nS) (rc (.funcL (sn) (rc (.ptr rfl) (rc (.ptr rfl) (rc (.ptr rfl) rn)))) (rc (.same nS) (rc (.funcL (sn) (rc (.ptr rfl) (rc (.ptr rfl) (rc (.ptr rfl) rn)))) (rc (.same nS) (rc (.funcL (sn) (rc (.ptr rfl) (rc (.ptr rfl) (rc (.ptr rfl) rn)))) (rc (.same nS) (rc (.funcL (sn) (rc (.ptr rfl) (rc (.ptr rfl) (rc (.ptr rfl) rn)))) rn))))))))))) (.kb rfl (.same sn) (.kb rfl (.same sn) (.kb rfl (.same sn) .nil))))),_,rfl,g5⟩
    cases g5
   refine Goes.exit ?_;obtain rfl:=si g5;exact Or.inl (⟨rfl,rfl,(Sub.norm [] [] rfl rfl .nil .nil)⟩)
 rintro x s' (⟨rfl,rfl,hsub⟩|⟨rfl,L,rfl,hret⟩)
 ·try dsimp only at h
  refine Goes.sub hsub ?_;refine sh fol [(6,.str []),(7,.i 7)] ?_;refine Goes.ret ?_;obtain rfl:=si h;exact(gw2 [.str [],.i 7] (FzW.tuple (ql.cons (Ua tS) (ql.cons (Ua tI) ql.nil))))
 try dsimp only at h
 obtain rfl:=si h;exact hret
def qc9:Option (List Str):=
 some [[101,120,112,111,110,101,110,116],[112,101,114,109],[108,105,110,107],[98,117,114,97,117],[102,111,114,109]]
theorem qiU {res:List Str} (h:qc9=some res):qb ZT (.fn 24) [] [] (vl encS res) []:=by
 unfold qc9 at h;refine Ub Tryz.func24 rfl rfl (m:=2) rfl (rs:=[.tmp 0]) rfl (l:=[]) rfl ?_;refine sh fol [] ?_;refine sg fol [(0,.slice 0 0 5 5 1)] [.cells [.str [101,120,112,111,110,101,110,116],.str [112,101,114,109],.str [108,105,110,107],.str [98,117,114,97,117],.str [102,111,114,109]]] ?_;refine Goes.ret ?_;obtain rfl:=si h;exact(gw2 [.slice 0 0 5 5 1] (Ut (Fz.lit rfl rfl (Uh (AllST.cons tS (AllST.cons tS (AllST.cons tS (AllST.cons tS (AllST.cons tS AllST.nil)))))))))
end Go.Av
