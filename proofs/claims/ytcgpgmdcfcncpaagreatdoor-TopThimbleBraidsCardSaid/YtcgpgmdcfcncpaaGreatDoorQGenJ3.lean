/-
  Walks of functions: what each computes, as a plain function.
-/
import Derived.Test.YtcgpgmdcfcncpaaGreatDoorQGenJ2
noncomputable section
namespace Go.Av
open Go.Proofs Go.RowKit
set_option linter.unusedSectionVars false
set_option linter.unusedVariables false
set_option linter.unusedSimpArgs false
set_option maxRecDepth 100000
def qdn (N:Nat) (a:jm):Option Bool:=
 ((qgH N a.Num).bind fun b=>
 if b=true then
 some true
 else
 (qgH N a.Den).bind fun c=>
 some c:Option Bool).bind fun d=>
 some d
theorem qgQ (N:Nat) (a:jm) {res:Bool} (h:qdn N a=some res):qb ZT (.fn 88) [.agg (nq1 a)] [] (.bool res) []:=by
 unfold qdn at h
 refine Ub Tryz.func88 rfl rfl (m:=11) rfl (rs:=[.tmp 2]) rfl (l:=[(0,.agg (nq1 a))]) rfl ?_
 refine sg fol (kAX []) [.cells (nq1 a)] ?_
 refine sq ?_
 obtain⟨f,b,h⟩:=bnd h
 refine Goes.cut (s':=(ofG 11 (kB2 f),[.cells (nq1 a)])) ?_ ?_
 ·obtain⟨i,c,b⟩:=bnd b
  rcases wyB b with⟨e,b⟩|⟨e,b⟩
  ·obtain rfl:=si b
   exact tr fol [2,3] [(2,.bool true)] (ac (cv (qe8 N a.Num c)) (ac (gw e) az))
  obtain⟨g,d,b⟩:=bnd b
  obtain rfl:=si b
  exact tr fol [2,3,6] (kB2 g) (ac (cv (qe8 N a.Num c)) (ac (gw e) (ac (cv (qe8 N a.Den d)) az)))
 refine Goes.ret ?_
 obtain rfl:=si h
 exact(gw2 [.bool f] (Ua tB))
def qcn (a:jm):Option Bool:=
 (if a.Den.w.isEmpty=true then
 some (decide (a.Den.s=1))
 else
 some false:Option Bool).bind fun b=>
 some b
theorem qfY (a:jm) {res:Bool} (h:qcn a=some res):qb ZT (.fn 137) [.agg (nq1 a)] [] (.bool res) []:=by
 unfold qcn at h
 refine Ub Tryz.func137 rfl rfl (m:=13) rfl (rs:=[.tmp 2]) rfl (l:=[(0,.agg (nq1 a))]) rfl ?_
 refine sg fol (kAX []) [.cells (nq1 a)] ?_
 refine sq ?_
 obtain⟨d,b,h⟩:=bnd h
 refine Goes.cut (s':=(ofG 13 (kB2 d),[.cells (nq1 a)])) ?_ ?_
 ·rcases wyB b with⟨c,b⟩|⟨c,b⟩
  ·obtain rfl:=si b
   exact tr fol [3,4] (kB2 (decide (a.Den.s=1))) (ac (hs (.done (.opt (zx ZT .eql 63 (.tmp 5) (.const (.slice none 0 0)) (nvl (qa .u64) a.Den.w) .nilslice)) (.bool a.Den.w.isEmpty)) (qch qbV)) (ac (gw c) az))
  obtain rfl:=si b
  exact tr fol [3,4] [(2,.bool false)] (ac (hs (.done (.opt (zx ZT .eql 63 (.tmp 5) (.const (.slice none 0 0)) (nvl (qa .u64) a.Den.w) .nilslice)) (.bool a.Den.w.isEmpty)) (qch qbV)) (ac (gw c) az))
 refine Goes.ret ?_
 obtain rfl:=si h
 exact(gw2 [.bool d] (Ua tB))
def qd6 (N:Nat) (a:jm):Option Str:=
 (qcn a).bind fun b=>
 if b=true then
 (xH N a.Num).bind fun c=>
 some c
 else
 (xH N a.Num).bind fun d=>
 (cat d [47]).bind fun e=>
 (xH N a.Den).bind fun f=>
 (cat e f).bind fun g=>
 some g
theorem qhh (N:Nat) (a:jm) {res:Str} (h:qd6 N a=some res):qb ZT (.fn 89) [.agg (nq1 a)] [] (.str res) []:=by
 unfold qd6 at h
 refine Ub Tryz.func89 rfl rfl (m:=16) rfl (rs:=[.tmp 2]) rfl (l:=[(0,.agg (nq1 a))]) rfl ?_
 refine sg fol (kAX []) [.cells (nq1 a)] ?_
 refine sq ?_
 obtain⟨n,b,h⟩:=bnd h
 refine sq (gr fol [1] (kAX (kBI n)) (ac (cv (qfY a b)) az) ?_)
 refine ihB h (fun o h=>?_) (fun o h=>?_)
 ·obtain⟨j,c,h⟩:=bnd h
  refine sq (gr fol [2] [(2,.str j)] (ac (cv (qaC N a.Num c)) az) ?_)
  refine Goes.ret ?_
  obtain rfl:=si h
  exact(gw2 [.str j] (Ua tS))
 refine Goes.skip ?_
 obtain⟨p,d,h⟩:=bnd h
 obtain⟨k,e,h⟩:=bnd h
 obtain⟨q,f,h⟩:=bnd h
 obtain⟨i,g,h⟩:=bnd h
 refine sq (gr fol [2,3,6,7] [(2,.str i)] (ac (cv (qaC N a.Num d)) (ac (hs (.done (.opt (zx ZT .add 9 (.tmp 10) (.const (.string ⟨#[47]⟩)) (.str p) (.str [47]))) (.str k)) (qcd e)) (ac (cv (qaC N a.Den f)) (ac (hs (.done (.opt (zx ZT .add 9 (.tmp 11) (.tmp 14) (.str k) (.str q))) (.str i)) (qcd g)) az)))) ?_)
 refine Goes.ret ?_
 obtain rfl:=si h
 exact(gw2 [.str i] (Ua tS))
def qal (N:Nat) (a:jm):Option (Str×Int):=
 (qdn N a).bind fun b=>
 if b=true then
 some ([],4)
 else
 (qd6 N a).bind fun c=>
 some (c,0)
theorem qhr (N:Nat) (a:jm) {res:Str×Int} (h:qal N a=some res):qb ZT (.fn 37) [.agg (nq1 a)] [] (.tuple [.str res.1,.i res.2]) []:=by
 unfold qal at h
 refine Ub Tryz.func37 rfl rfl (m:=8) rfl (rs:=[.tmp 2,.tmp 3]) rfl (l:=[(0,.agg (nq1 a))]) rfl ?_
 refine sg fol (kAX []) [.cells (nq1 a)] ?_
 refine sq ?_
 obtain⟨e,b,h⟩:=bnd h
 refine sq (gr fol [1] (kAX [(5,.bool e)]) (ac (cv (qgQ N a b)) az) ?_)
 refine ihB h (fun f h=>?_) (fun f h=>?_)
 ·refine sh fol [(2,.str []),(3,.i 4)] ?_
  refine Goes.ret ?_
  obtain rfl:=si h
  exact(gw2 [.str [],.i 4] (FzW.tuple (qh.cons (Ua tS) (qh.cons (Ua tI) qh.nil))))
 refine Goes.skip ?_
 obtain⟨d,c,h⟩:=bnd h
 refine sq (gr fol [1] [(2,.str d),(3,.i 0)] (ac (cv (qhh N a c)) az) ?_)
 refine Goes.ret ?_
 obtain rfl:=si h
 exact(gw2 [.str d,.i 0] (FzW.tuple (qh.cons (Ua tS) (qh.cons (Ua tI) qh.nil))))
def qbt (a:List Int) (b:Int):Option Unit:=
 some ()
theorem qge (a:List Int) (b:Int) (h:qbt a b=some ()):qb ZT (.fn 84) (kBF a b) [] (.func (.func 126) [] kBq) (kL b a []):=by
 unfold qbt at h
 refine Um Tryz.func84 rfl rfl (m:=6) rfl (rs:=[.tmp 4]) rfl (l:=(kP a (kB7 b))) rfl ?_
 intro B hB
 refine sg fol (kX (kBm [])) (kBB a (kAJ b [])) ?_
 refine sh fol [(4,.func (.func 126) [] [.ptr 1 0,.ptr 0 0])] ?_
 refine Goes.ret ?_
 exact(gh2 [.func (.func 126) [] [.ptr 1 0,.ptr 0 0]] (Sub.norm [] [some 1,some 0] (by rw[hB];rfl) rfl (.keep (.funcL (sn) (rc (.ptr rfl) (rc (.ptr rfl) rn))) .nil) (.kb rfl (.same sn) (.kb rfl (.same sn) .nil))))
def xL (b:List Bool) (c:Option (List Int)) (a:Int):Option ((List Bool)×(List Int)):=
 (idx b a).bind fun h=>
 (put b a true).bind fun d=>
 ((match c with
 |none=>
 some ([a]:List Int)
 |some e=>
 (app 8 e [a]).bind fun f=>
 some f):Option (List Int)).bind fun g=>
 some (d,g)
theorem qfS (b:List Bool) (e:Option (List Int)) (a:Int) {p:List Bool} {q:List Int} (h:xL b e a=some (p,q)):qb ZT (.rd 0) [.i a] (.loop .ready none (ofG 37 [(4,.ptr 1 0),(6,.ptr 3 0)]) qw.xp qw.x1 qw.x2::(kD b (kN b (kAq e)))) (.bool true) (.loop .ready none (ofG 37 [(4,.ptr 1 0),(6,.ptr 3 0)]) qw.xp qw.x1 qw.x2::(kD p (kN p (.cells [.oslice 5 q.length 1]:: .dead::(kA q []))))):=by
 unfold xL at h
 refine Goes.round (m:=37) (l0:=(kB3 [(6,.ptr 3 0)])) (l:=(kB3 [(6,.ptr 3 0),(23,.i a)])) rfl rfl rfl ?_
 intro B hB
 refine Up ?_
 refine gh fol (kB3 (kBQ a)) ?_
 refine⟨_,Sub.refl _,?_⟩
 refine⟨_,_,_,_,_,rfl,?_⟩
 refine Up ?_
 refine Goes.block ?_
 obtain⟨s,g,h⟩:=bnd h
 obtain⟨f,j,h⟩:=bnd h
 refine sq (gq fol [2,3] (kBQ a) (.loop .busy none (ofG 37 [(4,.ptr 1 0),(6,.ptr 3 0)]) qw.xp qw.x1 qw.x2::(kD b (kN f (kAq e)))) (ac (hs (.done (.opt (qc ZT 116 (.slice 2 0 b.length b.length 1) (.i a))) (.ptr 2 ((a:Int).toNat*1+0))) (zI qiT g)) (ac (hs (.run [2] (qm ZT 4 (.ptr 2 ((a:Int).toNat*1+0)) (.bool true)) (.loop .busy none (ofG 37 [(4,.ptr 1 0),(6,.ptr 3 0)]) qw.xp qw.x1 qw.x2::(kD b (kN b (kAq e)))) .undef (.loop .busy none (ofG 37 [(4,.ptr 1 0),(6,.ptr 3 0)]) qw.xp qw.x1 qw.x2::(kD b (kN f (kAq e)))) true) (zY (E:=qhH) (l:=b) (y:=true) rfl (show _=some 1 by kernel_rfl) rfl g rfl rfl rfl rfl rfl j rfl)) az)) ?_)
 refine Goes.sub (show Sub (ofG 37 (kBQ a),(.loop .busy none (ofG 37 [(4,.ptr 1 0),(6,.ptr 3 0)]) qw.xp qw.x1 qw.x2::(kD b (kN f (kAq e))))) (ofG 37 (kBQ a),(.loop .busy none (ofG 37 [(4,.ptr 1 0),(6,.ptr 3 0)]) qw.xp qw.x1 qw.x2::(kD f (kN f (kAq e)))))from(Sub.norm [] [some 0,some 1,some 2,some 3,some 4] (by rw[hB];rfl) rfl (.kp (.keep (.same nI) .nil)) (.kb rfl (.loop rfl (.kp (.kp .nil))) (.kb rfl (.cells (rc (.sliceE rfl (qH j)) rn)) (.ks (.kb rfl (.cells (rc (.hs rfl) rn)) (.ks .nil))))))) ?_
 obtain⟨r,d,h⟩:=bnd h
 refine Goes.cutS (s':=(ofG 37 [],(.loop .busy none (ofG 37 [(4,.ptr 1 0),(6,.ptr 3 0)]) qw.xp qw.x1 qw.x2::(kD f (kN f (.cells [.oslice 5 r.length 1]:: .dead::(kA r []))))))) ?_ ?_
 ·rcases e with _|k
  ·try dsimp only at d
   obtain rfl:=si d
   exact yx.sub (yx.rg fol [] (.loop .busy none (ofG 37 [(4,.ptr 1 0),(6,.ptr 3 0)]) qw.xp qw.x1 qw.x2::(kD f (kN f (.cells [.oslice 6 1 1]:: .cells ((hof (none:Option (List Int))).flatMap encI.c)::(kAJ a (kAJ a []))))))) (Sub.norm [] [some 0,some 1,some 2,some 3,some 4,some 6] (by rw[hB];rfl) rfl .nil (.kb rfl (.loop rfl (.kp (.kp .nil))) (.kb rfl (.cells (rc (.slice rfl) rn)) (.ks (.kb rfl (.cells (rc ((zQ.osliceE rfl rfl)) rn)) (.lost (.ks .nil)))))))
  try dsimp only at d
  obtain⟨o,n,d⟩:=bnd d
  obtain rfl:=si d
  exact yx.sub (yx.rq fol [3] [] (.loop .busy none (ofG 37 [(4,.ptr 1 0),(6,.ptr 3 0)]) qw.xp qw.x1 qw.x2::(kD f (kN f (.cells [.oslice 6 o.length 1]:: .dead::(kAJ a (kA o [])))))) (ac (hs (.run [4,5] (ja ZT [22,22] (.oslice 4 k.length 1) (.slice 5 0 1 1 1)) (.loop .busy none (ofG 37 [(4,.ptr 1 0),(6,.ptr 3 0)]) qw.xp qw.x1 qw.x2::(kD f (kN f (kAF k (kA k (kAJ a [])))))) (.oslice 6 o.length 1) (.loop .busy none (ofG 37 [(4,.ptr 1 0),(6,.ptr 3 0)]) qw.xp qw.x1 qw.x2::(kD f (kN f (kAF k (.dead::(kAJ a (kA o []))))))) true) (yF qo (E:=encI) rfl (qcB (E:=encI) (ys:=[a]) rfl rfl rfl rfl) (qm0 (E:=encI) (l:=k) rfl rfl rfl n rfl))) az)) (Sub.norm [] [some 0,some 1,some 2,some 3,some 4,some 6] (by rw[hB];rfl) rfl .nil (.kb rfl (.loop rfl (.kp (.kp .nil))) (.kb rfl (.cells (rc (.slice rfl) rn)) (.ks (.kb rfl (.cells (rc (.oslice rfl) rn)) (.lost (.ks .nil)))))))
 intro _ hsub
 simp only[ZI,ZP]at h
 obtain⟨rfl,rfl⟩:=h
 exact⟨_,hsub,⟨_,_,rfl,(Sub.keep [0] rfl rfl)⟩⟩
def zL (a:Int) (b:List Int):Nat->(List Bool)->(Option (List Int))->Int->Option ((List Bool)×(List Int))
 |0,_,_,_=>none
 |K+1,g,h,e=>
  (xL g h e).bind fun(f,c)=>
  (idx b e).bind fun d=>
  if d=a then
  some (f,c)
  else
  zL a b K f (some c) d
def yO (N:Nat) (b:List Bool) (a:Int) (c:List Int):Option ((List Bool)×(List Int)):=
 (zL a c N b (none:Option (List Int)) a).bind fun d=>
 some d
theorem qe5 (N:Nat) (g:List Bool) (a:Int) (d:List Int) {u:List Bool} {v:List Int} (h:yO N g a d=some (u,v)):qb ZT (.fn 126) [.yld 0,.ptr 4 0,.ptr 5 0] (.loop .ready none (ofG 37 [(4,.ptr 1 0),(6,.ptr 3 0)]) qw.xp qw.x1 qw.x2::(kD g (kN g (kAW (kL a d []))))) (.tuple []) (.loop .ready none (ofG 37 [(4,.ptr 1 0),(6,.ptr 3 0)]) qw.xp qw.x1 qw.x2::(kD u (kN u (.cells [.oslice 6 v.length 1]::(kL a d (kA v [])))))):=by
 unfold yO at h
 refine Um Tryz.func126 rfl rfl (m:=16) rfl (rs:=[]) rfl (l:=[(0,.yld 0),(1,.ptr 4 0),(2,.ptr 5 0)]) rfl ?_
 intro B hB
 refine Up ?_
 refine sh fol ((0,.yld 0)::(kBC a [])) ?_
 refine Goes.block ?_
 obtain⟨y,e,h⟩:=bnd h
 refine Goes.imp (Q:=fun x s'=>(x= .ret/\ ∃r,r=y/\qfB ZT [] (.tuple []) (.loop .ready none (ofG 37 [(4,.ptr 1 0),(6,.ptr 3 0)]) qw.xp qw.x1 qw.x2::(kD r.1 (kN r.1 (.cells [.oslice 6 r.2.length 1]::(kL a d (kA r.2 [])))))) .ret s')) ?_ ?_
 ·refine Goes.sub (s':=(ofG 16 ((0,.yld 0)::(kBC a [])),(.loop .ready none (ofG 37 [(4,.ptr 1 0),(6,.ptr 3 0)]) qw.xp qw.x1 qw.x2::(kD g (kN g (.cells [hsl 6 1 (none:Option (List Int))]::(kL a d [.cells ((hof (none:Option (List Int))).flatMap encI.c)]))))))) (Sub.norm [] [some 0,some 1,some 2,some 3,some 4,some 5,none] (by rw[hB];rfl) rfl (.keep (.yld rfl) (.kp (.kp (.keep (.same nI) .nil)))) (.kb rfl (.loop rfl (.kp (.kp .nil))) (.kb rfl (.cells (rc (.slice rfl) rn)) (.ks (.kb rfl (.cells (rc .hs0 rn)) (.kb rfl (.same sn) (.kb rfl (.same sn) (.fresh .nil)))))))) ?_
  refine Uc (fun M s=> ∃(n:List Bool) (o:Option (List Int)) (p:Int),s=(ofG 16 ((0,.yld 0)::(kBC p [])),(.loop .ready none (ofG 37 [(4,.ptr 1 0),(6,.ptr 3 0)]) qw.xp qw.x1 qw.x2::(kD n (kN n (.cells [hsl 6 1 o]::(kL a d [.cells ((hof o).flatMap encI.c)]))))))/\zL a d M n o p=some y) ?_ (m:=N) ⟨_,_,_,rfl,e⟩
  rintro M s ⟨n,o,p,rfl,e⟩
  cases M with
  |zero=>simp only[zL]at e;cases e
  |succ M=>
   rw[zL]at e
   refine sq ?_
   obtain⟨⟨q,f⟩,t,e⟩:=bnd e
   try dsimp only at e
   refine sq (gq fol [2] ((0,.yld 0)::(kBC p [(8,.bool true)])) (.loop .ready none (ofG 37 [(4,.ptr 1 0),(6,.ptr 3 0)]) qw.xp qw.x1 qw.x2::(kD q (kN q (kA4 f (kL a d (.dead::(kA f []))))))) (ac (hs (.callH (.rd 0) [.i p] (.loop .ready none (ofG 37 [(4,.ptr 1 0),(6,.ptr 3 0)]) qw.xp qw.x1 qw.x2::(kD n (kN n (.cells [hsl 6 1 o]::(kL a d [.cells ((hof o).flatMap encI.c)]))))) [0,1,2,3,6] (.bool true) (.loop .ready none (ofG 37 [(4,.ptr 1 0),(6,.ptr 3 0)]) qw.xp qw.x1 qw.x2::(kD q (kN q (kA4 f (kL a d (.dead::(kA f [])))))))) (qmz [some 0,some 1,some 2,some 3,some 6] [some 0,some 1,some 2,some 3,none,none,none,some 5] (qfS n o p t) rfl (.kb rfl (.loop rfl (.kp (.kp .nil))) (.kb rfl (.cells (rc (.slice rfl) rn)) (.ks (.kb rfl (.cells (rc (.hs rfl) rn)) (.ks .nil))))) rfl rfl (.back rfl rfl (.loop rfl (.kp (.kp .nil))) rfl (.back rfl rfl (.cells (rc (.slice rfl) rn)) rfl (.back rfl rfl (.same fa) rfl (.back rfl rfl (.cells (rc (.oslice rfl) rn)) rfl (.old rfl rfl (.old rfl rfl (.dead (.new rfl rfl (.same fa) rfl .nil)))))))) (rc (.same nI) rn) (.same nB) rfl)) az) ?_)
   refine Goes.ifB (b:=true) (by kernel_rfl) (fun _=>?_) (fun c=>(by cases c))
   refine Goes.skip ?_
   refine Goes.block ?_
   obtain⟨k,j,e⟩:=bnd e
   refine sq (gr fol [2,3] ((0,.yld 0)::(kBC k [])) (ac (iv qo encI j) (ac (lv 0 ce3 encI j rfl) az)) ?_)
   refine sh fol ((0,.yld 0)::(kBC k (kBy (decide (k=a))))) ?_
   refine ihD e (fun w e=>?_) (fun w e=>?_)
   ·refine Goes.ret ?_
    obtain rfl:=si e
    exact⟨rfl,_,rfl,(gh2 [] (Sub.norm [] [some 0,some 1,some 2,some 3,some 4,some 5,some 7] (by rw[hB];rfl) rfl (.keep (.same (qy.tuple sn)) .nil) (.kb rfl (.loop rfl (.kp (.kp .nil))) (.kb rfl (.cells (rc (.slice rfl) rn)) (.ks (.kb rfl (.cells (rc (.oslice rfl) rn)) (.kb rfl (.same sn) (.kb rfl (.same sn) (.ks .nil)))))))))⟩
   refine Goes.skip ?_
   exact⟨M,(ofG 16 ((0,.yld 0)::(kBC k [])),(.loop .ready none (ofG 37 [(4,.ptr 1 0),(6,.ptr 3 0)]) qw.xp qw.x1 qw.x2::(kD q (kN q (.cells [hsl 6 1 (some f)]::(kL a d [.cells ((hof (some f)).flatMap encI.c)])))))),Nat.lt_succ_self _,(Sub.norm [] [some 0,some 1,some 2,some 3,some 4,some 5,some 7] (by rw[hB];rfl) rfl (.keep (.yld rfl) (.kp (.kp (.keep (.same nI) .nil)))) (.kb rfl (.loop rfl (.kp (.kp .nil))) (.kb rfl (.cells (rc (.slice rfl) rn)) (.ks (.kb rfl (.cells (rc ((zQ.hs1 rfl)) rn)) (.kb rfl (.same sn) (.kb rfl (.same sn) (.ks .nil)))))))),_,_,_,rfl,e⟩
 rintro x s' ⟨rfl,z,rfl,hret⟩
 obtain rfl:=si h
 exact⟨_,Sub.refl _,hret⟩
def jh (N:Nat) (a:List Int):Nat->(List (List Int))->(List Bool)->Int->Option (List (List Int))
 |0,_,_,_=>none
 |K+1,c,d,b=>
  if b<(a.length:Int)then
  (((idx d b).bind fun e=>
  if e=true then
  some (c,d)
  else
  (qbt a b).bind fun _=>
  (yO N d b a).bind fun(f,g)=>
  (app 24 c [g]).bind fun h=>
  some (h,f):Option ((List (List Int))×(List Bool)))).bind fun(j,i)=>
  jh N a K j i (w64 (b+1))
  else
  some c
def xD (N:Nat) (a:List Int):Option (List (List Int)):=
 (mk 1 (a.length:Int) false).bind fun b=>
 (jh N a N ([]:List (List Int)) b 0).bind fun c=>
 some c
theorem qfT (N:Nat) (a:List Int) {D:List (List Int)} (h:xD N a=some D):qb ZT (.fn 33) [vl encI a] [] (.gslice 0 D.length 1) [.cells (D.flatMap (qd encI).c)]:=by
 unfold xD at h
 refine Goes.fnHr Tryz.func33 rfl rfl (m:=37) rfl (rs:=[.tmp 2]) rfl (l:=(kP a [])) rfl ?_
 intro B hB hR
 refine sh fol (kP a []) ?_
 refine sh fol (kP a [(3,.nilslice)]) ?_
 obtain⟨r,A,h⟩:=bnd h
 refine sq (gq fol [2] (kP a ((3,.nilslice)::(kB3 []))) (kN r (kAk r [])) (ac (hs (.run [] (qR ZT 116 (.i (a.length:Int)) (.i (a.length:Int))) [] (.slice 0 0 r.length r.length 1) (kN r []) false) (xW qiT (E:=qhH) (z:=false) rfl (by kernel_rfl) A rfl)) az) ?_)
 refine sq ?_
 refine sh fol (kP a ((3,.nilslice)::(kB3 (kB9 (a.length:Int))))) ?_
 refine Goes.block ?_
 obtain⟨H,k,h⟩:=bnd h
 refine Goes.imp (Q:=fun x s'=>(x= .exit 0/\ ∃y,y=H/\Sub s' (ofG 37 (kBf y),[.cells (y.flatMap (qd encI).c)]))) ?_ ?_
 ·refine Goes.sub (s':=(ofG 37 (kP a ((3,.gslice 0 ([]:List (List Int)).length 1)::(kB3 (kB9 (a.length:Int))))),(.cells (([]:List (List Int)).flatMap (qd encI).c)::(kD r (kN r []))))) (Sub.norm [] [none,some 1,some 0] (by rw[hB];rfl) rfl (.keep (.same (qf encI _)) (.keep .nil (.kp (.keep (.same nI) (.keep (.same nI) .nil))))) (.fresh (.kb rfl (.cells (rc (.slice rfl) rn)) (.ks .nil)))) ?_
  refine Uc (fun M s=> ∃(f:List (List Int)) (j:List Bool) (e:Int),s=(ofG 37 (kP a (kAO f (kAR (a.length:Int) e []))),(.cells (f.flatMap (qd encI).c)::(kD j (kN j []))))/\jh N a M f j e=some H) ?_ (m:=N) ⟨_,_,_,rfl,k⟩
  rintro M s ⟨f,j,e,rfl,k⟩
  cases M with
  |zero=>simp only[jh]at k;cases k
  |succ M=>
   rw[jh]at k
   refine sh fol (kP a (kAO f (kAR (a.length:Int) e (kB6 (decide (e<(a.length:Int))))))) ?_
   refine sq ?_
   refine ihD k (fun I k=>?_) (fun I k=>?_)
   ·refine Goes.skip ?_
    refine sq ?_
    obtain⟨F,g,k⟩:=bnd k
    refine Goes.imp (Q:=fun x s'=>(x= .normal/\ ∃t n,(t,n)=F/\Sub s' (ofG 37 (kP a (kAO t (kAR (a.length:Int) e []))),(.cells (t.flatMap (qd encI).c)::(kD n (kN n [])))))) ?_ ?_
    ·refine Goes.block ?_
     refine sh fol (kP a (kAO f ((5,.i e)::(kAR (a.length:Int) e [])))) ?_
     refine sq ?_
     obtain⟨C,o,g⟩:=bnd g
     refine sq (gr fol [2,3] (kP a (kAO f ((5,.i e)::(kAR (a.length:Int) e [(19,.bool C)])))) (ac (hs (.done (.opt (qc ZT 116 (.slice 2 0 j.length j.length 1) (.i e))) (.ptr 2 ((e:Int).toNat*1+0))) (zI qiT o)) (ac (hs (.run [2] (qV ZT 4 (.ptr 2 ((e:Int).toNat*1+0))) (.cells (f.flatMap (qd encI).c)::(kD j (kN j []))) (.bool C) (.cells (f.flatMap (qd encI).c)::(kD j (kN j []))) false) (yE ce4 (E:=qhH) (l:=j) rfl rfl o (nl rfl) rfl)) az)) ?_)
     refine ihB g (fun G g=>?_) (fun G g=>?_)
     ·refine Goes.exit ?_
      obtain rfl:=si g
      exact⟨rfl,_,_,rfl,(Sub.keep [0,3,4,12,13] rfl rfl)⟩
     refine Goes.skip ?_
     refine sg fol (kP a (kAO f ((5,.i e)::(6,.ptr 3 0)::(kAR (a.length:Int) e [])))) (.cells (f.flatMap (qd encI).c)::(kD j (kN j (kAW [])))) ?_
     refine sq ?_
     obtain⟨_,u,g⟩:=bnd g
     refine sq (gq fol [2] (kP a (kAO f ((6,.ptr 3 0)::(kAR (a.length:Int) e [(22,.func (.func 126) [] [.ptr 4 0,.ptr 5 0])])))) (.cells (f.flatMap (qd encI).c)::(kD j (kN j (kAW (kL e a []))))) (ac (hs (.callH 84 (kBF a e) (.cells (f.flatMap (qd encI).c)::(kD j (kN j (kAW [])))) [] (.func (.func 126) [] [.ptr 4 0,.ptr 5 0]) (.cells (f.flatMap (qd encI).c)::(kD j (kN j (kAW (kL e a [])))))) (vv [] [none,none,none,none,some 0,some 1] (qge a e u) .nil rfl rfl (.old rfl rfl (.old rfl rfl (.old rfl rfl (.old rfl rfl (.new rfl rfl (.cells (rc (.same nI) rn)) rfl (.new rfl rfl (.cells (rc (.same (qf encI _)) rn)) rfl .nil)))))) (rc (.same (qf encI _)) (rc (.same nI) rn)) (.funcL (sn) (rc (.ptr rfl) (rc (.ptr rfl) rn))) rfl)) az) ?_)
     refine Goes.block ?_
     obtain⟨⟨d,b⟩,w,g⟩:=bnd g
     try dsimp only at g
     refine Goes.range fol hR (gf:=126) (first:=[]) (captured:=[.ptr 4 0,.ptr 5 0]) (v:= .tuple []) (A2:=(.cells (f.flatMap (qd encI).c)::(kD d (kN d (kA4 b (kL e a (.loop .ready none (ofG 37 [(4,.ptr 1 0),(6,.ptr 3 0)]) qw.xp qw.x1 qw.x2::(kA b [])))))))) (s':=(ofG 37 (kP a (kAO f ((6,.ptr 3 0)::(kAR (a.length:Int) e [(22,.func (.func 126) [] [.ptr 4 0,.ptr 5 0])])))),(.cells (f.flatMap (qd encI).c)::(kD d (kN d (kA4 b (kL e a (.loop .exhausted none (ofG 37 [(4,.ptr 1 0),(6,.ptr 3 0)]) qw.xp qw.x1 qw.x2::(kA b []))))))))) (x:= .normal) (by kernel_rfl) (by kernel_rfl) (qid (show(Obl.callH 126 [.yld 6,.ptr 4 0,.ptr 5 0] (.cells (f.flatMap (qd encI).c)::(kD j (kN j (kAW (kL e a [.loop .ready none (ofG 37 [(0,vl encI a),(3,.gslice 0 f.length 1),(4,.ptr 1 0),(6,.ptr 3 0),(12,.i (a.length:Int)),(13,.i e),(22,.func (.func 126) [] [.ptr 4 0,.ptr 5 0])]) qw.xp qw.x1 qw.x2]))))) [6,1,2,3,4,5] (.tuple []) (.cells (f.flatMap (qd encI).c)::(kD d (kN d (kA4 b (kL e a (.loop .ready none (ofG 37 [(4,.ptr 1 0),(6,.ptr 3 0)]) qw.xp qw.x1 qw.x2::(kA b [])))))))).Holds ZT from vv [some 6,some 1,some 2,some 3,some 4,some 5] [none,some 1,some 2,some 3,some 4,some 5,some 0,some 6] (qe5 N j e a w) (.kb rfl (.loop rfl (.drop (.drop (.kp (.kp (.drop (.drop (.drop .nil)))))))) (.kb rfl (.cells (rc (.slice rfl) rn)) (.ks (.kb rfl (.cells (rc (.same (qy.nilslice)) rn)) (.kb rfl (.cells (rc (.same nI) rn)) (.kb rfl (.cells (rc (.same (qf encI _)) rn)) .nil)))))) rfl rfl (.old rfl rfl (.back rfl rfl (.cells (rc (.slice rfl) rn)) rfl (.back rfl rfl (.same fa) rfl (.back rfl rfl (.cells (rc (.oslice rfl) rn)) rfl (.back rfl rfl (.cells (rc (.same nI) rn)) rfl (.back rfl rfl (.cells (rc (.same (qf encI _)) rn)) rfl (.back rfl rfl (.loop rfl (.kp (.kp .nil))) rfl (.new rfl rfl (.same fa) rfl .nil)))))))) (rc (.yld rfl) (rc (.ptr rfl) (rc (.ptr rfl) rn))) (.same (qy.tuple sn)) rfl)) (by kernel_rfl) ?_
     refine Goes.sub (show Sub (ofG 37 (kP a (kAO f ((6,.ptr 3 0)::(kAR (a.length:Int) e [(22,.func (.func 126) [] [.ptr 4 0,.ptr 5 0])])))),(.cells (f.flatMap (qd encI).c)::(kD d (kN d (kA4 b (kL e a (.loop .exhausted none (ofG 37 [(4,.ptr 1 0),(6,.ptr 3 0)]) qw.xp qw.x1 qw.x2::(kA b [])))))))) (ofG 37 (kP a (kAO f ((6,.ptr 3 0)::(kAR (a.length:Int) e [(22,.func (.func 126) [] [.ptr 5 0,.ptr 6 0])])))),(.cells (f.flatMap (qd encI).c)::(kD d (kN d (kAF b (kA b (kL e a [])))))))from(Sub.norm [] [some 0,some 1,some 2,some 3,some 7,some 4,some 5] (by rw[hB];rfl) rfl (.keep (.same (qf encI _)) (.keep (.gslice rfl) (.kp (.kp (.keep (.same nI) (.keep (.same nI) (.keep (.funcL (sn) (rc (.ptr rfl) (rc (.ptr rfl) rn))) .nil))))))) (.ks (.kb rfl (.cells (rc (.slice rfl) rn)) (.ks (.kb rfl (.cells (rc (.oslice rfl) rn)) (.ks (.kb rfl (.same sn) (.kb rfl (.same sn) .nil))))))))) ?_
     obtain⟨p,q,g⟩:=bnd g
     refine gq fol [3] (kP a ((3,.gslice 8 p.length 1)::(kB3 (kAR (a.length:Int) e [])))) (.dead::(kD d (kN d (kAF b (kA b (kL e a (kAF b [.cells ((f).flatMap ((qd encI)).c++[.oslice 4 b.length 1])]))))))) (ac (hs (.run [0,7] (ja ZT [39,39] (.gslice 0 f.length 1) (.slice 7 0 1 1 1)) (.cells (f.flatMap (qd encI).c)::(kD d (kN d (kAF b (kA b (kL e a (kAF b []))))))) (.gslice 8 p.length 1) (.dead::(kD d (kN d (kAF b (kA b (kL e a (kAF b [.cells ((f).flatMap ((qd encI)).c++[.oslice 4 b.length 1])]))))))) true) (qrc qdJ (E:=(qd encI)) (l:=f) (x:=b) rfl rfl rfl rfl rfl rfl rfl q rfl)) az) ?_
     obtain rfl:=si g
     exact⟨rfl,_,_,rfl,((show Sub (ofG 37 (kP a ((3,.gslice 8 p.length 1)::(kB3 (kAR (a.length:Int) e [])))),(.dead::(kD d (kN d (kAF b (kA b (kL e a (kAF b [.cells ((f).flatMap ((qd encI)).c++[.oslice 4 b.length 1])])))))))) (ofG 37 (kP a (kAO p (kAR (a.length:Int) e []))),(.cells (p.flatMap (qd encI).c)::(kD d (kN d []))))from(Sub.norm [4] [some 8,some 1,some 2] (by rw[hB];rfl) rfl (.keep (.same (qf encI _)) (.keep (.gslice rfl) (.kp (.keep (.same nI) (.keep (.same nI) .nil))))) (.kb rfl (qbR.my (E:=(qd encI)) q (rc (.frz (Fz.os (E:=encI) rfl rfl (nl rfl)) (qf encI _)) rn)) (.kb rfl (.cells (rc (.slice rfl) rn)) (.ks .nil))))).trans (Sub.refl _))⟩
    rintro x s' ⟨rfl,t,n,rfl,hsub⟩
    try dsimp only at k
    refine Goes.sub hsub ?_
    refine gh fol (kP a (kAO t (kAR (a.length:Int) (w64 (e+1)) []))) ?_
    exact⟨M,(ofG 37 (kP a (kAO t (kAR (a.length:Int) (w64 (e+1)) []))),(.cells (t.flatMap (qd encI).c)::(kD n (kN n [])))),Nat.lt_succ_self _,(Sub.refl _),_,_,_,rfl,k⟩
   refine Goes.exit ?_
   obtain rfl:=si k
   exact⟨rfl,_,rfl,(Sub.norm [] [some 0] (by rw[hB];rfl) rfl (.drop (.keep (.gslice rfl) .nil)) (.ks .nil))⟩
 rintro x s' ⟨rfl,y,rfl,hsub⟩
 refine Goes.sub hsub ?_
 refine sh fol [(2,.gslice 0 y.length 1)] ?_
 refine Goes.ret ?_
 obtain rfl:=si h
 exact(gh2 [.gslice 0 y.length 1] (qbQ.refl _ _))
def jJ (N:Nat) (d:List (List Int)):Nat->Int->(List Int)->Int->(List Int)->Int->Option (Int×(List Int)×Int×(List Int))
 |0,_,_,_,_,_=>none
 |K+1,h,i,j,k,b=>
  if b<(d.length:Int)then
  (idx d b).bind fun e=>
  (qf3 (e.length:Int)).bind fun c=>
  (xX N (⟨(⟨h,i⟩:qB),(⟨j,k⟩:qB)⟩:jm) c).bind fun f=>
  (qcq f.Num).bind fun g=>
  (xS N g c).bind fun a=>
  jJ N d K a.Num.s a.Num.w a.Den.s a.Den.w (w64 (b+1))
  else
  some (h,i,j,k)
def qbi (N:Nat) (p:List Int):Option (Str×Int):=
 (jL N p).bind fun g=>
 if(!decide (g=0))=true then
 some ([],g)
 else
 (qf3 1).bind fun b=>
 (xD N p).bind fun h=>
 (jJ N h N b.Num.s b.Num.w b.Den.s b.Den.w 0).bind fun(c,d,e,f)=>
 (qal N (⟨(⟨c,d⟩:qB),(⟨e,f⟩:qB)⟩:jm)).bind fun a=>
 some (a.1,a.2)
theorem qgY (N:Nat) (p:List Int) {res:Str×Int} (h:qbi N p=some res):qb ZT (.fn 10) [vl encI p] [] (.tuple [.str res.1,.i res.2]) []:=by
 unfold qbi at h
 refine Ub Tryz.func10 rfl rfl (m:=37) rfl (rs:=[.tmp 2,.tmp 3]) rfl (l:=(kP p [])) rfl ?_
 refine sh fol (kP p []) ?_
 refine sq ?_
 obtain⟨G,H,h⟩:=bnd h
 refine sq (gr fol [1] (kP p (kBx G)) (ac (cv (qcW N p H)) az) ?_)
 refine sh fol (kP p [(4,.i G),(12,.bool (!decide (G=0)))]) ?_
 refine ihB h (fun T h=>?_) (fun T h=>?_)
 ·refine sh fol ((2,.str [])::(kBZ G)) ?_
  refine Goes.ret ?_
  obtain rfl:=si h
  exact(gw2 [.str [],.i G] (FzW.tuple (qh.cons (Ua tS) (qh.cons (Ua tI) qh.nil))))
 refine Goes.skip ?_
 obtain⟨F,I,h⟩:=bnd h
 refine sq (gq fol [0,2] (kP p [(5,.ptr 0 0)]) [.cells (nq1 F)] (ac (cv (qkD 1 I)) (ac (hs (.run [0] (qm ZT 67 (.ptr 0 0) (.agg (nq1 F))) (kQ []) .undef [.cells (nq1 F)] true) (jW (n:=4) (by kernel_rfl) rfl rfl rfl rfl (cac rfl (cac nvc (cac rfl (cac nvc can)))) rfl)) az)) ?_)
 refine sq ?_
 obtain⟨b,J,h⟩:=bnd h
 refine sq (gq fol [1] (kA6 b (b.length:Int) [(18,.i 0)]) [.cells (nq1 F),.cells (b.flatMap (qd encI).c)] (ac (hs (.callH 33 [vl encI p] [.cells (nq1 F)] [] (.gslice 1 b.length 1) [.cells (nq1 F),.cells (b.flatMap (qd encI).c)]) (vv [] [none,some 0] (qfT N p J) .nil rfl rfl (.old rfl rfl (.new rfl rfl (.same fa) rfl .nil)) (rc (.same (qf encI _)) rn) (.gslice rfl) rfl)) az) ?_)
 refine Goes.block ?_
 obtain⟨K,a,h⟩:=bnd h
 refine Goes.imp (Q:=fun x s'=>(x= .exit 0/\ ∃q r t u,(q,r,t,u)=K/\Sub s' (ofG 37 [(5,.ptr 0 0)],[.cells (ni2 q r t u)]))) ?_ ?_
 ·refine Uc (fun M s=> ∃(g:Int) (j:List Int) (k:Int) (o:List Int) (d:Int),s=(ofG 37 (kA6 b (b.length:Int) [(18,.i d)]),[.cells (ni2 g j k o),.cells (b.flatMap (qd encI).c)])/\jJ N b M g j k o d=some K) ?_ (m:=N) ⟨_,_,_,_,_,rfl,a⟩
  rintro M s ⟨g,j,k,o,d,rfl,a⟩
  cases M with
  |zero=>simp only[jJ]at a;cases a
  |succ M=>
   rw[jJ]at a
   refine sh fol (kA6 b (b.length:Int) [(18,.i d),(19,.bool (decide (d<(b.length:Int))))]) ?_
   refine sq ?_
   refine ihD a (fun L a=>?_) (fun L a=>?_)
   ·refine Goes.skip ?_
    refine sq (Goes.block ?_)
    obtain⟨y,f,a⟩:=bnd a
    refine sq (gr fol [0,1] ((5,.ptr 0 0)::(kBd y [(16,.gslice 1 b.length 1),(17,.i (b.length:Int)),(18,.i d)])) (ac (hs (.done (.opt (qc ZT 39 (.gslice 1 b.length 1) (.i d))) (.ptr 1 ((d:Int).toNat*1+0))) (qaP qdJ f)) (ac (hs (.run [1] (qV ZT 22 (.ptr 1 ((d:Int).toNat*1+0))) [.cells (ni2 g j k o),.cells (b.flatMap (qd encI).c)] (vl encI y) [.cells (ni2 g j k o),.cells (b.flatMap (qd encI).c)] false) (yE qex (E:=(qd encI)) (l:=b) rfl rfl f (nl rfl) rfl)) az)) ?_)
    obtain⟨e,z,a⟩:=bnd a
    refine sq (gq fol [2,4] [(5,.ptr 0 0),(8,.ptr 2 0),(16,.gslice 1 b.length 1),(17,.i (b.length:Int)),(18,.i d)] [.cells (ni2 g j k o),.cells (b.flatMap (qd encI).c),.cells (nq1 e)] (ac (cv (qkD (y.length:Int) z)) (ac (hs (.run [2] (qm ZT 67 (.ptr 2 0) (.agg (nq1 e))) (.cells (ni2 g j k o):: .cells (b.flatMap (qd encI).c)::(kQ [])) .undef [.cells (ni2 g j k o),.cells (b.flatMap (qd encI).c),.cells (nq1 e)] true) (jW (n:=4) (by kernel_rfl) rfl rfl rfl rfl (cac rfl (cac nvc (cac rfl (cac nvc can)))) rfl)) az)) ?_)
    obtain⟨O,A,a⟩:=bnd a
    obtain⟨P,B,a⟩:=bnd a
    obtain⟨v,C,a⟩:=bnd a
    refine gq fol [2,4,6,7] (kA6 b (b.length:Int) [(18,.i d)]) [.cells (nq1 v),.cells (b.flatMap (qd encI).c),.cells (nq1 e)] (ac (cv (qhF N (⟨(⟨g,j⟩:qB),(⟨k,o⟩:qB)⟩:jm) e A)) (ac (cv (qgJ O.Num B)) (ac (cv (qe1 N P e C)) (ac (hs (.run [0] (qm ZT 67 (.ptr 0 0) (.agg (nq1 v))) [.cells (ni2 g j k o),.cells (b.flatMap (qd encI).c),.cells (nq1 e)] .undef [.cells (nq1 v),.cells (b.flatMap (qd encI).c),.cells (nq1 e)] true) (jW (n:=4) (by kernel_rfl) rfl rfl rfl rfl (cac rfl (cac nvc (cac rfl (cac nvc can)))) rfl)) az)))) ?_
    refine gh fol (kA6 b (b.length:Int) [(18,.i (w64 (d+1)))]) ?_
    exact⟨M,(ofG 37 (kA6 b (b.length:Int) [(18,.i (w64 (d+1)))]),[.cells (nq1 v),.cells (b.flatMap (qd encI).c)]),Nat.lt_succ_self _,(Sub.norm [] [some 0,some 1] rfl rfl (.kp (.keep (.gslice rfl) (.keep (.same nI) (.keep (.same nI) .nil)))) (.kb rfl (.same sn) (.ks .nil))),_,_,_,_,_,rfl,a⟩
   refine Goes.exit ?_
   obtain rfl:=si a
   exact⟨rfl,_,_,_,_,rfl,(Sub.norm [] [some 0] rfl rfl (.kp .nil) (.kb rfl (.same sn) .nil))⟩
 rintro x s' ⟨rfl,q,r,t,u,rfl,hsub⟩
 try dsimp only at h
 refine Goes.sub hsub ?_
 obtain⟨w,D,h⟩:=bnd h
 refine sq (gr fol [1] ((2,.str w.1)::(kBZ w.2)) (ac (cv (qhr N (⟨(⟨q,r⟩:qB),(⟨t,u⟩:qB)⟩:jm) D)) az) ?_)
 refine Goes.ret ?_
 obtain rfl:=si h
 exact(gw2 [.str w.1,.i w.2] (FzW.tuple (qh.cons (Ua tS) (qh.cons (Ua tI) qh.nil))))
def zV (p:List Int) (b:Int):Nat->Int->Option (Unit⊕Int)
 |0,_=>none
 |K+1,a=>
  if a<b then
  (idx p a).bind fun c=>
  (idx p b).bind fun d=>
  if c=d then
  some (.inr 15)
  else
  zV p b K (w64 (a+1))
  else
  some (.inl ())
def jG (N:Nat) (p:List Int):Nat->Int->Option (Unit⊕Int)
 |0,_=>none
 |K+1,a=>
  if a<(p.length:Int)then
  ((idx p a).bind fun c=>
  if c<0 then
  some true
  else
  some (decide (c>=(p.length:Int))):Option Bool).bind fun d=>
  if d=true then
  some (.inr 15)
  else
  (zV p a N 0).bind (fun
  |(.inl ())=>
  jG N p K (w64 (a+1))
  |(.inr b)=>
  some (.inr b))
  else
  some (.inl ())
def yg (N:Nat) (p:List Int):Option Int:=
 if(p.length:Int)>256 then
 some 5
 else
 (jG N p N 0).bind (fun
 |(.inl ())=>
 some 0
 |(.inr a)=>
 some a)
theorem zg (N:Nat) (p:List Int) {res:Int} (h:yg N p=some res):qb ZT (.fn 11) [vl encI p] [] (.i res) []:=by
 unfold yg at h
 refine Ub Tryz.func11 rfl rfl (m:=42) rfl (rs:=[.tmp 2]) rfl (l:=(kP p [])) rfl ?_
 refine sh fol (kP p []) ?_
 refine sq ?_
 refine sh fol (kP p [(7,.bool (decide ((p.length:Int)>256)))]) ?_
 refine ihD h (fun y h=>?_) (fun y h=>?_)
 ·refine sh fol [(2,.i 5)] ?_
  refine Goes.ret ?_
  obtain rfl:=si h
  exact(gw2 [.i 5] (Ua tI))
 refine Goes.skip ?_
 refine sq ?_
 refine sh fol (kP p [(3,.i 0)]) ?_
 refine Goes.block ?_
 obtain⟨n,g3,h⟩:=bnd h
 refine Goes.imp (Q:=fun x s'=>(x= .exit 0/\(.inl ())=n/\Sub s' (ofG 42 [],[]))\/(x= .ret/\ ∃w,(.inr w)=n/\kz ZT [.tmp 2] (.i w) .ret s')) ?_ ?_
 ·refine Uc (fun M s=> ∃(d:Int),s=(ofG 42 (kP p (kBZ d)),[])/\jG N p M d=some n) ?_ (m:=N) ⟨_,rfl,g3⟩
  rintro M s ⟨d,rfl,g3⟩
  cases M with
  |zero=>simp only[jG]at g3;cases g3
  |succ M=>
   rw[jG]at g3
   refine sq ?_
   refine sh fol (kP p [(3,.i d),(11,.bool (decide (d<(p.length:Int))))]) ?_
   refine ihD g3 (fun z g3=>?_) (fun z g3=>?_)
   ·refine Goes.skip ?_
    refine sq (Goes.block ?_)
    refine sq ?_
    refine sq ?_
    obtain⟨A,b,g3⟩:=bnd g3
    refine Goes.cut (s':=(ofG 42 (kP p [(3,.i d),(27,.bool A)]),[])) ?_ ?_
    ·obtain⟨B,c,b⟩:=bnd b
     rcases wyD b with⟨o,b⟩|⟨o,b⟩
     ·obtain rfl:=si b
      exact tr fol [2,3,5] (kP p [(3,.i d),(27,.bool true)]) (ac (iv qo encI c) (ac (lv 0 ce3 encI c rfl) (ac (gw o) az)))
     obtain rfl:=si b
     exact tr fol [2,3,5,8,9] (kP p [(3,.i d),(27,.bool (decide (B>=(p.length:Int))))]) (ac (iv qo encI c) (ac (lv 0 ce3 encI c rfl) (ac (gw o) (ac (iv qo encI c) (ac (lv 0 ce3 encI c rfl) az)))))
    refine ihB g3 (fun q g3=>?_) (fun q g3=>?_)
    ·refine sh fol [(2,.i 15)] ?_
     refine Goes.ret ?_
     obtain rfl:=si g3
     exact Or.inr (⟨rfl,_,rfl,(gw2 [.i 15] (Ua tI))⟩)
    refine Goes.skip ?_
    refine sh fol (kP p [(3,.i d),(4,.i 0)]) ?_
    refine Goes.block ?_
    obtain⟨j,a,g3⟩:=bnd g3
    refine Goes.imp (Q:=fun x s'=>(x= .exit 2/\(.inl ())=j/\Sub s' (ofG 42 (kP p (kBZ d)),[]))\/(x= .ret/\ ∃k,(.inr k)=j/\kz ZT [.tmp 2] (.i k) .ret s')) ?_ ?_
    ·refine Uc (fun M s=> ∃(e:Int),s=(ofG 42 (kP p ((3,.i d)::(kBx e))),[])/\zV p d M e=some j) ?_ (m:=N) ⟨_,rfl,a⟩
     rintro M s ⟨e,rfl,a⟩
     cases M with
     |zero=>simp only[zV]at a;cases a
     |succ M=>
      rw[zV]at a
      refine sq ?_
      refine sh fol (kP p [(3,.i d),(4,.i e),(30,.bool (decide (e<d)))]) ?_
      refine ihD a (fun r a=>?_) (fun r a=>?_)
      ·refine Goes.skip ?_
       refine sq (Goes.block ?_)
       obtain⟨t,f,a⟩:=bnd a
       obtain⟨u,g,a⟩:=bnd a
       refine sq (gr fol [2,3,6,7] (kP p [(3,.i d),(4,.i e),(41,.bool (decide (t=u)))]) (ac (iv qo encI f) (ac (lv 0 ce3 encI f rfl) (ac (iv qo encI g) (ac (lv 0 ce3 encI g rfl) az)))) ?_)
       refine ihD a (fun v a=>?_) (fun v a=>?_)
       ·refine sh fol [(2,.i 15)] ?_
        refine Goes.ret ?_
        obtain rfl:=si a
        exact Or.inr (⟨rfl,_,rfl,(gw2 [.i 15] (Ua tI))⟩)
       refine Goes.skip ?_
       refine gh fol (kP p ((3,.i d)::(kBx (w64 (e+1))))) ?_
       exact⟨M,(ofG 42 (kP p ((3,.i d)::(kBx (w64 (e+1))))),[]),Nat.lt_succ_self _,(Sub.refl _),_,rfl,a⟩
      refine Goes.exit ?_
      obtain rfl:=si a
      exact Or.inl (⟨rfl,rfl,(Sub.keep [0,3] rfl rfl)⟩)
    rintro x s' (⟨rfl,rfl,hsub⟩|⟨rfl,C,rfl,hret⟩)
    ·try dsimp only at g3
     refine Goes.sub hsub ?_
     refine gh fol (kP p (kBZ (w64 (d+1)))) ?_
     exact⟨M,(ofG 42 (kP p (kBZ (w64 (d+1)))),[]),Nat.lt_succ_self _,(Sub.refl _),_,rfl,g3⟩
    try dsimp only at g3
    obtain rfl:=si g3
    exact Or.inr (⟨rfl,_,rfl,hret⟩)
   refine Goes.exit ?_
   obtain rfl:=si g3
   exact Or.inl (⟨rfl,rfl,(Sub.keep [] rfl rfl)⟩)
 rintro x s' (⟨rfl,rfl,hsub⟩|⟨rfl,D,rfl,hret⟩)
 ·try dsimp only at h
  refine Goes.sub hsub ?_
  refine sh fol [(2,.i 0)] ?_
  refine Goes.ret ?_
  obtain rfl:=si h
  exact(gw2 [.i 0] (Ua tI))
 try dsimp only at h
 obtain rfl:=si h
 exact hret
def qaK (b:Str):Nat->Int->Option (Unit⊕Int)
 |0,_=>none
 |K+1,a=>
  if a<(b.length:Int)then
  (idx b a).bind fun c=>
  if(c.toNat:Int)=47 then
  some (.inr a)
  else
  qaK b K (w64 (a+1))
  else
  some (.inl ())
def qbP (N:Nat) (a:Str):Option Int:=
 (qaK a N 0).bind (fun
 |(.inl ())=>
 some (a.length:Int)
 |(.inr b)=>
 some b)
theorem qb6 (N:Nat) (a:Str) {res:Int} (h:qbP N a=some res):qb ZT (.fn 38) [.str a] [] (.i res) []:=by
 unfold qbP at h
 refine Ub Tryz.func38 rfl rfl (m:=17) rfl (rs:=[.tmp 2]) rfl (l:=(kBn a)) rfl ?_
 refine sh fol (kBn a) ?_
 refine sq ?_
 refine sh fol [(0,.str a),(3,.i 0)] ?_
 refine Goes.block ?_
 obtain⟨d,g2,h⟩:=bnd h
 refine Goes.imp (Q:=fun x s'=>(x= .exit 0/\(.inl ())=d/\Sub s' (ofG 17 (kBn a),[]))\/(x= .ret/\ ∃e,(.inr e)=d/\kz ZT [.tmp 2] (.i e) .ret s')) ?_ ?_
 ·refine Uc (fun M s=> ∃(b:Int),s=(ofG 17 (kBH a b []),[])/\qaK a M b=some d) ?_ (m:=N) ⟨_,rfl,g2⟩
  rintro M s ⟨b,rfl,g2⟩
  cases M with
  |zero=>simp only[qaK]at g2;cases g2
  |succ M=>
   rw[qaK]at g2
   refine sq ?_
   refine sh fol (kBH a b [(7,.bool (decide (b<(a.length:Int))))]) ?_
   refine ihD g2 (fun g g2=>?_) (fun g g2=>?_)
   ·refine Goes.skip ?_
    refine sq (Goes.block ?_)
    obtain⟨f,c,g2⟩:=bnd g2
    refine sq (gr fol [2] (kBH a b (kBe (decide ((f.toNat:Int)=47)))) (ac (hs (.done (.opt (qax ZT 9 (.str a) (.i b))) (.int .u8 (f.toNat:Int))) (qcR st9 c)) az) ?_)
    refine ihD g2 (fun j g2=>?_) (fun j g2=>?_)
    ·refine sh fol (kBR b) ?_
     refine Goes.ret ?_
     obtain rfl:=si g2
     exact Or.inr (⟨rfl,_,rfl,(gw2 [.i b] (Ua tI))⟩)
    refine Goes.skip ?_
    refine gh fol (kBH a (w64 (b+1)) []) ?_
    exact⟨M,(ofG 17 (kBH a (w64 (b+1)) []),[]),Nat.lt_succ_self _,(Sub.refl _),_,rfl,g2⟩
   refine Goes.exit ?_
   obtain rfl:=si g2
   exact Or.inl (⟨rfl,rfl,(Sub.keep [0] rfl rfl)⟩)
 rintro x s' (⟨rfl,rfl,hsub⟩|⟨rfl,k,rfl,hret⟩)
 ·try dsimp only at h
  refine Goes.sub hsub ?_
  refine sh fol (kBR (a.length:Int)) ?_
  refine Goes.ret ?_
  obtain rfl:=si h
  exact(gw2 [.i (a.length:Int)] (Ua tI))
 try dsimp only at h
 obtain rfl:=si h
 exact hret
def qah (a:Str):Nat->Int->Option (Unit⊕Bool)
 |0,_=>none
 |K+1,b=>
  if b<(a.length:Int)then
  ((idx a b).bind fun c=>
  if(c.toNat:Int)<48 then
  some true
  else
  some (decide ((c.toNat:Int)>57)):Option Bool).bind fun d=>
  if d=true then
  some (.inr false)
  else
  qah a K (w64 (b+1))
  else
  some (.inl ())
def qeK (N:Nat) (b:Str):Option Bool:=
 (qah b N 0).bind (fun
 |(.inl ())=>
 some true
 |(.inr a)=>
 some a)
theorem qhN (N:Nat) (b:Str) {res:Bool} (h:qeK N b=some res):qb ZT (.fn 90) [.str b] [] (.bool res) []:=by
 unfold qeK at h
 refine Ub Tryz.func90 rfl rfl (m:=20) rfl (rs:=[.tmp 2]) rfl (l:=(kBn b)) rfl ?_
 refine sh fol (kBn b) ?_
 refine sq ?_
 refine sh fol [(0,.str b),(3,.i 0)] ?_
 refine Goes.block ?_
 obtain⟨f,g2,h⟩:=bnd h
 refine Goes.imp (Q:=fun x s'=>(x= .exit 0/\(.inl ())=f/\Sub s' (ofG 20 [],[]))\/(x= .ret/\ ∃j,(.inr j)=f/\kz ZT [.tmp 2] (.bool j) .ret s')) ?_ ?_
 ·refine Uc (fun M s=> ∃(c:Int),s=(ofG 20 (kBH b c []),[])/\qah b M c=some f) ?_ (m:=N) ⟨_,rfl,g2⟩
  rintro M s ⟨c,rfl,g2⟩
  cases M with
  |zero=>simp only[qah]at g2;cases g2
  |succ M=>
   rw[qah]at g2
   refine sq ?_
   refine sh fol (kBH b c [(7,.bool (decide (c<(b.length:Int))))]) ?_
   refine ihD g2 (fun k g2=>?_) (fun k g2=>?_)
   ·refine Goes.skip ?_
    refine sq (Goes.block ?_)
    refine sq ?_
    obtain⟨n,a,g2⟩:=bnd g2
    refine Goes.cut (s':=(ofG 20 (kBH b c [(19,.bool n)]),[])) ?_ ?_
    ·obtain⟨e,d,a⟩:=bnd a
     rcases wyD a with⟨g,a⟩|⟨g,a⟩
     ·obtain rfl:=si a
      exact tr fol [2,4] (kBH b c [(19,.bool true)]) (ac (hs (.done (.opt (qax ZT 9 (.str b) (.i c))) (.int .u8 (e.toNat:Int))) (qcR st9 d)) (ac (gw g) az))
     obtain rfl:=si a
     exact tr fol [2,4,7] (kBH b c [(19,.bool (decide ((e.toNat:Int)>57)))]) (ac (hs (.done (.opt (qax ZT 9 (.str b) (.i c))) (.int .u8 (e.toNat:Int))) (qcR st9 d)) (ac (gw g) (ac (hs (.done (.opt (qax ZT 9 (.str b) (.i c))) (.int .u8 (e.toNat:Int))) (qcR st9 d)) az)))
    refine ihB g2 (fun o g2=>?_) (fun o g2=>?_)
    ·refine sh fol [(2,.bool false)] ?_
     refine Goes.ret ?_
     obtain rfl:=si g2
     exact Or.inr (⟨rfl,_,rfl,(gw2 [.bool false] (Ua tB))⟩)
    refine Goes.skip ?_
    refine gh fol (kBH b (w64 (c+1)) []) ?_
    exact⟨M,(ofG 20 (kBH b (w64 (c+1)) []),[]),Nat.lt_succ_self _,(Sub.refl _),_,rfl,g2⟩
   refine Goes.exit ?_
   obtain rfl:=si g2
   exact Or.inl (⟨rfl,rfl,(Sub.keep [] rfl rfl)⟩)
 rintro x s' (⟨rfl,rfl,hsub⟩|⟨rfl,p,rfl,hret⟩)
 ·try dsimp only at h
  refine Goes.sub hsub ?_
  refine sh fol [(2,.bool true)] ?_
  refine Goes.ret ?_
  obtain rfl:=si h
  exact(gw2 [.bool true] (Ua tB))
 try dsimp only at h
 obtain rfl:=si h
 exact hret
def qay (N:Nat) (a:Str):Option Bool:=
 (if(a.length:Int)=0 then
 some true
 else
 if(a.length:Int)>1 then
 (idx a 0).bind fun b=>
 some (decide ((b.toNat:Int)=48))
 else
 some false:Option Bool).bind fun c=>
 if c=true then
 some false
 else
 (qeK N a).bind fun d=>
 some d
theorem jH (N:Nat) (b:Str) {res:Bool} (h:qay N b=some res):qb ZT (.fn 39) [.str b] [] (.bool res) []:=by
 unfold qay at h
 refine Ub Tryz.func39 rfl rfl (m:=18) rfl (rs:=[.tmp 2]) rfl (l:=(kBn b)) rfl ?_
 refine sh fol (kBn b) ?_
 refine sq ?_
 refine sq ?_
 obtain⟨k,a,h⟩:=bnd h
 refine Goes.cut (s':=(ofG 18 ((0,.str b)::(kBy k)),[])) ?_ ?_
 ·rcases wyD a with⟨e,a⟩|⟨e,a⟩
  ·obtain rfl:=si a
   exact tr fol [3] [(0,.str b),(15,.bool true)] (ac (gw e) az)
  rcases wyD a with⟨f,a⟩|⟨f,a⟩
  ·obtain⟨g,c,a⟩:=bnd a
   obtain rfl:=si a
   exact tr fol [3,7,9] ((0,.str b)::(kBy (decide ((g.toNat:Int)=48)))) (ac (gw e) (ac (gw f) (ac (hs (.done (.opt (qax ZT 9 (.str b) (.i 0))) (.int .u8 (g.toNat:Int))) (qcR st9 c)) az)))
  obtain rfl:=si a
  exact tr fol [3,7] [(0,.str b),(15,.bool false)] (ac (gw e) (ac (gw f) az))
 refine ihB h (fun n h=>?_) (fun n h=>?_)
 ·refine sh fol [(2,.bool false)] ?_
  refine Goes.ret ?_
  obtain rfl:=si h
  exact(gw2 [.bool false] (Ua tB))
 refine Goes.skip ?_
 obtain⟨j,d,h⟩:=bnd h
 refine sq (gr fol [1] (kB2 j) (ac (cv (qhN N b d)) az) ?_)
 refine Goes.ret ?_
 obtain rfl:=si h
 exact(gw2 [.bool j] (Ua tB))
def qbb:Nat->(List Int)->Option (List Int)
 |0,_=>none
 |K+1,a=>
  (if(a.length:Int)>0 then
  (idx a (w64 ((a.length:Int)-1))).bind fun b=>
  some (decide (b=0))
  else
  some false:Option Bool).bind fun c=>
  if c=true then
  (cut a 0 (w64 ((a.length:Int)-1))).bind fun d=>
  qbb K d
  else
  some a
def qaT (N:Nat) (w:List Int):Option (List Int):=
 (qbb N w).bind fun a=>
 some a
theorem qap (N:Nat) (w:List Int) {res:List Int} (h:qaT N w=some res):qb ZT (.fn 142) [vl encI w] [] (vl encI res) []:=by
 unfold qaT at h
 refine Ub Tryz.func142 rfl rfl (m:=21) rfl (rs:=[.tmp 2]) rfl (l:=(kP w [])) rfl ?_
 refine sh fol (kP w []) ?_
 refine sq (Goes.block ?_)
 obtain⟨j,g3,h⟩:=bnd h
 refine Goes.imp (Q:=fun x s'=>(x= .exit 0/\ ∃d,d=j/\Sub s' (ofG 21 (kP d []),[]))) ?_ ?_
 ·refine Uc (fun M s=> ∃(b:List Int),s=(ofG 21 (kP b []),[])/\qbb M b=some j) ?_ (m:=N) ⟨_,rfl,g3⟩
  rintro M s ⟨b,rfl,g3⟩
  cases M with
  |zero=>simp only[qbb]at g3;cases g3
  |succ M=>
   rw[qbb]at g3
   refine sq ?_
   refine sq ?_
   obtain⟨k,a,g3⟩:=bnd g3
   refine Goes.cut (s':=(ofG 21 (kP b (kB6 k)),[])) ?_ ?_
   ·rcases wyD a with⟨f,a⟩|⟨f,a⟩
    ·obtain⟨n,c,a⟩:=bnd a
     obtain rfl:=si a
     exact tr fol [3,8,9] (kP b (kB6 (decide (n=0)))) (ac (gw f) (ac (iv qo encI c) (ac (lv 0 ce3 encI c rfl) az)))
    obtain rfl:=si a
    exact tr fol [3] (kP b [(14,.bool false)]) (ac (gw f) az)
   refine ihB g3 (fun o g3=>?_) (fun o g3=>?_)
   ·refine Goes.skip ?_
    refine Goes.block ?_
    obtain⟨g,e,g3⟩:=bnd g3
    refine gr fol [4] (kP g []) (ac (hs (.done (.opt (zi ZT 22 (vl encI b) none (some (.i (w64 ((b.length:Int)-1)))) none)) (vl encI g)) (qkU qo (E:=encI) rfl none (some (w64 ((b.length:Int)-1))) e)) az) ?_
    exact⟨M,(ofG 21 (kP g []),[]),Nat.lt_succ_self _,(Sub.refl _),_,rfl,g3⟩
   refine Goes.exit ?_
   obtain rfl:=si g3
   exact⟨rfl,_,rfl,(Sub.keep [0] rfl rfl)⟩
 rintro x s' ⟨rfl,d,rfl,hsub⟩
 refine Goes.sub hsub ?_
 refine sh fol [(2,vl encI d)] ?_
 refine Goes.ret ?_
 obtain rfl:=si h
 exact(gw2 [vl encI d] (Ua (ql encI _ (nl rfl))))
def xm (N:Nat) (neg:Bool) (w:List Int):Option ky:=
 (qaT N w).bind fun a=>
 (if neg=true then
 some (decide ((a.length:Int)>0))
 else
 some false:Option Bool).bind fun b=>
 some (⟨b,a⟩:ky)
theorem xe (N:Nat) (neg:Bool) (w:List Int) {res:ky} (h:xm N neg w=some res):qb ZT (.fn 98) (.bool neg::(kA1 w)) [] (.agg (.bool res.neg::(kA1 res.w))) []:=by
 unfold xm at h
 refine Ub Tryz.func98 rfl rfl (m:=15) rfl (rs:=[.cell 4 76]) rfl (l:=((0,.bool neg)::(kBG w []))) rfl ?_
 refine sg fol ((0,.bool neg)::(kBG w (kA9 []))) (kV []) ?_
 obtain⟨b,c,h⟩:=bnd h
 refine sq (gr fol [1] ((0,.bool neg)::(kBG b (kA9 []))) (ac (cv (qap N w c)) az) ?_)
 refine sq ?_
 obtain⟨e,a,h⟩:=bnd h
 refine Goes.cut (s':=(ofG 15 (kA9 []),(kU e b []))) ?_ ?_
 ·rcases wyB a with⟨d,a⟩|⟨d,a⟩
  ·obtain rfl:=si a
   exact yx.rq fol [1] (kA9 []) (kU (decide ((b.length:Int)>0)) b []) (ac (gw d) az)
  obtain rfl:=si a
  exact yx.rq fol [1] (kA9 []) [.cells [.bool false,vl encI b]] (ac (gw d) az)
 refine Goes.ret ?_
 obtain rfl:=si h
 exact(gw2 [.agg (.bool e::(kA1 b))] (FzW.agg (qh.cons (Ua tB) (qh.cons (Ua (ql encI _ (nl rfl))) qh.nil))))
def qaU:Nat->(List Int)->Int->Option (List Int)
 |0,_,_=>none
 |K+1,b,a=>
  if(!decide (a=0))=true then
  ((if(a.tmod 1000000000)<0 then
  some (w64 (0-(a.tmod 1000000000)))
  else
  some (a.tmod 1000000000):Option Int)).bind fun c=>
  (app 8 b [c]).bind fun d=>
  qaU K d (w64 (a.tdiv 1000000000))
  else
  some b
def qbI (N:Nat) (n:Int):Option ky:=
 (qaU N ([]:List Int) n).bind fun b=>
 (xm N (decide (n<0)) b).bind fun a=>
 some a
theorem qb0 (N:Nat) (n:Int) {res:ky} (h:qbI N n=some res):qb ZT (.fn 45) [.i n] [] (.agg (.bool res.neg::(kA1 res.w))) []:=by
 unfold qbI at h
 refine Ub Tryz.func45 rfl rfl (m:=25) rfl (rs:=[.cell 2 76]) rfl (l:=(kBi n)) rfl ?_
 refine sg fol ((0,.i n)::(kX [])) (kV []) ?_
 refine sh fol ((0,.i n)::(kX [(3,.nilslice)])) ?_
 refine sh fol ((0,.i n)::(kX ((3,.nilslice)::(kBI (decide (n<0)))))) ?_
 refine sq (Goes.block ?_)
 obtain⟨o,g4,h⟩:=bnd h
 refine Goes.imp (Q:=fun x s'=>(x= .exit 0/\ ∃d,d=o/\Sub s' (ofG 25 (kX (kBD d (decide (n<0)) [])),(kV (kA d []))))) ?_ ?_
 ·refine Goes.sub (s':=(ofG 25 ((0,.i n)::(kX ((3,.gslice 1 ([]:List Int).length 1)::(kBI (decide (n<0)))))),(kV (kAr [])))) (Sub.norm [] [some 0,none] rfl rfl (.keep (.same nI) (.kp (.keep .nil (.keep (.same nB) .nil)))) (.kb rfl (.same sn) (.fresh .nil))) ?_
  refine Uc (fun M s=> ∃(c:List Int) (b:Int),s=(ofG 25 ((0,.i b)::(kX (kBD c (decide (n<0)) []))),(kV (kA c [])))/\qaU M c b=some o) ?_ (m:=N) ⟨_,_,rfl,g4⟩
  rintro M s ⟨c,b,rfl,g4⟩
  cases M with
  |zero=>simp only[qaU]at g4;cases g4
  |succ M=>
   rw[qaU]at g4
   refine sq ?_
   refine sh fol ((0,.i b)::(kX (kBD c (decide (n<0)) [(9,.bool (!decide (b=0)))]))) ?_
   refine ihB g4 (fun p g4=>?_) (fun p g4=>?_)
   ·refine Goes.skip ?_
    refine Goes.block ?_
    refine sh fol ((0,.i b)::(kX (kBD c (decide (n<0)) (kA7 (b.tmod 1000000000))))) ?_
    refine sq ?_
    refine sh fol ((0,.i b)::(kX (kBD c (decide (n<0)) ((5,.i (b.tmod 1000000000))::(kBe (decide ((b.tmod 1000000000)<0))))))) ?_
    obtain⟨q,j,g4⟩:=bnd g4
    refine Goes.imp (Q:=fun x s'=>(x= .normal/\ ∃e,e=q/\Sub s' (ofG 25 ((0,.i b)::(kX (kBD c (decide (n<0)) (kA7 e)))),(kV (kA c []))))) ?_ ?_
    ·refine ihD j (fun r j=>?_) (fun r j=>?_)
     ·refine gh fol ((0,.i b)::(kX (kBD c (decide (n<0)) (kA7 (w64 (0-(b.tmod 1000000000))))))) ?_
      obtain rfl:=si j
      exact⟨rfl,_,rfl,(Sub.refl _)⟩
     refine Goes.skip ?_
     obtain rfl:=si j
     exact⟨rfl,_,rfl,(Sub.keep [0,2,3,4,5] rfl rfl)⟩
    rintro x s' ⟨rfl,e,rfl,hsub⟩
    refine Goes.sub hsub ?_
    obtain⟨f,k,g4⟩:=bnd g4
    refine sq (gq fol [3] ((0,.i b)::(kX ((3,.gslice 3 f.length 1)::(kBI (decide (n<0)))))) (kV (.dead::(kAJ e (kA f [])))) (ac (hs (.run [1,2] (ja ZT [22,22] (.gslice 1 c.length 1) (.slice 2 0 1 1 1)) (kV (kA c (kAJ e []))) (.gslice 3 f.length 1) (kV (.dead::(kAJ e (kA f [])))) true) (yF qo (E:=encI) rfl (qcB (E:=encI) (ys:=[e]) rfl rfl rfl rfl) (qdX (E:=encI) (l:=c) rfl rfl rfl k rfl))) az) ?_)
    refine gh fol ((0,.i (w64 (b.tdiv 1000000000)))::(kX ((3,.gslice 3 f.length 1)::(kBI (decide (n<0)))))) ?_
    exact⟨M,(ofG 25 ((0,.i (w64 (b.tdiv 1000000000)))::(kX (kBD f (decide (n<0)) []))),(kV (kA f []))),Nat.lt_succ_self _,(Sub.norm [] [some 0,some 3] rfl rfl (.keep (.same nI) (.kp (.keep (.gslice rfl) (.keep (.same nB) .nil)))) (.kb rfl (.same sn) (.ks .nil))),_,_,rfl,g4⟩
   refine Goes.exit ?_
   obtain rfl:=si g4
   exact⟨rfl,_,rfl,(Sub.keep [2,3,4] rfl rfl)⟩
 rintro x s' ⟨rfl,d,rfl,hsub⟩
 refine Goes.sub hsub ?_
 obtain⟨a,g,h⟩:=bnd h
 refine sq (gq fol [2] (kX []) (kU a.neg a.w (kAn d [])) (ac (hs (.callF 98 [.bool (decide (n<0)),.gslice 1 d.length 1] (kV (kA d [])) [1] (.bool (decide (n<0))::(kA1 d)) (.agg (.bool a.neg::(kA1 a.w)))) (qa6 (FzL.cons (Uh tB) (FzL.cons (Fz.gs (E:=encI) rfl rfl (nl rfl)) FzL.nil)) (xe N (decide (n<0)) d g) (Still.agg (AllST.cons tB (AllST.cons (ql encI _ (nl rfl)) AllST.nil))))) az) ?_)
 refine Goes.sub (show Sub (ofG 25 (kX []),(kU a.neg a.w (kAn d []))) (ofG 25 (kX []),(kU a.neg a.w []))from(Sub.norm [] [some 0] rfl rfl (.kp .nil) (.kb rfl (.same sn) .nil))) ?_
 refine Goes.ret ?_
 obtain rfl:=si h
 exact(gw2 [.agg (.bool a.neg::(kA1 a.w))] (FzW.agg (qh.cons (Ua tB) (qh.cons (Ua (ql encI _ (nl rfl))) qh.nil))))
def qaO (a:Str):Nat->Int->Int->Option Int
 |0,_,_=>none
 |K+1,c,b=>
  if b<(a.length:Int)then
  (idx a b).bind fun d=>
  qaO a K (w64 ((w64 ((w64 (10*c))+(w64 (d.toNat:Int))))-48)) (w64 (b+1))
  else
  some c
def qbH (N:Nat) (a:Str):Option Int:=
 (qaO a N 0 0).bind fun b=>
 some b
theorem qcc (N:Nat) (a:Str) {res:Int} (h:qbH N a=some res):qb ZT (.fn 139) [.str a] [] (.i res) []:=by
 unfold qbH at h
 refine Ub Tryz.func139 rfl rfl (m:=20) rfl (rs:=[.tmp 2]) rfl (l:=(kBn a)) rfl ?_
 refine sh fol (kBn a) ?_
 refine sh fol [(0,.str a),(3,.i 0)] ?_
 refine sq ?_
 refine sh fol [(0,.str a),(3,.i 0),(4,.i 0)] ?_
 refine Goes.block ?_
 obtain⟨g,g4,h⟩:=bnd h
 refine Goes.imp (Q:=fun x s'=>(x= .exit 0/\ ∃d,d=g/\Sub s' (ofG 20 (kBZ d),[]))) ?_ ?_
 ·refine Uc (fun M s=> ∃(c:Int) (b:Int),s=(ofG 20 (kBH a c (kBx b)),[])/\qaO a M c b=some g) ?_ (m:=N) ⟨_,_,rfl,g4⟩
  rintro M s ⟨c,b,rfl,g4⟩
  cases M with
  |zero=>simp only[qaO]at g4;cases g4
  |succ M=>
   rw[qaO]at g4
   refine sq ?_
   refine sh fol (kBH a c [(4,.i b),(8,.bool (decide (b<(a.length:Int))))]) ?_
   refine ihD g4 (fun j g4=>?_) (fun j g4=>?_)
   ·refine Goes.skip ?_
    refine sq (Goes.block ?_)
    obtain⟨f,e,g4⟩:=bnd g4
    refine gr fol [4] (kBH a (w64 ((w64 ((w64 (10*c))+(w64 (f.toNat:Int))))-48)) (kBx b)) (ac (hs (.done (.opt (qax ZT 9 (.str a) (.i b))) (.int .u8 (f.toNat:Int))) (qcR st9 e)) az) ?_
    refine gh fol (kBH a (w64 ((w64 ((w64 (10*c))+(w64 (f.toNat:Int))))-48)) (kBx (w64 (b+1)))) ?_
    exact⟨M,(ofG 20 (kBH a (w64 ((w64 ((w64 (10*c))+(w64 (f.toNat:Int))))-48)) (kBx (w64 (b+1)))),[]),Nat.lt_succ_self _,(Sub.refl _),_,_,rfl,g4⟩
   refine Goes.exit ?_
   obtain rfl:=si g4
   exact⟨rfl,_,rfl,(Sub.keep [3] rfl rfl)⟩
 rintro x s' ⟨rfl,d,rfl,hsub⟩
 refine Goes.sub hsub ?_
 refine sh fol (kBR d) ?_
 refine Goes.ret ?_
 obtain rfl:=si h
 exact(gw2 [.i d] (Ua tI))
def qaL (N:Nat):Nat->(List Int)->Str->Option ((List Int)×Str)
 |0,_,_=>none
 |K+1,f,a=>
  if(a.length:Int)>9 then
  (cut a (w64 ((a.length:Int)-9)) (a.length:Int)).bind fun b=>
  (qbH N b).bind fun c=>
  (app 8 f [c]).bind fun d=>
  (cut a 0 (w64 ((a.length:Int)-9))).bind fun e=>
  qaL N K d e
  else
  some (f,a)
def qcE (N:Nat) (a:Str):Option ky:=
 (if(a.length:Int)>0 then
 (idx a 0).bind fun h=>
 some (decide ((h.toNat:Int)=45))
 else
 some false:Option Bool).bind fun g=>
 ((if g=true then
 (cut a 1 (a.length:Int)).bind fun i=>
 some i
 else
 some a:Option Str)).bind fun j=>
 (qaL N N ([]:List Int) j).bind fun(b,c)=>
 (qbH N c).bind fun d=>
 (app 8 b [d]).bind fun e=>
 (xm N g e).bind fun f=>
 some f
theorem qdm (N:Nat) (n:Str) {res:ky} (h:qcE N n=some res):qb ZT (.fn 91) [.str n] [] (.agg (.bool res.neg::(kA1 res.w))) []:=by
 unfold qcE at h
 refine Ub Tryz.func91 rfl rfl (m:=40) rfl (rs:=[.cell 2 76]) rfl (l:=(kBn n)) rfl ?_
 refine sg fol ((0,.str n)::(kX [])) (kV []) ?_
 refine sq ?_
 obtain⟨f,c,h⟩:=bnd h
 refine Goes.cut (s':=(ofG 40 ((0,.str n)::(kX (kBt f []))),(kV []))) ?_ ?_
 ·rcases wyD c with⟨J,c⟩|⟨J,c⟩
  ·obtain⟨L,D,c⟩:=bnd c
   obtain rfl:=si c
   exact tr fol [3,5] ((0,.str n)::(kX (kBt (decide ((L.toNat:Int)=45)) []))) (ac (gw J) (ac (hs (.done (.opt (qax ZT 9 (.str n) (.i 0))) (.int .u8 (L.toNat:Int))) (qcR st9 D)) az))
  obtain rfl:=si c
  exact tr fol [3] ((0,.str n)::(kX [(3,.bool false)])) (ac (gw J) az)
 refine sq ?_
 refine sh fol ((0,.str n)::(kX (kBt f (kBe f)))) ?_
 obtain⟨P,r,h⟩:=bnd h
 refine Goes.imp (Q:=fun x s'=>(x= .normal/\ ∃F,F=P/\Sub s' (ofG 40 ((0,.str F)::(kX (kBt f []))),(kV [])))) ?_ ?_
 ·refine ihB r (fun T r=>?_) (fun T r=>?_)
  ·obtain⟨O,G,r⟩:=bnd r
   refine gr fol [1] ((0,.str O)::(kX (kBt f []))) (ac (hs (.done (.opt (zi ZT 9 (.str n) (some (.i 1)) none none)) (.str O)) (xc st9 (some 1) none G)) az) ?_
   obtain rfl:=si r
   exact⟨rfl,_,rfl,(Sub.refl _)⟩
  refine Goes.skip ?_
  obtain rfl:=si r
  exact⟨rfl,_,rfl,(Sub.keep [0,2,3] rfl rfl)⟩
 rintro x s' ⟨rfl,F,rfl,hsub⟩
 refine Goes.sub hsub ?_
 refine sh fol ((0,.str F)::(kX (kBt f [(4,.nilslice)]))) ?_
 refine sq (Goes.block ?_)
 obtain⟨H,a,h⟩:=bnd h
 refine Goes.imp (Q:=fun x s'=>(x= .exit 0/\ ∃g o,(g,o)=H/\Sub s' (ofG 40 ((0,.str o)::(kX (kBt f [(4,.gslice 1 g.length 1)]))),(kV (kA g []))))) ?_ ?_
 ·refine Goes.sub (s':=(ofG 40 ((0,.str F)::(kX (kBt f [(4,.gslice 1 ([]:List Int).length 1)]))),(kV (kAr [])))) (Sub.norm [] [some 0,none] rfl rfl (.keep (.same nS) (.kp (.keep (.same nB) (.keep .nil .nil)))) (.kb rfl (.same sn) (.fresh .nil))) ?_
  refine Uc (fun M s=> ∃(q:List Int) (b:Str),s=(ofG 40 ((0,.str b)::(kX (kBt f [(4,.gslice 1 q.length 1)]))),(kV (kA q [])))/\qaL N M q b=some H) ?_ (m:=N) ⟨_,_,rfl,a⟩
  rintro M s ⟨q,b,rfl,a⟩
  cases M with
  |zero=>simp only[qaL]at a;cases a
  |succ M=>
   rw[qaL]at a
   refine sq ?_
   refine sh fol ((0,.str b)::(kX (kBt f [(4,.gslice 1 q.length 1),(18,.bool (decide ((b.length:Int)>9)))]))) ?_
   refine ihD a (fun K a=>?_) (fun K a=>?_)
   ·refine Goes.skip ?_
    refine Goes.block ?_
    obtain⟨I,t,a⟩:=bnd a
    obtain⟨p,u,a⟩:=bnd a
    obtain⟨j,v,a⟩:=bnd a
    refine sq (gq fol [5,6,8] ((0,.str b)::(kX (kBt f [(4,.gslice 3 j.length 1)]))) (kV (.dead::(kAJ p (kA j [])))) (ac (hs (.done (.opt (zi ZT 9 (.str b) (some (.i (w64 ((b.length:Int)-9)))) none none)) (.str I)) (xc st9 (some (w64 ((b.length:Int)-9))) none t)) (ac (cv (qcc N I u)) (ac (hs (.run [1,2] (ja ZT [22,22] (.gslice 1 q.length 1) (.slice 2 0 1 1 1)) (kV (kA q (kAJ p []))) (.gslice 3 j.length 1) (kV (.dead::(kAJ p (kA j [])))) true) (yF qo (E:=encI) rfl (qcB (E:=encI) (ys:=[p]) rfl rfl rfl rfl) (qdX (E:=encI) (l:=q) rfl rfl rfl v rfl))) az))) ?_)
    obtain⟨y,z,a⟩:=bnd a
    refine gr fol [4] ((0,.str y)::(kX (kBt f [(4,.gslice 3 j.length 1)]))) (ac (hs (.done (.opt (zi ZT 9 (.str b) none (some (.i (w64 ((b.length:Int)-9)))) none)) (.str y)) (xc st9 none (some (w64 ((b.length:Int)-9))) z)) az) ?_
    exact⟨M,(ofG 40 ((0,.str y)::(kX (kBt f [(4,.gslice 1 j.length 1)]))),(kV (kA j []))),Nat.lt_succ_self _,(Sub.norm [] [some 0,some 3] rfl rfl (.keep (.same nS) (.kp (.keep (.same nB) (.keep (.gslice rfl) .nil)))) (.kb rfl (.same sn) (.ks .nil))),_,_,rfl,a⟩
   refine Goes.exit ?_
   obtain rfl:=si a
   exact⟨rfl,_,_,rfl,(Sub.keep [0,2,3,4] rfl rfl)⟩
 rintro x s' ⟨rfl,g,o,rfl,hsub⟩
 try dsimp only at h
 refine Goes.sub hsub ?_
 obtain⟨k,A,h⟩:=bnd h
 obtain⟨e,B,h⟩:=bnd h
 obtain⟨d,C,h⟩:=bnd h
 refine sq (gq fol [3,5,6] (kX []) (kU d.neg d.w (.dead::(kAJ k (kAn e [])))) (ac (cv (qcc N o A)) (ac (hs (.run [1,2] (ja ZT [22,22] (.gslice 1 g.length 1) (.slice 2 0 1 1 1)) (kV (kA g (kAJ k []))) (.gslice 3 e.length 1) (kV (.dead::(kAJ k (kA e [])))) true) (yF qo (E:=encI) rfl (qcB (E:=encI) (ys:=[k]) rfl rfl rfl rfl) (qdX (E:=encI) (l:=g) rfl rfl rfl B rfl))) (ac (hs (.callF 98 [.bool f,.gslice 3 e.length 1] (kV (.dead::(kAJ k (kA e [])))) [3] (.bool f::(kA1 e)) (.agg (.bool d.neg::(kA1 d.w)))) (qa6 (FzL.cons (Uh tB) (FzL.cons (Fz.gs (E:=encI) rfl rfl (nl rfl)) FzL.nil)) (xe N f e C) (Still.agg (AllST.cons tB (AllST.cons (ql encI _ (nl rfl)) AllST.nil))))) az))) ?_)
 refine Goes.sub (show Sub (ofG 40 (kX []),(kU d.neg d.w (.dead::(kAJ k (kAn e []))))) (ofG 40 (kX []),(kU d.neg d.w []))from(Sub.norm [] [some 0] rfl rfl (.kp .nil) (.kb rfl (.same sn) .nil))) ?_
 refine Goes.ret ?_
 obtain rfl:=si h
 exact(gw2 [.agg (.bool d.neg::(kA1 d.w))] (FzW.agg (qh.cons (Ua tB) (qh.cons (Ua (ql encI _ (nl rfl))) qh.nil))))
def qbG (N:Nat) (a:Str):Option (ky×ky):=
 (qbP N a).bind fun b=>
 if b=(a.length:Int)then
 (qcE N a).bind fun c=>
 (qbI N 1).bind fun d=>
 some (c,d)
 else
 (cut a 0 b).bind fun e=>
 (qcE N e).bind fun f=>
 (cut a (w64 (b+1)) (a.length:Int)).bind fun g=>
 (qcE N g).bind fun h=>
 some (f,h)
theorem qb4 (N:Nat) (a:Str) {res:ky×ky} (h:qbG N a=some res):qb ZT (.fn 40) [.str a] [] (.tuple (kBj res.1.neg res.1.w res.2.neg res.2.w)) []:=by
 unfold qbG at h
 refine Ub Tryz.func40 rfl rfl (m:=25) rfl (rs:=[.cell 2 76,.cell 3 76]) rfl (l:=(kBn a)) rfl ?_
 refine sg fol ((0,.str a)::(kX (kBm []))) (kV (kV [])) ?_
 refine sh fol (kX (kBm [(4,.str a)])) ?_
 obtain⟨b,c,h⟩:=bnd h
 refine sq (gr fol [1] (kX (kBm ((4,.str a)::(kA7 b)))) (ac (cv (qb6 N a c)) az) ?_)
 refine sq ?_
 refine sh fol (kX (kBm [(4,.str a),(5,.i b),(12,.bool (decide (b=(a.length:Int))))])) ?_
 refine ihD h (fun t h=>?_) (fun t h=>?_)
 ·obtain⟨n,d,h⟩:=bnd h
  obtain⟨o,e,h⟩:=bnd h
  refine sq (gq fol [1,2] (kX (kBm [])) (kU n.neg n.w (kU o.neg o.w [])) (ac (cv (qdm N a d)) (ac (cv (qb0 N 1 e)) az)) ?_)
  refine Goes.ret ?_
  obtain rfl:=si h
  exact(gw2 (kBj n.neg n.w o.neg o.w) (FzW.tuple (qh.cons (FzW.agg (qh.cons (Ua tB) (qh.cons (Ua (ql encI _ (nl rfl))) qh.nil))) (qh.cons (FzW.agg (qh.cons (Ua tB) (qh.cons (Ua (ql encI _ (nl rfl))) qh.nil))) qh.nil))))
 refine Goes.skip ?_
 obtain⟨r,f,h⟩:=bnd h
 obtain⟨p,g,h⟩:=bnd h
 obtain⟨s,j,h⟩:=bnd h
 obtain⟨q,k,h⟩:=bnd h
 refine sq (gq fol [2,3,7,8] (kX (kBm [])) (kU p.neg p.w (kU q.neg q.w [])) (ac (hs (.done (.opt (zi ZT 9 (.str a) none (some (.i b)) none)) (.str r)) (xc st9 none (some b) f)) (ac (cv (qdm N r g)) (ac (hs (.done (.opt (zi ZT 9 (.str a) (some (.i (w64 (b+1)))) none none)) (.str s)) (xc st9 (some (w64 (b+1))) none j)) (ac (cv (qdm N s k)) az)))) ?_)
 refine Goes.ret ?_
 obtain rfl:=si h
 exact(gw2 (kBj p.neg p.w q.neg q.w) (FzW.tuple (qh.cons (FzW.agg (qh.cons (Ua tB) (qh.cons (Ua (ql encI _ (nl rfl))) qh.nil))) (qh.cons (FzW.agg (qh.cons (Ua tB) (qh.cons (Ua (ql encI _ (nl rfl))) qh.nil))) qh.nil))))
def jT (a:List Int) (b:List Int):Nat->Int->Option (Unit⊕Int)
 |0,_=>none
 |K+1,c=>
  if c>=0 then
  (idx a c).bind fun d=>
  (idx b c).bind fun e=>
  if d<e then
  some (.inr (-1))
  else
  if d>e then
  some (.inr 1)
  else
  jT a b K (w64 (c-1))
  else
  some (.inl ())
def qa8 (N:Nat) (a:List Int) (b:List Int):Option Int:=
 if(!decide ((a.length:Int)=(b.length:Int)))=true then
 if(a.length:Int)<(b.length:Int)then
 some (-1)
 else
 some 1
 else
 (jT a b N (w64 ((a.length:Int)-1))).bind (fun
 |(.inl ())=>
 some 0
 |(.inr c)=>
 some c)
theorem qeL (N:Nat) (a:List Int) (b:List Int) {res:Int} (h:qa8 N a b=some res):qb ZT (.fn 140) (vl encI a::(kA1 b)) [] (.i res) []:=by
 unfold qa8 at h
 refine Ub Tryz.func140 rfl rfl (m:=41) rfl (rs:=[.tmp 4]) rfl (l:=(kI a b [])) rfl ?_
 refine sh fol (kI a b []) ?_
 refine sq ?_
 refine sh fol (kI a b (kB5 (!decide ((a.length:Int)=(b.length:Int))))) ?_
 refine ihB h (fun o h=>?_) (fun o h=>?_)
 ·refine sq ?_
  refine sh fol (kBy (decide ((a.length:Int)<(b.length:Int)))) ?_
  refine ihD h (fun p h=>?_) (fun p h=>?_)
  ·refine sh fol [(4,.i (-1))] ?_
   refine Goes.ret ?_
   obtain rfl:=si h
   exact(gw2 [.i (-1)] (Ua tI))
  refine Goes.skip ?_
  refine sh fol [(4,.i 1)] ?_
  refine Goes.ret ?_
  obtain rfl:=si h
  exact(gw2 [.i 1] (Ua tI))
 refine Goes.skip ?_
 refine sq ?_
 refine sh fol (kI a b (kA7 (w64 ((a.length:Int)-1)))) ?_
 refine Goes.block ?_
 obtain⟨f,g4,h⟩:=bnd h
 refine Goes.imp (Q:=fun x s'=>(x= .exit 0/\(.inl ())=f/\Sub s' (ofG 41 [],[]))\/(x= .ret/\ ∃j,(.inr j)=f/\kz ZT [.tmp 4] (.i j) .ret s')) ?_ ?_
 ·refine Uc (fun M s=> ∃(e:Int),s=(ofG 41 (kI a b (kA7 e)),[])/\jT a b M e=some f) ?_ (m:=N) ⟨_,rfl,g4⟩
  rintro M s ⟨e,rfl,g4⟩
  cases M with
  |zero=>simp only[jT]at g4;cases g4
  |succ M=>
   rw[jT]at g4
   refine sq ?_
   refine sh fol (kI a b [(5,.i e),(20,.bool (decide (e>=0)))]) ?_
   refine ihD g4 (fun q g4=>?_) (fun q g4=>?_)
   ·refine Goes.skip ?_
    refine sq (Goes.block ?_)
    refine sq ?_
    obtain⟨k,c,g4⟩:=bnd g4
    obtain⟨n,d,g4⟩:=bnd g4
    refine sq (gr fol [2,3,6,7] (kI a b [(5,.i e),(31,.bool (decide (k<n)))]) (ac (iv qo encI c) (ac (lv 0 ce3 encI c rfl) (ac (iv qo encI d) (ac (lv 0 ce3 encI d rfl) az)))) ?_)
    refine ihD g4 (fun r g4=>?_) (fun r g4=>?_)
    ·refine sh fol [(4,.i (-1))] ?_
     refine Goes.ret ?_
     obtain rfl:=si g4
     exact Or.inr (⟨rfl,_,rfl,(gw2 [.i (-1)] (Ua tI))⟩)
    refine Goes.skip ?_
    refine sq (gr fol [2,3,6,7] (kI a b [(5,.i e),(40,.bool (decide (k>n)))]) (ac (iv qo encI c) (ac (lv 0 ce3 encI c rfl) (ac (iv qo encI d) (ac (lv 0 ce3 encI d rfl) az)))) ?_)
    refine ihD g4 (fun g g4=>?_) (fun g g4=>?_)
    ·refine sh fol [(4,.i 1)] ?_
     refine Goes.ret ?_
     obtain rfl:=si g4
     exact Or.inr (⟨rfl,_,rfl,(gw2 [.i 1] (Ua tI))⟩)
    refine Goes.skip ?_
    refine gh fol (kI a b (kA7 (w64 (e-1)))) ?_
    exact⟨M,(ofG 41 (kI a b (kA7 (w64 (e-1)))),[]),Nat.lt_succ_self _,(Sub.refl _),_,rfl,g4⟩
   refine Goes.exit ?_
   obtain rfl:=si g4
   exact Or.inl (⟨rfl,rfl,(Sub.keep [] rfl rfl)⟩)
 rintro x s' (⟨rfl,rfl,hsub⟩|⟨rfl,t,rfl,hret⟩)
 ·try dsimp only at h
  refine Goes.sub hsub ?_
  refine sh fol [(4,.i 0)] ?_
  refine Goes.ret ?_
  obtain rfl:=si h
  exact(gw2 [.i 0] (Ua tI))
 try dsimp only at h
 obtain rfl:=si h
 exact hret
def xz (a:List Int) (d:Int):Nat->(List Int)->Int->Int->Option ((List Int)×Int)
 |0,_,_,_=>none
 |K+1,c,e,b=>
  if b>=0 then
  (idx a b).bind fun i=>
  (qfV .i64 (w64 ((w64 (e*1000000000))+i)) d).bind fun f=>
  (idx c b).bind fun j=>
  (put c b f).bind fun g=>
  (qjj .i64 (w64 ((w64 (e*1000000000))+i)) d).bind fun h=>
  xz a d K g h (w64 (b-1))
  else
  some (c,e)
def qbU (N:Nat) (a:List Int) (d:Int):Option ((List Int)×Int):=
 (mk 8 (a.length:Int) 0).bind fun c=>
 (xz a d N c 0 (w64 ((a.length:Int)-1))).bind fun(e,f)=>
 (qaT N e).bind fun b=>
 some (b,f)
theorem qdU (N:Nat) (a:List Int) (d:Int) {res:(List Int)×Int} (h:qbU N a d=some res):qb ZT (.fn 141) (kBF a d) [] (.tuple (kBF res.1 res.2)) []:=by
 unfold qbU at h
 refine Ub Tryz.func141 rfl rfl (m:=39) rfl (rs:=[.tmp 4,.tmp 5]) rfl (l:=(kP a (kB7 d))) rfl ?_
 refine sh fol (kP a (kB7 d)) ?_
 obtain⟨r,C,h⟩:=bnd h
 refine sq (gq fol [2] (kP a ((1,.i d)::(kY r []))) (kA r []) (ac (hs (.run [] (qR ZT 22 (.i (a.length:Int)) (.i (a.length:Int))) [] (.slice 0 0 r.length r.length 1) (kA r []) false) (xW qo (E:=encI) (z:=0) rfl (by kernel_rfl) C rfl)) az) ?_)
 refine sh fol (kP a ((1,.i d)::(kY r [(7,.i 0)]))) ?_
 refine sq ?_
 refine sh fol (kP a ((1,.i d)::(kY r [(7,.i 0),(8,.i (w64 ((a.length:Int)-1)))]))) ?_
 refine Goes.block ?_
 obtain⟨D,b,h⟩:=bnd h
 refine Goes.imp (Q:=fun x s'=>(x= .exit 0/\ ∃g t,(g,t)=D/\Sub s' (ofG 39 (kY g [(7,.i t)]),(kA g [])))) ?_ ?_
 ·refine Uc (fun M s=> ∃(f:List Int) (o:Int) (e:Int),s=(ofG 39 (kP a ((1,.i d)::(kY f (kAo o e [])))),(kA f []))/\xz a d M f o e=some D) ?_ (m:=N) ⟨_,_,_,rfl,b⟩
  rintro M s ⟨f,o,e,rfl,b⟩
  cases M with
  |zero=>simp only[xz]at b;cases b
  |succ M=>
   rw[xz]at b
   refine sq ?_
   refine sh fol (kP a ((1,.i d)::(kY f (kAo o e [(17,.bool (decide (e>=0)))])))) ?_
   refine ihD b (fun F b=>?_) (fun F b=>?_)
   ·refine Goes.skip ?_
    refine sq (Goes.block ?_)
    obtain⟨B,q,b⟩:=bnd b
    refine sq (gr fol [4,5] (kP a ((1,.i d)::(kY f (kAe e (w64 ((w64 (o*1000000000))+B)))))) (ac (iv qo encI q) (ac (lv 0 ce3 encI q rfl) az)) ?_)
    obtain⟨u,v,b⟩:=bnd b
    obtain⟨G,j,b⟩:=bnd b
    obtain⟨c,k,b⟩:=bnd b
    refine sq (gq fol [4,5,6] (kP a ((1,.i d)::(kY f (kAe e (w64 ((w64 (o*1000000000))+B)))))) (kA c []) (ac (hs (.done (.opt (zx ZT .quo 3 (.tmp 29) (.tmp 30) (.i (w64 ((w64 (o*1000000000))+B))) (.i d))) (.i u)) (qbY v)) (ac (hs (.done (.opt (qc ZT 22 (.slice 0 0 f.length f.length 1) (.i e))) (.ptr 0 ((e:Int).toNat*1+0))) (zI qo j)) (ac (hs (.run [0] (qm ZT 3 (.ptr 0 ((e:Int).toNat*1+0)) (.i u)) (kA f []) .undef (kA c []) true) (zY (E:=encI) (l:=f) (y:=u) rfl (show _=some 1 by kernel_rfl) rfl j rfl rfl rfl rfl rfl k rfl)) az))) ?_)
    refine Goes.sub (show Sub (ofG 39 (kP a ((1,.i d)::(kY f (kAe e (w64 ((w64 (o*1000000000))+B)))))),(kA c [])) (ofG 39 (kP a ((1,.i d)::(kY c (kAe e (w64 ((w64 (o*1000000000))+B)))))),(kA c []))from(Sub.norm [] [some 0] rfl rfl (.keep (.same (qf encI _)) (.keep (.same nI) (.keep (.sliceE rfl (qH k)) (.keep (.same nI) (.keep (.same nI) .nil))))) (.ks .nil))) ?_
    obtain⟨p,w,b⟩:=bnd b
    refine gr fol [2] (kP a ((1,.i d)::(kY c (kAo p e [])))) (ac (hs (.done (.opt (zx ZT .rem 3 (.tmp 33) (.tmp 34) (.i (w64 ((w64 (o*1000000000))+B))) (.i d))) (.i p)) (qfP w)) az) ?_
    refine gh fol (kP a ((1,.i d)::(kY c (kAo p (w64 (e-1)) [])))) ?_
    exact⟨M,(ofG 39 (kP a ((1,.i d)::(kY c (kAo p (w64 (e-1)) [])))),(kA c [])),Nat.lt_succ_self _,(Sub.refl _),_,_,_,rfl,b⟩
   refine Goes.exit ?_
   obtain rfl:=si b
   exact⟨rfl,_,_,rfl,(Sub.keep [6,7] rfl rfl)⟩
 rintro x s' ⟨rfl,g,t,rfl,hsub⟩
 try dsimp only at h
 refine Goes.sub hsub ?_
 obtain⟨n,A,h⟩:=bnd h
 refine sq (gq fol [1] ((4,vl encI n)::(kA7 t)) (kAn g []) (ac (hs (.callF 142 [.slice 0 0 g.length g.length 1] (kA g []) [0] [vl encI g] (vl encI n)) (qa6 (FzL.cons (U0 (E:=encI) rfl rfl (nl rfl)) FzL.nil) (qap N g A) (ql encI _ (nl rfl)))) az) ?_)
 refine Goes.sub (show Sub (ofG 39 ((4,vl encI n)::(kA7 t)),(kAn g [])) (ofG 39 ((4,vl encI n)::(kA7 t)),[])from(Sub.norm [] [] rfl rfl (.keep (.same (qf encI _)) (.keep (.same nI) .nil)) .nil)) ?_
 refine Goes.ret ?_
 obtain rfl:=si h
 exact(gw2 (kBF n t) (FzW.tuple (qh.cons (Ua (ql encI _ (nl rfl))) (qh.cons (Ua tI) qh.nil))))
def yN (a:List Int) (b:List Int) (g:Int):Nat->(List Int)->Int->Int->Option ((List Int)×Int)
 |0,_,_,_=>none
 |K+1,h,i,c=>
  if c<(b.length:Int)then
  (idx h (w64 (g+c))).bind fun d=>
  (idx a g).bind fun e=>
  (idx b c).bind fun f=>
  (put h (w64 (g+c)) ((w64 ((w64 (d+(w64 (e*f))))+i)).tmod 1000000000)).bind fun j=>
  yN a b g K j (w64 ((w64 ((w64 (d+(w64 (e*f))))+i)).tdiv 1000000000)) (w64 (c+1))
  else
  some (h,i)
def yR (N:Nat) (a:List Int) (b:List Int):Nat->(List Int)->Int->Option (List Int)
 |0,_,_=>none
 |K+1,h,c=>
  if c<(a.length:Int)then
  (yN a b c N h 0 0).bind fun(d,e)=>
  (idx d (w64 (c+(b.length:Int)))).bind fun f=>
  (put d (w64 (c+(b.length:Int))) (w64 (f+e))).bind fun g=>
  yR N a b K g (w64 (c+1))
  else
  some h
def qai (N:Nat) (a:List Int) (b:List Int):Option (List Int):=
 (mk 8 (w64 ((a.length:Int)+(b.length:Int))) 0).bind fun d=>
 (yR N a b N d 0).bind fun e=>
 (qaT N e).bind fun c=>
 some c
theorem qbA (N:Nat) (a:List Int) (b:List Int) {res:List Int} (h:qai N a b=some res):qb ZT (.fn 143) (vl encI a::(kA1 b)) [] (vl encI res) []:=by
 unfold qai at h
 refine Ub Tryz.func143 rfl rfl (m:=72) rfl (rs:=[.tmp 4]) rfl (l:=(kI a b [])) rfl ?_
 refine sh fol (kI a b []) ?_
 obtain⟨I,J,h⟩:=bnd h
 refine sq (gq fol [5] (kI a b (kC I [])) (kA I []) (ac (hs (.run [] (qR ZT 22 (.i (w64 ((a.length:Int)+(b.length:Int)))) (.i (w64 ((a.length:Int)+(b.length:Int))))) [] (.slice 0 0 I.length I.length 1) (kA I []) false) (xW qo (E:=encI) (z:=0) rfl (by kernel_rfl) J rfl)) az) ?_)
 refine sq ?_
 refine sh fol (kI a b (kC I [(6,.i 0)])) ?_
 refine Goes.block ?_
 obtain⟨O,g5,h⟩:=bnd h
 refine Goes.imp (Q:=fun x s'=>(x= .exit 0/\ ∃u,u=O/\Sub s' (ofG 72 (kC u []),(kA u [])))) ?_ ?_
 ·refine Uc (fun M s=> ∃(F:List Int) (d:Int),s=(ofG 72 (kI a b (kC F [(6,.i d)])),(kA F []))/\yR N a b M F d=some O) ?_ (m:=N) ⟨_,_,rfl,g5⟩
  rintro M s ⟨F,d,rfl,g5⟩
  cases M with
  |zero=>simp only[yR]at g5;cases g5
  |succ M=>
   rw[yR]at g5
   refine sq ?_
   refine sh fol (kI a b (kC F [(6,.i d),(19,.bool (decide (d<(a.length:Int))))])) ?_
   refine ihD g5 (fun P g5=>?_) (fun P g5=>?_)
   ·refine Goes.skip ?_
    refine sq (Goes.block ?_)
    refine sh fol (kI a b (kC F [(6,.i d),(7,.i 0)])) ?_
    refine sq ?_
    refine sh fol (kI a b (kC F [(6,.i d),(7,.i 0),(8,.i 0)])) ?_
    refine Goes.block ?_
    obtain⟨K,c,g5⟩:=bnd g5
    refine Goes.imp (Q:=fun x s'=>(x= .exit 2/\ ∃e v,(e,v)=K/\Sub s' (ofG 72 (kI a b (kC e [(6,.i d),(7,.i v)])),(kA e [])))) ?_ ?_
    ·refine Uc (fun M s=> ∃(q:List Int) (t:Int) (p:Int),s=(ofG 72 (kI a b (kC q ((6,.i d)::(kAo t p [])))),(kA q []))/\yN a b d M q t p=some K) ?_ (m:=N) ⟨_,_,_,rfl,c⟩
     rintro M s ⟨q,t,p,rfl,c⟩
     cases M with
     |zero=>simp only[yN]at c;cases c
     |succ M=>
      rw[yN]at c
      refine sq ?_
      refine sh fol (kI a b (kC q ((6,.i d)::(kAo t p [(25,.bool (decide (p<(b.length:Int))))])))) ?_
      refine ihD c (fun L c=>?_) (fun L c=>?_)
      ·refine Goes.skip ?_
       refine sq (Goes.block ?_)
       obtain⟨f,g,c⟩:=bnd c
       obtain⟨j,w,c⟩:=bnd c
       obtain⟨k,A,c⟩:=bnd c
       refine sq (gr fol [4,5,8,9,12,13] (kI a b (kC q ((6,.i d)::(kAe p (w64 ((w64 (f+(w64 (j*k))))+t)))))) (ac (hs (.done (.opt (qc ZT 22 (.slice 0 0 q.length q.length 1) (.i (w64 (d+p))))) (.ptr 0 ((w64 (d+p):Int).toNat*1+0))) (zI qo g)) (ac (hs (.run [0] (qV ZT 3 (.ptr 0 ((w64 (d+p):Int).toNat*1+0))) (kA q []) (.i f) (kA q []) false) (yE ce3 (E:=encI) (l:=q) rfl rfl g (nl rfl) rfl)) (ac (iv qo encI w) (ac (lv 0 ce3 encI w rfl) (ac (iv qo encI A) (ac (lv 0 ce3 encI A rfl) az)))))) ?_)
       obtain⟨n,B,c⟩:=bnd c
       refine sq (gq fol [6,7] (kI a b (kC q ((6,.i d)::(kAe p (w64 ((w64 (f+(w64 (j*k))))+t)))))) (kA n []) (ac (hs (.done (.opt (qc ZT 22 (.slice 0 0 q.length q.length 1) (.i (w64 (d+p))))) (.ptr 0 ((w64 (d+p):Int).toNat*1+0))) (zI qo g)) (ac (hs (.run [0] (qm ZT 3 (.ptr 0 ((w64 (d+p):Int).toNat*1+0)) (.i ((w64 ((w64 (f+(w64 (j*k))))+t)).tmod 1000000000))) (kA q []) .undef (kA n []) true) (zY (E:=encI) (l:=q) (y:=(w64 ((w64 (f+(w64 (j*k))))+t)).tmod 1000000000) rfl (show _=some 1 by kernel_rfl) rfl g rfl rfl rfl rfl rfl B rfl)) az)) ?_)
       refine Goes.sub (show Sub (ofG 72 (kI a b (kC q ((6,.i d)::(kAe p (w64 ((w64 (f+(w64 (j*k))))+t)))))),(kA n [])) (ofG 72 (kI a b (kC n ((6,.i d)::(kAe p (w64 ((w64 (f+(w64 (j*k))))+t)))))),(kA n []))from(Sub.norm [] [some 0] rfl rfl (.keep (.same (qf encI _)) (.keep (.same (qf encI _)) (.keep (.sliceE rfl (qH B)) (.keep (.same nI) (.keep (.same nI) (.keep (.same nI) .nil)))))) (.ks .nil))) ?_
       refine gh fol (kI a b (kC n ((6,.i d)::(kAo (w64 ((w64 ((w64 (f+(w64 (j*k))))+t)).tdiv 1000000000)) p [])))) ?_
       refine gh fol (kI a b (kC n ((6,.i d)::(kAo (w64 ((w64 ((w64 (f+(w64 (j*k))))+t)).tdiv 1000000000)) (w64 (p+1)) [])))) ?_
       exact⟨M,(ofG 72 (kI a b (kC n ((6,.i d)::(kAo (w64 ((w64 ((w64 (f+(w64 (j*k))))+t)).tdiv 1000000000)) (w64 (p+1)) [])))),(kA n [])),Nat.lt_succ_self _,(Sub.refl _),_,_,_,rfl,c⟩
      refine Goes.exit ?_
      obtain rfl:=si c
      exact⟨rfl,_,_,rfl,(Sub.keep [0,1,5,6,7] rfl rfl)⟩
    rintro x s' ⟨rfl,e,v,rfl,hsub⟩
    try dsimp only at g5
    refine Goes.sub hsub ?_
    obtain⟨G,o,g5⟩:=bnd g5
    obtain⟨r,C,g5⟩:=bnd g5
    refine gq fol [10,11,14,15] (kI a b (kC e [(6,.i d)])) (kA r []) (ac (hs (.done (.opt (qc ZT 22 (.slice 0 0 e.length e.length 1) (.i (w64 (d+(b.length:Int)))))) (.ptr 0 ((w64 (d+(b.length:Int)):Int).toNat*1+0))) (zI qo o)) (ac (hs (.run [0] (qV ZT 3 (.ptr 0 ((w64 (d+(b.length:Int)):Int).toNat*1+0))) (kA e []) (.i G) (kA e []) false) (yE ce3 (E:=encI) (l:=e) rfl rfl o (nl rfl) rfl)) (ac (hs (.done (.opt (qc ZT 22 (.slice 0 0 e.length e.length 1) (.i (w64 (d+(b.length:Int)))))) (.ptr 0 ((w64 (d+(b.length:Int)):Int).toNat*1+0))) (zI qo o)) (ac (hs (.run [0] (qm ZT 3 (.ptr 0 ((w64 (d+(b.length:Int)):Int).toNat*1+0)) (.i (w64 (G+v)))) (kA e []) .undef (kA r []) true) (zY (E:=encI) (l:=e) (y:=w64 (G+v)) rfl (show _=some 1 by kernel_rfl) rfl o rfl rfl rfl rfl rfl C rfl)) az)))) ?_
    refine Goes.sub (show Sub (ofG 72 (kI a b (kC e [(6,.i d)])),(kA r [])) (ofG 72 (kI a b (kC r [(6,.i d)])),(kA r []))from(Sub.norm [] [some 0] rfl rfl (.keep (.same (qf encI _)) (.keep (.same (qf encI _)) (.keep (.sliceE rfl (qH C)) (.keep (.same nI) .nil)))) (.ks .nil))) ?_
    refine gh fol (kI a b (kC r [(6,.i (w64 (d+1)))])) ?_
    exact⟨M,(ofG 72 (kI a b (kC r [(6,.i (w64 (d+1)))])),(kA r [])),Nat.lt_succ_self _,(Sub.refl _),_,_,rfl,g5⟩
   refine Goes.exit ?_
   obtain rfl:=si g5
   exact⟨rfl,_,rfl,(Sub.keep [5] rfl rfl)⟩
 rintro x s' ⟨rfl,u,rfl,hsub⟩
 refine Goes.sub hsub ?_
 obtain⟨D,H,h⟩:=bnd h
 refine sq (gq fol [1] [(4,vl encI D)] (kAn u []) (ac (hs (.callF 142 [.slice 0 0 u.length u.length 1] (kA u []) [0] [vl encI u] (vl encI D)) (qa6 (FzL.cons (U0 (E:=encI) rfl rfl (nl rfl)) FzL.nil) (qap N u H) (ql encI _ (nl rfl)))) az) ?_)
 refine Goes.sub (show Sub (ofG 72 [(4,vl encI D)],(kAn u [])) (ofG 72 [(4,vl encI D)],[])from(Sub.norm [] [] rfl rfl (.keep (.same (qf encI _)) .nil) .nil)) ?_
 refine Goes.ret ?_
 obtain rfl:=si h
 exact(gw2 [vl encI D] (Ua (ql encI _ (nl rfl))))
def qaS (u:List Int) (v:List Int) (j:Int):Nat->Int->Int->Option (Int⊕Int)
 |0,_,_=>none
 |K+1,c,a=>
  (if a>=1000000000 then
  some true
  else
  (idx v (w64 ((v.length:Int)-2))).bind fun d=>
  (idx u (w64 ((w64 (j+(v.length:Int)))-2))).bind fun e=>
  some (decide ((w64 (a*d))>(w64 ((w64 (c*1000000000))+e)))):Option Bool).bind fun f=>
  if f=true then
  (idx v (w64 ((v.length:Int)-1))).bind fun b=>
  if(w64 (c+b))>=1000000000 then
  some (.inr (w64 (a-1)))
  else
  qaS u v j K (w64 (c+b)) (w64 (a-1))
  else
  some (.inl a)
def qfd (N:Nat) (u:List Int) (v:List Int) (j:Int):Option Int:=
 (idx u (w64 (j+(v.length:Int)))).bind fun b=>
 (idx u (w64 ((w64 (j+(v.length:Int)))-1))).bind fun c=>
 (idx v (w64 ((v.length:Int)-1))).bind fun d=>
 (qfV .i64 (w64 ((w64 (b*1000000000))+c)) d).bind fun e=>
 (qjj .i64 (w64 ((w64 (b*1000000000))+c)) d).bind fun f=>
 (qaS u v j N f e).bind (fun
 |(.inl g)=>
 some g
 |(.inr a)=>
 some a)
theorem qit (N:Nat) (u:List Int) (v:List Int) (j:Int) {res:Int} (h:qfd N u v j=some res):qb ZT (.fn 144) (vl encI u::(kBF v j)) [] (.i res) []:=by
 unfold qfd at h
 refine Ub Tryz.func144 rfl rfl (m:=77) rfl (rs:=[.tmp 6]) rfl (l:=(kI u v (kBR j))) rfl ?_
 refine sh fol (kI u v (kBR j)) ?_
 refine sh fol (kI u v [(2,.i j),(7,.i (v.length:Int))]) ?_
 obtain⟨z,o,h⟩:=bnd h
 obtain⟨A,p,h⟩:=bnd h
 refine sq (gr fol [4,5,12,13] (kI u v ((2,.i j)::(kAo (v.length:Int) (w64 ((w64 (z*1000000000))+A)) []))) (ac (iv qo encI o) (ac (lv 0 ce3 encI o rfl) (ac (iv qo encI p) (ac (lv 0 ce3 encI p rfl) az)))) ?_)
 obtain⟨H,c,h⟩:=bnd h
 obtain⟨I,r,h⟩:=bnd h
 obtain⟨J,t,h⟩:=bnd h
 refine sq (gr fol [4,5,6,11,12,13] (kI u v ((2,.i j)::(7,.i (v.length:Int))::(kAl I J []))) (ac (iv qo encI c) (ac (lv 0 ce3 encI c rfl) (ac (hs (.done (.opt (zx ZT .quo 3 (.tmp 28) (.tmp 33) (.i (w64 ((w64 (z*1000000000))+A))) (.i H))) (.i I)) (qbY r)) (ac (iv qo encI c) (ac (lv 0 ce3 encI c rfl) (ac (hs (.done (.opt (zx ZT .rem 3 (.tmp 35) (.tmp 40) (.i (w64 ((w64 (z*1000000000))+A))) (.i H))) (.i J)) (qfP t)) az)))))) ?_)
 refine sq (Goes.block ?_)
 obtain⟨B,b,h⟩:=bnd h
 refine Goes.imp (Q:=fun x s'=>(x= .exit 0/\ ∃w,(.inl w)=B/\Sub s' (ofG 77 [(9,.i w)],[]))\/(x= .ret/\ ∃y,(.inr y)=B/\kz ZT [.tmp 6] (.i y) .ret s')) ?_ ?_
 ·refine Uc (fun M s=> ∃(e:Int) (d:Int),s=(ofG 77 (kI u v ((2,.i j)::(7,.i (v.length:Int))::(kAl d e []))),[])/\qaS u v j M e d=some B) ?_ (m:=N) ⟨_,_,rfl,b⟩
  rintro M s ⟨e,d,rfl,b⟩
  cases M with
  |zero=>simp only[qaS]at b;cases b
  |succ M=>
   rw[qaS]at b
   refine sq ?_
   refine sq ?_
   obtain⟨C,a,b⟩:=bnd b
   refine Goes.cut (s':=(ofG 77 (kI u v ((2,.i j)::(7,.i (v.length:Int))::(kAl d e [(63,.bool C)]))),[])) ?_ ?_
   ·rcases wyD a with⟨q,a⟩|⟨q,a⟩
    ·obtain rfl:=si a
     exact tr fol [2] (kI u v ((2,.i j)::(7,.i (v.length:Int))::(kAl d e [(63,.bool true)]))) (ac (gw q) az)
    obtain⟨D,f,a⟩:=bnd a
    obtain⟨E,g,a⟩:=bnd a
    obtain rfl:=si a
    exact tr fol [2,7,8,17,18] (kI u v ((2,.i j)::(7,.i (v.length:Int))::(kAl d e [(63,.bool (decide ((w64 (d*D))>(w64 ((w64 (e*1000000000))+E)))))]))) (ac (gw q) (ac (iv qo encI f) (ac (lv 0 ce3 encI f rfl) (ac (iv qo encI g) (ac (lv 0 ce3 encI g rfl) az)))))
   refine ihB b (fun F b=>?_) (fun F b=>?_)
   ·refine Goes.skip ?_
    refine Goes.block ?_
    refine sh fol (kI u v ((2,.i j)::(7,.i (v.length:Int))::(kAl (w64 (d-1)) e []))) ?_
    obtain⟨n,k,b⟩:=bnd b
    refine sq (gr fol [4,5] (kI u v ((2,.i j)::(7,.i (v.length:Int))::(kAl (w64 (d-1)) (w64 (e+n)) []))) (ac (iv qo encI k) (ac (lv 0 ce3 encI k rfl) az)) ?_)
    refine sh fol (kI u v ((2,.i j)::(7,.i (v.length:Int))::(kAl (w64 (d-1)) (w64 (e+n)) [(74,.bool (decide ((w64 (e+n))>=1000000000)))]))) ?_
    refine ihD b (fun G b=>?_) (fun G b=>?_)
    ·refine sh fol [(6,.i (w64 (d-1)))] ?_
     refine Goes.ret ?_
     obtain rfl:=si b
     exact Or.inr (⟨rfl,_,rfl,(gw2 [.i (w64 (d-1))] (Ua tI))⟩)
    refine Goes.skip ?_
    exact⟨M,(ofG 77 (kI u v ((2,.i j)::(7,.i (v.length:Int))::(kAl (w64 (d-1)) (w64 (e+n)) []))),[]),Nat.lt_succ_self _,(Sub.keep [0,1,2,7,9,10] rfl rfl),_,_,rfl,b⟩
   refine Goes.exit ?_
   obtain rfl:=si b
   exact Or.inl (⟨rfl,_,rfl,(Sub.keep [9] rfl rfl)⟩)
 rintro x s' (⟨rfl,w,rfl,hsub⟩|⟨rfl,K,rfl,hret⟩)
 ·try dsimp only at h
  refine Goes.sub hsub ?_
  refine sh fol [(6,.i w)] ?_
  refine Goes.ret ?_
  obtain rfl:=si h
  exact(gw2 [.i w] (Ua tI))
 try dsimp only at h
 obtain rfl:=si h
 exact hret
def yL (a:List Int):Nat->(List Int)->Option (List Int)
 |0,_=>none
 |K+1,b=>
  if(b.length:Int)<(w64 ((a.length:Int)+1))then
  (app 8 b [0]).bind fun c=>
  yL a K c
  else
  some b
def yU (h:List Int) (e:Int) (a:Int):Nat->(List Int)->Int->Int->Option ((List Int)×Int)
 |0,_,_,_=>none
 |K+1,f,b,c=>
  if c<(h.length:Int)then
  (idx h c).bind fun d=>
  (idx f (w64 (c+e))).bind fun g=>
  ((if(w64 (g-((w64 ((w64 (a*d))+b)).tmod 1000000000)))<0 then
  some (w64 ((w64 ((w64 ((w64 (a*d))+b)).tdiv 1000000000))+1),w64 ((w64 (g-((w64 ((w64 (a*d))+b)).tmod 1000000000)))+1000000000))
  else
  some (w64 ((w64 ((w64 (a*d))+b)).tdiv 1000000000),w64 (g-((w64 ((w64 (a*d))+b)).tmod 1000000000))):Option (Int×Int))).bind fun(i,j)=>
  (put f (w64 (c+e)) j).bind fun k=>
  yU h e a K k i (w64 (c+1))
  else
  some (f,b)
def yX (h:List Int) (b:Int) (e:Int):Nat->(List Int)->Int->Int->Option ((List Int)×Int×Int)
 |0,_,_,_=>none
 |K+1,c,d,a=>
  if a<(h.length:Int)then
  (idx c (w64 (a+b))).bind fun f=>
  (idx h a).bind fun g=>
  (put c (w64 (a+b)) ((w64 ((w64 (f+g))+d)).tmod 1000000000)).bind fun i=>
  yX h b e K i (w64 ((w64 ((w64 (f+g))+d)).tdiv 1000000000)) (w64 (a+1))
  else
  some (c,w64 (e-1),d)
def yS (N:Nat) (b:List Int):Nat->(List Int)->(List Int)->Int->Option ((List Int)×(List Int))
 |0,_,_,_=>none
 |K+1,c,d,a=>
  if a>=0 then
  (qfd N c b a).bind fun e=>
  (yU b a e N c 0 0).bind fun(g,i)=>
  (idx g (w64 (a+(b.length:Int)))).bind fun j=>
  (put g (w64 (a+(b.length:Int))) (w64 (j-i))).bind fun f=>
  (idx f (w64 (a+(b.length:Int)))).bind fun k=>
  ((if k<0 then
  (yX b a e N f 0 0).bind fun(h,l,m)=>
  (idx h (w64 (a+(b.length:Int)))).bind fun n=>
  (put h (w64 (a+(b.length:Int))) (w64 (n+m))).bind fun o=>
  some (o,l)
  else
  some (f,e):Option ((List Int)×Int))).bind fun(p,q)=>
  (idx d a).bind fun s=>
  (put d a q).bind fun r=>
  yS N b K p r (w64 (a-1))
  else
  some (c,d)
def qaf (N:Nat) (a:List Int) (b:List Int):Option ((List Int)×(List Int)):=
 (qa8 N a b).bind fun q=>
 if q<0 then
 some ([],a)
 else
 if(b.length:Int)=1 then
 (idx b 0).bind fun r=>
 (qbU N a r).bind fun p=>
 (qaT N ([p.2]:List Int)).bind fun s=>
 some (p.1,s)
 else
 (idx b (w64 ((b.length:Int)-1))).bind fun t=>
 (qfV .i64 1000000000 (w64 (t+1))).bind fun e=>
 (qai N b ([e]:List Int)).bind fun d=>
 (qai N a ([e]:List Int)).bind fun f=>
 (app 8 ([]:List Int) f).bind fun g=>
 (yL a N g).bind fun c=>
 (mk 8 (w64 ((c.length:Int)-(d.length:Int))) 0).bind fun h=>
 (yS N d N c h (w64 ((w64 ((c.length:Int)-(d.length:Int)))-1))).bind fun(i,j)=>
 (cut i 0 (d.length:Int)).bind fun k=>
 (qaT N k).bind fun l=>
 (idx ([e]:List Int) 0).bind fun m=>
 (qbU N l m).bind fun n=>
 (qaT N j).bind fun o=>
 some (o,n.1)
theorem qbC (N:Nat) (a:List Int) (b:List Int) {res:(List Int)×(List Int)} (h:qaf N a b=some res):qb ZT (.fn 92) (vl encI a::(kA1 b)) [] (.tuple (vl encI res.1::(kA1 res.2))) []:=by
 unfold qaf at h
 refine Ub Tryz.func92 rfl rfl (m:=206) rfl (rs:=[.tmp 4,.tmp 5]) rfl (l:=(kI a b [])) rfl ?_
 refine sh fol (kI a b []) ?_
 refine sq ?_
 obtain⟨r1,e_r1,h⟩:=bnd h
 refine sq (gr fol [2] (kI a b [(27,.bool (decide (r1<0)))]) (ac (cv (qeL N a b e_r1)) az) ?_)
 refine ihD h (fun c2 h=>?_) (fun c2 h=>?_)
 ·refine sh fol [(4,.nilslice),(5,vl encI a)] ?_
  refine Goes.ret ?_
  obtain rfl:=si h
  exact(gw2 (.nilslice::(kA1 a)) (FzW.tuple (qh.cons (FzW.nilv (E:=encI)) (qh.cons (Ua (ql encI _ (nl rfl))) qh.nil))))
 refine Goes.skip ?_
 refine sq ?_
 refine sh fol (kI a b [(31,.bool (decide ((b.length:Int)=1)))]) ?_
 refine ihD h (fun c3 h=>?_) (fun c3 h=>?_)
 ·obtain⟨x4,e_x4,h⟩:=bnd h
  obtain⟨r5,e_r5,h⟩:=bnd h
  refine sq (gr fol [2,3,4] [(6,vl encI r5.1),(7,.i r5.2)] (ac (iv qo encI e_x4) (ac (lv 0 ce3 encI e_x4 rfl) (ac (cv (qdU N a x4 e_r5)) az))) ?_)
  obtain⟨r6,e_r6,h⟩:=bnd h
  refine sq (gq fol [3] (kBv r5.1 r6) [.frozen [.i r5.2]] (ac (hs (.callF 142 [.slice 0 0 1 1 1] (kAJ r5.2 []) [0] [vl encI ([r5.2]:List Int)] (vl encI r6)) (qa6 (FzL.cons (Fz.lit rfl rfl (Uj (AllST.cons tI AllST.nil))) FzL.nil) (qap N ([r5.2]:List Int) e_r6) (ql encI _ (nl rfl)))) az) ?_)
  refine Goes.sub (show Sub (ofG 206 (kBv r5.1 r6),[.frozen [.i r5.2]]) (ofG 206 (kBv r5.1 r6),[])from(Sub.norm [] [] rfl rfl (.keep (.same (qf encI _)) (.keep (.same (qf encI _)) .nil)) .nil)) ?_
  refine Goes.ret ?_
  obtain rfl:=si h
  exact(gw2 (vl encI r5.1::(kA1 r6)) (FzW.tuple (qh.cons (Ua (ql encI _ (nl rfl))) (qh.cons (Ua (ql encI _ (nl rfl))) qh.nil))))
 refine Goes.skip ?_
 obtain⟨x7,e_x7,h⟩:=bnd h
 obtain⟨g,e_q8,h⟩:=bnd h
 refine sq (gq fol [4,5,7] (kI a b [(8,.slice 0 0 1 1 1)]) (kAJ g []) (ac (iv qo encI e_x7) (ac (lv 0 ce3 encI e_x7 rfl) (ac (hs (.done (.opt (zx ZT .quo 3 (.const (.int .i64 1000000000)) (.tmp 50) (.i 1000000000) (.i (w64 (x7+1))))) (.i g)) (qbY e_q8)) az))) ?_)
 obtain⟨e,e_r9,h⟩:=bnd h
 refine sq (gq fol [2] (kP a [(8,.slice 0 0 1 1 1),(9,vl encI e)]) [.frozen [.i g]] (ac (hs (.callF 143 [vl encI b,.slice 0 0 1 1 1] (kAJ g []) [0] (vl encI b::(kA1 ([g]:List Int))) (vl encI e)) (qa6 (FzL.cons (Uh (ql encI _ (nl rfl))) (FzL.cons (Fz.lit rfl rfl (Uj (AllST.cons tI AllST.nil))) FzL.nil)) (qbA N b ([g]:List Int) e_r9) (ql encI _ (nl rfl)))) az) ?_)
 refine Goes.sub (show Sub (ofG 206 (kP a [(8,.slice 0 0 1 1 1),(9,vl encI e)]),[.frozen [.i g]]) (ofG 206 (kP a (kBk ([g]:List Int) [(9,vl encI e)])),[])from(Sub.norm [0] [] rfl rfl (.keep (.same (qf encI _)) (.keep (.frz (Fz.litF rfl rfl (Uj (AllST.cons tI AllST.nil))) (qf encI _)) (.keep (.same (qf encI _)) .nil))) .nil)) ?_
 refine sh fol (kP a (kBk ([g]:List Int) (kAg e (e.length:Int) []))) ?_
 obtain⟨r10,e_r10,h⟩:=bnd h
 obtain⟨a1,e_l11,h⟩:=bnd h
 refine sq (gq fol [3,4] (kP a (kBk ([g]:List Int) (kAg e (e.length:Int) [(11,.oslice 1 a1.length 1)]))) (.dead::(kA a1 [])) (ac (cv (qbA N a ([g]:List Int) e_r10)) (ac (hs (.run [0] (ja ZT [22,22] (.slice 0 0 0 0 1) (vl encI r10)) [.cells []] (.oslice 1 a1.length 1) (.dead::(kA a1 [])) true) (yF qo (E:=encI) rfl (qpL (E:=encI) rfl _) (dst_z (E:=encI) rfl rfl rfl e_l11 rfl))) az)) ?_)
 refine sq (Goes.block ?_)
 obtain⟨r14,D,h⟩:=bnd h
 refine Goes.imp (Q:=fun x s'=>(x= .exit 0/\ ∃F,F=r14/\Sub s' (ofG 206 (kBk ([g]:List Int) (kAg e (e.length:Int) (kBw F []))),(kA F [])))) ?_ ?_
 ·refine Goes.sub (s':=(ofG 206 (kP a (kBk ([g]:List Int) (kAg e (e.length:Int) (kBw a1 [])))),(kA a1 []))) (Sub.norm [] [some 1] rfl rfl (.keep (.same (qf encI _)) (.keep (.same (qf encI _)) (.keep (.same (qf encI _)) (.keep (.same nI) (.keep (.oslice rfl) .nil))))) (.ks .nil)) ?_
  refine Uc (fun M s=> ∃(K:List Int),s=(ofG 206 (kP a (kBk ([g]:List Int) (kAg e (e.length:Int) (kBw K [])))),(kA K []))/\yL a M K=some r14) ?_ (m:=N) ⟨_,rfl,D⟩
  rintro M s ⟨K,rfl,D⟩
  cases M with
  |zero=>simp only[yL]at D;cases D
  |succ M=>
   rw[yL]at D
   refine sq ?_
   refine sh fol (kP a (kBk ([g]:List Int) (kAg e (e.length:Int) (kBw K [(68,.bool (decide ((K.length:Int)<(w64 ((a.length:Int)+1)))))])))) ?_
   refine ihD D (fun c15 D=>?_) (fun c15 D=>?_)
   ·refine Goes.skip ?_
    refine Goes.block ?_
    obtain⟨a2,e_l16,D⟩:=bnd D
    refine gq fol [2] (kP a (kBk ([g]:List Int) (kAg e (e.length:Int) [(11,.oslice 2 a2.length 1)]))) (.dead:: .cells [.i 0]::(kA a2 [])) (ac (hs (.run [0,1] (ja ZT [22,22] (.oslice 0 K.length 1) (.slice 1 0 1 1 1)) (kA K [.cells [.i 0]]) (.oslice 2 a2.length 1) (.dead:: .cells [.i 0]::(kA a2 [])) true) (yF qo (E:=encI) rfl (qcB (E:=encI) (ys:=[0]) rfl rfl rfl rfl) (qm0 (E:=encI) (l:=K) rfl rfl rfl e_l16 rfl))) az) ?_
    exact⟨M,(ofG 206 (kP a (kBk ([g]:List Int) (kAg e (e.length:Int) (kBw a2 [])))),(kA a2 [])),Nat.lt_succ_self _,(Sub.norm [] [some 2] rfl rfl (.keep (.same (qf encI _)) (.keep (.same (qf encI _)) (.keep (.same (qf encI _)) (.keep (.same nI) (.keep (.oslice rfl) .nil))))) (.ks .nil)),_,rfl,D⟩
   refine Goes.exit ?_
   obtain rfl:=si D
   exact⟨rfl,_,rfl,(Sub.keep [8,9,10,11] rfl rfl)⟩
 rintro x s' ⟨rfl,F,rfl,hsub⟩
 refine Goes.sub hsub ?_
 obtain⟨Z,e_l17,h⟩:=bnd h
 refine sq (gq fol [4] (kBk ([g]:List Int) (kAg e (e.length:Int) (kBw F [(12,.slice 1 0 Z.length Z.length 1)]))) (kA F (kA Z [])) (ac (hs (.run [] (qR ZT 22 (.i (w64 ((F.length:Int)-(e.length:Int)))) (.i (w64 ((F.length:Int)-(e.length:Int))))) (kA F []) (.slice 1 0 Z.length Z.length 1) (kA F (kA Z [])) false) (xW qo (E:=encI) (z:=0) rfl (by kernel_rfl) e_l17 rfl)) az) ?_)
 refine sq ?_
 refine sh fol (kB ([g]:List Int) e (e.length:Int) F Z (w64 ((w64 ((F.length:Int)-(e.length:Int)))-1)) []) ?_
 refine Goes.block ?_
 obtain⟨r23,j,h⟩:=bnd h
 refine Goes.imp (Q:=fun x s'=>(x= .exit 2/\ ∃a3 q,(a3,q)=r23/\Sub s' (ofG 206 (kBk ([g]:List Int) ((10,.i (e.length:Int))::(kBw a3 [(12,.slice 1 0 q.length q.length 1)]))),(kA a3 (kA q []))))) ?_ ?_
 ·refine Uc (fun M s=> ∃(G:List Int) (c:List Int) (d:Int),s=(ofG 206 (kB ([g]:List Int) e (e.length:Int) G c d []),(kA G (kA c [])))/\yS N e M G c d=some r23) ?_ (m:=N) ⟨_,_,_,rfl,j⟩
  rintro M s ⟨G,c,d,rfl,j⟩
  cases M with
  |zero=>simp only[yS]at j;cases j
  |succ M=>
   rw[yS]at j
   refine sq ?_
   refine sh fol (kB ([g]:List Int) e (e.length:Int) G c d [(83,.bool (decide (d>=0)))]) ?_
   refine ihD j (fun c24 j=>?_) (fun c24 j=>?_)
   ·refine Goes.skip ?_
    refine sq (Goes.block ?_)
    obtain⟨f,e_r25,j⟩:=bnd j
    refine sq (gr fol [3] (kB ([g]:List Int) e (e.length:Int) G c d [(14,.i f)]) (ac (hs (.call 144 (.oslice 0 G.length 1::(kBF e d)) (kA G (kA c [])) [0] (vl encI G::(kBF e d)) (.i f)) (qbx (FzL.cons (Fz.os (E:=encI) rfl rfl (nl rfl)) (FzL.cons (Uh (ql encI _ (nl rfl))) (FzL.cons (Uh tI) FzL.nil))) (qit N G e d e_r25) tI rfl)) az) ?_)
    refine sh fol (kB ([g]:List Int) e (e.length:Int) G c d [(14,.i f),(15,.i 0)]) ?_
    refine sq ?_
    refine sh fol (kB ([g]:List Int) e (e.length:Int) G c d [(14,.i f),(15,.i 0),(16,.i 0)]) ?_
    refine Goes.block ?_
    obtain⟨r31,o,j⟩:=bnd j
    refine Goes.imp (Q:=fun x s'=>(x= .exit 4/\ ∃w n30,(w,n30)=r31/\Sub s' (ofG 206 (kB ([g]:List Int) e (e.length:Int) w c d [(14,.i f),(15,.i n30)]),(kA w (kA c []))))) ?_ ?_
    ·refine Uc (fun M s=> ∃(n:List Int) (r:Int) (k:Int),s=(ofG 206 (kB ([g]:List Int) e (e.length:Int) n c d (kA5 f r k [])),(kA n (kA c [])))/\yU e d f M n r k=some r31) ?_ (m:=N) ⟨_,_,_,rfl,o⟩
     rintro M s ⟨n,r,k,rfl,o⟩
     cases M with
     |zero=>simp only[yU]at o;cases o
     |succ M=>
      rw[yU]at o
      refine sq ?_
      refine sh fol (kB ([g]:List Int) e (e.length:Int) n c d (kA5 f r k [(92,.bool (decide (k<(e.length:Int))))])) ?_
      refine ihD o (fun c32 o=>?_) (fun c32 o=>?_)
      ·refine Goes.skip ?_
       refine sq (Goes.block ?_)
       obtain⟨H,e_x33,o⟩:=bnd o
       refine sq (gr fol [3,4] (kB ([g]:List Int) e (e.length:Int) n c d [(14,.i f),(16,.i k),(17,.i (w64 ((w64 (f*H))+r)))]) (ac (iv qo encI e_x33) (ac (lv 0 ce3 encI e_x33 rfl) az)) ?_)
       obtain⟨a0,L,o⟩:=bnd o
       refine sq (gr fol [4,5] (kB ([g]:List Int) e (e.length:Int) n c d [(14,.i f),(16,.i k),(17,.i (w64 ((w64 (f*H))+r))),(18,.i (w64 (a0-((w64 ((w64 (f*H))+r)).tmod 1000000000))))]) (ac (hs (.done (.opt (qc ZT 22 (.oslice 0 n.length 1) (.i (w64 (k+d))))) (.ptr 0 ((w64 (k+d):Int).toNat*1+0))) (qgD qo L)) (ac (hs (.run [0] (qV ZT 3 (.ptr 0 ((w64 (k+d):Int).toNat*1+0))) (kA n (kA c [])) (.i a0) (kA n (kA c [])) false) (yE ce3 (E:=encI) (l:=n) rfl rfl L (nl rfl) rfl)) az)) ?_)
       refine sh fol (kB ([g]:List Int) e (e.length:Int) n c d (kA5 f (w64 ((w64 ((w64 (f*H))+r)).tdiv 1000000000)) k [(18,.i (w64 (a0-((w64 ((w64 (f*H))+r)).tmod 1000000000))))])) ?_
       refine sq ?_
       refine sh fol (kB ([g]:List Int) e (e.length:Int) n c d (kA5 f (w64 ((w64 ((w64 (f*H))+r)).tdiv 1000000000)) k [(18,.i (w64 (a0-((w64 ((w64 (f*H))+r)).tmod 1000000000)))),(115,.bool (decide ((w64 (a0-((w64 ((w64 (f*H))+r)).tmod 1000000000)))<0)))])) ?_
       obtain⟨r37,g37,o⟩:=bnd o
       refine Goes.imp (Q:=fun x s'=>(x= .normal/\ ∃W n36,(W,n36)=r37/\Sub s' (ofG 206 (kB ([g]:List Int) e (e.length:Int) n c d (kA5 f W k [(18,.i n36)])),(kA n (kA c []))))) ?_ ?_
       ·refine ihD g37 (fun c38 g37=>?_) (fun c38 g37=>?_)
        ·refine sh fol (kB ([g]:List Int) e (e.length:Int) n c d (kA5 f (w64 ((w64 ((w64 (f*H))+r)).tdiv 1000000000)) k [(18,.i (w64 ((w64 (a0-((w64 ((w64 (f*H))+r)).tmod 1000000000)))+1000000000)))])) ?_
         refine gh fol (kB ([g]:List Int) e (e.length:Int) n c d (kA5 f (w64 ((w64 ((w64 ((w64 (f*H))+r)).tdiv 1000000000))+1)) k [(18,.i (w64 ((w64 (a0-((w64 ((w64 (f*H))+r)).tmod 1000000000)))+1000000000)))])) ?_
         obtain rfl:=si g37
         exact⟨rfl,_,_,rfl,(Sub.refl _)⟩
        refine Goes.skip ?_
        obtain rfl:=si g37
        exact⟨rfl,_,_,rfl,(Sub.keep [8,9,10,11,12,13,14,15,16,18] rfl rfl)⟩
       rintro x s' ⟨rfl,W,n36,rfl,hsub⟩
       try dsimp only at o
       refine Goes.sub hsub ?_
       obtain⟨X,e_l39,o⟩:=bnd o
       refine gq fol [5,6] (kB ([g]:List Int) e (e.length:Int) n c d (kA5 f W k [])) (kA X (kA c [])) (ac (hs (.done (.opt (qc ZT 22 (.oslice 0 n.length 1) (.i (w64 (k+d))))) (.ptr 0 ((w64 (k+d):Int).toNat*1+0))) (qgD qo L)) (ac (hs (.run [0] (qm ZT 3 (.ptr 0 ((w64 (k+d):Int).toNat*1+0)) (.i n36)) (kA n (kA c [])) .undef (kA X (kA c [])) true) (zY (E:=encI) (l:=n) (y:=n36) rfl (show _=some 1 by kernel_rfl) rfl L rfl rfl rfl rfl rfl e_l39 rfl)) az)) ?_
       refine Goes.sub (show Sub (ofG 206 (kB ([g]:List Int) e (e.length:Int) n c d (kA5 f W k [])),(kA X (kA c []))) (ofG 206 (kB ([g]:List Int) e (e.length:Int) X c d (kA5 f W k [])),(kA X (kA c [])))from(Sub.norm [] [some 0,some 1] rfl rfl (.keep (.same (qf encI _)) (.keep (.same (qf encI _)) (.keep (.same nI) (.keep (.osliceE rfl (qH e_l39)) (.keep (.slice rfl) (.keep (.same nI) (.keep (.same nI) (.keep (.same nI) (.keep (.same nI) .nil))))))))) (.ks (.ks .nil)))) ?_
       refine gh fol (kB ([g]:List Int) e (e.length:Int) X c d (kA5 f W (w64 (k+1)) [])) ?_
       exact⟨M,(ofG 206 (kB ([g]:List Int) e (e.length:Int) X c d (kA5 f W (w64 (k+1)) [])),(kA X (kA c []))),Nat.lt_succ_self _,(Sub.refl _),_,_,_,rfl,o⟩
      refine Goes.exit ?_
      obtain rfl:=si o
      exact⟨rfl,_,_,rfl,(Sub.keep [8,9,10,11,12,13,14,15] rfl rfl)⟩
    rintro x s' ⟨rfl,w,n30,rfl,hsub⟩
    try dsimp only at j
    refine Goes.sub hsub ?_
    obtain⟨x40,O,j⟩:=bnd j
    obtain⟨A,e_l41,j⟩:=bnd j
    refine sq (gq fol [8,9,12,13] (kB ([g]:List Int) e (e.length:Int) w c d [(14,.i f)]) (kA A (kA c [])) (ac (hs (.done (.opt (qc ZT 22 (.oslice 0 w.length 1) (.i (w64 (d+(e.length:Int)))))) (.ptr 0 ((w64 (d+(e.length:Int)):Int).toNat*1+0))) (qgD qo O)) (ac (hs (.run [0] (qV ZT 3 (.ptr 0 ((w64 (d+(e.length:Int)):Int).toNat*1+0))) (kA w (kA c [])) (.i x40) (kA w (kA c [])) false) (yE ce3 (E:=encI) (l:=w) rfl rfl O (nl rfl) rfl)) (ac (hs (.done (.opt (qc ZT 22 (.oslice 0 w.length 1) (.i (w64 (d+(e.length:Int)))))) (.ptr 0 ((w64 (d+(e.length:Int)):Int).toNat*1+0))) (qgD qo O)) (ac (hs (.run [0] (qm ZT 3 (.ptr 0 ((w64 (d+(e.length:Int)):Int).toNat*1+0)) (.i (w64 (x40-n30)))) (kA w (kA c [])) .undef (kA A (kA c [])) true) (zY (E:=encI) (l:=w) (y:=w64 (x40-n30)) rfl (show _=some 1 by kernel_rfl) rfl O rfl rfl rfl rfl rfl e_l41 rfl)) az)))) ?_)
    refine Goes.sub (show Sub (ofG 206 (kB ([g]:List Int) e (e.length:Int) w c d [(14,.i f)]),(kA A (kA c []))) (ofG 206 (kB ([g]:List Int) e (e.length:Int) A c d [(14,.i f)]),(kA A (kA c [])))from(Sub.norm [] [some 0,some 1] rfl rfl (.keep (.same (qf encI _)) (.keep (.same (qf encI _)) (.keep (.same nI) (.keep (.osliceE rfl (qH e_l41)) (.keep (.slice rfl) (.keep (.same nI) (.keep (.same nI) .nil))))))) (.ks (.ks .nil)))) ?_
    refine sq ?_
    obtain⟨x42,e_x42,j⟩:=bnd j
    refine sq (gr fol [4,5] (kB ([g]:List Int) e (e.length:Int) A c d [(14,.i f),(145,.bool (decide (x42<0)))]) (ac (hs (.done (.opt (qc ZT 22 (.oslice 0 A.length 1) (.i (w64 (d+(e.length:Int)))))) (.ptr 0 ((w64 (d+(e.length:Int)):Int).toNat*1+0))) (qgD qo e_x42)) (ac (hs (.run [0] (qV ZT 3 (.ptr 0 ((w64 (d+(e.length:Int)):Int).toNat*1+0))) (kA A (kA c [])) (.i x42) (kA A (kA c [])) false) (yE ce3 (E:=encI) (l:=A) rfl rfl e_x42 (nl rfl) rfl)) az)) ?_)
    obtain⟨r45,I,j⟩:=bnd j
    refine Goes.imp (Q:=fun x s'=>(x= .normal/\ ∃u n44,(u,n44)=r45/\Sub s' (ofG 206 (kB ([g]:List Int) e (e.length:Int) u c d [(14,.i n44)]),(kA u (kA c []))))) ?_ ?_
    ·refine ihD I (fun c46 I=>?_) (fun c46 I=>?_)
     ·refine sh fol (kB ([g]:List Int) e (e.length:Int) A c d [(14,.i (w64 (f-1)))]) ?_
      refine sh fol (kB ([g]:List Int) e (e.length:Int) A c d [(14,.i (w64 (f-1))),(19,.i 0)]) ?_
      refine sq ?_
      refine sh fol (kB ([g]:List Int) e (e.length:Int) A c d [(14,.i (w64 (f-1))),(19,.i 0),(20,.i 0)]) ?_
      refine Goes.block ?_
      obtain⟨r53,t,I⟩:=bnd I
      refine Goes.imp (Q:=fun x s'=>(x= .exit 6/\ ∃B a4 n52,(B,a4,n52)=r53/\Sub s' (ofG 206 (kB ([g]:List Int) e (e.length:Int) B c d [(14,.i a4),(19,.i n52)]),(kA B (kA c []))))) ?_ ?_
      ·refine Uc (fun M s=> ∃(v:List Int) (C:Int) (p:Int),s=(ofG 206 (kB ([g]:List Int) e (e.length:Int) v c d [(14,.i (w64 (f-1))),(19,.i C),(20,.i p)]),(kA v (kA c [])))/\yX e d f M v C p=some r53) ?_ (m:=N) ⟨_,_,_,rfl,t⟩
       rintro M s ⟨v,C,p,rfl,t⟩
       cases M with
       |zero=>simp only[yX]at t;cases t
       |succ M=>
        rw[yX]at t
        refine sq ?_
        refine sh fol (kB ([g]:List Int) e (e.length:Int) v c d [(14,.i (w64 (f-1))),(19,.i C),(20,.i p),(150,.bool (decide (p<(e.length:Int))))]) ?_
        refine ihD t (fun c54 t=>?_) (fun c54 t=>?_)
        ·refine Goes.skip ?_
         refine sq (Goes.block ?_)
         obtain⟨J,P,t⟩:=bnd t
         obtain⟨T,e_x56,t⟩:=bnd t
         refine sq (gr fol [4,5,8,9] (kB ([g]:List Int) e (e.length:Int) v c d [(14,.i (w64 (f-1))),(20,.i p),(21,.i (w64 ((w64 (J+T))+C)))]) (ac (hs (.done (.opt (qc ZT 22 (.oslice 0 v.length 1) (.i (w64 (p+d))))) (.ptr 0 ((w64 (p+d):Int).toNat*1+0))) (qgD qo P)) (ac (hs (.run [0] (qV ZT 3 (.ptr 0 ((w64 (p+d):Int).toNat*1+0))) (kA v (kA c [])) (.i J) (kA v (kA c [])) false) (yE ce3 (E:=encI) (l:=v) rfl rfl P (nl rfl) rfl)) (ac (iv qo encI e_x56) (ac (lv 0 ce3 encI e_x56 rfl) az)))) ?_)
         obtain⟨U,e_l57,t⟩:=bnd t
         refine sq (gq fol [6,7] (kB ([g]:List Int) e (e.length:Int) v c d [(14,.i (w64 (f-1))),(20,.i p),(21,.i (w64 ((w64 (J+T))+C)))]) (kA U (kA c [])) (ac (hs (.done (.opt (qc ZT 22 (.oslice 0 v.length 1) (.i (w64 (p+d))))) (.ptr 0 ((w64 (p+d):Int).toNat*1+0))) (qgD qo P)) (ac (hs (.run [0] (qm ZT 3 (.ptr 0 ((w64 (p+d):Int).toNat*1+0)) (.i ((w64 ((w64 (J+T))+C)).tmod 1000000000))) (kA v (kA c [])) .undef (kA U (kA c [])) true) (zY (E:=encI) (l:=v) (y:=(w64 ((w64 (J+T))+C)).tmod 1000000000) rfl (show _=some 1 by kernel_rfl) rfl P rfl rfl rfl rfl rfl e_l57 rfl)) az)) ?_)
         refine Goes.sub (show Sub (ofG 206 (kB ([g]:List Int) e (e.length:Int) v c d [(14,.i (w64 (f-1))),(20,.i p),(21,.i (w64 ((w64 (J+T))+C)))]),(kA U (kA c []))) (ofG 206 (kB ([g]:List Int) e (e.length:Int) U c d [(14,.i (w64 (f-1))),(20,.i p),(21,.i (w64 ((w64 (J+T))+C)))]),(kA U (kA c [])))from(Sub.norm [] [some 0,some 1] rfl rfl (.keep (.same (qf encI _)) (.keep (.same (qf encI _)) (.keep (.same nI) (.keep (.osliceE rfl (qH e_l57)) (.keep (.slice rfl) (.keep (.same nI) (.keep (.same nI) (.keep (.same nI) (.keep (.same nI) .nil))))))))) (.ks (.ks .nil)))) ?_
         refine gh fol (kB ([g]:List Int) e (e.length:Int) U c d [(14,.i (w64 (f-1))),(19,.i (w64 ((w64 ((w64 (J+T))+C)).tdiv 1000000000))),(20,.i p)]) ?_
         refine gh fol (kB ([g]:List Int) e (e.length:Int) U c d [(14,.i (w64 (f-1))),(19,.i (w64 ((w64 ((w64 (J+T))+C)).tdiv 1000000000))),(20,.i (w64 (p+1)))]) ?_
         exact⟨M,(ofG 206 (kB ([g]:List Int) e (e.length:Int) U c d [(14,.i (w64 (f-1))),(19,.i (w64 ((w64 ((w64 (J+T))+C)).tdiv 1000000000))),(20,.i (w64 (p+1)))]),(kA U (kA c []))),Nat.lt_succ_self _,(Sub.refl _),_,_,_,rfl,t⟩
        refine Goes.exit ?_
        obtain rfl:=si t
        exact⟨rfl,_,_,_,rfl,(Sub.keep [8,9,10,11,12,13,14,19] rfl rfl)⟩
      rintro x s' ⟨rfl,B,a4,n52,rfl,hsub⟩
      try dsimp only at I
      refine Goes.sub hsub ?_
      obtain⟨x58,V,I⟩:=bnd I
      obtain⟨l59,e_l59,I⟩:=bnd I
      refine gq fol [8,9,12,13] (kB ([g]:List Int) e (e.length:Int) B c d [(14,.i a4)]) (kA l59 (kA c [])) (ac (hs (.done (.opt (qc ZT 22 (.oslice 0 B.length 1) (.i (w64 (d+(e.length:Int)))))) (.ptr 0 ((w64 (d+(e.length:Int)):Int).toNat*1+0))) (qgD qo V)) (ac (hs (.run [0] (qV ZT 3 (.ptr 0 ((w64 (d+(e.length:Int)):Int).toNat*1+0))) (kA B (kA c [])) (.i x58) (kA B (kA c [])) false) (yE ce3 (E:=encI) (l:=B) rfl rfl V (nl rfl) rfl)) (ac (hs (.done (.opt (qc ZT 22 (.oslice 0 B.length 1) (.i (w64 (d+(e.length:Int)))))) (.ptr 0 ((w64 (d+(e.length:Int)):Int).toNat*1+0))) (qgD qo V)) (ac (hs (.run [0] (qm ZT 3 (.ptr 0 ((w64 (d+(e.length:Int)):Int).toNat*1+0)) (.i (w64 (x58+n52)))) (kA B (kA c [])) .undef (kA l59 (kA c [])) true) (zY (E:=encI) (l:=B) (y:=w64 (x58+n52)) rfl (show _=some 1 by kernel_rfl) rfl V rfl rfl rfl rfl rfl e_l59 rfl)) az)))) ?_
      obtain rfl:=si I
      exact⟨rfl,_,_,rfl,((show Sub (ofG 206 (kB ([g]:List Int) e (e.length:Int) B c d [(14,.i a4)]),(kA l59 (kA c []))) (ofG 206 (kB ([g]:List Int) e (e.length:Int) l59 c d [(14,.i a4)]),(kA l59 (kA c [])))from(Sub.norm [] [some 0,some 1] rfl rfl (.keep (.same (qf encI _)) (.keep (.same (qf encI _)) (.keep (.same nI) (.keep (.osliceE rfl (qH e_l59)) (.keep (.slice rfl) (.keep (.same nI) (.keep (.same nI) .nil))))))) (.ks (.ks .nil)))).trans (Sub.refl _))⟩
     refine Goes.skip ?_
     obtain rfl:=si I
     exact⟨rfl,_,_,rfl,(Sub.keep [8,9,10,11,12,13,14] rfl rfl)⟩
    rintro x s' ⟨rfl,u,n44,rfl,hsub⟩
    try dsimp only at j
    refine Goes.sub hsub ?_
    obtain⟨x60,e_x60,j⟩:=bnd j
    obtain⟨Y,e_l61,j⟩:=bnd j
    refine gq fol [3,4] (kB ([g]:List Int) e (e.length:Int) u c d []) (kA u (kA Y [])) (ac (hs (.done (.opt (qc ZT 22 (.slice 1 0 c.length c.length 1) (.i d))) (.ptr 1 ((d:Int).toNat*1+0))) (zI qo e_x60)) (ac (hs (.run [1] (qm ZT 3 (.ptr 1 ((d:Int).toNat*1+0)) (.i n44)) (kA u (kA c [])) .undef (kA u (kA Y [])) true) (zY (E:=encI) (l:=c) (y:=n44) rfl (show _=some 1 by kernel_rfl) rfl e_x60 rfl rfl rfl rfl rfl e_l61 rfl)) az)) ?_
    refine Goes.sub (show Sub (ofG 206 (kB ([g]:List Int) e (e.length:Int) u c d []),(kA u (kA Y []))) (ofG 206 (kB ([g]:List Int) e (e.length:Int) u Y d []),(kA u (kA Y [])))from(Sub.norm [] [some 0,some 1] rfl rfl (.keep (.same (qf encI _)) (.keep (.same (qf encI _)) (.keep (.same nI) (.keep (.oslice rfl) (.keep (.sliceE rfl (qH e_l61)) (.keep (.same nI) .nil)))))) (.ks (.ks .nil)))) ?_
    refine gh fol (kB ([g]:List Int) e (e.length:Int) u Y (w64 (d-1)) []) ?_
    exact⟨M,(ofG 206 (kB ([g]:List Int) e (e.length:Int) u Y (w64 (d-1)) []),(kA u (kA Y []))),Nat.lt_succ_self _,(Sub.refl _),_,_,_,rfl,j⟩
   refine Goes.exit ?_
   obtain rfl:=si j
   exact⟨rfl,_,_,rfl,(Sub.keep [8,10,11,12] rfl rfl)⟩
 rintro x s' ⟨rfl,a3,q,rfl,hsub⟩
 try dsimp only at h
 refine Goes.sub hsub ?_
 refine sq (Goes.sub (s':=(ofG 206 (kBk ([g]:List Int) [(10,.i (e.length:Int)),(11,vl encI a3),(12,.slice 0 0 q.length q.length 1)]),(kA q []))) (Sub.norm [0] [some 1] rfl rfl (.keep (.same (qf encI _)) (.keep (.same nI) (.keep (.frz (Fz.os (E:=encI) rfl rfl (nl rfl)) (qf encI _)) (.keep (.slice rfl) .nil)))) (.ks .nil)) ?_)
 obtain⟨s62,e_s62,h⟩:=bnd h
 obtain⟨r63,e_r63,h⟩:=bnd h
 obtain⟨x64,e_x64,h⟩:=bnd h
 obtain⟨r65,e_r65,h⟩:=bnd h
 refine gr fol [2,3,5,6,7] [(12,.slice 0 0 q.length q.length 1),(22,vl encI r65.1)] (ac (hs (.done (.opt (zi ZT 22 (vl encI a3) none (some (.i (e.length:Int))) none)) (vl encI s62)) (qkU qo (E:=encI) rfl none (some (e.length:Int)) e_s62)) (ac (cv (qap N s62 e_r63)) (ac (iv qo encI e_x64) (ac (lv 0 ce3 encI e_x64 rfl) (ac (cv (qdU N r63 x64 e_r65)) az))))) ?_
 obtain⟨r66,e_r66,h⟩:=bnd h
 refine sq (gq fol [1] (kBv r66 r65.1) (kAn q []) (ac (hs (.callF 142 [.slice 0 0 q.length q.length 1] (kA q []) [0] [vl encI q] (vl encI r66)) (qa6 (FzL.cons (U0 (E:=encI) rfl rfl (nl rfl)) FzL.nil) (qap N q e_r66) (ql encI _ (nl rfl)))) az) ?_)
 refine Goes.sub (show Sub (ofG 206 (kBv r66 r65.1),(kAn q [])) (ofG 206 (kBv r66 r65.1),[])from(Sub.norm [] [] rfl rfl (.keep (.same (qf encI _)) (.keep (.same (qf encI _)) .nil)) .nil)) ?_
 refine Goes.ret ?_
 obtain rfl:=si h
 exact(gw2 (vl encI r66::(kA1 r65.1)) (FzW.tuple (qh.cons (Ua (ql encI _ (nl rfl))) (qh.cons (Ua (ql encI _ (nl rfl))) qh.nil))))
def qad (N:Nat):Nat->(List Int)->(List Int)->Option (List Int)
 |0,_,_=>none
 |K+1,b,a=>
  if(a.length:Int)>0 then
  (qaf N b a).bind fun c=>
  qad N K a c.2
  else
  some b
def qc7 (N:Nat) (a:List Int) (b:List Int):Option (List Int):=
 (qad N N a b).bind fun c=>
 some c
theorem qeW (N:Nat) (a:List Int) (b:List Int) {res:List Int} (h:qc7 N a b=some res):qb ZT (.fn 41) (vl encI a::(kA1 b)) [] (vl encI res) []:=by
 unfold qc7 at h
 refine Ub Tryz.func41 rfl rfl (m:=19) rfl (rs:=[.tmp 4]) rfl (l:=(kI a b [])) rfl ?_
 refine sh fol (kI a b []) ?_
 refine sq (Goes.block ?_)
 obtain⟨i,g4,h⟩:=bnd h
 refine Goes.imp (Q:=fun x s'=>(x= .exit 0/\ ∃d,d=i/\Sub s' (ofG 19 (kP d []),[]))) ?_ ?_
 ·refine Uc (fun M s=> ∃(e:List Int) (c:List Int),s=(ofG 19 (kI e c []),[])/\qad N M e c=some i) ?_ (m:=N) ⟨_,_,rfl,g4⟩
  rintro M s ⟨e,c,rfl,g4⟩
  cases M with
  |zero=>simp only[qad]at g4;cases g4
  |succ M=>
   rw[qad]at g4
   refine sq ?_
   refine sh fol (kI e c [(9,.bool (decide ((c.length:Int)>0)))]) ?_
   refine ihD g4 (fun j g4=>?_) (fun j g4=>?_)
   ·refine Goes.skip ?_
    refine Goes.block ?_
    obtain⟨g,f,g4⟩:=bnd g4
    refine sq (gr fol [2] (kBG c [(6,vl encI g.2)]) (ac (cv (qbC N e c f)) az) ?_)
    refine gh fol (kI c g.2 []) ?_
    exact⟨M,(ofG 19 (kI c g.2 []),[]),Nat.lt_succ_self _,(Sub.refl _),_,_,rfl,g4⟩
   refine Goes.exit ?_
   obtain rfl:=si g4
   exact⟨rfl,_,rfl,(Sub.keep [0] rfl rfl)⟩
 rintro x s' ⟨rfl,d,rfl,hsub⟩
 refine Goes.sub hsub ?_
 refine sh fol [(4,vl encI d)] ?_
 refine Goes.ret ?_
 obtain rfl:=si h
 exact(gw2 [vl encI d] (Ua (ql encI _ (nl rfl))))
def qbM (N:Nat) (a:Str):Option Int:=
 (if(a.length:Int)>0 then
 (idx a 0).bind fun t=>
 some (decide ((t.toNat:Int)=45))
 else
 some false:Option Bool).bind fun u=>
 ((if u=true then
 (cut a 1 (a.length:Int)).bind fun v=>
 some v
 else
 some a:Option Str)).bind fun b=>
 (qbP N b).bind fun c=>
 ((cut b 0 c).bind fun f=>
 (qay N f).bind fun g=>
 if(!g)=true then
 some true
 else
 (idx a 0).bind fun h=>
 if(h.toNat:Int)=45 then
 (cut b 0 c).bind fun i=>
 some (i==[48])
 else
 some false:Option Bool).bind fun j=>
 if j=true then
 some 1
 else
 (if c<(b.length:Int)then
 (cut b (w64 (c+1)) (b.length:Int)).bind fun k=>
 (qay N k).bind fun l=>
 if(!l)=true then
 some true
 else
 (cut b (w64 (c+1)) (b.length:Int)).bind fun m=>
 if(m==[48])=true then
 some true
 else
 (cut b (w64 (c+1)) (b.length:Int)).bind fun n=>
 some (n==[49])
 else
 some false:Option Bool).bind fun o=>
 if o=true then
 some 1
 else
 (if c>600 then
 some true
 else
 some (decide ((w64 ((w64 ((b.length:Int)-c))-1))>600)):Option Bool).bind fun p=>
 if p=true then
 some 4
 else
 ((if c<(b.length:Int)then
 (qbG N b).bind fun d=>
 (qc7 N d.1.w d.2.w).bind fun e=>
 (if(!decide ((e.length:Int)=1))=true then
 some true
 else
 (idx e 0).bind fun q=>
 some (!decide (q=1)):Option Bool).bind fun r=>
 if r=true then
 some (.inr 1)
 else
 some (.inl ())
 else
 some (.inl ()):Option (Unit⊕Int))).bind (fun
 |(.inl ())=>
 some 0
 |(.inr s)=>
 some s)
theorem qfC (N:Nat) (a:Str) {res:Int} (h:qbM N a=some res):qb ZT (.fn 12) [.str a] [] (.i res) []:=by
 unfold qbM at h
 refine Ub Tryz.func12 rfl rfl (m:=96) rfl (rs:=[.tmp 2]) rfl (l:=(kBn a)) rfl ?_
 refine sh fol (kBn a) ?_
 refine sh fol [(0,.str a),(3,.str a)] ?_
 refine sq ?_
 refine sq ?_
 obtain⟨b3,j,h⟩:=bnd h
 refine Goes.cut (s':=(ofG 96 [(0,.str a),(3,.str a),(16,.bool b3)],[])) ?_ ?_
 ·rcases wyD j with⟨Y,j⟩|⟨Y,j⟩
  ·obtain⟨c2,L,j⟩:=bnd j
   obtain rfl:=si j
   exact tr fol [3,5] [(0,.str a),(3,.str a),(16,.bool (decide ((c2.toNat:Int)=45)))] (ac (gw Y) (ac (hs (.done (.opt (qax ZT 9 (.str a) (.i 0))) (.int .u8 (c2.toNat:Int))) (qcR st9 L)) az))
  obtain rfl:=si j
  exact tr fol [3] [(0,.str a),(3,.str a),(16,.bool false)] (ac (gw Y) az)
 obtain⟨r6,C,h⟩:=bnd h
 refine Goes.imp (Q:=fun x s'=>(x= .normal/\ ∃e,e=r6/\Sub s' (ofG 96 [(0,.str a),(3,.str e)],[]))) ?_ ?_
 ·refine ihB C (fun c7 C=>?_) (fun c7 C=>?_)
  ·obtain⟨s8,M,C⟩:=bnd C
   refine gr fol [1] [(0,.str a),(3,.str s8)] (ac (hs (.done (.opt (zi ZT 9 (.str a) (some (.i 1)) none none)) (.str s8)) (xc st9 (some 1) none M)) az) ?_
   obtain rfl:=si C
   exact⟨rfl,_,rfl,(Sub.refl _)⟩
  refine Goes.skip ?_
  obtain rfl:=si C
  exact⟨rfl,_,rfl,(Sub.keep [0,3] rfl rfl)⟩
 rintro x s' ⟨rfl,e,rfl,hsub⟩
 refine Goes.sub hsub ?_
 obtain⟨d,O,h⟩:=bnd h
 refine sq (gr fol [1] ((0,.str a)::(kBA e d [])) (ac (cv (qb6 N e O)) az) ?_)
 refine sq ?_
 refine sq ?_
 obtain⟨Z,c,h⟩:=bnd h
 refine Goes.cut (s':=(ofG 96 (kBA e d [(36,.bool Z)]),[])) ?_ ?_
 ·obtain⟨s,o,c⟩:=bnd c
  obtain⟨r11,p,c⟩:=bnd c
  rcases wyB c with⟨A,c⟩|⟨A,c⟩
  ·obtain rfl:=si c
   exact tr fol [2,3,5] (kBA e d [(36,.bool true)]) (ac (hs (.done (.opt (zi ZT 9 (.str e) none (some (.i d)) none)) (.str s)) (xc st9 none (some d) o)) (ac (cv (jH N s p)) (ac (gw A) az)))
  obtain⟨P,u,c⟩:=bnd c
  rcases wyD c with⟨D,c⟩|⟨D,c⟩
  ·obtain⟨T,E,c⟩:=bnd c
   obtain rfl:=si c
   exact tr fol [2,3,5,7,9,12] (kBA e d [(36,.bool (T==[48]))]) (ac (hs (.done (.opt (zi ZT 9 (.str e) none (some (.i d)) none)) (.str s)) (xc st9 none (some d) o)) (ac (cv (jH N s p)) (ac (gw A) (ac (hs (.done (.opt (qax ZT 31 (.str a) (.i 0))) (.int .u8 (P.toNat:Int))) (qcR st31 u)) (ac (gw D) (ac (hs (.done (.opt (zi ZT 9 (.str e) none (some (.i d)) none)) (.str T)) (xc st9 none (some d) E)) az))))))
  obtain rfl:=si c
  exact tr fol [2,3,5,7,9] (kBA e d [(36,.bool false)]) (ac (hs (.done (.opt (zi ZT 9 (.str e) none (some (.i d)) none)) (.str s)) (xc st9 none (some d) o)) (ac (cv (jH N s p)) (ac (gw A) (ac (hs (.done (.opt (qax ZT 31 (.str a) (.i 0))) (.int .u8 (P.toNat:Int))) (qcR st31 u)) (ac (gw D) az)))))
 refine ihB h (fun a0 h=>?_) (fun a0 h=>?_)
 ·refine sh fol [(2,.i 1)] ?_
  refine Goes.ret ?_
  obtain rfl:=si h
  exact(gw2 [.i 1] (Ua tI))
 refine Goes.skip ?_
 refine sq ?_
 refine sq ?_
 obtain⟨a1,b,h⟩:=bnd h
 refine Goes.cut (s':=(ofG 96 (kBA e d [(62,.bool a1)]),[])) ?_ ?_
 ·rcases wyD b with⟨v,b⟩|⟨v,b⟩
  ·obtain⟨t,q,b⟩:=bnd b
   obtain⟨r21,r,b⟩:=bnd b
   rcases wyB b with⟨B,b⟩|⟨B,b⟩
   ·obtain rfl:=si b
    exact tr fol [4,8,9,11] (kBA e d [(62,.bool true)]) (ac (gw v) (ac (hs (.done (.opt (zi ZT 9 (.str e) (some (.i (w64 (d+1)))) none none)) (.str t)) (xc st9 (some (w64 (d+1))) none q)) (ac (cv (jH N t r)) (ac (gw B) az))))
   obtain⟨U,y,b⟩:=bnd b
   rcases wyB b with⟨F,b⟩|⟨F,b⟩
   ·obtain rfl:=si b
    exact tr fol [4,8,9,11,15,18] (kBA e d [(62,.bool true)]) (ac (gw v) (ac (hs (.done (.opt (zi ZT 9 (.str e) (some (.i (w64 (d+1)))) none none)) (.str t)) (xc st9 (some (w64 (d+1))) none q)) (ac (cv (jH N t r)) (ac (gw B) (ac (hs (.done (.opt (zi ZT 9 (.str e) (some (.i (w64 (d+1)))) none none)) (.str U)) (xc st9 (some (w64 (d+1))) none y)) (ac (gw F) az))))))
   obtain⟨V,G,b⟩:=bnd b
   obtain rfl:=si b
   exact tr fol [4,8,9,11,15,18,22] (kBA e d [(62,.bool (V==[49]))]) (ac (gw v) (ac (hs (.done (.opt (zi ZT 9 (.str e) (some (.i (w64 (d+1)))) none none)) (.str t)) (xc st9 (some (w64 (d+1))) none q)) (ac (cv (jH N t r)) (ac (gw B) (ac (hs (.done (.opt (zi ZT 9 (.str e) (some (.i (w64 (d+1)))) none none)) (.str U)) (xc st9 (some (w64 (d+1))) none y)) (ac (gw F) (ac (hs (.done (.opt (zi ZT 9 (.str e) (some (.i (w64 (d+1)))) none none)) (.str V)) (xc st9 (some (w64 (d+1))) none G)) az)))))))
  obtain rfl:=si b
  exact tr fol [4] (kBA e d [(62,.bool false)]) (ac (gw v) az)
 refine ihB h (fun a2 h=>?_) (fun a2 h=>?_)
 ·refine sh fol [(2,.i 1)] ?_
  refine Goes.ret ?_
  obtain rfl:=si h
  exact(gw2 [.i 1] (Ua tI))
 refine Goes.skip ?_
 refine sq ?_
 refine sq ?_
 obtain⟨a3,k,h⟩:=bnd h
 refine Goes.cut (s':=(ofG 96 (kBA e d [(72,.bool a3)]),[])) ?_ ?_
 ·rcases wyD k with⟨H,k⟩|⟨H,k⟩
  ·obtain rfl:=si k
   exact tr fol [2] (kBA e d [(72,.bool true)]) (ac (gw H) az)
  obtain rfl:=si k
  exact tr fol [2] (kBA e d [(72,.bool (decide ((w64 ((w64 ((e.length:Int)-d))-1))>600)))]) (ac (gw H) az)
 refine ihB h (fun a4 h=>?_) (fun a4 h=>?_)
 ·refine sh fol [(2,.i 4)] ?_
  refine Goes.ret ?_
  obtain rfl:=si h
  exact(gw2 [.i 4] (Ua tI))
 refine Goes.skip ?_
 refine sq ?_
 refine sh fol [(3,.str e),(76,.bool (decide (d<(e.length:Int))))] ?_
 obtain⟨W,f,h⟩:=bnd h
 refine Goes.imp (Q:=fun x s'=>(x= .normal/\(.inl ())=W/\Sub s' (ofG 96 [],[]))\/(x= .ret/\ ∃X,(.inr X)=W/\kz ZT [.tmp 2] (.i X) .ret s')) ?_ ?_
 ·refine ihD f (fun a5 f=>?_) (fun a5 f=>?_)
  ·obtain⟨n,I,f⟩:=bnd f
   refine sq (gq fol [1] [(5,.ptr 0 0),(6,.ptr 1 0)] (kU n.1.neg n.1.w (kU n.2.neg n.2.w [])) (ac (cv (qb4 N e I)) az) ?_)
   obtain⟨a6,J,f⟩:=bnd f
   refine sq (gr fol [4] (kBd a6 []) (ac (cv (qeW N n.1.w n.2.w J)) az) ?_)
   refine sq ?_
   obtain⟨a7,g,f⟩:=bnd f
   refine Goes.cut (s':=(ofG 96 [(95,.bool a7)],(kU n.1.neg n.1.w (kU n.2.neg n.2.w [])))) ?_ ?_
   ·rcases wyB g with⟨K,g⟩|⟨K,g⟩
    ·obtain rfl:=si g
     exact tr fol [3] [(95,.bool true)] (ac (gw K) az)
    obtain⟨a8,z,g⟩:=bnd g
    obtain rfl:=si g
    exact tr fol [3,5,6] [(95,.bool (!decide (a8=1)))] (ac (gw K) (ac (iv qo encI z) (ac (lv 0 ce3 encI z rfl) az)))
   refine ihB f (fun a9 f=>?_) (fun a9 f=>?_)
   ·refine sh fol [(2,.i 1)] ?_
    refine Goes.ret ?_
    obtain rfl:=si f
    exact Or.inr (⟨rfl,_,rfl,(gw2 [.i 1] (Ua tI))⟩)
   refine Goes.skip ?_
   obtain rfl:=si f
   exact Or.inl (⟨rfl,rfl,(Sub.norm [] [] rfl rfl .nil .nil)⟩)
  refine Goes.skip ?_
  obtain rfl:=si f
  exact Or.inl (⟨rfl,rfl,(Sub.keep [] rfl rfl)⟩)
 rintro x s' (⟨rfl,rfl,hsub⟩|⟨rfl,q43,rfl,hret⟩)
 ·try dsimp only at h
  refine Goes.sub hsub ?_
  refine sh fol [(2,.i 0)] ?_
  refine Goes.ret ?_
  obtain rfl:=si h
  exact(gw2 [.i 0] (Ua tI))
 try dsimp only at h
 obtain rfl:=si h
 exact hret
def qas (N:Nat) (a:Str):Option Bool:=
 (qbP N a).bind fun b=>
 some (decide (b=(a.length:Int)))
theorem qhf (N:Nat) (a:Str) {res:Bool} (h:qas N a=some res):qb ZT (.fn 13) [.str a] [] (.bool res) []:=by
 unfold qas at h
 refine Ub Tryz.func13 rfl rfl (m:=8) rfl (rs:=[.tmp 2]) rfl (l:=(kBn a)) rfl ?_
 refine sh fol (kBn a) ?_
 obtain⟨c,b,h⟩:=bnd h
 refine sq (gr fol [1] (kB2 (decide (c=(a.length:Int)))) (ac (cv (qb6 N a b)) az) ?_)
 refine Goes.ret ?_
 obtain rfl:=si h
 exact(gw2 [.bool (decide (c=(a.length:Int)))] (Ua tB))
def qdW (N:Nat) (a:Str):Option (Int×Int×Bool):=
 if(a.length:Int)>20 then
 some (0,0,false)
 else
 (if(a.length:Int)>0 then
 (idx a 0).bind fun l=>
 some (decide ((l.toNat:Int)=45))
 else
 some false:Option Bool).bind fun k=>
 ((if k=true then
 (cut a 1 (a.length:Int)).bind fun m=>
 some m
 else
 some a:Option Str)).bind fun c=>
 (qbP N c).bind fun b=>
 (if b>9 then
 some true
 else
 some (decide ((w64 ((c.length:Int)-b))>10)):Option Bool).bind fun e=>
 if e=true then
 some (0,0,false)
 else
 (cut c 0 b).bind fun f=>
 (qbH N f).bind fun d=>
 ((if b<(c.length:Int)then
 (cut c (w64 (b+1)) (c.length:Int)).bind fun g=>
 (qbH N g).bind fun h=>
 some h
 else
 some 1:Option Int)).bind fun i=>
 ((if k=true then
 some (w64 (0-d))
 else
 some d:Option Int)).bind fun j=>
 some (j,i,true)
theorem qfb (N:Nat) (a:Str) {res:Int×Int×Bool} (h:qdW N a=some res):qb ZT (.fn 93) [.str a] [] (.tuple [.i res.1,.i res.2.1,.bool res.2.2]) []:=by
 unfold qdW at h
 refine Ub Tryz.func93 rfl rfl (m:=54) rfl (rs:=[.tmp 2,.tmp 3,.tmp 4]) rfl (l:=(kBn a)) rfl ?_
 refine sh fol (kBn a) ?_
 refine sh fol [(5,.str a)] ?_
 refine sq ?_
 refine sh fol ((5,.str a)::(kBe (decide ((a.length:Int)>20)))) ?_
 refine ihD h (fun L h=>?_) (fun L h=>?_)
 ·refine sh fol [(2,.i 0),(3,.i 0),(4,.bool false)] ?_
  refine Goes.ret ?_
  obtain rfl:=si h
  exact(gw2 [.i 0,.i 0,.bool false] (FzW.tuple (qh.cons (Ua tI) (qh.cons (Ua tI) (qh.cons (Ua tB) qh.nil)))))
 refine Goes.skip ?_
 refine sq ?_
 obtain⟨g,c,h⟩:=bnd h
 refine Goes.cut (s':=(ofG 54 (kBg a g []),[])) ?_ ?_
 ·rcases wyD c with⟨B,c⟩|⟨B,c⟩
  ·obtain⟨J,w,c⟩:=bnd c
   obtain rfl:=si c
   exact tr fol [3,5] (kBg a (decide ((J.toNat:Int)=45)) []) (ac (gw B) (ac (hs (.done (.opt (qax ZT 9 (.str a) (.i 0))) (.int .u8 (J.toNat:Int))) (qcR st9 w)) az))
  obtain rfl:=si c
  exact tr fol [3] ((5,.str a)::kBh) (ac (gw B) az)
 refine sq ?_
 refine sh fol (kBg a g [(22,.bool g)]) ?_
 obtain⟨M,p,h⟩:=bnd h
 refine Goes.imp (Q:=fun x s'=>(x= .normal/\ ∃j,j=M/\Sub s' (ofG 54 (kBg j g []),[]))) ?_ ?_
 ·refine ihB p (fun O p=>?_) (fun O p=>?_)
  ·obtain⟨K,y,p⟩:=bnd p
   refine gr fol [1] (kBg K g []) (ac (hs (.done (.opt (zi ZT 9 (.str a) (some (.i 1)) none none)) (.str K)) (xc st9 (some 1) none y)) az) ?_
   obtain rfl:=si p
   exact⟨rfl,_,rfl,(Sub.refl _)⟩
  refine Goes.skip ?_
  obtain rfl:=si p
  exact⟨rfl,_,rfl,(Sub.keep [5,6] rfl rfl)⟩
 rintro x s' ⟨rfl,j,rfl,hsub⟩
 refine Goes.sub hsub ?_
 obtain⟨b,q,h⟩:=bnd h
 refine sq (gr fol [1] (kBg j g [(7,.i b)]) (ac (cv (qb6 N j q)) az) ?_)
 refine sq ?_
 refine sq ?_
 obtain⟨C,d,h⟩:=bnd h
 refine Goes.cut (s':=(ofG 54 (kBg j g [(7,.i b),(35,.bool C)]),[])) ?_ ?_
 ·rcases wyD d with⟨r,d⟩|⟨r,d⟩
  ·obtain rfl:=si d
   exact tr fol [2] (kBg j g [(7,.i b),(35,.bool true)]) (ac (gw r) az)
  obtain rfl:=si d
  exact tr fol [2] (kBg j g [(7,.i b),(35,.bool (decide ((w64 ((j.length:Int)-b))>10)))]) (ac (gw r) az)
 refine ihB h (fun D h=>?_) (fun D h=>?_)
 ·refine sh fol [(2,.i 0),(3,.i 0),(4,.bool false)] ?_
  refine Goes.ret ?_
  obtain rfl:=si h
  exact(gw2 [.i 0,.i 0,.bool false] (FzW.tuple (qh.cons (Ua tI) (qh.cons (Ua tI) (qh.cons (Ua tB) qh.nil)))))
 refine Goes.skip ?_
 obtain⟨z,s,h⟩:=bnd h
 obtain⟨k,t,h⟩:=bnd h
 refine sq (gr fol [2,3] (kBg j g (kAo b k [(9,.i 1)])) (ac (hs (.done (.opt (zi ZT 9 (.str j) none (some (.i b)) none)) (.str z)) (xc st9 none (some b) s)) (ac (cv (qcc N z t)) az)) ?_)
 refine sq ?_
 refine sh fol (kBg j g (kAo b k [(9,.i 1),(43,.bool (decide (b<(j.length:Int))))])) ?_
 obtain⟨E,e,h⟩:=bnd h
 refine Goes.imp (Q:=fun x s'=>(x= .normal/\ ∃f,f=E/\Sub s' (ofG 54 ((6,.bool g)::(kAe k f)),[]))) ?_ ?_
 ·refine ihD e (fun F e=>?_) (fun F e=>?_)
  ·obtain⟨A,u,e⟩:=bnd e
   obtain⟨G,v,e⟩:=bnd e
   refine gr fol [3,4] ((6,.bool g)::(kAe k G)) (ac (hs (.done (.opt (zi ZT 9 (.str j) (some (.i (w64 (b+1)))) none none)) (.str A)) (xc st9 (some (w64 (b+1))) none u)) (ac (cv (qcc N A v)) az)) ?_
   obtain rfl:=si e
   exact⟨rfl,_,rfl,(Sub.refl _)⟩
  refine Goes.skip ?_
  obtain rfl:=si e
  exact⟨rfl,_,rfl,(Sub.keep [6,8,9] rfl rfl)⟩
 rintro x s' ⟨rfl,f,rfl,hsub⟩
 refine Goes.sub hsub ?_
 refine sq ?_
 refine sh fol [(8,.i k),(9,.i f),(49,.bool g)] ?_
 obtain⟨H,n,h⟩:=bnd h
 refine Goes.imp (Q:=fun x s'=>(x= .normal/\ ∃o,o=H/\Sub s' (ofG 54 (kAe o f),[]))) ?_ ?_
 ·refine ihB n (fun I n=>?_) (fun I n=>?_)
  ·refine gh fol (kAe (w64 (0-k)) f) ?_
   obtain rfl:=si n
   exact⟨rfl,_,rfl,(Sub.refl _)⟩
  refine Goes.skip ?_
  obtain rfl:=si n
  exact⟨rfl,_,rfl,(Sub.keep [8,9] rfl rfl)⟩
 rintro x s' ⟨rfl,o,rfl,hsub⟩
 refine Goes.sub hsub ?_
 refine sh fol ((2,.i o)::(3,.i f)::kB8) ?_
 refine Goes.ret ?_
 obtain rfl:=si h
 exact(gw2 [.i o,.i f,.bool true] (FzW.tuple (qh.cons (Ua tI) (qh.cons (Ua tI) (qh.cons (Ua tB) qh.nil)))))
def xJ (least:Int):Nat->Int->Str->Option Str
 |0,_,_=>none
 |K+1,a,b=>
  (if a>0 then
  some true
  else
  some (decide ((b.length:Int)<least)):Option Bool).bind fun d=>
  if d=true then
  (cut [48,49,50,51,52,53,54,55,56,57] (a.tmod 10) (w64 ((a.tmod 10)+1))).bind fun e=>
  (cat e b).bind fun c=>
  xJ least K (w64 (a.tdiv 10)) c
  else
  some b
def qam (N:Nat) (n:Int) (least:Int):Option Str:=
 (xJ least N n []).bind fun a=>
 some a
theorem qa2 (N:Nat) (n:Int) (least:Int) {res:Str} (h:qam N n least=some res):qb ZT (.fn 97) [.i n,.i least] [] (.str res) []:=by
 unfold qam at h
 refine Ub Tryz.func97 rfl rfl (m:=25) rfl (rs:=[.tmp 4]) rfl (l:=(kAL n least [])) rfl ?_
 refine sh fol (kAL n least []) ?_
 refine sh fol (kAL n least [(5,.str [])]) ?_
 refine sq (Goes.block ?_)
 obtain⟨k,g4,h⟩:=bnd h
 refine Goes.imp (Q:=fun x s'=>(x= .exit 0/\ ∃f,f=k/\Sub s' (ofG 25 [(5,.str f)],[]))) ?_ ?_
 ·refine Uc (fun M s=> ∃(b:Int) (d:Str),s=(ofG 25 (kAL b least [(5,.str d)]),[])/\xJ least M b d=some k) ?_ (m:=N) ⟨_,_,rfl,g4⟩
  rintro M s ⟨b,d,rfl,g4⟩
  cases M with
  |zero=>simp only[xJ]at g4;cases g4
  |succ M=>
   rw[xJ]at g4
   refine sq ?_
   refine sq ?_
   obtain⟨p,a,g4⟩:=bnd g4
   refine Goes.cut (s':=(ofG 25 (kAL b least ((5,.str d)::(kBe p))),[])) ?_ ?_
   ·rcases wyD a with⟨j,a⟩|⟨j,a⟩
    ·obtain rfl:=si a
     exact tr fol [2] (kAL b least [(5,.str d),(13,.bool true)]) (ac (gw j) az)
    obtain rfl:=si a
    exact tr fol [2] (kAL b least ((5,.str d)::(kBe (decide ((d.length:Int)<least))))) (ac (gw j) az)
   refine ihB g4 (fun q g4=>?_) (fun q g4=>?_)
   ·refine Goes.skip ?_
    refine Goes.block ?_
    obtain⟨o,g,g4⟩:=bnd g4
    obtain⟨c,e,g4⟩:=bnd g4
    refine sq (gr fol [5,7] (kAL b least [(5,.str c)]) (ac (hs (.done (.opt (zi ZT 9 (.str [48,49,50,51,52,53,54,55,56,57]) (some (.i (b.tmod 10))) (some (.i (w64 ((b.tmod 10)+1)))) none)) (.str o)) (xc st9 (some (b.tmod 10)) (some (w64 ((b.tmod 10)+1))) g)) (ac (hs (.done (.opt (zx ZT .add 9 (.tmp 19) (.tmp 20) (.str o) (.str d))) (.str c)) (qcd e)) az)) ?_)
    refine gh fol (kAL (w64 (b.tdiv 10)) least [(5,.str c)]) ?_
    exact⟨M,(ofG 25 (kAL (w64 (b.tdiv 10)) least [(5,.str c)]),[]),Nat.lt_succ_self _,(Sub.refl _),_,_,rfl,g4⟩
   refine Goes.exit ?_
   obtain rfl:=si g4
   exact⟨rfl,_,rfl,(Sub.keep [5] rfl rfl)⟩
 rintro x s' ⟨rfl,f,rfl,hsub⟩
 refine Goes.sub hsub ?_
 refine sh fol [(4,.str f)] ?_
 refine Goes.ret ?_
 obtain rfl:=si h
 exact(gw2 [.str f] (Ua tS))
def qbh (N:Nat) (a:ky):Nat->Str->Int->Option Str
 |0,_,_=>none
 |K+1,e,b=>
  if b>=0 then
  (idx a.w b).bind fun f=>
  (qam N f 9).bind fun c=>
  (cat e c).bind fun d=>
  qbh N a K d (w64 (b-1))
  else
  some e
def qdo (N:Nat) (a:ky):Option Str:=
 if(a.w.length:Int)=0 then
 some [48]
 else
 (idx a.w (w64 ((a.w.length:Int)-1))).bind fun d=>
 (qam N d 1).bind fun e=>
 (qbh N a N e (w64 ((a.w.length:Int)-2))).bind fun c=>
 if a.neg=true then
 (cat [45] c).bind fun b=>
 some b
 else
 some c
theorem qeb (N:Nat) (a:ky) {res:Str} (h:qdo N a=some res):qb ZT (.fn 44) [.agg (.bool a.neg::(kA1 a.w))] [] (.str res) []:=by
 unfold qdo at h
 refine Ub Tryz.func44 rfl rfl (m:=39) rfl (rs:=[.tmp 2]) rfl (l:=[(0,.agg [.bool a.neg,vl encI a.w])]) rfl ?_
 refine sg fol (kAX []) (kU a.neg a.w []) ?_
 refine sq ?_
 refine sh fol (kAX [(8,.bool (decide ((a.w.length:Int)=0)))]) ?_
 refine ihD h (fun v h=>?_) (fun v h=>?_)
 ·refine sh fol [(2,.str [48])] ?_
  refine Goes.ret ?_
  obtain rfl:=si h
  exact(gw2 [.str [48]] (Ua tS))
 refine Goes.skip ?_
 obtain⟨y,d,h⟩:=bnd h
 obtain⟨t,o,h⟩:=bnd h
 refine sq (gr fol [6,7,8] (kAX [(3,.str t)]) (ac (iv qo encI d) (ac (lv 0 ce3 encI d rfl) (ac (cv (qa2 N y 1 o)) az))) ?_)
 refine sq ?_
 refine sh fol (kAX (kBA t (w64 ((a.w.length:Int)-2)) [])) ?_
 refine Goes.block ?_
 obtain⟨u,b,h⟩:=bnd h
 refine Goes.imp (Q:=fun x s'=>(x= .exit 0/\ ∃g,g=u/\Sub s' (ofG 39 (kAX [(3,.str g)]),(kU a.neg a.w [])))) ?_ ?_
 ·refine Uc (fun M s=> ∃(p:Str) (e:Int),s=(ofG 39 (kAX (kBA p e [])),(kU a.neg a.w []))/\qbh N a M p e=some u) ?_ (m:=N) ⟨_,_,rfl,b⟩
  rintro M s ⟨p,e,rfl,b⟩
  cases M with
  |zero=>simp only[qbh]at b;cases b
  |succ M=>
   rw[qbh]at b
   refine sq ?_
   refine sh fol (kAX (kBA p e [(23,.bool (decide (e>=0)))])) ?_
   refine ihD b (fun z b=>?_) (fun z b=>?_)
   ·refine Goes.skip ?_
    refine sq (Goes.block ?_)
    obtain⟨A,f,b⟩:=bnd b
    obtain⟨q,i,b⟩:=bnd b
    obtain⟨c,j,b⟩:=bnd b
    refine gr fol [4,5,6,7] (kAX (kBA c e [])) (ac (iv qo encI f) (ac (lv 0 ce3 encI f rfl) (ac (cv (qa2 N A 9 i)) (ac (hs (.done (.opt (zx ZT .add 9 (.tmp 26) (.tmp 32) (.str p) (.str q))) (.str c)) (qcd j)) az)))) ?_
    refine gh fol (kAX (kBA c (w64 (e-1)) [])) ?_
    exact⟨M,(ofG 39 (kAX (kBA c (w64 (e-1)) [])),(kU a.neg a.w [])),Nat.lt_succ_self _,(Sub.refl _),_,_,rfl,b⟩
   refine Goes.exit ?_
   obtain rfl:=si b
   exact⟨rfl,_,rfl,(Sub.keep [1,3] rfl rfl)⟩
 rintro x s' ⟨rfl,g,rfl,hsub⟩
 refine Goes.sub hsub ?_
 refine sq ?_
 refine sh fol [(3,.str g),(35,.bool a.neg)] ?_
 refine ihB h (fun r h=>?_) (fun r h=>?_)
 ·obtain⟨k,n,h⟩:=bnd h
  refine sq (gr fol [1] [(2,.str k)] (ac (hs (.done (.opt (zx ZT .add 9 (.const (.string ⟨#[45]⟩)) (.tmp 36) (.str [45]) (.str g))) (.str k)) (qcd n)) az) ?_)
  refine Goes.ret ?_
  obtain rfl:=si h
  exact(gw2 [.str k] (Ua tS))
 refine Goes.skip ?_
 refine sh fol [(2,.str g)] ?_
 refine Goes.ret ?_
 obtain rfl:=si h
 exact(gw2 [.str g] (Ua tS))
def qdV (N:Nat) (a:ky):Option ky:=
 (xm N (!a.neg) a.w).bind fun b=>
 some b
theorem qfo (N:Nat) (a:ky) {res:ky} (h:qdV N a=some res):qb ZT (.fn 146) [.agg (.bool a.neg::(kA1 a.w))] [] (.agg (.bool res.neg::(kA1 res.w))) []:=by
 unfold qdV at h
 refine Ub Tryz.func146 rfl rfl (m:=9) rfl (rs:=[.cell 2 76]) rfl (l:=[(0,.agg [.bool a.neg,vl encI a.w])]) rfl ?_
 refine sg fol (kAX kBX) (kU a.neg a.w (kV [])) ?_
 obtain⟨c,b,h⟩:=bnd h
 refine sq (gq fol [5] kBX (kU a.neg a.w (kU c.neg c.w [])) (ac (cv (xe N (!a.neg) a.w b)) az) ?_)
 refine Goes.ret ?_
 obtain rfl:=si h
 exact(gw2 [.agg (.bool c.neg::(kA1 c.w))] (FzW.agg (qh.cons (Ua tB) (qh.cons (Ua (ql encI _ (nl rfl))) qh.nil))))
def qaG (N:Nat) (n:ky) (d:ky):Option Str:=
 ((if d.neg=true then
 (qdV N n).bind fun l=>
 (qdV N d).bind fun m=>
 some (l.neg,l.w,m.neg,m.w)
 else
 some (n.neg,n.w,d.neg,d.w):Option (Bool×(List Int)×Bool×(List Int)))).bind fun(r,o,s,p)=>
 (qc7 N o p).bind fun q=>
 (qaf N o q).bind fun c=>
 (qaf N p q).bind fun a=>
 (xm N r c.1).bind fun e=>
 (qdo N e).bind fun b=>
 (if(a.1.length:Int)=1 then
 (idx a.1 0).bind fun f=>
 some (decide (f=1))
 else
 some false:Option Bool).bind fun g=>
 if g=true then
 some b
 else
 (cat b [47]).bind fun h=>
 (xm N false a.1).bind fun i=>
 (qdo N i).bind fun j=>
 (cat h j).bind fun k=>
 some k
theorem qce (N:Nat) (n:ky) (d:ky) {res:Str} (h:qaG N n d=some res):qb ZT (.fn 95) (kBj n.neg n.w d.neg d.w) [] (.str res) []:=by
 unfold qaG at h
 refine Ub Tryz.func95 rfl rfl (m:=57) rfl (rs:=[.tmp 4]) rfl (l:=[(0,.agg [.bool n.neg,vl encI n.w]),(1,.agg [.bool d.neg,vl encI d.w])]) rfl ?_
 refine sg fol (kX (kBm [])) (kU n.neg n.w (kU d.neg d.w [])) ?_
 refine sq ?_
 refine sh fol (kX (kBm [(12,.bool d.neg)])) ?_
 obtain⟨O,g5,h⟩:=bnd h
 refine Goes.imp (Q:=fun x s'=>(x= .normal/\ ∃y u D v,(y,u,D,v)=O/\Sub s' (ofG 57 (kX (kBm [])),(kU y u (kU D v []))))) ?_ ?_
 ·refine ihB g5 (fun P g5=>?_) (fun P g5=>?_)
  ·obtain⟨L,z,g5⟩:=bnd g5
   obtain⟨M,A,g5⟩:=bnd g5
   refine gq fol [1,3] (kX (kBm [])) (kU L.neg L.w (kU M.neg M.w [])) (ac (cv (qfo N n z)) (ac (cv (qfo N d A)) az)) ?_
   obtain rfl:=si g5
   exact⟨rfl,_,_,_,_,rfl,(Sub.refl _)⟩
  refine Goes.skip ?_
  obtain rfl:=si g5
  exact⟨rfl,_,_,_,_,rfl,(Sub.keep [2,3] rfl rfl)⟩
 rintro x s' ⟨rfl,y,u,D,v,rfl,hsub⟩
 try dsimp only at h
 refine Goes.sub hsub ?_
 obtain⟨E,B,h⟩:=bnd h
 refine sq (gr fol [4] (kX (kBm [(5,vl encI E)])) (ac (cv (qeW N u v B)) az) ?_)
 obtain⟨f,g,h⟩:=bnd h
 refine sq (gr fol [3] (kX (kBm [(5,vl encI E),(6,vl encI f.1)])) (ac (cv (qbC N u E g)) az) ?_)
 obtain⟨c,i,h⟩:=bnd h
 refine sq (gr fol [3] (kX ((6,vl encI f.1)::(kBk c.1 []))) (ac (cv (qbC N v E i)) az) ?_)
 obtain⟨F,j,h⟩:=bnd h
 obtain⟨b,k,h⟩:=bnd h
 refine sq (gr fol [3,4] (kBk c.1 [(10,.str b)]) (ac (cv (xe N y f.1 j)) (ac (cv (qeb N F k)) az)) ?_)
 refine sq ?_
 refine sq ?_
 obtain⟨G,a,h⟩:=bnd h
 refine Goes.cut (s':=(ofG 57 (kBk c.1 [(10,.str b),(49,.bool G)]),(kU y u (kU D v [])))) ?_ ?_
 ·rcases wyD a with⟨o,a⟩|⟨o,a⟩
  ·obtain⟨H,e,a⟩:=bnd a
   obtain rfl:=si a
   exact tr fol [3,5,6] (kBk c.1 [(10,.str b),(49,.bool (decide (H=1)))]) (ac (gw o) (ac (iv qo encI e) (ac (lv 0 ce3 encI e rfl) az)))
  obtain rfl:=si a
  exact tr fol [3] (kBk c.1 [(10,.str b),(49,.bool false)]) (ac (gw o) az)
 refine ihB h (fun I h=>?_) (fun I h=>?_)
 ·refine sh fol [(4,.str b)] ?_
  refine Goes.ret ?_
  obtain rfl:=si h
  exact(gw2 [.str b] (Ua tS))
 refine Goes.skip ?_
 obtain⟨C,p,h⟩:=bnd h
 obtain⟨J,q,h⟩:=bnd h
 obtain⟨K,r,h⟩:=bnd h
 obtain⟨s,t,h⟩:=bnd h
 refine sq (gr fol [1,3,4,5] [(4,.str s)] (ac (hs (.done (.opt (zx ZT .add 9 (.tmp 51) (.const (.string ⟨#[47]⟩)) (.str b) (.str [47]))) (.str C)) (qcd p)) (ac (cv (xe N false c.1 q)) (ac (cv (qeb N J r)) (ac (hs (.done (.opt (zx ZT .add 9 (.tmp 52) (.tmp 55) (.str C) (.str K))) (.str s)) (qcd t)) az)))) ?_)
 refine Goes.ret ?_
 obtain rfl:=si h
 exact(gw2 [.str s] (Ua tS))
def qbX:Nat->Int->Int->Option Int
 |0,_,_=>none
 |K+1,b,a=>
  if a>0 then
  (qjj .i64 b a).bind fun c=>
  qbX K a c
  else
  some b
def qhl (N:Nat) (a:Int) (b:Int):Option Int:=
 (qbX N a b).bind fun c=>
 some c
theorem qjV (N:Nat) (a:Int) (b:Int) {res:Int} (h:qhl N a b=some res):qb ZT (.fn 145) [.i a,.i b] [] (.i res) []:=by
 unfold qhl at h
 refine Ub Tryz.func145 rfl rfl (m:=12) rfl (rs:=[.tmp 4]) rfl (l:=(kAL a b [])) rfl ?_
 refine sh fol (kAL a b []) ?_
 refine sq (Goes.block ?_)
 obtain⟨j,g4,h⟩:=bnd h
 refine Goes.imp (Q:=fun x s'=>(x= .exit 0/\ ∃d,d=j/\Sub s' (ofG 12 (kBi d),[]))) ?_ ?_
 ·refine Uc (fun M s=> ∃(e:Int) (c:Int),s=(ofG 12 (kAL e c []),[])/\qbX M e c=some j) ?_ (m:=N) ⟨_,_,rfl,g4⟩
  rintro M s ⟨e,c,rfl,g4⟩
  cases M with
  |zero=>simp only[qbX]at g4;cases g4
  |succ M=>
   rw[qbX]at g4
   refine sq ?_
   refine sh fol (kAL e c [(6,.bool (decide (c>0)))]) ?_
   refine ihD g4 (fun k g4=>?_) (fun k g4=>?_)
   ·refine Goes.skip ?_
    refine Goes.block ?_
    obtain⟨g,f,g4⟩:=bnd g4
    refine gr fol [3] (kAL c g []) (ac (hs (.done (.opt (zx ZT .rem 3 (.tmp 8) (.tmp 9) (.i e) (.i c))) (.i g)) (qfP f)) az) ?_
    exact⟨M,(ofG 12 (kAL c g []),[]),Nat.lt_succ_self _,(Sub.refl _),_,_,rfl,g4⟩
   refine Goes.exit ?_
   obtain rfl:=si g4
   exact⟨rfl,_,rfl,(Sub.keep [0] rfl rfl)⟩
 rintro x s' ⟨rfl,d,rfl,hsub⟩
 refine Goes.sub hsub ?_
 refine sh fol (kBx d) ?_
 refine Goes.ret ?_
 obtain rfl:=si h
 exact(gw2 [.i d] (Ua tI))
end Go.Av
