/-
  Walks of functions: what each computes, as a plain function.
-/
import Derived.Test.YtjilgbgaeeielaaGreatQGenW2
noncomputable section
namespace Go.Av
open Go.Proofs Go.RowKit
set_option linter.unusedSectionVars false
set_option linter.unusedVariables false
set_option linter.unusedSimpArgs false
set_option maxRecDepth 100000
def qN (N:Nat) (a:List (List Int)):Nat->(List (List Int))->Int->Option (List (List Int))
 |0,_,_=>none
 |K+1,c,b=>
  if b<(a.length:Int)then
  (idx a b).bind fun d=>
  (jM N d).bind fun e=>
  (app 24 c [e]).bind fun f=>
  qN N a K f (w64 (b+1))
  else
  some c
def jb (N:Nat) (a:List (List Int)):Option (List (List Int)):=
 (qN N a N ([]:List (List Int)) 0).bind fun b=>
 some b
theorem qbj (N:Nat) (a:List (List Int)) {o:List (List Int)} (h:jb N a=some o):qf ZT (.fn 62) [.gslice 0 a.length 1,.func (.func 63) [] []] [.cells (a.flatMap (qc encI).c)] (.gslice 1 o.length 1) [.cells (a.flatMap (qc encI).c),.cells (o.flatMap (qc encI).c)]:=by
 unfold jb at h
 refine Un Tryz.func62 rfl rfl (m:=22) rfl (rs:=[.tmp 4]) rfl (l:=[(0,.gslice 0 a.length 1),(1,.func (.func 63) [] [])]) rfl ?_
 intro B hB
 refine sh fol [(0,.gslice 0 a.length 1),(1,.func (.func 63) [] [])] ?_
 refine sh fol [(0,.gslice 0 a.length 1),(1,.func (.func 63) [] []),(5,.nilslice)] ?_
 refine sq ?_
 refine sh fol ((1,.func (.func 63) [] [])::(5,.nilslice)::(kAR a (a.length:Int) [(10,.i 0)])) ?_
 refine Goes.block ?_
 obtain⟨q,g5,h⟩:=bnd h
 refine Goes.imp (Q:=fun x s'=>(x= .exit 0/\ ∃g,g=q/\Sub s' (ofG 22 [(5,.gslice 1 g.length 1)],[.cells (a.flatMap (qc encI).c),.cells (g.flatMap (qc encI).c)]))) ?_ ?_
 ·refine Goes.sub (s':=(ofG 22 ((1,.func (.func 63) [] [])::(5,.gslice 1 ([]:List (List Int)).length 1)::(kAR a (a.length:Int) [(10,.i 0)])),[.cells (a.flatMap (qc encI).c),.cells (([]:List (List Int)).flatMap (qc encI).c)])) (Sub.norm [] [some 0,none] (by rw[hB];rfl) rfl (.keep (.same (qy.func sn sn)) (.keep .nil (.keep (.gslice rfl) (.keep (.same nI) (.keep (.same nI) .nil))))) (.ks (.fresh .nil))) ?_
  refine Uf (fun M s=> ∃(d:List (List Int)) (b:Int),s=(ofG 22 ((1,.func (.func 63) [] [])::(5,.gslice 1 d.length 1)::(kAR a (a.length:Int) [(10,.i b)])),[.cells (a.flatMap (qc encI).c),.cells (d.flatMap (qc encI).c)])/\qN N a M d b=some q) ?_ (m:=N) ⟨_,_,rfl,g5⟩
  rintro M s ⟨d,b,rfl,g5⟩
  cases M with
  |zero=>simp only[qN]at g5;cases g5
  |succ M=>
   rw[qN]at g5
   refine sh fol ((1,.func (.func 63) [] [])::(5,.gslice 1 d.length 1)::(kAR a (a.length:Int) [(10,.i b),(11,.bool (decide (b<(a.length:Int))))])) ?_
   refine sq ?_
   refine ihD g5 (fun r g5=>?_) (fun r g5=>?_)
   ·refine Goes.skip ?_
    refine sq (Goes.block ?_)
    obtain⟨p,e,g5⟩:=bnd g5
    refine sq (gr fol [0,1] ((1,.func (.func 63) [] [])::(5,.gslice 1 d.length 1)::(7,vl encI p)::(kAR a (a.length:Int) [(10,.i b)])) (ac (hs (.done (.opt (qm ZT 103 (.gslice 0 a.length 1) (.i b))) (.ptr 0 ((b:Int).toNat*1+0))) (qb8 qcF e)) (ac (hs (.run [0] (jK ZT 72 (.ptr 0 ((b:Int).toNat*1+0))) [.cells (a.flatMap (qc encI).c),.cells (d.flatMap (qc encI).c)] (vl encI p) [.cells (a.flatMap (qc encI).c),.cells (d.flatMap (qc encI).c)] false) (qcE qkr (E:=(qc encI)) (l:=a) rfl rfl e (nl rfl) rfl)) az)) ?_)
    obtain⟨n,j,g5⟩:=bnd g5
    obtain⟨f,k,g5⟩:=bnd g5
    refine gq fol [3,5] ((1,.func (.func 63) [] [])::(5,.gslice 3 f.length 1)::(kAR a (a.length:Int) [(10,.i b)])) (.cells (a.flatMap (qc encI).c):: .dead::(kAd n [.cells (f.flatMap (qc encI).c)])) (ac (cv (qbD N p j)) (ac (hs (.run [1,2] (z8 ZT [103,103] (.gslice 1 d.length 1) (.slice 2 0 1 1 1)) (.cells (a.flatMap (qc encI).c):: .cells (d.flatMap (qc encI).c)::(kAd n [])) (.gslice 3 f.length 1) (.cells (a.flatMap (qc encI).c):: .dead::(kAd n [.cells (f.flatMap (qc encI).c)])) true) (qac qcF (E:=(qc encI)) rfl (qey (E:=(qc encI)) (ys:=[n]) rfl rfl rfl rfl) (qfQ (E:=(qc encI)) (l:=d) rfl rfl rfl k rfl))) az)) ?_
    refine gh fol ((1,.func (.func 63) [] [])::(5,.gslice 3 f.length 1)::(kAR a (a.length:Int) [(10,.i (w64 (b+1)))])) ?_
    exact⟨M,(ofG 22 ((1,.func (.func 63) [] [])::(5,.gslice 1 f.length 1)::(kAR a (a.length:Int) [(10,.i (w64 (b+1)))])),[.cells (a.flatMap (qc encI).c),.cells (f.flatMap (qc encI).c)]),Nat.lt_succ_self _,(Sub.norm [] [some 0,some 3] (by rw[hB];rfl) rfl (.keep (.same (qy.func sn sn)) (.keep (.gslice rfl) (.keep (.gslice rfl) (.keep (.same nI) (.keep (.same nI) .nil))))) (.ks (.ks .nil))),_,_,rfl,g5⟩
   refine Goes.exit ?_
   obtain rfl:=si g5
   exact⟨rfl,_,rfl,(Sub.keep [5] rfl rfl)⟩
 rintro x s' ⟨rfl,g,rfl,hsub⟩
 refine Goes.sub hsub ?_
 refine sh fol [(4,.gslice 1 g.length 1)] ?_
 refine Goes.ret ?_
 obtain rfl:=si h
 exact(gh2 [.gslice 1 g.length 1] (qbh.refl _ _))
def vg (N:Nat) (a:Int) (b:List (List Int)):Option ((List (List Int))×Bool):=
 (idx b a).bind fun g=>
 (idx b (w64 (a+1))).bind fun h=>
 (yJ N g h).bind fun d=>
 ((if d.2=true then
 (ji N g d.1).bind fun i=>
 (ku h d.1).bind fun e=>
 (put b a i).bind fun c=>
 (idx c (w64 (a+1))).bind fun j=>
 (put c (w64 (a+1)) e).bind fun f=>
 some f
 else
 some b:Option (List (List Int)))).bind fun k=>
 some (k,d.2)
theorem qda (N:Nat) (b:Int) (a:List (List Int)) {w:List (List Int)} {z:Bool} (h:vg N b a=some (w,z)):qf ZT (.fn 101) [.i b,.ptr 0 0] (kU a [.cells (a.flatMap (qc encI).c)]) (.bool z) (kU w [.cells (w.flatMap (qc encI).c)]):=by
 unfold vg at h
 refine Un Tryz.func101 rfl rfl (m:=41) rfl (rs:=[.tmp 3]) rfl (l:=[(0,.i b),(1,.ptr 0 0)]) rfl ?_
 intro B hB
 refine sh fol [(0,.i b),(1,.ptr 0 0)] ?_
 obtain⟨t,d,h⟩:=bnd h
 obtain⟨u,e,h⟩:=bnd h
 obtain⟨f,q,h⟩:=bnd h
 refine sq (gr fol [2,3,7,8,9] [(0,.i b),(1,.ptr 0 0),(4,.i f.1),(5,.bool f.2)] (ac (hs (.done (.opt (qm ZT 103 (.gslice 1 a.length 1) (.i b))) (.ptr 1 ((b:Int).toNat*1+0))) (qb8 qcF d)) (ac (hs (.run [1] (jK ZT 72 (.ptr 1 ((b:Int).toNat*1+0))) (kU a [.cells (a.flatMap (qc encI).c)]) (vl encI t) (kU a [.cells (a.flatMap (qc encI).c)]) false) (qcE qkr (E:=(qc encI)) (l:=a) rfl rfl d (nl rfl) rfl)) (ac (hs (.done (.opt (qm ZT 103 (.gslice 1 a.length 1) (.i (w64 (b+1))))) (.ptr 1 ((w64 (b+1):Int).toNat*1+0))) (qb8 qcF e)) (ac (hs (.run [1] (jK ZT 72 (.ptr 1 ((w64 (b+1):Int).toNat*1+0))) (kU a [.cells (a.flatMap (qc encI).c)]) (vl encI u) (kU a [.cells (a.flatMap (qc encI).c)]) false) (qcE qkr (E:=(qc encI)) (l:=a) rfl rfl e (nl rfl) rfl)) (ac (cv (qec N t u q)) az))))) ?_)
 refine sq ?_
 refine sh fol [(0,.i b),(1,.ptr 0 0),(4,.i f.1),(5,.bool f.2),(19,.bool f.2)] ?_
 obtain⟨C,g7,h⟩:=bnd h
 refine Goes.imp (Q:=fun x s'=>(x= .normal/\ ∃v,v=C/\Sub s' (ofG 41 [(5,.bool f.2)],(kU v [.cells (v.flatMap (qc encI).c)])))) ?_ ?_
 ·refine ihB g7 (fun D g7=>?_) (fun D g7=>?_)
  ·obtain⟨A,r,g7⟩:=bnd g7
   obtain⟨s,n,g7⟩:=bnd g7
   obtain⟨o,g,g7⟩:=bnd g7
   obtain⟨F,p,g7⟩:=bnd g7
   obtain⟨j,k,g7⟩:=bnd g7
   refine gq fol [7,8,10,14,15,17,18,19,20,21] [(5,.bool f.2)] (kU a [.cells (j.flatMap (qc encI).c)]) (ac (hs (.done (.opt (qm ZT 103 (.gslice 1 a.length 1) (.i b))) (.ptr 1 ((b:Int).toNat*1+0))) (qb8 qcF d)) (ac (hs (.run [1] (jK ZT 72 (.ptr 1 ((b:Int).toNat*1+0))) (kU a [.cells (a.flatMap (qc encI).c)]) (vl encI t) (kU a [.cells (a.flatMap (qc encI).c)]) false) (qcE qkr (E:=(qc encI)) (l:=a) rfl rfl d (nl rfl) rfl)) (ac (cv (qaj N t f.1 r)) (ac (hs (.done (.opt (qm ZT 103 (.gslice 1 a.length 1) (.i (w64 (b+1))))) (.ptr 1 ((w64 (b+1):Int).toNat*1+0))) (qb8 qcF e)) (ac (hs (.run [1] (jK ZT 72 (.ptr 1 ((w64 (b+1):Int).toNat*1+0))) (kU a [.cells (a.flatMap (qc encI).c)]) (vl encI u) (kU a [.cells (a.flatMap (qc encI).c)]) false) (qcE qkr (E:=(qc encI)) (l:=a) rfl rfl e (nl rfl) rfl)) (ac (cv (jN u f.1 n)) (ac (hs (.done (.opt (qm ZT 103 (.gslice 1 a.length 1) (.i b))) (.ptr 1 ((b:Int).toNat*1+0))) (qb8 qcF d)) (ac (hs (.run [1] (yz ZT 72 (.ptr 1 ((b:Int).toNat*1+0)) (vl encI A)) (kU a [.cells (a.flatMap (qc encI).c)]) .undef (kU a [.cells (o.flatMap (qc encI).c)]) true) (qbp (E:=(qc encI)) (l:=a) (y:=A) rfl (show _=some 1 by kernel_rfl) rfl d rfl rfl rfl rfl rfl g rfl)) (ac (hs (.done (.opt (qm ZT 103 (.gslice 1 a.length 1) (.i (w64 (b+1))))) (.ptr 1 ((w64 (b+1):Int).toNat*1+0))) (qb8 qcF e)) (ac (hs (.run [1] (yz ZT 72 (.ptr 1 ((w64 (b+1):Int).toNat*1+0)) (vl encI s)) (kU a [.cells (o.flatMap (qc encI).c)]) .undef (kU a [.cells (j.flatMap (qc encI).c)]) true) (qbp (E:=(qc encI)) (l:=o) (y:=s) rfl (show _=some 1 by kernel_rfl) rfl p rfl rfl rfl rfl rfl k rfl)) az)))))))))) ?_
   obtain rfl:=si g7
   exact⟨rfl,_,rfl,((show Sub (ofG 41 [(5,.bool f.2)],(kU a [.cells (j.flatMap (qc encI).c)])) (ofG 41 [(5,.bool f.2)],(kU j [.cells (j.flatMap (qc encI).c)]))from(Sub.norm [] [some 0,some 1] (by rw[hB];rfl) rfl (.keep (.same nB) .nil) (.kb rfl (.cells (rc (.gsliceE rfl ((yV g).trans (yV k))) rn)) (.ks .nil)))).trans (Sub.refl _))⟩
  refine Goes.skip ?_
  obtain rfl:=si g7
  exact⟨rfl,_,rfl,(Sub.keep [5] rfl rfl)⟩
 rintro x s' ⟨rfl,v,rfl,hsub⟩
 refine Goes.sub hsub ?_
 refine sh fol [(3,.bool f.2)] ?_
 refine Goes.ret ?_
 simp only[ZI,ZP]at h
 obtain⟨rfl,rfl⟩:=h
 exact(gh2 [.bool f.2] (qbh.refl _ _))
def jB (N:Nat) (e:Int):Nat->(List (List Int))->Bool->Option ((List (List Int))×Bool)
 |0,_,_=>none
 |K+1,b,c=>
  (vg N e b).bind fun(a,d)=>
  ((if b.length=a.length then some ()else none:Option Unit)).bind fun f=>
  if d=true then
  jB N e K a true
  else
  some (a,c)
def jD (N:Nat):Nat->(List (List Int))->Int->Option (List (List Int))
 |0,_,_=>none
 |K+1,c,a=>
  if(w64 (a+1))<(c.length:Int)then
  (((jB N a N c false).bind fun(b,d)=>
  (if d=true then
  some (decide (a>0))
  else
  some false:Option Bool).bind fun e=>
  if e=true then
  some (b,w64 (a-1))
  else
  some (b,w64 (a+1)):Option ((List (List Int))×Int))).bind fun(f,g)=>
  jD N K f g
  else
  some c
def xC (N:Nat) (a:List (List Int)):Option (List (List Int)):=
 (jD N N a 0).bind fun b=>
 some b
theorem qef (N:Nat) (f:List (List Int)) {C:List (List Int)} (h:xC N f=some C):qf ZT (.fn 66) [.gslice 0 f.length 1] [.cells (f.flatMap (qc encI).c)] (.tuple []) [.cells (C.flatMap (qc encI).c)]:=by
 unfold xC at h
 refine Un Tryz.func66 rfl rfl (m:=23) rfl (rs:=[]) rfl (l:=[(0,.gslice 0 f.length 1)]) rfl ?_
 intro B hB
 refine Us ?_
 refine sg fol (kAa []) (.cells (f.flatMap (qc encI).c)::(kAB f)) ?_
 refine Goes.scope ?_
 refine sh fol (kAa [(2,.func (.func 101) [] [.ptr 1 0])]) ?_
 refine sq (Goes.label ?_)
 refine sh fol (kAa [(2,.func (.func 101) [] [.ptr 1 0]),(3,.i 0)]) ?_
 refine Goes.block ?_
 obtain⟨D,g5,h⟩:=bnd h
 refine Goes.imp (Q:=fun x s'=>(x= .exit 0/\ ∃v,v=D/\Sub s' (ofG 23 [],[.cells (v.flatMap (qc encI).c)]))) ?_ ?_
 ·refine Uf (fun M s=> ∃(r:List (List Int)) (b:Int),s=(ofG 23 (kAa [(2,.func (.func 101) [] [.ptr 1 0]),(3,.i b)]),(.cells (r.flatMap (qc encI).c)::(kAB r)))/\jD N M r b=some D) ?_ (m:=N) ⟨_,_,rfl,g5⟩
  rintro M s ⟨r,b,rfl,g5⟩
  cases M with
  |zero=>simp only[jD]at g5;cases g5
  |succ M=>
   rw[jD]at g5
   refine sq ?_
   refine sh fol (kAa [(2,.func (.func 101) [] [.ptr 1 0]),(3,.i b),(10,.bool (decide ((w64 (b+1))<(r.length:Int))))]) ?_
   refine ihD g5 (fun E g5=>?_) (fun E g5=>?_)
   ·refine Goes.skip ?_
    obtain⟨F,g9,g5⟩:=bnd g5
    refine Goes.imp (Q:=fun x s'=>(x= .normal/\ ∃q u,(q,u)=F/\Sub s' (ofG 23 (kAa [(2,.func (.func 101) [] [.ptr 1 0]),(3,.i u)]),(.cells (q.flatMap (qc encI).c)::(kAB q))))) ?_ ?_
    ·refine Goes.block ?_
     refine sh fol (kAa ((2,.func (.func 101) [] [.ptr 1 0])::(3,.i b)::kAK)) ?_
     refine sq (Goes.block ?_)
     obtain⟨t,g14,g9⟩:=bnd g9
     refine Goes.imp (Q:=fun x s'=>(x= .exit 2/\ ∃g n,(g,n)=t/\Sub s' (ofG 23 (kAa ((2,.func (.func 101) [] [.ptr 1 0])::(3,.i b)::(kAg n))),(.cells (g.flatMap (qc encI).c)::(kAB g))))) ?_ ?_
     ·refine Uf (fun M s=> ∃(e:List (List Int)) (j:Bool),s=(ofG 23 (kAa ((2,.func (.func 101) [] [.ptr 1 0])::(3,.i b)::(kAg j))),(.cells (e.flatMap (qc encI).c)::(kAB e)))/\jB N b M e j=some t) ?_ (m:=N) ⟨_,_,rfl,g14⟩
      rintro M s ⟨e,j,rfl,g14⟩
      cases M with
      |zero=>simp only[jB]at g14;cases g14
      |succ M=>
       rw[jB]at g14
       refine sq ?_
       obtain⟨⟨d,k⟩,o,g14⟩:=bnd g14
       try dsimp only at g14
       obtain⟨G,w,g14⟩:=bnd g14
       refine sq (gq fol [2] (kAa [(2,.func (.func 101) [] [.ptr 1 0]),(3,.i b),(4,.bool j),(13,.bool k)]) (.cells (d.flatMap (qc encI).c)::(kAB d)) (ac (hs (.callH 101 [.i b,.ptr 1 0] (.cells (e.flatMap (qc encI).c)::(kAB e)) [1,0] (.bool k) (.cells (d.flatMap (qc encI).c)::(kAB d))) (jc [some 1,some 0] [some 1,some 0] (qda N b e o) (.kb rfl (.cells (rc (.gslice rfl) rn)) (.ks .nil)) rfl rfl (.back rfl rfl (.same fa) rfl (.back rfl rfl (.cells (rc (.gslice rfl) rn)) rfl .nil)) (rc (.same nI) (rc (.ptr rfl) rn)) (.same nB) rfl)) az) ?_)
       refine Goes.sub (show Sub (ofG 23 (kAa [(2,.func (.func 101) [] [.ptr 1 0]),(3,.i b),(4,.bool j),(13,.bool k)]),(.cells (d.flatMap (qc encI).c)::(kAB d))) (ofG 23 (kAa [(2,.func (.func 101) [] [.ptr 1 0]),(3,.i b),(4,.bool j),(13,.bool k)]),(.cells (d.flatMap (qc encI).c)::(kAB d)))from(Sub.norm [] [some 0,some 1] (by rw[hB];rfl) rfl (.kp (.keep (.funcL (sn) (rc (.ptr rfl) rn)) (.keep (.same nI) (.keep (.same nB) (.keep (.same nB) .nil))))) (.ks (.kb rfl (.cells (rc (.gslice rfl) rn)) .nil)))) ?_
       refine ihB g14 (fun y g14=>?_) (fun y g14=>?_)
       ·refine Goes.skip ?_
        refine Goes.block ?_
        refine gh fol (kAa ((2,.func (.func 101) [] [.ptr 1 0])::(3,.i b)::kAb)) ?_
        exact⟨M,(ofG 23 (kAa ((2,.func (.func 101) [] [.ptr 1 0])::(3,.i b)::kAb)),(.cells (d.flatMap (qc encI).c)::(kAB d))),Nat.lt_succ_self _,(Sub.refl _),_,_,rfl,g14⟩
       refine Goes.exit ?_
       obtain rfl:=si g14
       exact⟨rfl,_,_,rfl,(Sub.keep [1,2,3,4] rfl rfl)⟩
     rintro x s' ⟨rfl,g,n,rfl,hsub⟩
     try dsimp only at g9
     refine Goes.sub hsub ?_
     refine sq ?_
     refine sq ?_
     obtain⟨z,a,g9⟩:=bnd g9
     refine Goes.cut (s':=(ofG 23 (kAa [(2,.func (.func 101) [] [.ptr 1 0]),(3,.i b),(18,.bool z)]),(.cells (g.flatMap (qc encI).c)::(kAB g)))) ?_ ?_
     ·rcases wyB a with⟨p,a⟩|⟨p,a⟩
      ·obtain rfl:=si a
       exact tr fol [1] (kAa [(2,.func (.func 101) [] [.ptr 1 0]),(3,.i b),(18,.bool (decide (b>0)))]) (ac (gw p) az)
      obtain rfl:=si a
      exact tr fol [1] (kAa [(2,.func (.func 101) [] [.ptr 1 0]),(3,.i b),(18,.bool false)]) (ac (gw p) az)
     refine ihB g9 (fun A g9=>?_) (fun A g9=>?_)
     ·refine sh fol (kAa [(2,.func (.func 101) [] [.ptr 1 0]),(3,.i (w64 (b-1)))]) ?_
      refine Goes.exit ?_
      obtain rfl:=si g9
      exact⟨rfl,_,_,rfl,(Sub.refl _)⟩
     refine Goes.skip ?_
     refine gh fol (kAa [(2,.func (.func 101) [] [.ptr 1 0]),(3,.i (w64 (b+1)))]) ?_
     obtain rfl:=si g9
     exact⟨rfl,_,_,rfl,(Sub.refl _)⟩
    rintro x s' ⟨rfl,q,u,rfl,hsub⟩
    try dsimp only at g5
    exact⟨M,(ofG 23 (kAa [(2,.func (.func 101) [] [.ptr 1 0]),(3,.i u)]),(.cells (q.flatMap (qc encI).c)::(kAB q))),Nat.lt_succ_self _,(hsub.trans (Sub.refl _)),_,_,rfl,g5⟩
   refine Goes.exit ?_
   obtain rfl:=si g5
   exact⟨rfl,_,rfl,(Sub.norm [] [some 0] (by rw[hB];rfl) rfl .nil (.ks .nil))⟩
 rintro x s' ⟨rfl,v,rfl,hsub⟩
 obtain rfl:=si h
 exact⟨_,hsub,(gh2 [] (qbh.refl _ _))⟩
def jT (N:Nat) (n:Int) (w:List Int):Nat->Int->(List (List Int))->Int->Option (Int×(List (List Int)))
 |0,_,_,_=>none
 |K+1,c,d,e=>
  if e<(w.length:Int)then
  (((idx w e).bind fun a=>
  (jk a).bind fun b=>
  if a>0 then
  (zH N n).bind fun f=>
  (ku f (w64 (b-1))).bind fun g=>
  (app 24 d [g]).bind fun h=>
  some (c,h)
  else
  (jb N d).bind fun i=>
  (qav N n).bind fun j=>
  (ji N j (w64 (b-1))).bind fun k=>
  (app 24 i [k]).bind fun l=>
  some (w64 (c-1),l):Option (Int×(List (List Int))))).bind fun(o,m)=>
  jT N n w K o m (w64 (e+1))
  else
  some (c,d)
def jS (N:Nat) (n:Int) (c:List (List Int)):Nat->Int->(List (List Int))->Int->Option (Int×(List (List Int)))
 |0,_,_,_=>none
 |K+1,a,b,d=>
  if d<(c.length:Int)then
  (((idx c d).bind fun e=>
  (vz N e).bind fun f=>
  if f=true then
  some (a,b)
  else
  (qav N n).bind fun g=>
  (slices_Equal_int N e g).bind fun h=>
  if h=true then
  some (w64 (a+1),b)
  else
  (app 24 b [e]).bind fun i=>
  some (a,i):Option (Int×(List (List Int))))).bind fun(j,k)=>
  jS N n c K j k (w64 (d+1))
  else
  some (a,b)
def qX (N:Nat) (n:Int) (w:List Int):Option xc:=
 if n=1 then
 some (⟨0,[]⟩:xc)
 else
 (jT N n w N 0 ([]:List (List Int)) 0).bind fun(e,d)=>
 (xC N d).bind fun a=>
 ((if d.length=a.length then some ()else none:Option Unit)).bind fun f=>
 (jS N n a N e ([]:List (List Int)) 0).bind fun(b,c)=>
 some (⟨b,c⟩:xc)
theorem qaN (N:Nat) (n:Int) (w:List Int) {res:xc} (h:qX N n w=some res):qf ZT (.fn 30) [.i n,vl encI w] [] (.agg [.i res.Half,vl (qc encI) res.Factors]) []:=by
 unfold qX at h
 refine Ub Tryz.func30 rfl rfl (m:=74) rfl (rs:=[.cell 4 38]) rfl (l:=(kG n w [])) rfl ?_
 refine sg fol (kG n w [(4,.ptr 0 0)]) [bZ] ?_
 refine sg fol (kG n w [(4,.ptr 0 0),(5,.ptr 1 0)]) [bZ,bZ] ?_
 refine sq ?_
 refine sh fol (kG n w [(4,.ptr 0 0),(5,.ptr 1 0),(13,.bool (decide (n=1)))]) ?_
 refine ihD h (fun c1 h=>?_) (fun c1 h=>?_)
 ·refine sh fol [(4,.ptr 0 0)] ?_
  refine Goes.ret ?_
  obtain rfl:=si h
  exact(gw2 [.agg [.i 0,.nilslice]] (FzW.agg (qo.cons (Ua tI) (qo.cons (FzW.nilv (E:=(qc encI))) qo.nil))))
 refine Goes.skip ?_
 refine sh fol (kG n w ((4,.ptr 0 0)::(5,.ptr 1 0)::(kAJ []))) ?_
 refine sq ?_
 refine sh fol (kH n (kAJ [(15,vl encI w),(16,.i (w.length:Int)),(17,.i 0)])) ?_
 refine Goes.block ?_
 obtain⟨r7,g7,h⟩:=bnd h
 refine Goes.imp (Q:=fun x s'=>(x= .exit 0/\ ∃F G,(F,G)=r7/\Sub s' (ofG 74 (kH n (kAH G [])),(kS F [.cells (G.flatMap (qc encI).c)])))) ?_ ?_
 ·refine Goes.sub (s':=(ofG 74 (kH n [(6,.gslice 2 ([]:List (List Int)).length 1),(15,vl encI w),(16,.i (w.length:Int)),(17,.i 0)]),[bZ,bZ,.cells (([]:List (List Int)).flatMap (qc encI).c)])) (Sub.norm [] [some 0,some 1,none] rfl rfl (.keep (.same nI) (.kp (.kp (.keep .nil (.keep (.same (qj encI _)) (.keep (.same nI) (.keep (.same nI) .nil))))))) (.kb rfl (.same sn) (.kb rfl (.same sn) (.fresh .nil)))) ?_
  refine Uf (fun M s=> ∃(p:Int) (j:List (List Int)) (t:Int),s=(ofG 74 (kH n (kAH j (kAC w (w.length:Int) t []))),(kS p [.cells (j.flatMap (qc encI).c)]))/\jT N n w M p j t=some r7) ?_ (m:=N) ⟨_,_,_,rfl,g7⟩
  rintro M s ⟨p,j,t,rfl,g7⟩
  cases M with
  |zero=>simp only[jT]at g7;cases g7
  |succ M=>
   rw[jT]at g7
   refine sh fol (kH n (kAH j (kAC w (w.length:Int) t [(18,.bool (decide (t<(w.length:Int))))]))) ?_
   refine sq ?_
   refine ihD g7 (fun c8 g7=>?_) (fun c8 g7=>?_)
   ·refine Goes.skip ?_
    refine sq ?_
    obtain⟨r11,g11,g7⟩:=bnd g7
    refine Goes.imp (Q:=fun x s'=>(x= .normal/\ ∃n9 u,(n9,u)=r11/\Sub s' (ofG 74 (kH n (kAH u (kAC w (w.length:Int) t []))),(kS n9 [.cells (u.flatMap (qc encI).c)])))) ?_ ?_
    ·refine Goes.block ?_
     obtain⟨H,B,g11⟩:=bnd g11
     refine sq (gr fol [0,1] (kH n (kAH j ((8,.i H)::(kAC w (w.length:Int) t [])))) (ac (iv ja encI B) (ac (lv 0 ce3 encI B rfl) az)) ?_)
     obtain⟨v,O,g11⟩:=bnd g11
     refine sq (gr fol [1] (kH n (kAH j (kAc H (w64 (v-1)) (kAC w (w.length:Int) t [])))) (ac (cv (qA H O)) az) ?_)
     refine sq ?_
     refine sh fol (kH n (kAH j ((9,.i (w64 (v-1)))::(kAC w (w.length:Int) t [(25,.bool (decide (H>0)))])))) ?_
     refine ihD g11 (fun c14 g11=>?_) (fun c14 g11=>?_)
     ·obtain⟨g,P,g11⟩:=bnd g11
      obtain⟨y,T,g11⟩:=bnd g11
      obtain⟨q,U,g11⟩:=bnd g11
      refine sq (gq fol [2,4,6] (kH n ((6,.gslice 5 q.length 1)::(kAC w (w.length:Int) t []))) (kS p (.dead:: .frozen (g.flatMap encI.c)::(kAd y [.cells (q.flatMap (qc encI).c)]))) (ac (hs (.callH 60 [.i n] (kS p [.cells (j.flatMap (qc encI).c)]) [] (.slice 3 0 g.length g.length 1) (kS p (.cells (j.flatMap (qc encI).c)::(kA g [])))) (jc [] [none,none,none,some 0] (vV N n P) .nil rfl rfl (.old rfl rfl (.old rfl rfl (.old rfl rfl (.new rfl rfl (.same fa) rfl .nil)))) (rc (.same nI) rn) (.slice rfl) rfl)) (ac (hs (.callF 61 [.slice 3 0 g.length g.length 1,.i (w64 (v-1))] (kS p (.cells (j.flatMap (qc encI).c)::(kA g []))) [3] (kAU g (w64 (v-1))) (vl encI y)) (qmr (FzL.cons (Fz.sl (E:=encI) rfl rfl (nl rfl)) (FzL.cons (Uv tI) FzL.nil)) (jN g (w64 (v-1)) T) (zq encI _ (nl rfl)))) (ac (hs (.run [2,4] (z8 ZT [103,103] (.gslice 2 j.length 1) (.slice 4 0 1 1 1)) (kS p (.cells (j.flatMap (qc encI).c):: .frozen (g.flatMap encI.c)::(kAd y []))) (.gslice 5 q.length 1) (kS p (.dead:: .frozen (g.flatMap encI.c)::(kAd y [.cells (q.flatMap (qc encI).c)]))) true) (qac qcF (E:=(qc encI)) rfl (qey (E:=(qc encI)) (ys:=[y]) rfl rfl rfl rfl) (qfQ (E:=(qc encI)) (l:=j) rfl rfl rfl U rfl))) az))) ?_)
      refine Goes.sub (show Sub (ofG 74 (kH n ((6,.gslice 5 q.length 1)::(kAC w (w.length:Int) t []))),(kS p (.dead:: .frozen (g.flatMap encI.c)::(kAd y [.cells (q.flatMap (qc encI).c)])))) (ofG 74 (kH n (kAH q (kAC w (w.length:Int) t []))),(kS p [.cells (q.flatMap (qc encI).c)]))from(Sub.norm [] [some 0,some 1,some 5] rfl rfl (.keep (.same nI) (.kp (.kp (.keep (.gslice rfl) (.keep (.same (qj encI _)) (.keep (.same nI) (.keep (.same nI) .nil))))))) (.kb rfl (.same sn) (.kb rfl (.same sn) (.ks .nil))))) ?_
      refine Goes.exit ?_
      obtain rfl:=si g11
      exact⟨rfl,_,_,rfl,(Sub.refl _)⟩
     refine Goes.skip ?_
     refine sg fol (kH n (kAH j ((9,.i (w64 (v-1)))::(kAC w (w.length:Int) t [])))) (kS (w64 (p-1)) [.cells (j.flatMap (qc encI).c)]) ?_
     obtain⟨C,V,g11⟩:=bnd g11
     obtain⟨r21,W,g11⟩:=bnd g11
     obtain⟨I,X,g11⟩:=bnd g11
     obtain⟨J,Y,g11⟩:=bnd g11
     refine gq fol [1,3,5,7] (kH n ((6,.gslice 5 J.length 1)::(kAC w (w.length:Int) t []))) (kS (w64 (p-1)) (.cells (j.flatMap (qc encI).c):: .dead::(kAd I [.cells (J.flatMap (qc encI).c)]))) (ac (hs (.callH 62 [.gslice 2 j.length 1,.func (.func 63) [] []] (kS (w64 (p-1)) [.cells (j.flatMap (qc encI).c)]) [2] (.gslice 3 C.length 1) (kS (w64 (p-1)) [.cells (j.flatMap (qc encI).c),.cells (C.flatMap (qc encI).c)])) (jc [some 2] [none,none,some 0,some 1] (qbj N j V) (.ks .nil) rfl rfl (.old rfl rfl (.old rfl rfl (.back rfl rfl (.same fa) rfl (.new rfl rfl (.same fa) rfl .nil)))) (rc (.gslice rfl) (rc (.same (qy.func sn sn)) rn)) (.gslice rfl) rfl)) (ac (cv (qdh N n W)) (ac (cv (qaj N r21 (w64 (v-1)) X)) (ac (hs (.run [3,4] (z8 ZT [103,103] (.gslice 3 C.length 1) (.slice 4 0 1 1 1)) (kS (w64 (p-1)) (.cells (j.flatMap (qc encI).c):: .cells (C.flatMap (qc encI).c)::(kAd I []))) (.gslice 5 J.length 1) (kS (w64 (p-1)) (.cells (j.flatMap (qc encI).c):: .dead::(kAd I [.cells (J.flatMap (qc encI).c)]))) true) (qac qcF (E:=(qc encI)) rfl (qey (E:=(qc encI)) (ys:=[I]) rfl rfl rfl rfl) (qfQ (E:=(qc encI)) (l:=C) rfl rfl rfl Y rfl))) az)))) ?_
     obtain rfl:=si g11
     exact⟨rfl,_,_,rfl,(Sub.norm [] [some 0,some 1,some 5] rfl rfl (.keep (.same nI) (.kp (.kp (.keep (.gslice rfl) (.keep (.same (qj encI _)) (.keep (.same nI) (.keep (.same nI) .nil))))))) (.kb rfl (.same sn) (.kb rfl (.same sn) (.ks .nil))))⟩
    rintro x s' ⟨rfl,n9,u,rfl,hsub⟩
    try dsimp only at g7
    refine Goes.sub hsub ?_
    refine gh fol (kH n (kAH u (kAC w (w.length:Int) (w64 (t+1)) []))) ?_
    exact⟨M,(ofG 74 (kH n (kAH u (kAC w (w.length:Int) (w64 (t+1)) []))),(kS n9 [.cells (u.flatMap (qc encI).c)])),Nat.lt_succ_self _,(Sub.refl _),_,_,_,rfl,g7⟩
   refine Goes.exit ?_
   obtain rfl:=si g7
   exact⟨rfl,_,_,rfl,(Sub.keep [0,4,5,6] rfl rfl)⟩
 rintro x s' ⟨rfl,F,G,rfl,hsub⟩
 try dsimp only at h
 refine Goes.sub hsub ?_
 obtain⟨a,Z,h⟩:=bnd h
 obtain⟨u26,a0,h⟩:=bnd h
 refine sq (gq fol [1] (kH n (kAH G [])) (kS F [.cells (a.flatMap (qc encI).c)]) (ac (hs (.callH 66 [.gslice 2 G.length 1] (kS F [.cells (G.flatMap (qc encI).c)]) [2] (.tuple []) (kS F [.cells (a.flatMap (qc encI).c)])) (jc [some 2] [none,none,some 0] (qef N G Z) (.ks .nil) rfl rfl (.old rfl rfl (.old rfl rfl (.back rfl rfl (.same fa) rfl .nil))) (rc (.gslice rfl) rn) (.same (qy.tuple sn)) rfl)) az) ?_)
 refine Goes.sub (show Sub (ofG 74 (kH n (kAH G [])),(kS F [.cells (a.flatMap (qc encI).c)])) (ofG 74 (kH n (kAH a [])),(kS F [.cells (a.flatMap (qc encI).c)]))from(Sub.norm [] [some 0,some 1,some 2] rfl rfl (.keep (.same nI) (.kp (.kp (.keep (.gsliceE rfl (qi5 a0)) .nil)))) (.kb rfl (.same sn) (.kb rfl (.same sn) (.ks .nil))))) ?_
 refine sq ?_
 refine sh fol (kH n [(48,.gslice 2 a.length 1),(49,.i (a.length:Int)),(50,.i 0)]) ?_
 refine Goes.block ?_
 obtain⟨a5,f,h⟩:=bnd h
 refine Goes.imp (Q:=fun x s'=>(x= .exit 2/\ ∃z r,(z,r)=a5/\Sub s' (ofG 74 [(4,.ptr 0 0),(5,.ptr 1 0)],(bZ::(kAF z r [.cells (r.flatMap (qc encI).c)]))))) ?_ ?_
 ·refine Goes.sub (s':=(ofG 74 (kH n [(48,.gslice 3 a.length 1),(49,.i (a.length:Int)),(50,.i 0)]),[bZ,.cells [.i F,.gslice 2 ([]:List (List Int)).length 1],.cells (([]:List (List Int)).flatMap (qc encI).c),.cells (a.flatMap (qc encI).c)])) (Sub.norm [] [some 0,some 1,none,some 2] rfl rfl (.keep (.same nI) (.kp (.kp (.keep (.gslice rfl) (.keep (.same nI) (.keep (.same nI) .nil)))))) (.kb rfl (.same sn) (.kb rfl (.cells (rc (.same nI) (rc (.nil) rn))) (.fresh (.ks .nil))))) ?_
  refine Uf (fun M s=> ∃(o:Int) (e:List (List Int)) (d:Int),s=(ofG 74 (kH n (kX a (a.length:Int) d [])),(bZ::(kAF o e [.cells (e.flatMap (qc encI).c),.cells (a.flatMap (qc encI).c)])))/\jS N n a M o e d=some a5) ?_ (m:=N) ⟨_,_,_,rfl,f⟩
  rintro M s ⟨o,e,d,rfl,f⟩
  cases M with
  |zero=>simp only[jS]at f;cases f
  |succ M=>
   rw[jS]at f
   refine sh fol (kH n (kX a (a.length:Int) d [(51,.bool (decide (d<(a.length:Int))))])) ?_
   refine sq ?_
   refine ihD f (fun c33 f=>?_) (fun c33 f=>?_)
   ·refine Goes.skip ?_
    refine sq ?_
    obtain⟨r36,b,f⟩:=bnd f
    refine Goes.imp (Q:=fun x s'=>(x= .normal/\ ∃K A,(K,A)=r36/\Sub s' (ofG 74 (kH n (kX a (a.length:Int) d [])),(bZ::(kAF K A [.cells (A.flatMap (qc encI).c),.cells (a.flatMap (qc encI).c)]))))) ?_ ?_
    ·refine Goes.block ?_
     obtain⟨k,D,b⟩:=bnd b
     refine sq (gr fol [0,1] (kH n ((11,vl encI k)::(kX a (a.length:Int) d []))) (ac (hs (.done (.opt (qm ZT 103 (.gslice 3 a.length 1) (.i d))) (.ptr 3 ((d:Int).toNat*1+0))) (qb8 qcF D)) (ac (hs (.run [3] (jK ZT 72 (.ptr 3 ((d:Int).toNat*1+0))) (bZ::(kAF o e [.cells (e.flatMap (qc encI).c),.cells (a.flatMap (qc encI).c)])) (vl encI k) (bZ::(kAF o e [.cells (e.flatMap (qc encI).c),.cells (a.flatMap (qc encI).c)])) false) (qcE qkr (E:=(qc encI)) (l:=a) rfl rfl D (nl rfl) rfl)) az)) ?_)
     refine Goes.block ?_
     obtain⟨r38,a1,b⟩:=bnd b
     refine sq (gr fol [1] (kH n ((11,vl encI k)::(kX a (a.length:Int) d [(60,.bool r38)]))) (ac (cv (qce N k a1)) az) ?_)
     refine ihB b (fun c39 b=>?_) (fun c39 b=>?_)
     ·refine Goes.skip ?_
      obtain rfl:=si b
      exact⟨rfl,_,_,rfl,(Sub.keep [0,4,5,48,49,50] rfl rfl)⟩
     obtain⟨r40,a2,b⟩:=bnd b
     obtain⟨r41,a3,b⟩:=bnd b
     refine sq (gr fol [2,3] (kH n ((11,vl encI k)::(kX a (a.length:Int) d [(63,.bool r41)]))) (ac (cv (qdh N n a2)) (ac (cv (qdc N k r40 a3)) az)) ?_)
     refine ihB b (fun c42 b=>?_) (fun c42 b=>?_)
     ·refine Goes.rg fol (kH n (kX a (a.length:Int) d [])) (bZ::(kAF (w64 (o+1)) e [.cells (e.flatMap (qc encI).c),.cells (a.flatMap (qc encI).c)])) ?_
      obtain rfl:=si b
      exact⟨rfl,_,_,rfl,(Sub.refl _)⟩
     obtain⟨L,a4,b⟩:=bnd b
     refine gq fol [4] (kH n (kX a (a.length:Int) d [])) (bZ:: .cells [.i o,.gslice 5 L.length 1]:: .dead:: .cells (a.flatMap (qc encI).c)::(kAd k [.cells (L.flatMap (qc encI).c)])) (ac (hs (.run [2,4] (z8 ZT [36,36] (.gslice 2 e.length 1) (.slice 4 0 1 1 1)) (bZ::(kAF o e (.cells (e.flatMap (qc encI).c):: .cells (a.flatMap (qc encI).c)::(kAd k [])))) (.gslice 5 L.length 1) (bZ::(kAF o e (.dead:: .cells (a.flatMap (qc encI).c)::(kAd k [.cells (L.flatMap (qc encI).c)])))) true) (qac qhZ (E:=(qc encI)) rfl (qey (E:=(qc encI)) (ys:=[k]) rfl rfl rfl rfl) (qfQ (E:=(qc encI)) (l:=e) rfl rfl rfl a4 rfl))) az) ?_
     obtain rfl:=si b
     exact⟨rfl,_,_,rfl,(Sub.norm [] [some 0,some 1,some 5,some 3] rfl rfl (.keep (.same nI) (.kp (.kp (.keep (.gslice rfl) (.keep (.same nI) (.keep (.same nI) .nil)))))) (.kb rfl (.same sn) (.kb rfl (.cells (rc (.same nI) (rc (.gslice rfl) rn))) (.ks (.ks .nil)))))⟩
    rintro x s' ⟨rfl,K,A,rfl,hsub⟩
    try dsimp only at f
    refine Goes.sub hsub ?_
    refine gh fol (kH n (kX a (a.length:Int) (w64 (d+1)) [])) ?_
    exact⟨M,(ofG 74 (kH n (kX a (a.length:Int) (w64 (d+1)) [])),(bZ::(kAF K A [.cells (A.flatMap (qc encI).c),.cells (a.flatMap (qc encI).c)]))),Nat.lt_succ_self _,(Sub.refl _),_,_,_,rfl,f⟩
   refine Goes.exit ?_
   obtain rfl:=si f
   exact⟨rfl,_,_,rfl,(Sub.norm [] [some 0,some 1,some 2] rfl rfl (.drop (.kp (.kp .nil))) (.kb rfl (.same sn) (.kb rfl (.cells (rc (.same nI) (rc (.gslice rfl) rn))) (.ks .nil))))⟩
 rintro x s' ⟨rfl,z,r,rfl,hsub⟩
 try dsimp only at h
 refine Goes.sub hsub ?_
 refine sg fol [(4,.ptr 0 0)] (kAF z r (kAF z r [.cells (r.flatMap (qc encI).c)])) ?_
 refine Goes.ret ?_
 obtain rfl:=si h
 exact(gw2 [.agg [.i z,.gslice 2 r.length 1]] (FzW.agg (qo.cons (Ua tI) (qo.cons (Ur (Fz.gs (E:=(qc encI)) rfl rfl (nl rfl))) qo.nil))))
def xq (N:Nat) (n:Int) (w:List Int):Option (xc×Int):=
 (zt N n w).bind fun a=>
 if(!decide (a=0))=true then
 some ((⟨0,[]⟩:xc),a)
 else
 (qX N n w).bind fun b=>
 some (b,0)
theorem qb7 (N:Nat) (n:Int) (w:List Int) {res:xc×Int} (h:xq N n w=some res):qf ZT (.fn 10) [.i n,vl encI w] [] (.tuple [.agg [.i res.1.Half,vl (qc encI) res.1.Factors],.i res.2]) []:=by
 unfold xq at h
 refine Ub Tryz.func10 rfl rfl (m:=17) rfl (rs:=[.cell 4 38,.tmp 5]) rfl (l:=(kG n w [])) rfl ?_
 refine sg fol (kG n w [(4,.ptr 0 0)]) [bZ] ?_
 refine sq ?_
 obtain⟨a,b,h⟩:=bnd h
 refine sq (gr fol [2] (kG n w [(4,.ptr 0 0),(6,.i a)]) (ac (cv (jG N n w b)) az) ?_)
 refine sh fol (kG n w [(4,.ptr 0 0),(6,.i a),(11,.bool (!decide (a=0)))]) ?_
 refine ihB h (fun e h=>?_) (fun e h=>?_)
 ·refine sh fol ((4,.ptr 0 0)::(kAl a)) ?_
  refine Goes.ret ?_
  obtain rfl:=si h
  exact(gw2 [.agg [.i 0,.nilslice],.i a] (FzW.tuple (qo.cons (FzW.agg (qo.cons (Ua tI) (qo.cons (FzW.nilv (E:=(qc encI))) qo.nil))) (qo.cons (Ua tI) qo.nil))))
 refine Goes.skip ?_
 obtain⟨d,c,h⟩:=bnd h
 refine sq (gq fol [2] [(4,.ptr 0 0),(5,.i 0)] [.cells [.i d.Half,vl (qc encI) d.Factors]] (ac (cv (qaN N n w c)) az) ?_)
 refine Goes.ret ?_
 obtain rfl:=si h
 exact(gw2 [.agg [.i d.Half,vl (qc encI) d.Factors],.i 0] (FzW.tuple (qo.cons (FzW.agg (qo.cons (Ua tI) (qo.cons (Ua (zq (qc encI) _ (nl rfl))) qo.nil))) (qo.cons (Ua tI) qo.nil))))
def zD (p:List Int):Nat->(List (Int×Bool))->Int->Option (Unit⊕Int)
 |0,_,_=>none
 |K+1,e,b=>
  if b<(p.length:Int)then
  (idx p b).bind fun a=>
  (if a<0 then
  some true
  else
  if a>=(p.length:Int)then
  some true
  else
  some ((qbC e a).getD false):Option Bool).bind fun c=>
  if c=true then
  some (.inr 15)
  else
  (some (qdE e a true)).bind fun d=>
  zD p K d (w64 (b+1))
  else
  some (.inl ())
def ve (N:Nat) (p:List Int):Option Int:=
 if(p.length:Int)>256 then
 some 5
 else
 (zD p N ([]:List (Int×Bool)) 0).bind (fun
 |(.inl ())=>
 some 0
 |(.inr a)=>
 some a)
theorem qaP (N:Nat) (p:List Int) {res:Int} (h:ve N p=some res):qf ZT (.fn 69) [vl encI p] [] (.i res) []:=by
 unfold ve at h
 refine Ub Tryz.func69 rfl rfl (m:=32) rfl (rs:=[.tmp 2]) rfl (l:=(kQ p [])) rfl ?_
 refine sh fol (kQ p []) ?_
 refine sq ?_
 refine sh fol (kQ p [(8,.bool (decide ((p.length:Int)>256)))]) ?_
 refine ihD h (fun u h=>?_) (fun u h=>?_)
 ·refine sh fol [(2,.i 5)] ?_
  refine Goes.ret ?_
  obtain rfl:=si h
  exact(gw2 [.i 5] (Ua tI))
 refine Goes.skip ?_
 refine sg fol (kQ p [(3,.map 0)]) [mpB (AV.int .i64) fO ([]:List (Int×Bool))] ?_
 refine sq ?_
 refine sh fol (kQ p [(3,.map 0),(10,vl encI p),(11,.i (p.length:Int)),(12,.i 0)]) ?_
 refine Goes.block ?_
 obtain⟨n,g4,h⟩:=bnd h
 refine Goes.imp (Q:=fun x s'=>(x= .exit 0/\(.inl ())=n/\Sub s' (ofG 32 [],[]))\/(x= .ret/\ ∃t,(.inr t)=n/\jw ZT [.tmp 2] (.i t) .ret s')) ?_ ?_
 ·refine Uf (fun M s=> ∃(d:List (Int×Bool)) (b:Int),s=(ofG 32 (kQ p ((3,.map 0)::(kO p (p.length:Int) b []))),[mpB (AV.int .i64) fO d])/\zD p M d b=some n) ?_ (m:=N) ⟨_,_,rfl,g4⟩
  rintro M s ⟨d,b,rfl,g4⟩
  cases M with
  |zero=>simp only[zD]at g4;cases g4
  |succ M=>
   rw[zD]at g4
   refine sh fol (kQ p ((3,.map 0)::(kO p (p.length:Int) b [(13,.bool (decide (b<(p.length:Int))))]))) ?_
   refine sq ?_
   refine ihD g4 (fun v g4=>?_) (fun v g4=>?_)
   ·refine Goes.skip ?_
    refine sq (Goes.block ?_)
    obtain⟨c,e,g4⟩:=bnd g4
    refine sq (gr fol [0,1] (kQ p ((3,.map 0)::(5,.i c)::(kO p (p.length:Int) b []))) (ac (iv ja encI e) (ac (lv 0 ce3 encI e rfl) az)) ?_)
    refine sq ?_
    refine sq ?_
    obtain⟨o,a,g4⟩:=bnd g4
    refine Goes.cut (s':=(ofG 32 (kQ p ((3,.map 0)::(5,.i c)::(kO p (p.length:Int) b [(28,.bool o)]))),[mpB (AV.int .i64) fO d])) ?_ ?_
    ·rcases wyD a with⟨k,a⟩|⟨k,a⟩
     ·obtain rfl:=si a
      exact tr fol [2] (kQ p ((3,.map 0)::(5,.i c)::(kO p (p.length:Int) b [(28,.bool true)]))) (ac (gw k) az)
     rcases wyD a with⟨q,a⟩|⟨q,a⟩
     ·obtain rfl:=si a
      exact tr fol [2,8] (kQ p ((3,.map 0)::(5,.i c)::(kO p (p.length:Int) b [(28,.bool true)]))) (ac (gw k) (ac (gw q) az))
     obtain rfl:=si a
     exact tr fol [2,8,11] (kQ p ((3,.map 0)::(5,.i c)::(kO p (p.length:Int) b [(28,.bool ((qbC d c).getD false))]))) (ac (gw k) (ac (gw q) (ac (hs (.run [0] (vG ZT 152 (.map 0) (.i c) false) [mpB (AV.int .i64) fO d] (.bool ((qbC d c).getD false)) [mpB (AV.int .i64) fO d] false) (qlv (z:=false) (f:=fO) qld keyI rfl c)) az)))
    refine ihB g4 (fun r g4=>?_) (fun r g4=>?_)
    ·refine sh fol [(2,.i 15)] ?_
     refine Goes.ret ?_
     obtain rfl:=si g4
     exact Or.inr (⟨rfl,_,rfl,(gw2 [.i 15] (Ua tI))⟩)
    refine Goes.skip ?_
    obtain⟨g,j,g4⟩:=bnd g4
    refine gq fol [2] (kQ p ((3,.map 0)::(kO p (p.length:Int) b []))) [mpB (AV.int .i64) fO g] (ac (hs (.run [0] (xO ZT 152 (.map 0) (.i c) (.bool true)) [mpB (AV.int .i64) fO d] .undef [mpB (AV.int .i64) fO g] true) (upm qld keyI fO rfl c true j rfl)) az) ?_
    refine gh fol (kQ p ((3,.map 0)::(kO p (p.length:Int) (w64 (b+1)) []))) ?_
    exact⟨M,(ofG 32 (kQ p ((3,.map 0)::(kO p (p.length:Int) (w64 (b+1)) []))),[mpB (AV.int .i64) fO g]),Nat.lt_succ_self _,(Sub.refl _),_,_,rfl,g4⟩
   refine Goes.exit ?_
   obtain rfl:=si g4
   exact Or.inl (⟨rfl,rfl,(Sub.norm [] [] rfl rfl .nil .nil)⟩)
 rintro x s' (⟨rfl,rfl,hsub⟩|⟨rfl,w,rfl,hret⟩)
 ·try dsimp only at h
  refine Goes.sub hsub ?_
  refine sh fol [(2,.i 0)] ?_
  refine Goes.ret ?_
  obtain rfl:=si h
  exact(gw2 [.i 0] (Ua tI))
 try dsimp only at h
 obtain rfl:=si h
 exact hret
def xG (a:List Int) (b:Int):Option Unit:=
 some ()
theorem qdF (a:List Int) (b:Int) (h:xG a b=some ()):qf ZT (.fn 104) (kAU a b) [] (.func (.func 129) [] [.ptr 0 0,.ptr 1 0]) (kF b a []):=by
 unfold xG at h
 refine Un Tryz.func104 rfl rfl (m:=6) rfl (rs:=[.tmp 4]) rfl (l:=(kQ a [(1,.i b)])) rfl ?_
 intro B hB
 refine sg fol [(2,.ptr 0 0),(3,.ptr 1 0)] (kAd a [.cells [.i b]]) ?_
 refine sh fol [(4,.func (.func 129) [] [.ptr 1 0,.ptr 0 0])] ?_
 refine Goes.ret ?_
 exact(gh2 [.func (.func 129) [] [.ptr 1 0,.ptr 0 0]] (Sub.norm [] [some 1,some 0] (by rw[hB];rfl) rfl (.keep (.funcL (sn) (rc (.ptr rfl) (rc (.ptr rfl) rn))) .nil) (.kb rfl (.same sn) (.kb rfl (.same sn) .nil))))
def vZ (b:List Bool) (c:Option (List Int)) (a:Int):Option ((List Bool)×(List Int)):=
 (idx b a).bind fun h=>
 (put b a true).bind fun d=>
 ((match c with
 |none=>
 some ([a]:List Int)
 |some e=>
 (app 8 e [a]).bind fun f=>
 some f):Option (List Int)).bind fun g=>
 some (d,g)
theorem qc8 (d:List Bool) (b:Option (List Int)) (a:Int) {p:List Bool} {q:List Int} (h:vZ d b a=some (p,q)):qf ZT (.rd 0) [.i a] (.loop .ready none (ofG 37 [(4,.ptr 1 0),(6,.ptr 3 0)]) qp.xp qp.x1 qp.x2::(kB d (kJ d (.cells [hsl 4 1 b]::(kR b))))) (.bool true) (.loop .ready none (ofG 37 [(4,.ptr 1 0),(6,.ptr 3 0)]) qp.xp qp.x1 qp.x2::(kB p (kJ p (.cells [.oslice 5 q.length 1]:: .dead::(kA q []))))):=by
 unfold vZ at h
 refine Goes.round (m:=37) (l0:=[(4,.ptr 1 0),(6,.ptr 3 0)]) (l:=[(4,.ptr 1 0),(6,.ptr 3 0),(23,.i a)]) rfl rfl rfl ?_
 intro B hB
 refine Us ?_
 refine gh fol ((4,.ptr 1 0)::(kAX a)) ?_
 refine⟨_,Sub.refl _,?_⟩
 refine⟨_,_,_,_,_,rfl,?_⟩
 refine Us ?_
 refine Goes.block ?_
 obtain⟨s,g,h⟩:=bnd h
 obtain⟨f,j,h⟩:=bnd h
 refine sq (gq fol [2,3] (kAX a) (.loop .busy none (ofG 37 [(4,.ptr 1 0),(6,.ptr 3 0)]) qp.xp qp.x1 qp.x2::(kB d (kJ f (.cells [hsl 4 1 b]::(kR b))))) (ac (hs (.done (.opt (qm ZT 153 (.slice 2 0 d.length d.length 1) (.i a))) (.ptr 2 ((a:Int).toNat*1+0))) (qag qkQ g)) (ac (hs (.run [2] (yz ZT 4 (.ptr 2 ((a:Int).toNat*1+0)) (.bool true)) (.loop .busy none (ofG 37 [(4,.ptr 1 0),(6,.ptr 3 0)]) qp.xp qp.x1 qp.x2::(kB d (kJ d (.cells [hsl 4 1 b]::(kR b))))) .undef (.loop .busy none (ofG 37 [(4,.ptr 1 0),(6,.ptr 3 0)]) qp.xp qp.x1 qp.x2::(kB d (kJ f (.cells [hsl 4 1 b]::(kR b))))) true) (qbp (E:=qiB) (l:=d) (y:=true) rfl (show _=some 1 by kernel_rfl) rfl g rfl rfl rfl rfl rfl j rfl)) az)) ?_)
 refine Goes.sub (show Sub (ofG 37 (kAX a),(.loop .busy none (ofG 37 [(4,.ptr 1 0),(6,.ptr 3 0)]) qp.xp qp.x1 qp.x2::(kB d (kJ f (.cells [hsl 4 1 b]::(kR b)))))) (ofG 37 (kAX a),(.loop .busy none (ofG 37 [(4,.ptr 1 0),(6,.ptr 3 0)]) qp.xp qp.x1 qp.x2::(kB f (kJ f (.cells [hsl 4 1 b]::(kR b))))))from(Sub.norm [] [some 0,some 1,some 2,some 3,some 4] (by rw[hB];rfl) rfl (.kp (.keep (.same nI) .nil)) (.kb rfl (.loop rfl (.kp (.kp .nil))) (.kb rfl (.cells (rc (.sliceE rfl (yV j)) rn)) (.ks (.kb rfl (.cells (rc (.hs rfl) rn)) (.ks .nil))))))) ?_
 obtain⟨r,e,h⟩:=bnd h
 refine Goes.cutS (s':=(ofG 37 [],(.loop .busy none (ofG 37 [(4,.ptr 1 0),(6,.ptr 3 0)]) qp.xp qp.x1 qp.x2::(kB f (kJ f (.cells [.oslice 5 r.length 1]:: .dead::(kA r []))))))) ?_ ?_
 ·rcases b with _|k
  ·try dsimp only at e
   obtain rfl:=si e
   exact qG.sub (qG.rg fol [] (.loop .busy none (ofG 37 [(4,.ptr 1 0),(6,.ptr 3 0)]) qp.xp qp.x1 qp.x2::(kB f (kJ f [.cells [.oslice 6 1 1],.cells ((hof (none:Option (List Int))).flatMap encI.c),.cells [.i a],.cells [.i a]])))) (Sub.norm [] [some 0,some 1,some 2,some 3,some 4,some 6] (by rw[hB];rfl) rfl .nil (.kb rfl (.loop rfl (.kp (.kp .nil))) (.kb rfl (.cells (rc (.slice rfl) rn)) (.ks (.kb rfl (.cells (rc ((zV.osliceE rfl rfl)) rn)) (.lost (.ks .nil)))))))
  try dsimp only at e
  obtain⟨o,n,e⟩:=bnd e
  obtain rfl:=si e
  exact qG.sub (qG.rq fol [3] [] (.loop .busy none (ofG 37 [(4,.ptr 1 0),(6,.ptr 3 0)]) qp.xp qp.x1 qp.x2::(kB f (kJ f (.cells [.oslice 6 o.length 1]:: .dead:: .cells [.i a]::(kA o []))))) (ac (hs (.run [4,5] (z8 ZT [22,22] (.oslice 4 k.length 1) (.slice 5 0 1 1 1)) (.loop .busy none (ofG 37 [(4,.ptr 1 0),(6,.ptr 3 0)]) qp.xp qp.x1 qp.x2::(kB f (kJ f (kAG k (kA k [.cells [.i a]]))))) (.oslice 6 o.length 1) (.loop .busy none (ofG 37 [(4,.ptr 1 0),(6,.ptr 3 0)]) qp.xp qp.x1 qp.x2::(kB f (kJ f (kAG k (.dead:: .cells [.i a]::(kA o [])))))) true) (qac ja (E:=encI) rfl (qey (E:=encI) (ys:=[a]) rfl rfl rfl rfl) (qmn (E:=encI) (l:=k) rfl rfl rfl n rfl))) az)) (Sub.norm [] [some 0,some 1,some 2,some 3,some 4,some 6] (by rw[hB];rfl) rfl .nil (.kb rfl (.loop rfl (.kp (.kp .nil))) (.kb rfl (.cells (rc (.slice rfl) rn)) (.ks (.kb rfl (.cells (rc (.oslice rfl) rn)) (.lost (.ks .nil)))))))
 intro _ hsub
 simp only[ZI,ZP]at h
 obtain⟨rfl,rfl⟩:=h
 exact⟨_,hsub,⟨_,_,rfl,(Sub.keep [0] rfl rfl)⟩⟩
def zh (a:Int) (b:List Int):Nat->(List Bool)->(Option (List Int))->Int->Option ((List Bool)×(List Int))
 |0,_,_,_=>none
 |K+1,g,h,e=>
  (vZ g h e).bind fun(f,c)=>
  (idx b e).bind fun d=>
  if d=a then
  some (f,c)
  else
  zh a b K f (some c) d
def vE (N:Nat) (b:List Bool) (a:Int) (c:List Int):Option ((List Bool)×(List Int)):=
 (zh a c N b (none:Option (List Int)) a).bind fun d=>
 some d
theorem qcc (N:Nat) (f:List Bool) (a:Int) (d:List Int) {t:List Bool} {u:List Int} (h:vE N f a d=some (t,u)):qf ZT (.fn 129) [.yld 0,.ptr 4 0,.ptr 5 0] (.loop .ready none (ofG 37 [(4,.ptr 1 0),(6,.ptr 3 0)]) qp.xp qp.x1 qp.x2::(kB f (kJ f (kAW (kF a d []))))) (.tuple []) (.loop .ready none (ofG 37 [(4,.ptr 1 0),(6,.ptr 3 0)]) qp.xp qp.x1 qp.x2::(kB t (kJ t (.cells [.oslice 6 u.length 1]::(kF a d (kA u [])))))):=by
 unfold vE at h
 refine Un Tryz.func129 rfl rfl (m:=16) rfl (rs:=[]) rfl (l:=[(0,.yld 0),(1,.ptr 4 0),(2,.ptr 5 0)]) rfl ?_
 intro B hB
 refine Us ?_
 refine sh fol ((0,.yld 0)::(kAM a [])) ?_
 refine Goes.block ?_
 obtain⟨w,g6,h⟩:=bnd h
 refine Goes.imp (Q:=fun x s'=>(x= .ret/\ ∃q,q=w/\qcv ZT [] (.tuple []) (.loop .ready none (ofG 37 [(4,.ptr 1 0),(6,.ptr 3 0)]) qp.xp qp.x1 qp.x2::(kB q.1 (kJ q.1 (.cells [.oslice 6 q.2.length 1]::(kF a d (kA q.2 [])))))) .ret s')) ?_ ?_
 ·refine Goes.sub (s':=(ofG 16 ((0,.yld 0)::(kAM a [])),(.loop .ready none (ofG 37 [(4,.ptr 1 0),(6,.ptr 3 0)]) qp.xp qp.x1 qp.x2::(kB f (kJ f (.cells [hsl 6 1 (none:Option (List Int))]::(kF a d [.cells ((hof (none:Option (List Int))).flatMap encI.c)]))))))) (Sub.norm [] [some 0,some 1,some 2,some 3,some 4,some 5,none] (by rw[hB];rfl) rfl (.keep (.yld rfl) (.kp (.kp (.keep (.same nI) .nil)))) (.kb rfl (.loop rfl (.kp (.kp .nil))) (.kb rfl (.cells (rc (.slice rfl) rn)) (.ks (.kb rfl (.cells (rc .hs0 rn)) (.kb rfl (.same sn) (.kb rfl (.same sn) (.fresh .nil)))))))) ?_
  refine Uf (fun M s=> ∃(k:List Bool) (n:Option (List Int)) (o:Int),s=(ofG 16 ((0,.yld 0)::(kAM o [])),(.loop .ready none (ofG 37 [(4,.ptr 1 0),(6,.ptr 3 0)]) qp.xp qp.x1 qp.x2::(kB k (kJ k (.cells [hsl 6 1 n]::(kF a d (kR n)))))))/\zh a d M k n o=some w) ?_ (m:=N) ⟨_,_,_,rfl,g6⟩
  rintro M s ⟨k,n,o,rfl,g6⟩
  cases M with
  |zero=>simp only[zh]at g6;cases g6
  |succ M=>
   rw[zh]at g6
   refine sq ?_
   obtain⟨⟨p,e⟩,r,g6⟩:=bnd g6
   try dsimp only at g6
   refine sq (gq fol [2] ((0,.yld 0)::(kAM o [(8,.bool true)])) (.loop .ready none (ofG 37 [(4,.ptr 1 0),(6,.ptr 3 0)]) qp.xp qp.x1 qp.x2::(kB p (kJ p (kAi e (kF a d (.dead::(kA e []))))))) (ac (hs (.callH (.rd 0) [.i o] (.loop .ready none (ofG 37 [(4,.ptr 1 0),(6,.ptr 3 0)]) qp.xp qp.x1 qp.x2::(kB k (kJ k (.cells [hsl 6 1 n]::(kF a d (kR n)))))) [0,1,2,3,6] (.bool true) (.loop .ready none (ofG 37 [(4,.ptr 1 0),(6,.ptr 3 0)]) qp.xp qp.x1 qp.x2::(kB p (kJ p (kAi e (kF a d (.dead::(kA e [])))))))) (ql4 [some 0,some 1,some 2,some 3,some 6] [some 0,some 1,some 2,some 3,none,none,none,some 5] (qc8 k n o r) rfl (.kb rfl (.loop rfl (.kp (.kp .nil))) (.kb rfl (.cells (rc (.slice rfl) rn)) (.ks (.kb rfl (.cells (rc (.hs rfl) rn)) (.ks .nil))))) rfl rfl (.back rfl rfl (.loop rfl (.kp (.kp .nil))) rfl (.back rfl rfl (.cells (rc (.slice rfl) rn)) rfl (.back rfl rfl (.same fa) rfl (.back rfl rfl (.cells (rc (.oslice rfl) rn)) rfl (.old rfl rfl (.old rfl rfl (.dead (.new rfl rfl (.same fa) rfl .nil)))))))) (rc (.same nI) rn) (.same nB) rfl)) az) ?_)
   refine Goes.ifB (b:=true) (by kernel_rfl) (fun _=>?_) (fun c=>(by cases c))
   refine Goes.skip ?_
   refine Goes.block ?_
   obtain⟨j,g,g6⟩:=bnd g6
   refine sq (gr fol [2,3] ((0,.yld 0)::(kAM j [])) (ac (iv ja encI g) (ac (lv 0 ce3 encI g rfl) az)) ?_)
   refine sh fol ((0,.yld 0)::(kAM j [(15,.bool (decide (j=a)))])) ?_
   refine ihD g6 (fun v g6=>?_) (fun v g6=>?_)
   ·refine Goes.ret ?_
    obtain rfl:=si g6
    exact⟨rfl,_,rfl,(gh2 [] (Sub.norm [] [some 0,some 1,some 2,some 3,some 4,some 5,some 7] (by rw[hB];rfl) rfl (.keep (.same (qy.tuple sn)) .nil) (.kb rfl (.loop rfl (.kp (.kp .nil))) (.kb rfl (.cells (rc (.slice rfl) rn)) (.ks (.kb rfl (.cells (rc (.oslice rfl) rn)) (.kb rfl (.same sn) (.kb rfl (.same sn) (.ks .nil)))))))))⟩
   refine Goes.skip ?_
   exact⟨M,(ofG 16 ((0,.yld 0)::(kAM j [])),(.loop .ready none (ofG 37 [(4,.ptr 1 0),(6,.ptr 3 0)]) qp.xp qp.x1 qp.x2::(kB p (kJ p (.cells [hsl 6 1 (some e)]::(kF a d (kR (some e)))))))),Nat.lt_succ_self _,(Sub.norm [] [some 0,some 1,some 2,some 3,some 4,some 5,some 7] (by rw[hB];rfl) rfl (.keep (.yld rfl) (.kp (.kp (.keep (.same nI) .nil)))) (.kb rfl (.loop rfl (.kp (.kp .nil))) (.kb rfl (.cells (rc (.slice rfl) rn)) (.ks (.kb rfl (.cells (rc ((zV.hs1 rfl)) rn)) (.kb rfl (.same sn) (.kb rfl (.same sn) (.ks .nil)))))))),_,_,_,rfl,g6⟩
 rintro x s' ⟨rfl,y,rfl,hret⟩
 obtain rfl:=si h
 exact⟨_,Sub.refl _,hret⟩
def zG (N:Nat) (a:List Int):Nat->(List (List Int))->(List Bool)->Int->Option (List (List Int))
 |0,_,_,_=>none
 |K+1,c,d,b=>
  if b<(a.length:Int)then
  (((idx d b).bind fun e=>
  if e=true then
  some (c,d)
  else
  (xG a b).bind fun _=>
  (vE N d b a).bind fun(f,g)=>
  (app 24 c [g]).bind fun h=>
  some (h,f):Option ((List (List Int))×(List Bool)))).bind fun(j,i)=>
  zG N a K j i (w64 (b+1))
  else
  some c
def j5 (N:Nat) (a:List Int):Option (List (List Int)):=
 (mk 1 (a.length:Int) false).bind fun b=>
 (zG N a N ([]:List (List Int)) b 0).bind fun c=>
 some c
theorem qc9 (N:Nat) (a:List Int) {A:List (List Int)} (h:j5 N a=some A):qf ZT (.fn 70) [vl encI a] [] (.gslice 0 A.length 1) [.cells (A.flatMap (qc encI).c)]:=by
 unfold j5 at h
 refine Goes.fnHr Tryz.func70 rfl rfl (m:=37) rfl (rs:=[.tmp 2]) rfl (l:=(kQ a [])) rfl ?_
 intro B hB hR
 refine sh fol (kQ a []) ?_
 refine sh fol (kQ a [(3,.nilslice)]) ?_
 obtain⟨p,w,h⟩:=bnd h
 refine sq (gq fol [2] (kQ a [(3,.nilslice),(4,.ptr 1 0)]) (kJ p (kAD p [])) (ac (hs (.run [] (yB ZT 153 (.i (a.length:Int)) (.i (a.length:Int))) [] (.slice 0 0 p.length p.length 1) (kJ p []) false) (qgQ qkQ (E:=qiB) (z:=false) rfl (by kernel_rfl) w rfl)) az) ?_)
 refine sq ?_
 refine sh fol (kQ a [(3,.nilslice),(4,.ptr 1 0),(12,.i (a.length:Int)),(13,.i 0)]) ?_
 refine Goes.block ?_
 obtain⟨F,g7,h⟩:=bnd h
 refine Goes.imp (Q:=fun x s'=>(x= .exit 0/\ ∃u,u=F/\Sub s' (ofG 37 (kAn u []),[.cells (u.flatMap (qc encI).c)]))) ?_ ?_
 ·refine Goes.sub (s':=(ofG 37 (kQ a [(3,.gslice 0 ([]:List (List Int)).length 1),(4,.ptr 1 0),(12,.i (a.length:Int)),(13,.i 0)]),(.cells (([]:List (List Int)).flatMap (qc encI).c)::(kB p (kJ p []))))) (Sub.norm [] [none,some 1,some 0] (by rw[hB];rfl) rfl (.keep (.same (qj encI _)) (.keep .nil (.kp (.keep (.same nI) (.keep (.same nI) .nil))))) (.fresh (.kb rfl (.cells (rc (.slice rfl) rn)) (.ks .nil)))) ?_
  refine Uf (fun M s=> ∃(f:List (List Int)) (g:List Bool) (e:Int),s=(ofG 37 (kN a f (kW (a.length:Int) e [])),(.cells (f.flatMap (qc encI).c)::(kB g (kJ g []))))/\zG N a M f g e=some F) ?_ (m:=N) ⟨_,_,_,rfl,g7⟩
  rintro M s ⟨f,g,e,rfl,g7⟩
  cases M with
  |zero=>simp only[zG]at g7;cases g7
  |succ M=>
   rw[zG]at g7
   refine sh fol (kN a f (kW (a.length:Int) e [(14,.bool (decide (e<(a.length:Int))))])) ?_
   refine sq ?_
   refine ihD g7 (fun G g7=>?_) (fun G g7=>?_)
   ·refine Goes.skip ?_
    refine sq ?_
    obtain⟨C,g11,g7⟩:=bnd g7
    refine Goes.imp (Q:=fun x s'=>(x= .normal/\ ∃q j,(q,j)=C/\Sub s' (ofG 37 (kN a q (kW (a.length:Int) e [])),(.cells (q.flatMap (qc encI).c)::(kB j (kJ j [])))))) ?_ ?_
    ·refine Goes.block ?_
     refine sh fol (kN a f ((5,.i e)::(kW (a.length:Int) e []))) ?_
     refine sq ?_
     obtain⟨y,k,g11⟩:=bnd g11
     refine sq (gr fol [2,3] (kN a f ((5,.i e)::(kW (a.length:Int) e [(19,.bool y)]))) (ac (hs (.done (.opt (qm ZT 153 (.slice 2 0 g.length g.length 1) (.i e))) (.ptr 2 ((e:Int).toNat*1+0))) (qag qkQ k)) (ac (hs (.run [2] (jK ZT 4 (.ptr 2 ((e:Int).toNat*1+0))) (.cells (f.flatMap (qc encI).c)::(kB g (kJ g []))) (.bool y) (.cells (f.flatMap (qc encI).c)::(kB g (kJ g []))) false) (qcE ce4 (E:=qiB) (l:=g) rfl rfl k (nl rfl) rfl)) az)) ?_)
     refine ihB g11 (fun D g11=>?_) (fun D g11=>?_)
     ·refine Goes.exit ?_
      obtain rfl:=si g11
      exact⟨rfl,_,_,rfl,(Sub.keep [0,3,4,12,13] rfl rfl)⟩
     refine Goes.skip ?_
     refine sg fol (kN a f ((5,.i e)::(6,.ptr 3 0)::(kW (a.length:Int) e []))) (.cells (f.flatMap (qc encI).c)::(kB g (kJ g (kAW [])))) ?_
     refine sq ?_
     obtain⟨_,r,g11⟩:=bnd g11
     refine sq (gq fol [2] (kN a f ((6,.ptr 3 0)::(kW (a.length:Int) e [(22,.func (.func 129) [] [.ptr 4 0,.ptr 5 0])]))) (.cells (f.flatMap (qc encI).c)::(kB g (kJ g (kAW (kF e a []))))) (ac (hs (.callH 104 (kAU a e) (.cells (f.flatMap (qc encI).c)::(kB g (kJ g (kAW [])))) [] (.func (.func 129) [] [.ptr 4 0,.ptr 5 0]) (.cells (f.flatMap (qc encI).c)::(kB g (kJ g (kAW (kF e a [])))))) (jc [] [none,none,none,none,some 0,some 1] (qdF a e r) .nil rfl rfl (.old rfl rfl (.old rfl rfl (.old rfl rfl (.old rfl rfl (.new rfl rfl (.cells (rc (.same nI) rn)) rfl (.new rfl rfl (.cells (rc (.same (qj encI _)) rn)) rfl .nil)))))) (rc (.same (qj encI _)) (rc (.same nI) rn)) (.funcL (sn) (rc (.ptr rfl) (rc (.ptr rfl) rn))) rfl)) az) ?_)
     refine Goes.block ?_
     obtain⟨⟨d,b⟩,t,g11⟩:=bnd g11
     try dsimp only at g11
     refine Goes.range fol hR (gf:=129) (first:=[]) (captured:=[.ptr 4 0,.ptr 5 0]) (v:= .tuple []) (A2:=(.cells (f.flatMap (qc encI).c)::(kB d (kJ d (kAi b (kF e a (.loop .ready none (ofG 37 [(4,.ptr 1 0),(6,.ptr 3 0)]) qp.xp qp.x1 qp.x2::(kA b [])))))))) (s':=(ofG 37 (kN a f ((6,.ptr 3 0)::(kW (a.length:Int) e [(22,.func (.func 129) [] [.ptr 4 0,.ptr 5 0])]))),(.cells (f.flatMap (qc encI).c)::(kB d (kJ d (kAi b (kF e a (.loop .exhausted none (ofG 37 [(4,.ptr 1 0),(6,.ptr 3 0)]) qp.xp qp.x1 qp.x2::(kA b []))))))))) (x:= .normal) (by kernel_rfl) (by kernel_rfl) (qh0 (show(Obl.callH 129 [.yld 6,.ptr 4 0,.ptr 5 0] (.cells (f.flatMap (qc encI).c)::(kB g (kJ g (kAW (kF e a [.loop .ready none (ofG 37 [(0,vl encI a),(3,.gslice 0 f.length 1),(4,.ptr 1 0),(6,.ptr 3 0),(12,.i (a.length:Int)),(13,.i e),(22,.func (.func 129) [] [.ptr 4 0,.ptr 5 0])]) qp.xp qp.x1 qp.x2]))))) [6,1,2,3,4,5] (.tuple []) (.cells (f.flatMap (qc encI).c)::(kB d (kJ d (kAi b (kF e a (.loop .ready none (ofG 37 [(4,.ptr 1 0),(6,.ptr 3 0)]) qp.xp qp.x1 qp.x2::(kA b [])))))))).Holds ZT from jc [some 6,some 1,some 2,some 3,some 4,some 5] [none,some 1,some 2,some 3,some 4,some 5,some 0,some 6] (qcc N g e a t) (.kb rfl (.loop rfl (.drop (.drop (.kp (.kp (.drop (.drop (.drop .nil)))))))) (.kb rfl (.cells (rc (.slice rfl) rn)) (.ks (.kb rfl (.cells (rc (.same (qy.nilslice)) rn)) (.kb rfl (.cells (rc (.same nI) rn)) (.kb rfl (.cells (rc (.same (qj encI _)) rn)) .nil)))))) rfl rfl (.old rfl rfl (.back rfl rfl (.cells (rc (.slice rfl) rn)) rfl (.back rfl rfl (.same fa) rfl (.back rfl rfl (.cells (rc (.oslice rfl) rn)) rfl (.back rfl rfl (.cells (rc (.same nI) rn)) rfl (.back rfl rfl (.cells (rc (.same (qj encI _)) rn)) rfl (.back rfl rfl (.loop rfl (.kp (.kp .nil))) rfl (.new rfl rfl (.same fa) rfl .nil)))))))) (rc (.yld rfl) (rc (.ptr rfl) (rc (.ptr rfl) rn))) (.same (qy.tuple sn)) rfl)) (by kernel_rfl) ?_
     refine Goes.sub (show Sub (ofG 37 (kN a f ((6,.ptr 3 0)::(kW (a.length:Int) e [(22,.func (.func 129) [] [.ptr 4 0,.ptr 5 0])]))),(.cells (f.flatMap (qc encI).c)::(kB d (kJ d (kAi b (kF e a (.loop .exhausted none (ofG 37 [(4,.ptr 1 0),(6,.ptr 3 0)]) qp.xp qp.x1 qp.x2::(kA b [])))))))) (ofG 37 (kN a f ((6,.ptr 3 0)::(kW (a.length:Int) e [(22,.func (.func 129) [] [.ptr 5 0,.ptr 6 0])]))),(.cells (f.flatMap (qc encI).c)::(kB d (kJ d (kAG b (kA b (kF e a [])))))))from(Sub.norm [] [some 0,some 1,some 2,some 3,some 7,some 4,some 5] (by rw[hB];rfl) rfl (.keep (.same (qj encI _)) (.keep (.gslice rfl) (.kp (.kp (.keep (.same nI) (.keep (.same nI) (.keep (.funcL (sn) (rc (.ptr rfl) (rc (.ptr rfl) rn))) .nil))))))) (.ks (.kb rfl (.cells (rc (.slice rfl) rn)) (.ks (.kb rfl (.cells (rc (.oslice rfl) rn)) (.ks (.kb rfl (.same sn) (.kb rfl (.same sn) .nil))))))))) ?_
     obtain⟨n,o,g11⟩:=bnd g11
     refine gq fol [3] (kQ a ((3,.gslice 8 n.length 1)::(4,.ptr 1 0)::(kW (a.length:Int) e []))) (.dead::(kB d (kJ d (kAG b (kA b (kF e a (kAG b [.cells ((f).flatMap ((qc encI)).c++[.oslice 4 b.length 1])]))))))) (ac (hs (.run [0,7] (z8 ZT [36,36] (.gslice 0 f.length 1) (.slice 7 0 1 1 1)) (.cells (f.flatMap (qc encI).c)::(kB d (kJ d (kAG b (kA b (kF e a (kAG b []))))))) (.gslice 8 n.length 1) (.dead::(kB d (kJ d (kAG b (kA b (kF e a (kAG b [.cells ((f).flatMap ((qc encI)).c++[.oslice 4 b.length 1])]))))))) true) (qmO qhZ (E:=(qc encI)) (l:=f) (x:=b) rfl rfl rfl rfl rfl rfl rfl o rfl)) az) ?_
     obtain rfl:=si g11
     exact⟨rfl,_,_,rfl,((show Sub (ofG 37 (kQ a ((3,.gslice 8 n.length 1)::(4,.ptr 1 0)::(kW (a.length:Int) e []))),(.dead::(kB d (kJ d (kAG b (kA b (kF e a (kAG b [.cells ((f).flatMap ((qc encI)).c++[.oslice 4 b.length 1])])))))))) (ofG 37 (kN a n (kW (a.length:Int) e [])),(.cells (n.flatMap (qc encI).c)::(kB d (kJ d []))))from(Sub.norm [4] [some 8,some 1,some 2] (by rw[hB];rfl) rfl (.keep (.same (qj encI _)) (.keep (.gslice rfl) (.kp (.keep (.same nI) (.keep (.same nI) .nil))))) (.kb rfl (xL.my (E:=(qc encI)) o (rc (.frz (Fz.os (E:=encI) rfl rfl (nl rfl)) (qj encI _)) rn)) (.kb rfl (.cells (rc (.slice rfl) rn)) (.ks .nil))))).trans (Sub.refl _))⟩
    rintro x s' ⟨rfl,q,j,rfl,hsub⟩
    try dsimp only at g7
    refine Goes.sub hsub ?_
    refine gh fol (kN a q (kW (a.length:Int) (w64 (e+1)) [])) ?_
    exact⟨M,(ofG 37 (kN a q (kW (a.length:Int) (w64 (e+1)) [])),(.cells (q.flatMap (qc encI).c)::(kB j (kJ j [])))),Nat.lt_succ_self _,(Sub.refl _),_,_,_,rfl,g7⟩
   refine Goes.exit ?_
   obtain rfl:=si g7
   exact⟨rfl,_,rfl,(Sub.norm [] [some 0] (by rw[hB];rfl) rfl (.drop (.keep (.gslice rfl) .nil)) (.ks .nil))⟩
 rintro x s' ⟨rfl,u,rfl,hsub⟩
 refine Goes.sub hsub ?_
 refine sh fol [(2,.gslice 0 u.length 1)] ?_
 refine Goes.ret ?_
 obtain rfl:=si h
 exact(gh2 [.gslice 0 u.length 1] (qbh.refl _ _))
def qax (N:Nat) (p:List Int):Option ((List (List Int))×Int):=
 (ve N p).bind fun a=>
 if(!decide (a=0))=true then
 some ([],a)
 else
 (j5 N p).bind fun b=>
 some (b,0)
theorem qeu (N:Nat) (p:List Int) {res:(List (List Int))×Int} (h:qax N p=some res):qf ZT (.fn 31) [vl encI p] [] (.tuple [vl (qc encI) res.1,.i res.2]) []:=by
 unfold qax at h
 refine Ub Tryz.func31 rfl rfl (m:=12) rfl (rs:=[.tmp 2,.tmp 3]) rfl (l:=(kQ p [])) rfl ?_
 refine sh fol (kQ p []) ?_
 refine sq ?_
 obtain⟨a,b,h⟩:=bnd h
 refine sq (gr fol [1] (kQ p [(4,.i a)]) (ac (cv (qaP N p b)) az) ?_)
 refine sh fol (kQ p [(4,.i a),(8,.bool (!decide (a=0)))]) ?_
 refine ihB h (fun f h=>?_) (fun f h=>?_)
 ·refine sh fol [(2,.nilslice),(3,.i a)] ?_
  refine Goes.ret ?_
  obtain rfl:=si h
  exact(gw2 (kAY a) (FzW.tuple (qo.cons (FzW.nilv (E:=(qc encI))) (qo.cons (Ua tI) qo.nil))))
 refine Goes.skip ?_
 obtain⟨d,e,h⟩:=bnd h
 refine sq (gq fol [1] [(2,.gslice 0 d.length 1),(3,.i 0)] [.cells (d.flatMap (qc encI).c)] (ac (hs (.callH 70 [vl encI p] [] [] (.gslice 0 d.length 1) [.cells (d.flatMap (qc encI).c)]) (jc [] [some 0] (qc9 N p e) .nil rfl rfl (.new rfl rfl (.same fa) rfl .nil) (rc (.same (qj encI _)) rn) (.gslice rfl) rfl)) az) ?_)
 refine Goes.ret ?_
 obtain rfl:=si h
 exact(gw2 [.gslice 0 d.length 1,.i 0] (FzW.tuple (qo.cons (Ur (Fz.gs (E:=(qc encI)) rfl rfl (nl rfl))) (qo.cons (Ua tI) qo.nil))))
def xP (a:Int) (b:List Int):Option Unit:=
 some ()
theorem qcd (a:Int) (b:List Int) (h:xP a b=some ()):qf ZT (.fn 71) [.i a,vl encI b] [] (.func (.func 105) [] [.ptr 0 0,.ptr 1 0]) (kF a b []):=by
 unfold xP at h
 refine Un Tryz.func71 rfl rfl (m:=6) rfl (rs:=[.tmp 4]) rfl (l:=(kG a b [])) rfl ?_
 intro B hB
 refine sg fol [(2,.ptr 0 0),(3,.ptr 1 0)] (kF a b []) ?_
 refine sh fol [(4,.func (.func 105) [] [.ptr 0 0,.ptr 1 0])] ?_
 refine Goes.ret ?_
 exact(gh2 [.func (.func 105) [] [.ptr 0 0,.ptr 1 0]] (qbh.refl _ _))
def qay (a:List Int) (e:Int) (b:Int) (c:Int):Option (List Int):=
 (idx a b).bind fun f=>
 (put a b (w64 (f+1))).bind fun d=>
 (idx d c).bind fun g=>
 (put d c (w64 (g-1))).bind fun h=>
 some h
theorem qei (c:List Int) (k:Int) (a:Int) (b:Int) {o:List Int} (h:qay c k a b=some o):qf ZT (.rd 0) [.i k,.agg [.i a,.i b]] (.loop .ready none (ofG 30 [(5,.ptr 1 0)]) qd.xp qd.x1 qd.x2::(kB c (kA c []))) (.bool true) (.loop .ready none (ofG 30 [(5,.ptr 1 0)]) qd.xp qd.x1 qd.x2::(kB o (kA o []))):=by
 unfold qay at h
 refine Goes.round (m:=30) (l0:=[(5,.ptr 1 0)]) (l:=[(5,.ptr 1 0),(13,.i k),(14,.agg [.i a,.i b])]) rfl rfl rfl ?_
 intro B hB
 refine Us ?_
 refine Goes.rg fol kAo (.loop .ready none (ofG 30 [(5,.ptr 1 0)]) qd.xp qd.x1 qd.x2::(kB c (kA c (kT a b)))) ?_
 refine⟨_,Sub.refl _,?_⟩
 refine⟨_,_,_,_,_,rfl,?_⟩
 refine Us ?_
 refine Goes.block ?_
 obtain⟨x2,e,h⟩:=bnd h
 obtain⟨d,g,h⟩:=bnd h
 refine sq (gq fol [3,4,6,7] kAo (.loop .busy none (ofG 30 [(5,.ptr 1 0)]) qd.xp qd.x1 qd.x2::(kB c (kA d (kT a b)))) (ac (hs (.done (.opt (qm ZT 22 (.slice 2 0 c.length c.length 1) (.i a))) (.ptr 2 ((a:Int).toNat*1+0))) (qag ja e)) (ac (hs (.run [2] (jK ZT 3 (.ptr 2 ((a:Int).toNat*1+0))) (.loop .busy none (ofG 30 [(5,.ptr 1 0)]) qd.xp qd.x1 qd.x2::(kB c (kA c (kT a b)))) (.i x2) (.loop .busy none (ofG 30 [(5,.ptr 1 0)]) qd.xp qd.x1 qd.x2::(kB c (kA c (kT a b)))) false) (qcE ce3 (E:=encI) (l:=c) rfl rfl e (nl rfl) rfl)) (ac (hs (.done (.opt (qm ZT 22 (.slice 2 0 c.length c.length 1) (.i a))) (.ptr 2 ((a:Int).toNat*1+0))) (qag ja e)) (ac (hs (.run [2] (yz ZT 3 (.ptr 2 ((a:Int).toNat*1+0)) (.i (w64 (x2+1)))) (.loop .busy none (ofG 30 [(5,.ptr 1 0)]) qd.xp qd.x1 qd.x2::(kB c (kA c (kT a b)))) .undef (.loop .busy none (ofG 30 [(5,.ptr 1 0)]) qd.xp qd.x1 qd.x2::(kB c (kA d (kT a b)))) true) (qbp (E:=encI) (l:=c) (y:=w64 (x2+1)) rfl (show _=some 1 by kernel_rfl) rfl e rfl rfl rfl rfl rfl g rfl)) az)))) ?_)
 refine Goes.sub (show Sub (ofG 30 kAo,(.loop .busy none (ofG 30 [(5,.ptr 1 0)]) qd.xp qd.x1 qd.x2::(kB c (kA d (kT a b))))) (ofG 30 kAo,(.loop .busy none (ofG 30 [(5,.ptr 1 0)]) qd.xp qd.x1 qd.x2::(kB d (kA d (kT a b)))))from(Sub.norm [] [some 0,some 1,some 2,some 3] (by rw[hB];rfl) rfl (.kp (.kp .nil)) (.kb rfl (.loop rfl (.kp .nil)) (.kb rfl (.cells (rc (.sliceE rfl (yV g)) rn)) (.ks (.kb rfl (.same sn) .nil)))))) ?_
 obtain⟨p,f,h⟩:=bnd h
 obtain⟨n,j,h⟩:=bnd h
 refine gq fol [3,4,6,7] [] (.loop .busy none (ofG 30 [(5,.ptr 1 0)]) qd.xp qd.x1 qd.x2::(kB d (kA n (kT a b)))) (ac (hs (.done (.opt (qm ZT 22 (.slice 2 0 d.length d.length 1) (.i b))) (.ptr 2 ((b:Int).toNat*1+0))) (qag ja f)) (ac (hs (.run [2] (jK ZT 3 (.ptr 2 ((b:Int).toNat*1+0))) (.loop .busy none (ofG 30 [(5,.ptr 1 0)]) qd.xp qd.x1 qd.x2::(kB d (kA d (kT a b)))) (.i p) (.loop .busy none (ofG 30 [(5,.ptr 1 0)]) qd.xp qd.x1 qd.x2::(kB d (kA d (kT a b)))) false) (qcE ce3 (E:=encI) (l:=d) rfl rfl f (nl rfl) rfl)) (ac (hs (.done (.opt (qm ZT 22 (.slice 2 0 d.length d.length 1) (.i b))) (.ptr 2 ((b:Int).toNat*1+0))) (qag ja f)) (ac (hs (.run [2] (yz ZT 3 (.ptr 2 ((b:Int).toNat*1+0)) (.i (w64 (p-1)))) (.loop .busy none (ofG 30 [(5,.ptr 1 0)]) qd.xp qd.x1 qd.x2::(kB d (kA d (kT a b)))) .undef (.loop .busy none (ofG 30 [(5,.ptr 1 0)]) qd.xp qd.x1 qd.x2::(kB d (kA n (kT a b)))) true) (qbp (E:=encI) (l:=d) (y:=w64 (p-1)) rfl (show _=some 1 by kernel_rfl) rfl f rfl rfl rfl rfl rfl j rfl)) az)))) ?_
 obtain rfl:=si h
 exact⟨_,(show Sub (ofG 30 [],(.loop .busy none (ofG 30 [(5,.ptr 1 0)]) qd.xp qd.x1 qd.x2::(kB d (kA n (kT a b))))) (ofG 30 [],(.loop .busy none (ofG 30 [(5,.ptr 1 0)]) qd.xp qd.x1 qd.x2::(kB n (kA n []))))from(Sub.norm [] [some 0,some 1,some 2] (by rw[hB];rfl) rfl .nil (.kb rfl (.loop rfl (.kp .nil)) (.kb rfl (.cells (rc (.sliceE rfl (yV j)) rn)) (.ks .nil))))),⟨_,_,rfl,(qbh.refl _ _)⟩⟩
def qV (b:List Int):Nat->(List Int)->(List Int)->Int->Option (List Int)
 |0,_,_,_=>none
 |K+1,k,g,h=>
  if h<(b.length:Int)then
  (idx b h).bind fun c=>
  (jk c).bind fun a=>
  (idx g (w64 (a-1))).bind fun d=>
  (idx g (w64 ((w64 (a-1))+1))).bind fun e=>
  (qay k c d e).bind fun i=>
  (put g (w64 (a-1)) e).bind fun f=>
  (idx f (w64 ((w64 (a-1))+1))).bind fun l=>
  (put f (w64 ((w64 (a-1))+1)) d).bind fun j=>
  qV b K i j (w64 (h+1))
  else
  some k
def vH (N:Nat) (a:List Int) (b:Int) (c:List Int):Option (List Int):=
 (zH N b).bind fun d=>
 (qV c N a d 0).bind fun e=>
 some e
theorem qbu (N:Nat) (n:List Int) (d:Int) (a:List Int) {J:List Int} (h:vH N n d a=some J):qf ZT (.fn 105) [.yld 0,.ptr 3 0,.ptr 4 0] (.loop .ready none (ofG 30 [(5,.ptr 1 0)]) qd.xp qd.x1 qd.x2::(kB n (kA n (kF d a [])))) (.tuple []) (.loop .ready none (ofG 30 [(5,.ptr 1 0)]) qd.xp qd.x1 qd.x2::(kB J (kA J (kF d a [])))):=by
 unfold vH at h
 refine Un Tryz.func105 rfl rfl (m:=50) rfl (rs:=[]) rfl (l:=[(0,.yld 0),(1,.ptr 3 0),(2,.ptr 4 0)]) rfl ?_
 intro B hB
 refine Us ?_
 obtain⟨G,H,h⟩:=bnd h
 refine sq (gq fol [1] ((0,.yld 0)::(2,.ptr 4 0)::(kY G [])) (.loop .ready none (ofG 30 [(5,.ptr 1 0)]) qd.xp qd.x1 qd.x2::(kB n (kA n (kF d a (kA G []))))) (ac (hs (.callH 60 [.i d] (.loop .ready none (ofG 30 [(5,.ptr 1 0)]) qd.xp qd.x1 qd.x2::(kB n (kA n (kF d a [])))) [] (.slice 5 0 G.length G.length 1) (.loop .ready none (ofG 30 [(5,.ptr 1 0)]) qd.xp qd.x1 qd.x2::(kB n (kA n (kF d a (kA G [])))))) (jc [] [none,none,none,none,none,some 0] (vV N d H) .nil rfl rfl (.old rfl rfl (.old rfl rfl (.old rfl rfl (.old rfl rfl (.old rfl rfl (.new rfl rfl (.same fa) rfl .nil)))))) (rc (.same nI) rn) (.slice rfl) rfl)) az) ?_)
 refine sh fol ((0,.yld 0)::(kY G [(10,vl encI a),(11,.i (a.length:Int)),(12,.i 0)])) ?_
 refine Goes.block ?_
 obtain⟨K,g8,h⟩:=bnd h
 refine Goes.imp (Q:=fun x s'=>(x= .exit 0/\ ∃I,I=K/\Sub s' (ofG 50 [],(.loop .ready none (ofG 30 [(5,.ptr 1 0)]) qd.xp qd.x1 qd.x2::(kB I (kA I (kF d a []))))))) ?_ ?_
 ·refine Uf (fun M s=> ∃(p:List Int) (g:List Int) (q:Int),s=(ofG 50 ((0,.yld 0)::(kY g (kO a (a.length:Int) q []))),(.loop .ready none (ofG 30 [(5,.ptr 1 0)]) qd.xp qd.x1 qd.x2::(kB p (kA p (kF d a (kA g []))))))/\qV a M p g q=some K) ?_ (m:=N) ⟨_,_,_,rfl,g8⟩
  rintro M s ⟨p,g,q,rfl,g8⟩
  cases M with
  |zero=>simp only[qV]at g8;cases g8
  |succ M=>
   rw[qV]at g8
   refine sh fol ((0,.yld 0)::(kY g (kO a (a.length:Int) q [(13,.bool (decide (q<(a.length:Int))))]))) ?_
   refine sq ?_
   refine ihD g8 (fun L g8=>?_) (fun L g8=>?_)
   ·refine Goes.skip ?_
    refine sq (Goes.block ?_)
    obtain⟨u,v,g8⟩:=bnd g8
    refine sq (gr fol [0,1] ((0,.yld 0)::(kY g ((6,.i u)::(kO a (a.length:Int) q [])))) (ac (iv ja encI v) (ac (lv 0 ce3 encI v rfl) az)) ?_)
    obtain⟨f,A,g8⟩:=bnd g8
    refine sq (gr fol [1] ((0,.yld 0)::(kY g (kAf u (w64 (f-1)) (kO a (a.length:Int) q [])))) (ac (cv (qA u A)) az) ?_)
    refine sq ?_
    obtain⟨r,j,g8⟩:=bnd g8
    obtain⟨t,k,g8⟩:=bnd g8
    obtain⟨e,C,g8⟩:=bnd g8
    refine sq (gq fol [4,5,9,10,12] ((0,.yld 0)::(kY g ((7,.i (w64 (f-1)))::(kO a (a.length:Int) q [(32,.bool false)])))) (.loop .ready none (ofG 30 [(5,.ptr 1 0)]) qd.xp qd.x1 qd.x2::(kB e (kA e (kF d a (kA g []))))) (ac (hs (.done (.opt (qm ZT 22 (.slice 5 0 g.length g.length 1) (.i (w64 (f-1))))) (.ptr 5 ((w64 (f-1):Int).toNat*1+0))) (qag ja j)) (ac (hs (.run [5] (jK ZT 3 (.ptr 5 ((w64 (f-1):Int).toNat*1+0))) (.loop .ready none (ofG 30 [(5,.ptr 1 0)]) qd.xp qd.x1 qd.x2::(kB p (kA p (kF d a (kA g []))))) (.i r) (.loop .ready none (ofG 30 [(5,.ptr 1 0)]) qd.xp qd.x1 qd.x2::(kB p (kA p (kF d a (kA g []))))) false) (qcE ce3 (E:=encI) (l:=g) rfl rfl j (nl rfl) rfl)) (ac (hs (.done (.opt (qm ZT 22 (.slice 5 0 g.length g.length 1) (.i (w64 ((w64 (f-1))+1))))) (.ptr 5 ((w64 ((w64 (f-1))+1):Int).toNat*1+0))) (qag ja k)) (ac (hs (.run [5] (jK ZT 3 (.ptr 5 ((w64 ((w64 (f-1))+1):Int).toNat*1+0))) (.loop .ready none (ofG 30 [(5,.ptr 1 0)]) qd.xp qd.x1 qd.x2::(kB p (kA p (kF d a (kA g []))))) (.i t) (.loop .ready none (ofG 30 [(5,.ptr 1 0)]) qd.xp qd.x1 qd.x2::(kB p (kA p (kF d a (kA g []))))) false) (qcE ce3 (E:=encI) (l:=g) rfl rfl k (nl rfl) rfl)) (ac (hs (.callH (.rd 0) [.i u,.agg [.i r,.i t]] (.loop .ready none (ofG 30 [(5,.ptr 1 0)]) qd.xp qd.x1 qd.x2::(kB p (kA p (kF d a (kA g []))))) [0,1,2] (.bool true) (.loop .ready none (ofG 30 [(5,.ptr 1 0)]) qd.xp qd.x1 qd.x2::(kB e (kA e (kF d a (kA g [])))))) (ql4 [some 0,some 1,some 2] [some 0,some 1,some 2,none,none,none] (qei p u r t C) rfl (.kb rfl (.loop rfl (.kp .nil)) (.kb rfl (.cells (rc (.slice rfl) rn)) (.ks .nil))) rfl rfl (.back rfl rfl (.loop rfl (.kp .nil)) rfl (.back rfl rfl (.cells (rc (.slice rfl) rn)) rfl (.back rfl rfl (.same fa) rfl (.old rfl rfl (.old rfl rfl (.old rfl rfl .nil)))))) (rc (.same nI) (rc (.same (qy.agg sn)) rn)) (.same nB) rfl)) az))))) ?_)
    refine Goes.ifB (b:=false) (by kernel_rfl) (fun c=>(by cases c)) (fun _=>?_)
    refine Goes.skip ?_
    obtain⟨D,w,g8⟩:=bnd g8
    obtain⟨O,F,g8⟩:=bnd g8
    obtain⟨o,z,g8⟩:=bnd g8
    refine gq fol [8,9,12,13,14,15,16,17] ((0,.yld 0)::(kY g (kO a (a.length:Int) q []))) (.loop .ready none (ofG 30 [(5,.ptr 1 0)]) qd.xp qd.x1 qd.x2::(kB e (kA e (kF d a (kA o []))))) (ac (hs (.done (.opt (qm ZT 22 (.slice 5 0 g.length g.length 1) (.i (w64 ((w64 (f-1))+1))))) (.ptr 5 ((w64 ((w64 (f-1))+1):Int).toNat*1+0))) (qag ja k)) (ac (hs (.run [5] (jK ZT 3 (.ptr 5 ((w64 ((w64 (f-1))+1):Int).toNat*1+0))) (.loop .ready none (ofG 30 [(5,.ptr 1 0)]) qd.xp qd.x1 qd.x2::(kB e (kA e (kF d a (kA g []))))) (.i t) (.loop .ready none (ofG 30 [(5,.ptr 1 0)]) qd.xp qd.x1 qd.x2::(kB e (kA e (kF d a (kA g []))))) false) (qcE ce3 (E:=encI) (l:=g) rfl rfl k (nl rfl) rfl)) (ac (hs (.done (.opt (qm ZT 22 (.slice 5 0 g.length g.length 1) (.i (w64 (f-1))))) (.ptr 5 ((w64 (f-1):Int).toNat*1+0))) (qag ja j)) (ac (hs (.run [5] (jK ZT 3 (.ptr 5 ((w64 (f-1):Int).toNat*1+0))) (.loop .ready none (ofG 30 [(5,.ptr 1 0)]) qd.xp qd.x1 qd.x2::(kB e (kA e (kF d a (kA g []))))) (.i r) (.loop .ready none (ofG 30 [(5,.ptr 1 0)]) qd.xp qd.x1 qd.x2::(kB e (kA e (kF d a (kA g []))))) false) (qcE ce3 (E:=encI) (l:=g) rfl rfl j (nl rfl) rfl)) (ac (hs (.done (.opt (qm ZT 22 (.slice 5 0 g.length g.length 1) (.i (w64 (f-1))))) (.ptr 5 ((w64 (f-1):Int).toNat*1+0))) (qag ja j)) (ac (hs (.run [5] (yz ZT 3 (.ptr 5 ((w64 (f-1):Int).toNat*1+0)) (.i t)) (.loop .ready none (ofG 30 [(5,.ptr 1 0)]) qd.xp qd.x1 qd.x2::(kB e (kA e (kF d a (kA g []))))) .undef (.loop .ready none (ofG 30 [(5,.ptr 1 0)]) qd.xp qd.x1 qd.x2::(kB e (kA e (kF d a (kA D []))))) true) (qbp (E:=encI) (l:=g) (y:=t) rfl (show _=some 1 by kernel_rfl) rfl j rfl rfl rfl rfl rfl w rfl)) (ac (hs (.done (.opt (qm ZT 22 (.slice 5 0 g.length g.length 1) (.i (w64 ((w64 (f-1))+1))))) (.ptr 5 ((w64 ((w64 (f-1))+1):Int).toNat*1+0))) (qag ja k)) (ac (hs (.run [5] (yz ZT 3 (.ptr 5 ((w64 ((w64 (f-1))+1):Int).toNat*1+0)) (.i r)) (.loop .ready none (ofG 30 [(5,.ptr 1 0)]) qd.xp qd.x1 qd.x2::(kB e (kA e (kF d a (kA D []))))) .undef (.loop .ready none (ofG 30 [(5,.ptr 1 0)]) qd.xp qd.x1 qd.x2::(kB e (kA e (kF d a (kA o []))))) true) (qbp (E:=encI) (l:=D) (y:=r) rfl (show _=some 1 by kernel_rfl) rfl F rfl rfl rfl rfl rfl z rfl)) az)))))))) ?_
    refine Goes.sub (show Sub (ofG 50 ((0,.yld 0)::(kY g (kO a (a.length:Int) q []))),(.loop .ready none (ofG 30 [(5,.ptr 1 0)]) qd.xp qd.x1 qd.x2::(kB e (kA e (kF d a (kA o [])))))) (ofG 50 ((0,.yld 0)::(kY o (kO a (a.length:Int) q []))),(.loop .ready none (ofG 30 [(5,.ptr 1 0)]) qd.xp qd.x1 qd.x2::(kB e (kA e (kF d a (kA o []))))))from(Sub.norm [] [some 0,some 1,some 2,some 3,some 4,some 5] (by rw[hB];rfl) rfl (.keep (.yld rfl) (.keep (.sliceE rfl ((yV w).trans (yV z))) (.keep (.same (qj encI _)) (.keep (.same nI) (.keep (.same nI) .nil))))) (.kb rfl (.loop rfl (.kp .nil)) (.kb rfl (.cells (rc (.slice rfl) rn)) (.ks (.kb rfl (.same sn) (.kb rfl (.same sn) (.ks .nil)))))))) ?_
    refine gh fol ((0,.yld 0)::(kY o (kO a (a.length:Int) (w64 (q+1)) []))) ?_
    exact⟨M,(ofG 50 ((0,.yld 0)::(kY o (kO a (a.length:Int) (w64 (q+1)) []))),(.loop .ready none (ofG 30 [(5,.ptr 1 0)]) qd.xp qd.x1 qd.x2::(kB e (kA e (kF d a (kA o [])))))),Nat.lt_succ_self _,(Sub.refl _),_,_,_,rfl,g8⟩
   refine Goes.exit ?_
   obtain rfl:=si g8
   exact⟨rfl,_,rfl,(Sub.norm [] [some 0,some 1,some 2,some 3,some 4] (by rw[hB];rfl) rfl .nil (.kb rfl (.loop rfl (.kp .nil)) (.kb rfl (.cells (rc (.slice rfl) rn)) (.ks (.kb rfl (.same sn) (.kb rfl (.same sn) .nil))))))⟩
 rintro x s' ⟨rfl,I,rfl,hsub⟩
 obtain rfl:=si h
 exact⟨_,hsub,(gh2 [] (qbh.refl _ _))⟩
def qa0 (N:Nat) (n:Int) (w:List Int):Option (List Int):=
 (zH N n).bind fun a=>
 (xP n w).bind fun _=>
 (vH N a n w).bind fun b=>
 some b
theorem qf0 (N:Nat) (n:Int) (w:List Int) {res:List Int} (h:qa0 N n w=some res):qf ZT (.fn 32) [.i n,vl encI w] [] (vl encI res) []:=by
 unfold qa0 at h
 refine Ub Tryz.func32 rfl rfl (m:=30) rfl (rs:=[.tmp 4]) rfl (l:=(kG n w [])) rfl ?_
 refine sh fol (kG n w []) ?_
 obtain⟨b,c,h⟩:=bnd h
 refine sq (gq fol [1] (kG n w [(5,.ptr 1 0)]) (kA b (kAD b [])) (ac (hs (.callH 60 [.i n] [] [] (.slice 0 0 b.length b.length 1) (kA b [])) (jc [] [some 0] (vV N n c) .nil rfl rfl (.new rfl rfl (.same fa) rfl .nil) (rc (.same nI) rn) (.slice rfl) rfl)) az) ?_)
 refine sq ?_
 obtain⟨_,d,h⟩:=bnd h
 refine sq (gq fol [2] [(5,.ptr 1 0),(12,.func (.func 105) [] [.ptr 2 0,.ptr 3 0])] (kA b (kAD b (kF n w []))) (ac (hs (.callH 71 [.i n,vl encI w] (kA b (kAD b [])) [] (.func (.func 105) [] [.ptr 2 0,.ptr 3 0]) (kA b (kAD b (kF n w [])))) (jc [] [none,none,some 0,some 1] (qcd n w d) .nil rfl rfl (.old rfl rfl (.old rfl rfl (.new rfl rfl (.cells (rc (.same nI) rn)) rfl (.new rfl rfl (.cells (rc (.same (qj encI _)) rn)) rfl .nil)))) (rc (.same nI) (rc (.same (qj encI _)) rn)) (.funcL (sn) (rc (.ptr rfl) (rc (.ptr rfl) rn))) rfl)) az) ?_)
 refine Goes.block ?_
 obtain⟨a,e,h⟩:=bnd h
 refine Goes.range fol rfl (gf:=105) (first:=[]) (captured:=[.ptr 2 0,.ptr 3 0]) (v:= .tuple []) (A2:=(kA a (kAD a (kF n w [.loop .ready none (ofG 30 [(5,.ptr 1 0)]) qd.xp qd.x1 qd.x2])))) (s':=(ofG 30 [(5,.ptr 1 0),(12,.func (.func 105) [] [.ptr 2 0,.ptr 3 0])],(kA a (kAD a (kF n w [.loop .exhausted none (ofG 30 [(5,.ptr 1 0)]) qd.xp qd.x1 qd.x2]))))) (x:= .normal) (by kernel_rfl) (by kernel_rfl) (qh0 (show(Obl.callH 105 [.yld 4,.ptr 2 0,.ptr 3 0] (kA b (kAD b (kF n w [.loop .ready none (ofG 30 [(5,.ptr 1 0),(12,.func (.func 105) [] [.ptr 2 0,.ptr 3 0])]) qd.xp qd.x1 qd.x2]))) [4,1,0,2,3] (.tuple []) (kA a (kAD a (kF n w [.loop .ready none (ofG 30 [(5,.ptr 1 0)]) qd.xp qd.x1 qd.x2])))).Holds ZT from jc [some 4,some 1,some 0,some 2,some 3] [some 2,some 1,some 3,some 4,some 0] (qbu N b n w e) (.kb rfl (.loop rfl (.kp (.drop .nil))) (.kb rfl (.cells (rc (.slice rfl) rn)) (.ks (.kb rfl (.cells (rc (.same nI) rn)) (.kb rfl (.cells (rc (.same (qj encI _)) rn)) .nil))))) rfl rfl (.back rfl rfl (.same fa) rfl (.back rfl rfl (.cells (rc (.slice rfl) rn)) rfl (.back rfl rfl (.cells (rc (.same nI) rn)) rfl (.back rfl rfl (.cells (rc (.same (qj encI _)) rn)) rfl (.back rfl rfl (.loop rfl (.kp .nil)) rfl .nil))))) (rc (.yld rfl) (rc (.ptr rfl) (rc (.ptr rfl) rn))) (.same (qy.tuple sn)) rfl)) (by kernel_rfl) ?_
 refine Goes.sub (show Sub (ofG 30 [(5,.ptr 1 0),(12,.func (.func 105) [] [.ptr 2 0,.ptr 3 0])],(kA a (kAD a (kF n w [.loop .exhausted none (ofG 30 [(5,.ptr 1 0)]) qd.xp qd.x1 qd.x2])))) (ofG 30 [(5,.ptr 0 0),(12,.func (.func 105) [] [.ptr 2 0,.ptr 3 0])],(.cells [.slice 1 0 a.length a.length 1]::(kA a (kF n w []))))from(Sub.norm [] [some 1,some 0,some 2,some 3] rfl rfl (.kp (.keep (.funcL (sn) (rc (.ptr rfl) (rc (.ptr rfl) rn))) .nil)) (.kb rfl (.cells (rc (.slice rfl) rn)) (.ks (.kb rfl (.same sn) (.kb rfl (.same sn) .nil)))))) ?_
 refine sh fol [(4,.slice 1 0 a.length a.length 1)] ?_
 refine Goes.ret ?_
 obtain rfl:=si h
 exact(gw2 [.slice 1 0 a.length a.length 1] (Ur (Fz.sl (E:=encI) rfl rfl (nl rfl))))
def zY (N:Nat) (n:Int) (w:List Int):Option ((List (List Int))×Int):=
 (zt N n w).bind fun a=>
 if(!decide (a=0))=true then
 some ([],a)
 else
 (qa0 N n w).bind fun c=>
 (qax N c).bind fun b=>
 some (b.1,b.2)
theorem xz (N:Nat) (n:Int) (w:List Int) {res:(List (List Int))×Int} (h:zY N n w=some res):qf ZT (.fn 11) [.i n,vl encI w] [] (.tuple [vl (qc encI) res.1,.i res.2]) []:=by
 unfold zY at h
 refine Ub Tryz.func11 rfl rfl (m:=19) rfl (rs:=[.tmp 4,.tmp 5]) rfl (l:=(kG n w [])) rfl ?_
 refine sh fol (kG n w []) ?_
 refine sq ?_
 obtain⟨a,b,h⟩:=bnd h
 refine sq (gr fol [2] (kG n w [(6,.i a)]) (ac (cv (jG N n w b)) az) ?_)
 refine sh fol (kG n w [(6,.i a),(11,.bool (!decide (a=0)))]) ?_
 refine ihB h (fun f h=>?_) (fun f h=>?_)
 ·refine sh fol ((4,.nilslice)::(kAl a)) ?_
  refine Goes.ret ?_
  obtain rfl:=si h
  exact(gw2 (kAY a) (FzW.tuple (qo.cons (FzW.nilv (E:=(qc encI))) (qo.cons (Ua tI) qo.nil))))
 refine Goes.skip ?_
 obtain⟨g,c,h⟩:=bnd h
 obtain⟨e,d,h⟩:=bnd h
 refine sq (gr fol [2,3] ((4,vl (qc encI) e.1)::(kAl e.2)) (ac (cv (qf0 N n w c)) (ac (cv (qeu N g d)) az)) ?_)
 refine Goes.ret ?_
 obtain rfl:=si h
 exact(gw2 [vl (qc encI) e.1,.i e.2] (FzW.tuple (qo.cons (Ua (zq (qc encI) _ (nl rfl))) (qo.cons (Ua tI) qo.nil))))
def je (a:List Int) (b:List Int):Nat->Int->Option (Unit⊕Bool)
 |0,_=>none
 |K+1,c=>
  if c<(a.length:Int)then
  (idx a c).bind fun d=>
  (idx b c).bind fun e=>
  if(!decide (d=e))=true then
  some (.inr false)
  else
  je a b K (w64 (c+1))
  else
  some (.inl ())
def yo (N:Nat) (a:List Int) (b:List Int):Option Bool:=
 if(!decide ((a.length:Int)=(b.length:Int)))=true then
 some false
 else
 (je a b N 0).bind (fun
 |(.inl ())=>
 some true
 |(.inr c)=>
 some c)
theorem vS (N:Nat) (a:List Int) (b:List Int) {res:Bool} (h:yo N a b=some res):qf ZT (.fn 12) (kAq a b) [] (.bool res) []:=by
 unfold yo at h
 refine Ub Tryz.func12 rfl rfl (m:=26) rfl (rs:=[.tmp 4]) rfl (l:=(kK a b [])) rfl ?_
 refine sh fol (kK a b []) ?_
 refine sq ?_
 refine sh fol (kK a b [(10,.bool (!decide ((a.length:Int)=(b.length:Int))))]) ?_
 refine ihB h (fun j h=>?_) (fun j h=>?_)
 ·refine sh fol kAK ?_
  refine Goes.ret ?_
  obtain rfl:=si h
  exact(gw2 [.bool false] (Ua tB))
 refine Goes.skip ?_
 refine sq ?_
 refine sh fol (kK a b [(5,.i 0)]) ?_
 refine Goes.block ?_
 obtain⟨f,g3,h⟩:=bnd h
 refine Goes.imp (Q:=fun x s'=>(x= .exit 0/\(.inl ())=f/\Sub s' (ofG 26 [],[]))\/(x= .ret/\ ∃g,(.inr g)=f/\jw ZT [.tmp 4] (.bool g) .ret s')) ?_ ?_
 ·refine Uf (fun M s=> ∃(c:Int),s=(ofG 26 (kK a b (kAl c)),[])/\je a b M c=some f) ?_ (m:=N) ⟨_,rfl,g3⟩
  rintro M s ⟨c,rfl,g3⟩
  cases M with
  |zero=>simp only[je]at g3;cases g3
  |succ M=>
   rw[je]at g3
   refine sq ?_
   refine sh fol (kK a b [(5,.i c),(14,.bool (decide (c<(a.length:Int))))]) ?_
   refine ihD g3 (fun k g3=>?_) (fun k g3=>?_)
   ·refine Goes.skip ?_
    refine sq (Goes.block ?_)
    obtain⟨n,d,g3⟩:=bnd g3
    obtain⟨o,e,g3⟩:=bnd g3
    refine sq (gr fol [2,3,6,7] (kK a b [(5,.i c),(25,.bool (!decide (n=o)))]) (ac (iv ja encI d) (ac (lv 0 ce3 encI d rfl) (ac (iv ja encI e) (ac (lv 0 ce3 encI e rfl) az)))) ?_)
    refine ihB g3 (fun p g3=>?_) (fun p g3=>?_)
    ·refine sh fol kAK ?_
     refine Goes.ret ?_
     obtain rfl:=si g3
     exact Or.inr (⟨rfl,_,rfl,(gw2 [.bool false] (Ua tB))⟩)
    refine Goes.skip ?_
    refine gh fol (kK a b (kAl (w64 (c+1)))) ?_
    exact⟨M,(ofG 26 (kK a b (kAl (w64 (c+1)))),[]),Nat.lt_succ_self _,(Sub.refl _),_,rfl,g3⟩
   refine Goes.exit ?_
   obtain rfl:=si g3
   exact Or.inl (⟨rfl,rfl,(Sub.keep [] rfl rfl)⟩)
 rintro x s' (⟨rfl,rfl,hsub⟩|⟨rfl,q,rfl,hret⟩)
 ·try dsimp only at h
  refine Goes.sub hsub ?_
  refine sh fol kAb ?_
  refine Goes.ret ?_
  obtain rfl:=si h
  exact(gw2 [.bool true] (Ua tB))
 try dsimp only at h
 obtain rfl:=si h
 exact hret
def zR (N:Nat) (a:List (List Int)) (b:List (List Int)):Nat->Int->Option (Unit⊕Bool)
 |0,_=>none
 |K+1,c=>
  if c<(a.length:Int)then
  (idx a c).bind fun d=>
  (idx b c).bind fun e=>
  (yo N d e).bind fun f=>
  if(!f)=true then
  some (.inr false)
  else
  zR N a b K (w64 (c+1))
  else
  some (.inl ())
def vL (N:Nat) (a:List (List Int)) (b:List (List Int)):Option Bool:=
 if(!decide ((a.length:Int)=(b.length:Int)))=true then
 some false
 else
 (zR N a b N 0).bind (fun
 |(.inl ())=>
 some true
 |(.inr c)=>
 some c)
theorem xQ (N:Nat) (a:List (List Int)) (b:List (List Int)) {res:Bool} (h:vL N a b=some res):qf ZT (.fn 13) [vl (qc encI) a,vl (qc encI) b] [] (.bool res) []:=by
 unfold vL at h
 refine Ub Tryz.func13 rfl rfl (m:=27) rfl (rs:=[.tmp 4]) rfl (l:=[(0,vl (qc encI) a),(1,vl (qc encI) b)]) rfl ?_
 refine sh fol [(0,vl (qc encI) a),(1,vl (qc encI) b)] ?_
 refine sq ?_
 refine sh fol [(0,vl (qc encI) a),(1,vl (qc encI) b),(10,.bool (!decide ((a.length:Int)=(b.length:Int))))] ?_
 refine ihB h (fun k h=>?_) (fun k h=>?_)
 ·refine sh fol kAK ?_
  refine Goes.ret ?_
  obtain rfl:=si h
  exact(gw2 [.bool false] (Ua tB))
 refine Goes.skip ?_
 refine sq ?_
 refine sh fol [(0,vl (qc encI) a),(1,vl (qc encI) b),(5,.i 0)] ?_
 refine Goes.block ?_
 obtain⟨g,g3,h⟩:=bnd h
 refine Goes.imp (Q:=fun x s'=>(x= .exit 0/\(.inl ())=g/\Sub s' (ofG 27 [],[]))\/(x= .ret/\ ∃j,(.inr j)=g/\jw ZT [.tmp 4] (.bool j) .ret s')) ?_ ?_
 ·refine Uf (fun M s=> ∃(c:Int),s=(ofG 27 ((0,vl (qc encI) a)::(1,vl (qc encI) b)::(kAl c)),[])/\zR N a b M c=some g) ?_ (m:=N) ⟨_,rfl,g3⟩
  rintro M s ⟨c,rfl,g3⟩
  cases M with
  |zero=>simp only[zR]at g3;cases g3
  |succ M=>
   rw[zR]at g3
   refine sq ?_
   refine sh fol [(0,vl (qc encI) a),(1,vl (qc encI) b),(5,.i c),(14,.bool (decide (c<(a.length:Int))))] ?_
   refine ihD g3 (fun n g3=>?_) (fun n g3=>?_)
   ·refine Goes.skip ?_
    refine sq (Goes.block ?_)
    obtain⟨o,d,g3⟩:=bnd g3
    obtain⟨p,e,g3⟩:=bnd g3
    obtain⟨q,f,g3⟩:=bnd g3
    refine sq (gr fol [2,3,6,7,8] [(0,vl (qc encI) a),(1,vl (qc encI) b),(5,.i c),(26,.bool (!q))] (ac (iv qhZ (qc encI) d) (ac (lv 0 qjW (qc encI) d rfl) (ac (iv qhZ (qc encI) e) (ac (lv 0 qjW (qc encI) e rfl) (ac (cv (vS N o p f)) az))))) ?_)
    refine ihB g3 (fun r g3=>?_) (fun r g3=>?_)
    ·refine sh fol kAK ?_
     refine Goes.ret ?_
     obtain rfl:=si g3
     exact Or.inr (⟨rfl,_,rfl,(gw2 [.bool false] (Ua tB))⟩)
    refine Goes.skip ?_
    refine gh fol ((0,vl (qc encI) a)::(1,vl (qc encI) b)::(kAl (w64 (c+1)))) ?_
    exact⟨M,(ofG 27 ((0,vl (qc encI) a)::(1,vl (qc encI) b)::(kAl (w64 (c+1)))),[]),Nat.lt_succ_self _,(Sub.refl _),_,rfl,g3⟩
   refine Goes.exit ?_
   obtain rfl:=si g3
   exact Or.inl (⟨rfl,rfl,(Sub.keep [] rfl rfl)⟩)
 rintro x s' (⟨rfl,rfl,hsub⟩|⟨rfl,t,rfl,hret⟩)
 ·try dsimp only at h
  refine Goes.sub hsub ?_
  refine sh fol kAb ?_
  refine Goes.ret ?_
  obtain rfl:=si h
  exact(gw2 [.bool true] (Ua tB))
 try dsimp only at h
 obtain rfl:=si h
 exact hret
def xD (N:Nat) (n:Int) (p:List Int):Option Int:=
 (qb (!decide ((p.length:Int)=n)) 2).bind fun a=>
 (ve N p).bind fun b=>
 (qh N ([a,b]:List Int)).bind fun c=>
 some c
theorem qdD (N:Nat) (n:Int) (p:List Int) {res:Int} (h:xD N n p=some res):qf ZT (.fn 35) [.i n,vl encI p] [] (.i res) []:=by
 unfold xD at h
 refine Ub Tryz.func35 rfl rfl (m:=14) rfl (rs:=[.tmp 4]) rfl (l:=(kG n p [])) rfl ?_
 refine sh fol (kG n p []) ?_
 obtain⟨d,a,h⟩:=bnd h
 obtain⟨e,b,h⟩:=bnd h
 obtain⟨f,c,h⟩:=bnd h
 refine sq (gq fol [4,6,8] [(4,.i f)] (kT d e) (ac (cv (qa (!decide ((p.length:Int)=n)) 2 a)) (ac (cv (qaP N p b)) (ac (hs (.call 33 [.slice 0 0 2 2 1] (kT d e) [0] [vl encI ([d,e]:List Int)] (.i f)) (qM (FzL.cons (Fz.lit rfl rfl (Uc (AllST.cons tI (AllST.cons tI AllST.nil)))) FzL.nil) (qg N ([d,e]:List Int) c) tI rfl)) az))) ?_)
 refine Goes.ret ?_
 obtain rfl:=si h
 exact(gw2 [.i f] (Ua tI))
def kw (b:List Int):Nat->Int->Option Int
 |0,_=>none
 |K+1,a=>
  (if(w64 (a+1))<(b.length:Int)then
  (zF b a).bind fun c=>
  some (!c)
  else
  some false:Option Bool).bind fun d=>
  if d=true then
  kw b K (w64 (a+1))
  else
  some a
def zn (N:Nat):Nat->(List Int)->(List Int)->Option (List Int)
 |0,_,_=>none
 |K+1,e,a=>
  (kw a N 0).bind fun b=>
  if(w64 (b+1))>=(a.length:Int)then
  some e
  else
  (ku a b).bind fun c=>
  (app 8 e [w64 (b+1)]).bind fun d=>
  zn N K d c
def vO (N:Nat) (p:List Int):Option (List Int):=
 (qcs p).bind fun _=>
 (zn N N ([]:List Int) p).bind fun a=>
 some a
theorem qct (N:Nat) (p:List Int) {res:List Int} (h:vO N p=some res):qf ZT (.fn 36) [vl encI p] [] (vl encI res) []:=by
 unfold vO at h
 refine Ub Tryz.func36 rfl rfl (m:=35) rfl (rs:=[.tmp 2]) rfl (l:=(kQ p [])) rfl ?_
 refine sh fol (kQ p []) ?_
 obtain⟨_,q,h⟩:=bnd h
 refine sq (gq fol [1] (kAn p []) (kA p []) (ac (hs (.callH 72 [vl encI p] [] [] (.gslice 0 p.length 1) (kA p [])) (jc [] [some 0] (qgy p q) .nil rfl rfl (.new rfl rfl (.same fa) rfl .nil) (rc (.same (qj encI _)) rn) (.gslice rfl) rfl)) az) ?_)
 refine sh fol (kAn p [(4,.nilslice)]) ?_
 refine Goes.block ?_
 obtain⟨y,g4,h⟩:=bnd h
 refine Goes.imp (Q:=fun x s'=>(x= .ret/\ ∃z,z=y/\jw ZT [.tmp 2] (vl encI z) .ret s')) ?_ ?_
 ·refine Goes.sub (s':=(ofG 35 [(3,vl encI p),(4,.gslice 0 ([]:List Int).length 1)],[.cells (([]:List Int).flatMap encI.c)])) (Sub.norm [0] [none] rfl rfl (.keep (.frz (Fz.gs (E:=encI) rfl rfl (nl rfl)) (qj encI _)) (.keep .nil .nil)) (.fresh .nil)) ?_
  refine Uf (fun M s=> ∃(b:List Int) (d:List Int),s=(ofG 35 (kV d b []),(kA b []))/\zn N M b d=some y) ?_ (m:=N) ⟨_,_,rfl,g4⟩
  rintro M s ⟨b,d,rfl,g4⟩
  cases M with
  |zero=>simp only[zn]at g4;cases g4
  |succ M=>
   rw[zn]at g4
   refine Goes.block ?_
   refine sh fol (kV d b [(5,.i 0)]) ?_
   refine sq (Goes.block ?_)
   obtain⟨A,g8,g4⟩:=bnd g4
   refine Goes.imp (Q:=fun x s'=>(x= .exit 2/\ ∃f,f=A/\Sub s' (ofG 35 (kV d b (kAl f)),(kA b [])))) ?_ ?_
   ·refine Uf (fun M s=> ∃(g:Int),s=(ofG 35 (kV d b (kAl g)),(kA b []))/\kw d M g=some A) ?_ (m:=N) ⟨_,rfl,g8⟩
    rintro M s ⟨g,rfl,g8⟩
    cases M with
    |zero=>simp only[kw]at g8;cases g8
    |succ M=>
     rw[kw]at g8
     refine sq ?_
     refine sq ?_
     obtain⟨r,a,g8⟩:=bnd g8
     refine Goes.cut (s':=(ofG 35 (kV d b [(5,.i g),(18,.bool r)]),(kA b []))) ?_ ?_
     ·rcases wyD a with⟨t,a⟩|⟨t,a⟩
      ·obtain⟨u,j,a⟩:=bnd a
       obtain rfl:=si a
       exact tr fol [5,8] (kV d b [(5,.i g),(18,.bool (!u))]) (ac (gw t) (ac (cv (jZ d g j)) az))
      obtain rfl:=si a
      exact tr fol [5] (kV d b [(5,.i g),(18,.bool false)]) (ac (gw t) az)
     refine ihB g8 (fun v g8=>?_) (fun v g8=>?_)
     ·refine Goes.skip ?_
      refine Goes.block ?_
      refine gh fol (kV d b (kAl (w64 (g+1)))) ?_
      exact⟨M,(ofG 35 (kV d b (kAl (w64 (g+1)))),(kA b [])),Nat.lt_succ_self _,(Sub.refl _),_,rfl,g8⟩
     refine Goes.exit ?_
     obtain rfl:=si g8
     exact⟨rfl,_,rfl,(Sub.keep [3,4,5] rfl rfl)⟩
   rintro x s' ⟨rfl,f,rfl,hsub⟩
   refine Goes.sub hsub ?_
   refine sq ?_
   refine sh fol (kV d b [(5,.i f),(25,.bool (decide ((w64 (f+1))>=(d.length:Int))))]) ?_
   refine ihD g4 (fun w g4=>?_) (fun w g4=>?_)
   ·refine sh fol [(2,.gslice 0 b.length 1)] ?_
    refine Goes.ret ?_
    obtain rfl:=si g4
    exact⟨rfl,_,rfl,(gw2 [.gslice 0 b.length 1] (Ur (Fz.gs (E:=encI) rfl rfl (nl rfl))))⟩
   refine Goes.skip ?_
   obtain⟨k,n,g4⟩:=bnd g4
   refine sq (gr fol [2] (kV k b (kAl f)) (ac (cv (jN d f n)) az) ?_)
   obtain⟨e,o,g4⟩:=bnd g4
   refine gq fol [4] [(3,vl encI k),(4,.gslice 2 e.length 1)] (.dead:: .cells [.i (w64 (f+1))]::(kA e [])) (ac (hs (.run [0,1] (z8 ZT [22,22] (.gslice 0 b.length 1) (.slice 1 0 1 1 1)) (kA b [.cells [.i (w64 (f+1))]]) (.gslice 2 e.length 1) (.dead:: .cells [.i (w64 (f+1))]::(kA e [])) true) (qac ja (E:=encI) rfl (qey (E:=encI) (ys:=[w64 (f+1)]) rfl rfl rfl rfl) (qfQ (E:=encI) (l:=b) rfl rfl rfl o rfl))) az) ?_
   exact⟨M,(ofG 35 (kV k e []),(kA e [])),Nat.lt_succ_self _,(Sub.norm [] [some 2] rfl rfl (.keep (.same (qj encI _)) (.keep (.gslice rfl) .nil)) (.ks .nil)),_,_,rfl,g4⟩
 rintro x s' ⟨rfl,B,rfl,hret⟩
 obtain rfl:=si h
 exact hret
def qab (N:Nat) (n:Int) (p:List Int):Option ((List Int)×Int):=
 (zQ n).bind fun b=>
 (xD N n p).bind fun c=>
 (qh N ([b,c]:List Int)).bind fun a=>
 if(!decide (a=0))=true then
 some ([],a)
 else
 (vO N p).bind fun d=>
 some (d,0)
theorem qeE (N:Nat) (n:Int) (p:List Int) {res:(List Int)×Int} (h:qab N n p=some res):qf ZT (.fn 14) [.i n,vl encI p] [] (.tuple (kAU res.1 res.2)) []:=by
 unfold qab at h
 refine Ub Tryz.func14 rfl rfl (m:=19) rfl (rs:=[.tmp 4,.tmp 5]) rfl (l:=(kG n p [])) rfl ?_
 refine sh fol (kG n p []) ?_
 refine sq ?_
 obtain⟨f,b,h⟩:=bnd h
 obtain⟨g,c,h⟩:=bnd h
 obtain⟨a,d,h⟩:=bnd h
 refine sq (gq fol [1,4,6] [(1,vl encI p),(6,.i a)] (kT f g) (ac (cv (qan n b)) (ac (cv (qdD N n p c)) (ac (hs (.call 33 [.slice 0 0 2 2 1] (kT f g) [0] [vl encI ([f,g]:List Int)] (.i a)) (qM (FzL.cons (Fz.lit rfl rfl (Uc (AllST.cons tI (AllST.cons tI AllST.nil)))) FzL.nil) (qg N ([f,g]:List Int) d) tI rfl)) az))) ?_)
 refine sh fol [(1,vl encI p),(6,.i a),(15,.bool (!decide (a=0)))] ?_
 refine ihB h (fun k h=>?_) (fun k h=>?_)
 ·refine sh fol ((4,.nilslice)::(kAl a)) ?_
  refine Goes.ret ?_
  obtain rfl:=si h
  exact(gw2 (kAY a) (FzW.tuple (qo.cons (FzW.nilv (E:=encI)) (qo.cons (Ua tI) qo.nil))))
 refine Goes.skip ?_
 obtain⟨j,e,h⟩:=bnd h
 refine sq (gr fol [1] [(4,vl encI j),(5,.i 0)] (ac (cv (qct N p e)) az) ?_)
 refine Goes.ret ?_
 obtain rfl:=si h
 exact(gw2 [vl encI j,.i 0] (FzW.tuple (qo.cons (Ua (zq encI _ (nl rfl))) (qo.cons (Ua tI) qo.nil))))
def jg (n:Int):Nat->(List Int)->Int->Option (List Int)
 |0,_,_=>none
 |K+1,b,a=>
  if a<n then
  (app 8 b [w64 ((w64 (n-1))-a)]).bind fun c=>
  jg n K c (w64 (a+1))
  else
  some b
def xe (N:Nat) (n:Int):Option (List Int):=
 (jg n N ([]:List Int) 0).bind fun a=>
 some a
theorem qdV (N:Nat) (n:Int) {res:List Int} (h:xe N n=some res):qf ZT (.fn 15) [.i n] [] (vl encI res) []:=by
 unfold xe at h
 refine Ub Tryz.func15 rfl rfl (m:=18) rfl (rs:=[.tmp 2]) rfl (l:=[(0,.i n)]) rfl ?_
 refine sh fol [(0,.i n)] ?_
 refine sh fol [(0,.i n),(3,.nilslice)] ?_
 refine sq ?_
 refine sh fol [(0,.i n),(3,.nilslice),(4,.i 0)] ?_
 refine Goes.block ?_
 obtain⟨g,g4,h⟩:=bnd h
 refine Goes.imp (Q:=fun x s'=>(x= .exit 0/\ ∃e,e=g/\Sub s' (ofG 18 (kAn e []),(kA e [])))) ?_ ?_
 ·refine Goes.sub (s':=(ofG 18 [(0,.i n),(3,.gslice 0 ([]:List Int).length 1),(4,.i 0)],[.cells (([]:List Int).flatMap encI.c)])) (Sub.norm [] [none] rfl rfl (.keep (.same nI) (.keep .nil (.keep (.same nI) .nil))) (.fresh .nil)) ?_
  refine Uf (fun M s=> ∃(b:List Int) (a:Int),s=(ofG 18 ((0,.i n)::(kAn b [(4,.i a)])),(kA b []))/\jg n M b a=some g) ?_ (m:=N) ⟨_,_,rfl,g4⟩
  rintro M s ⟨b,a,rfl,g4⟩
  cases M with
  |zero=>simp only[jg]at g4;cases g4
  |succ M=>
   rw[jg]at g4
   refine sq ?_
   refine sh fol ((0,.i n)::(kAn b [(4,.i a),(7,.bool (decide (a<n)))])) ?_
   refine ihD g4 (fun j g4=>?_) (fun j g4=>?_)
   ·refine Goes.skip ?_
    refine sq (Goes.block ?_)
    obtain⟨d,f,g4⟩:=bnd g4
    refine gq fol [6] [(0,.i n),(3,.gslice 2 d.length 1),(4,.i a)] (.dead:: .cells [.i (w64 ((w64 (n-1))-a))]::(kA d [])) (ac (hs (.run [0,1] (z8 ZT [22,22] (.gslice 0 b.length 1) (.slice 1 0 1 1 1)) (kA b [.cells [.i (w64 ((w64 (n-1))-a))]]) (.gslice 2 d.length 1) (.dead:: .cells [.i (w64 ((w64 (n-1))-a))]::(kA d [])) true) (qac ja (E:=encI) rfl (qey (E:=encI) (ys:=[w64 ((w64 (n-1))-a)]) rfl rfl rfl rfl) (qfQ (E:=encI) (l:=b) rfl rfl rfl f rfl))) az) ?_
    refine gh fol [(0,.i n),(3,.gslice 2 d.length 1),(4,.i (w64 (a+1)))] ?_
    exact⟨M,(ofG 18 ((0,.i n)::(kAn d [(4,.i (w64 (a+1)))])),(kA d [])),Nat.lt_succ_self _,(Sub.norm [] [some 2] rfl rfl (.keep (.same nI) (.keep (.gslice rfl) (.keep (.same nI) .nil))) (.ks .nil)),_,_,rfl,g4⟩
   refine Goes.exit ?_
   obtain rfl:=si g4
   exact⟨rfl,_,rfl,(Sub.keep [3] rfl rfl)⟩
 rintro x s' ⟨rfl,e,rfl,hsub⟩
 refine Goes.sub hsub ?_
 refine sh fol [(2,.gslice 0 e.length 1)] ?_
 refine Goes.ret ?_
 obtain rfl:=si h
 exact(gw2 [.gslice 0 e.length 1] (Ur (Fz.gs (E:=encI) rfl rfl (nl rfl))))
def vM (N:Nat) (n:Int) (a:List Int) (b:List Int):Option Int:=
 (zt N n a).bind fun c=>
 (zt N n b).bind fun d=>
 (qh N ([c,d]:List Int)).bind fun e=>
 some e
theorem qa7 (N:Nat) (n:Int) (a:List Int) (b:List Int) {res:Int} (h:vM N n a b=some res):qf ZT (.fn 37) (.i n::(kAq a b)) [] (.i res) []:=by
 unfold vM at h
 refine Ub Tryz.func37 rfl rfl (m:=15) rfl (rs:=[.tmp 6]) rfl (l:=(kG n a [(2,vl encI b)])) rfl ?_
 refine sh fol (kG n a [(2,vl encI b)]) ?_
 obtain⟨f,c,h⟩:=bnd h
 obtain⟨g,d,h⟩:=bnd h
 obtain⟨j,e,h⟩:=bnd h
 refine sq (gq fol [2,5,7] [(6,.i j)] (kT f g) (ac (cv (jG N n a c)) (ac (cv (jG N n b d)) (ac (hs (.call 33 [.slice 0 0 2 2 1] (kT f g) [0] [vl encI ([f,g]:List Int)] (.i j)) (qM (FzL.cons (Fz.lit rfl rfl (Uc (AllST.cons tI (AllST.cons tI AllST.nil)))) FzL.nil) (qg N ([f,g]:List Int) e) tI rfl)) az))) ?_)
 refine Goes.ret ?_
 obtain rfl:=si h
 exact(gw2 [.i j] (Ua tI))
def vw (a:Int):Option (Option (List Int)):=
 ((if a<0 then
 none
 else
 some ():Option Unit)).bind fun _=>
 ((if(w64 (a-(w64 (0-0))))>0 then
 (cut ([]:List Int) 0 0).bind fun e=>
 (qhQ 8 (w64 (a-(w64 (0-0)))) 0).bind fun b=>
 (cut b 0 0).bind fun c=>
 some (some c)
 else
 some (none:Option (List Int)):Option (Option (List Int)))).bind fun d=>
 some d
theorem qcb (a:Int) {j:Option (List Int)} (h:vw a=some j):qf ZT (.fn 74) (kAY a) [] (hsl 0 1 j) (kR j):=by
 unfold vw at h
 refine Un Tryz.func74 rfl rfl (m:=27) rfl (rs:=[.tmp 4]) rfl (l:=[(0,.nilslice),(1,.i a)]) rfl ?_
 intro B hB
 refine sh fol [(0,.nilslice),(1,.i a)] ?_
 refine sq ?_
 refine sh fol [(0,.nilslice),(1,.i a),(6,.bool (decide (a<0)))] ?_
 obtain⟨k,g2,h⟩:=bnd h
 refine Goes.imp (Q:=fun x s'=>(x= .normal/\()=k/\Sub s' (ofG 27 [(0,.nilslice),(1,.i a)],[]))) ?_ ?_
 ·refine ihD g2 (fun n g2=>?_) (fun n g2=>?_)
  ·cases g2
  refine Goes.skip ?_
  obtain rfl:=si g2
  exact⟨rfl,rfl,(Sub.keep [0,1] rfl rfl)⟩
 rintro x s' ⟨rfl,rfl,hsub⟩
 refine Goes.sub hsub ?_
 refine sq ?_
 refine sh fol [(0,.nilslice),(1,.i (w64 (a-(w64 (0-0)))))] ?_
 refine sh fol [(0,.nilslice),(1,.i (w64 (a-(w64 (0-0))))),(16,.bool (decide ((w64 (a-(w64 (0-0))))>0)))] ?_
 obtain⟨o,g5,h⟩:=bnd h
 refine Goes.imp (Q:=fun x s'=>(x= .normal/\ ∃c,c=o/\Sub s' (ofG 27 [(0,hsl 0 1 c)],(kR c)))) ?_ ?_
 ·refine ihD g5 (fun p g5=>?_) (fun p g5=>?_)
  ·obtain⟨q,d,g5⟩:=bnd g5
   obtain⟨e,f,g5⟩:=bnd g5
   obtain⟨g,b,g5⟩:=bnd g5
   refine gq fol [3,5,8] [(0,.oslice 0 g.length 1)] (kA e []) (ac (hs (.done (.opt (yf ZT 22 .nilslice none (some (.i 0)) none)) .nilslice) (qns (α:=Int) ja none (some 0) d)) (ac (hs (.run [] (z8 ZT [22,3] .nilslice (.i (w64 (a-(w64 (0-0)))))) [] (.oslice 0 e.length 1) (kA e []) false) (ql9 ja it3 (E:=encI) rfl (z:=0) (by kernel_rfl) f rfl)) (ac (hs (.done (.opt (yf ZT 22 (.oslice 0 e.length 1) none (some (.i 0)) none)) (.oslice 0 g.length 1)) (sh_os ja b)) az))) ?_
   obtain rfl:=si g5
   exact⟨rfl,_,rfl,((show Sub (ofG 27 [(0,.oslice 0 g.length 1)],(kA e [])) (ofG 27 [(0,.oslice 0 g.length 1)],(kA g []))from(Sub.norm [] [some 0] (by rw[hB];rfl) rfl (.keep (.oslice rfl) .nil) (.kb rfl (xL.cut b) .nil))).trans (Sub.norm [] [some 0] (by rw[hB];rfl) rfl (.keep (zV.hs1 rfl) .nil) (.ks .nil)))⟩
  refine Goes.skip ?_
  obtain rfl:=si g5
  exact⟨rfl,_,rfl,(Sub.norm [] [none] (by rw[hB];rfl) rfl (.keep zV.hs0 .nil) (.fresh .nil))⟩
 rintro x s' ⟨rfl,c,rfl,hsub⟩
 refine Goes.sub hsub ?_
 refine sh fol [(4,hsl 0 1 c)] ?_
 refine Goes.ret ?_
 obtain rfl:=si h
 exact(gh2 [hsl 0 1 c] (qbh.refl _ _))
def qQ (slices:List (List Int)):Nat->Int->Int->Option Int
 |0,_,_=>none
 |K+1,a,b=>
  if a<(slices.length:Int)then
  (((idx slices a).bind fun c=>
  if(w64 (b+(c.length:Int)))<0 then
  none
  else
  some (w64 (b+(c.length:Int))):Option Int)).bind fun d=>
  qQ slices K (w64 (a+1)) d
  else
  some b
def qD (slices:List (List Int)):Nat->(Option (List Int))->Int->Option (Option (List Int))
 |0,_,_=>none
 |K+1,b,a=>
  if a<(slices.length:Int)then
  (idx slices a).bind fun c=>
  ((match b with
  |none=>
  (match c with
  |[]=>
  some (none:Option (List Int))
  |g::xs20=>
  none)
  |some d=>
  (app 8 d c).bind fun e=>
  some (some e)):Option (Option (List Int))).bind fun f=>
  qD slices K f (w64 (a+1))
  else
  some b
def vQ (N:Nat) (slices:List (List Int)):Option (List Int):=
 (qQ slices N 0 0).bind fun c=>
 (vw c).bind fun a=>
 (qD slices N a 0).bind fun b=>
 some (hof b)
theorem qcp (N:Nat) (slices:List (List Int)) {res:List Int} (h:vQ N slices=some res):qf ZT (.fn 38) [vl (qc encI) slices] [] (vl encI res) []:=by
 unfold vQ at h
 refine Ub Tryz.func38 rfl rfl (m:=36) rfl (rs:=[.tmp 2]) rfl (l:=[(0,vl (qc encI) slices)]) rfl ?_
 refine sh fol [(0,vl (qc encI) slices)] ?_
 refine sh fol [(0,vl (qc encI) slices),(3,.i 0)] ?_
 refine sq ?_
 refine sh fol [(0,vl (qc encI) slices),(3,.i 0),(9,vl (qc encI) slices),(10,.i (slices.length:Int)),(11,.i 0)] ?_
 refine Goes.block ?_
 obtain⟨B,g4,h⟩:=bnd h
 refine Goes.imp (Q:=fun x s'=>(x= .exit 0/\ ∃v,v=B/\Sub s' (ofG 36 [(0,vl (qc encI) slices),(3,.i v)],[]))) ?_ ?_
 ·refine Uf (fun M s=> ∃(f:Int) (o:Int),s=(ofG 36 ((0,vl (qc encI) slices)::(3,.i o)::(9,vl (qc encI) slices)::(10,.i (slices.length:Int))::(kAA f)),[])/\qQ slices M f o=some B) ?_ (m:=N) ⟨_,_,rfl,g4⟩
  rintro M s ⟨f,o,rfl,g4⟩
  cases M with
  |zero=>simp only[qQ]at g4;cases g4
  |succ M=>
   rw[qQ]at g4
   refine sh fol [(0,vl (qc encI) slices),(3,.i o),(9,vl (qc encI) slices),(10,.i (slices.length:Int)),(11,.i f),(12,.bool (decide (f<(slices.length:Int))))] ?_
   refine sq ?_
   refine ihD g4 (fun C g4=>?_) (fun C g4=>?_)
   ·refine Goes.skip ?_
    refine sq ?_
    obtain⟨D,g7,g4⟩:=bnd g4
    refine Goes.imp (Q:=fun x s'=>(x= .normal/\ ∃w,w=D/\Sub s' (ofG 36 ((0,vl (qc encI) slices)::(3,.i w)::(9,vl (qc encI) slices)::(10,.i (slices.length:Int))::(kAA f)),[]))) ?_ ?_
    ·refine Goes.block ?_
     obtain⟨z,p,g7⟩:=bnd g7
     refine sq (gr fol [0,1] ((0,vl (qc encI) slices)::(3,.i o)::(5,vl encI z)::(9,vl (qc encI) slices)::(10,.i (slices.length:Int))::(kAA f)) (ac (iv qhZ (qc encI) p) (ac (lv 0 qjW (qc encI) p rfl) az)) ?_)
     refine sh fol ((0,vl (qc encI) slices)::(3,.i (w64 (o+(z.length:Int))))::(9,vl (qc encI) slices)::(10,.i (slices.length:Int))::(kAA f)) ?_
     refine sh fol [(0,vl (qc encI) slices),(3,.i (w64 (o+(z.length:Int)))),(9,vl (qc encI) slices),(10,.i (slices.length:Int)),(11,.i f),(20,.bool (decide ((w64 (o+(z.length:Int)))<0)))] ?_
     refine ihD g7 (fun F g7=>?_) (fun F g7=>?_)
     ·cases g7
     refine Goes.skip ?_
     obtain rfl:=si g7
     exact⟨rfl,_,rfl,(Sub.keep [0,3,9,10,11] rfl rfl)⟩
    rintro x s' ⟨rfl,w,rfl,hsub⟩
    refine Goes.sub hsub ?_
    refine gh fol ((0,vl (qc encI) slices)::(3,.i w)::(9,vl (qc encI) slices)::(10,.i (slices.length:Int))::(kAA (w64 (f+1)))) ?_
    exact⟨M,(ofG 36 ((0,vl (qc encI) slices)::(3,.i w)::(9,vl (qc encI) slices)::(10,.i (slices.length:Int))::(kAA (w64 (f+1)))),[]),Nat.lt_succ_self _,(Sub.refl _),_,_,rfl,g4⟩
   refine Goes.exit ?_
   obtain rfl:=si g4
   exact⟨rfl,_,rfl,(Sub.keep [0,3] rfl rfl)⟩
 rintro x s' ⟨rfl,v,rfl,hsub⟩
 refine Goes.sub hsub ?_
 obtain⟨g,q,h⟩:=bnd h
 refine sq (gq fol [1] [(0,vl (qc encI) slices),(6,hsl 0 1 g)] (kR g) (ac (hs (.callH 74 (kAY v) [] [] (hsl 0 1 g) (kR g)) (jc [] [some 0] (qcb v q) .nil rfl rfl (.new rfl rfl (.same fa) rfl .nil) (rc (.same (qy.nilslice)) (rc (.same nI) rn)) (.hs rfl) rfl)) az) ?_)
 refine sq ?_
 refine sh fol [(6,hsl 0 1 g),(25,vl (qc encI) slices),(26,.i (slices.length:Int)),(27,.i 0)] ?_
 refine Goes.block ?_
 obtain⟨y,g15,h⟩:=bnd h
 refine Goes.imp (Q:=fun x s'=>(x= .exit 2/\ ∃e,e=y/\Sub s' (ofG 36 [(6,hsl 0 1 e)],(kR e)))) ?_ ?_
 ·refine Uf (fun M s=> ∃(d:Option (List Int)) (b:Int),s=(ofG 36 [(6,hsl 0 1 d),(25,vl (qc encI) slices),(26,.i (slices.length:Int)),(27,.i b)],(kR d))/\qD slices M d b=some y) ?_ (m:=N) ⟨_,_,rfl,g15⟩
  rintro M s ⟨d,b,rfl,g15⟩
  cases M with
  |zero=>simp only[qD]at g15;cases g15
  |succ M=>
   rw[qD]at g15
   refine sh fol [(6,hsl 0 1 d),(25,vl (qc encI) slices),(26,.i (slices.length:Int)),(27,.i b),(28,.bool (decide (b<(slices.length:Int))))] ?_
   refine sq ?_
   refine ihD g15 (fun A g15=>?_) (fun A g15=>?_)
   ·refine Goes.skip ?_
    refine sq (Goes.block ?_)
    obtain⟨r,j,g15⟩:=bnd g15
    refine sq (gr fol [0,1] [(6,hsl 0 1 d),(8,vl encI r),(25,vl (qc encI) slices),(26,.i (slices.length:Int)),(27,.i b)] (ac (iv qhZ (qc encI) j) (ac (lv 0 qjW (qc encI) j rfl) az)) ?_)
    obtain⟨k,a,g15⟩:=bnd g15
    refine Goes.cutS (s':=(ofG 36 [(6,hsl 0 1 k),(25,vl (qc encI) slices),(26,.i (slices.length:Int)),(27,.i b)],(kR k))) ?_ ?_
    ·rcases d with _|t
     ·try dsimp only at a
      rcases r with _|⟨G,xs20⟩
      ·try dsimp only at a
       obtain rfl:=si a
       exact qG.sub (qG.rq fol [2] (kAJ [(25,vl (qc encI) slices),(26,.i (slices.length:Int)),(27,.i b)]) [.cells ((hof (none:Option (List Int))).flatMap encI.c)] (ac (hs (.run [] (z8 ZT [22,22] .nilslice (vl encI ([]:List Int))) [.cells ((hof (none:Option (List Int))).flatMap encI.c)] .nilslice [.cells ((hof (none:Option (List Int))).flatMap encI.c)] false) (qm6 ja)) az)) (Sub.norm [] [none] rfl rfl (.keep zV.hs0 (.keep (.same (qj (qc encI) _)) (.keep (.same nI) (.keep (.same nI) .nil)))) (.fresh .nil))
      try dsimp only at a
      cases a
     try dsimp only at a
     obtain⟨n,u,a⟩:=bnd a
     obtain rfl:=si a
     exact qG.sub (qG.rq fol [2] [(6,.oslice 1 n.length 1),(25,vl (qc encI) slices),(26,.i (slices.length:Int)),(27,.i b)] (.dead::(kA n [])) (ac (hs (.run [0] (z8 ZT [22,22] (.oslice 0 t.length 1) (vl encI r)) (kA t []) (.oslice 1 n.length 1) (.dead::(kA n [])) true) (qac ja (E:=encI) rfl (qlI (E:=encI) rfl _) (qmn (E:=encI) (l:=t) rfl rfl rfl u rfl))) az)) (Sub.norm [] [some 1] rfl rfl (.keep (zV.hs1 rfl) (.keep (.same (qj (qc encI) _)) (.keep (.same nI) (.keep (.same nI) .nil)))) (.ks .nil))
    intro _ hsub
    refine Goes.sub hsub ?_
    refine gh fol [(6,hsl 0 1 k),(25,vl (qc encI) slices),(26,.i (slices.length:Int)),(27,.i (w64 (b+1)))] ?_
    exact⟨M,(ofG 36 [(6,hsl 0 1 k),(25,vl (qc encI) slices),(26,.i (slices.length:Int)),(27,.i (w64 (b+1)))],(kR k)),Nat.lt_succ_self _,(Sub.refl _),_,_,rfl,g15⟩
   refine Goes.exit ?_
   obtain rfl:=si g15
   exact⟨rfl,_,rfl,(Sub.keep [6] rfl rfl)⟩
 rintro x s' ⟨rfl,e,rfl,hsub⟩
 refine Goes.sub hsub ?_
 refine sh fol [(2,hsl 0 1 e)] ?_
 refine Goes.ret ?_
 obtain rfl:=si h
 exact(gw2 [hsl 0 1 e] (FzW.hs (E:=encI) rfl rfl (nl rfl)))
def yD (N:Nat) (n:Int) (a:List Int) (b:List Int):Option ((List Int)×Int):=
 (vM N n a b).bind fun c=>
 if(!decide (c=0))=true then
 some ([],c)
 else
 (vQ N ([a,b]:List (List Int))).bind fun e=>
 (yK e).bind fun d=>
 some (d.1,d.2)
theorem qaM (N:Nat) (n:Int) (a:List Int) (b:List Int) {res:(List Int)×Int} (h:yD N n a b=some res):qf ZT (.fn 16) (.i n::(kAq a b)) [] (.tuple (kAU res.1 res.2)) []:=by
 unfold yD at h
 refine Ub Tryz.func16 rfl rfl (m:=23) rfl (rs:=[.tmp 6,.tmp 7]) rfl (l:=(kG n a [(2,vl encI b)])) rfl ?_
 refine sh fol (kG n a [(2,vl encI b)]) ?_
 refine sq ?_
 obtain⟨d,e,h⟩:=bnd h
 refine sq (gr fol [3] [(1,vl encI a),(2,vl encI b),(8,.i d)] (ac (cv (qa7 N n a b e)) az) ?_)
 refine sh fol [(1,vl encI a),(2,vl encI b),(8,.i d),(14,.bool (!decide (d=0)))] ?_
 refine ihB h (fun k h=>?_) (fun k h=>?_)
 ·refine sh fol (kAJ [(7,.i d)]) ?_
  refine Goes.ret ?_
  obtain rfl:=si h
  exact(gw2 (kAY d) (FzW.tuple (qo.cons (FzW.nilv (E:=encI)) (qo.cons (Ua tI) qo.nil))))
 refine Goes.skip ?_
 obtain⟨j,f,h⟩:=bnd h
 obtain⟨c,g,h⟩:=bnd h
 refine sq (gq fol [3,4] (kAS c.1 c.2 []) [.frozen [vl encI a,vl encI b]] (ac (hs (.callF 38 [.slice 0 0 2 2 1] [.cells [vl encI a,vl encI b]] [0] [vl (qc encI) ([a,b]:List (List Int))] (vl encI j)) (qmr (FzL.cons (Fz.lit rfl rfl (Uc (AllST.cons (zq encI _ (nl rfl)) (AllST.cons (zq encI _ (nl rfl)) AllST.nil)))) FzL.nil) (qcp N ([a,b]:List (List Int)) f) (zq encI _ (nl rfl)))) (ac (cv (qbz j g)) az)) ?_)
 refine Goes.sub (show Sub (ofG 23 (kAS c.1 c.2 []),[.frozen [vl encI a,vl encI b]]) (ofG 23 (kAS c.1 c.2 []),[])from(Sub.norm [] [] rfl rfl (.keep (.same (qj encI _)) (.keep (.same nI) .nil)) .nil)) ?_
 refine Goes.ret ?_
 obtain rfl:=si h
 exact(gw2 (kAU c.1 c.2) (FzW.tuple (qo.cons (Ua (zq encI _ (nl rfl))) (qo.cons (Ua tI) qo.nil))))
def zk (b:List Int) (c:List Int):Nat->Int->Option (Unit⊕Bool)
 |0,_=>none
 |K+1,a=>
  if a<(b.length:Int)then
  (idx b a).bind fun d=>
  (idx c a).bind fun e=>
  if(!decide (d=e))=true then
  some (.inr false)
  else
  zk b c K (w64 (a+1))
  else
  some (.inl ())
def vF (N:Nat) (a:List Int) (b:List Int):Option Bool:=
 if(!decide ((a.length:Int)=(b.length:Int)))=true then
 some false
 else
 (zk a b N 0).bind (fun
 |(.inl ())=>
 some true
 |(.inr c)=>
 some c)
theorem qca (N:Nat) (a:List Int) (b:List Int) {res:Bool} (h:vF N a b=some res):qf ZT (.fn 51) (kAq a b) [] (.bool res) []:=by
 unfold vF at h
 refine Ub Tryz.func51 rfl rfl (m:=26) rfl (rs:=[.tmp 4]) rfl (l:=(kK a b [])) rfl ?_
 refine sh fol (kK a b []) ?_
 refine sq ?_
 refine sh fol (kK a b [(10,.bool (!decide ((a.length:Int)=(b.length:Int))))]) ?_
 refine ihB h (fun j h=>?_) (fun j h=>?_)
 ·refine sh fol kAK ?_
  refine Goes.ret ?_
  obtain rfl:=si h
  exact(gw2 [.bool false] (Ua tB))
 refine Goes.skip ?_
 refine sq ?_
 refine sh fol (kK a b [(12,.i (a.length:Int)),(13,.i 0)]) ?_
 refine Goes.block ?_
 obtain⟨f,g3,h⟩:=bnd h
 refine Goes.imp (Q:=fun x s'=>(x= .exit 0/\(.inl ())=f/\Sub s' (ofG 26 [],[]))\/(x= .ret/\ ∃g,(.inr g)=f/\jw ZT [.tmp 4] (.bool g) .ret s')) ?_ ?_
 ·refine Uf (fun M s=> ∃(c:Int),s=(ofG 26 (kK a b (kW (a.length:Int) c [])),[])/\zk a b M c=some f) ?_ (m:=N) ⟨_,rfl,g3⟩
  rintro M s ⟨c,rfl,g3⟩
  cases M with
  |zero=>simp only[zk]at g3;cases g3
  |succ M=>
   rw[zk]at g3
   refine sh fol (kK a b (kW (a.length:Int) c [(14,.bool (decide (c<(a.length:Int))))])) ?_
   refine sq ?_
   refine ihD g3 (fun k g3=>?_) (fun k g3=>?_)
   ·refine Goes.skip ?_
    refine sq (Goes.block ?_)
    refine sh fol (kK a b ((5,.i c)::(kW (a.length:Int) c []))) ?_
    obtain⟨n,d,g3⟩:=bnd g3
    obtain⟨o,e,g3⟩:=bnd g3
    refine sq (gr fol [2,3,6,7] (kK a b (kW (a.length:Int) c [(24,.bool (!decide (n=o)))])) (ac (iv ja encI d) (ac (lv 0 ce3 encI d rfl) (ac (iv ja encI e) (ac (lv 0 ce3 encI e rfl) az)))) ?_)
    refine ihB g3 (fun p g3=>?_) (fun p g3=>?_)
    ·refine sh fol kAK ?_
     refine Goes.ret ?_
     obtain rfl:=si g3
     exact Or.inr (⟨rfl,_,rfl,(gw2 [.bool false] (Ua tB))⟩)
    refine Goes.skip ?_
    refine gh fol (kK a b (kW (a.length:Int) (w64 (c+1)) [])) ?_
    exact⟨M,(ofG 26 (kK a b (kW (a.length:Int) (w64 (c+1)) [])),[]),Nat.lt_succ_self _,(Sub.refl _),_,rfl,g3⟩
   refine Goes.exit ?_
   obtain rfl:=si g3
   exact Or.inl (⟨rfl,rfl,(Sub.keep [] rfl rfl)⟩)
 rintro x s' (⟨rfl,rfl,hsub⟩|⟨rfl,q,rfl,hret⟩)
 ·try dsimp only at h
  refine Goes.sub hsub ?_
  refine sh fol kAb ?_
  refine Goes.ret ?_
  obtain rfl:=si h
  exact(gw2 [.bool true] (Ua tB))
 try dsimp only at h
 obtain rfl:=si h
 exact hret
def qJ (N:Nat) (a:List (List Int)) (b:List (List Int)):Nat->Int->Option (Unit⊕Bool)
 |0,_=>none
 |K+1,c=>
  if c<(a.length:Int)then
  (idx a c).bind fun d=>
  (idx b c).bind fun e=>
  (vF N d e).bind fun f=>
  if(!f)=true then
  some (.inr false)
  else
  qJ N a b K (w64 (c+1))
  else
  some (.inl ())
def zX (N:Nat) (a:List (List Int)) (b:List (List Int)):Option Bool:=
 if(!decide ((a.length:Int)=(b.length:Int)))=true then
 some false
 else
 (qJ N a b N 0).bind (fun
 |(.inl ())=>
 some true
 |(.inr c)=>
 some c)
theorem qbg (N:Nat) (a:List (List Int)) (b:List (List Int)) {res:Bool} (h:zX N a b=some res):qf ZT (.fn 84) [vl (qc encI) a,vl (qc encI) b,.func (.func 51) [] []] [] (.bool res) []:=by
 unfold zX at h
 refine Ub Tryz.func84 rfl rfl (m:=32) rfl (rs:=[.tmp 6]) rfl (l:=[(0,vl (qc encI) a),(1,vl (qc encI) b),(2,.func (.func 51) [] [])]) rfl ?_
 refine sh fol [(0,vl (qc encI) a),(1,vl (qc encI) b),(2,.func (.func 51) [] [])] ?_
 refine sq ?_
 refine sh fol [(0,vl (qc encI) a),(1,vl (qc encI) b),(2,.func (.func 51) [] []),(14,.bool (!decide ((a.length:Int)=(b.length:Int))))] ?_
 refine ihB h (fun o h=>?_) (fun o h=>?_)
 ·refine sh fol [(6,.bool false)] ?_
  refine Goes.ret ?_
  obtain rfl:=si h
  exact(gw2 [.bool false] (Ua tB))
 refine Goes.skip ?_
 refine sq ?_
 refine sh fol [(1,vl (qc encI) b),(2,.func (.func 51) [] []),(15,vl (qc encI) a),(16,.i (a.length:Int)),(17,.i 0)] ?_
 refine Goes.block ?_
 obtain⟨g,g3,h⟩:=bnd h
 refine Goes.imp (Q:=fun x s'=>(x= .exit 0/\(.inl ())=g/\Sub s' (ofG 32 [],[]))\/(x= .ret/\ ∃k,(.inr k)=g/\jw ZT [.tmp 6] (.bool k) .ret s')) ?_ ?_
 ·refine Uf (fun M s=> ∃(c:Int),s=(ofG 32 [(1,vl (qc encI) b),(2,.func (.func 51) [] []),(15,vl (qc encI) a),(16,.i (a.length:Int)),(17,.i c)],[])/\qJ N a b M c=some g) ?_ (m:=N) ⟨_,rfl,g3⟩
  rintro M s ⟨c,rfl,g3⟩
  cases M with
  |zero=>simp only[qJ]at g3;cases g3
  |succ M=>
   rw[qJ]at g3
   refine sh fol [(1,vl (qc encI) b),(2,.func (.func 51) [] []),(15,vl (qc encI) a),(16,.i (a.length:Int)),(17,.i c),(18,.bool (decide (c<(a.length:Int))))] ?_
   refine sq ?_
   refine ihD g3 (fun p g3=>?_) (fun p g3=>?_)
   ·refine Goes.skip ?_
    refine sq (Goes.block ?_)
    obtain⟨j,d,g3⟩:=bnd g3
    refine sq (gr fol [1,2] [(1,vl (qc encI) b),(2,.func (.func 51) [] []),(7,.i c),(8,vl encI j),(15,vl (qc encI) a),(16,.i (a.length:Int)),(17,.i c)] (ac (iv qhZ (qc encI) d) (ac (lv 0 qjW (qc encI) d rfl) az)) ?_)
    obtain⟨n,e,g3⟩:=bnd g3
    refine sq (gr fol [2,3] [(1,vl (qc encI) b),(2,.func (.func 51) [] []),(8,vl encI j),(9,vl encI n),(15,vl (qc encI) a),(16,.i (a.length:Int)),(17,.i c)] (ac (iv qhZ (qc encI) e) (ac (lv 0 qjW (qc encI) e rfl) az)) ?_)
    obtain⟨q,f,g3⟩:=bnd g3
    refine sq (gr fol [3] [(1,vl (qc encI) b),(2,.func (.func 51) [] []),(15,vl (qc encI) a),(16,.i (a.length:Int)),(17,.i c),(30,.bool (!q))] (ac (cv (qca N j n f)) az) ?_)
    refine ihB g3 (fun r g3=>?_) (fun r g3=>?_)
    ·refine sh fol [(6,.bool false)] ?_
     refine Goes.ret ?_
     obtain rfl:=si g3
     exact Or.inr (⟨rfl,_,rfl,(gw2 [.bool false] (Ua tB))⟩)
    refine Goes.skip ?_
    refine gh fol [(1,vl (qc encI) b),(2,.func (.func 51) [] []),(15,vl (qc encI) a),(16,.i (a.length:Int)),(17,.i (w64 (c+1)))] ?_
    exact⟨M,(ofG 32 [(1,vl (qc encI) b),(2,.func (.func 51) [] []),(15,vl (qc encI) a),(16,.i (a.length:Int)),(17,.i (w64 (c+1)))],[]),Nat.lt_succ_self _,(Sub.refl _),_,rfl,g3⟩
   refine Goes.exit ?_
   obtain rfl:=si g3
   exact Or.inl (⟨rfl,rfl,(Sub.keep [] rfl rfl)⟩)
 rintro x s' (⟨rfl,rfl,hsub⟩|⟨rfl,t,rfl,hret⟩)
 ·try dsimp only at h
  refine Goes.sub hsub ?_
  refine sh fol [(6,.bool true)] ?_
  refine Goes.ret ?_
  obtain rfl:=si h
  exact(gw2 [.bool true] (Ua tB))
 try dsimp only at h
 obtain rfl:=si h
 exact hret
def yE (N:Nat) (f:xc) (g:xc):Option Bool:=
 (if f.Half=g.Half then
 (zX N f.Factors g.Factors).bind fun a=>
 some a
 else
 some false:Option Bool).bind fun b=>
 some b
theorem qdx (N:Nat) (f:xc) (g:xc) {res:Bool} (h:yE N f g=some res):qf ZT (.fn 75) [.agg [.i f.Half,vl (qc encI) f.Factors],.agg [.i g.Half,vl (qc encI) g.Factors]] [] (.bool res) []:=by
 unfold yE at h
 refine Ub Tryz.func75 rfl rfl (m:=17) rfl (rs:=[.tmp 4]) rfl (l:=[(0,.agg [.i f.Half,vl (qc encI) f.Factors]),(1,.agg [.i g.Half,vl (qc encI) g.Factors])]) rfl ?_
 refine sg fol [(2,.ptr 0 0),(3,.ptr 1 0)] [.cells [.i f.Half,vl (qc encI) f.Factors],.cells [.i g.Half,vl (qc encI) g.Factors]] ?_
 refine sq ?_
 obtain⟨d,a,h⟩:=bnd h
 refine Goes.cut (s':=(ofG 17 (kAg d),[.cells [.i f.Half,vl (qc encI) f.Factors],.cells [.i g.Half,vl (qc encI) g.Factors]])) ?_ ?_
 ·rcases wyD a with⟨c,a⟩|⟨c,a⟩
  ·obtain⟨e,b,a⟩:=bnd a
   obtain rfl:=si a
   exact tr fol [5,10] (kAg e) (ac (gw c) (ac (hs (.call 84 [vl (qc encI) f.Factors,vl (qc encI) g.Factors,.func (.func 51) [] []] [] [] [vl (qc encI) f.Factors,vl (qc encI) g.Factors,.func (.func 51) [] []] (.bool e)) (qiW (FzL.cons (Uv (zq (qc encI) _ (nl rfl))) (FzL.cons (Uv (zq (qc encI) _ (nl rfl))) (FzL.cons (Fz.func FzL.nil FzL.nil) FzL.nil))) (qbg N f.Factors g.Factors b) tB)) az))
  obtain rfl:=si a
  exact tr fol [5] kAK (ac (gw c) az)
 refine Goes.ret ?_
 obtain rfl:=si h
 exact(gw2 [.bool d] (Ua tB))
def qbm (N:Nat) (n:Int) (a:List Int) (b:List Int):Option Bool:=
 (qX N n a).bind fun c=>
 (qX N n b).bind fun d=>
 (yE N c d).bind fun e=>
 some e
theorem qfu (N:Nat) (n:Int) (a:List Int) (b:List Int) {res:Bool} (h:qbm N n a b=some res):qf ZT (.fn 39) (.i n::(kAq a b)) [] (.bool res) []:=by
 unfold qbm at h
 refine Ub Tryz.func39 rfl rfl (m:=14) rfl (rs:=[.tmp 6]) rfl (l:=(kG n a [(2,vl encI b)])) rfl ?_
 refine sh fol (kG n a [(2,vl encI b)]) ?_
 obtain⟨g,c,h⟩:=bnd h
 obtain⟨j,d,h⟩:=bnd h
 obtain⟨f,e,h⟩:=bnd h
 refine sq (gr fol [2,5,6] [(6,.bool f)] (ac (cv (qaN N n a c)) (ac (cv (qaN N n b d)) (ac (cv (qdx N g j e)) az))) ?_)
 refine Goes.ret ?_
 obtain rfl:=si h
 exact(gw2 [.bool f] (Ua tB))
def qaC (N:Nat) (n:Int) (a:List Int) (b:List Int):Option (Bool×Int):=
 (vM N n a b).bind fun c=>
 if(!decide (c=0))=true then
 some (false,c)
 else
 (qbm N n a b).bind fun d=>
 some (d,0)
theorem qfn (N:Nat) (n:Int) (a:List Int) (b:List Int) {res:Bool×Int} (h:qaC N n a b=some res):qf ZT (.fn 17) (.i n::(kAq a b)) [] (.tuple [.bool res.1,.i res.2]) []:=by
 unfold qaC at h
 refine Ub Tryz.func17 rfl rfl (m:=20) rfl (rs:=[.tmp 6,.tmp 7]) rfl (l:=(kG n a [(2,vl encI b)])) rfl ?_
 refine sh fol (kG n a [(2,vl encI b)]) ?_
 refine sq ?_
 obtain⟨c,d,h⟩:=bnd h
 refine sq (gr fol [3] (kG n a [(2,vl encI b),(8,.i c)]) (ac (cv (qa7 N n a b d)) az) ?_)
 refine sh fol (kG n a [(2,vl encI b),(8,.i c),(14,.bool (!decide (c=0)))]) ?_
 refine ihB h (fun g h=>?_) (fun g h=>?_)
 ·refine sh fol [(6,.bool false),(7,.i c)] ?_
  refine Goes.ret ?_
  obtain rfl:=si h
  exact(gw2 [.bool false,.i c] (FzW.tuple (qo.cons (Ua tB) (qo.cons (Ua tI) qo.nil))))
 refine Goes.skip ?_
 obtain⟨f,e,h⟩:=bnd h
 refine sq (gr fol [3] [(6,.bool f),(7,.i 0)] (ac (cv (qfu N n a b e)) az) ?_)
 refine Goes.ret ?_
 obtain rfl:=si h
 exact(gw2 [.bool f,.i 0] (FzW.tuple (qo.cons (Ua tB) (qo.cons (Ua tI) qo.nil))))
def jd (w:List Int):Nat->Int->Int->Option Int
 |0,_,_=>none
 |K+1,b,a=>
  if a<(w.length:Int)then
  (idx w a).bind fun c=>
  (zS c).bind fun d=>
  jd w K (w64 (b+d)) (w64 (a+1))
  else
  some b
def qaa (N:Nat) (w:List Int):Option Int:=
 (jd w N 0 0).bind fun a=>
 some a
theorem qdH (N:Nat) (w:List Int) {res:Int} (h:qaa N w=some res):qf ZT (.fn 40) [vl encI w] [] (.i res) []:=by
 unfold qaa at h
 refine Ub Tryz.func40 rfl rfl (m:=18) rfl (rs:=[.tmp 2]) rfl (l:=(kQ w [])) rfl ?_
 refine sh fol (kQ w []) ?_
 refine sh fol (kQ w [(3,.i 0)]) ?_
 refine sq ?_
 refine sh fol ((3,.i 0)::(kAS w (w.length:Int) [(8,.i 0)])) ?_
 refine Goes.block ?_
 obtain⟨g,g4,h⟩:=bnd h
 refine Goes.imp (Q:=fun x s'=>(x= .exit 0/\ ∃d,d=g/\Sub s' (ofG 18 [(3,.i d)],[]))) ?_ ?_
 ·refine Uf (fun M s=> ∃(b:Int) (a:Int),s=(ofG 18 ((3,.i b)::(kAS w (w.length:Int) [(8,.i a)])),[])/\jd w M b a=some g) ?_ (m:=N) ⟨_,_,rfl,g4⟩
  rintro M s ⟨b,a,rfl,g4⟩
  cases M with
  |zero=>simp only[jd]at g4;cases g4
  |succ M=>
   rw[jd]at g4
   refine sh fol ((3,.i b)::(kAS w (w.length:Int) [(8,.i a),(9,.bool (decide (a<(w.length:Int))))])) ?_
   refine sq ?_
   refine ihD g4 (fun k g4=>?_) (fun k g4=>?_)
   ·refine Goes.skip ?_
    refine sq (Goes.block ?_)
    obtain⟨j,c,g4⟩:=bnd g4
    refine sq (gr fol [0,1] ((3,.i b)::(5,.i j)::(kAS w (w.length:Int) [(8,.i a)])) (ac (iv ja encI c) (ac (lv 0 ce3 encI c rfl) az)) ?_)
    obtain⟨f,e,g4⟩:=bnd g4
    refine gr fol [2] ((3,.i (w64 (b+f)))::(kAS w (w.length:Int) [(8,.i a)])) (ac (cv (zK j e)) az) ?_
    refine gh fol ((3,.i (w64 (b+f)))::(kAS w (w.length:Int) [(8,.i (w64 (a+1)))])) ?_
    exact⟨M,(ofG 18 ((3,.i (w64 (b+f)))::(kAS w (w.length:Int) [(8,.i (w64 (a+1)))])),[]),Nat.lt_succ_self _,(Sub.refl _),_,_,rfl,g4⟩
   refine Goes.exit ?_
   obtain rfl:=si g4
   exact⟨rfl,_,rfl,(Sub.keep [3] rfl rfl)⟩
 rintro x s' ⟨rfl,d,rfl,hsub⟩
 refine Goes.sub hsub ?_
 refine sh fol [(2,.i d)] ?_
 refine Goes.ret ?_
 obtain rfl:=si h
 exact(gw2 [.i d] (Ua tI))
def jJ (N:Nat) (n:Int) (w:List Int):Option (Int×Int):=
 (zt N n w).bind fun a=>
 if(!decide (a=0))=true then
 some (0,a)
 else
 (qaa N w).bind fun b=>
 some (b,0)
theorem qbl (N:Nat) (n:Int) (w:List Int) {res:Int×Int} (h:jJ N n w=some res):qf ZT (.fn 19) [.i n,vl encI w] [] (.tuple [.i res.1,.i res.2]) []:=by
 unfold jJ at h
 refine Ub Tryz.func19 rfl rfl (m:=15) rfl (rs:=[.tmp 4,.tmp 5]) rfl (l:=(kG n w [])) rfl ?_
 refine sh fol (kG n w []) ?_
 refine sq ?_
 obtain⟨a,b,h⟩:=bnd h
 refine sq (gr fol [2] [(1,vl encI w),(6,.i a)] (ac (cv (jG N n w b)) az) ?_)
 refine sh fol [(1,vl encI w),(6,.i a),(11,.bool (!decide (a=0)))] ?_
 refine ihB h (fun e h=>?_) (fun e h=>?_)
 ·refine sh fol ((4,.i 0)::(kAl a)) ?_
  refine Goes.ret ?_
  obtain rfl:=si h
  exact(gw2 [.i 0,.i a] (FzW.tuple (qo.cons (Ua tI) (qo.cons (Ua tI) qo.nil))))
 refine Goes.skip ?_
 obtain⟨d,c,h⟩:=bnd h
 refine sq (gr fol [1] [(4,.i d),(5,.i 0)] (ac (cv (qdH N w c)) az) ?_)
 refine Goes.ret ?_
 obtain rfl:=si h
 exact(gw2 [.i d,.i 0] (FzW.tuple (qo.cons (Ua tI) (qo.cons (Ua tI) qo.nil))))
end Go.Av
