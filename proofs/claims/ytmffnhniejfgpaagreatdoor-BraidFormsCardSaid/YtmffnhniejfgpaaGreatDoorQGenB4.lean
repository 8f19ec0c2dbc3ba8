/-
  Walks of functions: what each computes, as a plain function.
-/
import Derived.Test.YtmffnhniejfgpaaGreatDoorQGenB3
noncomputable section
namespace Go.Av
open Go.Proofs Go.RowKit
set_option linter.unusedSectionVars false
set_option linter.unusedVariables false
set_option linter.unusedSimpArgs false
set_option maxRecDepth 100000
def qx (N:Nat) (a:List (List Int)):Nat->(List (List Int))->Int->Option (List (List Int))
 |0,_,_=>none
 |K+1,c,b=>
  if b<(a.length:Int)then
  (idx a b).bind fun d=>
  (zH N d).bind fun e=>
  (app 24 c [e]).bind fun f=>
  qx N a K f (w64 (b+1))
  else
  some c
def za (N:Nat) (a:List (List Int)):Option (List (List Int)):=
 (qx N a N ([]:List (List Int)) 0).bind fun b=>
 some b
theorem xh (N:Nat) (a:List (List Int)) {o:List (List Int)} (h:za N a=some o):qb ZT (.fn 135) [.gslice 0 a.length 1,.func (.func 136) [] []] [.cells (a.flatMap (qa encI).c)] (.gslice 1 o.length 1) [.cells (a.flatMap (qa encI).c),.cells (o.flatMap (qa encI).c)]:=by
 unfold za at h
 refine Uq Tryz.func135 rfl rfl (m:=22) rfl (rs:=[.tmp 4]) rfl (l:=(kS a [(1,.func (.func 136) [] [])])) rfl ?_
 intro B hB
 refine sh fol (kS a [(1,.func (.func 136) [] [])]) ?_
 refine sh fol (kS a [(1,.func (.func 136) [] []),(5,.nilslice)]) ?_
 refine sq ?_
 refine sh fol ((1,.func (.func 136) [] [])::(5,.nilslice)::(kAo a (a.length:Int) [(10,.i 0)])) ?_
 refine Goes.block ?_
 obtain⟨q,g5,h⟩:=bnd h
 refine Goes.imp (Q:=fun x s'=>(x= .exit 0/\ ∃g,g=q/\Sub s' (ofG 22 (kAv g []),[.cells (a.flatMap (qa encI).c),.cells (g.flatMap (qa encI).c)]))) ?_ ?_
 ·refine Goes.sub (s':=(ofG 22 ((1,.func (.func 136) [] [])::(5,.gslice 1 ([]:List (List Int)).length 1)::(kAo a (a.length:Int) [(10,.i 0)])),[.cells (a.flatMap (qa encI).c),.cells (([]:List (List Int)).flatMap (qa encI).c)])) (Sub.norm [] [some 0,none] (by rw[hB];rfl) rfl (.keep (.same (qg.func sn sn)) (.keep .nil (.keep (.gslice rfl) (.keep (.same nI) (.keep (.same nI) .nil))))) (.ks (.fresh .nil))) ?_
  refine Uc (fun M s=> ∃(d:List (List Int)) (b:Int),s=(ofG 22 ((1,.func (.func 136) [] [])::(kAv d (kAo a (a.length:Int) (kBF b)))),[.cells (a.flatMap (qa encI).c),.cells (d.flatMap (qa encI).c)])/\qx N a M d b=some q) ?_ (m:=N) ⟨_,_,rfl,g5⟩
  rintro M s ⟨d,b,rfl,g5⟩
  cases M with
  |zero=>simp only[qx]at g5;cases g5
  |succ M=>
   rw[qx]at g5
   refine sh fol ((1,.func (.func 136) [] [])::(kAv d (kAo a (a.length:Int) ((10,.i b)::(kBC (decide (b<(a.length:Int)))))))) ?_
   refine sq ?_
   refine ihD g5 (fun r g5=>?_) (fun r g5=>?_)
   ·refine Goes.skip ?_
    refine sq (Goes.block ?_)
    obtain⟨p,e,g5⟩:=bnd g5
    refine sq (gr fol [0,1] ((1,.func (.func 136) [] [])::(kAv d ((7,vl encI p)::(kAo a (a.length:Int) (kBF b))))) (ac (hs (.done (.opt (qc ZT 162 (.gslice 0 a.length 1) (.i b))) (.ptr 0 ((b:Int).toNat*1+0))) (jB qaE e)) (ac (hs (.run [0] (zF ZT 93 (.ptr 0 ((b:Int).toNat*1+0))) [.cells (a.flatMap (qa encI).c),.cells (d.flatMap (qa encI).c)] (vl encI p) [.cells (a.flatMap (qa encI).c),.cells (d.flatMap (qa encI).c)] false) (xI qf5 (E:=(qa encI)) (l:=a) rfl rfl e (nl rfl) rfl)) az)) ?_)
    obtain⟨n,j,g5⟩:=bnd g5
    obtain⟨f,k,g5⟩:=bnd g5
    refine gq fol [3,5] ((1,.func (.func 136) [] [])::(5,.gslice 3 f.length 1)::(kAo a (a.length:Int) (kBF b))) (.cells (a.flatMap (qa encI).c):: .dead::(kAm n [.cells (f.flatMap (qa encI).c)])) (ac (cv (xH N p j)) (ac (hs (.run [1,2] (vo ZT [162,162] (.gslice 1 d.length 1) (.slice 2 0 1 1 1)) (.cells (a.flatMap (qa encI).c):: .cells (d.flatMap (qa encI).c)::(kAm n [])) (.gslice 3 f.length 1) (.cells (a.flatMap (qa encI).c):: .dead::(kAm n [.cells (f.flatMap (qa encI).c)])) true) (xn qaE (E:=(qa encI)) rfl (qbR (E:=(qa encI)) (ys:=[n]) rfl rfl rfl rfl) (qbS (E:=(qa encI)) (l:=d) rfl rfl rfl k rfl))) az)) ?_
    refine gh fol ((1,.func (.func 136) [] [])::(5,.gslice 3 f.length 1)::(kAo a (a.length:Int) (kBF (w64 (b+1))))) ?_
    exact⟨M,(ofG 22 ((1,.func (.func 136) [] [])::(kAv f (kAo a (a.length:Int) (kBF (w64 (b+1)))))),[.cells (a.flatMap (qa encI).c),.cells (f.flatMap (qa encI).c)]),Nat.lt_succ_self _,(Sub.norm [] [some 0,some 3] (by rw[hB];rfl) rfl (.keep (.same (qg.func sn sn)) (.keep (.gslice rfl) (.keep (.gslice rfl) (.keep (.same nI) (.keep (.same nI) .nil))))) (.ks (.ks .nil))),_,_,rfl,g5⟩
   refine Goes.exit ?_
   obtain rfl:=si g5
   exact⟨rfl,_,rfl,(Sub.keep [5] rfl rfl)⟩
 rintro x s' ⟨rfl,g,rfl,hsub⟩
 refine Goes.sub hsub ?_
 refine sh fol (kAn g []) ?_
 refine Goes.ret ?_
 obtain rfl:=si h
 exact(gh2 [.gslice 1 g.length 1] (xY.refl _ _))
def zW (N:Nat) (a:Int) (b:List (List Int)):Option ((List (List Int))×Bool):=
 (idx b a).bind fun g=>
 (idx b (w64 (a+1))).bind fun h=>
 (jV N g h).bind fun d=>
 ((if d.2=true then
 (ze N g d.1).bind fun i=>
 (qU h d.1).bind fun e=>
 (put b a i).bind fun c=>
 (idx c (w64 (a+1))).bind fun j=>
 (put c (w64 (a+1)) e).bind fun f=>
 some f
 else
 some b:Option (List (List Int)))).bind fun k=>
 some (k,d.2)
theorem qaY (N:Nat) (b:Int) (a:List (List Int)) {w:List (List Int)} {z:Bool} (h:zW N b a=some (w,z)):qb ZT (.fn 182) [.i b,.ptr 0 0] (kAF a [.cells (a.flatMap (qa encI).c)]) (.bool z) (kAF w [.cells (w.flatMap (qa encI).c)]):=by
 unfold zW at h
 refine Uq Tryz.func182 rfl rfl (m:=41) rfl (rs:=[.tmp 3]) rfl (l:=[(0,.i b),(1,.ptr 0 0)]) rfl ?_
 intro B hB
 refine sh fol [(0,.i b),(1,.ptr 0 0)] ?_
 obtain⟨t,d,h⟩:=bnd h
 obtain⟨u,e,h⟩:=bnd h
 obtain⟨f,q,h⟩:=bnd h
 refine sq (gr fol [2,3,7,8,9] [(0,.i b),(1,.ptr 0 0),(4,.i f.1),(5,.bool f.2)] (ac (hs (.done (.opt (qc ZT 162 (.gslice 1 a.length 1) (.i b))) (.ptr 1 ((b:Int).toNat*1+0))) (jB qaE d)) (ac (hs (.run [1] (zF ZT 93 (.ptr 1 ((b:Int).toNat*1+0))) (kAF a [.cells (a.flatMap (qa encI).c)]) (vl encI t) (kAF a [.cells (a.flatMap (qa encI).c)]) false) (xI qf5 (E:=(qa encI)) (l:=a) rfl rfl d (nl rfl) rfl)) (ac (hs (.done (.opt (qc ZT 162 (.gslice 1 a.length 1) (.i (w64 (b+1))))) (.ptr 1 ((w64 (b+1):Int).toNat*1+0))) (jB qaE e)) (ac (hs (.run [1] (zF ZT 93 (.ptr 1 ((w64 (b+1):Int).toNat*1+0))) (kAF a [.cells (a.flatMap (qa encI).c)]) (vl encI u) (kAF a [.cells (a.flatMap (qa encI).c)]) false) (xI qf5 (E:=(qa encI)) (l:=a) rfl rfl e (nl rfl) rfl)) (ac (cv (qbL N t u q)) az))))) ?_)
 refine sq ?_
 refine sh fol [(0,.i b),(1,.ptr 0 0),(4,.i f.1),(5,.bool f.2),(19,.bool f.2)] ?_
 obtain⟨C,g7,h⟩:=bnd h
 refine Goes.imp (Q:=fun x s'=>(x= .normal/\ ∃v,v=C/\Sub s' (ofG 41 [(5,.bool f.2)],(kAF v [.cells (v.flatMap (qa encI).c)])))) ?_ ?_
 ·refine ihB g7 (fun D g7=>?_) (fun D g7=>?_)
  ·obtain⟨A,r,g7⟩:=bnd g7
   obtain⟨s,n,g7⟩:=bnd g7
   obtain⟨o,g,g7⟩:=bnd g7
   obtain⟨F,p,g7⟩:=bnd g7
   obtain⟨j,k,g7⟩:=bnd g7
   refine gq fol [7,8,10,14,15,17,18,19,20,21] [(5,.bool f.2)] (kAF a [.cells (j.flatMap (qa encI).c)]) (ac (hs (.done (.opt (qc ZT 162 (.gslice 1 a.length 1) (.i b))) (.ptr 1 ((b:Int).toNat*1+0))) (jB qaE d)) (ac (hs (.run [1] (zF ZT 93 (.ptr 1 ((b:Int).toNat*1+0))) (kAF a [.cells (a.flatMap (qa encI).c)]) (vl encI t) (kAF a [.cells (a.flatMap (qa encI).c)]) false) (xI qf5 (E:=(qa encI)) (l:=a) rfl rfl d (nl rfl) rfl)) (ac (cv (yc N t f.1 r)) (ac (hs (.done (.opt (qc ZT 162 (.gslice 1 a.length 1) (.i (w64 (b+1))))) (.ptr 1 ((w64 (b+1):Int).toNat*1+0))) (jB qaE e)) (ac (hs (.run [1] (zF ZT 93 (.ptr 1 ((w64 (b+1):Int).toNat*1+0))) (kAF a [.cells (a.flatMap (qa encI).c)]) (vl encI u) (kAF a [.cells (a.flatMap (qa encI).c)]) false) (xI qf5 (E:=(qa encI)) (l:=a) rfl rfl e (nl rfl) rfl)) (ac (cv (jC u f.1 n)) (ac (hs (.done (.opt (qc ZT 162 (.gslice 1 a.length 1) (.i b))) (.ptr 1 ((b:Int).toNat*1+0))) (jB qaE d)) (ac (hs (.run [1] (jy ZT 93 (.ptr 1 ((b:Int).toNat*1+0)) (vl encI A)) (kAF a [.cells (a.flatMap (qa encI).c)]) .undef (kAF a [.cells (o.flatMap (qa encI).c)]) true) (xc (E:=(qa encI)) (l:=a) (y:=A) rfl (show _=some 1 by kernel_rfl) rfl d rfl rfl rfl rfl rfl g rfl)) (ac (hs (.done (.opt (qc ZT 162 (.gslice 1 a.length 1) (.i (w64 (b+1))))) (.ptr 1 ((w64 (b+1):Int).toNat*1+0))) (jB qaE e)) (ac (hs (.run [1] (jy ZT 93 (.ptr 1 ((w64 (b+1):Int).toNat*1+0)) (vl encI s)) (kAF a [.cells (o.flatMap (qa encI).c)]) .undef (kAF a [.cells (j.flatMap (qa encI).c)]) true) (xc (E:=(qa encI)) (l:=o) (y:=s) rfl (show _=some 1 by kernel_rfl) rfl p rfl rfl rfl rfl rfl k rfl)) az)))))))))) ?_
   obtain rfl:=si g7
   exact⟨rfl,_,rfl,((show Sub (ofG 41 [(5,.bool f.2)],(kAF a [.cells (j.flatMap (qa encI).c)])) (ofG 41 [(5,.bool f.2)],(kAF j [.cells (j.flatMap (qa encI).c)]))from(Sub.norm [] [some 0,some 1] (by rw[hB];rfl) rfl (.keep (.same nB) .nil) (.kb rfl (.cells (rc (.gsliceE rfl ((ve g).trans (ve k))) rn)) (.ks .nil)))).trans (Sub.refl _))⟩
  refine Goes.skip ?_
  obtain rfl:=si g7
  exact⟨rfl,_,rfl,(Sub.keep [5] rfl rfl)⟩
 rintro x s' ⟨rfl,v,rfl,hsub⟩
 refine Goes.sub hsub ?_
 refine sh fol [(3,.bool f.2)] ?_
 refine Goes.ret ?_
 simp only[ZI,ZP]at h
 obtain⟨rfl,rfl⟩:=h
 exact(gh2 [.bool f.2] (xY.refl _ _))
def zm (N:Nat) (e:Int):Nat->(List (List Int))->Bool->Option ((List (List Int))×Bool)
 |0,_,_=>none
 |K+1,b,c=>
  (zW N e b).bind fun(a,d)=>
  ((if b.length=a.length then some ()else none:Option Unit)).bind fun f=>
  if d=true then
  zm N e K a true
  else
  some (a,c)
def zo (N:Nat):Nat->(List (List Int))->Int->Option (List (List Int))
 |0,_,_=>none
 |K+1,c,a=>
  if(w64 (a+1))<(c.length:Int)then
  (((zm N a N c false).bind fun(b,d)=>
  (if d=true then
  some (decide (a>0))
  else
  some false:Option Bool).bind fun e=>
  if e=true then
  some (b,w64 (a-1))
  else
  some (b,w64 (a+1)):Option ((List (List Int))×Int))).bind fun(f,g)=>
  zo N K f g
  else
  some c
def vL (N:Nat) (a:List (List Int)):Option (List (List Int)):=
 (zo N N a 0).bind fun b=>
 some b
theorem qbB (N:Nat) (f:List (List Int)) {C:List (List Int)} (h:vL N f=some C):qb ZT (.fn 138) [.gslice 0 f.length 1] [.cells (f.flatMap (qa encI).c)] (.tuple []) [.cells (C.flatMap (qa encI).c)]:=by
 unfold vL at h
 refine Uq Tryz.func138 rfl rfl (m:=23) rfl (rs:=[]) rfl (l:=(kS f [])) rfl ?_
 intro B hB
 refine Goes.subQ ?_
 refine sg fol (kA3 []) (.cells (f.flatMap (qa encI).c)::(kAN f)) ?_
 refine Goes.scope ?_
 refine sh fol (kA3 [(2,.func (.func 182) [] [.ptr 1 0])]) ?_
 refine sq (Goes.label ?_)
 refine sh fol (kA3 [(2,.func (.func 182) [] [.ptr 1 0]),(3,.i 0)]) ?_
 refine Goes.block ?_
 obtain⟨D,g5,h⟩:=bnd h
 refine Goes.imp (Q:=fun x s'=>(x= .exit 0/\ ∃v,v=D/\Sub s' (ofG 23 [],[.cells (v.flatMap (qa encI).c)]))) ?_ ?_
 ·refine Uc (fun M s=> ∃(r:List (List Int)) (b:Int),s=(ofG 23 (kA3 ((2,.func (.func 182) [] [.ptr 1 0])::(kAy b))),(.cells (r.flatMap (qa encI).c)::(kAN r)))/\zo N M r b=some D) ?_ (m:=N) ⟨_,_,rfl,g5⟩
  rintro M s ⟨r,b,rfl,g5⟩
  cases M with
  |zero=>simp only[zo]at g5;cases g5
  |succ M=>
   rw[zo]at g5
   refine sq ?_
   refine sh fol (kA3 ((2,.func (.func 182) [] [.ptr 1 0])::(3,.i b)::(kAq (decide ((w64 (b+1))<(r.length:Int)))))) ?_
   refine ihD g5 (fun E g5=>?_) (fun E g5=>?_)
   ·refine Goes.skip ?_
    obtain⟨F,g9,g5⟩:=bnd g5
    refine Goes.imp (Q:=fun x s'=>(x= .normal/\ ∃q u,(q,u)=F/\Sub s' (ofG 23 (kA3 ((2,.func (.func 182) [] [.ptr 1 0])::(kAy u))),(.cells (q.flatMap (qa encI).c)::(kAN q))))) ?_ ?_
    ·refine Goes.block ?_
     refine sh fol (kA3 ((2,.func (.func 182) [] [.ptr 1 0])::(3,.i b)::kAA)) ?_
     refine sq (Goes.block ?_)
     obtain⟨t,g14,g9⟩:=bnd g9
     refine Goes.imp (Q:=fun x s'=>(x= .exit 2/\ ∃g n,(g,n)=t/\Sub s' (ofG 23 (kA3 ((2,.func (.func 182) [] [.ptr 1 0])::(3,.i b)::(kAa n))),(.cells (g.flatMap (qa encI).c)::(kAN g))))) ?_ ?_
     ·refine Uc (fun M s=> ∃(e:List (List Int)) (j:Bool),s=(ofG 23 (kA3 ((2,.func (.func 182) [] [.ptr 1 0])::(3,.i b)::(kAa j))),(.cells (e.flatMap (qa encI).c)::(kAN e)))/\zm N b M e j=some t) ?_ (m:=N) ⟨_,_,rfl,g14⟩
      rintro M s ⟨e,j,rfl,g14⟩
      cases M with
      |zero=>simp only[zm]at g14;cases g14
      |succ M=>
       rw[zm]at g14
       refine sq ?_
       obtain⟨⟨d,k⟩,o,g14⟩:=bnd g14
       try dsimp only at g14
       obtain⟨G,w,g14⟩:=bnd g14
       refine sq (gq fol [2] (kA3 [(2,.func (.func 182) [] [.ptr 1 0]),(3,.i b),(4,.bool j),(13,.bool k)]) (.cells (d.flatMap (qa encI).c)::(kAN d)) (ac (hs (.callH 182 [.i b,.ptr 1 0] (.cells (e.flatMap (qa encI).c)::(kAN e)) [1,0] (.bool k) (.cells (d.flatMap (qa encI).c)::(kAN d))) (xz [some 1,some 0] [some 1,some 0] (qaY N b e o) (.kb rfl (.cells (rc (.gslice rfl) rn)) (.ks .nil)) rfl rfl (.back rfl rfl (.same fa) rfl (.back rfl rfl (.cells (rc (.gslice rfl) rn)) rfl .nil)) (rc (.same nI) (rc (.ptr rfl) rn)) (.same nB) rfl)) az) ?_)
       refine Goes.sub (show Sub (ofG 23 (kA3 [(2,.func (.func 182) [] [.ptr 1 0]),(3,.i b),(4,.bool j),(13,.bool k)]),(.cells (d.flatMap (qa encI).c)::(kAN d))) (ofG 23 (kA3 [(2,.func (.func 182) [] [.ptr 1 0]),(3,.i b),(4,.bool j),(13,.bool k)]),(.cells (d.flatMap (qa encI).c)::(kAN d)))from(Sub.norm [] [some 0,some 1] (by rw[hB];rfl) rfl (.kp (.keep (.funcL (sn) (rc (.ptr rfl) rn)) (.keep (.same nI) (.keep (.same nB) (.keep (.same nB) .nil))))) (.ks (.kb rfl (.cells (rc (.gslice rfl) rn)) .nil)))) ?_
       refine ihB g14 (fun y g14=>?_) (fun y g14=>?_)
       ·refine Goes.skip ?_
        refine Goes.block ?_
        refine gh fol (kA3 ((2,.func (.func 182) [] [.ptr 1 0])::(3,.i b)::kA4)) ?_
        exact⟨M,(ofG 23 (kA3 ((2,.func (.func 182) [] [.ptr 1 0])::(3,.i b)::kA4)),(.cells (d.flatMap (qa encI).c)::(kAN d))),Nat.lt_succ_self _,(Sub.refl _),_,_,rfl,g14⟩
       refine Goes.exit ?_
       obtain rfl:=si g14
       exact⟨rfl,_,_,rfl,(Sub.keep [1,2,3,4] rfl rfl)⟩
     rintro x s' ⟨rfl,g,n,rfl,hsub⟩
     try dsimp only at g9
     refine Goes.sub hsub ?_
     refine sq ?_
     refine sq ?_
     obtain⟨z,a,g9⟩:=bnd g9
     refine Goes.cut (s':=(ofG 23 (kA3 [(2,.func (.func 182) [] [.ptr 1 0]),(3,.i b),(18,.bool z)]),(.cells (g.flatMap (qa encI).c)::(kAN g)))) ?_ ?_
     ·rcases wyB a with⟨p,a⟩|⟨p,a⟩
      ·obtain rfl:=si a
       exact tr fol [1] (kA3 [(2,.func (.func 182) [] [.ptr 1 0]),(3,.i b),(18,.bool (decide (b>0)))]) (ac (gw p) az)
      obtain rfl:=si a
      exact tr fol [1] (kA3 [(2,.func (.func 182) [] [.ptr 1 0]),(3,.i b),(18,.bool false)]) (ac (gw p) az)
     refine ihB g9 (fun A g9=>?_) (fun A g9=>?_)
     ·refine sh fol (kA3 ((2,.func (.func 182) [] [.ptr 1 0])::(kAy (w64 (b-1))))) ?_
      refine Goes.exit ?_
      obtain rfl:=si g9
      exact⟨rfl,_,_,rfl,(Sub.refl _)⟩
     refine Goes.skip ?_
     refine gh fol (kA3 ((2,.func (.func 182) [] [.ptr 1 0])::(kAy (w64 (b+1))))) ?_
     obtain rfl:=si g9
     exact⟨rfl,_,_,rfl,(Sub.refl _)⟩
    rintro x s' ⟨rfl,q,u,rfl,hsub⟩
    try dsimp only at g5
    exact⟨M,(ofG 23 (kA3 ((2,.func (.func 182) [] [.ptr 1 0])::(kAy u))),(.cells (q.flatMap (qa encI).c)::(kAN q))),Nat.lt_succ_self _,(hsub.trans (Sub.refl _)),_,_,rfl,g5⟩
   refine Goes.exit ?_
   obtain rfl:=si g5
   exact⟨rfl,_,rfl,(Sub.norm [] [some 0] (by rw[hB];rfl) rfl .nil (.ks .nil))⟩
 rintro x s' ⟨rfl,v,rfl,hsub⟩
 obtain rfl:=si h
 exact⟨_,hsub,(gh2 [] (xY.refl _ _))⟩
def zS (N:Nat) (n:Int) (w:List Int):Nat->Int->(List (List Int))->Int->Option (Int×(List (List Int)))
 |0,_,_,_=>none
 |K+1,c,d,e=>
  if e<(w.length:Int)then
  (((idx w e).bind fun a=>
  (xP a).bind fun b=>
  if a>0 then
  (zM N n).bind fun f=>
  (qU f (w64 (b-1))).bind fun g=>
  (app 24 d [g]).bind fun h=>
  some (c,h)
  else
  (za N d).bind fun i=>
  (ym N n).bind fun j=>
  (ze N j (w64 (b-1))).bind fun k=>
  (app 24 i [k]).bind fun l=>
  some (w64 (c-1),l):Option (Int×(List (List Int))))).bind fun(o,m)=>
  zS N n w K o m (w64 (e+1))
  else
  some (c,d)
def zO (N:Nat) (n:Int) (c:List (List Int)):Nat->Int->(List (List Int))->Int->Option (Int×(List (List Int)))
 |0,_,_,_=>none
 |K+1,a,b,d=>
  if d<(c.length:Int)then
  (((idx c d).bind fun e=>
  (zZ N e).bind fun f=>
  if f=true then
  some (a,b)
  else
  (ym N n).bind fun g=>
  (slices_Equal_int N e g).bind fun h=>
  if h=true then
  some (w64 (a+1),b)
  else
  (app 24 b [e]).bind fun i=>
  some (a,i):Option (Int×(List (List Int))))).bind fun(j,k)=>
  zO N n c K j k (w64 (d+1))
  else
  some (a,b)
def jM (N:Nat) (n:Int) (w:List Int):Option zx:=
 if n=1 then
 some (⟨0,[]⟩:zx)
 else
 (zS N n w N 0 ([]:List (List Int)) 0).bind fun(e,d)=>
 (vL N d).bind fun a=>
 ((if d.length=a.length then some ()else none:Option Unit)).bind fun f=>
 (zO N n a N e ([]:List (List Int)) 0).bind fun(b,c)=>
 some (⟨b,c⟩:zx)
theorem yJ (N:Nat) (n:Int) (w:List Int) {res:zx} (h:jM N n w=some res):qb ZT (.fn 79) (kAk n w) [] (.agg [.i res.Half,vl (qa encI) res.Factors]) []:=by
 unfold jM at h
 refine Ub Tryz.func79 rfl rfl (m:=74) rfl (rs:=[.cell 4 25]) rfl (l:=(kB n w [])) rfl ?_
 refine sg fol (kB n w (kA8 [])) [bZ] ?_
 refine sg fol (kB n w (kG [])) [bZ,bZ] ?_
 refine sq ?_
 refine sh fol (kB n w (kG [(13,.bool (decide (n=1)))])) ?_
 refine ihD h (fun c1 h=>?_) (fun c1 h=>?_)
 ·refine sh fol (kA8 []) ?_
  refine Goes.ret ?_
  obtain rfl:=si h
  exact(gw2 [.agg [.i 0,.nilslice]] (FzW.agg (jm.cons (Ua tI) (jm.cons (FzW.nilv (E:=(qa encI))) jm.nil))))
 refine Goes.skip ?_
 refine sh fol (kB n w (kG (kAL []))) ?_
 refine sq ?_
 refine sh fol ((0,.i n)::(kG (kAL [(15,vl encI w),(16,.i (w.length:Int)),(17,.i 0)]))) ?_
 refine Goes.block ?_
 obtain⟨r7,g7,h⟩:=bnd h
 refine Goes.imp (Q:=fun x s'=>(x= .exit 0/\ ∃C D,(C,D)=r7/\Sub s' (ofG 74 ((0,.i n)::(kG (kAV D []))),(kY C [.cells (D.flatMap (qa encI).c)])))) ?_ ?_
 ·refine Goes.sub (s':=(ofG 74 ((0,.i n)::(kG [(6,.gslice 2 ([]:List (List Int)).length 1),(15,vl encI w),(16,.i (w.length:Int)),(17,.i 0)])),[bZ,bZ,.cells (([]:List (List Int)).flatMap (qa encI).c)])) (Sub.norm [] [some 0,some 1,none] rfl rfl (.keep (.same nI) (.kp (.kp (.keep .nil (.keep (.same (qB encI _)) (.keep (.same nI) (.keep (.same nI) .nil))))))) (.kb rfl (.same sn) (.kb rfl (.same sn) (.fresh .nil)))) ?_
  refine Uc (fun M s=> ∃(k:Int) (f:List (List Int)) (q:Int),s=(ofG 74 ((0,.i n)::(kG (kAV f (kAS w (w.length:Int) q [])))),(kY k [.cells (f.flatMap (qa encI).c)]))/\zS N n w M k f q=some r7) ?_ (m:=N) ⟨_,_,_,rfl,g7⟩
  rintro M s ⟨k,f,q,rfl,g7⟩
  cases M with
  |zero=>simp only[zS]at g7;cases g7
  |succ M=>
   rw[zS]at g7
   refine sh fol ((0,.i n)::(kG (kAV f (kAS w (w.length:Int) q [(18,.bool (decide (q<(w.length:Int))))])))) ?_
   refine sq ?_
   refine ihD g7 (fun c8 g7=>?_) (fun c8 g7=>?_)
   ·refine Goes.skip ?_
    refine sq ?_
    obtain⟨r11,g11,g7⟩:=bnd g7
    refine Goes.imp (Q:=fun x s'=>(x= .normal/\ ∃n9 r,(n9,r)=r11/\Sub s' (ofG 74 ((0,.i n)::(kG (kAV r (kAS w (w.length:Int) q [])))),(kY n9 [.cells (r.flatMap (qa encI).c)])))) ?_ ?_
    ·refine Goes.block ?_
     obtain⟨F,z,g11⟩:=bnd g11
     refine sq (gr fol [0,1] ((0,.i n)::(kG (kAV f ((8,.i F)::(kAS w (w.length:Int) q []))))) (ac (iv yo encI z) (ac (lv 0 ce3 encI z rfl) az)) ?_)
     obtain⟨t,K,g11⟩:=bnd g11
     refine sq (gr fol [1] ((0,.i n)::(kG (kAV f (kAl F (w64 (t-1)) (kAS w (w.length:Int) q []))))) (ac (cv (qdP F K)) az) ?_)
     refine sq ?_
     refine sh fol ((0,.i n)::(kG (kAV f ((9,.i (w64 (t-1)))::(kAS w (w.length:Int) q [(25,.bool (decide (F>0)))]))))) ?_
     refine ihD g11 (fun c14 g11=>?_) (fun c14 g11=>?_)
     ·obtain⟨e,L,g11⟩:=bnd g11
      obtain⟨u,O,g11⟩:=bnd g11
      obtain⟨o,P,g11⟩:=bnd g11
      refine sq (gq fol [2,4,6] ((0,.i n)::(kG ((6,.gslice 5 o.length 1)::(kAS w (w.length:Int) q [])))) (kY k (.dead::(kAr e (kAm u [.cells (o.flatMap (qa encI).c)])))) (ac (hs (.callH 131 [.i n] (kY k [.cells (f.flatMap (qa encI).c)]) [] (.slice 3 0 e.length e.length 1) (kY k (.cells (f.flatMap (qa encI).c)::(kA e)))) (xz [] [none,none,none,some 0] (yB N n L) .nil rfl rfl (.old rfl rfl (.old rfl rfl (.old rfl rfl (.new rfl rfl (.same fa) rfl .nil)))) (rc (.same nI) rn) (.slice rfl) rfl)) (ac (hs (.callF 128 [.slice 3 0 e.length e.length 1,.i (w64 (t-1))] (kY k (.cells (f.flatMap (qa encI).c)::(kA e))) [3] (kAT e (w64 (t-1))) (vl encI u)) (qjx (FzL.cons (Fz.sl (E:=encI) rfl rfl (nl rfl)) (FzL.cons (Uk tI) FzL.nil)) (jC e (w64 (t-1)) O) (ja encI _ (nl rfl)))) (ac (hs (.run [2,4] (vo ZT [162,162] (.gslice 2 f.length 1) (.slice 4 0 1 1 1)) (kY k (.cells (f.flatMap (qa encI).c)::(kAr e (kAm u [])))) (.gslice 5 o.length 1) (kY k (.dead::(kAr e (kAm u [.cells (o.flatMap (qa encI).c)])))) true) (xn qaE (E:=(qa encI)) rfl (qbR (E:=(qa encI)) (ys:=[u]) rfl rfl rfl rfl) (qbS (E:=(qa encI)) (l:=f) rfl rfl rfl P rfl))) az))) ?_)
      refine Goes.sub (show Sub (ofG 74 ((0,.i n)::(kG ((6,.gslice 5 o.length 1)::(kAS w (w.length:Int) q [])))),(kY k (.dead::(kAr e (kAm u [.cells (o.flatMap (qa encI).c)]))))) (ofG 74 ((0,.i n)::(kG (kAV o (kAS w (w.length:Int) q [])))),(kY k [.cells (o.flatMap (qa encI).c)]))from(Sub.norm [] [some 0,some 1,some 5] rfl rfl (.keep (.same nI) (.kp (.kp (.keep (.gslice rfl) (.keep (.same (qB encI _)) (.keep (.same nI) (.keep (.same nI) .nil))))))) (.kb rfl (.same sn) (.kb rfl (.same sn) (.ks .nil))))) ?_
      refine Goes.exit ?_
      obtain rfl:=si g11
      exact⟨rfl,_,_,rfl,(Sub.refl _)⟩
     refine Goes.skip ?_
     refine sg fol ((0,.i n)::(kG (kAV f ((9,.i (w64 (t-1)))::(kAS w (w.length:Int) q []))))) (kY (w64 (k-1)) [.cells (f.flatMap (qa encI).c)]) ?_
     obtain⟨A,T,g11⟩:=bnd g11
     obtain⟨r21,U,g11⟩:=bnd g11
     obtain⟨G,V,g11⟩:=bnd g11
     obtain⟨H,W,g11⟩:=bnd g11
     refine gq fol [1,3,5,7] ((0,.i n)::(kG ((6,.gslice 5 H.length 1)::(kAS w (w.length:Int) q [])))) (kY (w64 (k-1)) (.cells (f.flatMap (qa encI).c):: .dead::(kAm G [.cells (H.flatMap (qa encI).c)]))) (ac (hs (.callH 135 [.gslice 2 f.length 1,.func (.func 136) [] []] (kY (w64 (k-1)) [.cells (f.flatMap (qa encI).c)]) [2] (.gslice 3 A.length 1) (kY (w64 (k-1)) [.cells (f.flatMap (qa encI).c),.cells (A.flatMap (qa encI).c)])) (xz [some 2] [none,none,some 0,some 1] (xh N f T) (.ks .nil) rfl rfl (.old rfl rfl (.old rfl rfl (.back rfl rfl (.same fa) rfl (.new rfl rfl (.same fa) rfl .nil)))) (rc (.gslice rfl) (rc (.same (qg.func sn sn)) rn)) (.gslice rfl) rfl)) (ac (cv (qaZ N n U)) (ac (cv (yc N r21 (w64 (t-1)) V)) (ac (hs (.run [3,4] (vo ZT [162,162] (.gslice 3 A.length 1) (.slice 4 0 1 1 1)) (kY (w64 (k-1)) (.cells (f.flatMap (qa encI).c):: .cells (A.flatMap (qa encI).c)::(kAm G []))) (.gslice 5 H.length 1) (kY (w64 (k-1)) (.cells (f.flatMap (qa encI).c):: .dead::(kAm G [.cells (H.flatMap (qa encI).c)]))) true) (xn qaE (E:=(qa encI)) rfl (qbR (E:=(qa encI)) (ys:=[G]) rfl rfl rfl rfl) (qbS (E:=(qa encI)) (l:=A) rfl rfl rfl W rfl))) az)))) ?_
     obtain rfl:=si g11
     exact⟨rfl,_,_,rfl,(Sub.norm [] [some 0,some 1,some 5] rfl rfl (.keep (.same nI) (.kp (.kp (.keep (.gslice rfl) (.keep (.same (qB encI _)) (.keep (.same nI) (.keep (.same nI) .nil))))))) (.kb rfl (.same sn) (.kb rfl (.same sn) (.ks .nil))))⟩
    rintro x s' ⟨rfl,n9,r,rfl,hsub⟩
    try dsimp only at g7
    refine Goes.sub hsub ?_
    refine gh fol ((0,.i n)::(kG (kAV r (kAS w (w.length:Int) (w64 (q+1)) [])))) ?_
    exact⟨M,(ofG 74 ((0,.i n)::(kG (kAV r (kAS w (w.length:Int) (w64 (q+1)) [])))),(kY n9 [.cells (r.flatMap (qa encI).c)])),Nat.lt_succ_self _,(Sub.refl _),_,_,_,rfl,g7⟩
   refine Goes.exit ?_
   obtain rfl:=si g7
   exact⟨rfl,_,_,rfl,(Sub.keep [0,4,5,6] rfl rfl)⟩
 rintro x s' ⟨rfl,C,D,rfl,hsub⟩
 try dsimp only at h
 refine Goes.sub hsub ?_
 obtain⟨a,X,h⟩:=bnd h
 obtain⟨u26,Y,h⟩:=bnd h
 refine sq (gq fol [1] ((0,.i n)::(kG (kAV D []))) (kY C [.cells (a.flatMap (qa encI).c)]) (ac (hs (.callH 138 [.gslice 2 D.length 1] (kY C [.cells (D.flatMap (qa encI).c)]) [2] (.tuple []) (kY C [.cells (a.flatMap (qa encI).c)])) (xz [some 2] [none,none,some 0] (qbB N D X) (.ks .nil) rfl rfl (.old rfl rfl (.old rfl rfl (.back rfl rfl (.same fa) rfl .nil))) (rc (.gslice rfl) rn) (.same (qg.tuple sn)) rfl)) az) ?_)
 refine Goes.sub (show Sub (ofG 74 ((0,.i n)::(kG (kAV D []))),(kY C [.cells (a.flatMap (qa encI).c)])) (ofG 74 ((0,.i n)::(kG (kAV a []))),(kY C [.cells (a.flatMap (qa encI).c)]))from(Sub.norm [] [some 0,some 1,some 2] rfl rfl (.keep (.same nI) (.kp (.kp (.keep (.gsliceE rfl (qdy Y)) .nil)))) (.kb rfl (.same sn) (.kb rfl (.same sn) (.ks .nil))))) ?_
 refine sq ?_
 refine sh fol ((0,.i n)::(kG [(48,.gslice 2 a.length 1),(49,.i (a.length:Int)),(50,.i 0)])) ?_
 refine Goes.block ?_
 obtain⟨a3,g32,h⟩:=bnd h
 refine Goes.imp (Q:=fun x s'=>(x= .exit 2/\ ∃v p,(v,p)=a3/\Sub s' (ofG 74 (kG []),(kL v p [.cells (p.flatMap (qa encI).c)])))) ?_ ?_
 ·refine Goes.sub (s':=(ofG 74 ((0,.i n)::(kG [(48,.gslice 3 a.length 1),(49,.i (a.length:Int)),(50,.i 0)])),[bZ,.cells [.i C,.gslice 2 ([]:List (List Int)).length 1],.cells (([]:List (List Int)).flatMap (qa encI).c),.cells (a.flatMap (qa encI).c)])) (Sub.norm [] [some 0,some 1,none,some 2] rfl rfl (.keep (.same nI) (.kp (.kp (.keep (.gslice rfl) (.keep (.same nI) (.keep (.same nI) .nil)))))) (.kb rfl (.same sn) (.kb rfl (.cells (rc (.same nI) (rc (.nil) rn))) (.fresh (.ks .nil))))) ?_
  refine Uc (fun M s=> ∃(j:Int) (d:List (List Int)) (b:Int),s=(ofG 74 ((0,.i n)::(kG (kAJ a (a.length:Int) b []))),(kL j d [.cells (d.flatMap (qa encI).c),.cells (a.flatMap (qa encI).c)]))/\zO N n a M j d b=some a3) ?_ (m:=N) ⟨_,_,_,rfl,g32⟩
  rintro M s ⟨j,d,b,rfl,g32⟩
  cases M with
  |zero=>simp only[zO]at g32;cases g32
  |succ M=>
   rw[zO]at g32
   refine sh fol ((0,.i n)::(kG (kAJ a (a.length:Int) b [(51,.bool (decide (b<(a.length:Int))))]))) ?_
   refine sq ?_
   refine ihD g32 (fun c33 g32=>?_) (fun c33 g32=>?_)
   ·refine Goes.skip ?_
    refine sq ?_
    obtain⟨r36,g36,g32⟩:=bnd g32
    refine Goes.imp (Q:=fun x s'=>(x= .normal/\ ∃I y,(I,y)=r36/\Sub s' (ofG 74 ((0,.i n)::(kG (kAJ a (a.length:Int) b []))),(kL I y [.cells (y.flatMap (qa encI).c),.cells (a.flatMap (qa encI).c)])))) ?_ ?_
    ·refine Goes.block ?_
     obtain⟨g,B,g36⟩:=bnd g36
     refine sq (gr fol [0,1] ((0,.i n)::(kG ((11,vl encI g)::(kAJ a (a.length:Int) b [])))) (ac (hs (.done (.opt (qc ZT 162 (.gslice 3 a.length 1) (.i b))) (.ptr 3 ((b:Int).toNat*1+0))) (jB qaE B)) (ac (hs (.run [3] (zF ZT 93 (.ptr 3 ((b:Int).toNat*1+0))) (kL j d [.cells (d.flatMap (qa encI).c),.cells (a.flatMap (qa encI).c)]) (vl encI g) (kL j d [.cells (d.flatMap (qa encI).c),.cells (a.flatMap (qa encI).c)]) false) (xI qf5 (E:=(qa encI)) (l:=a) rfl rfl B (nl rfl) rfl)) az)) ?_)
     refine Goes.block ?_
     obtain⟨r38,Z,g36⟩:=bnd g36
     refine sq (gr fol [1] ((0,.i n)::(kG ((11,vl encI g)::(kAJ a (a.length:Int) b [(60,.bool r38)])))) (ac (cv (qam N g Z)) az) ?_)
     refine ihB g36 (fun c39 g36=>?_) (fun c39 g36=>?_)
     ·refine Goes.skip ?_
      obtain rfl:=si g36
      exact⟨rfl,_,_,rfl,(Sub.keep [0,4,5,48,49,50] rfl rfl)⟩
     obtain⟨r40,a0,g36⟩:=bnd g36
     obtain⟨r41,a1,g36⟩:=bnd g36
     refine sq (gr fol [2,3] ((0,.i n)::(kG ((11,vl encI g)::(kAJ a (a.length:Int) b [(63,.bool r41)])))) (ac (cv (qaZ N n a0)) (ac (cv (qaW N g r40 a1)) az)) ?_)
     refine ihB g36 (fun c42 g36=>?_) (fun c42 g36=>?_)
     ·refine Goes.rg fol ((0,.i n)::(kG (kAJ a (a.length:Int) b []))) (kL (w64 (j+1)) d [.cells (d.flatMap (qa encI).c),.cells (a.flatMap (qa encI).c)]) ?_
      obtain rfl:=si g36
      exact⟨rfl,_,_,rfl,(Sub.refl _)⟩
     obtain⟨J,a2,g36⟩:=bnd g36
     refine gq fol [4] ((0,.i n)::(kG (kAJ a (a.length:Int) b []))) (bZ:: .cells [.i j,.gslice 5 J.length 1]:: .dead:: .cells (a.flatMap (qa encI).c)::(kAm g [.cells (J.flatMap (qa encI).c)])) (ac (hs (.run [2,4] (vo ZT [23,23] (.gslice 2 d.length 1) (.slice 4 0 1 1 1)) (kL j d (.cells (d.flatMap (qa encI).c):: .cells (a.flatMap (qa encI).c)::(kAm g []))) (.gslice 5 J.length 1) (kL j d (.dead:: .cells (a.flatMap (qa encI).c)::(kAm g [.cells (J.flatMap (qa encI).c)]))) true) (xn xA (E:=(qa encI)) rfl (qbR (E:=(qa encI)) (ys:=[g]) rfl rfl rfl rfl) (qbS (E:=(qa encI)) (l:=d) rfl rfl rfl a2 rfl))) az) ?_
     obtain rfl:=si g36
     exact⟨rfl,_,_,rfl,(Sub.norm [] [some 0,some 1,some 5,some 3] rfl rfl (.keep (.same nI) (.kp (.kp (.keep (.gslice rfl) (.keep (.same nI) (.keep (.same nI) .nil)))))) (.kb rfl (.same sn) (.kb rfl (.cells (rc (.same nI) (rc (.gslice rfl) rn))) (.ks (.ks .nil)))))⟩
    rintro x s' ⟨rfl,I,y,rfl,hsub⟩
    try dsimp only at g32
    refine Goes.sub hsub ?_
    refine gh fol ((0,.i n)::(kG (kAJ a (a.length:Int) (w64 (b+1)) []))) ?_
    exact⟨M,(ofG 74 ((0,.i n)::(kG (kAJ a (a.length:Int) (w64 (b+1)) []))),(kL I y [.cells (y.flatMap (qa encI).c),.cells (a.flatMap (qa encI).c)])),Nat.lt_succ_self _,(Sub.refl _),_,_,_,rfl,g32⟩
   refine Goes.exit ?_
   obtain rfl:=si g32
   exact⟨rfl,_,_,rfl,(Sub.norm [] [some 0,some 1,some 2] rfl rfl (.drop (.kp (.kp .nil))) (.kb rfl (.same sn) (.kb rfl (.cells (rc (.same nI) (rc (.gslice rfl) rn))) (.ks .nil))))⟩
 rintro x s' ⟨rfl,v,p,rfl,hsub⟩
 try dsimp only at h
 refine Goes.sub hsub ?_
 refine sg fol (kA8 []) [.cells [.i v,.gslice 2 p.length 1],.cells [.i v,.gslice 2 p.length 1],.cells (p.flatMap (qa encI).c)] ?_
 refine Goes.ret ?_
 obtain rfl:=si h
 exact(gw2 [.agg [.i v,.gslice 2 p.length 1]] (FzW.agg (jm.cons (Ua tI) (jm.cons (Uw (Fz.gs (E:=(qa encI)) rfl rfl (nl rfl))) jm.nil))))
def yN (N:Nat) (n:Int) (w:List Int):Option (zx×Int):=
 (zT N n w).bind fun a=>
 if(!decide (a=0))=true then
 some ((⟨0,[]⟩:zx),a)
 else
 (jM N n w).bind fun b=>
 some (b,0)
theorem qb0 (N:Nat) (n:Int) (w:List Int) {res:zx×Int} (h:yN N n w=some res):qb ZT (.fn 21) (kAk n w) [] (.tuple [.agg [.i res.1.Half,vl (qa encI) res.1.Factors],.i res.2]) []:=by
 unfold yN at h
 refine Ub Tryz.func21 rfl rfl (m:=17) rfl (rs:=[.cell 4 25,.tmp 5]) rfl (l:=(kB n w [])) rfl ?_
 refine sg fol (kB n w (kA8 [])) [bZ] ?_
 refine sq ?_
 obtain⟨a,b,h⟩:=bnd h
 refine sq (gr fol [2] (kB n w (kA8 (kBQ a))) (ac (cv (vU N n w b)) az) ?_)
 refine sh fol (kB n w (kA8 ((6,.i a)::(kBC (!decide (a=0)))))) ?_
 refine ihB h (fun e h=>?_) (fun e h=>?_)
 ·refine sh fol (kA8 (kAc a)) ?_
  refine Goes.ret ?_
  obtain rfl:=si h
  exact(gw2 [.agg [.i 0,.nilslice],.i a] (FzW.tuple (jm.cons (FzW.agg (jm.cons (Ua tI) (jm.cons (FzW.nilv (E:=(qa encI))) jm.nil))) (jm.cons (Ua tI) jm.nil))))
 refine Goes.skip ?_
 obtain⟨d,c,h⟩:=bnd h
 refine sq (gq fol [2] (kA8 kBO) [.cells [.i d.Half,vl (qa encI) d.Factors]] (ac (cv (yJ N n w c)) az) ?_)
 refine Goes.ret ?_
 obtain rfl:=si h
 exact(gw2 [.agg [.i d.Half,vl (qa encI) d.Factors],.i 0] (FzW.tuple (jm.cons (FzW.agg (jm.cons (Ua tI) (jm.cons (Ua (ja (qa encI) _ (nl rfl))) jm.nil))) (jm.cons (Ua tI) jm.nil))))
def qp (N:Nat) (a:List (List Int)) (b:List (List Int)):Nat->Int->Option (Unit⊕Bool)
 |0,_=>none
 |K+1,c=>
  if c<(a.length:Int)then
  (idx a c).bind fun d=>
  (idx b c).bind fun e=>
  (z8 N d e).bind fun f=>
  if(!f)=true then
  some (.inr false)
  else
  qp N a b K (w64 (c+1))
  else
  some (.inl ())
def kD (N:Nat) (a:List (List Int)) (b:List (List Int)):Option Bool:=
 if(!decide ((a.length:Int)=(b.length:Int)))=true then
 some false
 else
 (qp N a b N 0).bind (fun
 |(.inl ())=>
 some true
 |(.inr c)=>
 some c)
theorem yV (N:Nat) (a:List (List Int)) (b:List (List Int)) {res:Bool} (h:kD N a b=some res):qb ZT (.fn 169) [vl (qa encI) a,vl (qa encI) b,.func (.func 88) [] []] [] (.bool res) []:=by
 unfold kD at h
 refine Ub Tryz.func169 rfl rfl (m:=32) rfl (rs:=[.tmp 6]) rfl (l:=[(0,vl (qa encI) a),(1,vl (qa encI) b),(2,.func (.func 88) [] [])]) rfl ?_
 refine sh fol [(0,vl (qa encI) a),(1,vl (qa encI) b),(2,.func (.func 88) [] [])] ?_
 refine sq ?_
 refine sh fol ((0,vl (qa encI) a)::(1,vl (qa encI) b)::(2,.func (.func 88) [] [])::(kBL (!decide ((a.length:Int)=(b.length:Int))))) ?_
 refine ihB h (fun o h=>?_) (fun o h=>?_)
 ·refine sh fol [(6,.bool false)] ?_
  refine Goes.ret ?_
  obtain rfl:=si h
  exact(gw2 [.bool false] (Ua tB))
 refine Goes.skip ?_
 refine sq ?_
 refine sh fol [(1,vl (qa encI) b),(2,.func (.func 88) [] []),(15,vl (qa encI) a),(16,.i (a.length:Int)),(17,.i 0)] ?_
 refine Goes.block ?_
 obtain⟨g,g3,h⟩:=bnd h
 refine Goes.imp (Q:=fun x s'=>(x= .exit 0/\(.inl ())=g/\Sub s' (ofG 32 [],[]))\/(x= .ret/\ ∃k,(.inr k)=g/\jh ZT [.tmp 6] (.bool k) .ret s')) ?_ ?_
 ·refine Uc (fun M s=> ∃(c:Int),s=(ofG 32 [(1,vl (qa encI) b),(2,.func (.func 88) [] []),(15,vl (qa encI) a),(16,.i (a.length:Int)),(17,.i c)],[])/\qp N a b M c=some g) ?_ (m:=N) ⟨_,rfl,g3⟩
  rintro M s ⟨c,rfl,g3⟩
  cases M with
  |zero=>simp only[qp]at g3;cases g3
  |succ M=>
   rw[qp]at g3
   refine sh fol [(1,vl (qa encI) b),(2,.func (.func 88) [] []),(15,vl (qa encI) a),(16,.i (a.length:Int)),(17,.i c),(18,.bool (decide (c<(a.length:Int))))] ?_
   refine sq ?_
   refine ihD g3 (fun p g3=>?_) (fun p g3=>?_)
   ·refine Goes.skip ?_
    refine sq (Goes.block ?_)
    obtain⟨j,d,g3⟩:=bnd g3
    refine sq (gr fol [1,2] [(1,vl (qa encI) b),(2,.func (.func 88) [] []),(7,.i c),(8,vl encI j),(15,vl (qa encI) a),(16,.i (a.length:Int)),(17,.i c)] (ac (iv xA (qa encI) d) (ac (lv 0 qbn (qa encI) d rfl) az)) ?_)
    obtain⟨n,e,g3⟩:=bnd g3
    refine sq (gr fol [2,3] [(1,vl (qa encI) b),(2,.func (.func 88) [] []),(8,vl encI j),(9,vl encI n),(15,vl (qa encI) a),(16,.i (a.length:Int)),(17,.i c)] (ac (iv xA (qa encI) e) (ac (lv 0 qbn (qa encI) e rfl) az)) ?_)
    obtain⟨q,f,g3⟩:=bnd g3
    refine sq (gr fol [3] [(1,vl (qa encI) b),(2,.func (.func 88) [] []),(15,vl (qa encI) a),(16,.i (a.length:Int)),(17,.i c),(30,.bool (!q))] (ac (cv (qao N j n f)) az) ?_)
    refine ihB g3 (fun r g3=>?_) (fun r g3=>?_)
    ·refine sh fol [(6,.bool false)] ?_
     refine Goes.ret ?_
     obtain rfl:=si g3
     exact Or.inr (⟨rfl,_,rfl,(gw2 [.bool false] (Ua tB))⟩)
    refine Goes.skip ?_
    refine gh fol [(1,vl (qa encI) b),(2,.func (.func 88) [] []),(15,vl (qa encI) a),(16,.i (a.length:Int)),(17,.i (w64 (c+1)))] ?_
    exact⟨M,(ofG 32 [(1,vl (qa encI) b),(2,.func (.func 88) [] []),(15,vl (qa encI) a),(16,.i (a.length:Int)),(17,.i (w64 (c+1)))],[]),Nat.lt_succ_self _,(Sub.refl _),_,rfl,g3⟩
   refine Goes.exit ?_
   obtain rfl:=si g3
   exact Or.inl (⟨rfl,rfl,(Sub.keep [] rfl rfl)⟩)
 rintro x s' (⟨rfl,rfl,hsub⟩|⟨rfl,t,rfl,hret⟩)
 ·try dsimp only at h
  refine Goes.sub hsub ?_
  refine sh fol [(6,.bool true)] ?_
  refine Goes.ret ?_
  obtain rfl:=si h
  exact(gw2 [.bool true] (Ua tB))
 try dsimp only at h
 obtain rfl:=si h
 exact hret
def jT (N:Nat) (f:zx) (g:zx):Option Bool:=
 (if f.Half=g.Half then
 (kD N f.Factors g.Factors).bind fun a=>
 some a
 else
 some false:Option Bool).bind fun b=>
 some b
theorem qbf (N:Nat) (f:zx) (g:zx) {res:Bool} (h:jT N f g=some res):qb ZT (.fn 139) [.agg [.i f.Half,vl (qa encI) f.Factors],.agg [.i g.Half,vl (qa encI) g.Factors]] [] (.bool res) []:=by
 unfold jT at h
 refine Ub Tryz.func139 rfl rfl (m:=17) rfl (rs:=[.tmp 4]) rfl (l:=[(0,.agg [.i f.Half,vl (qa encI) f.Factors]),(1,.agg [.i g.Half,vl (qa encI) g.Factors])]) rfl ?_
 refine sg fol [(2,.ptr 0 0),(3,.ptr 1 0)] [.cells [.i f.Half,vl (qa encI) f.Factors],.cells [.i g.Half,vl (qa encI) g.Factors]] ?_
 refine sq ?_
 obtain⟨d,a,h⟩:=bnd h
 refine Goes.cut (s':=(ofG 17 (kAa d),[.cells [.i f.Half,vl (qa encI) f.Factors],.cells [.i g.Half,vl (qa encI) g.Factors]])) ?_ ?_
 ·rcases wyD a with⟨c,a⟩|⟨c,a⟩
  ·obtain⟨e,b,a⟩:=bnd a
   obtain rfl:=si a
   exact tr fol [5,10] (kAa e) (ac (gw c) (ac (hs (.call 169 [vl (qa encI) f.Factors,vl (qa encI) g.Factors,.func (.func 88) [] []] [] [] [vl (qa encI) f.Factors,vl (qa encI) g.Factors,.func (.func 88) [] []] (.bool e)) (qe8 (FzL.cons (Uk (ja (qa encI) _ (nl rfl))) (FzL.cons (Uk (ja (qa encI) _ (nl rfl))) (FzL.cons (Fz.func FzL.nil FzL.nil) FzL.nil))) (yV N f.Factors g.Factors b) tB)) az))
  obtain rfl:=si a
  exact tr fol [5] kAA (ac (gw c) az)
 refine Goes.ret ?_
 obtain rfl:=si h
 exact(gw2 [.bool d] (Ua tB))
def xw (N:Nat) (n:Int) (a:List Int) (b:List Int):Option Bool:=
 (jM N n a).bind fun c=>
 (jM N n b).bind fun d=>
 (jT N c d).bind fun e=>
 some e
theorem qch (N:Nat) (n:Int) (a:List Int) (b:List Int) {res:Bool} (h:xw N n a b=some res):qb ZT (.fn 81) (.i n::(kAi a b)) [] (.bool res) []:=by
 unfold xw at h
 refine Ub Tryz.func81 rfl rfl (m:=14) rfl (rs:=[.tmp 6]) rfl (l:=(kB n a (kAZ b []))) rfl ?_
 refine sh fol (kB n a (kAZ b [])) ?_
 obtain⟨g,c,h⟩:=bnd h
 obtain⟨j,d,h⟩:=bnd h
 obtain⟨f,e,h⟩:=bnd h
 refine sq (gr fol [2,5,6] (kBG f) (ac (cv (yJ N n a c)) (ac (cv (yJ N n b d)) (ac (cv (qbf N g j e)) az))) ?_)
 refine Goes.ret ?_
 obtain rfl:=si h
 exact(gw2 [.bool f] (Ua tB))
def xy (N:Nat) (n:Int) (a:List Int) (b:List Int):Option (Bool×Int):=
 (vR N n a b).bind fun c=>
 if(!decide (c=0))=true then
 some (false,c)
 else
 (xw N n a b).bind fun d=>
 some (d,0)
theorem qcs (N:Nat) (n:Int) (a:List Int) (b:List Int) {res:Bool×Int} (h:xy N n a b=some res):qb ZT (.fn 22) (.i n::(kAi a b)) [] (.tuple [.bool res.1,.i res.2]) []:=by
 unfold xy at h
 refine Ub Tryz.func22 rfl rfl (m:=20) rfl (rs:=[.tmp 6,.tmp 7]) rfl (l:=(kB n a (kAZ b []))) rfl ?_
 refine sh fol (kB n a (kAZ b [])) ?_
 refine sq ?_
 obtain⟨c,d,h⟩:=bnd h
 refine sq (gr fol [3] (kB n a (kAZ b (kA2 c))) (ac (cv (qa7 N n a b d)) az) ?_)
 refine sh fol (kB n a (kAZ b ((8,.i c)::(kBL (!decide (c=0)))))) ?_
 refine ihB h (fun g h=>?_) (fun g h=>?_)
 ·refine sh fol ((6,.bool false)::(kBK c)) ?_
  refine Goes.ret ?_
  obtain rfl:=si h
  exact(gw2 [.bool false,.i c] (FzW.tuple (jm.cons (Ua tB) (jm.cons (Ua tI) jm.nil))))
 refine Goes.skip ?_
 obtain⟨f,e,h⟩:=bnd h
 refine sq (gr fol [3] ((6,.bool f)::kBJ) (ac (cv (qch N n a b e)) az) ?_)
 refine Goes.ret ?_
 obtain rfl:=si h
 exact(gw2 [.bool f,.i 0] (FzW.tuple (jm.cons (Ua tB) (jm.cons (Ua tI) jm.nil))))
def kC (N:Nat) (a:List (List Int)) (b:List (List Int)):Nat->Int->Option (Unit⊕Bool)
 |0,_=>none
 |K+1,c=>
  if c<(a.length:Int)then
  (idx a c).bind fun d=>
  (idx b c).bind fun e=>
  (zY N d e).bind fun f=>
  if(!f)=true then
  some (.inr false)
  else
  kC N a b K (w64 (c+1))
  else
  some (.inl ())
def jS (N:Nat) (a:List (List Int)) (b:List (List Int)):Option Bool:=
 if(!decide ((a.length:Int)=(b.length:Int)))=true then
 some false
 else
 (kC N a b N 0).bind (fun
 |(.inl ())=>
 some true
 |(.inr c)=>
 some c)
theorem qa8 (N:Nat) (a:List (List Int)) (b:List (List Int)) {res:Bool} (h:jS N a b=some res):qb ZT (.fn 57) [vl (qa encI) a,vl (qa encI) b] [] (.bool res) []:=by
 unfold jS at h
 refine Ub Tryz.func57 rfl rfl (m:=27) rfl (rs:=[.tmp 4]) rfl (l:=[(0,vl (qa encI) a),(1,vl (qa encI) b)]) rfl ?_
 refine sh fol [(0,vl (qa encI) a),(1,vl (qa encI) b)] ?_
 refine sq ?_
 refine sh fol ((0,vl (qa encI) a)::(1,vl (qa encI) b)::(kAq (!decide ((a.length:Int)=(b.length:Int))))) ?_
 refine ihB h (fun k h=>?_) (fun k h=>?_)
 ·refine sh fol kAA ?_
  refine Goes.ret ?_
  obtain rfl:=si h
  exact(gw2 [.bool false] (Ua tB))
 refine Goes.skip ?_
 refine sq ?_
 refine sh fol ((0,vl (qa encI) a)::(1,vl (qa encI) b)::kBO) ?_
 refine Goes.block ?_
 obtain⟨g,g3,h⟩:=bnd h
 refine Goes.imp (Q:=fun x s'=>(x= .exit 0/\(.inl ())=g/\Sub s' (ofG 27 [],[]))\/(x= .ret/\ ∃j,(.inr j)=g/\jh ZT [.tmp 4] (.bool j) .ret s')) ?_ ?_
 ·refine Uc (fun M s=> ∃(c:Int),s=(ofG 27 ((0,vl (qa encI) a)::(1,vl (qa encI) b)::(kAc c)),[])/\kC N a b M c=some g) ?_ (m:=N) ⟨_,rfl,g3⟩
  rintro M s ⟨c,rfl,g3⟩
  cases M with
  |zero=>simp only[kC]at g3;cases g3
  |succ M=>
   rw[kC]at g3
   refine sq ?_
   refine sh fol ((0,vl (qa encI) a)::(1,vl (qa encI) b)::(5,.i c)::(kBL (decide (c<(a.length:Int))))) ?_
   refine ihD g3 (fun n g3=>?_) (fun n g3=>?_)
   ·refine Goes.skip ?_
    refine sq (Goes.block ?_)
    obtain⟨o,d,g3⟩:=bnd g3
    obtain⟨p,e,g3⟩:=bnd g3
    obtain⟨q,f,g3⟩:=bnd g3
    refine sq (gr fol [2,3,6,7,8] [(0,vl (qa encI) a),(1,vl (qa encI) b),(5,.i c),(26,.bool (!q))] (ac (iv xA (qa encI) d) (ac (lv 0 qbn (qa encI) d rfl) (ac (iv xA (qa encI) e) (ac (lv 0 qbn (qa encI) e rfl) (ac (cv (vZ N o p f)) az))))) ?_)
    refine ihB g3 (fun r g3=>?_) (fun r g3=>?_)
    ·refine sh fol kAA ?_
     refine Goes.ret ?_
     obtain rfl:=si g3
     exact Or.inr (⟨rfl,_,rfl,(gw2 [.bool false] (Ua tB))⟩)
    refine Goes.skip ?_
    refine gh fol ((0,vl (qa encI) a)::(1,vl (qa encI) b)::(kAc (w64 (c+1)))) ?_
    exact⟨M,(ofG 27 ((0,vl (qa encI) a)::(1,vl (qa encI) b)::(kAc (w64 (c+1)))),[]),Nat.lt_succ_self _,(Sub.refl _),_,rfl,g3⟩
   refine Goes.exit ?_
   obtain rfl:=si g3
   exact Or.inl (⟨rfl,rfl,(Sub.keep [] rfl rfl)⟩)
 rintro x s' (⟨rfl,rfl,hsub⟩|⟨rfl,t,rfl,hret⟩)
 ·try dsimp only at h
  refine Goes.sub hsub ?_
  refine sh fol kA4 ?_
  refine Goes.ret ?_
  obtain rfl:=si h
  exact(gw2 [.bool true] (Ua tB))
 try dsimp only at h
 obtain rfl:=si h
 exact hret
def jE (N:Nat) (a:zx) (b:zx):Option Bool:=
 (if a.Half=b.Half then
 (jS N a.Factors b.Factors).bind fun c=>
 some c
 else
 some false:Option Bool).bind fun d=>
 some d
theorem xx (N:Nat) (a:zx) (b:zx) {res:Bool} (h:jE N a b=some res):qb ZT (.fn 82) [.agg [.i a.Half,vl (qa encI) a.Factors],.agg [.i b.Half,vl (qa encI) b.Factors]] [] (.bool res) []:=by
 unfold jE at h
 refine Ub Tryz.func82 rfl rfl (m:=17) rfl (rs:=[.tmp 4]) rfl (l:=[(0,.agg [.i a.Half,vl (qa encI) a.Factors]),(1,.agg [.i b.Half,vl (qa encI) b.Factors])]) rfl ?_
 refine sg fol [(2,.ptr 0 0),(3,.ptr 1 0)] [.cells [.i a.Half,vl (qa encI) a.Factors],.cells [.i b.Half,vl (qa encI) b.Factors]] ?_
 refine sq ?_
 obtain⟨f,c,h⟩:=bnd h
 refine Goes.cut (s':=(ofG 17 (kAa f),[.cells [.i a.Half,vl (qa encI) a.Factors],.cells [.i b.Half,vl (qa encI) b.Factors]])) ?_ ?_
 ·rcases wyD c with⟨e,c⟩|⟨e,c⟩
  ·obtain⟨g,d,c⟩:=bnd c
   obtain rfl:=si c
   exact tr fol [5,10] (kAa g) (ac (gw e) (ac (cv (qa8 N a.Factors b.Factors d)) az))
  obtain rfl:=si c
  exact tr fol [5] kAA (ac (gw e) az)
 refine Goes.ret ?_
 obtain rfl:=si h
 exact(gw2 [.bool f] (Ua tB))
def jO (N:Nat) (a:zx) (e:Int) (bad:Int) (want:zx):Option Bool:=
 if(!decide (bad=0))=true then
 (if a.Half=0 then
 if(a.Factors.length:Int)=0 then
 some (decide (e=bad))
 else
 some false
 else
 some false:Option Bool).bind fun b=>
 some b
 else
 (if e=0 then
 (qaO a).bind fun c=>
 (jE N c want).bind fun d=>
 some d
 else
 some false:Option Bool).bind fun f=>
 some f
theorem vM (N:Nat) (a:zx) (e:Int) (bad:Int) (want:zx) {res:Bool} (h:jO N a e bad want=some res):qb ZT (.fn 23) [.agg [.i a.Half,vl (qa encI) a.Factors],.i e,.i bad,.agg [.i want.Half,vl (qa encI) want.Factors]] [] (.bool res) []:=by
 unfold jO at h
 refine Ub Tryz.func23 rfl rfl (m:=33) rfl (rs:=[.tmp 8]) rfl (l:=((0,.agg [.i a.Half,vl (qa encI) a.Factors])::(kAt e bad [(3,.agg [.i want.Half,vl (qa encI) want.Factors])]))) rfl ?_
 refine sg fol (kAt e bad (kA8 [(7,.ptr 1 0)])) [.cells [.i a.Half,vl (qa encI) a.Factors],.cells [.i want.Half,vl (qa encI) want.Factors]] ?_
 refine sq ?_
 refine sh fol (kAt e bad (kA8 ((7,.ptr 1 0)::(kAq (!decide (bad=0)))))) ?_
 refine ihB h (fun p h=>?_) (fun p h=>?_)
 ·refine sq ?_
  obtain⟨n,c,h⟩:=bnd h
  refine Goes.cut (s':=(ofG 33 (kAp n),[.cells [.i a.Half,vl (qa encI) a.Factors],.cells [.i want.Half,vl (qa encI) want.Factors]])) ?_ ?_
  ·rcases wyD c with⟨g,c⟩|⟨g,c⟩
   ·rcases wyD c with⟨j,c⟩|⟨j,c⟩
    ·obtain rfl:=si c
     exact tr fol [3,9] (kAp (decide (e=bad))) (ac (gw g) (ac (gw j) az))
    obtain rfl:=si c
    exact tr fol [3,9] kA6 (ac (gw g) (ac (gw j) az))
   obtain rfl:=si c
   exact tr fol [3] kA6 (ac (gw g) az)
  refine Goes.ret ?_
  obtain rfl:=si h
  exact(gw2 [.bool n] (Ua tB))
 refine Goes.skip ?_
 refine sq ?_
 obtain⟨o,b,h⟩:=bnd h
 refine Goes.cut (s':=(ofG 33 (kAp o),[.cells [.i a.Half,vl (qa encI) a.Factors],.cells [.i want.Half,vl (qa encI) want.Factors]])) ?_ ?_
 ·rcases wyD b with⟨k,b⟩|⟨k,b⟩
  ·obtain⟨q,d,b⟩:=bnd b
   obtain⟨r,f,b⟩:=bnd b
   obtain rfl:=si b
   exact tr fol [2,4,6] (kAp r) (ac (gw k) (ac (cv (qdS a d)) (ac (cv (xx N q want f)) az)))
  obtain rfl:=si b
  exact tr fol [2] kA6 (ac (gw k) az)
 refine Goes.ret ?_
 obtain rfl:=si h
 exact(gw2 [.bool o] (Ua tB))
def jv (N:Nat) (n:Int) (i:Int):Option (List Int):=
 (zL N n).bind fun a=>
 (idx a i).bind fun c=>
 (idx a (w64 (i-1))).bind fun d=>
 (put a (w64 (i-1)) c).bind fun b=>
 (idx b i).bind fun f=>
 (put b i d).bind fun e=>
 some e
theorem xq (N:Nat) (n:Int) (i:Int) {res:List Int} (h:jv N n i=some res):qb ZT (.fn 83) [.i n,.i i] [] (vl encI res) []:=by
 unfold jv at h
 refine Ub Tryz.func83 rfl rfl (m:=25) rfl (rs:=[.tmp 4]) rfl (l:=((0,.i n)::(kAx i))) rfl ?_
 refine sh fol ((0,.i n)::(kAx i)) ?_
 obtain⟨a,g,h⟩:=bnd h
 refine sq (gq fol [1] ((1,.i i)::(kU a [])) (kA a) (ac (hs (.callH 86 [.i n] [] [] (.gslice 0 a.length 1) (kA a)) (xz [] [some 0] (yC N n g) .nil rfl rfl (.new rfl rfl (.same fa) rfl .nil) (rc (.same nI) rn) (.gslice rfl) rfl)) az) ?_)
 obtain⟨k,c,h⟩:=bnd h
 obtain⟨o,b,h⟩:=bnd h
 obtain⟨p,d,h⟩:=bnd h
 obtain⟨q,j,h⟩:=bnd h
 obtain⟨f,e,h⟩:=bnd h
 refine sq (gq fol [7,8,12,13,14,15,16,17] (kU a []) (kA f) (ac (hs (.done (.opt (qc ZT 22 (.gslice 0 a.length 1) (.i i))) (.ptr 0 ((i:Int).toNat*1+0))) (jB yo c)) (ac (hs (.run [0] (zF ZT 3 (.ptr 0 ((i:Int).toNat*1+0))) (kA a) (.i k) (kA a) false) (xI ce3 (E:=encI) (l:=a) rfl rfl c (nl rfl) rfl)) (ac (hs (.done (.opt (qc ZT 22 (.gslice 0 a.length 1) (.i (w64 (i-1))))) (.ptr 0 ((w64 (i-1):Int).toNat*1+0))) (jB yo b)) (ac (hs (.run [0] (zF ZT 3 (.ptr 0 ((w64 (i-1):Int).toNat*1+0))) (kA a) (.i o) (kA a) false) (xI ce3 (E:=encI) (l:=a) rfl rfl b (nl rfl) rfl)) (ac (hs (.done (.opt (qc ZT 22 (.gslice 0 a.length 1) (.i (w64 (i-1))))) (.ptr 0 ((w64 (i-1):Int).toNat*1+0))) (jB yo b)) (ac (hs (.run [0] (jy ZT 3 (.ptr 0 ((w64 (i-1):Int).toNat*1+0)) (.i k)) (kA a) .undef (kA p) true) (xc (E:=encI) (l:=a) (y:=k) rfl (show _=some 1 by kernel_rfl) rfl b rfl rfl rfl rfl rfl d rfl)) (ac (hs (.done (.opt (qc ZT 22 (.gslice 0 a.length 1) (.i i))) (.ptr 0 ((i:Int).toNat*1+0))) (jB yo c)) (ac (hs (.run [0] (jy ZT 3 (.ptr 0 ((i:Int).toNat*1+0)) (.i o)) (kA p) .undef (kA f) true) (xc (E:=encI) (l:=p) (y:=o) rfl (show _=some 1 by kernel_rfl) rfl j rfl rfl rfl rfl rfl e rfl)) az)))))))) ?_)
 refine Goes.sub (show Sub (ofG 25 (kU a []),(kA f)) (ofG 25 (kU f []),(kA f))from(Sub.norm [] [some 0] rfl rfl (.keep (.gsliceE rfl ((ve d).trans (ve e))) .nil) (.ks .nil))) ?_
 refine sh fol (kAE f []) ?_
 refine Goes.ret ?_
 obtain rfl:=si h
 exact(gw2 [.gslice 0 f.length 1] (Uw (Fz.gs (E:=encI) rfl rfl (nl rfl))))
def zn (p:List Int) (q:List Int):Nat->(List Int)->Int->Option (List Int)
 |0,_,_=>none
 |K+1,b,a=>
  if a<(p.length:Int)then
  (idx p a).bind fun c=>
  (idx q c).bind fun d=>
  (app 8 b [d]).bind fun e=>
  zn p q K e (w64 (a+1))
  else
  some b
def zz (N:Nat) (p:List Int) (q:List Int):Option (List Int):=
 (zn p q N ([]:List Int) 0).bind fun a=>
 some a
theorem jA (N:Nat) (p:List Int) (q:List Int) {res:List Int} (h:zz N p q=some res):qb ZT (.fn 84) (kAi p q) [] (vl encI res) []:=by
 unfold zz at h
 refine Ub Tryz.func84 rfl rfl (m:=24) rfl (rs:=[.tmp 4]) rfl (l:=(kH p (kQ q []))) rfl ?_
 refine sh fol (kH p (kQ q [])) ?_
 refine sh fol (kH p (kQ q [(5,.nilslice)])) ?_
 refine sq ?_
 refine sh fol (kH p (kQ q [(5,.nilslice),(6,.i 0)])) ?_
 refine Goes.block ?_
 obtain⟨k,g4,h⟩:=bnd h
 refine Goes.imp (Q:=fun x s'=>(x= .exit 0/\ ∃f,f=k/\Sub s' (ofG 24 (kU f []),(kA f)))) ?_ ?_
 ·refine Goes.sub (s':=(ofG 24 (kH p (kQ q [(5,.gslice 0 ([]:List Int).length 1),(6,.i 0)])),kZ)) (Sub.norm [] [none] rfl rfl (.keep (.same (qB encI _)) (.keep (.same (qB encI _)) (.keep .nil (.keep (.same nI) .nil)))) (.fresh .nil)) ?_
  refine Uc (fun M s=> ∃(a:List Int) (b:Int),s=(ofG 24 (kH p (kQ q (kU a (kBQ b)))),(kA a))/\zn p q M a b=some k) ?_ (m:=N) ⟨_,_,rfl,g4⟩
  rintro M s ⟨a,b,rfl,g4⟩
  cases M with
  |zero=>simp only[zn]at g4;cases g4
  |succ M=>
   rw[zn]at g4
   refine sq ?_
   refine sh fol (kH p (kQ q (kU a ((6,.i b)::(kAq (decide (b<(p.length:Int)))))))) ?_
   refine ihD g4 (fun n g4=>?_) (fun n g4=>?_)
   ·refine Goes.skip ?_
    refine sq (Goes.block ?_)
    obtain⟨o,c,g4⟩:=bnd g4
    obtain⟨j,d,g4⟩:=bnd g4
    obtain⟨e,g,g4⟩:=bnd g4
    refine gq fol [4,5,6,7,9] (kH p (kQ q ((5,.gslice 2 e.length 1)::(kBQ b)))) (kAD j (kA e)) (ac (iv yo encI c) (ac (lv 0 ce3 encI c rfl) (ac (iv yo encI d) (ac (lv 0 ce3 encI d rfl) (ac (hs (.run [0,1] (vo ZT [22,22] (.gslice 0 a.length 1) (.slice 1 0 1 1 1)) (kJ a (kAu j [])) (.gslice 2 e.length 1) (kAD j (kA e)) true) (xn yo (E:=encI) rfl (qbR (E:=encI) (ys:=[j]) rfl rfl rfl rfl) (qbS (E:=encI) (l:=a) rfl rfl rfl g rfl))) az))))) ?_
    refine gh fol (kH p (kQ q ((5,.gslice 2 e.length 1)::(kBQ (w64 (b+1)))))) ?_
    exact⟨M,(ofG 24 (kH p (kQ q (kU e (kBQ (w64 (b+1)))))),(kA e)),Nat.lt_succ_self _,(Sub.norm [] [some 2] rfl rfl (.keep (.same (qB encI _)) (.keep (.same (qB encI _)) (.keep (.gslice rfl) (.keep (.same nI) .nil)))) (.ks .nil)),_,_,rfl,g4⟩
   refine Goes.exit ?_
   obtain rfl:=si g4
   exact⟨rfl,_,rfl,(Sub.keep [5] rfl rfl)⟩
 rintro x s' ⟨rfl,f,rfl,hsub⟩
 refine Goes.sub hsub ?_
 refine sh fol (kAE f []) ?_
 refine Goes.ret ?_
 obtain rfl:=si h
 exact(gw2 [.gslice 0 f.length 1] (Uw (Fz.gs (E:=encI) rfl rfl (nl rfl))))
def kE (N:Nat) (a:List (List Int)) (b:Int):Nat->Int->Option (Unit⊕((List (List Int))×Bool))
 |0,_=>none
 |K+1,d=>
  (idx a b).bind fun c=>
  if d<(c.length:Int)then
  ((vF c d).bind fun g=>
  if g=true then
  (idx a (w64 (b-1))).bind fun h=>
  (y9 N h d).bind fun i=>
  some (!i)
  else
  some false:Option Bool).bind fun j=>
  if j=true then
  (jv N (c.length:Int) d).bind fun e=>
  (idx a (w64 (b-1))).bind fun k=>
  (zz N k e).bind fun l=>
  (put a (w64 (b-1)) l).bind fun f=>
  (idx f b).bind fun m=>
  (zz N e m).bind fun n=>
  (put f b n).bind fun o=>
  some (.inr (o,true))
  else
  kE N a b K (w64 (d+1))
  else
  some (.inl ())
def kF (N:Nat) (a:List (List Int)):Nat->Int->Option (Unit⊕((List (List Int))×Bool))
 |0,_=>none
 |K+1,b=>
  if b<(a.length:Int)then
  (kE N a b N 1).bind (fun
  |(.inl ())=>
  kF N a K (w64 (b+1))
  |(.inr c)=>
  some (.inr c))
  else
  some (.inl ())
def jo (N:Nat) (a:List (List Int)):Option ((List (List Int))×Bool):=
 (kF N a N 1).bind (fun
 |(.inl ())=>
 some (a,false)
 |(.inr b)=>
 some b)
theorem qbE (N:Nat) (a:List (List Int)) {W:List (List Int)} {X:Bool} (h:jo N a=some (W,X)):qb ZT (.fn 85) [.gslice 0 a.length 1] [.cells (a.flatMap (qa encI).c)] (.bool X) [.cells (W.flatMap (qa encI).c)]:=by
 unfold jo at h
 refine Uq Tryz.func85 rfl rfl (m:=64) rfl (rs:=[.tmp 2]) rfl (l:=(kS a [])) rfl ?_
 intro B hB
 refine sh fol (kS a []) ?_
 refine sq ?_
 refine sh fol (kS a [(3,.i 1)]) ?_
 refine Goes.block ?_
 obtain⟨J,g4,h⟩:=bnd h
 refine Goes.imp (Q:=fun x s'=>(x= .exit 0/\(.inl ())=J/\Sub s' (ofG 64 [],[.cells (a.flatMap (qa encI).c)]))\/(x= .ret/\ ∃K,(.inr K)=J/\qaK ZT [.tmp 2] (.bool K.2) [.cells (K.1.flatMap (qa encI).c)] .ret s')) ?_ ?_
 ·refine Uc (fun M s=> ∃(b:Int),s=(ofG 64 (kS a (kAy b)),[.cells (a.flatMap (qa encI).c)])/\kF N a M b=some J) ?_ (m:=N) ⟨_,rfl,g4⟩
  rintro M s ⟨b,rfl,g4⟩
  cases M with
  |zero=>simp only[kF]at g4;cases g4
  |succ M=>
   rw[kF]at g4
   refine sq ?_
   refine sh fol (kS a [(3,.i b),(9,.bool (decide (b<(a.length:Int))))]) ?_
   refine ihD g4 (fun Y g4=>?_) (fun Y g4=>?_)
   ·refine Goes.skip ?_
    refine sq (Goes.block ?_)
    refine sh fol (kS a [(3,.i b),(4,.i 1)]) ?_
    refine Goes.block ?_
    obtain⟨L,g8,g4⟩:=bnd g4
    refine Goes.imp (Q:=fun x s'=>(x= .exit 2/\(.inl ())=L/\Sub s' (ofG 64 (kS a (kAy b)),[.cells (a.flatMap (qa encI).c)]))\/(x= .ret/\ ∃O,(.inr O)=L/\qaK ZT [.tmp 2] (.bool O.2) [.cells (O.1.flatMap (qa encI).c)] .ret s')) ?_ ?_
    ·refine Uc (fun M s=> ∃(n:Int),s=(ofG 64 (kS a ((3,.i b)::(kAX n))),[.cells (a.flatMap (qa encI).c)])/\kE N a b M n=some L) ?_ (m:=N) ⟨_,rfl,g8⟩
     rintro M s ⟨n,rfl,g8⟩
     cases M with
     |zero=>simp only[kE]at g8;cases g8
     |succ M=>
      rw[kE]at g8
      refine sq ?_
      obtain⟨k,e,g8⟩:=bnd g8
      refine sq (gr fol [3,4] (kS a [(3,.i b),(4,.i n),(18,.bool (decide (n<(k.length:Int))))]) (ac (hs (.done (.opt (qc ZT 23 (.gslice 0 a.length 1) (.i b))) (.ptr 0 ((b:Int).toNat*1+0))) (jB xA e)) (ac (hs (.run [0] (zF ZT 22 (.ptr 0 ((b:Int).toNat*1+0))) [.cells (a.flatMap (qa encI).c)] (vl encI k) [.cells (a.flatMap (qa encI).c)] false) (xI qbn (E:=(qa encI)) (l:=a) rfl rfl e (nl rfl) rfl)) az)) ?_)
      refine ihD g8 (fun P g8=>?_) (fun P g8=>?_)
      ·refine Goes.skip ?_
       refine sq (Goes.block ?_)
       refine sq ?_
       obtain⟨T,d,g8⟩:=bnd g8
       refine Goes.cut (s':=(ofG 64 (kS a [(3,.i b),(4,.i n),(36,.bool T)]),[.cells (a.flatMap (qa encI).c)])) ?_ ?_
       ·obtain⟨Z,p,d⟩:=bnd d
        rcases wyB d with⟨u,d⟩|⟨u,d⟩
        ·obtain⟨D,q,d⟩:=bnd d
         obtain⟨U,v,d⟩:=bnd d
         obtain rfl:=si d
         exact tr fol [2,3,5,6,10,11,13] (kS a [(3,.i b),(4,.i n),(36,.bool (!U))]) (ac (hs (.done (.opt (qc ZT 23 (.gslice 0 a.length 1) (.i b))) (.ptr 0 ((b:Int).toNat*1+0))) (jB xA e)) (ac (hs (.run [0] (zF ZT 22 (.ptr 0 ((b:Int).toNat*1+0))) [.cells (a.flatMap (qa encI).c)] (vl encI k) [.cells (a.flatMap (qa encI).c)] false) (xI qbn (E:=(qa encI)) (l:=a) rfl rfl e (nl rfl) rfl)) (ac (cv (yI k n p)) (ac (gw u) (ac (hs (.done (.opt (qc ZT 23 (.gslice 0 a.length 1) (.i (w64 (b-1))))) (.ptr 0 ((w64 (b-1):Int).toNat*1+0))) (jB xA q)) (ac (hs (.run [0] (zF ZT 22 (.ptr 0 ((w64 (b-1):Int).toNat*1+0))) [.cells (a.flatMap (qa encI).c)] (vl encI D) [.cells (a.flatMap (qa encI).c)] false) (xI qbn (E:=(qa encI)) (l:=a) rfl rfl q (nl rfl) rfl)) (ac (cv (qc7 N D n v)) az)))))))
        obtain rfl:=si d
        exact tr fol [2,3,5,6] (kS a [(3,.i b),(4,.i n),(36,.bool false)]) (ac (hs (.done (.opt (qc ZT 23 (.gslice 0 a.length 1) (.i b))) (.ptr 0 ((b:Int).toNat*1+0))) (jB xA e)) (ac (hs (.run [0] (zF ZT 22 (.ptr 0 ((b:Int).toNat*1+0))) [.cells (a.flatMap (qa encI).c)] (vl encI k) [.cells (a.flatMap (qa encI).c)] false) (xI qbn (E:=(qa encI)) (l:=a) rfl rfl e (nl rfl) rfl)) (ac (cv (yI k n p)) (ac (gw u) az))))
       refine ihB g8 (fun V g8=>?_) (fun V g8=>?_)
       ·obtain⟨o,w,g8⟩:=bnd g8
        refine sq (gr fol [2,3,6] (kS a [(3,.i b),(5,vl encI o)]) (ac (hs (.done (.opt (qc ZT 23 (.gslice 0 a.length 1) (.i b))) (.ptr 0 ((b:Int).toNat*1+0))) (jB xA e)) (ac (hs (.run [0] (zF ZT 22 (.ptr 0 ((b:Int).toNat*1+0))) [.cells (a.flatMap (qa encI).c)] (vl encI k) [.cells (a.flatMap (qa encI).c)] false) (xI qbn (E:=(qa encI)) (l:=a) rfl rfl e (nl rfl) rfl)) (ac (cv (xq N (k.length:Int) n w)) az))) ?_)
        obtain⟨F,g,g8⟩:=bnd g8
        obtain⟨G,z,g8⟩:=bnd g8
        obtain⟨f,r,g8⟩:=bnd g8
        refine sq (gq fol [6,7,9,10,11] (kS a [(3,.i b),(5,vl encI o)]) [.cells (f.flatMap (qa encI).c)] (ac (hs (.done (.opt (qc ZT 23 (.gslice 0 a.length 1) (.i (w64 (b-1))))) (.ptr 0 ((w64 (b-1):Int).toNat*1+0))) (jB xA g)) (ac (hs (.run [0] (zF ZT 22 (.ptr 0 ((w64 (b-1):Int).toNat*1+0))) [.cells (a.flatMap (qa encI).c)] (vl encI F) [.cells (a.flatMap (qa encI).c)] false) (xI qbn (E:=(qa encI)) (l:=a) rfl rfl g (nl rfl) rfl)) (ac (cv (jA N F o z)) (ac (hs (.done (.opt (qc ZT 23 (.gslice 0 a.length 1) (.i (w64 (b-1))))) (.ptr 0 ((w64 (b-1):Int).toNat*1+0))) (jB xA g)) (ac (hs (.run [0] (jy ZT 22 (.ptr 0 ((w64 (b-1):Int).toNat*1+0)) (vl encI G)) [.cells (a.flatMap (qa encI).c)] .undef [.cells (f.flatMap (qa encI).c)] true) (xc (E:=(qa encI)) (l:=a) (y:=G) rfl (show _=some 1 by kernel_rfl) rfl g rfl rfl rfl rfl rfl r rfl)) az))))) ?_)
        refine Goes.sub (show Sub (ofG 64 (kS a [(3,.i b),(5,vl encI o)]),[.cells (f.flatMap (qa encI).c)]) (ofG 64 (kS f [(3,.i b),(5,vl encI o)]),[.cells (f.flatMap (qa encI).c)])from(Sub.norm [] [some 0] (by rw[hB];rfl) rfl (.keep (.gsliceE rfl (ve r)) (.keep (.same nI) (.keep (.same (qB encI _)) .nil))) (.ks .nil))) ?_
        obtain⟨H,j,g8⟩:=bnd g8
        obtain⟨I,A,g8⟩:=bnd g8
        obtain⟨t,C,g8⟩:=bnd g8
        refine sq (gq fol [5,6,7,8,9] [] [.cells (t.flatMap (qa encI).c)] (ac (hs (.done (.opt (qc ZT 23 (.gslice 0 f.length 1) (.i b))) (.ptr 0 ((b:Int).toNat*1+0))) (jB xA j)) (ac (hs (.run [0] (zF ZT 22 (.ptr 0 ((b:Int).toNat*1+0))) [.cells (f.flatMap (qa encI).c)] (vl encI H) [.cells (f.flatMap (qa encI).c)] false) (xI qbn (E:=(qa encI)) (l:=f) rfl rfl j (nl rfl) rfl)) (ac (cv (jA N o H A)) (ac (hs (.done (.opt (qc ZT 23 (.gslice 0 f.length 1) (.i b))) (.ptr 0 ((b:Int).toNat*1+0))) (jB xA j)) (ac (hs (.run [0] (jy ZT 22 (.ptr 0 ((b:Int).toNat*1+0)) (vl encI I)) [.cells (f.flatMap (qa encI).c)] .undef [.cells (t.flatMap (qa encI).c)] true) (xc (E:=(qa encI)) (l:=f) (y:=I) rfl (show _=some 1 by kernel_rfl) rfl j rfl rfl rfl rfl rfl C rfl)) az))))) ?_)
        refine Goes.sub (show Sub (ofG 64 [],[.cells (t.flatMap (qa encI).c)]) (ofG 64 [],[.cells (t.flatMap (qa encI).c)])from(Sub.norm [] [some 0] (by rw[hB];rfl) rfl .nil (.ks .nil))) ?_
        refine sh fol [(2,.bool true)] ?_
        refine Goes.ret ?_
        obtain rfl:=si g8
        exact Or.inr (⟨rfl,_,rfl,(gh2 [.bool true] (xY.refl _ _))⟩)
       refine Goes.skip ?_
       refine gh fol (kS a ((3,.i b)::(kAX (w64 (n+1))))) ?_
       exact⟨M,(ofG 64 (kS a ((3,.i b)::(kAX (w64 (n+1))))),[.cells (a.flatMap (qa encI).c)]),Nat.lt_succ_self _,(Sub.refl _),_,rfl,g8⟩
      refine Goes.exit ?_
      obtain rfl:=si g8
      exact Or.inl (⟨rfl,rfl,(Sub.keep [0,3] rfl rfl)⟩)
    rintro x s' (⟨rfl,rfl,hsub⟩|⟨rfl,a0,rfl,hret⟩)
    ·try dsimp only at g4
     refine Goes.sub hsub ?_
     refine gh fol (kS a (kAy (w64 (b+1)))) ?_
     exact⟨M,(ofG 64 (kS a (kAy (w64 (b+1)))),[.cells (a.flatMap (qa encI).c)]),Nat.lt_succ_self _,(Sub.refl _),_,rfl,g4⟩
    try dsimp only at g4
    obtain rfl:=si g4
    exact Or.inr (⟨rfl,_,rfl,hret⟩)
   refine Goes.exit ?_
   obtain rfl:=si g4
   exact Or.inl (⟨rfl,rfl,(Sub.keep [] rfl rfl)⟩)
 rintro x s' (⟨rfl,rfl,hsub⟩|⟨rfl,a1,rfl,hret⟩)
 ·try dsimp only at h
  refine Goes.sub hsub ?_
  refine sh fol [(2,.bool false)] ?_
  refine Goes.ret ?_
  simp only[ZI,ZP]at h
  obtain⟨rfl,rfl⟩:=h
  exact(gh2 [.bool false] (xY.refl _ _))
 try dsimp only at h
 obtain rfl:=si h
 exact hret
def zP (N:Nat) (c:List Int) (h:Int):Nat->(List (List Int))->Int->Option (Int×(List (List Int)))
 |0,_,_=>none
 |K+1,a,b=>
  if b<(a.length:Int)then
  (idx a b).bind fun d=>
  (zz N c d).bind fun e=>
  (zz N e c).bind fun f=>
  (put a b f).bind fun g=>
  zP N c h K g (w64 (b+1))
  else
  some (w64 (h-1),a)
def zi (N:Nat) (n:Int) (w:List Int) (b:List Int):Nat->Int->(List (List Int))->Int->Option (Int×(List (List Int)))
 |0,_,_,_=>none
 |K+1,c,d,e=>
  if e<(w.length:Int)then
  (idx w e).bind fun o=>
  (yY o).bind fun f=>
  (jv N n f).bind fun a=>
  ((if o<0 then
  (zP N b c N d 0).bind fun(g,h)=>
  (zz N b a).bind fun i=>
  some (g,h,i)
  else
  some (c,d,a):Option (Int×(List (List Int))×(List Int)))).bind fun(j,k,l)=>
  (app 24 k [l]).bind fun m=>
  zi N n w b K j m (w64 (e+1))
  else
  some (c,d)
def qV (N:Nat):Nat->(List (List Int))->Option (List (List Int))
 |0,_=>none
 |K+1,b=>
  (jo N b).bind fun(a,c)=>
  ((if b.length=a.length then some ()else none:Option Unit)).bind fun d=>
  if c=true then
  qV N K a
  else
  some a
def zg (N:Nat) (g:List Int):Nat->Int->(List (List Int))->Option (Int×(List (List Int)))
 |0,_,_=>none
 |K+1,b,a=>
  (if(a.length:Int)>0 then
  (idx a 0).bind fun c=>
  (zY N c g).bind fun d=>
  some d
  else
  some false:Option Bool).bind fun e=>
  if e=true then
  (cut a 1 (a.length:Int)).bind fun f=>
  zg N g K (w64 (b+1)) f
  else
  some (b,a)
def zf (N:Nat) (n:Int):Nat->(List (List Int))->Option (List (List Int))
 |0,_=>none
 |K+1,a=>
  (if(a.length:Int)>0 then
  (idx a (w64 ((a.length:Int)-1))).bind fun b=>
  (zL N n).bind fun c=>
  (zY N b c).bind fun d=>
  some d
  else
  some false:Option Bool).bind fun e=>
  if e=true then
  (cut a 0 (w64 ((a.length:Int)-1))).bind fun f=>
  zf N n K f
  else
  some a
def ji (N:Nat) (n:Int) (w:List Int):Option zx:=
 (vE N n).bind fun e=>
 (zi N n w e N 0 ([]:List (List Int)) 0).bind fun(f,g)=>
 (qV N N g).bind fun a=>
 (zg N e N f a).bind fun(b,c)=>
 (zf N n N c).bind fun d=>
 some (⟨b,d⟩:zx)
theorem vO (N:Nat) (n:Int) (w:List Int) {res:zx} (h:ji N n w=some res):qb ZT (.fn 24) (kAk n w) [] (.agg [.i res.Half,vl (qa encI) res.Factors]) []:=by
 unfold ji at h
 refine Ub Tryz.func24 rfl rfl (m:=112) rfl (rs:=[.cell 4 36]) rfl (l:=(kB n w [])) rfl ?_
 refine sg fol (kB n w (kA8 [])) [bZ] ?_
 refine sg fol (kB n w (kG [])) [bZ,bZ] ?_
 obtain⟨b,e_r1,h⟩:=bnd h
 refine sq (gr fol [1] (kB n w (kG (kBB b []))) (ac (cv (qbr N n e_r1)) az) ?_)
 refine sq ?_
 refine sh fol (kB n w (kG (kBB b kBJ))) ?_
 refine Goes.block ?_
 obtain⟨r7,g7,h⟩:=bnd h
 refine Goes.imp (Q:=fun x s'=>(x= .exit 0/\ ∃J l6,(J,l6)=r7/\Sub s' (ofG 112 ((0,.i n)::(kG (kBB b []))),(kL J l6 [.cells (l6.flatMap (qa encI).c)])))) ?_ ?_
 ·refine Goes.sub (s':=(ofG 112 (kB n w (kG (kBB b kBJ))),[bZ,.cells [.i 0,.gslice 2 ([]:List (List Int)).length 1],.cells (([]:List (List Int)).flatMap (qa encI).c)])) (Sub.norm [] [some 0,some 1,none] rfl rfl (.keep (.same nI) (.keep (.same (qB encI _)) (.kp (.kp (.keep (.same (qB encI _)) (.keep (.same nI) .nil)))))) (.kb rfl (.same sn) (.kb rfl (.cells (rc (.same nI) (rc (.nil) rn))) (.fresh .nil)))) ?_
  refine Uc (fun M s=> ∃(D:Int) (l3:List (List Int)) (q:Int),s=(ofG 112 (kB n w (kG (kM b q []))),(kL D l3 [.cells (l3.flatMap (qa encI).c)]))/\zi N n w b M D l3 q=some r7) ?_ (m:=N) ⟨_,_,_,rfl,g7⟩
  rintro M s ⟨D,l3,q,rfl,g7⟩
  cases M with
  |zero=>simp only[zi]at g7;cases g7
  |succ M=>
   rw[zi]at g7
   refine sq ?_
   refine sh fol (kB n w (kG (kM b q [(15,.bool (decide (q<(w.length:Int))))]))) ?_
   refine ihD g7 (fun c8 g7=>?_) (fun c8 g7=>?_)
   ·refine Goes.skip ?_
    refine sq (Goes.block ?_)
    obtain⟨x9,F,g7⟩:=bnd g7
    obtain⟨r10,V,g7⟩:=bnd g7
    obtain⟨k,W,g7⟩:=bnd g7
    refine sq (gr fol [3,4,5,6] (kB n w (kG (kM b q [(8,vl encI k)]))) (ac (iv yo encI F) (ac (lv 0 ce3 encI F rfl) (ac (cv (qc0 x9 V)) (ac (cv (xq N n r10 W)) az)))) ?_)
    refine sq ?_
    refine sq (gr fol [2,3] (kB n w (kG (kM b q [(8,vl encI k),(29,.bool (decide (x9<0)))]))) (ac (iv yo encI F) (ac (lv 0 ce3 encI F rfl) az)) ?_)
    obtain⟨r15,g15,g7⟩:=bnd g7
    refine Goes.imp (Q:=fun x s'=>(x= .normal/\ ∃u r v,(u,r,v)=r15/\Sub s' (ofG 112 (kB n w (kG (kM b q [(8,vl encI v)]))),(kL u r [.cells (r.flatMap (qa encI).c)])))) ?_ ?_
    ·refine ihD g15 (fun c16 g15=>?_) (fun c16 g15=>?_)
     ·refine sg fol (kB n w (kG (kM b q [(8,vl encI k)]))) (kL (w64 (D-1)) l3 [.cells (l3.flatMap (qa encI).c)]) ?_
      refine sq ?_
      refine sh fol (kB n w (kG (kM b q [(8,vl encI k),(9,.i 0)]))) ?_
      refine Goes.block ?_
      obtain⟨r21,g21,g15⟩:=bnd g15
      refine Goes.imp (Q:=fun x s'=>(x= .exit 2/\ ∃X T,(X,T)=r21/\Sub s' (ofG 112 (kB n w (kG (kM b q [(8,vl encI k)]))),(kL X T [.cells (T.flatMap (qa encI).c)])))) ?_ ?_
      ·refine Uc (fun M s=> ∃(e:List (List Int)) (f:Int),s=(ofG 112 (kB n w (kG (kM b q (kAI k f [])))),(kL (w64 (D-1)) e [.cells (e.flatMap (qa encI).c)]))/\zP N b D M e f=some r21) ?_ (m:=N) ⟨_,_,rfl,g21⟩
       rintro M s ⟨e,f,rfl,g21⟩
       cases M with
       |zero=>simp only[zP]at g21;cases g21
       |succ M=>
        rw[zP]at g21
        refine sq ?_
        refine sh fol (kB n w (kG (kM b q (kAI k f [(38,.bool (decide (f<(e.length:Int))))])))) ?_
        refine ihD g21 (fun c22 g21=>?_) (fun c22 g21=>?_)
        ·refine Goes.skip ?_
         refine sq (Goes.block ?_)
         obtain⟨x23,t,g21⟩:=bnd g21
         obtain⟨r24,Y,g21⟩:=bnd g21
         obtain⟨r25,Z,g21⟩:=bnd g21
         obtain⟨z,K,g21⟩:=bnd g21
         refine gq fol [7,8,9,11,12,13] (kB n w (kG (kM b q (kAI k f [])))) (kL (w64 (D-1)) e [.cells (z.flatMap (qa encI).c)]) (ac (hs (.done (.opt (qc ZT 23 (.gslice 2 e.length 1) (.i f))) (.ptr 2 ((f:Int).toNat*1+0))) (jB xA t)) (ac (hs (.run [2] (zF ZT 22 (.ptr 2 ((f:Int).toNat*1+0))) (kL (w64 (D-1)) e [.cells (e.flatMap (qa encI).c)]) (vl encI x23) (kL (w64 (D-1)) e [.cells (e.flatMap (qa encI).c)]) false) (xI qbn (E:=(qa encI)) (l:=e) rfl rfl t (nl rfl) rfl)) (ac (cv (jA N b x23 Y)) (ac (cv (jA N r24 b Z)) (ac (hs (.done (.opt (qc ZT 23 (.gslice 2 e.length 1) (.i f))) (.ptr 2 ((f:Int).toNat*1+0))) (jB xA t)) (ac (hs (.run [2] (jy ZT 22 (.ptr 2 ((f:Int).toNat*1+0)) (vl encI r25)) (kL (w64 (D-1)) e [.cells (e.flatMap (qa encI).c)]) .undef (kL (w64 (D-1)) e [.cells (z.flatMap (qa encI).c)]) true) (xc (E:=(qa encI)) (l:=e) (y:=r25) rfl (show _=some 1 by kernel_rfl) rfl t rfl rfl rfl rfl rfl K rfl)) az)))))) ?_
         refine Goes.sub (show Sub (ofG 112 (kB n w (kG (kM b q (kAI k f [])))),(kL (w64 (D-1)) e [.cells (z.flatMap (qa encI).c)])) (ofG 112 (kB n w (kG (kM b q (kAI k f [])))),(kL (w64 (D-1)) z [.cells (z.flatMap (qa encI).c)]))from(Sub.norm [] [some 0,some 1,some 2] rfl rfl (.keep (.same nI) (.keep (.same (qB encI _)) (.kp (.kp (.keep (.same (qB encI _)) (.keep (.same nI) (.keep (.same (qB encI _)) (.keep (.same nI) .nil)))))))) (.kb rfl (.same sn) (.kb rfl (.cells (rc (.same nI) (rc (.gsliceE rfl (ve K)) rn))) (.ks .nil))))) ?_
         refine gh fol (kB n w (kG (kM b q (kAI k (w64 (f+1)) [])))) ?_
         exact⟨M,(ofG 112 (kB n w (kG (kM b q (kAI k (w64 (f+1)) [])))),(kL (w64 (D-1)) z [.cells (z.flatMap (qa encI).c)])),Nat.lt_succ_self _,(Sub.refl _),_,_,rfl,g21⟩
        refine Goes.exit ?_
        obtain rfl:=si g21
        exact⟨rfl,_,_,rfl,(Sub.keep [0,1,4,5,6,7,8] rfl rfl)⟩
      rintro x s' ⟨rfl,X,T,rfl,hsub⟩
      try dsimp only at g15
      refine Goes.sub hsub ?_
      obtain⟨r27,a0,g15⟩:=bnd g15
      refine gr fol [2] (kB n w (kG (kM b q [(8,vl encI r27)]))) (ac (cv (jA N b k a0)) az) ?_
      obtain rfl:=si g15
      exact⟨rfl,_,_,_,rfl,(Sub.refl _)⟩
     refine Goes.skip ?_
     obtain rfl:=si g15
     exact⟨rfl,_,_,_,rfl,(Sub.keep [0,1,4,5,6,7,8] rfl rfl)⟩
    rintro x s' ⟨rfl,u,r,v,rfl,hsub⟩
    try dsimp only at g7
    refine Goes.sub hsub ?_
    obtain⟨G,a1,g7⟩:=bnd g7
    refine gq fol [4] (kB n w (kG (kM b q []))) (bZ:: .cells [.i u,.gslice 4 G.length 1]:: .dead::(kAm v [.cells (G.flatMap (qa encI).c)])) (ac (hs (.run [2,3] (vo ZT [23,23] (.gslice 2 r.length 1) (.slice 3 0 1 1 1)) (kL u r (.cells (r.flatMap (qa encI).c)::(kAm v []))) (.gslice 4 G.length 1) (kL u r (.dead::(kAm v [.cells (G.flatMap (qa encI).c)]))) true) (xn xA (E:=(qa encI)) rfl (qbR (E:=(qa encI)) (ys:=[v]) rfl rfl rfl rfl) (qbS (E:=(qa encI)) (l:=r) rfl rfl rfl a1 rfl))) az) ?_
    refine gh fol (kB n w (kG (kM b (w64 (q+1)) []))) ?_
    exact⟨M,(ofG 112 (kB n w (kG (kM b (w64 (q+1)) []))),(kL u G [.cells (G.flatMap (qa encI).c)])),Nat.lt_succ_self _,(Sub.norm [] [some 0,some 1,some 4] rfl rfl (.keep (.same nI) (.keep (.same (qB encI _)) (.kp (.kp (.keep (.same (qB encI _)) (.keep (.same nI) .nil)))))) (.kb rfl (.same sn) (.kb rfl (.cells (rc (.same nI) (rc (.gslice rfl) rn))) (.ks .nil)))),_,_,_,rfl,g7⟩
   refine Goes.exit ?_
   obtain rfl:=si g7
   exact⟨rfl,_,_,rfl,(Sub.keep [0,4,5,6] rfl rfl)⟩
 rintro x s' ⟨rfl,J,l6,rfl,hsub⟩
 try dsimp only at h
 refine Goes.sub hsub ?_
 refine sq (Goes.block ?_)
 obtain⟨r31,g31,h⟩:=bnd h
 refine Goes.imp (Q:=fun x s'=>(x= .exit 4/\ ∃L,L=r31/\Sub s' (ofG 112 ((0,.i n)::(kG (kBB b []))),(kL J L [.cells (L.flatMap (qa encI).c)])))) ?_ ?_
 ·refine Uc (fun M s=> ∃(o:List (List Int)),s=(ofG 112 ((0,.i n)::(kG (kBB b []))),(kL J o [.cells (o.flatMap (qa encI).c)]))/\qV N M o=some r31) ?_ (m:=N) ⟨_,rfl,g31⟩
  rintro M s ⟨o,rfl,g31⟩
  cases M with
  |zero=>simp only[qV]at g31;cases g31
  |succ M=>
   rw[qV]at g31
   refine sq ?_
   obtain⟨⟨A,U⟩,a2,g31⟩:=bnd g31
   try dsimp only at g31
   obtain⟨u35,a3,g31⟩:=bnd g31
   refine sq (gq fol [2] ((0,.i n)::(kG (kBB b [(65,.bool U)]))) (kL J o [.cells (A.flatMap (qa encI).c)]) (ac (hs (.callH 85 [.gslice 2 o.length 1] (kL J o [.cells (o.flatMap (qa encI).c)]) [2] (.bool U) (kL J o [.cells (A.flatMap (qa encI).c)])) (xz [some 2] [none,none,some 0] (qbE N o a2) (.ks .nil) rfl rfl (.old rfl rfl (.old rfl rfl (.back rfl rfl (.same fa) rfl .nil))) (rc (.gslice rfl) rn) (.same nB) rfl)) az) ?_)
   refine Goes.sub (show Sub (ofG 112 ((0,.i n)::(kG (kBB b [(65,.bool U)]))),(kL J o [.cells (A.flatMap (qa encI).c)])) (ofG 112 ((0,.i n)::(kG (kBB b [(65,.bool U)]))),(kL J A [.cells (A.flatMap (qa encI).c)]))from(Sub.norm [] [some 0,some 1,some 2] rfl rfl (.keep (.same nI) (.kp (.kp (.keep (.same (qB encI _)) (.keep (.same nB) .nil))))) (.kb rfl (.same sn) (.kb rfl (.cells (rc (.same nI) (rc (.gsliceE rfl (qdy a3)) rn))) (.ks .nil))))) ?_
   refine ihB g31 (fun c36 g31=>?_) (fun c36 g31=>?_)
   ·refine Goes.skip ?_
    refine Goes.block ?_
    refine Goes.skip ?_
    exact⟨M,(ofG 112 ((0,.i n)::(kG (kBB b []))),(kL J A [.cells (A.flatMap (qa encI).c)])),Nat.lt_succ_self _,(Sub.keep [0,4,5,6] rfl rfl),_,rfl,g31⟩
   refine Goes.exit ?_
   obtain rfl:=si g31
   exact⟨rfl,_,rfl,(Sub.keep [0,4,5,6] rfl rfl)⟩
 rintro x s' ⟨rfl,L,rfl,hsub⟩
 refine Goes.sub hsub ?_
 refine sq (Goes.block ?_)
 obtain⟨r41,g41,h⟩:=bnd h
 refine Goes.imp (Q:=fun x s'=>(x= .exit 6/\ ∃g a4,(g,a4)=r41/\Sub s' (ofG 112 ((0,.i n)::(kG [])),[bZ,.cells [.i g,vl (qa encI) a4]]))) ?_ ?_
 ·refine Goes.sub (s':=(ofG 112 ((0,.i n)::(kG (kBB b []))),[bZ,.cells [.i J,vl (qa encI) L]])) (Sub.norm [2] [some 0,some 1] rfl rfl (.keep (.same nI) (.kp (.kp (.keep (.same (qB encI _)) .nil)))) (.kb rfl (.same sn) (.kb rfl (.cells (rc (.same nI) (rc (.frz (Fz.gs (E:=(qa encI)) rfl rfl (nl rfl)) (qB (qa encI) _)) rn))) .nil))) ?_
  refine Uc (fun M s=> ∃(B:Int) (H:List (List Int)),s=(ofG 112 ((0,.i n)::(kG (kBB b []))),[bZ,.cells [.i B,vl (qa encI) H]])/\zg N b M B H=some r41) ?_ (m:=N) ⟨_,_,rfl,g41⟩
  rintro M s ⟨B,H,rfl,g41⟩
  cases M with
  |zero=>simp only[zg]at g41;cases g41
  |succ M=>
   rw[zg]at g41
   refine sq ?_
   refine sq ?_
   obtain⟨b45,d,g41⟩:=bnd g41
   refine Goes.cut (s':=(ofG 112 ((0,.i n)::(kG (kBB b [(77,.bool b45)]))),[bZ,.cells [.i B,vl (qa encI) H]])) ?_ ?_
   ·rcases wyD d with⟨a5,d⟩|⟨a5,d⟩
    ·obtain⟨x43,O,d⟩:=bnd d
     obtain⟨r44,a6,d⟩:=bnd d
     obtain rfl:=si d
     exact tr fol [4,7,8,10] ((0,.i n)::(kG (kBB b [(77,.bool r44)]))) (ac (gw a5) (ac (iv xA (qa encI) O) (ac (lv 0 qbn (qa encI) O rfl) (ac (cv (vZ N x43 b a6)) az))))
    obtain rfl:=si d
    exact tr fol [4] ((0,.i n)::(kG (kBB b [(77,.bool false)]))) (ac (gw a5) az)
   refine ihB g41 (fun c47 g41=>?_) (fun c47 g41=>?_)
   ·refine Goes.skip ?_
    refine Goes.block ?_
    refine sg fol ((0,.i n)::(kG (kBB b []))) [bZ,.cells [.i (w64 (B+1)),vl (qa encI) H]] ?_
    obtain⟨a7,a8,g41⟩:=bnd g41
    refine gq fol [2] ((0,.i n)::(kG (kBB b []))) [bZ,.cells [.i (w64 (B+1)),vl (qa encI) a7]] (ac (hs (.done (.opt (qbj ZT 23 (vl (qa encI) H) (some (.i 1)) none none)) (vl (qa encI) a7)) (qiQ xA (E:=(qa encI)) rfl (some 1) none a8)) az) ?_
    exact⟨M,(ofG 112 ((0,.i n)::(kG (kBB b []))),[bZ,.cells [.i (w64 (B+1)),vl (qa encI) a7]]),Nat.lt_succ_self _,(Sub.refl _),_,_,rfl,g41⟩
   refine Goes.exit ?_
   obtain rfl:=si g41
   exact⟨rfl,_,_,rfl,(Sub.keep [0,4,5] rfl rfl)⟩
 rintro x s' ⟨rfl,g,a4,rfl,hsub⟩
 try dsimp only at h
 refine Goes.sub hsub ?_
 refine sq (Goes.block ?_)
 obtain⟨r51,j,h⟩:=bnd h
 refine Goes.imp (Q:=fun x s'=>(x= .exit 8/\ ∃I,I=r51/\Sub s' (ofG 112 (kG []),[bZ,.cells [.i g,vl (qa encI) I]]))) ?_ ?_
 ·refine Uc (fun M s=> ∃(p:List (List Int)),s=(ofG 112 ((0,.i n)::(kG [])),[bZ,.cells [.i g,vl (qa encI) p]])/\zf N n M p=some r51) ?_ (m:=N) ⟨_,rfl,j⟩
  rintro M s ⟨p,rfl,j⟩
  cases M with
  |zero=>simp only[zf]at j;cases j
  |succ M=>
   rw[zf]at j
   refine sq ?_
   refine sq ?_
   obtain⟨b57,a,j⟩:=bnd j
   refine Goes.cutS (s':=(ofG 112 ((0,.i n)::(kG [(102,.bool b57)])),[bZ,.cells [.i g,vl (qa encI) p]])) ?_ ?_
   ·rcases wyD a with⟨a9,a⟩|⟨a9,a⟩
    ·obtain⟨b0,P,a⟩:=bnd a
     obtain⟨C,b1,a⟩:=bnd a
     obtain⟨r56,b2,a⟩:=bnd a
     obtain rfl:=si a
     exact vJ.sub (vJ.rq fol [4,11,12,14,15] ((0,.i n)::(kG [(102,.bool r56)])) (bZ:: .cells [.i g,vl (qa encI) p]::(kA C)) (ac (gw a9) (ac (iv xA (qa encI) P) (ac (lv 0 qbn (qa encI) P rfl) (ac (hs (.callH 86 [.i n] [bZ,.cells [.i g,vl (qa encI) p]] [] (.gslice 2 C.length 1) (bZ:: .cells [.i g,vl (qa encI) p]::(kA C))) (xz [] [none,none,some 0] (yC N n b1) .nil rfl rfl (.old rfl rfl (.old rfl rfl (.new rfl rfl (.same fa) rfl .nil))) (rc (.same nI) rn) (.gslice rfl) rfl)) (ac (hs (.call 32 [vl encI b0,.gslice 2 C.length 1] (bZ:: .cells [.i g,vl (qa encI) p]::(kA C)) [2] (kAi b0 C) (.bool r56)) (qcJ (FzL.cons (Uk (ja encI _ (nl rfl))) (FzL.cons (Fz.gs (E:=encI) rfl rfl (nl rfl)) FzL.nil)) (vZ N b0 C b2) tB rfl)) az)))))) (Sub.norm [] [some 0,some 1] rfl rfl (.keep (.same nI) (.kp (.kp (.keep (.same nB) .nil)))) (.kb rfl (.same sn) (.kb rfl (.same sn) .nil)))
    obtain rfl:=si a
    exact vJ.sub (tr fol [4] ((0,.i n)::(kG [(102,.bool false)])) (ac (gw a9) az)) (Sub.refl _)
   intro _ hsub
   refine Goes.sub hsub ?_
   refine ihB j (fun c59 j=>?_) (fun c59 j=>?_)
   ·refine Goes.skip ?_
    refine Goes.block ?_
    obtain⟨b3,b4,j⟩:=bnd j
    refine gq fol [6] ((0,.i n)::(kG [])) [bZ,.cells [.i g,vl (qa encI) b3]] (ac (hs (.done (.opt (qbj ZT 23 (vl (qa encI) p) none (some (.i (w64 ((p.length:Int)-1)))) none)) (vl (qa encI) b3)) (qiQ xA (E:=(qa encI)) rfl none (some (w64 ((p.length:Int)-1))) b4)) az) ?_
    exact⟨M,(ofG 112 ((0,.i n)::(kG [])),[bZ,.cells [.i g,vl (qa encI) b3]]),Nat.lt_succ_self _,(Sub.refl _),_,rfl,j⟩
   refine Goes.exit ?_
   obtain rfl:=si j
   exact⟨rfl,_,rfl,(Sub.keep [4,5] rfl rfl)⟩
 rintro x s' ⟨rfl,I,rfl,hsub⟩
 refine Goes.sub hsub ?_
 refine sg fol (kA8 []) [.cells [.i g,vl (qa encI) I],.cells [.i g,vl (qa encI) I]] ?_
 refine Goes.ret ?_
 obtain rfl:=si h
 exact(gw2 [.agg [.i g,vl (qa encI) I]] (FzW.agg (jm.cons (Ua tI) (jm.cons (Ua (ja (qa encI) _ (nl rfl))) jm.nil))))
def vD (a:Bool) (e:Int) (bad:Int) (want:Bool):Option Bool:=
 if(!decide (bad=0))=true then
 (if(!a)=true then
 some (decide (e=bad))
 else
 some false:Option Bool).bind fun b=>
 some b
 else
 (if e=0 then
 some (a==want)
 else
 some false:Option Bool).bind fun c=>
 some c
theorem qaw (a:Bool) (e:Int) (bad:Int) (want:Bool) {res:Bool} (h:vD a e bad want=some res):qb ZT (.fn 25) [.bool a,.i e,.i bad,.bool want] [] (.bool res) []:=by
 unfold vD at h
 refine Ub Tryz.func25 rfl rfl (m:=25) rfl (rs:=[.tmp 8]) rfl (l:=((0,.bool a)::(kAt e bad [(3,.bool want)]))) rfl ?_
 refine sh fol ((0,.bool a)::(kAt e bad [(3,.bool want)])) ?_
 refine sq ?_
 refine sh fol ((0,.bool a)::(kAt e bad ((3,.bool want)::(kAq (!decide (bad=0)))))) ?_
 refine ihB h (fun k h=>?_) (fun k h=>?_)
 ·refine sq ?_
  obtain⟨g,b,h⟩:=bnd h
  refine Goes.cut (s':=(ofG 25 (kAp g),[])) ?_ ?_
  ·rcases wyB b with⟨d,b⟩|⟨d,b⟩
   ·obtain rfl:=si b
    exact tr fol [2] (kAp (decide (e=bad))) (ac (gw d) az)
   obtain rfl:=si b
   exact tr fol [2] kA6 (ac (gw d) az)
  refine Goes.ret ?_
  obtain rfl:=si h
  exact(gw2 [.bool g] (Ua tB))
 refine Goes.skip ?_
 refine sq ?_
 obtain⟨j,c,h⟩:=bnd h
 refine Goes.cut (s':=(ofG 25 (kAp j),[])) ?_ ?_
 ·rcases wyD c with⟨f,c⟩|⟨f,c⟩
  ·obtain rfl:=si c
   exact tr fol [2] (kAp (a==want)) (ac (gw f) az)
  obtain rfl:=si c
  exact tr fol [2] kA6 (ac (gw f) az)
 refine Goes.ret ?_
 obtain rfl:=si h
 exact(gw2 [.bool j] (Ua tB))
def xm (N:Nat) (n:Int) (a:List Int) (b:List Int):Option Bool:=
 (ji N n a).bind fun c=>
 (ji N n b).bind fun d=>
 (jE N c d).bind fun e=>
 some e
theorem qco (N:Nat) (n:Int) (a:List Int) (b:List Int) {res:Bool} (h:xm N n a b=some res):qb ZT (.fn 26) (.i n::(kAi a b)) [] (.bool res) []:=by
 unfold xm at h
 refine Ub Tryz.func26 rfl rfl (m:=14) rfl (rs:=[.tmp 6]) rfl (l:=(kB n a (kAZ b []))) rfl ?_
 refine sh fol (kB n a (kAZ b [])) ?_
 obtain⟨g,c,h⟩:=bnd h
 obtain⟨j,d,h⟩:=bnd h
 obtain⟨f,e,h⟩:=bnd h
 refine sq (gr fol [2,5,6] (kBG f) (ac (cv (vO N n a c)) (ac (cv (vO N n b d)) (ac (cv (xx N g j e)) az))) ?_)
 refine Goes.ret ?_
 obtain rfl:=si h
 exact(gw2 [.bool f] (Ua tB))
end Go.Av
