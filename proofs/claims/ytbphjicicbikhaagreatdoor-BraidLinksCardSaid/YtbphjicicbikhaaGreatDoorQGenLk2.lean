/-
  Walks of functions: what each computes, as a plain function.
-/
import Derived.Test.YtbphjicicbikhaaGreatDoorQGenLk1
noncomputable section
namespace Go.Av
open Go.Proofs Go.RowKit
set_option linter.unusedSectionVars false
set_option linter.unusedVariables false
set_option linter.unusedSimpArgs false
set_option maxRecDepth 100000
def ze (a:Int):Nat->(List Int)->Int->Option (List Int)
 |0,_,_=>none
 |K+1,c,b=>
  if b<a then
  (app 8 c [b]).bind fun d=>
  ze a K d (w64 (b+1))
  else
  some c
def jb (N:Nat) (a:Int):Option (List Int):=
 (ze a N ([]:List Int) 0).bind fun b=>
 some b
theorem xc (N:Nat) (a:Int) {g:List Int} (h:jb N a=some g):qg ZT (.fn 54) [.i a] [] (.gslice 0 g.length 1) (kA g []):=by
 unfold jb at h
 refine Ug Tryz.func54 rfl rfl (m:=15) rfl (rs:=[.tmp 2]) rfl (l:=[(0,.i a)]) rfl ?_
 intro B hB
 refine sh fol [(0,.i a)] ?_
 refine sh fol ((0,.i a)::(kAG [])) ?_
 refine sq ?_
 refine sh fol ((0,.i a)::(kAG [(4,.i 0)])) ?_
 refine Goes.block ?_
 obtain⟨j,g5,h⟩:=bnd h
 refine Goes.imp (Q:=fun x s'=>(x= .exit 0/\ ∃e,e=j/\Sub s' (ofG 15 (kR e []),(kA e [])))) ?_ ?_
 ·refine Goes.sub (s':=(ofG 15 [(0,.i a),(3,.gslice 0 ([]:List Int).length 1),(4,.i 0)],kAP)) (Sub.norm [] [none] (by rw[hB];rfl) rfl (.keep (.same nI) (.keep .nil (.keep (.same nI) .nil))) (.fresh .nil)) ?_
  refine Ub (fun M s=> ∃(c:List Int) (b:Int),s=(ofG 15 ((0,.i a)::(kR c (kAO b))),(kA c []))/\ze a M c b=some j) ?_ (m:=N) ⟨_,_,rfl,g5⟩
  rintro M s ⟨c,b,rfl,g5⟩
  cases M with
  |zero=>simp only[ze]at g5;cases g5
  |succ M=>
   rw[ze]at g5
   refine sq ?_
   refine sh fol ((0,.i a)::(kR c [(4,.i b),(7,.bool (decide (b<a)))])) ?_
   refine ihD g5 (fun k g5=>?_) (fun k g5=>?_)
   ·refine Goes.skip ?_
    refine sq (Goes.block ?_)
    obtain⟨d,f,g5⟩:=bnd g5
    refine gq fol [3] ((0,.i a)::(3,.gslice 2 d.length 1)::(kAO b)) (kAI b (kA d [])) (ac (hs (.run [0,1] (ko ZT [22,22] (.gslice 0 c.length 1) (.slice 1 0 1 1 1)) (kA c (kAW b)) (.gslice 2 d.length 1) (kAI b (kA d [])) true) (y9 qI (E:=encI) rfl (qdr (E:=encI) (ys:=[b]) rfl rfl rfl rfl) (qg7 (E:=encI) (l:=c) rfl rfl rfl f rfl))) az) ?_
    refine gh fol ((0,.i a)::(3,.gslice 2 d.length 1)::(kAO (w64 (b+1)))) ?_
    exact⟨M,(ofG 15 ((0,.i a)::(kR d (kAO (w64 (b+1))))),(kA d [])),Nat.lt_succ_self _,(Sub.norm [] [some 2] (by rw[hB];rfl) rfl (.keep (.same nI) (.keep (.gslice rfl) (.keep (.same nI) .nil))) (.ks .nil)),_,_,rfl,g5⟩
   refine Goes.exit ?_
   obtain rfl:=si g5
   exact⟨rfl,_,rfl,(Sub.keep [3] rfl rfl)⟩
 rintro x s' ⟨rfl,e,rfl,hsub⟩
 refine Goes.sub hsub ?_
 refine sh fol [(2,.gslice 0 e.length 1)] ?_
 refine Goes.ret ?_
 obtain rfl:=si h
 exact(gh2 [.gslice 0 e.length 1] (xy.refl _ _))
def jO (n:Int):Nat->(List (List Int))->Int->Option (List (List Int))
 |0,_,_=>none
 |K+1,a,b=>
  if b<n then
  (mk 8 n 0).bind fun c=>
  (app 24 a [c]).bind fun d=>
  jO n K d (w64 (b+1))
  else
  some a
def jL (w:List Int):Nat->(List (List Int))->(List Int)->Int->Option (List (List Int))
 |0,_,_,_=>none
 |K+1,d,e,f=>
  if f<(w.length:Int)then
  (idx w f).bind fun g=>
  (yu g).bind fun b=>
  (idx e (w64 (b-1))).bind fun a=>
  (idx e b).bind fun c=>
  (idx d a).bind fun h=>
  (idx h c).bind fun l=>
  (yj g).bind fun m=>
  (put h c (w64 (l+m))).bind fun i=>
  (idx (qw d a i) c).bind fun j=>
  (idx j a).bind fun n=>
  (yj g).bind fun o=>
  (put j a (w64 (n+o))).bind fun p=>
  (put e (w64 (b-1)) c).bind fun k=>
  (idx k b).bind fun r=>
  (put k b a).bind fun q=>
  jL w K (qw (qw d a i) c p) q (w64 (f+1))
  else
  some d
def xZ (N:Nat) (n:Int) (w:List Int):Option (List (List Int)):=
 (jO n N ([]:List (List Int)) 0).bind fun b=>
 (jb N n).bind fun c=>
 (jL w N b c 0).bind fun a=>
 some a
theorem qbF (N:Nat) (n:Int) (w:List Int) {res:List (List Int)} (h:xZ N n w=some res):qg ZT (.fn 16) (kAR n w) [] (vl (qb encI) res) []:=by
 unfold xZ at h
 refine Uc Tryz.func16 rfl rfl (m:=92) rfl (rs:=[.tmp 4]) rfl (l:=(kG n w [])) rfl ?_
 refine sh fol (kG n w []) ?_
 refine sh fol (kG n w [(5,.nilslice)]) ?_
 refine sq ?_
 refine sh fol (kG n w [(5,.nilslice),(6,.i 0)]) ?_
 refine Goes.block ?_
 obtain⟨r4,g4,h⟩:=bnd h
 refine Goes.imp (Q:=fun x s'=>(x= .exit 0/\ ∃T,T=r4/\Sub s' (ofG 92 ((0,.i n)::(kD w T [])),[bg encI T]))) ?_ ?_
 ·refine Goes.sub (s':=(ofG 92 (kG n w (kAM [(6,.i 0)])),[bg encI ([]:List (List Int))])) (Sub.norm [] [none] rfl rfl (.keep (.same nI) (.keep (.same (qd encI _)) (.keep .nil (.keep (.same nI) .nil)))) (.fresh .nil)) ?_
  refine Ub (fun M s=> ∃(I:List (List Int)) (P:Int),s=(ofG 92 ((0,.i n)::(kD w I [(6,.i P)])),[bg encI I])/\jO n M I P=some r4) ?_ (m:=N) ⟨_,_,rfl,g4⟩
  rintro M s ⟨I,P,rfl,g4⟩
  cases M with
  |zero=>simp only[jO]at g4;cases g4
  |succ M=>
   rw[jO]at g4
   refine sq ?_
   refine sh fol ((0,.i n)::(kD w I [(6,.i P),(14,.bool (decide (P<n)))])) ?_
   refine ihD g4 (fun c5 g4=>?_) (fun c5 g4=>?_)
   ·refine Goes.skip ?_
    refine sq (Goes.block ?_)
    obtain⟨A,U,g4⟩:=bnd g4
    obtain⟨V,W,g4⟩:=bnd g4
    refine gq fol [2,4] (kG n w (kAH V [(6,.i P)])) (.dead::(kA A (kH A [.bag (I.map (zy encI)++[.av (.slice 1 0 A.length A.length 1)])]))) (ac (hs (.run [] (jf ZT 22 (.i n) (.i n)) [bg encI I] (.slice 1 0 A.length A.length 1) (bg encI I::(kA A [])) false) (qbZ qI (E:=encI) (z:=0) rfl (by kernel_rfl) U rfl)) (ac (hs (.run [0,2] (ko ZT [25,25] (.gslice 0 I.length 1) (.slice 2 0 1 1 1)) (bg encI I::(kA A (kH A []))) (.gslice 3 V.length 1) (.dead::(kA A (kH A [.bag (I.map (zy encI)++[.av (.slice 1 0 A.length A.length 1)])]))) true) (qjO yg (E:=encI) (l:=I) (x:=A) rfl rfl rfl rfl rfl W rfl)) az)) ?_
    refine Goes.sub (show Sub (ofG 92 (kG n w (kAH V [(6,.i P)])),(.dead::(kA A (kH A [.bag (I.map (zy encI)++[.av (.slice 1 0 A.length A.length 1)])])))) (ofG 92 (kG n w (kAH V [(6,.i P)])),(.dead:: .dead::(kH A [bg encI V])))from(Sub.bagGiveA (E:=encI) (b:=3) (c:=1) (Nat.ne_of_beq_eq_false rfl) rfl rfl W (.s (qkc U)) rfl)) ?_
    refine gh fol (kG n w (kAH V [(6,.i (w64 (P+1)))])) ?_
    exact⟨M,(ofG 92 ((0,.i n)::(kD w V [(6,.i (w64 (P+1)))])),[bg encI V]),Nat.lt_succ_self _,(Sub.norm [] [some 3] rfl rfl (.keep (.same nI) (.keep (.same (qd encI _)) (.keep (.gslice rfl) (.keep (.same nI) .nil)))) (.kb rfl zS.bgs .nil)),_,_,rfl,g4⟩
   refine Goes.exit ?_
   obtain rfl:=si g4
   exact⟨rfl,_,rfl,(Sub.keep [0,1,5] rfl rfl)⟩
 rintro x s' ⟨rfl,T,rfl,hsub⟩
 refine Goes.sub hsub ?_
 obtain⟨l9,e_r8,h⟩:=bnd h
 refine sq (gq fol [1] (kD w T [(7,.gslice 1 l9.length 1)]) (bg encI T::(kA l9 [])) (ac (hs (.callH 54 [.i n] [bg encI T] [] (.gslice 1 l9.length 1) (bg encI T::(kA l9 []))) (jA [] [none,some 0] (xc N n e_r8) .nil rfl rfl (.old rfl rfl (.new rfl rfl (.same fa) rfl .nil)) (rc (.same nI) rn) (.gslice rfl) rfl)) az) ?_)
 refine sq ?_
 refine sh fol (kD w T [(7,.gslice 1 l9.length 1),(8,.i 0)]) ?_
 refine Goes.block ?_
 obtain⟨r14,g14,h⟩:=bnd h
 refine Goes.imp (Q:=fun x s'=>(x= .exit 2/\ ∃F,F=r14/\Sub s' (ofG 92 (kN F []),[bg encI F]))) ?_ ?_
 ·refine Ub (fun M s=> ∃(d:List (List Int)) (e:List Int) (q:Int),s=(ofG 92 (kD w d (kAF e q [])),(bg encI d::(kA e [])))/\jL w M d e q=some r14) ?_ (m:=N) ⟨_,_,_,rfl,g14⟩
  rintro M s ⟨d,e,q,rfl,g14⟩
  cases M with
  |zero=>simp only[jL]at g14;cases g14
  |succ M=>
   rw[jL]at g14
   refine sq ?_
   refine sh fol (kD w d (kAF e q [(27,.bool (decide (q<(w.length:Int))))])) ?_
   refine ihD g14 (fun c15 g14=>?_) (fun c15 g14=>?_)
   ·refine Goes.skip ?_
    refine sq (Goes.block ?_)
    obtain⟨X,t,g14⟩:=bnd g14
    obtain⟨k,Y,g14⟩:=bnd g14
    refine sq (gr fol [2,3,4] (kD w d (kAF e q [(9,.i k)])) (ac (iv qI encI t) (ac (lv 0 ce3 encI t rfl) (ac (cv (qai X Y)) az))) ?_)
    obtain⟨a,B,g14⟩:=bnd g14
    obtain⟨f,H,g14⟩:=bnd g14
    refine sq (gr fol [3,4,7,8] (kD w d (kK e q k a f)) (ac (hs (.done (.opt (qc ZT 22 (.gslice 1 e.length 1) (.i (w64 (k-1))))) (.ptr 1 ((w64 (k-1):Int).toNat*1+0))) (zV qI B)) (ac (hs (.run [1] (qL ZT 3 (.ptr 1 ((w64 (k-1):Int).toNat*1+0))) (bg encI d::(kA e [])) (.i a) (bg encI d::(kA e [])) false) (yI ce3 (E:=encI) (l:=e) rfl rfl B (nl rfl) rfl)) (ac (hs (.done (.opt (qc ZT 22 (.gslice 1 e.length 1) (.i k))) (.ptr 1 ((k:Int).toNat*1+0))) (zV qI H)) (ac (hs (.run [1] (qL ZT 3 (.ptr 1 ((k:Int).toNat*1+0))) (bg encI d::(kA e [])) (.i f) (bg encI d::(kA e [])) false) (yI ce3 (E:=encI) (l:=e) rfl rfl H (nl rfl) rfl)) az)))) ?_)
    obtain⟨o,u,g14⟩:=bnd g14
    refine sq (Goes.sub (s':=(ofG 92 (kD w d (kK e q k a f)),(.bag ((d.map (zy encI)).set (a:Int).toNat (.av (.gslice 2 o.length 1)))::(kA e (kA o []))))) (Ur (E:=encI) (b:=0) rfl u) ?_)
    obtain⟨Z,C,g14⟩:=bnd g14
    obtain⟨r23,a0,g14⟩:=bnd g14
    obtain⟨j,J,g14⟩:=bnd g14
    refine gq fol [2,3,7,8,10,11,14,15,16,18,19] (kD w d (kK e q k a f)) (.bag ((d.map (zy encI)).set (a:Int).toNat (.av (.gslice 2 o.length 1)))::(kA e (kA j []))) (ac (hs (.done (.opt (qc ZT 25 (.gslice 0 d.length 1) (.i a))) (.ptr 0 ((a:Int).toNat*1+0))) (zV yg u)) (ac (hs (.run [0] (qL ZT 22 (.ptr 0 ((a:Int).toNat*1+0))) (.bag ((d.map (zy encI)).set (a:Int).toNat (.av (.gslice 2 o.length 1)))::(kA e (kA o []))) (.gslice 2 o.length 1) (.bag ((d.map (zy encI)).set (a:Int).toNat (.av (.gslice 2 o.length 1)))::(kA e (kA o []))) false) (qcF qbY rfl (at_set u))) (ac (hs (.done (.opt (qc ZT 25 (.gslice 0 d.length 1) (.i a))) (.ptr 0 ((a:Int).toNat*1+0))) (zV yg u)) (ac (hs (.run [0] (qL ZT 22 (.ptr 0 ((a:Int).toNat*1+0))) (.bag ((d.map (zy encI)).set (a:Int).toNat (.av (.gslice 2 o.length 1)))::(kA e (kA o []))) (.gslice 2 o.length 1) (.bag ((d.map (zy encI)).set (a:Int).toNat (.av (.gslice 2 o.length 1)))::(kA e (kA o []))) false) (qcF qbY rfl (at_set u))) (ac (hs (.done (.opt (qc ZT 22 (.gslice 2 o.length 1) (.i f))) (.ptr 2 ((f:Int).toNat*1+0))) (zV qI C)) (ac (hs (.run [2] (qL ZT 3 (.ptr 2 ((f:Int).toNat*1+0))) (.bag ((d.map (zy encI)).set (a:Int).toNat (.av (.gslice 2 o.length 1)))::(kA e (kA o []))) (.i Z) (.bag ((d.map (zy encI)).set (a:Int).toNat (.av (.gslice 2 o.length 1)))::(kA e (kA o []))) false) (yI ce3 (E:=encI) (l:=o) rfl rfl C (nl rfl) rfl)) (ac (iv qI encI t) (ac (lv 0 ce3 encI t rfl) (ac (cv (qbE X a0)) (ac (hs (.done (.opt (qc ZT 22 (.gslice 2 o.length 1) (.i f))) (.ptr 2 ((f:Int).toNat*1+0))) (zV qI C)) (ac (hs (.run [2] (ku ZT 3 (.ptr 2 ((f:Int).toNat*1+0)) (.i (w64 (Z+r23)))) (.bag ((d.map (zy encI)).set (a:Int).toNat (.av (.gslice 2 o.length 1)))::(kA e (kA o []))) .undef (.bag ((d.map (zy encI)).set (a:Int).toNat (.av (.gslice 2 o.length 1)))::(kA e (kA j []))) true) (jQ (E:=encI) (l:=o) (y:=w64 (Z+r23)) rfl (show _=some 1 by kernel_rfl) rfl C rfl rfl rfl rfl rfl J rfl)) az))))))))))) ?_
    refine Goes.sub ((show Sub (ofG 92 (kD w d (kK e q k a f)),(.bag ((d.map (zy encI)).set (a:Int).toNat (.av (.gslice 2 o.length 1)))::(kA e (kA j [])))) (ofG 92 (kD w d (kK e q k a f)),(bg encI (qw d a j)::(kA e [.dead])))from(Um (E:=encI) (b:=0) (c:=2) (Nat.ne_of_beq_eq_false rfl) rfl rfl u .g (ky J))).trans (show Sub (ofG 92 (kD w d (kK e q k a f)),(bg encI (qw d a j)::(kA e [.dead]))) (ofG 92 (kD w (qw d a j) (kK e q k a f)),(bg encI (qw d a j)::(kA e [])))from(Sub.norm [] [some 0,some 1] rfl rfl (.keep (.same (qd encI _)) (.keep (.gsliceE rfl (qbo _ _ _)) (.keep (.gslice rfl) (.keep (.same nI) (.keep (.same nI) (.keep (.same nI) (.keep (.same nI) .nil))))))) (.kb rfl zS.bgs (.ks .nil))))) ?_
    obtain⟨p,v,g14⟩:=bnd g14
    refine sq (Goes.sub (s':=(ofG 92 (kD w (qw d a j) (kK e q k a f)),(.bag (((qw d a j).map (zy encI)).set (f:Int).toNat (.av (.gslice 2 p.length 1)))::(kA e (kA p []))))) (Ur (E:=encI) (b:=0) rfl v) ?_)
    obtain⟨a1,D,g14⟩:=bnd g14
    obtain⟨r28,a2,g14⟩:=bnd g14
    obtain⟨r,K,g14⟩:=bnd g14
    refine gq fol [2,3,7,8,10,11,14,15,16,18,19] (kD w (qw d a j) (kK e q k a f)) (.bag (((qw d a j).map (zy encI)).set (f:Int).toNat (.av (.gslice 2 p.length 1)))::(kA e (kA r []))) (ac (hs (.done (.opt (qc ZT 25 (.gslice 0 (qw d a j).length 1) (.i f))) (.ptr 0 ((f:Int).toNat*1+0))) (zV yg v)) (ac (hs (.run [0] (qL ZT 22 (.ptr 0 ((f:Int).toNat*1+0))) (.bag (((qw d a j).map (zy encI)).set (f:Int).toNat (.av (.gslice 2 p.length 1)))::(kA e (kA p []))) (.gslice 2 p.length 1) (.bag (((qw d a j).map (zy encI)).set (f:Int).toNat (.av (.gslice 2 p.length 1)))::(kA e (kA p []))) false) (qcF qbY rfl (at_set v))) (ac (hs (.done (.opt (qc ZT 25 (.gslice 0 (qw d a j).length 1) (.i f))) (.ptr 0 ((f:Int).toNat*1+0))) (zV yg v)) (ac (hs (.run [0] (qL ZT 22 (.ptr 0 ((f:Int).toNat*1+0))) (.bag (((qw d a j).map (zy encI)).set (f:Int).toNat (.av (.gslice 2 p.length 1)))::(kA e (kA p []))) (.gslice 2 p.length 1) (.bag (((qw d a j).map (zy encI)).set (f:Int).toNat (.av (.gslice 2 p.length 1)))::(kA e (kA p []))) false) (qcF qbY rfl (at_set v))) (ac (hs (.done (.opt (qc ZT 22 (.gslice 2 p.length 1) (.i a))) (.ptr 2 ((a:Int).toNat*1+0))) (zV qI D)) (ac (hs (.run [2] (qL ZT 3 (.ptr 2 ((a:Int).toNat*1+0))) (.bag (((qw d a j).map (zy encI)).set (f:Int).toNat (.av (.gslice 2 p.length 1)))::(kA e (kA p []))) (.i a1) (.bag (((qw d a j).map (zy encI)).set (f:Int).toNat (.av (.gslice 2 p.length 1)))::(kA e (kA p []))) false) (yI ce3 (E:=encI) (l:=p) rfl rfl D (nl rfl) rfl)) (ac (iv qI encI t) (ac (lv 0 ce3 encI t rfl) (ac (cv (qbE X a2)) (ac (hs (.done (.opt (qc ZT 22 (.gslice 2 p.length 1) (.i a))) (.ptr 2 ((a:Int).toNat*1+0))) (zV qI D)) (ac (hs (.run [2] (ku ZT 3 (.ptr 2 ((a:Int).toNat*1+0)) (.i (w64 (a1+r28)))) (.bag (((qw d a j).map (zy encI)).set (f:Int).toNat (.av (.gslice 2 p.length 1)))::(kA e (kA p []))) .undef (.bag (((qw d a j).map (zy encI)).set (f:Int).toNat (.av (.gslice 2 p.length 1)))::(kA e (kA r []))) true) (jQ (E:=encI) (l:=p) (y:=w64 (a1+r28)) rfl (show _=some 1 by kernel_rfl) rfl D rfl rfl rfl rfl rfl K rfl)) az))))))))))) ?_
    refine Goes.sub ((show Sub (ofG 92 (kD w (qw d a j) (kK e q k a f)),(.bag (((qw d a j).map (zy encI)).set (f:Int).toNat (.av (.gslice 2 p.length 1)))::(kA e (kA r [])))) (ofG 92 (kD w (qw d a j) (kK e q k a f)),(bg encI (qw (qw d a j) f r)::(kA e [.dead])))from(Um (E:=encI) (b:=0) (c:=2) (Nat.ne_of_beq_eq_false rfl) rfl rfl v .g (ky K))).trans (show Sub (ofG 92 (kD w (qw d a j) (kK e q k a f)),(bg encI (qw (qw d a j) f r)::(kA e [.dead]))) (ofG 92 (kD w (qw (qw d a j) f r) (kK e q k a f)),(bg encI (qw (qw d a j) f r)::(kA e [])))from(Sub.norm [] [some 0,some 1] rfl rfl (.keep (.same (qd encI _)) (.keep (.gsliceE rfl (qbo _ _ _)) (.keep (.gslice rfl) (.keep (.same nI) (.keep (.same nI) (.keep (.same nI) (.keep (.same nI) .nil))))))) (.kb rfl zS.bgs (.ks .nil))))) ?_
    obtain⟨a3,L,g14⟩:=bnd g14
    obtain⟨x31,a4,g14⟩:=bnd g14
    obtain⟨G,O,g14⟩:=bnd g14
    refine gq fol [7,8,9,10] (kD w (qw (qw d a j) f r) (kAF e q [])) (bg encI (qw (qw d a j) f r)::(kA G [])) (ac (hs (.done (.opt (qc ZT 22 (.gslice 1 e.length 1) (.i (w64 (k-1))))) (.ptr 1 ((w64 (k-1):Int).toNat*1+0))) (zV qI B)) (ac (hs (.run [1] (ku ZT 3 (.ptr 1 ((w64 (k-1):Int).toNat*1+0)) (.i f)) (bg encI (qw (qw d a j) f r)::(kA e [])) .undef (bg encI (qw (qw d a j) f r)::(kA a3 [])) true) (jQ (E:=encI) (l:=e) (y:=f) rfl (show _=some 1 by kernel_rfl) rfl B rfl rfl rfl rfl rfl L rfl)) (ac (hs (.done (.opt (qc ZT 22 (.gslice 1 e.length 1) (.i k))) (.ptr 1 ((k:Int).toNat*1+0))) (zV qI H)) (ac (hs (.run [1] (ku ZT 3 (.ptr 1 ((k:Int).toNat*1+0)) (.i a)) (bg encI (qw (qw d a j) f r)::(kA a3 [])) .undef (bg encI (qw (qw d a j) f r)::(kA G [])) true) (jQ (E:=encI) (l:=a3) (y:=a) rfl (show _=some 1 by kernel_rfl) rfl a4 rfl rfl rfl rfl rfl O rfl)) az)))) ?_
    refine Goes.sub (show Sub (ofG 92 (kD w (qw (qw d a j) f r) (kAF e q [])),(bg encI (qw (qw d a j) f r)::(kA G []))) (ofG 92 (kD w (qw (qw d a j) f r) (kAF G q [])),(bg encI (qw (qw d a j) f r)::(kA G [])))from(Sub.norm [] [some 0,some 1] rfl rfl (.keep (.same (qd encI _)) (.keep (.gslice rfl) (.keep (.gsliceE rfl ((ky L).trans (ky O))) (.keep (.same nI) .nil)))) (.kb rfl zS.bgs (.ks .nil)))) ?_
    refine gh fol (kD w (qw (qw d a j) f r) (kAF G (w64 (q+1)) [])) ?_
    exact⟨M,(ofG 92 (kD w (qw (qw d a j) f r) (kAF G (w64 (q+1)) [])),(bg encI (qw (qw d a j) f r)::(kA G []))),Nat.lt_succ_self _,(Sub.refl _),_,_,_,rfl,g14⟩
   refine Goes.exit ?_
   obtain rfl:=si g14
   exact⟨rfl,_,rfl,(Sub.norm [] [some 0] rfl rfl (.drop (.keep (.gslice rfl) .nil)) (.kb rfl zS.bgs .nil))⟩
 rintro x s' ⟨rfl,F,rfl,hsub⟩
 refine Goes.sub hsub ?_
 refine sh fol (kAV F) ?_
 refine Goes.sub (s':=(ofG 92 (kAV F),[.frozen (F.flatMap (qb encI).c)])) (Sub.bagFreeze (E:=encI) (b:=0) rfl) ?_
 refine Goes.ret ?_
 obtain rfl:=si h
 exact(gw2 [.gslice 0 F.length 1] (Uu (Fz.gsF (E:=(qb encI)) rfl rfl (nl rfl))))
def zg (p:List Int):Nat->(List Bool)->(List Int)->Int->Option ((List Bool)×(List Int))
 |0,_,_,_=>none
 |K+1,b,c,a=>
  (idx b a).bind fun d=>
  if(!d)=true then
  (put b a true).bind fun e=>
  (app 8 c [a]).bind fun f=>
  (idx p a).bind fun g=>
  zg p K e f g
  else
  some (b,c)
def ji (N:Nat) (p:List Int):Nat->(List (List Int))->(List Bool)->Int->Option (List (List Int))
 |0,_,_,_=>none
 |K+1,c,f,d=>
  if d<(p.length:Int)then
  (((zg p N f ([]:List Int) d).bind fun(a,b)=>
  if(b.length:Int)>0 then
  (app 24 c [b]).bind fun e=>
  some (e,a)
  else
  some (c,a):Option ((List (List Int))×(List Bool)))).bind fun(g,h)=>
  ji N p K g h (w64 (d+1))
  else
  some c
def yD (N:Nat) (p:List Int):Option (List (List Int)):=
 (mk 1 (p.length:Int) false).bind fun a=>
 (ji N p N ([]:List (List Int)) a 0).bind fun b=>
 some b
theorem qcO (N:Nat) (p:List Int) {res:List (List Int)} (h:yD N p=some res):qg ZT (.fn 17) [vl encI p] [] (vl (qb encI) res) []:=by
 unfold yD at h
 refine Uc Tryz.func17 rfl rfl (m:=42) rfl (rs:=[.tmp 2]) rfl (l:=(kL p [])) rfl ?_
 refine sh fol (kL p []) ?_
 refine sh fol (kL p (kAG [])) ?_
 obtain⟨v,F,h⟩:=bnd h
 refine sq (gq fol [2] (kL p (kAG [(4,.slice 0 0 v.length v.length 1)])) (kF v []) (ac (hs (.run [] (jf ZT 104 (.i (p.length:Int)) (.i (p.length:Int))) [] (.slice 0 0 v.length v.length 1) (kF v []) false) (qbZ qep (E:=qd2) (z:=false) rfl (by kernel_rfl) F rfl)) az) ?_)
 refine sq ?_
 refine sh fol (kL p (kAG [(4,.slice 0 0 v.length v.length 1),(5,.i 0)])) ?_
 refine Goes.block ?_
 obtain⟨O,g6,h⟩:=bnd h
 refine Goes.imp (Q:=fun x s'=>(x= .exit 0/\ ∃D,D=O/\Sub s' (ofG 42 (kR D []),[.cells (D.flatMap (qb encI).c)]))) ?_ ?_
 ·refine Goes.sub (s':=(ofG 42 (kL p ((3,.gslice 0 ([]:List (List Int)).length 1)::(kAK v [(5,.i 0)]))),(.cells (([]:List (List Int)).flatMap (qb encI).c)::(kF v [])))) (Sub.norm [] [none,some 0] rfl rfl (.keep (.same (qd encI _)) (.keep .nil (.keep (.slice rfl) (.keep (.same nI) .nil)))) (.fresh (.ks .nil))) ?_
  refine Ub (fun M s=> ∃(a:List (List Int)) (w:List Bool) (j:Int),s=(ofG 42 (kE p a w j []),(.cells (a.flatMap (qb encI).c)::(kF w [])))/\ji N p M a w j=some O) ?_ (m:=N) ⟨_,_,_,rfl,g6⟩
  rintro M s ⟨a,w,j,rfl,g6⟩
  cases M with
  |zero=>simp only[ji]at g6;cases g6
  |succ M=>
   rw[ji]at g6
   refine sq ?_
   refine sh fol (kE p a w j [(14,.bool (decide (j<(p.length:Int))))]) ?_
   refine ihD g6 (fun P g6=>?_) (fun P g6=>?_)
   ·refine Goes.skip ?_
    refine sq ?_
    obtain⟨J,g10,g6⟩:=bnd g6
    refine Goes.imp (Q:=fun x s'=>(x= .normal/\ ∃A B,(A,B)=J/\Sub s' (ofG 42 (kE p A B j []),(.cells (A.flatMap (qb encI).c)::(kF B []))))) ?_ ?_
    ·refine Goes.block ?_
     refine sh fol (kE p a w j [(6,.nilslice)]) ?_
     refine sq ?_
     refine sh fol (kE p a w j ((6,.nilslice)::(kAN j))) ?_
     refine Goes.block ?_
     obtain⟨G,g16,g10⟩:=bnd g10
     refine Goes.imp (Q:=fun x s'=>(x= .exit 2/\ ∃g b,(g,b)=G/\Sub s' (ofG 42 (kE p a g j (kAU b [])),(.cells (a.flatMap (qb encI).c)::(kF g (kA b [])))))) ?_ ?_
     ·refine Goes.sub (s':=(ofG 42 (kE p a w j ((6,.gslice 2 ([]:List Int).length 1)::(kAN j))),(.cells (a.flatMap (qb encI).c)::(kF w kAP)))) (Sub.norm [] [some 0,some 1,none] rfl rfl (.keep (.same (qd encI _)) (.keep (.gslice rfl) (.keep (.slice rfl) (.keep (.same nI) (.keep .nil (.keep (.same nI) .nil)))))) (.ks (.ks (.fresh .nil)))) ?_
      refine Ub (fun M s=> ∃(f:List Bool) (d:List Int) (e:Int),s=(ofG 42 (kE p a f j (kAU d (kAN e))),(.cells (a.flatMap (qb encI).c)::(kF f (kA d []))))/\zg p M f d e=some G) ?_ (m:=N) ⟨_,_,_,rfl,g16⟩
      rintro M s ⟨f,d,e,rfl,g16⟩
      cases M with
      |zero=>simp only[zg]at g16;cases g16
      |succ M=>
       rw[zg]at g16
       refine sq ?_
       obtain⟨H,n,g16⟩:=bnd g16
       refine sq (gr fol [2,3] (kE p a f j (kAU d [(7,.i e),(22,.bool (!H))])) (ac (hs (.done (.opt (qc ZT 104 (.slice 1 0 f.length f.length 1) (.i e))) (.ptr 1 ((e:Int).toNat*1+0))) (vg qep n)) (ac (hs (.run [1] (qL ZT 4 (.ptr 1 ((e:Int).toNat*1+0))) (.cells (a.flatMap (qb encI).c)::(kF f (kA d []))) (.bool H) (.cells (a.flatMap (qb encI).c)::(kF f (kA d []))) false) (yI ce4 (E:=qd2) (l:=f) rfl rfl n (nl rfl) rfl)) az)) ?_)
       refine ihB g16 (fun K g16=>?_) (fun K g16=>?_)
       ·refine Goes.skip ?_
        refine sq (Goes.block ?_)
        obtain⟨k,q,g16⟩:=bnd g16
        refine sq (gq fol [2,3] (kE p a f j (kAU d (kAN e))) (.cells (a.flatMap (qb encI).c)::(kF k (kA d []))) (ac (hs (.done (.opt (qc ZT 104 (.slice 1 0 f.length f.length 1) (.i e))) (.ptr 1 ((e:Int).toNat*1+0))) (vg qep n)) (ac (hs (.run [1] (ku ZT 4 (.ptr 1 ((e:Int).toNat*1+0)) (.bool true)) (.cells (a.flatMap (qb encI).c)::(kF f (kA d []))) .undef (.cells (a.flatMap (qb encI).c)::(kF k (kA d []))) true) (jQ (E:=qd2) (l:=f) (y:=true) rfl (show _=some 1 by kernel_rfl) rfl n rfl rfl rfl rfl rfl q rfl)) az)) ?_)
        refine Goes.sub (show Sub (ofG 42 (kE p a f j (kAU d (kAN e))),(.cells (a.flatMap (qb encI).c)::(kF k (kA d [])))) (ofG 42 (kE p a k j (kAU d (kAN e))),(.cells (a.flatMap (qb encI).c)::(kF k (kA d []))))from(Sub.norm [] [some 0,some 1,some 2] rfl rfl (.keep (.same (qd encI _)) (.keep (.gslice rfl) (.keep (.sliceE rfl (ky q)) (.keep (.same nI) (.keep (.gslice rfl) (.keep (.same nI) .nil)))))) (.ks (.ks (.ks .nil))))) ?_
        obtain⟨o,C,g16⟩:=bnd g16
        refine gq fol [3] (kE p a k j ((6,.gslice 4 o.length 1)::(kAN e))) (.cells (a.flatMap (qb encI).c)::(kF k (kAI e (kA o [])))) (ac (hs (.run [2,3] (ko ZT [22,22] (.gslice 2 d.length 1) (.slice 3 0 1 1 1)) (.cells (a.flatMap (qb encI).c)::(kF k (kA d (kAW e)))) (.gslice 4 o.length 1) (.cells (a.flatMap (qb encI).c)::(kF k (kAI e (kA o [])))) true) (y9 qI (E:=encI) rfl (qdr (E:=encI) (ys:=[e]) rfl rfl rfl rfl) (qg7 (E:=encI) (l:=d) rfl rfl rfl C rfl))) az) ?_
        obtain⟨I,r,g16⟩:=bnd g16
        refine gr fol [2,3] (kE p a k j ((6,.gslice 4 o.length 1)::(kAN I))) (ac (iv qI encI r) (ac (lv 0 ce3 encI r rfl) az)) ?_
        exact⟨M,(ofG 42 (kE p a k j (kAU o (kAN I))),(.cells (a.flatMap (qb encI).c)::(kF k (kA o [])))),Nat.lt_succ_self _,(Sub.norm [] [some 0,some 1,some 4] rfl rfl (.keep (.same (qd encI _)) (.keep (.gslice rfl) (.keep (.slice rfl) (.keep (.same nI) (.keep (.gslice rfl) (.keep (.same nI) .nil)))))) (.ks (.ks (.ks .nil)))),_,_,_,rfl,g16⟩
       refine Goes.exit ?_
       obtain rfl:=si g16
       exact⟨rfl,_,_,rfl,(Sub.keep [0,3,4,5,6] rfl rfl)⟩
     rintro x s' ⟨rfl,g,b,rfl,hsub⟩
     try dsimp only at g10
     refine Goes.sub hsub ?_
     refine sh fol (kE p a g j (kAU b [(36,.bool (decide ((b.length:Int)>0)))])) ?_
     refine ihD g10 (fun L g10=>?_) (fun L g10=>?_)
     ·obtain⟨t,u,g10⟩:=bnd g10
      refine gq fol [3] (kL p ((3,.gslice 4 t.length 1)::(kAK g [(5,.i j)]))) (.dead::(kF g (kA b [.cells [.gslice 2 b.length 1],.cells ((a).flatMap ((qb encI)).c++[.gslice 2 b.length 1])]))) (ac (hs (.run [0,3] (ko ZT [25,25] (.gslice 0 a.length 1) (.slice 3 0 1 1 1)) (.cells (a.flatMap (qb encI).c)::(kF g (kA b [.cells [.gslice 2 b.length 1]]))) (.gslice 4 t.length 1) (.dead::(kF g (kA b [.cells [.gslice 2 b.length 1],.cells ((a).flatMap ((qb encI)).c++[.gslice 2 b.length 1])]))) true) (qb9 yg (E:=(qb encI)) (l:=a) (x:=b) rfl rfl rfl rfl rfl rfl rfl u rfl)) az) ?_
      obtain rfl:=si g10
      exact⟨rfl,_,_,rfl,((show Sub (ofG 42 (kL p ((3,.gslice 4 t.length 1)::(kAK g [(5,.i j)]))),(.dead::(kF g (kA b [.cells [.gslice 2 b.length 1],.cells ((a).flatMap ((qb encI)).c++[.gslice 2 b.length 1])])))) (ofG 42 (kE p t g j []),(.cells (t.flatMap (qb encI).c)::(kF g [])))from(Sub.norm [2] [some 4,some 1] rfl rfl (.keep (.same (qd encI _)) (.keep (.gslice rfl) (.keep (.slice rfl) (.keep (.same nI) .nil)))) (.kb rfl (zS.my (E:=(qb encI)) u (rc (.frz (Fz.gs (E:=encI) rfl rfl (nl rfl)) (qd encI _)) rn)) (.ks .nil)))).trans (Sub.refl _))⟩
     refine Goes.skip ?_
     obtain rfl:=si g10
     exact⟨rfl,_,_,rfl,(Sub.norm [] [some 0,some 1] rfl rfl (.keep (.same (qd encI _)) (.keep (.gslice rfl) (.keep (.slice rfl) (.keep (.same nI) .nil)))) (.ks (.ks .nil)))⟩
    rintro x s' ⟨rfl,A,B,rfl,hsub⟩
    try dsimp only at g6
    refine Goes.sub hsub ?_
    refine gh fol (kE p A B (w64 (j+1)) []) ?_
    exact⟨M,(ofG 42 (kE p A B (w64 (j+1)) []),(.cells (A.flatMap (qb encI).c)::(kF B []))),Nat.lt_succ_self _,(Sub.refl _),_,_,_,rfl,g6⟩
   refine Goes.exit ?_
   obtain rfl:=si g6
   exact⟨rfl,_,rfl,(Sub.norm [] [some 0] rfl rfl (.drop (.keep (.gslice rfl) .nil)) (.ks .nil))⟩
 rintro x s' ⟨rfl,D,rfl,hsub⟩
 refine Goes.sub hsub ?_
 refine sh fol [(2,.gslice 0 D.length 1)] ?_
 refine Goes.ret ?_
 obtain rfl:=si h
 exact(gw2 [.gslice 0 D.length 1] (Uu (Fz.gs (E:=(qb encI)) rfl rfl (nl rfl))))
def zR (p:List Int):Nat->(List Int)->Int->Option (List Int)
 |0,_,_=>none
 |K+1,b,a=>
  if a<(p.length:Int)then
  (idx p a).bind fun c=>
  (idx b c).bind fun e=>
  (put b c a).bind fun d=>
  zR p K d (w64 (a+1))
  else
  some b
def yZ (N:Nat) (p:List Int):Option (List Int):=
 (mk 8 (p.length:Int) 0).bind fun a=>
 (zR p N a 0).bind fun b=>
 some b
theorem qcG (N:Nat) (p:List Int) {res:List Int} (h:yZ N p=some res):qg ZT (.fn 72) [vl encI p] [] (vl encI res) []:=by
 unfold yZ at h
 refine Uc Tryz.func72 rfl rfl (m:=22) rfl (rs:=[.tmp 2]) rfl (l:=(kL p [])) rfl ?_
 refine sh fol (kL p []) ?_
 obtain⟨j,k,h⟩:=bnd h
 refine sq (gq fol [2] (kL p (kM j [])) (kA j []) (ac (hs (.run [] (jf ZT 22 (.i (p.length:Int)) (.i (p.length:Int))) [] (.slice 0 0 j.length j.length 1) (kA j []) false) (qbZ qI (E:=encI) (z:=0) rfl (by kernel_rfl) k rfl)) az) ?_)
 refine sq ?_
 refine sh fol (kL p (kM j [(4,.i 0)])) ?_
 refine Goes.block ?_
 obtain⟨o,g5,h⟩:=bnd h
 refine Goes.imp (Q:=fun x s'=>(x= .exit 0/\ ∃c,c=o/\Sub s' (ofG 22 (kM c []),(kA c [])))) ?_ ?_
 ·refine Ub (fun M s=> ∃(b:List Int) (a:Int),s=(ofG 22 (kL p (kM b (kAO a))),(kA b []))/\zR p M b a=some o) ?_ (m:=N) ⟨_,_,rfl,g5⟩
  rintro M s ⟨b,a,rfl,g5⟩
  cases M with
  |zero=>simp only[zR]at g5;cases g5
  |succ M=>
   rw[zR]at g5
   refine sq ?_
   refine sh fol (kL p (kM b [(4,.i a),(11,.bool (decide (a<(p.length:Int))))])) ?_
   refine ihD g5 (fun q g5=>?_) (fun q g5=>?_)
   ·refine Goes.skip ?_
    refine sq (Goes.block ?_)
    obtain⟨n,d,g5⟩:=bnd g5
    obtain⟨r,e,g5⟩:=bnd g5
    obtain⟨f,g,g5⟩:=bnd g5
    refine gq fol [3,4,6,7] (kL p (kM b (kAO a))) (kA f []) (ac (iv qI encI d) (ac (lv 0 ce3 encI d rfl) (ac (hs (.done (.opt (qc ZT 22 (.slice 0 0 b.length b.length 1) (.i n))) (.ptr 0 ((n:Int).toNat*1+0))) (vg qI e)) (ac (hs (.run [0] (ku ZT 3 (.ptr 0 ((n:Int).toNat*1+0)) (.i a)) (kA b []) .undef (kA f []) true) (jQ (E:=encI) (l:=b) (y:=a) rfl (show _=some 1 by kernel_rfl) rfl e rfl rfl rfl rfl rfl g rfl)) az)))) ?_
    refine Goes.sub (show Sub (ofG 22 (kL p (kM b (kAO a))),(kA f [])) (ofG 22 (kL p (kM f (kAO a))),(kA f []))from(Sub.norm [] [some 0] rfl rfl (.keep (.same (qd encI _)) (.keep (.sliceE rfl (ky g)) (.keep (.same nI) .nil))) (.ks .nil))) ?_
    refine gh fol (kL p (kM f (kAO (w64 (a+1))))) ?_
    exact⟨M,(ofG 22 (kL p (kM f (kAO (w64 (a+1))))),(kA f [])),Nat.lt_succ_self _,(Sub.refl _),_,_,rfl,g5⟩
   refine Goes.exit ?_
   obtain rfl:=si g5
   exact⟨rfl,_,rfl,(Sub.keep [3] rfl rfl)⟩
 rintro x s' ⟨rfl,c,rfl,hsub⟩
 refine Goes.sub hsub ?_
 refine sh fol [(2,.slice 0 0 c.length c.length 1)] ?_
 refine Goes.ret ?_
 obtain rfl:=si h
 exact(gw2 [.slice 0 0 c.length c.length 1] (Uu (Fz.sl (E:=encI) rfl rfl (nl rfl))))
def zo (b:List Int):Nat->(List Int)->Int->Option (List Int)
 |0,_,_=>none
 |K+1,d,e=>
  if e<(b.length:Int)then
  (idx b e).bind fun i=>
  (yu i).bind fun a=>
  (idx d a).bind fun f=>
  (idx d (w64 (a-1))).bind fun g=>
  (put d (w64 (a-1)) f).bind fun c=>
  (idx c a).bind fun j=>
  (put c a g).bind fun h=>
  zo b K h (w64 (e+1))
  else
  some d
def vP (N:Nat) (a:Int) (b:List Int):Option (List Int):=
 (jb N a).bind fun c=>
 (zo b N c 0).bind fun d=>
 some d
theorem qbA (N:Nat) (g:Int) (a:List Int) {A:List Int} (h:vP N g a=some A):qg ZT (.fn 73) (kAR g a) [] (.gslice 0 A.length 1) (kA A []):=by
 unfold vP at h
 refine Ug Tryz.func73 rfl rfl (m:=38) rfl (rs:=[.tmp 4]) rfl (l:=(kG g a [])) rfl ?_
 intro B hB
 refine sh fol (kG g a []) ?_
 obtain⟨w,z,h⟩:=bnd h
 refine sq (gq fol [1] (kD a w []) (kA w []) (ac (hs (.callH 54 [.i g] [] [] (.gslice 0 w.length 1) (kA w [])) (jA [] [some 0] (xc N g z) .nil rfl rfl (.new rfl rfl (.same fa) rfl .nil) (rc (.same nI) rn) (.gslice rfl) rfl)) az) ?_)
 refine sq ?_
 refine sh fol (kD a w [(6,.i 0)]) ?_
 refine Goes.block ?_
 obtain⟨C,g7,h⟩:=bnd h
 refine Goes.imp (Q:=fun x s'=>(x= .exit 0/\ ∃v,v=C/\Sub s' (ofG 38 (kN v []),(kA v [])))) ?_ ?_
 ·refine Ub (fun M s=> ∃(c:List Int) (j:Int),s=(ofG 38 (kD a c [(6,.i j)]),(kA c []))/\zo a M c j=some C) ?_ (m:=N) ⟨_,_,rfl,g7⟩
  rintro M s ⟨c,j,rfl,g7⟩
  cases M with
  |zero=>simp only[zo]at g7;cases g7
  |succ M=>
   rw[zo]at g7
   refine sq ?_
   refine sh fol (kD a c [(6,.i j),(13,.bool (decide (j<(a.length:Int))))]) ?_
   refine ihD g7 (fun D g7=>?_) (fun D g7=>?_)
   ·refine Goes.skip ?_
    refine sq (Goes.block ?_)
    obtain⟨F,o,g7⟩:=bnd g7
    obtain⟨b,p,g7⟩:=bnd g7
    refine sq (gr fol [2,3,4] (kD a c ((6,.i j)::(kAN b))) (ac (iv qI encI o) (ac (lv 0 ce3 encI o rfl) (ac (cv (qai F p)) az))) ?_)
    obtain⟨q,f,g7⟩:=bnd g7
    obtain⟨r,d,g7⟩:=bnd g7
    obtain⟨t,k,g7⟩:=bnd g7
    obtain⟨G,u,g7⟩:=bnd g7
    obtain⟨e,n,g7⟩:=bnd g7
    refine gq fol [7,8,12,13,14,15,16,17] (kD a c [(6,.i j)]) (kA e []) (ac (hs (.done (.opt (qc ZT 22 (.gslice 0 c.length 1) (.i b))) (.ptr 0 ((b:Int).toNat*1+0))) (zV qI f)) (ac (hs (.run [0] (qL ZT 3 (.ptr 0 ((b:Int).toNat*1+0))) (kA c []) (.i q) (kA c []) false) (yI ce3 (E:=encI) (l:=c) rfl rfl f (nl rfl) rfl)) (ac (hs (.done (.opt (qc ZT 22 (.gslice 0 c.length 1) (.i (w64 (b-1))))) (.ptr 0 ((w64 (b-1):Int).toNat*1+0))) (zV qI d)) (ac (hs (.run [0] (qL ZT 3 (.ptr 0 ((w64 (b-1):Int).toNat*1+0))) (kA c []) (.i r) (kA c []) false) (yI ce3 (E:=encI) (l:=c) rfl rfl d (nl rfl) rfl)) (ac (hs (.done (.opt (qc ZT 22 (.gslice 0 c.length 1) (.i (w64 (b-1))))) (.ptr 0 ((w64 (b-1):Int).toNat*1+0))) (zV qI d)) (ac (hs (.run [0] (ku ZT 3 (.ptr 0 ((w64 (b-1):Int).toNat*1+0)) (.i q)) (kA c []) .undef (kA t []) true) (jQ (E:=encI) (l:=c) (y:=q) rfl (show _=some 1 by kernel_rfl) rfl d rfl rfl rfl rfl rfl k rfl)) (ac (hs (.done (.opt (qc ZT 22 (.gslice 0 c.length 1) (.i b))) (.ptr 0 ((b:Int).toNat*1+0))) (zV qI f)) (ac (hs (.run [0] (ku ZT 3 (.ptr 0 ((b:Int).toNat*1+0)) (.i r)) (kA t []) .undef (kA e []) true) (jQ (E:=encI) (l:=t) (y:=r) rfl (show _=some 1 by kernel_rfl) rfl u rfl rfl rfl rfl rfl n rfl)) az)))))))) ?_
    refine Goes.sub (show Sub (ofG 38 (kD a c [(6,.i j)]),(kA e [])) (ofG 38 (kD a e [(6,.i j)]),(kA e []))from(Sub.norm [] [some 0] (by rw[hB];rfl) rfl (.keep (.same (qd encI _)) (.keep (.gsliceE rfl ((ky k).trans (ky n))) (.keep (.same nI) .nil))) (.ks .nil))) ?_
    refine gh fol (kD a e [(6,.i (w64 (j+1)))]) ?_
    exact⟨M,(ofG 38 (kD a e [(6,.i (w64 (j+1)))]),(kA e [])),Nat.lt_succ_self _,(Sub.refl _),_,_,rfl,g7⟩
   refine Goes.exit ?_
   obtain rfl:=si g7
   exact⟨rfl,_,rfl,(Sub.keep [5] rfl rfl)⟩
 rintro x s' ⟨rfl,v,rfl,hsub⟩
 refine Goes.sub hsub ?_
 refine sh fol (kAV v) ?_
 refine Goes.ret ?_
 obtain rfl:=si h
 exact(gh2 [.gslice 0 v.length 1] (xy.refl _ _))
def xX (N:Nat) (n:Int) (w:List Int):Option (List Int):=
 (vP N n w).bind fun a=>
 (yZ N a).bind fun b=>
 some b
theorem qd5 (N:Nat) (n:Int) (w:List Int) {res:List Int} (h:xX N n w=some res):qg ZT (.fn 18) (kAR n w) [] (vl encI res) []:=by
 unfold xX at h
 refine Uc Tryz.func18 rfl rfl (m:=9) rfl (rs:=[.tmp 4]) rfl (l:=(kG n w [])) rfl ?_
 refine sh fol (kG n w []) ?_
 obtain⟨a,b,h⟩:=bnd h
 obtain⟨d,e,h⟩:=bnd h
 refine sq (gq fol [2,3] [(4,vl encI d)] [.frozen (a.flatMap encI.c)] (ac (hs (.callH 73 (kAR n w) [] [] (.gslice 0 a.length 1) (kA a [])) (jA [] [some 0] (qbA N n w b) .nil rfl rfl (.new rfl rfl (.same fa) rfl .nil) (rc (.same nI) (rc (.same (qd encI _)) rn)) (.gslice rfl) rfl)) (ac (hs (.callF 72 [.gslice 0 a.length 1] (kA a []) [0] [vl encI a] (vl encI d)) (qeO (FzL.cons (Fz.gs (E:=encI) rfl rfl (nl rfl)) FzL.nil) (qcG N a e) (zG encI _ (nl rfl)))) az)) ?_)
 refine Goes.sub (show Sub (ofG 9 [(4,vl encI d)],[.frozen (a.flatMap encI.c)]) (ofG 9 [(4,vl encI d)],[])from(Sub.norm [] [] rfl rfl (.keep (.same (qd encI _)) .nil) .nil)) ?_
 refine Goes.ret ?_
 obtain rfl:=si h
 exact(gw2 [vl encI d] (Ua (zG encI _ (nl rfl))))
def jG (a:List Int) (b:List Int):Option (List Int):=
 (app 8 ([]:List Int) a).bind fun c=>
 (app 8 c b).bind fun d=>
 some d
theorem vW (a:List Int) (b:List Int) {res:List Int} (h:jG a b=some res):qg ZT (.fn 75) [vl encI a,vl encI b] [] (vl encI res) []:=by
 unfold jG at h
 refine Uc Tryz.func75 rfl rfl (m:=10) rfl (rs:=[.tmp 4]) rfl (l:=(kL a [(1,vl encI b)])) rfl ?_
 refine sh fol (kL a [(1,vl encI b)]) ?_
 obtain⟨c,d,h⟩:=bnd h
 obtain⟨e,f,h⟩:=bnd h
 refine sq (gq fol [2,4] [(4,.oslice 2 e.length 1)] (.dead:: .dead::(kA e [])) (ac (hs (.run [0] (ko ZT [22,22] (.slice 0 0 0 0 1) (vl encI a)) [.cells []] (.oslice 1 c.length 1) (.dead::(kA c [])) true) (y9 qI (E:=encI) rfl (qhY (E:=encI) rfl _) (dst_z (E:=encI) rfl rfl rfl d rfl))) (ac (hs (.run [1] (ko ZT [22,22] (.oslice 1 c.length 1) (vl encI b)) (.dead::(kA c [])) (.oslice 2 e.length 1) (.dead:: .dead::(kA e [])) true) (y9 qI (E:=encI) rfl (qhY (E:=encI) rfl _) (qfo (E:=encI) (l:=c) rfl rfl rfl f rfl))) az)) ?_)
 refine Goes.ret ?_
 obtain rfl:=si h
 exact(gw2 [.oslice 2 e.length 1] (Uu (Fz.os (E:=encI) rfl rfl (nl rfl))))
def zU (w:List Int):Nat->(List Int)->Int->Option (List Int)
 |0,_,_=>none
 |K+1,b,a=>
  if a>=0 then
  (idx w a).bind fun c=>
  (app 8 b [w64 (0-c)]).bind fun d=>
  zU w K d (w64 (a-1))
  else
  some b
def vC (N:Nat) (w:List Int):Option (List Int):=
 (zU w N ([]:List Int) (w64 ((w.length:Int)-1))).bind fun a=>
 some a
theorem qaA (N:Nat) (w:List Int) {res:List Int} (h:vC N w=some res):qg ZT (.fn 76) [vl encI w] [] (vl encI res) []:=by
 unfold vC at h
 refine Uc Tryz.func76 rfl rfl (m:=21) rfl (rs:=[.tmp 2]) rfl (l:=(kL w [])) rfl ?_
 refine sh fol (kL w []) ?_
 refine sh fol (kL w (kAG [])) ?_
 refine sq ?_
 refine sh fol (kL w (kAG (kAO (w64 ((w.length:Int)-1))))) ?_
 refine Goes.block ?_
 obtain⟨j,g4,h⟩:=bnd h
 refine Goes.imp (Q:=fun x s'=>(x= .exit 0/\ ∃e,e=j/\Sub s' (ofG 21 (kR e []),(kA e [])))) ?_ ?_
 ·refine Goes.sub (s':=(ofG 21 (kL w ((3,.gslice 0 ([]:List Int).length 1)::(kAO (w64 ((w.length:Int)-1))))),kAP)) (Sub.norm [] [none] rfl rfl (.keep (.same (qd encI _)) (.keep .nil (.keep (.same nI) .nil))) (.fresh .nil)) ?_
  refine Ub (fun M s=> ∃(a:List Int) (b:Int),s=(ofG 21 (kL w (kR a (kAO b))),(kA a []))/\zU w M a b=some j) ?_ (m:=N) ⟨_,_,rfl,g4⟩
  rintro M s ⟨a,b,rfl,g4⟩
  cases M with
  |zero=>simp only[zU]at g4;cases g4
  |succ M=>
   rw[zU]at g4
   refine sq ?_
   refine sh fol (kL w (kR a [(4,.i b),(9,.bool (decide (b>=0)))])) ?_
   refine ihD g4 (fun k g4=>?_) (fun k g4=>?_)
   ·refine Goes.skip ?_
    refine sq (Goes.block ?_)
    obtain⟨g,c,g4⟩:=bnd g4
    obtain⟨d,f,g4⟩:=bnd g4
    refine gq fol [3,4,7] (kL w ((3,.gslice 2 d.length 1)::(kAO b))) (kAI (w64 (0-g)) (kA d [])) (ac (iv qI encI c) (ac (lv 0 ce3 encI c rfl) (ac (hs (.run [0,1] (ko ZT [22,22] (.gslice 0 a.length 1) (.slice 1 0 1 1 1)) (kA a (kAW (w64 (0-g)))) (.gslice 2 d.length 1) (kAI (w64 (0-g)) (kA d [])) true) (y9 qI (E:=encI) rfl (qdr (E:=encI) (ys:=[w64 (0-g)]) rfl rfl rfl rfl) (qg7 (E:=encI) (l:=a) rfl rfl rfl f rfl))) az))) ?_
    refine gh fol (kL w ((3,.gslice 2 d.length 1)::(kAO (w64 (b-1))))) ?_
    exact⟨M,(ofG 21 (kL w (kR d (kAO (w64 (b-1))))),(kA d [])),Nat.lt_succ_self _,(Sub.norm [] [some 2] rfl rfl (.keep (.same (qd encI _)) (.keep (.gslice rfl) (.keep (.same nI) .nil))) (.ks .nil)),_,_,rfl,g4⟩
   refine Goes.exit ?_
   obtain rfl:=si g4
   exact⟨rfl,_,rfl,(Sub.keep [3] rfl rfl)⟩
 rintro x s' ⟨rfl,e,rfl,hsub⟩
 refine Goes.sub hsub ?_
 refine sh fol [(2,.gslice 0 e.length 1)] ?_
 refine Goes.ret ?_
 obtain rfl:=si h
 exact(gw2 [.gslice 0 e.length 1] (Uu (Fz.gs (E:=encI) rfl rfl (nl rfl))))
def zD (a:List Int):Nat->(Option (List Int))->Int->Option (Option (List Int))
 |0,_,_=>none
 |K+1,q,b=>
  if b<(a.length:Int)then
  ((((match q with
  |none=>
  if 0>0 then
  (idx ([]:List Int) (w64 (0-1))).bind fun g=>
  (idx a b).bind fun h=>
  some ((none:Option (List Int)),decide (g=(w64 (0-h))))
  else
  some ((none:Option (List Int)),false)
  |some c=>
  if(c.length:Int)>0 then
  (idx c (w64 ((c.length:Int)-1))).bind fun i=>
  (idx a b).bind fun j=>
  some ((some c),decide (i=(w64 (0-j))))
  else
  some ((some c),false)):Option ((Option (List Int))×Bool)).bind fun(d,k)=>
  if k=true then
  ((match d with
  |none=>
  (cut ([]:List Int) 0 (w64 (0-1))).bind fun r=>
  some (none:Option (List Int))
  |some e=>
  (cut e 0 (w64 ((e.length:Int)-1))).bind fun l=>
  some (some l)):Option (Option (List Int))).bind fun m=>
  some m
  else
  ((idx a b).bind fun f=>
  (match d with
  |none=>
  some ([f]:List Int)
  |some n=>
  (app 8 n [f]).bind fun o=>
  some o):Option (List Int)).bind fun p=>
  some (some p):Option (Option (List Int)))).bind fun s=>
  zD a K s (w64 (b+1))
  else
  some q
def jF (N:Nat) (a:List Int):Option (List Int):=
 (zD a N (none:Option (List Int)) 0).bind fun b=>
 some (hof b)
theorem qag (N:Nat) (b:List Int) {V:List Int} (h:jF N b=some V):qg ZT (.fn 74) [vl encI b] [] (vl encI V) []:=by
 unfold jF at h
 refine Ug Tryz.func74 rfl rfl (m:=41) rfl (rs:=[.tmp 2]) rfl (l:=(kL b [])) rfl ?_
 intro B hB
 refine sh fol (kL b []) ?_
 refine sh fol (kL b (kAG [])) ?_
 refine sq ?_
 refine sh fol (kL b (kAG [(4,.i 0)])) ?_
 refine Goes.block ?_
 obtain⟨W,g5,h⟩:=bnd h
 refine Goes.imp (Q:=fun x s'=>(x= .exit 0/\ ∃G,G=W/\Sub s' (ofG 41 (kAa G []),(kJ G)))) ?_ ?_
 ·refine Goes.sub (s':=(ofG 41 (kL b [(3,hsl 0 1 (none:Option (List Int))),(4,.i 0)]),[.cells ((hof (none:Option (List Int))).flatMap encI.c)])) (Sub.norm [] [none] (by rw[hB];rfl) rfl (.keep (.same (qd encI _)) (.keep qJ.hs0 (.keep (.same nI) .nil))) (.fresh .nil)) ?_
  refine Ub (fun M s=> ∃(H:Option (List Int)) (f:Int),s=(ofG 41 (kL b (kAa H (kAO f))),(kJ H))/\zD b M H f=some W) ?_ (m:=N) ⟨_,_,rfl,g5⟩
  rintro M s ⟨H,f,rfl,g5⟩
  cases M with
  |zero=>simp only[zD]at g5;cases g5
  |succ M=>
   unfold zD at g5
   refine sq ?_
   refine sh fol (kL b (kAa H [(4,.i f),(8,.bool (decide (f<(b.length:Int))))])) ?_
   refine ihD g5 (fun X g5=>?_) (fun X g5=>?_)
   ·refine Goes.skip ?_
    refine sq ?_
    obtain⟨Y,g8,g5⟩:=bnd g5
    refine Goes.imp (Q:=fun x s'=>(x= .normal/\ ∃y,y=Y/\Sub s' (ofG 41 (kL b (kAa y (kAO f))),(kJ y)))) ?_ ?_
    ·refine Goes.block ?_
     refine sq ?_
     obtain⟨⟨u,L⟩,a,g8⟩:=bnd g8
     refine Uk (s':=(ofG 41 (kL b (kAa u [(4,.i f),(27,.bool L)])),(kJ u))) ?_ ?_
     ·rcases H with _|k
      ·try dsimp only at a
       rcases wyD a with⟨z,a⟩|⟨z,a⟩
       ·obtain⟨O,n,a⟩:=bnd a
        obtain⟨P,o,a⟩:=bnd a
        simp only[ZI,ZP]at a
        obtain⟨rfl,rfl⟩:=a
        exact qE.sub (qE.rq fol [3,8,9,12,13] (kL b (kAG [(4,.i f),(27,.bool (decide (O=(w64 (0-P)))))])) [.cells ((hof (none:Option (List Int))).flatMap encI.c)] (ac (gw z) (ac (hs (.done (.opt (qc ZT 22 (.nilslice) (.i (w64 (0-1))))) (.fptr (([]:List Int).flatMap encI.c) ((w64 (0-1):Int).toNat*1+0))) (qiA n)) (ac (lv 0 ce3 encI n rfl) (ac (iv qI encI o) (ac (lv 0 ce3 encI o rfl) az)))))) (Sub.norm [] [none] (by rw[hB];rfl) rfl (.keep (.same (qd encI _)) (.keep qJ.hs0 (.keep (.same nI) (.keep (.same nB) .nil)))) (.fresh .nil))
       simp only[ZI,ZP]at a
       obtain⟨rfl,rfl⟩:=a
       exact qE.sub (qE.rq fol [3] (kL b (kAG [(4,.i f),(27,.bool false)])) [.cells ((hof (none:Option (List Int))).flatMap encI.c)] (ac (gw z) az)) (Sub.norm [] [none] (by rw[hB];rfl) rfl (.keep (.same (qd encI _)) (.keep qJ.hs0 (.keep (.same nI) (.keep (.same nB) .nil)))) (.fresh .nil))
      try dsimp only at a
      rcases wyD a with⟨A,a⟩|⟨A,a⟩
      ·obtain⟨I,p,a⟩:=bnd a
       obtain⟨T,q,a⟩:=bnd a
       simp only[ZI,ZP]at a
       obtain⟨rfl,rfl⟩:=a
       exact qE.sub (qE.rq fol [3,8,9,12,13] (kL b (kAD k [(4,.i f),(27,.bool (decide (I=(w64 (0-T)))))])) (kA k []) (ac (gw A) (ac (hs (.done (.opt (qc ZT 22 (.oslice 0 k.length 1) (.i (w64 ((k.length:Int)-1))))) (.ptr 0 ((w64 ((k.length:Int)-1):Int).toNat*1+0))) (qkf qI p)) (ac (hs (.run [0] (qL ZT 3 (.ptr 0 ((w64 ((k.length:Int)-1):Int).toNat*1+0))) (kA k []) (.i I) (kA k []) false) (yI ce3 (E:=encI) (l:=k) rfl rfl p (nl rfl) rfl)) (ac (iv qI encI q) (ac (lv 0 ce3 encI q rfl) az)))))) (Sub.norm [] [some 0] (by rw[hB];rfl) rfl (.keep (.same (qd encI _)) (.keep (qJ.hs1 rfl) (.keep (.same nI) (.keep (.same nB) .nil)))) (.ks .nil))
      simp only[ZI,ZP]at a
      obtain⟨rfl,rfl⟩:=a
      exact qE.sub (qE.rq fol [3] (kL b (kAD k [(4,.i f),(27,.bool false)])) (kA k []) (ac (gw A) az)) (Sub.norm [] [some 0] (by rw[hB];rfl) rfl (.keep (.same (qd encI _)) (.keep (qJ.hs1 rfl) (.keep (.same nI) (.keep (.same nB) .nil)))) (.ks .nil))
     intro _ hsub
     try dsimp only at g8
     refine Goes.sub hsub ?_
     refine ihB g8 (fun U g8=>?_) (fun U g8=>?_)
     ·obtain⟨J,d,g8⟩:=bnd g8
      refine Uk (s':=(ofG 41 (kL b (kAa J (kAO f))),(kJ J))) ?_ ?_
      ·rcases u with _|v
       ·try dsimp only at d
        obtain⟨Z,C,d⟩:=bnd d
        obtain rfl:=si d
        exact qE.sub (qE.rq fol [4] (kL b (kAG (kAO f))) [.cells ((hof (none:Option (List Int))).flatMap encI.c)] (ac (hs (.done (.opt (yS ZT 22 .nilslice none (some (.i (w64 (0-1)))) none)) .nilslice) (qgo (α:=Int) qI none (some (w64 (0-1))) C)) az)) (Sub.norm [] [none] (by rw[hB];rfl) rfl (.keep (.same (qd encI _)) (.keep qJ.hs0 (.keep (.same nI) .nil))) (.fresh .nil))
       try dsimp only at d
       obtain⟨r,t,d⟩:=bnd d
       obtain rfl:=si d
       exact qE.sub (qE.rq fol [4] (kL b (kAD r (kAO f))) (kA v []) (ac (hs (.done (.opt (yS ZT 22 (.oslice 0 v.length 1) none (some (.i (w64 ((v.length:Int)-1)))) none)) (.oslice 0 r.length 1)) (qit qI t)) az)) ((show Sub (ofG 41 (kL b (kAD r (kAO f))),(kA v [])) (ofG 41 (kL b (kAD r (kAO f))),(kA r []))from(Sub.norm [] [some 0] (by rw[hB];rfl) rfl (.keep (.same (qd encI _)) (.keep (.oslice rfl) (.keep (.same nI) .nil))) (.kb rfl (zS.cut t) .nil))).trans (Sub.norm [] [some 0] (by rw[hB];rfl) rfl (.keep (.same (qd encI _)) (.keep (qJ.hs1 rfl) (.keep (.same nI) .nil))) (.ks .nil)))
      intro _ hsub
      obtain rfl:=si g8
      exact⟨rfl,_,rfl,(hsub.trans (Sub.refl _))⟩
     obtain⟨K,e,g8⟩:=bnd g8
     refine Uk (s':=(ofG 41 (kL b (kAD K (kAO f))),(kA K []))) ?_ ?_
     ·obtain⟨j,g,e⟩:=bnd e
      rcases u with _|D
      ·try dsimp only at e
       obtain rfl:=si e
       exact qE.sub (qE.rq fol [3,4] (kL b ((3,.oslice 2 1 1)::(kAO f))) (.cells ((hof (none:Option (List Int))).flatMap encI.c):: .cells [.i j]::(kAW j)) (ac (iv qI encI g) (ac (lv 0 ce3 encI g rfl) az))) (Sub.norm [] [some 2] (by rw[hB];rfl) rfl (.keep (.same (qd encI _)) (.keep (qJ.osliceE rfl rfl) (.keep (.same nI) .nil))) (.ks .nil))
      try dsimp only at e
      obtain⟨w,F,e⟩:=bnd e
      obtain rfl:=si e
      exact qE.sub (qE.rq fol [3,4,6] (kL b ((3,.oslice 2 w.length 1)::(kAO f))) (kAI j (kA w [])) (ac (iv qI encI g) (ac (lv 0 ce3 encI g rfl) (ac (hs (.run [0,1] (ko ZT [22,22] (.oslice 0 D.length 1) (.slice 1 0 1 1 1)) (kA D (kAW j)) (.oslice 2 w.length 1) (kAI j (kA w [])) true) (y9 qI (E:=encI) rfl (qdr (E:=encI) (ys:=[j]) rfl rfl rfl rfl) (qfo (E:=encI) (l:=D) rfl rfl rfl F rfl))) az)))) (Sub.norm [] [some 2] (by rw[hB];rfl) rfl (.keep (.same (qd encI _)) (.keep (.oslice rfl) (.keep (.same nI) .nil))) (.ks .nil))
     intro _ hsub
     obtain rfl:=si g8
     exact⟨rfl,_,rfl,(hsub.trans (Sub.norm [] [some 0] (by rw[hB];rfl) rfl (.keep (.same (qd encI _)) (.keep (qJ.hs1 rfl) (.keep (.same nI) .nil))) (.ks .nil)))⟩
    rintro x s' ⟨rfl,y,rfl,hsub⟩
    refine Goes.sub hsub ?_
    refine gh fol (kL b (kAa y (kAO (w64 (f+1))))) ?_
    exact⟨M,(ofG 41 (kL b (kAa y (kAO (w64 (f+1))))),(kJ y)),Nat.lt_succ_self _,(Sub.refl _),_,_,rfl,g5⟩
   refine Goes.exit ?_
   obtain rfl:=si g5
   exact⟨rfl,_,rfl,(Sub.keep [3] rfl rfl)⟩
 rintro x s' ⟨rfl,G,rfl,hsub⟩
 refine Goes.sub hsub ?_
 refine sh fol [(2,hsl 0 1 G)] ?_
 refine Goes.ret ?_
 obtain rfl:=si h
 exact(gh2 [hsl 0 1 G] (Sub.norm [0] [] (by rw[hB];rfl) rfl (.keep (qJ.hsL (E:=encI) rfl rfl (nl rfl)) .nil) .nil))
def jJ (n:Int):Nat->(List (List Int))->Int->Option (List (List Int))
 |0,_,_=>none
 |K+1,b,a=>
  if a<=n then
  (app 24 b [([a]:List Int)]).bind fun c=>
  jJ n K c (w64 (a+1))
  else
  some b
def jN (N:Nat) (w:List Int):Nat->(List (List Int))->Int->Option (List (List Int))
 |0,_,_=>none
 |K+1,d,h=>
  if h<(w.length:Int)then
  (((idx w h).bind fun e=>
  (yu e).bind fun a=>
  (idx d (w64 (a-1))).bind fun b=>
  (idx d a).bind fun c=>
  if e>0 then
  (jG b c).bind fun i=>
  (vC N b).bind fun j=>
  (jG i j).bind fun k=>
  (jF N k).bind fun l=>
  (put d (w64 (a-1)) l).bind fun f=>
  (idx f a).bind fun t=>
  (put f a b).bind fun m=>
  some m
  else
  (vC N c).bind fun n=>
  (jG n b).bind fun o=>
  (jG o c).bind fun p=>
  (jF N p).bind fun q=>
  (put d (w64 (a-1)) c).bind fun g=>
  (idx g a).bind fun u=>
  (put g a q).bind fun r=>
  some r:Option (List (List Int)))).bind fun s=>
  jN N w K s (w64 (h+1))
  else
  some d
def xO (N:Nat) (n:Int) (w:List Int):Option (List (List Int)):=
 (jJ n N ([]:List (List Int)) 1).bind fun a=>
 (jN N w N a 0).bind fun b=>
 some b
theorem qdW (N:Nat) (n:Int) (w:List Int) {res:List (List Int)} (h:xO N n w=some res):qg ZT (.fn 19) (kAR n w) [] (vl (qb encI) res) []:=by
 unfold xO at h
 refine Uc Tryz.func19 rfl rfl (m:=77) rfl (rs:=[.tmp 4]) rfl (l:=(kG n w [])) rfl ?_
 refine sh fol (kG n w []) ?_
 refine sh fol (kG n w [(5,.nilslice)]) ?_
 refine sq ?_
 refine sh fol (kG n w [(5,.nilslice),(6,.i 1)]) ?_
 refine Goes.block ?_
 obtain⟨r4,g4,h⟩:=bnd h
 refine Goes.imp (Q:=fun x s'=>(x= .exit 0/\ ∃Z,Z=r4/\Sub s' (ofG 77 (kD w Z []),[.cells (Z.flatMap (qb encI).c)]))) ?_ ?_
 ·refine Goes.sub (s':=(ofG 77 (kG n w (kAM [(6,.i 1)])),[.cells (([]:List (List Int)).flatMap (qb encI).c)])) (Sub.norm [] [none] rfl rfl (.keep (.same nI) (.keep (.same (qd encI _)) (.keep .nil (.keep (.same nI) .nil)))) (.fresh .nil)) ?_
  refine Ub (fun M s=> ∃(q:List (List Int)) (o:Int),s=(ofG 77 ((0,.i n)::(kD w q [(6,.i o)])),[.cells (q.flatMap (qb encI).c)])/\jJ n M q o=some r4) ?_ (m:=N) ⟨_,_,rfl,g4⟩
  rintro M s ⟨q,o,rfl,g4⟩
  cases M with
  |zero=>simp only[jJ]at g4;cases g4
  |succ M=>
   rw[jJ]at g4
   refine sq ?_
   refine sh fol ((0,.i n)::(kD w q [(6,.i o),(13,.bool (decide (o<=n)))])) ?_
   refine ihD g4 (fun c5 g4=>?_) (fun c5 g4=>?_)
   ·refine Goes.skip ?_
    refine sq (Goes.block ?_)
    obtain⟨B,C,g4⟩:=bnd g4
    refine gq fol [4] (kG n w (kAH B [(6,.i o)])) (.dead::(kAA o [.cells ((q).flatMap ((qb encI)).c++[.slice 1 0 1 1 1])])) (ac (hs (.run [0,2] (ko ZT [25,25] (.gslice 0 q.length 1) (.slice 2 0 1 1 1)) (.cells (q.flatMap (qb encI).c)::(kAA o [])) (.gslice 3 B.length 1) (.dead::(kAA o [.cells ((q).flatMap ((qb encI)).c++[.slice 1 0 1 1 1])])) true) (qb9 yg (E:=(qb encI)) (l:=q) (x:=([o]:List Int)) rfl rfl rfl rfl rfl rfl rfl C rfl)) az) ?_
    refine Goes.sub (show Sub (ofG 77 (kG n w (kAH B [(6,.i o)])),(.dead::(kAA o [.cells ((q).flatMap ((qb encI)).c++[.slice 1 0 1 1 1])]))) (ofG 77 ((0,.i n)::(kD w B [(6,.i o)])),[.cells (B.flatMap (qb encI).c)])from(Sub.norm [1] [some 3] rfl rfl (.keep (.same nI) (.keep (.same (qd encI _)) (.keep (.gslice rfl) (.keep (.same nI) .nil)))) (.kb rfl (zS.my (E:=(qb encI)) C (rc (.frz (Fz.lit rfl rfl (FzL.still (AllST.cons tI AllST.nil))) (qd encI _)) rn)) .nil))) ?_
    refine gh fol ((0,.i n)::(kD w B [(6,.i (w64 (o+1)))])) ?_
    exact⟨M,(ofG 77 ((0,.i n)::(kD w B [(6,.i (w64 (o+1)))])),[.cells (B.flatMap (qb encI).c)]),Nat.lt_succ_self _,(Sub.refl _),_,_,rfl,g4⟩
   refine Goes.exit ?_
   obtain rfl:=si g4
   exact⟨rfl,_,rfl,(Sub.keep [1,5] rfl rfl)⟩
 rintro x s' ⟨rfl,Z,rfl,hsub⟩
 refine Goes.sub hsub ?_
 refine sq ?_
 refine sh fol (kD w Z [(7,.i 0)]) ?_
 refine Goes.block ?_
 obtain⟨a0,g10,h⟩:=bnd h
 refine Goes.imp (Q:=fun x s'=>(x= .exit 2/\ ∃Y,Y=a0/\Sub s' (ofG 77 (kN Y []),[.cells (Y.flatMap (qb encI).c)]))) ?_ ?_
 ·refine Ub (fun M s=> ∃(b:List (List Int)) (g:Int),s=(ofG 77 (kD w b (kAN g)),[.cells (b.flatMap (qb encI).c)])/\jN N w M b g=some a0) ?_ (m:=N) ⟨_,_,rfl,g10⟩
  rintro M s ⟨b,g,rfl,g10⟩
  cases M with
  |zero=>simp only[jN]at g10;cases g10
  |succ M=>
   rw[jN]at g10
   refine sq ?_
   refine sh fol (kD w b [(7,.i g),(24,.bool (decide (g<(w.length:Int))))]) ?_
   refine ihD g10 (fun a4 g10=>?_) (fun a4 g10=>?_)
   ·refine Goes.skip ?_
    refine sq ?_
    obtain⟨a5,g13,g10⟩:=bnd g10
    refine Goes.imp (Q:=fun x s'=>(x= .normal/\ ∃p,p=a5/\Sub s' (ofG 77 (kD w p (kAN g)),[.cells (p.flatMap (qb encI).c)]))) ?_ ?_
    ·refine Goes.block ?_
     obtain⟨a1,e,g13⟩:=bnd g13
     obtain⟨a,D,g13⟩:=bnd g13
     refine sq (gr fol [2,3,4] (kD w b [(7,.i g),(8,.i a)]) (ac (iv qI encI e) (ac (lv 0 ce3 encI e rfl) (ac (cv (qai a1 D)) az))) ?_)
     obtain⟨j,d,g13⟩:=bnd g13
     obtain⟨k,f,g13⟩:=bnd g13
     refine sq (gr fol [3,4,7,8] (kD w b [(7,.i g),(8,.i a),(9,vl encI j),(10,vl encI k)]) (ac (hs (.done (.opt (qc ZT 25 (.gslice 0 b.length 1) (.i (w64 (a-1))))) (.ptr 0 ((w64 (a-1):Int).toNat*1+0))) (zV yg d)) (ac (hs (.run [0] (qL ZT 22 (.ptr 0 ((w64 (a-1):Int).toNat*1+0))) [.cells (b.flatMap (qb encI).c)] (vl encI j) [.cells (b.flatMap (qb encI).c)] false) (yI qbY (E:=(qb encI)) (l:=b) rfl rfl d (nl rfl) rfl)) (ac (hs (.done (.opt (qc ZT 25 (.gslice 0 b.length 1) (.i a))) (.ptr 0 ((a:Int).toNat*1+0))) (zV yg f)) (ac (hs (.run [0] (qL ZT 22 (.ptr 0 ((a:Int).toNat*1+0))) [.cells (b.flatMap (qb encI).c)] (vl encI k) [.cells (b.flatMap (qb encI).c)] false) (yI qbY (E:=(qb encI)) (l:=b) rfl rfl f (nl rfl) rfl)) az)))) ?_)
     refine sq (gr fol [2,3] (kD w b [(7,.i g),(8,.i a),(9,vl encI j),(10,vl encI k),(45,.bool (decide (a1>0)))]) (ac (iv qI encI e) (ac (lv 0 ce3 encI e rfl) az)) ?_)
     refine ihD g13 (fun a6 g13=>?_) (fun a6 g13=>?_)
     ·obtain⟨a7,F,g13⟩:=bnd g13
      obtain⟨a8,G,g13⟩:=bnd g13
      obtain⟨a2,H,g13⟩:=bnd g13
      obtain⟨I,J,g13⟩:=bnd g13
      obtain⟨K,r,g13⟩:=bnd g13
      obtain⟨x25,L,g13⟩:=bnd g13
      obtain⟨t,u,g13⟩:=bnd g13
      refine gq fol [7,9,10,11,13,14,15,16] (kD w b (kAN g)) [.cells (t.flatMap (qb encI).c)] (ac (cv (vW j k F)) (ac (cv (qaA N j G)) (ac (cv (vW a7 a8 H)) (ac (hs (.callH 74 [vl encI a2] [.cells (b.flatMap (qb encI).c)] [] (vl encI I) [.cells (b.flatMap (qb encI).c)]) (jA [] [none] (qag N a2 J) .nil rfl rfl (.old rfl rfl .nil) (rc (.same (qd encI _)) rn) (.same (qd encI _)) rfl)) (ac (hs (.done (.opt (qc ZT 25 (.gslice 0 b.length 1) (.i (w64 (a-1))))) (.ptr 0 ((w64 (a-1):Int).toNat*1+0))) (zV yg d)) (ac (hs (.run [0] (ku ZT 22 (.ptr 0 ((w64 (a-1):Int).toNat*1+0)) (vl encI I)) [.cells (b.flatMap (qb encI).c)] .undef [.cells (K.flatMap (qb encI).c)] true) (jQ (E:=(qb encI)) (l:=b) (y:=I) rfl (show _=some 1 by kernel_rfl) rfl d rfl rfl rfl rfl rfl r rfl)) (ac (hs (.done (.opt (qc ZT 25 (.gslice 0 b.length 1) (.i a))) (.ptr 0 ((a:Int).toNat*1+0))) (zV yg f)) (ac (hs (.run [0] (ku ZT 22 (.ptr 0 ((a:Int).toNat*1+0)) (vl encI j)) [.cells (K.flatMap (qb encI).c)] .undef [.cells (t.flatMap (qb encI).c)] true) (jQ (E:=(qb encI)) (l:=K) (y:=j) rfl (show _=some 1 by kernel_rfl) rfl L rfl rfl rfl rfl rfl u rfl)) az)))))))) ?_
      obtain rfl:=si g13
      exact⟨rfl,_,rfl,((show Sub (ofG 77 (kD w b (kAN g)),[.cells (t.flatMap (qb encI).c)]) (ofG 77 (kD w t (kAN g)),[.cells (t.flatMap (qb encI).c)])from(Sub.norm [] [some 0] rfl rfl (.keep (.same (qd encI _)) (.keep (.gsliceE rfl ((ky r).trans (ky u))) (.keep (.same nI) .nil))) (.ks .nil))).trans (Sub.refl _))⟩
     obtain⟨a9,O,g13⟩:=bnd g13
     obtain⟨b0,P,g13⟩:=bnd g13
     obtain⟨a3,T,g13⟩:=bnd g13
     obtain⟨U,V,g13⟩:=bnd g13
     obtain⟨W,v,g13⟩:=bnd g13
     obtain⟨x33,X,g13⟩:=bnd g13
     obtain⟨z,A,g13⟩:=bnd g13
     refine gq fol [7,9,11,12,13,14,15,16] (kD w b (kAN g)) [.cells (z.flatMap (qb encI).c)] (ac (cv (qaA N k O)) (ac (cv (vW a9 j P)) (ac (cv (vW b0 k T)) (ac (hs (.callH 74 [vl encI a3] [.cells (b.flatMap (qb encI).c)] [] (vl encI U) [.cells (b.flatMap (qb encI).c)]) (jA [] [none] (qag N a3 V) .nil rfl rfl (.old rfl rfl .nil) (rc (.same (qd encI _)) rn) (.same (qd encI _)) rfl)) (ac (hs (.done (.opt (qc ZT 25 (.gslice 0 b.length 1) (.i (w64 (a-1))))) (.ptr 0 ((w64 (a-1):Int).toNat*1+0))) (zV yg d)) (ac (hs (.run [0] (ku ZT 22 (.ptr 0 ((w64 (a-1):Int).toNat*1+0)) (vl encI k)) [.cells (b.flatMap (qb encI).c)] .undef [.cells (W.flatMap (qb encI).c)] true) (jQ (E:=(qb encI)) (l:=b) (y:=k) rfl (show _=some 1 by kernel_rfl) rfl d rfl rfl rfl rfl rfl v rfl)) (ac (hs (.done (.opt (qc ZT 25 (.gslice 0 b.length 1) (.i a))) (.ptr 0 ((a:Int).toNat*1+0))) (zV yg f)) (ac (hs (.run [0] (ku ZT 22 (.ptr 0 ((a:Int).toNat*1+0)) (vl encI U)) [.cells (W.flatMap (qb encI).c)] .undef [.cells (z.flatMap (qb encI).c)] true) (jQ (E:=(qb encI)) (l:=W) (y:=U) rfl (show _=some 1 by kernel_rfl) rfl X rfl rfl rfl rfl rfl A rfl)) az)))))))) ?_
     obtain rfl:=si g13
     exact⟨rfl,_,rfl,((show Sub (ofG 77 (kD w b (kAN g)),[.cells (z.flatMap (qb encI).c)]) (ofG 77 (kD w z (kAN g)),[.cells (z.flatMap (qb encI).c)])from(Sub.norm [] [some 0] rfl rfl (.keep (.same (qd encI _)) (.keep (.gsliceE rfl ((ky v).trans (ky A))) (.keep (.same nI) .nil))) (.ks .nil))).trans (Sub.refl _))⟩
    rintro x s' ⟨rfl,p,rfl,hsub⟩
    refine Goes.sub hsub ?_
    refine gh fol (kD w p (kAN (w64 (g+1)))) ?_
    exact⟨M,(ofG 77 (kD w p (kAN (w64 (g+1)))),[.cells (p.flatMap (qb encI).c)]),Nat.lt_succ_self _,(Sub.refl _),_,_,rfl,g10⟩
   refine Goes.exit ?_
   obtain rfl:=si g10
   exact⟨rfl,_,rfl,(Sub.keep [5] rfl rfl)⟩
 rintro x s' ⟨rfl,Y,rfl,hsub⟩
 refine Goes.sub hsub ?_
 refine sh fol (kAV Y) ?_
 refine Goes.ret ?_
 obtain rfl:=si h
 exact(gw2 [.gslice 0 Y.length 1] (Uu (Fz.gs (E:=(qb encI)) rfl rfl (nl rfl))))
end Go.Av
