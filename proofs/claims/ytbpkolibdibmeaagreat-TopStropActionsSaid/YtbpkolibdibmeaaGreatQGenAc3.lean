/-
  Walks of functions: what each computes, as a plain function.
-/
import Derived.Test.YtbpkolibdibmeaaGreatQGenAc2
open Go.IntKind(wrap)
noncomputable section
namespace Go.Av
open Go.Proofs Go.RowKit
set_option linter.unusedSectionVars false
set_option linter.unusedVariables false
set_option linter.unusedSimpArgs false
set_option maxRecDepth 100000
def qbw (c:List (List Int)) (d:Int) (a:Int) (b:Int):Option (List (List Int)):=
 (idx c a).bind fun g=>
 (idx g b).bind fun j=>
 (zM d).bind fun k=>
 (put g b (w64 (j+k))).bind fun h=>
 (idx (zQ c a h) b).bind fun i=>
 (idx i a).bind fun l=>
 (zM d).bind fun e=>
 (put i a (w64 (l+e))).bind fun f=>
 some (zQ (zQ c a h) b f)
theorem qhp (d:List (List Int)) (j:Int) (a:Int) (e:Int) {z:List (List Int)} (h:qbw d j a e=some z):qc ZT (.rd 0) [.i j,.agg [.i a,.i e]] (.loop .ready none (ofG 54 [(5,.ptr 1 0)]) qf.xp qf.x1 qf.x2::(kB d [bg encI d])) (.bool true) (.loop .ready none (ofG 54 [(5,.ptr 1 0)]) qf.xp qf.x1 qf.x2::(kB z [bg encI z])):=by
 unfold qbw at h;refine Goes.round (m:=54) (l0:=(kBD [])) (l:=(kBD [(25,.i j),(26,.agg [.i a,.i e])])) rfl rfl rfl ?_;intro B hB;refine Ul ?_;refine sh fol (kBD [(7,.i j),(26,.agg [.i a,.i e])]) ?_;refine Goes.rg fol (kAZ j) (.loop .ready none (ofG 54 [(5,.ptr 1 0)]) qf.xp qf.x1 qf.x2::(kB d (bg encI d::(kW a e [])))) ?_;refine⟨_,Sub.refl _,?_⟩;refine⟨_,_,_,_,_,rfl,?_⟩;refine Ul ?_;refine Goes.block ?_;obtain⟨k,o,h⟩:=bnd h;refine sq (Goes.sub (Uz (E:=encI) (b:=2) rfl o) ?_);obtain⟨A,p,h⟩:=bnd h;obtain⟨D,w,h⟩:=bnd h;obtain⟨f,u,h⟩:=bnd h;refine gq fol [3,4,7,8,10,12,13] (kAZ j) (.loop .busy none (ofG 54 [(5,.ptr 1 0)]) qf.xp qf.x1 qf.x2::(kB d (.bag ((d.map (vB encI)).set (a:Int).toNat (.av (.gslice 4 k.length 1)))::(kW a e (kA f []))))) (ac (hs (.done (.opt (qd ZT 26 (.slice 2 0 d.length d.length 1) (.i a))) (.ptr 2 ((a:Int).toNat*1+0))) (xN qfR o)) (ac (hs (.run [2] (zV ZT 22 (.ptr 2 ((a:Int).toNat*1+0))) (.loop .busy none (ofG 54 [(5,.ptr 1 0)]) qf.xp qf.x1 qf.x2::(kB d (.bag ((d.map (vB encI)).set (a:Int).toNat (.av (.gslice 4 k.length 1)))::(kW a e (kA k []))))) (.gslice 4 k.length 1) (.loop .busy none (ofG 54 [(5,.ptr 1 0)]) qf.xp qf.x1 qf.x2::(kB d (.bag ((d.map (vB encI)).set (a:Int).toNat (.av (.gslice 4 k.length 1)))::(kW a e (kA k []))))) false) (qlh qme rfl (at_set o))) (ac (hs (.done (.opt (qd ZT 22 (.gslice 4 k.length 1) (.i e))) (.ptr 4 ((e:Int).toNat*1+0))) (qac zO p)) (ac (hs (.run [4] (zV ZT 3 (.ptr 4 ((e:Int).toNat*1+0))) (.loop .busy none (ofG 54 [(5,.ptr 1 0)]) qf.xp qf.x1 qf.x2::(kB d (.bag ((d.map (vB encI)).set (a:Int).toNat (.av (.gslice 4 k.length 1)))::(kW a e (kA k []))))) (.i A) (.loop .busy none (ofG 54 [(5,.ptr 1 0)]) qf.xp qf.x1 qf.x2::(kB d (.bag ((d.map (vB encI)).set (a:Int).toNat (.av (.gslice 4 k.length 1)))::(kW a e (kA k []))))) false) (qcK ce3 (E:=encI) (l:=k) rfl rfl p (nl rfl) rfl)) (ac (cv (z8 j w)) (ac (hs (.done (.opt (qd ZT 22 (.gslice 4 k.length 1) (.i e))) (.ptr 4 ((e:Int).toNat*1+0))) (qac zO p)) (ac (hs (.run [4] (qI ZT 3 (.ptr 4 ((e:Int).toNat*1+0)) (.i (w64 (A+D)))) (.loop .busy none (ofG 54 [(5,.ptr 1 0)]) qf.xp qf.x1 qf.x2::(kB d (.bag ((d.map (vB encI)).set (a:Int).toNat (.av (.gslice 4 k.length 1)))::(kW a e (kA k []))))) .undef (.loop .busy none (ofG 54 [(5,.ptr 1 0)]) qf.xp qf.x1 qf.x2::(kB d (.bag ((d.map (vB encI)).set (a:Int).toNat (.av (.gslice 4 k.length 1)))::(kW a e (kA f []))))) true) (qaU (E:=encI) (l:=k) (y:=w64 (A+D)) rfl (show _=some 1 by kernel_rfl) rfl p rfl rfl rfl rfl rfl u rfl)) az))))))) ?_;refine Goes.sub ((show Sub _ (ofG 54 (kAZ j),(.loop .busy none (ofG 54 [(5,.ptr 1 0)]) qf.xp qf.x1 qf.x2::(kB d (bg encI (zQ d a f)::(kW a e [.dead])))))from(Uu (E:=encI) (b:=2) (c:=4) (Nat.ne_of_beq_eq_false rfl) rfl rfl o .g (jM u))).trans (show Sub _ (ofG 54 (kAZ j),(.loop .busy none (ofG 54 [(5,.ptr 1 0)]) qf.xp qf.x1 qf.x2::(kB (zQ d a f) (bg encI (zQ d a f)::(kW a e [])))))from(Uc [] [some 0,some 1,some 2,some 3] (by rw[hB];rfl) rfl (.kp (.keep (.same nI) (.kp .nil))) (.kb rfl (.loop rfl (.kp .nil)) (.kb rfl (.cells (rc (.sliceE rfl (qdp _ _ _)) rn)) (.kb rfl yj.bgs (.kb rfl (.same sn) .nil))))))) ?_;obtain⟨n,q,h⟩:=bnd h;refine Goes.sub (Uz (E:=encI) (b:=2) rfl q) ?_;obtain⟨C,r,h⟩:=bnd h;obtain⟨x,v,h⟩:=bnd h;obtain⟨s,t,h⟩:=bnd h;refine gq fol [3,4,7,8,10,12,13] [] (.loop .busy none (ofG 54 [(5,.ptr 1 0)]) qf.xp qf.x1 qf.x2::(kB (zQ d a f) (.bag (((zQ d a f).map (vB encI)).set (e:Int).toNat (.av (.gslice 4 n.length 1)))::(kW a e (kA s []))))) (ac (hs (.done (.opt (qd ZT 26 (.slice 2 0 (zQ d a f).length (zQ d a f).length 1) (.i e))) (.ptr 2 ((e:Int).toNat*1+0))) (xN qfR q)) (ac (hs (.run [2] (zV ZT 22 (.ptr 2 ((e:Int).toNat*1+0))) (.loop .busy none (ofG 54 [(5,.ptr 1 0)]) qf.xp qf.x1 qf.x2::(kB (zQ d a f) (.bag (((zQ d a f).map (vB encI)).set (e:Int).toNat (.av (.gslice 4 n.length 1)))::(kW a e (kA n []))))) (.gslice 4 n.length 1) (.loop .busy none (ofG 54 [(5,.ptr 1 0)]) qf.xp qf.x1 qf.x2::(kB (zQ d a f) (.bag (((zQ d a f).map (vB encI)).set (e:Int).toNat (.av (.gslice 4 n.length 1)))::(kW a e (kA n []))))) false) (qlh qme rfl (at_set q))) (ac (hs (.done (.opt (qd ZT 22 (.gslice 4 n.length 1) (.i a))) (.ptr 4 ((a:Int).toNat*1+0))) (qac zO r)) (ac (hs (.run [4] (zV ZT 3 (.ptr 4 ((a:Int).toNat*1+0))) (.loop .busy none (ofG 54 [(5,.ptr 1 0)]) qf.xp qf.x1 qf.x2::(kB (zQ d a f) (.bag (((zQ d a f).map (vB encI)).set (e:Int).toNat (.av (.gslice 4 n.length 1)))::(kW a e (kA n []))))) (.i C) (.loop .busy none (ofG 54 [(5,.ptr 1 0)]) qf.xp qf.x1 qf.x2::(kB (zQ d a f) (.bag (((zQ d a f).map (vB encI)).set (e:Int).toNat (.av (.gslice 4 n.length 1)))::(kW a e (kA n []))))) false) (qcK ce3 (E:=encI) (l:=n) rfl rfl r (nl rfl) rfl)) (ac (cv (z8 j v)) (ac (hs (.done (.opt (qd ZT 22 (.gslice 4 n.length 1) (.i a))) (.ptr 4 ((a:Int).toNat*1+0))) (qac zO r)) (ac (hs (.run [4] (qI ZT 3 (.ptr 4 ((a:Int).toNat*1+0)) (.i (w64 (C+x)))) (.loop .busy none (ofG 54 [(5,.ptr 1 0)]) qf.xp qf.x1 qf.x2::(kB (zQ d a f) (.bag (((zQ d a f).map (vB encI)).set (e:Int).toNat (.av (.gslice 4 n.length 1)))::(kW a e (kA n []))))) .undef (.loop .busy none (ofG 54 [(5,.ptr 1 0)]) qf.xp qf.x1 qf.x2::(kB (zQ d a f) (.bag (((zQ d a f).map (vB encI)).set (e:Int).toNat (.av (.gslice 4 n.length 1)))::(kW a e (kA s []))))) true) (qaU (E:=encI) (l:=n) (y:=w64 (C+x)) rfl (show _=some 1 by kernel_rfl) rfl r rfl rfl rfl rfl rfl t rfl)) az))))))) ?_;obtain rfl:=si h;exact⟨_,((show Sub _ (ofG 54 [],(.loop .busy none (ofG 54 [(5,.ptr 1 0)]) qf.xp qf.x1 qf.x2::(kB (zQ d a f) (bg encI (zQ (zQ d a f) e s)::(kW a e [.dead])))))from(Uu (E:=encI) (b:=2) (c:=4) (Nat.ne_of_beq_eq_false rfl) rfl rfl q .g (jM t))).trans (show Sub _ (ofG 54 [],(.loop .busy none (ofG 54 [(5,.ptr 1 0)]) qf.xp qf.x1 qf.x2::(kB (zQ (zQ d a f) e s) [bg encI (zQ (zQ d a f) e s)])))from(Uc [] [some 0,some 1,some 2] (by rw[hB];rfl) rfl .nil (.kb rfl (.loop rfl (.kp .nil)) (.kb rfl (.cells (rc (.sliceE rfl (qdp _ _ _)) rn)) (.kb rfl yj.bgs .nil)))))),⟨_,_,rfl,(qcE.refl _ _)⟩⟩
def zD (b:List Int):Nat->(List (List Int))->(List Int)->Int->Option (List (List Int))
 |0,_,_,_=>none
 |K+1,k,g,h=>
  if h<(b.length:Int)then
  (idx b h).bind fun c=>
  (qX c).bind fun a=>
  (idx g (w64 (a-1))).bind fun d=>
  (idx g (w64 ((w64 (a-1))+1))).bind fun e=>
  (qbw k c d e).bind fun i=>
  (put g (w64 (a-1)) e).bind fun f=>
  (idx f (w64 ((w64 (a-1))+1))).bind fun l=>
  (put f (w64 ((w64 (a-1))+1)) d).bind fun j=>
  zD b K i j (w64 (h+1))
  else
  some k
def xx (N:Nat) (a:List (List Int)) (b:Int) (c:List Int):Option (List (List Int)):=
 (jd N b).bind fun d=>
 (zD c N a d 0).bind fun e=>
 some e
theorem qdU (N:Nat) (n:List (List Int)) (d:Int) (a:List Int) {J:List (List Int)} (h:xx N n d a=some J):qc ZT (.fn 96) [.yld 0,.ptr 3 0,.ptr 4 0] (.loop .ready none (ofG 54 [(5,.ptr 1 0)]) qf.xp qf.x1 qf.x2::(kB n (bg encI n::(kAA d (kD a []))))) (.tuple []) (.loop .ready none (ofG 54 [(5,.ptr 1 0)]) qf.xp qf.x1 qf.x2::(kB J (bg encI J::(kAA d (kD a []))))):=by
 unfold xx at h;refine Ui Tryz.func96 rfl rfl (m:=50) rfl (rs:=[]) rfl (l:=[(0,.yld 0),(1,.ptr 3 0),(2,.ptr 4 0)]) rfl ?_;intro B hB;refine Ul ?_;obtain⟨G,H,h⟩:=bnd h;refine sq (gq fol [1] ((0,.yld 0)::(2,.ptr 4 0)::(kAY G [])) (.loop .ready none (ofG 54 [(5,.ptr 1 0)]) qf.xp qf.x1 qf.x2::(kB n (bg encI n::(kAA d (kD a (kA G [])))))) (ac (hs (.callH 72 [.i d] (.loop .ready none (ofG 54 [(5,.ptr 1 0)]) qf.xp qf.x1 qf.x2::(kB n (bg encI n::(kAA d (kD a []))))) [] (.slice 5 0 G.length G.length 1) (.loop .ready none (ofG 54 [(5,.ptr 1 0)]) qf.xp qf.x1 qf.x2::(kB n (bg encI n::(kAA d (kD a (kA G []))))))) (zH [] [none,none,none,none,none,some 0] (vY N d H) .nil rfl rfl (.old rfl rfl (.old rfl rfl (.old rfl rfl (.old rfl rfl (.old rfl rfl (.new rfl rfl (.same fa) rfl .nil)))))) (rc (.same nI) rn) (.slice rfl) rfl)) az) ?_);refine sh fol ((0,.yld 0)::(kAY G [(10,vl encI a),(11,.i (a.length:Int)),(12,.i 0)])) ?_;refine Goes.block ?_;obtain⟨K,g8,h⟩:=bnd h;refine Goes.imp (Q:=fun x s'=>(x= .exit 0/\ ∃I,I=K/\Sub s' (ofG 50 [],(.loop .ready none (ofG 54 [(5,.ptr 1 0)]) qf.xp qf.x1 qf.x2::(kB I (bg encI I::(kAA d (kD a [])))))))) ?_ ?_
 ·refine Ue (fun M s=> ∃(o:List (List Int)) (g:List Int) (t:Int),s=(ofG 50 ((0,.yld 0)::(kS g a (a.length:Int) t [])),(.loop .ready none (ofG 54 [(5,.ptr 1 0)]) qf.xp qf.x1 qf.x2::(kB o (bg encI o::(kAA d (kD a (kA g [])))))))/\zD a M o g t=some K) ?_ (m:=N) ⟨_,_,_,rfl,g8⟩;rintro M s ⟨o,g,t,rfl,g8⟩
  cases M with
  |zero=>simp only[zD]at g8;cases g8
  |succ M=>
   rw[zD]at g8;refine sh fol ((0,.yld 0)::(kS g a (a.length:Int) t (kBa (decide (t<(a.length:Int)))))) ?_;refine sq ?_;refine ihD g8 (fun L g8=>?_) (fun L g8=>?_)
   ·refine Goes.skip ?_;refine sq (Goes.block ?_);obtain⟨u,v,g8⟩:=bnd g8;refine sq (gr fol [0,1] ((0,.yld 0)::(kAY g ((6,.i u)::(10,vl encI a)::(kAG (a.length:Int) t [])))) (ac (iv zO encI v) (ac (lv 0 ce3 encI v rfl) az)) ?_);obtain⟨f,A,g8⟩:=bnd g8;refine sq (gr fol [1] ((0,.yld 0)::(kAY g (kBJ u (w64 (f-1)) ((10,vl encI a)::(kAG (a.length:Int) t []))))) (ac (cv (qp u A)) az) ?_);refine sq ?_;obtain⟨q,j,g8⟩:=bnd g8;obtain⟨r,k,g8⟩:=bnd g8;obtain⟨e,C,g8⟩:=bnd g8;refine sq (gq fol [4,5,9,10,12] ((0,.yld 0)::(kAY g ((7,.i (w64 (f-1)))::(10,vl encI a)::(kAG (a.length:Int) t [(32,.bool false)])))) (.loop .ready none (ofG 54 [(5,.ptr 1 0)]) qf.xp qf.x1 qf.x2::(kB e (bg encI e::(kAA d (kD a (kA g [])))))) (ac (hs (.done (.opt (qd ZT 22 (.slice 5 0 g.length g.length 1) (.i (w64 (f-1))))) (.ptr 5 ((w64 (f-1):Int).toNat*1+0))) (xN zO j)) (ac (hs (.run [5] (zV ZT 3 (.ptr 5 ((w64 (f-1):Int).toNat*1+0))) (.loop .ready none (ofG 54 [(5,.ptr 1 0)]) qf.xp qf.x1 qf.x2::(kB o (bg encI o::(kAA d (kD a (kA g [])))))) (.i q) (.loop .ready none (ofG 54 [(5,.ptr 1 0)]) qf.xp qf.x1 qf.x2::(kB o (bg encI o::(kAA d (kD a (kA g [])))))) false) (qcK ce3 (E:=encI) (l:=g) rfl rfl j (nl rfl) rfl)) (ac (hs (.done (.opt (qd ZT 22 (.slice 5 0 g.length g.length 1) (.i (w64 ((w64 (f-1))+1))))) (.ptr 5 ((w64 ((w64 (f-1))+1):Int).toNat*1+0))) (xN zO k)) (ac (hs (.run [5] (zV ZT 3 (.ptr 5 ((w64 ((w64 (f-1))+1):Int).toNat*1+0))) (.loop .ready none (ofG 54 [(5,.ptr 1 0)]) qf.xp qf.x1 qf.x2::(kB o (bg encI o::(kAA d (kD a (kA g [])))))) (.i r) (.loop .ready none (ofG 54 [(5,.ptr 1 0)]) qf.xp qf.x1 qf.x2::(kB o (bg encI o::(kAA d (kD a (kA g [])))))) false) (qcK ce3 (E:=encI) (l:=g) rfl rfl k (nl rfl) rfl)) (ac (hs (.callH (.rd 0) [.i u,.agg [.i q,.i r]] (.loop .ready none (ofG 54 [(5,.ptr 1 0)]) qf.xp qf.x1 qf.x2::(kB o (bg encI o::(kAA d (kD a (kA g [])))))) [0,1,2] (.bool true) (.loop .ready none (ofG 54 [(5,.ptr 1 0)]) qf.xp qf.x1 qf.x2::(kB e (bg encI e::(kAA d (kD a (kA g []))))))) (qog [some 0,some 1,some 2] [some 0,some 1,some 2,none,none,none] (qhp o u q r C) rfl (.kb rfl (.loop rfl (.kp .nil)) (.kb rfl (.cells (rc (.slice rfl) rn)) (.kb rfl yj.bgs .nil))) rfl rfl (.back rfl rfl (.loop rfl (.kp .nil)) rfl (.back rfl rfl (.cells (rc (.slice rfl) rn)) rfl (.back rfl rfl yj.bgs rfl (.old rfl rfl (.old rfl rfl (.old rfl rfl .nil)))))) (rc (.same nI) (rc (.same (qH.agg sn)) rn)) (.same nB) rfl)) az))))) ?_);refine U7 (b:=false) (by kernel_rfl) (fun c=>(by cases c)) (fun _=>?_);refine Goes.skip ?_;obtain⟨D,w,g8⟩:=bnd g8;obtain⟨O,F,g8⟩:=bnd g8;obtain⟨p,z,g8⟩:=bnd g8;refine gq fol [8,9,12,13,14,15,16,17] ((0,.yld 0)::(kS g a (a.length:Int) t [])) (.loop .ready none (ofG 54 [(5,.ptr 1 0)]) qf.xp qf.x1 qf.x2::(kB e (bg encI e::(kAA d (kD a (kA p [])))))) (ac (hs (.done (.opt (qd ZT 22 (.slice 5 0 g.length g.length 1) (.i (w64 ((w64 (f-1))+1))))) (.ptr 5 ((w64 ((w64 (f-1))+1):Int).toNat*1+0))) (xN zO k)) (ac (hs (.run [5] (zV ZT 3 (.ptr 5 ((w64 ((w64 (f-1))+1):Int).toNat*1+0))) (.loop .ready none (ofG 54 [(5,.ptr 1 0)]) qf.xp qf.x1 qf.x2::(kB e (bg encI e::(kAA d (kD a (kA g [])))))) (.i r) (.loop .ready none (ofG 54 [(5,.ptr 1 0)]) qf.xp qf.x1 qf.x2::(kB e (bg encI e::(kAA d (kD a (kA g [])))))) false) (qcK ce3 (E:=encI) (l:=g) rfl rfl k (nl rfl) rfl)) (ac (hs (.done (.opt (qd ZT 22 (.slice 5 0 g.length g.length 1) (.i (w64 (f-1))))) (.ptr 5 ((w64 (f-1):Int).toNat*1+0))) (xN zO j)) (ac (hs (.run [5] (zV ZT 3 (.ptr 5 ((w64 (f-1):Int).toNat*1+0))) (.loop .ready none (ofG 54 [(5,.ptr 1 0)]) qf.xp qf.x1 qf.x2::(kB e (bg encI e::(kAA d (kD a (kA g [])))))) (.i q) (.loop .ready none (ofG 54 [(5,.ptr 1 0)]) qf.xp qf.x1 qf.x2::(kB e (bg encI e::(kAA d (kD a (kA g [])))))) false) (qcK ce3 (E:=encI) (l:=g) rfl rfl j (nl rfl) rfl)) (ac (hs (.done (.opt (qd ZT 22 (.slice 5 0 g.length g.length 1) (.i (w64 (f-1))))) (.ptr 5 ((w64 (f-1):Int).toNat*1+0))) (xN zO j)) (ac (hs (.run [5] (qI ZT 3 (.ptr 5 ((w64 (f-1):Int).toNat*1+0)) (.i r)) (.loop .ready none (ofG 54 [(5,.ptr 1 0)]) qf.xp qf.x1 qf.x2::(kB e (bg encI e::(kAA d (kD a (kA g [])))))) .undef (.loop .ready none (ofG 54 [(5,.ptr 1 0)]) qf.xp qf.x1 qf.x2::(kB e (bg encI e::(kAA d (kD a (kA D [])))))) true) (qaU (E:=encI) (l:=g) (y:=r) rfl (show _=some 1 by kernel_rfl) rfl j rfl rfl rfl rfl rfl w rfl)) (ac (hs (.done (.opt (qd ZT 22 (.slice 5 0 g.length g.length 1) (.i (w64 ((w64 (f-1))+1))))) (.ptr 5 ((w64 ((w64 (f-1))+1):Int).toNat*1+0))) (xN zO k)) (ac (hs (.run [5] (qI ZT 3 (.ptr 5 ((w64 ((w64 (f-1))+1):Int).toNat*1+0)) (.i q)) (.loop .ready none (ofG 54 [(5,.ptr 1 0)]) qf.xp qf.x1 qf.x2::(kB e (bg encI e::(kAA d (kD a (kA D [])))))) .undef (.loop .ready none (ofG 54 [(5,.ptr 1 0)]) qf.xp qf.x1 qf.x2::(kB e (bg encI e::(kAA d (kD a (kA p [])))))) true) (qaU (E:=encI) (l:=D) (y:=q) rfl (show _=some 1 by kernel_rfl) rfl F rfl rfl rfl rfl rfl z rfl)) az)))))))) ?_;refine Goes.sub (show Sub _ (ofG 50 ((0,.yld 0)::(kS p a (a.length:Int) t [])),(.loop .ready none (ofG 54 [(5,.ptr 1 0)]) qf.xp qf.x1 qf.x2::(kB e (bg encI e::(kAA d (kD a (kA p [])))))))from(Uc [] [some 0,some 1,some 2,some 3,some 4,some 5] (by rw[hB];rfl) rfl (.keep (.yld rfl) (.keep (.sliceE rfl ((jM w).trans (jM z))) (.keep (.same (qa encI _)) (.keep (.same nI) (.keep (.same nI) .nil))))) (.kb rfl (.loop rfl (.kp .nil)) (.kb rfl (.cells (rc (.slice rfl) rn)) (.kb rfl yj.bgs (.kb rfl (.same sn) (.kb rfl (.same sn) (.ks .nil)))))))) ?_;refine gh fol ((0,.yld 0)::(kS p a (a.length:Int) (w64 (t+1)) [])) ?_;exact⟨M,(ofG 50 ((0,.yld 0)::(kS p a (a.length:Int) (w64 (t+1)) [])),(.loop .ready none (ofG 54 [(5,.ptr 1 0)]) qf.xp qf.x1 qf.x2::(kB e (bg encI e::(kAA d (kD a (kA p []))))))),Nat.lt_succ_self _,(Sub.refl _),_,_,_,rfl,g8⟩
   refine Goes.exit ?_;obtain rfl:=si g8;exact⟨rfl,_,rfl,(Uc [] [some 0,some 1,some 2,some 3,some 4] (by rw[hB];rfl) rfl .nil (.kb rfl (.loop rfl (.kp .nil)) (.kb rfl (.cells (rc (.slice rfl) rn)) (.kb rfl yj.bgs (.kb rfl (.same sn) (.kb rfl (.same sn) .nil))))))⟩
 rintro x s' ⟨rfl,I,rfl,hsub⟩;obtain rfl:=si h;exact⟨_,hsub,(gh2 [] (qcE.refl _ _))⟩
def xS (n:Int) (c:List (List Int)):Nat->(List (List Int))->Int->Option (List (List Int))
 |0,_,_=>none
 |K+1,b,a=>
  if a<(c.length:Int)then
  (mk 8 n 0).bind fun d=>
  (idx b a).bind fun e=>
  xS n c K (zQ b a d) (w64 (a+1))
  else
  some b
def qb9 (N:Nat) (n:Int) (w:List Int):Option (List (List Int)):=
 (mk 24 n ([]:List Int)).bind fun b=>
 (xS n b N b 0).bind fun c=>
 (xg n w).bind fun _=>
 (xx N c n w).bind fun a=>
 some a
theorem qf9 (N:Nat) (n:Int) (w:List Int) {res:List (List Int)} (h:qb9 N n w=some res):qc ZT (.fn 53) [.i n,vl encI w] [] (vl (qg encI) res) []:=by
 unfold qb9 at h;refine Ub Tryz.func53 rfl rfl (m:=54) rfl (rs:=[.tmp 4]) rfl (l:=(kC n w [])) rfl ?_;refine sh fol (kC n w []) ?_;obtain⟨f,o,h⟩:=bnd h;refine sq (gq fol [1] (kC n w (kBD [])) (.cells (f.flatMap (qlQ encI).c)::(kAJ f [])) (ac (hs (.run [] (yD ZT 26 (.i n) (.i n)) [] (.slice 0 0 f.length f.length 1) [.cells (f.flatMap (qlQ encI).c)] false) (qgr qfR (E:=(qlQ encI)) (z:=[]) rfl (by kernel_rfl) o rfl)) az) ?_);refine Goes.sub (show Sub _ (ofG 54 (kC n w (kBD [])),(bg encI f::(kAJ f [])))from(Sub.bagNil1 (E:=encI) (b:=0) rfl o)) ?_;refine sq ?_;refine sh fol (kC n w (kBD [(12,.i (f.length:Int)),(13,.i 0)])) ?_;refine Goes.block ?_;obtain⟨t,g5,h⟩:=bnd h;refine Goes.imp (Q:=fun x s'=>(x= .exit 0/\ ∃j,j=t/\Sub s' (ofG 54 (kC n w (kAO [])),(kU j [bg encI j])))) ?_ ?_
 ·refine Goes.sub (s':=(ofG 54 (kC n w (kAO [(12,.i (f.length:Int)),(13,.i 0)])),(kU f [bg encI f]))) (Uc [] [some 1,some 0] rfl rfl (.keep (.same nI) (.keep (.same (qa encI _)) (.kp (.keep (.same nI) (.keep (.same nI) .nil))))) (.kb rfl (.cells (rc (.slice rfl) rn)) (.kb rfl yj.bgs .nil))) ?_;refine Ue (fun M s=> ∃(d:List (List Int)) (e:Int),s=(ofG 54 (kC n w (kAO (kAM (f.length:Int) e []))),(kU d [bg encI d]))/\xS n f M d e=some t) ?_ (m:=N) ⟨_,_,rfl,g5⟩;rintro M s ⟨d,e,rfl,g5⟩
  cases M with
  |zero=>simp only[xS]at g5;cases g5
  |succ M=>
   rw[xS]at g5;refine sh fol (kC n w (kAO (kAM (f.length:Int) e (kBR (decide (e<(f.length:Int))))))) ?_;refine sq ?_;refine ihD g5 (fun c6 g5=>?_) (fun c6 g5=>?_)
   ·refine Goes.skip ?_;refine sq (Goes.block ?_);refine sh fol (kC n w (kAO ((6,.i e)::(kAM (f.length:Int) e [])))) ?_;obtain⟨g,p,g5⟩:=bnd g5;obtain⟨u,k,g5⟩:=bnd g5;refine gq fol [3,4,5] (kC n w (kAO (kAM (f.length:Int) e []))) (kU d (.bag ((d.map (vB encI)).set (e:Int).toNat (.av (.slice 2 0 g.length g.length 1)))::(kA g []))) (ac (hs (.run [] (yD ZT 22 (.i n) (.i n)) (kU d [bg encI d]) (.slice 2 0 g.length g.length 1) (kU d (bg encI d::(kA g []))) false) (qgr zO (E:=encI) (z:=0) rfl (by kernel_rfl) p rfl)) (ac (hs (.done (.opt (qd ZT 26 (.slice 1 0 d.length d.length 1) (.i e))) (.ptr 1 ((e:Int).toNat*1+0))) (xN qfR k)) (ac (hs (.run [1] (qI ZT 22 (.ptr 1 ((e:Int).toNat*1+0)) (.slice 2 0 g.length g.length 1)) (kU d (bg encI d::(kA g []))) .undef (kU d (.bag ((d.map (vB encI)).set (e:Int).toNat (.av (.slice 2 0 g.length g.length 1)))::(kA g []))) true) (qoL (show _=some 1 by kernel_rfl) rfl (qq7 k) rfl rfl rfl)) az))) ?_;refine Goes.sub ((show Sub _ (ofG 54 (kC n w (kAO (kAM (f.length:Int) e []))),(kU d [bg encI (zQ d e g),.dead]))from(Uu (E:=encI) (b:=1) (c:=2) (Nat.ne_of_beq_eq_false rfl) rfl rfl k (.s (mk_le p)) rfl)).trans (show Sub _ (ofG 54 (kC n w (kAO (kAM (f.length:Int) e []))),(kU (zQ d e g) [bg encI (zQ d e g)]))from(Uc [] [some 0,some 1] rfl rfl (.keep (.same nI) (.keep (.same (qa encI _)) (.kp (.keep (.same nI) (.keep (.same nI) .nil))))) (.kb rfl (.cells (rc (.sliceE rfl (qdp _ _ _)) rn)) (.kb rfl yj.bgs .nil))))) ?_;refine gh fol (kC n w (kAO (kAM (f.length:Int) (w64 (e+1)) []))) ?_;exact⟨M,(ofG 54 (kC n w (kAO (kAM (f.length:Int) (w64 (e+1)) []))),(kU (zQ d e g) [bg encI (zQ d e g)])),Nat.lt_succ_self _,(Sub.refl _),_,_,rfl,g5⟩
   refine Goes.exit ?_;obtain rfl:=si g5;exact⟨rfl,_,rfl,(Sub.keep [0,1,5] rfl rfl)⟩
 rintro x s' ⟨rfl,j,rfl,hsub⟩;refine Goes.sub hsub ?_;refine sq ?_;obtain⟨_,r,h⟩:=bnd h;refine sq (gq fol [2] (kAO [(24,.func (.func 96) [] [.ptr 2 0,.ptr 3 0])]) (kU j (bg encI j::(kAA n (kD w [])))) (ac (hs (.callH 73 [.i n,vl encI w] (kU j [bg encI j]) [] (.func (.func 96) [] kAr) (kU j (bg encI j::(kAA n (kD w []))))) (zH [] [none,none,some 0,some 1] (qb3 n w r) .nil rfl rfl (.old rfl rfl (.old rfl rfl (.new rfl rfl (.cells (rc (.same nI) rn)) rfl (.new rfl rfl (.cells (rc (.same (qa encI _)) rn)) rfl .nil)))) (rc (.same nI) (rc (.same (qa encI _)) rn)) (.funcL (sn) (rc (.ptr rfl) (rc (.ptr rfl) rn))) rfl)) az) ?_);refine Goes.block ?_;obtain⟨a,q,h⟩:=bnd h;refine Goes.range fol rfl (gf:=96) (first:=[]) (captured:=kAr) (v:= .tuple []) (A2:=(kU a (bg encI a::(kAA n (kD w [.loop .ready none (ofG 54 [(5,.ptr 0 0)]) qf.xp qf.x1 qf.x2]))))) (s':=(ofG 54 (kAO [(24,.func (.func 96) [] [.ptr 2 0,.ptr 3 0])]),(kU a (bg encI a::(kAA n (kD w [.loop .exhausted none (ofG 54 [(5,.ptr 0 0)]) qf.xp qf.x1 qf.x2])))))) (x:= .normal) (by kernel_rfl) (by kernel_rfl) (qiF (show(Obl.callH 96 (.yld 4::kAr) (kU j (bg encI j::(kAA n (kD w [.loop .ready none (ofG 54 [(5,.ptr 0 0),(24,.func (.func 96) [] [.ptr 2 0,.ptr 3 0])]) qf.xp qf.x1 qf.x2])))) [4,0,1,2,3] (.tuple []) (kU a (bg encI a::(kAA n (kD w [.loop .ready none (ofG 54 [(5,.ptr 0 0)]) qf.xp qf.x1 qf.x2]))))).Holds ZT from zH [some 4,some 0,some 1,some 2,some 3] [some 1,some 2,some 3,some 4,some 0] (qdU N j n w q) (.kb rfl (.loop rfl (.kp (.drop .nil))) (.kb rfl (.cells (rc (.slice rfl) rn)) (.kb rfl yj.bgs (.kb rfl (.cells (rc (.same nI) rn)) (.kb rfl (.cells (rc (.same (qa encI _)) rn)) .nil))))) rfl rfl (.back rfl rfl (.cells (rc (.slice rfl) rn)) rfl (.back rfl rfl yj.bgs rfl (.back rfl rfl (.cells (rc (.same nI) rn)) rfl (.back rfl rfl (.cells (rc (.same (qa encI _)) rn)) rfl (.back rfl rfl (.loop rfl (.kp .nil)) rfl .nil))))) (rc (.yld rfl) (rc (.ptr rfl) (rc (.ptr rfl) rn))) (.same (qH.tuple sn)) rfl)) (by kernel_rfl) ?_;refine Goes.sub (show Sub _ (ofG 54 (kAO [(24,.func (.func 96) [] [.ptr 2 0,.ptr 3 0])]),(kU a (bg encI a::(kAA n (kD w [])))))from(Uc [] [some 0,some 1,some 2,some 3] rfl rfl (.kp (.keep (.funcL (sn) (rc (.ptr rfl) (rc (.ptr rfl) rn))) .nil)) (.kb rfl (.cells (rc (.slice rfl) rn)) (.kb rfl yj.bgs (.kb rfl (.same sn) (.kb rfl (.same sn) .nil)))))) ?_;refine sh fol [(4,.slice 1 0 a.length a.length 1)] ?_;refine Goes.sub (Sub.bagFreeze (E:=encI) (b:=1) rfl) ?_;refine Goes.ret ?_;obtain rfl:=si h;exact(gw2 [.slice 1 0 a.length a.length 1] (Us (Fz.slF (E:=(qg encI)) rfl rfl (nl rfl))))
def qiR (n:Int):Option ko:=
 some (⟨n,[]⟩:ko)
theorem qkx (n:Int) {res:ko} (h:qiR n=some res):qc ZT (.fn 90) [.i n] [] (.agg (nz1 res)) []:=by
 unfold qiR at h;refine Ub Tryz.func90 rfl rfl (m:=5) rfl (rs:=[.cell 2 91]) rfl (l:=(kBe n)) rfl ?_;refine sg fol ((0,.i n)::kBE) [bZ] ?_;refine sg fol kBE (kAD n []) ?_;refine Goes.ret ?_;obtain rfl:=si h;exact(gw2 [.agg [.i n,.nilslice]] (FzW.agg (ql.cons (Ua tI) (ql.cons (FzW.nv0 (E:=ZU)) ql.nil))))
def qdb (n:ko):Option qo:=
 (qiR 1).bind fun a=>
 some (⟨n,a⟩:qo)
theorem qg6 (n:ko) {res:qo} (h:qdb n=some res):qc ZT (.fn 89) [.agg (nz1 n)] [] (.agg (nq1 res)) []:=by
 unfold qdb at h;refine Ub Tryz.func89 rfl rfl (m:=6) rfl (rs:=[.cell 2 93]) rfl (l:=[(0,.agg (nz1 n))]) rfl ?_;refine sg fol (kAk []) (.cells (nz1 n)::(kH [])) ?_;obtain⟨a,b,h⟩:=bnd h;refine sq (gq fol [1,3] kBr [.cells (nz1 n),.cells (ni2 n.s n.w a.s a.w)] (ac (cv (qkx 1 b)) (ac (hs (.run [1] (qI ZT 93 (.ptr 1 0) (.agg (ni2 n.s n.w a.s a.w))) (.cells (nz1 n)::(kH [])) .undef [.cells (nz1 n),.cells (ni2 n.s n.w a.s a.w)] true) (vV (n:=4) (by kernel_rfl) rfl rfl rfl rfl (cac rfl (cac nvc (cac rfl (cac nvc can)))) rfl)) az)) ?_);refine Goes.ret ?_;obtain rfl:=si h;exact(gw2 [.agg (ni2 n.s n.w a.s a.w)] (FzW.agg (ql.cons (Ua tI) (ql.cons (Ua (qG ZU _ (nl rfl))) (ql.cons (Ua tI) (ql.cons (Ua (qG ZU _ (nl rfl))) ql.nil))))))
def qg0 (n:Int):Option qo:=
 (qiR n).bind fun a=>
 (qdb a).bind fun b=>
 some b
theorem qd5 (n:Int) {res:qo} (h:qg0 n=some res):qc ZT (.fn 56) [.i n] [] (.agg (nq1 res)) []:=by
 unfold qg0 at h;refine Ub Tryz.func56 rfl rfl (m:=6) rfl (rs:=[.cell 2 93]) rfl (l:=(kBe n)) rfl ?_;refine sg fol ((0,.i n)::kBE) (kH []) ?_;obtain⟨d,a,h⟩:=bnd h;obtain⟨c,b,h⟩:=bnd h;refine sq (gq fol [1,2,3] kBE [.cells (nq1 c)] (ac (cv (qkx n a)) (ac (cv (qg6 d b)) (ac (hs (.run [0] (qI ZT 93 (.ptr 0 0) (.agg (nq1 c))) (kH []) .undef [.cells (nq1 c)] true) (vV (n:=4) (by kernel_rfl) rfl rfl rfl rfl (cac rfl (cac nvc (cac rfl (cac nvc can)))) rfl)) az))) ?_);refine Goes.ret ?_;obtain rfl:=si h;exact(gw2 [.agg (nq1 c)] (FzW.agg (ql.cons (Ua tI) (ql.cons (Ua (qG ZU _ (nl rfl))) (ql.cons (Ua tI) (ql.cons (Ua (qG ZU _ (nl rfl))) ql.nil))))))
def bits_Mul64 (a:Int) (y:Int):Option (Int×Int):=
 some (wrap .u64 ((wrap .u64 ((wrap .u64 ((jv .u64 a 32)*(jv .u64 y 32)))+(jv .u64 (wrap .u64 ((wrap .u64 ((jv .u64 a 32)*(je .u64 y 4294967295)))+(jv .u64 (wrap .u64 ((je .u64 a 4294967295)*(je .u64 y 4294967295))) 32))) 32)))+(jv .u64 (wrap .u64 ((je .u64 (wrap .u64 ((wrap .u64 ((jv .u64 a 32)*(je .u64 y 4294967295)))+(jv .u64 (wrap .u64 ((je .u64 a 4294967295)*(je .u64 y 4294967295))) 32))) 4294967295)+(wrap .u64 ((je .u64 a 4294967295)*(jv .u64 y 32))))) 32)),wrap .u64 (a*y))
theorem qf1 (a:Int) (y:Int) {res:Int×Int} (h:bits_Mul64 a y=some res):qc ZT (.fn 95) (kBn a y) [] (.tuple (kBn res.1 res.2)) []:=by
 unfold bits_Mul64 at h;refine Ub Tryz.func95 rfl rfl (m:=51) rfl (rs:=[.tmp 4,.tmp 5]) rfl (l:=(kAR a y [])) rfl ?_;refine sh fol (kAR a y []) ?_;refine sh fol (kAR a y (kA4 (je .u64 a 4294967295) [])) ?_;refine sh fol (kAR a y (kA4 (je .u64 a 4294967295) [(7,.int .u64 (jv .u64 a 32))])) ?_;refine sh fol (kAR a y (kA4 (je .u64 a 4294967295) [(7,.int .u64 (jv .u64 a 32)),(8,.int .u64 (je .u64 y 4294967295))])) ?_;refine sh fol (kAR a y (kA4 (je .u64 a 4294967295) [(7,.int .u64 (jv .u64 a 32)),(8,.int .u64 (je .u64 y 4294967295)),(9,.int .u64 (jv .u64 y 32))])) ?_;refine sh fol (kAR a y (kA4 (je .u64 a 4294967295) [(7,.int .u64 (jv .u64 a 32)),(8,.int .u64 (je .u64 y 4294967295)),(9,.int .u64 (jv .u64 y 32)),(10,.int .u64 (wrap .u64 ((je .u64 a 4294967295)*(je .u64 y 4294967295))))])) ?_;refine sh fol (kAR a y (kA4 (je .u64 a 4294967295) [(7,.int .u64 (jv .u64 a 32)),(9,.int .u64 (jv .u64 y 32)),(11,.int .u64 (wrap .u64 ((wrap .u64 ((jv .u64 a 32)*(je .u64 y 4294967295)))+(jv .u64 (wrap .u64 ((je .u64 a 4294967295)*(je .u64 y 4294967295))) 32))))])) ?_;refine sh fol (kAR a y (kA4 (je .u64 a 4294967295) [(7,.int .u64 (jv .u64 a 32)),(9,.int .u64 (jv .u64 y 32)),(11,.int .u64 (wrap .u64 ((wrap .u64 ((jv .u64 a 32)*(je .u64 y 4294967295)))+(jv .u64 (wrap .u64 ((je .u64 a 4294967295)*(je .u64 y 4294967295))) 32)))),(12,.int .u64 (je .u64 (wrap .u64 ((wrap .u64 ((jv .u64 a 32)*(je .u64 y 4294967295)))+(jv .u64 (wrap .u64 ((je .u64 a 4294967295)*(je .u64 y 4294967295))) 32))) 4294967295))])) ?_;refine sh fol (kAR a y (kA4 (je .u64 a 4294967295) [(7,.int .u64 (jv .u64 a 32)),(9,.int .u64 (jv .u64 y 32)),(12,.int .u64 (je .u64 (wrap .u64 ((wrap .u64 ((jv .u64 a 32)*(je .u64 y 4294967295)))+(jv .u64 (wrap .u64 ((je .u64 a 4294967295)*(je .u64 y 4294967295))) 32))) 4294967295)),(13,.int .u64 (jv .u64 (wrap .u64 ((wrap .u64 ((jv .u64 a 32)*(je .u64 y 4294967295)))+(jv .u64 (wrap .u64 ((je .u64 a 4294967295)*(je .u64 y 4294967295))) 32))) 32))])) ?_;refine sh fol (kAR a y [(7,.int .u64 (jv .u64 a 32)),(9,.int .u64 (jv .u64 y 32)),(12,.int .u64 (wrap .u64 ((je .u64 (wrap .u64 ((wrap .u64 ((jv .u64 a 32)*(je .u64 y 4294967295)))+(jv .u64 (wrap .u64 ((je .u64 a 4294967295)*(je .u64 y 4294967295))) 32))) 4294967295)+(wrap .u64 ((je .u64 a 4294967295)*(jv .u64 y 32)))))),(13,.int .u64 (jv .u64 (wrap .u64 ((wrap .u64 ((jv .u64 a 32)*(je .u64 y 4294967295)))+(jv .u64 (wrap .u64 ((je .u64 a 4294967295)*(je .u64 y 4294967295))) 32))) 32))]) ?_;refine sh fol (kAR a y [(4,.int .u64 (wrap .u64 ((wrap .u64 ((wrap .u64 ((jv .u64 a 32)*(jv .u64 y 32)))+(jv .u64 (wrap .u64 ((wrap .u64 ((jv .u64 a 32)*(je .u64 y 4294967295)))+(jv .u64 (wrap .u64 ((je .u64 a 4294967295)*(je .u64 y 4294967295))) 32))) 32)))+(jv .u64 (wrap .u64 ((je .u64 (wrap .u64 ((wrap .u64 ((jv .u64 a 32)*(je .u64 y 4294967295)))+(jv .u64 (wrap .u64 ((je .u64 a 4294967295)*(je .u64 y 4294967295))) 32))) 4294967295)+(wrap .u64 ((je .u64 a 4294967295)*(jv .u64 y 32))))) 32))))]) ?_;refine sh fol [(4,.int .u64 (wrap .u64 ((wrap .u64 ((wrap .u64 ((jv .u64 a 32)*(jv .u64 y 32)))+(jv .u64 (wrap .u64 ((wrap .u64 ((jv .u64 a 32)*(je .u64 y 4294967295)))+(jv .u64 (wrap .u64 ((je .u64 a 4294967295)*(je .u64 y 4294967295))) 32))) 32)))+(jv .u64 (wrap .u64 ((je .u64 (wrap .u64 ((wrap .u64 ((jv .u64 a 32)*(je .u64 y 4294967295)))+(jv .u64 (wrap .u64 ((je .u64 a 4294967295)*(je .u64 y 4294967295))) 32))) 4294967295)+(wrap .u64 ((je .u64 a 4294967295)*(jv .u64 y 32))))) 32)))),(5,.int .u64 (wrap .u64 (a*y)))] ?_;refine Goes.ret ?_;obtain rfl:=si h;exact(gw2 (kBn (wrap .u64 ((wrap .u64 ((wrap .u64 ((jv .u64 a 32)*(jv .u64 y 32)))+(jv .u64 (wrap .u64 ((wrap .u64 ((jv .u64 a 32)*(je .u64 y 4294967295)))+(jv .u64 (wrap .u64 ((je .u64 a 4294967295)*(je .u64 y 4294967295))) 32))) 32)))+(jv .u64 (wrap .u64 ((je .u64 (wrap .u64 ((wrap .u64 ((jv .u64 a 32)*(je .u64 y 4294967295)))+(jv .u64 (wrap .u64 ((je .u64 a 4294967295)*(je .u64 y 4294967295))) 32))) 4294967295)+(wrap .u64 ((je .u64 a 4294967295)*(jv .u64 y 32))))) 32))) (wrap .u64 (a*y))) (FzW.tuple (ql.cons (Ua tI) (ql.cons (Ua tI) ql.nil))))
def bits_Mul (b:Int) (y:Int):Option (Int×Int):=
 (bits_Mul64 b y).bind fun a=>
 some (a.1,a.2)
theorem qmY (d:Int) (y:Int) {res:Int×Int} (h:bits_Mul d y=some res):qc ZT (.fn 71) (kBn d y) [] (.tuple (kBn res.1 res.2)) []:=by
 unfold bits_Mul at h;refine Ub Tryz.func71 rfl rfl (m:=30) rfl (rs:=[.tmp 4,.tmp 5]) rfl (l:=(kAR d y [])) rfl ?_;refine sh fol (kAR d y []) ?_;refine sq ?_;refine U7 (b:=false) (by kernel_rfl) (fun c=>(by cases c)) (fun _=>?_);refine Goes.skip ?_;obtain⟨a,e,h⟩:=bnd h;refine sq (gr fol [2] [(8,.int .u64 a.1),(9,.int .u64 a.2)] (ac (cv (qf1 d y e)) az) ?_);refine sh fol [(4,.int .u64 a.1),(5,.int .u64 a.2)] ?_;refine Goes.ret ?_;obtain rfl:=si h;exact(gw2 (kBn a.1 a.2) (FzW.tuple (ql.cons (Ua tI) (ql.cons (Ua tI) ql.nil))))
def yL (a:ko):Option Int:=
 some (if(if a.s<1 then a.s else 1)>(-1)then(if a.s<1 then a.s else 1)else(-1))
theorem qcL (a:ko) {res:Int} (h:yL a=some res):qc ZT (.fn 127) [.agg (nz1 a)] [] (.i res) []:=by
 unfold yL at h;refine Ub Tryz.func127 rfl rfl (m:=7) rfl (rs:=[.tmp 2]) rfl (l:=[(0,.agg (nz1 a))]) rfl ?_;refine sg fol [(1,.ptr 0 0)] [.cells (nz1 a)] ?_;refine sh fol [(2,.i (if(if a.s<1 then a.s else 1)>(-1)then(if a.s<1 then a.s else 1)else(-1)))] ?_;refine Goes.ret ?_;obtain rfl:=si h;exact(gw2 [.i (if(if a.s<1 then a.s else 1)>(-1)then(if a.s<1 then a.s else 1)else(-1))] (Ua tI))
def vI (a:ko):Option ko:=
 (if a.w.isEmpty=true then
 some (!decide (a.s=(-9223372036854775808)))
 else
 some false:Option Bool).bind fun b=>
 if b=true then
 some (⟨w64 (0-a.s),[]⟩:ko)
 else
 none
theorem qad (a:ko) {res:ko} (h:vI a=some res):qc ZT (.fn 128) [.agg (nz1 a)] [] (.agg (nz1 res)) []:=by
 unfold vI at h;refine Ub Tryz.func128 rfl rfl (m:=26) rfl (rs:=[.cell 2 91]) rfl (l:=[(0,.agg (nz1 a))]) rfl ?_;refine sg fol (kAk []) [.cells (nz1 a),bZ] ?_;refine sq ?_;refine sq ?_;obtain⟨d,b,h⟩:=bnd h;refine Goes.cut (s':=(ofG 26 (kAk [(12,.bool d)]),[.cells (nz1 a),bZ])) ?_ ?_
 ·rcases wyB b with⟨c,b⟩|⟨c,b⟩
  ·obtain rfl:=si b;exact tr fol [2,3] (kAk [(12,.bool (!decide (a.s=(-9223372036854775808))))]) (ac (hs (.done (.opt (qaQ ZT .eql 89 (.tmp 6) (.const (.slice none 0 0)) (nvl ZU a.w) .nilslice)) (.bool a.w.isEmpty)) (qbP qbH)) (ac (gw c) az))
  obtain rfl:=si b;exact tr fol [2,3] (kAk [(12,.bool false)]) (ac (hs (.done (.opt (qaQ ZT .eql 89 (.tmp 6) (.const (.slice none 0 0)) (nvl ZU a.w) .nilslice)) (.bool a.w.isEmpty)) (qbP qbH)) (ac (gw c) az))
 refine ihB h (fun e h=>?_) (fun e h=>?_)
 ·refine sg fol kBr (.cells (nz1 a)::(kAD (w64 (0-a.s)) [])) ?_;refine Goes.ret ?_;obtain rfl:=si h;exact(gw2 [.agg [.i (w64 (0-a.s)),.nilslice]] (FzW.agg (ql.cons (Ua tI) (ql.cons (FzW.nv0 (E:=ZU)) ql.nil))))
 refine Goes.skip ?_;refine sq ?_;cases h
def qbI (a:ko):Option ko:=
 if a.s<0 then
 (vI a).bind fun b=>
 some b
 else
 some a
theorem qfg (a:ko) {res:ko} (h:qbI a=some res):qc ZT (.fn 140) [.agg (nz1 a)] [] (.agg (nz1 res)) []:=by
 unfold qbI at h;refine Ub Tryz.func140 rfl rfl (m:=9) rfl (rs:=[.cell 2 91]) rfl (l:=[(0,.agg (nz1 a))]) rfl ?_;refine sg fol (kAk []) [.cells (nz1 a),bZ] ?_;refine sq ?_;refine sh fol (kAk [(5,.bool (decide (a.s<0)))]) ?_;refine ihD h (fun d h=>?_) (fun d h=>?_)
 ·obtain⟨c,b,h⟩:=bnd h;refine sq (gq fol [1,2] kBr [.cells (nz1 a),.cells (nz1 c)] (ac (cv (qad a b)) (ac (hs (.run [1] (qI ZT 91 (.ptr 1 0) (.agg (nz1 c))) [.cells (nz1 a),bZ] .undef [.cells (nz1 a),.cells (nz1 c)] true) (vV (n:=2) (by kernel_rfl) rfl rfl rfl rfl (cac rfl (cac nvc can)) rfl)) az)) ?_);refine Goes.ret ?_;obtain rfl:=si h;exact(gw2 [.agg (nz1 c)] (FzW.agg (ql.cons (Ua tI) (ql.cons (Ua (qG ZU _ (nl rfl))) ql.nil))))
 refine Goes.skip ?_;refine sq (gq fol [1] kBr [.cells (nz1 a),.cells (nz1 a)] (ac (hs (.run [1] (qI ZT 91 (.ptr 1 0) (.agg (nz1 a))) [.cells (nz1 a),bZ] .undef [.cells (nz1 a),.cells (nz1 a)] true) (vV (n:=2) (by kernel_rfl) rfl rfl rfl rfl (cac rfl (cac nvc can)) rfl)) az) ?_);refine Goes.ret ?_;obtain rfl:=si h;exact(gw2 [.agg (nz1 a)] (FzW.agg (ql.cons (Ua tI) (ql.cons (Ua (qG ZU _ (nl rfl))) ql.nil))))
def qbd (a:ko) (b:ko):Option ko:=
 (if a.w.isEmpty=true then
 some b.w.isEmpty
 else
 some false:Option Bool).bind fun c=>
 ((if c=true then
 if((decide ((w64 (a.s+b.s))>a.s))==(decide (b.s>0)))=true then
 some (.inr (⟨w64 (a.s+b.s),[]⟩:ko))
 else
 some (.inl ())
 else
 some (.inl ()):Option (Unit⊕ko))).bind (fun
 |(.inl ())=>
 none
 |(.inr d)=>
 some d)
theorem qeV (a:ko) (b:ko) {res:ko} (h:qbd a b=some res):qc ZT (.fn 120) [.agg (nz1 a),.agg (nz1 b)] [] (.agg (nz1 res)) []:=by
 unfold qbd at h;refine Ub Tryz.func120 rfl rfl (m:=67) rfl (rs:=[.cell 4 91]) rfl (l:=[(0,.agg (nz1 a)),(1,.agg (nz1 b))]) rfl ?_;refine sg fol (kG []) [.cells (nz1 a),.cells (nz1 b),bZ] ?_;refine sq ?_;refine sq ?_;obtain⟨g,c,h⟩:=bnd h;refine Goes.cut (s':=(ofG 67 (kG [(17,.bool g)]),[.cells (nz1 a),.cells (nz1 b),bZ])) ?_ ?_
 ·rcases wyB c with⟨d,c⟩|⟨d,c⟩
  ·obtain rfl:=si c;exact tr fol [2,3,6] (kG [(17,.bool b.w.isEmpty)]) (ac (hs (.done (.opt (qaQ ZT .eql 89 (.tmp 11) (.const (.slice none 0 0)) (nvl ZU a.w) .nilslice)) (.bool a.w.isEmpty)) (qbP qbH)) (ac (gw d) (ac (hs (.done (.opt (qaQ ZT .eql 89 (.tmp 15) (.const (.slice none 0 0)) (nvl ZU b.w) .nilslice)) (.bool b.w.isEmpty)) (qbP qbH)) az)))
  obtain rfl:=si c;exact tr fol [2,3] (kG [(17,.bool false)]) (ac (hs (.done (.opt (qaQ ZT .eql 89 (.tmp 11) (.const (.slice none 0 0)) (nvl ZU a.w) .nilslice)) (.bool a.w.isEmpty)) (qbP qbH)) (ac (gw d) az))
 obtain⟨e,g4,h⟩:=bnd h;refine Goes.imp (Q:=fun x s'=>(x= .normal/\(.inl ())=e/\Sub s' (ofG 67 (kG []),[.cells (nz1 a),.cells (nz1 b),bZ]))\/(x= .ret/\ ∃f,(.inr f)=e/\jw ZT [.cell 4 91] (.agg (nz1 f)) .ret s')) ?_ ?_
 ·refine ihB g4 (fun c6 g4=>?_) (fun c6 g4=>?_)
  ·refine sh fol (kG [(5,.i (w64 (a.s+b.s)))]) ?_;refine sh fol (kG [(5,.i (w64 (a.s+b.s))),(30,.bool ((decide ((w64 (a.s+b.s))>a.s))==(decide (b.s>0))))]) ?_;refine ihB g4 (fun j g4=>?_) (fun j g4=>?_)
   ·refine sg fol kA7 (.cells (nz1 a):: .cells (nz1 b)::(kAD (w64 (a.s+b.s)) [])) ?_;refine Goes.ret ?_;obtain rfl:=si g4;exact Or.inr (⟨rfl,_,rfl,(gw2 [.agg [.i (w64 (a.s+b.s)),.nilslice]] (FzW.agg (ql.cons (Ua tI) (ql.cons (FzW.nv0 (E:=ZU)) ql.nil))))⟩)
   refine Goes.skip ?_;obtain rfl:=si g4;exact Or.inl (⟨rfl,rfl,(Sub.keep [2,3,4] rfl rfl)⟩)
  refine Goes.skip ?_;obtain rfl:=si g4;exact Or.inl (⟨rfl,rfl,(Sub.keep [2,3,4] rfl rfl)⟩)
 rintro x s' (⟨rfl,rfl,hsub⟩|⟨rfl,k,rfl,hret⟩)
 ·try dsimp only at h
  refine Goes.sub hsub ?_;refine sq ?_;cases h
 try dsimp only at h
 obtain rfl:=si h;exact hret
def qak (a:ko) (b:ko):Option (ko×ko):=
 (if a.w.isEmpty=true then
 if b.w.isEmpty=true then
 some (!decide (a.s=(-9223372036854775808)))
 else
 some false
 else
 some false:Option Bool).bind fun e=>
 if e=true then
 (qqC .i64 a.s b.s).bind fun d=>
 (qs6 .i64 a.s b.s).bind fun c=>
 ((if c<0 then
 some (w64 (d-1),w64 (c+b.s))
 else
 some (d,c):Option (Int×Int))).bind fun(f,g)=>
 some ((⟨f,[]⟩:ko),(⟨g,[]⟩:ko))
 else
 none
theorem qdH (a:ko) (b:ko) {res:ko×ko} (h:qak a b=some res):qc ZT (.fn 141) [.agg (nz1 a),.agg (nz1 b)] [] (.tuple [.agg (nz1 res.1),.agg (nz1 res.2)]) []:=by
 unfold qak at h;refine Ub Tryz.func141 rfl rfl (m:=84) rfl (rs:=[.cell 4 91,.cell 5 91]) rfl (l:=[(0,.agg (nz1 a)),(1,.agg (nz1 b))]) rfl ?_;refine sg fol (kG [(5,.ptr 3 0)]) [.cells (nz1 a),.cells (nz1 b),bZ,bZ] ?_;refine sq ?_;refine sq ?_;obtain⟨r,c,h⟩:=bnd h;refine Goes.cut (s':=(ofG 84 (kG [(5,.ptr 3 0),(28,.bool r)]),[.cells (nz1 a),.cells (nz1 b),bZ,bZ])) ?_ ?_
 ·rcases wyB c with⟨k,c⟩|⟨k,c⟩
  ·rcases wyB c with⟨o,c⟩|⟨o,c⟩
   ·obtain rfl:=si c;exact tr fol [2,3,6,8] (kG [(5,.ptr 3 0),(28,.bool (!decide (a.s=(-9223372036854775808))))]) (ac (hs (.done (.opt (qaQ ZT .eql 89 (.tmp 17) (.const (.slice none 0 0)) (nvl ZU a.w) .nilslice)) (.bool a.w.isEmpty)) (qbP qbH)) (ac (gw k) (ac (hs (.done (.opt (qaQ ZT .eql 89 (.tmp 21) (.const (.slice none 0 0)) (nvl ZU b.w) .nilslice)) (.bool b.w.isEmpty)) (qbP qbH)) (ac (gw o) az))))
   obtain rfl:=si c;exact tr fol [2,3,6,8] (kG [(5,.ptr 3 0),(28,.bool false)]) (ac (hs (.done (.opt (qaQ ZT .eql 89 (.tmp 17) (.const (.slice none 0 0)) (nvl ZU a.w) .nilslice)) (.bool a.w.isEmpty)) (qbP qbH)) (ac (gw k) (ac (hs (.done (.opt (qaQ ZT .eql 89 (.tmp 21) (.const (.slice none 0 0)) (nvl ZU b.w) .nilslice)) (.bool b.w.isEmpty)) (qbP qbH)) (ac (gw o) az))))
  obtain rfl:=si c;exact tr fol [2,3] (kG [(5,.ptr 3 0),(28,.bool false)]) (ac (hs (.done (.opt (qaQ ZT .eql 89 (.tmp 17) (.const (.slice none 0 0)) (nvl ZU a.w) .nilslice)) (.bool a.w.isEmpty)) (qbP qbH)) (ac (gw k) az))
 refine ihB h (fun t h=>?_) (fun t h=>?_)
 ·obtain⟨n,d,h⟩:=bnd h;obtain⟨e,f,h⟩:=bnd h;refine sq (gr fol [4,9] ((3,.ptr 1 0)::(kBi (kBJ n e []))) (ac (hs (.done (.opt (qaQ ZT .quo 3 (.tmp 30) (.tmp 32) (.i a.s) (.i b.s))) (.i n)) (qtA d)) (ac (hs (.done (.opt (qaQ ZT .rem 3 (.tmp 35) (.tmp 37) (.i a.s) (.i b.s))) (.i e)) (qtC f)) az)) ?_);refine sq ?_;refine sh fol ((3,.ptr 1 0)::(kBi (kBJ n e [(40,.bool (decide (e<0)))]))) ?_;obtain⟨p,g10,h⟩:=bnd h;refine Goes.imp (Q:=fun x s'=>(x= .normal/\ ∃g j,(g,j)=p/\Sub s' (ofG 84 (kAb (kBJ g j [])),[bZ,bZ]))) ?_ ?_
  ·refine ihD g10 (fun q g10=>?_) (fun q g10=>?_)
   ·refine gh fol (kBi (kBJ (w64 (n-1)) (w64 (e+b.s)) [])) ?_;obtain rfl:=si g10;exact⟨rfl,_,_,rfl,(Uc [] [some 2,some 3] rfl rfl (.kp (.kp (.keep (.same nI) (.keep (.same nI) .nil)))) (.kb rfl (.same sn) (.kb rfl (.same sn) .nil)))⟩
   refine Goes.skip ?_;obtain rfl:=si g10;exact⟨rfl,_,_,rfl,(Uc [] [some 2,some 3] rfl rfl (.drop (.kp (.kp (.keep (.same nI) (.keep (.same nI) .nil))))) (.kb rfl (.same sn) (.kb rfl (.same sn) .nil)))⟩
  rintro x s' ⟨rfl,g,j,rfl,hsub⟩
  try dsimp only at h
  refine Goes.sub hsub ?_;refine sg fol (kAb []) (kAD g (kAD j [])) ?_;refine Goes.ret ?_;obtain rfl:=si h;exact(gw2 [.agg [.i g,.nilslice],.agg [.i j,.nilslice]] (FzW.tuple (ql.cons (FzW.agg (ql.cons (Ua tI) (ql.cons (FzW.nv0 (E:=ZU)) ql.nil))) (ql.cons (FzW.agg (ql.cons (Ua tI) (ql.cons (FzW.nv0 (E:=ZU)) ql.nil))) ql.nil))))
 refine Goes.skip ?_;refine sq ?_;cases h
def qa2:Nat->Int->(List Int)->Int->(List Int)->Option (Int×(List Int))
 |0,_,_,_,_=>none
 |K+1,e,f,b,c=>
  (yL (⟨b,c⟩:ko)).bind fun d=>
  if(!decide (d=0))=true then
  (qak (⟨e,f⟩:ko) (⟨b,c⟩:ko)).bind fun a=>
  qa2 K b c a.2.s a.2.w
  else
  some (e,f)
def qgI (N:Nat) (a:ko) (b:ko):Option ko:=
 (qbI a).bind fun c=>
 (qbI b).bind fun d=>
 (qa2 N c.s c.w d.s d.w).bind fun(e,f)=>
 some (⟨e,f⟩:ko)
theorem qoh (N:Nat) (a:ko) (b:ko) {res:ko} (h:qgI N a b=some res):qc ZT (.fn 129) [.agg (nz1 a),.agg (nz1 b)] [] (.agg (nz1 res)) []:=by
 unfold qgI at h;refine Ub Tryz.func129 rfl rfl (m:=23) rfl (rs:=[.cell 4 91]) rfl (l:=[(0,.agg (nz1 a)),(1,.agg (nz1 b))]) rfl ?_;refine sg fol (kG []) [.cells (nz1 a),.cells (nz1 b),bZ] ?_;obtain⟨p,q,h⟩:=bnd h;obtain⟨t,r,h⟩:=bnd h;refine sq (gq fol [1,3,4,5] (kG []) [.cells (nz1 p),.cells (nz1 t),bZ] (ac (cv (qfg a q)) (ac (cv (qfg b r)) (ac (hs (.run [0] (qI ZT 91 (.ptr 0 0) (.agg (nz1 p))) [.cells (nz1 a),.cells (nz1 b),bZ] .undef [.cells (nz1 p),.cells (nz1 b),bZ] true) (vV (n:=2) (by kernel_rfl) rfl rfl rfl rfl (cac rfl (cac nvc can)) rfl)) (ac (hs (.run [1] (qI ZT 91 (.ptr 1 0) (.agg (nz1 t))) [.cells (nz1 p),.cells (nz1 b),bZ] .undef [.cells (nz1 p),.cells (nz1 t),bZ] true) (vV (n:=2) (by kernel_rfl) rfl rfl rfl rfl (cac rfl (cac nvc can)) rfl)) az)))) ?_);refine sq (Goes.block ?_);obtain⟨w,g9,h⟩:=bnd h;refine Goes.imp (Q:=fun x s'=>(x= .exit 0/\ ∃f g,(f,g)=w/\Sub s' (ofG 23 [(2,.ptr 0 0),(4,.ptr 1 0)],[.cells (ni1 f g),bZ]))) ?_ ?_
 ·refine Ue (fun M s=> ∃(i:Int) (j:List Int) (d:Int) (e:List Int),s=(ofG 23 (kG []),[.cells (ni1 i j),.cells (ni1 d e),bZ])/\qa2 M i j d e=some w) ?_ (m:=N) ⟨_,_,_,_,rfl,g9⟩;rintro M s ⟨i,j,d,e,rfl,g9⟩
  cases M with
  |zero=>simp only[qa2]at g9;cases g9
  |succ M=>
   rw[qa2]at g9;refine sq ?_;obtain⟨u,k,g9⟩:=bnd g9;refine sq (gr fol [1] (kG (kBa (!decide (u=0)))) (ac (cv (qcL (⟨d,e⟩:ko) k)) az) ?_);refine ihB g9 (fun v g9=>?_) (fun v g9=>?_)
   ·refine Goes.skip ?_;refine Goes.block ?_;obtain⟨c,o,g9⟩:=bnd g9;refine sq (gq fol [2,8,9] (kG [(6,.ptr 4 0)]) [.cells (ni1 i j),.cells (ni1 d e),bZ,.cells (nz1 c.1),.cells (nz1 c.2)] (ac (cv (qdH (⟨i,j⟩:ko) (⟨d,e⟩:ko) o)) (ac (hs (.run [3] (qI ZT 91 (.ptr 3 0) (.agg (nz1 c.1))) [.cells (ni1 i j),.cells (ni1 d e),bZ,bZ,bZ] .undef [.cells (ni1 i j),.cells (ni1 d e),bZ,.cells (nz1 c.1),bZ] true) (vV (n:=2) (by kernel_rfl) rfl rfl rfl rfl (cac rfl (cac nvc can)) rfl)) (ac (hs (.run [4] (qI ZT 91 (.ptr 4 0) (.agg (nz1 c.2))) [.cells (ni1 i j),.cells (ni1 d e),bZ,.cells (nz1 c.1),bZ] .undef [.cells (ni1 i j),.cells (ni1 d e),bZ,.cells (nz1 c.1),.cells (nz1 c.2)] true) (vV (n:=2) (by kernel_rfl) rfl rfl rfl rfl (cac rfl (cac nvc can)) rfl)) az))) ?_);refine gq fol [2,3] (kG []) [.cells (ni1 d e),.cells (nz1 c.2),bZ,.cells (nz1 c.1),.cells (nz1 c.2)] (ac (hs (.run [0] (qI ZT 91 (.ptr 0 0) (.agg (ni1 d e))) [.cells (ni1 i j),.cells (ni1 d e),bZ,.cells (nz1 c.1),.cells (nz1 c.2)] .undef [.cells (ni1 d e),.cells (ni1 d e),bZ,.cells (nz1 c.1),.cells (nz1 c.2)] true) (vV (n:=2) (by kernel_rfl) rfl rfl rfl rfl (cac rfl (cac nvc can)) rfl)) (ac (hs (.run [1] (qI ZT 91 (.ptr 1 0) (.agg (nz1 c.2))) [.cells (ni1 d e),.cells (ni1 d e),bZ,.cells (nz1 c.1),.cells (nz1 c.2)] .undef [.cells (ni1 d e),.cells (nz1 c.2),bZ,.cells (nz1 c.1),.cells (nz1 c.2)] true) (vV (n:=2) (by kernel_rfl) rfl rfl rfl rfl (cac rfl (cac nvc can)) rfl)) az)) ?_;exact⟨M,(ofG 23 (kG []),[.cells (ni1 d e),.cells (nz1 c.2),bZ]),Nat.lt_succ_self _,(Uc [] [some 0,some 1,some 2] rfl rfl (.kp (.kp (.kp .nil))) (.kb rfl (.same sn) (.kb rfl (.same sn) (.kb rfl (.same sn) .nil)))),_,_,_,_,rfl,g9⟩
   refine Goes.exit ?_;obtain rfl:=si g9;exact⟨rfl,_,_,rfl,(Uc [] [some 0,some 2] rfl rfl (.kp (.drop (.kp .nil))) (.kb rfl (.same sn) (.kb rfl (.same sn) .nil)))⟩
 rintro x s' ⟨rfl,f,g,rfl,hsub⟩
 try dsimp only at h
 refine Goes.sub hsub ?_;refine sq (gq fol [1] [(4,.ptr 1 0)] [.cells (ni1 f g),.cells (ni1 f g)] (ac (hs (.run [1] (qI ZT 91 (.ptr 1 0) (.agg (ni1 f g))) [.cells (ni1 f g),bZ] .undef [.cells (ni1 f g),.cells (ni1 f g)] true) (vV (n:=2) (by kernel_rfl) rfl rfl rfl rfl (cac rfl (cac nvc can)) rfl)) az) ?_);refine Goes.ret ?_;obtain rfl:=si h;exact(gw2 [.agg (ni1 f g)] (FzW.agg (ql.cons (Ua tI) (ql.cons (Ua (qG ZU _ (nl rfl))) ql.nil))))
def qbM (a:ko) (b:ko):Option ko:=
 (yL b).bind fun f=>
 ((if f<0 then
 (vI a).bind fun d=>
 (vI b).bind fun e=>
 some (d.s,d.w,e.s,e.w)
 else
 some (a.s,a.w,b.s,b.w):Option (Int×(List Int)×Int×(List Int)))).bind fun(g,h,i,j)=>
 (qak (⟨g,h⟩:ko) (⟨i,j⟩:ko)).bind fun c=>
 some c.1
theorem qfk (a:ko) (b:ko) {res:ko} (h:qbM a b=some res):qc ZT (.fn 130) [.agg (nz1 a),.agg (nz1 b)] [] (.agg (nz1 res)) []:=by
 unfold qbM at h;refine Ub Tryz.func130 rfl rfl (m:=21) rfl (rs:=[.cell 4 91]) rfl (l:=[(0,.agg (nz1 a)),(1,.agg (nz1 b))]) rfl ?_;refine sg fol (kG []) [.cells (nz1 a),.cells (nz1 b),bZ] ?_;refine sq ?_;obtain⟨r,j,h⟩:=bnd h;refine sq (gr fol [1] (kG [(9,.bool (decide (r<0)))]) (ac (cv (qcL b j)) az) ?_);obtain⟨s,g6,h⟩:=bnd h;refine Goes.imp (Q:=fun x s'=>(x= .normal/\ ∃d e f g,(d,e,f,g)=s/\Sub s' (ofG 21 (kG []),[.cells (ni1 d e),.cells (ni1 f g),bZ]))) ?_ ?_
 ·refine ihD g6 (fun t g6=>?_) (fun t g6=>?_)
  ·obtain⟨k,o,g6⟩:=bnd g6;obtain⟨q,p,g6⟩:=bnd g6;refine gq fol [1,3,4,5] (kG []) [.cells (nz1 k),.cells (nz1 q),bZ] (ac (cv (qad a o)) (ac (cv (qad b p)) (ac (hs (.run [0] (qI ZT 91 (.ptr 0 0) (.agg (nz1 k))) [.cells (nz1 a),.cells (nz1 b),bZ] .undef [.cells (nz1 k),.cells (nz1 b),bZ] true) (vV (n:=2) (by kernel_rfl) rfl rfl rfl rfl (cac rfl (cac nvc can)) rfl)) (ac (hs (.run [1] (qI ZT 91 (.ptr 1 0) (.agg (nz1 q))) [.cells (nz1 k),.cells (nz1 b),bZ] .undef [.cells (nz1 k),.cells (nz1 q),bZ] true) (vV (n:=2) (by kernel_rfl) rfl rfl rfl rfl (cac rfl (cac nvc can)) rfl)) az)))) ?_;obtain rfl:=si g6;exact⟨rfl,_,_,_,_,rfl,(Sub.refl _)⟩
  refine Goes.skip ?_;obtain rfl:=si g6;exact⟨rfl,_,_,_,_,rfl,(Sub.keep [2,3,4] rfl rfl)⟩
 rintro x s' ⟨rfl,d,e,f,g,rfl,hsub⟩
 try dsimp only at h
 refine Goes.sub hsub ?_;obtain⟨c,i,h⟩:=bnd h;refine sq (gq fol [2,8,9] (kBi []) [.cells (ni1 d e),.cells (ni1 f g),bZ,.cells (nz1 c.1),.cells (nz1 c.2)] (ac (cv (qdH (⟨d,e⟩:ko) (⟨f,g⟩:ko) i)) (ac (hs (.run [3] (qI ZT 91 (.ptr 3 0) (.agg (nz1 c.1))) [.cells (ni1 d e),.cells (ni1 f g),bZ,bZ,bZ] .undef [.cells (ni1 d e),.cells (ni1 f g),bZ,.cells (nz1 c.1),bZ] true) (vV (n:=2) (by kernel_rfl) rfl rfl rfl rfl (cac rfl (cac nvc can)) rfl)) (ac (hs (.run [4] (qI ZT 91 (.ptr 4 0) (.agg (nz1 c.2))) [.cells (ni1 d e),.cells (ni1 f g),bZ,.cells (nz1 c.1),bZ] .undef [.cells (ni1 d e),.cells (ni1 f g),bZ,.cells (nz1 c.1),.cells (nz1 c.2)] true) (vV (n:=2) (by kernel_rfl) rfl rfl rfl rfl (cac rfl (cac nvc can)) rfl)) az))) ?_);refine sq (gq fol [1] kA7 [.cells (ni1 d e),.cells (ni1 f g),.cells (nz1 c.1),.cells (nz1 c.1),.cells (nz1 c.2)] (ac (hs (.run [2] (qI ZT 91 (.ptr 2 0) (.agg (nz1 c.1))) [.cells (ni1 d e),.cells (ni1 f g),bZ,.cells (nz1 c.1),.cells (nz1 c.2)] .undef [.cells (ni1 d e),.cells (ni1 f g),.cells (nz1 c.1),.cells (nz1 c.1),.cells (nz1 c.2)] true) (vV (n:=2) (by kernel_rfl) rfl rfl rfl rfl (cac rfl (cac nvc can)) rfl)) az) ?_);refine Goes.ret ?_;obtain rfl:=si h;exact(gw2 [.agg (nz1 c.1)] (FzW.agg (ql.cons (Ua tI) (ql.cons (Ua (qG ZU _ (nl rfl))) ql.nil))))
def qcA (N:Nat) (num:ko) (den:ko):Option qo:=
 (yL den).bind fun k=>
 ((if k<0 then
 (vI num).bind fun i=>
 (vI den).bind fun j=>
 some (i.s,i.w,j.s,j.w)
 else
 some (num.s,num.w,den.s,den.w):Option (Int×(List Int)×Int×(List Int)))).bind fun(d,e,b,c)=>
 (if c.isEmpty=true then
 some (decide (b=1))
 else
 some false:Option Bool).bind fun f=>
 if f=true then
 some (⟨(⟨d,e⟩:ko),(⟨b,c⟩:ko)⟩:qo)
 else
 (qgI N (⟨d,e⟩:ko) (⟨b,c⟩:ko)).bind fun a=>
 (qbM (⟨d,e⟩:ko) a).bind fun g=>
 (qbM (⟨b,c⟩:ko) a).bind fun h=>
 some (⟨g,h⟩:qo)
theorem qff (N:Nat) (num:ko) (den:ko) {res:qo} (h:qcA N num den=some res):qc ZT (.fn 117) [.agg (nz1 num),.agg (nz1 den)] [] (.agg (nq1 res)) []:=by
 unfold qcA at h;refine Ub Tryz.func117 rfl rfl (m:=34) rfl (rs:=[.cell 4 93]) rfl (l:=[(0,.agg (nz1 num)),(1,.agg (nz1 den))]) rfl ?_;refine sg fol (kG []) (.cells (nz1 num):: .cells (nz1 den)::(kH [])) ?_;refine sq ?_;obtain⟨A,q,h⟩:=bnd h;refine sq (gr fol [1] (kG [(8,.bool (decide (A<0)))]) (ac (cv (qcL den q)) az) ?_);obtain⟨B,g6,h⟩:=bnd h;refine Goes.imp (Q:=fun x s'=>(x= .normal/\ ∃d e c a,(d,e,c,a)=B/\Sub s' (ofG 34 (kG []),(.cells (ni1 d e):: .cells (ni1 c a)::(kH []))))) ?_ ?_
 ·refine ihD g6 (fun C g6=>?_) (fun C g6=>?_)
  ·obtain⟨r,t,g6⟩:=bnd g6;obtain⟨v,u,g6⟩:=bnd g6;refine gq fol [1,3,4,5] (kG []) (.cells (nz1 r):: .cells (nz1 v)::(kH [])) (ac (cv (qad num t)) (ac (cv (qad den u)) (ac (hs (.run [0] (qI ZT 91 (.ptr 0 0) (.agg (nz1 r))) (.cells (nz1 num):: .cells (nz1 den)::(kH [])) .undef (.cells (nz1 r):: .cells (nz1 den)::(kH [])) true) (vV (n:=2) (by kernel_rfl) rfl rfl rfl rfl (cac rfl (cac nvc can)) rfl)) (ac (hs (.run [1] (qI ZT 91 (.ptr 1 0) (.agg (nz1 v))) (.cells (nz1 r):: .cells (nz1 den)::(kH [])) .undef (.cells (nz1 r):: .cells (nz1 v)::(kH [])) true) (vV (n:=2) (by kernel_rfl) rfl rfl rfl rfl (cac rfl (cac nvc can)) rfl)) az)))) ?_;obtain rfl:=si g6;exact⟨rfl,_,_,_,_,rfl,(Sub.refl _)⟩
  refine Goes.skip ?_;obtain rfl:=si g6;exact⟨rfl,_,_,_,_,rfl,(Sub.keep [2,3,4] rfl rfl)⟩
 rintro x s' ⟨rfl,d,e,c,a,rfl,hsub⟩
 try dsimp only at h
 refine Goes.sub hsub ?_;refine sq ?_;refine sq ?_;obtain⟨y,b,h⟩:=bnd h;refine Goes.cut (s':=(ofG 34 (kG [(20,.bool y)]),(.cells (ni1 d e):: .cells (ni1 c a)::(kH [])))) ?_ ?_
 ·rcases wyB b with⟨j,b⟩|⟨j,b⟩
  ·obtain rfl:=si b;exact tr fol [2,3] (kG [(20,.bool (decide (c=1)))]) (ac (hs (.done (.opt (qaQ ZT .eql 89 (.tmp 14) (.const (.slice none 0 0)) (nvl ZU a) .nilslice)) (.bool a.isEmpty)) (qbP qbH)) (ac (gw j) az))
  obtain rfl:=si b;exact tr fol [2,3] (kG [(20,.bool false)]) (ac (hs (.done (.opt (qaQ ZT .eql 89 (.tmp 14) (.const (.slice none 0 0)) (nvl ZU a) .nilslice)) (.bool a.isEmpty)) (qbP qbH)) (ac (gw j) az))
 refine ihB h (fun z h=>?_) (fun z h=>?_)
 ·refine sq (gq fol [3] kA7 [.cells (ni1 d e),.cells (ni1 c a),.cells (ni2 d e c a)] (ac (hs (.run [2] (qI ZT 93 (.ptr 2 0) (.agg (ni2 d e c a))) (.cells (ni1 d e):: .cells (ni1 c a)::(kH [])) .undef [.cells (ni1 d e),.cells (ni1 c a),.cells (ni2 d e c a)] true) (vV (n:=4) (by kernel_rfl) rfl rfl rfl rfl (cac rfl (cac nvc (cac rfl (cac nvc can)))) rfl)) az) ?_);refine Goes.ret ?_;obtain rfl:=si h;exact(gw2 [.agg (ni2 d e c a)] (FzW.agg (ql.cons (Ua tI) (ql.cons (Ua (qG ZU _ (nl rfl))) (ql.cons (Ua tI) (ql.cons (Ua (qG ZU _ (nl rfl))) ql.nil))))))
 refine Goes.skip ?_;obtain⟨f,k,h⟩:=bnd h;refine sq (gq fol [2,4] (kG [(5,.ptr 3 0)]) (.cells (ni1 d e):: .cells (ni1 c a)::(kH [.cells (nz1 f)])) (ac (cv (qoh N (⟨d,e⟩:ko) (⟨c,a⟩:ko) k)) (ac (hs (.run [3] (qI ZT 91 (.ptr 3 0) (.agg (nz1 f))) (.cells (ni1 d e):: .cells (ni1 c a)::(kH [bZ])) .undef (.cells (ni1 d e):: .cells (ni1 c a)::(kH [.cells (nz1 f)])) true) (vV (n:=2) (by kernel_rfl) rfl rfl rfl rfl (cac rfl (cac nvc can)) rfl)) az)) ?_);obtain⟨g,o,h⟩:=bnd h;obtain⟨i,p,h⟩:=bnd h;refine sq (gq fol [2,5,7] kA7 [.cells (ni1 d e),.cells (ni1 c a),.cells (ni2 g.s g.w i.s i.w),.cells (nz1 f)] (ac (cv (qfk (⟨d,e⟩:ko) f o)) (ac (cv (qfk (⟨c,a⟩:ko) f p)) (ac (hs (.run [2] (qI ZT 93 (.ptr 2 0) (.agg (ni2 g.s g.w i.s i.w))) (.cells (ni1 d e):: .cells (ni1 c a)::(kH [.cells (nz1 f)])) .undef [.cells (ni1 d e),.cells (ni1 c a),.cells (ni2 g.s g.w i.s i.w),.cells (nz1 f)] true) (vV (n:=4) (by kernel_rfl) rfl rfl rfl rfl (cac rfl (cac nvc (cac rfl (cac nvc can)))) rfl)) az))) ?_);refine Goes.ret ?_;obtain rfl:=si h;exact(gw2 [.agg (ni2 g.s g.w i.s i.w)] (FzW.agg (ql.cons (Ua tI) (ql.cons (Ua (qG ZU _ (nl rfl))) (ql.cons (Ua tI) (ql.cons (Ua (qG ZU _ (nl rfl))) ql.nil))))))
def qd7 (n:Int):Option Int:=
 if n<0 then
 some (wrap .u64 (w64 (0-n)))
 else
 some (wrap .u64 n)
theorem qh3 (n:Int) {res:Int} (h:qd7 n=some res):qc ZT (.fn 131) [.i n] [] (.int .u64 res) []:=by
 unfold qd7 at h;refine Ub Tryz.func131 rfl rfl (m:=10) rfl (rs:=[.tmp 2]) rfl (l:=(kBe n)) rfl ?_;refine sh fol (kBe n) ?_;refine sq ?_;refine sh fol ((0,.i n)::(kA1 (decide (n<0)))) ?_;refine ihD h (fun a h=>?_) (fun a h=>?_)
 ·refine sh fol [(2,.int .u64 (wrap .u64 (w64 (0-n))))] ?_;refine Goes.ret ?_;obtain rfl:=si h;exact(gw2 [.int .u64 (wrap .u64 (w64 (0-n)))] (Ua tI))
 refine Goes.skip ?_;refine sh fol [(2,.int .u64 (wrap .u64 n))] ?_;refine Goes.ret ?_;obtain rfl:=si h;exact(gw2 [.int .u64 (wrap .u64 n)] (Ua tI))
def jA (a:ko) (b:ko):Option ko:=
 (if a.w.isEmpty=true then
 some b.w.isEmpty
 else
 some false:Option Bool).bind fun f=>
 ((if f=true then
 (qd7 a.s).bind fun g=>
 (qd7 b.s).bind fun h=>
 (bits_Mul64 g h).bind fun c=>
 (if c.1=0 then
 some (decide (c.2<=9223372036854775807))
 else
 some false:Option Bool).bind fun d=>
 if d=true then
 if(!((decide (a.s<0))==(decide (b.s<0))))=true then
 some (.inr (⟨w64 (0-(w64 c.2)),[]⟩:ko))
 else
 some (.inr (⟨w64 c.2,[]⟩:ko))
 else
 some (.inl ())
 else
 some (.inl ()):Option (Unit⊕ko))).bind (fun
 |(.inl ())=>
 none
 |(.inr e)=>
 some e)
theorem yX (a:ko) (b:ko) {res:ko} (h:jA a b=some res):qc ZT (.fn 118) [.agg (nz1 a),.agg (nz1 b)] [] (.agg (nz1 res)) []:=by
 unfold jA at h;refine Ub Tryz.func118 rfl rfl (m:=66) rfl (rs:=[.cell 4 91]) rfl (l:=[(0,.agg (nz1 a)),(1,.agg (nz1 b))]) rfl ?_;refine sg fol (kG []) [.cells (nz1 a),.cells (nz1 b),bZ] ?_;refine sq ?_;refine sq ?_;obtain⟨u,d,h⟩:=bnd h;refine Goes.cut (s':=(ofG 66 (kG (kBZ u)),[.cells (nz1 a),.cells (nz1 b),bZ])) ?_ ?_
 ·rcases wyB d with⟨n,d⟩|⟨n,d⟩
  ·obtain rfl:=si d;exact tr fol [2,3,6] (kG (kBZ b.w.isEmpty)) (ac (hs (.done (.opt (qaQ ZT .eql 89 (.tmp 12) (.const (.slice none 0 0)) (nvl ZU a.w) .nilslice)) (.bool a.w.isEmpty)) (qbP qbH)) (ac (gw n) (ac (hs (.done (.opt (qaQ ZT .eql 89 (.tmp 16) (.const (.slice none 0 0)) (nvl ZU b.w) .nilslice)) (.bool b.w.isEmpty)) (qbP qbH)) az)))
  obtain rfl:=si d;exact tr fol [2,3] (kG [(18,.bool false)]) (ac (hs (.done (.opt (qaQ ZT .eql 89 (.tmp 12) (.const (.slice none 0 0)) (nvl ZU a.w) .nilslice)) (.bool a.w.isEmpty)) (qbP qbH)) (ac (gw n) az))
 obtain⟨r,g4,h⟩:=bnd h;refine Goes.imp (Q:=fun x s'=>(x= .normal/\(.inl ())=r/\Sub s' (ofG 66 (kG []),[.cells (nz1 a),.cells (nz1 b),bZ]))\/(x= .ret/\ ∃t,(.inr t)=r/\jw ZT [.cell 4 91] (.agg (nz1 t)) .ret s')) ?_ ?_
 ·refine ihB g4 (fun c6 g4=>?_) (fun c6 g4=>?_)
  ·obtain⟨v,g,g4⟩:=bnd g4;obtain⟨y,j,g4⟩:=bnd g4;obtain⟨e,k,g4⟩:=bnd g4;refine sq (gr fol [2,5,6] (kG ((5,.int .u64 e.1)::(kA4 e.2 []))) (ac (cv (qh3 a.s g)) (ac (cv (qh3 b.s j)) (ac (cv (qf1 v y k)) az))) ?_);refine sq ?_;obtain⟨o,c,g4⟩:=bnd g4;refine Goes.cut (s':=(ofG 66 (kG (kA4 e.2 [(34,.bool o)])),[.cells (nz1 a),.cells (nz1 b),bZ])) ?_ ?_
   ·rcases wyD c with⟨f,c⟩|⟨f,c⟩
    ·obtain rfl:=si c;exact tr fol [2] (kG (kA4 e.2 [(34,.bool (decide (e.2<=9223372036854775807)))])) (ac (gw f) az)
    obtain rfl:=si c;exact tr fol [2] (kG (kA4 e.2 [(34,.bool false)])) (ac (gw f) az)
   refine ihB g4 (fun p g4=>?_) (fun p g4=>?_)
   ·refine sq ?_;refine sh fol ((4,.ptr 2 0)::(kA4 e.2 [(41,.bool (!((decide (a.s<0))==(decide (b.s<0)))))])) ?_;refine ihB g4 (fun q g4=>?_) (fun q g4=>?_)
    ·refine sg fol kA7 (.cells (nz1 a):: .cells (nz1 b)::(kAD (w64 (0-(w64 e.2))) [])) ?_;refine Goes.ret ?_;obtain rfl:=si g4;exact Or.inr (⟨rfl,_,rfl,(gw2 [.agg [.i (w64 (0-(w64 e.2))),.nilslice]] (FzW.agg (ql.cons (Ua tI) (ql.cons (FzW.nv0 (E:=ZU)) ql.nil))))⟩)
    refine Goes.skip ?_;refine sg fol kA7 (.cells (nz1 a):: .cells (nz1 b)::(kAD (w64 e.2) [])) ?_;refine Goes.ret ?_;obtain rfl:=si g4;exact Or.inr (⟨rfl,_,rfl,(gw2 [.agg [.i (w64 e.2),.nilslice]] (FzW.agg (ql.cons (Ua tI) (ql.cons (FzW.nv0 (E:=ZU)) ql.nil))))⟩)
   refine Goes.skip ?_;obtain rfl:=si g4;exact Or.inl (⟨rfl,rfl,(Sub.keep [2,3,4] rfl rfl)⟩)
  refine Goes.skip ?_;obtain rfl:=si g4;exact Or.inl (⟨rfl,rfl,(Sub.keep [2,3,4] rfl rfl)⟩)
 rintro x s' (⟨rfl,rfl,hsub⟩|⟨rfl,z,rfl,hret⟩)
 ·try dsimp only at h
  refine Goes.sub hsub ?_;refine sq ?_;cases h
 try dsimp only at h
 obtain rfl:=si h;exact hret
def yO (a:qo):Option Bool:=
 (if a.Den.w.isEmpty=true then
 some (decide (a.Den.s=1))
 else
 some false:Option Bool).bind fun b=>
 some b
theorem qbv (a:qo) {res:Bool} (h:yO a=some res):qc ZT (.fn 119) [.agg (nq1 a)] [] (.bool res) []:=by
 unfold yO at h;refine Ub Tryz.func119 rfl rfl (m:=13) rfl (rs:=[.tmp 2]) rfl (l:=[(0,.agg (nq1 a))]) rfl ?_;refine sg fol [(1,.ptr 0 0)] [.cells (nq1 a)] ?_;refine sq ?_;obtain⟨d,b,h⟩:=bnd h;refine Goes.cut (s':=(ofG 13 [(2,.bool d)],[.cells (nq1 a)])) ?_ ?_
 ·rcases wyB b with⟨c,b⟩|⟨c,b⟩
  ·obtain rfl:=si b;exact tr fol [3,4] [(2,.bool (decide (a.Den.s=1)))] (ac (hs (.done (.opt (qaQ ZT .eql 89 (.tmp 5) (.const (.slice none 0 0)) (nvl ZU a.Den.w) .nilslice)) (.bool a.Den.w.isEmpty)) (qbP qbH)) (ac (gw c) az))
  obtain rfl:=si b;exact tr fol [3,4] [(2,.bool false)] (ac (hs (.done (.opt (qaQ ZT .eql 89 (.tmp 5) (.const (.slice none 0 0)) (nvl ZU a.Den.w) .nilslice)) (.bool a.Den.w.isEmpty)) (qbP qbH)) (ac (gw c) az))
 refine Goes.ret ?_;obtain rfl:=si h;exact(gw2 [.bool d] (Ua tB))
def qaA (N:Nat) (a:qo) (b:qo):Option qo:=
 ((yO a).bind fun g=>
 if g=true then
 (yO b).bind fun h=>
 some h
 else
 some false:Option Bool).bind fun i=>
 if i=true then
 (qbd a.Num b.Num).bind fun j=>
 (qdb j).bind fun k=>
 some k
 else
 (jA a.Num b.Den).bind fun l=>
 (jA b.Num a.Den).bind fun c=>
 (qbd l c).bind fun d=>
 (jA a.Den b.Den).bind fun e=>
 (qcA N d e).bind fun f=>
 some f
theorem qcF (N:Nat) (a:qo) (b:qo) {res:qo} (h:qaA N a b=some res):qc ZT (.fn 88) [.agg (nq1 a),.agg (nq1 b)] [] (.agg (nq1 res)) []:=by
 unfold qaA at h;refine Ub Tryz.func88 rfl rfl (m:=34) rfl (rs:=[.cell 4 93]) rfl (l:=[(0,.agg (nq1 a)),(1,.agg (nq1 b))]) rfl ?_;refine sg fol (kG []) (.cells (nq1 a):: .cells (nq1 b)::(kH [])) ?_;refine sq ?_;refine sq ?_;obtain⟨w,c,h⟩:=bnd h;refine Goes.cut (s':=(ofG 34 (kG (kBA w)),(.cells (nq1 a):: .cells (nq1 b)::(kH [])))) ?_ ?_
 ·obtain⟨A,e,c⟩:=bnd c;rcases wyB c with⟨s,c⟩|⟨s,c⟩
  ·obtain⟨x,k,c⟩:=bnd c;obtain rfl:=si c;exact tr fol [1,2,4] (kG (kBA x)) (ac (cv (qbv a e)) (ac (gw s) (ac (cv (qbv b k)) az)))
  obtain rfl:=si c;exact tr fol [1,2] (kG [(10,.bool false)]) (ac (cv (qbv a e)) (ac (gw s) az))
 refine ihB h (fun c6 h=>?_) (fun c6 h=>?_)
 ·obtain⟨y,o,h⟩:=bnd h;obtain⟨r,p,h⟩:=bnd h;refine sq (gq fol [4,5,6] kA7 [.cells (nq1 a),.cells (nq1 b),.cells (nq1 r)] (ac (cv (qeV a.Num b.Num o)) (ac (cv (qg6 y p)) (ac (hs (.run [2] (qI ZT 93 (.ptr 2 0) (.agg (nq1 r))) (.cells (nq1 a):: .cells (nq1 b)::(kH [])) .undef [.cells (nq1 a),.cells (nq1 b),.cells (nq1 r)] true) (vV (n:=4) (by kernel_rfl) rfl rfl rfl rfl (cac rfl (cac nvc (cac rfl (cac nvc can)))) rfl)) az))) ?_);refine Goes.ret ?_;obtain rfl:=si h;exact(gw2 [.agg (nq1 r)] (FzW.agg (ql.cons (Ua tI) (ql.cons (Ua (qG ZU _ (nl rfl))) (ql.cons (Ua tI) (ql.cons (Ua (qG ZU _ (nl rfl))) ql.nil))))))
 refine Goes.skip ?_;obtain⟨z,q,h⟩:=bnd h;obtain⟨t,f,h⟩:=bnd h;obtain⟨u,g,h⟩:=bnd h;obtain⟨v,i,h⟩:=bnd h;obtain⟨d,j,h⟩:=bnd h;refine sq (gq fol [4,9,10,15,16,17] kA7 [.cells (nq1 a),.cells (nq1 b),.cells (nq1 d)] (ac (cv (yX a.Num b.Den q)) (ac (cv (yX b.Num a.Den f)) (ac (cv (qeV z t g)) (ac (cv (yX a.Den b.Den i)) (ac (cv (qff N u v j)) (ac (hs (.run [2] (qI ZT 93 (.ptr 2 0) (.agg (nq1 d))) (.cells (nq1 a):: .cells (nq1 b)::(kH [])) .undef [.cells (nq1 a),.cells (nq1 b),.cells (nq1 d)] true) (vV (n:=4) (by kernel_rfl) rfl rfl rfl rfl (cac rfl (cac nvc (cac rfl (cac nvc can)))) rfl)) az)))))) ?_);refine Goes.ret ?_;obtain rfl:=si h;exact(gw2 [.agg (nq1 d)] (FzW.agg (ql.cons (Ua tI) (ql.cons (Ua (qG ZU _ (nl rfl))) (ql.cons (Ua tI) (ql.cons (Ua (qG ZU _ (nl rfl))) ql.nil))))))
def qbR (a:qo):Option qo:=
 (vI a.Num).bind fun b=>
 some (⟨b,a.Den⟩:qo)
theorem qh6 (a:qo) {res:qo} (h:qbR a=some res):qc ZT (.fn 126) [.agg (nq1 a)] [] (.agg (nq1 res)) []:=by
 unfold qbR at h;refine Ub Tryz.func126 rfl rfl (m:=9) rfl (rs:=[.cell 2 93]) rfl (l:=[(0,.agg (nq1 a))]) rfl ?_;refine sg fol (kAk []) (.cells (nq1 a)::(kH [])) ?_;obtain⟨b,c,h⟩:=bnd h;refine sq (gq fol [2,6] kBr [.cells (nq1 a),.cells (ni2 b.s b.w a.Den.s a.Den.w)] (ac (cv (qad a.Num c)) (ac (hs (.run [1] (qI ZT 93 (.ptr 1 0) (.agg (ni2 b.s b.w a.Den.s a.Den.w))) (.cells (nq1 a)::(kH [])) .undef [.cells (nq1 a),.cells (ni2 b.s b.w a.Den.s a.Den.w)] true) (vV (n:=4) (by kernel_rfl) rfl rfl rfl rfl (cac rfl (cac nvc (cac rfl (cac nvc can)))) rfl)) az)) ?_);refine Goes.ret ?_;obtain rfl:=si h;exact(gw2 [.agg (ni2 b.s b.w a.Den.s a.Den.w)] (FzW.agg (ql.cons (Ua tI) (ql.cons (Ua (qG ZU _ (nl rfl))) (ql.cons (Ua tI) (ql.cons (Ua (qG ZU _ (nl rfl))) ql.nil))))))
def qbl (N:Nat) (a:qo) (b:qo):Option qo:=
 (qbR b).bind fun c=>
 (qaA N a c).bind fun d=>
 some d
theorem qeJ (N:Nat) (a:qo) (b:qo) {res:qo} (h:qbl N a b=some res):qc ZT (.fn 115) [.agg (nq1 a),.agg (nq1 b)] [] (.agg (nq1 res)) []:=by
 unfold qbl at h;refine Ub Tryz.func115 rfl rfl (m:=9) rfl (rs:=[.cell 4 93]) rfl (l:=[(0,.agg (nq1 a)),(1,.agg (nq1 b))]) rfl ?_;refine sg fol (kG []) (.cells (nq1 a):: .cells (nq1 b)::(kH [])) ?_;obtain⟨f,c,h⟩:=bnd h;obtain⟨e,d,h⟩:=bnd h;refine sq (gq fol [2,3,4] kA7 [.cells (nq1 a),.cells (nq1 b),.cells (nq1 e)] (ac (cv (qh6 b c)) (ac (cv (qcF N a f d)) (ac (hs (.run [2] (qI ZT 93 (.ptr 2 0) (.agg (nq1 e))) (.cells (nq1 a):: .cells (nq1 b)::(kH [])) .undef [.cells (nq1 a),.cells (nq1 b),.cells (nq1 e)] true) (vV (n:=4) (by kernel_rfl) rfl rfl rfl rfl (cac rfl (cac nvc (cac rfl (cac nvc can)))) rfl)) az))) ?_);refine Goes.ret ?_;obtain rfl:=si h;exact(gw2 [.agg (nq1 e)] (FzW.agg (ql.cons (Ua tI) (ql.cons (Ua (qG ZU _ (nl rfl))) (ql.cons (Ua tI) (ql.cons (Ua (qG ZU _ (nl rfl))) ql.nil))))))
def qbf (N:Nat) (a:qo):Option qo:=
 (qcA N a.Den a.Num).bind fun b=>
 some b
theorem qeM (N:Nat) (a:qo) {res:qo} (h:qbf N a=some res):qc ZT (.fn 116) [.agg (nq1 a)] [] (.agg (nq1 res)) []:=by
 unfold qbf at h;refine Ub Tryz.func116 rfl rfl (m:=8) rfl (rs:=[.cell 2 93]) rfl (l:=[(0,.agg (nq1 a))]) rfl ?_;refine sg fol (kAk []) (.cells (nq1 a)::(kH [])) ?_;obtain⟨c,b,h⟩:=bnd h;refine sq (gq fol [4,5] kBr [.cells (nq1 a),.cells (nq1 c)] (ac (cv (qff N a.Den a.Num b)) (ac (hs (.run [1] (qI ZT 93 (.ptr 1 0) (.agg (nq1 c))) (.cells (nq1 a)::(kH [])) .undef [.cells (nq1 a),.cells (nq1 c)] true) (vV (n:=4) (by kernel_rfl) rfl rfl rfl rfl (cac rfl (cac nvc (cac rfl (cac nvc can)))) rfl)) az)) ?_);refine Goes.ret ?_;obtain rfl:=si h;exact(gw2 [.agg (nq1 c)] (FzW.agg (ql.cons (Ua tI) (ql.cons (Ua (qG ZU _ (nl rfl))) (ql.cons (Ua tI) (ql.cons (Ua (qG ZU _ (nl rfl))) ql.nil))))))
def qcz (N:Nat) (letter:Int) (t:qo):Option ((qo×qo)×(qo×qo)):=
 (qg0 1).bind fun a=>
 (qg0 0).bind fun b=>
 if letter>0 then
 (qbl N a t).bind fun c=>
 some ((c,t),(a,b))
 else
 (qbf N t).bind fun d=>
 (qbf N t).bind fun e=>
 (qbl N a e).bind fun f=>
 some ((b,a),(d,f))
theorem qiI (N:Nat) (letter:Int) (t:qo) {res:((qo×qo)×(qo×qo))} (h:qcz N letter t=some res):qc ZT (.fn 86) [.i letter,.agg (nq1 t)] [] (.agg (nb4 res)) []:=by
 unfold qcz at h;refine Ub Tryz.func86 rfl rfl (m:=31) rfl (rs:=[.cell 4 135]) rfl (l:=[(0,.i letter),(1,.agg (nq1 t))]) rfl ?_;refine sg fol [(0,.i letter),(3,.ptr 0 0),(4,.ptr 1 0)] (.cells (nq1 t)::(kL [])) ?_;obtain⟨a,c,h⟩:=bnd h;obtain⟨b,d,h⟩:=bnd h;refine sq (gq fol [0,1,4,5] ((0,.i letter)::(kBX [(6,.ptr 3 0)])) (.cells (nq1 t)::(kL [.cells (nq1 a),.cells (nq1 b)])) (ac (cv (qd5 1 c)) (ac (cv (qd5 0 d)) (ac (hs (.run [2] (qI ZT 93 (.ptr 2 0) (.agg (nq1 a))) (.cells (nq1 t)::(kL (kH (kH [])))) .undef (.cells (nq1 t)::(kL (.cells (nq1 a)::(kH [])))) true) (vV (n:=4) (by kernel_rfl) rfl rfl rfl rfl (cac rfl (cac nvc (cac rfl (cac nvc can)))) rfl)) (ac (hs (.run [3] (qI ZT 93 (.ptr 3 0) (.agg (nq1 b))) (.cells (nq1 t)::(kL (.cells (nq1 a)::(kH [])))) .undef (.cells (nq1 t)::(kL [.cells (nq1 a),.cells (nq1 b)])) true) (vV (n:=4) (by kernel_rfl) rfl rfl rfl rfl (cac rfl (cac nvc (cac rfl (cac nvc can)))) rfl)) az)))) ?_);refine sq ?_;refine sh fol (kBX ((6,.ptr 3 0)::(kBA (decide (letter>0))))) ?_;refine ihD h (fun q h=>?_) (fun q h=>?_)
 ·obtain⟨k,e,h⟩:=bnd h;refine sq (gq fol [2,9] [(4,.ptr 1 0)] [.cells (nq1 t),.cells (nq4 k t a b),.cells (nq1 a),.cells (nq1 b)] (ac (cv (qeJ N a t e)) (ac (hs (.run [1] (qI ZT 135 (.ptr 1 0) (.agg (nq4 k t a b))) (.cells (nq1 t)::(kL [.cells (nq1 a),.cells (nq1 b)])) .undef [.cells (nq1 t),.cells (nq4 k t a b),.cells (nq1 a),.cells (nq1 b)] true) (vV (n:=16) (by kernel_rfl) rfl rfl rfl rfl (cac rfl (cac nvc (cac rfl (cac nvc (cac rfl (cac nvc (cac rfl (cac nvc (cac rfl (cac nvc (cac rfl (cac nvc (cac rfl (cac nvc (cac rfl (cac nvc can)))))))))))))))) rfl)) az)) ?_);refine Goes.ret ?_;obtain rfl:=si h;exact(gw2 [.agg (nq4 k t a b)] (FzW.agg (ql.cons (Ua tI) (ql.cons (Ua (qG ZU _ (nl rfl))) (ql.cons (Ua tI) (ql.cons (Ua (qG ZU _ (nl rfl))) (ql.cons (Ua tI) (ql.cons (Ua (qG ZU _ (nl rfl))) (ql.cons (Ua tI) (ql.cons (Ua (qG ZU _ (nl rfl))) (ql.cons (Ua tI) (ql.cons (Ua (qG ZU _ (nl rfl))) (ql.cons (Ua tI) (ql.cons (Ua (qG ZU _ (nl rfl))) (ql.cons (Ua tI) (ql.cons (Ua (qG ZU _ (nl rfl))) (ql.cons (Ua tI) (ql.cons (Ua (qG ZU _ (nl rfl))) ql.nil))))))))))))))))))
 refine Goes.skip ?_;obtain⟨o,f,h⟩:=bnd h;obtain⟨r,g,h⟩:=bnd h;obtain⟨p,j,h⟩:=bnd h;refine sq (gq fol [4,7,8,11] [(4,.ptr 1 0)] [.cells (nq1 t),.cells (nq4 b a o p),.cells (nq1 a),.cells (nq1 b)] (ac (cv (qeM N t f)) (ac (cv (qeM N t g)) (ac (cv (qeJ N a r j)) (ac (hs (.run [1] (qI ZT 135 (.ptr 1 0) (.agg (nq4 b a o p))) (.cells (nq1 t)::(kL [.cells (nq1 a),.cells (nq1 b)])) .undef [.cells (nq1 t),.cells (nq4 b a o p),.cells (nq1 a),.cells (nq1 b)] true) (vV (n:=16) (by kernel_rfl) rfl rfl rfl rfl (cac rfl (cac nvc (cac rfl (cac nvc (cac rfl (cac nvc (cac rfl (cac nvc (cac rfl (cac nvc (cac rfl (cac nvc (cac rfl (cac nvc (cac rfl (cac nvc can)))))))))))))))) rfl)) az)))) ?_);refine Goes.ret ?_;obtain rfl:=si h;exact(gw2 [.agg (nq4 b a o p)] (FzW.agg (ql.cons (Ua tI) (ql.cons (Ua (qG ZU _ (nl rfl))) (ql.cons (Ua tI) (ql.cons (Ua (qG ZU _ (nl rfl))) (ql.cons (Ua tI) (ql.cons (Ua (qG ZU _ (nl rfl))) (ql.cons (Ua tI) (ql.cons (Ua (qG ZU _ (nl rfl))) (ql.cons (Ua tI) (ql.cons (Ua (qG ZU _ (nl rfl))) (ql.cons (Ua tI) (ql.cons (Ua (qG ZU _ (nl rfl))) (ql.cons (Ua tI) (ql.cons (Ua (qG ZU _ (nl rfl))) (ql.cons (Ua tI) (ql.cons (Ua (qG ZU _ (nl rfl))) ql.nil))))))))))))))))))
def xI (N:Nat) (a:qo) (b:qo):Option qo:=
 (jA a.Num b.Num).bind fun c=>
 (jA a.Den b.Den).bind fun d=>
 (qcA N c d).bind fun e=>
 some e
theorem qby (N:Nat) (a:qo) (b:qo) {res:qo} (h:xI N a b=some res):qc ZT (.fn 87) [.agg (nq1 a),.agg (nq1 b)] [] (.agg (nq1 res)) []:=by
 unfold xI at h;refine Ub Tryz.func87 rfl rfl (m:=16) rfl (rs:=[.cell 4 93]) rfl (l:=[(0,.agg (nq1 a)),(1,.agg (nq1 b))]) rfl ?_;refine sg fol (kG []) (.cells (nq1 a):: .cells (nq1 b)::(kH [])) ?_;obtain⟨g,c,h⟩:=bnd h;obtain⟨i,d,h⟩:=bnd h;obtain⟨f,e,h⟩:=bnd h;refine sq (gq fol [4,9,10,11] kA7 [.cells (nq1 a),.cells (nq1 b),.cells (nq1 f)] (ac (cv (yX a.Num b.Num c)) (ac (cv (yX a.Den b.Den d)) (ac (cv (qff N g i e)) (ac (hs (.run [2] (qI ZT 93 (.ptr 2 0) (.agg (nq1 f))) (.cells (nq1 a):: .cells (nq1 b)::(kH [])) .undef [.cells (nq1 a),.cells (nq1 b),.cells (nq1 f)] true) (vV (n:=4) (by kernel_rfl) rfl rfl rfl rfl (cac rfl (cac nvc (cac rfl (cac nvc can)))) rfl)) az)))) ?_);refine Goes.ret ?_;obtain rfl:=si h;exact(gw2 [.agg (nq1 f)] (FzW.agg (ql.cons (Ua tI) (ql.cons (Ua (qG ZU _ (nl rfl))) (ql.cons (Ua tI) (ql.cons (Ua (qG ZU _ (nl rfl))) ql.nil))))))
end Go.Av
