/-
  Walks of functions: what each computes, as a plain function.
-/
import Derived.Test.YtkdbjocpkfeckaaGreatDoorQGenTu2
open Go.IntKind(wrap)
noncomputable section
namespace Go.Av
open Go.Proofs Go.RowKit
set_option linter.unusedSectionVars false
set_option linter.unusedVariables false
set_option linter.unusedSimpArgs false
set_option maxRecDepth 100000
def jZ (a:Int) (b:List Int):Option Unit:=
 some ()
theorem qcc (a:Int) (b:List Int) (h:jZ a b=some ()):qc ZT (.fn 135) (.i a::(kAq b)) [] (.func (.func 183) [] [.ptr 0 0,.ptr 1 0]) (kG a b []):=by
 unfold jZ at h;refine Um Tryz.func135 rfl rfl (m:=6) rfl (rs:=[.tmp 4]) rfl (l:=(kB a b [])) rfl ?_;intro B hB;refine sg fol (kAB []) (kG a b []) ?_;refine sh fol [(4,.func (.func 183) [] [.ptr 0 0,.ptr 1 0])] ?_;refine Goes.ret ?_;exact(gh2 [.func (.func 183) [] [.ptr 0 0,.ptr 1 0]] (qdo.refl _ _))
def qaA (a:List Int) (e:Int) (b:Int) (c:Int):Option (List Int):=
 (idx a b).bind fun f=>
 (put a b (w64 (f+1))).bind fun d=>
 (idx d c).bind fun g=>
 (put d c (w64 (g-1))).bind fun h=>
 some h
theorem qhL (c:List Int) (k:Int) (a:Int) (b:Int) {o:List Int} (h:qaA c k a b=some o):qc ZT (.rd 0) [.i k,.agg [.i a,.i b]] (.loop .ready none (ofG 30 [(5,.ptr 1 0)]) ql.xp ql.x1 ql.x2::(kC c (kA c []))) (.bool true) (.loop .ready none (ofG 30 [(5,.ptr 1 0)]) ql.xp ql.x1 ql.x2::(kC o (kA o []))):=by
 unfold qaA at h;refine Goes.round (m:=30) (l0:=(kA2 [])) (l:=(kA2 [(13,.i k),(14,.agg [.i a,.i b])])) rfl rfl rfl ?_;intro B hB;refine Uw ?_;refine Goes.rg fol (kA2 [(7,.ptr 3 0)]) (.loop .ready none (ofG 30 [(5,.ptr 1 0)]) ql.xp ql.x1 ql.x2::(kC c (kA c (kAE a b [])))) ?_;refine⟨_,Sub.refl _,?_⟩;refine⟨_,_,_,_,_,rfl,?_⟩;refine Uw ?_;refine Goes.block ?_;obtain⟨x2,e,h⟩:=bnd h;obtain⟨d,g,h⟩:=bnd h;refine sq (gq fol [3,4,6,7] (kA2 [(7,.ptr 3 0)]) (.loop .busy none (ofG 30 [(5,.ptr 1 0)]) ql.xp ql.x1 ql.x2::(kC c (kA d (kAE a b [])))) (ac (hs (.done (.opt (qa ZT 22 (.slice 2 0 c.length c.length 1) (.i a))) (.ptr 2 ((a:Int).toNat*1+0))) (ym qO e)) (ac (hs (.run [2] (qQ ZT 3 (.ptr 2 ((a:Int).toNat*1+0))) (.loop .busy none (ofG 30 [(5,.ptr 1 0)]) ql.xp ql.x1 ql.x2::(kC c (kA c (kAE a b [])))) (.i x2) (.loop .busy none (ofG 30 [(5,.ptr 1 0)]) ql.xp ql.x1 ql.x2::(kC c (kA c (kAE a b [])))) false) (qa6 ce3 (E:=encI) (l:=c) rfl rfl e (nl rfl) rfl)) (ac (hs (.done (.opt (qa ZT 22 (.slice 2 0 c.length c.length 1) (.i a))) (.ptr 2 ((a:Int).toNat*1+0))) (ym qO e)) (ac (hs (.run [2] (qC ZT 3 (.ptr 2 ((a:Int).toNat*1+0)) (.i (w64 (x2+1)))) (.loop .busy none (ofG 30 [(5,.ptr 1 0)]) ql.xp ql.x1 ql.x2::(kC c (kA c (kAE a b [])))) .undef (.loop .busy none (ofG 30 [(5,.ptr 1 0)]) ql.xp ql.x1 ql.x2::(kC c (kA d (kAE a b [])))) true) (jX (E:=encI) (l:=c) (y:=w64 (x2+1)) rfl (show _=some 1 by kernel_rfl) rfl e rfl rfl rfl rfl rfl g rfl)) az)))) ?_);refine Goes.sub (show Sub (ofG 30 (kA2 [(7,.ptr 3 0)]),(.loop .busy none (ofG 30 [(5,.ptr 1 0)]) ql.xp ql.x1 ql.x2::(kC c (kA d (kAE a b []))))) (ofG 30 (kA2 [(7,.ptr 3 0)]),(.loop .busy none (ofG 30 [(5,.ptr 1 0)]) ql.xp ql.x1 ql.x2::(kC d (kA d (kAE a b [])))))from(Uc [] [some 0,some 1,some 2,some 3] (by rw[hB];rfl) rfl (.kp (.kp .nil)) (.kb rfl (.loop rfl (.kp .nil)) (.kb rfl (.cells (rc (.sliceE rfl (qZ g)) rn)) (.ks (.kb rfl (.same sn) .nil)))))) ?_;obtain⟨p,f,h⟩:=bnd h;obtain⟨n,j,h⟩:=bnd h;refine gq fol [3,4,6,7] [] (.loop .busy none (ofG 30 [(5,.ptr 1 0)]) ql.xp ql.x1 ql.x2::(kC d (kA n (kAE a b [])))) (ac (hs (.done (.opt (qa ZT 22 (.slice 2 0 d.length d.length 1) (.i b))) (.ptr 2 ((b:Int).toNat*1+0))) (ym qO f)) (ac (hs (.run [2] (qQ ZT 3 (.ptr 2 ((b:Int).toNat*1+0))) (.loop .busy none (ofG 30 [(5,.ptr 1 0)]) ql.xp ql.x1 ql.x2::(kC d (kA d (kAE a b [])))) (.i p) (.loop .busy none (ofG 30 [(5,.ptr 1 0)]) ql.xp ql.x1 ql.x2::(kC d (kA d (kAE a b [])))) false) (qa6 ce3 (E:=encI) (l:=d) rfl rfl f (nl rfl) rfl)) (ac (hs (.done (.opt (qa ZT 22 (.slice 2 0 d.length d.length 1) (.i b))) (.ptr 2 ((b:Int).toNat*1+0))) (ym qO f)) (ac (hs (.run [2] (qC ZT 3 (.ptr 2 ((b:Int).toNat*1+0)) (.i (w64 (p-1)))) (.loop .busy none (ofG 30 [(5,.ptr 1 0)]) ql.xp ql.x1 ql.x2::(kC d (kA d (kAE a b [])))) .undef (.loop .busy none (ofG 30 [(5,.ptr 1 0)]) ql.xp ql.x1 ql.x2::(kC d (kA n (kAE a b [])))) true) (jX (E:=encI) (l:=d) (y:=w64 (p-1)) rfl (show _=some 1 by kernel_rfl) rfl f rfl rfl rfl rfl rfl j rfl)) az)))) ?_;obtain rfl:=si h;exact⟨_,(show Sub (ofG 30 [],(.loop .busy none (ofG 30 [(5,.ptr 1 0)]) ql.xp ql.x1 ql.x2::(kC d (kA n (kAE a b []))))) (ofG 30 [],(.loop .busy none (ofG 30 [(5,.ptr 1 0)]) ql.xp ql.x1 ql.x2::(kC n (kA n []))))from(Uc [] [some 0,some 1,some 2] (by rw[hB];rfl) rfl .nil (.kb rfl (.loop rfl (.kp .nil)) (.kb rfl (.cells (rc (.sliceE rfl (qZ j)) rn)) (.ks .nil))))),⟨_,_,rfl,(qdo.refl _ _)⟩⟩
def qL (b:List Int):Nat->(List Int)->(List Int)->Int->Option (List Int)
 |0,_,_,_=>none
 |K+1,k,g,h=>
  if h<(b.length:Int)then
  (idx b h).bind fun c=>
  (zL c).bind fun a=>
  (idx g (w64 (a-1))).bind fun d=>
  (idx g (w64 ((w64 (a-1))+1))).bind fun e=>
  (qaA k c d e).bind fun i=>
  (put g (w64 (a-1)) e).bind fun f=>
  (idx f (w64 ((w64 (a-1))+1))).bind fun l=>
  (put f (w64 ((w64 (a-1))+1)) d).bind fun j=>
  qL b K i j (w64 (h+1))
  else
  some k
def jV (N:Nat) (a:List Int) (b:Int) (c:List Int):Option (List Int):=
 (zI N b).bind fun d=>
 (qL c N a d 0).bind fun e=>
 some e
theorem qd2 (N:Nat) (n:List Int) (d:Int) (a:List Int) {J:List Int} (h:jV N n d a=some J):qc ZT (.fn 183) [.yld 0,.ptr 3 0,.ptr 4 0] (.loop .ready none (ofG 30 [(5,.ptr 1 0)]) ql.xp ql.x1 ql.x2::(kC n (kA n (kG d a [])))) (.tuple []) (.loop .ready none (ofG 30 [(5,.ptr 1 0)]) ql.xp ql.x1 ql.x2::(kC J (kA J (kG d a [])))):=by
 unfold jV at h;refine Um Tryz.func183 rfl rfl (m:=50) rfl (rs:=[]) rfl (l:=[(0,.yld 0),(1,.ptr 3 0),(2,.ptr 4 0)]) rfl ?_;intro B hB;refine Uw ?_;obtain⟨G,H,h⟩:=bnd h;refine sq (gq fol [1] ((0,.yld 0)::(2,.ptr 4 0)::(kAY G [])) (.loop .ready none (ofG 30 [(5,.ptr 1 0)]) ql.xp ql.x1 ql.x2::(kC n (kA n (kG d a (kA G []))))) (ac (hs (.callH 106 [.i d] (.loop .ready none (ofG 30 [(5,.ptr 1 0)]) ql.xp ql.x1 ql.x2::(kC n (kA n (kG d a [])))) [] (.slice 5 0 G.length G.length 1) (.loop .ready none (ofG 30 [(5,.ptr 1 0)]) ql.xp ql.x1 ql.x2::(kC n (kA n (kG d a (kA G [])))))) (zQ [] [none,none,none,none,none,some 0] (vO N d H) .nil rfl rfl (.old rfl rfl (.old rfl rfl (.old rfl rfl (.old rfl rfl (.old rfl rfl (.new rfl rfl (.same fa) rfl .nil)))))) (rc (.same nI) rn) (.slice rfl) rfl)) az) ?_);refine sh fol ((0,.yld 0)::(kAY G (kA5 a (a.length:Int) [(12,.i 0)]))) ?_;refine Goes.block ?_;obtain⟨K,g8,h⟩:=bnd h;refine Goes.imp (Q:=fun x s'=>(x= .exit 0/\ ∃I,I=K/\Sub s' (ofG 50 [],(.loop .ready none (ofG 30 [(5,.ptr 1 0)]) ql.xp ql.x1 ql.x2::(kC I (kA I (kG d a []))))))) ?_ ?_
 ·refine Ud (fun M s=> ∃(p:List Int) (g:List Int) (q:Int),s=(ofG 50 ((0,.yld 0)::(kW g a (a.length:Int) q [])),(.loop .ready none (ofG 30 [(5,.ptr 1 0)]) ql.xp ql.x1 ql.x2::(kC p (kA p (kG d a (kA g []))))))/\qL a M p g q=some K) ?_ (m:=N) ⟨_,_,_,rfl,g8⟩;rintro M s ⟨p,g,q,rfl,g8⟩
  cases M with
  |zero=>simp only[qL]at g8;cases g8
  |succ M=>
   rw[qL]at g8;refine sh fol ((0,.yld 0)::(kW g a (a.length:Int) q (kBL (decide (q<(a.length:Int)))))) ?_;refine sq ?_;refine ihD g8 (fun L g8=>?_) (fun L g8=>?_)
   ·refine Goes.skip ?_;refine sq (Goes.block ?_);obtain⟨u,v,g8⟩:=bnd g8;refine sq (gr fol [0,1] ((0,.yld 0)::(kAY g ((6,.i u)::(kA5 a (a.length:Int) [(12,.i q)])))) (ac (iv qO encI v) (ac (lv 0 ce3 encI v rfl) az)) ?_);obtain⟨f,A,g8⟩:=bnd g8;refine sq (gr fol [1] ((0,.yld 0)::(kAY g (kBS u (w64 (f-1)) (kA5 a (a.length:Int) [(12,.i q)])))) (ac (cv (qI u A)) az) ?_);refine sq ?_;obtain⟨r,j,g8⟩:=bnd g8;obtain⟨t,k,g8⟩:=bnd g8;obtain⟨e,C,g8⟩:=bnd g8;refine sq (gq fol [4,5,9,10,12] ((0,.yld 0)::(kAY g ((7,.i (w64 (f-1)))::(kA5 a (a.length:Int) [(12,.i q),(32,.bool false)])))) (.loop .ready none (ofG 30 [(5,.ptr 1 0)]) ql.xp ql.x1 ql.x2::(kC e (kA e (kG d a (kA g []))))) (ac (hs (.done (.opt (qa ZT 22 (.slice 5 0 g.length g.length 1) (.i (w64 (f-1))))) (.ptr 5 ((w64 (f-1):Int).toNat*1+0))) (ym qO j)) (ac (hs (.run [5] (qQ ZT 3 (.ptr 5 ((w64 (f-1):Int).toNat*1+0))) (.loop .ready none (ofG 30 [(5,.ptr 1 0)]) ql.xp ql.x1 ql.x2::(kC p (kA p (kG d a (kA g []))))) (.i r) (.loop .ready none (ofG 30 [(5,.ptr 1 0)]) ql.xp ql.x1 ql.x2::(kC p (kA p (kG d a (kA g []))))) false) (qa6 ce3 (E:=encI) (l:=g) rfl rfl j (nl rfl) rfl)) (ac (hs (.done (.opt (qa ZT 22 (.slice 5 0 g.length g.length 1) (.i (w64 ((w64 (f-1))+1))))) (.ptr 5 ((w64 ((w64 (f-1))+1):Int).toNat*1+0))) (ym qO k)) (ac (hs (.run [5] (qQ ZT 3 (.ptr 5 ((w64 ((w64 (f-1))+1):Int).toNat*1+0))) (.loop .ready none (ofG 30 [(5,.ptr 1 0)]) ql.xp ql.x1 ql.x2::(kC p (kA p (kG d a (kA g []))))) (.i t) (.loop .ready none (ofG 30 [(5,.ptr 1 0)]) ql.xp ql.x1 ql.x2::(kC p (kA p (kG d a (kA g []))))) false) (qa6 ce3 (E:=encI) (l:=g) rfl rfl k (nl rfl) rfl)) (ac (hs (.callH (.rd 0) [.i u,.agg [.i r,.i t]] (.loop .ready none (ofG 30 [(5,.ptr 1 0)]) ql.xp ql.x1 ql.x2::(kC p (kA p (kG d a (kA g []))))) [0,1,2] (.bool true) (.loop .ready none (ofG 30 [(5,.ptr 1 0)]) ql.xp ql.x1 ql.x2::(kC e (kA e (kG d a (kA g [])))))) (qrs [some 0,some 1,some 2] [some 0,some 1,some 2,none,none,none] (qhL p u r t C) rfl (.kb rfl (.loop rfl (.kp .nil)) (.kb rfl (.cells (rc (.slice rfl) rn)) (.ks .nil))) rfl rfl (.back rfl rfl (.loop rfl (.kp .nil)) rfl (.back rfl rfl (.cells (rc (.slice rfl) rn)) rfl (.back rfl rfl (.same fa) rfl (.old rfl rfl (.old rfl rfl (.old rfl rfl .nil)))))) (rc (.same nI) (rc (.same (qJ.agg sn)) rn)) (.same nB) rfl)) az))))) ?_);refine Goes.ifB (b:=false) (by kernel_rfl) (fun c=>(by cases c)) (fun _=>?_);refine Goes.skip ?_;obtain⟨D,w,g8⟩:=bnd g8;obtain⟨O,F,g8⟩:=bnd g8;obtain⟨o,z,g8⟩:=bnd g8;refine gq fol [8,9,12,13,14,15,16,17] ((0,.yld 0)::(kW g a (a.length:Int) q [])) (.loop .ready none (ofG 30 [(5,.ptr 1 0)]) ql.xp ql.x1 ql.x2::(kC e (kA e (kG d a (kA o []))))) (ac (hs (.done (.opt (qa ZT 22 (.slice 5 0 g.length g.length 1) (.i (w64 ((w64 (f-1))+1))))) (.ptr 5 ((w64 ((w64 (f-1))+1):Int).toNat*1+0))) (ym qO k)) (ac (hs (.run [5] (qQ ZT 3 (.ptr 5 ((w64 ((w64 (f-1))+1):Int).toNat*1+0))) (.loop .ready none (ofG 30 [(5,.ptr 1 0)]) ql.xp ql.x1 ql.x2::(kC e (kA e (kG d a (kA g []))))) (.i t) (.loop .ready none (ofG 30 [(5,.ptr 1 0)]) ql.xp ql.x1 ql.x2::(kC e (kA e (kG d a (kA g []))))) false) (qa6 ce3 (E:=encI) (l:=g) rfl rfl k (nl rfl) rfl)) (ac (hs (.done (.opt (qa ZT 22 (.slice 5 0 g.length g.length 1) (.i (w64 (f-1))))) (.ptr 5 ((w64 (f-1):Int).toNat*1+0))) (ym qO j)) (ac (hs (.run [5] (qQ ZT 3 (.ptr 5 ((w64 (f-1):Int).toNat*1+0))) (.loop .ready none (ofG 30 [(5,.ptr 1 0)]) ql.xp ql.x1 ql.x2::(kC e (kA e (kG d a (kA g []))))) (.i r) (.loop .ready none (ofG 30 [(5,.ptr 1 0)]) ql.xp ql.x1 ql.x2::(kC e (kA e (kG d a (kA g []))))) false) (qa6 ce3 (E:=encI) (l:=g) rfl rfl j (nl rfl) rfl)) (ac (hs (.done (.opt (qa ZT 22 (.slice 5 0 g.length g.length 1) (.i (w64 (f-1))))) (.ptr 5 ((w64 (f-1):Int).toNat*1+0))) (ym qO j)) (ac (hs (.run [5] (qC ZT 3 (.ptr 5 ((w64 (f-1):Int).toNat*1+0)) (.i t)) (.loop .ready none (ofG 30 [(5,.ptr 1 0)]) ql.xp ql.x1 ql.x2::(kC e (kA e (kG d a (kA g []))))) .undef (.loop .ready none (ofG 30 [(5,.ptr 1 0)]) ql.xp ql.x1 ql.x2::(kC e (kA e (kG d a (kA D []))))) true) (jX (E:=encI) (l:=g) (y:=t) rfl (show _=some 1 by kernel_rfl) rfl j rfl rfl rfl rfl rfl w rfl)) (ac (hs (.done (.opt (qa ZT 22 (.slice 5 0 g.length g.length 1) (.i (w64 ((w64 (f-1))+1))))) (.ptr 5 ((w64 ((w64 (f-1))+1):Int).toNat*1+0))) (ym qO k)) (ac (hs (.run [5] (qC ZT 3 (.ptr 5 ((w64 ((w64 (f-1))+1):Int).toNat*1+0)) (.i r)) (.loop .ready none (ofG 30 [(5,.ptr 1 0)]) ql.xp ql.x1 ql.x2::(kC e (kA e (kG d a (kA D []))))) .undef (.loop .ready none (ofG 30 [(5,.ptr 1 0)]) ql.xp ql.x1 ql.x2::(kC e (kA e (kG d a (kA o []))))) true) (jX (E:=encI) (l:=D) (y:=r) rfl (show _=some 1 by kernel_rfl) rfl F rfl rfl rfl rfl rfl z rfl)) az)))))))) ?_;refine Goes.sub (show Sub (ofG 50 ((0,.yld 0)::(kW g a (a.length:Int) q [])),(.loop .ready none (ofG 30 [(5,.ptr 1 0)]) ql.xp ql.x1 ql.x2::(kC e (kA e (kG d a (kA o [])))))) (ofG 50 ((0,.yld 0)::(kW o a (a.length:Int) q [])),(.loop .ready none (ofG 30 [(5,.ptr 1 0)]) ql.xp ql.x1 ql.x2::(kC e (kA e (kG d a (kA o []))))))from(Uc [] [some 0,some 1,some 2,some 3,some 4,some 5] (by rw[hB];rfl) rfl (.keep (.yld rfl) (.keep (.sliceE rfl ((qZ w).trans (qZ z))) (.keep (.same (qg encI _)) (.keep (.same nI) (.keep (.same nI) .nil))))) (.kb rfl (.loop rfl (.kp .nil)) (.kb rfl (.cells (rc (.slice rfl) rn)) (.ks (.kb rfl (.same sn) (.kb rfl (.same sn) (.ks .nil)))))))) ?_;refine gh fol ((0,.yld 0)::(kW o a (a.length:Int) (w64 (q+1)) [])) ?_;exact⟨M,(ofG 50 ((0,.yld 0)::(kW o a (a.length:Int) (w64 (q+1)) [])),(.loop .ready none (ofG 30 [(5,.ptr 1 0)]) ql.xp ql.x1 ql.x2::(kC e (kA e (kG d a (kA o [])))))),Nat.lt_succ_self _,(Sub.refl _),_,_,_,rfl,g8⟩
   refine Goes.exit ?_;obtain rfl:=si g8;exact⟨rfl,_,rfl,(Uc [] [some 0,some 1,some 2,some 3,some 4] (by rw[hB];rfl) rfl .nil (.kb rfl (.loop rfl (.kp .nil)) (.kb rfl (.cells (rc (.slice rfl) rn)) (.ks (.kb rfl (.same sn) (.kb rfl (.same sn) .nil))))))⟩
 rintro x s' ⟨rfl,I,rfl,hsub⟩;obtain rfl:=si h;exact⟨_,hsub,(gh2 [] (qdo.refl _ _))⟩
def qaZ (N:Nat) (n:Int) (w:List Int):Option (List Int):=
 (zI N n).bind fun a=>
 (jZ n w).bind fun _=>
 (jV N a n w).bind fun b=>
 some b
theorem qgn (N:Nat) (n:Int) (w:List Int) {res:List Int} (h:qaZ N n w=some res):qc ZT (.fn 71) (.i n::(kAq w)) [] (vl encI res) []:=by
 unfold qaZ at h;refine Ub Tryz.func71 rfl rfl (m:=30) rfl (rs:=[.tmp 4]) rfl (l:=(kB n w [])) rfl ?_;refine sh fol (kB n w []) ?_;obtain⟨a,c,h⟩:=bnd h;refine sq (gq fol [1] (kB n w (kA2 [])) (kA a (kAJ a [])) (ac (hs (.callH 106 [.i n] [] [] (.slice 0 0 a.length a.length 1) (kA a [])) (zQ [] [some 0] (vO N n c) .nil rfl rfl (.new rfl rfl (.same fa) rfl .nil) (rc (.same nI) rn) (.slice rfl) rfl)) az) ?_);refine sq ?_;obtain⟨_,d,h⟩:=bnd h;refine sq (gq fol [2] (kA2 [(12,.func (.func 183) [] [.ptr 2 0,.ptr 3 0])]) (kA a (kAJ a (kG n w []))) (ac (hs (.callH 135 (.i n::(kAq w)) (kA a (kAJ a [])) [] (.func (.func 183) [] kA0) (kA a (kAJ a (kG n w [])))) (zQ [] [none,none,some 0,some 1] (qcc n w d) .nil rfl rfl (.old rfl rfl (.old rfl rfl (.new rfl rfl (.cells (rc (.same nI) rn)) rfl (.new rfl rfl (.cells (rc (.same (qg encI _)) rn)) rfl .nil)))) (rc (.same nI) (rc (.same (qg encI _)) rn)) (.funcL (sn) (rc (.ptr rfl) (rc (.ptr rfl) rn))) rfl)) az) ?_);refine Goes.block ?_;obtain⟨b,e,h⟩:=bnd h;refine Goes.range fol rfl (gf:=183) (first:=[]) (captured:=kA0) (v:= .tuple []) (A2:=(kA b (kAJ b (kG n w [.loop .ready none (ofG 30 [(5,.ptr 1 0)]) ql.xp ql.x1 ql.x2])))) (s':=(ofG 30 (kA2 [(12,.func (.func 183) [] [.ptr 2 0,.ptr 3 0])]),(kA b (kAJ b (kG n w [.loop .exhausted none (ofG 30 [(5,.ptr 1 0)]) ql.xp ql.x1 ql.x2]))))) (x:= .normal) (by kernel_rfl) (by kernel_rfl) (qlZ (show(Obl.callH 183 (.yld 4::kA0) (kA a (kAJ a (kG n w [.loop .ready none (ofG 30 [(5,.ptr 1 0),(12,.func (.func 183) [] [.ptr 2 0,.ptr 3 0])]) ql.xp ql.x1 ql.x2]))) [4,1,0,2,3] (.tuple []) (kA b (kAJ b (kG n w [.loop .ready none (ofG 30 [(5,.ptr 1 0)]) ql.xp ql.x1 ql.x2])))).Holds ZT from zQ [some 4,some 1,some 0,some 2,some 3] [some 2,some 1,some 3,some 4,some 0] (qd2 N a n w e) (.kb rfl (.loop rfl (.kp (.drop .nil))) (.kb rfl (.cells (rc (.slice rfl) rn)) (.ks (.kb rfl (.cells (rc (.same nI) rn)) (.kb rfl (.cells (rc (.same (qg encI _)) rn)) .nil))))) rfl rfl (.back rfl rfl (.same fa) rfl (.back rfl rfl (.cells (rc (.slice rfl) rn)) rfl (.back rfl rfl (.cells (rc (.same nI) rn)) rfl (.back rfl rfl (.cells (rc (.same (qg encI _)) rn)) rfl (.back rfl rfl (.loop rfl (.kp .nil)) rfl .nil))))) (rc (.yld rfl) (rc (.ptr rfl) (rc (.ptr rfl) rn))) (.same (qJ.tuple sn)) rfl)) (by kernel_rfl) ?_;refine Goes.sub (show Sub (ofG 30 (kA2 [(12,.func (.func 183) [] [.ptr 2 0,.ptr 3 0])]),(kA b (kAJ b (kG n w [.loop .exhausted none (ofG 30 [(5,.ptr 1 0)]) ql.xp ql.x1 ql.x2])))) (ofG 30 (kBB [(12,.func (.func 183) [] [.ptr 2 0,.ptr 3 0])]),(kS b (kA b (kG n w []))))from(Uc [] [some 1,some 0,some 2,some 3] rfl rfl (.kp (.keep (.funcL (sn) (rc (.ptr rfl) (rc (.ptr rfl) rn))) .nil)) (.kb rfl (.cells (rc (.slice rfl) rn)) (.ks (.kb rfl (.same sn) (.kb rfl (.same sn) .nil)))))) ?_;refine sh fol [(4,.slice 1 0 b.length b.length 1)] ?_;refine Goes.ret ?_;obtain rfl:=si h;exact(gw2 [.slice 1 0 b.length b.length 1] (Ut (Fz.sl (E:=encI) rfl rfl (nl rfl))))
def qbn (c:List (List Int)) (d:Int) (a:Int) (b:Int):Option (List (List Int)):=
 (idx c a).bind fun g=>
 (idx g b).bind fun j=>
 (zi d).bind fun k=>
 (put g b (w64 (j+k))).bind fun h=>
 (idx (qh c a h) b).bind fun i=>
 (idx i a).bind fun l=>
 (zi d).bind fun e=>
 (put i a (w64 (l+e))).bind fun f=>
 some (qh (qh c a h) b f)
theorem qhA (d:List (List Int)) (j:Int) (a:Int) (e:Int) {z:List (List Int)} (h:qbn d j a e=some z):qc ZT (.rd 0) [.i j,.agg [.i a,.i e]] (.loop .ready none (ofG 54 [(5,.ptr 1 0)]) qd.xp qd.x1 qd.x2::(kC d [bg encI d])) (.bool true) (.loop .ready none (ofG 54 [(5,.ptr 1 0)]) qd.xp qd.x1 qd.x2::(kC z [bg encI z])):=by
 unfold qbn at h;refine Goes.round (m:=54) (l0:=(kA2 [])) (l:=(kA2 [(25,.i j),(26,.agg [.i a,.i e])])) rfl rfl rfl ?_;intro B hB;refine Uw ?_;refine sh fol (kA2 [(7,.i j),(26,.agg [.i a,.i e])]) ?_;refine Goes.rg fol (kAZ j) (.loop .ready none (ofG 54 [(5,.ptr 1 0)]) qd.xp qd.x1 qd.x2::(kC d (bg encI d::(kAE a e [])))) ?_;refine⟨_,Sub.refl _,?_⟩;refine⟨_,_,_,_,_,rfl,?_⟩;refine Uw ?_;refine Goes.block ?_;obtain⟨k,p,h⟩:=bnd h;refine sq (Goes.sub (s':=(ofG 54 (kAZ j),(.loop .busy none (ofG 54 [(5,.ptr 1 0)]) qd.xp qd.x1 qd.x2::(kC d (.bag ((d.map (qF encI)).set (a:Int).toNat (.av (.gslice 4 k.length 1)))::(kAE a e (kA k []))))))) (Uk (E:=encI) (b:=2) rfl p) ?_);obtain⟨A,q,h⟩:=bnd h;obtain⟨D,w,h⟩:=bnd h;obtain⟨f,u,h⟩:=bnd h;refine gq fol [3,4,7,8,10,12,13] (kAZ j) (.loop .busy none (ofG 54 [(5,.ptr 1 0)]) qd.xp qd.x1 qd.x2::(kC d (.bag ((d.map (qF encI)).set (a:Int).toNat (.av (.gslice 4 k.length 1)))::(kAE a e (kA f []))))) (ac (hs (.done (.opt (qa ZT 33 (.slice 2 0 d.length d.length 1) (.i a))) (.ptr 2 ((a:Int).toNat*1+0))) (ym qd4 p)) (ac (hs (.run [2] (qQ ZT 22 (.ptr 2 ((a:Int).toNat*1+0))) (.loop .busy none (ofG 54 [(5,.ptr 1 0)]) qd.xp qd.x1 qd.x2::(kC d (.bag ((d.map (qF encI)).set (a:Int).toNat (.av (.gslice 4 k.length 1)))::(kAE a e (kA k []))))) (.gslice 4 k.length 1) (.loop .busy none (ofG 54 [(5,.ptr 1 0)]) qd.xp qd.x1 qd.x2::(kC d (.bag ((d.map (qF encI)).set (a:Int).toNat (.av (.gslice 4 k.length 1)))::(kAE a e (kA k []))))) false) (qbV qij rfl (at_set p))) (ac (hs (.done (.opt (qa ZT 22 (.gslice 4 k.length 1) (.i e))) (.ptr 4 ((e:Int).toNat*1+0))) (zh qO q)) (ac (hs (.run [4] (qQ ZT 3 (.ptr 4 ((e:Int).toNat*1+0))) (.loop .busy none (ofG 54 [(5,.ptr 1 0)]) qd.xp qd.x1 qd.x2::(kC d (.bag ((d.map (qF encI)).set (a:Int).toNat (.av (.gslice 4 k.length 1)))::(kAE a e (kA k []))))) (.i A) (.loop .busy none (ofG 54 [(5,.ptr 1 0)]) qd.xp qd.x1 qd.x2::(kC d (.bag ((d.map (qF encI)).set (a:Int).toNat (.av (.gslice 4 k.length 1)))::(kAE a e (kA k []))))) false) (qa6 ce3 (E:=encI) (l:=k) rfl rfl q (nl rfl) rfl)) (ac (cv (zz j w)) (ac (hs (.done (.opt (qa ZT 22 (.gslice 4 k.length 1) (.i e))) (.ptr 4 ((e:Int).toNat*1+0))) (zh qO q)) (ac (hs (.run [4] (qC ZT 3 (.ptr 4 ((e:Int).toNat*1+0)) (.i (w64 (A+D)))) (.loop .busy none (ofG 54 [(5,.ptr 1 0)]) qd.xp qd.x1 qd.x2::(kC d (.bag ((d.map (qF encI)).set (a:Int).toNat (.av (.gslice 4 k.length 1)))::(kAE a e (kA k []))))) .undef (.loop .busy none (ofG 54 [(5,.ptr 1 0)]) qd.xp qd.x1 qd.x2::(kC d (.bag ((d.map (qF encI)).set (a:Int).toNat (.av (.gslice 4 k.length 1)))::(kAE a e (kA f []))))) true) (jX (E:=encI) (l:=k) (y:=w64 (A+D)) rfl (show _=some 1 by kernel_rfl) rfl q rfl rfl rfl rfl rfl u rfl)) az))))))) ?_;refine Goes.sub ((show Sub (ofG 54 (kAZ j),(.loop .busy none (ofG 54 [(5,.ptr 1 0)]) qd.xp qd.x1 qd.x2::(kC d (.bag ((d.map (qF encI)).set (a:Int).toNat (.av (.gslice 4 k.length 1)))::(kAE a e (kA f [])))))) (ofG 54 (kAZ j),(.loop .busy none (ofG 54 [(5,.ptr 1 0)]) qd.xp qd.x1 qd.x2::(kC d (bg encI (qh d a f)::(kAE a e [.dead])))))from(Ui (E:=encI) (b:=2) (c:=4) (Nat.ne_of_beq_eq_false rfl) rfl rfl p .g (qZ u))).trans (show Sub (ofG 54 (kAZ j),(.loop .busy none (ofG 54 [(5,.ptr 1 0)]) qd.xp qd.x1 qd.x2::(kC d (bg encI (qh d a f)::(kAE a e [.dead]))))) (ofG 54 (kAZ j),(.loop .busy none (ofG 54 [(5,.ptr 1 0)]) qd.xp qd.x1 qd.x2::(kC (qh d a f) (bg encI (qh d a f)::(kAE a e [])))))from(Uc [] [some 0,some 1,some 2,some 3] (by rw[hB];rfl) rfl (.kp (.keep (.same nI) (.kp .nil))) (.kb rfl (.loop rfl (.kp .nil)) (.kb rfl (.cells (rc (.sliceE rfl (y7 _ _ _)) rn)) (.kb rfl jm.bgs (.kb rfl (.same sn) .nil))))))) ?_;obtain⟨n,r,h⟩:=bnd h;refine Goes.sub (s':=(ofG 54 (kAZ j),(.loop .busy none (ofG 54 [(5,.ptr 1 0)]) qd.xp qd.x1 qd.x2::(kC (qh d a f) (.bag (((qh d a f).map (qF encI)).set (e:Int).toNat (.av (.gslice 4 n.length 1)))::(kAE a e (kA n []))))))) (Uk (E:=encI) (b:=2) rfl r) ?_;obtain⟨C,s,h⟩:=bnd h;obtain⟨x,v,h⟩:=bnd h;obtain⟨o,t,h⟩:=bnd h;refine gq fol [3,4,7,8,10,12,13] [] (.loop .busy none (ofG 54 [(5,.ptr 1 0)]) qd.xp qd.x1 qd.x2::(kC (qh d a f) (.bag (((qh d a f).map (qF encI)).set (e:Int).toNat (.av (.gslice 4 n.length 1)))::(kAE a e (kA o []))))) (ac (hs (.done (.opt (qa ZT 33 (.slice 2 0 (qh d a f).length (qh d a f).length 1) (.i e))) (.ptr 2 ((e:Int).toNat*1+0))) (ym qd4 r)) (ac (hs (.run [2] (qQ ZT 22 (.ptr 2 ((e:Int).toNat*1+0))) (.loop .busy none (ofG 54 [(5,.ptr 1 0)]) qd.xp qd.x1 qd.x2::(kC (qh d a f) (.bag (((qh d a f).map (qF encI)).set (e:Int).toNat (.av (.gslice 4 n.length 1)))::(kAE a e (kA n []))))) (.gslice 4 n.length 1) (.loop .busy none (ofG 54 [(5,.ptr 1 0)]) qd.xp qd.x1 qd.x2::(kC (qh d a f) (.bag (((qh d a f).map (qF encI)).set (e:Int).toNat (.av (.gslice 4 n.length 1)))::(kAE a e (kA n []))))) false) (qbV qij rfl (at_set r))) (ac (hs (.done (.opt (qa ZT 22 (.gslice 4 n.length 1) (.i a))) (.ptr 4 ((a:Int).toNat*1+0))) (zh qO s)) (ac (hs (.run [4] (qQ ZT 3 (.ptr 4 ((a:Int).toNat*1+0))) (.loop .busy none (ofG 54 [(5,.ptr 1 0)]) qd.xp qd.x1 qd.x2::(kC (qh d a f) (.bag (((qh d a f).map (qF encI)).set (e:Int).toNat (.av (.gslice 4 n.length 1)))::(kAE a e (kA n []))))) (.i C) (.loop .busy none (ofG 54 [(5,.ptr 1 0)]) qd.xp qd.x1 qd.x2::(kC (qh d a f) (.bag (((qh d a f).map (qF encI)).set (e:Int).toNat (.av (.gslice 4 n.length 1)))::(kAE a e (kA n []))))) false) (qa6 ce3 (E:=encI) (l:=n) rfl rfl s (nl rfl) rfl)) (ac (cv (zz j v)) (ac (hs (.done (.opt (qa ZT 22 (.gslice 4 n.length 1) (.i a))) (.ptr 4 ((a:Int).toNat*1+0))) (zh qO s)) (ac (hs (.run [4] (qC ZT 3 (.ptr 4 ((a:Int).toNat*1+0)) (.i (w64 (C+x)))) (.loop .busy none (ofG 54 [(5,.ptr 1 0)]) qd.xp qd.x1 qd.x2::(kC (qh d a f) (.bag (((qh d a f).map (qF encI)).set (e:Int).toNat (.av (.gslice 4 n.length 1)))::(kAE a e (kA n []))))) .undef (.loop .busy none (ofG 54 [(5,.ptr 1 0)]) qd.xp qd.x1 qd.x2::(kC (qh d a f) (.bag (((qh d a f).map (qF encI)).set (e:Int).toNat (.av (.gslice 4 n.length 1)))::(kAE a e (kA o []))))) true) (jX (E:=encI) (l:=n) (y:=w64 (C+x)) rfl (show _=some 1 by kernel_rfl) rfl s rfl rfl rfl rfl rfl t rfl)) az))))))) ?_;obtain rfl:=si h;exact⟨_,((show Sub (ofG 54 [],(.loop .busy none (ofG 54 [(5,.ptr 1 0)]) qd.xp qd.x1 qd.x2::(kC (qh d a f) (.bag (((qh d a f).map (qF encI)).set (e:Int).toNat (.av (.gslice 4 n.length 1)))::(kAE a e (kA o [])))))) (ofG 54 [],(.loop .busy none (ofG 54 [(5,.ptr 1 0)]) qd.xp qd.x1 qd.x2::(kC (qh d a f) (bg encI (qh (qh d a f) e o)::(kAE a e [.dead])))))from(Ui (E:=encI) (b:=2) (c:=4) (Nat.ne_of_beq_eq_false rfl) rfl rfl r .g (qZ t))).trans (show Sub (ofG 54 [],(.loop .busy none (ofG 54 [(5,.ptr 1 0)]) qd.xp qd.x1 qd.x2::(kC (qh d a f) (bg encI (qh (qh d a f) e o)::(kAE a e [.dead]))))) (ofG 54 [],(.loop .busy none (ofG 54 [(5,.ptr 1 0)]) qd.xp qd.x1 qd.x2::(kC (qh (qh d a f) e o) [bg encI (qh (qh d a f) e o)])))from(Uc [] [some 0,some 1,some 2] (by rw[hB];rfl) rfl .nil (.kb rfl (.loop rfl (.kp .nil)) (.kb rfl (.cells (rc (.sliceE rfl (y7 _ _ _)) rn)) (.kb rfl jm.bgs .nil)))))),⟨_,_,rfl,(qdo.refl _ _)⟩⟩
def ze (b:List Int):Nat->(List (List Int))->(List Int)->Int->Option (List (List Int))
 |0,_,_,_=>none
 |K+1,k,g,h=>
  if h<(b.length:Int)then
  (idx b h).bind fun c=>
  (zL c).bind fun a=>
  (idx g (w64 (a-1))).bind fun d=>
  (idx g (w64 ((w64 (a-1))+1))).bind fun e=>
  (qbn k c d e).bind fun i=>
  (put g (w64 (a-1)) e).bind fun f=>
  (idx f (w64 ((w64 (a-1))+1))).bind fun l=>
  (put f (w64 ((w64 (a-1))+1)) d).bind fun j=>
  ze b K i j (w64 (h+1))
  else
  some k
def yM (N:Nat) (a:List (List Int)) (b:Int) (c:List Int):Option (List (List Int)):=
 (zI N b).bind fun d=>
 (ze c N a d 0).bind fun e=>
 some e
theorem qd0 (N:Nat) (n:List (List Int)) (d:Int) (a:List Int) {J:List (List Int)} (h:yM N n d a=some J):qc ZT (.fn 183) [.yld 0,.ptr 3 0,.ptr 4 0] (.loop .ready none (ofG 54 [(5,.ptr 1 0)]) qd.xp qd.x1 qd.x2::(kC n (bg encI n::(kG d a [])))) (.tuple []) (.loop .ready none (ofG 54 [(5,.ptr 1 0)]) qd.xp qd.x1 qd.x2::(kC J (bg encI J::(kG d a [])))):=by
 unfold yM at h;refine Um Tryz.func183 rfl rfl (m:=50) rfl (rs:=[]) rfl (l:=[(0,.yld 0),(1,.ptr 3 0),(2,.ptr 4 0)]) rfl ?_;intro B hB;refine Uw ?_;obtain⟨G,H,h⟩:=bnd h;refine sq (gq fol [1] ((0,.yld 0)::(2,.ptr 4 0)::(kAY G [])) (.loop .ready none (ofG 54 [(5,.ptr 1 0)]) qd.xp qd.x1 qd.x2::(kC n (bg encI n::(kG d a (kA G []))))) (ac (hs (.callH 106 [.i d] (.loop .ready none (ofG 54 [(5,.ptr 1 0)]) qd.xp qd.x1 qd.x2::(kC n (bg encI n::(kG d a [])))) [] (.slice 5 0 G.length G.length 1) (.loop .ready none (ofG 54 [(5,.ptr 1 0)]) qd.xp qd.x1 qd.x2::(kC n (bg encI n::(kG d a (kA G [])))))) (zQ [] [none,none,none,none,none,some 0] (vO N d H) .nil rfl rfl (.old rfl rfl (.old rfl rfl (.old rfl rfl (.old rfl rfl (.old rfl rfl (.new rfl rfl (.same fa) rfl .nil)))))) (rc (.same nI) rn) (.slice rfl) rfl)) az) ?_);refine sh fol ((0,.yld 0)::(kAY G (kA5 a (a.length:Int) [(12,.i 0)]))) ?_;refine Goes.block ?_;obtain⟨K,g8,h⟩:=bnd h;refine Goes.imp (Q:=fun x s'=>(x= .exit 0/\ ∃I,I=K/\Sub s' (ofG 50 [],(.loop .ready none (ofG 54 [(5,.ptr 1 0)]) qd.xp qd.x1 qd.x2::(kC I (bg encI I::(kG d a []))))))) ?_ ?_
 ·refine Ud (fun M s=> ∃(p:List (List Int)) (g:List Int) (q:Int),s=(ofG 50 ((0,.yld 0)::(kW g a (a.length:Int) q [])),(.loop .ready none (ofG 54 [(5,.ptr 1 0)]) qd.xp qd.x1 qd.x2::(kC p (bg encI p::(kG d a (kA g []))))))/\ze a M p g q=some K) ?_ (m:=N) ⟨_,_,_,rfl,g8⟩;rintro M s ⟨p,g,q,rfl,g8⟩
  cases M with
  |zero=>simp only[ze]at g8;cases g8
  |succ M=>
   rw[ze]at g8;refine sh fol ((0,.yld 0)::(kW g a (a.length:Int) q (kBL (decide (q<(a.length:Int)))))) ?_;refine sq ?_;refine ihD g8 (fun L g8=>?_) (fun L g8=>?_)
   ·refine Goes.skip ?_;refine sq (Goes.block ?_);obtain⟨u,v,g8⟩:=bnd g8;refine sq (gr fol [0,1] ((0,.yld 0)::(kAY g ((6,.i u)::(kA5 a (a.length:Int) [(12,.i q)])))) (ac (iv qO encI v) (ac (lv 0 ce3 encI v rfl) az)) ?_);obtain⟨f,A,g8⟩:=bnd g8;refine sq (gr fol [1] ((0,.yld 0)::(kAY g (kBS u (w64 (f-1)) (kA5 a (a.length:Int) [(12,.i q)])))) (ac (cv (qI u A)) az) ?_);refine sq ?_;obtain⟨r,j,g8⟩:=bnd g8;obtain⟨t,k,g8⟩:=bnd g8;obtain⟨e,C,g8⟩:=bnd g8;refine sq (gq fol [4,5,9,10,12] ((0,.yld 0)::(kAY g ((7,.i (w64 (f-1)))::(kA5 a (a.length:Int) [(12,.i q),(32,.bool false)])))) (.loop .ready none (ofG 54 [(5,.ptr 1 0)]) qd.xp qd.x1 qd.x2::(kC e (bg encI e::(kG d a (kA g []))))) (ac (hs (.done (.opt (qa ZT 22 (.slice 5 0 g.length g.length 1) (.i (w64 (f-1))))) (.ptr 5 ((w64 (f-1):Int).toNat*1+0))) (ym qO j)) (ac (hs (.run [5] (qQ ZT 3 (.ptr 5 ((w64 (f-1):Int).toNat*1+0))) (.loop .ready none (ofG 54 [(5,.ptr 1 0)]) qd.xp qd.x1 qd.x2::(kC p (bg encI p::(kG d a (kA g []))))) (.i r) (.loop .ready none (ofG 54 [(5,.ptr 1 0)]) qd.xp qd.x1 qd.x2::(kC p (bg encI p::(kG d a (kA g []))))) false) (qa6 ce3 (E:=encI) (l:=g) rfl rfl j (nl rfl) rfl)) (ac (hs (.done (.opt (qa ZT 22 (.slice 5 0 g.length g.length 1) (.i (w64 ((w64 (f-1))+1))))) (.ptr 5 ((w64 ((w64 (f-1))+1):Int).toNat*1+0))) (ym qO k)) (ac (hs (.run [5] (qQ ZT 3 (.ptr 5 ((w64 ((w64 (f-1))+1):Int).toNat*1+0))) (.loop .ready none (ofG 54 [(5,.ptr 1 0)]) qd.xp qd.x1 qd.x2::(kC p (bg encI p::(kG d a (kA g []))))) (.i t) (.loop .ready none (ofG 54 [(5,.ptr 1 0)]) qd.xp qd.x1 qd.x2::(kC p (bg encI p::(kG d a (kA g []))))) false) (qa6 ce3 (E:=encI) (l:=g) rfl rfl k (nl rfl) rfl)) (ac (hs (.callH (.rd 0) [.i u,.agg [.i r,.i t]] (.loop .ready none (ofG 54 [(5,.ptr 1 0)]) qd.xp qd.x1 qd.x2::(kC p (bg encI p::(kG d a (kA g []))))) [0,1,2] (.bool true) (.loop .ready none (ofG 54 [(5,.ptr 1 0)]) qd.xp qd.x1 qd.x2::(kC e (bg encI e::(kG d a (kA g [])))))) (qrs [some 0,some 1,some 2] [some 0,some 1,some 2,none,none,none] (qhA p u r t C) rfl (.kb rfl (.loop rfl (.kp .nil)) (.kb rfl (.cells (rc (.slice rfl) rn)) (.kb rfl jm.bgs .nil))) rfl rfl (.back rfl rfl (.loop rfl (.kp .nil)) rfl (.back rfl rfl (.cells (rc (.slice rfl) rn)) rfl (.back rfl rfl jm.bgs rfl (.old rfl rfl (.old rfl rfl (.old rfl rfl .nil)))))) (rc (.same nI) (rc (.same (qJ.agg sn)) rn)) (.same nB) rfl)) az))))) ?_);refine Goes.ifB (b:=false) (by kernel_rfl) (fun c=>(by cases c)) (fun _=>?_);refine Goes.skip ?_;obtain⟨D,w,g8⟩:=bnd g8;obtain⟨O,F,g8⟩:=bnd g8;obtain⟨o,z,g8⟩:=bnd g8;refine gq fol [8,9,12,13,14,15,16,17] ((0,.yld 0)::(kW g a (a.length:Int) q [])) (.loop .ready none (ofG 54 [(5,.ptr 1 0)]) qd.xp qd.x1 qd.x2::(kC e (bg encI e::(kG d a (kA o []))))) (ac (hs (.done (.opt (qa ZT 22 (.slice 5 0 g.length g.length 1) (.i (w64 ((w64 (f-1))+1))))) (.ptr 5 ((w64 ((w64 (f-1))+1):Int).toNat*1+0))) (ym qO k)) (ac (hs (.run [5] (qQ ZT 3 (.ptr 5 ((w64 ((w64 (f-1))+1):Int).toNat*1+0))) (.loop .ready none (ofG 54 [(5,.ptr 1 0)]) qd.xp qd.x1 qd.x2::(kC e (bg encI e::(kG d a (kA g []))))) (.i t) (.loop .ready none (ofG 54 [(5,.ptr 1 0)]) qd.xp qd.x1 qd.x2::(kC e (bg encI e::(kG d a (kA g []))))) false) (qa6 ce3 (E:=encI) (l:=g) rfl rfl k (nl rfl) rfl)) (ac (hs (.done (.opt (qa ZT 22 (.slice 5 0 g.length g.length 1) (.i (w64 (f-1))))) (.ptr 5 ((w64 (f-1):Int).toNat*1+0))) (ym qO j)) (ac (hs (.run [5] (qQ ZT 3 (.ptr 5 ((w64 (f-1):Int).toNat*1+0))) (.loop .ready none (ofG 54 [(5,.ptr 1 0)]) qd.xp qd.x1 qd.x2::(kC e (bg encI e::(kG d a (kA g []))))) (.i r) (.loop .ready none (ofG 54 [(5,.ptr 1 0)]) qd.xp qd.x1 qd.x2::(kC e (bg encI e::(kG d a (kA g []))))) false) (qa6 ce3 (E:=encI) (l:=g) rfl rfl j (nl rfl) rfl)) (ac (hs (.done (.opt (qa ZT 22 (.slice 5 0 g.length g.length 1) (.i (w64 (f-1))))) (.ptr 5 ((w64 (f-1):Int).toNat*1+0))) (ym qO j)) (ac (hs (.run [5] (qC ZT 3 (.ptr 5 ((w64 (f-1):Int).toNat*1+0)) (.i t)) (.loop .ready none (ofG 54 [(5,.ptr 1 0)]) qd.xp qd.x1 qd.x2::(kC e (bg encI e::(kG d a (kA g []))))) .undef (.loop .ready none (ofG 54 [(5,.ptr 1 0)]) qd.xp qd.x1 qd.x2::(kC e (bg encI e::(kG d a (kA D []))))) true) (jX (E:=encI) (l:=g) (y:=t) rfl (show _=some 1 by kernel_rfl) rfl j rfl rfl rfl rfl rfl w rfl)) (ac (hs (.done (.opt (qa ZT 22 (.slice 5 0 g.length g.length 1) (.i (w64 ((w64 (f-1))+1))))) (.ptr 5 ((w64 ((w64 (f-1))+1):Int).toNat*1+0))) (ym qO k)) (ac (hs (.run [5] (qC ZT 3 (.ptr 5 ((w64 ((w64 (f-1))+1):Int).toNat*1+0)) (.i r)) (.loop .ready none (ofG 54 [(5,.ptr 1 0)]) qd.xp qd.x1 qd.x2::(kC e (bg encI e::(kG d a (kA D []))))) .undef (.loop .ready none (ofG 54 [(5,.ptr 1 0)]) qd.xp qd.x1 qd.x2::(kC e (bg encI e::(kG d a (kA o []))))) true) (jX (E:=encI) (l:=D) (y:=r) rfl (show _=some 1 by kernel_rfl) rfl F rfl rfl rfl rfl rfl z rfl)) az)))))))) ?_;refine Goes.sub (show Sub (ofG 50 ((0,.yld 0)::(kW g a (a.length:Int) q [])),(.loop .ready none (ofG 54 [(5,.ptr 1 0)]) qd.xp qd.x1 qd.x2::(kC e (bg encI e::(kG d a (kA o [])))))) (ofG 50 ((0,.yld 0)::(kW o a (a.length:Int) q [])),(.loop .ready none (ofG 54 [(5,.ptr 1 0)]) qd.xp qd.x1 qd.x2::(kC e (bg encI e::(kG d a (kA o []))))))from(Uc [] [some 0,some 1,some 2,some 3,some 4,some 5] (by rw[hB];rfl) rfl (.keep (.yld rfl) (.keep (.sliceE rfl ((qZ w).trans (qZ z))) (.keep (.same (qg encI _)) (.keep (.same nI) (.keep (.same nI) .nil))))) (.kb rfl (.loop rfl (.kp .nil)) (.kb rfl (.cells (rc (.slice rfl) rn)) (.kb rfl jm.bgs (.kb rfl (.same sn) (.kb rfl (.same sn) (.ks .nil)))))))) ?_;refine gh fol ((0,.yld 0)::(kW o a (a.length:Int) (w64 (q+1)) [])) ?_;exact⟨M,(ofG 50 ((0,.yld 0)::(kW o a (a.length:Int) (w64 (q+1)) [])),(.loop .ready none (ofG 54 [(5,.ptr 1 0)]) qd.xp qd.x1 qd.x2::(kC e (bg encI e::(kG d a (kA o [])))))),Nat.lt_succ_self _,(Sub.refl _),_,_,_,rfl,g8⟩
   refine Goes.exit ?_;obtain rfl:=si g8;exact⟨rfl,_,rfl,(Uc [] [some 0,some 1,some 2,some 3,some 4] (by rw[hB];rfl) rfl .nil (.kb rfl (.loop rfl (.kp .nil)) (.kb rfl (.cells (rc (.slice rfl) rn)) (.kb rfl jm.bgs (.kb rfl (.same sn) (.kb rfl (.same sn) .nil))))))⟩
 rintro x s' ⟨rfl,I,rfl,hsub⟩;obtain rfl:=si h;exact⟨_,hsub,(gh2 [] (qdo.refl _ _))⟩
def xe (n:Int) (c:List (List Int)):Nat->(List (List Int))->Int->Option (List (List Int))
 |0,_,_=>none
 |K+1,b,a=>
  if a<(c.length:Int)then
  (mk 8 n 0).bind fun d=>
  (idx b a).bind fun e=>
  xe n c K (qh b a d) (w64 (a+1))
  else
  some b
def qck (N:Nat) (n:Int) (w:List Int):Option (List (List Int)):=
 (mk 24 n ([]:List Int)).bind fun b=>
 (xe n b N b 0).bind fun c=>
 (jZ n w).bind fun _=>
 (yM N c n w).bind fun a=>
 some a
theorem qgt (N:Nat) (n:Int) (w:List Int) {res:List (List Int)} (h:qck N n w=some res):qc ZT (.fn 72) (.i n::(kAq w)) [] (vl (qf encI) res) []:=by
 unfold qck at h;refine Ub Tryz.func72 rfl rfl (m:=54) rfl (rs:=[.tmp 4]) rfl (l:=(kB n w [])) rfl ?_;refine sh fol (kB n w []) ?_;obtain⟨f,o,h⟩:=bnd h;refine sq (gq fol [1] (kB n w (kA2 [])) (.cells (f.flatMap (qj4 encI).c)::(kAJ f [])) (ac (hs (.run [] (jv ZT 33 (.i n) (.i n)) [] (.slice 0 0 f.length f.length 1) [.cells (f.flatMap (qj4 encI).c)] false) (qd3 qd4 (E:=(qj4 encI)) (z:=[]) rfl (by kernel_rfl) o rfl)) az) ?_);refine Goes.sub (show Sub (ofG 54 (kB n w (kA2 [])),(.cells (f.flatMap (qj4 encI).c)::(kAJ f []))) (ofG 54 (kB n w (kA2 [])),(bg encI f::(kAJ f [])))from(Sub.bagNil1 (E:=encI) (b:=0) rfl o)) ?_;refine sq ?_;refine sh fol (kB n w (kA2 [(12,.i (f.length:Int)),(13,.i 0)])) ?_;refine Goes.block ?_;obtain⟨t,g5,h⟩:=bnd h;refine Goes.imp (Q:=fun x s'=>(x= .exit 0/\ ∃j,j=t/\Sub s' (ofG 54 (kB n w (kBB [])),(kS j [bg encI j])))) ?_ ?_
 ·refine Goes.sub (s':=(ofG 54 (kB n w (kBB [(12,.i (f.length:Int)),(13,.i 0)])),(kS f [bg encI f]))) (Uc [] [some 1,some 0] rfl rfl (.keep (.same nI) (.keep (.same (qg encI _)) (.kp (.keep (.same nI) (.keep (.same nI) .nil))))) (.kb rfl (.cells (rc (.slice rfl) rn)) (.kb rfl jm.bgs .nil))) ?_;refine Ud (fun M s=> ∃(d:List (List Int)) (e:Int),s=(ofG 54 (kB n w (kBB (kAX (f.length:Int) e))),(kS d [bg encI d]))/\xe n f M d e=some t) ?_ (m:=N) ⟨_,_,rfl,g5⟩;rintro M s ⟨d,e,rfl,g5⟩
  cases M with
  |zero=>simp only[xe]at g5;cases g5
  |succ M=>
   rw[xe]at g5;refine sh fol (kB n w (kBB ((12,.i (f.length:Int))::(13,.i e)::(kBK (decide (e<(f.length:Int))))))) ?_;refine sq ?_;refine ihD g5 (fun u g5=>?_) (fun u g5=>?_)
   ·refine Goes.skip ?_;refine sq (Goes.block ?_);refine sh fol (kB n w (kBB ((6,.i e)::(kAX (f.length:Int) e)))) ?_;obtain⟨g,p,g5⟩:=bnd g5;obtain⟨y,k,g5⟩:=bnd g5;refine gq fol [3,4,5] (kB n w (kBB (kAX (f.length:Int) e))) (kS d (.bag ((d.map (qF encI)).set (e:Int).toNat (.av (.slice 2 0 g.length g.length 1)))::(kA g []))) (ac (hs (.run [] (jv ZT 22 (.i n) (.i n)) (kS d [bg encI d]) (.slice 2 0 g.length g.length 1) (kS d (bg encI d::(kA g []))) false) (qd3 qO (E:=encI) (z:=0) rfl (by kernel_rfl) p rfl)) (ac (hs (.done (.opt (qa ZT 33 (.slice 1 0 d.length d.length 1) (.i e))) (.ptr 1 ((e:Int).toNat*1+0))) (ym qd4 k)) (ac (hs (.run [1] (qC ZT 22 (.ptr 1 ((e:Int).toNat*1+0)) (.slice 2 0 g.length g.length 1)) (kS d (bg encI d::(kA g []))) .undef (kS d (.bag ((d.map (qF encI)).set (e:Int).toNat (.av (.slice 2 0 g.length g.length 1)))::(kA g []))) true) (qpk (show _=some 1 by kernel_rfl) rfl (qp4 k) rfl rfl rfl)) az))) ?_;refine Goes.sub ((show Sub (ofG 54 (kB n w (kBB (kAX (f.length:Int) e))),(kS d (.bag ((d.map (qF encI)).set (e:Int).toNat (.av (.slice 2 0 g.length g.length 1)))::(kA g [])))) (ofG 54 (kB n w (kBB (kAX (f.length:Int) e))),(kS d [bg encI (qh d e g),.dead]))from(Ui (E:=encI) (b:=1) (c:=2) (Nat.ne_of_beq_eq_false rfl) rfl rfl k (.s (qtM p)) rfl)).trans (show Sub (ofG 54 (kB n w (kBB (kAX (f.length:Int) e))),(kS d [bg encI (qh d e g),.dead])) (ofG 54 (kB n w (kBB (kAX (f.length:Int) e))),(kS (qh d e g) [bg encI (qh d e g)]))from(Uc [] [some 0,some 1] rfl rfl (.keep (.same nI) (.keep (.same (qg encI _)) (.kp (.keep (.same nI) (.keep (.same nI) .nil))))) (.kb rfl (.cells (rc (.sliceE rfl (y7 _ _ _)) rn)) (.kb rfl jm.bgs .nil))))) ?_;refine gh fol (kB n w (kBB (kAX (f.length:Int) (w64 (e+1))))) ?_;exact⟨M,(ofG 54 (kB n w (kBB (kAX (f.length:Int) (w64 (e+1))))),(kS (qh d e g) [bg encI (qh d e g)])),Nat.lt_succ_self _,(Sub.refl _),_,_,rfl,g5⟩
   refine Goes.exit ?_;obtain rfl:=si g5;exact⟨rfl,_,rfl,(Sub.keep [0,1,5] rfl rfl)⟩
 rintro x s' ⟨rfl,j,rfl,hsub⟩;refine Goes.sub hsub ?_;refine sq ?_;obtain⟨_,r,h⟩:=bnd h;refine sq (gq fol [2] (kBB [(24,.func (.func 183) [] [.ptr 2 0,.ptr 3 0])]) (kS j (bg encI j::(kG n w []))) (ac (hs (.callH 135 (.i n::(kAq w)) (kS j [bg encI j]) [] (.func (.func 183) [] kA0) (kS j (bg encI j::(kG n w [])))) (zQ [] [none,none,some 0,some 1] (qcc n w r) .nil rfl rfl (.old rfl rfl (.old rfl rfl (.new rfl rfl (.cells (rc (.same nI) rn)) rfl (.new rfl rfl (.cells (rc (.same (qg encI _)) rn)) rfl .nil)))) (rc (.same nI) (rc (.same (qg encI _)) rn)) (.funcL (sn) (rc (.ptr rfl) (rc (.ptr rfl) rn))) rfl)) az) ?_);refine Goes.block ?_;obtain⟨a,q,h⟩:=bnd h;refine Goes.range fol rfl (gf:=183) (first:=[]) (captured:=kA0) (v:= .tuple []) (A2:=(kS a (bg encI a::(kG n w [.loop .ready none (ofG 54 [(5,.ptr 0 0)]) qd.xp qd.x1 qd.x2])))) (s':=(ofG 54 (kBB [(24,.func (.func 183) [] [.ptr 2 0,.ptr 3 0])]),(kS a (bg encI a::(kG n w [.loop .exhausted none (ofG 54 [(5,.ptr 0 0)]) qd.xp qd.x1 qd.x2]))))) (x:= .normal) (by kernel_rfl) (by kernel_rfl) (qlZ (show(Obl.callH 183 (.yld 4::kA0) (kS j (bg encI j::(kG n w [.loop .ready none (ofG 54 [(5,.ptr 0 0),(24,.func (.func 183) [] [.ptr 2 0,.ptr 3 0])]) qd.xp qd.x1 qd.x2]))) [4,0,1,2,3] (.tuple []) (kS a (bg encI a::(kG n w [.loop .ready none (ofG 54 [(5,.ptr 0 0)]) qd.xp qd.x1 qd.x2])))).Holds ZT from zQ [some 4,some 0,some 1,some 2,some 3] [some 1,some 2,some 3,some 4,some 0] (qd0 N j n w q) (.kb rfl (.loop rfl (.kp (.drop .nil))) (.kb rfl (.cells (rc (.slice rfl) rn)) (.kb rfl jm.bgs (.kb rfl (.cells (rc (.same nI) rn)) (.kb rfl (.cells (rc (.same (qg encI _)) rn)) .nil))))) rfl rfl (.back rfl rfl (.cells (rc (.slice rfl) rn)) rfl (.back rfl rfl jm.bgs rfl (.back rfl rfl (.cells (rc (.same nI) rn)) rfl (.back rfl rfl (.cells (rc (.same (qg encI _)) rn)) rfl (.back rfl rfl (.loop rfl (.kp .nil)) rfl .nil))))) (rc (.yld rfl) (rc (.ptr rfl) (rc (.ptr rfl) rn))) (.same (qJ.tuple sn)) rfl)) (by kernel_rfl) ?_;refine Goes.sub (show Sub (ofG 54 (kBB [(24,.func (.func 183) [] [.ptr 2 0,.ptr 3 0])]),(kS a (bg encI a::(kG n w [.loop .exhausted none (ofG 54 [(5,.ptr 0 0)]) qd.xp qd.x1 qd.x2])))) (ofG 54 (kBB [(24,.func (.func 183) [] [.ptr 2 0,.ptr 3 0])]),(kS a (bg encI a::(kG n w []))))from(Uc [] [some 0,some 1,some 2,some 3] rfl rfl (.kp (.keep (.funcL (sn) (rc (.ptr rfl) (rc (.ptr rfl) rn))) .nil)) (.kb rfl (.cells (rc (.slice rfl) rn)) (.kb rfl jm.bgs (.kb rfl (.same sn) (.kb rfl (.same sn) .nil)))))) ?_;refine sh fol [(4,.slice 1 0 a.length a.length 1)] ?_;refine Goes.sub (s':=(ofG 54 [(4,.slice 1 0 a.length a.length 1)],(kS a (.frozen (a.flatMap (qf encI).c)::(kG n w []))))) (Uz (E:=encI) (b:=1) rfl) ?_;refine Goes.ret ?_;obtain rfl:=si h;exact(gw2 [.slice 1 0 a.length a.length 1] (Ut (Fz.slF (E:=(qf encI)) rfl rfl (nl rfl))))
def qjC (n:Int):Option qP:=
 some (⟨n,[]⟩:qP)
theorem qkb (n:Int) {res:qP} (h:qjC n=some res):qc ZT (.fn 144) [.i n] [] (.agg (nz1 res)) []:=by
 unfold qjC at h;refine Ub Tryz.func144 rfl rfl (m:=5) rfl (rs:=[.cell 2 115]) rfl (l:=(kBW n)) rfl ?_;refine sg fol ((0,.i n)::kAl) [bZ] ?_;refine sg fol kAl (kAD n []) ?_;refine Goes.ret ?_;obtain rfl:=si h;exact(gw2 [.agg [.i n,.nilslice]] (FzW.agg (qm.cons (Ua tI) (qm.cons (FzW.nv0 (E:=ZU)) qm.nil))))
def qc0 (n:qP):Option qw:=
 (qjC 1).bind fun a=>
 some (⟨n,a⟩:qw)
theorem qhi (n:qP) {res:qw} (h:qc0 n=some res):qc ZT (.fn 149) [.agg (nz1 n)] [] (.agg (nq1 res)) []:=by
 unfold qc0 at h;refine Ub Tryz.func149 rfl rfl (m:=6) rfl (rs:=[.cell 2 117]) rfl (l:=[(0,.agg (nz1 n))]) rfl ?_;refine sg fol (kAc []) (.cells (nz1 n)::(kI [])) ?_;obtain⟨a,b,h⟩:=bnd h;refine sq (gq fol [1,3] kBd [.cells (nz1 n),.cells (ni2 n.s n.w a.s a.w)] (ac (cv (qkb 1 b)) (ac (hs (.run [1] (qC ZT 117 (.ptr 1 0) (.agg (ni2 n.s n.w a.s a.w))) (.cells (nz1 n)::(kI [])) .undef [.cells (nz1 n),.cells (ni2 n.s n.w a.s a.w)] true) (vB (n:=4) (by kernel_rfl) rfl rfl rfl rfl (cac rfl (cac nvc (cac rfl (cac nvc can)))) rfl)) az)) ?_);refine Goes.ret ?_;obtain rfl:=si h;exact(gw2 [.agg (ni2 n.s n.w a.s a.w)] (FzW.agg (qm.cons (Ua tI) (qm.cons (Ua (qD ZU _ (nl rfl))) (qm.cons (Ua tI) (qm.cons (Ua (qD ZU _ (nl rfl))) qm.nil))))))
def qg7 (n:Int):Option qw:=
 (qjC n).bind fun a=>
 (qc0 a).bind fun b=>
 some b
theorem qen (n:Int) {res:qw} (h:qg7 n=some res):qc ZT (.fn 126) [.i n] [] (.agg (nq1 res)) []:=by
 unfold qg7 at h;refine Ub Tryz.func126 rfl rfl (m:=6) rfl (rs:=[.cell 2 117]) rfl (l:=(kBW n)) rfl ?_;refine sg fol ((0,.i n)::kAl) (kI []) ?_;obtain⟨d,a,h⟩:=bnd h;obtain⟨c,b,h⟩:=bnd h;refine sq (gq fol [1,2,3] kAl [.cells (nq1 c)] (ac (cv (qkb n a)) (ac (cv (qhi d b)) (ac (hs (.run [0] (qC ZT 117 (.ptr 0 0) (.agg (nq1 c))) (kI []) .undef [.cells (nq1 c)] true) (vB (n:=4) (by kernel_rfl) rfl rfl rfl rfl (cac rfl (cac nvc (cac rfl (cac nvc can)))) rfl)) az))) ?_);refine Goes.ret ?_;obtain rfl:=si h;exact(gw2 [.agg (nq1 c)] (FzW.agg (qm.cons (Ua tI) (qm.cons (Ua (qD ZU _ (nl rfl))) (qm.cons (Ua tI) (qm.cons (Ua (qD ZU _ (nl rfl))) qm.nil))))))
def bits_Mul64 (a:Int) (y:Int):Option (Int×Int):=
 some (wrap .u64 ((wrap .u64 ((wrap .u64 ((zW .u64 a 32)*(zW .u64 y 32)))+(zW .u64 (wrap .u64 ((wrap .u64 ((zW .u64 a 32)*(zO .u64 y 4294967295)))+(zW .u64 (wrap .u64 ((zO .u64 a 4294967295)*(zO .u64 y 4294967295))) 32))) 32)))+(zW .u64 (wrap .u64 ((zO .u64 (wrap .u64 ((wrap .u64 ((zW .u64 a 32)*(zO .u64 y 4294967295)))+(zW .u64 (wrap .u64 ((zO .u64 a 4294967295)*(zO .u64 y 4294967295))) 32))) 4294967295)+(wrap .u64 ((zO .u64 a 4294967295)*(zW .u64 y 32))))) 32)),wrap .u64 (a*y))
theorem qgA (a:Int) (y:Int) {res:Int×Int} (h:bits_Mul64 a y=some res):qc ZT (.fn 221) [.int .u64 a,.int .u64 y] [] (.tuple [.int .u64 res.1,.int .u64 res.2]) []:=by
 unfold bits_Mul64 at h;refine Ub Tryz.func221 rfl rfl (m:=51) rfl (rs:=[.tmp 4,.tmp 5]) rfl (l:=(kAS a y [])) rfl ?_;refine sh fol (kAS a y []) ?_;refine sh fol (kAS a y (kBJ (zO .u64 a 4294967295) [])) ?_;refine sh fol (kAS a y (kBJ (zO .u64 a 4294967295) [(7,.int .u64 (zW .u64 a 32))])) ?_;refine sh fol (kAS a y (kBJ (zO .u64 a 4294967295) [(7,.int .u64 (zW .u64 a 32)),(8,.int .u64 (zO .u64 y 4294967295))])) ?_;refine sh fol (kAS a y (kBJ (zO .u64 a 4294967295) [(7,.int .u64 (zW .u64 a 32)),(8,.int .u64 (zO .u64 y 4294967295)),(9,.int .u64 (zW .u64 y 32))])) ?_;refine sh fol (kAS a y (kBJ (zO .u64 a 4294967295) [(7,.int .u64 (zW .u64 a 32)),(8,.int .u64 (zO .u64 y 4294967295)),(9,.int .u64 (zW .u64 y 32)),(10,.int .u64 (wrap .u64 ((zO .u64 a 4294967295)*(zO .u64 y 4294967295))))])) ?_;refine sh fol (kAS a y (kBJ (zO .u64 a 4294967295) [(7,.int .u64 (zW .u64 a 32)),(9,.int .u64 (zW .u64 y 32)),(11,.int .u64 (wrap .u64 ((wrap .u64 ((zW .u64 a 32)*(zO .u64 y 4294967295)))+(zW .u64 (wrap .u64 ((zO .u64 a 4294967295)*(zO .u64 y 4294967295))) 32))))])) ?_;refine sh fol (kAS a y (kBJ (zO .u64 a 4294967295) [(7,.int .u64 (zW .u64 a 32)),(9,.int .u64 (zW .u64 y 32)),(11,.int .u64 (wrap .u64 ((wrap .u64 ((zW .u64 a 32)*(zO .u64 y 4294967295)))+(zW .u64 (wrap .u64 ((zO .u64 a 4294967295)*(zO .u64 y 4294967295))) 32)))),(12,.int .u64 (zO .u64 (wrap .u64 ((wrap .u64 ((zW .u64 a 32)*(zO .u64 y 4294967295)))+(zW .u64 (wrap .u64 ((zO .u64 a 4294967295)*(zO .u64 y 4294967295))) 32))) 4294967295))])) ?_;refine sh fol (kAS a y (kBJ (zO .u64 a 4294967295) [(7,.int .u64 (zW .u64 a 32)),(9,.int .u64 (zW .u64 y 32)),(12,.int .u64 (zO .u64 (wrap .u64 ((wrap .u64 ((zW .u64 a 32)*(zO .u64 y 4294967295)))+(zW .u64 (wrap .u64 ((zO .u64 a 4294967295)*(zO .u64 y 4294967295))) 32))) 4294967295)),(13,.int .u64 (zW .u64 (wrap .u64 ((wrap .u64 ((zW .u64 a 32)*(zO .u64 y 4294967295)))+(zW .u64 (wrap .u64 ((zO .u64 a 4294967295)*(zO .u64 y 4294967295))) 32))) 32))])) ?_;refine sh fol (kAS a y [(7,.int .u64 (zW .u64 a 32)),(9,.int .u64 (zW .u64 y 32)),(12,.int .u64 (wrap .u64 ((zO .u64 (wrap .u64 ((wrap .u64 ((zW .u64 a 32)*(zO .u64 y 4294967295)))+(zW .u64 (wrap .u64 ((zO .u64 a 4294967295)*(zO .u64 y 4294967295))) 32))) 4294967295)+(wrap .u64 ((zO .u64 a 4294967295)*(zW .u64 y 32)))))),(13,.int .u64 (zW .u64 (wrap .u64 ((wrap .u64 ((zW .u64 a 32)*(zO .u64 y 4294967295)))+(zW .u64 (wrap .u64 ((zO .u64 a 4294967295)*(zO .u64 y 4294967295))) 32))) 32))]) ?_;refine sh fol (kAS a y [(4,.int .u64 (wrap .u64 ((wrap .u64 ((wrap .u64 ((zW .u64 a 32)*(zW .u64 y 32)))+(zW .u64 (wrap .u64 ((wrap .u64 ((zW .u64 a 32)*(zO .u64 y 4294967295)))+(zW .u64 (wrap .u64 ((zO .u64 a 4294967295)*(zO .u64 y 4294967295))) 32))) 32)))+(zW .u64 (wrap .u64 ((zO .u64 (wrap .u64 ((wrap .u64 ((zW .u64 a 32)*(zO .u64 y 4294967295)))+(zW .u64 (wrap .u64 ((zO .u64 a 4294967295)*(zO .u64 y 4294967295))) 32))) 4294967295)+(wrap .u64 ((zO .u64 a 4294967295)*(zW .u64 y 32))))) 32))))]) ?_;refine sh fol [(4,.int .u64 (wrap .u64 ((wrap .u64 ((wrap .u64 ((zW .u64 a 32)*(zW .u64 y 32)))+(zW .u64 (wrap .u64 ((wrap .u64 ((zW .u64 a 32)*(zO .u64 y 4294967295)))+(zW .u64 (wrap .u64 ((zO .u64 a 4294967295)*(zO .u64 y 4294967295))) 32))) 32)))+(zW .u64 (wrap .u64 ((zO .u64 (wrap .u64 ((wrap .u64 ((zW .u64 a 32)*(zO .u64 y 4294967295)))+(zW .u64 (wrap .u64 ((zO .u64 a 4294967295)*(zO .u64 y 4294967295))) 32))) 4294967295)+(wrap .u64 ((zO .u64 a 4294967295)*(zW .u64 y 32))))) 32)))),(5,.int .u64 (wrap .u64 (a*y)))] ?_;refine Goes.ret ?_;obtain rfl:=si h;exact(gw2 [.int .u64 (wrap .u64 ((wrap .u64 ((wrap .u64 ((zW .u64 a 32)*(zW .u64 y 32)))+(zW .u64 (wrap .u64 ((wrap .u64 ((zW .u64 a 32)*(zO .u64 y 4294967295)))+(zW .u64 (wrap .u64 ((zO .u64 a 4294967295)*(zO .u64 y 4294967295))) 32))) 32)))+(zW .u64 (wrap .u64 ((zO .u64 (wrap .u64 ((wrap .u64 ((zW .u64 a 32)*(zO .u64 y 4294967295)))+(zW .u64 (wrap .u64 ((zO .u64 a 4294967295)*(zO .u64 y 4294967295))) 32))) 4294967295)+(wrap .u64 ((zO .u64 a 4294967295)*(zW .u64 y 32))))) 32))),.int .u64 (wrap .u64 (a*y))] (FzW.tuple (qm.cons (Ua tI) (qm.cons (Ua tI) qm.nil))))
def bits_Mul (b:Int) (y:Int):Option (Int×Int):=
 (bits_Mul64 b y).bind fun a=>
 some (a.1,a.2)
theorem qnb (d:Int) (y:Int) {res:Int×Int} (h:bits_Mul d y=some res):qc ZT (.fn 162) [.int .u64 d,.int .u64 y] [] (.tuple [.int .u64 res.1,.int .u64 res.2]) []:=by
 unfold bits_Mul at h;refine Ub Tryz.func162 rfl rfl (m:=30) rfl (rs:=[.tmp 4,.tmp 5]) rfl (l:=(kAS d y [])) rfl ?_;refine sh fol (kAS d y []) ?_;refine sq ?_;refine Goes.ifB (b:=false) (by kernel_rfl) (fun c=>(by cases c)) (fun _=>?_);refine Goes.skip ?_;obtain⟨a,e,h⟩:=bnd h;refine sq (gr fol [2] [(8,.int .u64 a.1),(9,.int .u64 a.2)] (ac (cv (qgA d y e)) az) ?_);refine sh fol [(4,.int .u64 a.1),(5,.int .u64 a.2)] ?_;refine Goes.ret ?_;obtain rfl:=si h;exact(gw2 [.int .u64 a.1,.int .u64 a.2] (FzW.tuple (qm.cons (Ua tI) (qm.cons (Ua tI) qm.nil))))
def qem (n:Int):Option Int:=
 if n<0 then
 some (wrap .u64 (w64 (0-n)))
 else
 some (wrap .u64 n)
theorem qh9 (n:Int) {res:Int} (h:qem n=some res):qc ZT (.fn 255) [.i n] [] (.int .u64 res) []:=by
 unfold qem at h;refine Ub Tryz.func255 rfl rfl (m:=10) rfl (rs:=[.tmp 2]) rfl (l:=(kBW n)) rfl ?_;refine sh fol (kBW n) ?_;refine sq ?_;refine sh fol ((0,.i n)::(kAj (decide (n<0)))) ?_;refine ihD h (fun a h=>?_) (fun a h=>?_)
 ·refine sh fol [(2,.int .u64 (wrap .u64 (w64 (0-n))))] ?_;refine Goes.ret ?_;obtain rfl:=si h;exact(gw2 [.int .u64 (wrap .u64 (w64 (0-n)))] (Ua tI))
 refine Goes.skip ?_;refine sh fol [(2,.int .u64 (wrap .u64 n))] ?_;refine Goes.ret ?_;obtain rfl:=si h;exact(gw2 [.int .u64 (wrap .u64 n)] (Ua tI))
def jc (a:qP) (b:qP):Option qP:=
 (if a.w.isEmpty=true then
 some b.w.isEmpty
 else
 some false:Option Bool).bind fun f=>
 ((if f=true then
 (qem a.s).bind fun g=>
 (qem b.s).bind fun h=>
 (bits_Mul64 g h).bind fun c=>
 (if c.1=0 then
 some (decide (c.2<=9223372036854775807))
 else
 some false:Option Bool).bind fun d=>
 if d=true then
 if(!((decide (a.s<0))==(decide (b.s<0))))=true then
 some (.inr (⟨w64 (0-(w64 c.2)),[]⟩:qP))
 else
 some (.inr (⟨w64 c.2,[]⟩:qP))
 else
 some (.inl ())
 else
 some (.inl ()):Option (Unit⊕qP))).bind (fun
 |(.inl ())=>
 none
 |(.inr e)=>
 some e)
theorem yC (a:qP) (b:qP) {res:qP} (h:jc a b=some res):qc ZT (.fn 193) [.agg (nz1 a),.agg (nz1 b)] [] (.agg (nz1 res)) []:=by
 unfold jc at h;refine Ub Tryz.func193 rfl rfl (m:=66) rfl (rs:=[.cell 4 115]) rfl (l:=[(0,.agg (nz1 a)),(1,.agg (nz1 b))]) rfl ?_;refine sg fol (kF []) [.cells (nz1 a),.cells (nz1 b),bZ] ?_;refine sq ?_;refine sq ?_;obtain⟨u,d,h⟩:=bnd h;refine Goes.cut (s':=(ofG 66 (kF [(18,.bool u)]),[.cells (nz1 a),.cells (nz1 b),bZ])) ?_ ?_
 ·rcases wyB d with⟨n,d⟩|⟨n,d⟩
  ·obtain rfl:=si d;exact tr fol [2,3,6] (kF [(18,.bool b.w.isEmpty)]) (ac (hs (.done (.opt (vE ZT .eql 113 (.tmp 12) (.const (.slice none 0 0)) (nvl ZU a.w) .nilslice)) (.bool a.w.isEmpty)) (qbK xR)) (ac (gw n) (ac (hs (.done (.opt (vE ZT .eql 113 (.tmp 16) (.const (.slice none 0 0)) (nvl ZU b.w) .nilslice)) (.bool b.w.isEmpty)) (qbK xR)) az)))
  obtain rfl:=si d;exact tr fol [2,3] (kF [(18,.bool false)]) (ac (hs (.done (.opt (vE ZT .eql 113 (.tmp 12) (.const (.slice none 0 0)) (nvl ZU a.w) .nilslice)) (.bool a.w.isEmpty)) (qbK xR)) (ac (gw n) az))
 obtain⟨r,g4,h⟩:=bnd h;refine Goes.imp (Q:=fun x s'=>(x= .normal/\(.inl ())=r/\Sub s' (ofG 66 (kF []),[.cells (nz1 a),.cells (nz1 b),bZ]))\/(x= .ret/\ ∃t,(.inr t)=r/\zo ZT [.cell 4 115] (.agg (nz1 t)) .ret s')) ?_ ?_
 ·refine ihB g4 (fun v g4=>?_) (fun v g4=>?_)
  ·obtain⟨y,g,g4⟩:=bnd g4;obtain⟨z,j,g4⟩:=bnd g4;obtain⟨e,k,g4⟩:=bnd g4;refine sq (gr fol [2,5,6] (kF ((5,.int .u64 e.1)::(kBJ e.2 []))) (ac (cv (qh9 a.s g)) (ac (cv (qh9 b.s j)) (ac (cv (qgA y z k)) az))) ?_);refine sq ?_;obtain⟨o,c,g4⟩:=bnd g4;refine Goes.cut (s':=(ofG 66 (kF (kBJ e.2 [(34,.bool o)])),[.cells (nz1 a),.cells (nz1 b),bZ])) ?_ ?_
   ·rcases wyD c with⟨f,c⟩|⟨f,c⟩
    ·obtain rfl:=si c;exact tr fol [2] (kF (kBJ e.2 [(34,.bool (decide (e.2<=9223372036854775807)))])) (ac (gw f) az)
    obtain rfl:=si c;exact tr fol [2] (kF (kBJ e.2 [(34,.bool false)])) (ac (gw f) az)
   refine ihB g4 (fun p g4=>?_) (fun p g4=>?_)
   ·refine sq ?_;refine sh fol ((4,.ptr 2 0)::(kBJ e.2 [(41,.bool (!((decide (a.s<0))==(decide (b.s<0)))))])) ?_;refine ihB g4 (fun q g4=>?_) (fun q g4=>?_)
    ·refine sg fol kBO (.cells (nz1 a):: .cells (nz1 b)::(kAD (w64 (0-(w64 e.2))) [])) ?_;refine Goes.ret ?_;obtain rfl:=si g4;exact Or.inr (⟨rfl,_,rfl,(gw2 [.agg [.i (w64 (0-(w64 e.2))),.nilslice]] (FzW.agg (qm.cons (Ua tI) (qm.cons (FzW.nv0 (E:=ZU)) qm.nil))))⟩)
    refine Goes.skip ?_;refine sg fol kBO (.cells (nz1 a):: .cells (nz1 b)::(kAD (w64 e.2) [])) ?_;refine Goes.ret ?_;obtain rfl:=si g4;exact Or.inr (⟨rfl,_,rfl,(gw2 [.agg [.i (w64 e.2),.nilslice]] (FzW.agg (qm.cons (Ua tI) (qm.cons (FzW.nv0 (E:=ZU)) qm.nil))))⟩)
   refine Goes.skip ?_;obtain rfl:=si g4;exact Or.inl (⟨rfl,rfl,(Sub.keep [2,3,4] rfl rfl)⟩)
  refine Goes.skip ?_;obtain rfl:=si g4;exact Or.inl (⟨rfl,rfl,(Sub.keep [2,3,4] rfl rfl)⟩)
 rintro x s' (⟨rfl,rfl,hsub⟩|⟨rfl,A,rfl,hret⟩)
 ·try dsimp only at h
  refine Goes.sub hsub ?_;refine sq ?_;cases h
 try dsimp only at h
 obtain rfl:=si h;exact hret
def qa2 (a:qP) (b:qP):Option qP:=
 (if a.w.isEmpty=true then
 some b.w.isEmpty
 else
 some false:Option Bool).bind fun c=>
 ((if c=true then
 if((decide ((w64 (a.s+b.s))>a.s))==(decide (b.s>0)))=true then
 some (.inr (⟨w64 (a.s+b.s),[]⟩:qP))
 else
 some (.inl ())
 else
 some (.inl ()):Option (Unit⊕qP))).bind (fun
 |(.inl ())=>
 none
 |(.inr d)=>
 some d)
theorem qft (a:qP) (b:qP) {res:qP} (h:qa2 a b=some res):qc ZT (.fn 195) [.agg (nz1 a),.agg (nz1 b)] [] (.agg (nz1 res)) []:=by
 unfold qa2 at h;refine Ub Tryz.func195 rfl rfl (m:=67) rfl (rs:=[.cell 4 115]) rfl (l:=[(0,.agg (nz1 a)),(1,.agg (nz1 b))]) rfl ?_;refine sg fol (kF []) [.cells (nz1 a),.cells (nz1 b),bZ] ?_;refine sq ?_;refine sq ?_;obtain⟨g,c,h⟩:=bnd h;refine Goes.cut (s':=(ofG 67 (kF [(17,.bool g)]),[.cells (nz1 a),.cells (nz1 b),bZ])) ?_ ?_
 ·rcases wyB c with⟨d,c⟩|⟨d,c⟩
  ·obtain rfl:=si c;exact tr fol [2,3,6] (kF [(17,.bool b.w.isEmpty)]) (ac (hs (.done (.opt (vE ZT .eql 113 (.tmp 11) (.const (.slice none 0 0)) (nvl ZU a.w) .nilslice)) (.bool a.w.isEmpty)) (qbK xR)) (ac (gw d) (ac (hs (.done (.opt (vE ZT .eql 113 (.tmp 15) (.const (.slice none 0 0)) (nvl ZU b.w) .nilslice)) (.bool b.w.isEmpty)) (qbK xR)) az)))
  obtain rfl:=si c;exact tr fol [2,3] (kF [(17,.bool false)]) (ac (hs (.done (.opt (vE ZT .eql 113 (.tmp 11) (.const (.slice none 0 0)) (nvl ZU a.w) .nilslice)) (.bool a.w.isEmpty)) (qbK xR)) (ac (gw d) az))
 obtain⟨e,g4,h⟩:=bnd h;refine Goes.imp (Q:=fun x s'=>(x= .normal/\(.inl ())=e/\Sub s' (ofG 67 (kF []),[.cells (nz1 a),.cells (nz1 b),bZ]))\/(x= .ret/\ ∃f,(.inr f)=e/\zo ZT [.cell 4 115] (.agg (nz1 f)) .ret s')) ?_ ?_
 ·refine ihB g4 (fun j g4=>?_) (fun j g4=>?_)
  ·refine sh fol (kF (kBA (w64 (a.s+b.s)))) ?_;refine sh fol (kF [(5,.i (w64 (a.s+b.s))),(30,.bool ((decide ((w64 (a.s+b.s))>a.s))==(decide (b.s>0))))]) ?_;refine ihB g4 (fun k g4=>?_) (fun k g4=>?_)
   ·refine sg fol kBO (.cells (nz1 a):: .cells (nz1 b)::(kAD (w64 (a.s+b.s)) [])) ?_;refine Goes.ret ?_;obtain rfl:=si g4;exact Or.inr (⟨rfl,_,rfl,(gw2 [.agg [.i (w64 (a.s+b.s)),.nilslice]] (FzW.agg (qm.cons (Ua tI) (qm.cons (FzW.nv0 (E:=ZU)) qm.nil))))⟩)
   refine Goes.skip ?_;obtain rfl:=si g4;exact Or.inl (⟨rfl,rfl,(Sub.keep [2,3,4] rfl rfl)⟩)
  refine Goes.skip ?_;obtain rfl:=si g4;exact Or.inl (⟨rfl,rfl,(Sub.keep [2,3,4] rfl rfl)⟩)
 rintro x s' (⟨rfl,rfl,hsub⟩|⟨rfl,n,rfl,hret⟩)
 ·try dsimp only at h
  refine Goes.sub hsub ?_;refine sq ?_;cases h
 try dsimp only at h
 obtain rfl:=si h;exact hret
def jR (a:qP):Option qP:=
 (if a.w.isEmpty=true then
 some (!decide (a.s=(-9223372036854775808)))
 else
 some false:Option Bool).bind fun b=>
 if b=true then
 some (⟨w64 (0-a.s),[]⟩:qP)
 else
 none
theorem xJ (a:qP) {res:qP} (h:jR a=some res):qc ZT (.fn 196) [.agg (nz1 a)] [] (.agg (nz1 res)) []:=by
 unfold jR at h;refine Ub Tryz.func196 rfl rfl (m:=26) rfl (rs:=[.cell 2 115]) rfl (l:=[(0,.agg (nz1 a))]) rfl ?_;refine sg fol (kAc []) [.cells (nz1 a),bZ] ?_;refine sq ?_;refine sq ?_;obtain⟨d,b,h⟩:=bnd h;refine Goes.cut (s':=(ofG 26 (kAc [(12,.bool d)]),[.cells (nz1 a),bZ])) ?_ ?_
 ·rcases wyB b with⟨c,b⟩|⟨c,b⟩
  ·obtain rfl:=si b;exact tr fol [2,3] (kAc [(12,.bool (!decide (a.s=(-9223372036854775808))))]) (ac (hs (.done (.opt (vE ZT .eql 113 (.tmp 6) (.const (.slice none 0 0)) (nvl ZU a.w) .nilslice)) (.bool a.w.isEmpty)) (qbK xR)) (ac (gw c) az))
  obtain rfl:=si b;exact tr fol [2,3] (kAc [(12,.bool false)]) (ac (hs (.done (.opt (vE ZT .eql 113 (.tmp 6) (.const (.slice none 0 0)) (nvl ZU a.w) .nilslice)) (.bool a.w.isEmpty)) (qbK xR)) (ac (gw c) az))
 refine ihB h (fun e h=>?_) (fun e h=>?_)
 ·refine sg fol kBd (.cells (nz1 a)::(kAD (w64 (0-a.s)) [])) ?_;refine Goes.ret ?_;obtain rfl:=si h;exact(gw2 [.agg [.i (w64 (0-a.s)),.nilslice]] (FzW.agg (qm.cons (Ua tI) (qm.cons (FzW.nv0 (E:=ZU)) qm.nil))))
 refine Goes.skip ?_;refine sq ?_;cases h
def qbE (a:qP):Option qP:=
 if a.s<0 then
 (jR a).bind fun b=>
 some b
 else
 some a
theorem qfj (a:qP) {res:qP} (h:qbE a=some res):qc ZT (.fn 187) [.agg (nz1 a)] [] (.agg (nz1 res)) []:=by
 unfold qbE at h;refine Ub Tryz.func187 rfl rfl (m:=9) rfl (rs:=[.cell 2 115]) rfl (l:=[(0,.agg (nz1 a))]) rfl ?_;refine sg fol (kAc []) [.cells (nz1 a),bZ] ?_;refine sq ?_;refine sh fol (kAc [(5,.bool (decide (a.s<0)))]) ?_;refine ihD h (fun d h=>?_) (fun d h=>?_)
 ·obtain⟨c,b,h⟩:=bnd h;refine sq (gq fol [1,2] kBd [.cells (nz1 a),.cells (nz1 c)] (ac (cv (xJ a b)) (ac (hs (.run [1] (qC ZT 115 (.ptr 1 0) (.agg (nz1 c))) [.cells (nz1 a),bZ] .undef [.cells (nz1 a),.cells (nz1 c)] true) (vB (n:=2) (by kernel_rfl) rfl rfl rfl rfl (cac rfl (cac nvc can)) rfl)) az)) ?_);refine Goes.ret ?_;obtain rfl:=si h;exact(gw2 [.agg (nz1 c)] (FzW.agg (qm.cons (Ua tI) (qm.cons (Ua (qD ZU _ (nl rfl))) qm.nil))))
 refine Goes.skip ?_;refine sq (gq fol [1] kBd [.cells (nz1 a),.cells (nz1 a)] (ac (hs (.run [1] (qC ZT 115 (.ptr 1 0) (.agg (nz1 a))) [.cells (nz1 a),bZ] .undef [.cells (nz1 a),.cells (nz1 a)] true) (vB (n:=2) (by kernel_rfl) rfl rfl rfl rfl (cac rfl (cac nvc can)) rfl)) az) ?_);refine Goes.ret ?_;obtain rfl:=si h;exact(gw2 [.agg (nz1 a)] (FzW.agg (qm.cons (Ua tI) (qm.cons (Ua (qD ZU _ (nl rfl))) qm.nil))))
def yf (a:qP):Option Int:=
 some (if(if a.s<1 then a.s else 1)>(-1)then(if a.s<1 then a.s else 1)else(-1))
theorem qcJ (a:qP) {res:Int} (h:yf a=some res):qc ZT (.fn 188) [.agg (nz1 a)] [] (.i res) []:=by
 unfold yf at h;refine Ub Tryz.func188 rfl rfl (m:=7) rfl (rs:=[.tmp 2]) rfl (l:=[(0,.agg (nz1 a))]) rfl ?_;refine sg fol [(1,.ptr 0 0)] [.cells (nz1 a)] ?_;refine sh fol [(2,.i (if(if a.s<1 then a.s else 1)>(-1)then(if a.s<1 then a.s else 1)else(-1)))] ?_;refine Goes.ret ?_;obtain rfl:=si h;exact(gw2 [.i (if(if a.s<1 then a.s else 1)>(-1)then(if a.s<1 then a.s else 1)else(-1))] (Ua tI))
def xY (a:qP) (b:qP):Option (qP×qP):=
 (if a.w.isEmpty=true then
 if b.w.isEmpty=true then
 some (!decide (a.s=(-9223372036854775808)))
 else
 some false
 else
 some false:Option Bool).bind fun e=>
 if e=true then
 (qjz .i64 a.s b.s).bind fun d=>
 (qlr .i64 a.s b.s).bind fun c=>
 ((if c<0 then
 some (w64 (d-1),w64 (c+b.s))
 else
 some (d,c):Option (Int×Int))).bind fun(f,g)=>
 some ((⟨f,[]⟩:qP),(⟨g,[]⟩:qP))
 else
 none
theorem qdO (a:qP) (b:qP) {res:qP×qP} (h:xY a b=some res):qc ZT (.fn 189) [.agg (nz1 a),.agg (nz1 b)] [] (.tuple [.agg (nz1 res.1),.agg (nz1 res.2)]) []:=by
 unfold xY at h;refine Ub Tryz.func189 rfl rfl (m:=84) rfl (rs:=[.cell 4 115,.cell 5 115]) rfl (l:=[(0,.agg (nz1 a)),(1,.agg (nz1 b))]) rfl ?_;refine sg fol (kF [(5,.ptr 3 0)]) [.cells (nz1 a),.cells (nz1 b),bZ,bZ] ?_;refine sq ?_;refine sq ?_;obtain⟨r,c,h⟩:=bnd h;refine Goes.cut (s':=(ofG 84 (kF [(5,.ptr 3 0),(28,.bool r)]),[.cells (nz1 a),.cells (nz1 b),bZ,bZ])) ?_ ?_
 ·rcases wyB c with⟨k,c⟩|⟨k,c⟩
  ·rcases wyB c with⟨o,c⟩|⟨o,c⟩
   ·obtain rfl:=si c;exact tr fol [2,3,6,8] (kF [(5,.ptr 3 0),(28,.bool (!decide (a.s=(-9223372036854775808))))]) (ac (hs (.done (.opt (vE ZT .eql 113 (.tmp 17) (.const (.slice none 0 0)) (nvl ZU a.w) .nilslice)) (.bool a.w.isEmpty)) (qbK xR)) (ac (gw k) (ac (hs (.done (.opt (vE ZT .eql 113 (.tmp 21) (.const (.slice none 0 0)) (nvl ZU b.w) .nilslice)) (.bool b.w.isEmpty)) (qbK xR)) (ac (gw o) az))))
   obtain rfl:=si c;exact tr fol [2,3,6,8] (kF [(5,.ptr 3 0),(28,.bool false)]) (ac (hs (.done (.opt (vE ZT .eql 113 (.tmp 17) (.const (.slice none 0 0)) (nvl ZU a.w) .nilslice)) (.bool a.w.isEmpty)) (qbK xR)) (ac (gw k) (ac (hs (.done (.opt (vE ZT .eql 113 (.tmp 21) (.const (.slice none 0 0)) (nvl ZU b.w) .nilslice)) (.bool b.w.isEmpty)) (qbK xR)) (ac (gw o) az))))
  obtain rfl:=si c;exact tr fol [2,3] (kF [(5,.ptr 3 0),(28,.bool false)]) (ac (hs (.done (.opt (vE ZT .eql 113 (.tmp 17) (.const (.slice none 0 0)) (nvl ZU a.w) .nilslice)) (.bool a.w.isEmpty)) (qbK xR)) (ac (gw k) az))
 refine ihB h (fun t h=>?_) (fun t h=>?_)
 ·obtain⟨n,d,h⟩:=bnd h;obtain⟨e,f,h⟩:=bnd h;refine sq (gr fol [4,9] ((3,.ptr 1 0)::(4,.ptr 2 0)::(5,.ptr 3 0)::(kBS n e [])) (ac (hs (.done (.opt (vE ZT .quo 3 (.tmp 30) (.tmp 32) (.i a.s) (.i b.s))) (.i n)) (qhm d)) (ac (hs (.done (.opt (vE ZT .rem 3 (.tmp 35) (.tmp 37) (.i a.s) (.i b.s))) (.i e)) (qk8 f)) az)) ?_);refine sq ?_;refine sh fol ((3,.ptr 1 0)::(4,.ptr 2 0)::(5,.ptr 3 0)::(kBS n e [(40,.bool (decide (e<0)))])) ?_;obtain⟨p,g10,h⟩:=bnd h;refine Goes.imp (Q:=fun x s'=>(x= .normal/\ ∃g j,(g,j)=p/\Sub s' (ofG 84 (kBM (kA2 (kBS g j []))),[bZ,bZ]))) ?_ ?_
  ·refine ihD g10 (fun q g10=>?_) (fun q g10=>?_)
   ·refine gh fol ((4,.ptr 2 0)::(5,.ptr 3 0)::(kBS (w64 (n-1)) (w64 (e+b.s)) [])) ?_;obtain rfl:=si g10;exact⟨rfl,_,_,rfl,(Uc [] [some 2,some 3] rfl rfl (.kp (.kp (.keep (.same nI) (.keep (.same nI) .nil)))) (.kb rfl (.same sn) (.kb rfl (.same sn) .nil)))⟩
   refine Goes.skip ?_;obtain rfl:=si g10;exact⟨rfl,_,_,rfl,(Uc [] [some 2,some 3] rfl rfl (.drop (.kp (.kp (.keep (.same nI) (.keep (.same nI) .nil))))) (.kb rfl (.same sn) (.kb rfl (.same sn) .nil)))⟩
  rintro x s' ⟨rfl,g,j,rfl,hsub⟩
  try dsimp only at h
  refine Goes.sub hsub ?_;refine sg fol (kBM (kA2 [])) (kAD g (kAD j [])) ?_;refine Goes.ret ?_;obtain rfl:=si h;exact(gw2 [.agg [.i g,.nilslice],.agg [.i j,.nilslice]] (FzW.tuple (qm.cons (FzW.agg (qm.cons (Ua tI) (qm.cons (FzW.nv0 (E:=ZU)) qm.nil))) (qm.cons (FzW.agg (qm.cons (Ua tI) (qm.cons (FzW.nv0 (E:=ZU)) qm.nil))) qm.nil))))
 refine Goes.skip ?_;refine sq ?_;cases h
def qa0:Nat->Int->(List Int)->Int->(List Int)->Option (Int×(List Int))
 |0,_,_,_,_=>none
 |K+1,e,f,b,c=>
  (yf (⟨b,c⟩:qP)).bind fun d=>
  if(!decide (d=0))=true then
  (xY (⟨e,f⟩:qP) (⟨b,c⟩:qP)).bind fun a=>
  qa0 K b c a.2.s a.2.w
  else
  some (e,f)
def qgR (N:Nat) (a:qP) (b:qP):Option qP:=
 (qbE a).bind fun c=>
 (qbE b).bind fun d=>
 (qa0 N c.s c.w d.s d.w).bind fun(e,f)=>
 some (⟨e,f⟩:qP)
theorem qnQ (N:Nat) (a:qP) (b:qP) {res:qP} (h:qgR N a b=some res):qc ZT (.fn 141) [.agg (nz1 a),.agg (nz1 b)] [] (.agg (nz1 res)) []:=by
 unfold qgR at h;refine Ub Tryz.func141 rfl rfl (m:=23) rfl (rs:=[.cell 4 115]) rfl (l:=[(0,.agg (nz1 a)),(1,.agg (nz1 b))]) rfl ?_;refine sg fol (kF []) [.cells (nz1 a),.cells (nz1 b),bZ] ?_;obtain⟨p,q,h⟩:=bnd h;obtain⟨t,r,h⟩:=bnd h;refine sq (gq fol [1,3,4,5] (kF []) [.cells (nz1 p),.cells (nz1 t),bZ] (ac (cv (qfj a q)) (ac (cv (qfj b r)) (ac (hs (.run [0] (qC ZT 115 (.ptr 0 0) (.agg (nz1 p))) [.cells (nz1 a),.cells (nz1 b),bZ] .undef [.cells (nz1 p),.cells (nz1 b),bZ] true) (vB (n:=2) (by kernel_rfl) rfl rfl rfl rfl (cac rfl (cac nvc can)) rfl)) (ac (hs (.run [1] (qC ZT 115 (.ptr 1 0) (.agg (nz1 t))) [.cells (nz1 p),.cells (nz1 b),bZ] .undef [.cells (nz1 p),.cells (nz1 t),bZ] true) (vB (n:=2) (by kernel_rfl) rfl rfl rfl rfl (cac rfl (cac nvc can)) rfl)) az)))) ?_);refine sq (Goes.block ?_);obtain⟨w,g9,h⟩:=bnd h;refine Goes.imp (Q:=fun x s'=>(x= .exit 0/\ ∃f g,(f,g)=w/\Sub s' (ofG 23 [(2,.ptr 0 0),(4,.ptr 1 0)],[.cells (ni1 f g),bZ]))) ?_ ?_
 ·refine Ud (fun M s=> ∃(i:Int) (j:List Int) (d:Int) (e:List Int),s=(ofG 23 (kF []),[.cells (ni1 i j),.cells (ni1 d e),bZ])/\qa0 M i j d e=some w) ?_ (m:=N) ⟨_,_,_,_,rfl,g9⟩;rintro M s ⟨i,j,d,e,rfl,g9⟩
  cases M with
  |zero=>simp only[qa0]at g9;cases g9
  |succ M=>
   rw[qa0]at g9;refine sq ?_;obtain⟨u,k,g9⟩:=bnd g9;refine sq (gr fol [1] (kF (kBL (!decide (u=0)))) (ac (cv (qcJ (⟨d,e⟩:qP) k)) az) ?_);refine ihB g9 (fun v g9=>?_) (fun v g9=>?_)
   ·refine Goes.skip ?_;refine Goes.block ?_;obtain⟨c,o,g9⟩:=bnd g9;refine sq (gq fol [2,8,9] (kF [(6,.ptr 4 0)]) [.cells (ni1 i j),.cells (ni1 d e),bZ,.cells (nz1 c.1),.cells (nz1 c.2)] (ac (cv (qdO (⟨i,j⟩:qP) (⟨d,e⟩:qP) o)) (ac (hs (.run [3] (qC ZT 115 (.ptr 3 0) (.agg (nz1 c.1))) [.cells (ni1 i j),.cells (ni1 d e),bZ,bZ,bZ] .undef [.cells (ni1 i j),.cells (ni1 d e),bZ,.cells (nz1 c.1),bZ] true) (vB (n:=2) (by kernel_rfl) rfl rfl rfl rfl (cac rfl (cac nvc can)) rfl)) (ac (hs (.run [4] (qC ZT 115 (.ptr 4 0) (.agg (nz1 c.2))) [.cells (ni1 i j),.cells (ni1 d e),bZ,.cells (nz1 c.1),bZ] .undef [.cells (ni1 i j),.cells (ni1 d e),bZ,.cells (nz1 c.1),.cells (nz1 c.2)] true) (vB (n:=2) (by kernel_rfl) rfl rfl rfl rfl (cac rfl (cac nvc can)) rfl)) az))) ?_);refine gq fol [2,3] (kF []) [.cells (ni1 d e),.cells (nz1 c.2),bZ,.cells (nz1 c.1),.cells (nz1 c.2)] (ac (hs (.run [0] (qC ZT 115 (.ptr 0 0) (.agg (ni1 d e))) [.cells (ni1 i j),.cells (ni1 d e),bZ,.cells (nz1 c.1),.cells (nz1 c.2)] .undef [.cells (ni1 d e),.cells (ni1 d e),bZ,.cells (nz1 c.1),.cells (nz1 c.2)] true) (vB (n:=2) (by kernel_rfl) rfl rfl rfl rfl (cac rfl (cac nvc can)) rfl)) (ac (hs (.run [1] (qC ZT 115 (.ptr 1 0) (.agg (nz1 c.2))) [.cells (ni1 d e),.cells (ni1 d e),bZ,.cells (nz1 c.1),.cells (nz1 c.2)] .undef [.cells (ni1 d e),.cells (nz1 c.2),bZ,.cells (nz1 c.1),.cells (nz1 c.2)] true) (vB (n:=2) (by kernel_rfl) rfl rfl rfl rfl (cac rfl (cac nvc can)) rfl)) az)) ?_;exact⟨M,(ofG 23 (kF []),[.cells (ni1 d e),.cells (nz1 c.2),bZ]),Nat.lt_succ_self _,(Uc [] [some 0,some 1,some 2] rfl rfl (.kp (.kp (.kp .nil))) (.kb rfl (.same sn) (.kb rfl (.same sn) (.kb rfl (.same sn) .nil)))),_,_,_,_,rfl,g9⟩
   refine Goes.exit ?_;obtain rfl:=si g9;exact⟨rfl,_,_,rfl,(Uc [] [some 0,some 2] rfl rfl (.kp (.drop (.kp .nil))) (.kb rfl (.same sn) (.kb rfl (.same sn) .nil)))⟩
 rintro x s' ⟨rfl,f,g,rfl,hsub⟩
 try dsimp only at h
 refine Goes.sub hsub ?_;refine sq (gq fol [1] [(4,.ptr 1 0)] [.cells (ni1 f g),.cells (ni1 f g)] (ac (hs (.run [1] (qC ZT 115 (.ptr 1 0) (.agg (ni1 f g))) [.cells (ni1 f g),bZ] .undef [.cells (ni1 f g),.cells (ni1 f g)] true) (vB (n:=2) (by kernel_rfl) rfl rfl rfl rfl (cac rfl (cac nvc can)) rfl)) az) ?_);refine Goes.ret ?_;obtain rfl:=si h;exact(gw2 [.agg (ni1 f g)] (FzW.agg (qm.cons (Ua tI) (qm.cons (Ua (qD ZU _ (nl rfl))) qm.nil))))
def qbL (a:qP) (b:qP):Option qP:=
 (yf b).bind fun f=>
 ((if f<0 then
 (jR a).bind fun d=>
 (jR b).bind fun e=>
 some (d.s,d.w,e.s,e.w)
 else
 some (a.s,a.w,b.s,b.w):Option (Int×(List Int)×Int×(List Int)))).bind fun(g,h,i,j)=>
 (xY (⟨g,h⟩:qP) (⟨i,j⟩:qP)).bind fun c=>
 some c.1
theorem qfL (a:qP) (b:qP) {res:qP} (h:qbL a b=some res):qc ZT (.fn 261) [.agg (nz1 a),.agg (nz1 b)] [] (.agg (nz1 res)) []:=by
 unfold qbL at h;refine Ub Tryz.func261 rfl rfl (m:=21) rfl (rs:=[.cell 4 115]) rfl (l:=[(0,.agg (nz1 a)),(1,.agg (nz1 b))]) rfl ?_;refine sg fol (kF []) [.cells (nz1 a),.cells (nz1 b),bZ] ?_;refine sq ?_;obtain⟨r,j,h⟩:=bnd h;refine sq (gr fol [1] (kF [(9,.bool (decide (r<0)))]) (ac (cv (qcJ b j)) az) ?_);obtain⟨s,g6,h⟩:=bnd h;refine Goes.imp (Q:=fun x s'=>(x= .normal/\ ∃d e f g,(d,e,f,g)=s/\Sub s' (ofG 21 (kF []),[.cells (ni1 d e),.cells (ni1 f g),bZ]))) ?_ ?_
 ·refine ihD g6 (fun t g6=>?_) (fun t g6=>?_)
  ·obtain⟨k,o,g6⟩:=bnd g6;obtain⟨q,p,g6⟩:=bnd g6;refine gq fol [1,3,4,5] (kF []) [.cells (nz1 k),.cells (nz1 q),bZ] (ac (cv (xJ a o)) (ac (cv (xJ b p)) (ac (hs (.run [0] (qC ZT 115 (.ptr 0 0) (.agg (nz1 k))) [.cells (nz1 a),.cells (nz1 b),bZ] .undef [.cells (nz1 k),.cells (nz1 b),bZ] true) (vB (n:=2) (by kernel_rfl) rfl rfl rfl rfl (cac rfl (cac nvc can)) rfl)) (ac (hs (.run [1] (qC ZT 115 (.ptr 1 0) (.agg (nz1 q))) [.cells (nz1 k),.cells (nz1 b),bZ] .undef [.cells (nz1 k),.cells (nz1 q),bZ] true) (vB (n:=2) (by kernel_rfl) rfl rfl rfl rfl (cac rfl (cac nvc can)) rfl)) az)))) ?_;obtain rfl:=si g6;exact⟨rfl,_,_,_,_,rfl,(Sub.refl _)⟩
  refine Goes.skip ?_;obtain rfl:=si g6;exact⟨rfl,_,_,_,_,rfl,(Sub.keep [2,3,4] rfl rfl)⟩
 rintro x s' ⟨rfl,d,e,f,g,rfl,hsub⟩
 try dsimp only at h
 refine Goes.sub hsub ?_;obtain⟨c,i,h⟩:=bnd h;refine sq (gq fol [2,8,9] [(4,.ptr 2 0),(5,.ptr 3 0)] [.cells (ni1 d e),.cells (ni1 f g),bZ,.cells (nz1 c.1),.cells (nz1 c.2)] (ac (cv (qdO (⟨d,e⟩:qP) (⟨f,g⟩:qP) i)) (ac (hs (.run [3] (qC ZT 115 (.ptr 3 0) (.agg (nz1 c.1))) [.cells (ni1 d e),.cells (ni1 f g),bZ,bZ,bZ] .undef [.cells (ni1 d e),.cells (ni1 f g),bZ,.cells (nz1 c.1),bZ] true) (vB (n:=2) (by kernel_rfl) rfl rfl rfl rfl (cac rfl (cac nvc can)) rfl)) (ac (hs (.run [4] (qC ZT 115 (.ptr 4 0) (.agg (nz1 c.2))) [.cells (ni1 d e),.cells (ni1 f g),bZ,.cells (nz1 c.1),bZ] .undef [.cells (ni1 d e),.cells (ni1 f g),bZ,.cells (nz1 c.1),.cells (nz1 c.2)] true) (vB (n:=2) (by kernel_rfl) rfl rfl rfl rfl (cac rfl (cac nvc can)) rfl)) az))) ?_);refine sq (gq fol [1] kBO [.cells (ni1 d e),.cells (ni1 f g),.cells (nz1 c.1),.cells (nz1 c.1),.cells (nz1 c.2)] (ac (hs (.run [2] (qC ZT 115 (.ptr 2 0) (.agg (nz1 c.1))) [.cells (ni1 d e),.cells (ni1 f g),bZ,.cells (nz1 c.1),.cells (nz1 c.2)] .undef [.cells (ni1 d e),.cells (ni1 f g),.cells (nz1 c.1),.cells (nz1 c.1),.cells (nz1 c.2)] true) (vB (n:=2) (by kernel_rfl) rfl rfl rfl rfl (cac rfl (cac nvc can)) rfl)) az) ?_);refine Goes.ret ?_;obtain rfl:=si h;exact(gw2 [.agg (nz1 c.1)] (FzW.agg (qm.cons (Ua tI) (qm.cons (Ua (qD ZU _ (nl rfl))) qm.nil))))
def qcy (N:Nat) (num:qP) (den:qP):Option qw:=
 (yf den).bind fun k=>
 ((if k<0 then
 (jR num).bind fun i=>
 (jR den).bind fun j=>
 some (i.s,i.w,j.s,j.w)
 else
 some (num.s,num.w,den.s,den.w):Option (Int×(List Int)×Int×(List Int)))).bind fun(d,e,b,c)=>
 (if c.isEmpty=true then
 some (decide (b=1))
 else
 some false:Option Bool).bind fun f=>
 if f=true then
 some (⟨(⟨d,e⟩:qP),(⟨b,c⟩:qP)⟩:qw)
 else
 (qgR N (⟨d,e⟩:qP) (⟨b,c⟩:qP)).bind fun a=>
 (qbL (⟨d,e⟩:qP) a).bind fun g=>
 (qbL (⟨b,c⟩:qP) a).bind fun h=>
 some (⟨g,h⟩:qw)
theorem qfE (N:Nat) (num:qP) (den:qP) {res:qw} (h:qcy N num den=some res):qc ZT (.fn 200) [.agg (nz1 num),.agg (nz1 den)] [] (.agg (nq1 res)) []:=by
 unfold qcy at h;refine Ub Tryz.func200 rfl rfl (m:=34) rfl (rs:=[.cell 4 117]) rfl (l:=[(0,.agg (nz1 num)),(1,.agg (nz1 den))]) rfl ?_;refine sg fol (kF []) (.cells (nz1 num):: .cells (nz1 den)::(kI [])) ?_;refine sq ?_;obtain⟨A,q,h⟩:=bnd h;refine sq (gr fol [1] (kF (kBb (decide (A<0)))) (ac (cv (qcJ den q)) az) ?_);obtain⟨B,g6,h⟩:=bnd h;refine Goes.imp (Q:=fun x s'=>(x= .normal/\ ∃d e c a,(d,e,c,a)=B/\Sub s' (ofG 34 (kF []),(.cells (ni1 d e):: .cells (ni1 c a)::(kI []))))) ?_ ?_
 ·refine ihD g6 (fun C g6=>?_) (fun C g6=>?_)
  ·obtain⟨r,t,g6⟩:=bnd g6;obtain⟨v,u,g6⟩:=bnd g6;refine gq fol [1,3,4,5] (kF []) (.cells (nz1 r):: .cells (nz1 v)::(kI [])) (ac (cv (xJ num t)) (ac (cv (xJ den u)) (ac (hs (.run [0] (qC ZT 115 (.ptr 0 0) (.agg (nz1 r))) (.cells (nz1 num):: .cells (nz1 den)::(kI [])) .undef (.cells (nz1 r):: .cells (nz1 den)::(kI [])) true) (vB (n:=2) (by kernel_rfl) rfl rfl rfl rfl (cac rfl (cac nvc can)) rfl)) (ac (hs (.run [1] (qC ZT 115 (.ptr 1 0) (.agg (nz1 v))) (.cells (nz1 r):: .cells (nz1 den)::(kI [])) .undef (.cells (nz1 r):: .cells (nz1 v)::(kI [])) true) (vB (n:=2) (by kernel_rfl) rfl rfl rfl rfl (cac rfl (cac nvc can)) rfl)) az)))) ?_;obtain rfl:=si g6;exact⟨rfl,_,_,_,_,rfl,(Sub.refl _)⟩
  refine Goes.skip ?_;obtain rfl:=si g6;exact⟨rfl,_,_,_,_,rfl,(Sub.keep [2,3,4] rfl rfl)⟩
 rintro x s' ⟨rfl,d,e,c,a,rfl,hsub⟩
 try dsimp only at h
 refine Goes.sub hsub ?_;refine sq ?_;refine sq ?_;obtain⟨y,b,h⟩:=bnd h;refine Goes.cut (s':=(ofG 34 (kF [(20,.bool y)]),(.cells (ni1 d e):: .cells (ni1 c a)::(kI [])))) ?_ ?_
 ·rcases wyB b with⟨j,b⟩|⟨j,b⟩
  ·obtain rfl:=si b;exact tr fol [2,3] (kF [(20,.bool (decide (c=1)))]) (ac (hs (.done (.opt (vE ZT .eql 113 (.tmp 14) (.const (.slice none 0 0)) (nvl ZU a) .nilslice)) (.bool a.isEmpty)) (qbK xR)) (ac (gw j) az))
  obtain rfl:=si b;exact tr fol [2,3] (kF [(20,.bool false)]) (ac (hs (.done (.opt (vE ZT .eql 113 (.tmp 14) (.const (.slice none 0 0)) (nvl ZU a) .nilslice)) (.bool a.isEmpty)) (qbK xR)) (ac (gw j) az))
 refine ihB h (fun z h=>?_) (fun z h=>?_)
 ·refine sq (gq fol [3] kBO [.cells (ni1 d e),.cells (ni1 c a),.cells (ni2 d e c a)] (ac (hs (.run [2] (qC ZT 117 (.ptr 2 0) (.agg (ni2 d e c a))) (.cells (ni1 d e):: .cells (ni1 c a)::(kI [])) .undef [.cells (ni1 d e),.cells (ni1 c a),.cells (ni2 d e c a)] true) (vB (n:=4) (by kernel_rfl) rfl rfl rfl rfl (cac rfl (cac nvc (cac rfl (cac nvc can)))) rfl)) az) ?_);refine Goes.ret ?_;obtain rfl:=si h;exact(gw2 [.agg (ni2 d e c a)] (FzW.agg (qm.cons (Ua tI) (qm.cons (Ua (qD ZU _ (nl rfl))) (qm.cons (Ua tI) (qm.cons (Ua (qD ZU _ (nl rfl))) qm.nil))))))
 refine Goes.skip ?_;obtain⟨f,k,h⟩:=bnd h;refine sq (gq fol [2,4] (kF [(5,.ptr 3 0)]) (.cells (ni1 d e):: .cells (ni1 c a)::(kI [.cells (nz1 f)])) (ac (cv (qnQ N (⟨d,e⟩:qP) (⟨c,a⟩:qP) k)) (ac (hs (.run [3] (qC ZT 115 (.ptr 3 0) (.agg (nz1 f))) (.cells (ni1 d e):: .cells (ni1 c a)::(kI [bZ])) .undef (.cells (ni1 d e):: .cells (ni1 c a)::(kI [.cells (nz1 f)])) true) (vB (n:=2) (by kernel_rfl) rfl rfl rfl rfl (cac rfl (cac nvc can)) rfl)) az)) ?_);obtain⟨g,o,h⟩:=bnd h;obtain⟨i,p,h⟩:=bnd h;refine sq (gq fol [2,5,7] kBO [.cells (ni1 d e),.cells (ni1 c a),.cells (ni2 g.s g.w i.s i.w),.cells (nz1 f)] (ac (cv (qfL (⟨d,e⟩:qP) f o)) (ac (cv (qfL (⟨c,a⟩:qP) f p)) (ac (hs (.run [2] (qC ZT 117 (.ptr 2 0) (.agg (ni2 g.s g.w i.s i.w))) (.cells (ni1 d e):: .cells (ni1 c a)::(kI [.cells (nz1 f)])) .undef [.cells (ni1 d e),.cells (ni1 c a),.cells (ni2 g.s g.w i.s i.w),.cells (nz1 f)] true) (vB (n:=4) (by kernel_rfl) rfl rfl rfl rfl (cac rfl (cac nvc (cac rfl (cac nvc can)))) rfl)) az))) ?_);refine Goes.ret ?_;obtain rfl:=si h;exact(gw2 [.agg (ni2 g.s g.w i.s i.w)] (FzW.agg (qm.cons (Ua tI) (qm.cons (Ua (qD ZU _ (nl rfl))) (qm.cons (Ua tI) (qm.cons (Ua (qD ZU _ (nl rfl))) qm.nil))))))
def yx (a:qw):Option Bool:=
 (if a.Den.w.isEmpty=true then
 some (decide (a.Den.s=1))
 else
 some false:Option Bool).bind fun b=>
 some b
theorem qbi (a:qw) {res:Bool} (h:yx a=some res):qc ZT (.fn 201) [.agg (nq1 a)] [] (.bool res) []:=by
 unfold yx at h;refine Ub Tryz.func201 rfl rfl (m:=13) rfl (rs:=[.tmp 2]) rfl (l:=[(0,.agg (nq1 a))]) rfl ?_;refine sg fol [(1,.ptr 0 0)] [.cells (nq1 a)] ?_;refine sq ?_;obtain⟨d,b,h⟩:=bnd h;refine Goes.cut (s':=(ofG 13 [(2,.bool d)],[.cells (nq1 a)])) ?_ ?_
 ·rcases wyB b with⟨c,b⟩|⟨c,b⟩
  ·obtain rfl:=si b;exact tr fol [3,4] [(2,.bool (decide (a.Den.s=1)))] (ac (hs (.done (.opt (vE ZT .eql 113 (.tmp 5) (.const (.slice none 0 0)) (nvl ZU a.Den.w) .nilslice)) (.bool a.Den.w.isEmpty)) (qbK xR)) (ac (gw c) az))
  obtain rfl:=si b;exact tr fol [3,4] [(2,.bool false)] (ac (hs (.done (.opt (vE ZT .eql 113 (.tmp 5) (.const (.slice none 0 0)) (nvl ZU a.Den.w) .nilslice)) (.bool a.Den.w.isEmpty)) (qbK xR)) (ac (gw c) az))
 refine Goes.ret ?_;obtain rfl:=si h;exact(gw2 [.bool d] (Ua tB))
def qad (N:Nat) (a:qw) (b:qw):Option qw:=
 ((yx a).bind fun g=>
 if g=true then
 (yx b).bind fun h=>
 some h
 else
 some false:Option Bool).bind fun i=>
 if i=true then
 (qa2 a.Num b.Num).bind fun j=>
 (qc0 j).bind fun k=>
 some k
 else
 (jc a.Num b.Den).bind fun l=>
 (jc b.Num a.Den).bind fun c=>
 (qa2 l c).bind fun d=>
 (jc a.Den b.Den).bind fun e=>
 (qcy N d e).bind fun f=>
 some f
theorem qcL (N:Nat) (a:qw) (b:qw) {res:qw} (h:qad N a b=some res):qc ZT (.fn 148) [.agg (nq1 a),.agg (nq1 b)] [] (.agg (nq1 res)) []:=by
 unfold qad at h;refine Ub Tryz.func148 rfl rfl (m:=34) rfl (rs:=[.cell 4 117]) rfl (l:=[(0,.agg (nq1 a)),(1,.agg (nq1 b))]) rfl ?_;refine sg fol (kF []) (.cells (nq1 a):: .cells (nq1 b)::(kI [])) ?_;refine sq ?_;refine sq ?_;obtain⟨w,c,h⟩:=bnd h;refine Goes.cut (s':=(ofG 34 (kF (kAv w)),(.cells (nq1 a):: .cells (nq1 b)::(kI [])))) ?_ ?_
 ·obtain⟨B,e,c⟩:=bnd c;rcases wyB c with⟨s,c⟩|⟨s,c⟩
  ·obtain⟨x,k,c⟩:=bnd c;obtain rfl:=si c;exact tr fol [1,2,4] (kF (kAv x)) (ac (cv (qbi a e)) (ac (gw s) (ac (cv (qbi b k)) az)))
  obtain rfl:=si c;exact tr fol [1,2] (kF [(10,.bool false)]) (ac (cv (qbi a e)) (ac (gw s) az))
 refine ihB h (fun y h=>?_) (fun y h=>?_)
 ·obtain⟨z,o,h⟩:=bnd h;obtain⟨r,p,h⟩:=bnd h;refine sq (gq fol [4,5,6] kBO [.cells (nq1 a),.cells (nq1 b),.cells (nq1 r)] (ac (cv (qft a.Num b.Num o)) (ac (cv (qhi z p)) (ac (hs (.run [2] (qC ZT 117 (.ptr 2 0) (.agg (nq1 r))) (.cells (nq1 a):: .cells (nq1 b)::(kI [])) .undef [.cells (nq1 a),.cells (nq1 b),.cells (nq1 r)] true) (vB (n:=4) (by kernel_rfl) rfl rfl rfl rfl (cac rfl (cac nvc (cac rfl (cac nvc can)))) rfl)) az))) ?_);refine Goes.ret ?_;obtain rfl:=si h;exact(gw2 [.agg (nq1 r)] (FzW.agg (qm.cons (Ua tI) (qm.cons (Ua (qD ZU _ (nl rfl))) (qm.cons (Ua tI) (qm.cons (Ua (qD ZU _ (nl rfl))) qm.nil))))))
 refine Goes.skip ?_;obtain⟨A,q,h⟩:=bnd h;obtain⟨t,f,h⟩:=bnd h;obtain⟨u,g,h⟩:=bnd h;obtain⟨v,i,h⟩:=bnd h;obtain⟨d,j,h⟩:=bnd h;refine sq (gq fol [4,9,10,15,16,17] kBO [.cells (nq1 a),.cells (nq1 b),.cells (nq1 d)] (ac (cv (yC a.Num b.Den q)) (ac (cv (yC b.Num a.Den f)) (ac (cv (qft A t g)) (ac (cv (yC a.Den b.Den i)) (ac (cv (qfE N u v j)) (ac (hs (.run [2] (qC ZT 117 (.ptr 2 0) (.agg (nq1 d))) (.cells (nq1 a):: .cells (nq1 b)::(kI [])) .undef [.cells (nq1 a),.cells (nq1 b),.cells (nq1 d)] true) (vB (n:=4) (by kernel_rfl) rfl rfl rfl rfl (cac rfl (cac nvc (cac rfl (cac nvc can)))) rfl)) az)))))) ?_);refine Goes.ret ?_;obtain rfl:=si h;exact(gw2 [.agg (nq1 d)] (FzW.agg (qm.cons (Ua tI) (qm.cons (Ua (qD ZU _ (nl rfl))) (qm.cons (Ua tI) (qm.cons (Ua (qD ZU _ (nl rfl))) qm.nil))))))
def qb9 (a:qw):Option qw:=
 (jR a.Num).bind fun b=>
 some (⟨b,a.Den⟩:qw)
theorem qin (a:qw) {res:qw} (h:qb9 a=some res):qc ZT (.fn 260) [.agg (nq1 a)] [] (.agg (nq1 res)) []:=by
 unfold qb9 at h;refine Ub Tryz.func260 rfl rfl (m:=9) rfl (rs:=[.cell 2 117]) rfl (l:=[(0,.agg (nq1 a))]) rfl ?_;refine sg fol (kAc []) (.cells (nq1 a)::(kI [])) ?_;obtain⟨b,c,h⟩:=bnd h;refine sq (gq fol [2,6] kBd [.cells (nq1 a),.cells (ni2 b.s b.w a.Den.s a.Den.w)] (ac (cv (xJ a.Num c)) (ac (hs (.run [1] (qC ZT 117 (.ptr 1 0) (.agg (ni2 b.s b.w a.Den.s a.Den.w))) (.cells (nq1 a)::(kI [])) .undef [.cells (nq1 a),.cells (ni2 b.s b.w a.Den.s a.Den.w)] true) (vB (n:=4) (by kernel_rfl) rfl rfl rfl rfl (cac rfl (cac nvc (cac rfl (cac nvc can)))) rfl)) az)) ?_);refine Goes.ret ?_;obtain rfl:=si h;exact(gw2 [.agg (ni2 b.s b.w a.Den.s a.Den.w)] (FzW.agg (qm.cons (Ua tI) (qm.cons (Ua (qD ZU _ (nl rfl))) (qm.cons (Ua tI) (qm.cons (Ua (qD ZU _ (nl rfl))) qm.nil))))))
def qbb (N:Nat) (a:qw) (b:qw):Option qw:=
 (qb9 b).bind fun c=>
 (qad N a c).bind fun d=>
 some d
theorem qe9 (N:Nat) (a:qw) (b:qw) {res:qw} (h:qbb N a b=some res):qc ZT (.fn 198) [.agg (nq1 a),.agg (nq1 b)] [] (.agg (nq1 res)) []:=by
 unfold qbb at h;refine Ub Tryz.func198 rfl rfl (m:=9) rfl (rs:=[.cell 4 117]) rfl (l:=[(0,.agg (nq1 a)),(1,.agg (nq1 b))]) rfl ?_;refine sg fol (kF []) (.cells (nq1 a):: .cells (nq1 b)::(kI [])) ?_;obtain⟨f,c,h⟩:=bnd h;obtain⟨e,d,h⟩:=bnd h;refine sq (gq fol [2,3,4] kBO [.cells (nq1 a),.cells (nq1 b),.cells (nq1 e)] (ac (cv (qin b c)) (ac (cv (qcL N a f d)) (ac (hs (.run [2] (qC ZT 117 (.ptr 2 0) (.agg (nq1 e))) (.cells (nq1 a):: .cells (nq1 b)::(kI [])) .undef [.cells (nq1 a),.cells (nq1 b),.cells (nq1 e)] true) (vB (n:=4) (by kernel_rfl) rfl rfl rfl rfl (cac rfl (cac nvc (cac rfl (cac nvc can)))) rfl)) az))) ?_);refine Goes.ret ?_;obtain rfl:=si h;exact(gw2 [.agg (nq1 e)] (FzW.agg (qm.cons (Ua tI) (qm.cons (Ua (qD ZU _ (nl rfl))) (qm.cons (Ua tI) (qm.cons (Ua (qD ZU _ (nl rfl))) qm.nil))))))
def qa9 (N:Nat) (a:qw):Option qw:=
 (qcy N a.Den a.Num).bind fun b=>
 some b
theorem qe8 (N:Nat) (a:qw) {res:qw} (h:qa9 N a=some res):qc ZT (.fn 199) [.agg (nq1 a)] [] (.agg (nq1 res)) []:=by
 unfold qa9 at h;refine Ub Tryz.func199 rfl rfl (m:=8) rfl (rs:=[.cell 2 117]) rfl (l:=[(0,.agg (nq1 a))]) rfl ?_;refine sg fol (kAc []) (.cells (nq1 a)::(kI [])) ?_;obtain⟨c,b,h⟩:=bnd h;refine sq (gq fol [4,5] kBd [.cells (nq1 a),.cells (nq1 c)] (ac (cv (qfE N a.Den a.Num b)) (ac (hs (.run [1] (qC ZT 117 (.ptr 1 0) (.agg (nq1 c))) (.cells (nq1 a)::(kI [])) .undef [.cells (nq1 a),.cells (nq1 c)] true) (vB (n:=4) (by kernel_rfl) rfl rfl rfl rfl (cac rfl (cac nvc (cac rfl (cac nvc can)))) rfl)) az)) ?_);refine Goes.ret ?_;obtain rfl:=si h;exact(gw2 [.agg (nq1 c)] (FzW.agg (qm.cons (Ua tI) (qm.cons (Ua (qD ZU _ (nl rfl))) (qm.cons (Ua tI) (qm.cons (Ua (qD ZU _ (nl rfl))) qm.nil))))))
def qcx (N:Nat) (letter:Int) (t:qw):Option ((qw×qw)×(qw×qw)):=
 (qg7 1).bind fun a=>
 (qg7 0).bind fun b=>
 if letter>0 then
 (qbb N a t).bind fun c=>
 some ((c,t),(a,b))
 else
 (qa9 N t).bind fun d=>
 (qa9 N t).bind fun e=>
 (qbb N a e).bind fun f=>
 some ((b,a),(d,f))
theorem qi7 (N:Nat) (letter:Int) (t:qw) {res:((qw×qw)×(qw×qw))} (h:qcx N letter t=some res):qc ZT (.fn 146) [.i letter,.agg (nq1 t)] [] (.agg (nb4 res)) []:=by
 unfold qcx at h;refine Ub Tryz.func146 rfl rfl (m:=31) rfl (rs:=[.cell 4 172]) rfl (l:=[(0,.i letter),(1,.agg (nq1 t))]) rfl ?_;refine sg fol ((0,.i letter)::(kBY [])) (.cells (nq1 t)::(kL [])) ?_;obtain⟨a,c,h⟩:=bnd h;obtain⟨b,d,h⟩:=bnd h;refine sq (gq fol [0,1,4,5] ((0,.i letter)::(kBY [(5,.ptr 2 0),(6,.ptr 3 0)])) (.cells (nq1 t)::(kL [.cells (nq1 a),.cells (nq1 b)])) (ac (cv (qen 1 c)) (ac (cv (qen 0 d)) (ac (hs (.run [2] (qC ZT 117 (.ptr 2 0) (.agg (nq1 a))) (.cells (nq1 t)::(kL (kI (kI [])))) .undef (.cells (nq1 t)::(kL (.cells (nq1 a)::(kI [])))) true) (vB (n:=4) (by kernel_rfl) rfl rfl rfl rfl (cac rfl (cac nvc (cac rfl (cac nvc can)))) rfl)) (ac (hs (.run [3] (qC ZT 117 (.ptr 3 0) (.agg (nq1 b))) (.cells (nq1 t)::(kL (.cells (nq1 a)::(kI [])))) .undef (.cells (nq1 t)::(kL [.cells (nq1 a),.cells (nq1 b)])) true) (vB (n:=4) (by kernel_rfl) rfl rfl rfl rfl (cac rfl (cac nvc (cac rfl (cac nvc can)))) rfl)) az)))) ?_);refine sq ?_;refine sh fol (kBY ((5,.ptr 2 0)::(6,.ptr 3 0)::(kAv (decide (letter>0))))) ?_;refine ihD h (fun q h=>?_) (fun q h=>?_)
 ·obtain⟨k,e,h⟩:=bnd h;refine sq (gq fol [2,9] [(4,.ptr 1 0)] [.cells (nq1 t),.cells (nq4 k t a b),.cells (nq1 a),.cells (nq1 b)] (ac (cv (qe9 N a t e)) (ac (hs (.run [1] (qC ZT 172 (.ptr 1 0) (.agg (nq4 k t a b))) (.cells (nq1 t)::(kL [.cells (nq1 a),.cells (nq1 b)])) .undef [.cells (nq1 t),.cells (nq4 k t a b),.cells (nq1 a),.cells (nq1 b)] true) (vB (n:=16) (by kernel_rfl) rfl rfl rfl rfl (cac rfl (cac nvc (cac rfl (cac nvc (cac rfl (cac nvc (cac rfl (cac nvc (cac rfl (cac nvc (cac rfl (cac nvc (cac rfl (cac nvc (cac rfl (cac nvc can)))))))))))))))) rfl)) az)) ?_);refine Goes.ret ?_;obtain rfl:=si h;exact(gw2 [.agg (nq4 k t a b)] (FzW.agg (qm.cons (Ua tI) (qm.cons (Ua (qD ZU _ (nl rfl))) (qm.cons (Ua tI) (qm.cons (Ua (qD ZU _ (nl rfl))) (qm.cons (Ua tI) (qm.cons (Ua (qD ZU _ (nl rfl))) (qm.cons (Ua tI) (qm.cons (Ua (qD ZU _ (nl rfl))) (qm.cons (Ua tI) (qm.cons (Ua (qD ZU _ (nl rfl))) (qm.cons (Ua tI) (qm.cons (Ua (qD ZU _ (nl rfl))) (qm.cons (Ua tI) (qm.cons (Ua (qD ZU _ (nl rfl))) (qm.cons (Ua tI) (qm.cons (Ua (qD ZU _ (nl rfl))) qm.nil))))))))))))))))))
 refine Goes.skip ?_;obtain⟨o,f,h⟩:=bnd h;obtain⟨r,g,h⟩:=bnd h;obtain⟨p,j,h⟩:=bnd h;refine sq (gq fol [4,7,8,11] [(4,.ptr 1 0)] [.cells (nq1 t),.cells (nq4 b a o p),.cells (nq1 a),.cells (nq1 b)] (ac (cv (qe8 N t f)) (ac (cv (qe8 N t g)) (ac (cv (qe9 N a r j)) (ac (hs (.run [1] (qC ZT 172 (.ptr 1 0) (.agg (nq4 b a o p))) (.cells (nq1 t)::(kL [.cells (nq1 a),.cells (nq1 b)])) .undef [.cells (nq1 t),.cells (nq4 b a o p),.cells (nq1 a),.cells (nq1 b)] true) (vB (n:=16) (by kernel_rfl) rfl rfl rfl rfl (cac rfl (cac nvc (cac rfl (cac nvc (cac rfl (cac nvc (cac rfl (cac nvc (cac rfl (cac nvc (cac rfl (cac nvc (cac rfl (cac nvc (cac rfl (cac nvc can)))))))))))))))) rfl)) az)))) ?_);refine Goes.ret ?_;obtain rfl:=si h;exact(gw2 [.agg (nq4 b a o p)] (FzW.agg (qm.cons (Ua tI) (qm.cons (Ua (qD ZU _ (nl rfl))) (qm.cons (Ua tI) (qm.cons (Ua (qD ZU _ (nl rfl))) (qm.cons (Ua tI) (qm.cons (Ua (qD ZU _ (nl rfl))) (qm.cons (Ua tI) (qm.cons (Ua (qD ZU _ (nl rfl))) (qm.cons (Ua tI) (qm.cons (Ua (qD ZU _ (nl rfl))) (qm.cons (Ua tI) (qm.cons (Ua (qD ZU _ (nl rfl))) (qm.cons (Ua tI) (qm.cons (Ua (qD ZU _ (nl rfl))) (qm.cons (Ua tI) (qm.cons (Ua (qD ZU _ (nl rfl))) qm.nil))))))))))))))))))
def xc (N:Nat) (a:qw) (b:qw):Option qw:=
 (jc a.Num b.Num).bind fun c=>
 (jc a.Den b.Den).bind fun d=>
 (qcy N c d).bind fun e=>
 some e
theorem qbv (N:Nat) (a:qw) (b:qw) {res:qw} (h:xc N a b=some res):qc ZT (.fn 147) [.agg (nq1 a),.agg (nq1 b)] [] (.agg (nq1 res)) []:=by
 unfold xc at h;refine Ub Tryz.func147 rfl rfl (m:=16) rfl (rs:=[.cell 4 117]) rfl (l:=[(0,.agg (nq1 a)),(1,.agg (nq1 b))]) rfl ?_;refine sg fol (kF []) (.cells (nq1 a):: .cells (nq1 b)::(kI [])) ?_;obtain⟨g,c,h⟩:=bnd h;obtain⟨i,d,h⟩:=bnd h;obtain⟨f,e,h⟩:=bnd h;refine sq (gq fol [4,9,10,11] kBO [.cells (nq1 a),.cells (nq1 b),.cells (nq1 f)] (ac (cv (yC a.Num b.Num c)) (ac (cv (yC a.Den b.Den d)) (ac (cv (qfE N g i e)) (ac (hs (.run [2] (qC ZT 117 (.ptr 2 0) (.agg (nq1 f))) (.cells (nq1 a):: .cells (nq1 b)::(kI [])) .undef [.cells (nq1 a),.cells (nq1 b),.cells (nq1 f)] true) (vB (n:=4) (by kernel_rfl) rfl rfl rfl rfl (cac rfl (cac nvc (cac rfl (cac nvc can)))) rfl)) az)))) ?_);refine Goes.ret ?_;obtain rfl:=si h;exact(gw2 [.agg (nq1 f)] (FzW.agg (qm.cons (Ua tI) (qm.cons (Ua (qD ZU _ (nl rfl))) (qm.cons (Ua tI) (qm.cons (Ua (qD ZU _ (nl rfl))) qm.nil))))))
end Go.Av
