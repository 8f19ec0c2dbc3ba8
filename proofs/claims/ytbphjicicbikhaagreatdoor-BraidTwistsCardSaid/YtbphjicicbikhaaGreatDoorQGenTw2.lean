/-
  Walks of functions: what each computes, as a plain function.
-/
import Derived.Test.YtbphjicicbikhaaGreatDoorQGenTw1
noncomputable section
namespace Go.Av
open Go.Proofs Go.RowKit
set_option linter.unusedSectionVars false
set_option linter.unusedVariables false
set_option linter.unusedSimpArgs false
set_option maxRecDepth 100000
def qb2 (a:List Int) (e:Int) (b:Int) (c:Int):Option (List Int):=
 (idx a b).bind fun f=>
 (put a b (w64 (f+1))).bind fun d=>
 (idx d c).bind fun g=>
 (put d c (w64 (g-1))).bind fun h=>
 some h
theorem qgD (c:List Int) (k:Int) (a:Int) (b:Int) {o:List Int} (h:qb2 c k a b=some o):qd ZT (.rd 0) [.i k,.agg [.i a,.i b]] (.loop .ready none (ofG 30 [(5,.ptr 1 0)]) qb.xp qb.x1 qb.x2::(kB c (kA c []))) (.bool true) (.loop .ready none (ofG 30 [(5,.ptr 1 0)]) qb.xp qb.x1 qb.x2::(kB o (kA o []))):=by
 unfold qb2 at h
 refine Goes.round (m:=30) (l0:=(kAH [])) (l:=(kAH [(13,.i k),(14,.agg [.i a,.i b])])) rfl rfl rfl ?_
 intro B hB
 refine Ut ?_
 refine Goes.rg fol (kAH [(7,.ptr 3 0)]) (.loop .ready none (ofG 30 [(5,.ptr 1 0)]) qb.xp qb.x1 qb.x2::(kB c (kA c (kO a b [])))) ?_
 refine⟨_,Sub.refl _,?_⟩
 refine⟨_,_,_,_,_,rfl,?_⟩
 refine Ut ?_
 refine Goes.block ?_
 obtain⟨x2,e,h⟩:=bnd h
 obtain⟨d,g,h⟩:=bnd h
 refine sq (gq fol [3,4,6,7] (kAH [(7,.ptr 3 0)]) (.loop .busy none (ofG 30 [(5,.ptr 1 0)]) qb.xp qb.x1 qb.x2::(kB c (kA d (kO a b [])))) (ac (hs (.done (.opt (qf ZT 22 (.slice 2 0 c.length c.length 1) (.i a))) (.ptr 2 ((a:Int).toNat*1+0))) (qaJ xx e)) (ac (hs (.run [2] (vF ZT 3 (.ptr 2 ((a:Int).toNat*1+0))) (.loop .busy none (ofG 30 [(5,.ptr 1 0)]) qb.xp qb.x1 qb.x2::(kB c (kA c (kO a b [])))) (.i x2) (.loop .busy none (ofG 30 [(5,.ptr 1 0)]) qb.xp qb.x1 qb.x2::(kB c (kA c (kO a b [])))) false) (qcU ce3 (E:=encI) (l:=c) rfl rfl e (nl rfl) rfl)) (ac (hs (.done (.opt (qf ZT 22 (.slice 2 0 c.length c.length 1) (.i a))) (.ptr 2 ((a:Int).toNat*1+0))) (qaJ xx e)) (ac (hs (.run [2] (xu ZT 3 (.ptr 2 ((a:Int).toNat*1+0)) (.i (w64 (x2+1)))) (.loop .busy none (ofG 30 [(5,.ptr 1 0)]) qb.xp qb.x1 qb.x2::(kB c (kA c (kO a b [])))) .undef (.loop .busy none (ofG 30 [(5,.ptr 1 0)]) qb.xp qb.x1 qb.x2::(kB c (kA d (kO a b [])))) true) (qb6 (E:=encI) (l:=c) (y:=w64 (x2+1)) rfl (show _=some 1 by kernel_rfl) rfl e rfl rfl rfl rfl rfl g rfl)) az)))) ?_)
 refine Goes.sub (show Sub (ofG 30 (kAH [(7,.ptr 3 0)]),(.loop .busy none (ofG 30 [(5,.ptr 1 0)]) qb.xp qb.x1 qb.x2::(kB c (kA d (kO a b []))))) (ofG 30 (kAH [(7,.ptr 3 0)]),(.loop .busy none (ofG 30 [(5,.ptr 1 0)]) qb.xp qb.x1 qb.x2::(kB d (kA d (kO a b [])))))from(Sub.norm [] [some 0,some 1,some 2,some 3] (by rw[hB];rfl) rfl (.kp (.kp .nil)) (.kb rfl (.loop rfl (.kp .nil)) (.kb rfl (.cells (rc (.sliceE rfl (qal g)) rn)) (.ks (.kb rfl (.same sn) .nil)))))) ?_
 obtain⟨p,f,h⟩:=bnd h
 obtain⟨n,j,h⟩:=bnd h
 refine gq fol [3,4,6,7] [] (.loop .busy none (ofG 30 [(5,.ptr 1 0)]) qb.xp qb.x1 qb.x2::(kB d (kA n (kO a b [])))) (ac (hs (.done (.opt (qf ZT 22 (.slice 2 0 d.length d.length 1) (.i b))) (.ptr 2 ((b:Int).toNat*1+0))) (qaJ xx f)) (ac (hs (.run [2] (vF ZT 3 (.ptr 2 ((b:Int).toNat*1+0))) (.loop .busy none (ofG 30 [(5,.ptr 1 0)]) qb.xp qb.x1 qb.x2::(kB d (kA d (kO a b [])))) (.i p) (.loop .busy none (ofG 30 [(5,.ptr 1 0)]) qb.xp qb.x1 qb.x2::(kB d (kA d (kO a b [])))) false) (qcU ce3 (E:=encI) (l:=d) rfl rfl f (nl rfl) rfl)) (ac (hs (.done (.opt (qf ZT 22 (.slice 2 0 d.length d.length 1) (.i b))) (.ptr 2 ((b:Int).toNat*1+0))) (qaJ xx f)) (ac (hs (.run [2] (xu ZT 3 (.ptr 2 ((b:Int).toNat*1+0)) (.i (w64 (p-1)))) (.loop .busy none (ofG 30 [(5,.ptr 1 0)]) qb.xp qb.x1 qb.x2::(kB d (kA d (kO a b [])))) .undef (.loop .busy none (ofG 30 [(5,.ptr 1 0)]) qb.xp qb.x1 qb.x2::(kB d (kA n (kO a b [])))) true) (qb6 (E:=encI) (l:=d) (y:=w64 (p-1)) rfl (show _=some 1 by kernel_rfl) rfl f rfl rfl rfl rfl rfl j rfl)) az)))) ?_
 obtain rfl:=si h
 exact⟨_,(show Sub (ofG 30 [],(.loop .busy none (ofG 30 [(5,.ptr 1 0)]) qb.xp qb.x1 qb.x2::(kB d (kA n (kO a b []))))) (ofG 30 [],(.loop .busy none (ofG 30 [(5,.ptr 1 0)]) qb.xp qb.x1 qb.x2::(kB n (kA n []))))from(Sub.norm [] [some 0,some 1,some 2] (by rw[hB];rfl) rfl .nil (.kb rfl (.loop rfl (.kp .nil)) (.kb rfl (.cells (rc (.sliceE rfl (qal j)) rn)) (.ks .nil))))),⟨_,_,rfl,(qch.refl _ _)⟩⟩
def qQ (b:List Int):Nat->(List Int)->(List Int)->Int->Option (List Int)
 |0,_,_,_=>none
 |K+1,k,g,h=>
  if h<(b.length:Int)then
  (idx b h).bind fun c=>
  (qby c).bind fun a=>
  (idx g (w64 (a-1))).bind fun d=>
  (idx g (w64 ((w64 (a-1))+1))).bind fun e=>
  (qb2 k c d e).bind fun i=>
  (put g (w64 (a-1)) e).bind fun f=>
  (idx f (w64 ((w64 (a-1))+1))).bind fun l=>
  (put f (w64 ((w64 (a-1))+1)) d).bind fun j=>
  qQ b K i j (w64 (h+1))
  else
  some k
def xY (N:Nat) (a:List Int) (b:Int) (c:List Int):Option (List Int):=
 (zK N b).bind fun d=>
 (qQ c N a d 0).bind fun e=>
 some e
theorem qde (N:Nat) (n:List Int) (d:Int) (a:List Int) {J:List Int} (h:xY N n d a=some J):qd ZT (.fn 204) [.yld 0,.ptr 3 0,.ptr 4 0] (.loop .ready none (ofG 30 [(5,.ptr 1 0)]) qb.xp qb.x1 qb.x2::(kB n (kA n (kD d a [])))) (.tuple []) (.loop .ready none (ofG 30 [(5,.ptr 1 0)]) qb.xp qb.x1 qb.x2::(kB J (kA J (kD d a [])))):=by
 unfold xY at h
 refine Uq Tryz.func204 rfl rfl (m:=50) rfl (rs:=[]) rfl (l:=[(0,.yld 0),(1,.ptr 3 0),(2,.ptr 4 0)]) rfl ?_
 intro B hB
 refine Ut ?_
 obtain⟨G,H,h⟩:=bnd h
 refine sq (gq fol [1] ((0,.yld 0)::(2,.ptr 4 0)::(kX G [])) (.loop .ready none (ofG 30 [(5,.ptr 1 0)]) qb.xp qb.x1 qb.x2::(kB n (kA n (kD d a (kA G []))))) (ac (hs (.callH 138 [.i d] (.loop .ready none (ofG 30 [(5,.ptr 1 0)]) qb.xp qb.x1 qb.x2::(kB n (kA n (kD d a [])))) [] (.slice 5 0 G.length G.length 1) (.loop .ready none (ofG 30 [(5,.ptr 1 0)]) qb.xp qb.x1 qb.x2::(kB n (kA n (kD d a (kA G [])))))) (qaY [] [none,none,none,none,none,some 0] (yQ N d H) .nil rfl rfl (.old rfl rfl (.old rfl rfl (.old rfl rfl (.old rfl rfl (.old rfl rfl (.new rfl rfl (.same fa) rfl .nil)))))) (rc (.same nI) rn) (.slice rfl) rfl)) az) ?_)
 refine sh fol ((0,.yld 0)::(kX G [(10,vl encI a),(11,.i (a.length:Int)),(12,.i 0)])) ?_
 refine Goes.block ?_
 obtain⟨K,g8,h⟩:=bnd h
 refine Goes.imp (Q:=fun x s'=>(x= .exit 0/\ ∃I,I=K/\Sub s' (ofG 50 [],(.loop .ready none (ofG 30 [(5,.ptr 1 0)]) qb.xp qb.x1 qb.x2::(kB I (kA I (kD d a []))))))) ?_ ?_
 ·refine Ue (fun M s=> ∃(p:List Int) (g:List Int) (q:Int),s=(ofG 50 ((0,.yld 0)::(kF g a (a.length:Int) q [])),(.loop .ready none (ofG 30 [(5,.ptr 1 0)]) qb.xp qb.x1 qb.x2::(kB p (kA p (kD d a (kA g []))))))/\qQ a M p g q=some K) ?_ (m:=N) ⟨_,_,_,rfl,g8⟩
  rintro M s ⟨p,g,q,rfl,g8⟩
  cases M with
  |zero=>simp only[qQ]at g8;cases g8
  |succ M=>
   rw[qQ]at g8
   refine sh fol ((0,.yld 0)::(kF g a (a.length:Int) q [(13,.bool (decide (q<(a.length:Int))))])) ?_
   refine sq ?_
   refine ihD g8 (fun L g8=>?_) (fun L g8=>?_)
   ·refine Goes.skip ?_
    refine sq (Goes.block ?_)
    obtain⟨u,v,g8⟩:=bnd g8
    refine sq (gr fol [0,1] ((0,.yld 0)::(kX g ((6,.i u)::(kN a (a.length:Int) q [])))) (ac (iv xx encI v) (ac (lv 0 ce3 encI v rfl) az)) ?_)
    obtain⟨f,A,g8⟩:=bnd g8
    refine sq (gr fol [1] ((0,.yld 0)::(kX g ((6,.i u)::(7,.i (w64 (f-1)))::(kN a (a.length:Int) q [])))) (ac (cv (qcm u A)) az) ?_)
    refine sq ?_
    obtain⟨r,j,g8⟩:=bnd g8
    obtain⟨t,k,g8⟩:=bnd g8
    obtain⟨e,C,g8⟩:=bnd g8
    refine sq (gq fol [4,5,9,10,12] ((0,.yld 0)::(kX g ((7,.i (w64 (f-1)))::(kN a (a.length:Int) q [(32,.bool false)])))) (.loop .ready none (ofG 30 [(5,.ptr 1 0)]) qb.xp qb.x1 qb.x2::(kB e (kA e (kD d a (kA g []))))) (ac (hs (.done (.opt (qf ZT 22 (.slice 5 0 g.length g.length 1) (.i (w64 (f-1))))) (.ptr 5 ((w64 (f-1):Int).toNat*1+0))) (qaJ xx j)) (ac (hs (.run [5] (vF ZT 3 (.ptr 5 ((w64 (f-1):Int).toNat*1+0))) (.loop .ready none (ofG 30 [(5,.ptr 1 0)]) qb.xp qb.x1 qb.x2::(kB p (kA p (kD d a (kA g []))))) (.i r) (.loop .ready none (ofG 30 [(5,.ptr 1 0)]) qb.xp qb.x1 qb.x2::(kB p (kA p (kD d a (kA g []))))) false) (qcU ce3 (E:=encI) (l:=g) rfl rfl j (nl rfl) rfl)) (ac (hs (.done (.opt (qf ZT 22 (.slice 5 0 g.length g.length 1) (.i (w64 ((w64 (f-1))+1))))) (.ptr 5 ((w64 ((w64 (f-1))+1):Int).toNat*1+0))) (qaJ xx k)) (ac (hs (.run [5] (vF ZT 3 (.ptr 5 ((w64 ((w64 (f-1))+1):Int).toNat*1+0))) (.loop .ready none (ofG 30 [(5,.ptr 1 0)]) qb.xp qb.x1 qb.x2::(kB p (kA p (kD d a (kA g []))))) (.i t) (.loop .ready none (ofG 30 [(5,.ptr 1 0)]) qb.xp qb.x1 qb.x2::(kB p (kA p (kD d a (kA g []))))) false) (qcU ce3 (E:=encI) (l:=g) rfl rfl k (nl rfl) rfl)) (ac (hs (.callH (.rd 0) [.i u,.agg [.i r,.i t]] (.loop .ready none (ofG 30 [(5,.ptr 1 0)]) qb.xp qb.x1 qb.x2::(kB p (kA p (kD d a (kA g []))))) [0,1,2] (.bool true) (.loop .ready none (ofG 30 [(5,.ptr 1 0)]) qb.xp qb.x1 qb.x2::(kB e (kA e (kD d a (kA g [])))))) (qpr [some 0,some 1,some 2] [some 0,some 1,some 2,none,none,none] (qgD p u r t C) rfl (.kb rfl (.loop rfl (.kp .nil)) (.kb rfl (.cells (rc (.slice rfl) rn)) (.ks .nil))) rfl rfl (.back rfl rfl (.loop rfl (.kp .nil)) rfl (.back rfl rfl (.cells (rc (.slice rfl) rn)) rfl (.back rfl rfl (.same fa) rfl (.old rfl rfl (.old rfl rfl (.old rfl rfl .nil)))))) (rc (.same nI) (rc (.same (qj.agg sn)) rn)) (.same nB) rfl)) az))))) ?_)
    refine Goes.ifB (b:=false) (by kernel_rfl) (fun c=>(by cases c)) (fun _=>?_)
    refine Goes.skip ?_
    obtain⟨D,w,g8⟩:=bnd g8
    obtain⟨O,F,g8⟩:=bnd g8
    obtain⟨o,z,g8⟩:=bnd g8
    refine gq fol [8,9,12,13,14,15,16,17] ((0,.yld 0)::(kF g a (a.length:Int) q [])) (.loop .ready none (ofG 30 [(5,.ptr 1 0)]) qb.xp qb.x1 qb.x2::(kB e (kA e (kD d a (kA o []))))) (ac (hs (.done (.opt (qf ZT 22 (.slice 5 0 g.length g.length 1) (.i (w64 ((w64 (f-1))+1))))) (.ptr 5 ((w64 ((w64 (f-1))+1):Int).toNat*1+0))) (qaJ xx k)) (ac (hs (.run [5] (vF ZT 3 (.ptr 5 ((w64 ((w64 (f-1))+1):Int).toNat*1+0))) (.loop .ready none (ofG 30 [(5,.ptr 1 0)]) qb.xp qb.x1 qb.x2::(kB e (kA e (kD d a (kA g []))))) (.i t) (.loop .ready none (ofG 30 [(5,.ptr 1 0)]) qb.xp qb.x1 qb.x2::(kB e (kA e (kD d a (kA g []))))) false) (qcU ce3 (E:=encI) (l:=g) rfl rfl k (nl rfl) rfl)) (ac (hs (.done (.opt (qf ZT 22 (.slice 5 0 g.length g.length 1) (.i (w64 (f-1))))) (.ptr 5 ((w64 (f-1):Int).toNat*1+0))) (qaJ xx j)) (ac (hs (.run [5] (vF ZT 3 (.ptr 5 ((w64 (f-1):Int).toNat*1+0))) (.loop .ready none (ofG 30 [(5,.ptr 1 0)]) qb.xp qb.x1 qb.x2::(kB e (kA e (kD d a (kA g []))))) (.i r) (.loop .ready none (ofG 30 [(5,.ptr 1 0)]) qb.xp qb.x1 qb.x2::(kB e (kA e (kD d a (kA g []))))) false) (qcU ce3 (E:=encI) (l:=g) rfl rfl j (nl rfl) rfl)) (ac (hs (.done (.opt (qf ZT 22 (.slice 5 0 g.length g.length 1) (.i (w64 (f-1))))) (.ptr 5 ((w64 (f-1):Int).toNat*1+0))) (qaJ xx j)) (ac (hs (.run [5] (xu ZT 3 (.ptr 5 ((w64 (f-1):Int).toNat*1+0)) (.i t)) (.loop .ready none (ofG 30 [(5,.ptr 1 0)]) qb.xp qb.x1 qb.x2::(kB e (kA e (kD d a (kA g []))))) .undef (.loop .ready none (ofG 30 [(5,.ptr 1 0)]) qb.xp qb.x1 qb.x2::(kB e (kA e (kD d a (kA D []))))) true) (qb6 (E:=encI) (l:=g) (y:=t) rfl (show _=some 1 by kernel_rfl) rfl j rfl rfl rfl rfl rfl w rfl)) (ac (hs (.done (.opt (qf ZT 22 (.slice 5 0 g.length g.length 1) (.i (w64 ((w64 (f-1))+1))))) (.ptr 5 ((w64 ((w64 (f-1))+1):Int).toNat*1+0))) (qaJ xx k)) (ac (hs (.run [5] (xu ZT 3 (.ptr 5 ((w64 ((w64 (f-1))+1):Int).toNat*1+0)) (.i r)) (.loop .ready none (ofG 30 [(5,.ptr 1 0)]) qb.xp qb.x1 qb.x2::(kB e (kA e (kD d a (kA D []))))) .undef (.loop .ready none (ofG 30 [(5,.ptr 1 0)]) qb.xp qb.x1 qb.x2::(kB e (kA e (kD d a (kA o []))))) true) (qb6 (E:=encI) (l:=D) (y:=r) rfl (show _=some 1 by kernel_rfl) rfl F rfl rfl rfl rfl rfl z rfl)) az)))))))) ?_
    refine Goes.sub (show Sub (ofG 50 ((0,.yld 0)::(kF g a (a.length:Int) q [])),(.loop .ready none (ofG 30 [(5,.ptr 1 0)]) qb.xp qb.x1 qb.x2::(kB e (kA e (kD d a (kA o [])))))) (ofG 50 ((0,.yld 0)::(kF o a (a.length:Int) q [])),(.loop .ready none (ofG 30 [(5,.ptr 1 0)]) qb.xp qb.x1 qb.x2::(kB e (kA e (kD d a (kA o []))))))from(Sub.norm [] [some 0,some 1,some 2,some 3,some 4,some 5] (by rw[hB];rfl) rfl (.keep (.yld rfl) (.keep (.sliceE rfl ((qal w).trans (qal z))) (.keep (.same (qD encI _)) (.keep (.same nI) (.keep (.same nI) .nil))))) (.kb rfl (.loop rfl (.kp .nil)) (.kb rfl (.cells (rc (.slice rfl) rn)) (.ks (.kb rfl (.same sn) (.kb rfl (.same sn) (.ks .nil)))))))) ?_
    refine gh fol ((0,.yld 0)::(kF o a (a.length:Int) (w64 (q+1)) [])) ?_
    exact⟨M,(ofG 50 ((0,.yld 0)::(kF o a (a.length:Int) (w64 (q+1)) [])),(.loop .ready none (ofG 30 [(5,.ptr 1 0)]) qb.xp qb.x1 qb.x2::(kB e (kA e (kD d a (kA o [])))))),Nat.lt_succ_self _,(Sub.refl _),_,_,_,rfl,g8⟩
   refine Goes.exit ?_
   obtain rfl:=si g8
   exact⟨rfl,_,rfl,(Sub.norm [] [some 0,some 1,some 2,some 3,some 4] (by rw[hB];rfl) rfl .nil (.kb rfl (.loop rfl (.kp .nil)) (.kb rfl (.cells (rc (.slice rfl) rn)) (.ks (.kb rfl (.same sn) (.kb rfl (.same sn) .nil))))))⟩
 rintro x s' ⟨rfl,I,rfl,hsub⟩
 obtain rfl:=si h
 exact⟨_,hsub,(gh2 [] (qch.refl _ _))⟩
def qcx (N:Nat) (n:Int) (w:List Int):Option (List Int):=
 (zK N n).bind fun a=>
 (xR n w).bind fun _=>
 (xY N a n w).bind fun b=>
 some b
theorem qiT (N:Nat) (n:Int) (w:List Int) {res:List Int} (h:qcx N n w=some res):qd ZT (.fn 66) (kAY n w) [] (vl encI res) []:=by
 unfold qcx at h
 refine Uc Tryz.func66 rfl rfl (m:=30) rfl (rs:=[.tmp 4]) rfl (l:=(kC n w [])) rfl ?_
 refine sh fol (kC n w []) ?_
 obtain⟨a,c,h⟩:=bnd h
 refine sq (gq fol [1] (kC n w (kAH [])) (kA a (kP a [])) (ac (hs (.callH 138 [.i n] [] [] (.slice 0 0 a.length a.length 1) (kA a [])) (qaY [] [some 0] (yQ N n c) .nil rfl rfl (.new rfl rfl (.same fa) rfl .nil) (rc (.same nI) rn) (.slice rfl) rfl)) az) ?_)
 refine sq ?_
 obtain⟨_,d,h⟩:=bnd h
 refine sq (gq fol [2] (kAH [(12,.func (.func 204) [] [.ptr 2 0,.ptr 3 0])]) (kA a (kP a (kD n w []))) (ac (hs (.callH 135 (kAY n w) (kA a (kP a [])) [] (.func (.func 204) [] kAW) (kA a (kP a (kD n w [])))) (qaY [] [none,none,some 0,some 1] (qbT n w d) .nil rfl rfl (.old rfl rfl (.old rfl rfl (.new rfl rfl (.cells (rc (.same nI) rn)) rfl (.new rfl rfl (.cells (rc (.same (qD encI _)) rn)) rfl .nil)))) (rc (.same nI) (rc (.same (qD encI _)) rn)) (.funcL (sn) (rc (.ptr rfl) (rc (.ptr rfl) rn))) rfl)) az) ?_)
 refine Goes.block ?_
 obtain⟨b,e,h⟩:=bnd h
 refine Goes.range fol rfl (gf:=204) (first:=[]) (captured:=kAW) (v:= .tuple []) (A2:=(kA b (kP b (kD n w [.loop .ready none (ofG 30 [(5,.ptr 1 0)]) qb.xp qb.x1 qb.x2])))) (s':=(ofG 30 (kAH [(12,.func (.func 204) [] [.ptr 2 0,.ptr 3 0])]),(kA b (kP b (kD n w [.loop .exhausted none (ofG 30 [(5,.ptr 1 0)]) qb.xp qb.x1 qb.x2]))))) (x:= .normal) (by kernel_rfl) (by kernel_rfl) (qkW (show(Obl.callH 204 (.yld 4::kAW) (kA a (kP a (kD n w [.loop .ready none (ofG 30 [(5,.ptr 1 0),(12,.func (.func 204) [] [.ptr 2 0,.ptr 3 0])]) qb.xp qb.x1 qb.x2]))) [4,1,0,2,3] (.tuple []) (kA b (kP b (kD n w [.loop .ready none (ofG 30 [(5,.ptr 1 0)]) qb.xp qb.x1 qb.x2])))).Holds ZT from qaY [some 4,some 1,some 0,some 2,some 3] [some 2,some 1,some 3,some 4,some 0] (qde N a n w e) (.kb rfl (.loop rfl (.kp (.drop .nil))) (.kb rfl (.cells (rc (.slice rfl) rn)) (.ks (.kb rfl (.cells (rc (.same nI) rn)) (.kb rfl (.cells (rc (.same (qD encI _)) rn)) .nil))))) rfl rfl (.back rfl rfl (.same fa) rfl (.back rfl rfl (.cells (rc (.slice rfl) rn)) rfl (.back rfl rfl (.cells (rc (.same nI) rn)) rfl (.back rfl rfl (.cells (rc (.same (qD encI _)) rn)) rfl (.back rfl rfl (.loop rfl (.kp .nil)) rfl .nil))))) (rc (.yld rfl) (rc (.ptr rfl) (rc (.ptr rfl) rn))) (.same (qj.tuple sn)) rfl)) (by kernel_rfl) ?_
 refine Goes.sub (show Sub (ofG 30 (kAH [(12,.func (.func 204) [] [.ptr 2 0,.ptr 3 0])]),(kA b (kP b (kD n w [.loop .exhausted none (ofG 30 [(5,.ptr 1 0)]) qb.xp qb.x1 qb.x2])))) (ofG 30 (kAN [(12,.func (.func 204) [] [.ptr 2 0,.ptr 3 0])]),(kG b (kA b (kD n w []))))from(Sub.norm [] [some 1,some 0,some 2,some 3] rfl rfl (.kp (.keep (.funcL (sn) (rc (.ptr rfl) (rc (.ptr rfl) rn))) .nil)) (.kb rfl (.cells (rc (.slice rfl) rn)) (.ks (.kb rfl (.same sn) (.kb rfl (.same sn) .nil)))))) ?_
 refine sh fol [(4,.slice 1 0 b.length b.length 1)] ?_
 refine Goes.ret ?_
 obtain rfl:=si h
 exact(gw2 [.slice 1 0 b.length b.length 1] (Uz (Fz.sl (E:=encI) rfl rfl (nl rfl))))
def qcG (N:Nat) (n:Int) (w:List Int):Option ((List Int)×Int):=
 (jf N n w).bind fun a=>
 if(!decide (a=0))=true then
 some ([],a)
 else
 (qcx N n w).bind fun b=>
 some (b,0)
theorem qiY (N:Nat) (n:Int) (w:List Int) {res:(List Int)×Int} (h:qcG N n w=some res):qd ZT (.fn 49) (kAY n w) [] (.tuple [vl encI res.1,.i res.2]) []:=by
 unfold qcG at h
 refine Uc Tryz.func49 rfl rfl (m:=16) rfl (rs:=[.tmp 4,.tmp 5]) rfl (l:=(kC n w [])) rfl ?_
 refine sh fol (kC n w []) ?_
 refine sq ?_
 obtain⟨a,b,h⟩:=bnd h
 refine sq (gr fol [2] (kC n w [(6,.i a)]) (ac (cv (yC N n w b)) az) ?_)
 refine sh fol (kC n w [(6,.i a),(11,.bool (!decide (a=0)))]) ?_
 refine ihB h (fun e h=>?_) (fun e h=>?_)
 ·refine sh fol [(4,.nilslice),(5,.i a)] ?_
  refine Goes.ret ?_
  obtain rfl:=si h
  exact(gw2 [.nilslice,.i a] (FzW.tuple (zN.cons (FzW.nilv (E:=encI)) (zN.cons (Ua tI) zN.nil))))
 refine Goes.skip ?_
 obtain⟨d,c,h⟩:=bnd h
 refine sq (gr fol [2] [(4,vl encI d),(5,.i 0)] (ac (cv (qiT N n w c)) az) ?_)
 refine Goes.ret ?_
 obtain rfl:=si h
 exact(gw2 [vl encI d,.i 0] (FzW.tuple (zN.cons (Ua (jQ encI _ (nl rfl))) (zN.cons (Ua tI) zN.nil))))
def xy (l:List (List Int)) (n:Int):Nat->Int->Option (Unit⊕Bool)
 |0,_=>none
 |K+1,a=>
  if a<(l.length:Int)then
  (idx l a).bind fun b=>
  if(!decide ((b.length:Int)=n))=true then
  some (.inr false)
  else
  xy l n K (w64 (a+1))
  else
  some (.inl ())
def qbF (N:Nat) (l:List (List Int)) (n:Int):Option Bool:=
 (xy l n N 0).bind (fun
 |(.inl ())=>
 some (decide ((l.length:Int)=n))
 |(.inr a)=>
 some a)
theorem qel (N:Nat) (l:List (List Int)) (n:Int) {res:Bool} (h:qbF N l n=some res):qd ZT (.fn 50) [vl (qc encI) l,.i n] [] (.bool res) []:=by
 unfold qbF at h
 refine Uc Tryz.func50 rfl rfl (m:=23) rfl (rs:=[.tmp 4]) rfl (l:=((0,vl (qc encI) l)::(kAX n))) rfl ?_
 refine sh fol ((0,vl (qc encI) l)::(kAX n)) ?_
 refine sq ?_
 refine sh fol [(0,vl (qc encI) l),(1,.i n),(7,.i (l.length:Int)),(8,.i 0)] ?_
 refine Goes.block ?_
 obtain⟨c,g2,h⟩:=bnd h
 refine Goes.imp (Q:=fun x s'=>(x= .exit 0/\(.inl ())=c/\Sub s' (ofG 23 ((0,vl (qc encI) l)::(kAX n)),[]))\/(x= .ret/\ ∃d,(.inr d)=c/\vK ZT [.tmp 4] (.bool d) .ret s')) ?_ ?_
 ·refine Ue (fun M s=> ∃(a:Int),s=(ofG 23 [(0,vl (qc encI) l),(1,.i n),(7,.i (l.length:Int)),(8,.i a)],[])/\xy l n M a=some c) ?_ (m:=N) ⟨_,rfl,g2⟩
  rintro M s ⟨a,rfl,g2⟩
  cases M with
  |zero=>simp only[xy]at g2;cases g2
  |succ M=>
   rw[xy]at g2
   refine sh fol [(0,vl (qc encI) l),(1,.i n),(7,.i (l.length:Int)),(8,.i a),(9,.bool (decide (a<(l.length:Int))))] ?_
   refine sq ?_
   refine ihD g2 (fun e g2=>?_) (fun e g2=>?_)
   ·refine Goes.skip ?_
    refine sq (Goes.block ?_)
    refine sh fol [(0,vl (qc encI) l),(1,.i n),(5,.i a),(7,.i (l.length:Int)),(8,.i a)] ?_
    obtain⟨f,b,g2⟩:=bnd g2
    refine sq (gr fol [2,3] [(0,vl (qc encI) l),(1,.i n),(7,.i (l.length:Int)),(8,.i a),(17,.bool (!decide ((f.length:Int)=n)))] (ac (iv qhh (qc encI) b) (ac (lv 0 qkh (qc encI) b rfl) az)) ?_)
    refine ihB g2 (fun g g2=>?_) (fun g g2=>?_)
    ·refine sh fol kAE ?_
     refine Goes.ret ?_
     obtain rfl:=si g2
     exact Or.inr (⟨rfl,_,rfl,(gw2 [.bool false] (Ua tB))⟩)
    refine Goes.skip ?_
    refine gh fol [(0,vl (qc encI) l),(1,.i n),(7,.i (l.length:Int)),(8,.i (w64 (a+1)))] ?_
    exact⟨M,(ofG 23 [(0,vl (qc encI) l),(1,.i n),(7,.i (l.length:Int)),(8,.i (w64 (a+1)))],[]),Nat.lt_succ_self _,(Sub.refl _),_,rfl,g2⟩
   refine Goes.exit ?_
   obtain rfl:=si g2
   exact Or.inl (⟨rfl,rfl,(Sub.keep [0,1] rfl rfl)⟩)
 rintro x s' (⟨rfl,rfl,hsub⟩|⟨rfl,j,rfl,hret⟩)
 ·try dsimp only at h
  refine Goes.sub hsub ?_
  refine sh fol (kAT (decide ((l.length:Int)=n))) ?_
  refine Goes.ret ?_
  obtain rfl:=si h
  exact(gw2 [.bool (decide ((l.length:Int)=n))] (Ua tB))
 try dsimp only at h
 obtain rfl:=si h
 exact hret
def vQ (n:Int):Nat->(List Int)->Int->Option (List Int)
 |0,_,_=>none
 |K+1,b,a=>
  if a<n then
  (app 8 b [w64 ((w64 (n-1))-a)]).bind fun c=>
  vQ n K c (w64 (a+1))
  else
  some b
def qaF (N:Nat) (n:Int):Option (List Int):=
 (vQ n N ([]:List Int) 0).bind fun a=>
 some a
theorem qc9 (N:Nat) (n:Int) {res:List Int} (h:qaF N n=some res):qd ZT (.fn 51) [.i n] [] (vl encI res) []:=by
 unfold qaF at h
 refine Uc Tryz.func51 rfl rfl (m:=18) rfl (rs:=[.tmp 2]) rfl (l:=[(0,.i n)]) rfl ?_
 refine sh fol [(0,.i n)] ?_
 refine sh fol [(0,.i n),(3,.nilslice)] ?_
 refine sq ?_
 refine sh fol [(0,.i n),(3,.nilslice),(4,.i 0)] ?_
 refine Goes.block ?_
 obtain⟨f,g4,h⟩:=bnd h
 refine Goes.imp (Q:=fun x s'=>(x= .exit 0/\ ∃d,d=f/\Sub s' (ofG 18 (kAG d []),(kA d [])))) ?_ ?_
 ·refine Goes.sub (s':=(ofG 18 [(0,.i n),(3,.gslice 0 ([]:List Int).length 1),(4,.i 0)],kAK)) (Sub.norm [] [none] rfl rfl (.keep (.same nI) (.keep .nil (.keep (.same nI) .nil))) (.fresh .nil)) ?_
  refine Ue (fun M s=> ∃(b:List Int) (a:Int),s=(ofG 18 ((0,.i n)::(kAG b [(4,.i a)])),(kA b []))/\vQ n M b a=some f) ?_ (m:=N) ⟨_,_,rfl,g4⟩
  rintro M s ⟨b,a,rfl,g4⟩
  cases M with
  |zero=>simp only[vQ]at g4;cases g4
  |succ M=>
   rw[vQ]at g4
   refine sq ?_
   refine sh fol ((0,.i n)::(kAG b [(4,.i a),(7,.bool (decide (a<n)))])) ?_
   refine ihD g4 (fun g g4=>?_) (fun g g4=>?_)
   ·refine Goes.skip ?_
    refine sq (Goes.block ?_)
    obtain⟨c,e,g4⟩:=bnd g4
    refine gq fol [6] [(0,.i n),(3,.gslice 2 c.length 1),(4,.i a)] (.dead::(kAM (w64 ((w64 (n-1))-a)) (kA c []))) (ac (hs (.run [0,1] (y9 ZT [22,22] (.gslice 0 b.length 1) (.slice 1 0 1 1 1)) (kA b (kAM (w64 ((w64 (n-1))-a)) [])) (.gslice 2 c.length 1) (.dead::(kAM (w64 ((w64 (n-1))-a)) (kA c []))) true) (qcl xx (E:=encI) rfl (qg7 (E:=encI) (ys:=[w64 ((w64 (n-1))-a)]) rfl rfl rfl rfl) (qg6 (E:=encI) (l:=b) rfl rfl rfl e rfl))) az) ?_
    refine gh fol [(0,.i n),(3,.gslice 2 c.length 1),(4,.i (w64 (a+1)))] ?_
    exact⟨M,(ofG 18 ((0,.i n)::(kAG c [(4,.i (w64 (a+1)))])),(kA c [])),Nat.lt_succ_self _,(Sub.norm [] [some 2] rfl rfl (.keep (.same nI) (.keep (.gslice rfl) (.keep (.same nI) .nil))) (.ks .nil)),_,_,rfl,g4⟩
   refine Goes.exit ?_
   obtain rfl:=si g4
   exact⟨rfl,_,rfl,(Sub.keep [3] rfl rfl)⟩
 rintro x s' ⟨rfl,d,rfl,hsub⟩
 refine Goes.sub hsub ?_
 refine sh fol [(2,.gslice 0 d.length 1)] ?_
 refine Goes.ret ?_
 obtain rfl:=si h
 exact(gw2 [.gslice 0 d.length 1] (Uz (Fz.gs (E:=encI) rfl rfl (nl rfl))))
def qbb (a:Int) (b:Int):Option Int:=
 (qaK a).bind fun c=>
 (qby a).bind fun d=>
 some (w64 (c*(w64 (b-d))))
theorem qfn (a:Int) (b:Int) {res:Int} (h:qbb a b=some res):qd ZT (.fn 121) [.i a,.fptr [.i b] 0] [] (.i res) []:=by
 unfold qbb at h
 refine Uc Tryz.func121 rfl rfl (m:=11) rfl (rs:=[.tmp 3]) rfl (l:=[(0,.i a),(1,.fptr [.i b] 0)]) rfl ?_
 refine sh fol [(0,.i a),(1,.fptr [.i b] 0)] ?_
 obtain⟨e,c,h⟩:=bnd h
 obtain⟨f,d,h⟩:=bnd h
 refine sq (gr fol [1,4] [(3,.i (w64 (e*(w64 (b-f)))))] (ac (cv (qdm a c)) (ac (cv (qcm a d)) az)) ?_)
 refine Goes.ret ?_
 obtain rfl:=si h
 exact(gw2 [.i (w64 (e*(w64 (b-f))))] (Ua tI))
def zi (a:List Int) (b:Int):Nat->(List Int)->Int->Option (List Int)
 |0,_,_=>none
 |K+1,d,c=>
  if c<(a.length:Int)then
  (idx a c).bind fun e=>
  (qbb e b).bind fun f=>
  (app 8 d [f]).bind fun g=>
  zi a b K g (w64 (c+1))
  else
  some d
def qay (N:Nat) (a:List Int) (b:Int):Option (List Int):=
 (zi a b N ([]:List Int) 0).bind fun c=>
 some c
theorem qdN (N:Nat) (a:List Int) (b:Int) {p:List Int} (h:qay N a b=some p):qd ZT (.fn 120) [vl encI a,.func (.func 121) [] [.ptr 0 0]] (kAM b []) (.gslice 1 p.length 1) (kAM b (kA p [])):=by
 unfold qay at h
 refine Uq Tryz.func120 rfl rfl (m:=22) rfl (rs:=[.tmp 4]) rfl (l:=(kM a [(1,.func (.func 121) [] [.ptr 0 0])])) rfl ?_
 intro B hB
 refine sh fol (kM a [(1,.func (.func 121) [] [.ptr 0 0])]) ?_
 refine sh fol (kM a [(1,.func (.func 121) [] [.ptr 0 0]),(5,.nilslice)]) ?_
 refine sq ?_
 refine sh fol [(1,.func (.func 121) [] [.ptr 0 0]),(5,.nilslice),(8,vl encI a),(9,.i (a.length:Int)),(10,.i 0)] ?_
 refine Goes.block ?_
 obtain⟨q,g5,h⟩:=bnd h
 refine Goes.imp (Q:=fun x s'=>(x= .exit 0/\ ∃g,g=q/\Sub s' (ofG 22 (kAF g []),(kAM b (kA g []))))) ?_ ?_
 ·refine Goes.sub (s':=(ofG 22 [(1,.func (.func 121) [] [.ptr 0 0]),(5,.gslice 1 ([]:List Int).length 1),(8,vl encI a),(9,.i (a.length:Int)),(10,.i 0)],(kAM b kAK))) (Sub.norm [] [some 0,none] (by rw[hB];rfl) rfl (.keep (.funcL (sn) (rc (.ptr rfl) rn)) (.keep .nil (.keep (.same (qD encI _)) (.keep (.same nI) (.keep (.same nI) .nil))))) (.kb rfl (.same sn) (.fresh .nil))) ?_
  refine Ue (fun M s=> ∃(c:List Int) (d:Int),s=(ofG 22 ((1,.func (.func 121) [] [.ptr 0 0])::(kAF c ((8,vl encI a)::(kAC (a.length:Int) d [])))),(kAM b (kA c [])))/\zi a b M c d=some q) ?_ (m:=N) ⟨_,_,rfl,g5⟩
  rintro M s ⟨c,d,rfl,g5⟩
  cases M with
  |zero=>simp only[zi]at g5;cases g5
  |succ M=>
   rw[zi]at g5
   refine sh fol ((1,.func (.func 121) [] [.ptr 0 0])::(kAF c ((8,vl encI a)::(kAC (a.length:Int) d [(11,.bool (decide (d<(a.length:Int))))])))) ?_
   refine sq ?_
   refine ihD g5 (fun r g5=>?_) (fun r g5=>?_)
   ·refine Goes.skip ?_
    refine sq (Goes.block ?_)
    obtain⟨o,e,g5⟩:=bnd g5
    refine sq (gr fol [0,1] ((1,.func (.func 121) [] [.ptr 0 0])::(kAF c ((7,.i o)::(8,vl encI a)::(kAC (a.length:Int) d [])))) (ac (iv xx encI e) (ac (lv 0 ce3 encI e rfl) az)) ?_)
    obtain⟨j,k,g5⟩:=bnd g5
    obtain⟨f,n,g5⟩:=bnd g5
    refine gq fol [3,5] ((1,.func (.func 121) [] [.ptr 0 0])::(5,.gslice 3 f.length 1)::(8,vl encI a)::(kAC (a.length:Int) d [])) (kAM b (.dead::(kAM j (kA f [])))) (ac (hs (.call 121 [.i o,.ptr 0 0] (kAM b (kA c [])) [0] [.i o,.fptr [.i b] 0] (.i j)) (qfS (FzL.cons (Up tI) (FzL.cons (Fz.ptr rfl rfl (FzL.cons (Up tI) FzL.nil)) FzL.nil)) (qfn o b k) tI rfl)) (ac (hs (.run [1,2] (y9 ZT [22,22] (.gslice 1 c.length 1) (.slice 2 0 1 1 1)) (kAM b (kA c (kAM j []))) (.gslice 3 f.length 1) (kAM b (.dead::(kAM j (kA f [])))) true) (qcl xx (E:=encI) rfl (qg7 (E:=encI) (ys:=[j]) rfl rfl rfl rfl) (qg6 (E:=encI) (l:=c) rfl rfl rfl n rfl))) az)) ?_
    refine gh fol ((1,.func (.func 121) [] [.ptr 0 0])::(5,.gslice 3 f.length 1)::(8,vl encI a)::(kAC (a.length:Int) (w64 (d+1)) [])) ?_
    exact⟨M,(ofG 22 ((1,.func (.func 121) [] [.ptr 0 0])::(kAF f ((8,vl encI a)::(kAC (a.length:Int) (w64 (d+1)) [])))),(kAM b (kA f []))),Nat.lt_succ_self _,(Sub.norm [] [some 0,some 3] (by rw[hB];rfl) rfl (.keep (.funcL (sn) (rc (.ptr rfl) rn)) (.keep (.gslice rfl) (.keep (.same (qD encI _)) (.keep (.same nI) (.keep (.same nI) .nil))))) (.kb rfl (.same sn) (.ks .nil))),_,_,rfl,g5⟩
   refine Goes.exit ?_
   obtain rfl:=si g5
   exact⟨rfl,_,rfl,(Sub.keep [5] rfl rfl)⟩
 rintro x s' ⟨rfl,g,rfl,hsub⟩
 refine Goes.sub hsub ?_
 refine sh fol [(4,.gslice 1 g.length 1)] ?_
 refine Goes.ret ?_
 obtain rfl:=si h
 exact(gh2 [.gslice 1 g.length 1] (qch.refl _ _))
def qcM (N:Nat) (n:Int) (w:List Int):Option ((List Int)×Int):=
 (jf N n w).bind fun a=>
 if(!decide (a=0))=true then
 some ([],a)
 else
 (qay N w n).bind fun b=>
 some (b,0)
theorem qiM (N:Nat) (n:Int) (w:List Int) {res:(List Int)×Int} (h:qcM N n w=some res):qd ZT (.fn 52) (kAY n w) [] (.tuple [vl encI res.1,.i res.2]) []:=by
 unfold qcM at h
 refine Uc Tryz.func52 rfl rfl (m:=16) rfl (rs:=[.tmp 4,.tmp 5]) rfl (l:=(kC n w [])) rfl ?_
 refine sg fol (kAU w []) (kAM n []) ?_
 refine sq ?_
 obtain⟨a,b,h⟩:=bnd h
 refine sq (gr fol [2] (kAU w [(6,.i a)]) (ac (cv (yC N n w b)) az) ?_)
 refine sh fol (kAU w [(6,.i a),(11,.bool (!decide (a=0)))]) ?_
 refine ihB h (fun e h=>?_) (fun e h=>?_)
 ·refine sh fol [(4,.nilslice),(5,.i a)] ?_
  refine Goes.ret ?_
  obtain rfl:=si h
  exact(gw2 [.nilslice,.i a] (FzW.tuple (zN.cons (FzW.nilv (E:=encI)) (zN.cons (Ua tI) zN.nil))))
 refine Goes.skip ?_
 obtain⟨c,d,h⟩:=bnd h
 refine sq (gq fol [2] [(4,.gslice 1 c.length 1),(5,.i 0)] (kAM n (kA c [])) (ac (hs (.callH 120 [vl encI w,.func (.func 121) [] [.ptr 0 0]] (kAM n []) [0] (.gslice 1 c.length 1) (kAM n (kA c []))) (qaY [some 0] [some 0,some 1] (qdN N w n d) (.kb rfl (.cells (rc (.same nI) rn)) .nil) rfl rfl (.back rfl rfl (.cells (rc (.same nI) rn)) rfl (.new rfl rfl (.same fa) rfl .nil)) (rc (.same (qD encI _)) (rc (.funcL (sn) (rc (.ptr rfl) rn)) rn)) (.gslice rfl) rfl)) az) ?_)
 refine Goes.ret ?_
 obtain rfl:=si h
 exact(gw2 [.gslice 1 c.length 1,.i 0] (FzW.tuple (zN.cons (Uz (Fz.gs (E:=encI) rfl rfl (nl rfl))) (zN.cons (Ua tI) zN.nil))))
def qbj (w:List Int):Option ((List Int)×Int):=
 if(w.length:Int)>200 then
 some ([],5)
 else
 some (w,0)
theorem qgw (w:List Int) {res:(List Int)×Int} (h:qbj w=some res):qd ZT (.fn 114) [vl encI w] [] (.tuple [vl encI res.1,.i res.2]) []:=by
 unfold qbj at h
 refine Uc Tryz.func114 rfl rfl (m:=8) rfl (rs:=[.tmp 2,.tmp 3]) rfl (l:=(kM w [])) rfl ?_
 refine sh fol (kM w []) ?_
 refine sq ?_
 refine sh fol (kM w [(6,.bool (decide ((w.length:Int)>200)))]) ?_
 refine ihD h (fun a h=>?_) (fun a h=>?_)
 ·refine sh fol [(2,.nilslice),(3,.i 5)] ?_
  refine Goes.ret ?_
  obtain rfl:=si h
  exact(gw2 [.nilslice,.i 5] (FzW.tuple (zN.cons (FzW.nilv (E:=encI)) (zN.cons (Ua tI) zN.nil))))
 refine Goes.skip ?_
 refine sh fol [(2,vl encI w),(3,.i 0)] ?_
 refine Goes.ret ?_
 obtain rfl:=si h
 exact(gw2 [vl encI w,.i 0] (FzW.tuple (zN.cons (Ua (jQ encI _ (nl rfl))) (zN.cons (Ua tI) zN.nil))))
def xP (a:Int):Option (Option (List Int)):=
 ((if a<0 then
 none
 else
 some ():Option Unit)).bind fun _=>
 ((if(w64 (a-(w64 (0-0))))>0 then
 (cut ([]:List Int) 0 0).bind fun e=>
 (qln 8 (w64 (a-(w64 (0-0)))) 0).bind fun b=>
 (cut b 0 0).bind fun c=>
 some (some c)
 else
 some (none:Option (List Int)):Option (Option (List Int)))).bind fun d=>
 some d
theorem qep (a:Int) {j:Option (List Int)} (h:xP a=some j):qd ZT (.fn 198) [.nilslice,.i a] [] (hsl 0 1 j) (kAB j):=by
 unfold xP at h
 refine Uq Tryz.func198 rfl rfl (m:=27) rfl (rs:=[.tmp 4]) rfl (l:=((0,.nilslice)::(kAX a))) rfl ?_
 intro B hB
 refine sh fol ((0,.nilslice)::(kAX a)) ?_
 refine sq ?_
 refine sh fol [(0,.nilslice),(1,.i a),(6,.bool (decide (a<0)))] ?_
 obtain⟨k,g2,h⟩:=bnd h
 refine Goes.imp (Q:=fun x s'=>(x= .normal/\()=k/\Sub s' (ofG 27 ((0,.nilslice)::(kAX a)),[]))) ?_ ?_
 ·refine ihD g2 (fun n g2=>?_) (fun n g2=>?_)
  ·cases g2
  refine Goes.skip ?_
  obtain rfl:=si g2
  exact⟨rfl,rfl,(Sub.keep [0,1] rfl rfl)⟩
 rintro x s' ⟨rfl,rfl,hsub⟩
 refine Goes.sub hsub ?_
 refine sq ?_
 refine sh fol ((0,.nilslice)::(kAX (w64 (a-(w64 (0-0)))))) ?_
 refine sh fol [(0,.nilslice),(1,.i (w64 (a-(w64 (0-0))))),(16,.bool (decide ((w64 (a-(w64 (0-0))))>0)))] ?_
 obtain⟨o,g5,h⟩:=bnd h
 refine Goes.imp (Q:=fun x s'=>(x= .normal/\ ∃c,c=o/\Sub s' (ofG 27 [(0,hsl 0 1 c)],(kAB c)))) ?_ ?_
 ·refine ihD g5 (fun p g5=>?_) (fun p g5=>?_)
  ·obtain⟨q,d,g5⟩:=bnd g5
   obtain⟨e,f,g5⟩:=bnd g5
   obtain⟨g,b,g5⟩:=bnd g5
   refine gq fol [3,5,8] [(0,.oslice 0 g.length 1)] (kA e []) (ac (hs (.done (.opt (qd9 ZT 22 .nilslice none (some (.i 0)) none)) .nilslice) (qra (α:=Int) xx none (some 0) d)) (ac (hs (.run [] (y9 ZT [22,3] .nilslice (.i (w64 (a-(w64 (0-0)))))) [] (.oslice 0 e.length 1) (kA e []) false) (qn1 xx it3 (E:=encI) rfl (z:=0) (by kernel_rfl) f rfl)) (ac (hs (.done (.opt (qd9 ZT 22 (.oslice 0 e.length 1) none (some (.i 0)) none)) (.oslice 0 g.length 1)) (sh_os xx b)) az))) ?_
   obtain rfl:=si g5
   exact⟨rfl,_,rfl,((show Sub (ofG 27 [(0,.oslice 0 g.length 1)],(kA e [])) (ofG 27 [(0,.oslice 0 g.length 1)],(kA g []))from(Sub.norm [] [some 0] (by rw[hB];rfl) rfl (.keep (.oslice rfl) .nil) (.kb rfl (qaE.cut b) .nil))).trans (Sub.norm [] [some 0] (by rw[hB];rfl) rfl (.keep (vH.hs1 rfl) .nil) (.ks .nil)))⟩
  refine Goes.skip ?_
  obtain rfl:=si g5
  exact⟨rfl,_,rfl,(Sub.norm [] [none] (by rw[hB];rfl) rfl (.keep vH.hs0 .nil) (.fresh .nil))⟩
 rintro x s' ⟨rfl,c,rfl,hsub⟩
 refine Goes.sub hsub ?_
 refine sh fol [(4,hsl 0 1 c)] ?_
 refine Goes.ret ?_
 obtain rfl:=si h
 exact(gh2 [hsl 0 1 c] (qch.refl _ _))
def qL (slices:List (List Int)):Nat->Int->Int->Option Int
 |0,_,_=>none
 |K+1,a,b=>
  if a<(slices.length:Int)then
  (((idx slices a).bind fun c=>
  if(w64 (b+(c.length:Int)))<0 then
  none
  else
  some (w64 (b+(c.length:Int))):Option Int)).bind fun d=>
  qL slices K (w64 (a+1)) d
  else
  some b
def ql (slices:List (List Int)):Nat->(Option (List Int))->Int->Option (Option (List Int))
 |0,_,_=>none
 |K+1,b,a=>
  if a<(slices.length:Int)then
  (idx slices a).bind fun c=>
  ((match b with
  |none=>
  (match c with
  |[]=>
  some (none:Option (List Int))
  |g::xs20=>
  none)
  |some d=>
  (app 8 d c).bind fun e=>
  some (some e)):Option (Option (List Int))).bind fun f=>
  ql slices K f (w64 (a+1))
  else
  some b
def qaj (N:Nat) (slices:List (List Int)):Option (List Int):=
 (qL slices N 0 0).bind fun c=>
 (xP c).bind fun a=>
 (ql slices N a 0).bind fun b=>
 some (hof b)
theorem qeT (N:Nat) (slices:List (List Int)) {res:List Int} (h:qaj N slices=some res):qd ZT (.fn 124) [vl (qc encI) slices] [] (vl encI res) []:=by
 unfold qaj at h
 refine Uc Tryz.func124 rfl rfl (m:=36) rfl (rs:=[.tmp 2]) rfl (l:=[(0,vl (qc encI) slices)]) rfl ?_
 refine sh fol [(0,vl (qc encI) slices)] ?_
 refine sh fol [(0,vl (qc encI) slices),(3,.i 0)] ?_
 refine sq ?_
 refine sh fol [(0,vl (qc encI) slices),(3,.i 0),(9,vl (qc encI) slices),(10,.i (slices.length:Int)),(11,.i 0)] ?_
 refine Goes.block ?_
 obtain⟨B,g4,h⟩:=bnd h
 refine Goes.imp (Q:=fun x s'=>(x= .exit 0/\ ∃v,v=B/\Sub s' (ofG 36 [(0,vl (qc encI) slices),(3,.i v)],[]))) ?_ ?_
 ·refine Ue (fun M s=> ∃(f:Int) (o:Int),s=(ofG 36 ((0,vl (qc encI) slices)::(3,.i o)::(9,vl (qc encI) slices)::(kAD (slices.length:Int) f)),[])/\qL slices M f o=some B) ?_ (m:=N) ⟨_,_,rfl,g4⟩
  rintro M s ⟨f,o,rfl,g4⟩
  cases M with
  |zero=>simp only[qL]at g4;cases g4
  |succ M=>
   rw[qL]at g4
   refine sh fol [(0,vl (qc encI) slices),(3,.i o),(9,vl (qc encI) slices),(10,.i (slices.length:Int)),(11,.i f),(12,.bool (decide (f<(slices.length:Int))))] ?_
   refine sq ?_
   refine ihD g4 (fun C g4=>?_) (fun C g4=>?_)
   ·refine Goes.skip ?_
    refine sq ?_
    obtain⟨D,g7,g4⟩:=bnd g4
    refine Goes.imp (Q:=fun x s'=>(x= .normal/\ ∃w,w=D/\Sub s' (ofG 36 ((0,vl (qc encI) slices)::(3,.i w)::(9,vl (qc encI) slices)::(kAD (slices.length:Int) f)),[]))) ?_ ?_
    ·refine Goes.block ?_
     obtain⟨z,p,g7⟩:=bnd g7
     refine sq (gr fol [0,1] ((0,vl (qc encI) slices)::(3,.i o)::(5,vl encI z)::(9,vl (qc encI) slices)::(kAD (slices.length:Int) f)) (ac (iv qhh (qc encI) p) (ac (lv 0 qkh (qc encI) p rfl) az)) ?_)
     refine sh fol ((0,vl (qc encI) slices)::(3,.i (w64 (o+(z.length:Int))))::(9,vl (qc encI) slices)::(kAD (slices.length:Int) f)) ?_
     refine sh fol [(0,vl (qc encI) slices),(3,.i (w64 (o+(z.length:Int)))),(9,vl (qc encI) slices),(10,.i (slices.length:Int)),(11,.i f),(20,.bool (decide ((w64 (o+(z.length:Int)))<0)))] ?_
     refine ihD g7 (fun F g7=>?_) (fun F g7=>?_)
     ·cases g7
     refine Goes.skip ?_
     obtain rfl:=si g7
     exact⟨rfl,_,rfl,(Sub.keep [0,3,9,10,11] rfl rfl)⟩
    rintro x s' ⟨rfl,w,rfl,hsub⟩
    refine Goes.sub hsub ?_
    refine gh fol ((0,vl (qc encI) slices)::(3,.i w)::(9,vl (qc encI) slices)::(kAD (slices.length:Int) (w64 (f+1)))) ?_
    exact⟨M,(ofG 36 ((0,vl (qc encI) slices)::(3,.i w)::(9,vl (qc encI) slices)::(kAD (slices.length:Int) (w64 (f+1)))),[]),Nat.lt_succ_self _,(Sub.refl _),_,_,rfl,g4⟩
   refine Goes.exit ?_
   obtain rfl:=si g4
   exact⟨rfl,_,rfl,(Sub.keep [0,3] rfl rfl)⟩
 rintro x s' ⟨rfl,v,rfl,hsub⟩
 refine Goes.sub hsub ?_
 obtain⟨g,q,h⟩:=bnd h
 refine sq (gq fol [1] [(0,vl (qc encI) slices),(6,hsl 0 1 g)] (kAB g) (ac (hs (.callH 198 [.nilslice,.i v] [] [] (hsl 0 1 g) (kAB g)) (qaY [] [some 0] (qep v q) .nil rfl rfl (.new rfl rfl (.same fa) rfl .nil) (rc (.same (qj.nilslice)) (rc (.same nI) rn)) (.hs rfl) rfl)) az) ?_)
 refine sq ?_
 refine sh fol [(6,hsl 0 1 g),(25,vl (qc encI) slices),(26,.i (slices.length:Int)),(27,.i 0)] ?_
 refine Goes.block ?_
 obtain⟨y,g15,h⟩:=bnd h
 refine Goes.imp (Q:=fun x s'=>(x= .exit 2/\ ∃e,e=y/\Sub s' (ofG 36 [(6,hsl 0 1 e)],(kAB e)))) ?_ ?_
 ·refine Ue (fun M s=> ∃(d:Option (List Int)) (b:Int),s=(ofG 36 [(6,hsl 0 1 d),(25,vl (qc encI) slices),(26,.i (slices.length:Int)),(27,.i b)],(kAB d))/\ql slices M d b=some y) ?_ (m:=N) ⟨_,_,rfl,g15⟩
  rintro M s ⟨d,b,rfl,g15⟩
  cases M with
  |zero=>simp only[ql]at g15;cases g15
  |succ M=>
   rw[ql]at g15
   refine sh fol [(6,hsl 0 1 d),(25,vl (qc encI) slices),(26,.i (slices.length:Int)),(27,.i b),(28,.bool (decide (b<(slices.length:Int))))] ?_
   refine sq ?_
   refine ihD g15 (fun A g15=>?_) (fun A g15=>?_)
   ·refine Goes.skip ?_
    refine sq (Goes.block ?_)
    obtain⟨r,j,g15⟩:=bnd g15
    refine sq (gr fol [0,1] [(6,hsl 0 1 d),(8,vl encI r),(25,vl (qc encI) slices),(26,.i (slices.length:Int)),(27,.i b)] (ac (iv qhh (qc encI) j) (ac (lv 0 qkh (qc encI) j rfl) az)) ?_)
    obtain⟨k,a,g15⟩:=bnd g15
    refine Goes.cutS (s':=(ofG 36 [(6,hsl 0 1 k),(25,vl (qc encI) slices),(26,.i (slices.length:Int)),(27,.i b)],(kAB k))) ?_ ?_
    ·rcases d with _|t
     ·try dsimp only at a
      rcases r with _|⟨G,xs20⟩
      ·try dsimp only at a
       obtain rfl:=si a
       exact qaI.sub (qaI.rq fol [2] [(6,.nilslice),(25,vl (qc encI) slices),(26,.i (slices.length:Int)),(27,.i b)] [.cells ((hof (none:Option (List Int))).flatMap encI.c)] (ac (hs (.run [] (y9 ZT [22,22] .nilslice (vl encI ([]:List Int))) [.cells ((hof (none:Option (List Int))).flatMap encI.c)] .nilslice [.cells ((hof (none:Option (List Int))).flatMap encI.c)] false) (qp9 xx)) az)) (Sub.norm [] [none] rfl rfl (.keep vH.hs0 (.keep (.same (qD (qc encI) _)) (.keep (.same nI) (.keep (.same nI) .nil)))) (.fresh .nil))
      try dsimp only at a
      cases a
     try dsimp only at a
     obtain⟨n,u,a⟩:=bnd a
     obtain rfl:=si a
     exact qaI.sub (qaI.rq fol [2] [(6,.oslice 1 n.length 1),(25,vl (qc encI) slices),(26,.i (slices.length:Int)),(27,.i b)] (.dead::(kA n [])) (ac (hs (.run [0] (y9 ZT [22,22] (.oslice 0 t.length 1) (vl encI r)) (kA t []) (.oslice 1 n.length 1) (.dead::(kA n [])) true) (qcl xx (E:=encI) rfl (src_v (E:=encI) rfl _) (dst_o (E:=encI) (l:=t) rfl rfl rfl u rfl))) az)) (Sub.norm [] [some 1] rfl rfl (.keep (vH.hs1 rfl) (.keep (.same (qD (qc encI) _)) (.keep (.same nI) (.keep (.same nI) .nil)))) (.ks .nil))
    intro _ hsub
    refine Goes.sub hsub ?_
    refine gh fol [(6,hsl 0 1 k),(25,vl (qc encI) slices),(26,.i (slices.length:Int)),(27,.i (w64 (b+1)))] ?_
    exact⟨M,(ofG 36 [(6,hsl 0 1 k),(25,vl (qc encI) slices),(26,.i (slices.length:Int)),(27,.i (w64 (b+1)))],(kAB k)),Nat.lt_succ_self _,(Sub.refl _),_,_,rfl,g15⟩
   refine Goes.exit ?_
   obtain rfl:=si g15
   exact⟨rfl,_,rfl,(Sub.keep [6] rfl rfl)⟩
 rintro x s' ⟨rfl,e,rfl,hsub⟩
 refine Goes.sub hsub ?_
 refine sh fol [(2,hsl 0 1 e)] ?_
 refine Goes.ret ?_
 obtain rfl:=si h
 exact(gw2 [hsl 0 1 e] (FzW.hs (E:=encI) rfl rfl (nl rfl)))
def xI (N:Nat) (n:Int) (a:List Int) (b:List Int):Option ((List Int)×Int):=
 (qah N n a b).bind fun c=>
 if(!decide (c=0))=true then
 some ([],c)
 else
 (qaj N ([a,b]:List (List Int))).bind fun e=>
 (qbj e).bind fun d=>
 some (d.1,d.2)
theorem qaP (N:Nat) (n:Int) (a:List Int) (b:List Int) {res:(List Int)×Int} (h:xI N n a b=some res):qd ZT (.fn 53) (.i n::(kAR a b)) [] (.tuple [vl encI res.1,.i res.2]) []:=by
 unfold xI at h
 refine Uc Tryz.func53 rfl rfl (m:=23) rfl (rs:=[.tmp 6,.tmp 7]) rfl (l:=(kC n a [(2,vl encI b)])) rfl ?_
 refine sh fol (kC n a [(2,vl encI b)]) ?_
 refine sq ?_
 obtain⟨d,e,h⟩:=bnd h
 refine sq (gr fol [3] [(1,vl encI a),(2,vl encI b),(8,.i d)] (ac (cv (qcw N n a b e)) az) ?_)
 refine sh fol [(1,vl encI a),(2,vl encI b),(8,.i d),(14,.bool (!decide (d=0)))] ?_
 refine ihB h (fun k h=>?_) (fun k h=>?_)
 ·refine sh fol [(6,.nilslice),(7,.i d)] ?_
  refine Goes.ret ?_
  obtain rfl:=si h
  exact(gw2 [.nilslice,.i d] (FzW.tuple (zN.cons (FzW.nilv (E:=encI)) (zN.cons (Ua tI) zN.nil))))
 refine Goes.skip ?_
 obtain⟨j,f,h⟩:=bnd h
 obtain⟨c,g,h⟩:=bnd h
 refine sq (gq fol [3,4] [(6,vl encI c.1),(7,.i c.2)] [.frozen [vl encI a,vl encI b]] (ac (hs (.callF 124 [.slice 0 0 2 2 1] [.cells [vl encI a,vl encI b]] [0] [vl (qc encI) ([a,b]:List (List Int))] (vl encI j)) (qot (FzL.cons (Fz.lit rfl rfl (FzL.still (AllST.cons (jQ encI _ (nl rfl)) (AllST.cons (jQ encI _ (nl rfl)) AllST.nil)))) FzL.nil) (qeT N ([a,b]:List (List Int)) f) (jQ encI _ (nl rfl)))) (ac (cv (qgw j g)) az)) ?_)
 refine Goes.sub (show Sub (ofG 23 [(6,vl encI c.1),(7,.i c.2)],[.frozen [vl encI a,vl encI b]]) (ofG 23 [(6,vl encI c.1),(7,.i c.2)],[])from(Sub.norm [] [] rfl rfl (.keep (.same (qD encI _)) (.keep (.same nI) .nil)) .nil)) ?_
 refine Goes.ret ?_
 obtain rfl:=si h
 exact(gw2 [vl encI c.1,.i c.2] (FzW.tuple (zN.cons (Ua (jQ encI _ (nl rfl))) (zN.cons (Ua tI) zN.nil))))
end Go.Av
