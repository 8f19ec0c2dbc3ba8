/-
  Walks of functions: what each computes, as a plain function.
-/
import Derived.Test.YtkdbjocpkfeckaaGreatDoorQGenEr1
noncomputable section
namespace Go.Av
open Go.Proofs Go.RowKit
set_option linter.unusedSectionVars false
set_option linter.unusedVariables false
set_option linter.unusedSimpArgs false
set_option maxRecDepth 100000
def yU (N:Nat) (a:qo) (b:qo):Option qo:=
 (jo a.Num b.Num).bind fun c=>
 (jo a.Den b.Den).bind fun d=>
 (qbS N c d).bind fun e=>
 some e
theorem qaX (N:Nat) (a:qo) (b:qo) {res:qo} (h:yU N a b=some res):qb ZT (.fn 147) [.agg (nq1 a),.agg (nq1 b)] [] (.agg (nq1 res)) []:=by
 unfold yU at h;refine Ub Tryz.func147 rfl rfl (m:=16) rfl (rs:=[.cell 4 117]) rfl (l:=[(0,.agg (nq1 a)),(1,.agg (nq1 b))]) rfl ?_;refine sg fol (kF []) (.cells (nq1 a):: .cells (nq1 b)::(kH [])) ?_;obtain⟨g,c,h⟩:=bnd h;obtain⟨i,d,h⟩:=bnd h;obtain⟨f,e,h⟩:=bnd h;refine sq (gq fol [4,9,10,11] kAz [.cells (nq1 a),.cells (nq1 b),.cells (nq1 f)] (ac (cv (yI a.Num b.Num c)) (ac (cv (yI a.Den b.Den d)) (ac (cv (qez N g i e)) (ac (hs (.run [2] (qD ZT 117 (.ptr 2 0) (.agg (nq1 f))) (.cells (nq1 a):: .cells (nq1 b)::(kH [])) .undef [.cells (nq1 a),.cells (nq1 b),.cells (nq1 f)] true) (vC (n:=4) (by kernel_rfl) rfl rfl rfl rfl (cac rfl (cac nvc (cac rfl (cac nvc can)))) rfl)) az)))) ?_);refine Goes.ret ?_;obtain rfl:=si h;exact(gw2 [.agg (nq1 f)] (FzW.agg (ql.cons (Ua tI) (ql.cons (Ua (qB ZU _ (nl rfl))) (ql.cons (Ua tI) (ql.cons (Ua (qB ZU _ (nl rfl))) ql.nil))))))
def jC:Nat->(List qo)->Int->Option (List qo)
 |0,_,_=>none
 |K+1,a,c=>
  if c<(a.length:Int)then
  (at' a c).bind fun b=>
  (some (qg4 a b (a.take b))).bind fun d=>
  jC K d (w64 (c+((Nat.min (a.take b).length (a.length-b):Nat):Int)))
  else
  some a
def yM (N:Nat) (a:Int) (b:List Int) (c:Int) (d:List Int) (e:Int):Option (List qo):=
 ((if e<0 then
 none
 else
 some ():Option Unit)).bind fun _=>
 (bits_Mul (IntKind.wrap .u64 1) (IntKind.wrap .u64 e)).bind fun g=>
 (if g.1>0 then
 some true
 else
 some (decide (g.2>9223372036854775807)):Option Bool).bind fun j=>
 ((if j=true then
 none
 else
 some ():Option Unit)).bind fun _=>
 (mk 64 (w64 g.2) (⟨(⟨0,[]⟩:qY),(⟨0,[]⟩:qY)⟩:qo)).bind fun f=>
 (some (cpy f ([(⟨(⟨a,b⟩:qY),(⟨c,d⟩:qY)⟩:qo)]:List qo))).bind fun h=>
 (jC N h ((Nat.min ([(⟨(⟨a,b⟩:qY),(⟨c,d⟩:qY)⟩:qo)]:List qo).length f.length:Nat):Int)).bind fun i=>
 some i
theorem qde (N:Nat) (b:Int) (c:List Int) (d:Int) (e:List Int) (n:Int) {C:List qo} (h:yM N b c d e n=some C):qb ZT (.fn 145) [.slice 0 0 1 1 4,.i n] [.cells (ni2 b c d e)] (.slice 1 0 C.length C.length 4) (.cells (ni2 b c d e)::(kO C [])):=by
 unfold yM at h;refine Ug Tryz.func145 rfl rfl (m:=48) rfl (rs:=[.tmp 4]) rfl (l:=(kAo (kBC n))) rfl ?_;intro B hB;refine sh fol (kAo (kBC n)) ?_;refine sq ?_;refine sh fol (kAo ((1,.i n)::(kA9 (decide (n<0))))) ?_;obtain⟨G,g2,h⟩:=bnd h;refine Goes.imp (Q:=fun x s'=>(x= .normal/\()=G/\Sub s' (ofG 48 (kAo (kBC n)),[.cells (ni2 b c d e)]))) ?_ ?_
 ·refine ihD g2 (fun H g2=>?_) (fun H g2=>?_)
  ·cases g2
  refine Goes.skip ?_;obtain rfl:=si g2;exact⟨rfl,rfl,(Sub.keep [0,1] rfl rfl)⟩
 rintro x s' ⟨rfl,rfl,hsub⟩;refine Goes.sub hsub ?_;obtain⟨v,y,h⟩:=bnd h;refine sq (gr fol [5] (kAo ((5,.int .u64 v.1)::(kAv v.2 []))) (ac (cv (qme (IntKind.wrap .u64 1) (IntKind.wrap .u64 n) y)) az) ?_);refine sq ?_;refine sq ?_;obtain⟨I,o,h⟩:=bnd h;refine Goes.cut (s':=(ofG 48 (kAo (kAv v.2 [(26,.bool I)])),[.cells (ni2 b c d e)])) ?_ ?_
 ·rcases wyD o with⟨D,o⟩|⟨D,o⟩
  ·obtain rfl:=si o;exact tr fol [2] (kAo (kAv v.2 [(26,.bool true)])) (ac (gw D) az)
  obtain rfl:=si o;exact tr fol [2] (kAo (kAv v.2 [(26,.bool (decide (v.2>9223372036854775807)))])) (ac (gw D) az)
 obtain⟨J,g8,h⟩:=bnd h;refine Goes.imp (Q:=fun x s'=>(x= .normal/\()=J/\Sub s' (ofG 48 (kAo (kAv v.2 [])),[.cells (ni2 b c d e)]))) ?_ ?_
 ·refine ihB g8 (fun K g8=>?_) (fun K g8=>?_)
  ·cases g8
  refine Goes.skip ?_;obtain rfl:=si g8;exact⟨rfl,rfl,(Sub.keep [0,6] rfl rfl)⟩
 rintro x s' ⟨rfl,rfl,hsub⟩;refine Goes.sub hsub ?_;obtain⟨f,w,h⟩:=bnd h;refine sq (gq fol [2] (kAo (kAN f [])) (.cells (ni2 b c d e)::(kO f [])) (ac (hs (.run [] (vR ZT 120 (.i (w64 v.2)) (.i (w64 v.2))) [.cells (ni2 b c d e)] (.slice 1 0 f.length f.length 4) (.cells (ni2 b c d e)::(kO f [])) false) (qfC qd4 (E:=qa) (z:=(⟨(⟨0,[]⟩:qY),(⟨0,[]⟩:qY)⟩:qo)) rfl (by kernel_rfl) w rfl)) az) ?_);obtain⟨r,t,h⟩:=bnd h;refine sq (gq fol [2] (kAN f (kAp ((Nat.min ([(⟨(⟨b,c⟩:qY),(⟨d,e⟩:qY)⟩:qo)]:List qo).length f.length:Nat):Int))) (.cells (ni2 b c d e)::(kO r [])) (ac (hs (.run [1,0] (qb2 ZT [120,120] (.slice 1 0 f.length f.length 4) (.slice 0 0 1 1 4)) (.cells (ni2 b c d e)::(kO f [])) (.i ((Nat.min ([(⟨(⟨b,c⟩:qY),(⟨d,e⟩:qY)⟩:qo)]:List qo).length f.length:Nat):Int)) (.cells (ni2 b c d e)::(kO r [])) true) (quV qd4 (E:=qa) (l:=f) rfl (qh6 (E:=qa) (ys:=([(⟨(⟨b,c⟩:qY),(⟨d,e⟩:qY)⟩:qo)]:List qo)) rfl rfl rfl rfl) (.inl rfl) rfl rfl t rfl)) az) ?_);refine Goes.sub (show Sub (ofG 48 (kAN f (kAp ((Nat.min ([(⟨(⟨b,c⟩:qY),(⟨d,e⟩:qY)⟩:qo)]:List qo).length f.length:Nat):Int))),(.cells (ni2 b c d e)::(kO r []))) (ofG 48 (kAN r (kAp ((Nat.min ([(⟨(⟨b,c⟩:qY),(⟨d,e⟩:qY)⟩:qo)]:List qo).length f.length:Nat):Int))),(.cells (ni2 b c d e)::(kO r [])))from(Sub.norm [] [some 0,some 1] (by rw[hB];rfl) rfl (.keep (.sliceE rfl (qou t)) (.keep (.same nI) .nil)) (.kb rfl (.same sn) (.ks .nil)))) ?_;refine sq (Goes.block ?_);obtain⟨A,g15,h⟩:=bnd h;refine Goes.imp (Q:=fun x s'=>(x= .exit 0/\ ∃p,p=A/\Sub s' (ofG 48 (kAN p []),(.cells (ni2 b c d e)::(kO p []))))) ?_ ?_
 ·refine Ud (fun M s=> ∃(a:List qo) (j:Int),s=(ofG 48 (kAN a (kAp j)),(.cells (ni2 b c d e)::(kO a [])))/\jC M a j=some A) ?_ (m:=N) ⟨_,_,rfl,g15⟩;rintro M s ⟨a,j,rfl,g15⟩
  cases M with
  |zero=>simp only[jC]at g15;cases g15
  |succ M=>
   rw[jC]at g15;refine sq ?_;refine sh fol (kAN a [(8,.i j),(37,.bool (decide (j<(a.length:Int))))]) ?_;refine ihD g15 (fun F g15=>?_) (fun F g15=>?_)
   ·refine Goes.skip ?_;refine Goes.block ?_;obtain⟨g,k,g15⟩:=bnd g15;obtain⟨q,u,g15⟩:=bnd g15;refine gq fol [3,6,7] (kAN a (kAp (w64 (j+((Nat.min (a.take g).length (a.length-g):Nat):Int))))) (.cells (ni2 b c d e)::(kO q [])) (ac (hs (.done (.opt (qaO ZT 120 (.slice 1 0 a.length a.length 4) (some (.i j)) none none)) (qfZ 1 4 a.length g)) (qqy qd4 k)) (ac (hs (.done (.opt (qaO ZT 120 (.slice 1 0 a.length a.length 4) none (some (.i j)) none)) (.slice 1 0 g a.length 4)) (qu4 qd4 k)) (ac (hs (.run [1,1] (qb2 ZT [120,120] (qfZ 1 4 a.length g) (.slice 1 0 g a.length 4)) (.cells (ni2 b c d e)::(kO a [])) (.i ((Nat.min (a.take g).length (a.length-g):Nat):Int)) (.cells (ni2 b c d e)::(kO q [])) true) (qpF qd4 (E:=qa) rfl (l:=a) (qsX (E:=qa) rfl rfl rfl (qqs k)) (qqs k) rfl rfl u rfl)) az))) ?_;exact⟨M,(ofG 48 (kAN q (kAp (w64 (j+((Nat.min (a.take g).length (a.length-g):Nat):Int))))),(.cells (ni2 b c d e)::(kO q []))),Nat.lt_succ_self _,((show Sub (ofG 48 (kAN a (kAp (w64 (j+((Nat.min (a.take g).length (a.length-g):Nat):Int))))),(.cells (ni2 b c d e)::(kO q []))) (ofG 48 (kAN q (kAp (w64 (j+((Nat.min (a.take g).length (a.length-g):Nat):Int))))),(.cells (ni2 b c d e)::(kO q [])))from(Sub.norm [] [some 0,some 1] (by rw[hB];rfl) rfl (.keep (.sliceE rfl (qpq (qqs k) u)) (.keep (.same nI) .nil)) (.kb rfl (.same sn) (.ks .nil)))).trans (Sub.refl _)),_,_,rfl,g15⟩
   refine Goes.exit ?_;obtain rfl:=si g15;exact⟨rfl,_,rfl,(Sub.keep [7] rfl rfl)⟩
 rintro x s' ⟨rfl,p,rfl,hsub⟩;refine Goes.sub hsub ?_;refine sh fol [(4,.slice 1 0 p.length p.length 4)] ?_;refine Goes.ret ?_;obtain rfl:=si h;exact(gh2 [.slice 1 0 p.length p.length 4] (qbI.refl _ _))
def yz (N:Nat) (n:Int) (w:List Int) (h:List (List qo)):Nat->(List (List qo))->Int->Option (List (List qo))
 |0,_,_=>none
 |K+1,c,a=>
  if a<(h.length:Int)then
  (qgi 0).bind fun d=>
  (yM N d.Num.s d.Num.w d.Den.s d.Den.w n).bind fun e=>
  (idx c a).bind fun i=>
  ((if e.length<=1000000000 then some ()else none:Option Unit)).bind fun j=>
  (idx (kz c a e) a).bind fun b=>
  (qgi 1).bind fun f=>
  (idx b a).bind fun k=>
  (put b a f).bind fun g=>
  yz N n w h K (kz (kz c a e) a g) (w64 (a+1))
  else
  some c
def yJ (N:Nat) (f:List (List qo)) (a:Int) (b:((qo×qo)×(qo×qo))):Nat->(List (List qo))->Int->Option (List (List qo))
 |0,_,_=>none
 |K+1,d,c=>
  if c<(f.length:Int)then
  (idx d c).bind fun e=>
  (idx e (w64 (a-1))).bind fun g=>
  (idx e (w64 ((w64 (a-1))+1))).bind fun h=>
  (yU N g b.1.1).bind fun j=>
  (yU N h b.2.1).bind fun k=>
  (xO N j k).bind fun l=>
  (put e (w64 (a-1)) l).bind fun i=>
  (yU N g b.1.2).bind fun m=>
  (yU N h b.2.2).bind fun n=>
  (xO N m n).bind fun o=>
  (idx i (w64 ((w64 (a-1))+1))).bind fun q=>
  (put i (w64 ((w64 (a-1))+1)) o).bind fun p=>
  yJ N f a b K (kz d c p) (w64 (c+1))
  else
  some d
def yw (N:Nat) (w:List Int) (t:qo):Nat->(List (List qo))->Int->Option (List (List qo))
 |0,_,_=>none
 |K+1,a,b=>
  if b<(w.length:Int)then
  (idx w b).bind fun c=>
  (qQ c).bind fun d=>
  (qb1 N c t).bind fun e=>
  (yJ N a d e N a 0).bind fun f=>
  yw N w t K f (w64 (b+1))
  else
  some a
def qa9 (N:Nat) (n:Int) (w:List Int) (t:qo):Option (List (List qo)):=
 (mk 24 n ([]:List qo)).bind fun b=>
 (yz N n w b N b 0).bind fun c=>
 (yw N w t N c 0).bind fun a=>
 some a
theorem qeG (N:Nat) (n:Int) (w:List Int) (t:qo) {res:List (List qo)} (h:qa9 N n w t=some res):qb ZT (.fn 75) [.i n,vl encI w,.agg (nq1 t)] [] (vl (qm qa) res) []:=by
 unfold qa9 at h;refine Ub Tryz.func75 rfl rfl (m:=98) rfl (rs:=[.tmp 6]) rfl (l:=(kE n w [(2,.agg (nq1 t))])) rfl ?_;refine sg fol (kE n w (kAr [])) [.cells (nq1 t)] ?_;obtain⟨A,a1,h⟩:=bnd h;refine sq (gq fol [1] (kE n w (kD A [])) [.cells (nq1 t),.cells (A.flatMap (qi0 qa).c)] (ac (hs (.run [] (vR ZT 111 (.i n) (.i n)) [.cells (nq1 t)] (.slice 1 0 A.length A.length 1) [.cells (nq1 t),.cells (A.flatMap (qi0 qa).c)] false) (qfC qjn (E:=(qi0 qa)) (z:=[]) rfl (by kernel_rfl) a1 rfl)) az) ?_);refine Goes.sub (show Sub (ofG 98 (kE n w (kD A [])),[.cells (nq1 t),.cells (A.flatMap (qi0 qa).c)]) (ofG 98 (kE n w (kD A [])),[.cells (nq1 t),bg qa A])from(Sub.bagNil1 (E:=qa) (b:=1) rfl a1)) ?_;refine sq ?_;refine sh fol (kE n w (kD A [(20,.i (A.length:Int)),(21,.i 0)])) ?_;refine Goes.block ?_;obtain⟨r5,g5,h⟩:=bnd h;refine Goes.imp (Q:=fun x s'=>(x= .exit 0/\ ∃l4,l4=r5/\Sub s' (ofG 98 ((1,vl encI w)::(kD l4 [])),[.cells (nq1 t),bg qa l4]))) ?_ ?_
 ·refine Ud (fun M s=> ∃(q:List (List qo)) (f:Int),s=(ofG 98 (kE n w (kD q (kAb (A.length:Int) f))),[.cells (nq1 t),bg qa q])/\yz N n w A M q f=some r5) ?_ (m:=N) ⟨_,_,rfl,g5⟩;rintro M s ⟨q,f,rfl,g5⟩
  cases M with
  |zero=>simp only[yz]at g5;cases g5
  |succ M=>
   rw[yz]at g5;refine sh fol (kE n w (kD q [(20,.i (A.length:Int)),(21,.i f),(22,.bool (decide (f<(A.length:Int))))])) ?_;refine sq ?_;refine ihD g5 (fun c6 g5=>?_) (fun c6 g5=>?_)
   ·refine Goes.skip ?_;refine sq (Goes.block ?_);refine sh fol (kE n w (kD q ((8,.i f)::(kAb (A.length:Int) f)))) ?_;obtain⟨P,e_r7,g5⟩:=bnd g5;obtain⟨r,e_r8,g5⟩:=bnd g5;obtain⟨x10,K,g5⟩:=bnd g5;obtain⟨u11,a2,g5⟩:=bnd g5;refine sq (gq fol [2,5,6,7] (kE n w (kD q ((8,.i f)::(kAb (A.length:Int) f)))) (.cells (nq1 t):: .bag ((q.map (jh qa)).set (f:Int).toNat (.av (.slice 3 0 r.length r.length 4))):: .cells (nq1 P)::(kO r [])) (ac (cv (qdv 0 e_r7)) (ac (hs (.callH 145 [.slice 2 0 1 1 4,.i n] [.cells (nq1 t),bg qa q,.cells (nq1 P)] [2] (.slice 3 0 r.length r.length 4) (.cells (nq1 t)::bg qa q:: .cells (nq1 P)::(kO r []))) (zG [some 2] [none,none,some 0,some 1] (qde N P.Num.s P.Num.w P.Den.s P.Den.w n e_r8) (.kb rfl (.cells (rc (.same nI) (rc (.same (qcx ZU _)) (rc (.same nI) (rc (.same (qcx ZU _)) rn))))) .nil) rfl rfl (.old rfl rfl (.old rfl rfl (.back rfl rfl (.cells (rc (.same nI) (rc (.same (qcx ZU _)) (rc (.same nI) (rc (.same (qcx ZU _)) rn))))) rfl (.new rfl rfl (.same fa) rfl .nil)))) (rc (.slice rfl) (rc (.same nI) rn)) (.slice rfl) rfl)) (ac (hs (.done (.opt (qd ZT 111 (.slice 1 0 q.length q.length 1) (.i f))) (.ptr 1 ((f:Int).toNat*1+0))) (yS qjn K)) (ac (hs (.run [1] (qD ZT 120 (.ptr 1 ((f:Int).toNat*1+0)) (.slice 3 0 r.length r.length 4)) (.cells (nq1 t)::bg qa q:: .cells (nq1 P)::(kO r [])) .undef (.cells (nq1 t):: .bag ((q.map (jh qa)).set (f:Int).toNat (.av (.slice 3 0 r.length r.length 4))):: .cells (nq1 P)::(kO r [])) true) (qom (show _=some 1 by kernel_rfl) rfl (qrG K) rfl rfl rfl)) az)))) ?_);refine Goes.sub ((show Sub (ofG 98 (kE n w (kD q ((8,.i f)::(kAb (A.length:Int) f)))),(.cells (nq1 t):: .bag ((q.map (jh qa)).set (f:Int).toNat (.av (.slice 3 0 r.length r.length 4))):: .cells (nq1 P)::(kO r []))) (ofG 98 (kE n w (kD q ((8,.i f)::(kAb (A.length:Int) f)))),[.cells (nq1 t),bg qa (kz q f r),.cells (nq1 P),.dead])from(Ur (E:=qa) (b:=1) (c:=3) (Nat.ne_of_beq_eq_false rfl) rfl rfl K (.s (qtz a2)) rfl)).trans (show Sub (ofG 98 (kE n w (kD q ((8,.i f)::(kAb (A.length:Int) f)))),[.cells (nq1 t),bg qa (kz q f r),.cells (nq1 P),.dead]) (ofG 98 (kE n w (kD (kz q f r) ((8,.i f)::(kAb (A.length:Int) f)))),[.cells (nq1 t),bg qa (kz q f r)])from(Sub.norm [] [some 0,some 1] rfl rfl (.keep (.same nI) (.keep (.same (qf encI _)) (.kp (.keep (.sliceE rfl (qcC _ _ _)) (.keep (.same nI) (.keep (.same nI) (.keep (.same nI) .nil))))))) (.kb rfl (.same sn) (.kb rfl yh.bgs .nil))))) ?_;obtain⟨B,H,g5⟩:=bnd g5;refine Goes.sub (s':=(ofG 98 (kE n w (kD (kz q f r) ((8,.i f)::(kAb (A.length:Int) f)))),(.cells (nq1 t):: .bag (((kz q f r).map (jh qa)).set (f:Int).toNat (.av (.gslice 2 B.length 4)))::(kO B [])))) (Uy (E:=qa) (b:=1) rfl H) ?_;obtain⟨r14,a3,g5⟩:=bnd g5;obtain⟨x15,U,g5⟩:=bnd g5;obtain⟨G,V,g5⟩:=bnd g5;refine gq fol [2,3,5,6,7] (kE n w (kD (kz q f r) (kAb (A.length:Int) f))) (.cells (nq1 t):: .bag (((kz q f r).map (jh qa)).set (f:Int).toNat (.av (.gslice 2 B.length 4)))::(kO G [])) (ac (hs (.done (.opt (qd ZT 111 (.slice 1 0 (kz q f r).length (kz q f r).length 1) (.i f))) (.ptr 1 ((f:Int).toNat*1+0))) (yS qjn H)) (ac (hs (.run [1] (jb ZT 120 (.ptr 1 ((f:Int).toNat*1+0))) (.cells (nq1 t):: .bag (((kz q f r).map (jh qa)).set (f:Int).toNat (.av (.gslice 2 B.length 4)))::(kO B [])) (.gslice 2 B.length 4) (.cells (nq1 t):: .bag (((kz q f r).map (jh qa)).set (f:Int).toNat (.av (.gslice 2 B.length 4)))::(kO B [])) false) (qki qoe rfl (at_set H))) (ac (cv (qdv 1 a3)) (ac (hs (.done (.opt (qd ZT 120 (.gslice 2 B.length 4) (.i f))) (.ptr 2 ((f:Int).toNat*4+0))) (qaR qd4 U)) (ac (hs (.run [2] (qD ZT 117 (.ptr 2 ((f:Int).toNat*4+0)) (.agg (nq1 r14))) (.cells (nq1 t):: .bag (((kz q f r).map (jh qa)).set (f:Int).toNat (.av (.gslice 2 B.length 4)))::(kO B [])) .undef (.cells (nq1 t):: .bag (((kz q f r).map (jh qa)).set (f:Int).toNat (.av (.gslice 2 B.length 4)))::(kO G [])) true) (qa2 (E:=qa) (l:=B) (y:=r14) rfl (show _=some 4 by kernel_rfl) rfl U rfl rfl rfl (cac rfl (cac nvc (cac rfl (cac nvc can)))) rfl V rfl)) az))))) ?_;refine Goes.sub ((show Sub (ofG 98 (kE n w (kD (kz q f r) (kAb (A.length:Int) f))),(.cells (nq1 t):: .bag (((kz q f r).map (jh qa)).set (f:Int).toNat (.av (.gslice 2 B.length 4)))::(kO G []))) (ofG 98 (kE n w (kD (kz q f r) (kAb (A.length:Int) f))),[.cells (nq1 t),bg qa (kz (kz q f r) f G),.dead])from(Ur (E:=qa) (b:=1) (c:=2) (Nat.ne_of_beq_eq_false rfl) rfl rfl H .g (vG V))).trans (show Sub (ofG 98 (kE n w (kD (kz q f r) (kAb (A.length:Int) f))),[.cells (nq1 t),bg qa (kz (kz q f r) f G),.dead]) (ofG 98 (kE n w (kD (kz (kz q f r) f G) (kAb (A.length:Int) f))),[.cells (nq1 t),bg qa (kz (kz q f r) f G)])from(Sub.norm [] [some 0,some 1] rfl rfl (.keep (.same nI) (.keep (.same (qf encI _)) (.kp (.keep (.sliceE rfl (qcC _ _ _)) (.keep (.same nI) (.keep (.same nI) .nil)))))) (.kb rfl (.same sn) (.kb rfl yh.bgs .nil))))) ?_;refine gh fol (kE n w (kD (kz (kz q f r) f G) (kAb (A.length:Int) (w64 (f+1))))) ?_;exact⟨M,(ofG 98 (kE n w (kD (kz (kz q f r) f G) (kAb (A.length:Int) (w64 (f+1))))),[.cells (nq1 t),bg qa (kz (kz q f r) f G)]),Nat.lt_succ_self _,(Sub.refl _),_,_,rfl,g5⟩
   refine Goes.exit ?_;obtain rfl:=si g5;exact⟨rfl,_,rfl,(Sub.keep [1,5,7] rfl rfl)⟩
 rintro x s' ⟨rfl,l4,rfl,hsub⟩;refine Goes.sub hsub ?_;refine sq ?_;refine sh fol (kD l4 [(39,vl encI w),(40,.i (w.length:Int)),(41,.i 0)]) ?_;refine Goes.block ?_;obtain⟨r20,g20,h⟩:=bnd h;refine Goes.imp (Q:=fun x s'=>(x= .exit 2/\ ∃F,F=r20/\Sub s' (ofG 98 [(7,.slice 0 0 F.length F.length 1)],[bg qa F]))) ?_ ?_
 ·refine Ud (fun M s=> ∃(k:List (List qo)) (p:Int),s=(ofG 98 (kD k (kAl w (w.length:Int) p [])),[.cells (nq1 t),bg qa k])/\yw N w t M k p=some r20) ?_ (m:=N) ⟨_,_,rfl,g20⟩;rintro M s ⟨k,p,rfl,g20⟩
  cases M with
  |zero=>simp only[yw]at g20;cases g20
  |succ M=>
   rw[yw]at g20;refine sh fol (kD k (kAl w (w.length:Int) p [(42,.bool (decide (p<(w.length:Int))))])) ?_;refine sq ?_;refine ihD g20 (fun c21 g20=>?_) (fun c21 g20=>?_)
   ·refine Goes.skip ?_;refine sq (Goes.block ?_);obtain⟨a4,X,g20⟩:=bnd g20;refine sq (gr fol [0,1] (kD k ((10,.i a4)::(kAl w (w.length:Int) p []))) (ac (iv vo encI X) (ac (lv 0 ce3 encI X rfl) az)) ?_);obtain⟨o,a5,g20⟩:=bnd g20;obtain⟨j,a6,g20⟩:=bnd g20;refine sq (gq fol [1,5,8] (kD k (kAc (w64 (o-1)) (kAl w (w.length:Int) p []))) [.cells (nq1 t),bg qa k,.cells (nb4 j)] (ac (cv (qp a4 a5)) (ac (cv (qiB N a4 t a6)) (ac (hs (.run [2] (qD ZT 172 (.ptr 2 0) (.agg (nb4 j))) (.cells (nq1 t)::bg qa k::(kL [])) .undef [.cells (nq1 t),bg qa k,.cells (nb4 j)] true) (vC (n:=16) (by kernel_rfl) rfl rfl rfl rfl (cac rfl (cac nvc (cac rfl (cac nvc (cac rfl (cac nvc (cac rfl (cac nvc (cac rfl (cac nvc (cac rfl (cac nvc (cac rfl (cac nvc (cac rfl (cac nvc can)))))))))))))))) rfl)) az))) ?_);refine sh fol (kD k (kAc (w64 (o-1)) (kAl w (w.length:Int) p [(51,.slice 1 0 k.length k.length 1),(52,.i (k.length:Int)),(53,.i 0)]))) ?_;refine Goes.block ?_;obtain⟨r28,g28,g20⟩:=bnd g20;refine Goes.imp (Q:=fun x s'=>(x= .exit 4/\ ∃L,L=r28/\Sub s' (ofG 98 (kD L (kAl w (w.length:Int) p [])),[.cells (nq1 t),bg qa L]))) ?_ ?_
    ·refine Ud (fun M s=> ∃(a:List (List qo)) (d:Int),s=(ofG 98 (kD a (kAc (w64 (o-1)) (kJ w (w.length:Int) p a (k.length:Int) d []))),[.cells (nq1 t),bg qa a,.cells (nb4 j)])/\yJ N k o j M a d=some r28) ?_ (m:=N) ⟨_,_,rfl,g28⟩;rintro M s ⟨a,d,rfl,g28⟩
     cases M with
     |zero=>simp only[yJ]at g28;cases g28
     |succ M=>
      rw[yJ]at g28;refine sh fol (kD a (kAc (w64 (o-1)) (kJ w (w.length:Int) p a (k.length:Int) d [(54,.bool (decide (d<(k.length:Int))))]))) ?_;refine sq ?_;refine ihD g28 (fun c29 g28=>?_) (fun c29 g28=>?_)
      ·refine Goes.skip ?_;refine sq (Goes.block ?_);obtain⟨e,I,g28⟩:=bnd g28;refine sq (Goes.sub (s':=(ofG 98 (kD a (kAc (w64 (o-1)) (kJ w (w.length:Int) p a (k.length:Int) d [(54,.bool (decide (d<(k.length:Int))))]))),(.cells (nq1 t):: .bag ((a.map (jh qa)).set (d:Int).toNat (.av (.gslice 3 e.length 4))):: .cells (nb4 j)::(kO e [])))) (Uy (E:=qa) (b:=1) rfl I) ?_);refine gr fol [0,1] (kD a (kAc (w64 (o-1)) ((14,.gslice 3 e.length 4)::(kJ w (w.length:Int) p a (k.length:Int) d [])))) (ac (hs (.done (.opt (qd ZT 111 (.slice 1 0 a.length a.length 1) (.i d))) (.ptr 1 ((d:Int).toNat*1+0))) (yS qjn I)) (ac (hs (.run [1] (jb ZT 120 (.ptr 1 ((d:Int).toNat*1+0))) (.cells (nq1 t):: .bag ((a.map (jh qa)).set (d:Int).toNat (.av (.gslice 3 e.length 4))):: .cells (nb4 j)::(kO e [])) (.gslice 3 e.length 4) (.cells (nq1 t):: .bag ((a.map (jh qa)).set (d:Int).toNat (.av (.gslice 3 e.length 4))):: .cells (nb4 j)::(kO e [])) false) (qki qoe rfl (at_set I))) az)) ?_;obtain⟨u,J,g28⟩:=bnd g28;obtain⟨v,Y,g28⟩:=bnd g28;refine sq (gq fol [2,3,7,8,11,12] (kD a (kAc (w64 (o-1)) (kBB e (kJ w (w.length:Int) p a (k.length:Int) d [])))) (.cells (nq1 t):: .bag ((a.map (jh qa)).set (d:Int).toNat (.av (.gslice 3 e.length 4))):: .cells (nb4 j)::(kO e [.cells (nq1 u),.cells (nq1 v)])) (ac (hs (.done (.opt (qd ZT 120 (.gslice 3 e.length 4) (.i (w64 (o-1))))) (.ptr 3 ((w64 (o-1):Int).toNat*4+0))) (qaR qd4 J)) (ac (hs (.run [3] (jb ZT 117 (.ptr 3 ((w64 (o-1):Int).toNat*4+0))) (.cells (nq1 t):: .bag ((a.map (jh qa)).set (d:Int).toNat (.av (.gslice 3 e.length 4))):: .cells (nb4 j)::(kO e [])) (.agg (nq1 u)) (.cells (nq1 t):: .bag ((a.map (jh qa)).set (d:Int).toNat (.av (.gslice 3 e.length 4))):: .cells (nb4 j)::(kO e [])) false) (qtR qoj (E:=qa) (l:=e) rfl rfl J)) (ac (hs (.done (.opt (qd ZT 120 (.gslice 3 e.length 4) (.i (w64 ((w64 (o-1))+1))))) (.ptr 3 ((w64 ((w64 (o-1))+1):Int).toNat*4+0))) (qaR qd4 Y)) (ac (hs (.run [3] (jb ZT 117 (.ptr 3 ((w64 ((w64 (o-1))+1):Int).toNat*4+0))) (.cells (nq1 t):: .bag ((a.map (jh qa)).set (d:Int).toNat (.av (.gslice 3 e.length 4))):: .cells (nb4 j)::(kO e [])) (.agg (nq1 v)) (.cells (nq1 t):: .bag ((a.map (jh qa)).set (d:Int).toNat (.av (.gslice 3 e.length 4))):: .cells (nb4 j)::(kO e [])) false) (qtR qoj (E:=qa) (l:=e) rfl rfl Y)) (ac (hs (.run [4] (qD ZT 117 (.ptr 4 0) (.agg (nq1 u))) (.cells (nq1 t):: .bag ((a.map (jh qa)).set (d:Int).toNat (.av (.gslice 3 e.length 4))):: .cells (nb4 j)::(kO e (kH (kH [])))) .undef (.cells (nq1 t):: .bag ((a.map (jh qa)).set (d:Int).toNat (.av (.gslice 3 e.length 4))):: .cells (nb4 j)::(kO e (.cells (nq1 u)::(kH [])))) true) (vC (n:=4) (by kernel_rfl) rfl rfl rfl rfl (cac rfl (cac nvc (cac rfl (cac nvc can)))) rfl)) (ac (hs (.run [5] (qD ZT 117 (.ptr 5 0) (.agg (nq1 v))) (.cells (nq1 t):: .bag ((a.map (jh qa)).set (d:Int).toNat (.av (.gslice 3 e.length 4))):: .cells (nb4 j)::(kO e (.cells (nq1 u)::(kH [])))) .undef (.cells (nq1 t):: .bag ((a.map (jh qa)).set (d:Int).toNat (.av (.gslice 3 e.length 4))):: .cells (nb4 j)::(kO e [.cells (nq1 u),.cells (nq1 v)])) true) (vC (n:=4) (by kernel_rfl) rfl rfl rfl rfl (cac rfl (cac nvc (cac rfl (cac nvc can)))) rfl)) az)))))) ?_);obtain⟨r34,a7,g28⟩:=bnd g28;obtain⟨r35,a8,g28⟩:=bnd g28;obtain⟨r36,a9,g28⟩:=bnd g28;obtain⟨C,O,g28⟩:=bnd g28;refine sq (gq fol [6,11,12,13,14] (kD a (kAc (w64 (o-1)) (kBB e (kJ w (w.length:Int) p a (k.length:Int) d [])))) (.cells (nq1 t):: .bag ((a.map (jh qa)).set (d:Int).toNat (.av (.gslice 3 e.length 4))):: .cells (nb4 j)::(kO C [.cells (nq1 u),.cells (nq1 v)])) (ac (cv (qaX N u j.1.1 a7)) (ac (cv (qaX N v j.2.1 a8)) (ac (cv (qce N r34 r35 a9)) (ac (hs (.done (.opt (qd ZT 120 (.gslice 3 e.length 4) (.i (w64 (o-1))))) (.ptr 3 ((w64 (o-1):Int).toNat*4+0))) (qaR qd4 J)) (ac (hs (.run [3] (qD ZT 117 (.ptr 3 ((w64 (o-1):Int).toNat*4+0)) (.agg (nq1 r36))) (.cells (nq1 t):: .bag ((a.map (jh qa)).set (d:Int).toNat (.av (.gslice 3 e.length 4))):: .cells (nb4 j)::(kO e [.cells (nq1 u),.cells (nq1 v)])) .undef (.cells (nq1 t):: .bag ((a.map (jh qa)).set (d:Int).toNat (.av (.gslice 3 e.length 4))):: .cells (nb4 j)::(kO C [.cells (nq1 u),.cells (nq1 v)])) true) (qa2 (E:=qa) (l:=e) (y:=r36) rfl (show _=some 4 by kernel_rfl) rfl J rfl rfl rfl (cac rfl (cac nvc (cac rfl (cac nvc can)))) rfl O rfl)) az))))) ?_);refine Goes.sub (show Sub (ofG 98 (kD a (kAc (w64 (o-1)) (kBB e (kJ w (w.length:Int) p a (k.length:Int) d [])))),(.cells (nq1 t):: .bag ((a.map (jh qa)).set (d:Int).toNat (.av (.gslice 3 e.length 4))):: .cells (nb4 j)::(kO C [.cells (nq1 u),.cells (nq1 v)]))) (ofG 98 (kD a ((11,.i (w64 (o-1)))::(12,.ptr 3 0)::(14,.gslice 2 C.length 4)::(15,.ptr 4 0)::(16,.ptr 5 0)::(kJ w (w.length:Int) p a (k.length:Int) d []))),(.cells (nq1 t):: .bag ((a.map (jh qa)).set (d:Int).toNat (.av (.gslice 2 C.length 4)))::(kO C [.cells (nb4 j),.cells (nq1 u),.cells (nq1 v)])))from(Sub.norm [] [some 0,some 1,some 3,some 2,some 4,some 5] rfl rfl (.kp (.keep (.slice rfl) (.keep (.same nI) (.kp (.keep (.gsliceE rfl (vG O)) (.kp (.kp (.keep (.same (qf encI _)) (.keep (.same nI) (.keep (.same nI) (.keep (.slice rfl) (.keep (.same nI) (.keep (.same nI) .nil))))))))))))) (.kb rfl (.same sn) (.kb rfl (yh.bgv (.gsliceE rfl (vG O))) (.ks (.kb rfl (.same sn) (.kb rfl (.same sn) (.kb rfl (.same sn) .nil)))))))) ?_;obtain⟨r38,b0,g28⟩:=bnd g28;obtain⟨r39,b1,g28⟩:=bnd g28;obtain⟨r40,b2,g28⟩:=bnd g28;obtain⟨x41,Z,g28⟩:=bnd g28;obtain⟨D,a0,g28⟩:=bnd g28;refine gq fol [7,12,13,14,15] (kD a ((11,.i (w64 (o-1)))::(12,.ptr 3 0)::(kJ w (w.length:Int) p a (k.length:Int) d []))) (.cells (nq1 t):: .bag ((a.map (jh qa)).set (d:Int).toNat (.av (.gslice 2 C.length 4)))::(kO D [.cells (nb4 j),.cells (nq1 u),.cells (nq1 v)])) (ac (cv (qaX N u j.1.2 b0)) (ac (cv (qaX N v j.2.2 b1)) (ac (cv (qce N r38 r39 b2)) (ac (hs (.done (.opt (qd ZT 120 (.gslice 2 C.length 4) (.i (w64 ((w64 (o-1))+1))))) (.ptr 2 ((w64 ((w64 (o-1))+1):Int).toNat*4+0))) (qaR qd4 Z)) (ac (hs (.run [2] (qD ZT 117 (.ptr 2 ((w64 ((w64 (o-1))+1):Int).toNat*4+0)) (.agg (nq1 r40))) (.cells (nq1 t):: .bag ((a.map (jh qa)).set (d:Int).toNat (.av (.gslice 2 C.length 4)))::(kO C [.cells (nb4 j),.cells (nq1 u),.cells (nq1 v)])) .undef (.cells (nq1 t):: .bag ((a.map (jh qa)).set (d:Int).toNat (.av (.gslice 2 C.length 4)))::(kO D [.cells (nb4 j),.cells (nq1 u),.cells (nq1 v)])) true) (qa2 (E:=qa) (l:=C) (y:=r40) rfl (show _=some 4 by kernel_rfl) rfl Z rfl rfl rfl (cac rfl (cac nvc (cac rfl (cac nvc can)))) rfl a0 rfl)) az))))) ?_;refine Goes.sub ((show Sub (ofG 98 (kD a ((11,.i (w64 (o-1)))::(12,.ptr 3 0)::(kJ w (w.length:Int) p a (k.length:Int) d []))),(.cells (nq1 t):: .bag ((a.map (jh qa)).set (d:Int).toNat (.av (.gslice 2 C.length 4)))::(kO D [.cells (nb4 j),.cells (nq1 u),.cells (nq1 v)]))) (ofG 98 (kD a ((11,.i (w64 (o-1)))::(12,.ptr 3 0)::(kJ w (w.length:Int) p a (k.length:Int) d []))),[.cells (nq1 t),bg qa (kz a d D),.dead,.cells (nb4 j),.cells (nq1 u),.cells (nq1 v)])from(Ur (E:=qa) (b:=1) (c:=2) (Nat.ne_of_beq_eq_false rfl) rfl rfl I .g (vG a0))).trans (show Sub (ofG 98 (kD a ((11,.i (w64 (o-1)))::(12,.ptr 3 0)::(kJ w (w.length:Int) p a (k.length:Int) d []))),[.cells (nq1 t),bg qa (kz a d D),.dead,.cells (nb4 j),.cells (nq1 u),.cells (nq1 v)]) (ofG 98 (kD (kz a d D) (kAc (w64 (o-1)) (kJ w (w.length:Int) p (kz a d D) (k.length:Int) d []))),[.cells (nq1 t),bg qa (kz a d D),.cells (nb4 j)])from(Sub.norm [] [some 0,some 1,some 3] rfl rfl (.kp (.keep (.sliceE rfl (qcC _ _ _)) (.keep (.same nI) (.kp (.keep (.same (qf encI _)) (.keep (.same nI) (.keep (.same nI) (.keep (.sliceE rfl (qcC _ _ _)) (.keep (.same nI) (.keep (.same nI) .nil)))))))))) (.kb rfl (.same sn) (.kb rfl yh.bgs (.kb rfl (.same sn) .nil)))))) ?_;refine gh fol (kD (kz a d D) (kAc (w64 (o-1)) (kJ w (w.length:Int) p (kz a d D) (k.length:Int) (w64 (d+1)) []))) ?_;exact⟨M,(ofG 98 (kD (kz a d D) (kAc (w64 (o-1)) (kJ w (w.length:Int) p (kz a d D) (k.length:Int) (w64 (d+1)) []))),[.cells (nq1 t),bg qa (kz a d D),.cells (nb4 j)]),Nat.lt_succ_self _,(Sub.refl _),_,_,rfl,g28⟩
      refine Goes.exit ?_;obtain rfl:=si g28;exact⟨rfl,_,rfl,(Sub.norm [] [some 0,some 1] rfl rfl (.kp (.keep (.slice rfl) (.drop (.drop (.keep (.same (qf encI _)) (.keep (.same nI) (.keep (.same nI) .nil))))))) (.kb rfl (.same sn) (.kb rfl yh.bgs .nil)))⟩
    rintro x s' ⟨rfl,L,rfl,hsub⟩;refine Goes.sub hsub ?_;refine gh fol (kD L (kAl w (w.length:Int) (w64 (p+1)) [])) ?_;exact⟨M,(ofG 98 (kD L (kAl w (w.length:Int) (w64 (p+1)) [])),[.cells (nq1 t),bg qa L]),Nat.lt_succ_self _,(Sub.refl _),_,_,rfl,g20⟩
   refine Goes.exit ?_;obtain rfl:=si g20;exact⟨rfl,_,rfl,(Sub.norm [] [some 1] rfl rfl (.drop (.keep (.slice rfl) .nil)) (.kb rfl yh.bgs .nil))⟩
 rintro x s' ⟨rfl,F,rfl,hsub⟩;refine Goes.sub hsub ?_;refine sh fol [(6,.slice 0 0 F.length F.length 1)] ?_;refine Goes.sub (s':=(ofG 98 [(6,.slice 0 0 F.length F.length 1)],[.frozen (F.flatMap (qm qa).c)])) (Sub.bagFreeze (E:=qa) (b:=0) rfl) ?_;refine Goes.ret ?_;obtain rfl:=si h;exact(gw2 [.slice 0 0 F.length F.length 1] (Ut (Fz.slF (E:=(qm qa)) rfl rfl (nl rfl))))
def qbP (a:qY) (b:qY):Option Int:=
 (if a.w.isEmpty=true then
 some b.w.isEmpty
 else
 some false:Option Bool).bind fun c=>
 if c=true then
 if a.s<b.s then
 some (-1)
 else
 if a.s>b.s then
 some 1
 else
 some 0
 else
 none
theorem qiL (a:qY) (b:qY) {res:Int} (h:qbP a b=some res):qb ZT (.fn 143) [.agg (nz1 a),.agg (nz1 b)] [] (.i res) []:=by
 unfold qbP at h;refine Ub Tryz.func143 rfl rfl (m:=29) rfl (rs:=[.tmp 4]) rfl (l:=[(0,.agg (nz1 a)),(1,.agg (nz1 b))]) rfl ?_;refine sg fol (kAe []) [.cells (nz1 a),.cells (nz1 b)] ?_;refine sq ?_;refine sq ?_;obtain⟨e,c,h⟩:=bnd h;refine Goes.cut (s':=(ofG 29 (kAe [(12,.bool e)]),[.cells (nz1 a),.cells (nz1 b)])) ?_ ?_
 ·rcases wyB c with⟨d,c⟩|⟨d,c⟩
  ·obtain rfl:=si c;exact tr fol [2,3,6] (kAe [(12,.bool b.w.isEmpty)]) (ac (hs (.done (.opt (qab ZT .eql 113 (.tmp 6) (.const (.slice none 0 0)) (nvl ZU a.w) .nilslice)) (.bool a.w.isEmpty)) (qbc xn)) (ac (gw d) (ac (hs (.done (.opt (qab ZT .eql 113 (.tmp 10) (.const (.slice none 0 0)) (nvl ZU b.w) .nilslice)) (.bool b.w.isEmpty)) (qbc xn)) az)))
  obtain rfl:=si c;exact tr fol [2,3] (kAe [(12,.bool false)]) (ac (hs (.done (.opt (qab ZT .eql 113 (.tmp 6) (.const (.slice none 0 0)) (nvl ZU a.w) .nilslice)) (.bool a.w.isEmpty)) (qbc xn)) (ac (gw d) az))
 refine ihB h (fun f h=>?_) (fun f h=>?_)
 ·refine sq (Goes.block ?_);refine sh fol (kAe [(13,.bool (decide (a.s<b.s)))]) ?_;refine ihD h (fun g h=>?_) (fun g h=>?_)
  ·refine sh fol [(4,.i (-1))] ?_;refine Goes.ret ?_;obtain rfl:=si h;exact(gw2 [.i (-1)] (Ua tI))
  refine sh fol [(19,.bool (decide (a.s>b.s)))] ?_;refine ihD h (fun c6 h=>?_) (fun c6 h=>?_)
  ·refine sh fol [(4,.i 1)] ?_;refine Goes.ret ?_;obtain rfl:=si h;exact(gw2 [.i 1] (Ua tI))
  refine Goes.skip ?_;refine sh fol [(4,.i 0)] ?_;refine Goes.ret ?_;obtain rfl:=si h;exact(gw2 [.i 0] (Ua tI))
 refine Goes.skip ?_;refine sq ?_;cases h
def qbi (a:qo) (b:qo):Option Int:=
 (jo a.Num b.Den).bind fun c=>
 (jo b.Num a.Den).bind fun d=>
 (qbP c d).bind fun e=>
 some e
theorem qg7 (a:qo) (b:qo) {res:Int} (h:qbi a b=some res):qb ZT (.fn 182) [.agg (nq1 a),.agg (nq1 b)] [] (.i res) []:=by
 unfold qbi at h;refine Ub Tryz.func182 rfl rfl (m:=16) rfl (rs:=[.tmp 4]) rfl (l:=[(0,.agg (nq1 a)),(1,.agg (nq1 b))]) rfl ?_;refine sg fol (kAe []) [.cells (nq1 a),.cells (nq1 b)] ?_;obtain⟨g,c,h⟩:=bnd h;obtain⟨j,d,h⟩:=bnd h;obtain⟨f,e,h⟩:=bnd h;refine sq (gr fol [4,9,10] [(4,.i f)] (ac (cv (yI a.Num b.Den c)) (ac (cv (yI b.Num a.Den d)) (ac (cv (qiL g j e)) az))) ?_);refine Goes.ret ?_;obtain rfl:=si h;exact(gw2 [.i f] (Ua tI))
def yX (a:qo) (b:qo):Option Bool:=
 (qbi a b).bind fun c=>
 some (decide (c=0))
theorem qgN (a:qo) (b:qo) {res:Bool} (h:yX a b=some res):qb ZT (.fn 130) [.agg (nq1 a),.agg (nq1 b)] [] (.bool res) []:=by
 unfold yX at h;refine Ub Tryz.func130 rfl rfl (m:=9) rfl (rs:=[.tmp 4]) rfl (l:=[(0,.agg (nq1 a)),(1,.agg (nq1 b))]) rfl ?_;refine sg fol (kAe []) [.cells (nq1 a),.cells (nq1 b)] ?_;obtain⟨d,c,h⟩:=bnd h;refine sq (gr fol [2] (kA2 (decide (d=0))) (ac (cv (qg7 a b c)) az) ?_);refine Goes.ret ?_;obtain rfl:=si h;exact(gw2 [.bool (decide (d=0))] (Ua tB))
def qK (a:List qo) (b:List qo):Nat->Int->Option (Unit⊕Bool)
 |0,_=>none
 |K+1,c=>
  if c<(a.length:Int)then
  (idx a c).bind fun d=>
  (idx b c).bind fun e=>
  (yX d e).bind fun f=>
  if(!f)=true then
  some (.inr false)
  else
  qK a b K (w64 (c+1))
  else
  some (.inl ())
def jv (N:Nat) (a:List qo) (b:List qo):Option Bool:=
 if(!decide ((a.length:Int)=(b.length:Int)))=true then
 some false
 else
 (qK a b N 0).bind (fun
 |(.inl ())=>
 some true
 |(.inr c)=>
 some c)
theorem qcp (N:Nat) (a:List qo) (b:List qo) {res:Bool} (h:jv N a b=some res):qb ZT (.fn 129) [vl qa a,vl qa b,.func (.func 130) [] []] [] (.bool res) []:=by
 unfold jv at h;refine Ub Tryz.func129 rfl rfl (m:=32) rfl (rs:=[.tmp 6]) rfl (l:=((0,vl qa a)::(kA7 b [(2,.func (.func 130) [] [])]))) rfl ?_;refine sh fol ((0,vl qa a)::(kA7 b [(2,.func (.func 130) [] [])])) ?_;refine sq ?_;refine sh fol ((0,vl qa a)::(kA7 b [(2,.func (.func 130) [] []),(14,.bool (!decide ((a.length:Int)=(b.length:Int))))])) ?_;refine ihB h (fun p h=>?_) (fun p h=>?_)
 ·refine sh fol kAh ?_;refine Goes.ret ?_;obtain rfl:=si h;exact(gw2 [.bool false] (Ua tB))
 refine Goes.skip ?_;refine sq ?_;refine sh fol (kA7 b [(2,.func (.func 130) [] []),(15,vl qa a),(16,.i (a.length:Int)),(17,.i 0)]) ?_;refine Goes.block ?_;obtain⟨k,g3,h⟩:=bnd h;refine Goes.imp (Q:=fun x s'=>(x= .exit 0/\(.inl ())=k/\Sub s' (ofG 32 [],[]))\/(x= .ret/\ ∃o,(.inr o)=k/\jM ZT [.tmp 6] (.bool o) .ret s')) ?_ ?_
 ·refine Ud (fun M s=> ∃(c:Int),s=(ofG 32 (kA7 b ((2,.func (.func 130) [] [])::(15,vl qa a)::(kAE (a.length:Int) c))),[])/\qK a b M c=some k) ?_ (m:=N) ⟨_,rfl,g3⟩;rintro M s ⟨c,rfl,g3⟩
  cases M with
  |zero=>simp only[qK]at g3;cases g3
  |succ M=>
   rw[qK]at g3;refine sh fol (kA7 b [(2,.func (.func 130) [] []),(15,vl qa a),(16,.i (a.length:Int)),(17,.i c),(18,.bool (decide (c<(a.length:Int))))]) ?_;refine sq ?_;refine ihD g3 (fun q g3=>?_) (fun q g3=>?_)
   ·refine Goes.skip ?_;refine sq (Goes.block ?_);obtain⟨f,d,g3⟩:=bnd g3;refine sq (gq fol [1,2,5] (kA7 b ((2,.func (.func 130) [] [])::(7,.i c)::(8,.ptr 0 0)::(15,vl qa a)::(kAE (a.length:Int) c))) [.cells (nq1 f)] (ac (iv qd4 qa d) (ac (la qoj qa d) (ac (hs (.run [0] (qD ZT 117 (.ptr 0 0) (.agg (nq1 f))) (kH []) .undef [.cells (nq1 f)] true) (vC (n:=4) (by kernel_rfl) rfl rfl rfl rfl (cac rfl (cac nvc (cac rfl (cac nvc can)))) rfl)) az))) ?_);obtain⟨j,e,g3⟩:=bnd g3;refine sq (gq fol [2,3,5] (kA7 b ((2,.func (.func 130) [] [])::(8,.ptr 0 0)::(9,.ptr 1 0)::(15,vl qa a)::(kAE (a.length:Int) c))) [.cells (nq1 f),.cells (nq1 j)] (ac (iv qd4 qa e) (ac (la qoj qa e) (ac (hs (.run [1] (qD ZT 117 (.ptr 1 0) (.agg (nq1 j))) (.cells (nq1 f)::(kH [])) .undef [.cells (nq1 f),.cells (nq1 j)] true) (vC (n:=4) (by kernel_rfl) rfl rfl rfl rfl (cac rfl (cac nvc (cac rfl (cac nvc can)))) rfl)) az))) ?_);obtain⟨r,g,g3⟩:=bnd g3;refine sq (gr fol [3] (kA7 b [(2,.func (.func 130) [] []),(15,vl qa a),(16,.i (a.length:Int)),(17,.i c),(30,.bool (!r))]) (ac (cv (qgN f j g)) az) ?_);refine ihB g3 (fun t g3=>?_) (fun t g3=>?_)
    ·refine sh fol kAh ?_;refine Goes.ret ?_;obtain rfl:=si g3;exact Or.inr (⟨rfl,_,rfl,(gw2 [.bool false] (Ua tB))⟩)
    refine Goes.skip ?_;refine gh fol (kA7 b ((2,.func (.func 130) [] [])::(15,vl qa a)::(kAE (a.length:Int) (w64 (c+1))))) ?_;exact⟨M,(ofG 32 (kA7 b ((2,.func (.func 130) [] [])::(15,vl qa a)::(kAE (a.length:Int) (w64 (c+1))))),[]),Nat.lt_succ_self _,(Sub.norm [] [] rfl rfl (.keep (.same (qf qa _)) (.keep (.same (qA.func sn sn)) (.keep (.same (qf qa _)) (.keep (.same nI) (.keep (.same nI) .nil))))) .nil),_,rfl,g3⟩
   refine Goes.exit ?_;obtain rfl:=si g3;exact Or.inl (⟨rfl,rfl,(Sub.keep [] rfl rfl)⟩)
 rintro x s' (⟨rfl,rfl,hsub⟩|⟨rfl,u,rfl,hret⟩)
 ·try dsimp only at h
  refine Goes.sub hsub ?_;refine sh fol [(6,.bool true)] ?_;refine Goes.ret ?_;obtain rfl:=si h;exact(gw2 [.bool true] (Ua tB))
 try dsimp only at h
 obtain rfl:=si h;exact hret
def zX (N:Nat) (v:List qo) (w:List qo):Option Bool:=
 (jv N v w).bind fun a=>
 some a
theorem qdl (N:Nat) (v:List qo) (w:List qo) {res:Bool} (h:zX N v w=some res):qb ZT (.fn 128) [vl qa v,vl qa w] [] (.bool res) []:=by
 unfold zX at h;refine Ub Tryz.func128 rfl rfl (m:=8) rfl (rs:=[.tmp 4]) rfl (l:=((0,vl qa v)::(kA7 w []))) rfl ?_;refine sh fol ((0,vl qa v)::(kA7 w [])) ?_;obtain⟨b,a,h⟩:=bnd h;refine sq (gr fol [2] (kA2 b) (ac (hs (.call 129 [vl qa v,vl qa w,.func (.func 130) [] []] [] [] [vl qa v,vl qa w,.func (.func 130) [] []] (.bool b)) (qcJ (FzL.cons (Uc (qy qa _ (nl rfl))) (FzL.cons (Uc (qy qa _ (nl rfl))) (FzL.cons (Fz.func FzL.nil FzL.nil) FzL.nil))) (qcp N v w a) tB)) az) ?_);refine Goes.ret ?_;obtain rfl:=si h;exact(gw2 [.bool b] (Ua tB))
def zA:Nat->(List Int)->Int->Int->Option (List Int)
 |0,_,_,_=>none
 |K+1,c,d,a=>
  if d<a then
  (idx c a).bind fun f=>
  (idx c d).bind fun g=>
  (put c d f).bind fun b=>
  (idx b a).bind fun h=>
  (put b a g).bind fun e=>
  zA K e (w64 (d+1)) (w64 (a-1))
  else
  some c
def j6 (N:Nat) (a:List Int):Option (List Int):=
 (zA N a 0 (w64 ((a.length:Int)-1))).bind fun b=>
 some b
theorem qdk (N:Nat) (b:List Int) {t:List Int} (h:j6 N b=some t):qb ZT (.fn 164) [.slice 0 0 b.length b.length 1] (kA b []) (.tuple []) (kA t []):=by
 unfold j6 at h;refine Ug Tryz.func164 rfl rfl (m:=28) rfl (rs:=[]) rfl (l:=[(0,.slice 0 0 b.length b.length 1)]) rfl ?_;intro B hB;refine Ul ?_;refine sh fol [(0,.slice 0 0 b.length b.length 1),(2,.i 0),(3,.i (w64 ((b.length:Int)-1)))] ?_;refine Goes.block ?_;obtain⟨u,g6,h⟩:=bnd h;refine Goes.imp (Q:=fun x s'=>(x= .exit 0/\ ∃p,p=u/\Sub s' (ofG 28 [],(kA p [])))) ?_ ?_
 ·refine Ud (fun M s=> ∃(a:List Int) (d:Int) (e:Int),s=(ofG 28 (kAW a d e []),(kA a []))/\zA M a d e=some u) ?_ (m:=N) ⟨_,_,_,rfl,g6⟩;rintro M s ⟨a,d,e,rfl,g6⟩
  cases M with
  |zero=>simp only[zA]at g6;cases g6
  |succ M=>
   rw[zA]at g6;refine sq ?_;refine sh fol (kAW a d e [(9,.bool (decide (d<e)))]) ?_;refine ihD g6 (fun v g6=>?_) (fun v g6=>?_)
   ·refine Goes.skip ?_;refine sq (Goes.block ?_);obtain⟨q,g,g6⟩:=bnd g6;obtain⟨r,f,g6⟩:=bnd g6;obtain⟨n,j,g6⟩:=bnd g6;obtain⟨w,o,g6⟩:=bnd g6;obtain⟨c,k,g6⟩:=bnd g6;refine gq fol [6,7,10,11,12,13,14,15] (kAW a d e []) (kA c []) (ac (hs (.done (.opt (qd ZT 133 (.slice 0 0 a.length a.length 1) (.i e))) (.ptr 0 ((e:Int).toNat*1+0))) (yS qa5 g)) (ac (hs (.run [0] (jb ZT 3 (.ptr 0 ((e:Int).toNat*1+0))) (kA a []) (.i q) (kA a []) false) (qcW ce3 (E:=encI) (l:=a) rfl rfl g (nl rfl) rfl)) (ac (hs (.done (.opt (qd ZT 133 (.slice 0 0 a.length a.length 1) (.i d))) (.ptr 0 ((d:Int).toNat*1+0))) (yS qa5 f)) (ac (hs (.run [0] (jb ZT 3 (.ptr 0 ((d:Int).toNat*1+0))) (kA a []) (.i r) (kA a []) false) (qcW ce3 (E:=encI) (l:=a) rfl rfl f (nl rfl) rfl)) (ac (hs (.done (.opt (qd ZT 133 (.slice 0 0 a.length a.length 1) (.i d))) (.ptr 0 ((d:Int).toNat*1+0))) (yS qa5 f)) (ac (hs (.run [0] (qD ZT 3 (.ptr 0 ((d:Int).toNat*1+0)) (.i q)) (kA a []) .undef (kA n []) true) (qa2 (E:=encI) (l:=a) (y:=q) rfl (show _=some 1 by kernel_rfl) rfl f rfl rfl rfl rfl rfl j rfl)) (ac (hs (.done (.opt (qd ZT 133 (.slice 0 0 a.length a.length 1) (.i e))) (.ptr 0 ((e:Int).toNat*1+0))) (yS qa5 g)) (ac (hs (.run [0] (qD ZT 3 (.ptr 0 ((e:Int).toNat*1+0)) (.i r)) (kA n []) .undef (kA c []) true) (qa2 (E:=encI) (l:=n) (y:=r) rfl (show _=some 1 by kernel_rfl) rfl o rfl rfl rfl rfl rfl k rfl)) az)))))))) ?_;refine Goes.sub (show Sub (ofG 28 (kAW a d e []),(kA c [])) (ofG 28 (kAW c d e []),(kA c []))from(Sub.norm [] [some 0] (by rw[hB];rfl) rfl (.keep (.sliceE rfl ((vG j).trans (vG k))) (.keep (.same nI) (.keep (.same nI) .nil))) (.ks .nil))) ?_;refine gh fol (kAW c (w64 (d+1)) (w64 (e-1)) []) ?_;exact⟨M,(ofG 28 (kAW c (w64 (d+1)) (w64 (e-1)) []),(kA c [])),Nat.lt_succ_self _,(Sub.refl _),_,_,_,rfl,g6⟩
   refine Goes.exit ?_;obtain rfl:=si g6;exact⟨rfl,_,rfl,(Sub.keep [] rfl rfl)⟩
 rintro x s' ⟨rfl,p,rfl,hsub⟩;obtain rfl:=si h;exact⟨_,hsub,(gh2 [] (qbI.refl _ _))⟩
def qbE (N:Nat) (n:Int):Option (List Int):=
 (z8 N n).bind fun a=>
 (j6 N a).bind fun b=>
 ((if a.length=b.length then some ()else none:Option Unit)).bind fun c=>
 some b
theorem qff (N:Nat) (n:Int) {res:List Int} (h:qbE N n=some res):qb ZT (.fn 96) [.i n] [] (vl encI res) []:=by
 unfold qbE at h;refine Ub Tryz.func96 rfl rfl (m:=9) rfl (rs:=[.tmp 2]) rfl (l:=[(0,.i n)]) rfl ?_;refine sh fol [(0,.i n)] ?_;obtain⟨a,c,h⟩:=bnd h;refine sq (gq fol [1] (kU a []) (kA a []) (ac (hs (.callH 106 [.i n] [] [] (.slice 0 0 a.length a.length 1) (kA a [])) (zG [] [some 0] (vH N n c) .nil rfl rfl (.new rfl rfl (.same fa) rfl .nil) (rc (.same nI) rn) (.slice rfl) rfl)) az) ?_);obtain⟨b,d,h⟩:=bnd h;obtain⟨f,e,h⟩:=bnd h;refine sq (gq fol [1] (kU a []) (kA b []) (ac (hs (.callH 164 [.slice 0 0 a.length a.length 1] (kA a []) [0] (.tuple []) (kA b [])) (zG [some 0] [some 0] (qdk N a d) (.ks .nil) rfl rfl (.back rfl rfl (.same fa) rfl .nil) (rc (.slice rfl) rn) (.same (qA.tuple sn)) rfl)) az) ?_);refine Goes.sub (show Sub (ofG 9 (kU a []),(kA b [])) (ofG 9 (kU b []),(kA b []))from(Sub.norm [] [some 0] rfl rfl (.keep (.sliceE rfl (qol e)) .nil) (.ks .nil))) ?_;refine sh fol (kBD b) ?_;refine Goes.ret ?_;obtain rfl:=si h;exact(gw2 [.slice 0 0 b.length b.length 1] (Ut (Fz.sl (E:=encI) rfl rfl (nl rfl))))
def jd (p:List Int) (i:Int):Option (List Int):=
 (qio p).bind fun _=>
 (idx p (w64 (i+1))).bind fun b=>
 (idx p i).bind fun c=>
 (put p i b).bind fun a=>
 (idx a (w64 (i+1))).bind fun e=>
 (put a (w64 (i+1)) c).bind fun d=>
 some d
theorem xg (p:List Int) (i:Int) {res:List Int} (h:jd p i=some res):qb ZT (.fn 107) [vl encI p,.i i] [] (vl encI res) []:=by
 unfold jd at h;refine Ub Tryz.func107 rfl rfl (m:=25) rfl (rs:=[.tmp 4]) rfl (l:=(kAP p (kBC i))) rfl ?_;refine sh fol (kAP p (kBC i)) ?_;obtain⟨_,f,h⟩:=bnd h;refine sq (gq fol [1] [(1,.i i),(5,.gslice 0 p.length 1)] (kA p []) (ac (hs (.callH 165 [vl encI p] [] [] (.gslice 0 p.length 1) (kA p [])) (zG [] [some 0] (qoV p f) .nil rfl rfl (.new rfl rfl (.same fa) rfl .nil) (rc (.same (qf encI _)) rn) (.gslice rfl) rfl)) az) ?_);obtain⟨j,b,h⟩:=bnd h;obtain⟨k,a,h⟩:=bnd h;obtain⟨n,c,h⟩:=bnd h;obtain⟨o,g,h⟩:=bnd h;obtain⟨e,d,h⟩:=bnd h;refine sq (gq fol [8,9,12,13,14,15,16,17] [(5,.gslice 0 p.length 1)] (kA e []) (ac (hs (.done (.opt (qd ZT 133 (.gslice 0 p.length 1) (.i (w64 (i+1))))) (.ptr 0 ((w64 (i+1):Int).toNat*1+0))) (qaR qa5 b)) (ac (hs (.run [0] (jb ZT 3 (.ptr 0 ((w64 (i+1):Int).toNat*1+0))) (kA p []) (.i j) (kA p []) false) (qcW ce3 (E:=encI) (l:=p) rfl rfl b (nl rfl) rfl)) (ac (hs (.done (.opt (qd ZT 133 (.gslice 0 p.length 1) (.i i))) (.ptr 0 ((i:Int).toNat*1+0))) (qaR qa5 a)) (ac (hs (.run [0] (jb ZT 3 (.ptr 0 ((i:Int).toNat*1+0))) (kA p []) (.i k) (kA p []) false) (qcW ce3 (E:=encI) (l:=p) rfl rfl a (nl rfl) rfl)) (ac (hs (.done (.opt (qd ZT 133 (.gslice 0 p.length 1) (.i i))) (.ptr 0 ((i:Int).toNat*1+0))) (qaR qa5 a)) (ac (hs (.run [0] (qD ZT 3 (.ptr 0 ((i:Int).toNat*1+0)) (.i j)) (kA p []) .undef (kA n []) true) (qa2 (E:=encI) (l:=p) (y:=j) rfl (show _=some 1 by kernel_rfl) rfl a rfl rfl rfl rfl rfl c rfl)) (ac (hs (.done (.opt (qd ZT 133 (.gslice 0 p.length 1) (.i (w64 (i+1))))) (.ptr 0 ((w64 (i+1):Int).toNat*1+0))) (qaR qa5 b)) (ac (hs (.run [0] (qD ZT 3 (.ptr 0 ((w64 (i+1):Int).toNat*1+0)) (.i k)) (kA n []) .undef (kA e []) true) (qa2 (E:=encI) (l:=n) (y:=k) rfl (show _=some 1 by kernel_rfl) rfl g rfl rfl rfl rfl rfl d rfl)) az)))))))) ?_);refine Goes.sub (show Sub (ofG 25 [(5,.gslice 0 p.length 1)],(kA e [])) (ofG 25 [(5,.gslice 0 e.length 1)],(kA e []))from(Sub.norm [] [some 0] rfl rfl (.keep (.gsliceE rfl ((vG c).trans (vG d))) .nil) (.ks .nil))) ?_;refine sh fol [(4,.gslice 0 e.length 1)] ?_;refine Goes.ret ?_;obtain rfl:=si h;exact(gw2 [.gslice 0 e.length 1] (Ut (Fz.gs (E:=encI) rfl rfl (nl rfl))))
def zI (p:List Int):Nat->(List Int)->Int->Option (List Int)
 |0,_,_=>none
 |K+1,b,a=>
  if a<(p.length:Int)then
  (idx p a).bind fun c=>
  (idx b (w64 ((w64 ((p.length:Int)-1))-a))).bind fun e=>
  (put b (w64 ((w64 ((p.length:Int)-1))-a)) (w64 ((w64 ((p.length:Int)-1))-c))).bind fun d=>
  zI p K d (w64 (a+1))
  else
  some b
def vJ (N:Nat) (p:List Int):Option (List Int):=
 (mk 8 (p.length:Int) 0).bind fun a=>
 (zI p N a 0).bind fun b=>
 some b
theorem qdA (N:Nat) (p:List Int) {res:List Int} (h:vJ N p=some res):qb ZT (.fn 109) [vl encI p] [] (vl encI res) []:=by
 unfold vJ at h;refine Ub Tryz.func109 rfl rfl (m:=30) rfl (rs:=[.tmp 2]) rfl (l:=(kAP p [])) rfl ?_;refine sh fol (kAP p []) ?_;refine sh fol (kAP p [(3,.i (p.length:Int))]) ?_;obtain⟨j,k,h⟩:=bnd h;refine sq (gq fol [1] (kAP p [(3,.i (p.length:Int)),(4,.slice 0 0 j.length j.length 1)]) (kA j []) (ac (hs (.run [] (vR ZT 133 (.i (p.length:Int)) (.i (p.length:Int))) [] (.slice 0 0 j.length j.length 1) (kA j []) false) (qfC qa5 (E:=encI) (z:=0) rfl (by kernel_rfl) k rfl)) az) ?_);refine sq ?_;refine sh fol (kY (p.length:Int) j p [(13,.i 0)]) ?_;refine Goes.block ?_;obtain⟨o,g5,h⟩:=bnd h;refine Goes.imp (Q:=fun x s'=>(x= .exit 0/\ ∃c,c=o/\Sub s' (ofG 30 [(4,.slice 0 0 c.length c.length 1)],(kA c [])))) ?_ ?_
 ·refine Ud (fun M s=> ∃(b:List Int) (a:Int),s=(ofG 30 (kY (p.length:Int) b p [(13,.i a)]),(kA b []))/\zI p M b a=some o) ?_ (m:=N) ⟨_,_,rfl,g5⟩;rintro M s ⟨b,a,rfl,g5⟩
  cases M with
  |zero=>simp only[zI]at g5;cases g5
  |succ M=>
   rw[zI]at g5;refine sh fol (kY (p.length:Int) b p [(13,.i a),(14,.bool (decide (a<(p.length:Int))))]) ?_;refine sq ?_;refine ihD g5 (fun c6 g5=>?_) (fun c6 g5=>?_)
   ·refine Goes.skip ?_;refine sq (Goes.block ?_);obtain⟨n,d,g5⟩:=bnd g5;refine sq (gr fol [1,2] ((3,.i (p.length:Int))::(4,.slice 0 0 b.length b.length 1)::(5,.i a)::(6,.i n)::(11,vl encI p)::(kAJ (p.length:Int) a [])) (ac (iv qa5 encI d) (ac (lv 0 ce3 encI d rfl) az)) ?_);obtain⟨q,e,g5⟩:=bnd g5;obtain⟨f,g,g5⟩:=bnd g5;refine gq fol [9,10] (kY (p.length:Int) b p [(13,.i a)]) (kA f []) (ac (hs (.done (.opt (qd ZT 133 (.slice 0 0 b.length b.length 1) (.i (w64 ((w64 ((p.length:Int)-1))-a))))) (.ptr 0 ((w64 ((w64 ((p.length:Int)-1))-a):Int).toNat*1+0))) (yS qa5 e)) (ac (hs (.run [0] (qD ZT 3 (.ptr 0 ((w64 ((w64 ((p.length:Int)-1))-a):Int).toNat*1+0)) (.i (w64 ((w64 ((p.length:Int)-1))-n)))) (kA b []) .undef (kA f []) true) (qa2 (E:=encI) (l:=b) (y:=w64 ((w64 ((p.length:Int)-1))-n)) rfl (show _=some 1 by kernel_rfl) rfl e rfl rfl rfl rfl rfl g rfl)) az)) ?_;refine Goes.sub (show Sub (ofG 30 (kY (p.length:Int) b p [(13,.i a)]),(kA f [])) (ofG 30 (kY (p.length:Int) f p [(13,.i a)]),(kA f []))from(Sub.norm [] [some 0] rfl rfl (.keep (.same nI) (.keep (.sliceE rfl (vG g)) (.keep (.same (qf encI _)) (.keep (.same nI) (.keep (.same nI) .nil))))) (.ks .nil))) ?_;refine gh fol (kY (p.length:Int) f p [(13,.i (w64 (a+1)))]) ?_;exact⟨M,(ofG 30 (kY (p.length:Int) f p [(13,.i (w64 (a+1)))]),(kA f [])),Nat.lt_succ_self _,(Sub.refl _),_,_,rfl,g5⟩
   refine Goes.exit ?_;obtain rfl:=si g5;exact⟨rfl,_,rfl,(Sub.keep [4] rfl rfl)⟩
 rintro x s' ⟨rfl,c,rfl,hsub⟩;refine Goes.sub hsub ?_;refine sh fol (kBD c) ?_;refine Goes.ret ?_;obtain rfl:=si h;exact(gw2 [.slice 0 0 c.length c.length 1] (Ut (Fz.sl (E:=encI) rfl rfl (nl rfl))))
def zV (p:List Int):Nat->(List Int)->Int->Option (List Int)
 |0,_,_=>none
 |K+1,b,a=>
  if a<(p.length:Int)then
  (idx p a).bind fun c=>
  (idx b c).bind fun e=>
  (put b c a).bind fun d=>
  zV p K d (w64 (a+1))
  else
  some b
def jI (N:Nat) (p:List Int):Option (List Int):=
 (mk 8 (p.length:Int) 0).bind fun a=>
 (zV p N a 0).bind fun b=>
 some b
theorem qag (N:Nat) (p:List Int) {res:List Int} (h:jI N p=some res):qb ZT (.fn 174) [vl encI p] [] (vl encI res) []:=by
 unfold jI at h;refine Ub Tryz.func174 rfl rfl (m:=22) rfl (rs:=[.tmp 2]) rfl (l:=(kAP p [])) rfl ?_;refine sh fol (kAP p []) ?_;obtain⟨j,k,h⟩:=bnd h;refine sq (gq fol [2] (kAP p (kU j [])) (kA j []) (ac (hs (.run [] (vR ZT 133 (.i (p.length:Int)) (.i (p.length:Int))) [] (.slice 0 0 j.length j.length 1) (kA j []) false) (qfC qa5 (E:=encI) (z:=0) rfl (by kernel_rfl) k rfl)) az) ?_);refine sq ?_;refine sh fol (kU j [(9,vl encI p),(10,.i (p.length:Int)),(11,.i 0)]) ?_;refine Goes.block ?_;obtain⟨o,g5,h⟩:=bnd h;refine Goes.imp (Q:=fun x s'=>(x= .exit 0/\ ∃g,g=o/\Sub s' (ofG 22 (kU g []),(kA g [])))) ?_ ?_
 ·refine Ud (fun M s=> ∃(b:List Int) (a:Int),s=(ofG 22 (kU b (kAm p (p.length:Int) a)),(kA b []))/\zV p M b a=some o) ?_ (m:=N) ⟨_,_,rfl,g5⟩;rintro M s ⟨b,a,rfl,g5⟩
  cases M with
  |zero=>simp only[zV]at g5;cases g5
  |succ M=>
   rw[zV]at g5;refine sh fol (kU b [(9,vl encI p),(10,.i (p.length:Int)),(11,.i a),(12,.bool (decide (a<(p.length:Int))))]) ?_;refine sq ?_;refine ihD g5 (fun c6 g5=>?_) (fun c6 g5=>?_)
   ·refine Goes.skip ?_;refine sq (Goes.block ?_);obtain⟨n,c,g5⟩:=bnd g5;refine sq (gr fol [1,2] (kU b ((4,.i a)::(5,.i n)::(kAm p (p.length:Int) a))) (ac (iv qa5 encI c) (ac (lv 0 ce3 encI c rfl) az)) ?_);obtain⟨q,d,g5⟩:=bnd g5;obtain⟨e,f,g5⟩:=bnd g5;refine gq fol [3,4] (kU b (kAm p (p.length:Int) a)) (kA e []) (ac (hs (.done (.opt (qd ZT 133 (.slice 0 0 b.length b.length 1) (.i n))) (.ptr 0 ((n:Int).toNat*1+0))) (yS qa5 d)) (ac (hs (.run [0] (qD ZT 3 (.ptr 0 ((n:Int).toNat*1+0)) (.i a)) (kA b []) .undef (kA e []) true) (qa2 (E:=encI) (l:=b) (y:=a) rfl (show _=some 1 by kernel_rfl) rfl d rfl rfl rfl rfl rfl f rfl)) az)) ?_;refine Goes.sub (show Sub (ofG 22 (kU b (kAm p (p.length:Int) a)),(kA e [])) (ofG 22 (kU e (kAm p (p.length:Int) a)),(kA e []))from(Sub.norm [] [some 0] rfl rfl (.keep (.sliceE rfl (vG f)) (.keep (.same (qf encI _)) (.keep (.same nI) (.keep (.same nI) .nil)))) (.ks .nil))) ?_;refine gh fol (kU e (kAm p (p.length:Int) (w64 (a+1)))) ?_;exact⟨M,(ofG 22 (kU e (kAm p (p.length:Int) (w64 (a+1)))),(kA e [])),Nat.lt_succ_self _,(Sub.refl _),_,_,rfl,g5⟩
   refine Goes.exit ?_;obtain rfl:=si g5;exact⟨rfl,_,rfl,(Sub.keep [3] rfl rfl)⟩
 rintro x s' ⟨rfl,g,rfl,hsub⟩;refine Goes.sub hsub ?_;refine sh fol (kBD g) ?_;refine Goes.ret ?_;obtain rfl:=si h;exact(gw2 [.slice 0 0 g.length g.length 1] (Ut (Fz.sl (E:=encI) rfl rfl (nl rfl))))
def jU (N:Nat) (p:List Int) (i:Int):Option (List Int):=
 (jI N p).bind fun a=>
 (jd a i).bind fun b=>
 (jI N b).bind fun c=>
 some c
theorem qbj (N:Nat) (p:List Int) (i:Int) {res:List Int} (h:jU N p i=some res):qb ZT (.fn 110) [vl encI p,.i i] [] (vl encI res) []:=by
 unfold jU at h;refine Ub Tryz.func110 rfl rfl (m:=10) rfl (rs:=[.tmp 4]) rfl (l:=(kAP p (kBC i))) rfl ?_;refine sh fol (kAP p (kBC i)) ?_;obtain⟨e,a,h⟩:=bnd h;obtain⟨f,b,h⟩:=bnd h;obtain⟨d,c,h⟩:=bnd h;refine sq (gr fol [1,3,4] [(4,vl encI d)] (ac (cv (qag N p a)) (ac (cv (xg e i b)) (ac (cv (qag N f c)) az))) ?_);refine Goes.ret ?_;obtain rfl:=si h;exact(gw2 [vl encI d] (Ua (qy encI _ (nl rfl))))
def jV (p:List Int) (i:Int):Option Bool:=
 (idx p i).bind fun a=>
 (idx p (w64 (i+1))).bind fun b=>
 some (decide (a>b))
theorem xQ (p:List Int) (i:Int) {res:Bool} (h:jV p i=some res):qb ZT (.fn 166) [vl encI p,.i i] [] (.bool res) []:=by
 unfold jV at h;refine Ub Tryz.func166 rfl rfl (m:=15) rfl (rs:=[.tmp 4]) rfl (l:=(kAP p (kBC i))) rfl ?_;refine sh fol (kAP p (kBC i)) ?_;obtain⟨c,a,h⟩:=bnd h;obtain⟨d,b,h⟩:=bnd h;refine sq (gr fol [2,3,7,8] (kA2 (decide (c>d))) (ac (iv qa5 encI a) (ac (lv 0 ce3 encI a rfl) (ac (iv qa5 encI b) (ac (lv 0 ce3 encI b rfl) az)))) ?_);refine Goes.ret ?_;obtain rfl:=si h;exact(gw2 [.bool (decide (c>d))] (Ua tB))
def yT (N:Nat) (p:List Int) (i:Int):Option Bool:=
 (jI N p).bind fun a=>
 (jV a i).bind fun b=>
 some b
theorem qec (N:Nat) (p:List Int) (i:Int) {res:Bool} (h:yT N p i=some res):qb ZT (.fn 222) [vl encI p,.i i] [] (.bool res) []:=by
 unfold yT at h;refine Ub Tryz.func222 rfl rfl (m:=9) rfl (rs:=[.tmp 4]) rfl (l:=(kAP p (kBC i))) rfl ?_;refine sh fol (kAP p (kBC i)) ?_;obtain⟨d,a,h⟩:=bnd h;obtain⟨c,b,h⟩:=bnd h;refine sq (gr fol [1,3] (kA2 c) (ac (cv (qag N p a)) (ac (cv (xQ d i b)) az)) ?_);refine Goes.ret ?_;obtain rfl:=si h;exact(gw2 [.bool c] (Ua tB))
def jK (N:Nat) (a:List Int) (b:List Int):Nat->Int->Option (Unit⊕(Int×Bool))
 |0,_=>none
 |K+1,c=>
  if c<(w64 ((a.length:Int)-1))then
  ((jV b c).bind fun d=>
  if d=true then
  (yT N a c).bind fun e=>
  some (!e)
  else
  some false:Option Bool).bind fun f=>
  if f=true then
  some (.inr (c,true))
  else
  jK N a b K (w64 (c+1))
  else
  some (.inl ())
def xY (N:Nat) (a:List Int) (b:List Int):Option (Int×Bool):=
 (jK N a b N 0).bind (fun
 |(.inl ())=>
 some (0,false)
 |(.inr c)=>
 some c)
theorem qgm (N:Nat) (a:List Int) (b:List Int) {res:Int×Bool} (h:xY N a b=some res):qb ZT (.fn 163) (kAs a b) [] (.tuple [.i res.1,.bool res.2]) []:=by
 unfold xY at h;refine Ub Tryz.func163 rfl rfl (m:=24) rfl (rs:=[.tmp 4,.tmp 5]) rfl (l:=(kV a b [])) rfl ?_;refine sh fol (kV a b []) ?_;refine sq ?_;refine sh fol (kV a b [(9,.i (w64 ((a.length:Int)-1))),(10,.i 0)]) ?_;refine Goes.block ?_;obtain⟨g,g2,h⟩:=bnd h;refine Goes.imp (Q:=fun x s'=>(x= .exit 0/\(.inl ())=g/\Sub s' (ofG 24 [],[]))\/(x= .ret/\ ∃j,(.inr j)=g/\jM ZT [.tmp 4,.tmp 5] (.tuple [.i j.1,.bool j.2]) .ret s')) ?_ ?_
 ·refine Ud (fun M s=> ∃(d:Int),s=(ofG 24 (kV a b (kAi (w64 ((a.length:Int)-1)) d [])),[])/\jK N a b M d=some g) ?_ (m:=N) ⟨_,rfl,g2⟩;rintro M s ⟨d,rfl,g2⟩
  cases M with
  |zero=>simp only[jK]at g2;cases g2
  |succ M=>
   rw[jK]at g2;refine sh fol (kV a b (kAi (w64 ((a.length:Int)-1)) d [(11,.bool (decide (d<(w64 ((a.length:Int)-1)))))])) ?_;refine sq ?_;refine ihD g2 (fun n g2=>?_) (fun n g2=>?_)
   ·refine Goes.skip ?_;refine sq (Goes.block ?_);refine sh fol (kV a b ((6,.i d)::(kAi (w64 ((a.length:Int)-1)) d []))) ?_;refine sq ?_;obtain⟨o,c,g2⟩:=bnd g2;refine Goes.cut (s':=(ofG 24 (kV a b ((6,.i d)::(kAi (w64 ((a.length:Int)-1)) d [(21,.bool o)]))),[])) ?_ ?_
    ·obtain⟨r,e,c⟩:=bnd c;rcases wyB c with⟨c6,c⟩|⟨c6,c⟩
     ·obtain⟨p,f,c⟩:=bnd c;obtain rfl:=si c;exact tr fol [2,3,6] (kV a b ((6,.i d)::(kAi (w64 ((a.length:Int)-1)) d [(21,.bool (!p))]))) (ac (cv (xQ b d e)) (ac (gw c6) (ac (cv (qec N a d f)) az)))
     obtain rfl:=si c;exact tr fol [2,3] (kV a b ((6,.i d)::(kAi (w64 ((a.length:Int)-1)) d [(21,.bool false)]))) (ac (cv (xQ b d e)) (ac (gw c6) az))
    refine ihB g2 (fun k g2=>?_) (fun k g2=>?_)
    ·refine sh fol [(4,.i d),(5,.bool true)] ?_;refine Goes.ret ?_;obtain rfl:=si g2;exact Or.inr (⟨rfl,_,rfl,(gw2 [.i d,.bool true] (FzW.tuple (ql.cons (Ua tI) (ql.cons (Ua tB) ql.nil))))⟩)
    refine Goes.skip ?_;refine gh fol (kV a b (kAi (w64 ((a.length:Int)-1)) (w64 (d+1)) [])) ?_;exact⟨M,(ofG 24 (kV a b (kAi (w64 ((a.length:Int)-1)) (w64 (d+1)) [])),[]),Nat.lt_succ_self _,(Sub.refl _),_,rfl,g2⟩
   refine Goes.exit ?_;obtain rfl:=si g2;exact Or.inl (⟨rfl,rfl,(Sub.keep [] rfl rfl)⟩)
 rintro x s' (⟨rfl,rfl,hsub⟩|⟨rfl,q,rfl,hret⟩)
 ·try dsimp only at h
  refine Goes.sub hsub ?_;refine sh fol [(4,.i 0),(5,.bool false)] ?_;refine Goes.ret ?_;obtain rfl:=si h;exact(gw2 [.i 0,.bool false] (FzW.tuple (ql.cons (Ua tI) (ql.cons (Ua tB) ql.nil))))
 try dsimp only at h
 obtain rfl:=si h;exact hret
def cmp_isNaN_int (a:Int):Option Bool:=
 some (!decide (a=a))
theorem xh (a:Int) {res:Bool} (h:cmp_isNaN_int a=some res):qb ZT (.fn 275) [.i a] [] (.bool res) []:=by
 unfold cmp_isNaN_int at h;refine Ub Tryz.func275 rfl rfl (m:=6) rfl (rs:=[.tmp 2]) rfl (l:=[(0,.i a)]) rfl ?_;refine sh fol [(0,.i a)] ?_;refine sh fol [(2,.bool (!decide (a=a)))] ?_;refine Goes.ret ?_;obtain rfl:=si h;exact(gw2 [.bool (!decide (a=a))] (Ua tB))
def cmp_Less_int (a:Int) (y:Int):Option Bool:=
 ((cmp_isNaN_int a).bind fun b=>
 if b=true then
 (cmp_isNaN_int y).bind fun c=>
 if(!c)=true then
 some true
 else
 some (decide (a<y))
 else
 some (decide (a<y)):Option Bool).bind fun d=>
 some d
theorem qg8 (c:Int) (y:Int) {res:Bool} (h:cmp_Less_int c y=some res):qb ZT (.fn 236) [.i c,.i y] [] (.bool res) []:=by
 unfold cmp_Less_int at h;refine Ub Tryz.func236 rfl rfl (m:=17) rfl (rs:=[.tmp 4]) rfl (l:=((0,.i c)::(kBC y))) rfl ?_;refine sh fol ((0,.i c)::(kBC y)) ?_;refine sq ?_;obtain⟨g,a,h⟩:=bnd h;refine Goes.cut (s':=(ofG 17 (kA2 g),[])) ?_ ?_
 ·obtain⟨j,b,a⟩:=bnd a;rcases wyB a with⟨e,a⟩|⟨e,a⟩
  ·obtain⟨k,d,a⟩:=bnd a;rcases wyB a with⟨f,a⟩|⟨f,a⟩
   ·obtain rfl:=si a;exact tr fol [1,2,4,7] kBH (ac (cv (xh c b)) (ac (gw e) (ac (cv (xh y d)) (ac (gw f) az))))
   obtain rfl:=si a;exact tr fol [1,2,4,7] (kA2 (decide (c<y))) (ac (cv (xh c b)) (ac (gw e) (ac (cv (xh y d)) (ac (gw f) az))))
  obtain rfl:=si a;exact tr fol [1,2] (kA2 (decide (c<y))) (ac (cv (xh c b)) (ac (gw e) az))
 refine Goes.ret ?_;obtain rfl:=si h;exact(gw2 [.bool g] (Ua tB))
def zO (b:List Int):Nat->Int->Option (Unit⊕Bool)
 |0,_=>none
 |K+1,a=>
  if a>0 then
  (idx b a).bind fun c=>
  (idx b (w64 (a-1))).bind fun d=>
  (cmp_Less_int c d).bind fun e=>
  if e=true then
  some (.inr false)
  else
  zO b K (w64 (a-1))
  else
  some (.inl ())
def slices_IsSorted_int (N:Nat) (a:List Int):Option Bool:=
 (zO a N (w64 ((a.length:Int)-1))).bind (fun
 |(.inl ())=>
 some true
 |(.inr b)=>
 some b)
theorem qd3 (N:Nat) (a:List Int) {res:Bool} (h:slices_IsSorted_int N a=some res):qb ZT (.fn 176) [vl encI a] [] (.bool res) []:=by
 unfold slices_IsSorted_int at h;refine Ub Tryz.func176 rfl rfl (m:=21) rfl (rs:=[.tmp 2]) rfl (l:=(kAP a [])) rfl ?_;refine sh fol (kAP a []) ?_;refine sq ?_;refine sh fol (kAP a [(3,.i (w64 ((a.length:Int)-1)))]) ?_;refine Goes.block ?_;obtain⟨f,g2,h⟩:=bnd h;refine Goes.imp (Q:=fun x s'=>(x= .exit 0/\(.inl ())=f/\Sub s' (ofG 21 [],[]))\/(x= .ret/\ ∃g,(.inr g)=f/\jM ZT [.tmp 2] (.bool g) .ret s')) ?_ ?_
 ·refine Ud (fun M s=> ∃(b:Int),s=(ofG 21 (kAP a [(3,.i b)]),[])/\zO a M b=some f) ?_ (m:=N) ⟨_,rfl,g2⟩;rintro M s ⟨b,rfl,g2⟩
  cases M with
  |zero=>simp only[zO]at g2;cases g2
  |succ M=>
   rw[zO]at g2;refine sq ?_;refine sh fol (kAP a [(3,.i b),(8,.bool (decide (b>0)))]) ?_;refine ihD g2 (fun j g2=>?_) (fun j g2=>?_)
   ·refine Goes.skip ?_;refine sq (Goes.block ?_);obtain⟨k,c,g2⟩:=bnd g2;obtain⟨n,d,g2⟩:=bnd g2;obtain⟨o,e,g2⟩:=bnd g2;refine sq (gr fol [2,3,7,8,9] (kAP a [(3,.i b),(20,.bool o)]) (ac (iv qa5 encI c) (ac (lv 0 ce3 encI c rfl) (ac (iv qa5 encI d) (ac (lv 0 ce3 encI d rfl) (ac (cv (qg8 k n e)) az))))) ?_);refine ihB g2 (fun p g2=>?_) (fun p g2=>?_)
    ·refine sh fol [(2,.bool false)] ?_;refine Goes.ret ?_;obtain rfl:=si g2;exact Or.inr (⟨rfl,_,rfl,(gw2 [.bool false] (Ua tB))⟩)
    refine Goes.skip ?_;refine gh fol (kAP a [(3,.i (w64 (b-1)))]) ?_;exact⟨M,(ofG 21 (kAP a [(3,.i (w64 (b-1)))]),[]),Nat.lt_succ_self _,(Sub.refl _),_,rfl,g2⟩
   refine Goes.exit ?_;obtain rfl:=si g2;exact Or.inl (⟨rfl,rfl,(Sub.keep [] rfl rfl)⟩)
 rintro x s' (⟨rfl,rfl,hsub⟩|⟨rfl,q,rfl,hret⟩)
 ·try dsimp only at h
  refine Goes.sub hsub ?_;refine sh fol [(2,.bool true)] ?_;refine Goes.ret ?_;obtain rfl:=si h;exact(gw2 [.bool true] (Ua tB))
 try dsimp only at h
 obtain rfl:=si h;exact hret
def yu (N:Nat) (p:List Int):Option Bool:=
 (slices_IsSorted_int N p).bind fun a=>
 some a
theorem qea (N:Nat) (p:List Int) {res:Bool} (h:yu N p=some res):qb ZT (.fn 112) [vl encI p] [] (.bool res) []:=by
 unfold yu at h;refine Ub Tryz.func112 rfl rfl (m:=5) rfl (rs:=[.tmp 2]) rfl (l:=(kAP p [])) rfl ?_;refine sh fol (kAP p []) ?_;obtain⟨b,a,h⟩:=bnd h;refine sq (gr fol [1] [(2,.bool b)] (ac (cv (qd3 N p a)) az) ?_);refine Goes.ret ?_;obtain rfl:=si h;exact(gw2 [.bool b] (Ua tB))
def zN (b:List Int) (c:List Int):Nat->Int->Option (Unit⊕Bool)
 |0,_=>none
 |K+1,a=>
  if a<(b.length:Int)then
  (idx b a).bind fun d=>
  (idx c a).bind fun e=>
  if(!decide (d=e))=true then
  some (.inr false)
  else
  zN b c K (w64 (a+1))
  else
  some (.inl ())
def vW (N:Nat) (a:List Int) (b:List Int):Option Bool:=
 if(!decide ((a.length:Int)=(b.length:Int)))=true then
 some false
 else
 (zN a b N 0).bind (fun
 |(.inl ())=>
 some true
 |(.inr c)=>
 some c)
theorem qdN (N:Nat) (a:List Int) (b:List Int) {res:Bool} (h:vW N a b=some res):qb ZT (.fn 113) (kAs a b) [] (.bool res) []:=by
 unfold vW at h;refine Ub Tryz.func113 rfl rfl (m:=26) rfl (rs:=[.tmp 4]) rfl (l:=(kV a b [])) rfl ?_;refine sh fol (kV a b []) ?_;refine sq ?_;refine sh fol (kV a b (kA9 (!decide ((a.length:Int)=(b.length:Int))))) ?_;refine ihB h (fun j h=>?_) (fun j h=>?_)
 ·refine sh fol kA5 ?_;refine Goes.ret ?_;obtain rfl:=si h;exact(gw2 [.bool false] (Ua tB))
 refine Goes.skip ?_;refine sq ?_;refine sh fol (kV a b [(12,.i (a.length:Int)),(13,.i 0)]) ?_;refine Goes.block ?_;obtain⟨f,g3,h⟩:=bnd h;refine Goes.imp (Q:=fun x s'=>(x= .exit 0/\(.inl ())=f/\Sub s' (ofG 26 [],[]))\/(x= .ret/\ ∃g,(.inr g)=f/\jM ZT [.tmp 4] (.bool g) .ret s')) ?_ ?_
 ·refine Ud (fun M s=> ∃(c:Int),s=(ofG 26 (kV a b (kAJ (a.length:Int) c [])),[])/\zN a b M c=some f) ?_ (m:=N) ⟨_,rfl,g3⟩;rintro M s ⟨c,rfl,g3⟩
  cases M with
  |zero=>simp only[zN]at g3;cases g3
  |succ M=>
   rw[zN]at g3;refine sh fol (kV a b (kAJ (a.length:Int) c [(14,.bool (decide (c<(a.length:Int))))])) ?_;refine sq ?_;refine ihD g3 (fun k g3=>?_) (fun k g3=>?_)
   ·refine Goes.skip ?_;refine sq (Goes.block ?_);refine sh fol (kV a b ((5,.i c)::(kAJ (a.length:Int) c []))) ?_;obtain⟨n,d,g3⟩:=bnd g3;obtain⟨o,e,g3⟩:=bnd g3;refine sq (gr fol [2,3,6,7] (kV a b (kAJ (a.length:Int) c [(24,.bool (!decide (n=o)))])) (ac (iv qa5 encI d) (ac (lv 0 ce3 encI d rfl) (ac (iv qa5 encI e) (ac (lv 0 ce3 encI e rfl) az)))) ?_);refine ihB g3 (fun p g3=>?_) (fun p g3=>?_)
    ·refine sh fol kA5 ?_;refine Goes.ret ?_;obtain rfl:=si g3;exact Or.inr (⟨rfl,_,rfl,(gw2 [.bool false] (Ua tB))⟩)
    refine Goes.skip ?_;refine gh fol (kV a b (kAJ (a.length:Int) (w64 (c+1)) [])) ?_;exact⟨M,(ofG 26 (kV a b (kAJ (a.length:Int) (w64 (c+1)) [])),[]),Nat.lt_succ_self _,(Sub.refl _),_,rfl,g3⟩
   refine Goes.exit ?_;obtain rfl:=si g3;exact Or.inl (⟨rfl,rfl,(Sub.keep [] rfl rfl)⟩)
 rintro x s' (⟨rfl,rfl,hsub⟩|⟨rfl,q,rfl,hret⟩)
 ·try dsimp only at h
  refine Goes.sub hsub ?_;refine sh fol kBH ?_;refine Goes.ret ?_;obtain rfl:=si h;exact(gw2 [.bool true] (Ua tB))
 try dsimp only at h
 obtain rfl:=si h;exact hret
def zk (N:Nat) (a:List (List Int)):Nat->(List (List Int))->Int->Option (List (List Int))
 |0,_,_=>none
 |K+1,c,b=>
  if b<(a.length:Int)then
  (idx a b).bind fun d=>
  (vJ N d).bind fun e=>
  (app 24 c [e]).bind fun f=>
  zk N a K f (w64 (b+1))
  else
  some c
def jP (N:Nat) (a:List (List Int)):Option (List (List Int)):=
 (zk N a N ([]:List (List Int)) 0).bind fun b=>
 some b
theorem qcX (N:Nat) (a:List (List Int)) {o:List (List Int)} (h:jP N a=some o):qb ZT (.fn 108) [.gslice 0 a.length 1,.func (.func 109) [] []] [.cells (a.flatMap (qm encI).c)] (.gslice 1 o.length 1) [.cells (a.flatMap (qm encI).c),.cells (o.flatMap (qm encI).c)]:=by
 unfold jP at h;refine Ug Tryz.func108 rfl rfl (m:=22) rfl (rs:=[.tmp 4]) rfl (l:=[(0,.gslice 0 a.length 1),(1,.func (.func 109) [] [])]) rfl ?_;intro B hB;refine sh fol [(0,.gslice 0 a.length 1),(1,.func (.func 109) [] [])] ?_;refine sh fol [(0,.gslice 0 a.length 1),(1,.func (.func 109) [] []),(5,.nilslice)] ?_;refine sq ?_;refine sh fol ((1,.func (.func 109) [] [])::(5,.nilslice)::(kA4 a [(9,.i (a.length:Int)),(10,.i 0)])) ?_;refine Goes.block ?_;obtain⟨q,g5,h⟩:=bnd h;refine Goes.imp (Q:=fun x s'=>(x= .exit 0/\ ∃g,g=q/\Sub s' (ofG 22 [(5,.gslice 1 g.length 1)],[.cells (a.flatMap (qm encI).c),.cells (g.flatMap (qm encI).c)]))) ?_ ?_
 ·refine Goes.sub (s':=(ofG 22 ((1,.func (.func 109) [] [])::(5,.gslice 1 ([]:List (List Int)).length 1)::(kA4 a [(9,.i (a.length:Int)),(10,.i 0)])),[.cells (a.flatMap (qm encI).c),.cells (([]:List (List Int)).flatMap (qm encI).c)])) (Sub.norm [] [some 0,none] (by rw[hB];rfl) rfl (.keep (.same (qA.func sn sn)) (.keep .nil (.keep (.gslice rfl) (.keep (.same nI) (.keep (.same nI) .nil))))) (.ks (.fresh .nil))) ?_;refine Ud (fun M s=> ∃(d:List (List Int)) (b:Int),s=(ofG 22 ((1,.func (.func 109) [] [])::(5,.gslice 1 d.length 1)::(kA4 a (kAi (a.length:Int) b []))),[.cells (a.flatMap (qm encI).c),.cells (d.flatMap (qm encI).c)])/\zk N a M d b=some q) ?_ (m:=N) ⟨_,_,rfl,g5⟩;rintro M s ⟨d,b,rfl,g5⟩
  cases M with
  |zero=>simp only[zk]at g5;cases g5
  |succ M=>
   rw[zk]at g5;refine sh fol ((1,.func (.func 109) [] [])::(5,.gslice 1 d.length 1)::(kA4 a (kAi (a.length:Int) b [(11,.bool (decide (b<(a.length:Int))))]))) ?_;refine sq ?_;refine ihD g5 (fun c6 g5=>?_) (fun c6 g5=>?_)
   ·refine Goes.skip ?_;refine sq (Goes.block ?_);obtain⟨p,e,g5⟩:=bnd g5;refine sq (gr fol [0,1] ((1,.func (.func 109) [] [])::(5,.gslice 1 d.length 1)::(7,vl encI p)::(kA4 a (kAi (a.length:Int) b []))) (ac (hs (.done (.opt (qd ZT 141 (.gslice 0 a.length 1) (.i b))) (.ptr 0 ((b:Int).toNat*1+0))) (qaR qeI e)) (ac (hs (.run [0] (jb ZT 133 (.ptr 0 ((b:Int).toNat*1+0))) [.cells (a.flatMap (qm encI).c),.cells (d.flatMap (qm encI).c)] (vl encI p) [.cells (a.flatMap (qm encI).c),.cells (d.flatMap (qm encI).c)] false) (qcW qjC (E:=(qm encI)) (l:=a) rfl rfl e (nl rfl) rfl)) az)) ?_);obtain⟨n,j,g5⟩:=bnd g5;obtain⟨f,k,g5⟩:=bnd g5;refine gq fol [3,5] ((1,.func (.func 109) [] [])::(5,.gslice 3 f.length 1)::(kA4 a (kAi (a.length:Int) b []))) (.cells (a.flatMap (qm encI).c):: .dead::(kC n [.cells (f.flatMap (qm encI).c)])) (ac (cv (qdA N p j)) (ac (hs (.run [1,2] (qaV ZT [141,141] (.gslice 1 d.length 1) (.slice 2 0 1 1 1)) (.cells (a.flatMap (qm encI).c):: .cells (d.flatMap (qm encI).c)::(kC n [])) (.gslice 3 f.length 1) (.cells (a.flatMap (qm encI).c):: .dead::(kC n [.cells (f.flatMap (qm encI).c)])) true) (qeS qeI (E:=(qm encI)) rfl (qh6 (E:=(qm encI)) (ys:=[n]) rfl rfl rfl rfl) (qoF (E:=(qm encI)) (l:=d) rfl rfl rfl k rfl))) az)) ?_;refine gh fol ((1,.func (.func 109) [] [])::(5,.gslice 3 f.length 1)::(kA4 a (kAi (a.length:Int) (w64 (b+1)) []))) ?_;exact⟨M,(ofG 22 ((1,.func (.func 109) [] [])::(5,.gslice 1 f.length 1)::(kA4 a (kAi (a.length:Int) (w64 (b+1)) []))),[.cells (a.flatMap (qm encI).c),.cells (f.flatMap (qm encI).c)]),Nat.lt_succ_self _,(Sub.norm [] [some 0,some 3] (by rw[hB];rfl) rfl (.keep (.same (qA.func sn sn)) (.keep (.gslice rfl) (.keep (.gslice rfl) (.keep (.same nI) (.keep (.same nI) .nil))))) (.ks (.ks .nil))),_,_,rfl,g5⟩
   refine Goes.exit ?_;obtain rfl:=si g5;exact⟨rfl,_,rfl,(Sub.keep [5] rfl rfl)⟩
 rintro x s' ⟨rfl,g,rfl,hsub⟩;refine Goes.sub hsub ?_;refine sh fol [(4,.gslice 1 g.length 1)] ?_;refine Goes.ret ?_;obtain rfl:=si h;exact(gh2 [.gslice 1 g.length 1] (qbI.refl _ _))
def ym (N:Nat) (a:Int) (b:List (List Int)):Option ((List (List Int))×Bool):=
 (idx b a).bind fun g=>
 (idx b (w64 (a+1))).bind fun h=>
 (xY N g h).bind fun d=>
 ((if d.2=true then
 (jU N g d.1).bind fun i=>
 (jd h d.1).bind fun e=>
 (put b a i).bind fun c=>
 (idx c (w64 (a+1))).bind fun j=>
 (put c (w64 (a+1)) e).bind fun f=>
 some f
 else
 some b:Option (List (List Int)))).bind fun k=>
 some (k,d.2)
theorem qe7 (N:Nat) (b:Int) (a:List (List Int)) {w:List (List Int)} {z:Bool} (h:ym N b a=some (w,z)):qb ZT (.fn 175) [.i b,.ptr 0 0] (kAG a [.cells (a.flatMap (qm encI).c)]) (.bool z) (kAG w [.cells (w.flatMap (qm encI).c)]):=by
 unfold ym at h;refine Ug Tryz.func175 rfl rfl (m:=41) rfl (rs:=[.tmp 3]) rfl (l:=[(0,.i b),(1,.ptr 0 0)]) rfl ?_;intro B hB;refine sh fol [(0,.i b),(1,.ptr 0 0)] ?_;obtain⟨t,d,h⟩:=bnd h;obtain⟨u,e,h⟩:=bnd h;obtain⟨f,q,h⟩:=bnd h;refine sq (gr fol [2,3,7,8,9] [(0,.i b),(1,.ptr 0 0),(4,.i f.1),(5,.bool f.2)] (ac (hs (.done (.opt (qd ZT 141 (.gslice 1 a.length 1) (.i b))) (.ptr 1 ((b:Int).toNat*1+0))) (qaR qeI d)) (ac (hs (.run [1] (jb ZT 133 (.ptr 1 ((b:Int).toNat*1+0))) (kAG a [.cells (a.flatMap (qm encI).c)]) (vl encI t) (kAG a [.cells (a.flatMap (qm encI).c)]) false) (qcW qjC (E:=(qm encI)) (l:=a) rfl rfl d (nl rfl) rfl)) (ac (hs (.done (.opt (qd ZT 141 (.gslice 1 a.length 1) (.i (w64 (b+1))))) (.ptr 1 ((w64 (b+1):Int).toNat*1+0))) (qaR qeI e)) (ac (hs (.run [1] (jb ZT 133 (.ptr 1 ((w64 (b+1):Int).toNat*1+0))) (kAG a [.cells (a.flatMap (qm encI).c)]) (vl encI u) (kAG a [.cells (a.flatMap (qm encI).c)]) false) (qcW qjC (E:=(qm encI)) (l:=a) rfl rfl e (nl rfl) rfl)) (ac (cv (qgm N t u q)) az))))) ?_);refine sq ?_;refine sh fol [(0,.i b),(1,.ptr 0 0),(4,.i f.1),(5,.bool f.2),(19,.bool f.2)] ?_;obtain⟨C,g7,h⟩:=bnd h;refine Goes.imp (Q:=fun x s'=>(x= .normal/\ ∃v,v=C/\Sub s' (ofG 41 [(5,.bool f.2)],(kAG v [.cells (v.flatMap (qm encI).c)])))) ?_ ?_
 ·refine ihB g7 (fun D g7=>?_) (fun D g7=>?_)
  ·obtain⟨A,r,g7⟩:=bnd g7;obtain⟨s,n,g7⟩:=bnd g7;obtain⟨o,g,g7⟩:=bnd g7;obtain⟨F,p,g7⟩:=bnd g7;obtain⟨j,k,g7⟩:=bnd g7;refine gq fol [7,8,10,14,15,17,18,19,20,21] [(5,.bool f.2)] (kAG a [.cells (j.flatMap (qm encI).c)]) (ac (hs (.done (.opt (qd ZT 141 (.gslice 1 a.length 1) (.i b))) (.ptr 1 ((b:Int).toNat*1+0))) (qaR qeI d)) (ac (hs (.run [1] (jb ZT 133 (.ptr 1 ((b:Int).toNat*1+0))) (kAG a [.cells (a.flatMap (qm encI).c)]) (vl encI t) (kAG a [.cells (a.flatMap (qm encI).c)]) false) (qcW qjC (E:=(qm encI)) (l:=a) rfl rfl d (nl rfl) rfl)) (ac (cv (qbj N t f.1 r)) (ac (hs (.done (.opt (qd ZT 141 (.gslice 1 a.length 1) (.i (w64 (b+1))))) (.ptr 1 ((w64 (b+1):Int).toNat*1+0))) (qaR qeI e)) (ac (hs (.run [1] (jb ZT 133 (.ptr 1 ((w64 (b+1):Int).toNat*1+0))) (kAG a [.cells (a.flatMap (qm encI).c)]) (vl encI u) (kAG a [.cells (a.flatMap (qm encI).c)]) false) (qcW qjC (E:=(qm encI)) (l:=a) rfl rfl e (nl rfl) rfl)) (ac (cv (xg u f.1 n)) (ac (hs (.done (.opt (qd ZT 141 (.gslice 1 a.length 1) (.i b))) (.ptr 1 ((b:Int).toNat*1+0))) (qaR qeI d)) (ac (hs (.run [1] (qD ZT 133 (.ptr 1 ((b:Int).toNat*1+0)) (vl encI A)) (kAG a [.cells (a.flatMap (qm encI).c)]) .undef (kAG a [.cells (o.flatMap (qm encI).c)]) true) (qa2 (E:=(qm encI)) (l:=a) (y:=A) rfl (show _=some 1 by kernel_rfl) rfl d rfl rfl rfl rfl rfl g rfl)) (ac (hs (.done (.opt (qd ZT 141 (.gslice 1 a.length 1) (.i (w64 (b+1))))) (.ptr 1 ((w64 (b+1):Int).toNat*1+0))) (qaR qeI e)) (ac (hs (.run [1] (qD ZT 133 (.ptr 1 ((w64 (b+1):Int).toNat*1+0)) (vl encI s)) (kAG a [.cells (o.flatMap (qm encI).c)]) .undef (kAG a [.cells (j.flatMap (qm encI).c)]) true) (qa2 (E:=(qm encI)) (l:=o) (y:=s) rfl (show _=some 1 by kernel_rfl) rfl p rfl rfl rfl rfl rfl k rfl)) az)))))))))) ?_;obtain rfl:=si g7;exact⟨rfl,_,rfl,((show Sub (ofG 41 [(5,.bool f.2)],(kAG a [.cells (j.flatMap (qm encI).c)])) (ofG 41 [(5,.bool f.2)],(kAG j [.cells (j.flatMap (qm encI).c)]))from(Sub.norm [] [some 0,some 1] (by rw[hB];rfl) rfl (.keep (.same nB) .nil) (.kb rfl (.cells (rc (.gsliceE rfl ((vG g).trans (vG k))) rn)) (.ks .nil)))).trans (Sub.refl _))⟩
  refine Goes.skip ?_;obtain rfl:=si g7;exact⟨rfl,_,rfl,(Sub.keep [5] rfl rfl)⟩
 rintro x s' ⟨rfl,v,rfl,hsub⟩;refine Goes.sub hsub ?_;refine sh fol [(3,.bool f.2)] ?_;refine Goes.ret ?_;simp only[ZI,ZP]at h;obtain⟨rfl,rfl⟩:=h;exact(gh2 [.bool f.2] (qbI.refl _ _))
def vB (N:Nat) (e:Int):Nat->(List (List Int))->Bool->Option ((List (List Int))×Bool)
 |0,_,_=>none
 |K+1,b,c=>
  (ym N e b).bind fun(a,d)=>
  ((if b.length=a.length then some ()else none:Option Unit)).bind fun f=>
  if d=true then
  vB N e K a true
  else
  some (a,c)
def vz (N:Nat):Nat->(List (List Int))->Int->Option (List (List Int))
 |0,_,_=>none
 |K+1,c,a=>
  if(w64 (a+1))<(c.length:Int)then
  (((vB N a N c false).bind fun(b,d)=>
  (if d=true then
  some (decide (a>0))
  else
  some false:Option Bool).bind fun e=>
  if e=true then
  some (b,w64 (a-1))
  else
  some (b,w64 (a+1)):Option ((List (List Int))×Int))).bind fun(f,g)=>
  vz N K f g
  else
  some c
def qaQ (N:Nat) (a:List (List Int)):Option (List (List Int)):=
 (vz N N a 0).bind fun b=>
 some b
theorem qgC (N:Nat) (f:List (List Int)) {C:List (List Int)} (h:qaQ N f=some C):qb ZT (.fn 111) [.gslice 0 f.length 1] [.cells (f.flatMap (qm encI).c)] (.tuple []) [.cells (C.flatMap (qm encI).c)]:=by
 unfold qaQ at h;refine Ug Tryz.func111 rfl rfl (m:=23) rfl (rs:=[]) rfl (l:=[(0,.gslice 0 f.length 1)]) rfl ?_;intro B hB;refine Ul ?_;refine sg fol (kAt []) (.cells (f.flatMap (qm encI).c)::(kAK f)) ?_;refine Goes.scope ?_;refine sh fol (kAt [(2,.func (.func 175) [] [.ptr 1 0])]) ?_;refine sq (Goes.label ?_);refine sh fol (kAt [(2,.func (.func 175) [] [.ptr 1 0]),(3,.i 0)]) ?_;refine Goes.block ?_;obtain⟨D,g5,h⟩:=bnd h;refine Goes.imp (Q:=fun x s'=>(x= .exit 0/\ ∃v,v=D/\Sub s' (ofG 23 [],[.cells (v.flatMap (qm encI).c)]))) ?_ ?_
 ·refine Ud (fun M s=> ∃(r:List (List Int)) (b:Int),s=(ofG 23 (kAt [(2,.func (.func 175) [] [.ptr 1 0]),(3,.i b)]),(.cells (r.flatMap (qm encI).c)::(kAK r)))/\vz N M r b=some D) ?_ (m:=N) ⟨_,_,rfl,g5⟩;rintro M s ⟨r,b,rfl,g5⟩
  cases M with
  |zero=>simp only[vz]at g5;cases g5
  |succ M=>
   rw[vz]at g5;refine sq ?_;refine sh fol (kAt ((2,.func (.func 175) [] [.ptr 1 0])::(3,.i b)::(kA9 (decide ((w64 (b+1))<(r.length:Int)))))) ?_;refine ihD g5 (fun c6 g5=>?_) (fun c6 g5=>?_)
   ·refine Goes.skip ?_;obtain⟨E,g9,g5⟩:=bnd g5;refine Goes.imp (Q:=fun x s'=>(x= .normal/\ ∃q u,(q,u)=E/\Sub s' (ofG 23 (kAt [(2,.func (.func 175) [] [.ptr 1 0]),(3,.i u)]),(.cells (q.flatMap (qm encI).c)::(kAK q))))) ?_ ?_
    ·refine Goes.block ?_;refine sh fol (kAt ((2,.func (.func 175) [] [.ptr 1 0])::(3,.i b)::kA5)) ?_;refine sq (Goes.block ?_);obtain⟨t,g14,g9⟩:=bnd g9;refine Goes.imp (Q:=fun x s'=>(x= .exit 2/\ ∃g n,(g,n)=t/\Sub s' (ofG 23 (kAt ((2,.func (.func 175) [] [.ptr 1 0])::(3,.i b)::(kA2 n))),(.cells (g.flatMap (qm encI).c)::(kAK g))))) ?_ ?_
     ·refine Ud (fun M s=> ∃(e:List (List Int)) (j:Bool),s=(ofG 23 (kAt ((2,.func (.func 175) [] [.ptr 1 0])::(3,.i b)::(kA2 j))),(.cells (e.flatMap (qm encI).c)::(kAK e)))/\vB N b M e j=some t) ?_ (m:=N) ⟨_,_,rfl,g14⟩;rintro M s ⟨e,j,rfl,g14⟩
      cases M with
      |zero=>simp only[vB]at g14;cases g14
      |succ M=>
       rw[vB]at g14;refine sq ?_;obtain⟨⟨d,k⟩,o,g14⟩:=bnd g14
       try dsimp only at g14
       obtain⟨F,w,g14⟩:=bnd g14;refine sq (gq fol [2] (kAt [(2,.func (.func 175) [] [.ptr 1 0]),(3,.i b),(4,.bool j),(13,.bool k)]) (.cells (d.flatMap (qm encI).c)::(kAK d)) (ac (hs (.callH 175 [.i b,.ptr 1 0] (.cells (e.flatMap (qm encI).c)::(kAK e)) [1,0] (.bool k) (.cells (d.flatMap (qm encI).c)::(kAK d))) (zG [some 1,some 0] [some 1,some 0] (qe7 N b e o) (.kb rfl (.cells (rc (.gslice rfl) rn)) (.ks .nil)) rfl rfl (.back rfl rfl (.same fa) rfl (.back rfl rfl (.cells (rc (.gslice rfl) rn)) rfl .nil)) (rc (.same nI) (rc (.ptr rfl) rn)) (.same nB) rfl)) az) ?_);refine Goes.sub (show Sub (ofG 23 (kAt [(2,.func (.func 175) [] [.ptr 1 0]),(3,.i b),(4,.bool j),(13,.bool k)]),(.cells (d.flatMap (qm encI).c)::(kAK d))) (ofG 23 (kAt [(2,.func (.func 175) [] [.ptr 1 0]),(3,.i b),(4,.bool j),(13,.bool k)]),(.cells (d.flatMap (qm encI).c)::(kAK d)))from(Sub.norm [] [some 0,some 1] (by rw[hB];rfl) rfl (.kp (.keep (.funcL (sn) (rc (.ptr rfl) rn)) (.keep (.same nI) (.keep (.same nB) (.keep (.same nB) .nil))))) (.ks (.kb rfl (.cells (rc (.gslice rfl) rn)) .nil)))) ?_;refine ihB g14 (fun y g14=>?_) (fun y g14=>?_)
       ·refine Goes.skip ?_;refine Goes.block ?_;refine gh fol (kAt ((2,.func (.func 175) [] [.ptr 1 0])::(3,.i b)::kBH)) ?_;exact⟨M,(ofG 23 (kAt ((2,.func (.func 175) [] [.ptr 1 0])::(3,.i b)::kBH)),(.cells (d.flatMap (qm encI).c)::(kAK d))),Nat.lt_succ_self _,(Sub.refl _),_,_,rfl,g14⟩
       refine Goes.exit ?_;obtain rfl:=si g14;exact⟨rfl,_,_,rfl,(Sub.keep [1,2,3,4] rfl rfl)⟩
     rintro x s' ⟨rfl,g,n,rfl,hsub⟩
     try dsimp only at g9
     refine Goes.sub hsub ?_;refine sq ?_;refine sq ?_;obtain⟨z,a,g9⟩:=bnd g9;refine Goes.cut (s':=(ofG 23 (kAt [(2,.func (.func 175) [] [.ptr 1 0]),(3,.i b),(18,.bool z)]),(.cells (g.flatMap (qm encI).c)::(kAK g)))) ?_ ?_
     ·rcases wyB a with⟨p,a⟩|⟨p,a⟩
      ·obtain rfl:=si a;exact tr fol [1] (kAt [(2,.func (.func 175) [] [.ptr 1 0]),(3,.i b),(18,.bool (decide (b>0)))]) (ac (gw p) az)
      obtain rfl:=si a;exact tr fol [1] (kAt [(2,.func (.func 175) [] [.ptr 1 0]),(3,.i b),(18,.bool false)]) (ac (gw p) az)
     refine ihB g9 (fun A g9=>?_) (fun A g9=>?_)
     ·refine sh fol (kAt [(2,.func (.func 175) [] [.ptr 1 0]),(3,.i (w64 (b-1)))]) ?_;refine Goes.exit ?_;obtain rfl:=si g9;exact⟨rfl,_,_,rfl,(Sub.refl _)⟩
     refine Goes.skip ?_;refine gh fol (kAt [(2,.func (.func 175) [] [.ptr 1 0]),(3,.i (w64 (b+1)))]) ?_;obtain rfl:=si g9;exact⟨rfl,_,_,rfl,(Sub.refl _)⟩
    rintro x s' ⟨rfl,q,u,rfl,hsub⟩
    try dsimp only at g5
    exact⟨M,(ofG 23 (kAt [(2,.func (.func 175) [] [.ptr 1 0]),(3,.i u)]),(.cells (q.flatMap (qm encI).c)::(kAK q))),Nat.lt_succ_self _,(hsub.trans (Sub.refl _)),_,_,rfl,g5⟩
   refine Goes.exit ?_;obtain rfl:=si g5;exact⟨rfl,_,rfl,(Sub.norm [] [some 0] (by rw[hB];rfl) rfl .nil (.ks .nil))⟩
 rintro x s' ⟨rfl,v,rfl,hsub⟩;obtain rfl:=si h;exact⟨_,hsub,(gh2 [] (qbI.refl _ _))⟩
def vT (N:Nat) (n:Int) (w:List Int):Nat->Int->(List (List Int))->Int->Option (Int×(List (List Int)))
 |0,_,_,_=>none
 |K+1,c,d,e=>
  if e<(w.length:Int)then
  (((idx w e).bind fun a=>
  (qQ a).bind fun b=>
  if a>0 then
  (z8 N n).bind fun f=>
  (jd f (w64 (b-1))).bind fun g=>
  (app 24 d [g]).bind fun h=>
  some (c,h)
  else
  (jP N d).bind fun i=>
  (qbE N n).bind fun j=>
  (jU N j (w64 (b-1))).bind fun k=>
  (app 24 i [k]).bind fun l=>
  some (w64 (c-1),l):Option (Int×(List (List Int))))).bind fun(o,m)=>
  vT N n w K o m (w64 (e+1))
  else
  some (c,d)
def vU (N:Nat) (n:Int) (c:List (List Int)):Nat->Int->(List (List Int))->Int->Option (Int×(List (List Int)))
 |0,_,_,_=>none
 |K+1,a,b,d=>
  if d<(c.length:Int)then
  (((idx c d).bind fun e=>
  (yu N e).bind fun f=>
  if f=true then
  some (a,b)
  else
  (qbE N n).bind fun g=>
  (vW N e g).bind fun h=>
  if h=true then
  some (w64 (a+1),b)
  else
  (app 24 b [e]).bind fun i=>
  some (a,i):Option (Int×(List (List Int))))).bind fun(j,k)=>
  vU N n c K j k (w64 (d+1))
  else
  some (a,b)
def xP (N:Nat) (n:Int) (w:List Int):Option qcl:=
 if n=1 then
 some (⟨0,[]⟩:qcl)
 else
 (vT N n w N 0 ([]:List (List Int)) 0).bind fun(e,d)=>
 (qaQ N d).bind fun a=>
 ((if d.length=a.length then some ()else none:Option Unit)).bind fun f=>
 (vU N n a N e ([]:List (List Int)) 0).bind fun(b,c)=>
 some (⟨b,c⟩:qcl)
theorem qd8 (N:Nat) (n:Int) (w:List Int) {res:qcl} (h:xP N n w=some res):qb ZT (.fn 47) [.i n,vl encI w] [] (.agg [.i res.Half,vl (qm encI) res.Factors]) []:=by
 unfold xP at h;refine Ub Tryz.func47 rfl rfl (m:=74) rfl (rs:=[.cell 4 35]) rfl (l:=(kE n w [])) rfl ?_;refine sg fol (kE n w [(4,.ptr 0 0)]) [bZ] ?_;refine sg fol (kE n w (kAY [])) [bZ,bZ] ?_;refine sq ?_;refine sh fol (kE n w (kAY [(13,.bool (decide (n=1)))])) ?_;refine ihD h (fun c1 h=>?_) (fun c1 h=>?_)
 ·refine sh fol [(4,.ptr 0 0)] ?_;refine Goes.ret ?_;obtain rfl:=si h;exact(gw2 [.agg [.i 0,.nilslice]] (FzW.agg (ql.cons (Ua tI) (ql.cons (FzW.nilv (E:=(qm encI))) ql.nil))))
 refine Goes.skip ?_;refine sh fol (kE n w (kAY [(6,.nilslice)])) ?_;refine sq ?_;refine sh fol (kM n [(6,.nilslice),(15,vl encI w),(16,.i (w.length:Int)),(17,.i 0)]) ?_;refine Goes.block ?_;obtain⟨r7,g7,h⟩:=bnd h;refine Goes.imp (Q:=fun x s'=>(x= .exit 0/\ ∃C D,(C,D)=r7/\Sub s' (ofG 74 (kM n (kAa D [])),(bZ::(kAA C [.cells (D.flatMap (qm encI).c)]))))) ?_ ?_
 ·refine Goes.sub (s':=(ofG 74 (kM n [(6,.gslice 2 ([]:List (List Int)).length 1),(15,vl encI w),(16,.i (w.length:Int)),(17,.i 0)]),[bZ,bZ,.cells (([]:List (List Int)).flatMap (qm encI).c)])) (Sub.norm [] [some 0,some 1,none] rfl rfl (.keep (.same nI) (.kp (.kp (.keep .nil (.keep (.same (qf encI _)) (.keep (.same nI) (.keep (.same nI) .nil))))))) (.kb rfl (.same sn) (.kb rfl (.same sn) (.fresh .nil)))) ?_;refine Ud (fun M s=> ∃(k:Int) (f:List (List Int)) (q:Int),s=(ofG 74 (kM n (kAa f ((15,vl encI w)::(kAE (w.length:Int) q)))),(bZ::(kAA k [.cells (f.flatMap (qm encI).c)])))/\vT N n w M k f q=some r7) ?_ (m:=N) ⟨_,_,_,rfl,g7⟩;rintro M s ⟨k,f,q,rfl,g7⟩
  cases M with
  |zero=>simp only[vT]at g7;cases g7
  |succ M=>
   rw[vT]at g7;refine sh fol (kM n (kAa f [(15,vl encI w),(16,.i (w.length:Int)),(17,.i q),(18,.bool (decide (q<(w.length:Int))))])) ?_;refine sq ?_;refine ihD g7 (fun c8 g7=>?_) (fun c8 g7=>?_)
   ·refine Goes.skip ?_;refine sq ?_;obtain⟨r11,g11,g7⟩:=bnd g7;refine Goes.imp (Q:=fun x s'=>(x= .normal/\ ∃n9 r,(n9,r)=r11/\Sub s' (ofG 74 (kM n (kAa r ((15,vl encI w)::(kAE (w.length:Int) q)))),(bZ::(kAA n9 [.cells (r.flatMap (qm encI).c)]))))) ?_ ?_
    ·refine Goes.block ?_;obtain⟨F,z,g11⟩:=bnd g11;refine sq (gr fol [0,1] (kM n (kAa f ((8,.i F)::(15,vl encI w)::(kAE (w.length:Int) q)))) (ac (iv vo encI z) (ac (lv 0 ce3 encI z rfl) az)) ?_);obtain⟨t,K,g11⟩:=bnd g11;refine sq (gr fol [1] (kM n (kAa f ((8,.i F)::(9,.i (w64 (t-1)))::(15,vl encI w)::(kAE (w.length:Int) q)))) (ac (cv (qp F K)) az) ?_);refine sq ?_;refine sh fol (kM n (kAa f [(9,.i (w64 (t-1))),(15,vl encI w),(16,.i (w.length:Int)),(17,.i q),(25,.bool (decide (F>0)))])) ?_;refine ihD g11 (fun c14 g11=>?_) (fun c14 g11=>?_)
     ·obtain⟨e,L,g11⟩:=bnd g11;obtain⟨u,O,g11⟩:=bnd g11;obtain⟨o,P,g11⟩:=bnd g11;refine sq (gq fol [2,4,6] (kM n ((6,.gslice 5 o.length 1)::(15,vl encI w)::(kAE (w.length:Int) q))) (bZ::(kAA k (.dead::(kA0 e (kC u [.cells (o.flatMap (qm encI).c)]))))) (ac (hs (.callH 106 [.i n] (bZ::(kAA k [.cells (f.flatMap (qm encI).c)])) [] (.slice 3 0 e.length e.length 1) (bZ::(kAA k (.cells (f.flatMap (qm encI).c)::(kA e []))))) (zG [] [none,none,none,some 0] (vH N n L) .nil rfl rfl (.old rfl rfl (.old rfl rfl (.old rfl rfl (.new rfl rfl (.same fa) rfl .nil)))) (rc (.same nI) rn) (.slice rfl) rfl)) (ac (hs (.callF 107 [.slice 3 0 e.length e.length 1,.i (w64 (t-1))] (bZ::(kAA k (.cells (f.flatMap (qm encI).c)::(kA e [])))) [3] [vl encI e,.i (w64 (t-1))] (vl encI u)) (quR (FzL.cons (Fz.sl (E:=encI) rfl rfl (nl rfl)) (FzL.cons (Uc tI) FzL.nil)) (xg e (w64 (t-1)) O) (qy encI _ (nl rfl)))) (ac (hs (.run [2,4] (qaV ZT [141,141] (.gslice 2 f.length 1) (.slice 4 0 1 1 1)) (bZ::(kAA k (.cells (f.flatMap (qm encI).c)::(kA0 e (kC u []))))) (.gslice 5 o.length 1) (bZ::(kAA k (.dead::(kA0 e (kC u [.cells (o.flatMap (qm encI).c)]))))) true) (qeS qeI (E:=(qm encI)) rfl (qh6 (E:=(qm encI)) (ys:=[u]) rfl rfl rfl rfl) (qoF (E:=(qm encI)) (l:=f) rfl rfl rfl P rfl))) az))) ?_);refine Goes.sub (show Sub (ofG 74 (kM n ((6,.gslice 5 o.length 1)::(15,vl encI w)::(kAE (w.length:Int) q))),(bZ::(kAA k (.dead::(kA0 e (kC u [.cells (o.flatMap (qm encI).c)])))))) (ofG 74 (kM n (kAa o ((15,vl encI w)::(kAE (w.length:Int) q)))),(bZ::(kAA k [.cells (o.flatMap (qm encI).c)])))from(Sub.norm [] [some 0,some 1,some 5] rfl rfl (.keep (.same nI) (.kp (.kp (.keep (.gslice rfl) (.keep (.same (qf encI _)) (.keep (.same nI) (.keep (.same nI) .nil))))))) (.kb rfl (.same sn) (.kb rfl (.same sn) (.ks .nil))))) ?_;refine Goes.exit ?_;obtain rfl:=si g11;exact⟨rfl,_,_,rfl,(Sub.refl _)⟩
     refine Goes.skip ?_;refine sg fol (kM n (kAa f ((9,.i (w64 (t-1)))::(15,vl encI w)::(kAE (w.length:Int) q)))) (bZ::(kAA (w64 (k-1)) [.cells (f.flatMap (qm encI).c)])) ?_;obtain⟨A,U,g11⟩:=bnd g11;obtain⟨r21,V,g11⟩:=bnd g11;obtain⟨G,X,g11⟩:=bnd g11;obtain⟨H,Y,g11⟩:=bnd g11;refine gq fol [1,3,5,7] (kM n ((6,.gslice 5 H.length 1)::(15,vl encI w)::(kAE (w.length:Int) q))) (bZ::(kAA (w64 (k-1)) (.cells (f.flatMap (qm encI).c):: .dead::(kC G [.cells (H.flatMap (qm encI).c)])))) (ac (hs (.callH 108 [.gslice 2 f.length 1,.func (.func 109) [] []] (bZ::(kAA (w64 (k-1)) [.cells (f.flatMap (qm encI).c)])) [2] (.gslice 3 A.length 1) (bZ::(kAA (w64 (k-1)) [.cells (f.flatMap (qm encI).c),.cells (A.flatMap (qm encI).c)]))) (zG [some 2] [none,none,some 0,some 1] (qcX N f U) (.ks .nil) rfl rfl (.old rfl rfl (.old rfl rfl (.back rfl rfl (.same fa) rfl (.new rfl rfl (.same fa) rfl .nil)))) (rc (.gslice rfl) (rc (.same (qA.func sn sn)) rn)) (.gslice rfl) rfl)) (ac (cv (qff N n V)) (ac (cv (qbj N r21 (w64 (t-1)) X)) (ac (hs (.run [3,4] (qaV ZT [141,141] (.gslice 3 A.length 1) (.slice 4 0 1 1 1)) (bZ::(kAA (w64 (k-1)) (.cells (f.flatMap (qm encI).c):: .cells (A.flatMap (qm encI).c)::(kC G [])))) (.gslice 5 H.length 1) (bZ::(kAA (w64 (k-1)) (.cells (f.flatMap (qm encI).c):: .dead::(kC G [.cells (H.flatMap (qm encI).c)])))) true) (qeS qeI (E:=(qm encI)) rfl (qh6 (E:=(qm encI)) (ys:=[G]) rfl rfl rfl rfl) (qoF (E:=(qm encI)) (l:=A) rfl rfl rfl Y rfl))) az)))) ?_;obtain rfl:=si g11;exact⟨rfl,_,_,rfl,(Sub.norm [] [some 0,some 1,some 5] rfl rfl (.keep (.same nI) (.kp (.kp (.keep (.gslice rfl) (.keep (.same (qf encI _)) (.keep (.same nI) (.keep (.same nI) .nil))))))) (.kb rfl (.same sn) (.kb rfl (.same sn) (.ks .nil))))⟩
    rintro x s' ⟨rfl,n9,r,rfl,hsub⟩
    try dsimp only at g7
    refine Goes.sub hsub ?_;refine gh fol (kM n (kAa r ((15,vl encI w)::(kAE (w.length:Int) (w64 (q+1)))))) ?_;exact⟨M,(ofG 74 (kM n (kAa r ((15,vl encI w)::(kAE (w.length:Int) (w64 (q+1)))))),(bZ::(kAA n9 [.cells (r.flatMap (qm encI).c)]))),Nat.lt_succ_self _,(Sub.refl _),_,_,_,rfl,g7⟩
   refine Goes.exit ?_;obtain rfl:=si g7;exact⟨rfl,_,_,rfl,(Sub.keep [0,4,5,6] rfl rfl)⟩
 rintro x s' ⟨rfl,C,D,rfl,hsub⟩
 try dsimp only at h
 refine Goes.sub hsub ?_;obtain⟨a,Z,h⟩:=bnd h;obtain⟨u26,a0,h⟩:=bnd h;refine sq (gq fol [1] (kM n (kAa D [])) (bZ::(kAA C [.cells (a.flatMap (qm encI).c)])) (ac (hs (.callH 111 [.gslice 2 D.length 1] (bZ::(kAA C [.cells (D.flatMap (qm encI).c)])) [2] (.tuple []) (bZ::(kAA C [.cells (a.flatMap (qm encI).c)]))) (zG [some 2] [none,none,some 0] (qgC N D Z) (.ks .nil) rfl rfl (.old rfl rfl (.old rfl rfl (.back rfl rfl (.same fa) rfl .nil))) (rc (.gslice rfl) rn) (.same (qA.tuple sn)) rfl)) az) ?_);refine Goes.sub (show Sub (ofG 74 (kM n (kAa D [])),(bZ::(kAA C [.cells (a.flatMap (qm encI).c)]))) (ofG 74 (kM n (kAa a [])),(bZ::(kAA C [.cells (a.flatMap (qm encI).c)])))from(Sub.norm [] [some 0,some 1,some 2] rfl rfl (.keep (.same nI) (.kp (.kp (.keep (.gsliceE rfl (qol a0)) .nil)))) (.kb rfl (.same sn) (.kb rfl (.same sn) (.ks .nil))))) ?_;refine sq ?_;refine sh fol (kM n [(48,.gslice 2 a.length 1),(49,.i (a.length:Int)),(50,.i 0)]) ?_;refine Goes.block ?_;obtain⟨a5,g32,h⟩:=bnd h;refine Goes.imp (Q:=fun x s'=>(x= .exit 2/\ ∃v p,(v,p)=a5/\Sub s' (ofG 74 (kAY []),(bZ::(kAZ v p [.cells (p.flatMap (qm encI).c)]))))) ?_ ?_
 ·refine Goes.sub (s':=(ofG 74 (kM n [(48,.gslice 3 a.length 1),(49,.i (a.length:Int)),(50,.i 0)]),[bZ,.cells [.i C,.gslice 2 ([]:List (List Int)).length 1],.cells (([]:List (List Int)).flatMap (qm encI).c),.cells (a.flatMap (qm encI).c)])) (Sub.norm [] [some 0,some 1,none,some 2] rfl rfl (.keep (.same nI) (.kp (.kp (.keep (.gslice rfl) (.keep (.same nI) (.keep (.same nI) .nil)))))) (.kb rfl (.same sn) (.kb rfl (.cells (rc (.same nI) (rc (.nil) rn))) (.fresh (.ks .nil))))) ?_;refine Ud (fun M s=> ∃(j:Int) (d:List (List Int)) (b:Int),s=(ofG 74 (kM n (kAI a (a.length:Int) b [])),(bZ::(kAZ j d [.cells (d.flatMap (qm encI).c),.cells (a.flatMap (qm encI).c)])))/\vU N n a M j d b=some a5) ?_ (m:=N) ⟨_,_,_,rfl,g32⟩;rintro M s ⟨j,d,b,rfl,g32⟩
  cases M with
  |zero=>simp only[vU]at g32;cases g32
  |succ M=>
   rw[vU]at g32;refine sh fol (kM n (kAI a (a.length:Int) b [(51,.bool (decide (b<(a.length:Int))))])) ?_;refine sq ?_;refine ihD g32 (fun c33 g32=>?_) (fun c33 g32=>?_)
   ·refine Goes.skip ?_;refine sq ?_;obtain⟨r36,g36,g32⟩:=bnd g32;refine Goes.imp (Q:=fun x s'=>(x= .normal/\ ∃I y,(I,y)=r36/\Sub s' (ofG 74 (kM n (kAI a (a.length:Int) b [])),(bZ::(kAZ I y [.cells (y.flatMap (qm encI).c),.cells (a.flatMap (qm encI).c)]))))) ?_ ?_
    ·refine Goes.block ?_;obtain⟨g,B,g36⟩:=bnd g36;refine sq (gr fol [0,1] (kM n ((11,vl encI g)::(kAI a (a.length:Int) b []))) (ac (hs (.done (.opt (qd ZT 141 (.gslice 3 a.length 1) (.i b))) (.ptr 3 ((b:Int).toNat*1+0))) (qaR qeI B)) (ac (hs (.run [3] (jb ZT 133 (.ptr 3 ((b:Int).toNat*1+0))) (bZ::(kAZ j d [.cells (d.flatMap (qm encI).c),.cells (a.flatMap (qm encI).c)])) (vl encI g) (bZ::(kAZ j d [.cells (d.flatMap (qm encI).c),.cells (a.flatMap (qm encI).c)])) false) (qcW qjC (E:=(qm encI)) (l:=a) rfl rfl B (nl rfl) rfl)) az)) ?_);refine Goes.block ?_;obtain⟨r38,a1,g36⟩:=bnd g36;refine sq (gr fol [1] (kM n ((11,vl encI g)::(kAI a (a.length:Int) b [(60,.bool r38)]))) (ac (cv (qea N g a1)) az) ?_);refine ihB g36 (fun c39 g36=>?_) (fun c39 g36=>?_)
     ·refine Goes.skip ?_;obtain rfl:=si g36;exact⟨rfl,_,_,rfl,(Sub.keep [0,4,5,48,49,50] rfl rfl)⟩
     obtain⟨r40,a2,g36⟩:=bnd g36;obtain⟨r41,a3,g36⟩:=bnd g36;refine sq (gr fol [2,3] (kM n ((11,vl encI g)::(kAI a (a.length:Int) b [(63,.bool r41)]))) (ac (cv (qff N n a2)) (ac (cv (qdN N g r40 a3)) az)) ?_);refine ihB g36 (fun c42 g36=>?_) (fun c42 g36=>?_)
     ·refine Goes.rg fol (kM n (kAI a (a.length:Int) b [])) (bZ::(kAZ (w64 (j+1)) d [.cells (d.flatMap (qm encI).c),.cells (a.flatMap (qm encI).c)])) ?_;obtain rfl:=si g36;exact⟨rfl,_,_,rfl,(Sub.refl _)⟩
     obtain⟨J,a4,g36⟩:=bnd g36;refine gq fol [4] (kM n (kAI a (a.length:Int) b [])) (bZ:: .cells [.i j,.gslice 5 J.length 1]:: .dead:: .cells (a.flatMap (qm encI).c)::(kC g [.cells (J.flatMap (qm encI).c)])) (ac (hs (.run [2,4] (qaV ZT [33,33] (.gslice 2 d.length 1) (.slice 4 0 1 1 1)) (bZ::(kAZ j d (.cells (d.flatMap (qm encI).c):: .cells (a.flatMap (qm encI).c)::(kC g [])))) (.gslice 5 J.length 1) (bZ::(kAZ j d (.dead:: .cells (a.flatMap (qm encI).c)::(kC g [.cells (J.flatMap (qm encI).c)])))) true) (qeS qmQ (E:=(qm encI)) rfl (qh6 (E:=(qm encI)) (ys:=[g]) rfl rfl rfl rfl) (qoF (E:=(qm encI)) (l:=d) rfl rfl rfl a4 rfl))) az) ?_;obtain rfl:=si g36;exact⟨rfl,_,_,rfl,(Sub.norm [] [some 0,some 1,some 5,some 3] rfl rfl (.keep (.same nI) (.kp (.kp (.keep (.gslice rfl) (.keep (.same nI) (.keep (.same nI) .nil)))))) (.kb rfl (.same sn) (.kb rfl (.cells (rc (.same nI) (rc (.gslice rfl) rn))) (.ks (.ks .nil)))))⟩
    rintro x s' ⟨rfl,I,y,rfl,hsub⟩
    try dsimp only at g32
    refine Goes.sub hsub ?_;refine gh fol (kM n (kAI a (a.length:Int) (w64 (b+1)) [])) ?_;exact⟨M,(ofG 74 (kM n (kAI a (a.length:Int) (w64 (b+1)) [])),(bZ::(kAZ I y [.cells (y.flatMap (qm encI).c),.cells (a.flatMap (qm encI).c)]))),Nat.lt_succ_self _,(Sub.refl _),_,_,_,rfl,g32⟩
   refine Goes.exit ?_;obtain rfl:=si g32;exact⟨rfl,_,_,rfl,(Sub.norm [] [some 0,some 1,some 2] rfl rfl (.drop (.kp (.kp .nil))) (.kb rfl (.same sn) (.kb rfl (.cells (rc (.same nI) (rc (.gslice rfl) rn))) (.ks .nil))))⟩
 rintro x s' ⟨rfl,v,p,rfl,hsub⟩
 try dsimp only at h
 refine Goes.sub hsub ?_;refine sg fol [(4,.ptr 0 0)] (kAZ v p (kAZ v p [.cells (p.flatMap (qm encI).c)])) ?_;refine Goes.ret ?_;obtain rfl:=si h;exact(gw2 [.agg [.i v,.gslice 2 p.length 1]] (FzW.agg (ql.cons (Ua tI) (ql.cons (Ut (Fz.gs (E:=(qm encI)) rfl rfl (nl rfl))) ql.nil))))
def qM (N:Nat) (a:List (List Int)) (b:List (List Int)):Nat->Int->Option (Unit⊕Bool)
 |0,_=>none
 |K+1,c=>
  if c<(a.length:Int)then
  (idx a c).bind fun d=>
  (idx b c).bind fun e=>
  (slices_Equal_int N d e).bind fun f=>
  if(!f)=true then
  some (.inr false)
  else
  qM N a b K (w64 (c+1))
  else
  some (.inl ())
def zg (N:Nat) (a:List (List Int)) (b:List (List Int)):Option Bool:=
 if(!decide ((a.length:Int)=(b.length:Int)))=true then
 some false
 else
 (qM N a b N 0).bind (fun
 |(.inl ())=>
 some true
 |(.inr c)=>
 some c)
theorem qav (N:Nat) (a:List (List Int)) (b:List (List Int)) {res:Bool} (h:zg N a b=some res):qb ZT (.fn 124) [vl (qm encI) a,vl (qm encI) b,.func (.func 63) [] []] [] (.bool res) []:=by
 unfold zg at h;refine Ub Tryz.func124 rfl rfl (m:=32) rfl (rs:=[.tmp 6]) rfl (l:=[(0,vl (qm encI) a),(1,vl (qm encI) b),(2,.func (.func 63) [] [])]) rfl ?_;refine sh fol [(0,vl (qm encI) a),(1,vl (qm encI) b),(2,.func (.func 63) [] [])] ?_;refine sq ?_;refine sh fol [(0,vl (qm encI) a),(1,vl (qm encI) b),(2,.func (.func 63) [] []),(14,.bool (!decide ((a.length:Int)=(b.length:Int))))] ?_;refine ihB h (fun o h=>?_) (fun o h=>?_)
 ·refine sh fol kAh ?_;refine Goes.ret ?_;obtain rfl:=si h;exact(gw2 [.bool false] (Ua tB))
 refine Goes.skip ?_;refine sq ?_;refine sh fol [(1,vl (qm encI) b),(2,.func (.func 63) [] []),(15,vl (qm encI) a),(16,.i (a.length:Int)),(17,.i 0)] ?_;refine Goes.block ?_;obtain⟨g,g3,h⟩:=bnd h;refine Goes.imp (Q:=fun x s'=>(x= .exit 0/\(.inl ())=g/\Sub s' (ofG 32 [],[]))\/(x= .ret/\ ∃k,(.inr k)=g/\jM ZT [.tmp 6] (.bool k) .ret s')) ?_ ?_
 ·refine Ud (fun M s=> ∃(c:Int),s=(ofG 32 ((1,vl (qm encI) b)::(2,.func (.func 63) [] [])::(15,vl (qm encI) a)::(kAE (a.length:Int) c)),[])/\qM N a b M c=some g) ?_ (m:=N) ⟨_,rfl,g3⟩;rintro M s ⟨c,rfl,g3⟩
  cases M with
  |zero=>simp only[qM]at g3;cases g3
  |succ M=>
   rw[qM]at g3;refine sh fol [(1,vl (qm encI) b),(2,.func (.func 63) [] []),(15,vl (qm encI) a),(16,.i (a.length:Int)),(17,.i c),(18,.bool (decide (c<(a.length:Int))))] ?_;refine sq ?_;refine ihD g3 (fun p g3=>?_) (fun p g3=>?_)
   ·refine Goes.skip ?_;refine sq (Goes.block ?_);obtain⟨j,d,g3⟩:=bnd g3;refine sq (gr fol [1,2] ((1,vl (qm encI) b)::(2,.func (.func 63) [] [])::(7,.i c)::(8,vl encI j)::(15,vl (qm encI) a)::(kAE (a.length:Int) c)) (ac (iv qmQ (qm encI) d) (ac (lv 0 ce22 (qm encI) d rfl) az)) ?_);obtain⟨n,e,g3⟩:=bnd g3;refine sq (gr fol [2,3] ((1,vl (qm encI) b)::(2,.func (.func 63) [] [])::(8,vl encI j)::(9,vl encI n)::(15,vl (qm encI) a)::(kAE (a.length:Int) c)) (ac (iv qmQ (qm encI) e) (ac (lv 0 ce22 (qm encI) e rfl) az)) ?_);obtain⟨q,f,g3⟩:=bnd g3;refine sq (gr fol [3] [(1,vl (qm encI) b),(2,.func (.func 63) [] []),(15,vl (qm encI) a),(16,.i (a.length:Int)),(17,.i c),(30,.bool (!q))] (ac (cv (qaP N j n f)) az) ?_);refine ihB g3 (fun r g3=>?_) (fun r g3=>?_)
    ·refine sh fol kAh ?_;refine Goes.ret ?_;obtain rfl:=si g3;exact Or.inr (⟨rfl,_,rfl,(gw2 [.bool false] (Ua tB))⟩)
    refine Goes.skip ?_;refine gh fol ((1,vl (qm encI) b)::(2,.func (.func 63) [] [])::(15,vl (qm encI) a)::(kAE (a.length:Int) (w64 (c+1)))) ?_;exact⟨M,(ofG 32 ((1,vl (qm encI) b)::(2,.func (.func 63) [] [])::(15,vl (qm encI) a)::(kAE (a.length:Int) (w64 (c+1)))),[]),Nat.lt_succ_self _,(Sub.refl _),_,rfl,g3⟩
   refine Goes.exit ?_;obtain rfl:=si g3;exact Or.inl (⟨rfl,rfl,(Sub.keep [] rfl rfl)⟩)
 rintro x s' (⟨rfl,rfl,hsub⟩|⟨rfl,t,rfl,hret⟩)
 ·try dsimp only at h
  refine Goes.sub hsub ?_;refine sh fol [(6,.bool true)] ?_;refine Goes.ret ?_;obtain rfl:=si h;exact(gw2 [.bool true] (Ua tB))
 try dsimp only at h
 obtain rfl:=si h;exact hret
def qaU (N:Nat) (f:qcl) (g:qcl):Option Bool:=
 (if f.Half=g.Half then
 (zg N f.Factors g.Factors).bind fun a=>
 some a
 else
 some false:Option Bool).bind fun b=>
 some b
theorem qfF (N:Nat) (f:qcl) (g:qcl) {res:Bool} (h:qaU N f g=some res):qb ZT (.fn 132) [.agg [.i f.Half,vl (qm encI) f.Factors],.agg [.i g.Half,vl (qm encI) g.Factors]] [] (.bool res) []:=by
 unfold qaU at h;refine Ub Tryz.func132 rfl rfl (m:=17) rfl (rs:=[.tmp 4]) rfl (l:=[(0,.agg [.i f.Half,vl (qm encI) f.Factors]),(1,.agg [.i g.Half,vl (qm encI) g.Factors])]) rfl ?_;refine sg fol (kAe []) [.cells [.i f.Half,vl (qm encI) f.Factors],.cells [.i g.Half,vl (qm encI) g.Factors]] ?_;refine sq ?_;obtain⟨d,a,h⟩:=bnd h;refine Goes.cut (s':=(ofG 17 (kA2 d),[.cells [.i f.Half,vl (qm encI) f.Factors],.cells [.i g.Half,vl (qm encI) g.Factors]])) ?_ ?_
 ·rcases wyD a with⟨c,a⟩|⟨c,a⟩
  ·obtain⟨e,b,a⟩:=bnd a;obtain rfl:=si a;exact tr fol [5,10] (kA2 e) (ac (gw c) (ac (hs (.call 124 [vl (qm encI) f.Factors,vl (qm encI) g.Factors,.func (.func 63) [] []] [] [] [vl (qm encI) f.Factors,vl (qm encI) g.Factors,.func (.func 63) [] []] (.bool e)) (qcJ (FzL.cons (Uc (qy (qm encI) _ (nl rfl))) (FzL.cons (Uc (qy (qm encI) _ (nl rfl))) (FzL.cons (Fz.func FzL.nil FzL.nil) FzL.nil))) (qav N f.Factors g.Factors b) tB)) az))
  obtain rfl:=si a;exact tr fol [5] kA5 (ac (gw c) az)
 refine Goes.ret ?_;obtain rfl:=si h;exact(gw2 [.bool d] (Ua tB))
def jZ (N:Nat) (n:Int) (a:List Int) (b:List Int):Option Bool:=
 (xP N n a).bind fun c=>
 (xP N n b).bind fun d=>
 (qaU N c d).bind fun e=>
 some e
theorem qcH (N:Nat) (n:Int) (a:List Int) (b:List Int) {res:Bool} (h:jZ N n a b=some res):qb ZT (.fn 64) (.i n::(kAs a b)) [] (.bool res) []:=by
 unfold jZ at h;refine Ub Tryz.func64 rfl rfl (m:=14) rfl (rs:=[.tmp 6]) rfl (l:=(kE n a (kAS b []))) rfl ?_;refine sh fol (kE n a (kAS b [])) ?_;obtain⟨g,c,h⟩:=bnd h;obtain⟨j,d,h⟩:=bnd h;obtain⟨f,e,h⟩:=bnd h;refine sq (gr fol [2,5,6] [(6,.bool f)] (ac (cv (qd8 N n a c)) (ac (cv (qd8 N n b d)) (ac (cv (qfF N g j e)) az))) ?_);refine Goes.ret ?_;obtain rfl:=si h;exact(gw2 [.bool f] (Ua tB))
end Go.Av
