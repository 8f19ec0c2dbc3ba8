/-
  Walks of functions: what each computes, as a plain function.
-/
import Derived.Test.YtkdbjocpkfeckaaGreatDoorQGenTu3
noncomputable section
namespace Go.Av
open Go.Proofs Go.RowKit
set_option linter.unusedSectionVars false
set_option linter.unusedVariables false
set_option linter.unusedSimpArgs false
set_option maxRecDepth 100000
def je:Nat->(List qw)->Int->Option (List qw)
 |0,_,_=>none
 |K+1,a,c=>
  if c<(a.length:Int)then
  (at' a c).bind fun b=>
  (some (qia a b (a.take b))).bind fun d=>
  je K d (w64 (c+((Nat.min (a.take b).length (a.length-b):Nat):Int)))
  else
  some a
def yO (N:Nat) (a:Int) (b:List Int) (c:Int) (d:List Int) (e:Int):Option (List qw):=
 ((if e<0 then
 none
 else
 some ():Option Unit)).bind fun _=>
 (bits_Mul (IntKind.wrap .u64 1) (IntKind.wrap .u64 e)).bind fun g=>
 (if g.1>0 then
 some true
 else
 some (decide (g.2>9223372036854775807)):Option Bool).bind fun j=>
 ((if j=true then
 none
 else
 some ():Option Unit)).bind fun _=>
 (mk 64 (w64 g.2) (⟨(⟨0,[]⟩:qP),(⟨0,[]⟩:qP)⟩:qw)).bind fun f=>
 (some (cpy f ([(⟨(⟨a,b⟩:qP),(⟨c,d⟩:qP)⟩:qw)]:List qw))).bind fun h=>
 (je N h ((Nat.min ([(⟨(⟨a,b⟩:qP),(⟨c,d⟩:qP)⟩:qw)]:List qw).length f.length:Nat):Int)).bind fun i=>
 some i
theorem qdS (N:Nat) (b:Int) (c:List Int) (d:Int) (e:List Int) (n:Int) {C:List qw} (h:yO N b c d e n=some C):qc ZT (.fn 145) [.slice 0 0 1 1 4,.i n] [.cells (ni2 b c d e)] (.slice 1 0 C.length C.length 4) (.cells (ni2 b c d e)::(kO C [])):=by
 unfold yO at h;refine Um Tryz.func145 rfl rfl (m:=48) rfl (rs:=[.tmp 4]) rfl (l:=(kA7 [(1,.i n)])) rfl ?_;intro B hB;refine sh fol (kA7 [(1,.i n)]) ?_;refine sq ?_;refine sh fol (kA7 ((1,.i n)::(kAv (decide (n<0))))) ?_;obtain⟨G,g2,h⟩:=bnd h;refine Goes.imp (Q:=fun x s'=>(x= .normal/\()=G/\Sub s' (ofG 48 (kA7 [(1,.i n)]),[.cells (ni2 b c d e)]))) ?_ ?_
 ·refine ihD g2 (fun H g2=>?_) (fun H g2=>?_)
  ·cases g2
  refine Goes.skip ?_;obtain rfl:=si g2;exact⟨rfl,rfl,(Sub.keep [0,1] rfl rfl)⟩
 rintro x s' ⟨rfl,rfl,hsub⟩;refine Goes.sub hsub ?_;obtain⟨v,y,h⟩:=bnd h;refine sq (gr fol [5] (kA7 ((5,.int .u64 v.1)::(kBJ v.2 []))) (ac (cv (qnb (IntKind.wrap .u64 1) (IntKind.wrap .u64 n) y)) az) ?_);refine sq ?_;refine sq ?_;obtain⟨I,o,h⟩:=bnd h;refine Goes.cut (s':=(ofG 48 (kA7 (kBJ v.2 [(26,.bool I)])),[.cells (ni2 b c d e)])) ?_ ?_
 ·rcases wyD o with⟨D,o⟩|⟨D,o⟩
  ·obtain rfl:=si o;exact tr fol [2] (kA7 (kBJ v.2 [(26,.bool true)])) (ac (gw D) az)
  obtain rfl:=si o;exact tr fol [2] (kA7 (kBJ v.2 [(26,.bool (decide (v.2>9223372036854775807)))])) (ac (gw D) az)
 obtain⟨J,g8,h⟩:=bnd h;refine Goes.imp (Q:=fun x s'=>(x= .normal/\()=J/\Sub s' (ofG 48 (kA7 (kBJ v.2 [])),[.cells (ni2 b c d e)]))) ?_ ?_
 ·refine ihB g8 (fun K g8=>?_) (fun K g8=>?_)
  ·cases g8
  refine Goes.skip ?_;obtain rfl:=si g8;exact⟨rfl,rfl,(Sub.keep [0,6] rfl rfl)⟩
 rintro x s' ⟨rfl,rfl,hsub⟩;refine Goes.sub hsub ?_;obtain⟨f,w,h⟩:=bnd h;refine sq (gq fol [2] (kA7 (kAU f [])) (.cells (ni2 b c d e)::(kO f [])) (ac (hs (.run [] (jv ZT 120 (.i (w64 v.2)) (.i (w64 v.2))) [.cells (ni2 b c d e)] (.slice 1 0 f.length f.length 4) (.cells (ni2 b c d e)::(kO f [])) false) (qd3 qe5 (E:=qb) (z:=(⟨(⟨0,[]⟩:qP),(⟨0,[]⟩:qP)⟩:qw)) rfl (by kernel_rfl) w rfl)) az) ?_);obtain⟨r,t,h⟩:=bnd h;refine sq (gq fol [2] (kAU f (kAk ((Nat.min ([(⟨(⟨b,c⟩:qP),(⟨d,e⟩:qP)⟩:qw)]:List qw).length f.length:Nat):Int))) (.cells (ni2 b c d e)::(kO r [])) (ac (hs (.run [1,0] (qcz ZT [120,120] (.slice 1 0 f.length f.length 4) (.slice 0 0 1 1 4)) (.cells (ni2 b c d e)::(kO f [])) (.i ((Nat.min ([(⟨(⟨b,c⟩:qP),(⟨d,e⟩:qP)⟩:qw)]:List qw).length f.length:Nat):Int)) (.cells (ni2 b c d e)::(kO r [])) true) (quq qe5 (E:=qb) (l:=f) rfl (qee (E:=qb) (ys:=([(⟨(⟨b,c⟩:qP),(⟨d,e⟩:qP)⟩:qw)]:List qw)) rfl rfl rfl rfl) (.inl rfl) rfl rfl t rfl)) az) ?_);refine Goes.sub (show Sub (ofG 48 (kAU f (kAk ((Nat.min ([(⟨(⟨b,c⟩:qP),(⟨d,e⟩:qP)⟩:qw)]:List qw).length f.length:Nat):Int))),(.cells (ni2 b c d e)::(kO r []))) (ofG 48 (kAU r (kAk ((Nat.min ([(⟨(⟨b,c⟩:qP),(⟨d,e⟩:qP)⟩:qw)]:List qw).length f.length:Nat):Int))),(.cells (ni2 b c d e)::(kO r [])))from(Uc [] [some 0,some 1] (by rw[hB];rfl) rfl (.keep (.sliceE rfl (qow t)) (.keep (.same nI) .nil)) (.kb rfl (.same sn) (.ks .nil)))) ?_;refine sq (Goes.block ?_);obtain⟨A,g15,h⟩:=bnd h;refine Goes.imp (Q:=fun x s'=>(x= .exit 0/\ ∃p,p=A/\Sub s' (ofG 48 (kAU p []),(.cells (ni2 b c d e)::(kO p []))))) ?_ ?_
 ·refine Ud (fun M s=> ∃(a:List qw) (j:Int),s=(ofG 48 (kAU a (kAk j)),(.cells (ni2 b c d e)::(kO a [])))/\je M a j=some A) ?_ (m:=N) ⟨_,_,rfl,g15⟩;rintro M s ⟨a,j,rfl,g15⟩
  cases M with
  |zero=>simp only[je]at g15;cases g15
  |succ M=>
   rw[je]at g15;refine sq ?_;refine sh fol (kAU a [(8,.i j),(37,.bool (decide (j<(a.length:Int))))]) ?_;refine ihD g15 (fun F g15=>?_) (fun F g15=>?_)
   ·refine Goes.skip ?_;refine Goes.block ?_;obtain⟨g,k,g15⟩:=bnd g15;obtain⟨q,u,g15⟩:=bnd g15;refine gq fol [3,6,7] (kAU a (kAk (w64 (j+((Nat.min (a.take g).length (a.length-g):Nat):Int))))) (.cells (ni2 b c d e)::(kO q [])) (ac (hs (.done (.opt (zD ZT 120 (.slice 1 0 a.length a.length 4) (some (.i j)) none none)) (qgW 1 4 a.length g)) (qqx qe5 k)) (ac (hs (.done (.opt (zD ZT 120 (.slice 1 0 a.length a.length 4) none (some (.i j)) none)) (.slice 1 0 g a.length 4)) (quu qe5 k)) (ac (hs (.run [1,1] (qcz ZT [120,120] (qgW 1 4 a.length g) (.slice 1 0 g a.length 4)) (.cells (ni2 b c d e)::(kO a [])) (.i ((Nat.min (a.take g).length (a.length-g):Nat):Int)) (.cells (ni2 b c d e)::(kO q [])) true) (qrp qe5 (E:=qb) rfl (l:=a) (qsQ (E:=qb) rfl rfl rfl (qqI k)) (qqI k) rfl rfl u rfl)) az))) ?_;exact⟨M,(ofG 48 (kAU q (kAk (w64 (j+((Nat.min (a.take g).length (a.length-g):Nat):Int))))),(.cells (ni2 b c d e)::(kO q []))),Nat.lt_succ_self _,((show Sub (ofG 48 (kAU a (kAk (w64 (j+((Nat.min (a.take g).length (a.length-g):Nat):Int))))),(.cells (ni2 b c d e)::(kO q []))) (ofG 48 (kAU q (kAk (w64 (j+((Nat.min (a.take g).length (a.length-g):Nat):Int))))),(.cells (ni2 b c d e)::(kO q [])))from(Uc [] [some 0,some 1] (by rw[hB];rfl) rfl (.keep (.sliceE rfl (qps (qqI k) u)) (.keep (.same nI) .nil)) (.kb rfl (.same sn) (.ks .nil)))).trans (Sub.refl _)),_,_,rfl,g15⟩
   refine Goes.exit ?_;obtain rfl:=si g15;exact⟨rfl,_,rfl,(Sub.keep [7] rfl rfl)⟩
 rintro x s' ⟨rfl,p,rfl,hsub⟩;refine Goes.sub hsub ?_;refine sh fol [(4,.slice 1 0 p.length p.length 4)] ?_;refine Goes.ret ?_;obtain rfl:=si h;exact(gh2 [.slice 1 0 p.length p.length 4] (qdo.refl _ _))
def yB (N:Nat) (n:Int) (w:List Int) (h:List (List qw)):Nat->(List (List qw))->Int->Option (List (List qw))
 |0,_,_=>none
 |K+1,c,a=>
  if a<(h.length:Int)then
  (qg7 0).bind fun d=>
  (yO N d.Num.s d.Num.w d.Den.s d.Den.w n).bind fun e=>
  (idx c a).bind fun i=>
  ((if e.length<=1000000000 then some ()else none:Option Unit)).bind fun j=>
  (idx (qh c a e) a).bind fun b=>
  (qg7 1).bind fun f=>
  (idx b a).bind fun k=>
  (put b a f).bind fun g=>
  yB N n w h K (qh (qh c a e) a g) (w64 (a+1))
  else
  some c
def yI (N:Nat) (f:List (List qw)) (a:Int) (b:((qw×qw)×(qw×qw))):Nat->(List (List qw))->Int->Option (List (List qw))
 |0,_,_=>none
 |K+1,d,c=>
  if c<(f.length:Int)then
  (idx d c).bind fun e=>
  (idx e (w64 (a-1))).bind fun g=>
  (idx e (w64 ((w64 (a-1))+1))).bind fun h=>
  (xc N g b.1.1).bind fun j=>
  (xc N h b.2.1).bind fun k=>
  (qad N j k).bind fun l=>
  (put e (w64 (a-1)) l).bind fun i=>
  (xc N g b.1.2).bind fun m=>
  (xc N h b.2.2).bind fun n=>
  (qad N m n).bind fun o=>
  (idx i (w64 ((w64 (a-1))+1))).bind fun q=>
  (put i (w64 ((w64 (a-1))+1)) o).bind fun p=>
  yI N f a b K (qh d c p) (w64 (c+1))
  else
  some d
def yz (N:Nat) (w:List Int) (t:qw):Nat->(List (List qw))->Int->Option (List (List qw))
 |0,_,_=>none
 |K+1,a,b=>
  if b<(w.length:Int)then
  (idx w b).bind fun c=>
  (zL c).bind fun d=>
  (qcx N c t).bind fun e=>
  (yI N a d e N a 0).bind fun f=>
  yz N w t K f (w64 (b+1))
  else
  some a
def qbQ (N:Nat) (n:Int) (w:List Int) (t:qw):Option (List (List qw)):=
 (mk 24 n ([]:List qw)).bind fun b=>
 (yB N n w b N b 0).bind fun c=>
 (yz N w t N c 0).bind fun a=>
 some a
theorem qfs (N:Nat) (n:Int) (w:List Int) (t:qw) {res:List (List qw)} (h:qbQ N n w t=some res):qc ZT (.fn 75) [.i n,vl encI w,.agg (nq1 t)] [] (vl (qf qb) res) []:=by
 unfold qbQ at h;refine Ub Tryz.func75 rfl rfl (m:=98) rfl (rs:=[.tmp 6]) rfl (l:=(kB n w [(2,.agg (nq1 t))])) rfl ?_;refine sg fol (kB n w (kBB [])) [.cells (nq1 t)] ?_;obtain⟨A,a1,h⟩:=bnd h;refine sq (gq fol [1] (kB n w (kD A [])) [.cells (nq1 t),.cells (A.flatMap (qj4 qb).c)] (ac (hs (.run [] (jv ZT 111 (.i n) (.i n)) [.cells (nq1 t)] (.slice 1 0 A.length A.length 1) [.cells (nq1 t),.cells (A.flatMap (qj4 qb).c)] false) (qd3 qkJ (E:=(qj4 qb)) (z:=[]) rfl (by kernel_rfl) a1 rfl)) az) ?_);refine Goes.sub (show Sub (ofG 98 (kB n w (kD A [])),[.cells (nq1 t),.cells (A.flatMap (qj4 qb).c)]) (ofG 98 (kB n w (kD A [])),[.cells (nq1 t),bg qb A])from(Sub.bagNil1 (E:=qb) (b:=1) rfl a1)) ?_;refine sq ?_;refine sh fol (kB n w (kD A [(20,.i (A.length:Int)),(21,.i 0)])) ?_;refine Goes.block ?_;obtain⟨r5,g5,h⟩:=bnd h;refine Goes.imp (Q:=fun x s'=>(x= .exit 0/\ ∃l4,l4=r5/\Sub s' (ofG 98 ((1,vl encI w)::(kD l4 [])),[.cells (nq1 t),bg qb l4]))) ?_ ?_
 ·refine Ud (fun M s=> ∃(q:List (List qw)) (f:Int),s=(ofG 98 (kB n w (kD q (kAh (A.length:Int) f))),[.cells (nq1 t),bg qb q])/\yB N n w A M q f=some r5) ?_ (m:=N) ⟨_,_,rfl,g5⟩;rintro M s ⟨q,f,rfl,g5⟩
  cases M with
  |zero=>simp only[yB]at g5;cases g5
  |succ M=>
   rw[yB]at g5;refine sh fol (kB n w (kD q [(20,.i (A.length:Int)),(21,.i f),(22,.bool (decide (f<(A.length:Int))))])) ?_;refine sq ?_;refine ihD g5 (fun c6 g5=>?_) (fun c6 g5=>?_)
   ·refine Goes.skip ?_;refine sq (Goes.block ?_);refine sh fol (kB n w (kD q ((8,.i f)::(kAh (A.length:Int) f)))) ?_;obtain⟨P,e_r7,g5⟩:=bnd g5;obtain⟨r,e_r8,g5⟩:=bnd g5;obtain⟨x10,K,g5⟩:=bnd g5;obtain⟨u11,a2,g5⟩:=bnd g5;refine sq (gq fol [2,5,6,7] (kB n w (kD q ((8,.i f)::(kAh (A.length:Int) f)))) (.cells (nq1 t):: .bag ((q.map (qF qb)).set (f:Int).toNat (.av (.slice 3 0 r.length r.length 4))):: .cells (nq1 P)::(kO r [])) (ac (cv (qen 0 e_r7)) (ac (hs (.callH 145 [.slice 2 0 1 1 4,.i n] [.cells (nq1 t),bg qb q,.cells (nq1 P)] [2] (.slice 3 0 r.length r.length 4) (.cells (nq1 t)::bg qb q:: .cells (nq1 P)::(kO r []))) (zQ [some 2] [none,none,some 0,some 1] (qdS N P.Num.s P.Num.w P.Den.s P.Den.w n e_r8) (.kb rfl (.cells (rc (.same nI) (rc (.same (qc7 ZU _)) (rc (.same nI) (rc (.same (qc7 ZU _)) rn))))) .nil) rfl rfl (.old rfl rfl (.old rfl rfl (.back rfl rfl (.cells (rc (.same nI) (rc (.same (qc7 ZU _)) (rc (.same nI) (rc (.same (qc7 ZU _)) rn))))) rfl (.new rfl rfl (.same fa) rfl .nil)))) (rc (.slice rfl) (rc (.same nI) rn)) (.slice rfl) rfl)) (ac (hs (.done (.opt (qa ZT 111 (.slice 1 0 q.length q.length 1) (.i f))) (.ptr 1 ((f:Int).toNat*1+0))) (ym qkJ K)) (ac (hs (.run [1] (qC ZT 120 (.ptr 1 ((f:Int).toNat*1+0)) (.slice 3 0 r.length r.length 4)) (.cells (nq1 t)::bg qb q:: .cells (nq1 P)::(kO r [])) .undef (.cells (nq1 t):: .bag ((q.map (qF qb)).set (f:Int).toNat (.av (.slice 3 0 r.length r.length 4))):: .cells (nq1 P)::(kO r [])) true) (qpk (show _=some 1 by kernel_rfl) rfl (qp4 K) rfl rfl rfl)) az)))) ?_);refine Goes.sub ((show Sub (ofG 98 (kB n w (kD q ((8,.i f)::(kAh (A.length:Int) f)))),(.cells (nq1 t):: .bag ((q.map (qF qb)).set (f:Int).toNat (.av (.slice 3 0 r.length r.length 4))):: .cells (nq1 P)::(kO r []))) (ofG 98 (kB n w (kD q ((8,.i f)::(kAh (A.length:Int) f)))),[.cells (nq1 t),bg qb (qh q f r),.cells (nq1 P),.dead])from(Ui (E:=qb) (b:=1) (c:=3) (Nat.ne_of_beq_eq_false rfl) rfl rfl K (.s (qtj a2)) rfl)).trans (show Sub (ofG 98 (kB n w (kD q ((8,.i f)::(kAh (A.length:Int) f)))),[.cells (nq1 t),bg qb (qh q f r),.cells (nq1 P),.dead]) (ofG 98 (kB n w (kD (qh q f r) ((8,.i f)::(kAh (A.length:Int) f)))),[.cells (nq1 t),bg qb (qh q f r)])from(Uc [] [some 0,some 1] rfl rfl (.keep (.same nI) (.keep (.same (qg encI _)) (.kp (.keep (.sliceE rfl (y7 _ _ _)) (.keep (.same nI) (.keep (.same nI) (.keep (.same nI) .nil))))))) (.kb rfl (.same sn) (.kb rfl jm.bgs .nil))))) ?_;obtain⟨B,H,g5⟩:=bnd g5;refine Goes.sub (s':=(ofG 98 (kB n w (kD (qh q f r) ((8,.i f)::(kAh (A.length:Int) f)))),(.cells (nq1 t):: .bag (((qh q f r).map (qF qb)).set (f:Int).toNat (.av (.gslice 2 B.length 4)))::(kO B [])))) (Uk (E:=qb) (b:=1) rfl H) ?_;obtain⟨r14,a3,g5⟩:=bnd g5;obtain⟨x15,U,g5⟩:=bnd g5;obtain⟨G,V,g5⟩:=bnd g5;refine gq fol [2,3,5,6,7] (kB n w (kD (qh q f r) (kAh (A.length:Int) f))) (.cells (nq1 t):: .bag (((qh q f r).map (qF qb)).set (f:Int).toNat (.av (.gslice 2 B.length 4)))::(kO G [])) (ac (hs (.done (.opt (qa ZT 111 (.slice 1 0 (qh q f r).length (qh q f r).length 1) (.i f))) (.ptr 1 ((f:Int).toNat*1+0))) (ym qkJ H)) (ac (hs (.run [1] (qQ ZT 120 (.ptr 1 ((f:Int).toNat*1+0))) (.cells (nq1 t):: .bag (((qh q f r).map (qF qb)).set (f:Int).toNat (.av (.gslice 2 B.length 4)))::(kO B [])) (.gslice 2 B.length 4) (.cells (nq1 t):: .bag (((qh q f r).map (qF qb)).set (f:Int).toNat (.av (.gslice 2 B.length 4)))::(kO B [])) false) (qbV qoT rfl (at_set H))) (ac (cv (qen 1 a3)) (ac (hs (.done (.opt (qa ZT 120 (.gslice 2 B.length 4) (.i f))) (.ptr 2 ((f:Int).toNat*4+0))) (zh qe5 U)) (ac (hs (.run [2] (qC ZT 117 (.ptr 2 ((f:Int).toNat*4+0)) (.agg (nq1 r14))) (.cells (nq1 t):: .bag (((qh q f r).map (qF qb)).set (f:Int).toNat (.av (.gslice 2 B.length 4)))::(kO B [])) .undef (.cells (nq1 t):: .bag (((qh q f r).map (qF qb)).set (f:Int).toNat (.av (.gslice 2 B.length 4)))::(kO G [])) true) (jX (E:=qb) (l:=B) (y:=r14) rfl (show _=some 4 by kernel_rfl) rfl U rfl rfl rfl (cac rfl (cac nvc (cac rfl (cac nvc can)))) rfl V rfl)) az))))) ?_;refine Goes.sub ((show Sub (ofG 98 (kB n w (kD (qh q f r) (kAh (A.length:Int) f))),(.cells (nq1 t):: .bag (((qh q f r).map (qF qb)).set (f:Int).toNat (.av (.gslice 2 B.length 4)))::(kO G []))) (ofG 98 (kB n w (kD (qh q f r) (kAh (A.length:Int) f))),[.cells (nq1 t),bg qb (qh (qh q f r) f G),.dead])from(Ui (E:=qb) (b:=1) (c:=2) (Nat.ne_of_beq_eq_false rfl) rfl rfl H .g (qZ V))).trans (show Sub (ofG 98 (kB n w (kD (qh q f r) (kAh (A.length:Int) f))),[.cells (nq1 t),bg qb (qh (qh q f r) f G),.dead]) (ofG 98 (kB n w (kD (qh (qh q f r) f G) (kAh (A.length:Int) f))),[.cells (nq1 t),bg qb (qh (qh q f r) f G)])from(Uc [] [some 0,some 1] rfl rfl (.keep (.same nI) (.keep (.same (qg encI _)) (.kp (.keep (.sliceE rfl (y7 _ _ _)) (.keep (.same nI) (.keep (.same nI) .nil)))))) (.kb rfl (.same sn) (.kb rfl jm.bgs .nil))))) ?_;refine gh fol (kB n w (kD (qh (qh q f r) f G) (kAh (A.length:Int) (w64 (f+1))))) ?_;exact⟨M,(ofG 98 (kB n w (kD (qh (qh q f r) f G) (kAh (A.length:Int) (w64 (f+1))))),[.cells (nq1 t),bg qb (qh (qh q f r) f G)]),Nat.lt_succ_self _,(Sub.refl _),_,_,rfl,g5⟩
   refine Goes.exit ?_;obtain rfl:=si g5;exact⟨rfl,_,rfl,(Sub.keep [1,5,7] rfl rfl)⟩
 rintro x s' ⟨rfl,l4,rfl,hsub⟩;refine Goes.sub hsub ?_;refine sq ?_;refine sh fol (kD l4 [(39,vl encI w),(40,.i (w.length:Int)),(41,.i 0)]) ?_;refine Goes.block ?_;obtain⟨r20,g20,h⟩:=bnd h;refine Goes.imp (Q:=fun x s'=>(x= .exit 2/\ ∃F,F=r20/\Sub s' (ofG 98 [(7,.slice 0 0 F.length F.length 1)],[bg qb F]))) ?_ ?_
 ·refine Ud (fun M s=> ∃(k:List (List qw)) (p:Int),s=(ofG 98 (kD k (kA1 w (w.length:Int) p [])),[.cells (nq1 t),bg qb k])/\yz N w t M k p=some r20) ?_ (m:=N) ⟨_,_,rfl,g20⟩;rintro M s ⟨k,p,rfl,g20⟩
  cases M with
  |zero=>simp only[yz]at g20;cases g20
  |succ M=>
   rw[yz]at g20;refine sh fol (kD k (kA1 w (w.length:Int) p [(42,.bool (decide (p<(w.length:Int))))])) ?_;refine sq ?_;refine ihD g20 (fun c21 g20=>?_) (fun c21 g20=>?_)
   ·refine Goes.skip ?_;refine sq (Goes.block ?_);obtain⟨a4,X,g20⟩:=bnd g20;refine sq (gr fol [0,1] (kD k ((10,.i a4)::(kA1 w (w.length:Int) p []))) (ac (iv qO encI X) (ac (lv 0 ce3 encI X rfl) az)) ?_);obtain⟨o,a5,g20⟩:=bnd g20;obtain⟨j,a6,g20⟩:=bnd g20;refine sq (gq fol [1,5,8] (kD k (kAo (w64 (o-1)) (kA1 w (w.length:Int) p []))) [.cells (nq1 t),bg qb k,.cells (nb4 j)] (ac (cv (qI a4 a5)) (ac (cv (qi7 N a4 t a6)) (ac (hs (.run [2] (qC ZT 172 (.ptr 2 0) (.agg (nb4 j))) (.cells (nq1 t)::bg qb k::(kL [])) .undef [.cells (nq1 t),bg qb k,.cells (nb4 j)] true) (vB (n:=16) (by kernel_rfl) rfl rfl rfl rfl (cac rfl (cac nvc (cac rfl (cac nvc (cac rfl (cac nvc (cac rfl (cac nvc (cac rfl (cac nvc (cac rfl (cac nvc (cac rfl (cac nvc (cac rfl (cac nvc can)))))))))))))))) rfl)) az))) ?_);refine sh fol (kD k (kAo (w64 (o-1)) (kA1 w (w.length:Int) p [(51,.slice 1 0 k.length k.length 1),(52,.i (k.length:Int)),(53,.i 0)]))) ?_;refine Goes.block ?_;obtain⟨r28,g28,g20⟩:=bnd g20;refine Goes.imp (Q:=fun x s'=>(x= .exit 4/\ ∃L,L=r28/\Sub s' (ofG 98 (kD L (kA1 w (w.length:Int) p [])),[.cells (nq1 t),bg qb L]))) ?_ ?_
    ·refine Ud (fun M s=> ∃(a:List (List qw)) (d:Int),s=(ofG 98 (kD a (kAo (w64 (o-1)) (kK w (w.length:Int) p a (k.length:Int) d []))),[.cells (nq1 t),bg qb a,.cells (nb4 j)])/\yI N k o j M a d=some r28) ?_ (m:=N) ⟨_,_,rfl,g28⟩;rintro M s ⟨a,d,rfl,g28⟩
     cases M with
     |zero=>simp only[yI]at g28;cases g28
     |succ M=>
      rw[yI]at g28;refine sh fol (kD a (kAo (w64 (o-1)) (kK w (w.length:Int) p a (k.length:Int) d [(54,.bool (decide (d<(k.length:Int))))]))) ?_;refine sq ?_;refine ihD g28 (fun c29 g28=>?_) (fun c29 g28=>?_)
      ·refine Goes.skip ?_;refine sq (Goes.block ?_);obtain⟨e,I,g28⟩:=bnd g28;refine sq (Goes.sub (s':=(ofG 98 (kD a (kAo (w64 (o-1)) (kK w (w.length:Int) p a (k.length:Int) d [(54,.bool (decide (d<(k.length:Int))))]))),(.cells (nq1 t):: .bag ((a.map (qF qb)).set (d:Int).toNat (.av (.gslice 3 e.length 4))):: .cells (nb4 j)::(kO e [])))) (Uk (E:=qb) (b:=1) rfl I) ?_);refine gr fol [0,1] (kD a (kAo (w64 (o-1)) ((14,.gslice 3 e.length 4)::(kK w (w.length:Int) p a (k.length:Int) d [])))) (ac (hs (.done (.opt (qa ZT 111 (.slice 1 0 a.length a.length 1) (.i d))) (.ptr 1 ((d:Int).toNat*1+0))) (ym qkJ I)) (ac (hs (.run [1] (qQ ZT 120 (.ptr 1 ((d:Int).toNat*1+0))) (.cells (nq1 t):: .bag ((a.map (qF qb)).set (d:Int).toNat (.av (.gslice 3 e.length 4))):: .cells (nb4 j)::(kO e [])) (.gslice 3 e.length 4) (.cells (nq1 t):: .bag ((a.map (qF qb)).set (d:Int).toNat (.av (.gslice 3 e.length 4))):: .cells (nb4 j)::(kO e [])) false) (qbV qoT rfl (at_set I))) az)) ?_;obtain⟨u,J,g28⟩:=bnd g28;obtain⟨v,Y,g28⟩:=bnd g28;refine sq (gq fol [2,3,7,8,11,12] (kD a (kAo (w64 (o-1)) (kBZ e (kK w (w.length:Int) p a (k.length:Int) d [])))) (.cells (nq1 t):: .bag ((a.map (qF qb)).set (d:Int).toNat (.av (.gslice 3 e.length 4))):: .cells (nb4 j)::(kO e [.cells (nq1 u),.cells (nq1 v)])) (ac (hs (.done (.opt (qa ZT 120 (.gslice 3 e.length 4) (.i (w64 (o-1))))) (.ptr 3 ((w64 (o-1):Int).toNat*4+0))) (zh qe5 J)) (ac (hs (.run [3] (qQ ZT 117 (.ptr 3 ((w64 (o-1):Int).toNat*4+0))) (.cells (nq1 t):: .bag ((a.map (qF qb)).set (d:Int).toNat (.av (.gslice 3 e.length 4))):: .cells (nb4 j)::(kO e [])) (.agg (nq1 u)) (.cells (nq1 t):: .bag ((a.map (qF qb)).set (d:Int).toNat (.av (.gslice 3 e.length 4))):: .cells (nb4 j)::(kO e [])) false) (qtm qo0 (E:=qb) (l:=e) rfl rfl J)) (ac (hs (.done (.opt (qa ZT 120 (.gslice 3 e.length 4) (.i (w64 ((w64 (o-1))+1))))) (.ptr 3 ((w64 ((w64 (o-1))+1):Int).toNat*4+0))) (zh qe5 Y)) (ac (hs (.run [3] (qQ ZT 117 (.ptr 3 ((w64 ((w64 (o-1))+1):Int).toNat*4+0))) (.cells (nq1 t):: .bag ((a.map (qF qb)).set (d:Int).toNat (.av (.gslice 3 e.length 4))):: .cells (nb4 j)::(kO e [])) (.agg (nq1 v)) (.cells (nq1 t):: .bag ((a.map (qF qb)).set (d:Int).toNat (.av (.gslice 3 e.length 4))):: .cells (nb4 j)::(kO e [])) false) (qtm qo0 (E:=qb) (l:=e) rfl rfl Y)) (ac (hs (.run [4] (qC ZT 117 (.ptr 4 0) (.agg (nq1 u))) (.cells (nq1 t):: .bag ((a.map (qF qb)).set (d:Int).toNat (.av (.gslice 3 e.length 4))):: .cells (nb4 j)::(kO e (kI (kI [])))) .undef (.cells (nq1 t):: .bag ((a.map (qF qb)).set (d:Int).toNat (.av (.gslice 3 e.length 4))):: .cells (nb4 j)::(kO e (.cells (nq1 u)::(kI [])))) true) (vB (n:=4) (by kernel_rfl) rfl rfl rfl rfl (cac rfl (cac nvc (cac rfl (cac nvc can)))) rfl)) (ac (hs (.run [5] (qC ZT 117 (.ptr 5 0) (.agg (nq1 v))) (.cells (nq1 t):: .bag ((a.map (qF qb)).set (d:Int).toNat (.av (.gslice 3 e.length 4))):: .cells (nb4 j)::(kO e (.cells (nq1 u)::(kI [])))) .undef (.cells (nq1 t):: .bag ((a.map (qF qb)).set (d:Int).toNat (.av (.gslice 3 e.length 4))):: .cells (nb4 j)::(kO e [.cells (nq1 u),.cells (nq1 v)])) true) (vB (n:=4) (by kernel_rfl) rfl rfl rfl rfl (cac rfl (cac nvc (cac rfl (cac nvc can)))) rfl)) az)))))) ?_);obtain⟨r34,a7,g28⟩:=bnd g28;obtain⟨r35,a8,g28⟩:=bnd g28;obtain⟨r36,a9,g28⟩:=bnd g28;obtain⟨C,O,g28⟩:=bnd g28;refine sq (gq fol [6,11,12,13,14] (kD a (kAo (w64 (o-1)) (kBZ e (kK w (w.length:Int) p a (k.length:Int) d [])))) (.cells (nq1 t):: .bag ((a.map (qF qb)).set (d:Int).toNat (.av (.gslice 3 e.length 4))):: .cells (nb4 j)::(kO C [.cells (nq1 u),.cells (nq1 v)])) (ac (cv (qbv N u j.1.1 a7)) (ac (cv (qbv N v j.2.1 a8)) (ac (cv (qcL N r34 r35 a9)) (ac (hs (.done (.opt (qa ZT 120 (.gslice 3 e.length 4) (.i (w64 (o-1))))) (.ptr 3 ((w64 (o-1):Int).toNat*4+0))) (zh qe5 J)) (ac (hs (.run [3] (qC ZT 117 (.ptr 3 ((w64 (o-1):Int).toNat*4+0)) (.agg (nq1 r36))) (.cells (nq1 t):: .bag ((a.map (qF qb)).set (d:Int).toNat (.av (.gslice 3 e.length 4))):: .cells (nb4 j)::(kO e [.cells (nq1 u),.cells (nq1 v)])) .undef (.cells (nq1 t):: .bag ((a.map (qF qb)).set (d:Int).toNat (.av (.gslice 3 e.length 4))):: .cells (nb4 j)::(kO C [.cells (nq1 u),.cells (nq1 v)])) true) (jX (E:=qb) (l:=e) (y:=r36) rfl (show _=some 4 by kernel_rfl) rfl J rfl rfl rfl (cac rfl (cac nvc (cac rfl (cac nvc can)))) rfl O rfl)) az))))) ?_);refine Goes.sub (show Sub (ofG 98 (kD a (kAo (w64 (o-1)) (kBZ e (kK w (w.length:Int) p a (k.length:Int) d [])))),(.cells (nq1 t):: .bag ((a.map (qF qb)).set (d:Int).toNat (.av (.gslice 3 e.length 4))):: .cells (nb4 j)::(kO C [.cells (nq1 u),.cells (nq1 v)]))) (ofG 98 (kD a ((11,.i (w64 (o-1)))::(12,.ptr 3 0)::(14,.gslice 2 C.length 4)::(15,.ptr 4 0)::(16,.ptr 5 0)::(kK w (w.length:Int) p a (k.length:Int) d []))),(.cells (nq1 t):: .bag ((a.map (qF qb)).set (d:Int).toNat (.av (.gslice 2 C.length 4)))::(kO C [.cells (nb4 j),.cells (nq1 u),.cells (nq1 v)])))from(Uc [] [some 0,some 1,some 3,some 2,some 4,some 5] rfl rfl (.kp (.keep (.slice rfl) (.keep (.same nI) (.kp (.keep (.gsliceE rfl (qZ O)) (.kp (.kp (.keep (.same (qg encI _)) (.keep (.same nI) (.keep (.same nI) (.keep (.slice rfl) (.keep (.same nI) (.keep (.same nI) .nil))))))))))))) (.kb rfl (.same sn) (.kb rfl (jm.bgv (.gsliceE rfl (qZ O))) (.ks (.kb rfl (.same sn) (.kb rfl (.same sn) (.kb rfl (.same sn) .nil)))))))) ?_;obtain⟨r38,b0,g28⟩:=bnd g28;obtain⟨r39,b1,g28⟩:=bnd g28;obtain⟨r40,b2,g28⟩:=bnd g28;obtain⟨x41,Z,g28⟩:=bnd g28;obtain⟨D,a0,g28⟩:=bnd g28;refine gq fol [7,12,13,14,15] (kD a ((11,.i (w64 (o-1)))::(12,.ptr 3 0)::(kK w (w.length:Int) p a (k.length:Int) d []))) (.cells (nq1 t):: .bag ((a.map (qF qb)).set (d:Int).toNat (.av (.gslice 2 C.length 4)))::(kO D [.cells (nb4 j),.cells (nq1 u),.cells (nq1 v)])) (ac (cv (qbv N u j.1.2 b0)) (ac (cv (qbv N v j.2.2 b1)) (ac (cv (qcL N r38 r39 b2)) (ac (hs (.done (.opt (qa ZT 120 (.gslice 2 C.length 4) (.i (w64 ((w64 (o-1))+1))))) (.ptr 2 ((w64 ((w64 (o-1))+1):Int).toNat*4+0))) (zh qe5 Z)) (ac (hs (.run [2] (qC ZT 117 (.ptr 2 ((w64 ((w64 (o-1))+1):Int).toNat*4+0)) (.agg (nq1 r40))) (.cells (nq1 t):: .bag ((a.map (qF qb)).set (d:Int).toNat (.av (.gslice 2 C.length 4)))::(kO C [.cells (nb4 j),.cells (nq1 u),.cells (nq1 v)])) .undef (.cells (nq1 t):: .bag ((a.map (qF qb)).set (d:Int).toNat (.av (.gslice 2 C.length 4)))::(kO D [.cells (nb4 j),.cells (nq1 u),.cells (nq1 v)])) true) (jX (E:=qb) (l:=C) (y:=r40) rfl (show _=some 4 by kernel_rfl) rfl Z rfl rfl rfl (cac rfl (cac nvc (cac rfl (cac nvc can)))) rfl a0 rfl)) az))))) ?_;refine Goes.sub ((show Sub (ofG 98 (kD a ((11,.i (w64 (o-1)))::(12,.ptr 3 0)::(kK w (w.length:Int) p a (k.length:Int) d []))),(.cells (nq1 t):: .bag ((a.map (qF qb)).set (d:Int).toNat (.av (.gslice 2 C.length 4)))::(kO D [.cells (nb4 j),.cells (nq1 u),.cells (nq1 v)]))) (ofG 98 (kD a ((11,.i (w64 (o-1)))::(12,.ptr 3 0)::(kK w (w.length:Int) p a (k.length:Int) d []))),[.cells (nq1 t),bg qb (qh a d D),.dead,.cells (nb4 j),.cells (nq1 u),.cells (nq1 v)])from(Ui (E:=qb) (b:=1) (c:=2) (Nat.ne_of_beq_eq_false rfl) rfl rfl I .g (qZ a0))).trans (show Sub (ofG 98 (kD a ((11,.i (w64 (o-1)))::(12,.ptr 3 0)::(kK w (w.length:Int) p a (k.length:Int) d []))),[.cells (nq1 t),bg qb (qh a d D),.dead,.cells (nb4 j),.cells (nq1 u),.cells (nq1 v)]) (ofG 98 (kD (qh a d D) (kAo (w64 (o-1)) (kK w (w.length:Int) p (qh a d D) (k.length:Int) d []))),[.cells (nq1 t),bg qb (qh a d D),.cells (nb4 j)])from(Uc [] [some 0,some 1,some 3] rfl rfl (.kp (.keep (.sliceE rfl (y7 _ _ _)) (.keep (.same nI) (.kp (.keep (.same (qg encI _)) (.keep (.same nI) (.keep (.same nI) (.keep (.sliceE rfl (y7 _ _ _)) (.keep (.same nI) (.keep (.same nI) .nil)))))))))) (.kb rfl (.same sn) (.kb rfl jm.bgs (.kb rfl (.same sn) .nil)))))) ?_;refine gh fol (kD (qh a d D) (kAo (w64 (o-1)) (kK w (w.length:Int) p (qh a d D) (k.length:Int) (w64 (d+1)) []))) ?_;exact⟨M,(ofG 98 (kD (qh a d D) (kAo (w64 (o-1)) (kK w (w.length:Int) p (qh a d D) (k.length:Int) (w64 (d+1)) []))),[.cells (nq1 t),bg qb (qh a d D),.cells (nb4 j)]),Nat.lt_succ_self _,(Sub.refl _),_,_,rfl,g28⟩
      refine Goes.exit ?_;obtain rfl:=si g28;exact⟨rfl,_,rfl,(Uc [] [some 0,some 1] rfl rfl (.kp (.keep (.slice rfl) (.drop (.drop (.keep (.same (qg encI _)) (.keep (.same nI) (.keep (.same nI) .nil))))))) (.kb rfl (.same sn) (.kb rfl jm.bgs .nil)))⟩
    rintro x s' ⟨rfl,L,rfl,hsub⟩;refine Goes.sub hsub ?_;refine gh fol (kD L (kA1 w (w.length:Int) (w64 (p+1)) [])) ?_;exact⟨M,(ofG 98 (kD L (kA1 w (w.length:Int) (w64 (p+1)) [])),[.cells (nq1 t),bg qb L]),Nat.lt_succ_self _,(Sub.refl _),_,_,rfl,g20⟩
   refine Goes.exit ?_;obtain rfl:=si g20;exact⟨rfl,_,rfl,(Uc [] [some 1] rfl rfl (.drop (.keep (.slice rfl) .nil)) (.kb rfl jm.bgs .nil))⟩
 rintro x s' ⟨rfl,F,rfl,hsub⟩;refine Goes.sub hsub ?_;refine sh fol [(6,.slice 0 0 F.length F.length 1)] ?_;refine Goes.sub (s':=(ofG 98 [(6,.slice 0 0 F.length F.length 1)],[.frozen (F.flatMap (qf qb).c)])) (Uz (E:=qb) (b:=0) rfl) ?_;refine Goes.ret ?_;obtain rfl:=si h;exact(gw2 [.slice 0 0 F.length F.length 1] (Ut (Fz.slF (E:=(qf qb)) rfl rfl (nl rfl))))
def qdL (a:qP) (b:qP):Option Int:=
 (if a.w.isEmpty=true then
 some b.w.isEmpty
 else
 some false:Option Bool).bind fun c=>
 if c=true then
 if a.s<b.s then
 some (-1)
 else
 if a.s>b.s then
 some 1
 else
 some 0
 else
 none
theorem qjs (a:qP) (b:qP) {res:Int} (h:qdL a b=some res):qc ZT (.fn 143) [.agg (nz1 a),.agg (nz1 b)] [] (.i res) []:=by
 unfold qdL at h;refine Ub Tryz.func143 rfl rfl (m:=29) rfl (rs:=[.tmp 4]) rfl (l:=[(0,.agg (nz1 a)),(1,.agg (nz1 b))]) rfl ?_;refine sg fol (kAB []) [.cells (nz1 a),.cells (nz1 b)] ?_;refine sq ?_;refine sq ?_;obtain⟨e,c,h⟩:=bnd h;refine Goes.cut (s':=(ofG 29 (kAB [(12,.bool e)]),[.cells (nz1 a),.cells (nz1 b)])) ?_ ?_
 ·rcases wyB c with⟨d,c⟩|⟨d,c⟩
  ·obtain rfl:=si c;exact tr fol [2,3,6] (kAB [(12,.bool b.w.isEmpty)]) (ac (hs (.done (.opt (vE ZT .eql 113 (.tmp 6) (.const (.slice none 0 0)) (nvl ZU a.w) .nilslice)) (.bool a.w.isEmpty)) (qbK xR)) (ac (gw d) (ac (hs (.done (.opt (vE ZT .eql 113 (.tmp 10) (.const (.slice none 0 0)) (nvl ZU b.w) .nilslice)) (.bool b.w.isEmpty)) (qbK xR)) az)))
  obtain rfl:=si c;exact tr fol [2,3] (kAB [(12,.bool false)]) (ac (hs (.done (.opt (vE ZT .eql 113 (.tmp 6) (.const (.slice none 0 0)) (nvl ZU a.w) .nilslice)) (.bool a.w.isEmpty)) (qbK xR)) (ac (gw d) az))
 refine ihB h (fun f h=>?_) (fun f h=>?_)
 ·refine sq (Goes.block ?_);refine sh fol (kAB (kBL (decide (a.s<b.s)))) ?_;refine ihD h (fun g h=>?_) (fun g h=>?_)
  ·refine sh fol [(4,.i (-1))] ?_;refine Goes.ret ?_;obtain rfl:=si h;exact(gw2 [.i (-1)] (Ua tI))
  refine sh fol [(19,.bool (decide (a.s>b.s)))] ?_;refine ihD h (fun j h=>?_) (fun j h=>?_)
  ·refine sh fol [(4,.i 1)] ?_;refine Goes.ret ?_;obtain rfl:=si h;exact(gw2 [.i 1] (Ua tI))
  refine Goes.skip ?_;refine sh fol kBV ?_;refine Goes.ret ?_;obtain rfl:=si h;exact(gw2 [.i 0] (Ua tI))
 refine Goes.skip ?_;refine sq ?_;cases h
def qcQ (a:qw) (b:qw):Option Int:=
 (jc a.Num b.Den).bind fun c=>
 (jc b.Num a.Den).bind fun d=>
 (qdL c d).bind fun e=>
 some e
theorem qio (a:qw) (b:qw) {res:Int} (h:qcQ a b=some res):qc ZT (.fn 182) [.agg (nq1 a),.agg (nq1 b)] [] (.i res) []:=by
 unfold qcQ at h;refine Ub Tryz.func182 rfl rfl (m:=16) rfl (rs:=[.tmp 4]) rfl (l:=[(0,.agg (nq1 a)),(1,.agg (nq1 b))]) rfl ?_;refine sg fol (kAB []) [.cells (nq1 a),.cells (nq1 b)] ?_;obtain⟨g,c,h⟩:=bnd h;obtain⟨j,d,h⟩:=bnd h;obtain⟨f,e,h⟩:=bnd h;refine sq (gr fol [4,9,10] (kAd f) (ac (cv (yC a.Num b.Den c)) (ac (cv (yC b.Num a.Den d)) (ac (cv (qjs g j e)) az))) ?_);refine Goes.ret ?_;obtain rfl:=si h;exact(gw2 [.i f] (Ua tI))
def qbp (a:qw) (b:qw):Option Bool:=
 (qcQ a b).bind fun c=>
 some (decide (c=0))
theorem qhv (a:qw) (b:qw) {res:Bool} (h:qbp a b=some res):qc ZT (.fn 130) [.agg (nq1 a),.agg (nq1 b)] [] (.bool res) []:=by
 unfold qbp at h;refine Ub Tryz.func130 rfl rfl (m:=9) rfl (rs:=[.tmp 4]) rfl (l:=[(0,.agg (nq1 a)),(1,.agg (nq1 b))]) rfl ?_;refine sg fol (kAB []) [.cells (nq1 a),.cells (nq1 b)] ?_;obtain⟨d,c,h⟩:=bnd h;refine sq (gr fol [2] (kAj (decide (d=0))) (ac (cv (qio a b c)) az) ?_);refine Goes.ret ?_;obtain rfl:=si h;exact(gw2 [.bool (decide (d=0))] (Ua tB))
def qV (a:List qw) (b:List qw):Nat->Int->Option (Unit⊕Bool)
 |0,_=>none
 |K+1,c=>
  if c<(a.length:Int)then
  (idx a c).bind fun d=>
  (idx b c).bind fun e=>
  (qbp d e).bind fun f=>
  if(!f)=true then
  some (.inr false)
  else
  qV a b K (w64 (c+1))
  else
  some (.inl ())
def vC (N:Nat) (a:List qw) (b:List qw):Option Bool:=
 if(!decide ((a.length:Int)=(b.length:Int)))=true then
 some false
 else
 (qV a b N 0).bind (fun
 |(.inl ())=>
 some true
 |(.inr c)=>
 some c)
theorem qcW (N:Nat) (a:List qw) (b:List qw) {res:Bool} (h:vC N a b=some res):qc ZT (.fn 129) [vl qb a,vl qb b,.func (.func 130) [] []] [] (.bool res) []:=by
 unfold vC at h;refine Ub Tryz.func129 rfl rfl (m:=32) rfl (rs:=[.tmp 6]) rfl (l:=((0,vl qb a)::(kBU b [(2,.func (.func 130) [] [])]))) rfl ?_;refine sh fol ((0,vl qb a)::(kBU b [(2,.func (.func 130) [] [])])) ?_;refine sq ?_;refine sh fol ((0,vl qb a)::(kBU b ((2,.func (.func 130) [] [])::(kBK (!decide ((a.length:Int)=(b.length:Int))))))) ?_;refine ihB h (fun p h=>?_) (fun p h=>?_)
 ·refine sh fol kAu ?_;refine Goes.ret ?_;obtain rfl:=si h;exact(gw2 [.bool false] (Ua tB))
 refine Goes.skip ?_;refine sq ?_;refine sh fol (kBU b [(2,.func (.func 130) [] []),(15,vl qb a),(16,.i (a.length:Int)),(17,.i 0)]) ?_;refine Goes.block ?_;obtain⟨k,g3,h⟩:=bnd h;refine Goes.imp (Q:=fun x s'=>(x= .exit 0/\(.inl ())=k/\Sub s' (ofG 32 [],[]))\/(x= .ret/\ ∃o,(.inr o)=k/\zo ZT [.tmp 6] (.bool o) .ret s')) ?_ ?_
 ·refine Ud (fun M s=> ∃(c:Int),s=(ofG 32 (kBU b ((2,.func (.func 130) [] [])::(15,vl qb a)::(kAI (a.length:Int) c))),[])/\qV a b M c=some k) ?_ (m:=N) ⟨_,rfl,g3⟩;rintro M s ⟨c,rfl,g3⟩
  cases M with
  |zero=>simp only[qV]at g3;cases g3
  |succ M=>
   rw[qV]at g3;refine sh fol (kBU b [(2,.func (.func 130) [] []),(15,vl qb a),(16,.i (a.length:Int)),(17,.i c),(18,.bool (decide (c<(a.length:Int))))]) ?_;refine sq ?_;refine ihD g3 (fun q g3=>?_) (fun q g3=>?_)
   ·refine Goes.skip ?_;refine sq (Goes.block ?_);obtain⟨f,d,g3⟩:=bnd g3;refine sq (gq fol [1,2,5] (kBU b ((2,.func (.func 130) [] [])::(7,.i c)::(8,.ptr 0 0)::(15,vl qb a)::(kAI (a.length:Int) c))) [.cells (nq1 f)] (ac (iv qe5 qb d) (ac (la qo0 qb d) (ac (hs (.run [0] (qC ZT 117 (.ptr 0 0) (.agg (nq1 f))) (kI []) .undef [.cells (nq1 f)] true) (vB (n:=4) (by kernel_rfl) rfl rfl rfl rfl (cac rfl (cac nvc (cac rfl (cac nvc can)))) rfl)) az))) ?_);obtain⟨j,e,g3⟩:=bnd g3;refine sq (gq fol [2,3,5] (kBU b ((2,.func (.func 130) [] [])::(8,.ptr 0 0)::(9,.ptr 1 0)::(15,vl qb a)::(kAI (a.length:Int) c))) [.cells (nq1 f),.cells (nq1 j)] (ac (iv qe5 qb e) (ac (la qo0 qb e) (ac (hs (.run [1] (qC ZT 117 (.ptr 1 0) (.agg (nq1 j))) (.cells (nq1 f)::(kI [])) .undef [.cells (nq1 f),.cells (nq1 j)] true) (vB (n:=4) (by kernel_rfl) rfl rfl rfl rfl (cac rfl (cac nvc (cac rfl (cac nvc can)))) rfl)) az))) ?_);obtain⟨r,g,g3⟩:=bnd g3;refine sq (gr fol [3] (kBU b [(2,.func (.func 130) [] []),(15,vl qb a),(16,.i (a.length:Int)),(17,.i c),(30,.bool (!r))]) (ac (cv (qhv f j g)) az) ?_);refine ihB g3 (fun t g3=>?_) (fun t g3=>?_)
    ·refine sh fol kAu ?_;refine Goes.ret ?_;obtain rfl:=si g3;exact Or.inr (⟨rfl,_,rfl,(gw2 [.bool false] (Ua tB))⟩)
    refine Goes.skip ?_;refine gh fol (kBU b ((2,.func (.func 130) [] [])::(15,vl qb a)::(kAI (a.length:Int) (w64 (c+1))))) ?_;exact⟨M,(ofG 32 (kBU b ((2,.func (.func 130) [] [])::(15,vl qb a)::(kAI (a.length:Int) (w64 (c+1))))),[]),Nat.lt_succ_self _,(Uc [] [] rfl rfl (.keep (.same (qg qb _)) (.keep (.same (qJ.func sn sn)) (.keep (.same (qg qb _)) (.keep (.same nI) (.keep (.same nI) .nil))))) .nil),_,rfl,g3⟩
   refine Goes.exit ?_;obtain rfl:=si g3;exact Or.inl (⟨rfl,rfl,(Sub.keep [] rfl rfl)⟩)
 rintro x s' (⟨rfl,rfl,hsub⟩|⟨rfl,u,rfl,hret⟩)
 ·try dsimp only at h
  refine Goes.sub hsub ?_;refine sh fol [(6,.bool true)] ?_;refine Goes.ret ?_;obtain rfl:=si h;exact(gw2 [.bool true] (Ua tB))
 try dsimp only at h
 obtain rfl:=si h;exact hret
def jW (N:Nat) (v:List qw) (w:List qw):Option Bool:=
 (vC N v w).bind fun a=>
 some a
theorem qd6 (N:Nat) (v:List qw) (w:List qw) {res:Bool} (h:jW N v w=some res):qc ZT (.fn 128) [vl qb v,vl qb w] [] (.bool res) []:=by
 unfold jW at h;refine Ub Tryz.func128 rfl rfl (m:=8) rfl (rs:=[.tmp 4]) rfl (l:=((0,vl qb v)::(kBU w []))) rfl ?_;refine sh fol ((0,vl qb v)::(kBU w [])) ?_;obtain⟨b,a,h⟩:=bnd h;refine sq (gr fol [2] (kAj b) (ac (hs (.call 129 [vl qb v,vl qb w,.func (.func 130) [] []] [] [] [vl qb v,vl qb w,.func (.func 130) [] []] (.bool b)) (qd5 (FzL.cons (Ue (qx qb _ (nl rfl))) (FzL.cons (Ue (qx qb _ (nl rfl))) (FzL.cons (Fz.func FzL.nil FzL.nil) FzL.nil))) (qcW N v w a) tB)) az) ?_);refine Goes.ret ?_;obtain rfl:=si h;exact(gw2 [.bool b] (Ua tB))
def ko (N:Nat) (a:List (List Int)) (b:List (List Int)):Nat->Int->Option (Unit⊕Bool)
 |0,_=>none
 |K+1,c=>
  if c<(a.length:Int)then
  (idx a c).bind fun d=>
  (idx b c).bind fun e=>
  (jr N d e).bind fun f=>
  if(!f)=true then
  some (.inr false)
  else
  ko N a b K (w64 (c+1))
  else
  some (.inl ())
def jE (N:Nat) (a:List (List Int)) (b:List (List Int)):Option Bool:=
 if(!decide ((a.length:Int)=(b.length:Int)))=true then
 some false
 else
 (ko N a b N 0).bind (fun
 |(.inl ())=>
 some true
 |(.inr c)=>
 some c)
theorem qdy (N:Nat) (a:List (List Int)) (b:List (List Int)) {res:Bool} (h:jE N a b=some res):qc ZT (.fn 124) [vl (qf encI) a,vl (qf encI) b,.func (.func 63) [] []] [] (.bool res) []:=by
 unfold jE at h;refine Ub Tryz.func124 rfl rfl (m:=32) rfl (rs:=[.tmp 6]) rfl (l:=[(0,vl (qf encI) a),(1,vl (qf encI) b),(2,.func (.func 63) [] [])]) rfl ?_;refine sh fol [(0,vl (qf encI) a),(1,vl (qf encI) b),(2,.func (.func 63) [] [])] ?_;refine sq ?_;refine sh fol ((0,vl (qf encI) a)::(1,vl (qf encI) b)::(2,.func (.func 63) [] [])::(kBK (!decide ((a.length:Int)=(b.length:Int))))) ?_;refine ihB h (fun o h=>?_) (fun o h=>?_)
 ·refine sh fol kAu ?_;refine Goes.ret ?_;obtain rfl:=si h;exact(gw2 [.bool false] (Ua tB))
 refine Goes.skip ?_;refine sq ?_;refine sh fol [(1,vl (qf encI) b),(2,.func (.func 63) [] []),(15,vl (qf encI) a),(16,.i (a.length:Int)),(17,.i 0)] ?_;refine Goes.block ?_;obtain⟨g,g3,h⟩:=bnd h;refine Goes.imp (Q:=fun x s'=>(x= .exit 0/\(.inl ())=g/\Sub s' (ofG 32 [],[]))\/(x= .ret/\ ∃k,(.inr k)=g/\zo ZT [.tmp 6] (.bool k) .ret s')) ?_ ?_
 ·refine Ud (fun M s=> ∃(c:Int),s=(ofG 32 ((1,vl (qf encI) b)::(2,.func (.func 63) [] [])::(15,vl (qf encI) a)::(kAI (a.length:Int) c)),[])/\ko N a b M c=some g) ?_ (m:=N) ⟨_,rfl,g3⟩;rintro M s ⟨c,rfl,g3⟩
  cases M with
  |zero=>simp only[ko]at g3;cases g3
  |succ M=>
   rw[ko]at g3;refine sh fol [(1,vl (qf encI) b),(2,.func (.func 63) [] []),(15,vl (qf encI) a),(16,.i (a.length:Int)),(17,.i c),(18,.bool (decide (c<(a.length:Int))))] ?_;refine sq ?_;refine ihD g3 (fun p g3=>?_) (fun p g3=>?_)
   ·refine Goes.skip ?_;refine sq (Goes.block ?_);obtain⟨j,d,g3⟩:=bnd g3;refine sq (gr fol [1,2] ((1,vl (qf encI) b)::(2,.func (.func 63) [] [])::(7,.i c)::(8,vl encI j)::(15,vl (qf encI) a)::(kAI (a.length:Int) c)) (ac (iv qd4 (qf encI) d) (ac (lv 0 qij (qf encI) d rfl) az)) ?_);obtain⟨n,e,g3⟩:=bnd g3;refine sq (gr fol [2,3] ((1,vl (qf encI) b)::(2,.func (.func 63) [] [])::(8,vl encI j)::(9,vl encI n)::(15,vl (qf encI) a)::(kAI (a.length:Int) c)) (ac (iv qd4 (qf encI) e) (ac (lv 0 qij (qf encI) e rfl) az)) ?_);obtain⟨q,f,g3⟩:=bnd g3;refine sq (gr fol [3] [(1,vl (qf encI) b),(2,.func (.func 63) [] []),(15,vl (qf encI) a),(16,.i (a.length:Int)),(17,.i c),(30,.bool (!q))] (ac (cv (qaC N j n f)) az) ?_);refine ihB g3 (fun r g3=>?_) (fun r g3=>?_)
    ·refine sh fol kAu ?_;refine Goes.ret ?_;obtain rfl:=si g3;exact Or.inr (⟨rfl,_,rfl,(gw2 [.bool false] (Ua tB))⟩)
    refine Goes.skip ?_;refine gh fol ((1,vl (qf encI) b)::(2,.func (.func 63) [] [])::(15,vl (qf encI) a)::(kAI (a.length:Int) (w64 (c+1)))) ?_;exact⟨M,(ofG 32 ((1,vl (qf encI) b)::(2,.func (.func 63) [] [])::(15,vl (qf encI) a)::(kAI (a.length:Int) (w64 (c+1)))),[]),Nat.lt_succ_self _,(Sub.refl _),_,rfl,g3⟩
   refine Goes.exit ?_;obtain rfl:=si g3;exact Or.inl (⟨rfl,rfl,(Sub.keep [] rfl rfl)⟩)
 rintro x s' (⟨rfl,rfl,hsub⟩|⟨rfl,t,rfl,hret⟩)
 ·try dsimp only at h
  refine Goes.sub hsub ?_;refine sh fol [(6,.bool true)] ?_;refine Goes.ret ?_;obtain rfl:=si h;exact(gw2 [.bool true] (Ua tB))
 try dsimp only at h
 obtain rfl:=si h;exact hret
def xx (a:Int) (b:List Int) (c:List Int):Option Unit:=
 some ()
theorem qeB (a:Int) (b:List Int) (c:List Int) (h:xx a b c=some ()):qc ZT (.fn 54) (.i a::vl encI b::(kAq c)) [] (.slice 0 0 5 5 2) (.cells [.str [101,120,112,111,110,101,110,116],.func (.func 121) [] [.ptr 1 0,.ptr 2 0],.str [112,101,114,109],.func (.func 122) [] [.ptr 3 0,.ptr 1 0,.ptr 2 0],.str [108,105,110,107],.func (.func 123) [] [.ptr 3 0,.ptr 1 0,.ptr 2 0],.str [98,117,114,97,117],.func (.func 125) [] [.ptr 3 0,.ptr 1 0,.ptr 2 0],.str [102,111,114,109],.func (.func 131) [] [.ptr 3 0,.ptr 1 0,.ptr 2 0]]::(kAL b c a)):=by
 unfold xx at h;refine Um Tryz.func54 rfl rfl (m:=18) rfl (rs:=[.tmp 6]) rfl (l:=(kB a b (kBT c []))) rfl ?_;intro B hB;refine sg fol (kBY [(5,.ptr 2 0)]) (kG a b (kBI c [])) ?_;refine sg fol [(6,.slice 3 0 5 5 2)] (kG a b (kBI c [.cells [.str [101,120,112,111,110,101,110,116],.func (.func 121) [] [.ptr 1 0,.ptr 2 0],.str [112,101,114,109],.func (.func 122) [] [.ptr 0 0,.ptr 1 0,.ptr 2 0],.str [108,105,110,107],.func (.func 123) [] [.ptr 0 0,.ptr 1 0,.ptr 2 0],.str [98,117,114,97,117],.func (.func 125) [] [.ptr 0 0,.ptr 1 0,.ptr 2 0],.str [102,111,114,109],.func (.func 131) [] [.ptr 0 0,.ptr 1 0,.ptr 2 0]]])) ?_;refine Goes.ret ?_;exact(gh2 [.slice 3 0 5 5 2] (Uc [] [some 3,some 1,some 2,some 0] (by rw[hB];rfl) rfl (.keep (.slice rfl) .nil) (.kb rfl (.cells (rc (.same nS) (rc (.funcL (sn) (rc (.ptr rfl) (rc (.ptr rfl) rn))) (rc (.same nS) (rc (.funcL (sn) (rc (.ptr rfl) (rc (.ptr rfl) (rc (.ptr rfl) rn)))) (rc (.same nS) (rc (.funcL (sn) (rc (.ptr rfl) (rc (.ptr rfl) (rc (.ptr rfl) rn)))) (rc (.same nS) (rc (.funcL (sn) (rc (.ptr rfl) (rc (.ptr rfl) (rc (.ptr rfl) rn)))) (rc (.same nS) (rc (.funcL (sn) (rc (.ptr rfl) (rc (.ptr rfl) (rc (.ptr rfl) rn)))) rn))))))))))) (.kb rfl (.same sn) (.kb rfl (.same sn) (.kb rfl (.same sn) .nil))))))
def xK (a:Str) (c:List Int) (d:List Int) (b:Str):Option Bool:=
 some (a==b)
theorem qdi (a:Str) (c:List Int) (d:List Int) (b:Str) {res:Bool} (h:xK a c d b=some res):qc ZT (.fn 56) [.agg [.str a,.func (.func 121) [] [.fptr [vl encI c] 0,.fptr [vl encI d] 0]],.fptr [.str b] 0] [] (.bool res) []:=by
 unfold xK at h;refine Ub Tryz.func56 rfl rfl (m:=8) rfl (rs:=[.tmp 3]) rfl (l:=[(0,.agg [.str a,.func (.func 121) [] [.fptr [vl encI c] 0,.fptr [vl encI d] 0]]),(1,.fptr [.str b] 0)]) rfl ?_;refine sg fol ((1,.fptr [.str b] 0)::kAl) [.cells [.str a,.func (.func 121) [] [.fptr [vl encI c] 0,.fptr [vl encI d] 0]]] ?_;refine sh fol [(3,.bool (a==b))] ?_;refine Goes.ret ?_;obtain rfl:=si h;exact(gw2 [.bool (a==b)] (Ua tB))
def xQ (a:Str) (c:Int) (d:List Int) (e:List Int) (b:Str):Option Bool:=
 some (a==b)
theorem qdv (a:Str) (c:Int) (d:List Int) (e:List Int) (b:Str) {res:Bool} (h:xQ a c d e b=some res):qc ZT (.fn 56) [.agg [.str a,.func (.func 122) [] [.fptr [.i c] 0,.fptr [vl encI d] 0,.fptr [vl encI e] 0]],.fptr [.str b] 0] [] (.bool res) []:=by
 unfold xQ at h;refine Ub Tryz.func56 rfl rfl (m:=8) rfl (rs:=[.tmp 3]) rfl (l:=[(0,.agg [.str a,.func (.func 122) [] [.fptr [.i c] 0,.fptr [vl encI d] 0,.fptr [vl encI e] 0]]),(1,.fptr [.str b] 0)]) rfl ?_;refine sg fol ((1,.fptr [.str b] 0)::kAl) [.cells [.str a,.func (.func 122) [] [.fptr [.i c] 0,.fptr [vl encI d] 0,.fptr [vl encI e] 0]]] ?_;refine sh fol [(3,.bool (a==b))] ?_;refine Goes.ret ?_;obtain rfl:=si h;exact(gw2 [.bool (a==b)] (Ua tB))
def xB (a:Str) (c:Int) (d:List Int) (e:List Int) (b:Str):Option Bool:=
 some (a==b)
theorem qdk (a:Str) (c:Int) (d:List Int) (e:List Int) (b:Str) {res:Bool} (h:xB a c d e b=some res):qc ZT (.fn 56) [.agg [.str a,.func (.func 123) [] [.fptr [.i c] 0,.fptr [vl encI d] 0,.fptr [vl encI e] 0]],.fptr [.str b] 0] [] (.bool res) []:=by
 unfold xB at h;refine Ub Tryz.func56 rfl rfl (m:=8) rfl (rs:=[.tmp 3]) rfl (l:=[(0,.agg [.str a,.func (.func 123) [] [.fptr [.i c] 0,.fptr [vl encI d] 0,.fptr [vl encI e] 0]]),(1,.fptr [.str b] 0)]) rfl ?_;refine sg fol ((1,.fptr [.str b] 0)::kAl) [.cells [.str a,.func (.func 123) [] [.fptr [.i c] 0,.fptr [vl encI d] 0,.fptr [vl encI e] 0]]] ?_;refine sh fol [(3,.bool (a==b))] ?_;refine Goes.ret ?_;obtain rfl:=si h;exact(gw2 [.bool (a==b)] (Ua tB))
def xz (a:Str) (c:Int) (d:List Int) (e:List Int) (b:Str):Option Bool:=
 some (a==b)
theorem qdp (a:Str) (c:Int) (d:List Int) (e:List Int) (b:Str) {res:Bool} (h:xz a c d e b=some res):qc ZT (.fn 56) [.agg [.str a,.func (.func 125) [] [.fptr [.i c] 0,.fptr [vl encI d] 0,.fptr [vl encI e] 0]],.fptr [.str b] 0] [] (.bool res) []:=by
 unfold xz at h;refine Ub Tryz.func56 rfl rfl (m:=8) rfl (rs:=[.tmp 3]) rfl (l:=[(0,.agg [.str a,.func (.func 125) [] [.fptr [.i c] 0,.fptr [vl encI d] 0,.fptr [vl encI e] 0]]),(1,.fptr [.str b] 0)]) rfl ?_;refine sg fol ((1,.fptr [.str b] 0)::kAl) [.cells [.str a,.func (.func 125) [] [.fptr [.i c] 0,.fptr [vl encI d] 0,.fptr [vl encI e] 0]]] ?_;refine sh fol [(3,.bool (a==b))] ?_;refine Goes.ret ?_;obtain rfl:=si h;exact(gw2 [.bool (a==b)] (Ua tB))
def xV (a:Str) (c:Int) (d:List Int) (e:List Int) (b:Str):Option Bool:=
 some (a==b)
theorem qdl (a:Str) (c:Int) (d:List Int) (e:List Int) (b:Str) {res:Bool} (h:xV a c d e b=some res):qc ZT (.fn 56) [.agg [.str a,.func (.func 131) [] [.fptr [.i c] 0,.fptr [vl encI d] 0,.fptr [vl encI e] 0]],.fptr [.str b] 0] [] (.bool res) []:=by
 unfold xV at h;refine Ub Tryz.func56 rfl rfl (m:=8) rfl (rs:=[.tmp 3]) rfl (l:=[(0,.agg [.str a,.func (.func 131) [] [.fptr [.i c] 0,.fptr [vl encI d] 0,.fptr [vl encI e] 0]]),(1,.fptr [.str b] 0)]) rfl ?_;refine sg fol ((1,.fptr [.str b] 0)::kAl) [.cells [.str a,.func (.func 131) [] [.fptr [.i c] 0,.fptr [vl encI d] 0,.fptr [vl encI e] 0]]] ?_;refine sh fol [(3,.bool (a==b))] ?_;refine Goes.ret ?_;obtain rfl:=si h;exact(gw2 [.bool (a==b)] (Ua tB))
def zb (b:Str) (c:List Int) (d:List Int) (e:Str) (f:Int) (g:List Int) (h:List Int) (i:Str) (j:Int) (k:List Int) (a10_:List Int) (a11_:Str) (a12_:Int) (a13_:List Int) (a14_:List Int) (a15_:Str) (a16_:Int) (a17_:List Int) (a18_:List Int) (a19_:Str):Nat->Int->Option (Unit⊕Int)
 |0,_=>none
 |K+1,a=>
  if a<5 then
  (if a=0 then
  (xK b c d a19_).bind fun p=>
  some p
  else
  if a=1 then
  (xQ e f g h a19_).bind fun q=>
  some q
  else
  if a=2 then
  (xB i j k a10_ a19_).bind fun l=>
  some l
  else
  if a=3 then
  (xz a11_ a12_ a13_ a14_ a19_).bind fun m=>
  some m
  else
  if a=4 then
  (xV a15_ a16_ a17_ a18_ a19_).bind fun n=>
  some n
  else
  none:Option Bool).bind fun o=>
  if o=true then
  some (.inr a)
  else
  zb b c d e f g h i j k a10_ a11_ a12_ a13_ a14_ a15_ a16_ a17_ a18_ a19_ K (w64 (a+1))
  else
  some (.inl ())
def qK (N:Nat) (a:Str) (b:List Int) (c:List Int) (d:Str) (e:Int) (f:List Int) (g:List Int) (h:Str) (i:Int) (j:List Int) (a10_:List Int) (a11_:Str) (a12_:Int) (a13_:List Int) (a14_:List Int) (a15_:Str) (a16_:Int) (a17_:List Int) (a18_:List Int) (a19_:Str):Option Int:=
 (zb a b c d e f g h i j a10_ a11_ a12_ a13_ a14_ a15_ a16_ a17_ a18_ a19_ N 0).bind (fun
 |(.inl ())=>
 some (-1)
 |(.inr k)=>
 some k)
theorem qb6 (N:Nat) (b:Str) (c:List Int) (d:List Int) (e:Str) (f:Int) (g:List Int) (j:List Int) (k:Str) (n:Int) (o:List Int) (a10_:List Int) (a11_:Str) (a12_:Int) (a13_:List Int) (a14_:List Int) (a15_:Str) (a16_:Int) (a17_:List Int) (a18_:List Int) (a19_:Str) {res:Int} (h:qK N b c d e f g j k n o a10_ a11_ a12_ a13_ a14_ a15_ a16_ a17_ a18_ a19_=some res):qc ZT (.fn 55) [.fslice 5 [.str b,.func (.func 121) [] [.fptr [vl encI c] 0,.fptr [vl encI d] 0],.str e,.func (.func 122) [] [.fptr [.i f] 0,.fptr [vl encI g] 0,.fptr [vl encI j] 0],.str k,.func (.func 123) [] [.fptr [.i n] 0,.fptr [vl encI o] 0,.fptr [vl encI a10_] 0],.str a11_,.func (.func 125) [] [.fptr [.i a12_] 0,.fptr [vl encI a13_] 0,.fptr [vl encI a14_] 0],.str a15_,.func (.func 131) [] [.fptr [.i a16_] 0,.fptr [vl encI a17_] 0,.fptr [vl encI a18_] 0]],.func (.func 56) [] [.fptr [.str a19_] 0]] [] (.i res) []:=by
 unfold qK at h;refine Ub Tryz.func55 rfl rfl (m:=19) rfl (rs:=[.tmp 4]) rfl (l:=[(0,.fslice 5 [.str b,.func (.func 121) [] [.fptr [vl encI c] 0,.fptr [vl encI d] 0],.str e,.func (.func 122) [] [.fptr [.i f] 0,.fptr [vl encI g] 0,.fptr [vl encI j] 0],.str k,.func (.func 123) [] [.fptr [.i n] 0,.fptr [vl encI o] 0,.fptr [vl encI a10_] 0],.str a11_,.func (.func 125) [] [.fptr [.i a12_] 0,.fptr [vl encI a13_] 0,.fptr [vl encI a14_] 0],.str a15_,.func (.func 131) [] [.fptr [.i a16_] 0,.fptr [vl encI a17_] 0,.fptr [vl encI a18_] 0]]),(1,.func (.func 56) [] [.fptr [.str a19_] 0])]) rfl ?_;refine sh fol [(0,.fslice 5 [.str b,.func (.func 121) [] [.fptr [vl encI c] 0,.fptr [vl encI d] 0],.str e,.func (.func 122) [] [.fptr [.i f] 0,.fptr [vl encI g] 0,.fptr [vl encI j] 0],.str k,.func (.func 123) [] [.fptr [.i n] 0,.fptr [vl encI o] 0,.fptr [vl encI a10_] 0],.str a11_,.func (.func 125) [] [.fptr [.i a12_] 0,.fptr [vl encI a13_] 0,.fptr [vl encI a14_] 0],.str a15_,.func (.func 131) [] [.fptr [.i a16_] 0,.fptr [vl encI a17_] 0,.fptr [vl encI a18_] 0]]),(1,.func (.func 56) [] [.fptr [.str a19_] 0])] ?_;refine sq ?_;refine sh fol [(0,.fslice 5 [.str b,.func (.func 121) [] [.fptr [vl encI c] 0,.fptr [vl encI d] 0],.str e,.func (.func 122) [] [.fptr [.i f] 0,.fptr [vl encI g] 0,.fptr [vl encI j] 0],.str k,.func (.func 123) [] [.fptr [.i n] 0,.fptr [vl encI o] 0,.fptr [vl encI a10_] 0],.str a11_,.func (.func 125) [] [.fptr [.i a12_] 0,.fptr [vl encI a13_] 0,.fptr [vl encI a14_] 0],.str a15_,.func (.func 131) [] [.fptr [.i a16_] 0,.fptr [vl encI a17_] 0,.fptr [vl encI a18_] 0]]),(1,.func (.func 56) [] [.fptr [.str a19_] 0]),(7,.i 5),(8,.i 0)] ?_;refine Goes.block ?_;obtain⟨C,g2,h⟩:=bnd h;refine Goes.imp (Q:=fun x s'=>(x= .exit 0/\(.inl ())=C/\Sub s' (ofG 19 [],[]))\/(x= .ret/\ ∃F,(.inr F)=C/\zo ZT [.tmp 4] (.i F) .ret s')) ?_ ?_
 ·refine Ud (fun M s=> ∃(p:Int),s=(ofG 19 ((0,.fslice 5 [.str b,.func (.func 121) [] [.fptr [vl encI c] 0,.fptr [vl encI d] 0],.str e,.func (.func 122) [] [.fptr [.i f] 0,.fptr [vl encI g] 0,.fptr [vl encI j] 0],.str k,.func (.func 123) [] [.fptr [.i n] 0,.fptr [vl encI o] 0,.fptr [vl encI a10_] 0],.str a11_,.func (.func 125) [] [.fptr [.i a12_] 0,.fptr [vl encI a13_] 0,.fptr [vl encI a14_] 0],.str a15_,.func (.func 131) [] [.fptr [.i a16_] 0,.fptr [vl encI a17_] 0,.fptr [vl encI a18_] 0]])::(1,.func (.func 56) [] [.fptr [.str a19_] 0])::(7,.i 5)::(kAk p)),[])/\zb b c d e f g j k n o a10_ a11_ a12_ a13_ a14_ a15_ a16_ a17_ a18_ a19_ M p=some C) ?_ (m:=N) ⟨_,rfl,g2⟩;rintro M s ⟨p,rfl,g2⟩
  cases M with
  |zero=>simp only[zb]at g2;cases g2
  |succ M=>
   rw[zb]at g2;refine sh fol [(0,.fslice 5 [.str b,.func (.func 121) [] [.fptr [vl encI c] 0,.fptr [vl encI d] 0],.str e,.func (.func 122) [] [.fptr [.i f] 0,.fptr [vl encI g] 0,.fptr [vl encI j] 0],.str k,.func (.func 123) [] [.fptr [.i n] 0,.fptr [vl encI o] 0,.fptr [vl encI a10_] 0],.str a11_,.func (.func 125) [] [.fptr [.i a12_] 0,.fptr [vl encI a13_] 0,.fptr [vl encI a14_] 0],.str a15_,.func (.func 131) [] [.fptr [.i a16_] 0,.fptr [vl encI a17_] 0,.fptr [vl encI a18_] 0]]),(1,.func (.func 56) [] [.fptr [.str a19_] 0]),(7,.i 5),(8,.i p),(9,.bool (decide (p<5)))] ?_;refine sq ?_;refine ihD g2 (fun L g2=>?_) (fun L g2=>?_)
   ·refine Goes.skip ?_;refine sq (Goes.block ?_);refine sh fol ((0,.fslice 5 [.str b,.func (.func 121) [] [.fptr [vl encI c] 0,.fptr [vl encI d] 0],.str e,.func (.func 122) [] [.fptr [.i f] 0,.fptr [vl encI g] 0,.fptr [vl encI j] 0],.str k,.func (.func 123) [] [.fptr [.i n] 0,.fptr [vl encI o] 0,.fptr [vl encI a10_] 0],.str a11_,.func (.func 125) [] [.fptr [.i a12_] 0,.fptr [vl encI a13_] 0,.fptr [vl encI a14_] 0],.str a15_,.func (.func 131) [] [.fptr [.i a16_] 0,.fptr [vl encI a17_] 0,.fptr [vl encI a18_] 0]])::(1,.func (.func 56) [] [.fptr [.str a19_] 0])::(5,.i p)::(7,.i 5)::(kAk p)) ?_;refine sq ?_;obtain⟨D,a,g2⟩:=bnd g2;refine Goes.cut (s':=(ofG 19 ((0,.fslice 5 [.str b,.func (.func 121) [] [.fptr [vl encI c] 0,.fptr [vl encI d] 0],.str e,.func (.func 122) [] [.fptr [.i f] 0,.fptr [vl encI g] 0,.fptr [vl encI j] 0],.str k,.func (.func 123) [] [.fptr [.i n] 0,.fptr [vl encI o] 0,.fptr [vl encI a10_] 0],.str a11_,.func (.func 125) [] [.fptr [.i a12_] 0,.fptr [vl encI a13_] 0,.fptr [vl encI a14_] 0],.str a15_,.func (.func 131) [] [.fptr [.i a16_] 0,.fptr [vl encI a17_] 0,.fptr [vl encI a18_] 0]])::(1,.func (.func 56) [] [.fptr [.str a19_] 0])::(kAp p D)),[])) ?_ ?_
    ·rcases wyD a with⟨G,a⟩|⟨G,a⟩
     ·obtain⟨H,u,a⟩:=bnd a;obtain rfl:=si a;exact tr fol [3,5] ((0,.fslice 5 [.str b,.func (.func 121) [] [.fptr [vl encI c] 0,.fptr [vl encI d] 0],.str e,.func (.func 122) [] [.fptr [.i f] 0,.fptr [vl encI g] 0,.fptr [vl encI j] 0],.str k,.func (.func 123) [] [.fptr [.i n] 0,.fptr [vl encI o] 0,.fptr [vl encI a10_] 0],.str a11_,.func (.func 125) [] [.fptr [.i a12_] 0,.fptr [vl encI a13_] 0,.fptr [vl encI a14_] 0],.str a15_,.func (.func 131) [] [.fptr [.i a16_] 0,.fptr [vl encI a17_] 0,.fptr [vl encI a18_] 0]])::(1,.func (.func 56) [] [.fptr [.str a19_] 0])::(kAp p H)) (ac (hs (.done (.opt (qa ZT 89 (.fslice 5 [.str b,.func (.func 121) [] [.fptr [vl encI c] 0,.fptr [vl encI d] 0],.str e,.func (.func 122) [] [.fptr [.i f] 0,.fptr [vl encI g] 0,.fptr [vl encI j] 0],.str k,.func (.func 123) [] [.fptr [.i n] 0,.fptr [vl encI o] 0,.fptr [vl encI a10_] 0],.str a11_,.func (.func 125) [] [.fptr [.i a12_] 0,.fptr [vl encI a13_] 0,.fptr [vl encI a14_] 0],.str a15_,.func (.func 131) [] [.fptr [.i a16_] 0,.fptr [vl encI a17_] 0,.fptr [vl encI a18_] 0]]) (.i p))) (.fptr [.str b,.func (.func 121) [] [.fptr [vl encI c] 0,.fptr [vl encI d] 0],.str e,.func (.func 122) [] [.fptr [.i f] 0,.fptr [vl encI g] 0,.fptr [vl encI j] 0],.str k,.func (.func 123) [] [.fptr [.i n] 0,.fptr [vl encI o] 0,.fptr [vl encI a10_] 0],.str a11_,.func (.func 125) [] [.fptr [.i a12_] 0,.fptr [vl encI a13_] 0,.fptr [vl encI a14_] 0],.str a15_,.func (.func 131) [] [.fptr [.i a16_] 0,.fptr [vl encI a17_] 0,.fptr [vl encI a18_] 0]] 0)) (ixA (ot G) (by kernel_rfl))) (ac (hs (.call 56 [.agg [.str b,.func (.func 121) [] [.fptr [vl encI c] 0,.fptr [vl encI d] 0]],.fptr [.str a19_] 0] [] [] [.agg [.str b,.func (.func 121) [] [.fptr [vl encI c] 0,.fptr [vl encI d] 0]],.fptr [.str a19_] 0] (.bool H)) (qd5 (FzL.cons (Fz.agg (FzL.cons (Ue tS) (FzL.cons (Fz.func FzL.nil (FzL.cons (Ue (Still.fptr (AllST.cons (qx encI _ (nl rfl)) AllST.nil))) (FzL.cons (Ue (Still.fptr (AllST.cons (qx encI _ (nl rfl)) AllST.nil))) FzL.nil))) FzL.nil))) (FzL.cons (Ue (Still.fptr (AllST.cons tS AllST.nil))) FzL.nil)) (qdi b c d a19_ u) tB)) az))
     rcases wyD a with⟨I,a⟩|⟨I,a⟩
     ·obtain⟨J,v,a⟩:=bnd a;obtain rfl:=si a;exact tr fol [3,5] ((0,.fslice 5 [.str b,.func (.func 121) [] [.fptr [vl encI c] 0,.fptr [vl encI d] 0],.str e,.func (.func 122) [] [.fptr [.i f] 0,.fptr [vl encI g] 0,.fptr [vl encI j] 0],.str k,.func (.func 123) [] [.fptr [.i n] 0,.fptr [vl encI o] 0,.fptr [vl encI a10_] 0],.str a11_,.func (.func 125) [] [.fptr [.i a12_] 0,.fptr [vl encI a13_] 0,.fptr [vl encI a14_] 0],.str a15_,.func (.func 131) [] [.fptr [.i a16_] 0,.fptr [vl encI a17_] 0,.fptr [vl encI a18_] 0]])::(1,.func (.func 56) [] [.fptr [.str a19_] 0])::(kAp p J)) (ac (hs (.done (.opt (qa ZT 89 (.fslice 5 [.str b,.func (.func 121) [] [.fptr [vl encI c] 0,.fptr [vl encI d] 0],.str e,.func (.func 122) [] [.fptr [.i f] 0,.fptr [vl encI g] 0,.fptr [vl encI j] 0],.str k,.func (.func 123) [] [.fptr [.i n] 0,.fptr [vl encI o] 0,.fptr [vl encI a10_] 0],.str a11_,.func (.func 125) [] [.fptr [.i a12_] 0,.fptr [vl encI a13_] 0,.fptr [vl encI a14_] 0],.str a15_,.func (.func 131) [] [.fptr [.i a16_] 0,.fptr [vl encI a17_] 0,.fptr [vl encI a18_] 0]]) (.i p))) (.fptr [.str b,.func (.func 121) [] [.fptr [vl encI c] 0,.fptr [vl encI d] 0],.str e,.func (.func 122) [] [.fptr [.i f] 0,.fptr [vl encI g] 0,.fptr [vl encI j] 0],.str k,.func (.func 123) [] [.fptr [.i n] 0,.fptr [vl encI o] 0,.fptr [vl encI a10_] 0],.str a11_,.func (.func 125) [] [.fptr [.i a12_] 0,.fptr [vl encI a13_] 0,.fptr [vl encI a14_] 0],.str a15_,.func (.func 131) [] [.fptr [.i a16_] 0,.fptr [vl encI a17_] 0,.fptr [vl encI a18_] 0]] 2)) (ixA (ot I) (by kernel_rfl))) (ac (hs (.call 56 [.agg [.str e,.func (.func 122) [] [.fptr [.i f] 0,.fptr [vl encI g] 0,.fptr [vl encI j] 0]],.fptr [.str a19_] 0] [] [] [.agg [.str e,.func (.func 122) [] [.fptr [.i f] 0,.fptr [vl encI g] 0,.fptr [vl encI j] 0]],.fptr [.str a19_] 0] (.bool J)) (qd5 (FzL.cons (Fz.agg (FzL.cons (Ue tS) (FzL.cons (Fz.func FzL.nil (FzL.cons (Ue (Still.fptr (AllST.cons tI AllST.nil))) (FzL.cons (Ue (Still.fptr (AllST.cons (qx encI _ (nl rfl)) AllST.nil))) (FzL.cons (Ue (Still.fptr (AllST.cons (qx encI _ (nl rfl)) AllST.nil))) FzL.nil)))) FzL.nil))) (FzL.cons (Ue (Still.fptr (AllST.cons tS AllST.nil))) FzL.nil)) (qdv e f g j a19_ v) tB)) az))
     rcases wyD a with⟨K,a⟩|⟨K,a⟩
     ·obtain⟨w,q,a⟩:=bnd a;obtain rfl:=si a;exact tr fol [3,5] ((0,.fslice 5 [.str b,.func (.func 121) [] [.fptr [vl encI c] 0,.fptr [vl encI d] 0],.str e,.func (.func 122) [] [.fptr [.i f] 0,.fptr [vl encI g] 0,.fptr [vl encI j] 0],.str k,.func (.func 123) [] [.fptr [.i n] 0,.fptr [vl encI o] 0,.fptr [vl encI a10_] 0],.str a11_,.func (.func 125) [] [.fptr [.i a12_] 0,.fptr [vl encI a13_] 0,.fptr [vl encI a14_] 0],.str a15_,.func (.func 131) [] [.fptr [.i a16_] 0,.fptr [vl encI a17_] 0,.fptr [vl encI a18_] 0]])::(1,.func (.func 56) [] [.fptr [.str a19_] 0])::(kAp p w)) (ac (hs (.done (.opt (qa ZT 89 (.fslice 5 [.str b,.func (.func 121) [] [.fptr [vl encI c] 0,.fptr [vl encI d] 0],.str e,.func (.func 122) [] [.fptr [.i f] 0,.fptr [vl encI g] 0,.fptr [vl encI j] 0],.str k,.func (.func 123) [] [.fptr [.i n] 0,.fptr [vl encI o] 0,.fptr [vl encI a10_] 0],.str a11_,.func (.func 125) [] [.fptr [.i a12_] 0,.fptr [vl encI a13_] 0,.fptr [vl encI a14_] 0],.str a15_,.func (.func 131) [] [.fptr [.i a16_] 0,.fptr [vl encI a17_] 0,.fptr [vl encI a18_] 0]]) (.i p))) (.fptr [.str b,.func (.func 121) [] [.fptr [vl encI c] 0,.fptr [vl encI d] 0],.str e,.func (.func 122) [] [.fptr [.i f] 0,.fptr [vl encI g] 0,.fptr [vl encI j] 0],.str k,.func (.func 123) [] [.fptr [.i n] 0,.fptr [vl encI o] 0,.fptr [vl encI a10_] 0],.str a11_,.func (.func 125) [] [.fptr [.i a12_] 0,.fptr [vl encI a13_] 0,.fptr [vl encI a14_] 0],.str a15_,.func (.func 131) [] [.fptr [.i a16_] 0,.fptr [vl encI a17_] 0,.fptr [vl encI a18_] 0]] 4)) (ixA (ot K) (by kernel_rfl))) (ac (hs (.call 56 [.agg [.str k,.func (.func 123) [] [.fptr [.i n] 0,.fptr [vl encI o] 0,.fptr [vl encI a10_] 0]],.fptr [.str a19_] 0] [] [] [.agg [.str k,.func (.func 123) [] [.fptr [.i n] 0,.fptr [vl encI o] 0,.fptr [vl encI a10_] 0]],.fptr [.str a19_] 0] (.bool w)) (qd5 (FzL.cons (Fz.agg (FzL.cons (Ue tS) (FzL.cons (Fz.func FzL.nil (FzL.cons (Ue (Still.fptr (AllST.cons tI AllST.nil))) (FzL.cons (Ue (Still.fptr (AllST.cons (qx encI _ (nl rfl)) AllST.nil))) (FzL.cons (Ue (Still.fptr (AllST.cons (qx encI _ (nl rfl)) AllST.nil))) FzL.nil)))) FzL.nil))) (FzL.cons (Ue (Still.fptr (AllST.cons tS AllST.nil))) FzL.nil)) (qdk k n o a10_ a19_ q) tB)) az))
     rcases wyD a with⟨y,a⟩|⟨y,a⟩
     ·obtain⟨z,r,a⟩:=bnd a;obtain rfl:=si a;exact tr fol [3,5] ((0,.fslice 5 [.str b,.func (.func 121) [] [.fptr [vl encI c] 0,.fptr [vl encI d] 0],.str e,.func (.func 122) [] [.fptr [.i f] 0,.fptr [vl encI g] 0,.fptr [vl encI j] 0],.str k,.func (.func 123) [] [.fptr [.i n] 0,.fptr [vl encI o] 0,.fptr [vl encI a10_] 0],.str a11_,.func (.func 125) [] [.fptr [.i a12_] 0,.fptr [vl encI a13_] 0,.fptr [vl encI a14_] 0],.str a15_,.func (.func 131) [] [.fptr [.i a16_] 0,.fptr [vl encI a17_] 0,.fptr [vl encI a18_] 0]])::(1,.func (.func 56) [] [.fptr [.str a19_] 0])::(kAp p z)) (ac (hs (.done (.opt (qa ZT 89 (.fslice 5 [.str b,.func (.func 121) [] [.fptr [vl encI c] 0,.fptr [vl encI d] 0],.str e,.func (.func 122) [] [.fptr [.i f] 0,.fptr [vl encI g] 0,.fptr [vl encI j] 0],.str k,.func (.func 123) [] [.fptr [.i n] 0,.fptr [vl encI o] 0,.fptr [vl encI a10_] 0],.str a11_,.func (.func 125) [] [.fptr [.i a12_] 0,.fptr [vl encI a13_] 0,.fptr [vl encI a14_] 0],.str a15_,.func (.func 131) [] [.fptr [.i a16_] 0,.fptr [vl encI a17_] 0,.fptr [vl encI a18_] 0]]) (.i p))) (.fptr [.str b,.func (.func 121) [] [.fptr [vl encI c] 0,.fptr [vl encI d] 0],.str e,.func (.func 122) [] [.fptr [.i f] 0,.fptr [vl encI g] 0,.fptr [vl encI j] 0],.str k,.func (.func 123) [] [.fptr [.i n] 0,.fptr [vl encI o] 0,.fptr [vl encI a10_] 0],.str a11_,.func (.func 125) [] [.fptr [.i a12_] 0,.fptr [vl encI a13_] 0,.fptr [vl encI a14_] 0],.str a15_,.func (.func 131) [] [.fptr [.i a16_] 0,.fptr [vl encI a17_] 0,.fptr [vl encI a18_] 0]] 6)) (ixA (ot y) (by kernel_rfl))) (ac (hs (.call 56 [.agg [.str a11_,.func (.func 125) [] [.fptr [.i a12_] 0,.fptr [vl encI a13_] 0,.fptr [vl encI a14_] 0]],.fptr [.str a19_] 0] [] [] [.agg [.str a11_,.func (.func 125) [] [.fptr [.i a12_] 0,.fptr [vl encI a13_] 0,.fptr [vl encI a14_] 0]],.fptr [.str a19_] 0] (.bool z)) (qd5 (FzL.cons (Fz.agg (FzL.cons (Ue tS) (FzL.cons (Fz.func FzL.nil (FzL.cons (Ue (Still.fptr (AllST.cons tI AllST.nil))) (FzL.cons (Ue (Still.fptr (AllST.cons (qx encI _ (nl rfl)) AllST.nil))) (FzL.cons (Ue (Still.fptr (AllST.cons (qx encI _ (nl rfl)) AllST.nil))) FzL.nil)))) FzL.nil))) (FzL.cons (Ue (Still.fptr (AllST.cons tS AllST.nil))) FzL.nil)) (qdp a11_ a12_ a13_ a14_ a19_ r) tB)) az))
     rcases wyD a with⟨A,a⟩|⟨A,a⟩
     ·obtain⟨B,t,a⟩:=bnd a;obtain rfl:=si a;exact tr fol [3,5] ((0,.fslice 5 [.str b,.func (.func 121) [] [.fptr [vl encI c] 0,.fptr [vl encI d] 0],.str e,.func (.func 122) [] [.fptr [.i f] 0,.fptr [vl encI g] 0,.fptr [vl encI j] 0],.str k,.func (.func 123) [] [.fptr [.i n] 0,.fptr [vl encI o] 0,.fptr [vl encI a10_] 0],.str a11_,.func (.func 125) [] [.fptr [.i a12_] 0,.fptr [vl encI a13_] 0,.fptr [vl encI a14_] 0],.str a15_,.func (.func 131) [] [.fptr [.i a16_] 0,.fptr [vl encI a17_] 0,.fptr [vl encI a18_] 0]])::(1,.func (.func 56) [] [.fptr [.str a19_] 0])::(kAp p B)) (ac (hs (.done (.opt (qa ZT 89 (.fslice 5 [.str b,.func (.func 121) [] [.fptr [vl encI c] 0,.fptr [vl encI d] 0],.str e,.func (.func 122) [] [.fptr [.i f] 0,.fptr [vl encI g] 0,.fptr [vl encI j] 0],.str k,.func (.func 123) [] [.fptr [.i n] 0,.fptr [vl encI o] 0,.fptr [vl encI a10_] 0],.str a11_,.func (.func 125) [] [.fptr [.i a12_] 0,.fptr [vl encI a13_] 0,.fptr [vl encI a14_] 0],.str a15_,.func (.func 131) [] [.fptr [.i a16_] 0,.fptr [vl encI a17_] 0,.fptr [vl encI a18_] 0]]) (.i p))) (.fptr [.str b,.func (.func 121) [] [.fptr [vl encI c] 0,.fptr [vl encI d] 0],.str e,.func (.func 122) [] [.fptr [.i f] 0,.fptr [vl encI g] 0,.fptr [vl encI j] 0],.str k,.func (.func 123) [] [.fptr [.i n] 0,.fptr [vl encI o] 0,.fptr [vl encI a10_] 0],.str a11_,.func (.func 125) [] [.fptr [.i a12_] 0,.fptr [vl encI a13_] 0,.fptr [vl encI a14_] 0],.str a15_,.func (.func 131) [] [.fptr [.i a16_] 0,.fptr [vl encI a17_] 0,.fptr [vl encI a18_] 0]] 8)) (ixA (ot A) (by kernel_rfl))) (ac (hs (.call 56 [.agg [.str a15_,.func (.func 131) [] [.fptr [.i a16_] 0,.fptr [vl encI a17_] 0,.fptr [vl encI a18_] 0]],.fptr [.str a19_] 0] [] [] [.agg [.str a15_,.func (.func 131) [] [.fptr [.i a16_] 0,.fptr [vl encI a17_] 0,.fptr [vl encI a18_] 0]],.fptr [.str a19_] 0] (.bool B)) (qd5 (FzL.cons (Fz.agg (FzL.cons (Ue tS) (FzL.cons (Fz.func FzL.nil (FzL.cons (Ue (Still.fptr (AllST.cons tI AllST.nil))) (FzL.cons (Ue (Still.fptr (AllST.cons (qx encI _ (nl rfl)) AllST.nil))) (FzL.cons (Ue (Still.fptr (AllST.cons (qx encI _ (nl rfl)) AllST.nil))) FzL.nil)))) FzL.nil))) (FzL.cons (Ue (Still.fptr (AllST.cons tS AllST.nil))) FzL.nil)) (qdl a15_ a16_ a17_ a18_ a19_ t) tB)) az))
     cases a
    refine ihB g2 (fun E g2=>?_) (fun E g2=>?_)
    ·refine sh fol (kAd p) ?_;refine Goes.ret ?_;obtain rfl:=si g2;exact Or.inr (⟨rfl,_,rfl,(gw2 [.i p] (Ua tI))⟩)
    refine Goes.skip ?_;refine gh fol ((0,.fslice 5 [.str b,.func (.func 121) [] [.fptr [vl encI c] 0,.fptr [vl encI d] 0],.str e,.func (.func 122) [] [.fptr [.i f] 0,.fptr [vl encI g] 0,.fptr [vl encI j] 0],.str k,.func (.func 123) [] [.fptr [.i n] 0,.fptr [vl encI o] 0,.fptr [vl encI a10_] 0],.str a11_,.func (.func 125) [] [.fptr [.i a12_] 0,.fptr [vl encI a13_] 0,.fptr [vl encI a14_] 0],.str a15_,.func (.func 131) [] [.fptr [.i a16_] 0,.fptr [vl encI a17_] 0,.fptr [vl encI a18_] 0]])::(1,.func (.func 56) [] [.fptr [.str a19_] 0])::(7,.i 5)::(kAk (w64 (p+1)))) ?_;exact⟨M,(ofG 19 ((0,.fslice 5 [.str b,.func (.func 121) [] [.fptr [vl encI c] 0,.fptr [vl encI d] 0],.str e,.func (.func 122) [] [.fptr [.i f] 0,.fptr [vl encI g] 0,.fptr [vl encI j] 0],.str k,.func (.func 123) [] [.fptr [.i n] 0,.fptr [vl encI o] 0,.fptr [vl encI a10_] 0],.str a11_,.func (.func 125) [] [.fptr [.i a12_] 0,.fptr [vl encI a13_] 0,.fptr [vl encI a14_] 0],.str a15_,.func (.func 131) [] [.fptr [.i a16_] 0,.fptr [vl encI a17_] 0,.fptr [vl encI a18_] 0]])::(1,.func (.func 56) [] [.fptr [.str a19_] 0])::(7,.i 5)::(kAk (w64 (p+1)))),[]),Nat.lt_succ_self _,(Sub.refl _),_,rfl,g2⟩
   refine Goes.exit ?_;obtain rfl:=si g2;exact Or.inl (⟨rfl,rfl,(Sub.keep [] rfl rfl)⟩)
 rintro x s' (⟨rfl,rfl,hsub⟩|⟨rfl,O,rfl,hret⟩)
 ·try dsimp only at h
  refine Goes.sub hsub ?_;refine sh fol [(4,.i (-1))] ?_;refine Goes.ret ?_;obtain rfl:=si h;exact(gw2 [.i (-1)] (Ua tI))
 try dsimp only at h
 obtain rfl:=si h;exact hret
def yg (N:Nat) (a:List Int) (b:List Int):Option Bool:=
 (xy N a).bind fun c=>
 (xy N b).bind fun d=>
 some (!decide (c=d))
theorem qdJ (N:Nat) (a:List Int) (b:List Int) {res:Bool} (h:yg N a b=some res):qc ZT (.fn 121) [.fptr [vl encI a] 0,.fptr [vl encI b] 0] [] (.bool res) []:=by
 unfold yg at h;refine Ub Tryz.func121 rfl rfl (m:=8) rfl (rs:=[.tmp 2]) rfl (l:=[(0,.fptr [vl encI a] 0),(1,.fptr [vl encI b] 0)]) rfl ?_;refine sh fol [(0,.fptr [vl encI a] 0),(1,.fptr [vl encI b] 0)] ?_;obtain⟨e,c,h⟩:=bnd h;obtain⟨f,d,h⟩:=bnd h;refine sq (gr fol [1,3] [(2,.bool (!decide (e=f)))] (ac (cv (qdM N a c)) (ac (cv (qdM N b d)) az)) ?_);refine Goes.ret ?_;obtain rfl:=si h;exact(gw2 [.bool (!decide (e=f))] (Ua tB))
def vZ (N:Nat) (a:Int) (b:List Int) (c:List Int):Option Bool:=
 (qaZ N a b).bind fun d=>
 (qaZ N a c).bind fun e=>
 (jr N d e).bind fun f=>
 some (!f)
theorem qdI (N:Nat) (a:Int) (b:List Int) (c:List Int) {res:Bool} (h:vZ N a b c=some res):qc ZT (.fn 122) [.fptr [.i a] 0,.fptr [vl encI b] 0,.fptr [vl encI c] 0] [] (.bool res) []:=by
 unfold vZ at h;refine Ub Tryz.func122 rfl rfl (m:=12) rfl (rs:=[.tmp 3]) rfl (l:=[(0,.fptr [.i a] 0),(1,.fptr [vl encI b] 0),(2,.fptr [vl encI c] 0)]) rfl ?_;refine sh fol [(0,.fptr [.i a] 0),(1,.fptr [vl encI b] 0),(2,.fptr [vl encI c] 0)] ?_;obtain⟨j,d,h⟩:=bnd h;obtain⟨k,e,h⟩:=bnd h;obtain⟨g,f,h⟩:=bnd h;refine sq (gr fol [2,5,6] [(3,.bool (!g))] (ac (cv (qgn N a b d)) (ac (cv (qgn N a c e)) (ac (cv (qaC N j k f)) az))) ?_);refine Goes.ret ?_;obtain rfl:=si h;exact(gw2 [.bool (!g)] (Ua tB))
def yh (N:Nat) (a:Int) (b:List Int) (c:List Int):Option Bool:=
 (qck N a b).bind fun d=>
 (qck N a c).bind fun e=>
 (jE N d e).bind fun f=>
 some (!f)
theorem qdH (N:Nat) (a:Int) (b:List Int) (c:List Int) {res:Bool} (h:yh N a b c=some res):qc ZT (.fn 123) [.fptr [.i a] 0,.fptr [vl encI b] 0,.fptr [vl encI c] 0] [] (.bool res) []:=by
 unfold yh at h;refine Ub Tryz.func123 rfl rfl (m:=12) rfl (rs:=[.tmp 3]) rfl (l:=[(0,.fptr [.i a] 0),(1,.fptr [vl encI b] 0),(2,.fptr [vl encI c] 0)]) rfl ?_;refine sh fol [(0,.fptr [.i a] 0),(1,.fptr [vl encI b] 0),(2,.fptr [vl encI c] 0)] ?_;obtain⟨g,d,h⟩:=bnd h;obtain⟨j,e,h⟩:=bnd h;obtain⟨k,f,h⟩:=bnd h;refine sq (gr fol [2,5,6] [(3,.bool (!k))] (ac (cv (qgt N a b d)) (ac (cv (qgt N a c e)) (ac (hs (.call 124 [vl (qf encI) g,vl (qf encI) j,.func (.func 63) [] []] [] [] [vl (qf encI) g,vl (qf encI) j,.func (.func 63) [] []] (.bool k)) (qd5 (FzL.cons (Ue (qx (qf encI) _ (nl rfl))) (FzL.cons (Ue (qx (qf encI) _ (nl rfl))) (FzL.cons (Fz.func FzL.nil FzL.nil) FzL.nil))) (qdy N g j f) tB)) az))) ?_);refine Goes.ret ?_;obtain rfl:=si h;exact(gw2 [.bool (!k)] (Ua tB))
def qX (N:Nat) (a:List (List qw)) (b:List (List qw)):Nat->Int->Option (Unit⊕Bool)
 |0,_=>none
 |K+1,c=>
  if c<(a.length:Int)then
  (idx a c).bind fun d=>
  (idx b c).bind fun e=>
  (jW N d e).bind fun f=>
  if(!f)=true then
  some (.inr false)
  else
  qX N a b K (w64 (c+1))
  else
  some (.inl ())
def jf (N:Nat) (a:List (List qw)) (b:List (List qw)):Option Bool:=
 if(!decide ((a.length:Int)=(b.length:Int)))=true then
 some false
 else
 (qX N a b N 0).bind (fun
 |(.inl ())=>
 some true
 |(.inr c)=>
 some c)
theorem qcV (N:Nat) (a:List (List qw)) (b:List (List qw)) {res:Bool} (h:jf N a b=some res):qc ZT (.fn 127) [vl (qf qb) a,vl (qf qb) b,.func (.func 128) [] []] [] (.bool res) []:=by
 unfold jf at h;refine Ub Tryz.func127 rfl rfl (m:=32) rfl (rs:=[.tmp 6]) rfl (l:=[(0,vl (qf qb) a),(1,vl (qf qb) b),(2,.func (.func 128) [] [])]) rfl ?_;refine sh fol [(0,vl (qf qb) a),(1,vl (qf qb) b),(2,.func (.func 128) [] [])] ?_;refine sq ?_;refine sh fol ((0,vl (qf qb) a)::(1,vl (qf qb) b)::(2,.func (.func 128) [] [])::(kBK (!decide ((a.length:Int)=(b.length:Int))))) ?_;refine ihB h (fun o h=>?_) (fun o h=>?_)
 ·refine sh fol kAu ?_;refine Goes.ret ?_;obtain rfl:=si h;exact(gw2 [.bool false] (Ua tB))
 refine Goes.skip ?_;refine sq ?_;refine sh fol [(1,vl (qf qb) b),(2,.func (.func 128) [] []),(15,vl (qf qb) a),(16,.i (a.length:Int)),(17,.i 0)] ?_;refine Goes.block ?_;obtain⟨g,g3,h⟩:=bnd h;refine Goes.imp (Q:=fun x s'=>(x= .exit 0/\(.inl ())=g/\Sub s' (ofG 32 [],[]))\/(x= .ret/\ ∃k,(.inr k)=g/\zo ZT [.tmp 6] (.bool k) .ret s')) ?_ ?_
 ·refine Ud (fun M s=> ∃(c:Int),s=(ofG 32 ((1,vl (qf qb) b)::(2,.func (.func 128) [] [])::(15,vl (qf qb) a)::(kAI (a.length:Int) c)),[])/\qX N a b M c=some g) ?_ (m:=N) ⟨_,rfl,g3⟩;rintro M s ⟨c,rfl,g3⟩
  cases M with
  |zero=>simp only[qX]at g3;cases g3
  |succ M=>
   rw[qX]at g3;refine sh fol [(1,vl (qf qb) b),(2,.func (.func 128) [] []),(15,vl (qf qb) a),(16,.i (a.length:Int)),(17,.i c),(18,.bool (decide (c<(a.length:Int))))] ?_;refine sq ?_;refine ihD g3 (fun p g3=>?_) (fun p g3=>?_)
   ·refine Goes.skip ?_;refine sq (Goes.block ?_);obtain⟨j,d,g3⟩:=bnd g3;refine sq (gr fol [1,2] ((1,vl (qf qb) b)::(2,.func (.func 128) [] [])::(7,.i c)::(8,vl qb j)::(15,vl (qf qb) a)::(kAI (a.length:Int) c)) (ac (iv qkJ (qf qb) d) (ac (lv 0 qoT (qf qb) d rfl) az)) ?_);obtain⟨n,e,g3⟩:=bnd g3;refine sq (gr fol [2,3] ((1,vl (qf qb) b)::(2,.func (.func 128) [] [])::(8,vl qb j)::(9,vl qb n)::(15,vl (qf qb) a)::(kAI (a.length:Int) c)) (ac (iv qkJ (qf qb) e) (ac (lv 0 qoT (qf qb) e rfl) az)) ?_);obtain⟨q,f,g3⟩:=bnd g3;refine sq (gr fol [3] [(1,vl (qf qb) b),(2,.func (.func 128) [] []),(15,vl (qf qb) a),(16,.i (a.length:Int)),(17,.i c),(30,.bool (!q))] (ac (cv (qd6 N j n f)) az) ?_);refine ihB g3 (fun r g3=>?_) (fun r g3=>?_)
    ·refine sh fol kAu ?_;refine Goes.ret ?_;obtain rfl:=si g3;exact Or.inr (⟨rfl,_,rfl,(gw2 [.bool false] (Ua tB))⟩)
    refine Goes.skip ?_;refine gh fol ((1,vl (qf qb) b)::(2,.func (.func 128) [] [])::(15,vl (qf qb) a)::(kAI (a.length:Int) (w64 (c+1)))) ?_;exact⟨M,(ofG 32 ((1,vl (qf qb) b)::(2,.func (.func 128) [] [])::(15,vl (qf qb) a)::(kAI (a.length:Int) (w64 (c+1)))),[]),Nat.lt_succ_self _,(Sub.refl _),_,rfl,g3⟩
   refine Goes.exit ?_;obtain rfl:=si g3;exact Or.inl (⟨rfl,rfl,(Sub.keep [] rfl rfl)⟩)
 rintro x s' (⟨rfl,rfl,hsub⟩|⟨rfl,t,rfl,hret⟩)
 ·try dsimp only at h
  refine Goes.sub hsub ?_;refine sh fol [(6,.bool true)] ?_;refine Goes.ret ?_;obtain rfl:=si h;exact(gw2 [.bool true] (Ua tB))
 try dsimp only at h
 obtain rfl:=si h;exact hret
def yc (N:Nat) (a:Int) (b:List Int) (c:List Int):Option Bool:=
 (qg7 2).bind fun d=>
 (qbQ N a b d).bind fun e=>
 (qg7 2).bind fun f=>
 (qbQ N a c f).bind fun g=>
 (jf N e g).bind fun h=>
 some (!h)
theorem qdG (N:Nat) (a:Int) (b:List Int) (c:List Int) {res:Bool} (h:yc N a b c=some res):qc ZT (.fn 125) [.fptr [.i a] 0,.fptr [vl encI b] 0,.fptr [vl encI c] 0] [] (.bool res) []:=by
 unfold yc at h;refine Ub Tryz.func125 rfl rfl (m:=18) rfl (rs:=[.tmp 3]) rfl (l:=[(0,.fptr [.i a] 0),(1,.fptr [vl encI b] 0),(2,.fptr [vl encI c] 0)]) rfl ?_;refine sh fol [(0,.fptr [.i a] 0),(1,.fptr [vl encI b] 0),(2,.fptr [vl encI c] 0)] ?_;obtain⟨p,d,h⟩:=bnd h;obtain⟨k,e,h⟩:=bnd h;obtain⟨q,f,h⟩:=bnd h;obtain⟨n,g,h⟩:=bnd h;refine sq (gr fol [2,3,6,7] [(4,vl (qf qb) k),(5,vl (qf qb) n)] (ac (cv (qen 2 d)) (ac (cv (qfs N a b p e)) (ac (cv (qen 2 f)) (ac (cv (qfs N a c q g)) az)))) ?_);obtain⟨o,j,h⟩:=bnd h;refine sq (gr fol [2] [(3,.bool (!o))] (ac (hs (.call 127 [vl (qf qb) k,vl (qf qb) n,.func (.func 128) [] []] [] [] [vl (qf qb) k,vl (qf qb) n,.func (.func 128) [] []] (.bool o)) (qd5 (FzL.cons (Ue (qx (qf qb) _ (nl rfl))) (FzL.cons (Ue (qx (qf qb) _ (nl rfl))) (FzL.cons (Fz.func FzL.nil FzL.nil) FzL.nil))) (qcV N k n j) tB)) az) ?_);refine Goes.ret ?_;obtain rfl:=si h;exact(gw2 [.bool (!o)] (Ua tB))
def yT (N:Nat) (n:Int) (a:List Int) (b:List Int) (kind:Str):Option Int:=
 (yR N n a b).bind fun k=>
 if(!decide (k=0))=true then
 some k
 else
 (xx n a b).bind fun _=>
 (qK N [101,120,112,111,110,101,110,116] a b [112,101,114,109] n a b [108,105,110,107] n a b [98,117,114,97,117] n a b [102,111,114,109] n a b kind).bind fun c=>
 if c<0 then
 some 13
 else
 (if c=0 then
 (yg N a b).bind fun l=>
 (qA (!l) 21).bind fun m=>
 some m
 else
 if c=1 then
 (vZ N n a b).bind fun d=>
 (qA (!d) 21).bind fun e=>
 some e
 else
 if c=2 then
 (yh N n a b).bind fun f=>
 (qA (!f) 21).bind fun g=>
 some g
 else
 if c=3 then
 (yc N n a b).bind fun h=>
 (qA (!h) 21).bind fun i=>
 some i
 else
 if c=4 then
 none
 else
 none:Option Int).bind fun j=>
 some j
theorem qfp (N:Nat) (n:Int) (a:List Int) (b:List Int) (kind:Str) {res:Int} (h:yT N n a b kind=some res):qc ZT (.fn 16) [.i n,vl encI a,vl encI b,.str kind] [] (.i res) []:=by
 unfold yT at h;refine Ub Tryz.func16 rfl rfl (m:=36) rfl (rs:=[.tmp 8]) rfl (l:=(kB n a (kBT b [(3,.str kind)]))) rfl ?_;refine sg fol (kB n a (kBT b [(7,.ptr 0 0)])) [.cells [.str kind]] ?_;refine sq ?_;obtain⟨p,q,h⟩:=bnd h;refine sq (gr fol [3] (kB n a (kBT b [(7,.ptr 0 0),(9,.i p)])) (ac (cv (qdf N n a b q)) az) ?_);refine sh fol (kB n a (kBT b [(7,.ptr 0 0),(9,.i p),(17,.bool (!decide (p=0)))])) ?_;refine ihB h (fun I h=>?_) (fun I h=>?_)
 ·refine sh fol (kAk p) ?_;refine Goes.ret ?_;obtain rfl:=si h;exact(gw2 [.i p] (Ua tI))
 refine Goes.skip ?_;obtain⟨_,r,h⟩:=bnd h;refine sq (gq fol [3] [(7,.ptr 0 0),(10,.slice 1 0 5 5 2)] (.cells [.str kind]:: .cells [.str [101,120,112,111,110,101,110,116],.func (.func 121) [] [.ptr 2 0,.ptr 3 0],.str [112,101,114,109],.func (.func 122) [] [.ptr 4 0,.ptr 2 0,.ptr 3 0],.str [108,105,110,107],.func (.func 123) [] [.ptr 4 0,.ptr 2 0,.ptr 3 0],.str [98,117,114,97,117],.func (.func 125) [] [.ptr 4 0,.ptr 2 0,.ptr 3 0],.str [102,111,114,109],.func (.func 131) [] [.ptr 4 0,.ptr 2 0,.ptr 3 0]]::(kAL a b n)) (ac (hs (.callH 54 (.i n::vl encI a::(kAq b)) [.cells [.str kind]] [] (.slice 1 0 5 5 2) (.cells [.str kind]:: .cells [.str [101,120,112,111,110,101,110,116],.func (.func 121) [] [.ptr 2 0,.ptr 3 0],.str [112,101,114,109],.func (.func 122) [] [.ptr 4 0,.ptr 2 0,.ptr 3 0],.str [108,105,110,107],.func (.func 123) [] [.ptr 4 0,.ptr 2 0,.ptr 3 0],.str [98,117,114,97,117],.func (.func 125) [] [.ptr 4 0,.ptr 2 0,.ptr 3 0],.str [102,111,114,109],.func (.func 131) [] [.ptr 4 0,.ptr 2 0,.ptr 3 0]]::(kAL a b n))) (zQ [] [none,some 0,some 1,some 2,some 3] (qeB n a b r) .nil rfl rfl (.old rfl rfl (.new rfl rfl (.cells (rc (.same nS) (rc (.funcL (sn) (rc (.ptr rfl) (rc (.ptr rfl) rn))) (rc (.same nS) (rc (.funcL (sn) (rc (.ptr rfl) (rc (.ptr rfl) (rc (.ptr rfl) rn)))) (rc (.same nS) (rc (.funcL (sn) (rc (.ptr rfl) (rc (.ptr rfl) (rc (.ptr rfl) rn)))) (rc (.same nS) (rc (.funcL (sn) (rc (.ptr rfl) (rc (.ptr rfl) (rc (.ptr rfl) rn)))) (rc (.same nS) (rc (.funcL (sn) (rc (.ptr rfl) (rc (.ptr rfl) (rc (.ptr rfl) rn)))) rn))))))))))) rfl (.new rfl rfl (.cells (rc (.same (qg encI _)) rn)) rfl (.new rfl rfl (.cells (rc (.same (qg encI _)) rn)) rfl (.new rfl rfl (.cells (rc (.same nI) rn)) rfl .nil))))) (rc (.same nI) (rc (.same (qg encI _)) (rc (.same (qg encI _)) rn))) (.slice rfl) rfl)) az) ?_);obtain⟨d,s,h⟩:=bnd h;refine sq (gr fol [2] ((10,.slice 1 0 5 5 2)::(kBP d)) (ac (hs (.call 55 [.slice 1 0 5 5 2,.func (.func 56) [] [.ptr 0 0]] (.cells [.str kind]:: .cells [.str [101,120,112,111,110,101,110,116],.func (.func 121) [] [.ptr 2 0,.ptr 3 0],.str [112,101,114,109],.func (.func 122) [] [.ptr 4 0,.ptr 2 0,.ptr 3 0],.str [108,105,110,107],.func (.func 123) [] [.ptr 4 0,.ptr 2 0,.ptr 3 0],.str [98,117,114,97,117],.func (.func 125) [] [.ptr 4 0,.ptr 2 0,.ptr 3 0],.str [102,111,114,109],.func (.func 131) [] [.ptr 4 0,.ptr 2 0,.ptr 3 0]]::(kAL a b n)) [0,1,2,3,4] [.fslice 5 [.str [101,120,112,111,110,101,110,116],.func (.func 121) [] [.fptr [vl encI a] 0,.fptr [vl encI b] 0],.str [112,101,114,109],.func (.func 122) [] [.fptr [.i n] 0,.fptr [vl encI a] 0,.fptr [vl encI b] 0],.str [108,105,110,107],.func (.func 123) [] [.fptr [.i n] 0,.fptr [vl encI a] 0,.fptr [vl encI b] 0],.str [98,117,114,97,117],.func (.func 125) [] [.fptr [.i n] 0,.fptr [vl encI a] 0,.fptr [vl encI b] 0],.str [102,111,114,109],.func (.func 131) [] [.fptr [.i n] 0,.fptr [vl encI a] 0,.fptr [vl encI b] 0]],.func (.func 56) [] [.fptr [.str kind] 0]] (.i d)) (qal (FzL.cons (Fz.lit rfl rfl (FzL.cons (Ue tS) (FzL.cons (Fz.func FzL.nil (FzL.cons (Fz.ptr rfl rfl (FzL.cons (Ue (qx encI _ (nl rfl))) FzL.nil)) (FzL.cons (Fz.ptr rfl rfl (FzL.cons (Ue (qx encI _ (nl rfl))) FzL.nil)) FzL.nil))) (FzL.cons (Ue tS) (FzL.cons (Fz.func FzL.nil (FzL.cons (Fz.ptr rfl rfl (FzL.cons (Ue tI) FzL.nil)) (FzL.cons (Fz.ptr rfl rfl (FzL.cons (Ue (qx encI _ (nl rfl))) FzL.nil)) (FzL.cons (Fz.ptr rfl rfl (FzL.cons (Ue (qx encI _ (nl rfl))) FzL.nil)) FzL.nil)))) (FzL.cons (Ue tS) (FzL.cons (Fz.func FzL.nil (FzL.cons (Fz.ptr rfl rfl (FzL.cons (Ue tI) FzL.nil)) (FzL.cons (Fz.ptr rfl rfl (FzL.cons (Ue (qx encI _ (nl rfl))) FzL.nil)) (FzL.cons (Fz.ptr rfl rfl (FzL.cons (Ue (qx encI _ (nl rfl))) FzL.nil)) FzL.nil)))) (FzL.cons (Ue tS) (FzL.cons (Fz.func FzL.nil (FzL.cons (Fz.ptr rfl rfl (FzL.cons (Ue tI) FzL.nil)) (FzL.cons (Fz.ptr rfl rfl (FzL.cons (Ue (qx encI _ (nl rfl))) FzL.nil)) (FzL.cons (Fz.ptr rfl rfl (FzL.cons (Ue (qx encI _ (nl rfl))) FzL.nil)) FzL.nil)))) (FzL.cons (Ue tS) (FzL.cons (Fz.func FzL.nil (FzL.cons (Fz.ptr rfl rfl (FzL.cons (Ue tI) FzL.nil)) (FzL.cons (Fz.ptr rfl rfl (FzL.cons (Ue (qx encI _ (nl rfl))) FzL.nil)) (FzL.cons (Fz.ptr rfl rfl (FzL.cons (Ue (qx encI _ (nl rfl))) FzL.nil)) FzL.nil)))) FzL.nil))))))))))) (FzL.cons (Fz.func FzL.nil (FzL.cons (Fz.ptr rfl rfl (FzL.cons (Ue tS) FzL.nil)) FzL.nil)) FzL.nil)) (qb6 N [101,120,112,111,110,101,110,116] a b [112,101,114,109] n a b [108,105,110,107] n a b [98,117,114,97,117] n a b [102,111,114,109] n a b kind s) tI rfl)) az) ?_);refine sq ?_;refine sh fol [(10,.slice 1 0 5 5 2),(11,.i d),(27,.bool (decide (d<0)))] ?_;refine ihD h (fun J h=>?_) (fun J h=>?_)
 ·refine sh fol [(8,.i 13)] ?_;refine Goes.ret ?_;obtain rfl:=si h;exact(gw2 [.i 13] (Ua tI))
 refine Goes.skip ?_;refine sq ?_;obtain⟨t,c,h⟩:=bnd h;refine Goes.cut (s':=(ofG 36 (kAk t),(.cells [.str kind]:: .cells [.str [101,120,112,111,110,101,110,116],.func (.func 121) [] [.ptr 2 0,.ptr 3 0],.str [112,101,114,109],.func (.func 122) [] [.ptr 4 0,.ptr 2 0,.ptr 3 0],.str [108,105,110,107],.func (.func 123) [] [.ptr 4 0,.ptr 2 0,.ptr 3 0],.str [98,117,114,97,117],.func (.func 125) [] [.ptr 4 0,.ptr 2 0,.ptr 3 0],.str [102,111,114,109],.func (.func 131) [] [.ptr 4 0,.ptr 2 0,.ptr 3 0]]::(kAL a b n)))) ?_ ?_
 ·rcases wyD c with⟨F,c⟩|⟨F,c⟩
  ·obtain⟨G,u,c⟩:=bnd c;obtain⟨K,v,c⟩:=bnd c;obtain rfl:=si c;exact tr fol [2,5,7] (kAk K) (ac (hs (.done (.opt (qa ZT 89 (.slice 1 0 5 5 2) (.i d))) (.ptr 1 0)) (ixA (ot F) (by kernel_rfl))) (ac (hs (.call 121 kA0 (.cells [.str kind]:: .cells [.str [101,120,112,111,110,101,110,116],.func (.func 121) [] [.ptr 2 0,.ptr 3 0],.str [112,101,114,109],.func (.func 122) [] [.ptr 4 0,.ptr 2 0,.ptr 3 0],.str [108,105,110,107],.func (.func 123) [] [.ptr 4 0,.ptr 2 0,.ptr 3 0],.str [98,117,114,97,117],.func (.func 125) [] [.ptr 4 0,.ptr 2 0,.ptr 3 0],.str [102,111,114,109],.func (.func 131) [] [.ptr 4 0,.ptr 2 0,.ptr 3 0]]::(kAL a b n)) [2,3] [.fptr [vl encI a] 0,.fptr [vl encI b] 0] (.bool G)) (qal (FzL.cons (Fz.ptr rfl rfl (FzL.cons (Ue (qx encI _ (nl rfl))) FzL.nil)) (FzL.cons (Fz.ptr rfl rfl (FzL.cons (Ue (qx encI _ (nl rfl))) FzL.nil)) FzL.nil)) (qdJ N a b u) tB rfl)) (ac (cv (qo (!G) 21 v)) az)))
  rcases wyD c with⟨H,c⟩|⟨H,c⟩
  ·obtain⟨w,e,c⟩:=bnd c;obtain⟨B,f,c⟩:=bnd c;obtain rfl:=si c;exact tr fol [2,5,7] (kAk B) (ac (hs (.done (.opt (qa ZT 89 (.slice 1 0 5 5 2) (.i d))) (.ptr 1 2)) (ixA (ot H) (by kernel_rfl))) (ac (hs (.call 122 (.ptr 4 0::kA0) (.cells [.str kind]:: .cells [.str [101,120,112,111,110,101,110,116],.func (.func 121) [] [.ptr 2 0,.ptr 3 0],.str [112,101,114,109],.func (.func 122) [] [.ptr 4 0,.ptr 2 0,.ptr 3 0],.str [108,105,110,107],.func (.func 123) [] [.ptr 4 0,.ptr 2 0,.ptr 3 0],.str [98,117,114,97,117],.func (.func 125) [] [.ptr 4 0,.ptr 2 0,.ptr 3 0],.str [102,111,114,109],.func (.func 131) [] [.ptr 4 0,.ptr 2 0,.ptr 3 0]]::(kAL a b n)) [2,3,4] [.fptr [.i n] 0,.fptr [vl encI a] 0,.fptr [vl encI b] 0] (.bool w)) (qal (FzL.cons (Fz.ptr rfl rfl (FzL.cons (Ue tI) FzL.nil)) (FzL.cons (Fz.ptr rfl rfl (FzL.cons (Ue (qx encI _ (nl rfl))) FzL.nil)) (FzL.cons (Fz.ptr rfl rfl (FzL.cons (Ue (qx encI _ (nl rfl))) FzL.nil)) FzL.nil))) (qdI N n a b e) tB rfl)) (ac (cv (qo (!w) 21 f)) az)))
  rcases wyD c with⟨x,c⟩|⟨x,c⟩
  ·obtain⟨y,g,c⟩:=bnd c;obtain⟨C,j,c⟩:=bnd c;obtain rfl:=si c;exact tr fol [2,5,7] (kAk C) (ac (hs (.done (.opt (qa ZT 89 (.slice 1 0 5 5 2) (.i d))) (.ptr 1 4)) (ixA (ot x) (by kernel_rfl))) (ac (hs (.call 123 (.ptr 4 0::kA0) (.cells [.str kind]:: .cells [.str [101,120,112,111,110,101,110,116],.func (.func 121) [] [.ptr 2 0,.ptr 3 0],.str [112,101,114,109],.func (.func 122) [] [.ptr 4 0,.ptr 2 0,.ptr 3 0],.str [108,105,110,107],.func (.func 123) [] [.ptr 4 0,.ptr 2 0,.ptr 3 0],.str [98,117,114,97,117],.func (.func 125) [] [.ptr 4 0,.ptr 2 0,.ptr 3 0],.str [102,111,114,109],.func (.func 131) [] [.ptr 4 0,.ptr 2 0,.ptr 3 0]]::(kAL a b n)) [2,3,4] [.fptr [.i n] 0,.fptr [vl encI a] 0,.fptr [vl encI b] 0] (.bool y)) (qal (FzL.cons (Fz.ptr rfl rfl (FzL.cons (Ue tI) FzL.nil)) (FzL.cons (Fz.ptr rfl rfl (FzL.cons (Ue (qx encI _ (nl rfl))) FzL.nil)) (FzL.cons (Fz.ptr rfl rfl (FzL.cons (Ue (qx encI _ (nl rfl))) FzL.nil)) FzL.nil))) (qdH N n a b g) tB rfl)) (ac (cv (qo (!y) 21 j)) az)))
  rcases wyD c with⟨z,c⟩|⟨z,c⟩
  ·obtain⟨A,k,c⟩:=bnd c;obtain⟨D,o,c⟩:=bnd c;obtain rfl:=si c;exact tr fol [2,5,7] (kAk D) (ac (hs (.done (.opt (qa ZT 89 (.slice 1 0 5 5 2) (.i d))) (.ptr 1 6)) (ixA (ot z) (by kernel_rfl))) (ac (hs (.call 125 (.ptr 4 0::kA0) (.cells [.str kind]:: .cells [.str [101,120,112,111,110,101,110,116],.func (.func 121) [] [.ptr 2 0,.ptr 3 0],.str [112,101,114,109],.func (.func 122) [] [.ptr 4 0,.ptr 2 0,.ptr 3 0],.str [108,105,110,107],.func (.func 123) [] [.ptr 4 0,.ptr 2 0,.ptr 3 0],.str [98,117,114,97,117],.func (.func 125) [] [.ptr 4 0,.ptr 2 0,.ptr 3 0],.str [102,111,114,109],.func (.func 131) [] [.ptr 4 0,.ptr 2 0,.ptr 3 0]]::(kAL a b n)) [2,3,4] [.fptr [.i n] 0,.fptr [vl encI a] 0,.fptr [vl encI b] 0] (.bool A)) (qal (FzL.cons (Fz.ptr rfl rfl (FzL.cons (Ue tI) FzL.nil)) (FzL.cons (Fz.ptr rfl rfl (FzL.cons (Ue (qx encI _ (nl rfl))) FzL.nil)) (FzL.cons (Fz.ptr rfl rfl (FzL.cons (Ue (qx encI _ (nl rfl))) FzL.nil)) FzL.nil))) (qdG N n a b k) tB rfl)) (ac (cv (qo (!A) 21 o)) az)))
  rcases wyD c with⟨E,c⟩|⟨E,c⟩
  ·cases c
  cases c
 refine Goes.ret ?_;obtain rfl:=si h;exact(gw2 [.i t] (Ua tI))
def y9 (a:List Int) (b:List Int):Option (List Int):=
 (app 8 ([]:List Int) a).bind fun c=>
 (app 8 c b).bind fun d=>
 some d
theorem qby (a:List Int) (b:List Int) {res:List Int} (h:y9 a b=some res):qc ZT (.fn 60) (vl encI a::(kAq b)) [] (vl encI res) []:=by
 unfold y9 at h;refine Ub Tryz.func60 rfl rfl (m:=10) rfl (rs:=[.tmp 4]) rfl (l:=(kJ a b [])) rfl ?_;refine sh fol (kJ a b []) ?_;obtain⟨c,d,h⟩:=bnd h;obtain⟨e,f,h⟩:=bnd h;refine sq (gq fol [2,4] [(4,.oslice 2 e.length 1)] (.dead:: .dead::(kA e [])) (ac (hs (.run [0] (jd ZT [22,22] (.slice 0 0 0 0 1) (vl encI a)) [.cells []] (.oslice 1 c.length 1) (.dead::(kA c [])) true) (qao qO (E:=encI) rfl (qro (E:=encI) rfl _) (qtp (E:=encI) rfl rfl rfl d rfl))) (ac (hs (.run [1] (jd ZT [22,22] (.oslice 1 c.length 1) (vl encI b)) (.dead::(kA c [])) (.oslice 2 e.length 1) (.dead:: .dead::(kA e [])) true) (qao qO (E:=encI) rfl (qro (E:=encI) rfl _) (qtu (E:=encI) (l:=c) rfl rfl rfl f rfl))) az)) ?_);refine Goes.ret ?_;obtain rfl:=si h;exact(gw2 [.oslice 2 e.length 1] (Ut (Fz.os (E:=encI) rfl rfl (nl rfl))))
def vz (w:List Int):Nat->(List Int)->Int->Option (List Int)
 |0,_,_=>none
 |K+1,b,a=>
  if a>=0 then
  (idx w a).bind fun c=>
  (app 8 b [w64 (0-c)]).bind fun d=>
  vz w K d (w64 (a-1))
  else
  some b
def qaz (N:Nat) (w:List Int):Option (List Int):=
 (vz w N ([]:List Int) (w64 ((w.length:Int)-1))).bind fun a=>
 some a
theorem qd9 (N:Nat) (w:List Int) {res:List Int} (h:qaz N w=some res):qc ZT (.fn 61) [vl encI w] [] (vl encI res) []:=by
 unfold qaz at h;refine Ub Tryz.func61 rfl rfl (m:=21) rfl (rs:=[.tmp 2]) rfl (l:=(kX w [])) rfl ?_;refine sh fol (kX w []) ?_;refine sh fol (kX w (kBR [])) ?_;refine sq ?_;refine sh fol (kX w (kBR (kAd (w64 ((w.length:Int)-1))))) ?_;refine Goes.block ?_;obtain⟨j,g4,h⟩:=bnd h;refine Goes.imp (Q:=fun x s'=>(x= .exit 0/\ ∃e,e=j/\Sub s' (ofG 21 (kAs e []),(kA e [])))) ?_ ?_
 ·refine Goes.sub (s':=(ofG 21 (kX w ((3,.gslice 0 ([]:List Int).length 1)::(kAd (w64 ((w.length:Int)-1))))),kBG)) (Uc [] [none] rfl rfl (.keep (.same (qg encI _)) (.keep .nil (.keep (.same nI) .nil))) (.fresh .nil)) ?_;refine Ud (fun M s=> ∃(a:List Int) (b:Int),s=(ofG 21 (kX w (kAs a (kAd b))),(kA a []))/\vz w M a b=some j) ?_ (m:=N) ⟨_,_,rfl,g4⟩;rintro M s ⟨a,b,rfl,g4⟩
  cases M with
  |zero=>simp only[vz]at g4;cases g4
  |succ M=>
   rw[vz]at g4;refine sq ?_;refine sh fol (kX w (kAs a [(4,.i b),(9,.bool (decide (b>=0)))])) ?_;refine ihD g4 (fun k g4=>?_) (fun k g4=>?_)
   ·refine Goes.skip ?_;refine sq (Goes.block ?_);obtain⟨g,c,g4⟩:=bnd g4;obtain⟨d,f,g4⟩:=bnd g4;refine gq fol [3,4,7] (kX w ((3,.gslice 2 d.length 1)::(kAd b))) (kAt (w64 (0-g)) (kA d [])) (ac (iv qO encI c) (ac (lv 0 ce3 encI c rfl) (ac (hs (.run [0,1] (jd ZT [22,22] (.gslice 0 a.length 1) (.slice 1 0 1 1 1)) (kA a [.cells [.i (w64 (0-g))]]) (.gslice 2 d.length 1) (kAt (w64 (0-g)) (kA d [])) true) (qao qO (E:=encI) rfl (qee (E:=encI) (ys:=[w64 (0-g)]) rfl rfl rfl rfl) (qfm (E:=encI) (l:=a) rfl rfl rfl f rfl))) az))) ?_;refine gh fol (kX w ((3,.gslice 2 d.length 1)::(kAd (w64 (b-1))))) ?_;exact⟨M,(ofG 21 (kX w (kAs d (kAd (w64 (b-1))))),(kA d [])),Nat.lt_succ_self _,(Uc [] [some 2] rfl rfl (.keep (.same (qg encI _)) (.keep (.gslice rfl) (.keep (.same nI) .nil))) (.ks .nil)),_,_,rfl,g4⟩
   refine Goes.exit ?_;obtain rfl:=si g4;exact⟨rfl,_,rfl,(Sub.keep [3] rfl rfl)⟩
 rintro x s' ⟨rfl,e,rfl,hsub⟩;refine Goes.sub hsub ?_;refine sh fol [(2,.gslice 0 e.length 1)] ?_;refine Goes.ret ?_;obtain rfl:=si h;exact(gw2 [.gslice 0 e.length 1] (Ut (Fz.gs (E:=encI) rfl rfl (nl rfl))))
def jo (a:List Int):Nat->(Option (List Int))->Int->Option (Option (List Int))
 |0,_,_=>none
 |K+1,q,b=>
  if b<(a.length:Int)then
  ((((match q with
  |none=>
  if 0>0 then
  (idx ([]:List Int) (w64 (0-1))).bind fun g=>
  (idx a b).bind fun h=>
  some ((none:Option (List Int)),decide (g=(w64 (0-h))))
  else
  some ((none:Option (List Int)),false)
  |some c=>
  if(c.length:Int)>0 then
  (idx c (w64 ((c.length:Int)-1))).bind fun i=>
  (idx a b).bind fun j=>
  some ((some c),decide (i=(w64 (0-j))))
  else
  some ((some c),false)):Option ((Option (List Int))×Bool)).bind fun(d,k)=>
  if k=true then
  ((match d with
  |none=>
  (cut ([]:List Int) 0 (w64 (0-1))).bind fun r=>
  some (none:Option (List Int))
  |some e=>
  (cut e 0 (w64 ((e.length:Int)-1))).bind fun l=>
  some (some l)):Option (Option (List Int))).bind fun m=>
  some m
  else
  ((idx a b).bind fun f=>
  (match d with
  |none=>
  some ([f]:List Int)
  |some n=>
  (app 8 n [f]).bind fun o=>
  some o):Option (List Int)).bind fun p=>
  some (some p):Option (Option (List Int)))).bind fun s=>
  jo a K s (w64 (b+1))
  else
  some q
def yS (N:Nat) (a:List Int):Option (List Int):=
 (jo a N (none:Option (List Int)) 0).bind fun b=>
 some (hof b)
theorem qdA (N:Nat) (b:List Int) {X:List Int} (h:yS N b=some X):qc ZT (.fn 59) [vl encI b] [] (vl encI X) []:=by
 unfold yS at h;refine Um Tryz.func59 rfl rfl (m:=41) rfl (rs:=[.tmp 2]) rfl (l:=(kX b [])) rfl ?_;intro B hB;refine sh fol (kX b []) ?_;refine sh fol (kX b (kBR [])) ?_;refine sq ?_;refine sh fol (kX b (kBR kBV)) ?_;refine Goes.block ?_;obtain⟨Y,g5,h⟩:=bnd h;refine Goes.imp (Q:=fun x s'=>(x= .exit 0/\ ∃G,G=Y/\Sub s' (ofG 41 [(3,hsl 0 1 G)],(kBD G)))) ?_ ?_
 ·refine Goes.sub (s':=(ofG 41 (kX b ((3,hsl 0 1 (none:Option (List Int)))::kBV)),[.cells ((hof (none:Option (List Int))).flatMap encI.c)])) (Uc [] [none] (by rw[hB];rfl) rfl (.keep (.same (qg encI _)) (.keep jN.hs0 (.keep (.same nI) .nil))) (.fresh .nil)) ?_;refine Ud (fun M s=> ∃(H:Option (List Int)) (f:Int),s=(ofG 41 (kX b ((3,hsl 0 1 H)::(kAd f))),(kBD H))/\jo b M H f=some Y) ?_ (m:=N) ⟨_,_,rfl,g5⟩;rintro M s ⟨H,f,rfl,g5⟩
  cases M with
  |zero=>simp only[jo]at g5;cases g5
  |succ M=>
   unfold jo at g5;refine sq ?_;refine sh fol (kX b ((3,hsl 0 1 H)::(4,.i f)::(kBb (decide (f<(b.length:Int)))))) ?_;refine ihD g5 (fun Z g5=>?_) (fun Z g5=>?_)
   ·refine Goes.skip ?_;refine sq ?_;obtain⟨r8,g8,g5⟩:=bnd g5;refine Goes.imp (Q:=fun x s'=>(x= .normal/\ ∃y,y=r8/\Sub s' (ofG 41 (kX b ((3,hsl 0 1 y)::(kAd f))),(kBD y)))) ?_ ?_
    ·refine Goes.block ?_;refine sq ?_;obtain⟨⟨u,L⟩,a,g8⟩:=bnd g8;refine Goes.cutS (s':=(ofG 41 (kX b [(3,hsl 0 1 u),(4,.i f),(27,.bool L)]),(kBD u))) ?_ ?_
     ·rcases H with _|k
      ·try dsimp only at a
       rcases wyD a with⟨z,a⟩|⟨z,a⟩
       ·obtain⟨O,n,a⟩:=bnd a;obtain⟨P,o,a⟩:=bnd a;simp only[ZI,ZP]at a;obtain⟨rfl,rfl⟩:=a;exact jQ.sub (jQ.rq fol [3,8,9,12,13] (kX b (kBR [(4,.i f),(27,.bool (decide (O=(w64 (0-P)))))])) [.cells ((hof (none:Option (List Int))).flatMap encI.c)] (ac (gw z) (ac (hs (.done (.opt (qa ZT 22 (.nilslice) (.i (w64 (0-1))))) (.fptr (([]:List Int).flatMap encI.c) ((w64 (0-1):Int).toNat*1+0))) (qt5 n)) (ac (lv 0 ce3 encI n rfl) (ac (iv qO encI o) (ac (lv 0 ce3 encI o rfl) az)))))) (Uc [] [none] (by rw[hB];rfl) rfl (.keep (.same (qg encI _)) (.keep jN.hs0 (.keep (.same nI) (.keep (.same nB) .nil)))) (.fresh .nil))
       simp only[ZI,ZP]at a;obtain⟨rfl,rfl⟩:=a;exact jQ.sub (jQ.rq fol [3] (kX b (kBR [(4,.i f),(27,.bool false)])) [.cells ((hof (none:Option (List Int))).flatMap encI.c)] (ac (gw z) az)) (Uc [] [none] (by rw[hB];rfl) rfl (.keep (.same (qg encI _)) (.keep jN.hs0 (.keep (.same nI) (.keep (.same nB) .nil)))) (.fresh .nil))
      try dsimp only at a
      rcases wyD a with⟨A,a⟩|⟨A,a⟩
      ·obtain⟨I,p,a⟩:=bnd a;obtain⟨U,q,a⟩:=bnd a;simp only[ZI,ZP]at a;obtain⟨rfl,rfl⟩:=a;exact jQ.sub (jQ.rq fol [3,8,9,12,13] (kX b [(3,.oslice 0 k.length 1),(4,.i f),(27,.bool (decide (I=(w64 (0-U)))))]) (kA k []) (ac (gw A) (ac (hs (.done (.opt (qa ZT 22 (.oslice 0 k.length 1) (.i (w64 ((k.length:Int)-1))))) (.ptr 0 ((w64 ((k.length:Int)-1):Int).toNat*1+0))) (ix_os qO p)) (ac (hs (.run [0] (qQ ZT 3 (.ptr 0 ((w64 ((k.length:Int)-1):Int).toNat*1+0))) (kA k []) (.i I) (kA k []) false) (qa6 ce3 (E:=encI) (l:=k) rfl rfl p (nl rfl) rfl)) (ac (iv qO encI q) (ac (lv 0 ce3 encI q rfl) az)))))) (Uc [] [some 0] (by rw[hB];rfl) rfl (.keep (.same (qg encI _)) (.keep (jN.hs1 rfl) (.keep (.same nI) (.keep (.same nB) .nil)))) (.ks .nil))
      simp only[ZI,ZP]at a;obtain⟨rfl,rfl⟩:=a;exact jQ.sub (jQ.rq fol [3] (kX b [(3,.oslice 0 k.length 1),(4,.i f),(27,.bool false)]) (kA k []) (ac (gw A) az)) (Uc [] [some 0] (by rw[hB];rfl) rfl (.keep (.same (qg encI _)) (.keep (jN.hs1 rfl) (.keep (.same nI) (.keep (.same nB) .nil)))) (.ks .nil))
     intro _ hsub
     try dsimp only at g8
     refine Goes.sub hsub ?_;refine ihB g8 (fun V g8=>?_) (fun V g8=>?_)
     ·obtain⟨J,d,g8⟩:=bnd g8;refine Goes.cutS (s':=(ofG 41 (kX b ((3,hsl 0 1 J)::(kAd f))),(kBD J))) ?_ ?_
      ·rcases u with _|v
       ·try dsimp only at d
        obtain⟨s21,C,d⟩:=bnd d;obtain rfl:=si d;exact jQ.sub (jQ.rq fol [4] (kX b (kBR (kAd f))) [.cells ((hof (none:Option (List Int))).flatMap encI.c)] (ac (hs (.done (.opt (zD ZT 22 .nilslice none (some (.i (w64 (0-1)))) none)) .nilslice) (quy (α:=Int) qO none (some (w64 (0-1))) C)) az)) (Uc [] [none] (by rw[hB];rfl) rfl (.keep (.same (qg encI _)) (.keep jN.hs0 (.keep (.same nI) .nil))) (.fresh .nil))
       try dsimp only at d
       obtain⟨r,t,d⟩:=bnd d;obtain rfl:=si d;exact jQ.sub (jQ.rq fol [4] (kX b ((3,.oslice 0 r.length 1)::(kAd f))) (kA v []) (ac (hs (.done (.opt (zD ZT 22 (.oslice 0 v.length 1) none (some (.i (w64 ((v.length:Int)-1)))) none)) (.oslice 0 r.length 1)) (sh_os qO t)) az)) ((show Sub (ofG 41 (kX b ((3,.oslice 0 r.length 1)::(kAd f))),(kA v [])) (ofG 41 (kX b ((3,.oslice 0 r.length 1)::(kAd f))),(kA r []))from(Uc [] [some 0] (by rw[hB];rfl) rfl (.keep (.same (qg encI _)) (.keep (.oslice rfl) (.keep (.same nI) .nil))) (.kb rfl (jm.cut t) .nil))).trans (Uc [] [some 0] (by rw[hB];rfl) rfl (.keep (.same (qg encI _)) (.keep (jN.hs1 rfl) (.keep (.same nI) .nil))) (.ks .nil)))
      intro _ hsub;obtain rfl:=si g8;exact⟨rfl,_,rfl,(hsub.trans (Sub.refl _))⟩
     obtain⟨K,e,g8⟩:=bnd g8;refine Goes.cutS (s':=(ofG 41 (kX b ((3,.oslice 0 K.length 1)::(kAd f))),(kA K []))) ?_ ?_
     ·obtain⟨j,g,e⟩:=bnd e;rcases u with _|D
      ·try dsimp only at e
       obtain rfl:=si e;exact jQ.sub (jQ.rq fol [3,4] (kX b ((3,.oslice 2 1 1)::(kAd f))) [.cells ((hof (none:Option (List Int))).flatMap encI.c),.cells [.i j],.cells [.i j]] (ac (iv qO encI g) (ac (lv 0 ce3 encI g rfl) az))) (Uc [] [some 2] (by rw[hB];rfl) rfl (.keep (.same (qg encI _)) (.keep (jN.osliceE rfl rfl) (.keep (.same nI) .nil))) (.ks .nil))
      try dsimp only at e
      obtain⟨w,F,e⟩:=bnd e;obtain rfl:=si e;exact jQ.sub (jQ.rq fol [3,4,6] (kX b ((3,.oslice 2 w.length 1)::(kAd f))) (kAt j (kA w [])) (ac (iv qO encI g) (ac (lv 0 ce3 encI g rfl) (ac (hs (.run [0,1] (jd ZT [22,22] (.oslice 0 D.length 1) (.slice 1 0 1 1 1)) (kA D [.cells [.i j]]) (.oslice 2 w.length 1) (kAt j (kA w [])) true) (qao qO (E:=encI) rfl (qee (E:=encI) (ys:=[j]) rfl rfl rfl rfl) (qtu (E:=encI) (l:=D) rfl rfl rfl F rfl))) az)))) (Uc [] [some 2] (by rw[hB];rfl) rfl (.keep (.same (qg encI _)) (.keep (.oslice rfl) (.keep (.same nI) .nil))) (.ks .nil))
     intro _ hsub;obtain rfl:=si g8;exact⟨rfl,_,rfl,(hsub.trans (Uc [] [some 0] (by rw[hB];rfl) rfl (.keep (.same (qg encI _)) (.keep (jN.hs1 rfl) (.keep (.same nI) .nil))) (.ks .nil)))⟩
    rintro x s' ⟨rfl,y,rfl,hsub⟩;refine Goes.sub hsub ?_;refine gh fol (kX b ((3,hsl 0 1 y)::(kAd (w64 (f+1))))) ?_;exact⟨M,(ofG 41 (kX b ((3,hsl 0 1 y)::(kAd (w64 (f+1))))),(kBD y)),Nat.lt_succ_self _,(Sub.refl _),_,_,rfl,g5⟩
   refine Goes.exit ?_;obtain rfl:=si g5;exact⟨rfl,_,rfl,(Sub.keep [3] rfl rfl)⟩
 rintro x s' ⟨rfl,G,rfl,hsub⟩;refine Goes.sub hsub ?_;refine sh fol [(2,hsl 0 1 G)] ?_;refine Goes.ret ?_;obtain rfl:=si h;exact(gh2 [hsl 0 1 G] (Uc [0] [] (by rw[hB];rfl) rfl (.keep (jN.hsL (E:=encI) rfl rfl (nl rfl)) .nil) .nil))
def xh (n:Int):Nat->(List (List Int))->Int->Option (List (List Int))
 |0,_,_=>none
 |K+1,b,a=>
  if a<=n then
  (app 24 b [([a]:List Int)]).bind fun c=>
  xh n K c (w64 (a+1))
  else
  some b
def xn (N:Nat) (w:List Int):Nat->(List (List Int))->Int->Option (List (List Int))
 |0,_,_=>none
 |K+1,d,h=>
  if h<(w.length:Int)then
  (((idx w h).bind fun e=>
  (xu e).bind fun a=>
  (idx d (w64 (a-1))).bind fun b=>
  (idx d a).bind fun c=>
  if e>0 then
  (y9 b c).bind fun i=>
  (qaz N b).bind fun j=>
  (y9 i j).bind fun k=>
  (yS N k).bind fun l=>
  (put d (w64 (a-1)) l).bind fun f=>
  (idx f a).bind fun t=>
  (put f a b).bind fun m=>
  some m
  else
  (qaz N c).bind fun n=>
  (y9 n b).bind fun o=>
  (y9 o c).bind fun p=>
  (yS N p).bind fun q=>
  (put d (w64 (a-1)) c).bind fun g=>
  (idx g a).bind fun u=>
  (put g a q).bind fun r=>
  some r:Option (List (List Int)))).bind fun s=>
  xn N w K s (w64 (h+1))
  else
  some d
def qaV (N:Nat) (n:Int) (w:List Int):Option (List (List Int)):=
 (xh n N ([]:List (List Int)) 1).bind fun a=>
 (xn N w N a 0).bind fun b=>
 some b
theorem qgo (N:Nat) (n:Int) (w:List Int) {res:List (List Int)} (h:qaV N n w=some res):qc ZT (.fn 18) (.i n::(kAq w)) [] (vl (qf encI) res) []:=by
 unfold qaV at h;refine Ub Tryz.func18 rfl rfl (m:=77) rfl (rs:=[.tmp 4]) rfl (l:=(kB n w [])) rfl ?_;refine sh fol (kB n w []) ?_;refine sh fol (kB n w [(5,.nilslice)]) ?_;refine sq ?_;refine sh fol (kB n w [(5,.nilslice),(6,.i 1)]) ?_;refine Goes.block ?_;obtain⟨r4,g4,h⟩:=bnd h;refine Goes.imp (Q:=fun x s'=>(x= .exit 0/\ ∃l3,l3=r4/\Sub s' (ofG 77 (kH w l3 []),[.cells (l3.flatMap (qf encI).c)]))) ?_ ?_
 ·refine Goes.sub (s':=(ofG 77 (kB n w [(5,.gslice 0 ([]:List (List Int)).length 1),(6,.i 1)]),[.cells (([]:List (List Int)).flatMap (qf encI).c)])) (Uc [] [none] rfl rfl (.keep (.same nI) (.keep (.same (qg encI _)) (.keep .nil (.keep (.same nI) .nil)))) (.fresh .nil)) ?_;refine Ud (fun M s=> ∃(q:List (List Int)) (o:Int),s=(ofG 77 (kB n w (kAb q [(6,.i o)])),[.cells (q.flatMap (qf encI).c)])/\xh n M q o=some r4) ?_ (m:=N) ⟨_,_,rfl,g4⟩;rintro M s ⟨q,o,rfl,g4⟩
  cases M with
  |zero=>simp only[xh]at g4;cases g4
  |succ M=>
   rw[xh]at g4;refine sq ?_;refine sh fol (kB n w (kAb q ((6,.i o)::(kBL (decide (o<=n)))))) ?_;refine ihD g4 (fun c5 g4=>?_) (fun c5 g4=>?_)
   ·refine Goes.skip ?_;refine sq (Goes.block ?_);obtain⟨B,C,g4⟩:=bnd g4;refine gq fol [4] (kB n w (kBE B o)) (kAt o [.cells [.slice 1 0 1 1 1],.cells ((q).flatMap ((qf encI)).c++[.slice 1 0 1 1 1])]) (ac (hs (.run [0,2] (jd ZT [33,33] (.gslice 0 q.length 1) (.slice 2 0 1 1 1)) [.cells (q.flatMap (qf encI).c),.cells [.i o],.cells [.slice 1 0 1 1 1]] (.gslice 3 B.length 1) (kAt o [.cells [.slice 1 0 1 1 1],.cells ((q).flatMap ((qf encI)).c++[.slice 1 0 1 1 1])]) true) (qsT qd4 (E:=(qf encI)) (l:=q) (x:=([o]:List Int)) rfl rfl rfl rfl rfl rfl rfl C rfl)) az) ?_;refine Goes.sub (show Sub (ofG 77 (kB n w (kBE B o)),(kAt o [.cells [.slice 1 0 1 1 1],.cells ((q).flatMap ((qf encI)).c++[.slice 1 0 1 1 1])])) (ofG 77 (kB n w (kAb B [(6,.i o)])),[.cells (B.flatMap (qf encI).c)])from(Uc [1] [some 3] rfl rfl (.keep (.same nI) (.keep (.same (qg encI _)) (.keep (.gslice rfl) (.keep (.same nI) .nil)))) (.kb rfl (jm.my (E:=(qf encI)) C (rc (.frz (Fz.lit rfl rfl (Uj (AllST.cons tI AllST.nil))) (qg encI _)) rn)) .nil))) ?_;refine gh fol (kB n w (kAb B [(6,.i (w64 (o+1)))])) ?_;exact⟨M,(ofG 77 (kB n w (kAb B [(6,.i (w64 (o+1)))])),[.cells (B.flatMap (qf encI).c)]),Nat.lt_succ_self _,(Sub.refl _),_,_,rfl,g4⟩
   refine Goes.exit ?_;obtain rfl:=si g4;exact⟨rfl,_,rfl,(Sub.keep [1,5] rfl rfl)⟩
 rintro x s' ⟨rfl,l3,rfl,hsub⟩;refine Goes.sub hsub ?_;refine sq ?_;refine sh fol (kH w l3 [(7,.i 0)]) ?_;refine Goes.block ?_;obtain⟨r10,g10,h⟩:=bnd h;refine Goes.imp (Q:=fun x s'=>(x= .exit 2/\ ∃l9,l9=r10/\Sub s' (ofG 77 (kAb l9 []),[.cells (l9.flatMap (qf encI).c)]))) ?_ ?_
 ·refine Ud (fun M s=> ∃(b:List (List Int)) (g:Int),s=(ofG 77 (kH w b [(7,.i g)]),[.cells (b.flatMap (qf encI).c)])/\xn N w M b g=some r10) ?_ (m:=N) ⟨_,_,rfl,g10⟩;rintro M s ⟨b,g,rfl,g10⟩
  cases M with
  |zero=>simp only[xn]at g10;cases g10
  |succ M=>
   rw[xn]at g10;refine sq ?_;refine sh fol (kH w b [(7,.i g),(24,.bool (decide (g<(w.length:Int))))]) ?_;refine ihD g10 (fun c11 g10=>?_) (fun c11 g10=>?_)
   ·refine Goes.skip ?_;refine sq ?_;obtain⟨r13,g13,g10⟩:=bnd g10;refine Goes.imp (Q:=fun x s'=>(x= .normal/\ ∃p,p=r13/\Sub s' (ofG 77 (kH w p [(7,.i g)]),[.cells (p.flatMap (qf encI).c)]))) ?_ ?_
    ·refine Goes.block ?_;obtain⟨x14,e,g13⟩:=bnd g13;obtain⟨a,D,g13⟩:=bnd g13;refine sq (gr fol [2,3,4] (kH w b ((7,.i g)::(kAk a))) (ac (iv qO encI e) (ac (lv 0 ce3 encI e rfl) (ac (cv (qcw x14 D)) az))) ?_);obtain⟨j,d,g13⟩:=bnd g13;obtain⟨k,f,g13⟩:=bnd g13;refine sq (gr fol [3,4,7,8] (kH w b [(7,.i g),(8,.i a),(9,vl encI j),(10,vl encI k)]) (ac (hs (.done (.opt (qa ZT 33 (.gslice 0 b.length 1) (.i (w64 (a-1))))) (.ptr 0 ((w64 (a-1):Int).toNat*1+0))) (zh qd4 d)) (ac (hs (.run [0] (qQ ZT 22 (.ptr 0 ((w64 (a-1):Int).toNat*1+0))) [.cells (b.flatMap (qf encI).c)] (vl encI j) [.cells (b.flatMap (qf encI).c)] false) (qa6 qij (E:=(qf encI)) (l:=b) rfl rfl d (nl rfl) rfl)) (ac (hs (.done (.opt (qa ZT 33 (.gslice 0 b.length 1) (.i a))) (.ptr 0 ((a:Int).toNat*1+0))) (zh qd4 f)) (ac (hs (.run [0] (qQ ZT 22 (.ptr 0 ((a:Int).toNat*1+0))) [.cells (b.flatMap (qf encI).c)] (vl encI k) [.cells (b.flatMap (qf encI).c)] false) (qa6 qij (E:=(qf encI)) (l:=b) rfl rfl f (nl rfl) rfl)) az)))) ?_);refine sq (gr fol [2,3] (kH w b [(7,.i g),(8,.i a),(9,vl encI j),(10,vl encI k),(45,.bool (decide (x14>0)))]) (ac (iv qO encI e) (ac (lv 0 ce3 encI e rfl) az)) ?_);refine ihD g13 (fun c18 g13=>?_) (fun c18 g13=>?_)
     ·obtain⟨r19,F,g13⟩:=bnd g13;obtain⟨r20,G,g13⟩:=bnd g13;obtain⟨r21,H,g13⟩:=bnd g13;obtain⟨I,J,g13⟩:=bnd g13;obtain⟨K,r,g13⟩:=bnd g13;obtain⟨x25,L,g13⟩:=bnd g13;obtain⟨t,u,g13⟩:=bnd g13;refine gq fol [7,9,10,11,13,14,15,16] (kH w b [(7,.i g)]) [.cells (t.flatMap (qf encI).c)] (ac (cv (qby j k F)) (ac (cv (qd9 N j G)) (ac (cv (qby r19 r20 H)) (ac (hs (.callH 59 [vl encI r21] [.cells (b.flatMap (qf encI).c)] [] (vl encI I) [.cells (b.flatMap (qf encI).c)]) (zQ [] [none] (qdA N r21 J) .nil rfl rfl (.old rfl rfl .nil) (rc (.same (qg encI _)) rn) (.same (qg encI _)) rfl)) (ac (hs (.done (.opt (qa ZT 33 (.gslice 0 b.length 1) (.i (w64 (a-1))))) (.ptr 0 ((w64 (a-1):Int).toNat*1+0))) (zh qd4 d)) (ac (hs (.run [0] (qC ZT 22 (.ptr 0 ((w64 (a-1):Int).toNat*1+0)) (vl encI I)) [.cells (b.flatMap (qf encI).c)] .undef [.cells (K.flatMap (qf encI).c)] true) (jX (E:=(qf encI)) (l:=b) (y:=I) rfl (show _=some 1 by kernel_rfl) rfl d rfl rfl rfl rfl rfl r rfl)) (ac (hs (.done (.opt (qa ZT 33 (.gslice 0 b.length 1) (.i a))) (.ptr 0 ((a:Int).toNat*1+0))) (zh qd4 f)) (ac (hs (.run [0] (qC ZT 22 (.ptr 0 ((a:Int).toNat*1+0)) (vl encI j)) [.cells (K.flatMap (qf encI).c)] .undef [.cells (t.flatMap (qf encI).c)] true) (jX (E:=(qf encI)) (l:=K) (y:=j) rfl (show _=some 1 by kernel_rfl) rfl L rfl rfl rfl rfl rfl u rfl)) az)))))))) ?_;obtain rfl:=si g13;exact⟨rfl,_,rfl,((show Sub (ofG 77 (kH w b [(7,.i g)]),[.cells (t.flatMap (qf encI).c)]) (ofG 77 (kH w t [(7,.i g)]),[.cells (t.flatMap (qf encI).c)])from(Uc [] [some 0] rfl rfl (.keep (.same (qg encI _)) (.keep (.gsliceE rfl ((qZ r).trans (qZ u))) (.keep (.same nI) .nil))) (.ks .nil))).trans (Sub.refl _))⟩
     obtain⟨r27,O,g13⟩:=bnd g13;obtain⟨r28,P,g13⟩:=bnd g13;obtain⟨r29,U,g13⟩:=bnd g13;obtain⟨V,X,g13⟩:=bnd g13;obtain⟨Y,v,g13⟩:=bnd g13;obtain⟨x33,Z,g13⟩:=bnd g13;obtain⟨z,A,g13⟩:=bnd g13;refine gq fol [7,9,11,12,13,14,15,16] (kH w b [(7,.i g)]) [.cells (z.flatMap (qf encI).c)] (ac (cv (qd9 N k O)) (ac (cv (qby r27 j P)) (ac (cv (qby r28 k U)) (ac (hs (.callH 59 [vl encI r29] [.cells (b.flatMap (qf encI).c)] [] (vl encI V) [.cells (b.flatMap (qf encI).c)]) (zQ [] [none] (qdA N r29 X) .nil rfl rfl (.old rfl rfl .nil) (rc (.same (qg encI _)) rn) (.same (qg encI _)) rfl)) (ac (hs (.done (.opt (qa ZT 33 (.gslice 0 b.length 1) (.i (w64 (a-1))))) (.ptr 0 ((w64 (a-1):Int).toNat*1+0))) (zh qd4 d)) (ac (hs (.run [0] (qC ZT 22 (.ptr 0 ((w64 (a-1):Int).toNat*1+0)) (vl encI k)) [.cells (b.flatMap (qf encI).c)] .undef [.cells (Y.flatMap (qf encI).c)] true) (jX (E:=(qf encI)) (l:=b) (y:=k) rfl (show _=some 1 by kernel_rfl) rfl d rfl rfl rfl rfl rfl v rfl)) (ac (hs (.done (.opt (qa ZT 33 (.gslice 0 b.length 1) (.i a))) (.ptr 0 ((a:Int).toNat*1+0))) (zh qd4 f)) (ac (hs (.run [0] (qC ZT 22 (.ptr 0 ((a:Int).toNat*1+0)) (vl encI V)) [.cells (Y.flatMap (qf encI).c)] .undef [.cells (z.flatMap (qf encI).c)] true) (jX (E:=(qf encI)) (l:=Y) (y:=V) rfl (show _=some 1 by kernel_rfl) rfl Z rfl rfl rfl rfl rfl A rfl)) az)))))))) ?_;obtain rfl:=si g13;exact⟨rfl,_,rfl,((show Sub (ofG 77 (kH w b [(7,.i g)]),[.cells (z.flatMap (qf encI).c)]) (ofG 77 (kH w z [(7,.i g)]),[.cells (z.flatMap (qf encI).c)])from(Uc [] [some 0] rfl rfl (.keep (.same (qg encI _)) (.keep (.gsliceE rfl ((qZ v).trans (qZ A))) (.keep (.same nI) .nil))) (.ks .nil))).trans (Sub.refl _))⟩
    rintro x s' ⟨rfl,p,rfl,hsub⟩;refine Goes.sub hsub ?_;refine gh fol (kH w p [(7,.i (w64 (g+1)))]) ?_;exact⟨M,(ofG 77 (kH w p [(7,.i (w64 (g+1)))]),[.cells (p.flatMap (qf encI).c)]),Nat.lt_succ_self _,(Sub.refl _),_,_,rfl,g10⟩
   refine Goes.exit ?_;obtain rfl:=si g10;exact⟨rfl,_,rfl,(Sub.keep [5] rfl rfl)⟩
 rintro x s' ⟨rfl,l9,rfl,hsub⟩;refine Goes.sub hsub ?_;refine sh fol [(4,.gslice 0 l9.length 1)] ?_;refine Goes.ret ?_;obtain rfl:=si h;exact(gw2 [.gslice 0 l9.length 1] (Ut (Fz.gs (E:=(qf encI)) rfl rfl (nl rfl))))
def xA (N:Nat) (n:Int) (a:List Int) (b:List Int) (l:List zy):Option Int:=
 (yR N n a b).bind fun c=>
 if(!decide (c=0))=true then
 some c
 else
 (qaT N n a l).bind fun d=>
 (jr N d.1 b).bind fun e=>
 (qA (!e) 21).bind fun f=>
 (ku N ([d.2,f]:List Int)).bind fun g=>
 some g
theorem qgg (N:Nat) (n:Int) (a:List Int) (b:List Int) (l:List zy) {res:Int} (h:xA N n a b l=some res):qc ZT (.fn 20) [.i n,vl encI a,vl encI b,vl qG l] [] (.i res) []:=by
 unfold xA at h;refine Ub Tryz.func20 rfl rfl (m:=34) rfl (rs:=[.tmp 8]) rfl (l:=(kB n a (kBT b [(3,vl qG l)]))) rfl ?_;refine sh fol (kB n a (kBT b [(3,vl qG l)])) ?_;refine sq ?_;obtain⟨d,e,h⟩:=bnd h;refine sq (gr fol [3] (kB n a (kBT b [(3,vl qG l),(9,.i d)])) (ac (cv (qdf N n a b e)) az) ?_);refine sh fol (kB n a (kBT b [(3,vl qG l),(9,.i d),(17,.bool (!decide (d=0)))])) ?_;refine ihB h (fun q h=>?_) (fun q h=>?_)
 ·refine sh fol (kAk d) ?_;refine Goes.ret ?_;obtain rfl:=si h;exact(gw2 [.i d] (Ua tI))
 refine Goes.skip ?_;obtain⟨c,f,h⟩:=bnd h;refine sq (gr fol [3] (kBT b (kA5 c.1 c.2 [])) (ac (cv (qfk N n a l f)) az) ?_);obtain⟨r,g,h⟩:=bnd h;obtain⟨o,j,h⟩:=bnd h;obtain⟨p,k,h⟩:=bnd h;refine sq (gq fol [3,5,7] (kAk p) (kAE c.2 o []) (ac (cv (qaC N c.1 b g)) (ac (cv (qo (!r) 21 j)) (ac (hs (.call 62 [.slice 0 0 2 2 1] (kAE c.2 o []) [0] [vl encI ([c.2,o]:List Int)] (.i p)) (qal (FzL.cons (Fz.lit rfl rfl (Uj (AllST.cons tI (AllST.cons tI AllST.nil)))) FzL.nil) (zm N ([c.2,o]:List Int) k) tI rfl)) az))) ?_);refine Goes.ret ?_;obtain rfl:=si h;exact(gw2 [.i p] (Ua tI))
end Go.Av
