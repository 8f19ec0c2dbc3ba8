/-
  Walks of functions: what each computes, as a plain function.
-/
import Derived.Test.YtbpkolibdibmeaaGreatQGenAc3
noncomputable section
namespace Go.Av
open Go.Proofs Go.RowKit
set_option linter.unusedSectionVars false
set_option linter.unusedVariables false
set_option linter.unusedSimpArgs false
set_option maxRecDepth 100000
def jH:Nat->(List qo)->Int->Option (List qo)
 |0,_,_=>none
 |K+1,a,c=>
  if c<(a.length:Int)then
  (at' a c).bind fun b=>
  (some (qh4 a b (a.take b))).bind fun d=>
  jH K d (w64 (c+((Nat.min (a.take b).length (a.length-b):Nat):Int)))
  else
  some a
def xz (N:Nat) (a:Int) (b:List Int) (c:Int) (d:List Int) (e:Int):Option (List qo):=
 ((if e<0 then
 none
 else
 some ():Option Unit)).bind fun _=>
 (bits_Mul (IntKind.wrap .u64 1) (IntKind.wrap .u64 e)).bind fun g=>
 (if g.1>0 then
 some true
 else
 some (decide (g.2>9223372036854775807)):Option Bool).bind fun j=>
 ((if j=true then
 none
 else
 some ():Option Unit)).bind fun _=>
 (mk 64 (w64 g.2) (⟨(⟨0,[]⟩:ko),(⟨0,[]⟩:ko)⟩:qo)).bind fun f=>
 (some (cpy f ([(⟨(⟨a,b⟩:ko),(⟨c,d⟩:ko)⟩:qo)]:List qo))).bind fun h=>
 (jH N h ((Nat.min ([(⟨(⟨a,b⟩:ko),(⟨c,d⟩:ko)⟩:qo)]:List qo).length f.length:Nat):Int)).bind fun i=>
 some i
theorem qdL (N:Nat) (b:Int) (c:List Int) (d:Int) (e:List Int) (n:Int) {C:List qo} (h:xz N b c d e n=some C):qc ZT (.fn 85) [.slice 0 0 1 1 4,.i n] [.cells (ni2 b c d e)] (.slice 1 0 C.length C.length 4) (.cells (ni2 b c d e)::(kO C [])):=by
 unfold xz at h;refine Ui Tryz.func85 rfl rfl (m:=48) rfl (rs:=[.tmp 4]) rfl (l:=(kAy (kBM n))) rfl ?_;intro B hB;refine sh fol (kAy (kBM n)) ?_;refine sq ?_;refine sh fol (kAy ((1,.i n)::(kBA (decide (n<0))))) ?_;obtain⟨G,g2,h⟩:=bnd h;refine Goes.imp (Q:=fun x s'=>(x= .normal/\()=G/\Sub s' (ofG 48 (kAy (kBM n)),[.cells (ni2 b c d e)]))) ?_ ?_
 ·refine ihD g2 (fun H g2=>?_) (fun H g2=>?_)
  ·cases g2
  refine Goes.skip ?_;obtain rfl:=si g2;exact⟨rfl,rfl,(Sub.keep [0,1] rfl rfl)⟩
 rintro x s' ⟨rfl,rfl,hsub⟩;refine Goes.sub hsub ?_;obtain⟨u,y,h⟩:=bnd h;refine sq (gr fol [5] (kAy ((5,.int .u64 u.1)::(kA4 u.2 []))) (ac (cv (qmY (IntKind.wrap .u64 1) (IntKind.wrap .u64 n) y)) az) ?_);refine sq ?_;refine sq ?_;obtain⟨I,o,h⟩:=bnd h;refine Goes.cut (s':=(ofG 48 (kAy (kA4 u.2 [(26,.bool I)])),[.cells (ni2 b c d e)])) ?_ ?_
 ·rcases wyD o with⟨D,o⟩|⟨D,o⟩
  ·obtain rfl:=si o;exact tr fol [2] (kAy (kA4 u.2 [(26,.bool true)])) (ac (gw D) az)
  obtain rfl:=si o;exact tr fol [2] (kAy (kA4 u.2 [(26,.bool (decide (u.2>9223372036854775807)))])) (ac (gw D) az)
 obtain⟨J,g8,h⟩:=bnd h;refine Goes.imp (Q:=fun x s'=>(x= .normal/\()=J/\Sub s' (ofG 48 (kAy (kA4 u.2 [])),[.cells (ni2 b c d e)]))) ?_ ?_
 ·refine ihB g8 (fun K g8=>?_) (fun K g8=>?_)
  ·cases g8
  refine Goes.skip ?_;obtain rfl:=si g8;exact⟨rfl,rfl,(Sub.keep [0,6] rfl rfl)⟩
 rintro x s' ⟨rfl,rfl,hsub⟩;refine Goes.sub hsub ?_;obtain⟨f,w,h⟩:=bnd h;refine sq (gq fol [2] (kAy (kAS f [])) (.cells (ni2 b c d e)::(kO f [])) (ac (hs (.run [] (yD ZT 96 (.i (w64 u.2)) (.i (w64 u.2))) [.cells (ni2 b c d e)] (.slice 1 0 f.length f.length 4) (.cells (ni2 b c d e)::(kO f [])) false) (qgr qid (E:=qb) (z:=(⟨(⟨0,[]⟩:ko),(⟨0,[]⟩:ko)⟩:qo)) rfl (by kernel_rfl) w rfl)) az) ?_);obtain⟨v,r,h⟩:=bnd h;refine sq (gq fol [2] (kAS f (kAx ((Nat.min ([(⟨(⟨b,c⟩:ko),(⟨d,e⟩:ko)⟩:qo)]:List qo).length f.length:Nat):Int))) (.cells (ni2 b c d e)::(kO v [])) (ac (hs (.run [1,0] (qcr ZT [96,96] (.slice 1 0 f.length f.length 4) (.slice 0 0 1 1 4)) (.cells (ni2 b c d e)::(kO f [])) (.i ((Nat.min ([(⟨(⟨b,c⟩:ko),(⟨d,e⟩:ko)⟩:qo)]:List qo).length f.length:Nat):Int)) (.cells (ni2 b c d e)::(kO v [])) true) (qvb qid (E:=qb) (l:=f) rfl (qgQ (E:=qb) (ys:=([(⟨(⟨b,c⟩:ko),(⟨d,e⟩:ko)⟩:qo)]:List qo)) rfl rfl rfl rfl) (.inl rfl) rfl rfl r rfl)) az) ?_);refine Goes.sub (show Sub _ (ofG 48 (kAS v (kAx ((Nat.min ([(⟨(⟨b,c⟩:ko),(⟨d,e⟩:ko)⟩:qo)]:List qo).length f.length:Nat):Int))),(.cells (ni2 b c d e)::(kO v [])))from(Uc [] [some 0,some 1] (by rw[hB];rfl) rfl (.keep (.sliceE rfl (qoG r)) (.keep (.same nI) .nil)) (.kb rfl (.same sn) (.ks .nil)))) ?_;refine sq (Goes.block ?_);obtain⟨A,g15,h⟩:=bnd h;refine Goes.imp (Q:=fun x s'=>(x= .exit 0/\ ∃p,p=A/\Sub s' (ofG 48 (kAS p []),(.cells (ni2 b c d e)::(kO p []))))) ?_ ?_
 ·refine Ue (fun M s=> ∃(a:List qo) (k:Int),s=(ofG 48 (kAS a (kAx k)),(.cells (ni2 b c d e)::(kO a [])))/\jH M a k=some A) ?_ (m:=N) ⟨_,_,rfl,g15⟩;rintro M s ⟨a,k,rfl,g15⟩
  cases M with
  |zero=>simp only[jH]at g15;cases g15
  |succ M=>
   rw[jH]at g15;refine sq ?_;refine sh fol (kAS a [(8,.i k),(37,.bool (decide (k<(a.length:Int))))]) ?_;refine ihD g15 (fun F g15=>?_) (fun F g15=>?_)
   ·refine Goes.skip ?_;refine Goes.block ?_;obtain⟨g,j,g15⟩:=bnd g15;obtain⟨q,t,g15⟩:=bnd g15;refine gq fol [3,6,7] (kAS a (kAx (w64 (k+((Nat.min (a.take g).length (a.length-g):Nat):Int))))) (.cells (ni2 b c d e)::(kO q [])) (ac (hs (.done (.opt (yM ZT 96 (.slice 1 0 a.length a.length 4) (some (.i k)) none none)) (qhe 1 4 a.length g)) (qsk qid j)) (ac (hs (.done (.opt (yM ZT 96 (.slice 1 0 a.length a.length 4) none (some (.i k)) none)) (.slice 1 0 g a.length 4)) (qv1 qid j)) (ac (hs (.run [1,1] (qcr ZT [96,96] (qhe 1 4 a.length g) (.slice 1 0 g a.length 4)) (.cells (ni2 b c d e)::(kO a [])) (.i ((Nat.min (a.take g).length (a.length-g):Nat):Int)) (.cells (ni2 b c d e)::(kO q [])) true) (qtc qid (E:=qb) rfl (l:=a) (qtT (E:=qb) rfl rfl rfl (qsA j)) (qsA j) rfl rfl t rfl)) az))) ?_;exact⟨M,(ofG 48 (kAS q (kAx (w64 (k+((Nat.min (a.take g).length (a.length-g):Nat):Int))))),(.cells (ni2 b c d e)::(kO q []))),Nat.lt_succ_self _,((show Sub _ (ofG 48 (kAS q (kAx (w64 (k+((Nat.min (a.take g).length (a.length-g):Nat):Int))))),(.cells (ni2 b c d e)::(kO q [])))from(Uc [] [some 0,some 1] (by rw[hB];rfl) rfl (.keep (.sliceE rfl (qqs (qsA j) t)) (.keep (.same nI) .nil)) (.kb rfl (.same sn) (.ks .nil)))).trans (Sub.refl _)),_,_,rfl,g15⟩
   refine Goes.exit ?_;obtain rfl:=si g15;exact⟨rfl,_,rfl,(Sub.keep [7] rfl rfl)⟩
 rintro x s' ⟨rfl,p,rfl,hsub⟩;refine Goes.sub hsub ?_;refine sh fol [(4,.slice 1 0 p.length p.length 4)] ?_;refine Goes.ret ?_;obtain rfl:=si h;exact(gh2 [.slice 1 0 p.length p.length 4] (qcE.refl _ _))
def xm (N:Nat) (n:Int) (w:List Int) (h:List (List qo)):Nat->(List (List qo))->Int->Option (List (List qo))
 |0,_,_=>none
 |K+1,c,a=>
  if a<(h.length:Int)then
  (qg0 0).bind fun d=>
  (xz N d.Num.s d.Num.w d.Den.s d.Den.w n).bind fun e=>
  (idx c a).bind fun i=>
  ((if e.length<=1000000000 then some ()else none:Option Unit)).bind fun j=>
  (idx (zQ c a e) a).bind fun b=>
  (qg0 1).bind fun f=>
  (idx b a).bind fun k=>
  (put b a f).bind fun g=>
  xm N n w h K (zQ (zQ c a e) a g) (w64 (a+1))
  else
  some c
def xk (N:Nat) (f:List (List qo)) (a:Int) (b:((qo×qo)×(qo×qo))):Nat->(List (List qo))->Int->Option (List (List qo))
 |0,_,_=>none
 |K+1,d,c=>
  if c<(f.length:Int)then
  (idx d c).bind fun e=>
  (idx e (w64 (a-1))).bind fun g=>
  (idx e (w64 ((w64 (a-1))+1))).bind fun h=>
  (xI N g b.1.1).bind fun j=>
  (xI N h b.2.1).bind fun k=>
  (qaA N j k).bind fun l=>
  (put e (w64 (a-1)) l).bind fun i=>
  (xI N g b.1.2).bind fun m=>
  (xI N h b.2.2).bind fun n=>
  (qaA N m n).bind fun o=>
  (idx i (w64 ((w64 (a-1))+1))).bind fun q=>
  (put i (w64 ((w64 (a-1))+1)) o).bind fun p=>
  xk N f a b K (zQ d c p) (w64 (c+1))
  else
  some d
def xn (N:Nat) (w:List Int) (t:qo):Nat->(List (List qo))->Int->Option (List (List qo))
 |0,_,_=>none
 |K+1,a,b=>
  if b<(w.length:Int)then
  (idx w b).bind fun c=>
  (qX c).bind fun d=>
  (qcz N c t).bind fun e=>
  (xk N a d e N a 0).bind fun f=>
  xn N w t K f (w64 (b+1))
  else
  some a
def qbJ (N:Nat) (n:Int) (w:List Int) (t:qo):Option (List (List qo)):=
 (mk 24 n ([]:List qo)).bind fun b=>
 (xm N n w b N b 0).bind fun c=>
 (xn N w t N c 0).bind fun a=>
 some a
theorem qe7 (N:Nat) (n:Int) (w:List Int) (t:qo) {res:List (List qo)} (h:qbJ N n w t=some res):qc ZT (.fn 55) [.i n,vl encI w,.agg (nq1 t)] [] (vl (qg qb) res) []:=by
 unfold qbJ at h;refine Ub Tryz.func55 rfl rfl (m:=98) rfl (rs:=[.tmp 6]) rfl (l:=(kC n w [(2,.agg (nq1 t))])) rfl ?_;refine sg fol (kC n w (kAO [])) [.cells (nq1 t)] ?_;obtain⟨D,a0,h⟩:=bnd h;refine sq (gq fol [1] (kC n w (kE D [])) [.cells (nq1 t),.cells (D.flatMap (qlQ qb).c)] (ac (hs (.run [] (yD ZT 87 (.i n) (.i n)) [.cells (nq1 t)] (.slice 1 0 D.length D.length 1) [.cells (nq1 t),.cells (D.flatMap (qlQ qb).c)] false) (qgr qqt (E:=(qlQ qb)) (z:=[]) rfl (by kernel_rfl) a0 rfl)) az) ?_);refine Goes.sub (show Sub _ (ofG 98 (kC n w (kE D [])),[.cells (nq1 t),bg qb D])from(Sub.bagNil1 (E:=qb) (b:=1) rfl a0)) ?_;refine sq ?_;refine sh fol (kC n w (kE D [(20,.i (D.length:Int)),(21,.i 0)])) ?_;refine Goes.block ?_;obtain⟨r5,g5,h⟩:=bnd h;refine Goes.imp (Q:=fun x s'=>(x= .exit 0/\ ∃l4,l4=r5/\Sub s' (ofG 98 (kBP w (kE l4 [])),[.cells (nq1 t),bg qb l4]))) ?_ ?_
 ·refine Ue (fun M s=> ∃(q:List (List qo)) (j:Int),s=(ofG 98 (kC n w (kE q (kAf (D.length:Int) j))),[.cells (nq1 t),bg qb q])/\xm N n w D M q j=some r5) ?_ (m:=N) ⟨_,_,rfl,g5⟩;rintro M s ⟨q,j,rfl,g5⟩
  cases M with
  |zero=>simp only[xm]at g5;cases g5
  |succ M=>
   rw[xm]at g5;refine sh fol (kC n w (kE q [(20,.i (D.length:Int)),(21,.i j),(22,.bool (decide (j<(D.length:Int))))])) ?_;refine sq ?_;refine ihD g5 (fun c6 g5=>?_) (fun c6 g5=>?_)
   ·refine Goes.skip ?_;refine sq (Goes.block ?_);refine sh fol (kC n w (kE q ((8,.i j)::(kAf (D.length:Int) j)))) ?_;obtain⟨Z,e_r7,g5⟩:=bnd g5;obtain⟨u,e_r8,g5⟩:=bnd g5;obtain⟨x10,K,g5⟩:=bnd g5;obtain⟨u11,a1,g5⟩:=bnd g5;refine sq (gq fol [2,5,6,7] (kC n w (kE q ((8,.i j)::(kAf (D.length:Int) j)))) (.cells (nq1 t):: .bag ((q.map (vB qb)).set (j:Int).toNat (.av (.slice 3 0 u.length u.length 4))):: .cells (nq1 Z)::(kO u [])) (ac (cv (qd5 0 e_r7)) (ac (hs (.callH 85 [.slice 2 0 1 1 4,.i n] [.cells (nq1 t),bg qb q,.cells (nq1 Z)] [2] (.slice 3 0 u.length u.length 4) (.cells (nq1 t)::bg qb q:: .cells (nq1 Z)::(kO u []))) (zH [some 2] [none,none,some 0,some 1] (qdL N Z.Num.s Z.Num.w Z.Den.s Z.Den.w n e_r8) (.kb rfl (.cells (rc (.same nI) (rc (.same (qc7 ZU _)) (rc (.same nI) (rc (.same (qc7 ZU _)) rn))))) .nil) rfl rfl (.old rfl rfl (.old rfl rfl (.back rfl rfl (.cells (rc (.same nI) (rc (.same (qc7 ZU _)) (rc (.same nI) (rc (.same (qc7 ZU _)) rn))))) rfl (.new rfl rfl (.same fa) rfl .nil)))) (rc (.slice rfl) (rc (.same nI) rn)) (.slice rfl) rfl)) (ac (hs (.done (.opt (qd ZT 87 (.slice 1 0 q.length q.length 1) (.i j))) (.ptr 1 ((j:Int).toNat*1+0))) (xN qqt K)) (ac (hs (.run [1] (qI ZT 96 (.ptr 1 ((j:Int).toNat*1+0)) (.slice 3 0 u.length u.length 4)) (.cells (nq1 t)::bg qb q:: .cells (nq1 Z)::(kO u [])) .undef (.cells (nq1 t):: .bag ((q.map (vB qb)).set (j:Int).toNat (.av (.slice 3 0 u.length u.length 4))):: .cells (nq1 Z)::(kO u [])) true) (qoL (show _=some 1 by kernel_rfl) rfl (qq7 K) rfl rfl rfl)) az)))) ?_);refine Goes.sub ((show Sub _ (ofG 98 (kC n w (kE q ((8,.i j)::(kAf (D.length:Int) j)))),[.cells (nq1 t),bg qb (zQ q j u),.cells (nq1 Z),.dead])from(Uu (E:=qb) (b:=1) (c:=3) (Nat.ne_of_beq_eq_false rfl) rfl rfl K (.s (qtO a1)) rfl)).trans (show Sub _ (ofG 98 (kC n w (kE (zQ q j u) ((8,.i j)::(kAf (D.length:Int) j)))),[.cells (nq1 t),bg qb (zQ q j u)])from(Uc [] [some 0,some 1] rfl rfl (.keep (.same nI) (.keep (.same (qa encI _)) (.kp (.keep (.sliceE rfl (qdp _ _ _)) (.keep (.same nI) (.keep (.same nI) (.keep (.same nI) .nil))))))) (.kb rfl (.same sn) (.kb rfl yj.bgs .nil))))) ?_;obtain⟨A,F,g5⟩:=bnd g5;refine Goes.sub (Uz (E:=qb) (b:=1) rfl F) ?_;obtain⟨r14,a2,g5⟩:=bnd g5;obtain⟨x15,P,g5⟩:=bnd g5;obtain⟨J,T,g5⟩:=bnd g5;refine gq fol [2,3,5,6,7] (kC n w (kE (zQ q j u) (kAf (D.length:Int) j))) (.cells (nq1 t):: .bag (((zQ q j u).map (vB qb)).set (j:Int).toNat (.av (.gslice 2 A.length 4)))::(kO J [])) (ac (hs (.done (.opt (qd ZT 87 (.slice 1 0 (zQ q j u).length (zQ q j u).length 1) (.i j))) (.ptr 1 ((j:Int).toNat*1+0))) (xN qqt F)) (ac (hs (.run [1] (zV ZT 96 (.ptr 1 ((j:Int).toNat*1+0))) (.cells (nq1 t):: .bag (((zQ q j u).map (vB qb)).set (j:Int).toNat (.av (.gslice 2 A.length 4)))::(kO A [])) (.gslice 2 A.length 4) (.cells (nq1 t):: .bag (((zQ q j u).map (vB qb)).set (j:Int).toNat (.av (.gslice 2 A.length 4)))::(kO A [])) false) (qlh ce96 rfl (at_set F))) (ac (cv (qd5 1 a2)) (ac (hs (.done (.opt (qd ZT 96 (.gslice 2 A.length 4) (.i j))) (.ptr 2 ((j:Int).toNat*4+0))) (qac qid P)) (ac (hs (.run [2] (qI ZT 93 (.ptr 2 ((j:Int).toNat*4+0)) (.agg (nq1 r14))) (.cells (nq1 t):: .bag (((zQ q j u).map (vB qb)).set (j:Int).toNat (.av (.gslice 2 A.length 4)))::(kO A [])) .undef (.cells (nq1 t):: .bag (((zQ q j u).map (vB qb)).set (j:Int).toNat (.av (.gslice 2 A.length 4)))::(kO J [])) true) (qaU (E:=qb) (l:=A) (y:=r14) rfl (show _=some 4 by kernel_rfl) rfl P rfl rfl rfl (cac rfl (cac nvc (cac rfl (cac nvc can)))) rfl T rfl)) az))))) ?_;refine Goes.sub ((show Sub _ (ofG 98 (kC n w (kE (zQ q j u) (kAf (D.length:Int) j))),[.cells (nq1 t),bg qb (zQ (zQ q j u) j J),.dead])from(Uu (E:=qb) (b:=1) (c:=2) (Nat.ne_of_beq_eq_false rfl) rfl rfl F .g (jM T))).trans (show Sub _ (ofG 98 (kC n w (kE (zQ (zQ q j u) j J) (kAf (D.length:Int) j))),[.cells (nq1 t),bg qb (zQ (zQ q j u) j J)])from(Uc [] [some 0,some 1] rfl rfl (.keep (.same nI) (.keep (.same (qa encI _)) (.kp (.keep (.sliceE rfl (qdp _ _ _)) (.keep (.same nI) (.keep (.same nI) .nil)))))) (.kb rfl (.same sn) (.kb rfl yj.bgs .nil))))) ?_;refine gh fol (kC n w (kE (zQ (zQ q j u) j J) (kAf (D.length:Int) (w64 (j+1))))) ?_;exact⟨M,(ofG 98 (kC n w (kE (zQ (zQ q j u) j J) (kAf (D.length:Int) (w64 (j+1))))),[.cells (nq1 t),bg qb (zQ (zQ q j u) j J)]),Nat.lt_succ_self _,(Sub.refl _),_,_,rfl,g5⟩
   refine Goes.exit ?_;obtain rfl:=si g5;exact⟨rfl,_,rfl,(Sub.keep [1,5,7] rfl rfl)⟩
 rintro x s' ⟨rfl,l4,rfl,hsub⟩;refine Goes.sub hsub ?_;refine sq ?_;refine sh fol (kE l4 [(39,vl encI w),(40,.i (w.length:Int)),(41,.i 0)]) ?_;refine Goes.block ?_;obtain⟨r20,g20,h⟩:=bnd h;refine Goes.imp (Q:=fun x s'=>(x= .exit 2/\ ∃G,G=r20/\Sub s' (ofG 98 [(7,.slice 0 0 G.length G.length 1)],[bg qb G]))) ?_ ?_
 ·refine Ue (fun M s=> ∃(k:List (List qo)) (p:Int),s=(ofG 98 (kE k (kAu w (w.length:Int) p [])),[.cells (nq1 t),bg qb k])/\xn N w t M k p=some r20) ?_ (m:=N) ⟨_,_,rfl,g20⟩;rintro M s ⟨k,p,rfl,g20⟩
  cases M with
  |zero=>simp only[xn]at g20;cases g20
  |succ M=>
   rw[xn]at g20;refine sh fol (kE k (kAu w (w.length:Int) p [(42,.bool (decide (p<(w.length:Int))))])) ?_;refine sq ?_;refine ihD g20 (fun c21 g20=>?_) (fun c21 g20=>?_)
   ·refine Goes.skip ?_;refine sq (Goes.block ?_);obtain⟨a3,U,g20⟩:=bnd g20;refine sq (gr fol [0,1] (kE k ((10,.i a3)::(kAu w (w.length:Int) p []))) (ac (iv zO encI U) (ac (lv 0 ce3 encI U rfl) az)) ?_);obtain⟨o,a4,g20⟩:=bnd g20;obtain⟨f,a5,g20⟩:=bnd g20;refine sq (gq fol [1,5,8] (kE k (kAh (w64 (o-1)) (kAu w (w.length:Int) p []))) [.cells (nq1 t),bg qb k,.cells (nb4 f)] (ac (cv (qp a3 a4)) (ac (cv (qiI N a3 t a5)) (ac (hs (.run [2] (qI ZT 135 (.ptr 2 0) (.agg (nb4 f))) (.cells (nq1 t)::bg qb k::(kL [])) .undef [.cells (nq1 t),bg qb k,.cells (nb4 f)] true) (vV (n:=16) (by kernel_rfl) rfl rfl rfl rfl (cac rfl (cac nvc (cac rfl (cac nvc (cac rfl (cac nvc (cac rfl (cac nvc (cac rfl (cac nvc (cac rfl (cac nvc (cac rfl (cac nvc (cac rfl (cac nvc can)))))))))))))))) rfl)) az))) ?_);refine sh fol (kE k (kAh (w64 (o-1)) (kAu w (w.length:Int) p [(51,.slice 1 0 k.length k.length 1),(52,.i (k.length:Int)),(53,.i 0)]))) ?_;refine Goes.block ?_;obtain⟨r28,g28,g20⟩:=bnd g20;refine Goes.imp (Q:=fun x s'=>(x= .exit 4/\ ∃L,L=r28/\Sub s' (ofG 98 (kE L (kAu w (w.length:Int) p [])),[.cells (nq1 t),bg qb L]))) ?_ ?_
    ·refine Ue (fun M s=> ∃(a:List (List qo)) (d:Int),s=(ofG 98 (kE a (kAh (w64 (o-1)) (kK w (w.length:Int) p a (k.length:Int) d []))),[.cells (nq1 t),bg qb a,.cells (nb4 f)])/\xk N k o f M a d=some r28) ?_ (m:=N) ⟨_,_,rfl,g28⟩;rintro M s ⟨a,d,rfl,g28⟩
     cases M with
     |zero=>simp only[xk]at g28;cases g28
     |succ M=>
      rw[xk]at g28;refine sh fol (kE a (kAh (w64 (o-1)) (kK w (w.length:Int) p a (k.length:Int) d [(54,.bool (decide (d<(k.length:Int))))]))) ?_;refine sq ?_;refine ihD g28 (fun c29 g28=>?_) (fun c29 g28=>?_)
      ·refine Goes.skip ?_;refine sq (Goes.block ?_);obtain⟨e,H,g28⟩:=bnd g28;refine sq (Goes.sub (Uz (E:=qb) (b:=1) rfl H) ?_);refine gr fol [0,1] (kE a (kAh (w64 (o-1)) ((14,.gslice 3 e.length 4)::(kK w (w.length:Int) p a (k.length:Int) d [])))) (ac (hs (.done (.opt (qd ZT 87 (.slice 1 0 a.length a.length 1) (.i d))) (.ptr 1 ((d:Int).toNat*1+0))) (xN qqt H)) (ac (hs (.run [1] (zV ZT 96 (.ptr 1 ((d:Int).toNat*1+0))) (.cells (nq1 t):: .bag ((a.map (vB qb)).set (d:Int).toNat (.av (.gslice 3 e.length 4))):: .cells (nb4 f)::(kO e [])) (.gslice 3 e.length 4) (.cells (nq1 t):: .bag ((a.map (vB qb)).set (d:Int).toNat (.av (.gslice 3 e.length 4))):: .cells (nb4 f)::(kO e [])) false) (qlh ce96 rfl (at_set H))) az)) ?_;obtain⟨r,I,g28⟩:=bnd g28;obtain⟨v,V,g28⟩:=bnd g28;refine sq (gq fol [2,3,7,8,11,12] (kE a (kAh (w64 (o-1)) (kBL e (kK w (w.length:Int) p a (k.length:Int) d [])))) (.cells (nq1 t):: .bag ((a.map (vB qb)).set (d:Int).toNat (.av (.gslice 3 e.length 4))):: .cells (nb4 f)::(kO e [.cells (nq1 r),.cells (nq1 v)])) (ac (hs (.done (.opt (qd ZT 96 (.gslice 3 e.length 4) (.i (w64 (o-1))))) (.ptr 3 ((w64 (o-1):Int).toNat*4+0))) (qac qid I)) (ac (hs (.run [3] (zV ZT 93 (.ptr 3 ((w64 (o-1):Int).toNat*4+0))) (.cells (nq1 t):: .bag ((a.map (vB qb)).set (d:Int).toNat (.av (.gslice 3 e.length 4))):: .cells (nb4 f)::(kO e [])) (.agg (nq1 r)) (.cells (nq1 t):: .bag ((a.map (vB qb)).set (d:Int).toNat (.av (.gslice 3 e.length 4))):: .cells (nb4 f)::(kO e [])) false) (quU ag93 (E:=qb) (l:=e) rfl rfl I)) (ac (hs (.done (.opt (qd ZT 96 (.gslice 3 e.length 4) (.i (w64 ((w64 (o-1))+1))))) (.ptr 3 ((w64 ((w64 (o-1))+1):Int).toNat*4+0))) (qac qid V)) (ac (hs (.run [3] (zV ZT 93 (.ptr 3 ((w64 ((w64 (o-1))+1):Int).toNat*4+0))) (.cells (nq1 t):: .bag ((a.map (vB qb)).set (d:Int).toNat (.av (.gslice 3 e.length 4))):: .cells (nb4 f)::(kO e [])) (.agg (nq1 v)) (.cells (nq1 t):: .bag ((a.map (vB qb)).set (d:Int).toNat (.av (.gslice 3 e.length 4))):: .cells (nb4 f)::(kO e [])) false) (quU ag93 (E:=qb) (l:=e) rfl rfl V)) (ac (hs (.run [4] (qI ZT 93 (.ptr 4 0) (.agg (nq1 r))) (.cells (nq1 t):: .bag ((a.map (vB qb)).set (d:Int).toNat (.av (.gslice 3 e.length 4))):: .cells (nb4 f)::(kO e (kH (kH [])))) .undef (.cells (nq1 t):: .bag ((a.map (vB qb)).set (d:Int).toNat (.av (.gslice 3 e.length 4))):: .cells (nb4 f)::(kO e (.cells (nq1 r)::(kH [])))) true) (vV (n:=4) (by kernel_rfl) rfl rfl rfl rfl (cac rfl (cac nvc (cac rfl (cac nvc can)))) rfl)) (ac (hs (.run [5] (qI ZT 93 (.ptr 5 0) (.agg (nq1 v))) (.cells (nq1 t):: .bag ((a.map (vB qb)).set (d:Int).toNat (.av (.gslice 3 e.length 4))):: .cells (nb4 f)::(kO e (.cells (nq1 r)::(kH [])))) .undef (.cells (nq1 t):: .bag ((a.map (vB qb)).set (d:Int).toNat (.av (.gslice 3 e.length 4))):: .cells (nb4 f)::(kO e [.cells (nq1 r),.cells (nq1 v)])) true) (vV (n:=4) (by kernel_rfl) rfl rfl rfl rfl (cac rfl (cac nvc (cac rfl (cac nvc can)))) rfl)) az)))))) ?_);obtain⟨r34,a6,g28⟩:=bnd g28;obtain⟨r35,a7,g28⟩:=bnd g28;obtain⟨r36,a8,g28⟩:=bnd g28;obtain⟨B,O,g28⟩:=bnd g28;refine sq (gq fol [6,11,12,13,14] (kE a (kAh (w64 (o-1)) (kBL e (kK w (w.length:Int) p a (k.length:Int) d [])))) (.cells (nq1 t):: .bag ((a.map (vB qb)).set (d:Int).toNat (.av (.gslice 3 e.length 4))):: .cells (nb4 f)::(kO B [.cells (nq1 r),.cells (nq1 v)])) (ac (cv (qby N r f.1.1 a6)) (ac (cv (qby N v f.2.1 a7)) (ac (cv (qcF N r34 r35 a8)) (ac (hs (.done (.opt (qd ZT 96 (.gslice 3 e.length 4) (.i (w64 (o-1))))) (.ptr 3 ((w64 (o-1):Int).toNat*4+0))) (qac qid I)) (ac (hs (.run [3] (qI ZT 93 (.ptr 3 ((w64 (o-1):Int).toNat*4+0)) (.agg (nq1 r36))) (.cells (nq1 t):: .bag ((a.map (vB qb)).set (d:Int).toNat (.av (.gslice 3 e.length 4))):: .cells (nb4 f)::(kO e [.cells (nq1 r),.cells (nq1 v)])) .undef (.cells (nq1 t):: .bag ((a.map (vB qb)).set (d:Int).toNat (.av (.gslice 3 e.length 4))):: .cells (nb4 f)::(kO B [.cells (nq1 r),.cells (nq1 v)])) true) (qaU (E:=qb) (l:=e) (y:=r36) rfl (show _=some 4 by kernel_rfl) rfl I rfl rfl rfl (cac rfl (cac nvc (cac rfl (cac nvc can)))) rfl O rfl)) az))))) ?_);refine Goes.sub (show Sub _ (ofG 98 (kE a ((11,.i (w64 (o-1)))::(12,.ptr 3 0)::(14,.gslice 2 B.length 4)::(15,.ptr 4 0)::(16,.ptr 5 0)::(kK w (w.length:Int) p a (k.length:Int) d []))),(.cells (nq1 t):: .bag ((a.map (vB qb)).set (d:Int).toNat (.av (.gslice 2 B.length 4)))::(kO B [.cells (nb4 f),.cells (nq1 r),.cells (nq1 v)])))from(Uc [] [some 0,some 1,some 3,some 2,some 4,some 5] rfl rfl (.kp (.keep (.slice rfl) (.keep (.same nI) (.kp (.keep (.gsliceE rfl (jM O)) (.kp (.kp (.keep (.same (qa encI _)) (.keep (.same nI) (.keep (.same nI) (.keep (.slice rfl) (.keep (.same nI) (.keep (.same nI) .nil))))))))))))) (.kb rfl (.same sn) (.kb rfl (yj.bgv (.gsliceE rfl (jM O))) (.ks (.kb rfl (.same sn) (.kb rfl (.same sn) (.kb rfl (.same sn) .nil)))))))) ?_;obtain⟨r38,a9,g28⟩:=bnd g28;obtain⟨r39,b0,g28⟩:=bnd g28;obtain⟨r40,b1,g28⟩:=bnd g28;obtain⟨x41,X,g28⟩:=bnd g28;obtain⟨C,Y,g28⟩:=bnd g28;refine gq fol [7,12,13,14,15] (kE a ((11,.i (w64 (o-1)))::(12,.ptr 3 0)::(kK w (w.length:Int) p a (k.length:Int) d []))) (.cells (nq1 t):: .bag ((a.map (vB qb)).set (d:Int).toNat (.av (.gslice 2 B.length 4)))::(kO C [.cells (nb4 f),.cells (nq1 r),.cells (nq1 v)])) (ac (cv (qby N r f.1.2 a9)) (ac (cv (qby N v f.2.2 b0)) (ac (cv (qcF N r38 r39 b1)) (ac (hs (.done (.opt (qd ZT 96 (.gslice 2 B.length 4) (.i (w64 ((w64 (o-1))+1))))) (.ptr 2 ((w64 ((w64 (o-1))+1):Int).toNat*4+0))) (qac qid X)) (ac (hs (.run [2] (qI ZT 93 (.ptr 2 ((w64 ((w64 (o-1))+1):Int).toNat*4+0)) (.agg (nq1 r40))) (.cells (nq1 t):: .bag ((a.map (vB qb)).set (d:Int).toNat (.av (.gslice 2 B.length 4)))::(kO B [.cells (nb4 f),.cells (nq1 r),.cells (nq1 v)])) .undef (.cells (nq1 t):: .bag ((a.map (vB qb)).set (d:Int).toNat (.av (.gslice 2 B.length 4)))::(kO C [.cells (nb4 f),.cells (nq1 r),.cells (nq1 v)])) true) (qaU (E:=qb) (l:=B) (y:=r40) rfl (show _=some 4 by kernel_rfl) rfl X rfl rfl rfl (cac rfl (cac nvc (cac rfl (cac nvc can)))) rfl Y rfl)) az))))) ?_;refine Goes.sub ((show Sub _ (ofG 98 (kE a ((11,.i (w64 (o-1)))::(12,.ptr 3 0)::(kK w (w.length:Int) p a (k.length:Int) d []))),[.cells (nq1 t),bg qb (zQ a d C),.dead,.cells (nb4 f),.cells (nq1 r),.cells (nq1 v)])from(Uu (E:=qb) (b:=1) (c:=2) (Nat.ne_of_beq_eq_false rfl) rfl rfl H .g (jM Y))).trans (show Sub _ (ofG 98 (kE (zQ a d C) (kAh (w64 (o-1)) (kK w (w.length:Int) p (zQ a d C) (k.length:Int) d []))),[.cells (nq1 t),bg qb (zQ a d C),.cells (nb4 f)])from(Uc [] [some 0,some 1,some 3] rfl rfl (.kp (.keep (.sliceE rfl (qdp _ _ _)) (.keep (.same nI) (.kp (.keep (.same (qa encI _)) (.keep (.same nI) (.keep (.same nI) (.keep (.sliceE rfl (qdp _ _ _)) (.keep (.same nI) (.keep (.same nI) .nil)))))))))) (.kb rfl (.same sn) (.kb rfl yj.bgs (.kb rfl (.same sn) .nil)))))) ?_;refine gh fol (kE (zQ a d C) (kAh (w64 (o-1)) (kK w (w.length:Int) p (zQ a d C) (k.length:Int) (w64 (d+1)) []))) ?_;exact⟨M,(ofG 98 (kE (zQ a d C) (kAh (w64 (o-1)) (kK w (w.length:Int) p (zQ a d C) (k.length:Int) (w64 (d+1)) []))),[.cells (nq1 t),bg qb (zQ a d C),.cells (nb4 f)]),Nat.lt_succ_self _,(Sub.refl _),_,_,rfl,g28⟩
      refine Goes.exit ?_;obtain rfl:=si g28;exact⟨rfl,_,rfl,(Uc [] [some 0,some 1] rfl rfl (.kp (.keep (.slice rfl) (.drop (.drop (.keep (.same (qa encI _)) (.keep (.same nI) (.keep (.same nI) .nil))))))) (.kb rfl (.same sn) (.kb rfl yj.bgs .nil)))⟩
    rintro x s' ⟨rfl,L,rfl,hsub⟩;refine Goes.sub hsub ?_;refine gh fol (kE L (kAu w (w.length:Int) (w64 (p+1)) [])) ?_;exact⟨M,(ofG 98 (kE L (kAu w (w.length:Int) (w64 (p+1)) [])),[.cells (nq1 t),bg qb L]),Nat.lt_succ_self _,(Sub.refl _),_,_,rfl,g20⟩
   refine Goes.exit ?_;obtain rfl:=si g20;exact⟨rfl,_,rfl,(Uc [] [some 1] rfl rfl (.drop (.keep (.slice rfl) .nil)) (.kb rfl yj.bgs .nil))⟩
 rintro x s' ⟨rfl,G,rfl,hsub⟩;refine Goes.sub hsub ?_;refine sh fol [(6,.slice 0 0 G.length G.length 1)] ?_;refine Goes.sub (Sub.bagFreeze (E:=qb) (b:=0) rfl) ?_;refine Goes.ret ?_;obtain rfl:=si h;exact(gw2 [.slice 0 0 G.length G.length 1] (Us (Fz.slF (E:=(qg qb)) rfl rfl (nl rfl))))
def qaw (a:ko) (b:ko):Option Int:=
 (if a.w.isEmpty=true then
 some b.w.isEmpty
 else
 some false:Option Bool).bind fun c=>
 if c=true then
 if a.s<b.s then
 some (-1)
 else
 if a.s>b.s then
 some 1
 else
 some 0
 else
 none
theorem qji (a:ko) (b:ko) {res:Int} (h:qaw a b=some res):qc ZT (.fn 121) [.agg (nz1 a),.agg (nz1 b)] [] (.i res) []:=by
 unfold qaw at h;refine Ub Tryz.func121 rfl rfl (m:=29) rfl (rs:=[.tmp 4]) rfl (l:=[(0,.agg (nz1 a)),(1,.agg (nz1 b))]) rfl ?_;refine sg fol (kAj []) [.cells (nz1 a),.cells (nz1 b)] ?_;refine sq ?_;refine sq ?_;obtain⟨e,c,h⟩:=bnd h;refine Goes.cut (s':=(ofG 29 (kAj [(12,.bool e)]),[.cells (nz1 a),.cells (nz1 b)])) ?_ ?_
 ·rcases wyB c with⟨d,c⟩|⟨d,c⟩
  ·obtain rfl:=si c;exact tr fol [2,3,6] (kAj [(12,.bool b.w.isEmpty)]) (ac (hs (.done (.opt (qaQ ZT .eql 89 (.tmp 6) (.const (.slice none 0 0)) (nvl ZU a.w) .nilslice)) (.bool a.w.isEmpty)) (qbP qbH)) (ac (gw d) (ac (hs (.done (.opt (qaQ ZT .eql 89 (.tmp 10) (.const (.slice none 0 0)) (nvl ZU b.w) .nilslice)) (.bool b.w.isEmpty)) (qbP qbH)) az)))
  obtain rfl:=si c;exact tr fol [2,3] (kAj [(12,.bool false)]) (ac (hs (.done (.opt (qaQ ZT .eql 89 (.tmp 6) (.const (.slice none 0 0)) (nvl ZU a.w) .nilslice)) (.bool a.w.isEmpty)) (qbP qbH)) (ac (gw d) az))
 refine ihB h (fun f h=>?_) (fun f h=>?_)
 ·refine sq (Goes.block ?_);refine sh fol (kAj (kBa (decide (a.s<b.s)))) ?_;refine ihD h (fun g h=>?_) (fun g h=>?_)
  ·refine sh fol [(4,.i (-1))] ?_;refine Goes.ret ?_;obtain rfl:=si h;exact(gw2 [.i (-1)] (Ua tI))
  refine sh fol [(19,.bool (decide (a.s>b.s)))] ?_;refine ihD h (fun c6 h=>?_) (fun c6 h=>?_)
  ·refine sh fol [(4,.i 1)] ?_;refine Goes.ret ?_;obtain rfl:=si h;exact(gw2 [.i 1] (Ua tI))
  refine Goes.skip ?_;refine sh fol [(4,.i 0)] ?_;refine Goes.ret ?_;obtain rfl:=si h;exact(gw2 [.i 0] (Ua tI))
 refine Goes.skip ?_;refine sq ?_;cases h
def qbj (a:qo) (b:qo):Option Int:=
 (jA a.Num b.Den).bind fun c=>
 (jA b.Num a.Den).bind fun d=>
 (qaw c d).bind fun e=>
 some e
theorem qh9 (a:qo) (b:qo) {res:Int} (h:qbj a b=some res):qc ZT (.fn 91) [.agg (nq1 a),.agg (nq1 b)] [] (.i res) []:=by
 unfold qbj at h;refine Ub Tryz.func91 rfl rfl (m:=16) rfl (rs:=[.tmp 4]) rfl (l:=[(0,.agg (nq1 a)),(1,.agg (nq1 b))]) rfl ?_;refine sg fol (kAj []) [.cells (nq1 a),.cells (nq1 b)] ?_;obtain⟨g,c,h⟩:=bnd h;obtain⟨j,d,h⟩:=bnd h;obtain⟨f,e,h⟩:=bnd h;refine sq (gr fol [4,9,10] (kBf f) (ac (cv (yX a.Num b.Den c)) (ac (cv (yX b.Num a.Den d)) (ac (cv (qji g j e)) az))) ?_);refine Goes.ret ?_;obtain rfl:=si h;exact(gw2 [.i f] (Ua tI))
def jZ (a:qo) (b:qo):Option Bool:=
 (qbj a b).bind fun c=>
 some (decide (c=0))
theorem qhL (a:qo) (b:qo) {res:Bool} (h:jZ a b=some res):qc ZT (.fn 60) [.agg (nq1 a),.agg (nq1 b)] [] (.bool res) []:=by
 unfold jZ at h;refine Ub Tryz.func60 rfl rfl (m:=9) rfl (rs:=[.tmp 4]) rfl (l:=[(0,.agg (nq1 a)),(1,.agg (nq1 b))]) rfl ?_;refine sg fol (kAj []) [.cells (nq1 a),.cells (nq1 b)] ?_;obtain⟨d,c,h⟩:=bnd h;refine sq (gr fol [2] (kA1 (decide (d=0))) (ac (cv (qh9 a b c)) az) ?_);refine Goes.ret ?_;obtain rfl:=si h;exact(gw2 [.bool (decide (d=0))] (Ua tB))
def qE (a:List qo) (b:List qo):Nat->Int->Option (Unit⊕Bool)
 |0,_=>none
 |K+1,c=>
  if c<(a.length:Int)then
  (idx a c).bind fun d=>
  (idx b c).bind fun e=>
  (jZ d e).bind fun f=>
  if(!f)=true then
  some (.inr false)
  else
  qE a b K (w64 (c+1))
  else
  some (.inl ())
def zX (N:Nat) (a:List qo) (b:List qo):Option Bool:=
 if(!decide ((a.length:Int)=(b.length:Int)))=true then
 some false
 else
 (qE a b N 0).bind (fun
 |(.inl ())=>
 some true
 |(.inr c)=>
 some c)
theorem qcU (N:Nat) (a:List qo) (b:List qo) {res:Bool} (h:zX N a b=some res):qc ZT (.fn 59) [vl qb a,vl qb b,.func (.func 60) [] []] [] (.bool res) []:=by
 unfold zX at h;refine Ub Tryz.func59 rfl rfl (m:=32) rfl (rs:=[.tmp 6]) rfl (l:=((0,vl qb a)::(kBG b [(2,.func (.func 60) [] [])]))) rfl ?_;refine sh fol ((0,vl qb a)::(kBG b [(2,.func (.func 60) [] [])])) ?_;refine sq ?_;refine sh fol ((0,vl qb a)::(kBG b ((2,.func (.func 60) [] [])::(kBR (!decide ((a.length:Int)=(b.length:Int))))))) ?_;refine ihB h (fun p h=>?_) (fun p h=>?_)
 ·refine sh fol kAg ?_;refine Goes.ret ?_;obtain rfl:=si h;exact(gw2 [.bool false] (Ua tB))
 refine Goes.skip ?_;refine sq ?_;refine sh fol (kBG b ((2,.func (.func 60) [] [])::(kBs a (kBo (a.length:Int))))) ?_;refine Goes.block ?_;obtain⟨k,g3,h⟩:=bnd h;refine Goes.imp (Q:=fun x s'=>(x= .exit 0/\(.inl ())=k/\Sub s' (ofG 32 [],[]))\/(x= .ret/\ ∃o,(.inr o)=k/\jw ZT [.tmp 6] (.bool o) .ret s')) ?_ ?_
 ·refine Ue (fun M s=> ∃(c:Int),s=(ofG 32 (kBG b ((2,.func (.func 60) [] [])::(kBs a (kAH (a.length:Int) c)))),[])/\qE a b M c=some k) ?_ (m:=N) ⟨_,rfl,g3⟩;rintro M s ⟨c,rfl,g3⟩
  cases M with
  |zero=>simp only[qE]at g3;cases g3
  |succ M=>
   rw[qE]at g3;refine sh fol (kBG b ((2,.func (.func 60) [] [])::(kBs a ((16,.i (a.length:Int))::(17,.i c)::(kBZ (decide (c<(a.length:Int)))))))) ?_;refine sq ?_;refine ihD g3 (fun q g3=>?_) (fun q g3=>?_)
   ·refine Goes.skip ?_;refine sq (Goes.block ?_);obtain⟨f,d,g3⟩:=bnd g3;refine sq (gq fol [1,2,5] (kBG b ((2,.func (.func 60) [] [])::(7,.i c)::(8,.ptr 0 0)::(kBs a (kAH (a.length:Int) c)))) [.cells (nq1 f)] (ac (iv qid qb d) (ac (la ag93 qb d) (ac (hs (.run [0] (qI ZT 93 (.ptr 0 0) (.agg (nq1 f))) (kH []) .undef [.cells (nq1 f)] true) (vV (n:=4) (by kernel_rfl) rfl rfl rfl rfl (cac rfl (cac nvc (cac rfl (cac nvc can)))) rfl)) az))) ?_);obtain⟨j,e,g3⟩:=bnd g3;refine sq (gq fol [2,3,5] (kBG b ((2,.func (.func 60) [] [])::(8,.ptr 0 0)::(9,.ptr 1 0)::(kBs a (kAH (a.length:Int) c)))) [.cells (nq1 f),.cells (nq1 j)] (ac (iv qid qb e) (ac (la ag93 qb e) (ac (hs (.run [1] (qI ZT 93 (.ptr 1 0) (.agg (nq1 j))) (.cells (nq1 f)::(kH [])) .undef [.cells (nq1 f),.cells (nq1 j)] true) (vV (n:=4) (by kernel_rfl) rfl rfl rfl rfl (cac rfl (cac nvc (cac rfl (cac nvc can)))) rfl)) az))) ?_);obtain⟨r,g,g3⟩:=bnd g3;refine sq (gr fol [3] (kBG b ((2,.func (.func 60) [] [])::(kBs a [(16,.i (a.length:Int)),(17,.i c),(30,.bool (!r))]))) (ac (cv (qhL f j g)) az) ?_);refine ihB g3 (fun t g3=>?_) (fun t g3=>?_)
    ·refine sh fol kAg ?_;refine Goes.ret ?_;obtain rfl:=si g3;exact Or.inr (⟨rfl,_,rfl,(gw2 [.bool false] (Ua tB))⟩)
    refine Goes.skip ?_;refine gh fol (kBG b ((2,.func (.func 60) [] [])::(kBs a (kAH (a.length:Int) (w64 (c+1)))))) ?_;exact⟨M,(ofG 32 (kBG b ((2,.func (.func 60) [] [])::(kBs a (kAH (a.length:Int) (w64 (c+1)))))),[]),Nat.lt_succ_self _,(Uc [] [] rfl rfl (.keep (.same (qa qb _)) (.keep (.same (qH.func sn sn)) (.keep (.same (qa qb _)) (.keep (.same nI) (.keep (.same nI) .nil))))) .nil),_,rfl,g3⟩
   refine Goes.exit ?_;obtain rfl:=si g3;exact Or.inl (⟨rfl,rfl,(Sub.keep [] rfl rfl)⟩)
 rintro x s' (⟨rfl,rfl,hsub⟩|⟨rfl,u,rfl,hret⟩)
 ·try dsimp only at h
  refine Goes.sub hsub ?_;refine sh fol [(6,.bool true)] ?_;refine Goes.ret ?_;obtain rfl:=si h;exact(gw2 [.bool true] (Ua tB))
 try dsimp only at h
 obtain rfl:=si h;exact hret
def ky (N:Nat) (v:List qo) (w:List qo):Option Bool:=
 (zX N v w).bind fun a=>
 some a
theorem qdV (N:Nat) (v:List qo) (w:List qo) {res:Bool} (h:ky N v w=some res):qc ZT (.fn 58) [vl qb v,vl qb w] [] (.bool res) []:=by
 unfold ky at h;refine Ub Tryz.func58 rfl rfl (m:=8) rfl (rs:=[.tmp 4]) rfl (l:=((0,vl qb v)::(kBG w []))) rfl ?_;refine sh fol ((0,vl qb v)::(kBG w [])) ?_;obtain⟨b,a,h⟩:=bnd h;refine sq (gr fol [2] (kA1 b) (ac (hs (.call 59 [vl qb v,vl qb w,.func (.func 60) [] []] [] [] [vl qb v,vl qb w,.func (.func 60) [] []] (.bool b)) (qdv (FzL.cons (Ud (qC qb _ (nl rfl))) (FzL.cons (Ud (qC qb _ (nl rfl))) (FzL.cons (Fz.func FzL.nil FzL.nil) FzL.nil))) (qcU N v w a) tB)) az) ?_);refine Goes.ret ?_;obtain rfl:=si h;exact(gw2 [.bool b] (Ua tB))
def vF (a:Int) (b:List Int) (c:List Int):Option Unit:=
 some ()
theorem qbU (a:Int) (b:List Int) (c:List Int) (h:vF a b c=some ()):qc ZT (.fn 31) (.i a::(kAt b c)) [] (.slice 0 0 5 5 2) (.cells [.str [101,120,112,111,110,101,110,116],.func (.func 48) [] [.ptr 1 0,.ptr 2 0],.str [112,101,114,109],.func (.func 50) [] [.ptr 3 0,.ptr 1 0,.ptr 2 0],.str [108,105,110,107],.func (.func 51) [] [.ptr 3 0,.ptr 1 0,.ptr 2 0],.str [98,117,114,97,117],.func (.func 54) [] [.ptr 3 0,.ptr 1 0,.ptr 2 0],.str [102,111,114,109],.func (.func 61) [] [.ptr 3 0,.ptr 1 0,.ptr 2 0]]::(kD b (kD c (kAA a [])))):=by
 unfold vF at h;refine Ui Tryz.func31 rfl rfl (m:=18) rfl (rs:=[.tmp 6]) rfl (l:=(kC a b (kAp c []))) rfl ?_;intro B hB;refine sg fol (kBX []) (kAA a (kD b (kD c []))) ?_;refine sg fol [(6,.slice 3 0 5 5 2)] (kAA a (kD b (kD c [.cells [.str [101,120,112,111,110,101,110,116],.func (.func 48) [] [.ptr 1 0,.ptr 2 0],.str [112,101,114,109],.func (.func 50) [] [.ptr 0 0,.ptr 1 0,.ptr 2 0],.str [108,105,110,107],.func (.func 51) [] [.ptr 0 0,.ptr 1 0,.ptr 2 0],.str [98,117,114,97,117],.func (.func 54) [] [.ptr 0 0,.ptr 1 0,.ptr 2 0],.str [102,111,114,109],.func (.func 61) [] [.ptr 0 0,.ptr 1 0,.ptr 2 0]]]))) ?_;refine Goes.ret ?_;exact(gh2 [.slice 3 0 5 5 2] (Uc [] [some 3,some 1,some 2,some 0] (by rw[hB];rfl) rfl (.keep (.slice rfl) .nil) (.kb rfl (.cells (rc (.same nS) (rc (.funcL (sn) (rc (.ptr rfl) (rc (.ptr rfl) rn))) (rc (.same nS) (rc (.funcL (sn) (rc (.ptr rfl) (rc (.ptr rfl) (rc (.ptr rfl) rn)))) (rc (.same nS) (rc (.funcL (sn) (rc (.ptr rfl) (rc (.ptr rfl) (rc (.ptr rfl) rn)))) (rc (.same nS) (rc (.funcL (sn) (rc (.ptr rfl) (rc (.ptr rfl) (rc (.ptr rfl) rn)))) (rc (.same nS) (rc (.funcL (sn) (rc (.ptr rfl) (rc (.ptr rfl) (rc (.ptr rfl) rn)))) rn))))))))))) (.kb rfl (.same sn) (.kb rfl (.same sn) (.kb rfl (.same sn) .nil))))))
def zk (N:Nat) (a:List Int) (b:List Int):Option Bool:=
 (qaj N a).bind fun c=>
 (qaj N b).bind fun d=>
 some (!decide (c=d))
theorem qbq (N:Nat) (a:List Int) (b:List Int) {res:Bool} (h:zk N a b=some res):qc ZT (.fn 48) [.fptr [vl encI a] 0,.fptr [vl encI b] 0] [] (.bool res) []:=by
 unfold zk at h;refine Ub Tryz.func48 rfl rfl (m:=8) rfl (rs:=[.tmp 2]) rfl (l:=[(0,.fptr [vl encI a] 0),(1,.fptr [vl encI b] 0)]) rfl ?_;refine sh fol [(0,.fptr [vl encI a] 0),(1,.fptr [vl encI b] 0)] ?_;obtain⟨e,c,h⟩:=bnd h;obtain⟨f,d,h⟩:=bnd h;refine sq (gr fol [1,3] [(2,.bool (!decide (e=f)))] (ac (cv (qdI N a c)) (ac (cv (qdI N b d)) az)) ?_);refine Goes.ret ?_;obtain rfl:=si h;exact(gw2 [.bool (!decide (e=f))] (Ua tB))
def zo (N:Nat) (a:Int) (b:List Int) (c:List Int):Option Bool:=
 (qch N a b).bind fun d=>
 (qch N a c).bind fun e=>
 (zG N d e).bind fun f=>
 some (!f)
theorem qbm (N:Nat) (a:Int) (b:List Int) (c:List Int) {res:Bool} (h:zo N a b c=some res):qc ZT (.fn 50) [.fptr [.i a] 0,.fptr [vl encI b] 0,.fptr [vl encI c] 0] [] (.bool res) []:=by
 unfold zo at h;refine Ub Tryz.func50 rfl rfl (m:=12) rfl (rs:=[.tmp 3]) rfl (l:=[(0,.fptr [.i a] 0),(1,.fptr [vl encI b] 0),(2,.fptr [vl encI c] 0)]) rfl ?_;refine sh fol [(0,.fptr [.i a] 0),(1,.fptr [vl encI b] 0),(2,.fptr [vl encI c] 0)] ?_;obtain⟨j,d,h⟩:=bnd h;obtain⟨k,e,h⟩:=bnd h;obtain⟨g,f,h⟩:=bnd h;refine sq (gr fol [2,5,6] (kBm (!g)) (ac (cv (qf8 N a b d)) (ac (cv (qf8 N a c e)) (ac (cv (qaS N j k f)) az))) ?_);refine Goes.ret ?_;obtain rfl:=si h;exact(gw2 [.bool (!g)] (Ua tB))
def zi (N:Nat) (a:Int) (b:List Int) (c:List Int):Option Bool:=
 (qb9 N a b).bind fun d=>
 (qb9 N a c).bind fun e=>
 (qN N d e).bind fun f=>
 some (!f)
theorem qbp (N:Nat) (a:Int) (b:List Int) (c:List Int) {res:Bool} (h:zi N a b c=some res):qc ZT (.fn 51) [.fptr [.i a] 0,.fptr [vl encI b] 0,.fptr [vl encI c] 0] [] (.bool res) []:=by
 unfold zi at h;refine Ub Tryz.func51 rfl rfl (m:=12) rfl (rs:=[.tmp 3]) rfl (l:=[(0,.fptr [.i a] 0),(1,.fptr [vl encI b] 0),(2,.fptr [vl encI c] 0)]) rfl ?_;refine sh fol [(0,.fptr [.i a] 0),(1,.fptr [vl encI b] 0),(2,.fptr [vl encI c] 0)] ?_;obtain⟨g,d,h⟩:=bnd h;obtain⟨j,e,h⟩:=bnd h;obtain⟨k,f,h⟩:=bnd h;refine sq (gr fol [2,5,6] (kBm (!k)) (ac (cv (qf9 N a b d)) (ac (cv (qf9 N a c e)) (ac (hs (.call 52 [vl (qg encI) g,vl (qg encI) j,.func (.func 36) [] []] [] [] [vl (qg encI) g,vl (qg encI) j,.func (.func 36) [] []] (.bool k)) (qdv (FzL.cons (Ud (qC (qg encI) _ (nl rfl))) (FzL.cons (Ud (qC (qg encI) _ (nl rfl))) (FzL.cons (Fz.func FzL.nil FzL.nil) FzL.nil))) (qbb N g j f) tB)) az))) ?_);refine Goes.ret ?_;obtain rfl:=si h;exact(gw2 [.bool (!k)] (Ua tB))
def qD (N:Nat) (a:List (List qo)) (b:List (List qo)):Nat->Int->Option (Unit⊕Bool)
 |0,_=>none
 |K+1,c=>
  if c<(a.length:Int)then
  (idx a c).bind fun d=>
  (idx b c).bind fun e=>
  (ky N d e).bind fun f=>
  if(!f)=true then
  some (.inr false)
  else
  qD N a b K (w64 (c+1))
  else
  some (.inl ())
def qP (N:Nat) (a:List (List qo)) (b:List (List qo)):Option Bool:=
 if(!decide ((a.length:Int)=(b.length:Int)))=true then
 some false
 else
 (qD N a b N 0).bind (fun
 |(.inl ())=>
 some true
 |(.inr c)=>
 some c)
theorem qcV (N:Nat) (a:List (List qo)) (b:List (List qo)) {res:Bool} (h:qP N a b=some res):qc ZT (.fn 57) [vl (qg qb) a,vl (qg qb) b,.func (.func 58) [] []] [] (.bool res) []:=by
 unfold qP at h;refine Ub Tryz.func57 rfl rfl (m:=32) rfl (rs:=[.tmp 6]) rfl (l:=[(0,vl (qg qb) a),(1,vl (qg qb) b),(2,.func (.func 58) [] [])]) rfl ?_;refine sh fol [(0,vl (qg qb) a),(1,vl (qg qb) b),(2,.func (.func 58) [] [])] ?_;refine sq ?_;refine sh fol ((0,vl (qg qb) a)::(1,vl (qg qb) b)::(2,.func (.func 58) [] [])::(kBR (!decide ((a.length:Int)=(b.length:Int))))) ?_;refine ihB h (fun o h=>?_) (fun o h=>?_)
 ·refine sh fol kAg ?_;refine Goes.ret ?_;obtain rfl:=si h;exact(gw2 [.bool false] (Ua tB))
 refine Goes.skip ?_;refine sq ?_;refine sh fol ((1,vl (qg qb) b)::(2,.func (.func 58) [] [])::(15,vl (qg qb) a)::(kBo (a.length:Int))) ?_;refine Goes.block ?_;obtain⟨g,g3,h⟩:=bnd h;refine Goes.imp (Q:=fun x s'=>(x= .exit 0/\(.inl ())=g/\Sub s' (ofG 32 [],[]))\/(x= .ret/\ ∃k,(.inr k)=g/\jw ZT [.tmp 6] (.bool k) .ret s')) ?_ ?_
 ·refine Ue (fun M s=> ∃(c:Int),s=(ofG 32 ((1,vl (qg qb) b)::(2,.func (.func 58) [] [])::(15,vl (qg qb) a)::(kAH (a.length:Int) c)),[])/\qD N a b M c=some g) ?_ (m:=N) ⟨_,rfl,g3⟩;rintro M s ⟨c,rfl,g3⟩
  cases M with
  |zero=>simp only[qD]at g3;cases g3
  |succ M=>
   rw[qD]at g3;refine sh fol ((1,vl (qg qb) b)::(2,.func (.func 58) [] [])::(15,vl (qg qb) a)::(16,.i (a.length:Int))::(17,.i c)::(kBZ (decide (c<(a.length:Int))))) ?_;refine sq ?_;refine ihD g3 (fun p g3=>?_) (fun p g3=>?_)
   ·refine Goes.skip ?_;refine sq (Goes.block ?_);obtain⟨j,d,g3⟩:=bnd g3;refine sq (gr fol [1,2] ((1,vl (qg qb) b)::(2,.func (.func 58) [] [])::(7,.i c)::(8,vl qb j)::(15,vl (qg qb) a)::(kAH (a.length:Int) c)) (ac (iv qqt (qg qb) d) (ac (lv 0 ce96 (qg qb) d rfl) az)) ?_);obtain⟨n,e,g3⟩:=bnd g3;refine sq (gr fol [2,3] ((1,vl (qg qb) b)::(2,.func (.func 58) [] [])::(8,vl qb j)::(9,vl qb n)::(15,vl (qg qb) a)::(kAH (a.length:Int) c)) (ac (iv qqt (qg qb) e) (ac (lv 0 ce96 (qg qb) e rfl) az)) ?_);obtain⟨q,f,g3⟩:=bnd g3;refine sq (gr fol [3] [(1,vl (qg qb) b),(2,.func (.func 58) [] []),(15,vl (qg qb) a),(16,.i (a.length:Int)),(17,.i c),(30,.bool (!q))] (ac (cv (qdV N j n f)) az) ?_);refine ihB g3 (fun r g3=>?_) (fun r g3=>?_)
    ·refine sh fol kAg ?_;refine Goes.ret ?_;obtain rfl:=si g3;exact Or.inr (⟨rfl,_,rfl,(gw2 [.bool false] (Ua tB))⟩)
    refine Goes.skip ?_;refine gh fol ((1,vl (qg qb) b)::(2,.func (.func 58) [] [])::(15,vl (qg qb) a)::(kAH (a.length:Int) (w64 (c+1)))) ?_;exact⟨M,(ofG 32 ((1,vl (qg qb) b)::(2,.func (.func 58) [] [])::(15,vl (qg qb) a)::(kAH (a.length:Int) (w64 (c+1)))),[]),Nat.lt_succ_self _,(Sub.refl _),_,rfl,g3⟩
   refine Goes.exit ?_;obtain rfl:=si g3;exact Or.inl (⟨rfl,rfl,(Sub.keep [] rfl rfl)⟩)
 rintro x s' (⟨rfl,rfl,hsub⟩|⟨rfl,t,rfl,hret⟩)
 ·try dsimp only at h
  refine Goes.sub hsub ?_;refine sh fol [(6,.bool true)] ?_;refine Goes.ret ?_;obtain rfl:=si h;exact(gw2 [.bool true] (Ua tB))
 try dsimp only at h
 obtain rfl:=si h;exact hret
def zm (N:Nat) (a:Int) (b:List Int) (c:List Int):Option Bool:=
 (qg0 2).bind fun d=>
 (qbJ N a b d).bind fun e=>
 (qg0 2).bind fun f=>
 (qbJ N a c f).bind fun g=>
 (qP N e g).bind fun h=>
 some (!h)
theorem qbs (N:Nat) (a:Int) (b:List Int) (c:List Int) {res:Bool} (h:zm N a b c=some res):qc ZT (.fn 54) [.fptr [.i a] 0,.fptr [vl encI b] 0,.fptr [vl encI c] 0] [] (.bool res) []:=by
 unfold zm at h;refine Ub Tryz.func54 rfl rfl (m:=18) rfl (rs:=[.tmp 3]) rfl (l:=[(0,.fptr [.i a] 0),(1,.fptr [vl encI b] 0),(2,.fptr [vl encI c] 0)]) rfl ?_;refine sh fol [(0,.fptr [.i a] 0),(1,.fptr [vl encI b] 0),(2,.fptr [vl encI c] 0)] ?_;obtain⟨p,d,h⟩:=bnd h;obtain⟨k,e,h⟩:=bnd h;obtain⟨q,f,h⟩:=bnd h;obtain⟨n,g,h⟩:=bnd h;refine sq (gr fol [2,3,6,7] [(4,vl (qg qb) k),(5,vl (qg qb) n)] (ac (cv (qd5 2 d)) (ac (cv (qe7 N a b p e)) (ac (cv (qd5 2 f)) (ac (cv (qe7 N a c q g)) az)))) ?_);obtain⟨o,j,h⟩:=bnd h;refine sq (gr fol [2] (kBm (!o)) (ac (hs (.call 57 [vl (qg qb) k,vl (qg qb) n,.func (.func 58) [] []] [] [] [vl (qg qb) k,vl (qg qb) n,.func (.func 58) [] []] (.bool o)) (qdv (FzL.cons (Ud (qC (qg qb) _ (nl rfl))) (FzL.cons (Ud (qC (qg qb) _ (nl rfl))) (FzL.cons (Fz.func FzL.nil FzL.nil) FzL.nil))) (qcV N k n j) tB)) az) ?_);refine Goes.ret ?_;obtain rfl:=si h;exact(gw2 [.bool (!o)] (Ua tB))
def zA (N:Nat) (a:Int) (b:List Int) (c:List Int):Option Bool:=
 (zK N a b c).bind fun d=>
 some (!d)
theorem qbo (N:Nat) (a:Int) (b:List Int) (c:List Int) {res:Bool} (h:zA N a b c=some res):qc ZT (.fn 61) [.fptr [.i a] 0,.fptr [vl encI b] 0,.fptr [vl encI c] 0] [] (.bool res) []:=by
 unfold zA at h;refine Ub Tryz.func61 rfl rfl (m:=9) rfl (rs:=[.tmp 3]) rfl (l:=[(0,.fptr [.i a] 0),(1,.fptr [vl encI b] 0),(2,.fptr [vl encI c] 0)]) rfl ?_;refine sh fol [(0,.fptr [.i a] 0),(1,.fptr [vl encI b] 0),(2,.fptr [vl encI c] 0)] ?_;obtain⟨e,d,h⟩:=bnd h;refine sq (gr fol [3] (kBm (!e)) (ac (cv (qdg N a b c d)) az) ?_);refine Goes.ret ?_;obtain rfl:=si h;exact(gw2 [.bool (!e)] (Ua tB))
def kz (N:Nat) (n:Int) (a:List Int) (b:List Int):Nat->Int->Option (Unit⊕(Str×Int))
 |0,_=>none
 |K+1,c=>
  if c<5 then
  if c=0 then
  (zk N a b).bind fun d=>
  if d=true then
  some (.inr ([101,120,112,111,110,101,110,116],0))
  else
  kz N n a b K (w64 (c+1))
  else
  if c=1 then
  (zo N n a b).bind fun e=>
  if e=true then
  some (.inr ([112,101,114,109],0))
  else
  kz N n a b K (w64 (c+1))
  else
  if c=2 then
  (zi N n a b).bind fun f=>
  if f=true then
  some (.inr ([108,105,110,107],0))
  else
  kz N n a b K (w64 (c+1))
  else
  if c=3 then
  (zm N n a b).bind fun g=>
  if g=true then
  some (.inr ([98,117,114,97,117],0))
  else
  kz N n a b K (w64 (c+1))
  else
  if c=4 then
  (zA N n a b).bind fun h=>
  if h=true then
  some (.inr ([102,111,114,109],0))
  else
  kz N n a b K (w64 (c+1))
  else
  none
  else
  some (.inl ())
def qbe (N:Nat) (n:Int) (a:List Int) (b:List Int):Option (Str×Int):=
 (jK N n a b).bind fun d=>
 if(!decide (d=0))=true then
 some ([],d)
 else
 (vF n a b).bind fun _=>
 (kz N n a b N 0).bind (fun
 |(.inl ())=>
 some ([],7)
 |(.inr c)=>
 some c)
theorem qeK (N:Nat) (n:Int) (a:List Int) (b:List Int) {res:Str×Int} (h:qbe N n a b=some res):qc ZT (.fn 10) (.i n::(kAt a b)) [] (.tuple [.str res.1,.i res.2]) []:=by
 unfold qbe at h;refine Ub Tryz.func10 rfl rfl (m:=33) rfl (rs:=[.tmp 6,.tmp 7]) rfl (l:=(kC n a (kAp b []))) rfl ?_;refine sh fol (kC n a (kAp b [])) ?_;refine sq ?_;obtain⟨k,o,h⟩:=bnd h;refine sq (gr fol [3] (kC n a (kAp b (kAx k))) (ac (cv (xq N n a b o)) az) ?_);refine sh fol (kC n a (kAp b [(8,.i k),(16,.bool (!decide (k=0)))])) ?_;refine ihB h (fun J h=>?_) (fun J h=>?_)
 ·refine sh fol [(6,.str []),(7,.i k)] ?_;refine Goes.ret ?_;obtain rfl:=si h;exact(gw2 [.str [],.i k] (FzW.tuple (ql.cons (Ua tS) (ql.cons (Ua tI) ql.nil))))
 refine Goes.skip ?_;refine sq ?_;obtain⟨_,p,h⟩:=bnd h;refine sq (gq fol [3] [(21,.slice 0 0 5 5 2),(22,.i 5),(23,.i 0)] (.cells [.str [101,120,112,111,110,101,110,116],.func (.func 48) [] [.ptr 1 0,.ptr 2 0],.str [112,101,114,109],.func (.func 50) [] [.ptr 3 0,.ptr 1 0,.ptr 2 0],.str [108,105,110,107],.func (.func 51) [] [.ptr 3 0,.ptr 1 0,.ptr 2 0],.str [98,117,114,97,117],.func (.func 54) [] [.ptr 3 0,.ptr 1 0,.ptr 2 0],.str [102,111,114,109],.func (.func 61) [] [.ptr 3 0,.ptr 1 0,.ptr 2 0]]::(kD a (kD b (kAA n [])))) (ac (hs (.callH 31 (.i n::(kAt a b)) [] [] (.slice 0 0 5 5 2) (.cells [.str [101,120,112,111,110,101,110,116],.func (.func 48) [] [.ptr 1 0,.ptr 2 0],.str [112,101,114,109],.func (.func 50) [] [.ptr 3 0,.ptr 1 0,.ptr 2 0],.str [108,105,110,107],.func (.func 51) [] [.ptr 3 0,.ptr 1 0,.ptr 2 0],.str [98,117,114,97,117],.func (.func 54) [] [.ptr 3 0,.ptr 1 0,.ptr 2 0],.str [102,111,114,109],.func (.func 61) [] [.ptr 3 0,.ptr 1 0,.ptr 2 0]]::(kD a (kD b (kAA n []))))) (zH [] [some 0,some 1,some 2,some 3] (qbU n a b p) .nil rfl rfl (.new rfl rfl (.cells (rc (.same nS) (rc (.funcL (sn) (rc (.ptr rfl) (rc (.ptr rfl) rn))) (rc (.same nS) (rc (.funcL (sn) (rc (.ptr rfl) (rc (.ptr rfl) (rc (.ptr rfl) rn)))) (rc (.same nS) (rc (.funcL (sn) (rc (.ptr rfl) (rc (.ptr rfl) (rc (.ptr rfl) rn)))) (rc (.same nS) (rc (.funcL (sn) (rc (.ptr rfl) (rc (.ptr rfl) (rc (.ptr rfl) rn)))) (rc (.same nS) (rc (.funcL (sn) (rc (.ptr rfl) (rc (.ptr rfl) (rc (.ptr rfl) rn)))) rn))))))))))) rfl (.new rfl rfl (.cells (rc (.same (qa encI _)) rn)) rfl (.new rfl rfl (.cells (rc (.same (qa encI _)) rn)) rfl (.new rfl rfl (.cells (rc (.same nI) rn)) rfl .nil)))) (rc (.same nI) (rc (.same (qa encI _)) (rc (.same (qa encI _)) rn))) (.slice rfl) rfl)) az) ?_);refine Goes.block ?_;obtain⟨A,g5,h⟩:=bnd h;refine Goes.imp (Q:=fun x s'=>(x= .exit 0/\(.inl ())=A/\Sub s' (ofG 33 [],[]))\/(x= .ret/\ ∃B,(.inr B)=A/\jw ZT [.tmp 6,.tmp 7] (.tuple [.str B.1,.i B.2]) .ret s')) ?_ ?_
 ·refine Ue (fun M s=> ∃(c:Int),s=(ofG 33 (kQ c []),(.cells [.str [101,120,112,111,110,101,110,116],.func (.func 48) [] [.ptr 1 0,.ptr 2 0],.str [112,101,114,109],.func (.func 50) [] [.ptr 3 0,.ptr 1 0,.ptr 2 0],.str [108,105,110,107],.func (.func 51) [] [.ptr 3 0,.ptr 1 0,.ptr 2 0],.str [98,117,114,97,117],.func (.func 54) [] [.ptr 3 0,.ptr 1 0,.ptr 2 0],.str [102,111,114,109],.func (.func 61) [] [.ptr 3 0,.ptr 1 0,.ptr 2 0]]::(kD a (kD b (kAA n [])))))/\kz N n a b M c=some A) ?_ (m:=N) ⟨_,rfl,g5⟩;rintro M s ⟨c,rfl,g5⟩
  cases M with
  |zero=>simp only[kz]at g5;cases g5
  |succ M=>
   rw[kz]at g5;refine sh fol (kQ c [(24,.bool (decide (c<5)))]) ?_;refine sq ?_;refine ihD g5 (fun K g5=>?_) (fun K g5=>?_)
   ·refine Goes.skip ?_;refine sq (Goes.block ?_);refine sq ?_;rcases wyD g5 with⟨H,g5⟩|⟨H,g5⟩
    ·refine gq fol [0] (kBj (kQ c [])) (.cells [.str [101,120,112,111,110,101,110,116],.func (.func 48) [] [.ptr 1 0,.ptr 2 0],.str [112,101,114,109],.func (.func 50) [] [.ptr 3 0,.ptr 1 0,.ptr 2 0],.str [108,105,110,107],.func (.func 51) [] [.ptr 3 0,.ptr 1 0,.ptr 2 0],.str [98,117,114,97,117],.func (.func 54) [] [.ptr 3 0,.ptr 1 0,.ptr 2 0],.str [102,111,114,109],.func (.func 61) [] [.ptr 3 0,.ptr 1 0,.ptr 2 0]]::(kD a (kD b (kAA n [.cells [.str [101,120,112,111,110,101,110,116],.func (.func 48) [] [.ptr 1 0,.ptr 2 0]]])))) (ac (hs (.done (.opt (qd ZT 64 (.slice 0 0 5 5 2) (.i c))) (.ptr 0 0)) (ixA (ot H) (by kernel_rfl))) az) ?_;obtain⟨q,d,g5⟩:=bnd g5;refine sq (gr fol [2] (kBj (kQ c [(29,.bool q)])) (ac (hs (.call 48 [.ptr 1 0,.ptr 2 0] (.cells [.str [101,120,112,111,110,101,110,116],.func (.func 48) [] [.ptr 1 0,.ptr 2 0],.str [112,101,114,109],.func (.func 50) [] [.ptr 3 0,.ptr 1 0,.ptr 2 0],.str [108,105,110,107],.func (.func 51) [] [.ptr 3 0,.ptr 1 0,.ptr 2 0],.str [98,117,114,97,117],.func (.func 54) [] [.ptr 3 0,.ptr 1 0,.ptr 2 0],.str [102,111,114,109],.func (.func 61) [] [.ptr 3 0,.ptr 1 0,.ptr 2 0]]::(kD a (kD b (kAA n [.cells [.str [101,120,112,111,110,101,110,116],.func (.func 48) [] [.ptr 1 0,.ptr 2 0]]])))) [1,2] [.fptr [vl encI a] 0,.fptr [vl encI b] 0] (.bool q)) (vZ (FzL.cons (Fz.ptr rfl rfl (FzL.cons (Ud (qC encI _ (nl rfl))) FzL.nil)) (FzL.cons (Fz.ptr rfl rfl (FzL.cons (Ud (qC encI _ (nl rfl))) FzL.nil)) FzL.nil)) (qbq N a b d) tB rfl)) az) ?_);refine ihB g5 (fun C g5=>?_) (fun C g5=>?_)
     ·refine sh fol ((6,.str [101,120,112,111,110,101,110,116])::kBH) ?_;refine Goes.ret ?_;obtain rfl:=si g5;exact Or.inr (⟨rfl,_,rfl,(gw2 [.str [101,120,112,111,110,101,110,116],.i 0] (FzW.tuple (ql.cons (Ua tS) (ql.cons (Ua tI) ql.nil))))⟩)
     refine Goes.skip ?_;refine gh fol (kQ (w64 (c+1)) []) ?_;exact⟨M,(ofG 33 (kQ (w64 (c+1)) []),(.cells [.str [101,120,112,111,110,101,110,116],.func (.func 48) [] [.ptr 1 0,.ptr 2 0],.str [112,101,114,109],.func (.func 50) [] [.ptr 3 0,.ptr 1 0,.ptr 2 0],.str [108,105,110,107],.func (.func 51) [] [.ptr 3 0,.ptr 1 0,.ptr 2 0],.str [98,117,114,97,117],.func (.func 54) [] [.ptr 3 0,.ptr 1 0,.ptr 2 0],.str [102,111,114,109],.func (.func 61) [] [.ptr 3 0,.ptr 1 0,.ptr 2 0]]::(kD a (kD b (kAA n []))))),Nat.lt_succ_self _,(Uc [] [some 0,some 1,some 2,some 3] rfl rfl (.keep (.slice rfl) (.keep (.same nI) (.keep (.same nI) .nil))) (.kb rfl (.cells (rc (.same nS) (rc (.funcL (sn) (rc (.ptr rfl) (rc (.ptr rfl) rn))) (rc (.same nS) (rc (.funcL (sn) (rc (.ptr rfl) (rc (.ptr rfl) (rc (.ptr rfl) rn)))) (rc (.same nS) (rc (.funcL (sn) (rc (.ptr rfl) (rc (.ptr rfl) (rc (.ptr rfl) rn)))) (rc (.same nS) (rc (.funcL (sn) (rc (.ptr rfl) (rc (.ptr rfl) (rc (.ptr rfl) rn)))) (rc (.same nS) (rc (.funcL (sn) (rc (.ptr rfl) (rc (.ptr rfl) (rc (.ptr rfl) rn)))) rn))))))))))) (.kb rfl (.same sn) (.kb rfl (.same sn) (.kb rfl (.same sn) .nil))))),_,rfl,g5⟩
    rcases wyD g5 with⟨I,g5⟩|⟨I,g5⟩
    ·refine gq fol [0] (kBj (kQ c [])) (.cells [.str [101,120,112,111,110,101,110,116],.func (.func 48) [] [.ptr 1 0,.ptr 2 0],.str [112,101,114,109],.func (.func 50) [] [.ptr 3 0,.ptr 1 0,.ptr 2 0],.str [108,105,110,107],.func (.func 51) [] [.ptr 3 0,.ptr 1 0,.ptr 2 0],.str [98,117,114,97,117],.func (.func 54) [] [.ptr 3 0,.ptr 1 0,.ptr 2 0],.str [102,111,114,109],.func (.func 61) [] [.ptr 3 0,.ptr 1 0,.ptr 2 0]]::(kD a (kD b (kAA n [.cells [.str [112,101,114,109],.func (.func 50) [] [.ptr 3 0,.ptr 1 0,.ptr 2 0]]])))) (ac (hs (.done (.opt (qd ZT 64 (.slice 0 0 5 5 2) (.i c))) (.ptr 0 2)) (ixA (ot I) (by kernel_rfl))) az) ?_;obtain⟨r,e,g5⟩:=bnd g5;refine sq (gr fol [2] (kBj (kQ c [(29,.bool r)])) (ac (hs (.call 50 kBQ (.cells [.str [101,120,112,111,110,101,110,116],.func (.func 48) [] [.ptr 1 0,.ptr 2 0],.str [112,101,114,109],.func (.func 50) [] [.ptr 3 0,.ptr 1 0,.ptr 2 0],.str [108,105,110,107],.func (.func 51) [] [.ptr 3 0,.ptr 1 0,.ptr 2 0],.str [98,117,114,97,117],.func (.func 54) [] [.ptr 3 0,.ptr 1 0,.ptr 2 0],.str [102,111,114,109],.func (.func 61) [] [.ptr 3 0,.ptr 1 0,.ptr 2 0]]::(kD a (kD b (kAA n [.cells [.str [112,101,114,109],.func (.func 50) [] [.ptr 3 0,.ptr 1 0,.ptr 2 0]]])))) [1,2,3] [.fptr [.i n] 0,.fptr [vl encI a] 0,.fptr [vl encI b] 0] (.bool r)) (vZ (FzL.cons (Fz.ptr rfl rfl (FzL.cons (Ud tI) FzL.nil)) (FzL.cons (Fz.ptr rfl rfl (FzL.cons (Ud (qC encI _ (nl rfl))) FzL.nil)) (FzL.cons (Fz.ptr rfl rfl (FzL.cons (Ud (qC encI _ (nl rfl))) FzL.nil)) FzL.nil))) (qbm N n a b e) tB rfl)) az) ?_);refine ihB g5 (fun D g5=>?_) (fun D g5=>?_)
     ·refine sh fol ((6,.str [112,101,114,109])::kBH) ?_;refine Goes.ret ?_;obtain rfl:=si g5;exact Or.inr (⟨rfl,_,rfl,(gw2 [.str [112,101,114,109],.i 0] (FzW.tuple (ql.cons (Ua tS) (ql.cons (Ua tI) ql.nil))))⟩)
     refine Goes.skip ?_;refine gh fol (kQ (w64 (c+1)) []) ?_;exact⟨M,(ofG 33 (kQ (w64 (c+1)) []),(.cells [.str [101,120,112,111,110,101,110,116],.func (.func 48) [] [.ptr 1 0,.ptr 2 0],.str [112,101,114,109],.func (.func 50) [] [.ptr 3 0,.ptr 1 0,.ptr 2 0],.str [108,105,110,107],.func (.func 51) [] [.ptr 3 0,.ptr 1 0,.ptr 2 0],.str [98,117,114,97,117],.func (.func 54) [] [.ptr 3 0,.ptr 1 0,.ptr 2 0],.str [102,111,114,109],.func (.func 61) [] [.ptr 3 0,.ptr 1 0,.ptr 2 0]]::(kD a (kD b (kAA n []))))),Nat.lt_succ_self _,(Uc [] [some 0,some 1,some 2,some 3] rfl rfl (.keep (.slice rfl) (.keep (.same nI) (.keep (.same nI) .nil))) (.kb rfl (.cells (rc (.same nS) (rc (.funcL (sn) (rc (.ptr rfl) (rc (.ptr rfl) rn))) (rc (.same nS) (rc (.funcL (sn) (rc (.ptr rfl) (rc (.ptr rfl) (rc (.ptr rfl) rn)))) (rc (.same nS) (rc (.funcL (sn) (rc (.ptr rfl) (rc (.ptr rfl) (rc (.ptr rfl) rn)))) (rc (.same nS) (rc (.funcL (sn) (rc (.ptr rfl) (rc (.ptr rfl) (rc (.ptr rfl) rn)))) (rc (.same nS) (rc (.funcL (sn) (rc (.ptr rfl) (rc (.ptr rfl) (rc (.ptr rfl) rn)))) rn))))))))))) (.kb rfl (.same sn) (.kb rfl (.same sn) (.kb rfl (.same sn) .nil))))),_,rfl,g5⟩
    rcases wyD g5 with⟨t,g5⟩|⟨t,g5⟩
    ·refine gq fol [0] (kBj (kQ c [])) (.cells [.str [101,120,112,111,110,101,110,116],.func (.func 48) [] [.ptr 1 0,.ptr 2 0],.str [112,101,114,109],.func (.func 50) [] [.ptr 3 0,.ptr 1 0,.ptr 2 0],.str [108,105,110,107],.func (.func 51) [] [.ptr 3 0,.ptr 1 0,.ptr 2 0],.str [98,117,114,97,117],.func (.func 54) [] [.ptr 3 0,.ptr 1 0,.ptr 2 0],.str [102,111,114,109],.func (.func 61) [] [.ptr 3 0,.ptr 1 0,.ptr 2 0]]::(kD a (kD b (kAA n [.cells [.str [108,105,110,107],.func (.func 51) [] [.ptr 3 0,.ptr 1 0,.ptr 2 0]]])))) (ac (hs (.done (.opt (qd ZT 64 (.slice 0 0 5 5 2) (.i c))) (.ptr 0 4)) (ixA (ot t) (by kernel_rfl))) az) ?_;obtain⟨u,f,g5⟩:=bnd g5;refine sq (gr fol [2] (kBj (kQ c [(29,.bool u)])) (ac (hs (.call 51 kBQ (.cells [.str [101,120,112,111,110,101,110,116],.func (.func 48) [] [.ptr 1 0,.ptr 2 0],.str [112,101,114,109],.func (.func 50) [] [.ptr 3 0,.ptr 1 0,.ptr 2 0],.str [108,105,110,107],.func (.func 51) [] [.ptr 3 0,.ptr 1 0,.ptr 2 0],.str [98,117,114,97,117],.func (.func 54) [] [.ptr 3 0,.ptr 1 0,.ptr 2 0],.str [102,111,114,109],.func (.func 61) [] [.ptr 3 0,.ptr 1 0,.ptr 2 0]]::(kD a (kD b (kAA n [.cells [.str [108,105,110,107],.func (.func 51) [] [.ptr 3 0,.ptr 1 0,.ptr 2 0]]])))) [1,2,3] [.fptr [.i n] 0,.fptr [vl encI a] 0,.fptr [vl encI b] 0] (.bool u)) (vZ (FzL.cons (Fz.ptr rfl rfl (FzL.cons (Ud tI) FzL.nil)) (FzL.cons (Fz.ptr rfl rfl (FzL.cons (Ud (qC encI _ (nl rfl))) FzL.nil)) (FzL.cons (Fz.ptr rfl rfl (FzL.cons (Ud (qC encI _ (nl rfl))) FzL.nil)) FzL.nil))) (qbp N n a b f) tB rfl)) az) ?_);refine ihB g5 (fun E g5=>?_) (fun E g5=>?_)
     ·refine sh fol ((6,.str [108,105,110,107])::kBH) ?_;refine Goes.ret ?_;obtain rfl:=si g5;exact Or.inr (⟨rfl,_,rfl,(gw2 [.str [108,105,110,107],.i 0] (FzW.tuple (ql.cons (Ua tS) (ql.cons (Ua tI) ql.nil))))⟩)
     refine Goes.skip ?_;refine gh fol (kQ (w64 (c+1)) []) ?_;exact⟨M,(ofG 33 (kQ (w64 (c+1)) []),(.cells [.str [101,120,112,111,110,101,110,116],.func (.func 48) [] [.ptr 1 0,.ptr 2 0],.str [112,101,114,109],.func (.func 50) [] [.ptr 3 0,.ptr 1 0,.ptr 2 0],.str [108,105,110,107],.func (.func 51) [] [.ptr 3 0,.ptr 1 0,.ptr 2 0],.str [98,117,114,97,117],.func (.func 54) [] [.ptr 3 0,.ptr 1 0,.ptr 2 0],.str [102,111,114,109],.func (.func 61) [] [.ptr 3 0,.ptr 1 0,.ptr 2 0]]::(kD a (kD b (kAA n []))))),Nat.lt_succ_self _,(Uc [] [some 0,some 1,some 2,some 3] rfl rfl (.keep (.slice rfl) (.keep (.same nI) (.keep (.same nI) .nil))) (.kb rfl (.cells (rc (.same nS) (rc (.funcL (sn) (rc (.ptr rfl) (rc (.ptr rfl) rn))) (rc (.same nS) (rc (.funcL (sn) (rc (.ptr rfl) (rc (.ptr rfl) (rc (.ptr rfl) rn)))) (rc (.same nS) (rc (.funcL (sn) (rc (.ptr rfl) (rc (.ptr rfl) (rc (.ptr rfl) rn)))) (rc (.same nS) (rc (.funcL (sn) (rc (.ptr rfl) (rc (.ptr rfl) (rc (.ptr rfl) rn)))) (rc (.same nS) (rc (.funcL (sn) (rc (.ptr rfl) (rc (.ptr rfl) (rc (.ptr rfl) rn)))) rn))))))))))) (.kb rfl (.same sn) (.kb rfl (.same sn) (.kb rfl (.same sn) .nil))))),_,rfl,g5⟩
    rcases wyD g5 with⟨v,g5⟩|⟨v,g5⟩
    ·refine gq fol [0] (kBj (kQ c [])) (.cells [.str [101,120,112,111,110,101,110,116],.func (.func 48) [] [.ptr 1 0,.ptr 2 0],.str [112,101,114,109],.func (.func 50) [] [.ptr 3 0,.ptr 1 0,.ptr 2 0],.str [108,105,110,107],.func (.func 51) [] [.ptr 3 0,.ptr 1 0,.ptr 2 0],.str [98,117,114,97,117],.func (.func 54) [] [.ptr 3 0,.ptr 1 0,.ptr 2 0],.str [102,111,114,109],.func (.func 61) [] [.ptr 3 0,.ptr 1 0,.ptr 2 0]]::(kD a (kD b (kAA n [.cells [.str [98,117,114,97,117],.func (.func 54) [] [.ptr 3 0,.ptr 1 0,.ptr 2 0]]])))) (ac (hs (.done (.opt (qd ZT 64 (.slice 0 0 5 5 2) (.i c))) (.ptr 0 6)) (ixA (ot v) (by kernel_rfl))) az) ?_;obtain⟨w,g,g5⟩:=bnd g5;refine sq (gr fol [2] (kBj (kQ c [(29,.bool w)])) (ac (hs (.call 54 kBQ (.cells [.str [101,120,112,111,110,101,110,116],.func (.func 48) [] [.ptr 1 0,.ptr 2 0],.str [112,101,114,109],.func (.func 50) [] [.ptr 3 0,.ptr 1 0,.ptr 2 0],.str [108,105,110,107],.func (.func 51) [] [.ptr 3 0,.ptr 1 0,.ptr 2 0],.str [98,117,114,97,117],.func (.func 54) [] [.ptr 3 0,.ptr 1 0,.ptr 2 0],.str [102,111,114,109],.func (.func 61) [] [.ptr 3 0,.ptr 1 0,.ptr 2 0]]::(kD a (kD b (kAA n [.cells [.str [98,117,114,97,117],.func (.func 54) [] [.ptr 3 0,.ptr 1 0,.ptr 2 0]]])))) [1,2,3] [.fptr [.i n] 0,.fptr [vl encI a] 0,.fptr [vl encI b] 0] (.bool w)) (vZ (FzL.cons (Fz.ptr rfl rfl (FzL.cons (Ud tI) FzL.nil)) (FzL.cons (Fz.ptr rfl rfl (FzL.cons (Ud (qC encI _ (nl rfl))) FzL.nil)) (FzL.cons (Fz.ptr rfl rfl (FzL.cons (Ud (qC encI _ (nl rfl))) FzL.nil)) FzL.nil))) (qbs N n a b g) tB rfl)) az) ?_);refine ihB g5 (fun F g5=>?_) (fun F g5=>?_)
     ·refine sh fol ((6,.str [98,117,114,97,117])::kBH) ?_;refine Goes.ret ?_;obtain rfl:=si g5;exact Or.inr (⟨rfl,_,rfl,(gw2 [.str [98,117,114,97,117],.i 0] (FzW.tuple (ql.cons (Ua tS) (ql.cons (Ua tI) ql.nil))))⟩)
     refine Goes.skip ?_;refine gh fol (kQ (w64 (c+1)) []) ?_;exact⟨M,(ofG 33 (kQ (w64 (c+1)) []),(.cells [.str [101,120,112,111,110,101,110,116],.func (.func 48) [] [.ptr 1 0,.ptr 2 0],.str [112,101,114,109],.func (.func 50) [] [.ptr 3 0,.ptr 1 0,.ptr 2 0],.str [108,105,110,107],.func (.func 51) [] [.ptr 3 0,.ptr 1 0,.ptr 2 0],.str [98,117,114,97,117],.func (.func 54) [] [.ptr 3 0,.ptr 1 0,.ptr 2 0],.str [102,111,114,109],.func (.func 61) [] [.ptr 3 0,.ptr 1 0,.ptr 2 0]]::(kD a (kD b (kAA n []))))),Nat.lt_succ_self _,(Uc [] [some 0,some 1,some 2,some 3] rfl rfl (.keep (.slice rfl) (.keep (.same nI) (.keep (.same nI) .nil))) (.kb rfl (.cells (rc (.same nS) (rc (.funcL (sn) (rc (.ptr rfl) (rc (.ptr rfl) rn))) (rc (.same nS) (rc (.funcL (sn) (rc (.ptr rfl) (rc (.ptr rfl) (rc (.ptr rfl) rn)))) (rc (.same nS) (rc (.funcL (sn) (rc (.ptr rfl) (rc (.ptr rfl) (rc (.ptr rfl) rn)))) (rc (.same nS) (rc (.funcL (sn) (rc (.ptr rfl) (rc (.ptr rfl) (rc (.ptr rfl) rn)))) (rc (.same nS) (rc (.funcL (sn) (rc (.ptr rfl) (rc (.ptr rfl) (rc (.ptr rfl) rn)))) rn))))))))))) (.kb rfl (.same sn) (.kb rfl (.same sn) (.kb rfl (.same sn) .nil))))),_,rfl,g5⟩
    rcases wyD g5 with⟨y,g5⟩|⟨y,g5⟩
    ·refine gq fol [0] (kBj (kQ c [])) (.cells [.str [101,120,112,111,110,101,110,116],.func (.func 48) [] [.ptr 1 0,.ptr 2 0],.str [112,101,114,109],.func (.func 50) [] [.ptr 3 0,.ptr 1 0,.ptr 2 0],.str [108,105,110,107],.func (.func 51) [] [.ptr 3 0,.ptr 1 0,.ptr 2 0],.str [98,117,114,97,117],.func (.func 54) [] [.ptr 3 0,.ptr 1 0,.ptr 2 0],.str [102,111,114,109],.func (.func 61) [] [.ptr 3 0,.ptr 1 0,.ptr 2 0]]::(kD a (kD b (kAA n [.cells [.str [102,111,114,109],.func (.func 61) [] [.ptr 3 0,.ptr 1 0,.ptr 2 0]]])))) (ac (hs (.done (.opt (qd ZT 64 (.slice 0 0 5 5 2) (.i c))) (.ptr 0 8)) (ixA (ot y) (by kernel_rfl))) az) ?_;obtain⟨z,j,g5⟩:=bnd g5;refine sq (gr fol [2] (kBj (kQ c [(29,.bool z)])) (ac (hs (.call 61 kBQ (.cells [.str [101,120,112,111,110,101,110,116],.func (.func 48) [] [.ptr 1 0,.ptr 2 0],.str [112,101,114,109],.func (.func 50) [] [.ptr 3 0,.ptr 1 0,.ptr 2 0],.str [108,105,110,107],.func (.func 51) [] [.ptr 3 0,.ptr 1 0,.ptr 2 0],.str [98,117,114,97,117],.func (.func 54) [] [.ptr 3 0,.ptr 1 0,.ptr 2 0],.str [102,111,114,109],.func (.func 61) [] [.ptr 3 0,.ptr 1 0,.ptr 2 0]]::(kD a (kD b (kAA n [.cells [.str [102,111,114,109],.func (.func 61) [] [.ptr 3 0,.ptr 1 0,.ptr 2 0]]])))) [1,2,3] [.fptr [.i n] 0,.fptr [vl encI a] 0,.fptr [vl encI b] 0] (.bool z)) (vZ (FzL.cons (Fz.ptr rfl rfl (FzL.cons (Ud tI) FzL.nil)) (FzL.cons (Fz.ptr rfl rfl (FzL.cons (Ud (qC encI _ (nl rfl))) FzL.nil)) (FzL.cons (Fz.ptr rfl rfl (FzL.cons (Ud (qC encI _ (nl rfl))) FzL.nil)) FzL.nil))) (qbo N n a b j) tB rfl)) az) ?_);refine ihB g5 (fun G g5=>?_) (fun G g5=>?_)
     ·refine sh fol ((6,.str [102,111,114,109])::kBH) ?_;refine Goes.ret ?_;obtain rfl:=si g5;exact Or.inr (⟨rfl,_,rfl,(gw2 [.str [102,111,114,109],.i 0] (FzW.tuple (ql.cons (Ua tS) (ql.cons (Ua tI) ql.nil))))⟩)
     refine Goes.skip ?_;refine gh fol (kQ (w64 (c+1)) []) ?_;exact⟨M,(ofG 33 (kQ (w64 (c+1)) []),(.cells [.str [101,120,112,111,110,101,110,116],.func (.func 48) [] [.ptr 1 0,.ptr 2 0],.str [112,101,114,109],.func (.func 50) [] [.ptr 3 0,.ptr 1 0,.ptr 2 0],.str [108,105,110,107],.func (.func 51) [] [.ptr 3 0,.ptr 1 0,.ptr 2 0],.str [98,117,114,97,117],.func (.func 54) [] [.ptr 3 0,.ptr 1 0,.ptr 2 0],.str [102,111,114,109],.func (.func 61) [] [.ptr 3 0,.ptr 1 0,.ptr 2 0]]::(kD a (kD b (kAA n []))))),Nat.lt_succ_self _,(Uc [] [some 0,some 1,some 2,some 3] rfl rfl (.keep (.slice rfl) (.keep (.same nI) (.keep (.same nI) .nil))) (.kb rfl (.cells (rc (.same nS) (rc (.funcL (sn) (rc (.ptr rfl) (rc (.ptr rfl) rn))) (rc (.same nS) (rc (.funcL (sn) (rc (.ptr rfl) (rc (.ptr rfl) (rc (.ptr rfl) rn)))) (rc (.same nS) (rc (.funcL (sn) (rc (.ptr rfl) (rc (.ptr rfl) (rc (.ptr rfl) rn)))) (rc (.same nS) (rc (.funcL (sn) (rc (.ptr rfl) (rc (.ptr rfl) (rc (.ptr rfl) rn)))) (rc (.same nS) (rc (.funcL (sn) (rc (.ptr rfl) (rc (.ptr rfl) (rc (.ptr rfl) rn)))) rn))))))))))) (.kb rfl (.same sn) (.kb rfl (.same sn) (.kb rfl (.same sn) .nil))))),_,rfl,g5⟩
    cases g5
   refine Goes.exit ?_;obtain rfl:=si g5;exact Or.inl (⟨rfl,rfl,(Uc [] [] rfl rfl .nil .nil)⟩)
 rintro x s' (⟨rfl,rfl,hsub⟩|⟨rfl,L,rfl,hret⟩)
 ·try dsimp only at h
  refine Goes.sub hsub ?_;refine sh fol [(6,.str []),(7,.i 7)] ?_;refine Goes.ret ?_;obtain rfl:=si h;exact(gw2 [.str [],.i 7] (FzW.tuple (ql.cons (Ua tS) (ql.cons (Ua tI) ql.nil))))
 try dsimp only at h
 obtain rfl:=si h;exact hret
def xY (a:Str) (c:List Int) (d:List Int) (b:Str):Option Bool:=
 some (a==b)
theorem qdw (a:Str) (c:List Int) (d:List Int) (b:Str) {res:Bool} (h:xY a c d b=some res):qc ZT (.fn 33) [.agg [.str a,.func (.func 48) [] [.fptr [vl encI c] 0,.fptr [vl encI d] 0]],.fptr [.str b] 0] [] (.bool res) []:=by
 unfold xY at h;refine Ub Tryz.func33 rfl rfl (m:=8) rfl (rs:=[.tmp 3]) rfl (l:=[(0,.agg [.str a,.func (.func 48) [] [.fptr [vl encI c] 0,.fptr [vl encI d] 0]]),(1,.fptr [.str b] 0)]) rfl ?_;refine sg fol ((1,.fptr [.str b] 0)::kBE) [.cells [.str a,.func (.func 48) [] [.fptr [vl encI c] 0,.fptr [vl encI d] 0]]] ?_;refine sh fol (kBm (a==b)) ?_;refine Goes.ret ?_;obtain rfl:=si h;exact(gw2 [.bool (a==b)] (Ua tB))
def qai (a:Str) (c:Int) (d:List Int) (e:List Int) (b:Str):Option Bool:=
 some (a==b)
theorem qdd (a:Str) (c:Int) (d:List Int) (e:List Int) (b:Str) {res:Bool} (h:qai a c d e b=some res):qc ZT (.fn 33) [.agg [.str a,.func (.func 50) [] [.fptr [.i c] 0,.fptr [vl encI d] 0,.fptr [vl encI e] 0]],.fptr [.str b] 0] [] (.bool res) []:=by
 unfold qai at h;refine Ub Tryz.func33 rfl rfl (m:=8) rfl (rs:=[.tmp 3]) rfl (l:=[(0,.agg [.str a,.func (.func 50) [] [.fptr [.i c] 0,.fptr [vl encI d] 0,.fptr [vl encI e] 0]]),(1,.fptr [.str b] 0)]) rfl ?_;refine sg fol ((1,.fptr [.str b] 0)::kBE) [.cells [.str a,.func (.func 50) [] [.fptr [.i c] 0,.fptr [vl encI d] 0,.fptr [vl encI e] 0]]] ?_;refine sh fol (kBm (a==b)) ?_;refine Goes.ret ?_;obtain rfl:=si h;exact(gw2 [.bool (a==b)] (Ua tB))
def qao (a:Str) (c:Int) (d:List Int) (e:List Int) (b:Str):Option Bool:=
 some (a==b)
theorem qdj (a:Str) (c:Int) (d:List Int) (e:List Int) (b:Str) {res:Bool} (h:qao a c d e b=some res):qc ZT (.fn 33) [.agg [.str a,.func (.func 51) [] [.fptr [.i c] 0,.fptr [vl encI d] 0,.fptr [vl encI e] 0]],.fptr [.str b] 0] [] (.bool res) []:=by
 unfold qao at h;refine Ub Tryz.func33 rfl rfl (m:=8) rfl (rs:=[.tmp 3]) rfl (l:=[(0,.agg [.str a,.func (.func 51) [] [.fptr [.i c] 0,.fptr [vl encI d] 0,.fptr [vl encI e] 0]]),(1,.fptr [.str b] 0)]) rfl ?_;refine sg fol ((1,.fptr [.str b] 0)::kBE) [.cells [.str a,.func (.func 51) [] [.fptr [.i c] 0,.fptr [vl encI d] 0,.fptr [vl encI e] 0]]] ?_;refine sh fol (kBm (a==b)) ?_;refine Goes.ret ?_;obtain rfl:=si h;exact(gw2 [.bool (a==b)] (Ua tB))
def qam (a:Str) (c:Int) (d:List Int) (e:List Int) (b:Str):Option Bool:=
 some (a==b)
theorem qdf (a:Str) (c:Int) (d:List Int) (e:List Int) (b:Str) {res:Bool} (h:qam a c d e b=some res):qc ZT (.fn 33) [.agg [.str a,.func (.func 54) [] [.fptr [.i c] 0,.fptr [vl encI d] 0,.fptr [vl encI e] 0]],.fptr [.str b] 0] [] (.bool res) []:=by
 unfold qam at h;refine Ub Tryz.func33 rfl rfl (m:=8) rfl (rs:=[.tmp 3]) rfl (l:=[(0,.agg [.str a,.func (.func 54) [] [.fptr [.i c] 0,.fptr [vl encI d] 0,.fptr [vl encI e] 0]]),(1,.fptr [.str b] 0)]) rfl ?_;refine sg fol ((1,.fptr [.str b] 0)::kBE) [.cells [.str a,.func (.func 54) [] [.fptr [.i c] 0,.fptr [vl encI d] 0,.fptr [vl encI e] 0]]] ?_;refine sh fol (kBm (a==b)) ?_;refine Goes.ret ?_;obtain rfl:=si h;exact(gw2 [.bool (a==b)] (Ua tB))
def qaa (a:Str) (c:Int) (d:List Int) (e:List Int) (b:Str):Option Bool:=
 some (a==b)
theorem qdm (a:Str) (c:Int) (d:List Int) (e:List Int) (b:Str) {res:Bool} (h:qaa a c d e b=some res):qc ZT (.fn 33) [.agg [.str a,.func (.func 61) [] [.fptr [.i c] 0,.fptr [vl encI d] 0,.fptr [vl encI e] 0]],.fptr [.str b] 0] [] (.bool res) []:=by
 unfold qaa at h;refine Ub Tryz.func33 rfl rfl (m:=8) rfl (rs:=[.tmp 3]) rfl (l:=[(0,.agg [.str a,.func (.func 61) [] [.fptr [.i c] 0,.fptr [vl encI d] 0,.fptr [vl encI e] 0]]),(1,.fptr [.str b] 0)]) rfl ?_;refine sg fol ((1,.fptr [.str b] 0)::kBE) [.cells [.str a,.func (.func 61) [] [.fptr [.i c] 0,.fptr [vl encI d] 0,.fptr [vl encI e] 0]]] ?_;refine sh fol (kBm (a==b)) ?_;refine Goes.ret ?_;obtain rfl:=si h;exact(gw2 [.bool (a==b)] (Ua tB))
def zz (b:Str) (c:List Int) (d:List Int) (e:Str) (f:Int) (g:List Int) (h:List Int) (i:Str) (j:Int) (k:List Int) (a10_:List Int) (a11_:Str) (a12_:Int) (a13_:List Int) (a14_:List Int) (a15_:Str) (a16_:Int) (a17_:List Int) (a18_:List Int) (a19_:Str):Nat->Int->Option (Unit⊕Int)
 |0,_=>none
 |K+1,a=>
  if a<5 then
  (if a=0 then
  (xY b c d a19_).bind fun p=>
  some p
  else
  if a=1 then
  (qai e f g h a19_).bind fun q=>
  some q
  else
  if a=2 then
  (qao i j k a10_ a19_).bind fun l=>
  some l
  else
  if a=3 then
  (qam a11_ a12_ a13_ a14_ a19_).bind fun m=>
  some m
  else
  if a=4 then
  (qaa a15_ a16_ a17_ a18_ a19_).bind fun n=>
  some n
  else
  none:Option Bool).bind fun o=>
  if o=true then
  some (.inr a)
  else
  zz b c d e f g h i j k a10_ a11_ a12_ a13_ a14_ a15_ a16_ a17_ a18_ a19_ K (w64 (a+1))
  else
  some (.inl ())
def qK (N:Nat) (a:Str) (b:List Int) (c:List Int) (d:Str) (e:Int) (f:List Int) (g:List Int) (h:Str) (i:Int) (j:List Int) (a10_:List Int) (a11_:Str) (a12_:Int) (a13_:List Int) (a14_:List Int) (a15_:Str) (a16_:Int) (a17_:List Int) (a18_:List Int) (a19_:Str):Option Int:=
 (zz a b c d e f g h i j a10_ a11_ a12_ a13_ a14_ a15_ a16_ a17_ a18_ a19_ N 0).bind (fun
 |(.inl ())=>
 some (-1)
 |(.inr k)=>
 some k)
theorem qbY (N:Nat) (b:Str) (c:List Int) (d:List Int) (e:Str) (f:Int) (g:List Int) (j:List Int) (k:Str) (n:Int) (o:List Int) (a10_:List Int) (a11_:Str) (a12_:Int) (a13_:List Int) (a14_:List Int) (a15_:Str) (a16_:Int) (a17_:List Int) (a18_:List Int) (a19_:Str) {res:Int} (h:qK N b c d e f g j k n o a10_ a11_ a12_ a13_ a14_ a15_ a16_ a17_ a18_ a19_=some res):qc ZT (.fn 32) [.fslice 5 [.str b,.func (.func 48) [] [.fptr [vl encI c] 0,.fptr [vl encI d] 0],.str e,.func (.func 50) [] [.fptr [.i f] 0,.fptr [vl encI g] 0,.fptr [vl encI j] 0],.str k,.func (.func 51) [] [.fptr [.i n] 0,.fptr [vl encI o] 0,.fptr [vl encI a10_] 0],.str a11_,.func (.func 54) [] [.fptr [.i a12_] 0,.fptr [vl encI a13_] 0,.fptr [vl encI a14_] 0],.str a15_,.func (.func 61) [] [.fptr [.i a16_] 0,.fptr [vl encI a17_] 0,.fptr [vl encI a18_] 0]],.func (.func 33) [] [.fptr [.str a19_] 0]] [] (.i res) []:=by
 unfold qK at h;refine Ub Tryz.func32 rfl rfl (m:=19) rfl (rs:=[.tmp 4]) rfl (l:=[(0,.fslice 5 [.str b,.func (.func 48) [] [.fptr [vl encI c] 0,.fptr [vl encI d] 0],.str e,.func (.func 50) [] [.fptr [.i f] 0,.fptr [vl encI g] 0,.fptr [vl encI j] 0],.str k,.func (.func 51) [] [.fptr [.i n] 0,.fptr [vl encI o] 0,.fptr [vl encI a10_] 0],.str a11_,.func (.func 54) [] [.fptr [.i a12_] 0,.fptr [vl encI a13_] 0,.fptr [vl encI a14_] 0],.str a15_,.func (.func 61) [] [.fptr [.i a16_] 0,.fptr [vl encI a17_] 0,.fptr [vl encI a18_] 0]]),(1,.func (.func 33) [] [.fptr [.str a19_] 0])]) rfl ?_;refine sh fol [(0,.fslice 5 [.str b,.func (.func 48) [] [.fptr [vl encI c] 0,.fptr [vl encI d] 0],.str e,.func (.func 50) [] [.fptr [.i f] 0,.fptr [vl encI g] 0,.fptr [vl encI j] 0],.str k,.func (.func 51) [] [.fptr [.i n] 0,.fptr [vl encI o] 0,.fptr [vl encI a10_] 0],.str a11_,.func (.func 54) [] [.fptr [.i a12_] 0,.fptr [vl encI a13_] 0,.fptr [vl encI a14_] 0],.str a15_,.func (.func 61) [] [.fptr [.i a16_] 0,.fptr [vl encI a17_] 0,.fptr [vl encI a18_] 0]]),(1,.func (.func 33) [] [.fptr [.str a19_] 0])] ?_;refine sq ?_;refine sh fol [(0,.fslice 5 [.str b,.func (.func 48) [] [.fptr [vl encI c] 0,.fptr [vl encI d] 0],.str e,.func (.func 50) [] [.fptr [.i f] 0,.fptr [vl encI g] 0,.fptr [vl encI j] 0],.str k,.func (.func 51) [] [.fptr [.i n] 0,.fptr [vl encI o] 0,.fptr [vl encI a10_] 0],.str a11_,.func (.func 54) [] [.fptr [.i a12_] 0,.fptr [vl encI a13_] 0,.fptr [vl encI a14_] 0],.str a15_,.func (.func 61) [] [.fptr [.i a16_] 0,.fptr [vl encI a17_] 0,.fptr [vl encI a18_] 0]]),(1,.func (.func 33) [] [.fptr [.str a19_] 0]),(7,.i 5),(8,.i 0)] ?_;refine Goes.block ?_;obtain⟨C,g2,h⟩:=bnd h;refine Goes.imp (Q:=fun x s'=>(x= .exit 0/\(.inl ())=C/\Sub s' (ofG 19 [],[]))\/(x= .ret/\ ∃F,(.inr F)=C/\jw ZT [.tmp 4] (.i F) .ret s')) ?_ ?_
 ·refine Ue (fun M s=> ∃(p:Int),s=(ofG 19 ((0,.fslice 5 [.str b,.func (.func 48) [] [.fptr [vl encI c] 0,.fptr [vl encI d] 0],.str e,.func (.func 50) [] [.fptr [.i f] 0,.fptr [vl encI g] 0,.fptr [vl encI j] 0],.str k,.func (.func 51) [] [.fptr [.i n] 0,.fptr [vl encI o] 0,.fptr [vl encI a10_] 0],.str a11_,.func (.func 54) [] [.fptr [.i a12_] 0,.fptr [vl encI a13_] 0,.fptr [vl encI a14_] 0],.str a15_,.func (.func 61) [] [.fptr [.i a16_] 0,.fptr [vl encI a17_] 0,.fptr [vl encI a18_] 0]])::(1,.func (.func 33) [] [.fptr [.str a19_] 0])::(7,.i 5)::(kAx p)),[])/\zz b c d e f g j k n o a10_ a11_ a12_ a13_ a14_ a15_ a16_ a17_ a18_ a19_ M p=some C) ?_ (m:=N) ⟨_,rfl,g2⟩;rintro M s ⟨p,rfl,g2⟩
  cases M with
  |zero=>simp only[zz]at g2;cases g2
  |succ M=>
   rw[zz]at g2;refine sh fol [(0,.fslice 5 [.str b,.func (.func 48) [] [.fptr [vl encI c] 0,.fptr [vl encI d] 0],.str e,.func (.func 50) [] [.fptr [.i f] 0,.fptr [vl encI g] 0,.fptr [vl encI j] 0],.str k,.func (.func 51) [] [.fptr [.i n] 0,.fptr [vl encI o] 0,.fptr [vl encI a10_] 0],.str a11_,.func (.func 54) [] [.fptr [.i a12_] 0,.fptr [vl encI a13_] 0,.fptr [vl encI a14_] 0],.str a15_,.func (.func 61) [] [.fptr [.i a16_] 0,.fptr [vl encI a17_] 0,.fptr [vl encI a18_] 0]]),(1,.func (.func 33) [] [.fptr [.str a19_] 0]),(7,.i 5),(8,.i p),(9,.bool (decide (p<5)))] ?_;refine sq ?_;refine ihD g2 (fun L g2=>?_) (fun L g2=>?_)
   ·refine Goes.skip ?_;refine sq (Goes.block ?_);refine sh fol ((0,.fslice 5 [.str b,.func (.func 48) [] [.fptr [vl encI c] 0,.fptr [vl encI d] 0],.str e,.func (.func 50) [] [.fptr [.i f] 0,.fptr [vl encI g] 0,.fptr [vl encI j] 0],.str k,.func (.func 51) [] [.fptr [.i n] 0,.fptr [vl encI o] 0,.fptr [vl encI a10_] 0],.str a11_,.func (.func 54) [] [.fptr [.i a12_] 0,.fptr [vl encI a13_] 0,.fptr [vl encI a14_] 0],.str a15_,.func (.func 61) [] [.fptr [.i a16_] 0,.fptr [vl encI a17_] 0,.fptr [vl encI a18_] 0]])::(1,.func (.func 33) [] [.fptr [.str a19_] 0])::(5,.i p)::(7,.i 5)::(kAx p)) ?_;refine sq ?_;obtain⟨D,a,g2⟩:=bnd g2;refine Goes.cut (s':=(ofG 19 ((0,.fslice 5 [.str b,.func (.func 48) [] [.fptr [vl encI c] 0,.fptr [vl encI d] 0],.str e,.func (.func 50) [] [.fptr [.i f] 0,.fptr [vl encI g] 0,.fptr [vl encI j] 0],.str k,.func (.func 51) [] [.fptr [.i n] 0,.fptr [vl encI o] 0,.fptr [vl encI a10_] 0],.str a11_,.func (.func 54) [] [.fptr [.i a12_] 0,.fptr [vl encI a13_] 0,.fptr [vl encI a14_] 0],.str a15_,.func (.func 61) [] [.fptr [.i a16_] 0,.fptr [vl encI a17_] 0,.fptr [vl encI a18_] 0]])::(1,.func (.func 33) [] [.fptr [.str a19_] 0])::(kAi p D)),[])) ?_ ?_
    ·rcases wyD a with⟨G,a⟩|⟨G,a⟩
     ·obtain⟨H,u,a⟩:=bnd a;obtain rfl:=si a;exact tr fol [3,5] ((0,.fslice 5 [.str b,.func (.func 48) [] [.fptr [vl encI c] 0,.fptr [vl encI d] 0],.str e,.func (.func 50) [] [.fptr [.i f] 0,.fptr [vl encI g] 0,.fptr [vl encI j] 0],.str k,.func (.func 51) [] [.fptr [.i n] 0,.fptr [vl encI o] 0,.fptr [vl encI a10_] 0],.str a11_,.func (.func 54) [] [.fptr [.i a12_] 0,.fptr [vl encI a13_] 0,.fptr [vl encI a14_] 0],.str a15_,.func (.func 61) [] [.fptr [.i a16_] 0,.fptr [vl encI a17_] 0,.fptr [vl encI a18_] 0]])::(1,.func (.func 33) [] [.fptr [.str a19_] 0])::(kAi p H)) (ac (hs (.done (.opt (qd ZT 64 (.fslice 5 [.str b,.func (.func 48) [] [.fptr [vl encI c] 0,.fptr [vl encI d] 0],.str e,.func (.func 50) [] [.fptr [.i f] 0,.fptr [vl encI g] 0,.fptr [vl encI j] 0],.str k,.func (.func 51) [] [.fptr [.i n] 0,.fptr [vl encI o] 0,.fptr [vl encI a10_] 0],.str a11_,.func (.func 54) [] [.fptr [.i a12_] 0,.fptr [vl encI a13_] 0,.fptr [vl encI a14_] 0],.str a15_,.func (.func 61) [] [.fptr [.i a16_] 0,.fptr [vl encI a17_] 0,.fptr [vl encI a18_] 0]]) (.i p))) (.fptr [.str b,.func (.func 48) [] [.fptr [vl encI c] 0,.fptr [vl encI d] 0],.str e,.func (.func 50) [] [.fptr [.i f] 0,.fptr [vl encI g] 0,.fptr [vl encI j] 0],.str k,.func (.func 51) [] [.fptr [.i n] 0,.fptr [vl encI o] 0,.fptr [vl encI a10_] 0],.str a11_,.func (.func 54) [] [.fptr [.i a12_] 0,.fptr [vl encI a13_] 0,.fptr [vl encI a14_] 0],.str a15_,.func (.func 61) [] [.fptr [.i a16_] 0,.fptr [vl encI a17_] 0,.fptr [vl encI a18_] 0]] 0)) (ixA (ot G) (by kernel_rfl))) (ac (hs (.call 33 [.agg [.str b,.func (.func 48) [] [.fptr [vl encI c] 0,.fptr [vl encI d] 0]],.fptr [.str a19_] 0] [] [] [.agg [.str b,.func (.func 48) [] [.fptr [vl encI c] 0,.fptr [vl encI d] 0]],.fptr [.str a19_] 0] (.bool H)) (qdv (FzL.cons (Fz.agg (FzL.cons (Ud tS) (FzL.cons (Fz.func FzL.nil (FzL.cons (Ud (Still.fptr (AllST.cons (qC encI _ (nl rfl)) AllST.nil))) (FzL.cons (Ud (Still.fptr (AllST.cons (qC encI _ (nl rfl)) AllST.nil))) FzL.nil))) FzL.nil))) (FzL.cons (Ud (Still.fptr (AllST.cons tS AllST.nil))) FzL.nil)) (qdw b c d a19_ u) tB)) az))
     rcases wyD a with⟨I,a⟩|⟨I,a⟩
     ·obtain⟨J,v,a⟩:=bnd a;obtain rfl:=si a;exact tr fol [3,5] ((0,.fslice 5 [.str b,.func (.func 48) [] [.fptr [vl encI c] 0,.fptr [vl encI d] 0],.str e,.func (.func 50) [] [.fptr [.i f] 0,.fptr [vl encI g] 0,.fptr [vl encI j] 0],.str k,.func (.func 51) [] [.fptr [.i n] 0,.fptr [vl encI o] 0,.fptr [vl encI a10_] 0],.str a11_,.func (.func 54) [] [.fptr [.i a12_] 0,.fptr [vl encI a13_] 0,.fptr [vl encI a14_] 0],.str a15_,.func (.func 61) [] [.fptr [.i a16_] 0,.fptr [vl encI a17_] 0,.fptr [vl encI a18_] 0]])::(1,.func (.func 33) [] [.fptr [.str a19_] 0])::(kAi p J)) (ac (hs (.done (.opt (qd ZT 64 (.fslice 5 [.str b,.func (.func 48) [] [.fptr [vl encI c] 0,.fptr [vl encI d] 0],.str e,.func (.func 50) [] [.fptr [.i f] 0,.fptr [vl encI g] 0,.fptr [vl encI j] 0],.str k,.func (.func 51) [] [.fptr [.i n] 0,.fptr [vl encI o] 0,.fptr [vl encI a10_] 0],.str a11_,.func (.func 54) [] [.fptr [.i a12_] 0,.fptr [vl encI a13_] 0,.fptr [vl encI a14_] 0],.str a15_,.func (.func 61) [] [.fptr [.i a16_] 0,.fptr [vl encI a17_] 0,.fptr [vl encI a18_] 0]]) (.i p))) (.fptr [.str b,.func (.func 48) [] [.fptr [vl encI c] 0,.fptr [vl encI d] 0],.str e,.func (.func 50) [] [.fptr [.i f] 0,.fptr [vl encI g] 0,.fptr [vl encI j] 0],.str k,.func (.func 51) [] [.fptr [.i n] 0,.fptr [vl encI o] 0,.fptr [vl encI a10_] 0],.str a11_,.func (.func 54) [] [.fptr [.i a12_] 0,.fptr [vl encI a13_] 0,.fptr [vl encI a14_] 0],.str a15_,.func (.func 61) [] [.fptr [.i a16_] 0,.fptr [vl encI a17_] 0,.fptr [vl encI a18_] 0]] 2)) (ixA (ot I) (by kernel_rfl))) (ac (hs (.call 33 [.agg [.str e,.func (.func 50) [] [.fptr [.i f] 0,.fptr [vl encI g] 0,.fptr [vl encI j] 0]],.fptr [.str a19_] 0] [] [] [.agg [.str e,.func (.func 50) [] [.fptr [.i f] 0,.fptr [vl encI g] 0,.fptr [vl encI j] 0]],.fptr [.str a19_] 0] (.bool J)) (qdv (FzL.cons (Fz.agg (FzL.cons (Ud tS) (FzL.cons (Fz.func FzL.nil (FzL.cons (Ud (Still.fptr (AllST.cons tI AllST.nil))) (FzL.cons (Ud (Still.fptr (AllST.cons (qC encI _ (nl rfl)) AllST.nil))) (FzL.cons (Ud (Still.fptr (AllST.cons (qC encI _ (nl rfl)) AllST.nil))) FzL.nil)))) FzL.nil))) (FzL.cons (Ud (Still.fptr (AllST.cons tS AllST.nil))) FzL.nil)) (qdd e f g j a19_ v) tB)) az))
     rcases wyD a with⟨K,a⟩|⟨K,a⟩
     ·obtain⟨w,q,a⟩:=bnd a;obtain rfl:=si a;exact tr fol [3,5] ((0,.fslice 5 [.str b,.func (.func 48) [] [.fptr [vl encI c] 0,.fptr [vl encI d] 0],.str e,.func (.func 50) [] [.fptr [.i f] 0,.fptr [vl encI g] 0,.fptr [vl encI j] 0],.str k,.func (.func 51) [] [.fptr [.i n] 0,.fptr [vl encI o] 0,.fptr [vl encI a10_] 0],.str a11_,.func (.func 54) [] [.fptr [.i a12_] 0,.fptr [vl encI a13_] 0,.fptr [vl encI a14_] 0],.str a15_,.func (.func 61) [] [.fptr [.i a16_] 0,.fptr [vl encI a17_] 0,.fptr [vl encI a18_] 0]])::(1,.func (.func 33) [] [.fptr [.str a19_] 0])::(kAi p w)) (ac (hs (.done (.opt (qd ZT 64 (.fslice 5 [.str b,.func (.func 48) [] [.fptr [vl encI c] 0,.fptr [vl encI d] 0],.str e,.func (.func 50) [] [.fptr [.i f] 0,.fptr [vl encI g] 0,.fptr [vl encI j] 0],.str k,.func (.func 51) [] [.fptr [.i n] 0,.fptr [vl encI o] 0,.fptr [vl encI a10_] 0],.str a11_,.func (.func 54) [] [.fptr [.i a12_] 0,.fptr [vl encI a13_] 0,.fptr [vl encI a14_] 0],.str a15_,.func (.func 61) [] [.fptr [.i a16_] 0,.fptr [vl encI a17_] 0,.fptr [vl encI a18_] 0]]) (.i p))) (.fptr [.str b,.func (.func 48) [] [.fptr [vl encI c] 0,.fptr [vl encI d] 0],.str e,.func (.func 50) [] [.fptr [.i f] 0,.fptr [vl encI g] 0,.fptr [vl encI j] 0],.str k,.func (.func 51) [] [.fptr [.i n] 0,.fptr [vl encI o] 0,.fptr [vl encI a10_] 0],.str a11_,.func (.func 54) [] [.fptr [.i a12_] 0,.fptr [vl encI a13_] 0,.fptr [vl encI a14_] 0],.str a15_,.func (.func 61) [] [.fptr [.i a16_] 0,.fptr [vl encI a17_] 0,.fptr [vl encI a18_] 0]] 4)) (ixA (ot K) (by kernel_rfl))) (ac (hs (.call 33 [.agg [.str k,.func (.func 51) [] [.fptr [.i n] 0,.fptr [vl encI o] 0,.fptr [vl encI a10_] 0]],.fptr [.str a19_] 0] [] [] [.agg [.str k,.func (.func 51) [] [.fptr [.i n] 0,.fptr [vl encI o] 0,.fptr [vl encI a10_] 0]],.fptr [.str a19_] 0] (.bool w)) (qdv (FzL.cons (Fz.agg (FzL.cons (Ud tS) (FzL.cons (Fz.func FzL.nil (FzL.cons (Ud (Still.fptr (AllST.cons tI AllST.nil))) (FzL.cons (Ud (Still.fptr (AllST.cons (qC encI _ (nl rfl)) AllST.nil))) (FzL.cons (Ud (Still.fptr (AllST.cons (qC encI _ (nl rfl)) AllST.nil))) FzL.nil)))) FzL.nil))) (FzL.cons (Ud (Still.fptr (AllST.cons tS AllST.nil))) FzL.nil)) (qdj k n o a10_ a19_ q) tB)) az))
     rcases wyD a with⟨y,a⟩|⟨y,a⟩
     ·obtain⟨z,r,a⟩:=bnd a;obtain rfl:=si a;exact tr fol [3,5] ((0,.fslice 5 [.str b,.func (.func 48) [] [.fptr [vl encI c] 0,.fptr [vl encI d] 0],.str e,.func (.func 50) [] [.fptr [.i f] 0,.fptr [vl encI g] 0,.fptr [vl encI j] 0],.str k,.func (.func 51) [] [.fptr [.i n] 0,.fptr [vl encI o] 0,.fptr [vl encI a10_] 0],.str a11_,.func (.func 54) [] [.fptr [.i a12_] 0,.fptr [vl encI a13_] 0,.fptr [vl encI a14_] 0],.str a15_,.func (.func 61) [] [.fptr [.i a16_] 0,.fptr [vl encI a17_] 0,.fptr [vl encI a18_] 0]])::(1,.func (.func 33) [] [.fptr [.str a19_] 0])::(kAi p z)) (ac (hs (.done (.opt (qd ZT 64 (.fslice 5 [.str b,.func (.func 48) [] [.fptr [vl encI c] 0,.fptr [vl encI d] 0],.str e,.func (.func 50) [] [.fptr [.i f] 0,.fptr [vl encI g] 0,.fptr [vl encI j] 0],.str k,.func (.func 51) [] [.fptr [.i n] 0,.fptr [vl encI o] 0,.fptr [vl encI a10_] 0],.str a11_,.func (.func 54) [] [.fptr [.i a12_] 0,.fptr [vl encI a13_] 0,.fptr [vl encI a14_] 0],.str a15_,.func (.func 61) [] [.fptr [.i a16_] 0,.fptr [vl encI a17_] 0,.fptr [vl encI a18_] 0]]) (.i p))) (.fptr [.str b,.func (.func 48) [] [.fptr [vl encI c] 0,.fptr [vl encI d] 0],.str e,.func (.func 50) [] [.fptr [.i f] 0,.fptr [vl encI g] 0,.fptr [vl encI j] 0],.str k,.func (.func 51) [] [.fptr [.i n] 0,.fptr [vl encI o] 0,.fptr [vl encI a10_] 0],.str a11_,.func (.func 54) [] [.fptr [.i a12_] 0,.fptr [vl encI a13_] 0,.fptr [vl encI a14_] 0],.str a15_,.func (.func 61) [] [.fptr [.i a16_] 0,.fptr [vl encI a17_] 0,.fptr [vl encI a18_] 0]] 6)) (ixA (ot y) (by kernel_rfl))) (ac (hs (.call 33 [.agg [.str a11_,.func (.func 54) [] [.fptr [.i a12_] 0,.fptr [vl encI a13_] 0,.fptr [vl encI a14_] 0]],.fptr [.str a19_] 0] [] [] [.agg [.str a11_,.func (.func 54) [] [.fptr [.i a12_] 0,.fptr [vl encI a13_] 0,.fptr [vl encI a14_] 0]],.fptr [.str a19_] 0] (.bool z)) (qdv (FzL.cons (Fz.agg (FzL.cons (Ud tS) (FzL.cons (Fz.func FzL.nil (FzL.cons (Ud (Still.fptr (AllST.cons tI AllST.nil))) (FzL.cons (Ud (Still.fptr (AllST.cons (qC encI _ (nl rfl)) AllST.nil))) (FzL.cons (Ud (Still.fptr (AllST.cons (qC encI _ (nl rfl)) AllST.nil))) FzL.nil)))) FzL.nil))) (FzL.cons (Ud (Still.fptr (AllST.cons tS AllST.nil))) FzL.nil)) (qdf a11_ a12_ a13_ a14_ a19_ r) tB)) az))
     rcases wyD a with⟨A,a⟩|⟨A,a⟩
     ·obtain⟨B,t,a⟩:=bnd a;obtain rfl:=si a;exact tr fol [3,5] ((0,.fslice 5 [.str b,.func (.func 48) [] [.fptr [vl encI c] 0,.fptr [vl encI d] 0],.str e,.func (.func 50) [] [.fptr [.i f] 0,.fptr [vl encI g] 0,.fptr [vl encI j] 0],.str k,.func (.func 51) [] [.fptr [.i n] 0,.fptr [vl encI o] 0,.fptr [vl encI a10_] 0],.str a11_,.func (.func 54) [] [.fptr [.i a12_] 0,.fptr [vl encI a13_] 0,.fptr [vl encI a14_] 0],.str a15_,.func (.func 61) [] [.fptr [.i a16_] 0,.fptr [vl encI a17_] 0,.fptr [vl encI a18_] 0]])::(1,.func (.func 33) [] [.fptr [.str a19_] 0])::(kAi p B)) (ac (hs (.done (.opt (qd ZT 64 (.fslice 5 [.str b,.func (.func 48) [] [.fptr [vl encI c] 0,.fptr [vl encI d] 0],.str e,.func (.func 50) [] [.fptr [.i f] 0,.fptr [vl encI g] 0,.fptr [vl encI j] 0],.str k,.func (.func 51) [] [.fptr [.i n] 0,.fptr [vl encI o] 0,.fptr [vl encI a10_] 0],.str a11_,.func (.func 54) [] [.fptr [.i a12_] 0,.fptr [vl encI a13_] 0,.fptr [vl encI a14_] 0],.str a15_,.func (.func 61) [] [.fptr [.i a16_] 0,.fptr [vl encI a17_] 0,.fptr [vl encI a18_] 0]]) (.i p))) (.fptr [.str b,.func (.func 48) [] [.fptr [vl encI c] 0,.fptr [vl encI d] 0],.str e,.func (.func 50) [] [.fptr [.i f] 0,.fptr [vl encI g] 0,.fptr [vl encI j] 0],.str k,.func (.func 51) [] [.fptr [.i n] 0,.fptr [vl encI o] 0,.fptr [vl encI a10_] 0],.str a11_,.func (.func 54) [] [.fptr [.i a12_] 0,.fptr [vl encI a13_] 0,.fptr [vl encI a14_] 0],.str a15_,.func (.func 61) [] [.fptr [.i a16_] 0,.fptr [vl encI a17_] 0,.fptr [vl encI a18_] 0]] 8)) (ixA (ot A) (by kernel_rfl))) (ac (hs (.call 33 [.agg [.str a15_,.func (.func 61) [] [.fptr [.i a16_] 0,.fptr [vl encI a17_] 0,.fptr [vl encI a18_] 0]],.fptr [.str a19_] 0] [] [] [.agg [.str a15_,.func (.func 61) [] [.fptr [.i a16_] 0,.fptr [vl encI a17_] 0,.fptr [vl encI a18_] 0]],.fptr [.str a19_] 0] (.bool B)) (qdv (FzL.cons (Fz.agg (FzL.cons (Ud tS) (FzL.cons (Fz.func FzL.nil (FzL.cons (Ud (Still.fptr (AllST.cons tI AllST.nil))) (FzL.cons (Ud (Still.fptr (AllST.cons (qC encI _ (nl rfl)) AllST.nil))) (FzL.cons (Ud (Still.fptr (AllST.cons (qC encI _ (nl rfl)) AllST.nil))) FzL.nil)))) FzL.nil))) (FzL.cons (Ud (Still.fptr (AllST.cons tS AllST.nil))) FzL.nil)) (qdm a15_ a16_ a17_ a18_ a19_ t) tB)) az))
     cases a
    refine ihB g2 (fun E g2=>?_) (fun E g2=>?_)
    ·refine sh fol (kBf p) ?_;refine Goes.ret ?_;obtain rfl:=si g2;exact Or.inr (⟨rfl,_,rfl,(gw2 [.i p] (Ua tI))⟩)
    refine Goes.skip ?_;refine gh fol ((0,.fslice 5 [.str b,.func (.func 48) [] [.fptr [vl encI c] 0,.fptr [vl encI d] 0],.str e,.func (.func 50) [] [.fptr [.i f] 0,.fptr [vl encI g] 0,.fptr [vl encI j] 0],.str k,.func (.func 51) [] [.fptr [.i n] 0,.fptr [vl encI o] 0,.fptr [vl encI a10_] 0],.str a11_,.func (.func 54) [] [.fptr [.i a12_] 0,.fptr [vl encI a13_] 0,.fptr [vl encI a14_] 0],.str a15_,.func (.func 61) [] [.fptr [.i a16_] 0,.fptr [vl encI a17_] 0,.fptr [vl encI a18_] 0]])::(1,.func (.func 33) [] [.fptr [.str a19_] 0])::(7,.i 5)::(kAx (w64 (p+1)))) ?_;exact⟨M,(ofG 19 ((0,.fslice 5 [.str b,.func (.func 48) [] [.fptr [vl encI c] 0,.fptr [vl encI d] 0],.str e,.func (.func 50) [] [.fptr [.i f] 0,.fptr [vl encI g] 0,.fptr [vl encI j] 0],.str k,.func (.func 51) [] [.fptr [.i n] 0,.fptr [vl encI o] 0,.fptr [vl encI a10_] 0],.str a11_,.func (.func 54) [] [.fptr [.i a12_] 0,.fptr [vl encI a13_] 0,.fptr [vl encI a14_] 0],.str a15_,.func (.func 61) [] [.fptr [.i a16_] 0,.fptr [vl encI a17_] 0,.fptr [vl encI a18_] 0]])::(1,.func (.func 33) [] [.fptr [.str a19_] 0])::(7,.i 5)::(kAx (w64 (p+1)))),[]),Nat.lt_succ_self _,(Sub.refl _),_,rfl,g2⟩
   refine Goes.exit ?_;obtain rfl:=si g2;exact Or.inl (⟨rfl,rfl,(Sub.keep [] rfl rfl)⟩)
 rintro x s' (⟨rfl,rfl,hsub⟩|⟨rfl,O,rfl,hret⟩)
 ·try dsimp only at h
  refine Goes.sub hsub ?_;refine sh fol [(4,.i (-1))] ?_;refine Goes.ret ?_;obtain rfl:=si h;exact(gw2 [.i (-1)] (Ua tI))
 try dsimp only at h
 obtain rfl:=si h;exact hret
def qU (N:Nat) (n:Int) (a:List Int) (b:List Int) (kind:Str):Option Int:=
 (jK N n a b).bind fun m=>
 if(!decide (m=0))=true then
 some m
 else
 (vF n a b).bind fun _=>
 (qK N [101,120,112,111,110,101,110,116] a b [112,101,114,109] n a b [108,105,110,107] n a b [98,117,114,97,117] n a b [102,111,114,109] n a b kind).bind fun c=>
 if c<0 then
 some 13
 else
 (if c=0 then
 (zk N a b).bind fun o=>
 (qB (!o) 21).bind fun p=>
 some p
 else
 if c=1 then
 (zo N n a b).bind fun d=>
 (qB (!d) 21).bind fun e=>
 some e
 else
 if c=2 then
 (zi N n a b).bind fun f=>
 (qB (!f) 21).bind fun g=>
 some g
 else
 if c=3 then
 (zm N n a b).bind fun h=>
 (qB (!h) 21).bind fun i=>
 some i
 else
 if c=4 then
 (zA N n a b).bind fun j=>
 (qB (!j) 21).bind fun k=>
 some k
 else
 none:Option Int).bind fun l=>
 some l
theorem qcp (N:Nat) (n:Int) (a:List Int) (b:List Int) (kind:Str) {res:Int} (h:qU N n a b kind=some res):qc ZT (.fn 11) [.i n,vl encI a,vl encI b,.str kind] [] (.i res) []:=by
 unfold qU at h;refine Ub Tryz.func11 rfl rfl (m:=36) rfl (rs:=[.tmp 8]) rfl (l:=(kC n a (kAp b [(3,.str kind)]))) rfl ?_;refine sg fol (kC n a (kAp b [(7,.ptr 0 0)])) [.cells [.str kind]] ?_;refine sq ?_;obtain⟨r,s,h⟩:=bnd h;refine sq (gr fol [3] (kC n a (kAp b ((7,.ptr 0 0)::(kBg r)))) (ac (cv (xq N n a b s)) az) ?_);refine sh fol (kC n a (kAp b [(7,.ptr 0 0),(9,.i r),(17,.bool (!decide (r=0)))])) ?_;refine ihB h (fun L h=>?_) (fun L h=>?_)
 ·refine sh fol (kAx r) ?_;refine Goes.ret ?_;obtain rfl:=si h;exact(gw2 [.i r] (Ua tI))
 refine Goes.skip ?_;obtain⟨_,t,h⟩:=bnd h;refine sq (gq fol [3] [(7,.ptr 0 0),(10,.slice 1 0 5 5 2)] (.cells [.str kind]:: .cells [.str [101,120,112,111,110,101,110,116],.func (.func 48) [] [.ptr 2 0,.ptr 3 0],.str [112,101,114,109],.func (.func 50) [] [.ptr 4 0,.ptr 2 0,.ptr 3 0],.str [108,105,110,107],.func (.func 51) [] [.ptr 4 0,.ptr 2 0,.ptr 3 0],.str [98,117,114,97,117],.func (.func 54) [] [.ptr 4 0,.ptr 2 0,.ptr 3 0],.str [102,111,114,109],.func (.func 61) [] [.ptr 4 0,.ptr 2 0,.ptr 3 0]]::(kD a (kD b (kAA n [])))) (ac (hs (.callH 31 (.i n::(kAt a b)) [.cells [.str kind]] [] (.slice 1 0 5 5 2) (.cells [.str kind]:: .cells [.str [101,120,112,111,110,101,110,116],.func (.func 48) [] [.ptr 2 0,.ptr 3 0],.str [112,101,114,109],.func (.func 50) [] [.ptr 4 0,.ptr 2 0,.ptr 3 0],.str [108,105,110,107],.func (.func 51) [] [.ptr 4 0,.ptr 2 0,.ptr 3 0],.str [98,117,114,97,117],.func (.func 54) [] [.ptr 4 0,.ptr 2 0,.ptr 3 0],.str [102,111,114,109],.func (.func 61) [] [.ptr 4 0,.ptr 2 0,.ptr 3 0]]::(kD a (kD b (kAA n []))))) (zH [] [none,some 0,some 1,some 2,some 3] (qbU n a b t) .nil rfl rfl (.old rfl rfl (.new rfl rfl (.cells (rc (.same nS) (rc (.funcL (sn) (rc (.ptr rfl) (rc (.ptr rfl) rn))) (rc (.same nS) (rc (.funcL (sn) (rc (.ptr rfl) (rc (.ptr rfl) (rc (.ptr rfl) rn)))) (rc (.same nS) (rc (.funcL (sn) (rc (.ptr rfl) (rc (.ptr rfl) (rc (.ptr rfl) rn)))) (rc (.same nS) (rc (.funcL (sn) (rc (.ptr rfl) (rc (.ptr rfl) (rc (.ptr rfl) rn)))) (rc (.same nS) (rc (.funcL (sn) (rc (.ptr rfl) (rc (.ptr rfl) (rc (.ptr rfl) rn)))) rn))))))))))) rfl (.new rfl rfl (.cells (rc (.same (qa encI _)) rn)) rfl (.new rfl rfl (.cells (rc (.same (qa encI _)) rn)) rfl (.new rfl rfl (.cells (rc (.same nI) rn)) rfl .nil))))) (rc (.same nI) (rc (.same (qa encI _)) (rc (.same (qa encI _)) rn))) (.slice rfl) rfl)) az) ?_);obtain⟨d,u,h⟩:=bnd h;refine sq (gr fol [2] ((10,.slice 1 0 5 5 2)::(kBI d)) (ac (hs (.call 32 [.slice 1 0 5 5 2,.func (.func 33) [] [.ptr 0 0]] (.cells [.str kind]:: .cells [.str [101,120,112,111,110,101,110,116],.func (.func 48) [] [.ptr 2 0,.ptr 3 0],.str [112,101,114,109],.func (.func 50) [] [.ptr 4 0,.ptr 2 0,.ptr 3 0],.str [108,105,110,107],.func (.func 51) [] [.ptr 4 0,.ptr 2 0,.ptr 3 0],.str [98,117,114,97,117],.func (.func 54) [] [.ptr 4 0,.ptr 2 0,.ptr 3 0],.str [102,111,114,109],.func (.func 61) [] [.ptr 4 0,.ptr 2 0,.ptr 3 0]]::(kD a (kD b (kAA n [])))) [0,1,2,3,4] [.fslice 5 [.str [101,120,112,111,110,101,110,116],.func (.func 48) [] [.fptr [vl encI a] 0,.fptr [vl encI b] 0],.str [112,101,114,109],.func (.func 50) [] [.fptr [.i n] 0,.fptr [vl encI a] 0,.fptr [vl encI b] 0],.str [108,105,110,107],.func (.func 51) [] [.fptr [.i n] 0,.fptr [vl encI a] 0,.fptr [vl encI b] 0],.str [98,117,114,97,117],.func (.func 54) [] [.fptr [.i n] 0,.fptr [vl encI a] 0,.fptr [vl encI b] 0],.str [102,111,114,109],.func (.func 61) [] [.fptr [.i n] 0,.fptr [vl encI a] 0,.fptr [vl encI b] 0]],.func (.func 33) [] [.fptr [.str kind] 0]] (.i d)) (vZ (FzL.cons (Fz.lit rfl rfl (FzL.cons (Ud tS) (FzL.cons (Fz.func FzL.nil (FzL.cons (Fz.ptr rfl rfl (FzL.cons (Ud (qC encI _ (nl rfl))) FzL.nil)) (FzL.cons (Fz.ptr rfl rfl (FzL.cons (Ud (qC encI _ (nl rfl))) FzL.nil)) FzL.nil))) (FzL.cons (Ud tS) (FzL.cons (Fz.func FzL.nil (FzL.cons (Fz.ptr rfl rfl (FzL.cons (Ud tI) FzL.nil)) (FzL.cons (Fz.ptr rfl rfl (FzL.cons (Ud (qC encI _ (nl rfl))) FzL.nil)) (FzL.cons (Fz.ptr rfl rfl (FzL.cons (Ud (qC encI _ (nl rfl))) FzL.nil)) FzL.nil)))) (FzL.cons (Ud tS) (FzL.cons (Fz.func FzL.nil (FzL.cons (Fz.ptr rfl rfl (FzL.cons (Ud tI) FzL.nil)) (FzL.cons (Fz.ptr rfl rfl (FzL.cons (Ud (qC encI _ (nl rfl))) FzL.nil)) (FzL.cons (Fz.ptr rfl rfl (FzL.cons (Ud (qC encI _ (nl rfl))) FzL.nil)) FzL.nil)))) (FzL.cons (Ud tS) (FzL.cons (Fz.func FzL.nil (FzL.cons (Fz.ptr rfl rfl (FzL.cons (Ud tI) FzL.nil)) (FzL.cons (Fz.ptr rfl rfl (FzL.cons (Ud (qC encI _ (nl rfl))) FzL.nil)) (FzL.cons (Fz.ptr rfl rfl (FzL.cons (Ud (qC encI _ (nl rfl))) FzL.nil)) FzL.nil)))) (FzL.cons (Ud tS) (FzL.cons (Fz.func FzL.nil (FzL.cons (Fz.ptr rfl rfl (FzL.cons (Ud tI) FzL.nil)) (FzL.cons (Fz.ptr rfl rfl (FzL.cons (Ud (qC encI _ (nl rfl))) FzL.nil)) (FzL.cons (Fz.ptr rfl rfl (FzL.cons (Ud (qC encI _ (nl rfl))) FzL.nil)) FzL.nil)))) FzL.nil))))))))))) (FzL.cons (Fz.func FzL.nil (FzL.cons (Fz.ptr rfl rfl (FzL.cons (Ud tS) FzL.nil)) FzL.nil)) FzL.nil)) (qbY N [101,120,112,111,110,101,110,116] a b [112,101,114,109] n a b [108,105,110,107] n a b [98,117,114,97,117] n a b [102,111,114,109] n a b kind u) tI rfl)) az) ?_);refine sq ?_;refine sh fol [(10,.slice 1 0 5 5 2),(11,.i d),(27,.bool (decide (d<0)))] ?_;refine ihD h (fun M h=>?_) (fun M h=>?_)
 ·refine sh fol [(8,.i 13)] ?_;refine Goes.ret ?_;obtain rfl:=si h;exact(gw2 [.i 13] (Ua tI))
 refine Goes.skip ?_;refine sq ?_;obtain⟨v,c,h⟩:=bnd h;refine Goes.cut (s':=(ofG 36 (kAx v),(.cells [.str kind]:: .cells [.str [101,120,112,111,110,101,110,116],.func (.func 48) [] [.ptr 2 0,.ptr 3 0],.str [112,101,114,109],.func (.func 50) [] [.ptr 4 0,.ptr 2 0,.ptr 3 0],.str [108,105,110,107],.func (.func 51) [] [.ptr 4 0,.ptr 2 0,.ptr 3 0],.str [98,117,114,97,117],.func (.func 54) [] [.ptr 4 0,.ptr 2 0,.ptr 3 0],.str [102,111,114,109],.func (.func 61) [] [.ptr 4 0,.ptr 2 0,.ptr 3 0]]::(kD a (kD b (kAA n [])))))) ?_ ?_
 ·rcases wyD c with⟨c6,c⟩|⟨c6,c⟩
  ·obtain⟨J,w,c⟩:=bnd c;obtain⟨O,x,c⟩:=bnd c;obtain rfl:=si c;exact tr fol [2,5,7] (kAx O) (ac (hs (.done (.opt (qd ZT 64 (.slice 1 0 5 5 2) (.i d))) (.ptr 1 0)) (ixA (ot c6) (by kernel_rfl))) (ac (hs (.call 48 kAr (.cells [.str kind]:: .cells [.str [101,120,112,111,110,101,110,116],.func (.func 48) [] [.ptr 2 0,.ptr 3 0],.str [112,101,114,109],.func (.func 50) [] [.ptr 4 0,.ptr 2 0,.ptr 3 0],.str [108,105,110,107],.func (.func 51) [] [.ptr 4 0,.ptr 2 0,.ptr 3 0],.str [98,117,114,97,117],.func (.func 54) [] [.ptr 4 0,.ptr 2 0,.ptr 3 0],.str [102,111,114,109],.func (.func 61) [] [.ptr 4 0,.ptr 2 0,.ptr 3 0]]::(kD a (kD b (kAA n [])))) [2,3] [.fptr [vl encI a] 0,.fptr [vl encI b] 0] (.bool J)) (vZ (FzL.cons (Fz.ptr rfl rfl (FzL.cons (Ud (qC encI _ (nl rfl))) FzL.nil)) (FzL.cons (Fz.ptr rfl rfl (FzL.cons (Ud (qC encI _ (nl rfl))) FzL.nil)) FzL.nil)) (qbq N a b w) tB rfl)) (ac (cv (qh (!J) 21 x)) az)))
  rcases wyD c with⟨K,c⟩|⟨K,c⟩
  ·obtain⟨y,e,c⟩:=bnd c;obtain⟨F,f,c⟩:=bnd c;obtain rfl:=si c;exact tr fol [2,5,7] (kAx F) (ac (hs (.done (.opt (qd ZT 64 (.slice 1 0 5 5 2) (.i d))) (.ptr 1 2)) (ixA (ot K) (by kernel_rfl))) (ac (hs (.call 50 (.ptr 4 0::kAr) (.cells [.str kind]:: .cells [.str [101,120,112,111,110,101,110,116],.func (.func 48) [] [.ptr 2 0,.ptr 3 0],.str [112,101,114,109],.func (.func 50) [] [.ptr 4 0,.ptr 2 0,.ptr 3 0],.str [108,105,110,107],.func (.func 51) [] [.ptr 4 0,.ptr 2 0,.ptr 3 0],.str [98,117,114,97,117],.func (.func 54) [] [.ptr 4 0,.ptr 2 0,.ptr 3 0],.str [102,111,114,109],.func (.func 61) [] [.ptr 4 0,.ptr 2 0,.ptr 3 0]]::(kD a (kD b (kAA n [])))) [2,3,4] [.fptr [.i n] 0,.fptr [vl encI a] 0,.fptr [vl encI b] 0] (.bool y)) (vZ (FzL.cons (Fz.ptr rfl rfl (FzL.cons (Ud tI) FzL.nil)) (FzL.cons (Fz.ptr rfl rfl (FzL.cons (Ud (qC encI _ (nl rfl))) FzL.nil)) (FzL.cons (Fz.ptr rfl rfl (FzL.cons (Ud (qC encI _ (nl rfl))) FzL.nil)) FzL.nil))) (qbm N n a b e) tB rfl)) (ac (cv (qh (!y) 21 f)) az)))
  rcases wyD c with⟨z,c⟩|⟨z,c⟩
  ·obtain⟨A,g,c⟩:=bnd c;obtain⟨G,j,c⟩:=bnd c;obtain rfl:=si c;exact tr fol [2,5,7] (kAx G) (ac (hs (.done (.opt (qd ZT 64 (.slice 1 0 5 5 2) (.i d))) (.ptr 1 4)) (ixA (ot z) (by kernel_rfl))) (ac (hs (.call 51 (.ptr 4 0::kAr) (.cells [.str kind]:: .cells [.str [101,120,112,111,110,101,110,116],.func (.func 48) [] [.ptr 2 0,.ptr 3 0],.str [112,101,114,109],.func (.func 50) [] [.ptr 4 0,.ptr 2 0,.ptr 3 0],.str [108,105,110,107],.func (.func 51) [] [.ptr 4 0,.ptr 2 0,.ptr 3 0],.str [98,117,114,97,117],.func (.func 54) [] [.ptr 4 0,.ptr 2 0,.ptr 3 0],.str [102,111,114,109],.func (.func 61) [] [.ptr 4 0,.ptr 2 0,.ptr 3 0]]::(kD a (kD b (kAA n [])))) [2,3,4] [.fptr [.i n] 0,.fptr [vl encI a] 0,.fptr [vl encI b] 0] (.bool A)) (vZ (FzL.cons (Fz.ptr rfl rfl (FzL.cons (Ud tI) FzL.nil)) (FzL.cons (Fz.ptr rfl rfl (FzL.cons (Ud (qC encI _ (nl rfl))) FzL.nil)) (FzL.cons (Fz.ptr rfl rfl (FzL.cons (Ud (qC encI _ (nl rfl))) FzL.nil)) FzL.nil))) (qbp N n a b g) tB rfl)) (ac (cv (qh (!A) 21 j)) az)))
  rcases wyD c with⟨B,c⟩|⟨B,c⟩
  ·obtain⟨C,k,c⟩:=bnd c;obtain⟨H,o,c⟩:=bnd c;obtain rfl:=si c;exact tr fol [2,5,7] (kAx H) (ac (hs (.done (.opt (qd ZT 64 (.slice 1 0 5 5 2) (.i d))) (.ptr 1 6)) (ixA (ot B) (by kernel_rfl))) (ac (hs (.call 54 (.ptr 4 0::kAr) (.cells [.str kind]:: .cells [.str [101,120,112,111,110,101,110,116],.func (.func 48) [] [.ptr 2 0,.ptr 3 0],.str [112,101,114,109],.func (.func 50) [] [.ptr 4 0,.ptr 2 0,.ptr 3 0],.str [108,105,110,107],.func (.func 51) [] [.ptr 4 0,.ptr 2 0,.ptr 3 0],.str [98,117,114,97,117],.func (.func 54) [] [.ptr 4 0,.ptr 2 0,.ptr 3 0],.str [102,111,114,109],.func (.func 61) [] [.ptr 4 0,.ptr 2 0,.ptr 3 0]]::(kD a (kD b (kAA n [])))) [2,3,4] [.fptr [.i n] 0,.fptr [vl encI a] 0,.fptr [vl encI b] 0] (.bool C)) (vZ (FzL.cons (Fz.ptr rfl rfl (FzL.cons (Ud tI) FzL.nil)) (FzL.cons (Fz.ptr rfl rfl (FzL.cons (Ud (qC encI _ (nl rfl))) FzL.nil)) (FzL.cons (Fz.ptr rfl rfl (FzL.cons (Ud (qC encI _ (nl rfl))) FzL.nil)) FzL.nil))) (qbs N n a b k) tB rfl)) (ac (cv (qh (!C) 21 o)) az)))
  rcases wyD c with⟨D,c⟩|⟨D,c⟩
  ·obtain⟨E,p,c⟩:=bnd c;obtain⟨I,q,c⟩:=bnd c;obtain rfl:=si c;exact tr fol [2,5,7] (kAx I) (ac (hs (.done (.opt (qd ZT 64 (.slice 1 0 5 5 2) (.i d))) (.ptr 1 8)) (ixA (ot D) (by kernel_rfl))) (ac (hs (.call 61 (.ptr 4 0::kAr) (.cells [.str kind]:: .cells [.str [101,120,112,111,110,101,110,116],.func (.func 48) [] [.ptr 2 0,.ptr 3 0],.str [112,101,114,109],.func (.func 50) [] [.ptr 4 0,.ptr 2 0,.ptr 3 0],.str [108,105,110,107],.func (.func 51) [] [.ptr 4 0,.ptr 2 0,.ptr 3 0],.str [98,117,114,97,117],.func (.func 54) [] [.ptr 4 0,.ptr 2 0,.ptr 3 0],.str [102,111,114,109],.func (.func 61) [] [.ptr 4 0,.ptr 2 0,.ptr 3 0]]::(kD a (kD b (kAA n [])))) [2,3,4] [.fptr [.i n] 0,.fptr [vl encI a] 0,.fptr [vl encI b] 0] (.bool E)) (vZ (FzL.cons (Fz.ptr rfl rfl (FzL.cons (Ud tI) FzL.nil)) (FzL.cons (Fz.ptr rfl rfl (FzL.cons (Ud (qC encI _ (nl rfl))) FzL.nil)) (FzL.cons (Fz.ptr rfl rfl (FzL.cons (Ud (qC encI _ (nl rfl))) FzL.nil)) FzL.nil))) (qbo N n a b p) tB rfl)) (ac (cv (qh (!E) 21 q)) az)))
  cases c
 refine Goes.ret ?_;obtain rfl:=si h;exact(gw2 [.i v] (Ua tI))
def qba (kind:Str):Option Int:=
 if(kind==[105,110,115,101,114,116])=true then
 some 0
 else
 ((if(kind==[99,97,110,99,101,108])=true then
 some (kind==[99,97,110,99,101,108])
 else
 some (kind==[115,119,97,112]):Option Bool)).bind fun a=>
 if a=true then
 some 2
 else
 if(kind==[116,117,114,110])=true then
 some 3
 else
 some (-1)
theorem qj1 (kind:Str) {res:Int} (h:qba kind=some res):qc ZT (.fn 62) [.str kind] [] (.i res) []:=by
 unfold qba at h;refine Ub Tryz.func62 rfl rfl (m:=11) rfl (rs:=[.tmp 2]) rfl (l:=[(0,.str kind)]) rfl ?_;refine sh fol [(0,.str kind)] ?_;refine sq ?_;refine sh fol [(3,.str kind)] ?_;refine Goes.block ?_;refine sh fol ((3,.str kind)::(kA1 (kind==[105,110,115,101,114,116]))) ?_;refine ihB h (fun b h=>?_) (fun b h=>?_)
 ·refine sh fol [(2,.i 0)] ?_;refine Goes.ret ?_;obtain rfl:=si h;exact(gw2 [.i 0] (Ua tI))
 refine sq ?_;refine sh fol [(3,.str kind),(6,.bool (kind==[99,97,110,99,101,108]))] ?_;obtain⟨c,g3,h⟩:=bnd h;refine Goes.imp (Q:=fun x s'=>(x= .normal/\ ∃a,a=c/\Sub s' (ofG 11 [(3,.str kind),(6,.bool a)],[]))) ?_ ?_
 ·refine ihB g3 (fun d g3=>?_) (fun d g3=>?_)
  ·refine Goes.skip ?_;obtain rfl:=si g3;exact⟨rfl,_,rfl,(Sub.refl _)⟩
  refine gh fol [(3,.str kind),(6,.bool (kind==[115,119,97,112]))] ?_;obtain rfl:=si g3;exact⟨rfl,_,rfl,(Sub.refl _)⟩
 rintro x s' ⟨rfl,a,rfl,hsub⟩;refine Goes.sub hsub ?_;refine ihB h (fun e h=>?_) (fun e h=>?_)
 ·refine sh fol [(2,.i 2)] ?_;refine Goes.ret ?_;obtain rfl:=si h;exact(gw2 [.i 2] (Ua tI))
 refine sh fol [(9,.bool (kind==[116,117,114,110]))] ?_;refine ihB h (fun c6 h=>?_) (fun c6 h=>?_)
 ·refine sh fol [(2,.i 3)] ?_;refine Goes.ret ?_;obtain rfl:=si h;exact(gw2 [.i 3] (Ua tI))
 refine Goes.skip ?_;refine sh fol [(2,.i (-1))] ?_;refine Goes.ret ?_;obtain rfl:=si h;exact(gw2 [.i (-1)] (Ua tI))
def yC (c:Int):Option Int:=
 if c<0 then
 some (-1)
 else
 some 1
theorem qaJ (c:Int) {res:Int} (h:yC c=some res):qc ZT (.fn 92) [.i c] [] (.i res) []:=by
 unfold yC at h;refine Ub Tryz.func92 rfl rfl (m:=5) rfl (rs:=[.tmp 2]) rfl (l:=(kBe c)) rfl ?_;refine sh fol (kBe c) ?_;refine sq ?_;refine sh fol (kA1 (decide (c<0))) ?_;refine ihD h (fun a h=>?_) (fun a h=>?_)
 ·refine sh fol [(2,.i (-1))] ?_;refine Goes.ret ?_;obtain rfl:=si h;exact(gw2 [.i (-1)] (Ua tI))
 refine Goes.skip ?_;refine sh fol [(2,.i 1)] ?_;refine Goes.ret ?_;obtain rfl:=si h;exact(gw2 [.i 1] (Ua tI))
def qds (a:Int) (y:Int) (z:Int):Option ((List Int)×Bool):=
 ((jN a).bind fun j=>
 (jN z).bind fun k=>
 if(!decide (j=k))=true then
 some true
 else
 (jN a).bind fun l=>
 (jN y).bind fun m=>
 (jN (w64 (l-m))).bind fun n=>
 some (!decide (n=1)):Option Bool).bind fun o=>
 if o=true then
 some ([],false)
 else
 (yC a).bind fun b=>
 (yC y).bind fun c=>
 if b=c then
 (yC z).bind fun d=>
 (jN y).bind fun e=>
 some ([w64 (d*e),a,y],true)
 else
 (yC y).bind fun f=>
 (yC z).bind fun g=>
 if f=g then
 (yC a).bind fun h=>
 (jN y).bind fun i=>
 some ([y,z,w64 (h*i)],true)
 else
 some ([],false)
theorem qjX (b:Int) (y:Int) (z:Int) {res:(List Int)×Bool} (h:qds b y z=some res):qc ZT (.fn 63) [.i b,.i y,.i z] [] (.tuple [vl encI res.1,.bool res.2]) []:=by
 unfold qds at h;refine Ub Tryz.func63 rfl rfl (m:=48) rfl (rs:=[.tmp 6,.tmp 7]) rfl (l:=(kBl b y z [])) rfl ?_;refine sh fol (kBl b y z []) ?_;refine sq ?_;refine sq ?_;obtain⟨H,a,h⟩:=bnd h;refine Goes.cut (s':=(ofG 48 (kBl b y z [(21,.bool H)]),[])) ?_ ?_
 ·obtain⟨M,c,a⟩:=bnd a;obtain⟨N,d,a⟩:=bnd a;rcases wyB a with⟨t,a⟩|⟨t,a⟩
  ·obtain rfl:=si a;exact tr fol [1,3,5] (kBl b y z [(21,.bool true)]) (ac (cv (ja b c)) (ac (cv (ja z d)) (ac (gw t) az)))
  obtain⟨I,q,a⟩:=bnd a;obtain⟨J,r,a⟩:=bnd a;obtain⟨K,s,a⟩:=bnd a;obtain rfl:=si a;exact tr fol [1,3,5,7,9,11] (kBl b y z [(21,.bool (!decide (K=1)))]) (ac (cv (ja b c)) (ac (cv (ja z d)) (ac (gw t) (ac (cv (ja b q)) (ac (cv (ja y r)) (ac (cv (ja (w64 (I-J)) s)) az))))))
 refine ihB h (fun L h=>?_) (fun L h=>?_)
 ·refine sh fol (kAm [(7,.bool false)]) ?_;refine Goes.ret ?_;obtain rfl:=si h;exact(gw2 [.nilslice,.bool false] (FzW.tuple (ql.cons (FzW.nilv (E:=encI)) (ql.cons (Ua tB) ql.nil))))
 refine Goes.skip ?_;refine sq ?_;obtain⟨u,e,h⟩:=bnd h;obtain⟨v,f,h⟩:=bnd h;refine sq (gr fol [1,3] (kBl b y z [(26,.bool (decide (u=v)))]) (ac (cv (qaJ b e)) (ac (cv (qaJ y f)) az)) ?_);refine ihD h (fun w h=>?_) (fun w h=>?_)
 ·obtain⟨x,g,h⟩:=bnd h;obtain⟨A,j,h⟩:=bnd h;refine sq (gq fol [1,3] [(6,.slice 0 0 3 3 1),(7,.bool true)] [.cells [.i (w64 (x*A)),.i b,.i y]] (ac (cv (qaJ z g)) (ac (cv (ja y j)) az)) ?_);refine Goes.ret ?_;obtain rfl:=si h;exact(gw2 (.slice 0 0 3 3 1::kBd) (FzW.tuple (ql.cons (Us (Fz.lit rfl rfl (Uh (AllST.cons tI (AllST.cons tI (AllST.cons tI AllST.nil)))))) (ql.cons (Ua tB) ql.nil))))
 refine Goes.skip ?_;refine sq ?_;obtain⟨B,k,h⟩:=bnd h;obtain⟨C,n,h⟩:=bnd h;refine sq (gr fol [1,3] (kBl b y z [(39,.bool (decide (B=C)))]) (ac (cv (qaJ y k)) (ac (cv (qaJ z n)) az)) ?_);refine ihD h (fun D h=>?_) (fun D h=>?_)
 ·obtain⟨F,o,h⟩:=bnd h;obtain⟨G,p,h⟩:=bnd h;refine sq (gq fol [3,5] [(6,.slice 0 0 3 3 1),(7,.bool true)] [.cells [.i y,.i z,.i (w64 (F*G))]] (ac (cv (qaJ b o)) (ac (cv (ja y p)) az)) ?_);refine Goes.ret ?_;obtain rfl:=si h;exact(gw2 (.slice 0 0 3 3 1::kBd) (FzW.tuple (ql.cons (Us (Fz.lit rfl rfl (Uh (AllST.cons tI (AllST.cons tI (AllST.cons tI AllST.nil)))))) (ql.cons (Ua tB) ql.nil))))
 refine Goes.skip ?_;refine sh fol (kAm [(7,.bool false)]) ?_;refine Goes.ret ?_;obtain rfl:=si h;exact(gw2 [.nilslice,.bool false] (FzW.tuple (ql.cons (FzW.nilv (E:=encI)) (ql.cons (Ua tB) ql.nil))))
end Go.Av
