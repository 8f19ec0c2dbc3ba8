/-
  Walks of functions: what each computes, as a plain function.
-/
import Derived.Test.YthgioiakbbhonaaGreatDoorQGenEi3
noncomputable section
namespace Go.Av
open Go.Proofs Go.RowKit
set_option linter.unusedSectionVars false
set_option linter.unusedVariables false
set_option linter.unusedSimpArgs false
set_option maxRecDepth 100000
def jk:Nat->(List qb)->Int->Option (List qb)
 |0,_,_=>none
 |K+1,a,c=>
  if c<(a.length:Int)then
  (at' a c).bind λb=>
  (some (qho a b (a.take b))).bind λd=>
  jk K d (w64 (c+((Nat.min (a.take b).length (a.length-b):Nat):Int)))
  else
  some a
def vz (N:Nat) (a:Int) (b:List Int) (c:Int) (d:List Int) (e:Int):Option (List qb):=
 ((if e<0 then
 none
 else
 some ():Option Unit)).bind λ_=>
 (bits_Mul (IntKind.wrap .u64 1) (IntKind.wrap .u64 e)).bind λg=>
 (if g.1>0 then
 some true
 else
 some (decide (g.2>9223372036854775807)):Option Bool).bind λj=>
 ((if j=true then
 none
 else
 some ():Option Unit)).bind λ_=>
 (mk 64 (w64 g.2) (⟨(⟨0,[]⟩:qm),(⟨0,[]⟩:qm)⟩:qb)).bind λf=>
 (some (cpy f ([(⟨(⟨a,b⟩:qm),(⟨c,d⟩:qm)⟩:qb)]:List qb))).bind λh=>
 (jk N h ((Nat.min ([(⟨(⟨a,b⟩:qm),(⟨c,d⟩:qm)⟩:qb)]:List qb).length f.length:Nat):Int)).bind λi=>
 some i
theorem qbq (N:Nat) (b:Int) (c:List Int) (d:Int) (e:List Int) (n:Int) {C:List qb} (h:vz N b c d e n=some C):qf ZT (.fn 36) [.slice 0 0 1 1 4,.i n] [.cells (ni2 b c d e)] (.slice 1 0 C.length C.length 4) (.cells (ni2 b c d e)::(kA C [])):=by
 unfold vz at h;refine Uu Tryz.func36 rfl rfl (m:=48) rfl (rs:=[.tmp 4]) rfl (l:=(kA2 [(1,.i n)])) rfl ?_;intro B hB;obtain⟨G,g2,h⟩:=bnd h;refine sh fol (kA2 [(1,.i n)])<|sq<|sh fol (kA2 ((1,.i n)::(kBI (decide (n<0)))))<|Goes.imp (Q:=λx s'=>(x= .normal/\()=G/\Sub s' (ofG 48 (kA2 [(1,.i n)]),[.cells (ni2 b c d e)]))) ?_ ?_
 ·refine ihD g2 (λH g2=>?_) (λH g2=>?_)
  ·cases g2
  cases g2
  exact Goes.skip<|⟨rfl,rfl,(Sub.keep [0,1] rfl rfl)⟩
 rintro x s' ⟨rfl,rfl,hsub⟩;obtain⟨u,y,I,o,h⟩:=bn2 h;refine Goes.sub hsub<|sq<|gr fol [5] (kA2 ((5,.int .u64 u.1)::(kAN u.2 []))) (qh (cv (qlQ (IntKind.wrap .u64 1) (IntKind.wrap .u64 n) y)))<|sq<|sq<|Goes.cut (s':=(ofG 48 (kA2 (kAN u.2 [(26,.bool I)])),[.cells (ni2 b c d e)])) ?_ ?_
 ·rcases wyD o with⟨D,o⟩|⟨D,o⟩
  ·cases o
   exact tr fol [2] (kA2 (kAN u.2 [(26,.bool true)])) (qh (gw D))
  cases o
  exact tr fol [2] (kA2 (kAN u.2 [(26,.bool (decide (u.2>9223372036854775807)))])) (qh (gw D))
 obtain⟨J,g8,h⟩:=bnd h;refine Goes.imp (Q:=λx s'=>(x= .normal/\()=J/\Sub s' (ofG 48 (kA2 (kAN u.2 [])),[.cells (ni2 b c d e)]))) ?_ ?_
 ·refine ihB g8 (λK g8=>?_) (λK g8=>?_)
  ·cases g8
  cases g8
  exact Goes.skip<|⟨rfl,rfl,(Sub.keep [0,6] rfl rfl)⟩
 rintro x s' ⟨rfl,rfl,hsub⟩;obtain⟨f,w,v,r,A,g15,h⟩:=bn3 h;refine Goes.sub hsub<|sq<|gq fol [2] (kA2 (kAU f [])) (.cells (ni2 b c d e)::(kA f [])) (qh (hs (.run [] (jd ZT 70 (.i (w64 u.2)) (.i (w64 u.2))) [.cells (ni2 b c d e)] (.slice 1 0 f.length f.length 4) (.cells (ni2 b c d e)::(kA f [])) false) (qdf qaP (E:=qa) (z:=(⟨(⟨0,[]⟩:qm),(⟨0,[]⟩:qm)⟩:qb)) rfl (by kernel_rfl) w rfl)))<|sq<|gq fol [2] (kAU f [(8,.i ((Nat.min ([(⟨(⟨b,c⟩:qm),(⟨d,e⟩:qm)⟩:qb)]:List qb).length f.length:Nat):Int))]) (.cells (ni2 b c d e)::(kA v [])) (qh (hs (.run [1,0] (qcu ZT [70,70] (.slice 1 0 f.length f.length 4) (.slice 0 0 1 1 4)) (.cells (ni2 b c d e)::(kA f [])) (.i ((Nat.min ([(⟨(⟨b,c⟩:qm),(⟨d,e⟩:qm)⟩:qb)]:List qb).length f.length:Nat):Int)) (.cells (ni2 b c d e)::(kA v [])) true) (qsx qaP (E:=qa) (l:=f) rfl (qdy (E:=qa) (ys:=([(⟨(⟨b,c⟩:qm),(⟨d,e⟩:qm)⟩:qb)]:List qb)) rfl rfl rfl rfl) (.inl rfl) rfl rfl r rfl)))<|Goes.sub (show Sub _ (ofG 48 (kAU v [(8,.i ((Nat.min ([(⟨(⟨b,c⟩:qm),(⟨d,e⟩:qm)⟩:qb)]:List qb).length f.length:Nat):Int))]),(.cells (ni2 b c d e)::(kA v [])))from(Uc [] [some 0,some 1] (by rw[hB];rfl) rfl (.keep (.sliceE rfl (qmP r)) (.keep (.same nI) .nil)) (.kb rfl (.same sn) (.ks .nil))))<|sq<|Goes.block<|Goes.imp (Q:=λx s'=>(x= .exit 0/\ ∃p,p=A/\Sub s' (ofG 48 (kAU p []),(.cells (ni2 b c d e)::(kA p []))))) ?_ ?_
 ·refine Ud (λM s=> ∃(a:List qb) (k:Int),s=(ofG 48 (kAU a [(8,.i k)]),(.cells (ni2 b c d e)::(kA a [])))/\jk M a k=some A) ?_ (m:=N) ⟨_,_,rfl,g15⟩;rintro M s ⟨a,k,rfl,g15⟩
  cases M with
  |zero=>simp only[jk]at g15;cases g15
  |succ M=>
   rw[jk]at g15;refine sq<|sh fol (kAU a [(8,.i k),(37,.bool (decide (k<(zl a))))])<|ihD g15 (λF g15=>?_) (λF g15=>?_)
   ·obtain⟨g,j,q,t,g15⟩:=bn2 g15;exact Goes.skip<|Goes.block<|gq fol [3,6,7] (kAU a [(8,.i (w64 (k+((Nat.min (a.take g).length (a.length-g):Nat):Int))))]) (.cells (ni2 b c d e)::(kA q [])) (qI (hs (.done (.opt (qC ZT 70 (.slice 1 0 a.length a.length 4) (some (.i k)) none none)) (qgM 1 4 a.length g)) (qoY qaP j)) (hs (.done (.opt (qC ZT 70 (.slice 1 0 a.length a.length 4) none (some (.i k)) none)) (.slice 1 0 g a.length 4)) (qr4 qaP j)) (hs (.run [1,1] (qcu ZT [70,70] (qgM 1 4 a.length g) (.slice 1 0 g a.length 4)) (.cells (ni2 b c d e)::(kA a [])) (.i ((Nat.min (a.take g).length (a.length-g):Nat):Int)) (.cells (ni2 b c d e)::(kA q [])) true) (qoM qaP (E:=qa) rfl (l:=a) (qri (E:=qa) rfl rfl rfl (qkO j)) (qkO j) rfl rfl t rfl)))<|⟨M,(ofG 48 (kAU q [(8,.i (w64 (k+((Nat.min (a.take g).length (a.length-g):Nat):Int))))]),(.cells (ni2 b c d e)::(kA q []))),aQ _,((show Sub _ (ofG 48 (kAU q [(8,.i (w64 (k+((Nat.min (a.take g).length (a.length-g):Nat):Int))))]),(.cells (ni2 b c d e)::(kA q [])))from(Uc [] [some 0,some 1] (by rw[hB];rfl) rfl (.keep (.sliceE rfl (qnT (qkO j) t)) (.keep (.same nI) .nil)) (.kb rfl (.same sn) (.ks .nil)))).trans (Sub.refl _)),_,_,rfl,g15⟩
   cases g15
   exact Goes.exit<|⟨rfl,_,rfl,(Sub.keep [7] rfl rfl)⟩
 rintro x s' ⟨rfl,p,rfl,hsub⟩;obtain rfl:=si h;exact Goes.sub hsub<|sh fol [(4,.slice 1 0 p.length p.length 4)]<|Goes.ret<|(gh2 [.slice 1 0 p.length p.length 4] (qfZ.refl _ _))
def zS (N:Nat) (a:List Str):Nat->(List qb)->Int->Option (List qb)
 |0,_,_=>none
 |K+1,c,b=>
  if b<(a.length:Int)then
  (idx a b).bind λd=>
  (qb1 N d).bind λe=>
  (app 64 c [e]).bind λf=>
  zS N a K f (w64 (b+1))
  else
  some c
def jR (N:Nat) (a:List Str):Option (List qb):=
 (zS N a N ([]:List qb) 0).bind λb=>
 some b
theorem qaT (N:Nat) (a:List Str) {o:List qb} (h:jR N a=some o):qf ZT (.fn 39) [vl encS a] [] (.gslice 0 o.length 4) (kA o []):=by
 unfold jR at h;refine Uu Tryz.func39 rfl rfl (m:=19) rfl (rs:=[.tmp 2]) rfl (l:=(kAk a [])) rfl ?_;intro B hB;obtain⟨p,g5,h⟩:=bnd h;refine sh fol (kAk a [])<|sh fol (kAk a [(3,.nilslice)])<|sq<|sh fol ((3,.nilslice)::(kBk a [(7,.i (zl a)),(8,.i 0)]))<|Goes.block<|Goes.imp (Q:=λx s'=>(x= .exit 0/\ ∃g,g=p/\Sub s' (ofG 19 [(3,gF 0 g)],(kA g [])))) ?_ ?_
 ·refine Goes.sub (s':=(ofG 19 ((3,.gslice 0 ([]:List qb).length 4)::(kBk a [(7,.i (zl a)),(8,.i 0)])),[.cells (([]:List qb).flatMap qa.c)])) (Uc [] [none] (by rw[hB];rfl) rfl (.keep .nil (.keep (.same (qc encS _)) (.keep (.same nI) (.keep (.same nI) .nil)))) (.fresh .nil))<|Ud (λM s=> ∃(b:List qb) (d:Int),s=(ofG 19 ((3,gF 0 b)::(kBk a (kAE (zl a) d))),(kA b []))/\zS N a M b d=some p) ?_ (m:=N) ⟨_,_,rfl,g5⟩;rintro M s ⟨b,d,rfl,g5⟩
  cases M with
  |zero=>simp only[zS]at g5;cases g5
  |succ M=>
   rw[zS]at g5;refine sh fol ((3,gF 0 b)::(kBk a (kBt (zl a) d (kBs (decide (d<(zl a)))))))<|sq<|ihD g5 (λr g5=>?_) (λr g5=>?_)
   ·obtain⟨q,e,n,j,f,k,g5⟩:=bn3 g5;exact Goes.skip<|sq<|Goes.block<|sq<|gr fol [0,1] ((3,gF 0 b)::(5,.str q)::(kBk a (kAE (zl a) d))) (qA (iv qeI encS e) (lv 0 qf8 encS e rfl))<|gq fol [2,4] ((3,gF 2 f)::(kBk a (kAE (zl a) d))) (.dead:: .cells (nq1 n)::(kA f [])) (qA (cv (qcm N q j)) (hs (.run [0,1] (zO ZT [70,70] (gF 0 b) (.slice 1 0 1 1 4)) (kA b [.cells (nq1 n)]) (gF 2 f) (.dead:: .cells (nq1 n)::(kA f [])) true) (qaq qaP (E:=qa) rfl (qdy (E:=qa) (ys:=[n]) rfl rfl rfl rfl) (qex (E:=qa) (l:=b) rfl rfl rfl k rfl))))<|gh fol ((3,gF 2 f)::(kBk a (kAE (zl a) (w64 (d+1)))))<|⟨M,(ofG 19 ((3,gF 0 f)::(kBk a (kAE (zl a) (w64 (d+1))))),(kA f [])),aQ _,(Uc [] [some 2] (by rw[hB];rfl) rfl (.keep (.gslice rfl) (.keep (.same (qc encS _)) (.keep (.same nI) (.keep (.same nI) .nil)))) (.ks .nil)),_,_,rfl,g5⟩
   cases g5
   exact Goes.exit<|⟨rfl,_,rfl,(Sub.keep [3] rfl rfl)⟩
 rintro x s' ⟨rfl,g,rfl,hsub⟩;obtain rfl:=si h;exact Goes.sub hsub<|sh fol [(2,gF 0 g)]<|Goes.ret<|(gh2 [gF 0 g] (qfZ.refl _ _))
def yO (a:Int):Option (Option (List qb)):=
 ((if a<0 then
 none
 else
 some ():Option Unit)).bind λ_=>
 ((if(w64 (a-(w64 (0-0))))>0 then
 (cut ([]:List qb) 0 0).bind λe=>
 (qnt 64 (w64 (a-(w64 (0-0)))) (⟨(⟨0,[]⟩:qm),(⟨0,[]⟩:qm)⟩:qb)).bind λb=>
 (cut b 0 0).bind λc=>
 some (some c)
 else
 some (none:Option (List qb)):Option (Option (List qb)))).bind λd=>
 some d
theorem qec (a:Int) {j:Option (List qb)} (h:yO a=some j):qf ZT (.fn 89) [.nilslice,.i a] [] (hsl 0 4 j) (kAR j):=by
 unfold yO at h;refine Uu Tryz.func89 rfl rfl (m:=27) rfl (rs:=[.tmp 4]) rfl (l:=(kBl a [])) rfl ?_;intro B hB;obtain⟨k,g2,h⟩:=bnd h;refine sh fol (kBl a [])<|sq<|sh fol (kBl a [(6,.bool (decide (a<0)))])<|Goes.imp (Q:=λx s'=>(x= .normal/\()=k/\Sub s' (ofG 27 (kBl a []),[]))) ?_ ?_
 ·refine ihD g2 (λn g2=>?_) (λn g2=>?_)
  ·cases g2
  cases g2
  exact Goes.skip<|⟨rfl,rfl,(Sub.keep [0,1] rfl rfl)⟩
 rintro x s' ⟨rfl,rfl,hsub⟩;obtain⟨o,g5,h⟩:=bnd h;refine Goes.sub hsub<|sq<|sh fol (kBl (w64 (a-(w64 (0-0)))) [])<|sh fol (kBl (w64 (a-(w64 (0-0)))) [(16,.bool (decide ((w64 (a-(w64 (0-0))))>0)))])<|Goes.imp (Q:=λx s'=>(x= .normal/\ ∃c,c=o/\Sub s' (ofG 27 [(0,hsl 0 4 c)],(kAR c)))) ?_ ?_
 ·refine ihD g5 (λp g5=>?_) (λp g5=>?_)
  ·obtain⟨q,d,f,e,g,b,rfl⟩:=bs3 g5;exact gq fol [3,5,8] [(0,.oslice 0 g.length 4)] (kA f []) (qI (hs (.done (.opt (qC ZT 70 .nilslice none (some (.i 0)) none)) .nilslice) (qso (α:=qb) qaP none (some 0) d)) (hs (.run [] (zO ZT [70,3] .nilslice (.i (w64 (a-(w64 (0-0)))))) [] (.oslice 0 f.length 4) (kA f []) false) (qpB qaP it3 (E:=qa) rfl (z:=(⟨(⟨0,[]⟩:qm),(⟨0,[]⟩:qm)⟩:qb)) (by kernel_rfl) e rfl)) (hs (.done (.opt (qC ZT 70 (.oslice 0 f.length 4) none (some (.i 0)) none)) (.oslice 0 g.length 4)) (sh_os qaP b)))<|⟨rfl,_,rfl,((show Sub _ (ofG 27 [(0,.oslice 0 g.length 4)],(kA g []))from(Uc [] [some 0] (by rw[hB];rfl) rfl (.keep (.oslice rfl) .nil) (.kb rfl (vS.cut b) .nil))).trans (Uc [] [some 0] (by rw[hB];rfl) rfl (.keep (jm.hs1 rfl) .nil) (.ks .nil)))⟩
  cases g5
  exact Goes.skip<|⟨rfl,_,rfl,(Uc [] [none] (by rw[hB];rfl) rfl (.keep jm.hs0 .nil) (.fresh .nil))⟩
 rintro x s' ⟨rfl,c,rfl,hsub⟩;obtain rfl:=si h;exact Goes.sub hsub<|sh fol [(4,hsl 0 4 c)]<|Goes.ret<|(gh2 [hsl 0 4 c] (qfZ.refl _ _))
def qH (a:List qb) (b:Int) (c:List Int) (d:Int) (e:List Int) (f:List qb):Nat->Int->Int->Option Int
 |0,_,_=>none
 |K+1,g,h=>
  if g<3 then
  (((idx ([a,([(⟨(⟨b,c⟩:qm),(⟨d,e⟩:qm)⟩:qb)]:List qb),f]:List (List qb)) g).bind λi=>
  if(w64 (h+(i.length:Int)))<0 then
  none
  else
  some (w64 (h+(i.length:Int))):Option Int)).bind λj=>
  qH a b c d e f K (w64 (g+1)) j
  else
  some h
def qG (b:List qb) (c:Int) (d:List Int) (e:Int) (f:List Int) (g:List qb):Nat->(Option (List qb))->Int->Option (Option (List qb))
 |0,_,_=>none
 |K+1,h,a=>
  if a<3 then
  (idx ([b,([(⟨(⟨c,d⟩:qm),(⟨e,f⟩:qm)⟩:qb)]:List qb),g]:List (List qb)) a).bind λi=>
  ((match h with
  |none=>
  (match i with
  |[]=>
  some (none:Option (List qb))
  |m::xs21=>
  none)
  |some j=>
  (app 64 j i).bind λk=>
  some (some k)):Option (Option (List qb))).bind λl=>
  qG b c d e f g K l (w64 (a+1))
  else
  some h
def vC (N:Nat) (a:List qb) (b:Int) (c:List Int) (d:Int) (e:List Int) (f:List qb):Option (Option (List qb)):=
 (qH a b c d e f N 0 0).bind λi=>
 (yO i).bind λg=>
 (qG a b c d e f N g 0).bind λh=>
 some h
theorem qdK (N:Nat) (b:List qb) (d:Int) (e:List Int) (f:Int) (g:List Int) (a:List qb) {I:Option (List qb)} (h:vC N b d e f g a=some I):qf ZT (.fn 38) [.slice 0 0 3 3 1] (.cells [.gslice 1 b.length 4,.slice 2 0 1 1 4,.slice 3 0 a.length a.length 4]::(kA b (.cells (ni2 d e f g)::(kA a [])))) (hsl 4 4 I) (kQ (.dead::(kAR I))):=by
 unfold vC at h;refine Uu Tryz.func38 rfl rfl (m:=36) rfl (rs:=[.tmp 2]) rfl (l:=(kBD [])) rfl ?_;intro B hB;obtain⟨L,g5,h⟩:=bnd h;refine sh fol (kBD [])<|sh fol (kBD [(3,.i 0)])<|sq<|sh fol (kBD kBu)<|Goes.block<|Goes.imp (Q:=λx s'=>(x= .exit 0/\ ∃D,D=L/\Sub s' (ofG 36 (kBD [(3,.i D)]),(kAP b ([(⟨(⟨d,e⟩:qm),(⟨f,g⟩:qm)⟩:qb)]:List qb) a (kQ []))))) ?_ ?_
 ·refine Goes.sub (s':=(ofG 36 (kBD kBu),(kAP b ([(⟨(⟨d,e⟩:qm),(⟨f,g⟩:qm)⟩:qb)]:List qb) a (kQ [])))) (Uc [1,2,3] [some 0,some 1,some 2,some 3] (by rw[hB];rfl) rfl (.keep (.slice rfl) (.keep (.same nI) (.keep (.slice rfl) (.keep (.same nI) (.keep (.same nI) .nil))))) (.kb rfl (.cells (rc (.frz (Fz.gs (E:=qa) rfl rfl (nl rfl)) (qc qa _)) (rc (.frz (Fz.lit rfl rfl (Uf (AllST.cons tI (AllST.cons (qp eU _ (nl rfl)) (AllST.cons tI (AllST.cons (qp eU _ (nl rfl)) AllST.nil)))))) (qc qa _)) (rc (.frz (Fz.sl (E:=qa) rfl rfl (nl rfl)) (qc qa _)) rn)))) (.lost (.lost (.lost .nil)))))<|Ud (λM s=> ∃(p:Int) (v:Int),s=(ofG 36 (kAG v p []),(kAP b ([(⟨(⟨d,e⟩:qm),(⟨f,g⟩:qm)⟩:qb)]:List qb) a (kQ [])))/\qH b d e f g a M p v=some L) ?_ (m:=N) ⟨_,_,rfl,g5⟩;rintro M s ⟨p,v,rfl,g5⟩
  cases M with
  |zero=>simp only[qH]at g5;cases g5
  |succ M=>
   rw[qH]at g5;refine sh fol (kAG v p (kBH (decide (p<3))))<|sq<|ihD g5 (λO g5=>?_) (λO g5=>?_)
   ·obtain⟨P,g8,g5⟩:=bnd g5;refine Goes.skip<|sq<|Goes.imp (Q:=λx s'=>(x= .normal/\ ∃F,F=P/\Sub s' (ofG 36 (kAG F p []),(kAP b ([(⟨(⟨d,e⟩:qm),(⟨f,g⟩:qm)⟩:qb)]:List qb) a (kQ []))))) ?_ ?_
    ·obtain⟨G,w,g8⟩:=bnd g8;refine Goes.block<|sq<|gr fol [0,1] (kBD [(3,.i v),(5,vl qa G),(9,.slice 0 0 3 3 1),(10,.i 3),(11,.i p)]) (qA (hs (.done (.opt (qd ZT 69 (.slice 0 0 ([b,([(⟨(⟨d,e⟩:qm),(⟨f,g⟩:qm)⟩:qb)]:List qb),a]:List (List qb)).length ([b,([(⟨(⟨d,e⟩:qm),(⟨f,g⟩:qm)⟩:qb)]:List qb),a]:List (List qb)).length 1) (.i p))) (.ptr 0 ((p:Int).toNat*1+0))) (qad qdn w)) (hs (.run [0] (qX ZT 70 (.ptr 0 ((p:Int).toNat*1+0))) (kAP b ([(⟨(⟨d,e⟩:qm),(⟨f,g⟩:qm)⟩:qb)]:List qb) a (kQ [])) (vl qa G) (kAP b ([(⟨(⟨d,e⟩:qm),(⟨f,g⟩:qm)⟩:qb)]:List qb) a (kQ [])) false) (qdh qf3 (E:=(qaG qa)) (l:=([b,([(⟨(⟨d,e⟩:qm),(⟨f,g⟩:qm)⟩:qb)]:List qb),a]:List (List qb))) rfl rfl w (nl rfl) rfl)))<|sh fol (kAG (w64 (v+(zl G))) p [])<|sh fol (kAG (w64 (v+(zl G))) p (kBe (decide ((w64 (v+(zl G)))<0))))<|ihD g8 (λJ g8=>?_) (λJ g8=>?_)
     ·cases g8
     cases g8
     exact Goes.skip<|⟨rfl,_,rfl,(Sub.keep [0,3,9,10,11] rfl rfl)⟩
    rintro x s' ⟨rfl,F,rfl,hsub⟩;exact Goes.sub hsub<|gh fol (kAG F (w64 (p+1)) [])<|⟨M,(ofG 36 (kAG F (w64 (p+1)) []),(kAP b ([(⟨(⟨d,e⟩:qm),(⟨f,g⟩:qm)⟩:qb)]:List qb) a (kQ []))),aQ _,(Sub.keep [0,3,9,10,11] rfl rfl),_,_,rfl,g5⟩
   cases g5
   exact Goes.exit<|⟨rfl,_,rfl,(Sub.keep [0,3] rfl rfl)⟩
 rintro x s' ⟨rfl,D,rfl,hsub⟩;obtain⟨n,y,H,g16,h⟩:=bn2 h;refine Goes.sub hsub<|sq<|gq fol [1] (kBD [(6,hsl 4 4 n)]) (kAP b ([(⟨(⟨d,e⟩:qm),(⟨f,g⟩:qm)⟩:qb)]:List qb) a (kQ (kAR n))) (qh (hs (.callH 89 [.nilslice,.i D] (kAP b ([(⟨(⟨d,e⟩:qm),(⟨f,g⟩:qm)⟩:qb)]:List qb) a (kQ [])) [] (hsl 4 4 n) (kAP b ([(⟨(⟨d,e⟩:qm),(⟨f,g⟩:qm)⟩:qb)]:List qb) a (kQ (kAR n)))) (qbA [] [none,none,none,none,some 0] (qec D y) .nil rfl rfl (.old rfl rfl (.old rfl rfl (.old rfl rfl (.old rfl rfl (.new rfl rfl (.same fa) rfl .nil))))) (rc (.same (qO.nilslice)) (rc (.same nI) rn)) (.hs rfl) rfl)))<|sq<|sh fol [(6,hsl 4 4 n),(25,.slice 0 0 3 3 1),(26,.i 3),(27,.i 0)]<|Goes.block<|Goes.imp (Q:=λx s'=>(x= .exit 2/\ ∃q,q=H/\Sub s' (ofG 36 [(6,hsl 4 4 q)],(kQ (.dead::(kAR q)))))) ?_ ?_
 ·refine Goes.sub (s':=(ofG 36 [(6,hsl 4 4 n),(25,vl (qaG qa) ([b,([(⟨(⟨d,e⟩:qm),(⟨f,g⟩:qm)⟩:qb)]:List qb),a]:List (List qb))),(26,.i 3),(27,.i 0)],(kQ (.dead::(kAR n))))) (Uc [0] [some 0,some 1,some 2,some 3,some 4] (by rw[hB];rfl) rfl (.keep (jm.hs rfl) (.keep (.frz (Fz.lit rfl rfl (Uf (AllST.cons (qw qa _ (nl rfl)) (AllST.cons (qw qa _ (nl rfl)) (AllST.cons (qw qa _ (nl rfl)) AllST.nil))))) (qc (qaG qa) _)) (.keep (.same nI) (.keep (.same nI) .nil)))) (.lost (.lost (.lost (.lost (.ks .nil))))))<|Ud (λM s=> ∃(o:Option (List qb)) (k:Int),s=(ofG 36 ((6,hsl 4 4 o)::(25,vl (qaG qa) ([b,([(⟨(⟨d,e⟩:qm),(⟨f,g⟩:qm)⟩:qb)]:List qb),a]:List (List qb)))::(kBJ k)),(kQ (.dead::(kAR o))))/\qG b d e f g a M o k=some H) ?_ (m:=N) ⟨_,_,rfl,g16⟩;rintro M s ⟨o,k,rfl,g16⟩
  cases M with
  |zero=>simp only[qG]at g16;cases g16
  |succ M=>
   rw[qG]at g16;refine sh fol [(6,hsl 4 4 o),(25,vl (qaG qa) ([b,([(⟨(⟨d,e⟩:qm),(⟨f,g⟩:qm)⟩:qb)]:List qb),a]:List (List qb))),(26,.i 3),(27,.i k),(28,.bool (decide (k<3)))]<|sq<|ihD g16 (λK g16=>?_) (λK g16=>?_)
   ·obtain⟨z,r,t,j,g16⟩:=bn2 g16;refine Goes.skip<|sq<|Goes.block<|sq<|gr fol [0,1] ((6,hsl 4 4 o)::(8,vl qa z)::(25,vl (qaG qa) ([b,([(⟨(⟨d,e⟩:qm),(⟨f,g⟩:qm)⟩:qb)]:List qb),a]:List (List qb)))::(kBJ k)) (qA (iv qdn (qaG qa) r) (lv 0 qf3 (qaG qa) r rfl))<|Goes.cutS (s':=(ofG 36 ((6,hsl 4 4 t)::(25,vl (qaG qa) ([b,([(⟨(⟨d,e⟩:qm),(⟨f,g⟩:qm)⟩:qb)]:List qb),a]:List (List qb)))::(kBJ k)),(kQ (.dead::(kAR t))))) ?_ ?_
    ·rcases o with _|A
     ·try dsimp only at j
      rcases z with _|⟨U,xs21⟩
      ·try dsimp only at j
       cases j
       exact qbg.sub (qbg.rq fol [2] ((6,.nilslice)::(25,vl (qaG qa) ([b,([(⟨(⟨d,e⟩:qm),(⟨f,g⟩:qm)⟩:qb)]:List qb),a]:List (List qb)))::(kBJ k)) (kQ [.dead,.cells ((hof (none:Option (List qb))).flatMap qa.c)]) (qh (hs (.run [] (zO ZT [70,70] .nilslice (vl qa ([]:List qb))) (kQ [.dead,.cells ((hof (none:Option (List qb))).flatMap qa.c)]) .nilslice (kQ [.dead,.cells ((hof (none:Option (List qb))).flatMap qa.c)]) false) (qrq qaP)))) (Uc [] [some 0,some 1,some 2,some 3,none] (by rw[hB];rfl) rfl (.keep jm.hs0 (.keep (.same (qc (qaG qa) _)) (.keep (.same nI) (.keep (.same nI) .nil)))) (.lost (.lost (.lost (.lost (.fresh .nil))))))
      try dsimp only at j
      cases j
     try dsimp only at j
     obtain⟨u,C,rfl⟩:=bs1 j;exact qbg.sub (qbg.rq fol [2] ((6,.oslice 5 u.length 4)::(25,vl (qaG qa) ([b,([(⟨(⟨d,e⟩:qm),(⟨f,g⟩:qm)⟩:qb)]:List qb),a]:List (List qb)))::(kBJ k)) (kQ (kBy (kA u []))) (qh (hs (.run [4] (zO ZT [70,70] (.oslice 4 A.length 4) (vl qa z)) (kQ (.dead::(kA A []))) (.oslice 5 u.length 4) (kQ (kBy (kA u []))) true) (qaq qaP (E:=qa) rfl (qrP (E:=qa) rfl _) (qrB (E:=qa) (l:=A) rfl rfl rfl C rfl))))) (Uc [] [some 0,some 1,some 2,some 3,some 5] (by rw[hB];rfl) rfl (.keep (jm.hs1 rfl) (.keep (.same (qc (qaG qa) _)) (.keep (.same nI) (.keep (.same nI) .nil)))) (.lost (.lost (.lost (.lost (.ks .nil))))))
    intro _ hsub;exact Goes.sub hsub<|gh fol ((6,hsl 4 4 t)::(25,vl (qaG qa) ([b,([(⟨(⟨d,e⟩:qm),(⟨f,g⟩:qm)⟩:qb)]:List qb),a]:List (List qb)))::(kBJ (w64 (k+1))))<|⟨M,(ofG 36 ((6,hsl 4 4 t)::(25,vl (qaG qa) ([b,([(⟨(⟨d,e⟩:qm),(⟨f,g⟩:qm)⟩:qb)]:List qb),a]:List (List qb)))::(kBJ (w64 (k+1)))),(kQ (.dead::(kAR t)))),aQ _,(Sub.keep [6,25,26,27] rfl rfl),_,_,rfl,g16⟩
   cases g16
   exact Goes.exit<|⟨rfl,_,rfl,(Sub.keep [6] rfl rfl)⟩
 rintro x s' ⟨rfl,q,rfl,hsub⟩;obtain rfl:=si h;exact Goes.sub hsub<|sh fol [(2,hsl 4 4 q)]<|Goes.ret<|(gh2 [hsl 4 4 q] (Sub.keep [0] rfl rfl))
def kg (N:Nat) (c:List qb) (f:List Int) (d:qb):Nat->(List (List qb))->Int->Option (List (List qb))
 |0,_,_=>none
 |K+1,b,a=>
  if a<(c.length:Int)then
  (idx b (f.length:Int)).bind λe=>
  (idx e a).bind λg=>
  (qal N g d).bind λh=>
  (put e a h).bind λi=>
  kg N c f d K (qaw b (f.length:Int) i) (w64 (a+1))
  else
  some b
def qY (N:Nat) (b:List (List qb)) (d:List qb) (m:List Int) (e:Int) (f:qb):Nat->(List qb)->Int->Option (List (List qb))
 |0,_,_=>none
 |K+1,c,a=>
  if a<(d.length:Int)then
  (idx b (m.length:Int)).bind λg=>
  (idx c a).bind λh=>
  (idx g a).bind λi=>
  (qal N f i).bind λj=>
  (qbY N h j).bind λk=>
  (put c a k).bind λl=>
  qY N b d m e f K l (w64 (a+1))
  else
  some (qaw b e c)
def ko (N:Nat) (d:List (List qb)) (e:List Int) (f:Int):Nat->(List (List qb))->Int->Option (List (List qb))
 |0,_,_=>none
 |K+1,b,a=>
  if a<(d.length:Int)then
  (((idx b a).bind λc=>
  (if a=(e.length:Int)then
  some true
  else
  (idx c f).bind λg=>
  (jO g).bind λh=>
  some (decide (h=0)):Option Bool).bind λi=>
  if i=true then
  some b
  else
  (idx c f).bind λj=>
  if a=(e.length:Int)then
  none
  else
  (qY N b c e a j N c 0).bind λk=>
  some k:Option (List (List qb)))).bind λl=>
  ko N d e f K l (w64 (a+1))
  else
  some b
def qK (N:Nat) (c:List (List qb)) (b:List Int) (d:Int):Nat->Int->Option (((List (List qb))×(List Int))⊕Unit)
 |0,_=>none
 |K+1,a=>
  if a<(c.length:Int)then
  (idx c a).bind λe=>
  (idx e d).bind λi=>
  (jO i).bind λj=>
  if j=0 then
  qK N c b d K (w64 (a+1))
  else
  ((if a=(b.length:Int)then
  (idx c (b.length:Int)).bind λp=>
  some c
  else
  (idx c (b.length:Int)).bind λk=>
  some (qaw (qaw c (b.length:Int) e) a k):Option (List (List qb)))).bind λf=>
  (idx f (b.length:Int)).bind λg=>
  (idx g d).bind λl=>
  (qbX N l).bind λm=>
  (kg N g b m N f 0).bind λh=>
  (ko N h b d N h 0).bind λn=>
  (app 8 b [d]).bind λo=>
  some (.inl (n,o))
  else
  some (.inr ())
def qE (N:Nat) (a:Int):Nat->(List (List qb))->(List Int)->Int->Option ((List (List qb))×(List Int))
 |0,_,_,_=>none
 |K+1,c,b,d=>
  if d<a then
  (((qK N c b d N (b.length:Int)).bind (λ
  |(.inl (e,f))=>
  some (e,f)
  |(.inr ())=>
  some (c,b)):Option ((List (List qb))×(List Int)))).bind λ(g,h)=>
  qE N a K g h (w64 (d+1))
  else
  some (c,b)
def zF (N:Nat) (a:List (List qb)) (b:Int):Option ((List (List qb))×(List Int)):=
 (qE N b N a ([]:List Int) 0).bind λ(c,d)=>
 some (c,d)
theorem qaM (N:Nat) (Y:List (List qb)) (f:Int) {l1:List (List qb)} {l2:List Int} (h:zF N Y f=some (l1,l2)):qf ZT (.fn 41) [.gslice 0 Y.length 1,.i f] [bg qa Y] (.gslice 1 l2.length 1) (bg qa l1::(kB l2 [])):=by
 unfold zF at h;refine Uu Tryz.func41 rfl rfl (m:=141) rfl (rs:=[.tmp 4]) rfl (l:=(kBm Y [(1,.i f)])) rfl ?_;intro B hB;obtain⟨r8,g8,h⟩:=bnd h;refine sh fol (kBm Y [(1,.i f)])<|Goes.scope<|sh fol (kBm Y [(1,.i f),(5,.nilslice)])<|sq<|Goes.label<|sq<|sh fol (kBm Y [(5,.nilslice),(15,.i f),(16,.i 0)])<|Goes.block<|Goes.imp (Q:=λx s'=>(x= .exit 0/\ ∃l6 l7,(l6,l7)=r8/\Sub s' (ofG 141 [(5,.gslice 1 l7.length 1)],(bg qa l6::(kB l7 []))))) ?_ ?_
 ·refine Goes.sub (s':=(ofG 141 (kBm Y [(5,.gslice 1 ([]:List Int).length 1),(15,.i f),(16,.i 0)]),(bg qa Y::kAt))) (Uc [] [some 0,none] (by rw[hB];rfl) rfl (.keep (.gslice rfl) (.keep .nil (.keep (.same nI) (.keep (.same nI) .nil)))) (.kb rfl vS.bgs (.fresh .nil)))<|Ud (λM s=> ∃(u:List (List qb)) (a:List Int) (j:Int),s=(ofG 141 (kAQ u a (kO f j [])),(bg qa u::(kB a [])))/\qE N f M u a j=some r8) ?_ (m:=N) ⟨_,_,_,rfl,g8⟩;rintro M s ⟨u,a,j,rfl,g8⟩
  cases M with
  |zero=>simp only[qE]at g8;cases g8
  |succ M=>
   rw[qE]at g8;refine sh fol (kAQ u a (kO f j [(17,.bool (decide (j<f)))]))<|sq<|ihD g8 (λc9 g8=>?_) (λc9 g8=>?_)
   ·obtain⟨r12,g12,g8⟩:=bnd g8;refine Goes.skip<|sq<|Goes.imp (Q:=λx s'=>(x= .normal/\ ∃a9 b0,(a9,b0)=r12/\Sub s' (ofG 141 (kAQ a9 b0 (kO f j [])),(bg qa a9::(kB b0 []))))) ?_ ?_
    ·obtain⟨c7,g16,g12⟩:=bnd g12;refine Goes.block<|sh fol (kAQ u a ((6,.i j)::(kO f j [])))<|sh fol (kD u a j (zl a) (kO f j []))<|sh fol (kD u a j (zl a) ((8,.i (zl a))::(kO f j [])))<|Goes.block<|Goes.imp (Q:=λx s'=>(x= .exit 1/\ ∃c3 c4,(.inl (c3,c4))=c7/\Sub s' (ofG 141 (kAQ c3 c4 (kO f j [])),(bg qa c3::(kB c4 []))))\/(x= .exit 2/\(.inr ())=c7/\Sub s' (ofG 141 (kAQ u a (kO f j [])),(bg qa u::(kB a []))))) ?_ ?_
     ·refine Ud (λM s=> ∃(q:Int),s=(ofG 141 (kD u a j (zl a) ((8,.i q)::(kO f j []))),(bg qa u::(kB a [])))/\qK N u a j M q=some c7) ?_ (m:=N) ⟨_,rfl,g16⟩;rintro M s ⟨q,rfl,g16⟩
      cases M with
      |zero=>simp only[qK]at g16;cases g16
      |succ M=>
       rw[qK]at g16;refine sq<|sh fol (kD u a j (zl a) ((8,.i q)::(kO f j [(25,.bool (decide (q<(zl u))))])))<|ihD g16 (λc17 g16=>?_) (λc17 g16=>?_)
       ·obtain⟨p,I,b1,b2,a6,c8,g16⟩:=bn3 g16;refine Goes.skip<|sq<|Goes.block<|sq<|sq<|Goes.sub (s':=(ofG 141 (kD u a j (zl a) ((8,.i q)::(kO f j [(25,.bool (decide (q<(zl u))))]))),(.bag (wS (wM u) q (gF 2 p))::(kB a (kA p []))))) (Uh (E:=qa) (b:=0) rfl I)<|gr fol [2,3,5,6,7,8] (kD u a j (zl a) ((8,.i q)::(kO f j [(37,.bool (decide (a6=0)))]))) (qcE (hs (.done (.opt (qd ZT 69 (.gslice 0 u.length 1) (.i q))) (.ptr 0 ((q:Int).toNat*1+0))) (xG qdn I)) (hs (.run [0] (qX ZT 70 (.ptr 0 ((q:Int).toNat*1+0))) (.bag (wS (wM u) q (gF 2 p))::(kB a (kA p []))) (gF 2 p) (.bag (wS (wM u) q (gF 2 p))::(kB a (kA p []))) false) (qcy qf3 rfl (at_set I))) (hs (.done (.opt (qd ZT 70 (gF 2 p) (.i j))) (.ptr 2 ((j:Int).toNat*4+0))) (xG qaP b2)) (hs (.run [2] (qX ZT 76 (.ptr 2 ((j:Int).toNat*4+0))) (.bag (wS (wM u) q (gF 2 p))::(kB a (kA p []))) (.agg (nq1 b1)) (.bag (wS (wM u) q (gF 2 p))::(kB a (kA p []))) false) (qeQ qfG (E:=qa) (l:=p) rfl rfl b2)) (hs (.done (mkI ZT 76 (.agg (nq1 b1))) (.iface 76 (.agg (nq1 b1)))) (qjB qob)) (hs (.callH (.mt 76 "Sign") [.agg (nq1 b1)] (.bag (wS (wM u) q (gF 2 p))::(kB a (kA p []))) [] (.i a6) (.bag (wS (wM u) q (gF 2 p))::(kB a (kA p [])))) (qfA (qh1 76 "Sign" 42 rfl) (AllST.cons (Still.agg (AllST.cons tI (AllST.cons (qp eU _ (nl rfl)) (AllST.cons tI (AllST.cons (qp eU _ (nl rfl)) AllST.nil))))) AllST.nil) (yV b1 c8) tI)))<|Goes.sub (show Sub _ (ofG 141 (kD u a j (zl a) ((8,.i q)::(kO f j [(37,.bool (decide (a6=0)))]))),(bg qa u::(kB a [.dead])))from(Uj (E:=qa) (b:=0) (c:=2) (aR rfl) rfl rfl I .g rfl))<|ihD g16 (λc22 g16=>?_) (λc22 g16=>?_)
        ·exact Goes.exit<|gh fol (kD u a j (zl a) ((8,.i (w64 (q+1)))::(kO f j [])))<|⟨M,(ofG 141 (kD u a j (zl a) ((8,.i (w64 (q+1)))::(kO f j []))),(bg qa u::(kB a []))),aQ _,(Uc [] [some 0,some 1] (by rw[hB];rfl) rfl (.keep (.gslice rfl) (.keep (.gslice rfl) (.keep (.same nI) (.keep (.same nI) (.keep (.same nI) (.keep (.same nI) (.keep (.same nI) .nil))))))) (.kb rfl vS.bgs (.ks .nil))),_,rfl,g16⟩
        obtain⟨r24,g24,g16⟩:=bnd g16;refine Goes.skip<|sq<|Goes.imp (Q:=λx s'=>(x= .normal/\ ∃A,A=r24/\Sub s' (ofG 141 (kD A a j (zl a) (kO f j [])),(bg qa A::(kB a []))))) ?_ ?_
        ·refine ihF g24 (λa7 g24=>?_) (λa7 g24=>?_)
         ·revert g24;obtain rfl:=ot a7;intro g24;obtain⟨z,K,rfl⟩:=bs1 g24;exact Goes.sub (s':=(ofG 141 (kD u a j (zl a) ((8,.i (zl a))::(kO f j [(37,.bool (decide (a6=0)))]))),(.bag (wS (wM u) (zl a) (gF 3 z))::(kB a (.dead::(kA z [])))))) (Uh (E:=qa) (b:=0) rfl K)<|gq fol [6,7,10,11,12,13,14,15] (kD u a j (zl a) (kO f j [])) (.bag (wS (wS (wS (wM u) (zl a) (gF 3 z)) (zl a) (gF 3 z)) (zl a) (gF 3 z))::(kB a (.dead::(kA z [])))) (qkW (hs (.done (.opt (qd ZT 69 (.gslice 0 u.length 1) (.i (zl a)))) (.ptr 0 (((zl a):Int).toNat*1+0))) (xG qdn K)) (hs (.run [0] (qX ZT 70 (.ptr 0 (((zl a):Int).toNat*1+0))) (.bag (wS (wM u) (zl a) (gF 3 z))::(kB a (.dead::(kA z [])))) (gF 3 z) (.bag (wS (wM u) (zl a) (gF 3 z))::(kB a (.dead::(kA z [])))) false) (qcy qf3 rfl (at_set K))) (hs (.done (.opt (qd ZT 69 (.gslice 0 u.length 1) (.i (zl a)))) (.ptr 0 (((zl a):Int).toNat*1+0))) (xG qdn K)) (hs (.run [0] (qX ZT 70 (.ptr 0 (((zl a):Int).toNat*1+0))) (.bag (wS (wM u) (zl a) (gF 3 z))::(kB a (.dead::(kA z [])))) (gF 3 z) (.bag (wS (wM u) (zl a) (gF 3 z))::(kB a (.dead::(kA z [])))) false) (qcy qf3 rfl (at_set K))) (hs (.done (.opt (qd ZT 69 (.gslice 0 u.length 1) (.i (zl a)))) (.ptr 0 (((zl a):Int).toNat*1+0))) (xG qdn K)) (hs (.run [0] (qx ZT 70 (.ptr 0 (((zl a):Int).toNat*1+0)) (gF 3 z)) (.bag (wS (wM u) (zl a) (gF 3 z))::(kB a (.dead::(kA z [])))) .undef (.bag (wS (wS (wM u) (zl a) (gF 3 z)) (zl a) (gF 3 z))::(kB a (.dead::(kA z [])))) true) (qhB (show _=some 1 by kernel_rfl) rfl (qcH (qgr K)) rfl rfl rfl)) (hs (.done (.opt (qd ZT 69 (.gslice 0 u.length 1) (.i (zl a)))) (.ptr 0 (((zl a):Int).toNat*1+0))) (xG qdn K)) (hs (.run [0] (qx ZT 70 (.ptr 0 (((zl a):Int).toNat*1+0)) (gF 3 z)) (.bag (wS (wS (wM u) (zl a) (gF 3 z)) (zl a) (gF 3 z))::(kB a (.dead::(kA z [])))) .undef (.bag (wS (wS (wS (wM u) (zl a) (gF 3 z)) (zl a) (gF 3 z)) (zl a) (gF 3 z))::(kB a (.dead::(kA z [])))) true) (qhB (show _=some 1 by kernel_rfl) rfl (qcH (qcH (qgr K))) rfl rfl rfl)))<|⟨rfl,_,rfl,((show Sub _ (ofG 141 (kD u a j (zl a) (kO f j [])),(bg qa u::(kB a (kBy []))))from(Sub.bagSame (E:=qa) (b:=0) (c:=3) (aR rfl) rfl rfl K .g rfl)).trans (Uc [] [some 0,some 1] (by rw[hB];rfl) rfl (.keep (.gslice rfl) (.keep (.gslice rfl) (.keep (.same nI) (.keep (.same nI) (.keep (.same nI) (.keep (.same nI) .nil)))))) (.kb rfl vS.bgs (.ks .nil))))⟩
         obtain⟨G,U,rfl⟩:=bs1 g24;exact Goes.sub (s':=(ofG 141 (kD u a j (zl a) ((8,.i q)::(kO f j [(37,.bool (decide (a6=0)))]))),(.bag (wS (wM u) q (gF 3 p))::(kB a (.dead::(kA p [])))))) (Uh (E:=qa) (b:=0) rfl I)<|Goes.sub (s':=(ofG 141 (kD u a j (zl a) ((8,.i q)::(kO f j [(37,.bool (decide (a6=0)))]))),(.bag (wS (wS (wM u) q (gF 3 p)) (zl a) (gF 4 G))::(kB a (.dead::(kA p (kA G []))))))) (Sub.bagTake2 (E:=qa) (b:=0) rfl I U (of_ a7))<|gq fol [6,7,10,11,12,13,14,15] (kD u a j (zl a) (kO f j [])) (.bag (wS (wS (wS (wS (wM u) q (gF 3 p)) (zl a) (gF 4 G)) (zl a) (gF 3 p)) q (gF 4 G))::(kB a (.dead::(kA p (kA G []))))) (qkW (hs (.done (.opt (qd ZT 69 (.gslice 0 u.length 1) (.i q))) (.ptr 0 ((q:Int).toNat*1+0))) (xG qdn I)) (hs (.run [0] (qX ZT 70 (.ptr 0 ((q:Int).toNat*1+0))) (.bag (wS (wS (wM u) q (gF 3 p)) (zl a) (gF 4 G))::(kB a (.dead::(kA p (kA G []))))) (gF 3 p) (.bag (wS (wS (wM u) q (gF 3 p)) (zl a) (gF 4 G))::(kB a (.dead::(kA p (kA G []))))) false) (qcy qf3 rfl (qq9 I U (of_ a7)))) (hs (.done (.opt (qd ZT 69 (.gslice 0 u.length 1) (.i (zl a)))) (.ptr 0 (((zl a):Int).toNat*1+0))) (xG qdn U)) (hs (.run [0] (qX ZT 70 (.ptr 0 (((zl a):Int).toNat*1+0))) (.bag (wS (wS (wM u) q (gF 3 p)) (zl a) (gF 4 G))::(kB a (.dead::(kA p (kA G []))))) (gF 4 G) (.bag (wS (wS (wM u) q (gF 3 p)) (zl a) (gF 4 G))::(kB a (.dead::(kA p (kA G []))))) false) (qcy qf3 rfl (qny I U (of_ a7)))) (hs (.done (.opt (qd ZT 69 (.gslice 0 u.length 1) (.i (zl a)))) (.ptr 0 (((zl a):Int).toNat*1+0))) (xG qdn U)) (hs (.run [0] (qx ZT 70 (.ptr 0 (((zl a):Int).toNat*1+0)) (gF 3 p)) (.bag (wS (wS (wM u) q (gF 3 p)) (zl a) (gF 4 G))::(kB a (.dead::(kA p (kA G []))))) .undef (.bag (wS (wS (wS (wM u) q (gF 3 p)) (zl a) (gF 4 G)) (zl a) (gF 3 p))::(kB a (.dead::(kA p (kA G []))))) true) (qhB (show _=some 1 by kernel_rfl) rfl (qcH (qcH (qgr U))) rfl rfl rfl)) (hs (.done (.opt (qd ZT 69 (.gslice 0 u.length 1) (.i q))) (.ptr 0 ((q:Int).toNat*1+0))) (xG qdn I)) (hs (.run [0] (qx ZT 70 (.ptr 0 ((q:Int).toNat*1+0)) (gF 4 G)) (.bag (wS (wS (wS (wM u) q (gF 3 p)) (zl a) (gF 4 G)) (zl a) (gF 3 p))::(kB a (.dead::(kA p (kA G []))))) .undef (.bag (wS (wS (wS (wS (wM u) q (gF 3 p)) (zl a) (gF 4 G)) (zl a) (gF 3 p)) q (gF 4 G))::(kB a (.dead::(kA p (kA G []))))) true) (qhB (show _=some 1 by kernel_rfl) rfl (qcH (qcH (qcH (qgr I)))) rfl rfl rfl)))<|⟨rfl,_,rfl,(((show Sub _ (ofG 141 (kD u a j (zl a) (kO f j [])),(bg qa (qaw (qaw u (zl a) p) q G)::(kB a (kQ []))))from(Sub.bagSwap (E:=qa) (b:=0) (c:=3) (d:=4) (aR rfl) (aR rfl) (aR rfl) rfl rfl rfl I U (of_ a7) .g .g rfl rfl)).trans (show Sub _ (ofG 141 (kD (qaw (qaw u (zl a) p) q G) a j (zl a) (kO f j [])),(bg qa (qaw (qaw u (zl a) p) q G)::(kB a [])))from(Uc [] [some 0,some 1] (by rw[hB];rfl) rfl (.keep (.gsliceE rfl ((qfh _ _ _).trans (qfh _ _ _))) (.keep (.gslice rfl) (.keep (.same nI) (.keep (.same nI) (.keep (.same nI) (.keep (.same nI) .nil)))))) (.kb rfl vS.bgs (.ks .nil))))).trans (Sub.refl _))⟩
        rintro x s' ⟨rfl,A,rfl,hsub⟩;obtain⟨r,O,b3,b4,C,d0,r37,g37,g16⟩:=bn4 g16;refine Goes.sub hsub<|sq<|Goes.sub (s':=(ofG 141 (kD A a j (zl a) (kO f j [])),(.bag (wS (wM A) (zl a) (gF 2 r))::(kB a (kA r []))))) (Uh (E:=qa) (b:=0) rfl O)<|gq fol [2,3,5,6,7,8,10] (kD A a j (zl a) ((9,.ptr 3 0)::(kO f j []))) (.bag (wS (wM A) (zl a) (gF 2 r))::(kB a (kA r [.cells (nq1 C)]))) (qhi (hs (.done (.opt (qd ZT 69 (.gslice 0 A.length 1) (.i (zl a)))) (.ptr 0 (((zl a):Int).toNat*1+0))) (xG qdn O)) (hs (.run [0] (qX ZT 70 (.ptr 0 (((zl a):Int).toNat*1+0))) (.bag (wS (wM A) (zl a) (gF 2 r))::(kB a (kA r []))) (gF 2 r) (.bag (wS (wM A) (zl a) (gF 2 r))::(kB a (kA r []))) false) (qcy qf3 rfl (at_set O))) (hs (.done (.opt (qd ZT 70 (gF 2 r) (.i j))) (.ptr 2 ((j:Int).toNat*4+0))) (xG qaP b4)) (hs (.run [2] (qX ZT 76 (.ptr 2 ((j:Int).toNat*4+0))) (.bag (wS (wM A) (zl a) (gF 2 r))::(kB a (kA r []))) (.agg (nq1 b3)) (.bag (wS (wM A) (zl a) (gF 2 r))::(kB a (kA r []))) false) (qeQ qfG (E:=qa) (l:=r) rfl rfl b4)) (hs (.done (mkI ZT 76 (.agg (nq1 b3))) (.iface 76 (.agg (nq1 b3)))) (qjB qob)) (hs (.callH (.mt 76 "Inv") [.agg (nq1 b3)] (.bag (wS (wM A) (zl a) (gF 2 r))::(kB a (kA r []))) [] (.agg (nq1 C)) (.bag (wS (wM A) (zl a) (gF 2 r))::(kB a (kA r [])))) (qfA (qh1 76 "Inv" 78 rfl) (AllST.cons (Still.agg (AllST.cons tI (AllST.cons (qp eU _ (nl rfl)) (AllST.cons tI (AllST.cons (qp eU _ (nl rfl)) AllST.nil))))) AllST.nil) (qhw N b3 d0) (Still.agg (AllST.cons tI (AllST.cons (qp eU _ (nl rfl)) (AllST.cons tI (AllST.cons (qp eU _ (nl rfl)) AllST.nil))))))) (hs (.run [3] (qx ZT 76 (.ptr 3 0) (.agg (nq1 C))) (.bag (wS (wM A) (zl a) (gF 2 r))::(kB a (kA r (kL [])))) .undef (.bag (wS (wM A) (zl a) (gF 2 r))::(kB a (kA r [.cells (nq1 C)]))) true) (zq (n:=4) (by kernel_rfl) rfl rfl rfl rfl (cac rfl (cac nvc (cac rfl (cac nvc can)))) rfl)))<|Goes.sub (show Sub _ (ofG 141 (kD A a j (zl a) ((9,.ptr 3 0)::(kO f j []))),(bg qa A::(kB a [.dead,.cells (nq1 C)])))from(Uj (E:=qa) (b:=0) (c:=2) (aR rfl) rfl rfl O .g rfl))<|sq<|sq<|Goes.sub (s':=(ofG 141 (kD A a j (zl a) ((9,.ptr 3 0)::(kO f j []))),(.bag (wS (wM A) (zl a) (gF 4 r))::(kB a (.dead:: .cells (nq1 C)::(kA r [])))))) (Uh (E:=qa) (b:=0) rfl O)<|gr fol [2,3] (kD A a j (zl a) ((9,.ptr 3 0)::(kO f j [(65,.i (zl r)),(66,.i 0)]))) (qA (hs (.done (.opt (qd ZT 69 (.gslice 0 A.length 1) (.i (zl a)))) (.ptr 0 (((zl a):Int).toNat*1+0))) (xG qdn O)) (hs (.run [0] (qX ZT 70 (.ptr 0 (((zl a):Int).toNat*1+0))) (.bag (wS (wM A) (zl a) (gF 4 r))::(kB a (.dead:: .cells (nq1 C)::(kA r [])))) (gF 4 r) (.bag (wS (wM A) (zl a) (gF 4 r))::(kB a (.dead:: .cells (nq1 C)::(kA r [])))) false) (qcy qf3 rfl (at_set O))))<|Goes.sub (show Sub _ (ofG 141 (kD A a j (zl a) ((9,.ptr 3 0)::(kO f j [(65,.i (zl r)),(66,.i 0)]))),(bg qa A::(kB a [.dead,.cells (nq1 C),.dead])))from(Uj (E:=qa) (b:=0) (c:=4) (aR rfl) rfl rfl O .g rfl))<|Goes.block<|Goes.imp (Q:=λx s'=>(x= .exit 4/\ ∃v,v=r37/\Sub s' (ofG 141 (kD v a j (zl a) (kO f j [])),(bg qa v::(kB a []))))) ?_ ?_
        ·refine Goes.sub (s':=(ofG 141 (kD A a j (zl a) (kBj (kO f j [(65,.i (zl r)),(66,.i 0)]))),(bg qa A::(kB a [.cells (nq1 C)])))) (Uc [] [some 0,some 1,some 3] (by rw[hB];rfl) rfl (.keep (.gslice rfl) (.keep (.gslice rfl) (.keep (.same nI) (.keep (.same nI) (.kp (.keep (.same nI) (.keep (.same nI) (.keep (.same nI) (.keep (.same nI) .nil))))))))) (.kb rfl vS.bgs (.ks (.kb rfl (.same sn) .nil))))<|Ud (λM s=> ∃(H:List (List qb)) (L:Int),s=(ofG 141 (kD H a j (zl a) (kBj (kO f j (kBA (zl r) L)))),(bg qa H::(kB a [.cells (nq1 C)])))/\kg N r a C M H L=some r37) ?_ (m:=N) ⟨_,_,rfl,g37⟩;rintro M s ⟨H,L,rfl,g37⟩
         cases M with
         |zero=>simp only[kg]at g37;cases g37
         |succ M=>
          rw[kg]at g37;refine sh fol (kD H a j (zl a) (kBj (kO f j [(65,.i (zl r)),(66,.i L),(67,.bool (decide (L<(zl r))))])))<|sq<|ihD g37 (λc38 g37=>?_) (λc38 g37=>?_)
          ·obtain⟨D,V,b5,Z,d1,d2,a8,b6,g37⟩:=bn4 g37;exact Goes.skip<|sq<|Goes.block<|sh fol (kD H a j (zl a) (kBj ((10,.i L)::(kO f j (kBA (zl r) L)))))<|Goes.sub (s':=(ofG 141 (kD H a j (zl a) (kBj ((10,.i L)::(kO f j (kBA (zl r) L))))),(.bag (wS (wM H) (zl a) (gF 3 D))::(kB a (.cells (nq1 C)::(kA D [])))))) (Uh (E:=qa) (b:=0) rfl V)<|gq fol [2,3,7,8,10,11,12,14,15,16] (kD H a j (zl a) (kBj (kO f j (kBA (zl r) L)))) (.bag (wS (wM H) (zl a) (gF 3 D))::(kB a (.cells (nq1 C)::(kA a8 [])))) (qie (hs (.done (.opt (qd ZT 69 (.gslice 0 H.length 1) (.i (zl a)))) (.ptr 0 (((zl a):Int).toNat*1+0))) (xG qdn V)) (hs (.run [0] (qX ZT 70 (.ptr 0 (((zl a):Int).toNat*1+0))) (.bag (wS (wM H) (zl a) (gF 3 D))::(kB a (.cells (nq1 C)::(kA D [])))) (gF 3 D) (.bag (wS (wM H) (zl a) (gF 3 D))::(kB a (.cells (nq1 C)::(kA D [])))) false) (qcy qf3 rfl (at_set V))) (hs (.done (.opt (qd ZT 69 (.gslice 0 H.length 1) (.i (zl a)))) (.ptr 0 (((zl a):Int).toNat*1+0))) (xG qdn V)) (hs (.run [0] (qX ZT 70 (.ptr 0 (((zl a):Int).toNat*1+0))) (.bag (wS (wM H) (zl a) (gF 3 D))::(kB a (.cells (nq1 C)::(kA D [])))) (gF 3 D) (.bag (wS (wM H) (zl a) (gF 3 D))::(kB a (.cells (nq1 C)::(kA D [])))) false) (qcy qf3 rfl (at_set V))) (hs (.done (.opt (qd ZT 70 (gF 3 D) (.i L))) (.ptr 3 ((L:Int).toNat*4+0))) (xG qaP Z)) (hs (.run [3] (qX ZT 76 (.ptr 3 ((L:Int).toNat*4+0))) (.bag (wS (wM H) (zl a) (gF 3 D))::(kB a (.cells (nq1 C)::(kA D [])))) (.agg (nq1 b5)) (.bag (wS (wM H) (zl a) (gF 3 D))::(kB a (.cells (nq1 C)::(kA D [])))) false) (qeQ qfG (E:=qa) (l:=D) rfl rfl Z)) (hs (.done (mkI ZT 76 (.agg (nq1 b5))) (.iface 76 (.agg (nq1 b5)))) (qjB qob)) (hs (.callH (.mt 76 "Mul") [.agg (nq1 b5),.agg (nq1 C)] (.bag (wS (wM H) (zl a) (gF 3 D))::(kB a (.cells (nq1 C)::(kA D [])))) [] (.agg (nq1 d1)) (.bag (wS (wM H) (zl a) (gF 3 D))::(kB a (.cells (nq1 C)::(kA D []))))) (qfA (qh1 76 "Mul" 52 rfl) (AllST.cons (Still.agg (AllST.cons tI (AllST.cons (qp eU _ (nl rfl)) (AllST.cons tI (AllST.cons (qp eU _ (nl rfl)) AllST.nil))))) (AllST.cons (Still.agg (AllST.cons tI (AllST.cons (qp eU _ (nl rfl)) (AllST.cons tI (AllST.cons (qp eU _ (nl rfl)) AllST.nil))))) AllST.nil)) (qcw N b5 C d2) (Still.agg (AllST.cons tI (AllST.cons (qp eU _ (nl rfl)) (AllST.cons tI (AllST.cons (qp eU _ (nl rfl)) AllST.nil))))))) (qA (hs (.done (.opt (qd ZT 70 (gF 3 D) (.i L))) (.ptr 3 ((L:Int).toNat*4+0))) (xG qaP Z)) (hs (.run [3] (qx ZT 76 (.ptr 3 ((L:Int).toNat*4+0)) (.agg (nq1 d1))) (.bag (wS (wM H) (zl a) (gF 3 D))::(kB a (.cells (nq1 C)::(kA D [])))) .undef (.bag (wS (wM H) (zl a) (gF 3 D))::(kB a (.cells (nq1 C)::(kA a8 [])))) true) (xS (E:=qa) (l:=D) (y:=d1) rfl (show _=some 4 by kernel_rfl) rfl Z rfl rfl rfl (cac rfl (cac nvc (cac rfl (cac nvc can)))) rfl b6 rfl))))<|Goes.sub ((show Sub _ (ofG 141 (kD H a j (zl a) (kBj (kO f j (kBA (zl r) L)))),(bg qa (qaw H (zl a) a8)::(kB a [.cells (nq1 C),.dead])))from(Sub.bagGive1 (E:=qa) (b:=0) (c:=3) (aR rfl) rfl rfl V .g (jv b6))).trans (show Sub _ (ofG 141 (kD (qaw H (zl a) a8) a j (zl a) (kBj (kO f j (kBA (zl r) L)))),(bg qa (qaw H (zl a) a8)::(kB a [.cells (nq1 C)])))from(Uc [] [some 0,some 1,some 2] (by rw[hB];rfl) rfl (.keep (.gsliceE rfl (qfh _ _ _)) (.keep (.gslice rfl) (.keep (.same nI) (.keep (.same nI) (.kp (.keep (.same nI) (.keep (.same nI) (.keep (.same nI) (.keep (.same nI) .nil))))))))) (.kb rfl vS.bgs (.ks (.kb rfl (.same sn) .nil))))))<|gh fol (kD (qaw H (zl a) a8) a j (zl a) (kBj (kO f j (kBA (zl r) (w64 (L+1))))))<|zo ⟨_,_,rfl,g37⟩
          cases g37
          exact Goes.exit<|⟨rfl,_,rfl,(Uc [] [some 0,some 1] (by rw[hB];rfl) rfl (.keep (.gslice rfl) (.keep (.gslice rfl) (.keep (.same nI) (.keep (.same nI) (.drop (.keep (.same nI) (.keep (.same nI) .nil))))))) (.kb rfl vS.bgs (.ks .nil)))⟩
        rintro x s' ⟨rfl,v,rfl,hsub⟩;obtain⟨r47,g47,g16⟩:=bnd g16;refine Goes.sub hsub<|sq<|sh fol (kD v a j (zl a) (kO f j [(86,.gslice 0 v.length 1),(87,.i (zl v)),(88,.i 0)]))<|Goes.block<|Goes.imp (Q:=λx s'=>(x= .exit 6/\ ∃a2,a2=r47/\Sub s' (ofG 141 (kAQ a2 a ((6,.i j)::(kO f j []))),(bg qa a2::(kB a []))))) ?_ ?_
        ·refine Ud (λM s=> ∃(e:List (List qb)) (k:Int),s=(ofG 141 (kD e a j (zl a) (kJ f j e (zl v) k [])),(bg qa e::(kB a [])))/\ko N v a j M e k=some r47) ?_ (m:=N) ⟨_,_,rfl,g47⟩;rintro M s ⟨e,k,rfl,g47⟩
         cases M with
         |zero=>simp only[ko]at g47;cases g47
         |succ M=>
          rw[ko]at g47;refine sh fol (kD e a j (zl a) (kJ f j e (zl v) k [(89,.bool (decide (k<(zl v))))]))<|sq<|ihD g47 (λc48 g47=>?_) (λc48 g47=>?_)
          ·obtain⟨r50,g50,g47⟩:=bnd g47;refine Goes.skip<|sq<|Goes.imp (Q:=λx s'=>(x= .normal/\ ∃a3,a3=r50/\Sub s' (ofG 141 (kD a3 a j (zl a) (kJ f j a3 (zl v) k [])),(bg qa a3::(kB a []))))) ?_ ?_
           ·obtain⟨o,P,b56,X,g50⟩:=bn2 g50;refine Goes.block<|sq<|Goes.sub (s':=(ofG 141 (kD e a j (zl a) (kJ f j e (zl v) k [(89,.bool (decide (k<(zl v))))])),(.bag (wS (wM e) k (gF 2 o))::(kB a (kA o []))))) (Uh (E:=qa) (b:=0) rfl P)<|gr fol [1,2] (kD e a j (zl a) ((11,.i k)::(12,gF 2 o)::(kJ f j e (zl v) k []))) (qA (hs (.done (.opt (qd ZT 69 (.gslice 0 e.length 1) (.i k))) (.ptr 0 ((k:Int).toNat*1+0))) (xG qdn P)) (hs (.run [0] (qX ZT 70 (.ptr 0 ((k:Int).toNat*1+0))) (.bag (wS (wM e) k (gF 2 o))::(kB a (kA o []))) (gF 2 o) (.bag (wS (wM e) k (gF 2 o))::(kB a (kA o []))) false) (qcy qf3 rfl (at_set P))))<|sq<|sq<|Goes.cutS (s':=(ofG 141 (kD e a j (zl a) ((11,.i k)::(12,gF 2 o)::(kJ f j e (zl v) k [(104,.bool b56)]))),(.bag (wS (wM e) k (gF 2 o))::(kB a (kA o []))))) ?_ ?_
            ·rcases wyD X with⟨d3,X⟩|⟨d3,X⟩
             ·cases X
              exact qbg.sub (tr fol [3] (kD e a j (zl a) ((11,.i k)::(12,gF 2 o)::(kJ f j e (zl v) k [(104,.bool true)]))) (qh (gw d3))) (Sub.refl _)
             obtain⟨b7,b8,r55,d4,rfl⟩:=bs2 X;exact qbg.sub (tr fol [3,6,7,8,9] (kD e a j (zl a) ((11,.i k)::(12,gF 2 o)::(kJ f j e (zl v) k [(104,.bool (decide (r55=0)))]))) (qbj (gw d3) (hs (.done (.opt (qd ZT 70 (gF 2 o) (.i j))) (.ptr 2 ((j:Int).toNat*4+0))) (xG qaP b8)) (hs (.run [2] (qX ZT 76 (.ptr 2 ((j:Int).toNat*4+0))) (.bag (wS (wM e) k (gF 2 o))::(kB a (kA o []))) (.agg (nq1 b7)) (.bag (wS (wM e) k (gF 2 o))::(kB a (kA o []))) false) (qeQ qfG (E:=qa) (l:=o) rfl rfl b8)) (hs (.done (mkI ZT 76 (.agg (nq1 b7))) (.iface 76 (.agg (nq1 b7)))) (qjB qob)) (hs (.callH (.mt 76 "Sign") [.agg (nq1 b7)] (.bag (wS (wM e) k (gF 2 o))::(kB a (kA o []))) [] (.i r55) (.bag (wS (wM e) k (gF 2 o))::(kB a (kA o [])))) (qfA (qh1 76 "Sign" 42 rfl) (AllST.cons (Still.agg (AllST.cons tI (AllST.cons (qp eU _ (nl rfl)) (AllST.cons tI (AllST.cons (qp eU _ (nl rfl)) AllST.nil))))) AllST.nil) (yV b7 d4) tI)))) (Sub.refl _)
            intro _ hsub;refine Goes.sub hsub<|ihB g50 (λc58 g50=>?_) (λc58 g50=>?_)
            ·cases g50
             exact Goes.exit<|⟨rfl,_,rfl,((Sub.trans (s':=(ofG 141 (kD e a j (zl a) (kJ f j e (zl v) k [])),(.bag (wS (wM e) k (gF 2 o))::(kB a (kA o []))))) (Sub.keep [0,5,6,7,15,16,86,87,88] rfl rfl) (Uj (E:=qa) (b:=0) (c:=2) (aR rfl) rfl rfl P .g rfl)).trans (Uc [] [some 0,some 1] (by rw[hB];rfl) rfl (.keep (.gslice rfl) (.keep (.gslice rfl) (.keep (.same nI) (.keep (.same nI) (.keep (.same nI) (.keep (.same nI) (.keep (.gslice rfl) (.keep (.same nI) (.keep (.same nI) .nil))))))))) (.kb rfl vS.bgs (.ks .nil))))⟩
            obtain⟨F,b9,g50⟩:=bnd g50;refine Goes.skip<|sq<|gq fol [2,3,5] (kD e a j (zl a) ((11,.i k)::(kAC o (kJ f j e (zl v) k [])))) (.bag (wS (wM e) k (gF 2 o))::(kB a (kA o [.cells (nq1 F)]))) (qI (hs (.done (.opt (qd ZT 70 (gF 2 o) (.i j))) (.ptr 2 ((j:Int).toNat*4+0))) (xG qaP b9)) (hs (.run [2] (qX ZT 76 (.ptr 2 ((j:Int).toNat*4+0))) (.bag (wS (wM e) k (gF 2 o))::(kB a (kA o []))) (.agg (nq1 F)) (.bag (wS (wM e) k (gF 2 o))::(kB a (kA o []))) false) (qeQ qfG (E:=qa) (l:=o) rfl rfl b9)) (hs (.run [3] (qx ZT 76 (.ptr 3 0) (.agg (nq1 F))) (.bag (wS (wM e) k (gF 2 o))::(kB a (kA o (kL [])))) .undef (.bag (wS (wM e) k (gF 2 o))::(kB a (kA o [.cells (nq1 F)]))) true) (zq (n:=4) (by kernel_rfl) rfl rfl rfl rfl (cac rfl (cac nvc (cac rfl (cac nvc can)))) rfl)))<|sh fol (kD e a j (zl a) ((11,.i k)::(kAC o (kJ f j e (zl v) k [(110,.i (zl o)),(111,.i 0)]))))<|ihF g50 (λc5 g50=>?_) (λc5 g50=>?_)
            ·cases g50
            obtain⟨r64,g64,g50⟩:=bnd g50;refine Goes.block<|Goes.imp (Q:=λx s'=>(x= .exit 8/\ ∃c0,c0=r64/\Sub s' (ofG 141 (kD c0 a j (zl a) (kJ f j c0 (zl v) k [])),(bg qa c0::(kB a []))))) ?_ ?_
            ·refine Goes.sub (s':=(ofG 141 (kD e a j (zl a) (kAC o (kJ f j e (zl v) k [(110,.i (zl o)),(111,.i 0)]))),(.bag (wS (wM e) k (gF 2 o))::(kB a (kA o [.cells (nq1 F)]))))) (Sub.keep [0,5,6,7,12,13,15,16,86,87,88,110,111] rfl rfl)<|Ud (λM s=> ∃(t:List qb) (J:Int),s=(ofG 141 (kD e a j (zl a) (kAC t (kJ f j e (zl v) k (kA4 (zl o) J)))),(.bag (wS (wM e) k (gF 2 t))::(kB a (kA t [.cells (nq1 F)]))))/\qY N e o a k F M t J=some r64) ?_ (m:=N) ⟨_,_,rfl,g64⟩;rintro M s ⟨t,J,rfl,g64⟩
             cases M with
             |zero=>simp only[qY]at g64;cases g64
             |succ M=>
              rw[qY]at g64;refine sh fol (kD e a j (zl a) (kAC t (kJ f j e (zl v) k [(110,.i (zl o)),(111,.i J),(112,.bool (decide (J<(zl o))))])))<|sq<|ihD g64 (λc65 g64=>?_) (λc65 g64=>?_)
              ·obtain⟨w,a0,c1,a1,d5,c2,d6,d7,d8,d9,a4,a5,g64⟩:=bn6 g64;exact Goes.skip<|sq<|Goes.block<|sh fol (kD e a j (zl a) (kAC t ((14,.i J)::(kJ f j e (zl v) k (kA4 (zl o) J)))))<|Goes.sub (s':=(ofG 141 (kD e a j (zl a) (kAC t ((14,.i J)::(kJ f j e (zl v) k (kA4 (zl o) J))))),(.bag (wS (wS (wM e) k (gF 2 t)) (zl a) (gF 4 w))::(kB a (kA t (.cells (nq1 F)::(kA w []))))))) (Sub.bagTake2 (E:=qa) (b:=0) rfl P a0 (of_ c5))<|gq fol [4,5,6,8,11,12,14,15,16,17,18,19] (kD e a j (zl a) (kAC t (kJ f j e (zl v) k (kA4 (zl o) J)))) (.bag (wS (wS (wM e) k (gF 2 t)) (zl a) (gF 4 w))::(kB a (kA a4 (.cells (nq1 F)::(kA w []))))) (qie (hs (.done (.opt (qd ZT 70 (gF 2 t) (.i J))) (.ptr 2 ((J:Int).toNat*4+0))) (xG qaP a1)) (hs (.run [2] (qX ZT 76 (.ptr 2 ((J:Int).toNat*4+0))) (.bag (wS (wS (wM e) k (gF 2 t)) (zl a) (gF 4 w))::(kB a (kA t (.cells (nq1 F)::(kA w []))))) (.agg (nq1 c1)) (.bag (wS (wS (wM e) k (gF 2 t)) (zl a) (gF 4 w))::(kB a (kA t (.cells (nq1 F)::(kA w []))))) false) (qeQ qfG (E:=qa) (l:=t) rfl rfl a1)) (hs (.done (mkI ZT 76 (.agg (nq1 c1))) (.iface 76 (.agg (nq1 c1)))) (qjB qob)) (hs (.done (mkI ZT 76 (.agg (nq1 F))) (.iface 76 (.agg (nq1 F)))) (qjB qob)) (hs (.done (.opt (qd ZT 69 (.gslice 0 e.length 1) (.i (zl a)))) (.ptr 0 (((zl a):Int).toNat*1+0))) (xG qdn a0)) (hs (.run [0] (qX ZT 70 (.ptr 0 (((zl a):Int).toNat*1+0))) (.bag (wS (wS (wM e) k (gF 2 t)) (zl a) (gF 4 w))::(kB a (kA t (.cells (nq1 F)::(kA w []))))) (gF 4 w) (.bag (wS (wS (wM e) k (gF 2 t)) (zl a) (gF 4 w))::(kB a (kA t (.cells (nq1 F)::(kA w []))))) false) (qcy qf3 rfl (qny P a0 (of_ c5)))) (hs (.done (.opt (qd ZT 70 (gF 4 w) (.i J))) (.ptr 4 ((J:Int).toNat*4+0))) (xG qaP c2)) (hs (.run [4] (qX ZT 76 (.ptr 4 ((J:Int).toNat*4+0))) (.bag (wS (wS (wM e) k (gF 2 t)) (zl a) (gF 4 w))::(kB a (kA t (.cells (nq1 F)::(kA w []))))) (.agg (nq1 d5)) (.bag (wS (wS (wM e) k (gF 2 t)) (zl a) (gF 4 w))::(kB a (kA t (.cells (nq1 F)::(kA w []))))) false) (qeQ qfG (E:=qa) (l:=w) rfl rfl c2)) (zM (hs (.callH (.mt 76 "Mul") [.agg (nq1 F),.agg (nq1 d5)] (.bag (wS (wS (wM e) k (gF 2 t)) (zl a) (gF 4 w))::(kB a (kA t (.cells (nq1 F)::(kA w []))))) [] (.agg (nq1 d6)) (.bag (wS (wS (wM e) k (gF 2 t)) (zl a) (gF 4 w))::(kB a (kA t (.cells (nq1 F)::(kA w [])))))) (qfA (qh1 76 "Mul" 52 rfl) (AllST.cons (Still.agg (AllST.cons tI (AllST.cons (qp eU _ (nl rfl)) (AllST.cons tI (AllST.cons (qp eU _ (nl rfl)) AllST.nil))))) (AllST.cons (Still.agg (AllST.cons tI (AllST.cons (qp eU _ (nl rfl)) (AllST.cons tI (AllST.cons (qp eU _ (nl rfl)) AllST.nil))))) AllST.nil)) (qcw N F d5 d7) (Still.agg (AllST.cons tI (AllST.cons (qp eU _ (nl rfl)) (AllST.cons tI (AllST.cons (qp eU _ (nl rfl)) AllST.nil))))))) (hs (.callH (.mt 76 "Sub") [.agg (nq1 c1),.agg (nq1 d6)] (.bag (wS (wS (wM e) k (gF 2 t)) (zl a) (gF 4 w))::(kB a (kA t (.cells (nq1 F)::(kA w []))))) [] (.agg (nq1 d8)) (.bag (wS (wS (wM e) k (gF 2 t)) (zl a) (gF 4 w))::(kB a (kA t (.cells (nq1 F)::(kA w [])))))) (qfA (qh1 76 "Sub" 77 rfl) (AllST.cons (Still.agg (AllST.cons tI (AllST.cons (qp eU _ (nl rfl)) (AllST.cons tI (AllST.cons (qp eU _ (nl rfl)) AllST.nil))))) (AllST.cons (Still.agg (AllST.cons tI (AllST.cons (qp eU _ (nl rfl)) (AllST.cons tI (AllST.cons (qp eU _ (nl rfl)) AllST.nil))))) AllST.nil)) (qhy N c1 d6 d9) (Still.agg (AllST.cons tI (AllST.cons (qp eU _ (nl rfl)) (AllST.cons tI (AllST.cons (qp eU _ (nl rfl)) AllST.nil))))))) (hs (.done (.opt (qd ZT 70 (gF 2 t) (.i J))) (.ptr 2 ((J:Int).toNat*4+0))) (xG qaP a1)) (hs (.run [2] (qx ZT 76 (.ptr 2 ((J:Int).toNat*4+0)) (.agg (nq1 d8))) (.bag (wS (wS (wM e) k (gF 2 t)) (zl a) (gF 4 w))::(kB a (kA t (.cells (nq1 F)::(kA w []))))) .undef (.bag (wS (wS (wM e) k (gF 2 t)) (zl a) (gF 4 w))::(kB a (kA a4 (.cells (nq1 F)::(kA w []))))) true) (xS (E:=qa) (l:=t) (y:=d8) rfl (show _=some 4 by kernel_rfl) rfl a1 rfl rfl rfl (cac rfl (cac nvc (cac rfl (cac nvc can)))) rfl a5 rfl))))<|Goes.sub ((show Sub _ (ofG 141 (kD e a j (zl a) (kAC t (kJ f j e (zl v) k (kA4 (zl o) J)))),(.bag (wS (wM e) k (gF 2 t))::(kB a (kA a4 [.cells (nq1 F),.dead]))))from(Sub.bagBack2 (E:=qa) (b:=0) (c:=4) (aR rfl) rfl rfl P a0 (of_ c5) .g rfl)).trans (show Sub _ (ofG 141 (kD e a j (zl a) (kAC a4 (kJ f j e (zl v) k (kA4 (zl o) J)))),(.bag (wS (wM e) k (gF 2 a4))::(kB a (kA a4 [.cells (nq1 F)]))))from(Uc [] [some 0,some 1,some 2,some 3] (by rw[hB];rfl) rfl (.keep (.gslice rfl) (.keep (.gslice rfl) (.keep (.same nI) (.keep (.same nI) (.keep (.gsliceE rfl (jv a5)) (.kp (.keep (.same nI) (.keep (.same nI) (.keep (.gslice rfl) (.keep (.same nI) (.keep (.same nI) (.keep (.same nI) (.keep (.same nI) .nil))))))))))))) (.kb rfl (vS.bgv (.gsliceE rfl (jv a5))) (.ks (.ks (.kb rfl (.same sn) .nil)))))))<|gh fol (kD e a j (zl a) (kAC a4 (kJ f j e (zl v) k (kA4 (zl o) (w64 (J+1))))))<|zo ⟨_,_,rfl,g64⟩
              cases g64
              exact Goes.exit<|⟨rfl,_,rfl,((Sub.trans (s':=(ofG 141 (kD e a j (zl a) (kJ f j e (zl v) k [])),(.bag (wS (wM e) k (gF 2 t))::(kB a (kA t [.cells (nq1 F)]))))) (Sub.keep [0,5,6,7,15,16,86,87,88] rfl rfl) (Sub.bagGive1 (E:=qa) (b:=0) (c:=2) (aR rfl) rfl rfl P .g rfl)).trans (Uc [] [some 0,some 1] (by rw[hB];rfl) rfl (.keep (.gsliceE rfl (qfh _ _ _)) (.keep (.gslice rfl) (.keep (.same nI) (.keep (.same nI) (.keep (.same nI) (.keep (.same nI) (.keep (.gsliceE rfl (qfh _ _ _)) (.keep (.same nI) (.keep (.same nI) .nil))))))))) (.kb rfl vS.bgs (.ks .nil))))⟩
            rintro x s' ⟨rfl,c0,rfl,hsub⟩;cases g50
            exact⟨rfl,_,rfl,(hsub.trans (Sub.refl _))⟩
           rintro x s' ⟨rfl,a3,rfl,hsub⟩;exact Goes.sub hsub<|gh fol (kD a3 a j (zl a) (kJ f j a3 (zl v) (w64 (k+1)) []))<|zo ⟨_,_,rfl,g47⟩
          cases g47
          exact Goes.exit<|⟨rfl,_,rfl,(Sub.keep [0,5,6,15,16] rfl rfl)⟩
        rintro x s' ⟨rfl,a2,rfl,hsub⟩;obtain⟨c6,e0,rfl⟩:=bs1 g16;exact Goes.sub hsub<|sq<|gq fol [3] (kBm a2 ((5,.gslice 3 c6.length 1)::(kO f j []))) (bg qa a2::(kA1 j (kB c6 []))) (qh (hs (.run [1,2] (zO ZT [52,52] (.gslice 1 a.length 1) (.slice 2 0 1 1 1)) (bg qa a2::(kB a [.cells [.i j]])) (.gslice 3 c6.length 1) (bg qa a2::(kA1 j (kB c6 []))) true) (qaq vT (E:=encI) rfl (qdy (E:=encI) (ys:=[j]) rfl rfl rfl rfl) (qex (E:=encI) (l:=a) rfl rfl rfl e0 rfl))))<|Goes.exit<|Or.inl (⟨rfl,_,_,rfl,(Uc [] [some 0,some 3] (by rw[hB];rfl) rfl (.keep (.gslice rfl) (.keep (.gslice rfl) (.keep (.same nI) (.keep (.same nI) .nil)))) (.kb rfl vS.bgs (.ks .nil)))⟩)
       cases g16
       exact Goes.exit<|Or.inr (⟨rfl,rfl,(Sub.keep [0,5,15,16] rfl rfl)⟩)
     rintro x s' (⟨rfl,c3,c4,rfl,hsub⟩|⟨rfl,rfl,hsub⟩)
     ·try dsimp only at g12
      cases g12
      exact⟨rfl,_,_,rfl,(hsub.trans (Sub.refl _))⟩
     try dsimp only at g12
     cases g12
     exact⟨rfl,_,_,rfl,(hsub.trans (Sub.refl _))⟩
    rintro x s' ⟨rfl,a9,b0,rfl,hsub⟩
    try dsimp only at g8
    exact Goes.sub hsub<|gh fol (kAQ a9 b0 (kO f (w64 (j+1)) []))<|zo ⟨_,_,_,rfl,g8⟩
   cases g8
   exact Goes.exit<|⟨rfl,_,_,rfl,(Sub.keep [5] rfl rfl)⟩
 rintro x s' ⟨rfl,l6,l7,rfl,hsub⟩
 try dsimp only at h
 refine Goes.sub hsub<|sh fol [(4,.gslice 1 l7.length 1)]<|Goes.ret ?_;simp only[ZI,ZP]at h;obtain⟨rfl,rfl⟩:=h;exact(gh2 [.gslice 1 l7.length 1] (qfZ.refl _ _))
def vG (N:Nat) (m:List (List Str)) (b:List Str):Nat->(List (List qb))->Int->Option (List (List qb))
 |0,_,_=>none
 |K+1,o,d=>
  if d<(m.length:Int)then
  (idx m d).bind λp=>
  (qgC 0).bind λa=>
  (vz N a.Num.s a.Num.w a.Den.s a.Den.w (m.length:Int)).bind λe=>
  (qgC 1).bind λg=>
  (idx e d).bind λq=>
  (put e d g).bind λh=>
  ((jR N p).bind λi=>
  (idx b d).bind λj=>
  (qb1 N j).bind λc=>
  (vC N i c.Num.s c.Num.w c.Den.s c.Den.w h).bind λk=>
  (match k with
  |none=>
  none
  |some f=>
  (app 24 o [f]).bind λl=>
  ((if 0<f.length then some ()else none:Option Unit)).bind λr=>
  some l):Option (List (List qb))).bind λn=>
  vG N m b K n (w64 (d+1))
  else
  some o
def jb (N:Nat) (f:List Str) (a:List (List qb)) (b:Nat):Nat->Int->Option (Unit⊕((List Str)×Int))
 |0,_=>none
 |K+1,c=>
  if c<((a.drop b).length:Int)then
  (idx (a.drop b) c).bind λd=>
  (idx d (f.length:Int)).bind λg=>
  (jO g).bind λh=>
  if(!decide (h=0))=true then
  (cut d (w64 ((f.length:Int)+1)) (d.length:Int)).bind λi=>
  (qa9 N i).bind λe=>
  some (.inr (e.1,e.2))
  else
  jb N f a b K (w64 (c+1))
  else
  some (.inl ())
def jP (N:Nat) (m:List (List Str)) (b:List Str):Option ((List Str)×Int):=
 (za N m b).bind λf=>
 if(!decide (f=0))=true then
 some ([],f)
 else
 (idx m 0).bind λg=>
 (vG N m b N ([]:List (List qb)) 0).bind λh=>
 (zF N h (g.length:Int)).bind λ(a,c)=>
 ((if h.length=a.length then some ()else none:Option Unit)).bind λi=>
 (at' a (c.length:Int)).bind λd=>
 (jb N g a d N 0).bind (λ
 |(.inl ())=>
 some ([],7)
 |(.inr e)=>
 some e)
theorem qdX (N:Nat) (m:List (List Str)) (b:List Str) {res:(List Str)×Int} (h:jP N m b=some res):qf ZT (.fn 8) [vl eSS m,vl encS b] [] (.tuple [vl encS res.1,.i res.2]) []:=by
 unfold jP at h;obtain⟨r1,e_r1,h⟩:=bnd h;refine Ub Tryz.func8 rfl rfl (m:=80) rfl (rs:=[.tmp 4,.tmp 5]) rfl (l:=((0,vl eSS m)::(kAJ b []))) rfl<|sh fol ((0,vl eSS m)::(kAJ b []))<|sq<|sq<|gr fol [2] ((0,vl eSS m)::(kAJ b (kBw r1))) (qh (cv (xJ N m b e_r1)))<|sh fol ((0,vl eSS m)::(kAJ b [(6,.i r1),(18,.bool (!decide (r1=0)))]))<|ihB h (λc2 h=>?_) (λc2 h=>?_)
 ·cases h
  exact sh fol ((4,.nilslice)::(kA8 r1))<|Goes.ret<|(gw2 [.nilslice,.i r1] (FzW.tuple (qj.cons (FzW.nilv (E:=encS)) (qj.cons (Ua tI) qj.nil))))
 obtain⟨f,K,r7,g7,h⟩:=bn2 h;refine Goes.skip<|sq<|gr fol [1,2] ((0,vl eSS m)::(kAJ b [(7,.i (zl f))])) (qA (iv qcA eSS K) (lv 0 qcz eSS K rfl))<|sh fol ((0,vl eSS m)::(kAJ b [(7,.i (zl f)),(8,.nilslice)]))<|sq<|sh fol ((0,vl eSS m)::(kAJ b [(7,.i (zl f)),(8,.nilslice),(24,vl eSS m),(25,.i (zl m)),(26,.i 0)]))<|Goes.block<|Goes.imp (Q:=λx s'=>(x= .exit 0/\ ∃L,L=r7/\Sub s' (ofG 80 (kBG (zl f) L []),[bg qa L]))) ?_ ?_
 ·refine Goes.sub (s':=(ofG 80 ((0,vl eSS m)::(kAJ b [(7,.i (zl f)),(8,.gslice 0 ([]:List (List qb)).length 1),(24,vl eSS m),(25,.i (zl m)),(26,.i 0)])),[bg qa ([]:List (List qb))])) (Uc [] [none] rfl rfl (.keep (.same (qc eSS _)) (.keep (.same (qc encS _)) (.keep (.same nI) (.keep .nil (.keep (.same (qc eSS _)) (.keep (.same nI) (.keep (.same nI) .nil))))))) (.fresh .nil))<|Ud (λM s=> ∃(j:List (List qb)) (r:Int),s=(ofG 80 ((0,vl eSS m)::(kZ b (zl f) j ((24,vl eSS m)::(kAY (zl m) r)))),[bg qa j])/\vG N m b M j r=some r7) ?_ (m:=N) ⟨_,_,rfl,g7⟩;rintro M s ⟨j,r,rfl,g7⟩
  cases M with
  |zero=>simp only[vG]at g7;cases g7
  |succ M=>
   rw[vG]at g7;refine sh fol ((0,vl eSS m)::(kZ b (zl f) j [(24,vl eSS m),(25,.i (zl m)),(26,.i r),(27,.bool (decide (r<(zl m))))]))<|sq<|ihD g7 (λc8 g7=>?_) (λc8 g7=>?_)
   ·obtain⟨x9,O,q,P,k,U,r13,V,x14,z,p,A,X,g,g7⟩:=bn7 g7;refine Goes.skip<|sq<|Goes.block<|sq<|gr fol [1,2] ((0,vl eSS m)::(kZ b (zl f) j (kBW r x9 ((24,vl eSS m)::(kAY (zl m) r))))) (qA (iv qcA eSS O) (lv 0 qcz eSS O rfl))<|sq<|gq fol [0,4] ((0,vl eSS m)::(kZ b (zl f) j (kBW r x9 ((11,.slice 2 0 k.length k.length 4)::(24,vl eSS m)::(kAY (zl m) r))))) (bg qa j:: .cells (nq1 q)::(kA k [])) (qA (cv (qis 0 P)) (hs (.callH 36 [.slice 1 0 1 1 4,.i (zl m)] [bg qa j,.cells (nq1 q)] [1] (.slice 2 0 k.length k.length 4) (bg qa j:: .cells (nq1 q)::(kA k []))) (qbA [some 1] [none,some 0,some 1] (qbq N q.Num.s q.Num.w q.Den.s q.Den.w (zl m) U) (.kb rfl (.cells (rc (.same nI) (rc (.same (xA eU _)) (rc (.same nI) (rc (.same (xA eU _)) rn))))) .nil) rfl rfl (.old rfl rfl (.back rfl rfl (.cells (rc (.same nI) (rc (.same (xA eU _)) (rc (.same nI) (rc (.same (xA eU _)) rn))))) rfl (.new rfl rfl (.same fa) rfl .nil))) (rc (.slice rfl) (rc (.same nI) rn)) (.slice rfl) rfl)))<|sq<|gq fol [2,3,4] ((0,vl eSS m)::(kZ b (zl f) j (kBW r x9 ((11,.slice 2 0 k.length k.length 4)::(24,vl eSS m)::(kAY (zl m) r))))) (bg qa j:: .cells (nq1 q)::(kA p [])) (qI (cv (qis 1 V)) (hs (.done (.opt (qd ZT 70 (.slice 2 0 k.length k.length 4) (.i r))) (.ptr 2 ((r:Int).toNat*4+0))) (qad qaP z)) (hs (.run [2] (qx ZT 76 (.ptr 2 ((r:Int).toNat*4+0)) (.agg (nq1 r13))) (bg qa j:: .cells (nq1 q)::(kA k [])) .undef (bg qa j:: .cells (nq1 q)::(kA p [])) true) (xS (E:=qa) (l:=k) (y:=r13) rfl (show _=some 4 by kernel_rfl) rfl z rfl rfl rfl (cac rfl (cac nvc (cac rfl (cac nvc can)))) rfl A rfl)))<|Goes.sub (show Sub _ (ofG 80 ((0,vl eSS m)::(kZ b (zl f) j (kBW r x9 ((11,.slice 1 0 p.length p.length 4)::(24,vl eSS m)::(kAY (zl m) r))))),(bg qa j::(kA p [])))from(Uc [] [some 0,some 2] rfl rfl (.keep (.same (qc eSS _)) (.keep (.same (qc encS _)) (.keep (.same nI) (.keep (.gslice rfl) (.keep (.same nI) (.keep (.same (qc encS _)) (.keep (.sliceE rfl (jv A)) (.keep (.same (qc eSS _)) (.keep (.same nI) (.keep (.same nI) .nil)))))))))) (.kb rfl vS.bgs (.ks .nil))))<|Goes.cutS (s':=(ofG 80 ((0,vl eSS m)::(kZ b (zl f) X ((24,vl eSS m)::(kAY (zl m) r)))),[bg qa X])) ?_ ?_
    ·obtain⟨B,Y,x18,C,D,Z,o21,a0,g⟩:=bn4 g;rcases o21 with _|n
     ·try dsimp only at g
      cases g
     try dsimp only at g
     obtain⟨I,F,u24,a1,rfl⟩:=bs2 g;exact qbg.sub (qbg.rq fol [2,5,6,7,11,13] ((0,vl eSS m)::(kAJ b ((7,.i (zl f))::(8,.gslice 7 I.length 1)::(24,vl eSS m)::(kAY (zl m) r)))) (kQ (kBy (kA n (kBn n [.bag (j.map (xu qa)++[.av (.oslice 5 n.length 4)])])))) (qcE (hs (.callH 39 [vl encS x9] (bg qa j::(kA p [])) [] (gF 2 B) (bg qa j::(kA p (kA B [])))) (qbA [] [none,none,some 0] (qaT N x9 Y) .nil rfl rfl (.old rfl rfl (.old rfl rfl (.new rfl rfl (.same fa) rfl .nil))) (rc (.same (qc encS _)) rn) (.gslice rfl) rfl)) (iv qeI encS C) (lv 0 qf8 encS C rfl) (cv (qcm N x18 Z)) (hs (.callH 38 [.slice 4 0 3 3 1] (bg qa j::(kA p (kA B [.cells (nq1 D),.cells [gF 2 B,.slice 3 0 1 1 4,.slice 1 0 p.length p.length 4]]))) [4,2,3,1] (hsl 5 4 (some n)) (bg qa j::(kQ (.dead::(kAR (some n)))))) (qbA [some 4,some 2,some 3,some 1] [none,none,none,none,none,some 4] (qdK N B D.Num.s D.Num.w D.Den.s D.Den.w p a0) (.kb rfl (.cells (rc (.gslice rfl) (rc (.slice rfl) (rc (.slice rfl) rn)))) (.ks (.kb rfl (.cells (rc (.same nI) (rc (.same (xA eU _)) (rc (.same nI) (rc (.same (xA eU _)) rn))))) (.ks .nil)))) rfl rfl (.old rfl rfl (.dead (.dead (.dead (.dead (.new rfl rfl (.same fa) rfl .nil)))))) (rc (.slice rfl) rn) (.hs rfl) rfl)) (hs (.run [0,6] (zO ZT [69,69] (.gslice 0 j.length 1) (.slice 6 0 1 1 1)) (bg qa j::(kQ (.dead::(kA n (kBn n []))))) (.gslice 7 I.length 1) (kQ (kBy (kA n (kBn n [.bag (j.map (xu qa)++[.av (.oslice 5 n.length 4)])])))) true) (qmB qdn (E:=qa) (l:=j) (x:=n) rfl rfl rfl rfl rfl F rfl)))) ((show Sub _ (ofG 80 ((0,vl eSS m)::(kAJ b ((7,.i (zl f))::(8,.gslice 7 I.length 1)::(24,vl eSS m)::(kAY (zl m) r)))),(kQ (kQ (kBn n [bg qa I]))))from(Sub.bagGiveA (E:=qa) (b:=7) (c:=5) (aR rfl) rfl rfl F (.o (qqE a1)) rfl)).trans (Uc [] [some 7] rfl rfl (.keep (.same (qc eSS _)) (.keep (.same (qc encS _)) (.keep (.same nI) (.keep (.gslice rfl) (.keep (.same (qc eSS _)) (.keep (.same nI) (.keep (.same nI) .nil))))))) (.kb rfl vS.bgs .nil)))
    intro _ hsub;exact Goes.sub hsub<|gh fol ((0,vl eSS m)::(kZ b (zl f) X ((24,vl eSS m)::(kAY (zl m) (w64 (r+1))))))<|zo ⟨_,_,rfl,g7⟩
   cases g7
   exact Goes.exit<|⟨rfl,_,rfl,(Sub.keep [7,8] rfl rfl)⟩
 rintro x s' ⟨rfl,L,rfl,hsub⟩;refine Goes.sub hsub<|sq ?_;obtain⟨⟨a,u⟩,a2,h⟩:=bnd h
 try dsimp only at h
 obtain⟨u30,a3,d,v,h⟩:=bn2 h;refine sq (gq (h:=by rcases qq2 0 a.length d 1 with e|e|e<;>rw[e]<;>kernel_rfl) fol [3,5,6] ((7,.i (zl f))::(60,qbZ 0 a.length d 1)::(kBK ((a.drop d).length:Int))) (bg qa a::(kB u [])) (qI (hs (.callH 41 [.gslice 0 L.length 1,.i (zl f)] [bg qa L] [0] (.gslice 1 u.length 1) (bg qa a::(kB u []))) (qbA [some 0] [some 0,some 1] (qaM N L (zl f) a2) (.kb rfl vS.bgs .nil) rfl rfl (.back rfl rfl vS.bgs rfl (.new rfl rfl (.same fa) rfl .nil)) (rc (.gslice rfl) (rc (.same nI) rn)) (.gslice rfl) rfl)) (hs (.done (.opt (qC ZT 69 (.gslice 0 L.length 1) (some (.i (zl u))) none none)) (qbZ 0 a.length d 1)) (qnS (qka a3) qdn v)) (hs (.run (refsOf (qbZ 0 a.length d 1)) (yE ZT .len [69] [qbZ 0 a.length d 1]) (bg qa a::(kB u [])) (.i ((a.drop d).length:Int)) (bg qa a::(kB u [])) false) (qsr qdn (qkO v)))) ?_);obtain⟨a4,g33,h⟩:=bnd h;refine Goes.sub ((show Sub _ (ofG 80 ((7,.i (zl f))::(60,qbZ 0 a.length d 1)::(kBK ((a.drop d).length:Int))),(.frozen (a.flatMap (qaG qa).c)::(kB u [])))from(Sub.bagFreeze (E:=qa) (b:=0) rfl)).trans (show Sub _ (ofG 80 ((7,.i (zl f))::(60,vl (qaG qa) (a.drop d))::(kBK ((a.drop d).length:Int))),[])from(Uc [0] [] rfl rfl (.keep (.same nI) (.keep (.frz (Fz.fxF (E:=(qaG qa)) (l:=a) rfl rfl (qkO v) (nl rfl)) (qc (qaG qa) _)) (.keep (.same nI) (.keep (.same nI) .nil)))) .nil)))<|Goes.block<|Goes.imp (Q:=λx s'=>(x= .exit 2/\(.inl ())=a4/\Sub s' (ofG 80 [],[]))\/(x= .ret/\ ∃a5,(.inr a5)=a4/\zm ZT [.tmp 4,.tmp 5] (.tuple [vl encS a5.1,.i a5.2]) .ret s')) ?_ ?_
 ·refine Ud (λM s=> ∃(t:Int),s=(ofG 80 [(7,.i (zl f)),(60,vl (qaG qa) (a.drop d)),(61,.i ((a.drop d).length:Int)),(62,.i t)],[])/\jb N f a d M t=some a4) ?_ (m:=N) ⟨_,rfl,g33⟩;rintro M s ⟨t,rfl,g33⟩
  cases M with
  |zero=>simp only[jb]at g33;cases g33
  |succ M=>
   rw[jb]at g33;refine sh fol [(7,.i (zl f)),(60,vl (qaG qa) (a.drop d)),(61,.i ((a.drop d).length:Int)),(62,.i t),(63,.bool (decide (t<((a.drop d).length:Int))))]<|sq<|ihD g33 (λc35 g33=>?_) (λc35 g33=>?_)
   ·obtain⟨a6,G,x37,H,r38,a7,g33⟩:=bn3 g33;refine Goes.skip<|sq<|Goes.block<|sq<|gr fol [0,1] [(7,.i (zl f)),(13,vl qa a6),(60,vl (qaG qa) (a.drop d)),(61,.i ((a.drop d).length:Int)),(62,.i t)] (qA (iv qdn (qaG qa) G) (lv 0 qf3 (qaG qa) G rfl))<|sq<|gr fol [2,3,4] [(7,.i (zl f)),(13,vl qa a6),(60,vl (qaG qa) (a.drop d)),(61,.i ((a.drop d).length:Int)),(62,.i t),(71,.bool (!decide (r38=0)))] (qI (iv qaP qa H) (la qfG qa H) (cv (yV x37 a7)))<|ihB g33 (λc39 g33=>?_) (λc39 g33=>?_)
    ·obtain⟨s40,a8,J,a9,rfl⟩:=bs2 g33;exact sq<|gr fol [3,4] ((4,vl encS J.1)::(kA8 J.2)) (qA (hs (.done (.opt (qC ZT 70 (vl qa a6) (some (.i (w64 ((zl f)+1)))) none none)) (vl qa s40)) (qjL qaP (E:=qa) rfl (some (w64 ((zl f)+1))) none a8)) (cv (qeF N s40 a9)))<|Goes.ret<|Or.inr (⟨rfl,_,rfl,(gw2 [vl encS J.1,.i J.2] (FzW.tuple (qj.cons (Ua (qw encS _ (nl rfl))) (qj.cons (Ua tI) qj.nil))))⟩)
    exact Goes.skip<|gh fol [(7,.i (zl f)),(60,vl (qaG qa) (a.drop d)),(61,.i ((a.drop d).length:Int)),(62,.i (w64 (t+1)))]<|zo ⟨_,rfl,g33⟩
   cases g33
   exact Goes.exit<|Or.inl (⟨rfl,rfl,(Sub.keep [] rfl rfl)⟩)
 rintro x s' (⟨rfl,rfl,hsub⟩|⟨rfl,q42,rfl,hret⟩)
 ·try dsimp only at h
  cases h
  exact Goes.sub hsub<|sh fol [(4,.nilslice),(5,.i 7)]<|Goes.ret<|(gw2 [.nilslice,.i 7] (FzW.tuple (qj.cons (FzW.nilv (E:=encS)) (qj.cons (Ua tI) qj.nil))))
 try dsimp only at h
 cases h
 exact hret
def yK (N:Nat) (m:List (List Str)) (b:List Str):Nat->(List (List qb))->Int->Option (List (List qb))
 |0,_,_=>none
 |K+1,h,a=>
  if a<(m.length:Int)then
  (idx m a).bind λi=>
  (jR N i).bind λc=>
  (idx b a).bind λd=>
  (qb1 N d).bind λe=>
  (app 64 c [e]).bind λf=>
  (app 24 h [f]).bind λg=>
  yK N m b K g (w64 (a+1))
  else
  some h
def j6 (e:List Str) (b:List (List qb)):Nat->(List qb)->Int->Option ((List qb)⊕((List Str)×Int))
 |0,_,_=>none
 |K+1,c,a=>
  if a<(b.length:Int)then
  (((idx b a).bind λd=>
  if a<(e.length:Int)then
  (idx d (e.length:Int)).bind λf=>
  (app 64 c [f]).bind λg=>
  some (.inl g)
  else
  (idx d (e.length:Int)).bind λh=>
  (jO h).bind λi=>
  if(!decide (i=0))=true then
  some (.inr ([],14))
  else
  some (.inl c):Option ((List qb)⊕((List Str)×Int)))).bind (λ
  |(.inl j)=>
  j6 e b K j (w64 (a+1))
  |(.inr k)=>
  some (.inr k))
  else
  some (.inl c)
def vP (N:Nat) (m:List (List Str)) (b:List Str):Option ((List Str)×Int):=
 (za N m b).bind λh=>
 if(!decide (h=0))=true then
 some ([],h)
 else
 (idx m 0).bind λd=>
 (yK N m b N ([]:List (List qb)) 0).bind λi=>
 (zF N i (d.length:Int)).bind λ(a,e)=>
 ((if i.length=a.length then some ()else none:Option Unit)).bind λj=>
 if(e.length:Int)<(d.length:Int)then
 some ([],14)
 else
 (j6 d a N ([]:List qb) 0).bind (λ
 |(.inl f)=>
 (qa9 N f).bind λc=>
 some (c.1,c.2)
 |(.inr g)=>
 some g)
theorem qeG (N:Nat) (m:List (List Str)) (b:List Str) {res:(List Str)×Int} (h:vP N m b=some res):qf ZT (.fn 9) [vl eSS m,vl encS b] [] (.tuple [vl encS res.1,.i res.2]) []:=by
 unfold vP at h;obtain⟨r1,e_r1,h⟩:=bnd h;refine Ub Tryz.func9 rfl rfl (m:=78) rfl (rs:=[.tmp 4,.tmp 5]) rfl (l:=((0,vl eSS m)::(kAJ b []))) rfl<|sh fol ((0,vl eSS m)::(kAJ b []))<|sq<|sq<|gr fol [2] ((0,vl eSS m)::(kAJ b (kBw r1))) (qh (cv (xJ N m b e_r1)))<|sh fol ((0,vl eSS m)::(kAJ b [(6,.i r1),(18,.bool (!decide (r1=0)))]))<|ihB h (λc2 h=>?_) (λc2 h=>?_)
 ·cases h
  exact sh fol ((4,.nilslice)::(kA8 r1))<|Goes.ret<|(gw2 [.nilslice,.i r1] (FzW.tuple (qj.cons (FzW.nilv (E:=encS)) (qj.cons (Ua tI) qj.nil))))
 obtain⟨j,G,r7,g7,h⟩:=bn2 h;refine Goes.skip<|sq<|gr fol [1,2] ((0,vl eSS m)::(kAJ b [(7,.i (zl j))])) (qA (iv qcA eSS G) (lv 0 qcz eSS G rfl))<|sh fol ((0,vl eSS m)::(kAJ b [(7,.i (zl j)),(8,.nilslice)]))<|sq<|sh fol (kAJ b [(7,.i (zl j)),(8,.nilslice),(24,vl eSS m),(25,.i (zl m)),(26,.i 0)])<|Goes.block<|Goes.imp (Q:=λx s'=>(x= .exit 0/\ ∃H,H=r7/\Sub s' (ofG 78 (kBG (zl j) H []),[bg qa H]))) ?_ ?_
 ·refine Goes.sub (s':=(ofG 78 (kAJ b [(7,.i (zl j)),(8,.gslice 0 ([]:List (List qb)).length 1),(24,vl eSS m),(25,.i (zl m)),(26,.i 0)]),[bg qa ([]:List (List qb))])) (Uc [] [none] rfl rfl (.keep (.same (qc encS _)) (.keep (.same nI) (.keep .nil (.keep (.same (qc eSS _)) (.keep (.same nI) (.keep (.same nI) .nil)))))) (.fresh .nil))<|Ud (λM s=> ∃(q:List (List qb)) (w:Int),s=(ofG 78 (kZ b (zl j) q ((24,vl eSS m)::(kAY (zl m) w))),[bg qa q])/\yK N m b M q w=some r7) ?_ (m:=N) ⟨_,_,rfl,g7⟩;rintro M s ⟨q,w,rfl,g7⟩
  cases M with
  |zero=>simp only[yK]at g7;cases g7
  |succ M=>
   rw[yK]at g7;refine sh fol (kZ b (zl j) q [(24,vl eSS m),(25,.i (zl m)),(26,.i w),(27,.bool (decide (w<(zl m))))])<|sq<|ihD g7 (λc8 g7=>?_) (λc8 g7=>?_)
   ·obtain⟨x9,I,y,J,x12,z,r,K,k,L,t,A,g7⟩:=bn6 g7;exact Goes.skip<|sq<|Goes.block<|sq<|gr fol [1,2] (kZ b (zl j) q (kBW w x9 ((24,vl eSS m)::(kAY (zl m) w)))) (qA (iv qcA eSS I) (lv 0 qcz eSS I rfl))<|gq fol [2,5,6,7,9,11] (kAJ b ((7,.i (zl j))::(8,.gslice 5 t.length 1)::(24,vl eSS m)::(kAY (zl m) w))) (kBy (.cells (nq1 r)::(kA k (kBo k [.bag (q.map (xu qa)++[.av (gF 3 k)])])))) (qcE (hs (.callH 39 [vl encS x9] [bg qa q] [] (gF 1 y) (bg qa q::(kA y []))) (qbA [] [none,some 0] (qaT N x9 J) .nil rfl rfl (.old rfl rfl (.new rfl rfl (.same fa) rfl .nil)) (rc (.same (qc encS _)) rn) (.gslice rfl) rfl)) (iv qeI encS z) (lv 0 qf8 encS z rfl) (cv (qcm N x12 K)) (hs (.run [1,2] (zO ZT [70,70] (gF 1 y) (.slice 2 0 1 1 4)) (bg qa q::(kA y [.cells (nq1 r)])) (gF 3 k) (bg qa q:: .dead:: .cells (nq1 r)::(kA k [])) true) (qaq qaP (E:=qa) rfl (qdy (E:=qa) (ys:=[r]) rfl rfl rfl rfl) (qex (E:=qa) (l:=y) rfl rfl rfl L rfl))) (hs (.run [0,4] (zO ZT [69,69] (.gslice 0 q.length 1) (.slice 4 0 1 1 1)) (bg qa q:: .dead:: .cells (nq1 r)::(kA k (kBo k []))) (.gslice 5 t.length 1) (kBy (.cells (nq1 r)::(kA k (kBo k [.bag (q.map (xu qa)++[.av (gF 3 k)])])))) true) (qmB qdn (E:=qa) (l:=q) (x:=k) rfl rfl rfl rfl rfl A rfl)))<|Goes.sub (show Sub _ (ofG 78 (kAJ b ((7,.i (zl j))::(8,.gslice 5 t.length 1)::(24,vl eSS m)::(kAY (zl m) w))),(kBy (.cells (nq1 r):: .dead::(kBo k [bg qa t]))))from(Sub.bagGiveA (E:=qa) (b:=5) (c:=3) (aR rfl) rfl rfl A .g rfl))<|gh fol (kAJ b ((7,.i (zl j))::(8,.gslice 5 t.length 1)::(24,vl eSS m)::(kAY (zl m) (w64 (w+1)))))<|⟨M,(ofG 78 (kZ b (zl j) t ((24,vl eSS m)::(kAY (zl m) (w64 (w+1))))),[bg qa t]),aQ _,(Uc [] [some 5] rfl rfl (.keep (.same (qc encS _)) (.keep (.same nI) (.keep (.gslice rfl) (.keep (.same (qc eSS _)) (.keep (.same nI) (.keep (.same nI) .nil)))))) (.kb rfl vS.bgs .nil)),_,_,rfl,g7⟩
   cases g7
   exact Goes.exit<|⟨rfl,_,rfl,(Sub.keep [7,8] rfl rfl)⟩
 rintro x s' ⟨rfl,H,rfl,hsub⟩;refine Goes.sub hsub<|sq ?_;obtain⟨⟨a,B⟩,O,h⟩:=bnd h
 try dsimp only at h
 obtain⟨u19,P,h⟩:=bnd h;refine sq<|gq fol [2] (kBG (zl j) H [(49,.bool (decide ((zl B)<(zl j))))]) (bg qa a::(kB B [])) (qh (hs (.callH 41 [.gslice 0 H.length 1,.i (zl j)] [bg qa H] [0] (.gslice 1 B.length 1) (bg qa a::(kB B []))) (qbA [some 0] [some 0,some 1] (qaM N H (zl j) O) (.kb rfl vS.bgs .nil) rfl rfl (.back rfl rfl vS.bgs rfl (.new rfl rfl (.same fa) rfl .nil)) (rc (.gslice rfl) (rc (.same nI) rn)) (.gslice rfl) rfl)))<|Goes.sub (show Sub _ (ofG 78 (kBG (zl j) a [(49,.bool (decide ((zl B)<(zl j))))]),[bg qa a])from(Uc [] [some 0] rfl rfl (.keep (.same nI) (.keep (.gsliceE rfl (qka P)) (.keep (.same nB) .nil))) (.kb rfl vS.bgs .nil)))<|ihD h (λc20 h=>?_) (λc20 h=>?_)
 ·cases h
  exact sh fol kBX<|Goes.sub (Sub.bagFreeze (E:=qa) (b:=0) rfl)<|Goes.ret<|(gw2 [.nilslice,.i 14] (FzW.tuple (qj.cons (FzW.nilv (E:=encS)) (qj.cons (Ua tI) qj.nil))))
 obtain⟨U,g24,h⟩:=bnd h;refine Goes.skip<|sh fol (kBG (zl j) a [(11,.nilslice)])<|sq<|sh fol [(7,.i (zl j)),(11,.nilslice),(50,.gslice 0 a.length 1),(51,.i (zl a)),(52,.i 0)]<|Goes.block<|Goes.imp (Q:=λx s'=>(x= .exit 2/\ ∃o,(.inl o)=U/\Sub s' (ofG 78 [(11,gF 0 o)],(kA o [])))\/(x= .ret/\ ∃V,(.inr V)=U/\zm ZT [.tmp 4,.tmp 5] (.tuple [vl encS V.1,.i V.2]) .ret s')) ?_ ?_
 ·refine Goes.sub (s':=(ofG 78 ((7,.i (zl j))::(11,.gslice 0 ([]:List qb).length 4)::(kBB a (zl a) [(52,.i 0)])),[.cells (([]:List qb).flatMap qa.c),bg qa a])) (Uc [] [none,some 0] rfl rfl (.keep (.same nI) (.keep .nil (.keep (.gslice rfl) (.keep (.same nI) (.keep (.same nI) .nil))))) (.fresh (.kb rfl vS.bgs .nil)))<|Ud (λM s=> ∃(f:List qb) (d:Int),s=(ofG 78 (kY (zl j) f a (zl a) d []),(kA f [bg qa a]))/\j6 j a M f d=some U) ?_ (m:=N) ⟨_,_,rfl,g24⟩;rintro M s ⟨f,d,rfl,g24⟩
  cases M with
  |zero=>simp only[j6]at g24;cases g24
  |succ M=>
   rw[j6]at g24;refine sh fol (kY (zl j) f a (zl a) d [(53,.bool (decide (d<(zl a))))])<|sq<|ihD g24 (λc26 g24=>?_) (λc26 g24=>?_)
   ·obtain⟨r28,g28,g24⟩:=bnd g24;refine Goes.skip<|sq<|Goes.imp (Q:=λx s'=>(x= .normal/\ ∃C,(.inl C)=r28/\Sub s' (ofG 78 (kY (zl j) C a (zl a) d []),(kA C [bg qa a])))\/(x= .ret/\ ∃X,(.inr X)=r28/\zm ZT [.tmp 4,.tmp 5] (.tuple [vl encS X.1,.i X.2]) .ret s')) ?_ ?_
    ·obtain⟨e,n,g28⟩:=bnd g28;refine Goes.block<|sq<|Goes.sub (s':=(ofG 78 (kY (zl j) f a (zl a) d [(53,.bool (decide (d<(zl a))))]),(kA f (.bag (wS (wM a) d (gF 2 e))::(kA e []))))) (Uh (E:=qa) (b:=1) rfl n)<|gr fol [1,2] ((7,.i (zl j))::(11,gF 0 f)::(12,.i d)::(13,gF 2 e)::(kBB a (zl a) [(52,.i d)])) (qA (hs (.done (.opt (qd ZT 69 (.gslice 1 a.length 1) (.i d))) (.ptr 1 ((d:Int).toNat*1+0))) (xG qdn n)) (hs (.run [1] (qX ZT 70 (.ptr 1 ((d:Int).toNat*1+0))) (kA f (.bag (wS (wM a) d (gF 2 e))::(kA e []))) (gF 2 e) (kA f (.bag (wS (wM a) d (gF 2 e))::(kA e []))) false) (qcy qf3 rfl (at_set n))))<|sh fol ((7,.i (zl j))::(11,gF 0 f)::(13,gF 2 e)::(kBB a (zl a) [(52,.i d),(59,.bool (decide (d<(zl j))))]))<|ihD g28 (λc32 g28=>?_) (λc32 g28=>?_)
     ·obtain⟨u,D,v,Y,rfl⟩:=bs2 g28;exact gq fol [3,4,6] ((7,.i (zl j))::(11,gF 4 v)::(kBB a (zl a) [(52,.i d)])) (.dead:: .bag (wS (wM a) d (gF 2 e))::(kA e (.cells (nq1 u)::(kA v [])))) (qI (hs (.done (.opt (qd ZT 70 (gF 2 e) (.i (zl j)))) (.ptr 2 (((zl j):Int).toNat*4+0))) (xG qaP D)) (hs (.run [2] (qX ZT 76 (.ptr 2 (((zl j):Int).toNat*4+0))) (kA f (.bag (wS (wM a) d (gF 2 e))::(kA e []))) (.agg (nq1 u)) (kA f (.bag (wS (wM a) d (gF 2 e))::(kA e []))) false) (qeQ qfG (E:=qa) (l:=e) rfl rfl D)) (hs (.run [0,3] (zO ZT [70,70] (gF 0 f) (.slice 3 0 1 1 4)) (kA f (.bag (wS (wM a) d (gF 2 e))::(kA e [.cells (nq1 u)]))) (gF 4 v) (.dead:: .bag (wS (wM a) d (gF 2 e))::(kA e (.cells (nq1 u)::(kA v [])))) true) (qaq qaP (E:=qa) rfl (qdy (E:=qa) (ys:=[u]) rfl rfl rfl rfl) (qex (E:=qa) (l:=f) rfl rfl rfl Y rfl))))<|Or.inl (⟨rfl,_,rfl,((show Sub _ (ofG 78 ((7,.i (zl j))::(11,gF 4 v)::(kBB a (zl a) [(52,.i d)])),(.dead::bg qa a:: .dead:: .cells (nq1 u)::(kA v [])))from(Uj (E:=qa) (b:=1) (c:=2) (aR rfl) rfl rfl n .g rfl)).trans (Uc [] [some 4,some 1] rfl rfl (.keep (.same nI) (.keep (.gslice rfl) (.keep (.gslice rfl) (.keep (.same nI) (.keep (.same nI) .nil))))) (.ks (.kb rfl vS.bgs .nil))))⟩)
     obtain⟨x35,F,r36,Z,g28⟩:=bn2 g28;refine sq<|gr fol [2,3,4] (kY (zl j) f a (zl a) d [(72,.bool (!decide (r36=0)))]) (qI (hs (.done (.opt (qd ZT 70 (gF 2 e) (.i (zl j)))) (.ptr 2 (((zl j):Int).toNat*4+0))) (xG qaP F)) (hs (.run [2] (qX ZT 76 (.ptr 2 (((zl j):Int).toNat*4+0))) (kA f (.bag (wS (wM a) d (gF 2 e))::(kA e []))) (.agg (nq1 x35)) (kA f (.bag (wS (wM a) d (gF 2 e))::(kA e []))) false) (qeQ qfG (E:=qa) (l:=e) rfl rfl F)) (cv (yV x35 Z)))<|Goes.sub (show Sub _ (ofG 78 (kY (zl j) f a (zl a) d [(72,.bool (!decide (r36=0)))]),(kA f [bg qa a,.dead]))from(Uj (E:=qa) (b:=1) (c:=2) (aR rfl) rfl rfl n .g rfl))<|ihB g28 (λc37 g28=>?_) (λc37 g28=>?_)
     ·cases g28
      exact sh fol kBX<|Goes.sub (Sub.bagFreeze (E:=qa) (b:=1) rfl)<|Goes.ret<|Or.inr (⟨rfl,_,rfl,(gw2 [.nilslice,.i 14] (FzW.tuple (qj.cons (FzW.nilv (E:=encS)) (qj.cons (Ua tI) qj.nil))))⟩)
     cases g28
     exact Goes.skip<|Or.inl (⟨rfl,_,rfl,(Uc [] [some 0,some 1] rfl rfl (.keep (.same nI) (.keep (.gslice rfl) (.keep (.gslice rfl) (.keep (.same nI) (.keep (.same nI) .nil))))) (.ks (.kb rfl vS.bgs .nil)))⟩)
    rintro x s' (⟨rfl,C,rfl,hsub⟩|⟨rfl,q38,rfl,hret⟩)
    ·try dsimp only at g24
     exact Goes.sub hsub<|gh fol (kY (zl j) C a (zl a) (w64 (d+1)) [])<|zo ⟨_,_,rfl,g24⟩
    try dsimp only at g24
    cases g24
    exact Or.inr (⟨rfl,_,rfl,hret⟩)
   cases g24
   exact Goes.exit<|Or.inl (⟨rfl,_,rfl,(Uc [] [some 0] rfl rfl (.drop (.keep (.gslice rfl) .nil)) (.ks .nil))⟩)
 rintro x s' (⟨rfl,o,rfl,hsub⟩|⟨rfl,q40,rfl,hret⟩)
 ·try dsimp only at h
  obtain⟨p,a0,rfl⟩:=bs1 h;exact Goes.sub hsub<|sq<|gq fol [1] ((4,vl encS p.1)::(kA8 p.2)) [.frozen (o.flatMap qa.c)] (qh (hs (.callF 43 [gF 0 o] (kA o []) [0] [vl qa o] (.tuple [vl encS p.1,.i p.2])) (qa0 (FzL.cons (Fz.gs (E:=qa) rfl rfl (nl rfl)) FzL.nil) (qeF N o a0) (Still.tuple (AllST.cons (qw encS _ (nl rfl)) (AllST.cons tI AllST.nil))))))<|Goes.sub (show Sub _ (ofG 78 ((4,vl encS p.1)::(kA8 p.2)),[])from(Uc [] [] rfl rfl (.keep (.same (qc encS _)) (.keep (.same nI) .nil)) .nil))<|Goes.ret<|(gw2 [vl encS p.1,.i p.2] (FzW.tuple (qj.cons (Ua (qw encS _ (nl rfl))) (qj.cons (Ua tI) qj.nil))))
 try dsimp only at h
 cases h
 exact hret
def yn (N:Nat) (a:Str):Option (Int×Int×Bool):=
 if(a.length:Int)>20 then
 some (0,0,false)
 else
 (if(a.length:Int)>0 then
 (idx a 0).bind λl=>
 some (decide ((l.toNat:Int)=45))
 else
 some false:Option Bool).bind λk=>
 ((if k=true then
 (cut a 1 (a.length:Int)).bind λm=>
 some m
 else
 some a:Option Str)).bind λc=>
 (xC N c).bind λb=>
 (if b>9 then
 some true
 else
 some (decide ((w64 ((c.length:Int)-b))>10)):Option Bool).bind λe=>
 if e=true then
 some (0,0,false)
 else
 (cut c 0 b).bind λf=>
 (qai N f).bind λd=>
 ((if b<(c.length:Int)then
 (cut c (w64 (b+1)) (c.length:Int)).bind λg=>
 (qai N g).bind λh=>
 some h
 else
 some 1:Option Int)).bind λi=>
 ((if k=true then
 some (w64 (0-d))
 else
 some d:Option Int)).bind λj=>
 some (j,i,true)
theorem qbK (N:Nat) (a:Str) {res:Int×Int×Bool} (h:yn N a=some res):qf ZT (.fn 98) [.str a] [] (.tuple [.i res.1,.i res.2.1,.bool res.2.2]) []:=by
 unfold yn at h;refine Ub Tryz.func98 rfl rfl (m:=54) rfl (rs:=[.tmp 2,.tmp 3,.tmp 4]) rfl (l:=(kAn a)) rfl<|sh fol (kAn a)<|sh fol [(5,.str a)]<|sq<|sh fol ((5,.str a)::(kBO (decide ((zl a)>20))))<|ihD h (λI h=>?_) (λI h=>?_)
 ·cases h
  exact sh fol ((2,.i 0)::(3,.i 0)::kBF)<|Goes.ret<|(gw2 [.i 0,.i 0,.bool false] (FzW.tuple (qj.cons (Ua tI) (qj.cons (Ua tI) (qj.cons (Ua tB) qj.nil)))))
 obtain⟨f,d,h⟩:=bnd h;refine Goes.skip<|sq<|Goes.cut (s':=(ofG 54 (kA5 a f []),[])) ?_ ?_
 ·rcases wyD d with⟨y,d⟩|⟨y,d⟩
  ·obtain⟨G,t,rfl⟩:=bs1 d;exact tr fol [3,5] (kA5 a (decide ((G.toNat:Int)=45)) []) (qA (gw y) (hs (.done (.opt (xw ZT 9 (.str a) (.i 0))) (.int .u8 (G.toNat:Int))) (qbm st9 t)))
  cases d
  exact tr fol [3] ((5,.str a)::kAy) (qh (gw y))
 obtain⟨J,g7,h⟩:=bnd h;refine sq<|sh fol (kA5 a f [(22,.bool f)])<|Goes.imp (Q:=λx s'=>(x= .normal/\ ∃g,g=J/\Sub s' (ofG 54 (kA5 g f []),[]))) ?_ ?_
 ·refine ihB g7 (λK g7=>?_) (λK g7=>?_)
  ·obtain⟨H,u,rfl⟩:=bs1 g7;exact gr fol [1] (kA5 H f []) (qh (hs (.done (.opt (qC ZT 9 (.str a) (some (.i 1)) none none)) (.str H)) (jN st9 (some 1) none u)))<|⟨rfl,_,rfl,(Sub.refl _)⟩
  cases g7
  exact Goes.skip<|⟨rfl,_,rfl,(Sub.keep [5,6] rfl rfl)⟩
 rintro x s' ⟨rfl,g,rfl,hsub⟩;obtain⟨b,n,z,c,h⟩:=bn2 h;refine Goes.sub hsub<|sq<|gr fol [1] (kA5 g f [(7,.i b)]) (qh (cv (qaZ N g n)))<|sq<|sq<|Goes.cut (s':=(ofG 54 (kA5 g f [(7,.i b),(35,.bool z)]),[])) ?_ ?_
 ·rcases wyD c with⟨o,c⟩|⟨o,c⟩
  ·cases c
   exact tr fol [2] (kA5 g f [(7,.i b),(35,.bool true)]) (qh (gw o))
  cases c
  exact tr fol [2] (kA5 g f [(7,.i b),(35,.bool (decide ((w64 ((zl g)-b))>10)))]) (qh (gw o))
 refine ihB h (λA h=>?_) (λA h=>?_)
 ·cases h
  exact sh fol ((2,.i 0)::(3,.i 0)::kBF)<|Goes.ret<|(gw2 [.i 0,.i 0,.bool false] (FzW.tuple (qj.cons (Ua tI) (qj.cons (Ua tI) (qj.cons (Ua tB) qj.nil)))))
 obtain⟨v,p,j,q,B,g18,h⟩:=bn3 h;refine Goes.skip<|sq<|gr fol [2,3] (kA5 g f (kBt b j [(9,.i 1)])) (qA (hs (.done (.opt (qC ZT 9 (.str g) none (some (.i b)) none)) (.str v)) (jN st9 none (some b) p)) (cv (qbL N v q)))<|sq<|sh fol (kA5 g f (kBt b j [(9,.i 1),(43,.bool (decide (b<(zl g))))]))<|Goes.imp (Q:=λx s'=>(x= .normal/\ ∃e,e=B/\Sub s' (ofG 54 ((6,.bool f)::(kAu j e [])),[]))) ?_ ?_
 ·refine ihD g18 (λC g18=>?_) (λC g18=>?_)
  ·obtain⟨w,r,D,s,rfl⟩:=bs2 g18;exact gr fol [3,4] ((6,.bool f)::(kAu j D [])) (qA (hs (.done (.opt (qC ZT 9 (.str g) (some (.i (w64 (b+1)))) none none)) (.str w)) (jN st9 (some (w64 (b+1))) none r)) (cv (qbL N w s)))<|⟨rfl,_,rfl,(Sub.refl _)⟩
  cases g18
  exact Goes.skip<|⟨rfl,_,rfl,(Sub.keep [6,8,9] rfl rfl)⟩
 rintro x s' ⟨rfl,e,rfl,hsub⟩;obtain⟨E,g23,h⟩:=bnd h;refine Goes.sub hsub<|sq<|sh fol (kAu j e [(49,.bool f)])<|Goes.imp (Q:=λx s'=>(x= .normal/\ ∃k,k=E/\Sub s' (ofG 54 (kAu k e []),[]))) ?_ ?_
 ·refine ihB g23 (λF g23=>?_) (λF g23=>?_)
  ·cases g23
   exact gh fol (kAu (w64 (0-j)) e [])<|⟨rfl,_,rfl,(Sub.refl _)⟩
  cases g23
  exact Goes.skip<|⟨rfl,_,rfl,(Sub.keep [8,9] rfl rfl)⟩
 rintro x s' ⟨rfl,k,rfl,hsub⟩;cases h
 exact Goes.sub hsub<|sh fol (kBh k e [(4,.bool true)])<|Goes.ret<|(gw2 [.i k,.i e,.bool true] (FzW.tuple (qj.cons (Ua tI) (qj.cons (Ua tI) (qj.cons (Ua tB) qj.nil)))))
def qaj (N:Nat) (a:qJ):Option qJ:=
 (ja N (!a.neg) a.w).bind λb=>
 some b
theorem qe0 (N:Nat) (a:qJ) {res:qJ} (h:qaj N a=some res):qf ZT (.fn 151) [.agg (kAh a.neg a.w)] [] (.agg (kAh res.neg res.w)) []:=by
 unfold qaj at h;obtain⟨c,b,rfl⟩:=bs1 h;exact Ub Tryz.func151 rfl rfl (m:=9) rfl (rs:=[.cell 2 130]) rfl (l:=[(0,.agg [.bool a.neg,vl encI a.w])]) rfl<|sg fol (kAg kAz) (kAa a.neg a.w (kP []))<|sq<|gq fol [5] kAz (kM a.neg a.w c.neg c.w []) (qh (cv (jw N (!a.neg) a.w b)))<|Goes.ret<|(gw2 [.agg (kAh c.neg c.w)] (FzW.agg (qj.cons (Ua tB) (qj.cons (Ua (qw encI _ (nl rfl))) qj.nil))))
def ku (least:Int):Nat->Int->Str->Option Str
 |0,_,_=>none
 |K+1,a,b=>
  (if a>0 then
  some true
  else
  some (decide ((b.length:Int)<least)):Option Bool).bind λd=>
  if d=true then
  (cut [48,49,50,51,52,53,54,55,56,57] (a.tmod 10) (w64 ((a.tmod 10)+1))).bind λe=>
  (cat e b).bind λc=>
  ku least K (w64 (a.tdiv 10)) c
  else
  some b
def z8 (N:Nat) (n:Int) (least:Int):Option Str:=
 (ku least N n []).bind λa=>
 some a
theorem qbf (N:Nat) (n:Int) (least:Int) {res:Str} (h:z8 N n least=some res):qf ZT (.fn 150) [.i n,.i least] [] (.str res) []:=by
 unfold z8 at h;obtain⟨k,g4,h⟩:=bnd h;refine Ub Tryz.func150 rfl rfl (m:=25) rfl (rs:=[.tmp 4]) rfl (l:=(kAW n least [])) rfl<|sh fol (kAW n least [])<|sh fol (kAW n least [(5,.str [])])<|sq<|Goes.block<|Goes.imp (Q:=λx s'=>(x= .exit 0/\ ∃f,f=k/\Sub s' (ofG 25 [(5,.str f)],[]))) ?_ ?_
 ·refine Ud (λM s=> ∃(b:Int) (c:Str),s=(ofG 25 (kAW b least [(5,.str c)]),[])/\ku least M b c=some k) ?_ (m:=N) ⟨_,_,rfl,g4⟩;rintro M s ⟨b,c,rfl,g4⟩
  cases M with
  |zero=>simp only[ku]at g4;cases g4
  |succ M=>
   rw[ku]at g4;obtain⟨p,a,g4⟩:=bnd g4;refine sq<|sq<|Goes.cut (s':=(ofG 25 (kAW b least ((5,.str c)::(kBO p))),[])) ?_ ?_
   ·rcases wyD a with⟨j,a⟩|⟨j,a⟩
    ·cases a
     exact tr fol [2] (kAW b least [(5,.str c),(13,.bool true)]) (qh (gw j))
    cases a
    exact tr fol [2] (kAW b least ((5,.str c)::(kBO (decide ((zl c)<least))))) (qh (gw j))
   refine ihB g4 (λq g4=>?_) (λq g4=>?_)
   ·obtain⟨o,g,d,e,g4⟩:=bn2 g4;exact Goes.skip<|Goes.block<|sq<|gr fol [5,7] (kAW b least [(5,.str d)]) (qA (hs (.done (.opt (qC ZT 9 (.str [48,49,50,51,52,53,54,55,56,57]) (some (.i (b.tmod 10))) (some (.i (w64 ((b.tmod 10)+1)))) none)) (.str o)) (jN st9 (some (b.tmod 10)) (some (w64 ((b.tmod 10)+1))) g)) (hs (.done (.opt (zt ZT .add 9 (.tmp 19) (.tmp 20) (.str o) (.str c))) (.str d)) (qbV e)))<|gh fol (kAW (w64 (b.tdiv 10)) least [(5,.str d)])<|zo ⟨_,_,rfl,g4⟩
   cases g4
   exact Goes.exit<|⟨rfl,_,rfl,(Sub.keep [5] rfl rfl)⟩
 rintro x s' ⟨rfl,f,rfl,hsub⟩;obtain rfl:=si h;exact Goes.sub hsub<|sh fol (kBi f)<|Goes.ret<|(gw2 [.str f] (Ua tS))
def yS (N:Nat) (a:qJ):Nat->Str->Int->Option Str
 |0,_,_=>none
 |K+1,e,b=>
  if b>=0 then
  (idx a.w b).bind λf=>
  (z8 N f 9).bind λc=>
  (cat e c).bind λd=>
  yS N a K d (w64 (b-1))
  else
  some e
def qcj (N:Nat) (a:qJ):Option Str:=
 if(a.w.length:Int)=0 then
 some [48]
 else
 (idx a.w (w64 ((a.w.length:Int)-1))).bind λd=>
 (z8 N d 1).bind λe=>
 (yS N a N e (w64 ((a.w.length:Int)-2))).bind λc=>
 if a.neg=true then
 (cat [45] c).bind λb=>
 some b
 else
 some c
theorem qfS (N:Nat) (a:qJ) {res:Str} (h:qcj N a=some res):qf ZT (.fn 152) [.agg (kAh a.neg a.w)] [] (.str res) []:=by
 unfold qcj at h;refine Ub Tryz.func152 rfl rfl (m:=39) rfl (rs:=[.tmp 2]) rfl (l:=[(0,.agg [.bool a.neg,vl encI a.w])]) rfl<|sg fol (kAg []) (kAa a.neg a.w [])<|sq<|sh fol (kAg (kBY (decide ((zl a.w)=0))))<|ihD h (λu h=>?_) (λu h=>?_)
 ·cases h
  exact sh fol [(2,.str [48])]<|Goes.ret<|(gw2 [.str [48]] (Ua tS))
 obtain⟨v,b,r,n,t,g7,h⟩:=bn3 h;refine Goes.skip<|sq<|gr fol [6,7,8] (kAg [(3,.str r)]) (qI (iv vT encI b) (lv 0 ce3 encI b rfl) (cv (qbf N v 1 n)))<|sq<|sh fol (kAg (kAp r (w64 ((zl a.w)-2)) []))<|Goes.block<|Goes.imp (Q:=λx s'=>(x= .exit 0/\ ∃d,d=t/\Sub s' (ofG 39 (kAg [(3,.str d)]),(kAa a.neg a.w [])))) ?_ ?_
 ·refine Ud (λM s=> ∃(o:Str) (e:Int),s=(ofG 39 (kAg (kAp o e [])),(kAa a.neg a.w []))/\yS N a M o e=some t) ?_ (m:=N) ⟨_,_,rfl,g7⟩;rintro M s ⟨o,e,rfl,g7⟩
  cases M with
  |zero=>simp only[yS]at g7;cases g7
  |succ M=>
   rw[yS]at g7;refine sq<|sh fol (kAg (kAp o e [(23,.bool (decide (e>=0)))]))<|ihD g7 (λy g7=>?_) (λy g7=>?_)
   ·obtain⟨z,c,p,f,g,i,g7⟩:=bn3 g7;exact Goes.skip<|sq<|Goes.block<|gr fol [4,5,6,7] (kAg (kAp g e [])) (zM (iv vT encI c) (lv 0 ce3 encI c rfl) (cv (qbf N z 9 f)) (hs (.done (.opt (zt ZT .add 9 (.tmp 26) (.tmp 32) (.str o) (.str p))) (.str g)) (qbV i)))<|gh fol (kAg (kAp g (w64 (e-1)) []))<|zo ⟨_,_,rfl,g7⟩
   cases g7
   exact Goes.exit<|⟨rfl,_,rfl,(Sub.keep [1,3] rfl rfl)⟩
 rintro x s' ⟨rfl,d,rfl,hsub⟩;refine Goes.sub hsub<|sq<|sh fol [(3,.str d),(35,.bool a.neg)]<|ihB h (λq h=>?_) (λq h=>?_)
 ·obtain⟨j,k,rfl⟩:=bs1 h;exact sq<|gr fol [1] [(2,.str j)] (qh (hs (.done (.opt (zt ZT .add 9 (.const (.string ⟨#[45]⟩)) (.tmp 36) (.str [45]) (.str d))) (.str j)) (qbV k)))<|Goes.ret<|(gw2 [.str j] (Ua tS))
 obtain rfl:=si h;exact Goes.skip<|sh fol [(2,.str d)]<|Goes.ret<|(gw2 [.str d] (Ua tS))
def xc (N:Nat) (n:qJ) (d:qJ):Option Str:=
 ((if d.neg=true then
 (qaj N n).bind λl=>
 (qaj N d).bind λm=>
 some (l.neg,l.w,m.neg,m.w)
 else
 some (n.neg,n.w,d.neg,d.w):Option (Bool×(List Int)×Bool×(List Int)))).bind λ(r,o,s,p)=>
 (qbc N o p).bind λq=>
 (ve N o q).bind λc=>
 (ve N p q).bind λa=>
 (ja N r c.1).bind λe=>
 (qcj N e).bind λb=>
 (if(a.1.length:Int)=1 then
 (idx a.1 0).bind λf=>
 some (decide (f=1))
 else
 some false:Option Bool).bind λg=>
 if g=true then
 some b
 else
 (cat b [47]).bind λh=>
 (ja N false a.1).bind λi=>
 (qcj N i).bind λj=>
 (cat h j).bind λk=>
 some k
theorem qbN (N:Nat) (n:qJ) (d:qJ) {res:Str} (h:xc N n d=some res):qf ZT (.fn 100) (kAv n.neg n.w d.neg d.w) [] (.str res) []:=by
 unfold xc at h;obtain⟨O,g5,h⟩:=bnd h;refine Ub Tryz.func100 rfl rfl (m:=57) rfl (rs:=[.tmp 4]) rfl (l:=[(0,.agg [.bool n.neg,vl encI n.w]),(1,.agg [.bool d.neg,vl encI d.w])]) rfl<|sg fol (kAL []) (kM n.neg n.w d.neg d.w [])<|sq<|sh fol (kAL (kBH d.neg))<|Goes.imp (Q:=λx s'=>(x= .normal/\ ∃y u D v,(y,u,D,v)=O/\Sub s' (ofG 57 (kAL []),(kM y u D v [])))) ?_ ?_
 ·refine ihB g5 (λP g5=>?_) (λP g5=>?_)
  ·obtain⟨L,z,M,A,rfl⟩:=bs2 g5;exact gq fol [1,3] (kAL []) (kM L.neg L.w M.neg M.w []) (qA (cv (qe0 N n z)) (cv (qe0 N d A)))<|⟨rfl,_,_,_,_,rfl,(Sub.refl _)⟩
  cases g5
  exact Goes.skip<|⟨rfl,_,_,_,_,rfl,(Sub.keep [2,3] rfl rfl)⟩
 rintro x s' ⟨rfl,y,u,D,v,rfl,hsub⟩
 try dsimp only at h
 obtain⟨E,B,f,g,c,i,F,j,b,k,G,a,h⟩:=bn6 h;refine Goes.sub hsub<|sq<|gr fol [4] (kAL [(5,vl encI E)]) (qh (cv (qeD N u v B)))<|sq<|gr fol [3] (kAL [(5,vl encI E),(6,vl encI f.1)]) (qh (cv (qbw N u E g)))<|sq<|gr fol [3] (kAm [(6,vl encI f.1),(8,vl encI c.1)]) (qh (cv (qbw N v E i)))<|sq<|gr fol [3,4] [(8,vl encI c.1),(10,.str b)] (qA (cv (jw N y f.1 j)) (cv (qfS N F k)))<|sq<|sq<|Goes.cut (s':=(ofG 57 [(8,vl encI c.1),(10,.str b),(49,.bool G)],(kM y u D v []))) ?_ ?_
 ·rcases wyD a with⟨o,a⟩|⟨o,a⟩
  ·obtain⟨H,e,rfl⟩:=bs1 a;exact tr fol [3,5,6] [(8,vl encI c.1),(10,.str b),(49,.bool (decide (H=1)))] (qI (gw o) (iv vT encI e) (lv 0 ce3 encI e rfl))
  cases a
  exact tr fol [3] [(8,vl encI c.1),(10,.str b),(49,.bool false)] (qh (gw o))
 refine ihB h (λI h=>?_) (λI h=>?_)
 ·obtain rfl:=si h;exact sh fol (kBi b)<|Goes.ret<|(gw2 [.str b] (Ua tS))
 obtain⟨C,p,J,q,K,r,s,t,rfl⟩:=bs4 h;exact Goes.skip<|sq<|gr fol [1,3,4,5] (kBi s) (zM (hs (.done (.opt (zt ZT .add 9 (.tmp 51) (.const (.string ⟨#[47]⟩)) (.str b) (.str [47]))) (.str C)) (qbV p)) (cv (jw N false c.1 q)) (cv (qfS N J r)) (hs (.done (.opt (zt ZT .add 9 (.tmp 52) (.tmp 55) (.str C) (.str K))) (.str s)) (qbV t)))<|Goes.ret<|(gw2 [.str s] (Ua tS))
def vO:Nat->Int->Int->Option Int
 |0,_,_=>none
 |K+1,b,a=>
  if a>0 then
  (qfc .i64 b a).bind λc=>
  vO K a c
  else
  some b
def qd6 (N:Nat) (a:Int) (b:Int):Option Int:=
 (vO N a b).bind λc=>
 some c
theorem qj8 (N:Nat) (a:Int) (b:Int) {res:Int} (h:qd6 N a b=some res):qf ZT (.fn 149) [.i a,.i b] [] (.i res) []:=by
 unfold qd6 at h;obtain⟨g,g4,h⟩:=bnd h;refine Ub Tryz.func149 rfl rfl (m:=12) rfl (rs:=[.tmp 4]) rfl (l:=(kAW a b [])) rfl<|sh fol (kAW a b [])<|sq<|Goes.block<|Goes.imp (Q:=λx s'=>(x= .exit 0/\ ∃d,d=g/\Sub s' (ofG 12 [(0,.i d)],[]))) ?_ ?_
 ·refine Ud (λM s=> ∃(e:Int) (c:Int),s=(ofG 12 (kAW e c []),[])/\vO M e c=some g) ?_ (m:=N) ⟨_,_,rfl,g4⟩;rintro M s ⟨e,c,rfl,g4⟩
  cases M with
  |zero=>simp only[vO]at g4;cases g4
  |succ M=>
   rw[vO]at g4;refine sq<|sh fol (kAW e c [(6,.bool (decide (c>0)))])<|ihD g4 (λk g4=>?_) (λk g4=>?_)
   ·obtain⟨j,f,g4⟩:=bnd g4;exact Goes.skip<|Goes.block<|gr fol [3] (kAW c j []) (qh (hs (.done (.opt (zt ZT .rem 3 (.tmp 8) (.tmp 9) (.i e) (.i c))) (.i j)) (qgg f)))<|zo ⟨_,_,rfl,g4⟩
   cases g4
   exact Goes.exit<|⟨rfl,_,rfl,(Sub.keep [0] rfl rfl)⟩
 rintro x s' ⟨rfl,d,rfl,hsub⟩;obtain rfl:=si h;exact Goes.sub hsub<|sh fol [(4,.i d)]<|Goes.ret<|(gw2 [.i d] (Ua tI))
def qd3 (N:Nat) (num:Int) (den:Int):Option Str:=
 (if num<(-4000000000000000000)then
 some true
 else
 if num>4000000000000000000 then
 some true
 else
 if den<(-4000000000000000000)then
 some true
 else
 some (decide (den>4000000000000000000)):Option Bool).bind λm=>
 if m=true then
 (qaY N num).bind λn=>
 (qaY N den).bind λo=>
 (xc N n o).bind λp=>
 some p
 else
 ((if den<0 then
 some (w64 (0-num),w64 (0-den))
 else
 some (num,den):Option (Int×Int))).bind λ(a,c)=>
 (qd6 N (if(w64 (0-a))>a then(w64 (0-a))else a) c).bind λd=>
 (qc7 .i64 a d).bind λb=>
 (qc7 .i64 c d).bind λe=>
 ((if b<0 then
 some [45]
 else
 some []:Option Str)).bind λg=>
 (z8 N (if(w64 (0-b))>b then(w64 (0-b))else b) 1).bind λh=>
 (cat g h).bind λf=>
 ((if e>1 then
 (cat f [47]).bind λi=>
 (z8 N e 1).bind λj=>
 (cat i j).bind λk=>
 some k
 else
 some f:Option Str)).bind λl=>
 some l
theorem qhk (N:Nat) (num:Int) (den:Int) {res:Str} (h:qd3 N num den=some res):qf ZT (.fn 99) [.i num,.i den] [] (.str res) []:=by
 unfold qd3 at h;obtain⟨O,a,h⟩:=bnd h;refine Ub Tryz.func99 rfl rfl (m:=61) rfl (rs:=[.tmp 4]) rfl (l:=(kAW num den [])) rfl<|sh fol (kAW num den [])<|sq<|sq<|Goes.cut (s':=(ofG 61 (kAW num den (kBe O)),[])) ?_ ?_
 ·rcases wyD a with⟨v,a⟩|⟨v,a⟩
  ·cases a
   exact tr fol [2] (kAW num den [(20,.bool true)]) (qh (gw v))
  rcases wyD a with⟨C,a⟩|⟨C,a⟩
  ·cases a
   exact tr fol [2,6] (kAW num den [(20,.bool true)]) (qA (gw v) (gw C))
  rcases wyD a with⟨D,a⟩|⟨D,a⟩
  ·cases a
   exact tr fol [2,6,10] (kAW num den [(20,.bool true)]) (qI (gw v) (gw C) (gw D))
  cases a
  exact tr fol [2,6,10] (kAW num den (kBe (decide (den>4000000000000000000)))) (qI (gw v) (gw C) (gw D))
 refine ihB h (λP h=>?_) (λP h=>?_)
 ·obtain⟨U,w,V,y,M,z,rfl⟩:=bs3 h;exact sq<|gr fol [1,3,4] (kBi M) (qI (cv (qdp N num w)) (cv (qdp N den y)) (cv (qbN N U V z)))<|Goes.ret<|(gw2 [.str M] (Ua tS))
 obtain⟨E,g12,h⟩:=bnd h;refine Goes.skip<|sq<|sh fol (kAW num den [(27,.bool (decide (den<0)))])<|Goes.imp (Q:=λx s'=>(x= .normal/\ ∃d e,(d,e)=E/\Sub s' (ofG 61 (kAW d e []),[]))) ?_ ?_
 ·refine ihD g12 (λF g12=>?_) (λF g12=>?_)
  ·cases g12
   exact gh fol (kAW (w64 (0-num)) (w64 (0-den)) [])<|⟨rfl,_,_,rfl,(Sub.refl _)⟩
  cases g12
  exact Goes.skip<|⟨rfl,_,_,rfl,(Sub.keep [0,1] rfl rfl)⟩
 rintro x s' ⟨rfl,d,e,rfl,hsub⟩
 try dsimp only at h
 obtain⟨k,n,b,o,c,p,G,g18,h⟩:=bn4 h;refine Goes.sub hsub<|sq<|gr fol [5] (kAW d e (kA8 k)) (qh (cv (qj8 N (if(w64 (0-d))>d then(w64 (0-d))else d) e n)))<|sq<|gr fol [2,5] (kAW b c []) (qA (hs (.done (.opt (zt ZT .quo 3 (.tmp 38) (.tmp 39) (.i d) (.i k))) (.i b)) (qcJ o)) (hs (.done (.opt (zt ZT .quo 3 (.tmp 41) (.tmp 42) (.i e) (.i k))) (.i c)) (qcJ p)))<|sh fol (kAW b c [(6,.str [])])<|sq<|sh fol (kAW b c [(6,.str []),(45,.bool (decide (b<0)))])<|Goes.imp (Q:=λx s'=>(x= .normal/\ ∃g,g=G/\Sub s' (ofG 61 (kAW b c [(6,.str g)]),[]))) ?_ ?_
 ·refine ihD g18 (λH g18=>?_) (λH g18=>?_)
  ·cases g18
   exact gh fol (kAW b c [(6,.str [45])])<|⟨rfl,_,rfl,(Sub.refl _)⟩
  cases g18
  exact Goes.skip<|⟨rfl,_,rfl,(Sub.keep [0,1,6] rfl rfl)⟩
 rintro x s' ⟨rfl,g,rfl,hsub⟩;obtain⟨I,q,j,r,J,g23,h⟩:=bn3 h;refine Goes.sub hsub<|sq<|gr fol [5,6] [(1,.i c),(6,.str j)] (qA (cv (qbf N (if(w64 (0-b))>b then(w64 (0-b))else b) 1 q)) (hs (.done (.opt (zt ZT .add 9 (.tmp 46) (.tmp 51) (.str g) (.str I))) (.str j)) (qbV r)))<|sq<|sh fol [(1,.i c),(6,.str j),(54,.bool (decide (c>1)))]<|Goes.imp (Q:=λx s'=>(x= .normal/\ ∃f,f=J/\Sub s' (ofG 61 [(6,.str f)],[]))) ?_ ?_
 ·refine ihD g23 (λK g23=>?_) (λK g23=>?_)
  ·obtain⟨A,s,L,t,B,u,rfl⟩:=bs3 g23;exact gr fol [1,3,4] [(6,.str B)] (qI (hs (.done (.opt (zt ZT .add 9 (.tmp 55) (.const (.string ⟨#[47]⟩)) (.str j) (.str [47]))) (.str A)) (qbV s)) (cv (qbf N c 1 t)) (hs (.done (.opt (zt ZT .add 9 (.tmp 56) (.tmp 58) (.str A) (.str L))) (.str B)) (qbV u)))<|⟨rfl,_,rfl,(Sub.refl _)⟩
  cases g23
  exact Goes.skip<|⟨rfl,_,rfl,(Sub.keep [6] rfl rfl)⟩
 rintro x s' ⟨rfl,f,rfl,hsub⟩;obtain rfl:=si h;exact Goes.sub hsub<|sh fol (kBi f)<|Goes.ret<|(gw2 [.str f] (Ua tS))
def qa4 (a:List Int) (i:Int):Option Int:=
 if i<(a.length:Int)then
 (idx a i).bind λb=>
 some b
 else
 some 0
theorem qc0 (a:List Int) (i:Int) {res:Int} (h:qa4 a i=some res):qf ZT (.fn 185) [vl encI a,.i i] [] (.i res) []:=by
 unfold qa4 at h;refine Ub Tryz.func185 rfl rfl (m:=13) rfl (rs:=[.tmp 4]) rfl (l:=(kAi a i [])) rfl<|sh fol (kAi a i [])<|sq<|sh fol (kAi a i (kBY (decide (i<(zl a)))))<|ihD h (λd h=>?_) (λd h=>?_)
 ·obtain⟨c,b,rfl⟩:=bs1 h;exact sq<|gr fol [2,3] [(4,.i c)] (qA (iv vT encI b) (lv 0 ce3 encI b rfl))<|Goes.ret<|(gw2 [.i c] (Ua tI))
 cases h
 exact Goes.skip<|sh fol [(4,.i 0)]<|Goes.ret<|(gw2 [.i 0] (Ua tI))
def zV (a:List Int) (b:List Int):Nat->(List Int)->Int->Int->Option (List Int)
 |0,_,_,_=>none
 |K+1,h,f,c=>
  (if c<(a.length:Int)then
  some true
  else
  if c<(b.length:Int)then
  some true
  else
  some (decide (f>0)):Option Bool).bind λi=>
  if i=true then
  (qa4 a c).bind λd=>
  (qa4 b c).bind λe=>
  (app 8 h [(w64 ((w64 (d+e))+f)).tmod 1000000000]).bind λg=>
  zV a b K g (w64 ((w64 ((w64 (d+e))+f)).tdiv 1000000000)) (w64 (c+1))
  else
  some h
def qav (N:Nat) (a:List Int) (b:List Int):Option (List Int):=
 (zV a b N ([]:List Int) 0 0).bind λc=>
 some c
theorem qf0 (N:Nat) (a:List Int) (b:List Int) {res:List Int} (h:qav N a b=some res):qf ZT (.fn 154) (kBM a b) [] (vl encI res) []:=by
 unfold qav at h;obtain⟨v,g5,h⟩:=bnd h;refine Ub Tryz.func154 rfl rfl (m:=42) rfl (rs:=[.tmp 4]) rfl (l:=(kH a b [])) rfl<|sh fol (kH a b [])<|sh fol (kH a b [(5,.nilslice)])<|sh fol (kH a b [(5,.nilslice),(6,.i 0)])<|sq<|sh fol (kH a b [(5,.nilslice),(6,.i 0),(7,.i 0)])<|Goes.block<|Goes.imp (Q:=λx s'=>(x= .exit 0/\ ∃q,q=v/\Sub s' (ofG 42 (kAV q []),(kB q [])))) ?_ ?_
 ·refine Goes.sub (s':=(ofG 42 (kH a b kBq),kAt)) (Uc [] [none] rfl rfl (.keep (.same (qc encI _)) (.keep (.same (qc encI _)) (.keep .nil (.keep (.same nI) (.keep (.same nI) .nil))))) (.fresh .nil))<|Ud (λM s=> ∃(k:List Int) (f:Int) (j:Int),s=(ofG 42 (kH a b (kAV k (kAj f j []))),(kB k []))/\zV a b M k f j=some v) ?_ (m:=N) ⟨_,_,_,rfl,g5⟩;rintro M s ⟨k,f,j,rfl,g5⟩
  cases M with
  |zero=>simp only[zV]at g5;cases g5
  |succ M=>
   rw[zV]at g5;obtain⟨w,c,g5⟩:=bnd g5;refine sq<|sq<|Goes.cut (s':=(ofG 42 (kH a b (kAV k (kAj f j [(22,.bool w)]))),(kB k []))) ?_ ?_
   ·rcases wyD c with⟨r,c⟩|⟨r,c⟩
    ·cases c
     exact tr fol [4] (kH a b (kAV k (kAj f j [(22,.bool true)]))) (qh (gw r))
    rcases wyD c with⟨t,c⟩|⟨t,c⟩
    ·cases c
     exact tr fol [4,10] (kH a b (kAV k (kAj f j [(22,.bool true)]))) (qA (gw r) (gw t))
    cases c
    exact tr fol [4,10] (kH a b (kAV k (kAj f j [(22,.bool (decide (f>0)))]))) (qA (gw r) (gw t))
   refine ihB g5 (λu g5=>?_) (λu g5=>?_)
   ·obtain⟨d,n,e,o,g,p,g5⟩:=bn3 g5;exact Goes.skip<|sq<|Goes.block<|sq<|gr fol [2,5] (kH a b (kAV k (kAE j (w64 ((w64 (d+e))+f))))) (qA (cv (qc0 a j n)) (cv (qc0 b j o)))<|sq<|gq fol [4] (kH a b ((5,.gslice 2 g.length 1)::(kAE j (w64 ((w64 (d+e))+f))))) (kA1 ((w64 ((w64 (d+e))+f)).tmod 1000000000) (kB g [])) (qh (hs (.run [0,1] (zO ZT [52,52] (.gslice 0 k.length 1) (.slice 1 0 1 1 1)) (kB k [.cells [.i ((w64 ((w64 (d+e))+f)).tmod 1000000000)]]) (.gslice 2 g.length 1) (kA1 ((w64 ((w64 (d+e))+f)).tmod 1000000000) (kB g [])) true) (qaq vT (E:=encI) rfl (qdy (E:=encI) (ys:=[(w64 ((w64 (d+e))+f)).tmod 1000000000]) rfl rfl rfl rfl) (qex (E:=encI) (l:=k) rfl rfl rfl p rfl))))<|gh fol (kH a b ((5,.gslice 2 g.length 1)::(kAj (w64 ((w64 ((w64 (d+e))+f)).tdiv 1000000000)) j [])))<|gh fol (kH a b ((5,.gslice 2 g.length 1)::(kAj (w64 ((w64 ((w64 (d+e))+f)).tdiv 1000000000)) (w64 (j+1)) [])))<|⟨M,(ofG 42 (kH a b (kAV g (kAj (w64 ((w64 ((w64 (d+e))+f)).tdiv 1000000000)) (w64 (j+1)) []))),(kB g [])),aQ _,(Uc [] [some 2] rfl rfl (.keep (.same (qc encI _)) (.keep (.same (qc encI _)) (.keep (.gslice rfl) (.keep (.same nI) (.keep (.same nI) .nil))))) (.ks .nil)),_,_,_,rfl,g5⟩
   cases g5
   exact Goes.exit<|⟨rfl,_,rfl,(Sub.keep [5] rfl rfl)⟩
 rintro x s' ⟨rfl,q,rfl,hsub⟩;obtain rfl:=si h;exact Goes.sub hsub<|sh fol [(4,.gslice 0 q.length 1)]<|Goes.ret<|(gw2 [.gslice 0 q.length 1] (FzW.fz (Fz.gs (E:=encI) rfl rfl (nl rfl))))
def zw (a:List Int) (b:List Int):Nat->(List Int)->Int->Int->Option (List Int)
 |0,_,_,_=>none
 |K+1,i,d,c=>
  if c<(a.length:Int)then
  (idx a c).bind λe=>
  (qa4 b c).bind λf=>
  ((if(w64 ((w64 (e-f))-d))<0 then
  some (1,w64 ((w64 ((w64 (e-f))-d))+1000000000))
  else
  some (0,w64 ((w64 (e-f))-d)):Option (Int×Int))).bind λ(j,g)=>
  (app 8 i [g]).bind λh=>
  zw a b K h j (w64 (c+1))
  else
  some i
def xx (N:Nat) (a:List Int) (b:List Int):Option (List Int):=
 (zw a b N ([]:List Int) 0 0).bind λd=>
 (yZ N d).bind λc=>
 some c
theorem qc8 (N:Nat) (a:List Int) (b:List Int) {res:List Int} (h:xx N a b=some res):qf ZT (.fn 156) (kBM a b) [] (vl encI res) []:=by
 unfold xx at h;obtain⟨y,g5,h⟩:=bnd h;refine Ub Tryz.func156 rfl rfl (m:=35) rfl (rs:=[.tmp 4]) rfl (l:=(kH a b [])) rfl<|sh fol (kH a b [])<|sh fol (kH a b [(5,.nilslice)])<|sh fol (kH a b [(5,.nilslice),(6,.i 0)])<|sq<|sh fol (kH a b [(5,.nilslice),(6,.i 0),(7,.i 0)])<|Goes.block<|Goes.imp (Q:=λx s'=>(x= .exit 0/\ ∃j,j=y/\Sub s' (ofG 35 (kAV j []),(kB j [])))) ?_ ?_
 ·refine Goes.sub (s':=(ofG 35 (kH a b kBq),kAt)) (Uc [] [none] rfl rfl (.keep (.same (qc encI _)) (.keep (.same (qc encI _)) (.keep .nil (.keep (.same nI) (.keep (.same nI) .nil))))) (.fresh .nil))<|Ud (λM s=> ∃(c:List Int) (g:Int) (d:Int),s=(ofG 35 (kH a b (kAV c (kAj g d []))),(kB c []))/\zw a b M c g d=some y) ?_ (m:=N) ⟨_,_,_,rfl,g5⟩;rintro M s ⟨c,g,d,rfl,g5⟩
  cases M with
  |zero=>simp only[zw]at g5;cases g5
  |succ M=>
   rw[zw]at g5;refine sq<|sh fol (kH a b (kAV c (kAj g d (kBH (decide (d<(zl a)))))))<|ihD g5 (λz g5=>?_) (λz g5=>?_)
   ·obtain⟨q,n,r,u,v,g11,g5⟩:=bn3 g5;refine Goes.skip<|sq<|Goes.block<|sq<|gr fol [2,3,6] (kH a b (kAV c (kAE d (w64 ((w64 (q-r))-g))))) (qI (iv vT encI n) (lv 0 ce3 encI n rfl) (cv (qc0 b d u)))<|sh fol (kH a b (kAV c ((6,.i 0)::(kAE d (w64 ((w64 (q-r))-g))))))<|sq<|sh fol (kH a b (kAV c ((6,.i 0)::(kBt d (w64 ((w64 (q-r))-g)) [(26,.bool (decide ((w64 ((w64 (q-r))-g))<0)))]))))<|Goes.imp (Q:=λx s'=>(x= .normal/\ ∃t e,(t,e)=v/\Sub s' (ofG 35 (kH a b (kAV c ((6,.i t)::(kAE d e)))),(kB c [])))) ?_ ?_
    ·refine ihD g11 (λw g11=>?_) (λw g11=>?_)
     ·cases g11
      exact sh fol (kH a b (kAV c (kAE d (w64 ((w64 ((w64 (q-r))-g))+1000000000)))))<|gh fol (kH a b (kAV c ((6,.i 1)::(kAE d (w64 ((w64 ((w64 (q-r))-g))+1000000000))))))<|⟨rfl,_,_,rfl,(Sub.refl _)⟩
     cases g11
     exact Goes.skip<|⟨rfl,_,_,rfl,(Sub.keep [0,1,5,6,7,8] rfl rfl)⟩
    rintro x s' ⟨rfl,t,e,rfl,hsub⟩
    try dsimp only at g5
    obtain⟨f,o,g5⟩:=bnd g5;exact Goes.sub hsub<|gq fol [3] (kH a b ((5,.gslice 2 f.length 1)::(kAj t d []))) (kA1 e (kB f [])) (qh (hs (.run [0,1] (zO ZT [52,52] (.gslice 0 c.length 1) (.slice 1 0 1 1 1)) (kB c [.cells [.i e]]) (.gslice 2 f.length 1) (kA1 e (kB f [])) true) (qaq vT (E:=encI) rfl (qdy (E:=encI) (ys:=[e]) rfl rfl rfl rfl) (qex (E:=encI) (l:=c) rfl rfl rfl o rfl))))<|gh fol (kH a b ((5,.gslice 2 f.length 1)::(kAj t (w64 (d+1)) [])))<|⟨M,(ofG 35 (kH a b (kAV f (kAj t (w64 (d+1)) []))),(kB f [])),aQ _,(Uc [] [some 2] rfl rfl (.keep (.same (qc encI _)) (.keep (.same (qc encI _)) (.keep (.gslice rfl) (.keep (.same nI) (.keep (.same nI) .nil))))) (.ks .nil)),_,_,_,rfl,g5⟩
   cases g5
   exact Goes.exit<|⟨rfl,_,rfl,(Sub.keep [5] rfl rfl)⟩
 rintro x s' ⟨rfl,j,rfl,hsub⟩;obtain⟨k,p,rfl⟩:=bs1 h;exact Goes.sub hsub<|sq<|gq fol [1] [(4,vl encI k)] (kAb j) (qh (hs (.callF 183 [.gslice 0 j.length 1] (kB j []) [0] [vl encI j] (vl encI k)) (qa0 (FzL.cons (Fz.gs (E:=encI) rfl rfl (nl rfl)) FzL.nil) (xP N j p) (qw encI _ (nl rfl)))))<|Goes.sub (show Sub _ (ofG 35 [(4,vl encI k)],[])from(Uc [] [] rfl rfl (.keep (.same (qc encI _)) .nil) .nil))<|Goes.ret<|(gw2 [vl encI k] (Ua (qw encI _ (nl rfl))))
def qdc (N:Nat) (a:qJ) (b:qJ):Option qJ:=
 if(a.neg==b.neg)=true then
 (qav N a.w b.w).bind λc=>
 (ja N a.neg c).bind λd=>
 some d
 else
 (jW N a.w b.w).bind λe=>
 if e>=0 then
 (xx N a.w b.w).bind λf=>
 (ja N a.neg f).bind λg=>
 some g
 else
 (xx N b.w a.w).bind λh=>
 (ja N b.neg h).bind λi=>
 some i
theorem qjn (N:Nat) (a:qJ) (b:qJ) {res:qJ} (h:qdc N a b=some res):qf ZT (.fn 101) (kAv a.neg a.w b.neg b.w) [] (.agg (kAh res.neg res.w)) []:=by
 unfold qdc at h;refine Ub Tryz.func101 rfl rfl (m:=40) rfl (rs:=[.cell 4 130]) rfl (l:=[(0,.agg [.bool a.neg,vl encI a.w]),(1,.agg [.bool b.neg,vl encI b.w])]) rfl<|sg fol (kG []) (kM a.neg a.w b.neg b.w (kP []))<|sq<|sh fol (kG (kBs (a.neg==b.neg)))<|ihB h (λp h=>?_) (λp h=>?_)
 ·obtain⟨q,c,k,d,rfl⟩:=bs2 h;exact sq<|gq fol [6,7] kAl (kM a.neg a.w b.neg b.w (kAa k.neg k.w [])) (qA (cv (qf0 N a.w b.w c)) (cv (jw N a.neg q d)))<|Goes.ret<|(gw2 [.agg (kAh k.neg k.w)] (FzW.agg (qj.cons (Ua tB) (qj.cons (Ua (qw encI _ (nl rfl))) qj.nil))))
 obtain⟨r,e,h⟩:=bnd h;refine Goes.skip<|sq<|sq<|gr fol [4] (kG [(23,.bool (decide (r>=0)))]) (qh (cv (qbJ N a.w b.w e)))<|ihD h (λs h=>?_) (λs h=>?_)
 ·obtain⟨t,f,n,g,rfl⟩:=bs2 h;exact sq<|gq fol [6,7] kAl (kM a.neg a.w b.neg b.w (kAa n.neg n.w [])) (qA (cv (qc8 N a.w b.w f)) (cv (jw N a.neg t g)))<|Goes.ret<|(gw2 [.agg (kAh n.neg n.w)] (FzW.agg (qj.cons (Ua tB) (qj.cons (Ua (qw encI _ (nl rfl))) qj.nil))))
 obtain⟨u,i,o,j,rfl⟩:=bs2 h;exact Goes.skip<|sq<|gq fol [6,7] kAl (kM a.neg a.w b.neg b.w (kAa o.neg o.w [])) (qA (cv (qc8 N b.w a.w i)) (cv (jw N b.neg u j)))<|Goes.ret<|(gw2 [.agg (kAh o.neg o.w)] (FzW.agg (qj.cons (Ua tB) (qj.cons (Ua (qw encI _ (nl rfl))) qj.nil))))
def xB (N:Nat) (a:qJ) (b:qJ):Option qJ:=
 (yM N a.w b.w).bind λc=>
 (ja N (!(a.neg==b.neg)) c).bind λd=>
 some d
theorem qaX (N:Nat) (a:qJ) (b:qJ) {res:qJ} (h:xB N a b=some res):qf ZT (.fn 102) (kAv a.neg a.w b.neg b.w) [] (.agg (kAh res.neg res.w)) []:=by
 unfold xB at h;obtain⟨f,c,e,d,rfl⟩:=bs2 h;exact Ub Tryz.func102 rfl rfl (m:=16) rfl (rs:=[.cell 4 130]) rfl (l:=[(0,.agg [.bool a.neg,vl encI a.w]),(1,.agg [.bool b.neg,vl encI b.w])]) rfl<|sg fol (kG []) (kM a.neg a.w b.neg b.w (kP []))<|sq<|gq fol [9,10] kAl (kM a.neg a.w b.neg b.w (kAa e.neg e.w [])) (qA (cv (qbC N a.w b.w c)) (cv (jw N (!(a.neg==b.neg)) f d)))<|Goes.ret<|(gw2 [.agg (kAh e.neg e.w)] (FzW.agg (qj.cons (Ua tB) (qj.cons (Ua (qw encI _ (nl rfl))) qj.nil))))
end Go.Av
