/-
  Walks of functions: what each computes, as a plain function.
-/
import Derived.Test.YtcgpgmdcfcncpaaGreatDoorQGenJ4
noncomputable section
namespace Go.Av
open Go.Proofs Go.RowKit
set_option linter.unusedSectionVars false
set_option linter.unusedVariables false
set_option linter.unusedSimpArgs false
set_option maxRecDepth 100000
def kr (f:jy):Nat->(List Bool)->Int->Option (List Bool)
 |0,_,_=>none
 |K+1,a,b=>
  (idx a b).bind fun c=>
  if(!c)=true then
  (put a b true).bind fun d=>
  (idx f.from_ b).bind fun e=>
  kr f K d e
  else
  some a
def ko (N:Nat) (b:jy):Nat->(List Int)->(List Bool)->Int->Option (List Int)
 |0,_,_,_=>none
 |K+1,c,d,a=>
  if a<(b.from_.length:Int)then
  (((idx d a).bind fun e=>
  if e=true then
  some (c,d)
  else
  (zS N b a).bind fun f=>
  (app 8 c [f]).bind fun g=>
  (kr b N d a).bind fun h=>
  some (g,h):Option ((List Int)×(List Bool)))).bind fun(i,j)=>
  ko N b K i j (w64 (a+1))
  else
  some c
def jV (N:Nat) (a:jy):Option (List Int):=
 (mk 1 (a.from_.length:Int) false).bind fun b=>
 (ko N a N ([]:List Int) b 0).bind fun c=>
 some c
theorem qdE (N:Nat) (a:jy) {res:List Int} (h:jV N a=some res):qb ZT (.fn 115) [.agg (vl encI a.seen::(kA1 a.from_))] [] (vl encI res) []:=by
 unfold jV at h
 refine Ub Tryz.func115 rfl rfl (m:=43) rfl (rs:=[.tmp 2]) rfl (l:=(kBs a.seen a.from_ [])) rfl ?_
 refine sg fol (kAX []) (kF a.seen a.from_ []) ?_
 refine sh fol (kAX [(3,.nilslice)]) ?_
 obtain⟨q,G,h⟩:=bnd h
 refine sq (gq fol [3] (kAX [(3,.nilslice),(4,.slice 1 0 q.length q.length 1)]) (kF a.seen a.from_ (kN q [])) (ac (hs (.run [] (qR ZT 116 (.i (a.from_.length:Int)) (.i (a.from_.length:Int))) (kF a.seen a.from_ []) (.slice 1 0 q.length q.length 1) (kF a.seen a.from_ (kN q [])) false) (xW qiT (E:=qhH) (z:=false) rfl (by kernel_rfl) G rfl)) az) ?_)
 refine sq ?_
 refine sh fol (kAX ((3,.nilslice)::(4,.slice 1 0 q.length q.length 1)::(kCA (a.from_.length:Int)))) ?_
 refine Goes.block ?_
 obtain⟨T,o,h⟩:=bnd h
 refine Goes.imp (Q:=fun x s'=>(x= .exit 0/\ ∃F,F=T/\Sub s' (ofG 43 (kBf F),(kA F [])))) ?_ ?_
 ·refine Goes.sub (s':=(ofG 43 (kAX ((3,.gslice 1 ([]:List Int).length 1)::(4,.slice 2 0 q.length q.length 1)::(kCA (a.from_.length:Int)))),(kF a.seen a.from_ (kAr (kN q []))))) (Sub.norm [] [some 0,none,some 1] rfl rfl (.kp (.keep .nil (.keep (.slice rfl) (.keep (.same nI) (.keep (.same nI) .nil))))) (.kb rfl (.same sn) (.fresh (.ks .nil)))) ?_
  refine Uc (fun M s=> ∃(p:List Int) (j:List Bool) (e:Int),s=(ofG 43 (kO p j (kZ (a.from_.length:Int) e)),(kF a.seen a.from_ (kA p (kN j []))))/\ko N a M p j e=some T) ?_ (m:=N) ⟨_,_,_,rfl,o⟩
  rintro M s ⟨p,j,e,rfl,o⟩
  cases M with
  |zero=>simp only[ko]at o;cases o
  |succ M=>
   rw[ko]at o
   refine sh fol (kO p j ((13,.i (a.from_.length:Int))::(14,.i e)::(kBy (decide (e<(a.from_.length:Int)))))) ?_
   refine sq ?_
   refine ihD o (fun U o=>?_) (fun U o=>?_)
   ·refine Goes.skip ?_
    refine sq ?_
    obtain⟨L,f,o⟩:=bnd o
    refine Goes.imp (Q:=fun x s'=>(x= .normal/\ ∃A B,(A,B)=L/\Sub s' (ofG 43 (kO A B (kZ (a.from_.length:Int) e)),(kF a.seen a.from_ (kA A (kN B [])))))) ?_ ?_
    ·refine Goes.block ?_
     refine sh fol (kO p j ((5,.i e)::(kZ (a.from_.length:Int) e))) ?_
     refine sq ?_
     obtain⟨H,r,f⟩:=bnd f
     refine sq (gr fol [2,3] (kO p j [(5,.i e),(13,.i (a.from_.length:Int)),(14,.i e),(20,.bool H)]) (ac (hs (.done (.opt (qc ZT 116 (.slice 2 0 j.length j.length 1) (.i e))) (.ptr 2 ((e:Int).toNat*1+0))) (zI qiT r)) (ac (hs (.run [2] (qV ZT 4 (.ptr 2 ((e:Int).toNat*1+0))) (kF a.seen a.from_ (kA p (kN j []))) (.bool H) (kF a.seen a.from_ (kA p (kN j []))) false) (yE ce4 (E:=qhH) (l:=j) rfl rfl r (nl rfl) rfl)) az)) ?_)
     refine ihB f (fun O f=>?_) (fun O f=>?_)
     ·refine Goes.exit ?_
      obtain rfl:=si f
      exact⟨rfl,_,_,rfl,(Sub.keep [1,3,4,13,14] rfl rfl)⟩
     refine Goes.skip ?_
     obtain⟨v,C,f⟩:=bnd f
     obtain⟨b,D,f⟩:=bnd f
     refine sq (gq fol [3,5] (kAX ((3,.gslice 4 b.length 1)::(4,.slice 2 0 j.length j.length 1)::(5,.i e)::(kZ (a.from_.length:Int) e))) (kF a.seen a.from_ (.dead::(kN j (kAJ v (kA b []))))) (ac (cv (xE N a e C)) (ac (hs (.run [1,3] (ja ZT [22,22] (.gslice 1 p.length 1) (.slice 3 0 1 1 1)) (kF a.seen a.from_ (kA p (kN j (kAJ v [])))) (.gslice 4 b.length 1) (kF a.seen a.from_ (.dead::(kN j (kAJ v (kA b []))))) true) (yF qo (E:=encI) rfl (qcB (E:=encI) (ys:=[v]) rfl rfl rfl rfl) (qdX (E:=encI) (l:=p) rfl rfl rfl D rfl))) az)) ?_)
     refine sh fol (kAX ((3,.gslice 4 b.length 1)::(4,.slice 2 0 j.length j.length 1)::(6,.i e)::(kZ (a.from_.length:Int) e))) ?_
     refine Goes.block ?_
     obtain⟨I,c,f⟩:=bnd f
     refine Goes.imp (Q:=fun x s'=>(x= .exit 2/\ ∃w,w=I/\Sub s' (ofG 43 (kO b w (kZ (a.from_.length:Int) e)),(kF a.seen a.from_ (kA b (kN w [])))))) ?_ ?_
     ·refine Goes.sub (s':=(ofG 43 (kO b j ((6,.i e)::(kZ (a.from_.length:Int) e))),(kF a.seen a.from_ (kA b (kN j []))))) (Sub.norm [] [some 0,some 4,some 2] rfl rfl (.kp (.keep (.gslice rfl) (.keep (.slice rfl) (.keep (.same nI) (.keep (.same nI) (.keep (.same nI) .nil)))))) (.kb rfl (.same sn) (.ks (.ks .nil)))) ?_
      refine Uc (fun M s=> ∃(d:List Bool) (g:Int),s=(ofG 43 (kO b d ((6,.i g)::(kZ (a.from_.length:Int) e))),(kF a.seen a.from_ (kA b (kN d []))))/\kr a M d g=some I) ?_ (m:=N) ⟨_,_,rfl,c⟩
      rintro M s ⟨d,g,rfl,c⟩
      cases M with
      |zero=>simp only[kr]at c;cases c
      |succ M=>
       rw[kr]at c
       refine sq ?_
       obtain⟨J,k,c⟩:=bnd c
       refine sq (gr fol [2,3] (kO b d [(6,.i g),(13,.i (a.from_.length:Int)),(14,.i e),(32,.bool (!J))]) (ac (hs (.done (.opt (qc ZT 116 (.slice 2 0 d.length d.length 1) (.i g))) (.ptr 2 ((g:Int).toNat*1+0))) (zI qiT k)) (ac (hs (.run [2] (qV ZT 4 (.ptr 2 ((g:Int).toNat*1+0))) (kF a.seen a.from_ (kA b (kN d []))) (.bool J) (kF a.seen a.from_ (kA b (kN d []))) false) (yE ce4 (E:=qhH) (l:=d) rfl rfl k (nl rfl) rfl)) az)) ?_)
       refine ihB c (fun P c=>?_) (fun P c=>?_)
       ·refine Goes.skip ?_
        refine sq (Goes.block ?_)
        obtain⟨n,t,c⟩:=bnd c
        refine gq fol [2,3] (kO b d ((6,.i g)::(kZ (a.from_.length:Int) e))) (kF a.seen a.from_ (kA b (kN n []))) (ac (hs (.done (.opt (qc ZT 116 (.slice 2 0 d.length d.length 1) (.i g))) (.ptr 2 ((g:Int).toNat*1+0))) (zI qiT k)) (ac (hs (.run [2] (qm ZT 4 (.ptr 2 ((g:Int).toNat*1+0)) (.bool true)) (kF a.seen a.from_ (kA b (kN d []))) .undef (kF a.seen a.from_ (kA b (kN n []))) true) (zY (E:=qhH) (l:=d) (y:=true) rfl (show _=some 1 by kernel_rfl) rfl k rfl rfl rfl rfl rfl t rfl)) az)) ?_
        refine Goes.sub (show Sub (ofG 43 (kO b d ((6,.i g)::(kZ (a.from_.length:Int) e))),(kF a.seen a.from_ (kA b (kN n [])))) (ofG 43 (kO b n ((6,.i g)::(kZ (a.from_.length:Int) e))),(kF a.seen a.from_ (kA b (kN n []))))from(Sub.norm [] [some 0,some 1,some 2] rfl rfl (.kp (.keep (.gslice rfl) (.keep (.sliceE rfl (qH t)) (.keep (.same nI) (.keep (.same nI) (.keep (.same nI) .nil)))))) (.kb rfl (.same sn) (.ks (.ks .nil))))) ?_
        obtain⟨K,u,c⟩:=bnd c
        refine gr fol [3,4] (kO b n ((6,.i K)::(kZ (a.from_.length:Int) e))) (ac (iv qo encI u) (ac (lv 0 ce3 encI u rfl) az)) ?_
        exact⟨M,(ofG 43 (kO b n ((6,.i K)::(kZ (a.from_.length:Int) e))),(kF a.seen a.from_ (kA b (kN n [])))),Nat.lt_succ_self _,(Sub.refl _),_,_,rfl,c⟩
       refine Goes.exit ?_
       obtain rfl:=si c
       exact⟨rfl,_,rfl,(Sub.keep [1,3,4,13,14] rfl rfl)⟩
     rintro x s' ⟨rfl,w,rfl,hsub⟩
     obtain rfl:=si f
     exact⟨rfl,_,_,rfl,(hsub.trans (Sub.refl _))⟩
    rintro x s' ⟨rfl,A,B,rfl,hsub⟩
    try dsimp only at o
    refine Goes.sub hsub ?_
    refine gh fol (kO A B (kZ (a.from_.length:Int) (w64 (e+1)))) ?_
    exact⟨M,(ofG 43 (kO A B (kZ (a.from_.length:Int) (w64 (e+1)))),(kF a.seen a.from_ (kA A (kN B [])))),Nat.lt_succ_self _,(Sub.refl _),_,_,_,rfl,o⟩
   refine Goes.exit ?_
   obtain rfl:=si o
   exact⟨rfl,_,rfl,(Sub.norm [] [some 1] rfl rfl (.drop (.keep (.gslice rfl) .nil)) (.ks .nil))⟩
 rintro x s' ⟨rfl,F,rfl,hsub⟩
 refine Goes.sub hsub ?_
 refine sh fol [(2,.gslice 0 F.length 1)] ?_
 refine Goes.ret ?_
 obtain rfl:=si h
 exact(gw2 [.gslice 0 F.length 1] (Ux (Fz.gs (E:=encI) rfl rfl (nl rfl))))
def vO (a:Int) (k:Int):Nat->Int->Int->Option Int
 |0,_,_=>none
 |K+1,b,c=>
  if c<k then
  vO a k K (w64 (b*a)) (w64 (c+1))
  else
  some b
def qcv (N:Nat) (a:Int) (k:Int):Option Int:=
 (vO a k N 1 0).bind fun b=>
 some b
theorem qht (N:Nat) (a:Int) (k:Int) {res:Int} (h:qcv N a k=some res):qb ZT (.fn 62) [.i a,.i k] [] (.i res) []:=by
 unfold qcv at h
 refine Ub Tryz.func62 rfl rfl (m:=14) rfl (rs:=[.tmp 4]) rfl (l:=(kAL a k [])) rfl ?_
 refine sh fol (kAL a k []) ?_
 refine sh fol (kAL a k [(5,.i 1)]) ?_
 refine sq ?_
 refine sh fol [(0,.i a),(5,.i 1),(6,.i k),(7,.i 0)] ?_
 refine Goes.block ?_
 obtain⟨e,g4,h⟩:=bnd h
 refine Goes.imp (Q:=fun x s'=>(x= .exit 0/\ ∃d,d=e/\Sub s' (ofG 14 (kA7 d),[]))) ?_ ?_
 ·refine Uc (fun M s=> ∃(c:Int) (b:Int),s=(ofG 14 ((0,.i a)::(kBE c k [(7,.i b)])),[])/\vO a k M c b=some e) ?_ (m:=N) ⟨_,_,rfl,g4⟩
  rintro M s ⟨c,b,rfl,g4⟩
  cases M with
  |zero=>simp only[vO]at g4;cases g4
  |succ M=>
   rw[vO]at g4
   refine sh fol ((0,.i a)::(kBE c k [(7,.i b),(8,.bool (decide (b<k)))])) ?_
   refine sq ?_
   refine ihD g4 (fun f g4=>?_) (fun f g4=>?_)
   ·refine Goes.skip ?_
    refine sq (Goes.block ?_)
    refine gh fol ((0,.i a)::(kBE (w64 (c*a)) k [(7,.i b)])) ?_
    refine gh fol ((0,.i a)::(kBE (w64 (c*a)) k [(7,.i (w64 (b+1)))])) ?_
    exact⟨M,(ofG 14 ((0,.i a)::(kBE (w64 (c*a)) k [(7,.i (w64 (b+1)))])),[]),Nat.lt_succ_self _,(Sub.refl _),_,_,rfl,g4⟩
   refine Goes.exit ?_
   obtain rfl:=si g4
   exact⟨rfl,_,rfl,(Sub.keep [5] rfl rfl)⟩
 rintro x s' ⟨rfl,d,rfl,hsub⟩
 refine Goes.sub hsub ?_
 refine sh fol (kBx d) ?_
 refine Goes.ret ?_
 obtain rfl:=si h
 exact(gw2 [.i d] (Ua tI))
def vE (N:Nat) (a:List Int) (b:Int):Option Int:=
 (qcv N b (a.length:Int)).bind fun c=>
 some c
theorem qd7 (N:Nat) (a:List Int) (b:Int) {res:Int} (h:vE N a b=some res):qb ZT (.fn 61) [vl encI a,.fptr [.i b] 0] [] (.i res) []:=by
 unfold vE at h
 refine Ub Tryz.func61 rfl rfl (m:=8) rfl (rs:=[.tmp 3]) rfl (l:=(kP a [(1,.fptr [.i b] 0)])) rfl ?_
 refine sh fol (kP a [(1,.fptr [.i b] 0)]) ?_
 obtain⟨d,c,h⟩:=bnd h
 refine sq (gr fol [3] (kBZ d) (ac (cv (qht N b (a.length:Int) c)) az) ?_)
 refine Goes.ret ?_
 obtain rfl:=si h
 exact(gw2 [.i d] (Ua tI))
def qO (N:Nat) (a:jy):Nat->Int->Int->Option Int
 |0,_,_=>none
 |K+1,b,c=>
  if b<(a.from_.length:Int)then
  (zS N a b).bind fun d=>
  (yY N c d).bind fun e=>
  qO N a K (w64 (b+1)) e
  else
  some c
def ku (d:List Int):Nat->(List Int)->Int->Option (List Int)
 |0,_,_=>none
 |K+1,b,a=>
  if a<(d.length:Int)then
  (idx b a).bind fun e=>
  (put b a a).bind fun c=>
  ku d K c (w64 (a+1))
  else
  some b
def qM (N:Nat) (a:jy) (b:Int) (i:Int):Nat->(List Int)->Int->Int->Option Int
 |0,_,_,_=>none
 |K+1,c,d,e=>
  if d<i then
  (jV N (⟨[],c⟩:jy)).bind fun f=>
  (vE N f b).bind fun g=>
  (zW N a c).bind fun h=>
  qM N a b i K h (w64 (d+1)) (w64 (e+g))
  else
  some e
def jS (N:Nat) (a:jy) (b:Int):Option Int:=
 (qO N a N 0 1).bind fun f=>
 (mk 8 (a.from_.length:Int) 0).bind fun g=>
 (ku g N g 0).bind fun c=>
 (qM N a b f N c 0 0).bind fun d=>
 (qfV .i64 d f).bind fun e=>
 some e
theorem qdF (N:Nat) (a:jy) (b:Int) {res:Int} (h:jS N a b=some res):qb ZT (.fn 60) (kB1 a.seen a.from_ [.func (.func 61) [] [.fptr [.i b] 0]]) [] (.i res) []:=by
 unfold jS at h
 refine Ub Tryz.func60 rfl rfl (m:=57) rfl (rs:=[.tmp 4]) rfl (l:=(kBs a.seen a.from_ [(1,.func (.func 61) [] [.fptr [.i b] 0])])) rfl ?_
 refine sg fol ((1,.func (.func 61) [] [.fptr [.i b] 0])::(kX [])) (kF a.seen a.from_ []) ?_
 refine sh fol ((1,.func (.func 61) [] [.fptr [.i b] 0])::(kX [(5,.i 1)])) ?_
 refine sq ?_
 refine sh fol ((1,.func (.func 61) [] [.fptr [.i b] 0])::(kX ((5,.i 1)::(kB9 (a.from_.length:Int))))) ?_
 refine Goes.block ?_
 obtain⟨W,g4,h⟩:=bnd h
 refine Goes.imp (Q:=fun x s'=>(x= .exit 0/\ ∃e,e=W/\Sub s' (ofG 57 ((1,.func (.func 61) [] [.fptr [.i b] 0])::(kX (kA7 e))),(kF a.seen a.from_ [])))) ?_ ?_
 ·refine Uc (fun M s=> ∃(p:Int) (H:Int),s=(ofG 57 ((1,.func (.func 61) [] [.fptr [.i b] 0])::(kX ((5,.i H)::(kAR (a.from_.length:Int) p [])))),(kF a.seen a.from_ []))/\qO N a M p H=some W) ?_ (m:=N) ⟨_,_,rfl,g4⟩
  rintro M s ⟨p,H,rfl,g4⟩
  cases M with
  |zero=>simp only[qO]at g4;cases g4
  |succ M=>
   rw[qO]at g4
   refine sh fol ((1,.func (.func 61) [] [.fptr [.i b] 0])::(kX ((5,.i H)::(kAR (a.from_.length:Int) p (kB6 (decide (p<(a.from_.length:Int)))))))) ?_
   refine sq ?_
   refine ihD g4 (fun X g4=>?_) (fun X g4=>?_)
   ·refine Goes.skip ?_
    refine sq (Goes.block ?_)
    refine sh fol ((1,.func (.func 61) [] [.fptr [.i b] 0])::(kX (kBE H p (kAR (a.from_.length:Int) p [])))) ?_
    obtain⟨Y,I,g4⟩:=bnd g4
    obtain⟨T,J,g4⟩:=bnd g4
    refine gr fol [3,4] ((1,.func (.func 61) [] [.fptr [.i b] 0])::(kX ((5,.i T)::(kAR (a.from_.length:Int) p [])))) (ac (cv (xE N a p I)) (ac (cv (qd0 N H Y J)) az)) ?_
    refine gh fol ((1,.func (.func 61) [] [.fptr [.i b] 0])::(kX ((5,.i T)::(kAR (a.from_.length:Int) (w64 (p+1)) [])))) ?_
    exact⟨M,(ofG 57 ((1,.func (.func 61) [] [.fptr [.i b] 0])::(kX ((5,.i T)::(kAR (a.from_.length:Int) (w64 (p+1)) [])))),(kF a.seen a.from_ [])),Nat.lt_succ_self _,(Sub.refl _),_,_,rfl,g4⟩
   refine Goes.exit ?_
   obtain rfl:=si g4
   exact⟨rfl,_,rfl,(Sub.keep [1,2,5] rfl rfl)⟩
 rintro x s' ⟨rfl,e,rfl,hsub⟩
 refine Goes.sub hsub ?_
 refine sh fol ((1,.func (.func 61) [] [.fptr [.i b] 0])::(kX [(5,.i e),(7,.i 0)])) ?_
 obtain⟨g,K,h⟩:=bnd h
 refine sq (gq fol [3] ((1,.func (.func 61) [] [.fptr [.i b] 0])::(kX [(5,.i e),(7,.i 0),(8,.ptr 2 0)])) (kF a.seen a.from_ (kA g [.cells [.nilslice,.slice 1 0 g.length g.length 1]])) (ac (hs (.run [] (qR ZT 22 (.i (a.from_.length:Int)) (.i (a.from_.length:Int))) (kF a.seen a.from_ []) (.slice 1 0 g.length g.length 1) (kF a.seen a.from_ (kA g [])) false) (xW qo (E:=encI) (z:=0) rfl (by kernel_rfl) K rfl)) az) ?_)
 refine sq ?_
 refine sh fol ((1,.func (.func 61) [] [.fptr [.i b] 0])::(kX [(5,.i e),(7,.i 0),(8,.ptr 2 0),(29,.i (g.length:Int)),(30,.i 0)])) ?_
 refine Goes.block ?_
 obtain⟨L,f,h⟩:=bnd h
 refine Goes.imp (Q:=fun x s'=>(x= .exit 2/\ ∃q,q=L/\Sub s' (ofG 57 ((1,.func (.func 61) [] [.fptr [.i b] 0])::(kX (kAf e []))),(kF a.seen a.from_ (kAT q (kA q [])))))) ?_ ?_
 ·refine Goes.sub (s':=(ofG 57 ((1,.func (.func 61) [] [.fptr [.i b] 0])::(kX (kAf e [(29,.i (g.length:Int)),(30,.i 0)]))),(kF a.seen a.from_ (kAT g (kA g []))))) (Sub.norm [] [some 0,some 2,some 1] rfl rfl (.keep (.same (qy.func sn sn)) (.kp (.keep (.same nI) (.keep (.same nI) (.kp (.keep (.same nI) (.keep (.same nI) .nil))))))) (.kb rfl (.same sn) (.kb rfl (.cells (rc (.same (qy.nilslice)) (rc (.slice rfl) rn))) (.ks .nil)))) ?_
  refine Uc (fun M s=> ∃(o:List Int) (c:Int),s=(ofG 57 ((1,.func (.func 61) [] [.fptr [.i b] 0])::(kX (kAf e [(29,.i (g.length:Int)),(30,.i c)]))),(kF a.seen a.from_ (kAT o (kA o []))))/\ku g M o c=some L) ?_ (m:=N) ⟨_,_,rfl,f⟩
  rintro M s ⟨o,c,rfl,f⟩
  cases M with
  |zero=>simp only[ku]at f;cases f
  |succ M=>
   rw[ku]at f
   refine sh fol ((1,.func (.func 61) [] [.fptr [.i b] 0])::(kX (kAf e [(29,.i (g.length:Int)),(30,.i c),(31,.bool (decide (c<(g.length:Int))))]))) ?_
   refine sq ?_
   refine ihD f (fun U f=>?_) (fun U f=>?_)
   ·refine Goes.skip ?_
    refine sq (Goes.block ?_)
    refine sh fol ((1,.func (.func 61) [] [.fptr [.i b] 0])::(kX (kAf e [(9,.i c),(29,.i (g.length:Int)),(30,.i c)]))) ?_
    obtain⟨Z,r,f⟩:=bnd f
    obtain⟨n,t,f⟩:=bnd f
    refine gq fol [4,5] ((1,.func (.func 61) [] [.fptr [.i b] 0])::(kX (kAf e [(29,.i (g.length:Int)),(30,.i c)]))) (kF a.seen a.from_ (kAT o (kA n []))) (ac (hs (.done (.opt (qc ZT 22 (.slice 2 0 o.length o.length 1) (.i c))) (.ptr 2 ((c:Int).toNat*1+0))) (zI qo r)) (ac (hs (.run [2] (qm ZT 3 (.ptr 2 ((c:Int).toNat*1+0)) (.i c)) (kF a.seen a.from_ (kAT o (kA o []))) .undef (kF a.seen a.from_ (kAT o (kA n []))) true) (zY (E:=encI) (l:=o) (y:=c) rfl (show _=some 1 by kernel_rfl) rfl r rfl rfl rfl rfl rfl t rfl)) az)) ?_
    refine Goes.sub (show Sub (ofG 57 ((1,.func (.func 61) [] [.fptr [.i b] 0])::(kX (kAf e [(29,.i (g.length:Int)),(30,.i c)]))),(kF a.seen a.from_ (kAT o (kA n [])))) (ofG 57 ((1,.func (.func 61) [] [.fptr [.i b] 0])::(kX (kAf e [(29,.i (g.length:Int)),(30,.i c)]))),(kF a.seen a.from_ (kAT n (kA n []))))from(Sub.norm [] [some 0,some 1,some 2] rfl rfl (.keep (.same (qy.func sn sn)) (.kp (.keep (.same nI) (.keep (.same nI) (.kp (.keep (.same nI) (.keep (.same nI) .nil))))))) (.kb rfl (.same sn) (.kb rfl (.cells (rc (.same (qy.nilslice)) (rc (.sliceE rfl (qH t)) rn))) (.ks .nil))))) ?_
    refine gh fol ((1,.func (.func 61) [] [.fptr [.i b] 0])::(kX (kAf e [(29,.i (g.length:Int)),(30,.i (w64 (c+1)))]))) ?_
    exact⟨M,(ofG 57 ((1,.func (.func 61) [] [.fptr [.i b] 0])::(kX (kAf e [(29,.i (g.length:Int)),(30,.i (w64 (c+1)))]))),(kF a.seen a.from_ (kAT n (kA n [])))),Nat.lt_succ_self _,(Sub.refl _),_,_,rfl,f⟩
   refine Goes.exit ?_
   obtain rfl:=si f
   exact⟨rfl,_,rfl,(Sub.keep [1,2,5,7,8] rfl rfl)⟩
 rintro x s' ⟨rfl,q,rfl,hsub⟩
 refine Goes.sub hsub ?_
 refine sq ?_
 refine sh fol ((1,.func (.func 61) [] [.fptr [.i b] 0])::(kX (kAf e [(39,.i e),(40,.i 0)]))) ?_
 refine Goes.block ?_
 obtain⟨O,d,h⟩:=bnd h
 refine Goes.imp (Q:=fun x s'=>(x= .exit 4/\ ∃w,w=O/\Sub s' (ofG 57 [(5,.i e),(7,.i w)],[]))) ?_ ?_
 ·refine Goes.sub (s':=(ofG 57 ((1,.func (.func 61) [] [.fptr [.i b] 0])::(kX (kAf e [(39,.i e),(40,.i 0)]))),(kF a.seen a.from_ [.cells [.nilslice,vl encI q]]))) (Sub.norm [2] [some 0,some 1] rfl rfl (.keep (.same (qy.func sn sn)) (.kp (.keep (.same nI) (.keep (.same nI) (.kp (.keep (.same nI) (.keep (.same nI) .nil))))))) (.kb rfl (.same sn) (.kb rfl (.cells (rc (.same (qy.nilslice)) (rc (.frz (U0 (E:=encI) rfl rfl (nl rfl)) (qf encI _)) rn))) .nil))) ?_
  refine Uc (fun M s=> ∃(u:List Int) (j:Int) (k:Int),s=(ofG 57 ((1,.func (.func 61) [] [.fptr [.i b] 0])::(kX (kA3 e k j []))),(kF a.seen a.from_ [.cells [.nilslice,vl encI u]]))/\qM N a b e M u j k=some O) ?_ (m:=N) ⟨_,_,_,rfl,d⟩
  rintro M s ⟨u,j,k,rfl,d⟩
  cases M with
  |zero=>simp only[qM]at d;cases d
  |succ M=>
   rw[qM]at d
   refine sh fol ((1,.func (.func 61) [] [.fptr [.i b] 0])::(kX (kA3 e k j [(41,.bool (decide (j<e)))]))) ?_
   refine sq ?_
   refine ihD d (fun V d=>?_) (fun V d=>?_)
   ·refine Goes.skip ?_
    refine sq (Goes.block ?_)
    obtain⟨A,B,d⟩:=bnd d
    obtain⟨v,C,d⟩:=bnd d
    refine sq (gr fol [3,4] ((1,.func (.func 61) [] [.fptr [.i b] 0])::(kX (kA3 e (w64 (k+v)) j []))) (ac (cv ((qb.wk (qdE N (⟨[],u⟩:jy) B) (WkL.cons (Wk.agg (WkL.cons (Wk.nilv (E:=encI)) (WkL.cons (Wk.refl _) WkL.nil))) WkL.nil)))) (ac (hs (.call 61 [vl encI A,.fptr [.i b] 0] [] [] [vl encI A,.fptr [.i b] 0] (.i v)) (qgi (FzL.cons (Uh (ql encI _ (nl rfl))) (FzL.cons (Uh (Still.fptr (AllST.cons tI AllST.nil))) FzL.nil)) (qd7 N A b C) tI)) az)) ?_)
    obtain⟨P,D,d⟩:=bnd d
    refine gq fol [3] ((1,.func (.func 61) [] [.fptr [.i b] 0])::(kX (kA3 e (w64 (k+v)) j []))) (kF a.seen a.from_ [.cells [.nilslice,vl encI P]]) (ac (cv (qbO N a u D)) az) ?_
    refine gh fol ((1,.func (.func 61) [] [.fptr [.i b] 0])::(kX (kA3 e (w64 (k+v)) (w64 (j+1)) []))) ?_
    exact⟨M,(ofG 57 ((1,.func (.func 61) [] [.fptr [.i b] 0])::(kX (kA3 e (w64 (k+v)) (w64 (j+1)) []))),(kF a.seen a.from_ [.cells [.nilslice,vl encI P]])),Nat.lt_succ_self _,(Sub.refl _),_,_,_,rfl,d⟩
   refine Goes.exit ?_
   obtain rfl:=si d
   exact⟨rfl,_,rfl,(Sub.norm [] [] rfl rfl (.drop (.drop (.keep (.same nI) (.keep (.same nI) .nil)))) .nil)⟩
 rintro x s' ⟨rfl,w,rfl,hsub⟩
 refine Goes.sub hsub ?_
 obtain⟨F,G,h⟩:=bnd h
 refine sq (gr fol [2] (kBx F) (ac (hs (.done (.opt (zx ZT .quo 3 (.tmp 54) (.tmp 55) (.i w) (.i e))) (.i F)) (qbY G)) az) ?_)
 refine Goes.ret ?_
 obtain rfl:=si h
 exact(gw2 [.i F] (Ua tI))
def xg (N:Nat) (n:Int) (w:List Int) (colours:Int):Option (Int×Int):=
 (zJ N n w).bind fun b=>
 (xn colours).bind fun c=>
 (vP N ([b,c]:List Int)).bind fun a=>
 if(!decide (a=0))=true then
 some (0,a)
 else
 (xw N n w).bind fun d=>
 (jS N d colours).bind fun e=>
 some (e,0)
theorem qdp (N:Nat) (n:Int) (w:List Int) (colours:Int) {res:Int×Int} (h:xg N n w colours=some res):qb ZT (.fn 20) (.i n::(kBF w colours)) [] (.tuple [.i res.1,.i res.2]) []:=by
 unfold xg at h
 refine Ub Tryz.func20 rfl rfl (m:=24) rfl (rs:=[.tmp 6,.tmp 7]) rfl (l:=(kE n w (kBR colours))) rfl ?_
 refine sg fol (kE n w [(5,.ptr 0 0)]) (kAJ colours []) ?_
 refine sq ?_
 obtain⟨b,c,h⟩:=bnd h
 obtain⟨d,e,h⟩:=bnd h
 obtain⟨a,f,h⟩:=bnd h
 refine sq (gq fol [2,4,6] (kE n w [(5,.ptr 0 0),(8,.i a)]) (kAJ colours (kAd b d)) (ac (cv (yD N n w c)) (ac (cv (qel colours e)) (ac (hs (.call 48 [.slice 1 0 2 2 1] (kAJ colours (kAd b d)) [1] [vl encI ([b,d]:List Int)] (.i a)) (qbx (FzL.cons (Fz.lit rfl rfl (Uj (AllST.cons tI (AllST.cons tI AllST.nil)))) FzL.nil) (xC N ([b,d]:List Int) f) tI rfl)) az))) ?_)
 refine sh fol (kE n w [(5,.ptr 0 0),(8,.i a),(17,.bool (!decide (a=0)))]) ?_
 refine ihB h (fun p h=>?_) (fun p h=>?_)
 ·refine sh fol [(6,.i 0),(7,.i a)] ?_
  refine Goes.ret ?_
  obtain rfl:=si h
  exact(gw2 [.i 0,.i a] (FzW.tuple (qh.cons (Ua tI) (qh.cons (Ua tI) qh.nil))))
 refine Goes.skip ?_
 obtain⟨g,j,h⟩:=bnd h
 obtain⟨o,k,h⟩:=bnd h
 refine sq (gr fol [2,4] [(6,.i o),(7,.i 0)] (ac (cv (qbs N n w j)) (ac (hs (.call 60 (kB1 g.seen g.from_ [.func (.func 61) [] [.ptr 0 0]]) (kAJ colours (kAd b d)) [0] (kB1 g.seen g.from_ [.func (.func 61) [] [.fptr [.i colours] 0]]) (.i o)) (qbx (FzL.cons (Uh (Still.agg (AllST.cons (ql encI _ (nl rfl)) (AllST.cons (ql encI _ (nl rfl)) AllST.nil)))) (FzL.cons (Fz.func FzL.nil (FzL.cons (Fz.ptr rfl rfl (FzL.cons (Uh tI) FzL.nil)) FzL.nil)) FzL.nil)) (qdF N g colours k) tI rfl)) az)) ?_)
 refine Goes.ret ?_
 obtain rfl:=si h
 exact(gw2 [.i o,.i 0] (FzW.tuple (qh.cons (Ua tI) (qh.cons (Ua tI) qh.nil))))
end Go.Av
