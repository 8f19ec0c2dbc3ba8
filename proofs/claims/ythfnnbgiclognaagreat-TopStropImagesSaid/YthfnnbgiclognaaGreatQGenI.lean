/-
  The walk of the law.
-/
import Derived.Test.YthfnnbgiclognaaGreatQGenI1
import Derived.Test.YthfnnbgiclognaaGreatAvAwkI
noncomputable section
namespace Go.Av
open Go.Proofs Go.RowKit
set_option linter.unusedSectionVars false
set_option linter.unusedVariables false
set_option linter.unusedSimpArgs false
set_option maxRecDepth 100000
def awk:Option Bool:=some true
theorem qgN {res:Bool} (h:awk=some res):qd ZT (.fn 5) [] [] (.bool res) []:=by
 obtain rfl:=si h
 exact qiw
def zi (a:List Int):Nat->(Option (List Int))->Int->Option (Option (List Int))
 |0,_,_=>none
 |K+1,q,b=>
  if b<(a.length:Int)then
  ((((match q with
  |none=>
  if 0>0 then
  (idx ([]:List Int) (w64 (0-1))).bind fun g=>
  (idx a b).bind fun h=>
  some ((none:Option (List Int)),decide (g=(w64 (0-h))))
  else
  some ((none:Option (List Int)),false)
  |some c=>
  if(c.length:Int)>0 then
  (idx c (w64 ((c.length:Int)-1))).bind fun i=>
  (idx a b).bind fun j=>
  some ((some c),decide (i=(w64 (0-j))))
  else
  some ((some c),false)):Option ((Option (List Int))×Bool)).bind fun(d,k)=>
  if k=true then
  ((match d with
  |none=>
  (cut ([]:List Int) 0 (w64 (0-1))).bind fun r=>
  some (none:Option (List Int))
  |some e=>
  (cut e 0 (w64 ((e.length:Int)-1))).bind fun l=>
  some (some l)):Option (Option (List Int))).bind fun m=>
  some m
  else
  ((idx a b).bind fun f=>
  (match d with
  |none=>
  some ([f]:List Int)
  |some n=>
  (app 8 n [f]).bind fun o=>
  some o):Option (List Int)).bind fun p=>
  some (some p):Option (Option (List Int)))).bind fun s=>
  zi a K s (w64 (b+1))
  else
  some q
def zZ (N:Nat) (a:List Int):Option (List Int):=
 (zi a N (none:Option (List Int)) 0).bind fun b=>
 some (hof b)
theorem yU (N:Nat) (a:List Int) {V:List Int} (h:zZ N a=some V):qd ZT (.fn 13) [.gslice 0 a.length 1] (kA a []) (vl encI V) (kA a []):=by
 unfold zZ at h
 refine Ui Tryz.func13 rfl rfl (m:=41) rfl (rs:=[.tmp 2]) rfl (l:=(kI a [])) rfl ?_
 intro B hB
 refine sh fol (kI a []) ?_
 refine sh fol (kI a (kAF [])) ?_
 refine sq ?_
 refine sh fol (kI a (kAF [(4,.i 0)])) ?_
 refine Goes.block ?_
 obtain⟨W,g5,h⟩:=bnd h
 refine Goes.imp (Q:=fun x s'=>(x= .exit 0/\ ∃G,G=W/\Sub s' (ofG 41 [(3,hsl 1 1 G)],(kA a (kG G))))) ?_ ?_
 ·refine Goes.sub (s':=(ofG 41 (kI a [(3,hsl 1 1 (none:Option (List Int))),(4,.i 0)]),(kA a [.cells ((hof (none:Option (List Int))).flatMap encI.c)]))) (Sub.norm [] [some 0,none] (by rw[hB];rfl) rfl (.keep (.gslice rfl) (.keep qJ.hs0 (.keep (.same nI) .nil))) (.ks (.fresh .nil))) ?_
  refine Ub (fun M s=> ∃(H:Option (List Int)) (f:Int),s=(ofG 41 (kI a [(3,hsl 1 1 H),(4,.i f)]),(kA a (kG H)))/\zi a M H f=some W) ?_ (m:=N) ⟨_,_,rfl,g5⟩
  rintro M s ⟨H,f,rfl,g5⟩
  cases M with
  |zero=>simp only[zi]at g5;cases g5
  |succ M=>
   unfold zi at g5
   refine sq ?_
   refine sh fol (kI a [(3,hsl 1 1 H),(4,.i f),(8,.bool (decide (f<(a.length:Int))))]) ?_
   refine ihD g5 (fun X g5=>?_) (fun X g5=>?_)
   ·refine Goes.skip ?_
    refine sq ?_
    obtain⟨Y,g8,g5⟩:=bnd g5
    refine Goes.imp (Q:=fun x s'=>(x= .normal/\ ∃z,z=Y/\Sub s' (ofG 41 (kI a [(3,hsl 1 1 z),(4,.i f)]),(kA a (kG z))))) ?_ ?_
    ·refine Goes.block ?_
     refine sq ?_
     obtain⟨⟨v,P⟩,b,g8⟩:=bnd g8
     refine Uh (s':=(ofG 41 (kI a [(3,hsl 1 1 v),(4,.i f),(27,.bool P)]),(kA a (kG v)))) ?_ ?_
     ·rcases H with _|k
      ·try dsimp only at b
       rcases wyD b with⟨A,b⟩|⟨A,b⟩
       ·obtain⟨T,n,b⟩:=bnd b
        obtain⟨I,o,b⟩:=bnd b
        simp only[ZI,ZP]at b
        obtain⟨rfl,rfl⟩:=b
        exact qG.sub (qG.rq fol [3,8,9,12,13] (kI a (kAF [(4,.i f),(27,.bool (decide (T=(w64 (0-I)))))])) (kA a [.cells ((hof (none:Option (List Int))).flatMap encI.c)]) (ac (gw A) (ac (hs (.done (.opt (qg ZT 22 (.nilslice) (.i (w64 (0-1))))) (.fptr (([]:List Int).flatMap encI.c) ((w64 (0-1):Int).toNat*1+0))) (qgq n)) (ac (lv 0 ce3 encI n rfl) (ac (hs (.done (.opt (qg ZT 22 (.gslice 0 a.length 1) (.i f))) (.ptr 0 ((f:Int).toNat*1+0))) (xe ze o)) (ac (hs (.run [0] (zQ ZT 3 (.ptr 0 ((f:Int).toNat*1+0))) (kA a [.cells ((hof (none:Option (List Int))).flatMap encI.c)]) (.i I) (kA a [.cells ((hof (none:Option (List Int))).flatMap encI.c)]) false) (qaS ce3 (E:=encI) (l:=a) rfl rfl o (nl rfl) rfl)) az)))))) (Sub.norm [] [some 0,none] (by rw[hB];rfl) rfl (.keep (.gslice rfl) (.keep qJ.hs0 (.keep (.same nI) (.keep (.same nB) .nil)))) (.ks (.fresh .nil)))
       simp only[ZI,ZP]at b
       obtain⟨rfl,rfl⟩:=b
       exact qG.sub (qG.rq fol [3] (kI a (kAF [(4,.i f),(27,.bool false)])) (kA a [.cells ((hof (none:Option (List Int))).flatMap encI.c)]) (ac (gw A) az)) (Sub.norm [] [some 0,none] (by rw[hB];rfl) rfl (.keep (.gslice rfl) (.keep qJ.hs0 (.keep (.same nI) (.keep (.same nB) .nil)))) (.ks (.fresh .nil)))
      try dsimp only at b
      rcases wyD b with⟨C,b⟩|⟨C,b⟩
      ·obtain⟨J,p,b⟩:=bnd b
       obtain⟨K,q,b⟩:=bnd b
       simp only[ZI,ZP]at b
       obtain⟨rfl,rfl⟩:=b
       exact qG.sub (qG.rq fol [3,8,9,12,13] (kI a (kAC k f [(27,.bool (decide (J=(w64 (0-K)))))])) (kA a (kA k [])) (ac (gw C) (ac (hs (.done (.opt (qg ZT 22 (.oslice 1 k.length 1) (.i (w64 ((k.length:Int)-1))))) (.ptr 1 ((w64 ((k.length:Int)-1):Int).toNat*1+0))) (qh5 ze p)) (ac (hs (.run [1] (zQ ZT 3 (.ptr 1 ((w64 ((k.length:Int)-1):Int).toNat*1+0))) (kA a (kA k [])) (.i J) (kA a (kA k [])) false) (qaS ce3 (E:=encI) (l:=k) rfl rfl p (nl rfl) rfl)) (ac (hs (.done (.opt (qg ZT 22 (.gslice 0 a.length 1) (.i f))) (.ptr 0 ((f:Int).toNat*1+0))) (xe ze q)) (ac (hs (.run [0] (zQ ZT 3 (.ptr 0 ((f:Int).toNat*1+0))) (kA a (kA k [])) (.i K) (kA a (kA k [])) false) (qaS ce3 (E:=encI) (l:=a) rfl rfl q (nl rfl) rfl)) az)))))) (Sub.norm [] [some 0,some 1] (by rw[hB];rfl) rfl (.keep (.gslice rfl) (.keep (qJ.hs1 rfl) (.keep (.same nI) (.keep (.same nB) .nil)))) (.ks (.ks .nil)))
      simp only[ZI,ZP]at b
      obtain⟨rfl,rfl⟩:=b
      exact qG.sub (qG.rq fol [3] (kI a (kAC k f [(27,.bool false)])) (kA a (kA k [])) (ac (gw C) az)) (Sub.norm [] [some 0,some 1] (by rw[hB];rfl) rfl (.keep (.gslice rfl) (.keep (qJ.hs1 rfl) (.keep (.same nI) (.keep (.same nB) .nil)))) (.ks (.ks .nil)))
     intro _ hsub
     try dsimp only at g8
     refine Goes.sub hsub ?_
     refine ihB g8 (fun U g8=>?_) (fun U g8=>?_)
     ·obtain⟨L,d,g8⟩:=bnd g8
      refine Uh (s':=(ofG 41 (kI a [(3,hsl 1 1 L),(4,.i f)]),(kA a (kG L)))) ?_ ?_
      ·rcases v with _|w
       ·try dsimp only at d
        obtain⟨Z,D,d⟩:=bnd d
        obtain rfl:=si d
        exact qG.sub (qG.rq fol [4] (kI a (kAF [(4,.i f)])) (kA a [.cells ((hof (none:Option (List Int))).flatMap encI.c)]) (ac (hs (.done (.opt (jJ ZT 22 .nilslice none (some (.i (w64 (0-1)))) none)) .nilslice) (qeR (α:=Int) ze none (some (w64 (0-1))) D)) az)) (Sub.norm [] [some 0,none] (by rw[hB];rfl) rfl (.keep (.gslice rfl) (.keep qJ.hs0 (.keep (.same nI) .nil))) (.ks (.fresh .nil)))
       try dsimp only at d
       obtain⟨r,t,d⟩:=bnd d
       obtain rfl:=si d
       exact qG.sub (qG.rq fol [4] (kI a (kAC r f [])) (kA a (kA w [])) (ac (hs (.done (.opt (jJ ZT 22 (.oslice 1 w.length 1) none (some (.i (w64 ((w.length:Int)-1)))) none)) (.oslice 1 r.length 1)) (qhu ze t)) az)) ((show Sub (ofG 41 (kI a (kAC r f [])),(kA a (kA w []))) (ofG 41 (kI a (kAC r f [])),(kA a (kA r [])))from(Sub.norm [] [some 0,some 1] (by rw[hB];rfl) rfl (.keep (.gslice rfl) (.keep (.oslice rfl) (.keep (.same nI) .nil))) (.ks (.kb rfl (vB.cut t) .nil)))).trans (Sub.norm [] [some 0,some 1] (by rw[hB];rfl) rfl (.keep (.gslice rfl) (.keep (qJ.hs1 rfl) (.keep (.same nI) .nil))) (.ks (.ks .nil))))
      intro _ hsub
      obtain rfl:=si g8
      exact⟨rfl,_,rfl,(hsub.trans (Sub.refl _))⟩
     obtain⟨O,e,g8⟩:=bnd g8
     refine Uh (s':=(ofG 41 (kI a (kAC O f [])),(kA a (kA O [])))) ?_ ?_
     ·obtain⟨j,g,e⟩:=bnd e
      rcases v with _|u
      ·try dsimp only at e
       obtain rfl:=si e
       exact qG.sub (qG.rq fol [3,4] (kI a [(3,.oslice 3 1 1),(4,.i f)]) (kA a [.cells ((hof (none:Option (List Int))).flatMap encI.c),.cells [.i j],.cells [.i j]]) (ac (hs (.done (.opt (qg ZT 22 (.gslice 0 a.length 1) (.i f))) (.ptr 0 ((f:Int).toNat*1+0))) (xe ze g)) (ac (hs (.run [0] (zQ ZT 3 (.ptr 0 ((f:Int).toNat*1+0))) (kA a [.cells ((hof (none:Option (List Int))).flatMap encI.c)]) (.i j) (kA a [.cells ((hof (none:Option (List Int))).flatMap encI.c)]) false) (qaS ce3 (E:=encI) (l:=a) rfl rfl g (nl rfl) rfl)) az))) (Sub.norm [] [some 0,some 3] (by rw[hB];rfl) rfl (.keep (.gslice rfl) (.keep (qJ.osliceE rfl rfl) (.keep (.same nI) .nil))) (.ks (.ks .nil)))
      try dsimp only at e
      obtain⟨y,F,e⟩:=bnd e
      obtain rfl:=si e
      exact qG.sub (qG.rq fol [3,4,6] (kI a [(3,.oslice 3 y.length 1),(4,.i f)]) (kA a (kAB j (kA y []))) (ac (hs (.done (.opt (qg ZT 22 (.gslice 0 a.length 1) (.i f))) (.ptr 0 ((f:Int).toNat*1+0))) (xe ze g)) (ac (hs (.run [0] (zQ ZT 3 (.ptr 0 ((f:Int).toNat*1+0))) (kA a (kG (some u))) (.i j) (kA a (kG (some u))) false) (qaS ce3 (E:=encI) (l:=a) rfl rfl g (nl rfl) rfl)) (ac (hs (.run [1,2] (zo ZT [22,22] (.oslice 1 u.length 1) (.slice 2 0 1 1 1)) (kA a (kA u [.cells [.i j]])) (.oslice 3 y.length 1) (kA a (kAB j (kA y []))) true) (vX ze (E:=encI) rfl (qfm (E:=encI) (ys:=[j]) rfl rfl rfl rfl) (qe8 (E:=encI) (l:=u) rfl rfl rfl F rfl))) az)))) (Sub.norm [] [some 0,some 3] (by rw[hB];rfl) rfl (.keep (.gslice rfl) (.keep (.oslice rfl) (.keep (.same nI) .nil))) (.ks (.ks .nil)))
     intro _ hsub
     obtain rfl:=si g8
     exact⟨rfl,_,rfl,(hsub.trans (Sub.norm [] [some 0,some 1] (by rw[hB];rfl) rfl (.keep (.gslice rfl) (.keep (qJ.hs1 rfl) (.keep (.same nI) .nil))) (.ks (.ks .nil))))⟩
    rintro x s' ⟨rfl,z,rfl,hsub⟩
    refine Goes.sub hsub ?_
    refine gh fol (kI a [(3,hsl 1 1 z),(4,.i (w64 (f+1)))]) ?_
    exact⟨M,(ofG 41 (kI a [(3,hsl 1 1 z),(4,.i (w64 (f+1)))]),(kA a (kG z))),Nat.lt_succ_self _,(Sub.refl _),_,_,rfl,g5⟩
   refine Goes.exit ?_
   obtain rfl:=si g5
   exact⟨rfl,_,rfl,(Sub.keep [3] rfl rfl)⟩
 rintro x s' ⟨rfl,G,rfl,hsub⟩
 refine Goes.sub hsub ?_
 refine sh fol [(2,hsl 1 1 G)] ?_
 refine Goes.ret ?_
 obtain rfl:=si h
 exact(gh2 [hsl 1 1 G] (Sub.norm [1] [some 0] (by rw[hB];rfl) rfl (.keep (qJ.hsL (E:=encI) rfl rfl (nl rfl)) .nil) (.ks .nil)))
def qx (N:Nat) (e:(List (List Int))×Int) (a:List Int):Nat->(List Int)->Int->Option (List Int)
 |0,_,_=>none
 |K+1,b,c=>
  if c<(a.length:Int)then
  (((idx a c).bind fun d=>
  if d>0 then
  (idx e.1 (w64 (d-1))).bind fun f=>
  (app 8 b f).bind fun g=>
  some g
  else
  (idx e.1 (w64 ((w64 (0-d))-1))).bind fun h=>
  (jH N h).bind fun i=>
  (app 8 b i).bind fun j=>
  some j:Option (List Int))).bind fun k=>
  qx N e a K k (w64 (c+1))
  else
  some b
def qw (N:Nat) (n:Int) (d:(List (List Int))×Int) (c:(List (List Int))×Int) (e:(List (List Int))×Int) (f:(List Int)×Int):Nat->(List Int)->Int->Option ((List Int)⊕Bool)
 |0,_,_=>none
 |K+1,g,b=>
  if b<n then
  ((idx d.1 b).bind fun h=>
  (kg N n h).bind fun i=>
  if(!i)=true then
  some true
  else
  (idx c.1 b).bind fun j=>
  (kg N n j).bind fun k=>
  some (!k):Option Bool).bind fun l=>
  if l=true then
  some (.inr false)
  else
  (idx d.1 b).bind fun m=>
  (app 8 g m).bind fun o=>
  (idx c.1 b).bind fun p=>
  (qx N d p N ([]:List Int) 0).bind fun q=>
  (zZ N q).bind fun r=>
  (idx e.1 b).bind fun s=>
  (jg N r s).bind fun t=>
  if(!t)=true then
  some (.inr false)
  else
  (idx d.1 b).bind fun a=>
  (if(!decide (((a.length:Int).tmod 2)=1))=true then
  some (w64 ((a.length:Int).tdiv 2),true)
  else
  (idx a (w64 ((a.length:Int).tdiv 2))).bind fun u=>
  if u<1 then
  some (w64 ((a.length:Int).tdiv 2),true)
  else
  (cut a 0 (w64 ((a.length:Int).tdiv 2))).bind fun v=>
  (cut a (w64 ((a.length:Int).tdiv 2)) (w64 ((w64 ((a.length:Int).tdiv 2))+1))).bind fun w=>
  (jT v w).bind fun x=>
  (cut a 0 (w64 ((a.length:Int).tdiv 2))).bind fun y=>
  (jH N y).bind fun z=>
  (jT x z).bind fun A=>
  (jg N a A).bind fun B=>
  some (w64 ((a.length:Int).tdiv 2),!B):Option (Int×Bool)).bind fun(C,D)=>
  if D=true then
  some (.inr false)
  else
  (idx a C).bind fun E=>
  (idx f.1 (w64 (E-1))).bind fun F=>
  if(!decide (F=b))=true then
  some (.inr false)
  else
  qw N n d c e f K o (w64 (b+1))
  else
  some (.inl g)
def qy (b:List Int):Nat->Int->Option (Unit⊕Bool)
 |0,_=>none
 |K+1,a=>
  if a<(b.length:Int)then
  (idx b a).bind fun c=>
  if(!decide (c=(w64 (a+1))))=true then
  some (.inr false)
  else
  qy b K (w64 (a+1))
  else
  some (.inl ())
def zK (N:Nat) (n:Int) (a:List Int) (b:List Int):Option Bool:=
 ((yL N n a 5 6).bind fun q=>
 if(!q)=true then
 some true
 else
 (yL N n b 5 6).bind fun r=>
 some (!r):Option Bool).bind fun s=>
 if s=true then
 (awk).bind fun t=>
 some t
 else
 (vF N n a b).bind fun p=>
 (vo N n a).bind fun g=>
 (vo N n b).bind fun d=>
 (vo N n p.1).bind fun e=>
 (yP N n a).bind fun c=>
 (if(!decide ((w64 ((w64 ((w64 ((w64 (p.2+g.2))+d.2))+e.2))+c.2))=0))=true then
 some true
 else
 if(!decide ((g.1.length:Int)=n))=true then
 some true
 else
 if(!decide ((d.1.length:Int)=n))=true then
 some true
 else
 if(!decide ((e.1.length:Int)=n))=true then
 some true
 else
 if(!decide ((c.1.length:Int)=n))=true then
 some true
 else
 (jC N c.1).bind fun h=>
 some (!decide (h=0)):Option Bool).bind fun i=>
 if i=true then
 some false
 else
 (qw N n g d e c N ([]:List Int) 0).bind (fun
 |(.inl j)=>
 (zZ N j).bind fun f=>
 (qy f N 0).bind (fun
 |(.inl ())=>
 (if(f.length:Int)=n then
 (awk).bind fun k=>
 some k
 else
 some false:Option Bool).bind fun l=>
 some l
 |(.inr m)=>
 some m)
 |(.inr o)=>
 some o)
theorem yG (N:Nat) (n:Int) (a:List Int) (b:List Int) {res:Bool} (h:zK N n a b=some res):qd ZT (.fn 3) [.i n,vl encI a,vl encI b] [] (.bool res) []:=by
 unfold zK at h
 refine Uc Tryz.func3 rfl rfl (m:=258) rfl (rs:=[.tmp 6]) rfl (l:=(kE n a [(2,vl encI b)])) rfl ?_
 refine sh fol (kE n a [(2,vl encI b)]) ?_
 refine sq ?_
 refine sq ?_
 obtain⟨b4,z,h⟩:=bnd h
 refine Goes.cut (s':=(ofG 258 (kE n a [(2,vl encI b),(34,.bool b4)]),[])) ?_ ?_
 ·obtain⟨r1,e_r1,z⟩:=bnd z
  rcases wyB z with⟨c2,z⟩|⟨c2,z⟩
  ·obtain rfl:=si z
   exact tr fol [2,4] (kE n a [(2,vl encI b),(34,.bool true)]) (ac (cv (xJ N n a 5 6 e_r1)) (ac (gw c2) az))
  obtain⟨r3,e_r3,z⟩:=bnd z
  obtain rfl:=si z
  exact tr fol [2,4,7] (kE n a [(2,vl encI b),(34,.bool (!r3))]) (ac (cv (xJ N n a 5 6 e_r1)) (ac (gw c2) (ac (cv (xJ N n b 5 6 e_r3)) az)))
 refine ihB h (fun c6 h=>?_) (fun c6 h=>?_)
 ·obtain⟨r7,e_r7,h⟩:=bnd h
  refine sq (gr fol [0] [(6,.bool r7)] (ac (cv (qgN e_r7)) az) ?_)
  refine Goes.ret ?_
  obtain rfl:=si h
  exact(gw2 [.bool r7] (Ua tB))
 refine Goes.skip ?_
 obtain⟨r8,e_r8,h⟩:=bnd h
 refine sq (gr fol [3] (kE n a [(2,vl encI b),(7,vl encI r8.1),(8,.i r8.2)]) (ac (cv (qbM N n a b e_r8)) az) ?_)
 obtain⟨q,e_r9,h⟩:=bnd h
 refine sq (gr fol [2] (kE n a [(2,vl encI b),(7,vl encI r8.1),(8,.i r8.2),(9,vl (qa encI) q.1),(10,.i q.2)]) (ac (cv (xn N n a e_r9)) az) ?_)
 obtain⟨f,e_r10,h⟩:=bnd h
 refine sq (gr fol [2] (kE n a [(7,vl encI r8.1),(8,.i r8.2),(9,vl (qa encI) q.1),(10,.i q.2),(11,vl (qa encI) f.1),(12,.i f.2)]) (ac (cv (xn N n b e_r10)) az) ?_)
 obtain⟨j,e_r11,h⟩:=bnd h
 refine sq (gr fol [2] (kE n a [(8,.i r8.2),(9,vl (qa encI) q.1),(10,.i q.2),(11,vl (qa encI) f.1),(12,.i f.2),(13,vl (qa encI) j.1),(14,.i j.2)]) (ac (cv (xn N n r8.1 e_r11)) az) ?_)
 obtain⟨k,e_r12,h⟩:=bnd h
 refine sq (gr fol [2] [(0,.i n),(8,.i r8.2),(9,vl (qa encI) q.1),(10,.i q.2),(11,vl (qa encI) f.1),(12,.i f.2),(13,vl (qa encI) j.1),(14,.i j.2),(15,vl encI k.1),(16,.i k.2)] (ac (cv (qcW N n a e_r12)) az) ?_)
 refine sq ?_
 refine sq ?_
 obtain⟨b19,e,h⟩:=bnd h
 refine Goes.cut (s':=(ofG 258 [(0,.i n),(9,vl (qa encI) q.1),(11,vl (qa encI) f.1),(13,vl (qa encI) j.1),(15,vl encI k.1),(105,.bool b19)],[])) ?_ ?_
 ·rcases wyB e with⟨K,e⟩|⟨K,e⟩
  ·obtain rfl:=si e
   exact tr fol [10] ((0,.i n)::(9,vl (qa encI) q.1)::(11,vl (qa encI) f.1)::(13,vl (qa encI) j.1)::(kX k.1)) (ac (gw K) az)
  rcases wyB e with⟨O,e⟩|⟨O,e⟩
  ·obtain rfl:=si e
   exact tr fol [10,16] ((0,.i n)::(9,vl (qa encI) q.1)::(11,vl (qa encI) f.1)::(13,vl (qa encI) j.1)::(kX k.1)) (ac (gw K) (ac (gw O) az))
  rcases wyB e with⟨P,e⟩|⟨P,e⟩
  ·obtain rfl:=si e
   exact tr fol [10,16,22] ((0,.i n)::(9,vl (qa encI) q.1)::(11,vl (qa encI) f.1)::(13,vl (qa encI) j.1)::(kX k.1)) (ac (gw K) (ac (gw O) (ac (gw P) az)))
  rcases wyB e with⟨c16,e⟩|⟨c16,e⟩
  ·obtain rfl:=si e
   exact tr fol [10,16,22,28] ((0,.i n)::(9,vl (qa encI) q.1)::(11,vl (qa encI) f.1)::(13,vl (qa encI) j.1)::(kX k.1)) (ac (gw K) (ac (gw O) (ac (gw P) (ac (gw c16) az))))
  rcases wyB e with⟨c17,e⟩|⟨c17,e⟩
  ·obtain rfl:=si e
   exact tr fol [10,16,22,28,34] ((0,.i n)::(9,vl (qa encI) q.1)::(11,vl (qa encI) f.1)::(13,vl (qa encI) j.1)::(kX k.1)) (ac (gw K) (ac (gw O) (ac (gw P) (ac (gw c16) (ac (gw c17) az)))))
  obtain⟨r18,e_r18,e⟩:=bnd e
  obtain rfl:=si e
  exact tr fol [10,16,22,28,34,36] [(0,.i n),(9,vl (qa encI) q.1),(11,vl (qa encI) f.1),(13,vl (qa encI) j.1),(15,vl encI k.1),(105,.bool (!decide (r18=0)))] (ac (gw K) (ac (gw O) (ac (gw P) (ac (gw c16) (ac (gw c17) (ac (cv (qba N k.1 e_r18)) az))))))
 refine ihB h (fun c21 h=>?_) (fun c21 h=>?_)
 ·refine sh fol kAD ?_
  refine Goes.ret ?_
  obtain rfl:=si h
  exact(gw2 [.bool false] (Ua tB))
 refine Goes.skip ?_
 refine sh fol [(0,.i n),(9,vl (qa encI) q.1),(11,vl (qa encI) f.1),(13,vl (qa encI) j.1),(15,vl encI k.1),(17,.nilslice)] ?_
 refine sq ?_
 refine sh fol [(0,.i n),(9,vl (qa encI) q.1),(11,vl (qa encI) f.1),(13,vl (qa encI) j.1),(15,vl encI k.1),(17,.nilslice),(106,.i n),(107,.i 0)] ?_
 refine Goes.block ?_
 obtain⟨r25,g25,h⟩:=bnd h
 refine Goes.imp (Q:=fun x s'=>(x= .exit 0/\ ∃J,(.inl J)=r25/\Sub s' (ofG 258 [(0,.i n),(17,.gslice 0 J.length 1)],(kA J [])))\/(x= .ret/\ ∃q26,(.inr q26)=r25/\jB ZT [.tmp 6] (.bool q26) .ret s')) ?_ ?_
 ·refine Goes.sub (s':=(ofG 258 [(0,.i n),(9,vl (qa encI) q.1),(11,vl (qa encI) f.1),(13,vl (qa encI) j.1),(15,vl encI k.1),(17,.gslice 0 ([]:List Int).length 1),(106,.i n),(107,.i 0)],kV)) (Sub.norm [] [none] rfl rfl (.keep (.same nI) (.keep (.same (qc (qa encI) _)) (.keep (.same (qc (qa encI) _)) (.keep (.same (qc (qa encI) _)) (.keep (.same (qc encI _)) (.keep .nil (.keep (.same nI) (.keep (.same nI) .nil)))))))) (.fresh .nil)) ?_
  refine Ub (fun M s=> ∃(A:List Int) (c:Int),s=(ofG 258 ((0,.i n)::(9,vl (qa encI) q.1)::(11,vl (qa encI) f.1)::(13,vl (qa encI) j.1)::(kAA k.1 A (kS n c []))),(kA A []))/\qw N n q f j k M A c=some r25) ?_ (m:=N) ⟨_,_,rfl,g25⟩
  rintro M s ⟨A,c,rfl,g25⟩
  cases M with
  |zero=>simp only[qw]at g25;cases g25
  |succ M=>
   rw[qw]at g25
   refine sh fol ((0,.i n)::(9,vl (qa encI) q.1)::(11,vl (qa encI) f.1)::(13,vl (qa encI) j.1)::(kAA k.1 A (kS n c [(108,.bool (decide (c<n)))]))) ?_
   refine sq ?_
   refine ihD g25 (fun c27 g25=>?_) (fun c27 g25=>?_)
   ·refine Goes.skip ?_
    refine sq (Goes.block ?_)
    refine sh fol ((0,.i n)::(9,vl (qa encI) q.1)::(11,vl (qa encI) f.1)::(13,vl (qa encI) j.1)::(kC k.1 A c (kS n c []))) ?_
    refine sq ?_
    refine sq ?_
    obtain⟨b33,p,g25⟩:=bnd g25
    refine Goes.cut (s':=(ofG 258 ((0,.i n)::(9,vl (qa encI) q.1)::(11,vl (qa encI) f.1)::(13,vl (qa encI) j.1)::(kC k.1 A c (kS n c [(125,.bool b33)]))),(kA A []))) ?_ ?_
    ·obtain⟨x28,G,p⟩:=bnd p
     obtain⟨r29,T,p⟩:=bnd p
     rcases wyB p with⟨c30,p⟩|⟨c30,p⟩
     ·obtain rfl:=si p
      exact tr fol [3,4,5,7] ((0,.i n)::(9,vl (qa encI) q.1)::(11,vl (qa encI) f.1)::(13,vl (qa encI) j.1)::(kC k.1 A c (kS n c [(125,.bool true)]))) (ac (iv vD (qa encI) G) (ac (lv 0 yF (qa encI) G rfl) (ac (cv (zY N n x28 T)) (ac (gw c30) az))))
     obtain⟨x31,U,p⟩:=bnd p
     obtain⟨r32,e_r32,p⟩:=bnd p
     obtain rfl:=si p
     exact tr fol [3,4,5,7,11,12,13] ((0,.i n)::(9,vl (qa encI) q.1)::(11,vl (qa encI) f.1)::(13,vl (qa encI) j.1)::(kC k.1 A c (kS n c [(125,.bool (!r32))]))) (ac (iv vD (qa encI) G) (ac (lv 0 yF (qa encI) G rfl) (ac (cv (zY N n x28 T)) (ac (gw c30) (ac (iv vD (qa encI) U) (ac (lv 0 yF (qa encI) U rfl) (ac (cv (zY N n x31 e_r32)) az)))))))
    refine ihB g25 (fun c35 g25=>?_) (fun c35 g25=>?_)
    ·refine sh fol kAD ?_
     refine Goes.ret ?_
     obtain rfl:=si g25
     exact Or.inr (⟨rfl,_,rfl,(gw2 [.bool false] (Ua tB))⟩)
    refine Goes.skip ?_
    obtain⟨x36,V,g25⟩:=bnd g25
    obtain⟨o,e_l37,g25⟩:=bnd g25
    refine sq (gq fol [3,4,5] ((0,.i n)::(9,vl (qa encI) q.1)::(11,vl (qa encI) f.1)::(13,vl (qa encI) j.1)::(15,vl encI k.1)::(17,.gslice 1 o.length 1)::(18,.i c)::(kS n c [])) (.dead::(kA o [])) (ac (iv vD (qa encI) V) (ac (lv 0 yF (qa encI) V rfl) (ac (hs (.run [0] (zo ZT [22,22] (.gslice 0 A.length 1) (vl encI x36)) (kA A []) (.gslice 1 o.length 1) (.dead::(kA o [])) true) (vX ze (E:=encI) rfl (qde (E:=encI) rfl _) (qdS (E:=encI) (l:=A) rfl rfl rfl e_l37 rfl))) az))) ?_)
    refine sh fol ((0,.i n)::(9,vl (qa encI) q.1)::(11,vl (qa encI) f.1)::(13,vl (qa encI) j.1)::(15,vl encI k.1)::(17,.gslice 1 o.length 1)::(18,.i c)::(19,.nilslice)::(kS n c [])) ?_
    refine sq ?_
    obtain⟨r,W,g25⟩:=bnd g25
    refine sq (gr fol [2,3] ((0,.i n)::(9,vl (qa encI) q.1)::(11,vl (qa encI) f.1)::(13,vl (qa encI) j.1)::(15,vl encI k.1)::(17,.gslice 1 o.length 1)::(18,.i c)::(19,.nilslice)::(kL n c r (r.length:Int) [(137,.i 0)])) (ac (iv vD (qa encI) W) (ac (lv 0 yF (qa encI) W rfl) az)) ?_)
    refine Goes.block ?_
    obtain⟨r42,C,g25⟩:=bnd g25
    refine Goes.imp (Q:=fun x s'=>(x= .exit 2/\ ∃H,H=r42/\Sub s' (ofG 258 ((0,.i n)::(9,vl (qa encI) q.1)::(11,vl (qa encI) f.1)::(13,vl (qa encI) j.1)::(kC k.1 o c (kY H (kS n c [])))),(kA o (kA H []))))) ?_ ?_
    ·refine Goes.sub (s':=(ofG 258 ((0,.i n)::(9,vl (qa encI) q.1)::(11,vl (qa encI) f.1)::(13,vl (qa encI) j.1)::(kC k.1 o c ((19,.gslice 1 ([]:List Int).length 1)::(kL n c r (r.length:Int) [(137,.i 0)])))),(kA o kV))) (Sub.norm [] [some 1,none] rfl rfl (.keep (.same nI) (.keep (.same (qc (qa encI) _)) (.keep (.same (qc (qa encI) _)) (.keep (.same (qc (qa encI) _)) (.keep (.same (qc encI _)) (.keep (.gslice rfl) (.keep (.same nI) (.keep .nil (.keep (.same nI) (.keep (.same nI) (.keep (.same (qc encI _)) (.keep (.same nI) (.keep (.same nI) .nil))))))))))))) (.ks (.fresh .nil))) ?_
     refine Ub (fun M s=> ∃(B:List Int) (D:Int),s=(ofG 258 ((0,.i n)::(9,vl (qa encI) q.1)::(11,vl (qa encI) f.1)::(13,vl (qa encI) j.1)::(kC k.1 o c (kY B (kL n c r (r.length:Int) [(137,.i D)])))),(kA o (kA B [])))/\qx N q r M B D=some r42) ?_ (m:=N) ⟨_,_,rfl,C⟩
     rintro M s ⟨B,D,rfl,C⟩
     cases M with
     |zero=>simp only[qx]at C;cases C
     |succ M=>
      rw[qx]at C
      refine sh fol ((0,.i n)::(9,vl (qa encI) q.1)::(11,vl (qa encI) f.1)::(13,vl (qa encI) j.1)::(kC k.1 o c (kY B (kL n c r (r.length:Int) [(137,.i D),(138,.bool (decide (D<(r.length:Int))))])))) ?_
      refine sq ?_
      refine ihD C (fun c43 C=>?_) (fun c43 C=>?_)
      ·refine Goes.skip ?_
       refine sq ?_
       obtain⟨r45,u,C⟩:=bnd C
       refine Goes.imp (Q:=fun x s'=>(x= .normal/\ ∃L,L=r45/\Sub s' (ofG 258 ((0,.i n)::(9,vl (qa encI) q.1)::(11,vl (qa encI) f.1)::(13,vl (qa encI) j.1)::(kC k.1 o c (kY L (kL n c r (r.length:Int) [(137,.i D)])))),(kA o (kA L []))))) ?_ ?_
       ·refine Goes.block ?_
        obtain⟨x46,X,u⟩:=bnd u
        refine sq (gr fol [0,1] ((0,.i n)::(9,vl (qa encI) q.1)::(11,vl (qa encI) f.1)::(13,vl (qa encI) j.1)::(kC k.1 o c (kY B ((21,.i x46)::(kL n c r (r.length:Int) [(137,.i D)]))))) (ac (iv ze encI X) (ac (lv 0 ce3 encI X rfl) az)) ?_)
        refine sh fol ((0,.i n)::(9,vl (qa encI) q.1)::(11,vl (qa encI) f.1)::(13,vl (qa encI) j.1)::(kC k.1 o c (kY B ((21,.i x46)::(kL n c r (r.length:Int) [(137,.i D),(142,.bool (decide (x46>0)))]))))) ?_
        refine ihD u (fun c47 u=>?_) (fun c47 u=>?_)
        ·obtain⟨x48,Y,u⟩:=bnd u
         obtain⟨l49,e_l49,u⟩:=bnd u
         refine gq fol [4,5,6] ((0,.i n)::(9,vl (qa encI) q.1)::(11,vl (qa encI) f.1)::(13,vl (qa encI) j.1)::(kC k.1 o c ((19,.gslice 2 l49.length 1)::(kL n c r (r.length:Int) [(137,.i D)])))) (kA o (.dead::(kA l49 []))) (ac (iv vD (qa encI) Y) (ac (lv 0 yF (qa encI) Y rfl) (ac (hs (.run [1] (zo ZT [22,22] (.gslice 1 B.length 1) (vl encI x48)) (kA o (kA B [])) (.gslice 2 l49.length 1) (kA o (.dead::(kA l49 []))) true) (vX ze (E:=encI) rfl (qde (E:=encI) rfl _) (qdS (E:=encI) (l:=B) rfl rfl rfl e_l49 rfl))) az))) ?_
         obtain rfl:=si u
         exact⟨rfl,_,rfl,(Sub.norm [] [some 0,some 2] rfl rfl (.keep (.same nI) (.keep (.same (qc (qa encI) _)) (.keep (.same (qc (qa encI) _)) (.keep (.same (qc (qa encI) _)) (.keep (.same (qc encI _)) (.keep (.gslice rfl) (.keep (.same nI) (.keep (.gslice rfl) (.keep (.same nI) (.keep (.same nI) (.keep (.same (qc encI _)) (.keep (.same nI) (.keep (.same nI) .nil))))))))))))) (.ks (.ks .nil)))⟩
        obtain⟨x50,Z,u⟩:=bnd u
        obtain⟨r51,e_r51,u⟩:=bnd u
        obtain⟨l52,e_l52,u⟩:=bnd u
        refine gq fol [5,6,7,8] ((0,.i n)::(9,vl (qa encI) q.1)::(11,vl (qa encI) f.1)::(13,vl (qa encI) j.1)::(kC k.1 o c ((19,.gslice 2 l52.length 1)::(kL n c r (r.length:Int) [(137,.i D)])))) (kA o (.dead::(kA l52 []))) (ac (iv vD (qa encI) Z) (ac (lv 0 yF (qa encI) Z rfl) (ac (cv (xx N x50 e_r51)) (ac (hs (.run [1] (zo ZT [22,22] (.gslice 1 B.length 1) (vl encI r51)) (kA o (kA B [])) (.gslice 2 l52.length 1) (kA o (.dead::(kA l52 []))) true) (vX ze (E:=encI) rfl (qde (E:=encI) rfl _) (qdS (E:=encI) (l:=B) rfl rfl rfl e_l52 rfl))) az)))) ?_
        obtain rfl:=si u
        exact⟨rfl,_,rfl,(Sub.norm [] [some 0,some 2] rfl rfl (.keep (.same nI) (.keep (.same (qc (qa encI) _)) (.keep (.same (qc (qa encI) _)) (.keep (.same (qc (qa encI) _)) (.keep (.same (qc encI _)) (.keep (.gslice rfl) (.keep (.same nI) (.keep (.gslice rfl) (.keep (.same nI) (.keep (.same nI) (.keep (.same (qc encI _)) (.keep (.same nI) (.keep (.same nI) .nil))))))))))))) (.ks (.ks .nil)))⟩
       rintro x s' ⟨rfl,L,rfl,hsub⟩
       refine Goes.sub hsub ?_
       refine gh fol ((0,.i n)::(9,vl (qa encI) q.1)::(11,vl (qa encI) f.1)::(13,vl (qa encI) j.1)::(kC k.1 o c (kY L (kL n c r (r.length:Int) [(137,.i (w64 (D+1)))])))) ?_
       exact⟨M,(ofG 258 ((0,.i n)::(9,vl (qa encI) q.1)::(11,vl (qa encI) f.1)::(13,vl (qa encI) j.1)::(kC k.1 o c (kY L (kL n c r (r.length:Int) [(137,.i (w64 (D+1)))])))),(kA o (kA L []))),Nat.lt_succ_self _,(Sub.refl _),_,_,rfl,C⟩
      refine Goes.exit ?_
      obtain rfl:=si C
      exact⟨rfl,_,rfl,(Sub.keep [0,9,11,13,15,17,18,19,106,107] rfl rfl)⟩
    rintro x s' ⟨rfl,H,rfl,hsub⟩
    refine Goes.sub hsub ?_
    refine sq ?_
    obtain⟨l54,e_r53,g25⟩:=bnd g25
    obtain⟨x55,a0,g25⟩:=bnd g25
    obtain⟨r56,e_r56,g25⟩:=bnd g25
    refine sq (gr fol [1,4,5,6] ((0,.i n)::(9,vl (qa encI) q.1)::(11,vl (qa encI) f.1)::(13,vl (qa encI) j.1)::(kC k.1 o c (kS n c [(167,.bool (!r56))]))) (ac (hs (.callH 13 [.gslice 1 H.length 1] (kA o (kA H [])) [1] (vl encI l54) (kA o (kA H []))) (vI [some 1] [none,some 0] (yU N H e_r53) (.ks .nil) rfl rfl (.old rfl rfl (.back rfl rfl (.same fa) rfl .nil)) (rc (.gslice rfl) rn) (.same (qc encI _)) rfl)) (ac (iv vD (qa encI) a0) (ac (lv 0 yF (qa encI) a0 rfl) (ac (cv (xc N l54 x55 e_r56)) az)))) ?_)
    refine ihB g25 (fun c57 g25=>?_) (fun c57 g25=>?_)
    ·refine sh fol kAD ?_
     refine Goes.ret ?_
     obtain rfl:=si g25
     exact Or.inr (⟨rfl,_,rfl,(gw2 [.bool false] (Ua tB))⟩)
    refine Goes.skip ?_
    obtain⟨v,g,g25⟩:=bnd g25
    refine sq (gr fol [2,3] ((0,.i n)::(9,vl (qa encI) q.1)::(11,vl (qa encI) f.1)::(13,vl (qa encI) j.1)::(kC k.1 o c ((22,.i (w64 ((v.length:Int).tdiv 2)))::(kS n c [])))) (ac (iv vD (qa encI) g) (ac (lv 0 yF (qa encI) g rfl) az)) ?_)
    refine sq ?_
    refine sq ?_
    obtain⟨⟨n69,b70⟩,d,g25⟩:=bnd g25
    refine Goes.cut (s':=(ofG 258 ((0,.i n)::(9,vl (qa encI) q.1)::(11,vl (qa encI) f.1)::(13,vl (qa encI) j.1)::(kC k.1 o c ((22,.i n69)::(kS n c [(221,.bool b70)])))),(kA o (kA H [])))) ?_ ?_
    ·rcases wyB d with⟨c59,d⟩|⟨c59,d⟩
     ·simp only[ZI,ZP]at d
      obtain⟨rfl,rfl⟩:=d
      exact tr fol [2,3,7] ((0,.i n)::(9,vl (qa encI) q.1)::(11,vl (qa encI) f.1)::(13,vl (qa encI) j.1)::(kC k.1 o c ((22,.i (w64 ((v.length:Int).tdiv 2)))::(kS n c [(221,.bool true)])))) (ac (iv vD (qa encI) g) (ac (lv 0 yF (qa encI) g rfl) (ac (gw c59) az)))
     obtain⟨x60,I,d⟩:=bnd d
     rcases wyD d with⟨c61,d⟩|⟨c61,d⟩
     ·simp only[ZI,ZP]at d
      obtain⟨rfl,rfl⟩:=d
      exact tr fol [2,3,7,10,11,13,14,17] ((0,.i n)::(9,vl (qa encI) q.1)::(11,vl (qa encI) f.1)::(13,vl (qa encI) j.1)::(kC k.1 o c ((22,.i (w64 ((v.length:Int).tdiv 2)))::(kS n c [(221,.bool true)])))) (ac (iv vD (qa encI) g) (ac (lv 0 yF (qa encI) g rfl) (ac (gw c59) (ac (iv vD (qa encI) g) (ac (lv 0 yF (qa encI) g rfl) (ac (iv ze encI I) (ac (lv 0 ce3 encI I rfl) (ac (gw c61) az))))))))
     obtain⟨s62,e_s62,d⟩:=bnd d
     obtain⟨s63,e_s63,d⟩:=bnd d
     obtain⟨r64,e_r64,d⟩:=bnd d
     obtain⟨s65,e_s65,d⟩:=bnd d
     obtain⟨r66,e_r66,d⟩:=bnd d
     obtain⟨r67,e_r67,d⟩:=bnd d
     obtain⟨r68,e_r68,d⟩:=bnd d
     simp only[ZI,ZP]at d
     obtain⟨rfl,rfl⟩:=d
     exact tr fol [2,3,7,10,11,13,14,17,20,21,24,25,27,30,31,35,36,39,40,42,43,44,45] ((0,.i n)::(9,vl (qa encI) q.1)::(11,vl (qa encI) f.1)::(13,vl (qa encI) j.1)::(kC k.1 o c ((22,.i (w64 ((v.length:Int).tdiv 2)))::(kS n c [(221,.bool (!r68))])))) (ac (iv vD (qa encI) g) (ac (lv 0 yF (qa encI) g rfl) (ac (gw c59) (ac (iv vD (qa encI) g) (ac (lv 0 yF (qa encI) g rfl) (ac (iv ze encI I) (ac (lv 0 ce3 encI I rfl) (ac (gw c61) (ac (iv vD (qa encI) g) (ac (lv 0 yF (qa encI) g rfl) (ac (iv vD (qa encI) g) (ac (lv 0 yF (qa encI) g rfl) (ac (hs (.done (.opt (jJ ZT 22 (vl encI v) none (some (.i (w64 ((v.length:Int).tdiv 2)))) none)) (vl encI s62)) (qgh ze (E:=encI) rfl none (some (w64 ((v.length:Int).tdiv 2))) e_s62)) (ac (iv vD (qa encI) g) (ac (lv 0 yF (qa encI) g rfl) (ac (hs (.done (.opt (jJ ZT 22 (vl encI v) (some (.i (w64 ((v.length:Int).tdiv 2)))) (some (.i (w64 ((w64 ((v.length:Int).tdiv 2))+1)))) none)) (vl encI s63)) (qgh ze (E:=encI) rfl (some (w64 ((v.length:Int).tdiv 2))) (some (w64 ((w64 ((v.length:Int).tdiv 2))+1))) e_s63)) (ac (cv (qab s62 s63 e_r64)) (ac (iv vD (qa encI) g) (ac (lv 0 yF (qa encI) g rfl) (ac (hs (.done (.opt (jJ ZT 22 (vl encI v) none (some (.i (w64 ((v.length:Int).tdiv 2)))) none)) (vl encI s65)) (qgh ze (E:=encI) rfl none (some (w64 ((v.length:Int).tdiv 2))) e_s65)) (ac (cv (xx N s65 e_r66)) (ac (cv (qab r64 r66 e_r67)) (ac (cv (xc N v r67 e_r68)) az)))))))))))))))))))))))
    try dsimp only at g25
    refine ihB g25 (fun c72 g25=>?_) (fun c72 g25=>?_)
    ·refine sh fol kAD ?_
     refine Goes.ret ?_
     obtain rfl:=si g25
     exact Or.inr (⟨rfl,_,rfl,(gw2 [.bool false] (Ua tB))⟩)
    refine Goes.skip ?_
    obtain⟨x73,a1,g25⟩:=bnd g25
    obtain⟨x74,a2,g25⟩:=bnd g25
    refine sq (gr fol [3,4,6,7,9,10] ((0,.i n)::(9,vl (qa encI) q.1)::(11,vl (qa encI) f.1)::(13,vl (qa encI) j.1)::(kAA k.1 o (kS n c [(234,.bool (!decide (x74=c)))]))) (ac (iv vD (qa encI) g) (ac (lv 0 yF (qa encI) g rfl) (ac (iv ze encI a1) (ac (lv 0 ce3 encI a1 rfl) (ac (iv ze encI a2) (ac (lv 0 ce3 encI a2 rfl) az)))))) ?_)
    refine ihB g25 (fun c75 g25=>?_) (fun c75 g25=>?_)
    ·refine sh fol kAD ?_
     refine Goes.ret ?_
     obtain rfl:=si g25
     exact Or.inr (⟨rfl,_,rfl,(gw2 [.bool false] (Ua tB))⟩)
    refine Goes.skip ?_
    refine gh fol ((0,.i n)::(9,vl (qa encI) q.1)::(11,vl (qa encI) f.1)::(13,vl (qa encI) j.1)::(kAA k.1 o (kS n (w64 (c+1)) []))) ?_
    exact⟨M,(ofG 258 ((0,.i n)::(9,vl (qa encI) q.1)::(11,vl (qa encI) f.1)::(13,vl (qa encI) j.1)::(kAA k.1 o (kS n (w64 (c+1)) []))),(kA o [])),Nat.lt_succ_self _,(Sub.norm [] [some 0] rfl rfl (.keep (.same nI) (.keep (.same (qc (qa encI) _)) (.keep (.same (qc (qa encI) _)) (.keep (.same (qc (qa encI) _)) (.keep (.same (qc encI _)) (.keep (.gslice rfl) (.keep (.same nI) (.keep (.same nI) .nil)))))))) (.ks .nil)),_,_,rfl,g25⟩
   refine Goes.exit ?_
   obtain rfl:=si g25
   exact Or.inl (⟨rfl,_,rfl,(Sub.keep [0,17] rfl rfl)⟩)
 rintro x s' (⟨rfl,J,rfl,hsub⟩|⟨rfl,q89,rfl,hret⟩)
 ·try dsimp only at h
  refine Goes.sub hsub ?_
  obtain⟨t,e_r76,h⟩:=bnd h
  refine sq (gr fol [1] [(0,.i n),(23,vl encI t)] (ac (hs (.callH 13 [.gslice 0 J.length 1] (kA J []) [0] (vl encI t) (kA J [])) (vI [some 0] [some 0] (yU N J e_r76) (.ks .nil) rfl rfl (.back rfl rfl (.same fa) rfl .nil) (rc (.gslice rfl) rn) (.same (qc encI _)) rfl)) az) ?_)
  refine sq ?_
  refine sh fol (kW n t (t.length:Int) [(240,.i 0)]) ?_
  refine Goes.block ?_
  obtain⟨r79,w,h⟩:=bnd h
  refine Goes.imp (Q:=fun x s'=>(x= .exit 4/\(.inl ())=r79/\Sub s' (ofG 258 [(0,.i n),(23,vl encI t)],[]))\/(x= .ret/\ ∃q80,(.inr q80)=r79/\jB ZT [.tmp 6] (.bool q80) .ret s')) ?_ ?_
  ·refine Goes.sub (s':=(ofG 258 (kW n t (t.length:Int) [(240,.i 0)]),[])) (Sub.norm [] [] rfl rfl (.keep (.same nI) (.keep (.same (qc encI _)) (.keep (.same nI) (.keep (.same nI) .nil)))) .nil) ?_
   refine Ub (fun M s=> ∃(F:Int),s=(ofG 258 (kW n t (t.length:Int) [(240,.i F)]),[])/\qy t M F=some r79) ?_ (m:=N) ⟨_,rfl,w⟩
   rintro M s ⟨F,rfl,w⟩
   cases M with
   |zero=>simp only[qy]at w;cases w
   |succ M=>
    rw[qy]at w
    refine sh fol (kW n t (t.length:Int) [(240,.i F),(241,.bool (decide (F<(t.length:Int))))]) ?_
    refine sq ?_
    refine ihD w (fun c81 w=>?_) (fun c81 w=>?_)
    ·refine Goes.skip ?_
     refine sq (Goes.block ?_)
     refine sh fol [(0,.i n),(23,vl encI t),(24,.i F),(239,.i (t.length:Int)),(240,.i F)] ?_
     obtain⟨x82,a3,w⟩:=bnd w
     refine sq (gr fol [2,3] (kW n t (t.length:Int) [(240,.i F),(249,.bool (!decide (x82=(w64 (F+1)))))]) (ac (iv ze encI a3) (ac (lv 0 ce3 encI a3 rfl) az)) ?_)
     refine ihB w (fun c83 w=>?_) (fun c83 w=>?_)
     ·refine sh fol kAD ?_
      refine Goes.ret ?_
      obtain rfl:=si w
      exact Or.inr (⟨rfl,_,rfl,(gw2 [.bool false] (Ua tB))⟩)
     refine Goes.skip ?_
     refine gh fol (kW n t (t.length:Int) [(240,.i (w64 (F+1)))]) ?_
     exact⟨M,(ofG 258 (kW n t (t.length:Int) [(240,.i (w64 (F+1)))]),[]),Nat.lt_succ_self _,(Sub.refl _),_,rfl,w⟩
    refine Goes.exit ?_
    obtain rfl:=si w
    exact Or.inl (⟨rfl,rfl,(Sub.keep [0,23] rfl rfl)⟩)
  rintro x s' (⟨rfl,rfl,hsub⟩|⟨rfl,q88,rfl,hret⟩)
  ·try dsimp only at h
   refine Goes.sub hsub ?_
   refine sq ?_
   obtain⟨b86,y,h⟩:=bnd h
   refine Goes.cut (s':=(ofG 258 [(6,.bool b86)],[])) ?_ ?_
   ·rcases wyD y with⟨c84,y⟩|⟨c84,y⟩
    ·obtain⟨r85,e_r85,y⟩:=bnd y
     obtain rfl:=si y
     exact tr fol [4,5] [(6,.bool r85)] (ac (gw c84) (ac (cv (qgN e_r85)) az))
    obtain rfl:=si y
    exact tr fol [4] kAD (ac (gw c84) az)
   refine Goes.ret ?_
   obtain rfl:=si h
   exact(gw2 [.bool b86] (Ua tB))
  try dsimp only at h
  obtain rfl:=si h
  exact hret
 try dsimp only at h
 obtain rfl:=si h
 exact hret
end Go.Av
