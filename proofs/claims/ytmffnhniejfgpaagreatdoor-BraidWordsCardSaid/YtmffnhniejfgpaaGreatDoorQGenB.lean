/-
  The walk of the law.
-/
import Derived.Test.YtmffnhniejfgpaaGreatDoorQGenB4
import Derived.Test.YtmffnhniejfgpaaGreatDoorAvAwkB5
noncomputable section
namespace Go.Av
open Go.Proofs Go.RowKit
set_option linter.unusedSectionVars false
set_option linter.unusedVariables false
set_option linter.unusedSimpArgs false
set_option maxRecDepth 100000
def awk:Option Bool:=some true
theorem qdw {res:Bool} (h:awk=some res):qb ZT (.fn 8) [] [] (.bool res) []:=by
 obtain rfl:=si h
 exact qgs
def ko (a:List Int):Nat->(Option (List Int))->Int->Option (Option (List Int))
 |0,_,_=>none
 |K+1,q,b=>
  if b<(a.length:Int)then
  ((((match q with
  |none=>
  if 0>0 then
  (idx ([]:List Int) (w64 (0-1))).bind fun g=>
  (idx a b).bind fun h=>
  some ((none:Option (List Int)),decide (g=(w64 (0-h))))
  else
  some ((none:Option (List Int)),false)
  |some c=>
  if(c.length:Int)>0 then
  (idx c (w64 ((c.length:Int)-1))).bind fun i=>
  (idx a b).bind fun j=>
  some ((some c),decide (i=(w64 (0-j))))
  else
  some ((some c),false)):Option ((Option (List Int))×Bool)).bind fun(d,k)=>
  if k=true then
  ((match d with
  |none=>
  (cut ([]:List Int) 0 (w64 (0-1))).bind fun r=>
  some (none:Option (List Int))
  |some e=>
  (cut e 0 (w64 ((e.length:Int)-1))).bind fun l=>
  some (some l)):Option (Option (List Int))).bind fun m=>
  some m
  else
  ((idx a b).bind fun f=>
  (match d with
  |none=>
  some ([f]:List Int)
  |some n=>
  (app 8 n [f]).bind fun o=>
  some o):Option (List Int)).bind fun p=>
  some (some p):Option (Option (List Int)))).bind fun s=>
  ko a K s (w64 (b+1))
  else
  some q
def jv (N:Nat) (a:List Int):Option (Option (List Int)):=
 (ko a N (none:Option (List Int)) 0).bind fun b=>
 some b
theorem kW (N:Nat) (b:List Int) {L:Option (List Int)} (h:jv N b=some L):qb ZT (.fn 42) [vl encI b] [] (hsl 0 1 L) (kO L):=by
 unfold jv at h
 refine Uh Tryz.func42 rfl rfl (m:=41) rfl (rs:=[.tmp 2]) rfl (l:=(kH b [])) rfl ?_
 intro B hB
 refine sh fol (kH b []) ?_
 refine sh fol (kH b (kAs [])) ?_
 refine sq ?_
 refine sh fol (kH b (kAs kA9)) ?_
 refine Goes.block ?_
 obtain⟨W,g5,h⟩:=bnd h
 refine Goes.imp (Q:=fun x s'=>(x= .exit 0/\ ∃G,G=W/\Sub s' (ofG 41 (kBS G []),(kO G)))) ?_ ?_
 ·refine Goes.sub (s':=(ofG 41 (kH b ((3,hsl 0 1 (none:Option (List Int)))::kA9)),[.cells ((hof (none:Option (List Int))).flatMap encI.c)])) (Sub.norm [] [none] (by rw[hB];rfl) rfl (.keep (.same (qf encI _)) (.keep qK.hs0 (.keep (.same nI) .nil))) (.fresh .nil)) ?_
  refine Uc (fun M s=> ∃(H:Option (List Int)) (f:Int),s=(ofG 41 (kH b (kBS H (kAX f))),(kO H))/\ko b M H f=some W) ?_ (m:=N) ⟨_,_,rfl,g5⟩
  rintro M s ⟨H,f,rfl,g5⟩
  cases M with
  |zero=>simp only[ko]at g5;cases g5
  |succ M=>
   unfold ko at g5
   refine sq ?_
   refine sh fol (kH b (kBS H ((4,.i f)::(kAp (decide (f<(b.length:Int))))))) ?_
   refine ihD g5 (fun X g5=>?_) (fun X g5=>?_)
   ·refine Goes.skip ?_
    refine sq ?_
    obtain⟨Y,g8,g5⟩:=bnd g5
    refine Goes.imp (Q:=fun x s'=>(x= .normal/\ ∃y,y=Y/\Sub s' (ofG 41 (kH b (kBS y (kAX f))),(kO y)))) ?_ ?_
    ·refine Goes.block ?_
     refine sq ?_
     obtain⟨⟨u,O⟩,a,g8⟩:=bnd g8
     refine Ui (s':=(ofG 41 (kH b (kBS u [(4,.i f),(27,.bool O)])),(kO u))) ?_ ?_
     ·rcases H with _|k
      ·try dsimp only at a
       rcases wyD a with⟨z,a⟩|⟨z,a⟩
       ·obtain⟨P,n,a⟩:=bnd a
        obtain⟨T,o,a⟩:=bnd a
        simp only[ZI,ZP]at a
        obtain⟨rfl,rfl⟩:=a
        exact qo.sub (qo.rq fol [3,8,9,12,13] (kH b (kAs [(4,.i f),(27,.bool (decide (P=(w64 (0-T)))))])) [.cells ((hof (none:Option (List Int))).flatMap encI.c)] (ac (gw z) (ac (hs (.done (.opt (qg ZT 22 (.nilslice) (.i (w64 (0-1))))) (.fptr (([]:List Int).flatMap encI.c) ((w64 (0-1):Int).toNat*1+0))) (qfG n)) (ac (lv 0 ce3 encI n rfl) (ac (iv zt encI o) (ac (lv 0 ce3 encI o rfl) az)))))) (Sub.norm [] [none] (by rw[hB];rfl) rfl (.keep (.same (qf encI _)) (.keep qK.hs0 (.keep (.same nI) (.keep (.same nB) .nil)))) (.fresh .nil))
       simp only[ZI,ZP]at a
       obtain⟨rfl,rfl⟩:=a
       exact qo.sub (qo.rq fol [3] (kH b (kAs [(4,.i f),(27,.bool false)])) [.cells ((hof (none:Option (List Int))).flatMap encI.c)] (ac (gw z) az)) (Sub.norm [] [none] (by rw[hB];rfl) rfl (.keep (.same (qf encI _)) (.keep qK.hs0 (.keep (.same nI) (.keep (.same nB) .nil)))) (.fresh .nil))
      try dsimp only at a
      rcases wyD a with⟨A,a⟩|⟨A,a⟩
      ·obtain⟨I,p,a⟩:=bnd a
       obtain⟨U,q,a⟩:=bnd a
       simp only[ZI,ZP]at a
       obtain⟨rfl,rfl⟩:=a
       exact qo.sub (qo.rq fol [3,8,9,12,13] (kH b (kAC k [(4,.i f),(27,.bool (decide (I=(w64 (0-U)))))])) (kA k) (ac (gw A) (ac (hs (.done (.opt (qg ZT 22 (.oslice 0 k.length 1) (.i (w64 ((k.length:Int)-1))))) (.ptr 0 ((w64 ((k.length:Int)-1):Int).toNat*1+0))) (qgD zt p)) (ac (hs (.run [0] (zJ ZT 3 (.ptr 0 ((w64 ((k.length:Int)-1):Int).toNat*1+0))) (kA k) (.i I) (kA k) false) (qaR ce3 (E:=encI) (l:=k) rfl rfl p (nl rfl) rfl)) (ac (iv zt encI q) (ac (lv 0 ce3 encI q rfl) az)))))) (Sub.norm [] [some 0] (by rw[hB];rfl) rfl (.keep (.same (qf encI _)) (.keep (qK.hs1 rfl) (.keep (.same nI) (.keep (.same nB) .nil)))) (.ks .nil))
      simp only[ZI,ZP]at a
      obtain⟨rfl,rfl⟩:=a
      exact qo.sub (qo.rq fol [3] (kH b (kAC k [(4,.i f),(27,.bool false)])) (kA k) (ac (gw A) az)) (Sub.norm [] [some 0] (by rw[hB];rfl) rfl (.keep (.same (qf encI _)) (.keep (qK.hs1 rfl) (.keep (.same nI) (.keep (.same nB) .nil)))) (.ks .nil))
     intro _ hsub
     try dsimp only at g8
     refine Goes.sub hsub ?_
     refine ihB g8 (fun V g8=>?_) (fun V g8=>?_)
     ·obtain⟨J,d,g8⟩:=bnd g8
      refine Ui (s':=(ofG 41 (kH b (kBS J (kAX f))),(kO J))) ?_ ?_
      ·rcases u with _|v
       ·try dsimp only at d
        obtain⟨Z,C,d⟩:=bnd d
        obtain rfl:=si d
        exact qo.sub (qo.rq fol [4] (kH b (kAs (kAX f))) [.cells ((hof (none:Option (List Int))).flatMap encI.c)] (ac (hs (.done (.opt (vS ZT 22 .nilslice none (some (.i (w64 (0-1)))) none)) .nilslice) (qeU (α:=Int) zt none (some (w64 (0-1))) C)) az)) (Sub.norm [] [none] (by rw[hB];rfl) rfl (.keep (.same (qf encI _)) (.keep qK.hs0 (.keep (.same nI) .nil))) (.fresh .nil))
       try dsimp only at d
       obtain⟨r,t,d⟩:=bnd d
       obtain rfl:=si d
       exact qo.sub (qo.rq fol [4] (kH b (kAC r (kAX f))) (kA v) (ac (hs (.done (.opt (vS ZT 22 (.oslice 0 v.length 1) none (some (.i (w64 ((v.length:Int)-1)))) none)) (.oslice 0 r.length 1)) (qgH zt t)) az)) ((show Sub (ofG 41 (kH b (kAC r (kAX f))),(kA v)) (ofG 41 (kH b (kAC r (kAX f))),(kA r))from(Sub.norm [] [some 0] (by rw[hB];rfl) rfl (.keep (.same (qf encI _)) (.keep (.oslice rfl) (.keep (.same nI) .nil))) (.kb rfl (vo.cut t) .nil))).trans (Sub.norm [] [some 0] (by rw[hB];rfl) rfl (.keep (.same (qf encI _)) (.keep (qK.hs1 rfl) (.keep (.same nI) .nil))) (.ks .nil)))
      intro _ hsub
      obtain rfl:=si g8
      exact⟨rfl,_,rfl,(hsub.trans (Sub.refl _))⟩
     obtain⟨K,e,g8⟩:=bnd g8
     refine Ui (s':=(ofG 41 (kH b (kAC K (kAX f))),(kA K))) ?_ ?_
     ·obtain⟨j,g,e⟩:=bnd e
      rcases u with _|D
      ·try dsimp only at e
       obtain rfl:=si e
       exact qo.sub (qo.rq fol [3,4] (kH b ((3,.oslice 2 1 1)::(kAX f))) (.cells ((hof (none:Option (List Int))).flatMap encI.c)::(kAu j (kAu j []))) (ac (iv zt encI g) (ac (lv 0 ce3 encI g rfl) az))) (Sub.norm [] [some 2] (by rw[hB];rfl) rfl (.keep (.same (qf encI _)) (.keep (qK.osliceE rfl rfl) (.keep (.same nI) .nil))) (.ks .nil))
      try dsimp only at e
      obtain⟨w,F,e⟩:=bnd e
      obtain rfl:=si e
      exact qo.sub (qo.rq fol [3,4,6] (kH b ((3,.oslice 2 w.length 1)::(kAX f))) (kAD j (kA w)) (ac (iv zt encI g) (ac (lv 0 ce3 encI g rfl) (ac (hs (.run [0,1] (jr ZT [22,22] (.oslice 0 D.length 1) (.slice 1 0 1 1 1)) (kJ D (kAu j [])) (.oslice 2 w.length 1) (kAD j (kA w)) true) (xI zt (E:=encI) rfl (qbW (E:=encI) (ys:=[j]) rfl rfl rfl rfl) (qgF (E:=encI) (l:=D) rfl rfl rfl F rfl))) az)))) (Sub.norm [] [some 2] (by rw[hB];rfl) rfl (.keep (.same (qf encI _)) (.keep (.oslice rfl) (.keep (.same nI) .nil))) (.ks .nil))
     intro _ hsub
     obtain rfl:=si g8
     exact⟨rfl,_,rfl,(hsub.trans (Sub.norm [] [some 0] (by rw[hB];rfl) rfl (.keep (.same (qf encI _)) (.keep (qK.hs1 rfl) (.keep (.same nI) .nil))) (.ks .nil)))⟩
    rintro x s' ⟨rfl,y,rfl,hsub⟩
    refine Goes.sub hsub ?_
    refine gh fol (kH b (kBS y (kAX (w64 (f+1))))) ?_
    exact⟨M,(ofG 41 (kH b (kBS y (kAX (w64 (f+1))))),(kO y)),Nat.lt_succ_self _,(Sub.refl _),_,_,rfl,g5⟩
   refine Goes.exit ?_
   obtain rfl:=si g5
   exact⟨rfl,_,rfl,(Sub.keep [3] rfl rfl)⟩
 rintro x s' ⟨rfl,G,rfl,hsub⟩
 refine Goes.sub hsub ?_
 refine sh fol [(2,hsl 0 1 G)] ?_
 refine Goes.ret ?_
 obtain rfl:=si h
 exact(gh2 [hsl 0 1 G] (yc.refl _ _))
def jh (N:Nat) (n:Int) (w:List Int):Option Bool:=
 ((awk).bind fun F=>
 if(!F)=true then
 some true
 else
 some (decide ((w.length:Int)>220)):Option Bool).bind fun G=>
 if G=true then
 (awk).bind fun H=>
 some H
 else
 (zS N n w).bind fun f=>
 (qR N n w).bind fun I=>
 if(!decide (I=f))=true then
 some false
 else
 (yT N n w).bind fun d=>
 (jJ N n w).bind fun e=>
 (vF N n w).bind fun a=>
 (jX N n w).bind fun b=>
 (vH N n w).bind fun c=>
 if(!decide (f=0))=true then
 ((qP N d.1 d.2 f []).bind fun g=>
 if g=true then
 (zz e.1 e.2 f 0).bind fun h=>
 if h=true then
 (qP N a.1 a.2 f []).bind fun i=>
 if i=true then
 (qP N b.1 b.2 f []).bind fun j=>
 if j=true then
 (qP N c.1 c.2 f []).bind fun k=>
 some k
 else
 some false
 else
 some false
 else
 some false
 else
 some false:Option Bool).bind fun l=>
 some l
 else
 ((vO N n w).bind fun m=>
 (qP N d.1 d.2 0 m).bind fun o=>
 if o=true then
 (jH N w).bind fun p=>
 (zz e.1 e.2 0 p).bind fun q=>
 if q=true then
 (jv N w).bind fun r=>
 (match r with
 |none=>
 (qP N a.1 a.2 0 []).bind fun s=>
 if s=true then
 (zW N w).bind fun t=>
 (qP N b.1 b.2 0 t).bind fun u=>
 if u=true then
 (jf N w).bind fun v=>
 (qP N c.1 c.2 0 v).bind fun x=>
 some x
 else
 some false
 else
 some false
 |some y=>
 (qP N a.1 a.2 0 y).bind fun z=>
 if z=true then
 (zW N w).bind fun A=>
 (qP N b.1 b.2 0 A).bind fun B=>
 if B=true then
 (jf N w).bind fun C=>
 (qP N c.1 c.2 0 C).bind fun D=>
 some D
 else
 some false
 else
 some false)
 else
 some false
 else
 some false:Option Bool).bind fun E=>
 some E
theorem xJ (N:Nat) (n:Int) (w:List Int) {res:Bool} (h:jh N n w=some res):qb ZT (.fn 6) (kAk n w) [] (.bool res) []:=by
 unfold jh at h
 refine Ub Tryz.func6 rfl rfl (m:=126) rfl (rs:=[.tmp 4]) rfl (l:=(kB n w [])) rfl ?_
 refine sh fol (kB n w []) ?_
 refine sq ?_
 refine sq ?_
 obtain⟨b3,t,h⟩:=bnd h
 refine Goes.cut (s':=(ofG 126 (kB n w [(22,.bool b3)]),[])) ?_ ?_
 ·obtain⟨r1,T,t⟩:=bnd t
  rcases wyB t with⟨c2,t⟩|⟨c2,t⟩
  ·obtain rfl:=si t
   exact tr fol [0,2] (kB n w [(22,.bool true)]) (ac (cv (qdw T)) (ac (gw c2) az))
  obtain rfl:=si t
  exact tr fol [0,2] (kB n w [(22,.bool (decide ((w.length:Int)>220)))]) (ac (cv (qdw T)) (ac (gw c2) az))
 refine ihB h (fun c5 h=>?_) (fun c5 h=>?_)
 ·obtain⟨r6,a8,h⟩:=bnd h
  refine sq (gr fol [0] (kAa r6) (ac (cv (qdw a8)) az) ?_)
  refine Goes.ret ?_
  obtain rfl:=si h
  exact(gw2 [.bool r6] (Ua tB))
 refine Goes.skip ?_
 obtain⟨s,a9,h⟩:=bnd h
 refine sq (gr fol [2] (kB n w (kAc s)) (ac (cv (xX N n w a9)) az) ?_)
 refine sq ?_
 obtain⟨r8,b0,h⟩:=bnd h
 refine sq (gr fol [2] (kB n w [(5,.i s),(31,.bool (!decide (r8=s)))]) (ac (cv (zf N n w b0)) az) ?_)
 refine ihB h (fun c9 h=>?_) (fun c9 h=>?_)
 ·refine sh fol kAA ?_
  refine Goes.ret ?_
  obtain rfl:=si h
  exact(gw2 [.bool false] (Ua tB))
 refine Goes.skip ?_
 obtain⟨d,U,h⟩:=bnd h
 refine sq (gr fol [2] (kB n w ((5,.i s)::(kM d.1 d.2 []))) (ac (cv (qbH N n w U)) az) ?_)
 obtain⟨f,V,h⟩:=bnd h
 refine sq (gr fol [2] (kB n w ((5,.i s)::(kM d.1 d.2 (kAl f.1 f.2 [])))) (ac (cv (qaq N n w V)) az) ?_)
 obtain⟨e,W,h⟩:=bnd h
 refine sq (gr fol [2] (kB n w ((5,.i s)::(kM d.1 d.2 (kAl f.1 f.2 (kP e.1 e.2 []))))) (ac (cv (qaU N n w W)) az) ?_)
 obtain⟨j,X,h⟩:=bnd h
 refine sq (gr fol [2] (kB n w ((5,.i s)::(kM d.1 d.2 (kAl f.1 f.2 (kP e.1 e.2 [(12,vl encI j.1),(13,.i j.2)]))))) (ac (cv (qaC N n w X)) az) ?_)
 obtain⟨v,Y,h⟩:=bnd h
 refine sq (gr fol [2] (kB n w ((5,.i s)::(kM d.1 d.2 (kAl f.1 f.2 (kP e.1 e.2 [(12,vl encI j.1),(13,.i j.2),(14,vl encI v.1),(15,.i v.2)]))))) (ac (cv (qaQ N n w Y)) az) ?_)
 refine sq ?_
 refine sh fol (kB n w ((5,.i s)::(kM d.1 d.2 (kAl f.1 f.2 (kP e.1 e.2 [(12,vl encI j.1),(13,.i j.2),(14,vl encI v.1),(15,.i v.2),(63,.bool (!decide (s=0)))]))))) ?_
 refine ihB h (fun c15 h=>?_) (fun c15 h=>?_)
 ·refine sq ?_
  obtain⟨b1,b,h⟩:=bnd h
  refine Goes.cut (s':=(ofG 126 (kAa b1),[])) ?_ ?_
  ·obtain⟨r16,u,b⟩:=bnd b
   rcases wyB b with⟨G,b⟩|⟨G,b⟩
   ·obtain⟨r18,x,b⟩:=bnd b
    rcases wyB b with⟨H,b⟩|⟨H,b⟩
    ·obtain⟨r20,B,b⟩:=bnd b
     rcases wyB b with⟨O,b⟩|⟨O,b⟩
     ·obtain⟨r22,I,b⟩:=bnd b
      rcases wyB b with⟨Z,b⟩|⟨Z,b⟩
      ·obtain⟨r24,a0,b⟩:=bnd b
       obtain rfl:=si b
       exact tr fol [3,4,8,10,14,16,20,22,26] (kAa r24) (ac (cv ((qb.wk (qc N d.1 d.2 s [] u) (WkL.cons (Wk.refl _) (WkL.cons (Wk.refl _) (WkL.cons (Wk.refl _) (WkL.cons (Wk.nilv (E:=encI)) WkL.nil))))))) (ac (gw G) (ac (cv (qB f.1 f.2 s 0 x)) (ac (gw H) (ac (cv ((qb.wk (qc N e.1 e.2 s [] B) (WkL.cons (Wk.refl _) (WkL.cons (Wk.refl _) (WkL.cons (Wk.refl _) (WkL.cons (Wk.nilv (E:=encI)) WkL.nil))))))) (ac (gw O) (ac (cv ((qb.wk (qc N j.1 j.2 s [] I) (WkL.cons (Wk.refl _) (WkL.cons (Wk.refl _) (WkL.cons (Wk.refl _) (WkL.cons (Wk.nilv (E:=encI)) WkL.nil))))))) (ac (gw Z) (ac (cv ((qb.wk (qc N v.1 v.2 s [] a0) (WkL.cons (Wk.refl _) (WkL.cons (Wk.refl _) (WkL.cons (Wk.refl _) (WkL.cons (Wk.nilv (E:=encI)) WkL.nil))))))) az)))))))))
      obtain rfl:=si b
      exact tr fol [3,4,8,10,14,16,20,22] kAA (ac (cv ((qb.wk (qc N d.1 d.2 s [] u) (WkL.cons (Wk.refl _) (WkL.cons (Wk.refl _) (WkL.cons (Wk.refl _) (WkL.cons (Wk.nilv (E:=encI)) WkL.nil))))))) (ac (gw G) (ac (cv (qB f.1 f.2 s 0 x)) (ac (gw H) (ac (cv ((qb.wk (qc N e.1 e.2 s [] B) (WkL.cons (Wk.refl _) (WkL.cons (Wk.refl _) (WkL.cons (Wk.refl _) (WkL.cons (Wk.nilv (E:=encI)) WkL.nil))))))) (ac (gw O) (ac (cv ((qb.wk (qc N j.1 j.2 s [] I) (WkL.cons (Wk.refl _) (WkL.cons (Wk.refl _) (WkL.cons (Wk.refl _) (WkL.cons (Wk.nilv (E:=encI)) WkL.nil))))))) (ac (gw Z) az))))))))
     obtain rfl:=si b
     exact tr fol [3,4,8,10,14,16] kAA (ac (cv ((qb.wk (qc N d.1 d.2 s [] u) (WkL.cons (Wk.refl _) (WkL.cons (Wk.refl _) (WkL.cons (Wk.refl _) (WkL.cons (Wk.nilv (E:=encI)) WkL.nil))))))) (ac (gw G) (ac (cv (qB f.1 f.2 s 0 x)) (ac (gw H) (ac (cv ((qb.wk (qc N e.1 e.2 s [] B) (WkL.cons (Wk.refl _) (WkL.cons (Wk.refl _) (WkL.cons (Wk.refl _) (WkL.cons (Wk.nilv (E:=encI)) WkL.nil))))))) (ac (gw O) az))))))
    obtain rfl:=si b
    exact tr fol [3,4,8,10] kAA (ac (cv ((qb.wk (qc N d.1 d.2 s [] u) (WkL.cons (Wk.refl _) (WkL.cons (Wk.refl _) (WkL.cons (Wk.refl _) (WkL.cons (Wk.nilv (E:=encI)) WkL.nil))))))) (ac (gw G) (ac (cv (qB f.1 f.2 s 0 x)) (ac (gw H) az))))
   obtain rfl:=si b
   exact tr fol [3,4] kAA (ac (cv ((qb.wk (qc N d.1 d.2 s [] u) (WkL.cons (Wk.refl _) (WkL.cons (Wk.refl _) (WkL.cons (Wk.refl _) (WkL.cons (Wk.nilv (E:=encI)) WkL.nil))))))) (ac (gw G) az))
  refine Goes.ret ?_
  obtain rfl:=si h
  exact(gw2 [.bool b1] (Ua tB))
 refine Goes.skip ?_
 refine sq ?_
 obtain⟨b2,a,h⟩:=bnd h
 refine Ui (s':=(ofG 126 (kAa b2),[])) ?_ ?_
 ·obtain⟨z,k,a⟩:=bnd a
  obtain⟨r28,o,a⟩:=bnd a
  rcases wyB a with⟨y,a⟩|⟨y,a⟩
  ·obtain⟨C,p,a⟩:=bnd a
   obtain⟨r31,q,a⟩:=bnd a
   rcases wyB a with⟨A,a⟩|⟨A,a⟩
   ·obtain⟨o34,r,a⟩:=bnd a
    rcases o34 with _|g
    ·try dsimp only at a
     obtain⟨r36,D,a⟩:=bnd a
     rcases wyB a with⟨P,a⟩|⟨P,a⟩
     ·obtain⟨b4,J,a⟩:=bnd a
      obtain⟨r39,K,a⟩:=bnd a
      rcases wyB a with⟨a1,a⟩|⟨a1,a⟩
      ·obtain⟨r41,a2,a⟩:=bnd a
       obtain⟨r42,a3,a⟩:=bnd a
       obtain rfl:=si a
       exact qo.sub (qo.rq fol [4,5,6,10,11,13,17,18,20,24,25,27,31,32] (kAa r42) [.cells ((hof (none:Option (List Int))).flatMap encI.c)] (ac (cv (zy N n w k)) (ac (cv (qc N d.1 d.2 0 z o)) (ac (gw y) (ac (cv (ku N w p)) (ac (cv (qB f.1 f.2 0 C q)) (ac (gw A) (ac (hs (.callH 42 [vl encI w] [] [] (hsl 0 1 (none:Option (List Int))) [.cells ((hof (none:Option (List Int))).flatMap encI.c)]) (jb [] [some 0] (kW N w r) .nil rfl rfl (.new rfl rfl (.same fa) rfl .nil) (rc (.same (qf encI _)) rn) (.hs rfl) rfl)) (ac (cv ((qb.wk (qc N e.1 e.2 0 [] D) (WkL.cons (Wk.refl _) (WkL.cons (Wk.refl _) (WkL.cons (Wk.refl _) (WkL.cons (Wk.nilv (E:=encI)) WkL.nil))))))) (ac (gw P) (ac (cv (je N w J)) (ac (cv (qc N j.1 j.2 0 b4 K)) (ac (gw a1) (ac (cv (yV N w a2)) (ac (cv (qc N v.1 v.2 0 r41 a3)) az))))))))))))))) (Sub.norm [] [] rfl rfl (.keep (.same nB) .nil) .nil)
      obtain rfl:=si a
      exact qo.sub (qo.rq fol [4,5,6,10,11,13,17,18,20,24,25,27] kAA [.cells ((hof (none:Option (List Int))).flatMap encI.c)] (ac (cv (zy N n w k)) (ac (cv (qc N d.1 d.2 0 z o)) (ac (gw y) (ac (cv (ku N w p)) (ac (cv (qB f.1 f.2 0 C q)) (ac (gw A) (ac (hs (.callH 42 [vl encI w] [] [] (hsl 0 1 (none:Option (List Int))) [.cells ((hof (none:Option (List Int))).flatMap encI.c)]) (jb [] [some 0] (kW N w r) .nil rfl rfl (.new rfl rfl (.same fa) rfl .nil) (rc (.same (qf encI _)) rn) (.hs rfl) rfl)) (ac (cv ((qb.wk (qc N e.1 e.2 0 [] D) (WkL.cons (Wk.refl _) (WkL.cons (Wk.refl _) (WkL.cons (Wk.refl _) (WkL.cons (Wk.nilv (E:=encI)) WkL.nil))))))) (ac (gw P) (ac (cv (je N w J)) (ac (cv (qc N j.1 j.2 0 b4 K)) (ac (gw a1) az))))))))))))) (Sub.norm [] [] rfl rfl (.keep (.same nB) .nil) .nil)
     obtain rfl:=si a
     exact qo.sub (qo.rq fol [4,5,6,10,11,13,17,18,20] kAA [.cells ((hof (none:Option (List Int))).flatMap encI.c)] (ac (cv (zy N n w k)) (ac (cv (qc N d.1 d.2 0 z o)) (ac (gw y) (ac (cv (ku N w p)) (ac (cv (qB f.1 f.2 0 C q)) (ac (gw A) (ac (hs (.callH 42 [vl encI w] [] [] (hsl 0 1 (none:Option (List Int))) [.cells ((hof (none:Option (List Int))).flatMap encI.c)]) (jb [] [some 0] (kW N w r) .nil rfl rfl (.new rfl rfl (.same fa) rfl .nil) (rc (.same (qf encI _)) rn) (.hs rfl) rfl)) (ac (cv ((qb.wk (qc N e.1 e.2 0 [] D) (WkL.cons (Wk.refl _) (WkL.cons (Wk.refl _) (WkL.cons (Wk.refl _) (WkL.cons (Wk.nilv (E:=encI)) WkL.nil))))))) (ac (gw P) az)))))))))) (Sub.norm [] [] rfl rfl (.keep (.same nB) .nil) .nil)
    try dsimp only at a
    obtain⟨a4,F,a⟩:=bnd a
    rcases wyB a with⟨Q,a⟩|⟨Q,a⟩
    ·obtain⟨b5,L,a⟩:=bnd a
     obtain⟨r46,M,a⟩:=bnd a
     rcases wyB a with⟨a5,a⟩|⟨a5,a⟩
     ·obtain⟨r48,a6,a⟩:=bnd a
      obtain⟨r49,a7,a⟩:=bnd a
      obtain rfl:=si a
      exact qo.sub (qo.rq fol [4,5,6,10,11,13,17,18,20,24,25,27,31,32] (kAa r49) (kA g) (ac (cv (zy N n w k)) (ac (cv (qc N d.1 d.2 0 z o)) (ac (gw y) (ac (cv (ku N w p)) (ac (cv (qB f.1 f.2 0 C q)) (ac (gw A) (ac (hs (.callH 42 [vl encI w] [] [] (hsl 0 1 (some g)) (kO (some g))) (jb [] [some 0] (kW N w r) .nil rfl rfl (.new rfl rfl (.same fa) rfl .nil) (rc (.same (qf encI _)) rn) (.hs rfl) rfl)) (ac (hs (.call 13 [vl encI e.1,.i e.2,.i 0,.oslice 0 g.length 1] (kA g) [0] [vl encI e.1,.i e.2,.i 0,vl encI g] (.bool a4)) (qbi (FzL.cons (Ue (zH encI _ (nl rfl))) (FzL.cons (Ue tI) (FzL.cons (Ue tI) (FzL.cons (Fz.os (E:=encI) rfl rfl (nl rfl)) FzL.nil)))) (qc N e.1 e.2 0 g F) tB rfl)) (ac (gw Q) (ac (cv (je N w L)) (ac (cv (qc N j.1 j.2 0 b5 M)) (ac (gw a5) (ac (cv (yV N w a6)) (ac (cv (qc N v.1 v.2 0 r48 a7)) az))))))))))))))) (Sub.norm [] [] rfl rfl (.keep (.same nB) .nil) .nil)
     obtain rfl:=si a
     exact qo.sub (qo.rq fol [4,5,6,10,11,13,17,18,20,24,25,27] kAA (kA g) (ac (cv (zy N n w k)) (ac (cv (qc N d.1 d.2 0 z o)) (ac (gw y) (ac (cv (ku N w p)) (ac (cv (qB f.1 f.2 0 C q)) (ac (gw A) (ac (hs (.callH 42 [vl encI w] [] [] (hsl 0 1 (some g)) (kO (some g))) (jb [] [some 0] (kW N w r) .nil rfl rfl (.new rfl rfl (.same fa) rfl .nil) (rc (.same (qf encI _)) rn) (.hs rfl) rfl)) (ac (hs (.call 13 [vl encI e.1,.i e.2,.i 0,.oslice 0 g.length 1] (kA g) [0] [vl encI e.1,.i e.2,.i 0,vl encI g] (.bool a4)) (qbi (FzL.cons (Ue (zH encI _ (nl rfl))) (FzL.cons (Ue tI) (FzL.cons (Ue tI) (FzL.cons (Fz.os (E:=encI) rfl rfl (nl rfl)) FzL.nil)))) (qc N e.1 e.2 0 g F) tB rfl)) (ac (gw Q) (ac (cv (je N w L)) (ac (cv (qc N j.1 j.2 0 b5 M)) (ac (gw a5) az))))))))))))) (Sub.norm [] [] rfl rfl (.keep (.same nB) .nil) .nil)
    obtain rfl:=si a
    exact qo.sub (qo.rq fol [4,5,6,10,11,13,17,18,20] kAA (kA g) (ac (cv (zy N n w k)) (ac (cv (qc N d.1 d.2 0 z o)) (ac (gw y) (ac (cv (ku N w p)) (ac (cv (qB f.1 f.2 0 C q)) (ac (gw A) (ac (hs (.callH 42 [vl encI w] [] [] (hsl 0 1 (some g)) (kO (some g))) (jb [] [some 0] (kW N w r) .nil rfl rfl (.new rfl rfl (.same fa) rfl .nil) (rc (.same (qf encI _)) rn) (.hs rfl) rfl)) (ac (hs (.call 13 [vl encI e.1,.i e.2,.i 0,.oslice 0 g.length 1] (kA g) [0] [vl encI e.1,.i e.2,.i 0,vl encI g] (.bool a4)) (qbi (FzL.cons (Ue (zH encI _ (nl rfl))) (FzL.cons (Ue tI) (FzL.cons (Ue tI) (FzL.cons (Fz.os (E:=encI) rfl rfl (nl rfl)) FzL.nil)))) (qc N e.1 e.2 0 g F) tB rfl)) (ac (gw Q) az)))))))))) (Sub.norm [] [] rfl rfl (.keep (.same nB) .nil) .nil)
   obtain rfl:=si a
   exact qo.sub (tr fol [4,5,6,10,11,13] kAA (ac (cv (zy N n w k)) (ac (cv (qc N d.1 d.2 0 z o)) (ac (gw y) (ac (cv (ku N w p)) (ac (cv (qB f.1 f.2 0 C q)) (ac (gw A) az))))))) (Sub.refl _)
  obtain rfl:=si a
  exact qo.sub (tr fol [4,5,6] kAA (ac (cv (zy N n w k)) (ac (cv (qc N d.1 d.2 0 z o)) (ac (gw y) az)))) (Sub.refl _)
 intro _ hsub
 refine Goes.sub hsub ?_
 refine Goes.ret ?_
 obtain rfl:=si h
 exact(gw2 [.bool b2] (Ua tB))
end Go.Av
