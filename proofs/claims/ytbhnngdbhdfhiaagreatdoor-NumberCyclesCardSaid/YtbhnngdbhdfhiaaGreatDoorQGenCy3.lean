/-
  Walks of functions: what each computes, as a plain function.
-/
import Derived.Test.YtbhnngdbhdfhiaaGreatDoorQGenCy2
noncomputable section
namespace Go.Av
open Go.Proofs Go.RowKit
set_option linter.unusedSectionVars false
set_option linter.unusedVariables false
set_option linter.unusedSimpArgs false
set_option maxRecDepth 100000
def jE (a:Str):Nat->Int->Int->Option Int
 |0,_,_=>none
 |K+1,c,b=>
  if b<(a.length:Int)then
  (idx a b).bind fun d=>
  jE a K (w64 ((w64 ((w64 (10*c))+(w64 (d.toNat:Int))))-48)) (w64 (b+1))
  else
  some c
def ym (N:Nat) (a:Str):Option Int:=
 (jE a N 0 0).bind fun b=>
 some b
theorem qab (N:Nat) (a:Str) {res:Int} (h:ym N a=some res):qc ZT (.fn 151) [.str a] [] (.i res) []:=by
 unfold ym at h
 refine Ub Tryz.func151 rfl rfl (m:=20) rfl (rs:=[.tmp 2]) rfl (l:=(kAm a)) rfl ?_
 refine sh fol (kAm a) ?_
 refine sh fol [(0,.str a),(3,.i 0)] ?_
 refine sq ?_
 refine sh fol [(0,.str a),(3,.i 0),(4,.i 0)] ?_
 refine Goes.block ?_
 obtain⟨g,g4,h⟩:=bnd h
 refine Goes.imp (Q:=fun x s'=>(x= .exit 0/\ ∃d,d=g/\Sub s' (ofG 20 [(3,.i d)],[]))) ?_ ?_
 ·refine Uc (fun M s=> ∃(c:Int) (b:Int),s=(ofG 20 (kAv a c [(4,.i b)]),[])/\jE a M c b=some g) ?_ (m:=N) ⟨_,_,rfl,g4⟩
  rintro M s ⟨c,b,rfl,g4⟩
  cases M with
  |zero=>simp only[jE]at g4;cases g4
  |succ M=>
   rw[jE]at g4
   refine sq ?_
   refine sh fol (kAv a c ((4,.i b)::(kA1 (decide (b<(a.length:Int)))))) ?_
   refine ihD g4 (fun j g4=>?_) (fun j g4=>?_)
   ·refine Goes.skip ?_
    refine sq (Goes.block ?_)
    obtain⟨f,e,g4⟩:=bnd g4
    refine gr fol [4] (kAv a (w64 ((w64 ((w64 (10*c))+(w64 (f.toNat:Int))))-48)) [(4,.i b)]) (ac (hs (.done (.opt (qaR ZT 9 (.str a) (.i b))) (.int .u8 (f.toNat:Int))) (qet st9 e)) az) ?_
    refine gh fol (kAv a (w64 ((w64 ((w64 (10*c))+(w64 (f.toNat:Int))))-48)) [(4,.i (w64 (b+1)))]) ?_
    exact⟨M,(ofG 20 (kAv a (w64 ((w64 ((w64 (10*c))+(w64 (f.toNat:Int))))-48)) [(4,.i (w64 (b+1)))]),[]),Nat.lt_succ_self _,(Sub.refl _),_,_,rfl,g4⟩
   refine Goes.exit ?_
   obtain rfl:=si g4
   exact⟨rfl,_,rfl,(Sub.keep [3] rfl rfl)⟩
 rintro x s' ⟨rfl,d,rfl,hsub⟩
 refine Goes.sub hsub ?_
 refine sh fol [(2,.i d)] ?_
 refine Goes.ret ?_
 obtain rfl:=si h
 exact(gw2 [.i d] (Ua tI))
def vE (N:Nat) (a:Str):Option (Int×Int×Bool):=
 if(a.length:Int)>20 then
 some (0,0,false)
 else
 (if(a.length:Int)>0 then
 (idx a 0).bind fun l=>
 some (decide ((l.toNat:Int)=45))
 else
 some false:Option Bool).bind fun k=>
 ((if k=true then
 (cut a 1 (a.length:Int)).bind fun m=>
 some m
 else
 some a:Option Str)).bind fun c=>
 (yo N c).bind fun b=>
 (if b>9 then
 some true
 else
 some (decide ((w64 ((c.length:Int)-b))>10)):Option Bool).bind fun e=>
 if e=true then
 some (0,0,false)
 else
 (cut c 0 b).bind fun f=>
 (ym N f).bind fun d=>
 ((if b<(c.length:Int)then
 (cut c (w64 (b+1)) (c.length:Int)).bind fun g=>
 (ym N g).bind fun h=>
 some h
 else
 some 1:Option Int)).bind fun i=>
 ((if k=true then
 some (w64 (0-d))
 else
 some d:Option Int)).bind fun j=>
 some (j,i,true)
theorem qcG (N:Nat) (a:Str) {res:Int×Int×Bool} (h:vE N a=some res):qc ZT (.fn 97) [.str a] [] (.tuple [.i res.1,.i res.2.1,.bool res.2.2]) []:=by
 unfold vE at h
 refine Ub Tryz.func97 rfl rfl (m:=54) rfl (rs:=[.tmp 2,.tmp 3,.tmp 4]) rfl (l:=(kAm a)) rfl ?_
 refine sh fol (kAm a) ?_
 refine sh fol [(5,.str a)] ?_
 refine sq ?_
 refine sh fol ((5,.str a)::(kA3 (decide ((a.length:Int)>20)))) ?_
 refine ihD h (fun I h=>?_) (fun I h=>?_)
 ·refine sh fol ((2,.i 0)::(3,.i 0)::kAU) ?_
  refine Goes.ret ?_
  obtain rfl:=si h
  exact(gw2 [.i 0,.i 0,.bool false] (FzW.tuple (qg.cons (Ua tI) (qg.cons (Ua tI) (qg.cons (Ua tB) qg.nil)))))
 refine Goes.skip ?_
 refine sq ?_
 obtain⟨f,c,h⟩:=bnd h
 refine Goes.cut (s':=(ofG 54 (kAn a f []),[])) ?_ ?_
 ·rcases wyD c with⟨y,c⟩|⟨y,c⟩
  ·obtain⟨G,t,c⟩:=bnd c
   obtain rfl:=si c
   exact tr fol [3,5] (kAn a (decide ((G.toNat:Int)=45)) []) (ac (gw y) (ac (hs (.done (.opt (qaR ZT 9 (.str a) (.i 0))) (.int .u8 (G.toNat:Int))) (qet st9 t)) az))
  obtain rfl:=si c
  exact tr fol [3] [(5,.str a),(6,.bool false)] (ac (gw y) az)
 refine sq ?_
 refine sh fol (kAn a f [(22,.bool f)]) ?_
 obtain⟨J,g7,h⟩:=bnd h
 refine Goes.imp (Q:=fun x s'=>(x= .normal/\ ∃g,g=J/\Sub s' (ofG 54 (kAn g f []),[]))) ?_ ?_
 ·refine ihB g7 (fun K g7=>?_) (fun K g7=>?_)
  ·obtain⟨H,u,g7⟩:=bnd g7
   refine gr fol [1] (kAn H f []) (ac (hs (.done (.opt (ja ZT 9 (.str a) (some (.i 1)) none none)) (.str H)) (qac st9 (some 1) none u)) az) ?_
   obtain rfl:=si g7
   exact⟨rfl,_,rfl,(Sub.refl _)⟩
  refine Goes.skip ?_
  obtain rfl:=si g7
  exact⟨rfl,_,rfl,(Sub.keep [5,6] rfl rfl)⟩
 rintro x s' ⟨rfl,g,rfl,hsub⟩
 refine Goes.sub hsub ?_
 obtain⟨b,n,h⟩:=bnd h
 refine sq (gr fol [1] (kAn g f [(7,.i b)]) (ac (cv (xY N g n)) az) ?_)
 refine sq ?_
 refine sq ?_
 obtain⟨z,d,h⟩:=bnd h
 refine Goes.cut (s':=(ofG 54 (kAn g f [(7,.i b),(35,.bool z)]),[])) ?_ ?_
 ·rcases wyD d with⟨o,d⟩|⟨o,d⟩
  ·obtain rfl:=si d
   exact tr fol [2] (kAn g f [(7,.i b),(35,.bool true)]) (ac (gw o) az)
  obtain rfl:=si d
  exact tr fol [2] (kAn g f [(7,.i b),(35,.bool (decide ((w64 ((g.length:Int)-b))>10)))]) (ac (gw o) az)
 refine ihB h (fun A h=>?_) (fun A h=>?_)
 ·refine sh fol ((2,.i 0)::(3,.i 0)::kAU) ?_
  refine Goes.ret ?_
  obtain rfl:=si h
  exact(gw2 [.i 0,.i 0,.bool false] (FzW.tuple (qg.cons (Ua tI) (qg.cons (Ua tI) (qg.cons (Ua tB) qg.nil)))))
 refine Goes.skip ?_
 obtain⟨v,p,h⟩:=bnd h
 obtain⟨j,q,h⟩:=bnd h
 refine sq (gr fol [2,3] (kAn g f [(7,.i b),(8,.i j),(9,.i 1)]) (ac (hs (.done (.opt (ja ZT 9 (.str g) none (some (.i b)) none)) (.str v)) (qac st9 none (some b) p)) (ac (cv (qab N v q)) az)) ?_)
 refine sq ?_
 refine sh fol (kAn g f [(7,.i b),(8,.i j),(9,.i 1),(43,.bool (decide (b<(g.length:Int))))]) ?_
 obtain⟨B,g18,h⟩:=bnd h
 refine Goes.imp (Q:=fun x s'=>(x= .normal/\ ∃e,e=B/\Sub s' (ofG 54 ((6,.bool f)::(kAL j e [])),[]))) ?_ ?_
 ·refine ihD g18 (fun C g18=>?_) (fun C g18=>?_)
  ·obtain⟨w,r,g18⟩:=bnd g18
   obtain⟨D,s,g18⟩:=bnd g18
   refine gr fol [3,4] ((6,.bool f)::(kAL j D [])) (ac (hs (.done (.opt (ja ZT 9 (.str g) (some (.i (w64 (b+1)))) none none)) (.str w)) (qac st9 (some (w64 (b+1))) none r)) (ac (cv (qab N w s)) az)) ?_
   obtain rfl:=si g18
   exact⟨rfl,_,rfl,(Sub.refl _)⟩
  refine Goes.skip ?_
  obtain rfl:=si g18
  exact⟨rfl,_,rfl,(Sub.keep [6,8,9] rfl rfl)⟩
 rintro x s' ⟨rfl,e,rfl,hsub⟩
 refine Goes.sub hsub ?_
 refine sq ?_
 refine sh fol (kAL j e [(49,.bool f)]) ?_
 obtain⟨E,g23,h⟩:=bnd h
 refine Goes.imp (Q:=fun x s'=>(x= .normal/\ ∃k,k=E/\Sub s' (ofG 54 (kAL k e []),[]))) ?_ ?_
 ·refine ihB g23 (fun F g23=>?_) (fun F g23=>?_)
  ·refine gh fol (kAL (w64 (0-j)) e []) ?_
   obtain rfl:=si g23
   exact⟨rfl,_,rfl,(Sub.refl _)⟩
  refine Goes.skip ?_
  obtain rfl:=si g23
  exact⟨rfl,_,rfl,(Sub.keep [8,9] rfl rfl)⟩
 rintro x s' ⟨rfl,k,rfl,hsub⟩
 refine Goes.sub hsub ?_
 refine sh fol [(2,.i k),(3,.i e),(4,.bool true)] ?_
 refine Goes.ret ?_
 obtain rfl:=si h
 exact(gw2 [.i k,.i e,.bool true] (FzW.tuple (qg.cons (Ua tI) (qg.cons (Ua tI) (qg.cons (Ua tB) qg.nil)))))
def yu (N:Nat) (a:qL):Option qL:=
 (jk N (!a.neg) a.w).bind fun b=>
 some b
theorem qcH (N:Nat) (a:qL) {res:qL} (h:yu N a=some res):qc ZT (.fn 154) [.agg (kAW a.neg a.w)] [] (.agg (kAW res.neg res.w)) []:=by
 unfold yu at h
 refine Ub Tryz.func154 rfl rfl (m:=9) rfl (rs:=[.cell 2 91]) rfl (l:=[(0,.agg [.bool a.neg,vl encI a.w])]) rfl ?_
 refine sg fol (kAM kAj) (kQ a.neg a.w (kM [])) ?_
 obtain⟨c,b,h⟩:=bnd h
 refine sq (gq fol [5] kAj (kQ a.neg a.w (kQ c.neg c.w [])) (ac (cv (vD N (!a.neg) a.w b)) az) ?_)
 refine Goes.ret ?_
 obtain rfl:=si h
 exact(gw2 [.agg (kAW c.neg c.w)] (FzW.agg (qg.cons (Ua tB) (qg.cons (Ua (qy encI _ (nl rfl))) qg.nil))))
def zi (a:List Int) (b:List Int) (g:Int):Nat->(List Int)->Int->Int->Option ((List Int)×Int)
 |0,_,_,_=>none
 |K+1,h,i,c=>
  if c<(b.length:Int)then
  (idx h (w64 (g+c))).bind fun d=>
  (idx a g).bind fun e=>
  (idx b c).bind fun f=>
  (put h (w64 (g+c)) ((w64 ((w64 (d+(w64 (e*f))))+i)).tmod 1000000000)).bind fun j=>
  zi a b g K j (w64 ((w64 ((w64 (d+(w64 (e*f))))+i)).tdiv 1000000000)) (w64 (c+1))
  else
  some (h,i)
def zk (N:Nat) (a:List Int) (b:List Int):Nat->(List Int)->Int->Option (List Int)
 |0,_,_=>none
 |K+1,h,c=>
  if c<(a.length:Int)then
  (zi a b c N h 0 0).bind fun(d,e)=>
  (idx d (w64 (c+(b.length:Int)))).bind fun f=>
  (put d (w64 (c+(b.length:Int))) (w64 (f+e))).bind fun g=>
  zk N a b K g (w64 (c+1))
  else
  some h
def jJ (N:Nat) (a:List Int) (b:List Int):Option (List Int):=
 (mk 8 (w64 ((a.length:Int)+(b.length:Int))) 0).bind fun d=>
 (zk N a b N d 0).bind fun e=>
 (vM N e).bind fun c=>
 some c
theorem xJ (N:Nat) (a:List Int) (b:List Int) {res:List Int} (h:jJ N a b=some res):qc ZT (.fn 157) (kA4 a b) [] (vl encI res) []:=by
 unfold jJ at h
 refine Ub Tryz.func157 rfl rfl (m:=72) rfl (rs:=[.tmp 4]) rfl (l:=(kI a b [])) rfl ?_
 refine sh fol (kI a b []) ?_
 obtain⟨H,I,h⟩:=bnd h
 refine sq (gq fol [5] (kI a b (kC H [])) (kB H []) (ac (hs (.run [] (kw ZT 22 (.i (w64 ((a.length:Int)+(b.length:Int)))) (.i (w64 ((a.length:Int)+(b.length:Int))))) [] (.slice 0 0 H.length H.length 1) (kB H []) false) (qaA zw (E:=encI) (z:=0) rfl (by kernel_rfl) I rfl)) az) ?_)
 refine sq ?_
 refine sh fol (kI a b (kC H [(6,.i 0)])) ?_
 refine Goes.block ?_
 obtain⟨L,g5,h⟩:=bnd h
 refine Goes.imp (Q:=fun x s'=>(x= .exit 0/\ ∃t,t=L/\Sub s' (ofG 72 (kC t []),(kB t [])))) ?_ ?_
 ·refine Uc (fun M s=> ∃(D:List Int) (c:Int),s=(ofG 72 (kI a b (kC D [(6,.i c)])),(kB D []))/\zk N a b M D c=some L) ?_ (m:=N) ⟨_,_,rfl,g5⟩
  rintro M s ⟨D,c,rfl,g5⟩
  cases M with
  |zero=>simp only[zk]at g5;cases g5
  |succ M=>
   rw[zk]at g5
   refine sq ?_
   refine sh fol (kI a b (kC D [(6,.i c),(19,.bool (decide (c<(a.length:Int))))])) ?_
   refine ihD g5 (fun O g5=>?_) (fun O g5=>?_)
   ·refine Goes.skip ?_
    refine sq (Goes.block ?_)
    refine sh fol (kI a b (kC D [(6,.i c),(7,.i 0)])) ?_
    refine sq ?_
    refine sh fol (kI a b (kC D [(6,.i c),(7,.i 0),(8,.i 0)])) ?_
    refine Goes.block ?_
    obtain⟨J,g12,g5⟩:=bnd g5
    refine Goes.imp (Q:=fun x s'=>(x= .exit 2/\ ∃d u,(d,u)=J/\Sub s' (ofG 72 (kI a b (kC d [(6,.i c),(7,.i u)])),(kB d [])))) ?_ ?_
    ·refine Uc (fun M s=> ∃(p:List Int) (r:Int) (o:Int),s=(ofG 72 (kI a b (kC p ((6,.i c)::(kAw r o)))),(kB p []))/\zi a b c M p r o=some J) ?_ (m:=N) ⟨_,_,_,rfl,g12⟩
     rintro M s ⟨p,r,o,rfl,g12⟩
     cases M with
     |zero=>simp only[zi]at g12;cases g12
     |succ M=>
      rw[zi]at g12
      refine sq ?_
      refine sh fol (kI a b (kC p [(6,.i c),(7,.i r),(8,.i o),(25,.bool (decide (o<(b.length:Int))))])) ?_
      refine ihD g12 (fun K g12=>?_) (fun K g12=>?_)
      ·refine Goes.skip ?_
       refine sq (Goes.block ?_)
       obtain⟨e,f,g12⟩:=bnd g12
       obtain⟨g,v,g12⟩:=bnd g12
       obtain⟨j,w,g12⟩:=bnd g12
       refine sq (gr fol [4,5,8,9,12,13] (kI a b (kC p ((6,.i c)::(kAL o (w64 ((w64 (e+(w64 (g*j))))+r)) [])))) (ac (hs (.done (.opt (qf ZT 22 (.slice 0 0 p.length p.length 1) (.i (w64 (c+o))))) (.ptr 0 ((w64 (c+o):Int).toNat*1+0))) (vO zw f)) (ac (hs (.run [0] (zC ZT 3 (.ptr 0 ((w64 (c+o):Int).toNat*1+0))) (kB p []) (.i e) (kB p []) false) (qaF ce3 (E:=encI) (l:=p) rfl rfl f (nl rfl) rfl)) (ac (iv zw encI v) (ac (lv 0 ce3 encI v rfl) (ac (iv zw encI w) (ac (lv 0 ce3 encI w rfl) az)))))) ?_)
       obtain⟨k,A,g12⟩:=bnd g12
       refine sq (gq fol [6,7] (kI a b (kC p ((6,.i c)::(kAL o (w64 ((w64 (e+(w64 (g*j))))+r)) [])))) (kB k []) (ac (hs (.done (.opt (qf ZT 22 (.slice 0 0 p.length p.length 1) (.i (w64 (c+o))))) (.ptr 0 ((w64 (c+o):Int).toNat*1+0))) (vO zw f)) (ac (hs (.run [0] (qw ZT 3 (.ptr 0 ((w64 (c+o):Int).toNat*1+0)) (.i ((w64 ((w64 (e+(w64 (g*j))))+r)).tmod 1000000000))) (kB p []) .undef (kB k []) true) (yh (E:=encI) (l:=p) (y:=(w64 ((w64 (e+(w64 (g*j))))+r)).tmod 1000000000) rfl (show _=some 1 by kernel_rfl) rfl f rfl rfl rfl rfl rfl A rfl)) az)) ?_)
       refine Goes.sub (show Sub (ofG 72 (kI a b (kC p ((6,.i c)::(kAL o (w64 ((w64 (e+(w64 (g*j))))+r)) [])))),(kB k [])) (ofG 72 (kI a b (kC k ((6,.i c)::(kAL o (w64 ((w64 (e+(w64 (g*j))))+r)) [])))),(kB k []))from(Sub.norm [] [some 0] rfl rfl (.keep (.same (qd encI _)) (.keep (.same (qd encI _)) (.keep (.sliceE rfl (zS A)) (.keep (.same nI) (.keep (.same nI) (.keep (.same nI) .nil)))))) (.ks .nil))) ?_
       refine gh fol (kI a b (kC k ((6,.i c)::(kAw (w64 ((w64 ((w64 (e+(w64 (g*j))))+r)).tdiv 1000000000)) o)))) ?_
       refine gh fol (kI a b (kC k ((6,.i c)::(kAw (w64 ((w64 ((w64 (e+(w64 (g*j))))+r)).tdiv 1000000000)) (w64 (o+1)))))) ?_
       exact⟨M,(ofG 72 (kI a b (kC k ((6,.i c)::(kAw (w64 ((w64 ((w64 (e+(w64 (g*j))))+r)).tdiv 1000000000)) (w64 (o+1)))))),(kB k [])),Nat.lt_succ_self _,(Sub.refl _),_,_,_,rfl,g12⟩
      refine Goes.exit ?_
      obtain rfl:=si g12
      exact⟨rfl,_,_,rfl,(Sub.keep [0,1,5,6,7] rfl rfl)⟩
    rintro x s' ⟨rfl,d,u,rfl,hsub⟩
    try dsimp only at g5
    refine Goes.sub hsub ?_
    obtain⟨F,n,g5⟩:=bnd g5
    obtain⟨q,B,g5⟩:=bnd g5
    refine gq fol [10,11,14,15] (kI a b (kC d [(6,.i c)])) (kB q []) (ac (hs (.done (.opt (qf ZT 22 (.slice 0 0 d.length d.length 1) (.i (w64 (c+(b.length:Int)))))) (.ptr 0 ((w64 (c+(b.length:Int)):Int).toNat*1+0))) (vO zw n)) (ac (hs (.run [0] (zC ZT 3 (.ptr 0 ((w64 (c+(b.length:Int)):Int).toNat*1+0))) (kB d []) (.i F) (kB d []) false) (qaF ce3 (E:=encI) (l:=d) rfl rfl n (nl rfl) rfl)) (ac (hs (.done (.opt (qf ZT 22 (.slice 0 0 d.length d.length 1) (.i (w64 (c+(b.length:Int)))))) (.ptr 0 ((w64 (c+(b.length:Int)):Int).toNat*1+0))) (vO zw n)) (ac (hs (.run [0] (qw ZT 3 (.ptr 0 ((w64 (c+(b.length:Int)):Int).toNat*1+0)) (.i (w64 (F+u)))) (kB d []) .undef (kB q []) true) (yh (E:=encI) (l:=d) (y:=w64 (F+u)) rfl (show _=some 1 by kernel_rfl) rfl n rfl rfl rfl rfl rfl B rfl)) az)))) ?_
    refine Goes.sub (show Sub (ofG 72 (kI a b (kC d [(6,.i c)])),(kB q [])) (ofG 72 (kI a b (kC q [(6,.i c)])),(kB q []))from(Sub.norm [] [some 0] rfl rfl (.keep (.same (qd encI _)) (.keep (.same (qd encI _)) (.keep (.sliceE rfl (zS B)) (.keep (.same nI) .nil)))) (.ks .nil))) ?_
    refine gh fol (kI a b (kC q [(6,.i (w64 (c+1)))])) ?_
    exact⟨M,(ofG 72 (kI a b (kC q [(6,.i (w64 (c+1)))])),(kB q [])),Nat.lt_succ_self _,(Sub.refl _),_,_,rfl,g5⟩
   refine Goes.exit ?_
   obtain rfl:=si g5
   exact⟨rfl,_,rfl,(Sub.keep [5] rfl rfl)⟩
 rintro x s' ⟨rfl,t,rfl,hsub⟩
 refine Goes.sub hsub ?_
 obtain⟨C,G,h⟩:=bnd h
 refine sq (gq fol [1] [(4,vl encI C)] (kAR t) (ac (hs (.callF 158 [.slice 0 0 t.length t.length 1] (kB t []) [0] [vl encI t] (vl encI C)) (qam (FzL.cons (Fz.sl (E:=encI) rfl rfl (nl rfl)) FzL.nil) (yM N t G) (qy encI _ (nl rfl)))) az) ?_)
 refine Goes.sub (show Sub (ofG 72 [(4,vl encI C)],(kAR t)) (ofG 72 [(4,vl encI C)],[])from(Sub.norm [] [] rfl rfl (.keep (.same (qd encI _)) .nil) .nil)) ?_
 refine Goes.ret ?_
 obtain rfl:=si h
 exact(gw2 [vl encI C] (Ua (qy encI _ (nl rfl))))
def qN (a:List Int) (b:List Int):Nat->Int->Option (Unit⊕Int)
 |0,_=>none
 |K+1,c=>
  if c>=0 then
  (idx a c).bind fun d=>
  (idx b c).bind fun e=>
  if d<e then
  some (.inr (-1))
  else
  if d>e then
  some (.inr 1)
  else
  qN a b K (w64 (c-1))
  else
  some (.inl ())
def jP (N:Nat) (a:List Int) (b:List Int):Option Int:=
 if(!decide ((a.length:Int)=(b.length:Int)))=true then
 if(a.length:Int)<(b.length:Int)then
 some (-1)
 else
 some 1
 else
 (qN a b N (w64 ((a.length:Int)-1))).bind (fun
 |(.inl ())=>
 some 0
 |(.inr c)=>
 some c)
theorem qb7 (N:Nat) (a:List Int) (b:List Int) {res:Int} (h:jP N a b=some res):qc ZT (.fn 182) (kA4 a b) [] (.i res) []:=by
 unfold jP at h
 refine Ub Tryz.func182 rfl rfl (m:=41) rfl (rs:=[.tmp 4]) rfl (l:=(kI a b [])) rfl ?_
 refine sh fol (kI a b []) ?_
 refine sq ?_
 refine sh fol (kI a b [(10,.bool (!decide ((a.length:Int)=(b.length:Int))))]) ?_
 refine ihB h (fun o h=>?_) (fun o h=>?_)
 ·refine sq ?_
  refine sh fol [(15,.bool (decide ((a.length:Int)<(b.length:Int))))] ?_
  refine ihD h (fun p h=>?_) (fun p h=>?_)
  ·refine sh fol [(4,.i (-1))] ?_
   refine Goes.ret ?_
   obtain rfl:=si h
   exact(gw2 [.i (-1)] (Ua tI))
  refine Goes.skip ?_
  refine sh fol [(4,.i 1)] ?_
  refine Goes.ret ?_
  obtain rfl:=si h
  exact(gw2 [.i 1] (Ua tI))
 refine Goes.skip ?_
 refine sq ?_
 refine sh fol (kI a b (kAl (w64 ((a.length:Int)-1)))) ?_
 refine Goes.block ?_
 obtain⟨f,g4,h⟩:=bnd h
 refine Goes.imp (Q:=fun x s'=>(x= .exit 0/\(.inl ())=f/\Sub s' (ofG 41 [],[]))\/(x= .ret/\ ∃j,(.inr j)=f/\vJ ZT [.tmp 4] (.i j) .ret s')) ?_ ?_
 ·refine Uc (fun M s=> ∃(e:Int),s=(ofG 41 (kI a b (kAl e)),[])/\qN a b M e=some f) ?_ (m:=N) ⟨_,rfl,g4⟩
  rintro M s ⟨e,rfl,g4⟩
  cases M with
  |zero=>simp only[qN]at g4;cases g4
  |succ M=>
   rw[qN]at g4
   refine sq ?_
   refine sh fol (kI a b [(5,.i e),(20,.bool (decide (e>=0)))]) ?_
   refine ihD g4 (fun q g4=>?_) (fun q g4=>?_)
   ·refine Goes.skip ?_
    refine sq (Goes.block ?_)
    refine sq ?_
    obtain⟨k,c,g4⟩:=bnd g4
    obtain⟨n,d,g4⟩:=bnd g4
    refine sq (gr fol [2,3,6,7] (kI a b [(5,.i e),(31,.bool (decide (k<n)))]) (ac (iv zw encI c) (ac (lv 0 ce3 encI c rfl) (ac (iv zw encI d) (ac (lv 0 ce3 encI d rfl) az)))) ?_)
    refine ihD g4 (fun r g4=>?_) (fun r g4=>?_)
    ·refine sh fol [(4,.i (-1))] ?_
     refine Goes.ret ?_
     obtain rfl:=si g4
     exact Or.inr (⟨rfl,_,rfl,(gw2 [.i (-1)] (Ua tI))⟩)
    refine Goes.skip ?_
    refine sq (gr fol [2,3,6,7] (kI a b [(5,.i e),(40,.bool (decide (k>n)))]) (ac (iv zw encI c) (ac (lv 0 ce3 encI c rfl) (ac (iv zw encI d) (ac (lv 0 ce3 encI d rfl) az)))) ?_)
    refine ihD g4 (fun g g4=>?_) (fun g g4=>?_)
    ·refine sh fol [(4,.i 1)] ?_
     refine Goes.ret ?_
     obtain rfl:=si g4
     exact Or.inr (⟨rfl,_,rfl,(gw2 [.i 1] (Ua tI))⟩)
    refine Goes.skip ?_
    refine gh fol (kI a b (kAl (w64 (e-1)))) ?_
    exact⟨M,(ofG 41 (kI a b (kAl (w64 (e-1)))),[]),Nat.lt_succ_self _,(Sub.refl _),_,rfl,g4⟩
   refine Goes.exit ?_
   obtain rfl:=si g4
   exact Or.inl (⟨rfl,rfl,(Sub.keep [] rfl rfl)⟩)
 rintro x s' (⟨rfl,rfl,hsub⟩|⟨rfl,t,rfl,hret⟩)
 ·try dsimp only at h
  refine Goes.sub hsub ?_
  refine sh fol [(4,.i 0)] ?_
  refine Goes.ret ?_
  obtain rfl:=si h
  exact(gw2 [.i 0] (Ua tI))
 try dsimp only at h
 obtain rfl:=si h
 exact hret
def zF (a:List Int) (d:Int):Nat->(List Int)->Int->Int->Option ((List Int)×Int)
 |0,_,_,_=>none
 |K+1,c,e,b=>
  if b>=0 then
  (idx a b).bind fun i=>
  (qbh .i64 (w64 ((w64 (e*1000000000))+i)) d).bind fun f=>
  (idx c b).bind fun j=>
  (put c b f).bind fun g=>
  (qad .i64 (w64 ((w64 (e*1000000000))+i)) d).bind fun h=>
  zF a d K g h (w64 (b-1))
  else
  some (c,e)
def vX (N:Nat) (a:List Int) (d:Int):Option ((List Int)×Int):=
 (mk 8 (a.length:Int) 0).bind fun c=>
 (zF a d N c 0 (w64 ((a.length:Int)-1))).bind fun(e,f)=>
 (vM N e).bind fun b=>
 some (b,f)
theorem qbs (N:Nat) (a:List Int) (d:Int) {res:(List Int)×Int} (h:vX N a d=some res):qc ZT (.fn 183) [vl encI a,.i d] [] (.tuple [vl encI res.1,.i res.2]) []:=by
 unfold vX at h
 refine Ub Tryz.func183 rfl rfl (m:=39) rfl (rs:=[.tmp 4,.tmp 5]) rfl (l:=(kO a [(1,.i d)])) rfl ?_
 refine sh fol (kO a [(1,.i d)]) ?_
 obtain⟨q,B,h⟩:=bnd h
 refine sq (gq fol [2] (kO a ((1,.i d)::(kP q []))) (kB q []) (ac (hs (.run [] (kw ZT 22 (.i (a.length:Int)) (.i (a.length:Int))) [] (.slice 0 0 q.length q.length 1) (kB q []) false) (qaA zw (E:=encI) (z:=0) rfl (by kernel_rfl) B rfl)) az) ?_)
 refine sh fol (kO a ((1,.i d)::(kP q [(7,.i 0)]))) ?_
 refine sq ?_
 refine sh fol (kO a ((1,.i d)::(kP q [(7,.i 0),(8,.i (w64 ((a.length:Int)-1)))]))) ?_
 refine Goes.block ?_
 obtain⟨C,g7,h⟩:=bnd h
 refine Goes.imp (Q:=fun x s'=>(x= .exit 0/\ ∃f r,(f,r)=C/\Sub s' (ofG 39 (kP f [(7,.i r)]),(kB f [])))) ?_ ?_
 ·refine Uc (fun M s=> ∃(e:List Int) (n:Int) (c:Int),s=(ofG 39 (kO a ((1,.i d)::(kP e (kAw n c)))),(kB e []))/\zF a d M e n c=some C) ?_ (m:=N) ⟨_,_,_,rfl,g7⟩
  rintro M s ⟨e,n,c,rfl,g7⟩
  cases M with
  |zero=>simp only[zF]at g7;cases g7
  |succ M=>
   rw[zF]at g7
   refine sq ?_
   refine sh fol (kO a ((1,.i d)::(kP e [(7,.i n),(8,.i c),(17,.bool (decide (c>=0)))]))) ?_
   refine ihD g7 (fun D g7=>?_) (fun D g7=>?_)
   ·refine Goes.skip ?_
    refine sq (Goes.block ?_)
    obtain⟨A,p,g7⟩:=bnd g7
    refine sq (gr fol [4,5] (kO a ((1,.i d)::(kP e (kAL c (w64 ((w64 (n*1000000000))+A)) [])))) (ac (iv zw encI p) (ac (lv 0 ce3 encI p rfl) az)) ?_)
    obtain⟨t,u,g7⟩:=bnd g7
    obtain⟨F,g,g7⟩:=bnd g7
    obtain⟨b,j,g7⟩:=bnd g7
    refine sq (gq fol [4,5,6] (kO a ((1,.i d)::(kP e (kAL c (w64 ((w64 (n*1000000000))+A)) [])))) (kB b []) (ac (hs (.done (.opt (qO ZT .quo 3 (.tmp 29) (.tmp 30) (.i (w64 ((w64 (n*1000000000))+A))) (.i d))) (.i t)) (qa0 u)) (ac (hs (.done (.opt (qf ZT 22 (.slice 0 0 e.length e.length 1) (.i c))) (.ptr 0 ((c:Int).toNat*1+0))) (vO zw g)) (ac (hs (.run [0] (qw ZT 3 (.ptr 0 ((c:Int).toNat*1+0)) (.i t)) (kB e []) .undef (kB b []) true) (yh (E:=encI) (l:=e) (y:=t) rfl (show _=some 1 by kernel_rfl) rfl g rfl rfl rfl rfl rfl j rfl)) az))) ?_)
    refine Goes.sub (show Sub (ofG 39 (kO a ((1,.i d)::(kP e (kAL c (w64 ((w64 (n*1000000000))+A)) [])))),(kB b [])) (ofG 39 (kO a ((1,.i d)::(kP b (kAL c (w64 ((w64 (n*1000000000))+A)) [])))),(kB b []))from(Sub.norm [] [some 0] rfl rfl (.keep (.same (qd encI _)) (.keep (.same nI) (.keep (.sliceE rfl (zS j)) (.keep (.same nI) (.keep (.same nI) .nil))))) (.ks .nil))) ?_
    obtain⟨o,v,g7⟩:=bnd g7
    refine gr fol [2] (kO a ((1,.i d)::(kP b (kAw o c)))) (ac (hs (.done (.opt (qO ZT .rem 3 (.tmp 33) (.tmp 34) (.i (w64 ((w64 (n*1000000000))+A))) (.i d))) (.i o)) (qap v)) az) ?_
    refine gh fol (kO a ((1,.i d)::(kP b (kAw o (w64 (c-1)))))) ?_
    exact⟨M,(ofG 39 (kO a ((1,.i d)::(kP b (kAw o (w64 (c-1)))))),(kB b [])),Nat.lt_succ_self _,(Sub.refl _),_,_,_,rfl,g7⟩
   refine Goes.exit ?_
   obtain rfl:=si g7
   exact⟨rfl,_,_,rfl,(Sub.keep [6,7] rfl rfl)⟩
 rintro x s' ⟨rfl,f,r,rfl,hsub⟩
 try dsimp only at h
 refine Goes.sub hsub ?_
 obtain⟨k,w,h⟩:=bnd h
 refine sq (gq fol [1] ((4,vl encI k)::(kAl r)) (kAR f) (ac (hs (.callF 158 [.slice 0 0 f.length f.length 1] (kB f []) [0] [vl encI f] (vl encI k)) (qam (FzL.cons (Fz.sl (E:=encI) rfl rfl (nl rfl)) FzL.nil) (yM N f w) (qy encI _ (nl rfl)))) az) ?_)
 refine Goes.sub (show Sub (ofG 39 ((4,vl encI k)::(kAl r)),(kAR f)) (ofG 39 ((4,vl encI k)::(kAl r)),[])from(Sub.norm [] [] rfl rfl (.keep (.same (qd encI _)) (.keep (.same nI) .nil)) .nil)) ?_
 refine Goes.ret ?_
 obtain rfl:=si h
 exact(gw2 [vl encI k,.i r] (FzW.tuple (qg.cons (Ua (qy encI _ (nl rfl))) (qg.cons (Ua tI) qg.nil))))
def jG (u:List Int) (v:List Int) (j:Int):Nat->Int->Int->Option (Int⊕Int)
 |0,_,_=>none
 |K+1,c,a=>
  (if a>=1000000000 then
  some true
  else
  (idx v (w64 ((v.length:Int)-2))).bind fun d=>
  (idx u (w64 ((w64 (j+(v.length:Int)))-2))).bind fun e=>
  some (decide ((w64 (a*d))>(w64 ((w64 (c*1000000000))+e)))):Option Bool).bind fun f=>
  if f=true then
  (idx v (w64 ((v.length:Int)-1))).bind fun b=>
  if(w64 (c+b))>=1000000000 then
  some (.inr (w64 (a-1)))
  else
  jG u v j K (w64 (c+b)) (w64 (a-1))
  else
  some (.inl a)
def yV (N:Nat) (u:List Int) (v:List Int) (j:Int):Option Int:=
 (idx u (w64 (j+(v.length:Int)))).bind fun b=>
 (idx u (w64 ((w64 (j+(v.length:Int)))-1))).bind fun c=>
 (idx v (w64 ((v.length:Int)-1))).bind fun d=>
 (qbh .i64 (w64 ((w64 (b*1000000000))+c)) d).bind fun e=>
 (qad .i64 (w64 ((w64 (b*1000000000))+c)) d).bind fun f=>
 (jG u v j N f e).bind (fun
 |(.inl g)=>
 some g
 |(.inr a)=>
 some a)
theorem qgd (N:Nat) (u:List Int) (v:List Int) (j:Int) {res:Int} (h:yV N u v j=some res):qc ZT (.fn 184) [vl encI u,vl encI v,.i j] [] (.i res) []:=by
 unfold yV at h
 refine Ub Tryz.func184 rfl rfl (m:=77) rfl (rs:=[.tmp 6]) rfl (l:=(kI u v [(2,.i j)])) rfl ?_
 refine sh fol (kI u v [(2,.i j)]) ?_
 refine sh fol (kI u v [(2,.i j),(7,.i (v.length:Int))]) ?_
 obtain⟨y,n,h⟩:=bnd h
 obtain⟨z,o,h⟩:=bnd h
 refine sq (gr fol [4,5,12,13] (kI u v ((2,.i j)::(kAw (v.length:Int) (w64 ((w64 (y*1000000000))+z))))) (ac (iv zw encI n) (ac (lv 0 ce3 encI n rfl) (ac (iv zw encI o) (ac (lv 0 ce3 encI o rfl) az)))) ?_)
 obtain⟨G,b,h⟩:=bnd h
 obtain⟨H,q,h⟩:=bnd h
 obtain⟨I,r,h⟩:=bnd h
 refine sq (gr fol [4,5,6,11,12,13] (kI u v (kAV j (v.length:Int) H I [])) (ac (iv zw encI b) (ac (lv 0 ce3 encI b rfl) (ac (hs (.done (.opt (qO ZT .quo 3 (.tmp 28) (.tmp 33) (.i (w64 ((w64 (y*1000000000))+z))) (.i G))) (.i H)) (qa0 q)) (ac (iv zw encI b) (ac (lv 0 ce3 encI b rfl) (ac (hs (.done (.opt (qO ZT .rem 3 (.tmp 35) (.tmp 40) (.i (w64 ((w64 (y*1000000000))+z))) (.i G))) (.i I)) (qap r)) az)))))) ?_)
 refine sq (Goes.block ?_)
 obtain⟨A,g9,h⟩:=bnd h
 refine Goes.imp (Q:=fun x s'=>(x= .exit 0/\ ∃t,(.inl t)=A/\Sub s' (ofG 77 [(9,.i t)],[]))\/(x= .ret/\ ∃w,(.inr w)=A/\vJ ZT [.tmp 6] (.i w) .ret s')) ?_ ?_
 ·refine Uc (fun M s=> ∃(d:Int) (c:Int),s=(ofG 77 (kI u v (kAV j (v.length:Int) c d [])),[])/\jG u v j M d c=some A) ?_ (m:=N) ⟨_,_,rfl,g9⟩
  rintro M s ⟨d,c,rfl,g9⟩
  cases M with
  |zero=>simp only[jG]at g9;cases g9
  |succ M=>
   rw[jG]at g9
   refine sq ?_
   refine sq ?_
   obtain⟨B,a,g9⟩:=bnd g9
   refine Goes.cut (s':=(ofG 77 (kI u v (kAV j (v.length:Int) c d [(63,.bool B)])),[])) ?_ ?_
   ·rcases wyD a with⟨p,a⟩|⟨p,a⟩
    ·obtain rfl:=si a
     exact tr fol [2] (kI u v (kAV j (v.length:Int) c d [(63,.bool true)])) (ac (gw p) az)
    obtain⟨C,e,a⟩:=bnd a
    obtain⟨D,f,a⟩:=bnd a
    obtain rfl:=si a
    exact tr fol [2,7,8,17,18] (kI u v (kAV j (v.length:Int) c d [(63,.bool (decide ((w64 (c*C))>(w64 ((w64 (d*1000000000))+D)))))])) (ac (gw p) (ac (iv zw encI e) (ac (lv 0 ce3 encI e rfl) (ac (iv zw encI f) (ac (lv 0 ce3 encI f rfl) az)))))
   refine ihB g9 (fun E g9=>?_) (fun E g9=>?_)
   ·refine Goes.skip ?_
    refine Goes.block ?_
    refine sh fol (kI u v (kAV j (v.length:Int) (w64 (c-1)) d [])) ?_
    obtain⟨k,g,g9⟩:=bnd g9
    refine sq (gr fol [4,5] (kI u v (kAV j (v.length:Int) (w64 (c-1)) (w64 (d+k)) [])) (ac (iv zw encI g) (ac (lv 0 ce3 encI g rfl) az)) ?_)
    refine sh fol (kI u v (kAV j (v.length:Int) (w64 (c-1)) (w64 (d+k)) [(74,.bool (decide ((w64 (d+k))>=1000000000)))])) ?_
    refine ihD g9 (fun F g9=>?_) (fun F g9=>?_)
    ·refine sh fol [(6,.i (w64 (c-1)))] ?_
     refine Goes.ret ?_
     obtain rfl:=si g9
     exact Or.inr (⟨rfl,_,rfl,(gw2 [.i (w64 (c-1))] (Ua tI))⟩)
    refine Goes.skip ?_
    exact⟨M,(ofG 77 (kI u v (kAV j (v.length:Int) (w64 (c-1)) (w64 (d+k)) [])),[]),Nat.lt_succ_self _,(Sub.keep [0,1,2,7,9,10] rfl rfl),_,_,rfl,g9⟩
   refine Goes.exit ?_
   obtain rfl:=si g9
   exact Or.inl (⟨rfl,_,rfl,(Sub.keep [9] rfl rfl)⟩)
 rintro x s' (⟨rfl,t,rfl,hsub⟩|⟨rfl,J,rfl,hret⟩)
 ·try dsimp only at h
  refine Goes.sub hsub ?_
  refine sh fol [(6,.i t)] ?_
  refine Goes.ret ?_
  obtain rfl:=si h
  exact(gw2 [.i t] (Ua tI))
 try dsimp only at h
 obtain rfl:=si h
 exact hret
def zM (a:List Int):Nat->(List Int)->Option (List Int)
 |0,_=>none
 |K+1,b=>
  if(b.length:Int)<(w64 ((a.length:Int)+1))then
  (app 8 b [0]).bind fun c=>
  zM a K c
  else
  some b
def qK (h:List Int) (e:Int) (a:Int):Nat->(List Int)->Int->Int->Option ((List Int)×Int)
 |0,_,_,_=>none
 |K+1,f,b,c=>
  if c<(h.length:Int)then
  (idx h c).bind fun d=>
  (idx f (w64 (c+e))).bind fun g=>
  ((if(w64 (g-((w64 ((w64 (a*d))+b)).tmod 1000000000)))<0 then
  some (w64 ((w64 ((w64 ((w64 (a*d))+b)).tdiv 1000000000))+1),w64 ((w64 (g-((w64 ((w64 (a*d))+b)).tmod 1000000000)))+1000000000))
  else
  some (w64 ((w64 ((w64 (a*d))+b)).tdiv 1000000000),w64 (g-((w64 ((w64 (a*d))+b)).tmod 1000000000))):Option (Int×Int))).bind fun(i,j)=>
  (put f (w64 (c+e)) j).bind fun k=>
  qK h e a K k i (w64 (c+1))
  else
  some (f,b)
def qR (h:List Int) (b:Int) (e:Int):Nat->(List Int)->Int->Int->Option ((List Int)×Int×Int)
 |0,_,_,_=>none
 |K+1,c,d,a=>
  if a<(h.length:Int)then
  (idx c (w64 (a+b))).bind fun f=>
  (idx h a).bind fun g=>
  (put c (w64 (a+b)) ((w64 ((w64 (f+g))+d)).tmod 1000000000)).bind fun i=>
  qR h b e K i (w64 ((w64 ((w64 (f+g))+d)).tdiv 1000000000)) (w64 (a+1))
  else
  some (c,w64 (e-1),d)
def zl (N:Nat) (b:List Int):Nat->(List Int)->(List Int)->Int->Option ((List Int)×(List Int))
 |0,_,_,_=>none
 |K+1,c,d,a=>
  if a>=0 then
  (yV N c b a).bind fun e=>
  (qK b a e N c 0 0).bind fun(g,i)=>
  (idx g (w64 (a+(b.length:Int)))).bind fun j=>
  (put g (w64 (a+(b.length:Int))) (w64 (j-i))).bind fun f=>
  (idx f (w64 (a+(b.length:Int)))).bind fun k=>
  ((if k<0 then
  (qR b a e N f 0 0).bind fun(h,l,m)=>
  (idx h (w64 (a+(b.length:Int)))).bind fun n=>
  (put h (w64 (a+(b.length:Int))) (w64 (n+m))).bind fun o=>
  some (o,l)
  else
  some (f,e):Option ((List Int)×Int))).bind fun(p,q)=>
  (idx d a).bind fun s=>
  (put d a q).bind fun r=>
  zl N b K p r (w64 (a-1))
  else
  some (c,d)
def zY (N:Nat) (a:List Int) (b:List Int):Option ((List Int)×(List Int)):=
 (jP N a b).bind fun q=>
 if q<0 then
 some ([],a)
 else
 if(b.length:Int)=1 then
 (idx b 0).bind fun r=>
 (vX N a r).bind fun p=>
 (vM N ([p.2]:List Int)).bind fun s=>
 some (p.1,s)
 else
 (idx b (w64 ((b.length:Int)-1))).bind fun t=>
 (qbh .i64 1000000000 (w64 (t+1))).bind fun e=>
 (jJ N b ([e]:List Int)).bind fun d=>
 (jJ N a ([e]:List Int)).bind fun f=>
 (app 8 ([]:List Int) f).bind fun g=>
 (zM a N g).bind fun c=>
 (mk 8 (w64 ((c.length:Int)-(d.length:Int))) 0).bind fun h=>
 (zl N d N c h (w64 ((w64 ((c.length:Int)-(d.length:Int)))-1))).bind fun(i,j)=>
 (cut i 0 (d.length:Int)).bind fun k=>
 (vM N k).bind fun l=>
 (idx ([e]:List Int) 0).bind fun m=>
 (vX N l m).bind fun n=>
 (vM N j).bind fun o=>
 some (o,n.1)
theorem xO (N:Nat) (a:List Int) (b:List Int) {res:(List Int)×(List Int)} (h:zY N a b=some res):qc ZT (.fn 156) (kA4 a b) [] (.tuple (kA4 res.1 res.2)) []:=by
 unfold zY at h
 refine Ub Tryz.func156 rfl rfl (m:=206) rfl (rs:=[.tmp 4,.tmp 5]) rfl (l:=(kI a b [])) rfl ?_
 refine sh fol (kI a b []) ?_
 refine sq ?_
 obtain⟨r1,e_r1,h⟩:=bnd h
 refine sq (gr fol [2] (kI a b [(27,.bool (decide (r1<0)))]) (ac (cv (qb7 N a b e_r1)) az) ?_)
 refine ihD h (fun c2 h=>?_) (fun c2 h=>?_)
 ·refine sh fol [(4,.nilslice),(5,vl encI a)] ?_
  refine Goes.ret ?_
  obtain rfl:=si h
  exact(gw2 [.nilslice,vl encI a] (FzW.tuple (qg.cons (FzW.nilv (E:=encI)) (qg.cons (Ua (qy encI _ (nl rfl))) qg.nil))))
 refine Goes.skip ?_
 refine sq ?_
 refine sh fol (kI a b [(31,.bool (decide ((b.length:Int)=1)))]) ?_
 refine ihD h (fun c3 h=>?_) (fun c3 h=>?_)
 ·obtain⟨x4,e_x4,h⟩:=bnd h
  obtain⟨r5,e_r5,h⟩:=bnd h
  refine sq (gr fol [2,3,4] [(6,vl encI r5.1),(7,.i r5.2)] (ac (iv zw encI e_x4) (ac (lv 0 ce3 encI e_x4 rfl) (ac (cv (qbs N a x4 e_r5)) az))) ?_)
  obtain⟨r6,e_r6,h⟩:=bnd h
  refine sq (gq fol [3] (kAx r5.1 r6) [.frozen [.i r5.2]] (ac (hs (.callF 158 [.slice 0 0 1 1 1] [.cells [.i r5.2]] [0] [vl encI ([r5.2]:List Int)] (vl encI r6)) (qam (FzL.cons (Fz.lit rfl rfl (Um (AllST.cons tI AllST.nil))) FzL.nil) (yM N ([r5.2]:List Int) e_r6) (qy encI _ (nl rfl)))) az) ?_)
  refine Goes.sub (show Sub (ofG 206 (kAx r5.1 r6),[.frozen [.i r5.2]]) (ofG 206 (kAx r5.1 r6),[])from(Sub.norm [] [] rfl rfl (.keep (.same (qd encI _)) (.keep (.same (qd encI _)) .nil)) .nil)) ?_
  refine Goes.ret ?_
  obtain rfl:=si h
  exact(gw2 (kA4 r5.1 r6) (FzW.tuple (qg.cons (Ua (qy encI _ (nl rfl))) (qg.cons (Ua (qy encI _ (nl rfl))) qg.nil))))
 refine Goes.skip ?_
 obtain⟨x7,e_x7,h⟩:=bnd h
 obtain⟨g,e_q8,h⟩:=bnd h
 refine sq (gq fol [4,5,7] (kI a b [(8,.slice 0 0 1 1 1)]) [.cells [.i g]] (ac (iv zw encI e_x7) (ac (lv 0 ce3 encI e_x7 rfl) (ac (hs (.done (.opt (qO ZT .quo 3 (.const (.int .i64 1000000000)) (.tmp 50) (.i 1000000000) (.i (w64 (x7+1))))) (.i g)) (qa0 e_q8)) az))) ?_)
 obtain⟨e,e_r9,h⟩:=bnd h
 refine sq (gq fol [2] (kO a [(8,.slice 0 0 1 1 1),(9,vl encI e)]) [.frozen [.i g]] (ac (hs (.callF 157 [vl encI b,.slice 0 0 1 1 1] [.cells [.i g]] [0] (kA4 b ([g]:List Int)) (vl encI e)) (qam (FzL.cons (Fz.still (qy encI _ (nl rfl))) (FzL.cons (Fz.lit rfl rfl (Um (AllST.cons tI AllST.nil))) FzL.nil)) (xJ N b ([g]:List Int) e_r9) (qy encI _ (nl rfl)))) az) ?_)
 refine Goes.sub (show Sub (ofG 206 (kO a [(8,.slice 0 0 1 1 1),(9,vl encI e)]),[.frozen [.i g]]) (ofG 206 (kO a [(8,vl encI ([g]:List Int)),(9,vl encI e)]),[])from(Sub.norm [0] [] rfl rfl (.keep (.same (qd encI _)) (.keep (.frz (Fz.litF rfl rfl (Um (AllST.cons tI AllST.nil))) (qd encI _)) (.keep (.same (qd encI _)) .nil))) .nil)) ?_
 refine sh fol (kO a ((8,vl encI ([g]:List Int))::(kA8 e (e.length:Int) []))) ?_
 obtain⟨r10,e_r10,h⟩:=bnd h
 obtain⟨Y,e_l11,h⟩:=bnd h
 refine sq (gq fol [3,4] (kO a ((8,vl encI ([g]:List Int))::(kA8 e (e.length:Int) [(11,.oslice 1 Y.length 1)]))) (.dead::(kB Y [])) (ac (cv (xJ N a ([g]:List Int) e_r10)) (ac (hs (.run [0] (vP ZT [22,22] (.slice 0 0 0 0 1) (vl encI r10)) [.cells []] (.oslice 1 Y.length 1) (.dead::(kB Y [])) true) (qaB zw (E:=encI) rfl (src_v (E:=encI) rfl _) (dst_z (E:=encI) rfl rfl rfl e_l11 rfl))) az)) ?_)
 refine sq (Goes.block ?_)
 obtain⟨r14,g14,h⟩:=bnd h
 refine Goes.imp (Q:=fun x s'=>(x= .exit 0/\ ∃A,A=r14/\Sub s' (ofG 206 (kAJ ([g]:List Int) e (e.length:Int) A []),(kB A [])))) ?_ ?_
 ·refine Goes.sub (s':=(ofG 206 (kO a (kAJ ([g]:List Int) e (e.length:Int) Y [])),(kB Y []))) (Sub.norm [] [some 1] rfl rfl (.keep (.same (qd encI _)) (.keep (.same (qd encI _)) (.keep (.same (qd encI _)) (.keep (.same nI) (.keep (.oslice rfl) .nil))))) (.ks .nil)) ?_
  refine Uc (fun M s=> ∃(F:List Int),s=(ofG 206 (kO a (kAJ ([g]:List Int) e (e.length:Int) F [])),(kB F []))/\zM a M F=some r14) ?_ (m:=N) ⟨_,rfl,g14⟩
  rintro M s ⟨F,rfl,g14⟩
  cases M with
  |zero=>simp only[zM]at g14;cases g14
  |succ M=>
   rw[zM]at g14
   refine sq ?_
   refine sh fol (kO a (kAJ ([g]:List Int) e (e.length:Int) F [(68,.bool (decide ((F.length:Int)<(w64 ((a.length:Int)+1)))))])) ?_
   refine ihD g14 (fun c15 g14=>?_) (fun c15 g14=>?_)
   ·refine Goes.skip ?_
    refine Goes.block ?_
    obtain⟨Z,e_l16,g14⟩:=bnd g14
    refine gq fol [2] (kO a ((8,vl encI ([g]:List Int))::(kA8 e (e.length:Int) [(11,.oslice 2 Z.length 1)]))) (.dead:: .cells [.i 0]::(kB Z [])) (ac (hs (.run [0,1] (vP ZT [22,22] (.oslice 0 F.length 1) (.slice 1 0 1 1 1)) (kB F [.cells [.i 0]]) (.oslice 2 Z.length 1) (.dead:: .cells [.i 0]::(kB Z [])) true) (qaB zw (E:=encI) rfl (qd4 (E:=encI) (ys:=[0]) rfl rfl rfl rfl) (qnQ (E:=encI) (l:=F) rfl rfl rfl e_l16 rfl))) az) ?_
    exact⟨M,(ofG 206 (kO a (kAJ ([g]:List Int) e (e.length:Int) Z [])),(kB Z [])),Nat.lt_succ_self _,(Sub.norm [] [some 2] rfl rfl (.keep (.same (qd encI _)) (.keep (.same (qd encI _)) (.keep (.same (qd encI _)) (.keep (.same nI) (.keep (.oslice rfl) .nil))))) (.ks .nil)),_,rfl,g14⟩
   refine Goes.exit ?_
   obtain rfl:=si g14
   exact⟨rfl,_,rfl,(Sub.keep [8,9,10,11] rfl rfl)⟩
 rintro x s' ⟨rfl,A,rfl,hsub⟩
 refine Goes.sub hsub ?_
 obtain⟨V,e_l17,h⟩:=bnd h
 refine sq (gq fol [4] (kAJ ([g]:List Int) e (e.length:Int) A [(12,.slice 1 0 V.length V.length 1)]) (kB A (kB V [])) (ac (hs (.run [] (kw ZT 22 (.i (w64 ((A.length:Int)-(e.length:Int)))) (.i (w64 ((A.length:Int)-(e.length:Int))))) (kB A []) (.slice 1 0 V.length V.length 1) (kB A (kB V [])) false) (qaA zw (E:=encI) (z:=0) rfl (by kernel_rfl) e_l17 rfl)) az) ?_)
 refine sq ?_
 refine sh fol (kA ([g]:List Int) e (e.length:Int) A V (w64 ((w64 ((A.length:Int)-(e.length:Int)))-1)) []) ?_
 refine Goes.block ?_
 obtain⟨r23,g23,h⟩:=bnd h
 refine Goes.imp (Q:=fun x s'=>(x= .exit 2/\ ∃a0 o,(a0,o)=r23/\Sub s' (ofG 206 [(8,vl encI ([g]:List Int)),(10,.i (e.length:Int)),(11,.oslice 0 a0.length 1),(12,.slice 1 0 o.length o.length 1)],(kB a0 (kB o []))))) ?_ ?_
 ·refine Uc (fun M s=> ∃(B:List Int) (c:List Int) (d:Int),s=(ofG 206 (kA ([g]:List Int) e (e.length:Int) B c d []),(kB B (kB c [])))/\zl N e M B c d=some r23) ?_ (m:=N) ⟨_,_,_,rfl,g23⟩
  rintro M s ⟨B,c,d,rfl,g23⟩
  cases M with
  |zero=>simp only[zl]at g23;cases g23
  |succ M=>
   rw[zl]at g23
   refine sq ?_
   refine sh fol (kA ([g]:List Int) e (e.length:Int) B c d [(83,.bool (decide (d>=0)))]) ?_
   refine ihD g23 (fun c24 g23=>?_) (fun c24 g23=>?_)
   ·refine Goes.skip ?_
    refine sq (Goes.block ?_)
    obtain⟨f,e_r25,g23⟩:=bnd g23
    refine sq (gr fol [3] (kA ([g]:List Int) e (e.length:Int) B c d [(14,.i f)]) (ac (hs (.call 184 [.oslice 0 B.length 1,vl encI e,.i d] (kB B (kB c [])) [0] [vl encI B,vl encI e,.i d] (.i f)) (qn0 (FzL.cons (Fz.os (E:=encI) rfl rfl (nl rfl)) (FzL.cons (Fz.still (qy encI _ (nl rfl))) (FzL.cons (Fz.still tI) FzL.nil))) (qgd N B e d e_r25) tI rfl)) az) ?_)
    refine sh fol (kA ([g]:List Int) e (e.length:Int) B c d [(14,.i f),(15,.i 0)]) ?_
    refine sq ?_
    refine sh fol (kA ([g]:List Int) e (e.length:Int) B c d [(14,.i f),(15,.i 0),(16,.i 0)]) ?_
    refine Goes.block ?_
    obtain⟨r31,g31,g23⟩:=bnd g23
    refine Goes.imp (Q:=fun x s'=>(x= .exit 4/\ ∃t n30,(t,n30)=r31/\Sub s' (ofG 206 (kA ([g]:List Int) e (e.length:Int) t c d [(14,.i f),(15,.i n30)]),(kB t (kB c []))))) ?_ ?_
    ·refine Uc (fun M s=> ∃(k:List Int) (p:Int) (j:Int),s=(ofG 206 (kA ([g]:List Int) e (e.length:Int) k c d (kAP f p j [])),(kB k (kB c [])))/\qK e d f M k p j=some r31) ?_ (m:=N) ⟨_,_,_,rfl,g31⟩
     rintro M s ⟨k,p,j,rfl,g31⟩
     cases M with
     |zero=>simp only[qK]at g31;cases g31
     |succ M=>
      rw[qK]at g31
      refine sq ?_
      refine sh fol (kA ([g]:List Int) e (e.length:Int) k c d (kAP f p j [(92,.bool (decide (j<(e.length:Int))))])) ?_
      refine ihD g31 (fun c32 g31=>?_) (fun c32 g31=>?_)
      ·refine Goes.skip ?_
       refine sq (Goes.block ?_)
       obtain⟨C,e_x33,g31⟩:=bnd g31
       refine sq (gr fol [3,4] (kA ([g]:List Int) e (e.length:Int) k c d [(14,.i f),(16,.i j),(17,.i (w64 ((w64 (f*C))+p)))]) (ac (iv zw encI e_x33) (ac (lv 0 ce3 encI e_x33 rfl) az)) ?_)
       obtain⟨X,G,g31⟩:=bnd g31
       refine sq (gr fol [4,5] (kA ([g]:List Int) e (e.length:Int) k c d [(14,.i f),(16,.i j),(17,.i (w64 ((w64 (f*C))+p))),(18,.i (w64 (X-((w64 ((w64 (f*C))+p)).tmod 1000000000))))]) (ac (hs (.done (.opt (qf ZT 22 (.oslice 0 k.length 1) (.i (w64 (j+d))))) (.ptr 0 ((w64 (j+d):Int).toNat*1+0))) (qd3 zw G)) (ac (hs (.run [0] (zC ZT 3 (.ptr 0 ((w64 (j+d):Int).toNat*1+0))) (kB k (kB c [])) (.i X) (kB k (kB c [])) false) (qaF ce3 (E:=encI) (l:=k) rfl rfl G (nl rfl) rfl)) az)) ?_)
       refine sh fol (kA ([g]:List Int) e (e.length:Int) k c d (kAP f (w64 ((w64 ((w64 (f*C))+p)).tdiv 1000000000)) j [(18,.i (w64 (X-((w64 ((w64 (f*C))+p)).tmod 1000000000))))])) ?_
       refine sq ?_
       refine sh fol (kA ([g]:List Int) e (e.length:Int) k c d (kAP f (w64 ((w64 ((w64 (f*C))+p)).tdiv 1000000000)) j [(18,.i (w64 (X-((w64 ((w64 (f*C))+p)).tmod 1000000000)))),(115,.bool (decide ((w64 (X-((w64 ((w64 (f*C))+p)).tmod 1000000000)))<0)))])) ?_
       obtain⟨r37,g37,g31⟩:=bnd g31
       refine Goes.imp (Q:=fun x s'=>(x= .normal/\ ∃O n36,(O,n36)=r37/\Sub s' (ofG 206 (kA ([g]:List Int) e (e.length:Int) k c d (kAP f O j [(18,.i n36)])),(kB k (kB c []))))) ?_ ?_
       ·refine ihD g37 (fun c38 g37=>?_) (fun c38 g37=>?_)
        ·refine sh fol (kA ([g]:List Int) e (e.length:Int) k c d (kAP f (w64 ((w64 ((w64 (f*C))+p)).tdiv 1000000000)) j [(18,.i (w64 ((w64 (X-((w64 ((w64 (f*C))+p)).tmod 1000000000)))+1000000000)))])) ?_
         refine gh fol (kA ([g]:List Int) e (e.length:Int) k c d (kAP f (w64 ((w64 ((w64 ((w64 (f*C))+p)).tdiv 1000000000))+1)) j [(18,.i (w64 ((w64 (X-((w64 ((w64 (f*C))+p)).tmod 1000000000)))+1000000000)))])) ?_
         obtain rfl:=si g37
         exact⟨rfl,_,_,rfl,(Sub.refl _)⟩
        refine Goes.skip ?_
        obtain rfl:=si g37
        exact⟨rfl,_,_,rfl,(Sub.keep [8,9,10,11,12,13,14,15,16,18] rfl rfl)⟩
       rintro x s' ⟨rfl,O,n36,rfl,hsub⟩
       try dsimp only at g31
       refine Goes.sub hsub ?_
       obtain⟨P,e_l39,g31⟩:=bnd g31
       refine gq fol [5,6] (kA ([g]:List Int) e (e.length:Int) k c d (kAP f O j [])) (kB P (kB c [])) (ac (hs (.done (.opt (qf ZT 22 (.oslice 0 k.length 1) (.i (w64 (j+d))))) (.ptr 0 ((w64 (j+d):Int).toNat*1+0))) (qd3 zw G)) (ac (hs (.run [0] (qw ZT 3 (.ptr 0 ((w64 (j+d):Int).toNat*1+0)) (.i n36)) (kB k (kB c [])) .undef (kB P (kB c [])) true) (yh (E:=encI) (l:=k) (y:=n36) rfl (show _=some 1 by kernel_rfl) rfl G rfl rfl rfl rfl rfl e_l39 rfl)) az)) ?_
       refine Goes.sub (show Sub (ofG 206 (kA ([g]:List Int) e (e.length:Int) k c d (kAP f O j [])),(kB P (kB c []))) (ofG 206 (kA ([g]:List Int) e (e.length:Int) P c d (kAP f O j [])),(kB P (kB c [])))from(Sub.norm [] [some 0,some 1] rfl rfl (.keep (.same (qd encI _)) (.keep (.same (qd encI _)) (.keep (.same nI) (.keep (.osliceE rfl (zS e_l39)) (.keep (.slice rfl) (.keep (.same nI) (.keep (.same nI) (.keep (.same nI) (.keep (.same nI) .nil))))))))) (.ks (.ks .nil)))) ?_
       refine gh fol (kA ([g]:List Int) e (e.length:Int) P c d (kAP f O (w64 (j+1)) [])) ?_
       exact⟨M,(ofG 206 (kA ([g]:List Int) e (e.length:Int) P c d (kAP f O (w64 (j+1)) [])),(kB P (kB c []))),Nat.lt_succ_self _,(Sub.refl _),_,_,_,rfl,g31⟩
      refine Goes.exit ?_
      obtain rfl:=si g31
      exact⟨rfl,_,_,rfl,(Sub.keep [8,9,10,11,12,13,14,15] rfl rfl)⟩
    rintro x s' ⟨rfl,t,n30,rfl,hsub⟩
    try dsimp only at g23
    refine Goes.sub hsub ?_
    obtain⟨x40,H,g23⟩:=bnd g23
    obtain⟨u,e_l41,g23⟩:=bnd g23
    refine sq (gq fol [8,9,12,13] (kA ([g]:List Int) e (e.length:Int) t c d [(14,.i f)]) (kB u (kB c [])) (ac (hs (.done (.opt (qf ZT 22 (.oslice 0 t.length 1) (.i (w64 (d+(e.length:Int)))))) (.ptr 0 ((w64 (d+(e.length:Int)):Int).toNat*1+0))) (qd3 zw H)) (ac (hs (.run [0] (zC ZT 3 (.ptr 0 ((w64 (d+(e.length:Int)):Int).toNat*1+0))) (kB t (kB c [])) (.i x40) (kB t (kB c [])) false) (qaF ce3 (E:=encI) (l:=t) rfl rfl H (nl rfl) rfl)) (ac (hs (.done (.opt (qf ZT 22 (.oslice 0 t.length 1) (.i (w64 (d+(e.length:Int)))))) (.ptr 0 ((w64 (d+(e.length:Int)):Int).toNat*1+0))) (qd3 zw H)) (ac (hs (.run [0] (qw ZT 3 (.ptr 0 ((w64 (d+(e.length:Int)):Int).toNat*1+0)) (.i (w64 (x40-n30)))) (kB t (kB c [])) .undef (kB u (kB c [])) true) (yh (E:=encI) (l:=t) (y:=w64 (x40-n30)) rfl (show _=some 1 by kernel_rfl) rfl H rfl rfl rfl rfl rfl e_l41 rfl)) az)))) ?_)
    refine Goes.sub (show Sub (ofG 206 (kA ([g]:List Int) e (e.length:Int) t c d [(14,.i f)]),(kB u (kB c []))) (ofG 206 (kA ([g]:List Int) e (e.length:Int) u c d [(14,.i f)]),(kB u (kB c [])))from(Sub.norm [] [some 0,some 1] rfl rfl (.keep (.same (qd encI _)) (.keep (.same (qd encI _)) (.keep (.same nI) (.keep (.osliceE rfl (zS e_l41)) (.keep (.slice rfl) (.keep (.same nI) (.keep (.same nI) .nil))))))) (.ks (.ks .nil)))) ?_
    refine sq ?_
    obtain⟨x42,e_x42,g23⟩:=bnd g23
    refine sq (gr fol [4,5] (kA ([g]:List Int) e (e.length:Int) u c d [(14,.i f),(145,.bool (decide (x42<0)))]) (ac (hs (.done (.opt (qf ZT 22 (.oslice 0 u.length 1) (.i (w64 (d+(e.length:Int)))))) (.ptr 0 ((w64 (d+(e.length:Int)):Int).toNat*1+0))) (qd3 zw e_x42)) (ac (hs (.run [0] (zC ZT 3 (.ptr 0 ((w64 (d+(e.length:Int)):Int).toNat*1+0))) (kB u (kB c [])) (.i x42) (kB u (kB c [])) false) (qaF ce3 (E:=encI) (l:=u) rfl rfl e_x42 (nl rfl) rfl)) az)) ?_)
    obtain⟨r45,g45,g23⟩:=bnd g23
    refine Goes.imp (Q:=fun x s'=>(x= .normal/\ ∃q n44,(q,n44)=r45/\Sub s' (ofG 206 (kA ([g]:List Int) e (e.length:Int) q c d [(14,.i n44)]),(kB q (kB c []))))) ?_ ?_
    ·refine ihD g45 (fun c46 g45=>?_) (fun c46 g45=>?_)
     ·refine sh fol (kA ([g]:List Int) e (e.length:Int) u c d [(14,.i (w64 (f-1)))]) ?_
      refine sh fol (kA ([g]:List Int) e (e.length:Int) u c d [(14,.i (w64 (f-1))),(19,.i 0)]) ?_
      refine sq ?_
      refine sh fol (kA ([g]:List Int) e (e.length:Int) u c d [(14,.i (w64 (f-1))),(19,.i 0),(20,.i 0)]) ?_
      refine Goes.block ?_
      obtain⟨r53,g53,g45⟩:=bnd g45
      refine Goes.imp (Q:=fun x s'=>(x= .exit 6/\ ∃v a1 n52,(v,a1,n52)=r53/\Sub s' (ofG 206 (kA ([g]:List Int) e (e.length:Int) v c d [(14,.i a1),(19,.i n52)]),(kB v (kB c []))))) ?_ ?_
      ·refine Uc (fun M s=> ∃(r:List Int) (w:Int) (n:Int),s=(ofG 206 (kA ([g]:List Int) e (e.length:Int) r c d [(14,.i (w64 (f-1))),(19,.i w),(20,.i n)]),(kB r (kB c [])))/\qR e d f M r w n=some r53) ?_ (m:=N) ⟨_,_,_,rfl,g53⟩
       rintro M s ⟨r,w,n,rfl,g53⟩
       cases M with
       |zero=>simp only[qR]at g53;cases g53
       |succ M=>
        rw[qR]at g53
        refine sq ?_
        refine sh fol (kA ([g]:List Int) e (e.length:Int) r c d [(14,.i (w64 (f-1))),(19,.i w),(20,.i n),(150,.bool (decide (n<(e.length:Int))))]) ?_
        refine ihD g53 (fun c54 g53=>?_) (fun c54 g53=>?_)
        ·refine Goes.skip ?_
         refine sq (Goes.block ?_)
         obtain⟨D,I,g53⟩:=bnd g53
         obtain⟨J,e_x56,g53⟩:=bnd g53
         refine sq (gr fol [4,5,8,9] (kA ([g]:List Int) e (e.length:Int) r c d [(14,.i (w64 (f-1))),(20,.i n),(21,.i (w64 ((w64 (D+J))+w)))]) (ac (hs (.done (.opt (qf ZT 22 (.oslice 0 r.length 1) (.i (w64 (n+d))))) (.ptr 0 ((w64 (n+d):Int).toNat*1+0))) (qd3 zw I)) (ac (hs (.run [0] (zC ZT 3 (.ptr 0 ((w64 (n+d):Int).toNat*1+0))) (kB r (kB c [])) (.i D) (kB r (kB c [])) false) (qaF ce3 (E:=encI) (l:=r) rfl rfl I (nl rfl) rfl)) (ac (iv zw encI e_x56) (ac (lv 0 ce3 encI e_x56 rfl) az)))) ?_)
         obtain⟨K,e_l57,g53⟩:=bnd g53
         refine sq (gq fol [6,7] (kA ([g]:List Int) e (e.length:Int) r c d [(14,.i (w64 (f-1))),(20,.i n),(21,.i (w64 ((w64 (D+J))+w)))]) (kB K (kB c [])) (ac (hs (.done (.opt (qf ZT 22 (.oslice 0 r.length 1) (.i (w64 (n+d))))) (.ptr 0 ((w64 (n+d):Int).toNat*1+0))) (qd3 zw I)) (ac (hs (.run [0] (qw ZT 3 (.ptr 0 ((w64 (n+d):Int).toNat*1+0)) (.i ((w64 ((w64 (D+J))+w)).tmod 1000000000))) (kB r (kB c [])) .undef (kB K (kB c [])) true) (yh (E:=encI) (l:=r) (y:=(w64 ((w64 (D+J))+w)).tmod 1000000000) rfl (show _=some 1 by kernel_rfl) rfl I rfl rfl rfl rfl rfl e_l57 rfl)) az)) ?_)
         refine Goes.sub (show Sub (ofG 206 (kA ([g]:List Int) e (e.length:Int) r c d [(14,.i (w64 (f-1))),(20,.i n),(21,.i (w64 ((w64 (D+J))+w)))]),(kB K (kB c []))) (ofG 206 (kA ([g]:List Int) e (e.length:Int) K c d [(14,.i (w64 (f-1))),(20,.i n),(21,.i (w64 ((w64 (D+J))+w)))]),(kB K (kB c [])))from(Sub.norm [] [some 0,some 1] rfl rfl (.keep (.same (qd encI _)) (.keep (.same (qd encI _)) (.keep (.same nI) (.keep (.osliceE rfl (zS e_l57)) (.keep (.slice rfl) (.keep (.same nI) (.keep (.same nI) (.keep (.same nI) (.keep (.same nI) .nil))))))))) (.ks (.ks .nil)))) ?_
         refine gh fol (kA ([g]:List Int) e (e.length:Int) K c d [(14,.i (w64 (f-1))),(19,.i (w64 ((w64 ((w64 (D+J))+w)).tdiv 1000000000))),(20,.i n)]) ?_
         refine gh fol (kA ([g]:List Int) e (e.length:Int) K c d [(14,.i (w64 (f-1))),(19,.i (w64 ((w64 ((w64 (D+J))+w)).tdiv 1000000000))),(20,.i (w64 (n+1)))]) ?_
         exact⟨M,(ofG 206 (kA ([g]:List Int) e (e.length:Int) K c d [(14,.i (w64 (f-1))),(19,.i (w64 ((w64 ((w64 (D+J))+w)).tdiv 1000000000))),(20,.i (w64 (n+1)))]),(kB K (kB c []))),Nat.lt_succ_self _,(Sub.refl _),_,_,_,rfl,g53⟩
        refine Goes.exit ?_
        obtain rfl:=si g53
        exact⟨rfl,_,_,_,rfl,(Sub.keep [8,9,10,11,12,13,14,19] rfl rfl)⟩
      rintro x s' ⟨rfl,v,a1,n52,rfl,hsub⟩
      try dsimp only at g45
      refine Goes.sub hsub ?_
      obtain⟨x58,L,g45⟩:=bnd g45
      obtain⟨l59,e_l59,g45⟩:=bnd g45
      refine gq fol [8,9,12,13] (kA ([g]:List Int) e (e.length:Int) v c d [(14,.i a1)]) (kB l59 (kB c [])) (ac (hs (.done (.opt (qf ZT 22 (.oslice 0 v.length 1) (.i (w64 (d+(e.length:Int)))))) (.ptr 0 ((w64 (d+(e.length:Int)):Int).toNat*1+0))) (qd3 zw L)) (ac (hs (.run [0] (zC ZT 3 (.ptr 0 ((w64 (d+(e.length:Int)):Int).toNat*1+0))) (kB v (kB c [])) (.i x58) (kB v (kB c [])) false) (qaF ce3 (E:=encI) (l:=v) rfl rfl L (nl rfl) rfl)) (ac (hs (.done (.opt (qf ZT 22 (.oslice 0 v.length 1) (.i (w64 (d+(e.length:Int)))))) (.ptr 0 ((w64 (d+(e.length:Int)):Int).toNat*1+0))) (qd3 zw L)) (ac (hs (.run [0] (qw ZT 3 (.ptr 0 ((w64 (d+(e.length:Int)):Int).toNat*1+0)) (.i (w64 (x58+n52)))) (kB v (kB c [])) .undef (kB l59 (kB c [])) true) (yh (E:=encI) (l:=v) (y:=w64 (x58+n52)) rfl (show _=some 1 by kernel_rfl) rfl L rfl rfl rfl rfl rfl e_l59 rfl)) az)))) ?_
      obtain rfl:=si g45
      exact⟨rfl,_,_,rfl,((show Sub (ofG 206 (kA ([g]:List Int) e (e.length:Int) v c d [(14,.i a1)]),(kB l59 (kB c []))) (ofG 206 (kA ([g]:List Int) e (e.length:Int) l59 c d [(14,.i a1)]),(kB l59 (kB c [])))from(Sub.norm [] [some 0,some 1] rfl rfl (.keep (.same (qd encI _)) (.keep (.same (qd encI _)) (.keep (.same nI) (.keep (.osliceE rfl (zS e_l59)) (.keep (.slice rfl) (.keep (.same nI) (.keep (.same nI) .nil))))))) (.ks (.ks .nil)))).trans (Sub.refl _))⟩
     refine Goes.skip ?_
     obtain rfl:=si g45
     exact⟨rfl,_,_,rfl,(Sub.keep [8,9,10,11,12,13,14] rfl rfl)⟩
    rintro x s' ⟨rfl,q,n44,rfl,hsub⟩
    try dsimp only at g23
    refine Goes.sub hsub ?_
    obtain⟨x60,e_x60,g23⟩:=bnd g23
    obtain⟨U,e_l61,g23⟩:=bnd g23
    refine gq fol [3,4] (kA ([g]:List Int) e (e.length:Int) q c d []) (kB q (kB U [])) (ac (hs (.done (.opt (qf ZT 22 (.slice 1 0 c.length c.length 1) (.i d))) (.ptr 1 ((d:Int).toNat*1+0))) (vO zw e_x60)) (ac (hs (.run [1] (qw ZT 3 (.ptr 1 ((d:Int).toNat*1+0)) (.i n44)) (kB q (kB c [])) .undef (kB q (kB U [])) true) (yh (E:=encI) (l:=c) (y:=n44) rfl (show _=some 1 by kernel_rfl) rfl e_x60 rfl rfl rfl rfl rfl e_l61 rfl)) az)) ?_
    refine Goes.sub (show Sub (ofG 206 (kA ([g]:List Int) e (e.length:Int) q c d []),(kB q (kB U []))) (ofG 206 (kA ([g]:List Int) e (e.length:Int) q U d []),(kB q (kB U [])))from(Sub.norm [] [some 0,some 1] rfl rfl (.keep (.same (qd encI _)) (.keep (.same (qd encI _)) (.keep (.same nI) (.keep (.oslice rfl) (.keep (.sliceE rfl (zS e_l61)) (.keep (.same nI) .nil)))))) (.ks (.ks .nil)))) ?_
    refine gh fol (kA ([g]:List Int) e (e.length:Int) q U (w64 (d-1)) []) ?_
    exact⟨M,(ofG 206 (kA ([g]:List Int) e (e.length:Int) q U (w64 (d-1)) []),(kB q (kB U []))),Nat.lt_succ_self _,(Sub.refl _),_,_,_,rfl,g23⟩
   refine Goes.exit ?_
   obtain rfl:=si g23
   exact⟨rfl,_,_,rfl,(Sub.keep [8,10,11,12] rfl rfl)⟩
 rintro x s' ⟨rfl,a0,o,rfl,hsub⟩
 try dsimp only at h
 refine Goes.sub hsub ?_
 refine sq (Goes.sub (s':=(ofG 206 [(8,vl encI ([g]:List Int)),(10,.i (e.length:Int)),(11,vl encI a0),(12,.slice 0 0 o.length o.length 1)],(kB o []))) (Sub.norm [0] [some 1] rfl rfl (.keep (.same (qd encI _)) (.keep (.same nI) (.keep (.frz (Fz.os (E:=encI) rfl rfl (nl rfl)) (qd encI _)) (.keep (.slice rfl) .nil)))) (.ks .nil)) ?_)
 obtain⟨s62,e_s62,h⟩:=bnd h
 obtain⟨r63,e_r63,h⟩:=bnd h
 obtain⟨x64,e_x64,h⟩:=bnd h
 obtain⟨r65,e_r65,h⟩:=bnd h
 refine gr fol [2,3,5,6,7] [(12,.slice 0 0 o.length o.length 1),(22,vl encI r65.1)] (ac (hs (.done (.opt (ja ZT 22 (vl encI a0) none (some (.i (e.length:Int))) none)) (vl encI s62)) (qjy zw (E:=encI) rfl none (some (e.length:Int)) e_s62)) (ac (cv (yM N s62 e_r63)) (ac (iv zw encI e_x64) (ac (lv 0 ce3 encI e_x64 rfl) (ac (cv (qbs N r63 x64 e_r65)) az))))) ?_
 obtain⟨r66,e_r66,h⟩:=bnd h
 refine sq (gq fol [1] (kAx r66 r65.1) (kAR o) (ac (hs (.callF 158 [.slice 0 0 o.length o.length 1] (kB o []) [0] [vl encI o] (vl encI r66)) (qam (FzL.cons (Fz.sl (E:=encI) rfl rfl (nl rfl)) FzL.nil) (yM N o e_r66) (qy encI _ (nl rfl)))) az) ?_)
 refine Goes.sub (show Sub (ofG 206 (kAx r66 r65.1),(kAR o)) (ofG 206 (kAx r66 r65.1),[])from(Sub.norm [] [] rfl rfl (.keep (.same (qd encI _)) (.keep (.same (qd encI _)) .nil)) .nil)) ?_
 refine Goes.ret ?_
 obtain rfl:=si h
 exact(gw2 (kA4 r66 r65.1) (FzW.tuple (qg.cons (Ua (qy encI _ (nl rfl))) (qg.cons (Ua (qy encI _ (nl rfl))) qg.nil))))
def qW (N:Nat):Nat->(List Int)->(List Int)->Option (List Int)
 |0,_,_=>none
 |K+1,b,a=>
  if(a.length:Int)>0 then
  (zY N b a).bind fun c=>
  qW N K a c.2
  else
  some b
def xZ (N:Nat) (a:List Int) (b:List Int):Option (List Int):=
 (qW N N a b).bind fun c=>
 some c
theorem qeP (N:Nat) (a:List Int) (b:List Int) {res:List Int} (h:xZ N a b=some res):qc ZT (.fn 155) (kA4 a b) [] (vl encI res) []:=by
 unfold xZ at h
 refine Ub Tryz.func155 rfl rfl (m:=19) rfl (rs:=[.tmp 4]) rfl (l:=(kI a b [])) rfl ?_
 refine sh fol (kI a b []) ?_
 refine sq (Goes.block ?_)
 obtain⟨i,g4,h⟩:=bnd h
 refine Goes.imp (Q:=fun x s'=>(x= .exit 0/\ ∃d,d=i/\Sub s' (ofG 19 (kO d []),[]))) ?_ ?_
 ·refine Uc (fun M s=> ∃(e:List Int) (c:List Int),s=(ofG 19 (kI e c []),[])/\qW N M e c=some i) ?_ (m:=N) ⟨_,_,rfl,g4⟩
  rintro M s ⟨e,c,rfl,g4⟩
  cases M with
  |zero=>simp only[qW]at g4;cases g4
  |succ M=>
   rw[qW]at g4
   refine sq ?_
   refine sh fol (kI e c [(9,.bool (decide ((c.length:Int)>0)))]) ?_
   refine ihD g4 (fun j g4=>?_) (fun j g4=>?_)
   ·refine Goes.skip ?_
    refine Goes.block ?_
    obtain⟨g,f,g4⟩:=bnd g4
    refine sq (gr fol [2] [(1,vl encI c),(6,vl encI g.2)] (ac (cv (xO N e c f)) az) ?_)
    refine gh fol (kI c g.2 []) ?_
    exact⟨M,(ofG 19 (kI c g.2 []),[]),Nat.lt_succ_self _,(Sub.refl _),_,_,rfl,g4⟩
   refine Goes.exit ?_
   obtain rfl:=si g4
   exact⟨rfl,_,rfl,(Sub.keep [0] rfl rfl)⟩
 rintro x s' ⟨rfl,d,rfl,hsub⟩
 refine Goes.sub hsub ?_
 refine sh fol [(4,vl encI d)] ?_
 refine Goes.ret ?_
 obtain rfl:=si h
 exact(gw2 [vl encI d] (Ua (qy encI _ (nl rfl))))
def vg (N:Nat) (n:qL) (d:qL):Option Str:=
 ((if d.neg=true then
 (yu N n).bind fun l=>
 (yu N d).bind fun m=>
 some (l.neg,l.w,m.neg,m.w)
 else
 some (n.neg,n.w,d.neg,d.w):Option (Bool×(List Int)×Bool×(List Int)))).bind fun(r,o,s,p)=>
 (xZ N o p).bind fun q=>
 (zY N o q).bind fun c=>
 (zY N p q).bind fun a=>
 (jk N r c.1).bind fun e=>
 (xI N e).bind fun b=>
 (if(a.1.length:Int)=1 then
 (idx a.1 0).bind fun f=>
 some (decide (f=1))
 else
 some false:Option Bool).bind fun g=>
 if g=true then
 some b
 else
 (cat b [47]).bind fun h=>
 (jk N false a.1).bind fun i=>
 (xI N i).bind fun j=>
 (cat h j).bind fun k=>
 some k
theorem qae (N:Nat) (n:qL) (d:qL) {res:Str} (h:vg N n d=some res):qc ZT (.fn 100) (kAp n.neg n.w d.neg d.w) [] (.str res) []:=by
 unfold vg at h
 refine Ub Tryz.func100 rfl rfl (m:=57) rfl (rs:=[.tmp 4]) rfl (l:=[(0,.agg [.bool n.neg,vl encI n.w]),(1,.agg [.bool d.neg,vl encI d.w])]) rfl ?_
 refine sg fol (kAA (kAy [])) (kQ n.neg n.w (kQ d.neg d.w [])) ?_
 refine sq ?_
 refine sh fol (kAA (kAy [(12,.bool d.neg)])) ?_
 obtain⟨O,g5,h⟩:=bnd h
 refine Goes.imp (Q:=fun x s'=>(x= .normal/\ ∃y u D v,(y,u,D,v)=O/\Sub s' (ofG 57 (kAA (kAy [])),(kQ y u (kQ D v []))))) ?_ ?_
 ·refine ihB g5 (fun P g5=>?_) (fun P g5=>?_)
  ·obtain⟨L,z,g5⟩:=bnd g5
   obtain⟨M,A,g5⟩:=bnd g5
   refine gq fol [1,3] (kAA (kAy [])) (kQ L.neg L.w (kQ M.neg M.w [])) (ac (cv (qcH N n z)) (ac (cv (qcH N d A)) az)) ?_
   obtain rfl:=si g5
   exact⟨rfl,_,_,_,_,rfl,(Sub.refl _)⟩
  refine Goes.skip ?_
  obtain rfl:=si g5
  exact⟨rfl,_,_,_,_,rfl,(Sub.keep [2,3] rfl rfl)⟩
 rintro x s' ⟨rfl,y,u,D,v,rfl,hsub⟩
 try dsimp only at h
 refine Goes.sub hsub ?_
 obtain⟨E,B,h⟩:=bnd h
 refine sq (gr fol [4] (kAA (kAy [(5,vl encI E)])) (ac (cv (qeP N u v B)) az) ?_)
 obtain⟨f,g,h⟩:=bnd h
 refine sq (gr fol [3] (kAA (kAy [(5,vl encI E),(6,vl encI f.1)])) (ac (cv (xO N u E g)) az) ?_)
 obtain⟨c,i,h⟩:=bnd h
 refine sq (gr fol [3] (kAA [(6,vl encI f.1),(8,vl encI c.1)]) (ac (cv (xO N v E i)) az) ?_)
 obtain⟨F,j,h⟩:=bnd h
 obtain⟨b,k,h⟩:=bnd h
 refine sq (gr fol [3,4] [(8,vl encI c.1),(10,.str b)] (ac (cv (vD N y f.1 j)) (ac (cv (qby N F k)) az)) ?_)
 refine sq ?_
 refine sq ?_
 obtain⟨G,a,h⟩:=bnd h
 refine Goes.cut (s':=(ofG 57 [(8,vl encI c.1),(10,.str b),(49,.bool G)],(kQ y u (kQ D v [])))) ?_ ?_
 ·rcases wyD a with⟨o,a⟩|⟨o,a⟩
  ·obtain⟨H,e,a⟩:=bnd a
   obtain rfl:=si a
   exact tr fol [3,5,6] [(8,vl encI c.1),(10,.str b),(49,.bool (decide (H=1)))] (ac (gw o) (ac (iv zw encI e) (ac (lv 0 ce3 encI e rfl) az)))
  obtain rfl:=si a
  exact tr fol [3] [(8,vl encI c.1),(10,.str b),(49,.bool false)] (ac (gw o) az)
 refine ihB h (fun I h=>?_) (fun I h=>?_)
 ·refine sh fol [(4,.str b)] ?_
  refine Goes.ret ?_
  obtain rfl:=si h
  exact(gw2 [.str b] (Ua tS))
 refine Goes.skip ?_
 obtain⟨C,p,h⟩:=bnd h
 obtain⟨J,q,h⟩:=bnd h
 obtain⟨K,r,h⟩:=bnd h
 obtain⟨s,t,h⟩:=bnd h
 refine sq (gr fol [1,3,4,5] [(4,.str s)] (ac (hs (.done (.opt (qO ZT .add 9 (.tmp 51) (.const (.string ⟨#[47]⟩)) (.str b) (.str [47]))) (.str C)) (qaq p)) (ac (cv (vD N false c.1 q)) (ac (cv (qby N J r)) (ac (hs (.done (.opt (qO ZT .add 9 (.tmp 52) (.tmp 55) (.str C) (.str K))) (.str s)) (qaq t)) az)))) ?_)
 refine Goes.ret ?_
 obtain rfl:=si h
 exact(gw2 [.str s] (Ua tS))
def jl:Nat->Int->Int->Option Int
 |0,_,_=>none
 |K+1,b,a=>
  if a>0 then
  (qad .i64 b a).bind fun c=>
  jl K a c
  else
  some b
def qbT (N:Nat) (a:Int) (b:Int):Option Int:=
 (jl N a b).bind fun c=>
 some c
theorem qhp (N:Nat) (a:Int) (b:Int) {res:Int} (h:qbT N a b=some res):qc ZT (.fn 152) [.i a,.i b] [] (.i res) []:=by
 unfold qbT at h
 refine Ub Tryz.func152 rfl rfl (m:=12) rfl (rs:=[.tmp 4]) rfl (l:=(kAE a b [])) rfl ?_
 refine sh fol (kAE a b []) ?_
 refine sq (Goes.block ?_)
 obtain⟨j,g4,h⟩:=bnd h
 refine Goes.imp (Q:=fun x s'=>(x= .exit 0/\ ∃d,d=j/\Sub s' (ofG 12 [(0,.i d)],[]))) ?_ ?_
 ·refine Uc (fun M s=> ∃(e:Int) (c:Int),s=(ofG 12 (kAE e c []),[])/\jl M e c=some j) ?_ (m:=N) ⟨_,_,rfl,g4⟩
  rintro M s ⟨e,c,rfl,g4⟩
  cases M with
  |zero=>simp only[jl]at g4;cases g4
  |succ M=>
   rw[jl]at g4
   refine sq ?_
   refine sh fol (kAE e c [(6,.bool (decide (c>0)))]) ?_
   refine ihD g4 (fun k g4=>?_) (fun k g4=>?_)
   ·refine Goes.skip ?_
    refine Goes.block ?_
    obtain⟨g,f,g4⟩:=bnd g4
    refine gr fol [3] (kAE c g []) (ac (hs (.done (.opt (qO ZT .rem 3 (.tmp 8) (.tmp 9) (.i e) (.i c))) (.i g)) (qap f)) az) ?_
    exact⟨M,(ofG 12 (kAE c g []),[]),Nat.lt_succ_self _,(Sub.refl _),_,_,rfl,g4⟩
   refine Goes.exit ?_
   obtain rfl:=si g4
   exact⟨rfl,_,rfl,(Sub.keep [0] rfl rfl)⟩
 rintro x s' ⟨rfl,d,rfl,hsub⟩
 refine Goes.sub hsub ?_
 refine sh fol [(4,.i d)] ?_
 refine Goes.ret ?_
 obtain rfl:=si h
 exact(gw2 [.i d] (Ua tI))
def qcV (N:Nat) (num:Int) (den:Int):Option Str:=
 (if num<(-4000000000000000000)then
 some true
 else
 if num>4000000000000000000 then
 some true
 else
 if den<(-4000000000000000000)then
 some true
 else
 some (decide (den>4000000000000000000)):Option Bool).bind fun m=>
 if m=true then
 (jX N num).bind fun n=>
 (jX N den).bind fun o=>
 (vg N n o).bind fun p=>
 some p
 else
 ((if den<0 then
 some (w64 (0-num),w64 (0-den))
 else
 some (num,den):Option (Int×Int))).bind fun(a,c)=>
 (qbT N (if(w64 (0-a))>a then(w64 (0-a))else a) c).bind fun d=>
 (qbh .i64 a d).bind fun b=>
 (qbh .i64 c d).bind fun e=>
 ((if b<0 then
 some [45]
 else
 some []:Option Str)).bind fun g=>
 (zm N (if(w64 (0-b))>b then(w64 (0-b))else b) 1).bind fun h=>
 (cat g h).bind fun f=>
 ((if e>1 then
 (cat f [47]).bind fun i=>
 (zm N e 1).bind fun j=>
 (cat i j).bind fun k=>
 some k
 else
 some f:Option Str)).bind fun l=>
 some l
theorem qhw (N:Nat) (num:Int) (den:Int) {res:Str} (h:qcV N num den=some res):qc ZT (.fn 98) [.i num,.i den] [] (.str res) []:=by
 unfold qcV at h
 refine Ub Tryz.func98 rfl rfl (m:=61) rfl (rs:=[.tmp 4]) rfl (l:=(kAE num den [])) rfl ?_
 refine sh fol (kAE num den []) ?_
 refine sq ?_
 refine sq ?_
 obtain⟨O,a,h⟩:=bnd h
 refine Goes.cut (s':=(ofG 61 (kAE num den [(20,.bool O)]),[])) ?_ ?_
 ·rcases wyD a with⟨v,a⟩|⟨v,a⟩
  ·obtain rfl:=si a
   exact tr fol [2] (kAE num den [(20,.bool true)]) (ac (gw v) az)
  rcases wyD a with⟨C,a⟩|⟨C,a⟩
  ·obtain rfl:=si a
   exact tr fol [2,6] (kAE num den [(20,.bool true)]) (ac (gw v) (ac (gw C) az))
  rcases wyD a with⟨D,a⟩|⟨D,a⟩
  ·obtain rfl:=si a
   exact tr fol [2,6,10] (kAE num den [(20,.bool true)]) (ac (gw v) (ac (gw C) (ac (gw D) az)))
  obtain rfl:=si a
  exact tr fol [2,6,10] (kAE num den [(20,.bool (decide (den>4000000000000000000)))]) (ac (gw v) (ac (gw C) (ac (gw D) az)))
 refine ihB h (fun P h=>?_) (fun P h=>?_)
 ·obtain⟨U,w,h⟩:=bnd h
  obtain⟨V,y,h⟩:=bnd h
  obtain⟨M,z,h⟩:=bnd h
  refine sq (gr fol [1,3,4] [(4,.str M)] (ac (cv (qan N num w)) (ac (cv (qan N den y)) (ac (cv (qae N U V z)) az))) ?_)
  refine Goes.ret ?_
  obtain rfl:=si h
  exact(gw2 [.str M] (Ua tS))
 refine Goes.skip ?_
 refine sq ?_
 refine sh fol (kAE num den [(27,.bool (decide (den<0)))]) ?_
 obtain⟨E,g12,h⟩:=bnd h
 refine Goes.imp (Q:=fun x s'=>(x= .normal/\ ∃d e,(d,e)=E/\Sub s' (ofG 61 (kAE d e []),[]))) ?_ ?_
 ·refine ihD g12 (fun F g12=>?_) (fun F g12=>?_)
  ·refine gh fol (kAE (w64 (0-num)) (w64 (0-den)) []) ?_
   obtain rfl:=si g12
   exact⟨rfl,_,_,rfl,(Sub.refl _)⟩
  refine Goes.skip ?_
  obtain rfl:=si g12
  exact⟨rfl,_,_,rfl,(Sub.keep [0,1] rfl rfl)⟩
 rintro x s' ⟨rfl,d,e,rfl,hsub⟩
 try dsimp only at h
 refine Goes.sub hsub ?_
 obtain⟨k,n,h⟩:=bnd h
 refine sq (gr fol [5] (kAE d e (kAl k)) (ac (cv (qhp N (if(w64 (0-d))>d then(w64 (0-d))else d) e n)) az) ?_)
 obtain⟨b,o,h⟩:=bnd h
 obtain⟨c,p,h⟩:=bnd h
 refine sq (gr fol [2,5] (kAE b c []) (ac (hs (.done (.opt (qO ZT .quo 3 (.tmp 38) (.tmp 39) (.i d) (.i k))) (.i b)) (qa0 o)) (ac (hs (.done (.opt (qO ZT .quo 3 (.tmp 41) (.tmp 42) (.i e) (.i k))) (.i c)) (qa0 p)) az)) ?_)
 refine sh fol (kAE b c [(6,.str [])]) ?_
 refine sq ?_
 refine sh fol (kAE b c [(6,.str []),(45,.bool (decide (b<0)))]) ?_
 obtain⟨G,g18,h⟩:=bnd h
 refine Goes.imp (Q:=fun x s'=>(x= .normal/\ ∃g,g=G/\Sub s' (ofG 61 (kAE b c [(6,.str g)]),[]))) ?_ ?_
 ·refine ihD g18 (fun H g18=>?_) (fun H g18=>?_)
  ·refine gh fol (kAE b c [(6,.str [45])]) ?_
   obtain rfl:=si g18
   exact⟨rfl,_,rfl,(Sub.refl _)⟩
  refine Goes.skip ?_
  obtain rfl:=si g18
  exact⟨rfl,_,rfl,(Sub.keep [0,1,6] rfl rfl)⟩
 rintro x s' ⟨rfl,g,rfl,hsub⟩
 refine Goes.sub hsub ?_
 obtain⟨I,q,h⟩:=bnd h
 obtain⟨j,r,h⟩:=bnd h
 refine sq (gr fol [5,6] [(1,.i c),(6,.str j)] (ac (cv (xu N (if(w64 (0-b))>b then(w64 (0-b))else b) 1 q)) (ac (hs (.done (.opt (qO ZT .add 9 (.tmp 46) (.tmp 51) (.str g) (.str I))) (.str j)) (qaq r)) az)) ?_)
 refine sq ?_
 refine sh fol [(1,.i c),(6,.str j),(54,.bool (decide (c>1)))] ?_
 obtain⟨J,g23,h⟩:=bnd h
 refine Goes.imp (Q:=fun x s'=>(x= .normal/\ ∃f,f=J/\Sub s' (ofG 61 [(6,.str f)],[]))) ?_ ?_
 ·refine ihD g23 (fun K g23=>?_) (fun K g23=>?_)
  ·obtain⟨A,s,g23⟩:=bnd g23
   obtain⟨L,t,g23⟩:=bnd g23
   obtain⟨B,u,g23⟩:=bnd g23
   refine gr fol [1,3,4] [(6,.str B)] (ac (hs (.done (.opt (qO ZT .add 9 (.tmp 55) (.const (.string ⟨#[47]⟩)) (.str j) (.str [47]))) (.str A)) (qaq s)) (ac (cv (xu N c 1 t)) (ac (hs (.done (.opt (qO ZT .add 9 (.tmp 56) (.tmp 58) (.str A) (.str L))) (.str B)) (qaq u)) az))) ?_
   obtain rfl:=si g23
   exact⟨rfl,_,rfl,(Sub.refl _)⟩
  refine Goes.skip ?_
  obtain rfl:=si g23
  exact⟨rfl,_,rfl,(Sub.keep [6] rfl rfl)⟩
 rintro x s' ⟨rfl,f,rfl,hsub⟩
 refine Goes.sub hsub ?_
 refine sh fol [(4,.str f)] ?_
 refine Goes.ret ?_
 obtain rfl:=si h
 exact(gw2 [.str f] (Ua tS))
def jY (N:Nat):Nat->(List Int)->Str->Option ((List Int)×Str)
 |0,_,_=>none
 |K+1,f,a=>
  if(a.length:Int)>9 then
  (cut a (w64 ((a.length:Int)-9)) (a.length:Int)).bind fun b=>
  (ym N b).bind fun c=>
  (app 8 f [c]).bind fun d=>
  (cut a 0 (w64 ((a.length:Int)-9))).bind fun e=>
  jY N K d e
  else
  some (f,a)
def xc (N:Nat) (a:Str):Option qL:=
 (if(a.length:Int)>0 then
 (idx a 0).bind fun h=>
 some (decide ((h.toNat:Int)=45))
 else
 some false:Option Bool).bind fun g=>
 ((if g=true then
 (cut a 1 (a.length:Int)).bind fun i=>
 some i
 else
 some a:Option Str)).bind fun j=>
 (jY N N ([]:List Int) j).bind fun(b,c)=>
 (ym N c).bind fun d=>
 (app 8 b [d]).bind fun e=>
 (jk N g e).bind fun f=>
 some f
theorem qbj (N:Nat) (k:Str) {res:qL} (h:xc N k=some res):qc ZT (.fn 153) [.str k] [] (.agg (kAW res.neg res.w)) []:=by
 unfold xc at h
 refine Ub Tryz.func153 rfl rfl (m:=40) rfl (rs:=[.cell 2 91]) rfl (l:=(kAm k)) rfl ?_
 refine sg fol ((0,.str k)::(kAA [])) (kM []) ?_
 refine sq ?_
 obtain⟨e,b,h⟩:=bnd h
 refine Goes.cut (s':=(ofG 40 ((0,.str k)::(kAA (kA0 e []))),(kM []))) ?_ ?_
 ·rcases wyD b with⟨H,b⟩|⟨H,b⟩
  ·obtain⟨J,B,b⟩:=bnd b
   obtain rfl:=si b
   exact tr fol [3,5] ((0,.str k)::(kAA (kA0 (decide ((J.toNat:Int)=45)) []))) (ac (gw H) (ac (hs (.done (.opt (qaR ZT 9 (.str k) (.i 0))) (.int .u8 (J.toNat:Int))) (qet st9 B)) az))
  obtain rfl:=si b
  exact tr fol [3] ((0,.str k)::(kAA [(3,.bool false)])) (ac (gw H) az)
 refine sq ?_
 refine sh fol ((0,.str k)::(kAA (kA0 e (kA3 e)))) ?_
 obtain⟨L,g6,h⟩:=bnd h
 refine Goes.imp (Q:=fun x s'=>(x= .normal/\ ∃C,C=L/\Sub s' (ofG 40 ((0,.str C)::(kAA (kA0 e []))),(kM [])))) ?_ ?_
 ·refine ihB g6 (fun O g6=>?_) (fun O g6=>?_)
  ·obtain⟨K,D,g6⟩:=bnd g6
   refine gr fol [1] ((0,.str K)::(kAA (kA0 e []))) (ac (hs (.done (.opt (ja ZT 9 (.str k) (some (.i 1)) none none)) (.str K)) (qac st9 (some 1) none D)) az) ?_
   obtain rfl:=si g6
   exact⟨rfl,_,rfl,(Sub.refl _)⟩
  refine Goes.skip ?_
  obtain rfl:=si g6
  exact⟨rfl,_,rfl,(Sub.keep [0,2,3] rfl rfl)⟩
 rintro x s' ⟨rfl,C,rfl,hsub⟩
 refine Goes.sub hsub ?_
 refine sh fol ((0,.str C)::(kAA (kA0 e [(4,.nilslice)]))) ?_
 refine sq (Goes.block ?_)
 obtain⟨F,g13,h⟩:=bnd h
 refine Goes.imp (Q:=fun x s'=>(x= .exit 0/\ ∃f n,(f,n)=F/\Sub s' (ofG 40 ((0,.str n)::(kAA (kA0 e [(4,.gslice 1 f.length 1)]))),(kM (kB f []))))) ?_ ?_
 ·refine Goes.sub (s':=(ofG 40 ((0,.str C)::(kAA (kA0 e [(4,.gslice 1 ([]:List Int).length 1)]))),(kM kA5))) (Sub.norm [] [some 0,none] rfl rfl (.keep (.same nS) (.kp (.keep (.same nB) (.keep .nil .nil)))) (.kb rfl (.same sn) (.fresh .nil))) ?_
  refine Uc (fun M s=> ∃(p:List Int) (a:Str),s=(ofG 40 ((0,.str a)::(kAA (kA0 e [(4,.gslice 1 p.length 1)]))),(kM (kB p [])))/\jY N M p a=some F) ?_ (m:=N) ⟨_,_,rfl,g13⟩
  rintro M s ⟨p,a,rfl,g13⟩
  cases M with
  |zero=>simp only[jY]at g13;cases g13
  |succ M=>
   rw[jY]at g13
   refine sq ?_
   refine sh fol ((0,.str a)::(kAA (kA0 e [(4,.gslice 1 p.length 1),(18,.bool (decide ((a.length:Int)>9)))]))) ?_
   refine ihD g13 (fun I g13=>?_) (fun I g13=>?_)
   ·refine Goes.skip ?_
    refine Goes.block ?_
    obtain⟨G,q,g13⟩:=bnd g13
    obtain⟨o,r,g13⟩:=bnd g13
    obtain⟨g,t,g13⟩:=bnd g13
    refine sq (gq fol [5,6,8] ((0,.str a)::(kAA (kA0 e [(4,.gslice 3 g.length 1)]))) (kM (kAo o (kB g []))) (ac (hs (.done (.opt (ja ZT 9 (.str a) (some (.i (w64 ((a.length:Int)-9)))) none none)) (.str G)) (qac st9 (some (w64 ((a.length:Int)-9))) none q)) (ac (cv (qab N G r)) (ac (hs (.run [1,2] (vP ZT [22,22] (.gslice 1 p.length 1) (.slice 2 0 1 1 1)) (kM (kB p [.cells [.i o]])) (.gslice 3 g.length 1) (kM (kAo o (kB g []))) true) (qaB zw (E:=encI) rfl (qd4 (E:=encI) (ys:=[o]) rfl rfl rfl rfl) (qfl (E:=encI) (l:=p) rfl rfl rfl t rfl))) az))) ?_)
    obtain⟨u,v,g13⟩:=bnd g13
    refine gr fol [4] ((0,.str u)::(kAA (kA0 e [(4,.gslice 3 g.length 1)]))) (ac (hs (.done (.opt (ja ZT 9 (.str a) none (some (.i (w64 ((a.length:Int)-9)))) none)) (.str u)) (qac st9 none (some (w64 ((a.length:Int)-9))) v)) az) ?_
    exact⟨M,(ofG 40 ((0,.str u)::(kAA (kA0 e [(4,.gslice 1 g.length 1)]))),(kM (kB g []))),Nat.lt_succ_self _,(Sub.norm [] [some 0,some 3] rfl rfl (.keep (.same nS) (.kp (.keep (.same nB) (.keep (.gslice rfl) .nil)))) (.kb rfl (.same sn) (.ks .nil))),_,_,rfl,g13⟩
   refine Goes.exit ?_
   obtain rfl:=si g13
   exact⟨rfl,_,_,rfl,(Sub.keep [0,2,3,4] rfl rfl)⟩
 rintro x s' ⟨rfl,f,n,rfl,hsub⟩
 try dsimp only at h
 refine Goes.sub hsub ?_
 obtain⟨j,y,h⟩:=bnd h
 obtain⟨d,z,h⟩:=bnd h
 obtain⟨c,A,h⟩:=bnd h
 refine sq (gq fol [3,5,6] (kAA []) (kQ c.neg c.w (kAo j (kAR d))) (ac (cv (qab N n y)) (ac (hs (.run [1,2] (vP ZT [22,22] (.gslice 1 f.length 1) (.slice 2 0 1 1 1)) (kM (kB f [.cells [.i j]])) (.gslice 3 d.length 1) (kM (kAo j (kB d []))) true) (qaB zw (E:=encI) rfl (qd4 (E:=encI) (ys:=[j]) rfl rfl rfl rfl) (qfl (E:=encI) (l:=f) rfl rfl rfl z rfl))) (ac (hs (.callF 105 [.bool e,.gslice 3 d.length 1] (kM (kAo j (kB d []))) [3] (kAW e d) (.agg (kAW c.neg c.w))) (qam (FzL.cons (Fz.still tB) (FzL.cons (Fz.gs (E:=encI) rfl rfl (nl rfl)) FzL.nil)) (vD N e d A) (Still.agg (AllST.cons tB (AllST.cons (qy encI _ (nl rfl)) AllST.nil))))) az))) ?_)
 refine Goes.sub (show Sub (ofG 40 (kAA []),(kQ c.neg c.w (kAo j (kAR d)))) (ofG 40 (kAA []),(kQ c.neg c.w []))from(Sub.norm [] [some 0] rfl rfl (.kp .nil) (.kb rfl (.same sn) .nil))) ?_
 refine Goes.ret ?_
 obtain rfl:=si h
 exact(gw2 [.agg (kAW c.neg c.w)] (FzW.agg (qg.cons (Ua tB) (qg.cons (Ua (qy encI _ (nl rfl))) qg.nil))))
def vI (N:Nat) (a:Str):Option (qL×qL):=
 (yo N a).bind fun b=>
 if b=(a.length:Int)then
 (xc N a).bind fun c=>
 (jX N 1).bind fun d=>
 some (c,d)
 else
 (cut a 0 b).bind fun e=>
 (xc N e).bind fun f=>
 (cut a (w64 (b+1)) (a.length:Int)).bind fun g=>
 (xc N g).bind fun h=>
 some (f,h)
theorem qbi (N:Nat) (a:Str) {res:qL×qL} (h:vI N a=some res):qc ZT (.fn 99) [.str a] [] (.tuple (kAp res.1.neg res.1.w res.2.neg res.2.w)) []:=by
 unfold vI at h
 refine Ub Tryz.func99 rfl rfl (m:=25) rfl (rs:=[.cell 2 91,.cell 3 91]) rfl (l:=(kAm a)) rfl ?_
 refine sg fol ((0,.str a)::(kAA (kAy []))) (kM (kM [])) ?_
 refine sh fol (kAA (kAy [(4,.str a)])) ?_
 obtain⟨b,c,h⟩:=bnd h
 refine sq (gr fol [1] (kAA (kAy ((4,.str a)::(kAl b)))) (ac (cv (xY N a c)) az) ?_)
 refine sq ?_
 refine sh fol (kAA (kAy [(4,.str a),(5,.i b),(12,.bool (decide (b=(a.length:Int))))])) ?_
 refine ihD h (fun t h=>?_) (fun t h=>?_)
 ·obtain⟨n,d,h⟩:=bnd h
  obtain⟨o,e,h⟩:=bnd h
  refine sq (gq fol [1,2] (kAA (kAy [])) (kQ n.neg n.w (kQ o.neg o.w [])) (ac (cv (qbj N a d)) (ac (cv (qan N 1 e)) az)) ?_)
  refine Goes.ret ?_
  obtain rfl:=si h
  exact(gw2 (kAp n.neg n.w o.neg o.w) (FzW.tuple (qg.cons (FzW.agg (qg.cons (Ua tB) (qg.cons (Ua (qy encI _ (nl rfl))) qg.nil))) (qg.cons (FzW.agg (qg.cons (Ua tB) (qg.cons (Ua (qy encI _ (nl rfl))) qg.nil))) qg.nil))))
 refine Goes.skip ?_
 obtain⟨r,f,h⟩:=bnd h
 obtain⟨p,g,h⟩:=bnd h
 obtain⟨s,j,h⟩:=bnd h
 obtain⟨q,k,h⟩:=bnd h
 refine sq (gq fol [2,3,7,8] (kAA (kAy [])) (kQ p.neg p.w (kQ q.neg q.w [])) (ac (hs (.done (.opt (ja ZT 9 (.str a) none (some (.i b)) none)) (.str r)) (qac st9 none (some b) f)) (ac (cv (qbj N r g)) (ac (hs (.done (.opt (ja ZT 9 (.str a) (some (.i (w64 (b+1)))) none none)) (.str s)) (qac st9 (some (w64 (b+1))) none j)) (ac (cv (qbj N s k)) az)))) ?_)
 refine Goes.ret ?_
 obtain rfl:=si h
 exact(gw2 (kAp p.neg p.w q.neg q.w) (FzW.tuple (qg.cons (FzW.agg (qg.cons (Ua tB) (qg.cons (Ua (qy encI _ (nl rfl))) qg.nil))) (qg.cons (FzW.agg (qg.cons (Ua tB) (qg.cons (Ua (qy encI _ (nl rfl))) qg.nil))) qg.nil))))
def xV (N:Nat) (a:qL) (b:qL):Option qL:=
 (jJ N a.w b.w).bind fun c=>
 (jk N (!(a.neg==b.neg)) c).bind fun d=>
 some d
theorem qcx (N:Nat) (a:qL) (b:qL) {res:qL} (h:xV N a b=some res):qc ZT (.fn 101) (kAp a.neg a.w b.neg b.w) [] (.agg (kAW res.neg res.w)) []:=by
 unfold xV at h
 refine Ub Tryz.func101 rfl rfl (m:=16) rfl (rs:=[.cell 4 91]) rfl (l:=[(0,.agg [.bool a.neg,vl encI a.w]),(1,.agg [.bool b.neg,vl encI b.w])]) rfl ?_
 refine sg fol (kF []) (kQ a.neg a.w (kQ b.neg b.w (kM []))) ?_
 obtain⟨f,c,h⟩:=bnd h
 obtain⟨e,d,h⟩:=bnd h
 refine sq (gq fol [9,10] (kAa []) (kQ a.neg a.w (kQ b.neg b.w (kQ e.neg e.w []))) (ac (cv (xJ N a.w b.w c)) (ac (cv (vD N (!(a.neg==b.neg)) f d)) az)) ?_)
 refine Goes.ret ?_
 obtain rfl:=si h
 exact(gw2 [.agg (kAW e.neg e.w)] (FzW.agg (qg.cons (Ua tB) (qg.cons (Ua (qy encI _ (nl rfl))) qg.nil))))
def qa6 (N:Nat) (a:Str) (b:Str):Option Str:=
 (vE N a).bind fun c=>
 (vE N b).bind fun d=>
 (if c.2.2=true then
 some d.2.2
 else
 some false:Option Bool).bind fun j=>
 if j=true then
 (qcV N (w64 (c.1*d.1)) (w64 (c.2.1*d.2.1))).bind fun k=>
 some k
 else
 (vI N a).bind fun h=>
 (vI N b).bind fun i=>
 (xV N h.1 i.1).bind fun e=>
 (xV N h.2 i.2).bind fun f=>
 (vg N e f).bind fun g=>
 some g
theorem qeg (N:Nat) (a:Str) (b:Str) {res:Str} (h:qa6 N a b=some res):qc ZT (.fn 47) [.str a,.str b] [] (.str res) []:=by
 unfold qa6 at h
 refine Ub Tryz.func47 rfl rfl (m:=55) rfl (rs:=[.tmp 4]) rfl (l:=(kAN a b [])) rfl ?_
 refine sh fol (kAN a b []) ?_
 obtain⟨d,o,h⟩:=bnd h
 refine sq (gr fol [1] (kAN a b [(5,.i d.1),(6,.i d.2.1),(7,.bool d.2.2)]) (ac (cv (qcG N a o)) az) ?_)
 obtain⟨e,p,h⟩:=bnd h
 refine sq (gr fol [1] (kAN a b ((5,.i d.1)::(6,.i d.2.1)::(7,.bool d.2.2)::(kAL e.1 e.2.1 [(10,.bool e.2.2)]))) (ac (cv (qcG N b p)) az) ?_)
 refine sq ?_
 refine sq ?_
 obtain⟨z,c,h⟩:=bnd h
 refine Goes.cut (s':=(ofG 55 (kAN a b ((5,.i d.1)::(6,.i d.2.1)::(kAL e.1 e.2.1 [(30,.bool z)]))),[])) ?_ ?_
 ·rcases wyB c with⟨u,c⟩|⟨u,c⟩
  ·obtain rfl:=si c
   exact tr fol [1] (kAN a b ((5,.i d.1)::(6,.i d.2.1)::(kAL e.1 e.2.1 [(30,.bool e.2.2)]))) (ac (gw u) az)
  obtain rfl:=si c
  exact tr fol [1] (kAN a b ((5,.i d.1)::(6,.i d.2.1)::(kAL e.1 e.2.1 [(30,.bool false)]))) (ac (gw u) az)
 refine ihB h (fun A h=>?_) (fun A h=>?_)
 ·obtain⟨y,q,h⟩:=bnd h
  refine sq (gr fol [6] [(4,.str y)] (ac (cv (qhw N (w64 (d.1*e.1)) (w64 (d.2.1*e.2.1)) q)) az) ?_)
  refine Goes.ret ?_
  obtain rfl:=si h
  exact(gw2 [.str y] (Ua tS))
 refine Goes.skip ?_
 obtain⟨f,r,h⟩:=bnd h
 refine sq (gq fol [1] [(1,.str b),(11,.ptr 0 0),(12,.ptr 1 0)] (kQ f.1.neg f.1.w (kQ f.2.neg f.2.w [])) (ac (cv (qbi N a r)) az) ?_)
 obtain⟨n,s,h⟩:=bnd h
 refine sq (gq fol [1] [(11,.ptr 0 0),(12,.ptr 1 0),(13,.ptr 2 0),(14,.ptr 3 0)] (kQ f.1.neg f.1.w (kQ f.2.neg f.2.w (kQ n.1.neg n.1.w (kQ n.2.neg n.2.w [])))) (ac (cv (qbi N b s)) az) ?_)
 obtain⟨v,g,h⟩:=bnd h
 obtain⟨x,j,h⟩:=bnd h
 obtain⟨t,k,h⟩:=bnd h
 refine sq (gr fol [2,5,6] [(4,.str t)] (ac (cv (qcx N f.1 n.1 g)) (ac (cv (qcx N f.2 n.2 j)) (ac (cv (qae N v x k)) az))) ?_)
 refine Goes.ret ?_
 obtain rfl:=si h
 exact(gw2 [.str t] (Ua tS))
def yj (N:Nat) (a:Str):Option Str:=
 (vI N a).bind fun b=>
 (vg N b.2 b.1).bind fun c=>
 some c
theorem qdl (N:Nat) (a:Str) {res:Str} (h:yj N a=some res):qc ZT (.fn 103) [.str a] [] (.str res) []:=by
 unfold yj at h
 refine Ub Tryz.func103 rfl rfl (m:=13) rfl (rs:=[.tmp 2]) rfl (l:=(kAm a)) rfl ?_
 refine sh fol (kAm a) ?_
 obtain⟨b,c,h⟩:=bnd h
 refine sq (gq fol [1] ((3,.ptr 0 0)::(kA9 [])) (kQ b.1.neg b.1.w (kQ b.2.neg b.2.w [])) (ac (cv (qbi N a c)) az) ?_)
 obtain⟨e,d,h⟩:=bnd h
 refine sq (gr fol [2] [(2,.str e)] (ac (cv (qae N b.2 b.1 d)) az) ?_)
 refine Goes.ret ?_
 obtain rfl:=si h
 exact(gw2 [.str e] (Ua tS))
def qbM (N:Nat) (a:Str) (b:Str):Option Str:=
 (yj N b).bind fun c=>
 (qa6 N a c).bind fun d=>
 some d
theorem qg4 (N:Nat) (a:Str) (b:Str) {res:Str} (h:qbM N a b=some res):qc ZT (.fn 49) [.str a,.str b] [] (.str res) []:=by
 unfold qbM at h
 refine Ub Tryz.func49 rfl rfl (m:=9) rfl (rs:=[.tmp 4]) rfl (l:=(kAN a b [])) rfl ?_
 refine sh fol (kAN a b []) ?_
 obtain⟨f,c,h⟩:=bnd h
 obtain⟨e,d,h⟩:=bnd h
 refine sq (gr fol [2,3] [(4,.str e)] (ac (cv (qdl N b c)) (ac (cv (qeg N a f d)) az)) ?_)
 refine Goes.ret ?_
 obtain rfl:=si h
 exact(gw2 [.str e] (Ua tS))
def jM (N:Nat) (a:List (List Int)):Nat->Str->Int->Option Str
 |0,_,_=>none
 |K+1,e,b=>
  if b<(a.length:Int)then
  (idx a b).bind fun g=>
  (xA N (g.length:Int)).bind fun f=>
  (qbM N e f).bind fun h=>
  (xX N h).bind fun c=>
  (qa6 N c f).bind fun d=>
  jM N a K d (w64 (b+1))
  else
  some e
def qaX (N:Nat) (p:List Int):Option Str:=
 (yA N p).bind fun a=>
 (jM N a N [49] 0).bind fun b=>
 some b
theorem qcq (N:Nat) (p:List Int) {res:Str} (h:qaX N p=some res):qc ZT (.fn 14) [vl encI p] [] (.str res) []:=by
 unfold qaX at h
 refine Ub Tryz.func14 rfl rfl (m:=28) rfl (rs:=[.tmp 2]) rfl (l:=(kO p [])) rfl ?_
 refine sh fol (kO p []) ?_
 refine sh fol (kO p [(3,.str [49])]) ?_
 obtain⟨a,j,h⟩:=bnd h
 refine sq (gr fol [1] [(3,.str [49]),(4,vl (qp encI) a)] (ac (cv (yH N p j)) az) ?_)
 refine sq ?_
 refine sh fol [(3,.str [49]),(4,vl (qp encI) a),(5,.i 0)] ?_
 refine Goes.block ?_
 obtain⟨t,g5,h⟩:=bnd h
 refine Goes.imp (Q:=fun x s'=>(x= .exit 0/\ ∃k,k=t/\Sub s' (ofG 28 [(3,.str k)],[]))) ?_ ?_
 ·refine Uc (fun M s=> ∃(g:Str) (b:Int),s=(ofG 28 ((3,.str g)::(4,vl (qp encI) a)::(kAl b)),[])/\jM N a M g b=some t) ?_ (m:=N) ⟨_,_,rfl,g5⟩
  rintro M s ⟨g,b,rfl,g5⟩
  cases M with
  |zero=>simp only[jM]at g5;cases g5
  |succ M=>
   rw[jM]at g5
   refine sq ?_
   refine sh fol [(3,.str g),(4,vl (qp encI) a),(5,.i b),(12,.bool (decide (b<(a.length:Int))))] ?_
   refine ihD g5 (fun u g5=>?_) (fun u g5=>?_)
   ·refine Goes.skip ?_
    refine sq (Goes.block ?_)
    obtain⟨v,c,g5⟩:=bnd g5
    obtain⟨q,n,g5⟩:=bnd g5
    refine sq (gr fol [2,3,5] [(3,.str g),(4,vl (qp encI) a),(5,.i b),(6,.str q)] (ac (iv qgi (qp encI) c) (ac (lv 0 qhG (qp encI) c rfl) (ac (cv (qeB N (v.length:Int) n)) az))) ?_)
    obtain⟨w,o,g5⟩:=bnd g5
    obtain⟨r,d,g5⟩:=bnd g5
    obtain⟨e,f,g5⟩:=bnd g5
    refine gr fol [2,3,5] ((3,.str e)::(4,vl (qp encI) a)::(kAl b)) (ac (cv (qg4 N g q o)) (ac (cv (qce N w d)) (ac (cv (qeg N r q f)) az))) ?_
    refine gh fol ((3,.str e)::(4,vl (qp encI) a)::(kAl (w64 (b+1)))) ?_
    exact⟨M,(ofG 28 ((3,.str e)::(4,vl (qp encI) a)::(kAl (w64 (b+1)))),[]),Nat.lt_succ_self _,(Sub.refl _),_,_,rfl,g5⟩
   refine Goes.exit ?_
   obtain rfl:=si g5
   exact⟨rfl,_,rfl,(Sub.keep [3] rfl rfl)⟩
 rintro x s' ⟨rfl,k,rfl,hsub⟩
 refine Goes.sub hsub ?_
 refine sh fol [(2,.str k)] ?_
 refine Goes.ret ?_
 obtain rfl:=si h
 exact(gw2 [.str k] (Ua tS))
def vz (j:List (List Int)) (f:List Int) (c:Int) (k:Int):Nat->(List Int)->Int->Option (List Int)
 |0,_,_=>none
 |K+1,b,a=>
  if a<(f.length:Int)then
  (idx j k).bind fun d=>
  (idx d a).bind fun e=>
  (qad .i64 (w64 (a+c)) (f.length:Int)).bind fun g=>
  (idx d g).bind fun h=>
  (idx b e).bind fun l=>
  (put b e h).bind fun i=>
  vz j f c k K i (w64 (a+1))
  else
  some b
def vo (N:Nat) (k:Int) (a:List (List Int)):Nat->(List Int)->Int->Option (List Int)
 |0,_,_=>none
 |K+1,f,b=>
  if b<(a.length:Int)then
  (idx a b).bind fun c=>
  (qad .i64 k (c.length:Int)).bind fun g=>
  (qad .i64 (w64 (g+(c.length:Int))) (c.length:Int)).bind fun d=>
  (vz a c d b N f 0).bind fun e=>
  vo N k a K e (w64 (b+1))
  else
  some f
def qbq (N:Nat) (p:List Int) (k:Int):Option (List Int):=
 (mk 8 (p.length:Int) 0).bind fun a=>
 (yA N p).bind fun b=>
 (vo N k b N a 0).bind fun c=>
 some c
theorem qfZ (N:Nat) (p:List Int) (k:Int) {res:List Int} (h:qbq N p k=some res):qc ZT (.fn 15) [vl encI p,.i k] [] (vl encI res) []:=by
 unfold qbq at h
 refine Ub Tryz.func15 rfl rfl (m:=60) rfl (rs:=[.tmp 4]) rfl (l:=(kO p [(1,.i k)])) rfl ?_
 refine sh fol (kO p [(1,.i k)]) ?_
 obtain⟨w,F,h⟩:=bnd h
 refine sq (gq fol [2] (kO p ((1,.i k)::(kC w []))) (kB w []) (ac (hs (.run [] (kw ZT 22 (.i (p.length:Int)) (.i (p.length:Int))) [] (.slice 0 0 w.length w.length 1) (kB w []) false) (qaA zw (E:=encI) (z:=0) rfl (by kernel_rfl) F rfl)) az) ?_)
 obtain⟨d,G,h⟩:=bnd h
 refine sq (gr fol [1] ((1,.i k)::(kC w [(6,vl (qp encI) d)])) (ac (cv (yH N p G)) az) ?_)
 refine sq ?_
 refine sh fol ((1,.i k)::(kC w [(6,vl (qp encI) d),(7,.i 0)])) ?_
 refine Goes.block ?_
 obtain⟨O,g6,h⟩:=bnd h
 refine Goes.imp (Q:=fun x s'=>(x= .exit 0/\ ∃A,A=O/\Sub s' (ofG 60 (kC A []),(kB A [])))) ?_ ?_
 ·refine Uc (fun M s=> ∃(u:List Int) (e:Int),s=(ofG 60 ((1,.i k)::(kC u [(6,vl (qp encI) d),(7,.i e)])),(kB u []))/\vo N k d M u e=some O) ?_ (m:=N) ⟨_,_,rfl,g6⟩
  rintro M s ⟨u,e,rfl,g6⟩
  cases M with
  |zero=>simp only[vo]at g6;cases g6
  |succ M=>
   rw[vo]at g6
   refine sq ?_
   refine sh fol ((1,.i k)::(kC u [(6,vl (qp encI) d),(7,.i e),(19,.bool (decide (e<(d.length:Int))))])) ?_
   refine ihD g6 (fun U g6=>?_) (fun U g6=>?_)
   ·refine Goes.skip ?_
    refine sq (Goes.block ?_)
    obtain⟨j,v,g6⟩:=bnd g6
    refine sq (gr fol [2,3] ((1,.i k)::(kC u ((6,vl (qp encI) d)::(kAw e (j.length:Int))))) (ac (iv qgi (qp encI) v) (ac (lv 0 qhG (qp encI) v rfl) az)) ?_)
    obtain⟨P,H,g6⟩:=bnd g6
    obtain⟨a,B,g6⟩:=bnd g6
    refine sq (gr fol [2,6] ((1,.i k)::(kC u ((6,vl (qp encI) d)::(7,.i e)::(kAL (j.length:Int) a [])))) (ac (hs (.done (.opt (qO ZT .rem 3 (.tmp 27) (.tmp 28) (.i k) (.i (j.length:Int)))) (.i P)) (qap H)) (ac (hs (.done (.opt (qO ZT .rem 3 (.tmp 31) (.tmp 32) (.i (w64 (P+(j.length:Int)))) (.i (j.length:Int)))) (.i a)) (qap B)) az)) ?_)
    refine sh fol ((1,.i k)::(kC u ((6,vl (qp encI) d)::(7,.i e)::(kAL (j.length:Int) a [(10,.i 0)])))) ?_
    refine Goes.block ?_
    obtain⟨I,g14,g6⟩:=bnd g6
    refine Goes.imp (Q:=fun x s'=>(x= .exit 2/\ ∃n,n=I/\Sub s' (ofG 60 ((1,.i k)::(kC n [(6,vl (qp encI) d),(7,.i e)])),(kB n [])))) ?_ ?_
    ·refine Uc (fun M s=> ∃(b:List Int) (c:Int),s=(ofG 60 ((1,.i k)::(kC b ((6,vl (qp encI) d)::(7,.i e)::(kAL (j.length:Int) a [(10,.i c)])))),(kB b []))/\vz d j a e M b c=some I) ?_ (m:=N) ⟨_,_,rfl,g14⟩
     rintro M s ⟨b,c,rfl,g14⟩
     cases M with
     |zero=>simp only[vz]at g14;cases g14
     |succ M=>
      rw[vz]at g14
      refine sq ?_
      refine sh fol ((1,.i k)::(kC b ((6,vl (qp encI) d)::(7,.i e)::(kAL (j.length:Int) a [(10,.i c),(36,.bool (decide (c<(j.length:Int))))])))) ?_
      refine ihD g14 (fun K g14=>?_) (fun K g14=>?_)
      ·refine Goes.skip ?_
       refine sq (Goes.block ?_)
       obtain⟨V,f,g14⟩:=bnd g14
       obtain⟨C,o,g14⟩:=bnd g14
       obtain⟨L,D,g14⟩:=bnd g14
       obtain⟨J,q,g14⟩:=bnd g14
       obtain⟨X,r,g14⟩:=bnd g14
       obtain⟨g,t,g14⟩:=bnd g14
       refine gq fol [3,4,6,7,10,11,16,17,18,19,20] ((1,.i k)::(kC b ((6,vl (qp encI) d)::(7,.i e)::(kAL (j.length:Int) a [(10,.i c)])))) (kB g []) (ac (iv qgi (qp encI) f) (ac (lv 0 qhG (qp encI) f rfl) (ac (iv zw encI o) (ac (lv 0 ce3 encI o rfl) (ac (iv qgi (qp encI) f) (ac (lv 0 qhG (qp encI) f rfl) (ac (hs (.done (.opt (qO ZT .rem 3 (.tmp 53) (.tmp 54) (.i (w64 (c+a))) (.i (j.length:Int)))) (.i L)) (qap D)) (ac (iv zw encI q) (ac (lv 0 ce3 encI q rfl) (ac (hs (.done (.opt (qf ZT 22 (.slice 0 0 b.length b.length 1) (.i C))) (.ptr 0 ((C:Int).toNat*1+0))) (vO zw r)) (ac (hs (.run [0] (qw ZT 3 (.ptr 0 ((C:Int).toNat*1+0)) (.i J)) (kB b []) .undef (kB g []) true) (yh (E:=encI) (l:=b) (y:=J) rfl (show _=some 1 by kernel_rfl) rfl r rfl rfl rfl rfl rfl t rfl)) az))))))))))) ?_
       refine Goes.sub (show Sub (ofG 60 ((1,.i k)::(kC b ((6,vl (qp encI) d)::(7,.i e)::(kAL (j.length:Int) a [(10,.i c)])))),(kB g [])) (ofG 60 ((1,.i k)::(kC g ((6,vl (qp encI) d)::(7,.i e)::(kAL (j.length:Int) a [(10,.i c)])))),(kB g []))from(Sub.norm [] [some 0] rfl rfl (.keep (.same nI) (.keep (.sliceE rfl (zS t)) (.keep (.same (qd (qp encI) _)) (.keep (.same nI) (.keep (.same nI) (.keep (.same nI) (.keep (.same nI) .nil))))))) (.ks .nil))) ?_
       refine gh fol ((1,.i k)::(kC g ((6,vl (qp encI) d)::(7,.i e)::(kAL (j.length:Int) a [(10,.i (w64 (c+1)))])))) ?_
       exact⟨M,(ofG 60 ((1,.i k)::(kC g ((6,vl (qp encI) d)::(7,.i e)::(kAL (j.length:Int) a [(10,.i (w64 (c+1)))])))),(kB g [])),Nat.lt_succ_self _,(Sub.refl _),_,_,rfl,g14⟩
      refine Goes.exit ?_
      obtain rfl:=si g14
      exact⟨rfl,_,rfl,(Sub.keep [1,5,6,7] rfl rfl)⟩
    rintro x s' ⟨rfl,n,rfl,hsub⟩
    refine Goes.sub hsub ?_
    refine gh fol ((1,.i k)::(kC n [(6,vl (qp encI) d),(7,.i (w64 (e+1)))])) ?_
    exact⟨M,(ofG 60 ((1,.i k)::(kC n [(6,vl (qp encI) d),(7,.i (w64 (e+1)))])),(kB n [])),Nat.lt_succ_self _,(Sub.refl _),_,_,rfl,g6⟩
   refine Goes.exit ?_
   obtain rfl:=si g6
   exact⟨rfl,_,rfl,(Sub.keep [5] rfl rfl)⟩
 rintro x s' ⟨rfl,A,rfl,hsub⟩
 refine Goes.sub hsub ?_
 refine sh fol (kAt A []) ?_
 refine Goes.ret ?_
 obtain rfl:=si h
 exact(gw2 [.slice 0 0 A.length A.length 1] (FzW.fz (Fz.sl (E:=encI) rfl rfl (nl rfl))))
def strings_HasPrefix (b:Str) (a:Str):Option Bool:=
 (stringslite_HasPrefix b a).bind fun c=>
 some c
end Go.Av
