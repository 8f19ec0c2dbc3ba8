/-
  Walks of functions: what each computes, as a plain function.
-/
import Derived.Test.YtmffnhniejfgpaaGreatDoorQGenB1
noncomputable section
namespace Go.Av
open Go.Proofs Go.RowKit
set_option linter.unusedSectionVars false
set_option linter.unusedVariables false
set_option linter.unusedSimpArgs false
set_option maxRecDepth 100000
def qX (l:List qW):Nat->Int->Option (Unit⊕Bool)
 |0,_=>none
 |K+1,a=>
  if a<(l.length:Int)then
  (idx l a).bind fun b=>
  if(b.Kind.length:Int)>20 then
  some (.inr false)
  else
  qX l K (w64 (a+1))
  else
  some (.inl ())
def zG (N:Nat) (l:List qW) (m:Int):Option Bool:=
 (if(l.length:Int)>m then
 if(l.length:Int)<=100000 then
 some true
 else
 some (decide ((l.length:Int)>100002))
 else
 some (decide ((l.length:Int)>100002)):Option Bool).bind fun b=>
 if b=true then
 some false
 else
 (qX l N 0).bind (fun
 |(.inl ())=>
 some true
 |(.inr a)=>
 some a)
theorem xQ (N:Nat) (l:List qW) (m:Int) {res:Bool} (h:zG N l m=some res):qf ZT (.fn 27) [vl qm l,.i m] [] (.bool res) []:=by
 unfold zG at h
 refine Uc Tryz.func27 rfl rfl (m:=33) rfl (rs:=[.tmp 4]) rfl (l:=(kAb l (kAx m))) rfl ?_
 refine sh fol (kAb l (kAx m)) ?_
 refine sq ?_
 refine sq ?_
 obtain⟨n,a,h⟩:=bnd h
 refine Goes.cut (s':=(ofG 33 (kAb l [(19,.bool n)]),[])) ?_ ?_
 ·rcases wyD a with⟨d,a⟩|⟨d,a⟩
  ·rcases wyD a with⟨e,a⟩|⟨e,a⟩
   ·obtain rfl:=si a
    exact tr fol [4,9] (kAb l [(19,.bool true)]) (ac (gw d) (ac (gw e) az))
   obtain rfl:=si a
   exact tr fol [4,9] (kAb l [(19,.bool (decide ((l.length:Int)>100002)))]) (ac (gw d) (ac (gw e) az))
  obtain rfl:=si a
  exact tr fol [4] (kAb l [(19,.bool (decide ((l.length:Int)>100002)))]) (ac (gw d) az)
 refine ihB h (fun o h=>?_) (fun o h=>?_)
 ·refine sh fol kAA ?_
  refine Goes.ret ?_
  obtain rfl:=si h
  exact(gw2 [.bool false] (Ua tB))
 refine Goes.skip ?_
 refine sq ?_
 refine sh fol (kAb l kBO) ?_
 refine Goes.block ?_
 obtain⟨f,g7,h⟩:=bnd h
 refine Goes.imp (Q:=fun x s'=>(x= .exit 0/\(.inl ())=f/\Sub s' (ofG 33 [],[]))\/(x= .ret/\ ∃k,(.inr k)=f/\zP ZT [.tmp 4] (.bool k) .ret s')) ?_ ?_
 ·refine Ue (fun M s=> ∃(c:Int),s=(ofG 33 (kAb l (kAc c)),[])/\qX l M c=some f) ?_ (m:=N) ⟨_,rfl,g7⟩
  rintro M s ⟨c,rfl,g7⟩
  cases M with
  |zero=>simp only[qX]at g7;cases g7
  |succ M=>
   rw[qX]at g7
   refine sq ?_
   refine sh fol (kAb l [(5,.i c),(23,.bool (decide (c<(l.length:Int))))]) ?_
   refine ihD g7 (fun p g7=>?_) (fun p g7=>?_)
   ·refine Goes.skip ?_
    refine sq (Goes.block ?_)
    obtain⟨g,b,g7⟩:=bnd g7
    refine sq (gr fol [2,4] (kAb l [(5,.i c),(32,.bool (decide ((g.Kind.length:Int)>20)))]) (ac (iv sl55 qm b) (ac (lv 0 ce9 qm b rfl) az)) ?_)
    refine ihD g7 (fun j g7=>?_) (fun j g7=>?_)
    ·refine sh fol kAA ?_
     refine Goes.ret ?_
     obtain rfl:=si g7
     exact Or.inr (⟨rfl,_,rfl,(gw2 [.bool false] (Ua tB))⟩)
    refine Goes.skip ?_
    refine gh fol (kAb l (kAc (w64 (c+1)))) ?_
    exact⟨M,(ofG 33 (kAb l (kAc (w64 (c+1)))),[]),Nat.lt_succ_self _,(Sub.refl _),_,rfl,g7⟩
   refine Goes.exit ?_
   obtain rfl:=si g7
   exact Or.inl (⟨rfl,rfl,(Sub.keep [] rfl rfl)⟩)
 rintro x s' (⟨rfl,rfl,hsub⟩|⟨rfl,q,rfl,hret⟩)
 ·try dsimp only at h
  refine Goes.sub hsub ?_
  refine sh fol kA4 ?_
  refine Goes.ret ?_
  obtain rfl:=si h
  exact(gw2 [.bool true] (Ua tB))
 try dsimp only at h
 obtain rfl:=si h
 exact hret
def zq (l:List qW):Nat->(List qW)->Int->Option (List qW)
 |0,_,_=>none
 |K+1,b,a=>
  if a<(l.length:Int)then
  (idx l a).bind fun c=>
  (app 32 b [c]).bind fun d=>
  zq l K d (w64 (a+1))
  else
  some b
def jN (N:Nat) (l:List qW):Option (List qW):=
 (zq l N ([]:List qW) 0).bind fun a=>
 some a
theorem xn (N:Nat) (l:List qW) {res:List qW} (h:jN N l=some res):qf ZT (.fn 28) [vl qm l] [] (vl qm res) []:=by
 unfold jN at h
 refine Uc Tryz.func28 rfl rfl (m:=19) rfl (rs:=[.tmp 2]) rfl (l:=(kAb l [])) rfl ?_
 refine sh fol (kAb l []) ?_
 refine sh fol (kAb l (kAs [])) ?_
 refine sq ?_
 refine sh fol (kAb l (kAs kA9)) ?_
 refine Goes.block ?_
 obtain⟨k,g4,h⟩:=bnd h
 refine Goes.imp (Q:=fun x s'=>(x= .exit 0/\ ∃g,g=k/\Sub s' (ofG 19 [(3,.gslice 0 g.length 3)],(kBN g)))) ?_ ?_
 ·refine Goes.sub (s':=(ofG 19 (kAb l ((3,.gslice 0 ([]:List qW).length 3)::kA9)),[.cells (([]:List qW).flatMap qm.c)])) (Sub.norm [] [none] rfl rfl (.keep (.same (ql qm _)) (.keep .nil (.keep (.same nI) .nil))) (.fresh .nil)) ?_
  refine Ue (fun M s=> ∃(b:List qW) (d:Int),s=(ofG 19 (kAb l ((3,.gslice 0 b.length 3)::(kAX d))),(kBN b))/\zq l M b d=some k) ?_ (m:=N) ⟨_,_,rfl,g4⟩
  rintro M s ⟨b,d,rfl,g4⟩
  cases M with
  |zero=>simp only[zq]at g4;cases g4
  |succ M=>
   rw[zq]at g4
   refine sq ?_
   refine sh fol (kAb l ((3,.gslice 0 b.length 3)::(4,.i d)::(kAp (decide (d<(l.length:Int)))))) ?_
   refine ihD g4 (fun n g4=>?_) (fun n g4=>?_)
   ·refine Goes.skip ?_
    refine sq (Goes.block ?_)
    obtain⟨a,e,g4⟩:=bnd g4
    obtain⟨f,j,g4⟩:=bnd g4
    refine gq fol [3,4,6] (kAb l ((3,.gslice 2 f.length 3)::(kAX d))) (.dead::(kE a.Kind a.At a.Letter (kBN f))) (ac (iv sl53 qm e) (ac (la ag84 qm e) (ac (hs (.run [0,1] (vG ZT [55,55] (.gslice 0 b.length 3) (.slice 1 0 1 1 3)) (.cells (b.flatMap qm.c)::(kE a.Kind a.At a.Letter [])) (.gslice 2 f.length 3) (.dead::(kE a.Kind a.At a.Letter (kBN f))) true) (qco sl55 (E:=qm) rfl (src_c (E:=qm) (ys:=[a]) rfl rfl rfl rfl) (dst_g (E:=qm) (l:=b) rfl rfl rfl j rfl))) az))) ?_
    refine gh fol (kAb l ((3,.gslice 2 f.length 3)::(kAX (w64 (d+1))))) ?_
    exact⟨M,(ofG 19 (kAb l ((3,.gslice 0 f.length 3)::(kAX (w64 (d+1))))),(kBN f)),Nat.lt_succ_self _,(Sub.norm [] [some 2] rfl rfl (.keep (.same (ql qm _)) (.keep (.gslice rfl) (.keep (.same nI) .nil))) (.ks .nil)),_,_,rfl,g4⟩
   refine Goes.exit ?_
   obtain rfl:=si g4
   exact⟨rfl,_,rfl,(Sub.keep [3] rfl rfl)⟩
 rintro x s' ⟨rfl,g,rfl,hsub⟩
 refine Goes.sub hsub ?_
 refine sh fol [(2,.gslice 0 g.length 3)] ?_
 refine Goes.ret ?_
 obtain rfl:=si h
 exact(gw2 [.gslice 0 g.length 3] (FzW.fz (Fz.gs (E:=qm) rfl rfl (nl rfl))))
def jQ (a:List Int):Option Bool:=
 some true
theorem qaA (a:List Int) {res:Bool} (h:jQ a=some res):qf ZT (.fn 209) [vl encI a] [] (.bool res) []:=by
 unfold jQ at h
 refine Uc Tryz.func209 rfl rfl (m:=3) rfl (rs:=[.tmp 2]) rfl (l:=(kH a [])) rfl ?_
 refine sh fol [] ?_
 refine sh fol [(2,.bool true)] ?_
 refine Goes.ret ?_
 obtain rfl:=si h
 exact(gw2 [.bool true] (Ua tB))
def jR (l:List Int):Option Bool:=
 (idx l 0).bind fun a=>
 (idx l 1).bind fun b=>
 some (decide (a=(w64 (0-b))))
theorem qaJ (l:List Int) {res:Bool} (h:jR l=some res):qf ZT (.fn 211) [vl encI l] [] (.bool res) []:=by
 unfold jR at h
 refine Uc Tryz.func211 rfl rfl (m:=11) rfl (rs:=[.tmp 2]) rfl (l:=(kH l [])) rfl ?_
 refine sh fol (kH l []) ?_
 obtain⟨c,a,h⟩:=bnd h
 obtain⟨d,b,h⟩:=bnd h
 refine sq (gr fol [1,2,4,5] [(2,.bool (decide (c=(w64 (0-d)))))] (ac (iv ja encI a) (ac (lv 0 ce3 encI a rfl) (ac (iv ja encI b) (ac (lv 0 ce3 encI b rfl) az)))) ?_)
 refine Goes.ret ?_
 obtain rfl:=si h
 exact(gw2 [.bool (decide (c=(w64 (0-d))))] (Ua tB))
def ji (l:List Int):Option Bool:=
 (idx l 0).bind fun a=>
 (zf a).bind fun b=>
 (idx l 1).bind fun c=>
 (zf c).bind fun d=>
 (zf (w64 (b-d))).bind fun e=>
 some (decide (e>=2))
theorem qaF (l:List Int) {res:Bool} (h:ji l=some res):qf ZT (.fn 213) [vl encI l] [] (.bool res) []:=by
 unfold ji at h
 refine Uc Tryz.func213 rfl rfl (m:=14) rfl (rs:=[.tmp 2]) rfl (l:=(kH l [])) rfl ?_
 refine sh fol (kH l []) ?_
 obtain⟨g,a,h⟩:=bnd h
 obtain⟨i,c,h⟩:=bnd h
 obtain⟨j,b,h⟩:=bnd h
 obtain⟨k,d,h⟩:=bnd h
 obtain⟨f,e,h⟩:=bnd h
 refine sq (gr fol [1,2,3,5,6,7,9] [(2,.bool (decide (f>=2)))] (ac (iv ja encI a) (ac (lv 0 ce3 encI a rfl) (ac (cv (qp g c)) (ac (iv ja encI b) (ac (lv 0 ce3 encI b rfl) (ac (cv (qp j d)) (ac (cv (qp (w64 (i-k)) e)) az))))))) ?_)
 refine Goes.ret ?_
 obtain rfl:=si h
 exact(gw2 [.bool (decide (f>=2))] (Ua tB))
def vz (l:List Int):Option Bool:=
 (idx l 0).bind fun a=>
 (idx l 1).bind fun b=>
 (idx l 2).bind fun h=>
 ((zf a).bind fun i=>
 (zf h).bind fun j=>
 if i=j then
 (zf a).bind fun k=>
 (zf b).bind fun m=>
 (zf (w64 (k-m))).bind fun n=>
 if n=1 then
 (zh a).bind fun c=>
 (zh b).bind fun d=>
 if c=d then
 some true
 else
 (zh b).bind fun e=>
 (zh h).bind fun f=>
 some (decide (e=f))
 else
 some false
 else
 some false:Option Bool).bind fun g=>
 some g
theorem qby (l:List Int) {res:Bool} (h:vz l=some res):qf ZT (.fn 215) [vl encI l] [] (.bool res) []:=by
 unfold vz at h
 refine Uc Tryz.func215 rfl rfl (m:=43) rfl (rs:=[.tmp 2]) rfl (l:=(kH l [])) rfl ?_
 refine sh fol (kH l []) ?_
 obtain⟨k,o,h⟩:=bnd h
 obtain⟨r,p,h⟩:=bnd h
 obtain⟨v,q,h⟩:=bnd h
 refine sq (gr fol [1,2,4,5,7,8] ((3,.i k)::(4,.i r)::(kAc v)) (ac (iv ja encI o) (ac (lv 0 ce3 encI o rfl) (ac (iv ja encI p) (ac (lv 0 ce3 encI p rfl) (ac (iv ja encI q) (ac (lv 0 ce3 encI q rfl) az)))))) ?_)
 refine sq ?_
 obtain⟨w,a,h⟩:=bnd h
 refine Goes.cut (s':=(ofG 43 [(2,.bool w)],[])) ?_ ?_
 ·obtain⟨E,b,a⟩:=bnd a
  obtain⟨F,c,a⟩:=bnd a
  rcases wyD a with⟨x,a⟩|⟨x,a⟩
  ·obtain⟨y,d,a⟩:=bnd a
   obtain⟨z,e,a⟩:=bnd a
   obtain⟨G,f,a⟩:=bnd a
   rcases wyD a with⟨n,a⟩|⟨n,a⟩
   ·obtain⟨C,g,a⟩:=bnd a
    obtain⟨D,j,a⟩:=bnd a
    rcases wyD a with⟨s,a⟩|⟨s,a⟩
    ·obtain rfl:=si a
     exact tr fol [1,3,5,7,9,11,14,16,18,20] [(2,.bool true)] (ac (cv (qp k b)) (ac (cv (qp v c)) (ac (gw x) (ac (cv (qp k d)) (ac (cv (qp r e)) (ac (cv (qp (w64 (y-z)) f)) (ac (gw n) (ac (cv (kz k g)) (ac (cv (kz r j)) (ac (gw s) az))))))))))
    obtain⟨A,t,a⟩:=bnd a
    obtain⟨B,u,a⟩:=bnd a
    obtain rfl:=si a
    exact tr fol [1,3,5,7,9,11,14,16,18,20,22,24] [(2,.bool (decide (A=B)))] (ac (cv (qp k b)) (ac (cv (qp v c)) (ac (gw x) (ac (cv (qp k d)) (ac (cv (qp r e)) (ac (cv (qp (w64 (y-z)) f)) (ac (gw n) (ac (cv (kz k g)) (ac (cv (kz r j)) (ac (gw s) (ac (cv (kz r t)) (ac (cv (kz v u)) az))))))))))))
   obtain rfl:=si a
   exact tr fol [1,3,5,7,9,11,14] [(2,.bool false)] (ac (cv (qp k b)) (ac (cv (qp v c)) (ac (gw x) (ac (cv (qp k d)) (ac (cv (qp r e)) (ac (cv (qp (w64 (y-z)) f)) (ac (gw n) az)))))))
  obtain rfl:=si a
  exact tr fol [1,3,5] [(2,.bool false)] (ac (cv (qp k b)) (ac (cv (qp v c)) (ac (gw x) az)))
 refine Goes.ret ?_
 obtain rfl:=si h
 exact(gw2 [.bool w] (Ua tB))
def zI:Option Unit:=
 some ()
theorem jg {res:Unit} (h:zI=some res):qf ZT (.fn 183) [] [] (fm1) []:=by
 unfold zI at h
 refine Uc Tryz.func183 rfl rfl (m:=7) rfl (rs:=[.tmp 0]) rfl (l:=[]) rfl ?_
 refine sh fol [] ?_
 refine sg fol [(0,.map 0)] [.map kAz [.agg [.i 0,.func (.func 209) [] [],.func (.func 210) [] []],.agg [.i 2,.func (.func 211) [] [],.func (.func 212) [] []],.agg [.i 2,.func (.func 213) [] [],.func (.func 214) [] []],.agg [.i 3,.func (.func 215) [] [],.func (.func 216) [] []]]] ?_
 refine Goes.ret ?_
 obtain rfl:=si h
 exact(gw2 [.map 0] (FzW.of (by kernel_rfl)))
end Go.Av
