/-
  Walks of functions: what each computes, as a plain function.
-/
import Derived.Test.YtppehbboaidbgaaGreatDoorQGenP1
open Go.IntKind(wrap)
noncomputable section
namespace Go.Av
open Go.Proofs Go.RowKit
set_option linter.unusedSectionVars false
set_option linter.unusedVariables false
set_option linter.unusedSimpArgs false
set_option maxRecDepth 100000
def zW (b:List Int) (a:Int):Nat->(List Int)->Int->Option (List Int)
 |0,_,_=>none
 |K+1,f,c=>
  if c<(b.length:Int)then
  (((idx b c).bind fun e=>
  (idx f c).bind fun g=>
  (qh2 .u64 e a).bind fun h=>
  (put f c (orI .u64 g h)).bind fun d=>
  if a>0 then
  (qkL .u64 e (w64 (64-a))).bind fun i=>
  (idx d (w64 (c+1))).bind fun k=>
  (put d (w64 (c+1)) i).bind fun j=>
  some j
  else
  some d:Option (List Int))).bind fun l=>
  zW b a K l (w64 (c+1))
  else
  some f
def xB (N:Nat) (a:List Int) (b:Int):Option (List Int):=
 (mk 8 (w64 ((a.length:Int)+1)) 0).bind fun c=>
 (zW a b N c 0).bind fun d=>
 some d
theorem qc7 (N:Nat) (a:List Int) (b:Int) {G:List Int} (h:xB N a b=some G):qb ZT (.fn 267) [vl ZU a,.i b] [] (.slice 0 0 G.length G.length 1) [.cells (G.flatMap ZU.c)]:=by
 unfold xB at h;refine Us Tryz.func267 rfl rfl (m:=40) rfl (rs:=[.tmp 4]) rfl (l:=[(0,vl ZU a),(1,.i b)]) rfl ?_;intro B hB;refine sh fol [(0,vl ZU a),(1,.i b)] ?_;obtain⟨D,F,h⟩:=bnd h;refine sq (gq fol [3] ((0,vl ZU a)::(1,.i b)::(kE D [])) [.cells (D.flatMap ZU.c)] (ac (hs (.run [] (zF ZT 96 (.i (w64 ((a.length:Int)+1))) (.i (w64 ((a.length:Int)+1)))) [] (.slice 0 0 D.length D.length 1) [.cells (D.flatMap ZU.c)] false) (qec zU (E:=ZU) (z:=0) rfl (by kernel_rfl) F rfl)) az) ?_);refine sq ?_;refine sh fol ((1,.i b)::(kE D [(12,vl ZU a),(13,.i (a.length:Int)),(14,.i 0)])) ?_;refine Goes.block ?_;obtain⟨I,g6,h⟩:=bnd h;refine Goes.imp (Q:=fun x s'=>(x= .exit 0/\ ∃r,r=I/\Sub s' (ofG 40 (kE r []),[.cells (r.flatMap ZU.c)]))) ?_ ?_
 ·refine Ud (fun M s=> ∃(g:List Int) (d:Int),s=(ofG 40 ((1,.i b)::(kE g ((12,vl ZU a)::(kAS (a.length:Int) d)))),[.cells (g.flatMap ZU.c)])/\zW a b M g d=some I) ?_ (m:=N) ⟨_,_,rfl,g6⟩;rintro M s ⟨g,d,rfl,g6⟩
  cases M with
  |zero=>simp only[zW]at g6;cases g6
  |succ M=>
   rw[zW]at g6;refine sh fol ((1,.i b)::(kE g [(12,vl ZU a),(13,.i (a.length:Int)),(14,.i d),(15,.bool (decide (d<(a.length:Int))))])) ?_;refine sq ?_;refine ihD g6 (fun J g6=>?_) (fun J g6=>?_)
   ·refine Goes.skip ?_;refine sq ?_;obtain⟨K,g9,g6⟩:=bnd g6;refine Goes.imp (Q:=fun x s'=>(x= .normal/\ ∃t,t=K/\Sub s' (ofG 40 ((1,.i b)::(kE t ((12,vl ZU a)::(kAS (a.length:Int) d)))),[.cells (t.flatMap ZU.c)]))) ?_ ?_
    ·refine Goes.block ?_;obtain⟨j,k,g9⟩:=bnd g9;refine sq (gr fol [1,2] ((1,.i b)::(kE g ((6,.i d)::(kAj j ((12,vl ZU a)::(kAS (a.length:Int) d)))))) (ac (iv zU ZU k) (ac (lv 0 z8 ZU k rfl) az)) ?_);obtain⟨u,f,g9⟩:=bnd g9;obtain⟨v,w,g9⟩:=bnd g9;obtain⟨e,n,g9⟩:=bnd g9;refine sq (gq fol [2,3,6,8,9] ((1,.i b)::(kE g ((6,.i d)::(kAj j ((12,vl ZU a)::(kAS (a.length:Int) d)))))) [.cells (e.flatMap ZU.c)] (ac (hs (.done (.opt (ql ZT 96 (.slice 0 0 g.length g.length 1) (.i d))) (.ptr 0 ((d:Int).toNat*1+0))) (qaT zU f)) (ac (hs (.run [0] (jD ZT 222 (.ptr 0 ((d:Int).toNat*1+0))) [.cells (g.flatMap ZU.c)] (.int .u64 u) [.cells (g.flatMap ZU.c)] false) (qcR z8 (E:=ZU) (l:=g) rfl rfl f (nl rfl) rfl)) (ac (hs (.done (.opt (ku ZT .shl 222 (.tmp 23) (.tmp 24) (.int .u64 j) (.i b))) (.int .u64 v)) (qgp w)) (ac (hs (.done (.opt (ql ZT 96 (.slice 0 0 g.length g.length 1) (.i d))) (.ptr 0 ((d:Int).toNat*1+0))) (qaT zU f)) (ac (hs (.run [0] (qx ZT 222 (.ptr 0 ((d:Int).toNat*1+0)) (.int .u64 (orI .u64 u v))) [.cells (g.flatMap ZU.c)] .undef [.cells (e.flatMap ZU.c)] true) (qau (E:=ZU) (l:=g) (y:=orI .u64 u v) rfl (show _=some 1 by kernel_rfl) rfl f rfl rfl rfl rfl rfl n rfl)) az))))) ?_);refine Goes.sub (show Sub (ofG 40 ((1,.i b)::(kE g ((6,.i d)::(kAj j ((12,vl ZU a)::(kAS (a.length:Int) d)))))),[.cells (e.flatMap ZU.c)]) (ofG 40 ((1,.i b)::(kE e ((6,.i d)::(kAj j ((12,vl ZU a)::(kAS (a.length:Int) d)))))),[.cells (e.flatMap ZU.c)])from(Uc [] [some 0] (by rw[hB];rfl) rfl (.keep (.same nI) (.keep (.sliceE rfl (yf n)) (.keep (.same nI) (.keep (.same nI) (.keep (.same (qf ZU _)) (.keep (.same nI) (.keep (.same nI) .nil))))))) (.ks .nil))) ?_;refine sh fol ((1,.i b)::(kE e ((6,.i d)::(kAj j [(12,vl ZU a),(13,.i (a.length:Int)),(14,.i d),(29,.bool (decide (b>0)))])))) ?_;refine ihD g9 (fun H g9=>?_) (fun H g9=>?_)
     ·obtain⟨A,C,g9⟩:=bnd g9;obtain⟨L,o,g9⟩:=bnd g9;obtain⟨p,q,g9⟩:=bnd g9;refine gq fol [6,7,8] ((1,.i b)::(kE e ((12,vl ZU a)::(kAS (a.length:Int) d)))) [.cells (p.flatMap ZU.c)] (ac (hs (.done (.opt (ku ZT .shr 222 (.tmp 33) (.tmp 35) (.int .u64 j) (.i (w64 (64-b))))) (.int .u64 A)) (qhI C)) (ac (hs (.done (.opt (ql ZT 96 (.slice 0 0 e.length e.length 1) (.i (w64 (d+1))))) (.ptr 0 ((w64 (d+1):Int).toNat*1+0))) (qaT zU o)) (ac (hs (.run [0] (qx ZT 222 (.ptr 0 ((w64 (d+1):Int).toNat*1+0)) (.int .u64 A)) [.cells (e.flatMap ZU.c)] .undef [.cells (p.flatMap ZU.c)] true) (qau (E:=ZU) (l:=e) (y:=A) rfl (show _=some 1 by kernel_rfl) rfl o rfl rfl rfl rfl rfl q rfl)) az))) ?_;obtain rfl:=si g9;exact⟨rfl,_,rfl,((show Sub (ofG 40 ((1,.i b)::(kE e ((12,vl ZU a)::(kAS (a.length:Int) d)))),[.cells (p.flatMap ZU.c)]) (ofG 40 ((1,.i b)::(kE p ((12,vl ZU a)::(kAS (a.length:Int) d)))),[.cells (p.flatMap ZU.c)])from(Uc [] [some 0] (by rw[hB];rfl) rfl (.keep (.same nI) (.keep (.sliceE rfl (yf q)) (.keep (.same (qf ZU _)) (.keep (.same nI) (.keep (.same nI) .nil))))) (.ks .nil))).trans (Sub.refl _))⟩
     refine Goes.skip ?_;obtain rfl:=si g9;exact⟨rfl,_,rfl,(Sub.keep [1,5,12,13,14] rfl rfl)⟩
    rintro x s' ⟨rfl,t,rfl,hsub⟩;refine Goes.sub hsub ?_;refine gh fol ((1,.i b)::(kE t ((12,vl ZU a)::(kAS (a.length:Int) (w64 (d+1)))))) ?_;exact⟨M,(ofG 40 ((1,.i b)::(kE t ((12,vl ZU a)::(kAS (a.length:Int) (w64 (d+1)))))),[.cells (t.flatMap ZU.c)]),Nat.lt_succ_self _,(Sub.refl _),_,_,rfl,g6⟩
   refine Goes.exit ?_;obtain rfl:=si g6;exact⟨rfl,_,rfl,(Sub.keep [5] rfl rfl)⟩
 rintro x s' ⟨rfl,r,rfl,hsub⟩;refine Goes.sub hsub ?_;refine sh fol [(4,.slice 0 0 r.length r.length 1)] ?_;refine Goes.ret ?_;obtain rfl:=si h;exact(gh2 [.slice 0 0 r.length r.length 1] (qe4.refl _ _))
def yB (e:List Int) (f:Nat) (g:Nat) (a:List Int):Nat->Int->Int->Int->Option Int
 |0,_,_,_=>none
 |K+1,b,c,i=>
  if i=0 then
  (idx a (w64 ((a.length:Int)-2))).bind fun j=>
  (bits_Mul64 b j).bind fun d=>
  (if d.1<c then
  some true
  else
  if d.1=c then
  (qgA e f g (w64 ((a.length:Int)-2))).bind fun k=>
  some (decide (d.2<=k))
  else
  some false:Option Bool).bind fun l=>
  if l=true then
  some b
  else
  (idx a (w64 ((a.length:Int)-1))).bind fun m=>
  (qak c m 0).bind fun h=>
  yB e f g a K (wrap .u64 (b-1)) h.1 h.2
  else
  some b
def vJ (b:Nat) (e:Nat) (c:List Int) (f:Int):Nat->(List Int)->Int->Int->Int->Option ((List Int)×Int×Int)
 |0,_,_,_,_=>none
 |K+1,d,a,g,h=>
  if a<(c.length:Int)then
  (idx c a).bind fun l=>
  (bits_Mul64 f l).bind fun i=>
  (qak i.2 h 0).bind fun j=>
  (qgA d b e a).bind fun m=>
  (qey m j.1 g).bind fun k=>
  (put d ((b+(a:Int).toNat:Nat):Int) k.1).bind fun n=>
  vJ b e c f K n (w64 (a+1)) k.2 (wrap .u64 (i.1+j.2))
  else
  some (d,g,h)
def vD (b:Nat) (e:Nat) (c:List Int):Nat->(List Int)->Int->Int->Option ((List Int)×Int)
 |0,_,_,_=>none
 |K+1,d,a,f=>
  if a<(c.length:Int)then
  (qgA d b e a).bind fun h=>
  (idx c a).bind fun i=>
  (qak h i f).bind fun g=>
  (put d ((b+(a:Int).toNat:Nat):Int) g.1).bind fun j=>
  vD b e c K j (w64 (a+1)) g.2
  else
  some (d,f)
def qca (N:Nat) (d:List Int) (b:Nat) (c:Nat) (v:Nat) (a:List Int):Option ((List Int)×Int):=
 (qgA d b c (a.length:Int)).bind fun u=>
 (idx a (w64 ((a.length:Int)-1))).bind fun l=>
 ((if u>=l then
 (qgA d b c (w64 ((a.length:Int)-1))).bind fun m=>
 (qak m l 0).bind fun f=>
 some (18446744073709551615,f.1,f.2)
 else
 (qgA d b c (w64 ((a.length:Int)-1))).bind fun n=>
 (qbc N u n l).bind fun g=>
 some (g.1,g.2,0):Option (Int×Int×Int))).bind fun(w,x,y)=>
 (yB d b c a N w x y).bind fun e=>
 (vJ b c a e N d 0 0 0).bind fun(h,o,p)=>
 (qgA h b c (a.length:Int)).bind fun q=>
 (qey q p o).bind fun i=>
 (put h ((b+((a.length:Int):Int).toNat:Nat):Int) i.1).bind fun j=>
 if i.2=0 then
 some (j,e)
 else
 (vD b c a N j 0 0).bind fun(k,r)=>
 (qgA k b c (a.length:Int)).bind fun s=>
 (put k ((b+((a.length:Int):Int).toNat:Nat):Int) (wrap .u64 (s+r))).bind fun t=>
 some (t,wrap .u64 (e-1))
theorem qiq (N:Nat) (j:List Int) (b:Nat) (d:Nat) (e:Nat) (a:List Int) {l1:List Int} {n2:Int} (h:qca N j b d e a=some (l1,n2)):qb ZT (.fn 268) [.slice 0 b d e 1,vl ZU a] [.cells (j.flatMap ZU.c)] (.int .u64 n2) [.cells (l1.flatMap ZU.c)]:=by
 unfold qca at h;refine Us Tryz.func268 rfl rfl (m:=186) rfl (rs:=[.tmp 4]) rfl (l:=[(0,.slice 0 b d e 1),(1,vl ZU a)]) rfl ?_;intro B hB;refine sh fol [(0,.slice 0 b d e 1),(1,vl ZU a)] ?_;refine sh fol ((0,.slice 0 b d e 1)::(1,vl ZU a)::(kA8 (a.length:Int))) ?_;refine sh fol ((0,.slice 0 b d e 1)::(1,vl ZU a)::(kA8 (a.length:Int))) ?_;refine sh fol ((0,.slice 0 b d e 1)::(1,vl ZU a)::(5,.i (a.length:Int))::(kBj [])) ?_;refine sq ?_;obtain⟨x3,K,h⟩:=bnd h;obtain⟨x4,u,h⟩:=bnd h;refine sq (gr fol [2,3,7,8] ((0,.slice 0 b d e 1)::(1,vl ZU a)::(5,.i (a.length:Int))::(kBj [(30,.bool (decide (x3>=x4)))])) (ac (hs (.done (.opt (ql ZT 96 (.slice 0 b d e 1) (.i (a.length:Int)))) (.ptr 0 ((((b+((a.length:Int):Int).toNat:Nat):Int):Int).toNat*1+0))) (qdn zU K)) (ac (hs (.run [0] (jD ZT 222 (.ptr 0 ((((b+((a.length:Int):Int).toNat:Nat):Int):Int).toNat*1+0))) [.cells (j.flatMap ZU.c)] (.int .u64 x3) [.cells (j.flatMap ZU.c)] false) (qcR z8 (E:=ZU) (l:=j) rfl rfl (wI K) (nl rfl) rfl)) (ac (iv zU ZU u) (ac (lv 0 z8 ZU u rfl) az)))) ?_);obtain⟨r8,g8,h⟩:=bnd h;refine Goes.imp (Q:=fun x s'=>(x= .normal/\ ∃n5 n6 n7,(n5,n6,n7)=r8/\Sub s' (ofG 186 ((0,.slice 0 b d e 1)::(1,vl ZU a)::(kU (a.length:Int) n5 (kAG n6 n7 []))),[.cells (j.flatMap ZU.c)]))) ?_ ?_
 ·refine ihD g8 (fun c9 g8=>?_) (fun c9 g8=>?_)
  ·refine sh fol [(0,.slice 0 b d e 1),(1,vl ZU a),(5,.i (a.length:Int)),(6,.int .u64 18446744073709551615)] ?_;obtain⟨c7,P,g8⟩:=bnd g8;obtain⟨c8,b1,g8⟩:=bnd g8;refine gr fol [3,4,8,9,10] ((0,.slice 0 b d e 1)::(1,vl ZU a)::(5,.i (a.length:Int))::(6,.int .u64 18446744073709551615)::(kAG c8.1 c8.2 [])) (ac (hs (.done (.opt (ql ZT 96 (.slice 0 b d e 1) (.i (w64 ((a.length:Int)-1))))) (.ptr 0 ((((b+(w64 ((a.length:Int)-1):Int).toNat:Nat):Int):Int).toNat*1+0))) (qdn zU P)) (ac (hs (.run [0] (jD ZT 222 (.ptr 0 ((((b+(w64 ((a.length:Int)-1):Int).toNat:Nat):Int):Int).toNat*1+0))) [.cells (j.flatMap ZU.c)] (.int .u64 c7) [.cells (j.flatMap ZU.c)] false) (qcR z8 (E:=ZU) (l:=j) rfl rfl (wI P) (nl rfl) rfl)) (ac (iv zU ZU u) (ac (lv 0 z8 ZU u rfl) (ac (cv (qcF c7 x4 0 b1)) az))))) ?_;obtain rfl:=si g8;exact⟨rfl,_,_,_,rfl,(Sub.refl _)⟩
  obtain⟨d0,U,g8⟩:=bnd g8;obtain⟨d1,b2,g8⟩:=bnd g8;refine gr fol [2,3,7,8,12,13,14] ((0,.slice 0 b d e 1)::(1,vl ZU a)::(kU (a.length:Int) d1.1 (kAj d1.2 (kBj [])))) (ac (hs (.done (.opt (ql ZT 96 (.slice 0 b d e 1) (.i (a.length:Int)))) (.ptr 0 ((((b+((a.length:Int):Int).toNat:Nat):Int):Int).toNat*1+0))) (qdn zU K)) (ac (hs (.run [0] (jD ZT 222 (.ptr 0 ((((b+((a.length:Int):Int).toNat:Nat):Int):Int).toNat*1+0))) [.cells (j.flatMap ZU.c)] (.int .u64 x3) [.cells (j.flatMap ZU.c)] false) (qcR z8 (E:=ZU) (l:=j) rfl rfl (wI K) (nl rfl) rfl)) (ac (hs (.done (.opt (ql ZT 96 (.slice 0 b d e 1) (.i (w64 ((a.length:Int)-1))))) (.ptr 0 ((((b+(w64 ((a.length:Int)-1):Int).toNat:Nat):Int):Int).toNat*1+0))) (qdn zU U)) (ac (hs (.run [0] (jD ZT 222 (.ptr 0 ((((b+(w64 ((a.length:Int)-1):Int).toNat:Nat):Int):Int).toNat*1+0))) [.cells (j.flatMap ZU.c)] (.int .u64 d0) [.cells (j.flatMap ZU.c)] false) (qcR z8 (E:=ZU) (l:=j) rfl rfl (wI U) (nl rfl) rfl)) (ac (iv zU ZU u) (ac (lv 0 z8 ZU u rfl) (ac (cv (qft N x3 d0 x4 b2)) az))))))) ?_;obtain rfl:=si g8;exact⟨rfl,_,_,_,rfl,(Sub.refl _)⟩
 rintro x s' ⟨rfl,n5,n6,n7,rfl,hsub⟩
 try dsimp only at h
 refine Goes.sub hsub ?_;refine sq (Goes.block ?_);obtain⟨d2,g19,h⟩:=bnd h;refine Goes.imp (Q:=fun x s'=>(x= .exit 0/\ ∃f,f=d2/\Sub s' (ofG 186 ((0,.slice 0 b d e 1)::(1,vl ZU a)::(kU (a.length:Int) f [])),[.cells (j.flatMap ZU.c)]))) ?_ ?_
 ·refine Ud (fun M s=> ∃(o:Int) (q:Int) (a4:Int),s=(ofG 186 ((0,.slice 0 b d e 1)::(1,vl ZU a)::(kU (a.length:Int) o (kAG q a4 []))),[.cells (j.flatMap ZU.c)])/\yB j b d a M o q a4=some d2) ?_ (m:=N) ⟨_,_,_,rfl,g19⟩;rintro M s ⟨o,q,a4,rfl,g19⟩
  cases M with
  |zero=>simp only[yB]at g19;cases g19
  |succ M=>
   rw[yB]at g19;refine sq ?_;refine sh fol ((0,.slice 0 b d e 1)::(1,vl ZU a)::(kU (a.length:Int) o (kAj q [(64,.bool (decide (a4=0)))]))) ?_;refine ihD g19 (fun c20 g19=>?_) (fun c20 g19=>?_)
   ·refine Goes.skip ?_;refine Goes.block ?_;obtain⟨x21,V,g19⟩:=bnd g19;obtain⟨b3,b4,g19⟩:=bnd g19;refine sq (gr fol [4,5,6] ((0,.slice 0 b d e 1)::(1,vl ZU a)::(kU (a.length:Int) o (kAj q [(9,.int .u64 b3.1),(10,.int .u64 b3.2)]))) (ac (iv zU ZU V) (ac (lv 0 z8 ZU V rfl) (ac (cv (qbX o x21 b4)) az))) ?_);refine sq ?_;refine sq ?_;obtain⟨b26,k,g19⟩:=bnd g19;refine Ue (s':=(ofG 186 ((0,.slice 0 b d e 1)::(1,vl ZU a)::(kU (a.length:Int) o (kAj q [(91,.bool b26)]))),[.cells (j.flatMap ZU.c)])) ?_ ?_
    ·rcases wyD k with⟨a5,k⟩|⟨a5,k⟩
     ·obtain rfl:=si k;exact tr fol [3] ((0,.slice 0 b d e 1)::(1,vl ZU a)::(kU (a.length:Int) o (kAj q [(91,.bool true)]))) (ac (gw a5) az)
     rcases wyD k with⟨b5,k⟩|⟨b5,k⟩
     ·obtain⟨d3,X,k⟩:=bnd k;obtain rfl:=si k;exact tr fol [3,7,12,13] ((0,.slice 0 b d e 1)::(1,vl ZU a)::(kU (a.length:Int) o (kAj q [(91,.bool (decide (b3.2<=d3)))]))) (ac (gw a5) (ac (gw b5) (ac (hs (.done (.opt (ql ZT 96 (.slice 0 b d e 1) (.i (w64 ((a.length:Int)-2))))) (.ptr 0 ((((b+(w64 ((a.length:Int)-2):Int).toNat:Nat):Int):Int).toNat*1+0))) (qdn zU X)) (ac (hs (.run [0] (jD ZT 222 (.ptr 0 ((((b+(w64 ((a.length:Int)-2):Int).toNat:Nat):Int):Int).toNat*1+0))) [.cells (j.flatMap ZU.c)] (.int .u64 d3) [.cells (j.flatMap ZU.c)] false) (qcR z8 (E:=ZU) (l:=j) rfl rfl (wI X) (nl rfl) rfl)) az))))
     obtain rfl:=si k;exact tr fol [3,7] ((0,.slice 0 b d e 1)::(1,vl ZU a)::(kU (a.length:Int) o (kAj q [(91,.bool false)]))) (ac (gw a5) (ac (gw b5) az))
    refine ihB g19 (fun c28 g19=>?_) (fun c28 g19=>?_)
    ·refine Goes.exit ?_;obtain rfl:=si g19;exact⟨rfl,_,rfl,(Sub.keep [0,1,5,6] rfl rfl)⟩
    refine Goes.skip ?_;refine sh fol ((0,.slice 0 b d e 1)::(1,vl ZU a)::(kU (a.length:Int) (wrap .u64 (o-1)) (kAj q []))) ?_;obtain⟨x29,Y,g19⟩:=bnd g19;obtain⟨a6,b6,g19⟩:=bnd g19;refine gr fol [4,5,6] ((0,.slice 0 b d e 1)::(1,vl ZU a)::(kU (a.length:Int) (wrap .u64 (o-1)) (kAG a6.1 a6.2 []))) (ac (iv zU ZU Y) (ac (lv 0 z8 ZU Y rfl) (ac (cv (qcF q x29 0 b6)) az))) ?_;exact⟨M,(ofG 186 ((0,.slice 0 b d e 1)::(1,vl ZU a)::(kU (a.length:Int) (wrap .u64 (o-1)) (kAG a6.1 a6.2 []))),[.cells (j.flatMap ZU.c)]),Nat.lt_succ_self _,(Sub.refl _),_,_,_,rfl,g19⟩
   refine Goes.exit ?_;obtain rfl:=si g19;exact⟨rfl,_,rfl,(Sub.keep [0,1,5,6] rfl rfl)⟩
 rintro x s' ⟨rfl,f,rfl,hsub⟩;refine Goes.sub hsub ?_;refine sh fol ((0,.slice 0 b d e 1)::(1,vl ZU a)::(kU (a.length:Int) f [(11,.int .u64 0),(12,.int .u64 0)])) ?_;refine sq ?_;refine sh fol ((0,.slice 0 b d e 1)::(1,vl ZU a)::(kU (a.length:Int) f [(11,.int .u64 0),(12,.int .u64 0),(104,.i (a.length:Int)),(105,.i 0)])) ?_;refine Goes.block ?_;obtain⟨d4,g38,h⟩:=bnd h;refine Goes.imp (Q:=fun x s'=>(x= .exit 2/\ ∃C a7 a8,(C,a7,a8)=d4/\Sub s' (ofG 186 ((0,.slice 0 b d e 1)::(1,vl ZU a)::(kU (a.length:Int) f (kAC a7 a8 []))),[.cells (C.flatMap ZU.c)]))) ?_ ?_
 ·refine Ud (fun M s=> ∃(D:List Int) (g:Int) (r:Int) (F:Int),s=(ofG 186 ((0,.slice 0 b d e 1)::(1,vl ZU a)::(kU (a.length:Int) f (kAC r F (kA4 (a.length:Int) g)))),[.cells (D.flatMap ZU.c)])/\vJ b d a f M D g r F=some d4) ?_ (m:=N) ⟨_,_,_,_,rfl,g38⟩;rintro M s ⟨D,g,r,F,rfl,g38⟩
  cases M with
  |zero=>simp only[vJ]at g38;cases g38
  |succ M=>
   rw[vJ]at g38;refine sh fol ((0,.slice 0 b d e 1)::(1,vl ZU a)::(kU (a.length:Int) f (kAC r F [(104,.i (a.length:Int)),(105,.i g),(106,.bool (decide (g<(a.length:Int))))]))) ?_;refine sq ?_;refine ihD g38 (fun c39 g38=>?_) (fun c39 g38=>?_)
   ·refine Goes.skip ?_;refine sq (Goes.block ?_);refine sh fol ((0,.slice 0 b d e 1)::(1,vl ZU a)::(kU (a.length:Int) f (kAC r F ((13,.i g)::(kA4 (a.length:Int) g))))) ?_;obtain⟨x40,Z,g38⟩:=bnd g38;obtain⟨p,b7,g38⟩:=bnd g38;refine sq (gr fol [3,4,5] ((0,.slice 0 b d e 1)::(1,vl ZU a)::(kU (a.length:Int) f (kAC r F ((13,.i g)::(kBM p.1 p.2 (kA4 (a.length:Int) g)))))) (ac (iv zU ZU Z) (ac (lv 0 z8 ZU Z rfl) (ac (cv (qbX f x40 b7)) az))) ?_);refine sh fol ((0,.slice 0 b d e 1)::(1,vl ZU a)::(kU (a.length:Int) f (kAC r F ((13,.i g)::(kBM p.1 p.2 (kA4 (a.length:Int) g)))))) ?_;obtain⟨t,b8,g38⟩:=bnd g38;refine sq (gr fol [2] ((0,.slice 0 b d e 1)::(1,vl ZU a)::(kU (a.length:Int) f ((11,.int .u64 r)::(13,.i g)::(kR p.1 t.1 t.2 (kA4 (a.length:Int) g))))) (ac (cv (qcF p.2 F 0 b8)) az) ?_);refine sh fol ((0,.slice 0 b d e 1)::(1,vl ZU a)::(kU (a.length:Int) f (kAC r (wrap .u64 (p.1+t.2)) ((13,.i g)::(15,.int .u64 t.1)::(kA4 (a.length:Int) g))))) ?_;obtain⟨d5,v,g38⟩:=bnd g38;obtain⟨I,b9,g38⟩:=bnd g38;obtain⟨a0,c0,g38⟩:=bnd g38;refine gq fol [4,5,8,12,13] ((0,.slice 0 b d e 1)::(1,vl ZU a)::(kU (a.length:Int) f (kAC I.2 (wrap .u64 (p.1+t.2)) (kA4 (a.length:Int) g)))) [.cells (a0.flatMap ZU.c)] (ac (hs (.done (.opt (ql ZT 96 (.slice 0 b d e 1) (.i g))) (.ptr 0 ((((b+(g:Int).toNat:Nat):Int):Int).toNat*1+0))) (qdn zU v)) (ac (hs (.run [0] (jD ZT 222 (.ptr 0 ((((b+(g:Int).toNat:Nat):Int):Int).toNat*1+0))) [.cells (D.flatMap ZU.c)] (.int .u64 d5) [.cells (D.flatMap ZU.c)] false) (qcR z8 (E:=ZU) (l:=D) rfl rfl (wI v) (nl rfl) rfl)) (ac (cv (qif d5 t.1 r b9)) (ac (hs (.done (.opt (ql ZT 96 (.slice 0 b d e 1) (.i g))) (.ptr 0 ((((b+(g:Int).toNat:Nat):Int):Int).toNat*1+0))) (qdn zU v)) (ac (hs (.run [0] (qx ZT 222 (.ptr 0 ((((b+(g:Int).toNat:Nat):Int):Int).toNat*1+0)) (.int .u64 I.1)) [.cells (D.flatMap ZU.c)] .undef [.cells (a0.flatMap ZU.c)] true) (qau (E:=ZU) (l:=D) (y:=I.1) rfl (show _=some 1 by kernel_rfl) rfl (wI v) rfl rfl rfl rfl rfl c0 rfl)) az))))) ?_;refine Goes.sub (show Sub (ofG 186 ((0,.slice 0 b d e 1)::(1,vl ZU a)::(kU (a.length:Int) f (kAC I.2 (wrap .u64 (p.1+t.2)) (kA4 (a.length:Int) g)))),[.cells (a0.flatMap ZU.c)]) (ofG 186 ((0,.slice 0 b d e 1)::(1,vl ZU a)::(kU (a.length:Int) f (kAC I.2 (wrap .u64 (p.1+t.2)) (kA4 (a.length:Int) g)))),[.cells (a0.flatMap ZU.c)])from(Uc [] [some 0] (by rw[hB];rfl) rfl (.keep (.slice rfl) (.keep (.same (qf ZU _)) (.keep (.same nI) (.keep (.same nI) (.keep (.same nI) (.keep (.same nI) (.keep (.same nI) (.keep (.same nI) .nil)))))))) (.ks .nil))) ?_;refine gh fol ((0,.slice 0 b d e 1)::(1,vl ZU a)::(kU (a.length:Int) f (kAC I.2 (wrap .u64 (p.1+t.2)) (kA4 (a.length:Int) (w64 (g+1)))))) ?_;exact⟨M,(ofG 186 ((0,.slice 0 b d e 1)::(1,vl ZU a)::(kU (a.length:Int) f (kAC I.2 (wrap .u64 (p.1+t.2)) (kA4 (a.length:Int) (w64 (g+1)))))),[.cells (a0.flatMap ZU.c)]),Nat.lt_succ_self _,(Sub.refl _),_,_,_,_,rfl,g38⟩
   refine Goes.exit ?_;obtain rfl:=si g38;exact⟨rfl,_,_,_,rfl,(Sub.keep [0,1,5,6,11,12] rfl rfl)⟩
 rintro x s' ⟨rfl,C,a7,a8,rfl,hsub⟩
 try dsimp only at h
 refine Goes.sub hsub ?_;obtain⟨d6,w,h⟩:=bnd h;obtain⟨L,c1,h⟩:=bnd h;obtain⟨a9,c2,h⟩:=bnd h;refine sq (gq fol [4,5,8,12,13] ((0,.slice 0 b d e 1)::(1,vl ZU a)::(kU (a.length:Int) f [(11,.int .u64 L.2)])) [.cells (a9.flatMap ZU.c)] (ac (hs (.done (.opt (ql ZT 96 (.slice 0 b d e 1) (.i (a.length:Int)))) (.ptr 0 ((((b+((a.length:Int):Int).toNat:Nat):Int):Int).toNat*1+0))) (qdn zU w)) (ac (hs (.run [0] (jD ZT 222 (.ptr 0 ((((b+((a.length:Int):Int).toNat:Nat):Int):Int).toNat*1+0))) [.cells (C.flatMap ZU.c)] (.int .u64 d6) [.cells (C.flatMap ZU.c)] false) (qcR z8 (E:=ZU) (l:=C) rfl rfl (wI w) (nl rfl) rfl)) (ac (cv (qif d6 a8 a7 c1)) (ac (hs (.done (.opt (ql ZT 96 (.slice 0 b d e 1) (.i (a.length:Int)))) (.ptr 0 ((((b+((a.length:Int):Int).toNat:Nat):Int):Int).toNat*1+0))) (qdn zU w)) (ac (hs (.run [0] (qx ZT 222 (.ptr 0 ((((b+((a.length:Int):Int).toNat:Nat):Int):Int).toNat*1+0)) (.int .u64 L.1)) [.cells (C.flatMap ZU.c)] .undef [.cells (a9.flatMap ZU.c)] true) (qau (E:=ZU) (l:=C) (y:=L.1) rfl (show _=some 1 by kernel_rfl) rfl (wI w) rfl rfl rfl rfl rfl c2 rfl)) az))))) ?_);refine Goes.sub (show Sub (ofG 186 ((0,.slice 0 b d e 1)::(1,vl ZU a)::(kU (a.length:Int) f [(11,.int .u64 L.2)])),[.cells (a9.flatMap ZU.c)]) (ofG 186 ((0,.slice 0 b d e 1)::(1,vl ZU a)::(kU (a.length:Int) f [(11,.int .u64 L.2)])),[.cells (a9.flatMap ZU.c)])from(Uc [] [some 0] (by rw[hB];rfl) rfl (.keep (.slice rfl) (.keep (.same (qf ZU _)) (.keep (.same nI) (.keep (.same nI) (.keep (.same nI) .nil))))) (.ks .nil))) ?_;refine sq ?_;refine sh fol ((0,.slice 0 b d e 1)::(1,vl ZU a)::(kU (a.length:Int) f [(154,.bool (decide (L.2=0)))])) ?_;refine ihD h (fun c51 h=>?_) (fun c51 h=>?_)
 ·refine sh fol [(4,.int .u64 f)] ?_;refine Goes.ret ?_;simp only[ZI,ZP]at h;obtain⟨rfl,rfl⟩:=h;exact(gh2 [.int .u64 f] (qe4.refl _ _))
 refine Goes.skip ?_;refine sh fol ((0,.slice 0 b d e 1)::(1,vl ZU a)::(kU (a.length:Int) f [(17,.int .u64 0)])) ?_;refine sq ?_;refine sh fol ((0,.slice 0 b d e 1)::(1,vl ZU a)::(kU (a.length:Int) f [(17,.int .u64 0),(156,.i (a.length:Int)),(157,.i 0)])) ?_;refine Goes.block ?_;obtain⟨d7,g57,h⟩:=bnd h;refine Goes.imp (Q:=fun x s'=>(x= .exit 4/\ ∃G a1,(G,a1)=d7/\Sub s' (ofG 186 ((0,.slice 0 b d e 1)::(kU (a.length:Int) f [(17,.int .u64 a1)])),[.cells (G.flatMap ZU.c)]))) ?_ ?_
 ·refine Ud (fun M s=> ∃(H:List Int) (n:Int) (O:Int),s=(ofG 186 ((0,.slice 0 b d e 1)::(1,vl ZU a)::(kU (a.length:Int) f (kBE O (a.length:Int) n []))),[.cells (H.flatMap ZU.c)])/\vD b d a M H n O=some d7) ?_ (m:=N) ⟨_,_,_,rfl,g57⟩;rintro M s ⟨H,n,O,rfl,g57⟩
  cases M with
  |zero=>simp only[vD]at g57;cases g57
  |succ M=>
   rw[vD]at g57;refine sh fol ((0,.slice 0 b d e 1)::(1,vl ZU a)::(kU (a.length:Int) f (kBE O (a.length:Int) n [(158,.bool (decide (n<(a.length:Int))))]))) ?_;refine sq ?_;refine ihD g57 (fun c58 g57=>?_) (fun c58 g57=>?_)
   ·refine Goes.skip ?_;refine sq (Goes.block ?_);refine sh fol ((0,.slice 0 b d e 1)::(1,vl ZU a)::(kU (a.length:Int) f [(17,.int .u64 O),(18,.i n),(156,.i (a.length:Int)),(157,.i n)])) ?_;obtain⟨d8,z,g57⟩:=bnd g57;obtain⟨x60,a2,g57⟩:=bnd g57;obtain⟨J,c3,g57⟩:=bnd g57;obtain⟨a3,c4,g57⟩:=bnd g57;refine gq fol [4,5,8,9,11,15,16] ((0,.slice 0 b d e 1)::(1,vl ZU a)::(kU (a.length:Int) f (kBE J.2 (a.length:Int) n []))) [.cells (a3.flatMap ZU.c)] (ac (hs (.done (.opt (ql ZT 96 (.slice 0 b d e 1) (.i n))) (.ptr 0 ((((b+(n:Int).toNat:Nat):Int):Int).toNat*1+0))) (qdn zU z)) (ac (hs (.run [0] (jD ZT 222 (.ptr 0 ((((b+(n:Int).toNat:Nat):Int):Int).toNat*1+0))) [.cells (H.flatMap ZU.c)] (.int .u64 d8) [.cells (H.flatMap ZU.c)] false) (qcR z8 (E:=ZU) (l:=H) rfl rfl (wI z) (nl rfl) rfl)) (ac (iv zU ZU a2) (ac (lv 0 z8 ZU a2 rfl) (ac (cv (qcF d8 x60 O c3)) (ac (hs (.done (.opt (ql ZT 96 (.slice 0 b d e 1) (.i n))) (.ptr 0 ((((b+(n:Int).toNat:Nat):Int):Int).toNat*1+0))) (qdn zU z)) (ac (hs (.run [0] (qx ZT 222 (.ptr 0 ((((b+(n:Int).toNat:Nat):Int):Int).toNat*1+0)) (.int .u64 J.1)) [.cells (H.flatMap ZU.c)] .undef [.cells (a3.flatMap ZU.c)] true) (qau (E:=ZU) (l:=H) (y:=J.1) rfl (show _=some 1 by kernel_rfl) rfl (wI z) rfl rfl rfl rfl rfl c4 rfl)) az))))))) ?_;refine Goes.sub (show Sub (ofG 186 ((0,.slice 0 b d e 1)::(1,vl ZU a)::(kU (a.length:Int) f (kBE J.2 (a.length:Int) n []))),[.cells (a3.flatMap ZU.c)]) (ofG 186 ((0,.slice 0 b d e 1)::(1,vl ZU a)::(kU (a.length:Int) f (kBE J.2 (a.length:Int) n []))),[.cells (a3.flatMap ZU.c)])from(Uc [] [some 0] (by rw[hB];rfl) rfl (.keep (.slice rfl) (.keep (.same (qf ZU _)) (.keep (.same nI) (.keep (.same nI) (.keep (.same nI) (.keep (.same nI) (.keep (.same nI) .nil))))))) (.ks .nil))) ?_;refine gh fol ((0,.slice 0 b d e 1)::(1,vl ZU a)::(kU (a.length:Int) f (kBE J.2 (a.length:Int) (w64 (n+1)) []))) ?_;exact⟨M,(ofG 186 ((0,.slice 0 b d e 1)::(1,vl ZU a)::(kU (a.length:Int) f (kBE J.2 (a.length:Int) (w64 (n+1)) []))),[.cells (a3.flatMap ZU.c)]),Nat.lt_succ_self _,(Sub.refl _),_,_,_,rfl,g57⟩
   refine Goes.exit ?_;obtain rfl:=si g57;exact⟨rfl,_,_,rfl,(Sub.keep [0,5,6,17] rfl rfl)⟩
 rintro x s' ⟨rfl,G,a1,rfl,hsub⟩
 try dsimp only at h
 refine Goes.sub hsub ?_;obtain⟨c5,A,h⟩:=bnd h;obtain⟨b0,c6,h⟩:=bnd h;refine sq (gq fol [2,3,6,7] (kAQ f []) [.cells (b0.flatMap ZU.c)] (ac (hs (.done (.opt (ql ZT 96 (.slice 0 b d e 1) (.i (a.length:Int)))) (.ptr 0 ((((b+((a.length:Int):Int).toNat:Nat):Int):Int).toNat*1+0))) (qdn zU A)) (ac (hs (.run [0] (jD ZT 222 (.ptr 0 ((((b+((a.length:Int):Int).toNat:Nat):Int):Int).toNat*1+0))) [.cells (G.flatMap ZU.c)] (.int .u64 c5) [.cells (G.flatMap ZU.c)] false) (qcR z8 (E:=ZU) (l:=G) rfl rfl (wI A) (nl rfl) rfl)) (ac (hs (.done (.opt (ql ZT 96 (.slice 0 b d e 1) (.i (a.length:Int)))) (.ptr 0 ((((b+((a.length:Int):Int).toNat:Nat):Int):Int).toNat*1+0))) (qdn zU A)) (ac (hs (.run [0] (qx ZT 222 (.ptr 0 ((((b+((a.length:Int):Int).toNat:Nat):Int):Int).toNat*1+0)) (.int .u64 (wrap .u64 (c5+a1)))) [.cells (G.flatMap ZU.c)] .undef [.cells (b0.flatMap ZU.c)] true) (qau (E:=ZU) (l:=G) (y:=wrap .u64 (c5+a1)) rfl (show _=some 1 by kernel_rfl) rfl (wI A) rfl rfl rfl rfl rfl c6 rfl)) az)))) ?_);refine Goes.sub (show Sub (ofG 186 (kAQ f []),[.cells (b0.flatMap ZU.c)]) (ofG 186 (kAQ f []),[.cells (b0.flatMap ZU.c)])from(Uc [] [some 0] (by rw[hB];rfl) rfl (.keep (.same nI) .nil) (.ks .nil))) ?_;refine sh fol [(4,.int .u64 (wrap .u64 (f-1)))] ?_;refine Goes.ret ?_;simp only[ZI,ZP]at h;obtain⟨rfl,rfl⟩:=h;exact(gh2 [.int .u64 (wrap .u64 (f-1))] (qe4.refl _ _))
def yj (N:Nat) (a:List Int) (b:List Int):Nat->(List Int)->Int->Int->Option ((List Int)×Int)
 |0,_,_,_=>none
 |K+1,e,i,c=>
  if c>=0 then
  (idx a c).bind fun f=>
  (idx b 0).bind fun g=>
  (qbc N i f g).bind fun d=>
  (idx e c).bind fun j=>
  (put e c d.1).bind fun h=>
  yj N a b K h d.2 (w64 (c-1))
  else
  some (e,i)
def yh (N:Nat) (c:List Int):Nat->(List Int)->(List Int)->Int->Option ((List Int)×(List Int))
 |0,_,_,_=>none
 |K+1,b,d,a=>
  if a>=0 then
  (win b a (w64 ((w64 (a+(c.length:Int)))+1))).bind fun(e,g)=>
  (qca N b e g (b.length-e) c).bind fun(f,h)=>
  ((if b.length=f.length then some ()else none:Option Unit)).bind fun j=>
  (idx d a).bind fun k=>
  (put d a h).bind fun i=>
  yh N c K f i (w64 (a-1))
  else
  some (b,d)
def vo (c:Int) (e:List Int):Nat->(List Int)->Int->Option (List Int)
 |0,_,_=>none
 |K+1,d,a=>
  if a<(e.length:Int)then
  (((idx d a).bind fun f=>
  (qkL .u64 f c).bind fun g=>
  (put d a g).bind fun b=>
  (if c>0 then
  some (decide ((w64 (a+1))<(b.length:Int)))
  else
  some false:Option Bool).bind fun h=>
  if h=true then
  (idx b a).bind fun i=>
  (idx b (w64 (a+1))).bind fun j=>
  (qh2 .u64 j (w64 (64-c))).bind fun k=>
  (put b a (orI .u64 i k)).bind fun l=>
  some l
  else
  some b:Option (List Int))).bind fun m=>
  vo c e K m (w64 (a+1))
  else
  some d
def qbf (N:Nat) (a:List Int) (b:List Int):Option ((List Int)×(List Int)):=
 (jW N a b).bind fun q=>
 if q<0 then
 some ([],a)
 else
 if(b.length:Int)=1 then
 (mk 8 (a.length:Int) 0).bind fun r=>
 (yj N a b N r 0 (w64 ((a.length:Int)-1))).bind fun(s,t)=>
 (xq N s).bind fun e=>
 (xq N ([t]:List Int)).bind fun f=>
 some (e,f)
 else
 (idx b (w64 ((b.length:Int)-1))).bind fun g=>
 (bits_LeadingZeros64 g).bind fun d=>
 (xB N b d).bind fun h=>
 (xq N h).bind fun c=>
 (xB N a d).bind fun i=>
 (mk 8 (w64 ((w64 ((a.length:Int)-(c.length:Int)))+1)) 0).bind fun j=>
 (yh N c N i j (w64 ((a.length:Int)-(c.length:Int)))).bind fun(k,l)=>
 (vo d c N k 0).bind fun m=>
 (xq N l).bind fun n=>
 (cut m 0 (c.length:Int)).bind fun o=>
 (xq N o).bind fun p=>
 some (n,p)
theorem qfs (N:Nat) (a:List Int) (b:List Int) {res:(List Int)×(List Int)} (h:qbf N a b=some res):qb ZT (.fn 239) [vl ZU a,vl ZU b] [] (.tuple [vl ZU res.1,vl ZU res.2]) []:=by
 unfold qbf at h;refine Ub Tryz.func239 rfl rfl (m:=137) rfl (rs:=[.tmp 4,.tmp 5]) rfl (l:=[(0,vl ZU a),(1,vl ZU b)]) rfl ?_;refine sh fol [(0,vl ZU a),(1,vl ZU b)] ?_;refine sq ?_;obtain⟨r1,e_r1,h⟩:=bnd h;refine sq (gr fol [2] [(0,vl ZU a),(1,vl ZU b),(19,.bool (decide (r1<0)))] (ac (cv (qci N a b e_r1)) az) ?_);refine ihD h (fun c2 h=>?_) (fun c2 h=>?_)
 ·refine sh fol [(4,.nilslice),(5,vl ZU a)] ?_;refine Goes.ret ?_;obtain rfl:=si h;exact(gw2 [.nilslice,vl ZU a] (FzW.tuple (qd.cons (FzW.nilv (E:=ZU)) (qd.cons (Ua (qB ZU _ (nl rfl))) qd.nil))))
 refine Goes.skip ?_;refine sq ?_;refine sh fol [(0,vl ZU a),(1,vl ZU b),(23,.bool (decide ((b.length:Int)=1)))] ?_;refine ihD h (fun c3 h=>?_) (fun c3 h=>?_)
 ·obtain⟨l4,e_l4,h⟩:=bnd h;refine sq (gq fol [2] ((0,vl ZU a)::(1,vl ZU b)::(kX l4 [])) [.cells (l4.flatMap ZU.c)] (ac (hs (.run [] (zF ZT 96 (.i (a.length:Int)) (.i (a.length:Int))) [] (.slice 0 0 l4.length l4.length 1) [.cells (l4.flatMap ZU.c)] false) (qec zU (E:=ZU) (z:=0) rfl (by kernel_rfl) e_l4 rfl)) az) ?_);refine sh fol ((0,vl ZU a)::(1,vl ZU b)::(kX l4 [(7,.int .u64 0)])) ?_;refine sq ?_;refine sh fol ((0,vl ZU a)::(1,vl ZU b)::(kX l4 [(7,.int .u64 0),(8,.i (w64 ((a.length:Int)-1)))])) ?_;refine Goes.block ?_;obtain⟨r10,g10,h⟩:=bnd h;refine Goes.imp (Q:=fun x s'=>(x= .exit 0/\ ∃J n9,(J,n9)=r10/\Sub s' (ofG 137 (kX J (kAj n9 [])),[.cells (J.flatMap ZU.c)]))) ?_ ?_
  ·refine Ud (fun M s=> ∃(K:List Int) (n6:Int) (F:Int),s=(ofG 137 ((0,vl ZU a)::(1,vl ZU b)::(kX K (kAj n6 [(8,.i F)]))),[.cells (K.flatMap ZU.c)])/\yj N a b M K n6 F=some r10) ?_ (m:=N) ⟨_,_,_,rfl,g10⟩;rintro M s ⟨K,n6,F,rfl,g10⟩
   cases M with
   |zero=>simp only[yj]at g10;cases g10
   |succ M=>
    rw[yj]at g10;refine sq ?_;refine sh fol ((0,vl ZU a)::(1,vl ZU b)::(kX K (kAj n6 [(8,.i F),(31,.bool (decide (F>=0)))]))) ?_;refine ihD g10 (fun c11 g10=>?_) (fun c11 g10=>?_)
    ·refine Goes.skip ?_;refine sq (Goes.block ?_);obtain⟨x12,L,g10⟩:=bnd g10;obtain⟨x13,O,g10⟩:=bnd g10;obtain⟨C,e_r14,g10⟩:=bnd g10;obtain⟨x15,P,g10⟩:=bnd g10;obtain⟨A,U,g10⟩:=bnd g10;refine gq fol [5,6,8,9,10,14,15] ((0,vl ZU a)::(1,vl ZU b)::(kX K (kAj C.2 [(8,.i F)]))) [.cells (A.flatMap ZU.c)] (ac (iv zU ZU L) (ac (lv 0 z8 ZU L rfl) (ac (iv zU ZU O) (ac (lv 0 z8 ZU O rfl) (ac (cv (qft N n6 x12 x13 e_r14)) (ac (hs (.done (.opt (ql ZT 96 (.slice 0 0 K.length K.length 1) (.i F))) (.ptr 0 ((F:Int).toNat*1+0))) (qaT zU P)) (ac (hs (.run [0] (qx ZT 222 (.ptr 0 ((F:Int).toNat*1+0)) (.int .u64 C.1)) [.cells (K.flatMap ZU.c)] .undef [.cells (A.flatMap ZU.c)] true) (qau (E:=ZU) (l:=K) (y:=C.1) rfl (show _=some 1 by kernel_rfl) rfl P rfl rfl rfl rfl rfl U rfl)) az))))))) ?_;refine Goes.sub (show Sub (ofG 137 ((0,vl ZU a)::(1,vl ZU b)::(kX K (kAj C.2 [(8,.i F)]))),[.cells (A.flatMap ZU.c)]) (ofG 137 ((0,vl ZU a)::(1,vl ZU b)::(kX A (kAj C.2 [(8,.i F)]))),[.cells (A.flatMap ZU.c)])from(Uc [] [some 0] rfl rfl (.keep (.same (qf ZU _)) (.keep (.same (qf ZU _)) (.keep (.sliceE rfl (yf U)) (.keep (.same nI) (.keep (.same nI) .nil))))) (.ks .nil))) ?_;refine gh fol ((0,vl ZU a)::(1,vl ZU b)::(kX A (kAj C.2 [(8,.i (w64 (F-1)))]))) ?_;exact⟨M,(ofG 137 ((0,vl ZU a)::(1,vl ZU b)::(kX A (kAj C.2 [(8,.i (w64 (F-1)))]))),[.cells (A.flatMap ZU.c)]),Nat.lt_succ_self _,(Sub.refl _),_,_,_,rfl,g10⟩
    refine Goes.exit ?_;obtain rfl:=si g10;exact⟨rfl,_,_,rfl,(Sub.keep [6,7] rfl rfl)⟩
  rintro x s' ⟨rfl,J,n9,rfl,hsub⟩
  try dsimp only at h
  refine Goes.sub hsub ?_;obtain⟨V,e_r17,h⟩:=bnd h;obtain⟨X,e_r18,h⟩:=bnd h;refine sq (gq fol [1,4] [(4,vl ZU V),(5,vl ZU X)] [.frozen (J.flatMap ZU.c),.frozen [.int .u64 n9]] (ac (hs (.callF 244 [.slice 0 0 J.length J.length 1] [.cells (J.flatMap ZU.c)] [0] [vl ZU J] (vl ZU V)) (qaV (FzL.cons (Fz.sl (E:=ZU) rfl rfl (nl rfl)) FzL.nil) (xE N J e_r17) (qB ZU _ (nl rfl)))) (ac (hs (.callF 244 [.slice 1 0 1 1 1] [.frozen (J.flatMap ZU.c),.cells [.int .u64 n9]] [1] [vl ZU ([n9]:List Int)] (vl ZU X)) (qaV (FzL.cons (Fz.lit rfl rfl (Ug (AllST.cons tI AllST.nil))) FzL.nil) (xE N ([n9]:List Int) e_r18) (qB ZU _ (nl rfl)))) az)) ?_);refine Goes.sub (show Sub (ofG 137 [(4,vl ZU V),(5,vl ZU X)],[.frozen (J.flatMap ZU.c),.frozen [.int .u64 n9]]) (ofG 137 [(4,vl ZU V),(5,vl ZU X)],[])from(Uc [] [] rfl rfl (.keep (.same (qf ZU _)) (.keep (.same (qf ZU _)) .nil)) .nil)) ?_;refine Goes.ret ?_;obtain rfl:=si h;exact(gw2 [vl ZU V,vl ZU X] (FzW.tuple (qd.cons (Ua (qB ZU _ (nl rfl))) (qd.cons (Ua (qB ZU _ (nl rfl))) qd.nil))))
 refine Goes.skip ?_;obtain⟨x19,Y,h⟩:=bnd h;obtain⟨g,e_r20,h⟩:=bnd h;refine sq (gr fol [4,5,6] [(0,vl ZU a),(1,vl ZU b),(9,.i g)] (ac (iv zU ZU Y) (ac (lv 0 z8 ZU Y rfl) (ac (cv (qbm x19 e_r20)) az))) ?_);obtain⟨t,e_r21,h⟩:=bnd h;obtain⟨d,e_r23,h⟩:=bnd h;refine sq (gq fol [2,3] [(0,vl ZU a),(9,.i g),(10,vl ZU d)] [.frozen (t.flatMap ZU.c)] (ac (hs (.callH 267 [vl ZU b,.i g] [] [] (.slice 0 0 t.length t.length 1) [.cells (t.flatMap ZU.c)]) (qbL [] [some 0] (qc7 N b g e_r21) .nil rfl rfl (.new rfl rfl (.same fa) rfl .nil) (rc (.same (qf ZU _)) (rc (.same nI) rn)) (.slice rfl) rfl)) (ac (hs (.callF 244 [.slice 0 0 t.length t.length 1] [.cells (t.flatMap ZU.c)] [0] [vl ZU t] (vl ZU d)) (qaV (FzL.cons (Fz.sl (E:=ZU) rfl rfl (nl rfl)) FzL.nil) (xE N t e_r23) (qB ZU _ (nl rfl)))) az)) ?_);refine Goes.sub (show Sub (ofG 137 [(0,vl ZU a),(9,.i g),(10,vl ZU d)],[.frozen (t.flatMap ZU.c)]) (ofG 137 [(0,vl ZU a),(9,.i g),(10,vl ZU d)],[])from(Uc [] [] rfl rfl (.keep (.same (qf ZU _)) (.keep (.same nI) (.keep (.same (qf ZU _)) .nil))) .nil)) ?_;obtain⟨p,e_r24,h⟩:=bnd h;refine sq (gq fol [2] [(0,vl ZU a),(9,.i g),(10,vl ZU d),(11,.slice 0 0 p.length p.length 1)] [.cells (p.flatMap ZU.c)] (ac (hs (.callH 267 [vl ZU a,.i g] [] [] (.slice 0 0 p.length p.length 1) [.cells (p.flatMap ZU.c)]) (qbL [] [some 0] (qc7 N a g e_r24) .nil rfl rfl (.new rfl rfl (.same fa) rfl .nil) (rc (.same (qf ZU _)) (rc (.same nI) rn)) (.slice rfl) rfl)) az) ?_);refine sh fol [(0,vl ZU a),(9,.i g),(10,vl ZU d),(11,.slice 0 0 p.length p.length 1),(12,.i (d.length:Int))] ?_;obtain⟨G,e_l26,h⟩:=bnd h;refine sq (gq fol [5] ((0,vl ZU a)::(9,.i g)::(10,vl ZU d)::(kH p (d.length:Int) G [])) [.cells (p.flatMap ZU.c),.cells (G.flatMap ZU.c)] (ac (hs (.run [] (zF ZT 96 (.i (w64 ((w64 ((a.length:Int)-(d.length:Int)))+1))) (.i (w64 ((w64 ((a.length:Int)-(d.length:Int)))+1)))) [.cells (p.flatMap ZU.c)] (.slice 1 0 G.length G.length 1) [.cells (p.flatMap ZU.c),.cells (G.flatMap ZU.c)] false) (qec zU (E:=ZU) (z:=0) rfl (by kernel_rfl) e_l26 rfl)) az) ?_);refine sq ?_;refine sh fol ((9,.i g)::(10,vl ZU d)::(kH p (d.length:Int) G [(14,.i (w64 ((a.length:Int)-(d.length:Int))))])) ?_;refine Goes.block ?_;obtain⟨r32,g32,h⟩:=bnd h;refine Goes.imp (Q:=fun x s'=>(x= .exit 2/\ ∃Z e,(Z,e)=r32/\Sub s' (ofG 137 ((9,.i g)::(kH Z (d.length:Int) e [])),[.cells (Z.flatMap ZU.c),.cells (e.flatMap ZU.c)]))) ?_ ?_
 ·refine Ud (fun M s=> ∃(o:List Int) (q:List Int) (n:Int),s=(ofG 137 ((9,.i g)::(10,vl ZU d)::(kH o (d.length:Int) q [(14,.i n)])),[.cells (o.flatMap ZU.c),.cells (q.flatMap ZU.c)])/\yh N d M o q n=some r32) ?_ (m:=N) ⟨_,_,_,rfl,g32⟩;rintro M s ⟨o,q,n,rfl,g32⟩
  cases M with
  |zero=>simp only[yh]at g32;cases g32
  |succ M=>
   rw[yh]at g32;refine sq ?_;refine sh fol ((9,.i g)::(10,vl ZU d)::(kH o (d.length:Int) q [(14,.i n),(81,.bool (decide (n>=0)))])) ?_;refine ihD g32 (fun c33 g32=>?_) (fun c33 g32=>?_)
   ·refine Goes.skip ?_;refine sq (Goes.block ?_);obtain⟨⟨H,n36⟩,e_w34,g32⟩:=bnd g32
    try dsimp only at g32
    obtain⟨⟨u,n39⟩,e_r37,g32⟩:=bnd g32
    try dsimp only at g32
    obtain⟨u40,e_u40,g32⟩:=bnd g32;obtain⟨x41,a0,g32⟩:=bnd g32;obtain⟨B,a1,g32⟩:=bnd g32;refine gq fol [8,10,11,12] ((9,.i g)::(10,vl ZU d)::(kH o (d.length:Int) q [(14,.i n)])) [.cells (u.flatMap ZU.c),.cells (B.flatMap ZU.c)] (ac (hs (.done (.opt (kg ZT 96 (.slice 0 0 o.length o.length 1) (some (.i n)) (some (.i (w64 ((w64 (n+(d.length:Int)))+1)))) none)) (.slice 0 H n36 (o.length-H) 1)) (wn_ix zU e_w34)) (ac (hs (.callH 268 [.slice 0 H n36 (o.length-H) 1,vl ZU d] [.cells (o.flatMap ZU.c),.cells (q.flatMap ZU.c)] [0] (.int .u64 n39) [.cells (u.flatMap ZU.c),.cells (q.flatMap ZU.c)]) (qbL [some 0] [some 0,none] (qiq N o H n36 (o.length-H) d e_r37) (.ks .nil) rfl rfl (.back rfl rfl (.same fa) rfl (.old rfl rfl .nil)) (rc (.slice rfl) (rc (.same (qf ZU _)) rn)) (.same nI) rfl)) (ac (hs (.done (.opt (ql ZT 96 (.slice 1 0 q.length q.length 1) (.i n))) (.ptr 1 ((n:Int).toNat*1+0))) (qaT zU a0)) (ac (hs (.run [1] (qx ZT 222 (.ptr 1 ((n:Int).toNat*1+0)) (.int .u64 n39)) [.cells (u.flatMap ZU.c),.cells (q.flatMap ZU.c)] .undef [.cells (u.flatMap ZU.c),.cells (B.flatMap ZU.c)] true) (qau (E:=ZU) (l:=q) (y:=n39) rfl (show _=some 1 by kernel_rfl) rfl a0 rfl rfl rfl rfl rfl a1 rfl)) az)))) ?_;refine Goes.sub (show Sub (ofG 137 ((9,.i g)::(10,vl ZU d)::(kH o (d.length:Int) q [(14,.i n)])),[.cells (u.flatMap ZU.c),.cells (B.flatMap ZU.c)]) (ofG 137 ((9,.i g)::(10,vl ZU d)::(kH u (d.length:Int) B [(14,.i n)])),[.cells (u.flatMap ZU.c),.cells (B.flatMap ZU.c)])from(Uc [] [some 0,some 1] rfl rfl (.keep (.same nI) (.keep (.same (qf ZU _)) (.keep (.sliceE rfl (qra e_u40)) (.keep (.same nI) (.keep (.sliceE rfl (yf a1)) (.keep (.same nI) .nil)))))) (.ks (.ks .nil)))) ?_;refine gh fol ((9,.i g)::(10,vl ZU d)::(kH u (d.length:Int) B [(14,.i (w64 (n-1)))])) ?_;exact⟨M,(ofG 137 ((9,.i g)::(10,vl ZU d)::(kH u (d.length:Int) B [(14,.i (w64 (n-1)))])),[.cells (u.flatMap ZU.c),.cells (B.flatMap ZU.c)]),Nat.lt_succ_self _,(Sub.refl _),_,_,_,rfl,g32⟩
   refine Goes.exit ?_;obtain rfl:=si g32;exact⟨rfl,_,_,rfl,(Sub.keep [9,11,12,13] rfl rfl)⟩
 rintro x s' ⟨rfl,Z,e,rfl,hsub⟩
 try dsimp only at h
 refine Goes.sub hsub ?_;refine sq ?_;refine sh fol ((9,.i g)::(kH Z (d.length:Int) e [(96,.i (d.length:Int)),(97,.i 0)])) ?_;refine Goes.block ?_;obtain⟨r46,g46,h⟩:=bnd h;refine Goes.imp (Q:=fun x s'=>(x= .exit 4/\ ∃I,I=r46/\Sub s' (ofG 137 (kH I (d.length:Int) e []),[.cells (I.flatMap ZU.c),.cells (e.flatMap ZU.c)]))) ?_ ?_
 ·refine Ud (fun M s=> ∃(k:List Int) (f:Int),s=(ofG 137 ((9,.i g)::(kH k (d.length:Int) e (kBI (d.length:Int) f))),[.cells (k.flatMap ZU.c),.cells (e.flatMap ZU.c)])/\vo g d M k f=some r46) ?_ (m:=N) ⟨_,_,rfl,g46⟩;rintro M s ⟨k,f,rfl,g46⟩
  cases M with
  |zero=>simp only[vo]at g46;cases g46
  |succ M=>
   rw[vo]at g46;refine sh fol ((9,.i g)::(kH k (d.length:Int) e [(96,.i (d.length:Int)),(97,.i f),(98,.bool (decide (f<(d.length:Int))))])) ?_;refine sq ?_;refine ihD g46 (fun c47 g46=>?_) (fun c47 g46=>?_)
   ·refine Goes.skip ?_;refine sq ?_;obtain⟨r49,g49,g46⟩:=bnd g46;refine Goes.imp (Q:=fun x s'=>(x= .normal/\ ∃D,D=r49/\Sub s' (ofG 137 ((9,.i g)::(kH D (d.length:Int) e (kBI (d.length:Int) f))),[.cells (D.flatMap ZU.c),.cells (e.flatMap ZU.c)]))) ?_ ?_
    ·refine Goes.block ?_;refine sh fol ((9,.i g)::(kH k (d.length:Int) e ((15,.i f)::(kBI (d.length:Int) f)))) ?_;obtain⟨x50,v,g49⟩:=bnd g49;obtain⟨q51,e_q51,g49⟩:=bnd g49;obtain⟨j,a2,g49⟩:=bnd g49;refine sq (gq fol [2,3,5,6,7] ((9,.i g)::(kH k (d.length:Int) e ((15,.i f)::(kBI (d.length:Int) f)))) [.cells (j.flatMap ZU.c),.cells (e.flatMap ZU.c)] (ac (hs (.done (.opt (ql ZT 96 (.slice 0 0 k.length k.length 1) (.i f))) (.ptr 0 ((f:Int).toNat*1+0))) (qaT zU v)) (ac (hs (.run [0] (jD ZT 222 (.ptr 0 ((f:Int).toNat*1+0))) [.cells (k.flatMap ZU.c),.cells (e.flatMap ZU.c)] (.int .u64 x50) [.cells (k.flatMap ZU.c),.cells (e.flatMap ZU.c)] false) (qcR z8 (E:=ZU) (l:=k) rfl rfl v (nl rfl) rfl)) (ac (hs (.done (.opt (ku ZT .shr 222 (.tmp 103) (.tmp 104) (.int .u64 x50) (.i g))) (.int .u64 q51)) (qhI e_q51)) (ac (hs (.done (.opt (ql ZT 96 (.slice 0 0 k.length k.length 1) (.i f))) (.ptr 0 ((f:Int).toNat*1+0))) (qaT zU v)) (ac (hs (.run [0] (qx ZT 222 (.ptr 0 ((f:Int).toNat*1+0)) (.int .u64 q51)) [.cells (k.flatMap ZU.c),.cells (e.flatMap ZU.c)] .undef [.cells (j.flatMap ZU.c),.cells (e.flatMap ZU.c)] true) (qau (E:=ZU) (l:=k) (y:=q51) rfl (show _=some 1 by kernel_rfl) rfl v rfl rfl rfl rfl rfl a2 rfl)) az))))) ?_);refine Goes.sub (show Sub (ofG 137 ((9,.i g)::(kH k (d.length:Int) e ((15,.i f)::(kBI (d.length:Int) f)))),[.cells (j.flatMap ZU.c),.cells (e.flatMap ZU.c)]) (ofG 137 ((9,.i g)::(kH j (d.length:Int) e ((15,.i f)::(kBI (d.length:Int) f)))),[.cells (j.flatMap ZU.c),.cells (e.flatMap ZU.c)])from(Uc [] [some 0,some 1] rfl rfl (.keep (.same nI) (.keep (.sliceE rfl (yf a2)) (.keep (.same nI) (.keep (.slice rfl) (.keep (.same nI) (.keep (.same nI) (.keep (.same nI) .nil))))))) (.ks (.ks .nil)))) ?_;refine sq ?_;obtain⟨b54,r,g49⟩:=bnd g49;refine Ue (s':=(ofG 137 ((9,.i g)::(kH j (d.length:Int) e [(15,.i f),(96,.i (d.length:Int)),(97,.i f),(115,.bool b54)])),[.cells (j.flatMap ZU.c),.cells (e.flatMap ZU.c)])) ?_ ?_
     ·rcases wyD r with⟨c53,r⟩|⟨c53,r⟩
      ·obtain rfl:=si r;exact tr fol [2] ((9,.i g)::(kH j (d.length:Int) e [(15,.i f),(96,.i (d.length:Int)),(97,.i f),(115,.bool (decide ((w64 (f+1))<(j.length:Int))))])) (ac (gw c53) az)
      obtain rfl:=si r;exact tr fol [2] ((9,.i g)::(kH j (d.length:Int) e [(15,.i f),(96,.i (d.length:Int)),(97,.i f),(115,.bool false)])) (ac (gw c53) az)
     refine ihB g49 (fun c56 g49=>?_) (fun c56 g49=>?_)
     ·obtain⟨x57,w,g49⟩:=bnd g49;obtain⟨x58,a3,g49⟩:=bnd g49;obtain⟨q59,e_q59,g49⟩:=bnd g49;obtain⟨a4,a5,g49⟩:=bnd g49;refine gq fol [2,3,7,8,11,13,14] ((9,.i g)::(kH j (d.length:Int) e (kBI (d.length:Int) f))) [.cells (a4.flatMap ZU.c),.cells (e.flatMap ZU.c)] (ac (hs (.done (.opt (ql ZT 96 (.slice 0 0 j.length j.length 1) (.i f))) (.ptr 0 ((f:Int).toNat*1+0))) (qaT zU w)) (ac (hs (.run [0] (jD ZT 222 (.ptr 0 ((f:Int).toNat*1+0))) [.cells (j.flatMap ZU.c),.cells (e.flatMap ZU.c)] (.int .u64 x57) [.cells (j.flatMap ZU.c),.cells (e.flatMap ZU.c)] false) (qcR z8 (E:=ZU) (l:=j) rfl rfl w (nl rfl) rfl)) (ac (hs (.done (.opt (ql ZT 96 (.slice 0 0 j.length j.length 1) (.i (w64 (f+1))))) (.ptr 0 ((w64 (f+1):Int).toNat*1+0))) (qaT zU a3)) (ac (hs (.run [0] (jD ZT 222 (.ptr 0 ((w64 (f+1):Int).toNat*1+0))) [.cells (j.flatMap ZU.c),.cells (e.flatMap ZU.c)] (.int .u64 x58) [.cells (j.flatMap ZU.c),.cells (e.flatMap ZU.c)] false) (qcR z8 (E:=ZU) (l:=j) rfl rfl a3 (nl rfl) rfl)) (ac (hs (.done (.opt (ku ZT .shl 222 (.tmp 124) (.tmp 126) (.int .u64 x58) (.i (w64 (64-g))))) (.int .u64 q59)) (qgp e_q59)) (ac (hs (.done (.opt (ql ZT 96 (.slice 0 0 j.length j.length 1) (.i f))) (.ptr 0 ((f:Int).toNat*1+0))) (qaT zU w)) (ac (hs (.run [0] (qx ZT 222 (.ptr 0 ((f:Int).toNat*1+0)) (.int .u64 (orI .u64 x57 q59))) [.cells (j.flatMap ZU.c),.cells (e.flatMap ZU.c)] .undef [.cells (a4.flatMap ZU.c),.cells (e.flatMap ZU.c)] true) (qau (E:=ZU) (l:=j) (y:=orI .u64 x57 q59) rfl (show _=some 1 by kernel_rfl) rfl w rfl rfl rfl rfl rfl a5 rfl)) az))))))) ?_;obtain rfl:=si g49;exact⟨rfl,_,rfl,((show Sub (ofG 137 ((9,.i g)::(kH j (d.length:Int) e (kBI (d.length:Int) f))),[.cells (a4.flatMap ZU.c),.cells (e.flatMap ZU.c)]) (ofG 137 ((9,.i g)::(kH a4 (d.length:Int) e (kBI (d.length:Int) f))),[.cells (a4.flatMap ZU.c),.cells (e.flatMap ZU.c)])from(Uc [] [some 0,some 1] rfl rfl (.keep (.same nI) (.keep (.sliceE rfl (yf a5)) (.keep (.same nI) (.keep (.slice rfl) (.keep (.same nI) (.keep (.same nI) .nil)))))) (.ks (.ks .nil)))).trans (Sub.refl _))⟩
     refine Goes.skip ?_;obtain rfl:=si g49;exact⟨rfl,_,rfl,(Sub.keep [9,11,12,13,96,97] rfl rfl)⟩
    rintro x s' ⟨rfl,D,rfl,hsub⟩;refine Goes.sub hsub ?_;refine gh fol ((9,.i g)::(kH D (d.length:Int) e (kBI (d.length:Int) (w64 (f+1))))) ?_;exact⟨M,(ofG 137 ((9,.i g)::(kH D (d.length:Int) e (kBI (d.length:Int) (w64 (f+1))))),[.cells (D.flatMap ZU.c),.cells (e.flatMap ZU.c)]),Nat.lt_succ_self _,(Sub.refl _),_,_,rfl,g46⟩
   refine Goes.exit ?_;obtain rfl:=si g46;exact⟨rfl,_,rfl,(Sub.keep [11,12,13] rfl rfl)⟩
 rintro x s' ⟨rfl,I,rfl,hsub⟩;refine Goes.sub hsub ?_;refine sq (Goes.sub (s':=(ofG 137 [(11,vl ZU I),(12,.i (d.length:Int)),(13,.slice 0 0 e.length e.length 1)],[.cells (e.flatMap ZU.c)])) (Uc [0] [some 1] rfl rfl (.keep (.frz (Fz.sl (E:=ZU) rfl rfl (nl rfl)) (qf ZU _)) (.keep (.same nI) (.keep (.slice rfl) .nil))) (.ks .nil)) ?_);obtain⟨a6,e_r62,h⟩:=bnd h;obtain⟨s63,e_s63,h⟩:=bnd h;obtain⟨a7,e_r64,h⟩:=bnd h;refine gq fol [1,4,5] [(4,vl ZU a6),(5,vl ZU a7)] [.frozen (e.flatMap ZU.c)] (ac (hs (.callF 244 [.slice 0 0 e.length e.length 1] [.cells (e.flatMap ZU.c)] [0] [vl ZU e] (vl ZU a6)) (qaV (FzL.cons (Fz.sl (E:=ZU) rfl rfl (nl rfl)) FzL.nil) (xE N e e_r62) (qB ZU _ (nl rfl)))) (ac (hs (.done (.opt (kg ZT 96 (vl ZU I) none (some (.i (d.length:Int))) none)) (vl ZU s63)) (qjn zU (E:=ZU) rfl none (some (d.length:Int)) e_s63)) (ac (cv (xE N s63 e_r64)) az))) ?_;refine Goes.sub (show Sub (ofG 137 [(4,vl ZU a6),(5,vl ZU a7)],[.frozen (e.flatMap ZU.c)]) (ofG 137 [(4,vl ZU a6),(5,vl ZU a7)],[])from(Uc [] [] rfl rfl (.keep (.same (qf ZU _)) (.keep (.same (qf ZU _)) .nil)) .nil)) ?_;refine Goes.ret ?_;obtain rfl:=si h;exact(gw2 [vl ZU a6,vl ZU a7] (FzW.tuple (qd.cons (Ua (qB ZU _ (nl rfl))) (qd.cons (Ua (qB ZU _ (nl rfl))) qd.nil))))
def jI (N:Nat) (a:qp) (b:qp):Option (qp×qp):=
 (if a.w.isEmpty=true then
 if b.w.isEmpty=true then
 some (!decide (a.s=(-9223372036854775808)))
 else
 some false
 else
 some false:Option Bool).bind fun r=>
 if r=true then
 (qcH .i64 a.s b.s).bind fun q=>
 (qes .i64 a.s b.s).bind fun i=>
 ((if i<0 then
 some (w64 (q-1),w64 (i+b.s))
 else
 some (q,i):Option (Int×Int))).bind fun(t,u)=>
 some ((⟨t,[]⟩:qp),(⟨u,[]⟩:qp))
 else
 (qK a).bind fun d=>
 (qK b).bind fun j=>
 (qbf N d.2 j.2).bind fun f=>
 (vF d.1 f.1).bind fun e=>
 (vF d.1 f.2).bind fun c=>
 (kw c).bind fun k=>
 ((if k<0 then
 (qcE 1).bind fun l=>
 (xC N e l).bind fun g=>
 (vO N c b).bind fun h=>
 some (g.s,g.w,h.s,h.w)
 else
 some (e.s,e.w,c.s,c.w):Option (Int×(List Int)×Int×(List Int)))).bind fun(m,n,o,p)=>
 some ((⟨m,n⟩:qp),(⟨o,p⟩:qp))
theorem qcS (N:Nat) (a:qp) (b:qp) {res:qp×qp} (h:jI N a b=some res):qb ZT (.fn 183) [.agg (nz1 a),.agg (nz1 b)] [] (.tuple [.agg (nz1 res.1),.agg (nz1 res.2)]) []:=by
 unfold jI at h;refine Ub Tryz.func183 rfl rfl (m:=84) rfl (rs:=[.cell 4 98,.cell 5 98]) rfl (l:=[(0,.agg (nz1 a)),(1,.agg (nz1 b))]) rfl ?_;refine sg fol (kG (kBX [])) [.cells (nz1 a),.cells (nz1 b),bZ,bZ] ?_;refine sq ?_;refine sq ?_;obtain⟨b3,c,h⟩:=bnd h;refine Ue (s':=(ofG 84 (kG (kBX [(28,.bool b3)])),[.cells (nz1 a),.cells (nz1 b),bZ,bZ])) ?_ ?_
 ·rcases wyB c with⟨L,c⟩|⟨L,c⟩
  ·rcases wyB c with⟨O,c⟩|⟨O,c⟩
   ·obtain rfl:=si c;exact tr fol [2,3,6,8] (kG (kBX [(28,.bool (!decide (a.s=(-9223372036854775808))))])) (ac (hs (.done (.opt (ku ZT .eql 96 (.tmp 17) (.const (.slice none 0 0)) (nvl ZU a.w) .nilslice)) (.bool a.w.isEmpty)) (qaX qaU)) (ac (gw L) (ac (hs (.done (.opt (ku ZT .eql 96 (.tmp 21) (.const (.slice none 0 0)) (nvl ZU b.w) .nilslice)) (.bool b.w.isEmpty)) (qaX qaU)) (ac (gw O) az))))
   obtain rfl:=si c;exact tr fol [2,3,6,8] (kG (kBX [(28,.bool false)])) (ac (hs (.done (.opt (ku ZT .eql 96 (.tmp 17) (.const (.slice none 0 0)) (nvl ZU a.w) .nilslice)) (.bool a.w.isEmpty)) (qaX qaU)) (ac (gw L) (ac (hs (.done (.opt (ku ZT .eql 96 (.tmp 21) (.const (.slice none 0 0)) (nvl ZU b.w) .nilslice)) (.bool b.w.isEmpty)) (qaX qaU)) (ac (gw O) az))))
  obtain rfl:=si c;exact tr fol [2,3] (kG (kBX [(28,.bool false)])) (ac (hs (.done (.opt (ku ZT .eql 96 (.tmp 17) (.const (.slice none 0 0)) (nvl ZU a.w) .nilslice)) (.bool a.w.isEmpty)) (qaX qaU)) (ac (gw L) az))
 refine ihB h (fun c5 h=>?_) (fun c5 h=>?_)
 ·obtain⟨M,F,h⟩:=bnd h;obtain⟨G,H,h⟩:=bnd h;refine sq (gr fol [4,9] (kAN (kAg (kBX (kAK M G [])))) (ac (hs (.done (.opt (ku ZT .quo 3 (.tmp 30) (.tmp 32) (.i a.s) (.i b.s))) (.i M)) (qcl F)) (ac (hs (.done (.opt (ku ZT .rem 3 (.tmp 35) (.tmp 37) (.i a.s) (.i b.s))) (.i G)) (qgo H)) az)) ?_);refine sq ?_;refine sh fol (kAN (kAg (kBX (kAK M G [(40,.bool (decide (G<0)))])))) ?_;obtain⟨P,g10,h⟩:=bnd h;refine Goes.imp (Q:=fun x s'=>(x= .normal/\ ∃I J,(I,J)=P/\Sub s' (ofG 84 (kAs ((5,.ptr 1 0)::(kAK I J []))),[bZ,bZ]))) ?_ ?_
  ·refine ihD g10 (fun U g10=>?_) (fun U g10=>?_)
   ·refine gh fol (kAg (kBX (kAK (w64 (M-1)) (w64 (G+b.s)) []))) ?_;obtain rfl:=si g10;exact⟨rfl,_,_,rfl,(Uc [] [some 2,some 3] rfl rfl (.kp (.kp (.keep (.same nI) (.keep (.same nI) .nil)))) (.kb rfl (.same sn) (.kb rfl (.same sn) .nil)))⟩
   refine Goes.skip ?_;obtain rfl:=si g10;exact⟨rfl,_,_,rfl,(Uc [] [some 2,some 3] rfl rfl (.drop (.kp (.kp (.keep (.same nI) (.keep (.same nI) .nil))))) (.kb rfl (.same sn) (.kb rfl (.same sn) .nil)))⟩
  rintro x s' ⟨rfl,I,J,rfl,hsub⟩
  try dsimp only at h
  refine Goes.sub hsub ?_;refine sg fol (kAs [(5,.ptr 1 0)]) (.cells [.i I,.nilslice]::(kBK J)) ?_;refine Goes.ret ?_;obtain rfl:=si h;exact(gw2 [.agg [.i I,.nilslice],.agg [.i J,.nilslice]] (FzW.tuple (qd.cons (FzW.agg (qd.cons (Ua tI) (qd.cons (Uq (E:=ZU)) qd.nil))) (qd.cons (FzW.agg (qd.cons (Ua tI) (qd.cons (Uq (E:=ZU)) qd.nil))) qd.nil))))
 refine Goes.skip ?_;obtain⟨j,r,h⟩:=bnd h;refine sq (gr fol [1] (kAN (kAg (kBX [(8,.bool j.1),(9,vl ZU j.2)]))) (ac (cv (zQ a r)) az) ?_);obtain⟨K,t,h⟩:=bnd h;refine sq (gr fol [1] (kAN (kAg (kBX [(8,.bool j.1),(9,vl ZU j.2),(11,vl ZU K.2)]))) (ac (cv (zQ b t)) az) ?_);obtain⟨q,u,h⟩:=bnd h;refine sq (gr fol [2] (kAN (kAg (kBX [(8,.bool j.1),(12,vl ZU q.1),(13,vl ZU q.2)]))) (ac (cv (qfs N j.2 K.2 u)) az) ?_);obtain⟨o,v,h⟩:=bnd h;obtain⟨k,y,h⟩:=bnd h;refine sq (gq fol [2,5,8,9] (kAN (kAg (kBX [(14,.ptr 4 0),(15,.ptr 5 0)]))) [.cells (nz1 a),.cells (nz1 b),bZ,bZ,.cells (nz1 o),.cells (nz1 k)] (ac (cv (qaq j.1 q.1 v)) (ac (cv (qaq j.1 q.2 y)) (ac (hs (.run [4] (qx ZT 98 (.ptr 4 0) (.agg (nz1 o))) [.cells (nz1 a),.cells (nz1 b),bZ,bZ,bZ,bZ] .undef [.cells (nz1 a),.cells (nz1 b),bZ,bZ,.cells (nz1 o),bZ] true) (qV (n:=2) (by kernel_rfl) rfl rfl rfl rfl (cac rfl (cac nvc can)) rfl)) (ac (hs (.run [5] (qx ZT 98 (.ptr 5 0) (.agg (nz1 k))) [.cells (nz1 a),.cells (nz1 b),bZ,bZ,.cells (nz1 o),bZ] .undef [.cells (nz1 a),.cells (nz1 b),bZ,bZ,.cells (nz1 o),.cells (nz1 k)] true) (qV (n:=2) (by kernel_rfl) rfl rfl rfl rfl (cac rfl (cac nvc can)) rfl)) az)))) ?_);refine sq ?_;obtain⟨V,z,h⟩:=bnd h;refine sq (gr fol [1] (kAN (kAg (kBX [(14,.ptr 4 0),(15,.ptr 5 0),(75,.bool (decide (V<0)))]))) (ac (cv (yI k z)) az) ?_);obtain⟨X,g22,h⟩:=bnd h;refine Goes.imp (Q:=fun x s'=>(x= .normal/\ ∃d e f g,(d,e,f,g)=X/\Sub s' (ofG 84 (kAs [(5,.ptr 1 0),(14,.ptr 2 0),(15,.ptr 3 0)]),[bZ,bZ,.cells (ni1 d e),.cells (ni1 f g)]))) ?_ ?_
 ·refine ihD g22 (fun Y g22=>?_) (fun Y g22=>?_)
  ·obtain⟨Z,A,g22⟩:=bnd g22;obtain⟨p,B,g22⟩:=bnd g22;obtain⟨C,D,g22⟩:=bnd g22;refine gq fol [1,2,5,6,7] (kAg (kBX [(14,.ptr 4 0),(15,.ptr 5 0)])) [.cells (nz1 a),.cells (nz1 b),bZ,bZ,.cells (nz1 p),.cells (nz1 C)] (ac (cv (qbP 1 A)) (ac (cv (qeu N o Z B)) (ac (cv (qaL N k b D)) (ac (hs (.run [4] (qx ZT 98 (.ptr 4 0) (.agg (nz1 p))) [.cells (nz1 a),.cells (nz1 b),bZ,bZ,.cells (nz1 o),.cells (nz1 k)] .undef [.cells (nz1 a),.cells (nz1 b),bZ,bZ,.cells (nz1 p),.cells (nz1 k)] true) (qV (n:=2) (by kernel_rfl) rfl rfl rfl rfl (cac rfl (cac nvc can)) rfl)) (ac (hs (.run [5] (qx ZT 98 (.ptr 5 0) (.agg (nz1 C))) [.cells (nz1 a),.cells (nz1 b),bZ,bZ,.cells (nz1 p),.cells (nz1 k)] .undef [.cells (nz1 a),.cells (nz1 b),bZ,bZ,.cells (nz1 p),.cells (nz1 C)] true) (qV (n:=2) (by kernel_rfl) rfl rfl rfl rfl (cac rfl (cac nvc can)) rfl)) az))))) ?_;obtain rfl:=si g22;exact⟨rfl,_,_,_,_,rfl,(Uc [] [some 2,some 3,some 4,some 5] rfl rfl (.kp (.kp (.kp (.kp .nil)))) (.kb rfl (.same sn) (.kb rfl (.same sn) (.kb rfl (.same sn) (.kb rfl (.same sn) .nil)))))⟩
  refine Goes.skip ?_;obtain rfl:=si g22;exact⟨rfl,_,_,_,_,rfl,(Uc [] [some 2,some 3,some 4,some 5] rfl rfl (.drop (.kp (.kp (.kp (.kp .nil))))) (.kb rfl (.same sn) (.kb rfl (.same sn) (.kb rfl (.same sn) (.kb rfl (.same sn) .nil)))))⟩
 rintro x s' ⟨rfl,d,e,f,g,rfl,hsub⟩
 try dsimp only at h
 refine Goes.sub hsub ?_;refine sq (gq fol [2,3] (kAs [(5,.ptr 1 0)]) [.cells (ni1 d e),.cells (ni1 f g),.cells (ni1 d e),.cells (ni1 f g)] (ac (hs (.run [0] (qx ZT 98 (.ptr 0 0) (.agg (ni1 d e))) [bZ,bZ,.cells (ni1 d e),.cells (ni1 f g)] .undef [.cells (ni1 d e),bZ,.cells (ni1 d e),.cells (ni1 f g)] true) (qV (n:=2) (by kernel_rfl) rfl rfl rfl rfl (cac rfl (cac nvc can)) rfl)) (ac (hs (.run [1] (qx ZT 98 (.ptr 1 0) (.agg (ni1 f g))) [.cells (ni1 d e),bZ,.cells (ni1 d e),.cells (ni1 f g)] .undef [.cells (ni1 d e),.cells (ni1 f g),.cells (ni1 d e),.cells (ni1 f g)] true) (qV (n:=2) (by kernel_rfl) rfl rfl rfl rfl (cac rfl (cac nvc can)) rfl)) az)) ?_);refine Goes.ret ?_;obtain rfl:=si h;exact(gw2 [.agg (ni1 d e),.agg (ni1 f g)] (FzW.tuple (qd.cons (FzW.agg (qd.cons (Ua tI) (qd.cons (Ua (qD ZU _ (nl rfl))) qd.nil))) (qd.cons (FzW.agg (qd.cons (Ua tI) (qd.cons (Ua (qD ZU _ (nl rfl))) qd.nil))) qd.nil))))
def yC (N:Nat):Nat->Int->(List Int)->Int->(List Int)->Option (Int×(List Int))
 |0,_,_,_,_=>none
 |K+1,e,f,b,c=>
  (kw (⟨b,c⟩:qp)).bind fun d=>
  if(!decide (d=0))=true then
  (jI N (⟨e,f⟩:qp) (⟨b,c⟩:qp)).bind fun a=>
  yC N K b c a.2.s a.2.w
  else
  some (e,f)
def qcZ (N:Nat) (a:qp) (b:qp):Option qp:=
 (qbh a).bind fun c=>
 (qbh b).bind fun d=>
 (yC N N c.s c.w d.s d.w).bind fun(e,f)=>
 some (⟨e,f⟩:qp)
theorem qiL (N:Nat) (a:qp) (b:qp) {res:qp} (h:qcZ N a b=some res):qb ZT (.fn 115) [.agg (nz1 a),.agg (nz1 b)] [] (.agg (nz1 res)) []:=by
 unfold qcZ at h;refine Ub Tryz.func115 rfl rfl (m:=23) rfl (rs:=[.cell 4 98]) rfl (l:=[(0,.agg (nz1 a)),(1,.agg (nz1 b))]) rfl ?_;refine sg fol (kG []) [.cells (nz1 a),.cells (nz1 b),bZ] ?_;obtain⟨p,q,h⟩:=bnd h;obtain⟨t,r,h⟩:=bnd h;refine sq (gq fol [1,3,4,5] (kG []) [.cells (nz1 p),.cells (nz1 t),bZ] (ac (cv (qeY a q)) (ac (cv (qeY b r)) (ac (hs (.run [0] (qx ZT 98 (.ptr 0 0) (.agg (nz1 p))) [.cells (nz1 a),.cells (nz1 b),bZ] .undef [.cells (nz1 p),.cells (nz1 b),bZ] true) (qV (n:=2) (by kernel_rfl) rfl rfl rfl rfl (cac rfl (cac nvc can)) rfl)) (ac (hs (.run [1] (qx ZT 98 (.ptr 1 0) (.agg (nz1 t))) [.cells (nz1 p),.cells (nz1 b),bZ] .undef [.cells (nz1 p),.cells (nz1 t),bZ] true) (qV (n:=2) (by kernel_rfl) rfl rfl rfl rfl (cac rfl (cac nvc can)) rfl)) az)))) ?_);refine sq (Goes.block ?_);obtain⟨w,g9,h⟩:=bnd h;refine Goes.imp (Q:=fun x s'=>(x= .exit 0/\ ∃f g,(f,g)=w/\Sub s' (ofG 23 (kQ (kAT [])),[.cells (ni1 f g),bZ]))) ?_ ?_
 ·refine Ud (fun M s=> ∃(i:Int) (j:List Int) (d:Int) (e:List Int),s=(ofG 23 (kG []),[.cells (ni1 i j),.cells (ni1 d e),bZ])/\yC N M i j d e=some w) ?_ (m:=N) ⟨_,_,_,_,rfl,g9⟩;rintro M s ⟨i,j,d,e,rfl,g9⟩
  cases M with
  |zero=>simp only[yC]at g9;cases g9
  |succ M=>
   rw[yC]at g9;refine sq ?_;obtain⟨u,k,g9⟩:=bnd g9;refine sq (gr fol [1] (kG (kBC (!decide (u=0)))) (ac (cv (yI (⟨d,e⟩:qp) k)) az) ?_);refine ihB g9 (fun v g9=>?_) (fun v g9=>?_)
   ·refine Goes.skip ?_;refine Goes.block ?_;obtain⟨c,o,g9⟩:=bnd g9;refine sq (gq fol [2,8,9] (kG [(6,.ptr 4 0)]) [.cells (ni1 i j),.cells (ni1 d e),bZ,.cells (nz1 c.1),.cells (nz1 c.2)] (ac (cv (qcS N (⟨i,j⟩:qp) (⟨d,e⟩:qp) o)) (ac (hs (.run [3] (qx ZT 98 (.ptr 3 0) (.agg (nz1 c.1))) [.cells (ni1 i j),.cells (ni1 d e),bZ,bZ,bZ] .undef [.cells (ni1 i j),.cells (ni1 d e),bZ,.cells (nz1 c.1),bZ] true) (qV (n:=2) (by kernel_rfl) rfl rfl rfl rfl (cac rfl (cac nvc can)) rfl)) (ac (hs (.run [4] (qx ZT 98 (.ptr 4 0) (.agg (nz1 c.2))) [.cells (ni1 i j),.cells (ni1 d e),bZ,.cells (nz1 c.1),bZ] .undef [.cells (ni1 i j),.cells (ni1 d e),bZ,.cells (nz1 c.1),.cells (nz1 c.2)] true) (qV (n:=2) (by kernel_rfl) rfl rfl rfl rfl (cac rfl (cac nvc can)) rfl)) az))) ?_);refine gq fol [2,3] (kG []) [.cells (ni1 d e),.cells (nz1 c.2),bZ,.cells (nz1 c.1),.cells (nz1 c.2)] (ac (hs (.run [0] (qx ZT 98 (.ptr 0 0) (.agg (ni1 d e))) [.cells (ni1 i j),.cells (ni1 d e),bZ,.cells (nz1 c.1),.cells (nz1 c.2)] .undef [.cells (ni1 d e),.cells (ni1 d e),bZ,.cells (nz1 c.1),.cells (nz1 c.2)] true) (qV (n:=2) (by kernel_rfl) rfl rfl rfl rfl (cac rfl (cac nvc can)) rfl)) (ac (hs (.run [1] (qx ZT 98 (.ptr 1 0) (.agg (nz1 c.2))) [.cells (ni1 d e),.cells (ni1 d e),bZ,.cells (nz1 c.1),.cells (nz1 c.2)] .undef [.cells (ni1 d e),.cells (nz1 c.2),bZ,.cells (nz1 c.1),.cells (nz1 c.2)] true) (qV (n:=2) (by kernel_rfl) rfl rfl rfl rfl (cac rfl (cac nvc can)) rfl)) az)) ?_;exact⟨M,(ofG 23 (kG []),[.cells (ni1 d e),.cells (nz1 c.2),bZ]),Nat.lt_succ_self _,(Uc [] [some 0,some 1,some 2] rfl rfl (.kp (.kp (.kp .nil))) (.kb rfl (.same sn) (.kb rfl (.same sn) (.kb rfl (.same sn) .nil)))),_,_,_,_,rfl,g9⟩
   refine Goes.exit ?_;obtain rfl:=si g9;exact⟨rfl,_,_,rfl,(Uc [] [some 0,some 2] rfl rfl (.kp (.drop (.kp .nil))) (.kb rfl (.same sn) (.kb rfl (.same sn) .nil)))⟩
 rintro x s' ⟨rfl,f,g,rfl,hsub⟩
 try dsimp only at h
 refine Goes.sub hsub ?_;refine sq (gq fol [1] (kAT []) [.cells (ni1 f g),.cells (ni1 f g)] (ac (hs (.run [1] (qx ZT 98 (.ptr 1 0) (.agg (ni1 f g))) [.cells (ni1 f g),bZ] .undef [.cells (ni1 f g),.cells (ni1 f g)] true) (qV (n:=2) (by kernel_rfl) rfl rfl rfl rfl (cac rfl (cac nvc can)) rfl)) az) ?_);refine Goes.ret ?_;obtain rfl:=si h;exact(gw2 [.agg (ni1 f g)] (FzW.agg (qd.cons (Ua tI) (qd.cons (Ua (qD ZU _ (nl rfl))) qd.nil))))
def jN (b:List Int) (l:Int) (g:Int):Nat->(List Int)->Int->Int->Option ((List Int)×Int)
 |0,_,_,_=>none
 |K+1,h,a,c=>
  if a<(b.length:Int)then
  (idx b a).bind fun i=>
  (bits_Mul64 l i).bind fun d=>
  (idx h (w64 (g+a))).bind fun j=>
  (qak d.2 j 0).bind fun e=>
  (qak e.1 c 0).bind fun f=>
  (put h (w64 (g+a)) f.1).bind fun k=>
  jN b l g K k (w64 (a+1)) (wrap .u64 ((wrap .u64 (d.1+e.2))+f.2))
  else
  some (h,c)
def jO (N:Nat) (a:List Int) (b:List Int):Nat->(List Int)->Int->Option (List Int)
 |0,_,_=>none
 |K+1,g,c=>
  if c<(a.length:Int)then
  (idx a c).bind fun h=>
  (jN b h c N g 0 0).bind fun(d,e)=>
  (idx d (w64 (c+(b.length:Int)))).bind fun i=>
  (put d (w64 (c+(b.length:Int))) e).bind fun f=>
  jO N a b K f (w64 (c+1))
  else
  some g
def qaM (N:Nat) (a:List Int) (b:List Int):Option (List Int):=
 (mk 8 (w64 ((a.length:Int)+(b.length:Int))) 0).bind fun d=>
 (jO N a b N d 0).bind fun e=>
 (xq N e).bind fun c=>
 some c
theorem qhg (N:Nat) (a:List Int) (b:List Int) {res:List Int} (h:qaM N a b=some res):qb ZT (.fn 193) [vl ZU a,vl ZU b] [] (vl ZU res) []:=by
 unfold qaM at h;refine Ub Tryz.func193 rfl rfl (m:=80) rfl (rs:=[.tmp 4]) rfl (l:=[(0,vl ZU a),(1,vl ZU b)]) rfl ?_;refine sh fol [(0,vl ZU a),(1,vl ZU b)] ?_;obtain⟨L,O,h⟩:=bnd h;refine sq (gq fol [5] ((0,vl ZU a)::(1,vl ZU b)::(kE L [])) [.cells (L.flatMap ZU.c)] (ac (hs (.run [] (zF ZT 96 (.i (w64 ((a.length:Int)+(b.length:Int)))) (.i (w64 ((a.length:Int)+(b.length:Int))))) [] (.slice 0 0 L.length L.length 1) [.cells (L.flatMap ZU.c)] false) (qec zU (E:=ZU) (z:=0) rfl (by kernel_rfl) O rfl)) az) ?_);refine sq ?_;refine sh fol ((1,vl ZU b)::(kE L [(20,vl ZU a),(21,.i (a.length:Int)),(22,.i 0)])) ?_;refine Goes.block ?_;obtain⟨Y,g5,h⟩:=bnd h;refine Goes.imp (Q:=fun x s'=>(x= .exit 0/\ ∃u,u=Y/\Sub s' (ofG 80 (kE u []),[.cells (u.flatMap ZU.c)]))) ?_ ?_
 ·refine Ud (fun M s=> ∃(F:List Int) (d:Int),s=(ofG 80 ((1,vl ZU b)::(kE F ((20,vl ZU a)::(kAI (a.length:Int) d [])))),[.cells (F.flatMap ZU.c)])/\jO N a b M F d=some Y) ?_ (m:=N) ⟨_,_,rfl,g5⟩;rintro M s ⟨F,d,rfl,g5⟩
  cases M with
  |zero=>simp only[jO]at g5;cases g5
  |succ M=>
   rw[jO]at g5;refine sh fol ((1,vl ZU b)::(kE F ((20,vl ZU a)::(kAI (a.length:Int) d [(23,.bool (decide (d<(a.length:Int))))])))) ?_;refine sq ?_;refine ihD g5 (fun Z g5=>?_) (fun Z g5=>?_)
   ·refine Goes.skip ?_;refine sq (Goes.block ?_);obtain⟨q,G,g5⟩:=bnd g5;refine sq (gr fol [1,2] ((1,vl ZU b)::(kE F ((6,.i d)::(kAj q ((20,vl ZU a)::(kAI (a.length:Int) d [])))))) (ac (iv zU ZU G) (ac (lv 0 z8 ZU G rfl) az)) ?_);refine sh fol ((1,vl ZU b)::(kE F ((6,.i d)::(kAj q (kBj ((20,vl ZU a)::(kAI (a.length:Int) d []))))))) ?_;refine sq ?_;refine sh fol ((1,vl ZU b)::(kE F ((6,.i d)::(kAj q (kBj ((20,vl ZU a)::(kAI (a.length:Int) d [(27,vl ZU b),(28,.i (b.length:Int)),(29,.i 0)]))))))) ?_;refine Goes.block ?_;obtain⟨P,g13,g5⟩:=bnd g5;refine Goes.imp (Q:=fun x s'=>(x= .exit 2/\ ∃k v,(k,v)=P/\Sub s' (ofG 80 ((1,vl ZU b)::(kE k ((6,.i d)::(8,.int .u64 v)::(20,vl ZU a)::(kAI (a.length:Int) d [])))),[.cells (k.flatMap ZU.c)]))) ?_ ?_
    ·refine Ud (fun M s=> ∃(j:List Int) (e:Int) (n:Int),s=(ofG 80 ((1,vl ZU b)::(kE j ((6,.i d)::(kAG q n ((20,vl ZU a)::(kAI (a.length:Int) d ((27,vl ZU b)::(kA7 (b.length:Int) e)))))))),[.cells (j.flatMap ZU.c)])/\jN b q d M j e n=some P) ?_ (m:=N) ⟨_,_,_,rfl,g13⟩;rintro M s ⟨j,e,n,rfl,g13⟩
     cases M with
     |zero=>simp only[jN]at g13;cases g13
     |succ M=>
      rw[jN]at g13;refine sh fol ((1,vl ZU b)::(kE j ((6,.i d)::(kAG q n ((20,vl ZU a)::(kAI (a.length:Int) d [(27,vl ZU b),(28,.i (b.length:Int)),(29,.i e),(30,.bool (decide (e<(b.length:Int))))])))))) ?_;refine sq ?_;refine ihD g13 (fun X g13=>?_) (fun X g13=>?_)
      ·refine Goes.skip ?_;refine sq (Goes.block ?_);obtain⟨U,w,g13⟩:=bnd g13;refine sq (gr fol [1,2] ((1,vl ZU b)::(kE j ((6,.i d)::(kAG q n ((9,.i e)::(10,.int .u64 U)::(20,vl ZU a)::(kAI (a.length:Int) d ((27,vl ZU b)::(kA7 (b.length:Int) e)))))))) (ac (iv zU ZU w) (ac (lv 0 z8 ZU w rfl) az)) ?_);obtain⟨f,H,g13⟩:=bnd g13;refine sq (gr fol [2] ((1,vl ZU b)::(kE j ((6,.i d)::(kAG q n ((9,.i e)::(kAC f.1 f.2 ((20,vl ZU a)::(kAI (a.length:Int) d ((27,vl ZU b)::(kA7 (b.length:Int) e)))))))))) (ac (cv (qbX q U H)) az) ?_);refine sh fol ((1,vl ZU b)::(kE j ((6,.i d)::(kAG q n ((9,.i e)::(kAC f.1 f.2 ((20,vl ZU a)::(kAI (a.length:Int) d ((27,vl ZU b)::(kA7 (b.length:Int) e)))))))))) ?_;obtain⟨V,o,g13⟩:=bnd g13;obtain⟨g,I,g13⟩:=bnd g13;refine sq (gr fol [5,6,7] ((1,vl ZU b)::(kE j ((6,.i d)::(kAG q n ((9,.i e)::(kAC f.1 g.1 ((13,.int .u64 g.2)::(20,vl ZU a)::(kAI (a.length:Int) d ((27,vl ZU b)::(kA7 (b.length:Int) e)))))))))) (ac (hs (.done (.opt (ql ZT 96 (.slice 0 0 j.length j.length 1) (.i (w64 (d+e))))) (.ptr 0 ((w64 (d+e):Int).toNat*1+0))) (qaT zU o)) (ac (hs (.run [0] (jD ZT 222 (.ptr 0 ((w64 (d+e):Int).toNat*1+0))) [.cells (j.flatMap ZU.c)] (.int .u64 V) [.cells (j.flatMap ZU.c)] false) (qcR z8 (E:=ZU) (l:=j) rfl rfl o (nl rfl) rfl)) (ac (cv (qcF f.2 V 0 I)) az))) ?_);refine sh fol ((1,vl ZU b)::(kE j ((6,.i d)::(kAG q n ((9,.i e)::(kAC (wrap .u64 (f.1+g.2)) g.1 ((20,vl ZU a)::(kAI (a.length:Int) d ((27,vl ZU b)::(kA7 (b.length:Int) e)))))))))) ?_;obtain⟨p,J,g13⟩:=bnd g13;refine sq (gr fol [2] ((1,vl ZU b)::(kE j ((6,.i d)::(kAj q ((9,.i e)::(kAC (wrap .u64 (f.1+g.2)) p.1 ((13,.int .u64 p.2)::(20,vl ZU a)::(kAI (a.length:Int) d ((27,vl ZU b)::(kA7 (b.length:Int) e)))))))))) (ac (cv (qcF g.1 n 0 J)) az) ?_);obtain⟨r,A,g13⟩:=bnd g13;refine gq fol [8,9] ((1,vl ZU b)::(kE j ((6,.i d)::(kAG q (wrap .u64 ((wrap .u64 (f.1+g.2))+p.2)) ((20,vl ZU a)::(kAI (a.length:Int) d ((27,vl ZU b)::(kA7 (b.length:Int) e)))))))) [.cells (r.flatMap ZU.c)] (ac (hs (.done (.opt (ql ZT 96 (.slice 0 0 j.length j.length 1) (.i (w64 (d+e))))) (.ptr 0 ((w64 (d+e):Int).toNat*1+0))) (qaT zU o)) (ac (hs (.run [0] (qx ZT 222 (.ptr 0 ((w64 (d+e):Int).toNat*1+0)) (.int .u64 p.1)) [.cells (j.flatMap ZU.c)] .undef [.cells (r.flatMap ZU.c)] true) (qau (E:=ZU) (l:=j) (y:=p.1) rfl (show _=some 1 by kernel_rfl) rfl o rfl rfl rfl rfl rfl A rfl)) az)) ?_;refine Goes.sub (show Sub (ofG 80 ((1,vl ZU b)::(kE j ((6,.i d)::(kAG q (wrap .u64 ((wrap .u64 (f.1+g.2))+p.2)) ((20,vl ZU a)::(kAI (a.length:Int) d ((27,vl ZU b)::(kA7 (b.length:Int) e)))))))),[.cells (r.flatMap ZU.c)]) (ofG 80 ((1,vl ZU b)::(kE r ((6,.i d)::(kAG q (wrap .u64 ((wrap .u64 (f.1+g.2))+p.2)) ((20,vl ZU a)::(kAI (a.length:Int) d ((27,vl ZU b)::(kA7 (b.length:Int) e)))))))),[.cells (r.flatMap ZU.c)])from(Uc [] [some 0] rfl rfl (.keep (.same (qf ZU _)) (.keep (.sliceE rfl (yf A)) (.keep (.same nI) (.keep (.same nI) (.keep (.same nI) (.keep (.same (qf ZU _)) (.keep (.same nI) (.keep (.same nI) (.keep (.same (qf ZU _)) (.keep (.same nI) (.keep (.same nI) .nil))))))))))) (.ks .nil))) ?_;refine gh fol ((1,vl ZU b)::(kE r ((6,.i d)::(kAG q (wrap .u64 ((wrap .u64 (f.1+g.2))+p.2)) ((20,vl ZU a)::(kAI (a.length:Int) d ((27,vl ZU b)::(kA7 (b.length:Int) (w64 (e+1)))))))))) ?_;exact⟨M,(ofG 80 ((1,vl ZU b)::(kE r ((6,.i d)::(kAG q (wrap .u64 ((wrap .u64 (f.1+g.2))+p.2)) ((20,vl ZU a)::(kAI (a.length:Int) d ((27,vl ZU b)::(kA7 (b.length:Int) (w64 (e+1)))))))))),[.cells (r.flatMap ZU.c)]),Nat.lt_succ_self _,(Sub.refl _),_,_,_,rfl,g13⟩
      refine Goes.exit ?_;obtain rfl:=si g13;exact⟨rfl,_,_,rfl,(Sub.keep [1,5,6,8,20,21,22] rfl rfl)⟩
    rintro x s' ⟨rfl,k,v,rfl,hsub⟩
    try dsimp only at g5
    refine Goes.sub hsub ?_;obtain⟨a0,B,g5⟩:=bnd g5;obtain⟨t,C,g5⟩:=bnd g5;refine gq fol [6,7] ((1,vl ZU b)::(kE k ((20,vl ZU a)::(kAI (a.length:Int) d [])))) [.cells (t.flatMap ZU.c)] (ac (hs (.done (.opt (ql ZT 96 (.slice 0 0 k.length k.length 1) (.i (w64 (d+(b.length:Int)))))) (.ptr 0 ((w64 (d+(b.length:Int)):Int).toNat*1+0))) (qaT zU B)) (ac (hs (.run [0] (qx ZT 222 (.ptr 0 ((w64 (d+(b.length:Int)):Int).toNat*1+0)) (.int .u64 v)) [.cells (k.flatMap ZU.c)] .undef [.cells (t.flatMap ZU.c)] true) (qau (E:=ZU) (l:=k) (y:=v) rfl (show _=some 1 by kernel_rfl) rfl B rfl rfl rfl rfl rfl C rfl)) az)) ?_;refine Goes.sub (show Sub (ofG 80 ((1,vl ZU b)::(kE k ((20,vl ZU a)::(kAI (a.length:Int) d [])))),[.cells (t.flatMap ZU.c)]) (ofG 80 ((1,vl ZU b)::(kE t ((20,vl ZU a)::(kAI (a.length:Int) d [])))),[.cells (t.flatMap ZU.c)])from(Uc [] [some 0] rfl rfl (.keep (.same (qf ZU _)) (.keep (.sliceE rfl (yf C)) (.keep (.same (qf ZU _)) (.keep (.same nI) (.keep (.same nI) .nil))))) (.ks .nil))) ?_;refine gh fol ((1,vl ZU b)::(kE t ((20,vl ZU a)::(kAI (a.length:Int) (w64 (d+1)) [])))) ?_;exact⟨M,(ofG 80 ((1,vl ZU b)::(kE t ((20,vl ZU a)::(kAI (a.length:Int) (w64 (d+1)) [])))),[.cells (t.flatMap ZU.c)]),Nat.lt_succ_self _,(Sub.refl _),_,_,rfl,g5⟩
   refine Goes.exit ?_;obtain rfl:=si g5;exact⟨rfl,_,rfl,(Sub.keep [5] rfl rfl)⟩
 rintro x s' ⟨rfl,u,rfl,hsub⟩;refine Goes.sub hsub ?_;obtain⟨D,K,h⟩:=bnd h;refine sq (gq fol [1] [(4,vl ZU D)] [.frozen (u.flatMap ZU.c)] (ac (hs (.callF 244 [.slice 0 0 u.length u.length 1] [.cells (u.flatMap ZU.c)] [0] [vl ZU u] (vl ZU D)) (qaV (FzL.cons (Fz.sl (E:=ZU) rfl rfl (nl rfl)) FzL.nil) (xE N u K) (qB ZU _ (nl rfl)))) az) ?_);refine Goes.sub (show Sub (ofG 80 [(4,vl ZU D)],[.frozen (u.flatMap ZU.c)]) (ofG 80 [(4,vl ZU D)],[])from(Uc [] [] rfl rfl (.keep (.same (qf ZU _)) .nil) .nil)) ?_;refine Goes.ret ?_;obtain rfl:=si h;exact(gw2 [vl ZU D] (Ua (qB ZU _ (nl rfl))))
def qJ (N:Nat) (a:qp) (b:qp):Option qp:=
 (if a.w.isEmpty=true then
 some b.w.isEmpty
 else
 some false:Option Bool).bind fun j=>
 ((if j=true then
 (qcM a.s).bind fun k=>
 (qcM b.s).bind fun l=>
 (bits_Mul64 k l).bind fun e=>
 (if e.1=0 then
 some (decide (e.2<=9223372036854775807))
 else
 some false:Option Bool).bind fun f=>
 if f=true then
 if(!((decide (a.s<0))==(decide (b.s<0))))=true then
 some (.inr (⟨w64 (0-(w64 e.2)),[]⟩:qp))
 else
 some (.inr (⟨w64 e.2,[]⟩:qp))
 else
 some (.inl ())
 else
 some (.inl ()):Option (Unit⊕qp))).bind (fun
 |(.inl ())=>
 (qK a).bind fun c=>
 (qK b).bind fun d=>
 (qaM N c.2 d.2).bind fun g=>
 (vF (!(c.1==d.1)) g).bind fun h=>
 some h
 |(.inr i)=>
 some i)
theorem zZ (N:Nat) (a:qp) (b:qp) {res:qp} (h:qJ N a b=some res):qb ZT (.fn 121) [.agg (nz1 a),.agg (nz1 b)] [] (.agg (nz1 res)) []:=by
 unfold qJ at h;refine Ub Tryz.func121 rfl rfl (m:=66) rfl (rs:=[.cell 4 98]) rfl (l:=[(0,.agg (nz1 a)),(1,.agg (nz1 b))]) rfl ?_;refine sg fol (kG []) [.cells (nz1 a),.cells (nz1 b),bZ] ?_;refine sq ?_;refine sq ?_;obtain⟨G,d,h⟩:=bnd h;refine Ue (s':=(ofG 66 (kG [(18,.bool G)]),[.cells (nz1 a),.cells (nz1 b),bZ])) ?_ ?_
 ·rcases wyB d with⟨y,d⟩|⟨y,d⟩
  ·obtain rfl:=si d;exact tr fol [2,3,6] (kG [(18,.bool b.w.isEmpty)]) (ac (hs (.done (.opt (ku ZT .eql 96 (.tmp 12) (.const (.slice none 0 0)) (nvl ZU a.w) .nilslice)) (.bool a.w.isEmpty)) (qaX qaU)) (ac (gw y) (ac (hs (.done (.opt (ku ZT .eql 96 (.tmp 16) (.const (.slice none 0 0)) (nvl ZU b.w) .nilslice)) (.bool b.w.isEmpty)) (qaX qaU)) az)))
  obtain rfl:=si d;exact tr fol [2,3] (kG [(18,.bool false)]) (ac (hs (.done (.opt (ku ZT .eql 96 (.tmp 12) (.const (.slice none 0 0)) (nvl ZU a.w) .nilslice)) (.bool a.w.isEmpty)) (qaX qaU)) (ac (gw y) az))
 obtain⟨D,g4,h⟩:=bnd h;refine Goes.imp (Q:=fun x s'=>(x= .normal/\(.inl ())=D/\Sub s' (ofG 66 (kG []),[.cells (nz1 a),.cells (nz1 b),bZ]))\/(x= .ret/\ ∃F,(.inr F)=D/\zh ZT [.cell 4 98] (.agg (nz1 F)) .ret s')) ?_ ?_
 ·refine ihB g4 (fun H g4=>?_) (fun H g4=>?_)
  ·obtain⟨I,t,g4⟩:=bnd g4;obtain⟨J,u,g4⟩:=bnd g4;obtain⟨f,v,g4⟩:=bnd g4;refine sq (gr fol [2,5,6] (kG ((5,.int .u64 f.1)::(kAQ f.2 []))) (ac (cv (qeS a.s t)) (ac (cv (qeS b.s u)) (ac (cv (qbX I J v)) az))) ?_);refine sq ?_;obtain⟨z,c,g4⟩:=bnd g4;refine Ue (s':=(ofG 66 (kG (kAQ f.2 [(34,.bool z)])),[.cells (nz1 a),.cells (nz1 b),bZ])) ?_ ?_
   ·rcases wyD c with⟨k,c⟩|⟨k,c⟩
    ·obtain rfl:=si c;exact tr fol [2] (kG (kAQ f.2 [(34,.bool (decide (f.2<=9223372036854775807)))])) (ac (gw k) az)
    obtain rfl:=si c;exact tr fol [2] (kG (kAQ f.2 [(34,.bool false)])) (ac (gw k) az)
   refine ihB g4 (fun A g4=>?_) (fun A g4=>?_)
   ·refine sq ?_;refine sh fol (kAg (kAQ f.2 [(41,.bool (!((decide (a.s<0))==(decide (b.s<0)))))])) ?_;refine ihB g4 (fun B g4=>?_) (fun B g4=>?_)
    ·refine sg fol (kAg []) (.cells (nz1 a):: .cells (nz1 b)::(kBK (w64 (0-(w64 f.2))))) ?_;refine Goes.ret ?_;obtain rfl:=si g4;exact Or.inr (⟨rfl,_,rfl,(gw2 [.agg [.i (w64 (0-(w64 f.2))),.nilslice]] (FzW.agg (qd.cons (Ua tI) (qd.cons (Uq (E:=ZU)) qd.nil))))⟩)
    refine Goes.skip ?_;refine sg fol (kAg []) (.cells (nz1 a):: .cells (nz1 b)::(kBK (w64 f.2))) ?_;refine Goes.ret ?_;obtain rfl:=si g4;exact Or.inr (⟨rfl,_,rfl,(gw2 [.agg [.i (w64 f.2),.nilslice]] (FzW.agg (qd.cons (Ua tI) (qd.cons (Uq (E:=ZU)) qd.nil))))⟩)
   refine Goes.skip ?_;obtain rfl:=si g4;exact Or.inl (⟨rfl,rfl,(Sub.keep [2,3,4] rfl rfl)⟩)
  refine Goes.skip ?_;obtain rfl:=si g4;exact Or.inl (⟨rfl,rfl,(Sub.keep [2,3,4] rfl rfl)⟩)
 rintro x s' (⟨rfl,rfl,hsub⟩|⟨rfl,K,rfl,hret⟩)
 ·try dsimp only at h
  refine Goes.sub hsub ?_;obtain⟨e,o,h⟩:=bnd h;refine sq (gr fol [1] (kAN (kAg [(7,.bool e.1),(8,vl ZU e.2)])) (ac (cv (zQ a o)) az) ?_);obtain⟨g,p,h⟩:=bnd h;refine sq (gr fol [1] (kAg [(7,.bool e.1),(8,vl ZU e.2),(9,.bool g.1),(10,vl ZU g.2)]) (ac (cv (zQ b p)) az) ?_);obtain⟨C,q,h⟩:=bnd h;obtain⟨j,r,h⟩:=bnd h;refine sq (gq fol [5,6,7] (kAg []) [.cells (nz1 a),.cells (nz1 b),.cells (nz1 j)] (ac (cv (qhg N e.2 g.2 q)) (ac (cv (qaq (!(e.1==g.1)) C r)) (ac (hs (.run [2] (qx ZT 98 (.ptr 2 0) (.agg (nz1 j))) [.cells (nz1 a),.cells (nz1 b),bZ] .undef [.cells (nz1 a),.cells (nz1 b),.cells (nz1 j)] true) (qV (n:=2) (by kernel_rfl) rfl rfl rfl rfl (cac rfl (cac nvc can)) rfl)) az))) ?_);refine Goes.ret ?_;obtain rfl:=si h;exact(gw2 [.agg (nz1 j)] (FzW.agg (qd.cons (Ua tI) (qd.cons (Ua (qD ZU _ (nl rfl))) qd.nil))))
 try dsimp only at h
 obtain rfl:=si h;exact hret
def strings_HasPrefix (b:Str) (a:Str):Option Bool:=
 (stringslite_HasPrefix b a).bind fun c=>
 some c
theorem qeI (b:Str) (a:Str) {res:Bool} (h:strings_HasPrefix b a=some res):qb ZT (.fn 184) (kBB b a) [] (.bool res) []:=by
 unfold strings_HasPrefix at h;refine Ub Tryz.func184 rfl rfl (m:=8) rfl (rs:=[.tmp 4]) rfl (l:=(kT b a [])) rfl ?_;refine sh fol (kT b a []) ?_;obtain⟨d,c,h⟩:=bnd h;refine sq (gr fol [2] (kBR d) (ac (cv (y7 b a c)) az) ?_);refine Goes.ret ?_;obtain rfl:=si h;exact(gw2 [.bool d] (Ua tB))
def stringslite_TrimPrefix (b:Str) (a:Str):Option Str:=
 (stringslite_HasPrefix b a).bind fun c=>
 if c=true then
 (cut b (a.length:Int) (b.length:Int)).bind fun d=>
 some d
 else
 some b
theorem qcQ (b:Str) (a:Str) {res:Str} (h:stringslite_TrimPrefix b a=some res):qb ZT (.fn 240) (kBB b a) [] (.str res) []:=by
 unfold stringslite_TrimPrefix at h;refine Ub Tryz.func240 rfl rfl (m:=13) rfl (rs:=[.tmp 4]) rfl (l:=(kT b a [])) rfl ?_;refine sh fol (kT b a []) ?_;refine sq ?_;obtain⟨f,c,h⟩:=bnd h;refine sq (gr fol [2] (kT b a [(7,.bool f)]) (ac (cv (y7 b a c)) az) ?_);refine ihB h (fun g h=>?_) (fun g h=>?_)
 ·obtain⟨e,d,h⟩:=bnd h;refine sq (gr fol [3] (kBY e) (ac (hs (.done (.opt (kg ZT 9 (.str b) (some (.i (a.length:Int))) none none)) (.str e)) (jr st9 (some (a.length:Int)) none d)) az) ?_);refine Goes.ret ?_;obtain rfl:=si h;exact(gw2 [.str e] (Ua tS))
 refine Goes.skip ?_;refine sh fol (kBY b) ?_;refine Goes.ret ?_;obtain rfl:=si h;exact(gw2 [.str b] (Ua tS))
def strings_TrimPrefix (b:Str) (a:Str):Option Str:=
 (stringslite_TrimPrefix b a).bind fun c=>
 some c
theorem qbI (b:Str) (a:Str) {res:Str} (h:strings_TrimPrefix b a=some res):qb ZT (.fn 185) (kBB b a) [] (.str res) []:=by
 unfold strings_TrimPrefix at h;refine Ub Tryz.func185 rfl rfl (m:=8) rfl (rs:=[.tmp 4]) rfl (l:=(kT b a [])) rfl ?_;refine sh fol (kT b a []) ?_;obtain⟨d,c,h⟩:=bnd h;refine sq (gr fol [2] (kBY d) (ac (cv (qcQ b a c)) az) ?_);refine Goes.ret ?_;obtain rfl:=si h;exact(gw2 [.str d] (Ua tS))
def vM (N:Nat):Nat->Int->(List Int)->Int->(List Int)->Int->Option (Int×(List Int))
 |0,_,_,_,_,_=>none
 |K+1,e,f,h,i,g=>
  if g>0 then
  ((((if(qG .i64 g 1)=1 then
  (qJ N (⟨h,i⟩:qp) (⟨e,f⟩:qp)).bind fun a=>
  some (a.s,a.w)
  else
  some (h,i):Option (Int×(List Int)))).bind fun(b,c)=>
  if g>1 then
  (qJ N (⟨e,f⟩:qp) (⟨e,f⟩:qp)).bind fun d=>
  some (d.s,d.w,b,c)
  else
  some (e,f,b,c):Option (Int×(List Int)×Int×(List Int)))).bind fun(j,k,l,m)=>
  vM N K j k l m (qA .i64 g 1)
  else
  some (h,i)
def qb9 (N:Nat) (a:qp) (k:Int):Option qp:=
 (qcE 1).bind fun b=>
 (vM N N a.s a.w b.s b.w k).bind fun(c,d)=>
 some (⟨c,d⟩:qp)
theorem qiE (N:Nat) (a:qp) (k:Int) {res:qp} (h:qb9 N a k=some res):qb ZT (.fn 187) [.agg (nz1 a),.i k] [] (.agg (nz1 res)) []:=by
 unfold qb9 at h;refine Ub Tryz.func187 rfl rfl (m:=23) rfl (rs:=[.cell 4 98]) rfl (l:=[(0,.agg (nz1 a)),(1,.i k)]) rfl ?_;refine sg fol ((1,.i k)::(kQ (kAT []))) [.cells (nz1 a),bZ] ?_;obtain⟨B,y,h⟩:=bnd h;refine sq (gq fol [0,2] ((1,.i k)::(kQ (kAT kAx))) [.cells (nz1 a),bZ,.cells (nz1 B)] (ac (cv (qbP 1 y)) (ac (hs (.run [2] (qx ZT 98 (.ptr 2 0) (.agg (nz1 B))) [.cells (nz1 a),bZ,bZ] .undef [.cells (nz1 a),bZ,.cells (nz1 B)] true) (qV (n:=2) (by kernel_rfl) rfl rfl rfl rfl (cac rfl (cac nvc can)) rfl)) az)) ?_);refine sq (Goes.block ?_);obtain⟨H,g9,h⟩:=bnd h;refine Goes.imp (Q:=fun x s'=>(x= .exit 0/\ ∃g j,(g,j)=H/\Sub s' (ofG 23 (kAs [(5,.ptr 1 0)]),[bZ,.cells (ni1 g j)]))) ?_ ?_
 ·refine Ud (fun M s=> ∃(e:Int) (f:List Int) (z:Int) (A:List Int) (b:Int),s=(ofG 23 ((1,.i b)::(kQ (kAT kAx))),[.cells (ni1 e f),bZ,.cells (ni1 z A)])/\vM N M e f z A b=some H) ?_ (m:=N) ⟨_,_,_,_,_,rfl,g9⟩;rintro M s ⟨e,f,z,A,b,rfl,g9⟩
  cases M with
  |zero=>simp only[vM]at g9;cases g9
  |succ M=>
   rw[vM]at g9;refine sq ?_;refine sh fol ((1,.i b)::(kQ (kAT ((5,.ptr 2 0)::(kBe (decide (b>0))))))) ?_;refine ihD g9 (fun C g9=>?_) (fun C g9=>?_)
   ·refine Goes.skip ?_;refine sq ?_;obtain⟨D,g15,g9⟩:=bnd g9;refine Goes.imp (Q:=fun x s'=>(x= .normal/\ ∃o p q r,(o,p,q,r)=D/\Sub s' (ofG 23 ((1,.i b)::(kQ (kAT kAx))),[.cells (ni1 o p),bZ,.cells (ni1 q r)]))) ?_ ?_
    ·refine Goes.block ?_;refine sq ?_;refine sh fol ((1,.i b)::(kQ (kAT ((5,.ptr 2 0)::(kBC (decide ((qG .i64 b 1)=1))))))) ?_;obtain⟨E,g18,g15⟩:=bnd g15;refine Goes.imp (Q:=fun x s'=>(x= .normal/\ ∃c d,(c,d)=E/\Sub s' (ofG 23 ((1,.i b)::(kQ (kAT kAx))),[.cells (ni1 e f),bZ,.cells (ni1 c d)]))) ?_ ?_
     ·refine ihD g18 (fun F g18=>?_) (fun F g18=>?_)
      ·obtain⟨t,u,g18⟩:=bnd g18;refine gq fol [2,3] ((1,.i b)::(kQ (kAT kAx))) [.cells (ni1 e f),bZ,.cells (nz1 t)] (ac (cv (zZ N (⟨z,A⟩:qp) (⟨e,f⟩:qp) u)) (ac (hs (.run [2] (qx ZT 98 (.ptr 2 0) (.agg (nz1 t))) [.cells (ni1 e f),bZ,.cells (ni1 z A)] .undef [.cells (ni1 e f),bZ,.cells (nz1 t)] true) (qV (n:=2) (by kernel_rfl) rfl rfl rfl rfl (cac rfl (cac nvc can)) rfl)) az)) ?_;obtain rfl:=si g18;exact⟨rfl,_,_,rfl,(Sub.refl _)⟩
      refine Goes.skip ?_;obtain rfl:=si g18;exact⟨rfl,_,_,rfl,(Sub.keep [1,2,4,5] rfl rfl)⟩
     rintro x s' ⟨rfl,c,d,rfl,hsub⟩
     try dsimp only at g15
     refine Goes.sub hsub ?_;refine sh fol ((1,.i b)::(kQ (kAT [(5,.ptr 2 0),(18,.bool (decide (b>1)))]))) ?_;refine ihD g15 (fun G g15=>?_) (fun G g15=>?_)
     ·obtain⟨v,w,g15⟩:=bnd g15;refine gq fol [2,3] ((1,.i b)::(kQ (kAT kAx))) [.cells (nz1 v),bZ,.cells (ni1 c d)] (ac (cv (zZ N (⟨e,f⟩:qp) (⟨e,f⟩:qp) w)) (ac (hs (.run [0] (qx ZT 98 (.ptr 0 0) (.agg (nz1 v))) [.cells (ni1 e f),bZ,.cells (ni1 c d)] .undef [.cells (nz1 v),bZ,.cells (ni1 c d)] true) (qV (n:=2) (by kernel_rfl) rfl rfl rfl rfl (cac rfl (cac nvc can)) rfl)) az)) ?_;obtain rfl:=si g15;exact⟨rfl,_,_,_,_,rfl,(Sub.refl _)⟩
     refine Goes.skip ?_;obtain rfl:=si g15;exact⟨rfl,_,_,_,_,rfl,(Sub.keep [1,2,4,5] rfl rfl)⟩
    rintro x s' ⟨rfl,o,p,q,r,rfl,hsub⟩
    try dsimp only at g9
    refine Goes.sub hsub ?_;refine gh fol ((1,.i (qA .i64 b 1))::(kQ (kAT kAx))) ?_;exact⟨M,(ofG 23 ((1,.i (qA .i64 b 1))::(kQ (kAT kAx))),[.cells (ni1 o p),bZ,.cells (ni1 q r)]),Nat.lt_succ_self _,(Sub.refl _),_,_,_,_,_,rfl,g9⟩
   refine Goes.exit ?_;obtain rfl:=si g9;exact⟨rfl,_,_,rfl,(Uc [] [some 1,some 2] rfl rfl (.drop (.drop (.kp (.kp .nil)))) (.kb rfl (.same sn) (.kb rfl (.same sn) .nil)))⟩
 rintro x s' ⟨rfl,g,j,rfl,hsub⟩
 try dsimp only at h
 refine Goes.sub hsub ?_;refine sq (gq fol [1] (kAs []) [.cells (ni1 g j),.cells (ni1 g j)] (ac (hs (.run [0] (qx ZT 98 (.ptr 0 0) (.agg (ni1 g j))) [bZ,.cells (ni1 g j)] .undef [.cells (ni1 g j),.cells (ni1 g j)] true) (qV (n:=2) (by kernel_rfl) rfl rfl rfl rfl (cac rfl (cac nvc can)) rfl)) az) ?_);refine Goes.ret ?_;obtain rfl:=si h;exact(gw2 [.agg (ni1 g j)] (FzW.agg (qd.cons (Ua tI) (qd.cons (Ua (qD ZU _ (nl rfl))) qd.nil))))
def xI (N:Nat):Nat->Int->(List Int)->Str->Option (Int×(List Int))
 |0,_,_,_=>none
 |K+1,j,k,a=>
  if(a.length:Int)>0 then
  (cut a 0 (if(a.length:Int)<18 then(a.length:Int)else 18)).bind fun c=>
  (qkC c).bind fun d=>
  (qcE 10).bind fun e=>
  (qb9 N e (if(a.length:Int)<18 then(a.length:Int)else 18)).bind fun f=>
  (qJ N (⟨j,k⟩:qp) f).bind fun g=>
  (qcE d.1).bind fun h=>
  (vO N g h).bind fun b=>
  (cut a (if(a.length:Int)<18 then(a.length:Int)else 18) (a.length:Int)).bind fun i=>
  xI N K b.s b.w i
  else
  some (j,k)
def qbv (N:Nat) (b:Str):Option qp:=
 (strings_HasPrefix b [45]).bind fun e=>
 (strings_TrimPrefix b [45]).bind fun f=>
 (xI N N 0 [] f).bind fun(c,d)=>
 if e=true then
 (zL (⟨c,d⟩:qp)).bind fun a=>
 some a
 else
 some (⟨c,d⟩:qp)
theorem qb0 (N:Nat) (g:Str) {res:qp} (h:qbv N g=some res):qb ZT (.fn 116) [.str g] [] (.agg (nz1 res)) []:=by
 unfold qbv at h;refine Ub Tryz.func116 rfl rfl (m:=41) rfl (rs:=[.cell 2 98]) rfl (l:=(kAM g)) rfl ?_;refine sg fol (kBG g (kQ [])) [bZ] ?_;obtain⟨d,y,h⟩:=bnd h;refine sq (gr fol [1] (kBG g (kQ (kBO d []))) (ac (cv (qeI g [45] y)) az) ?_);obtain⟨J,z,h⟩:=bnd h;refine sq (gr fol [1] (kBG J (kQ (kBO d []))) (ac (cv (qbI g [45] z)) az) ?_);refine sg fol (kBG J (kQ (kBO d (kAT [])))) [bZ,bZ] ?_;refine sq (Goes.block ?_);obtain⟨K,g8,h⟩:=bnd h;refine Goes.imp (Q:=fun x s'=>(x= .exit 0/\ ∃b c,(b,c)=K/\Sub s' (ofG 41 (kQ (kBO d (kAT []))),[bZ,.cells (ni1 b c)]))) ?_ ?_
 ·refine Ud (fun M s=> ∃(A:Int) (B:List Int) (a:Str),s=(ofG 41 (kBG a (kQ (kBO d (kAT [])))),[bZ,.cells (ni1 A B)])/\xI N M A B a=some K) ?_ (m:=N) ⟨_,_,_,rfl,g8⟩;rintro M s ⟨A,B,a,rfl,g8⟩
  cases M with
  |zero=>simp only[xI]at g8;cases g8
  |succ M=>
   rw[xI]at g8;refine sq ?_;refine sh fol (kBG a (kQ (kBO d (kAT [(15,.bool (decide ((a.length:Int)>0)))])))) ?_;refine ihD g8 (fun L g8=>?_) (fun L g8=>?_)
   ·refine Goes.skip ?_;refine Goes.block ?_;refine sh fol (kBG a (kQ (kBO d (kAT (kA8 (if(a.length:Int)<18 then(a.length:Int)else 18)))))) ?_;obtain⟨C,j,g8⟩:=bnd g8;obtain⟨D,k,g8⟩:=bnd g8;refine sq (gr fol [2,3] (kBG a (kQ (kBO d (kAT (kBP (if(a.length:Int)<18 then(a.length:Int)else 18) D.1 []))))) (ac (hs (.done (.opt (kg ZT 9 (.str a) none (some (.i (if(a.length:Int)<18 then(a.length:Int)else 18))) none)) (.str C)) (jr st9 none (some (if(a.length:Int)<18 then(a.length:Int)else 18)) j)) (ac (cv (qpS C k)) az)) ?_);obtain⟨E,o,g8⟩:=bnd g8;obtain⟨F,p,g8⟩:=bnd g8;obtain⟨G,q,g8⟩:=bnd g8;obtain⟨H,r,g8⟩:=bnd g8;obtain⟨e,t,g8⟩:=bnd g8;refine sq (gq fol [1,3,4,6,7,8] (kBG a (kQ (kBO d (kAT (kA8 (if(a.length:Int)<18 then(a.length:Int)else 18)))))) [bZ,.cells (nz1 e)] (ac (cv (qbP 10 o)) (ac (cv (qiE N E (if(a.length:Int)<18 then(a.length:Int)else 18) p)) (ac (cv (zZ N (⟨A,B⟩:qp) F q)) (ac (cv (qbP D.1 r)) (ac (cv (qaL N G H t)) (ac (hs (.run [1] (qx ZT 98 (.ptr 1 0) (.agg (nz1 e))) [bZ,.cells (ni1 A B)] .undef [bZ,.cells (nz1 e)] true) (qV (n:=2) (by kernel_rfl) rfl rfl rfl rfl (cac rfl (cac nvc can)) rfl)) az)))))) ?_);obtain⟨u,v,g8⟩:=bnd g8;refine gr fol [2] (kBG u (kQ (kBO d (kAT [])))) (ac (hs (.done (.opt (kg ZT 9 (.str a) (some (.i (if(a.length:Int)<18 then(a.length:Int)else 18))) none none)) (.str u)) (jr st9 (some (if(a.length:Int)<18 then(a.length:Int)else 18)) none v)) az) ?_;exact⟨M,(ofG 41 (kBG u (kQ (kBO d (kAT [])))),[bZ,.cells (nz1 e)]),Nat.lt_succ_self _,(Sub.refl _),_,_,_,rfl,g8⟩
   refine Goes.exit ?_;obtain rfl:=si g8;exact⟨rfl,_,_,rfl,(Sub.keep [2,3,4] rfl rfl)⟩
 rintro x s' ⟨rfl,b,c,rfl,hsub⟩
 try dsimp only at h
 refine Goes.sub hsub ?_;refine sq ?_;refine sh fol (kQ (kAT [(37,.bool d)])) ?_;refine ihB h (fun I h=>?_) (fun I h=>?_)
 ·obtain⟨f,w,h⟩:=bnd h;refine sq (gq fol [1,2] (kQ []) [.cells (nz1 f),.cells (ni1 b c)] (ac (cv (vP (⟨b,c⟩:qp) w)) (ac (hs (.run [0] (qx ZT 98 (.ptr 0 0) (.agg (nz1 f))) [bZ,.cells (ni1 b c)] .undef [.cells (nz1 f),.cells (ni1 b c)] true) (qV (n:=2) (by kernel_rfl) rfl rfl rfl rfl (cac rfl (cac nvc can)) rfl)) az)) ?_);refine Goes.ret ?_;obtain rfl:=si h;exact(gw2 [.agg (nz1 f)] (FzW.agg (qd.cons (Ua tI) (qd.cons (Ua (qD ZU _ (nl rfl))) qd.nil))))
 refine Goes.skip ?_;refine sq (gq fol [1] (kQ []) [.cells (ni1 b c),.cells (ni1 b c)] (ac (hs (.run [0] (qx ZT 98 (.ptr 0 0) (.agg (ni1 b c))) [bZ,.cells (ni1 b c)] .undef [.cells (ni1 b c),.cells (ni1 b c)] true) (qV (n:=2) (by kernel_rfl) rfl rfl rfl rfl (cac rfl (cac nvc can)) rfl)) az) ?_);refine Goes.ret ?_;obtain rfl:=si h;exact(gw2 [.agg (ni1 b c)] (FzW.agg (qd.cons (Ua tI) (qd.cons (Ua (qD ZU _ (nl rfl))) qd.nil))))
def qbj (N:Nat) (a:qp) (b:qp):Option Int:=
 (if a.w.isEmpty=true then
 some b.w.isEmpty
 else
 some false:Option Bool).bind fun c=>
 if c=true then
 if a.s<b.s then
 some (-1)
 else
 if a.s>b.s then
 some 1
 else
 some 0
 else
 (xC N a b).bind fun d=>
 (kw d).bind fun e=>
 some e
theorem qet (N:Nat) (a:qp) (b:qp) {res:Int} (h:qbj N a b=some res):qb ZT (.fn 117) [.agg (nz1 a),.agg (nz1 b)] [] (.i res) []:=by
 unfold qbj at h;refine Ub Tryz.func117 rfl rfl (m:=29) rfl (rs:=[.tmp 4]) rfl (l:=[(0,.agg (nz1 a)),(1,.agg (nz1 b))]) rfl ?_;refine sg fol (kQ (kAN [])) [.cells (nz1 a),.cells (nz1 b)] ?_;refine sq ?_;refine sq ?_;obtain⟨j,c,h⟩:=bnd h;refine Ue (s':=(ofG 29 (kQ (kAN (kBD j))),[.cells (nz1 a),.cells (nz1 b)])) ?_ ?_
 ·rcases wyB c with⟨f,c⟩|⟨f,c⟩
  ·obtain rfl:=si c;exact tr fol [2,3,6] (kQ (kAN (kBD b.w.isEmpty))) (ac (hs (.done (.opt (ku ZT .eql 96 (.tmp 6) (.const (.slice none 0 0)) (nvl ZU a.w) .nilslice)) (.bool a.w.isEmpty)) (qaX qaU)) (ac (gw f) (ac (hs (.done (.opt (ku ZT .eql 96 (.tmp 10) (.const (.slice none 0 0)) (nvl ZU b.w) .nilslice)) (.bool b.w.isEmpty)) (qaX qaU)) az)))
  obtain rfl:=si c;exact tr fol [2,3] (kQ (kAN [(12,.bool false)])) (ac (hs (.done (.opt (ku ZT .eql 96 (.tmp 6) (.const (.slice none 0 0)) (nvl ZU a.w) .nilslice)) (.bool a.w.isEmpty)) (qaX qaU)) (ac (gw f) az))
 refine ihB h (fun k h=>?_) (fun k h=>?_)
 ·refine sq (Goes.block ?_);refine sh fol (kQ (kAN (kBC (decide (a.s<b.s))))) ?_;refine ihD h (fun n h=>?_) (fun n h=>?_)
  ·refine sh fol [(4,.i (-1))] ?_;refine Goes.ret ?_;obtain rfl:=si h;exact(gw2 [.i (-1)] (Ua tI))
  refine sh fol [(19,.bool (decide (a.s>b.s)))] ?_;refine ihD h (fun o h=>?_) (fun o h=>?_)
  ·refine sh fol [(4,.i 1)] ?_;refine Goes.ret ?_;obtain rfl:=si h;exact(gw2 [.i 1] (Ua tI))
  refine Goes.skip ?_;refine sh fol [(4,.i 0)] ?_;refine Goes.ret ?_;obtain rfl:=si h;exact(gw2 [.i 0] (Ua tI))
 refine Goes.skip ?_;obtain⟨p,d,h⟩:=bnd h;obtain⟨g,e,h⟩:=bnd h;refine sq (gr fol [2,3] (kBW g) (ac (cv (qeu N a b d)) (ac (cv (yI p e)) az)) ?_);refine Goes.ret ?_;obtain rfl:=si h;exact(gw2 [.i g] (Ua tI))
def zP (N:Nat) (a:Str):Option Int:=
 (strings_CutPrefix a [45]).bind fun r=>
 (strings_Cut r.1 [47]).bind fun b=>
 ((jU b.1).bind fun t=>
 if t=true then
 if(!r.2)=true then
 some true
 else
 some (!(b.1==[48]))
 else
 some false:Option Bool).bind fun s=>
 ((if b.2.2=true then
 (if s=true then
 (jU b.2.1).bind fun g=>
 if g=true then
 if(!(b.2.1==[48]))=true then
 some (!(b.2.1==[49]))
 else
 some false
 else
 some false
 else
 some false:Option Bool).bind fun h=>
 some h
 else
 some s:Option Bool)).bind fun u=>
 ((zD (!u) 1).bind fun c=>
 if(b.1.length:Int)>600 then
 (zD true 4).bind fun d=>
 (yZ N ([c,d]:List Int)).bind fun i=>
 some (c,d,i)
 else
 (zD (decide ((b.2.1.length:Int)>600)) 4).bind fun e=>
 (yZ N ([c,e]:List Int)).bind fun j=>
 some (c,e,j):Option (Int×Int×Int)).bind fun(v,w,f)=>
 if(!decide (f=0))=true then
 some f
 else
 (if b.2.2=true then
 (qbv N b.1).bind fun k=>
 (qbv N b.2.1).bind fun l=>
 (qcZ N k l).bind fun m=>
 (qcE 1).bind fun n=>
 (qbj N m n).bind fun o=>
 some (!decide (o=0))
 else
 some false:Option Bool).bind fun p=>
 (zD p 1).bind fun q=>
 some q
theorem qa6 (N:Nat) (a:Str) {res:Int} (h:zP N a=some res):qb ZT (.fn 47) [.str a] [] (.i res) []:=by
 unfold zP at h;refine Ub Tryz.func47 rfl rfl (m:=76) rfl (rs:=[.tmp 2]) rfl (l:=(kAM a)) rfl ?_;refine sh fol (kAM a) ?_;obtain⟨V,H,h⟩:=bnd h;refine sq (gr fol [1] ((3,.str V.1)::(kBR V.2)) (ac (cv (qeT a [45] H)) az) ?_);obtain⟨e,I,h⟩:=bnd h;refine sq (gr fol [1] ((4,.bool V.2)::(kAL e.1 e.2.1 e.2.2 [])) (ac (cv (qeX V.1 [47] I)) az) ?_);refine sq ?_;obtain⟨b6,f,h⟩:=bnd h;refine Ue (s':=(ofG 76 (kAL e.1 e.2.1 e.2.2 (kBe b6)),[])) ?_ ?_
 ·obtain⟨r3,k,f⟩:=bnd f;rcases wyB f with⟨X,f⟩|⟨X,f⟩
  ·rcases wyB f with⟨Y,f⟩|⟨Y,f⟩
   ·obtain rfl:=si f;exact tr fol [1,2,5] (kAL e.1 e.2.1 e.2.2 [(8,.bool true)]) (ac (cv (jL e.1 k)) (ac (gw X) (ac (gw Y) az)))
   obtain rfl:=si f;exact tr fol [1,2,5] (kAL e.1 e.2.1 e.2.2 (kBe (!(e.1==[48])))) (ac (cv (jL e.1 k)) (ac (gw X) (ac (gw Y) az)))
  obtain rfl:=si f;exact tr fol [1,2] (kAL e.1 e.2.1 e.2.2 [(8,.bool false)]) (ac (cv (jL e.1 k)) (ac (gw X) az))
 refine sq ?_;refine sh fol (kAL e.1 e.2.1 e.2.2 [(8,.bool b6),(32,.bool e.2.2)]) ?_;obtain⟨r9,g9,h⟩:=bnd h;refine Goes.imp (Q:=fun x s'=>(x= .normal/\ ∃J,J=r9/\Sub s' (ofG 76 (kAL e.1 e.2.1 e.2.2 (kBe J)),[]))) ?_ ?_
 ·refine ihB g9 (fun Z g9=>?_) (fun Z g9=>?_)
  ·obtain⟨a0,c,g9⟩:=bnd g9;refine Ue (s':=(ofG 76 (kAL e.1 e.2.1 e.2.2 (kBe a0)),[])) ?_ ?_
   ·rcases wyB c with⟨n,c⟩|⟨n,c⟩
    ·obtain⟨r12,j,c⟩:=bnd c;rcases wyB c with⟨q,c⟩|⟨q,c⟩
     ·rcases wyB c with⟨t,c⟩|⟨t,c⟩
      ·obtain rfl:=si c;exact tr fol [1,3,5,9] (kAL e.1 e.2.1 e.2.2 (kBe (!(e.2.1==[49])))) (ac (gw n) (ac (cv (jL e.2.1 j)) (ac (gw q) (ac (gw t) az))))
      obtain rfl:=si c;exact tr fol [1,3,5,9] (kAL e.1 e.2.1 e.2.2 [(8,.bool false)]) (ac (gw n) (ac (cv (jL e.2.1 j)) (ac (gw q) (ac (gw t) az))))
     obtain rfl:=si c;exact tr fol [1,3,5] (kAL e.1 e.2.1 e.2.2 [(8,.bool false)]) (ac (gw n) (ac (cv (jL e.2.1 j)) (ac (gw q) az)))
    obtain rfl:=si c;exact tr fol [1] (kAL e.1 e.2.1 e.2.2 [(8,.bool false)]) (ac (gw n) az)
   obtain rfl:=si g9;exact⟨rfl,_,rfl,(Sub.refl _)⟩
  refine Goes.skip ?_;obtain rfl:=si g9;exact⟨rfl,_,rfl,(Sub.keep [5,6,7,8] rfl rfl)⟩
 rintro x s' ⟨rfl,J,rfl,hsub⟩;refine Goes.sub hsub ?_;refine sq ?_;refine sq ?_;obtain⟨⟨K,L,o⟩,b,h⟩:=bnd h;refine Ue (s':=(ofG 76 (kAL e.1 e.2.1 e.2.2 [(9,.i o)]),(kA5 K L))) ?_ ?_
 ·obtain⟨g,p,b⟩:=bnd b;rcases wyD b with⟨u,b⟩|⟨u,b⟩
  ·obtain⟨r,v,b⟩:=bnd b;obtain⟨M,w,b⟩:=bnd b;simp only[ZI,ZP]at b;obtain⟨rfl,rfl,rfl⟩:=b;exact qeg.rq fol [2,6,11,13] (kAL e.1 e.2.1 e.2.2 [(9,.i M)]) (kA5 g r) (ac (cv (qaD (!J) 1 p)) (ac (gw u) (ac (cv (qaD true 4 v)) (ac (hs (.call 113 [.slice 0 0 2 2 1] (kA5 g r) [0] [vl encI ([g,r]:List Int)] (.i M)) (qdN (FzL.cons (Fz.lit rfl rfl (Ug (AllST.cons tI (AllST.cons tI AllST.nil)))) FzL.nil) (qee N ([g,r]:List Int) w) tI rfl)) az))))
  obtain⟨s,y,b⟩:=bnd b;obtain⟨O,z,b⟩:=bnd b;simp only[ZI,ZP]at b;obtain⟨rfl,rfl,rfl⟩:=b;exact qeg.rq fol [2,6,11,13] (kAL e.1 e.2.1 e.2.2 [(9,.i O)]) (kA5 g s) (ac (cv (qaD (!J) 1 p)) (ac (gw u) (ac (cv (qaD (decide ((e.2.1.length:Int)>600)) 4 y)) (ac (hs (.call 113 [.slice 0 0 2 2 1] (kA5 g s) [0] [vl encI ([g,s]:List Int)] (.i O)) (qdN (FzL.cons (Fz.lit rfl rfl (Ug (AllST.cons tI (AllST.cons tI AllST.nil)))) FzL.nil) (qee N ([g,s]:List Int) z) tI rfl)) az))))
 try dsimp only at h
 refine sh fol (kAL e.1 e.2.1 e.2.2 [(9,.i o),(61,.bool (!decide (o=0)))]) ?_;refine ihB h (fun a1 h=>?_) (fun a1 h=>?_)
 ·refine sh fol (kBL o) ?_;refine Goes.ret ?_;obtain rfl:=si h;exact(gw2 [.i o] (Ua tI))
 refine Goes.skip ?_;refine sq ?_;obtain⟨P,d,h⟩:=bnd h;refine Ue (s':=(ofG 76 (kBh P),(kA5 K L))) ?_ ?_
 ·rcases wyB d with⟨A,d⟩|⟨A,d⟩
  ·obtain⟨a2,B,d⟩:=bnd d;obtain⟨a3,C,d⟩:=bnd d;obtain⟨a4,D,d⟩:=bnd d;obtain⟨a5,E,d⟩:=bnd d;obtain⟨a6,F,d⟩:=bnd d;obtain rfl:=si d;exact tr fol [1,3,5,6,7,8] (kBh (!decide (a6=0))) (ac (gw A) (ac (cv (qb0 N e.1 B)) (ac (cv (qb0 N e.2.1 C)) (ac (cv (qiL N a2 a3 D)) (ac (cv (qbP 1 E)) (ac (cv (qet N a4 a5 F)) az))))))
  obtain rfl:=si d;exact tr fol [1] [(10,.bool false)] (ac (gw A) az)
 obtain⟨U,G,h⟩:=bnd h;refine sq (gr fol [1] (kBL U) (ac (cv (qaD P 1 G)) az) ?_);refine Goes.ret ?_;obtain rfl:=si h;exact(gw2 [.i U] (Ua tI))
def qbT (n:qp):Option qC:=
 (qcE 1).bind fun a=>
 some (⟨n,a⟩:qC)
theorem qeb (n:qp) {res:qC} (h:qbT n=some res):qb ZT (.fn 120) [.agg (nz1 n)] [] (.agg (nq1 res)) []:=by
 unfold qbT at h;refine Ub Tryz.func120 rfl rfl (m:=6) rfl (rs:=[.cell 2 100]) rfl (l:=[(0,.agg (nz1 n))]) rfl ?_;refine sg fol (kV kAw) (.cells (nz1 n)::(kC [])) ?_;obtain⟨a,b,h⟩:=bnd h;refine sq (gq fol [1,3] kAw [.cells (nz1 n),.cells (ni2 n.s n.w a.s a.w)] (ac (cv (qbP 1 b)) (ac (hs (.run [1] (qx ZT 100 (.ptr 1 0) (.agg (ni2 n.s n.w a.s a.w))) (.cells (nz1 n)::(kC [])) .undef [.cells (nz1 n),.cells (ni2 n.s n.w a.s a.w)] true) (qV (n:=4) (by kernel_rfl) rfl rfl rfl rfl (cac rfl (cac nvc (cac rfl (cac nvc can)))) rfl)) az)) ?_);refine Goes.ret ?_;obtain rfl:=si h;exact(gw2 [.agg (ni2 n.s n.w a.s a.w)] (FzW.agg (qd.cons (Ua tI) (qd.cons (Ua (qD ZU _ (nl rfl))) (qd.cons (Ua tI) (qd.cons (Ua (qD ZU _ (nl rfl))) qd.nil))))))
def je (N:Nat) (a:Str):Option qC:=
 (strings_Cut a [47]).bind fun b=>
 if(!b.2.2)=true then
 (qbv N b.1).bind fun c=>
 (qbT c).bind fun d=>
 some d
 else
 (qbv N b.1).bind fun e=>
 (qbv N b.2.1).bind fun f=>
 some (⟨e,f⟩:qC)
theorem jA (N:Nat) (a:Str) {res:qC} (h:je N a=some res):qb ZT (.fn 49) [.str a] [] (.agg (nq1 res)) []:=by
 unfold je at h;refine Ub Tryz.func49 rfl rfl (m:=22) rfl (rs:=[.cell 2 100]) rfl (l:=(kAM a)) rfl ?_;refine sg fol (kBG a (kQ [])) (kC []) ?_;obtain⟨b,e,h⟩:=bnd h;refine sq (gr fol [1] (kQ [(3,.str b.1),(4,.str b.2.1),(5,.bool b.2.2)]) (ac (cv (qeX a [47] e)) az) ?_);refine sq ?_;refine sh fol (kQ ((3,.str b.1)::(4,.str b.2.1)::(kBC (!b.2.2)))) ?_;refine ihB h (fun o h=>?_) (fun o h=>?_)
 ·obtain⟨p,f,h⟩:=bnd h;obtain⟨k,g,h⟩:=bnd h;refine sq (gq fol [1,2,3] (kQ []) [.cells (nq1 k)] (ac (cv (qb0 N b.1 f)) (ac (cv (qeb p g)) (ac (hs (.run [0] (qx ZT 100 (.ptr 0 0) (.agg (nq1 k))) (kC []) .undef [.cells (nq1 k)] true) (qV (n:=4) (by kernel_rfl) rfl rfl rfl rfl (cac rfl (cac nvc (cac rfl (cac nvc can)))) rfl)) az))) ?_);refine Goes.ret ?_;obtain rfl:=si h;exact(gw2 [.agg (nq1 k)] (FzW.agg (qd.cons (Ua tI) (qd.cons (Ua (qD ZU _ (nl rfl))) (qd.cons (Ua tI) (qd.cons (Ua (qD ZU _ (nl rfl))) qd.nil))))))
 refine Goes.skip ?_;obtain⟨c,i,h⟩:=bnd h;obtain⟨d,j,h⟩:=bnd h;refine sq (gq fol [1,3,5] (kQ []) [.cells (ni2 c.s c.w d.s d.w)] (ac (cv (qb0 N b.1 i)) (ac (cv (qb0 N b.2.1 j)) (ac (hs (.run [0] (qx ZT 100 (.ptr 0 0) (.agg (ni2 c.s c.w d.s d.w))) (kC []) .undef [.cells (ni2 c.s c.w d.s d.w)] true) (qV (n:=4) (by kernel_rfl) rfl rfl rfl rfl (cac rfl (cac nvc (cac rfl (cac nvc can)))) rfl)) az))) ?_);refine Goes.ret ?_;obtain rfl:=si h;exact(gw2 [.agg (ni2 c.s c.w d.s d.w)] (FzW.agg (qd.cons (Ua tI) (qd.cons (Ua (qD ZU _ (nl rfl))) (qd.cons (Ua tI) (qd.cons (Ua (qD ZU _ (nl rfl))) qd.nil))))))
def qac (a:qC):Option Int:=
 (kw a.Num).bind fun b=>
 some b
theorem qdB (a:qC) {res:Int} (h:qac a=some res):qb ZT (.fn 122) [.agg (nq1 a)] [] (.i res) []:=by
 unfold qac at h;refine Ub Tryz.func122 rfl rfl (m:=6) rfl (rs:=[.tmp 2]) rfl (l:=[(0,.agg (nq1 a))]) rfl ?_;refine sg fol (kV []) [.cells (nq1 a)] ?_;obtain⟨c,b,h⟩:=bnd h;refine sq (gr fol [2] (kBL c) (ac (cv (yI a.Num b)) az) ?_);refine Goes.ret ?_;obtain rfl:=si h;exact(gw2 [.i c] (Ua tI))
def qaK (N:Nat) (a:Str) (sign:Int):Option Int:=
 (zP N a).bind fun b=>
 if(!decide (b=0))=true then
 some b
 else
 (je N a).bind fun c=>
 (qac c).bind fun d=>
 (ky (decide (d<sign)) 3).bind fun e=>
 some e
theorem qfB (N:Nat) (a:Str) (sign:Int) {res:Int} (h:qaK N a sign=some res):qb ZT (.fn 119) [.str a,.i sign] [] (.i res) []:=by
 unfold qaK at h;refine Ub Tryz.func119 rfl rfl (m:=17) rfl (rs:=[.tmp 4]) rfl (l:=(kBG a [(1,.i sign)])) rfl ?_;refine sh fol (kBG a [(1,.i sign)]) ?_;refine sq ?_;obtain⟨b,c,h⟩:=bnd h;refine sq (gr fol [1] (kBG a ((1,.i sign)::(kA8 b))) (ac (cv (qa6 N a c)) az) ?_);refine sh fol (kBG a [(1,.i sign),(5,.i b),(9,.bool (!decide (b=0)))]) ?_;refine ihB h (fun j h=>?_) (fun j h=>?_)
 ·refine sh fol (kBW b) ?_;refine Goes.ret ?_;obtain rfl:=si h;exact(gw2 [.i b] (Ua tI))
 refine Goes.skip ?_;obtain⟨k,d,h⟩:=bnd h;obtain⟨n,e,h⟩:=bnd h;obtain⟨g,f,h⟩:=bnd h;refine sq (gr fol [1,2,5] (kBW g) (ac (cv (jA N a d)) (ac (cv (qdB k e)) (ac (cv (yY (decide (n<sign)) 3 f)) az))) ?_);refine Goes.ret ?_;obtain rfl:=si h;exact(gw2 [.i g] (Ua tI))
def ja (N:Nat) (a:Str):Option Int:=
 (qaK N a 1).bind fun b=>
 some b
theorem qdE (N:Nat) (a:Str) {res:Int} (h:ja N a=some res):qb ZT (.fn 48) [.str a] [] (.i res) []:=by
 unfold ja at h;refine Ub Tryz.func48 rfl rfl (m:=5) rfl (rs:=[.tmp 2]) rfl (l:=(kAM a)) rfl ?_;refine sh fol (kAM a) ?_;obtain⟨c,b,h⟩:=bnd h;refine sq (gr fol [1] (kBL c) (ac (cv (qfB N a 1 b)) az) ?_);refine Goes.ret ?_;obtain rfl:=si h;exact(gw2 [.i c] (Ua tI))
def yc (N:Nat) (a:qC) (b:qC):Option Int:=
 (qJ N a.Num b.Den).bind fun c=>
 (qJ N b.Num a.Den).bind fun d=>
 (qbj N c d).bind fun e=>
 some e
theorem qcg (N:Nat) (a:qC) (b:qC) {res:Int} (h:yc N a b=some res):qb ZT (.fn 50) [.agg (nq1 a),.agg (nq1 b)] [] (.i res) []:=by
 unfold yc at h;refine Ub Tryz.func50 rfl rfl (m:=16) rfl (rs:=[.tmp 4]) rfl (l:=[(0,.agg (nq1 a)),(1,.agg (nq1 b))]) rfl ?_;refine sg fol (kQ (kAN [])) [.cells (nq1 a),.cells (nq1 b)] ?_;obtain⟨g,c,h⟩:=bnd h;obtain⟨j,d,h⟩:=bnd h;obtain⟨f,e,h⟩:=bnd h;refine sq (gr fol [4,9,10] (kBW f) (ac (cv (zZ N a.Num b.Den c)) (ac (cv (zZ N b.Num a.Den d)) (ac (cv (qet N g j e)) az))) ?_);refine Goes.ret ?_;obtain rfl:=si h;exact(gw2 [.i f] (Ua tI))
def yR (N:Nat) (a:Str):Option Int:=
 (qaK N a 0).bind fun b=>
 some b
theorem qeh (N:Nat) (a:Str) {res:Int} (h:yR N a=some res):qb ZT (.fn 79) [.str a] [] (.i res) []:=by
 unfold yR at h;refine Ub Tryz.func79 rfl rfl (m:=5) rfl (rs:=[.tmp 2]) rfl (l:=(kAM a)) rfl ?_;refine sh fol (kAM a) ?_;obtain⟨c,b,h⟩:=bnd h;refine sq (gr fol [1] (kBL c) (ac (cv (qfB N a 0 b)) az) ?_);refine Goes.ret ?_;obtain rfl:=si h;exact(gw2 [.i c] (Ua tI))
def qa1 (N:Nat) (p:qL) (before:List qL):Option Int:=
 (yR N p.X).bind fun e=>
 (yR N p.Y).bind fun f=>
 (ji N ([e,f]:List Int)).bind fun d=>
 (if(!decide (d=0))=true then
 some true
 else
 some (decide ((before.length:Int)=0)):Option Bool).bind fun g=>
 if g=true then
 some d
 else
 (idx before (w64 ((before.length:Int)-1))).bind fun h=>
 (je N p.X).bind fun i=>
 (je N h.X).bind fun a=>
 (yc N i a).bind fun b=>
 (ky (decide (b<=0)) 11).bind fun c=>
 some c
theorem qfI (N:Nat) (p:qL) (before:List qL) {res:Int} (h:qa1 N p before=some res):qb ZT (.fn 108) [.agg [.str p.X,.str p.Y],vl qg before] [] (.i res) []:=by
 unfold qa1 at h;refine Ub Tryz.func108 rfl rfl (m:=38) rfl (rs:=[.tmp 4]) rfl (l:=[(0,.agg [.str p.X,.str p.Y]),(1,vl qg before)]) rfl ?_;refine sg fol ((1,vl qg before)::(kQ [])) (kA9 p.X p.Y []) ?_;refine sq ?_;obtain⟨g,j,h⟩:=bnd h;obtain⟨k,n,h⟩:=bnd h;obtain⟨c,o,h⟩:=bnd h;refine sq (gq fol [2,5,7] ((1,vl qg before)::(kQ (kA8 c))) (kA9 p.X p.Y (kA5 g k)) (ac (cv (qeh N p.X j)) (ac (cv (qeh N p.Y n)) (ac (hs (.call 41 [.slice 1 0 2 2 1] (kA9 p.X p.Y (kA5 g k)) [1] [vl encI ([g,k]:List Int)] (.i c)) (qdN (FzL.cons (Fz.lit rfl rfl (Ug (AllST.cons tI (AllST.cons tI AllST.nil)))) FzL.nil) (qae N ([g,k]:List Int) o) tI rfl)) az))) ?_);refine sq ?_;obtain⟨w,a,h⟩:=bnd h;refine Ue (s':=(ofG 38 ((1,vl qg before)::(kQ [(5,.i c),(21,.bool w)])),(kA9 p.X p.Y (kA5 g k)))) ?_ ?_
 ·rcases wyB a with⟨s,a⟩|⟨s,a⟩
  ·obtain rfl:=si a;exact tr fol [2] ((1,vl qg before)::(kQ [(5,.i c),(21,.bool true)])) (ac (gw s) az)
  obtain rfl:=si a;exact tr fol [2] ((1,vl qg before)::(kQ [(5,.i c),(21,.bool (decide ((before.length:Int)=0)))])) (ac (gw s) az)
 refine ihB h (fun x h=>?_) (fun x h=>?_)
 ·refine sh fol (kBW c) ?_;refine Goes.ret ?_;obtain rfl:=si h;exact(gw2 [.i c] (Ua tI))
 refine Goes.skip ?_;obtain⟨v,b,h⟩:=bnd h;refine sq (gr fol [4,6] (kQ [(6,.str v.X)]) (ac (iv qeR qg b) (ac (lv 0 qlq qg b rfl) az)) ?_);obtain⟨y,q,h⟩:=bnd h;obtain⟨t,d,h⟩:=bnd h;obtain⟨u,e,h⟩:=bnd h;obtain⟨r,f,h⟩:=bnd h;refine sq (gr fol [2,4,5,7] (kBW r) (ac (cv (jA N p.X q)) (ac (cv (jA N v.X d)) (ac (cv (qcg N y t e)) (ac (cv (yY (decide (u<=0)) 11 f)) az)))) ?_);refine Goes.ret ?_;obtain rfl:=si h;exact(gw2 [.i r] (Ua tI))
def qaa (N:Nat) (a:Str):Option Int:=
 (if(!(a==[]))=true then
 (qag N a).bind fun b=>
 (ky (!b) 8).bind fun c=>
 some c
 else
 (ky false 8).bind fun d=>
 some d:Option Int).bind fun e=>
 some e
theorem qgS (N:Nat) (b:Str) {res:Int} (h:qaa N b=some res):qb ZT (.fn 109) [.str b] [] (.i res) []:=by
 unfold qaa at h;refine Ub Tryz.func109 rfl rfl (m:=11) rfl (rs:=[.tmp 2]) rfl (l:=(kAM b)) rfl ?_;refine sh fol (kAM b) ?_;refine sq ?_;obtain⟨g,a,h⟩:=bnd h;refine Ue (s':=(ofG 11 (kBL g),[])) ?_ ?_
 ·rcases wyB a with⟨f,a⟩|⟨f,a⟩
  ·obtain⟨j,c,a⟩:=bnd a;obtain⟨k,d,a⟩:=bnd a;obtain rfl:=si a;exact tr fol [2,4,7] (kBL k) (ac (gw f) (ac (cv (qdt N b c)) (ac (cv (yY (!j) 8 d)) az)))
  obtain⟨n,e,a⟩:=bnd a;obtain rfl:=si a;exact tr fol [2,7] (kBL n) (ac (gw f) (ac (cv (yY false 8 e)) az))
 refine Goes.ret ?_;obtain rfl:=si h;exact(gw2 [.i g] (Ua tI))
def qM (N:Nat) (a:List qL):Nat->Int->Option (Unit⊕Int)
 |0,_=>none
 |K+1,b=>
  if b<(a.length:Int)then
  (idx a b).bind fun d=>
  (cut a 0 b).bind fun e=>
  (qa1 N d e).bind fun c=>
  if(!decide (c=0))=true then
  some (.inr c)
  else
  qM N a K (w64 (b+1))
  else
  some (.inl ())
def jY (N:Nat) (a:List qL) (b:Int):Option Int:=
 if(a.length:Int)>b then
 some 5
 else
 (qM N a N 0).bind (fun
 |(.inl ())=>
 some 0
 |(.inr c)=>
 some c)
theorem qel (N:Nat) (a:List qL) (c:Int) {res:Int} (h:jY N a c=some res):qb ZT (.fn 107) [vl qg a,.i c,.func (.func 108) [] []] [] (.i res) []:=by
 unfold jY at h;refine Ub Tryz.func107 rfl rfl (m:=31) rfl (rs:=[.tmp 6]) rfl (l:=(kBN a [(1,.i c),(2,.func (.func 108) [] [])])) rfl ?_;refine sh fol (kBN a [(1,.i c),(2,.func (.func 108) [] [])]) ?_;refine sq ?_;refine sh fol (kBN a ((2,.func (.func 108) [] [])::(kBC (decide ((a.length:Int)>c))))) ?_;refine ihD h (fun p h=>?_) (fun p h=>?_)
 ·refine sh fol [(6,.i 5)] ?_;refine Goes.ret ?_;obtain rfl:=si h;exact(gw2 [.i 5] (Ua tI))
 refine Goes.skip ?_;refine sq ?_;refine sh fol (kBN a [(2,.func (.func 108) [] []),(14,vl qg a),(15,.i (a.length:Int)),(16,.i 0)]) ?_;refine Goes.block ?_;obtain⟨j,g3,h⟩:=bnd h;refine Goes.imp (Q:=fun x s'=>(x= .exit 0/\(.inl ())=j/\Sub s' (ofG 31 [],[]))\/(x= .ret/\ ∃n,(.inr n)=j/\zh ZT [.tmp 6] (.i n) .ret s')) ?_ ?_
 ·refine Ud (fun M s=> ∃(b:Int),s=(ofG 31 (kBN a ((2,.func (.func 108) [] [])::(14,vl qg a)::(kAZ (a.length:Int) b []))),[])/\qM N a M b=some j) ?_ (m:=N) ⟨_,rfl,g3⟩;rintro M s ⟨b,rfl,g3⟩
  cases M with
  |zero=>simp only[qM]at g3;cases g3
  |succ M=>
   rw[qM]at g3;refine sh fol (kBN a ((2,.func (.func 108) [] [])::(14,vl qg a)::(kAZ (a.length:Int) b [(17,.bool (decide (b<(a.length:Int))))]))) ?_;refine sq ?_;refine ihD g3 (fun q g3=>?_) (fun q g3=>?_)
   ·refine Goes.skip ?_;refine sq (Goes.block ?_);obtain⟨k,d,g3⟩:=bnd g3;refine sq (gq fol [1,2] (kBN a ((2,.func (.func 108) [] [])::(7,.i b)::(kAz ((14,vl qg a)::(kAZ (a.length:Int) b []))))) (kA9 k.X k.Y []) (ac (iv qeR qg d) (ac (la qnS qg d) az)) ?_);obtain⟨o,e,g3⟩:=bnd g3;obtain⟨f,g,g3⟩:=bnd g3;refine sq (gr fol [4,5] (kBN a ((2,.func (.func 108) [] [])::(9,.i f)::(14,vl qg a)::(kAZ (a.length:Int) b []))) (ac (hs (.done (.opt (kg ZT 30 (vl qg a) none (some (.i b)) none)) (vl qg o)) (qjn qeR (E:=qg) rfl none (some b) e)) (ac (cv (qfI N k o g)) az)) ?_);refine sh fol (kBN a ((2,.func (.func 108) [] [])::(9,.i f)::(14,vl qg a)::(kAZ (a.length:Int) b [(28,.bool (!decide (f=0)))]))) ?_;refine ihB g3 (fun r g3=>?_) (fun r g3=>?_)
    ·refine sh fol [(6,.i f)] ?_;refine Goes.ret ?_;obtain rfl:=si g3;exact Or.inr (⟨rfl,_,rfl,(gw2 [.i f] (Ua tI))⟩)
    refine Goes.skip ?_;refine gh fol (kBN a ((2,.func (.func 108) [] [])::(14,vl qg a)::(kAZ (a.length:Int) (w64 (b+1)) []))) ?_;exact⟨M,(ofG 31 (kBN a ((2,.func (.func 108) [] [])::(14,vl qg a)::(kAZ (a.length:Int) (w64 (b+1)) []))),[]),Nat.lt_succ_self _,(Uc [] [] rfl rfl (.keep (.same (qf qg _)) (.keep (.same (qF.func sn sn)) (.keep (.same (qf qg _)) (.keep (.same nI) (.keep (.same nI) .nil))))) .nil),_,rfl,g3⟩
   refine Goes.exit ?_;obtain rfl:=si g3;exact Or.inl (⟨rfl,rfl,(Sub.keep [] rfl rfl)⟩)
 rintro x s' (⟨rfl,rfl,hsub⟩|⟨rfl,t,rfl,hret⟩)
 ·try dsimp only at h
  refine Goes.sub hsub ?_;refine sh fol [(6,.i 0)] ?_;refine Goes.ret ?_;obtain rfl:=si h;exact(gw2 [.i 0] (Ua tI))
 try dsimp only at h
 obtain rfl:=si h;exact hret
def zl (N:Nat) (y:qh):Option Int:=
 (xe N y.Name).bind fun a=>
 (ja N y.Density).bind fun b=>
 (zP N y.Twist).bind fun c=>
 (ky (decide ((y.Strength.length:Int)=0)) 12).bind fun d=>
 (jY N y.Strength 256).bind fun e=>
 (qaa N y.Dye).bind fun f=>
 (ji N ([a,b,c,d,e,f]:List Int)).bind fun g=>
 some g
theorem qbw (N:Nat) (y:qh) {res:Int} (h:zl N y=some res):qb ZT (.fn 46) [.agg (kAn y.Name y.Density y.Twist y.Strength y.Dye)] [] (.i res) []:=by
 unfold zl at h;refine Ub Tryz.func46 rfl rfl (m:=25) rfl (rs:=[.tmp 2]) rfl (l:=(kAE y.Name y.Density y.Twist y.Strength y.Dye [])) rfl ?_;refine sg fol (kV []) (kA y.Name y.Density y.Twist y.Strength y.Dye []) ?_;obtain⟨k,a,h⟩:=bnd h;obtain⟨n,b,h⟩:=bnd h;obtain⟨o,c,h⟩:=bnd h;obtain⟨p,d,h⟩:=bnd h;obtain⟨e,f,h⟩:=bnd h;obtain⟨q,g,h⟩:=bnd h;obtain⟨r,j,h⟩:=bnd h;refine sq (gq fol [2,5,8,13,16,19,21] (kBL r) (kA y.Name y.Density y.Twist y.Strength y.Dye [.cells [.i k,.i n,.i o,.i p,.i e,.i q]]) (ac (cv (qfv N y.Name a)) (ac (cv (qdE N y.Density b)) (ac (cv (qa6 N y.Twist c)) (ac (cv (yY (decide ((y.Strength.length:Int)=0)) 12 d)) (ac (hs (.call 107 [vl qg y.Strength,.i 256,.func (.func 108) [] []] [] [] [vl qg y.Strength,.i 256,.func (.func 108) [] []] (.i e)) (qpZ (FzL.cons (Uk (qB qg _ (nl rfl))) (FzL.cons (Uk tI) (FzL.cons (Fz.func FzL.nil FzL.nil) FzL.nil))) (qel N y.Strength 256 f) tI)) (ac (cv (qgS N y.Dye g)) (ac (hs (.call 41 [.slice 1 0 6 6 1] (kA y.Name y.Density y.Twist y.Strength y.Dye [.cells [.i k,.i n,.i o,.i p,.i e,.i q]]) [1] [vl encI ([k,n,o,p,e,q]:List Int)] (.i r)) (qdN (FzL.cons (Fz.lit rfl rfl (Ug (AllST.cons tI (AllST.cons tI (AllST.cons tI (AllST.cons tI (AllST.cons tI (AllST.cons tI AllST.nil)))))))) FzL.nil) (qae N ([k,n,o,p,e,q]:List Int) j) tI rfl)) az))))))) ?_);refine Goes.ret ?_;obtain rfl:=si h;exact(gw2 [.i r] (Ua tI))
def qce (N:Nat) (y:qh) (b:List qh):Option Int:=
 (zl N y).bind fun a=>
 some a
theorem qiZ (N:Nat) (y:qh) (b:List qh) {res:Int} (h:qce N y b=some res):qb ZT (.fn 45) (kAD y.Name y.Density y.Twist y.Strength y.Dye [vl qc b]) [] (.i res) []:=by
 unfold qce at h;refine Ub Tryz.func45 rfl rfl (m:=7) rfl (rs:=[.tmp 4]) rfl (l:=(kAE y.Name y.Density y.Twist y.Strength y.Dye [(1,vl qc b)])) rfl ?_;refine sg fol (kQ []) (kA y.Name y.Density y.Twist y.Strength y.Dye []) ?_;obtain⟨c,a,h⟩:=bnd h;refine sq (gr fol [1] (kBW c) (ac (cv (qbw N y a)) az) ?_);refine Goes.ret ?_;obtain rfl:=si h;exact(gw2 [.i c] (Ua tI))
def qhb (n:Int):Option qC:=
 (qcE n).bind fun a=>
 (qbT a).bind fun b=>
 some b
theorem qf3 (n:Int) {res:qC} (h:qhb n=some res):qb ZT (.fn 51) [.i n] [] (.agg (nq1 res)) []:=by
 unfold qhb at h;refine Ub Tryz.func51 rfl rfl (m:=6) rfl (rs:=[.cell 2 100]) rfl (l:=[(0,.i n)]) rfl ?_;refine sg fol ((0,.i n)::(kQ [])) (kC []) ?_;obtain⟨d,a,h⟩:=bnd h;obtain⟨c,b,h⟩:=bnd h;refine sq (gq fol [1,2,3] (kQ []) [.cells (nq1 c)] (ac (cv (qbP n a)) (ac (cv (qeb d b)) (ac (hs (.run [0] (qx ZT 100 (.ptr 0 0) (.agg (nq1 c))) (kC []) .undef [.cells (nq1 c)] true) (qV (n:=4) (by kernel_rfl) rfl rfl rfl rfl (cac rfl (cac nvc (cac rfl (cac nvc can)))) rfl)) az))) ?_);refine Goes.ret ?_;obtain rfl:=si h;exact(gw2 [.agg (nq1 c)] (FzW.agg (qd.cons (Ua tI) (qd.cons (Ua (qD ZU _ (nl rfl))) (qd.cons (Ua tI) (qd.cons (Ua (qD ZU _ (nl rfl))) qd.nil))))))
def qbB (a:qC):Option qC:=
 (zL a.Num).bind fun b=>
 some (⟨b,a.Den⟩:qC)
theorem qhh (a:qC) {res:qC} (h:qbB a=some res):qb ZT (.fn 123) [.agg (nq1 a)] [] (.agg (nq1 res)) []:=by
 unfold qbB at h;refine Ub Tryz.func123 rfl rfl (m:=9) rfl (rs:=[.cell 2 100]) rfl (l:=[(0,.agg (nq1 a))]) rfl ?_;refine sg fol (kV kAw) (.cells (nq1 a)::(kC [])) ?_;obtain⟨b,c,h⟩:=bnd h;refine sq (gq fol [2,6] kAw [.cells (nq1 a),.cells (ni2 b.s b.w a.Den.s a.Den.w)] (ac (cv (vP a.Num c)) (ac (hs (.run [1] (qx ZT 100 (.ptr 1 0) (.agg (ni2 b.s b.w a.Den.s a.Den.w))) (.cells (nq1 a)::(kC [])) .undef [.cells (nq1 a),.cells (ni2 b.s b.w a.Den.s a.Den.w)] true) (qV (n:=4) (by kernel_rfl) rfl rfl rfl rfl (cac rfl (cac nvc (cac rfl (cac nvc can)))) rfl)) az)) ?_);refine Goes.ret ?_;obtain rfl:=si h;exact(gw2 [.agg (ni2 b.s b.w a.Den.s a.Den.w)] (FzW.agg (qd.cons (Ua tI) (qd.cons (Ua (qD ZU _ (nl rfl))) (qd.cons (Ua tI) (qd.cons (Ua (qD ZU _ (nl rfl))) qd.nil))))))
end Go.Av
