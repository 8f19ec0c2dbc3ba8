/-
  Walks of functions: what each computes, as a plain function.
-/
import Derived.Test.YtfjamndmfilklaaGreatDoorQGenR1
noncomputable section
namespace Go.Av
open Go.Proofs Go.RowKit
set_option linter.unusedSectionVars false
set_option linter.unusedVariables false
set_option linter.unusedSimpArgs false
set_option maxRecDepth 100000
def zK (b:List Int) (a:Int):Nat->(List Int)->Int->Option (List Int)
 |0,_,_=>none
 |K+1,f,c=>
  if c<(b.length:Int)then
  (((idx b c).bind fun e=>
  (idx f c).bind fun g=>
  (qie .u64 e a).bind fun h=>
  (put f c (orI .u64 g h)).bind fun d=>
  if a>0 then
  (qj2 .u64 e (w64 (64-a))).bind fun i=>
  (idx d (w64 (c+1))).bind fun k=>
  (put d (w64 (c+1)) i).bind fun j=>
  some j
  else
  some d:Option (List Int))).bind fun l=>
  zK b a K l (w64 (c+1))
  else
  some f
def yT (N:Nat) (a:List Int) (b:Int):Option (List Int):=
 (mk 8 (w64 ((a.length:Int)+1)) 0).bind fun c=>
 (zK a b N c 0).bind fun d=>
 some d
theorem qcG (N:Nat) (a:List Int) (b:Int) {G:List Int} (h:yT N a b=some G):qb ZT (.fn 225) [vl (qa .u64) a,.i b] [] (.slice 0 0 G.length G.length 1) [.cells (G.flatMap (qa .u64).c)]:=by
 unfold yT at h
 refine Goes.fnH Tryz.func225 rfl rfl (m:=40) rfl (rs:=[.tmp 4]) rfl (l:=[(0,vl (qa .u64) a),(1,.i b)]) rfl ?_
 intro B hB
 refine sh fol [(0,vl (qa .u64) a),(1,.i b)] ?_
 obtain⟨D,F,h⟩:=bnd h
 refine sq (gq fol [3] ((0,vl (qa .u64) a)::(1,.i b)::(kD D [])) [.cells (D.flatMap (qa .u64).c)] (ac (hs (.run [] (jc ZT 83 (.i (w64 ((a.length:Int)+1))) (.i (w64 ((a.length:Int)+1)))) [] (.slice 0 0 D.length D.length 1) [.cells (D.flatMap (qa .u64).c)] false) (qdI zH (E:=(qa .u64)) (z:=0) rfl (by kernel_rfl) F rfl)) az) ?_)
 refine sq ?_
 refine sh fol ((1,.i b)::(kD D [(12,vl (qa .u64) a),(13,.i (a.length:Int)),(14,.i 0)])) ?_
 refine Goes.block ?_
 obtain⟨I,g6,h⟩:=bnd h
 refine Goes.imp (Q:=fun x s'=>(x= .exit 0/\ ∃r,r=I/\Sub s' (ofG 40 (kD r []),[.cells (r.flatMap (qa .u64).c)]))) ?_ ?_
 ·refine Uc (fun M s=> ∃(g:List Int) (d:Int),s=(ofG 40 ((1,.i b)::(kD g ((12,vl (qa .u64) a)::(kAN (a.length:Int) d)))),[.cells (g.flatMap (qa .u64).c)])/\zK a b M g d=some I) ?_ (m:=N) ⟨_,_,rfl,g6⟩
  rintro M s ⟨g,d,rfl,g6⟩
  cases M with
  |zero=>simp only[zK]at g6;cases g6
  |succ M=>
   rw[zK]at g6
   refine sh fol ((1,.i b)::(kD g ((12,vl (qa .u64) a)::(13,.i (a.length:Int))::(14,.i d)::(kBN (decide (d<(a.length:Int))))))) ?_
   refine sq ?_
   refine ihD g6 (fun J g6=>?_) (fun J g6=>?_)
   ·refine Goes.skip ?_
    refine sq ?_
    obtain⟨K,g9,g6⟩:=bnd g6
    refine Goes.imp (Q:=fun x s'=>(x= .normal/\ ∃t,t=K/\Sub s' (ofG 40 ((1,.i b)::(kD t ((12,vl (qa .u64) a)::(kAN (a.length:Int) d)))),[.cells (t.flatMap (qa .u64).c)]))) ?_ ?_
    ·refine Goes.block ?_
     obtain⟨j,k,g9⟩:=bnd g9
     refine sq (gr fol [1,2] ((1,.i b)::(kD g ((6,.i d)::(kAk j ((12,vl (qa .u64) a)::(kAN (a.length:Int) d)))))) (ac (iv zH (qa .u64) k) (ac (lv 0 zP (qa .u64) k rfl) az)) ?_)
     obtain⟨u,f,g9⟩:=bnd g9
     obtain⟨v,w,g9⟩:=bnd g9
     obtain⟨e,n,g9⟩:=bnd g9
     refine sq (gq fol [2,3,6,8,9] ((1,.i b)::(kD g ((6,.i d)::(kAk j ((12,vl (qa .u64) a)::(kAN (a.length:Int) d)))))) [.cells (e.flatMap (qa .u64).c)] (ac (hs (.done (.opt (qh ZT 83 (.slice 0 0 g.length g.length 1) (.i d))) (.ptr 0 ((d:Int).toNat*1+0))) (qaE zH f)) (ac (hs (.run [0] (ja ZT 197 (.ptr 0 ((d:Int).toNat*1+0))) [.cells (g.flatMap (qa .u64).c)] (.int .u64 u) [.cells (g.flatMap (qa .u64).c)] false) (qcC zP (E:=(qa .u64)) (l:=g) rfl rfl f (nl rfl) rfl)) (ac (hs (.done (.opt (qR ZT .shl 197 (.tmp 23) (.tmp 24) (.int .u64 j) (.i b))) (.int .u64 v)) (qfI w)) (ac (hs (.done (.opt (qh ZT 83 (.slice 0 0 g.length g.length 1) (.i d))) (.ptr 0 ((d:Int).toNat*1+0))) (qaE zH f)) (ac (hs (.run [0] (qm ZT 197 (.ptr 0 ((d:Int).toNat*1+0)) (.int .u64 (orI .u64 u v))) [.cells (g.flatMap (qa .u64).c)] .undef [.cells (e.flatMap (qa .u64).c)] true) (qan (E:=(qa .u64)) (l:=g) (y:=orI .u64 u v) rfl (show _=some 1 by kernel_rfl) rfl f rfl rfl rfl rfl rfl n rfl)) az))))) ?_)
     refine Goes.sub (show Sub (ofG 40 ((1,.i b)::(kD g ((6,.i d)::(kAk j ((12,vl (qa .u64) a)::(kAN (a.length:Int) d)))))),[.cells (e.flatMap (qa .u64).c)]) (ofG 40 ((1,.i b)::(kD e ((6,.i d)::(kAk j ((12,vl (qa .u64) a)::(kAN (a.length:Int) d)))))),[.cells (e.flatMap (qa .u64).c)])from(Sub.norm [] [some 0] (by rw[hB];rfl) rfl (.keep (.same nI) (.keep (.sliceE rfl (vD n)) (.keep (.same nI) (.keep (.same nI) (.keep (.same (qf (qa .u64) _)) (.keep (.same nI) (.keep (.same nI) .nil))))))) (.ks .nil))) ?_
     refine sh fol ((1,.i b)::(kD e ((6,.i d)::(kAk j [(12,vl (qa .u64) a),(13,.i (a.length:Int)),(14,.i d),(29,.bool (decide (b>0)))])))) ?_
     refine ihD g9 (fun H g9=>?_) (fun H g9=>?_)
     ·obtain⟨A,C,g9⟩:=bnd g9
      obtain⟨L,o,g9⟩:=bnd g9
      obtain⟨p,q,g9⟩:=bnd g9
      refine gq fol [6,7,8] ((1,.i b)::(kD e ((12,vl (qa .u64) a)::(kAN (a.length:Int) d)))) [.cells (p.flatMap (qa .u64).c)] (ac (hs (.done (.opt (qR ZT .shr 197 (.tmp 33) (.tmp 35) (.int .u64 j) (.i (w64 (64-b))))) (.int .u64 A)) (qgS C)) (ac (hs (.done (.opt (qh ZT 83 (.slice 0 0 e.length e.length 1) (.i (w64 (d+1))))) (.ptr 0 ((w64 (d+1):Int).toNat*1+0))) (qaE zH o)) (ac (hs (.run [0] (qm ZT 197 (.ptr 0 ((w64 (d+1):Int).toNat*1+0)) (.int .u64 A)) [.cells (e.flatMap (qa .u64).c)] .undef [.cells (p.flatMap (qa .u64).c)] true) (qan (E:=(qa .u64)) (l:=e) (y:=A) rfl (show _=some 1 by kernel_rfl) rfl o rfl rfl rfl rfl rfl q rfl)) az))) ?_
      obtain rfl:=si g9
      exact⟨rfl,_,rfl,((show Sub (ofG 40 ((1,.i b)::(kD e ((12,vl (qa .u64) a)::(kAN (a.length:Int) d)))),[.cells (p.flatMap (qa .u64).c)]) (ofG 40 ((1,.i b)::(kD p ((12,vl (qa .u64) a)::(kAN (a.length:Int) d)))),[.cells (p.flatMap (qa .u64).c)])from(Sub.norm [] [some 0] (by rw[hB];rfl) rfl (.keep (.same nI) (.keep (.sliceE rfl (vD q)) (.keep (.same (qf (qa .u64) _)) (.keep (.same nI) (.keep (.same nI) .nil))))) (.ks .nil))).trans (Sub.refl _))⟩
     refine Goes.skip ?_
     obtain rfl:=si g9
     exact⟨rfl,_,rfl,(Sub.keep [1,5,12,13,14] rfl rfl)⟩
    rintro x s' ⟨rfl,t,rfl,hsub⟩
    refine Goes.sub hsub ?_
    refine gh fol ((1,.i b)::(kD t ((12,vl (qa .u64) a)::(kAN (a.length:Int) (w64 (d+1)))))) ?_
    exact⟨M,(ofG 40 ((1,.i b)::(kD t ((12,vl (qa .u64) a)::(kAN (a.length:Int) (w64 (d+1)))))),[.cells (t.flatMap (qa .u64).c)]),Nat.lt_succ_self _,(Sub.refl _),_,_,rfl,g6⟩
   refine Goes.exit ?_
   obtain rfl:=si g6
   exact⟨rfl,_,rfl,(Sub.keep [5] rfl rfl)⟩
 rintro x s' ⟨rfl,r,rfl,hsub⟩
 refine Goes.sub hsub ?_
 refine sh fol [(4,.slice 0 0 r.length r.length 1)] ?_
 refine Goes.ret ?_
 obtain rfl:=si h
 exact(gh2 [.slice 0 0 r.length r.length 1] (qfF.refl _ _))
def yc (e:List Int) (f:Nat) (g:Nat) (a:List Int):Nat->Int->Int->Int->Option Int
 |0,_,_,_=>none
 |K+1,b,c,i=>
  if i=0 then
  (idx a (w64 ((a.length:Int)-2))).bind fun j=>
  (bits_Mul64 b j).bind fun d=>
  (if d.1<c then
  some true
  else
  if d.1=c then
  (qfB e f g (w64 ((a.length:Int)-2))).bind fun k=>
  some (decide (d.2<=k))
  else
  some false:Option Bool).bind fun l=>
  if l=true then
  some b
  else
  (idx a (w64 ((a.length:Int)-1))).bind fun m=>
  (xV c m 0).bind fun h=>
  yc e f g a K (IntKind.wrap .u64 (b-1)) h.1 h.2
  else
  some b
def jN (b:Nat) (e:Nat) (c:List Int) (f:Int):Nat->(List Int)->Int->Int->Int->Option ((List Int)×Int×Int)
 |0,_,_,_,_=>none
 |K+1,d,a,g,h=>
  if a<(c.length:Int)then
  (idx c a).bind fun l=>
  (bits_Mul64 f l).bind fun i=>
  (xV i.2 h 0).bind fun j=>
  (qfB d b e a).bind fun m=>
  (qeA m j.1 g).bind fun k=>
  (put d ((b+(a:Int).toNat:Nat):Int) k.1).bind fun n=>
  jN b e c f K n (w64 (a+1)) k.2 (IntKind.wrap .u64 (i.1+j.2))
  else
  some (d,g,h)
def jQ (b:Nat) (e:Nat) (c:List Int):Nat->(List Int)->Int->Int->Option ((List Int)×Int)
 |0,_,_,_=>none
 |K+1,d,a,f=>
  if a<(c.length:Int)then
  (qfB d b e a).bind fun h=>
  (idx c a).bind fun i=>
  (xV h i f).bind fun g=>
  (put d ((b+(a:Int).toNat:Nat):Int) g.1).bind fun j=>
  jQ b e c K j (w64 (a+1)) g.2
  else
  some (d,f)
def qbF (N:Nat) (d:List Int) (b:Nat) (c:Nat) (v:Nat) (a:List Int):Option ((List Int)×Int):=
 (qfB d b c (a.length:Int)).bind fun u=>
 (idx a (w64 ((a.length:Int)-1))).bind fun l=>
 ((if u>=l then
 (qfB d b c (w64 ((a.length:Int)-1))).bind fun m=>
 (xV m l 0).bind fun f=>
 some (18446744073709551615,f.1,f.2)
 else
 (qfB d b c (w64 ((a.length:Int)-1))).bind fun n=>
 (qaT N u n l).bind fun g=>
 some (g.1,g.2,0):Option (Int×Int×Int))).bind fun(w,x,y)=>
 (yc d b c a N w x y).bind fun e=>
 (jN b c a e N d 0 0 0).bind fun(h,o,p)=>
 (qfB h b c (a.length:Int)).bind fun q=>
 (qeA q p o).bind fun i=>
 (put h ((b+((a.length:Int):Int).toNat:Nat):Int) i.1).bind fun j=>
 if i.2=0 then
 some (j,e)
 else
 (jQ b c a N j 0 0).bind fun(k,r)=>
 (qfB k b c (a.length:Int)).bind fun s=>
 (put k ((b+((a.length:Int):Int).toNat:Nat):Int) (IntKind.wrap .u64 (s+r))).bind fun t=>
 some (t,IntKind.wrap .u64 (e-1))
theorem qhy (N:Nat) (j:List Int) (b:Nat) (d:Nat) (e:Nat) (a:List Int) {l1:List Int} {n2:Int} (h:qbF N j b d e a=some (l1,n2)):qb ZT (.fn 226) [.slice 0 b d e 1,vl (qa .u64) a] [.cells (j.flatMap (qa .u64).c)] (.int .u64 n2) [.cells (l1.flatMap (qa .u64).c)]:=by
 unfold qbF at h
 refine Goes.fnH Tryz.func226 rfl rfl (m:=186) rfl (rs:=[.tmp 4]) rfl (l:=[(0,.slice 0 b d e 1),(1,vl (qa .u64) a)]) rfl ?_
 intro B hB
 refine sh fol [(0,.slice 0 b d e 1),(1,vl (qa .u64) a)] ?_
 refine sh fol ((0,.slice 0 b d e 1)::(1,vl (qa .u64) a)::(kBG (a.length:Int))) ?_
 refine sh fol ((0,.slice 0 b d e 1)::(1,vl (qa .u64) a)::(kBG (a.length:Int))) ?_
 refine sh fol ((0,.slice 0 b d e 1)::(1,vl (qa .u64) a)::(5,.i (a.length:Int))::(kBc [])) ?_
 refine sq ?_
 obtain⟨x3,K,h⟩:=bnd h
 obtain⟨x4,u,h⟩:=bnd h
 refine sq (gr fol [2,3,7,8] ((0,.slice 0 b d e 1)::(1,vl (qa .u64) a)::(5,.i (a.length:Int))::(kBc [(30,.bool (decide (x3>=x4)))])) (ac (hs (.done (.opt (qh ZT 83 (.slice 0 b d e 1) (.i (a.length:Int)))) (.ptr 0 ((((b+((a.length:Int):Int).toNat:Nat):Int):Int).toNat*1+0))) (qc0 zH K)) (ac (hs (.run [0] (ja ZT 197 (.ptr 0 ((((b+((a.length:Int):Int).toNat:Nat):Int):Int).toNat*1+0))) [.cells (j.flatMap (qa .u64).c)] (.int .u64 x3) [.cells (j.flatMap (qa .u64).c)] false) (qcC zP (E:=(qa .u64)) (l:=j) rfl rfl (wI K) (nl rfl) rfl)) (ac (iv zH (qa .u64) u) (ac (lv 0 zP (qa .u64) u rfl) az)))) ?_)
 obtain⟨r8,g8,h⟩:=bnd h
 refine Goes.imp (Q:=fun x s'=>(x= .normal/\ ∃n5 n6 n7,(n5,n6,n7)=r8/\Sub s' (ofG 186 ((0,.slice 0 b d e 1)::(1,vl (qa .u64) a)::(kU (a.length:Int) n5 (kAD n6 n7 []))),[.cells (j.flatMap (qa .u64).c)]))) ?_ ?_
 ·refine ihD g8 (fun c9 g8=>?_) (fun c9 g8=>?_)
  ·refine sh fol [(0,.slice 0 b d e 1),(1,vl (qa .u64) a),(5,.i (a.length:Int)),(6,.int .u64 18446744073709551615)] ?_
   obtain⟨c7,P,g8⟩:=bnd g8
   obtain⟨c8,b1,g8⟩:=bnd g8
   refine gr fol [3,4,8,9,10] ((0,.slice 0 b d e 1)::(1,vl (qa .u64) a)::(5,.i (a.length:Int))::(6,.int .u64 18446744073709551615)::(kAD c8.1 c8.2 [])) (ac (hs (.done (.opt (qh ZT 83 (.slice 0 b d e 1) (.i (w64 ((a.length:Int)-1))))) (.ptr 0 ((((b+(w64 ((a.length:Int)-1):Int).toNat:Nat):Int):Int).toNat*1+0))) (qc0 zH P)) (ac (hs (.run [0] (ja ZT 197 (.ptr 0 ((((b+(w64 ((a.length:Int)-1):Int).toNat:Nat):Int):Int).toNat*1+0))) [.cells (j.flatMap (qa .u64).c)] (.int .u64 c7) [.cells (j.flatMap (qa .u64).c)] false) (qcC zP (E:=(qa .u64)) (l:=j) rfl rfl (wI P) (nl rfl) rfl)) (ac (iv zH (qa .u64) u) (ac (lv 0 zP (qa .u64) u rfl) (ac (cv (qcw c7 x4 0 b1)) az))))) ?_
   obtain rfl:=si g8
   exact⟨rfl,_,_,_,rfl,(Sub.refl _)⟩
  obtain⟨d0,U,g8⟩:=bnd g8
  obtain⟨d1,b2,g8⟩:=bnd g8
  refine gr fol [2,3,7,8,12,13,14] ((0,.slice 0 b d e 1)::(1,vl (qa .u64) a)::(kU (a.length:Int) d1.1 (kAk d1.2 (kBc [])))) (ac (hs (.done (.opt (qh ZT 83 (.slice 0 b d e 1) (.i (a.length:Int)))) (.ptr 0 ((((b+((a.length:Int):Int).toNat:Nat):Int):Int).toNat*1+0))) (qc0 zH K)) (ac (hs (.run [0] (ja ZT 197 (.ptr 0 ((((b+((a.length:Int):Int).toNat:Nat):Int):Int).toNat*1+0))) [.cells (j.flatMap (qa .u64).c)] (.int .u64 x3) [.cells (j.flatMap (qa .u64).c)] false) (qcC zP (E:=(qa .u64)) (l:=j) rfl rfl (wI K) (nl rfl) rfl)) (ac (hs (.done (.opt (qh ZT 83 (.slice 0 b d e 1) (.i (w64 ((a.length:Int)-1))))) (.ptr 0 ((((b+(w64 ((a.length:Int)-1):Int).toNat:Nat):Int):Int).toNat*1+0))) (qc0 zH U)) (ac (hs (.run [0] (ja ZT 197 (.ptr 0 ((((b+(w64 ((a.length:Int)-1):Int).toNat:Nat):Int):Int).toNat*1+0))) [.cells (j.flatMap (qa .u64).c)] (.int .u64 d0) [.cells (j.flatMap (qa .u64).c)] false) (qcC zP (E:=(qa .u64)) (l:=j) rfl rfl (wI U) (nl rfl) rfl)) (ac (iv zH (qa .u64) u) (ac (lv 0 zP (qa .u64) u rfl) (ac (cv (qeV N x3 d0 x4 b2)) az))))))) ?_
  obtain rfl:=si g8
  exact⟨rfl,_,_,_,rfl,(Sub.refl _)⟩
 rintro x s' ⟨rfl,n5,n6,n7,rfl,hsub⟩
 try dsimp only at h
 refine Goes.sub hsub ?_
 refine sq (Goes.block ?_)
 obtain⟨d2,g19,h⟩:=bnd h
 refine Goes.imp (Q:=fun x s'=>(x= .exit 0/\ ∃f,f=d2/\Sub s' (ofG 186 ((0,.slice 0 b d e 1)::(1,vl (qa .u64) a)::(kU (a.length:Int) f [])),[.cells (j.flatMap (qa .u64).c)]))) ?_ ?_
 ·refine Uc (fun M s=> ∃(o:Int) (q:Int) (a4:Int),s=(ofG 186 ((0,.slice 0 b d e 1)::(1,vl (qa .u64) a)::(kU (a.length:Int) o (kAD q a4 []))),[.cells (j.flatMap (qa .u64).c)])/\yc j b d a M o q a4=some d2) ?_ (m:=N) ⟨_,_,_,rfl,g19⟩
  rintro M s ⟨o,q,a4,rfl,g19⟩
  cases M with
  |zero=>simp only[yc]at g19;cases g19
  |succ M=>
   rw[yc]at g19
   refine sq ?_
   refine sh fol ((0,.slice 0 b d e 1)::(1,vl (qa .u64) a)::(kU (a.length:Int) o (kAk q [(64,.bool (decide (a4=0)))]))) ?_
   refine ihD g19 (fun c20 g19=>?_) (fun c20 g19=>?_)
   ·refine Goes.skip ?_
    refine Goes.block ?_
    obtain⟨x21,V,g19⟩:=bnd g19
    obtain⟨b3,b4,g19⟩:=bnd g19
    refine sq (gr fol [4,5,6] ((0,.slice 0 b d e 1)::(1,vl (qa .u64) a)::(kU (a.length:Int) o (kAk q [(9,.int .u64 b3.1),(10,.int .u64 b3.2)]))) (ac (iv zH (qa .u64) V) (ac (lv 0 zP (qa .u64) V rfl) (ac (cv (qby o x21 b4)) az))) ?_)
    refine sq ?_
    refine sq ?_
    obtain⟨b26,k,g19⟩:=bnd g19
    refine Goes.cut (s':=(ofG 186 ((0,.slice 0 b d e 1)::(1,vl (qa .u64) a)::(kU (a.length:Int) o (kAk q [(91,.bool b26)]))),[.cells (j.flatMap (qa .u64).c)])) ?_ ?_
    ·rcases wyD k with⟨a5,k⟩|⟨a5,k⟩
     ·obtain rfl:=si k
      exact tr fol [3] ((0,.slice 0 b d e 1)::(1,vl (qa .u64) a)::(kU (a.length:Int) o (kAk q [(91,.bool true)]))) (ac (gw a5) az)
     rcases wyD k with⟨b5,k⟩|⟨b5,k⟩
     ·obtain⟨d3,X,k⟩:=bnd k
      obtain rfl:=si k
      exact tr fol [3,7,12,13] ((0,.slice 0 b d e 1)::(1,vl (qa .u64) a)::(kU (a.length:Int) o (kAk q [(91,.bool (decide (b3.2<=d3)))]))) (ac (gw a5) (ac (gw b5) (ac (hs (.done (.opt (qh ZT 83 (.slice 0 b d e 1) (.i (w64 ((a.length:Int)-2))))) (.ptr 0 ((((b+(w64 ((a.length:Int)-2):Int).toNat:Nat):Int):Int).toNat*1+0))) (qc0 zH X)) (ac (hs (.run [0] (ja ZT 197 (.ptr 0 ((((b+(w64 ((a.length:Int)-2):Int).toNat:Nat):Int):Int).toNat*1+0))) [.cells (j.flatMap (qa .u64).c)] (.int .u64 d3) [.cells (j.flatMap (qa .u64).c)] false) (qcC zP (E:=(qa .u64)) (l:=j) rfl rfl (wI X) (nl rfl) rfl)) az))))
     obtain rfl:=si k
     exact tr fol [3,7] ((0,.slice 0 b d e 1)::(1,vl (qa .u64) a)::(kU (a.length:Int) o (kAk q [(91,.bool false)]))) (ac (gw a5) (ac (gw b5) az))
    refine ihB g19 (fun c28 g19=>?_) (fun c28 g19=>?_)
    ·refine Goes.exit ?_
     obtain rfl:=si g19
     exact⟨rfl,_,rfl,(Sub.keep [0,1,5,6] rfl rfl)⟩
    refine Goes.skip ?_
    refine sh fol ((0,.slice 0 b d e 1)::(1,vl (qa .u64) a)::(kU (a.length:Int) (IntKind.wrap .u64 (o-1)) (kAk q []))) ?_
    obtain⟨x29,Y,g19⟩:=bnd g19
    obtain⟨a6,b6,g19⟩:=bnd g19
    refine gr fol [4,5,6] ((0,.slice 0 b d e 1)::(1,vl (qa .u64) a)::(kU (a.length:Int) (IntKind.wrap .u64 (o-1)) (kAD a6.1 a6.2 []))) (ac (iv zH (qa .u64) Y) (ac (lv 0 zP (qa .u64) Y rfl) (ac (cv (qcw q x29 0 b6)) az))) ?_
    exact⟨M,(ofG 186 ((0,.slice 0 b d e 1)::(1,vl (qa .u64) a)::(kU (a.length:Int) (IntKind.wrap .u64 (o-1)) (kAD a6.1 a6.2 []))),[.cells (j.flatMap (qa .u64).c)]),Nat.lt_succ_self _,(Sub.refl _),_,_,_,rfl,g19⟩
   refine Goes.exit ?_
   obtain rfl:=si g19
   exact⟨rfl,_,rfl,(Sub.keep [0,1,5,6] rfl rfl)⟩
 rintro x s' ⟨rfl,f,rfl,hsub⟩
 refine Goes.sub hsub ?_
 refine sh fol ((0,.slice 0 b d e 1)::(1,vl (qa .u64) a)::(kU (a.length:Int) f [(11,.int .u64 0),(12,.int .u64 0)])) ?_
 refine sq ?_
 refine sh fol ((0,.slice 0 b d e 1)::(1,vl (qa .u64) a)::(kU (a.length:Int) f [(11,.int .u64 0),(12,.int .u64 0),(104,.i (a.length:Int)),(105,.i 0)])) ?_
 refine Goes.block ?_
 obtain⟨d4,g38,h⟩:=bnd h
 refine Goes.imp (Q:=fun x s'=>(x= .exit 2/\ ∃C a7 a8,(C,a7,a8)=d4/\Sub s' (ofG 186 ((0,.slice 0 b d e 1)::(1,vl (qa .u64) a)::(kU (a.length:Int) f (kZ a7 a8 []))),[.cells (C.flatMap (qa .u64).c)]))) ?_ ?_
 ·refine Uc (fun M s=> ∃(D:List Int) (g:Int) (r:Int) (F:Int),s=(ofG 186 ((0,.slice 0 b d e 1)::(1,vl (qa .u64) a)::(kU (a.length:Int) f (kZ r F (kAy (a.length:Int) g)))),[.cells (D.flatMap (qa .u64).c)])/\jN b d a f M D g r F=some d4) ?_ (m:=N) ⟨_,_,_,_,rfl,g38⟩
  rintro M s ⟨D,g,r,F,rfl,g38⟩
  cases M with
  |zero=>simp only[jN]at g38;cases g38
  |succ M=>
   rw[jN]at g38
   refine sh fol ((0,.slice 0 b d e 1)::(1,vl (qa .u64) a)::(kU (a.length:Int) f (kZ r F [(104,.i (a.length:Int)),(105,.i g),(106,.bool (decide (g<(a.length:Int))))]))) ?_
   refine sq ?_
   refine ihD g38 (fun c39 g38=>?_) (fun c39 g38=>?_)
   ·refine Goes.skip ?_
    refine sq (Goes.block ?_)
    refine sh fol ((0,.slice 0 b d e 1)::(1,vl (qa .u64) a)::(kU (a.length:Int) f (kZ r F ((13,.i g)::(kAy (a.length:Int) g))))) ?_
    obtain⟨x40,Z,g38⟩:=bnd g38
    obtain⟨p,b7,g38⟩:=bnd g38
    refine sq (gr fol [3,4,5] ((0,.slice 0 b d e 1)::(1,vl (qa .u64) a)::(kU (a.length:Int) f (kZ r F ((13,.i g)::(kA8 p.1 p.2 (kAy (a.length:Int) g)))))) (ac (iv zH (qa .u64) Z) (ac (lv 0 zP (qa .u64) Z rfl) (ac (cv (qby f x40 b7)) az))) ?_)
    refine sh fol ((0,.slice 0 b d e 1)::(1,vl (qa .u64) a)::(kU (a.length:Int) f (kZ r F ((13,.i g)::(kA8 p.1 p.2 (kAy (a.length:Int) g)))))) ?_
    obtain⟨t,b8,g38⟩:=bnd g38
    refine sq (gr fol [2] ((0,.slice 0 b d e 1)::(1,vl (qa .u64) a)::(kU (a.length:Int) f ((11,.int .u64 r)::(13,.i g)::(kS p.1 t.1 t.2 (kAy (a.length:Int) g))))) (ac (cv (qcw p.2 F 0 b8)) az) ?_)
    refine sh fol ((0,.slice 0 b d e 1)::(1,vl (qa .u64) a)::(kU (a.length:Int) f (kZ r (IntKind.wrap .u64 (p.1+t.2)) ((13,.i g)::(15,.int .u64 t.1)::(kAy (a.length:Int) g))))) ?_
    obtain⟨d5,v,g38⟩:=bnd g38
    obtain⟨I,b9,g38⟩:=bnd g38
    obtain⟨a0,c0,g38⟩:=bnd g38
    refine gq fol [4,5,8,12,13] ((0,.slice 0 b d e 1)::(1,vl (qa .u64) a)::(kU (a.length:Int) f (kZ I.2 (IntKind.wrap .u64 (p.1+t.2)) (kAy (a.length:Int) g)))) [.cells (a0.flatMap (qa .u64).c)] (ac (hs (.done (.opt (qh ZT 83 (.slice 0 b d e 1) (.i g))) (.ptr 0 ((((b+(g:Int).toNat:Nat):Int):Int).toNat*1+0))) (qc0 zH v)) (ac (hs (.run [0] (ja ZT 197 (.ptr 0 ((((b+(g:Int).toNat:Nat):Int):Int).toNat*1+0))) [.cells (D.flatMap (qa .u64).c)] (.int .u64 d5) [.cells (D.flatMap (qa .u64).c)] false) (qcC zP (E:=(qa .u64)) (l:=D) rfl rfl (wI v) (nl rfl) rfl)) (ac (cv (qhL d5 t.1 r b9)) (ac (hs (.done (.opt (qh ZT 83 (.slice 0 b d e 1) (.i g))) (.ptr 0 ((((b+(g:Int).toNat:Nat):Int):Int).toNat*1+0))) (qc0 zH v)) (ac (hs (.run [0] (qm ZT 197 (.ptr 0 ((((b+(g:Int).toNat:Nat):Int):Int).toNat*1+0)) (.int .u64 I.1)) [.cells (D.flatMap (qa .u64).c)] .undef [.cells (a0.flatMap (qa .u64).c)] true) (qan (E:=(qa .u64)) (l:=D) (y:=I.1) rfl (show _=some 1 by kernel_rfl) rfl (wI v) rfl rfl rfl rfl rfl c0 rfl)) az))))) ?_
    refine Goes.sub (show Sub (ofG 186 ((0,.slice 0 b d e 1)::(1,vl (qa .u64) a)::(kU (a.length:Int) f (kZ I.2 (IntKind.wrap .u64 (p.1+t.2)) (kAy (a.length:Int) g)))),[.cells (a0.flatMap (qa .u64).c)]) (ofG 186 ((0,.slice 0 b d e 1)::(1,vl (qa .u64) a)::(kU (a.length:Int) f (kZ I.2 (IntKind.wrap .u64 (p.1+t.2)) (kAy (a.length:Int) g)))),[.cells (a0.flatMap (qa .u64).c)])from(Sub.norm [] [some 0] (by rw[hB];rfl) rfl (.keep (.slice rfl) (.keep (.same (qf (qa .u64) _)) (.keep (.same nI) (.keep (.same nI) (.keep (.same nI) (.keep (.same nI) (.keep (.same nI) (.keep (.same nI) .nil)))))))) (.ks .nil))) ?_
    refine gh fol ((0,.slice 0 b d e 1)::(1,vl (qa .u64) a)::(kU (a.length:Int) f (kZ I.2 (IntKind.wrap .u64 (p.1+t.2)) (kAy (a.length:Int) (w64 (g+1)))))) ?_
    exact⟨M,(ofG 186 ((0,.slice 0 b d e 1)::(1,vl (qa .u64) a)::(kU (a.length:Int) f (kZ I.2 (IntKind.wrap .u64 (p.1+t.2)) (kAy (a.length:Int) (w64 (g+1)))))),[.cells (a0.flatMap (qa .u64).c)]),Nat.lt_succ_self _,(Sub.refl _),_,_,_,_,rfl,g38⟩
   refine Goes.exit ?_
   obtain rfl:=si g38
   exact⟨rfl,_,_,_,rfl,(Sub.keep [0,1,5,6,11,12] rfl rfl)⟩
 rintro x s' ⟨rfl,C,a7,a8,rfl,hsub⟩
 try dsimp only at h
 refine Goes.sub hsub ?_
 obtain⟨d6,w,h⟩:=bnd h
 obtain⟨L,c1,h⟩:=bnd h
 obtain⟨a9,c2,h⟩:=bnd h
 refine sq (gq fol [4,5,8,12,13] ((0,.slice 0 b d e 1)::(1,vl (qa .u64) a)::(kU (a.length:Int) f [(11,.int .u64 L.2)])) [.cells (a9.flatMap (qa .u64).c)] (ac (hs (.done (.opt (qh ZT 83 (.slice 0 b d e 1) (.i (a.length:Int)))) (.ptr 0 ((((b+((a.length:Int):Int).toNat:Nat):Int):Int).toNat*1+0))) (qc0 zH w)) (ac (hs (.run [0] (ja ZT 197 (.ptr 0 ((((b+((a.length:Int):Int).toNat:Nat):Int):Int).toNat*1+0))) [.cells (C.flatMap (qa .u64).c)] (.int .u64 d6) [.cells (C.flatMap (qa .u64).c)] false) (qcC zP (E:=(qa .u64)) (l:=C) rfl rfl (wI w) (nl rfl) rfl)) (ac (cv (qhL d6 a8 a7 c1)) (ac (hs (.done (.opt (qh ZT 83 (.slice 0 b d e 1) (.i (a.length:Int)))) (.ptr 0 ((((b+((a.length:Int):Int).toNat:Nat):Int):Int).toNat*1+0))) (qc0 zH w)) (ac (hs (.run [0] (qm ZT 197 (.ptr 0 ((((b+((a.length:Int):Int).toNat:Nat):Int):Int).toNat*1+0)) (.int .u64 L.1)) [.cells (C.flatMap (qa .u64).c)] .undef [.cells (a9.flatMap (qa .u64).c)] true) (qan (E:=(qa .u64)) (l:=C) (y:=L.1) rfl (show _=some 1 by kernel_rfl) rfl (wI w) rfl rfl rfl rfl rfl c2 rfl)) az))))) ?_)
 refine Goes.sub (show Sub (ofG 186 ((0,.slice 0 b d e 1)::(1,vl (qa .u64) a)::(kU (a.length:Int) f [(11,.int .u64 L.2)])),[.cells (a9.flatMap (qa .u64).c)]) (ofG 186 ((0,.slice 0 b d e 1)::(1,vl (qa .u64) a)::(kU (a.length:Int) f [(11,.int .u64 L.2)])),[.cells (a9.flatMap (qa .u64).c)])from(Sub.norm [] [some 0] (by rw[hB];rfl) rfl (.keep (.slice rfl) (.keep (.same (qf (qa .u64) _)) (.keep (.same nI) (.keep (.same nI) (.keep (.same nI) .nil))))) (.ks .nil))) ?_
 refine sq ?_
 refine sh fol ((0,.slice 0 b d e 1)::(1,vl (qa .u64) a)::(kU (a.length:Int) f [(154,.bool (decide (L.2=0)))])) ?_
 refine ihD h (fun c51 h=>?_) (fun c51 h=>?_)
 ·refine sh fol [(4,.int .u64 f)] ?_
  refine Goes.ret ?_
  simp only[ZI,ZP]at h
  obtain⟨rfl,rfl⟩:=h
  exact(gh2 [.int .u64 f] (qfF.refl _ _))
 refine Goes.skip ?_
 refine sh fol ((0,.slice 0 b d e 1)::(1,vl (qa .u64) a)::(kU (a.length:Int) f [(17,.int .u64 0)])) ?_
 refine sq ?_
 refine sh fol ((0,.slice 0 b d e 1)::(1,vl (qa .u64) a)::(kU (a.length:Int) f [(17,.int .u64 0),(156,.i (a.length:Int)),(157,.i 0)])) ?_
 refine Goes.block ?_
 obtain⟨d7,g57,h⟩:=bnd h
 refine Goes.imp (Q:=fun x s'=>(x= .exit 4/\ ∃G a1,(G,a1)=d7/\Sub s' (ofG 186 ((0,.slice 0 b d e 1)::(kU (a.length:Int) f [(17,.int .u64 a1)])),[.cells (G.flatMap (qa .u64).c)]))) ?_ ?_
 ·refine Uc (fun M s=> ∃(H:List Int) (n:Int) (O:Int),s=(ofG 186 ((0,.slice 0 b d e 1)::(1,vl (qa .u64) a)::(kU (a.length:Int) f (kA2 O (a.length:Int) n []))),[.cells (H.flatMap (qa .u64).c)])/\jQ b d a M H n O=some d7) ?_ (m:=N) ⟨_,_,_,rfl,g57⟩
  rintro M s ⟨H,n,O,rfl,g57⟩
  cases M with
  |zero=>simp only[jQ]at g57;cases g57
  |succ M=>
   rw[jQ]at g57
   refine sh fol ((0,.slice 0 b d e 1)::(1,vl (qa .u64) a)::(kU (a.length:Int) f (kA2 O (a.length:Int) n [(158,.bool (decide (n<(a.length:Int))))]))) ?_
   refine sq ?_
   refine ihD g57 (fun c58 g57=>?_) (fun c58 g57=>?_)
   ·refine Goes.skip ?_
    refine sq (Goes.block ?_)
    refine sh fol ((0,.slice 0 b d e 1)::(1,vl (qa .u64) a)::(kU (a.length:Int) f [(17,.int .u64 O),(18,.i n),(156,.i (a.length:Int)),(157,.i n)])) ?_
    obtain⟨d8,z,g57⟩:=bnd g57
    obtain⟨x60,a2,g57⟩:=bnd g57
    obtain⟨J,c3,g57⟩:=bnd g57
    obtain⟨a3,c4,g57⟩:=bnd g57
    refine gq fol [4,5,8,9,11,15,16] ((0,.slice 0 b d e 1)::(1,vl (qa .u64) a)::(kU (a.length:Int) f (kA2 J.2 (a.length:Int) n []))) [.cells (a3.flatMap (qa .u64).c)] (ac (hs (.done (.opt (qh ZT 83 (.slice 0 b d e 1) (.i n))) (.ptr 0 ((((b+(n:Int).toNat:Nat):Int):Int).toNat*1+0))) (qc0 zH z)) (ac (hs (.run [0] (ja ZT 197 (.ptr 0 ((((b+(n:Int).toNat:Nat):Int):Int).toNat*1+0))) [.cells (H.flatMap (qa .u64).c)] (.int .u64 d8) [.cells (H.flatMap (qa .u64).c)] false) (qcC zP (E:=(qa .u64)) (l:=H) rfl rfl (wI z) (nl rfl) rfl)) (ac (iv zH (qa .u64) a2) (ac (lv 0 zP (qa .u64) a2 rfl) (ac (cv (qcw d8 x60 O c3)) (ac (hs (.done (.opt (qh ZT 83 (.slice 0 b d e 1) (.i n))) (.ptr 0 ((((b+(n:Int).toNat:Nat):Int):Int).toNat*1+0))) (qc0 zH z)) (ac (hs (.run [0] (qm ZT 197 (.ptr 0 ((((b+(n:Int).toNat:Nat):Int):Int).toNat*1+0)) (.int .u64 J.1)) [.cells (H.flatMap (qa .u64).c)] .undef [.cells (a3.flatMap (qa .u64).c)] true) (qan (E:=(qa .u64)) (l:=H) (y:=J.1) rfl (show _=some 1 by kernel_rfl) rfl (wI z) rfl rfl rfl rfl rfl c4 rfl)) az))))))) ?_
    refine Goes.sub (show Sub (ofG 186 ((0,.slice 0 b d e 1)::(1,vl (qa .u64) a)::(kU (a.length:Int) f (kA2 J.2 (a.length:Int) n []))),[.cells (a3.flatMap (qa .u64).c)]) (ofG 186 ((0,.slice 0 b d e 1)::(1,vl (qa .u64) a)::(kU (a.length:Int) f (kA2 J.2 (a.length:Int) n []))),[.cells (a3.flatMap (qa .u64).c)])from(Sub.norm [] [some 0] (by rw[hB];rfl) rfl (.keep (.slice rfl) (.keep (.same (qf (qa .u64) _)) (.keep (.same nI) (.keep (.same nI) (.keep (.same nI) (.keep (.same nI) (.keep (.same nI) .nil))))))) (.ks .nil))) ?_
    refine gh fol ((0,.slice 0 b d e 1)::(1,vl (qa .u64) a)::(kU (a.length:Int) f (kA2 J.2 (a.length:Int) (w64 (n+1)) []))) ?_
    exact⟨M,(ofG 186 ((0,.slice 0 b d e 1)::(1,vl (qa .u64) a)::(kU (a.length:Int) f (kA2 J.2 (a.length:Int) (w64 (n+1)) []))),[.cells (a3.flatMap (qa .u64).c)]),Nat.lt_succ_self _,(Sub.refl _),_,_,_,rfl,g57⟩
   refine Goes.exit ?_
   obtain rfl:=si g57
   exact⟨rfl,_,_,rfl,(Sub.keep [0,5,6,17] rfl rfl)⟩
 rintro x s' ⟨rfl,G,a1,rfl,hsub⟩
 try dsimp only at h
 refine Goes.sub hsub ?_
 obtain⟨c5,A,h⟩:=bnd h
 obtain⟨b0,c6,h⟩:=bnd h
 refine sq (gq fol [2,3,6,7] (kAT f []) [.cells (b0.flatMap (qa .u64).c)] (ac (hs (.done (.opt (qh ZT 83 (.slice 0 b d e 1) (.i (a.length:Int)))) (.ptr 0 ((((b+((a.length:Int):Int).toNat:Nat):Int):Int).toNat*1+0))) (qc0 zH A)) (ac (hs (.run [0] (ja ZT 197 (.ptr 0 ((((b+((a.length:Int):Int).toNat:Nat):Int):Int).toNat*1+0))) [.cells (G.flatMap (qa .u64).c)] (.int .u64 c5) [.cells (G.flatMap (qa .u64).c)] false) (qcC zP (E:=(qa .u64)) (l:=G) rfl rfl (wI A) (nl rfl) rfl)) (ac (hs (.done (.opt (qh ZT 83 (.slice 0 b d e 1) (.i (a.length:Int)))) (.ptr 0 ((((b+((a.length:Int):Int).toNat:Nat):Int):Int).toNat*1+0))) (qc0 zH A)) (ac (hs (.run [0] (qm ZT 197 (.ptr 0 ((((b+((a.length:Int):Int).toNat:Nat):Int):Int).toNat*1+0)) (.int .u64 (IntKind.wrap .u64 (c5+a1)))) [.cells (G.flatMap (qa .u64).c)] .undef [.cells (b0.flatMap (qa .u64).c)] true) (qan (E:=(qa .u64)) (l:=G) (y:=IntKind.wrap .u64 (c5+a1)) rfl (show _=some 1 by kernel_rfl) rfl (wI A) rfl rfl rfl rfl rfl c6 rfl)) az)))) ?_)
 refine Goes.sub (show Sub (ofG 186 (kAT f []),[.cells (b0.flatMap (qa .u64).c)]) (ofG 186 (kAT f []),[.cells (b0.flatMap (qa .u64).c)])from(Sub.norm [] [some 0] (by rw[hB];rfl) rfl (.keep (.same nI) .nil) (.ks .nil))) ?_
 refine sh fol [(4,.int .u64 (IntKind.wrap .u64 (f-1)))] ?_
 refine Goes.ret ?_
 simp only[ZI,ZP]at h
 obtain⟨rfl,rfl⟩:=h
 exact(gh2 [.int .u64 (IntKind.wrap .u64 (f-1))] (qfF.refl _ _))
def vM (N:Nat) (a:List Int) (b:List Int):Nat->(List Int)->Int->Int->Option ((List Int)×Int)
 |0,_,_,_=>none
 |K+1,e,i,c=>
  if c>=0 then
  (idx a c).bind fun f=>
  (idx b 0).bind fun g=>
  (qaT N i f g).bind fun d=>
  (idx e c).bind fun j=>
  (put e c d.1).bind fun h=>
  vM N a b K h d.2 (w64 (c-1))
  else
  some (e,i)
def vF (N:Nat) (c:List Int):Nat->(List Int)->(List Int)->Int->Option ((List Int)×(List Int))
 |0,_,_,_=>none
 |K+1,b,d,a=>
  if a>=0 then
  (win b a (w64 ((w64 (a+(c.length:Int)))+1))).bind fun(e,g)=>
  (qbF N b e g (b.length-e) c).bind fun(f,h)=>
  ((if b.length=f.length then some ()else none:Option Unit)).bind fun j=>
  (idx d a).bind fun k=>
  (put d a h).bind fun i=>
  vF N c K f i (w64 (a-1))
  else
  some (b,d)
def jG (c:Int) (e:List Int):Nat->(List Int)->Int->Option (List Int)
 |0,_,_=>none
 |K+1,d,a=>
  if a<(e.length:Int)then
  (((idx d a).bind fun f=>
  (qj2 .u64 f c).bind fun g=>
  (put d a g).bind fun b=>
  (if c>0 then
  some (decide ((w64 (a+1))<(b.length:Int)))
  else
  some false:Option Bool).bind fun h=>
  if h=true then
  (idx b a).bind fun i=>
  (idx b (w64 (a+1))).bind fun j=>
  (qie .u64 j (w64 (64-c))).bind fun k=>
  (put b a (orI .u64 i k)).bind fun l=>
  some l
  else
  some b:Option (List Int))).bind fun m=>
  jG c e K m (w64 (a+1))
  else
  some d
def qaP (N:Nat) (a:List Int) (b:List Int):Option ((List Int)×(List Int)):=
 (jA N a b).bind fun q=>
 if q<0 then
 some ([],a)
 else
 if(b.length:Int)=1 then
 (mk 8 (a.length:Int) 0).bind fun r=>
 (vM N a b N r 0 (w64 ((a.length:Int)-1))).bind fun(s,t)=>
 (yP N s).bind fun e=>
 (yP N ([t]:List Int)).bind fun f=>
 some (e,f)
 else
 (idx b (w64 ((b.length:Int)-1))).bind fun g=>
 (bits_LeadingZeros64 g).bind fun d=>
 (yT N b d).bind fun h=>
 (yP N h).bind fun c=>
 (yT N a d).bind fun i=>
 (mk 8 (w64 ((w64 ((a.length:Int)-(c.length:Int)))+1)) 0).bind fun j=>
 (vF N c N i j (w64 ((a.length:Int)-(c.length:Int)))).bind fun(k,l)=>
 (jG d c N k 0).bind fun m=>
 (yP N l).bind fun n=>
 (cut m 0 (c.length:Int)).bind fun o=>
 (yP N o).bind fun p=>
 some (n,p)
theorem qeW (N:Nat) (a:List Int) (b:List Int) {res:(List Int)×(List Int)} (h:qaP N a b=some res):qb ZT (.fn 185) [vl (qa .u64) a,vl (qa .u64) b] [] (.tuple [vl (qa .u64) res.1,vl (qa .u64) res.2]) []:=by
 unfold qaP at h
 refine Ub Tryz.func185 rfl rfl (m:=137) rfl (rs:=[.tmp 4,.tmp 5]) rfl (l:=[(0,vl (qa .u64) a),(1,vl (qa .u64) b)]) rfl ?_
 refine sh fol [(0,vl (qa .u64) a),(1,vl (qa .u64) b)] ?_
 refine sq ?_
 obtain⟨r1,e_r1,h⟩:=bnd h
 refine sq (gr fol [2] [(0,vl (qa .u64) a),(1,vl (qa .u64) b),(19,.bool (decide (r1<0)))] (ac (cv (qbS N a b e_r1)) az) ?_)
 refine ihD h (fun c2 h=>?_) (fun c2 h=>?_)
 ·refine sh fol [(4,.nilslice),(5,vl (qa .u64) a)] ?_
  refine Goes.ret ?_
  obtain rfl:=si h
  exact(gw2 [.nilslice,vl (qa .u64) a] (FzW.tuple (qc.cons (FzW.nilv (E:=(qa .u64))) (qc.cons (Ua (qw (qa .u64) _ (nl rfl))) qc.nil))))
 refine Goes.skip ?_
 refine sq ?_
 refine sh fol [(0,vl (qa .u64) a),(1,vl (qa .u64) b),(23,.bool (decide ((b.length:Int)=1)))] ?_
 refine ihD h (fun c3 h=>?_) (fun c3 h=>?_)
 ·obtain⟨l4,e_l4,h⟩:=bnd h
  refine sq (gq fol [2] ((0,vl (qa .u64) a)::(1,vl (qa .u64) b)::(kW l4 [])) [.cells (l4.flatMap (qa .u64).c)] (ac (hs (.run [] (jc ZT 83 (.i (a.length:Int)) (.i (a.length:Int))) [] (.slice 0 0 l4.length l4.length 1) [.cells (l4.flatMap (qa .u64).c)] false) (qdI zH (E:=(qa .u64)) (z:=0) rfl (by kernel_rfl) e_l4 rfl)) az) ?_)
  refine sh fol ((0,vl (qa .u64) a)::(1,vl (qa .u64) b)::(kW l4 [(7,.int .u64 0)])) ?_
  refine sq ?_
  refine sh fol ((0,vl (qa .u64) a)::(1,vl (qa .u64) b)::(kW l4 [(7,.int .u64 0),(8,.i (w64 ((a.length:Int)-1)))])) ?_
  refine Goes.block ?_
  obtain⟨r10,g10,h⟩:=bnd h
  refine Goes.imp (Q:=fun x s'=>(x= .exit 0/\ ∃J n9,(J,n9)=r10/\Sub s' (ofG 137 (kW J (kAk n9 [])),[.cells (J.flatMap (qa .u64).c)]))) ?_ ?_
  ·refine Uc (fun M s=> ∃(K:List Int) (n6:Int) (F:Int),s=(ofG 137 ((0,vl (qa .u64) a)::(1,vl (qa .u64) b)::(kW K (kAk n6 [(8,.i F)]))),[.cells (K.flatMap (qa .u64).c)])/\vM N a b M K n6 F=some r10) ?_ (m:=N) ⟨_,_,_,rfl,g10⟩
   rintro M s ⟨K,n6,F,rfl,g10⟩
   cases M with
   |zero=>simp only[vM]at g10;cases g10
   |succ M=>
    rw[vM]at g10
    refine sq ?_
    refine sh fol ((0,vl (qa .u64) a)::(1,vl (qa .u64) b)::(kW K (kAk n6 [(8,.i F),(31,.bool (decide (F>=0)))]))) ?_
    refine ihD g10 (fun c11 g10=>?_) (fun c11 g10=>?_)
    ·refine Goes.skip ?_
     refine sq (Goes.block ?_)
     obtain⟨x12,L,g10⟩:=bnd g10
     obtain⟨x13,O,g10⟩:=bnd g10
     obtain⟨C,e_r14,g10⟩:=bnd g10
     obtain⟨x15,P,g10⟩:=bnd g10
     obtain⟨A,U,g10⟩:=bnd g10
     refine gq fol [5,6,8,9,10,14,15] ((0,vl (qa .u64) a)::(1,vl (qa .u64) b)::(kW K (kAk C.2 [(8,.i F)]))) [.cells (A.flatMap (qa .u64).c)] (ac (iv zH (qa .u64) L) (ac (lv 0 zP (qa .u64) L rfl) (ac (iv zH (qa .u64) O) (ac (lv 0 zP (qa .u64) O rfl) (ac (cv (qeV N n6 x12 x13 e_r14)) (ac (hs (.done (.opt (qh ZT 83 (.slice 0 0 K.length K.length 1) (.i F))) (.ptr 0 ((F:Int).toNat*1+0))) (qaE zH P)) (ac (hs (.run [0] (qm ZT 197 (.ptr 0 ((F:Int).toNat*1+0)) (.int .u64 C.1)) [.cells (K.flatMap (qa .u64).c)] .undef [.cells (A.flatMap (qa .u64).c)] true) (qan (E:=(qa .u64)) (l:=K) (y:=C.1) rfl (show _=some 1 by kernel_rfl) rfl P rfl rfl rfl rfl rfl U rfl)) az))))))) ?_
     refine Goes.sub (show Sub (ofG 137 ((0,vl (qa .u64) a)::(1,vl (qa .u64) b)::(kW K (kAk C.2 [(8,.i F)]))),[.cells (A.flatMap (qa .u64).c)]) (ofG 137 ((0,vl (qa .u64) a)::(1,vl (qa .u64) b)::(kW A (kAk C.2 [(8,.i F)]))),[.cells (A.flatMap (qa .u64).c)])from(Sub.norm [] [some 0] rfl rfl (.keep (.same (qf (qa .u64) _)) (.keep (.same (qf (qa .u64) _)) (.keep (.sliceE rfl (vD U)) (.keep (.same nI) (.keep (.same nI) .nil))))) (.ks .nil))) ?_
     refine gh fol ((0,vl (qa .u64) a)::(1,vl (qa .u64) b)::(kW A (kAk C.2 [(8,.i (w64 (F-1)))]))) ?_
     exact⟨M,(ofG 137 ((0,vl (qa .u64) a)::(1,vl (qa .u64) b)::(kW A (kAk C.2 [(8,.i (w64 (F-1)))]))),[.cells (A.flatMap (qa .u64).c)]),Nat.lt_succ_self _,(Sub.refl _),_,_,_,rfl,g10⟩
    refine Goes.exit ?_
    obtain rfl:=si g10
    exact⟨rfl,_,_,rfl,(Sub.keep [6,7] rfl rfl)⟩
  rintro x s' ⟨rfl,J,n9,rfl,hsub⟩
  try dsimp only at h
  refine Goes.sub hsub ?_
  obtain⟨V,e_r17,h⟩:=bnd h
  obtain⟨X,e_r18,h⟩:=bnd h
  refine sq (gq fol [1,4] [(4,vl (qa .u64) V),(5,vl (qa .u64) X)] [.frozen (J.flatMap (qa .u64).c),.frozen [.int .u64 n9]] (ac (hs (.callF 188 [.slice 0 0 J.length J.length 1] [.cells (J.flatMap (qa .u64).c)] [0] [vl (qa .u64) J] (vl (qa .u64) V)) (qaH (FzL.cons (Fz.sl (E:=(qa .u64)) rfl rfl (nl rfl)) FzL.nil) (xq N J e_r17) (qw (qa .u64) _ (nl rfl)))) (ac (hs (.callF 188 [.slice 1 0 1 1 1] [.frozen (J.flatMap (qa .u64).c),.cells [.int .u64 n9]] [1] [vl (qa .u64) ([n9]:List Int)] (vl (qa .u64) X)) (qaH (FzL.cons (Fz.lit rfl rfl (Ue (AllST.cons tI AllST.nil))) FzL.nil) (xq N ([n9]:List Int) e_r18) (qw (qa .u64) _ (nl rfl)))) az)) ?_)
  refine Goes.sub (show Sub (ofG 137 [(4,vl (qa .u64) V),(5,vl (qa .u64) X)],[.frozen (J.flatMap (qa .u64).c),.frozen [.int .u64 n9]]) (ofG 137 [(4,vl (qa .u64) V),(5,vl (qa .u64) X)],[])from(Sub.norm [] [] rfl rfl (.keep (.same (qf (qa .u64) _)) (.keep (.same (qf (qa .u64) _)) .nil)) .nil)) ?_
  refine Goes.ret ?_
  obtain rfl:=si h
  exact(gw2 [vl (qa .u64) V,vl (qa .u64) X] (FzW.tuple (qc.cons (Ua (qw (qa .u64) _ (nl rfl))) (qc.cons (Ua (qw (qa .u64) _ (nl rfl))) qc.nil))))
 refine Goes.skip ?_
 obtain⟨x19,Y,h⟩:=bnd h
 obtain⟨g,e_r20,h⟩:=bnd h
 refine sq (gr fol [4,5,6] [(0,vl (qa .u64) a),(1,vl (qa .u64) b),(9,.i g)] (ac (iv zH (qa .u64) Y) (ac (lv 0 zP (qa .u64) Y rfl) (ac (cv (qbc x19 e_r20)) az))) ?_)
 obtain⟨t,e_r21,h⟩:=bnd h
 obtain⟨d,e_r23,h⟩:=bnd h
 refine sq (gq fol [2,3] [(0,vl (qa .u64) a),(9,.i g),(10,vl (qa .u64) d)] [.frozen (t.flatMap (qa .u64).c)] (ac (hs (.callH 225 [vl (qa .u64) b,.i g] [] [] (.slice 0 0 t.length t.length 1) [.cells (t.flatMap (qa .u64).c)]) (qgi [] [some 0] (qcG N b g e_r21) .nil rfl rfl (.new rfl rfl (.same fa) rfl .nil) (rc (.same (qf (qa .u64) _)) (rc (.same nI) rn)) (.slice rfl) rfl)) (ac (hs (.callF 188 [.slice 0 0 t.length t.length 1] [.cells (t.flatMap (qa .u64).c)] [0] [vl (qa .u64) t] (vl (qa .u64) d)) (qaH (FzL.cons (Fz.sl (E:=(qa .u64)) rfl rfl (nl rfl)) FzL.nil) (xq N t e_r23) (qw (qa .u64) _ (nl rfl)))) az)) ?_)
 refine Goes.sub (show Sub (ofG 137 [(0,vl (qa .u64) a),(9,.i g),(10,vl (qa .u64) d)],[.frozen (t.flatMap (qa .u64).c)]) (ofG 137 [(0,vl (qa .u64) a),(9,.i g),(10,vl (qa .u64) d)],[])from(Sub.norm [] [] rfl rfl (.keep (.same (qf (qa .u64) _)) (.keep (.same nI) (.keep (.same (qf (qa .u64) _)) .nil))) .nil)) ?_
 obtain⟨p,e_r24,h⟩:=bnd h
 refine sq (gq fol [2] [(0,vl (qa .u64) a),(9,.i g),(10,vl (qa .u64) d),(11,.slice 0 0 p.length p.length 1)] [.cells (p.flatMap (qa .u64).c)] (ac (hs (.callH 225 [vl (qa .u64) a,.i g] [] [] (.slice 0 0 p.length p.length 1) [.cells (p.flatMap (qa .u64).c)]) (qgi [] [some 0] (qcG N a g e_r24) .nil rfl rfl (.new rfl rfl (.same fa) rfl .nil) (rc (.same (qf (qa .u64) _)) (rc (.same nI) rn)) (.slice rfl) rfl)) az) ?_)
 refine sh fol [(0,vl (qa .u64) a),(9,.i g),(10,vl (qa .u64) d),(11,.slice 0 0 p.length p.length 1),(12,.i (d.length:Int))] ?_
 obtain⟨G,e_l26,h⟩:=bnd h
 refine sq (gq fol [5] ((0,vl (qa .u64) a)::(9,.i g)::(10,vl (qa .u64) d)::(kH p (d.length:Int) G [])) [.cells (p.flatMap (qa .u64).c),.cells (G.flatMap (qa .u64).c)] (ac (hs (.run [] (jc ZT 83 (.i (w64 ((w64 ((a.length:Int)-(d.length:Int)))+1))) (.i (w64 ((w64 ((a.length:Int)-(d.length:Int)))+1)))) [.cells (p.flatMap (qa .u64).c)] (.slice 1 0 G.length G.length 1) [.cells (p.flatMap (qa .u64).c),.cells (G.flatMap (qa .u64).c)] false) (qdI zH (E:=(qa .u64)) (z:=0) rfl (by kernel_rfl) e_l26 rfl)) az) ?_)
 refine sq ?_
 refine sh fol ((9,.i g)::(10,vl (qa .u64) d)::(kH p (d.length:Int) G [(14,.i (w64 ((a.length:Int)-(d.length:Int))))])) ?_
 refine Goes.block ?_
 obtain⟨r32,g32,h⟩:=bnd h
 refine Goes.imp (Q:=fun x s'=>(x= .exit 2/\ ∃Z e,(Z,e)=r32/\Sub s' (ofG 137 ((9,.i g)::(kH Z (d.length:Int) e [])),[.cells (Z.flatMap (qa .u64).c),.cells (e.flatMap (qa .u64).c)]))) ?_ ?_
 ·refine Uc (fun M s=> ∃(o:List Int) (q:List Int) (n:Int),s=(ofG 137 ((9,.i g)::(10,vl (qa .u64) d)::(kH o (d.length:Int) q [(14,.i n)])),[.cells (o.flatMap (qa .u64).c),.cells (q.flatMap (qa .u64).c)])/\vF N d M o q n=some r32) ?_ (m:=N) ⟨_,_,_,rfl,g32⟩
  rintro M s ⟨o,q,n,rfl,g32⟩
  cases M with
  |zero=>simp only[vF]at g32;cases g32
  |succ M=>
   rw[vF]at g32
   refine sq ?_
   refine sh fol ((9,.i g)::(10,vl (qa .u64) d)::(kH o (d.length:Int) q [(14,.i n),(81,.bool (decide (n>=0)))])) ?_
   refine ihD g32 (fun c33 g32=>?_) (fun c33 g32=>?_)
   ·refine Goes.skip ?_
    refine sq (Goes.block ?_)
    obtain⟨⟨H,n36⟩,e_w34,g32⟩:=bnd g32
    try dsimp only at g32
    obtain⟨⟨u,n39⟩,e_r37,g32⟩:=bnd g32
    try dsimp only at g32
    obtain⟨u40,e_u40,g32⟩:=bnd g32
    obtain⟨x41,a0,g32⟩:=bnd g32
    obtain⟨B,a1,g32⟩:=bnd g32
    refine gq fol [8,10,11,12] ((9,.i g)::(10,vl (qa .u64) d)::(kH o (d.length:Int) q [(14,.i n)])) [.cells (u.flatMap (qa .u64).c),.cells (B.flatMap (qa .u64).c)] (ac (hs (.done (.opt (qL ZT 83 (.slice 0 0 o.length o.length 1) (some (.i n)) (some (.i (w64 ((w64 (n+(d.length:Int)))+1)))) none)) (.slice 0 H n36 (o.length-H) 1)) (wn_ix zH e_w34)) (ac (hs (.callH 226 [.slice 0 H n36 (o.length-H) 1,vl (qa .u64) d] [.cells (o.flatMap (qa .u64).c),.cells (q.flatMap (qa .u64).c)] [0] (.int .u64 n39) [.cells (u.flatMap (qa .u64).c),.cells (q.flatMap (qa .u64).c)]) (qgi [some 0] [some 0,none] (qhy N o H n36 (o.length-H) d e_r37) (.ks .nil) rfl rfl (.back rfl rfl (.same fa) rfl (.old rfl rfl .nil)) (rc (.slice rfl) (rc (.same (qf (qa .u64) _)) rn)) (.same nI) rfl)) (ac (hs (.done (.opt (qh ZT 83 (.slice 1 0 q.length q.length 1) (.i n))) (.ptr 1 ((n:Int).toNat*1+0))) (qaE zH a0)) (ac (hs (.run [1] (qm ZT 197 (.ptr 1 ((n:Int).toNat*1+0)) (.int .u64 n39)) [.cells (u.flatMap (qa .u64).c),.cells (q.flatMap (qa .u64).c)] .undef [.cells (u.flatMap (qa .u64).c),.cells (B.flatMap (qa .u64).c)] true) (qan (E:=(qa .u64)) (l:=q) (y:=n39) rfl (show _=some 1 by kernel_rfl) rfl a0 rfl rfl rfl rfl rfl a1 rfl)) az)))) ?_
    refine Goes.sub (show Sub (ofG 137 ((9,.i g)::(10,vl (qa .u64) d)::(kH o (d.length:Int) q [(14,.i n)])),[.cells (u.flatMap (qa .u64).c),.cells (B.flatMap (qa .u64).c)]) (ofG 137 ((9,.i g)::(10,vl (qa .u64) d)::(kH u (d.length:Int) B [(14,.i n)])),[.cells (u.flatMap (qa .u64).c),.cells (B.flatMap (qa .u64).c)])from(Sub.norm [] [some 0,some 1] rfl rfl (.keep (.same nI) (.keep (.same (qf (qa .u64) _)) (.keep (.sliceE rfl (qpR e_u40)) (.keep (.same nI) (.keep (.sliceE rfl (vD a1)) (.keep (.same nI) .nil)))))) (.ks (.ks .nil)))) ?_
    refine gh fol ((9,.i g)::(10,vl (qa .u64) d)::(kH u (d.length:Int) B [(14,.i (w64 (n-1)))])) ?_
    exact⟨M,(ofG 137 ((9,.i g)::(10,vl (qa .u64) d)::(kH u (d.length:Int) B [(14,.i (w64 (n-1)))])),[.cells (u.flatMap (qa .u64).c),.cells (B.flatMap (qa .u64).c)]),Nat.lt_succ_self _,(Sub.refl _),_,_,_,rfl,g32⟩
   refine Goes.exit ?_
   obtain rfl:=si g32
   exact⟨rfl,_,_,rfl,(Sub.keep [9,11,12,13] rfl rfl)⟩
 rintro x s' ⟨rfl,Z,e,rfl,hsub⟩
 try dsimp only at h
 refine Goes.sub hsub ?_
 refine sq ?_
 refine sh fol ((9,.i g)::(kH Z (d.length:Int) e [(96,.i (d.length:Int)),(97,.i 0)])) ?_
 refine Goes.block ?_
 obtain⟨r46,g46,h⟩:=bnd h
 refine Goes.imp (Q:=fun x s'=>(x= .exit 4/\ ∃I,I=r46/\Sub s' (ofG 137 (kH I (d.length:Int) e []),[.cells (I.flatMap (qa .u64).c),.cells (e.flatMap (qa .u64).c)]))) ?_ ?_
 ·refine Uc (fun M s=> ∃(k:List Int) (f:Int),s=(ofG 137 ((9,.i g)::(kH k (d.length:Int) e (kA6 (d.length:Int) f))),[.cells (k.flatMap (qa .u64).c),.cells (e.flatMap (qa .u64).c)])/\jG g d M k f=some r46) ?_ (m:=N) ⟨_,_,rfl,g46⟩
  rintro M s ⟨k,f,rfl,g46⟩
  cases M with
  |zero=>simp only[jG]at g46;cases g46
  |succ M=>
   rw[jG]at g46
   refine sh fol ((9,.i g)::(kH k (d.length:Int) e [(96,.i (d.length:Int)),(97,.i f),(98,.bool (decide (f<(d.length:Int))))])) ?_
   refine sq ?_
   refine ihD g46 (fun c47 g46=>?_) (fun c47 g46=>?_)
   ·refine Goes.skip ?_
    refine sq ?_
    obtain⟨r49,g49,g46⟩:=bnd g46
    refine Goes.imp (Q:=fun x s'=>(x= .normal/\ ∃D,D=r49/\Sub s' (ofG 137 ((9,.i g)::(kH D (d.length:Int) e (kA6 (d.length:Int) f))),[.cells (D.flatMap (qa .u64).c),.cells (e.flatMap (qa .u64).c)]))) ?_ ?_
    ·refine Goes.block ?_
     refine sh fol ((9,.i g)::(kH k (d.length:Int) e ((15,.i f)::(kA6 (d.length:Int) f)))) ?_
     obtain⟨x50,v,g49⟩:=bnd g49
     obtain⟨q51,e_q51,g49⟩:=bnd g49
     obtain⟨j,a2,g49⟩:=bnd g49
     refine sq (gq fol [2,3,5,6,7] ((9,.i g)::(kH k (d.length:Int) e ((15,.i f)::(kA6 (d.length:Int) f)))) [.cells (j.flatMap (qa .u64).c),.cells (e.flatMap (qa .u64).c)] (ac (hs (.done (.opt (qh ZT 83 (.slice 0 0 k.length k.length 1) (.i f))) (.ptr 0 ((f:Int).toNat*1+0))) (qaE zH v)) (ac (hs (.run [0] (ja ZT 197 (.ptr 0 ((f:Int).toNat*1+0))) [.cells (k.flatMap (qa .u64).c),.cells (e.flatMap (qa .u64).c)] (.int .u64 x50) [.cells (k.flatMap (qa .u64).c),.cells (e.flatMap (qa .u64).c)] false) (qcC zP (E:=(qa .u64)) (l:=k) rfl rfl v (nl rfl) rfl)) (ac (hs (.done (.opt (qR ZT .shr 197 (.tmp 103) (.tmp 104) (.int .u64 x50) (.i g))) (.int .u64 q51)) (qgS e_q51)) (ac (hs (.done (.opt (qh ZT 83 (.slice 0 0 k.length k.length 1) (.i f))) (.ptr 0 ((f:Int).toNat*1+0))) (qaE zH v)) (ac (hs (.run [0] (qm ZT 197 (.ptr 0 ((f:Int).toNat*1+0)) (.int .u64 q51)) [.cells (k.flatMap (qa .u64).c),.cells (e.flatMap (qa .u64).c)] .undef [.cells (j.flatMap (qa .u64).c),.cells (e.flatMap (qa .u64).c)] true) (qan (E:=(qa .u64)) (l:=k) (y:=q51) rfl (show _=some 1 by kernel_rfl) rfl v rfl rfl rfl rfl rfl a2 rfl)) az))))) ?_)
     refine Goes.sub (show Sub (ofG 137 ((9,.i g)::(kH k (d.length:Int) e ((15,.i f)::(kA6 (d.length:Int) f)))),[.cells (j.flatMap (qa .u64).c),.cells (e.flatMap (qa .u64).c)]) (ofG 137 ((9,.i g)::(kH j (d.length:Int) e ((15,.i f)::(kA6 (d.length:Int) f)))),[.cells (j.flatMap (qa .u64).c),.cells (e.flatMap (qa .u64).c)])from(Sub.norm [] [some 0,some 1] rfl rfl (.keep (.same nI) (.keep (.sliceE rfl (vD a2)) (.keep (.same nI) (.keep (.slice rfl) (.keep (.same nI) (.keep (.same nI) (.keep (.same nI) .nil))))))) (.ks (.ks .nil)))) ?_
     refine sq ?_
     obtain⟨b54,r,g49⟩:=bnd g49
     refine Goes.cut (s':=(ofG 137 ((9,.i g)::(kH j (d.length:Int) e [(15,.i f),(96,.i (d.length:Int)),(97,.i f),(115,.bool b54)])),[.cells (j.flatMap (qa .u64).c),.cells (e.flatMap (qa .u64).c)])) ?_ ?_
     ·rcases wyD r with⟨c53,r⟩|⟨c53,r⟩
      ·obtain rfl:=si r
       exact tr fol [2] ((9,.i g)::(kH j (d.length:Int) e [(15,.i f),(96,.i (d.length:Int)),(97,.i f),(115,.bool (decide ((w64 (f+1))<(j.length:Int))))])) (ac (gw c53) az)
      obtain rfl:=si r
      exact tr fol [2] ((9,.i g)::(kH j (d.length:Int) e [(15,.i f),(96,.i (d.length:Int)),(97,.i f),(115,.bool false)])) (ac (gw c53) az)
     refine ihB g49 (fun c56 g49=>?_) (fun c56 g49=>?_)
     ·obtain⟨x57,w,g49⟩:=bnd g49
      obtain⟨x58,a3,g49⟩:=bnd g49
      obtain⟨q59,e_q59,g49⟩:=bnd g49
      obtain⟨a4,a5,g49⟩:=bnd g49
      refine gq fol [2,3,7,8,11,13,14] ((9,.i g)::(kH j (d.length:Int) e (kA6 (d.length:Int) f))) [.cells (a4.flatMap (qa .u64).c),.cells (e.flatMap (qa .u64).c)] (ac (hs (.done (.opt (qh ZT 83 (.slice 0 0 j.length j.length 1) (.i f))) (.ptr 0 ((f:Int).toNat*1+0))) (qaE zH w)) (ac (hs (.run [0] (ja ZT 197 (.ptr 0 ((f:Int).toNat*1+0))) [.cells (j.flatMap (qa .u64).c),.cells (e.flatMap (qa .u64).c)] (.int .u64 x57) [.cells (j.flatMap (qa .u64).c),.cells (e.flatMap (qa .u64).c)] false) (qcC zP (E:=(qa .u64)) (l:=j) rfl rfl w (nl rfl) rfl)) (ac (hs (.done (.opt (qh ZT 83 (.slice 0 0 j.length j.length 1) (.i (w64 (f+1))))) (.ptr 0 ((w64 (f+1):Int).toNat*1+0))) (qaE zH a3)) (ac (hs (.run [0] (ja ZT 197 (.ptr 0 ((w64 (f+1):Int).toNat*1+0))) [.cells (j.flatMap (qa .u64).c),.cells (e.flatMap (qa .u64).c)] (.int .u64 x58) [.cells (j.flatMap (qa .u64).c),.cells (e.flatMap (qa .u64).c)] false) (qcC zP (E:=(qa .u64)) (l:=j) rfl rfl a3 (nl rfl) rfl)) (ac (hs (.done (.opt (qR ZT .shl 197 (.tmp 124) (.tmp 126) (.int .u64 x58) (.i (w64 (64-g))))) (.int .u64 q59)) (qfI e_q59)) (ac (hs (.done (.opt (qh ZT 83 (.slice 0 0 j.length j.length 1) (.i f))) (.ptr 0 ((f:Int).toNat*1+0))) (qaE zH w)) (ac (hs (.run [0] (qm ZT 197 (.ptr 0 ((f:Int).toNat*1+0)) (.int .u64 (orI .u64 x57 q59))) [.cells (j.flatMap (qa .u64).c),.cells (e.flatMap (qa .u64).c)] .undef [.cells (a4.flatMap (qa .u64).c),.cells (e.flatMap (qa .u64).c)] true) (qan (E:=(qa .u64)) (l:=j) (y:=orI .u64 x57 q59) rfl (show _=some 1 by kernel_rfl) rfl w rfl rfl rfl rfl rfl a5 rfl)) az))))))) ?_
      obtain rfl:=si g49
      exact⟨rfl,_,rfl,((show Sub (ofG 137 ((9,.i g)::(kH j (d.length:Int) e (kA6 (d.length:Int) f))),[.cells (a4.flatMap (qa .u64).c),.cells (e.flatMap (qa .u64).c)]) (ofG 137 ((9,.i g)::(kH a4 (d.length:Int) e (kA6 (d.length:Int) f))),[.cells (a4.flatMap (qa .u64).c),.cells (e.flatMap (qa .u64).c)])from(Sub.norm [] [some 0,some 1] rfl rfl (.keep (.same nI) (.keep (.sliceE rfl (vD a5)) (.keep (.same nI) (.keep (.slice rfl) (.keep (.same nI) (.keep (.same nI) .nil)))))) (.ks (.ks .nil)))).trans (Sub.refl _))⟩
     refine Goes.skip ?_
     obtain rfl:=si g49
     exact⟨rfl,_,rfl,(Sub.keep [9,11,12,13,96,97] rfl rfl)⟩
    rintro x s' ⟨rfl,D,rfl,hsub⟩
    refine Goes.sub hsub ?_
    refine gh fol ((9,.i g)::(kH D (d.length:Int) e (kA6 (d.length:Int) (w64 (f+1))))) ?_
    exact⟨M,(ofG 137 ((9,.i g)::(kH D (d.length:Int) e (kA6 (d.length:Int) (w64 (f+1))))),[.cells (D.flatMap (qa .u64).c),.cells (e.flatMap (qa .u64).c)]),Nat.lt_succ_self _,(Sub.refl _),_,_,rfl,g46⟩
   refine Goes.exit ?_
   obtain rfl:=si g46
   exact⟨rfl,_,rfl,(Sub.keep [11,12,13] rfl rfl)⟩
 rintro x s' ⟨rfl,I,rfl,hsub⟩
 refine Goes.sub hsub ?_
 refine sq (Goes.sub (s':=(ofG 137 [(11,vl (qa .u64) I),(12,.i (d.length:Int)),(13,.slice 0 0 e.length e.length 1)],[.cells (e.flatMap (qa .u64).c)])) (Sub.norm [0] [some 1] rfl rfl (.keep (.frz (Fz.sl (E:=(qa .u64)) rfl rfl (nl rfl)) (qf (qa .u64) _)) (.keep (.same nI) (.keep (.slice rfl) .nil))) (.ks .nil)) ?_)
 obtain⟨a6,e_r62,h⟩:=bnd h
 obtain⟨s63,e_s63,h⟩:=bnd h
 obtain⟨a7,e_r64,h⟩:=bnd h
 refine gq fol [1,4,5] [(4,vl (qa .u64) a6),(5,vl (qa .u64) a7)] [.frozen (e.flatMap (qa .u64).c)] (ac (hs (.callF 188 [.slice 0 0 e.length e.length 1] [.cells (e.flatMap (qa .u64).c)] [0] [vl (qa .u64) e] (vl (qa .u64) a6)) (qaH (FzL.cons (Fz.sl (E:=(qa .u64)) rfl rfl (nl rfl)) FzL.nil) (xq N e e_r62) (qw (qa .u64) _ (nl rfl)))) (ac (hs (.done (.opt (qL ZT 83 (vl (qa .u64) I) none (some (.i (d.length:Int))) none)) (vl (qa .u64) s63)) (qlP zH (E:=(qa .u64)) rfl none (some (d.length:Int)) e_s63)) (ac (cv (xq N s63 e_r64)) az))) ?_
 refine Goes.sub (show Sub (ofG 137 [(4,vl (qa .u64) a6),(5,vl (qa .u64) a7)],[.frozen (e.flatMap (qa .u64).c)]) (ofG 137 [(4,vl (qa .u64) a6),(5,vl (qa .u64) a7)],[])from(Sub.norm [] [] rfl rfl (.keep (.same (qf (qa .u64) _)) (.keep (.same (qf (qa .u64) _)) .nil)) .nil)) ?_
 refine Goes.ret ?_
 obtain rfl:=si h
 exact(gw2 [vl (qa .u64) a6,vl (qa .u64) a7] (FzW.tuple (qc.cons (Ua (qw (qa .u64) _ (nl rfl))) (qc.cons (Ua (qw (qa .u64) _ (nl rfl))) qc.nil))))
def kg (N:Nat) (a:qj) (b:qj):Option (qj×qj):=
 (if a.w.isEmpty=true then
 if b.w.isEmpty=true then
 some (!decide (a.s=(-9223372036854775808)))
 else
 some false
 else
 some false:Option Bool).bind fun r=>
 if r=true then
 (qcp .i64 a.s b.s).bind fun q=>
 (qei .i64 a.s b.s).bind fun i=>
 ((if i<0 then
 some (w64 (q-1),w64 (i+b.s))
 else
 some (q,i):Option (Int×Int))).bind fun(t,u)=>
 some ((⟨t,[]⟩:qj),(⟨u,[]⟩:qj))
 else
 (qD a).bind fun d=>
 (qD b).bind fun j=>
 (qaP N d.2 j.2).bind fun f=>
 (jU d.1 f.1).bind fun e=>
 (jU d.1 f.2).bind fun c=>
 (qV c).bind fun k=>
 ((if k<0 then
 (qad 1).bind fun l=>
 (xh N e l).bind fun g=>
 (jl N c b).bind fun h=>
 some (g.s,g.w,h.s,h.w)
 else
 some (e.s,e.w,c.s,c.w):Option (Int×(List Int)×Int×(List Int)))).bind fun(m,n,o,p)=>
 some ((⟨m,n⟩:qj),(⟨o,p⟩:qj))
theorem yz (N:Nat) (a:qj) (b:qj) {res:qj×qj} (h:kg N a b=some res):qb ZT (.fn 126) [.agg (nz1 a),.agg (nz1 b)] [] (.tuple [.agg (nz1 res.1),.agg (nz1 res.2)]) []:=by
 unfold kg at h
 refine Ub Tryz.func126 rfl rfl (m:=84) rfl (rs:=[.cell 4 85,.cell 5 85]) rfl (l:=[(0,.agg (nz1 a)),(1,.agg (nz1 b))]) rfl ?_
 refine sg fol (kF (kBI [])) [.cells (nz1 a),.cells (nz1 b),bZ,bZ] ?_
 refine sq ?_
 refine sq ?_
 obtain⟨b3,c,h⟩:=bnd h
 refine Goes.cut (s':=(ofG 84 (kF (kBI [(28,.bool b3)])),[.cells (nz1 a),.cells (nz1 b),bZ,bZ])) ?_ ?_
 ·rcases wyB c with⟨L,c⟩|⟨L,c⟩
  ·rcases wyB c with⟨O,c⟩|⟨O,c⟩
   ·obtain rfl:=si c
    exact tr fol [2,3,6,8] (kF (kBI [(28,.bool (!decide (a.s=(-9223372036854775808))))])) (ac (hs (.done (.opt (qR ZT .eql 83 (.tmp 17) (.const (.slice none 0 0)) (nvl (qa .u64) a.w) .nilslice)) (.bool a.w.isEmpty)) (qaL qaF)) (ac (gw L) (ac (hs (.done (.opt (qR ZT .eql 83 (.tmp 21) (.const (.slice none 0 0)) (nvl (qa .u64) b.w) .nilslice)) (.bool b.w.isEmpty)) (qaL qaF)) (ac (gw O) az))))
   obtain rfl:=si c
   exact tr fol [2,3,6,8] (kF (kBI [(28,.bool false)])) (ac (hs (.done (.opt (qR ZT .eql 83 (.tmp 17) (.const (.slice none 0 0)) (nvl (qa .u64) a.w) .nilslice)) (.bool a.w.isEmpty)) (qaL qaF)) (ac (gw L) (ac (hs (.done (.opt (qR ZT .eql 83 (.tmp 21) (.const (.slice none 0 0)) (nvl (qa .u64) b.w) .nilslice)) (.bool b.w.isEmpty)) (qaL qaF)) (ac (gw O) az))))
  obtain rfl:=si c
  exact tr fol [2,3] (kF (kBI [(28,.bool false)])) (ac (hs (.done (.opt (qR ZT .eql 83 (.tmp 17) (.const (.slice none 0 0)) (nvl (qa .u64) a.w) .nilslice)) (.bool a.w.isEmpty)) (qaL qaF)) (ac (gw L) az))
 refine ihB h (fun c5 h=>?_) (fun c5 h=>?_)
 ·obtain⟨M,F,h⟩:=bnd h
  obtain⟨G,H,h⟩:=bnd h
  refine sq (gr fol [4,9] (kAV (kAR (kBI (kAr M G [])))) (ac (hs (.done (.opt (qR ZT .quo 3 (.tmp 30) (.tmp 32) (.i a.s) (.i b.s))) (.i M)) (qbY F)) (ac (hs (.done (.opt (qR ZT .rem 3 (.tmp 35) (.tmp 37) (.i a.s) (.i b.s))) (.i G)) (qfP H)) az)) ?_)
  refine sq ?_
  refine sh fol (kAV (kAR (kBI (kAr M G [(40,.bool (decide (G<0)))])))) ?_
  obtain⟨P,g10,h⟩:=bnd h
  refine Goes.imp (Q:=fun x s'=>(x= .normal/\ ∃I J,(I,J)=P/\Sub s' (ofG 84 (kX (kAb I [(7,.i J)])),[bZ,bZ]))) ?_ ?_
  ·refine ihD g10 (fun U g10=>?_) (fun U g10=>?_)
   ·refine gh fol (kAR (kBI (kAr (w64 (M-1)) (w64 (G+b.s)) []))) ?_
    obtain rfl:=si g10
    exact⟨rfl,_,_,rfl,(Sub.norm [] [some 2,some 3] rfl rfl (.kp (.kp (.keep (.same nI) (.keep (.same nI) .nil)))) (.kb rfl (.same sn) (.kb rfl (.same sn) .nil)))⟩
   refine Goes.skip ?_
   obtain rfl:=si g10
   exact⟨rfl,_,_,rfl,(Sub.norm [] [some 2,some 3] rfl rfl (.drop (.kp (.kp (.keep (.same nI) (.keep (.same nI) .nil))))) (.kb rfl (.same sn) (.kb rfl (.same sn) .nil)))⟩
  rintro x s' ⟨rfl,I,J,rfl,hsub⟩
  try dsimp only at h
  refine Goes.sub hsub ?_
  refine sg fol (kX (kBV [])) (.cells [.i I,.nilslice]::(kA7 J)) ?_
  refine Goes.ret ?_
  obtain rfl:=si h
  exact(gw2 [.agg [.i I,.nilslice],.agg [.i J,.nilslice]] (FzW.tuple (qc.cons (FzW.agg (qc.cons (Ua tI) (qc.cons (FzW.nv0 (E:=(qa .u64))) qc.nil))) (qc.cons (FzW.agg (qc.cons (Ua tI) (qc.cons (FzW.nv0 (E:=(qa .u64))) qc.nil))) qc.nil))))
 refine Goes.skip ?_
 obtain⟨j,r,h⟩:=bnd h
 refine sq (gr fol [1] (kAV (kAR (kBI [(8,.bool j.1),(9,vl (qa .u64) j.2)]))) (ac (cv (zD a r)) az) ?_)
 obtain⟨K,t,h⟩:=bnd h
 refine sq (gr fol [1] (kAV (kAR (kBI [(8,.bool j.1),(9,vl (qa .u64) j.2),(11,vl (qa .u64) K.2)]))) (ac (cv (zD b t)) az) ?_)
 obtain⟨q,u,h⟩:=bnd h
 refine sq (gr fol [2] (kAV (kAR (kBI [(8,.bool j.1),(12,vl (qa .u64) q.1),(13,vl (qa .u64) q.2)]))) (ac (cv (qeW N j.2 K.2 u)) az) ?_)
 obtain⟨o,v,h⟩:=bnd h
 obtain⟨k,y,h⟩:=bnd h
 refine sq (gq fol [2,5,8,9] (kAV (kAR (kBI [(14,.ptr 4 0),(15,.ptr 5 0)]))) [.cells (nz1 a),.cells (nz1 b),bZ,bZ,.cells (nz1 o),.cells (nz1 k)] (ac (cv (qaa j.1 q.1 v)) (ac (cv (qaa j.1 q.2 y)) (ac (hs (.run [4] (qm ZT 85 (.ptr 4 0) (.agg (nz1 o))) [.cells (nz1 a),.cells (nz1 b),bZ,bZ,bZ,bZ] .undef [.cells (nz1 a),.cells (nz1 b),bZ,bZ,.cells (nz1 o),bZ] true) (qK (n:=2) (by kernel_rfl) rfl rfl rfl rfl (cac rfl (cac nvc can)) rfl)) (ac (hs (.run [5] (qm ZT 85 (.ptr 5 0) (.agg (nz1 k))) [.cells (nz1 a),.cells (nz1 b),bZ,bZ,.cells (nz1 o),bZ] .undef [.cells (nz1 a),.cells (nz1 b),bZ,bZ,.cells (nz1 o),.cells (nz1 k)] true) (qK (n:=2) (by kernel_rfl) rfl rfl rfl rfl (cac rfl (cac nvc can)) rfl)) az)))) ?_)
 refine sq ?_
 obtain⟨V,z,h⟩:=bnd h
 refine sq (gr fol [1] (kAV (kAR (kBI [(14,.ptr 4 0),(15,.ptr 5 0),(75,.bool (decide (V<0)))]))) (ac (cv (jZ k z)) az) ?_)
 obtain⟨X,g22,h⟩:=bnd h
 refine Goes.imp (Q:=fun x s'=>(x= .normal/\ ∃d e f g,(d,e,f,g)=X/\Sub s' (ofG 84 (kX (kBV [(14,.ptr 2 0),(15,.ptr 3 0)])),[bZ,bZ,.cells (ni1 d e),.cells (ni1 f g)]))) ?_ ?_
 ·refine ihD g22 (fun Y g22=>?_) (fun Y g22=>?_)
  ·obtain⟨Z,A,g22⟩:=bnd g22
   obtain⟨p,B,g22⟩:=bnd g22
   obtain⟨C,D,g22⟩:=bnd g22
   refine gq fol [1,2,5,6,7] (kAR (kBI [(14,.ptr 4 0),(15,.ptr 5 0)])) [.cells (nz1 a),.cells (nz1 b),bZ,bZ,.cells (nz1 p),.cells (nz1 C)] (ac (cv (vP 1 A)) (ac (cv (qel N o Z B)) (ac (cv (yO N k b D)) (ac (hs (.run [4] (qm ZT 85 (.ptr 4 0) (.agg (nz1 p))) [.cells (nz1 a),.cells (nz1 b),bZ,bZ,.cells (nz1 o),.cells (nz1 k)] .undef [.cells (nz1 a),.cells (nz1 b),bZ,bZ,.cells (nz1 p),.cells (nz1 k)] true) (qK (n:=2) (by kernel_rfl) rfl rfl rfl rfl (cac rfl (cac nvc can)) rfl)) (ac (hs (.run [5] (qm ZT 85 (.ptr 5 0) (.agg (nz1 C))) [.cells (nz1 a),.cells (nz1 b),bZ,bZ,.cells (nz1 p),.cells (nz1 k)] .undef [.cells (nz1 a),.cells (nz1 b),bZ,bZ,.cells (nz1 p),.cells (nz1 C)] true) (qK (n:=2) (by kernel_rfl) rfl rfl rfl rfl (cac rfl (cac nvc can)) rfl)) az))))) ?_
   obtain rfl:=si g22
   exact⟨rfl,_,_,_,_,rfl,(Sub.norm [] [some 2,some 3,some 4,some 5] rfl rfl (.kp (.kp (.kp (.kp .nil)))) (.kb rfl (.same sn) (.kb rfl (.same sn) (.kb rfl (.same sn) (.kb rfl (.same sn) .nil)))))⟩
  refine Goes.skip ?_
  obtain rfl:=si g22
  exact⟨rfl,_,_,_,_,rfl,(Sub.norm [] [some 2,some 3,some 4,some 5] rfl rfl (.drop (.kp (.kp (.kp (.kp .nil))))) (.kb rfl (.same sn) (.kb rfl (.same sn) (.kb rfl (.same sn) (.kb rfl (.same sn) .nil)))))⟩
 rintro x s' ⟨rfl,d,e,f,g,rfl,hsub⟩
 try dsimp only at h
 refine Goes.sub hsub ?_
 refine sq (gq fol [2,3] (kX (kBV [])) [.cells (ni1 d e),.cells (ni1 f g),.cells (ni1 d e),.cells (ni1 f g)] (ac (hs (.run [0] (qm ZT 85 (.ptr 0 0) (.agg (ni1 d e))) [bZ,bZ,.cells (ni1 d e),.cells (ni1 f g)] .undef [.cells (ni1 d e),bZ,.cells (ni1 d e),.cells (ni1 f g)] true) (qK (n:=2) (by kernel_rfl) rfl rfl rfl rfl (cac rfl (cac nvc can)) rfl)) (ac (hs (.run [1] (qm ZT 85 (.ptr 1 0) (.agg (ni1 f g))) [.cells (ni1 d e),bZ,.cells (ni1 d e),.cells (ni1 f g)] .undef [.cells (ni1 d e),.cells (ni1 f g),.cells (ni1 d e),.cells (ni1 f g)] true) (qK (n:=2) (by kernel_rfl) rfl rfl rfl rfl (cac rfl (cac nvc can)) rfl)) az)) ?_)
 refine Goes.ret ?_
 obtain rfl:=si h
 exact(gw2 [.agg (ni1 d e),.agg (ni1 f g)] (FzW.tuple (qc.cons (FzW.agg (qc.cons (Ua tI) (qc.cons (Ua (qA (qa .u64) _ (nl rfl))) qc.nil))) (qc.cons (FzW.agg (qc.cons (Ua tI) (qc.cons (Ua (qA (qa .u64) _ (nl rfl))) qc.nil))) qc.nil))))
def qaZ (a:qj):Option qj:=
 if a.s<0 then
 (zL a).bind fun b=>
 some b
 else
 some a
theorem qeE (a:qj) {res:qj} (h:qaZ a=some res):qb ZT (.fn 182) [.agg (nz1 a)] [] (.agg (nz1 res)) []:=by
 unfold qaZ at h
 refine Ub Tryz.func182 rfl rfl (m:=9) rfl (rs:=[.cell 2 85]) rfl (l:=[(0,.agg (nz1 a))]) rfl ?_
 refine sg fol (kAB []) [.cells (nz1 a),bZ] ?_
 refine sq ?_
 refine sh fol (kAB [(5,.bool (decide (a.s<0)))]) ?_
 refine ihD h (fun d h=>?_) (fun d h=>?_)
 ·obtain⟨c,b,h⟩:=bnd h
  refine sq (gq fol [1,2] kBW [.cells (nz1 a),.cells (nz1 c)] (ac (cv (yh a b)) (ac (hs (.run [1] (qm ZT 85 (.ptr 1 0) (.agg (nz1 c))) [.cells (nz1 a),bZ] .undef [.cells (nz1 a),.cells (nz1 c)] true) (qK (n:=2) (by kernel_rfl) rfl rfl rfl rfl (cac rfl (cac nvc can)) rfl)) az)) ?_)
  refine Goes.ret ?_
  obtain rfl:=si h
  exact(gw2 [.agg (nz1 c)] (FzW.agg (qc.cons (Ua tI) (qc.cons (Ua (qA (qa .u64) _ (nl rfl))) qc.nil))))
 refine Goes.skip ?_
 refine sq (gq fol [1] kBW [.cells (nz1 a),.cells (nz1 a)] (ac (hs (.run [1] (qm ZT 85 (.ptr 1 0) (.agg (nz1 a))) [.cells (nz1 a),bZ] .undef [.cells (nz1 a),.cells (nz1 a)] true) (qK (n:=2) (by kernel_rfl) rfl rfl rfl rfl (cac rfl (cac nvc can)) rfl)) az) ?_)
 refine Goes.ret ?_
 obtain rfl:=si h
 exact(gw2 [.agg (nz1 a)] (FzW.agg (qc.cons (Ua tI) (qc.cons (Ua (qA (qa .u64) _ (nl rfl))) qc.nil))))
def yf (N:Nat):Nat->Int->(List Int)->Int->(List Int)->Option (Int×(List Int))
 |0,_,_,_,_=>none
 |K+1,e,f,b,c=>
  (qV (⟨b,c⟩:qj)).bind fun d=>
  if(!decide (d=0))=true then
  (kg N (⟨e,f⟩:qj) (⟨b,c⟩:qj)).bind fun a=>
  yf N K b c a.2.s a.2.w
  else
  some (e,f)
def qcH (N:Nat) (a:qj) (b:qj):Option qj:=
 (qaZ a).bind fun c=>
 (qaZ b).bind fun d=>
 (yf N N c.s c.w d.s d.w).bind fun(e,f)=>
 some (⟨e,f⟩:qj)
theorem qhK (N:Nat) (a:qj) (b:qj) {res:qj} (h:qcH N a b=some res):qb ZT (.fn 122) [.agg (nz1 a),.agg (nz1 b)] [] (.agg (nz1 res)) []:=by
 unfold qcH at h
 refine Ub Tryz.func122 rfl rfl (m:=23) rfl (rs:=[.cell 4 85]) rfl (l:=[(0,.agg (nz1 a)),(1,.agg (nz1 b))]) rfl ?_
 refine sg fol (kF []) [.cells (nz1 a),.cells (nz1 b),bZ] ?_
 obtain⟨p,q,h⟩:=bnd h
 obtain⟨t,r,h⟩:=bnd h
 refine sq (gq fol [1,3,4,5] (kF []) [.cells (nz1 p),.cells (nz1 t),bZ] (ac (cv (qeE a q)) (ac (cv (qeE b r)) (ac (hs (.run [0] (qm ZT 85 (.ptr 0 0) (.agg (nz1 p))) [.cells (nz1 a),.cells (nz1 b),bZ] .undef [.cells (nz1 p),.cells (nz1 b),bZ] true) (qK (n:=2) (by kernel_rfl) rfl rfl rfl rfl (cac rfl (cac nvc can)) rfl)) (ac (hs (.run [1] (qm ZT 85 (.ptr 1 0) (.agg (nz1 t))) [.cells (nz1 p),.cells (nz1 b),bZ] .undef [.cells (nz1 p),.cells (nz1 t),bZ] true) (qK (n:=2) (by kernel_rfl) rfl rfl rfl rfl (cac rfl (cac nvc can)) rfl)) az)))) ?_)
 refine sq (Goes.block ?_)
 obtain⟨w,g9,h⟩:=bnd h
 refine Goes.imp (Q:=fun x s'=>(x= .exit 0/\ ∃f g,(f,g)=w/\Sub s' (ofG 23 (kO [(4,.ptr 1 0)]),[.cells (ni1 f g),bZ]))) ?_ ?_
 ·refine Uc (fun M s=> ∃(i:Int) (j:List Int) (d:Int) (e:List Int),s=(ofG 23 (kF []),[.cells (ni1 i j),.cells (ni1 d e),bZ])/\yf N M i j d e=some w) ?_ (m:=N) ⟨_,_,_,_,rfl,g9⟩
  rintro M s ⟨i,j,d,e,rfl,g9⟩
  cases M with
  |zero=>simp only[yf]at g9;cases g9
  |succ M=>
   rw[yf]at g9
   refine sq ?_
   obtain⟨u,k,g9⟩:=bnd g9
   refine sq (gr fol [1] (kF (kBO (!decide (u=0)))) (ac (cv (jZ (⟨d,e⟩:qj) k)) az) ?_)
   refine ihB g9 (fun v g9=>?_) (fun v g9=>?_)
   ·refine Goes.skip ?_
    refine Goes.block ?_
    obtain⟨c,o,g9⟩:=bnd g9
    refine sq (gq fol [2,8,9] (kF [(6,.ptr 4 0)]) [.cells (ni1 i j),.cells (ni1 d e),bZ,.cells (nz1 c.1),.cells (nz1 c.2)] (ac (cv (yz N (⟨i,j⟩:qj) (⟨d,e⟩:qj) o)) (ac (hs (.run [3] (qm ZT 85 (.ptr 3 0) (.agg (nz1 c.1))) [.cells (ni1 i j),.cells (ni1 d e),bZ,bZ,bZ] .undef [.cells (ni1 i j),.cells (ni1 d e),bZ,.cells (nz1 c.1),bZ] true) (qK (n:=2) (by kernel_rfl) rfl rfl rfl rfl (cac rfl (cac nvc can)) rfl)) (ac (hs (.run [4] (qm ZT 85 (.ptr 4 0) (.agg (nz1 c.2))) [.cells (ni1 i j),.cells (ni1 d e),bZ,.cells (nz1 c.1),bZ] .undef [.cells (ni1 i j),.cells (ni1 d e),bZ,.cells (nz1 c.1),.cells (nz1 c.2)] true) (qK (n:=2) (by kernel_rfl) rfl rfl rfl rfl (cac rfl (cac nvc can)) rfl)) az))) ?_)
    refine gq fol [2,3] (kF []) [.cells (ni1 d e),.cells (nz1 c.2),bZ,.cells (nz1 c.1),.cells (nz1 c.2)] (ac (hs (.run [0] (qm ZT 85 (.ptr 0 0) (.agg (ni1 d e))) [.cells (ni1 i j),.cells (ni1 d e),bZ,.cells (nz1 c.1),.cells (nz1 c.2)] .undef [.cells (ni1 d e),.cells (ni1 d e),bZ,.cells (nz1 c.1),.cells (nz1 c.2)] true) (qK (n:=2) (by kernel_rfl) rfl rfl rfl rfl (cac rfl (cac nvc can)) rfl)) (ac (hs (.run [1] (qm ZT 85 (.ptr 1 0) (.agg (nz1 c.2))) [.cells (ni1 d e),.cells (ni1 d e),bZ,.cells (nz1 c.1),.cells (nz1 c.2)] .undef [.cells (ni1 d e),.cells (nz1 c.2),bZ,.cells (nz1 c.1),.cells (nz1 c.2)] true) (qK (n:=2) (by kernel_rfl) rfl rfl rfl rfl (cac rfl (cac nvc can)) rfl)) az)) ?_
    exact⟨M,(ofG 23 (kF []),[.cells (ni1 d e),.cells (nz1 c.2),bZ]),Nat.lt_succ_self _,(Sub.norm [] [some 0,some 1,some 2] rfl rfl (.kp (.kp (.kp .nil))) (.kb rfl (.same sn) (.kb rfl (.same sn) (.kb rfl (.same sn) .nil)))),_,_,_,_,rfl,g9⟩
   refine Goes.exit ?_
   obtain rfl:=si g9
   exact⟨rfl,_,_,rfl,(Sub.norm [] [some 0,some 2] rfl rfl (.kp (.drop (.kp .nil))) (.kb rfl (.same sn) (.kb rfl (.same sn) .nil)))⟩
 rintro x s' ⟨rfl,f,g,rfl,hsub⟩
 try dsimp only at h
 refine Goes.sub hsub ?_
 refine sq (gq fol [1] [(4,.ptr 1 0)] [.cells (ni1 f g),.cells (ni1 f g)] (ac (hs (.run [1] (qm ZT 85 (.ptr 1 0) (.agg (ni1 f g))) [.cells (ni1 f g),bZ] .undef [.cells (ni1 f g),.cells (ni1 f g)] true) (qK (n:=2) (by kernel_rfl) rfl rfl rfl rfl (cac rfl (cac nvc can)) rfl)) az) ?_)
 refine Goes.ret ?_
 obtain rfl:=si h
 exact(gw2 [.agg (ni1 f g)] (FzW.agg (qc.cons (Ua tI) (qc.cons (Ua (qA (qa .u64) _ (nl rfl))) qc.nil))))
def qat (N:Nat) (a:Str):Option Int:=
 (strings_CutPrefix a [45]).bind fun r=>
 (strings_Cut r.1 [47]).bind fun b=>
 ((jC b.1).bind fun t=>
 if t=true then
 if(!r.2)=true then
 some true
 else
 some (!(b.1==[48]))
 else
 some false:Option Bool).bind fun s=>
 ((if b.2.2=true then
 (if s=true then
 (jC b.2.1).bind fun g=>
 if g=true then
 if(!(b.2.1==[48]))=true then
 some (!(b.2.1==[49]))
 else
 some false
 else
 some false
 else
 some false:Option Bool).bind fun h=>
 some h
 else
 some s:Option Bool)).bind fun u=>
 ((ku (!u) 1).bind fun c=>
 if(b.1.length:Int)>600 then
 (ku true 4).bind fun d=>
 (vE N ([c,d]:List Int)).bind fun i=>
 some (c,d,i)
 else
 (ku (decide ((b.2.1.length:Int)>600)) 4).bind fun e=>
 (vE N ([c,e]:List Int)).bind fun j=>
 some (c,e,j):Option (Int×Int×Int)).bind fun(v,w,f)=>
 if(!decide (f=0))=true then
 some f
 else
 (if b.2.2=true then
 (qae N b.1).bind fun k=>
 (qae N b.2.1).bind fun l=>
 (qcH N k l).bind fun m=>
 (qad 1).bind fun n=>
 (vG N m n).bind fun o=>
 some (!decide (o=0))
 else
 some false:Option Bool).bind fun p=>
 (ku p 1).bind fun q=>
 some q
theorem qd1 (N:Nat) (a:Str) {res:Int} (h:qat N a=some res):qb ZT (.fn 55) [.str a] [] (.i res) []:=by
 unfold qat at h
 refine Ub Tryz.func55 rfl rfl (m:=76) rfl (rs:=[.tmp 2]) rfl (l:=(kAM a [])) rfl ?_
 refine sh fol (kAM a []) ?_
 obtain⟨V,H,h⟩:=bnd h
 refine sq (gr fol [1] ((3,.str V.1)::(kA1 V.2)) (ac (cv (qee a [45] H)) az) ?_)
 obtain⟨e,I,h⟩:=bnd h
 refine sq (gr fol [1] ((4,.bool V.2)::(kAJ e.1 e.2.1 e.2.2 [])) (ac (cv (qd9 V.1 [47] I)) az) ?_)
 refine sq ?_
 obtain⟨b6,f,h⟩:=bnd h
 refine Goes.cut (s':=(ofG 76 (kAJ e.1 e.2.1 e.2.2 (kAw b6)),[])) ?_ ?_
 ·obtain⟨r3,k,f⟩:=bnd f
  rcases wyB f with⟨X,f⟩|⟨X,f⟩
  ·rcases wyB f with⟨Y,f⟩|⟨Y,f⟩
   ·obtain rfl:=si f
    exact tr fol [1,2,5] (kAJ e.1 e.2.1 e.2.2 [(8,.bool true)]) (ac (cv (jh e.1 k)) (ac (gw X) (ac (gw Y) az)))
   obtain rfl:=si f
   exact tr fol [1,2,5] (kAJ e.1 e.2.1 e.2.2 (kAw (!(e.1==[48])))) (ac (cv (jh e.1 k)) (ac (gw X) (ac (gw Y) az)))
  obtain rfl:=si f
  exact tr fol [1,2] (kAJ e.1 e.2.1 e.2.2 kBK) (ac (cv (jh e.1 k)) (ac (gw X) az))
 refine sq ?_
 refine sh fol (kAJ e.1 e.2.1 e.2.2 [(8,.bool b6),(32,.bool e.2.2)]) ?_
 obtain⟨r9,g9,h⟩:=bnd h
 refine Goes.imp (Q:=fun x s'=>(x= .normal/\ ∃J,J=r9/\Sub s' (ofG 76 (kAJ e.1 e.2.1 e.2.2 (kAw J)),[]))) ?_ ?_
 ·refine ihB g9 (fun Z g9=>?_) (fun Z g9=>?_)
  ·obtain⟨a0,c,g9⟩:=bnd g9
   refine Goes.cut (s':=(ofG 76 (kAJ e.1 e.2.1 e.2.2 (kAw a0)),[])) ?_ ?_
   ·rcases wyB c with⟨n,c⟩|⟨n,c⟩
    ·obtain⟨r12,j,c⟩:=bnd c
     rcases wyB c with⟨q,c⟩|⟨q,c⟩
     ·rcases wyB c with⟨t,c⟩|⟨t,c⟩
      ·obtain rfl:=si c
       exact tr fol [1,3,5,9] (kAJ e.1 e.2.1 e.2.2 (kAw (!(e.2.1==[49])))) (ac (gw n) (ac (cv (jh e.2.1 j)) (ac (gw q) (ac (gw t) az))))
      obtain rfl:=si c
      exact tr fol [1,3,5,9] (kAJ e.1 e.2.1 e.2.2 kBK) (ac (gw n) (ac (cv (jh e.2.1 j)) (ac (gw q) (ac (gw t) az))))
     obtain rfl:=si c
     exact tr fol [1,3,5] (kAJ e.1 e.2.1 e.2.2 kBK) (ac (gw n) (ac (cv (jh e.2.1 j)) (ac (gw q) az)))
    obtain rfl:=si c
    exact tr fol [1] (kAJ e.1 e.2.1 e.2.2 kBK) (ac (gw n) az)
   obtain rfl:=si g9
   exact⟨rfl,_,rfl,(Sub.refl _)⟩
  refine Goes.skip ?_
  obtain rfl:=si g9
  exact⟨rfl,_,rfl,(Sub.keep [5,6,7,8] rfl rfl)⟩
 rintro x s' ⟨rfl,J,rfl,hsub⟩
 refine Goes.sub hsub ?_
 refine sq ?_
 refine sq ?_
 obtain⟨⟨K,L,o⟩,b,h⟩:=bnd h
 refine Goes.cut (s':=(ofG 76 (kAJ e.1 e.2.1 e.2.2 [(9,.i o)]),(kAt K L))) ?_ ?_
 ·obtain⟨g,p,b⟩:=bnd b
  rcases wyD b with⟨u,b⟩|⟨u,b⟩
  ·obtain⟨r,v,b⟩:=bnd b
   obtain⟨M,w,b⟩:=bnd b
   simp only[ZI,ZP]at b
   obtain⟨rfl,rfl,rfl⟩:=b
   exact yL.rq fol [2,6,11,13] (kAJ e.1 e.2.1 e.2.2 [(9,.i M)]) (kAt g r) (ac (cv (y7 (!J) 1 p)) (ac (gw u) (ac (cv (y7 true 4 v)) (ac (hs (.call 51 [.slice 0 0 2 2 1] (kAt g r) [0] [vl encI ([g,r]:List Int)] (.i M)) (qdG (FzL.cons (Fz.lit rfl rfl (Ue (AllST.cons tI (AllST.cons tI AllST.nil)))) FzL.nil) (qbN N ([g,r]:List Int) w) tI rfl)) az))))
  obtain⟨s,y,b⟩:=bnd b
  obtain⟨O,z,b⟩:=bnd b
  simp only[ZI,ZP]at b
  obtain⟨rfl,rfl,rfl⟩:=b
  exact yL.rq fol [2,6,11,13] (kAJ e.1 e.2.1 e.2.2 [(9,.i O)]) (kAt g s) (ac (cv (y7 (!J) 1 p)) (ac (gw u) (ac (cv (y7 (decide ((e.2.1.length:Int)>600)) 4 y)) (ac (hs (.call 51 [.slice 0 0 2 2 1] (kAt g s) [0] [vl encI ([g,s]:List Int)] (.i O)) (qdG (FzL.cons (Fz.lit rfl rfl (Ue (AllST.cons tI (AllST.cons tI AllST.nil)))) FzL.nil) (qbN N ([g,s]:List Int) z) tI rfl)) az))))
 try dsimp only at h
 refine sh fol (kAJ e.1 e.2.1 e.2.2 [(9,.i o),(61,.bool (!decide (o=0)))]) ?_
 refine ihB h (fun a1 h=>?_) (fun a1 h=>?_)
 ·refine sh fol (kBF o) ?_
  refine Goes.ret ?_
  obtain rfl:=si h
  exact(gw2 [.i o] (Ua tI))
 refine Goes.skip ?_
 refine sq ?_
 obtain⟨P,d,h⟩:=bnd h
 refine Goes.cut (s':=(ofG 76 (kBP P),(kAt K L))) ?_ ?_
 ·rcases wyB d with⟨A,d⟩|⟨A,d⟩
  ·obtain⟨a2,B,d⟩:=bnd d
   obtain⟨a3,C,d⟩:=bnd d
   obtain⟨a4,D,d⟩:=bnd d
   obtain⟨a5,E,d⟩:=bnd d
   obtain⟨a6,F,d⟩:=bnd d
   obtain rfl:=si d
   exact tr fol [1,3,5,6,7,8] (kBP (!decide (a6=0))) (ac (gw A) (ac (cv (qai N e.1 B)) (ac (cv (qai N e.2.1 C)) (ac (cv (qhK N a2 a3 D)) (ac (cv (vP 1 E)) (ac (cv (yX N a4 a5 F)) az))))))
  obtain rfl:=si d
  exact tr fol [1] [(10,.bool false)] (ac (gw A) az)
 obtain⟨U,G,h⟩:=bnd h
 refine sq (gr fol [1] (kBF U) (ac (cv (y7 P 1 G)) az) ?_)
 refine Goes.ret ?_
 obtain rfl:=si h
 exact(gw2 [.i U] (Ua tI))
def qN (N:Nat) (l:List Str):Nat->Int->Option (Unit⊕Int)
 |0,_=>none
 |K+1,a=>
  if a<(l.length:Int)then
  (idx l a).bind fun c=>
  (qat N c).bind fun b=>
  if(!decide (b=0))=true then
  some (.inr b)
  else
  qN N l K (w64 (a+1))
  else
  some (.inl ())
def xG (N:Nat) (l:List Str):Option Int:=
 (qN N l N 0).bind (fun
 |(.inl ())=>
 some 0
 |(.inr a)=>
 some a)
theorem qfi (N:Nat) (l:List Str) {res:Int} (h:xG N l=some res):qb ZT (.fn 114) [vl encS l] [] (.i res) []:=by
 unfold xG at h
 refine Ub Tryz.func114 rfl rfl (m:=18) rfl (rs:=[.tmp 2]) rfl (l:=(kBL l [])) rfl ?_
 refine sh fol (kBL l []) ?_
 refine sq ?_
 refine sh fol [(6,vl encS l),(7,.i (l.length:Int)),(8,.i 0)] ?_
 refine Goes.block ?_
 obtain⟨e,g2,h⟩:=bnd h
 refine Goes.imp (Q:=fun x s'=>(x= .exit 0/\(.inl ())=e/\Sub s' (ofG 18 [],[]))\/(x= .ret/\ ∃f,(.inr f)=e/\jy ZT [.tmp 2] (.i f) .ret s')) ?_ ?_
 ·refine Uc (fun M s=> ∃(a:Int),s=(ofG 18 ((6,vl encS l)::(kAQ (l.length:Int) a [])),[])/\qN N l M a=some e) ?_ (m:=N) ⟨_,rfl,g2⟩
  rintro M s ⟨a,rfl,g2⟩
  cases M with
  |zero=>simp only[qN]at g2;cases g2
  |succ M=>
   rw[qN]at g2
   refine sh fol ((6,vl encS l)::(kAQ (l.length:Int) a [(9,.bool (decide (a<(l.length:Int))))])) ?_
   refine sq ?_
   refine ihD g2 (fun j g2=>?_) (fun j g2=>?_)
   ·refine Goes.skip ?_
    refine sq (Goes.block ?_)
    obtain⟨g,b,g2⟩:=bnd g2
    refine sq (gr fol [0,1] ((4,.str g)::(6,vl encS l)::(kAQ (l.length:Int) a [])) (ac (iv sl73 encS b) (ac (lv 0 ce22 encS b rfl) az)) ?_)
    obtain⟨c,d,g2⟩:=bnd g2
    refine sq (gr fol [1] ((5,.i c)::(6,vl encS l)::(kAQ (l.length:Int) a [])) (ac (cv (qd1 N g d)) az) ?_)
    refine sh fol ((5,.i c)::(6,vl encS l)::(kAQ (l.length:Int) a (kBN (!decide (c=0))))) ?_
    refine ihB g2 (fun k g2=>?_) (fun k g2=>?_)
    ·refine sh fol (kBF c) ?_
     refine Goes.ret ?_
     obtain rfl:=si g2
     exact Or.inr (⟨rfl,_,rfl,(gw2 [.i c] (Ua tI))⟩)
    refine Goes.skip ?_
    refine gh fol ((6,vl encS l)::(kAQ (l.length:Int) (w64 (a+1)) [])) ?_
    exact⟨M,(ofG 18 ((6,vl encS l)::(kAQ (l.length:Int) (w64 (a+1)) [])),[]),Nat.lt_succ_self _,(Sub.refl _),_,rfl,g2⟩
   refine Goes.exit ?_
   obtain rfl:=si g2
   exact Or.inl (⟨rfl,rfl,(Sub.keep [] rfl rfl)⟩)
 rintro x s' (⟨rfl,rfl,hsub⟩|⟨rfl,n,rfl,hret⟩)
 ·try dsimp only at h
  refine Goes.sub hsub ?_
  refine sh fol [(2,.i 0)] ?_
  refine Goes.ret ?_
  obtain rfl:=si h
  exact(gw2 [.i 0] (Ua tI))
 try dsimp only at h
 obtain rfl:=si h
 exact hret
def vQ (N:Nat) (a:kK):Option Int:=
 (xG N ([a.Low,a.High]:List Str)).bind fun b=>
 if(!decide (b=0))=true then
 some b
 else
 (yQ N a.Low).bind fun c=>
 (yQ N a.High).bind fun d=>
 (yC N c d).bind fun e=>
 (ku (decide (e>0)) 11).bind fun f=>
 some f
theorem qbT (N:Nat) (a:kK) {res:Int} (h:vQ N a=some res):qb ZT (.fn 52) [.agg (kAO a.Low a.High)] [] (.i res) []:=by
 unfold vQ at h
 refine Ub Tryz.func52 rfl rfl (m:=22) rfl (rs:=[.tmp 2]) rfl (l:=[(0,.agg [.str a.Low,.str a.High])]) rfl ?_
 refine sg fol (kAp []) (kQ a.Low a.High []) ?_
 refine sq ?_
 obtain⟨b,c,h⟩:=bnd h
 refine sq (gq fol [5] (kAp (kBU b)) (kQ a.Low a.High (kQ a.Low a.High [])) (ac (hs (.call 114 [.slice 1 0 2 2 1] (kQ a.Low a.High (kQ a.Low a.High [])) [1] [vl encS ([a.Low,a.High]:List Str)] (.i b)) (qdG (FzL.cons (Fz.lit rfl rfl (Ue (AllST.cons tS (AllST.cons tS AllST.nil)))) FzL.nil) (qfi N ([a.Low,a.High]:List Str) c) tI rfl)) az) ?_)
 refine sh fol (kAp [(3,.i b),(11,.bool (!decide (b=0)))]) ?_
 refine ihB h (fun k h=>?_) (fun k h=>?_)
 ·refine sh fol (kBF b) ?_
  refine Goes.ret ?_
  obtain rfl:=si h
  exact(gw2 [.i b] (Ua tI))
 refine Goes.skip ?_
 obtain⟨n,d,h⟩:=bnd h
 obtain⟨o,e,h⟩:=bnd h
 obtain⟨p,f,h⟩:=bnd h
 obtain⟨j,g,h⟩:=bnd h
 refine sq (gr fol [2,5,6,8] (kBF j) (ac (cv (qaj N a.Low d)) (ac (cv (qaj N a.High e)) (ac (cv (qbQ N n o f)) (ac (cv (y7 (decide (p>0)) 11 g)) az)))) ?_)
 refine Goes.ret ?_
 obtain rfl:=si h
 exact(gw2 [.i j] (Ua tI))
def jP (N:Nat) (a:kK) (b:kK):Option (Int×Int):=
 (vQ N a).bind fun i=>
 (vQ N b).bind fun j=>
 (vE N ([i,j]:List Int)).bind fun h=>
 if(!decide (h=0))=true then
 some (0,h)
 else
 (if((a.Low==b.Low)&&((a.High==b.High)&&true))=true then
 some (a.Low==a.High)
 else
 some false:Option Bool).bind fun k=>
 if k=true then
 some (0,0)
 else
 (yQ N a.High).bind fun l=>
 (yQ N b.Low).bind fun c=>
 (yC N l c).bind fun d=>
 if d<0 then
 some ((-1),0)
 else
 (yQ N b.High).bind fun e=>
 (yQ N a.Low).bind fun f=>
 (yC N e f).bind fun g=>
 if g<0 then
 some (1,0)
 else
 some (0,24)
theorem qfR (N:Nat) (a:kK) (b:kK) {res:Int×Int} (h:jP N a b=some res):qb ZT (.fn 7) (kV a.Low a.High (kV b.Low b.High [])) [] (.tuple [.i res.1,.i res.2]) []:=by
 unfold jP at h
 refine Ub Tryz.func7 rfl rfl (m:=45) rfl (rs:=[.tmp 4,.tmp 5]) rfl (l:=(kAG a.Low a.High b.Low b.High [])) rfl ?_
 refine sg fol (kO (kAV [])) (kB a.Low a.High b.Low b.High []) ?_
 refine sq ?_
 obtain⟨o,p,h⟩:=bnd h
 obtain⟨q,r,h⟩:=bnd h
 obtain⟨n,s,h⟩:=bnd h
 refine sq (gq fol [1,3,5] (kO (kAV [(6,.i n)])) (kB a.Low a.High b.Low b.High (kAt o q)) (ac (cv (qbT N a p)) (ac (cv (qbT N b r)) (ac (hs (.call 51 [.slice 2 0 2 2 1] (kB a.Low a.High b.Low b.High (kAt o q)) [2] [vl encI ([o,q]:List Int)] (.i n)) (qdG (FzL.cons (Fz.lit rfl rfl (Ue (AllST.cons tI (AllST.cons tI AllST.nil)))) FzL.nil) (qbN N ([o,q]:List Int) s) tI rfl)) az))) ?_)
 refine sh fol (kO (kAV [(6,.i n),(14,.bool (!decide (n=0)))])) ?_
 refine ihB h (fun C h=>?_) (fun C h=>?_)
 ·refine sh fol ((4,.i 0)::(kBG n)) ?_
  refine Goes.ret ?_
  obtain rfl:=si h
  exact(gw2 [.i 0,.i n] (FzW.tuple (qc.cons (Ua tI) (qc.cons (Ua tI) qc.nil))))
 refine Goes.skip ?_
 refine sq (Goes.block ?_)
 refine sq ?_
 obtain⟨D,c,h⟩:=bnd h
 refine Goes.cut (s':=(ofG 45 (kO (kAV [(16,.bool D)])),(kB a.Low a.High b.Low b.High (kAt o q)))) ?_ ?_
 ·rcases wyB c with⟨u,c⟩|⟨u,c⟩
  ·obtain rfl:=si c
   exact tr fol [2,3] (kO (kAV [(16,.bool (a.Low==a.High))])) (ac (hs (.done (.opt (qR ZT .eql 24 (.tmp 17) (.tmp 18) (.agg (kAO a.Low a.High)) (.agg (kAO b.Low b.High)))) (.bool ((a.Low==b.Low)&&((a.High==b.High)&&true)))) (qiY qiF (e:=((a.Low==b.Low)&&((a.High==b.High)&&true))) (.cons (a:= .str a.Low) (b:= .str b.Low) rfl (by kernel_rfl) (by kernel_rfl) (by kernel_rfl) (.cons (a:= .str a.High) (b:= .str b.High) rfl (by kernel_rfl) (by kernel_rfl) (by kernel_rfl) .nil)))) (ac (gw u) az))
  obtain rfl:=si c
  exact tr fol [2,3] (kO (kAV [(16,.bool false)])) (ac (hs (.done (.opt (qR ZT .eql 24 (.tmp 17) (.tmp 18) (.agg (kAO a.Low a.High)) (.agg (kAO b.Low b.High)))) (.bool ((a.Low==b.Low)&&((a.High==b.High)&&true)))) (qiY qiF (e:=((a.Low==b.Low)&&((a.High==b.High)&&true))) (.cons (a:= .str a.Low) (b:= .str b.Low) rfl (by kernel_rfl) (by kernel_rfl) (by kernel_rfl) (.cons (a:= .str a.High) (b:= .str b.High) rfl (by kernel_rfl) (by kernel_rfl) (by kernel_rfl) .nil)))) (ac (gw u) az))
 refine ihB h (fun E h=>?_) (fun E h=>?_)
 ·refine sh fol [(4,.i 0),(5,.i 0)] ?_
  refine Goes.ret ?_
  obtain rfl:=si h
  exact(gw2 [.i 0,.i 0] (FzW.tuple (qc.cons (Ua tI) (qc.cons (Ua tI) qc.nil))))
 obtain⟨F,t,h⟩:=bnd h
 obtain⟨v,d,h⟩:=bnd h
 obtain⟨w,f,h⟩:=bnd h
 refine sq (gr fol [2,5,6] (kO (kAV [(27,.bool (decide (w<0)))])) (ac (cv (qaj N a.High t)) (ac (cv (qaj N b.Low d)) (ac (cv (qbQ N F v f)) az))) ?_)
 refine ihD h (fun x h=>?_) (fun x h=>?_)
 ·refine sh fol [(4,.i (-1)),(5,.i 0)] ?_
  refine Goes.ret ?_
  obtain rfl:=si h
  exact(gw2 [.i (-1),.i 0] (FzW.tuple (qc.cons (Ua tI) (qc.cons (Ua tI) qc.nil))))
 obtain⟨y,g,h⟩:=bnd h
 obtain⟨z,j,h⟩:=bnd h
 obtain⟨A,k,h⟩:=bnd h
 refine sq (gr fol [2,5,6] [(36,.bool (decide (A<0)))] (ac (cv (qaj N b.High g)) (ac (cv (qaj N a.Low j)) (ac (cv (qbQ N y z k)) az))) ?_)
 refine ihD h (fun B h=>?_) (fun B h=>?_)
 ·refine sh fol [(4,.i 1),(5,.i 0)] ?_
  refine Goes.ret ?_
  obtain rfl:=si h
  exact(gw2 [.i 1,.i 0] (FzW.tuple (qc.cons (Ua tI) (qc.cons (Ua tI) qc.nil))))
 refine Goes.skip ?_
 refine sh fol [(4,.i 0),(5,.i 24)] ?_
 refine Goes.ret ?_
 obtain rfl:=si h
 exact(gw2 [.i 0,.i 24] (FzW.tuple (qc.cons (Ua tI) (qc.cons (Ua tI) qc.nil))))
def xK (a:qY):Option Int:=
 (qV a.Num).bind fun b=>
 some b
theorem qdf (a:qY) {res:Int} (h:xK a=some res):qb ZT (.fn 56) [.agg (nq1 a)] [] (.i res) []:=by
 unfold xK at h
 refine Ub Tryz.func56 rfl rfl (m:=6) rfl (rs:=[.tmp 2]) rfl (l:=[(0,.agg (nq1 a))]) rfl ?_
 refine sg fol (kAp []) [.cells (nq1 a)] ?_
 obtain⟨c,b,h⟩:=bnd h
 refine sq (gr fol [2] (kBF c) (ac (cv (jZ a.Num b)) az) ?_)
 refine Goes.ret ?_
 obtain rfl:=si h
 exact(gw2 [.i c] (Ua tI))
def yA (a:qj):Option Int:=
 (qD a).bind fun b=>
 if(b.2.length:Int)=0 then
 some 0
 else
 (idx b.2 (w64 ((b.2.length:Int)-1))).bind fun c=>
 (bits_Len64 c).bind fun d=>
 some (w64 ((w64 (64*(w64 ((b.2.length:Int)-1))))+d))
theorem qbM (a:qj) {res:Int} (h:yA a=some res):qb ZT (.fn 128) [.agg (nz1 a)] [] (.i res) []:=by
 unfold yA at h
 refine Ub Tryz.func128 rfl rfl (m:=25) rfl (rs:=[.tmp 2]) rfl (l:=[(0,.agg (nz1 a))]) rfl ?_
 refine sg fol (kAp []) [.cells (nz1 a)] ?_
 obtain⟨c,d,h⟩:=bnd h
 refine sq (gr fol [1] [(4,vl (qa .u64) c.2)] (ac (cv (zD a d)) az) ?_)
 refine sq ?_
 refine sh fol ((4,vl (qa .u64) c.2)::(kBE (decide ((c.2.length:Int)=0)))) ?_
 refine ihD h (fun g h=>?_) (fun g h=>?_)
 ·refine sh fol [(2,.i 0)] ?_
  refine Goes.ret ?_
  obtain rfl:=si h
  exact(gw2 [.i 0] (Ua tI))
 refine Goes.skip ?_
 obtain⟨j,b,h⟩:=bnd h
 obtain⟨f,e,h⟩:=bnd h
 refine sq (gr fol [8,9,10] (kBF (w64 ((w64 (64*(w64 ((c.2.length:Int)-1))))+f))) (ac (iv zH (qa .u64) b) (ac (lv 0 zP (qa .u64) b rfl) (ac (cv (qeT j e)) az))) ?_)
 refine Goes.ret ?_
 obtain rfl:=si h
 exact(gw2 [.i (w64 ((w64 (64*(w64 ((c.2.length:Int)-1))))+f))] (Ua tI))
def j6 (N:Nat) (a:qj):Nat->Int->(List Int)->Option qj
 |0,_,_=>none
 |K+1,c,d=>
  (kg N a (⟨c,d⟩:qj)).bind fun e=>
  (jl N (⟨c,d⟩:qj) e.1).bind fun f=>
  (qad 2).bind fun g=>
  (kg N f g).bind fun b=>
  (vG N b.1 (⟨c,d⟩:qj)).bind fun h=>
  if h>=0 then
  some (⟨c,d⟩:qj)
  else
  j6 N a K b.1.s b.1.w
def xD (N:Nat) (a:qj):Option qj:=
 (qV a).bind fun d=>
 if d=0 then
 some a
 else
 (qad 2).bind fun e=>
 (yA a).bind fun f=>
 (qaY N e (w64 ((w64 (f+1)).tdiv 2))).bind fun c=>
 (j6 N a N c.s c.w).bind fun b=>
 some b
theorem qbP (N:Nat) (a:qj) {res:qj} (h:xD N a=some res):qb ZT (.fn 62) [.agg (nz1 a)] [] (.agg (nz1 res)) []:=by
 unfold xD at h
 refine Ub Tryz.func62 rfl rfl (m:=38) rfl (rs:=[.cell 2 85]) rfl (l:=[(0,.agg (nz1 a))]) rfl ?_
 refine sg fol (kAB []) [.cells (nz1 a),bZ] ?_
 refine sq ?_
 obtain⟨B,o,h⟩:=bnd h
 refine sq (gr fol [1] (kAB (kBP (decide (B=0)))) (ac (cv (jZ a o)) az) ?_)
 refine ihD h (fun C h=>?_) (fun C h=>?_)
 ·refine sq (gq fol [1] kBW [.cells (nz1 a),.cells (nz1 a)] (ac (hs (.run [1] (qm ZT 85 (.ptr 1 0) (.agg (nz1 a))) [.cells (nz1 a),bZ] .undef [.cells (nz1 a),.cells (nz1 a)] true) (qK (n:=2) (by kernel_rfl) rfl rfl rfl rfl (cac rfl (cac nvc can)) rfl)) az) ?_)
  refine Goes.ret ?_
  obtain rfl:=si h
  exact(gw2 [.agg (nz1 a)] (FzW.agg (qc.cons (Ua tI) (qc.cons (Ua (qA (qa .u64) _ (nl rfl))) qc.nil))))
 refine Goes.skip ?_
 obtain⟨D,p,h⟩:=bnd h
 obtain⟨E,q,h⟩:=bnd h
 obtain⟨t,r,h⟩:=bnd h
 refine sq (gq fol [0,2,5,7] (kAB [(3,.ptr 2 0)]) [.cells (nz1 a),bZ,.cells (nz1 t)] (ac (cv (vP 2 p)) (ac (cv (qbM a q)) (ac (cv (qew N D (w64 ((w64 (E+1)).tdiv 2)) r)) (ac (hs (.run [2] (qm ZT 85 (.ptr 2 0) (.agg (nz1 t))) [.cells (nz1 a),bZ,bZ] .undef [.cells (nz1 a),bZ,.cells (nz1 t)] true) (qK (n:=2) (by kernel_rfl) rfl rfl rfl rfl (cac rfl (cac nvc can)) rfl)) az)))) ?_)
 refine Goes.block ?_
 obtain⟨z,g8,h⟩:=bnd h
 refine Goes.imp (Q:=fun x s'=>(x= .ret/\ ∃A,A=z/\jy ZT [.cell 2 85] (.agg (nz1 A)) .ret s')) ?_ ?_
 ·refine Uc (fun M s=> ∃(d:Int) (e:List Int),s=(ofG 38 (kAB [(3,.ptr 2 0)]),[.cells (nz1 a),bZ,.cells (ni1 d e)])/\j6 N a M d e=some z) ?_ (m:=N) ⟨_,_,rfl,g8⟩
  rintro M s ⟨d,e,rfl,g8⟩
  cases M with
  |zero=>simp only[j6]at g8;cases g8
  |succ M=>
   rw[j6]at g8
   refine Goes.block ?_
   obtain⟨b,f,g8⟩:=bnd g8
   refine sq (gq fol [2,8,9] (kAB [(3,.ptr 2 0),(4,.ptr 3 0)]) [.cells (nz1 a),bZ,.cells (ni1 d e),.cells (nz1 b.1),.cells (nz1 b.2)] (ac (cv (yz N a (⟨d,e⟩:qj) f)) (ac (hs (.run [3] (qm ZT 85 (.ptr 3 0) (.agg (nz1 b.1))) [.cells (nz1 a),bZ,.cells (ni1 d e),bZ,bZ] .undef [.cells (nz1 a),bZ,.cells (ni1 d e),.cells (nz1 b.1),bZ] true) (qK (n:=2) (by kernel_rfl) rfl rfl rfl rfl (cac rfl (cac nvc can)) rfl)) (ac (hs (.run [4] (qm ZT 85 (.ptr 4 0) (.agg (nz1 b.2))) [.cells (nz1 a),bZ,.cells (ni1 d e),.cells (nz1 b.1),bZ] .undef [.cells (nz1 a),bZ,.cells (ni1 d e),.cells (nz1 b.1),.cells (nz1 b.2)] true) (qK (n:=2) (by kernel_rfl) rfl rfl rfl rfl (cac rfl (cac nvc can)) rfl)) az))) ?_)
   obtain⟨u,g,g8⟩:=bnd g8
   obtain⟨v,i,g8⟩:=bnd g8
   obtain⟨c,j,g8⟩:=bnd g8
   refine sq (gq fol [2,3,4,10,11] (kAB [(3,.ptr 2 0),(6,.ptr 5 0)]) [.cells (nz1 a),bZ,.cells (ni1 d e),.cells (nz1 b.1),.cells (nz1 b.2),.cells (nz1 c.1),.cells (nz1 c.2)] (ac (cv (yO N (⟨d,e⟩:qj) b.1 g)) (ac (cv (vP 2 i)) (ac (cv (yz N u v j)) (ac (hs (.run [5] (qm ZT 85 (.ptr 5 0) (.agg (nz1 c.1))) [.cells (nz1 a),bZ,.cells (ni1 d e),.cells (nz1 b.1),.cells (nz1 b.2),bZ,bZ] .undef [.cells (nz1 a),bZ,.cells (ni1 d e),.cells (nz1 b.1),.cells (nz1 b.2),.cells (nz1 c.1),bZ] true) (qK (n:=2) (by kernel_rfl) rfl rfl rfl rfl (cac rfl (cac nvc can)) rfl)) (ac (hs (.run [6] (qm ZT 85 (.ptr 6 0) (.agg (nz1 c.2))) [.cells (nz1 a),bZ,.cells (ni1 d e),.cells (nz1 b.1),.cells (nz1 b.2),.cells (nz1 c.1),bZ] .undef [.cells (nz1 a),bZ,.cells (ni1 d e),.cells (nz1 b.1),.cells (nz1 b.2),.cells (nz1 c.1),.cells (nz1 c.2)] true) (qK (n:=2) (by kernel_rfl) rfl rfl rfl rfl (cac rfl (cac nvc can)) rfl)) az))))) ?_)
   refine sq ?_
   obtain⟨w,k,g8⟩:=bnd g8
   refine sq (gr fol [2] (kAB [(3,.ptr 2 0),(6,.ptr 5 0),(35,.bool (decide (w>=0)))]) (ac (cv (yX N c.1 (⟨d,e⟩:qj) k)) az) ?_)
   refine ihD g8 (fun y g8=>?_) (fun y g8=>?_)
   ·refine sq (gq fol [1] kBW [.cells (nz1 a),.cells (ni1 d e),.cells (ni1 d e),.cells (nz1 b.1),.cells (nz1 b.2),.cells (nz1 c.1),.cells (nz1 c.2)] (ac (hs (.run [1] (qm ZT 85 (.ptr 1 0) (.agg (ni1 d e))) [.cells (nz1 a),bZ,.cells (ni1 d e),.cells (nz1 b.1),.cells (nz1 b.2),.cells (nz1 c.1),.cells (nz1 c.2)] .undef [.cells (nz1 a),.cells (ni1 d e),.cells (ni1 d e),.cells (nz1 b.1),.cells (nz1 b.2),.cells (nz1 c.1),.cells (nz1 c.2)] true) (qK (n:=2) (by kernel_rfl) rfl rfl rfl rfl (cac rfl (cac nvc can)) rfl)) az) ?_)
    refine Goes.ret ?_
    obtain rfl:=si g8
    exact⟨rfl,_,rfl,(gw2 [.agg (ni1 d e)] (FzW.agg (qc.cons (Ua tI) (qc.cons (Ua (qA (qa .u64) _ (nl rfl))) qc.nil))))⟩
   refine Goes.skip ?_
   refine gq fol [1] (kAB [(3,.ptr 2 0)]) [.cells (nz1 a),bZ,.cells (nz1 c.1),.cells (nz1 b.1),.cells (nz1 b.2),.cells (nz1 c.1),.cells (nz1 c.2)] (ac (hs (.run [2] (qm ZT 85 (.ptr 2 0) (.agg (nz1 c.1))) [.cells (nz1 a),bZ,.cells (ni1 d e),.cells (nz1 b.1),.cells (nz1 b.2),.cells (nz1 c.1),.cells (nz1 c.2)] .undef [.cells (nz1 a),bZ,.cells (nz1 c.1),.cells (nz1 b.1),.cells (nz1 b.2),.cells (nz1 c.1),.cells (nz1 c.2)] true) (qK (n:=2) (by kernel_rfl) rfl rfl rfl rfl (cac rfl (cac nvc can)) rfl)) az) ?_
   exact⟨M,(ofG 38 (kAB [(3,.ptr 2 0)]),[.cells (nz1 a),bZ,.cells (nz1 c.1)]),Nat.lt_succ_self _,(Sub.norm [] [some 0,some 1,some 2] rfl rfl (.kp (.kp (.kp .nil))) (.kb rfl (.same sn) (.kb rfl (.same sn) (.kb rfl (.same sn) .nil)))),_,_,rfl,g8⟩
 rintro x s' ⟨rfl,F,rfl,hret⟩
 obtain rfl:=si h
 exact hret
def qaI (N:Nat) (a:qY):Option (qY×Bool):=
 (xK a).bind fun e=>
 if e<0 then
 some ((⟨(⟨0,[]⟩:qj),(⟨0,[]⟩:qj)⟩:qY),false)
 else
 (xD N a.Num).bind fun b=>
 (xD N a.Den).bind fun c=>
 ((qQ N b b).bind fun f=>
 (vG N f a.Num).bind fun g=>
 if g=0 then
 (qQ N c c).bind fun h=>
 (vG N h a.Den).bind fun i=>
 some (decide (i=0))
 else
 some false:Option Bool).bind fun d=>
 some ((⟨b,c⟩:qY),d)
theorem qgc (N:Nat) (a:qY) {res:qY×Bool} (h:qaI N a=some res):qb ZT (.fn 57) [.agg (nq1 a)] [] (.tuple [.agg (nq1 res.1),.bool res.2]) []:=by
 unfold qaI at h
 refine Ub Tryz.func57 rfl rfl (m:=35) rfl (rs:=[.cell 2 87,.tmp 3]) rfl (l:=[(0,.agg (nq1 a))]) rfl ?_
 refine sg fol (kAB []) (.cells (nq1 a)::(kE [])) ?_
 refine sq ?_
 obtain⟨u,g,h⟩:=bnd h
 refine sq (gr fol [1] (kAB (kAw (decide (u<0)))) (ac (cv (qdf a g)) az) ?_)
 refine ihD h (fun v h=>?_) (fun v h=>?_)
 ·refine sh fol [(2,.ptr 1 0),(3,.bool false)] ?_
  refine Goes.ret ?_
  obtain rfl:=si h
  exact(gw2 [.agg [.i 0,.nilslice,.i 0,.nilslice],.bool false] (FzW.tuple (qc.cons (FzW.agg (qc.cons (Ua tI) (qc.cons (FzW.nv0 (E:=(qa .u64))) (qc.cons (Ua tI) (qc.cons (FzW.nv0 (E:=(qa .u64))) qc.nil))))) (qc.cons (Ua tB) qc.nil))))
 refine Goes.skip ?_
 obtain⟨c,j,h⟩:=bnd h
 obtain⟨d,k,h⟩:=bnd h
 refine sq (gq fol [2,5,8,9] (kAB (kAR (kBI []))) (.cells (nq1 a)::(kE [.cells (nz1 c),.cells (nz1 d)])) (ac (cv (qbP N a.Num j)) (ac (cv (qbP N a.Den k)) (ac (hs (.run [2] (qm ZT 85 (.ptr 2 0) (.agg (nz1 c))) (.cells (nq1 a)::(kE [bZ,bZ])) .undef (.cells (nq1 a)::(kE [.cells (nz1 c),bZ])) true) (qK (n:=2) (by kernel_rfl) rfl rfl rfl rfl (cac rfl (cac nvc can)) rfl)) (ac (hs (.run [3] (qm ZT 85 (.ptr 3 0) (.agg (nz1 d))) (.cells (nq1 a)::(kE [.cells (nz1 c),bZ])) .undef (.cells (nq1 a)::(kE [.cells (nz1 c),.cells (nz1 d)])) true) (qK (n:=2) (by kernel_rfl) rfl rfl rfl rfl (cac rfl (cac nvc can)) rfl)) az)))) ?_)
 refine sq ?_
 obtain⟨o,b,h⟩:=bnd h
 refine Goes.cut (s':=(ofG 35 ((2,.ptr 1 0)::(kBQ o [])),[.cells (nq1 a),.cells (ni2 c.s c.w d.s d.w),.cells (nz1 c),.cells (nz1 d)])) ?_ ?_
 ·obtain⟨t,e,b⟩:=bnd b
  obtain⟨z,f,b⟩:=bnd b
  rcases wyD b with⟨r,b⟩|⟨r,b⟩
  ·obtain⟨x,p,b⟩:=bnd b
   obtain⟨y,q,b⟩:=bnd b
   obtain rfl:=si b
   exact yL.rq fol [5,8,10,13,16,19] ((2,.ptr 1 0)::(kBQ (decide (y=0)) [])) [.cells (nq1 a),.cells (ni2 c.s c.w d.s d.w),.cells (nz1 c),.cells (nz1 d)] (ac (cv (zO N c c e)) (ac (cv (yX N t a.Num f)) (ac (gw r) (ac (cv (zO N d d p)) (ac (cv (yX N x a.Den q)) (ac (hs (.run [1] (qm ZT 87 (.ptr 1 0) (.agg (ni2 c.s c.w d.s d.w))) (.cells (nq1 a)::(kE [.cells (nz1 c),.cells (nz1 d)])) .undef [.cells (nq1 a),.cells (ni2 c.s c.w d.s d.w),.cells (nz1 c),.cells (nz1 d)] true) (qK (n:=4) (by kernel_rfl) rfl rfl rfl rfl (cac rfl (cac nvc (cac rfl (cac nvc can)))) rfl)) az))))))
  obtain rfl:=si b
  exact yL.rq fol [5,8,10,19] [(2,.ptr 1 0),(3,.bool false)] [.cells (nq1 a),.cells (ni2 c.s c.w d.s d.w),.cells (nz1 c),.cells (nz1 d)] (ac (cv (zO N c c e)) (ac (cv (yX N t a.Num f)) (ac (gw r) (ac (hs (.run [1] (qm ZT 87 (.ptr 1 0) (.agg (ni2 c.s c.w d.s d.w))) (.cells (nq1 a)::(kE [.cells (nz1 c),.cells (nz1 d)])) .undef [.cells (nq1 a),.cells (ni2 c.s c.w d.s d.w),.cells (nz1 c),.cells (nz1 d)] true) (qK (n:=4) (by kernel_rfl) rfl rfl rfl rfl (cac rfl (cac nvc (cac rfl (cac nvc can)))) rfl)) az))))
 refine Goes.ret ?_
 obtain rfl:=si h
 exact(gw2 [.agg (ni2 c.s c.w d.s d.w),.bool o] (FzW.tuple (qc.cons (FzW.agg (qc.cons (Ua tI) (qc.cons (Ua (qA (qa .u64) _ (nl rfl))) (qc.cons (Ua tI) (qc.cons (Ua (qA (qa .u64) _ (nl rfl))) qc.nil))))) (qc.cons (Ua tB) qc.nil))))
def jg (N:Nat):Nat->(List Str)->(List Int)->Option (List Str)
 |0,_,_=>none
 |K+1,i,j=>
  if(j.length:Int)>0 then
  (qaP N j ([1000000000000000000]:List Int)).bind fun b=>
  ((if(b.2.length:Int)>0 then
  (idx b.2 0).bind fun c=>
  (qht c 10).bind fun d=>
  some d
  else
  some [48]:Option Str)).bind fun a=>
  ((if(b.1.length:Int)>0 then
  (qbW [48] (w64 (18-(a.length:Int)))).bind fun e=>
  (cat e a).bind fun f=>
  some f
  else
  some a:Option Str)).bind fun g=>
  (app 16 i [g]).bind fun h=>
  jg N K h b.1
  else
  some i
def zn (e:List Str):Nat->Bool->(Option (List Int))->Int->Option (Bool×(Option (List Int)))
 |0,_,_,_=>none
 |K+1,ok27,b,a=>
  if a>=0 then
  (idx e a).bind fun c=>
  (bWr ok27 b c).bind fun d=>
  zn e K true (some d) (w64 (a-1))
  else
  some (ok27,b)
def jS (N:Nat) (a:qj):Option Str:=
 if a.w.isEmpty=true then
 (qlN a.s).bind fun h=>
 some h
 else
 (qD a).bind fun f=>
 (jg N N ([]:List Str) f.2).bind fun g=>
 ((if f.1=true then
 (bWr false (none:Option (List Int)) [45]).bind fun b=>
 some (true,(some b))
 else
 some (false,(none:Option (List Int))):Option (Bool×(Option (List Int))))).bind fun(ok21,c)=>
 (zn g N ok21 c (w64 ((g.length:Int)-1))).bind fun(ok30,d)=>
 (qmP ok30 d).bind fun e=>
 some e
theorem xR (N:Nat) (a:qj) {res:Str} (h:jS N a=some res):qb ZT (.fn 184) [.agg (nz1 a)] [] (.str res) []:=by
 unfold jS at h
 refine Ub Tryz.func184 rfl rfl (m:=69) rfl (rs:=[.tmp 2]) rfl (l:=[(0,.agg (nz1 a))]) rfl ?_
 refine sg fol (kAp []) [.cells (nz1 a)] ?_
 refine sq ?_
 refine sq (gr fol [2] (kAp [(14,.bool a.w.isEmpty)]) (ac (hs (.done (.opt (qR ZT .eql 83 (.tmp 13) (.const (.slice none 0 0)) (nvl (qa .u64) a.w) .nilslice)) (.bool a.w.isEmpty)) (qaL qaF)) az) ?_)
 refine ihB h (fun c1 h=>?_) (fun c1 h=>?_)
 ·obtain⟨r2,J,h⟩:=bnd h
  refine sq (gr fol [2] (kBJ r2) (ac (cv (qoh a.s J)) az) ?_)
  refine Goes.ret ?_
  obtain rfl:=si h
  exact(gw2 [.str r2] (Ua tS))
 refine Goes.skip ?_
 obtain⟨d,K,h⟩:=bnd h
 refine sq (gr fol [1] (kBQ d.1 [(4,vl (qa .u64) d.2)]) (ac (cv (zD a K)) az) ?_)
 refine sg fol (kBQ d.1 [(4,vl (qa .u64) d.2),(5,.slice 1 0 1 1 1)]) [.cells (nz1 a),.cells [.int .u64 1000000000000000000]] ?_
 refine sh fol (kBQ d.1 [(4,vl (qa .u64) d.2),(5,.slice 1 0 1 1 1),(6,.nilslice)]) ?_
 refine sq (Goes.block ?_)
 obtain⟨r7,g7,h⟩:=bnd h
 refine Goes.imp (Q:=fun x s'=>(x= .exit 0/\ ∃b,b=r7/\Sub s' (ofG 69 (kBQ d.1 (kAI b [])),(kAK b [])))) ?_ ?_
 ·refine Goes.sub (s':=(ofG 69 (kBQ d.1 [(4,vl (qa .u64) d.2),(5,vl (qa .u64) ([1000000000000000000]:List Int)),(6,.gslice 0 ([]:List Str).length 1)]),[.cells (([]:List Str).flatMap encS.c)])) (Sub.norm [1] [none] rfl rfl (.keep (.same nB) (.keep (.same (qf (qa .u64) _)) (.keep (.frz (Fz.lit rfl rfl (Ue (AllST.cons tI AllST.nil))) (qf (qa .u64) _)) (.keep .nil .nil)))) (.fresh .nil)) ?_
  refine Uc (fun M s=> ∃(g:List Str) (I:List Int),s=(ofG 69 (kBQ d.1 ((4,vl (qa .u64) I)::(5,vl (qa .u64) ([1000000000000000000]:List Int))::(kAI g []))),(kAK g []))/\jg N M g I=some r7) ?_ (m:=N) ⟨_,_,rfl,g7⟩
  rintro M s ⟨g,I,rfl,g7⟩
  cases M with
  |zero=>simp only[jg]at g7;cases g7
  |succ M=>
   rw[jg]at g7
   refine sq ?_
   refine sh fol (kBQ d.1 ((4,vl (qa .u64) I)::(5,vl (qa .u64) ([1000000000000000000]:List Int))::(kAI g [(26,.bool (decide ((I.length:Int)>0)))]))) ?_
   refine ihD g7 (fun c8 g7=>?_) (fun c8 g7=>?_)
   ·refine Goes.skip ?_
    refine Goes.block ?_
    obtain⟨j,L,g7⟩:=bnd g7
    refine sq (gr fol [2] (kBQ d.1 ((5,vl (qa .u64) ([1000000000000000000]:List Int))::(kAI g [(7,vl (qa .u64) j.1),(8,vl (qa .u64) j.2)]))) (ac (cv (qeW N I ([1000000000000000000]:List Int) L)) az) ?_)
    refine sh fol (kBQ d.1 ((5,vl (qa .u64) ([1000000000000000000]:List Int))::(kAI g [(7,vl (qa .u64) j.1),(8,vl (qa .u64) j.2),(9,.str [48])]))) ?_
    refine sq ?_
    refine sh fol (kBQ d.1 ((5,vl (qa .u64) ([1000000000000000000]:List Int))::(kAI g [(7,vl (qa .u64) j.1),(8,vl (qa .u64) j.2),(9,.str [48]),(35,.bool (decide ((j.2.length:Int)>0)))]))) ?_
    obtain⟨U,g11,g7⟩:=bnd g7
    refine Goes.imp (Q:=fun x s'=>(x= .normal/\ ∃p,p=U/\Sub s' (ofG 69 (kBQ d.1 ((5,vl (qa .u64) ([1000000000000000000]:List Int))::(kAI g [(7,vl (qa .u64) j.1),(9,.str p)]))),(kAK g [])))) ?_ ?_
    ·refine ihD g11 (fun V g11=>?_) (fun V g11=>?_)
     ·obtain⟨X,r,g11⟩:=bnd g11
      obtain⟨Y,z,g11⟩:=bnd g11
      refine gr fol [1,2,3] (kBQ d.1 ((5,vl (qa .u64) ([1000000000000000000]:List Int))::(kAI g [(7,vl (qa .u64) j.1),(9,.str Y)]))) (ac (iv zH (qa .u64) r) (ac (lv 0 zP (qa .u64) r rfl) (ac (cv (qoD X 10 z)) az))) ?_
      obtain rfl:=si g11
      exact⟨rfl,_,rfl,(Sub.refl _)⟩
     refine Goes.skip ?_
     obtain rfl:=si g11
     exact⟨rfl,_,rfl,(Sub.keep [3,5,6,7,9] rfl rfl)⟩
    rintro x s' ⟨rfl,p,rfl,hsub⟩
    refine Goes.sub hsub ?_
    refine sq ?_
    refine sh fol (kBQ d.1 ((5,vl (qa .u64) ([1000000000000000000]:List Int))::(kAI g [(7,vl (qa .u64) j.1),(9,.str p),(42,.bool (decide ((j.1.length:Int)>0)))]))) ?_
    obtain⟨Z,g16,g7⟩:=bnd g7
    refine Goes.imp (Q:=fun x s'=>(x= .normal/\ ∃k,k=Z/\Sub s' (ofG 69 (kBQ d.1 ((5,vl (qa .u64) ([1000000000000000000]:List Int))::(kAI g [(7,vl (qa .u64) j.1),(9,.str k)]))),(kAK g [])))) ?_ ?_
    ·refine ihD g16 (fun a0 g16=>?_) (fun a0 g16=>?_)
     ·obtain⟨a1,A,g16⟩:=bnd g16
      obtain⟨O,B,g16⟩:=bnd g16
      refine gr fol [3,5] (kBQ d.1 ((5,vl (qa .u64) ([1000000000000000000]:List Int))::(kAI g [(7,vl (qa .u64) j.1),(9,.str O)]))) (ac (cv (qh9 [48] (w64 (18-(p.length:Int))) A)) (ac (hs (.done (.opt (qR ZT .add 9 (.tmp 46) (.tmp 47) (.str a1) (.str p))) (.str O)) (qax B)) az)) ?_
      obtain rfl:=si g16
      exact⟨rfl,_,rfl,(Sub.refl _)⟩
     refine Goes.skip ?_
     obtain rfl:=si g16
     exact⟨rfl,_,rfl,(Sub.keep [3,5,6,7,9] rfl rfl)⟩
    rintro x s' ⟨rfl,k,rfl,hsub⟩
    refine Goes.sub hsub ?_
    obtain⟨n,C,g7⟩:=bnd g7
    refine sq (gq fol [3] (kBQ d.1 [(5,vl (qa .u64) ([1000000000000000000]:List Int)),(6,.gslice 2 n.length 1),(7,vl (qa .u64) j.1)]) (.dead:: .cells [.str k]::(kAK n [])) (ac (hs (.run [0,1] (xX ZT [231,231] (.gslice 0 g.length 1) (.slice 1 0 1 1 1)) (kAK g [.cells [.str k]]) (.gslice 2 n.length 1) (.dead:: .cells [.str k]::(kAK n [])) true) (qcD qqs (E:=encS) rfl (qhI (E:=encS) (ys:=[k]) rfl rfl rfl rfl) (qiN (E:=encS) (l:=g) rfl rfl rfl C rfl))) az) ?_)
    refine gh fol (kBQ d.1 [(4,vl (qa .u64) j.1),(5,vl (qa .u64) ([1000000000000000000]:List Int)),(6,.gslice 2 n.length 1)]) ?_
    exact⟨M,(ofG 69 (kBQ d.1 ((4,vl (qa .u64) j.1)::(5,vl (qa .u64) ([1000000000000000000]:List Int))::(kAI n []))),(kAK n [])),Nat.lt_succ_self _,(Sub.norm [] [some 2] rfl rfl (.keep (.same nB) (.keep (.same (qf (qa .u64) _)) (.keep (.same (qf (qa .u64) _)) (.keep (.gslice rfl) .nil)))) (.ks .nil)),_,_,rfl,g7⟩
   refine Goes.exit ?_
   obtain rfl:=si g7
   exact⟨rfl,_,rfl,(Sub.keep [3,6] rfl rfl)⟩
 rintro x s' ⟨rfl,b,rfl,hsub⟩
 refine Goes.sub hsub ?_
 refine sg fol (kBQ d.1 (kAI b (kBa []))) (kAK b [.bld 169 5 [.nilptr,.nilslice]]) ?_
 refine sq ?_
 refine sh fol (kAI b (kBa [(54,.bool d.1)])) ?_
 obtain⟨a2,g23,h⟩:=bnd h
 refine Goes.imp (Q:=fun x s'=>(x= .normal/\ ∃ok21 u,(ok21,u)=a2/\Sub s' (ofG 69 (kAI b (kBa [])),(kAK b [.bld 169 5 [pz ok21 1 0,hsl 2 1 u],.cells ((hof u).flatMap (qa .u8).c)])))) ?_ ?_
 ·refine ihB g23 (fun a3 g23=>?_) (fun a3 g23=>?_)
  ·refine Goes.sub (s':=(ofG 69 (kAI b (kBa [(54,.bool d.1)])),(kAK b [.bld 169 5 [pz false 1 0,.nilslice]]))) (Sub.norm [] [some 0,some 1] rfl rfl (.keep (.gslice rfl) (.kp (.keep (.same nB) .nil))) (.ks (.kb rfl (.bld (rc (zZ.pz0) (rc (.same (qC.nilslice)) rn))) .nil))) ?_
   refine Goes.sub (s':=(ofG 69 (kAI b (kBa [(54,.bool d.1)])),(kAK b [.bld 169 5 [pz false 1 0,hsl 2 1 (none:Option (List Int))],.cells ((hof (none:Option (List Int))).flatMap (qa .u8).c)]))) (Sub.norm [] [some 0,some 1,none] rfl rfl (.keep (.gslice rfl) (.kp (.keep (.same nB) .nil))) (.ks (.kb rfl (.bld (rc (zZ.pz0) (rc .hs0 rn))) (.fresh .nil)))) ?_
   obtain⟨v,D,g23⟩:=bnd g23
   refine gq fol [0] (kAI b (kBa [])) (kAK b [.bld 169 5 [pz true 1 0,hsl 3 1 (some v)],.dead,.cells ((hof (some v)).flatMap (qa .u8).c)]) (ac (hs (.callH 141 [.ptr 1 0,.str [45]] (kAK b [.bld 169 5 [pz false 1 0,hsl 2 1 (none:Option (List Int))],.cells ((hof (none:Option (List Int))).flatMap (qa .u8).c)]) [1,2] (.tuple [.i (([45].length:Nat):Int),.niliface]) (kAK b [.bld 169 5 [pz true 1 0,hsl 3 1 (some v)],.dead,.cells ((hof (some v)).flatMap (qa .u8).c)])) (qgi [some 1,some 2] [none,some 0,none,some 2] (qoY false (none:Option (List Int)) [45] D) (.kb rfl (.bld (rc (zZ.pz0) (rc .hs0 rn))) (.ks .nil)) rfl rfl (.old rfl rfl (.back rfl rfl (.bld (rc ((zZ.pz rfl)) (rc (.hs rfl) rn))) rfl (.dead (.new rfl rfl (.same fa) rfl .nil)))) (rc (.ptr rfl) (rc (.same nS) rn)) (.same (qC.tuple sn)) rfl)) az) ?_
   obtain rfl:=si g23
   exact⟨rfl,_,_,rfl,(Sub.norm [] [some 0,some 1,some 3] rfl rfl (.keep (.gslice rfl) (.kp .nil)) (.ks (.kb rfl (.bld (rc ((zZ.pz rfl)) (rc (.hs rfl) rn))) (.ks .nil))))⟩
  refine Goes.skip ?_
  obtain rfl:=si g23
  exact⟨rfl,_,_,rfl,(Sub.norm [] [some 0,some 1,none] rfl rfl (.keep (.gslice rfl) (.kp .nil)) (.ks (.kb rfl (.bld (rc (zZ.pz0) (rc .hs0 rn))) (.fresh .nil))))⟩
 rintro x s' ⟨rfl,ok21,u,rfl,hsub⟩
 try dsimp only at h
 refine Goes.sub hsub ?_
 refine sq ?_
 refine sh fol (kAI b (kBa [(11,.i (w64 ((b.length:Int)-1)))])) ?_
 refine Goes.block ?_
 obtain⟨P,g32,h⟩:=bnd h
 refine Goes.imp (Q:=fun x s'=>(x= .exit 2/\ ∃ok30 o,(ok30,o)=P/\Sub s' (ofG 69 [(10,.ptr 0 0)],[.bld 169 5 [pz ok30 0 0,hsl 1 1 o],.cells ((hof o).flatMap (qa .u8).c)]))) ?_ ?_
 ·refine Uc (fun M s=> ∃(ok27:Bool) (e:Option (List Int)) (f:Int),s=(ofG 69 (kAI b (kBa [(11,.i f)])),(kAK b [.bld 169 5 [pz ok27 1 0,hsl 2 1 e],.cells ((hof e).flatMap (qa .u8).c)]))/\zn b M ok27 e f=some P) ?_ (m:=N) ⟨_,_,_,rfl,g32⟩
  rintro M s ⟨ok27,e,f,rfl,g32⟩
  cases M with
  |zero=>simp only[zn]at g32;cases g32
  |succ M=>
   rw[zn]at g32
   refine sq ?_
   refine sh fol (kAI b (kBa [(11,.i f),(60,.bool (decide (f>=0)))])) ?_
   refine ihD g32 (fun a4 g32=>?_) (fun a4 g32=>?_)
   ·refine Goes.skip ?_
    refine sq (Goes.block ?_)
    obtain⟨y,t,g32⟩:=bnd g32
    obtain⟨q,F,g32⟩:=bnd g32
    refine gq fol [2,3,4] (kAI b (kBa [(11,.i f)])) (kAK b [.bld 169 5 [pz true 1 0,hsl 3 1 (some q)],.dead,.cells ((hof (some q)).flatMap (qa .u8).c)]) (ac (hs (.done (.opt (qh ZT 231 (.gslice 0 b.length 1) (.i f))) (.ptr 0 ((f:Int).toNat*1+0))) (ix_gs qqs t)) (ac (hs (.run [0] (ja ZT 9 (.ptr 0 ((f:Int).toNat*1+0))) (kAK b [.bld 169 5 [pz ok27 1 0,hsl 2 1 e],.cells ((hof e).flatMap (qa .u8).c)]) (.str y) (kAK b [.bld 169 5 [pz ok27 1 0,hsl 2 1 e],.cells ((hof e).flatMap (qa .u8).c)]) false) (qcC ce9 (E:=encS) (l:=b) rfl rfl t (nl rfl) rfl)) (ac (hs (.callH 141 [.ptr 1 0,.str y] (kAK b [.bld 169 5 [pz ok27 1 0,hsl 2 1 e],.cells ((hof e).flatMap (qa .u8).c)]) [1,2] (.tuple [.i ((y.length:Nat):Int),.niliface]) (kAK b [.bld 169 5 [pz true 1 0,hsl 3 1 (some q)],.dead,.cells ((hof (some q)).flatMap (qa .u8).c)])) (qgi [some 1,some 2] [none,some 0,none,some 2] (qoY ok27 e y F) (.kb rfl (.bld (rc ((zZ.pz rfl)) (rc (.hs rfl) rn))) (.ks .nil)) rfl rfl (.old rfl rfl (.back rfl rfl (.bld (rc ((zZ.pz rfl)) (rc (.hs rfl) rn))) rfl (.dead (.new rfl rfl (.same fa) rfl .nil)))) (rc (.ptr rfl) (rc (.same nS) rn)) (.same (qC.tuple sn)) rfl)) az))) ?_
    refine gh fol (kAI b (kBa [(11,.i (w64 (f-1)))])) ?_
    exact⟨M,(ofG 69 (kAI b (kBa [(11,.i (w64 (f-1)))])),(kAK b [.bld 169 5 [pz true 1 0,hsl 2 1 (some q)],.cells ((hof (some q)).flatMap (qa .u8).c)])),Nat.lt_succ_self _,(Sub.norm [] [some 0,some 1,some 3] rfl rfl (.keep (.gslice rfl) (.kp (.keep (.same nI) .nil))) (.ks (.kb rfl (.bld (rc ((zZ.pz rfl)) (rc (.hs rfl) rn))) (.ks .nil)))),_,_,_,rfl,g32⟩
   refine Goes.exit ?_
   obtain rfl:=si g32
   exact⟨rfl,_,_,rfl,(Sub.norm [] [some 1,some 2] rfl rfl (.drop (.kp .nil)) (.kb rfl (.bld (rc ((zZ.pz rfl)) (rc (.hs rfl) rn))) (.ks .nil)))⟩
 rintro x s' ⟨rfl,ok30,o,rfl,hsub⟩
 try dsimp only at h
 refine Goes.sub hsub ?_
 obtain⟨G,H,h⟩:=bnd h
 refine sq (gq fol [0] (kBJ G) [.dead,.dead] (ac (hs (.callH 143 [.ptr 0 0] [.bld 169 5 [pz ok30 0 0,hsl 1 1 o],.cells ((hof o).flatMap (qa .u8).c)] [0,1] (.str G) [.dead,.dead]) (qgi [some 0,some 1] [none,none] (qpQ ok30 o H) (.kb rfl (.bld (rc ((zZ.pz rfl)) (rc (.hs rfl) rn))) (.ks .nil)) rfl rfl (.dead (.dead .nil)) (rc (.ptr rfl) rn) (.same nS) rfl)) az) ?_)
 refine Goes.ret ?_
 obtain rfl:=si h
 exact(gw2 [.str G] (Ua tS))
def qdp (N:Nat) (n:qj):Option Bool:=
 ((yA n).bind fun a=>
 if a>1800 then
 (jS N n).bind fun b=>
 (strings_TrimPrefix b [45]).bind fun c=>
 some (decide ((c.length:Int)>600))
 else
 some false:Option Bool).bind fun d=>
 some d
theorem qet (N:Nat) (n:qj) {res:Bool} (h:qdp N n=some res):qb ZT (.fn 183) [.agg (nz1 n)] [] (.bool res) []:=by
 unfold qdp at h
 refine Ub Tryz.func183 rfl rfl (m:=13) rfl (rs:=[.tmp 2]) rfl (l:=[(0,.agg (nz1 n))]) rfl ?_
 refine sg fol (kAp []) [.cells (nz1 n)] ?_
 refine sq ?_
 obtain⟨f,a,h⟩:=bnd h
 refine Goes.cut (s':=(ofG 13 [(2,.bool f)],[.cells (nz1 n)])) ?_ ?_
 ·obtain⟨j,b,a⟩:=bnd a
  rcases wyD a with⟨e,a⟩|⟨e,a⟩
  ·obtain⟨g,c,a⟩:=bnd a
   obtain⟨i,d,a⟩:=bnd a
   obtain rfl:=si a
   exact tr fol [1,3,5,6] [(2,.bool (decide ((i.length:Int)>600)))] (ac (cv (qbM n b)) (ac (gw e) (ac (cv (xR N n c)) (ac (cv (qbm g [45] d)) az))))
  obtain rfl:=si a
  exact tr fol [1,3] kBY (ac (cv (qbM n b)) (ac (gw e) az))
 refine Goes.ret ?_
 obtain rfl:=si h
 exact(gw2 [.bool f] (Ua tB))
def yU (N:Nat) (a:qY):Option Bool:=
 ((qdp N a.Num).bind fun b=>
 if b=true then
 some true
 else
 (qdp N a.Den).bind fun c=>
 some c:Option Bool).bind fun d=>
 some d
theorem qa9 (N:Nat) (a:qY) {res:Bool} (h:yU N a=some res):qb ZT (.fn 124) [.agg (nq1 a)] [] (.bool res) []:=by
 unfold yU at h
 refine Ub Tryz.func124 rfl rfl (m:=11) rfl (rs:=[.tmp 2]) rfl (l:=[(0,.agg (nq1 a))]) rfl ?_
 refine sg fol (kAp []) [.cells (nq1 a)] ?_
 refine sq ?_
 obtain⟨f,b,h⟩:=bnd h
 refine Goes.cut (s':=(ofG 11 [(2,.bool f)],[.cells (nq1 a)])) ?_ ?_
 ·obtain⟨i,c,b⟩:=bnd b
  rcases wyB b with⟨e,b⟩|⟨e,b⟩
  ·obtain rfl:=si b
   exact tr fol [2,3] [(2,.bool true)] (ac (cv (qet N a.Num c)) (ac (gw e) az))
  obtain⟨g,d,b⟩:=bnd b
  obtain rfl:=si b
  exact tr fol [2,3,6] [(2,.bool g)] (ac (cv (qet N a.Num c)) (ac (gw e) (ac (cv (qet N a.Den d)) az)))
 refine Goes.ret ?_
 obtain rfl:=si h
 exact(gw2 [.bool f] (Ua tB))
def xc (a:qY):Option Bool:=
 (if a.Den.w.isEmpty=true then
 some (decide (a.Den.s=1))
 else
 some false:Option Bool).bind fun b=>
 some b
theorem qeR (a:qY) {res:Bool} (h:xc a=some res):qb ZT (.fn 160) [.agg (nq1 a)] [] (.bool res) []:=by
 unfold xc at h
 refine Ub Tryz.func160 rfl rfl (m:=13) rfl (rs:=[.tmp 2]) rfl (l:=[(0,.agg (nq1 a))]) rfl ?_
 refine sg fol (kAp []) [.cells (nq1 a)] ?_
 refine sq ?_
 obtain⟨d,b,h⟩:=bnd h
 refine Goes.cut (s':=(ofG 13 [(2,.bool d)],[.cells (nq1 a)])) ?_ ?_
 ·rcases wyB b with⟨c,b⟩|⟨c,b⟩
  ·obtain rfl:=si b
   exact tr fol [3,4] [(2,.bool (decide (a.Den.s=1)))] (ac (hs (.done (.opt (qR ZT .eql 83 (.tmp 5) (.const (.slice none 0 0)) (nvl (qa .u64) a.Den.w) .nilslice)) (.bool a.Den.w.isEmpty)) (qaL qaF)) (ac (gw c) az))
  obtain rfl:=si b
  exact tr fol [3,4] kBY (ac (hs (.done (.opt (qR ZT .eql 83 (.tmp 5) (.const (.slice none 0 0)) (nvl (qa .u64) a.Den.w) .nilslice)) (.bool a.Den.w.isEmpty)) (qaL qaF)) (ac (gw c) az))
 refine Goes.ret ?_
 obtain rfl:=si h
 exact(gw2 [.bool d] (Ua tB))
def xP (N:Nat) (a:qY):Option Str:=
 (xc a).bind fun b=>
 if b=true then
 (jS N a.Num).bind fun c=>
 some c
 else
 (jS N a.Num).bind fun d=>
 (cat d [47]).bind fun e=>
 (jS N a.Den).bind fun f=>
 (cat e f).bind fun g=>
 some g
theorem qdb (N:Nat) (a:qY) {res:Str} (h:xP N a=some res):qb ZT (.fn 125) [.agg (nq1 a)] [] (.str res) []:=by
 unfold xP at h
 refine Ub Tryz.func125 rfl rfl (m:=16) rfl (rs:=[.tmp 2]) rfl (l:=[(0,.agg (nq1 a))]) rfl ?_
 refine sg fol (kAp []) [.cells (nq1 a)] ?_
 refine sq ?_
 obtain⟨n,b,h⟩:=bnd h
 refine sq (gr fol [1] (kAp (kA1 n)) (ac (cv (qeR a b)) az) ?_)
 refine ihB h (fun o h=>?_) (fun o h=>?_)
 ·obtain⟨j,c,h⟩:=bnd h
  refine sq (gr fol [2] (kBJ j) (ac (cv (xR N a.Num c)) az) ?_)
  refine Goes.ret ?_
  obtain rfl:=si h
  exact(gw2 [.str j] (Ua tS))
 refine Goes.skip ?_
 obtain⟨p,d,h⟩:=bnd h
 obtain⟨k,e,h⟩:=bnd h
 obtain⟨q,f,h⟩:=bnd h
 obtain⟨i,g,h⟩:=bnd h
 refine sq (gr fol [2,3,6,7] (kBJ i) (ac (cv (xR N a.Num d)) (ac (hs (.done (.opt (qR ZT .add 9 (.tmp 10) (.const (.string ⟨#[47]⟩)) (.str p) (.str [47]))) (.str k)) (qax e)) (ac (cv (xR N a.Den f)) (ac (hs (.done (.opt (qR ZT .add 9 (.tmp 11) (.tmp 14) (.str k) (.str q))) (.str i)) (qax g)) az)))) ?_)
 refine Goes.ret ?_
 obtain rfl:=si h
 exact(gw2 [.str i] (Ua tS))
def qap (N:Nat) (low:qY) (high:qY):Option (kK×Int):=
 ((yU N low).bind fun a=>
 if a=true then
 some true
 else
 (yU N high).bind fun b=>
 some b:Option Bool).bind fun c=>
 if c=true then
 some ((⟨[],[]⟩:kK),4)
 else
 (xP N low).bind fun d=>
 (xP N high).bind fun e=>
 some ((⟨d,e⟩:kK),0)
theorem qck (N:Nat) (low:qY) (high:qY) {res:kK×Int} (h:qap N low high=some res):qb ZT (.fn 58) [.agg (nq1 low),.agg (nq1 high)] [] (.tuple (kV res.1.Low res.1.High [.i res.2])) []:=by
 unfold qap at h
 refine Ub Tryz.func58 rfl rfl (m:=18) rfl (rs:=[.cell 4 24,.tmp 5]) rfl (l:=[(0,.agg (nq1 low)),(1,.agg (nq1 high))]) rfl ?_
 refine sg fol (kF []) (.cells (nq1 low):: .cells (nq1 high)::(kN [])) ?_
 refine sq ?_
 refine sq ?_
 obtain⟨k,a,h⟩:=bnd h
 refine Goes.cut (s':=(ofG 18 (kF [(11,.bool k)]),(.cells (nq1 low):: .cells (nq1 high)::(kN [])))) ?_ ?_
 ·obtain⟨p,b,a⟩:=bnd a
  rcases wyB a with⟨f,a⟩|⟨f,a⟩
  ·obtain rfl:=si a
   exact tr fol [1,2] (kF [(11,.bool true)]) (ac (cv (qa9 N low b)) (ac (gw f) az))
  obtain⟨n,c,a⟩:=bnd a
  obtain rfl:=si a
  exact tr fol [1,2,4] (kF [(11,.bool n)]) (ac (cv (qa9 N low b)) (ac (gw f) (ac (cv (qa9 N high c)) az)))
 refine ihB h (fun o h=>?_) (fun o h=>?_)
 ·refine sh fol (kAR [(5,.i 4)]) ?_
  refine Goes.ret ?_
  obtain rfl:=si h
  exact(gw2 (kBZ [.i 4]) (FzW.tuple (qc.cons (FzW.agg (qc.cons (Ua tS) (qc.cons (Ua tS) qc.nil))) (qc.cons (Ua tI) qc.nil))))
 refine Goes.skip ?_
 obtain⟨g,d,h⟩:=bnd h
 obtain⟨j,e,h⟩:=bnd h
 refine sq (gq fol [1,3] (kAR [(5,.i 0)]) (.cells (nq1 low):: .cells (nq1 high)::(kQ g j [])) (ac (cv (qdb N low d)) (ac (cv (qdb N high e)) az)) ?_)
 refine Goes.ret ?_
 obtain rfl:=si h
 exact(gw2 (kV g j [.i 0]) (FzW.tuple (qc.cons (FzW.agg (qc.cons (Ua tS) (qc.cons (Ua tS) qc.nil))) (qc.cons (Ua tI) qc.nil))))
def vH (N:Nat) (a:qj) (b:qj):Option qj:=
 (qV b).bind fun f=>
 ((if f<0 then
 (zL a).bind fun d=>
 (zL b).bind fun e=>
 some (d.s,d.w,e.s,e.w)
 else
 some (a.s,a.w,b.s,b.w):Option (Int×(List Int)×Int×(List Int)))).bind fun(g,h,i,j)=>
 (kg N (⟨g,h⟩:qj) (⟨i,j⟩:qj)).bind fun c=>
 some c.1
theorem qd4 (N:Nat) (a:qj) (b:qj) {res:qj} (h:vH N a b=some res):qb ZT (.fn 130) [.agg (nz1 a),.agg (nz1 b)] [] (.agg (nz1 res)) []:=by
 unfold vH at h
 refine Ub Tryz.func130 rfl rfl (m:=21) rfl (rs:=[.cell 4 85]) rfl (l:=[(0,.agg (nz1 a)),(1,.agg (nz1 b))]) rfl ?_
 refine sg fol (kF []) [.cells (nz1 a),.cells (nz1 b),bZ] ?_
 refine sq ?_
 obtain⟨r,j,h⟩:=bnd h
 refine sq (gr fol [1] (kF [(9,.bool (decide (r<0)))]) (ac (cv (jZ b j)) az) ?_)
 obtain⟨s,g6,h⟩:=bnd h
 refine Goes.imp (Q:=fun x s'=>(x= .normal/\ ∃d e f g,(d,e,f,g)=s/\Sub s' (ofG 21 (kF []),[.cells (ni1 d e),.cells (ni1 f g),bZ]))) ?_ ?_
 ·refine ihD g6 (fun t g6=>?_) (fun t g6=>?_)
  ·obtain⟨k,o,g6⟩:=bnd g6
   obtain⟨q,p,g6⟩:=bnd g6
   refine gq fol [1,3,4,5] (kF []) [.cells (nz1 k),.cells (nz1 q),bZ] (ac (cv (yh a o)) (ac (cv (yh b p)) (ac (hs (.run [0] (qm ZT 85 (.ptr 0 0) (.agg (nz1 k))) [.cells (nz1 a),.cells (nz1 b),bZ] .undef [.cells (nz1 k),.cells (nz1 b),bZ] true) (qK (n:=2) (by kernel_rfl) rfl rfl rfl rfl (cac rfl (cac nvc can)) rfl)) (ac (hs (.run [1] (qm ZT 85 (.ptr 1 0) (.agg (nz1 q))) [.cells (nz1 k),.cells (nz1 b),bZ] .undef [.cells (nz1 k),.cells (nz1 q),bZ] true) (qK (n:=2) (by kernel_rfl) rfl rfl rfl rfl (cac rfl (cac nvc can)) rfl)) az)))) ?_
   obtain rfl:=si g6
   exact⟨rfl,_,_,_,_,rfl,(Sub.refl _)⟩
  refine Goes.skip ?_
  obtain rfl:=si g6
  exact⟨rfl,_,_,_,_,rfl,(Sub.keep [2,3,4] rfl rfl)⟩
 rintro x s' ⟨rfl,d,e,f,g,rfl,hsub⟩
 try dsimp only at h
 refine Goes.sub hsub ?_
 obtain⟨c,i,h⟩:=bnd h
 refine sq (gq fol [2,8,9] (kAR (kBI [])) [.cells (ni1 d e),.cells (ni1 f g),bZ,.cells (nz1 c.1),.cells (nz1 c.2)] (ac (cv (yz N (⟨d,e⟩:qj) (⟨f,g⟩:qj) i)) (ac (hs (.run [3] (qm ZT 85 (.ptr 3 0) (.agg (nz1 c.1))) [.cells (ni1 d e),.cells (ni1 f g),bZ,bZ,bZ] .undef [.cells (ni1 d e),.cells (ni1 f g),bZ,.cells (nz1 c.1),bZ] true) (qK (n:=2) (by kernel_rfl) rfl rfl rfl rfl (cac rfl (cac nvc can)) rfl)) (ac (hs (.run [4] (qm ZT 85 (.ptr 4 0) (.agg (nz1 c.2))) [.cells (ni1 d e),.cells (ni1 f g),bZ,.cells (nz1 c.1),bZ] .undef [.cells (ni1 d e),.cells (ni1 f g),bZ,.cells (nz1 c.1),.cells (nz1 c.2)] true) (qK (n:=2) (by kernel_rfl) rfl rfl rfl rfl (cac rfl (cac nvc can)) rfl)) az))) ?_)
 refine sq (gq fol [1] (kAR []) [.cells (ni1 d e),.cells (ni1 f g),.cells (nz1 c.1),.cells (nz1 c.1),.cells (nz1 c.2)] (ac (hs (.run [2] (qm ZT 85 (.ptr 2 0) (.agg (nz1 c.1))) [.cells (ni1 d e),.cells (ni1 f g),bZ,.cells (nz1 c.1),.cells (nz1 c.2)] .undef [.cells (ni1 d e),.cells (ni1 f g),.cells (nz1 c.1),.cells (nz1 c.1),.cells (nz1 c.2)] true) (qK (n:=2) (by kernel_rfl) rfl rfl rfl rfl (cac rfl (cac nvc can)) rfl)) az) ?_)
 refine Goes.ret ?_
 obtain rfl:=si h
 exact(gw2 [.agg (nz1 c.1)] (FzW.agg (qc.cons (Ua tI) (qc.cons (Ua (qA (qa .u64) _ (nl rfl))) qc.nil))))
end Go.Av
