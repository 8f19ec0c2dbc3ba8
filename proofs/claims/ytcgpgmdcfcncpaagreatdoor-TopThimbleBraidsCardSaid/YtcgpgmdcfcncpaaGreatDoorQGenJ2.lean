/-
  Walks of functions: what each computes, as a plain function.
-/
import Derived.Test.YtcgpgmdcfcncpaaGreatDoorQGenJ1
noncomputable section
namespace Go.Av
open Go.Proofs Go.RowKit
set_option linter.unusedSectionVars false
set_option linter.unusedVariables false
set_option linter.unusedSimpArgs false
set_option maxRecDepth 100000
def xA (b:List Int) (a:Int):Nat->(List Int)->Int->Option (List Int)
 |0,_,_=>none
 |K+1,f,c=>
  if c<(b.length:Int)then
  (((idx b c).bind fun e=>
  (idx f c).bind fun g=>
  (qmk .u64 e a).bind fun h=>
  (put f c (orI .u64 g h)).bind fun d=>
  if a>0 then
  (qnP .u64 e (w64 (64-a))).bind fun i=>
  (idx d (w64 (c+1))).bind fun k=>
  (put d (w64 (c+1)) i).bind fun j=>
  some j
  else
  some d:Option (List Int))).bind fun l=>
  xA b a K l (w64 (c+1))
  else
  some f
def qb1 (N:Nat) (a:List Int) (b:Int):Option (List Int):=
 (mk 8 (w64 ((a.length:Int)+1)) 0).bind fun c=>
 (xA a b N c 0).bind fun d=>
 some d
theorem qdO (N:Nat) (a:List Int) (b:Int) {I:List Int} (h:qb1 N a b=some I):qb ZT (.fn 187) [vl (qa .u64) a,.i b] [] (.slice 0 0 I.length I.length 1) [.cells (I.flatMap (qa .u64).c)]:=by
 unfold qb1 at h
 refine Um Tryz.func187 rfl rfl (m:=40) rfl (rs:=[.tmp 4]) rfl (l:=((0,vl (qa .u64) a)::(kB7 b))) rfl ?_
 intro B hB
 refine sh fol ((0,vl (qa .u64) a)::(kB7 b)) ?_
 obtain⟨G,H,h⟩:=bnd h
 refine sq (gq fol [3] ((0,vl (qa .u64) a)::(1,.i b)::(kC G [])) [.cells (G.flatMap (qa .u64).c)] (ac (hs (.run [] (qR ZT 63 (.i (w64 ((a.length:Int)+1))) (.i (w64 ((a.length:Int)+1)))) [] (.slice 0 0 G.length G.length 1) [.cells (G.flatMap (qa .u64).c)] false) (xW jg (E:=(qa .u64)) (z:=0) rfl (by kernel_rfl) H rfl)) az) ?_)
 refine sq ?_
 refine sh fol ((1,.i b)::(kC G ((12,vl (qa .u64) a)::(kCA (a.length:Int))))) ?_
 refine Goes.block ?_
 obtain⟨K,n,h⟩:=bnd h
 refine Goes.imp (Q:=fun x s'=>(x= .exit 0/\ ∃u,u=K/\Sub s' (ofG 40 (kC u []),[.cells (u.flatMap (qa .u64).c)]))) ?_ ?_
 ·refine Uc (fun M s=> ∃(j:List Int) (d:Int),s=(ofG 40 ((1,.i b)::(kC j ((12,vl (qa .u64) a)::(kZ (a.length:Int) d)))),[.cells (j.flatMap (qa .u64).c)])/\xA a b M j d=some K) ?_ (m:=N) ⟨_,_,rfl,n⟩
  rintro M s ⟨j,d,rfl,n⟩
  cases M with
  |zero=>simp only[xA]at n;cases n
  |succ M=>
   rw[xA]at n
   refine sh fol ((1,.i b)::(kC j ((12,vl (qa .u64) a)::(13,.i (a.length:Int))::(14,.i d)::(kBy (decide (d<(a.length:Int))))))) ?_
   refine sq ?_
   refine ihD n (fun L n=>?_) (fun L n=>?_)
   ·refine Goes.skip ?_
    refine sq ?_
    obtain⟨O,f,n⟩:=bnd n
    refine Goes.imp (Q:=fun x s'=>(x= .normal/\ ∃v,v=O/\Sub s' (ofG 40 ((1,.i b)::(kC v ((12,vl (qa .u64) a)::(kZ (a.length:Int) d)))),[.cells (v.flatMap (qa .u64).c)]))) ?_ ?_
    ·refine Goes.block ?_
     obtain⟨k,o,f⟩:=bnd f
     refine sq (gr fol [1,2] ((1,.i b)::(kC j ((6,.i d)::(kAy k ((12,vl (qa .u64) a)::(kZ (a.length:Int) d)))))) (ac (iv jg (qa .u64) o) (ac (lv 0 jr (qa .u64) o rfl) az)) ?_)
     obtain⟨w,g,f⟩:=bnd f
     obtain⟨A,C,f⟩:=bnd f
     obtain⟨e,p,f⟩:=bnd f
     refine sq (gq fol [2,3,6,8,9] ((1,.i b)::(kC j ((6,.i d)::(kAy k ((12,vl (qa .u64) a)::(kZ (a.length:Int) d)))))) [.cells (e.flatMap (qa .u64).c)] (ac (hs (.done (.opt (qc ZT 63 (.slice 0 0 j.length j.length 1) (.i d))) (.ptr 0 ((d:Int).toNat*1+0))) (zI jg g)) (ac (hs (.run [0] (qV ZT 164 (.ptr 0 ((d:Int).toNat*1+0))) [.cells (j.flatMap (qa .u64).c)] (.int .u64 w) [.cells (j.flatMap (qa .u64).c)] false) (yE jr (E:=(qa .u64)) (l:=j) rfl rfl g (nl rfl) rfl)) (ac (hs (.done (.opt (zx ZT .shl 164 (.tmp 23) (.tmp 24) (.int .u64 k) (.i b))) (.int .u64 A)) (qgU C)) (ac (hs (.done (.opt (qc ZT 63 (.slice 0 0 j.length j.length 1) (.i d))) (.ptr 0 ((d:Int).toNat*1+0))) (zI jg g)) (ac (hs (.run [0] (qm ZT 164 (.ptr 0 ((d:Int).toNat*1+0)) (.int .u64 (orI .u64 w A))) [.cells (j.flatMap (qa .u64).c)] .undef [.cells (e.flatMap (qa .u64).c)] true) (zY (E:=(qa .u64)) (l:=j) (y:=orI .u64 w A) rfl (show _=some 1 by kernel_rfl) rfl g rfl rfl rfl rfl rfl p rfl)) az))))) ?_)
     refine Goes.sub (show Sub (ofG 40 ((1,.i b)::(kC j ((6,.i d)::(kAy k ((12,vl (qa .u64) a)::(kZ (a.length:Int) d)))))),[.cells (e.flatMap (qa .u64).c)]) (ofG 40 ((1,.i b)::(kC e ((6,.i d)::(kAy k ((12,vl (qa .u64) a)::(kZ (a.length:Int) d)))))),[.cells (e.flatMap (qa .u64).c)])from(Sub.norm [] [some 0] (by rw[hB];rfl) rfl (.keep (.same nI) (.keep (.sliceE rfl (qH p)) (.keep (.same nI) (.keep (.same nI) (.keep (.same (qf (qa .u64) _)) (.keep (.same nI) (.keep (.same nI) .nil))))))) (.ks .nil))) ?_
     refine sh fol ((1,.i b)::(kC e ((6,.i d)::(kAy k [(12,vl (qa .u64) a),(13,.i (a.length:Int)),(14,.i d),(29,.bool (decide (b>0)))])))) ?_
     refine ihD f (fun J f=>?_) (fun J f=>?_)
     ·obtain⟨D,F,f⟩:=bnd f
      obtain⟨P,q,f⟩:=bnd f
      obtain⟨r,t,f⟩:=bnd f
      refine gq fol [6,7,8] ((1,.i b)::(kC e ((12,vl (qa .u64) a)::(kZ (a.length:Int) d)))) [.cells (r.flatMap (qa .u64).c)] (ac (hs (.done (.opt (zx ZT .shr 164 (.tmp 33) (.tmp 35) (.int .u64 k) (.i (w64 (64-b))))) (.int .u64 D)) (qh1 F)) (ac (hs (.done (.opt (qc ZT 63 (.slice 0 0 e.length e.length 1) (.i (w64 (d+1))))) (.ptr 0 ((w64 (d+1):Int).toNat*1+0))) (zI jg q)) (ac (hs (.run [0] (qm ZT 164 (.ptr 0 ((w64 (d+1):Int).toNat*1+0)) (.int .u64 D)) [.cells (e.flatMap (qa .u64).c)] .undef [.cells (r.flatMap (qa .u64).c)] true) (zY (E:=(qa .u64)) (l:=e) (y:=D) rfl (show _=some 1 by kernel_rfl) rfl q rfl rfl rfl rfl rfl t rfl)) az))) ?_
      obtain rfl:=si f
      exact⟨rfl,_,rfl,((show Sub (ofG 40 ((1,.i b)::(kC e ((12,vl (qa .u64) a)::(kZ (a.length:Int) d)))),[.cells (r.flatMap (qa .u64).c)]) (ofG 40 ((1,.i b)::(kC r ((12,vl (qa .u64) a)::(kZ (a.length:Int) d)))),[.cells (r.flatMap (qa .u64).c)])from(Sub.norm [] [some 0] (by rw[hB];rfl) rfl (.keep (.same nI) (.keep (.sliceE rfl (qH t)) (.keep (.same (qf (qa .u64) _)) (.keep (.same nI) (.keep (.same nI) .nil))))) (.ks .nil))).trans (Sub.refl _))⟩
     refine Goes.skip ?_
     obtain rfl:=si f
     exact⟨rfl,_,rfl,(Sub.keep [1,5,12,13,14] rfl rfl)⟩
    rintro x s' ⟨rfl,v,rfl,hsub⟩
    refine Goes.sub hsub ?_
    refine gh fol ((1,.i b)::(kC v ((12,vl (qa .u64) a)::(kZ (a.length:Int) (w64 (d+1)))))) ?_
    exact⟨M,(ofG 40 ((1,.i b)::(kC v ((12,vl (qa .u64) a)::(kZ (a.length:Int) (w64 (d+1)))))),[.cells (v.flatMap (qa .u64).c)]),Nat.lt_succ_self _,(Sub.refl _),_,_,rfl,n⟩
   refine Goes.exit ?_
   obtain rfl:=si n
   exact⟨rfl,_,rfl,(Sub.keep [5] rfl rfl)⟩
 rintro x s' ⟨rfl,u,rfl,hsub⟩
 refine Goes.sub hsub ?_
 refine sh fol (kBT u []) ?_
 refine Goes.ret ?_
 obtain rfl:=si h
 exact(gh2 [.slice 0 0 u.length u.length 1] (qbQ.refl _ _))
def qaW (e:List Int) (f:Nat) (g:Nat) (a:List Int):Nat->Int->Int->Int->Option Int
 |0,_,_,_=>none
 |K+1,b,c,i=>
  if i=0 then
  (idx a (w64 ((a.length:Int)-2))).bind fun j=>
  (bits_Mul64 b j).bind fun d=>
  (if d.1<c then
  some true
  else
  if d.1=c then
  (qhC e f g (w64 ((a.length:Int)-2))).bind fun k=>
  some (decide (d.2<=k))
  else
  some false:Option Bool).bind fun l=>
  if l=true then
  some b
  else
  (idx a (w64 ((a.length:Int)-1))).bind fun m=>
  (qgT c m 0).bind fun h=>
  qaW e f g a K (IntKind.wrap .u64 (b-1)) h.1 h.2
  else
  some b
def qaI (b:Nat) (e:Nat) (c:List Int) (f:Int):Nat->(List Int)->Int->Int->Int->Option ((List Int)×Int×Int)
 |0,_,_,_,_=>none
 |K+1,d,a,g,h=>
  if a<(c.length:Int)then
  (idx c a).bind fun l=>
  (bits_Mul64 f l).bind fun i=>
  (qgT i.2 h 0).bind fun j=>
  (qhC d b e a).bind fun m=>
  (qlB m j.1 g).bind fun k=>
  (put d ((b+(a:Int).toNat:Nat):Int) k.1).bind fun n=>
  qaI b e c f K n (w64 (a+1)) k.2 (IntKind.wrap .u64 (i.1+j.2))
  else
  some (d,g,h)
def qaQ (b:Nat) (e:Nat) (c:List Int):Nat->(List Int)->Int->Int->Option ((List Int)×Int)
 |0,_,_,_=>none
 |K+1,d,a,f=>
  if a<(c.length:Int)then
  (qhC d b e a).bind fun h=>
  (idx c a).bind fun i=>
  (qgT h i f).bind fun g=>
  (put d ((b+(a:Int).toNat:Nat):Int) g.1).bind fun j=>
  qaQ b e c K j (w64 (a+1)) g.2
  else
  some (d,f)
def qfq (N:Nat) (d:List Int) (b:Nat) (c:Nat) (v:Nat) (a:List Int):Option ((List Int)×Int):=
 (qhC d b c (a.length:Int)).bind fun u=>
 (idx a (w64 ((a.length:Int)-1))).bind fun l=>
 ((if u>=l then
 (qhC d b c (w64 ((a.length:Int)-1))).bind fun m=>
 (qgT m l 0).bind fun f=>
 some (18446744073709551615,f.1,f.2)
 else
 (qhC d b c (w64 ((a.length:Int)-1))).bind fun n=>
 (qeM N u n l).bind fun g=>
 some (g.1,g.2,0):Option (Int×Int×Int))).bind fun(w,x,y)=>
 (qaW d b c a N w x y).bind fun e=>
 (qaI b c a e N d 0 0 0).bind fun(h,o,p)=>
 (qhC h b c (a.length:Int)).bind fun q=>
 (qlB q p o).bind fun i=>
 (put h ((b+((a.length:Int):Int).toNat:Nat):Int) i.1).bind fun j=>
 if i.2=0 then
 some (j,e)
 else
 (qaQ b c a N j 0 0).bind fun(k,r)=>
 (qhC k b c (a.length:Int)).bind fun s=>
 (put k ((b+((a.length:Int):Int).toNat:Nat):Int) (IntKind.wrap .u64 (s+r))).bind fun t=>
 some (t,IntKind.wrap .u64 (e-1))
theorem qiS (N:Nat) (k:List Int) (b:Nat) (d:Nat) (e:Nat) (a:List Int) {l1:List Int} {n2:Int} (h:qfq N k b d e a=some (l1,n2)):qb ZT (.fn 188) [.slice 0 b d e 1,vl (qa .u64) a] [.cells (k.flatMap (qa .u64).c)] (.int .u64 n2) [.cells (l1.flatMap (qa .u64).c)]:=by
 unfold qfq at h
 refine Um Tryz.func188 rfl rfl (m:=186) rfl (rs:=[.tmp 4]) rfl (l:=[(0,.slice 0 b d e 1),(1,vl (qa .u64) a)]) rfl ?_
 intro B hB
 refine sh fol [(0,.slice 0 b d e 1),(1,vl (qa .u64) a)] ?_
 refine sh fol ((0,.slice 0 b d e 1)::(1,vl (qa .u64) a)::(kA7 (a.length:Int))) ?_
 refine sh fol ((0,.slice 0 b d e 1)::(1,vl (qa .u64) a)::(kA7 (a.length:Int))) ?_
 refine sh fol ((0,.slice 0 b d e 1)::(1,vl (qa .u64) a)::(5,.i (a.length:Int))::(kCB [])) ?_
 refine sq ?_
 obtain⟨x3,P,h⟩:=bnd h
 obtain⟨x4,z,h⟩:=bnd h
 refine sq (gr fol [2,3,7,8] ((0,.slice 0 b d e 1)::(1,vl (qa .u64) a)::(5,.i (a.length:Int))::(kCB [(30,.bool (decide (x3>=x4)))])) (ac (hs (.done (.opt (qc ZT 63 (.slice 0 b d e 1) (.i (a.length:Int)))) (.ptr 0 ((((b+((a.length:Int):Int).toNat:Nat):Int):Int).toNat*1+0))) (qeg jg P)) (ac (hs (.run [0] (qV ZT 164 (.ptr 0 ((((b+((a.length:Int):Int).toNat:Nat):Int):Int).toNat*1+0))) [.cells (k.flatMap (qa .u64).c)] (.int .u64 x3) [.cells (k.flatMap (qa .u64).c)] false) (yE jr (E:=(qa .u64)) (l:=k) rfl rfl (wI P) (nl rfl) rfl)) (ac (iv jg (qa .u64) z) (ac (lv 0 jr (qa .u64) z rfl) az)))) ?_)
 obtain⟨r8,T,h⟩:=bnd h
 refine Goes.imp (Q:=fun x s'=>(x= .normal/\ ∃n5 n6 n7,(n5,n6,n7)=r8/\Sub s' (ofG 186 ((0,.slice 0 b d e 1)::(1,vl (qa .u64) a)::(kW (a.length:Int) n5 (kAM n6 n7 []))),[.cells (k.flatMap (qa .u64).c)]))) ?_ ?_
 ·refine ihD T (fun c9 T=>?_) (fun c9 T=>?_)
  ·refine sh fol [(0,.slice 0 b d e 1),(1,vl (qa .u64) a),(5,.i (a.length:Int)),(6,.int .u64 18446744073709551615)] ?_
   obtain⟨d0,W,T⟩:=bnd T
   obtain⟨d1,b3,T⟩:=bnd T
   refine gr fol [3,4,8,9,10] ((0,.slice 0 b d e 1)::(1,vl (qa .u64) a)::(5,.i (a.length:Int))::(6,.int .u64 18446744073709551615)::(kAM d1.1 d1.2 [])) (ac (hs (.done (.opt (qc ZT 63 (.slice 0 b d e 1) (.i (w64 ((a.length:Int)-1))))) (.ptr 0 ((((b+(w64 ((a.length:Int)-1):Int).toNat:Nat):Int):Int).toNat*1+0))) (qeg jg W)) (ac (hs (.run [0] (qV ZT 164 (.ptr 0 ((((b+(w64 ((a.length:Int)-1):Int).toNat:Nat):Int):Int).toNat*1+0))) [.cells (k.flatMap (qa .u64).c)] (.int .u64 d0) [.cells (k.flatMap (qa .u64).c)] false) (yE jr (E:=(qa .u64)) (l:=k) rfl rfl (wI W) (nl rfl) rfl)) (ac (iv jg (qa .u64) z) (ac (lv 0 jr (qa .u64) z rfl) (ac (cv (qdl d0 x4 0 b3)) az))))) ?_
   obtain rfl:=si T
   exact⟨rfl,_,_,_,rfl,(Sub.refl _)⟩
  obtain⟨d2,X,T⟩:=bnd T
  obtain⟨d3,b4,T⟩:=bnd T
  refine gr fol [2,3,7,8,12,13,14] ((0,.slice 0 b d e 1)::(1,vl (qa .u64) a)::(kW (a.length:Int) d3.1 (kAy d3.2 (kCB [])))) (ac (hs (.done (.opt (qc ZT 63 (.slice 0 b d e 1) (.i (a.length:Int)))) (.ptr 0 ((((b+((a.length:Int):Int).toNat:Nat):Int):Int).toNat*1+0))) (qeg jg P)) (ac (hs (.run [0] (qV ZT 164 (.ptr 0 ((((b+((a.length:Int):Int).toNat:Nat):Int):Int).toNat*1+0))) [.cells (k.flatMap (qa .u64).c)] (.int .u64 x3) [.cells (k.flatMap (qa .u64).c)] false) (yE jr (E:=(qa .u64)) (l:=k) rfl rfl (wI P) (nl rfl) rfl)) (ac (hs (.done (.opt (qc ZT 63 (.slice 0 b d e 1) (.i (w64 ((a.length:Int)-1))))) (.ptr 0 ((((b+(w64 ((a.length:Int)-1):Int).toNat:Nat):Int):Int).toNat*1+0))) (qeg jg X)) (ac (hs (.run [0] (qV ZT 164 (.ptr 0 ((((b+(w64 ((a.length:Int)-1):Int).toNat:Nat):Int):Int).toNat*1+0))) [.cells (k.flatMap (qa .u64).c)] (.int .u64 d2) [.cells (k.flatMap (qa .u64).c)] false) (yE jr (E:=(qa .u64)) (l:=k) rfl rfl (wI X) (nl rfl) rfl)) (ac (iv jg (qa .u64) z) (ac (lv 0 jr (qa .u64) z rfl) (ac (cv (qf2 N x3 d2 x4 b4)) az))))))) ?_
  obtain rfl:=si T
  exact⟨rfl,_,_,_,rfl,(Sub.refl _)⟩
 rintro x s' ⟨rfl,n5,n6,n7,rfl,hsub⟩
 try dsimp only at h
 refine Goes.sub hsub ?_
 refine sq (Goes.block ?_)
 obtain⟨d4,j,h⟩:=bnd h
 refine Goes.imp (Q:=fun x s'=>(x= .exit 0/\ ∃f,f=d4/\Sub s' (ofG 186 ((0,.slice 0 b d e 1)::(1,vl (qa .u64) a)::(kW (a.length:Int) f [])),[.cells (k.flatMap (qa .u64).c)]))) ?_ ?_
 ·refine Uc (fun M s=> ∃(r:Int) (u:Int) (a6:Int),s=(ofG 186 ((0,.slice 0 b d e 1)::(1,vl (qa .u64) a)::(kW (a.length:Int) r (kAM u a6 []))),[.cells (k.flatMap (qa .u64).c)])/\qaW k b d a M r u a6=some d4) ?_ (m:=N) ⟨_,_,_,rfl,j⟩
  rintro M s ⟨r,u,a6,rfl,j⟩
  cases M with
  |zero=>simp only[qaW]at j;cases j
  |succ M=>
   rw[qaW]at j
   refine sq ?_
   refine sh fol ((0,.slice 0 b d e 1)::(1,vl (qa .u64) a)::(kW (a.length:Int) r (kAy u [(64,.bool (decide (a6=0)))]))) ?_
   refine ihD j (fun c20 j=>?_) (fun c20 j=>?_)
   ·refine Goes.skip ?_
    refine Goes.block ?_
    obtain⟨x21,Y,j⟩:=bnd j
    obtain⟨b5,b6,j⟩:=bnd j
    refine sq (gr fol [4,5,6] ((0,.slice 0 b d e 1)::(1,vl (qa .u64) a)::(kW (a.length:Int) r (kAy u [(9,.int .u64 b5.1),(10,.int .u64 b5.2)]))) (ac (iv jg (qa .u64) Y) (ac (lv 0 jr (qa .u64) Y rfl) (ac (cv (qbn r x21 b6)) az))) ?_)
    refine sq ?_
    refine sq ?_
    obtain⟨b26,n,j⟩:=bnd j
    refine Goes.cut (s':=(ofG 186 ((0,.slice 0 b d e 1)::(1,vl (qa .u64) a)::(kW (a.length:Int) r (kAy u [(91,.bool b26)]))),[.cells (k.flatMap (qa .u64).c)])) ?_ ?_
    ·rcases wyD n with⟨a7,n⟩|⟨a7,n⟩
     ·obtain rfl:=si n
      exact tr fol [3] ((0,.slice 0 b d e 1)::(1,vl (qa .u64) a)::(kW (a.length:Int) r (kAy u [(91,.bool true)]))) (ac (gw a7) az)
     rcases wyD n with⟨b7,n⟩|⟨b7,n⟩
     ·obtain⟨d5,Z,n⟩:=bnd n
      obtain rfl:=si n
      exact tr fol [3,7,12,13] ((0,.slice 0 b d e 1)::(1,vl (qa .u64) a)::(kW (a.length:Int) r (kAy u [(91,.bool (decide (b5.2<=d5)))]))) (ac (gw a7) (ac (gw b7) (ac (hs (.done (.opt (qc ZT 63 (.slice 0 b d e 1) (.i (w64 ((a.length:Int)-2))))) (.ptr 0 ((((b+(w64 ((a.length:Int)-2):Int).toNat:Nat):Int):Int).toNat*1+0))) (qeg jg Z)) (ac (hs (.run [0] (qV ZT 164 (.ptr 0 ((((b+(w64 ((a.length:Int)-2):Int).toNat:Nat):Int):Int).toNat*1+0))) [.cells (k.flatMap (qa .u64).c)] (.int .u64 d5) [.cells (k.flatMap (qa .u64).c)] false) (yE jr (E:=(qa .u64)) (l:=k) rfl rfl (wI Z) (nl rfl) rfl)) az))))
     obtain rfl:=si n
     exact tr fol [3,7] ((0,.slice 0 b d e 1)::(1,vl (qa .u64) a)::(kW (a.length:Int) r (kAy u [(91,.bool false)]))) (ac (gw a7) (ac (gw b7) az))
    refine ihB j (fun c28 j=>?_) (fun c28 j=>?_)
    ·refine Goes.exit ?_
     obtain rfl:=si j
     exact⟨rfl,_,rfl,(Sub.keep [0,1,5,6] rfl rfl)⟩
    refine Goes.skip ?_
    refine sh fol ((0,.slice 0 b d e 1)::(1,vl (qa .u64) a)::(kW (a.length:Int) (IntKind.wrap .u64 (r-1)) (kAy u []))) ?_
    obtain⟨x29,a0,j⟩:=bnd j
    obtain⟨a8,b8,j⟩:=bnd j
    refine gr fol [4,5,6] ((0,.slice 0 b d e 1)::(1,vl (qa .u64) a)::(kW (a.length:Int) (IntKind.wrap .u64 (r-1)) (kAM a8.1 a8.2 []))) (ac (iv jg (qa .u64) a0) (ac (lv 0 jr (qa .u64) a0 rfl) (ac (cv (qdl u x29 0 b8)) az))) ?_
    exact⟨M,(ofG 186 ((0,.slice 0 b d e 1)::(1,vl (qa .u64) a)::(kW (a.length:Int) (IntKind.wrap .u64 (r-1)) (kAM a8.1 a8.2 []))),[.cells (k.flatMap (qa .u64).c)]),Nat.lt_succ_self _,(Sub.refl _),_,_,_,rfl,j⟩
   refine Goes.exit ?_
   obtain rfl:=si j
   exact⟨rfl,_,rfl,(Sub.keep [0,1,5,6] rfl rfl)⟩
 rintro x s' ⟨rfl,f,rfl,hsub⟩
 refine Goes.sub hsub ?_
 refine sh fol ((0,.slice 0 b d e 1)::(1,vl (qa .u64) a)::(kW (a.length:Int) f [(11,.int .u64 0),(12,.int .u64 0)])) ?_
 refine sq ?_
 refine sh fol ((0,.slice 0 b d e 1)::(1,vl (qa .u64) a)::(kW (a.length:Int) f [(11,.int .u64 0),(12,.int .u64 0),(104,.i (a.length:Int)),(105,.i 0)])) ?_
 refine Goes.block ?_
 obtain⟨d6,o,h⟩:=bnd h
 refine Goes.imp (Q:=fun x s'=>(x= .exit 2/\ ∃G a9 b0,(G,a9,b0)=d6/\Sub s' (ofG 186 ((0,.slice 0 b d e 1)::(1,vl (qa .u64) a)::(kW (a.length:Int) f (kAI a9 b0 []))),[.cells (G.flatMap (qa .u64).c)]))) ?_ ?_
 ·refine Uc (fun M s=> ∃(H:List Int) (g:Int) (v:Int) (I:Int),s=(ofG 186 ((0,.slice 0 b d e 1)::(1,vl (qa .u64) a)::(kW (a.length:Int) f (kAI v I (kBJ (a.length:Int) g)))),[.cells (H.flatMap (qa .u64).c)])/\qaI b d a f M H g v I=some d6) ?_ (m:=N) ⟨_,_,_,_,rfl,o⟩
  rintro M s ⟨H,g,v,I,rfl,o⟩
  cases M with
  |zero=>simp only[qaI]at o;cases o
  |succ M=>
   rw[qaI]at o
   refine sh fol ((0,.slice 0 b d e 1)::(1,vl (qa .u64) a)::(kW (a.length:Int) f (kAI v I [(104,.i (a.length:Int)),(105,.i g),(106,.bool (decide (g<(a.length:Int))))]))) ?_
   refine sq ?_
   refine ihD o (fun c39 o=>?_) (fun c39 o=>?_)
   ·refine Goes.skip ?_
    refine sq (Goes.block ?_)
    refine sh fol ((0,.slice 0 b d e 1)::(1,vl (qa .u64) a)::(kW (a.length:Int) f (kAI v I ((13,.i g)::(kBJ (a.length:Int) g))))) ?_
    obtain⟨x40,a1,o⟩:=bnd o
    obtain⟨t,b9,o⟩:=bnd o
    refine sq (gr fol [3,4,5] ((0,.slice 0 b d e 1)::(1,vl (qa .u64) a)::(kW (a.length:Int) f (kAI v I ((13,.i g)::(kBU t.1 t.2 (kBJ (a.length:Int) g)))))) (ac (iv jg (qa .u64) a1) (ac (lv 0 jr (qa .u64) a1 rfl) (ac (cv (qbn f x40 b9)) az))) ?_)
    refine sh fol ((0,.slice 0 b d e 1)::(1,vl (qa .u64) a)::(kW (a.length:Int) f (kAI v I ((13,.i g)::(kBU t.1 t.2 (kBJ (a.length:Int) g)))))) ?_
    obtain⟨w,c0,o⟩:=bnd o
    refine sq (gr fol [2] ((0,.slice 0 b d e 1)::(1,vl (qa .u64) a)::(kW (a.length:Int) f ((11,.int .u64 v)::(13,.i g)::(kS t.1 w.1 w.2 (kBJ (a.length:Int) g))))) (ac (cv (qdl t.2 I 0 c0)) az) ?_)
    refine sh fol ((0,.slice 0 b d e 1)::(1,vl (qa .u64) a)::(kW (a.length:Int) f (kAI v (IntKind.wrap .u64 (t.1+w.2)) ((13,.i g)::(15,.int .u64 w.1)::(kBJ (a.length:Int) g))))) ?_
    obtain⟨d7,A,o⟩:=bnd o
    obtain⟨L,c1,o⟩:=bnd o
    obtain⟨a2,c2,o⟩:=bnd o
    refine gq fol [4,5,8,12,13] ((0,.slice 0 b d e 1)::(1,vl (qa .u64) a)::(kW (a.length:Int) f (kAI L.2 (IntKind.wrap .u64 (t.1+w.2)) (kBJ (a.length:Int) g)))) [.cells (a2.flatMap (qa .u64).c)] (ac (hs (.done (.opt (qc ZT 63 (.slice 0 b d e 1) (.i g))) (.ptr 0 ((((b+(g:Int).toNat:Nat):Int):Int).toNat*1+0))) (qeg jg A)) (ac (hs (.run [0] (qV ZT 164 (.ptr 0 ((((b+(g:Int).toNat:Nat):Int):Int).toNat*1+0))) [.cells (H.flatMap (qa .u64).c)] (.int .u64 d7) [.cells (H.flatMap (qa .u64).c)] false) (yE jr (E:=(qa .u64)) (l:=H) rfl rfl (wI A) (nl rfl) rfl)) (ac (cv (qix d7 w.1 v c1)) (ac (hs (.done (.opt (qc ZT 63 (.slice 0 b d e 1) (.i g))) (.ptr 0 ((((b+(g:Int).toNat:Nat):Int):Int).toNat*1+0))) (qeg jg A)) (ac (hs (.run [0] (qm ZT 164 (.ptr 0 ((((b+(g:Int).toNat:Nat):Int):Int).toNat*1+0)) (.int .u64 L.1)) [.cells (H.flatMap (qa .u64).c)] .undef [.cells (a2.flatMap (qa .u64).c)] true) (zY (E:=(qa .u64)) (l:=H) (y:=L.1) rfl (show _=some 1 by kernel_rfl) rfl (wI A) rfl rfl rfl rfl rfl c2 rfl)) az))))) ?_
    refine Goes.sub (show Sub (ofG 186 ((0,.slice 0 b d e 1)::(1,vl (qa .u64) a)::(kW (a.length:Int) f (kAI L.2 (IntKind.wrap .u64 (t.1+w.2)) (kBJ (a.length:Int) g)))),[.cells (a2.flatMap (qa .u64).c)]) (ofG 186 ((0,.slice 0 b d e 1)::(1,vl (qa .u64) a)::(kW (a.length:Int) f (kAI L.2 (IntKind.wrap .u64 (t.1+w.2)) (kBJ (a.length:Int) g)))),[.cells (a2.flatMap (qa .u64).c)])from(Sub.norm [] [some 0] (by rw[hB];rfl) rfl (.keep (.slice rfl) (.keep (.same (qf (qa .u64) _)) (.keep (.same nI) (.keep (.same nI) (.keep (.same nI) (.keep (.same nI) (.keep (.same nI) (.keep (.same nI) .nil)))))))) (.ks .nil))) ?_
    refine gh fol ((0,.slice 0 b d e 1)::(1,vl (qa .u64) a)::(kW (a.length:Int) f (kAI L.2 (IntKind.wrap .u64 (t.1+w.2)) (kBJ (a.length:Int) (w64 (g+1)))))) ?_
    exact⟨M,(ofG 186 ((0,.slice 0 b d e 1)::(1,vl (qa .u64) a)::(kW (a.length:Int) f (kAI L.2 (IntKind.wrap .u64 (t.1+w.2)) (kBJ (a.length:Int) (w64 (g+1)))))),[.cells (a2.flatMap (qa .u64).c)]),Nat.lt_succ_self _,(Sub.refl _),_,_,_,_,rfl,o⟩
   refine Goes.exit ?_
   obtain rfl:=si o
   exact⟨rfl,_,_,_,rfl,(Sub.keep [0,1,5,6,11,12] rfl rfl)⟩
 rintro x s' ⟨rfl,G,a9,b0,rfl,hsub⟩
 try dsimp only at h
 refine Goes.sub hsub ?_
 obtain⟨d8,C,h⟩:=bnd h
 obtain⟨U,c3,h⟩:=bnd h
 obtain⟨b1,c4,h⟩:=bnd h
 refine sq (gq fol [4,5,8,12,13] ((0,.slice 0 b d e 1)::(1,vl (qa .u64) a)::(kW (a.length:Int) f [(11,.int .u64 U.2)])) [.cells (b1.flatMap (qa .u64).c)] (ac (hs (.done (.opt (qc ZT 63 (.slice 0 b d e 1) (.i (a.length:Int)))) (.ptr 0 ((((b+((a.length:Int):Int).toNat:Nat):Int):Int).toNat*1+0))) (qeg jg C)) (ac (hs (.run [0] (qV ZT 164 (.ptr 0 ((((b+((a.length:Int):Int).toNat:Nat):Int):Int).toNat*1+0))) [.cells (G.flatMap (qa .u64).c)] (.int .u64 d8) [.cells (G.flatMap (qa .u64).c)] false) (yE jr (E:=(qa .u64)) (l:=G) rfl rfl (wI C) (nl rfl) rfl)) (ac (cv (qix d8 b0 a9 c3)) (ac (hs (.done (.opt (qc ZT 63 (.slice 0 b d e 1) (.i (a.length:Int)))) (.ptr 0 ((((b+((a.length:Int):Int).toNat:Nat):Int):Int).toNat*1+0))) (qeg jg C)) (ac (hs (.run [0] (qm ZT 164 (.ptr 0 ((((b+((a.length:Int):Int).toNat:Nat):Int):Int).toNat*1+0)) (.int .u64 U.1)) [.cells (G.flatMap (qa .u64).c)] .undef [.cells (b1.flatMap (qa .u64).c)] true) (zY (E:=(qa .u64)) (l:=G) (y:=U.1) rfl (show _=some 1 by kernel_rfl) rfl (wI C) rfl rfl rfl rfl rfl c4 rfl)) az))))) ?_)
 refine Goes.sub (show Sub (ofG 186 ((0,.slice 0 b d e 1)::(1,vl (qa .u64) a)::(kW (a.length:Int) f [(11,.int .u64 U.2)])),[.cells (b1.flatMap (qa .u64).c)]) (ofG 186 ((0,.slice 0 b d e 1)::(1,vl (qa .u64) a)::(kW (a.length:Int) f [(11,.int .u64 U.2)])),[.cells (b1.flatMap (qa .u64).c)])from(Sub.norm [] [some 0] (by rw[hB];rfl) rfl (.keep (.slice rfl) (.keep (.same (qf (qa .u64) _)) (.keep (.same nI) (.keep (.same nI) (.keep (.same nI) .nil))))) (.ks .nil))) ?_
 refine sq ?_
 refine sh fol ((0,.slice 0 b d e 1)::(1,vl (qa .u64) a)::(kW (a.length:Int) f [(154,.bool (decide (U.2=0)))])) ?_
 refine ihD h (fun c51 h=>?_) (fun c51 h=>?_)
 ·refine sh fol [(4,.int .u64 f)] ?_
  refine Goes.ret ?_
  simp only[ZI,ZP]at h
  obtain⟨rfl,rfl⟩:=h
  exact(gh2 [.int .u64 f] (qbQ.refl _ _))
 refine Goes.skip ?_
 refine sh fol ((0,.slice 0 b d e 1)::(1,vl (qa .u64) a)::(kW (a.length:Int) f [(17,.int .u64 0)])) ?_
 refine sq ?_
 refine sh fol ((0,.slice 0 b d e 1)::(1,vl (qa .u64) a)::(kW (a.length:Int) f [(17,.int .u64 0),(156,.i (a.length:Int)),(157,.i 0)])) ?_
 refine Goes.block ?_
 obtain⟨d9,p,h⟩:=bnd h
 refine Goes.imp (Q:=fun x s'=>(x= .exit 4/\ ∃J a3,(J,a3)=d9/\Sub s' (ofG 186 ((0,.slice 0 b d e 1)::(kW (a.length:Int) f [(17,.int .u64 a3)])),[.cells (J.flatMap (qa .u64).c)]))) ?_ ?_
 ·refine Uc (fun M s=> ∃(K:List Int) (q:Int) (V:Int),s=(ofG 186 ((0,.slice 0 b d e 1)::(1,vl (qa .u64) a)::(kW (a.length:Int) f (kBM V (a.length:Int) q []))),[.cells (K.flatMap (qa .u64).c)])/\qaQ b d a M K q V=some d9) ?_ (m:=N) ⟨_,_,_,rfl,p⟩
  rintro M s ⟨K,q,V,rfl,p⟩
  cases M with
  |zero=>simp only[qaQ]at p;cases p
  |succ M=>
   rw[qaQ]at p
   refine sh fol ((0,.slice 0 b d e 1)::(1,vl (qa .u64) a)::(kW (a.length:Int) f (kBM V (a.length:Int) q [(158,.bool (decide (q<(a.length:Int))))]))) ?_
   refine sq ?_
   refine ihD p (fun c58 p=>?_) (fun c58 p=>?_)
   ·refine Goes.skip ?_
    refine sq (Goes.block ?_)
    refine sh fol ((0,.slice 0 b d e 1)::(1,vl (qa .u64) a)::(kW (a.length:Int) f [(17,.int .u64 V),(18,.i q),(156,.i (a.length:Int)),(157,.i q)])) ?_
    obtain⟨e0,D,p⟩:=bnd p
    obtain⟨x60,a4,p⟩:=bnd p
    obtain⟨O,c5,p⟩:=bnd p
    obtain⟨a5,c6,p⟩:=bnd p
    refine gq fol [4,5,8,9,11,15,16] ((0,.slice 0 b d e 1)::(1,vl (qa .u64) a)::(kW (a.length:Int) f (kBM O.2 (a.length:Int) q []))) [.cells (a5.flatMap (qa .u64).c)] (ac (hs (.done (.opt (qc ZT 63 (.slice 0 b d e 1) (.i q))) (.ptr 0 ((((b+(q:Int).toNat:Nat):Int):Int).toNat*1+0))) (qeg jg D)) (ac (hs (.run [0] (qV ZT 164 (.ptr 0 ((((b+(q:Int).toNat:Nat):Int):Int).toNat*1+0))) [.cells (K.flatMap (qa .u64).c)] (.int .u64 e0) [.cells (K.flatMap (qa .u64).c)] false) (yE jr (E:=(qa .u64)) (l:=K) rfl rfl (wI D) (nl rfl) rfl)) (ac (iv jg (qa .u64) a4) (ac (lv 0 jr (qa .u64) a4 rfl) (ac (cv (qdl e0 x60 V c5)) (ac (hs (.done (.opt (qc ZT 63 (.slice 0 b d e 1) (.i q))) (.ptr 0 ((((b+(q:Int).toNat:Nat):Int):Int).toNat*1+0))) (qeg jg D)) (ac (hs (.run [0] (qm ZT 164 (.ptr 0 ((((b+(q:Int).toNat:Nat):Int):Int).toNat*1+0)) (.int .u64 O.1)) [.cells (K.flatMap (qa .u64).c)] .undef [.cells (a5.flatMap (qa .u64).c)] true) (zY (E:=(qa .u64)) (l:=K) (y:=O.1) rfl (show _=some 1 by kernel_rfl) rfl (wI D) rfl rfl rfl rfl rfl c6 rfl)) az))))))) ?_
    refine Goes.sub (show Sub (ofG 186 ((0,.slice 0 b d e 1)::(1,vl (qa .u64) a)::(kW (a.length:Int) f (kBM O.2 (a.length:Int) q []))),[.cells (a5.flatMap (qa .u64).c)]) (ofG 186 ((0,.slice 0 b d e 1)::(1,vl (qa .u64) a)::(kW (a.length:Int) f (kBM O.2 (a.length:Int) q []))),[.cells (a5.flatMap (qa .u64).c)])from(Sub.norm [] [some 0] (by rw[hB];rfl) rfl (.keep (.slice rfl) (.keep (.same (qf (qa .u64) _)) (.keep (.same nI) (.keep (.same nI) (.keep (.same nI) (.keep (.same nI) (.keep (.same nI) .nil))))))) (.ks .nil))) ?_
    refine gh fol ((0,.slice 0 b d e 1)::(1,vl (qa .u64) a)::(kW (a.length:Int) f (kBM O.2 (a.length:Int) (w64 (q+1)) []))) ?_
    exact⟨M,(ofG 186 ((0,.slice 0 b d e 1)::(1,vl (qa .u64) a)::(kW (a.length:Int) f (kBM O.2 (a.length:Int) (w64 (q+1)) []))),[.cells (a5.flatMap (qa .u64).c)]),Nat.lt_succ_self _,(Sub.refl _),_,_,_,rfl,p⟩
   refine Goes.exit ?_
   obtain rfl:=si p
   exact⟨rfl,_,_,rfl,(Sub.keep [0,5,6,17] rfl rfl)⟩
 rintro x s' ⟨rfl,J,a3,rfl,hsub⟩
 try dsimp only at h
 refine Goes.sub hsub ?_
 obtain⟨c7,F,h⟩:=bnd h
 obtain⟨b2,c8,h⟩:=bnd h
 refine sq (gq fol [2,3,6,7] (kAU f []) [.cells (b2.flatMap (qa .u64).c)] (ac (hs (.done (.opt (qc ZT 63 (.slice 0 b d e 1) (.i (a.length:Int)))) (.ptr 0 ((((b+((a.length:Int):Int).toNat:Nat):Int):Int).toNat*1+0))) (qeg jg F)) (ac (hs (.run [0] (qV ZT 164 (.ptr 0 ((((b+((a.length:Int):Int).toNat:Nat):Int):Int).toNat*1+0))) [.cells (J.flatMap (qa .u64).c)] (.int .u64 c7) [.cells (J.flatMap (qa .u64).c)] false) (yE jr (E:=(qa .u64)) (l:=J) rfl rfl (wI F) (nl rfl) rfl)) (ac (hs (.done (.opt (qc ZT 63 (.slice 0 b d e 1) (.i (a.length:Int)))) (.ptr 0 ((((b+((a.length:Int):Int).toNat:Nat):Int):Int).toNat*1+0))) (qeg jg F)) (ac (hs (.run [0] (qm ZT 164 (.ptr 0 ((((b+((a.length:Int):Int).toNat:Nat):Int):Int).toNat*1+0)) (.int .u64 (IntKind.wrap .u64 (c7+a3)))) [.cells (J.flatMap (qa .u64).c)] .undef [.cells (b2.flatMap (qa .u64).c)] true) (zY (E:=(qa .u64)) (l:=J) (y:=IntKind.wrap .u64 (c7+a3)) rfl (show _=some 1 by kernel_rfl) rfl (wI F) rfl rfl rfl rfl rfl c8 rfl)) az)))) ?_)
 refine Goes.sub (show Sub (ofG 186 (kAU f []),[.cells (b2.flatMap (qa .u64).c)]) (ofG 186 (kAU f []),[.cells (b2.flatMap (qa .u64).c)])from(Sub.norm [] [some 0] (by rw[hB];rfl) rfl (.keep (.same nI) .nil) (.ks .nil))) ?_
 refine sh fol [(4,.int .u64 (IntKind.wrap .u64 (f-1)))] ?_
 refine Goes.ret ?_
 simp only[ZI,ZP]at h
 obtain⟨rfl,rfl⟩:=h
 exact(gh2 [.int .u64 (IntKind.wrap .u64 (f-1))] (qbQ.refl _ _))
def qbl (N:Nat) (a:List Int) (b:List Int):Nat->(List Int)->Int->Int->Option ((List Int)×Int)
 |0,_,_,_=>none
 |K+1,e,i,c=>
  if c>=0 then
  (idx a c).bind fun f=>
  (idx b 0).bind fun g=>
  (qeM N i f g).bind fun d=>
  (idx e c).bind fun j=>
  (put e c d.1).bind fun h=>
  qbl N a b K h d.2 (w64 (c-1))
  else
  some (e,i)
def qbc (N:Nat) (c:List Int):Nat->(List Int)->(List Int)->Int->Option ((List Int)×(List Int))
 |0,_,_,_=>none
 |K+1,b,d,a=>
  if a>=0 then
  (win b a (w64 ((w64 (a+(c.length:Int)))+1))).bind fun(e,g)=>
  (qfq N b e g (b.length-e) c).bind fun(f,h)=>
  ((if b.length=f.length then some ()else none:Option Unit)).bind fun j=>
  (idx d a).bind fun k=>
  (put d a h).bind fun i=>
  qbc N c K f i (w64 (a-1))
  else
  some (b,d)
def qbf (c:Int) (e:List Int):Nat->(List Int)->Int->Option (List Int)
 |0,_,_=>none
 |K+1,d,a=>
  if a<(e.length:Int)then
  (((idx d a).bind fun f=>
  (qnP .u64 f c).bind fun g=>
  (put d a g).bind fun b=>
  (if c>0 then
  some (decide ((w64 (a+1))<(b.length:Int)))
  else
  some false:Option Bool).bind fun h=>
  if h=true then
  (idx b a).bind fun i=>
  (idx b (w64 (a+1))).bind fun j=>
  (qmk .u64 j (w64 (64-c))).bind fun k=>
  (put b a (orI .u64 i k)).bind fun l=>
  some l
  else
  some b:Option (List Int))).bind fun m=>
  qbf c e K m (w64 (a+1))
  else
  some d
def qeO (N:Nat) (a:List Int) (b:List Int):Option ((List Int)×(List Int)):=
 (qa1 N a b).bind fun q=>
 if q<0 then
 some ([],a)
 else
 if(b.length:Int)=1 then
 (mk 8 (a.length:Int) 0).bind fun r=>
 (qbl N a b N r 0 (w64 ((a.length:Int)-1))).bind fun(s,t)=>
 (qbm N s).bind fun e=>
 (qbm N ([t]:List Int)).bind fun f=>
 some (e,f)
 else
 (idx b (w64 ((b.length:Int)-1))).bind fun g=>
 (bits_LeadingZeros64 g).bind fun d=>
 (qb1 N b d).bind fun h=>
 (qbm N h).bind fun c=>
 (qb1 N a d).bind fun i=>
 (mk 8 (w64 ((w64 ((a.length:Int)-(c.length:Int)))+1)) 0).bind fun j=>
 (qbc N c N i j (w64 ((a.length:Int)-(c.length:Int)))).bind fun(k,l)=>
 (qbf d c N k 0).bind fun m=>
 (qbm N l).bind fun n=>
 (cut m 0 (c.length:Int)).bind fun o=>
 (qbm N o).bind fun p=>
 some (n,p)
theorem qgb (N:Nat) (a:List Int) (b:List Int) {res:(List Int)×(List Int)} (h:qeO N a b=some res):qb ZT (.fn 170) [vl (qa .u64) a,vl (qa .u64) b] [] (.tuple [vl (qa .u64) res.1,vl (qa .u64) res.2]) []:=by
 unfold qeO at h
 refine Ub Tryz.func170 rfl rfl (m:=137) rfl (rs:=[.tmp 4,.tmp 5]) rfl (l:=[(0,vl (qa .u64) a),(1,vl (qa .u64) b)]) rfl ?_
 refine sh fol [(0,vl (qa .u64) a),(1,vl (qa .u64) b)] ?_
 refine sq ?_
 obtain⟨r1,e_r1,h⟩:=bnd h
 refine sq (gr fol [2] [(0,vl (qa .u64) a),(1,vl (qa .u64) b),(19,.bool (decide (r1<0)))] (ac (cv (qcV N a b e_r1)) az) ?_)
 refine ihD h (fun c2 h=>?_) (fun c2 h=>?_)
 ·refine sh fol [(4,.nilslice),(5,vl (qa .u64) a)] ?_
  refine Goes.ret ?_
  obtain rfl:=si h
  exact(gw2 [.nilslice,vl (qa .u64) a] (FzW.tuple (qh.cons (FzW.nilv (E:=(qa .u64))) (qh.cons (Ua (ql (qa .u64) _ (nl rfl))) qh.nil))))
 refine Goes.skip ?_
 refine sq ?_
 refine sh fol [(0,vl (qa .u64) a),(1,vl (qa .u64) b),(23,.bool (decide ((b.length:Int)=1)))] ?_
 refine ihD h (fun c3 h=>?_) (fun c3 h=>?_)
 ·obtain⟨l4,e_l4,h⟩:=bnd h
  refine sq (gq fol [2] ((0,vl (qa .u64) a)::(1,vl (qa .u64) b)::(kY l4 [])) [.cells (l4.flatMap (qa .u64).c)] (ac (hs (.run [] (qR ZT 63 (.i (a.length:Int)) (.i (a.length:Int))) [] (.slice 0 0 l4.length l4.length 1) [.cells (l4.flatMap (qa .u64).c)] false) (xW jg (E:=(qa .u64)) (z:=0) rfl (by kernel_rfl) e_l4 rfl)) az) ?_)
  refine sh fol ((0,vl (qa .u64) a)::(1,vl (qa .u64) b)::(kY l4 [(7,.int .u64 0)])) ?_
  refine sq ?_
  refine sh fol ((0,vl (qa .u64) a)::(1,vl (qa .u64) b)::(kY l4 [(7,.int .u64 0),(8,.i (w64 ((a.length:Int)-1)))])) ?_
  refine Goes.block ?_
  obtain⟨r10,o,h⟩:=bnd h
  refine Goes.imp (Q:=fun x s'=>(x= .exit 0/\ ∃P n9,(P,n9)=r10/\Sub s' (ofG 137 (kY P (kAy n9 [])),[.cells (P.flatMap (qa .u64).c)]))) ?_ ?_
  ·refine Uc (fun M s=> ∃(T:List Int) (n6:Int) (J:Int),s=(ofG 137 ((0,vl (qa .u64) a)::(1,vl (qa .u64) b)::(kY T (kAy n6 [(8,.i J)]))),[.cells (T.flatMap (qa .u64).c)])/\qbl N a b M T n6 J=some r10) ?_ (m:=N) ⟨_,_,_,rfl,o⟩
   rintro M s ⟨T,n6,J,rfl,o⟩
   cases M with
   |zero=>simp only[qbl]at o;cases o
   |succ M=>
    rw[qbl]at o
    refine sq ?_
    refine sh fol ((0,vl (qa .u64) a)::(1,vl (qa .u64) b)::(kY T (kAy n6 [(8,.i J),(31,.bool (decide (J>=0)))]))) ?_
    refine ihD o (fun c11 o=>?_) (fun c11 o=>?_)
    ·refine Goes.skip ?_
     refine sq (Goes.block ?_)
     obtain⟨x12,U,o⟩:=bnd o
     obtain⟨x13,V,o⟩:=bnd o
     obtain⟨H,e_r14,o⟩:=bnd o
     obtain⟨x15,W,o⟩:=bnd o
     obtain⟨F,X,o⟩:=bnd o
     refine gq fol [5,6,8,9,10,14,15] ((0,vl (qa .u64) a)::(1,vl (qa .u64) b)::(kY T (kAy H.2 [(8,.i J)]))) [.cells (F.flatMap (qa .u64).c)] (ac (iv jg (qa .u64) U) (ac (lv 0 jr (qa .u64) U rfl) (ac (iv jg (qa .u64) V) (ac (lv 0 jr (qa .u64) V rfl) (ac (cv (qf2 N n6 x12 x13 e_r14)) (ac (hs (.done (.opt (qc ZT 63 (.slice 0 0 T.length T.length 1) (.i J))) (.ptr 0 ((J:Int).toNat*1+0))) (zI jg W)) (ac (hs (.run [0] (qm ZT 164 (.ptr 0 ((J:Int).toNat*1+0)) (.int .u64 H.1)) [.cells (T.flatMap (qa .u64).c)] .undef [.cells (F.flatMap (qa .u64).c)] true) (zY (E:=(qa .u64)) (l:=T) (y:=H.1) rfl (show _=some 1 by kernel_rfl) rfl W rfl rfl rfl rfl rfl X rfl)) az))))))) ?_
     refine Goes.sub (show Sub (ofG 137 ((0,vl (qa .u64) a)::(1,vl (qa .u64) b)::(kY T (kAy H.2 [(8,.i J)]))),[.cells (F.flatMap (qa .u64).c)]) (ofG 137 ((0,vl (qa .u64) a)::(1,vl (qa .u64) b)::(kY F (kAy H.2 [(8,.i J)]))),[.cells (F.flatMap (qa .u64).c)])from(Sub.norm [] [some 0] rfl rfl (.keep (.same (qf (qa .u64) _)) (.keep (.same (qf (qa .u64) _)) (.keep (.sliceE rfl (qH X)) (.keep (.same nI) (.keep (.same nI) .nil))))) (.ks .nil))) ?_
     refine gh fol ((0,vl (qa .u64) a)::(1,vl (qa .u64) b)::(kY F (kAy H.2 [(8,.i (w64 (J-1)))]))) ?_
     exact⟨M,(ofG 137 ((0,vl (qa .u64) a)::(1,vl (qa .u64) b)::(kY F (kAy H.2 [(8,.i (w64 (J-1)))]))),[.cells (F.flatMap (qa .u64).c)]),Nat.lt_succ_self _,(Sub.refl _),_,_,_,rfl,o⟩
    refine Goes.exit ?_
    obtain rfl:=si o
    exact⟨rfl,_,_,rfl,(Sub.keep [6,7] rfl rfl)⟩
  rintro x s' ⟨rfl,P,n9,rfl,hsub⟩
  try dsimp only at h
  refine Goes.sub hsub ?_
  obtain⟨Y,e_r17,h⟩:=bnd h
  obtain⟨Z,e_r18,h⟩:=bnd h
  refine sq (gq fol [1,4] [(4,vl (qa .u64) Y),(5,vl (qa .u64) Z)] [.frozen (P.flatMap (qa .u64).c),.frozen [.int .u64 n9]] (ac (hs (.callF 166 [.slice 0 0 P.length P.length 1] [.cells (P.flatMap (qa .u64).c)] [0] [vl (qa .u64) P] (vl (qa .u64) Y)) (qa6 (FzL.cons (U0 (E:=(qa .u64)) rfl rfl (nl rfl)) FzL.nil) (xR N P e_r17) (ql (qa .u64) _ (nl rfl)))) (ac (hs (.callF 166 [.slice 1 0 1 1 1] [.frozen (P.flatMap (qa .u64).c),.cells [.int .u64 n9]] [1] [vl (qa .u64) ([n9]:List Int)] (vl (qa .u64) Z)) (qa6 (FzL.cons (Fz.lit rfl rfl (Uj (AllST.cons tI AllST.nil))) FzL.nil) (xR N ([n9]:List Int) e_r18) (ql (qa .u64) _ (nl rfl)))) az)) ?_)
  refine Goes.sub (show Sub (ofG 137 [(4,vl (qa .u64) Y),(5,vl (qa .u64) Z)],[.frozen (P.flatMap (qa .u64).c),.frozen [.int .u64 n9]]) (ofG 137 [(4,vl (qa .u64) Y),(5,vl (qa .u64) Z)],[])from(Sub.norm [] [] rfl rfl (.keep (.same (qf (qa .u64) _)) (.keep (.same (qf (qa .u64) _)) .nil)) .nil)) ?_
  refine Goes.ret ?_
  obtain rfl:=si h
  exact(gw2 [vl (qa .u64) Y,vl (qa .u64) Z] (FzW.tuple (qh.cons (Ua (ql (qa .u64) _ (nl rfl))) (qh.cons (Ua (ql (qa .u64) _ (nl rfl))) qh.nil))))
 refine Goes.skip ?_
 obtain⟨x19,a0,h⟩:=bnd h
 obtain⟨g,e_r20,h⟩:=bnd h
 refine sq (gr fol [4,5,6] [(0,vl (qa .u64) a),(1,vl (qa .u64) b),(9,.i g)] (ac (iv jg (qa .u64) a0) (ac (lv 0 jr (qa .u64) a0 rfl) (ac (cv (qbT x19 e_r20)) az))) ?_)
 obtain⟨A,e_r21,h⟩:=bnd h
 obtain⟨d,e_r23,h⟩:=bnd h
 refine sq (gq fol [2,3] [(0,vl (qa .u64) a),(9,.i g),(10,vl (qa .u64) d)] [.frozen (A.flatMap (qa .u64).c)] (ac (hs (.callH 187 [vl (qa .u64) b,.i g] [] [] (.slice 0 0 A.length A.length 1) [.cells (A.flatMap (qa .u64).c)]) (vv [] [some 0] (qdO N b g e_r21) .nil rfl rfl (.new rfl rfl (.same fa) rfl .nil) (rc (.same (qf (qa .u64) _)) (rc (.same nI) rn)) (.slice rfl) rfl)) (ac (hs (.callF 166 [.slice 0 0 A.length A.length 1] [.cells (A.flatMap (qa .u64).c)] [0] [vl (qa .u64) A] (vl (qa .u64) d)) (qa6 (FzL.cons (U0 (E:=(qa .u64)) rfl rfl (nl rfl)) FzL.nil) (xR N A e_r23) (ql (qa .u64) _ (nl rfl)))) az)) ?_)
 refine Goes.sub (show Sub (ofG 137 [(0,vl (qa .u64) a),(9,.i g),(10,vl (qa .u64) d)],[.frozen (A.flatMap (qa .u64).c)]) (ofG 137 [(0,vl (qa .u64) a),(9,.i g),(10,vl (qa .u64) d)],[])from(Sub.norm [] [] rfl rfl (.keep (.same (qf (qa .u64) _)) (.keep (.same nI) (.keep (.same (qf (qa .u64) _)) .nil))) .nil)) ?_
 obtain⟨t,e_r24,h⟩:=bnd h
 refine sq (gq fol [2] [(0,vl (qa .u64) a),(9,.i g),(10,vl (qa .u64) d),(11,.slice 0 0 t.length t.length 1)] [.cells (t.flatMap (qa .u64).c)] (ac (hs (.callH 187 [vl (qa .u64) a,.i g] [] [] (.slice 0 0 t.length t.length 1) [.cells (t.flatMap (qa .u64).c)]) (vv [] [some 0] (qdO N a g e_r24) .nil rfl rfl (.new rfl rfl (.same fa) rfl .nil) (rc (.same (qf (qa .u64) _)) (rc (.same nI) rn)) (.slice rfl) rfl)) az) ?_)
 refine sh fol [(0,vl (qa .u64) a),(9,.i g),(10,vl (qa .u64) d),(11,.slice 0 0 t.length t.length 1),(12,.i (d.length:Int))] ?_
 obtain⟨K,e_l26,h⟩:=bnd h
 refine sq (gq fol [5] ((0,vl (qa .u64) a)::(9,.i g)::(10,vl (qa .u64) d)::(kG t (d.length:Int) K [])) [.cells (t.flatMap (qa .u64).c),.cells (K.flatMap (qa .u64).c)] (ac (hs (.run [] (qR ZT 63 (.i (w64 ((w64 ((a.length:Int)-(d.length:Int)))+1))) (.i (w64 ((w64 ((a.length:Int)-(d.length:Int)))+1)))) [.cells (t.flatMap (qa .u64).c)] (.slice 1 0 K.length K.length 1) [.cells (t.flatMap (qa .u64).c),.cells (K.flatMap (qa .u64).c)] false) (xW jg (E:=(qa .u64)) (z:=0) rfl (by kernel_rfl) e_l26 rfl)) az) ?_)
 refine sq ?_
 refine sh fol ((9,.i g)::(10,vl (qa .u64) d)::(kG t (d.length:Int) K [(14,.i (w64 ((a.length:Int)-(d.length:Int))))])) ?_
 refine Goes.block ?_
 obtain⟨r32,k,h⟩:=bnd h
 refine Goes.imp (Q:=fun x s'=>(x= .exit 2/\ ∃a1 e,(a1,e)=r32/\Sub s' (ofG 137 ((9,.i g)::(kG a1 (d.length:Int) e [])),[.cells (a1.flatMap (qa .u64).c),.cells (e.flatMap (qa .u64).c)]))) ?_ ?_
 ·refine Uc (fun M s=> ∃(r:List Int) (u:List Int) (q:Int),s=(ofG 137 ((9,.i g)::(10,vl (qa .u64) d)::(kG r (d.length:Int) u [(14,.i q)])),[.cells (r.flatMap (qa .u64).c),.cells (u.flatMap (qa .u64).c)])/\qbc N d M r u q=some r32) ?_ (m:=N) ⟨_,_,_,rfl,k⟩
  rintro M s ⟨r,u,q,rfl,k⟩
  cases M with
  |zero=>simp only[qbc]at k;cases k
  |succ M=>
   rw[qbc]at k
   refine sq ?_
   refine sh fol ((9,.i g)::(10,vl (qa .u64) d)::(kG r (d.length:Int) u [(14,.i q),(81,.bool (decide (q>=0)))])) ?_
   refine ihD k (fun c33 k=>?_) (fun c33 k=>?_)
   ·refine Goes.skip ?_
    refine sq (Goes.block ?_)
    obtain⟨⟨L,n36⟩,e_w34,k⟩:=bnd k
    try dsimp only at k
    obtain⟨⟨B,n39⟩,e_r37,k⟩:=bnd k
    try dsimp only at k
    obtain⟨u40,e_u40,k⟩:=bnd k
    obtain⟨x41,a2,k⟩:=bnd k
    obtain⟨G,a3,k⟩:=bnd k
    refine gq fol [8,10,11,12] ((9,.i g)::(10,vl (qa .u64) d)::(kG r (d.length:Int) u [(14,.i q)])) [.cells (B.flatMap (qa .u64).c),.cells (G.flatMap (qa .u64).c)] (ac (hs (.done (.opt (zi ZT 63 (.slice 0 0 r.length r.length 1) (some (.i q)) (some (.i (w64 ((w64 (q+(d.length:Int)))+1)))) none)) (.slice 0 L n36 (r.length-L) 1)) (wn_ix jg e_w34)) (ac (hs (.callH 188 [.slice 0 L n36 (r.length-L) 1,vl (qa .u64) d] [.cells (r.flatMap (qa .u64).c),.cells (u.flatMap (qa .u64).c)] [0] (.int .u64 n39) [.cells (B.flatMap (qa .u64).c),.cells (u.flatMap (qa .u64).c)]) (vv [some 0] [some 0,none] (qiS N r L n36 (r.length-L) d e_r37) (.ks .nil) rfl rfl (.back rfl rfl (.same fa) rfl (.old rfl rfl .nil)) (rc (.slice rfl) (rc (.same (qf (qa .u64) _)) rn)) (.same nI) rfl)) (ac (hs (.done (.opt (qc ZT 63 (.slice 1 0 u.length u.length 1) (.i q))) (.ptr 1 ((q:Int).toNat*1+0))) (zI jg a2)) (ac (hs (.run [1] (qm ZT 164 (.ptr 1 ((q:Int).toNat*1+0)) (.int .u64 n39)) [.cells (B.flatMap (qa .u64).c),.cells (u.flatMap (qa .u64).c)] .undef [.cells (B.flatMap (qa .u64).c),.cells (G.flatMap (qa .u64).c)] true) (zY (E:=(qa .u64)) (l:=u) (y:=n39) rfl (show _=some 1 by kernel_rfl) rfl a2 rfl rfl rfl rfl rfl a3 rfl)) az)))) ?_
    refine Goes.sub (show Sub (ofG 137 ((9,.i g)::(10,vl (qa .u64) d)::(kG r (d.length:Int) u [(14,.i q)])),[.cells (B.flatMap (qa .u64).c),.cells (G.flatMap (qa .u64).c)]) (ofG 137 ((9,.i g)::(10,vl (qa .u64) d)::(kG B (d.length:Int) G [(14,.i q)])),[.cells (B.flatMap (qa .u64).c),.cells (G.flatMap (qa .u64).c)])from(Sub.norm [] [some 0,some 1] rfl rfl (.keep (.same nI) (.keep (.same (qf (qa .u64) _)) (.keep (.sliceE rfl (qh2 e_u40)) (.keep (.same nI) (.keep (.sliceE rfl (qH a3)) (.keep (.same nI) .nil)))))) (.ks (.ks .nil)))) ?_
    refine gh fol ((9,.i g)::(10,vl (qa .u64) d)::(kG B (d.length:Int) G [(14,.i (w64 (q-1)))])) ?_
    exact⟨M,(ofG 137 ((9,.i g)::(10,vl (qa .u64) d)::(kG B (d.length:Int) G [(14,.i (w64 (q-1)))])),[.cells (B.flatMap (qa .u64).c),.cells (G.flatMap (qa .u64).c)]),Nat.lt_succ_self _,(Sub.refl _),_,_,_,rfl,k⟩
   refine Goes.exit ?_
   obtain rfl:=si k
   exact⟨rfl,_,_,rfl,(Sub.keep [9,11,12,13] rfl rfl)⟩
 rintro x s' ⟨rfl,a1,e,rfl,hsub⟩
 try dsimp only at h
 refine Goes.sub hsub ?_
 refine sq ?_
 refine sh fol ((9,.i g)::(kG a1 (d.length:Int) e [(96,.i (d.length:Int)),(97,.i 0)])) ?_
 refine Goes.block ?_
 obtain⟨r46,v,h⟩:=bnd h
 refine Goes.imp (Q:=fun x s'=>(x= .exit 4/\ ∃O,O=r46/\Sub s' (ofG 137 (kG O (d.length:Int) e []),[.cells (O.flatMap (qa .u64).c),.cells (e.flatMap (qa .u64).c)]))) ?_ ?_
 ·refine Uc (fun M s=> ∃(p:List Int) (f:Int),s=(ofG 137 ((9,.i g)::(kG p (d.length:Int) e (kBO (d.length:Int) f))),[.cells (p.flatMap (qa .u64).c),.cells (e.flatMap (qa .u64).c)])/\qbf g d M p f=some r46) ?_ (m:=N) ⟨_,_,rfl,v⟩
  rintro M s ⟨p,f,rfl,v⟩
  cases M with
  |zero=>simp only[qbf]at v;cases v
  |succ M=>
   rw[qbf]at v
   refine sh fol ((9,.i g)::(kG p (d.length:Int) e [(96,.i (d.length:Int)),(97,.i f),(98,.bool (decide (f<(d.length:Int))))])) ?_
   refine sq ?_
   refine ihD v (fun c47 v=>?_) (fun c47 v=>?_)
   ·refine Goes.skip ?_
    refine sq ?_
    obtain⟨r49,n,v⟩:=bnd v
    refine Goes.imp (Q:=fun x s'=>(x= .normal/\ ∃I,I=r49/\Sub s' (ofG 137 ((9,.i g)::(kG I (d.length:Int) e (kBO (d.length:Int) f))),[.cells (I.flatMap (qa .u64).c),.cells (e.flatMap (qa .u64).c)]))) ?_ ?_
    ·refine Goes.block ?_
     refine sh fol ((9,.i g)::(kG p (d.length:Int) e ((15,.i f)::(kBO (d.length:Int) f)))) ?_
     obtain⟨x50,C,n⟩:=bnd n
     obtain⟨q51,e_q51,n⟩:=bnd n
     obtain⟨j,a4,n⟩:=bnd n
     refine sq (gq fol [2,3,5,6,7] ((9,.i g)::(kG p (d.length:Int) e ((15,.i f)::(kBO (d.length:Int) f)))) [.cells (j.flatMap (qa .u64).c),.cells (e.flatMap (qa .u64).c)] (ac (hs (.done (.opt (qc ZT 63 (.slice 0 0 p.length p.length 1) (.i f))) (.ptr 0 ((f:Int).toNat*1+0))) (zI jg C)) (ac (hs (.run [0] (qV ZT 164 (.ptr 0 ((f:Int).toNat*1+0))) [.cells (p.flatMap (qa .u64).c),.cells (e.flatMap (qa .u64).c)] (.int .u64 x50) [.cells (p.flatMap (qa .u64).c),.cells (e.flatMap (qa .u64).c)] false) (yE jr (E:=(qa .u64)) (l:=p) rfl rfl C (nl rfl) rfl)) (ac (hs (.done (.opt (zx ZT .shr 164 (.tmp 103) (.tmp 104) (.int .u64 x50) (.i g))) (.int .u64 q51)) (qh1 e_q51)) (ac (hs (.done (.opt (qc ZT 63 (.slice 0 0 p.length p.length 1) (.i f))) (.ptr 0 ((f:Int).toNat*1+0))) (zI jg C)) (ac (hs (.run [0] (qm ZT 164 (.ptr 0 ((f:Int).toNat*1+0)) (.int .u64 q51)) [.cells (p.flatMap (qa .u64).c),.cells (e.flatMap (qa .u64).c)] .undef [.cells (j.flatMap (qa .u64).c),.cells (e.flatMap (qa .u64).c)] true) (zY (E:=(qa .u64)) (l:=p) (y:=q51) rfl (show _=some 1 by kernel_rfl) rfl C rfl rfl rfl rfl rfl a4 rfl)) az))))) ?_)
     refine Goes.sub (show Sub (ofG 137 ((9,.i g)::(kG p (d.length:Int) e ((15,.i f)::(kBO (d.length:Int) f)))),[.cells (j.flatMap (qa .u64).c),.cells (e.flatMap (qa .u64).c)]) (ofG 137 ((9,.i g)::(kG j (d.length:Int) e ((15,.i f)::(kBO (d.length:Int) f)))),[.cells (j.flatMap (qa .u64).c),.cells (e.flatMap (qa .u64).c)])from(Sub.norm [] [some 0,some 1] rfl rfl (.keep (.same nI) (.keep (.sliceE rfl (qH a4)) (.keep (.same nI) (.keep (.slice rfl) (.keep (.same nI) (.keep (.same nI) (.keep (.same nI) .nil))))))) (.ks (.ks .nil)))) ?_
     refine sq ?_
     obtain⟨b54,w,n⟩:=bnd n
     refine Goes.cut (s':=(ofG 137 ((9,.i g)::(kG j (d.length:Int) e [(15,.i f),(96,.i (d.length:Int)),(97,.i f),(115,.bool b54)])),[.cells (j.flatMap (qa .u64).c),.cells (e.flatMap (qa .u64).c)])) ?_ ?_
     ·rcases wyD w with⟨c53,w⟩|⟨c53,w⟩
      ·obtain rfl:=si w
       exact tr fol [2] ((9,.i g)::(kG j (d.length:Int) e [(15,.i f),(96,.i (d.length:Int)),(97,.i f),(115,.bool (decide ((w64 (f+1))<(j.length:Int))))])) (ac (gw c53) az)
      obtain rfl:=si w
      exact tr fol [2] ((9,.i g)::(kG j (d.length:Int) e [(15,.i f),(96,.i (d.length:Int)),(97,.i f),(115,.bool false)])) (ac (gw c53) az)
     refine ihB n (fun c56 n=>?_) (fun c56 n=>?_)
     ·obtain⟨x57,D,n⟩:=bnd n
      obtain⟨x58,a5,n⟩:=bnd n
      obtain⟨q59,e_q59,n⟩:=bnd n
      obtain⟨a6,a7,n⟩:=bnd n
      refine gq fol [2,3,7,8,11,13,14] ((9,.i g)::(kG j (d.length:Int) e (kBO (d.length:Int) f))) [.cells (a6.flatMap (qa .u64).c),.cells (e.flatMap (qa .u64).c)] (ac (hs (.done (.opt (qc ZT 63 (.slice 0 0 j.length j.length 1) (.i f))) (.ptr 0 ((f:Int).toNat*1+0))) (zI jg D)) (ac (hs (.run [0] (qV ZT 164 (.ptr 0 ((f:Int).toNat*1+0))) [.cells (j.flatMap (qa .u64).c),.cells (e.flatMap (qa .u64).c)] (.int .u64 x57) [.cells (j.flatMap (qa .u64).c),.cells (e.flatMap (qa .u64).c)] false) (yE jr (E:=(qa .u64)) (l:=j) rfl rfl D (nl rfl) rfl)) (ac (hs (.done (.opt (qc ZT 63 (.slice 0 0 j.length j.length 1) (.i (w64 (f+1))))) (.ptr 0 ((w64 (f+1):Int).toNat*1+0))) (zI jg a5)) (ac (hs (.run [0] (qV ZT 164 (.ptr 0 ((w64 (f+1):Int).toNat*1+0))) [.cells (j.flatMap (qa .u64).c),.cells (e.flatMap (qa .u64).c)] (.int .u64 x58) [.cells (j.flatMap (qa .u64).c),.cells (e.flatMap (qa .u64).c)] false) (yE jr (E:=(qa .u64)) (l:=j) rfl rfl a5 (nl rfl) rfl)) (ac (hs (.done (.opt (zx ZT .shl 164 (.tmp 124) (.tmp 126) (.int .u64 x58) (.i (w64 (64-g))))) (.int .u64 q59)) (qgU e_q59)) (ac (hs (.done (.opt (qc ZT 63 (.slice 0 0 j.length j.length 1) (.i f))) (.ptr 0 ((f:Int).toNat*1+0))) (zI jg D)) (ac (hs (.run [0] (qm ZT 164 (.ptr 0 ((f:Int).toNat*1+0)) (.int .u64 (orI .u64 x57 q59))) [.cells (j.flatMap (qa .u64).c),.cells (e.flatMap (qa .u64).c)] .undef [.cells (a6.flatMap (qa .u64).c),.cells (e.flatMap (qa .u64).c)] true) (zY (E:=(qa .u64)) (l:=j) (y:=orI .u64 x57 q59) rfl (show _=some 1 by kernel_rfl) rfl D rfl rfl rfl rfl rfl a7 rfl)) az))))))) ?_
      obtain rfl:=si n
      exact⟨rfl,_,rfl,((show Sub (ofG 137 ((9,.i g)::(kG j (d.length:Int) e (kBO (d.length:Int) f))),[.cells (a6.flatMap (qa .u64).c),.cells (e.flatMap (qa .u64).c)]) (ofG 137 ((9,.i g)::(kG a6 (d.length:Int) e (kBO (d.length:Int) f))),[.cells (a6.flatMap (qa .u64).c),.cells (e.flatMap (qa .u64).c)])from(Sub.norm [] [some 0,some 1] rfl rfl (.keep (.same nI) (.keep (.sliceE rfl (qH a7)) (.keep (.same nI) (.keep (.slice rfl) (.keep (.same nI) (.keep (.same nI) .nil)))))) (.ks (.ks .nil)))).trans (Sub.refl _))⟩
     refine Goes.skip ?_
     obtain rfl:=si n
     exact⟨rfl,_,rfl,(Sub.keep [9,11,12,13,96,97] rfl rfl)⟩
    rintro x s' ⟨rfl,I,rfl,hsub⟩
    refine Goes.sub hsub ?_
    refine gh fol ((9,.i g)::(kG I (d.length:Int) e (kBO (d.length:Int) (w64 (f+1))))) ?_
    exact⟨M,(ofG 137 ((9,.i g)::(kG I (d.length:Int) e (kBO (d.length:Int) (w64 (f+1))))),[.cells (I.flatMap (qa .u64).c),.cells (e.flatMap (qa .u64).c)]),Nat.lt_succ_self _,(Sub.refl _),_,_,rfl,v⟩
   refine Goes.exit ?_
   obtain rfl:=si v
   exact⟨rfl,_,rfl,(Sub.keep [11,12,13] rfl rfl)⟩
 rintro x s' ⟨rfl,O,rfl,hsub⟩
 refine Goes.sub hsub ?_
 refine sq (Goes.sub (s':=(ofG 137 [(11,vl (qa .u64) O),(12,.i (d.length:Int)),(13,.slice 0 0 e.length e.length 1)],[.cells (e.flatMap (qa .u64).c)])) (Sub.norm [0] [some 1] rfl rfl (.keep (.frz (U0 (E:=(qa .u64)) rfl rfl (nl rfl)) (qf (qa .u64) _)) (.keep (.same nI) (.keep (.slice rfl) .nil))) (.ks .nil)) ?_)
 obtain⟨a8,e_r62,h⟩:=bnd h
 obtain⟨s63,e_s63,h⟩:=bnd h
 obtain⟨a9,e_r64,h⟩:=bnd h
 refine gq fol [1,4,5] [(4,vl (qa .u64) a8),(5,vl (qa .u64) a9)] [.frozen (e.flatMap (qa .u64).c)] (ac (hs (.callF 166 [.slice 0 0 e.length e.length 1] [.cells (e.flatMap (qa .u64).c)] [0] [vl (qa .u64) e] (vl (qa .u64) a8)) (qa6 (FzL.cons (U0 (E:=(qa .u64)) rfl rfl (nl rfl)) FzL.nil) (xR N e e_r62) (ql (qa .u64) _ (nl rfl)))) (ac (hs (.done (.opt (zi ZT 63 (vl (qa .u64) O) none (some (.i (d.length:Int))) none)) (vl (qa .u64) s63)) (qkU jg (E:=(qa .u64)) rfl none (some (d.length:Int)) e_s63)) (ac (cv (xR N s63 e_r64)) az))) ?_
 refine Goes.sub (show Sub (ofG 137 [(4,vl (qa .u64) a8),(5,vl (qa .u64) a9)],[.frozen (e.flatMap (qa .u64).c)]) (ofG 137 [(4,vl (qa .u64) a8),(5,vl (qa .u64) a9)],[])from(Sub.norm [] [] rfl rfl (.keep (.same (qf (qa .u64) _)) (.keep (.same (qf (qa .u64) _)) .nil)) .nil)) ?_
 refine Goes.ret ?_
 obtain rfl:=si h
 exact(gw2 [vl (qa .u64) a8,vl (qa .u64) a9] (FzW.tuple (qh.cons (Ua (ql (qa .u64) _ (nl rfl))) (qh.cons (Ua (ql (qa .u64) _ (nl rfl))) qh.nil))))
def qag (c:List Int) (d:List Int):Nat->(List Int)->Int->Int->Option ((List Int)×Int)
 |0,_,_,_=>none
 |K+1,e,a,j=>
  if a<(c.length:Int)then
  ((if a<(d.length:Int)then
  (idx d a).bind fun f=>
  some f
  else
  some 0:Option Int)).bind fun g=>
  (idx c a).bind fun h=>
  (qgT h g j).bind fun b=>
  (idx e a).bind fun k=>
  (put e a b.1).bind fun i=>
  qag c d K i (w64 (a+1)) b.2
  else
  some (e,j)
def qeu (N:Nat) (b:List Int) (y:List Int):Option (List Int):=
 ((if(b.length:Int)<(y.length:Int)then
 some (y,b)
 else
 some (b,y):Option ((List Int)×(List Int)))).bind fun(a,g)=>
 (mk 8 (w64 ((a.length:Int)+1)) 0).bind fun h=>
 (qag a g N h 0 0).bind fun(f,c)=>
 (idx f (a.length:Int)).bind fun i=>
 (put f (a.length:Int) c).bind fun d=>
 (qbm N d).bind fun e=>
 some e
theorem qhJ (N:Nat) (D:List Int) (y:List Int) {res:List Int} (h:qeu N D y=some res):qb ZT (.fn 195) [vl (qa .u64) D,vl (qa .u64) y] [] (vl (qa .u64) res) []:=by
 unfold qeu at h
 refine Ub Tryz.func195 rfl rfl (m:=54) rfl (rs:=[.tmp 4]) rfl (l:=[(0,vl (qa .u64) D),(1,vl (qa .u64) y)]) rfl ?_
 refine sh fol [(0,vl (qa .u64) D),(1,vl (qa .u64) y)] ?_
 refine sq ?_
 refine sh fol ((0,vl (qa .u64) D)::(1,vl (qa .u64) y)::(kBe (decide ((D.length:Int)<(y.length:Int))))) ?_
 obtain⟨U,g3,h⟩:=bnd h
 refine Goes.imp (Q:=fun x s'=>(x= .normal/\ ∃b f,(b,f)=U/\Sub s' (ofG 54 [(0,vl (qa .u64) b),(1,vl (qa .u64) f)],[]))) ?_ ?_
 ·refine ihD g3 (fun V g3=>?_) (fun V g3=>?_)
  ·refine gh fol [(0,vl (qa .u64) y),(1,vl (qa .u64) D)] ?_
   obtain rfl:=si g3
   exact⟨rfl,_,_,rfl,(Sub.refl _)⟩
  refine Goes.skip ?_
  obtain rfl:=si g3
  exact⟨rfl,_,_,rfl,(Sub.keep [0,1] rfl rfl)⟩
 rintro x s' ⟨rfl,b,f,rfl,hsub⟩
 try dsimp only at h
 refine Goes.sub hsub ?_
 obtain⟨F,I,h⟩:=bnd h
 refine sq (gq fol [3] ((0,vl (qa .u64) b)::(1,vl (qa .u64) f)::(kC F [])) [.cells (F.flatMap (qa .u64).c)] (ac (hs (.run [] (qR ZT 63 (.i (w64 ((b.length:Int)+1))) (.i (w64 ((b.length:Int)+1)))) [] (.slice 0 0 F.length F.length 1) [.cells (F.flatMap (qa .u64).c)] false) (xW jg (E:=(qa .u64)) (z:=0) rfl (by kernel_rfl) I rfl)) az) ?_)
 refine sh fol ((0,vl (qa .u64) b)::(1,vl (qa .u64) f)::(kC F [(6,.int .u64 0)])) ?_
 refine sq ?_
 refine sh fol ((0,vl (qa .u64) b)::(1,vl (qa .u64) f)::(kC F [(6,.int .u64 0),(21,.i (b.length:Int)),(22,.i 0)])) ?_
 refine Goes.block ?_
 obtain⟨J,a,h⟩:=bnd h
 refine Goes.imp (Q:=fun x s'=>(x= .exit 0/\ ∃A o,(A,o)=J/\Sub s' (ofG 54 ((0,vl (qa .u64) b)::(kC A (kAU o []))),[.cells (A.flatMap (qa .u64).c)]))) ?_ ?_
 ·refine Uc (fun M s=> ∃(g:List Int) (e:Int) (B:Int),s=(ofG 54 ((0,vl (qa .u64) b)::(1,vl (qa .u64) f)::(kC g (kAU B (kAP (b.length:Int) e [])))),[.cells (g.flatMap (qa .u64).c)])/\qag b f M g e B=some J) ?_ (m:=N) ⟨_,_,_,rfl,a⟩
  rintro M s ⟨g,e,B,rfl,a⟩
  cases M with
  |zero=>simp only[qag]at a;cases a
  |succ M=>
   rw[qag]at a
   refine sh fol ((0,vl (qa .u64) b)::(1,vl (qa .u64) f)::(kC g (kAU B (kAP (b.length:Int) e [(23,.bool (decide (e<(b.length:Int))))])))) ?_
   refine sq ?_
   refine ihD a (fun K a=>?_) (fun K a=>?_)
   ·refine Goes.skip ?_
    refine sq (Goes.block ?_)
    refine sh fol ((0,vl (qa .u64) b)::(1,vl (qa .u64) f)::(kC g (kAU B ((7,.i e)::(kAP (b.length:Int) e []))))) ?_
    refine sh fol ((0,vl (qa .u64) b)::(1,vl (qa .u64) f)::(kC g (kAU B ((7,.i e)::(kCB (kAP (b.length:Int) e [])))))) ?_
    refine sq ?_
    refine sh fol ((0,vl (qa .u64) b)::(1,vl (qa .u64) f)::(kC g (kAU B ((7,.i e)::(kCB (kAP (b.length:Int) e [(28,.bool (decide (e<(f.length:Int))))])))))) ?_
    obtain⟨L,k,a⟩:=bnd a
    refine Goes.imp (Q:=fun x s'=>(x= .normal/\ ∃C,C=L/\Sub s' (ofG 54 ((0,vl (qa .u64) b)::(1,vl (qa .u64) f)::(kC g (kAU B ((7,.i e)::(8,.int .u64 C)::(kAP (b.length:Int) e []))))),[.cells (g.flatMap (qa .u64).c)]))) ?_ ?_
    ·refine ihD k (fun O k=>?_) (fun O k=>?_)
     ·obtain⟨P,p,k⟩:=bnd k
      refine gr fol [2,3] ((0,vl (qa .u64) b)::(1,vl (qa .u64) f)::(kC g (kAU B ((7,.i e)::(8,.int .u64 P)::(kAP (b.length:Int) e []))))) (ac (iv jg (qa .u64) p) (ac (lv 0 jr (qa .u64) p rfl) az)) ?_
      obtain rfl:=si k
      exact⟨rfl,_,rfl,(Sub.refl _)⟩
     refine Goes.skip ?_
     obtain rfl:=si k
     exact⟨rfl,_,rfl,(Sub.keep [0,1,5,6,7,8,21,22] rfl rfl)⟩
    rintro x s' ⟨rfl,C,rfl,hsub⟩
    refine Goes.sub hsub ?_
    obtain⟨T,q,a⟩:=bnd a
    obtain⟨n,G,a⟩:=bnd a
    obtain⟨W,r,a⟩:=bnd a
    obtain⟨j,t,a⟩:=bnd a
    refine gq fol [4,5,8,12,13] ((0,vl (qa .u64) b)::(1,vl (qa .u64) f)::(kC g (kAU n.2 (kAP (b.length:Int) e [])))) [.cells (j.flatMap (qa .u64).c)] (ac (iv jg (qa .u64) q) (ac (lv 0 jr (qa .u64) q rfl) (ac (cv (qdl T C B G)) (ac (hs (.done (.opt (qc ZT 63 (.slice 0 0 g.length g.length 1) (.i e))) (.ptr 0 ((e:Int).toNat*1+0))) (zI jg r)) (ac (hs (.run [0] (qm ZT 164 (.ptr 0 ((e:Int).toNat*1+0)) (.int .u64 n.1)) [.cells (g.flatMap (qa .u64).c)] .undef [.cells (j.flatMap (qa .u64).c)] true) (zY (E:=(qa .u64)) (l:=g) (y:=n.1) rfl (show _=some 1 by kernel_rfl) rfl r rfl rfl rfl rfl rfl t rfl)) az))))) ?_
    refine Goes.sub (show Sub (ofG 54 ((0,vl (qa .u64) b)::(1,vl (qa .u64) f)::(kC g (kAU n.2 (kAP (b.length:Int) e [])))),[.cells (j.flatMap (qa .u64).c)]) (ofG 54 ((0,vl (qa .u64) b)::(1,vl (qa .u64) f)::(kC j (kAU n.2 (kAP (b.length:Int) e [])))),[.cells (j.flatMap (qa .u64).c)])from(Sub.norm [] [some 0] rfl rfl (.keep (.same (qf (qa .u64) _)) (.keep (.same (qf (qa .u64) _)) (.keep (.sliceE rfl (qH t)) (.keep (.same nI) (.keep (.same nI) (.keep (.same nI) .nil)))))) (.ks .nil))) ?_
    refine gh fol ((0,vl (qa .u64) b)::(1,vl (qa .u64) f)::(kC j (kAU n.2 (kAP (b.length:Int) (w64 (e+1)) [])))) ?_
    exact⟨M,(ofG 54 ((0,vl (qa .u64) b)::(1,vl (qa .u64) f)::(kC j (kAU n.2 (kAP (b.length:Int) (w64 (e+1)) [])))),[.cells (j.flatMap (qa .u64).c)]),Nat.lt_succ_self _,(Sub.refl _),_,_,_,rfl,a⟩
   refine Goes.exit ?_
   obtain rfl:=si a
   exact⟨rfl,_,_,rfl,(Sub.keep [0,5,6] rfl rfl)⟩
 rintro x s' ⟨rfl,A,o,rfl,hsub⟩
 try dsimp only at h
 refine Goes.sub hsub ?_
 obtain⟨X,u,h⟩:=bnd h
 obtain⟨d,v,h⟩:=bnd h
 refine sq (gq fol [4,5] (kC A []) [.cells (d.flatMap (qa .u64).c)] (ac (hs (.done (.opt (qc ZT 63 (.slice 0 0 A.length A.length 1) (.i (b.length:Int)))) (.ptr 0 (((b.length:Int):Int).toNat*1+0))) (zI jg u)) (ac (hs (.run [0] (qm ZT 164 (.ptr 0 (((b.length:Int):Int).toNat*1+0)) (.int .u64 o)) [.cells (A.flatMap (qa .u64).c)] .undef [.cells (d.flatMap (qa .u64).c)] true) (zY (E:=(qa .u64)) (l:=A) (y:=o) rfl (show _=some 1 by kernel_rfl) rfl u rfl rfl rfl rfl rfl v rfl)) az)) ?_)
 refine Goes.sub (show Sub (ofG 54 (kC A []),[.cells (d.flatMap (qa .u64).c)]) (ofG 54 (kC d []),[.cells (d.flatMap (qa .u64).c)])from(Sub.norm [] [some 0] rfl rfl (.keep (.sliceE rfl (qH v)) .nil) (.ks .nil))) ?_
 obtain⟨w,H,h⟩:=bnd h
 refine sq (gq fol [1] [(4,vl (qa .u64) w)] [.frozen (d.flatMap (qa .u64).c)] (ac (hs (.callF 166 [.slice 0 0 d.length d.length 1] [.cells (d.flatMap (qa .u64).c)] [0] [vl (qa .u64) d] (vl (qa .u64) w)) (qa6 (FzL.cons (U0 (E:=(qa .u64)) rfl rfl (nl rfl)) FzL.nil) (xR N d H) (ql (qa .u64) _ (nl rfl)))) az) ?_)
 refine Goes.sub (show Sub (ofG 54 [(4,vl (qa .u64) w)],[.frozen (d.flatMap (qa .u64).c)]) (ofG 54 [(4,vl (qa .u64) w)],[])from(Sub.norm [] [] rfl rfl (.keep (.same (qf (qa .u64) _)) .nil) .nil)) ?_
 refine Goes.ret ?_
 obtain rfl:=si h
 exact(gw2 [vl (qa .u64) w] (Ua (ql (qa .u64) _ (nl rfl))))
def qaj (c:List Int) (y:List Int):Nat->(List Int)->Int->Int->Option (List Int)
 |0,_,_,_=>none
 |K+1,d,a,h=>
  if a<(c.length:Int)then
  ((if a<(y.length:Int)then
  (idx y a).bind fun e=>
  some e
  else
  some 0:Option Int)).bind fun i=>
  (idx c a).bind fun f=>
  (qlB f i h).bind fun b=>
  (idx d a).bind fun j=>
  (put d a b.1).bind fun g=>
  qaj c y K g (w64 (a+1)) b.2
  else
  some d
def qc9 (N:Nat) (b:List Int) (y:List Int):Option (List Int):=
 (mk 8 (b.length:Int) 0).bind fun c=>
 (qaj b y N c 0 0).bind fun d=>
 (qbm N d).bind fun a=>
 some a
theorem qeZ (N:Nat) (a:List Int) (y:List Int) {res:List Int} (h:qc9 N a y=some res):qb ZT (.fn 196) [vl (qa .u64) a,vl (qa .u64) y] [] (vl (qa .u64) res) []:=by
 unfold qc9 at h
 refine Ub Tryz.func196 rfl rfl (m:=41) rfl (rs:=[.tmp 4]) rfl (l:=[(0,vl (qa .u64) a),(1,vl (qa .u64) y)]) rfl ?_
 refine sh fol [(0,vl (qa .u64) a),(1,vl (qa .u64) y)] ?_
 obtain⟨t,A,h⟩:=bnd h
 refine sq (gq fol [2] ((0,vl (qa .u64) a)::(1,vl (qa .u64) y)::(kC t [])) [.cells (t.flatMap (qa .u64).c)] (ac (hs (.run [] (qR ZT 63 (.i (a.length:Int)) (.i (a.length:Int))) [] (.slice 0 0 t.length t.length 1) [.cells (t.flatMap (qa .u64).c)] false) (xW jg (E:=(qa .u64)) (z:=0) rfl (by kernel_rfl) A rfl)) az) ?_)
 refine sh fol ((0,vl (qa .u64) a)::(1,vl (qa .u64) y)::(kC t [(6,.int .u64 0)])) ?_
 refine sq ?_
 refine sh fol ((0,vl (qa .u64) a)::(1,vl (qa .u64) y)::(kC t ((6,.int .u64 0)::(kCA (a.length:Int))))) ?_
 refine Goes.block ?_
 obtain⟨G,d,h⟩:=bnd h
 refine Goes.imp (Q:=fun x s'=>(x= .exit 0/\ ∃j,j=G/\Sub s' (ofG 41 (kC j []),[.cells (j.flatMap (qa .u64).c)]))) ?_ ?_
 ·refine Uc (fun M s=> ∃(e:List Int) (b:Int) (r:Int),s=(ofG 41 ((0,vl (qa .u64) a)::(1,vl (qa .u64) y)::(kC e (kAU r (kZ (a.length:Int) b)))),[.cells (e.flatMap (qa .u64).c)])/\qaj a y M e b r=some G) ?_ (m:=N) ⟨_,_,_,rfl,d⟩
  rintro M s ⟨e,b,r,rfl,d⟩
  cases M with
  |zero=>simp only[qaj]at d;cases d
  |succ M=>
   rw[qaj]at d
   refine sh fol ((0,vl (qa .u64) a)::(1,vl (qa .u64) y)::(kC e (kAU r ((13,.i (a.length:Int))::(14,.i b)::(kBy (decide (b<(a.length:Int)))))))) ?_
   refine sq ?_
   refine ihD d (fun H d=>?_) (fun H d=>?_)
   ·refine Goes.skip ?_
    refine sq (Goes.block ?_)
    refine sh fol ((0,vl (qa .u64) a)::(1,vl (qa .u64) y)::(kC e (kAU r ((7,.i b)::(kZ (a.length:Int) b))))) ?_
    refine sh fol ((0,vl (qa .u64) a)::(1,vl (qa .u64) y)::(kC e (kAU r ((7,.i b)::(kCB (kZ (a.length:Int) b)))))) ?_
    refine sq ?_
    refine sh fol ((0,vl (qa .u64) a)::(1,vl (qa .u64) y)::(kC e (kAU r ((7,.i b)::(kCB [(13,.i (a.length:Int)),(14,.i b),(20,.bool (decide (b<(y.length:Int))))]))))) ?_
    obtain⟨I,u,d⟩:=bnd d
    refine Goes.imp (Q:=fun x s'=>(x= .normal/\ ∃B,B=I/\Sub s' (ofG 41 ((0,vl (qa .u64) a)::(1,vl (qa .u64) y)::(kC e (kAU r ((7,.i b)::(8,.int .u64 B)::(kZ (a.length:Int) b))))),[.cells (e.flatMap (qa .u64).c)]))) ?_ ?_
    ·refine ihD u (fun C u=>?_) (fun C u=>?_)
     ·obtain⟨D,k,u⟩:=bnd u
      refine gr fol [2,3] ((0,vl (qa .u64) a)::(1,vl (qa .u64) y)::(kC e (kAU r ((7,.i b)::(8,.int .u64 D)::(kZ (a.length:Int) b))))) (ac (iv jg (qa .u64) k) (ac (lv 0 jr (qa .u64) k rfl) az)) ?_
      obtain rfl:=si u
      exact⟨rfl,_,rfl,(Sub.refl _)⟩
     refine Goes.skip ?_
     obtain rfl:=si u
     exact⟨rfl,_,rfl,(Sub.keep [0,1,5,6,7,8,13,14] rfl rfl)⟩
    rintro x s' ⟨rfl,B,rfl,hsub⟩
    refine Goes.sub hsub ?_
    obtain⟨F,n,d⟩:=bnd d
    obtain⟨g,v,d⟩:=bnd d
    obtain⟨J,o,d⟩:=bnd d
    obtain⟨f,p,d⟩:=bnd d
    refine gq fol [4,5,8,12,13] ((0,vl (qa .u64) a)::(1,vl (qa .u64) y)::(kC e (kAU g.2 (kZ (a.length:Int) b)))) [.cells (f.flatMap (qa .u64).c)] (ac (iv jg (qa .u64) n) (ac (lv 0 jr (qa .u64) n rfl) (ac (cv (qix F B r v)) (ac (hs (.done (.opt (qc ZT 63 (.slice 0 0 e.length e.length 1) (.i b))) (.ptr 0 ((b:Int).toNat*1+0))) (zI jg o)) (ac (hs (.run [0] (qm ZT 164 (.ptr 0 ((b:Int).toNat*1+0)) (.int .u64 g.1)) [.cells (e.flatMap (qa .u64).c)] .undef [.cells (f.flatMap (qa .u64).c)] true) (zY (E:=(qa .u64)) (l:=e) (y:=g.1) rfl (show _=some 1 by kernel_rfl) rfl o rfl rfl rfl rfl rfl p rfl)) az))))) ?_
    refine Goes.sub (show Sub (ofG 41 ((0,vl (qa .u64) a)::(1,vl (qa .u64) y)::(kC e (kAU g.2 (kZ (a.length:Int) b)))),[.cells (f.flatMap (qa .u64).c)]) (ofG 41 ((0,vl (qa .u64) a)::(1,vl (qa .u64) y)::(kC f (kAU g.2 (kZ (a.length:Int) b)))),[.cells (f.flatMap (qa .u64).c)])from(Sub.norm [] [some 0] rfl rfl (.keep (.same (qf (qa .u64) _)) (.keep (.same (qf (qa .u64) _)) (.keep (.sliceE rfl (qH p)) (.keep (.same nI) (.keep (.same nI) (.keep (.same nI) .nil)))))) (.ks .nil))) ?_
    refine gh fol ((0,vl (qa .u64) a)::(1,vl (qa .u64) y)::(kC f (kAU g.2 (kZ (a.length:Int) (w64 (b+1)))))) ?_
    exact⟨M,(ofG 41 ((0,vl (qa .u64) a)::(1,vl (qa .u64) y)::(kC f (kAU g.2 (kZ (a.length:Int) (w64 (b+1)))))),[.cells (f.flatMap (qa .u64).c)]),Nat.lt_succ_self _,(Sub.refl _),_,_,_,rfl,d⟩
   refine Goes.exit ?_
   obtain rfl:=si d
   exact⟨rfl,_,rfl,(Sub.keep [5] rfl rfl)⟩
 rintro x s' ⟨rfl,j,rfl,hsub⟩
 refine Goes.sub hsub ?_
 obtain⟨q,w,h⟩:=bnd h
 refine sq (gq fol [1] [(4,vl (qa .u64) q)] [.frozen (j.flatMap (qa .u64).c)] (ac (hs (.callF 166 [.slice 0 0 j.length j.length 1] [.cells (j.flatMap (qa .u64).c)] [0] [vl (qa .u64) j] (vl (qa .u64) q)) (qa6 (FzL.cons (U0 (E:=(qa .u64)) rfl rfl (nl rfl)) FzL.nil) (xR N j w) (ql (qa .u64) _ (nl rfl)))) az) ?_)
 refine Goes.sub (show Sub (ofG 41 [(4,vl (qa .u64) q)],[.frozen (j.flatMap (qa .u64).c)]) (ofG 41 [(4,vl (qa .u64) q)],[])from(Sub.norm [] [] rfl rfl (.keep (.same (qf (qa .u64) _)) .nil) .nil)) ?_
 refine Goes.ret ?_
 obtain rfl:=si h
 exact(gw2 [vl (qa .u64) q] (Ua (ql (qa .u64) _ (nl rfl))))
def qdY (N:Nat) (a:qB) (b:qB):Option qB:=
 (if a.w.isEmpty=true then
 some b.w.isEmpty
 else
 some false:Option Bool).bind fun m=>
 ((if m=true then
 if((decide ((w64 (a.s+b.s))>a.s))==(decide (b.s>0)))=true then
 some (.inr (⟨w64 (a.s+b.s),[]⟩:qB))
 else
 some (.inl ())
 else
 some (.inl ()):Option (Unit⊕qB))).bind (fun
 |(.inl ())=>
 (jw a).bind fun c=>
 (jw b).bind fun d=>
 if(c.1==d.1)=true then
 (qeu N c.2 d.2).bind fun e=>
 (qb3 c.1 e).bind fun f=>
 some f
 else
 (qa1 N c.2 d.2).bind fun g=>
 if g>=0 then
 (qc9 N c.2 d.2).bind fun h=>
 (qb3 c.1 h).bind fun i=>
 some i
 else
 (qc9 N d.2 c.2).bind fun j=>
 (qb3 d.1 j).bind fun k=>
 some k
 |(.inr l)=>
 some l)
theorem qfG (N:Nat) (a:qB) (b:qB) {res:qB} (h:qdY N a b=some res):qb ZT (.fn 180) [.agg (nz1 a),.agg (nz1 b)] [] (.agg (nz1 res)) []:=by
 unfold qdY at h
 refine Ub Tryz.func180 rfl rfl (m:=67) rfl (rs:=[.cell 4 65]) rfl (l:=[(0,.agg (nz1 a)),(1,.agg (nz1 b))]) rfl ?_
 refine sg fol (kH []) [.cells (nz1 a),.cells (nz1 b),bZ] ?_
 refine sq ?_
 refine sq ?_
 obtain⟨J,c,h⟩:=bnd h
 refine Goes.cut (s':=(ofG 67 (kH [(17,.bool J)]),[.cells (nz1 a),.cells (nz1 b),bZ])) ?_ ?_
 ·rcases wyB c with⟨z,c⟩|⟨z,c⟩
  ·obtain rfl:=si c
   exact tr fol [2,3,6] (kH [(17,.bool b.w.isEmpty)]) (ac (hs (.done (.opt (zx ZT .eql 63 (.tmp 11) (.const (.slice none 0 0)) (nvl (qa .u64) a.w) .nilslice)) (.bool a.w.isEmpty)) (qch qbV)) (ac (gw z) (ac (hs (.done (.opt (zx ZT .eql 63 (.tmp 15) (.const (.slice none 0 0)) (nvl (qa .u64) b.w) .nilslice)) (.bool b.w.isEmpty)) (qch qbV)) az)))
  obtain rfl:=si c
  exact tr fol [2,3] (kH [(17,.bool false)]) (ac (hs (.done (.opt (zx ZT .eql 63 (.tmp 11) (.const (.slice none 0 0)) (nvl (qa .u64) a.w) .nilslice)) (.bool a.w.isEmpty)) (qch qbV)) (ac (gw z) az))
 obtain⟨H,g4,h⟩:=bnd h
 refine Goes.imp (Q:=fun x s'=>(x= .normal/\(.inl ())=H/\Sub s' (ofG 67 (kH []),[.cells (nz1 a),.cells (nz1 b),bZ]))\/(x= .ret/\ ∃I,(.inr I)=H/\kz ZT [.cell 4 65] (.agg (nz1 I)) .ret s')) ?_ ?_
 ·refine ihB g4 (fun K g4=>?_) (fun K g4=>?_)
  ·refine sh fol (kH (kA7 (w64 (a.s+b.s)))) ?_
   refine sh fol (kH [(5,.i (w64 (a.s+b.s))),(30,.bool ((decide ((w64 (a.s+b.s))>a.s))==(decide (b.s>0))))]) ?_
   refine ihB g4 (fun L g4=>?_) (fun L g4=>?_)
   ·refine sg fol (kBK []) (.cells (nz1 a):: .cells (nz1 b)::(kAG (w64 (a.s+b.s)) [])) ?_
    refine Goes.ret ?_
    obtain rfl:=si g4
    exact Or.inr (⟨rfl,_,rfl,(gw2 [.agg [.i (w64 (a.s+b.s)),.nilslice]] (FzW.agg (qh.cons (Ua tI) (qh.cons (FzW.nv0 (E:=(qa .u64))) qh.nil))))⟩)
   refine Goes.skip ?_
   obtain rfl:=si g4
   exact Or.inl (⟨rfl,rfl,(Sub.keep [2,3,4] rfl rfl)⟩)
  refine Goes.skip ?_
  obtain rfl:=si g4
  exact Or.inl (⟨rfl,rfl,(Sub.keep [2,3,4] rfl rfl)⟩)
 rintro x s' (⟨rfl,rfl,hsub⟩|⟨rfl,M,rfl,hret⟩)
 ·try dsimp only at h
  refine Goes.sub hsub ?_
  obtain⟨d,v,h⟩:=bnd h
  refine sq (gr fol [1] (kBm (kBK [(6,.bool d.1),(7,vl (qa .u64) d.2)])) (ac (cv (zZ a v)) az) ?_)
  obtain⟨e,y,h⟩:=bnd h
  refine sq (gr fol [1] (kBK [(6,.bool d.1),(7,vl (qa .u64) d.2),(8,.bool e.1),(9,vl (qa .u64) e.2)]) (ac (cv (zZ b y)) az) ?_)
  refine sq (Goes.block ?_)
  refine sh fol (kBK [(6,.bool d.1),(7,vl (qa .u64) d.2),(8,.bool e.1),(9,vl (qa .u64) e.2),(43,.bool (d.1==e.1))]) ?_
  refine ihB h (fun A h=>?_) (fun A h=>?_)
  ·obtain⟨B,k,h⟩:=bnd h
   obtain⟨f,o,h⟩:=bnd h
   refine sq (gq fol [3,4,5] (kBK []) [.cells (nz1 a),.cells (nz1 b),.cells (nz1 f)] (ac (cv (qhJ N d.2 e.2 k)) (ac (cv (qaV d.1 B o)) (ac (hs (.run [2] (qm ZT 65 (.ptr 2 0) (.agg (nz1 f))) [.cells (nz1 a),.cells (nz1 b),bZ] .undef [.cells (nz1 a),.cells (nz1 b),.cells (nz1 f)] true) (jW (n:=2) (by kernel_rfl) rfl rfl rfl rfl (cac rfl (cac nvc can)) rfl)) az))) ?_)
   refine Goes.ret ?_
   obtain rfl:=si h
   exact(gw2 [.agg (nz1 f)] (FzW.agg (qh.cons (Ua tI) (qh.cons (Ua (qQ (qa .u64) _ (nl rfl))) qh.nil))))
  obtain⟨C,p,h⟩:=bnd h
  refine sq (gr fol [2] (kBK [(6,.bool d.1),(7,vl (qa .u64) d.2),(8,.bool e.1),(9,vl (qa .u64) e.2),(52,.bool (decide (C>=0)))]) (ac (cv (qcV N d.2 e.2 p)) az) ?_)
  refine ihD h (fun D h=>?_) (fun D h=>?_)
  ·obtain⟨F,q,h⟩:=bnd h
   obtain⟨g,r,h⟩:=bnd h
   refine sq (gq fol [3,4,5] (kBK []) [.cells (nz1 a),.cells (nz1 b),.cells (nz1 g)] (ac (cv (qeZ N d.2 e.2 q)) (ac (cv (qaV d.1 F r)) (ac (hs (.run [2] (qm ZT 65 (.ptr 2 0) (.agg (nz1 g))) [.cells (nz1 a),.cells (nz1 b),bZ] .undef [.cells (nz1 a),.cells (nz1 b),.cells (nz1 g)] true) (jW (n:=2) (by kernel_rfl) rfl rfl rfl rfl (cac rfl (cac nvc can)) rfl)) az))) ?_)
   refine Goes.ret ?_
   obtain rfl:=si h
   exact(gw2 [.agg (nz1 g)] (FzW.agg (qh.cons (Ua tI) (qh.cons (Ua (qQ (qa .u64) _ (nl rfl))) qh.nil))))
  refine Goes.skip ?_
  obtain⟨G,t,h⟩:=bnd h
  obtain⟨j,u,h⟩:=bnd h
  refine sq (gq fol [3,4,5] (kBK []) [.cells (nz1 a),.cells (nz1 b),.cells (nz1 j)] (ac (cv (qeZ N e.2 d.2 t)) (ac (cv (qaV e.1 G u)) (ac (hs (.run [2] (qm ZT 65 (.ptr 2 0) (.agg (nz1 j))) [.cells (nz1 a),.cells (nz1 b),bZ] .undef [.cells (nz1 a),.cells (nz1 b),.cells (nz1 j)] true) (jW (n:=2) (by kernel_rfl) rfl rfl rfl rfl (cac rfl (cac nvc can)) rfl)) az))) ?_)
  refine Goes.ret ?_
  obtain rfl:=si h
  exact(gw2 [.agg (nz1 j)] (FzW.agg (qh.cons (Ua tI) (qh.cons (Ua (qQ (qa .u64) _ (nl rfl))) qh.nil))))
 try dsimp only at h
 obtain rfl:=si h
 exact hret
def qfE (N:Nat) (a:qB) (b:qB):Option qB:=
 (xQ b).bind fun c=>
 (qdY N a c).bind fun d=>
 some d
theorem qiz (N:Nat) (a:qB) (b:qB) {res:qB} (h:qfE N a b=some res):qb ZT (.fn 179) [.agg (nz1 a),.agg (nz1 b)] [] (.agg (nz1 res)) []:=by
 unfold qfE at h
 refine Ub Tryz.func179 rfl rfl (m:=9) rfl (rs:=[.cell 4 65]) rfl (l:=[(0,.agg (nz1 a)),(1,.agg (nz1 b))]) rfl ?_
 refine sg fol (kH []) [.cells (nz1 a),.cells (nz1 b),bZ] ?_
 obtain⟨f,c,h⟩:=bnd h
 obtain⟨e,d,h⟩:=bnd h
 refine sq (gq fol [2,3,4] (kBK []) [.cells (nz1 a),.cells (nz1 b),.cells (nz1 e)] (ac (cv (xI b c)) (ac (cv (qfG N a f d)) (ac (hs (.run [2] (qm ZT 65 (.ptr 2 0) (.agg (nz1 e))) [.cells (nz1 a),.cells (nz1 b),bZ] .undef [.cells (nz1 a),.cells (nz1 b),.cells (nz1 e)] true) (jW (n:=2) (by kernel_rfl) rfl rfl rfl rfl (cac rfl (cac nvc can)) rfl)) az))) ?_)
 refine Goes.ret ?_
 obtain rfl:=si h
 exact(gw2 [.agg (nz1 e)] (FzW.agg (qh.cons (Ua tI) (qh.cons (Ua (qQ (qa .u64) _ (nl rfl))) qh.nil))))
def qb9 (N:Nat) (a:qB) (b:qB):Option (qB×qB):=
 (if a.w.isEmpty=true then
 if b.w.isEmpty=true then
 some (!decide (a.s=(-9223372036854775808)))
 else
 some false
 else
 some false:Option Bool).bind fun r=>
 if r=true then
 (qfV .i64 a.s b.s).bind fun q=>
 (qjj .i64 a.s b.s).bind fun i=>
 ((if i<0 then
 some (w64 (q-1),w64 (i+b.s))
 else
 some (q,i):Option (Int×Int))).bind fun(t,u)=>
 some ((⟨t,[]⟩:qB),(⟨u,[]⟩:qB))
 else
 (jw a).bind fun d=>
 (jw b).bind fun j=>
 (qeO N d.2 j.2).bind fun f=>
 (qb3 d.1 f.1).bind fun e=>
 (qb3 d.1 f.2).bind fun c=>
 (qaX c).bind fun k=>
 ((if k<0 then
 (qip 1).bind fun l=>
 (qfE N e l).bind fun g=>
 (qdY N c b).bind fun h=>
 some (g.s,g.w,h.s,h.w)
 else
 some (e.s,e.w,c.s,c.w):Option (Int×(List Int)×Int×(List Int)))).bind fun(m,n,o,p)=>
 some ((⟨m,n⟩:qB),(⟨o,p⟩:qB))
theorem qdL (N:Nat) (a:qB) (b:qB) {res:qB×qB} (h:qb9 N a b=some res):qb ZT (.fn 164) [.agg (nz1 a),.agg (nz1 b)] [] (.tuple [.agg (nz1 res.1),.agg (nz1 res.2)]) []:=by
 unfold qb9 at h
 refine Ub Tryz.func164 rfl rfl (m:=84) rfl (rs:=[.cell 4 65,.cell 5 65]) rfl (l:=[(0,.agg (nz1 a)),(1,.agg (nz1 b))]) rfl ?_
 refine sg fol (kH [(5,.ptr 3 0)]) [.cells (nz1 a),.cells (nz1 b),bZ,bZ] ?_
 refine sq ?_
 refine sq ?_
 obtain⟨b3,c,h⟩:=bnd h
 refine Goes.cut (s':=(ofG 84 (kH [(5,.ptr 3 0),(28,.bool b3)]),[.cells (nz1 a),.cells (nz1 b),bZ,bZ])) ?_ ?_
 ·rcases wyB c with⟨O,c⟩|⟨O,c⟩
  ·rcases wyB c with⟨T,c⟩|⟨T,c⟩
   ·obtain rfl:=si c
    exact tr fol [2,3,6,8] (kH [(5,.ptr 3 0),(28,.bool (!decide (a.s=(-9223372036854775808))))]) (ac (hs (.done (.opt (zx ZT .eql 63 (.tmp 17) (.const (.slice none 0 0)) (nvl (qa .u64) a.w) .nilslice)) (.bool a.w.isEmpty)) (qch qbV)) (ac (gw O) (ac (hs (.done (.opt (zx ZT .eql 63 (.tmp 21) (.const (.slice none 0 0)) (nvl (qa .u64) b.w) .nilslice)) (.bool b.w.isEmpty)) (qch qbV)) (ac (gw T) az))))
   obtain rfl:=si c
   exact tr fol [2,3,6,8] (kH [(5,.ptr 3 0),(28,.bool false)]) (ac (hs (.done (.opt (zx ZT .eql 63 (.tmp 17) (.const (.slice none 0 0)) (nvl (qa .u64) a.w) .nilslice)) (.bool a.w.isEmpty)) (qch qbV)) (ac (gw O) (ac (hs (.done (.opt (zx ZT .eql 63 (.tmp 21) (.const (.slice none 0 0)) (nvl (qa .u64) b.w) .nilslice)) (.bool b.w.isEmpty)) (qch qbV)) (ac (gw T) az))))
  obtain rfl:=si c
  exact tr fol [2,3] (kH [(5,.ptr 3 0),(28,.bool false)]) (ac (hs (.done (.opt (zx ZT .eql 63 (.tmp 17) (.const (.slice none 0 0)) (nvl (qa .u64) a.w) .nilslice)) (.bool a.w.isEmpty)) (qch qbV)) (ac (gw O) az))
 refine ihB h (fun c5 h=>?_) (fun c5 h=>?_)
 ·obtain⟨P,H,h⟩:=bnd h
  obtain⟨I,J,h⟩:=bnd h
  refine sq (gr fol [4,9] (kAv [(6,.i P),(7,.i I)]) (ac (hs (.done (.opt (zx ZT .quo 3 (.tmp 30) (.tmp 32) (.i a.s) (.i b.s))) (.i P)) (qbY H)) (ac (hs (.done (.opt (zx ZT .rem 3 (.tmp 35) (.tmp 37) (.i a.s) (.i b.s))) (.i I)) (qfP J)) az)) ?_)
  refine sq ?_
  refine sh fol (kAv [(6,.i P),(7,.i I),(40,.bool (decide (I<0)))]) ?_
  obtain⟨U,q,h⟩:=bnd h
  refine Goes.imp (Q:=fun x s'=>(x= .normal/\ ∃K L,(K,L)=U/\Sub s' (ofG 84 (kK [(6,.i K),(7,.i L)]),[bZ,bZ]))) ?_ ?_
  ·refine ihD q (fun V q=>?_) (fun V q=>?_)
   ·refine gh fol (kBK [(5,.ptr 3 0),(6,.i (w64 (P-1))),(7,.i (w64 (I+b.s)))]) ?_
    obtain rfl:=si q
    exact⟨rfl,_,_,rfl,(Sub.norm [] [some 2,some 3] rfl rfl (.kp (.kp (.keep (.same nI) (.keep (.same nI) .nil)))) (.kb rfl (.same sn) (.kb rfl (.same sn) .nil)))⟩
   refine Goes.skip ?_
   obtain rfl:=si q
   exact⟨rfl,_,_,rfl,(Sub.norm [] [some 2,some 3] rfl rfl (.drop (.kp (.kp (.keep (.same nI) (.keep (.same nI) .nil))))) (.kb rfl (.same sn) (.kb rfl (.same sn) .nil)))⟩
  rintro x s' ⟨rfl,K,L,rfl,hsub⟩
  try dsimp only at h
  refine Goes.sub hsub ?_
  refine sg fol (kK []) (kAG K (kAG L [])) ?_
  refine Goes.ret ?_
  obtain rfl:=si h
  exact(gw2 [.agg [.i K,.nilslice],.agg [.i L,.nilslice]] (FzW.tuple (qh.cons (FzW.agg (qh.cons (Ua tI) (qh.cons (FzW.nv0 (E:=(qa .u64))) qh.nil))) (qh.cons (FzW.agg (qh.cons (Ua tI) (qh.cons (FzW.nv0 (E:=(qa .u64))) qh.nil))) qh.nil))))
 refine Goes.skip ?_
 obtain⟨k,u,h⟩:=bnd h
 refine sq (gr fol [1] (kAv [(8,.bool k.1),(9,vl (qa .u64) k.2)]) (ac (cv (zZ a u)) az) ?_)
 obtain⟨M,v,h⟩:=bnd h
 refine sq (gr fol [1] (kAv [(8,.bool k.1),(9,vl (qa .u64) k.2),(11,vl (qa .u64) M.2)]) (ac (cv (zZ b v)) az) ?_)
 obtain⟨t,y,h⟩:=bnd h
 refine sq (gr fol [2] (kAv [(8,.bool k.1),(12,vl (qa .u64) t.1),(13,vl (qa .u64) t.2)]) (ac (cv (qgb N k.2 M.2 y)) az) ?_)
 obtain⟨p,z,h⟩:=bnd h
 obtain⟨o,A,h⟩:=bnd h
 refine sq (gq fol [2,5,8,9] (kAv [(14,.ptr 4 0),(15,.ptr 5 0)]) [.cells (nz1 a),.cells (nz1 b),bZ,bZ,.cells (nz1 p),.cells (nz1 o)] (ac (cv (qaV k.1 t.1 z)) (ac (cv (qaV k.1 t.2 A)) (ac (hs (.run [4] (qm ZT 65 (.ptr 4 0) (.agg (nz1 p))) [.cells (nz1 a),.cells (nz1 b),bZ,bZ,bZ,bZ] .undef [.cells (nz1 a),.cells (nz1 b),bZ,bZ,.cells (nz1 p),bZ] true) (jW (n:=2) (by kernel_rfl) rfl rfl rfl rfl (cac rfl (cac nvc can)) rfl)) (ac (hs (.run [5] (qm ZT 65 (.ptr 5 0) (.agg (nz1 o))) [.cells (nz1 a),.cells (nz1 b),bZ,bZ,.cells (nz1 p),bZ] .undef [.cells (nz1 a),.cells (nz1 b),bZ,bZ,.cells (nz1 p),.cells (nz1 o)] true) (jW (n:=2) (by kernel_rfl) rfl rfl rfl rfl (cac rfl (cac nvc can)) rfl)) az)))) ?_)
 refine sq ?_
 obtain⟨W,B,h⟩:=bnd h
 refine sq (gr fol [1] (kAv [(14,.ptr 4 0),(15,.ptr 5 0),(75,.bool (decide (W<0)))]) (ac (cv (qbu o B)) az) ?_)
 obtain⟨X,j,h⟩:=bnd h
 refine Goes.imp (Q:=fun x s'=>(x= .normal/\ ∃d e f g,(d,e,f,g)=X/\Sub s' (ofG 84 (kK [(14,.ptr 2 0),(15,.ptr 3 0)]),[bZ,bZ,.cells (ni1 d e),.cells (ni1 f g)]))) ?_ ?_
 ·refine ihD j (fun Y j=>?_) (fun Y j=>?_)
  ·obtain⟨Z,C,j⟩:=bnd j
   obtain⟨r,D,j⟩:=bnd j
   obtain⟨F,G,j⟩:=bnd j
   refine gq fol [1,2,5,6,7] (kBK [(5,.ptr 3 0),(14,.ptr 4 0),(15,.ptr 5 0)]) [.cells (nz1 a),.cells (nz1 b),bZ,bZ,.cells (nz1 r),.cells (nz1 F)] (ac (cv (qg5 1 C)) (ac (cv (qiz N p Z D)) (ac (cv (qfG N o b G)) (ac (hs (.run [4] (qm ZT 65 (.ptr 4 0) (.agg (nz1 r))) [.cells (nz1 a),.cells (nz1 b),bZ,bZ,.cells (nz1 p),.cells (nz1 o)] .undef [.cells (nz1 a),.cells (nz1 b),bZ,bZ,.cells (nz1 r),.cells (nz1 o)] true) (jW (n:=2) (by kernel_rfl) rfl rfl rfl rfl (cac rfl (cac nvc can)) rfl)) (ac (hs (.run [5] (qm ZT 65 (.ptr 5 0) (.agg (nz1 F))) [.cells (nz1 a),.cells (nz1 b),bZ,bZ,.cells (nz1 r),.cells (nz1 o)] .undef [.cells (nz1 a),.cells (nz1 b),bZ,bZ,.cells (nz1 r),.cells (nz1 F)] true) (jW (n:=2) (by kernel_rfl) rfl rfl rfl rfl (cac rfl (cac nvc can)) rfl)) az))))) ?_
   obtain rfl:=si j
   exact⟨rfl,_,_,_,_,rfl,(Sub.norm [] [some 2,some 3,some 4,some 5] rfl rfl (.kp (.kp (.kp (.kp .nil)))) (.kb rfl (.same sn) (.kb rfl (.same sn) (.kb rfl (.same sn) (.kb rfl (.same sn) .nil)))))⟩
  refine Goes.skip ?_
  obtain rfl:=si j
  exact⟨rfl,_,_,_,_,rfl,(Sub.norm [] [some 2,some 3,some 4,some 5] rfl rfl (.drop (.kp (.kp (.kp (.kp .nil))))) (.kb rfl (.same sn) (.kb rfl (.same sn) (.kb rfl (.same sn) (.kb rfl (.same sn) .nil)))))⟩
 rintro x s' ⟨rfl,d,e,f,g,rfl,hsub⟩
 try dsimp only at h
 refine Goes.sub hsub ?_
 refine sq (gq fol [2,3] (kK []) [.cells (ni1 d e),.cells (ni1 f g),.cells (ni1 d e),.cells (ni1 f g)] (ac (hs (.run [0] (qm ZT 65 (.ptr 0 0) (.agg (ni1 d e))) [bZ,bZ,.cells (ni1 d e),.cells (ni1 f g)] .undef [.cells (ni1 d e),bZ,.cells (ni1 d e),.cells (ni1 f g)] true) (jW (n:=2) (by kernel_rfl) rfl rfl rfl rfl (cac rfl (cac nvc can)) rfl)) (ac (hs (.run [1] (qm ZT 65 (.ptr 1 0) (.agg (ni1 f g))) [.cells (ni1 d e),bZ,.cells (ni1 d e),.cells (ni1 f g)] .undef [.cells (ni1 d e),.cells (ni1 f g),.cells (ni1 d e),.cells (ni1 f g)] true) (jW (n:=2) (by kernel_rfl) rfl rfl rfl rfl (cac rfl (cac nvc can)) rfl)) az)) ?_)
 refine Goes.ret ?_
 obtain rfl:=si h
 exact(gw2 [.agg (ni1 d e),.agg (ni1 f g)] (FzW.tuple (qh.cons (FzW.agg (qh.cons (Ua tI) (qh.cons (Ua (qQ (qa .u64) _ (nl rfl))) qh.nil))) (qh.cons (FzW.agg (qh.cons (Ua tI) (qh.cons (Ua (qQ (qa .u64) _ (nl rfl))) qh.nil))) qh.nil))))
def qdr (N:Nat):Nat->Int->(List Int)->Int->(List Int)->Option (Int×(List Int))
 |0,_,_,_,_=>none
 |K+1,e,f,b,c=>
  (qaX (⟨b,c⟩:qB)).bind fun d=>
  if(!decide (d=0))=true then
  (qb9 N (⟨e,f⟩:qB) (⟨b,c⟩:qB)).bind fun a=>
  qdr N K b c a.2.s a.2.w
  else
  some (e,f)
def qj2 (N:Nat) (a:qB) (b:qB):Option qB:=
 (qdP a).bind fun c=>
 (qdP b).bind fun d=>
 (qdr N N c.s c.w d.s d.w).bind fun(e,f)=>
 some (⟨e,f⟩:qB)
theorem qmv (N:Nat) (a:qB) (b:qB) {res:qB} (h:qj2 N a b=some res):qb ZT (.fn 129) [.agg (nz1 a),.agg (nz1 b)] [] (.agg (nz1 res)) []:=by
 unfold qj2 at h
 refine Ub Tryz.func129 rfl rfl (m:=23) rfl (rs:=[.cell 4 65]) rfl (l:=[(0,.agg (nz1 a)),(1,.agg (nz1 b))]) rfl ?_
 refine sg fol (kH []) [.cells (nz1 a),.cells (nz1 b),bZ] ?_
 obtain⟨q,r,h⟩:=bnd h
 obtain⟨u,t,h⟩:=bnd h
 refine sq (gq fol [1,3,4,5] (kH []) [.cells (nz1 q),.cells (nz1 u),bZ] (ac (cv (qfc a r)) (ac (cv (qfc b t)) (ac (hs (.run [0] (qm ZT 65 (.ptr 0 0) (.agg (nz1 q))) [.cells (nz1 a),.cells (nz1 b),bZ] .undef [.cells (nz1 q),.cells (nz1 b),bZ] true) (jW (n:=2) (by kernel_rfl) rfl rfl rfl rfl (cac rfl (cac nvc can)) rfl)) (ac (hs (.run [1] (qm ZT 65 (.ptr 1 0) (.agg (nz1 u))) [.cells (nz1 q),.cells (nz1 b),bZ] .undef [.cells (nz1 q),.cells (nz1 u),bZ] true) (jW (n:=2) (by kernel_rfl) rfl rfl rfl rfl (cac rfl (cac nvc can)) rfl)) az)))) ?_)
 refine sq (Goes.block ?_)
 obtain⟨y,f,h⟩:=bnd h
 refine Goes.imp (Q:=fun x s'=>(x= .exit 0/\ ∃g i,(g,i)=y/\Sub s' (ofG 23 (kX (kB3 [])),[.cells (ni1 g i),bZ]))) ?_ ?_
 ·refine Uc (fun M s=> ∃(j:Int) (k:List Int) (d:Int) (e:List Int),s=(ofG 23 (kH []),[.cells (ni1 j k),.cells (ni1 d e),bZ])/\qdr N M j k d e=some y) ?_ (m:=N) ⟨_,_,_,_,rfl,f⟩
  rintro M s ⟨j,k,d,e,rfl,f⟩
  cases M with
  |zero=>simp only[qdr]at f;cases f
  |succ M=>
   rw[qdr]at f
   refine sq ?_
   obtain⟨v,o,f⟩:=bnd f
   refine sq (gr fol [1] (kH (kBe (!decide (v=0)))) (ac (cv (qbu (⟨d,e⟩:qB) o)) az) ?_)
   refine ihB f (fun w f=>?_) (fun w f=>?_)
   ·refine Goes.skip ?_
    refine Goes.block ?_
    obtain⟨c,p,f⟩:=bnd f
    refine sq (gq fol [2,8,9] (kH [(6,.ptr 4 0)]) [.cells (ni1 j k),.cells (ni1 d e),bZ,.cells (nz1 c.1),.cells (nz1 c.2)] (ac (cv (qdL N (⟨j,k⟩:qB) (⟨d,e⟩:qB) p)) (ac (hs (.run [3] (qm ZT 65 (.ptr 3 0) (.agg (nz1 c.1))) [.cells (ni1 j k),.cells (ni1 d e),bZ,bZ,bZ] .undef [.cells (ni1 j k),.cells (ni1 d e),bZ,.cells (nz1 c.1),bZ] true) (jW (n:=2) (by kernel_rfl) rfl rfl rfl rfl (cac rfl (cac nvc can)) rfl)) (ac (hs (.run [4] (qm ZT 65 (.ptr 4 0) (.agg (nz1 c.2))) [.cells (ni1 j k),.cells (ni1 d e),bZ,.cells (nz1 c.1),bZ] .undef [.cells (ni1 j k),.cells (ni1 d e),bZ,.cells (nz1 c.1),.cells (nz1 c.2)] true) (jW (n:=2) (by kernel_rfl) rfl rfl rfl rfl (cac rfl (cac nvc can)) rfl)) az))) ?_)
    refine gq fol [2,3] (kH []) [.cells (ni1 d e),.cells (nz1 c.2),bZ,.cells (nz1 c.1),.cells (nz1 c.2)] (ac (hs (.run [0] (qm ZT 65 (.ptr 0 0) (.agg (ni1 d e))) [.cells (ni1 j k),.cells (ni1 d e),bZ,.cells (nz1 c.1),.cells (nz1 c.2)] .undef [.cells (ni1 d e),.cells (ni1 d e),bZ,.cells (nz1 c.1),.cells (nz1 c.2)] true) (jW (n:=2) (by kernel_rfl) rfl rfl rfl rfl (cac rfl (cac nvc can)) rfl)) (ac (hs (.run [1] (qm ZT 65 (.ptr 1 0) (.agg (nz1 c.2))) [.cells (ni1 d e),.cells (ni1 d e),bZ,.cells (nz1 c.1),.cells (nz1 c.2)] .undef [.cells (ni1 d e),.cells (nz1 c.2),bZ,.cells (nz1 c.1),.cells (nz1 c.2)] true) (jW (n:=2) (by kernel_rfl) rfl rfl rfl rfl (cac rfl (cac nvc can)) rfl)) az)) ?_
    exact⟨M,(ofG 23 (kH []),[.cells (ni1 d e),.cells (nz1 c.2),bZ]),Nat.lt_succ_self _,(Sub.norm [] [some 0,some 1,some 2] rfl rfl (.kp (.kp (.kp .nil))) (.kb rfl (.same sn) (.kb rfl (.same sn) (.kb rfl (.same sn) .nil)))),_,_,_,_,rfl,f⟩
   refine Goes.exit ?_
   obtain rfl:=si f
   exact⟨rfl,_,_,rfl,(Sub.norm [] [some 0,some 2] rfl rfl (.kp (.drop (.kp .nil))) (.kb rfl (.same sn) (.kb rfl (.same sn) .nil)))⟩
 rintro x s' ⟨rfl,g,i,rfl,hsub⟩
 try dsimp only at h
 refine Goes.sub hsub ?_
 refine sq (gq fol [1] (kB3 []) [.cells (ni1 g i),.cells (ni1 g i)] (ac (hs (.run [1] (qm ZT 65 (.ptr 1 0) (.agg (ni1 g i))) [.cells (ni1 g i),bZ] .undef [.cells (ni1 g i),.cells (ni1 g i)] true) (jW (n:=2) (by kernel_rfl) rfl rfl rfl rfl (cac rfl (cac nvc can)) rfl)) az) ?_)
 refine Goes.ret ?_
 obtain rfl:=si h
 exact(gw2 [.agg (ni1 g i)] (FzW.agg (qh.cons (Ua tI) (qh.cons (Ua (qQ (qa .u64) _ (nl rfl))) qh.nil))))
def qdZ (N:Nat) (a:qB) (b:qB):Option qB:=
 (qaX b).bind fun f=>
 ((if f<0 then
 (xQ a).bind fun d=>
 (xQ b).bind fun e=>
 some (d.s,d.w,e.s,e.w)
 else
 some (a.s,a.w,b.s,b.w):Option (Int×(List Int)×Int×(List Int)))).bind fun(g,h,i,j)=>
 (qb9 N (⟨g,h⟩:qB) (⟨i,j⟩:qB)).bind fun c=>
 some c.1
theorem qfj (N:Nat) (a:qB) (b:qB) {res:qB} (h:qdZ N a b=some res):qb ZT (.fn 130) [.agg (nz1 a),.agg (nz1 b)] [] (.agg (nz1 res)) []:=by
 unfold qdZ at h
 refine Ub Tryz.func130 rfl rfl (m:=21) rfl (rs:=[.cell 4 65]) rfl (l:=[(0,.agg (nz1 a)),(1,.agg (nz1 b))]) rfl ?_
 refine sg fol (kH []) [.cells (nz1 a),.cells (nz1 b),bZ] ?_
 refine sq ?_
 obtain⟨s,k,h⟩:=bnd h
 refine sq (gr fol [1] (kH [(9,.bool (decide (s<0)))]) (ac (cv (qbu b k)) az) ?_)
 obtain⟨t,i,h⟩:=bnd h
 refine Goes.imp (Q:=fun x s'=>(x= .normal/\ ∃d e f g,(d,e,f,g)=t/\Sub s' (ofG 21 (kH []),[.cells (ni1 d e),.cells (ni1 f g),bZ]))) ?_ ?_
 ·refine ihD i (fun u i=>?_) (fun u i=>?_)
  ·obtain⟨o,p,i⟩:=bnd i
   obtain⟨r,q,i⟩:=bnd i
   refine gq fol [1,3,4,5] (kH []) [.cells (nz1 o),.cells (nz1 r),bZ] (ac (cv (xI a p)) (ac (cv (xI b q)) (ac (hs (.run [0] (qm ZT 65 (.ptr 0 0) (.agg (nz1 o))) [.cells (nz1 a),.cells (nz1 b),bZ] .undef [.cells (nz1 o),.cells (nz1 b),bZ] true) (jW (n:=2) (by kernel_rfl) rfl rfl rfl rfl (cac rfl (cac nvc can)) rfl)) (ac (hs (.run [1] (qm ZT 65 (.ptr 1 0) (.agg (nz1 r))) [.cells (nz1 o),.cells (nz1 b),bZ] .undef [.cells (nz1 o),.cells (nz1 r),bZ] true) (jW (n:=2) (by kernel_rfl) rfl rfl rfl rfl (cac rfl (cac nvc can)) rfl)) az)))) ?_
   obtain rfl:=si i
   exact⟨rfl,_,_,_,_,rfl,(Sub.refl _)⟩
  refine Goes.skip ?_
  obtain rfl:=si i
  exact⟨rfl,_,_,_,_,rfl,(Sub.keep [2,3,4] rfl rfl)⟩
 rintro x s' ⟨rfl,d,e,f,g,rfl,hsub⟩
 try dsimp only at h
 refine Goes.sub hsub ?_
 obtain⟨c,j,h⟩:=bnd h
 refine sq (gq fol [2,8,9] (kBK [(5,.ptr 3 0)]) [.cells (ni1 d e),.cells (ni1 f g),bZ,.cells (nz1 c.1),.cells (nz1 c.2)] (ac (cv (qdL N (⟨d,e⟩:qB) (⟨f,g⟩:qB) j)) (ac (hs (.run [3] (qm ZT 65 (.ptr 3 0) (.agg (nz1 c.1))) [.cells (ni1 d e),.cells (ni1 f g),bZ,bZ,bZ] .undef [.cells (ni1 d e),.cells (ni1 f g),bZ,.cells (nz1 c.1),bZ] true) (jW (n:=2) (by kernel_rfl) rfl rfl rfl rfl (cac rfl (cac nvc can)) rfl)) (ac (hs (.run [4] (qm ZT 65 (.ptr 4 0) (.agg (nz1 c.2))) [.cells (ni1 d e),.cells (ni1 f g),bZ,.cells (nz1 c.1),bZ] .undef [.cells (ni1 d e),.cells (ni1 f g),bZ,.cells (nz1 c.1),.cells (nz1 c.2)] true) (jW (n:=2) (by kernel_rfl) rfl rfl rfl rfl (cac rfl (cac nvc can)) rfl)) az))) ?_)
 refine sq (gq fol [1] (kBK []) [.cells (ni1 d e),.cells (ni1 f g),.cells (nz1 c.1),.cells (nz1 c.1),.cells (nz1 c.2)] (ac (hs (.run [2] (qm ZT 65 (.ptr 2 0) (.agg (nz1 c.1))) [.cells (ni1 d e),.cells (ni1 f g),bZ,.cells (nz1 c.1),.cells (nz1 c.2)] .undef [.cells (ni1 d e),.cells (ni1 f g),.cells (nz1 c.1),.cells (nz1 c.1),.cells (nz1 c.2)] true) (jW (n:=2) (by kernel_rfl) rfl rfl rfl rfl (cac rfl (cac nvc can)) rfl)) az) ?_)
 refine Goes.ret ?_
 obtain rfl:=si h
 exact(gw2 [.agg (nz1 c.1)] (FzW.agg (qh.cons (Ua tI) (qh.cons (Ua (qQ (qa .u64) _ (nl rfl))) qh.nil))))
def qgO (N:Nat) (num:qB) (den:qB):Option jm:=
 (qaX den).bind fun k=>
 ((if k<0 then
 (xQ num).bind fun i=>
 (xQ den).bind fun j=>
 some (i.s,i.w,j.s,j.w)
 else
 some (num.s,num.w,den.s,den.w):Option (Int×(List Int)×Int×(List Int)))).bind fun(d,e,b,c)=>
 (if c.isEmpty=true then
 some (decide (b=1))
 else
 some false:Option Bool).bind fun f=>
 if f=true then
 some (⟨(⟨d,e⟩:qB),(⟨b,c⟩:qB)⟩:jm)
 else
 (qj2 N (⟨d,e⟩:qB) (⟨b,c⟩:qB)).bind fun a=>
 (qdZ N (⟨d,e⟩:qB) a).bind fun g=>
 (qdZ N (⟨b,c⟩:qB) a).bind fun h=>
 some (⟨g,h⟩:jm)
theorem qhx (N:Nat) (num:qB) (den:qB) {res:jm} (h:qgO N num den=some res):qb ZT (.fn 86) [.agg (nz1 num),.agg (nz1 den)] [] (.agg (nq1 res)) []:=by
 unfold qgO at h
 refine Ub Tryz.func86 rfl rfl (m:=34) rfl (rs:=[.cell 4 67]) rfl (l:=[(0,.agg (nz1 num)),(1,.agg (nz1 den))]) rfl ?_
 refine sg fol (kH []) (.cells (nz1 num):: .cells (nz1 den)::(kQ [])) ?_
 refine sq ?_
 obtain⟨B,r,h⟩:=bnd h
 refine sq (gr fol [1] (kH [(8,.bool (decide (B<0)))]) (ac (cv (qbu den r)) az) ?_)
 obtain⟨C,j,h⟩:=bnd h
 refine Goes.imp (Q:=fun x s'=>(x= .normal/\ ∃d e c a,(d,e,c,a)=C/\Sub s' (ofG 34 (kH []),(.cells (ni1 d e):: .cells (ni1 c a)::(kQ []))))) ?_ ?_
 ·refine ihD j (fun D j=>?_) (fun D j=>?_)
  ·obtain⟨t,u,j⟩:=bnd j
   obtain⟨y,v,j⟩:=bnd j
   refine gq fol [1,3,4,5] (kH []) (.cells (nz1 t):: .cells (nz1 y)::(kQ [])) (ac (cv (xI num u)) (ac (cv (xI den v)) (ac (hs (.run [0] (qm ZT 65 (.ptr 0 0) (.agg (nz1 t))) (.cells (nz1 num):: .cells (nz1 den)::(kQ [])) .undef (.cells (nz1 t):: .cells (nz1 den)::(kQ [])) true) (jW (n:=2) (by kernel_rfl) rfl rfl rfl rfl (cac rfl (cac nvc can)) rfl)) (ac (hs (.run [1] (qm ZT 65 (.ptr 1 0) (.agg (nz1 y))) (.cells (nz1 t):: .cells (nz1 den)::(kQ [])) .undef (.cells (nz1 t):: .cells (nz1 y)::(kQ [])) true) (jW (n:=2) (by kernel_rfl) rfl rfl rfl rfl (cac rfl (cac nvc can)) rfl)) az)))) ?_
   obtain rfl:=si j
   exact⟨rfl,_,_,_,_,rfl,(Sub.refl _)⟩
  refine Goes.skip ?_
  obtain rfl:=si j
  exact⟨rfl,_,_,_,_,rfl,(Sub.keep [2,3,4] rfl rfl)⟩
 rintro x s' ⟨rfl,d,e,c,a,rfl,hsub⟩
 try dsimp only at h
 refine Goes.sub hsub ?_
 refine sq ?_
 refine sq ?_
 obtain⟨z,b,h⟩:=bnd h
 refine Goes.cut (s':=(ofG 34 (kH [(20,.bool z)]),(.cells (ni1 d e):: .cells (ni1 c a)::(kQ [])))) ?_ ?_
 ·rcases wyB b with⟨k,b⟩|⟨k,b⟩
  ·obtain rfl:=si b
   exact tr fol [2,3] (kH [(20,.bool (decide (c=1)))]) (ac (hs (.done (.opt (zx ZT .eql 63 (.tmp 14) (.const (.slice none 0 0)) (nvl (qa .u64) a) .nilslice)) (.bool a.isEmpty)) (qch qbV)) (ac (gw k) az))
  obtain rfl:=si b
  exact tr fol [2,3] (kH [(20,.bool false)]) (ac (hs (.done (.opt (zx ZT .eql 63 (.tmp 14) (.const (.slice none 0 0)) (nvl (qa .u64) a) .nilslice)) (.bool a.isEmpty)) (qch qbV)) (ac (gw k) az))
 refine ihB h (fun A h=>?_) (fun A h=>?_)
 ·refine sq (gq fol [3] (kBK []) [.cells (ni1 d e),.cells (ni1 c a),.cells (ni2 d e c a)] (ac (hs (.run [2] (qm ZT 67 (.ptr 2 0) (.agg (ni2 d e c a))) (.cells (ni1 d e):: .cells (ni1 c a)::(kQ [])) .undef [.cells (ni1 d e),.cells (ni1 c a),.cells (ni2 d e c a)] true) (jW (n:=4) (by kernel_rfl) rfl rfl rfl rfl (cac rfl (cac nvc (cac rfl (cac nvc can)))) rfl)) az) ?_)
  refine Goes.ret ?_
  obtain rfl:=si h
  exact(gw2 [.agg (ni2 d e c a)] (FzW.agg (qh.cons (Ua tI) (qh.cons (Ua (qQ (qa .u64) _ (nl rfl))) (qh.cons (Ua tI) (qh.cons (Ua (qQ (qa .u64) _ (nl rfl))) qh.nil))))))
 refine Goes.skip ?_
 obtain⟨f,o,h⟩:=bnd h
 refine sq (gq fol [2,4] (kH [(5,.ptr 3 0)]) (.cells (ni1 d e):: .cells (ni1 c a)::(kQ [.cells (nz1 f)])) (ac (cv (qmv N (⟨d,e⟩:qB) (⟨c,a⟩:qB) o)) (ac (hs (.run [3] (qm ZT 65 (.ptr 3 0) (.agg (nz1 f))) (.cells (ni1 d e):: .cells (ni1 c a)::(kQ [bZ])) .undef (.cells (ni1 d e):: .cells (ni1 c a)::(kQ [.cells (nz1 f)])) true) (jW (n:=2) (by kernel_rfl) rfl rfl rfl rfl (cac rfl (cac nvc can)) rfl)) az)) ?_)
 obtain⟨g,p,h⟩:=bnd h
 obtain⟨i,q,h⟩:=bnd h
 refine sq (gq fol [2,5,7] (kBK []) [.cells (ni1 d e),.cells (ni1 c a),.cells (ni2 g.s g.w i.s i.w),.cells (nz1 f)] (ac (cv (qfj N (⟨d,e⟩:qB) f p)) (ac (cv (qfj N (⟨c,a⟩:qB) f q)) (ac (hs (.run [2] (qm ZT 67 (.ptr 2 0) (.agg (ni2 g.s g.w i.s i.w))) (.cells (ni1 d e):: .cells (ni1 c a)::(kQ [.cells (nz1 f)])) .undef [.cells (ni1 d e),.cells (ni1 c a),.cells (ni2 g.s g.w i.s i.w),.cells (nz1 f)] true) (jW (n:=4) (by kernel_rfl) rfl rfl rfl rfl (cac rfl (cac nvc (cac rfl (cac nvc can)))) rfl)) az))) ?_)
 refine Goes.ret ?_
 obtain rfl:=si h
 exact(gw2 [.agg (ni2 g.s g.w i.s i.w)] (FzW.agg (qh.cons (Ua tI) (qh.cons (Ua (qQ (qa .u64) _ (nl rfl))) (qh.cons (Ua tI) (qh.cons (Ua (qQ (qa .u64) _ (nl rfl))) qh.nil))))))
def qae (b:List Int) (l:Int) (g:Int):Nat->(List Int)->Int->Int->Option ((List Int)×Int)
 |0,_,_,_=>none
 |K+1,h,a,c=>
  if a<(b.length:Int)then
  (idx b a).bind fun i=>
  (bits_Mul64 l i).bind fun d=>
  (idx h (w64 (g+a))).bind fun j=>
  (qgT d.2 j 0).bind fun e=>
  (qgT e.1 c 0).bind fun f=>
  (put h (w64 (g+a)) f.1).bind fun k=>
  qae b l g K k (w64 (a+1)) (IntKind.wrap .u64 ((IntKind.wrap .u64 (d.1+e.2))+f.2))
  else
  some (h,c)
def qac (N:Nat) (a:List Int) (b:List Int):Nat->(List Int)->Int->Option (List Int)
 |0,_,_=>none
 |K+1,g,c=>
  if c<(a.length:Int)then
  (idx a c).bind fun h=>
  (qae b h c N g 0 0).bind fun(d,e)=>
  (idx d (w64 (c+(b.length:Int)))).bind fun i=>
  (put d (w64 (c+(b.length:Int))) e).bind fun f=>
  qac N a b K f (w64 (c+1))
  else
  some g
def qeE (N:Nat) (a:List Int) (b:List Int):Option (List Int):=
 (mk 8 (w64 ((a.length:Int)+(b.length:Int))) 0).bind fun d=>
 (qac N a b N d 0).bind fun e=>
 (qbm N e).bind fun c=>
 some c
theorem qhE (N:Nat) (a:List Int) (b:List Int) {res:List Int} (h:qeE N a b=some res):qb ZT (.fn 135) [vl (qa .u64) a,vl (qa .u64) b] [] (vl (qa .u64) res) []:=by
 unfold qeE at h
 refine Ub Tryz.func135 rfl rfl (m:=80) rfl (rs:=[.tmp 4]) rfl (l:=[(0,vl (qa .u64) a),(1,vl (qa .u64) b)]) rfl ?_
 refine sh fol [(0,vl (qa .u64) a),(1,vl (qa .u64) b)] ?_
 obtain⟨O,P,h⟩:=bnd h
 refine sq (gq fol [5] ((0,vl (qa .u64) a)::(1,vl (qa .u64) b)::(kC O [])) [.cells (O.flatMap (qa .u64).c)] (ac (hs (.run [] (qR ZT 63 (.i (w64 ((a.length:Int)+(b.length:Int)))) (.i (w64 ((a.length:Int)+(b.length:Int))))) [] (.slice 0 0 O.length O.length 1) [.cells (O.flatMap (qa .u64).c)] false) (xW jg (E:=(qa .u64)) (z:=0) rfl (by kernel_rfl) P rfl)) az) ?_)
 refine sq ?_
 refine sh fol ((1,vl (qa .u64) b)::(kC O [(20,vl (qa .u64) a),(21,.i (a.length:Int)),(22,.i 0)])) ?_
 refine Goes.block ?_
 obtain⟨X,g5,h⟩:=bnd h
 refine Goes.imp (Q:=fun x s'=>(x= .exit 0/\ ∃v,v=X/\Sub s' (ofG 80 (kC v []),[.cells (v.flatMap (qa .u64).c)]))) ?_ ?_
 ·refine Uc (fun M s=> ∃(G:List Int) (d:Int),s=(ofG 80 ((1,vl (qa .u64) b)::(kC G ((20,vl (qa .u64) a)::(kAP (a.length:Int) d [])))),[.cells (G.flatMap (qa .u64).c)])/\qac N a b M G d=some X) ?_ (m:=N) ⟨_,_,rfl,g5⟩
  rintro M s ⟨G,d,rfl,g5⟩
  cases M with
  |zero=>simp only[qac]at g5;cases g5
  |succ M=>
   rw[qac]at g5
   refine sh fol ((1,vl (qa .u64) b)::(kC G ((20,vl (qa .u64) a)::(kAP (a.length:Int) d [(23,.bool (decide (d<(a.length:Int))))])))) ?_
   refine sq ?_
   refine ihD g5 (fun Y g5=>?_) (fun Y g5=>?_)
   ·refine Goes.skip ?_
    refine sq (Goes.block ?_)
    obtain⟨r,H,g5⟩:=bnd g5
    refine sq (gr fol [1,2] ((1,vl (qa .u64) b)::(kC G ((6,.i d)::(kAy r ((20,vl (qa .u64) a)::(kAP (a.length:Int) d [])))))) (ac (iv jg (qa .u64) H) (ac (lv 0 jr (qa .u64) H rfl) az)) ?_)
    refine sh fol ((1,vl (qa .u64) b)::(kC G ((6,.i d)::(kAy r (kCB ((20,vl (qa .u64) a)::(kAP (a.length:Int) d []))))))) ?_
    refine sq ?_
    refine sh fol ((1,vl (qa .u64) b)::(kC G ((6,.i d)::(kAy r (kCB ((20,vl (qa .u64) a)::(kAP (a.length:Int) d [(27,vl (qa .u64) b),(28,.i (b.length:Int)),(29,.i 0)]))))))) ?_
    refine Goes.block ?_
    obtain⟨T,e,g5⟩:=bnd g5
    refine Goes.imp (Q:=fun x s'=>(x= .exit 2/\ ∃n w,(n,w)=T/\Sub s' (ofG 80 ((1,vl (qa .u64) b)::(kC n ((6,.i d)::(8,.int .u64 w)::(20,vl (qa .u64) a)::(kAP (a.length:Int) d [])))),[.cells (n.flatMap (qa .u64).c)]))) ?_ ?_
    ·refine Uc (fun M s=> ∃(k:List Int) (f:Int) (o:Int),s=(ofG 80 ((1,vl (qa .u64) b)::(kC k ((6,.i d)::(kAM r o ((20,vl (qa .u64) a)::(kAP (a.length:Int) d ((27,vl (qa .u64) b)::(kBL (b.length:Int) f)))))))),[.cells (k.flatMap (qa .u64).c)])/\qae b r d M k f o=some T) ?_ (m:=N) ⟨_,_,_,rfl,e⟩
     rintro M s ⟨k,f,o,rfl,e⟩
     cases M with
     |zero=>simp only[qae]at e;cases e
     |succ M=>
      rw[qae]at e
      refine sh fol ((1,vl (qa .u64) b)::(kC k ((6,.i d)::(kAM r o ((20,vl (qa .u64) a)::(kAP (a.length:Int) d [(27,vl (qa .u64) b),(28,.i (b.length:Int)),(29,.i f),(30,.bool (decide (f<(b.length:Int))))])))))) ?_
      refine sq ?_
      refine ihD e (fun W e=>?_) (fun W e=>?_)
      ·refine Goes.skip ?_
       refine sq (Goes.block ?_)
       obtain⟨U,A,e⟩:=bnd e
       refine sq (gr fol [1,2] ((1,vl (qa .u64) b)::(kC k ((6,.i d)::(kAM r o ((9,.i f)::(10,.int .u64 U)::(20,vl (qa .u64) a)::(kAP (a.length:Int) d ((27,vl (qa .u64) b)::(kBL (b.length:Int) f)))))))) (ac (iv jg (qa .u64) A) (ac (lv 0 jr (qa .u64) A rfl) az)) ?_)
       obtain⟨g,I,e⟩:=bnd e
       refine sq (gr fol [2] ((1,vl (qa .u64) b)::(kC k ((6,.i d)::(kAM r o ((9,.i f)::(kAI g.1 g.2 ((20,vl (qa .u64) a)::(kAP (a.length:Int) d ((27,vl (qa .u64) b)::(kBL (b.length:Int) f)))))))))) (ac (cv (qbn r U I)) az) ?_)
       refine sh fol ((1,vl (qa .u64) b)::(kC k ((6,.i d)::(kAM r o ((9,.i f)::(kAI g.1 g.2 ((20,vl (qa .u64) a)::(kAP (a.length:Int) d ((27,vl (qa .u64) b)::(kBL (b.length:Int) f)))))))))) ?_
       obtain⟨V,p,e⟩:=bnd e
       obtain⟨j,J,e⟩:=bnd e
       refine sq (gr fol [5,6,7] ((1,vl (qa .u64) b)::(kC k ((6,.i d)::(kAM r o ((9,.i f)::(kAI g.1 j.1 ((13,.int .u64 j.2)::(20,vl (qa .u64) a)::(kAP (a.length:Int) d ((27,vl (qa .u64) b)::(kBL (b.length:Int) f)))))))))) (ac (hs (.done (.opt (qc ZT 63 (.slice 0 0 k.length k.length 1) (.i (w64 (d+f))))) (.ptr 0 ((w64 (d+f):Int).toNat*1+0))) (zI jg p)) (ac (hs (.run [0] (qV ZT 164 (.ptr 0 ((w64 (d+f):Int).toNat*1+0))) [.cells (k.flatMap (qa .u64).c)] (.int .u64 V) [.cells (k.flatMap (qa .u64).c)] false) (yE jr (E:=(qa .u64)) (l:=k) rfl rfl p (nl rfl) rfl)) (ac (cv (qdl g.2 V 0 J)) az))) ?_)
       refine sh fol ((1,vl (qa .u64) b)::(kC k ((6,.i d)::(kAM r o ((9,.i f)::(kAI (IntKind.wrap .u64 (g.1+j.2)) j.1 ((20,vl (qa .u64) a)::(kAP (a.length:Int) d ((27,vl (qa .u64) b)::(kBL (b.length:Int) f)))))))))) ?_
       obtain⟨q,K,e⟩:=bnd e
       refine sq (gr fol [2] ((1,vl (qa .u64) b)::(kC k ((6,.i d)::(kAy r ((9,.i f)::(kAI (IntKind.wrap .u64 (g.1+j.2)) q.1 ((13,.int .u64 q.2)::(20,vl (qa .u64) a)::(kAP (a.length:Int) d ((27,vl (qa .u64) b)::(kBL (b.length:Int) f)))))))))) (ac (cv (qdl j.1 o 0 K)) az) ?_)
       obtain⟨t,B,e⟩:=bnd e
       refine gq fol [8,9] ((1,vl (qa .u64) b)::(kC k ((6,.i d)::(kAM r (IntKind.wrap .u64 ((IntKind.wrap .u64 (g.1+j.2))+q.2)) ((20,vl (qa .u64) a)::(kAP (a.length:Int) d ((27,vl (qa .u64) b)::(kBL (b.length:Int) f)))))))) [.cells (t.flatMap (qa .u64).c)] (ac (hs (.done (.opt (qc ZT 63 (.slice 0 0 k.length k.length 1) (.i (w64 (d+f))))) (.ptr 0 ((w64 (d+f):Int).toNat*1+0))) (zI jg p)) (ac (hs (.run [0] (qm ZT 164 (.ptr 0 ((w64 (d+f):Int).toNat*1+0)) (.int .u64 q.1)) [.cells (k.flatMap (qa .u64).c)] .undef [.cells (t.flatMap (qa .u64).c)] true) (zY (E:=(qa .u64)) (l:=k) (y:=q.1) rfl (show _=some 1 by kernel_rfl) rfl p rfl rfl rfl rfl rfl B rfl)) az)) ?_
       refine Goes.sub (show Sub (ofG 80 ((1,vl (qa .u64) b)::(kC k ((6,.i d)::(kAM r (IntKind.wrap .u64 ((IntKind.wrap .u64 (g.1+j.2))+q.2)) ((20,vl (qa .u64) a)::(kAP (a.length:Int) d ((27,vl (qa .u64) b)::(kBL (b.length:Int) f)))))))),[.cells (t.flatMap (qa .u64).c)]) (ofG 80 ((1,vl (qa .u64) b)::(kC t ((6,.i d)::(kAM r (IntKind.wrap .u64 ((IntKind.wrap .u64 (g.1+j.2))+q.2)) ((20,vl (qa .u64) a)::(kAP (a.length:Int) d ((27,vl (qa .u64) b)::(kBL (b.length:Int) f)))))))),[.cells (t.flatMap (qa .u64).c)])from(Sub.norm [] [some 0] rfl rfl (.keep (.same (qf (qa .u64) _)) (.keep (.sliceE rfl (qH B)) (.keep (.same nI) (.keep (.same nI) (.keep (.same nI) (.keep (.same (qf (qa .u64) _)) (.keep (.same nI) (.keep (.same nI) (.keep (.same (qf (qa .u64) _)) (.keep (.same nI) (.keep (.same nI) .nil))))))))))) (.ks .nil))) ?_
       refine gh fol ((1,vl (qa .u64) b)::(kC t ((6,.i d)::(kAM r (IntKind.wrap .u64 ((IntKind.wrap .u64 (g.1+j.2))+q.2)) ((20,vl (qa .u64) a)::(kAP (a.length:Int) d ((27,vl (qa .u64) b)::(kBL (b.length:Int) (w64 (f+1)))))))))) ?_
       exact⟨M,(ofG 80 ((1,vl (qa .u64) b)::(kC t ((6,.i d)::(kAM r (IntKind.wrap .u64 ((IntKind.wrap .u64 (g.1+j.2))+q.2)) ((20,vl (qa .u64) a)::(kAP (a.length:Int) d ((27,vl (qa .u64) b)::(kBL (b.length:Int) (w64 (f+1)))))))))),[.cells (t.flatMap (qa .u64).c)]),Nat.lt_succ_self _,(Sub.refl _),_,_,_,rfl,e⟩
      refine Goes.exit ?_
      obtain rfl:=si e
      exact⟨rfl,_,_,rfl,(Sub.keep [1,5,6,8,20,21,22] rfl rfl)⟩
    rintro x s' ⟨rfl,n,w,rfl,hsub⟩
    try dsimp only at g5
    refine Goes.sub hsub ?_
    obtain⟨Z,C,g5⟩:=bnd g5
    obtain⟨u,D,g5⟩:=bnd g5
    refine gq fol [6,7] ((1,vl (qa .u64) b)::(kC n ((20,vl (qa .u64) a)::(kAP (a.length:Int) d [])))) [.cells (u.flatMap (qa .u64).c)] (ac (hs (.done (.opt (qc ZT 63 (.slice 0 0 n.length n.length 1) (.i (w64 (d+(b.length:Int)))))) (.ptr 0 ((w64 (d+(b.length:Int)):Int).toNat*1+0))) (zI jg C)) (ac (hs (.run [0] (qm ZT 164 (.ptr 0 ((w64 (d+(b.length:Int)):Int).toNat*1+0)) (.int .u64 w)) [.cells (n.flatMap (qa .u64).c)] .undef [.cells (u.flatMap (qa .u64).c)] true) (zY (E:=(qa .u64)) (l:=n) (y:=w) rfl (show _=some 1 by kernel_rfl) rfl C rfl rfl rfl rfl rfl D rfl)) az)) ?_
    refine Goes.sub (show Sub (ofG 80 ((1,vl (qa .u64) b)::(kC n ((20,vl (qa .u64) a)::(kAP (a.length:Int) d [])))),[.cells (u.flatMap (qa .u64).c)]) (ofG 80 ((1,vl (qa .u64) b)::(kC u ((20,vl (qa .u64) a)::(kAP (a.length:Int) d [])))),[.cells (u.flatMap (qa .u64).c)])from(Sub.norm [] [some 0] rfl rfl (.keep (.same (qf (qa .u64) _)) (.keep (.sliceE rfl (qH D)) (.keep (.same (qf (qa .u64) _)) (.keep (.same nI) (.keep (.same nI) .nil))))) (.ks .nil))) ?_
    refine gh fol ((1,vl (qa .u64) b)::(kC u ((20,vl (qa .u64) a)::(kAP (a.length:Int) (w64 (d+1)) [])))) ?_
    exact⟨M,(ofG 80 ((1,vl (qa .u64) b)::(kC u ((20,vl (qa .u64) a)::(kAP (a.length:Int) (w64 (d+1)) [])))),[.cells (u.flatMap (qa .u64).c)]),Nat.lt_succ_self _,(Sub.refl _),_,_,rfl,g5⟩
   refine Goes.exit ?_
   obtain rfl:=si g5
   exact⟨rfl,_,rfl,(Sub.keep [5] rfl rfl)⟩
 rintro x s' ⟨rfl,v,rfl,hsub⟩
 refine Goes.sub hsub ?_
 obtain⟨F,L,h⟩:=bnd h
 refine sq (gq fol [1] [(4,vl (qa .u64) F)] [.frozen (v.flatMap (qa .u64).c)] (ac (hs (.callF 166 [.slice 0 0 v.length v.length 1] [.cells (v.flatMap (qa .u64).c)] [0] [vl (qa .u64) v] (vl (qa .u64) F)) (qa6 (FzL.cons (U0 (E:=(qa .u64)) rfl rfl (nl rfl)) FzL.nil) (xR N v L) (ql (qa .u64) _ (nl rfl)))) az) ?_)
 refine Goes.sub (show Sub (ofG 80 [(4,vl (qa .u64) F)],[.frozen (v.flatMap (qa .u64).c)]) (ofG 80 [(4,vl (qa .u64) F)],[])from(Sub.norm [] [] rfl rfl (.keep (.same (qf (qa .u64) _)) .nil) .nil)) ?_
 refine Goes.ret ?_
 obtain rfl:=si h
 exact(gw2 [vl (qa .u64) F] (Ua (ql (qa .u64) _ (nl rfl))))
def qdT (N:Nat) (a:qB) (b:qB):Option qB:=
 (if a.w.isEmpty=true then
 some b.w.isEmpty
 else
 some false:Option Bool).bind fun j=>
 ((if j=true then
 (qfp a.s).bind fun k=>
 (qfp b.s).bind fun l=>
 (bits_Mul64 k l).bind fun e=>
 (if e.1=0 then
 some (decide (e.2<=9223372036854775807))
 else
 some false:Option Bool).bind fun f=>
 if f=true then
 if(!((decide (a.s<0))==(decide (b.s<0))))=true then
 some (.inr (⟨w64 (0-(w64 e.2)),[]⟩:qB))
 else
 some (.inr (⟨w64 e.2,[]⟩:qB))
 else
 some (.inl ())
 else
 some (.inl ()):Option (Unit⊕qB))).bind (fun
 |(.inl ())=>
 (jw a).bind fun c=>
 (jw b).bind fun d=>
 (qeE N c.2 d.2).bind fun g=>
 (qb3 (!(c.1==d.1)) g).bind fun h=>
 some h
 |(.inr i)=>
 some i)
theorem qfy (N:Nat) (a:qB) (b:qB) {res:qB} (h:qdT N a b=some res):qb ZT (.fn 87) [.agg (nz1 a),.agg (nz1 b)] [] (.agg (nz1 res)) []:=by
 unfold qdT at h
 refine Ub Tryz.func87 rfl rfl (m:=66) rfl (rs:=[.cell 4 65]) rfl (l:=[(0,.agg (nz1 a)),(1,.agg (nz1 b))]) rfl ?_
 refine sg fol (kH []) [.cells (nz1 a),.cells (nz1 b),bZ] ?_
 refine sq ?_
 refine sq ?_
 obtain⟨G,d,h⟩:=bnd h
 refine Goes.cut (s':=(ofG 66 (kH [(18,.bool G)]),[.cells (nz1 a),.cells (nz1 b),bZ])) ?_ ?_
 ·rcases wyB d with⟨y,d⟩|⟨y,d⟩
  ·obtain rfl:=si d
   exact tr fol [2,3,6] (kH [(18,.bool b.w.isEmpty)]) (ac (hs (.done (.opt (zx ZT .eql 63 (.tmp 12) (.const (.slice none 0 0)) (nvl (qa .u64) a.w) .nilslice)) (.bool a.w.isEmpty)) (qch qbV)) (ac (gw y) (ac (hs (.done (.opt (zx ZT .eql 63 (.tmp 16) (.const (.slice none 0 0)) (nvl (qa .u64) b.w) .nilslice)) (.bool b.w.isEmpty)) (qch qbV)) az)))
  obtain rfl:=si d
  exact tr fol [2,3] (kH [(18,.bool false)]) (ac (hs (.done (.opt (zx ZT .eql 63 (.tmp 12) (.const (.slice none 0 0)) (nvl (qa .u64) a.w) .nilslice)) (.bool a.w.isEmpty)) (qch qbV)) (ac (gw y) az))
 obtain⟨D,g4,h⟩:=bnd h
 refine Goes.imp (Q:=fun x s'=>(x= .normal/\(.inl ())=D/\Sub s' (ofG 66 (kH []),[.cells (nz1 a),.cells (nz1 b),bZ]))\/(x= .ret/\ ∃F,(.inr F)=D/\kz ZT [.cell 4 65] (.agg (nz1 F)) .ret s')) ?_ ?_
 ·refine ihB g4 (fun H g4=>?_) (fun H g4=>?_)
  ·obtain⟨I,t,g4⟩:=bnd g4
   obtain⟨J,u,g4⟩:=bnd g4
   obtain⟨f,v,g4⟩:=bnd g4
   refine sq (gr fol [2,5,6] (kH ((5,.int .u64 f.1)::(kAU f.2 []))) (ac (cv (qfF a.s t)) (ac (cv (qfF b.s u)) (ac (cv (qbn I J v)) az))) ?_)
   refine sq ?_
   obtain⟨z,c,g4⟩:=bnd g4
   refine Goes.cut (s':=(ofG 66 (kH (kAU f.2 [(34,.bool z)])),[.cells (nz1 a),.cells (nz1 b),bZ])) ?_ ?_
   ·rcases wyD c with⟨k,c⟩|⟨k,c⟩
    ·obtain rfl:=si c
     exact tr fol [2] (kH (kAU f.2 [(34,.bool (decide (f.2<=9223372036854775807)))])) (ac (gw k) az)
    obtain rfl:=si c
    exact tr fol [2] (kH (kAU f.2 [(34,.bool false)])) (ac (gw k) az)
   refine ihB g4 (fun A g4=>?_) (fun A g4=>?_)
   ·refine sq ?_
    refine sh fol (kBK (kAU f.2 [(41,.bool (!((decide (a.s<0))==(decide (b.s<0)))))])) ?_
    refine ihB g4 (fun B g4=>?_) (fun B g4=>?_)
    ·refine sg fol (kBK []) (.cells (nz1 a):: .cells (nz1 b)::(kAG (w64 (0-(w64 f.2))) [])) ?_
     refine Goes.ret ?_
     obtain rfl:=si g4
     exact Or.inr (⟨rfl,_,rfl,(gw2 [.agg [.i (w64 (0-(w64 f.2))),.nilslice]] (FzW.agg (qh.cons (Ua tI) (qh.cons (FzW.nv0 (E:=(qa .u64))) qh.nil))))⟩)
    refine Goes.skip ?_
    refine sg fol (kBK []) (.cells (nz1 a):: .cells (nz1 b)::(kAG (w64 f.2) [])) ?_
    refine Goes.ret ?_
    obtain rfl:=si g4
    exact Or.inr (⟨rfl,_,rfl,(gw2 [.agg [.i (w64 f.2),.nilslice]] (FzW.agg (qh.cons (Ua tI) (qh.cons (FzW.nv0 (E:=(qa .u64))) qh.nil))))⟩)
   refine Goes.skip ?_
   obtain rfl:=si g4
   exact Or.inl (⟨rfl,rfl,(Sub.keep [2,3,4] rfl rfl)⟩)
  refine Goes.skip ?_
  obtain rfl:=si g4
  exact Or.inl (⟨rfl,rfl,(Sub.keep [2,3,4] rfl rfl)⟩)
 rintro x s' (⟨rfl,rfl,hsub⟩|⟨rfl,K,rfl,hret⟩)
 ·try dsimp only at h
  refine Goes.sub hsub ?_
  obtain⟨e,o,h⟩:=bnd h
  refine sq (gr fol [1] (kBm (kBK [(7,.bool e.1),(8,vl (qa .u64) e.2)])) (ac (cv (zZ a o)) az) ?_)
  obtain⟨g,p,h⟩:=bnd h
  refine sq (gr fol [1] (kBK [(7,.bool e.1),(8,vl (qa .u64) e.2),(9,.bool g.1),(10,vl (qa .u64) g.2)]) (ac (cv (zZ b p)) az) ?_)
  obtain⟨C,q,h⟩:=bnd h
  obtain⟨j,r,h⟩:=bnd h
  refine sq (gq fol [5,6,7] (kBK []) [.cells (nz1 a),.cells (nz1 b),.cells (nz1 j)] (ac (cv (qhE N e.2 g.2 q)) (ac (cv (qaV (!(e.1==g.1)) C r)) (ac (hs (.run [2] (qm ZT 65 (.ptr 2 0) (.agg (nz1 j))) [.cells (nz1 a),.cells (nz1 b),bZ] .undef [.cells (nz1 a),.cells (nz1 b),.cells (nz1 j)] true) (jW (n:=2) (by kernel_rfl) rfl rfl rfl rfl (cac rfl (cac nvc can)) rfl)) az))) ?_)
  refine Goes.ret ?_
  obtain rfl:=si h
  exact(gw2 [.agg (nz1 j)] (FzW.agg (qh.cons (Ua tI) (qh.cons (Ua (qQ (qa .u64) _ (nl rfl))) qh.nil))))
 try dsimp only at h
 obtain rfl:=si h
 exact hret
def xS (N:Nat) (a:jm) (b:jm):Option jm:=
 (qdT N a.Num b.Num).bind fun c=>
 (qdT N a.Den b.Den).bind fun d=>
 (qgO N c d).bind fun e=>
 some e
theorem qe1 (N:Nat) (a:jm) (b:jm) {res:jm} (h:xS N a b=some res):qb ZT (.fn 36) [.agg (nq1 a),.agg (nq1 b)] [] (.agg (nq1 res)) []:=by
 unfold xS at h
 refine Ub Tryz.func36 rfl rfl (m:=16) rfl (rs:=[.cell 4 67]) rfl (l:=[(0,.agg (nq1 a)),(1,.agg (nq1 b))]) rfl ?_
 refine sg fol (kH []) (.cells (nq1 a):: .cells (nq1 b)::(kQ [])) ?_
 obtain⟨g,c,h⟩:=bnd h
 obtain⟨i,d,h⟩:=bnd h
 obtain⟨f,e,h⟩:=bnd h
 refine sq (gq fol [4,9,10,11] (kBK []) [.cells (nq1 a),.cells (nq1 b),.cells (nq1 f)] (ac (cv (qfy N a.Num b.Num c)) (ac (cv (qfy N a.Den b.Den d)) (ac (cv (qhx N g i e)) (ac (hs (.run [2] (qm ZT 67 (.ptr 2 0) (.agg (nq1 f))) (.cells (nq1 a):: .cells (nq1 b)::(kQ [])) .undef [.cells (nq1 a),.cells (nq1 b),.cells (nq1 f)] true) (jW (n:=4) (by kernel_rfl) rfl rfl rfl rfl (cac rfl (cac nvc (cac rfl (cac nvc can)))) rfl)) az)))) ?_)
 refine Goes.ret ?_
 obtain rfl:=si h
 exact(gw2 [.agg (nq1 f)] (FzW.agg (qh.cons (Ua tI) (qh.cons (Ua (qQ (qa .u64) _ (nl rfl))) (qh.cons (Ua tI) (qh.cons (Ua (qQ (qa .u64) _ (nl rfl))) qh.nil))))))
def qeR (N:Nat) (a:jm):Option jm:=
 (qgO N a.Den a.Num).bind fun b=>
 some b
theorem qhK (N:Nat) (a:jm) {res:jm} (h:qeR N a=some res):qb ZT (.fn 85) [.agg (nq1 a)] [] (.agg (nq1 res)) []:=by
 unfold qeR at h
 refine Ub Tryz.func85 rfl rfl (m:=8) rfl (rs:=[.cell 2 67]) rfl (l:=[(0,.agg (nq1 a))]) rfl ?_
 refine sg fol (kAX kBX) (.cells (nq1 a)::(kQ [])) ?_
 obtain⟨c,b,h⟩:=bnd h
 refine sq (gq fol [4,5] kBX [.cells (nq1 a),.cells (nq1 c)] (ac (cv (qhx N a.Den a.Num b)) (ac (hs (.run [1] (qm ZT 67 (.ptr 1 0) (.agg (nq1 c))) (.cells (nq1 a)::(kQ [])) .undef [.cells (nq1 a),.cells (nq1 c)] true) (jW (n:=4) (by kernel_rfl) rfl rfl rfl rfl (cac rfl (cac nvc (cac rfl (cac nvc can)))) rfl)) az)) ?_)
 refine Goes.ret ?_
 obtain rfl:=si h
 exact(gw2 [.agg (nq1 c)] (FzW.agg (qh.cons (Ua tI) (qh.cons (Ua (qQ (qa .u64) _ (nl rfl))) (qh.cons (Ua tI) (qh.cons (Ua (qQ (qa .u64) _ (nl rfl))) qh.nil))))))
def xX (N:Nat) (a:jm) (b:jm):Option jm:=
 (qeR N b).bind fun c=>
 (xS N a c).bind fun d=>
 some d
theorem qhF (N:Nat) (a:jm) (b:jm) {res:jm} (h:xX N a b=some res):qb ZT (.fn 35) [.agg (nq1 a),.agg (nq1 b)] [] (.agg (nq1 res)) []:=by
 unfold xX at h
 refine Ub Tryz.func35 rfl rfl (m:=9) rfl (rs:=[.cell 4 67]) rfl (l:=[(0,.agg (nq1 a)),(1,.agg (nq1 b))]) rfl ?_
 refine sg fol (kH []) (.cells (nq1 a):: .cells (nq1 b)::(kQ [])) ?_
 obtain⟨f,c,h⟩:=bnd h
 obtain⟨e,d,h⟩:=bnd h
 refine sq (gq fol [2,3,4] (kBK []) [.cells (nq1 a),.cells (nq1 b),.cells (nq1 e)] (ac (cv (qhK N b c)) (ac (cv (qe1 N a f d)) (ac (hs (.run [2] (qm ZT 67 (.ptr 2 0) (.agg (nq1 e))) (.cells (nq1 a):: .cells (nq1 b)::(kQ [])) .undef [.cells (nq1 a),.cells (nq1 b),.cells (nq1 e)] true) (jW (n:=4) (by kernel_rfl) rfl rfl rfl rfl (cac rfl (cac nvc (cac rfl (cac nvc can)))) rfl)) az))) ?_)
 refine Goes.ret ?_
 obtain rfl:=si h
 exact(gw2 [.agg (nq1 e)] (FzW.agg (qh.cons (Ua tI) (qh.cons (Ua (qQ (qa .u64) _ (nl rfl))) (qh.cons (Ua tI) (qh.cons (Ua (qQ (qa .u64) _ (nl rfl))) qh.nil))))))
def xq (N:Nat):Nat->(List Str)->(List Int)->Option (List Str)
 |0,_,_=>none
 |K+1,i,j=>
  if(j.length:Int)>0 then
  (qeO N j ([1000000000000000000]:List Int)).bind fun b=>
  ((if(b.2.length:Int)>0 then
  (idx b.2 0).bind fun c=>
  (qo6 c 10).bind fun d=>
  some d
  else
  some [48]:Option Str)).bind fun a=>
  ((if(b.1.length:Int)>0 then
  (qj8 [48] (w64 (18-(a.length:Int)))).bind fun e=>
  (cat e a).bind fun f=>
  some f
  else
  some a:Option Str)).bind fun g=>
  (app 16 i [g]).bind fun h=>
  xq N K h b.1
  else
  some i
def xk (e:List Str):Nat->Bool->(Option (List Int))->Int->Option (Bool×(Option (List Int)))
 |0,_,_,_=>none
 |K+1,ok27,b,a=>
  if a>=0 then
  (idx e a).bind fun c=>
  (bWr ok27 b c).bind fun d=>
  xk e K true (some d) (w64 (a-1))
  else
  some (ok27,b)
def xH (N:Nat) (a:qB):Option Str:=
 if a.w.isEmpty=true then
 (qp6 a.s).bind fun h=>
 some h
 else
 (jw a).bind fun f=>
 (xq N N ([]:List Str) f.2).bind fun g=>
 ((if f.1=true then
 (bWr false (none:Option (List Int)) [45]).bind fun b=>
 some (true,(some b))
 else
 some (false,(none:Option (List Int))):Option (Bool×(Option (List Int))))).bind fun(ok21,c)=>
 (xk g N ok21 c (w64 ((g.length:Int)-1))).bind fun(ok30,d)=>
 (bStr ok30 d).bind fun e=>
 some e
theorem qaC (N:Nat) (a:qB) {res:Str} (h:xH N a=some res):qb ZT (.fn 138) [.agg (nz1 a)] [] (.str res) []:=by
 unfold xH at h
 refine Ub Tryz.func138 rfl rfl (m:=69) rfl (rs:=[.tmp 2]) rfl (l:=[(0,.agg (nz1 a))]) rfl ?_
 refine sg fol (kAX []) [.cells (nz1 a)] ?_
 refine sq ?_
 refine sq (gr fol [2] (kAX (kB6 a.w.isEmpty)) (ac (hs (.done (.opt (zx ZT .eql 63 (.tmp 13) (.const (.slice none 0 0)) (nvl (qa .u64) a.w) .nilslice)) (.bool a.w.isEmpty)) (qch qbV)) az) ?_)
 refine ihB h (fun c1 h=>?_) (fun c1 h=>?_)
 ·obtain⟨r2,T,h⟩:=bnd h
  refine sq (gr fol [2] [(2,.str r2)] (ac (cv (qoA a.s T)) az) ?_)
  refine Goes.ret ?_
  obtain rfl:=si h
  exact(gw2 [.str r2] (Ua tS))
 refine Goes.skip ?_
 obtain⟨e,U,h⟩:=bnd h
 refine sq (gr fol [1] (kBt e.1 [(4,vl (qa .u64) e.2)]) (ac (cv (zZ a U)) az) ?_)
 refine sg fol (kBt e.1 [(4,vl (qa .u64) e.2),(5,.slice 1 0 1 1 1)]) [.cells (nz1 a),.cells [.int .u64 1000000000000000000]] ?_
 refine sh fol (kBt e.1 [(4,vl (qa .u64) e.2),(5,.slice 1 0 1 1 1),(6,.nilslice)]) ?_
 refine sq (Goes.block ?_)
 obtain⟨r7,n,h⟩:=bnd h
 refine Goes.imp (Q:=fun x s'=>(x= .exit 0/\ ∃b,b=r7/\Sub s' (ofG 69 (kBt e.1 (kAQ b [])),(kAV b [])))) ?_ ?_
 ·refine Goes.sub (s':=(ofG 69 (kBt e.1 [(4,vl (qa .u64) e.2),(5,vl (qa .u64) ([1000000000000000000]:List Int)),(6,.gslice 0 ([]:List Str).length 1)]),[.cells (([]:List Str).flatMap encS.c)])) (Sub.norm [1] [none] rfl rfl (.keep (.same nB) (.keep (.same (qf (qa .u64) _)) (.keep (.frz (Fz.lit rfl rfl (Uj (AllST.cons tI AllST.nil))) (qf (qa .u64) _)) (.keep .nil .nil)))) (.fresh .nil)) ?_
  refine Uc (fun M s=> ∃(o:List Str) (P:List Int),s=(ofG 69 (kBt e.1 ((4,vl (qa .u64) P)::(5,vl (qa .u64) ([1000000000000000000]:List Int))::(kAQ o []))),(kAV o []))/\xq N M o P=some r7) ?_ (m:=N) ⟨_,_,rfl,n⟩
  rintro M s ⟨o,P,rfl,n⟩
  cases M with
  |zero=>simp only[xq]at n;cases n
  |succ M=>
   rw[xq]at n
   refine sq ?_
   refine sh fol (kBt e.1 ((4,vl (qa .u64) P)::(5,vl (qa .u64) ([1000000000000000000]:List Int))::(kAQ o [(26,.bool (decide ((P.length:Int)>0)))]))) ?_
   refine ihD n (fun c8 n=>?_) (fun c8 n=>?_)
   ·refine Goes.skip ?_
    refine Goes.block ?_
    obtain⟨p,V,n⟩:=bnd n
    refine sq (gr fol [2] (kBt e.1 ((5,vl (qa .u64) ([1000000000000000000]:List Int))::(kAQ o [(7,vl (qa .u64) p.1),(8,vl (qa .u64) p.2)]))) (ac (cv (qgb N P ([1000000000000000000]:List Int) V)) az) ?_)
    refine sh fol (kBt e.1 ((5,vl (qa .u64) ([1000000000000000000]:List Int))::(kAQ o [(7,vl (qa .u64) p.1),(8,vl (qa .u64) p.2),(9,.str [48])]))) ?_
    refine sq ?_
    refine sh fol (kBt e.1 ((5,vl (qa .u64) ([1000000000000000000]:List Int))::(kAQ o [(7,vl (qa .u64) p.1),(8,vl (qa .u64) p.2),(9,.str [48]),(35,.bool (decide ((p.2.length:Int)>0)))]))) ?_
    obtain⟨Y,j,n⟩:=bnd n
    refine Goes.imp (Q:=fun x s'=>(x= .normal/\ ∃v,v=Y/\Sub s' (ofG 69 (kBt e.1 ((5,vl (qa .u64) ([1000000000000000000]:List Int))::(kAQ o [(7,vl (qa .u64) p.1),(9,.str v)]))),(kAV o [])))) ?_ ?_
    ·refine ihD j (fun Z j=>?_) (fun Z j=>?_)
     ·obtain⟨a0,z,j⟩:=bnd j
      obtain⟨a1,F,j⟩:=bnd j
      refine gr fol [1,2,3] (kBt e.1 ((5,vl (qa .u64) ([1000000000000000000]:List Int))::(kAQ o [(7,vl (qa .u64) p.1),(9,.str a1)]))) (ac (iv jg (qa .u64) z) (ac (lv 0 jr (qa .u64) z rfl) (ac (cv (qoD a0 10 F)) az))) ?_
      obtain rfl:=si j
      exact⟨rfl,_,rfl,(Sub.refl _)⟩
     refine Goes.skip ?_
     obtain rfl:=si j
     exact⟨rfl,_,rfl,(Sub.keep [3,5,6,7,9] rfl rfl)⟩
    rintro x s' ⟨rfl,v,rfl,hsub⟩
    refine Goes.sub hsub ?_
    refine sq ?_
    refine sh fol (kBt e.1 ((5,vl (qa .u64) ([1000000000000000000]:List Int))::(kAQ o [(7,vl (qa .u64) p.1),(9,.str v),(42,.bool (decide ((p.1.length:Int)>0)))]))) ?_
    obtain⟨a2,k,n⟩:=bnd n
    refine Goes.imp (Q:=fun x s'=>(x= .normal/\ ∃q,q=a2/\Sub s' (ofG 69 (kBt e.1 ((5,vl (qa .u64) ([1000000000000000000]:List Int))::(kAQ o [(7,vl (qa .u64) p.1),(9,.str q)]))),(kAV o [])))) ?_ ?_
    ·refine ihD k (fun a3 k=>?_) (fun a3 k=>?_)
     ·obtain⟨a4,G,k⟩:=bnd k
      obtain⟨W,H,k⟩:=bnd k
      refine gr fol [3,5] (kBt e.1 ((5,vl (qa .u64) ([1000000000000000000]:List Int))::(kAQ o [(7,vl (qa .u64) p.1),(9,.str W)]))) (ac (cv (ql5 [48] (w64 (18-(v.length:Int))) G)) (ac (hs (.done (.opt (zx ZT .add 9 (.tmp 46) (.tmp 47) (.str a4) (.str v))) (.str W)) (qcd H)) az)) ?_
      obtain rfl:=si k
      exact⟨rfl,_,rfl,(Sub.refl _)⟩
     refine Goes.skip ?_
     obtain rfl:=si k
     exact⟨rfl,_,rfl,(Sub.keep [3,5,6,7,9] rfl rfl)⟩
    rintro x s' ⟨rfl,q,rfl,hsub⟩
    refine Goes.sub hsub ?_
    obtain⟨r,I,n⟩:=bnd n
    refine sq (gq fol [3] (kBt e.1 ((5,vl (qa .u64) ([1000000000000000000]:List Int))::(kAs r [(7,vl (qa .u64) p.1)]))) (.dead:: .cells [.str q]::(kAV r [])) (ac (hs (.run [0,1] (ja ZT [197,197] (.gslice 0 o.length 1) (.slice 1 0 1 1 1)) (kAV o [.cells [.str q]]) (.gslice 2 r.length 1) (.dead:: .cells [.str q]::(kAV r [])) true) (yF qrE (E:=encS) rfl (qcB (E:=encS) (ys:=[q]) rfl rfl rfl rfl) (qdX (E:=encS) (l:=o) rfl rfl rfl I rfl))) az) ?_)
    refine gh fol (kBt e.1 ((4,vl (qa .u64) p.1)::(5,vl (qa .u64) ([1000000000000000000]:List Int))::(kAs r []))) ?_
    exact⟨M,(ofG 69 (kBt e.1 ((4,vl (qa .u64) p.1)::(5,vl (qa .u64) ([1000000000000000000]:List Int))::(kAQ r []))),(kAV r [])),Nat.lt_succ_self _,(Sub.norm [] [some 2] rfl rfl (.keep (.same nB) (.keep (.same (qf (qa .u64) _)) (.keep (.same (qf (qa .u64) _)) (.keep (.gslice rfl) .nil)))) (.ks .nil)),_,_,rfl,n⟩
   refine Goes.exit ?_
   obtain rfl:=si n
   exact⟨rfl,_,rfl,(Sub.keep [3,6] rfl rfl)⟩
 rintro x s' ⟨rfl,b,rfl,hsub⟩
 refine Goes.sub hsub ?_
 refine sg fol (kBt e.1 (kAQ b (kB4 []))) (kAV b [.bld 205 5 [.nilptr,.nilslice]]) ?_
 refine sq ?_
 refine sh fol (kAQ b (kB4 [(54,.bool e.1)])) ?_
 obtain⟨a5,t,h⟩:=bnd h
 refine Goes.imp (Q:=fun x s'=>(x= .normal/\ ∃ok21 B,(ok21,B)=a5/\Sub s' (ofG 69 (kAQ b (kB4 [])),(kAV b [.bld 205 5 [pz ok21 1 0,hsl 2 1 B],.cells ((hof B).flatMap (qa .u8).c)])))) ?_ ?_
 ·refine ihB t (fun a6 t=>?_) (fun a6 t=>?_)
  ·refine Goes.sub (s':=(ofG 69 (kAQ b (kB4 [(54,.bool e.1)])),(kAV b [.bld 205 5 [pz false 1 0,.nilslice]]))) (Sub.norm [] [some 0,some 1] rfl rfl (.keep (.gslice rfl) (.kp (.keep (.same nB) .nil))) (.ks (.kb rfl (.bld (rc (zQ.pz0) (rc (.same (qy.nilslice)) rn))) .nil))) ?_
   refine Goes.sub (s':=(ofG 69 (kAQ b (kB4 [(54,.bool e.1)])),(kAV b [.bld 205 5 [pz false 1 0,hsl 2 1 (none:Option (List Int))],.cells ((hof (none:Option (List Int))).flatMap (qa .u8).c)]))) (Sub.norm [] [some 0,some 1,none] rfl rfl (.keep (.gslice rfl) (.kp (.keep (.same nB) .nil))) (.ks (.kb rfl (.bld (rc (zQ.pz0) (rc .hs0 rn))) (.fresh .nil)))) ?_
   obtain⟨C,J,t⟩:=bnd t
   refine gq fol [0] (kAQ b (kB4 [])) (kAV b [.bld 205 5 [pz true 1 0,hsl 3 1 (some C)],.dead,.cells ((hof (some C)).flatMap (qa .u8).c)]) (ac (hs (.callH 173 [.ptr 1 0,.str [45]] (kAV b [.bld 205 5 [pz false 1 0,hsl 2 1 (none:Option (List Int))],.cells ((hof (none:Option (List Int))).flatMap (qa .u8).c)]) [1,2] (.tuple [.i (([45].length:Nat):Int),.niliface]) (kAV b [.bld 205 5 [pz true 1 0,hsl 3 1 (some C)],.dead,.cells ((hof (some C)).flatMap (qa .u8).c)])) (vv [some 1,some 2] [none,some 0,none,some 2] (qqb false (none:Option (List Int)) [45] J) (.kb rfl (.bld (rc (zQ.pz0) (rc .hs0 rn))) (.ks .nil)) rfl rfl (.old rfl rfl (.back rfl rfl (.bld (rc ((zQ.pz rfl)) (rc (.hs rfl) rn))) rfl (.dead (.new rfl rfl (.same fa) rfl .nil)))) (rc (.ptr rfl) (rc (.same nS) rn)) (.same (qy.tuple sn)) rfl)) az) ?_
   obtain rfl:=si t
   exact⟨rfl,_,_,rfl,(Sub.norm [] [some 0,some 1,some 3] rfl rfl (.keep (.gslice rfl) (.kp .nil)) (.ks (.kb rfl (.bld (rc ((zQ.pz rfl)) (rc (.hs rfl) rn))) (.ks .nil))))⟩
  refine Goes.skip ?_
  obtain rfl:=si t
  exact⟨rfl,_,_,rfl,(Sub.norm [] [some 0,some 1,none] rfl rfl (.keep (.gslice rfl) (.kp .nil)) (.ks (.kb rfl (.bld (rc (zQ.pz0) (rc .hs0 rn))) (.fresh .nil))))⟩
 rintro x s' ⟨rfl,ok21,B,rfl,hsub⟩
 try dsimp only at h
 refine Goes.sub hsub ?_
 refine sq ?_
 refine sh fol (kAQ b (kB4 [(11,.i (w64 ((b.length:Int)-1)))])) ?_
 refine Goes.block ?_
 obtain⟨X,d,h⟩:=bnd h
 refine Goes.imp (Q:=fun x s'=>(x= .exit 2/\ ∃ok30 u,(ok30,u)=X/\Sub s' (ofG 69 [(10,.ptr 0 0)],[.bld 205 5 [pz ok30 0 0,hsl 1 1 u],.cells ((hof u).flatMap (qa .u8).c)]))) ?_ ?_
 ·refine Uc (fun M s=> ∃(ok27:Bool) (f:Option (List Int)) (g:Int),s=(ofG 69 (kAQ b (kB4 [(11,.i g)])),(kAV b [.bld 205 5 [pz ok27 1 0,hsl 2 1 f],.cells ((hof f).flatMap (qa .u8).c)]))/\xk b M ok27 f g=some X) ?_ (m:=N) ⟨_,_,_,rfl,d⟩
  rintro M s ⟨ok27,f,g,rfl,d⟩
  cases M with
  |zero=>simp only[xk]at d;cases d
  |succ M=>
   rw[xk]at d
   refine sq ?_
   refine sh fol (kAQ b (kB4 [(11,.i g),(60,.bool (decide (g>=0)))])) ?_
   refine ihD d (fun a7 d=>?_) (fun a7 d=>?_)
   ·refine Goes.skip ?_
    refine sq (Goes.block ?_)
    obtain⟨D,A,d⟩:=bnd d
    obtain⟨y,K,d⟩:=bnd d
    refine gq fol [2,3,4] (kAQ b (kB4 [(11,.i g)])) (kAV b [.bld 205 5 [pz true 1 0,hsl 3 1 (some y)],.dead,.cells ((hof (some y)).flatMap (qa .u8).c)]) (ac (hs (.done (.opt (qc ZT 197 (.gslice 0 b.length 1) (.i g))) (.ptr 0 ((g:Int).toNat*1+0))) (qaP qrE A)) (ac (hs (.run [0] (qV ZT 9 (.ptr 0 ((g:Int).toNat*1+0))) (kAV b [.bld 205 5 [pz ok27 1 0,hsl 2 1 f],.cells ((hof f).flatMap (qa .u8).c)]) (.str D) (kAV b [.bld 205 5 [pz ok27 1 0,hsl 2 1 f],.cells ((hof f).flatMap (qa .u8).c)]) false) (yE ce9 (E:=encS) (l:=b) rfl rfl A (nl rfl) rfl)) (ac (hs (.callH 173 [.ptr 1 0,.str D] (kAV b [.bld 205 5 [pz ok27 1 0,hsl 2 1 f],.cells ((hof f).flatMap (qa .u8).c)]) [1,2] (.tuple [.i ((D.length:Nat):Int),.niliface]) (kAV b [.bld 205 5 [pz true 1 0,hsl 3 1 (some y)],.dead,.cells ((hof (some y)).flatMap (qa .u8).c)])) (vv [some 1,some 2] [none,some 0,none,some 2] (qqb ok27 f D K) (.kb rfl (.bld (rc ((zQ.pz rfl)) (rc (.hs rfl) rn))) (.ks .nil)) rfl rfl (.old rfl rfl (.back rfl rfl (.bld (rc ((zQ.pz rfl)) (rc (.hs rfl) rn))) rfl (.dead (.new rfl rfl (.same fa) rfl .nil)))) (rc (.ptr rfl) (rc (.same nS) rn)) (.same (qy.tuple sn)) rfl)) az))) ?_
    refine gh fol (kAQ b (kB4 [(11,.i (w64 (g-1)))])) ?_
    exact⟨M,(ofG 69 (kAQ b (kB4 [(11,.i (w64 (g-1)))])),(kAV b [.bld 205 5 [pz true 1 0,hsl 2 1 (some y)],.cells ((hof (some y)).flatMap (qa .u8).c)])),Nat.lt_succ_self _,(Sub.norm [] [some 0,some 1,some 3] rfl rfl (.keep (.gslice rfl) (.kp (.keep (.same nI) .nil))) (.ks (.kb rfl (.bld (rc ((zQ.pz rfl)) (rc (.hs rfl) rn))) (.ks .nil)))),_,_,_,rfl,d⟩
   refine Goes.exit ?_
   obtain rfl:=si d
   exact⟨rfl,_,_,rfl,(Sub.norm [] [some 1,some 2] rfl rfl (.drop (.kp .nil)) (.kb rfl (.bld (rc ((zQ.pz rfl)) (rc (.hs rfl) rn))) (.ks .nil)))⟩
 rintro x s' ⟨rfl,ok30,u,rfl,hsub⟩
 try dsimp only at h
 refine Goes.sub hsub ?_
 obtain⟨L,O,h⟩:=bnd h
 refine sq (gq fol [0] [(2,.str L)] [.dead,.dead] (ac (hs (.callH 174 [.ptr 0 0] [.bld 205 5 [pz ok30 0 0,hsl 1 1 u],.cells ((hof u).flatMap (qa .u8).c)] [0,1] (.str L) [.dead,.dead]) (vv [some 0,some 1] [none,none] (qqS ok30 u O) (.kb rfl (.bld (rc ((zQ.pz rfl)) (rc (.hs rfl) rn))) (.ks .nil)) rfl rfl (.dead (.dead .nil)) (rc (.ptr rfl) rn) (.same nS) rfl)) az) ?_)
 refine Goes.ret ?_
 obtain rfl:=si h
 exact(gw2 [.str L] (Ua tS))
def qeJ (a:qB):Option Int:=
 (jw a).bind fun b=>
 if(b.2.length:Int)=0 then
 some 0
 else
 (idx b.2 (w64 ((b.2.length:Int)-1))).bind fun c=>
 (bits_Len64 c).bind fun d=>
 some (w64 ((w64 (64*(w64 ((b.2.length:Int)-1))))+d))
theorem qe0 (a:qB) {res:Int} (h:qeJ a=some res):qb ZT (.fn 167) [.agg (nz1 a)] [] (.i res) []:=by
 unfold qeJ at h
 refine Ub Tryz.func167 rfl rfl (m:=25) rfl (rs:=[.tmp 2]) rfl (l:=[(0,.agg (nz1 a))]) rfl ?_
 refine sg fol (kAX []) [.cells (nz1 a)] ?_
 obtain⟨c,d,h⟩:=bnd h
 refine sq (gr fol [1] [(4,vl (qa .u64) c.2)] (ac (cv (zZ a d)) az) ?_)
 refine sq ?_
 refine sh fol [(4,vl (qa .u64) c.2),(12,.bool (decide ((c.2.length:Int)=0)))] ?_
 refine ihD h (fun g h=>?_) (fun g h=>?_)
 ·refine sh fol [(2,.i 0)] ?_
  refine Goes.ret ?_
  obtain rfl:=si h
  exact(gw2 [.i 0] (Ua tI))
 refine Goes.skip ?_
 obtain⟨j,b,h⟩:=bnd h
 obtain⟨f,e,h⟩:=bnd h
 refine sq (gr fol [8,9,10] (kBR (w64 ((w64 (64*(w64 ((c.2.length:Int)-1))))+f))) (ac (iv jg (qa .u64) b) (ac (lv 0 jr (qa .u64) b rfl) (ac (cv (qf4 j e)) az))) ?_)
 refine Goes.ret ?_
 obtain rfl:=si h
 exact(gw2 [.i (w64 ((w64 (64*(w64 ((c.2.length:Int)-1))))+f))] (Ua tI))
def stringslite_HasPrefix (b:Str) (a:Str):Option Bool:=
 (if(b.length:Int)>=(a.length:Int)then
 (cut b 0 (a.length:Int)).bind fun c=>
 some (c==a)
 else
 some false:Option Bool).bind fun d=>
 some d
theorem qd1 (c:Str) (a:Str) {res:Bool} (h:stringslite_HasPrefix c a=some res):qb ZT (.fn 197) [.str c,.str a] [] (.bool res) []:=by
 unfold stringslite_HasPrefix at h
 refine Ub Tryz.func197 rfl rfl (m:=18) rfl (rs:=[.tmp 4]) rfl (l:=(kAz c a [])) rfl ?_
 refine sh fol (kAz c a []) ?_
 refine sq ?_
 obtain⟨f,b,h⟩:=bnd h
 refine Goes.cut (s':=(ofG 18 (kBI f),[])) ?_ ?_
 ·rcases wyD b with⟨e,b⟩|⟨e,b⟩
  ·obtain⟨g,d,b⟩:=bnd b
   obtain rfl:=si b
   exact tr fol [5,9] (kBI (g==a)) (ac (gw e) (ac (hs (.done (.opt (zi ZT 9 (.str c) none (some (.i (a.length:Int))) none)) (.str g)) (xc st9 none (some (a.length:Int)) d)) az))
  obtain rfl:=si b
  exact tr fol [5] [(4,.bool false)] (ac (gw e) az)
 refine Goes.ret ?_
 obtain rfl:=si h
 exact(gw2 [.bool f] (Ua tB))
def stringslite_TrimPrefix (b:Str) (a:Str):Option Str:=
 (stringslite_HasPrefix b a).bind fun c=>
 if c=true then
 (cut b (a.length:Int) (b.length:Int)).bind fun d=>
 some d
 else
 some b
theorem qdG (b:Str) (a:Str) {res:Str} (h:stringslite_TrimPrefix b a=some res):qb ZT (.fn 182) [.str b,.str a] [] (.str res) []:=by
 unfold stringslite_TrimPrefix at h
 refine Ub Tryz.func182 rfl rfl (m:=13) rfl (rs:=[.tmp 4]) rfl (l:=(kAz b a [])) rfl ?_
 refine sh fol (kAz b a []) ?_
 refine sq ?_
 obtain⟨f,c,h⟩:=bnd h
 refine sq (gr fol [2] (kAz b a [(7,.bool f)]) (ac (cv (qd1 b a c)) az) ?_)
 refine ihB h (fun g h=>?_) (fun g h=>?_)
 ·obtain⟨e,d,h⟩:=bnd h
  refine sq (gr fol [3] [(4,.str e)] (ac (hs (.done (.opt (zi ZT 9 (.str b) (some (.i (a.length:Int))) none none)) (.str e)) (xc st9 (some (a.length:Int)) none d)) az) ?_)
  refine Goes.ret ?_
  obtain rfl:=si h
  exact(gw2 [.str e] (Ua tS))
 refine Goes.skip ?_
 refine sh fol [(4,.str b)] ?_
 refine Goes.ret ?_
 obtain rfl:=si h
 exact(gw2 [.str b] (Ua tS))
def strings_TrimPrefix (b:Str) (a:Str):Option Str:=
 (stringslite_TrimPrefix b a).bind fun c=>
 some c
theorem qe4 (b:Str) (a:Str) {res:Str} (h:strings_TrimPrefix b a=some res):qb ZT (.fn 168) [.str b,.str a] [] (.str res) []:=by
 unfold strings_TrimPrefix at h
 refine Ub Tryz.func168 rfl rfl (m:=8) rfl (rs:=[.tmp 4]) rfl (l:=(kAz b a [])) rfl ?_
 refine sh fol (kAz b a []) ?_
 obtain⟨d,c,h⟩:=bnd h
 refine sq (gr fol [2] [(4,.str d)] (ac (cv (qdG b a c)) az) ?_)
 refine Goes.ret ?_
 obtain rfl:=si h
 exact(gw2 [.str d] (Ua tS))
def qgH (N:Nat) (n:qB):Option Bool:=
 ((qeJ n).bind fun a=>
 if a>1800 then
 (xH N n).bind fun b=>
 (strings_TrimPrefix b [45]).bind fun c=>
 some (decide ((c.length:Int)>600))
 else
 some false:Option Bool).bind fun d=>
 some d
theorem qe8 (N:Nat) (n:qB) {res:Bool} (h:qgH N n=some res):qb ZT (.fn 136) [.agg (nz1 n)] [] (.bool res) []:=by
 unfold qgH at h
 refine Ub Tryz.func136 rfl rfl (m:=13) rfl (rs:=[.tmp 2]) rfl (l:=[(0,.agg (nz1 n))]) rfl ?_
 refine sg fol (kAX []) [.cells (nz1 n)] ?_
 refine sq ?_
 obtain⟨f,a,h⟩:=bnd h
 refine Goes.cut (s':=(ofG 13 (kB2 f),[.cells (nz1 n)])) ?_ ?_
 ·obtain⟨j,b,a⟩:=bnd a
  rcases wyD a with⟨e,a⟩|⟨e,a⟩
  ·obtain⟨g,c,a⟩:=bnd a
   obtain⟨i,d,a⟩:=bnd a
   obtain rfl:=si a
   exact tr fol [1,3,5,6] (kB2 (decide ((i.length:Int)>600))) (ac (cv (qe0 n b)) (ac (gw e) (ac (cv (qaC N n c)) (ac (cv (qe4 g [45] d)) az))))
  obtain rfl:=si a
  exact tr fol [1,3] [(2,.bool false)] (ac (cv (qe0 n b)) (ac (gw e) az))
 refine Goes.ret ?_
 obtain rfl:=si h
 exact(gw2 [.bool f] (Ua tB))
end Go.Av
