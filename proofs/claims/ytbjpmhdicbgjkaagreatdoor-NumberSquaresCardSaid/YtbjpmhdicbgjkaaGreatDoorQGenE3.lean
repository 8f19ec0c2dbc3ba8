/-
  Walks of functions: what each computes, as a plain function.
-/
import Derived.Test.YtbjpmhdicbgjkaaGreatDoorQGenE2
noncomputable section
namespace Go.Av
open Go.Proofs Go.RowKit
set_option linter.unusedSectionVars false
set_option linter.unusedVariables false
set_option linter.unusedSimpArgs false
set_option maxRecDepth 100000
def qal (a:qj):Option qj:=
 if a.s<0 then
 (zt a).bind fun b=>
 some b
 else
 some a
theorem qdx (a:qj) {res:qj} (h:qal a=some res):qc Tryz.prog (.fn 184) [.agg [.i a.s,nvl (qa .u64) a.w]] [] (.agg [.i res.s,nvl (qa .u64) res.w]) []:=by
 unfold qal at h
 refine Goes.fnW Tryz.func184 rfl rfl (m:=9) rfl (rs:=[.cell 2 106]) rfl (l:=[(0,.agg [.i a.s,nvl (qa .u64) a.w])]) rfl ?_
 refine sg fol (kAH []) [.cells [.i a.s,nvl (qa .u64) a.w],bZ] ?_
 refine sq ?_
 refine sh fol (kAH [(5,.bool (decide (a.s<0)))]) ?_
 refine ihD h (fun d h=>?_) (fun d h=>?_)
 ·obtain⟨b,c,h⟩:=bnd h
  refine sq (gq fol [1,2] kBX [.cells [.i a.s,nvl (qa .u64) a.w],.cells [.i b.s,nvl (qa .u64) b.w]] (ac (cv (ve a c)) (ac (hs (.run [1] (qm Tryz.prog 106 (.ptr 1 0) (.agg [.i b.s,nvl (qa .u64) b.w])) [.cells [.i a.s,nvl (qa .u64) a.w],bZ] .undef [.cells [.i a.s,nvl (qa .u64) a.w],.cells [.i b.s,nvl (qa .u64) b.w]] true) (qN (n:=2) (by kernel_rfl) rfl rfl rfl rfl (cac rfl (cac nvc can)) rfl)) az)) ?_)
  refine Goes.ret ?_
  obtain rfl:=si h
  exact(gw2 [.agg [.i b.s,nvl (qa .u64) b.w]] (FzW.agg (qd.cons (FzW.still tI) (qd.cons (FzW.still (qy (qa .u64) _ (nl rfl))) qd.nil))))
 refine Goes.skip ?_
 refine sq (gq fol [1] kBX [.cells [.i a.s,nvl (qa .u64) a.w],.cells [.i a.s,nvl (qa .u64) a.w]] (ac (hs (.run [1] (qm Tryz.prog 106 (.ptr 1 0) (.agg [.i a.s,nvl (qa .u64) a.w])) [.cells [.i a.s,nvl (qa .u64) a.w],bZ] .undef [.cells [.i a.s,nvl (qa .u64) a.w],.cells [.i a.s,nvl (qa .u64) a.w]] true) (qN (n:=2) (by kernel_rfl) rfl rfl rfl rfl (cac rfl (cac nvc can)) rfl)) az) ?_)
 refine Goes.ret ?_
 obtain rfl:=si h
 exact(gw2 [.agg [.i a.s,nvl (qa .u64) a.w]] (FzW.agg (qd.cons (FzW.still tI) (qd.cons (FzW.still (qy (qa .u64) _ (nl rfl))) qd.nil))))
def vC (N:Nat):Nat->Int->(List Int)->Int->(List Int)->Option (Int×(List Int))
 |0,_,_,_,_=>none
 |K+1,e,f,b,c=>
  (qP (⟨b,c⟩:qj)).bind fun d=>
  if(!decide (d=0))=true then
  (qW N (⟨e,f⟩:qj) (⟨b,c⟩:qj)).bind fun a=>
  vC N K b c a.2.s a.2.w
  else
  some (e,f)
def qbK (N:Nat) (a:qj) (b:qj):Option qj:=
 (qal a).bind fun c=>
 (qal b).bind fun d=>
 (vC N N c.s c.w d.s d.w).bind fun(e,f)=>
 some (⟨e,f⟩:qj)
theorem qg0 (N:Nat) (a:qj) (b:qj) {res:qj} (h:qbK N a b=some res):qc Tryz.prog (.fn 131) [.agg [.i a.s,nvl (qa .u64) a.w],.agg [.i b.s,nvl (qa .u64) b.w]] [] (.agg [.i res.s,nvl (qa .u64) res.w]) []:=by
 unfold qbK at h
 refine Goes.fnW Tryz.func131 rfl rfl (m:=23) rfl (rs:=[.cell 4 106]) rfl (l:=[(0,.agg [.i a.s,nvl (qa .u64) a.w]),(1,.agg [.i b.s,nvl (qa .u64) b.w])]) rfl ?_
 refine sg fol (kH []) [.cells [.i a.s,nvl (qa .u64) a.w],.cells [.i b.s,nvl (qa .u64) b.w],bZ] ?_
 obtain⟨f,t,h⟩:=bnd h
 obtain⟨r,u,h⟩:=bnd h
 refine sq (gq fol [1,3,4,5] (kH []) [.cells [.i f.s,nvl (qa .u64) f.w],.cells [.i r.s,nvl (qa .u64) r.w],bZ] (ac (cv (qdx a t)) (ac (cv (qdx b u)) (ac (hs (.run [0] (qm Tryz.prog 106 (.ptr 0 0) (.agg [.i f.s,nvl (qa .u64) f.w])) [.cells [.i a.s,nvl (qa .u64) a.w],.cells [.i b.s,nvl (qa .u64) b.w],bZ] .undef [.cells [.i f.s,nvl (qa .u64) f.w],.cells [.i b.s,nvl (qa .u64) b.w],bZ] true) (qN (n:=2) (by kernel_rfl) rfl rfl rfl rfl (cac rfl (cac nvc can)) rfl)) (ac (hs (.run [1] (qm Tryz.prog 106 (.ptr 1 0) (.agg [.i r.s,nvl (qa .u64) r.w])) [.cells [.i f.s,nvl (qa .u64) f.w],.cells [.i b.s,nvl (qa .u64) b.w],bZ] .undef [.cells [.i f.s,nvl (qa .u64) f.w],.cells [.i r.s,nvl (qa .u64) r.w],bZ] true) (qN (n:=2) (by kernel_rfl) rfl rfl rfl rfl (cac rfl (cac nvc can)) rfl)) az)))) ?_)
 refine sq (Goes.block ?_)
 obtain⟨z,g9,h⟩:=bnd h
 refine Goes.imp (Q:=fun x s'=>(x= .exit 0/\ ∃g j,(g,j)=z/\Sub s' (ofG 23 (kAM (kBm [])),[.cells [.i g,nvl (qa .u64) j],bZ]))) ?_ ?_
 ·refine Goes.loopS (fun M s=> ∃(k:Int) (o:List Int) (d:Int) (e:List Int),s=(ofG 23 (kH []),[.cells [.i k,nvl (qa .u64) o],.cells [.i d,nvl (qa .u64) e],bZ])/\vC N M k o d e=some z) ?_ (m:=N) ⟨_,_,_,_,rfl,g9⟩
  rintro M s ⟨k,o,d,e,rfl,g9⟩
  cases M with
  |zero=>simp only[vC]at g9;cases g9
  |succ M=>
   rw[vC]at g9
   refine sq ?_
   obtain⟨v,p,g9⟩:=bnd g9
   refine sq (gr fol [1] (kH (kBT (!decide (v=0)))) (ac (cv (jN (⟨d,e⟩:qj) p)) az) ?_)
   refine ihB g9 (fun y g9=>?_) (fun y g9=>?_)
   ·refine Goes.skip ?_
    refine Goes.block ?_
    obtain⟨c,q,g9⟩:=bnd g9
    refine sq (gq fol [2,8,9] (kH [(6,.ptr 4 0)]) [.cells [.i k,nvl (qa .u64) o],.cells [.i d,nvl (qa .u64) e],bZ,.cells [.i c.1.s,nvl (qa .u64) c.1.w],.cells [.i c.2.s,nvl (qa .u64) c.2.w]] (ac (cv (vN N (⟨k,o⟩:qj) (⟨d,e⟩:qj) q)) (ac (hs (.run [3] (qm Tryz.prog 106 (.ptr 3 0) (.agg [.i c.1.s,nvl (qa .u64) c.1.w])) [.cells [.i k,nvl (qa .u64) o],.cells [.i d,nvl (qa .u64) e],bZ,bZ,bZ] .undef [.cells [.i k,nvl (qa .u64) o],.cells [.i d,nvl (qa .u64) e],bZ,.cells [.i c.1.s,nvl (qa .u64) c.1.w],bZ] true) (qN (n:=2) (by kernel_rfl) rfl rfl rfl rfl (cac rfl (cac nvc can)) rfl)) (ac (hs (.run [4] (qm Tryz.prog 106 (.ptr 4 0) (.agg [.i c.2.s,nvl (qa .u64) c.2.w])) [.cells [.i k,nvl (qa .u64) o],.cells [.i d,nvl (qa .u64) e],bZ,.cells [.i c.1.s,nvl (qa .u64) c.1.w],bZ] .undef [.cells [.i k,nvl (qa .u64) o],.cells [.i d,nvl (qa .u64) e],bZ,.cells [.i c.1.s,nvl (qa .u64) c.1.w],.cells [.i c.2.s,nvl (qa .u64) c.2.w]] true) (qN (n:=2) (by kernel_rfl) rfl rfl rfl rfl (cac rfl (cac nvc can)) rfl)) az))) ?_)
    refine gq fol [2,3] (kH []) [.cells [.i d,nvl (qa .u64) e],.cells [.i c.2.s,nvl (qa .u64) c.2.w],bZ,.cells [.i c.1.s,nvl (qa .u64) c.1.w],.cells [.i c.2.s,nvl (qa .u64) c.2.w]] (ac (hs (.run [0] (qm Tryz.prog 106 (.ptr 0 0) (.agg [.i d,nvl (qa .u64) e])) [.cells [.i k,nvl (qa .u64) o],.cells [.i d,nvl (qa .u64) e],bZ,.cells [.i c.1.s,nvl (qa .u64) c.1.w],.cells [.i c.2.s,nvl (qa .u64) c.2.w]] .undef [.cells [.i d,nvl (qa .u64) e],.cells [.i d,nvl (qa .u64) e],bZ,.cells [.i c.1.s,nvl (qa .u64) c.1.w],.cells [.i c.2.s,nvl (qa .u64) c.2.w]] true) (qN (n:=2) (by kernel_rfl) rfl rfl rfl rfl (cac rfl (cac nvc can)) rfl)) (ac (hs (.run [1] (qm Tryz.prog 106 (.ptr 1 0) (.agg [.i c.2.s,nvl (qa .u64) c.2.w])) [.cells [.i d,nvl (qa .u64) e],.cells [.i d,nvl (qa .u64) e],bZ,.cells [.i c.1.s,nvl (qa .u64) c.1.w],.cells [.i c.2.s,nvl (qa .u64) c.2.w]] .undef [.cells [.i d,nvl (qa .u64) e],.cells [.i c.2.s,nvl (qa .u64) c.2.w],bZ,.cells [.i c.1.s,nvl (qa .u64) c.1.w],.cells [.i c.2.s,nvl (qa .u64) c.2.w]] true) (qN (n:=2) (by kernel_rfl) rfl rfl rfl rfl (cac rfl (cac nvc can)) rfl)) az)) ?_
    exact⟨M,(ofG 23 (kH []),[.cells [.i d,nvl (qa .u64) e],.cells [.i c.2.s,nvl (qa .u64) c.2.w],bZ]),Nat.lt_succ_self _,(Sub.norm [] [some 0,some 1,some 2] rfl rfl (.kp (.kp (.kp .nil))) (.kb rfl (.same sn) (.kb rfl (.same sn) (.kb rfl (.same sn) .nil)))),_,_,_,_,rfl,g9⟩
   refine Goes.exit ?_
   obtain rfl:=si g9
   exact⟨rfl,_,_,rfl,(Sub.norm [] [some 0,some 2] rfl rfl (.kp (.drop (.kp .nil))) (.kb rfl (.same sn) (.kb rfl (.same sn) .nil)))⟩
 rintro x s' ⟨rfl,g,j,rfl,hsub⟩
 try dsimp only at h
 refine Goes.sub hsub ?_
 refine sq (gq fol [1] (kBm []) [.cells [.i g,nvl (qa .u64) j],.cells [.i g,nvl (qa .u64) j]] (ac (hs (.run [1] (qm Tryz.prog 106 (.ptr 1 0) (.agg [.i g,nvl (qa .u64) j])) [.cells [.i g,nvl (qa .u64) j],bZ] .undef [.cells [.i g,nvl (qa .u64) j],.cells [.i g,nvl (qa .u64) j]] true) (qN (n:=2) (by kernel_rfl) rfl rfl rfl rfl (cac rfl (cac nvc can)) rfl)) az) ?_)
 refine Goes.ret ?_
 obtain rfl:=si h
 exact(gw2 [.agg [.i g,nvl (qa .u64) j]] (FzW.agg (qd.cons (FzW.still tI) (qd.cons (FzW.still (qy (qa .u64) _ (nl rfl))) qd.nil))))
def zZ (b:List Int) (l:Int) (g:Int):Nat->(List Int)->Int->Int->Option ((List Int)×Int)
 |0,_,_,_=>none
 |K+1,h,a,c=>
  if a<(b.length:Int)then
  (idx b a).bind fun i=>
  (bits_Mul64 l i).bind fun d=>
  (idx h (w64 (g+a))).bind fun j=>
  (y8 d.2 j 0).bind fun e=>
  (y8 e.1 c 0).bind fun f=>
  (put h (w64 (g+a)) f.1).bind fun k=>
  zZ b l g K k (w64 (a+1)) (IntKind.wrap .u64 ((IntKind.wrap .u64 (d.1+e.2))+f.2))
  else
  some (h,c)
def zY (N:Nat) (a:List Int) (b:List Int):Nat->(List Int)->Int->Option (List Int)
 |0,_,_=>none
 |K+1,g,c=>
  if c<(a.length:Int)then
  (idx a c).bind fun h=>
  (zZ b h c N g 0 0).bind fun(d,e)=>
  (idx d (w64 (c+(b.length:Int)))).bind fun i=>
  (put d (w64 (c+(b.length:Int))) e).bind fun f=>
  zY N a b K f (w64 (c+1))
  else
  some g
def xK (N:Nat) (a:List Int) (b:List Int):Option (List Int):=
 (mk 8 (w64 ((a.length:Int)+(b.length:Int))) 0).bind fun d=>
 (zY N a b N d 0).bind fun e=>
 (yn N e).bind fun c=>
 some c
theorem qfn (N:Nat) (a:List Int) (b:List Int) {res:List Int} (h:xK N a b=some res):qc Tryz.prog (.fn 206) [vl (qa .u64) a,vl (qa .u64) b] [] (vl (qa .u64) res) []:=by
 unfold xK at h
 refine Goes.fnW Tryz.func206 rfl rfl (m:=80) rfl (rs:=[.tmp 4]) rfl (l:=[(0,vl (qa .u64) a),(1,vl (qa .u64) b)]) rfl ?_
 refine sh fol [(0,vl (qa .u64) a),(1,vl (qa .u64) b)] ?_
 obtain⟨L,O,h⟩:=bnd h
 refine sq (gq fol [5] ((0,vl (qa .u64) a)::(1,vl (qa .u64) b)::(kG L [])) [.cells (L.flatMap (qa .u64).c)] (ac (hs (.run [] (zS Tryz.prog 104 (.i (w64 ((a.length:Int)+(b.length:Int)))) (.i (w64 ((a.length:Int)+(b.length:Int))))) [] (.slice 0 0 L.length L.length 1) [.cells (L.flatMap (qa .u64).c)] false) (qcq qF (E:=(qa .u64)) (z:=0) rfl (by kernel_rfl) O rfl)) az) ?_)
 refine sq ?_
 refine sh fol ((1,vl (qa .u64) b)::(kG L [(20,vl (qa .u64) a),(21,.i (a.length:Int)),(22,.i 0)])) ?_
 refine Goes.block ?_
 obtain⟨Y,g5,h⟩:=bnd h
 refine Goes.imp (Q:=fun x s'=>(x= .exit 0/\ ∃u,u=Y/\Sub s' (ofG 80 (kG u []),[.cells (u.flatMap (qa .u64).c)]))) ?_ ?_
 ·refine Goes.loopS (fun M s=> ∃(F:List Int) (d:Int),s=(ofG 80 ((1,vl (qa .u64) b)::(kG F ((20,vl (qa .u64) a)::(kAL (a.length:Int) d [])))),[.cells (F.flatMap (qa .u64).c)])/\zY N a b M F d=some Y) ?_ (m:=N) ⟨_,_,rfl,g5⟩
  rintro M s ⟨F,d,rfl,g5⟩
  cases M with
  |zero=>simp only[zY]at g5;cases g5
  |succ M=>
   rw[zY]at g5
   refine sh fol ((1,vl (qa .u64) b)::(kG F ((20,vl (qa .u64) a)::(kAL (a.length:Int) d [(23,.bool (decide (d<(a.length:Int))))])))) ?_
   refine sq ?_
   refine ihD g5 (fun Z g5=>?_) (fun Z g5=>?_)
   ·refine Goes.skip ?_
    refine sq (Goes.block ?_)
    obtain⟨q,G,g5⟩:=bnd g5
    refine sq (gr fol [1,2] ((1,vl (qa .u64) b)::(kG F ((6,.i d)::(kAv q ((20,vl (qa .u64) a)::(kAL (a.length:Int) d [])))))) (ac (iv qF (qa .u64) G) (ac (lv 0 zB (qa .u64) G rfl) az)) ?_)
    refine sh fol ((1,vl (qa .u64) b)::(kG F ((6,.i d)::(kAv q (kB8 ((20,vl (qa .u64) a)::(kAL (a.length:Int) d []))))))) ?_
    refine sq ?_
    refine sh fol ((1,vl (qa .u64) b)::(kG F ((6,.i d)::(kAv q (kB8 ((20,vl (qa .u64) a)::(kAL (a.length:Int) d [(27,vl (qa .u64) b),(28,.i (b.length:Int)),(29,.i 0)]))))))) ?_
    refine Goes.block ?_
    obtain⟨P,g13,g5⟩:=bnd g5
    refine Goes.imp (Q:=fun x s'=>(x= .exit 2/\ ∃k v,(k,v)=P/\Sub s' (ofG 80 ((1,vl (qa .u64) b)::(kG k ((6,.i d)::(8,.int .u64 v)::(20,vl (qa .u64) a)::(kAL (a.length:Int) d [])))),[.cells (k.flatMap (qa .u64).c)]))) ?_ ?_
    ·refine Goes.loopS (fun M s=> ∃(j:List Int) (e:Int) (n:Int),s=(ofG 80 ((1,vl (qa .u64) b)::(kG j ((6,.i d)::(kAO q n ((20,vl (qa .u64) a)::(kAL (a.length:Int) d ((27,vl (qa .u64) b)::(kBH (b.length:Int) e)))))))),[.cells (j.flatMap (qa .u64).c)])/\zZ b q d M j e n=some P) ?_ (m:=N) ⟨_,_,_,rfl,g13⟩
     rintro M s ⟨j,e,n,rfl,g13⟩
     cases M with
     |zero=>simp only[zZ]at g13;cases g13
     |succ M=>
      rw[zZ]at g13
      refine sh fol ((1,vl (qa .u64) b)::(kG j ((6,.i d)::(kAO q n ((20,vl (qa .u64) a)::(kAL (a.length:Int) d [(27,vl (qa .u64) b),(28,.i (b.length:Int)),(29,.i e),(30,.bool (decide (e<(b.length:Int))))])))))) ?_
      refine sq ?_
      refine ihD g13 (fun X g13=>?_) (fun X g13=>?_)
      ·refine Goes.skip ?_
       refine sq (Goes.block ?_)
       obtain⟨U,w,g13⟩:=bnd g13
       refine sq (gr fol [1,2] ((1,vl (qa .u64) b)::(kG j ((6,.i d)::(kAO q n ((9,.i e)::(10,.int .u64 U)::(20,vl (qa .u64) a)::(kAL (a.length:Int) d ((27,vl (qa .u64) b)::(kBH (b.length:Int) e)))))))) (ac (iv qF (qa .u64) w) (ac (lv 0 zB (qa .u64) w rfl) az)) ?_)
       obtain⟨f,H,g13⟩:=bnd g13
       refine sq (gr fol [2] ((1,vl (qa .u64) b)::(kG j ((6,.i d)::(kAO q n ((9,.i e)::(kAN f.1 f.2 ((20,vl (qa .u64) a)::(kAL (a.length:Int) d ((27,vl (qa .u64) b)::(kBH (b.length:Int) e)))))))))) (ac (cv (qaQ q U H)) az) ?_)
       refine sh fol ((1,vl (qa .u64) b)::(kG j ((6,.i d)::(kAO q n ((9,.i e)::(kAN f.1 f.2 ((20,vl (qa .u64) a)::(kAL (a.length:Int) d ((27,vl (qa .u64) b)::(kBH (b.length:Int) e)))))))))) ?_
       obtain⟨V,o,g13⟩:=bnd g13
       obtain⟨g,I,g13⟩:=bnd g13
       refine sq (gr fol [5,6,7] ((1,vl (qa .u64) b)::(kG j ((6,.i d)::(kAO q n ((9,.i e)::(kAN f.1 g.1 ((13,.int .u64 g.2)::(20,vl (qa .u64) a)::(kAL (a.length:Int) d ((27,vl (qa .u64) b)::(kBH (b.length:Int) e)))))))))) (ac (hs (.done (.opt (qg Tryz.prog 104 (.slice 0 0 j.length j.length 1) (.i (w64 (d+e))))) (.ptr 0 ((w64 (d+e):Int).toNat*1+0))) (xP qF o)) (ac (hs (.run [0] (zN Tryz.prog 212 (.ptr 0 ((w64 (d+e):Int).toNat*1+0))) [.cells (j.flatMap (qa .u64).c)] (.int .u64 V) [.cells (j.flatMap (qa .u64).c)] false) (qbI zB (E:=(qa .u64)) (l:=j) rfl rfl o (nl rfl) rfl)) (ac (cv (qbm f.2 V 0 I)) az))) ?_)
       refine sh fol ((1,vl (qa .u64) b)::(kG j ((6,.i d)::(kAO q n ((9,.i e)::(kAN (IntKind.wrap .u64 (f.1+g.2)) g.1 ((20,vl (qa .u64) a)::(kAL (a.length:Int) d ((27,vl (qa .u64) b)::(kBH (b.length:Int) e)))))))))) ?_
       obtain⟨p,J,g13⟩:=bnd g13
       refine sq (gr fol [2] ((1,vl (qa .u64) b)::(kG j ((6,.i d)::(kAv q ((9,.i e)::(kAN (IntKind.wrap .u64 (f.1+g.2)) p.1 ((13,.int .u64 p.2)::(20,vl (qa .u64) a)::(kAL (a.length:Int) d ((27,vl (qa .u64) b)::(kBH (b.length:Int) e)))))))))) (ac (cv (qbm g.1 n 0 J)) az) ?_)
       obtain⟨r,A,g13⟩:=bnd g13
       refine gq fol [8,9] ((1,vl (qa .u64) b)::(kG j ((6,.i d)::(kAO q (IntKind.wrap .u64 ((IntKind.wrap .u64 (f.1+g.2))+p.2)) ((20,vl (qa .u64) a)::(kAL (a.length:Int) d ((27,vl (qa .u64) b)::(kBH (b.length:Int) e)))))))) [.cells (r.flatMap (qa .u64).c)] (ac (hs (.done (.opt (qg Tryz.prog 104 (.slice 0 0 j.length j.length 1) (.i (w64 (d+e))))) (.ptr 0 ((w64 (d+e):Int).toNat*1+0))) (xP qF o)) (ac (hs (.run [0] (qm Tryz.prog 212 (.ptr 0 ((w64 (d+e):Int).toNat*1+0)) (.int .u64 p.1)) [.cells (j.flatMap (qa .u64).c)] .undef [.cells (r.flatMap (qa .u64).c)] true) (xE (E:=(qa .u64)) (l:=j) (y:=p.1) rfl (show _=some 1 by kernel_rfl) rfl o rfl rfl rfl rfl rfl A rfl)) az)) ?_
       refine Goes.sub (show Sub (ofG 80 ((1,vl (qa .u64) b)::(kG j ((6,.i d)::(kAO q (IntKind.wrap .u64 ((IntKind.wrap .u64 (f.1+g.2))+p.2)) ((20,vl (qa .u64) a)::(kAL (a.length:Int) d ((27,vl (qa .u64) b)::(kBH (b.length:Int) e)))))))),[.cells (r.flatMap (qa .u64).c)]) (ofG 80 ((1,vl (qa .u64) b)::(kG r ((6,.i d)::(kAO q (IntKind.wrap .u64 ((IntKind.wrap .u64 (f.1+g.2))+p.2)) ((20,vl (qa .u64) a)::(kAL (a.length:Int) d ((27,vl (qa .u64) b)::(kBH (b.length:Int) e)))))))),[.cells (r.flatMap (qa .u64).c)])from(Sub.norm [] [some 0] rfl rfl (.keep (.same (qh (qa .u64) _)) (.keep (.sliceE rfl (jQ A)) (.keep (.same nI) (.keep (.same nI) (.keep (.same nI) (.keep (.same (qh (qa .u64) _)) (.keep (.same nI) (.keep (.same nI) (.keep (.same (qh (qa .u64) _)) (.keep (.same nI) (.keep (.same nI) .nil))))))))))) (.ks .nil))) ?_
       refine gh fol ((1,vl (qa .u64) b)::(kG r ((6,.i d)::(kAO q (IntKind.wrap .u64 ((IntKind.wrap .u64 (f.1+g.2))+p.2)) ((20,vl (qa .u64) a)::(kAL (a.length:Int) d ((27,vl (qa .u64) b)::(kBH (b.length:Int) (w64 (e+1)))))))))) ?_
       exact⟨M,(ofG 80 ((1,vl (qa .u64) b)::(kG r ((6,.i d)::(kAO q (IntKind.wrap .u64 ((IntKind.wrap .u64 (f.1+g.2))+p.2)) ((20,vl (qa .u64) a)::(kAL (a.length:Int) d ((27,vl (qa .u64) b)::(kBH (b.length:Int) (w64 (e+1)))))))))),[.cells (r.flatMap (qa .u64).c)]),Nat.lt_succ_self _,(Sub.refl _),_,_,_,rfl,g13⟩
      refine Goes.exit ?_
      obtain rfl:=si g13
      exact⟨rfl,_,_,rfl,(Sub.keep [1,5,6,8,20,21,22] rfl rfl)⟩
    rintro x s' ⟨rfl,k,v,rfl,hsub⟩
    try dsimp only at g5
    refine Goes.sub hsub ?_
    obtain⟨a0,B,g5⟩:=bnd g5
    obtain⟨t,C,g5⟩:=bnd g5
    refine gq fol [6,7] ((1,vl (qa .u64) b)::(kG k ((20,vl (qa .u64) a)::(kAL (a.length:Int) d [])))) [.cells (t.flatMap (qa .u64).c)] (ac (hs (.done (.opt (qg Tryz.prog 104 (.slice 0 0 k.length k.length 1) (.i (w64 (d+(b.length:Int)))))) (.ptr 0 ((w64 (d+(b.length:Int)):Int).toNat*1+0))) (xP qF B)) (ac (hs (.run [0] (qm Tryz.prog 212 (.ptr 0 ((w64 (d+(b.length:Int)):Int).toNat*1+0)) (.int .u64 v)) [.cells (k.flatMap (qa .u64).c)] .undef [.cells (t.flatMap (qa .u64).c)] true) (xE (E:=(qa .u64)) (l:=k) (y:=v) rfl (show _=some 1 by kernel_rfl) rfl B rfl rfl rfl rfl rfl C rfl)) az)) ?_
    refine Goes.sub (show Sub (ofG 80 ((1,vl (qa .u64) b)::(kG k ((20,vl (qa .u64) a)::(kAL (a.length:Int) d [])))),[.cells (t.flatMap (qa .u64).c)]) (ofG 80 ((1,vl (qa .u64) b)::(kG t ((20,vl (qa .u64) a)::(kAL (a.length:Int) d [])))),[.cells (t.flatMap (qa .u64).c)])from(Sub.norm [] [some 0] rfl rfl (.keep (.same (qh (qa .u64) _)) (.keep (.sliceE rfl (jQ C)) (.keep (.same (qh (qa .u64) _)) (.keep (.same nI) (.keep (.same nI) .nil))))) (.ks .nil))) ?_
    refine gh fol ((1,vl (qa .u64) b)::(kG t ((20,vl (qa .u64) a)::(kAL (a.length:Int) (w64 (d+1)) [])))) ?_
    exact⟨M,(ofG 80 ((1,vl (qa .u64) b)::(kG t ((20,vl (qa .u64) a)::(kAL (a.length:Int) (w64 (d+1)) [])))),[.cells (t.flatMap (qa .u64).c)]),Nat.lt_succ_self _,(Sub.refl _),_,_,rfl,g5⟩
   refine Goes.exit ?_
   obtain rfl:=si g5
   exact⟨rfl,_,rfl,(Sub.keep [5] rfl rfl)⟩
 rintro x s' ⟨rfl,u,rfl,hsub⟩
 refine Goes.sub hsub ?_
 obtain⟨D,K,h⟩:=bnd h
 refine sq (gq fol [1] [(4,vl (qa .u64) D)] [.frozen (u.flatMap (qa .u64).c)] (ac (hs (.callF 215 [.slice 0 0 u.length u.length 1] [.cells (u.flatMap (qa .u64).c)] [0] [vl (qa .u64) u] (vl (qa .u64) D)) (qab (FzL.cons (Fz.sl (E:=(qa .u64)) rfl rfl (nl rfl)) FzL.nil) (yC N u K) (qp (qa .u64) _ (nl rfl)))) az) ?_)
 refine Goes.sub (show Sub (ofG 80 [(4,vl (qa .u64) D)],[.frozen (u.flatMap (qa .u64).c)]) (ofG 80 [(4,vl (qa .u64) D)],[])from(Sub.norm [] [] rfl rfl (.keep (.same (qh (qa .u64) _)) .nil) .nil)) ?_
 refine Goes.ret ?_
 obtain rfl:=si h
 exact(gw2 [vl (qa .u64) D] (FzW.still (qp (qa .u64) _ (nl rfl))))
def qV (N:Nat) (a:qj) (b:qj):Option qj:=
 (if a.w.isEmpty=true then
 some b.w.isEmpty
 else
 some false:Option Bool).bind fun j=>
 ((if j=true then
 (qbw a.s).bind fun k=>
 (qbw b.s).bind fun l=>
 (bits_Mul64 k l).bind fun e=>
 (if e.1=0 then
 some (decide (e.2<=9223372036854775807))
 else
 some false:Option Bool).bind fun f=>
 if f=true then
 if(!((decide (a.s<0))==(decide (b.s<0))))=true then
 some (.inr (⟨w64 (0-(w64 e.2)),[]⟩:qj))
 else
 some (.inr (⟨w64 e.2,[]⟩:qj))
 else
 some (.inl ())
 else
 some (.inl ()):Option (Unit⊕qj))).bind (fun
 |(.inl ())=>
 (qC a).bind fun c=>
 (qC b).bind fun d=>
 (xK N c.2 d.2).bind fun g=>
 (jm (!(c.1==d.1)) g).bind fun h=>
 some h
 |(.inr i)=>
 some i)
theorem jE (N:Nat) (a:qj) (b:qj) {res:qj} (h:qV N a b=some res):qc Tryz.prog (.fn 150) [.agg [.i a.s,nvl (qa .u64) a.w],.agg [.i b.s,nvl (qa .u64) b.w]] [] (.agg [.i res.s,nvl (qa .u64) res.w]) []:=by
 unfold qV at h
 refine Goes.fnW Tryz.func150 rfl rfl (m:=66) rfl (rs:=[.cell 4 106]) rfl (l:=[(0,.agg [.i a.s,nvl (qa .u64) a.w]),(1,.agg [.i b.s,nvl (qa .u64) b.w])]) rfl ?_
 refine sg fol (kH []) [.cells [.i a.s,nvl (qa .u64) a.w],.cells [.i b.s,nvl (qa .u64) b.w],bZ] ?_
 refine sq ?_
 refine sq ?_
 obtain⟨G,d,h⟩:=bnd h
 refine Goes.cut (s':=(ofG 66 (kH [(18,.bool G)]),[.cells [.i a.s,nvl (qa .u64) a.w],.cells [.i b.s,nvl (qa .u64) b.w],bZ])) ?_ ?_
 ·rcases wyB d with⟨y,d⟩|⟨y,d⟩
  ·obtain rfl:=si d
   exact tr fol [2,3,6] (kH [(18,.bool b.w.isEmpty)]) (ac (hs (.done (.opt (qU Tryz.prog .eql 104 (.tmp 12) (.const (.slice none 0 0)) (nvl (qa .u64) a.w) .nilslice)) (.bool a.w.isEmpty)) (xX vE)) (ac (gw y) (ac (hs (.done (.opt (qU Tryz.prog .eql 104 (.tmp 16) (.const (.slice none 0 0)) (nvl (qa .u64) b.w) .nilslice)) (.bool b.w.isEmpty)) (xX vE)) az)))
  obtain rfl:=si d
  exact tr fol [2,3] (kH [(18,.bool false)]) (ac (hs (.done (.opt (qU Tryz.prog .eql 104 (.tmp 12) (.const (.slice none 0 0)) (nvl (qa .u64) a.w) .nilslice)) (.bool a.w.isEmpty)) (xX vE)) (ac (gw y) az))
 obtain⟨F,g4,h⟩:=bnd h
 refine Goes.imp (Q:=fun x s'=>(x= .normal/\(.inl ())=F/\Sub s' (ofG 66 (kH []),[.cells [.i a.s,nvl (qa .u64) a.w],.cells [.i b.s,nvl (qa .u64) b.w],bZ]))\/(x= .ret/\ ∃z,(.inr z)=F/\vT Tryz.prog [.cell 4 106] (.agg [.i z.s,nvl (qa .u64) z.w]) .ret s')) ?_ ?_
 ·refine ihB g4 (fun H g4=>?_) (fun H g4=>?_)
  ·obtain⟨I,t,g4⟩:=bnd g4
   obtain⟨J,u,g4⟩:=bnd g4
   obtain⟨g,v,g4⟩:=bnd g4
   refine sq (gr fol [2,5,6] (kH ((5,.int .u64 g.1)::(kAe g.2 []))) (ac (cv (qdA a.s t)) (ac (cv (qdA b.s u)) (ac (cv (qaQ I J v)) az))) ?_)
   refine sq ?_
   obtain⟨A,c,g4⟩:=bnd g4
   refine Goes.cut (s':=(ofG 66 (kH (kAe g.2 [(34,.bool A)])),[.cells [.i a.s,nvl (qa .u64) a.w],.cells [.i b.s,nvl (qa .u64) b.w],bZ])) ?_ ?_
   ·rcases wyD c with⟨k,c⟩|⟨k,c⟩
    ·obtain rfl:=si c
     exact tr fol [2] (kH (kAe g.2 [(34,.bool (decide (g.2<=9223372036854775807)))])) (ac (gw k) az)
    obtain rfl:=si c
    exact tr fol [2] (kH (kAe g.2 [(34,.bool false)])) (ac (gw k) az)
   refine ihB g4 (fun B g4=>?_) (fun B g4=>?_)
   ·refine sq ?_
    refine sh fol (kAU (kAe g.2 [(41,.bool (!((decide (a.s<0))==(decide (b.s<0)))))])) ?_
    refine ihB g4 (fun C g4=>?_) (fun C g4=>?_)
    ·refine sg fol (kAU []) (.cells [.i a.s,nvl (qa .u64) a.w]:: .cells [.i b.s,nvl (qa .u64) b.w]::(kBP (w64 (0-(w64 g.2))))) ?_
     refine Goes.ret ?_
     obtain rfl:=si g4
     exact Or.inr (⟨rfl,_,rfl,(gw2 [.agg [.i (w64 (0-(w64 g.2))),.nilslice]] (FzW.agg (qd.cons (FzW.still tI) (qd.cons (FzW.nv0 (E:=(qa .u64))) qd.nil))))⟩)
    refine Goes.skip ?_
    refine sg fol (kAU []) (.cells [.i a.s,nvl (qa .u64) a.w]:: .cells [.i b.s,nvl (qa .u64) b.w]::(kBP (w64 g.2))) ?_
    refine Goes.ret ?_
    obtain rfl:=si g4
    exact Or.inr (⟨rfl,_,rfl,(gw2 [.agg [.i (w64 g.2),.nilslice]] (FzW.agg (qd.cons (FzW.still tI) (qd.cons (FzW.nv0 (E:=(qa .u64))) qd.nil))))⟩)
   refine Goes.skip ?_
   obtain rfl:=si g4
   exact Or.inl (⟨rfl,rfl,(Sub.keep [2,3,4] rfl rfl)⟩)
  refine Goes.skip ?_
  obtain rfl:=si g4
  exact Or.inl (⟨rfl,rfl,(Sub.keep [2,3,4] rfl rfl)⟩)
 rintro x s' (⟨rfl,rfl,hsub⟩|⟨rfl,K,rfl,hret⟩)
 ·try dsimp only at h
  refine Goes.sub hsub ?_
  obtain⟨f,o,h⟩:=bnd h
  refine sq (gr fol [1] ((3,.ptr 1 0)::(kAU [(7,.bool f.1),(8,vl (qa .u64) f.2)])) (ac (cv (zo a o)) az) ?_)
  obtain⟨j,p,h⟩:=bnd h
  refine sq (gr fol [1] (kAU [(7,.bool f.1),(8,vl (qa .u64) f.2),(9,.bool j.1),(10,vl (qa .u64) j.2)]) (ac (cv (zo b p)) az) ?_)
  obtain⟨D,q,h⟩:=bnd h
  obtain⟨e,r,h⟩:=bnd h
  refine sq (gq fol [5,6,7] (kAU []) [.cells [.i a.s,nvl (qa .u64) a.w],.cells [.i b.s,nvl (qa .u64) b.w],.cells [.i e.s,nvl (qa .u64) e.w]] (ac (cv (qfn N f.2 j.2 q)) (ac (cv (xG (!(f.1==j.1)) D r)) (ac (hs (.run [2] (qm Tryz.prog 106 (.ptr 2 0) (.agg [.i e.s,nvl (qa .u64) e.w])) [.cells [.i a.s,nvl (qa .u64) a.w],.cells [.i b.s,nvl (qa .u64) b.w],bZ] .undef [.cells [.i a.s,nvl (qa .u64) a.w],.cells [.i b.s,nvl (qa .u64) b.w],.cells [.i e.s,nvl (qa .u64) e.w]] true) (qN (n:=2) (by kernel_rfl) rfl rfl rfl rfl (cac rfl (cac nvc can)) rfl)) az))) ?_)
  refine Goes.ret ?_
  obtain rfl:=si h
  exact(gw2 [.agg [.i e.s,nvl (qa .u64) e.w]] (FzW.agg (qd.cons (FzW.still tI) (qd.cons (FzW.still (qy (qa .u64) _ (nl rfl))) qd.nil))))
 try dsimp only at h
 obtain rfl:=si h
 exact hret
def jC (N:Nat):Nat->Int->(List Int)->Int->(List Int)->Int->Option (Int×(List Int))
 |0,_,_,_,_,_=>none
 |K+1,e,f,h,i,g=>
  if g>0 then
  ((((if(qx .i64 g 1)=1 then
  (qV N (⟨h,i⟩:qj) (⟨e,f⟩:qj)).bind fun a=>
  some (a.s,a.w)
  else
  some (h,i):Option (Int×(List Int)))).bind fun(b,c)=>
  if g>1 then
  (qV N (⟨e,f⟩:qj) (⟨e,f⟩:qj)).bind fun d=>
  some (d.s,d.w,b,c)
  else
  some (e,f,b,c):Option (Int×(List Int)×Int×(List Int)))).bind fun(j,k,l,m)=>
  jC N K j k l m (qo .i64 g 1)
  else
  some (h,i)
def qak (N:Nat) (a:qj) (k:Int):Option qj:=
 (xS 1).bind fun b=>
 (jC N N a.s a.w b.s b.w k).bind fun(c,d)=>
 some (⟨c,d⟩:qj)
theorem qda (N:Nat) (a:qj) (k:Int) {res:qj} (h:qak N a k=some res):qc Tryz.prog (.fn 158) [.agg [.i a.s,nvl (qa .u64) a.w],.i k] [] (.agg [.i res.s,nvl (qa .u64) res.w]) []:=by
 unfold qak at h
 refine Goes.fnW Tryz.func158 rfl rfl (m:=23) rfl (rs:=[.cell 4 106]) rfl (l:=[(0,.agg [.i a.s,nvl (qa .u64) a.w]),(1,.i k)]) rfl ?_
 refine sg fol ((1,.i k)::(kAM (kBm []))) [.cells [.i a.s,nvl (qa .u64) a.w],bZ] ?_
 obtain⟨z,A,h⟩:=bnd h
 refine sq (gq fol [0,2] ((1,.i k)::(kAM (kAt []))) [.cells [.i a.s,nvl (qa .u64) a.w],bZ,.cells [.i z.s,nvl (qa .u64) z.w]] (ac (cv (vH 1 A)) (ac (hs (.run [2] (qm Tryz.prog 106 (.ptr 2 0) (.agg [.i z.s,nvl (qa .u64) z.w])) [.cells [.i a.s,nvl (qa .u64) a.w],bZ,bZ] .undef [.cells [.i a.s,nvl (qa .u64) a.w],bZ,.cells [.i z.s,nvl (qa .u64) z.w]] true) (qN (n:=2) (by kernel_rfl) rfl rfl rfl rfl (cac rfl (cac nvc can)) rfl)) az)) ?_)
 refine sq (Goes.block ?_)
 obtain⟨I,g9,h⟩:=bnd h
 refine Goes.imp (Q:=fun x s'=>(x= .exit 0/\ ∃o p,(o,p)=I/\Sub s' (ofG 23 (kY (kBx [])),[bZ,.cells [.i o,nvl (qa .u64) p]]))) ?_ ?_
 ·refine Goes.loopS (fun M s=> ∃(g:Int) (j:List Int) (B:Int) (C:List Int) (b:Int),s=(ofG 23 ((1,.i b)::(kAM (kAt []))),[.cells [.i g,nvl (qa .u64) j],bZ,.cells [.i B,nvl (qa .u64) C]])/\jC N M g j B C b=some I) ?_ (m:=N) ⟨_,_,_,_,_,rfl,g9⟩
  rintro M s ⟨g,j,B,C,b,rfl,g9⟩
  cases M with
  |zero=>simp only[jC]at g9;cases g9
  |succ M=>
   rw[jC]at g9
   refine sq ?_
   refine sh fol ((1,.i b)::(kAM (kAt (kAz (decide (b>0)))))) ?_
   refine ihD g9 (fun D g9=>?_) (fun D g9=>?_)
   ·refine Goes.skip ?_
    refine sq ?_
    obtain⟨E,g15,g9⟩:=bnd g9
    refine Goes.imp (Q:=fun x s'=>(x= .normal/\ ∃q r t u,(q,r,t,u)=E/\Sub s' (ofG 23 ((1,.i b)::(kAM (kAt []))),[.cells [.i q,nvl (qa .u64) r],bZ,.cells [.i t,nvl (qa .u64) u]]))) ?_ ?_
    ·refine Goes.block ?_
     refine sq ?_
     refine sh fol ((1,.i b)::(kAM (kAt (kBT (decide ((qx .i64 b 1)=1)))))) ?_
     obtain⟨F,g18,g15⟩:=bnd g15
     refine Goes.imp (Q:=fun x s'=>(x= .normal/\ ∃c d,(c,d)=F/\Sub s' (ofG 23 ((1,.i b)::(kAM (kAt []))),[.cells [.i g,nvl (qa .u64) j],bZ,.cells [.i c,nvl (qa .u64) d]]))) ?_ ?_
     ·refine ihD g18 (fun G g18=>?_) (fun G g18=>?_)
      ·obtain⟨e,v,g18⟩:=bnd g18
       refine gq fol [2,3] ((1,.i b)::(kAM (kAt []))) [.cells [.i g,nvl (qa .u64) j],bZ,.cells [.i e.s,nvl (qa .u64) e.w]] (ac (cv (jE N (⟨B,C⟩:qj) (⟨g,j⟩:qj) v)) (ac (hs (.run [2] (qm Tryz.prog 106 (.ptr 2 0) (.agg [.i e.s,nvl (qa .u64) e.w])) [.cells [.i g,nvl (qa .u64) j],bZ,.cells [.i B,nvl (qa .u64) C]] .undef [.cells [.i g,nvl (qa .u64) j],bZ,.cells [.i e.s,nvl (qa .u64) e.w]] true) (qN (n:=2) (by kernel_rfl) rfl rfl rfl rfl (cac rfl (cac nvc can)) rfl)) az)) ?_
       obtain rfl:=si g18
       exact⟨rfl,_,_,rfl,(Sub.refl _)⟩
      refine Goes.skip ?_
      obtain rfl:=si g18
      exact⟨rfl,_,_,rfl,(Sub.keep [1,2,4,5] rfl rfl)⟩
     rintro x s' ⟨rfl,c,d,rfl,hsub⟩
     try dsimp only at g15
     refine Goes.sub hsub ?_
     refine sh fol ((1,.i b)::(kAM (kAt [(18,.bool (decide (b>1)))]))) ?_
     refine ihD g15 (fun H g15=>?_) (fun H g15=>?_)
     ·obtain⟨f,y,g15⟩:=bnd g15
      refine gq fol [2,3] ((1,.i b)::(kAM (kAt []))) [.cells [.i f.s,nvl (qa .u64) f.w],bZ,.cells [.i c,nvl (qa .u64) d]] (ac (cv (jE N (⟨g,j⟩:qj) (⟨g,j⟩:qj) y)) (ac (hs (.run [0] (qm Tryz.prog 106 (.ptr 0 0) (.agg [.i f.s,nvl (qa .u64) f.w])) [.cells [.i g,nvl (qa .u64) j],bZ,.cells [.i c,nvl (qa .u64) d]] .undef [.cells [.i f.s,nvl (qa .u64) f.w],bZ,.cells [.i c,nvl (qa .u64) d]] true) (qN (n:=2) (by kernel_rfl) rfl rfl rfl rfl (cac rfl (cac nvc can)) rfl)) az)) ?_
      obtain rfl:=si g15
      exact⟨rfl,_,_,_,_,rfl,(Sub.refl _)⟩
     refine Goes.skip ?_
     obtain rfl:=si g15
     exact⟨rfl,_,_,_,_,rfl,(Sub.keep [1,2,4,5] rfl rfl)⟩
    rintro x s' ⟨rfl,q,r,t,u,rfl,hsub⟩
    try dsimp only at g9
    refine Goes.sub hsub ?_
    refine gh fol ((1,.i (qo .i64 b 1))::(kAM (kAt []))) ?_
    exact⟨M,(ofG 23 ((1,.i (qo .i64 b 1))::(kAM (kAt []))),[.cells [.i q,nvl (qa .u64) r],bZ,.cells [.i t,nvl (qa .u64) u]]),Nat.lt_succ_self _,(Sub.refl _),_,_,_,_,_,rfl,g9⟩
   refine Goes.exit ?_
   obtain rfl:=si g9
   exact⟨rfl,_,_,rfl,(Sub.norm [] [some 1,some 2] rfl rfl (.drop (.drop (.kp (.kp .nil)))) (.kb rfl (.same sn) (.kb rfl (.same sn) .nil)))⟩
 rintro x s' ⟨rfl,o,p,rfl,hsub⟩
 try dsimp only at h
 refine Goes.sub hsub ?_
 refine sq (gq fol [1] (kY []) [.cells [.i o,nvl (qa .u64) p],.cells [.i o,nvl (qa .u64) p]] (ac (hs (.run [0] (qm Tryz.prog 106 (.ptr 0 0) (.agg [.i o,nvl (qa .u64) p])) [bZ,.cells [.i o,nvl (qa .u64) p]] .undef [.cells [.i o,nvl (qa .u64) p],.cells [.i o,nvl (qa .u64) p]] true) (qN (n:=2) (by kernel_rfl) rfl rfl rfl rfl (cac rfl (cac nvc can)) rfl)) az) ?_)
 refine Goes.ret ?_
 obtain rfl:=si h
 exact(gw2 [.agg [.i o,nvl (qa .u64) p]] (FzW.agg (qd.cons (FzW.still tI) (qd.cons (FzW.still (qy (qa .u64) _ (nl rfl))) qd.nil))))
def strings_HasPrefix (b:Str) (a:Str):Option Bool:=
 (stringslite_HasPrefix b a).bind fun c=>
 some c
theorem qdy (b:Str) (a:Str) {res:Bool} (h:strings_HasPrefix b a=some res):qc Tryz.prog (.fn 185) (kAR b a) [] (.bool res) []:=by
 unfold strings_HasPrefix at h
 refine Goes.fnW Tryz.func185 rfl rfl (m:=8) rfl (rs:=[.tmp 4]) rfl (l:=(kJ b a [])) rfl ?_
 refine sh fol (kJ b a []) ?_
 obtain⟨d,c,h⟩:=bnd h
 refine sq (gr fol [2] (kAl d) (ac (cv (vZ b a c)) az) ?_)
 refine Goes.ret ?_
 obtain rfl:=si h
 exact(gw2 [.bool d] (FzW.still tB))
def stringslite_TrimPrefix (b:Str) (a:Str):Option Str:=
 (stringslite_HasPrefix b a).bind fun c=>
 if c=true then
 (cut b (a.length:Int) (b.length:Int)).bind fun d=>
 some d
 else
 some b
theorem qbH (b:Str) (a:Str) {res:Str} (h:stringslite_TrimPrefix b a=some res):qc Tryz.prog (.fn 227) (kAR b a) [] (.str res) []:=by
 unfold stringslite_TrimPrefix at h
 refine Goes.fnW Tryz.func227 rfl rfl (m:=13) rfl (rs:=[.tmp 4]) rfl (l:=(kJ b a [])) rfl ?_
 refine sh fol (kJ b a []) ?_
 refine sq ?_
 obtain⟨f,c,h⟩:=bnd h
 refine sq (gr fol [2] (kJ b a [(7,.bool f)]) (ac (cv (vZ b a c)) az) ?_)
 refine ihB h (fun g h=>?_) (fun g h=>?_)
 ·obtain⟨e,d,h⟩:=bnd h
  refine sq (gr fol [3] (kBb e) (ac (hs (.done (.opt (qO Tryz.prog 9 (.str b) (some (.i (a.length:Int))) none none)) (.str e)) (zI st9 (some (a.length:Int)) none d)) az) ?_)
  refine Goes.ret ?_
  obtain rfl:=si h
  exact(gw2 [.str e] (FzW.still tS))
 refine Goes.skip ?_
 refine sh fol (kBb b) ?_
 refine Goes.ret ?_
 obtain rfl:=si h
 exact(gw2 [.str b] (FzW.still tS))
def strings_TrimPrefix (b:Str) (a:Str):Option Str:=
 (stringslite_TrimPrefix b a).bind fun c=>
 some c
theorem qaC (b:Str) (a:Str) {res:Str} (h:strings_TrimPrefix b a=some res):qc Tryz.prog (.fn 186) (kAR b a) [] (.str res) []:=by
 unfold strings_TrimPrefix at h
 refine Goes.fnW Tryz.func186 rfl rfl (m:=8) rfl (rs:=[.tmp 4]) rfl (l:=(kJ b a [])) rfl ?_
 refine sh fol (kJ b a []) ?_
 obtain⟨d,c,h⟩:=bnd h
 refine sq (gr fol [2] (kBb d) (ac (cv (qbH b a c)) az) ?_)
 refine Goes.ret ?_
 obtain rfl:=si h
 exact(gw2 [.str d] (FzW.still tS))
def yB (N:Nat):Nat->Int->(List Int)->Str->Option (Int×(List Int))
 |0,_,_,_=>none
 |K+1,j,k,a=>
  if(a.length:Int)>0 then
  (cut a 0 (if(a.length:Int)<18 then(a.length:Int)else 18)).bind fun c=>
  (qis c).bind fun d=>
  (xS 10).bind fun e=>
  (qak N e (if(a.length:Int)<18 then(a.length:Int)else 18)).bind fun f=>
  (qV N (⟨j,k⟩:qj) f).bind fun g=>
  (xS d.1).bind fun h=>
  (jF N g h).bind fun b=>
  (cut a (if(a.length:Int)<18 then(a.length:Int)else 18) (a.length:Int)).bind fun i=>
  yB N K b.s b.w i
  else
  some (j,k)
def qav (N:Nat) (b:Str):Option qj:=
 (strings_HasPrefix b [45]).bind fun e=>
 (strings_TrimPrefix b [45]).bind fun f=>
 (yB N N 0 [] f).bind fun(c,d)=>
 if e=true then
 (zt (⟨c,d⟩:qj)).bind fun a=>
 some a
 else
 some (⟨c,d⟩:qj)
theorem qaW (N:Nat) (g:Str) {res:qj} (h:qav N g=some res):qc Tryz.prog (.fn 132) [.str g] [] (.agg [.i res.s,nvl (qa .u64) res.w]) []:=by
 unfold qav at h
 refine Goes.fnW Tryz.func132 rfl rfl (m:=41) rfl (rs:=[.cell 2 106]) rfl (l:=(kAQ g [])) rfl ?_
 refine sg fol (kAQ g (kAM [])) [bZ] ?_
 obtain⟨f,z,h⟩:=bnd h
 refine sq (gr fol [1] (kAB g f []) (ac (cv (qdy g [45] z)) az) ?_)
 obtain⟨K,A,h⟩:=bnd h
 refine sq (gr fol [1] (kAB K f []) (ac (cv (qaC g [45] A)) az) ?_)
 refine sg fol (kAB K f (kBm [])) [bZ,bZ] ?_
 refine sq (Goes.block ?_)
 obtain⟨L,g8,h⟩:=bnd h
 refine Goes.imp (Q:=fun x s'=>(x= .exit 0/\ ∃d e,(d,e)=L/\Sub s' (ofG 41 (kAM ((3,.bool f)::(kBm []))),[bZ,.cells [.i d,nvl (qa .u64) e]]))) ?_ ?_
 ·refine Goes.loopS (fun M s=> ∃(B:Int) (C:List Int) (a:Str),s=(ofG 41 (kAB a f (kBm [])),[bZ,.cells [.i B,nvl (qa .u64) C]])/\yB N M B C a=some L) ?_ (m:=N) ⟨_,_,_,rfl,g8⟩
  rintro M s ⟨B,C,a,rfl,g8⟩
  cases M with
  |zero=>simp only[yB]at g8;cases g8
  |succ M=>
   rw[yB]at g8
   refine sq ?_
   refine sh fol (kAB a f (kBm (kBa (decide ((a.length:Int)>0))))) ?_
   refine ihD g8 (fun O g8=>?_) (fun O g8=>?_)
   ·refine Goes.skip ?_
    refine Goes.block ?_
    refine sh fol (kAB a f (kBm (kA5 (if(a.length:Int)<18 then(a.length:Int)else 18)))) ?_
    obtain⟨D,j,g8⟩:=bnd g8
    obtain⟨E,k,g8⟩:=bnd g8
    refine sq (gr fol [2,3] (kAB a f (kBm (kBf (if(a.length:Int)<18 then(a.length:Int)else 18) E.1 []))) (ac (hs (.done (.opt (qO Tryz.prog 9 (.str a) none (some (.i (if(a.length:Int)<18 then(a.length:Int)else 18))) none)) (.str D)) (zI st9 none (some (if(a.length:Int)<18 then(a.length:Int)else 18)) j)) (ac (cv (qmZ D k)) az)) ?_)
    obtain⟨F,o,g8⟩:=bnd g8
    obtain⟨G,p,g8⟩:=bnd g8
    obtain⟨H,q,g8⟩:=bnd g8
    obtain⟨I,r,g8⟩:=bnd g8
    obtain⟨b,t,g8⟩:=bnd g8
    refine sq (gq fol [1,3,4,6,7,8] (kAB a f (kBm (kA5 (if(a.length:Int)<18 then(a.length:Int)else 18)))) [bZ,.cells [.i b.s,nvl (qa .u64) b.w]] (ac (cv (vH 10 o)) (ac (cv (qda N F (if(a.length:Int)<18 then(a.length:Int)else 18) p)) (ac (cv (jE N (⟨B,C⟩:qj) G q)) (ac (cv (vH E.1 r)) (ac (cv (xg N H I t)) (ac (hs (.run [1] (qm Tryz.prog 106 (.ptr 1 0) (.agg [.i b.s,nvl (qa .u64) b.w])) [bZ,.cells [.i B,nvl (qa .u64) C]] .undef [bZ,.cells [.i b.s,nvl (qa .u64) b.w]] true) (qN (n:=2) (by kernel_rfl) rfl rfl rfl rfl (cac rfl (cac nvc can)) rfl)) az)))))) ?_)
    obtain⟨u,v,g8⟩:=bnd g8
    refine gr fol [2] (kAB u f (kBm [])) (ac (hs (.done (.opt (qO Tryz.prog 9 (.str a) (some (.i (if(a.length:Int)<18 then(a.length:Int)else 18))) none none)) (.str u)) (zI st9 (some (if(a.length:Int)<18 then(a.length:Int)else 18)) none v)) az) ?_
    exact⟨M,(ofG 41 (kAB u f (kBm [])),[bZ,.cells [.i b.s,nvl (qa .u64) b.w]]),Nat.lt_succ_self _,(Sub.refl _),_,_,_,rfl,g8⟩
   refine Goes.exit ?_
   obtain rfl:=si g8
   exact⟨rfl,_,_,rfl,(Sub.keep [2,3,4] rfl rfl)⟩
 rintro x s' ⟨rfl,d,e,rfl,hsub⟩
 try dsimp only at h
 refine Goes.sub hsub ?_
 refine sq ?_
 refine sh fol (kAM (kBm [(37,.bool f)])) ?_
 refine ihB h (fun J h=>?_) (fun J h=>?_)
 ·obtain⟨c,y,h⟩:=bnd h
  refine sq (gq fol [1,2] (kAM []) [.cells [.i c.s,nvl (qa .u64) c.w],.cells [.i d,nvl (qa .u64) e]] (ac (cv (ve (⟨d,e⟩:qj) y)) (ac (hs (.run [0] (qm Tryz.prog 106 (.ptr 0 0) (.agg [.i c.s,nvl (qa .u64) c.w])) [bZ,.cells [.i d,nvl (qa .u64) e]] .undef [.cells [.i c.s,nvl (qa .u64) c.w],.cells [.i d,nvl (qa .u64) e]] true) (qN (n:=2) (by kernel_rfl) rfl rfl rfl rfl (cac rfl (cac nvc can)) rfl)) az)) ?_)
  refine Goes.ret ?_
  obtain rfl:=si h
  exact(gw2 [.agg [.i c.s,nvl (qa .u64) c.w]] (FzW.agg (qd.cons (FzW.still tI) (qd.cons (FzW.still (qy (qa .u64) _ (nl rfl))) qd.nil))))
 refine Goes.skip ?_
 refine sq (gq fol [1] (kAM []) [.cells [.i d,nvl (qa .u64) e],.cells [.i d,nvl (qa .u64) e]] (ac (hs (.run [0] (qm Tryz.prog 106 (.ptr 0 0) (.agg [.i d,nvl (qa .u64) e])) [bZ,.cells [.i d,nvl (qa .u64) e]] .undef [.cells [.i d,nvl (qa .u64) e],.cells [.i d,nvl (qa .u64) e]] true) (qN (n:=2) (by kernel_rfl) rfl rfl rfl rfl (cac rfl (cac nvc can)) rfl)) az) ?_)
 refine Goes.ret ?_
 obtain rfl:=si h
 exact(gw2 [.agg [.i d,nvl (qa .u64) e]] (FzW.agg (qd.cons (FzW.still tI) (qd.cons (FzW.still (qy (qa .u64) _ (nl rfl))) qd.nil))))
def vQ (N:Nat) (a:qj) (b:qj):Option Int:=
 (if a.w.isEmpty=true then
 some b.w.isEmpty
 else
 some false:Option Bool).bind fun c=>
 if c=true then
 if a.s<b.s then
 some (-1)
 else
 if a.s>b.s then
 some 1
 else
 some 0
 else
 (yD N a b).bind fun d=>
 (qP d).bind fun e=>
 some e
theorem xk (N:Nat) (a:qj) (b:qj) {res:Int} (h:vQ N a b=some res):qc Tryz.prog (.fn 133) [.agg [.i a.s,nvl (qa .u64) a.w],.agg [.i b.s,nvl (qa .u64) b.w]] [] (.i res) []:=by
 unfold vQ at h
 refine Goes.fnW Tryz.func133 rfl rfl (m:=29) rfl (rs:=[.tmp 4]) rfl (l:=[(0,.agg [.i a.s,nvl (qa .u64) a.w]),(1,.agg [.i b.s,nvl (qa .u64) b.w])]) rfl ?_
 refine sg fol (kR []) [.cells [.i a.s,nvl (qa .u64) a.w],.cells [.i b.s,nvl (qa .u64) b.w]] ?_
 refine sq ?_
 refine sq ?_
 obtain⟨j,c,h⟩:=bnd h
 refine Goes.cut (s':=(ofG 29 (kR (kBU j)),[.cells [.i a.s,nvl (qa .u64) a.w],.cells [.i b.s,nvl (qa .u64) b.w]])) ?_ ?_
 ·rcases wyB c with⟨f,c⟩|⟨f,c⟩
  ·obtain rfl:=si c
   exact tr fol [2,3,6] (kR (kBU b.w.isEmpty)) (ac (hs (.done (.opt (qU Tryz.prog .eql 104 (.tmp 6) (.const (.slice none 0 0)) (nvl (qa .u64) a.w) .nilslice)) (.bool a.w.isEmpty)) (xX vE)) (ac (gw f) (ac (hs (.done (.opt (qU Tryz.prog .eql 104 (.tmp 10) (.const (.slice none 0 0)) (nvl (qa .u64) b.w) .nilslice)) (.bool b.w.isEmpty)) (xX vE)) az)))
  obtain rfl:=si c
  exact tr fol [2,3] (kR [(12,.bool false)]) (ac (hs (.done (.opt (qU Tryz.prog .eql 104 (.tmp 6) (.const (.slice none 0 0)) (nvl (qa .u64) a.w) .nilslice)) (.bool a.w.isEmpty)) (xX vE)) (ac (gw f) az))
 refine ihB h (fun k h=>?_) (fun k h=>?_)
 ·refine sq (Goes.block ?_)
  refine sh fol (kR (kBT (decide (a.s<b.s)))) ?_
  refine ihD h (fun n h=>?_) (fun n h=>?_)
  ·refine sh fol [(4,.i (-1))] ?_
   refine Goes.ret ?_
   obtain rfl:=si h
   exact(gw2 [.i (-1)] (FzW.still tI))
  refine sh fol [(19,.bool (decide (a.s>b.s)))] ?_
  refine ihD h (fun o h=>?_) (fun o h=>?_)
  ·refine sh fol [(4,.i 1)] ?_
   refine Goes.ret ?_
   obtain rfl:=si h
   exact(gw2 [.i 1] (FzW.still tI))
  refine Goes.skip ?_
  refine sh fol [(4,.i 0)] ?_
  refine Goes.ret ?_
  obtain rfl:=si h
  exact(gw2 [.i 0] (FzW.still tI))
 refine Goes.skip ?_
 obtain⟨p,d,h⟩:=bnd h
 obtain⟨g,e,h⟩:=bnd h
 refine sq (gr fol [2,3] (kB7 g) (ac (cv (qdc N a b d)) (ac (cv (jN p e)) az)) ?_)
 refine Goes.ret ?_
 obtain rfl:=si h
 exact(gw2 [.i g] (FzW.still tI))
def qay (N:Nat) (a:Str):Option Int:=
 (strings_CutPrefix a [45]).bind fun r=>
 (strings_Cut r.1 [47]).bind fun b=>
 ((jb b.1).bind fun t=>
 if t=true then
 if(!r.2)=true then
 some true
 else
 some (!(b.1==[48]))
 else
 some false:Option Bool).bind fun s=>
 ((if b.2.2=true then
 (if s=true then
 (jb b.2.1).bind fun g=>
 if g=true then
 if(!(b.2.1==[48]))=true then
 some (!(b.2.1==[49]))
 else
 some false
 else
 some false
 else
 some false:Option Bool).bind fun h=>
 some h
 else
 some s:Option Bool)).bind fun u=>
 ((zi (!u) 1).bind fun c=>
 if(b.1.length:Int)>600 then
 (zi true 4).bind fun d=>
 (vJ N ([c,d]:List Int)).bind fun i=>
 some (c,d,i)
 else
 (zi (decide ((b.2.1.length:Int)>600)) 4).bind fun e=>
 (vJ N ([c,e]:List Int)).bind fun j=>
 some (c,e,j):Option (Int×Int×Int)).bind fun(v,w,f)=>
 if(!decide (f=0))=true then
 some f
 else
 (if b.2.2=true then
 (qav N b.1).bind fun k=>
 (qav N b.2.1).bind fun l=>
 (qbK N k l).bind fun m=>
 (xS 1).bind fun n=>
 (vQ N m n).bind fun o=>
 some (!decide (o=0))
 else
 some false:Option Bool).bind fun p=>
 (zi p 1).bind fun q=>
 some q
theorem qfm (N:Nat) (a:Str) {res:Int} (h:qay N a=some res):qc Tryz.prog (.fn 56) [.str a] [] (.i res) []:=by
 unfold qay at h
 refine Goes.fnW Tryz.func56 rfl rfl (m:=76) rfl (rs:=[.tmp 2]) rfl (l:=(kAQ a [])) rfl ?_
 refine sh fol (kAQ a []) ?_
 obtain⟨V,H,h⟩:=bnd h
 refine sq (gr fol [1] ((3,.str V.1)::(kAl V.2)) (ac (cv (qdj a [45] H)) az) ?_)
 obtain⟨e,I,h⟩:=bnd h
 refine sq (gr fol [1] ((4,.bool V.2)::(kAX e.1 e.2.1 e.2.2 [])) (ac (cv (qdl V.1 [47] I)) az) ?_)
 refine sq ?_
 obtain⟨b6,f,h⟩:=bnd h
 refine Goes.cut (s':=(ofG 76 (kAX e.1 e.2.1 e.2.2 (kAz b6)),[])) ?_ ?_
 ·obtain⟨r3,k,f⟩:=bnd f
  rcases wyB f with⟨X,f⟩|⟨X,f⟩
  ·rcases wyB f with⟨Y,f⟩|⟨Y,f⟩
   ·obtain rfl:=si f
    exact tr fol [1,2,5] (kAX e.1 e.2.1 e.2.2 [(8,.bool true)]) (ac (cv (zU e.1 k)) (ac (gw X) (ac (gw Y) az)))
   obtain rfl:=si f
   exact tr fol [1,2,5] (kAX e.1 e.2.1 e.2.2 (kAz (!(e.1==[48])))) (ac (cv (zU e.1 k)) (ac (gw X) (ac (gw Y) az)))
  obtain rfl:=si f
  exact tr fol [1,2] (kAX e.1 e.2.1 e.2.2 kBI) (ac (cv (zU e.1 k)) (ac (gw X) az))
 refine sq ?_
 refine sh fol (kAX e.1 e.2.1 e.2.2 [(8,.bool b6),(32,.bool e.2.2)]) ?_
 obtain⟨r9,g9,h⟩:=bnd h
 refine Goes.imp (Q:=fun x s'=>(x= .normal/\ ∃J,J=r9/\Sub s' (ofG 76 (kAX e.1 e.2.1 e.2.2 (kAz J)),[]))) ?_ ?_
 ·refine ihB g9 (fun Z g9=>?_) (fun Z g9=>?_)
  ·obtain⟨a0,c,g9⟩:=bnd g9
   refine Goes.cut (s':=(ofG 76 (kAX e.1 e.2.1 e.2.2 (kAz a0)),[])) ?_ ?_
   ·rcases wyB c with⟨n,c⟩|⟨n,c⟩
    ·obtain⟨r12,j,c⟩:=bnd c
     rcases wyB c with⟨q,c⟩|⟨q,c⟩
     ·rcases wyB c with⟨t,c⟩|⟨t,c⟩
      ·obtain rfl:=si c
       exact tr fol [1,3,5,9] (kAX e.1 e.2.1 e.2.2 (kAz (!(e.2.1==[49])))) (ac (gw n) (ac (cv (zU e.2.1 j)) (ac (gw q) (ac (gw t) az))))
      obtain rfl:=si c
      exact tr fol [1,3,5,9] (kAX e.1 e.2.1 e.2.2 kBI) (ac (gw n) (ac (cv (zU e.2.1 j)) (ac (gw q) (ac (gw t) az))))
     obtain rfl:=si c
     exact tr fol [1,3,5] (kAX e.1 e.2.1 e.2.2 kBI) (ac (gw n) (ac (cv (zU e.2.1 j)) (ac (gw q) az)))
    obtain rfl:=si c
    exact tr fol [1] (kAX e.1 e.2.1 e.2.2 kBI) (ac (gw n) az)
   obtain rfl:=si g9
   exact⟨rfl,_,rfl,(Sub.refl _)⟩
  refine Goes.skip ?_
  obtain rfl:=si g9
  exact⟨rfl,_,rfl,(Sub.keep [5,6,7,8] rfl rfl)⟩
 rintro x s' ⟨rfl,J,rfl,hsub⟩
 refine Goes.sub hsub ?_
 refine sq ?_
 refine sq ?_
 obtain⟨⟨K,L,o⟩,b,h⟩:=bnd h
 refine Goes.cut (s':=(ofG 76 (kAX e.1 e.2.1 e.2.2 [(9,.i o)]),(kAE K L))) ?_ ?_
 ·obtain⟨g,p,b⟩:=bnd b
  rcases wyD b with⟨u,b⟩|⟨u,b⟩
  ·obtain⟨r,v,b⟩:=bnd b
   obtain⟨M,w,b⟩:=bnd b
   simp only[ZI,ZP]at b
   obtain⟨rfl,rfl,rfl⟩:=b
   exact yR.rq fol [2,6,11,13] (kAX e.1 e.2.1 e.2.2 [(9,.i M)]) (kAE g r) (ac (cv (xm (!J) 1 p)) (ac (gw u) (ac (cv (xm true 4 v)) (ac (hs (.call 79 [.slice 0 0 2 2 1] (kAE g r) [0] [vl encI ([g,r]:List Int)] (.i M)) (qim (FzL.cons (Fz.lit rfl rfl (FzL.still (AllST.cons tI (AllST.cons tI AllST.nil)))) FzL.nil) (qcV N ([g,r]:List Int) w) tI rfl)) az))))
  obtain⟨s,y,b⟩:=bnd b
  obtain⟨O,z,b⟩:=bnd b
  simp only[ZI,ZP]at b
  obtain⟨rfl,rfl,rfl⟩:=b
  exact yR.rq fol [2,6,11,13] (kAX e.1 e.2.1 e.2.2 [(9,.i O)]) (kAE g s) (ac (cv (xm (!J) 1 p)) (ac (gw u) (ac (cv (xm (decide ((e.2.1.length:Int)>600)) 4 y)) (ac (hs (.call 79 [.slice 0 0 2 2 1] (kAE g s) [0] [vl encI ([g,s]:List Int)] (.i O)) (qim (FzL.cons (Fz.lit rfl rfl (FzL.still (AllST.cons tI (AllST.cons tI AllST.nil)))) FzL.nil) (qcV N ([g,s]:List Int) z) tI rfl)) az))))
 try dsimp only at h
 refine sh fol (kAX e.1 e.2.1 e.2.2 [(9,.i o),(61,.bool (!decide (o=0)))]) ?_
 refine ihB h (fun a1 h=>?_) (fun a1 h=>?_)
 ·refine sh fol (kBM o) ?_
  refine Goes.ret ?_
  obtain rfl:=si h
  exact(gw2 [.i o] (FzW.still tI))
 refine Goes.skip ?_
 refine sq ?_
 obtain⟨P,d,h⟩:=bnd h
 refine Goes.cut (s':=(ofG 76 (kBV P),(kAE K L))) ?_ ?_
 ·rcases wyB d with⟨A,d⟩|⟨A,d⟩
  ·obtain⟨a2,B,d⟩:=bnd d
   obtain⟨a3,C,d⟩:=bnd d
   obtain⟨a4,D,d⟩:=bnd d
   obtain⟨a5,E,d⟩:=bnd d
   obtain⟨a6,F,d⟩:=bnd d
   obtain rfl:=si d
   exact tr fol [1,3,5,6,7,8] (kBV (!decide (a6=0))) (ac (gw A) (ac (cv (qaW N e.1 B)) (ac (cv (qaW N e.2.1 C)) (ac (cv (qg0 N a2 a3 D)) (ac (cv (vH 1 E)) (ac (cv (xk N a4 a5 F)) az))))))
  obtain rfl:=si d
  exact tr fol [1] [(10,.bool false)] (ac (gw A) az)
 obtain⟨U,G,h⟩:=bnd h
 refine sq (gr fol [1] (kBM U) (ac (cv (xm P 1 G)) az) ?_)
 refine Goes.ret ?_
 obtain rfl:=si h
 exact(gw2 [.i U] (FzW.still tI))
def jS (N:Nat) (a:qj) (b:qj):Option qj:=
 (qP b).bind fun f=>
 ((if f<0 then
 (zt a).bind fun d=>
 (zt b).bind fun e=>
 some (d.s,d.w,e.s,e.w)
 else
 some (a.s,a.w,b.s,b.w):Option (Int×(List Int)×Int×(List Int)))).bind fun(g,h,i,j)=>
 (qW N (⟨g,h⟩:qj) (⟨i,j⟩:qj)).bind fun c=>
 some c.1
theorem qcY (N:Nat) (a:qj) (b:qj) {res:qj} (h:jS N a b=some res):qc Tryz.prog (.fn 161) [.agg [.i a.s,nvl (qa .u64) a.w],.agg [.i b.s,nvl (qa .u64) b.w]] [] (.agg [.i res.s,nvl (qa .u64) res.w]) []:=by
 unfold jS at h
 refine Goes.fnW Tryz.func161 rfl rfl (m:=21) rfl (rs:=[.cell 4 106]) rfl (l:=[(0,.agg [.i a.s,nvl (qa .u64) a.w]),(1,.agg [.i b.s,nvl (qa .u64) b.w])]) rfl ?_
 refine sg fol (kH []) [.cells [.i a.s,nvl (qa .u64) a.w],.cells [.i b.s,nvl (qa .u64) b.w],bZ] ?_
 refine sq ?_
 obtain⟨t,p,h⟩:=bnd h
 refine sq (gr fol [1] (kH [(9,.bool (decide (t<0)))]) (ac (cv (jN b p)) az) ?_)
 obtain⟨u,g6,h⟩:=bnd h
 refine Goes.imp (Q:=fun x s'=>(x= .normal/\ ∃d e f g,(d,e,f,g)=u/\Sub s' (ofG 21 (kH []),[.cells [.i d,nvl (qa .u64) e],.cells [.i f,nvl (qa .u64) g],bZ]))) ?_ ?_
 ·refine ihD g6 (fun v g6=>?_) (fun v g6=>?_)
  ·obtain⟨j,q,g6⟩:=bnd g6
   obtain⟨o,r,g6⟩:=bnd g6
   refine gq fol [1,3,4,5] (kH []) [.cells [.i j.s,nvl (qa .u64) j.w],.cells [.i o.s,nvl (qa .u64) o.w],bZ] (ac (cv (ve a q)) (ac (cv (ve b r)) (ac (hs (.run [0] (qm Tryz.prog 106 (.ptr 0 0) (.agg [.i j.s,nvl (qa .u64) j.w])) [.cells [.i a.s,nvl (qa .u64) a.w],.cells [.i b.s,nvl (qa .u64) b.w],bZ] .undef [.cells [.i j.s,nvl (qa .u64) j.w],.cells [.i b.s,nvl (qa .u64) b.w],bZ] true) (qN (n:=2) (by kernel_rfl) rfl rfl rfl rfl (cac rfl (cac nvc can)) rfl)) (ac (hs (.run [1] (qm Tryz.prog 106 (.ptr 1 0) (.agg [.i o.s,nvl (qa .u64) o.w])) [.cells [.i j.s,nvl (qa .u64) j.w],.cells [.i b.s,nvl (qa .u64) b.w],bZ] .undef [.cells [.i j.s,nvl (qa .u64) j.w],.cells [.i o.s,nvl (qa .u64) o.w],bZ] true) (qN (n:=2) (by kernel_rfl) rfl rfl rfl rfl (cac rfl (cac nvc can)) rfl)) az)))) ?_
   obtain rfl:=si g6
   exact⟨rfl,_,_,_,_,rfl,(Sub.refl _)⟩
  refine Goes.skip ?_
  obtain rfl:=si g6
  exact⟨rfl,_,_,_,_,rfl,(Sub.keep [2,3,4] rfl rfl)⟩
 rintro x s' ⟨rfl,d,e,f,g,rfl,hsub⟩
 try dsimp only at h
 refine Goes.sub hsub ?_
 obtain⟨c,k,h⟩:=bnd h
 refine sq (gq fol [2,8,9] (kAU (kBc [])) [.cells [.i d,nvl (qa .u64) e],.cells [.i f,nvl (qa .u64) g],bZ,.cells [.i c.1.s,nvl (qa .u64) c.1.w],.cells [.i c.2.s,nvl (qa .u64) c.2.w]] (ac (cv (vN N (⟨d,e⟩:qj) (⟨f,g⟩:qj) k)) (ac (hs (.run [3] (qm Tryz.prog 106 (.ptr 3 0) (.agg [.i c.1.s,nvl (qa .u64) c.1.w])) [.cells [.i d,nvl (qa .u64) e],.cells [.i f,nvl (qa .u64) g],bZ,bZ,bZ] .undef [.cells [.i d,nvl (qa .u64) e],.cells [.i f,nvl (qa .u64) g],bZ,.cells [.i c.1.s,nvl (qa .u64) c.1.w],bZ] true) (qN (n:=2) (by kernel_rfl) rfl rfl rfl rfl (cac rfl (cac nvc can)) rfl)) (ac (hs (.run [4] (qm Tryz.prog 106 (.ptr 4 0) (.agg [.i c.2.s,nvl (qa .u64) c.2.w])) [.cells [.i d,nvl (qa .u64) e],.cells [.i f,nvl (qa .u64) g],bZ,.cells [.i c.1.s,nvl (qa .u64) c.1.w],bZ] .undef [.cells [.i d,nvl (qa .u64) e],.cells [.i f,nvl (qa .u64) g],bZ,.cells [.i c.1.s,nvl (qa .u64) c.1.w],.cells [.i c.2.s,nvl (qa .u64) c.2.w]] true) (qN (n:=2) (by kernel_rfl) rfl rfl rfl rfl (cac rfl (cac nvc can)) rfl)) az))) ?_)
 refine sq (gq fol [1] (kAU []) [.cells [.i d,nvl (qa .u64) e],.cells [.i f,nvl (qa .u64) g],.cells [.i c.1.s,nvl (qa .u64) c.1.w],.cells [.i c.1.s,nvl (qa .u64) c.1.w],.cells [.i c.2.s,nvl (qa .u64) c.2.w]] (ac (hs (.run [2] (qm Tryz.prog 106 (.ptr 2 0) (.agg [.i c.1.s,nvl (qa .u64) c.1.w])) [.cells [.i d,nvl (qa .u64) e],.cells [.i f,nvl (qa .u64) g],bZ,.cells [.i c.1.s,nvl (qa .u64) c.1.w],.cells [.i c.2.s,nvl (qa .u64) c.2.w]] .undef [.cells [.i d,nvl (qa .u64) e],.cells [.i f,nvl (qa .u64) g],.cells [.i c.1.s,nvl (qa .u64) c.1.w],.cells [.i c.1.s,nvl (qa .u64) c.1.w],.cells [.i c.2.s,nvl (qa .u64) c.2.w]] true) (qN (n:=2) (by kernel_rfl) rfl rfl rfl rfl (cac rfl (cac nvc can)) rfl)) az) ?_)
 refine Goes.ret ?_
 obtain rfl:=si h
 exact(gw2 [.agg [.i c.1.s,nvl (qa .u64) c.1.w]] (FzW.agg (qd.cons (FzW.still tI) (qd.cons (FzW.still (qy (qa .u64) _ (nl rfl))) qd.nil))))
def qbA (N:Nat) (num:qj) (den:qj):Option qZ:=
 (qP den).bind fun k=>
 ((if k<0 then
 (zt num).bind fun i=>
 (zt den).bind fun j=>
 some (i.s,i.w,j.s,j.w)
 else
 some (num.s,num.w,den.s,den.w):Option (Int×(List Int)×Int×(List Int)))).bind fun(d,e,b,c)=>
 (if c.isEmpty=true then
 some (decide (b=1))
 else
 some false:Option Bool).bind fun f=>
 if f=true then
 some (⟨(⟨d,e⟩:qj),(⟨b,c⟩:qj)⟩:qZ)
 else
 (qbK N (⟨d,e⟩:qj) (⟨b,c⟩:qj)).bind fun a=>
 (jS N (⟨d,e⟩:qj) a).bind fun g=>
 (jS N (⟨b,c⟩:qj) a).bind fun h=>
 some (⟨g,h⟩:qZ)
theorem qc0 (N:Nat) (num:qj) (den:qj) {res:qZ} (h:qbA N num den=some res):qc Tryz.prog (.fn 105) [.agg [.i num.s,nvl (qa .u64) num.w],.agg [.i den.s,nvl (qa .u64) den.w]] [] (.agg [.i res.Num.s,nvl (qa .u64) res.Num.w,.i res.Den.s,nvl (qa .u64) res.Den.w]) []:=by
 unfold qbA at h
 refine Goes.fnW Tryz.func105 rfl rfl (m:=34) rfl (rs:=[.cell 4 108]) rfl (l:=[(0,.agg [.i num.s,nvl (qa .u64) num.w]),(1,.agg [.i den.s,nvl (qa .u64) den.w])]) rfl ?_
 refine sg fol (kH []) (.cells [.i num.s,nvl (qa .u64) num.w]:: .cells [.i den.s,nvl (qa .u64) den.w]::(kD [])) ?_
 refine sq ?_
 obtain⟨B,u,h⟩:=bnd h
 refine sq (gr fol [1] (kH (kAz (decide (B<0)))) (ac (cv (jN den u)) az) ?_)
 obtain⟨C,g6,h⟩:=bnd h
 refine Goes.imp (Q:=fun x s'=>(x= .normal/\ ∃e f d b,(e,f,d,b)=C/\Sub s' (ofG 34 (kH []),(.cells [.i e,nvl (qa .u64) f]:: .cells [.i d,nvl (qa .u64) b]::(kD []))))) ?_ ?_
 ·refine ihD g6 (fun D g6=>?_) (fun D g6=>?_)
  ·obtain⟨k,v,g6⟩:=bnd g6
   obtain⟨t,y,g6⟩:=bnd g6
   refine gq fol [1,3,4,5] (kH []) (.cells [.i k.s,nvl (qa .u64) k.w]:: .cells [.i t.s,nvl (qa .u64) t.w]::(kD [])) (ac (cv (ve num v)) (ac (cv (ve den y)) (ac (hs (.run [0] (qm Tryz.prog 106 (.ptr 0 0) (.agg [.i k.s,nvl (qa .u64) k.w])) (.cells [.i num.s,nvl (qa .u64) num.w]:: .cells [.i den.s,nvl (qa .u64) den.w]::(kD [])) .undef (.cells [.i k.s,nvl (qa .u64) k.w]:: .cells [.i den.s,nvl (qa .u64) den.w]::(kD [])) true) (qN (n:=2) (by kernel_rfl) rfl rfl rfl rfl (cac rfl (cac nvc can)) rfl)) (ac (hs (.run [1] (qm Tryz.prog 106 (.ptr 1 0) (.agg [.i t.s,nvl (qa .u64) t.w])) (.cells [.i k.s,nvl (qa .u64) k.w]:: .cells [.i den.s,nvl (qa .u64) den.w]::(kD [])) .undef (.cells [.i k.s,nvl (qa .u64) k.w]:: .cells [.i t.s,nvl (qa .u64) t.w]::(kD [])) true) (qN (n:=2) (by kernel_rfl) rfl rfl rfl rfl (cac rfl (cac nvc can)) rfl)) az)))) ?_
   obtain rfl:=si g6
   exact⟨rfl,_,_,_,_,rfl,(Sub.refl _)⟩
  refine Goes.skip ?_
  obtain rfl:=si g6
  exact⟨rfl,_,_,_,_,rfl,(Sub.keep [2,3,4] rfl rfl)⟩
 rintro x s' ⟨rfl,e,f,d,b,rfl,hsub⟩
 try dsimp only at h
 refine Goes.sub hsub ?_
 refine sq ?_
 refine sq ?_
 obtain⟨z,c,h⟩:=bnd h
 refine Goes.cut (s':=(ofG 34 (kH [(20,.bool z)]),(.cells [.i e,nvl (qa .u64) f]:: .cells [.i d,nvl (qa .u64) b]::(kD [])))) ?_ ?_
 ·rcases wyB c with⟨o,c⟩|⟨o,c⟩
  ·obtain rfl:=si c
   exact tr fol [2,3] (kH [(20,.bool (decide (d=1)))]) (ac (hs (.done (.opt (qU Tryz.prog .eql 104 (.tmp 14) (.const (.slice none 0 0)) (nvl (qa .u64) b) .nilslice)) (.bool b.isEmpty)) (xX vE)) (ac (gw o) az))
  obtain rfl:=si c
  exact tr fol [2,3] (kH [(20,.bool false)]) (ac (hs (.done (.opt (qU Tryz.prog .eql 104 (.tmp 14) (.const (.slice none 0 0)) (nvl (qa .u64) b) .nilslice)) (.bool b.isEmpty)) (xX vE)) (ac (gw o) az))
 refine ihB h (fun A h=>?_) (fun A h=>?_)
 ·refine sq (gq fol [3] (kAU []) [.cells [.i e,nvl (qa .u64) f],.cells [.i d,nvl (qa .u64) b],.cells [.i e,nvl (qa .u64) f,.i d,nvl (qa .u64) b]] (ac (hs (.run [2] (qm Tryz.prog 108 (.ptr 2 0) (.agg [.i e,nvl (qa .u64) f,.i d,nvl (qa .u64) b])) (.cells [.i e,nvl (qa .u64) f]:: .cells [.i d,nvl (qa .u64) b]::(kD [])) .undef [.cells [.i e,nvl (qa .u64) f],.cells [.i d,nvl (qa .u64) b],.cells [.i e,nvl (qa .u64) f,.i d,nvl (qa .u64) b]] true) (qN (n:=4) (by kernel_rfl) rfl rfl rfl rfl (cac rfl (cac nvc (cac rfl (cac nvc can)))) rfl)) az) ?_)
  refine Goes.ret ?_
  obtain rfl:=si h
  exact(gw2 [.agg [.i e,nvl (qa .u64) f,.i d,nvl (qa .u64) b]] (FzW.agg (qd.cons (FzW.still tI) (qd.cons (FzW.still (qy (qa .u64) _ (nl rfl))) (qd.cons (FzW.still tI) (qd.cons (FzW.still (qy (qa .u64) _ (nl rfl))) qd.nil))))))
 refine Goes.skip ?_
 obtain⟨a,p,h⟩:=bnd h
 refine sq (gq fol [2,4] (kH (kBc [])) (.cells [.i e,nvl (qa .u64) f]:: .cells [.i d,nvl (qa .u64) b]::(kD [.cells [.i a.s,nvl (qa .u64) a.w]])) (ac (cv (qg0 N (⟨e,f⟩:qj) (⟨d,b⟩:qj) p)) (ac (hs (.run [3] (qm Tryz.prog 106 (.ptr 3 0) (.agg [.i a.s,nvl (qa .u64) a.w])) (.cells [.i e,nvl (qa .u64) f]:: .cells [.i d,nvl (qa .u64) b]::(kD [bZ])) .undef (.cells [.i e,nvl (qa .u64) f]:: .cells [.i d,nvl (qa .u64) b]::(kD [.cells [.i a.s,nvl (qa .u64) a.w]])) true) (qN (n:=2) (by kernel_rfl) rfl rfl rfl rfl (cac rfl (cac nvc can)) rfl)) az)) ?_)
 obtain⟨g,q,h⟩:=bnd h
 obtain⟨j,r,h⟩:=bnd h
 refine sq (gq fol [2,5,7] (kAU []) [.cells [.i e,nvl (qa .u64) f],.cells [.i d,nvl (qa .u64) b],.cells [.i g.s,nvl (qa .u64) g.w,.i j.s,nvl (qa .u64) j.w],.cells [.i a.s,nvl (qa .u64) a.w]] (ac (cv (qcY N (⟨e,f⟩:qj) a q)) (ac (cv (qcY N (⟨d,b⟩:qj) a r)) (ac (hs (.run [2] (qm Tryz.prog 108 (.ptr 2 0) (.agg [.i g.s,nvl (qa .u64) g.w,.i j.s,nvl (qa .u64) j.w])) (.cells [.i e,nvl (qa .u64) f]:: .cells [.i d,nvl (qa .u64) b]::(kD [.cells [.i a.s,nvl (qa .u64) a.w]])) .undef [.cells [.i e,nvl (qa .u64) f],.cells [.i d,nvl (qa .u64) b],.cells [.i g.s,nvl (qa .u64) g.w,.i j.s,nvl (qa .u64) j.w],.cells [.i a.s,nvl (qa .u64) a.w]] true) (qN (n:=4) (by kernel_rfl) rfl rfl rfl rfl (cac rfl (cac nvc (cac rfl (cac nvc can)))) rfl)) az))) ?_)
 refine Goes.ret ?_
 obtain rfl:=si h
 exact(gw2 [.agg [.i g.s,nvl (qa .u64) g.w,.i j.s,nvl (qa .u64) j.w]] (FzW.agg (qd.cons (FzW.still tI) (qd.cons (FzW.still (qy (qa .u64) _ (nl rfl))) (qd.cons (FzW.still tI) (qd.cons (FzW.still (qy (qa .u64) _ (nl rfl))) qd.nil))))))
def qbi (n:qj):Option qZ:=
 (xS 1).bind fun a=>
 some (⟨n,a⟩:qZ)
theorem qeO (n:qj) {res:qZ} (h:qbi n=some res):qc Tryz.prog (.fn 124) [.agg [.i n.s,nvl (qa .u64) n.w]] [] (.agg [.i res.Num.s,nvl (qa .u64) res.Num.w,.i res.Den.s,nvl (qa .u64) res.Den.w]) []:=by
 unfold qbi at h
 refine Goes.fnW Tryz.func124 rfl rfl (m:=6) rfl (rs:=[.cell 2 108]) rfl (l:=[(0,.agg [.i n.s,nvl (qa .u64) n.w])]) rfl ?_
 refine sg fol (kAH []) (.cells [.i n.s,nvl (qa .u64) n.w]::(kD [])) ?_
 obtain⟨a,b,h⟩:=bnd h
 refine sq (gq fol [1,3] kBX [.cells [.i n.s,nvl (qa .u64) n.w],.cells [.i n.s,nvl (qa .u64) n.w,.i a.s,nvl (qa .u64) a.w]] (ac (cv (vH 1 b)) (ac (hs (.run [1] (qm Tryz.prog 108 (.ptr 1 0) (.agg [.i n.s,nvl (qa .u64) n.w,.i a.s,nvl (qa .u64) a.w])) (.cells [.i n.s,nvl (qa .u64) n.w]::(kD [])) .undef [.cells [.i n.s,nvl (qa .u64) n.w],.cells [.i n.s,nvl (qa .u64) n.w,.i a.s,nvl (qa .u64) a.w]] true) (qN (n:=4) (by kernel_rfl) rfl rfl rfl rfl (cac rfl (cac nvc (cac rfl (cac nvc can)))) rfl)) az)) ?_)
 refine Goes.ret ?_
 obtain rfl:=si h
 exact(gw2 [.agg [.i n.s,nvl (qa .u64) n.w,.i a.s,nvl (qa .u64) a.w]] (FzW.agg (qd.cons (FzW.still tI) (qd.cons (FzW.still (qy (qa .u64) _ (nl rfl))) (qd.cons (FzW.still tI) (qd.cons (FzW.still (qy (qa .u64) _ (nl rfl))) qd.nil))))))
def yx (a:qZ):Option Bool:=
 (if a.Den.w.isEmpty=true then
 some (decide (a.Den.s=1))
 else
 some false:Option Bool).bind fun b=>
 some b
theorem qdT (a:qZ) {res:Bool} (h:yx a=some res):qc Tryz.prog (.fn 174) [.agg [.i a.Num.s,nvl (qa .u64) a.Num.w,.i a.Den.s,nvl (qa .u64) a.Den.w]] [] (.bool res) []:=by
 unfold yx at h
 refine Goes.fnW Tryz.func174 rfl rfl (m:=13) rfl (rs:=[.tmp 2]) rfl (l:=[(0,.agg [.i a.Num.s,nvl (qa .u64) a.Num.w,.i a.Den.s,nvl (qa .u64) a.Den.w])]) rfl ?_
 refine sg fol (kA2 []) [.cells [.i a.Num.s,nvl (qa .u64) a.Num.w,.i a.Den.s,nvl (qa .u64) a.Den.w]] ?_
 refine sq ?_
 obtain⟨d,b,h⟩:=bnd h
 refine Goes.cut (s':=(ofG 13 (kBq d),[.cells [.i a.Num.s,nvl (qa .u64) a.Num.w,.i a.Den.s,nvl (qa .u64) a.Den.w]])) ?_ ?_
 ·rcases wyB b with⟨c,b⟩|⟨c,b⟩
  ·obtain rfl:=si b
   exact tr fol [3,4] (kBq (decide (a.Den.s=1))) (ac (hs (.done (.opt (qU Tryz.prog .eql 104 (.tmp 5) (.const (.slice none 0 0)) (nvl (qa .u64) a.Den.w) .nilslice)) (.bool a.Den.w.isEmpty)) (xX vE)) (ac (gw c) az))
  obtain rfl:=si b
  exact tr fol [3,4] kA7 (ac (hs (.done (.opt (qU Tryz.prog .eql 104 (.tmp 5) (.const (.slice none 0 0)) (nvl (qa .u64) a.Den.w) .nilslice)) (.bool a.Den.w.isEmpty)) (xX vE)) (ac (gw c) az))
 refine Goes.ret ?_
 obtain rfl:=si h
 exact(gw2 [.bool d] (FzW.still tB))
def qdr (N:Nat) (a:Str):Option qZ:=
 (strings_Cut a [47]).bind fun b=>
 if(!b.2.2)=true then
 (qav N b.1).bind fun c=>
 (qbi c).bind fun d=>
 some d
 else
 (qav N b.1).bind fun e=>
 (qav N b.2.1).bind fun f=>
 some (⟨e,f⟩:qZ)
theorem qiJ (N:Nat) (a:Str) {res:qZ} (h:qdr N a=some res):qc Tryz.prog (.fn 82) [.str a] [] (.agg [.i res.Num.s,nvl (qa .u64) res.Num.w,.i res.Den.s,nvl (qa .u64) res.Den.w]) []:=by
 unfold qdr at h
 refine Goes.fnW Tryz.func82 rfl rfl (m:=22) rfl (rs:=[.cell 2 108]) rfl (l:=(kAQ a [])) rfl ?_
 refine sg fol (kAQ a (kAM [])) (kD []) ?_
 obtain⟨c,f,h⟩:=bnd h
 refine sq (gr fol [1] (kAM [(3,.str c.1),(4,.str c.2.1),(5,.bool c.2.2)]) (ac (cv (qdl a [47] f)) az) ?_)
 refine sq ?_
 refine sh fol (kAM ((3,.str c.1)::(4,.str c.2.1)::(kBT (!c.2.2)))) ?_
 refine ihB h (fun p h=>?_) (fun p h=>?_)
 ·obtain⟨q,g,h⟩:=bnd h
  obtain⟨b,j,h⟩:=bnd h
  refine sq (gq fol [1,2,3] (kAM []) [.cells [.i b.Num.s,nvl (qa .u64) b.Num.w,.i b.Den.s,nvl (qa .u64) b.Den.w]] (ac (cv (qaW N c.1 g)) (ac (cv (qeO q j)) (ac (hs (.run [0] (qm Tryz.prog 108 (.ptr 0 0) (.agg [.i b.Num.s,nvl (qa .u64) b.Num.w,.i b.Den.s,nvl (qa .u64) b.Den.w])) (kD []) .undef [.cells [.i b.Num.s,nvl (qa .u64) b.Num.w,.i b.Den.s,nvl (qa .u64) b.Den.w]] true) (qN (n:=4) (by kernel_rfl) rfl rfl rfl rfl (cac rfl (cac nvc (cac rfl (cac nvc can)))) rfl)) az))) ?_)
  refine Goes.ret ?_
  obtain rfl:=si h
  exact(gw2 [.agg [.i b.Num.s,nvl (qa .u64) b.Num.w,.i b.Den.s,nvl (qa .u64) b.Den.w]] (FzW.agg (qd.cons (FzW.still tI) (qd.cons (FzW.still (qy (qa .u64) _ (nl rfl))) (qd.cons (FzW.still tI) (qd.cons (FzW.still (qy (qa .u64) _ (nl rfl))) qd.nil))))))
 refine Goes.skip ?_
 obtain⟨d,k,h⟩:=bnd h
 obtain⟨e,o,h⟩:=bnd h
 refine sq (gq fol [1,3,5] (kAM []) [.cells [.i d.s,nvl (qa .u64) d.w,.i e.s,nvl (qa .u64) e.w]] (ac (cv (qaW N c.1 k)) (ac (cv (qaW N c.2.1 o)) (ac (hs (.run [0] (qm Tryz.prog 108 (.ptr 0 0) (.agg [.i d.s,nvl (qa .u64) d.w,.i e.s,nvl (qa .u64) e.w])) (kD []) .undef [.cells [.i d.s,nvl (qa .u64) d.w,.i e.s,nvl (qa .u64) e.w]] true) (qN (n:=4) (by kernel_rfl) rfl rfl rfl rfl (cac rfl (cac nvc (cac rfl (cac nvc can)))) rfl)) az))) ?_)
 refine Goes.ret ?_
 obtain rfl:=si h
 exact(gw2 [.agg [.i d.s,nvl (qa .u64) d.w,.i e.s,nvl (qa .u64) e.w]] (FzW.agg (qd.cons (FzW.still tI) (qd.cons (FzW.still (qy (qa .u64) _ (nl rfl))) (qd.cons (FzW.still tI) (qd.cons (FzW.still (qy (qa .u64) _ (nl rfl))) qd.nil))))))
def vO (a:qj):Option Int:=
 (qC a).bind fun b=>
 if(b.2.length:Int)=0 then
 some 0
 else
 (idx b.2 (w64 ((b.2.length:Int)-1))).bind fun c=>
 (bits_Len64 c).bind fun d=>
 some (w64 ((w64 (64*(w64 ((b.2.length:Int)-1))))+d))
theorem qaZ (a:qj) {res:Int} (h:vO a=some res):qc Tryz.prog (.fn 159) [.agg [.i a.s,nvl (qa .u64) a.w]] [] (.i res) []:=by
 unfold vO at h
 refine Goes.fnW Tryz.func159 rfl rfl (m:=25) rfl (rs:=[.tmp 2]) rfl (l:=[(0,.agg [.i a.s,nvl (qa .u64) a.w])]) rfl ?_
 refine sg fol (kA2 []) [.cells [.i a.s,nvl (qa .u64) a.w]] ?_
 obtain⟨c,d,h⟩:=bnd h
 refine sq (gr fol [1] [(4,vl (qa .u64) c.2)] (ac (cv (zo a d)) az) ?_)
 refine sq ?_
 refine sh fol ((4,vl (qa .u64) c.2)::(kBU (decide ((c.2.length:Int)=0)))) ?_
 refine ihD h (fun g h=>?_) (fun g h=>?_)
 ·refine sh fol kB3 ?_
  refine Goes.ret ?_
  obtain rfl:=si h
  exact(gw2 [.i 0] (FzW.still tI))
 refine Goes.skip ?_
 obtain⟨j,b,h⟩:=bnd h
 obtain⟨f,e,h⟩:=bnd h
 refine sq (gr fol [8,9,10] (kBM (w64 ((w64 (64*(w64 ((c.2.length:Int)-1))))+f))) (ac (iv qF (qa .u64) b) (ac (lv 0 zB (qa .u64) b rfl) (ac (cv (qdZ j e)) az))) ?_)
 refine Goes.ret ?_
 obtain rfl:=si h
 exact(gw2 [.i (w64 ((w64 (64*(w64 ((c.2.length:Int)-1))))+f))] (FzW.still tI))
def zR (N:Nat):Nat->(List Str)->(List Int)->Option (List Str)
 |0,_,_=>none
 |K+1,i,j=>
  if(j.length:Int)>0 then
  (qaf N j ([1000000000000000000]:List Int)).bind fun b=>
  ((if(b.2.length:Int)>0 then
  (idx b.2 0).bind fun c=>
  (qgT c 10).bind fun d=>
  some d
  else
  some [48]:Option Str)).bind fun a=>
  ((if(b.1.length:Int)>0 then
  (qdO [48] (w64 (18-(a.length:Int)))).bind fun e=>
  (cat e a).bind fun f=>
  some f
  else
  some a:Option Str)).bind fun g=>
  (app 16 i [g]).bind fun h=>
  zR N K h b.1
  else
  some i
def kV (e:List Str):Nat->Bool->(Option (List Int))->Int->Option (Bool×(Option (List Int)))
 |0,_,_,_=>none
 |K+1,ok27,b,a=>
  if a>=0 then
  (idx e a).bind fun c=>
  (bWr ok27 b c).bind fun d=>
  kV e K true (some d) (w64 (a-1))
  else
  some (ok27,b)
def jI (N:Nat) (a:qj):Option Str:=
 if a.w.isEmpty=true then
 (qlh a.s).bind fun h=>
 some h
 else
 (qC a).bind fun f=>
 (zR N N ([]:List Str) f.2).bind fun g=>
 ((if f.1=true then
 (bWr false (none:Option (List Int)) [45]).bind fun b=>
 some (true,(some b))
 else
 some (false,(none:Option (List Int))):Option (Bool×(Option (List Int))))).bind fun(ok21,c)=>
 (kV g N ok21 c (w64 ((g.length:Int)-1))).bind fun(ok30,d)=>
 (qlu ok30 d).bind fun e=>
 some e
theorem yZ (N:Nat) (a:qj) {res:Str} (h:jI N a=some res):qc Tryz.prog (.fn 208) [.agg [.i a.s,nvl (qa .u64) a.w]] [] (.str res) []:=by
 unfold jI at h
 refine Goes.fnW Tryz.func208 rfl rfl (m:=69) rfl (rs:=[.tmp 2]) rfl (l:=[(0,.agg [.i a.s,nvl (qa .u64) a.w])]) rfl ?_
 refine sg fol (kA2 []) [.cells [.i a.s,nvl (qa .u64) a.w]] ?_
 refine sq ?_
 refine sq (gr fol [2] (kA2 (kBh a.w.isEmpty)) (ac (hs (.done (.opt (qU Tryz.prog .eql 104 (.tmp 13) (.const (.slice none 0 0)) (nvl (qa .u64) a.w) .nilslice)) (.bool a.w.isEmpty)) (xX vE)) az) ?_)
 refine ihB h (fun c1 h=>?_) (fun c1 h=>?_)
 ·obtain⟨r2,J,h⟩:=bnd h
  refine sq (gr fol [2] (kBs r2) (ac (cv (qnP a.s J)) az) ?_)
  refine Goes.ret ?_
  obtain rfl:=si h
  exact(gw2 [.str r2] (FzW.still tS))
 refine Goes.skip ?_
 obtain⟨d,K,h⟩:=bnd h
 refine sq (gr fol [1] [(3,.bool d.1),(4,vl (qa .u64) d.2)] (ac (cv (zo a K)) az) ?_)
 refine sg fol [(3,.bool d.1),(4,vl (qa .u64) d.2),(5,.slice 1 0 1 1 1)] [.cells [.i a.s,nvl (qa .u64) a.w],.cells [.int .u64 1000000000000000000]] ?_
 refine sh fol [(3,.bool d.1),(4,vl (qa .u64) d.2),(5,.slice 1 0 1 1 1),(6,.nilslice)] ?_
 refine sq (Goes.block ?_)
 obtain⟨r7,g7,h⟩:=bnd h
 refine Goes.imp (Q:=fun x s'=>(x= .exit 0/\ ∃b,b=r7/\Sub s' (ofG 69 ((3,.bool d.1)::(kAS b [])),(kAY b [])))) ?_ ?_
 ·refine Goes.sub (s':=(ofG 69 [(3,.bool d.1),(4,vl (qa .u64) d.2),(5,vl (qa .u64) ([1000000000000000000]:List Int)),(6,.gslice 0 ([]:List Str).length 1)],[.cells (([]:List Str).flatMap encS.c)])) (Sub.norm [1] [none] rfl rfl (.keep (.same nB) (.keep (.same (qh (qa .u64) _)) (.keep (.frz (Fz.lit rfl rfl (FzL.still (AllST.cons tI AllST.nil))) (qh (qa .u64) _)) (.keep .nil .nil)))) (.fresh .nil)) ?_
  refine Goes.loopS (fun M s=> ∃(g:List Str) (I:List Int),s=(ofG 69 ((3,.bool d.1)::(4,vl (qa .u64) I)::(5,vl (qa .u64) ([1000000000000000000]:List Int))::(kAS g [])),(kAY g []))/\zR N M g I=some r7) ?_ (m:=N) ⟨_,_,rfl,g7⟩
  rintro M s ⟨g,I,rfl,g7⟩
  cases M with
  |zero=>simp only[zR]at g7;cases g7
  |succ M=>
   rw[zR]at g7
   refine sq ?_
   refine sh fol ((3,.bool d.1)::(4,vl (qa .u64) I)::(5,vl (qa .u64) ([1000000000000000000]:List Int))::(kAS g [(26,.bool (decide ((I.length:Int)>0)))])) ?_
   refine ihD g7 (fun c8 g7=>?_) (fun c8 g7=>?_)
   ·refine Goes.skip ?_
    refine Goes.block ?_
    obtain⟨j,L,g7⟩:=bnd g7
    refine sq (gr fol [2] ((3,.bool d.1)::(5,vl (qa .u64) ([1000000000000000000]:List Int))::(kAS g [(7,vl (qa .u64) j.1),(8,vl (qa .u64) j.2)])) (ac (cv (qdX N I ([1000000000000000000]:List Int) L)) az) ?_)
    refine sh fol ((3,.bool d.1)::(5,vl (qa .u64) ([1000000000000000000]:List Int))::(kAS g [(7,vl (qa .u64) j.1),(8,vl (qa .u64) j.2),(9,.str [48])])) ?_
    refine sq ?_
    refine sh fol ((3,.bool d.1)::(5,vl (qa .u64) ([1000000000000000000]:List Int))::(kAS g [(7,vl (qa .u64) j.1),(8,vl (qa .u64) j.2),(9,.str [48]),(35,.bool (decide ((j.2.length:Int)>0)))])) ?_
    obtain⟨U,g11,g7⟩:=bnd g7
    refine Goes.imp (Q:=fun x s'=>(x= .normal/\ ∃p,p=U/\Sub s' (ofG 69 ((3,.bool d.1)::(5,vl (qa .u64) ([1000000000000000000]:List Int))::(kAS g [(7,vl (qa .u64) j.1),(9,.str p)])),(kAY g [])))) ?_ ?_
    ·refine ihD g11 (fun V g11=>?_) (fun V g11=>?_)
     ·obtain⟨X,r,g11⟩:=bnd g11
      obtain⟨Y,z,g11⟩:=bnd g11
      refine gr fol [1,2,3] ((3,.bool d.1)::(5,vl (qa .u64) ([1000000000000000000]:List Int))::(kAS g [(7,vl (qa .u64) j.1),(9,.str Y)])) (ac (iv qF (qa .u64) r) (ac (lv 0 zB (qa .u64) r rfl) (ac (cv (qnC X 10 z)) az))) ?_
      obtain rfl:=si g11
      exact⟨rfl,_,rfl,(Sub.refl _)⟩
     refine Goes.skip ?_
     obtain rfl:=si g11
     exact⟨rfl,_,rfl,(Sub.keep [3,5,6,7,9] rfl rfl)⟩
    rintro x s' ⟨rfl,p,rfl,hsub⟩
    refine Goes.sub hsub ?_
    refine sq ?_
    refine sh fol ((3,.bool d.1)::(5,vl (qa .u64) ([1000000000000000000]:List Int))::(kAS g [(7,vl (qa .u64) j.1),(9,.str p),(42,.bool (decide ((j.1.length:Int)>0)))])) ?_
    obtain⟨Z,g16,g7⟩:=bnd g7
    refine Goes.imp (Q:=fun x s'=>(x= .normal/\ ∃k,k=Z/\Sub s' (ofG 69 ((3,.bool d.1)::(5,vl (qa .u64) ([1000000000000000000]:List Int))::(kAS g [(7,vl (qa .u64) j.1),(9,.str k)])),(kAY g [])))) ?_ ?_
    ·refine ihD g16 (fun a0 g16=>?_) (fun a0 g16=>?_)
     ·obtain⟨a1,A,g16⟩:=bnd g16
      obtain⟨O,B,g16⟩:=bnd g16
      refine gr fol [3,5] ((3,.bool d.1)::(5,vl (qa .u64) ([1000000000000000000]:List Int))::(kAS g [(7,vl (qa .u64) j.1),(9,.str O)])) (ac (cv (qjN [48] (w64 (18-(p.length:Int))) A)) (ac (hs (.done (.opt (qU Tryz.prog .add 9 (.tmp 46) (.tmp 47) (.str a1) (.str p))) (.str O)) (xY B)) az)) ?_
      obtain rfl:=si g16
      exact⟨rfl,_,rfl,(Sub.refl _)⟩
     refine Goes.skip ?_
     obtain rfl:=si g16
     exact⟨rfl,_,rfl,(Sub.keep [3,5,6,7,9] rfl rfl)⟩
    rintro x s' ⟨rfl,k,rfl,hsub⟩
    refine Goes.sub hsub ?_
    obtain⟨n,C,g7⟩:=bnd g7
    refine sq (gq fol [3] [(3,.bool d.1),(5,vl (qa .u64) ([1000000000000000000]:List Int)),(6,.gslice 2 n.length 1),(7,vl (qa .u64) j.1)] (.dead:: .cells [.str k]::(kAY n [])) (ac (hs (.run [0,1] (y9 Tryz.prog [244,244] (.gslice 0 g.length 1) (.slice 1 0 1 1 1)) (kAY g [.cells [.str k]]) (.gslice 2 n.length 1) (.dead:: .cells [.str k]::(kAY n [])) true) (qbS qoW (E:=encS) rfl (qfP (E:=encS) (ys:=[k]) rfl rfl rfl rfl) (qhr (E:=encS) (l:=g) rfl rfl rfl C rfl))) az) ?_)
    refine gh fol [(3,.bool d.1),(4,vl (qa .u64) j.1),(5,vl (qa .u64) ([1000000000000000000]:List Int)),(6,.gslice 2 n.length 1)] ?_
    exact⟨M,(ofG 69 ((3,.bool d.1)::(4,vl (qa .u64) j.1)::(5,vl (qa .u64) ([1000000000000000000]:List Int))::(kAS n [])),(kAY n [])),Nat.lt_succ_self _,(Sub.norm [] [some 2] rfl rfl (.keep (.same nB) (.keep (.same (qh (qa .u64) _)) (.keep (.same (qh (qa .u64) _)) (.keep (.gslice rfl) .nil)))) (.ks .nil)),_,_,rfl,g7⟩
   refine Goes.exit ?_
   obtain rfl:=si g7
   exact⟨rfl,_,rfl,(Sub.keep [3,6] rfl rfl)⟩
 rintro x s' ⟨rfl,b,rfl,hsub⟩
 refine Goes.sub hsub ?_
 refine sg fol ((3,.bool d.1)::(kAS b (kB2 []))) (kAY b [.bld 197 5 [.nilptr,.nilslice]]) ?_
 refine sq ?_
 refine sh fol (kAS b (kB2 [(54,.bool d.1)])) ?_
 obtain⟨a2,g23,h⟩:=bnd h
 refine Goes.imp (Q:=fun x s'=>(x= .normal/\ ∃ok21 u,(ok21,u)=a2/\Sub s' (ofG 69 (kAS b (kB2 [])),(kAY b [.bld 197 5 [pz ok21 1 0,hsl 2 1 u],.cells ((hof u).flatMap (qa .u8).c)])))) ?_ ?_
 ·refine ihB g23 (fun a3 g23=>?_) (fun a3 g23=>?_)
  ·refine Goes.sub (s':=(ofG 69 (kAS b (kB2 [(54,.bool d.1)])),(kAY b [.bld 197 5 [pz false 1 0,.nilslice]]))) (Sub.norm [] [some 0,some 1] rfl rfl (.keep (.gslice rfl) (.kp (.keep (.same nB) .nil))) (.ks (.kb rfl (.bld (rc (zK.pz0) (rc (.same (qB.nilslice)) rn))) .nil))) ?_
   refine Goes.sub (s':=(ofG 69 (kAS b (kB2 [(54,.bool d.1)])),(kAY b [.bld 197 5 [pz false 1 0,hsl 2 1 (none:Option (List Int))],.cells ((hof (none:Option (List Int))).flatMap (qa .u8).c)]))) (Sub.norm [] [some 0,some 1,none] rfl rfl (.keep (.gslice rfl) (.kp (.keep (.same nB) .nil))) (.ks (.kb rfl (.bld (rc (zK.pz0) (rc .hs0 rn))) (.fresh .nil)))) ?_
   obtain⟨v,D,g23⟩:=bnd g23
   refine gq fol [0] (kAS b (kB2 [])) (kAY b [.bld 197 5 [pz true 1 0,hsl 3 1 (some v)],.dead,.cells ((hof (some v)).flatMap (qa .u8).c)]) (ac (hs (.callH 191 [.ptr 1 0,.str [45]] (kAY b [.bld 197 5 [pz false 1 0,hsl 2 1 (none:Option (List Int))],.cells ((hof (none:Option (List Int))).flatMap (qa .u8).c)]) [1,2] (.tuple [.i (([45].length:Nat):Int),.niliface]) (kAY b [.bld 197 5 [pz true 1 0,hsl 3 1 (some v)],.dead,.cells ((hof (some v)).flatMap (qa .u8).c)])) (qeX [some 1,some 2] [none,some 0,none,some 2] (qmx false (none:Option (List Int)) [45] D) (.kb rfl (.bld (rc (zK.pz0) (rc .hs0 rn))) (.ks .nil)) rfl rfl (.old rfl rfl (.back rfl rfl (.bld (rc ((zK.pz rfl)) (rc (.hs rfl) rn))) rfl (.dead (.new rfl rfl (.same fa) rfl .nil)))) (rc (.ptr rfl) (rc (.same nS) rn)) (.same (qB.tuple sn)) rfl)) az) ?_
   obtain rfl:=si g23
   exact⟨rfl,_,_,rfl,(Sub.norm [] [some 0,some 1,some 3] rfl rfl (.keep (.gslice rfl) (.kp .nil)) (.ks (.kb rfl (.bld (rc ((zK.pz rfl)) (rc (.hs rfl) rn))) (.ks .nil))))⟩
  refine Goes.skip ?_
  obtain rfl:=si g23
  exact⟨rfl,_,_,rfl,(Sub.norm [] [some 0,some 1,none] rfl rfl (.keep (.gslice rfl) (.kp .nil)) (.ks (.kb rfl (.bld (rc (zK.pz0) (rc .hs0 rn))) (.fresh .nil))))⟩
 rintro x s' ⟨rfl,ok21,u,rfl,hsub⟩
 try dsimp only at h
 refine Goes.sub hsub ?_
 refine sq ?_
 refine sh fol (kAS b (kB2 [(11,.i (w64 ((b.length:Int)-1)))])) ?_
 refine Goes.block ?_
 obtain⟨P,g32,h⟩:=bnd h
 refine Goes.imp (Q:=fun x s'=>(x= .exit 2/\ ∃ok30 o,(ok30,o)=P/\Sub s' (ofG 69 [(10,.ptr 0 0)],[.bld 197 5 [pz ok30 0 0,hsl 1 1 o],.cells ((hof o).flatMap (qa .u8).c)]))) ?_ ?_
 ·refine Goes.loopS (fun M s=> ∃(ok27:Bool) (e:Option (List Int)) (f:Int),s=(ofG 69 (kAS b (kB2 [(11,.i f)])),(kAY b [.bld 197 5 [pz ok27 1 0,hsl 2 1 e],.cells ((hof e).flatMap (qa .u8).c)]))/\kV b M ok27 e f=some P) ?_ (m:=N) ⟨_,_,_,rfl,g32⟩
  rintro M s ⟨ok27,e,f,rfl,g32⟩
  cases M with
  |zero=>simp only[kV]at g32;cases g32
  |succ M=>
   rw[kV]at g32
   refine sq ?_
   refine sh fol (kAS b (kB2 [(11,.i f),(60,.bool (decide (f>=0)))])) ?_
   refine ihD g32 (fun a4 g32=>?_) (fun a4 g32=>?_)
   ·refine Goes.skip ?_
    refine sq (Goes.block ?_)
    obtain⟨y,t,g32⟩:=bnd g32
    obtain⟨q,F,g32⟩:=bnd g32
    refine gq fol [2,3,4] (kAS b (kB2 [(11,.i f)])) (kAY b [.bld 197 5 [pz true 1 0,hsl 3 1 (some q)],.dead,.cells ((hof (some q)).flatMap (qa .u8).c)]) (ac (hs (.done (.opt (qg Tryz.prog 244 (.gslice 0 b.length 1) (.i f))) (.ptr 0 ((f:Int).toNat*1+0))) (ix_gs qoW t)) (ac (hs (.run [0] (zN Tryz.prog 9 (.ptr 0 ((f:Int).toNat*1+0))) (kAY b [.bld 197 5 [pz ok27 1 0,hsl 2 1 e],.cells ((hof e).flatMap (qa .u8).c)]) (.str y) (kAY b [.bld 197 5 [pz ok27 1 0,hsl 2 1 e],.cells ((hof e).flatMap (qa .u8).c)]) false) (qbI ce9 (E:=encS) (l:=b) rfl rfl t (nl rfl) rfl)) (ac (hs (.callH 191 [.ptr 1 0,.str y] (kAY b [.bld 197 5 [pz ok27 1 0,hsl 2 1 e],.cells ((hof e).flatMap (qa .u8).c)]) [1,2] (.tuple [.i ((y.length:Nat):Int),.niliface]) (kAY b [.bld 197 5 [pz true 1 0,hsl 3 1 (some q)],.dead,.cells ((hof (some q)).flatMap (qa .u8).c)])) (qeX [some 1,some 2] [none,some 0,none,some 2] (qmx ok27 e y F) (.kb rfl (.bld (rc ((zK.pz rfl)) (rc (.hs rfl) rn))) (.ks .nil)) rfl rfl (.old rfl rfl (.back rfl rfl (.bld (rc ((zK.pz rfl)) (rc (.hs rfl) rn))) rfl (.dead (.new rfl rfl (.same fa) rfl .nil)))) (rc (.ptr rfl) (rc (.same nS) rn)) (.same (qB.tuple sn)) rfl)) az))) ?_
    refine gh fol (kAS b (kB2 [(11,.i (w64 (f-1)))])) ?_
    exact⟨M,(ofG 69 (kAS b (kB2 [(11,.i (w64 (f-1)))])),(kAY b [.bld 197 5 [pz true 1 0,hsl 2 1 (some q)],.cells ((hof (some q)).flatMap (qa .u8).c)])),Nat.lt_succ_self _,(Sub.norm [] [some 0,some 1,some 3] rfl rfl (.keep (.gslice rfl) (.kp (.keep (.same nI) .nil))) (.ks (.kb rfl (.bld (rc ((zK.pz rfl)) (rc (.hs rfl) rn))) (.ks .nil)))),_,_,_,rfl,g32⟩
   refine Goes.exit ?_
   obtain rfl:=si g32
   exact⟨rfl,_,_,rfl,(Sub.norm [] [some 1,some 2] rfl rfl (.drop (.kp .nil)) (.kb rfl (.bld (rc ((zK.pz rfl)) (rc (.hs rfl) rn))) (.ks .nil)))⟩
 rintro x s' ⟨rfl,ok30,o,rfl,hsub⟩
 try dsimp only at h
 refine Goes.sub hsub ?_
 obtain⟨G,H,h⟩:=bnd h
 refine sq (gq fol [0] (kBs G) [.dead,.dead] (ac (hs (.callH 193 [.ptr 0 0] [.bld 197 5 [pz ok30 0 0,hsl 1 1 o],.cells ((hof o).flatMap (qa .u8).c)] [0,1] (.str G) [.dead,.dead]) (qeX [some 0,some 1] [none,none] (qoh ok30 o H) (.kb rfl (.bld (rc ((zK.pz rfl)) (rc (.hs rfl) rn))) (.ks .nil)) rfl rfl (.dead (.dead .nil)) (rc (.ptr rfl) rn) (.same nS) rfl)) az) ?_)
 refine Goes.ret ?_
 obtain rfl:=si h
 exact(gw2 [.str G] (FzW.still tS))
def qb7 (N:Nat) (n:qj):Option Bool:=
 ((vO n).bind fun a=>
 if a>1800 then
 (jI N n).bind fun b=>
 (strings_TrimPrefix b [45]).bind fun c=>
 some (decide ((c.length:Int)>600))
 else
 some false:Option Bool).bind fun d=>
 some d
theorem qdu (N:Nat) (n:qj) {res:Bool} (h:qb7 N n=some res):qc Tryz.prog (.fn 207) [.agg [.i n.s,nvl (qa .u64) n.w]] [] (.bool res) []:=by
 unfold qb7 at h
 refine Goes.fnW Tryz.func207 rfl rfl (m:=13) rfl (rs:=[.tmp 2]) rfl (l:=[(0,.agg [.i n.s,nvl (qa .u64) n.w])]) rfl ?_
 refine sg fol (kA2 []) [.cells [.i n.s,nvl (qa .u64) n.w]] ?_
 refine sq ?_
 obtain⟨f,a,h⟩:=bnd h
 refine Goes.cut (s':=(ofG 13 (kBq f),[.cells [.i n.s,nvl (qa .u64) n.w]])) ?_ ?_
 ·obtain⟨k,b,a⟩:=bnd a
  rcases wyD a with⟨e,a⟩|⟨e,a⟩
  ·obtain⟨g,c,a⟩:=bnd a
   obtain⟨j,d,a⟩:=bnd a
   obtain rfl:=si a
   exact tr fol [1,3,5,6] (kBq (decide ((j.length:Int)>600))) (ac (cv (qaZ n b)) (ac (gw e) (ac (cv (yZ N n c)) (ac (cv (qaC g [45] d)) az))))
  obtain rfl:=si a
  exact tr fol [1,3] kA7 (ac (cv (qaZ n b)) (ac (gw e) az))
 refine Goes.ret ?_
 obtain rfl:=si h
 exact(gw2 [.bool f] (FzW.still tB))
def yh (N:Nat) (a:qZ):Option Bool:=
 ((qb7 N a.Num).bind fun b=>
 if b=true then
 some true
 else
 (qb7 N a.Den).bind fun c=>
 some c:Option Bool).bind fun d=>
 some d
theorem qax (N:Nat) (a:qZ) {res:Bool} (h:yh N a=some res):qc Tryz.prog (.fn 151) [.agg [.i a.Num.s,nvl (qa .u64) a.Num.w,.i a.Den.s,nvl (qa .u64) a.Den.w]] [] (.bool res) []:=by
 unfold yh at h
 refine Goes.fnW Tryz.func151 rfl rfl (m:=11) rfl (rs:=[.tmp 2]) rfl (l:=[(0,.agg [.i a.Num.s,nvl (qa .u64) a.Num.w,.i a.Den.s,nvl (qa .u64) a.Den.w])]) rfl ?_
 refine sg fol (kA2 []) [.cells [.i a.Num.s,nvl (qa .u64) a.Num.w,.i a.Den.s,nvl (qa .u64) a.Den.w]] ?_
 refine sq ?_
 obtain⟨f,b,h⟩:=bnd h
 refine Goes.cut (s':=(ofG 11 (kBq f),[.cells [.i a.Num.s,nvl (qa .u64) a.Num.w,.i a.Den.s,nvl (qa .u64) a.Den.w]])) ?_ ?_
 ·obtain⟨j,c,b⟩:=bnd b
  rcases wyB b with⟨e,b⟩|⟨e,b⟩
  ·obtain rfl:=si b
   exact tr fol [2,3] [(2,.bool true)] (ac (cv (qdu N a.Num c)) (ac (gw e) az))
  obtain⟨g,d,b⟩:=bnd b
  obtain rfl:=si b
  exact tr fol [2,3,6] (kBq g) (ac (cv (qdu N a.Num c)) (ac (gw e) (ac (cv (qdu N a.Den d)) az)))
 refine Goes.ret ?_
 obtain rfl:=si h
 exact(gw2 [.bool f] (FzW.still tB))
def yV (N:Nat) (a:qZ):Option Str:=
 (yx a).bind fun b=>
 if b=true then
 (jI N a.Num).bind fun c=>
 some c
 else
 (jI N a.Num).bind fun d=>
 (cat d [47]).bind fun e=>
 (jI N a.Den).bind fun f=>
 (cat e f).bind fun g=>
 some g
theorem qb8 (N:Nat) (a:qZ) {res:Str} (h:yV N a=some res):qc Tryz.prog (.fn 152) [.agg [.i a.Num.s,nvl (qa .u64) a.Num.w,.i a.Den.s,nvl (qa .u64) a.Den.w]] [] (.str res) []:=by
 unfold yV at h
 refine Goes.fnW Tryz.func152 rfl rfl (m:=16) rfl (rs:=[.tmp 2]) rfl (l:=[(0,.agg [.i a.Num.s,nvl (qa .u64) a.Num.w,.i a.Den.s,nvl (qa .u64) a.Den.w])]) rfl ?_
 refine sg fol (kA2 []) [.cells [.i a.Num.s,nvl (qa .u64) a.Num.w,.i a.Den.s,nvl (qa .u64) a.Den.w]] ?_
 refine sq ?_
 obtain⟨o,b,h⟩:=bnd h
 refine sq (gr fol [1] (kA2 (kAl o)) (ac (cv (qdT a b)) az) ?_)
 refine ihB h (fun p h=>?_) (fun p h=>?_)
 ·obtain⟨k,c,h⟩:=bnd h
  refine sq (gr fol [2] (kBs k) (ac (cv (yZ N a.Num c)) az) ?_)
  refine Goes.ret ?_
  obtain rfl:=si h
  exact(gw2 [.str k] (FzW.still tS))
 refine Goes.skip ?_
 obtain⟨q,d,h⟩:=bnd h
 obtain⟨n,e,h⟩:=bnd h
 obtain⟨r,f,h⟩:=bnd h
 obtain⟨j,g,h⟩:=bnd h
 refine sq (gr fol [2,3,6,7] (kBs j) (ac (cv (yZ N a.Num d)) (ac (hs (.done (.opt (qU Tryz.prog .add 9 (.tmp 10) (.const (.string ⟨#[47]⟩)) (.str q) (.str [47]))) (.str n)) (xY e)) (ac (cv (yZ N a.Den f)) (ac (hs (.done (.opt (qU Tryz.prog .add 9 (.tmp 11) (.tmp 14) (.str n) (.str r))) (.str j)) (xY g)) az)))) ?_)
 refine Goes.ret ?_
 obtain rfl:=si h
 exact(gw2 [.str j] (FzW.still tS))
def qaA (N:Nat) (a:qZ) (b:qZ):Option qZ:=
 (qV N a.Num b.Num).bind fun c=>
 (qV N a.Den b.Den).bind fun d=>
 (qbA N c d).bind fun e=>
 some e
theorem qfo (N:Nat) (a:qZ) (b:qZ) {res:qZ} (h:qaA N a b=some res):qc Tryz.prog (.fn 102) [.agg [.i a.Num.s,nvl (qa .u64) a.Num.w,.i a.Den.s,nvl (qa .u64) a.Den.w],.agg [.i b.Num.s,nvl (qa .u64) b.Num.w,.i b.Den.s,nvl (qa .u64) b.Den.w]] [] (.agg [.i res.Num.s,nvl (qa .u64) res.Num.w,.i res.Den.s,nvl (qa .u64) res.Den.w]) []:=by
 unfold qaA at h
 refine Goes.fnW Tryz.func102 rfl rfl (m:=16) rfl (rs:=[.cell 4 108]) rfl (l:=[(0,.agg [.i a.Num.s,nvl (qa .u64) a.Num.w,.i a.Den.s,nvl (qa .u64) a.Den.w]),(1,.agg [.i b.Num.s,nvl (qa .u64) b.Num.w,.i b.Den.s,nvl (qa .u64) b.Den.w])]) rfl ?_
 refine sg fol (kH []) (.cells [.i a.Num.s,nvl (qa .u64) a.Num.w,.i a.Den.s,nvl (qa .u64) a.Den.w]:: .cells [.i b.Num.s,nvl (qa .u64) b.Num.w,.i b.Den.s,nvl (qa .u64) b.Den.w]::(kD [])) ?_
 obtain⟨g,d,h⟩:=bnd h
 obtain⟨j,e,h⟩:=bnd h
 obtain⟨c,f,h⟩:=bnd h
 refine sq (gq fol [4,9,10,11] (kAU []) [.cells [.i a.Num.s,nvl (qa .u64) a.Num.w,.i a.Den.s,nvl (qa .u64) a.Den.w],.cells [.i b.Num.s,nvl (qa .u64) b.Num.w,.i b.Den.s,nvl (qa .u64) b.Den.w],.cells [.i c.Num.s,nvl (qa .u64) c.Num.w,.i c.Den.s,nvl (qa .u64) c.Den.w]] (ac (cv (jE N a.Num b.Num d)) (ac (cv (jE N a.Den b.Den e)) (ac (cv (qc0 N g j f)) (ac (hs (.run [2] (qm Tryz.prog 108 (.ptr 2 0) (.agg [.i c.Num.s,nvl (qa .u64) c.Num.w,.i c.Den.s,nvl (qa .u64) c.Den.w])) (.cells [.i a.Num.s,nvl (qa .u64) a.Num.w,.i a.Den.s,nvl (qa .u64) a.Den.w]:: .cells [.i b.Num.s,nvl (qa .u64) b.Num.w,.i b.Den.s,nvl (qa .u64) b.Den.w]::(kD [])) .undef [.cells [.i a.Num.s,nvl (qa .u64) a.Num.w,.i a.Den.s,nvl (qa .u64) a.Den.w],.cells [.i b.Num.s,nvl (qa .u64) b.Num.w,.i b.Den.s,nvl (qa .u64) b.Den.w],.cells [.i c.Num.s,nvl (qa .u64) c.Num.w,.i c.Den.s,nvl (qa .u64) c.Den.w]] true) (qN (n:=4) (by kernel_rfl) rfl rfl rfl rfl (cac rfl (cac nvc (cac rfl (cac nvc can)))) rfl)) az)))) ?_)
 refine Goes.ret ?_
 obtain rfl:=si h
 exact(gw2 [.agg [.i c.Num.s,nvl (qa .u64) c.Num.w,.i c.Den.s,nvl (qa .u64) c.Den.w]] (FzW.agg (qd.cons (FzW.still tI) (qd.cons (FzW.still (qy (qa .u64) _ (nl rfl))) (qd.cons (FzW.still tI) (qd.cons (FzW.still (qy (qa .u64) _ (nl rfl))) qd.nil))))))
end Go.Av
