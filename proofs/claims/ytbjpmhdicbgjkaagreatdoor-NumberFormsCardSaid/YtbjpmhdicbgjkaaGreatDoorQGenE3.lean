/-
  Walks of functions: what each computes, as a plain function.
-/
import Derived.Test.YtbjpmhdicbgjkaaGreatDoorQGenE2
noncomputable section
namespace Go.Av
open Go.Proofs Go.RowKit
set_option linter.unusedSectionVars false
set_option linter.unusedVariables false
set_option linter.unusedSimpArgs false
set_option maxRecDepth 100000
def xD (a:qj):Option qj:=
 if a.s<0 then
 (zh a).bind fun b=>
 some b
 else
 some a
theorem qcl (a:qj) {res:qj} (h:xD a=some res):qc Tryz.prog (.fn 184) [.agg [.i a.s,nvl (qa .u64) a.w]] [] (.agg [.i res.s,nvl (qa .u64) res.w]) []:=by
 unfold xD at h
 refine Goes.fnW Tryz.func184 rfl rfl (m:=9) rfl (rs:=[.cell 2 106]) rfl (l:=[(0,.agg [.i a.s,nvl (qa .u64) a.w])]) rfl ?_
 refine sg fol (kAH []) [.cells [.i a.s,nvl (qa .u64) a.w],bZ] ?_
 refine sq ?_
 refine sh fol (kAH [(5,.bool (decide (a.s<0)))]) ?_
 refine ihD h (fun d h=>?_) (fun d h=>?_)
 ·obtain⟨b,c,h⟩:=bnd h
  refine sq (gq fol [1,2] kBX [.cells [.i a.s,nvl (qa .u64) a.w],.cells [.i b.s,nvl (qa .u64) b.w]] (ac (cv (jO a c)) (ac (hs (.run [1] (qw Tryz.prog 106 (.ptr 1 0) (.agg [.i b.s,nvl (qa .u64) b.w])) [.cells [.i a.s,nvl (qa .u64) a.w],bZ] .undef [.cells [.i a.s,nvl (qa .u64) a.w],.cells [.i b.s,nvl (qa .u64) b.w]] true) (zg (n:=2) (by kernel_rfl) rfl rfl rfl rfl (cac rfl (cac nvc can)) rfl)) az)) ?_)
  refine Goes.ret ?_
  obtain rfl:=si h
  exact(gw2 [.agg [.i b.s,nvl (qa .u64) b.w]] (FzW.agg (qg.cons (FzW.still tI) (qg.cons (FzW.still (qF (qa .u64) _ (nl rfl))) qg.nil))))
 refine Goes.skip ?_
 refine sq (gq fol [1] kBX [.cells [.i a.s,nvl (qa .u64) a.w],.cells [.i a.s,nvl (qa .u64) a.w]] (ac (hs (.run [1] (qw Tryz.prog 106 (.ptr 1 0) (.agg [.i a.s,nvl (qa .u64) a.w])) [.cells [.i a.s,nvl (qa .u64) a.w],bZ] .undef [.cells [.i a.s,nvl (qa .u64) a.w],.cells [.i a.s,nvl (qa .u64) a.w]] true) (zg (n:=2) (by kernel_rfl) rfl rfl rfl rfl (cac rfl (cac nvc can)) rfl)) az) ?_)
 refine Goes.ret ?_
 obtain rfl:=si h
 exact(gw2 [.agg [.i a.s,nvl (qa .u64) a.w]] (FzW.agg (qg.cons (FzW.still tI) (qg.cons (FzW.still (qF (qa .u64) _ (nl rfl))) qg.nil))))
def jL (N:Nat):Nat->Int->(List Int)->Int->(List Int)->Option (Int×(List Int))
 |0,_,_,_,_=>none
 |K+1,e,f,b,c=>
  (qV (⟨b,c⟩:qj)).bind fun d=>
  if(!decide (d=0))=true then
  (zq N (⟨e,f⟩:qj) (⟨b,c⟩:qj)).bind fun a=>
  jL N K b c a.2.s a.2.w
  else
  some (e,f)
def qa8 (N:Nat) (a:qj) (b:qj):Option qj:=
 (xD a).bind fun c=>
 (xD b).bind fun d=>
 (jL N N c.s c.w d.s d.w).bind fun(e,f)=>
 some (⟨e,f⟩:qj)
theorem qfu (N:Nat) (a:qj) (b:qj) {res:qj} (h:qa8 N a b=some res):qc Tryz.prog (.fn 131) [.agg [.i a.s,nvl (qa .u64) a.w],.agg [.i b.s,nvl (qa .u64) b.w]] [] (.agg [.i res.s,nvl (qa .u64) res.w]) []:=by
 unfold qa8 at h
 refine Goes.fnW Tryz.func131 rfl rfl (m:=23) rfl (rs:=[.cell 4 106]) rfl (l:=[(0,.agg [.i a.s,nvl (qa .u64) a.w]),(1,.agg [.i b.s,nvl (qa .u64) b.w])]) rfl ?_
 refine sg fol (kH []) [.cells [.i a.s,nvl (qa .u64) a.w],.cells [.i b.s,nvl (qa .u64) b.w],bZ] ?_
 obtain⟨f,t,h⟩:=bnd h
 obtain⟨r,u,h⟩:=bnd h
 refine sq (gq fol [1,3,4,5] (kH []) [.cells [.i f.s,nvl (qa .u64) f.w],.cells [.i r.s,nvl (qa .u64) r.w],bZ] (ac (cv (qcl a t)) (ac (cv (qcl b u)) (ac (hs (.run [0] (qw Tryz.prog 106 (.ptr 0 0) (.agg [.i f.s,nvl (qa .u64) f.w])) [.cells [.i a.s,nvl (qa .u64) a.w],.cells [.i b.s,nvl (qa .u64) b.w],bZ] .undef [.cells [.i f.s,nvl (qa .u64) f.w],.cells [.i b.s,nvl (qa .u64) b.w],bZ] true) (zg (n:=2) (by kernel_rfl) rfl rfl rfl rfl (cac rfl (cac nvc can)) rfl)) (ac (hs (.run [1] (qw Tryz.prog 106 (.ptr 1 0) (.agg [.i r.s,nvl (qa .u64) r.w])) [.cells [.i f.s,nvl (qa .u64) f.w],.cells [.i b.s,nvl (qa .u64) b.w],bZ] .undef [.cells [.i f.s,nvl (qa .u64) f.w],.cells [.i r.s,nvl (qa .u64) r.w],bZ] true) (zg (n:=2) (by kernel_rfl) rfl rfl rfl rfl (cac rfl (cac nvc can)) rfl)) az)))) ?_)
 refine sq (Goes.block ?_)
 obtain⟨z,g9,h⟩:=bnd h
 refine Goes.imp (Q:=fun x s'=>(x= .exit 0/\ ∃g j,(g,j)=z/\Sub s' (ofG 23 (kAM (kBm [])),[.cells [.i g,nvl (qa .u64) j],bZ]))) ?_ ?_
 ·refine Goes.loopS (fun M s=> ∃(k:Int) (o:List Int) (d:Int) (e:List Int),s=(ofG 23 (kH []),[.cells [.i k,nvl (qa .u64) o],.cells [.i d,nvl (qa .u64) e],bZ])/\jL N M k o d e=some z) ?_ (m:=N) ⟨_,_,_,_,rfl,g9⟩
  rintro M s ⟨k,o,d,e,rfl,g9⟩
  cases M with
  |zero=>simp only[jL]at g9;cases g9
  |succ M=>
   rw[jL]at g9
   refine sq ?_
   obtain⟨v,p,g9⟩:=bnd g9
   refine sq (gr fol [1] (kH (kBT (!decide (v=0)))) (ac (cv (ym (⟨d,e⟩:qj) p)) az) ?_)
   refine ihB g9 (fun y g9=>?_) (fun y g9=>?_)
   ·refine Goes.skip ?_
    refine Goes.block ?_
    obtain⟨c,q,g9⟩:=bnd g9
    refine sq (gq fol [2,8,9] (kH [(6,.ptr 4 0)]) [.cells [.i k,nvl (qa .u64) o],.cells [.i d,nvl (qa .u64) e],bZ,.cells [.i c.1.s,nvl (qa .u64) c.1.w],.cells [.i c.2.s,nvl (qa .u64) c.2.w]] (ac (cv (xQ N (⟨k,o⟩:qj) (⟨d,e⟩:qj) q)) (ac (hs (.run [3] (qw Tryz.prog 106 (.ptr 3 0) (.agg [.i c.1.s,nvl (qa .u64) c.1.w])) [.cells [.i k,nvl (qa .u64) o],.cells [.i d,nvl (qa .u64) e],bZ,bZ,bZ] .undef [.cells [.i k,nvl (qa .u64) o],.cells [.i d,nvl (qa .u64) e],bZ,.cells [.i c.1.s,nvl (qa .u64) c.1.w],bZ] true) (zg (n:=2) (by kernel_rfl) rfl rfl rfl rfl (cac rfl (cac nvc can)) rfl)) (ac (hs (.run [4] (qw Tryz.prog 106 (.ptr 4 0) (.agg [.i c.2.s,nvl (qa .u64) c.2.w])) [.cells [.i k,nvl (qa .u64) o],.cells [.i d,nvl (qa .u64) e],bZ,.cells [.i c.1.s,nvl (qa .u64) c.1.w],bZ] .undef [.cells [.i k,nvl (qa .u64) o],.cells [.i d,nvl (qa .u64) e],bZ,.cells [.i c.1.s,nvl (qa .u64) c.1.w],.cells [.i c.2.s,nvl (qa .u64) c.2.w]] true) (zg (n:=2) (by kernel_rfl) rfl rfl rfl rfl (cac rfl (cac nvc can)) rfl)) az))) ?_)
    refine gq fol [2,3] (kH []) [.cells [.i d,nvl (qa .u64) e],.cells [.i c.2.s,nvl (qa .u64) c.2.w],bZ,.cells [.i c.1.s,nvl (qa .u64) c.1.w],.cells [.i c.2.s,nvl (qa .u64) c.2.w]] (ac (hs (.run [0] (qw Tryz.prog 106 (.ptr 0 0) (.agg [.i d,nvl (qa .u64) e])) [.cells [.i k,nvl (qa .u64) o],.cells [.i d,nvl (qa .u64) e],bZ,.cells [.i c.1.s,nvl (qa .u64) c.1.w],.cells [.i c.2.s,nvl (qa .u64) c.2.w]] .undef [.cells [.i d,nvl (qa .u64) e],.cells [.i d,nvl (qa .u64) e],bZ,.cells [.i c.1.s,nvl (qa .u64) c.1.w],.cells [.i c.2.s,nvl (qa .u64) c.2.w]] true) (zg (n:=2) (by kernel_rfl) rfl rfl rfl rfl (cac rfl (cac nvc can)) rfl)) (ac (hs (.run [1] (qw Tryz.prog 106 (.ptr 1 0) (.agg [.i c.2.s,nvl (qa .u64) c.2.w])) [.cells [.i d,nvl (qa .u64) e],.cells [.i d,nvl (qa .u64) e],bZ,.cells [.i c.1.s,nvl (qa .u64) c.1.w],.cells [.i c.2.s,nvl (qa .u64) c.2.w]] .undef [.cells [.i d,nvl (qa .u64) e],.cells [.i c.2.s,nvl (qa .u64) c.2.w],bZ,.cells [.i c.1.s,nvl (qa .u64) c.1.w],.cells [.i c.2.s,nvl (qa .u64) c.2.w]] true) (zg (n:=2) (by kernel_rfl) rfl rfl rfl rfl (cac rfl (cac nvc can)) rfl)) az)) ?_
    exact⟨M,(ofG 23 (kH []),[.cells [.i d,nvl (qa .u64) e],.cells [.i c.2.s,nvl (qa .u64) c.2.w],bZ]),Nat.lt_succ_self _,(Sub.norm [] [some 0,some 1,some 2] rfl rfl (.kp (.kp (.kp .nil))) (.kb rfl (.same sn) (.kb rfl (.same sn) (.kb rfl (.same sn) .nil)))),_,_,_,_,rfl,g9⟩
   refine Goes.exit ?_
   obtain rfl:=si g9
   exact⟨rfl,_,_,rfl,(Sub.norm [] [some 0,some 2] rfl rfl (.kp (.drop (.kp .nil))) (.kb rfl (.same sn) (.kb rfl (.same sn) .nil)))⟩
 rintro x s' ⟨rfl,g,j,rfl,hsub⟩
 try dsimp only at h
 refine Goes.sub hsub ?_
 refine sq (gq fol [1] (kBm []) [.cells [.i g,nvl (qa .u64) j],.cells [.i g,nvl (qa .u64) j]] (ac (hs (.run [1] (qw Tryz.prog 106 (.ptr 1 0) (.agg [.i g,nvl (qa .u64) j])) [.cells [.i g,nvl (qa .u64) j],bZ] .undef [.cells [.i g,nvl (qa .u64) j],.cells [.i g,nvl (qa .u64) j]] true) (zg (n:=2) (by kernel_rfl) rfl rfl rfl rfl (cac rfl (cac nvc can)) rfl)) az) ?_)
 refine Goes.ret ?_
 obtain rfl:=si h
 exact(gw2 [.agg [.i g,nvl (qa .u64) j]] (FzW.agg (qg.cons (FzW.still tI) (qg.cons (FzW.still (qF (qa .u64) _ (nl rfl))) qg.nil))))
def zK (b:List Int) (l:Int) (g:Int):Nat->(List Int)->Int->Int->Option ((List Int)×Int)
 |0,_,_,_=>none
 |K+1,h,a,c=>
  if a<(b.length:Int)then
  (idx b a).bind fun i=>
  (bits_Mul64 l i).bind fun d=>
  (idx h (w64 (g+a))).bind fun j=>
  (yC d.2 j 0).bind fun e=>
  (yC e.1 c 0).bind fun f=>
  (put h (w64 (g+a)) f.1).bind fun k=>
  zK b l g K k (w64 (a+1)) (IntKind.wrap .u64 ((IntKind.wrap .u64 (d.1+e.2))+f.2))
  else
  some (h,c)
def zM (N:Nat) (a:List Int) (b:List Int):Nat->(List Int)->Int->Option (List Int)
 |0,_,_=>none
 |K+1,g,c=>
  if c<(a.length:Int)then
  (idx a c).bind fun h=>
  (zK b h c N g 0 0).bind fun(d,e)=>
  (idx d (w64 (c+(b.length:Int)))).bind fun i=>
  (put d (w64 (c+(b.length:Int))) e).bind fun f=>
  zM N a b K f (w64 (c+1))
  else
  some g
def yV (N:Nat) (a:List Int) (b:List Int):Option (List Int):=
 (mk 8 (w64 ((a.length:Int)+(b.length:Int))) 0).bind fun d=>
 (zM N a b N d 0).bind fun e=>
 (vM N e).bind fun c=>
 some c
theorem qey (N:Nat) (a:List Int) (b:List Int) {res:List Int} (h:yV N a b=some res):qc Tryz.prog (.fn 206) [vl (qa .u64) a,vl (qa .u64) b] [] (vl (qa .u64) res) []:=by
 unfold yV at h
 refine Goes.fnW Tryz.func206 rfl rfl (m:=80) rfl (rs:=[.tmp 4]) rfl (l:=[(0,vl (qa .u64) a),(1,vl (qa .u64) b)]) rfl ?_
 refine sh fol [(0,vl (qa .u64) a),(1,vl (qa .u64) b)] ?_
 obtain⟨L,O,h⟩:=bnd h
 refine sq (gq fol [5] ((0,vl (qa .u64) a)::(1,vl (qa .u64) b)::(kG L [])) [.cells (L.flatMap (qa .u64).c)] (ac (hs (.run [] (zD Tryz.prog 104 (.i (w64 ((a.length:Int)+(b.length:Int)))) (.i (w64 ((a.length:Int)+(b.length:Int))))) [] (.slice 0 0 L.length L.length 1) [.cells (L.flatMap (qa .u64).c)] false) (qbU qE (E:=(qa .u64)) (z:=0) rfl (by kernel_rfl) O rfl)) az) ?_)
 refine sq ?_
 refine sh fol ((1,vl (qa .u64) b)::(kG L [(20,vl (qa .u64) a),(21,.i (a.length:Int)),(22,.i 0)])) ?_
 refine Goes.block ?_
 obtain⟨Y,g5,h⟩:=bnd h
 refine Goes.imp (Q:=fun x s'=>(x= .exit 0/\ ∃u,u=Y/\Sub s' (ofG 80 (kG u []),[.cells (u.flatMap (qa .u64).c)]))) ?_ ?_
 ·refine Goes.loopS (fun M s=> ∃(F:List Int) (d:Int),s=(ofG 80 ((1,vl (qa .u64) b)::(kG F ((20,vl (qa .u64) a)::(kAL (a.length:Int) d [])))),[.cells (F.flatMap (qa .u64).c)])/\zM N a b M F d=some Y) ?_ (m:=N) ⟨_,_,rfl,g5⟩
  rintro M s ⟨F,d,rfl,g5⟩
  cases M with
  |zero=>simp only[zM]at g5;cases g5
  |succ M=>
   rw[zM]at g5
   refine sh fol ((1,vl (qa .u64) b)::(kG F ((20,vl (qa .u64) a)::(kAL (a.length:Int) d [(23,.bool (decide (d<(a.length:Int))))])))) ?_
   refine sq ?_
   refine ihD g5 (fun Z g5=>?_) (fun Z g5=>?_)
   ·refine Goes.skip ?_
    refine sq (Goes.block ?_)
    obtain⟨q,G,g5⟩:=bnd g5
    refine sq (gr fol [1,2] ((1,vl (qa .u64) b)::(kG F ((6,.i d)::(kAv q ((20,vl (qa .u64) a)::(kAL (a.length:Int) d [])))))) (ac (iv qE (qa .u64) G) (ac (lv 0 zm (qa .u64) G rfl) az)) ?_)
    refine sh fol ((1,vl (qa .u64) b)::(kG F ((6,.i d)::(kAv q (kB8 ((20,vl (qa .u64) a)::(kAL (a.length:Int) d []))))))) ?_
    refine sq ?_
    refine sh fol ((1,vl (qa .u64) b)::(kG F ((6,.i d)::(kAv q (kB8 ((20,vl (qa .u64) a)::(kAL (a.length:Int) d [(27,vl (qa .u64) b),(28,.i (b.length:Int)),(29,.i 0)]))))))) ?_
    refine Goes.block ?_
    obtain⟨P,g13,g5⟩:=bnd g5
    refine Goes.imp (Q:=fun x s'=>(x= .exit 2/\ ∃k v,(k,v)=P/\Sub s' (ofG 80 ((1,vl (qa .u64) b)::(kG k ((6,.i d)::(8,.int .u64 v)::(20,vl (qa .u64) a)::(kAL (a.length:Int) d [])))),[.cells (k.flatMap (qa .u64).c)]))) ?_ ?_
    ·refine Goes.loopS (fun M s=> ∃(j:List Int) (e:Int) (n:Int),s=(ofG 80 ((1,vl (qa .u64) b)::(kG j ((6,.i d)::(kAO q n ((20,vl (qa .u64) a)::(kAL (a.length:Int) d ((27,vl (qa .u64) b)::(kBH (b.length:Int) e)))))))),[.cells (j.flatMap (qa .u64).c)])/\zK b q d M j e n=some P) ?_ (m:=N) ⟨_,_,_,rfl,g13⟩
     rintro M s ⟨j,e,n,rfl,g13⟩
     cases M with
     |zero=>simp only[zK]at g13;cases g13
     |succ M=>
      rw[zK]at g13
      refine sh fol ((1,vl (qa .u64) b)::(kG j ((6,.i d)::(kAO q n ((20,vl (qa .u64) a)::(kAL (a.length:Int) d [(27,vl (qa .u64) b),(28,.i (b.length:Int)),(29,.i e),(30,.bool (decide (e<(b.length:Int))))])))))) ?_
      refine sq ?_
      refine ihD g13 (fun X g13=>?_) (fun X g13=>?_)
      ·refine Goes.skip ?_
       refine sq (Goes.block ?_)
       obtain⟨U,w,g13⟩:=bnd g13
       refine sq (gr fol [1,2] ((1,vl (qa .u64) b)::(kG j ((6,.i d)::(kAO q n ((9,.i e)::(10,.int .u64 U)::(20,vl (qa .u64) a)::(kAL (a.length:Int) d ((27,vl (qa .u64) b)::(kBH (b.length:Int) e)))))))) (ac (iv qE (qa .u64) w) (ac (lv 0 zm (qa .u64) w rfl) az)) ?_)
       obtain⟨f,H,g13⟩:=bnd g13
       refine sq (gr fol [2] ((1,vl (qa .u64) b)::(kG j ((6,.i d)::(kAO q n ((9,.i e)::(kAN f.1 f.2 ((20,vl (qa .u64) a)::(kAL (a.length:Int) d ((27,vl (qa .u64) b)::(kBH (b.length:Int) e)))))))))) (ac (cv (qaf q U H)) az) ?_)
       refine sh fol ((1,vl (qa .u64) b)::(kG j ((6,.i d)::(kAO q n ((9,.i e)::(kAN f.1 f.2 ((20,vl (qa .u64) a)::(kAL (a.length:Int) d ((27,vl (qa .u64) b)::(kBH (b.length:Int) e)))))))))) ?_
       obtain⟨V,o,g13⟩:=bnd g13
       obtain⟨g,I,g13⟩:=bnd g13
       refine sq (gr fol [5,6,7] ((1,vl (qa .u64) b)::(kG j ((6,.i d)::(kAO q n ((9,.i e)::(kAN f.1 g.1 ((13,.int .u64 g.2)::(20,vl (qa .u64) a)::(kAL (a.length:Int) d ((27,vl (qa .u64) b)::(kBH (b.length:Int) e)))))))))) (ac (hs (.done (.opt (qd Tryz.prog 104 (.slice 0 0 j.length j.length 1) (.i (w64 (d+e))))) (.ptr 0 ((w64 (d+e):Int).toNat*1+0))) (y7 qE o)) (ac (hs (.run [0] (zB Tryz.prog 212 (.ptr 0 ((w64 (d+e):Int).toNat*1+0))) [.cells (j.flatMap (qa .u64).c)] (.int .u64 V) [.cells (j.flatMap (qa .u64).c)] false) (qa1 zm (E:=(qa .u64)) (l:=j) rfl rfl o (nl rfl) rfl)) (ac (cv (qaS f.2 V 0 I)) az))) ?_)
       refine sh fol ((1,vl (qa .u64) b)::(kG j ((6,.i d)::(kAO q n ((9,.i e)::(kAN (IntKind.wrap .u64 (f.1+g.2)) g.1 ((20,vl (qa .u64) a)::(kAL (a.length:Int) d ((27,vl (qa .u64) b)::(kBH (b.length:Int) e)))))))))) ?_
       obtain⟨p,J,g13⟩:=bnd g13
       refine sq (gr fol [2] ((1,vl (qa .u64) b)::(kG j ((6,.i d)::(kAv q ((9,.i e)::(kAN (IntKind.wrap .u64 (f.1+g.2)) p.1 ((13,.int .u64 p.2)::(20,vl (qa .u64) a)::(kAL (a.length:Int) d ((27,vl (qa .u64) b)::(kBH (b.length:Int) e)))))))))) (ac (cv (qaS g.1 n 0 J)) az) ?_)
       obtain⟨r,A,g13⟩:=bnd g13
       refine gq fol [8,9] ((1,vl (qa .u64) b)::(kG j ((6,.i d)::(kAO q (IntKind.wrap .u64 ((IntKind.wrap .u64 (f.1+g.2))+p.2)) ((20,vl (qa .u64) a)::(kAL (a.length:Int) d ((27,vl (qa .u64) b)::(kBH (b.length:Int) e)))))))) [.cells (r.flatMap (qa .u64).c)] (ac (hs (.done (.opt (qd Tryz.prog 104 (.slice 0 0 j.length j.length 1) (.i (w64 (d+e))))) (.ptr 0 ((w64 (d+e):Int).toNat*1+0))) (y7 qE o)) (ac (hs (.run [0] (qw Tryz.prog 212 (.ptr 0 ((w64 (d+e):Int).toNat*1+0)) (.int .u64 p.1)) [.cells (j.flatMap (qa .u64).c)] .undef [.cells (r.flatMap (qa .u64).c)] true) (yL (E:=(qa .u64)) (l:=j) (y:=p.1) rfl (show _=some 1 by kernel_rfl) rfl o rfl rfl rfl rfl rfl A rfl)) az)) ?_
       refine Goes.sub (show Sub (ofG 80 ((1,vl (qa .u64) b)::(kG j ((6,.i d)::(kAO q (IntKind.wrap .u64 ((IntKind.wrap .u64 (f.1+g.2))+p.2)) ((20,vl (qa .u64) a)::(kAL (a.length:Int) d ((27,vl (qa .u64) b)::(kBH (b.length:Int) e)))))))),[.cells (r.flatMap (qa .u64).c)]) (ofG 80 ((1,vl (qa .u64) b)::(kG r ((6,.i d)::(kAO q (IntKind.wrap .u64 ((IntKind.wrap .u64 (f.1+g.2))+p.2)) ((20,vl (qa .u64) a)::(kAL (a.length:Int) d ((27,vl (qa .u64) b)::(kBH (b.length:Int) e)))))))),[.cells (r.flatMap (qa .u64).c)])from(Sub.norm [] [some 0] rfl rfl (.keep (.same (qf (qa .u64) _)) (.keep (.sliceE rfl (jA A)) (.keep (.same nI) (.keep (.same nI) (.keep (.same nI) (.keep (.same (qf (qa .u64) _)) (.keep (.same nI) (.keep (.same nI) (.keep (.same (qf (qa .u64) _)) (.keep (.same nI) (.keep (.same nI) .nil))))))))))) (.ks .nil))) ?_
       refine gh fol ((1,vl (qa .u64) b)::(kG r ((6,.i d)::(kAO q (IntKind.wrap .u64 ((IntKind.wrap .u64 (f.1+g.2))+p.2)) ((20,vl (qa .u64) a)::(kAL (a.length:Int) d ((27,vl (qa .u64) b)::(kBH (b.length:Int) (w64 (e+1)))))))))) ?_
       exact⟨M,(ofG 80 ((1,vl (qa .u64) b)::(kG r ((6,.i d)::(kAO q (IntKind.wrap .u64 ((IntKind.wrap .u64 (f.1+g.2))+p.2)) ((20,vl (qa .u64) a)::(kAL (a.length:Int) d ((27,vl (qa .u64) b)::(kBH (b.length:Int) (w64 (e+1)))))))))),[.cells (r.flatMap (qa .u64).c)]),Nat.lt_succ_self _,(Sub.refl _),_,_,_,rfl,g13⟩
      refine Goes.exit ?_
      obtain rfl:=si g13
      exact⟨rfl,_,_,rfl,(Sub.keep [1,5,6,8,20,21,22] rfl rfl)⟩
    rintro x s' ⟨rfl,k,v,rfl,hsub⟩
    try dsimp only at g5
    refine Goes.sub hsub ?_
    obtain⟨a0,B,g5⟩:=bnd g5
    obtain⟨t,C,g5⟩:=bnd g5
    refine gq fol [6,7] ((1,vl (qa .u64) b)::(kG k ((20,vl (qa .u64) a)::(kAL (a.length:Int) d [])))) [.cells (t.flatMap (qa .u64).c)] (ac (hs (.done (.opt (qd Tryz.prog 104 (.slice 0 0 k.length k.length 1) (.i (w64 (d+(b.length:Int)))))) (.ptr 0 ((w64 (d+(b.length:Int)):Int).toNat*1+0))) (y7 qE B)) (ac (hs (.run [0] (qw Tryz.prog 212 (.ptr 0 ((w64 (d+(b.length:Int)):Int).toNat*1+0)) (.int .u64 v)) [.cells (k.flatMap (qa .u64).c)] .undef [.cells (t.flatMap (qa .u64).c)] true) (yL (E:=(qa .u64)) (l:=k) (y:=v) rfl (show _=some 1 by kernel_rfl) rfl B rfl rfl rfl rfl rfl C rfl)) az)) ?_
    refine Goes.sub (show Sub (ofG 80 ((1,vl (qa .u64) b)::(kG k ((20,vl (qa .u64) a)::(kAL (a.length:Int) d [])))),[.cells (t.flatMap (qa .u64).c)]) (ofG 80 ((1,vl (qa .u64) b)::(kG t ((20,vl (qa .u64) a)::(kAL (a.length:Int) d [])))),[.cells (t.flatMap (qa .u64).c)])from(Sub.norm [] [some 0] rfl rfl (.keep (.same (qf (qa .u64) _)) (.keep (.sliceE rfl (jA C)) (.keep (.same (qf (qa .u64) _)) (.keep (.same nI) (.keep (.same nI) .nil))))) (.ks .nil))) ?_
    refine gh fol ((1,vl (qa .u64) b)::(kG t ((20,vl (qa .u64) a)::(kAL (a.length:Int) (w64 (d+1)) [])))) ?_
    exact⟨M,(ofG 80 ((1,vl (qa .u64) b)::(kG t ((20,vl (qa .u64) a)::(kAL (a.length:Int) (w64 (d+1)) [])))),[.cells (t.flatMap (qa .u64).c)]),Nat.lt_succ_self _,(Sub.refl _),_,_,rfl,g5⟩
   refine Goes.exit ?_
   obtain rfl:=si g5
   exact⟨rfl,_,rfl,(Sub.keep [5] rfl rfl)⟩
 rintro x s' ⟨rfl,u,rfl,hsub⟩
 refine Goes.sub hsub ?_
 obtain⟨D,K,h⟩:=bnd h
 refine sq (gq fol [1] [(4,vl (qa .u64) D)] [.frozen (u.flatMap (qa .u64).c)] (ac (hs (.callF 215 [.slice 0 0 u.length u.length 1] [.cells (u.flatMap (qa .u64).c)] [0] [vl (qa .u64) u] (vl (qa .u64) D)) (xw (FzL.cons (Fz.sl (E:=(qa .u64)) rfl rfl (nl rfl)) FzL.nil) (vQ N u K) (qp (qa .u64) _ (nl rfl)))) az) ?_)
 refine Goes.sub (show Sub (ofG 80 [(4,vl (qa .u64) D)],[.frozen (u.flatMap (qa .u64).c)]) (ofG 80 [(4,vl (qa .u64) D)],[])from(Sub.norm [] [] rfl rfl (.keep (.same (qf (qa .u64) _)) .nil) .nil)) ?_
 refine Goes.ret ?_
 obtain rfl:=si h
 exact(gw2 [vl (qa .u64) D] (FzW.still (qp (qa .u64) _ (nl rfl))))
def zl (N:Nat) (a:qj) (b:qj):Option qj:=
 (if a.w.isEmpty=true then
 some b.w.isEmpty
 else
 some false:Option Bool).bind fun j=>
 ((if j=true then
 (qaQ a.s).bind fun k=>
 (qaQ b.s).bind fun l=>
 (bits_Mul64 k l).bind fun e=>
 (if e.1=0 then
 some (decide (e.2<=9223372036854775807))
 else
 some false:Option Bool).bind fun f=>
 if f=true then
 if(!((decide (a.s<0))==(decide (b.s<0))))=true then
 some (.inr (⟨w64 (0-(w64 e.2)),[]⟩:qj))
 else
 some (.inr (⟨w64 e.2,[]⟩:qj))
 else
 some (.inl ())
 else
 some (.inl ()):Option (Unit⊕qj))).bind (fun
 |(.inl ())=>
 (qB a).bind fun c=>
 (qB b).bind fun d=>
 (yV N c.2 d.2).bind fun g=>
 (z8 (!(c.1==d.1)) g).bind fun h=>
 some h
 |(.inr i)=>
 some i)
theorem qa0 (N:Nat) (a:qj) (b:qj) {res:qj} (h:zl N a b=some res):qc Tryz.prog (.fn 150) [.agg [.i a.s,nvl (qa .u64) a.w],.agg [.i b.s,nvl (qa .u64) b.w]] [] (.agg [.i res.s,nvl (qa .u64) res.w]) []:=by
 unfold zl at h
 refine Goes.fnW Tryz.func150 rfl rfl (m:=66) rfl (rs:=[.cell 4 106]) rfl (l:=[(0,.agg [.i a.s,nvl (qa .u64) a.w]),(1,.agg [.i b.s,nvl (qa .u64) b.w])]) rfl ?_
 refine sg fol (kH []) [.cells [.i a.s,nvl (qa .u64) a.w],.cells [.i b.s,nvl (qa .u64) b.w],bZ] ?_
 refine sq ?_
 refine sq ?_
 obtain⟨G,d,h⟩:=bnd h
 refine Goes.cut (s':=(ofG 66 (kH [(18,.bool G)]),[.cells [.i a.s,nvl (qa .u64) a.w],.cells [.i b.s,nvl (qa .u64) b.w],bZ])) ?_ ?_
 ·rcases wyB d with⟨y,d⟩|⟨y,d⟩
  ·obtain rfl:=si d
   exact tr fol [2,3,6] (kH [(18,.bool b.w.isEmpty)]) (ac (hs (.done (.opt (qU Tryz.prog .eql 104 (.tmp 12) (.const (.slice none 0 0)) (nvl (qa .u64) a.w) .nilslice)) (.bool a.w.isEmpty)) (xh jR)) (ac (gw y) (ac (hs (.done (.opt (qU Tryz.prog .eql 104 (.tmp 16) (.const (.slice none 0 0)) (nvl (qa .u64) b.w) .nilslice)) (.bool b.w.isEmpty)) (xh jR)) az)))
  obtain rfl:=si d
  exact tr fol [2,3] (kH [(18,.bool false)]) (ac (hs (.done (.opt (qU Tryz.prog .eql 104 (.tmp 12) (.const (.slice none 0 0)) (nvl (qa .u64) a.w) .nilslice)) (.bool a.w.isEmpty)) (xh jR)) (ac (gw y) az))
 obtain⟨F,g4,h⟩:=bnd h
 refine Goes.imp (Q:=fun x s'=>(x= .normal/\(.inl ())=F/\Sub s' (ofG 66 (kH []),[.cells [.i a.s,nvl (qa .u64) a.w],.cells [.i b.s,nvl (qa .u64) b.w],bZ]))\/(x= .ret/\ ∃z,(.inr z)=F/\jJ Tryz.prog [.cell 4 106] (.agg [.i z.s,nvl (qa .u64) z.w]) .ret s')) ?_ ?_
 ·refine ihB g4 (fun H g4=>?_) (fun H g4=>?_)
  ·obtain⟨I,t,g4⟩:=bnd g4
   obtain⟨J,u,g4⟩:=bnd g4
   obtain⟨g,v,g4⟩:=bnd g4
   refine sq (gr fol [2,5,6] (kH ((5,.int .u64 g.1)::(kAe g.2 []))) (ac (cv (qcm a.s t)) (ac (cv (qcm b.s u)) (ac (cv (qaf I J v)) az))) ?_)
   refine sq ?_
   obtain⟨A,c,g4⟩:=bnd g4
   refine Goes.cut (s':=(ofG 66 (kH (kAe g.2 [(34,.bool A)])),[.cells [.i a.s,nvl (qa .u64) a.w],.cells [.i b.s,nvl (qa .u64) b.w],bZ])) ?_ ?_
   ·rcases wyD c with⟨k,c⟩|⟨k,c⟩
    ·obtain rfl:=si c
     exact tr fol [2] (kH (kAe g.2 [(34,.bool (decide (g.2<=9223372036854775807)))])) (ac (gw k) az)
    obtain rfl:=si c
    exact tr fol [2] (kH (kAe g.2 [(34,.bool false)])) (ac (gw k) az)
   refine ihB g4 (fun B g4=>?_) (fun B g4=>?_)
   ·refine sq ?_
    refine sh fol (kAU (kAe g.2 [(41,.bool (!((decide (a.s<0))==(decide (b.s<0)))))])) ?_
    refine ihB g4 (fun C g4=>?_) (fun C g4=>?_)
    ·refine sg fol (kAU []) (.cells [.i a.s,nvl (qa .u64) a.w]:: .cells [.i b.s,nvl (qa .u64) b.w]::(kBP (w64 (0-(w64 g.2))))) ?_
     refine Goes.ret ?_
     obtain rfl:=si g4
     exact Or.inr (⟨rfl,_,rfl,(gw2 [.agg [.i (w64 (0-(w64 g.2))),.nilslice]] (FzW.agg (qg.cons (FzW.still tI) (qg.cons (FzW.nv0 (E:=(qa .u64))) qg.nil))))⟩)
    refine Goes.skip ?_
    refine sg fol (kAU []) (.cells [.i a.s,nvl (qa .u64) a.w]:: .cells [.i b.s,nvl (qa .u64) b.w]::(kBP (w64 g.2))) ?_
    refine Goes.ret ?_
    obtain rfl:=si g4
    exact Or.inr (⟨rfl,_,rfl,(gw2 [.agg [.i (w64 g.2),.nilslice]] (FzW.agg (qg.cons (FzW.still tI) (qg.cons (FzW.nv0 (E:=(qa .u64))) qg.nil))))⟩)
   refine Goes.skip ?_
   obtain rfl:=si g4
   exact Or.inl (⟨rfl,rfl,(Sub.keep [2,3,4] rfl rfl)⟩)
  refine Goes.skip ?_
  obtain rfl:=si g4
  exact Or.inl (⟨rfl,rfl,(Sub.keep [2,3,4] rfl rfl)⟩)
 rintro x s' (⟨rfl,rfl,hsub⟩|⟨rfl,K,rfl,hret⟩)
 ·try dsimp only at h
  refine Goes.sub hsub ?_
  obtain⟨f,o,h⟩:=bnd h
  refine sq (gr fol [1] ((3,.ptr 1 0)::(kAU [(7,.bool f.1),(8,vl (qa .u64) f.2)])) (ac (cv (ze a o)) az) ?_)
  obtain⟨j,p,h⟩:=bnd h
  refine sq (gr fol [1] (kAU [(7,.bool f.1),(8,vl (qa .u64) f.2),(9,.bool j.1),(10,vl (qa .u64) j.2)]) (ac (cv (ze b p)) az) ?_)
  obtain⟨D,q,h⟩:=bnd h
  obtain⟨e,r,h⟩:=bnd h
  refine sq (gq fol [5,6,7] (kAU []) [.cells [.i a.s,nvl (qa .u64) a.w],.cells [.i b.s,nvl (qa .u64) b.w],.cells [.i e.s,nvl (qa .u64) e.w]] (ac (cv (qey N f.2 j.2 q)) (ac (cv (yG (!(f.1==j.1)) D r)) (ac (hs (.run [2] (qw Tryz.prog 106 (.ptr 2 0) (.agg [.i e.s,nvl (qa .u64) e.w])) [.cells [.i a.s,nvl (qa .u64) a.w],.cells [.i b.s,nvl (qa .u64) b.w],bZ] .undef [.cells [.i a.s,nvl (qa .u64) a.w],.cells [.i b.s,nvl (qa .u64) b.w],.cells [.i e.s,nvl (qa .u64) e.w]] true) (zg (n:=2) (by kernel_rfl) rfl rfl rfl rfl (cac rfl (cac nvc can)) rfl)) az))) ?_)
  refine Goes.ret ?_
  obtain rfl:=si h
  exact(gw2 [.agg [.i e.s,nvl (qa .u64) e.w]] (FzW.agg (qg.cons (FzW.still tI) (qg.cons (FzW.still (qF (qa .u64) _ (nl rfl))) qg.nil))))
 try dsimp only at h
 obtain rfl:=si h
 exact hret
def jd (N:Nat):Nat->Int->(List Int)->Int->(List Int)->Int->Option (Int×(List Int))
 |0,_,_,_,_,_=>none
 |K+1,e,f,h,i,g=>
  if g>0 then
  ((((if(qy .i64 g 1)=1 then
  (zl N (⟨h,i⟩:qj) (⟨e,f⟩:qj)).bind fun a=>
  some (a.s,a.w)
  else
  some (h,i):Option (Int×(List Int)))).bind fun(b,c)=>
  if g>1 then
  (zl N (⟨e,f⟩:qj) (⟨e,f⟩:qj)).bind fun d=>
  some (d.s,d.w,b,c)
  else
  some (e,f,b,c):Option (Int×(List Int)×Int×(List Int)))).bind fun(j,k,l,m)=>
  jd N K j k l m (qo .i64 g 1)
  else
  some (h,i)
def qai (N:Nat) (a:qj) (k:Int):Option qj:=
 (qau 1).bind fun b=>
 (jd N N a.s a.w b.s b.w k).bind fun(c,d)=>
 some (⟨c,d⟩:qj)
theorem qfN (N:Nat) (a:qj) (k:Int) {res:qj} (h:qai N a k=some res):qc Tryz.prog (.fn 158) [.agg [.i a.s,nvl (qa .u64) a.w],.i k] [] (.agg [.i res.s,nvl (qa .u64) res.w]) []:=by
 unfold qai at h
 refine Goes.fnW Tryz.func158 rfl rfl (m:=23) rfl (rs:=[.cell 4 106]) rfl (l:=[(0,.agg [.i a.s,nvl (qa .u64) a.w]),(1,.i k)]) rfl ?_
 refine sg fol ((1,.i k)::(kAM (kBm []))) [.cells [.i a.s,nvl (qa .u64) a.w],bZ] ?_
 obtain⟨z,A,h⟩:=bnd h
 refine sq (gq fol [0,2] ((1,.i k)::(kAM (kAt []))) [.cells [.i a.s,nvl (qa .u64) a.w],bZ,.cells [.i z.s,nvl (qa .u64) z.w]] (ac (cv (xA 1 A)) (ac (hs (.run [2] (qw Tryz.prog 106 (.ptr 2 0) (.agg [.i z.s,nvl (qa .u64) z.w])) [.cells [.i a.s,nvl (qa .u64) a.w],bZ,bZ] .undef [.cells [.i a.s,nvl (qa .u64) a.w],bZ,.cells [.i z.s,nvl (qa .u64) z.w]] true) (zg (n:=2) (by kernel_rfl) rfl rfl rfl rfl (cac rfl (cac nvc can)) rfl)) az)) ?_)
 refine sq (Goes.block ?_)
 obtain⟨I,g9,h⟩:=bnd h
 refine Goes.imp (Q:=fun x s'=>(x= .exit 0/\ ∃o p,(o,p)=I/\Sub s' (ofG 23 (kY (kBx [])),[bZ,.cells [.i o,nvl (qa .u64) p]]))) ?_ ?_
 ·refine Goes.loopS (fun M s=> ∃(g:Int) (j:List Int) (B:Int) (C:List Int) (b:Int),s=(ofG 23 ((1,.i b)::(kAM (kAt []))),[.cells [.i g,nvl (qa .u64) j],bZ,.cells [.i B,nvl (qa .u64) C]])/\jd N M g j B C b=some I) ?_ (m:=N) ⟨_,_,_,_,_,rfl,g9⟩
  rintro M s ⟨g,j,B,C,b,rfl,g9⟩
  cases M with
  |zero=>simp only[jd]at g9;cases g9
  |succ M=>
   rw[jd]at g9
   refine sq ?_
   refine sh fol ((1,.i b)::(kAM (kAt (kAz (decide (b>0)))))) ?_
   refine ihD g9 (fun D g9=>?_) (fun D g9=>?_)
   ·refine Goes.skip ?_
    refine sq ?_
    obtain⟨E,g15,g9⟩:=bnd g9
    refine Goes.imp (Q:=fun x s'=>(x= .normal/\ ∃q r t u,(q,r,t,u)=E/\Sub s' (ofG 23 ((1,.i b)::(kAM (kAt []))),[.cells [.i q,nvl (qa .u64) r],bZ,.cells [.i t,nvl (qa .u64) u]]))) ?_ ?_
    ·refine Goes.block ?_
     refine sq ?_
     refine sh fol ((1,.i b)::(kAM (kAt (kBT (decide ((qy .i64 b 1)=1)))))) ?_
     obtain⟨F,g18,g15⟩:=bnd g15
     refine Goes.imp (Q:=fun x s'=>(x= .normal/\ ∃c d,(c,d)=F/\Sub s' (ofG 23 ((1,.i b)::(kAM (kAt []))),[.cells [.i g,nvl (qa .u64) j],bZ,.cells [.i c,nvl (qa .u64) d]]))) ?_ ?_
     ·refine ihD g18 (fun G g18=>?_) (fun G g18=>?_)
      ·obtain⟨e,v,g18⟩:=bnd g18
       refine gq fol [2,3] ((1,.i b)::(kAM (kAt []))) [.cells [.i g,nvl (qa .u64) j],bZ,.cells [.i e.s,nvl (qa .u64) e.w]] (ac (cv (qa0 N (⟨B,C⟩:qj) (⟨g,j⟩:qj) v)) (ac (hs (.run [2] (qw Tryz.prog 106 (.ptr 2 0) (.agg [.i e.s,nvl (qa .u64) e.w])) [.cells [.i g,nvl (qa .u64) j],bZ,.cells [.i B,nvl (qa .u64) C]] .undef [.cells [.i g,nvl (qa .u64) j],bZ,.cells [.i e.s,nvl (qa .u64) e.w]] true) (zg (n:=2) (by kernel_rfl) rfl rfl rfl rfl (cac rfl (cac nvc can)) rfl)) az)) ?_
       obtain rfl:=si g18
       exact⟨rfl,_,_,rfl,(Sub.refl _)⟩
      refine Goes.skip ?_
      obtain rfl:=si g18
      exact⟨rfl,_,_,rfl,(Sub.keep [1,2,4,5] rfl rfl)⟩
     rintro x s' ⟨rfl,c,d,rfl,hsub⟩
     try dsimp only at g15
     refine Goes.sub hsub ?_
     refine sh fol ((1,.i b)::(kAM (kAt [(18,.bool (decide (b>1)))]))) ?_
     refine ihD g15 (fun H g15=>?_) (fun H g15=>?_)
     ·obtain⟨f,y,g15⟩:=bnd g15
      refine gq fol [2,3] ((1,.i b)::(kAM (kAt []))) [.cells [.i f.s,nvl (qa .u64) f.w],bZ,.cells [.i c,nvl (qa .u64) d]] (ac (cv (qa0 N (⟨g,j⟩:qj) (⟨g,j⟩:qj) y)) (ac (hs (.run [0] (qw Tryz.prog 106 (.ptr 0 0) (.agg [.i f.s,nvl (qa .u64) f.w])) [.cells [.i g,nvl (qa .u64) j],bZ,.cells [.i c,nvl (qa .u64) d]] .undef [.cells [.i f.s,nvl (qa .u64) f.w],bZ,.cells [.i c,nvl (qa .u64) d]] true) (zg (n:=2) (by kernel_rfl) rfl rfl rfl rfl (cac rfl (cac nvc can)) rfl)) az)) ?_
      obtain rfl:=si g15
      exact⟨rfl,_,_,_,_,rfl,(Sub.refl _)⟩
     refine Goes.skip ?_
     obtain rfl:=si g15
     exact⟨rfl,_,_,_,_,rfl,(Sub.keep [1,2,4,5] rfl rfl)⟩
    rintro x s' ⟨rfl,q,r,t,u,rfl,hsub⟩
    try dsimp only at g9
    refine Goes.sub hsub ?_
    refine gh fol ((1,.i (qo .i64 b 1))::(kAM (kAt []))) ?_
    exact⟨M,(ofG 23 ((1,.i (qo .i64 b 1))::(kAM (kAt []))),[.cells [.i q,nvl (qa .u64) r],bZ,.cells [.i t,nvl (qa .u64) u]]),Nat.lt_succ_self _,(Sub.refl _),_,_,_,_,_,rfl,g9⟩
   refine Goes.exit ?_
   obtain rfl:=si g9
   exact⟨rfl,_,_,rfl,(Sub.norm [] [some 1,some 2] rfl rfl (.drop (.drop (.kp (.kp .nil)))) (.kb rfl (.same sn) (.kb rfl (.same sn) .nil)))⟩
 rintro x s' ⟨rfl,o,p,rfl,hsub⟩
 try dsimp only at h
 refine Goes.sub hsub ?_
 refine sq (gq fol [1] (kY []) [.cells [.i o,nvl (qa .u64) p],.cells [.i o,nvl (qa .u64) p]] (ac (hs (.run [0] (qw Tryz.prog 106 (.ptr 0 0) (.agg [.i o,nvl (qa .u64) p])) [bZ,.cells [.i o,nvl (qa .u64) p]] .undef [.cells [.i o,nvl (qa .u64) p],.cells [.i o,nvl (qa .u64) p]] true) (zg (n:=2) (by kernel_rfl) rfl rfl rfl rfl (cac rfl (cac nvc can)) rfl)) az) ?_)
 refine Goes.ret ?_
 obtain rfl:=si h
 exact(gw2 [.agg [.i o,nvl (qa .u64) p]] (FzW.agg (qg.cons (FzW.still tI) (qg.cons (FzW.still (qF (qa .u64) _ (nl rfl))) qg.nil))))
def strings_HasPrefix (b:Str) (a:Str):Option Bool:=
 (stringslite_HasPrefix b a).bind fun c=>
 some c
theorem qb8 (b:Str) (a:Str) {res:Bool} (h:strings_HasPrefix b a=some res):qc Tryz.prog (.fn 185) (kAR b a) [] (.bool res) []:=by
 unfold strings_HasPrefix at h
 refine Goes.fnW Tryz.func185 rfl rfl (m:=8) rfl (rs:=[.tmp 4]) rfl (l:=(kJ b a [])) rfl ?_
 refine sh fol (kJ b a []) ?_
 obtain⟨d,c,h⟩:=bnd h
 refine sq (gr fol [2] (kAl d) (ac (cv (vo b a c)) az) ?_)
 refine Goes.ret ?_
 obtain rfl:=si h
 exact(gw2 [.bool d] (FzW.still tB))
def stringslite_TrimPrefix (b:Str) (a:Str):Option Str:=
 (stringslite_HasPrefix b a).bind fun c=>
 if c=true then
 (cut b (a.length:Int) (b.length:Int)).bind fun d=>
 some d
 else
 some b
theorem qa2 (b:Str) (a:Str) {res:Str} (h:stringslite_TrimPrefix b a=some res):qc Tryz.prog (.fn 227) (kAR b a) [] (.str res) []:=by
 unfold stringslite_TrimPrefix at h
 refine Goes.fnW Tryz.func227 rfl rfl (m:=13) rfl (rs:=[.tmp 4]) rfl (l:=(kJ b a [])) rfl ?_
 refine sh fol (kJ b a []) ?_
 refine sq ?_
 obtain⟨f,c,h⟩:=bnd h
 refine sq (gr fol [2] (kJ b a [(7,.bool f)]) (ac (cv (vo b a c)) az) ?_)
 refine ihB h (fun g h=>?_) (fun g h=>?_)
 ·obtain⟨e,d,h⟩:=bnd h
  refine sq (gr fol [3] (kBb e) (ac (hs (.done (.opt (qP Tryz.prog 9 (.str b) (some (.i (a.length:Int))) none none)) (.str e)) (zR st9 (some (a.length:Int)) none d)) az) ?_)
  refine Goes.ret ?_
  obtain rfl:=si h
  exact(gw2 [.str e] (FzW.still tS))
 refine Goes.skip ?_
 refine sh fol (kBb b) ?_
 refine Goes.ret ?_
 obtain rfl:=si h
 exact(gw2 [.str b] (FzW.still tS))
def strings_TrimPrefix (b:Str) (a:Str):Option Str:=
 (stringslite_TrimPrefix b a).bind fun c=>
 some c
theorem xX (b:Str) (a:Str) {res:Str} (h:strings_TrimPrefix b a=some res):qc Tryz.prog (.fn 186) (kAR b a) [] (.str res) []:=by
 unfold strings_TrimPrefix at h
 refine Goes.fnW Tryz.func186 rfl rfl (m:=8) rfl (rs:=[.tmp 4]) rfl (l:=(kJ b a [])) rfl ?_
 refine sh fol (kJ b a []) ?_
 obtain⟨d,c,h⟩:=bnd h
 refine sq (gr fol [2] (kBb d) (ac (cv (qa2 b a c)) az) ?_)
 refine Goes.ret ?_
 obtain rfl:=si h
 exact(gw2 [.str d] (FzW.still tS))
def vT (N:Nat):Nat->Int->(List Int)->Str->Option (Int×(List Int))
 |0,_,_,_=>none
 |K+1,j,k,a=>
  if(a.length:Int)>0 then
  (cut a 0 (if(a.length:Int)<18 then(a.length:Int)else 18)).bind fun c=>
  (qhC c).bind fun d=>
  (qau 10).bind fun e=>
  (qai N e (if(a.length:Int)<18 then(a.length:Int)else 18)).bind fun f=>
  (zl N (⟨j,k⟩:qj) f).bind fun g=>
  (qau d.1).bind fun h=>
  (vP N g h).bind fun b=>
  (cut a (if(a.length:Int)<18 then(a.length:Int)else 18) (a.length:Int)).bind fun i=>
  vT N K b.s b.w i
  else
  some (j,k)
def xP (N:Nat) (b:Str):Option qj:=
 (strings_HasPrefix b [45]).bind fun e=>
 (strings_TrimPrefix b [45]).bind fun f=>
 (vT N N 0 [] f).bind fun(c,d)=>
 if e=true then
 (zh (⟨c,d⟩:qj)).bind fun a=>
 some a
 else
 some (⟨c,d⟩:qj)
theorem qaq (N:Nat) (g:Str) {res:qj} (h:xP N g=some res):qc Tryz.prog (.fn 132) [.str g] [] (.agg [.i res.s,nvl (qa .u64) res.w]) []:=by
 unfold xP at h
 refine Goes.fnW Tryz.func132 rfl rfl (m:=41) rfl (rs:=[.cell 2 106]) rfl (l:=(kAQ g [])) rfl ?_
 refine sg fol (kAQ g (kAM [])) [bZ] ?_
 obtain⟨f,z,h⟩:=bnd h
 refine sq (gr fol [1] (kAB g f []) (ac (cv (qb8 g [45] z)) az) ?_)
 obtain⟨K,A,h⟩:=bnd h
 refine sq (gr fol [1] (kAB K f []) (ac (cv (xX g [45] A)) az) ?_)
 refine sg fol (kAB K f (kBm [])) [bZ,bZ] ?_
 refine sq (Goes.block ?_)
 obtain⟨L,g8,h⟩:=bnd h
 refine Goes.imp (Q:=fun x s'=>(x= .exit 0/\ ∃d e,(d,e)=L/\Sub s' (ofG 41 (kAM ((3,.bool f)::(kBm []))),[bZ,.cells [.i d,nvl (qa .u64) e]]))) ?_ ?_
 ·refine Goes.loopS (fun M s=> ∃(B:Int) (C:List Int) (a:Str),s=(ofG 41 (kAB a f (kBm [])),[bZ,.cells [.i B,nvl (qa .u64) C]])/\vT N M B C a=some L) ?_ (m:=N) ⟨_,_,_,rfl,g8⟩
  rintro M s ⟨B,C,a,rfl,g8⟩
  cases M with
  |zero=>simp only[vT]at g8;cases g8
  |succ M=>
   rw[vT]at g8
   refine sq ?_
   refine sh fol (kAB a f (kBm (kBa (decide ((a.length:Int)>0))))) ?_
   refine ihD g8 (fun O g8=>?_) (fun O g8=>?_)
   ·refine Goes.skip ?_
    refine Goes.block ?_
    refine sh fol (kAB a f (kBm (kA5 (if(a.length:Int)<18 then(a.length:Int)else 18)))) ?_
    obtain⟨D,j,g8⟩:=bnd g8
    obtain⟨E,k,g8⟩:=bnd g8
    refine sq (gr fol [2,3] (kAB a f (kBm (kBf (if(a.length:Int)<18 then(a.length:Int)else 18) E.1 []))) (ac (hs (.done (.opt (qP Tryz.prog 9 (.str a) none (some (.i (if(a.length:Int)<18 then(a.length:Int)else 18))) none)) (.str D)) (zR st9 none (some (if(a.length:Int)<18 then(a.length:Int)else 18)) j)) (ac (cv (qk5 D k)) az)) ?_)
    obtain⟨F,o,g8⟩:=bnd g8
    obtain⟨G,p,g8⟩:=bnd g8
    obtain⟨H,q,g8⟩:=bnd g8
    obtain⟨I,r,g8⟩:=bnd g8
    obtain⟨b,t,g8⟩:=bnd g8
    refine sq (gq fol [1,3,4,6,7,8] (kAB a f (kBm (kA5 (if(a.length:Int)<18 then(a.length:Int)else 18)))) [bZ,.cells [.i b.s,nvl (qa .u64) b.w]] (ac (cv (xA 10 o)) (ac (cv (qfN N F (if(a.length:Int)<18 then(a.length:Int)else 18) p)) (ac (cv (qa0 N (⟨B,C⟩:qj) G q)) (ac (cv (xA E.1 r)) (ac (cv (qaZ N H I t)) (ac (hs (.run [1] (qw Tryz.prog 106 (.ptr 1 0) (.agg [.i b.s,nvl (qa .u64) b.w])) [bZ,.cells [.i B,nvl (qa .u64) C]] .undef [bZ,.cells [.i b.s,nvl (qa .u64) b.w]] true) (zg (n:=2) (by kernel_rfl) rfl rfl rfl rfl (cac rfl (cac nvc can)) rfl)) az)))))) ?_)
    obtain⟨u,v,g8⟩:=bnd g8
    refine gr fol [2] (kAB u f (kBm [])) (ac (hs (.done (.opt (qP Tryz.prog 9 (.str a) (some (.i (if(a.length:Int)<18 then(a.length:Int)else 18))) none none)) (.str u)) (zR st9 (some (if(a.length:Int)<18 then(a.length:Int)else 18)) none v)) az) ?_
    exact⟨M,(ofG 41 (kAB u f (kBm [])),[bZ,.cells [.i b.s,nvl (qa .u64) b.w]]),Nat.lt_succ_self _,(Sub.refl _),_,_,_,rfl,g8⟩
   refine Goes.exit ?_
   obtain rfl:=si g8
   exact⟨rfl,_,_,rfl,(Sub.keep [2,3,4] rfl rfl)⟩
 rintro x s' ⟨rfl,d,e,rfl,hsub⟩
 try dsimp only at h
 refine Goes.sub hsub ?_
 refine sq ?_
 refine sh fol (kAM (kBm [(37,.bool f)])) ?_
 refine ihB h (fun J h=>?_) (fun J h=>?_)
 ·obtain⟨c,y,h⟩:=bnd h
  refine sq (gq fol [1,2] (kAM []) [.cells [.i c.s,nvl (qa .u64) c.w],.cells [.i d,nvl (qa .u64) e]] (ac (cv (jO (⟨d,e⟩:qj) y)) (ac (hs (.run [0] (qw Tryz.prog 106 (.ptr 0 0) (.agg [.i c.s,nvl (qa .u64) c.w])) [bZ,.cells [.i d,nvl (qa .u64) e]] .undef [.cells [.i c.s,nvl (qa .u64) c.w],.cells [.i d,nvl (qa .u64) e]] true) (zg (n:=2) (by kernel_rfl) rfl rfl rfl rfl (cac rfl (cac nvc can)) rfl)) az)) ?_)
  refine Goes.ret ?_
  obtain rfl:=si h
  exact(gw2 [.agg [.i c.s,nvl (qa .u64) c.w]] (FzW.agg (qg.cons (FzW.still tI) (qg.cons (FzW.still (qF (qa .u64) _ (nl rfl))) qg.nil))))
 refine Goes.skip ?_
 refine sq (gq fol [1] (kAM []) [.cells [.i d,nvl (qa .u64) e],.cells [.i d,nvl (qa .u64) e]] (ac (hs (.run [0] (qw Tryz.prog 106 (.ptr 0 0) (.agg [.i d,nvl (qa .u64) e])) [bZ,.cells [.i d,nvl (qa .u64) e]] .undef [.cells [.i d,nvl (qa .u64) e],.cells [.i d,nvl (qa .u64) e]] true) (zg (n:=2) (by kernel_rfl) rfl rfl rfl rfl (cac rfl (cac nvc can)) rfl)) az) ?_)
 refine Goes.ret ?_
 obtain rfl:=si h
 exact(gw2 [.agg [.i d,nvl (qa .u64) e]] (FzW.agg (qg.cons (FzW.still tI) (qg.cons (FzW.still (qF (qa .u64) _ (nl rfl))) qg.nil))))
def qao (N:Nat) (a:qj) (b:qj):Option Int:=
 (if a.w.isEmpty=true then
 some b.w.isEmpty
 else
 some false:Option Bool).bind fun c=>
 if c=true then
 if a.s<b.s then
 some (-1)
 else
 if a.s>b.s then
 some 1
 else
 some 0
 else
 (vV N a b).bind fun d=>
 (qV d).bind fun e=>
 some e
theorem qfe (N:Nat) (a:qj) (b:qj) {res:Int} (h:qao N a b=some res):qc Tryz.prog (.fn 133) [.agg [.i a.s,nvl (qa .u64) a.w],.agg [.i b.s,nvl (qa .u64) b.w]] [] (.i res) []:=by
 unfold qao at h
 refine Goes.fnW Tryz.func133 rfl rfl (m:=29) rfl (rs:=[.tmp 4]) rfl (l:=[(0,.agg [.i a.s,nvl (qa .u64) a.w]),(1,.agg [.i b.s,nvl (qa .u64) b.w])]) rfl ?_
 refine sg fol (kR []) [.cells [.i a.s,nvl (qa .u64) a.w],.cells [.i b.s,nvl (qa .u64) b.w]] ?_
 refine sq ?_
 refine sq ?_
 obtain⟨j,c,h⟩:=bnd h
 refine Goes.cut (s':=(ofG 29 (kR (kBU j)),[.cells [.i a.s,nvl (qa .u64) a.w],.cells [.i b.s,nvl (qa .u64) b.w]])) ?_ ?_
 ·rcases wyB c with⟨f,c⟩|⟨f,c⟩
  ·obtain rfl:=si c
   exact tr fol [2,3,6] (kR (kBU b.w.isEmpty)) (ac (hs (.done (.opt (qU Tryz.prog .eql 104 (.tmp 6) (.const (.slice none 0 0)) (nvl (qa .u64) a.w) .nilslice)) (.bool a.w.isEmpty)) (xh jR)) (ac (gw f) (ac (hs (.done (.opt (qU Tryz.prog .eql 104 (.tmp 10) (.const (.slice none 0 0)) (nvl (qa .u64) b.w) .nilslice)) (.bool b.w.isEmpty)) (xh jR)) az)))
  obtain rfl:=si c
  exact tr fol [2,3] (kR [(12,.bool false)]) (ac (hs (.done (.opt (qU Tryz.prog .eql 104 (.tmp 6) (.const (.slice none 0 0)) (nvl (qa .u64) a.w) .nilslice)) (.bool a.w.isEmpty)) (xh jR)) (ac (gw f) az))
 refine ihB h (fun k h=>?_) (fun k h=>?_)
 ·refine sq (Goes.block ?_)
  refine sh fol (kR (kBT (decide (a.s<b.s)))) ?_
  refine ihD h (fun n h=>?_) (fun n h=>?_)
  ·refine sh fol [(4,.i (-1))] ?_
   refine Goes.ret ?_
   obtain rfl:=si h
   exact(gw2 [.i (-1)] (FzW.still tI))
  refine sh fol [(19,.bool (decide (a.s>b.s)))] ?_
  refine ihD h (fun o h=>?_) (fun o h=>?_)
  ·refine sh fol [(4,.i 1)] ?_
   refine Goes.ret ?_
   obtain rfl:=si h
   exact(gw2 [.i 1] (FzW.still tI))
  refine Goes.skip ?_
  refine sh fol [(4,.i 0)] ?_
  refine Goes.ret ?_
  obtain rfl:=si h
  exact(gw2 [.i 0] (FzW.still tI))
 refine Goes.skip ?_
 obtain⟨p,d,h⟩:=bnd h
 obtain⟨g,e,h⟩:=bnd h
 refine sq (gr fol [2,3] (kB7 g) (ac (cv (qcE N a b d)) (ac (cv (ym p e)) az)) ?_)
 refine Goes.ret ?_
 obtain rfl:=si h
 exact(gw2 [.i g] (FzW.still tI))
def xE (N:Nat) (a:Str):Option Int:=
 (strings_CutPrefix a [45]).bind fun r=>
 (strings_Cut r.1 [47]).bind fun b=>
 ((zU b.1).bind fun t=>
 if t=true then
 if(!r.2)=true then
 some true
 else
 some (!(b.1==[48]))
 else
 some false:Option Bool).bind fun s=>
 ((if b.2.2=true then
 (if s=true then
 (zU b.2.1).bind fun g=>
 if g=true then
 if(!(b.2.1==[48]))=true then
 some (!(b.2.1==[49]))
 else
 some false
 else
 some false
 else
 some false:Option Bool).bind fun h=>
 some h
 else
 some s:Option Bool)).bind fun u=>
 ((kV (!u) 1).bind fun c=>
 if(b.1.length:Int)>600 then
 (kV true 4).bind fun d=>
 (vg N ([c,d]:List Int)).bind fun i=>
 some (c,d,i)
 else
 (kV (decide ((b.2.1.length:Int)>600)) 4).bind fun e=>
 (vg N ([c,e]:List Int)).bind fun j=>
 some (c,e,j):Option (Int×Int×Int)).bind fun(v,w,f)=>
 if(!decide (f=0))=true then
 some f
 else
 (if b.2.2=true then
 (xP N b.1).bind fun k=>
 (xP N b.2.1).bind fun l=>
 (qa8 N k l).bind fun m=>
 (qau 1).bind fun n=>
 (qao N m n).bind fun o=>
 some (!decide (o=0))
 else
 some false:Option Bool).bind fun p=>
 (kV p 1).bind fun q=>
 some q
theorem qeF (N:Nat) (a:Str) {res:Int} (h:xE N a=some res):qc Tryz.prog (.fn 56) [.str a] [] (.i res) []:=by
 unfold xE at h
 refine Goes.fnW Tryz.func56 rfl rfl (m:=76) rfl (rs:=[.tmp 2]) rfl (l:=(kAQ a [])) rfl ?_
 refine sh fol (kAQ a []) ?_
 obtain⟨V,H,h⟩:=bnd h
 refine sq (gr fol [1] ((3,.str V.1)::(kAl V.2)) (ac (cv (qcx a [45] H)) az) ?_)
 obtain⟨e,I,h⟩:=bnd h
 refine sq (gr fol [1] ((4,.bool V.2)::(kAX e.1 e.2.1 e.2.2 [])) (ac (cv (qcf V.1 [47] I)) az) ?_)
 refine sq ?_
 obtain⟨b6,f,h⟩:=bnd h
 refine Goes.cut (s':=(ofG 76 (kAX e.1 e.2.1 e.2.2 (kAz b6)),[])) ?_ ?_
 ·obtain⟨r3,k,f⟩:=bnd f
  rcases wyB f with⟨X,f⟩|⟨X,f⟩
  ·rcases wyB f with⟨Y,f⟩|⟨Y,f⟩
   ·obtain rfl:=si f
    exact tr fol [1,2,5] (kAX e.1 e.2.1 e.2.2 [(8,.bool true)]) (ac (cv (zH e.1 k)) (ac (gw X) (ac (gw Y) az)))
   obtain rfl:=si f
   exact tr fol [1,2,5] (kAX e.1 e.2.1 e.2.2 (kAz (!(e.1==[48])))) (ac (cv (zH e.1 k)) (ac (gw X) (ac (gw Y) az)))
  obtain rfl:=si f
  exact tr fol [1,2] (kAX e.1 e.2.1 e.2.2 kBI) (ac (cv (zH e.1 k)) (ac (gw X) az))
 refine sq ?_
 refine sh fol (kAX e.1 e.2.1 e.2.2 [(8,.bool b6),(32,.bool e.2.2)]) ?_
 obtain⟨r9,g9,h⟩:=bnd h
 refine Goes.imp (Q:=fun x s'=>(x= .normal/\ ∃J,J=r9/\Sub s' (ofG 76 (kAX e.1 e.2.1 e.2.2 (kAz J)),[]))) ?_ ?_
 ·refine ihB g9 (fun Z g9=>?_) (fun Z g9=>?_)
  ·obtain⟨a0,c,g9⟩:=bnd g9
   refine Goes.cut (s':=(ofG 76 (kAX e.1 e.2.1 e.2.2 (kAz a0)),[])) ?_ ?_
   ·rcases wyB c with⟨n,c⟩|⟨n,c⟩
    ·obtain⟨r12,j,c⟩:=bnd c
     rcases wyB c with⟨q,c⟩|⟨q,c⟩
     ·rcases wyB c with⟨t,c⟩|⟨t,c⟩
      ·obtain rfl:=si c
       exact tr fol [1,3,5,9] (kAX e.1 e.2.1 e.2.2 (kAz (!(e.2.1==[49])))) (ac (gw n) (ac (cv (zH e.2.1 j)) (ac (gw q) (ac (gw t) az))))
      obtain rfl:=si c
      exact tr fol [1,3,5,9] (kAX e.1 e.2.1 e.2.2 kBI) (ac (gw n) (ac (cv (zH e.2.1 j)) (ac (gw q) (ac (gw t) az))))
     obtain rfl:=si c
     exact tr fol [1,3,5] (kAX e.1 e.2.1 e.2.2 kBI) (ac (gw n) (ac (cv (zH e.2.1 j)) (ac (gw q) az)))
    obtain rfl:=si c
    exact tr fol [1] (kAX e.1 e.2.1 e.2.2 kBI) (ac (gw n) az)
   obtain rfl:=si g9
   exact⟨rfl,_,rfl,(Sub.refl _)⟩
  refine Goes.skip ?_
  obtain rfl:=si g9
  exact⟨rfl,_,rfl,(Sub.keep [5,6,7,8] rfl rfl)⟩
 rintro x s' ⟨rfl,J,rfl,hsub⟩
 refine Goes.sub hsub ?_
 refine sq ?_
 refine sq ?_
 obtain⟨⟨K,L,o⟩,b,h⟩:=bnd h
 refine Goes.cut (s':=(ofG 76 (kAX e.1 e.2.1 e.2.2 [(9,.i o)]),(kAE K L))) ?_ ?_
 ·obtain⟨g,p,b⟩:=bnd b
  rcases wyD b with⟨u,b⟩|⟨u,b⟩
  ·obtain⟨r,v,b⟩:=bnd b
   obtain⟨M,w,b⟩:=bnd b
   simp only[ZI,ZP]at b
   obtain⟨rfl,rfl,rfl⟩:=b
   exact yO.rq fol [2,6,11,13] (kAX e.1 e.2.1 e.2.2 [(9,.i M)]) (kAE g r) (ac (cv (yI (!J) 1 p)) (ac (gw u) (ac (cv (yI true 4 v)) (ac (hs (.call 79 [.slice 0 0 2 2 1] (kAE g r) [0] [vl encI ([g,r]:List Int)] (.i M)) (qjf (FzL.cons (Fz.lit rfl rfl (FzL.still (AllST.cons tI (AllST.cons tI AllST.nil)))) FzL.nil) (qb6 N ([g,r]:List Int) w) tI rfl)) az))))
  obtain⟨s,y,b⟩:=bnd b
  obtain⟨O,z,b⟩:=bnd b
  simp only[ZI,ZP]at b
  obtain⟨rfl,rfl,rfl⟩:=b
  exact yO.rq fol [2,6,11,13] (kAX e.1 e.2.1 e.2.2 [(9,.i O)]) (kAE g s) (ac (cv (yI (!J) 1 p)) (ac (gw u) (ac (cv (yI (decide ((e.2.1.length:Int)>600)) 4 y)) (ac (hs (.call 79 [.slice 0 0 2 2 1] (kAE g s) [0] [vl encI ([g,s]:List Int)] (.i O)) (qjf (FzL.cons (Fz.lit rfl rfl (FzL.still (AllST.cons tI (AllST.cons tI AllST.nil)))) FzL.nil) (qb6 N ([g,s]:List Int) z) tI rfl)) az))))
 try dsimp only at h
 refine sh fol (kAX e.1 e.2.1 e.2.2 [(9,.i o),(61,.bool (!decide (o=0)))]) ?_
 refine ihB h (fun a1 h=>?_) (fun a1 h=>?_)
 ·refine sh fol (kBM o) ?_
  refine Goes.ret ?_
  obtain rfl:=si h
  exact(gw2 [.i o] (FzW.still tI))
 refine Goes.skip ?_
 refine sq ?_
 obtain⟨P,d,h⟩:=bnd h
 refine Goes.cut (s':=(ofG 76 (kBV P),(kAE K L))) ?_ ?_
 ·rcases wyB d with⟨A,d⟩|⟨A,d⟩
  ·obtain⟨a2,B,d⟩:=bnd d
   obtain⟨a3,C,d⟩:=bnd d
   obtain⟨a4,D,d⟩:=bnd d
   obtain⟨a5,E,d⟩:=bnd d
   obtain⟨a6,F,d⟩:=bnd d
   obtain rfl:=si d
   exact tr fol [1,3,5,6,7,8] (kBV (!decide (a6=0))) (ac (gw A) (ac (cv (qaq N e.1 B)) (ac (cv (qaq N e.2.1 C)) (ac (cv (qfu N a2 a3 D)) (ac (cv (xA 1 E)) (ac (cv (qfe N a4 a5 F)) az))))))
  obtain rfl:=si d
  exact tr fol [1] [(10,.bool false)] (ac (gw A) az)
 obtain⟨U,G,h⟩:=bnd h
 refine sq (gr fol [1] (kBM U) (ac (cv (yI P 1 G)) az) ?_)
 refine Goes.ret ?_
 obtain rfl:=si h
 exact(gw2 [.i U] (FzW.still tI))
def jD (N:Nat) (a:qj) (b:qj):Option qj:=
 (qV b).bind fun f=>
 ((if f<0 then
 (zh a).bind fun d=>
 (zh b).bind fun e=>
 some (d.s,d.w,e.s,e.w)
 else
 some (a.s,a.w,b.s,b.w):Option (Int×(List Int)×Int×(List Int)))).bind fun(g,h,i,j)=>
 (zq N (⟨g,h⟩:qj) (⟨i,j⟩:qj)).bind fun c=>
 some c.1
theorem qcG (N:Nat) (a:qj) (b:qj) {res:qj} (h:jD N a b=some res):qc Tryz.prog (.fn 161) [.agg [.i a.s,nvl (qa .u64) a.w],.agg [.i b.s,nvl (qa .u64) b.w]] [] (.agg [.i res.s,nvl (qa .u64) res.w]) []:=by
 unfold jD at h
 refine Goes.fnW Tryz.func161 rfl rfl (m:=21) rfl (rs:=[.cell 4 106]) rfl (l:=[(0,.agg [.i a.s,nvl (qa .u64) a.w]),(1,.agg [.i b.s,nvl (qa .u64) b.w])]) rfl ?_
 refine sg fol (kH []) [.cells [.i a.s,nvl (qa .u64) a.w],.cells [.i b.s,nvl (qa .u64) b.w],bZ] ?_
 refine sq ?_
 obtain⟨t,p,h⟩:=bnd h
 refine sq (gr fol [1] (kH [(9,.bool (decide (t<0)))]) (ac (cv (ym b p)) az) ?_)
 obtain⟨u,g6,h⟩:=bnd h
 refine Goes.imp (Q:=fun x s'=>(x= .normal/\ ∃d e f g,(d,e,f,g)=u/\Sub s' (ofG 21 (kH []),[.cells [.i d,nvl (qa .u64) e],.cells [.i f,nvl (qa .u64) g],bZ]))) ?_ ?_
 ·refine ihD g6 (fun v g6=>?_) (fun v g6=>?_)
  ·obtain⟨j,q,g6⟩:=bnd g6
   obtain⟨o,r,g6⟩:=bnd g6
   refine gq fol [1,3,4,5] (kH []) [.cells [.i j.s,nvl (qa .u64) j.w],.cells [.i o.s,nvl (qa .u64) o.w],bZ] (ac (cv (jO a q)) (ac (cv (jO b r)) (ac (hs (.run [0] (qw Tryz.prog 106 (.ptr 0 0) (.agg [.i j.s,nvl (qa .u64) j.w])) [.cells [.i a.s,nvl (qa .u64) a.w],.cells [.i b.s,nvl (qa .u64) b.w],bZ] .undef [.cells [.i j.s,nvl (qa .u64) j.w],.cells [.i b.s,nvl (qa .u64) b.w],bZ] true) (zg (n:=2) (by kernel_rfl) rfl rfl rfl rfl (cac rfl (cac nvc can)) rfl)) (ac (hs (.run [1] (qw Tryz.prog 106 (.ptr 1 0) (.agg [.i o.s,nvl (qa .u64) o.w])) [.cells [.i j.s,nvl (qa .u64) j.w],.cells [.i b.s,nvl (qa .u64) b.w],bZ] .undef [.cells [.i j.s,nvl (qa .u64) j.w],.cells [.i o.s,nvl (qa .u64) o.w],bZ] true) (zg (n:=2) (by kernel_rfl) rfl rfl rfl rfl (cac rfl (cac nvc can)) rfl)) az)))) ?_
   obtain rfl:=si g6
   exact⟨rfl,_,_,_,_,rfl,(Sub.refl _)⟩
  refine Goes.skip ?_
  obtain rfl:=si g6
  exact⟨rfl,_,_,_,_,rfl,(Sub.keep [2,3,4] rfl rfl)⟩
 rintro x s' ⟨rfl,d,e,f,g,rfl,hsub⟩
 try dsimp only at h
 refine Goes.sub hsub ?_
 obtain⟨c,k,h⟩:=bnd h
 refine sq (gq fol [2,8,9] (kAU (kBc [])) [.cells [.i d,nvl (qa .u64) e],.cells [.i f,nvl (qa .u64) g],bZ,.cells [.i c.1.s,nvl (qa .u64) c.1.w],.cells [.i c.2.s,nvl (qa .u64) c.2.w]] (ac (cv (xQ N (⟨d,e⟩:qj) (⟨f,g⟩:qj) k)) (ac (hs (.run [3] (qw Tryz.prog 106 (.ptr 3 0) (.agg [.i c.1.s,nvl (qa .u64) c.1.w])) [.cells [.i d,nvl (qa .u64) e],.cells [.i f,nvl (qa .u64) g],bZ,bZ,bZ] .undef [.cells [.i d,nvl (qa .u64) e],.cells [.i f,nvl (qa .u64) g],bZ,.cells [.i c.1.s,nvl (qa .u64) c.1.w],bZ] true) (zg (n:=2) (by kernel_rfl) rfl rfl rfl rfl (cac rfl (cac nvc can)) rfl)) (ac (hs (.run [4] (qw Tryz.prog 106 (.ptr 4 0) (.agg [.i c.2.s,nvl (qa .u64) c.2.w])) [.cells [.i d,nvl (qa .u64) e],.cells [.i f,nvl (qa .u64) g],bZ,.cells [.i c.1.s,nvl (qa .u64) c.1.w],bZ] .undef [.cells [.i d,nvl (qa .u64) e],.cells [.i f,nvl (qa .u64) g],bZ,.cells [.i c.1.s,nvl (qa .u64) c.1.w],.cells [.i c.2.s,nvl (qa .u64) c.2.w]] true) (zg (n:=2) (by kernel_rfl) rfl rfl rfl rfl (cac rfl (cac nvc can)) rfl)) az))) ?_)
 refine sq (gq fol [1] (kAU []) [.cells [.i d,nvl (qa .u64) e],.cells [.i f,nvl (qa .u64) g],.cells [.i c.1.s,nvl (qa .u64) c.1.w],.cells [.i c.1.s,nvl (qa .u64) c.1.w],.cells [.i c.2.s,nvl (qa .u64) c.2.w]] (ac (hs (.run [2] (qw Tryz.prog 106 (.ptr 2 0) (.agg [.i c.1.s,nvl (qa .u64) c.1.w])) [.cells [.i d,nvl (qa .u64) e],.cells [.i f,nvl (qa .u64) g],bZ,.cells [.i c.1.s,nvl (qa .u64) c.1.w],.cells [.i c.2.s,nvl (qa .u64) c.2.w]] .undef [.cells [.i d,nvl (qa .u64) e],.cells [.i f,nvl (qa .u64) g],.cells [.i c.1.s,nvl (qa .u64) c.1.w],.cells [.i c.1.s,nvl (qa .u64) c.1.w],.cells [.i c.2.s,nvl (qa .u64) c.2.w]] true) (zg (n:=2) (by kernel_rfl) rfl rfl rfl rfl (cac rfl (cac nvc can)) rfl)) az) ?_)
 refine Goes.ret ?_
 obtain rfl:=si h
 exact(gw2 [.agg [.i c.1.s,nvl (qa .u64) c.1.w]] (FzW.agg (qg.cons (FzW.still tI) (qg.cons (FzW.still (qF (qa .u64) _ (nl rfl))) qg.nil))))
def qcK (N:Nat) (num:qj) (den:qj):Option jQ:=
 (qV den).bind fun k=>
 ((if k<0 then
 (zh num).bind fun i=>
 (zh den).bind fun j=>
 some (i.s,i.w,j.s,j.w)
 else
 some (num.s,num.w,den.s,den.w):Option (Int×(List Int)×Int×(List Int)))).bind fun(d,e,b,c)=>
 (if c.isEmpty=true then
 some (decide (b=1))
 else
 some false:Option Bool).bind fun f=>
 if f=true then
 some (⟨(⟨d,e⟩:qj),(⟨b,c⟩:qj)⟩:jQ)
 else
 (qa8 N (⟨d,e⟩:qj) (⟨b,c⟩:qj)).bind fun a=>
 (jD N (⟨d,e⟩:qj) a).bind fun g=>
 (jD N (⟨b,c⟩:qj) a).bind fun h=>
 some (⟨g,h⟩:jQ)
theorem qiu (N:Nat) (num:qj) (den:qj) {res:jQ} (h:qcK N num den=some res):qc Tryz.prog (.fn 105) [.agg [.i num.s,nvl (qa .u64) num.w],.agg [.i den.s,nvl (qa .u64) den.w]] [] (.agg [.i res.Num.s,nvl (qa .u64) res.Num.w,.i res.Den.s,nvl (qa .u64) res.Den.w]) []:=by
 unfold qcK at h
 refine Goes.fnW Tryz.func105 rfl rfl (m:=34) rfl (rs:=[.cell 4 108]) rfl (l:=[(0,.agg [.i num.s,nvl (qa .u64) num.w]),(1,.agg [.i den.s,nvl (qa .u64) den.w])]) rfl ?_
 refine sg fol (kH []) (.cells [.i num.s,nvl (qa .u64) num.w]:: .cells [.i den.s,nvl (qa .u64) den.w]::(kD [])) ?_
 refine sq ?_
 obtain⟨B,u,h⟩:=bnd h
 refine sq (gr fol [1] (kH (kAz (decide (B<0)))) (ac (cv (ym den u)) az) ?_)
 obtain⟨C,g6,h⟩:=bnd h
 refine Goes.imp (Q:=fun x s'=>(x= .normal/\ ∃e f d b,(e,f,d,b)=C/\Sub s' (ofG 34 (kH []),(.cells [.i e,nvl (qa .u64) f]:: .cells [.i d,nvl (qa .u64) b]::(kD []))))) ?_ ?_
 ·refine ihD g6 (fun D g6=>?_) (fun D g6=>?_)
  ·obtain⟨k,v,g6⟩:=bnd g6
   obtain⟨t,y,g6⟩:=bnd g6
   refine gq fol [1,3,4,5] (kH []) (.cells [.i k.s,nvl (qa .u64) k.w]:: .cells [.i t.s,nvl (qa .u64) t.w]::(kD [])) (ac (cv (jO num v)) (ac (cv (jO den y)) (ac (hs (.run [0] (qw Tryz.prog 106 (.ptr 0 0) (.agg [.i k.s,nvl (qa .u64) k.w])) (.cells [.i num.s,nvl (qa .u64) num.w]:: .cells [.i den.s,nvl (qa .u64) den.w]::(kD [])) .undef (.cells [.i k.s,nvl (qa .u64) k.w]:: .cells [.i den.s,nvl (qa .u64) den.w]::(kD [])) true) (zg (n:=2) (by kernel_rfl) rfl rfl rfl rfl (cac rfl (cac nvc can)) rfl)) (ac (hs (.run [1] (qw Tryz.prog 106 (.ptr 1 0) (.agg [.i t.s,nvl (qa .u64) t.w])) (.cells [.i k.s,nvl (qa .u64) k.w]:: .cells [.i den.s,nvl (qa .u64) den.w]::(kD [])) .undef (.cells [.i k.s,nvl (qa .u64) k.w]:: .cells [.i t.s,nvl (qa .u64) t.w]::(kD [])) true) (zg (n:=2) (by kernel_rfl) rfl rfl rfl rfl (cac rfl (cac nvc can)) rfl)) az)))) ?_
   obtain rfl:=si g6
   exact⟨rfl,_,_,_,_,rfl,(Sub.refl _)⟩
  refine Goes.skip ?_
  obtain rfl:=si g6
  exact⟨rfl,_,_,_,_,rfl,(Sub.keep [2,3,4] rfl rfl)⟩
 rintro x s' ⟨rfl,e,f,d,b,rfl,hsub⟩
 try dsimp only at h
 refine Goes.sub hsub ?_
 refine sq ?_
 refine sq ?_
 obtain⟨z,c,h⟩:=bnd h
 refine Goes.cut (s':=(ofG 34 (kH [(20,.bool z)]),(.cells [.i e,nvl (qa .u64) f]:: .cells [.i d,nvl (qa .u64) b]::(kD [])))) ?_ ?_
 ·rcases wyB c with⟨o,c⟩|⟨o,c⟩
  ·obtain rfl:=si c
   exact tr fol [2,3] (kH [(20,.bool (decide (d=1)))]) (ac (hs (.done (.opt (qU Tryz.prog .eql 104 (.tmp 14) (.const (.slice none 0 0)) (nvl (qa .u64) b) .nilslice)) (.bool b.isEmpty)) (xh jR)) (ac (gw o) az))
  obtain rfl:=si c
  exact tr fol [2,3] (kH [(20,.bool false)]) (ac (hs (.done (.opt (qU Tryz.prog .eql 104 (.tmp 14) (.const (.slice none 0 0)) (nvl (qa .u64) b) .nilslice)) (.bool b.isEmpty)) (xh jR)) (ac (gw o) az))
 refine ihB h (fun A h=>?_) (fun A h=>?_)
 ·refine sq (gq fol [3] (kAU []) [.cells [.i e,nvl (qa .u64) f],.cells [.i d,nvl (qa .u64) b],.cells [.i e,nvl (qa .u64) f,.i d,nvl (qa .u64) b]] (ac (hs (.run [2] (qw Tryz.prog 108 (.ptr 2 0) (.agg [.i e,nvl (qa .u64) f,.i d,nvl (qa .u64) b])) (.cells [.i e,nvl (qa .u64) f]:: .cells [.i d,nvl (qa .u64) b]::(kD [])) .undef [.cells [.i e,nvl (qa .u64) f],.cells [.i d,nvl (qa .u64) b],.cells [.i e,nvl (qa .u64) f,.i d,nvl (qa .u64) b]] true) (zg (n:=4) (by kernel_rfl) rfl rfl rfl rfl (cac rfl (cac nvc (cac rfl (cac nvc can)))) rfl)) az) ?_)
  refine Goes.ret ?_
  obtain rfl:=si h
  exact(gw2 [.agg [.i e,nvl (qa .u64) f,.i d,nvl (qa .u64) b]] (FzW.agg (qg.cons (FzW.still tI) (qg.cons (FzW.still (qF (qa .u64) _ (nl rfl))) (qg.cons (FzW.still tI) (qg.cons (FzW.still (qF (qa .u64) _ (nl rfl))) qg.nil))))))
 refine Goes.skip ?_
 obtain⟨a,p,h⟩:=bnd h
 refine sq (gq fol [2,4] (kH (kBc [])) (.cells [.i e,nvl (qa .u64) f]:: .cells [.i d,nvl (qa .u64) b]::(kD [.cells [.i a.s,nvl (qa .u64) a.w]])) (ac (cv (qfu N (⟨e,f⟩:qj) (⟨d,b⟩:qj) p)) (ac (hs (.run [3] (qw Tryz.prog 106 (.ptr 3 0) (.agg [.i a.s,nvl (qa .u64) a.w])) (.cells [.i e,nvl (qa .u64) f]:: .cells [.i d,nvl (qa .u64) b]::(kD [bZ])) .undef (.cells [.i e,nvl (qa .u64) f]:: .cells [.i d,nvl (qa .u64) b]::(kD [.cells [.i a.s,nvl (qa .u64) a.w]])) true) (zg (n:=2) (by kernel_rfl) rfl rfl rfl rfl (cac rfl (cac nvc can)) rfl)) az)) ?_)
 obtain⟨g,q,h⟩:=bnd h
 obtain⟨j,r,h⟩:=bnd h
 refine sq (gq fol [2,5,7] (kAU []) [.cells [.i e,nvl (qa .u64) f],.cells [.i d,nvl (qa .u64) b],.cells [.i g.s,nvl (qa .u64) g.w,.i j.s,nvl (qa .u64) j.w],.cells [.i a.s,nvl (qa .u64) a.w]] (ac (cv (qcG N (⟨e,f⟩:qj) a q)) (ac (cv (qcG N (⟨d,b⟩:qj) a r)) (ac (hs (.run [2] (qw Tryz.prog 108 (.ptr 2 0) (.agg [.i g.s,nvl (qa .u64) g.w,.i j.s,nvl (qa .u64) j.w])) (.cells [.i e,nvl (qa .u64) f]:: .cells [.i d,nvl (qa .u64) b]::(kD [.cells [.i a.s,nvl (qa .u64) a.w]])) .undef [.cells [.i e,nvl (qa .u64) f],.cells [.i d,nvl (qa .u64) b],.cells [.i g.s,nvl (qa .u64) g.w,.i j.s,nvl (qa .u64) j.w],.cells [.i a.s,nvl (qa .u64) a.w]] true) (zg (n:=4) (by kernel_rfl) rfl rfl rfl rfl (cac rfl (cac nvc (cac rfl (cac nvc can)))) rfl)) az))) ?_)
 refine Goes.ret ?_
 obtain rfl:=si h
 exact(gw2 [.agg [.i g.s,nvl (qa .u64) g.w,.i j.s,nvl (qa .u64) j.w]] (FzW.agg (qg.cons (FzW.still tI) (qg.cons (FzW.still (qF (qa .u64) _ (nl rfl))) (qg.cons (FzW.still tI) (qg.cons (FzW.still (qF (qa .u64) _ (nl rfl))) qg.nil))))))
def qaI (n:qj):Option jQ:=
 (qau 1).bind fun a=>
 some (⟨n,a⟩:jQ)
theorem qdV (n:qj) {res:jQ} (h:qaI n=some res):qc Tryz.prog (.fn 124) [.agg [.i n.s,nvl (qa .u64) n.w]] [] (.agg [.i res.Num.s,nvl (qa .u64) res.Num.w,.i res.Den.s,nvl (qa .u64) res.Den.w]) []:=by
 unfold qaI at h
 refine Goes.fnW Tryz.func124 rfl rfl (m:=6) rfl (rs:=[.cell 2 108]) rfl (l:=[(0,.agg [.i n.s,nvl (qa .u64) n.w])]) rfl ?_
 refine sg fol (kAH []) (.cells [.i n.s,nvl (qa .u64) n.w]::(kD [])) ?_
 obtain⟨a,b,h⟩:=bnd h
 refine sq (gq fol [1,3] kBX [.cells [.i n.s,nvl (qa .u64) n.w],.cells [.i n.s,nvl (qa .u64) n.w,.i a.s,nvl (qa .u64) a.w]] (ac (cv (xA 1 b)) (ac (hs (.run [1] (qw Tryz.prog 108 (.ptr 1 0) (.agg [.i n.s,nvl (qa .u64) n.w,.i a.s,nvl (qa .u64) a.w])) (.cells [.i n.s,nvl (qa .u64) n.w]::(kD [])) .undef [.cells [.i n.s,nvl (qa .u64) n.w],.cells [.i n.s,nvl (qa .u64) n.w,.i a.s,nvl (qa .u64) a.w]] true) (zg (n:=4) (by kernel_rfl) rfl rfl rfl rfl (cac rfl (cac nvc (cac rfl (cac nvc can)))) rfl)) az)) ?_)
 refine Goes.ret ?_
 obtain rfl:=si h
 exact(gw2 [.agg [.i n.s,nvl (qa .u64) n.w,.i a.s,nvl (qa .u64) a.w]] (FzW.agg (qg.cons (FzW.still tI) (qg.cons (FzW.still (qF (qa .u64) _ (nl rfl))) (qg.cons (FzW.still tI) (qg.cons (FzW.still (qF (qa .u64) _ (nl rfl))) qg.nil))))))
def vJ (a:jQ):Option Bool:=
 (if a.Den.w.isEmpty=true then
 some (decide (a.Den.s=1))
 else
 some false:Option Bool).bind fun b=>
 some b
theorem qc0 (a:jQ) {res:Bool} (h:vJ a=some res):qc Tryz.prog (.fn 174) [.agg [.i a.Num.s,nvl (qa .u64) a.Num.w,.i a.Den.s,nvl (qa .u64) a.Den.w]] [] (.bool res) []:=by
 unfold vJ at h
 refine Goes.fnW Tryz.func174 rfl rfl (m:=13) rfl (rs:=[.tmp 2]) rfl (l:=[(0,.agg [.i a.Num.s,nvl (qa .u64) a.Num.w,.i a.Den.s,nvl (qa .u64) a.Den.w])]) rfl ?_
 refine sg fol (kA2 []) [.cells [.i a.Num.s,nvl (qa .u64) a.Num.w,.i a.Den.s,nvl (qa .u64) a.Den.w]] ?_
 refine sq ?_
 obtain⟨d,b,h⟩:=bnd h
 refine Goes.cut (s':=(ofG 13 (kBq d),[.cells [.i a.Num.s,nvl (qa .u64) a.Num.w,.i a.Den.s,nvl (qa .u64) a.Den.w]])) ?_ ?_
 ·rcases wyB b with⟨c,b⟩|⟨c,b⟩
  ·obtain rfl:=si b
   exact tr fol [3,4] (kBq (decide (a.Den.s=1))) (ac (hs (.done (.opt (qU Tryz.prog .eql 104 (.tmp 5) (.const (.slice none 0 0)) (nvl (qa .u64) a.Den.w) .nilslice)) (.bool a.Den.w.isEmpty)) (xh jR)) (ac (gw c) az))
  obtain rfl:=si b
  exact tr fol [3,4] kA7 (ac (hs (.done (.opt (qU Tryz.prog .eql 104 (.tmp 5) (.const (.slice none 0 0)) (nvl (qa .u64) a.Den.w) .nilslice)) (.bool a.Den.w.isEmpty)) (xh jR)) (ac (gw c) az))
 refine Goes.ret ?_
 obtain rfl:=si h
 exact(gw2 [.bool d] (FzW.still tB))
def qcs (N:Nat) (a:Str):Option jQ:=
 (strings_Cut a [47]).bind fun b=>
 if(!b.2.2)=true then
 (xP N b.1).bind fun c=>
 (qaI c).bind fun d=>
 some d
 else
 (xP N b.1).bind fun e=>
 (xP N b.2.1).bind fun f=>
 some (⟨e,f⟩:jQ)
theorem qhv (N:Nat) (a:Str) {res:jQ} (h:qcs N a=some res):qc Tryz.prog (.fn 82) [.str a] [] (.agg [.i res.Num.s,nvl (qa .u64) res.Num.w,.i res.Den.s,nvl (qa .u64) res.Den.w]) []:=by
 unfold qcs at h
 refine Goes.fnW Tryz.func82 rfl rfl (m:=22) rfl (rs:=[.cell 2 108]) rfl (l:=(kAQ a [])) rfl ?_
 refine sg fol (kAQ a (kAM [])) (kD []) ?_
 obtain⟨c,f,h⟩:=bnd h
 refine sq (gr fol [1] (kAM [(3,.str c.1),(4,.str c.2.1),(5,.bool c.2.2)]) (ac (cv (qcf a [47] f)) az) ?_)
 refine sq ?_
 refine sh fol (kAM ((3,.str c.1)::(4,.str c.2.1)::(kBT (!c.2.2)))) ?_
 refine ihB h (fun p h=>?_) (fun p h=>?_)
 ·obtain⟨q,g,h⟩:=bnd h
  obtain⟨b,j,h⟩:=bnd h
  refine sq (gq fol [1,2,3] (kAM []) [.cells [.i b.Num.s,nvl (qa .u64) b.Num.w,.i b.Den.s,nvl (qa .u64) b.Den.w]] (ac (cv (qaq N c.1 g)) (ac (cv (qdV q j)) (ac (hs (.run [0] (qw Tryz.prog 108 (.ptr 0 0) (.agg [.i b.Num.s,nvl (qa .u64) b.Num.w,.i b.Den.s,nvl (qa .u64) b.Den.w])) (kD []) .undef [.cells [.i b.Num.s,nvl (qa .u64) b.Num.w,.i b.Den.s,nvl (qa .u64) b.Den.w]] true) (zg (n:=4) (by kernel_rfl) rfl rfl rfl rfl (cac rfl (cac nvc (cac rfl (cac nvc can)))) rfl)) az))) ?_)
  refine Goes.ret ?_
  obtain rfl:=si h
  exact(gw2 [.agg [.i b.Num.s,nvl (qa .u64) b.Num.w,.i b.Den.s,nvl (qa .u64) b.Den.w]] (FzW.agg (qg.cons (FzW.still tI) (qg.cons (FzW.still (qF (qa .u64) _ (nl rfl))) (qg.cons (FzW.still tI) (qg.cons (FzW.still (qF (qa .u64) _ (nl rfl))) qg.nil))))))
 refine Goes.skip ?_
 obtain⟨d,k,h⟩:=bnd h
 obtain⟨e,o,h⟩:=bnd h
 refine sq (gq fol [1,3,5] (kAM []) [.cells [.i d.s,nvl (qa .u64) d.w,.i e.s,nvl (qa .u64) e.w]] (ac (cv (qaq N c.1 k)) (ac (cv (qaq N c.2.1 o)) (ac (hs (.run [0] (qw Tryz.prog 108 (.ptr 0 0) (.agg [.i d.s,nvl (qa .u64) d.w,.i e.s,nvl (qa .u64) e.w])) (kD []) .undef [.cells [.i d.s,nvl (qa .u64) d.w,.i e.s,nvl (qa .u64) e.w]] true) (zg (n:=4) (by kernel_rfl) rfl rfl rfl rfl (cac rfl (cac nvc (cac rfl (cac nvc can)))) rfl)) az))) ?_)
 refine Goes.ret ?_
 obtain rfl:=si h
 exact(gw2 [.agg [.i d.s,nvl (qa .u64) d.w,.i e.s,nvl (qa .u64) e.w]] (FzW.agg (qg.cons (FzW.still tI) (qg.cons (FzW.still (qF (qa .u64) _ (nl rfl))) (qg.cons (FzW.still tI) (qg.cons (FzW.still (qF (qa .u64) _ (nl rfl))) qg.nil))))))
def xK (a:qj):Option Int:=
 (qB a).bind fun b=>
 if(b.2.length:Int)=0 then
 some 0
 else
 (idx b.2 (w64 ((b.2.length:Int)-1))).bind fun c=>
 (bits_Len64 c).bind fun d=>
 some (w64 ((w64 (64*(w64 ((b.2.length:Int)-1))))+d))
theorem qb0 (a:qj) {res:Int} (h:xK a=some res):qc Tryz.prog (.fn 159) [.agg [.i a.s,nvl (qa .u64) a.w]] [] (.i res) []:=by
 unfold xK at h
 refine Goes.fnW Tryz.func159 rfl rfl (m:=25) rfl (rs:=[.tmp 2]) rfl (l:=[(0,.agg [.i a.s,nvl (qa .u64) a.w])]) rfl ?_
 refine sg fol (kA2 []) [.cells [.i a.s,nvl (qa .u64) a.w]] ?_
 obtain⟨c,d,h⟩:=bnd h
 refine sq (gr fol [1] [(4,vl (qa .u64) c.2)] (ac (cv (ze a d)) az) ?_)
 refine sq ?_
 refine sh fol ((4,vl (qa .u64) c.2)::(kBU (decide ((c.2.length:Int)=0)))) ?_
 refine ihD h (fun g h=>?_) (fun g h=>?_)
 ·refine sh fol kB3 ?_
  refine Goes.ret ?_
  obtain rfl:=si h
  exact(gw2 [.i 0] (FzW.still tI))
 refine Goes.skip ?_
 obtain⟨j,b,h⟩:=bnd h
 obtain⟨f,e,h⟩:=bnd h
 refine sq (gr fol [8,9,10] (kBM (w64 ((w64 (64*(w64 ((c.2.length:Int)-1))))+f))) (ac (iv qE (qa .u64) b) (ac (lv 0 zm (qa .u64) b rfl) (ac (cv (qdh j e)) az))) ?_)
 refine Goes.ret ?_
 obtain rfl:=si h
 exact(gw2 [.i (w64 ((w64 (64*(w64 ((c.2.length:Int)-1))))+f))] (FzW.still tI))
def zG (N:Nat):Nat->(List Str)->(List Int)->Option (List Str)
 |0,_,_=>none
 |K+1,i,j=>
  if(j.length:Int)>0 then
  (xx N j ([1000000000000000000]:List Int)).bind fun b=>
  ((if(b.2.length:Int)>0 then
  (idx b.2 0).bind fun c=>
  (qfA c 10).bind fun d=>
  some d
  else
  some [48]:Option Str)).bind fun a=>
  ((if(b.1.length:Int)>0 then
  (qcS [48] (w64 (18-(a.length:Int)))).bind fun e=>
  (cat e a).bind fun f=>
  some f
  else
  some a:Option Str)).bind fun g=>
  (app 16 i [g]).bind fun h=>
  zG N K h b.1
  else
  some i
def kC (e:List Str):Nat->Bool->(Option (List Int))->Int->Option (Bool×(Option (List Int)))
 |0,_,_,_=>none
 |K+1,ok27,b,a=>
  if a>=0 then
  (idx e a).bind fun c=>
  (bWr ok27 b c).bind fun d=>
  kC e K true (some d) (w64 (a-1))
  else
  some (ok27,b)
def jg (N:Nat) (a:qj):Option Str:=
 if a.w.isEmpty=true then
 (qjV a.s).bind fun h=>
 some h
 else
 (qB a).bind fun f=>
 (zG N N ([]:List Str) f.2).bind fun g=>
 ((if f.1=true then
 (bWr false (none:Option (List Int)) [45]).bind fun b=>
 some (true,(some b))
 else
 some (false,(none:Option (List Int))):Option (Bool×(Option (List Int))))).bind fun(ok21,c)=>
 (kC g N ok21 c (w64 ((g.length:Int)-1))).bind fun(ok30,d)=>
 (qkA ok30 d).bind fun e=>
 some e
theorem yD (N:Nat) (a:qj) {res:Str} (h:jg N a=some res):qc Tryz.prog (.fn 208) [.agg [.i a.s,nvl (qa .u64) a.w]] [] (.str res) []:=by
 unfold jg at h
 refine Goes.fnW Tryz.func208 rfl rfl (m:=69) rfl (rs:=[.tmp 2]) rfl (l:=[(0,.agg [.i a.s,nvl (qa .u64) a.w])]) rfl ?_
 refine sg fol (kA2 []) [.cells [.i a.s,nvl (qa .u64) a.w]] ?_
 refine sq ?_
 refine sq (gr fol [2] (kA2 (kBh a.w.isEmpty)) (ac (hs (.done (.opt (qU Tryz.prog .eql 104 (.tmp 13) (.const (.slice none 0 0)) (nvl (qa .u64) a.w) .nilslice)) (.bool a.w.isEmpty)) (xh jR)) az) ?_)
 refine ihB h (fun c1 h=>?_) (fun c1 h=>?_)
 ·obtain⟨r2,J,h⟩:=bnd h
  refine sq (gr fol [2] (kBs r2) (ac (cv (qmj a.s J)) az) ?_)
  refine Goes.ret ?_
  obtain rfl:=si h
  exact(gw2 [.str r2] (FzW.still tS))
 refine Goes.skip ?_
 obtain⟨d,K,h⟩:=bnd h
 refine sq (gr fol [1] [(3,.bool d.1),(4,vl (qa .u64) d.2)] (ac (cv (ze a K)) az) ?_)
 refine sg fol [(3,.bool d.1),(4,vl (qa .u64) d.2),(5,.slice 1 0 1 1 1)] [.cells [.i a.s,nvl (qa .u64) a.w],.cells [.int .u64 1000000000000000000]] ?_
 refine sh fol [(3,.bool d.1),(4,vl (qa .u64) d.2),(5,.slice 1 0 1 1 1),(6,.nilslice)] ?_
 refine sq (Goes.block ?_)
 obtain⟨r7,g7,h⟩:=bnd h
 refine Goes.imp (Q:=fun x s'=>(x= .exit 0/\ ∃b,b=r7/\Sub s' (ofG 69 ((3,.bool d.1)::(kAS b [])),(kAY b [])))) ?_ ?_
 ·refine Goes.sub (s':=(ofG 69 [(3,.bool d.1),(4,vl (qa .u64) d.2),(5,vl (qa .u64) ([1000000000000000000]:List Int)),(6,.gslice 0 ([]:List Str).length 1)],[.cells (([]:List Str).flatMap encS.c)])) (Sub.norm [1] [none] rfl rfl (.keep (.same nB) (.keep (.same (qf (qa .u64) _)) (.keep (.frz (Fz.lit rfl rfl (FzL.still (AllST.cons tI AllST.nil))) (qf (qa .u64) _)) (.keep .nil .nil)))) (.fresh .nil)) ?_
  refine Goes.loopS (fun M s=> ∃(g:List Str) (I:List Int),s=(ofG 69 ((3,.bool d.1)::(4,vl (qa .u64) I)::(5,vl (qa .u64) ([1000000000000000000]:List Int))::(kAS g [])),(kAY g []))/\zG N M g I=some r7) ?_ (m:=N) ⟨_,_,rfl,g7⟩
  rintro M s ⟨g,I,rfl,g7⟩
  cases M with
  |zero=>simp only[zG]at g7;cases g7
  |succ M=>
   rw[zG]at g7
   refine sq ?_
   refine sh fol ((3,.bool d.1)::(4,vl (qa .u64) I)::(5,vl (qa .u64) ([1000000000000000000]:List Int))::(kAS g [(26,.bool (decide ((I.length:Int)>0)))])) ?_
   refine ihD g7 (fun c8 g7=>?_) (fun c8 g7=>?_)
   ·refine Goes.skip ?_
    refine Goes.block ?_
    obtain⟨j,L,g7⟩:=bnd g7
    refine sq (gr fol [2] ((3,.bool d.1)::(5,vl (qa .u64) ([1000000000000000000]:List Int))::(kAS g [(7,vl (qa .u64) j.1),(8,vl (qa .u64) j.2)])) (ac (cv (qc7 N I ([1000000000000000000]:List Int) L)) az) ?_)
    refine sh fol ((3,.bool d.1)::(5,vl (qa .u64) ([1000000000000000000]:List Int))::(kAS g [(7,vl (qa .u64) j.1),(8,vl (qa .u64) j.2),(9,.str [48])])) ?_
    refine sq ?_
    refine sh fol ((3,.bool d.1)::(5,vl (qa .u64) ([1000000000000000000]:List Int))::(kAS g [(7,vl (qa .u64) j.1),(8,vl (qa .u64) j.2),(9,.str [48]),(35,.bool (decide ((j.2.length:Int)>0)))])) ?_
    obtain⟨U,g11,g7⟩:=bnd g7
    refine Goes.imp (Q:=fun x s'=>(x= .normal/\ ∃p,p=U/\Sub s' (ofG 69 ((3,.bool d.1)::(5,vl (qa .u64) ([1000000000000000000]:List Int))::(kAS g [(7,vl (qa .u64) j.1),(9,.str p)])),(kAY g [])))) ?_ ?_
    ·refine ihD g11 (fun V g11=>?_) (fun V g11=>?_)
     ·obtain⟨X,r,g11⟩:=bnd g11
      obtain⟨Y,z,g11⟩:=bnd g11
      refine gr fol [1,2,3] ((3,.bool d.1)::(5,vl (qa .u64) ([1000000000000000000]:List Int))::(kAS g [(7,vl (qa .u64) j.1),(9,.str Y)])) (ac (iv qE (qa .u64) r) (ac (lv 0 zm (qa .u64) r rfl) (ac (cv (qk3 X 10 z)) az))) ?_
      obtain rfl:=si g11
      exact⟨rfl,_,rfl,(Sub.refl _)⟩
     refine Goes.skip ?_
     obtain rfl:=si g11
     exact⟨rfl,_,rfl,(Sub.keep [3,5,6,7,9] rfl rfl)⟩
    rintro x s' ⟨rfl,p,rfl,hsub⟩
    refine Goes.sub hsub ?_
    refine sq ?_
    refine sh fol ((3,.bool d.1)::(5,vl (qa .u64) ([1000000000000000000]:List Int))::(kAS g [(7,vl (qa .u64) j.1),(9,.str p),(42,.bool (decide ((j.1.length:Int)>0)))])) ?_
    obtain⟨Z,g16,g7⟩:=bnd g7
    refine Goes.imp (Q:=fun x s'=>(x= .normal/\ ∃k,k=Z/\Sub s' (ofG 69 ((3,.bool d.1)::(5,vl (qa .u64) ([1000000000000000000]:List Int))::(kAS g [(7,vl (qa .u64) j.1),(9,.str k)])),(kAY g [])))) ?_ ?_
    ·refine ihD g16 (fun a0 g16=>?_) (fun a0 g16=>?_)
     ·obtain⟨a1,A,g16⟩:=bnd g16
      obtain⟨O,B,g16⟩:=bnd g16
      refine gr fol [3,5] ((3,.bool d.1)::(5,vl (qa .u64) ([1000000000000000000]:List Int))::(kAS g [(7,vl (qa .u64) j.1),(9,.str O)])) (ac (cv (qiG [48] (w64 (18-(p.length:Int))) A)) (ac (hs (.done (.opt (qU Tryz.prog .add 9 (.tmp 46) (.tmp 47) (.str a1) (.str p))) (.str O)) (xU B)) az)) ?_
      obtain rfl:=si g16
      exact⟨rfl,_,rfl,(Sub.refl _)⟩
     refine Goes.skip ?_
     obtain rfl:=si g16
     exact⟨rfl,_,rfl,(Sub.keep [3,5,6,7,9] rfl rfl)⟩
    rintro x s' ⟨rfl,k,rfl,hsub⟩
    refine Goes.sub hsub ?_
    obtain⟨n,C,g7⟩:=bnd g7
    refine sq (gq fol [3] [(3,.bool d.1),(5,vl (qa .u64) ([1000000000000000000]:List Int)),(6,.gslice 2 n.length 1),(7,vl (qa .u64) j.1)] (.dead:: .cells [.str k]::(kAY n [])) (ac (hs (.run [0,1] (yT Tryz.prog [244,244] (.gslice 0 g.length 1) (.slice 1 0 1 1 1)) (kAY g [.cells [.str k]]) (.gslice 2 n.length 1) (.dead:: .cells [.str k]::(kAY n [])) true) (qbJ qnC (E:=encS) rfl (qgu (E:=encS) (ys:=[k]) rfl rfl rfl rfl) (qhX (E:=encS) (l:=g) rfl rfl rfl C rfl))) az) ?_)
    refine gh fol [(3,.bool d.1),(4,vl (qa .u64) j.1),(5,vl (qa .u64) ([1000000000000000000]:List Int)),(6,.gslice 2 n.length 1)] ?_
    exact⟨M,(ofG 69 ((3,.bool d.1)::(4,vl (qa .u64) j.1)::(5,vl (qa .u64) ([1000000000000000000]:List Int))::(kAS n [])),(kAY n [])),Nat.lt_succ_self _,(Sub.norm [] [some 2] rfl rfl (.keep (.same nB) (.keep (.same (qf (qa .u64) _)) (.keep (.same (qf (qa .u64) _)) (.keep (.gslice rfl) .nil)))) (.ks .nil)),_,_,rfl,g7⟩
   refine Goes.exit ?_
   obtain rfl:=si g7
   exact⟨rfl,_,rfl,(Sub.keep [3,6] rfl rfl)⟩
 rintro x s' ⟨rfl,b,rfl,hsub⟩
 refine Goes.sub hsub ?_
 refine sg fol ((3,.bool d.1)::(kAS b (kB2 []))) (kAY b [.bld 197 5 [.nilptr,.nilslice]]) ?_
 refine sq ?_
 refine sh fol (kAS b (kB2 [(54,.bool d.1)])) ?_
 obtain⟨a2,g23,h⟩:=bnd h
 refine Goes.imp (Q:=fun x s'=>(x= .normal/\ ∃ok21 u,(ok21,u)=a2/\Sub s' (ofG 69 (kAS b (kB2 [])),(kAY b [.bld 197 5 [pz ok21 1 0,hsl 2 1 u],.cells ((hof u).flatMap (qa .u8).c)])))) ?_ ?_
 ·refine ihB g23 (fun a3 g23=>?_) (fun a3 g23=>?_)
  ·refine Goes.sub (s':=(ofG 69 (kAS b (kB2 [(54,.bool d.1)])),(kAY b [.bld 197 5 [pz false 1 0,.nilslice]]))) (Sub.norm [] [some 0,some 1] rfl rfl (.keep (.gslice rfl) (.kp (.keep (.same nB) .nil))) (.ks (.kb rfl (.bld (rc (zz.pz0) (rc (.same (qA.nilslice)) rn))) .nil))) ?_
   refine Goes.sub (s':=(ofG 69 (kAS b (kB2 [(54,.bool d.1)])),(kAY b [.bld 197 5 [pz false 1 0,hsl 2 1 (none:Option (List Int))],.cells ((hof (none:Option (List Int))).flatMap (qa .u8).c)]))) (Sub.norm [] [some 0,some 1,none] rfl rfl (.keep (.gslice rfl) (.kp (.keep (.same nB) .nil))) (.ks (.kb rfl (.bld (rc (zz.pz0) (rc .hs0 rn))) (.fresh .nil)))) ?_
   obtain⟨v,D,g23⟩:=bnd g23
   refine gq fol [0] (kAS b (kB2 [])) (kAY b [.bld 197 5 [pz true 1 0,hsl 3 1 (some v)],.dead,.cells ((hof (some v)).flatMap (qa .u8).c)]) (ac (hs (.callH 191 [.ptr 1 0,.str [45]] (kAY b [.bld 197 5 [pz false 1 0,hsl 2 1 (none:Option (List Int))],.cells ((hof (none:Option (List Int))).flatMap (qa .u8).c)]) [1,2] (.tuple [.i (([45].length:Nat):Int),.niliface]) (kAY b [.bld 197 5 [pz true 1 0,hsl 3 1 (some v)],.dead,.cells ((hof (some v)).flatMap (qa .u8).c)])) (qd8 [some 1,some 2] [none,some 0,none,some 2] (qlV false (none:Option (List Int)) [45] D) (.kb rfl (.bld (rc (zz.pz0) (rc .hs0 rn))) (.ks .nil)) rfl rfl (.old rfl rfl (.back rfl rfl (.bld (rc ((zz.pz rfl)) (rc (.hs rfl) rn))) rfl (.dead (.new rfl rfl (.same fa) rfl .nil)))) (rc (.ptr rfl) (rc (.same nS) rn)) (.same (qA.tuple sn)) rfl)) az) ?_
   obtain rfl:=si g23
   exact⟨rfl,_,_,rfl,(Sub.norm [] [some 0,some 1,some 3] rfl rfl (.keep (.gslice rfl) (.kp .nil)) (.ks (.kb rfl (.bld (rc ((zz.pz rfl)) (rc (.hs rfl) rn))) (.ks .nil))))⟩
  refine Goes.skip ?_
  obtain rfl:=si g23
  exact⟨rfl,_,_,rfl,(Sub.norm [] [some 0,some 1,none] rfl rfl (.keep (.gslice rfl) (.kp .nil)) (.ks (.kb rfl (.bld (rc (zz.pz0) (rc .hs0 rn))) (.fresh .nil))))⟩
 rintro x s' ⟨rfl,ok21,u,rfl,hsub⟩
 try dsimp only at h
 refine Goes.sub hsub ?_
 refine sq ?_
 refine sh fol (kAS b (kB2 [(11,.i (w64 ((b.length:Int)-1)))])) ?_
 refine Goes.block ?_
 obtain⟨P,g32,h⟩:=bnd h
 refine Goes.imp (Q:=fun x s'=>(x= .exit 2/\ ∃ok30 o,(ok30,o)=P/\Sub s' (ofG 69 [(10,.ptr 0 0)],[.bld 197 5 [pz ok30 0 0,hsl 1 1 o],.cells ((hof o).flatMap (qa .u8).c)]))) ?_ ?_
 ·refine Goes.loopS (fun M s=> ∃(ok27:Bool) (e:Option (List Int)) (f:Int),s=(ofG 69 (kAS b (kB2 [(11,.i f)])),(kAY b [.bld 197 5 [pz ok27 1 0,hsl 2 1 e],.cells ((hof e).flatMap (qa .u8).c)]))/\kC b M ok27 e f=some P) ?_ (m:=N) ⟨_,_,_,rfl,g32⟩
  rintro M s ⟨ok27,e,f,rfl,g32⟩
  cases M with
  |zero=>simp only[kC]at g32;cases g32
  |succ M=>
   rw[kC]at g32
   refine sq ?_
   refine sh fol (kAS b (kB2 [(11,.i f),(60,.bool (decide (f>=0)))])) ?_
   refine ihD g32 (fun a4 g32=>?_) (fun a4 g32=>?_)
   ·refine Goes.skip ?_
    refine sq (Goes.block ?_)
    obtain⟨y,t,g32⟩:=bnd g32
    obtain⟨q,F,g32⟩:=bnd g32
    refine gq fol [2,3,4] (kAS b (kB2 [(11,.i f)])) (kAY b [.bld 197 5 [pz true 1 0,hsl 3 1 (some q)],.dead,.cells ((hof (some q)).flatMap (qa .u8).c)]) (ac (hs (.done (.opt (qd Tryz.prog 244 (.gslice 0 b.length 1) (.i f))) (.ptr 0 ((f:Int).toNat*1+0))) (ix_gs qnC t)) (ac (hs (.run [0] (zB Tryz.prog 9 (.ptr 0 ((f:Int).toNat*1+0))) (kAY b [.bld 197 5 [pz ok27 1 0,hsl 2 1 e],.cells ((hof e).flatMap (qa .u8).c)]) (.str y) (kAY b [.bld 197 5 [pz ok27 1 0,hsl 2 1 e],.cells ((hof e).flatMap (qa .u8).c)]) false) (qa1 ce9 (E:=encS) (l:=b) rfl rfl t (nl rfl) rfl)) (ac (hs (.callH 191 [.ptr 1 0,.str y] (kAY b [.bld 197 5 [pz ok27 1 0,hsl 2 1 e],.cells ((hof e).flatMap (qa .u8).c)]) [1,2] (.tuple [.i ((y.length:Nat):Int),.niliface]) (kAY b [.bld 197 5 [pz true 1 0,hsl 3 1 (some q)],.dead,.cells ((hof (some q)).flatMap (qa .u8).c)])) (qd8 [some 1,some 2] [none,some 0,none,some 2] (qlV ok27 e y F) (.kb rfl (.bld (rc ((zz.pz rfl)) (rc (.hs rfl) rn))) (.ks .nil)) rfl rfl (.old rfl rfl (.back rfl rfl (.bld (rc ((zz.pz rfl)) (rc (.hs rfl) rn))) rfl (.dead (.new rfl rfl (.same fa) rfl .nil)))) (rc (.ptr rfl) (rc (.same nS) rn)) (.same (qA.tuple sn)) rfl)) az))) ?_
    refine gh fol (kAS b (kB2 [(11,.i (w64 (f-1)))])) ?_
    exact⟨M,(ofG 69 (kAS b (kB2 [(11,.i (w64 (f-1)))])),(kAY b [.bld 197 5 [pz true 1 0,hsl 2 1 (some q)],.cells ((hof (some q)).flatMap (qa .u8).c)])),Nat.lt_succ_self _,(Sub.norm [] [some 0,some 1,some 3] rfl rfl (.keep (.gslice rfl) (.kp (.keep (.same nI) .nil))) (.ks (.kb rfl (.bld (rc ((zz.pz rfl)) (rc (.hs rfl) rn))) (.ks .nil)))),_,_,_,rfl,g32⟩
   refine Goes.exit ?_
   obtain rfl:=si g32
   exact⟨rfl,_,_,rfl,(Sub.norm [] [some 1,some 2] rfl rfl (.drop (.kp .nil)) (.kb rfl (.bld (rc ((zz.pz rfl)) (rc (.hs rfl) rn))) (.ks .nil)))⟩
 rintro x s' ⟨rfl,ok30,o,rfl,hsub⟩
 try dsimp only at h
 refine Goes.sub hsub ?_
 obtain⟨G,H,h⟩:=bnd h
 refine sq (gq fol [0] (kBs G) [.dead,.dead] (ac (hs (.callH 193 [.ptr 0 0] [.bld 197 5 [pz ok30 0 0,hsl 1 1 o],.cells ((hof o).flatMap (qa .u8).c)] [0,1] (.str G) [.dead,.dead]) (qd8 [some 0,some 1] [none,none] (qns ok30 o H) (.kb rfl (.bld (rc ((zz.pz rfl)) (rc (.hs rfl) rn))) (.ks .nil)) rfl rfl (.dead (.dead .nil)) (rc (.ptr rfl) rn) (.same nS) rfl)) az) ?_)
 refine Goes.ret ?_
 obtain rfl:=si h
 exact(gw2 [.str G] (FzW.still tS))
def qbl (N:Nat) (n:qj):Option Bool:=
 ((xK n).bind fun a=>
 if a>1800 then
 (jg N n).bind fun b=>
 (strings_TrimPrefix b [45]).bind fun c=>
 some (decide ((c.length:Int)>600))
 else
 some false:Option Bool).bind fun d=>
 some d
theorem qct (N:Nat) (n:qj) {res:Bool} (h:qbl N n=some res):qc Tryz.prog (.fn 207) [.agg [.i n.s,nvl (qa .u64) n.w]] [] (.bool res) []:=by
 unfold qbl at h
 refine Goes.fnW Tryz.func207 rfl rfl (m:=13) rfl (rs:=[.tmp 2]) rfl (l:=[(0,.agg [.i n.s,nvl (qa .u64) n.w])]) rfl ?_
 refine sg fol (kA2 []) [.cells [.i n.s,nvl (qa .u64) n.w]] ?_
 refine sq ?_
 obtain⟨f,a,h⟩:=bnd h
 refine Goes.cut (s':=(ofG 13 (kBq f),[.cells [.i n.s,nvl (qa .u64) n.w]])) ?_ ?_
 ·obtain⟨k,b,a⟩:=bnd a
  rcases wyD a with⟨e,a⟩|⟨e,a⟩
  ·obtain⟨g,c,a⟩:=bnd a
   obtain⟨j,d,a⟩:=bnd a
   obtain rfl:=si a
   exact tr fol [1,3,5,6] (kBq (decide ((j.length:Int)>600))) (ac (cv (qb0 n b)) (ac (gw e) (ac (cv (yD N n c)) (ac (cv (xX g [45] d)) az))))
  obtain rfl:=si a
  exact tr fol [1,3] kA7 (ac (cv (qb0 n b)) (ac (gw e) az))
 refine Goes.ret ?_
 obtain rfl:=si h
 exact(gw2 [.bool f] (FzW.still tB))
def yQ (N:Nat) (a:jQ):Option Bool:=
 ((qbl N a.Num).bind fun b=>
 if b=true then
 some true
 else
 (qbl N a.Den).bind fun c=>
 some c:Option Bool).bind fun d=>
 some d
theorem qdL (N:Nat) (a:jQ) {res:Bool} (h:yQ N a=some res):qc Tryz.prog (.fn 151) [.agg [.i a.Num.s,nvl (qa .u64) a.Num.w,.i a.Den.s,nvl (qa .u64) a.Den.w]] [] (.bool res) []:=by
 unfold yQ at h
 refine Goes.fnW Tryz.func151 rfl rfl (m:=11) rfl (rs:=[.tmp 2]) rfl (l:=[(0,.agg [.i a.Num.s,nvl (qa .u64) a.Num.w,.i a.Den.s,nvl (qa .u64) a.Den.w])]) rfl ?_
 refine sg fol (kA2 []) [.cells [.i a.Num.s,nvl (qa .u64) a.Num.w,.i a.Den.s,nvl (qa .u64) a.Den.w]] ?_
 refine sq ?_
 obtain⟨f,b,h⟩:=bnd h
 refine Goes.cut (s':=(ofG 11 (kBq f),[.cells [.i a.Num.s,nvl (qa .u64) a.Num.w,.i a.Den.s,nvl (qa .u64) a.Den.w]])) ?_ ?_
 ·obtain⟨j,c,b⟩:=bnd b
  rcases wyB b with⟨e,b⟩|⟨e,b⟩
  ·obtain rfl:=si b
   exact tr fol [2,3] [(2,.bool true)] (ac (cv (qct N a.Num c)) (ac (gw e) az))
  obtain⟨g,d,b⟩:=bnd b
  obtain rfl:=si b
  exact tr fol [2,3,6] (kBq g) (ac (cv (qct N a.Num c)) (ac (gw e) (ac (cv (qct N a.Den d)) az)))
 refine Goes.ret ?_
 obtain rfl:=si h
 exact(gw2 [.bool f] (FzW.still tB))
def xc (N:Nat) (a:jQ):Option Str:=
 (vJ a).bind fun b=>
 if b=true then
 (jg N a.Num).bind fun c=>
 some c
 else
 (jg N a.Num).bind fun d=>
 (cat d [47]).bind fun e=>
 (jg N a.Den).bind fun f=>
 (cat e f).bind fun g=>
 some g
theorem qed (N:Nat) (a:jQ) {res:Str} (h:xc N a=some res):qc Tryz.prog (.fn 152) [.agg [.i a.Num.s,nvl (qa .u64) a.Num.w,.i a.Den.s,nvl (qa .u64) a.Den.w]] [] (.str res) []:=by
 unfold xc at h
 refine Goes.fnW Tryz.func152 rfl rfl (m:=16) rfl (rs:=[.tmp 2]) rfl (l:=[(0,.agg [.i a.Num.s,nvl (qa .u64) a.Num.w,.i a.Den.s,nvl (qa .u64) a.Den.w])]) rfl ?_
 refine sg fol (kA2 []) [.cells [.i a.Num.s,nvl (qa .u64) a.Num.w,.i a.Den.s,nvl (qa .u64) a.Den.w]] ?_
 refine sq ?_
 obtain⟨o,b,h⟩:=bnd h
 refine sq (gr fol [1] (kA2 (kAl o)) (ac (cv (qc0 a b)) az) ?_)
 refine ihB h (fun p h=>?_) (fun p h=>?_)
 ·obtain⟨k,c,h⟩:=bnd h
  refine sq (gr fol [2] (kBs k) (ac (cv (yD N a.Num c)) az) ?_)
  refine Goes.ret ?_
  obtain rfl:=si h
  exact(gw2 [.str k] (FzW.still tS))
 refine Goes.skip ?_
 obtain⟨q,d,h⟩:=bnd h
 obtain⟨n,e,h⟩:=bnd h
 obtain⟨r,f,h⟩:=bnd h
 obtain⟨j,g,h⟩:=bnd h
 refine sq (gr fol [2,3,6,7] (kBs j) (ac (cv (yD N a.Num d)) (ac (hs (.done (.opt (qU Tryz.prog .add 9 (.tmp 10) (.const (.string ⟨#[47]⟩)) (.str q) (.str [47]))) (.str n)) (xU e)) (ac (cv (yD N a.Den f)) (ac (hs (.done (.opt (qU Tryz.prog .add 9 (.tmp 11) (.tmp 14) (.str n) (.str r))) (.str j)) (xU g)) az)))) ?_)
 refine Goes.ret ?_
 obtain rfl:=si h
 exact(gw2 [.str j] (FzW.still tS))
def yo (N:Nat) (a:jQ):Option (Str×Int):=
 (yQ N a).bind fun b=>
 if b=true then
 some ([],4)
 else
 (xc N a).bind fun c=>
 some (c,0)
theorem qbw (N:Nat) (a:jQ) {res:Str×Int} (h:yo N a=some res):qc Tryz.prog (.fn 87) [.agg [.i a.Num.s,nvl (qa .u64) a.Num.w,.i a.Den.s,nvl (qa .u64) a.Den.w]] [] (.tuple (kA9 res.1 res.2)) []:=by
 unfold yo at h
 refine Goes.fnW Tryz.func87 rfl rfl (m:=8) rfl (rs:=[.tmp 2,.tmp 3]) rfl (l:=[(0,.agg [.i a.Num.s,nvl (qa .u64) a.Num.w,.i a.Den.s,nvl (qa .u64) a.Den.w])]) rfl ?_
 refine sg fol (kA2 []) [.cells [.i a.Num.s,nvl (qa .u64) a.Num.w,.i a.Den.s,nvl (qa .u64) a.Den.w]] ?_
 refine sq ?_
 obtain⟨e,b,h⟩:=bnd h
 refine sq (gr fol [1] (kA2 [(5,.bool e)]) (ac (cv (qdL N a b)) az) ?_)
 refine ihB h (fun f h=>?_) (fun f h=>?_)
 ·refine sh fol [(2,.str []),(3,.i 4)] ?_
  refine Goes.ret ?_
  obtain rfl:=si h
  exact(gw2 [.str [],.i 4] (FzW.tuple (qg.cons (FzW.still tS) (qg.cons (FzW.still tI) qg.nil))))
 refine Goes.skip ?_
 obtain⟨d,c,h⟩:=bnd h
 refine sq (gr fol [1] [(2,.str d),(3,.i 0)] (ac (cv (qed N a c)) az) ?_)
 refine Goes.ret ?_
 obtain rfl:=si h
 exact(gw2 [.str d,.i 0] (FzW.tuple (qg.cons (FzW.still tS) (qg.cons (FzW.still tI) qg.nil))))
def xe (N:Nat) (a:Str):Option Bool:=
 (jY N a).bind fun b=>
 some (decide (b=(a.length:Int)))
theorem qd6 (N:Nat) (a:Str) {res:Bool} (h:xe N a=some res):qc Tryz.prog (.fn 112) [.str a] [] (.bool res) []:=by
 unfold xe at h
 refine Goes.fnW Tryz.func112 rfl rfl (m:=8) rfl (rs:=[.tmp 2]) rfl (l:=(kAQ a [])) rfl ?_
 refine sh fol (kAQ a []) ?_
 obtain⟨c,b,h⟩:=bnd h
 refine sq (gr fol [1] (kBq (decide (c=(a.length:Int)))) (ac (cv (yR N a b)) az) ?_)
 refine Goes.ret ?_
 obtain rfl:=si h
 exact(gw2 [.bool (decide (c=(a.length:Int)))] (FzW.still tB))
def yM (N:Nat) (a:qL) (b:qL):Option qL:=
 (zw N a.w b.w).bind fun c=>
 (if a.neg=true then
 some (decide ((c.2.length:Int)>0))
 else
 some false:Option Bool).bind fun d=>
 ((if d=true then
 (yn N c.1 ([1]:List Int)).bind fun e=>
 some e
 else
 some c.1:Option (List Int))).bind fun f=>
 (zX N a.neg f).bind fun g=>
 some g
theorem qd0 (N:Nat) (a:qL) (b:qL) {res:qL} (h:yM N a b=some res):qc Tryz.prog (.fn 115) (kAy a.neg a.w b.neg b.w) [] (.agg (kAr res.neg res.w)) []:=by
 unfold yM at h
 refine Goes.fnW Tryz.func115 rfl rfl (m:=29) rfl (rs:=[.cell 4 121]) rfl (l:=(kBr a.neg a.w b.neg b.w)) rfl ?_
 refine sg fol (kH []) (kO a.neg a.w b.neg b.w (kU [])) ?_
 obtain⟨d,e,h⟩:=bnd h
 refine sq (gr fol [4] (kAM (kAU (kBj d.1 [(6,vl encI d.2)]))) (ac (cv (yf N a.w b.w e)) az) ?_)
 refine sq ?_
 refine sq ?_
 obtain⟨p,c,h⟩:=bnd h
 refine Goes.cut (s':=(ofG 29 (kAM (kAU (kBj d.1 [(21,.bool p)]))),(kO a.neg a.w b.neg b.w (kU [])))) ?_ ?_
 ·rcases wyB c with⟨o,c⟩|⟨o,c⟩
  ·obtain rfl:=si c
   exact tr fol [2] (kAM (kAU (kBj d.1 [(21,.bool (decide ((d.2.length:Int)>0)))]))) (ac (gw o) az)
  obtain rfl:=si c
  exact tr fol [2] (kAM (kAU (kBj d.1 [(21,.bool false)]))) (ac (gw o) az)
 obtain⟨q,g6,h⟩:=bnd h
 refine Goes.imp (Q:=fun x s'=>(x= .normal/\ ∃j,j=q/\Sub s' (ofG 29 (kAM (kBm (kBj j []))),(kAW a.neg a.w (kU []))))) ?_ ?_
 ·refine ihB g6 (fun r g6=>?_) (fun r g6=>?_)
  ·obtain⟨k,f,g6⟩:=bnd g6
   refine gq fol [2] (kAM (kAU (kBj k []))) (kO a.neg a.w b.neg b.w (kU [.frozen [.i 1]])) (ac (hs (.callF 171 [vl encI d.1,.slice 3 0 1 1 1] (kO a.neg a.w b.neg b.w (kU [.cells [.i 1]])) [3] (kBg d.1 ([1]:List Int)) (vl encI k)) (xw (FzL.cons (Fz.still (qp encI _ (nl rfl))) (FzL.cons (Fz.lit rfl rfl (FzL.still (AllST.cons tI AllST.nil))) FzL.nil)) (qdo N d.1 ([1]:List Int) f) (qp encI _ (nl rfl)))) az) ?_
   obtain rfl:=si g6
   exact⟨rfl,_,rfl,((show Sub (ofG 29 (kAM (kAU (kBj k []))),(kO a.neg a.w b.neg b.w (kU [.frozen [.i 1]]))) (ofG 29 (kAM (kBm (kBj k []))),(kAW a.neg a.w (kU [])))from(Sub.norm [] [some 0,some 2] rfl rfl (.kp (.kp (.keep (.same (qf encI _)) .nil))) (.kb rfl (.same sn) (.kb rfl (.same sn) .nil)))).trans (Sub.refl _))⟩
  refine Goes.skip ?_
  obtain rfl:=si g6
  exact⟨rfl,_,rfl,(Sub.norm [] [some 0,some 2] rfl rfl (.kp (.kp (.keep (.same (qf encI _)) .nil))) (.kb rfl (.same sn) (.kb rfl (.same sn) .nil)))⟩
 rintro x s' ⟨rfl,j,rfl,hsub⟩
 refine Goes.sub hsub ?_
 obtain⟨n,g,h⟩:=bnd h
 refine sq (gq fol [3] (kBm []) (kO a.neg a.w n.neg n.w []) (ac (cv (jX N a.neg j g)) az) ?_)
 refine Goes.ret ?_
 obtain rfl:=si h
 exact(gw2 [.agg (kAr n.neg n.w)] (FzW.agg (qg.cons (FzW.still tB) (qg.cons (FzW.still (qp encI _ (nl rfl))) qg.nil))))
end Go.Av
