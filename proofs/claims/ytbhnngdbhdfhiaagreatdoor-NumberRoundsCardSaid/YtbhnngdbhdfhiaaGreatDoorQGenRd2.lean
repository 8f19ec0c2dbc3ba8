/-
  Walks of functions: what each computes, as a plain function.
-/
import Derived.Test.YtbhnngdbhdfhiaaGreatDoorQGenRd1
noncomputable section
namespace Go.Av
open Go.Proofs Go.RowKit
set_option linter.unusedSectionVars false
set_option linter.unusedVariables false
set_option linter.unusedSimpArgs false
set_option maxRecDepth 100000
def zH (N:Nat) (a:qm) (b:qm):Option (qm×qm):=
 (if a.w.isEmpty=true then
 if b.w.isEmpty=true then
 some (!decide (a.s=(-9223372036854775808)))
 else
 some false
 else
 some false:Option Bool).bind fun r=>
 if r=true then
 (qeN .i64 a.s b.s).bind fun q=>
 (qaU .i64 a.s b.s).bind fun i=>
 ((if i<0 then
 some (w64 (q-1),w64 (i+b.s))
 else
 some (q,i):Option (Int×Int))).bind fun(t,u)=>
 some ((⟨t,[]⟩:qm),(⟨u,[]⟩:qm))
 else
 (qx a).bind fun d=>
 (qx b).bind fun j=>
 (yI N d.2 j.2).bind fun f=>
 (ji d.1 f.1).bind fun e=>
 (ji d.1 f.2).bind fun c=>
 (zl c).bind fun k=>
 ((if k<0 then
 (qcp 1).bind fun l=>
 (yM N e l).bind fun g=>
 (vU N c b).bind fun h=>
 some (g.s,g.w,h.s,h.w)
 else
 some (e.s,e.w,c.s,c.w):Option (Int×(List Int)×Int×(List Int)))).bind fun(m,n,o,p)=>
 some ((⟨m,n⟩:qm),(⟨o,p⟩:qm))
theorem qar (N:Nat) (a:qm) (b:qm) {res:qm×qm} (h:zH N a b=some res):qc ZT (.fn 114) [.agg (nz1 a),.agg (nz1 b)] [] (.tuple [.agg (nz1 res.1),.agg (nz1 res.2)]) []:=by
 unfold zH at h
 refine Ub Tryz.func114 rfl rfl (m:=84) rfl (rs:=[.cell 4 77,.cell 5 77]) rfl (l:=[(0,.agg (nz1 a)),(1,.agg (nz1 b))]) rfl ?_
 refine sg fol (kE [(5,.ptr 3 0)]) [.cells (nz1 a),.cells (nz1 b),bZ,bZ] ?_
 refine sq ?_
 refine sq ?_
 obtain⟨b3,c,h⟩:=bnd h
 refine Goes.cut (s':=(ofG 84 (kE [(5,.ptr 3 0),(28,.bool b3)]),[.cells (nz1 a),.cells (nz1 b),bZ,bZ])) ?_ ?_
 ·rcases wyB c with⟨L,c⟩|⟨L,c⟩
  ·rcases wyB c with⟨O,c⟩|⟨O,c⟩
   ·obtain rfl:=si c
    exact tr fol [2,3,6,8] (kE [(5,.ptr 3 0),(28,.bool (!decide (a.s=(-9223372036854775808))))]) (ac (hs (.done (.opt (zn ZT .eql 75 (.tmp 17) (.const (.slice none 0 0)) (nvl (qa .u64) a.w) .nilslice)) (.bool a.w.isEmpty)) (y9 yP)) (ac (gw L) (ac (hs (.done (.opt (zn ZT .eql 75 (.tmp 21) (.const (.slice none 0 0)) (nvl (qa .u64) b.w) .nilslice)) (.bool b.w.isEmpty)) (y9 yP)) (ac (gw O) az))))
   obtain rfl:=si c
   exact tr fol [2,3,6,8] (kE [(5,.ptr 3 0),(28,.bool false)]) (ac (hs (.done (.opt (zn ZT .eql 75 (.tmp 17) (.const (.slice none 0 0)) (nvl (qa .u64) a.w) .nilslice)) (.bool a.w.isEmpty)) (y9 yP)) (ac (gw L) (ac (hs (.done (.opt (zn ZT .eql 75 (.tmp 21) (.const (.slice none 0 0)) (nvl (qa .u64) b.w) .nilslice)) (.bool b.w.isEmpty)) (y9 yP)) (ac (gw O) az))))
  obtain rfl:=si c
  exact tr fol [2,3] (kE [(5,.ptr 3 0),(28,.bool false)]) (ac (hs (.done (.opt (zn ZT .eql 75 (.tmp 17) (.const (.slice none 0 0)) (nvl (qa .u64) a.w) .nilslice)) (.bool a.w.isEmpty)) (y9 yP)) (ac (gw L) az))
 refine ihB h (fun c5 h=>?_) (fun c5 h=>?_)
 ·obtain⟨M,F,h⟩:=bnd h
  obtain⟨G,H,h⟩:=bnd h
  refine sq (gr fol [4,9] (kAG [(6,.i M),(7,.i G)]) (ac (hs (.done (.opt (zn ZT .quo 3 (.tmp 30) (.tmp 32) (.i a.s) (.i b.s))) (.i M)) (qdP F)) (ac (hs (.done (.opt (zn ZT .rem 3 (.tmp 35) (.tmp 37) (.i a.s) (.i b.s))) (.i G)) (qbY H)) az)) ?_)
  refine sq ?_
  refine sh fol (kAG [(6,.i M),(7,.i G),(40,.bool (decide (G<0)))]) ?_
  obtain⟨P,g10,h⟩:=bnd h
  refine Goes.imp (Q:=fun x s'=>(x= .normal/\ ∃I J,(I,J)=P/\Sub s' (ofG 84 (kAR [(5,.ptr 1 0),(6,.i I),(7,.i J)]),[bZ,bZ]))) ?_ ?_
  ·refine ihD g10 (fun U g10=>?_) (fun U g10=>?_)
   ·refine gh fol (kAV [(5,.ptr 3 0),(6,.i (w64 (M-1))),(7,.i (w64 (G+b.s)))]) ?_
    obtain rfl:=si g10
    exact⟨rfl,_,_,rfl,(Sub.norm [] [some 2,some 3] rfl rfl (.kp (.kp (.keep (.same nI) (.keep (.same nI) .nil)))) (.kb rfl (.same sn) (.kb rfl (.same sn) .nil)))⟩
   refine Goes.skip ?_
   obtain rfl:=si g10
   exact⟨rfl,_,_,rfl,(Sub.norm [] [some 2,some 3] rfl rfl (.drop (.kp (.kp (.keep (.same nI) (.keep (.same nI) .nil))))) (.kb rfl (.same sn) (.kb rfl (.same sn) .nil)))⟩
  rintro x s' ⟨rfl,I,J,rfl,hsub⟩
  try dsimp only at h
  refine Goes.sub hsub ?_
  refine sg fol (kAR [(5,.ptr 1 0)]) (.cells [.i I,.nilslice]::(kAb J)) ?_
  refine Goes.ret ?_
  obtain rfl:=si h
  exact(gw2 [.agg [.i I,.nilslice],.agg [.i J,.nilslice]] (FzW.tuple (qg.cons (FzW.agg (qg.cons (Ua tI) (qg.cons (FzW.nv0 (E:=(qa .u64))) qg.nil))) (qg.cons (FzW.agg (qg.cons (Ua tI) (qg.cons (FzW.nv0 (E:=(qa .u64))) qg.nil))) qg.nil))))
 refine Goes.skip ?_
 obtain⟨j,r,h⟩:=bnd h
 refine sq (gr fol [1] (kAG [(8,.bool j.1),(9,vl (qa .u64) j.2)]) (ac (cv (zk a r)) az) ?_)
 obtain⟨K,t,h⟩:=bnd h
 refine sq (gr fol [1] (kAG [(8,.bool j.1),(9,vl (qa .u64) j.2),(11,vl (qa .u64) K.2)]) (ac (cv (zk b t)) az) ?_)
 obtain⟨q,u,h⟩:=bnd h
 refine sq (gr fol [2] (kAG [(8,.bool j.1),(12,vl (qa .u64) q.1),(13,vl (qa .u64) q.2)]) (ac (cv (qcf N j.2 K.2 u)) az) ?_)
 obtain⟨o,v,h⟩:=bnd h
 obtain⟨k,y,h⟩:=bnd h
 refine sq (gq fol [2,5,8,9] (kAG [(14,.ptr 4 0),(15,.ptr 5 0)]) [.cells (nz1 a),.cells (nz1 b),bZ,bZ,.cells (nz1 o),.cells (nz1 k)] (ac (cv (yf j.1 q.1 v)) (ac (cv (yf j.1 q.2 y)) (ac (hs (.run [4] (qp ZT 77 (.ptr 4 0) (.agg (nz1 o))) [.cells (nz1 a),.cells (nz1 b),bZ,bZ,bZ,bZ] .undef [.cells (nz1 a),.cells (nz1 b),bZ,bZ,.cells (nz1 o),bZ] true) (zK (n:=2) (by kernel_rfl) rfl rfl rfl rfl (cac rfl (cac nvc can)) rfl)) (ac (hs (.run [5] (qp ZT 77 (.ptr 5 0) (.agg (nz1 k))) [.cells (nz1 a),.cells (nz1 b),bZ,bZ,.cells (nz1 o),bZ] .undef [.cells (nz1 a),.cells (nz1 b),bZ,bZ,.cells (nz1 o),.cells (nz1 k)] true) (zK (n:=2) (by kernel_rfl) rfl rfl rfl rfl (cac rfl (cac nvc can)) rfl)) az)))) ?_)
 refine sq ?_
 obtain⟨V,z,h⟩:=bnd h
 refine sq (gr fol [1] (kAG [(14,.ptr 4 0),(15,.ptr 5 0),(75,.bool (decide (V<0)))]) (ac (cv (yE k z)) az) ?_)
 obtain⟨X,g22,h⟩:=bnd h
 refine Goes.imp (Q:=fun x s'=>(x= .normal/\ ∃d e f g,(d,e,f,g)=X/\Sub s' (ofG 84 (kAR [(5,.ptr 1 0),(14,.ptr 2 0),(15,.ptr 3 0)]),[bZ,bZ,.cells (ni1 d e),.cells (ni1 f g)]))) ?_ ?_
 ·refine ihD g22 (fun Y g22=>?_) (fun Y g22=>?_)
  ·obtain⟨Z,A,g22⟩:=bnd g22
   obtain⟨p,B,g22⟩:=bnd g22
   obtain⟨C,D,g22⟩:=bnd g22
   refine gq fol [1,2,5,6,7] (kAV [(5,.ptr 3 0),(14,.ptr 4 0),(15,.ptr 5 0)]) [.cells (nz1 a),.cells (nz1 b),bZ,bZ,.cells (nz1 p),.cells (nz1 C)] (ac (cv (qc7 1 A)) (ac (cv (qd9 N o Z B)) (ac (cv (qbQ N k b D)) (ac (hs (.run [4] (qp ZT 77 (.ptr 4 0) (.agg (nz1 p))) [.cells (nz1 a),.cells (nz1 b),bZ,bZ,.cells (nz1 o),.cells (nz1 k)] .undef [.cells (nz1 a),.cells (nz1 b),bZ,bZ,.cells (nz1 p),.cells (nz1 k)] true) (zK (n:=2) (by kernel_rfl) rfl rfl rfl rfl (cac rfl (cac nvc can)) rfl)) (ac (hs (.run [5] (qp ZT 77 (.ptr 5 0) (.agg (nz1 C))) [.cells (nz1 a),.cells (nz1 b),bZ,bZ,.cells (nz1 p),.cells (nz1 k)] .undef [.cells (nz1 a),.cells (nz1 b),bZ,bZ,.cells (nz1 p),.cells (nz1 C)] true) (zK (n:=2) (by kernel_rfl) rfl rfl rfl rfl (cac rfl (cac nvc can)) rfl)) az))))) ?_
   obtain rfl:=si g22
   exact⟨rfl,_,_,_,_,rfl,(Sub.norm [] [some 2,some 3,some 4,some 5] rfl rfl (.kp (.kp (.kp (.kp .nil)))) (.kb rfl (.same sn) (.kb rfl (.same sn) (.kb rfl (.same sn) (.kb rfl (.same sn) .nil)))))⟩
  refine Goes.skip ?_
  obtain rfl:=si g22
  exact⟨rfl,_,_,_,_,rfl,(Sub.norm [] [some 2,some 3,some 4,some 5] rfl rfl (.drop (.kp (.kp (.kp (.kp .nil))))) (.kb rfl (.same sn) (.kb rfl (.same sn) (.kb rfl (.same sn) (.kb rfl (.same sn) .nil)))))⟩
 rintro x s' ⟨rfl,d,e,f,g,rfl,hsub⟩
 try dsimp only at h
 refine Goes.sub hsub ?_
 refine sq (gq fol [2,3] (kAR [(5,.ptr 1 0)]) [.cells (ni1 d e),.cells (ni1 f g),.cells (ni1 d e),.cells (ni1 f g)] (ac (hs (.run [0] (qp ZT 77 (.ptr 0 0) (.agg (ni1 d e))) [bZ,bZ,.cells (ni1 d e),.cells (ni1 f g)] .undef [.cells (ni1 d e),bZ,.cells (ni1 d e),.cells (ni1 f g)] true) (zK (n:=2) (by kernel_rfl) rfl rfl rfl rfl (cac rfl (cac nvc can)) rfl)) (ac (hs (.run [1] (qp ZT 77 (.ptr 1 0) (.agg (ni1 f g))) [.cells (ni1 d e),bZ,.cells (ni1 d e),.cells (ni1 f g)] .undef [.cells (ni1 d e),.cells (ni1 f g),.cells (ni1 d e),.cells (ni1 f g)] true) (zK (n:=2) (by kernel_rfl) rfl rfl rfl rfl (cac rfl (cac nvc can)) rfl)) az)) ?_)
 refine Goes.ret ?_
 obtain rfl:=si h
 exact(gw2 [.agg (ni1 d e),.agg (ni1 f g)] (FzW.tuple (qg.cons (FzW.agg (qg.cons (Ua tI) (qg.cons (Ua (qE (qa .u64) _ (nl rfl))) qg.nil))) (qg.cons (FzW.agg (qg.cons (Ua tI) (qg.cons (Ua (qE (qa .u64) _ (nl rfl))) qg.nil))) qg.nil))))
def yN (a:qm):Option qm:=
 if a.s<0 then
 (zU a).bind fun b=>
 some b
 else
 some a
theorem qbv (a:qm) {res:qm} (h:yN a=some res):qc ZT (.fn 159) [.agg (nz1 a)] [] (.agg (nz1 res)) []:=by
 unfold yN at h
 refine Ub Tryz.func159 rfl rfl (m:=9) rfl (rs:=[.cell 2 77]) rfl (l:=[(0,.agg (nz1 a))]) rfl ?_
 refine sg fol (kAK kAj) [.cells (nz1 a),bZ] ?_
 refine sq ?_
 refine sh fol (kAK [(2,.ptr 1 0),(5,.bool (decide (a.s<0)))]) ?_
 refine ihD h (fun d h=>?_) (fun d h=>?_)
 ·obtain⟨c,b,h⟩:=bnd h
  refine sq (gq fol [1,2] kAj [.cells (nz1 a),.cells (nz1 c)] (ac (cv (jU a b)) (ac (hs (.run [1] (qp ZT 77 (.ptr 1 0) (.agg (nz1 c))) [.cells (nz1 a),bZ] .undef [.cells (nz1 a),.cells (nz1 c)] true) (zK (n:=2) (by kernel_rfl) rfl rfl rfl rfl (cac rfl (cac nvc can)) rfl)) az)) ?_)
  refine Goes.ret ?_
  obtain rfl:=si h
  exact(gw2 [.agg (nz1 c)] (FzW.agg (qg.cons (Ua tI) (qg.cons (Ua (qE (qa .u64) _ (nl rfl))) qg.nil))))
 refine Goes.skip ?_
 refine sq (gq fol [1] kAj [.cells (nz1 a),.cells (nz1 a)] (ac (hs (.run [1] (qp ZT 77 (.ptr 1 0) (.agg (nz1 a))) [.cells (nz1 a),bZ] .undef [.cells (nz1 a),.cells (nz1 a)] true) (zK (n:=2) (by kernel_rfl) rfl rfl rfl rfl (cac rfl (cac nvc can)) rfl)) az) ?_)
 refine Goes.ret ?_
 obtain rfl:=si h
 exact(gw2 [.agg (nz1 a)] (FzW.agg (qg.cons (Ua tI) (qg.cons (Ua (qE (qa .u64) _ (nl rfl))) qg.nil))))
def jL (N:Nat):Nat->Int->(List Int)->Int->(List Int)->Option (Int×(List Int))
 |0,_,_,_,_=>none
 |K+1,e,f,b,c=>
  (zl (⟨b,c⟩:qm)).bind fun d=>
  if(!decide (d=0))=true then
  (zH N (⟨e,f⟩:qm) (⟨b,c⟩:qm)).bind fun a=>
  jL N K b c a.2.s a.2.w
  else
  some (e,f)
def qa4 (N:Nat) (a:qm) (b:qm):Option qm:=
 (yN a).bind fun c=>
 (yN b).bind fun d=>
 (jL N N c.s c.w d.s d.w).bind fun(e,f)=>
 some (⟨e,f⟩:qm)
theorem qhk (N:Nat) (a:qm) (b:qm) {res:qm} (h:qa4 N a b=some res):qc ZT (.fn 108) [.agg (nz1 a),.agg (nz1 b)] [] (.agg (nz1 res)) []:=by
 unfold qa4 at h
 refine Ub Tryz.func108 rfl rfl (m:=23) rfl (rs:=[.cell 4 77]) rfl (l:=[(0,.agg (nz1 a)),(1,.agg (nz1 b))]) rfl ?_
 refine sg fol (kE []) [.cells (nz1 a),.cells (nz1 b),bZ] ?_
 obtain⟨p,q,h⟩:=bnd h
 obtain⟨t,r,h⟩:=bnd h
 refine sq (gq fol [1,3,4,5] (kE []) [.cells (nz1 p),.cells (nz1 t),bZ] (ac (cv (qbv a q)) (ac (cv (qbv b r)) (ac (hs (.run [0] (qp ZT 77 (.ptr 0 0) (.agg (nz1 p))) [.cells (nz1 a),.cells (nz1 b),bZ] .undef [.cells (nz1 p),.cells (nz1 b),bZ] true) (zK (n:=2) (by kernel_rfl) rfl rfl rfl rfl (cac rfl (cac nvc can)) rfl)) (ac (hs (.run [1] (qp ZT 77 (.ptr 1 0) (.agg (nz1 t))) [.cells (nz1 p),.cells (nz1 b),bZ] .undef [.cells (nz1 p),.cells (nz1 t),bZ] true) (zK (n:=2) (by kernel_rfl) rfl rfl rfl rfl (cac rfl (cac nvc can)) rfl)) az)))) ?_)
 refine sq (Goes.block ?_)
 obtain⟨w,g9,h⟩:=bnd h
 refine Goes.imp (Q:=fun x s'=>(x= .exit 0/\ ∃f g,(f,g)=w/\Sub s' (ofG 23 [(2,.ptr 0 0),(4,.ptr 1 0)],[.cells (ni1 f g),bZ]))) ?_ ?_
 ·refine Uc (fun M s=> ∃(i:Int) (j:List Int) (d:Int) (e:List Int),s=(ofG 23 (kE []),[.cells (ni1 i j),.cells (ni1 d e),bZ])/\jL N M i j d e=some w) ?_ (m:=N) ⟨_,_,_,_,rfl,g9⟩
  rintro M s ⟨i,j,d,e,rfl,g9⟩
  cases M with
  |zero=>simp only[jL]at g9;cases g9
  |succ M=>
   rw[jL]at g9
   refine sq ?_
   obtain⟨u,k,g9⟩:=bnd g9
   refine sq (gr fol [1] (kE [(13,.bool (!decide (u=0)))]) (ac (cv (yE (⟨d,e⟩:qm) k)) az) ?_)
   refine ihB g9 (fun v g9=>?_) (fun v g9=>?_)
   ·refine Goes.skip ?_
    refine Goes.block ?_
    obtain⟨c,o,g9⟩:=bnd g9
    refine sq (gq fol [2,8,9] (kE [(6,.ptr 4 0)]) [.cells (ni1 i j),.cells (ni1 d e),bZ,.cells (nz1 c.1),.cells (nz1 c.2)] (ac (cv (qar N (⟨i,j⟩:qm) (⟨d,e⟩:qm) o)) (ac (hs (.run [3] (qp ZT 77 (.ptr 3 0) (.agg (nz1 c.1))) [.cells (ni1 i j),.cells (ni1 d e),bZ,bZ,bZ] .undef [.cells (ni1 i j),.cells (ni1 d e),bZ,.cells (nz1 c.1),bZ] true) (zK (n:=2) (by kernel_rfl) rfl rfl rfl rfl (cac rfl (cac nvc can)) rfl)) (ac (hs (.run [4] (qp ZT 77 (.ptr 4 0) (.agg (nz1 c.2))) [.cells (ni1 i j),.cells (ni1 d e),bZ,.cells (nz1 c.1),bZ] .undef [.cells (ni1 i j),.cells (ni1 d e),bZ,.cells (nz1 c.1),.cells (nz1 c.2)] true) (zK (n:=2) (by kernel_rfl) rfl rfl rfl rfl (cac rfl (cac nvc can)) rfl)) az))) ?_)
    refine gq fol [2,3] (kE []) [.cells (ni1 d e),.cells (nz1 c.2),bZ,.cells (nz1 c.1),.cells (nz1 c.2)] (ac (hs (.run [0] (qp ZT 77 (.ptr 0 0) (.agg (ni1 d e))) [.cells (ni1 i j),.cells (ni1 d e),bZ,.cells (nz1 c.1),.cells (nz1 c.2)] .undef [.cells (ni1 d e),.cells (ni1 d e),bZ,.cells (nz1 c.1),.cells (nz1 c.2)] true) (zK (n:=2) (by kernel_rfl) rfl rfl rfl rfl (cac rfl (cac nvc can)) rfl)) (ac (hs (.run [1] (qp ZT 77 (.ptr 1 0) (.agg (nz1 c.2))) [.cells (ni1 d e),.cells (ni1 d e),bZ,.cells (nz1 c.1),.cells (nz1 c.2)] .undef [.cells (ni1 d e),.cells (nz1 c.2),bZ,.cells (nz1 c.1),.cells (nz1 c.2)] true) (zK (n:=2) (by kernel_rfl) rfl rfl rfl rfl (cac rfl (cac nvc can)) rfl)) az)) ?_
    exact⟨M,(ofG 23 (kE []),[.cells (ni1 d e),.cells (nz1 c.2),bZ]),Nat.lt_succ_self _,(Sub.norm [] [some 0,some 1,some 2] rfl rfl (.kp (.kp (.kp .nil))) (.kb rfl (.same sn) (.kb rfl (.same sn) (.kb rfl (.same sn) .nil)))),_,_,_,_,rfl,g9⟩
   refine Goes.exit ?_
   obtain rfl:=si g9
   exact⟨rfl,_,_,rfl,(Sub.norm [] [some 0,some 2] rfl rfl (.kp (.drop (.kp .nil))) (.kb rfl (.same sn) (.kb rfl (.same sn) .nil)))⟩
 rintro x s' ⟨rfl,f,g,rfl,hsub⟩
 try dsimp only at h
 refine Goes.sub hsub ?_
 refine sq (gq fol [1] [(4,.ptr 1 0)] [.cells (ni1 f g),.cells (ni1 f g)] (ac (hs (.run [1] (qp ZT 77 (.ptr 1 0) (.agg (ni1 f g))) [.cells (ni1 f g),bZ] .undef [.cells (ni1 f g),.cells (ni1 f g)] true) (zK (n:=2) (by kernel_rfl) rfl rfl rfl rfl (cac rfl (cac nvc can)) rfl)) az) ?_)
 refine Goes.ret ?_
 obtain rfl:=si h
 exact(gw2 [.agg (ni1 f g)] (FzW.agg (qg.cons (Ua tI) (qg.cons (Ua (qE (qa .u64) _ (nl rfl))) qg.nil))))
def jy (N:Nat) (a:qm) (b:qm):Option qm:=
 (zl b).bind fun f=>
 ((if f<0 then
 (zU a).bind fun d=>
 (zU b).bind fun e=>
 some (d.s,d.w,e.s,e.w)
 else
 some (a.s,a.w,b.s,b.w):Option (Int×(List Int)×Int×(List Int)))).bind fun(g,h,i,j)=>
 (zH N (⟨g,h⟩:qm) (⟨i,j⟩:qm)).bind fun c=>
 some c.1
theorem qbH (N:Nat) (a:qm) (b:qm) {res:qm} (h:jy N a b=some res):qc ZT (.fn 109) [.agg (nz1 a),.agg (nz1 b)] [] (.agg (nz1 res)) []:=by
 unfold jy at h
 refine Ub Tryz.func109 rfl rfl (m:=21) rfl (rs:=[.cell 4 77]) rfl (l:=[(0,.agg (nz1 a)),(1,.agg (nz1 b))]) rfl ?_
 refine sg fol (kE []) [.cells (nz1 a),.cells (nz1 b),bZ] ?_
 refine sq ?_
 obtain⟨r,j,h⟩:=bnd h
 refine sq (gr fol [1] (kE [(9,.bool (decide (r<0)))]) (ac (cv (yE b j)) az) ?_)
 obtain⟨s,g6,h⟩:=bnd h
 refine Goes.imp (Q:=fun x s'=>(x= .normal/\ ∃d e f g,(d,e,f,g)=s/\Sub s' (ofG 21 (kE []),[.cells (ni1 d e),.cells (ni1 f g),bZ]))) ?_ ?_
 ·refine ihD g6 (fun t g6=>?_) (fun t g6=>?_)
  ·obtain⟨k,o,g6⟩:=bnd g6
   obtain⟨q,p,g6⟩:=bnd g6
   refine gq fol [1,3,4,5] (kE []) [.cells (nz1 k),.cells (nz1 q),bZ] (ac (cv (jU a o)) (ac (cv (jU b p)) (ac (hs (.run [0] (qp ZT 77 (.ptr 0 0) (.agg (nz1 k))) [.cells (nz1 a),.cells (nz1 b),bZ] .undef [.cells (nz1 k),.cells (nz1 b),bZ] true) (zK (n:=2) (by kernel_rfl) rfl rfl rfl rfl (cac rfl (cac nvc can)) rfl)) (ac (hs (.run [1] (qp ZT 77 (.ptr 1 0) (.agg (nz1 q))) [.cells (nz1 k),.cells (nz1 b),bZ] .undef [.cells (nz1 k),.cells (nz1 q),bZ] true) (zK (n:=2) (by kernel_rfl) rfl rfl rfl rfl (cac rfl (cac nvc can)) rfl)) az)))) ?_
   obtain rfl:=si g6
   exact⟨rfl,_,_,_,_,rfl,(Sub.refl _)⟩
  refine Goes.skip ?_
  obtain rfl:=si g6
  exact⟨rfl,_,_,_,_,rfl,(Sub.keep [2,3,4] rfl rfl)⟩
 rintro x s' ⟨rfl,d,e,f,g,rfl,hsub⟩
 try dsimp only at h
 refine Goes.sub hsub ?_
 obtain⟨c,i,h⟩:=bnd h
 refine sq (gq fol [2,8,9] (kAV [(5,.ptr 3 0)]) [.cells (ni1 d e),.cells (ni1 f g),bZ,.cells (nz1 c.1),.cells (nz1 c.2)] (ac (cv (qar N (⟨d,e⟩:qm) (⟨f,g⟩:qm) i)) (ac (hs (.run [3] (qp ZT 77 (.ptr 3 0) (.agg (nz1 c.1))) [.cells (ni1 d e),.cells (ni1 f g),bZ,bZ,bZ] .undef [.cells (ni1 d e),.cells (ni1 f g),bZ,.cells (nz1 c.1),bZ] true) (zK (n:=2) (by kernel_rfl) rfl rfl rfl rfl (cac rfl (cac nvc can)) rfl)) (ac (hs (.run [4] (qp ZT 77 (.ptr 4 0) (.agg (nz1 c.2))) [.cells (ni1 d e),.cells (ni1 f g),bZ,.cells (nz1 c.1),bZ] .undef [.cells (ni1 d e),.cells (ni1 f g),bZ,.cells (nz1 c.1),.cells (nz1 c.2)] true) (zK (n:=2) (by kernel_rfl) rfl rfl rfl rfl (cac rfl (cac nvc can)) rfl)) az))) ?_)
 refine sq (gq fol [1] (kAV []) [.cells (ni1 d e),.cells (ni1 f g),.cells (nz1 c.1),.cells (nz1 c.1),.cells (nz1 c.2)] (ac (hs (.run [2] (qp ZT 77 (.ptr 2 0) (.agg (nz1 c.1))) [.cells (ni1 d e),.cells (ni1 f g),bZ,.cells (nz1 c.1),.cells (nz1 c.2)] .undef [.cells (ni1 d e),.cells (ni1 f g),.cells (nz1 c.1),.cells (nz1 c.1),.cells (nz1 c.2)] true) (zK (n:=2) (by kernel_rfl) rfl rfl rfl rfl (cac rfl (cac nvc can)) rfl)) az) ?_)
 refine Goes.ret ?_
 obtain rfl:=si h
 exact(gw2 [.agg (nz1 c.1)] (FzW.agg (qg.cons (Ua tI) (qg.cons (Ua (qE (qa .u64) _ (nl rfl))) qg.nil))))
def qaG (N:Nat) (num:qm) (den:qm):Option qP:=
 (zl den).bind fun k=>
 ((if k<0 then
 (zU num).bind fun i=>
 (zU den).bind fun j=>
 some (i.s,i.w,j.s,j.w)
 else
 some (num.s,num.w,den.s,den.w):Option (Int×(List Int)×Int×(List Int)))).bind fun(d,e,b,c)=>
 (if c.isEmpty=true then
 some (decide (b=1))
 else
 some false:Option Bool).bind fun f=>
 if f=true then
 some (⟨(⟨d,e⟩:qm),(⟨b,c⟩:qm)⟩:qP)
 else
 (qa4 N (⟨d,e⟩:qm) (⟨b,c⟩:qm)).bind fun a=>
 (jy N (⟨d,e⟩:qm) a).bind fun g=>
 (jy N (⟨b,c⟩:qm) a).bind fun h=>
 some (⟨g,h⟩:qP)
theorem qdq (N:Nat) (num:qm) (den:qm) {res:qP} (h:qaG N num den=some res):qc ZT (.fn 54) [.agg (nz1 num),.agg (nz1 den)] [] (.agg (nq1 res)) []:=by
 unfold qaG at h
 refine Ub Tryz.func54 rfl rfl (m:=34) rfl (rs:=[.cell 4 79]) rfl (l:=[(0,.agg (nz1 num)),(1,.agg (nz1 den))]) rfl ?_
 refine sg fol (kE []) (.cells (nz1 num):: .cells (nz1 den)::(kJ [])) ?_
 refine sq ?_
 obtain⟨A,q,h⟩:=bnd h
 refine sq (gr fol [1] (kE [(8,.bool (decide (A<0)))]) (ac (cv (yE den q)) az) ?_)
 obtain⟨B,g6,h⟩:=bnd h
 refine Goes.imp (Q:=fun x s'=>(x= .normal/\ ∃d e c a,(d,e,c,a)=B/\Sub s' (ofG 34 (kE []),(.cells (ni1 d e):: .cells (ni1 c a)::(kJ []))))) ?_ ?_
 ·refine ihD g6 (fun C g6=>?_) (fun C g6=>?_)
  ·obtain⟨r,t,g6⟩:=bnd g6
   obtain⟨v,u,g6⟩:=bnd g6
   refine gq fol [1,3,4,5] (kE []) (.cells (nz1 r):: .cells (nz1 v)::(kJ [])) (ac (cv (jU num t)) (ac (cv (jU den u)) (ac (hs (.run [0] (qp ZT 77 (.ptr 0 0) (.agg (nz1 r))) (.cells (nz1 num):: .cells (nz1 den)::(kJ [])) .undef (.cells (nz1 r):: .cells (nz1 den)::(kJ [])) true) (zK (n:=2) (by kernel_rfl) rfl rfl rfl rfl (cac rfl (cac nvc can)) rfl)) (ac (hs (.run [1] (qp ZT 77 (.ptr 1 0) (.agg (nz1 v))) (.cells (nz1 r):: .cells (nz1 den)::(kJ [])) .undef (.cells (nz1 r):: .cells (nz1 v)::(kJ [])) true) (zK (n:=2) (by kernel_rfl) rfl rfl rfl rfl (cac rfl (cac nvc can)) rfl)) az)))) ?_
   obtain rfl:=si g6
   exact⟨rfl,_,_,_,_,rfl,(Sub.refl _)⟩
  refine Goes.skip ?_
  obtain rfl:=si g6
  exact⟨rfl,_,_,_,_,rfl,(Sub.keep [2,3,4] rfl rfl)⟩
 rintro x s' ⟨rfl,d,e,c,a,rfl,hsub⟩
 try dsimp only at h
 refine Goes.sub hsub ?_
 refine sq ?_
 refine sq ?_
 obtain⟨y,b,h⟩:=bnd h
 refine Goes.cut (s':=(ofG 34 (kE [(20,.bool y)]),(.cells (ni1 d e):: .cells (ni1 c a)::(kJ [])))) ?_ ?_
 ·rcases wyB b with⟨j,b⟩|⟨j,b⟩
  ·obtain rfl:=si b
   exact tr fol [2,3] (kE [(20,.bool (decide (c=1)))]) (ac (hs (.done (.opt (zn ZT .eql 75 (.tmp 14) (.const (.slice none 0 0)) (nvl (qa .u64) a) .nilslice)) (.bool a.isEmpty)) (y9 yP)) (ac (gw j) az))
  obtain rfl:=si b
  exact tr fol [2,3] (kE [(20,.bool false)]) (ac (hs (.done (.opt (zn ZT .eql 75 (.tmp 14) (.const (.slice none 0 0)) (nvl (qa .u64) a) .nilslice)) (.bool a.isEmpty)) (y9 yP)) (ac (gw j) az))
 refine ihB h (fun z h=>?_) (fun z h=>?_)
 ·refine sq (gq fol [3] (kAV []) [.cells (ni1 d e),.cells (ni1 c a),.cells (ni2 d e c a)] (ac (hs (.run [2] (qp ZT 79 (.ptr 2 0) (.agg (ni2 d e c a))) (.cells (ni1 d e):: .cells (ni1 c a)::(kJ [])) .undef [.cells (ni1 d e),.cells (ni1 c a),.cells (ni2 d e c a)] true) (zK (n:=4) (by kernel_rfl) rfl rfl rfl rfl (cac rfl (cac nvc (cac rfl (cac nvc can)))) rfl)) az) ?_)
  refine Goes.ret ?_
  obtain rfl:=si h
  exact(gw2 [.agg (ni2 d e c a)] (FzW.agg (qg.cons (Ua tI) (qg.cons (Ua (qE (qa .u64) _ (nl rfl))) (qg.cons (Ua tI) (qg.cons (Ua (qE (qa .u64) _ (nl rfl))) qg.nil))))))
 refine Goes.skip ?_
 obtain⟨f,k,h⟩:=bnd h
 refine sq (gq fol [2,4] (kE [(5,.ptr 3 0)]) (.cells (ni1 d e):: .cells (ni1 c a)::(kJ [.cells (nz1 f)])) (ac (cv (qhk N (⟨d,e⟩:qm) (⟨c,a⟩:qm) k)) (ac (hs (.run [3] (qp ZT 77 (.ptr 3 0) (.agg (nz1 f))) (.cells (ni1 d e):: .cells (ni1 c a)::(kJ [bZ])) .undef (.cells (ni1 d e):: .cells (ni1 c a)::(kJ [.cells (nz1 f)])) true) (zK (n:=2) (by kernel_rfl) rfl rfl rfl rfl (cac rfl (cac nvc can)) rfl)) az)) ?_)
 obtain⟨g,o,h⟩:=bnd h
 obtain⟨i,p,h⟩:=bnd h
 refine sq (gq fol [2,5,7] (kAV []) [.cells (ni1 d e),.cells (ni1 c a),.cells (ni2 g.s g.w i.s i.w),.cells (nz1 f)] (ac (cv (qbH N (⟨d,e⟩:qm) f o)) (ac (cv (qbH N (⟨c,a⟩:qm) f p)) (ac (hs (.run [2] (qp ZT 79 (.ptr 2 0) (.agg (ni2 g.s g.w i.s i.w))) (.cells (ni1 d e):: .cells (ni1 c a)::(kJ [.cells (nz1 f)])) .undef [.cells (ni1 d e),.cells (ni1 c a),.cells (ni2 g.s g.w i.s i.w),.cells (nz1 f)] true) (zK (n:=4) (by kernel_rfl) rfl rfl rfl rfl (cac rfl (cac nvc (cac rfl (cac nvc can)))) rfl)) az))) ?_)
 refine Goes.ret ?_
 obtain rfl:=si h
 exact(gw2 [.agg (ni2 g.s g.w i.s i.w)] (FzW.agg (qg.cons (Ua tI) (qg.cons (Ua (qE (qa .u64) _ (nl rfl))) (qg.cons (Ua tI) (qg.cons (Ua (qE (qa .u64) _ (nl rfl))) qg.nil))))))
def zR (b:List Int) (l:Int) (g:Int):Nat->(List Int)->Int->Int->Option ((List Int)×Int)
 |0,_,_,_=>none
 |K+1,h,a,c=>
  if a<(b.length:Int)then
  (idx b a).bind fun i=>
  (bits_Mul64 l i).bind fun d=>
  (idx h (w64 (g+a))).bind fun j=>
  (vP d.2 j 0).bind fun e=>
  (vP e.1 c 0).bind fun f=>
  (put h (w64 (g+a)) f.1).bind fun k=>
  zR b l g K k (w64 (a+1)) (IntKind.wrap .u64 ((IntKind.wrap .u64 (d.1+e.2))+f.2))
  else
  some (h,c)
def zS (N:Nat) (a:List Int) (b:List Int):Nat->(List Int)->Int->Option (List Int)
 |0,_,_=>none
 |K+1,g,c=>
  if c<(a.length:Int)then
  (idx a c).bind fun h=>
  (zR b h c N g 0 0).bind fun(d,e)=>
  (idx d (w64 (c+(b.length:Int)))).bind fun i=>
  (put d (w64 (c+(b.length:Int))) e).bind fun f=>
  zS N a b K f (w64 (c+1))
  else
  some g
def yn (N:Nat) (a:List Int) (b:List Int):Option (List Int):=
 (mk 8 (w64 ((a.length:Int)+(b.length:Int))) 0).bind fun d=>
 (zS N a b N d 0).bind fun e=>
 (jX N e).bind fun c=>
 some c
theorem qdz (N:Nat) (a:List Int) (b:List Int) {res:List Int} (h:yn N a b=some res):qc ZT (.fn 147) [vl (qa .u64) a,vl (qa .u64) b] [] (vl (qa .u64) res) []:=by
 unfold yn at h
 refine Ub Tryz.func147 rfl rfl (m:=80) rfl (rs:=[.tmp 4]) rfl (l:=[(0,vl (qa .u64) a),(1,vl (qa .u64) b)]) rfl ?_
 refine sh fol [(0,vl (qa .u64) a),(1,vl (qa .u64) b)] ?_
 obtain⟨L,O,h⟩:=bnd h
 refine sq (gq fol [5] ((0,vl (qa .u64) a)::(1,vl (qa .u64) b)::(kB L [])) [.cells (L.flatMap (qa .u64).c)] (ac (hs (.run [] (zC ZT 75 (.i (w64 ((a.length:Int)+(b.length:Int)))) (.i (w64 ((a.length:Int)+(b.length:Int))))) [] (.slice 0 0 L.length L.length 1) [.cells (L.flatMap (qa .u64).c)] false) (qaz zt (E:=(qa .u64)) (z:=0) rfl (by kernel_rfl) O rfl)) az) ?_)
 refine sq ?_
 refine sh fol ((1,vl (qa .u64) b)::(kB L [(20,vl (qa .u64) a),(21,.i (a.length:Int)),(22,.i 0)])) ?_
 refine Goes.block ?_
 obtain⟨Y,g5,h⟩:=bnd h
 refine Goes.imp (Q:=fun x s'=>(x= .exit 0/\ ∃u,u=Y/\Sub s' (ofG 80 (kB u []),[.cells (u.flatMap (qa .u64).c)]))) ?_ ?_
 ·refine Uc (fun M s=> ∃(F:List Int) (d:Int),s=(ofG 80 ((1,vl (qa .u64) b)::(kB F ((20,vl (qa .u64) a)::(kU (a.length:Int) d [])))),[.cells (F.flatMap (qa .u64).c)])/\zS N a b M F d=some Y) ?_ (m:=N) ⟨_,_,rfl,g5⟩
  rintro M s ⟨F,d,rfl,g5⟩
  cases M with
  |zero=>simp only[zS]at g5;cases g5
  |succ M=>
   rw[zS]at g5
   refine sh fol ((1,vl (qa .u64) b)::(kB F ((20,vl (qa .u64) a)::(kU (a.length:Int) d [(23,.bool (decide (d<(a.length:Int))))])))) ?_
   refine sq ?_
   refine ihD g5 (fun Z g5=>?_) (fun Z g5=>?_)
   ·refine Goes.skip ?_
    refine sq (Goes.block ?_)
    obtain⟨q,G,g5⟩:=bnd g5
    refine sq (gr fol [1,2] ((1,vl (qa .u64) b)::(kB F ((6,.i d)::(kAO q ((20,vl (qa .u64) a)::(kU (a.length:Int) d [])))))) (ac (iv zt (qa .u64) G) (ac (lv 0 zx (qa .u64) G rfl) az)) ?_)
    refine sh fol ((1,vl (qa .u64) b)::(kB F ((6,.i d)::(kAO q (kAs ((20,vl (qa .u64) a)::(kU (a.length:Int) d []))))))) ?_
    refine sq ?_
    refine sh fol ((1,vl (qa .u64) b)::(kB F ((6,.i d)::(kAO q (kAs ((20,vl (qa .u64) a)::(kU (a.length:Int) d [(27,vl (qa .u64) b),(28,.i (b.length:Int)),(29,.i 0)]))))))) ?_
    refine Goes.block ?_
    obtain⟨P,g13,g5⟩:=bnd g5
    refine Goes.imp (Q:=fun x s'=>(x= .exit 2/\ ∃k v,(k,v)=P/\Sub s' (ofG 80 ((1,vl (qa .u64) b)::(kB k ((6,.i d)::(8,.int .u64 v)::(20,vl (qa .u64) a)::(kU (a.length:Int) d [])))),[.cells (k.flatMap (qa .u64).c)]))) ?_ ?_
    ·refine Uc (fun M s=> ∃(j:List Int) (e:Int) (n:Int),s=(ofG 80 ((1,vl (qa .u64) b)::(kB j ((6,.i d)::(kS q n ((20,vl (qa .u64) a)::(kU (a.length:Int) d ((27,vl (qa .u64) b)::(kAS (b.length:Int) e)))))))),[.cells (j.flatMap (qa .u64).c)])/\zR b q d M j e n=some P) ?_ (m:=N) ⟨_,_,_,rfl,g13⟩
     rintro M s ⟨j,e,n,rfl,g13⟩
     cases M with
     |zero=>simp only[zR]at g13;cases g13
     |succ M=>
      rw[zR]at g13
      refine sh fol ((1,vl (qa .u64) b)::(kB j ((6,.i d)::(kS q n ((20,vl (qa .u64) a)::(kU (a.length:Int) d [(27,vl (qa .u64) b),(28,.i (b.length:Int)),(29,.i e),(30,.bool (decide (e<(b.length:Int))))])))))) ?_
      refine sq ?_
      refine ihD g13 (fun X g13=>?_) (fun X g13=>?_)
      ·refine Goes.skip ?_
       refine sq (Goes.block ?_)
       obtain⟨U,w,g13⟩:=bnd g13
       refine sq (gr fol [1,2] ((1,vl (qa .u64) b)::(kB j ((6,.i d)::(kS q n ((9,.i e)::(10,.int .u64 U)::(20,vl (qa .u64) a)::(kU (a.length:Int) d ((27,vl (qa .u64) b)::(kAS (b.length:Int) e)))))))) (ac (iv zt (qa .u64) w) (ac (lv 0 zx (qa .u64) w rfl) az)) ?_)
       obtain⟨f,H,g13⟩:=bnd g13
       refine sq (gr fol [2] ((1,vl (qa .u64) b)::(kB j ((6,.i d)::(kS q n ((9,.i e)::(kQ f.1 f.2 ((20,vl (qa .u64) a)::(kU (a.length:Int) d ((27,vl (qa .u64) b)::(kAS (b.length:Int) e)))))))))) (ac (cv (xu q U H)) az) ?_)
       refine sh fol ((1,vl (qa .u64) b)::(kB j ((6,.i d)::(kS q n ((9,.i e)::(kQ f.1 f.2 ((20,vl (qa .u64) a)::(kU (a.length:Int) d ((27,vl (qa .u64) b)::(kAS (b.length:Int) e)))))))))) ?_
       obtain⟨V,o,g13⟩:=bnd g13
       obtain⟨g,I,g13⟩:=bnd g13
       refine sq (gr fol [5,6,7] ((1,vl (qa .u64) b)::(kB j ((6,.i d)::(kS q n ((9,.i e)::(kQ f.1 g.1 ((13,.int .u64 g.2)::(20,vl (qa .u64) a)::(kU (a.length:Int) d ((27,vl (qa .u64) b)::(kAS (b.length:Int) e)))))))))) (ac (hs (.done (.opt (qd ZT 75 (.slice 0 0 j.length j.length 1) (.i (w64 (d+e))))) (.ptr 0 ((w64 (d+e):Int).toNat*1+0))) (vQ zt o)) (ac (hs (.run [0] (zJ ZT 182 (.ptr 0 ((w64 (d+e):Int).toNat*1+0))) [.cells (j.flatMap (qa .u64).c)] (.int .u64 V) [.cells (j.flatMap (qa .u64).c)] false) (qax zx (E:=(qa .u64)) (l:=j) rfl rfl o (nl rfl) rfl)) (ac (cv (qai f.2 V 0 I)) az))) ?_)
       refine sh fol ((1,vl (qa .u64) b)::(kB j ((6,.i d)::(kS q n ((9,.i e)::(kQ (IntKind.wrap .u64 (f.1+g.2)) g.1 ((20,vl (qa .u64) a)::(kU (a.length:Int) d ((27,vl (qa .u64) b)::(kAS (b.length:Int) e)))))))))) ?_
       obtain⟨p,J,g13⟩:=bnd g13
       refine sq (gr fol [2] ((1,vl (qa .u64) b)::(kB j ((6,.i d)::(kAO q ((9,.i e)::(kQ (IntKind.wrap .u64 (f.1+g.2)) p.1 ((13,.int .u64 p.2)::(20,vl (qa .u64) a)::(kU (a.length:Int) d ((27,vl (qa .u64) b)::(kAS (b.length:Int) e)))))))))) (ac (cv (qai g.1 n 0 J)) az) ?_)
       obtain⟨r,A,g13⟩:=bnd g13
       refine gq fol [8,9] ((1,vl (qa .u64) b)::(kB j ((6,.i d)::(kS q (IntKind.wrap .u64 ((IntKind.wrap .u64 (f.1+g.2))+p.2)) ((20,vl (qa .u64) a)::(kU (a.length:Int) d ((27,vl (qa .u64) b)::(kAS (b.length:Int) e)))))))) [.cells (r.flatMap (qa .u64).c)] (ac (hs (.done (.opt (qd ZT 75 (.slice 0 0 j.length j.length 1) (.i (w64 (d+e))))) (.ptr 0 ((w64 (d+e):Int).toNat*1+0))) (vQ zt o)) (ac (hs (.run [0] (qp ZT 182 (.ptr 0 ((w64 (d+e):Int).toNat*1+0)) (.int .u64 p.1)) [.cells (j.flatMap (qa .u64).c)] .undef [.cells (r.flatMap (qa .u64).c)] true) (yY (E:=(qa .u64)) (l:=j) (y:=p.1) rfl (show _=some 1 by kernel_rfl) rfl o rfl rfl rfl rfl rfl A rfl)) az)) ?_
       refine Goes.sub (show Sub (ofG 80 ((1,vl (qa .u64) b)::(kB j ((6,.i d)::(kS q (IntKind.wrap .u64 ((IntKind.wrap .u64 (f.1+g.2))+p.2)) ((20,vl (qa .u64) a)::(kU (a.length:Int) d ((27,vl (qa .u64) b)::(kAS (b.length:Int) e)))))))),[.cells (r.flatMap (qa .u64).c)]) (ofG 80 ((1,vl (qa .u64) b)::(kB r ((6,.i d)::(kS q (IntKind.wrap .u64 ((IntKind.wrap .u64 (f.1+g.2))+p.2)) ((20,vl (qa .u64) a)::(kU (a.length:Int) d ((27,vl (qa .u64) b)::(kAS (b.length:Int) e)))))))),[.cells (r.flatMap (qa .u64).c)])from(Sub.norm [] [some 0] rfl rfl (.keep (.same (qf (qa .u64) _)) (.keep (.sliceE rfl (vG A)) (.keep (.same nI) (.keep (.same nI) (.keep (.same nI) (.keep (.same (qf (qa .u64) _)) (.keep (.same nI) (.keep (.same nI) (.keep (.same (qf (qa .u64) _)) (.keep (.same nI) (.keep (.same nI) .nil))))))))))) (.ks .nil))) ?_
       refine gh fol ((1,vl (qa .u64) b)::(kB r ((6,.i d)::(kS q (IntKind.wrap .u64 ((IntKind.wrap .u64 (f.1+g.2))+p.2)) ((20,vl (qa .u64) a)::(kU (a.length:Int) d ((27,vl (qa .u64) b)::(kAS (b.length:Int) (w64 (e+1)))))))))) ?_
       exact⟨M,(ofG 80 ((1,vl (qa .u64) b)::(kB r ((6,.i d)::(kS q (IntKind.wrap .u64 ((IntKind.wrap .u64 (f.1+g.2))+p.2)) ((20,vl (qa .u64) a)::(kU (a.length:Int) d ((27,vl (qa .u64) b)::(kAS (b.length:Int) (w64 (e+1)))))))))),[.cells (r.flatMap (qa .u64).c)]),Nat.lt_succ_self _,(Sub.refl _),_,_,_,rfl,g13⟩
      refine Goes.exit ?_
      obtain rfl:=si g13
      exact⟨rfl,_,_,rfl,(Sub.keep [1,5,6,8,20,21,22] rfl rfl)⟩
    rintro x s' ⟨rfl,k,v,rfl,hsub⟩
    try dsimp only at g5
    refine Goes.sub hsub ?_
    obtain⟨a0,B,g5⟩:=bnd g5
    obtain⟨t,C,g5⟩:=bnd g5
    refine gq fol [6,7] ((1,vl (qa .u64) b)::(kB k ((20,vl (qa .u64) a)::(kU (a.length:Int) d [])))) [.cells (t.flatMap (qa .u64).c)] (ac (hs (.done (.opt (qd ZT 75 (.slice 0 0 k.length k.length 1) (.i (w64 (d+(b.length:Int)))))) (.ptr 0 ((w64 (d+(b.length:Int)):Int).toNat*1+0))) (vQ zt B)) (ac (hs (.run [0] (qp ZT 182 (.ptr 0 ((w64 (d+(b.length:Int)):Int).toNat*1+0)) (.int .u64 v)) [.cells (k.flatMap (qa .u64).c)] .undef [.cells (t.flatMap (qa .u64).c)] true) (yY (E:=(qa .u64)) (l:=k) (y:=v) rfl (show _=some 1 by kernel_rfl) rfl B rfl rfl rfl rfl rfl C rfl)) az)) ?_
    refine Goes.sub (show Sub (ofG 80 ((1,vl (qa .u64) b)::(kB k ((20,vl (qa .u64) a)::(kU (a.length:Int) d [])))),[.cells (t.flatMap (qa .u64).c)]) (ofG 80 ((1,vl (qa .u64) b)::(kB t ((20,vl (qa .u64) a)::(kU (a.length:Int) d [])))),[.cells (t.flatMap (qa .u64).c)])from(Sub.norm [] [some 0] rfl rfl (.keep (.same (qf (qa .u64) _)) (.keep (.sliceE rfl (vG C)) (.keep (.same (qf (qa .u64) _)) (.keep (.same nI) (.keep (.same nI) .nil))))) (.ks .nil))) ?_
    refine gh fol ((1,vl (qa .u64) b)::(kB t ((20,vl (qa .u64) a)::(kU (a.length:Int) (w64 (d+1)) [])))) ?_
    exact⟨M,(ofG 80 ((1,vl (qa .u64) b)::(kB t ((20,vl (qa .u64) a)::(kU (a.length:Int) (w64 (d+1)) [])))),[.cells (t.flatMap (qa .u64).c)]),Nat.lt_succ_self _,(Sub.refl _),_,_,rfl,g5⟩
   refine Goes.exit ?_
   obtain rfl:=si g5
   exact⟨rfl,_,rfl,(Sub.keep [5] rfl rfl)⟩
 rintro x s' ⟨rfl,u,rfl,hsub⟩
 refine Goes.sub hsub ?_
 obtain⟨D,K,h⟩:=bnd h
 refine sq (gq fol [1] [(4,vl (qa .u64) D)] [.frozen (u.flatMap (qa .u64).c)] (ac (hs (.callF 167 [.slice 0 0 u.length u.length 1] [.cells (u.flatMap (qa .u64).c)] [0] [vl (qa .u64) u] (vl (qa .u64) D)) (qbO (FzL.cons (Fz.sl (E:=(qa .u64)) rfl rfl (nl rfl)) FzL.nil) (ve N u K) (qZ (qa .u64) _ (nl rfl)))) az) ?_)
 refine Goes.sub (show Sub (ofG 80 [(4,vl (qa .u64) D)],[.frozen (u.flatMap (qa .u64).c)]) (ofG 80 [(4,vl (qa .u64) D)],[])from(Sub.norm [] [] rfl rfl (.keep (.same (qf (qa .u64) _)) .nil) .nil)) ?_
 refine Goes.ret ?_
 obtain rfl:=si h
 exact(gw2 [vl (qa .u64) D] (Ua (qZ (qa .u64) _ (nl rfl))))
def yO (N:Nat) (a:qm) (b:qm):Option qm:=
 (if a.w.isEmpty=true then
 some b.w.isEmpty
 else
 some false:Option Bool).bind fun j=>
 ((if j=true then
 (qad a.s).bind fun k=>
 (qad b.s).bind fun l=>
 (bits_Mul64 k l).bind fun e=>
 (if e.1=0 then
 some (decide (e.2<=9223372036854775807))
 else
 some false:Option Bool).bind fun f=>
 if f=true then
 if(!((decide (a.s<0))==(decide (b.s<0))))=true then
 some (.inr (⟨w64 (0-(w64 e.2)),[]⟩:qm))
 else
 some (.inr (⟨w64 e.2,[]⟩:qm))
 else
 some (.inl ())
 else
 some (.inl ()):Option (Unit⊕qm))).bind (fun
 |(.inl ())=>
 (qx a).bind fun c=>
 (qx b).bind fun d=>
 (yn N c.2 d.2).bind fun g=>
 (ji (!(c.1==d.1)) g).bind fun h=>
 some h
 |(.inr i)=>
 some i)
theorem qbJ (N:Nat) (a:qm) (b:qm) {res:qm} (h:yO N a b=some res):qc ZT (.fn 92) [.agg (nz1 a),.agg (nz1 b)] [] (.agg (nz1 res)) []:=by
 unfold yO at h
 refine Ub Tryz.func92 rfl rfl (m:=66) rfl (rs:=[.cell 4 77]) rfl (l:=[(0,.agg (nz1 a)),(1,.agg (nz1 b))]) rfl ?_
 refine sg fol (kE []) [.cells (nz1 a),.cells (nz1 b),bZ] ?_
 refine sq ?_
 refine sq ?_
 obtain⟨G,d,h⟩:=bnd h
 refine Goes.cut (s':=(ofG 66 (kE [(18,.bool G)]),[.cells (nz1 a),.cells (nz1 b),bZ])) ?_ ?_
 ·rcases wyB d with⟨y,d⟩|⟨y,d⟩
  ·obtain rfl:=si d
   exact tr fol [2,3,6] (kE [(18,.bool b.w.isEmpty)]) (ac (hs (.done (.opt (zn ZT .eql 75 (.tmp 12) (.const (.slice none 0 0)) (nvl (qa .u64) a.w) .nilslice)) (.bool a.w.isEmpty)) (y9 yP)) (ac (gw y) (ac (hs (.done (.opt (zn ZT .eql 75 (.tmp 16) (.const (.slice none 0 0)) (nvl (qa .u64) b.w) .nilslice)) (.bool b.w.isEmpty)) (y9 yP)) az)))
  obtain rfl:=si d
  exact tr fol [2,3] (kE [(18,.bool false)]) (ac (hs (.done (.opt (zn ZT .eql 75 (.tmp 12) (.const (.slice none 0 0)) (nvl (qa .u64) a.w) .nilslice)) (.bool a.w.isEmpty)) (y9 yP)) (ac (gw y) az))
 obtain⟨D,g4,h⟩:=bnd h
 refine Goes.imp (Q:=fun x s'=>(x= .normal/\(.inl ())=D/\Sub s' (ofG 66 (kE []),[.cells (nz1 a),.cells (nz1 b),bZ]))\/(x= .ret/\ ∃F,(.inr F)=D/\jF ZT [.cell 4 77] (.agg (nz1 F)) .ret s')) ?_ ?_
 ·refine ihB g4 (fun H g4=>?_) (fun H g4=>?_)
  ·obtain⟨I,t,g4⟩:=bnd g4
   obtain⟨J,u,g4⟩:=bnd g4
   obtain⟨f,v,g4⟩:=bnd g4
   refine sq (gr fol [2,5,6] (kE ((5,.int .u64 f.1)::(kY f.2 []))) (ac (cv (qbA a.s t)) (ac (cv (qbA b.s u)) (ac (cv (xu I J v)) az))) ?_)
   refine sq ?_
   obtain⟨z,c,g4⟩:=bnd g4
   refine Goes.cut (s':=(ofG 66 (kE (kY f.2 [(34,.bool z)])),[.cells (nz1 a),.cells (nz1 b),bZ])) ?_ ?_
   ·rcases wyD c with⟨k,c⟩|⟨k,c⟩
    ·obtain rfl:=si c
     exact tr fol [2] (kE (kY f.2 [(34,.bool (decide (f.2<=9223372036854775807)))])) (ac (gw k) az)
    obtain rfl:=si c
    exact tr fol [2] (kE (kY f.2 [(34,.bool false)])) (ac (gw k) az)
   refine ihB g4 (fun A g4=>?_) (fun A g4=>?_)
   ·refine sq ?_
    refine sh fol (kAV (kY f.2 [(41,.bool (!((decide (a.s<0))==(decide (b.s<0)))))])) ?_
    refine ihB g4 (fun B g4=>?_) (fun B g4=>?_)
    ·refine sg fol (kAV []) (.cells (nz1 a):: .cells (nz1 b)::(kAb (w64 (0-(w64 f.2))))) ?_
     refine Goes.ret ?_
     obtain rfl:=si g4
     exact Or.inr (⟨rfl,_,rfl,(gw2 [.agg [.i (w64 (0-(w64 f.2))),.nilslice]] (FzW.agg (qg.cons (Ua tI) (qg.cons (FzW.nv0 (E:=(qa .u64))) qg.nil))))⟩)
    refine Goes.skip ?_
    refine sg fol (kAV []) (.cells (nz1 a):: .cells (nz1 b)::(kAb (w64 f.2))) ?_
    refine Goes.ret ?_
    obtain rfl:=si g4
    exact Or.inr (⟨rfl,_,rfl,(gw2 [.agg [.i (w64 f.2),.nilslice]] (FzW.agg (qg.cons (Ua tI) (qg.cons (FzW.nv0 (E:=(qa .u64))) qg.nil))))⟩)
   refine Goes.skip ?_
   obtain rfl:=si g4
   exact Or.inl (⟨rfl,rfl,(Sub.keep [2,3,4] rfl rfl)⟩)
  refine Goes.skip ?_
  obtain rfl:=si g4
  exact Or.inl (⟨rfl,rfl,(Sub.keep [2,3,4] rfl rfl)⟩)
 rintro x s' (⟨rfl,rfl,hsub⟩|⟨rfl,K,rfl,hret⟩)
 ·try dsimp only at h
  refine Goes.sub hsub ?_
  obtain⟨e,o,h⟩:=bnd h
  refine sq (gr fol [1] ((3,.ptr 1 0)::(kAV [(7,.bool e.1),(8,vl (qa .u64) e.2)])) (ac (cv (zk a o)) az) ?_)
  obtain⟨g,p,h⟩:=bnd h
  refine sq (gr fol [1] (kAV [(7,.bool e.1),(8,vl (qa .u64) e.2),(9,.bool g.1),(10,vl (qa .u64) g.2)]) (ac (cv (zk b p)) az) ?_)
  obtain⟨C,q,h⟩:=bnd h
  obtain⟨j,r,h⟩:=bnd h
  refine sq (gq fol [5,6,7] (kAV []) [.cells (nz1 a),.cells (nz1 b),.cells (nz1 j)] (ac (cv (qdz N e.2 g.2 q)) (ac (cv (yf (!(e.1==g.1)) C r)) (ac (hs (.run [2] (qp ZT 77 (.ptr 2 0) (.agg (nz1 j))) [.cells (nz1 a),.cells (nz1 b),bZ] .undef [.cells (nz1 a),.cells (nz1 b),.cells (nz1 j)] true) (zK (n:=2) (by kernel_rfl) rfl rfl rfl rfl (cac rfl (cac nvc can)) rfl)) az))) ?_)
  refine Goes.ret ?_
  obtain rfl:=si h
  exact(gw2 [.agg (nz1 j)] (FzW.agg (qg.cons (Ua tI) (qg.cons (Ua (qE (qa .u64) _ (nl rfl))) qg.nil))))
 try dsimp only at h
 obtain rfl:=si h
 exact hret
def yj (N:Nat) (a:qP) (b:qP):Option qP:=
 (yO N a.Num b.Num).bind fun c=>
 (yO N a.Den b.Den).bind fun d=>
 (qaG N c d).bind fun e=>
 some e
theorem qbg (N:Nat) (a:qP) (b:qP) {res:qP} (h:yj N a b=some res):qc ZT (.fn 44) [.agg (nq1 a),.agg (nq1 b)] [] (.agg (nq1 res)) []:=by
 unfold yj at h
 refine Ub Tryz.func44 rfl rfl (m:=16) rfl (rs:=[.cell 4 79]) rfl (l:=[(0,.agg (nq1 a)),(1,.agg (nq1 b))]) rfl ?_
 refine sg fol (kE []) (.cells (nq1 a):: .cells (nq1 b)::(kJ [])) ?_
 obtain⟨g,c,h⟩:=bnd h
 obtain⟨i,d,h⟩:=bnd h
 obtain⟨f,e,h⟩:=bnd h
 refine sq (gq fol [4,9,10,11] (kAV []) [.cells (nq1 a),.cells (nq1 b),.cells (nq1 f)] (ac (cv (qbJ N a.Num b.Num c)) (ac (cv (qbJ N a.Den b.Den d)) (ac (cv (qdq N g i e)) (ac (hs (.run [2] (qp ZT 79 (.ptr 2 0) (.agg (nq1 f))) (.cells (nq1 a):: .cells (nq1 b)::(kJ [])) .undef [.cells (nq1 a),.cells (nq1 b),.cells (nq1 f)] true) (zK (n:=4) (by kernel_rfl) rfl rfl rfl rfl (cac rfl (cac nvc (cac rfl (cac nvc can)))) rfl)) az)))) ?_)
 refine Goes.ret ?_
 obtain rfl:=si h
 exact(gw2 [.agg (nq1 f)] (FzW.agg (qg.cons (Ua tI) (qg.cons (Ua (qE (qa .u64) _ (nl rfl))) (qg.cons (Ua tI) (qg.cons (Ua (qE (qa .u64) _ (nl rfl))) qg.nil))))))
def y7 (N:Nat) (a:qP):Option qP:=
 (qaG N a.Den a.Num).bind fun b=>
 some b
theorem qdt (N:Nat) (a:qP) {res:qP} (h:y7 N a=some res):qc ZT (.fn 74) [.agg (nq1 a)] [] (.agg (nq1 res)) []:=by
 unfold y7 at h
 refine Ub Tryz.func74 rfl rfl (m:=8) rfl (rs:=[.cell 2 79]) rfl (l:=[(0,.agg (nq1 a))]) rfl ?_
 refine sg fol (kAK kAj) (.cells (nq1 a)::(kJ [])) ?_
 obtain⟨c,b,h⟩:=bnd h
 refine sq (gq fol [4,5] kAj [.cells (nq1 a),.cells (nq1 c)] (ac (cv (qdq N a.Den a.Num b)) (ac (hs (.run [1] (qp ZT 79 (.ptr 1 0) (.agg (nq1 c))) (.cells (nq1 a)::(kJ [])) .undef [.cells (nq1 a),.cells (nq1 c)] true) (zK (n:=4) (by kernel_rfl) rfl rfl rfl rfl (cac rfl (cac nvc (cac rfl (cac nvc can)))) rfl)) az)) ?_)
 refine Goes.ret ?_
 obtain rfl:=si h
 exact(gw2 [.agg (nq1 c)] (FzW.agg (qg.cons (Ua tI) (qg.cons (Ua (qE (qa .u64) _ (nl rfl))) (qg.cons (Ua tI) (qg.cons (Ua (qE (qa .u64) _ (nl rfl))) qg.nil))))))
def yX (N:Nat) (a:qP) (b:qP):Option qP:=
 (y7 N b).bind fun c=>
 (yj N a c).bind fun d=>
 some d
theorem qdu (N:Nat) (a:qP) (b:qP) {res:qP} (h:yX N a b=some res):qc ZT (.fn 43) [.agg (nq1 a),.agg (nq1 b)] [] (.agg (nq1 res)) []:=by
 unfold yX at h
 refine Ub Tryz.func43 rfl rfl (m:=9) rfl (rs:=[.cell 4 79]) rfl (l:=[(0,.agg (nq1 a)),(1,.agg (nq1 b))]) rfl ?_
 refine sg fol (kE []) (.cells (nq1 a):: .cells (nq1 b)::(kJ [])) ?_
 obtain⟨f,c,h⟩:=bnd h
 obtain⟨e,d,h⟩:=bnd h
 refine sq (gq fol [2,3,4] (kAV []) [.cells (nq1 a),.cells (nq1 b),.cells (nq1 e)] (ac (cv (qdt N b c)) (ac (cv (qbg N a f d)) (ac (hs (.run [2] (qp ZT 79 (.ptr 2 0) (.agg (nq1 e))) (.cells (nq1 a):: .cells (nq1 b)::(kJ [])) .undef [.cells (nq1 a),.cells (nq1 b),.cells (nq1 e)] true) (zK (n:=4) (by kernel_rfl) rfl rfl rfl rfl (cac rfl (cac nvc (cac rfl (cac nvc can)))) rfl)) az))) ?_)
 refine Goes.ret ?_
 obtain rfl:=si h
 exact(gw2 [.agg (nq1 e)] (FzW.agg (qg.cons (Ua tI) (qg.cons (Ua (qE (qa .u64) _ (nl rfl))) (qg.cons (Ua tI) (qg.cons (Ua (qE (qa .u64) _ (nl rfl))) qg.nil))))))
def yZ (a:qm):Option Int:=
 (qx a).bind fun b=>
 if(b.2.length:Int)=0 then
 some 0
 else
 (idx b.2 (w64 ((b.2.length:Int)-1))).bind fun c=>
 (bits_Len64 c).bind fun d=>
 some (w64 ((w64 (64*(w64 ((b.2.length:Int)-1))))+d))
theorem qbf (a:qm) {res:Int} (h:yZ a=some res):qc ZT (.fn 119) [.agg (nz1 a)] [] (.i res) []:=by
 unfold yZ at h
 refine Ub Tryz.func119 rfl rfl (m:=25) rfl (rs:=[.tmp 2]) rfl (l:=[(0,.agg (nz1 a))]) rfl ?_
 refine sg fol (kAK []) [.cells (nz1 a)] ?_
 obtain⟨c,d,h⟩:=bnd h
 refine sq (gr fol [1] [(4,vl (qa .u64) c.2)] (ac (cv (zk a d)) az) ?_)
 refine sq ?_
 refine sh fol [(4,vl (qa .u64) c.2),(12,.bool (decide ((c.2.length:Int)=0)))] ?_
 refine ihD h (fun g h=>?_) (fun g h=>?_)
 ·refine sh fol [(2,.i 0)] ?_
  refine Goes.ret ?_
  obtain rfl:=si h
  exact(gw2 [.i 0] (Ua tI))
 refine Goes.skip ?_
 obtain⟨j,b,h⟩:=bnd h
 obtain⟨f,e,h⟩:=bnd h
 refine sq (gr fol [8,9,10] [(2,.i (w64 ((w64 (64*(w64 ((c.2.length:Int)-1))))+f)))] (ac (iv zt (qa .u64) b) (ac (lv 0 zx (qa .u64) b rfl) (ac (cv (qci j e)) az))) ?_)
 refine Goes.ret ?_
 obtain rfl:=si h
 exact(gw2 [.i (w64 ((w64 (64*(w64 ((c.2.length:Int)-1))))+f))] (Ua tI))
def stringslite_HasPrefix (b:Str) (a:Str):Option Bool:=
 (if(b.length:Int)>=(a.length:Int)then
 (cut b 0 (a.length:Int)).bind fun c=>
 some (c==a)
 else
 some false:Option Bool).bind fun d=>
 some d
theorem qaA (c:Str) (a:Str) {res:Bool} (h:stringslite_HasPrefix c a=some res):qc ZT (.fn 169) [.str c,.str a] [] (.bool res) []:=by
 unfold stringslite_HasPrefix at h
 refine Ub Tryz.func169 rfl rfl (m:=18) rfl (rs:=[.tmp 4]) rfl (l:=(kAl c a)) rfl ?_
 refine sh fol (kAl c a) ?_
 refine sq ?_
 obtain⟨f,b,h⟩:=bnd h
 refine Goes.cut (s':=(ofG 18 [(4,.bool f)],[])) ?_ ?_
 ·rcases wyD b with⟨e,b⟩|⟨e,b⟩
  ·obtain⟨g,d,b⟩:=bnd b
   obtain rfl:=si b
   exact tr fol [5,9] [(4,.bool (g==a))] (ac (gw e) (ac (hs (.done (.opt (yx ZT 9 (.str c) none (some (.i (a.length:Int))) none)) (.str g)) (qht st9 none (some (a.length:Int)) d)) az))
  obtain rfl:=si b
  exact tr fol [5] [(4,.bool false)] (ac (gw e) az)
 refine Goes.ret ?_
 obtain rfl:=si h
 exact(gw2 [.bool f] (Ua tB))
def stringslite_TrimPrefix (b:Str) (a:Str):Option Str:=
 (stringslite_HasPrefix b a).bind fun c=>
 if c=true then
 (cut b (a.length:Int) (b.length:Int)).bind fun d=>
 some d
 else
 some b
theorem qaq (b:Str) (a:Str) {res:Str} (h:stringslite_TrimPrefix b a=some res):qc ZT (.fn 170) [.str b,.str a] [] (.str res) []:=by
 unfold stringslite_TrimPrefix at h
 refine Ub Tryz.func170 rfl rfl (m:=13) rfl (rs:=[.tmp 4]) rfl (l:=(kAl b a)) rfl ?_
 refine sh fol (kAl b a) ?_
 refine sq ?_
 obtain⟨f,c,h⟩:=bnd h
 refine sq (gr fol [2] [(0,.str b),(1,.str a),(7,.bool f)] (ac (cv (qaA b a c)) az) ?_)
 refine ihB h (fun g h=>?_) (fun g h=>?_)
 ·obtain⟨e,d,h⟩:=bnd h
  refine sq (gr fol [3] [(4,.str e)] (ac (hs (.done (.opt (yx ZT 9 (.str b) (some (.i (a.length:Int))) none none)) (.str e)) (qht st9 (some (a.length:Int)) none d)) az) ?_)
  refine Goes.ret ?_
  obtain rfl:=si h
  exact(gw2 [.str e] (Ua tS))
 refine Goes.skip ?_
 refine sh fol [(4,.str b)] ?_
 refine Goes.ret ?_
 obtain rfl:=si h
 exact(gw2 [.str b] (Ua tS))
def strings_TrimPrefix (b:Str) (a:Str):Option Str:=
 (stringslite_TrimPrefix b a).bind fun c=>
 some c
theorem qbo (b:Str) (a:Str) {res:Str} (h:strings_TrimPrefix b a=some res):qc ZT (.fn 126) [.str b,.str a] [] (.str res) []:=by
 unfold strings_TrimPrefix at h
 refine Ub Tryz.func126 rfl rfl (m:=8) rfl (rs:=[.tmp 4]) rfl (l:=(kAl b a)) rfl ?_
 refine sh fol (kAl b a) ?_
 obtain⟨d,c,h⟩:=bnd h
 refine sq (gr fol [2] [(4,.str d)] (ac (cv (qaq b a c)) az) ?_)
 refine Goes.ret ?_
 obtain rfl:=si h
 exact(gw2 [.str d] (Ua tS))
def zL (N:Nat):Nat->(List Str)->(List Int)->Option (List Str)
 |0,_,_=>none
 |K+1,i,j=>
  if(j.length:Int)>0 then
  (yI N j ([1000000000000000000]:List Int)).bind fun b=>
  ((if(b.2.length:Int)>0 then
  (idx b.2 0).bind fun c=>
  (qd8 c 10).bind fun d=>
  some d
  else
  some [48]:Option Str)).bind fun a=>
  ((if(b.1.length:Int)>0 then
  (qb0 [48] (w64 (18-(a.length:Int)))).bind fun e=>
  (cat e a).bind fun f=>
  some f
  else
  some a:Option Str)).bind fun g=>
  (app 16 i [g]).bind fun h=>
  zL N K h b.1
  else
  some i
def ky (e:List Str):Nat->Bool->(Option (List Int))->Int->Option (Bool×(Option (List Int)))
 |0,_,_,_=>none
 |K+1,ok27,b,a=>
  if a>=0 then
  (idx e a).bind fun c=>
  (bWr ok27 b c).bind fun d=>
  ky e K true (some d) (w64 (a-1))
  else
  some (ok27,b)
def jg (N:Nat) (a:qm):Option Str:=
 if a.w.isEmpty=true then
 (qhX a.s).bind fun h=>
 some h
 else
 (qx a).bind fun f=>
 (zL N N ([]:List Str) f.2).bind fun g=>
 ((if f.1=true then
 (bWr false (none:Option (List Int)) [45]).bind fun b=>
 some (true,(some b))
 else
 some (false,(none:Option (List Int))):Option (Bool×(Option (List Int))))).bind fun(ok21,c)=>
 (ky g N ok21 c (w64 ((g.length:Int)-1))).bind fun(ok30,d)=>
 (qiY ok30 d).bind fun e=>
 some e
theorem vR (N:Nat) (a:qm) {res:Str} (h:jg N a=some res):qc ZT (.fn 149) [.agg (nz1 a)] [] (.str res) []:=by
 unfold jg at h
 refine Ub Tryz.func149 rfl rfl (m:=69) rfl (rs:=[.tmp 2]) rfl (l:=[(0,.agg (nz1 a))]) rfl ?_
 refine sg fol (kAK []) [.cells (nz1 a)] ?_
 refine sq ?_
 refine sq (gr fol [2] (kAK [(14,.bool a.w.isEmpty)]) (ac (hs (.done (.opt (zn ZT .eql 75 (.tmp 13) (.const (.slice none 0 0)) (nvl (qa .u64) a.w) .nilslice)) (.bool a.w.isEmpty)) (y9 yP)) az) ?_)
 refine ihB h (fun c1 h=>?_) (fun c1 h=>?_)
 ·obtain⟨r2,J,h⟩:=bnd h
  refine sq (gr fol [2] [(2,.str r2)] (ac (cv (qj8 a.s J)) az) ?_)
  refine Goes.ret ?_
  obtain rfl:=si h
  exact(gw2 [.str r2] (Ua tS))
 refine Goes.skip ?_
 obtain⟨d,K,h⟩:=bnd h
 refine sq (gr fol [1] [(3,.bool d.1),(4,vl (qa .u64) d.2)] (ac (cv (zk a K)) az) ?_)
 refine sg fol [(3,.bool d.1),(4,vl (qa .u64) d.2),(5,.slice 1 0 1 1 1)] [.cells (nz1 a),.cells [.int .u64 1000000000000000000]] ?_
 refine sh fol [(3,.bool d.1),(4,vl (qa .u64) d.2),(5,.slice 1 0 1 1 1),(6,.nilslice)] ?_
 refine sq (Goes.block ?_)
 obtain⟨r7,g7,h⟩:=bnd h
 refine Goes.imp (Q:=fun x s'=>(x= .exit 0/\ ∃b,b=r7/\Sub s' (ofG 69 ((3,.bool d.1)::(kV b [])),(kW b [])))) ?_ ?_
 ·refine Goes.sub (s':=(ofG 69 [(3,.bool d.1),(4,vl (qa .u64) d.2),(5,vl (qa .u64) ([1000000000000000000]:List Int)),(6,.gslice 0 ([]:List Str).length 1)],[.cells (([]:List Str).flatMap encS.c)])) (Sub.norm [1] [none] rfl rfl (.keep (.same nB) (.keep (.same (qf (qa .u64) _)) (.keep (.frz (Fz.lit rfl rfl (FzL.still (AllST.cons tI AllST.nil))) (qf (qa .u64) _)) (.keep .nil .nil)))) (.fresh .nil)) ?_
  refine Uc (fun M s=> ∃(g:List Str) (I:List Int),s=(ofG 69 ((3,.bool d.1)::(4,vl (qa .u64) I)::(5,vl (qa .u64) ([1000000000000000000]:List Int))::(kV g [])),(kW g []))/\zL N M g I=some r7) ?_ (m:=N) ⟨_,_,rfl,g7⟩
  rintro M s ⟨g,I,rfl,g7⟩
  cases M with
  |zero=>simp only[zL]at g7;cases g7
  |succ M=>
   rw[zL]at g7
   refine sq ?_
   refine sh fol ((3,.bool d.1)::(4,vl (qa .u64) I)::(5,vl (qa .u64) ([1000000000000000000]:List Int))::(kV g [(26,.bool (decide ((I.length:Int)>0)))])) ?_
   refine ihD g7 (fun c8 g7=>?_) (fun c8 g7=>?_)
   ·refine Goes.skip ?_
    refine Goes.block ?_
    obtain⟨j,L,g7⟩:=bnd g7
    refine sq (gr fol [2] ((3,.bool d.1)::(5,vl (qa .u64) ([1000000000000000000]:List Int))::(kV g [(7,vl (qa .u64) j.1),(8,vl (qa .u64) j.2)])) (ac (cv (qcf N I ([1000000000000000000]:List Int) L)) az) ?_)
    refine sh fol ((3,.bool d.1)::(5,vl (qa .u64) ([1000000000000000000]:List Int))::(kV g [(7,vl (qa .u64) j.1),(8,vl (qa .u64) j.2),(9,.str [48])])) ?_
    refine sq ?_
    refine sh fol ((3,.bool d.1)::(5,vl (qa .u64) ([1000000000000000000]:List Int))::(kV g [(7,vl (qa .u64) j.1),(8,vl (qa .u64) j.2),(9,.str [48]),(35,.bool (decide ((j.2.length:Int)>0)))])) ?_
    obtain⟨U,g11,g7⟩:=bnd g7
    refine Goes.imp (Q:=fun x s'=>(x= .normal/\ ∃p,p=U/\Sub s' (ofG 69 ((3,.bool d.1)::(5,vl (qa .u64) ([1000000000000000000]:List Int))::(kV g [(7,vl (qa .u64) j.1),(9,.str p)])),(kW g [])))) ?_ ?_
    ·refine ihD g11 (fun V g11=>?_) (fun V g11=>?_)
     ·obtain⟨X,r,g11⟩:=bnd g11
      obtain⟨Y,z,g11⟩:=bnd g11
      refine gr fol [1,2,3] ((3,.bool d.1)::(5,vl (qa .u64) ([1000000000000000000]:List Int))::(kV g [(7,vl (qa .u64) j.1),(9,.str Y)])) (ac (iv zt (qa .u64) r) (ac (lv 0 zx (qa .u64) r rfl) (ac (cv (qkd X 10 z)) az))) ?_
      obtain rfl:=si g11
      exact⟨rfl,_,rfl,(Sub.refl _)⟩
     refine Goes.skip ?_
     obtain rfl:=si g11
     exact⟨rfl,_,rfl,(Sub.keep [3,5,6,7,9] rfl rfl)⟩
    rintro x s' ⟨rfl,p,rfl,hsub⟩
    refine Goes.sub hsub ?_
    refine sq ?_
    refine sh fol ((3,.bool d.1)::(5,vl (qa .u64) ([1000000000000000000]:List Int))::(kV g [(7,vl (qa .u64) j.1),(9,.str p),(42,.bool (decide ((j.1.length:Int)>0)))])) ?_
    obtain⟨Z,g16,g7⟩:=bnd g7
    refine Goes.imp (Q:=fun x s'=>(x= .normal/\ ∃k,k=Z/\Sub s' (ofG 69 ((3,.bool d.1)::(5,vl (qa .u64) ([1000000000000000000]:List Int))::(kV g [(7,vl (qa .u64) j.1),(9,.str k)])),(kW g [])))) ?_ ?_
    ·refine ihD g16 (fun a0 g16=>?_) (fun a0 g16=>?_)
     ·obtain⟨a1,A,g16⟩:=bnd g16
      obtain⟨O,B,g16⟩:=bnd g16
      refine gr fol [3,5] ((3,.bool d.1)::(5,vl (qa .u64) ([1000000000000000000]:List Int))::(kV g [(7,vl (qa .u64) j.1),(9,.str O)])) (ac (cv (qgW [48] (w64 (18-(p.length:Int))) A)) (ac (hs (.done (.opt (zn ZT .add 9 (.tmp 46) (.tmp 47) (.str a1) (.str p))) (.str O)) (qbW B)) az)) ?_
      obtain rfl:=si g16
      exact⟨rfl,_,rfl,(Sub.refl _)⟩
     refine Goes.skip ?_
     obtain rfl:=si g16
     exact⟨rfl,_,rfl,(Sub.keep [3,5,6,7,9] rfl rfl)⟩
    rintro x s' ⟨rfl,k,rfl,hsub⟩
    refine Goes.sub hsub ?_
    obtain⟨n,C,g7⟩:=bnd g7
    refine sq (gq fol [3] [(3,.bool d.1),(5,vl (qa .u64) ([1000000000000000000]:List Int)),(6,.gslice 2 n.length 1),(7,vl (qa .u64) j.1)] (.dead:: .cells [.str k]::(kW n [])) (ac (hs (.run [0,1] (yo ZT [206,206] (.gslice 0 g.length 1) (.slice 1 0 1 1 1)) (kW g [.cells [.str k]]) (.gslice 2 n.length 1) (.dead:: .cells [.str k]::(kW n [])) true) (qbb qlT (E:=encS) rfl (qd5 (E:=encS) (ys:=[k]) rfl rfl rfl rfl) (qfg (E:=encS) (l:=g) rfl rfl rfl C rfl))) az) ?_)
    refine gh fol [(3,.bool d.1),(4,vl (qa .u64) j.1),(5,vl (qa .u64) ([1000000000000000000]:List Int)),(6,.gslice 2 n.length 1)] ?_
    exact⟨M,(ofG 69 ((3,.bool d.1)::(4,vl (qa .u64) j.1)::(5,vl (qa .u64) ([1000000000000000000]:List Int))::(kV n [])),(kW n [])),Nat.lt_succ_self _,(Sub.norm [] [some 2] rfl rfl (.keep (.same nB) (.keep (.same (qf (qa .u64) _)) (.keep (.same (qf (qa .u64) _)) (.keep (.gslice rfl) .nil)))) (.ks .nil)),_,_,rfl,g7⟩
   refine Goes.exit ?_
   obtain rfl:=si g7
   exact⟨rfl,_,rfl,(Sub.keep [3,6] rfl rfl)⟩
 rintro x s' ⟨rfl,b,rfl,hsub⟩
 refine Goes.sub hsub ?_
 refine sg fol ((3,.bool d.1)::(kV b (kAq []))) (kW b [.bld 173 5 [.nilptr,.nilslice]]) ?_
 refine sq ?_
 refine sh fol (kV b (kAq [(54,.bool d.1)])) ?_
 obtain⟨a2,g23,h⟩:=bnd h
 refine Goes.imp (Q:=fun x s'=>(x= .normal/\ ∃ok21 u,(ok21,u)=a2/\Sub s' (ofG 69 (kV b (kAq [])),(kW b [.bld 173 5 [pz ok21 1 0,hsl 2 1 u],.cells ((hof u).flatMap (qa .u8).c)])))) ?_ ?_
 ·refine ihB g23 (fun a3 g23=>?_) (fun a3 g23=>?_)
  ·refine Goes.sub (s':=(ofG 69 (kV b (kAq [(54,.bool d.1)])),(kW b [.bld 173 5 [pz false 1 0,.nilslice]]))) (Sub.norm [] [some 0,some 1] rfl rfl (.keep (.gslice rfl) (.kp (.keep (.same nB) .nil))) (.ks (.kb rfl (.bld (rc (zi.pz0) (rc (.same (qw.nilslice)) rn))) .nil))) ?_
   refine Goes.sub (s':=(ofG 69 (kV b (kAq [(54,.bool d.1)])),(kW b [.bld 173 5 [pz false 1 0,hsl 2 1 (none:Option (List Int))],.cells ((hof (none:Option (List Int))).flatMap (qa .u8).c)]))) (Sub.norm [] [some 0,some 1,none] rfl rfl (.keep (.gslice rfl) (.kp (.keep (.same nB) .nil))) (.ks (.kb rfl (.bld (rc (zi.pz0) (rc .hs0 rn))) (.fresh .nil)))) ?_
   obtain⟨v,D,g23⟩:=bnd g23
   refine gq fol [0] (kV b (kAq [])) (kW b [.bld 173 5 [pz true 1 0,hsl 3 1 (some v)],.dead,.cells ((hof (some v)).flatMap (qa .u8).c)]) (ac (hs (.callH 130 [.ptr 1 0,.str [45]] (kW b [.bld 173 5 [pz false 1 0,hsl 2 1 (none:Option (List Int))],.cells ((hof (none:Option (List Int))).flatMap (qa .u8).c)]) [1,2] (.tuple [.i (([45].length:Nat):Int),.niliface]) (kW b [.bld 173 5 [pz true 1 0,hsl 3 1 (some v)],.dead,.cells ((hof (some v)).flatMap (qa .u8).c)])) (qak [some 1,some 2] [none,some 0,none,some 2] (qkW false (none:Option (List Int)) [45] D) (.kb rfl (.bld (rc (zi.pz0) (rc .hs0 rn))) (.ks .nil)) rfl rfl (.old rfl rfl (.back rfl rfl (.bld (rc ((zi.pz rfl)) (rc (.hs rfl) rn))) rfl (.dead (.new rfl rfl (.same fa) rfl .nil)))) (rc (.ptr rfl) (rc (.same nS) rn)) (.same (qw.tuple sn)) rfl)) az) ?_
   obtain rfl:=si g23
   exact⟨rfl,_,_,rfl,(Sub.norm [] [some 0,some 1,some 3] rfl rfl (.keep (.gslice rfl) (.kp .nil)) (.ks (.kb rfl (.bld (rc ((zi.pz rfl)) (rc (.hs rfl) rn))) (.ks .nil))))⟩
  refine Goes.skip ?_
  obtain rfl:=si g23
  exact⟨rfl,_,_,rfl,(Sub.norm [] [some 0,some 1,none] rfl rfl (.keep (.gslice rfl) (.kp .nil)) (.ks (.kb rfl (.bld (rc (zi.pz0) (rc .hs0 rn))) (.fresh .nil))))⟩
 rintro x s' ⟨rfl,ok21,u,rfl,hsub⟩
 try dsimp only at h
 refine Goes.sub hsub ?_
 refine sq ?_
 refine sh fol (kV b (kAq [(11,.i (w64 ((b.length:Int)-1)))])) ?_
 refine Goes.block ?_
 obtain⟨P,g32,h⟩:=bnd h
 refine Goes.imp (Q:=fun x s'=>(x= .exit 2/\ ∃ok30 o,(ok30,o)=P/\Sub s' (ofG 69 [(10,.ptr 0 0)],[.bld 173 5 [pz ok30 0 0,hsl 1 1 o],.cells ((hof o).flatMap (qa .u8).c)]))) ?_ ?_
 ·refine Uc (fun M s=> ∃(ok27:Bool) (e:Option (List Int)) (f:Int),s=(ofG 69 (kV b (kAq [(11,.i f)])),(kW b [.bld 173 5 [pz ok27 1 0,hsl 2 1 e],.cells ((hof e).flatMap (qa .u8).c)]))/\ky b M ok27 e f=some P) ?_ (m:=N) ⟨_,_,_,rfl,g32⟩
  rintro M s ⟨ok27,e,f,rfl,g32⟩
  cases M with
  |zero=>simp only[ky]at g32;cases g32
  |succ M=>
   rw[ky]at g32
   refine sq ?_
   refine sh fol (kV b (kAq [(11,.i f),(60,.bool (decide (f>=0)))])) ?_
   refine ihD g32 (fun a4 g32=>?_) (fun a4 g32=>?_)
   ·refine Goes.skip ?_
    refine sq (Goes.block ?_)
    obtain⟨y,t,g32⟩:=bnd g32
    obtain⟨q,F,g32⟩:=bnd g32
    refine gq fol [2,3,4] (kV b (kAq [(11,.i f)])) (kW b [.bld 173 5 [pz true 1 0,hsl 3 1 (some q)],.dead,.cells ((hof (some q)).flatMap (qa .u8).c)]) (ac (hs (.done (.opt (qd ZT 206 (.gslice 0 b.length 1) (.i f))) (.ptr 0 ((f:Int).toNat*1+0))) (qk2 qlT t)) (ac (hs (.run [0] (zJ ZT 9 (.ptr 0 ((f:Int).toNat*1+0))) (kW b [.bld 173 5 [pz ok27 1 0,hsl 2 1 e],.cells ((hof e).flatMap (qa .u8).c)]) (.str y) (kW b [.bld 173 5 [pz ok27 1 0,hsl 2 1 e],.cells ((hof e).flatMap (qa .u8).c)]) false) (qax ce9 (E:=encS) (l:=b) rfl rfl t (nl rfl) rfl)) (ac (hs (.callH 130 [.ptr 1 0,.str y] (kW b [.bld 173 5 [pz ok27 1 0,hsl 2 1 e],.cells ((hof e).flatMap (qa .u8).c)]) [1,2] (.tuple [.i ((y.length:Nat):Int),.niliface]) (kW b [.bld 173 5 [pz true 1 0,hsl 3 1 (some q)],.dead,.cells ((hof (some q)).flatMap (qa .u8).c)])) (qak [some 1,some 2] [none,some 0,none,some 2] (qkW ok27 e y F) (.kb rfl (.bld (rc ((zi.pz rfl)) (rc (.hs rfl) rn))) (.ks .nil)) rfl rfl (.old rfl rfl (.back rfl rfl (.bld (rc ((zi.pz rfl)) (rc (.hs rfl) rn))) rfl (.dead (.new rfl rfl (.same fa) rfl .nil)))) (rc (.ptr rfl) (rc (.same nS) rn)) (.same (qw.tuple sn)) rfl)) az))) ?_
    refine gh fol (kV b (kAq [(11,.i (w64 (f-1)))])) ?_
    exact⟨M,(ofG 69 (kV b (kAq [(11,.i (w64 (f-1)))])),(kW b [.bld 173 5 [pz true 1 0,hsl 2 1 (some q)],.cells ((hof (some q)).flatMap (qa .u8).c)])),Nat.lt_succ_self _,(Sub.norm [] [some 0,some 1,some 3] rfl rfl (.keep (.gslice rfl) (.kp (.keep (.same nI) .nil))) (.ks (.kb rfl (.bld (rc ((zi.pz rfl)) (rc (.hs rfl) rn))) (.ks .nil)))),_,_,_,rfl,g32⟩
   refine Goes.exit ?_
   obtain rfl:=si g32
   exact⟨rfl,_,_,rfl,(Sub.norm [] [some 1,some 2] rfl rfl (.drop (.kp .nil)) (.kb rfl (.bld (rc ((zi.pz rfl)) (rc (.hs rfl) rn))) (.ks .nil)))⟩
 rintro x s' ⟨rfl,ok30,o,rfl,hsub⟩
 try dsimp only at h
 refine Goes.sub hsub ?_
 obtain⟨G,H,h⟩:=bnd h
 refine sq (gq fol [0] [(2,.str G)] [.dead,.dead] (ac (hs (.callH 132 [.ptr 0 0] [.bld 173 5 [pz ok30 0 0,hsl 1 1 o],.cells ((hof o).flatMap (qa .u8).c)] [0,1] (.str G) [.dead,.dead]) (qak [some 0,some 1] [none,none] (qlH ok30 o H) (.kb rfl (.bld (rc ((zi.pz rfl)) (rc (.hs rfl) rn))) (.ks .nil)) rfl rfl (.dead (.dead .nil)) (rc (.ptr rfl) rn) (.same nS) rfl)) az) ?_)
 refine Goes.ret ?_
 obtain rfl:=si h
 exact(gw2 [.str G] (Ua tS))
def qaQ (N:Nat) (n:qm):Option Bool:=
 ((yZ n).bind fun a=>
 if a>1800 then
 (jg N n).bind fun b=>
 (strings_TrimPrefix b [45]).bind fun c=>
 some (decide ((c.length:Int)>600))
 else
 some false:Option Bool).bind fun d=>
 some d
theorem qbC (N:Nat) (n:qm) {res:Bool} (h:qaQ N n=some res):qc ZT (.fn 148) [.agg (nz1 n)] [] (.bool res) []:=by
 unfold qaQ at h
 refine Ub Tryz.func148 rfl rfl (m:=13) rfl (rs:=[.tmp 2]) rfl (l:=[(0,.agg (nz1 n))]) rfl ?_
 refine sg fol (kAK []) [.cells (nz1 n)] ?_
 refine sq ?_
 obtain⟨f,a,h⟩:=bnd h
 refine Goes.cut (s':=(ofG 13 [(2,.bool f)],[.cells (nz1 n)])) ?_ ?_
 ·obtain⟨j,b,a⟩:=bnd a
  rcases wyD a with⟨e,a⟩|⟨e,a⟩
  ·obtain⟨g,c,a⟩:=bnd a
   obtain⟨i,d,a⟩:=bnd a
   obtain rfl:=si a
   exact tr fol [1,3,5,6] [(2,.bool (decide ((i.length:Int)>600)))] (ac (cv (qbf n b)) (ac (gw e) (ac (cv (vR N n c)) (ac (cv (qbo g [45] d)) az))))
  obtain rfl:=si a
  exact tr fol [1,3] [(2,.bool false)] (ac (cv (qbf n b)) (ac (gw e) az))
 refine Goes.ret ?_
 obtain rfl:=si h
 exact(gw2 [.bool f] (Ua tB))
def vW (N:Nat) (a:qP):Option Bool:=
 ((qaQ N a.Num).bind fun b=>
 if b=true then
 some true
 else
 (qaQ N a.Den).bind fun c=>
 some c:Option Bool).bind fun d=>
 some d
theorem qcE (N:Nat) (a:qP) {res:Bool} (h:vW N a=some res):qc ZT (.fn 93) [.agg (nq1 a)] [] (.bool res) []:=by
 unfold vW at h
 refine Ub Tryz.func93 rfl rfl (m:=11) rfl (rs:=[.tmp 2]) rfl (l:=[(0,.agg (nq1 a))]) rfl ?_
 refine sg fol (kAK []) [.cells (nq1 a)] ?_
 refine sq ?_
 obtain⟨f,b,h⟩:=bnd h
 refine Goes.cut (s':=(ofG 11 [(2,.bool f)],[.cells (nq1 a)])) ?_ ?_
 ·obtain⟨i,c,b⟩:=bnd b
  rcases wyB b with⟨e,b⟩|⟨e,b⟩
  ·obtain rfl:=si b
   exact tr fol [2,3] [(2,.bool true)] (ac (cv (qbC N a.Num c)) (ac (gw e) az))
  obtain⟨g,d,b⟩:=bnd b
  obtain rfl:=si b
  exact tr fol [2,3,6] [(2,.bool g)] (ac (cv (qbC N a.Num c)) (ac (gw e) (ac (cv (qbC N a.Den d)) az)))
 refine Goes.ret ?_
 obtain rfl:=si h
 exact(gw2 [.bool f] (Ua tB))
def jW (a:qP):Option Bool:=
 (if a.Den.w.isEmpty=true then
 some (decide (a.Den.s=1))
 else
 some false:Option Bool).bind fun b=>
 some b
theorem qb6 (a:qP) {res:Bool} (h:jW a=some res):qc ZT (.fn 142) [.agg (nq1 a)] [] (.bool res) []:=by
 unfold jW at h
 refine Ub Tryz.func142 rfl rfl (m:=13) rfl (rs:=[.tmp 2]) rfl (l:=[(0,.agg (nq1 a))]) rfl ?_
 refine sg fol (kAK []) [.cells (nq1 a)] ?_
 refine sq ?_
 obtain⟨d,b,h⟩:=bnd h
 refine Goes.cut (s':=(ofG 13 [(2,.bool d)],[.cells (nq1 a)])) ?_ ?_
 ·rcases wyB b with⟨c,b⟩|⟨c,b⟩
  ·obtain rfl:=si b
   exact tr fol [3,4] [(2,.bool (decide (a.Den.s=1)))] (ac (hs (.done (.opt (zn ZT .eql 75 (.tmp 5) (.const (.slice none 0 0)) (nvl (qa .u64) a.Den.w) .nilslice)) (.bool a.Den.w.isEmpty)) (y9 yP)) (ac (gw c) az))
  obtain rfl:=si b
  exact tr fol [3,4] [(2,.bool false)] (ac (hs (.done (.opt (zn ZT .eql 75 (.tmp 5) (.const (.slice none 0 0)) (nvl (qa .u64) a.Den.w) .nilslice)) (.bool a.Den.w.isEmpty)) (y9 yP)) (ac (gw c) az))
 refine Goes.ret ?_
 obtain rfl:=si h
 exact(gw2 [.bool d] (Ua tB))
def yB (N:Nat) (a:qP):Option Str:=
 (jW a).bind fun b=>
 if b=true then
 (jg N a.Num).bind fun c=>
 some c
 else
 (jg N a.Num).bind fun d=>
 (cat d [47]).bind fun e=>
 (jg N a.Den).bind fun f=>
 (cat e f).bind fun g=>
 some g
theorem qcZ (N:Nat) (a:qP) {res:Str} (h:yB N a=some res):qc ZT (.fn 94) [.agg (nq1 a)] [] (.str res) []:=by
 unfold yB at h
 refine Ub Tryz.func94 rfl rfl (m:=16) rfl (rs:=[.tmp 2]) rfl (l:=[(0,.agg (nq1 a))]) rfl ?_
 refine sg fol (kAK []) [.cells (nq1 a)] ?_
 refine sq ?_
 obtain⟨n,b,h⟩:=bnd h
 refine sq (gr fol [1] (kAK [(4,.bool n)]) (ac (cv (qb6 a b)) az) ?_)
 refine ihB h (fun o h=>?_) (fun o h=>?_)
 ·obtain⟨j,c,h⟩:=bnd h
  refine sq (gr fol [2] [(2,.str j)] (ac (cv (vR N a.Num c)) az) ?_)
  refine Goes.ret ?_
  obtain rfl:=si h
  exact(gw2 [.str j] (Ua tS))
 refine Goes.skip ?_
 obtain⟨p,d,h⟩:=bnd h
 obtain⟨k,e,h⟩:=bnd h
 obtain⟨q,f,h⟩:=bnd h
 obtain⟨i,g,h⟩:=bnd h
 refine sq (gr fol [2,3,6,7] [(2,.str i)] (ac (cv (vR N a.Num d)) (ac (hs (.done (.opt (zn ZT .add 9 (.tmp 10) (.const (.string ⟨#[47]⟩)) (.str p) (.str [47]))) (.str k)) (qbW e)) (ac (cv (vR N a.Den f)) (ac (hs (.done (.opt (zn ZT .add 9 (.tmp 11) (.tmp 14) (.str k) (.str q))) (.str i)) (qbW g)) az)))) ?_)
 refine Goes.ret ?_
 obtain rfl:=si h
 exact(gw2 [.str i] (Ua tS))
def vM (N:Nat) (a:qP):Option (Str×Int):=
 (vW N a).bind fun b=>
 if b=true then
 some ([],4)
 else
 (yB N a).bind fun c=>
 some (c,0)
theorem qc9 (N:Nat) (a:qP) {res:Str×Int} (h:vM N a=some res):qc ZT (.fn 45) [.agg (nq1 a)] [] (.tuple [.str res.1,.i res.2]) []:=by
 unfold vM at h
 refine Ub Tryz.func45 rfl rfl (m:=8) rfl (rs:=[.tmp 2,.tmp 3]) rfl (l:=[(0,.agg (nq1 a))]) rfl ?_
 refine sg fol (kAK []) [.cells (nq1 a)] ?_
 refine sq ?_
 obtain⟨e,b,h⟩:=bnd h
 refine sq (gr fol [1] (kAK [(5,.bool e)]) (ac (cv (qcE N a b)) az) ?_)
 refine ihB h (fun f h=>?_) (fun f h=>?_)
 ·refine sh fol [(2,.str []),(3,.i 4)] ?_
  refine Goes.ret ?_
  obtain rfl:=si h
  exact(gw2 [.str [],.i 4] (FzW.tuple (qg.cons (Ua tS) (qg.cons (Ua tI) qg.nil))))
 refine Goes.skip ?_
 obtain⟨d,c,h⟩:=bnd h
 refine sq (gr fol [1] [(2,.str d),(3,.i 0)] (ac (cv (qcZ N a c)) az) ?_)
 refine Goes.ret ?_
 obtain rfl:=si h
 exact(gw2 [.str d,.i 0] (FzW.tuple (qg.cons (Ua tS) (qg.cons (Ua tI) qg.nil))))
def ja (N:Nat) (d:List (List Int)):Nat->Int->(List Int)->Int->(List Int)->Int->Option (Int×(List Int)×Int×(List Int))
 |0,_,_,_,_,_=>none
 |K+1,h,i,j,k,b=>
  if b<(d.length:Int)then
  (idx d b).bind fun e=>
  (qe9 (e.length:Int)).bind fun c=>
  (yX N (⟨(⟨h,i⟩:qm),(⟨j,k⟩:qm)⟩:qP) c).bind fun f=>
  (xZ f.Num).bind fun g=>
  (yj N g c).bind fun a=>
  ja N d K a.Num.s a.Num.w a.Den.s a.Den.w (w64 (b+1))
  else
  some (h,i,j,k)
def yA (N:Nat) (p:List Int):Option (Str×Int):=
 (qM N p).bind fun g=>
 if(!decide (g=0))=true then
 some ([],g)
 else
 (qe9 1).bind fun b=>
 (zF N p).bind fun h=>
 (ja N h N b.Num.s b.Num.w b.Den.s b.Den.w 0).bind fun(c,d,e,f)=>
 (vM N (⟨(⟨c,d⟩:qm),(⟨e,f⟩:qm)⟩:qP)).bind fun a=>
 some (a.1,a.2)
theorem qcY (N:Nat) (p:List Int) {res:Str×Int} (h:yA N p=some res):qc ZT (.fn 7) [vl encI p] [] (.tuple [.str res.1,.i res.2]) []:=by
 unfold yA at h
 refine Ub Tryz.func7 rfl rfl (m:=37) rfl (rs:=[.tmp 2,.tmp 3]) rfl (l:=(kN p [])) rfl ?_
 refine sh fol (kN p []) ?_
 refine sq ?_
 obtain⟨F,G,h⟩:=bnd h
 refine sq (gr fol [1] (kN p [(4,.i F)]) (ac (cv (zQ N p G)) az) ?_)
 refine sh fol (kN p [(4,.i F),(12,.bool (!decide (F=0)))]) ?_
 refine ihB h (fun P h=>?_) (fun P h=>?_)
 ·refine sh fol [(2,.str []),(3,.i F)] ?_
  refine Goes.ret ?_
  obtain rfl:=si h
  exact(gw2 [.str [],.i F] (FzW.tuple (qg.cons (Ua tS) (qg.cons (Ua tI) qg.nil))))
 refine Goes.skip ?_
 obtain⟨D,H,h⟩:=bnd h
 refine sq (gq fol [0,2] (kN p [(5,.ptr 0 0)]) [.cells (nq1 D)] (ac (cv (qf8 1 H)) (ac (hs (.run [0] (qp ZT 79 (.ptr 0 0) (.agg (nq1 D))) (kJ []) .undef [.cells (nq1 D)] true) (zK (n:=4) (by kernel_rfl) rfl rfl rfl rfl (cac rfl (cac nvc (cac rfl (cac nvc can)))) rfl)) az)) ?_)
 refine sq ?_
 obtain⟨a,I,h⟩:=bnd h
 refine sq (gq fol [1] (kAL a (a.length:Int) [(18,.i 0)]) [.cells (nq1 D),.cells (a.flatMap (qF encI).c)] (ac (hs (.callH 40 [vl encI p] [.cells (nq1 D)] [] (.gslice 1 a.length 1) [.cells (nq1 D),.cells (a.flatMap (qF encI).c)]) (qak [] [none,some 0] (yu N p I) .nil rfl rfl (.old rfl rfl (.new rfl rfl (.same fa) rfl .nil)) (rc (.same (qf encI _)) rn) (.gslice rfl) rfl)) az) ?_)
 refine Goes.block ?_
 obtain⟨J,g15,h⟩:=bnd h
 refine Goes.imp (Q:=fun x s'=>(x= .exit 0/\ ∃o q r t,(o,q,r,t)=J/\Sub s' (ofG 37 [(5,.ptr 0 0)],[.cells (ni2 o q r t)]))) ?_ ?_
 ·refine Uc (fun M s=> ∃(f:Int) (g:List Int) (j:Int) (k:List Int) (b:Int),s=(ofG 37 (kAL a (a.length:Int) [(18,.i b)]),[.cells (ni2 f g j k),.cells (a.flatMap (qF encI).c)])/\ja N a M f g j k b=some J) ?_ (m:=N) ⟨_,_,_,_,_,rfl,g15⟩
  rintro M s ⟨f,g,j,k,b,rfl,g15⟩
  cases M with
  |zero=>simp only[ja]at g15;cases g15
  |succ M=>
   rw[ja]at g15
   refine sh fol (kAL a (a.length:Int) [(18,.i b),(19,.bool (decide (b<(a.length:Int))))]) ?_
   refine sq ?_
   refine ihD g15 (fun K g15=>?_) (fun K g15=>?_)
   ·refine Goes.skip ?_
    refine sq (Goes.block ?_)
    obtain⟨w,e,g15⟩:=bnd g15
    refine sq (gr fol [0,1] [(5,.ptr 0 0),(7,vl encI w),(16,.gslice 1 a.length 1),(17,.i (a.length:Int)),(18,.i b)] (ac (hs (.done (.opt (qd ZT 24 (.gslice 1 a.length 1) (.i b))) (.ptr 1 ((b:Int).toNat*1+0))) (qk2 sl24 e)) (ac (hs (.run [1] (zJ ZT 22 (.ptr 1 ((b:Int).toNat*1+0))) [.cells (ni2 f g j k),.cells (a.flatMap (qF encI).c)] (vl encI w) [.cells (ni2 f g j k),.cells (a.flatMap (qF encI).c)] false) (qax ce22 (E:=(qF encI)) (l:=a) rfl rfl e (nl rfl) rfl)) az)) ?_)
    obtain⟨d,y,g15⟩:=bnd g15
    refine sq (gq fol [2,4] [(5,.ptr 0 0),(8,.ptr 2 0),(16,.gslice 1 a.length 1),(17,.i (a.length:Int)),(18,.i b)] [.cells (ni2 f g j k),.cells (a.flatMap (qF encI).c),.cells (nq1 d)] (ac (cv (qf8 (w.length:Int) y)) (ac (hs (.run [2] (qp ZT 79 (.ptr 2 0) (.agg (nq1 d))) (.cells (ni2 f g j k):: .cells (a.flatMap (qF encI).c)::(kJ [])) .undef [.cells (ni2 f g j k),.cells (a.flatMap (qF encI).c),.cells (nq1 d)] true) (zK (n:=4) (by kernel_rfl) rfl rfl rfl rfl (cac rfl (cac nvc (cac rfl (cac nvc can)))) rfl)) az)) ?_)
    obtain⟨L,z,g15⟩:=bnd g15
    obtain⟨O,A,g15⟩:=bnd g15
    obtain⟨u,B,g15⟩:=bnd g15
    refine gq fol [2,4,6,7] (kAL a (a.length:Int) [(18,.i b)]) [.cells (nq1 u),.cells (a.flatMap (qF encI).c),.cells (nq1 d)] (ac (cv (qdu N (⟨(⟨f,g⟩:qm),(⟨j,k⟩:qm)⟩:qP) d z)) (ac (cv (qcP L.Num A)) (ac (cv (qbg N O d B)) (ac (hs (.run [0] (qp ZT 79 (.ptr 0 0) (.agg (nq1 u))) [.cells (ni2 f g j k),.cells (a.flatMap (qF encI).c),.cells (nq1 d)] .undef [.cells (nq1 u),.cells (a.flatMap (qF encI).c),.cells (nq1 d)] true) (zK (n:=4) (by kernel_rfl) rfl rfl rfl rfl (cac rfl (cac nvc (cac rfl (cac nvc can)))) rfl)) az)))) ?_
    refine gh fol (kAL a (a.length:Int) [(18,.i (w64 (b+1)))]) ?_
    exact⟨M,(ofG 37 (kAL a (a.length:Int) [(18,.i (w64 (b+1)))]),[.cells (nq1 u),.cells (a.flatMap (qF encI).c)]),Nat.lt_succ_self _,(Sub.norm [] [some 0,some 1] rfl rfl (.kp (.keep (.gslice rfl) (.keep (.same nI) (.keep (.same nI) .nil)))) (.kb rfl (.same sn) (.ks .nil))),_,_,_,_,_,rfl,g15⟩
   refine Goes.exit ?_
   obtain rfl:=si g15
   exact⟨rfl,_,_,_,_,rfl,(Sub.norm [] [some 0] rfl rfl (.kp .nil) (.kb rfl (.same sn) .nil))⟩
 rintro x s' ⟨rfl,o,q,r,t,rfl,hsub⟩
 try dsimp only at h
 refine Goes.sub hsub ?_
 obtain⟨v,C,h⟩:=bnd h
 refine sq (gr fol [1] [(2,.str v.1),(3,.i v.2)] (ac (cv (qc9 N (⟨(⟨o,q⟩:qm),(⟨r,t⟩:qm)⟩:qP) C)) az) ?_)
 refine Goes.ret ?_
 obtain rfl:=si h
 exact(gw2 [.str v.1,.i v.2] (FzW.tuple (qg.cons (Ua tS) (qg.cons (Ua tI) qg.nil))))
def jr (a:List Int) (d:Int):Nat->(List Int)->Int->Option (List Int)
 |0,_,_=>none
 |K+1,c,b=>
  if b<(a.length:Int)then
  (idx a b).bind fun e=>
  (qaU .i64 (w64 (b+d)) (a.length:Int)).bind fun f=>
  (idx a f).bind fun g=>
  (idx c e).bind fun i=>
  (put c e g).bind fun h=>
  jr a d K h (w64 (b+1))
  else
  some c
def jo (N:Nat) (k:Int) (b:List (List Int)):Nat->(List Int)->Int->Option (List Int)
 |0,_,_=>none
 |K+1,g,c=>
  if c<(b.length:Int)then
  (idx b c).bind fun a=>
  (qaU .i64 k (a.length:Int)).bind fun d=>
  (qaU .i64 (w64 (d+(a.length:Int))) (a.length:Int)).bind fun e=>
  (jr a e N g 0).bind fun f=>
  jo N k b K f (w64 (c+1))
  else
  some g
def vE (N:Nat) (p:List Int) (k:Int):Option ((List Int)×Int):=
 (qM N p).bind fun a=>
 if(!decide (a=0))=true then
 some ([],a)
 else
 (mk 8 (p.length:Int) 0).bind fun b=>
 (zF N p).bind fun c=>
 (jo N k c N b 0).bind fun d=>
 some (d,0)
theorem xK (N:Nat) (p:List Int) (k:Int) {res:(List Int)×Int} (h:vE N p k=some res):qc ZT (.fn 8) [vl encI p,.i k] [] (.tuple [vl encI res.1,.i res.2]) []:=by
 unfold vE at h
 refine Ub Tryz.func8 rfl rfl (m:=60) rfl (rs:=[.tmp 4,.tmp 5]) rfl (l:=(kN p [(1,.i k)])) rfl ?_
 refine sh fol (kN p [(1,.i k)]) ?_
 refine sq ?_
 obtain⟨G,H,h⟩:=bnd h
 refine sq (gr fol [1] (kN p [(1,.i k),(6,.i G)]) (ac (cv (zQ N p H)) az) ?_)
 refine sh fol (kN p [(1,.i k),(6,.i G),(16,.bool (!decide (G=0)))]) ?_
 refine ihB h (fun Y h=>?_) (fun Y h=>?_)
 ·refine sh fol [(4,.nilslice),(5,.i G)] ?_
  refine Goes.ret ?_
  obtain rfl:=si h
  exact(gw2 [.nilslice,.i G] (FzW.tuple (qg.cons (FzW.nilv (E:=encI)) (qg.cons (Ua tI) qg.nil))))
 refine Goes.skip ?_
 obtain⟨w,I,h⟩:=bnd h
 refine sq (gq fol [2] (kN p ((1,.i k)::(kAk w []))) (kG w []) (ac (hs (.run [] (zC ZT 22 (.i (p.length:Int)) (.i (p.length:Int))) [] (.slice 0 0 w.length w.length 1) (kG w []) false) (qaz vK (E:=encI) (z:=0) rfl (by kernel_rfl) I rfl)) az) ?_)
 refine sq ?_
 obtain⟨b,J,h⟩:=bnd h
 refine sq (gq fol [1] (kX k w b (b.length:Int) [(24,.i 0)]) (kG w [.cells (b.flatMap (qF encI).c)]) (ac (hs (.callH 40 [vl encI p] (kG w []) [] (.gslice 1 b.length 1) (kG w [.cells (b.flatMap (qF encI).c)])) (qak [] [none,some 0] (yu N p J) .nil rfl rfl (.old rfl rfl (.new rfl rfl (.same fa) rfl .nil)) (rc (.same (qf encI _)) rn) (.gslice rfl) rfl)) az) ?_)
 refine Goes.block ?_
 obtain⟨X,g9,h⟩:=bnd h
 refine Goes.imp (Q:=fun x s'=>(x= .exit 0/\ ∃B,B=X/\Sub s' (ofG 60 (kAk B []),(kG B [])))) ?_ ?_
 ·refine Uc (fun M s=> ∃(v:List Int) (g:Int),s=(ofG 60 (kX k v b (b.length:Int) [(24,.i g)]),(kG v [.cells (b.flatMap (qF encI).c)]))/\jo N k b M v g=some X) ?_ (m:=N) ⟨_,_,rfl,g9⟩
  rintro M s ⟨v,g,rfl,g9⟩
  cases M with
  |zero=>simp only[jo]at g9;cases g9
  |succ M=>
   rw[jo]at g9
   refine sh fol (kX k v b (b.length:Int) [(24,.i g),(25,.bool (decide (g<(b.length:Int))))]) ?_
   refine sq ?_
   refine ihD g9 (fun P g9=>?_) (fun P g9=>?_)
   ·refine Goes.skip ?_
    refine sq (Goes.block ?_)
    obtain⟨a,o,g9⟩:=bnd g9
    refine sq (gr fol [0,1] ((1,.i k)::(kAk v [(9,vl encI a),(22,.gslice 1 b.length 1),(23,.i (b.length:Int)),(24,.i g)])) (ac (hs (.done (.opt (qd ZT 24 (.gslice 1 b.length 1) (.i g))) (.ptr 1 ((g:Int).toNat*1+0))) (qk2 sl24 o)) (ac (hs (.run [1] (zJ ZT 22 (.ptr 1 ((g:Int).toNat*1+0))) (kG v [.cells (b.flatMap (qF encI).c)]) (vl encI a) (kG v [.cells (b.flatMap (qF encI).c)]) false) (qax ce22 (E:=(qF encI)) (l:=b) rfl rfl o (nl rfl) rfl)) az)) ?_)
    obtain⟨K,C,g9⟩:=bnd g9
    obtain⟨d,D,g9⟩:=bnd g9
    refine sq (gr fol [3,9] ((1,.i k)::(kAk v [(9,vl encI a),(10,.i d),(22,.gslice 1 b.length 1),(23,.i (b.length:Int)),(24,.i g)])) (ac (hs (.done (.opt (zn ZT .rem 3 (.tmp 28) (.tmp 30) (.i k) (.i (a.length:Int)))) (.i K)) (qbY C)) (ac (hs (.done (.opt (zn ZT .rem 3 (.tmp 34) (.tmp 36) (.i (w64 (K+(a.length:Int)))) (.i (a.length:Int)))) (.i d)) (qbY D)) az)) ?_)
    refine sh fol (kI k v a d b (b.length:Int) g (a.length:Int) [(40,.i 0)]) ?_
    refine Goes.block ?_
    obtain⟨L,g17,g9⟩:=bnd g9
    refine Goes.imp (Q:=fun x s'=>(x= .exit 2/\ ∃n,n=L/\Sub s' (ofG 60 (kX k n b (b.length:Int) [(24,.i g)]),(kG n [.cells (b.flatMap (qF encI).c)])))) ?_ ?_
    ·refine Uc (fun M s=> ∃(f:List Int) (e:Int),s=(ofG 60 (kI k f a d b (b.length:Int) g (a.length:Int) [(40,.i e)]),(kG f [.cells (b.flatMap (qF encI).c)]))/\jr a d M f e=some L) ?_ (m:=N) ⟨_,_,rfl,g17⟩
     rintro M s ⟨f,e,rfl,g17⟩
     cases M with
     |zero=>simp only[jr]at g17;cases g17
     |succ M=>
      rw[jr]at g17
      refine sh fol (kI k f a d b (b.length:Int) g (a.length:Int) [(40,.i e),(41,.bool (decide (e<(a.length:Int))))]) ?_
      refine sq ?_
      refine ihD g17 (fun U g17=>?_) (fun U g17=>?_)
      ·refine Goes.skip ?_
       refine sq (Goes.block ?_)
       obtain⟨A,q,g17⟩:=bnd g17
       refine sq (gr fol [1,2] ((1,.i k)::(kAk f [(9,vl encI a),(10,.i d),(11,.i e),(12,.i A),(22,.gslice 1 b.length 1),(23,.i (b.length:Int)),(24,.i g),(38,vl encI a),(39,.i (a.length:Int)),(40,.i e)])) (ac (iv vK encI q) (ac (lv 0 ce3 encI q rfl) az)) ?_)
       obtain⟨V,F,g17⟩:=bnd g17
       obtain⟨O,r,g17⟩:=bnd g17
       obtain⟨Z,t,g17⟩:=bnd g17
       obtain⟨j,u,g17⟩:=bnd g17
       refine gq fol [8,9,10,11,12] (kI k f a d b (b.length:Int) g (a.length:Int) [(40,.i e)]) (kG j [.cells (b.flatMap (qF encI).c)]) (ac (hs (.done (.opt (zn ZT .rem 3 (.tmp 50) (.tmp 52) (.i (w64 (e+d))) (.i (a.length:Int)))) (.i V)) (qbY F)) (ac (iv vK encI r) (ac (lv 0 ce3 encI r rfl) (ac (hs (.done (.opt (qd ZT 22 (.slice 0 0 f.length f.length 1) (.i A))) (.ptr 0 ((A:Int).toNat*1+0))) (vQ vK t)) (ac (hs (.run [0] (qp ZT 3 (.ptr 0 ((A:Int).toNat*1+0)) (.i O)) (kG f [.cells (b.flatMap (qF encI).c)]) .undef (kG j [.cells (b.flatMap (qF encI).c)]) true) (yY (E:=encI) (l:=f) (y:=O) rfl (show _=some 1 by kernel_rfl) rfl t rfl rfl rfl rfl rfl u rfl)) az))))) ?_
       refine Goes.sub (show Sub (ofG 60 (kI k f a d b (b.length:Int) g (a.length:Int) [(40,.i e)]),(kG j [.cells (b.flatMap (qF encI).c)])) (ofG 60 (kI k j a d b (b.length:Int) g (a.length:Int) [(40,.i e)]),(kG j [.cells (b.flatMap (qF encI).c)]))from(Sub.norm [] [some 0,some 1] rfl rfl (.keep (.same nI) (.keep (.sliceE rfl (vG u)) (.keep (.same (qf encI _)) (.keep (.same nI) (.keep (.gslice rfl) (.keep (.same nI) (.keep (.same nI) (.keep (.same (qf encI _)) (.keep (.same nI) (.keep (.same nI) .nil)))))))))) (.ks (.ks .nil)))) ?_
       refine gh fol (kI k j a d b (b.length:Int) g (a.length:Int) [(40,.i (w64 (e+1)))]) ?_
       exact⟨M,(ofG 60 (kI k j a d b (b.length:Int) g (a.length:Int) [(40,.i (w64 (e+1)))]),(kG j [.cells (b.flatMap (qF encI).c)])),Nat.lt_succ_self _,(Sub.refl _),_,_,rfl,g17⟩
      refine Goes.exit ?_
      obtain rfl:=si g17
      exact⟨rfl,_,rfl,(Sub.keep [1,7,22,23,24] rfl rfl)⟩
    rintro x s' ⟨rfl,n,rfl,hsub⟩
    refine Goes.sub hsub ?_
    refine gh fol (kX k n b (b.length:Int) [(24,.i (w64 (g+1)))]) ?_
    exact⟨M,(ofG 60 (kX k n b (b.length:Int) [(24,.i (w64 (g+1)))]),(kG n [.cells (b.flatMap (qF encI).c)])),Nat.lt_succ_self _,(Sub.refl _),_,_,rfl,g9⟩
   refine Goes.exit ?_
   obtain rfl:=si g9
   exact⟨rfl,_,rfl,(Sub.norm [] [some 0] rfl rfl (.drop (.keep (.slice rfl) .nil)) (.ks .nil))⟩
 rintro x s' ⟨rfl,B,rfl,hsub⟩
 refine Goes.sub hsub ?_
 refine sh fol [(4,.slice 0 0 B.length B.length 1),(5,.i 0)] ?_
 refine Goes.ret ?_
 obtain rfl:=si h
 exact(gw2 [.slice 0 0 B.length B.length 1,.i 0] (FzW.tuple (qg.cons (FzW.fz (Fz.sl (E:=encI) rfl rfl (nl rfl))) (qg.cons (Ua tI) qg.nil))))
def qQ (p:List Int) (b:Int):Nat->Int->Option (Unit⊕Int)
 |0,_=>none
 |K+1,a=>
  if a<b then
  (idx p a).bind fun c=>
  (idx p b).bind fun d=>
  if c=d then
  some (.inr 15)
  else
  qQ p b K (w64 (a+1))
  else
  some (.inl ())
def qV (N:Nat) (p:List Int):Nat->Int->Option (Unit⊕Int)
 |0,_=>none
 |K+1,a=>
  if a<(p.length:Int)then
  ((idx p a).bind fun c=>
  if c<0 then
  some true
  else
  some (decide (c>=(p.length:Int))):Option Bool).bind fun d=>
  if d=true then
  some (.inr 15)
  else
  (qQ p a N 0).bind (fun
  |(.inl ())=>
  qV N p K (w64 (a+1))
  |(.inr b)=>
  some (.inr b))
  else
  some (.inl ())
def zh (N:Nat) (p:List Int):Option Int:=
 if(p.length:Int)>256 then
 some 5
 else
 (qV N p N 0).bind (fun
 |(.inl ())=>
 some 0
 |(.inr a)=>
 some a)
theorem qB (N:Nat) (p:List Int) {res:Int} (h:zh N p=some res):qc ZT (.fn 9) [vl encI p] [] (.i res) []:=by
 unfold zh at h
 refine Ub Tryz.func9 rfl rfl (m:=42) rfl (rs:=[.tmp 2]) rfl (l:=(kN p [])) rfl ?_
 refine sh fol (kN p []) ?_
 refine sq ?_
 refine sh fol (kN p [(7,.bool (decide ((p.length:Int)>256)))]) ?_
 refine ihD h (fun w h=>?_) (fun w h=>?_)
 ·refine sh fol [(2,.i 5)] ?_
  refine Goes.ret ?_
  obtain rfl:=si h
  exact(gw2 [.i 5] (Ua tI))
 refine Goes.skip ?_
 refine sq ?_
 refine sh fol (kN p [(3,.i 0)]) ?_
 refine Goes.block ?_
 obtain⟨k,g3,h⟩:=bnd h
 refine Goes.imp (Q:=fun x s'=>(x= .exit 0/\(.inl ())=k/\Sub s' (ofG 42 [],[]))\/(x= .ret/\ ∃v,(.inr v)=k/\jF ZT [.tmp 2] (.i v) .ret s')) ?_ ?_
 ·refine Uc (fun M s=> ∃(c:Int),s=(ofG 42 (kN p [(3,.i c)]),[])/\qV N p M c=some k) ?_ (m:=N) ⟨_,rfl,g3⟩
  rintro M s ⟨c,rfl,g3⟩
  cases M with
  |zero=>simp only[qV]at g3;cases g3
  |succ M=>
   rw[qV]at g3
   refine sq ?_
   refine sh fol (kN p [(3,.i c),(11,.bool (decide (c<(p.length:Int))))]) ?_
   refine ihD g3 (fun y g3=>?_) (fun y g3=>?_)
   ·refine Goes.skip ?_
    refine sq (Goes.block ?_)
    refine sq ?_
    refine sq ?_
    obtain⟨z,a,g3⟩:=bnd g3
    refine Goes.cut (s':=(ofG 42 (kN p [(3,.i c),(27,.bool z)]),[])) ?_ ?_
    ·obtain⟨A,b,a⟩:=bnd a
     rcases wyD a with⟨n,a⟩|⟨n,a⟩
     ·obtain rfl:=si a
      exact tr fol [2,3,5] (kN p [(3,.i c),(27,.bool true)]) (ac (iv vK encI b) (ac (lv 0 ce3 encI b rfl) (ac (gw n) az)))
     obtain rfl:=si a
     exact tr fol [2,3,5,8,9] (kN p [(3,.i c),(27,.bool (decide (A>=(p.length:Int))))]) (ac (iv vK encI b) (ac (lv 0 ce3 encI b rfl) (ac (gw n) (ac (iv vK encI b) (ac (lv 0 ce3 encI b rfl) az)))))
    refine ihB g3 (fun o g3=>?_) (fun o g3=>?_)
    ·refine sh fol [(2,.i 15)] ?_
     refine Goes.ret ?_
     obtain rfl:=si g3
     exact Or.inr (⟨rfl,_,rfl,(gw2 [.i 15] (Ua tI))⟩)
    refine Goes.skip ?_
    refine sh fol (kN p [(3,.i c),(4,.i 0)]) ?_
    refine Goes.block ?_
    obtain⟨g,g12,g3⟩:=bnd g3
    refine Goes.imp (Q:=fun x s'=>(x= .exit 2/\(.inl ())=g/\Sub s' (ofG 42 (kN p [(3,.i c)]),[]))\/(x= .ret/\ ∃j,(.inr j)=g/\jF ZT [.tmp 2] (.i j) .ret s')) ?_ ?_
    ·refine Uc (fun M s=> ∃(d:Int),s=(ofG 42 (kN p [(3,.i c),(4,.i d)]),[])/\qQ p c M d=some g) ?_ (m:=N) ⟨_,rfl,g12⟩
     rintro M s ⟨d,rfl,g12⟩
     cases M with
     |zero=>simp only[qQ]at g12;cases g12
     |succ M=>
      rw[qQ]at g12
      refine sq ?_
      refine sh fol (kN p [(3,.i c),(4,.i d),(30,.bool (decide (d<c)))]) ?_
      refine ihD g12 (fun q g12=>?_) (fun q g12=>?_)
      ·refine Goes.skip ?_
       refine sq (Goes.block ?_)
       obtain⟨r,e,g12⟩:=bnd g12
       obtain⟨t,f,g12⟩:=bnd g12
       refine sq (gr fol [2,3,6,7] (kN p [(3,.i c),(4,.i d),(41,.bool (decide (r=t)))]) (ac (iv vK encI e) (ac (lv 0 ce3 encI e rfl) (ac (iv vK encI f) (ac (lv 0 ce3 encI f rfl) az)))) ?_)
       refine ihD g12 (fun u g12=>?_) (fun u g12=>?_)
       ·refine sh fol [(2,.i 15)] ?_
        refine Goes.ret ?_
        obtain rfl:=si g12
        exact Or.inr (⟨rfl,_,rfl,(gw2 [.i 15] (Ua tI))⟩)
       refine Goes.skip ?_
       refine gh fol (kN p [(3,.i c),(4,.i (w64 (d+1)))]) ?_
       exact⟨M,(ofG 42 (kN p [(3,.i c),(4,.i (w64 (d+1)))]),[]),Nat.lt_succ_self _,(Sub.refl _),_,rfl,g12⟩
      refine Goes.exit ?_
      obtain rfl:=si g12
      exact Or.inl (⟨rfl,rfl,(Sub.keep [0,3] rfl rfl)⟩)
    rintro x s' (⟨rfl,rfl,hsub⟩|⟨rfl,B,rfl,hret⟩)
    ·try dsimp only at g3
     refine Goes.sub hsub ?_
     refine gh fol (kN p [(3,.i (w64 (c+1)))]) ?_
     exact⟨M,(ofG 42 (kN p [(3,.i (w64 (c+1)))]),[]),Nat.lt_succ_self _,(Sub.refl _),_,rfl,g3⟩
    try dsimp only at g3
    obtain rfl:=si g3
    exact Or.inr (⟨rfl,_,rfl,hret⟩)
   refine Goes.exit ?_
   obtain rfl:=si g3
   exact Or.inl (⟨rfl,rfl,(Sub.keep [] rfl rfl)⟩)
 rintro x s' (⟨rfl,rfl,hsub⟩|⟨rfl,C,rfl,hret⟩)
 ·try dsimp only at h
  refine Goes.sub hsub ?_
  refine sh fol [(2,.i 0)] ?_
  refine Goes.ret ?_
  obtain rfl:=si h
  exact(gw2 [.i 0] (Ua tI))
 try dsimp only at h
 obtain rfl:=si h
 exact hret
def zN (p:List Int):Nat->(List Int)->Int->Option (List Int)
 |0,_,_=>none
 |K+1,b,a=>
  if a<(p.length:Int)then
  (idx p a).bind fun d=>
  (idx b d).bind fun e=>
  (put b d a).bind fun c=>
  zN p K c (w64 (a+1))
  else
  some b
def vT (N:Nat) (p:List Int):Option ((List Int)×Int):=
 (qM N p).bind fun a=>
 if(!decide (a=0))=true then
 some ([],a)
 else
 (mk 8 (p.length:Int) 0).bind fun b=>
 (zN p N b 0).bind fun c=>
 some (c,0)
theorem qcN (N:Nat) (p:List Int) {res:(List Int)×Int} (h:vT N p=some res):qc ZT (.fn 16) [vl encI p] [] (.tuple [vl encI res.1,.i res.2]) []:=by
 unfold vT at h
 refine Ub Tryz.func16 rfl rfl (m:=29) rfl (rs:=[.tmp 2,.tmp 3]) rfl (l:=(kN p [])) rfl ?_
 refine sh fol (kN p []) ?_
 refine sq ?_
 obtain⟨k,n,h⟩:=bnd h
 refine sq (gr fol [1] (kN p [(4,.i k)]) (ac (cv (zQ N p n)) az) ?_)
 refine sh fol (kN p [(4,.i k),(11,.bool (!decide (k=0)))]) ?_
 refine ihB h (fun t h=>?_) (fun t h=>?_)
 ·refine sh fol [(2,.nilslice),(3,.i k)] ?_
  refine Goes.ret ?_
  obtain rfl:=si h
  exact(gw2 [.nilslice,.i k] (FzW.tuple (qg.cons (FzW.nilv (E:=encI)) (qg.cons (Ua tI) qg.nil))))
 refine Goes.skip ?_
 obtain⟨j,o,h⟩:=bnd h
 refine sq (gq fol [2] (kN p (kB j [])) (kG j []) (ac (hs (.run [] (zC ZT 22 (.i (p.length:Int)) (.i (p.length:Int))) [] (.slice 0 0 j.length j.length 1) (kG j []) false) (qaz vK (E:=encI) (z:=0) rfl (by kernel_rfl) o rfl)) az) ?_)
 refine sq ?_
 refine sh fol (kB j [(16,vl encI p),(17,.i (p.length:Int)),(18,.i 0)]) ?_
 refine Goes.block ?_
 obtain⟨r,g7,h⟩:=bnd h
 refine Goes.imp (Q:=fun x s'=>(x= .exit 0/\ ∃f,f=r/\Sub s' (ofG 29 (kB f []),(kG f [])))) ?_ ?_
 ·refine Uc (fun M s=> ∃(c:List Int) (b:Int),s=(ofG 29 (kB c (kAT p (p.length:Int) b)),(kG c []))/\zN p M c b=some r) ?_ (m:=N) ⟨_,_,rfl,g7⟩
  rintro M s ⟨c,b,rfl,g7⟩
  cases M with
  |zero=>simp only[zN]at g7;cases g7
  |succ M=>
   rw[zN]at g7
   refine sh fol (kB c [(16,vl encI p),(17,.i (p.length:Int)),(18,.i b),(19,.bool (decide (b<(p.length:Int))))]) ?_
   refine sq ?_
   refine ihD g7 (fun u g7=>?_) (fun u g7=>?_)
   ·refine Goes.skip ?_
    refine sq (Goes.block ?_)
    obtain⟨q,g,g7⟩:=bnd g7
    refine sq (gr fol [1,2] (kB c ((6,.i b)::(7,.i q)::(kAT p (p.length:Int) b))) (ac (iv vK encI g) (ac (lv 0 ce3 encI g rfl) az)) ?_)
    obtain⟨v,d,g7⟩:=bnd g7
    obtain⟨a,e,g7⟩:=bnd g7
    refine gq fol [3,4] (kB c (kAT p (p.length:Int) b)) (kG a []) (ac (hs (.done (.opt (qd ZT 22 (.slice 0 0 c.length c.length 1) (.i q))) (.ptr 0 ((q:Int).toNat*1+0))) (vQ vK d)) (ac (hs (.run [0] (qp ZT 3 (.ptr 0 ((q:Int).toNat*1+0)) (.i b)) (kG c []) .undef (kG a []) true) (yY (E:=encI) (l:=c) (y:=b) rfl (show _=some 1 by kernel_rfl) rfl d rfl rfl rfl rfl rfl e rfl)) az)) ?_
    refine Goes.sub (show Sub (ofG 29 (kB c (kAT p (p.length:Int) b)),(kG a [])) (ofG 29 (kB a (kAT p (p.length:Int) b)),(kG a []))from(Sub.norm [] [some 0] rfl rfl (.keep (.sliceE rfl (vG e)) (.keep (.same (qf encI _)) (.keep (.same nI) (.keep (.same nI) .nil)))) (.ks .nil))) ?_
    refine gh fol (kB a (kAT p (p.length:Int) (w64 (b+1)))) ?_
    exact⟨M,(ofG 29 (kB a (kAT p (p.length:Int) (w64 (b+1)))),(kG a [])),Nat.lt_succ_self _,(Sub.refl _),_,_,rfl,g7⟩
   refine Goes.exit ?_
   obtain rfl:=si g7
   exact⟨rfl,_,rfl,(Sub.keep [5] rfl rfl)⟩
 rintro x s' ⟨rfl,f,rfl,hsub⟩
 refine Goes.sub hsub ?_
 refine sh fol [(2,.slice 0 0 f.length f.length 1),(3,.i 0)] ?_
 refine Goes.ret ?_
 obtain rfl:=si h
 exact(gw2 [.slice 0 0 f.length f.length 1,.i 0] (FzW.tuple (qg.cons (FzW.fz (Fz.sl (E:=encI) rfl rfl (nl rfl))) (qg.cons (Ua tI) qg.nil))))
def vJ (l:List Int):Nat->Int->Option (Unit⊕Int)
 |0,_=>none
 |K+1,a=>
  if a<(l.length:Int)then
  (idx l a).bind fun b=>
  if(!decide (b=0))=true then
  some (.inr b)
  else
  vJ l K (w64 (a+1))
  else
  some (.inl ())
def xV (N:Nat) (l:List Int):Option Int:=
 (vJ l N 0).bind (fun
 |(.inl ())=>
 some 0
 |(.inr a)=>
 some a)
theorem qdv (N:Nat) (l:List Int) {res:Int} (h:xV N l=some res):qc ZT (.fn 50) [vl encI l] [] (.i res) []:=by
 unfold xV at h
 refine Ub Tryz.func50 rfl rfl (m:=15) rfl (rs:=[.tmp 2]) rfl (l:=(kN l [])) rfl ?_
 refine sh fol (kN l []) ?_
 refine sq ?_
 refine sh fol [(5,vl encI l),(6,.i (l.length:Int)),(7,.i 0)] ?_
 refine Goes.block ?_
 obtain⟨d,g2,h⟩:=bnd h
 refine Goes.imp (Q:=fun x s'=>(x= .exit 0/\(.inl ())=d/\Sub s' (ofG 15 [],[]))\/(x= .ret/\ ∃e,(.inr e)=d/\jF ZT [.tmp 2] (.i e) .ret s')) ?_ ?_
 ·refine Uc (fun M s=> ∃(a:Int),s=(ofG 15 [(5,vl encI l),(6,.i (l.length:Int)),(7,.i a)],[])/\vJ l M a=some d) ?_ (m:=N) ⟨_,rfl,g2⟩
  rintro M s ⟨a,rfl,g2⟩
  cases M with
  |zero=>simp only[vJ]at g2;cases g2
  |succ M=>
   rw[vJ]at g2
   refine sh fol [(5,vl encI l),(6,.i (l.length:Int)),(7,.i a),(8,.bool (decide (a<(l.length:Int))))] ?_
   refine sq ?_
   refine ihD g2 (fun f g2=>?_) (fun f g2=>?_)
   ·refine Goes.skip ?_
    refine sq (Goes.block ?_)
    obtain⟨c,b,g2⟩:=bnd g2
    refine sq (gr fol [0,1] [(4,.i c),(5,vl encI l),(6,.i (l.length:Int)),(7,.i a)] (ac (iv sl142 encI b) (ac (lv 0 ce25 encI b rfl) az)) ?_)
    refine sh fol [(4,.i c),(5,vl encI l),(6,.i (l.length:Int)),(7,.i a),(12,.bool (!decide (c=0)))] ?_
    refine ihB g2 (fun g g2=>?_) (fun g g2=>?_)
    ·refine sh fol [(2,.i c)] ?_
     refine Goes.ret ?_
     obtain rfl:=si g2
     exact Or.inr (⟨rfl,_,rfl,(gw2 [.i c] (Ua tI))⟩)
    refine Goes.skip ?_
    refine gh fol [(5,vl encI l),(6,.i (l.length:Int)),(7,.i (w64 (a+1)))] ?_
    exact⟨M,(ofG 15 [(5,vl encI l),(6,.i (l.length:Int)),(7,.i (w64 (a+1)))],[]),Nat.lt_succ_self _,(Sub.refl _),_,rfl,g2⟩
   refine Goes.exit ?_
   obtain rfl:=si g2
   exact Or.inl (⟨rfl,rfl,(Sub.keep [] rfl rfl)⟩)
 rintro x s' (⟨rfl,rfl,hsub⟩|⟨rfl,j,rfl,hret⟩)
 ·try dsimp only at h
  refine Goes.sub hsub ?_
  refine sh fol [(2,.i 0)] ?_
  refine Goes.ret ?_
  obtain rfl:=si h
  exact(gw2 [.i 0] (Ua tI))
 try dsimp only at h
 obtain rfl:=si h
 exact hret
def xE (holds:Bool) (e:Int):Option Int:=
 if holds=true then
 some e
 else
 some 0
theorem qei (holds:Bool) (e:Int) {res:Int} (h:xE holds e=some res):qc ZT (.fn 51) [.bool holds,.i e] [] (.i res) []:=by
 unfold xE at h
 refine Ub Tryz.func51 rfl rfl (m:=7) rfl (rs:=[.tmp 4]) rfl (l:=[(0,.bool holds),(1,.i e)]) rfl ?_
 refine sh fol [(0,.bool holds),(1,.i e)] ?_
 refine sq ?_
 refine sh fol [(1,.i e),(5,.bool holds)] ?_
 refine ihB h (fun a h=>?_) (fun a h=>?_)
 ·refine sh fol [(4,.i e)] ?_
  refine Goes.ret ?_
  obtain rfl:=si h
  exact(gw2 [.i e] (Ua tI))
 refine Goes.skip ?_
 refine sh fol [(4,.i 0)] ?_
 refine Goes.ret ?_
 obtain rfl:=si h
 exact(gw2 [.i 0] (Ua tI))
def zM (p:List Int) (q:List Int):Nat->(List Int)->Int->Option (List Int)
 |0,_,_=>none
 |K+1,e,a=>
  if a<(p.length:Int)then
  (idx p a).bind fun b=>
  (idx q b).bind fun c=>
  (app 8 e [c]).bind fun d=>
  zM p q K d (w64 (a+1))
  else
  some e
def vX (N:Nat) (p:List Int) (q:List Int):Option ((List Int)×Int):=
 (qM N p).bind fun b=>
 (qM N q).bind fun c=>
 (xE (!decide ((p.length:Int)=(q.length:Int))) 2).bind fun d=>
 (xV N ([b,c,d]:List Int)).bind fun a=>
 if(!decide (a=0))=true then
 some ([],a)
 else
 (zM p q N ([]:List Int) 0).bind fun e=>
 some (e,0)
theorem qcF (N:Nat) (p:List Int) (q:List Int) {res:(List Int)×Int} (h:vX N p q=some res):qc ZT (.fn 17) [vl encI p,vl encI q] [] (.tuple [vl encI res.1,.i res.2]) []:=by
 unfold vX at h
 refine Ub Tryz.func17 rfl rfl (m:=40) rfl (rs:=[.tmp 4,.tmp 5]) rfl (l:=(kN p (kAN q []))) rfl ?_
 refine sh fol (kN p (kAN q [])) ?_
 refine sq ?_
 obtain⟨u,n,h⟩:=bnd h
 obtain⟨v,o,h⟩:=bnd h
 obtain⟨w,r,h⟩:=bnd h
 obtain⟨j,t,h⟩:=bnd h
 refine sq (gq fol [1,3,9,11] (kN p (kAN q [(6,.i j)])) [.cells [.i u,.i v,.i w]] (ac (cv (zQ N p n)) (ac (cv (zQ N q o)) (ac (cv (qei (!decide ((p.length:Int)=(q.length:Int))) 2 r)) (ac (hs (.call 50 [.slice 0 0 3 3 1] [.cells [.i u,.i v,.i w]] [0] [vl encI ([u,v,w]:List Int)] (.i j)) (qmc (FzL.cons (Fz.lit rfl rfl (FzL.still (AllST.cons tI (AllST.cons tI (AllST.cons tI AllST.nil))))) FzL.nil) (qdv N ([u,v,w]:List Int) t) tI rfl)) az)))) ?_)
 refine sh fol (kN p (kAN q [(6,.i j),(23,.bool (!decide (j=0)))])) ?_
 refine ihB h (fun B h=>?_) (fun B h=>?_)
 ·refine sh fol [(4,.nilslice),(5,.i j)] ?_
  refine Goes.ret ?_
  obtain rfl:=si h
  exact(gw2 [.nilslice,.i j] (FzW.tuple (qg.cons (FzW.nilv (E:=encI)) (qg.cons (Ua tI) qg.nil))))
 refine Goes.skip ?_
 refine sh fol (kN p (kAN q [(7,.nilslice)])) ?_
 refine sq ?_
 refine sh fol (kAN q ((7,.nilslice)::(kAX p (p.length:Int) [(27,.i 0)]))) ?_
 refine Goes.block ?_
 obtain⟨A,g9,h⟩:=bnd h
 refine Goes.imp (Q:=fun x s'=>(x= .exit 0/\ ∃k,k=A/\Sub s' (ofG 40 [(7,.gslice 0 k.length 1)],(kG k [])))) ?_ ?_
 ·refine Goes.sub (s':=(ofG 40 (kAN q ((7,.gslice 0 ([]:List Int).length 1)::(kAX p (p.length:Int) [(27,.i 0)]))),kAe)) (Sub.norm [] [none] rfl rfl (.keep (.same (qf encI _)) (.keep .nil (.keep (.same (qf encI _)) (.keep (.same nI) (.keep (.same nI) .nil))))) (.fresh .nil)) ?_
  refine Uc (fun M s=> ∃(d:List Int) (e:Int),s=(ofG 40 (kAN q ((7,.gslice 0 d.length 1)::(kAX p (p.length:Int) [(27,.i e)]))),(kG d []))/\zM p q M d e=some A) ?_ (m:=N) ⟨_,_,rfl,g9⟩
  rintro M s ⟨d,e,rfl,g9⟩
  cases M with
  |zero=>simp only[zM]at g9;cases g9
  |succ M=>
   rw[zM]at g9
   refine sh fol (kAN q ((7,.gslice 0 d.length 1)::(kAX p (p.length:Int) [(27,.i e),(28,.bool (decide (e<(p.length:Int))))]))) ?_
   refine sq ?_
   refine ihD g9 (fun y g9=>?_) (fun y g9=>?_)
   ·refine Goes.skip ?_
    refine sq (Goes.block ?_)
    obtain⟨z,b,g9⟩:=bnd g9
    refine sq (gr fol [0,1] (kAN q ((7,.gslice 0 d.length 1)::(9,.i z)::(kAX p (p.length:Int) [(27,.i e)]))) (ac (iv vK encI b) (ac (lv 0 ce3 encI b rfl) az)) ?_)
    obtain⟨f,c,g9⟩:=bnd g9
    obtain⟨a,g,g9⟩:=bnd g9
    refine gq fol [3,4,6] (kAN q ((7,.gslice 2 a.length 1)::(kAX p (p.length:Int) [(27,.i e)]))) (kAo f (kG a [])) (ac (iv vK encI c) (ac (lv 0 ce3 encI c rfl) (ac (hs (.run [0,1] (yo ZT [22,22] (.gslice 0 d.length 1) (.slice 1 0 1 1 1)) (kG d [.cells [.i f]]) (.gslice 2 a.length 1) (kAo f (kG a [])) true) (qbb vK (E:=encI) rfl (qd5 (E:=encI) (ys:=[f]) rfl rfl rfl rfl) (qfg (E:=encI) (l:=d) rfl rfl rfl g rfl))) az))) ?_
    refine gh fol (kAN q ((7,.gslice 2 a.length 1)::(kAX p (p.length:Int) [(27,.i (w64 (e+1)))]))) ?_
    exact⟨M,(ofG 40 (kAN q ((7,.gslice 0 a.length 1)::(kAX p (p.length:Int) [(27,.i (w64 (e+1)))]))),(kG a [])),Nat.lt_succ_self _,(Sub.norm [] [some 2] rfl rfl (.keep (.same (qf encI _)) (.keep (.gslice rfl) (.keep (.same (qf encI _)) (.keep (.same nI) (.keep (.same nI) .nil))))) (.ks .nil)),_,_,rfl,g9⟩
   refine Goes.exit ?_
   obtain rfl:=si g9
   exact⟨rfl,_,rfl,(Sub.keep [7] rfl rfl)⟩
 rintro x s' ⟨rfl,k,rfl,hsub⟩
 refine Goes.sub hsub ?_
 refine sh fol [(4,.gslice 0 k.length 1),(5,.i 0)] ?_
 refine Goes.ret ?_
 obtain rfl:=si h
 exact(gw2 [.gslice 0 k.length 1,.i 0] (FzW.tuple (qg.cons (FzW.fz (Fz.gs (E:=encI) rfl rfl (nl rfl))) (qg.cons (Ua tI) qg.nil))))
def qO (a:List Int) (b:List Int):Nat->Int->Option (Unit⊕Bool)
 |0,_=>none
 |K+1,c=>
  if c<(a.length:Int)then
  (idx a c).bind fun d=>
  (idx b c).bind fun e=>
  if(!decide (d=e))=true then
  some (.inr false)
  else
  qO a b K (w64 (c+1))
  else
  some (.inl ())
def qW (N:Nat) (a:List Int) (b:List Int):Option Bool:=
 if(!decide ((a.length:Int)=(b.length:Int)))=true then
 some false
 else
 (qO a b N 0).bind (fun
 |(.inl ())=>
 some true
 |(.inr c)=>
 some c)
theorem yU (N:Nat) (a:List Int) (b:List Int) {res:Bool} (h:qW N a b=some res):qc ZT (.fn 18) [vl encI a,vl encI b] [] (.bool res) []:=by
 unfold qW at h
 refine Ub Tryz.func18 rfl rfl (m:=26) rfl (rs:=[.tmp 4]) rfl (l:=(kN a (kAN b []))) rfl ?_
 refine sh fol (kN a (kAN b [])) ?_
 refine sq ?_
 refine sh fol (kN a (kAN b [(10,.bool (!decide ((a.length:Int)=(b.length:Int))))])) ?_
 refine ihB h (fun j h=>?_) (fun j h=>?_)
 ·refine sh fol [(4,.bool false)] ?_
  refine Goes.ret ?_
  obtain rfl:=si h
  exact(gw2 [.bool false] (Ua tB))
 refine Goes.skip ?_
 refine sq ?_
 refine sh fol (kN a (kAN b [(5,.i 0)])) ?_
 refine Goes.block ?_
 obtain⟨f,g3,h⟩:=bnd h
 refine Goes.imp (Q:=fun x s'=>(x= .exit 0/\(.inl ())=f/\Sub s' (ofG 26 [],[]))\/(x= .ret/\ ∃g,(.inr g)=f/\jF ZT [.tmp 4] (.bool g) .ret s')) ?_ ?_
 ·refine Uc (fun M s=> ∃(c:Int),s=(ofG 26 (kN a (kAN b [(5,.i c)])),[])/\qO a b M c=some f) ?_ (m:=N) ⟨_,rfl,g3⟩
  rintro M s ⟨c,rfl,g3⟩
  cases M with
  |zero=>simp only[qO]at g3;cases g3
  |succ M=>
   rw[qO]at g3
   refine sq ?_
   refine sh fol (kN a (kAN b [(5,.i c),(14,.bool (decide (c<(a.length:Int))))])) ?_
   refine ihD g3 (fun k g3=>?_) (fun k g3=>?_)
   ·refine Goes.skip ?_
    refine sq (Goes.block ?_)
    obtain⟨n,d,g3⟩:=bnd g3
    obtain⟨o,e,g3⟩:=bnd g3
    refine sq (gr fol [2,3,6,7] (kN a (kAN b [(5,.i c),(25,.bool (!decide (n=o)))])) (ac (iv vK encI d) (ac (lv 0 ce3 encI d rfl) (ac (iv vK encI e) (ac (lv 0 ce3 encI e rfl) az)))) ?_)
    refine ihB g3 (fun p g3=>?_) (fun p g3=>?_)
    ·refine sh fol [(4,.bool false)] ?_
     refine Goes.ret ?_
     obtain rfl:=si g3
     exact Or.inr (⟨rfl,_,rfl,(gw2 [.bool false] (Ua tB))⟩)
    refine Goes.skip ?_
    refine gh fol (kN a (kAN b [(5,.i (w64 (c+1)))])) ?_
    exact⟨M,(ofG 26 (kN a (kAN b [(5,.i (w64 (c+1)))])),[]),Nat.lt_succ_self _,(Sub.refl _),_,rfl,g3⟩
   refine Goes.exit ?_
   obtain rfl:=si g3
   exact Or.inl (⟨rfl,rfl,(Sub.keep [] rfl rfl)⟩)
 rintro x s' (⟨rfl,rfl,hsub⟩|⟨rfl,q,rfl,hret⟩)
 ·try dsimp only at h
  refine Goes.sub hsub ?_
  refine sh fol [(4,.bool true)] ?_
  refine Goes.ret ?_
  obtain rfl:=si h
  exact(gw2 [.bool true] (Ua tB))
 try dsimp only at h
 obtain rfl:=si h
 exact hret
def zI (n:Int):Nat->(List Int)->Int->Option (List Int)
 |0,_,_=>none
 |K+1,b,a=>
  if a<n then
  (app 8 b [a]).bind fun c=>
  zI n K c (w64 (a+1))
  else
  some b
def jH (N:Nat) (n:Int):Option (List Int):=
 (zI n N ([]:List Int) 0).bind fun a=>
 some a
theorem yQ (N:Nat) (n:Int) {res:List Int} (h:jH N n=some res):qc ZT (.fn 19) [.i n] [] (vl encI res) []:=by
 unfold jH at h
 refine Ub Tryz.func19 rfl rfl (m:=15) rfl (rs:=[.tmp 2]) rfl (l:=[(0,.i n)]) rfl ?_
 refine sh fol [(0,.i n)] ?_
 refine sh fol [(0,.i n),(3,.nilslice)] ?_
 refine sq ?_
 refine sh fol [(0,.i n),(3,.nilslice),(4,.i 0)] ?_
 refine Goes.block ?_
 obtain⟨f,g4,h⟩:=bnd h
 refine Goes.imp (Q:=fun x s'=>(x= .exit 0/\ ∃d,d=f/\Sub s' (ofG 15 [(3,.gslice 0 d.length 1)],(kG d [])))) ?_ ?_
 ·refine Goes.sub (s':=(ofG 15 [(0,.i n),(3,.gslice 0 ([]:List Int).length 1),(4,.i 0)],kAe)) (Sub.norm [] [none] rfl rfl (.keep (.same nI) (.keep .nil (.keep (.same nI) .nil))) (.fresh .nil)) ?_
  refine Uc (fun M s=> ∃(b:List Int) (a:Int),s=(ofG 15 [(0,.i n),(3,.gslice 0 b.length 1),(4,.i a)],(kG b []))/\zI n M b a=some f) ?_ (m:=N) ⟨_,_,rfl,g4⟩
  rintro M s ⟨b,a,rfl,g4⟩
  cases M with
  |zero=>simp only[zI]at g4;cases g4
  |succ M=>
   rw[zI]at g4
   refine sq ?_
   refine sh fol [(0,.i n),(3,.gslice 0 b.length 1),(4,.i a),(7,.bool (decide (a<n)))] ?_
   refine ihD g4 (fun g g4=>?_) (fun g g4=>?_)
   ·refine Goes.skip ?_
    refine sq (Goes.block ?_)
    obtain⟨c,e,g4⟩:=bnd g4
    refine gq fol [3] [(0,.i n),(3,.gslice 2 c.length 1),(4,.i a)] (kAo a (kG c [])) (ac (hs (.run [0,1] (yo ZT [22,22] (.gslice 0 b.length 1) (.slice 1 0 1 1 1)) (kG b [.cells [.i a]]) (.gslice 2 c.length 1) (kAo a (kG c [])) true) (qbb vK (E:=encI) rfl (qd5 (E:=encI) (ys:=[a]) rfl rfl rfl rfl) (qfg (E:=encI) (l:=b) rfl rfl rfl e rfl))) az) ?_
    refine gh fol [(0,.i n),(3,.gslice 2 c.length 1),(4,.i (w64 (a+1)))] ?_
    exact⟨M,(ofG 15 [(0,.i n),(3,.gslice 0 c.length 1),(4,.i (w64 (a+1)))],(kG c [])),Nat.lt_succ_self _,(Sub.norm [] [some 2] rfl rfl (.keep (.same nI) (.keep (.gslice rfl) (.keep (.same nI) .nil))) (.ks .nil)),_,_,rfl,g4⟩
   refine Goes.exit ?_
   obtain rfl:=si g4
   exact⟨rfl,_,rfl,(Sub.keep [3] rfl rfl)⟩
 rintro x s' ⟨rfl,d,rfl,hsub⟩
 refine Goes.sub hsub ?_
 refine sh fol [(2,.gslice 0 d.length 1)] ?_
 refine Goes.ret ?_
 obtain rfl:=si h
 exact(gw2 [.gslice 0 d.length 1] (FzW.fz (Fz.gs (E:=encI) rfl rfl (nl rfl))))
def zY (p:List Int) (q:List Int):Nat->(List Int)->Int->Option (List Int)
 |0,_,_=>none
 |K+1,b,a=>
  if a<(p.length:Int)then
  (idx p a).bind fun c=>
  (idx q c).bind fun d=>
  (app 8 b [d]).bind fun e=>
  zY p q K e (w64 (a+1))
  else
  some b
def jN (N:Nat) (p:List Int) (q:List Int):Option (List Int):=
 (zY p q N ([]:List Int) 0).bind fun a=>
 some a
theorem qaM (N:Nat) (p:List Int) (q:List Int) {res:List Int} (h:jN N p q=some res):qc ZT (.fn 20) [vl encI p,vl encI q] [] (vl encI res) []:=by
 unfold jN at h
 refine Ub Tryz.func20 rfl rfl (m:=24) rfl (rs:=[.tmp 4]) rfl (l:=(kN p (kAN q []))) rfl ?_
 refine sh fol (kN p (kAN q [])) ?_
 refine sh fol (kN p (kAN q [(5,.nilslice)])) ?_
 refine sq ?_
 refine sh fol (kN p (kAN q [(5,.nilslice),(6,.i 0)])) ?_
 refine Goes.block ?_
 obtain⟨k,g4,h⟩:=bnd h
 refine Goes.imp (Q:=fun x s'=>(x= .exit 0/\ ∃f,f=k/\Sub s' (ofG 24 [(5,.gslice 0 f.length 1)],(kG f [])))) ?_ ?_
 ·refine Goes.sub (s':=(ofG 24 (kN p (kAN q [(5,.gslice 0 ([]:List Int).length 1),(6,.i 0)])),kAe)) (Sub.norm [] [none] rfl rfl (.keep (.same (qf encI _)) (.keep (.same (qf encI _)) (.keep .nil (.keep (.same nI) .nil)))) (.fresh .nil)) ?_
  refine Uc (fun M s=> ∃(a:List Int) (b:Int),s=(ofG 24 (kN p (kAN q [(5,.gslice 0 a.length 1),(6,.i b)])),(kG a []))/\zY p q M a b=some k) ?_ (m:=N) ⟨_,_,rfl,g4⟩
  rintro M s ⟨a,b,rfl,g4⟩
  cases M with
  |zero=>simp only[zY]at g4;cases g4
  |succ M=>
   rw[zY]at g4
   refine sq ?_
   refine sh fol (kN p (kAN q [(5,.gslice 0 a.length 1),(6,.i b),(10,.bool (decide (b<(p.length:Int))))])) ?_
   refine ihD g4 (fun n g4=>?_) (fun n g4=>?_)
   ·refine Goes.skip ?_
    refine sq (Goes.block ?_)
    obtain⟨o,c,g4⟩:=bnd g4
    obtain⟨j,d,g4⟩:=bnd g4
    obtain⟨e,g,g4⟩:=bnd g4
    refine gq fol [4,5,6,7,9] (kN p (kAN q [(5,.gslice 2 e.length 1),(6,.i b)])) (kAo j (kG e [])) (ac (iv vK encI c) (ac (lv 0 ce3 encI c rfl) (ac (iv vK encI d) (ac (lv 0 ce3 encI d rfl) (ac (hs (.run [0,1] (yo ZT [22,22] (.gslice 0 a.length 1) (.slice 1 0 1 1 1)) (kG a [.cells [.i j]]) (.gslice 2 e.length 1) (kAo j (kG e [])) true) (qbb vK (E:=encI) rfl (qd5 (E:=encI) (ys:=[j]) rfl rfl rfl rfl) (qfg (E:=encI) (l:=a) rfl rfl rfl g rfl))) az))))) ?_
    refine gh fol (kN p (kAN q [(5,.gslice 2 e.length 1),(6,.i (w64 (b+1)))])) ?_
    exact⟨M,(ofG 24 (kN p (kAN q [(5,.gslice 0 e.length 1),(6,.i (w64 (b+1)))])),(kG e [])),Nat.lt_succ_self _,(Sub.norm [] [some 2] rfl rfl (.keep (.same (qf encI _)) (.keep (.same (qf encI _)) (.keep (.gslice rfl) (.keep (.same nI) .nil)))) (.ks .nil)),_,_,rfl,g4⟩
   refine Goes.exit ?_
   obtain rfl:=si g4
   exact⟨rfl,_,rfl,(Sub.keep [5] rfl rfl)⟩
 rintro x s' ⟨rfl,f,rfl,hsub⟩
 refine Goes.sub hsub ?_
 refine sh fol [(4,.gslice 0 f.length 1)] ?_
 refine Goes.ret ?_
 obtain rfl:=si h
 exact(gw2 [.gslice 0 f.length 1] (FzW.fz (Fz.gs (E:=encI) rfl rfl (nl rfl))))
def qI (least:Int):Nat->Int->Str->Option Str
 |0,_,_=>none
 |K+1,a,b=>
  (if a>0 then
  some true
  else
  some (decide ((b.length:Int)<least)):Option Bool).bind fun d=>
  if d=true then
  (cut [48,49,50,51,52,53,54,55,56,57] (a.tmod 10) (w64 ((a.tmod 10)+1))).bind fun e=>
  (cat e b).bind fun c=>
  qI least K (w64 (a.tdiv 10)) c
  else
  some b
def zG (N:Nat) (n:Int) (least:Int):Option Str:=
 (qI least N n []).bind fun a=>
 some a
theorem qaE (N:Nat) (n:Int) (least:Int) {res:Str} (h:zG N n least=some res):qc ZT (.fn 104) [.i n,.i least] [] (.str res) []:=by
 unfold zG at h
 refine Ub Tryz.func104 rfl rfl (m:=25) rfl (rs:=[.tmp 4]) rfl (l:=[(0,.i n),(1,.i least)]) rfl ?_
 refine sh fol [(0,.i n),(1,.i least)] ?_
 refine sh fol [(0,.i n),(1,.i least),(5,.str [])] ?_
 refine sq (Goes.block ?_)
 obtain⟨k,g4,h⟩:=bnd h
 refine Goes.imp (Q:=fun x s'=>(x= .exit 0/\ ∃f,f=k/\Sub s' (ofG 25 [(5,.str f)],[]))) ?_ ?_
 ·refine Uc (fun M s=> ∃(b:Int) (d:Str),s=(ofG 25 (kAt b least d []),[])/\qI least M b d=some k) ?_ (m:=N) ⟨_,_,rfl,g4⟩
  rintro M s ⟨b,d,rfl,g4⟩
  cases M with
  |zero=>simp only[qI]at g4;cases g4
  |succ M=>
   rw[qI]at g4
   refine sq ?_
   refine sq ?_
   obtain⟨p,a,g4⟩:=bnd g4
   refine Goes.cut (s':=(ofG 25 (kAt b least d [(13,.bool p)]),[])) ?_ ?_
   ·rcases wyD a with⟨j,a⟩|⟨j,a⟩
    ·obtain rfl:=si a
     exact tr fol [2] (kAt b least d [(13,.bool true)]) (ac (gw j) az)
    obtain rfl:=si a
    exact tr fol [2] (kAt b least d [(13,.bool (decide ((d.length:Int)<least)))]) (ac (gw j) az)
   refine ihB g4 (fun q g4=>?_) (fun q g4=>?_)
   ·refine Goes.skip ?_
    refine Goes.block ?_
    obtain⟨o,g,g4⟩:=bnd g4
    obtain⟨c,e,g4⟩:=bnd g4
    refine sq (gr fol [5,7] (kAt b least c []) (ac (hs (.done (.opt (yx ZT 9 (.str [48,49,50,51,52,53,54,55,56,57]) (some (.i (b.tmod 10))) (some (.i (w64 ((b.tmod 10)+1)))) none)) (.str o)) (qht st9 (some (b.tmod 10)) (some (w64 ((b.tmod 10)+1))) g)) (ac (hs (.done (.opt (zn ZT .add 9 (.tmp 19) (.tmp 20) (.str o) (.str d))) (.str c)) (qbW e)) az)) ?_)
    refine gh fol (kAt (w64 (b.tdiv 10)) least c []) ?_
    exact⟨M,(ofG 25 (kAt (w64 (b.tdiv 10)) least c []),[]),Nat.lt_succ_self _,(Sub.refl _),_,_,rfl,g4⟩
   refine Goes.exit ?_
   obtain rfl:=si g4
   exact⟨rfl,_,rfl,(Sub.keep [5] rfl rfl)⟩
 rintro x s' ⟨rfl,f,rfl,hsub⟩
 refine Goes.sub hsub ?_
 refine sh fol [(4,.str f)] ?_
 refine Goes.ret ?_
 obtain rfl:=si h
 exact(gw2 [.str f] (Ua tS))
def jB (N:Nat) (a:vZ):Nat->Str->Int->Option Str
 |0,_,_=>none
 |K+1,e,b=>
  if b>=0 then
  (idx a.w b).bind fun f=>
  (zG N f 9).bind fun c=>
  (cat e c).bind fun d=>
  jB N a K d (w64 (b-1))
  else
  some e
def qao (N:Nat) (a:vZ):Option Str:=
 if(a.w.length:Int)=0 then
 some [48]
 else
 (idx a.w (w64 ((a.w.length:Int)-1))).bind fun d=>
 (zG N d 1).bind fun e=>
 (jB N a N e (w64 ((a.w.length:Int)-2))).bind fun c=>
 if a.neg=true then
 (cat [45] c).bind fun b=>
 some b
 else
 some c
theorem qeR (N:Nat) (a:vZ) {res:Str} (h:qao N a=some res):qc ZT (.fn 52) [.agg [.bool a.neg,vl encI a.w]] [] (.str res) []:=by
 unfold qao at h
 refine Ub Tryz.func52 rfl rfl (m:=39) rfl (rs:=[.tmp 2]) rfl (l:=[(0,.agg [.bool a.neg,vl encI a.w])]) rfl ?_
 refine sg fol (kAK []) (kAi a.neg a.w []) ?_
 refine sq ?_
 refine sh fol (kAK [(8,.bool (decide ((a.w.length:Int)=0)))]) ?_
 refine ihD h (fun v h=>?_) (fun v h=>?_)
 ·refine sh fol [(2,.str [48])] ?_
  refine Goes.ret ?_
  obtain rfl:=si h
  exact(gw2 [.str [48]] (Ua tS))
 refine Goes.skip ?_
 obtain⟨y,c,h⟩:=bnd h
 obtain⟨t,o,h⟩:=bnd h
 refine sq (gr fol [6,7,8] (kAK [(3,.str t)]) (ac (iv vK encI c) (ac (lv 0 ce3 encI c rfl) (ac (cv (qaE N y 1 o)) az))) ?_)
 refine sq ?_
 refine sh fol (kAK [(3,.str t),(4,.i (w64 ((a.w.length:Int)-2)))]) ?_
 refine Goes.block ?_
 obtain⟨u,g7,h⟩:=bnd h
 refine Goes.imp (Q:=fun x s'=>(x= .exit 0/\ ∃f,f=u/\Sub s' (ofG 39 (kAK [(3,.str f)]),(kAi a.neg a.w [])))) ?_ ?_
 ·refine Uc (fun M s=> ∃(p:Str) (d:Int),s=(ofG 39 (kAK [(3,.str p),(4,.i d)]),(kAi a.neg a.w []))/\jB N a M p d=some u) ?_ (m:=N) ⟨_,_,rfl,g7⟩
  rintro M s ⟨p,d,rfl,g7⟩
  cases M with
  |zero=>simp only[jB]at g7;cases g7
  |succ M=>
   rw[jB]at g7
   refine sq ?_
   refine sh fol (kAK [(3,.str p),(4,.i d),(23,.bool (decide (d>=0)))]) ?_
   refine ihD g7 (fun z g7=>?_) (fun z g7=>?_)
   ·refine Goes.skip ?_
    refine sq (Goes.block ?_)
    obtain⟨A,e,g7⟩:=bnd g7
    obtain⟨q,g,g7⟩:=bnd g7
    obtain⟨b,j,g7⟩:=bnd g7
    refine gr fol [4,5,6,7] (kAK [(3,.str b),(4,.i d)]) (ac (iv vK encI e) (ac (lv 0 ce3 encI e rfl) (ac (cv (qaE N A 9 g)) (ac (hs (.done (.opt (zn ZT .add 9 (.tmp 26) (.tmp 32) (.str p) (.str q))) (.str b)) (qbW j)) az)))) ?_
    refine gh fol (kAK [(3,.str b),(4,.i (w64 (d-1)))]) ?_
    exact⟨M,(ofG 39 (kAK [(3,.str b),(4,.i (w64 (d-1)))]),(kAi a.neg a.w [])),Nat.lt_succ_self _,(Sub.refl _),_,_,rfl,g7⟩
   refine Goes.exit ?_
   obtain rfl:=si g7
   exact⟨rfl,_,rfl,(Sub.keep [1,3] rfl rfl)⟩
 rintro x s' ⟨rfl,f,rfl,hsub⟩
 refine Goes.sub hsub ?_
 refine sq ?_
 refine sh fol [(3,.str f),(35,.bool a.neg)] ?_
 refine ihB h (fun r h=>?_) (fun r h=>?_)
 ·obtain⟨k,n,h⟩:=bnd h
  refine sq (gr fol [1] [(2,.str k)] (ac (hs (.done (.opt (zn ZT .add 9 (.const (.string ⟨#[45]⟩)) (.tmp 36) (.str [45]) (.str f))) (.str k)) (qbW n)) az) ?_)
  refine Goes.ret ?_
  obtain rfl:=si h
  exact(gw2 [.str k] (Ua tS))
 refine Goes.skip ?_
 refine sh fol [(2,.str f)] ?_
 refine Goes.ret ?_
 obtain rfl:=si h
 exact(gw2 [.str f] (Ua tS))
def jO:Nat->(List Int)->Option (List Int)
 |0,_=>none
 |K+1,a=>
  (if(a.length:Int)>0 then
  (idx a (w64 ((a.length:Int)-1))).bind fun b=>
  some (decide (b=0))
  else
  some false:Option Bool).bind fun c=>
  if c=true then
  (cut a 0 (w64 ((a.length:Int)-1))).bind fun d=>
  jO K d
  else
  some a
def qam (N:Nat) (w:List Int):Option (List Int):=
 (jO N w).bind fun a=>
 some a
theorem qeL (N:Nat) (w:List Int) {res:List Int} (h:qam N w=some res):qc ZT (.fn 158) [vl encI w] [] (vl encI res) []:=by
 unfold qam at h
 refine Ub Tryz.func158 rfl rfl (m:=21) rfl (rs:=[.tmp 2]) rfl (l:=(kN w [])) rfl ?_
 refine sh fol (kN w []) ?_
 refine sq (Goes.block ?_)
 obtain⟨j,g3,h⟩:=bnd h
 refine Goes.imp (Q:=fun x s'=>(x= .exit 0/\ ∃d,d=j/\Sub s' (ofG 21 (kN d []),[]))) ?_ ?_
 ·refine Uc (fun M s=> ∃(b:List Int),s=(ofG 21 (kN b []),[])/\jO M b=some j) ?_ (m:=N) ⟨_,rfl,g3⟩
  rintro M s ⟨b,rfl,g3⟩
  cases M with
  |zero=>simp only[jO]at g3;cases g3
  |succ M=>
   rw[jO]at g3
   refine sq ?_
   refine sq ?_
   obtain⟨k,a,g3⟩:=bnd g3
   refine Goes.cut (s':=(ofG 21 (kN b [(14,.bool k)]),[])) ?_ ?_
   ·rcases wyD a with⟨f,a⟩|⟨f,a⟩
    ·obtain⟨n,c,a⟩:=bnd a
     obtain rfl:=si a
     exact tr fol [3,8,9] (kN b [(14,.bool (decide (n=0)))]) (ac (gw f) (ac (iv vK encI c) (ac (lv 0 ce3 encI c rfl) az)))
    obtain rfl:=si a
    exact tr fol [3] (kN b [(14,.bool false)]) (ac (gw f) az)
   refine ihB g3 (fun o g3=>?_) (fun o g3=>?_)
   ·refine Goes.skip ?_
    refine Goes.block ?_
    obtain⟨g,e,g3⟩:=bnd g3
    refine gr fol [4] (kN g []) (ac (hs (.done (.opt (yx ZT 22 (vl encI b) none (some (.i (w64 ((b.length:Int)-1)))) none)) (vl encI g)) (qk3 vK (E:=encI) rfl none (some (w64 ((b.length:Int)-1))) e)) az) ?_
    exact⟨M,(ofG 21 (kN g []),[]),Nat.lt_succ_self _,(Sub.refl _),_,rfl,g3⟩
   refine Goes.exit ?_
   obtain rfl:=si g3
   exact⟨rfl,_,rfl,(Sub.keep [0] rfl rfl)⟩
 rintro x s' ⟨rfl,d,rfl,hsub⟩
 refine Goes.sub hsub ?_
 refine sh fol [(2,vl encI d)] ?_
 refine Goes.ret ?_
 obtain rfl:=si h
 exact(gw2 [vl encI d] (Ua (qZ encI _ (nl rfl))))
def yS (N:Nat) (neg:Bool) (w:List Int):Option vZ:=
 (qam N w).bind fun a=>
 (if neg=true then
 some (decide ((a.length:Int)>0))
 else
 some false:Option Bool).bind fun b=>
 some (⟨b,a⟩:vZ)
theorem qdw (N:Nat) (neg:Bool) (w:List Int) {res:vZ} (h:yS N neg w=some res):qc ZT (.fn 105) [.bool neg,vl encI w] [] (.agg [.bool res.neg,vl encI res.w]) []:=by
 unfold yS at h
 refine Ub Tryz.func105 rfl rfl (m:=15) rfl (rs:=[.cell 4 91]) rfl (l:=((0,.bool neg)::(kAN w []))) rfl ?_
 refine sg fol ((0,.bool neg)::(kAN w (kAR []))) (kAD []) ?_
 obtain⟨b,c,h⟩:=bnd h
 refine sq (gr fol [1] ((0,.bool neg)::(kAN b (kAR []))) (ac (cv (qeL N w c)) az) ?_)
 refine sq ?_
 obtain⟨e,a,h⟩:=bnd h
 refine Goes.cut (s':=(ofG 15 (kAR []),(kAi e b []))) ?_ ?_
 ·rcases wyB a with⟨d,a⟩|⟨d,a⟩
  ·obtain rfl:=si a
   exact vH.rq fol [1] (kAR []) (kAi (decide ((b.length:Int)>0)) b []) (ac (gw d) az)
  obtain rfl:=si a
  exact vH.rq fol [1] (kAR []) [.cells [.bool false,vl encI b]] (ac (gw d) az)
 refine Goes.ret ?_
 obtain rfl:=si h
 exact(gw2 [.agg [.bool e,vl encI b]] (FzW.agg (qg.cons (Ua tB) (qg.cons (Ua (qZ encI _ (nl rfl))) qg.nil))))
def jK:Nat->(List Int)->Int->Option (List Int)
 |0,_,_=>none
 |K+1,b,a=>
  if(!decide (a=0))=true then
  ((if(a.tmod 1000000000)<0 then
  some (w64 (0-(a.tmod 1000000000)))
  else
  some (a.tmod 1000000000):Option Int)).bind fun c=>
  (app 8 b [c]).bind fun d=>
  jK K d (w64 (a.tdiv 1000000000))
  else
  some b
def xy (N:Nat) (n:Int):Option vZ:=
 (jK N ([]:List Int) n).bind fun b=>
 (yS N (decide (n<0)) b).bind fun a=>
 some a
theorem qeB (N:Nat) (n:Int) {res:vZ} (h:xy N n=some res):qc ZT (.fn 53) [.i n] [] (.agg [.bool res.neg,vl encI res.w]) []:=by
 unfold xy at h
 refine Ub Tryz.func53 rfl rfl (m:=25) rfl (rs:=[.cell 2 91]) rfl (l:=[(0,.i n)]) rfl ?_
 refine sg fol (kAm n []) (kAD []) ?_
 refine sh fol (kAm n [(3,.nilslice)]) ?_
 refine sh fol (kAm n [(3,.nilslice),(4,.bool (decide (n<0)))]) ?_
 refine sq (Goes.block ?_)
 obtain⟨o,g4,h⟩:=bnd h
 refine Goes.imp (Q:=fun x s'=>(x= .exit 0/\ ∃e,e=o/\Sub s' (ofG 25 (kAB e (decide (n<0)) []),(kAD (kG e []))))) ?_ ?_
 ·refine Goes.sub (s':=(ofG 25 (kAm n [(3,.gslice 1 ([]:List Int).length 1),(4,.bool (decide (n<0)))]),(kAD kAe))) (Sub.norm [] [some 0,none] rfl rfl (.keep (.same nI) (.kp (.keep .nil (.keep (.same nB) .nil)))) (.kb rfl (.same sn) (.fresh .nil))) ?_
  refine Uc (fun M s=> ∃(d:List Int) (b:Int),s=(ofG 25 ((0,.i b)::(kAB d (decide (n<0)) [])),(kAD (kG d [])))/\jK M d b=some o) ?_ (m:=N) ⟨_,_,rfl,g4⟩
  rintro M s ⟨d,b,rfl,g4⟩
  cases M with
  |zero=>simp only[jK]at g4;cases g4
  |succ M=>
   rw[jK]at g4
   refine sq ?_
   refine sh fol ((0,.i b)::(kAB d (decide (n<0)) [(9,.bool (!decide (b=0)))])) ?_
   refine ihB g4 (fun p g4=>?_) (fun p g4=>?_)
   ·refine Goes.skip ?_
    refine Goes.block ?_
    refine sh fol ((0,.i b)::(kAB d (decide (n<0)) [(5,.i (b.tmod 1000000000))])) ?_
    refine sq ?_
    refine sh fol ((0,.i b)::(kAB d (decide (n<0)) [(5,.i (b.tmod 1000000000)),(13,.bool (decide ((b.tmod 1000000000)<0)))])) ?_
    obtain⟨q,g7,g4⟩:=bnd g4
    refine Goes.imp (Q:=fun x s'=>(x= .normal/\ ∃f,f=q/\Sub s' (ofG 25 ((0,.i b)::(kAB d (decide (n<0)) [(5,.i f)])),(kAD (kG d []))))) ?_ ?_
    ·refine ihD g7 (fun r g7=>?_) (fun r g7=>?_)
     ·refine gh fol ((0,.i b)::(kAB d (decide (n<0)) [(5,.i (w64 (0-(b.tmod 1000000000))))])) ?_
      obtain rfl:=si g7
      exact⟨rfl,_,rfl,(Sub.refl _)⟩
     refine Goes.skip ?_
     obtain rfl:=si g7
     exact⟨rfl,_,rfl,(Sub.keep [0,2,3,4,5] rfl rfl)⟩
    rintro x s' ⟨rfl,f,rfl,hsub⟩
    refine Goes.sub hsub ?_
    obtain⟨g,k,g4⟩:=bnd g4
    refine sq (gq fol [3] (kAm b [(3,.gslice 3 g.length 1),(4,.bool (decide (n<0)))]) (kAD (kAo f (kG g []))) (ac (hs (.run [1,2] (yo ZT [22,22] (.gslice 1 d.length 1) (.slice 2 0 1 1 1)) (kAD (kG d [.cells [.i f]])) (.gslice 3 g.length 1) (kAD (kAo f (kG g []))) true) (qbb vK (E:=encI) rfl (qd5 (E:=encI) (ys:=[f]) rfl rfl rfl rfl) (qfg (E:=encI) (l:=d) rfl rfl rfl k rfl))) az) ?_)
    refine gh fol (kAm (w64 (b.tdiv 1000000000)) [(3,.gslice 3 g.length 1),(4,.bool (decide (n<0)))]) ?_
    exact⟨M,(ofG 25 ((0,.i (w64 (b.tdiv 1000000000)))::(kAB g (decide (n<0)) [])),(kAD (kG g []))),Nat.lt_succ_self _,(Sub.norm [] [some 0,some 3] rfl rfl (.keep (.same nI) (.kp (.keep (.gslice rfl) (.keep (.same nB) .nil)))) (.kb rfl (.same sn) (.ks .nil))),_,_,rfl,g4⟩
   refine Goes.exit ?_
   obtain rfl:=si g4
   exact⟨rfl,_,rfl,(Sub.keep [2,3,4] rfl rfl)⟩
 rintro x s' ⟨rfl,e,rfl,hsub⟩
 refine Goes.sub hsub ?_
 obtain⟨a,j,h⟩:=bnd h
 refine sq (gq fol [2] [(2,.ptr 0 0)] (kAi a.neg a.w [.frozen (e.flatMap encI.c)]) (ac (hs (.callF 105 [.bool (decide (n<0)),.gslice 1 e.length 1] (kAD (kG e [])) [1] [.bool (decide (n<0)),vl encI e] (.agg [.bool a.neg,vl encI a.w])) (qbO (FzL.cons (Fz.still tB) (FzL.cons (Fz.gs (E:=encI) rfl rfl (nl rfl)) FzL.nil)) (qdw N (decide (n<0)) e j) (Still.agg (AllST.cons tB (AllST.cons (qZ encI _ (nl rfl)) AllST.nil))))) az) ?_)
 refine Goes.sub (show Sub (ofG 25 [(2,.ptr 0 0)],(kAi a.neg a.w [.frozen (e.flatMap encI.c)])) (ofG 25 [(2,.ptr 0 0)],(kAi a.neg a.w []))from(Sub.norm [] [some 0] rfl rfl (.kp .nil) (.kb rfl (.same sn) .nil))) ?_
 refine Goes.ret ?_
 obtain rfl:=si h
 exact(gw2 [.agg [.bool a.neg,vl encI a.w]] (FzW.agg (qg.cons (Ua tB) (qg.cons (Ua (qZ encI _ (nl rfl))) qg.nil))))
def vO (N:Nat) (n:Int):Option Str:=
 (xy N n).bind fun a=>
 (qao N a).bind fun b=>
 some b
theorem qaJ (N:Nat) (n:Int) {res:Str} (h:vO N n=some res):qc ZT (.fn 21) [.i n] [] (.str res) []:=by
 unfold vO at h
 refine Ub Tryz.func21 rfl rfl (m:=6) rfl (rs:=[.tmp 2]) rfl (l:=[(0,.i n)]) rfl ?_
 refine sh fol [(0,.i n)] ?_
 obtain⟨d,a,h⟩:=bnd h
 obtain⟨c,b,h⟩:=bnd h
 refine sq (gr fol [1,2] [(2,.str c)] (ac (cv (qeB N n a)) (ac (cv (qeR N d b)) az)) ?_)
 refine Goes.ret ?_
 obtain rfl:=si h
 exact(gw2 [.str c] (Ua tS))
def strings_HasPrefix (b:Str) (a:Str):Option Bool:=
 (stringslite_HasPrefix b a).bind fun c=>
 some c
end Go.Av
