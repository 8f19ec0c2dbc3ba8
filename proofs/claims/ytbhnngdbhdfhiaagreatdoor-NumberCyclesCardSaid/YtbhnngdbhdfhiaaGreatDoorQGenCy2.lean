/-
  Walks of functions: what each computes, as a plain function.
-/
import Derived.Test.YtbhnngdbhdfhiaaGreatDoorQGenCy1
noncomputable section
namespace Go.Av
open Go.Proofs Go.RowKit
set_option linter.unusedSectionVars false
set_option linter.unusedVariables false
set_option linter.unusedSimpArgs false
set_option maxRecDepth 100000
def zR (N:Nat) (a:qx) (b:qx):Option (qx×qx):=
 (if a.w.isEmpty=true then
 if b.w.isEmpty=true then
 some (!decide (a.s=(-9223372036854775808)))
 else
 some false
 else
 some false:Option Bool).bind fun r=>
 if r=true then
 (qbh .i64 a.s b.s).bind fun q=>
 (qad .i64 a.s b.s).bind fun i=>
 ((if i<0 then
 some (w64 (q-1),w64 (i+b.s))
 else
 some (q,i):Option (Int×Int))).bind fun(t,u)=>
 some ((⟨t,[]⟩:qx),(⟨u,[]⟩:qx))
 else
 (qC a).bind fun d=>
 (qC b).bind fun j=>
 (xQ N d.2 j.2).bind fun f=>
 (jy d.1 f.1).bind fun e=>
 (jy d.1 f.2).bind fun c=>
 (zt c).bind fun k=>
 ((if k<0 then
 (qdF 1).bind fun l=>
 (xR N e l).bind fun g=>
 (xe N c b).bind fun h=>
 some (g.s,g.w,h.s,h.w)
 else
 some (e.s,e.w,c.s,c.w):Option (Int×(List Int)×Int×(List Int)))).bind fun(m,n,o,p)=>
 some ((⟨m,n⟩:qx),(⟨o,p⟩:qx))
theorem qbt (N:Nat) (a:qx) (b:qx) {res:qx×qx} (h:zR N a b=some res):qc ZT (.fn 114) [.agg (nz1 a),.agg (nz1 b)] [] (.tuple [.agg (nz1 res.1),.agg (nz1 res.2)]) []:=by
 unfold zR at h
 refine Ub Tryz.func114 rfl rfl (m:=84) rfl (rs:=[.cell 4 77,.cell 5 77]) rfl (l:=[(0,.agg (nz1 a)),(1,.agg (nz1 b))]) rfl ?_
 refine sg fol (kF [(5,.ptr 3 0)]) [.cells (nz1 a),.cells (nz1 b),bZ,bZ] ?_
 refine sq ?_
 refine sq ?_
 obtain⟨b3,c,h⟩:=bnd h
 refine Goes.cut (s':=(ofG 84 (kF [(5,.ptr 3 0),(28,.bool b3)]),[.cells (nz1 a),.cells (nz1 b),bZ,bZ])) ?_ ?_
 ·rcases wyB c with⟨L,c⟩|⟨L,c⟩
  ·rcases wyB c with⟨O,c⟩|⟨O,c⟩
   ·obtain rfl:=si c
    exact tr fol [2,3,6,8] (kF [(5,.ptr 3 0),(28,.bool (!decide (a.s=(-9223372036854775808))))]) (ac (hs (.done (.opt (qO ZT .eql 75 (.tmp 17) (.const (.slice none 0 0)) (nvl (qa .u64) a.w) .nilslice)) (.bool a.w.isEmpty)) (qat qak)) (ac (gw L) (ac (hs (.done (.opt (qO ZT .eql 75 (.tmp 21) (.const (.slice none 0 0)) (nvl (qa .u64) b.w) .nilslice)) (.bool b.w.isEmpty)) (qat qak)) (ac (gw O) az))))
   obtain rfl:=si c
   exact tr fol [2,3,6,8] (kF [(5,.ptr 3 0),(28,.bool false)]) (ac (hs (.done (.opt (qO ZT .eql 75 (.tmp 17) (.const (.slice none 0 0)) (nvl (qa .u64) a.w) .nilslice)) (.bool a.w.isEmpty)) (qat qak)) (ac (gw L) (ac (hs (.done (.opt (qO ZT .eql 75 (.tmp 21) (.const (.slice none 0 0)) (nvl (qa .u64) b.w) .nilslice)) (.bool b.w.isEmpty)) (qat qak)) (ac (gw O) az))))
  obtain rfl:=si c
  exact tr fol [2,3] (kF [(5,.ptr 3 0),(28,.bool false)]) (ac (hs (.done (.opt (qO ZT .eql 75 (.tmp 17) (.const (.slice none 0 0)) (nvl (qa .u64) a.w) .nilslice)) (.bool a.w.isEmpty)) (qat qak)) (ac (gw L) az))
 refine ihB h (fun c5 h=>?_) (fun c5 h=>?_)
 ·obtain⟨M,F,h⟩:=bnd h
  obtain⟨G,H,h⟩:=bnd h
  refine sq (gr fol [4,9] (kAI [(6,.i M),(7,.i G)]) (ac (hs (.done (.opt (qO ZT .quo 3 (.tmp 30) (.tmp 32) (.i a.s) (.i b.s))) (.i M)) (qa0 F)) (ac (hs (.done (.opt (qO ZT .rem 3 (.tmp 35) (.tmp 37) (.i a.s) (.i b.s))) (.i G)) (qap H)) az)) ?_)
  refine sq ?_
  refine sh fol (kAI [(6,.i M),(7,.i G),(40,.bool (decide (G<0)))]) ?_
  obtain⟨P,g10,h⟩:=bnd h
  refine Goes.imp (Q:=fun x s'=>(x= .normal/\ ∃I J,(I,J)=P/\Sub s' (ofG 84 (kAZ [(5,.ptr 1 0),(6,.i I),(7,.i J)]),[bZ,bZ]))) ?_ ?_
  ·refine ihD g10 (fun U g10=>?_) (fun U g10=>?_)
   ·refine gh fol (kAa [(5,.ptr 3 0),(6,.i (w64 (M-1))),(7,.i (w64 (G+b.s)))]) ?_
    obtain rfl:=si g10
    exact⟨rfl,_,_,rfl,(Sub.norm [] [some 2,some 3] rfl rfl (.kp (.kp (.keep (.same nI) (.keep (.same nI) .nil)))) (.kb rfl (.same sn) (.kb rfl (.same sn) .nil)))⟩
   refine Goes.skip ?_
   obtain rfl:=si g10
   exact⟨rfl,_,_,rfl,(Sub.norm [] [some 2,some 3] rfl rfl (.drop (.kp (.kp (.keep (.same nI) (.keep (.same nI) .nil))))) (.kb rfl (.same sn) (.kb rfl (.same sn) .nil)))⟩
  rintro x s' ⟨rfl,I,J,rfl,hsub⟩
  try dsimp only at h
  refine Goes.sub hsub ?_
  refine sg fol (kAZ [(5,.ptr 1 0)]) (.cells [.i I,.nilslice]::(kAh J)) ?_
  refine Goes.ret ?_
  obtain rfl:=si h
  exact(gw2 [.agg [.i I,.nilslice],.agg [.i J,.nilslice]] (FzW.tuple (qg.cons (FzW.agg (qg.cons (Ua tI) (qg.cons (FzW.nv0 (E:=(qa .u64))) qg.nil))) (qg.cons (FzW.agg (qg.cons (Ua tI) (qg.cons (FzW.nv0 (E:=(qa .u64))) qg.nil))) qg.nil))))
 refine Goes.skip ?_
 obtain⟨j,r,h⟩:=bnd h
 refine sq (gr fol [1] (kAI [(8,.bool j.1),(9,vl (qa .u64) j.2)]) (ac (cv (zq a r)) az) ?_)
 obtain⟨K,t,h⟩:=bnd h
 refine sq (gr fol [1] (kAI [(8,.bool j.1),(9,vl (qa .u64) j.2),(11,vl (qa .u64) K.2)]) (ac (cv (zq b t)) az) ?_)
 obtain⟨q,u,h⟩:=bnd h
 refine sq (gr fol [2] (kAI [(8,.bool j.1),(12,vl (qa .u64) q.1),(13,vl (qa .u64) q.2)]) (ac (cv (qdx N j.2 K.2 u)) az) ?_)
 obtain⟨o,v,h⟩:=bnd h
 obtain⟨k,y,h⟩:=bnd h
 refine sq (gq fol [2,5,8,9] (kAI [(14,.ptr 4 0),(15,.ptr 5 0)]) [.cells (nz1 a),.cells (nz1 b),bZ,bZ,.cells (nz1 o),.cells (nz1 k)] (ac (cv (yZ j.1 q.1 v)) (ac (cv (yZ j.1 q.2 y)) (ac (hs (.run [4] (qw ZT 77 (.ptr 4 0) (.agg (nz1 o))) [.cells (nz1 a),.cells (nz1 b),bZ,bZ,bZ,bZ] .undef [.cells (nz1 a),.cells (nz1 b),bZ,bZ,.cells (nz1 o),bZ] true) (zT (n:=2) (by kernel_rfl) rfl rfl rfl rfl (cac rfl (cac nvc can)) rfl)) (ac (hs (.run [5] (qw ZT 77 (.ptr 5 0) (.agg (nz1 k))) [.cells (nz1 a),.cells (nz1 b),bZ,bZ,.cells (nz1 o),bZ] .undef [.cells (nz1 a),.cells (nz1 b),bZ,bZ,.cells (nz1 o),.cells (nz1 k)] true) (zT (n:=2) (by kernel_rfl) rfl rfl rfl rfl (cac rfl (cac nvc can)) rfl)) az)))) ?_)
 refine sq ?_
 obtain⟨V,z,h⟩:=bnd h
 refine sq (gr fol [1] (kAI [(14,.ptr 4 0),(15,.ptr 5 0),(75,.bool (decide (V<0)))]) (ac (cv (xB k z)) az) ?_)
 obtain⟨X,g22,h⟩:=bnd h
 refine Goes.imp (Q:=fun x s'=>(x= .normal/\ ∃d e f g,(d,e,f,g)=X/\Sub s' (ofG 84 (kAZ [(5,.ptr 1 0),(14,.ptr 2 0),(15,.ptr 3 0)]),[bZ,bZ,.cells (ni1 d e),.cells (ni1 f g)]))) ?_ ?_
 ·refine ihD g22 (fun Y g22=>?_) (fun Y g22=>?_)
  ·obtain⟨Z,A,g22⟩:=bnd g22
   obtain⟨p,B,g22⟩:=bnd g22
   obtain⟨C,D,g22⟩:=bnd g22
   refine gq fol [1,2,5,6,7] (kAa [(5,.ptr 3 0),(14,.ptr 4 0),(15,.ptr 5 0)]) [.cells (nz1 a),.cells (nz1 b),bZ,bZ,.cells (nz1 p),.cells (nz1 C)] (ac (cv (qeA 1 A)) (ac (cv (qga N o Z B)) (ac (cv (qcO N k b D)) (ac (hs (.run [4] (qw ZT 77 (.ptr 4 0) (.agg (nz1 p))) [.cells (nz1 a),.cells (nz1 b),bZ,bZ,.cells (nz1 o),.cells (nz1 k)] .undef [.cells (nz1 a),.cells (nz1 b),bZ,bZ,.cells (nz1 p),.cells (nz1 k)] true) (zT (n:=2) (by kernel_rfl) rfl rfl rfl rfl (cac rfl (cac nvc can)) rfl)) (ac (hs (.run [5] (qw ZT 77 (.ptr 5 0) (.agg (nz1 C))) [.cells (nz1 a),.cells (nz1 b),bZ,bZ,.cells (nz1 p),.cells (nz1 k)] .undef [.cells (nz1 a),.cells (nz1 b),bZ,bZ,.cells (nz1 p),.cells (nz1 C)] true) (zT (n:=2) (by kernel_rfl) rfl rfl rfl rfl (cac rfl (cac nvc can)) rfl)) az))))) ?_
   obtain rfl:=si g22
   exact⟨rfl,_,_,_,_,rfl,(Sub.norm [] [some 2,some 3,some 4,some 5] rfl rfl (.kp (.kp (.kp (.kp .nil)))) (.kb rfl (.same sn) (.kb rfl (.same sn) (.kb rfl (.same sn) (.kb rfl (.same sn) .nil)))))⟩
  refine Goes.skip ?_
  obtain rfl:=si g22
  exact⟨rfl,_,_,_,_,rfl,(Sub.norm [] [some 2,some 3,some 4,some 5] rfl rfl (.drop (.kp (.kp (.kp (.kp .nil))))) (.kb rfl (.same sn) (.kb rfl (.same sn) (.kb rfl (.same sn) (.kb rfl (.same sn) .nil)))))⟩
 rintro x s' ⟨rfl,d,e,f,g,rfl,hsub⟩
 try dsimp only at h
 refine Goes.sub hsub ?_
 refine sq (gq fol [2,3] (kAZ [(5,.ptr 1 0)]) [.cells (ni1 d e),.cells (ni1 f g),.cells (ni1 d e),.cells (ni1 f g)] (ac (hs (.run [0] (qw ZT 77 (.ptr 0 0) (.agg (ni1 d e))) [bZ,bZ,.cells (ni1 d e),.cells (ni1 f g)] .undef [.cells (ni1 d e),bZ,.cells (ni1 d e),.cells (ni1 f g)] true) (zT (n:=2) (by kernel_rfl) rfl rfl rfl rfl (cac rfl (cac nvc can)) rfl)) (ac (hs (.run [1] (qw ZT 77 (.ptr 1 0) (.agg (ni1 f g))) [.cells (ni1 d e),bZ,.cells (ni1 d e),.cells (ni1 f g)] .undef [.cells (ni1 d e),.cells (ni1 f g),.cells (ni1 d e),.cells (ni1 f g)] true) (zT (n:=2) (by kernel_rfl) rfl rfl rfl rfl (cac rfl (cac nvc can)) rfl)) az)) ?_)
 refine Goes.ret ?_
 obtain rfl:=si h
 exact(gw2 [.agg (ni1 d e),.agg (ni1 f g)] (FzW.tuple (qg.cons (FzW.agg (qg.cons (Ua tI) (qg.cons (Ua (qG (qa .u64) _ (nl rfl))) qg.nil))) (qg.cons (FzW.agg (qg.cons (Ua tI) (qg.cons (Ua (qG (qa .u64) _ (nl rfl))) qg.nil))) qg.nil))))
def xU (a:qx):Option qx:=
 if a.s<0 then
 (z8 a).bind fun b=>
 some b
 else
 some a
theorem qcI (a:qx) {res:qx} (h:xU a=some res):qc ZT (.fn 159) [.agg (nz1 a)] [] (.agg (nz1 res)) []:=by
 unfold xU at h
 refine Ub Tryz.func159 rfl rfl (m:=9) rfl (rs:=[.cell 2 77]) rfl (l:=[(0,.agg (nz1 a))]) rfl ?_
 refine sg fol (kAM kAj) [.cells (nz1 a),bZ] ?_
 refine sq ?_
 refine sh fol (kAM [(2,.ptr 1 0),(5,.bool (decide (a.s<0)))]) ?_
 refine ihD h (fun d h=>?_) (fun d h=>?_)
 ·obtain⟨c,b,h⟩:=bnd h
  refine sq (gq fol [1,2] kAj [.cells (nz1 a),.cells (nz1 c)] (ac (cv (vW a b)) (ac (hs (.run [1] (qw ZT 77 (.ptr 1 0) (.agg (nz1 c))) [.cells (nz1 a),bZ] .undef [.cells (nz1 a),.cells (nz1 c)] true) (zT (n:=2) (by kernel_rfl) rfl rfl rfl rfl (cac rfl (cac nvc can)) rfl)) az)) ?_)
  refine Goes.ret ?_
  obtain rfl:=si h
  exact(gw2 [.agg (nz1 c)] (FzW.agg (qg.cons (Ua tI) (qg.cons (Ua (qG (qa .u64) _ (nl rfl))) qg.nil))))
 refine Goes.skip ?_
 refine sq (gq fol [1] kAj [.cells (nz1 a),.cells (nz1 a)] (ac (hs (.run [1] (qw ZT 77 (.ptr 1 0) (.agg (nz1 a))) [.cells (nz1 a),bZ] .undef [.cells (nz1 a),.cells (nz1 a)] true) (zT (n:=2) (by kernel_rfl) rfl rfl rfl rfl (cac rfl (cac nvc can)) rfl)) az) ?_)
 refine Goes.ret ?_
 obtain rfl:=si h
 exact(gw2 [.agg (nz1 a)] (FzW.agg (qg.cons (Ua tI) (qg.cons (Ua (qG (qa .u64) _ (nl rfl))) qg.nil))))
def vC (N:Nat):Nat->Int->(List Int)->Int->(List Int)->Option (Int×(List Int))
 |0,_,_,_,_=>none
 |K+1,e,f,b,c=>
  (zt (⟨b,c⟩:qx)).bind fun d=>
  if(!decide (d=0))=true then
  (zR N (⟨e,f⟩:qx) (⟨b,c⟩:qx)).bind fun a=>
  vC N K b c a.2.s a.2.w
  else
  some (e,f)
def qb1 (N:Nat) (a:qx) (b:qx):Option qx:=
 (xU a).bind fun c=>
 (xU b).bind fun d=>
 (vC N N c.s c.w d.s d.w).bind fun(e,f)=>
 some (⟨e,f⟩:qx)
theorem qiN (N:Nat) (a:qx) (b:qx) {res:qx} (h:qb1 N a b=some res):qc ZT (.fn 108) [.agg (nz1 a),.agg (nz1 b)] [] (.agg (nz1 res)) []:=by
 unfold qb1 at h
 refine Ub Tryz.func108 rfl rfl (m:=23) rfl (rs:=[.cell 4 77]) rfl (l:=[(0,.agg (nz1 a)),(1,.agg (nz1 b))]) rfl ?_
 refine sg fol (kF []) [.cells (nz1 a),.cells (nz1 b),bZ] ?_
 obtain⟨p,q,h⟩:=bnd h
 obtain⟨t,r,h⟩:=bnd h
 refine sq (gq fol [1,3,4,5] (kF []) [.cells (nz1 p),.cells (nz1 t),bZ] (ac (cv (qcI a q)) (ac (cv (qcI b r)) (ac (hs (.run [0] (qw ZT 77 (.ptr 0 0) (.agg (nz1 p))) [.cells (nz1 a),.cells (nz1 b),bZ] .undef [.cells (nz1 p),.cells (nz1 b),bZ] true) (zT (n:=2) (by kernel_rfl) rfl rfl rfl rfl (cac rfl (cac nvc can)) rfl)) (ac (hs (.run [1] (qw ZT 77 (.ptr 1 0) (.agg (nz1 t))) [.cells (nz1 p),.cells (nz1 b),bZ] .undef [.cells (nz1 p),.cells (nz1 t),bZ] true) (zT (n:=2) (by kernel_rfl) rfl rfl rfl rfl (cac rfl (cac nvc can)) rfl)) az)))) ?_)
 refine sq (Goes.block ?_)
 obtain⟨w,g9,h⟩:=bnd h
 refine Goes.imp (Q:=fun x s'=>(x= .exit 0/\ ∃f g,(f,g)=w/\Sub s' (ofG 23 (kAA (kA9 [])),[.cells (ni1 f g),bZ]))) ?_ ?_
 ·refine Uc (fun M s=> ∃(i:Int) (j:List Int) (d:Int) (e:List Int),s=(ofG 23 (kF []),[.cells (ni1 i j),.cells (ni1 d e),bZ])/\vC N M i j d e=some w) ?_ (m:=N) ⟨_,_,_,_,rfl,g9⟩
  rintro M s ⟨i,j,d,e,rfl,g9⟩
  cases M with
  |zero=>simp only[vC]at g9;cases g9
  |succ M=>
   rw[vC]at g9
   refine sq ?_
   obtain⟨u,k,g9⟩:=bnd g9
   refine sq (gr fol [1] (kF (kA3 (!decide (u=0)))) (ac (cv (xB (⟨d,e⟩:qx) k)) az) ?_)
   refine ihB g9 (fun v g9=>?_) (fun v g9=>?_)
   ·refine Goes.skip ?_
    refine Goes.block ?_
    obtain⟨c,o,g9⟩:=bnd g9
    refine sq (gq fol [2,8,9] (kF [(6,.ptr 4 0)]) [.cells (ni1 i j),.cells (ni1 d e),bZ,.cells (nz1 c.1),.cells (nz1 c.2)] (ac (cv (qbt N (⟨i,j⟩:qx) (⟨d,e⟩:qx) o)) (ac (hs (.run [3] (qw ZT 77 (.ptr 3 0) (.agg (nz1 c.1))) [.cells (ni1 i j),.cells (ni1 d e),bZ,bZ,bZ] .undef [.cells (ni1 i j),.cells (ni1 d e),bZ,.cells (nz1 c.1),bZ] true) (zT (n:=2) (by kernel_rfl) rfl rfl rfl rfl (cac rfl (cac nvc can)) rfl)) (ac (hs (.run [4] (qw ZT 77 (.ptr 4 0) (.agg (nz1 c.2))) [.cells (ni1 i j),.cells (ni1 d e),bZ,.cells (nz1 c.1),bZ] .undef [.cells (ni1 i j),.cells (ni1 d e),bZ,.cells (nz1 c.1),.cells (nz1 c.2)] true) (zT (n:=2) (by kernel_rfl) rfl rfl rfl rfl (cac rfl (cac nvc can)) rfl)) az))) ?_)
    refine gq fol [2,3] (kF []) [.cells (ni1 d e),.cells (nz1 c.2),bZ,.cells (nz1 c.1),.cells (nz1 c.2)] (ac (hs (.run [0] (qw ZT 77 (.ptr 0 0) (.agg (ni1 d e))) [.cells (ni1 i j),.cells (ni1 d e),bZ,.cells (nz1 c.1),.cells (nz1 c.2)] .undef [.cells (ni1 d e),.cells (ni1 d e),bZ,.cells (nz1 c.1),.cells (nz1 c.2)] true) (zT (n:=2) (by kernel_rfl) rfl rfl rfl rfl (cac rfl (cac nvc can)) rfl)) (ac (hs (.run [1] (qw ZT 77 (.ptr 1 0) (.agg (nz1 c.2))) [.cells (ni1 d e),.cells (ni1 d e),bZ,.cells (nz1 c.1),.cells (nz1 c.2)] .undef [.cells (ni1 d e),.cells (nz1 c.2),bZ,.cells (nz1 c.1),.cells (nz1 c.2)] true) (zT (n:=2) (by kernel_rfl) rfl rfl rfl rfl (cac rfl (cac nvc can)) rfl)) az)) ?_
    exact⟨M,(ofG 23 (kF []),[.cells (ni1 d e),.cells (nz1 c.2),bZ]),Nat.lt_succ_self _,(Sub.norm [] [some 0,some 1,some 2] rfl rfl (.kp (.kp (.kp .nil))) (.kb rfl (.same sn) (.kb rfl (.same sn) (.kb rfl (.same sn) .nil)))),_,_,_,_,rfl,g9⟩
   refine Goes.exit ?_
   obtain rfl:=si g9
   exact⟨rfl,_,_,rfl,(Sub.norm [] [some 0,some 2] rfl rfl (.kp (.drop (.kp .nil))) (.kb rfl (.same sn) (.kb rfl (.same sn) .nil)))⟩
 rintro x s' ⟨rfl,f,g,rfl,hsub⟩
 try dsimp only at h
 refine Goes.sub hsub ?_
 refine sq (gq fol [1] (kA9 []) [.cells (ni1 f g),.cells (ni1 f g)] (ac (hs (.run [1] (qw ZT 77 (.ptr 1 0) (.agg (ni1 f g))) [.cells (ni1 f g),bZ] .undef [.cells (ni1 f g),.cells (ni1 f g)] true) (zT (n:=2) (by kernel_rfl) rfl rfl rfl rfl (cac rfl (cac nvc can)) rfl)) az) ?_)
 refine Goes.ret ?_
 obtain rfl:=si h
 exact(gw2 [.agg (ni1 f g)] (FzW.agg (qg.cons (Ua tI) (qg.cons (Ua (qG (qa .u64) _ (nl rfl))) qg.nil))))
def jS (N:Nat) (a:qx) (b:qx):Option qx:=
 (zt b).bind fun f=>
 ((if f<0 then
 (z8 a).bind fun d=>
 (z8 b).bind fun e=>
 some (d.s,d.w,e.s,e.w)
 else
 some (a.s,a.w,b.s,b.w):Option (Int×(List Int)×Int×(List Int)))).bind fun(g,h,i,j)=>
 (zR N (⟨g,h⟩:qx) (⟨i,j⟩:qx)).bind fun c=>
 some c.1
theorem qcL (N:Nat) (a:qx) (b:qx) {res:qx} (h:jS N a b=some res):qc ZT (.fn 109) [.agg (nz1 a),.agg (nz1 b)] [] (.agg (nz1 res)) []:=by
 unfold jS at h
 refine Ub Tryz.func109 rfl rfl (m:=21) rfl (rs:=[.cell 4 77]) rfl (l:=[(0,.agg (nz1 a)),(1,.agg (nz1 b))]) rfl ?_
 refine sg fol (kF []) [.cells (nz1 a),.cells (nz1 b),bZ] ?_
 refine sq ?_
 obtain⟨r,j,h⟩:=bnd h
 refine sq (gr fol [1] (kF [(9,.bool (decide (r<0)))]) (ac (cv (xB b j)) az) ?_)
 obtain⟨s,g6,h⟩:=bnd h
 refine Goes.imp (Q:=fun x s'=>(x= .normal/\ ∃d e f g,(d,e,f,g)=s/\Sub s' (ofG 21 (kF []),[.cells (ni1 d e),.cells (ni1 f g),bZ]))) ?_ ?_
 ·refine ihD g6 (fun t g6=>?_) (fun t g6=>?_)
  ·obtain⟨k,o,g6⟩:=bnd g6
   obtain⟨q,p,g6⟩:=bnd g6
   refine gq fol [1,3,4,5] (kF []) [.cells (nz1 k),.cells (nz1 q),bZ] (ac (cv (vW a o)) (ac (cv (vW b p)) (ac (hs (.run [0] (qw ZT 77 (.ptr 0 0) (.agg (nz1 k))) [.cells (nz1 a),.cells (nz1 b),bZ] .undef [.cells (nz1 k),.cells (nz1 b),bZ] true) (zT (n:=2) (by kernel_rfl) rfl rfl rfl rfl (cac rfl (cac nvc can)) rfl)) (ac (hs (.run [1] (qw ZT 77 (.ptr 1 0) (.agg (nz1 q))) [.cells (nz1 k),.cells (nz1 b),bZ] .undef [.cells (nz1 k),.cells (nz1 q),bZ] true) (zT (n:=2) (by kernel_rfl) rfl rfl rfl rfl (cac rfl (cac nvc can)) rfl)) az)))) ?_
   obtain rfl:=si g6
   exact⟨rfl,_,_,_,_,rfl,(Sub.refl _)⟩
  refine Goes.skip ?_
  obtain rfl:=si g6
  exact⟨rfl,_,_,_,_,rfl,(Sub.keep [2,3,4] rfl rfl)⟩
 rintro x s' ⟨rfl,d,e,f,g,rfl,hsub⟩
 try dsimp only at h
 refine Goes.sub hsub ?_
 obtain⟨c,i,h⟩:=bnd h
 refine sq (gq fol [2,8,9] (kAa [(5,.ptr 3 0)]) [.cells (ni1 d e),.cells (ni1 f g),bZ,.cells (nz1 c.1),.cells (nz1 c.2)] (ac (cv (qbt N (⟨d,e⟩:qx) (⟨f,g⟩:qx) i)) (ac (hs (.run [3] (qw ZT 77 (.ptr 3 0) (.agg (nz1 c.1))) [.cells (ni1 d e),.cells (ni1 f g),bZ,bZ,bZ] .undef [.cells (ni1 d e),.cells (ni1 f g),bZ,.cells (nz1 c.1),bZ] true) (zT (n:=2) (by kernel_rfl) rfl rfl rfl rfl (cac rfl (cac nvc can)) rfl)) (ac (hs (.run [4] (qw ZT 77 (.ptr 4 0) (.agg (nz1 c.2))) [.cells (ni1 d e),.cells (ni1 f g),bZ,.cells (nz1 c.1),bZ] .undef [.cells (ni1 d e),.cells (ni1 f g),bZ,.cells (nz1 c.1),.cells (nz1 c.2)] true) (zT (n:=2) (by kernel_rfl) rfl rfl rfl rfl (cac rfl (cac nvc can)) rfl)) az))) ?_)
 refine sq (gq fol [1] (kAa []) [.cells (ni1 d e),.cells (ni1 f g),.cells (nz1 c.1),.cells (nz1 c.1),.cells (nz1 c.2)] (ac (hs (.run [2] (qw ZT 77 (.ptr 2 0) (.agg (nz1 c.1))) [.cells (ni1 d e),.cells (ni1 f g),bZ,.cells (nz1 c.1),.cells (nz1 c.2)] .undef [.cells (ni1 d e),.cells (ni1 f g),.cells (nz1 c.1),.cells (nz1 c.1),.cells (nz1 c.2)] true) (zT (n:=2) (by kernel_rfl) rfl rfl rfl rfl (cac rfl (cac nvc can)) rfl)) az) ?_)
 refine Goes.ret ?_
 obtain rfl:=si h
 exact(gw2 [.agg (nz1 c.1)] (FzW.agg (qg.cons (Ua tI) (qg.cons (Ua (qG (qa .u64) _ (nl rfl))) qg.nil))))
def qbG (N:Nat) (num:qx) (den:qx):Option qQ:=
 (zt den).bind fun k=>
 ((if k<0 then
 (z8 num).bind fun i=>
 (z8 den).bind fun j=>
 some (i.s,i.w,j.s,j.w)
 else
 some (num.s,num.w,den.s,den.w):Option (Int×(List Int)×Int×(List Int)))).bind fun(d,e,b,c)=>
 (if c.isEmpty=true then
 some (decide (b=1))
 else
 some false:Option Bool).bind fun f=>
 if f=true then
 some (⟨(⟨d,e⟩:qx),(⟨b,c⟩:qx)⟩:qQ)
 else
 (qb1 N (⟨d,e⟩:qx) (⟨b,c⟩:qx)).bind fun a=>
 (jS N (⟨d,e⟩:qx) a).bind fun g=>
 (jS N (⟨b,c⟩:qx) a).bind fun h=>
 some (⟨g,h⟩:qQ)
theorem qeN (N:Nat) (num:qx) (den:qx) {res:qQ} (h:qbG N num den=some res):qc ZT (.fn 54) [.agg (nz1 num),.agg (nz1 den)] [] (.agg (nq1 res)) []:=by
 unfold qbG at h
 refine Ub Tryz.func54 rfl rfl (m:=34) rfl (rs:=[.cell 4 79]) rfl (l:=[(0,.agg (nz1 num)),(1,.agg (nz1 den))]) rfl ?_
 refine sg fol (kF []) (.cells (nz1 num):: .cells (nz1 den)::(kK [])) ?_
 refine sq ?_
 obtain⟨A,q,h⟩:=bnd h
 refine sq (gr fol [1] (kF (kA1 (decide (A<0)))) (ac (cv (xB den q)) az) ?_)
 obtain⟨B,g6,h⟩:=bnd h
 refine Goes.imp (Q:=fun x s'=>(x= .normal/\ ∃d e c a,(d,e,c,a)=B/\Sub s' (ofG 34 (kF []),(.cells (ni1 d e):: .cells (ni1 c a)::(kK []))))) ?_ ?_
 ·refine ihD g6 (fun C g6=>?_) (fun C g6=>?_)
  ·obtain⟨r,t,g6⟩:=bnd g6
   obtain⟨v,u,g6⟩:=bnd g6
   refine gq fol [1,3,4,5] (kF []) (.cells (nz1 r):: .cells (nz1 v)::(kK [])) (ac (cv (vW num t)) (ac (cv (vW den u)) (ac (hs (.run [0] (qw ZT 77 (.ptr 0 0) (.agg (nz1 r))) (.cells (nz1 num):: .cells (nz1 den)::(kK [])) .undef (.cells (nz1 r):: .cells (nz1 den)::(kK [])) true) (zT (n:=2) (by kernel_rfl) rfl rfl rfl rfl (cac rfl (cac nvc can)) rfl)) (ac (hs (.run [1] (qw ZT 77 (.ptr 1 0) (.agg (nz1 v))) (.cells (nz1 r):: .cells (nz1 den)::(kK [])) .undef (.cells (nz1 r):: .cells (nz1 v)::(kK [])) true) (zT (n:=2) (by kernel_rfl) rfl rfl rfl rfl (cac rfl (cac nvc can)) rfl)) az)))) ?_
   obtain rfl:=si g6
   exact⟨rfl,_,_,_,_,rfl,(Sub.refl _)⟩
  refine Goes.skip ?_
  obtain rfl:=si g6
  exact⟨rfl,_,_,_,_,rfl,(Sub.keep [2,3,4] rfl rfl)⟩
 rintro x s' ⟨rfl,d,e,c,a,rfl,hsub⟩
 try dsimp only at h
 refine Goes.sub hsub ?_
 refine sq ?_
 refine sq ?_
 obtain⟨y,b,h⟩:=bnd h
 refine Goes.cut (s':=(ofG 34 (kF [(20,.bool y)]),(.cells (ni1 d e):: .cells (ni1 c a)::(kK [])))) ?_ ?_
 ·rcases wyB b with⟨j,b⟩|⟨j,b⟩
  ·obtain rfl:=si b
   exact tr fol [2,3] (kF [(20,.bool (decide (c=1)))]) (ac (hs (.done (.opt (qO ZT .eql 75 (.tmp 14) (.const (.slice none 0 0)) (nvl (qa .u64) a) .nilslice)) (.bool a.isEmpty)) (qat qak)) (ac (gw j) az))
  obtain rfl:=si b
  exact tr fol [2,3] (kF [(20,.bool false)]) (ac (hs (.done (.opt (qO ZT .eql 75 (.tmp 14) (.const (.slice none 0 0)) (nvl (qa .u64) a) .nilslice)) (.bool a.isEmpty)) (qat qak)) (ac (gw j) az))
 refine ihB h (fun z h=>?_) (fun z h=>?_)
 ·refine sq (gq fol [3] (kAa []) [.cells (ni1 d e),.cells (ni1 c a),.cells (ni2 d e c a)] (ac (hs (.run [2] (qw ZT 79 (.ptr 2 0) (.agg (ni2 d e c a))) (.cells (ni1 d e):: .cells (ni1 c a)::(kK [])) .undef [.cells (ni1 d e),.cells (ni1 c a),.cells (ni2 d e c a)] true) (zT (n:=4) (by kernel_rfl) rfl rfl rfl rfl (cac rfl (cac nvc (cac rfl (cac nvc can)))) rfl)) az) ?_)
  refine Goes.ret ?_
  obtain rfl:=si h
  exact(gw2 [.agg (ni2 d e c a)] (FzW.agg (qg.cons (Ua tI) (qg.cons (Ua (qG (qa .u64) _ (nl rfl))) (qg.cons (Ua tI) (qg.cons (Ua (qG (qa .u64) _ (nl rfl))) qg.nil))))))
 refine Goes.skip ?_
 obtain⟨f,k,h⟩:=bnd h
 refine sq (gq fol [2,4] (kF [(5,.ptr 3 0)]) (.cells (ni1 d e):: .cells (ni1 c a)::(kK [.cells (nz1 f)])) (ac (cv (qiN N (⟨d,e⟩:qx) (⟨c,a⟩:qx) k)) (ac (hs (.run [3] (qw ZT 77 (.ptr 3 0) (.agg (nz1 f))) (.cells (ni1 d e):: .cells (ni1 c a)::(kK [bZ])) .undef (.cells (ni1 d e):: .cells (ni1 c a)::(kK [.cells (nz1 f)])) true) (zT (n:=2) (by kernel_rfl) rfl rfl rfl rfl (cac rfl (cac nvc can)) rfl)) az)) ?_)
 obtain⟨g,o,h⟩:=bnd h
 obtain⟨i,p,h⟩:=bnd h
 refine sq (gq fol [2,5,7] (kAa []) [.cells (ni1 d e),.cells (ni1 c a),.cells (ni2 g.s g.w i.s i.w),.cells (nz1 f)] (ac (cv (qcL N (⟨d,e⟩:qx) f o)) (ac (cv (qcL N (⟨c,a⟩:qx) f p)) (ac (hs (.run [2] (qw ZT 79 (.ptr 2 0) (.agg (ni2 g.s g.w i.s i.w))) (.cells (ni1 d e):: .cells (ni1 c a)::(kK [.cells (nz1 f)])) .undef [.cells (ni1 d e),.cells (ni1 c a),.cells (ni2 g.s g.w i.s i.w),.cells (nz1 f)] true) (zT (n:=4) (by kernel_rfl) rfl rfl rfl rfl (cac rfl (cac nvc (cac rfl (cac nvc can)))) rfl)) az))) ?_)
 refine Goes.ret ?_
 obtain rfl:=si h
 exact(gw2 [.agg (ni2 g.s g.w i.s i.w)] (FzW.agg (qg.cons (Ua tI) (qg.cons (Ua (qG (qa .u64) _ (nl rfl))) (qg.cons (Ua tI) (qg.cons (Ua (qG (qa .u64) _ (nl rfl))) qg.nil))))))
def zV (b:List Int) (l:Int) (g:Int):Nat->(List Int)->Int->Int->Option ((List Int)×Int)
 |0,_,_,_=>none
 |K+1,h,a,c=>
  if a<(b.length:Int)then
  (idx b a).bind fun i=>
  (bits_Mul64 l i).bind fun d=>
  (idx h (w64 (g+a))).bind fun j=>
  (yS d.2 j 0).bind fun e=>
  (yS e.1 c 0).bind fun f=>
  (put h (w64 (g+a)) f.1).bind fun k=>
  zV b l g K k (w64 (a+1)) (IntKind.wrap .u64 ((IntKind.wrap .u64 (d.1+e.2))+f.2))
  else
  some (h,c)
def zZ (N:Nat) (a:List Int) (b:List Int):Nat->(List Int)->Int->Option (List Int)
 |0,_,_=>none
 |K+1,g,c=>
  if c<(a.length:Int)then
  (idx a c).bind fun h=>
  (zV b h c N g 0 0).bind fun(d,e)=>
  (idx d (w64 (c+(b.length:Int)))).bind fun i=>
  (put d (w64 (c+(b.length:Int))) e).bind fun f=>
  zZ N a b K f (w64 (c+1))
  else
  some g
def xm (N:Nat) (a:List Int) (b:List Int):Option (List Int):=
 (mk 8 (w64 ((a.length:Int)+(b.length:Int))) 0).bind fun d=>
 (zZ N a b N d 0).bind fun e=>
 (yl N e).bind fun c=>
 some c
theorem qeT (N:Nat) (a:List Int) (b:List Int) {res:List Int} (h:xm N a b=some res):qc ZT (.fn 147) [vl (qa .u64) a,vl (qa .u64) b] [] (vl (qa .u64) res) []:=by
 unfold xm at h
 refine Ub Tryz.func147 rfl rfl (m:=80) rfl (rs:=[.tmp 4]) rfl (l:=[(0,vl (qa .u64) a),(1,vl (qa .u64) b)]) rfl ?_
 refine sh fol [(0,vl (qa .u64) a),(1,vl (qa .u64) b)] ?_
 obtain⟨L,O,h⟩:=bnd h
 refine sq (gq fol [5] ((0,vl (qa .u64) a)::(1,vl (qa .u64) b)::(kC L [])) [.cells (L.flatMap (qa .u64).c)] (ac (hs (.run [] (kw ZT 75 (.i (w64 ((a.length:Int)+(b.length:Int)))) (.i (w64 ((a.length:Int)+(b.length:Int))))) [] (.slice 0 0 L.length L.length 1) [.cells (L.flatMap (qa .u64).c)] false) (qaA zy (E:=(qa .u64)) (z:=0) rfl (by kernel_rfl) O rfl)) az) ?_)
 refine sq ?_
 refine sh fol ((1,vl (qa .u64) b)::(kC L [(20,vl (qa .u64) a),(21,.i (a.length:Int)),(22,.i 0)])) ?_
 refine Goes.block ?_
 obtain⟨Y,g5,h⟩:=bnd h
 refine Goes.imp (Q:=fun x s'=>(x= .exit 0/\ ∃u,u=Y/\Sub s' (ofG 80 (kC u []),[.cells (u.flatMap (qa .u64).c)]))) ?_ ?_
 ·refine Uc (fun M s=> ∃(F:List Int) (d:Int),s=(ofG 80 ((1,vl (qa .u64) b)::(kC F ((20,vl (qa .u64) a)::(kX (a.length:Int) d [])))),[.cells (F.flatMap (qa .u64).c)])/\zZ N a b M F d=some Y) ?_ (m:=N) ⟨_,_,rfl,g5⟩
  rintro M s ⟨F,d,rfl,g5⟩
  cases M with
  |zero=>simp only[zZ]at g5;cases g5
  |succ M=>
   rw[zZ]at g5
   refine sh fol ((1,vl (qa .u64) b)::(kC F ((20,vl (qa .u64) a)::(kX (a.length:Int) d [(23,.bool (decide (d<(a.length:Int))))])))) ?_
   refine sq ?_
   refine ihD g5 (fun Z g5=>?_) (fun Z g5=>?_)
   ·refine Goes.skip ?_
    refine sq (Goes.block ?_)
    obtain⟨q,G,g5⟩:=bnd g5
    refine sq (gr fol [1,2] ((1,vl (qa .u64) b)::(kC F ((6,.i d)::(kAK q ((20,vl (qa .u64) a)::(kX (a.length:Int) d [])))))) (ac (iv zy (qa .u64) G) (ac (lv 0 zG (qa .u64) G rfl) az)) ?_)
    refine sh fol ((1,vl (qa .u64) b)::(kC F ((6,.i d)::(kAK q (kBA ((20,vl (qa .u64) a)::(kX (a.length:Int) d []))))))) ?_
    refine sq ?_
    refine sh fol ((1,vl (qa .u64) b)::(kC F ((6,.i d)::(kAK q (kBA ((20,vl (qa .u64) a)::(kX (a.length:Int) d [(27,vl (qa .u64) b),(28,.i (b.length:Int)),(29,.i 0)]))))))) ?_
    refine Goes.block ?_
    obtain⟨P,g13,g5⟩:=bnd g5
    refine Goes.imp (Q:=fun x s'=>(x= .exit 2/\ ∃k v,(k,v)=P/\Sub s' (ofG 80 ((1,vl (qa .u64) b)::(kC k ((6,.i d)::(8,.int .u64 v)::(20,vl (qa .u64) a)::(kX (a.length:Int) d [])))),[.cells (k.flatMap (qa .u64).c)]))) ?_ ?_
    ·refine Uc (fun M s=> ∃(j:List Int) (e:Int) (n:Int),s=(ofG 80 ((1,vl (qa .u64) b)::(kC j ((6,.i d)::(kV q n ((20,vl (qa .u64) a)::(kX (a.length:Int) d ((27,vl (qa .u64) b)::(kAb (b.length:Int) e)))))))),[.cells (j.flatMap (qa .u64).c)])/\zV b q d M j e n=some P) ?_ (m:=N) ⟨_,_,_,rfl,g13⟩
     rintro M s ⟨j,e,n,rfl,g13⟩
     cases M with
     |zero=>simp only[zV]at g13;cases g13
     |succ M=>
      rw[zV]at g13
      refine sh fol ((1,vl (qa .u64) b)::(kC j ((6,.i d)::(kV q n ((20,vl (qa .u64) a)::(kX (a.length:Int) d [(27,vl (qa .u64) b),(28,.i (b.length:Int)),(29,.i e),(30,.bool (decide (e<(b.length:Int))))])))))) ?_
      refine sq ?_
      refine ihD g13 (fun X g13=>?_) (fun X g13=>?_)
      ·refine Goes.skip ?_
       refine sq (Goes.block ?_)
       obtain⟨U,w,g13⟩:=bnd g13
       refine sq (gr fol [1,2] ((1,vl (qa .u64) b)::(kC j ((6,.i d)::(kV q n ((9,.i e)::(10,.int .u64 U)::(20,vl (qa .u64) a)::(kX (a.length:Int) d ((27,vl (qa .u64) b)::(kAb (b.length:Int) e)))))))) (ac (iv zy (qa .u64) w) (ac (lv 0 zG (qa .u64) w rfl) az)) ?_)
       obtain⟨f,H,g13⟩:=bnd g13
       refine sq (gr fol [2] ((1,vl (qa .u64) b)::(kC j ((6,.i d)::(kV q n ((9,.i e)::(kT f.1 f.2 ((20,vl (qa .u64) a)::(kX (a.length:Int) d ((27,vl (qa .u64) b)::(kAb (b.length:Int) e)))))))))) (ac (cv (qaC q U H)) az) ?_)
       refine sh fol ((1,vl (qa .u64) b)::(kC j ((6,.i d)::(kV q n ((9,.i e)::(kT f.1 f.2 ((20,vl (qa .u64) a)::(kX (a.length:Int) d ((27,vl (qa .u64) b)::(kAb (b.length:Int) e)))))))))) ?_
       obtain⟨V,o,g13⟩:=bnd g13
       obtain⟨g,I,g13⟩:=bnd g13
       refine sq (gr fol [5,6,7] ((1,vl (qa .u64) b)::(kC j ((6,.i d)::(kV q n ((9,.i e)::(kT f.1 g.1 ((13,.int .u64 g.2)::(20,vl (qa .u64) a)::(kX (a.length:Int) d ((27,vl (qa .u64) b)::(kAb (b.length:Int) e)))))))))) (ac (hs (.done (.opt (qf ZT 75 (.slice 0 0 j.length j.length 1) (.i (w64 (d+e))))) (.ptr 0 ((w64 (d+e):Int).toNat*1+0))) (vO zy o)) (ac (hs (.run [0] (zC ZT 182 (.ptr 0 ((w64 (d+e):Int).toNat*1+0))) [.cells (j.flatMap (qa .u64).c)] (.int .u64 V) [.cells (j.flatMap (qa .u64).c)] false) (qaF zG (E:=(qa .u64)) (l:=j) rfl rfl o (nl rfl) rfl)) (ac (cv (qbe f.2 V 0 I)) az))) ?_)
       refine sh fol ((1,vl (qa .u64) b)::(kC j ((6,.i d)::(kV q n ((9,.i e)::(kT (IntKind.wrap .u64 (f.1+g.2)) g.1 ((20,vl (qa .u64) a)::(kX (a.length:Int) d ((27,vl (qa .u64) b)::(kAb (b.length:Int) e)))))))))) ?_
       obtain⟨p,J,g13⟩:=bnd g13
       refine sq (gr fol [2] ((1,vl (qa .u64) b)::(kC j ((6,.i d)::(kAK q ((9,.i e)::(kT (IntKind.wrap .u64 (f.1+g.2)) p.1 ((13,.int .u64 p.2)::(20,vl (qa .u64) a)::(kX (a.length:Int) d ((27,vl (qa .u64) b)::(kAb (b.length:Int) e)))))))))) (ac (cv (qbe g.1 n 0 J)) az) ?_)
       obtain⟨r,A,g13⟩:=bnd g13
       refine gq fol [8,9] ((1,vl (qa .u64) b)::(kC j ((6,.i d)::(kV q (IntKind.wrap .u64 ((IntKind.wrap .u64 (f.1+g.2))+p.2)) ((20,vl (qa .u64) a)::(kX (a.length:Int) d ((27,vl (qa .u64) b)::(kAb (b.length:Int) e)))))))) [.cells (r.flatMap (qa .u64).c)] (ac (hs (.done (.opt (qf ZT 75 (.slice 0 0 j.length j.length 1) (.i (w64 (d+e))))) (.ptr 0 ((w64 (d+e):Int).toNat*1+0))) (vO zy o)) (ac (hs (.run [0] (qw ZT 182 (.ptr 0 ((w64 (d+e):Int).toNat*1+0)) (.int .u64 p.1)) [.cells (j.flatMap (qa .u64).c)] .undef [.cells (r.flatMap (qa .u64).c)] true) (yh (E:=(qa .u64)) (l:=j) (y:=p.1) rfl (show _=some 1 by kernel_rfl) rfl o rfl rfl rfl rfl rfl A rfl)) az)) ?_
       refine Goes.sub (show Sub (ofG 80 ((1,vl (qa .u64) b)::(kC j ((6,.i d)::(kV q (IntKind.wrap .u64 ((IntKind.wrap .u64 (f.1+g.2))+p.2)) ((20,vl (qa .u64) a)::(kX (a.length:Int) d ((27,vl (qa .u64) b)::(kAb (b.length:Int) e)))))))),[.cells (r.flatMap (qa .u64).c)]) (ofG 80 ((1,vl (qa .u64) b)::(kC r ((6,.i d)::(kV q (IntKind.wrap .u64 ((IntKind.wrap .u64 (f.1+g.2))+p.2)) ((20,vl (qa .u64) a)::(kX (a.length:Int) d ((27,vl (qa .u64) b)::(kAb (b.length:Int) e)))))))),[.cells (r.flatMap (qa .u64).c)])from(Sub.norm [] [some 0] rfl rfl (.keep (.same (qd (qa .u64) _)) (.keep (.sliceE rfl (zS A)) (.keep (.same nI) (.keep (.same nI) (.keep (.same nI) (.keep (.same (qd (qa .u64) _)) (.keep (.same nI) (.keep (.same nI) (.keep (.same (qd (qa .u64) _)) (.keep (.same nI) (.keep (.same nI) .nil))))))))))) (.ks .nil))) ?_
       refine gh fol ((1,vl (qa .u64) b)::(kC r ((6,.i d)::(kV q (IntKind.wrap .u64 ((IntKind.wrap .u64 (f.1+g.2))+p.2)) ((20,vl (qa .u64) a)::(kX (a.length:Int) d ((27,vl (qa .u64) b)::(kAb (b.length:Int) (w64 (e+1)))))))))) ?_
       exact⟨M,(ofG 80 ((1,vl (qa .u64) b)::(kC r ((6,.i d)::(kV q (IntKind.wrap .u64 ((IntKind.wrap .u64 (f.1+g.2))+p.2)) ((20,vl (qa .u64) a)::(kX (a.length:Int) d ((27,vl (qa .u64) b)::(kAb (b.length:Int) (w64 (e+1)))))))))),[.cells (r.flatMap (qa .u64).c)]),Nat.lt_succ_self _,(Sub.refl _),_,_,_,rfl,g13⟩
      refine Goes.exit ?_
      obtain rfl:=si g13
      exact⟨rfl,_,_,rfl,(Sub.keep [1,5,6,8,20,21,22] rfl rfl)⟩
    rintro x s' ⟨rfl,k,v,rfl,hsub⟩
    try dsimp only at g5
    refine Goes.sub hsub ?_
    obtain⟨a0,B,g5⟩:=bnd g5
    obtain⟨t,C,g5⟩:=bnd g5
    refine gq fol [6,7] ((1,vl (qa .u64) b)::(kC k ((20,vl (qa .u64) a)::(kX (a.length:Int) d [])))) [.cells (t.flatMap (qa .u64).c)] (ac (hs (.done (.opt (qf ZT 75 (.slice 0 0 k.length k.length 1) (.i (w64 (d+(b.length:Int)))))) (.ptr 0 ((w64 (d+(b.length:Int)):Int).toNat*1+0))) (vO zy B)) (ac (hs (.run [0] (qw ZT 182 (.ptr 0 ((w64 (d+(b.length:Int)):Int).toNat*1+0)) (.int .u64 v)) [.cells (k.flatMap (qa .u64).c)] .undef [.cells (t.flatMap (qa .u64).c)] true) (yh (E:=(qa .u64)) (l:=k) (y:=v) rfl (show _=some 1 by kernel_rfl) rfl B rfl rfl rfl rfl rfl C rfl)) az)) ?_
    refine Goes.sub (show Sub (ofG 80 ((1,vl (qa .u64) b)::(kC k ((20,vl (qa .u64) a)::(kX (a.length:Int) d [])))),[.cells (t.flatMap (qa .u64).c)]) (ofG 80 ((1,vl (qa .u64) b)::(kC t ((20,vl (qa .u64) a)::(kX (a.length:Int) d [])))),[.cells (t.flatMap (qa .u64).c)])from(Sub.norm [] [some 0] rfl rfl (.keep (.same (qd (qa .u64) _)) (.keep (.sliceE rfl (zS C)) (.keep (.same (qd (qa .u64) _)) (.keep (.same nI) (.keep (.same nI) .nil))))) (.ks .nil))) ?_
    refine gh fol ((1,vl (qa .u64) b)::(kC t ((20,vl (qa .u64) a)::(kX (a.length:Int) (w64 (d+1)) [])))) ?_
    exact⟨M,(ofG 80 ((1,vl (qa .u64) b)::(kC t ((20,vl (qa .u64) a)::(kX (a.length:Int) (w64 (d+1)) [])))),[.cells (t.flatMap (qa .u64).c)]),Nat.lt_succ_self _,(Sub.refl _),_,_,rfl,g5⟩
   refine Goes.exit ?_
   obtain rfl:=si g5
   exact⟨rfl,_,rfl,(Sub.keep [5] rfl rfl)⟩
 rintro x s' ⟨rfl,u,rfl,hsub⟩
 refine Goes.sub hsub ?_
 obtain⟨D,K,h⟩:=bnd h
 refine sq (gq fol [1] [(4,vl (qa .u64) D)] [.frozen (u.flatMap (qa .u64).c)] (ac (hs (.callF 167 [.slice 0 0 u.length u.length 1] [.cells (u.flatMap (qa .u64).c)] [0] [vl (qa .u64) u] (vl (qa .u64) D)) (qam (FzL.cons (Fz.sl (E:=(qa .u64)) rfl rfl (nl rfl)) FzL.nil) (yn N u K) (qy (qa .u64) _ (nl rfl)))) az) ?_)
 refine Goes.sub (show Sub (ofG 80 [(4,vl (qa .u64) D)],[.frozen (u.flatMap (qa .u64).c)]) (ofG 80 [(4,vl (qa .u64) D)],[])from(Sub.norm [] [] rfl rfl (.keep (.same (qd (qa .u64) _)) .nil) .nil)) ?_
 refine Goes.ret ?_
 obtain rfl:=si h
 exact(gw2 [vl (qa .u64) D] (Ua (qy (qa .u64) _ (nl rfl))))
def xS (N:Nat) (a:qx) (b:qx):Option qx:=
 (if a.w.isEmpty=true then
 some b.w.isEmpty
 else
 some false:Option Bool).bind fun j=>
 ((if j=true then
 (qbg a.s).bind fun k=>
 (qbg b.s).bind fun l=>
 (bits_Mul64 k l).bind fun e=>
 (if e.1=0 then
 some (decide (e.2<=9223372036854775807))
 else
 some false:Option Bool).bind fun f=>
 if f=true then
 if(!((decide (a.s<0))==(decide (b.s<0))))=true then
 some (.inr (⟨w64 (0-(w64 e.2)),[]⟩:qx))
 else
 some (.inr (⟨w64 e.2,[]⟩:qx))
 else
 some (.inl ())
 else
 some (.inl ()):Option (Unit⊕qx))).bind (fun
 |(.inl ())=>
 (qC a).bind fun c=>
 (qC b).bind fun d=>
 (xm N c.2 d.2).bind fun g=>
 (jy (!(c.1==d.1)) g).bind fun h=>
 some h
 |(.inr i)=>
 some i)
theorem qda (N:Nat) (a:qx) (b:qx) {res:qx} (h:xS N a b=some res):qc ZT (.fn 92) [.agg (nz1 a),.agg (nz1 b)] [] (.agg (nz1 res)) []:=by
 unfold xS at h
 refine Ub Tryz.func92 rfl rfl (m:=66) rfl (rs:=[.cell 4 77]) rfl (l:=[(0,.agg (nz1 a)),(1,.agg (nz1 b))]) rfl ?_
 refine sg fol (kF []) [.cells (nz1 a),.cells (nz1 b),bZ] ?_
 refine sq ?_
 refine sq ?_
 obtain⟨G,d,h⟩:=bnd h
 refine Goes.cut (s':=(ofG 66 (kF [(18,.bool G)]),[.cells (nz1 a),.cells (nz1 b),bZ])) ?_ ?_
 ·rcases wyB d with⟨y,d⟩|⟨y,d⟩
  ·obtain rfl:=si d
   exact tr fol [2,3,6] (kF [(18,.bool b.w.isEmpty)]) (ac (hs (.done (.opt (qO ZT .eql 75 (.tmp 12) (.const (.slice none 0 0)) (nvl (qa .u64) a.w) .nilslice)) (.bool a.w.isEmpty)) (qat qak)) (ac (gw y) (ac (hs (.done (.opt (qO ZT .eql 75 (.tmp 16) (.const (.slice none 0 0)) (nvl (qa .u64) b.w) .nilslice)) (.bool b.w.isEmpty)) (qat qak)) az)))
  obtain rfl:=si d
  exact tr fol [2,3] (kF [(18,.bool false)]) (ac (hs (.done (.opt (qO ZT .eql 75 (.tmp 12) (.const (.slice none 0 0)) (nvl (qa .u64) a.w) .nilslice)) (.bool a.w.isEmpty)) (qat qak)) (ac (gw y) az))
 obtain⟨D,g4,h⟩:=bnd h
 refine Goes.imp (Q:=fun x s'=>(x= .normal/\(.inl ())=D/\Sub s' (ofG 66 (kF []),[.cells (nz1 a),.cells (nz1 b),bZ]))\/(x= .ret/\ ∃F,(.inr F)=D/\vJ ZT [.cell 4 77] (.agg (nz1 F)) .ret s')) ?_ ?_
 ·refine ihB g4 (fun H g4=>?_) (fun H g4=>?_)
  ·obtain⟨I,t,g4⟩:=bnd g4
   obtain⟨J,u,g4⟩:=bnd g4
   obtain⟨f,v,g4⟩:=bnd g4
   refine sq (gr fol [2,5,6] (kF ((5,.int .u64 f.1)::(kAC f.2 []))) (ac (cv (qcz a.s t)) (ac (cv (qcz b.s u)) (ac (cv (qaC I J v)) az))) ?_)
   refine sq ?_
   obtain⟨z,c,g4⟩:=bnd g4
   refine Goes.cut (s':=(ofG 66 (kF (kAC f.2 [(34,.bool z)])),[.cells (nz1 a),.cells (nz1 b),bZ])) ?_ ?_
   ·rcases wyD c with⟨k,c⟩|⟨k,c⟩
    ·obtain rfl:=si c
     exact tr fol [2] (kF (kAC f.2 [(34,.bool (decide (f.2<=9223372036854775807)))])) (ac (gw k) az)
    obtain rfl:=si c
    exact tr fol [2] (kF (kAC f.2 [(34,.bool false)])) (ac (gw k) az)
   refine ihB g4 (fun A g4=>?_) (fun A g4=>?_)
   ·refine sq ?_
    refine sh fol (kAa (kAC f.2 [(41,.bool (!((decide (a.s<0))==(decide (b.s<0)))))])) ?_
    refine ihB g4 (fun B g4=>?_) (fun B g4=>?_)
    ·refine sg fol (kAa []) (.cells (nz1 a):: .cells (nz1 b)::(kAh (w64 (0-(w64 f.2))))) ?_
     refine Goes.ret ?_
     obtain rfl:=si g4
     exact Or.inr (⟨rfl,_,rfl,(gw2 [.agg [.i (w64 (0-(w64 f.2))),.nilslice]] (FzW.agg (qg.cons (Ua tI) (qg.cons (FzW.nv0 (E:=(qa .u64))) qg.nil))))⟩)
    refine Goes.skip ?_
    refine sg fol (kAa []) (.cells (nz1 a):: .cells (nz1 b)::(kAh (w64 f.2))) ?_
    refine Goes.ret ?_
    obtain rfl:=si g4
    exact Or.inr (⟨rfl,_,rfl,(gw2 [.agg [.i (w64 f.2),.nilslice]] (FzW.agg (qg.cons (Ua tI) (qg.cons (FzW.nv0 (E:=(qa .u64))) qg.nil))))⟩)
   refine Goes.skip ?_
   obtain rfl:=si g4
   exact Or.inl (⟨rfl,rfl,(Sub.keep [2,3,4] rfl rfl)⟩)
  refine Goes.skip ?_
  obtain rfl:=si g4
  exact Or.inl (⟨rfl,rfl,(Sub.keep [2,3,4] rfl rfl)⟩)
 rintro x s' (⟨rfl,rfl,hsub⟩|⟨rfl,K,rfl,hret⟩)
 ·try dsimp only at h
  refine Goes.sub hsub ?_
  obtain⟨e,o,h⟩:=bnd h
  refine sq (gr fol [1] (kAy (kAa [(7,.bool e.1),(8,vl (qa .u64) e.2)])) (ac (cv (zq a o)) az) ?_)
  obtain⟨g,p,h⟩:=bnd h
  refine sq (gr fol [1] (kAa [(7,.bool e.1),(8,vl (qa .u64) e.2),(9,.bool g.1),(10,vl (qa .u64) g.2)]) (ac (cv (zq b p)) az) ?_)
  obtain⟨C,q,h⟩:=bnd h
  obtain⟨j,r,h⟩:=bnd h
  refine sq (gq fol [5,6,7] (kAa []) [.cells (nz1 a),.cells (nz1 b),.cells (nz1 j)] (ac (cv (qeT N e.2 g.2 q)) (ac (cv (yZ (!(e.1==g.1)) C r)) (ac (hs (.run [2] (qw ZT 77 (.ptr 2 0) (.agg (nz1 j))) [.cells (nz1 a),.cells (nz1 b),bZ] .undef [.cells (nz1 a),.cells (nz1 b),.cells (nz1 j)] true) (zT (n:=2) (by kernel_rfl) rfl rfl rfl rfl (cac rfl (cac nvc can)) rfl)) az))) ?_)
  refine Goes.ret ?_
  obtain rfl:=si h
  exact(gw2 [.agg (nz1 j)] (FzW.agg (qg.cons (Ua tI) (qg.cons (Ua (qG (qa .u64) _ (nl rfl))) qg.nil))))
 try dsimp only at h
 obtain rfl:=si h
 exact hret
def xw (N:Nat) (a:qQ) (b:qQ):Option qQ:=
 (xS N a.Num b.Num).bind fun c=>
 (xS N a.Den b.Den).bind fun d=>
 (qbG N c d).bind fun e=>
 some e
theorem qcn (N:Nat) (a:qQ) (b:qQ) {res:qQ} (h:xw N a b=some res):qc ZT (.fn 44) [.agg (nq1 a),.agg (nq1 b)] [] (.agg (nq1 res)) []:=by
 unfold xw at h
 refine Ub Tryz.func44 rfl rfl (m:=16) rfl (rs:=[.cell 4 79]) rfl (l:=[(0,.agg (nq1 a)),(1,.agg (nq1 b))]) rfl ?_
 refine sg fol (kF []) (.cells (nq1 a):: .cells (nq1 b)::(kK [])) ?_
 obtain⟨g,c,h⟩:=bnd h
 obtain⟨i,d,h⟩:=bnd h
 obtain⟨f,e,h⟩:=bnd h
 refine sq (gq fol [4,9,10,11] (kAa []) [.cells (nq1 a),.cells (nq1 b),.cells (nq1 f)] (ac (cv (qda N a.Num b.Num c)) (ac (cv (qda N a.Den b.Den d)) (ac (cv (qeN N g i e)) (ac (hs (.run [2] (qw ZT 79 (.ptr 2 0) (.agg (nq1 f))) (.cells (nq1 a):: .cells (nq1 b)::(kK [])) .undef [.cells (nq1 a),.cells (nq1 b),.cells (nq1 f)] true) (zT (n:=4) (by kernel_rfl) rfl rfl rfl rfl (cac rfl (cac nvc (cac rfl (cac nvc can)))) rfl)) az)))) ?_)
 refine Goes.ret ?_
 obtain rfl:=si h
 exact(gw2 [.agg (nq1 f)] (FzW.agg (qg.cons (Ua tI) (qg.cons (Ua (qG (qa .u64) _ (nl rfl))) (qg.cons (Ua tI) (qg.cons (Ua (qG (qa .u64) _ (nl rfl))) qg.nil))))))
def qaa (N:Nat) (a:qQ):Option qQ:=
 (qbG N a.Den a.Num).bind fun b=>
 some b
theorem qeQ (N:Nat) (a:qQ) {res:qQ} (h:qaa N a=some res):qc ZT (.fn 74) [.agg (nq1 a)] [] (.agg (nq1 res)) []:=by
 unfold qaa at h
 refine Ub Tryz.func74 rfl rfl (m:=8) rfl (rs:=[.cell 2 79]) rfl (l:=[(0,.agg (nq1 a))]) rfl ?_
 refine sg fol (kAM kAj) (.cells (nq1 a)::(kK [])) ?_
 obtain⟨c,b,h⟩:=bnd h
 refine sq (gq fol [4,5] kAj [.cells (nq1 a),.cells (nq1 c)] (ac (cv (qeN N a.Den a.Num b)) (ac (hs (.run [1] (qw ZT 79 (.ptr 1 0) (.agg (nq1 c))) (.cells (nq1 a)::(kK [])) .undef [.cells (nq1 a),.cells (nq1 c)] true) (zT (n:=4) (by kernel_rfl) rfl rfl rfl rfl (cac rfl (cac nvc (cac rfl (cac nvc can)))) rfl)) az)) ?_)
 refine Goes.ret ?_
 obtain rfl:=si h
 exact(gw2 [.agg (nq1 c)] (FzW.agg (qg.cons (Ua tI) (qg.cons (Ua (qG (qa .u64) _ (nl rfl))) (qg.cons (Ua tI) (qg.cons (Ua (qG (qa .u64) _ (nl rfl))) qg.nil))))))
def qai (N:Nat) (a:qQ) (b:qQ):Option qQ:=
 (qaa N b).bind fun c=>
 (xw N a c).bind fun d=>
 some d
theorem qeV (N:Nat) (a:qQ) (b:qQ) {res:qQ} (h:qai N a b=some res):qc ZT (.fn 43) [.agg (nq1 a),.agg (nq1 b)] [] (.agg (nq1 res)) []:=by
 unfold qai at h
 refine Ub Tryz.func43 rfl rfl (m:=9) rfl (rs:=[.cell 4 79]) rfl (l:=[(0,.agg (nq1 a)),(1,.agg (nq1 b))]) rfl ?_
 refine sg fol (kF []) (.cells (nq1 a):: .cells (nq1 b)::(kK [])) ?_
 obtain⟨f,c,h⟩:=bnd h
 obtain⟨e,d,h⟩:=bnd h
 refine sq (gq fol [2,3,4] (kAa []) [.cells (nq1 a),.cells (nq1 b),.cells (nq1 e)] (ac (cv (qeQ N b c)) (ac (cv (qcn N a f d)) (ac (hs (.run [2] (qw ZT 79 (.ptr 2 0) (.agg (nq1 e))) (.cells (nq1 a):: .cells (nq1 b)::(kK [])) .undef [.cells (nq1 a),.cells (nq1 b),.cells (nq1 e)] true) (zT (n:=4) (by kernel_rfl) rfl rfl rfl rfl (cac rfl (cac nvc (cac rfl (cac nvc can)))) rfl)) az))) ?_)
 refine Goes.ret ?_
 obtain rfl:=si h
 exact(gw2 [.agg (nq1 e)] (FzW.agg (qg.cons (Ua tI) (qg.cons (Ua (qG (qa .u64) _ (nl rfl))) (qg.cons (Ua tI) (qg.cons (Ua (qG (qa .u64) _ (nl rfl))) qg.nil))))))
def qal (a:qx):Option Int:=
 (qC a).bind fun b=>
 if(b.2.length:Int)=0 then
 some 0
 else
 (idx b.2 (w64 ((b.2.length:Int)-1))).bind fun c=>
 (bits_Len64 c).bind fun d=>
 some (w64 ((w64 (64*(w64 ((b.2.length:Int)-1))))+d))
theorem qcm (a:qx) {res:Int} (h:qal a=some res):qc ZT (.fn 119) [.agg (nz1 a)] [] (.i res) []:=by
 unfold qal at h
 refine Ub Tryz.func119 rfl rfl (m:=25) rfl (rs:=[.tmp 2]) rfl (l:=[(0,.agg (nz1 a))]) rfl ?_
 refine sg fol (kAM []) [.cells (nz1 a)] ?_
 obtain⟨c,d,h⟩:=bnd h
 refine sq (gr fol [1] [(4,vl (qa .u64) c.2)] (ac (cv (zq a d)) az) ?_)
 refine sq ?_
 refine sh fol [(4,vl (qa .u64) c.2),(12,.bool (decide ((c.2.length:Int)=0)))] ?_
 refine ihD h (fun g h=>?_) (fun g h=>?_)
 ·refine sh fol [(2,.i 0)] ?_
  refine Goes.ret ?_
  obtain rfl:=si h
  exact(gw2 [.i 0] (Ua tI))
 refine Goes.skip ?_
 obtain⟨j,b,h⟩:=bnd h
 obtain⟨f,e,h⟩:=bnd h
 refine sq (gr fol [8,9,10] [(2,.i (w64 ((w64 (64*(w64 ((c.2.length:Int)-1))))+f)))] (ac (iv zy (qa .u64) b) (ac (lv 0 zG (qa .u64) b rfl) (ac (cv (qds j e)) az))) ?_)
 refine Goes.ret ?_
 obtain rfl:=si h
 exact(gw2 [.i (w64 ((w64 (64*(w64 ((c.2.length:Int)-1))))+f))] (Ua tI))
def stringslite_HasPrefix (b:Str) (a:Str):Option Bool:=
 (if(b.length:Int)>=(a.length:Int)then
 (cut b 0 (a.length:Int)).bind fun c=>
 some (c==a)
 else
 some false:Option Bool).bind fun d=>
 some d
theorem qbE (c:Str) (a:Str) {res:Bool} (h:stringslite_HasPrefix c a=some res):qc ZT (.fn 169) [.str c,.str a] [] (.bool res) []:=by
 unfold stringslite_HasPrefix at h
 refine Ub Tryz.func169 rfl rfl (m:=18) rfl (rs:=[.tmp 4]) rfl (l:=(kAN c a [])) rfl ?_
 refine sh fol (kAN c a []) ?_
 refine sq ?_
 obtain⟨f,b,h⟩:=bnd h
 refine Goes.cut (s':=(ofG 18 (kAq f),[])) ?_ ?_
 ·rcases wyD b with⟨e,b⟩|⟨e,b⟩
  ·obtain⟨g,d,b⟩:=bnd b
   obtain rfl:=si b
   exact tr fol [5,9] (kAq (g==a)) (ac (gw e) (ac (hs (.done (.opt (ja ZT 9 (.str c) none (some (.i (a.length:Int))) none)) (.str g)) (qac st9 none (some (a.length:Int)) d)) az))
  obtain rfl:=si b
  exact tr fol [5] kAU (ac (gw e) az)
 refine Goes.ret ?_
 obtain rfl:=si h
 exact(gw2 [.bool f] (Ua tB))
def stringslite_TrimPrefix (b:Str) (a:Str):Option Str:=
 (stringslite_HasPrefix b a).bind fun c=>
 if c=true then
 (cut b (a.length:Int) (b.length:Int)).bind fun d=>
 some d
 else
 some b
theorem qbo (b:Str) (a:Str) {res:Str} (h:stringslite_TrimPrefix b a=some res):qc ZT (.fn 170) [.str b,.str a] [] (.str res) []:=by
 unfold stringslite_TrimPrefix at h
 refine Ub Tryz.func170 rfl rfl (m:=13) rfl (rs:=[.tmp 4]) rfl (l:=(kAN b a [])) rfl ?_
 refine sh fol (kAN b a []) ?_
 refine sq ?_
 obtain⟨f,c,h⟩:=bnd h
 refine sq (gr fol [2] (kAN b a [(7,.bool f)]) (ac (cv (qbE b a c)) az) ?_)
 refine ihB h (fun g h=>?_) (fun g h=>?_)
 ·obtain⟨e,d,h⟩:=bnd h
  refine sq (gr fol [3] [(4,.str e)] (ac (hs (.done (.opt (ja ZT 9 (.str b) (some (.i (a.length:Int))) none none)) (.str e)) (qac st9 (some (a.length:Int)) none d)) az) ?_)
  refine Goes.ret ?_
  obtain rfl:=si h
  exact(gw2 [.str e] (Ua tS))
 refine Goes.skip ?_
 refine sh fol [(4,.str b)] ?_
 refine Goes.ret ?_
 obtain rfl:=si h
 exact(gw2 [.str b] (Ua tS))
def strings_TrimPrefix (b:Str) (a:Str):Option Str:=
 (stringslite_TrimPrefix b a).bind fun c=>
 some c
theorem qcu (b:Str) (a:Str) {res:Str} (h:strings_TrimPrefix b a=some res):qc ZT (.fn 126) [.str b,.str a] [] (.str res) []:=by
 unfold strings_TrimPrefix at h
 refine Ub Tryz.func126 rfl rfl (m:=8) rfl (rs:=[.tmp 4]) rfl (l:=(kAN b a [])) rfl ?_
 refine sh fol (kAN b a []) ?_
 obtain⟨d,c,h⟩:=bnd h
 refine sq (gr fol [2] [(4,.str d)] (ac (cv (qbo b a c)) az) ?_)
 refine Goes.ret ?_
 obtain rfl:=si h
 exact(gw2 [.str d] (Ua tS))
def zU (N:Nat):Nat->(List Str)->(List Int)->Option (List Str)
 |0,_,_=>none
 |K+1,i,j=>
  if(j.length:Int)>0 then
  (xQ N j ([1000000000000000000]:List Int)).bind fun b=>
  ((if(b.2.length:Int)>0 then
  (idx b.2 0).bind fun c=>
  (qfu c 10).bind fun d=>
  some d
  else
  some [48]:Option Str)).bind fun a=>
  ((if(b.1.length:Int)>0 then
  (qdf [48] (w64 (18-(a.length:Int)))).bind fun e=>
  (cat e a).bind fun f=>
  some f
  else
  some a:Option Str)).bind fun g=>
  (app 16 i [g]).bind fun h=>
  zU N K h b.1
  else
  some i
def kz (e:List Str):Nat->Bool->(Option (List Int))->Int->Option (Bool×(Option (List Int)))
 |0,_,_,_=>none
 |K+1,ok27,b,a=>
  if a>=0 then
  (idx e a).bind fun c=>
  (bWr ok27 b c).bind fun d=>
  kz e K true (some d) (w64 (a-1))
  else
  some (ok27,b)
def jA (N:Nat) (a:qx):Option Str:=
 if a.w.isEmpty=true then
 (qjK a.s).bind fun h=>
 some h
 else
 (qC a).bind fun f=>
 (zU N N ([]:List Str) f.2).bind fun g=>
 ((if f.1=true then
 (bWr false (none:Option (List Int)) [45]).bind fun b=>
 some (true,(some b))
 else
 some (false,(none:Option (List Int))):Option (Bool×(Option (List Int))))).bind fun(ok21,c)=>
 (kz g N ok21 c (w64 ((g.length:Int)-1))).bind fun(ok30,d)=>
 (qkv ok30 d).bind fun e=>
 some e
theorem yT (N:Nat) (a:qx) {res:Str} (h:jA N a=some res):qc ZT (.fn 149) [.agg (nz1 a)] [] (.str res) []:=by
 unfold jA at h
 refine Ub Tryz.func149 rfl rfl (m:=69) rfl (rs:=[.tmp 2]) rfl (l:=[(0,.agg (nz1 a))]) rfl ?_
 refine sg fol (kAM []) [.cells (nz1 a)] ?_
 refine sq ?_
 refine sq (gr fol [2] (kAM [(14,.bool a.w.isEmpty)]) (ac (hs (.done (.opt (qO ZT .eql 75 (.tmp 13) (.const (.slice none 0 0)) (nvl (qa .u64) a.w) .nilslice)) (.bool a.w.isEmpty)) (qat qak)) az) ?_)
 refine ihB h (fun c1 h=>?_) (fun c1 h=>?_)
 ·obtain⟨r2,J,h⟩:=bnd h
  refine sq (gr fol [2] [(2,.str r2)] (ac (cv (qlr a.s J)) az) ?_)
  refine Goes.ret ?_
  obtain rfl:=si h
  exact(gw2 [.str r2] (Ua tS))
 refine Goes.skip ?_
 obtain⟨d,K,h⟩:=bnd h
 refine sq (gr fol [1] (kA0 d.1 [(4,vl (qa .u64) d.2)]) (ac (cv (zq a K)) az) ?_)
 refine sg fol (kA0 d.1 [(4,vl (qa .u64) d.2),(5,.slice 1 0 1 1 1)]) [.cells (nz1 a),.cells [.int .u64 1000000000000000000]] ?_
 refine sh fol (kA0 d.1 [(4,vl (qa .u64) d.2),(5,.slice 1 0 1 1 1),(6,.nilslice)]) ?_
 refine sq (Goes.block ?_)
 obtain⟨r7,g7,h⟩:=bnd h
 refine Goes.imp (Q:=fun x s'=>(x= .exit 0/\ ∃b,b=r7/\Sub s' (ofG 69 (kA0 d.1 (kY b [])),(kZ b [])))) ?_ ?_
 ·refine Goes.sub (s':=(ofG 69 (kA0 d.1 [(4,vl (qa .u64) d.2),(5,vl (qa .u64) ([1000000000000000000]:List Int)),(6,.gslice 0 ([]:List Str).length 1)]),[.cells (([]:List Str).flatMap encS.c)])) (Sub.norm [1] [none] rfl rfl (.keep (.same nB) (.keep (.same (qd (qa .u64) _)) (.keep (.frz (Fz.lit rfl rfl (Um (AllST.cons tI AllST.nil))) (qd (qa .u64) _)) (.keep .nil .nil)))) (.fresh .nil)) ?_
  refine Uc (fun M s=> ∃(g:List Str) (I:List Int),s=(ofG 69 (kA0 d.1 ((4,vl (qa .u64) I)::(5,vl (qa .u64) ([1000000000000000000]:List Int))::(kY g []))),(kZ g []))/\zU N M g I=some r7) ?_ (m:=N) ⟨_,_,rfl,g7⟩
  rintro M s ⟨g,I,rfl,g7⟩
  cases M with
  |zero=>simp only[zU]at g7;cases g7
  |succ M=>
   rw[zU]at g7
   refine sq ?_
   refine sh fol (kA0 d.1 ((4,vl (qa .u64) I)::(5,vl (qa .u64) ([1000000000000000000]:List Int))::(kY g [(26,.bool (decide ((I.length:Int)>0)))]))) ?_
   refine ihD g7 (fun c8 g7=>?_) (fun c8 g7=>?_)
   ·refine Goes.skip ?_
    refine Goes.block ?_
    obtain⟨j,L,g7⟩:=bnd g7
    refine sq (gr fol [2] (kA0 d.1 ((5,vl (qa .u64) ([1000000000000000000]:List Int))::(kY g [(7,vl (qa .u64) j.1),(8,vl (qa .u64) j.2)]))) (ac (cv (qdx N I ([1000000000000000000]:List Int) L)) az) ?_)
    refine sh fol (kA0 d.1 ((5,vl (qa .u64) ([1000000000000000000]:List Int))::(kY g [(7,vl (qa .u64) j.1),(8,vl (qa .u64) j.2),(9,.str [48])]))) ?_
    refine sq ?_
    refine sh fol (kA0 d.1 ((5,vl (qa .u64) ([1000000000000000000]:List Int))::(kY g [(7,vl (qa .u64) j.1),(8,vl (qa .u64) j.2),(9,.str [48]),(35,.bool (decide ((j.2.length:Int)>0)))]))) ?_
    obtain⟨U,g11,g7⟩:=bnd g7
    refine Goes.imp (Q:=fun x s'=>(x= .normal/\ ∃p,p=U/\Sub s' (ofG 69 (kA0 d.1 ((5,vl (qa .u64) ([1000000000000000000]:List Int))::(kY g [(7,vl (qa .u64) j.1),(9,.str p)]))),(kZ g [])))) ?_ ?_
    ·refine ihD g11 (fun V g11=>?_) (fun V g11=>?_)
     ·obtain⟨X,r,g11⟩:=bnd g11
      obtain⟨Y,z,g11⟩:=bnd g11
      refine gr fol [1,2,3] (kA0 d.1 ((5,vl (qa .u64) ([1000000000000000000]:List Int))::(kY g [(7,vl (qa .u64) j.1),(9,.str Y)]))) (ac (iv zy (qa .u64) r) (ac (lv 0 zG (qa .u64) r rfl) (ac (cv (qlS X 10 z)) az))) ?_
      obtain rfl:=si g11
      exact⟨rfl,_,rfl,(Sub.refl _)⟩
     refine Goes.skip ?_
     obtain rfl:=si g11
     exact⟨rfl,_,rfl,(Sub.keep [3,5,6,7,9] rfl rfl)⟩
    rintro x s' ⟨rfl,p,rfl,hsub⟩
    refine Goes.sub hsub ?_
    refine sq ?_
    refine sh fol (kA0 d.1 ((5,vl (qa .u64) ([1000000000000000000]:List Int))::(kY g [(7,vl (qa .u64) j.1),(9,.str p),(42,.bool (decide ((j.1.length:Int)>0)))]))) ?_
    obtain⟨Z,g16,g7⟩:=bnd g7
    refine Goes.imp (Q:=fun x s'=>(x= .normal/\ ∃k,k=Z/\Sub s' (ofG 69 (kA0 d.1 ((5,vl (qa .u64) ([1000000000000000000]:List Int))::(kY g [(7,vl (qa .u64) j.1),(9,.str k)]))),(kZ g [])))) ?_ ?_
    ·refine ihD g16 (fun a0 g16=>?_) (fun a0 g16=>?_)
     ·obtain⟨a1,A,g16⟩:=bnd g16
      obtain⟨O,B,g16⟩:=bnd g16
      refine gr fol [3,5] (kA0 d.1 ((5,vl (qa .u64) ([1000000000000000000]:List Int))::(kY g [(7,vl (qa .u64) j.1),(9,.str O)]))) (ac (cv (qiJ [48] (w64 (18-(p.length:Int))) A)) (ac (hs (.done (.opt (qO ZT .add 9 (.tmp 46) (.tmp 47) (.str a1) (.str p))) (.str O)) (qaq B)) az)) ?_
      obtain rfl:=si g16
      exact⟨rfl,_,rfl,(Sub.refl _)⟩
     refine Goes.skip ?_
     obtain rfl:=si g16
     exact⟨rfl,_,rfl,(Sub.keep [3,5,6,7,9] rfl rfl)⟩
    rintro x s' ⟨rfl,k,rfl,hsub⟩
    refine Goes.sub hsub ?_
    obtain⟨n,C,g7⟩:=bnd g7
    refine sq (gq fol [3] (kA0 d.1 ((5,vl (qa .u64) ([1000000000000000000]:List Int))::(kAd n [(7,vl (qa .u64) j.1)]))) (.dead:: .cells [.str k]::(kZ n [])) (ac (hs (.run [0,1] (vP ZT [206,206] (.gslice 0 g.length 1) (.slice 1 0 1 1 1)) (kZ g [.cells [.str k]]) (.gslice 2 n.length 1) (.dead:: .cells [.str k]::(kZ n [])) true) (qaB qnP (E:=encS) rfl (qd4 (E:=encS) (ys:=[k]) rfl rfl rfl rfl) (qfl (E:=encS) (l:=g) rfl rfl rfl C rfl))) az) ?_)
    refine gh fol (kA0 d.1 ((4,vl (qa .u64) j.1)::(5,vl (qa .u64) ([1000000000000000000]:List Int))::(kAd n []))) ?_
    exact⟨M,(ofG 69 (kA0 d.1 ((4,vl (qa .u64) j.1)::(5,vl (qa .u64) ([1000000000000000000]:List Int))::(kY n []))),(kZ n [])),Nat.lt_succ_self _,(Sub.norm [] [some 2] rfl rfl (.keep (.same nB) (.keep (.same (qd (qa .u64) _)) (.keep (.same (qd (qa .u64) _)) (.keep (.gslice rfl) .nil)))) (.ks .nil)),_,_,rfl,g7⟩
   refine Goes.exit ?_
   obtain rfl:=si g7
   exact⟨rfl,_,rfl,(Sub.keep [3,6] rfl rfl)⟩
 rintro x s' ⟨rfl,b,rfl,hsub⟩
 refine Goes.sub hsub ?_
 refine sg fol (kA0 d.1 (kY b (kA2 []))) (kZ b [.bld 173 5 [.nilptr,.nilslice]]) ?_
 refine sq ?_
 refine sh fol (kY b (kA2 [(54,.bool d.1)])) ?_
 obtain⟨a2,g23,h⟩:=bnd h
 refine Goes.imp (Q:=fun x s'=>(x= .normal/\ ∃ok21 u,(ok21,u)=a2/\Sub s' (ofG 69 (kY b (kA2 [])),(kZ b [.bld 173 5 [pz ok21 1 0,hsl 2 1 u],.cells ((hof u).flatMap (qa .u8).c)])))) ?_ ?_
 ·refine ihB g23 (fun a3 g23=>?_) (fun a3 g23=>?_)
  ·refine Goes.sub (s':=(ofG 69 (kY b (kA2 [(54,.bool d.1)])),(kZ b [.bld 173 5 [pz false 1 0,.nilslice]]))) (Sub.norm [] [some 0,some 1] rfl rfl (.keep (.gslice rfl) (.kp (.keep (.same nB) .nil))) (.ks (.kb rfl (.bld (rc (zo.pz0) (rc (.same (qB.nilslice)) rn))) .nil))) ?_
   refine Goes.sub (s':=(ofG 69 (kY b (kA2 [(54,.bool d.1)])),(kZ b [.bld 173 5 [pz false 1 0,hsl 2 1 (none:Option (List Int))],.cells ((hof (none:Option (List Int))).flatMap (qa .u8).c)]))) (Sub.norm [] [some 0,some 1,none] rfl rfl (.keep (.gslice rfl) (.kp (.keep (.same nB) .nil))) (.ks (.kb rfl (.bld (rc (zo.pz0) (rc .hs0 rn))) (.fresh .nil)))) ?_
   obtain⟨v,D,g23⟩:=bnd g23
   refine gq fol [0] (kY b (kA2 [])) (kZ b [.bld 173 5 [pz true 1 0,hsl 3 1 (some v)],.dead,.cells ((hof (some v)).flatMap (qa .u8).c)]) (ac (hs (.callH 130 [.ptr 1 0,.str [45]] (kZ b [.bld 173 5 [pz false 1 0,hsl 2 1 (none:Option (List Int))],.cells ((hof (none:Option (List Int))).flatMap (qa .u8).c)]) [1,2] (.tuple [.i (([45].length:Nat):Int),.niliface]) (kZ b [.bld 173 5 [pz true 1 0,hsl 3 1 (some v)],.dead,.cells ((hof (some v)).flatMap (qa .u8).c)])) (qbf [some 1,some 2] [none,some 0,none,some 2] (qmW false (none:Option (List Int)) [45] D) (.kb rfl (.bld (rc (zo.pz0) (rc .hs0 rn))) (.ks .nil)) rfl rfl (.old rfl rfl (.back rfl rfl (.bld (rc ((zo.pz rfl)) (rc (.hs rfl) rn))) rfl (.dead (.new rfl rfl (.same fa) rfl .nil)))) (rc (.ptr rfl) (rc (.same nS) rn)) (.same (qB.tuple sn)) rfl)) az) ?_
   obtain rfl:=si g23
   exact⟨rfl,_,_,rfl,(Sub.norm [] [some 0,some 1,some 3] rfl rfl (.keep (.gslice rfl) (.kp .nil)) (.ks (.kb rfl (.bld (rc ((zo.pz rfl)) (rc (.hs rfl) rn))) (.ks .nil))))⟩
  refine Goes.skip ?_
  obtain rfl:=si g23
  exact⟨rfl,_,_,rfl,(Sub.norm [] [some 0,some 1,none] rfl rfl (.keep (.gslice rfl) (.kp .nil)) (.ks (.kb rfl (.bld (rc (zo.pz0) (rc .hs0 rn))) (.fresh .nil))))⟩
 rintro x s' ⟨rfl,ok21,u,rfl,hsub⟩
 try dsimp only at h
 refine Goes.sub hsub ?_
 refine sq ?_
 refine sh fol (kY b (kA2 [(11,.i (w64 ((b.length:Int)-1)))])) ?_
 refine Goes.block ?_
 obtain⟨P,g32,h⟩:=bnd h
 refine Goes.imp (Q:=fun x s'=>(x= .exit 2/\ ∃ok30 o,(ok30,o)=P/\Sub s' (ofG 69 [(10,.ptr 0 0)],[.bld 173 5 [pz ok30 0 0,hsl 1 1 o],.cells ((hof o).flatMap (qa .u8).c)]))) ?_ ?_
 ·refine Uc (fun M s=> ∃(ok27:Bool) (e:Option (List Int)) (f:Int),s=(ofG 69 (kY b (kA2 [(11,.i f)])),(kZ b [.bld 173 5 [pz ok27 1 0,hsl 2 1 e],.cells ((hof e).flatMap (qa .u8).c)]))/\kz b M ok27 e f=some P) ?_ (m:=N) ⟨_,_,_,rfl,g32⟩
  rintro M s ⟨ok27,e,f,rfl,g32⟩
  cases M with
  |zero=>simp only[kz]at g32;cases g32
  |succ M=>
   rw[kz]at g32
   refine sq ?_
   refine sh fol (kY b (kA2 [(11,.i f),(60,.bool (decide (f>=0)))])) ?_
   refine ihD g32 (fun a4 g32=>?_) (fun a4 g32=>?_)
   ·refine Goes.skip ?_
    refine sq (Goes.block ?_)
    obtain⟨y,t,g32⟩:=bnd g32
    obtain⟨q,F,g32⟩:=bnd g32
    refine gq fol [2,3,4] (kY b (kA2 [(11,.i f)])) (kZ b [.bld 173 5 [pz true 1 0,hsl 3 1 (some q)],.dead,.cells ((hof (some q)).flatMap (qa .u8).c)]) (ac (hs (.done (.opt (qf ZT 206 (.gslice 0 b.length 1) (.i f))) (.ptr 0 ((f:Int).toNat*1+0))) (qmo qnP t)) (ac (hs (.run [0] (zC ZT 9 (.ptr 0 ((f:Int).toNat*1+0))) (kZ b [.bld 173 5 [pz ok27 1 0,hsl 2 1 e],.cells ((hof e).flatMap (qa .u8).c)]) (.str y) (kZ b [.bld 173 5 [pz ok27 1 0,hsl 2 1 e],.cells ((hof e).flatMap (qa .u8).c)]) false) (qaF ce9 (E:=encS) (l:=b) rfl rfl t (nl rfl) rfl)) (ac (hs (.callH 130 [.ptr 1 0,.str y] (kZ b [.bld 173 5 [pz ok27 1 0,hsl 2 1 e],.cells ((hof e).flatMap (qa .u8).c)]) [1,2] (.tuple [.i ((y.length:Nat):Int),.niliface]) (kZ b [.bld 173 5 [pz true 1 0,hsl 3 1 (some q)],.dead,.cells ((hof (some q)).flatMap (qa .u8).c)])) (qbf [some 1,some 2] [none,some 0,none,some 2] (qmW ok27 e y F) (.kb rfl (.bld (rc ((zo.pz rfl)) (rc (.hs rfl) rn))) (.ks .nil)) rfl rfl (.old rfl rfl (.back rfl rfl (.bld (rc ((zo.pz rfl)) (rc (.hs rfl) rn))) rfl (.dead (.new rfl rfl (.same fa) rfl .nil)))) (rc (.ptr rfl) (rc (.same nS) rn)) (.same (qB.tuple sn)) rfl)) az))) ?_
    refine gh fol (kY b (kA2 [(11,.i (w64 (f-1)))])) ?_
    exact⟨M,(ofG 69 (kY b (kA2 [(11,.i (w64 (f-1)))])),(kZ b [.bld 173 5 [pz true 1 0,hsl 2 1 (some q)],.cells ((hof (some q)).flatMap (qa .u8).c)])),Nat.lt_succ_self _,(Sub.norm [] [some 0,some 1,some 3] rfl rfl (.keep (.gslice rfl) (.kp (.keep (.same nI) .nil))) (.ks (.kb rfl (.bld (rc ((zo.pz rfl)) (rc (.hs rfl) rn))) (.ks .nil)))),_,_,_,rfl,g32⟩
   refine Goes.exit ?_
   obtain rfl:=si g32
   exact⟨rfl,_,_,rfl,(Sub.norm [] [some 1,some 2] rfl rfl (.drop (.kp .nil)) (.kb rfl (.bld (rc ((zo.pz rfl)) (rc (.hs rfl) rn))) (.ks .nil)))⟩
 rintro x s' ⟨rfl,ok30,o,rfl,hsub⟩
 try dsimp only at h
 refine Goes.sub hsub ?_
 obtain⟨G,H,h⟩:=bnd h
 refine sq (gq fol [0] [(2,.str G)] [.dead,.dead] (ac (hs (.callH 132 [.ptr 0 0] [.bld 173 5 [pz ok30 0 0,hsl 1 1 o],.cells ((hof o).flatMap (qa .u8).c)] [0,1] (.str G) [.dead,.dead]) (qbf [some 0,some 1] [none,none] (qno ok30 o H) (.kb rfl (.bld (rc ((zo.pz rfl)) (rc (.hs rfl) rn))) (.ks .nil)) rfl rfl (.dead (.dead .nil)) (rc (.ptr rfl) rn) (.same nS) rfl)) az) ?_)
 refine Goes.ret ?_
 obtain rfl:=si h
 exact(gw2 [.str G] (Ua tS))
def qbX (N:Nat) (n:qx):Option Bool:=
 ((qal n).bind fun a=>
 if a>1800 then
 (jA N n).bind fun b=>
 (strings_TrimPrefix b [45]).bind fun c=>
 some (decide ((c.length:Int)>600))
 else
 some false:Option Bool).bind fun d=>
 some d
theorem qcE (N:Nat) (n:qx) {res:Bool} (h:qbX N n=some res):qc ZT (.fn 148) [.agg (nz1 n)] [] (.bool res) []:=by
 unfold qbX at h
 refine Ub Tryz.func148 rfl rfl (m:=13) rfl (rs:=[.tmp 2]) rfl (l:=[(0,.agg (nz1 n))]) rfl ?_
 refine sg fol (kAM []) [.cells (nz1 n)] ?_
 refine sq ?_
 obtain⟨f,a,h⟩:=bnd h
 refine Goes.cut (s':=(ofG 13 [(2,.bool f)],[.cells (nz1 n)])) ?_ ?_
 ·obtain⟨j,b,a⟩:=bnd a
  rcases wyD a with⟨e,a⟩|⟨e,a⟩
  ·obtain⟨g,c,a⟩:=bnd a
   obtain⟨i,d,a⟩:=bnd a
   obtain rfl:=si a
   exact tr fol [1,3,5,6] [(2,.bool (decide ((i.length:Int)>600)))] (ac (cv (qcm n b)) (ac (gw e) (ac (cv (yT N n c)) (ac (cv (qcu g [45] d)) az))))
  obtain rfl:=si a
  exact tr fol [1,3] [(2,.bool false)] (ac (cv (qcm n b)) (ac (gw e) az))
 refine Goes.ret ?_
 obtain rfl:=si h
 exact(gw2 [.bool f] (Ua tB))
def y9 (N:Nat) (a:qQ):Option Bool:=
 ((qbX N a.Num).bind fun b=>
 if b=true then
 some true
 else
 (qbX N a.Den).bind fun c=>
 some c:Option Bool).bind fun d=>
 some d
theorem qd7 (N:Nat) (a:qQ) {res:Bool} (h:y9 N a=some res):qc ZT (.fn 93) [.agg (nq1 a)] [] (.bool res) []:=by
 unfold y9 at h
 refine Ub Tryz.func93 rfl rfl (m:=11) rfl (rs:=[.tmp 2]) rfl (l:=[(0,.agg (nq1 a))]) rfl ?_
 refine sg fol (kAM []) [.cells (nq1 a)] ?_
 refine sq ?_
 obtain⟨f,b,h⟩:=bnd h
 refine Goes.cut (s':=(ofG 11 [(2,.bool f)],[.cells (nq1 a)])) ?_ ?_
 ·obtain⟨i,c,b⟩:=bnd b
  rcases wyB b with⟨e,b⟩|⟨e,b⟩
  ·obtain rfl:=si b
   exact tr fol [2,3] [(2,.bool true)] (ac (cv (qcE N a.Num c)) (ac (gw e) az))
  obtain⟨g,d,b⟩:=bnd b
  obtain rfl:=si b
  exact tr fol [2,3,6] [(2,.bool g)] (ac (cv (qcE N a.Num c)) (ac (gw e) (ac (cv (qcE N a.Den d)) az)))
 refine Goes.ret ?_
 obtain rfl:=si h
 exact(gw2 [.bool f] (Ua tB))
def vZ (a:qQ):Option Bool:=
 (if a.Den.w.isEmpty=true then
 some (decide (a.Den.s=1))
 else
 some false:Option Bool).bind fun b=>
 some b
theorem qdo (a:qQ) {res:Bool} (h:vZ a=some res):qc ZT (.fn 142) [.agg (nq1 a)] [] (.bool res) []:=by
 unfold vZ at h
 refine Ub Tryz.func142 rfl rfl (m:=13) rfl (rs:=[.tmp 2]) rfl (l:=[(0,.agg (nq1 a))]) rfl ?_
 refine sg fol (kAM []) [.cells (nq1 a)] ?_
 refine sq ?_
 obtain⟨d,b,h⟩:=bnd h
 refine Goes.cut (s':=(ofG 13 [(2,.bool d)],[.cells (nq1 a)])) ?_ ?_
 ·rcases wyB b with⟨c,b⟩|⟨c,b⟩
  ·obtain rfl:=si b
   exact tr fol [3,4] [(2,.bool (decide (a.Den.s=1)))] (ac (hs (.done (.opt (qO ZT .eql 75 (.tmp 5) (.const (.slice none 0 0)) (nvl (qa .u64) a.Den.w) .nilslice)) (.bool a.Den.w.isEmpty)) (qat qak)) (ac (gw c) az))
  obtain rfl:=si b
  exact tr fol [3,4] [(2,.bool false)] (ac (hs (.done (.opt (qO ZT .eql 75 (.tmp 5) (.const (.slice none 0 0)) (nvl (qa .u64) a.Den.w) .nilslice)) (.bool a.Den.w.isEmpty)) (qat qak)) (ac (gw c) az))
 refine Goes.ret ?_
 obtain rfl:=si h
 exact(gw2 [.bool d] (Ua tB))
def xz (N:Nat) (a:qQ):Option Str:=
 (vZ a).bind fun b=>
 if b=true then
 (jA N a.Num).bind fun c=>
 some c
 else
 (jA N a.Num).bind fun d=>
 (cat d [47]).bind fun e=>
 (jA N a.Den).bind fun f=>
 (cat e f).bind fun g=>
 some g
theorem qeq (N:Nat) (a:qQ) {res:Str} (h:xz N a=some res):qc ZT (.fn 94) [.agg (nq1 a)] [] (.str res) []:=by
 unfold xz at h
 refine Ub Tryz.func94 rfl rfl (m:=16) rfl (rs:=[.tmp 2]) rfl (l:=[(0,.agg (nq1 a))]) rfl ?_
 refine sg fol (kAM []) [.cells (nq1 a)] ?_
 refine sq ?_
 obtain⟨n,b,h⟩:=bnd h
 refine sq (gr fol [1] (kAM (kAq n)) (ac (cv (qdo a b)) az) ?_)
 refine ihB h (fun o h=>?_) (fun o h=>?_)
 ·obtain⟨j,c,h⟩:=bnd h
  refine sq (gr fol [2] [(2,.str j)] (ac (cv (yT N a.Num c)) az) ?_)
  refine Goes.ret ?_
  obtain rfl:=si h
  exact(gw2 [.str j] (Ua tS))
 refine Goes.skip ?_
 obtain⟨p,d,h⟩:=bnd h
 obtain⟨k,e,h⟩:=bnd h
 obtain⟨q,f,h⟩:=bnd h
 obtain⟨i,g,h⟩:=bnd h
 refine sq (gr fol [2,3,6,7] [(2,.str i)] (ac (cv (yT N a.Num d)) (ac (hs (.done (.opt (qO ZT .add 9 (.tmp 10) (.const (.string ⟨#[47]⟩)) (.str p) (.str [47]))) (.str k)) (qaq e)) (ac (cv (yT N a.Den f)) (ac (hs (.done (.opt (qO ZT .add 9 (.tmp 11) (.tmp 14) (.str k) (.str q))) (.str i)) (qaq g)) az)))) ?_)
 refine Goes.ret ?_
 obtain rfl:=si h
 exact(gw2 [.str i] (Ua tS))
def yO (N:Nat) (a:qQ):Option (Str×Int):=
 (y9 N a).bind fun b=>
 if b=true then
 some ([],4)
 else
 (xz N a).bind fun c=>
 some (c,0)
theorem qez (N:Nat) (a:qQ) {res:Str×Int} (h:yO N a=some res):qc ZT (.fn 45) [.agg (nq1 a)] [] (.tuple [.str res.1,.i res.2]) []:=by
 unfold yO at h
 refine Ub Tryz.func45 rfl rfl (m:=8) rfl (rs:=[.tmp 2,.tmp 3]) rfl (l:=[(0,.agg (nq1 a))]) rfl ?_
 refine sg fol (kAM []) [.cells (nq1 a)] ?_
 refine sq ?_
 obtain⟨e,b,h⟩:=bnd h
 refine sq (gr fol [1] (kAM [(5,.bool e)]) (ac (cv (qd7 N a b)) az) ?_)
 refine ihB h (fun f h=>?_) (fun f h=>?_)
 ·refine sh fol [(2,.str []),(3,.i 4)] ?_
  refine Goes.ret ?_
  obtain rfl:=si h
  exact(gw2 [.str [],.i 4] (FzW.tuple (qg.cons (Ua tS) (qg.cons (Ua tI) qg.nil))))
 refine Goes.skip ?_
 obtain⟨d,c,h⟩:=bnd h
 refine sq (gr fol [1] [(2,.str d),(3,.i 0)] (ac (cv (qeq N a c)) az) ?_)
 refine Goes.ret ?_
 obtain rfl:=si h
 exact(gw2 [.str d,.i 0] (FzW.tuple (qg.cons (Ua tS) (qg.cons (Ua tI) qg.nil))))
def ji (N:Nat) (d:List (List Int)):Nat->Int->(List Int)->Int->(List Int)->Int->Option (Int×(List Int)×Int×(List Int))
 |0,_,_,_,_,_=>none
 |K+1,h,i,j,k,b=>
  if b<(d.length:Int)then
  (idx d b).bind fun e=>
  (qgM (e.length:Int)).bind fun c=>
  (qai N (⟨(⟨h,i⟩:qx),(⟨j,k⟩:qx)⟩:qQ) c).bind fun f=>
  (qa5 f.Num).bind fun g=>
  (xw N g c).bind fun a=>
  ji N d K a.Num.s a.Num.w a.Den.s a.Den.w (w64 (b+1))
  else
  some (h,i,j,k)
def qaE (N:Nat) (p:List Int):Option (Str×Int):=
 (jd N p).bind fun g=>
 if(!decide (g=0))=true then
 some ([],g)
 else
 (qgM 1).bind fun b=>
 (jg N p).bind fun h=>
 (ji N h N b.Num.s b.Num.w b.Den.s b.Den.w 0).bind fun(c,d,e,f)=>
 (yO N (⟨(⟨c,d⟩:qx),(⟨e,f⟩:qx)⟩:qQ)).bind fun a=>
 some (a.1,a.2)
theorem qeF (N:Nat) (p:List Int) {res:Str×Int} (h:qaE N p=some res):qc ZT (.fn 7) [vl encI p] [] (.tuple [.str res.1,.i res.2]) []:=by
 unfold qaE at h
 refine Ub Tryz.func7 rfl rfl (m:=37) rfl (rs:=[.tmp 2,.tmp 3]) rfl (l:=(kO p [])) rfl ?_
 refine sh fol (kO p []) ?_
 refine sq ?_
 obtain⟨F,G,h⟩:=bnd h
 refine sq (gr fol [1] (kO p [(4,.i F)]) (ac (cv (xx N p G)) az) ?_)
 refine sh fol (kO p [(4,.i F),(12,.bool (!decide (F=0)))]) ?_
 refine ihB h (fun P h=>?_) (fun P h=>?_)
 ·refine sh fol [(2,.str []),(3,.i F)] ?_
  refine Goes.ret ?_
  obtain rfl:=si h
  exact(gw2 [.str [],.i F] (FzW.tuple (qg.cons (Ua tS) (qg.cons (Ua tI) qg.nil))))
 refine Goes.skip ?_
 obtain⟨D,H,h⟩:=bnd h
 refine sq (gq fol [0,2] (kO p [(5,.ptr 0 0)]) [.cells (nq1 D)] (ac (cv (qh9 1 H)) (ac (hs (.run [0] (qw ZT 79 (.ptr 0 0) (.agg (nq1 D))) (kK []) .undef [.cells (nq1 D)] true) (zT (n:=4) (by kernel_rfl) rfl rfl rfl rfl (cac rfl (cac nvc (cac rfl (cac nvc can)))) rfl)) az)) ?_)
 refine sq ?_
 obtain⟨a,I,h⟩:=bnd h
 refine sq (gq fol [1] (kAQ a (a.length:Int) [(18,.i 0)]) [.cells (nq1 D),.cells (a.flatMap (qp encI).c)] (ac (hs (.callH 40 [vl encI p] [.cells (nq1 D)] [] (.gslice 1 a.length 1) [.cells (nq1 D),.cells (a.flatMap (qp encI).c)]) (qbf [] [none,some 0] (xy N p I) .nil rfl rfl (.old rfl rfl (.new rfl rfl (.same fa) rfl .nil)) (rc (.same (qd encI _)) rn) (.gslice rfl) rfl)) az) ?_)
 refine Goes.block ?_
 obtain⟨J,g15,h⟩:=bnd h
 refine Goes.imp (Q:=fun x s'=>(x= .exit 0/\ ∃o q r t,(o,q,r,t)=J/\Sub s' (ofG 37 [(5,.ptr 0 0)],[.cells (ni2 o q r t)]))) ?_ ?_
 ·refine Uc (fun M s=> ∃(f:Int) (g:List Int) (j:Int) (k:List Int) (b:Int),s=(ofG 37 (kAQ a (a.length:Int) [(18,.i b)]),[.cells (ni2 f g j k),.cells (a.flatMap (qp encI).c)])/\ji N a M f g j k b=some J) ?_ (m:=N) ⟨_,_,_,_,_,rfl,g15⟩
  rintro M s ⟨f,g,j,k,b,rfl,g15⟩
  cases M with
  |zero=>simp only[ji]at g15;cases g15
  |succ M=>
   rw[ji]at g15
   refine sh fol (kAQ a (a.length:Int) [(18,.i b),(19,.bool (decide (b<(a.length:Int))))]) ?_
   refine sq ?_
   refine ihD g15 (fun K g15=>?_) (fun K g15=>?_)
   ·refine Goes.skip ?_
    refine sq (Goes.block ?_)
    obtain⟨w,e,g15⟩:=bnd g15
    refine sq (gr fol [0,1] [(5,.ptr 0 0),(7,vl encI w),(16,.gslice 1 a.length 1),(17,.i (a.length:Int)),(18,.i b)] (ac (hs (.done (.opt (qf ZT 24 (.gslice 1 a.length 1) (.i b))) (.ptr 1 ((b:Int).toNat*1+0))) (qmo qgi e)) (ac (hs (.run [1] (zC ZT 22 (.ptr 1 ((b:Int).toNat*1+0))) [.cells (ni2 f g j k),.cells (a.flatMap (qp encI).c)] (vl encI w) [.cells (ni2 f g j k),.cells (a.flatMap (qp encI).c)] false) (qaF qhG (E:=(qp encI)) (l:=a) rfl rfl e (nl rfl) rfl)) az)) ?_)
    obtain⟨d,y,g15⟩:=bnd g15
    refine sq (gq fol [2,4] [(5,.ptr 0 0),(8,.ptr 2 0),(16,.gslice 1 a.length 1),(17,.i (a.length:Int)),(18,.i b)] [.cells (ni2 f g j k),.cells (a.flatMap (qp encI).c),.cells (nq1 d)] (ac (cv (qh9 (w.length:Int) y)) (ac (hs (.run [2] (qw ZT 79 (.ptr 2 0) (.agg (nq1 d))) (.cells (ni2 f g j k):: .cells (a.flatMap (qp encI).c)::(kK [])) .undef [.cells (ni2 f g j k),.cells (a.flatMap (qp encI).c),.cells (nq1 d)] true) (zT (n:=4) (by kernel_rfl) rfl rfl rfl rfl (cac rfl (cac nvc (cac rfl (cac nvc can)))) rfl)) az)) ?_)
    obtain⟨L,z,g15⟩:=bnd g15
    obtain⟨O,A,g15⟩:=bnd g15
    obtain⟨u,B,g15⟩:=bnd g15
    refine gq fol [2,4,6,7] (kAQ a (a.length:Int) [(18,.i b)]) [.cells (nq1 u),.cells (a.flatMap (qp encI).c),.cells (nq1 d)] (ac (cv (qeV N (⟨(⟨f,g⟩:qx),(⟨j,k⟩:qx)⟩:qQ) d z)) (ac (cv (qdZ L.Num A)) (ac (cv (qcn N O d B)) (ac (hs (.run [0] (qw ZT 79 (.ptr 0 0) (.agg (nq1 u))) [.cells (ni2 f g j k),.cells (a.flatMap (qp encI).c),.cells (nq1 d)] .undef [.cells (nq1 u),.cells (a.flatMap (qp encI).c),.cells (nq1 d)] true) (zT (n:=4) (by kernel_rfl) rfl rfl rfl rfl (cac rfl (cac nvc (cac rfl (cac nvc can)))) rfl)) az)))) ?_
    refine gh fol (kAQ a (a.length:Int) [(18,.i (w64 (b+1)))]) ?_
    exact⟨M,(ofG 37 (kAQ a (a.length:Int) [(18,.i (w64 (b+1)))]),[.cells (nq1 u),.cells (a.flatMap (qp encI).c)]),Nat.lt_succ_self _,(Sub.norm [] [some 0,some 1] rfl rfl (.kp (.keep (.gslice rfl) (.keep (.same nI) (.keep (.same nI) .nil)))) (.kb rfl (.same sn) (.ks .nil))),_,_,_,_,_,rfl,g15⟩
   refine Goes.exit ?_
   obtain rfl:=si g15
   exact⟨rfl,_,_,_,_,rfl,(Sub.norm [] [some 0] rfl rfl (.kp .nil) (.kb rfl (.same sn) .nil))⟩
 rintro x s' ⟨rfl,o,q,r,t,rfl,hsub⟩
 try dsimp only at h
 refine Goes.sub hsub ?_
 obtain⟨v,C,h⟩:=bnd h
 refine sq (gr fol [1] [(2,.str v.1),(3,.i v.2)] (ac (cv (qez N (⟨(⟨o,q⟩:qx),(⟨r,t⟩:qx)⟩:qQ) C)) az) ?_)
 refine Goes.ret ?_
 obtain rfl:=si h
 exact(gw2 [.str v.1,.i v.2] (FzW.tuple (qg.cons (Ua tS) (qg.cons (Ua tI) qg.nil))))
def jO (a:List Int) (d:Int):Nat->(List Int)->Int->Option (List Int)
 |0,_,_=>none
 |K+1,c,b=>
  if b<(a.length:Int)then
  (idx a b).bind fun e=>
  (qad .i64 (w64 (b+d)) (a.length:Int)).bind fun f=>
  (idx a f).bind fun g=>
  (idx c e).bind fun i=>
  (put c e g).bind fun h=>
  jO a d K h (w64 (b+1))
  else
  some c
def jN (N:Nat) (k:Int) (b:List (List Int)):Nat->(List Int)->Int->Option (List Int)
 |0,_,_=>none
 |K+1,g,c=>
  if c<(b.length:Int)then
  (idx b c).bind fun a=>
  (qad .i64 k (a.length:Int)).bind fun d=>
  (qad .i64 (w64 (d+(a.length:Int))) (a.length:Int)).bind fun e=>
  (jO a e N g 0).bind fun f=>
  jN N k b K f (w64 (c+1))
  else
  some g
def qaY (N:Nat) (p:List Int) (k:Int):Option ((List Int)×Int):=
 (jd N p).bind fun a=>
 if(!decide (a=0))=true then
 some ([],a)
 else
 (mk 8 (p.length:Int) 0).bind fun b=>
 (jg N p).bind fun c=>
 (jN N k c N b 0).bind fun d=>
 some (d,0)
theorem qeO (N:Nat) (p:List Int) (k:Int) {res:(List Int)×Int} (h:qaY N p k=some res):qc ZT (.fn 8) [vl encI p,.i k] [] (.tuple [vl encI res.1,.i res.2]) []:=by
 unfold qaY at h
 refine Ub Tryz.func8 rfl rfl (m:=60) rfl (rs:=[.tmp 4,.tmp 5]) rfl (l:=(kO p [(1,.i k)])) rfl ?_
 refine sh fol (kO p [(1,.i k)]) ?_
 refine sq ?_
 obtain⟨G,H,h⟩:=bnd h
 refine sq (gr fol [1] (kO p [(1,.i k),(6,.i G)]) (ac (cv (xx N p H)) az) ?_)
 refine sh fol (kO p [(1,.i k),(6,.i G),(16,.bool (!decide (G=0)))]) ?_
 refine ihB h (fun Y h=>?_) (fun Y h=>?_)
 ·refine sh fol ((4,.nilslice)::(kAl G)) ?_
  refine Goes.ret ?_
  obtain rfl:=si h
  exact(gw2 [.nilslice,.i G] (FzW.tuple (qg.cons (FzW.nilv (E:=encI)) (qg.cons (Ua tI) qg.nil))))
 refine Goes.skip ?_
 obtain⟨w,I,h⟩:=bnd h
 refine sq (gq fol [2] (kO p ((1,.i k)::(kAs w []))) (kB w []) (ac (hs (.run [] (kw ZT 22 (.i (p.length:Int)) (.i (p.length:Int))) [] (.slice 0 0 w.length w.length 1) (kB w []) false) (qaA zw (E:=encI) (z:=0) rfl (by kernel_rfl) I rfl)) az) ?_)
 refine sq ?_
 obtain⟨b,J,h⟩:=bnd h
 refine sq (gq fol [1] (kAB k w b (b.length:Int) [(24,.i 0)]) (kB w [.cells (b.flatMap (qp encI).c)]) (ac (hs (.callH 40 [vl encI p] (kB w []) [] (.gslice 1 b.length 1) (kB w [.cells (b.flatMap (qp encI).c)])) (qbf [] [none,some 0] (xy N p J) .nil rfl rfl (.old rfl rfl (.new rfl rfl (.same fa) rfl .nil)) (rc (.same (qd encI _)) rn) (.gslice rfl) rfl)) az) ?_)
 refine Goes.block ?_
 obtain⟨X,g9,h⟩:=bnd h
 refine Goes.imp (Q:=fun x s'=>(x= .exit 0/\ ∃B,B=X/\Sub s' (ofG 60 (kAs B []),(kB B [])))) ?_ ?_
 ·refine Uc (fun M s=> ∃(v:List Int) (g:Int),s=(ofG 60 (kAB k v b (b.length:Int) [(24,.i g)]),(kB v [.cells (b.flatMap (qp encI).c)]))/\jN N k b M v g=some X) ?_ (m:=N) ⟨_,_,rfl,g9⟩
  rintro M s ⟨v,g,rfl,g9⟩
  cases M with
  |zero=>simp only[jN]at g9;cases g9
  |succ M=>
   rw[jN]at g9
   refine sh fol (kAB k v b (b.length:Int) [(24,.i g),(25,.bool (decide (g<(b.length:Int))))]) ?_
   refine sq ?_
   refine ihD g9 (fun P g9=>?_) (fun P g9=>?_)
   ·refine Goes.skip ?_
    refine sq (Goes.block ?_)
    obtain⟨a,o,g9⟩:=bnd g9
    refine sq (gr fol [0,1] ((1,.i k)::(kAs v [(9,vl encI a),(22,.gslice 1 b.length 1),(23,.i (b.length:Int)),(24,.i g)])) (ac (hs (.done (.opt (qf ZT 24 (.gslice 1 b.length 1) (.i g))) (.ptr 1 ((g:Int).toNat*1+0))) (qmo qgi o)) (ac (hs (.run [1] (zC ZT 22 (.ptr 1 ((g:Int).toNat*1+0))) (kB v [.cells (b.flatMap (qp encI).c)]) (vl encI a) (kB v [.cells (b.flatMap (qp encI).c)]) false) (qaF qhG (E:=(qp encI)) (l:=b) rfl rfl o (nl rfl) rfl)) az)) ?_)
    obtain⟨K,C,g9⟩:=bnd g9
    obtain⟨d,D,g9⟩:=bnd g9
    refine sq (gr fol [3,9] ((1,.i k)::(kAs v (kA8 a d [(22,.gslice 1 b.length 1),(23,.i (b.length:Int)),(24,.i g)]))) (ac (hs (.done (.opt (qO ZT .rem 3 (.tmp 28) (.tmp 30) (.i k) (.i (a.length:Int)))) (.i K)) (qap C)) (ac (hs (.done (.opt (qO ZT .rem 3 (.tmp 34) (.tmp 36) (.i (w64 (K+(a.length:Int)))) (.i (a.length:Int)))) (.i d)) (qap D)) az)) ?_)
    refine sh fol (kJ k v a d b (b.length:Int) g (a.length:Int) [(40,.i 0)]) ?_
    refine Goes.block ?_
    obtain⟨L,g17,g9⟩:=bnd g9
    refine Goes.imp (Q:=fun x s'=>(x= .exit 2/\ ∃n,n=L/\Sub s' (ofG 60 (kAB k n b (b.length:Int) [(24,.i g)]),(kB n [.cells (b.flatMap (qp encI).c)])))) ?_ ?_
    ·refine Uc (fun M s=> ∃(f:List Int) (e:Int),s=(ofG 60 (kJ k f a d b (b.length:Int) g (a.length:Int) [(40,.i e)]),(kB f [.cells (b.flatMap (qp encI).c)]))/\jO a d M f e=some L) ?_ (m:=N) ⟨_,_,rfl,g17⟩
     rintro M s ⟨f,e,rfl,g17⟩
     cases M with
     |zero=>simp only[jO]at g17;cases g17
     |succ M=>
      rw[jO]at g17
      refine sh fol (kJ k f a d b (b.length:Int) g (a.length:Int) [(40,.i e),(41,.bool (decide (e<(a.length:Int))))]) ?_
      refine sq ?_
      refine ihD g17 (fun U g17=>?_) (fun U g17=>?_)
      ·refine Goes.skip ?_
       refine sq (Goes.block ?_)
       obtain⟨A,q,g17⟩:=bnd g17
       refine sq (gr fol [1,2] ((1,.i k)::(kAs f (kA8 a d [(11,.i e),(12,.i A),(22,.gslice 1 b.length 1),(23,.i (b.length:Int)),(24,.i g),(38,vl encI a),(39,.i (a.length:Int)),(40,.i e)]))) (ac (iv zw encI q) (ac (lv 0 ce3 encI q rfl) az)) ?_)
       obtain⟨V,F,g17⟩:=bnd g17
       obtain⟨O,r,g17⟩:=bnd g17
       obtain⟨Z,t,g17⟩:=bnd g17
       obtain⟨j,u,g17⟩:=bnd g17
       refine gq fol [8,9,10,11,12] (kJ k f a d b (b.length:Int) g (a.length:Int) [(40,.i e)]) (kB j [.cells (b.flatMap (qp encI).c)]) (ac (hs (.done (.opt (qO ZT .rem 3 (.tmp 50) (.tmp 52) (.i (w64 (e+d))) (.i (a.length:Int)))) (.i V)) (qap F)) (ac (iv zw encI r) (ac (lv 0 ce3 encI r rfl) (ac (hs (.done (.opt (qf ZT 22 (.slice 0 0 f.length f.length 1) (.i A))) (.ptr 0 ((A:Int).toNat*1+0))) (vO zw t)) (ac (hs (.run [0] (qw ZT 3 (.ptr 0 ((A:Int).toNat*1+0)) (.i O)) (kB f [.cells (b.flatMap (qp encI).c)]) .undef (kB j [.cells (b.flatMap (qp encI).c)]) true) (yh (E:=encI) (l:=f) (y:=O) rfl (show _=some 1 by kernel_rfl) rfl t rfl rfl rfl rfl rfl u rfl)) az))))) ?_
       refine Goes.sub (show Sub (ofG 60 (kJ k f a d b (b.length:Int) g (a.length:Int) [(40,.i e)]),(kB j [.cells (b.flatMap (qp encI).c)])) (ofG 60 (kJ k j a d b (b.length:Int) g (a.length:Int) [(40,.i e)]),(kB j [.cells (b.flatMap (qp encI).c)]))from(Sub.norm [] [some 0,some 1] rfl rfl (.keep (.same nI) (.keep (.sliceE rfl (zS u)) (.keep (.same (qd encI _)) (.keep (.same nI) (.keep (.gslice rfl) (.keep (.same nI) (.keep (.same nI) (.keep (.same (qd encI _)) (.keep (.same nI) (.keep (.same nI) .nil)))))))))) (.ks (.ks .nil)))) ?_
       refine gh fol (kJ k j a d b (b.length:Int) g (a.length:Int) [(40,.i (w64 (e+1)))]) ?_
       exact⟨M,(ofG 60 (kJ k j a d b (b.length:Int) g (a.length:Int) [(40,.i (w64 (e+1)))]),(kB j [.cells (b.flatMap (qp encI).c)])),Nat.lt_succ_self _,(Sub.refl _),_,_,rfl,g17⟩
      refine Goes.exit ?_
      obtain rfl:=si g17
      exact⟨rfl,_,rfl,(Sub.keep [1,7,22,23,24] rfl rfl)⟩
    rintro x s' ⟨rfl,n,rfl,hsub⟩
    refine Goes.sub hsub ?_
    refine gh fol (kAB k n b (b.length:Int) [(24,.i (w64 (g+1)))]) ?_
    exact⟨M,(ofG 60 (kAB k n b (b.length:Int) [(24,.i (w64 (g+1)))]),(kB n [.cells (b.flatMap (qp encI).c)])),Nat.lt_succ_self _,(Sub.refl _),_,_,rfl,g9⟩
   refine Goes.exit ?_
   obtain rfl:=si g9
   exact⟨rfl,_,rfl,(Sub.norm [] [some 0] rfl rfl (.drop (.keep (.slice rfl) .nil)) (.ks .nil))⟩
 rintro x s' ⟨rfl,B,rfl,hsub⟩
 refine Goes.sub hsub ?_
 refine sh fol (kAt B [(5,.i 0)]) ?_
 refine Goes.ret ?_
 obtain rfl:=si h
 exact(gw2 [.slice 0 0 B.length B.length 1,.i 0] (FzW.tuple (qg.cons (FzW.fz (Fz.sl (E:=encI) rfl rfl (nl rfl))) (qg.cons (Ua tI) qg.nil))))
def zh (p:List Int) (b:Int):Nat->Int->Option (Unit⊕Int)
 |0,_=>none
 |K+1,a=>
  if a<b then
  (idx p a).bind fun c=>
  (idx p b).bind fun d=>
  if c=d then
  some (.inr 15)
  else
  zh p b K (w64 (a+1))
  else
  some (.inl ())
def zO (N:Nat) (p:List Int):Nat->Int->Option (Unit⊕Int)
 |0,_=>none
 |K+1,a=>
  if a<(p.length:Int)then
  ((idx p a).bind fun c=>
  if c<0 then
  some true
  else
  some (decide (c>=(p.length:Int))):Option Bool).bind fun d=>
  if d=true then
  some (.inr 15)
  else
  (zh p a N 0).bind (fun
  |(.inl ())=>
  zO N p K (w64 (a+1))
  |(.inr b)=>
  some (.inr b))
  else
  some (.inl ())
def yG (N:Nat) (p:List Int):Option Int:=
 if(p.length:Int)>256 then
 some 5
 else
 (zO N p N 0).bind (fun
 |(.inl ())=>
 some 0
 |(.inr a)=>
 some a)
theorem qdL (N:Nat) (p:List Int) {res:Int} (h:yG N p=some res):qc ZT (.fn 9) [vl encI p] [] (.i res) []:=by
 unfold yG at h
 refine Ub Tryz.func9 rfl rfl (m:=42) rfl (rs:=[.tmp 2]) rfl (l:=(kO p [])) rfl ?_
 refine sh fol (kO p []) ?_
 refine sq ?_
 refine sh fol (kO p [(7,.bool (decide ((p.length:Int)>256)))]) ?_
 refine ihD h (fun w h=>?_) (fun w h=>?_)
 ·refine sh fol [(2,.i 5)] ?_
  refine Goes.ret ?_
  obtain rfl:=si h
  exact(gw2 [.i 5] (Ua tI))
 refine Goes.skip ?_
 refine sq ?_
 refine sh fol (kO p [(3,.i 0)]) ?_
 refine Goes.block ?_
 obtain⟨k,g3,h⟩:=bnd h
 refine Goes.imp (Q:=fun x s'=>(x= .exit 0/\(.inl ())=k/\Sub s' (ofG 42 [],[]))\/(x= .ret/\ ∃v,(.inr v)=k/\vJ ZT [.tmp 2] (.i v) .ret s')) ?_ ?_
 ·refine Uc (fun M s=> ∃(c:Int),s=(ofG 42 (kO p [(3,.i c)]),[])/\zO N p M c=some k) ?_ (m:=N) ⟨_,rfl,g3⟩
  rintro M s ⟨c,rfl,g3⟩
  cases M with
  |zero=>simp only[zO]at g3;cases g3
  |succ M=>
   rw[zO]at g3
   refine sq ?_
   refine sh fol (kO p [(3,.i c),(11,.bool (decide (c<(p.length:Int))))]) ?_
   refine ihD g3 (fun y g3=>?_) (fun y g3=>?_)
   ·refine Goes.skip ?_
    refine sq (Goes.block ?_)
    refine sq ?_
    refine sq ?_
    obtain⟨z,a,g3⟩:=bnd g3
    refine Goes.cut (s':=(ofG 42 (kO p [(3,.i c),(27,.bool z)]),[])) ?_ ?_
    ·obtain⟨A,b,a⟩:=bnd a
     rcases wyD a with⟨n,a⟩|⟨n,a⟩
     ·obtain rfl:=si a
      exact tr fol [2,3,5] (kO p [(3,.i c),(27,.bool true)]) (ac (iv zw encI b) (ac (lv 0 ce3 encI b rfl) (ac (gw n) az)))
     obtain rfl:=si a
     exact tr fol [2,3,5,8,9] (kO p [(3,.i c),(27,.bool (decide (A>=(p.length:Int))))]) (ac (iv zw encI b) (ac (lv 0 ce3 encI b rfl) (ac (gw n) (ac (iv zw encI b) (ac (lv 0 ce3 encI b rfl) az)))))
    refine ihB g3 (fun o g3=>?_) (fun o g3=>?_)
    ·refine sh fol [(2,.i 15)] ?_
     refine Goes.ret ?_
     obtain rfl:=si g3
     exact Or.inr (⟨rfl,_,rfl,(gw2 [.i 15] (Ua tI))⟩)
    refine Goes.skip ?_
    refine sh fol (kO p [(3,.i c),(4,.i 0)]) ?_
    refine Goes.block ?_
    obtain⟨g,g12,g3⟩:=bnd g3
    refine Goes.imp (Q:=fun x s'=>(x= .exit 2/\(.inl ())=g/\Sub s' (ofG 42 (kO p [(3,.i c)]),[]))\/(x= .ret/\ ∃j,(.inr j)=g/\vJ ZT [.tmp 2] (.i j) .ret s')) ?_ ?_
    ·refine Uc (fun M s=> ∃(d:Int),s=(ofG 42 (kO p [(3,.i c),(4,.i d)]),[])/\zh p c M d=some g) ?_ (m:=N) ⟨_,rfl,g12⟩
     rintro M s ⟨d,rfl,g12⟩
     cases M with
     |zero=>simp only[zh]at g12;cases g12
     |succ M=>
      rw[zh]at g12
      refine sq ?_
      refine sh fol (kO p [(3,.i c),(4,.i d),(30,.bool (decide (d<c)))]) ?_
      refine ihD g12 (fun q g12=>?_) (fun q g12=>?_)
      ·refine Goes.skip ?_
       refine sq (Goes.block ?_)
       obtain⟨r,e,g12⟩:=bnd g12
       obtain⟨t,f,g12⟩:=bnd g12
       refine sq (gr fol [2,3,6,7] (kO p [(3,.i c),(4,.i d),(41,.bool (decide (r=t)))]) (ac (iv zw encI e) (ac (lv 0 ce3 encI e rfl) (ac (iv zw encI f) (ac (lv 0 ce3 encI f rfl) az)))) ?_)
       refine ihD g12 (fun u g12=>?_) (fun u g12=>?_)
       ·refine sh fol [(2,.i 15)] ?_
        refine Goes.ret ?_
        obtain rfl:=si g12
        exact Or.inr (⟨rfl,_,rfl,(gw2 [.i 15] (Ua tI))⟩)
       refine Goes.skip ?_
       refine gh fol (kO p [(3,.i c),(4,.i (w64 (d+1)))]) ?_
       exact⟨M,(ofG 42 (kO p [(3,.i c),(4,.i (w64 (d+1)))]),[]),Nat.lt_succ_self _,(Sub.refl _),_,rfl,g12⟩
      refine Goes.exit ?_
      obtain rfl:=si g12
      exact Or.inl (⟨rfl,rfl,(Sub.keep [0,3] rfl rfl)⟩)
    rintro x s' (⟨rfl,rfl,hsub⟩|⟨rfl,B,rfl,hret⟩)
    ·try dsimp only at g3
     refine Goes.sub hsub ?_
     refine gh fol (kO p [(3,.i (w64 (c+1)))]) ?_
     exact⟨M,(ofG 42 (kO p [(3,.i (w64 (c+1)))]),[]),Nat.lt_succ_self _,(Sub.refl _),_,rfl,g3⟩
    try dsimp only at g3
    obtain rfl:=si g3
    exact Or.inr (⟨rfl,_,rfl,hret⟩)
   refine Goes.exit ?_
   obtain rfl:=si g3
   exact Or.inl (⟨rfl,rfl,(Sub.keep [] rfl rfl)⟩)
 rintro x s' (⟨rfl,rfl,hsub⟩|⟨rfl,C,rfl,hret⟩)
 ·try dsimp only at h
  refine Goes.sub hsub ?_
  refine sh fol [(2,.i 0)] ?_
  refine Goes.ret ?_
  obtain rfl:=si h
  exact(gw2 [.i 0] (Ua tI))
 try dsimp only at h
 obtain rfl:=si h
 exact hret
def jF (b:Str):Nat->Int->Option (Unit⊕Int)
 |0,_=>none
 |K+1,a=>
  if a<(b.length:Int)then
  (idx b a).bind fun c=>
  if(c.toNat:Int)=47 then
  some (.inr a)
  else
  jF b K (w64 (a+1))
  else
  some (.inl ())
def yo (N:Nat) (a:Str):Option Int:=
 (jF a N 0).bind (fun
 |(.inl ())=>
 some (a.length:Int)
 |(.inr b)=>
 some b)
theorem xY (N:Nat) (a:Str) {res:Int} (h:yo N a=some res):qc ZT (.fn 102) [.str a] [] (.i res) []:=by
 unfold yo at h
 refine Ub Tryz.func102 rfl rfl (m:=17) rfl (rs:=[.tmp 2]) rfl (l:=(kAm a)) rfl ?_
 refine sh fol (kAm a) ?_
 refine sq ?_
 refine sh fol [(0,.str a),(3,.i 0)] ?_
 refine Goes.block ?_
 obtain⟨d,g2,h⟩:=bnd h
 refine Goes.imp (Q:=fun x s'=>(x= .exit 0/\(.inl ())=d/\Sub s' (ofG 17 (kAm a),[]))\/(x= .ret/\ ∃e,(.inr e)=d/\vJ ZT [.tmp 2] (.i e) .ret s')) ?_ ?_
 ·refine Uc (fun M s=> ∃(b:Int),s=(ofG 17 (kAv a b []),[])/\jF a M b=some d) ?_ (m:=N) ⟨_,rfl,g2⟩
  rintro M s ⟨b,rfl,g2⟩
  cases M with
  |zero=>simp only[jF]at g2;cases g2
  |succ M=>
   rw[jF]at g2
   refine sq ?_
   refine sh fol (kAv a b [(7,.bool (decide (b<(a.length:Int))))]) ?_
   refine ihD g2 (fun g g2=>?_) (fun g g2=>?_)
   ·refine Goes.skip ?_
    refine sq (Goes.block ?_)
    obtain⟨f,c,g2⟩:=bnd g2
    refine sq (gr fol [2] (kAv a b (kA3 (decide ((f.toNat:Int)=47)))) (ac (hs (.done (.opt (qaR ZT 9 (.str a) (.i b))) (.int .u8 (f.toNat:Int))) (qet st9 c)) az) ?_)
    refine ihD g2 (fun j g2=>?_) (fun j g2=>?_)
    ·refine sh fol [(2,.i b)] ?_
     refine Goes.ret ?_
     obtain rfl:=si g2
     exact Or.inr (⟨rfl,_,rfl,(gw2 [.i b] (Ua tI))⟩)
    refine Goes.skip ?_
    refine gh fol (kAv a (w64 (b+1)) []) ?_
    exact⟨M,(ofG 17 (kAv a (w64 (b+1)) []),[]),Nat.lt_succ_self _,(Sub.refl _),_,rfl,g2⟩
   refine Goes.exit ?_
   obtain rfl:=si g2
   exact Or.inl (⟨rfl,rfl,(Sub.keep [0] rfl rfl)⟩)
 rintro x s' (⟨rfl,rfl,hsub⟩|⟨rfl,k,rfl,hret⟩)
 ·try dsimp only at h
  refine Goes.sub hsub ?_
  refine sh fol [(2,.i (a.length:Int))] ?_
  refine Goes.ret ?_
  obtain rfl:=si h
  exact(gw2 [.i (a.length:Int)] (Ua tI))
 try dsimp only at h
 obtain rfl:=si h
 exact hret
def xX (N:Nat) (a:Str):Option Str:=
 (yo N a).bind fun b=>
 (cut a 0 b).bind fun c=>
 some c
theorem qce (N:Nat) (a:Str) {res:Str} (h:xX N a=some res):qc ZT (.fn 48) [.str a] [] (.str res) []:=by
 unfold xX at h
 refine Ub Tryz.func48 rfl rfl (m:=7) rfl (rs:=[.tmp 2]) rfl (l:=(kAm a)) rfl ?_
 refine sh fol (kAm a) ?_
 obtain⟨e,b,h⟩:=bnd h
 obtain⟨d,c,h⟩:=bnd h
 refine sq (gr fol [2,3] [(2,.str d)] (ac (cv (xY N a b)) (ac (hs (.done (.opt (ja ZT 28 (.str a) none (some (.i e)) none)) (.str d)) (qac st28 none (some e) c)) az)) ?_)
 refine Goes.ret ?_
 obtain rfl:=si h
 exact(gw2 [.str d] (Ua tS))
def qbk (a:Str):Option Int:=
 if(a==[48])=true then
 some 0
 else
 (if(a.length:Int)>0 then
 (idx a 0).bind fun b=>
 some (decide ((b.toNat:Int)=45))
 else
 some false:Option Bool).bind fun c=>
 if c=true then
 some (-1)
 else
 some 1
theorem qgl (a:Str) {res:Int} (h:qbk a=some res):qc ZT (.fn 150) [.str a] [] (.i res) []:=by
 unfold qbk at h
 refine Ub Tryz.func150 rfl rfl (m:=13) rfl (rs:=[.tmp 2]) rfl (l:=(kAm a)) rfl ?_
 refine sh fol (kAm a) ?_
 refine sq ?_
 refine sh fol ((0,.str a)::(kAq (a==[48]))) ?_
 refine ihB h (fun f h=>?_) (fun f h=>?_)
 ·refine sh fol [(2,.i 0)] ?_
  refine Goes.ret ?_
  obtain rfl:=si h
  exact(gw2 [.i 0] (Ua tI))
 refine Goes.skip ?_
 refine sq ?_
 refine sq ?_
 obtain⟨g,b,h⟩:=bnd h
 refine Goes.cut (s':=(ofG 13 [(12,.bool g)],[])) ?_ ?_
 ·rcases wyD b with⟨d,b⟩|⟨d,b⟩
  ·obtain⟨e,c,b⟩:=bnd b
   obtain rfl:=si b
   exact tr fol [3,5] [(12,.bool (decide ((e.toNat:Int)=45)))] (ac (gw d) (ac (hs (.done (.opt (qaR ZT 28 (.str a) (.i 0))) (.int .u8 (e.toNat:Int))) (qet st28 c)) az))
  obtain rfl:=si b
  exact tr fol [3] [(12,.bool false)] (ac (gw d) az)
 refine ihB h (fun j h=>?_) (fun j h=>?_)
 ·refine sh fol [(2,.i (-1))] ?_
  refine Goes.ret ?_
  obtain rfl:=si h
  exact(gw2 [.i (-1)] (Ua tI))
 refine Goes.skip ?_
 refine sh fol [(2,.i 1)] ?_
 refine Goes.ret ?_
 obtain rfl:=si h
 exact(gw2 [.i 1] (Ua tI))
def qbO (a:Str):Option Str:=
 (qbk a).bind fun b=>
 if b<0 then
 (cut a 1 (a.length:Int)).bind fun c=>
 some c
 else
 some a
theorem qdS (a:Str) {res:Str} (h:qbO a=some res):qc ZT (.fn 95) [.str a] [] (.str res) []:=by
 unfold qbO at h
 refine Ub Tryz.func95 rfl rfl (m:=9) rfl (rs:=[.tmp 2]) rfl (l:=(kAm a)) rfl ?_
 refine sh fol (kAm a) ?_
 refine sq ?_
 obtain⟨e,b,h⟩:=bnd h
 refine sq (gr fol [1] [(0,.str a),(5,.bool (decide (e<0)))] (ac (cv (qgl a b)) az) ?_)
 refine ihD h (fun f h=>?_) (fun f h=>?_)
 ·obtain⟨d,c,h⟩:=bnd h
  refine sq (gr fol [1] [(2,.str d)] (ac (hs (.done (.opt (ja ZT 28 (.str a) (some (.i 1)) none none)) (.str d)) (qac st28 (some 1) none c)) az) ?_)
  refine Goes.ret ?_
  obtain rfl:=si h
  exact(gw2 [.str d] (Ua tS))
 refine Goes.skip ?_
 refine sh fol [(2,.str a)] ?_
 refine Goes.ret ?_
 obtain rfl:=si h
 exact(gw2 [.str a] (Ua tS))
def qbN (N:Nat) (a:Str):Option Str:=
 (yo N a).bind fun b=>
 if b=(a.length:Int)then
 some [49]
 else
 (cut a (w64 (b+1)) (a.length:Int)).bind fun c=>
 some c
theorem qgX (N:Nat) (a:Str) {res:Str} (h:qbN N a=some res):qc ZT (.fn 96) [.str a] [] (.str res) []:=by
 unfold qbN at h
 refine Ub Tryz.func96 rfl rfl (m:=14) rfl (rs:=[.tmp 2]) rfl (l:=(kAm a)) rfl ?_
 refine sh fol (kAm a) ?_
 obtain⟨b,c,h⟩:=bnd h
 refine sq (gr fol [1] (kAv a b []) (ac (cv (xY N a c)) az) ?_)
 refine sq ?_
 refine sh fol (kAv a b [(9,.bool (decide (b=(a.length:Int))))]) ?_
 refine ihD h (fun f h=>?_) (fun f h=>?_)
 ·refine sh fol [(2,.str [49])] ?_
  refine Goes.ret ?_
  obtain rfl:=si h
  exact(gw2 [.str [49]] (Ua tS))
 refine Goes.skip ?_
 obtain⟨e,d,h⟩:=bnd h
 refine sq (gr fol [3] [(2,.str e)] (ac (hs (.done (.opt (ja ZT 28 (.str a) (some (.i (w64 (b+1)))) none none)) (.str e)) (qac st28 (some (w64 (b+1))) none d)) az) ?_)
 refine Goes.ret ?_
 obtain rfl:=si h
 exact(gw2 [.str e] (Ua tS))
def qaG (N:Nat) (a:Str):Option Int:=
 ((xX N a).bind fun b=>
 (qbO b).bind fun c=>
 if(c.length:Int)>600 then
 some true
 else
 (qbN N a).bind fun d=>
 some (decide ((d.length:Int)>600)):Option Bool).bind fun e=>
 if e=true then
 some 4
 else
 some 0
theorem qf9 (N:Nat) (a:Str) {res:Int} (h:qaG N a=some res):qc ZT (.fn 46) [.str a] [] (.i res) []:=by
 unfold qaG at h
 refine Ub Tryz.func46 rfl rfl (m:=14) rfl (rs:=[.tmp 2]) rfl (l:=(kAm a)) rfl ?_
 refine sh fol (kAm a) ?_
 refine sq ?_
 refine sq ?_
 obtain⟨j,b,h⟩:=bnd h
 refine Goes.cut (s':=(ofG 14 (kA3 j),[])) ?_ ?_
 ·obtain⟨g,c,b⟩:=bnd b
  obtain⟨o,d,b⟩:=bnd b
  rcases wyD b with⟨f,b⟩|⟨f,b⟩
  ·obtain rfl:=si b
   exact tr fol [1,2,5] [(13,.bool true)] (ac (cv (qce N a c)) (ac (cv (qdS g d)) (ac (gw f) az)))
  obtain⟨k,e,b⟩:=bnd b
  obtain rfl:=si b
  exact tr fol [1,2,5,7] (kA3 (decide ((k.length:Int)>600))) (ac (cv (qce N a c)) (ac (cv (qdS g d)) (ac (gw f) (ac (cv (qgX N a e)) az))))
 refine ihB h (fun n h=>?_) (fun n h=>?_)
 ·refine sh fol [(2,.i 4)] ?_
  refine Goes.ret ?_
  obtain rfl:=si h
  exact(gw2 [.i 4] (Ua tI))
 refine Goes.skip ?_
 refine sh fol [(2,.i 0)] ?_
 refine Goes.ret ?_
 obtain rfl:=si h
 exact(gw2 [.i 0] (Ua tI))
def xW (N:Nat) (a:Str) (e:Int) (bad:Int) (want:Str):Option Bool:=
 ((if bad=0 then
 (qaG N want).bind fun d=>
 some d
 else
 some bad:Option Int)).bind fun c=>
 if(!decide (c=0))=true then
 (if(a==[])=true then
 some (decide (e=c))
 else
 some false:Option Bool).bind fun f=>
 some f
 else
 (if e=0 then
 some (a==want)
 else
 some false:Option Bool).bind fun b=>
 some b
theorem qa1 (N:Nat) (a:Str) (e:Int) (bad:Int) (want:Str) {res:Bool} (h:xW N a e bad want=some res):qc ZT (.fn 10) [.str a,.i e,.i bad,.str want] [] (.bool res) []:=by
 unfold xW at h
 refine Ub Tryz.func10 rfl rfl (m:=29) rfl (rs:=[.tmp 8]) rfl (l:=(kAu a e bad want [])) rfl ?_
 refine sh fol (kAu a e bad want []) ?_
 refine sq ?_
 refine sh fol (kAu a e bad want [(10,.bool (decide (bad=0)))]) ?_
 obtain⟨o,g2,h⟩:=bnd h
 refine Goes.imp (Q:=fun x s'=>(x= .normal/\ ∃d,d=o/\Sub s' (ofG 29 (kAu a e d want []),[]))) ?_ ?_
 ·refine ihD g2 (fun p g2=>?_) (fun p g2=>?_)
  ·obtain⟨q,f,g2⟩:=bnd g2
   refine gr fol [1] (kAu a e q want []) (ac (cv (qf9 N want f)) az) ?_
   obtain rfl:=si g2
   exact⟨rfl,_,rfl,(Sub.refl _)⟩
  refine Goes.skip ?_
  obtain rfl:=si g2
  exact⟨rfl,_,rfl,(Sub.keep [0,1,2,3] rfl rfl)⟩
 rintro x s' ⟨rfl,d,rfl,hsub⟩
 refine Goes.sub hsub ?_
 refine sq ?_
 refine sh fol (kAu a e d want [(14,.bool (!decide (d=0)))]) ?_
 refine ihB h (fun r h=>?_) (fun r h=>?_)
 ·refine sq ?_
  obtain⟨n,c,h⟩:=bnd h
  refine Goes.cut (s':=(ofG 29 (kA1 n),[])) ?_ ?_
  ·rcases wyB c with⟨j,c⟩|⟨j,c⟩
   ·obtain rfl:=si c
    exact tr fol [2] (kA1 (decide (e=d))) (ac (gw j) az)
   obtain rfl:=si c
   exact tr fol [2] [(8,.bool false)] (ac (gw j) az)
  refine Goes.ret ?_
  obtain rfl:=si h
  exact(gw2 [.bool n] (Ua tB))
 refine Goes.skip ?_
 refine sq ?_
 obtain⟨g,b,h⟩:=bnd h
 refine Goes.cut (s':=(ofG 29 (kA1 g),[])) ?_ ?_
 ·rcases wyD b with⟨k,b⟩|⟨k,b⟩
  ·obtain rfl:=si b
   exact tr fol [2] (kA1 (a==want)) (ac (gw k) az)
  obtain rfl:=si b
  exact tr fol [2] [(8,.bool false)] (ac (gw k) az)
 refine Goes.ret ?_
 obtain rfl:=si h
 exact(gw2 [.bool g] (Ua tB))
def zP (a:List Int) (b:List Int):Nat->Int->Option (Unit⊕Bool)
 |0,_=>none
 |K+1,c=>
  if c<(a.length:Int)then
  (idx a c).bind fun d=>
  (idx b c).bind fun e=>
  if(!decide (d=e))=true then
  some (.inr false)
  else
  zP a b K (w64 (c+1))
  else
  some (.inl ())
def vR (N:Nat) (a:List Int) (b:List Int):Option Bool:=
 if(!decide ((a.length:Int)=(b.length:Int)))=true then
 some false
 else
 (zP a b N 0).bind (fun
 |(.inl ())=>
 some true
 |(.inr c)=>
 some c)
theorem qbp (N:Nat) (a:List Int) (b:List Int) {res:Bool} (h:vR N a b=some res):qc ZT (.fn 18) (kA4 a b) [] (.bool res) []:=by
 unfold vR at h
 refine Ub Tryz.func18 rfl rfl (m:=26) rfl (rs:=[.tmp 4]) rfl (l:=(kI a b [])) rfl ?_
 refine sh fol (kI a b []) ?_
 refine sq ?_
 refine sh fol (kI a b [(10,.bool (!decide ((a.length:Int)=(b.length:Int))))]) ?_
 refine ihB h (fun j h=>?_) (fun j h=>?_)
 ·refine sh fol kAU ?_
  refine Goes.ret ?_
  obtain rfl:=si h
  exact(gw2 [.bool false] (Ua tB))
 refine Goes.skip ?_
 refine sq ?_
 refine sh fol (kI a b [(5,.i 0)]) ?_
 refine Goes.block ?_
 obtain⟨f,g3,h⟩:=bnd h
 refine Goes.imp (Q:=fun x s'=>(x= .exit 0/\(.inl ())=f/\Sub s' (ofG 26 [],[]))\/(x= .ret/\ ∃g,(.inr g)=f/\vJ ZT [.tmp 4] (.bool g) .ret s')) ?_ ?_
 ·refine Uc (fun M s=> ∃(c:Int),s=(ofG 26 (kI a b (kAl c)),[])/\zP a b M c=some f) ?_ (m:=N) ⟨_,rfl,g3⟩
  rintro M s ⟨c,rfl,g3⟩
  cases M with
  |zero=>simp only[zP]at g3;cases g3
  |succ M=>
   rw[zP]at g3
   refine sq ?_
   refine sh fol (kI a b [(5,.i c),(14,.bool (decide (c<(a.length:Int))))]) ?_
   refine ihD g3 (fun k g3=>?_) (fun k g3=>?_)
   ·refine Goes.skip ?_
    refine sq (Goes.block ?_)
    obtain⟨n,d,g3⟩:=bnd g3
    obtain⟨o,e,g3⟩:=bnd g3
    refine sq (gr fol [2,3,6,7] (kI a b [(5,.i c),(25,.bool (!decide (n=o)))]) (ac (iv zw encI d) (ac (lv 0 ce3 encI d rfl) (ac (iv zw encI e) (ac (lv 0 ce3 encI e rfl) az)))) ?_)
    refine ihB g3 (fun p g3=>?_) (fun p g3=>?_)
    ·refine sh fol kAU ?_
     refine Goes.ret ?_
     obtain rfl:=si g3
     exact Or.inr (⟨rfl,_,rfl,(gw2 [.bool false] (Ua tB))⟩)
    refine Goes.skip ?_
    refine gh fol (kI a b (kAl (w64 (c+1)))) ?_
    exact⟨M,(ofG 26 (kI a b (kAl (w64 (c+1)))),[]),Nat.lt_succ_self _,(Sub.refl _),_,rfl,g3⟩
   refine Goes.exit ?_
   obtain rfl:=si g3
   exact Or.inl (⟨rfl,rfl,(Sub.keep [] rfl rfl)⟩)
 rintro x s' (⟨rfl,rfl,hsub⟩|⟨rfl,q,rfl,hret⟩)
 ·try dsimp only at h
  refine Goes.sub hsub ?_
  refine sh fol [(4,.bool true)] ?_
  refine Goes.ret ?_
  obtain rfl:=si h
  exact(gw2 [.bool true] (Ua tB))
 try dsimp only at h
 obtain rfl:=si h
 exact hret
def xk (N:Nat) (a:List Int) (e:Int) (bad:Int) (want:List Int):Option Bool:=
 if(!decide (bad=0))=true then
 (if(a.length:Int)=0 then
 some (decide (e=bad))
 else
 some false:Option Bool).bind fun b=>
 some b
 else
 (if e=0 then
 (vR N a want).bind fun c=>
 some c
 else
 some false:Option Bool).bind fun d=>
 some d
theorem qdA (N:Nat) (a:List Int) (e:Int) (bad:Int) (want:List Int) {res:Bool} (h:xk N a e bad want=some res):qc ZT (.fn 11) [vl encI a,.i e,.i bad,vl encI want] [] (.bool res) []:=by
 unfold xk at h
 refine Ub Tryz.func11 rfl rfl (m:=26) rfl (rs:=[.tmp 8]) rfl (l:=(kO a [(1,.i e),(2,.i bad),(3,vl encI want)])) rfl ?_
 refine sh fol (kO a [(1,.i e),(2,.i bad),(3,vl encI want)]) ?_
 refine sq ?_
 refine sh fol (kO a [(1,.i e),(2,.i bad),(3,vl encI want),(10,.bool (!decide (bad=0)))]) ?_
 refine ihB h (fun n h=>?_) (fun n h=>?_)
 ·refine sq ?_
  obtain⟨j,c,h⟩:=bnd h
  refine Goes.cut (s':=(ofG 26 (kA1 j),[])) ?_ ?_
  ·rcases wyD c with⟨f,c⟩|⟨f,c⟩
   ·obtain rfl:=si c
    exact tr fol [3] (kA1 (decide (e=bad))) (ac (gw f) az)
   obtain rfl:=si c
   exact tr fol [3] [(8,.bool false)] (ac (gw f) az)
  refine Goes.ret ?_
  obtain rfl:=si h
  exact(gw2 [.bool j] (Ua tB))
 refine Goes.skip ?_
 refine sq ?_
 obtain⟨k,b,h⟩:=bnd h
 refine Goes.cut (s':=(ofG 26 (kA1 k),[])) ?_ ?_
 ·rcases wyD b with⟨g,b⟩|⟨g,b⟩
  ·obtain⟨o,d,b⟩:=bnd b
   obtain rfl:=si b
   exact tr fol [2,5] (kA1 o) (ac (gw g) (ac (cv (qbp N a want d)) az))
  obtain rfl:=si b
  exact tr fol [2] [(8,.bool false)] (ac (gw g) az)
 refine Goes.ret ?_
 obtain rfl:=si h
 exact(gw2 [.bool k] (Ua tB))
def zN (N:Nat) (a:List (List Int)) (b:List (List Int)):Nat->Int->Option (Unit⊕Bool)
 |0,_=>none
 |K+1,c=>
  if c<(a.length:Int)then
  (idx a c).bind fun d=>
  (idx b c).bind fun e=>
  (vR N d e).bind fun f=>
  if(!f)=true then
  some (.inr false)
  else
  zN N a b K (w64 (c+1))
  else
  some (.inl ())
def yF (N:Nat) (a:List (List Int)) (b:List (List Int)):Option Bool:=
 if(!decide ((a.length:Int)=(b.length:Int)))=true then
 some false
 else
 (zN N a b N 0).bind (fun
 |(.inl ())=>
 some true
 |(.inr c)=>
 some c)
theorem xK (N:Nat) (a:List (List Int)) (b:List (List Int)) {res:Bool} (h:yF N a b=some res):qc ZT (.fn 12) [vl (qp encI) a,vl (qp encI) b] [] (.bool res) []:=by
 unfold yF at h
 refine Ub Tryz.func12 rfl rfl (m:=27) rfl (rs:=[.tmp 4]) rfl (l:=[(0,vl (qp encI) a),(1,vl (qp encI) b)]) rfl ?_
 refine sh fol [(0,vl (qp encI) a),(1,vl (qp encI) b)] ?_
 refine sq ?_
 refine sh fol [(0,vl (qp encI) a),(1,vl (qp encI) b),(10,.bool (!decide ((a.length:Int)=(b.length:Int))))] ?_
 refine ihB h (fun k h=>?_) (fun k h=>?_)
 ·refine sh fol kAU ?_
  refine Goes.ret ?_
  obtain rfl:=si h
  exact(gw2 [.bool false] (Ua tB))
 refine Goes.skip ?_
 refine sq ?_
 refine sh fol [(0,vl (qp encI) a),(1,vl (qp encI) b),(5,.i 0)] ?_
 refine Goes.block ?_
 obtain⟨g,g3,h⟩:=bnd h
 refine Goes.imp (Q:=fun x s'=>(x= .exit 0/\(.inl ())=g/\Sub s' (ofG 27 [],[]))\/(x= .ret/\ ∃j,(.inr j)=g/\vJ ZT [.tmp 4] (.bool j) .ret s')) ?_ ?_
 ·refine Uc (fun M s=> ∃(c:Int),s=(ofG 27 ((0,vl (qp encI) a)::(1,vl (qp encI) b)::(kAl c)),[])/\zN N a b M c=some g) ?_ (m:=N) ⟨_,rfl,g3⟩
  rintro M s ⟨c,rfl,g3⟩
  cases M with
  |zero=>simp only[zN]at g3;cases g3
  |succ M=>
   rw[zN]at g3
   refine sq ?_
   refine sh fol [(0,vl (qp encI) a),(1,vl (qp encI) b),(5,.i c),(14,.bool (decide (c<(a.length:Int))))] ?_
   refine ihD g3 (fun n g3=>?_) (fun n g3=>?_)
   ·refine Goes.skip ?_
    refine sq (Goes.block ?_)
    obtain⟨o,d,g3⟩:=bnd g3
    obtain⟨p,e,g3⟩:=bnd g3
    obtain⟨q,f,g3⟩:=bnd g3
    refine sq (gr fol [2,3,6,7,8] [(0,vl (qp encI) a),(1,vl (qp encI) b),(5,.i c),(26,.bool (!q))] (ac (iv qgi (qp encI) d) (ac (lv 0 qhG (qp encI) d rfl) (ac (iv qgi (qp encI) e) (ac (lv 0 qhG (qp encI) e rfl) (ac (cv (qbp N o p f)) az))))) ?_)
    refine ihB g3 (fun r g3=>?_) (fun r g3=>?_)
    ·refine sh fol kAU ?_
     refine Goes.ret ?_
     obtain rfl:=si g3
     exact Or.inr (⟨rfl,_,rfl,(gw2 [.bool false] (Ua tB))⟩)
    refine Goes.skip ?_
    refine gh fol ((0,vl (qp encI) a)::(1,vl (qp encI) b)::(kAl (w64 (c+1)))) ?_
    exact⟨M,(ofG 27 ((0,vl (qp encI) a)::(1,vl (qp encI) b)::(kAl (w64 (c+1)))),[]),Nat.lt_succ_self _,(Sub.refl _),_,rfl,g3⟩
   refine Goes.exit ?_
   obtain rfl:=si g3
   exact Or.inl (⟨rfl,rfl,(Sub.keep [] rfl rfl)⟩)
 rintro x s' (⟨rfl,rfl,hsub⟩|⟨rfl,t,rfl,hret⟩)
 ·try dsimp only at h
  refine Goes.sub hsub ?_
  refine sh fol [(4,.bool true)] ?_
  refine Goes.ret ?_
  obtain rfl:=si h
  exact(gw2 [.bool true] (Ua tB))
 try dsimp only at h
 obtain rfl:=si h
 exact hret
def zn (p:List Int):Nat->(List Bool)->(List Int)->Int->Option ((List Bool)×(List Int))
 |0,_,_,_=>none
 |K+1,b,c,a=>
  (idx b a).bind fun d=>
  if(!d)=true then
  (put b a true).bind fun e=>
  (app 8 c [a]).bind fun f=>
  (idx p a).bind fun g=>
  zn p K e f g
  else
  some (b,c)
def jL (N:Nat) (p:List Int):Nat->(List (List Int))->(List Bool)->Int->Option (List (List Int))
 |0,_,_,_=>none
 |K+1,c,f,d=>
  if d<(p.length:Int)then
  (((zn p N f ([]:List Int) d).bind fun(a,b)=>
  if(b.length:Int)>0 then
  (app 24 c [b]).bind fun e=>
  some (e,a)
  else
  some (c,a):Option ((List (List Int))×(List Bool)))).bind fun(g,h)=>
  jL N p K g h (w64 (d+1))
  else
  some c
def yA (N:Nat) (p:List Int):Option (List (List Int)):=
 (mk 1 (p.length:Int) false).bind fun a=>
 (jL N p N ([]:List (List Int)) a 0).bind fun b=>
 some b
theorem yH (N:Nat) (p:List Int) {res:List (List Int)} (h:yA N p=some res):qc ZT (.fn 13) [vl encI p] [] (vl (qp encI) res) []:=by
 unfold yA at h
 refine Ub Tryz.func13 rfl rfl (m:=42) rfl (rs:=[.tmp 2]) rfl (l:=(kO p [])) rfl ?_
 refine sh fol (kO p []) ?_
 refine sh fol (kO p [(3,.nilslice)]) ?_
 obtain⟨t,F,h⟩:=bnd h
 refine sq (gq fol [2] (kO p ((3,.nilslice)::(kAt t []))) (kR t []) (ac (hs (.run [] (kw ZT 45 (.i (p.length:Int)) (.i (p.length:Int))) [] (.slice 0 0 t.length t.length 1) (kR t []) false) (qaA qkP (E:=qeR) (z:=false) rfl (by kernel_rfl) F rfl)) az) ?_)
 refine sq ?_
 refine sh fol (kO p ((3,.nilslice)::(kAt t [(5,.i 0)]))) ?_
 refine Goes.block ?_
 obtain⟨O,g6,h⟩:=bnd h
 refine Goes.imp (Q:=fun x s'=>(x= .exit 0/\ ∃D,D=O/\Sub s' (ofG 42 [(3,.gslice 0 D.length 1)],[.cells (D.flatMap (qp encI).c)]))) ?_ ?_
 ·refine Goes.sub (s':=(ofG 42 (kO p [(3,.gslice 0 ([]:List (List Int)).length 1),(4,.slice 1 0 t.length t.length 1),(5,.i 0)]),(.cells (([]:List (List Int)).flatMap (qp encI).c)::(kR t [])))) (Sub.norm [] [none,some 0] rfl rfl (.keep (.same (qd encI _)) (.keep .nil (.keep (.slice rfl) (.keep (.same nI) .nil)))) (.fresh (.ks .nil))) ?_
  refine Uc (fun M s=> ∃(a:List (List Int)) (u:List Bool) (f:Int),s=(ofG 42 (kH p a u f []),(.cells (a.flatMap (qp encI).c)::(kR u [])))/\jL N p M a u f=some O) ?_ (m:=N) ⟨_,_,_,rfl,g6⟩
  rintro M s ⟨a,u,f,rfl,g6⟩
  cases M with
  |zero=>simp only[jL]at g6;cases g6
  |succ M=>
   rw[jL]at g6
   refine sq ?_
   refine sh fol (kH p a u f [(14,.bool (decide (f<(p.length:Int))))]) ?_
   refine ihD g6 (fun P g6=>?_) (fun P g6=>?_)
   ·refine Goes.skip ?_
    refine sq ?_
    obtain⟨J,g10,g6⟩:=bnd g6
    refine Goes.imp (Q:=fun x s'=>(x= .normal/\ ∃w A,(w,A)=J/\Sub s' (ofG 42 (kH p w A f []),(.cells (w.flatMap (qp encI).c)::(kR A []))))) ?_ ?_
    ·refine Goes.block ?_
     refine sh fol (kH p a u f [(6,.nilslice)]) ?_
     refine sq ?_
     refine sh fol (kH p a u f [(6,.nilslice),(7,.i f)]) ?_
     refine Goes.block ?_
     obtain⟨G,g16,g10⟩:=bnd g10
     refine Goes.imp (Q:=fun x s'=>(x= .exit 2/\ ∃g j,(g,j)=G/\Sub s' (ofG 42 (kH p a g f (kAd j [])),(.cells (a.flatMap (qp encI).c)::(kR g (kB j [])))))) ?_ ?_
     ·refine Goes.sub (s':=(ofG 42 (kH p a u f [(6,.gslice 2 ([]:List Int).length 1),(7,.i f)]),(.cells (a.flatMap (qp encI).c)::(kR u kA5)))) (Sub.norm [] [some 0,some 1,none] rfl rfl (.keep (.same (qd encI _)) (.keep (.gslice rfl) (.keep (.slice rfl) (.keep (.same nI) (.keep .nil (.keep (.same nI) .nil)))))) (.ks (.ks (.fresh .nil)))) ?_
      refine Uc (fun M s=> ∃(e:List Bool) (b:List Int) (d:Int),s=(ofG 42 (kH p a e f (kAd b [(7,.i d)])),(.cells (a.flatMap (qp encI).c)::(kR e (kB b []))))/\zn p M e b d=some G) ?_ (m:=N) ⟨_,_,_,rfl,g16⟩
      rintro M s ⟨e,b,d,rfl,g16⟩
      cases M with
      |zero=>simp only[zn]at g16;cases g16
      |succ M=>
       rw[zn]at g16
       refine sq ?_
       obtain⟨H,n,g16⟩:=bnd g16
       refine sq (gr fol [2,3] (kH p a e f (kAd b [(7,.i d),(22,.bool (!H))])) (ac (hs (.done (.opt (qf ZT 45 (.slice 1 0 e.length e.length 1) (.i d))) (.ptr 1 ((d:Int).toNat*1+0))) (vO qkP n)) (ac (hs (.run [1] (zC ZT 4 (.ptr 1 ((d:Int).toNat*1+0))) (.cells (a.flatMap (qp encI).c)::(kR e (kB b []))) (.bool H) (.cells (a.flatMap (qp encI).c)::(kR e (kB b []))) false) (qaF ce4 (E:=qeR) (l:=e) rfl rfl n (nl rfl) rfl)) az)) ?_)
       refine ihB g16 (fun K g16=>?_) (fun K g16=>?_)
       ·refine Goes.skip ?_
        refine sq (Goes.block ?_)
        obtain⟨k,q,g16⟩:=bnd g16
        refine sq (gq fol [2,3] (kH p a e f (kAd b [(7,.i d)])) (.cells (a.flatMap (qp encI).c)::(kR k (kB b []))) (ac (hs (.done (.opt (qf ZT 45 (.slice 1 0 e.length e.length 1) (.i d))) (.ptr 1 ((d:Int).toNat*1+0))) (vO qkP n)) (ac (hs (.run [1] (qw ZT 4 (.ptr 1 ((d:Int).toNat*1+0)) (.bool true)) (.cells (a.flatMap (qp encI).c)::(kR e (kB b []))) .undef (.cells (a.flatMap (qp encI).c)::(kR k (kB b []))) true) (yh (E:=qeR) (l:=e) (y:=true) rfl (show _=some 1 by kernel_rfl) rfl n rfl rfl rfl rfl rfl q rfl)) az)) ?_)
        refine Goes.sub (show Sub (ofG 42 (kH p a e f (kAd b [(7,.i d)])),(.cells (a.flatMap (qp encI).c)::(kR k (kB b [])))) (ofG 42 (kH p a k f (kAd b [(7,.i d)])),(.cells (a.flatMap (qp encI).c)::(kR k (kB b []))))from(Sub.norm [] [some 0,some 1,some 2] rfl rfl (.keep (.same (qd encI _)) (.keep (.gslice rfl) (.keep (.sliceE rfl (zS q)) (.keep (.same nI) (.keep (.gslice rfl) (.keep (.same nI) .nil)))))) (.ks (.ks (.ks .nil))))) ?_
        obtain⟨o,B,g16⟩:=bnd g16
        refine gq fol [3] (kH p a k f [(6,.gslice 4 o.length 1),(7,.i d)]) (.cells (a.flatMap (qp encI).c)::(kR k (kAo d (kB o [])))) (ac (hs (.run [2,3] (vP ZT [22,22] (.gslice 2 b.length 1) (.slice 3 0 1 1 1)) (.cells (a.flatMap (qp encI).c)::(kR k (kB b [.cells [.i d]]))) (.gslice 4 o.length 1) (.cells (a.flatMap (qp encI).c)::(kR k (kAo d (kB o [])))) true) (qaB zw (E:=encI) rfl (qd4 (E:=encI) (ys:=[d]) rfl rfl rfl rfl) (qfl (E:=encI) (l:=b) rfl rfl rfl B rfl))) az) ?_
        obtain⟨I,r,g16⟩:=bnd g16
        refine gr fol [2,3] (kH p a k f [(6,.gslice 4 o.length 1),(7,.i I)]) (ac (iv zw encI r) (ac (lv 0 ce3 encI r rfl) az)) ?_
        exact⟨M,(ofG 42 (kH p a k f (kAd o [(7,.i I)])),(.cells (a.flatMap (qp encI).c)::(kR k (kB o [])))),Nat.lt_succ_self _,(Sub.norm [] [some 0,some 1,some 4] rfl rfl (.keep (.same (qd encI _)) (.keep (.gslice rfl) (.keep (.slice rfl) (.keep (.same nI) (.keep (.gslice rfl) (.keep (.same nI) .nil)))))) (.ks (.ks (.ks .nil)))),_,_,_,rfl,g16⟩
       refine Goes.exit ?_
       obtain rfl:=si g16
       exact⟨rfl,_,_,rfl,(Sub.keep [0,3,4,5,6] rfl rfl)⟩
     rintro x s' ⟨rfl,g,j,rfl,hsub⟩
     try dsimp only at g10
     refine Goes.sub hsub ?_
     refine sh fol (kH p a g f (kAd j [(36,.bool (decide ((j.length:Int)>0)))])) ?_
     refine ihD g10 (fun L g10=>?_) (fun L g10=>?_)
     ·refine Goes.sub (s':=(ofG 42 (kH p a g f [(6,vl encI j),(36,.bool (decide ((j.length:Int)>0)))]),(.cells (a.flatMap (qp encI).c)::(kR g [])))) (Sub.norm [2] [some 0,some 1] rfl rfl (.keep (.same (qd encI _)) (.keep (.gslice rfl) (.keep (.slice rfl) (.keep (.same nI) (.keep (.frz (Fz.gs (E:=encI) rfl rfl (nl rfl)) (qd encI _)) (.keep (.same nB) .nil)))))) (.ks (.ks .nil))) ?_
      obtain⟨v,C,g10⟩:=bnd g10
      refine gq fol [3] (kO p ((3,.gslice 3 v.length 1)::(4,.slice 1 0 g.length g.length 1)::(kAl f))) (.dead::(kR g (kA6 j [.cells (v.flatMap (qp encI).c)]))) (ac (hs (.run [0,2] (vP ZT [24,24] (.gslice 0 a.length 1) (.slice 2 0 1 1 1)) (.cells (a.flatMap (qp encI).c)::(kR g (kA6 j []))) (.gslice 3 v.length 1) (.dead::(kR g (kA6 j [.cells (v.flatMap (qp encI).c)]))) true) (qaB qgi (E:=(qp encI)) rfl (qd4 (E:=(qp encI)) (ys:=[j]) rfl rfl rfl rfl) (qfl (E:=(qp encI)) (l:=a) rfl rfl rfl C rfl))) az) ?_
      obtain rfl:=si g10
      exact⟨rfl,_,_,rfl,(Sub.norm [] [some 3,some 1] rfl rfl (.keep (.same (qd encI _)) (.keep (.gslice rfl) (.keep (.slice rfl) (.keep (.same nI) .nil)))) (.ks (.ks .nil)))⟩
     refine Goes.skip ?_
     obtain rfl:=si g10
     exact⟨rfl,_,_,rfl,(Sub.norm [] [some 0,some 1] rfl rfl (.keep (.same (qd encI _)) (.keep (.gslice rfl) (.keep (.slice rfl) (.keep (.same nI) .nil)))) (.ks (.ks .nil)))⟩
    rintro x s' ⟨rfl,w,A,rfl,hsub⟩
    try dsimp only at g6
    refine Goes.sub hsub ?_
    refine gh fol (kH p w A (w64 (f+1)) []) ?_
    exact⟨M,(ofG 42 (kH p w A (w64 (f+1)) []),(.cells (w.flatMap (qp encI).c)::(kR A []))),Nat.lt_succ_self _,(Sub.refl _),_,_,_,rfl,g6⟩
   refine Goes.exit ?_
   obtain rfl:=si g6
   exact⟨rfl,_,rfl,(Sub.norm [] [some 0] rfl rfl (.drop (.keep (.gslice rfl) .nil)) (.ks .nil))⟩
 rintro x s' ⟨rfl,D,rfl,hsub⟩
 refine Goes.sub hsub ?_
 refine sh fol [(2,.gslice 0 D.length 1)] ?_
 refine Goes.ret ?_
 obtain rfl:=si h
 exact(gw2 [.gslice 0 D.length 1] (FzW.fz (Fz.gs (E:=(qp encI)) rfl rfl (nl rfl))))
def qI (least:Int):Nat->Int->Str->Option Str
 |0,_,_=>none
 |K+1,a,b=>
  (if a>0 then
  some true
  else
  some (decide ((b.length:Int)<least)):Option Bool).bind fun d=>
  if d=true then
  (cut [48,49,50,51,52,53,54,55,56,57] (a.tmod 10) (w64 ((a.tmod 10)+1))).bind fun e=>
  (cat e b).bind fun c=>
  qI least K (w64 (a.tdiv 10)) c
  else
  some b
def zm (N:Nat) (n:Int) (least:Int):Option Str:=
 (qI least N n []).bind fun a=>
 some a
theorem xu (N:Nat) (n:Int) (least:Int) {res:Str} (h:zm N n least=some res):qc ZT (.fn 104) [.i n,.i least] [] (.str res) []:=by
 unfold zm at h
 refine Ub Tryz.func104 rfl rfl (m:=25) rfl (rs:=[.tmp 4]) rfl (l:=(kAE n least [])) rfl ?_
 refine sh fol (kAE n least []) ?_
 refine sh fol (kAE n least [(5,.str [])]) ?_
 refine sq (Goes.block ?_)
 obtain⟨k,g4,h⟩:=bnd h
 refine Goes.imp (Q:=fun x s'=>(x= .exit 0/\ ∃f,f=k/\Sub s' (ofG 25 [(5,.str f)],[]))) ?_ ?_
 ·refine Uc (fun M s=> ∃(b:Int) (d:Str),s=(ofG 25 (kAE b least [(5,.str d)]),[])/\qI least M b d=some k) ?_ (m:=N) ⟨_,_,rfl,g4⟩
  rintro M s ⟨b,d,rfl,g4⟩
  cases M with
  |zero=>simp only[qI]at g4;cases g4
  |succ M=>
   rw[qI]at g4
   refine sq ?_
   refine sq ?_
   obtain⟨p,a,g4⟩:=bnd g4
   refine Goes.cut (s':=(ofG 25 (kAE b least ((5,.str d)::(kA3 p))),[])) ?_ ?_
   ·rcases wyD a with⟨j,a⟩|⟨j,a⟩
    ·obtain rfl:=si a
     exact tr fol [2] (kAE b least [(5,.str d),(13,.bool true)]) (ac (gw j) az)
    obtain rfl:=si a
    exact tr fol [2] (kAE b least ((5,.str d)::(kA3 (decide ((d.length:Int)<least))))) (ac (gw j) az)
   refine ihB g4 (fun q g4=>?_) (fun q g4=>?_)
   ·refine Goes.skip ?_
    refine Goes.block ?_
    obtain⟨o,g,g4⟩:=bnd g4
    obtain⟨c,e,g4⟩:=bnd g4
    refine sq (gr fol [5,7] (kAE b least [(5,.str c)]) (ac (hs (.done (.opt (ja ZT 9 (.str [48,49,50,51,52,53,54,55,56,57]) (some (.i (b.tmod 10))) (some (.i (w64 ((b.tmod 10)+1)))) none)) (.str o)) (qac st9 (some (b.tmod 10)) (some (w64 ((b.tmod 10)+1))) g)) (ac (hs (.done (.opt (qO ZT .add 9 (.tmp 19) (.tmp 20) (.str o) (.str d))) (.str c)) (qaq e)) az)) ?_)
    refine gh fol (kAE (w64 (b.tdiv 10)) least [(5,.str c)]) ?_
    exact⟨M,(ofG 25 (kAE (w64 (b.tdiv 10)) least [(5,.str c)]),[]),Nat.lt_succ_self _,(Sub.refl _),_,_,rfl,g4⟩
   refine Goes.exit ?_
   obtain rfl:=si g4
   exact⟨rfl,_,rfl,(Sub.keep [5] rfl rfl)⟩
 rintro x s' ⟨rfl,f,rfl,hsub⟩
 refine Goes.sub hsub ?_
 refine sh fol [(4,.str f)] ?_
 refine Goes.ret ?_
 obtain rfl:=si h
 exact(gw2 [.str f] (Ua tS))
def jT (N:Nat) (a:qL):Nat->Str->Int->Option Str
 |0,_,_=>none
 |K+1,e,b=>
  if b>=0 then
  (idx a.w b).bind fun f=>
  (zm N f 9).bind fun c=>
  (cat e c).bind fun d=>
  jT N a K d (w64 (b-1))
  else
  some e
def xI (N:Nat) (a:qL):Option Str:=
 if(a.w.length:Int)=0 then
 some [48]
 else
 (idx a.w (w64 ((a.w.length:Int)-1))).bind fun d=>
 (zm N d 1).bind fun e=>
 (jT N a N e (w64 ((a.w.length:Int)-2))).bind fun c=>
 if a.neg=true then
 (cat [45] c).bind fun b=>
 some b
 else
 some c
theorem qby (N:Nat) (a:qL) {res:Str} (h:xI N a=some res):qc ZT (.fn 52) [.agg (kAW a.neg a.w)] [] (.str res) []:=by
 unfold xI at h
 refine Ub Tryz.func52 rfl rfl (m:=39) rfl (rs:=[.tmp 2]) rfl (l:=[(0,.agg [.bool a.neg,vl encI a.w])]) rfl ?_
 refine sg fol (kAM []) (kQ a.neg a.w []) ?_
 refine sq ?_
 refine sh fol (kAM (kA1 (decide ((a.w.length:Int)=0)))) ?_
 refine ihD h (fun v h=>?_) (fun v h=>?_)
 ·refine sh fol [(2,.str [48])] ?_
  refine Goes.ret ?_
  obtain rfl:=si h
  exact(gw2 [.str [48]] (Ua tS))
 refine Goes.skip ?_
 obtain⟨y,c,h⟩:=bnd h
 obtain⟨t,o,h⟩:=bnd h
 refine sq (gr fol [6,7,8] (kAM [(3,.str t)]) (ac (iv zw encI c) (ac (lv 0 ce3 encI c rfl) (ac (cv (xu N y 1 o)) az))) ?_)
 refine sq ?_
 refine sh fol (kAM [(3,.str t),(4,.i (w64 ((a.w.length:Int)-2)))]) ?_
 refine Goes.block ?_
 obtain⟨u,g7,h⟩:=bnd h
 refine Goes.imp (Q:=fun x s'=>(x= .exit 0/\ ∃f,f=u/\Sub s' (ofG 39 (kAM [(3,.str f)]),(kQ a.neg a.w [])))) ?_ ?_
 ·refine Uc (fun M s=> ∃(p:Str) (d:Int),s=(ofG 39 (kAM [(3,.str p),(4,.i d)]),(kQ a.neg a.w []))/\jT N a M p d=some u) ?_ (m:=N) ⟨_,_,rfl,g7⟩
  rintro M s ⟨p,d,rfl,g7⟩
  cases M with
  |zero=>simp only[jT]at g7;cases g7
  |succ M=>
   rw[jT]at g7
   refine sq ?_
   refine sh fol (kAM [(3,.str p),(4,.i d),(23,.bool (decide (d>=0)))]) ?_
   refine ihD g7 (fun z g7=>?_) (fun z g7=>?_)
   ·refine Goes.skip ?_
    refine sq (Goes.block ?_)
    obtain⟨A,e,g7⟩:=bnd g7
    obtain⟨q,g,g7⟩:=bnd g7
    obtain⟨b,j,g7⟩:=bnd g7
    refine gr fol [4,5,6,7] (kAM [(3,.str b),(4,.i d)]) (ac (iv zw encI e) (ac (lv 0 ce3 encI e rfl) (ac (cv (xu N A 9 g)) (ac (hs (.done (.opt (qO ZT .add 9 (.tmp 26) (.tmp 32) (.str p) (.str q))) (.str b)) (qaq j)) az)))) ?_
    refine gh fol (kAM [(3,.str b),(4,.i (w64 (d-1)))]) ?_
    exact⟨M,(ofG 39 (kAM [(3,.str b),(4,.i (w64 (d-1)))]),(kQ a.neg a.w [])),Nat.lt_succ_self _,(Sub.refl _),_,_,rfl,g7⟩
   refine Goes.exit ?_
   obtain rfl:=si g7
   exact⟨rfl,_,rfl,(Sub.keep [1,3] rfl rfl)⟩
 rintro x s' ⟨rfl,f,rfl,hsub⟩
 refine Goes.sub hsub ?_
 refine sq ?_
 refine sh fol [(3,.str f),(35,.bool a.neg)] ?_
 refine ihB h (fun r h=>?_) (fun r h=>?_)
 ·obtain⟨k,n,h⟩:=bnd h
  refine sq (gr fol [1] [(2,.str k)] (ac (hs (.done (.opt (qO ZT .add 9 (.const (.string ⟨#[45]⟩)) (.tmp 36) (.str [45]) (.str f))) (.str k)) (qaq n)) az) ?_)
  refine Goes.ret ?_
  obtain rfl:=si h
  exact(gw2 [.str k] (Ua tS))
 refine Goes.skip ?_
 refine sh fol [(2,.str f)] ?_
 refine Goes.ret ?_
 obtain rfl:=si h
 exact(gw2 [.str f] (Ua tS))
def vN:Nat->(List Int)->Option (List Int)
 |0,_=>none
 |K+1,a=>
  (if(a.length:Int)>0 then
  (idx a (w64 ((a.length:Int)-1))).bind fun b=>
  some (decide (b=0))
  else
  some false:Option Bool).bind fun c=>
  if c=true then
  (cut a 0 (w64 ((a.length:Int)-1))).bind fun d=>
  vN K d
  else
  some a
def vM (N:Nat) (w:List Int):Option (List Int):=
 (vN N w).bind fun a=>
 some a
theorem yM (N:Nat) (w:List Int) {res:List Int} (h:vM N w=some res):qc ZT (.fn 158) [vl encI w] [] (vl encI res) []:=by
 unfold vM at h
 refine Ub Tryz.func158 rfl rfl (m:=21) rfl (rs:=[.tmp 2]) rfl (l:=(kO w [])) rfl ?_
 refine sh fol (kO w []) ?_
 refine sq (Goes.block ?_)
 obtain⟨j,g3,h⟩:=bnd h
 refine Goes.imp (Q:=fun x s'=>(x= .exit 0/\ ∃d,d=j/\Sub s' (ofG 21 (kO d []),[]))) ?_ ?_
 ·refine Uc (fun M s=> ∃(b:List Int),s=(ofG 21 (kO b []),[])/\vN M b=some j) ?_ (m:=N) ⟨_,rfl,g3⟩
  rintro M s ⟨b,rfl,g3⟩
  cases M with
  |zero=>simp only[vN]at g3;cases g3
  |succ M=>
   rw[vN]at g3
   refine sq ?_
   refine sq ?_
   obtain⟨k,a,g3⟩:=bnd g3
   refine Goes.cut (s':=(ofG 21 (kO b [(14,.bool k)]),[])) ?_ ?_
   ·rcases wyD a with⟨f,a⟩|⟨f,a⟩
    ·obtain⟨n,c,a⟩:=bnd a
     obtain rfl:=si a
     exact tr fol [3,8,9] (kO b [(14,.bool (decide (n=0)))]) (ac (gw f) (ac (iv zw encI c) (ac (lv 0 ce3 encI c rfl) az)))
    obtain rfl:=si a
    exact tr fol [3] (kO b [(14,.bool false)]) (ac (gw f) az)
   refine ihB g3 (fun o g3=>?_) (fun o g3=>?_)
   ·refine Goes.skip ?_
    refine Goes.block ?_
    obtain⟨g,e,g3⟩:=bnd g3
    refine gr fol [4] (kO g []) (ac (hs (.done (.opt (ja ZT 22 (vl encI b) none (some (.i (w64 ((b.length:Int)-1)))) none)) (vl encI g)) (qjy zw (E:=encI) rfl none (some (w64 ((b.length:Int)-1))) e)) az) ?_
    exact⟨M,(ofG 21 (kO g []),[]),Nat.lt_succ_self _,(Sub.refl _),_,rfl,g3⟩
   refine Goes.exit ?_
   obtain rfl:=si g3
   exact⟨rfl,_,rfl,(Sub.keep [0] rfl rfl)⟩
 rintro x s' ⟨rfl,d,rfl,hsub⟩
 refine Goes.sub hsub ?_
 refine sh fol [(2,vl encI d)] ?_
 refine Goes.ret ?_
 obtain rfl:=si h
 exact(gw2 [vl encI d] (Ua (qy encI _ (nl rfl))))
def jk (N:Nat) (neg:Bool) (w:List Int):Option qL:=
 (vM N w).bind fun a=>
 (if neg=true then
 some (decide ((a.length:Int)>0))
 else
 some false:Option Bool).bind fun b=>
 some (⟨b,a⟩:qL)
theorem vD (N:Nat) (neg:Bool) (w:List Int) {res:qL} (h:jk N neg w=some res):qc ZT (.fn 105) (kAW neg w) [] (.agg (kAW res.neg res.w)) []:=by
 unfold jk at h
 refine Ub Tryz.func105 rfl rfl (m:=15) rfl (rs:=[.cell 4 91]) rfl (l:=[(0,.bool neg),(1,vl encI w)]) rfl ?_
 refine sg fol ((0,.bool neg)::(1,vl encI w)::(kAZ [])) (kM []) ?_
 obtain⟨b,c,h⟩:=bnd h
 refine sq (gr fol [1] ((0,.bool neg)::(1,vl encI b)::(kAZ [])) (ac (cv (yM N w c)) az) ?_)
 refine sq ?_
 obtain⟨e,a,h⟩:=bnd h
 refine Goes.cut (s':=(ofG 15 (kAZ []),(kQ e b []))) ?_ ?_
 ·rcases wyB a with⟨d,a⟩|⟨d,a⟩
  ·obtain rfl:=si a
   exact yL.rq fol [1] (kAZ []) (kQ (decide ((b.length:Int)>0)) b []) (ac (gw d) az)
  obtain rfl:=si a
  exact yL.rq fol [1] (kAZ []) [.cells [.bool false,vl encI b]] (ac (gw d) az)
 refine Goes.ret ?_
 obtain rfl:=si h
 exact(gw2 [.agg (kAW e b)] (FzW.agg (qg.cons (Ua tB) (qg.cons (Ua (qy encI _ (nl rfl))) qg.nil))))
def zI:Nat->(List Int)->Int->Option (List Int)
 |0,_,_=>none
 |K+1,b,a=>
  if(!decide (a=0))=true then
  ((if(a.tmod 1000000000)<0 then
  some (w64 (0-(a.tmod 1000000000)))
  else
  some (a.tmod 1000000000):Option Int)).bind fun c=>
  (app 8 b [c]).bind fun d=>
  zI K d (w64 (a.tdiv 1000000000))
  else
  some b
def jX (N:Nat) (n:Int):Option qL:=
 (zI N ([]:List Int) n).bind fun b=>
 (jk N (decide (n<0)) b).bind fun a=>
 some a
theorem qan (N:Nat) (n:Int) {res:qL} (h:jX N n=some res):qc ZT (.fn 53) [.i n] [] (.agg (kAW res.neg res.w)) []:=by
 unfold jX at h
 refine Ub Tryz.func53 rfl rfl (m:=25) rfl (rs:=[.cell 2 91]) rfl (l:=[(0,.i n)]) rfl ?_
 refine sg fol ((0,.i n)::(kAA [])) (kM []) ?_
 refine sh fol ((0,.i n)::(kAA [(3,.nilslice)])) ?_
 refine sh fol ((0,.i n)::(kAA ((3,.nilslice)::(kAq (decide (n<0)))))) ?_
 refine sq (Goes.block ?_)
 obtain⟨k,g4,h⟩:=bnd h
 refine Goes.imp (Q:=fun x s'=>(x= .exit 0/\ ∃d,d=k/\Sub s' (ofG 25 (kAA (kAT d (decide (n<0)) [])),(kM (kB d []))))) ?_ ?_
 ·refine Goes.sub (s':=(ofG 25 ((0,.i n)::(kAA ((3,.gslice 1 ([]:List Int).length 1)::(kAq (decide (n<0)))))),(kM kA5))) (Sub.norm [] [some 0,none] rfl rfl (.keep (.same nI) (.kp (.keep .nil (.keep (.same nB) .nil)))) (.kb rfl (.same sn) (.fresh .nil))) ?_
  refine Uc (fun M s=> ∃(c:List Int) (b:Int),s=(ofG 25 ((0,.i b)::(kAA (kAT c (decide (n<0)) []))),(kM (kB c [])))/\zI M c b=some k) ?_ (m:=N) ⟨_,_,rfl,g4⟩
  rintro M s ⟨c,b,rfl,g4⟩
  cases M with
  |zero=>simp only[zI]at g4;cases g4
  |succ M=>
   rw[zI]at g4
   refine sq ?_
   refine sh fol ((0,.i b)::(kAA (kAT c (decide (n<0)) [(9,.bool (!decide (b=0)))]))) ?_
   refine ihB g4 (fun o g4=>?_) (fun o g4=>?_)
   ·refine Goes.skip ?_
    refine Goes.block ?_
    refine sh fol ((0,.i b)::(kAA (kAT c (decide (n<0)) (kAl (b.tmod 1000000000))))) ?_
    refine sq ?_
    refine sh fol ((0,.i b)::(kAA (kAT c (decide (n<0)) ((5,.i (b.tmod 1000000000))::(kA3 (decide ((b.tmod 1000000000)<0))))))) ?_
    obtain⟨p,g7,g4⟩:=bnd g4
    refine Goes.imp (Q:=fun x s'=>(x= .normal/\ ∃e,e=p/\Sub s' (ofG 25 ((0,.i b)::(kAA (kAT c (decide (n<0)) (kAl e)))),(kM (kB c []))))) ?_ ?_
    ·refine ihD g7 (fun q g7=>?_) (fun q g7=>?_)
     ·refine gh fol ((0,.i b)::(kAA (kAT c (decide (n<0)) (kAl (w64 (0-(b.tmod 1000000000))))))) ?_
      obtain rfl:=si g7
      exact⟨rfl,_,rfl,(Sub.refl _)⟩
     refine Goes.skip ?_
     obtain rfl:=si g7
     exact⟨rfl,_,rfl,(Sub.keep [0,2,3,4,5] rfl rfl)⟩
    rintro x s' ⟨rfl,e,rfl,hsub⟩
    refine Goes.sub hsub ?_
    obtain⟨f,j,g4⟩:=bnd g4
    refine sq (gq fol [3] ((0,.i b)::(kAA ((3,.gslice 3 f.length 1)::(kAq (decide (n<0)))))) (kM (kAo e (kB f []))) (ac (hs (.run [1,2] (vP ZT [22,22] (.gslice 1 c.length 1) (.slice 2 0 1 1 1)) (kM (kB c [.cells [.i e]])) (.gslice 3 f.length 1) (kM (kAo e (kB f []))) true) (qaB zw (E:=encI) rfl (qd4 (E:=encI) (ys:=[e]) rfl rfl rfl rfl) (qfl (E:=encI) (l:=c) rfl rfl rfl j rfl))) az) ?_)
    refine gh fol ((0,.i (w64 (b.tdiv 1000000000)))::(kAA ((3,.gslice 3 f.length 1)::(kAq (decide (n<0)))))) ?_
    exact⟨M,(ofG 25 ((0,.i (w64 (b.tdiv 1000000000)))::(kAA (kAT f (decide (n<0)) []))),(kM (kB f []))),Nat.lt_succ_self _,(Sub.norm [] [some 0,some 3] rfl rfl (.keep (.same nI) (.kp (.keep (.gslice rfl) (.keep (.same nB) .nil)))) (.kb rfl (.same sn) (.ks .nil))),_,_,rfl,g4⟩
   refine Goes.exit ?_
   obtain rfl:=si g4
   exact⟨rfl,_,rfl,(Sub.keep [2,3,4] rfl rfl)⟩
 rintro x s' ⟨rfl,d,rfl,hsub⟩
 refine Goes.sub hsub ?_
 obtain⟨a,g,h⟩:=bnd h
 refine sq (gq fol [2] (kAA []) (kQ a.neg a.w (kAR d)) (ac (hs (.callF 105 [.bool (decide (n<0)),.gslice 1 d.length 1] (kM (kB d [])) [1] (kAW (decide (n<0)) d) (.agg (kAW a.neg a.w))) (qam (FzL.cons (Fz.still tB) (FzL.cons (Fz.gs (E:=encI) rfl rfl (nl rfl)) FzL.nil)) (vD N (decide (n<0)) d g) (Still.agg (AllST.cons tB (AllST.cons (qy encI _ (nl rfl)) AllST.nil))))) az) ?_)
 refine Goes.sub (show Sub (ofG 25 (kAA []),(kQ a.neg a.w (kAR d))) (ofG 25 (kAA []),(kQ a.neg a.w []))from(Sub.norm [] [some 0] rfl rfl (.kp .nil) (.kb rfl (.same sn) .nil))) ?_
 refine Goes.ret ?_
 obtain rfl:=si h
 exact(gw2 [.agg (kAW a.neg a.w)] (FzW.agg (qg.cons (Ua tB) (qg.cons (Ua (qy encI _ (nl rfl))) qg.nil))))
def xA (N:Nat) (n:Int):Option Str:=
 (jX N n).bind fun a=>
 (xI N a).bind fun b=>
 some b
theorem qeB (N:Nat) (n:Int) {res:Str} (h:xA N n=some res):qc ZT (.fn 21) [.i n] [] (.str res) []:=by
 unfold xA at h
 refine Ub Tryz.func21 rfl rfl (m:=6) rfl (rs:=[.tmp 2]) rfl (l:=[(0,.i n)]) rfl ?_
 refine sh fol [(0,.i n)] ?_
 obtain⟨d,a,h⟩:=bnd h
 obtain⟨c,b,h⟩:=bnd h
 refine sq (gr fol [1,2] [(2,.str c)] (ac (cv (qan N n a)) (ac (cv (qby N d b)) az)) ?_)
 refine Goes.ret ?_
 obtain rfl:=si h
 exact(gw2 [.str c] (Ua tS))
end Go.Av
