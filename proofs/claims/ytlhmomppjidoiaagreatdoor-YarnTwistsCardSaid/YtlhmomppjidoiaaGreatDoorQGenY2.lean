/-
  Walks of functions: what each computes, as a plain function.
-/
import Derived.Test.YtlhmomppjidoiaaGreatDoorQGenY1
noncomputable section
namespace Go.Av
open Go.Proofs Go.RowKit
set_option linter.unusedSectionVars false
set_option linter.unusedVariables false
set_option linter.unusedSimpArgs false
set_option maxRecDepth 100000
def jc (N:Nat) (a:ql) (b:ql):Option (ql×ql):=
 (if a.w.isEmpty=true then
 if b.w.isEmpty=true then
 some (!decide (a.s=(-9223372036854775808)))
 else
 some false
 else
 some false:Option Bool).bind fun r=>
 if r=true then
 (qbT .i64 a.s b.s).bind fun q=>
 (qdQ .i64 a.s b.s).bind fun i=>
 ((if i<0 then
 some (w64 (q-1),w64 (i+b.s))
 else
 some (q,i):Option (Int×Int))).bind fun(t,u)=>
 some ((⟨t,[]⟩:ql),(⟨u,[]⟩:ql))
 else
 (qE a).bind fun d=>
 (qE b).bind fun j=>
 (qaF N d.2 j.2).bind fun f=>
 (jU d.1 f.1).bind fun e=>
 (jU d.1 f.2).bind fun c=>
 (kg c).bind fun k=>
 ((if k<0 then
 (qbW 1).bind fun l=>
 (yU N e l).bind fun g=>
 (jS N c b).bind fun h=>
 some (g.s,g.w,h.s,h.w)
 else
 some (e.s,e.w,c.s,c.w):Option (Int×(List Int)×Int×(List Int)))).bind fun(m,n,o,p)=>
 some ((⟨m,n⟩:ql),(⟨o,p⟩:ql))
theorem qci (N:Nat) (a:ql) (b:ql) {res:ql×ql} (h:jc N a b=some res):qb ZT (.fn 186) [.agg (nz1 a),.agg (nz1 b)] [] (.tuple [.agg (nz1 res.1),.agg (nz1 res.2)]) []:=by
 unfold jc at h
 refine Ub Tryz.func186 rfl rfl (m:=84) rfl (rs:=[.cell 4 105,.cell 5 105]) rfl (l:=[(0,.agg (nz1 a)),(1,.agg (nz1 b))]) rfl ?_
 refine sg fol (kE (kBW [])) [.cells (nz1 a),.cells (nz1 b),bZ,bZ] ?_
 refine sq ?_
 refine sq ?_
 obtain⟨b3,c,h⟩:=bnd h
 refine Goes.cut (s':=(ofG 84 (kE (kBW [(28,.bool b3)])),[.cells (nz1 a),.cells (nz1 b),bZ,bZ])) ?_ ?_
 ·rcases wyB c with⟨L,c⟩|⟨L,c⟩
  ·rcases wyB c with⟨O,c⟩|⟨O,c⟩
   ·obtain rfl:=si c
    exact tr fol [2,3,6,8] (kE (kBW [(28,.bool (!decide (a.s=(-9223372036854775808))))])) (ac (hs (.done (.opt (qZ ZT .eql 103 (.tmp 17) (.const (.slice none 0 0)) (nvl (qa .u64) a.w) .nilslice)) (.bool a.w.isEmpty)) (qat yc)) (ac (gw L) (ac (hs (.done (.opt (qZ ZT .eql 103 (.tmp 21) (.const (.slice none 0 0)) (nvl (qa .u64) b.w) .nilslice)) (.bool b.w.isEmpty)) (qat yc)) (ac (gw O) az))))
   obtain rfl:=si c
   exact tr fol [2,3,6,8] (kE (kBW [(28,.bool false)])) (ac (hs (.done (.opt (qZ ZT .eql 103 (.tmp 17) (.const (.slice none 0 0)) (nvl (qa .u64) a.w) .nilslice)) (.bool a.w.isEmpty)) (qat yc)) (ac (gw L) (ac (hs (.done (.opt (qZ ZT .eql 103 (.tmp 21) (.const (.slice none 0 0)) (nvl (qa .u64) b.w) .nilslice)) (.bool b.w.isEmpty)) (qat yc)) (ac (gw O) az))))
  obtain rfl:=si c
  exact tr fol [2,3] (kE (kBW [(28,.bool false)])) (ac (hs (.done (.opt (qZ ZT .eql 103 (.tmp 17) (.const (.slice none 0 0)) (nvl (qa .u64) a.w) .nilslice)) (.bool a.w.isEmpty)) (qat yc)) (ac (gw L) az))
 refine ihB h (fun c5 h=>?_) (fun c5 h=>?_)
 ·obtain⟨M,F,h⟩:=bnd h
  obtain⟨G,H,h⟩:=bnd h
  refine sq (gr fol [4,9] (kAZ (kAS (kBW (kAA M G [])))) (ac (hs (.done (.opt (qZ ZT .quo 3 (.tmp 30) (.tmp 32) (.i a.s) (.i b.s))) (.i M)) (qbJ F)) (ac (hs (.done (.opt (qZ ZT .rem 3 (.tmp 35) (.tmp 37) (.i a.s) (.i b.s))) (.i G)) (qe3 H)) az)) ?_)
  refine sq ?_
  refine sh fol (kAZ (kAS (kBW (kAA M G [(40,.bool (decide (G<0)))])))) ?_
  obtain⟨P,g10,h⟩:=bnd h
  refine Goes.imp (Q:=fun x s'=>(x= .normal/\ ∃I J,(I,J)=P/\Sub s' (ofG 84 (kAP (kBL (kAA I J []))),[bZ,bZ]))) ?_ ?_
  ·refine ihD g10 (fun U g10=>?_) (fun U g10=>?_)
   ·refine gh fol (kAS (kBW (kAA (w64 (M-1)) (w64 (G+b.s)) []))) ?_
    obtain rfl:=si g10
    exact⟨rfl,_,_,rfl,(Sub.norm [] [some 2,some 3] rfl rfl (.kp (.kp (.keep (.same nI) (.keep (.same nI) .nil)))) (.kb rfl (.same sn) (.kb rfl (.same sn) .nil)))⟩
   refine Goes.skip ?_
   obtain rfl:=si g10
   exact⟨rfl,_,_,rfl,(Sub.norm [] [some 2,some 3] rfl rfl (.drop (.kp (.kp (.keep (.same nI) (.keep (.same nI) .nil))))) (.kb rfl (.same sn) (.kb rfl (.same sn) .nil)))⟩
  rintro x s' ⟨rfl,I,J,rfl,hsub⟩
  try dsimp only at h
  refine Goes.sub hsub ?_
  refine sg fol (kAP (kBL [])) (.cells [.i I,.nilslice]::(kBC J)) ?_
  refine Goes.ret ?_
  obtain rfl:=si h
  exact(gw2 [.agg [.i I,.nilslice],.agg [.i J,.nilslice]] (FzW.tuple (qd.cons (FzW.agg (qd.cons (Ua tI) (qd.cons (FzW.nv0 (E:=(qa .u64))) qd.nil))) (qd.cons (FzW.agg (qd.cons (Ua tI) (qd.cons (FzW.nv0 (E:=(qa .u64))) qd.nil))) qd.nil))))
 refine Goes.skip ?_
 obtain⟨j,r,h⟩:=bnd h
 refine sq (gr fol [1] (kAZ (kAS (kBW [(8,.bool j.1),(9,vl (qa .u64) j.2)]))) (ac (cv (zF a r)) az) ?_)
 obtain⟨K,t,h⟩:=bnd h
 refine sq (gr fol [1] (kAZ (kAS (kBW [(8,.bool j.1),(9,vl (qa .u64) j.2),(11,vl (qa .u64) K.2)]))) (ac (cv (zF b t)) az) ?_)
 obtain⟨q,u,h⟩:=bnd h
 refine sq (gr fol [2] (kAZ (kAS (kBW [(8,.bool j.1),(12,vl (qa .u64) q.1),(13,vl (qa .u64) q.2)]))) (ac (cv (qeC N j.2 K.2 u)) az) ?_)
 obtain⟨o,v,h⟩:=bnd h
 obtain⟨k,y,h⟩:=bnd h
 refine sq (gq fol [2,5,8,9] (kAZ (kAS (kBW [(14,.ptr 4 0),(15,.ptr 5 0)]))) [.cells (nz1 a),.cells (nz1 b),bZ,bZ,.cells (nz1 o),.cells (nz1 k)] (ac (cv (xJ j.1 q.1 v)) (ac (cv (xJ j.1 q.2 y)) (ac (hs (.run [4] (qy ZT 105 (.ptr 4 0) (.agg (nz1 o))) [.cells (nz1 a),.cells (nz1 b),bZ,bZ,bZ,bZ] .undef [.cells (nz1 a),.cells (nz1 b),bZ,bZ,.cells (nz1 o),bZ] true) (zk (n:=2) (by kernel_rfl) rfl rfl rfl rfl (cac rfl (cac nvc can)) rfl)) (ac (hs (.run [5] (qy ZT 105 (.ptr 5 0) (.agg (nz1 k))) [.cells (nz1 a),.cells (nz1 b),bZ,bZ,.cells (nz1 o),bZ] .undef [.cells (nz1 a),.cells (nz1 b),bZ,bZ,.cells (nz1 o),.cells (nz1 k)] true) (zk (n:=2) (by kernel_rfl) rfl rfl rfl rfl (cac rfl (cac nvc can)) rfl)) az)))) ?_)
 refine sq ?_
 obtain⟨V,z,h⟩:=bnd h
 refine sq (gr fol [1] (kAZ (kAS (kBW [(14,.ptr 4 0),(15,.ptr 5 0),(75,.bool (decide (V<0)))]))) (ac (cv (yg k z)) az) ?_)
 obtain⟨X,g22,h⟩:=bnd h
 refine Goes.imp (Q:=fun x s'=>(x= .normal/\ ∃d e f g,(d,e,f,g)=X/\Sub s' (ofG 84 (kAP (kBL [(14,.ptr 2 0),(15,.ptr 3 0)])),[bZ,bZ,.cells (ni1 d e),.cells (ni1 f g)]))) ?_ ?_
 ·refine ihD g22 (fun Y g22=>?_) (fun Y g22=>?_)
  ·obtain⟨Z,A,g22⟩:=bnd g22
   obtain⟨p,B,g22⟩:=bnd g22
   obtain⟨C,D,g22⟩:=bnd g22
   refine gq fol [1,2,5,6,7] (kAS (kBW [(14,.ptr 4 0),(15,.ptr 5 0)])) [.cells (nz1 a),.cells (nz1 b),bZ,bZ,.cells (nz1 p),.cells (nz1 C)] (ac (cv (qbc 1 A)) (ac (cv (qdM N o Z B)) (ac (cv (qab N k b D)) (ac (hs (.run [4] (qy ZT 105 (.ptr 4 0) (.agg (nz1 p))) [.cells (nz1 a),.cells (nz1 b),bZ,bZ,.cells (nz1 o),.cells (nz1 k)] .undef [.cells (nz1 a),.cells (nz1 b),bZ,bZ,.cells (nz1 p),.cells (nz1 k)] true) (zk (n:=2) (by kernel_rfl) rfl rfl rfl rfl (cac rfl (cac nvc can)) rfl)) (ac (hs (.run [5] (qy ZT 105 (.ptr 5 0) (.agg (nz1 C))) [.cells (nz1 a),.cells (nz1 b),bZ,bZ,.cells (nz1 p),.cells (nz1 k)] .undef [.cells (nz1 a),.cells (nz1 b),bZ,bZ,.cells (nz1 p),.cells (nz1 C)] true) (zk (n:=2) (by kernel_rfl) rfl rfl rfl rfl (cac rfl (cac nvc can)) rfl)) az))))) ?_
   obtain rfl:=si g22
   exact⟨rfl,_,_,_,_,rfl,(Sub.norm [] [some 2,some 3,some 4,some 5] rfl rfl (.kp (.kp (.kp (.kp .nil)))) (.kb rfl (.same sn) (.kb rfl (.same sn) (.kb rfl (.same sn) (.kb rfl (.same sn) .nil)))))⟩
  refine Goes.skip ?_
  obtain rfl:=si g22
  exact⟨rfl,_,_,_,_,rfl,(Sub.norm [] [some 2,some 3,some 4,some 5] rfl rfl (.drop (.kp (.kp (.kp (.kp .nil))))) (.kb rfl (.same sn) (.kb rfl (.same sn) (.kb rfl (.same sn) (.kb rfl (.same sn) .nil)))))⟩
 rintro x s' ⟨rfl,d,e,f,g,rfl,hsub⟩
 try dsimp only at h
 refine Goes.sub hsub ?_
 refine sq (gq fol [2,3] (kAP (kBL [])) [.cells (ni1 d e),.cells (ni1 f g),.cells (ni1 d e),.cells (ni1 f g)] (ac (hs (.run [0] (qy ZT 105 (.ptr 0 0) (.agg (ni1 d e))) [bZ,bZ,.cells (ni1 d e),.cells (ni1 f g)] .undef [.cells (ni1 d e),bZ,.cells (ni1 d e),.cells (ni1 f g)] true) (zk (n:=2) (by kernel_rfl) rfl rfl rfl rfl (cac rfl (cac nvc can)) rfl)) (ac (hs (.run [1] (qy ZT 105 (.ptr 1 0) (.agg (ni1 f g))) [.cells (ni1 d e),bZ,.cells (ni1 d e),.cells (ni1 f g)] .undef [.cells (ni1 d e),.cells (ni1 f g),.cells (ni1 d e),.cells (ni1 f g)] true) (zk (n:=2) (by kernel_rfl) rfl rfl rfl rfl (cac rfl (cac nvc can)) rfl)) az)) ?_)
 refine Goes.ret ?_
 obtain rfl:=si h
 exact(gw2 [.agg (ni1 d e),.agg (ni1 f g)] (FzW.tuple (qd.cons (FzW.agg (qd.cons (Ua tI) (qd.cons (Ua (qA (qa .u64) _ (nl rfl))) qd.nil))) (qd.cons (FzW.agg (qd.cons (Ua tI) (qd.cons (Ua (qA (qa .u64) _ (nl rfl))) qd.nil))) qd.nil))))
def vT (N:Nat):Nat->Int->(List Int)->Int->(List Int)->Option (Int×(List Int))
 |0,_,_,_,_=>none
 |K+1,e,f,b,c=>
  (kg (⟨b,c⟩:ql)).bind fun d=>
  if(!decide (d=0))=true then
  (jc N (⟨e,f⟩:ql) (⟨b,c⟩:ql)).bind fun a=>
  vT N K b c a.2.s a.2.w
  else
  some (e,f)
def qcm (N:Nat) (a:ql) (b:ql):Option ql:=
 (qaK a).bind fun c=>
 (qaK b).bind fun d=>
 (vT N N c.s c.w d.s d.w).bind fun(e,f)=>
 some (⟨e,f⟩:ql)
theorem qg0 (N:Nat) (a:ql) (b:ql) {res:ql} (h:qcm N a b=some res):qb ZT (.fn 125) [.agg (nz1 a),.agg (nz1 b)] [] (.agg (nz1 res)) []:=by
 unfold qcm at h
 refine Ub Tryz.func125 rfl rfl (m:=23) rfl (rs:=[.cell 4 105]) rfl (l:=[(0,.agg (nz1 a)),(1,.agg (nz1 b))]) rfl ?_
 refine sg fol (kE []) [.cells (nz1 a),.cells (nz1 b),bZ] ?_
 obtain⟨p,q,h⟩:=bnd h
 obtain⟨t,r,h⟩:=bnd h
 refine sq (gq fol [1,3,4,5] (kE []) [.cells (nz1 p),.cells (nz1 t),bZ] (ac (cv (qea a q)) (ac (cv (qea b r)) (ac (hs (.run [0] (qy ZT 105 (.ptr 0 0) (.agg (nz1 p))) [.cells (nz1 a),.cells (nz1 b),bZ] .undef [.cells (nz1 p),.cells (nz1 b),bZ] true) (zk (n:=2) (by kernel_rfl) rfl rfl rfl rfl (cac rfl (cac nvc can)) rfl)) (ac (hs (.run [1] (qy ZT 105 (.ptr 1 0) (.agg (nz1 t))) [.cells (nz1 p),.cells (nz1 b),bZ] .undef [.cells (nz1 p),.cells (nz1 t),bZ] true) (zk (n:=2) (by kernel_rfl) rfl rfl rfl rfl (cac rfl (cac nvc can)) rfl)) az)))) ?_)
 refine sq (Goes.block ?_)
 obtain⟨w,g9,h⟩:=bnd h
 refine Goes.imp (Q:=fun x s'=>(x= .exit 0/\ ∃f g,(f,g)=w/\Sub s' (ofG 23 (kM (kAb [])),[.cells (ni1 f g),bZ]))) ?_ ?_
 ·refine Uc (fun M s=> ∃(i:Int) (j:List Int) (d:Int) (e:List Int),s=(ofG 23 (kE []),[.cells (ni1 i j),.cells (ni1 d e),bZ])/\vT N M i j d e=some w) ?_ (m:=N) ⟨_,_,_,_,rfl,g9⟩
  rintro M s ⟨i,j,d,e,rfl,g9⟩
  cases M with
  |zero=>simp only[vT]at g9;cases g9
  |succ M=>
   rw[vT]at g9
   refine sq ?_
   obtain⟨u,k,g9⟩:=bnd g9
   refine sq (gr fol [1] (kE (kBE (!decide (u=0)))) (ac (cv (yg (⟨d,e⟩:ql) k)) az) ?_)
   refine ihB g9 (fun v g9=>?_) (fun v g9=>?_)
   ·refine Goes.skip ?_
    refine Goes.block ?_
    obtain⟨c,o,g9⟩:=bnd g9
    refine sq (gq fol [2,8,9] (kE [(6,.ptr 4 0)]) [.cells (ni1 i j),.cells (ni1 d e),bZ,.cells (nz1 c.1),.cells (nz1 c.2)] (ac (cv (qci N (⟨i,j⟩:ql) (⟨d,e⟩:ql) o)) (ac (hs (.run [3] (qy ZT 105 (.ptr 3 0) (.agg (nz1 c.1))) [.cells (ni1 i j),.cells (ni1 d e),bZ,bZ,bZ] .undef [.cells (ni1 i j),.cells (ni1 d e),bZ,.cells (nz1 c.1),bZ] true) (zk (n:=2) (by kernel_rfl) rfl rfl rfl rfl (cac rfl (cac nvc can)) rfl)) (ac (hs (.run [4] (qy ZT 105 (.ptr 4 0) (.agg (nz1 c.2))) [.cells (ni1 i j),.cells (ni1 d e),bZ,.cells (nz1 c.1),bZ] .undef [.cells (ni1 i j),.cells (ni1 d e),bZ,.cells (nz1 c.1),.cells (nz1 c.2)] true) (zk (n:=2) (by kernel_rfl) rfl rfl rfl rfl (cac rfl (cac nvc can)) rfl)) az))) ?_)
    refine gq fol [2,3] (kE []) [.cells (ni1 d e),.cells (nz1 c.2),bZ,.cells (nz1 c.1),.cells (nz1 c.2)] (ac (hs (.run [0] (qy ZT 105 (.ptr 0 0) (.agg (ni1 d e))) [.cells (ni1 i j),.cells (ni1 d e),bZ,.cells (nz1 c.1),.cells (nz1 c.2)] .undef [.cells (ni1 d e),.cells (ni1 d e),bZ,.cells (nz1 c.1),.cells (nz1 c.2)] true) (zk (n:=2) (by kernel_rfl) rfl rfl rfl rfl (cac rfl (cac nvc can)) rfl)) (ac (hs (.run [1] (qy ZT 105 (.ptr 1 0) (.agg (nz1 c.2))) [.cells (ni1 d e),.cells (ni1 d e),bZ,.cells (nz1 c.1),.cells (nz1 c.2)] .undef [.cells (ni1 d e),.cells (nz1 c.2),bZ,.cells (nz1 c.1),.cells (nz1 c.2)] true) (zk (n:=2) (by kernel_rfl) rfl rfl rfl rfl (cac rfl (cac nvc can)) rfl)) az)) ?_
    exact⟨M,(ofG 23 (kE []),[.cells (ni1 d e),.cells (nz1 c.2),bZ]),Nat.lt_succ_self _,(Sub.norm [] [some 0,some 1,some 2] rfl rfl (.kp (.kp (.kp .nil))) (.kb rfl (.same sn) (.kb rfl (.same sn) (.kb rfl (.same sn) .nil)))),_,_,_,_,rfl,g9⟩
   refine Goes.exit ?_
   obtain rfl:=si g9
   exact⟨rfl,_,_,rfl,(Sub.norm [] [some 0,some 2] rfl rfl (.kp (.drop (.kp .nil))) (.kb rfl (.same sn) (.kb rfl (.same sn) .nil)))⟩
 rintro x s' ⟨rfl,f,g,rfl,hsub⟩
 try dsimp only at h
 refine Goes.sub hsub ?_
 refine sq (gq fol [1] (kAb []) [.cells (ni1 f g),.cells (ni1 f g)] (ac (hs (.run [1] (qy ZT 105 (.ptr 1 0) (.agg (ni1 f g))) [.cells (ni1 f g),bZ] .undef [.cells (ni1 f g),.cells (ni1 f g)] true) (zk (n:=2) (by kernel_rfl) rfl rfl rfl rfl (cac rfl (cac nvc can)) rfl)) az) ?_)
 refine Goes.ret ?_
 obtain rfl:=si h
 exact(gw2 [.agg (ni1 f g)] (FzW.agg (qd.cons (Ua tI) (qd.cons (Ua (qA (qa .u64) _ (nl rfl))) qd.nil))))
def ji (b:List Int) (l:Int) (g:Int):Nat->(List Int)->Int->Int->Option ((List Int)×Int)
 |0,_,_,_=>none
 |K+1,h,a,c=>
  if a<(b.length:Int)then
  (idx b a).bind fun i=>
  (bits_Mul64 l i).bind fun d=>
  (idx h (w64 (g+a))).bind fun j=>
  (xG d.2 j 0).bind fun e=>
  (xG e.1 c 0).bind fun f=>
  (put h (w64 (g+a)) f.1).bind fun k=>
  ji b l g K k (w64 (a+1)) (IntKind.wrap .u64 ((IntKind.wrap .u64 (d.1+e.2))+f.2))
  else
  some (h,c)
def jh (N:Nat) (a:List Int) (b:List Int):Nat->(List Int)->Int->Option (List Int)
 |0,_,_=>none
 |K+1,g,c=>
  if c<(a.length:Int)then
  (idx a c).bind fun h=>
  (ji b h c N g 0 0).bind fun(d,e)=>
  (idx d (w64 (c+(b.length:Int)))).bind fun i=>
  (put d (w64 (c+(b.length:Int))) e).bind fun f=>
  jh N a b K f (w64 (c+1))
  else
  some g
def qal (N:Nat) (a:List Int) (b:List Int):Option (List Int):=
 (mk 8 (w64 ((a.length:Int)+(b.length:Int))) 0).bind fun d=>
 (jh N a b N d 0).bind fun e=>
 (yP N e).bind fun c=>
 some c
theorem qgl (N:Nat) (a:List Int) (b:List Int) {res:List Int} (h:qal N a b=some res):qb ZT (.fn 202) [vl (qa .u64) a,vl (qa .u64) b] [] (vl (qa .u64) res) []:=by
 unfold qal at h
 refine Ub Tryz.func202 rfl rfl (m:=80) rfl (rs:=[.tmp 4]) rfl (l:=[(0,vl (qa .u64) a),(1,vl (qa .u64) b)]) rfl ?_
 refine sh fol [(0,vl (qa .u64) a),(1,vl (qa .u64) b)] ?_
 obtain⟨L,O,h⟩:=bnd h
 refine sq (gq fol [5] ((0,vl (qa .u64) a)::(1,vl (qa .u64) b)::(kD L [])) [.cells (L.flatMap (qa .u64).c)] (ac (hs (.run [] (z8 ZT 103 (.i (w64 ((a.length:Int)+(b.length:Int)))) (.i (w64 ((a.length:Int)+(b.length:Int))))) [] (.slice 0 0 L.length L.length 1) [.cells (L.flatMap (qa .u64).c)] false) (qdg qK (E:=(qa .u64)) (z:=0) rfl (by kernel_rfl) O rfl)) az) ?_)
 refine sq ?_
 refine sh fol ((1,vl (qa .u64) b)::(kD L [(20,vl (qa .u64) a),(21,.i (a.length:Int)),(22,.i 0)])) ?_
 refine Goes.block ?_
 obtain⟨Y,g5,h⟩:=bnd h
 refine Goes.imp (Q:=fun x s'=>(x= .exit 0/\ ∃u,u=Y/\Sub s' (ofG 80 (kD u []),[.cells (u.flatMap (qa .u64).c)]))) ?_ ?_
 ·refine Uc (fun M s=> ∃(F:List Int) (d:Int),s=(ofG 80 ((1,vl (qa .u64) b)::(kD F ((20,vl (qa .u64) a)::(kAI (a.length:Int) d [])))),[.cells (F.flatMap (qa .u64).c)])/\jh N a b M F d=some Y) ?_ (m:=N) ⟨_,_,rfl,g5⟩
  rintro M s ⟨F,d,rfl,g5⟩
  cases M with
  |zero=>simp only[jh]at g5;cases g5
  |succ M=>
   rw[jh]at g5
   refine sh fol ((1,vl (qa .u64) b)::(kD F ((20,vl (qa .u64) a)::(kAI (a.length:Int) d [(23,.bool (decide (d<(a.length:Int))))])))) ?_
   refine sq ?_
   refine ihD g5 (fun Z g5=>?_) (fun Z g5=>?_)
   ·refine Goes.skip ?_
    refine sq (Goes.block ?_)
    obtain⟨q,G,g5⟩:=bnd g5
    refine sq (gr fol [1,2] ((1,vl (qa .u64) b)::(kD F ((6,.i d)::(kAh q ((20,vl (qa .u64) a)::(kAI (a.length:Int) d [])))))) (ac (iv qK (qa .u64) G) (ac (lv 0 zO (qa .u64) G rfl) az)) ?_)
    refine sh fol ((1,vl (qa .u64) b)::(kD F ((6,.i d)::(kAh q (kBi ((20,vl (qa .u64) a)::(kAI (a.length:Int) d []))))))) ?_
    refine sq ?_
    refine sh fol ((1,vl (qa .u64) b)::(kD F ((6,.i d)::(kAh q (kBi ((20,vl (qa .u64) a)::(kAI (a.length:Int) d [(27,vl (qa .u64) b),(28,.i (b.length:Int)),(29,.i 0)]))))))) ?_
    refine Goes.block ?_
    obtain⟨P,g13,g5⟩:=bnd g5
    refine Goes.imp (Q:=fun x s'=>(x= .exit 2/\ ∃k v,(k,v)=P/\Sub s' (ofG 80 ((1,vl (qa .u64) b)::(kD k ((6,.i d)::(8,.int .u64 v)::(20,vl (qa .u64) a)::(kAI (a.length:Int) d [])))),[.cells (k.flatMap (qa .u64).c)]))) ?_ ?_
    ·refine Uc (fun M s=> ∃(j:List Int) (e:Int) (n:Int),s=(ofG 80 ((1,vl (qa .u64) b)::(kD j ((6,.i d)::(kAD q n ((20,vl (qa .u64) a)::(kAI (a.length:Int) d ((27,vl (qa .u64) b)::(kA8 (b.length:Int) e)))))))),[.cells (j.flatMap (qa .u64).c)])/\ji b q d M j e n=some P) ?_ (m:=N) ⟨_,_,_,rfl,g13⟩
     rintro M s ⟨j,e,n,rfl,g13⟩
     cases M with
     |zero=>simp only[ji]at g13;cases g13
     |succ M=>
      rw[ji]at g13
      refine sh fol ((1,vl (qa .u64) b)::(kD j ((6,.i d)::(kAD q n ((20,vl (qa .u64) a)::(kAI (a.length:Int) d [(27,vl (qa .u64) b),(28,.i (b.length:Int)),(29,.i e),(30,.bool (decide (e<(b.length:Int))))])))))) ?_
      refine sq ?_
      refine ihD g13 (fun X g13=>?_) (fun X g13=>?_)
      ·refine Goes.skip ?_
       refine sq (Goes.block ?_)
       obtain⟨U,w,g13⟩:=bnd g13
       refine sq (gr fol [1,2] ((1,vl (qa .u64) b)::(kD j ((6,.i d)::(kAD q n ((9,.i e)::(10,.int .u64 U)::(20,vl (qa .u64) a)::(kAI (a.length:Int) d ((27,vl (qa .u64) b)::(kA8 (b.length:Int) e)))))))) (ac (iv qK (qa .u64) w) (ac (lv 0 zO (qa .u64) w rfl) az)) ?_)
       obtain⟨f,H,g13⟩:=bnd g13
       refine sq (gr fol [2] ((1,vl (qa .u64) b)::(kD j ((6,.i d)::(kAD q n ((9,.i e)::(kAB f.1 f.2 ((20,vl (qa .u64) a)::(kAI (a.length:Int) d ((27,vl (qa .u64) b)::(kA8 (b.length:Int) e)))))))))) (ac (cv (qbk q U H)) az) ?_)
       refine sh fol ((1,vl (qa .u64) b)::(kD j ((6,.i d)::(kAD q n ((9,.i e)::(kAB f.1 f.2 ((20,vl (qa .u64) a)::(kAI (a.length:Int) d ((27,vl (qa .u64) b)::(kA8 (b.length:Int) e)))))))))) ?_
       obtain⟨V,o,g13⟩:=bnd g13
       obtain⟨g,I,g13⟩:=bnd g13
       refine sq (gr fol [5,6,7] ((1,vl (qa .u64) b)::(kD j ((6,.i d)::(kAD q n ((9,.i e)::(kAB f.1 g.1 ((13,.int .u64 g.2)::(20,vl (qa .u64) a)::(kAI (a.length:Int) d ((27,vl (qa .u64) b)::(kA8 (b.length:Int) e)))))))))) (ac (hs (.done (.opt (qg ZT 103 (.slice 0 0 j.length j.length 1) (.i (w64 (d+e))))) (.ptr 0 ((w64 (d+e):Int).toNat*1+0))) (qao qK o)) (ac (hs (.run [0] (zZ ZT 227 (.ptr 0 ((w64 (d+e):Int).toNat*1+0))) [.cells (j.flatMap (qa .u64).c)] (.int .u64 V) [.cells (j.flatMap (qa .u64).c)] false) (qce zO (E:=(qa .u64)) (l:=j) rfl rfl o (nl rfl) rfl)) (ac (cv (qcc f.2 V 0 I)) az))) ?_)
       refine sh fol ((1,vl (qa .u64) b)::(kD j ((6,.i d)::(kAD q n ((9,.i e)::(kAB (IntKind.wrap .u64 (f.1+g.2)) g.1 ((20,vl (qa .u64) a)::(kAI (a.length:Int) d ((27,vl (qa .u64) b)::(kA8 (b.length:Int) e)))))))))) ?_
       obtain⟨p,J,g13⟩:=bnd g13
       refine sq (gr fol [2] ((1,vl (qa .u64) b)::(kD j ((6,.i d)::(kAh q ((9,.i e)::(kAB (IntKind.wrap .u64 (f.1+g.2)) p.1 ((13,.int .u64 p.2)::(20,vl (qa .u64) a)::(kAI (a.length:Int) d ((27,vl (qa .u64) b)::(kA8 (b.length:Int) e)))))))))) (ac (cv (qcc g.1 n 0 J)) az) ?_)
       obtain⟨r,A,g13⟩:=bnd g13
       refine gq fol [8,9] ((1,vl (qa .u64) b)::(kD j ((6,.i d)::(kAD q (IntKind.wrap .u64 ((IntKind.wrap .u64 (f.1+g.2))+p.2)) ((20,vl (qa .u64) a)::(kAI (a.length:Int) d ((27,vl (qa .u64) b)::(kA8 (b.length:Int) e)))))))) [.cells (r.flatMap (qa .u64).c)] (ac (hs (.done (.opt (qg ZT 103 (.slice 0 0 j.length j.length 1) (.i (w64 (d+e))))) (.ptr 0 ((w64 (d+e):Int).toNat*1+0))) (qao qK o)) (ac (hs (.run [0] (qy ZT 227 (.ptr 0 ((w64 (d+e):Int).toNat*1+0)) (.int .u64 p.1)) [.cells (j.flatMap (qa .u64).c)] .undef [.cells (r.flatMap (qa .u64).c)] true) (qac (E:=(qa .u64)) (l:=j) (y:=p.1) rfl (show _=some 1 by kernel_rfl) rfl o rfl rfl rfl rfl rfl A rfl)) az)) ?_
       refine Goes.sub (show Sub (ofG 80 ((1,vl (qa .u64) b)::(kD j ((6,.i d)::(kAD q (IntKind.wrap .u64 ((IntKind.wrap .u64 (f.1+g.2))+p.2)) ((20,vl (qa .u64) a)::(kAI (a.length:Int) d ((27,vl (qa .u64) b)::(kA8 (b.length:Int) e)))))))),[.cells (r.flatMap (qa .u64).c)]) (ofG 80 ((1,vl (qa .u64) b)::(kD r ((6,.i d)::(kAD q (IntKind.wrap .u64 ((IntKind.wrap .u64 (f.1+g.2))+p.2)) ((20,vl (qa .u64) a)::(kAI (a.length:Int) d ((27,vl (qa .u64) b)::(kA8 (b.length:Int) e)))))))),[.cells (r.flatMap (qa .u64).c)])from(Sub.norm [] [some 0] rfl rfl (.keep (.same (qf (qa .u64) _)) (.keep (.sliceE rfl (vD A)) (.keep (.same nI) (.keep (.same nI) (.keep (.same nI) (.keep (.same (qf (qa .u64) _)) (.keep (.same nI) (.keep (.same nI) (.keep (.same (qf (qa .u64) _)) (.keep (.same nI) (.keep (.same nI) .nil))))))))))) (.ks .nil))) ?_
       refine gh fol ((1,vl (qa .u64) b)::(kD r ((6,.i d)::(kAD q (IntKind.wrap .u64 ((IntKind.wrap .u64 (f.1+g.2))+p.2)) ((20,vl (qa .u64) a)::(kAI (a.length:Int) d ((27,vl (qa .u64) b)::(kA8 (b.length:Int) (w64 (e+1)))))))))) ?_
       exact⟨M,(ofG 80 ((1,vl (qa .u64) b)::(kD r ((6,.i d)::(kAD q (IntKind.wrap .u64 ((IntKind.wrap .u64 (f.1+g.2))+p.2)) ((20,vl (qa .u64) a)::(kAI (a.length:Int) d ((27,vl (qa .u64) b)::(kA8 (b.length:Int) (w64 (e+1)))))))))),[.cells (r.flatMap (qa .u64).c)]),Nat.lt_succ_self _,(Sub.refl _),_,_,_,rfl,g13⟩
      refine Goes.exit ?_
      obtain rfl:=si g13
      exact⟨rfl,_,_,rfl,(Sub.keep [1,5,6,8,20,21,22] rfl rfl)⟩
    rintro x s' ⟨rfl,k,v,rfl,hsub⟩
    try dsimp only at g5
    refine Goes.sub hsub ?_
    obtain⟨a0,B,g5⟩:=bnd g5
    obtain⟨t,C,g5⟩:=bnd g5
    refine gq fol [6,7] ((1,vl (qa .u64) b)::(kD k ((20,vl (qa .u64) a)::(kAI (a.length:Int) d [])))) [.cells (t.flatMap (qa .u64).c)] (ac (hs (.done (.opt (qg ZT 103 (.slice 0 0 k.length k.length 1) (.i (w64 (d+(b.length:Int)))))) (.ptr 0 ((w64 (d+(b.length:Int)):Int).toNat*1+0))) (qao qK B)) (ac (hs (.run [0] (qy ZT 227 (.ptr 0 ((w64 (d+(b.length:Int)):Int).toNat*1+0)) (.int .u64 v)) [.cells (k.flatMap (qa .u64).c)] .undef [.cells (t.flatMap (qa .u64).c)] true) (qac (E:=(qa .u64)) (l:=k) (y:=v) rfl (show _=some 1 by kernel_rfl) rfl B rfl rfl rfl rfl rfl C rfl)) az)) ?_
    refine Goes.sub (show Sub (ofG 80 ((1,vl (qa .u64) b)::(kD k ((20,vl (qa .u64) a)::(kAI (a.length:Int) d [])))),[.cells (t.flatMap (qa .u64).c)]) (ofG 80 ((1,vl (qa .u64) b)::(kD t ((20,vl (qa .u64) a)::(kAI (a.length:Int) d [])))),[.cells (t.flatMap (qa .u64).c)])from(Sub.norm [] [some 0] rfl rfl (.keep (.same (qf (qa .u64) _)) (.keep (.sliceE rfl (vD C)) (.keep (.same (qf (qa .u64) _)) (.keep (.same nI) (.keep (.same nI) .nil))))) (.ks .nil))) ?_
    refine gh fol ((1,vl (qa .u64) b)::(kD t ((20,vl (qa .u64) a)::(kAI (a.length:Int) (w64 (d+1)) [])))) ?_
    exact⟨M,(ofG 80 ((1,vl (qa .u64) b)::(kD t ((20,vl (qa .u64) a)::(kAI (a.length:Int) (w64 (d+1)) [])))),[.cells (t.flatMap (qa .u64).c)]),Nat.lt_succ_self _,(Sub.refl _),_,_,rfl,g5⟩
   refine Goes.exit ?_
   obtain rfl:=si g5
   exact⟨rfl,_,rfl,(Sub.keep [5] rfl rfl)⟩
 rintro x s' ⟨rfl,u,rfl,hsub⟩
 refine Goes.sub hsub ?_
 obtain⟨D,K,h⟩:=bnd h
 refine sq (gq fol [1] [(4,vl (qa .u64) D)] [.frozen (u.flatMap (qa .u64).c)] (ac (hs (.callF 254 [.slice 0 0 u.length u.length 1] [.cells (u.flatMap (qa .u64).c)] [0] [vl (qa .u64) u] (vl (qa .u64) D)) (qaB (FzL.cons (Fz.sl (E:=(qa .u64)) rfl rfl (nl rfl)) FzL.nil) (y9 N u K) (qw (qa .u64) _ (nl rfl)))) az) ?_)
 refine Goes.sub (show Sub (ofG 80 [(4,vl (qa .u64) D)],[.frozen (u.flatMap (qa .u64).c)]) (ofG 80 [(4,vl (qa .u64) D)],[])from(Sub.norm [] [] rfl rfl (.keep (.same (qf (qa .u64) _)) .nil) .nil)) ?_
 refine Goes.ret ?_
 obtain rfl:=si h
 exact(gw2 [vl (qa .u64) D] (Ua (qw (qa .u64) _ (nl rfl))))
def qI (N:Nat) (a:ql) (b:ql):Option ql:=
 (if a.w.isEmpty=true then
 some b.w.isEmpty
 else
 some false:Option Bool).bind fun j=>
 ((if j=true then
 (qbY a.s).bind fun k=>
 (qbY b.s).bind fun l=>
 (bits_Mul64 k l).bind fun e=>
 (if e.1=0 then
 some (decide (e.2<=9223372036854775807))
 else
 some false:Option Bool).bind fun f=>
 if f=true then
 if(!((decide (a.s<0))==(decide (b.s<0))))=true then
 some (.inr (⟨w64 (0-(w64 e.2)),[]⟩:ql))
 else
 some (.inr (⟨w64 e.2,[]⟩:ql))
 else
 some (.inl ())
 else
 some (.inl ()):Option (Unit⊕ql))).bind (fun
 |(.inl ())=>
 (qE a).bind fun c=>
 (qE b).bind fun d=>
 (qal N c.2 d.2).bind fun g=>
 (jU (!(c.1==d.1)) g).bind fun h=>
 some h
 |(.inr i)=>
 some i)
theorem jY (N:Nat) (a:ql) (b:ql) {res:ql} (h:qI N a b=some res):qb ZT (.fn 137) [.agg (nz1 a),.agg (nz1 b)] [] (.agg (nz1 res)) []:=by
 unfold qI at h
 refine Ub Tryz.func137 rfl rfl (m:=66) rfl (rs:=[.cell 4 105]) rfl (l:=[(0,.agg (nz1 a)),(1,.agg (nz1 b))]) rfl ?_
 refine sg fol (kE []) [.cells (nz1 a),.cells (nz1 b),bZ] ?_
 refine sq ?_
 refine sq ?_
 obtain⟨G,d,h⟩:=bnd h
 refine Goes.cut (s':=(ofG 66 (kE [(18,.bool G)]),[.cells (nz1 a),.cells (nz1 b),bZ])) ?_ ?_
 ·rcases wyB d with⟨y,d⟩|⟨y,d⟩
  ·obtain rfl:=si d
   exact tr fol [2,3,6] (kE [(18,.bool b.w.isEmpty)]) (ac (hs (.done (.opt (qZ ZT .eql 103 (.tmp 12) (.const (.slice none 0 0)) (nvl (qa .u64) a.w) .nilslice)) (.bool a.w.isEmpty)) (qat yc)) (ac (gw y) (ac (hs (.done (.opt (qZ ZT .eql 103 (.tmp 16) (.const (.slice none 0 0)) (nvl (qa .u64) b.w) .nilslice)) (.bool b.w.isEmpty)) (qat yc)) az)))
  obtain rfl:=si d
  exact tr fol [2,3] (kE [(18,.bool false)]) (ac (hs (.done (.opt (qZ ZT .eql 103 (.tmp 12) (.const (.slice none 0 0)) (nvl (qa .u64) a.w) .nilslice)) (.bool a.w.isEmpty)) (qat yc)) (ac (gw y) az))
 obtain⟨D,g4,h⟩:=bnd h
 refine Goes.imp (Q:=fun x s'=>(x= .normal/\(.inl ())=D/\Sub s' (ofG 66 (kE []),[.cells (nz1 a),.cells (nz1 b),bZ]))\/(x= .ret/\ ∃F,(.inr F)=D/\zM ZT [.cell 4 105] (.agg (nz1 F)) .ret s')) ?_ ?_
 ·refine ihB g4 (fun H g4=>?_) (fun H g4=>?_)
  ·obtain⟨I,t,g4⟩:=bnd g4
   obtain⟨J,u,g4⟩:=bnd g4
   obtain⟨f,v,g4⟩:=bnd g4
   refine sq (gr fol [2,5,6] (kE ((5,.int .u64 f.1)::(kAQ f.2 []))) (ac (cv (qee a.s t)) (ac (cv (qee b.s u)) (ac (cv (qbk I J v)) az))) ?_)
   refine sq ?_
   obtain⟨z,c,g4⟩:=bnd g4
   refine Goes.cut (s':=(ofG 66 (kE (kAQ f.2 [(34,.bool z)])),[.cells (nz1 a),.cells (nz1 b),bZ])) ?_ ?_
   ·rcases wyD c with⟨k,c⟩|⟨k,c⟩
    ·obtain rfl:=si c
     exact tr fol [2] (kE (kAQ f.2 [(34,.bool (decide (f.2<=9223372036854775807)))])) (ac (gw k) az)
    obtain rfl:=si c
    exact tr fol [2] (kE (kAQ f.2 [(34,.bool false)])) (ac (gw k) az)
   refine ihB g4 (fun A g4=>?_) (fun A g4=>?_)
   ·refine sq ?_
    refine sh fol (kAS (kAQ f.2 [(41,.bool (!((decide (a.s<0))==(decide (b.s<0)))))])) ?_
    refine ihB g4 (fun B g4=>?_) (fun B g4=>?_)
    ·refine sg fol (kAS []) (.cells (nz1 a):: .cells (nz1 b)::(kBC (w64 (0-(w64 f.2))))) ?_
     refine Goes.ret ?_
     obtain rfl:=si g4
     exact Or.inr (⟨rfl,_,rfl,(gw2 [.agg [.i (w64 (0-(w64 f.2))),.nilslice]] (FzW.agg (qd.cons (Ua tI) (qd.cons (FzW.nv0 (E:=(qa .u64))) qd.nil))))⟩)
    refine Goes.skip ?_
    refine sg fol (kAS []) (.cells (nz1 a):: .cells (nz1 b)::(kBC (w64 f.2))) ?_
    refine Goes.ret ?_
    obtain rfl:=si g4
    exact Or.inr (⟨rfl,_,rfl,(gw2 [.agg [.i (w64 f.2),.nilslice]] (FzW.agg (qd.cons (Ua tI) (qd.cons (FzW.nv0 (E:=(qa .u64))) qd.nil))))⟩)
   refine Goes.skip ?_
   obtain rfl:=si g4
   exact Or.inl (⟨rfl,rfl,(Sub.keep [2,3,4] rfl rfl)⟩)
  refine Goes.skip ?_
  obtain rfl:=si g4
  exact Or.inl (⟨rfl,rfl,(Sub.keep [2,3,4] rfl rfl)⟩)
 rintro x s' (⟨rfl,rfl,hsub⟩|⟨rfl,K,rfl,hret⟩)
 ·try dsimp only at h
  refine Goes.sub hsub ?_
  obtain⟨e,o,h⟩:=bnd h
  refine sq (gr fol [1] (kAZ (kAS [(7,.bool e.1),(8,vl (qa .u64) e.2)])) (ac (cv (zF a o)) az) ?_)
  obtain⟨g,p,h⟩:=bnd h
  refine sq (gr fol [1] (kAS [(7,.bool e.1),(8,vl (qa .u64) e.2),(9,.bool g.1),(10,vl (qa .u64) g.2)]) (ac (cv (zF b p)) az) ?_)
  obtain⟨C,q,h⟩:=bnd h
  obtain⟨j,r,h⟩:=bnd h
  refine sq (gq fol [5,6,7] (kAS []) [.cells (nz1 a),.cells (nz1 b),.cells (nz1 j)] (ac (cv (qgl N e.2 g.2 q)) (ac (cv (xJ (!(e.1==g.1)) C r)) (ac (hs (.run [2] (qy ZT 105 (.ptr 2 0) (.agg (nz1 j))) [.cells (nz1 a),.cells (nz1 b),bZ] .undef [.cells (nz1 a),.cells (nz1 b),.cells (nz1 j)] true) (zk (n:=2) (by kernel_rfl) rfl rfl rfl rfl (cac rfl (cac nvc can)) rfl)) az))) ?_)
  refine Goes.ret ?_
  obtain rfl:=si h
  exact(gw2 [.agg (nz1 j)] (FzW.agg (qd.cons (Ua tI) (qd.cons (Ua (qA (qa .u64) _ (nl rfl))) qd.nil))))
 try dsimp only at h
 obtain rfl:=si h
 exact hret
def strings_HasPrefix (b:Str) (a:Str):Option Bool:=
 (stringslite_HasPrefix b a).bind fun c=>
 some c
theorem qd1 (b:Str) (a:Str) {res:Bool} (h:strings_HasPrefix b a=some res):qb ZT (.fn 187) (kBY b a) [] (.bool res) []:=by
 unfold strings_HasPrefix at h
 refine Ub Tryz.func187 rfl rfl (m:=8) rfl (rs:=[.tmp 4]) rfl (l:=(kQ b a [])) rfl ?_
 refine sh fol (kQ b a []) ?_
 obtain⟨d,c,h⟩:=bnd h
 refine sq (gr fol [2] (kBM d) (ac (cv (yG b a c)) az) ?_)
 refine Goes.ret ?_
 obtain rfl:=si h
 exact(gw2 [.bool d] (Ua tB))
def stringslite_TrimPrefix (b:Str) (a:Str):Option Str:=
 (stringslite_HasPrefix b a).bind fun c=>
 if c=true then
 (cut b (a.length:Int) (b.length:Int)).bind fun d=>
 some d
 else
 some b
theorem qcd (b:Str) (a:Str) {res:Str} (h:stringslite_TrimPrefix b a=some res):qb ZT (.fn 244) (kBY b a) [] (.str res) []:=by
 unfold stringslite_TrimPrefix at h
 refine Ub Tryz.func244 rfl rfl (m:=13) rfl (rs:=[.tmp 4]) rfl (l:=(kQ b a [])) rfl ?_
 refine sh fol (kQ b a []) ?_
 refine sq ?_
 obtain⟨f,c,h⟩:=bnd h
 refine sq (gr fol [2] (kQ b a [(7,.bool f)]) (ac (cv (yG b a c)) az) ?_)
 refine ihB h (fun g h=>?_) (fun g h=>?_)
 ·obtain⟨e,d,h⟩:=bnd h
  refine sq (gr fol [3] (kBG e) (ac (hs (.done (.opt (qU ZT 9 (.str b) (some (.i (a.length:Int))) none none)) (.str e)) (zS st9 (some (a.length:Int)) none d)) az) ?_)
  refine Goes.ret ?_
  obtain rfl:=si h
  exact(gw2 [.str e] (Ua tS))
 refine Goes.skip ?_
 refine sh fol (kBG b) ?_
 refine Goes.ret ?_
 obtain rfl:=si h
 exact(gw2 [.str b] (Ua tS))
def strings_TrimPrefix (b:Str) (a:Str):Option Str:=
 (stringslite_TrimPrefix b a).bind fun c=>
 some c
theorem qa7 (b:Str) (a:Str) {res:Str} (h:strings_TrimPrefix b a=some res):qb ZT (.fn 188) (kBY b a) [] (.str res) []:=by
 unfold strings_TrimPrefix at h
 refine Ub Tryz.func188 rfl rfl (m:=8) rfl (rs:=[.tmp 4]) rfl (l:=(kQ b a [])) rfl ?_
 refine sh fol (kQ b a []) ?_
 obtain⟨d,c,h⟩:=bnd h
 refine sq (gr fol [2] (kBG d) (ac (cv (qcd b a c)) az) ?_)
 refine Goes.ret ?_
 obtain rfl:=si h
 exact(gw2 [.str d] (Ua tS))
def jL (N:Nat):Nat->Int->(List Int)->Int->(List Int)->Int->Option (Int×(List Int))
 |0,_,_,_,_,_=>none
 |K+1,e,f,h,i,g=>
  if g>0 then
  ((((if(qz .i64 g 1)=1 then
  (qI N (⟨h,i⟩:ql) (⟨e,f⟩:ql)).bind fun a=>
  some (a.s,a.w)
  else
  some (h,i):Option (Int×(List Int)))).bind fun(b,c)=>
  if g>1 then
  (qI N (⟨e,f⟩:ql) (⟨e,f⟩:ql)).bind fun d=>
  some (d.s,d.w,b,c)
  else
  some (e,f,b,c):Option (Int×(List Int)×Int×(List Int)))).bind fun(j,k,l,m)=>
  jL N K j k l m (qp .i64 g 1)
  else
  some (h,i)
def qby (N:Nat) (a:ql) (k:Int):Option ql:=
 (qbW 1).bind fun b=>
 (jL N N a.s a.w b.s b.w k).bind fun(c,d)=>
 some (⟨c,d⟩:ql)
theorem qht (N:Nat) (a:ql) (k:Int) {res:ql} (h:qby N a k=some res):qb ZT (.fn 190) [.agg (nz1 a),.i k] [] (.agg (nz1 res)) []:=by
 unfold qby at h
 refine Ub Tryz.func190 rfl rfl (m:=23) rfl (rs:=[.cell 4 105]) rfl (l:=[(0,.agg (nz1 a)),(1,.i k)]) rfl ?_
 refine sg fol ((1,.i k)::(kM (kAb []))) [.cells (nz1 a),bZ] ?_
 obtain⟨B,y,h⟩:=bnd h
 refine sq (gq fol [0,2] ((1,.i k)::(kM (kAb (kA6 [])))) [.cells (nz1 a),bZ,.cells (nz1 B)] (ac (cv (qbc 1 y)) (ac (hs (.run [2] (qy ZT 105 (.ptr 2 0) (.agg (nz1 B))) [.cells (nz1 a),bZ,bZ] .undef [.cells (nz1 a),bZ,.cells (nz1 B)] true) (zk (n:=2) (by kernel_rfl) rfl rfl rfl rfl (cac rfl (cac nvc can)) rfl)) az)) ?_)
 refine sq (Goes.block ?_)
 obtain⟨H,g9,h⟩:=bnd h
 refine Goes.imp (Q:=fun x s'=>(x= .exit 0/\ ∃g j,(g,j)=H/\Sub s' (ofG 23 (kAP (kBL [])),[bZ,.cells (ni1 g j)]))) ?_ ?_
 ·refine Uc (fun M s=> ∃(e:Int) (f:List Int) (z:Int) (A:List Int) (b:Int),s=(ofG 23 ((1,.i b)::(kM (kAb (kA6 [])))),[.cells (ni1 e f),bZ,.cells (ni1 z A)])/\jL N M e f z A b=some H) ?_ (m:=N) ⟨_,_,_,_,_,rfl,g9⟩
  rintro M s ⟨e,f,z,A,b,rfl,g9⟩
  cases M with
  |zero=>simp only[jL]at g9;cases g9
  |succ M=>
   rw[jL]at g9
   refine sq ?_
   refine sh fol ((1,.i b)::(kM (kAb (kA6 (kBa (decide (b>0))))))) ?_
   refine ihD g9 (fun C g9=>?_) (fun C g9=>?_)
   ·refine Goes.skip ?_
    refine sq ?_
    obtain⟨D,g15,g9⟩:=bnd g9
    refine Goes.imp (Q:=fun x s'=>(x= .normal/\ ∃o p q r,(o,p,q,r)=D/\Sub s' (ofG 23 ((1,.i b)::(kM (kAb (kA6 [])))),[.cells (ni1 o p),bZ,.cells (ni1 q r)]))) ?_ ?_
    ·refine Goes.block ?_
     refine sq ?_
     refine sh fol ((1,.i b)::(kM (kAb (kA6 (kBE (decide ((qz .i64 b 1)=1))))))) ?_
     obtain⟨E,g18,g15⟩:=bnd g15
     refine Goes.imp (Q:=fun x s'=>(x= .normal/\ ∃c d,(c,d)=E/\Sub s' (ofG 23 ((1,.i b)::(kM (kAb (kA6 [])))),[.cells (ni1 e f),bZ,.cells (ni1 c d)]))) ?_ ?_
     ·refine ihD g18 (fun F g18=>?_) (fun F g18=>?_)
      ·obtain⟨t,u,g18⟩:=bnd g18
       refine gq fol [2,3] ((1,.i b)::(kM (kAb (kA6 [])))) [.cells (ni1 e f),bZ,.cells (nz1 t)] (ac (cv (jY N (⟨z,A⟩:ql) (⟨e,f⟩:ql) u)) (ac (hs (.run [2] (qy ZT 105 (.ptr 2 0) (.agg (nz1 t))) [.cells (ni1 e f),bZ,.cells (ni1 z A)] .undef [.cells (ni1 e f),bZ,.cells (nz1 t)] true) (zk (n:=2) (by kernel_rfl) rfl rfl rfl rfl (cac rfl (cac nvc can)) rfl)) az)) ?_
       obtain rfl:=si g18
       exact⟨rfl,_,_,rfl,(Sub.refl _)⟩
      refine Goes.skip ?_
      obtain rfl:=si g18
      exact⟨rfl,_,_,rfl,(Sub.keep [1,2,4,5] rfl rfl)⟩
     rintro x s' ⟨rfl,c,d,rfl,hsub⟩
     try dsimp only at g15
     refine Goes.sub hsub ?_
     refine sh fol ((1,.i b)::(kM (kAb (kA6 [(18,.bool (decide (b>1)))])))) ?_
     refine ihD g15 (fun G g15=>?_) (fun G g15=>?_)
     ·obtain⟨v,w,g15⟩:=bnd g15
      refine gq fol [2,3] ((1,.i b)::(kM (kAb (kA6 [])))) [.cells (nz1 v),bZ,.cells (ni1 c d)] (ac (cv (jY N (⟨e,f⟩:ql) (⟨e,f⟩:ql) w)) (ac (hs (.run [0] (qy ZT 105 (.ptr 0 0) (.agg (nz1 v))) [.cells (ni1 e f),bZ,.cells (ni1 c d)] .undef [.cells (nz1 v),bZ,.cells (ni1 c d)] true) (zk (n:=2) (by kernel_rfl) rfl rfl rfl rfl (cac rfl (cac nvc can)) rfl)) az)) ?_
      obtain rfl:=si g15
      exact⟨rfl,_,_,_,_,rfl,(Sub.refl _)⟩
     refine Goes.skip ?_
     obtain rfl:=si g15
     exact⟨rfl,_,_,_,_,rfl,(Sub.keep [1,2,4,5] rfl rfl)⟩
    rintro x s' ⟨rfl,o,p,q,r,rfl,hsub⟩
    try dsimp only at g9
    refine Goes.sub hsub ?_
    refine gh fol ((1,.i (qp .i64 b 1))::(kM (kAb (kA6 [])))) ?_
    exact⟨M,(ofG 23 ((1,.i (qp .i64 b 1))::(kM (kAb (kA6 [])))),[.cells (ni1 o p),bZ,.cells (ni1 q r)]),Nat.lt_succ_self _,(Sub.refl _),_,_,_,_,_,rfl,g9⟩
   refine Goes.exit ?_
   obtain rfl:=si g9
   exact⟨rfl,_,_,rfl,(Sub.norm [] [some 1,some 2] rfl rfl (.drop (.drop (.kp (.kp .nil)))) (.kb rfl (.same sn) (.kb rfl (.same sn) .nil)))⟩
 rintro x s' ⟨rfl,g,j,rfl,hsub⟩
 try dsimp only at h
 refine Goes.sub hsub ?_
 refine sq (gq fol [1] (kAP []) [.cells (ni1 g j),.cells (ni1 g j)] (ac (hs (.run [0] (qy ZT 105 (.ptr 0 0) (.agg (ni1 g j))) [bZ,.cells (ni1 g j)] .undef [.cells (ni1 g j),.cells (ni1 g j)] true) (zk (n:=2) (by kernel_rfl) rfl rfl rfl rfl (cac rfl (cac nvc can)) rfl)) az) ?_)
 refine Goes.ret ?_
 obtain rfl:=si h
 exact(gw2 [.agg (ni1 g j)] (FzW.agg (qd.cons (Ua tI) (qd.cons (Ua (qA (qa .u64) _ (nl rfl))) qd.nil))))
def y7 (N:Nat):Nat->Int->(List Int)->Str->Option (Int×(List Int))
 |0,_,_,_=>none
 |K+1,j,k,a=>
  if(a.length:Int)>0 then
  (cut a 0 (if(a.length:Int)<18 then(a.length:Int)else 18)).bind fun c=>
  (qki c).bind fun d=>
  (qbW 10).bind fun e=>
  (qby N e (if(a.length:Int)<18 then(a.length:Int)else 18)).bind fun f=>
  (qI N (⟨j,k⟩:ql) f).bind fun g=>
  (qbW d.1).bind fun h=>
  (jS N g h).bind fun b=>
  (cut a (if(a.length:Int)<18 then(a.length:Int)else 18) (a.length:Int)).bind fun i=>
  y7 N K b.s b.w i
  else
  some (j,k)
def qaU (N:Nat) (b:Str):Option ql:=
 (strings_HasPrefix b [45]).bind fun e=>
 (strings_TrimPrefix b [45]).bind fun f=>
 (y7 N N 0 [] f).bind fun(c,d)=>
 if e=true then
 (zu (⟨c,d⟩:ql)).bind fun a=>
 some a
 else
 some (⟨c,d⟩:ql)
theorem qbs (N:Nat) (g:Str) {res:ql} (h:qaU N g=some res):qb ZT (.fn 126) [.str g] [] (.agg (nz1 res)) []:=by
 unfold qaU at h
 refine Ub Tryz.func126 rfl rfl (m:=41) rfl (rs:=[.cell 2 105]) rfl (l:=(kAH g)) rfl ?_
 refine sg fol (kA5 g (kM [])) [bZ] ?_
 obtain⟨d,y,h⟩:=bnd h
 refine sq (gr fol [1] (kA5 g (kM (kBF d []))) (ac (cv (qd1 g [45] y)) az) ?_)
 obtain⟨J,z,h⟩:=bnd h
 refine sq (gr fol [1] (kA5 J (kM (kBF d []))) (ac (cv (qa7 g [45] z)) az) ?_)
 refine sg fol (kA5 J (kM (kBF d (kAb [])))) [bZ,bZ] ?_
 refine sq (Goes.block ?_)
 obtain⟨K,g8,h⟩:=bnd h
 refine Goes.imp (Q:=fun x s'=>(x= .exit 0/\ ∃b c,(b,c)=K/\Sub s' (ofG 41 (kM (kBF d (kAb []))),[bZ,.cells (ni1 b c)]))) ?_ ?_
 ·refine Uc (fun M s=> ∃(A:Int) (B:List Int) (a:Str),s=(ofG 41 (kA5 a (kM (kBF d (kAb [])))),[bZ,.cells (ni1 A B)])/\y7 N M A B a=some K) ?_ (m:=N) ⟨_,_,_,rfl,g8⟩
  rintro M s ⟨A,B,a,rfl,g8⟩
  cases M with
  |zero=>simp only[y7]at g8;cases g8
  |succ M=>
   rw[y7]at g8
   refine sq ?_
   refine sh fol (kA5 a (kM (kBF d (kAb (kBe (decide ((a.length:Int)>0))))))) ?_
   refine ihD g8 (fun L g8=>?_) (fun L g8=>?_)
   ·refine Goes.skip ?_
    refine Goes.block ?_
    refine sh fol (kA5 a (kM (kBF d (kAb (kAm (if(a.length:Int)<18 then(a.length:Int)else 18)))))) ?_
    obtain⟨C,j,g8⟩:=bnd g8
    obtain⟨D,k,g8⟩:=bnd g8
    refine sq (gr fol [2,3] (kA5 a (kM (kBF d (kAb (kAw (if(a.length:Int)<18 then(a.length:Int)else 18) D.1 []))))) (ac (hs (.done (.opt (qU ZT 9 (.str a) none (some (.i (if(a.length:Int)<18 then(a.length:Int)else 18))) none)) (.str C)) (zS st9 none (some (if(a.length:Int)<18 then(a.length:Int)else 18)) j)) (ac (cv (qn1 C k)) az)) ?_)
    obtain⟨E,o,g8⟩:=bnd g8
    obtain⟨F,p,g8⟩:=bnd g8
    obtain⟨G,q,g8⟩:=bnd g8
    obtain⟨H,r,g8⟩:=bnd g8
    obtain⟨e,t,g8⟩:=bnd g8
    refine sq (gq fol [1,3,4,6,7,8] (kA5 a (kM (kBF d (kAb (kAm (if(a.length:Int)<18 then(a.length:Int)else 18)))))) [bZ,.cells (nz1 e)] (ac (cv (qbc 10 o)) (ac (cv (qht N E (if(a.length:Int)<18 then(a.length:Int)else 18) p)) (ac (cv (jY N (⟨A,B⟩:ql) F q)) (ac (cv (qbc D.1 r)) (ac (cv (qab N G H t)) (ac (hs (.run [1] (qy ZT 105 (.ptr 1 0) (.agg (nz1 e))) [bZ,.cells (ni1 A B)] .undef [bZ,.cells (nz1 e)] true) (zk (n:=2) (by kernel_rfl) rfl rfl rfl rfl (cac rfl (cac nvc can)) rfl)) az)))))) ?_)
    obtain⟨u,v,g8⟩:=bnd g8
    refine gr fol [2] (kA5 u (kM (kBF d (kAb [])))) (ac (hs (.done (.opt (qU ZT 9 (.str a) (some (.i (if(a.length:Int)<18 then(a.length:Int)else 18))) none none)) (.str u)) (zS st9 (some (if(a.length:Int)<18 then(a.length:Int)else 18)) none v)) az) ?_
    exact⟨M,(ofG 41 (kA5 u (kM (kBF d (kAb [])))),[bZ,.cells (nz1 e)]),Nat.lt_succ_self _,(Sub.refl _),_,_,_,rfl,g8⟩
   refine Goes.exit ?_
   obtain rfl:=si g8
   exact⟨rfl,_,_,rfl,(Sub.keep [2,3,4] rfl rfl)⟩
 rintro x s' ⟨rfl,b,c,rfl,hsub⟩
 try dsimp only at h
 refine Goes.sub hsub ?_
 refine sq ?_
 refine sh fol (kM (kAb [(37,.bool d)])) ?_
 refine ihB h (fun I h=>?_) (fun I h=>?_)
 ·obtain⟨f,w,h⟩:=bnd h
  refine sq (gq fol [1,2] (kM []) [.cells (nz1 f),.cells (ni1 b c)] (ac (cv (jQ (⟨b,c⟩:ql) w)) (ac (hs (.run [0] (qy ZT 105 (.ptr 0 0) (.agg (nz1 f))) [bZ,.cells (ni1 b c)] .undef [.cells (nz1 f),.cells (ni1 b c)] true) (zk (n:=2) (by kernel_rfl) rfl rfl rfl rfl (cac rfl (cac nvc can)) rfl)) az)) ?_)
  refine Goes.ret ?_
  obtain rfl:=si h
  exact(gw2 [.agg (nz1 f)] (FzW.agg (qd.cons (Ua tI) (qd.cons (Ua (qA (qa .u64) _ (nl rfl))) qd.nil))))
 refine Goes.skip ?_
 refine sq (gq fol [1] (kM []) [.cells (ni1 b c),.cells (ni1 b c)] (ac (hs (.run [0] (qy ZT 105 (.ptr 0 0) (.agg (ni1 b c))) [bZ,.cells (ni1 b c)] .undef [.cells (ni1 b c),.cells (ni1 b c)] true) (zk (n:=2) (by kernel_rfl) rfl rfl rfl rfl (cac rfl (cac nvc can)) rfl)) az) ?_)
 refine Goes.ret ?_
 obtain rfl:=si h
 exact(gw2 [.agg (ni1 b c)] (FzW.agg (qd.cons (Ua tI) (qd.cons (Ua (qA (qa .u64) _ (nl rfl))) qd.nil))))
def qaJ (N:Nat) (a:ql) (b:ql):Option Int:=
 (if a.w.isEmpty=true then
 some b.w.isEmpty
 else
 some false:Option Bool).bind fun c=>
 if c=true then
 if a.s<b.s then
 some (-1)
 else
 if a.s>b.s then
 some 1
 else
 some 0
 else
 (yU N a b).bind fun d=>
 (kg d).bind fun e=>
 some e
theorem qd6 (N:Nat) (a:ql) (b:ql) {res:Int} (h:qaJ N a b=some res):qb ZT (.fn 127) [.agg (nz1 a),.agg (nz1 b)] [] (.i res) []:=by
 unfold qaJ at h
 refine Ub Tryz.func127 rfl rfl (m:=29) rfl (rs:=[.tmp 4]) rfl (l:=[(0,.agg (nz1 a)),(1,.agg (nz1 b))]) rfl ?_
 refine sg fol (kM (kAZ [])) [.cells (nz1 a),.cells (nz1 b)] ?_
 refine sq ?_
 refine sq ?_
 obtain⟨j,c,h⟩:=bnd h
 refine Goes.cut (s':=(ofG 29 (kM (kAZ (kA1 j))),[.cells (nz1 a),.cells (nz1 b)])) ?_ ?_
 ·rcases wyB c with⟨f,c⟩|⟨f,c⟩
  ·obtain rfl:=si c
   exact tr fol [2,3,6] (kM (kAZ (kA1 b.w.isEmpty))) (ac (hs (.done (.opt (qZ ZT .eql 103 (.tmp 6) (.const (.slice none 0 0)) (nvl (qa .u64) a.w) .nilslice)) (.bool a.w.isEmpty)) (qat yc)) (ac (gw f) (ac (hs (.done (.opt (qZ ZT .eql 103 (.tmp 10) (.const (.slice none 0 0)) (nvl (qa .u64) b.w) .nilslice)) (.bool b.w.isEmpty)) (qat yc)) az)))
  obtain rfl:=si c
  exact tr fol [2,3] (kM (kAZ [(12,.bool false)])) (ac (hs (.done (.opt (qZ ZT .eql 103 (.tmp 6) (.const (.slice none 0 0)) (nvl (qa .u64) a.w) .nilslice)) (.bool a.w.isEmpty)) (qat yc)) (ac (gw f) az))
 refine ihB h (fun k h=>?_) (fun k h=>?_)
 ·refine sq (Goes.block ?_)
  refine sh fol (kM (kAZ (kBE (decide (a.s<b.s))))) ?_
  refine ihD h (fun n h=>?_) (fun n h=>?_)
  ·refine sh fol [(4,.i (-1))] ?_
   refine Goes.ret ?_
   obtain rfl:=si h
   exact(gw2 [.i (-1)] (Ua tI))
  refine sh fol [(19,.bool (decide (a.s>b.s)))] ?_
  refine ihD h (fun o h=>?_) (fun o h=>?_)
  ·refine sh fol [(4,.i 1)] ?_
   refine Goes.ret ?_
   obtain rfl:=si h
   exact(gw2 [.i 1] (Ua tI))
  refine Goes.skip ?_
  refine sh fol kBc ?_
  refine Goes.ret ?_
  obtain rfl:=si h
  exact(gw2 [.i 0] (Ua tI))
 refine Goes.skip ?_
 obtain⟨p,d,h⟩:=bnd h
 obtain⟨g,e,h⟩:=bnd h
 refine sq (gr fol [2,3] (kBU g) (ac (cv (qdM N a b d)) (ac (cv (yg p e)) az)) ?_)
 refine Goes.ret ?_
 obtain rfl:=si h
 exact(gw2 [.i g] (Ua tI))
def xc (N:Nat) (a:Str):Option Int:=
 (strings_CutPrefix a [45]).bind fun r=>
 (strings_Cut r.1 [47]).bind fun b=>
 ((jA b.1).bind fun t=>
 if t=true then
 if(!r.2)=true then
 some true
 else
 some (!(b.1==[48]))
 else
 some false:Option Bool).bind fun s=>
 ((if b.2.2=true then
 (if s=true then
 (jA b.2.1).bind fun g=>
 if g=true then
 if(!(b.2.1==[48]))=true then
 some (!(b.2.1==[49]))
 else
 some false
 else
 some false
 else
 some false:Option Bool).bind fun h=>
 some h
 else
 some s:Option Bool)).bind fun u=>
 ((zt (!u) 1).bind fun c=>
 if(b.1.length:Int)>600 then
 (zt true 4).bind fun d=>
 (ym N ([c,d]:List Int)).bind fun i=>
 some (c,d,i)
 else
 (zt (decide ((b.2.1.length:Int)>600)) 4).bind fun e=>
 (ym N ([c,e]:List Int)).bind fun j=>
 some (c,e,j):Option (Int×Int×Int)).bind fun(v,w,f)=>
 if(!decide (f=0))=true then
 some f
 else
 (if b.2.2=true then
 (qaU N b.1).bind fun k=>
 (qaU N b.2.1).bind fun l=>
 (qcm N k l).bind fun m=>
 (qbW 1).bind fun n=>
 (qaJ N m n).bind fun o=>
 some (!decide (o=0))
 else
 some false:Option Bool).bind fun p=>
 (zt p 1).bind fun q=>
 some q
theorem qbz (N:Nat) (a:Str) {res:Int} (h:xc N a=some res):qb ZT (.fn 55) [.str a] [] (.i res) []:=by
 unfold xc at h
 refine Ub Tryz.func55 rfl rfl (m:=76) rfl (rs:=[.tmp 2]) rfl (l:=(kAH a)) rfl ?_
 refine sh fol (kAH a) ?_
 obtain⟨V,H,h⟩:=bnd h
 refine sq (gr fol [1] ((3,.str V.1)::(kBM V.2)) (ac (cv (qdX a [45] H)) az) ?_)
 obtain⟨e,I,h⟩:=bnd h
 refine sq (gr fol [1] ((4,.bool V.2)::(kAM e.1 e.2.1 e.2.2 [])) (ac (cv (qdN V.1 [47] I)) az) ?_)
 refine sq ?_
 obtain⟨b6,f,h⟩:=bnd h
 refine Goes.cut (s':=(ofG 76 (kAM e.1 e.2.1 e.2.2 (kBa b6)),[])) ?_ ?_
 ·obtain⟨r3,k,f⟩:=bnd f
  rcases wyB f with⟨X,f⟩|⟨X,f⟩
  ·rcases wyB f with⟨Y,f⟩|⟨Y,f⟩
   ·obtain rfl:=si f
    exact tr fol [1,2,5] (kAM e.1 e.2.1 e.2.2 [(8,.bool true)]) (ac (cv (jf e.1 k)) (ac (gw X) (ac (gw Y) az)))
   obtain rfl:=si f
   exact tr fol [1,2,5] (kAM e.1 e.2.1 e.2.2 (kBa (!(e.1==[48])))) (ac (cv (jf e.1 k)) (ac (gw X) (ac (gw Y) az)))
  obtain rfl:=si f
  exact tr fol [1,2] (kAM e.1 e.2.1 e.2.2 [(8,.bool false)]) (ac (cv (jf e.1 k)) (ac (gw X) az))
 refine sq ?_
 refine sh fol (kAM e.1 e.2.1 e.2.2 [(8,.bool b6),(32,.bool e.2.2)]) ?_
 obtain⟨r9,g9,h⟩:=bnd h
 refine Goes.imp (Q:=fun x s'=>(x= .normal/\ ∃J,J=r9/\Sub s' (ofG 76 (kAM e.1 e.2.1 e.2.2 (kBa J)),[]))) ?_ ?_
 ·refine ihB g9 (fun Z g9=>?_) (fun Z g9=>?_)
  ·obtain⟨a0,c,g9⟩:=bnd g9
   refine Goes.cut (s':=(ofG 76 (kAM e.1 e.2.1 e.2.2 (kBa a0)),[])) ?_ ?_
   ·rcases wyB c with⟨n,c⟩|⟨n,c⟩
    ·obtain⟨r12,j,c⟩:=bnd c
     rcases wyB c with⟨q,c⟩|⟨q,c⟩
     ·rcases wyB c with⟨t,c⟩|⟨t,c⟩
      ·obtain rfl:=si c
       exact tr fol [1,3,5,9] (kAM e.1 e.2.1 e.2.2 (kBa (!(e.2.1==[49])))) (ac (gw n) (ac (cv (jf e.2.1 j)) (ac (gw q) (ac (gw t) az))))
      obtain rfl:=si c
      exact tr fol [1,3,5,9] (kAM e.1 e.2.1 e.2.2 [(8,.bool false)]) (ac (gw n) (ac (cv (jf e.2.1 j)) (ac (gw q) (ac (gw t) az))))
     obtain rfl:=si c
     exact tr fol [1,3,5] (kAM e.1 e.2.1 e.2.2 [(8,.bool false)]) (ac (gw n) (ac (cv (jf e.2.1 j)) (ac (gw q) az)))
    obtain rfl:=si c
    exact tr fol [1] (kAM e.1 e.2.1 e.2.2 [(8,.bool false)]) (ac (gw n) az)
   obtain rfl:=si g9
   exact⟨rfl,_,rfl,(Sub.refl _)⟩
  refine Goes.skip ?_
  obtain rfl:=si g9
  exact⟨rfl,_,rfl,(Sub.keep [5,6,7,8] rfl rfl)⟩
 rintro x s' ⟨rfl,J,rfl,hsub⟩
 refine Goes.sub hsub ?_
 refine sq ?_
 refine sq ?_
 obtain⟨⟨K,L,o⟩,b,h⟩:=bnd h
 refine Goes.cut (s':=(ofG 76 (kAM e.1 e.2.1 e.2.2 [(9,.i o)]),(kAE K L))) ?_ ?_
 ·obtain⟨g,p,b⟩:=bnd b
  rcases wyD b with⟨u,b⟩|⟨u,b⟩
  ·obtain⟨r,v,b⟩:=bnd b
   obtain⟨M,w,b⟩:=bnd b
   simp only[ZI,ZP]at b
   obtain⟨rfl,rfl,rfl⟩:=b
   exact xK.rq fol [2,6,11,13] (kAM e.1 e.2.1 e.2.2 [(9,.i M)]) (kAE g r) (ac (cv (xX (!J) 1 p)) (ac (gw u) (ac (cv (xX true 4 v)) (ac (hs (.call 123 [.slice 0 0 2 2 1] (kAE g r) [0] [vl encI ([g,r]:List Int)] (.i M)) (qd2 (FzL.cons (Fz.lit rfl rfl (Ue (AllST.cons tI (AllST.cons tI AllST.nil)))) FzL.nil) (qdz N ([g,r]:List Int) w) tI rfl)) az))))
  obtain⟨s,y,b⟩:=bnd b
  obtain⟨O,z,b⟩:=bnd b
  simp only[ZI,ZP]at b
  obtain⟨rfl,rfl,rfl⟩:=b
  exact xK.rq fol [2,6,11,13] (kAM e.1 e.2.1 e.2.2 [(9,.i O)]) (kAE g s) (ac (cv (xX (!J) 1 p)) (ac (gw u) (ac (cv (xX (decide ((e.2.1.length:Int)>600)) 4 y)) (ac (hs (.call 123 [.slice 0 0 2 2 1] (kAE g s) [0] [vl encI ([g,s]:List Int)] (.i O)) (qd2 (FzL.cons (Fz.lit rfl rfl (Ue (AllST.cons tI (AllST.cons tI AllST.nil)))) FzL.nil) (qdz N ([g,s]:List Int) z) tI rfl)) az))))
 try dsimp only at h
 refine sh fol (kAM e.1 e.2.1 e.2.2 [(9,.i o),(61,.bool (!decide (o=0)))]) ?_
 refine ihB h (fun a1 h=>?_) (fun a1 h=>?_)
 ·refine sh fol (kA3 o) ?_
  refine Goes.ret ?_
  obtain rfl:=si h
  exact(gw2 [.i o] (Ua tI))
 refine Goes.skip ?_
 refine sq ?_
 obtain⟨P,d,h⟩:=bnd h
 refine Goes.cut (s':=(ofG 76 (kBR P),(kAE K L))) ?_ ?_
 ·rcases wyB d with⟨A,d⟩|⟨A,d⟩
  ·obtain⟨a2,B,d⟩:=bnd d
   obtain⟨a3,C,d⟩:=bnd d
   obtain⟨a4,D,d⟩:=bnd d
   obtain⟨a5,E,d⟩:=bnd d
   obtain⟨a6,F,d⟩:=bnd d
   obtain rfl:=si d
   exact tr fol [1,3,5,6,7,8] (kBR (!decide (a6=0))) (ac (gw A) (ac (cv (qbs N e.1 B)) (ac (cv (qbs N e.2.1 C)) (ac (cv (qg0 N a2 a3 D)) (ac (cv (qbc 1 E)) (ac (cv (qd6 N a4 a5 F)) az))))))
  obtain rfl:=si d
  exact tr fol [1] [(10,.bool false)] (ac (gw A) az)
 obtain⟨U,G,h⟩:=bnd h
 refine sq (gr fol [1] (kA3 U) (ac (cv (xX P 1 G)) az) ?_)
 refine Goes.ret ?_
 obtain rfl:=si h
 exact(gw2 [.i U] (Ua tI))
def qbj (n:ql):Option qM:=
 (qbW 1).bind fun a=>
 some (⟨n,a⟩:qM)
theorem qcY (n:ql) {res:qM} (h:qbj n=some res):qb ZT (.fn 131) [.agg (nz1 n)] [] (.agg (nq1 res)) []:=by
 unfold qbj at h
 refine Ub Tryz.func131 rfl rfl (m:=6) rfl (rs:=[.cell 2 107]) rfl (l:=[(0,.agg (nz1 n))]) rfl ?_
 refine sg fol (kR kAj) (.cells (nz1 n)::(kF [])) ?_
 obtain⟨a,b,h⟩:=bnd h
 refine sq (gq fol [1,3] kAj [.cells (nz1 n),.cells (ni2 n.s n.w a.s a.w)] (ac (cv (qbc 1 b)) (ac (hs (.run [1] (qy ZT 107 (.ptr 1 0) (.agg (ni2 n.s n.w a.s a.w))) (.cells (nz1 n)::(kF [])) .undef [.cells (nz1 n),.cells (ni2 n.s n.w a.s a.w)] true) (zk (n:=4) (by kernel_rfl) rfl rfl rfl rfl (cac rfl (cac nvc (cac rfl (cac nvc can)))) rfl)) az)) ?_)
 refine Goes.ret ?_
 obtain rfl:=si h
 exact(gw2 [.agg (ni2 n.s n.w a.s a.w)] (FzW.agg (qd.cons (Ua tI) (qd.cons (Ua (qA (qa .u64) _ (nl rfl))) (qd.cons (Ua tI) (qd.cons (Ua (qA (qa .u64) _ (nl rfl))) qd.nil))))))
def vz (N:Nat) (a:Str):Option qM:=
 (strings_Cut a [47]).bind fun b=>
 if(!b.2.2)=true then
 (qaU N b.1).bind fun c=>
 (qbj c).bind fun d=>
 some d
 else
 (qaU N b.1).bind fun e=>
 (qaU N b.2.1).bind fun f=>
 some (⟨e,f⟩:qM)
theorem yZ (N:Nat) (a:Str) {res:qM} (h:vz N a=some res):qb ZT (.fn 61) [.str a] [] (.agg (nq1 res)) []:=by
 unfold vz at h
 refine Ub Tryz.func61 rfl rfl (m:=22) rfl (rs:=[.cell 2 107]) rfl (l:=(kAH a)) rfl ?_
 refine sg fol (kA5 a (kM [])) (kF []) ?_
 obtain⟨b,e,h⟩:=bnd h
 refine sq (gr fol [1] (kM ((3,.str b.1)::(4,.str b.2.1)::(kBh b.2.2))) (ac (cv (qdN a [47] e)) az) ?_)
 refine sq ?_
 refine sh fol (kM ((3,.str b.1)::(4,.str b.2.1)::(kBE (!b.2.2)))) ?_
 refine ihB h (fun o h=>?_) (fun o h=>?_)
 ·obtain⟨p,f,h⟩:=bnd h
  obtain⟨k,g,h⟩:=bnd h
  refine sq (gq fol [1,2,3] (kM []) [.cells (nq1 k)] (ac (cv (qbs N b.1 f)) (ac (cv (qcY p g)) (ac (hs (.run [0] (qy ZT 107 (.ptr 0 0) (.agg (nq1 k))) (kF []) .undef [.cells (nq1 k)] true) (zk (n:=4) (by kernel_rfl) rfl rfl rfl rfl (cac rfl (cac nvc (cac rfl (cac nvc can)))) rfl)) az))) ?_)
  refine Goes.ret ?_
  obtain rfl:=si h
  exact(gw2 [.agg (nq1 k)] (FzW.agg (qd.cons (Ua tI) (qd.cons (Ua (qA (qa .u64) _ (nl rfl))) (qd.cons (Ua tI) (qd.cons (Ua (qA (qa .u64) _ (nl rfl))) qd.nil))))))
 refine Goes.skip ?_
 obtain⟨c,i,h⟩:=bnd h
 obtain⟨d,j,h⟩:=bnd h
 refine sq (gq fol [1,3,5] (kM []) [.cells (ni2 c.s c.w d.s d.w)] (ac (cv (qbs N b.1 i)) (ac (cv (qbs N b.2.1 j)) (ac (hs (.run [0] (qy ZT 107 (.ptr 0 0) (.agg (ni2 c.s c.w d.s d.w))) (kF []) .undef [.cells (ni2 c.s c.w d.s d.w)] true) (zk (n:=4) (by kernel_rfl) rfl rfl rfl rfl (cac rfl (cac nvc (cac rfl (cac nvc can)))) rfl)) az))) ?_)
 refine Goes.ret ?_
 obtain rfl:=si h
 exact(gw2 [.agg (ni2 c.s c.w d.s d.w)] (FzW.agg (qd.cons (Ua tI) (qd.cons (Ua (qA (qa .u64) _ (nl rfl))) (qd.cons (Ua tI) (qd.cons (Ua (qA (qa .u64) _ (nl rfl))) qd.nil))))))
def xC (a:qM):Option Int:=
 (kg a.Num).bind fun b=>
 some b
theorem qcJ (a:qM) {res:Int} (h:xC a=some res):qb ZT (.fn 129) [.agg (nq1 a)] [] (.i res) []:=by
 unfold xC at h
 refine Ub Tryz.func129 rfl rfl (m:=6) rfl (rs:=[.tmp 2]) rfl (l:=[(0,.agg (nq1 a))]) rfl ?_
 refine sg fol (kR []) [.cells (nq1 a)] ?_
 obtain⟨c,b,h⟩:=bnd h
 refine sq (gr fol [2] (kA3 c) (ac (cv (yg a.Num b)) az) ?_)
 refine Goes.ret ?_
 obtain rfl:=si h
 exact(gw2 [.i c] (Ua tI))
def qbf (N:Nat) (a:Str) (sign:Int):Option Int:=
 (xc N a).bind fun b=>
 if(!decide (b=0))=true then
 some b
 else
 (vz N a).bind fun c=>
 (xC c).bind fun d=>
 (vK (decide (d<sign)) 3).bind fun e=>
 some e
theorem qeD (N:Nat) (a:Str) (sign:Int) {res:Int} (h:qbf N a sign=some res):qb ZT (.fn 119) [.str a,.i sign] [] (.i res) []:=by
 unfold qbf at h
 refine Ub Tryz.func119 rfl rfl (m:=17) rfl (rs:=[.tmp 4]) rfl (l:=(kA5 a [(1,.i sign)])) rfl ?_
 refine sh fol (kA5 a [(1,.i sign)]) ?_
 refine sq ?_
 obtain⟨b,c,h⟩:=bnd h
 refine sq (gr fol [1] (kA5 a ((1,.i sign)::(kAm b))) (ac (cv (qbz N a c)) az) ?_)
 refine sh fol (kA5 a [(1,.i sign),(5,.i b),(9,.bool (!decide (b=0)))]) ?_
 refine ihB h (fun j h=>?_) (fun j h=>?_)
 ·refine sh fol (kBU b) ?_
  refine Goes.ret ?_
  obtain rfl:=si h
  exact(gw2 [.i b] (Ua tI))
 refine Goes.skip ?_
 obtain⟨k,d,h⟩:=bnd h
 obtain⟨n,e,h⟩:=bnd h
 obtain⟨g,f,h⟩:=bnd h
 refine sq (gr fol [1,2,5] (kBU g) (ac (cv (yZ N a d)) (ac (cv (qcJ k e)) (ac (cv (qag (decide (n<sign)) 3 f)) az))) ?_)
 refine Goes.ret ?_
 obtain rfl:=si h
 exact(gw2 [.i g] (Ua tI))
def qau (N:Nat) (a:Str):Option Int:=
 (qbf N a 1).bind fun b=>
 some b
theorem qf1 (N:Nat) (a:Str) {res:Int} (h:qau N a=some res):qb ZT (.fn 54) [.str a] [] (.i res) []:=by
 unfold qau at h
 refine Ub Tryz.func54 rfl rfl (m:=5) rfl (rs:=[.tmp 2]) rfl (l:=(kAH a)) rfl ?_
 refine sh fol (kAH a) ?_
 obtain⟨c,b,h⟩:=bnd h
 refine sq (gr fol [1] (kA3 c) (ac (cv (qeD N a 1 b)) az) ?_)
 refine Goes.ret ?_
 obtain rfl:=si h
 exact(gw2 [.i c] (Ua tI))
def ja (N:Nat):Nat->(List Str)->(List Int)->Option (List Str)
 |0,_,_=>none
 |K+1,i,j=>
  if(j.length:Int)>0 then
  (qaF N j ([1000000000000000000]:List Int)).bind fun b=>
  ((if(b.2.length:Int)>0 then
  (idx b.2 0).bind fun c=>
  (qhJ c 10).bind fun d=>
  some d
  else
  some [48]:Option Str)).bind fun a=>
  ((if(b.1.length:Int)>0 then
  (qek [48] (w64 (18-(a.length:Int)))).bind fun e=>
  (cat e a).bind fun f=>
  some f
  else
  some a:Option Str)).bind fun g=>
  (app 16 i [g]).bind fun h=>
  ja N K h b.1
  else
  some i
def zm (e:List Str):Nat->Bool->(Option (List Int))->Int->Option (Bool×(Option (List Int)))
 |0,_,_,_=>none
 |K+1,ok27,b,a=>
  if a>=0 then
  (idx e a).bind fun c=>
  (bWr ok27 b c).bind fun d=>
  zm e K true (some d) (w64 (a-1))
  else
  some (ok27,b)
def jO (N:Nat) (a:ql):Option Str:=
 if a.w.isEmpty=true then
 (qlu a.s).bind fun h=>
 some h
 else
 (qE a).bind fun f=>
 (ja N N ([]:List Str) f.2).bind fun g=>
 ((if f.1=true then
 (bWr false (none:Option (List Int)) [45]).bind fun b=>
 some (true,(some b))
 else
 some (false,(none:Option (List Int))):Option (Bool×(Option (List Int))))).bind fun(ok21,c)=>
 (zm g N ok21 c (w64 ((g.length:Int)-1))).bind fun(ok30,d)=>
 (qmZ ok30 d).bind fun e=>
 some e
theorem xE (N:Nat) (a:ql) {res:Str} (h:jO N a=some res):qb ZT (.fn 193) [.agg (nz1 a)] [] (.str res) []:=by
 unfold jO at h
 refine Ub Tryz.func193 rfl rfl (m:=69) rfl (rs:=[.tmp 2]) rfl (l:=[(0,.agg (nz1 a))]) rfl ?_
 refine sg fol (kR []) [.cells (nz1 a)] ?_
 refine sq ?_
 refine sq (gr fol [2] (kR [(14,.bool a.w.isEmpty)]) (ac (hs (.done (.opt (qZ ZT .eql 103 (.tmp 13) (.const (.slice none 0 0)) (nvl (qa .u64) a.w) .nilslice)) (.bool a.w.isEmpty)) (qat yc)) az) ?_)
 refine ihB h (fun c1 h=>?_) (fun c1 h=>?_)
 ·obtain⟨r2,J,h⟩:=bnd h
  refine sq (gr fol [2] (kBH r2) (ac (cv (qnv a.s J)) az) ?_)
  refine Goes.ret ?_
  obtain rfl:=si h
  exact(gw2 [.str r2] (Ua tS))
 refine Goes.skip ?_
 obtain⟨d,K,h⟩:=bnd h
 refine sq (gr fol [1] (kBF d.1 [(4,vl (qa .u64) d.2)]) (ac (cv (zF a K)) az) ?_)
 refine sg fol (kBF d.1 [(4,vl (qa .u64) d.2),(5,.slice 1 0 1 1 1)]) [.cells (nz1 a),.cells [.int .u64 1000000000000000000]] ?_
 refine sh fol (kBF d.1 [(4,vl (qa .u64) d.2),(5,.slice 1 0 1 1 1),(6,.nilslice)]) ?_
 refine sq (Goes.block ?_)
 obtain⟨r7,g7,h⟩:=bnd h
 refine Goes.imp (Q:=fun x s'=>(x= .exit 0/\ ∃b,b=r7/\Sub s' (ofG 69 (kBF d.1 (kAJ b [])),(kZ b [])))) ?_ ?_
 ·refine Goes.sub (s':=(ofG 69 (kBF d.1 [(4,vl (qa .u64) d.2),(5,vl (qa .u64) ([1000000000000000000]:List Int)),(6,.gslice 0 ([]:List Str).length 1)]),[.cells (([]:List Str).flatMap encS.c)])) (Sub.norm [1] [none] rfl rfl (.keep (.same nB) (.keep (.same (qf (qa .u64) _)) (.keep (.frz (Fz.lit rfl rfl (Ue (AllST.cons tI AllST.nil))) (qf (qa .u64) _)) (.keep .nil .nil)))) (.fresh .nil)) ?_
  refine Uc (fun M s=> ∃(g:List Str) (I:List Int),s=(ofG 69 (kBF d.1 ((4,vl (qa .u64) I)::(5,vl (qa .u64) ([1000000000000000000]:List Int))::(kAJ g []))),(kZ g []))/\ja N M g I=some r7) ?_ (m:=N) ⟨_,_,rfl,g7⟩
  rintro M s ⟨g,I,rfl,g7⟩
  cases M with
  |zero=>simp only[ja]at g7;cases g7
  |succ M=>
   rw[ja]at g7
   refine sq ?_
   refine sh fol (kBF d.1 ((4,vl (qa .u64) I)::(5,vl (qa .u64) ([1000000000000000000]:List Int))::(kAJ g [(26,.bool (decide ((I.length:Int)>0)))]))) ?_
   refine ihD g7 (fun c8 g7=>?_) (fun c8 g7=>?_)
   ·refine Goes.skip ?_
    refine Goes.block ?_
    obtain⟨j,L,g7⟩:=bnd g7
    refine sq (gr fol [2] (kBF d.1 ((5,vl (qa .u64) ([1000000000000000000]:List Int))::(kAJ g [(7,vl (qa .u64) j.1),(8,vl (qa .u64) j.2)]))) (ac (cv (qeC N I ([1000000000000000000]:List Int) L)) az) ?_)
    refine sh fol (kBF d.1 ((5,vl (qa .u64) ([1000000000000000000]:List Int))::(kAJ g [(7,vl (qa .u64) j.1),(8,vl (qa .u64) j.2),(9,.str [48])]))) ?_
    refine sq ?_
    refine sh fol (kBF d.1 ((5,vl (qa .u64) ([1000000000000000000]:List Int))::(kAJ g [(7,vl (qa .u64) j.1),(8,vl (qa .u64) j.2),(9,.str [48]),(35,.bool (decide ((j.2.length:Int)>0)))]))) ?_
    obtain⟨U,g11,g7⟩:=bnd g7
    refine Goes.imp (Q:=fun x s'=>(x= .normal/\ ∃p,p=U/\Sub s' (ofG 69 (kBF d.1 ((5,vl (qa .u64) ([1000000000000000000]:List Int))::(kAJ g [(7,vl (qa .u64) j.1),(9,.str p)]))),(kZ g [])))) ?_ ?_
    ·refine ihD g11 (fun V g11=>?_) (fun V g11=>?_)
     ·obtain⟨X,r,g11⟩:=bnd g11
      obtain⟨Y,z,g11⟩:=bnd g11
      refine gr fol [1,2,3] (kBF d.1 ((5,vl (qa .u64) ([1000000000000000000]:List Int))::(kAJ g [(7,vl (qa .u64) j.1),(9,.str Y)]))) (ac (iv qK (qa .u64) r) (ac (lv 0 zO (qa .u64) r rfl) (ac (cv (qnQ X 10 z)) az))) ?_
      obtain rfl:=si g11
      exact⟨rfl,_,rfl,(Sub.refl _)⟩
     refine Goes.skip ?_
     obtain rfl:=si g11
     exact⟨rfl,_,rfl,(Sub.keep [3,5,6,7,9] rfl rfl)⟩
    rintro x s' ⟨rfl,p,rfl,hsub⟩
    refine Goes.sub hsub ?_
    refine sq ?_
    refine sh fol (kBF d.1 ((5,vl (qa .u64) ([1000000000000000000]:List Int))::(kAJ g [(7,vl (qa .u64) j.1),(9,.str p),(42,.bool (decide ((j.1.length:Int)>0)))]))) ?_
    obtain⟨Z,g16,g7⟩:=bnd g7
    refine Goes.imp (Q:=fun x s'=>(x= .normal/\ ∃k,k=Z/\Sub s' (ofG 69 (kBF d.1 ((5,vl (qa .u64) ([1000000000000000000]:List Int))::(kAJ g [(7,vl (qa .u64) j.1),(9,.str k)]))),(kZ g [])))) ?_ ?_
    ·refine ihD g16 (fun a0 g16=>?_) (fun a0 g16=>?_)
     ·obtain⟨a1,A,g16⟩:=bnd g16
      obtain⟨O,B,g16⟩:=bnd g16
      refine gr fol [3,5] (kBF d.1 ((5,vl (qa .u64) ([1000000000000000000]:List Int))::(kAJ g [(7,vl (qa .u64) j.1),(9,.str O)]))) (ac (cv (qlc [48] (w64 (18-(p.length:Int))) A)) (ac (hs (.done (.opt (qZ ZT .add 9 (.tmp 46) (.tmp 47) (.str a1) (.str p))) (.str O)) (qax B)) az)) ?_
      obtain rfl:=si g16
      exact⟨rfl,_,rfl,(Sub.refl _)⟩
     refine Goes.skip ?_
     obtain rfl:=si g16
     exact⟨rfl,_,rfl,(Sub.keep [3,5,6,7,9] rfl rfl)⟩
    rintro x s' ⟨rfl,k,rfl,hsub⟩
    refine Goes.sub hsub ?_
    obtain⟨n,C,g7⟩:=bnd g7
    refine sq (gq fol [3] (kBF d.1 [(5,vl (qa .u64) ([1000000000000000000]:List Int)),(6,.gslice 2 n.length 1),(7,vl (qa .u64) j.1)]) (.dead:: .cells [.str k]::(kZ n [])) (ac (hs (.run [0,1] (yw ZT [262,262] (.gslice 0 g.length 1) (.slice 1 0 1 1 1)) (kZ g [.cells [.str k]]) (.gslice 2 n.length 1) (.dead:: .cells [.str k]::(kZ n [])) true) (qaV qpZ (E:=encS) rfl (qga (E:=encS) (ys:=[k]) rfl rfl rfl rfl) (qit (E:=encS) (l:=g) rfl rfl rfl C rfl))) az) ?_)
    refine gh fol (kBF d.1 [(4,vl (qa .u64) j.1),(5,vl (qa .u64) ([1000000000000000000]:List Int)),(6,.gslice 2 n.length 1)]) ?_
    exact⟨M,(ofG 69 (kBF d.1 ((4,vl (qa .u64) j.1)::(5,vl (qa .u64) ([1000000000000000000]:List Int))::(kAJ n []))),(kZ n [])),Nat.lt_succ_self _,(Sub.norm [] [some 2] rfl rfl (.keep (.same nB) (.keep (.same (qf (qa .u64) _)) (.keep (.same (qf (qa .u64) _)) (.keep (.gslice rfl) .nil)))) (.ks .nil)),_,_,rfl,g7⟩
   refine Goes.exit ?_
   obtain rfl:=si g7
   exact⟨rfl,_,rfl,(Sub.keep [3,6] rfl rfl)⟩
 rintro x s' ⟨rfl,b,rfl,hsub⟩
 refine Goes.sub hsub ?_
 refine sg fol (kBF d.1 (kAJ b (kBb []))) (kZ b [.bld 268 5 [.nilptr,.nilslice]]) ?_
 refine sq ?_
 refine sh fol (kAJ b (kBb [(54,.bool d.1)])) ?_
 obtain⟨a2,g23,h⟩:=bnd h
 refine Goes.imp (Q:=fun x s'=>(x= .normal/\ ∃ok21 u,(ok21,u)=a2/\Sub s' (ofG 69 (kAJ b (kBb [])),(kZ b [.bld 268 5 [pz ok21 1 0,hsl 2 1 u],.cells ((hof u).flatMap (qa .u8).c)])))) ?_ ?_
 ·refine ihB g23 (fun a3 g23=>?_) (fun a3 g23=>?_)
  ·refine Goes.sub (s':=(ofG 69 (kAJ b (kBb [(54,.bool d.1)])),(kZ b [.bld 268 5 [pz false 1 0,.nilslice]]))) (Sub.norm [] [some 0,some 1] rfl rfl (.keep (.gslice rfl) (.kp (.keep (.same nB) .nil))) (.ks (.kb rfl (.bld (rc (zV.pz0) (rc (.same (qD.nilslice)) rn))) .nil))) ?_
   refine Goes.sub (s':=(ofG 69 (kAJ b (kBb [(54,.bool d.1)])),(kZ b [.bld 268 5 [pz false 1 0,hsl 2 1 (none:Option (List Int))],.cells ((hof (none:Option (List Int))).flatMap (qa .u8).c)]))) (Sub.norm [] [some 0,some 1,none] rfl rfl (.keep (.gslice rfl) (.kp (.keep (.same nB) .nil))) (.ks (.kb rfl (.bld (rc (zV.pz0) (rc .hs0 rn))) (.fresh .nil)))) ?_
   obtain⟨v,D,g23⟩:=bnd g23
   refine gq fol [0] (kAJ b (kBb [])) (kZ b [.bld 268 5 [pz true 1 0,hsl 3 1 (some v)],.dead,.cells ((hof (some v)).flatMap (qa .u8).c)]) (ac (hs (.callH 251 [.ptr 1 0,.str [45]] (kZ b [.bld 268 5 [pz false 1 0,hsl 2 1 (none:Option (List Int))],.cells ((hof (none:Option (List Int))).flatMap (qa .u8).c)]) [1,2] (.tuple [.i (([45].length:Nat):Int),.niliface]) (kZ b [.bld 268 5 [pz true 1 0,hsl 3 1 (some v)],.dead,.cells ((hof (some v)).flatMap (qa .u8).c)])) (qfX [some 1,some 2] [none,some 0,none,some 2] (qoh false (none:Option (List Int)) [45] D) (.kb rfl (.bld (rc (zV.pz0) (rc .hs0 rn))) (.ks .nil)) rfl rfl (.old rfl rfl (.back rfl rfl (.bld (rc ((zV.pz rfl)) (rc (.hs rfl) rn))) rfl (.dead (.new rfl rfl (.same fa) rfl .nil)))) (rc (.ptr rfl) (rc (.same nS) rn)) (.same (qD.tuple sn)) rfl)) az) ?_
   obtain rfl:=si g23
   exact⟨rfl,_,_,rfl,(Sub.norm [] [some 0,some 1,some 3] rfl rfl (.keep (.gslice rfl) (.kp .nil)) (.ks (.kb rfl (.bld (rc ((zV.pz rfl)) (rc (.hs rfl) rn))) (.ks .nil))))⟩
  refine Goes.skip ?_
  obtain rfl:=si g23
  exact⟨rfl,_,_,rfl,(Sub.norm [] [some 0,some 1,none] rfl rfl (.keep (.gslice rfl) (.kp .nil)) (.ks (.kb rfl (.bld (rc (zV.pz0) (rc .hs0 rn))) (.fresh .nil))))⟩
 rintro x s' ⟨rfl,ok21,u,rfl,hsub⟩
 try dsimp only at h
 refine Goes.sub hsub ?_
 refine sq ?_
 refine sh fol (kAJ b (kBb [(11,.i (w64 ((b.length:Int)-1)))])) ?_
 refine Goes.block ?_
 obtain⟨P,g32,h⟩:=bnd h
 refine Goes.imp (Q:=fun x s'=>(x= .exit 2/\ ∃ok30 o,(ok30,o)=P/\Sub s' (ofG 69 [(10,.ptr 0 0)],[.bld 268 5 [pz ok30 0 0,hsl 1 1 o],.cells ((hof o).flatMap (qa .u8).c)]))) ?_ ?_
 ·refine Uc (fun M s=> ∃(ok27:Bool) (e:Option (List Int)) (f:Int),s=(ofG 69 (kAJ b (kBb [(11,.i f)])),(kZ b [.bld 268 5 [pz ok27 1 0,hsl 2 1 e],.cells ((hof e).flatMap (qa .u8).c)]))/\zm b M ok27 e f=some P) ?_ (m:=N) ⟨_,_,_,rfl,g32⟩
  rintro M s ⟨ok27,e,f,rfl,g32⟩
  cases M with
  |zero=>simp only[zm]at g32;cases g32
  |succ M=>
   rw[zm]at g32
   refine sq ?_
   refine sh fol (kAJ b (kBb [(11,.i f),(60,.bool (decide (f>=0)))])) ?_
   refine ihD g32 (fun a4 g32=>?_) (fun a4 g32=>?_)
   ·refine Goes.skip ?_
    refine sq (Goes.block ?_)
    obtain⟨y,t,g32⟩:=bnd g32
    obtain⟨q,F,g32⟩:=bnd g32
    refine gq fol [2,3,4] (kAJ b (kBb [(11,.i f)])) (kZ b [.bld 268 5 [pz true 1 0,hsl 3 1 (some q)],.dead,.cells ((hof (some q)).flatMap (qa .u8).c)]) (ac (hs (.done (.opt (qg ZT 262 (.gslice 0 b.length 1) (.i f))) (.ptr 0 ((f:Int).toNat*1+0))) (ix_gs qpZ t)) (ac (hs (.run [0] (zZ ZT 9 (.ptr 0 ((f:Int).toNat*1+0))) (kZ b [.bld 268 5 [pz ok27 1 0,hsl 2 1 e],.cells ((hof e).flatMap (qa .u8).c)]) (.str y) (kZ b [.bld 268 5 [pz ok27 1 0,hsl 2 1 e],.cells ((hof e).flatMap (qa .u8).c)]) false) (qce ce9 (E:=encS) (l:=b) rfl rfl t (nl rfl) rfl)) (ac (hs (.callH 251 [.ptr 1 0,.str y] (kZ b [.bld 268 5 [pz ok27 1 0,hsl 2 1 e],.cells ((hof e).flatMap (qa .u8).c)]) [1,2] (.tuple [.i ((y.length:Nat):Int),.niliface]) (kZ b [.bld 268 5 [pz true 1 0,hsl 3 1 (some q)],.dead,.cells ((hof (some q)).flatMap (qa .u8).c)])) (qfX [some 1,some 2] [none,some 0,none,some 2] (qoh ok27 e y F) (.kb rfl (.bld (rc ((zV.pz rfl)) (rc (.hs rfl) rn))) (.ks .nil)) rfl rfl (.old rfl rfl (.back rfl rfl (.bld (rc ((zV.pz rfl)) (rc (.hs rfl) rn))) rfl (.dead (.new rfl rfl (.same fa) rfl .nil)))) (rc (.ptr rfl) (rc (.same nS) rn)) (.same (qD.tuple sn)) rfl)) az))) ?_
    refine gh fol (kAJ b (kBb [(11,.i (w64 (f-1)))])) ?_
    exact⟨M,(ofG 69 (kAJ b (kBb [(11,.i (w64 (f-1)))])),(kZ b [.bld 268 5 [pz true 1 0,hsl 2 1 (some q)],.cells ((hof (some q)).flatMap (qa .u8).c)])),Nat.lt_succ_self _,(Sub.norm [] [some 0,some 1,some 3] rfl rfl (.keep (.gslice rfl) (.kp (.keep (.same nI) .nil))) (.ks (.kb rfl (.bld (rc ((zV.pz rfl)) (rc (.hs rfl) rn))) (.ks .nil)))),_,_,_,rfl,g32⟩
   refine Goes.exit ?_
   obtain rfl:=si g32
   exact⟨rfl,_,_,rfl,(Sub.norm [] [some 1,some 2] rfl rfl (.drop (.kp .nil)) (.kb rfl (.bld (rc ((zV.pz rfl)) (rc (.hs rfl) rn))) (.ks .nil)))⟩
 rintro x s' ⟨rfl,ok30,o,rfl,hsub⟩
 try dsimp only at h
 refine Goes.sub hsub ?_
 obtain⟨G,H,h⟩:=bnd h
 refine sq (gq fol [0] (kBH G) [.dead,.dead] (ac (hs (.callH 252 [.ptr 0 0] [.bld 268 5 [pz ok30 0 0,hsl 1 1 o],.cells ((hof o).flatMap (qa .u8).c)] [0,1] (.str G) [.dead,.dead]) (qfX [some 0,some 1] [none,none] (qpg ok30 o H) (.kb rfl (.bld (rc ((zV.pz rfl)) (rc (.hs rfl) rn))) (.ks .nil)) rfl rfl (.dead (.dead .nil)) (rc (.ptr rfl) rn) (.same nS) rfl)) az) ?_)
 refine Goes.ret ?_
 obtain rfl:=si h
 exact(gw2 [.str G] (Ua tS))
def qaP (a:ql):Option Int:=
 (qE a).bind fun b=>
 if(b.2.length:Int)=0 then
 some 0
 else
 (idx b.2 (w64 ((b.2.length:Int)-1))).bind fun c=>
 (bits_Len64 c).bind fun d=>
 some (w64 ((w64 (64*(w64 ((b.2.length:Int)-1))))+d))
theorem qdx (a:ql) {res:Int} (h:qaP a=some res):qb ZT (.fn 247) [.agg (nz1 a)] [] (.i res) []:=by
 unfold qaP at h
 refine Ub Tryz.func247 rfl rfl (m:=25) rfl (rs:=[.tmp 2]) rfl (l:=[(0,.agg (nz1 a))]) rfl ?_
 refine sg fol (kR []) [.cells (nz1 a)] ?_
 obtain⟨c,d,h⟩:=bnd h
 refine sq (gr fol [1] [(4,vl (qa .u64) c.2)] (ac (cv (zF a d)) az) ?_)
 refine sq ?_
 refine sh fol ((4,vl (qa .u64) c.2)::(kA1 (decide ((c.2.length:Int)=0)))) ?_
 refine ihD h (fun g h=>?_) (fun g h=>?_)
 ·refine sh fol [(2,.i 0)] ?_
  refine Goes.ret ?_
  obtain rfl:=si h
  exact(gw2 [.i 0] (Ua tI))
 refine Goes.skip ?_
 obtain⟨j,b,h⟩:=bnd h
 obtain⟨f,e,h⟩:=bnd h
 refine sq (gr fol [8,9,10] (kA3 (w64 ((w64 (64*(w64 ((c.2.length:Int)-1))))+f))) (ac (iv qK (qa .u64) b) (ac (lv 0 zO (qa .u64) b rfl) (ac (cv (qeJ j e)) az))) ?_)
 refine Goes.ret ?_
 obtain rfl:=si h
 exact(gw2 [.i (w64 ((w64 (64*(w64 ((c.2.length:Int)-1))))+f))] (Ua tI))
def qcA (N:Nat) (n:ql):Option Bool:=
 ((qaP n).bind fun a=>
 if a>1800 then
 (jO N n).bind fun b=>
 (strings_TrimPrefix b [45]).bind fun c=>
 some (decide ((c.length:Int)>600))
 else
 some false:Option Bool).bind fun d=>
 some d
theorem qdR (N:Nat) (n:ql) {res:Bool} (h:qcA N n=some res):qb ZT (.fn 192) [.agg (nz1 n)] [] (.bool res) []:=by
 unfold qcA at h
 refine Ub Tryz.func192 rfl rfl (m:=13) rfl (rs:=[.tmp 2]) rfl (l:=[(0,.agg (nz1 n))]) rfl ?_
 refine sg fol (kR []) [.cells (nz1 n)] ?_
 refine sq ?_
 obtain⟨f,a,h⟩:=bnd h
 refine Goes.cut (s':=(ofG 13 (kBQ f),[.cells (nz1 n)])) ?_ ?_
 ·obtain⟨j,b,a⟩:=bnd a
  rcases wyD a with⟨e,a⟩|⟨e,a⟩
  ·obtain⟨g,c,a⟩:=bnd a
   obtain⟨i,d,a⟩:=bnd a
   obtain rfl:=si a
   exact tr fol [1,3,5,6] (kBQ (decide ((i.length:Int)>600))) (ac (cv (qdx n b)) (ac (gw e) (ac (cv (xE N n c)) (ac (cv (qa7 g [45] d)) az))))
  obtain rfl:=si a
  exact tr fol [1,3] kAq (ac (cv (qdx n b)) (ac (gw e) az))
 refine Goes.ret ?_
 obtain rfl:=si h
 exact(gw2 [.bool f] (Ua tB))
def xI (N:Nat) (a:qM):Option Bool:=
 ((qcA N a.Num).bind fun b=>
 if b=true then
 some true
 else
 (qcA N a.Den).bind fun c=>
 some c:Option Bool).bind fun d=>
 some d
theorem qfq (N:Nat) (a:qM) {res:Bool} (h:xI N a=some res):qb ZT (.fn 132) [.agg (nq1 a)] [] (.bool res) []:=by
 unfold xI at h
 refine Ub Tryz.func132 rfl rfl (m:=11) rfl (rs:=[.tmp 2]) rfl (l:=[(0,.agg (nq1 a))]) rfl ?_
 refine sg fol (kR []) [.cells (nq1 a)] ?_
 refine sq ?_
 obtain⟨f,b,h⟩:=bnd h
 refine Goes.cut (s':=(ofG 11 (kBQ f),[.cells (nq1 a)])) ?_ ?_
 ·obtain⟨i,c,b⟩:=bnd b
  rcases wyB b with⟨e,b⟩|⟨e,b⟩
  ·obtain rfl:=si b
   exact tr fol [2,3] kBd (ac (cv (qdR N a.Num c)) (ac (gw e) az))
  obtain⟨g,d,b⟩:=bnd b
  obtain rfl:=si b
  exact tr fol [2,3,6] (kBQ g) (ac (cv (qdR N a.Num c)) (ac (gw e) (ac (cv (qdR N a.Den d)) az)))
 refine Goes.ret ?_
 obtain rfl:=si h
 exact(gw2 [.bool f] (Ua tB))
def jC (a:qM):Option Bool:=
 (if a.Den.w.isEmpty=true then
 some (decide (a.Den.s=1))
 else
 some false:Option Bool).bind fun b=>
 some b
theorem yK (a:qM) {res:Bool} (h:jC a=some res):qb ZT (.fn 134) [.agg (nq1 a)] [] (.bool res) []:=by
 unfold jC at h
 refine Ub Tryz.func134 rfl rfl (m:=13) rfl (rs:=[.tmp 2]) rfl (l:=[(0,.agg (nq1 a))]) rfl ?_
 refine sg fol (kR []) [.cells (nq1 a)] ?_
 refine sq ?_
 obtain⟨d,b,h⟩:=bnd h
 refine Goes.cut (s':=(ofG 13 (kBQ d),[.cells (nq1 a)])) ?_ ?_
 ·rcases wyB b with⟨c,b⟩|⟨c,b⟩
  ·obtain rfl:=si b
   exact tr fol [3,4] (kBQ (decide (a.Den.s=1))) (ac (hs (.done (.opt (qZ ZT .eql 103 (.tmp 5) (.const (.slice none 0 0)) (nvl (qa .u64) a.Den.w) .nilslice)) (.bool a.Den.w.isEmpty)) (qat yc)) (ac (gw c) az))
  obtain rfl:=si b
  exact tr fol [3,4] kAq (ac (hs (.done (.opt (qZ ZT .eql 103 (.tmp 5) (.const (.slice none 0 0)) (nvl (qa .u64) a.Den.w) .nilslice)) (.bool a.Den.w.isEmpty)) (qat yc)) (ac (gw c) az))
 refine Goes.ret ?_
 obtain rfl:=si h
 exact(gw2 [.bool d] (Ua tB))
def qaq (N:Nat) (a:qM):Option Str:=
 (jC a).bind fun b=>
 if b=true then
 (jO N a.Num).bind fun c=>
 some c
 else
 (jO N a.Num).bind fun d=>
 (cat d [47]).bind fun e=>
 (jO N a.Den).bind fun f=>
 (cat e f).bind fun g=>
 some g
theorem qfO (N:Nat) (a:qM) {res:Str} (h:qaq N a=some res):qb ZT (.fn 133) [.agg (nq1 a)] [] (.str res) []:=by
 unfold qaq at h
 refine Ub Tryz.func133 rfl rfl (m:=16) rfl (rs:=[.tmp 2]) rfl (l:=[(0,.agg (nq1 a))]) rfl ?_
 refine sg fol (kR []) [.cells (nq1 a)] ?_
 refine sq ?_
 obtain⟨n,b,h⟩:=bnd h
 refine sq (gr fol [1] (kR (kBM n)) (ac (cv (yK a b)) az) ?_)
 refine ihB h (fun o h=>?_) (fun o h=>?_)
 ·obtain⟨j,c,h⟩:=bnd h
  refine sq (gr fol [2] (kBH j) (ac (cv (xE N a.Num c)) az) ?_)
  refine Goes.ret ?_
  obtain rfl:=si h
  exact(gw2 [.str j] (Ua tS))
 refine Goes.skip ?_
 obtain⟨p,d,h⟩:=bnd h
 obtain⟨k,e,h⟩:=bnd h
 obtain⟨q,f,h⟩:=bnd h
 obtain⟨i,g,h⟩:=bnd h
 refine sq (gr fol [2,3,6,7] (kBH i) (ac (cv (xE N a.Num d)) (ac (hs (.done (.opt (qZ ZT .add 9 (.tmp 10) (.const (.string ⟨#[47]⟩)) (.str p) (.str [47]))) (.str k)) (qax e)) (ac (cv (xE N a.Den f)) (ac (hs (.done (.opt (qZ ZT .add 9 (.tmp 11) (.tmp 14) (.str k) (.str q))) (.str i)) (qax g)) az)))) ?_)
 refine Goes.ret ?_
 obtain rfl:=si h
 exact(gw2 [.str i] (Ua tS))
def xO (N:Nat) (a:qM):Option (Str×Int):=
 (xI N a).bind fun b=>
 if b=true then
 some ([],4)
 else
 (qaq N a).bind fun c=>
 some (c,0)
theorem qdJ (N:Nat) (a:qM) {res:Str×Int} (h:xO N a=some res):qb ZT (.fn 62) [.agg (nq1 a)] [] (.tuple [.str res.1,.i res.2]) []:=by
 unfold xO at h
 refine Ub Tryz.func62 rfl rfl (m:=8) rfl (rs:=[.tmp 2,.tmp 3]) rfl (l:=[(0,.agg (nq1 a))]) rfl ?_
 refine sg fol (kR []) [.cells (nq1 a)] ?_
 refine sq ?_
 obtain⟨e,b,h⟩:=bnd h
 refine sq (gr fol [1] (kR (kBh e)) (ac (cv (qfq N a b)) az) ?_)
 refine ihB h (fun f h=>?_) (fun f h=>?_)
 ·refine sh fol [(2,.str []),(3,.i 4)] ?_
  refine Goes.ret ?_
  obtain rfl:=si h
  exact(gw2 [.str [],.i 4] (FzW.tuple (qd.cons (Ua tS) (qd.cons (Ua tI) qd.nil))))
 refine Goes.skip ?_
 obtain⟨d,c,h⟩:=bnd h
 refine sq (gr fol [1] [(2,.str d),(3,.i 0)] (ac (cv (qfO N a c)) az) ?_)
 refine Goes.ret ?_
 obtain rfl:=si h
 exact(gw2 [.str d,.i 0] (FzW.tuple (qd.cons (Ua tS) (qd.cons (Ua tI) qd.nil))))
def vE (N:Nat) (a:ql) (b:ql):Option ql:=
 (kg b).bind fun f=>
 ((if f<0 then
 (zu a).bind fun d=>
 (zu b).bind fun e=>
 some (d.s,d.w,e.s,e.w)
 else
 some (a.s,a.w,b.s,b.w):Option (Int×(List Int)×Int×(List Int)))).bind fun(g,h,i,j)=>
 (jc N (⟨g,h⟩:ql) (⟨i,j⟩:ql)).bind fun c=>
 some c.1
theorem qd7 (N:Nat) (a:ql) (b:ql) {res:ql} (h:vE N a b=some res):qb ZT (.fn 199) [.agg (nz1 a),.agg (nz1 b)] [] (.agg (nz1 res)) []:=by
 unfold vE at h
 refine Ub Tryz.func199 rfl rfl (m:=21) rfl (rs:=[.cell 4 105]) rfl (l:=[(0,.agg (nz1 a)),(1,.agg (nz1 b))]) rfl ?_
 refine sg fol (kE []) [.cells (nz1 a),.cells (nz1 b),bZ] ?_
 refine sq ?_
 obtain⟨r,j,h⟩:=bnd h
 refine sq (gr fol [1] (kE [(9,.bool (decide (r<0)))]) (ac (cv (yg b j)) az) ?_)
 obtain⟨s,g6,h⟩:=bnd h
 refine Goes.imp (Q:=fun x s'=>(x= .normal/\ ∃d e f g,(d,e,f,g)=s/\Sub s' (ofG 21 (kE []),[.cells (ni1 d e),.cells (ni1 f g),bZ]))) ?_ ?_
 ·refine ihD g6 (fun t g6=>?_) (fun t g6=>?_)
  ·obtain⟨k,o,g6⟩:=bnd g6
   obtain⟨q,p,g6⟩:=bnd g6
   refine gq fol [1,3,4,5] (kE []) [.cells (nz1 k),.cells (nz1 q),bZ] (ac (cv (jQ a o)) (ac (cv (jQ b p)) (ac (hs (.run [0] (qy ZT 105 (.ptr 0 0) (.agg (nz1 k))) [.cells (nz1 a),.cells (nz1 b),bZ] .undef [.cells (nz1 k),.cells (nz1 b),bZ] true) (zk (n:=2) (by kernel_rfl) rfl rfl rfl rfl (cac rfl (cac nvc can)) rfl)) (ac (hs (.run [1] (qy ZT 105 (.ptr 1 0) (.agg (nz1 q))) [.cells (nz1 k),.cells (nz1 b),bZ] .undef [.cells (nz1 k),.cells (nz1 q),bZ] true) (zk (n:=2) (by kernel_rfl) rfl rfl rfl rfl (cac rfl (cac nvc can)) rfl)) az)))) ?_
   obtain rfl:=si g6
   exact⟨rfl,_,_,_,_,rfl,(Sub.refl _)⟩
  refine Goes.skip ?_
  obtain rfl:=si g6
  exact⟨rfl,_,_,_,_,rfl,(Sub.keep [2,3,4] rfl rfl)⟩
 rintro x s' ⟨rfl,d,e,f,g,rfl,hsub⟩
 try dsimp only at h
 refine Goes.sub hsub ?_
 obtain⟨c,i,h⟩:=bnd h
 refine sq (gq fol [2,8,9] (kAS (kBW [])) [.cells (ni1 d e),.cells (ni1 f g),bZ,.cells (nz1 c.1),.cells (nz1 c.2)] (ac (cv (qci N (⟨d,e⟩:ql) (⟨f,g⟩:ql) i)) (ac (hs (.run [3] (qy ZT 105 (.ptr 3 0) (.agg (nz1 c.1))) [.cells (ni1 d e),.cells (ni1 f g),bZ,bZ,bZ] .undef [.cells (ni1 d e),.cells (ni1 f g),bZ,.cells (nz1 c.1),bZ] true) (zk (n:=2) (by kernel_rfl) rfl rfl rfl rfl (cac rfl (cac nvc can)) rfl)) (ac (hs (.run [4] (qy ZT 105 (.ptr 4 0) (.agg (nz1 c.2))) [.cells (ni1 d e),.cells (ni1 f g),bZ,.cells (nz1 c.1),bZ] .undef [.cells (ni1 d e),.cells (ni1 f g),bZ,.cells (nz1 c.1),.cells (nz1 c.2)] true) (zk (n:=2) (by kernel_rfl) rfl rfl rfl rfl (cac rfl (cac nvc can)) rfl)) az))) ?_)
 refine sq (gq fol [1] (kAS []) [.cells (ni1 d e),.cells (ni1 f g),.cells (nz1 c.1),.cells (nz1 c.1),.cells (nz1 c.2)] (ac (hs (.run [2] (qy ZT 105 (.ptr 2 0) (.agg (nz1 c.1))) [.cells (ni1 d e),.cells (ni1 f g),bZ,.cells (nz1 c.1),.cells (nz1 c.2)] .undef [.cells (ni1 d e),.cells (ni1 f g),.cells (nz1 c.1),.cells (nz1 c.1),.cells (nz1 c.2)] true) (zk (n:=2) (by kernel_rfl) rfl rfl rfl rfl (cac rfl (cac nvc can)) rfl)) az) ?_)
 refine Goes.ret ?_
 obtain rfl:=si h
 exact(gw2 [.agg (nz1 c.1)] (FzW.agg (qd.cons (Ua tI) (qd.cons (Ua (qA (qa .u64) _ (nl rfl))) qd.nil))))
def qcR (N:Nat) (num:ql) (den:ql):Option qM:=
 (kg den).bind fun k=>
 ((if k<0 then
 (zu num).bind fun i=>
 (zu den).bind fun j=>
 some (i.s,i.w,j.s,j.w)
 else
 some (num.s,num.w,den.s,den.w):Option (Int×(List Int)×Int×(List Int)))).bind fun(d,e,b,c)=>
 (if c.isEmpty=true then
 some (decide (b=1))
 else
 some false:Option Bool).bind fun f=>
 if f=true then
 some (⟨(⟨d,e⟩:ql),(⟨b,c⟩:ql)⟩:qM)
 else
 (qcm N (⟨d,e⟩:ql) (⟨b,c⟩:ql)).bind fun a=>
 (vE N (⟨d,e⟩:ql) a).bind fun g=>
 (vE N (⟨b,c⟩:ql) a).bind fun h=>
 some (⟨g,h⟩:qM)
theorem qku (N:Nat) (num:ql) (den:ql) {res:qM} (h:qcR N num den=some res):qb ZT (.fn 136) [.agg (nz1 num),.agg (nz1 den)] [] (.agg (nq1 res)) []:=by
 unfold qcR at h
 refine Ub Tryz.func136 rfl rfl (m:=34) rfl (rs:=[.cell 4 107]) rfl (l:=[(0,.agg (nz1 num)),(1,.agg (nz1 den))]) rfl ?_
 refine sg fol (kE []) (.cells (nz1 num):: .cells (nz1 den)::(kF [])) ?_
 refine sq ?_
 obtain⟨A,q,h⟩:=bnd h
 refine sq (gr fol [1] (kE (kBa (decide (A<0)))) (ac (cv (yg den q)) az) ?_)
 obtain⟨B,g6,h⟩:=bnd h
 refine Goes.imp (Q:=fun x s'=>(x= .normal/\ ∃d e c a,(d,e,c,a)=B/\Sub s' (ofG 34 (kE []),(.cells (ni1 d e):: .cells (ni1 c a)::(kF []))))) ?_ ?_
 ·refine ihD g6 (fun C g6=>?_) (fun C g6=>?_)
  ·obtain⟨r,t,g6⟩:=bnd g6
   obtain⟨v,u,g6⟩:=bnd g6
   refine gq fol [1,3,4,5] (kE []) (.cells (nz1 r):: .cells (nz1 v)::(kF [])) (ac (cv (jQ num t)) (ac (cv (jQ den u)) (ac (hs (.run [0] (qy ZT 105 (.ptr 0 0) (.agg (nz1 r))) (.cells (nz1 num):: .cells (nz1 den)::(kF [])) .undef (.cells (nz1 r):: .cells (nz1 den)::(kF [])) true) (zk (n:=2) (by kernel_rfl) rfl rfl rfl rfl (cac rfl (cac nvc can)) rfl)) (ac (hs (.run [1] (qy ZT 105 (.ptr 1 0) (.agg (nz1 v))) (.cells (nz1 r):: .cells (nz1 den)::(kF [])) .undef (.cells (nz1 r):: .cells (nz1 v)::(kF [])) true) (zk (n:=2) (by kernel_rfl) rfl rfl rfl rfl (cac rfl (cac nvc can)) rfl)) az)))) ?_
   obtain rfl:=si g6
   exact⟨rfl,_,_,_,_,rfl,(Sub.refl _)⟩
  refine Goes.skip ?_
  obtain rfl:=si g6
  exact⟨rfl,_,_,_,_,rfl,(Sub.keep [2,3,4] rfl rfl)⟩
 rintro x s' ⟨rfl,d,e,c,a,rfl,hsub⟩
 try dsimp only at h
 refine Goes.sub hsub ?_
 refine sq ?_
 refine sq ?_
 obtain⟨y,b,h⟩:=bnd h
 refine Goes.cut (s':=(ofG 34 (kE [(20,.bool y)]),(.cells (ni1 d e):: .cells (ni1 c a)::(kF [])))) ?_ ?_
 ·rcases wyB b with⟨j,b⟩|⟨j,b⟩
  ·obtain rfl:=si b
   exact tr fol [2,3] (kE [(20,.bool (decide (c=1)))]) (ac (hs (.done (.opt (qZ ZT .eql 103 (.tmp 14) (.const (.slice none 0 0)) (nvl (qa .u64) a) .nilslice)) (.bool a.isEmpty)) (qat yc)) (ac (gw j) az))
  obtain rfl:=si b
  exact tr fol [2,3] (kE [(20,.bool false)]) (ac (hs (.done (.opt (qZ ZT .eql 103 (.tmp 14) (.const (.slice none 0 0)) (nvl (qa .u64) a) .nilslice)) (.bool a.isEmpty)) (qat yc)) (ac (gw j) az))
 refine ihB h (fun z h=>?_) (fun z h=>?_)
 ·refine sq (gq fol [3] (kAS []) [.cells (ni1 d e),.cells (ni1 c a),.cells (ni2 d e c a)] (ac (hs (.run [2] (qy ZT 107 (.ptr 2 0) (.agg (ni2 d e c a))) (.cells (ni1 d e):: .cells (ni1 c a)::(kF [])) .undef [.cells (ni1 d e),.cells (ni1 c a),.cells (ni2 d e c a)] true) (zk (n:=4) (by kernel_rfl) rfl rfl rfl rfl (cac rfl (cac nvc (cac rfl (cac nvc can)))) rfl)) az) ?_)
  refine Goes.ret ?_
  obtain rfl:=si h
  exact(gw2 [.agg (ni2 d e c a)] (FzW.agg (qd.cons (Ua tI) (qd.cons (Ua (qA (qa .u64) _ (nl rfl))) (qd.cons (Ua tI) (qd.cons (Ua (qA (qa .u64) _ (nl rfl))) qd.nil))))))
 refine Goes.skip ?_
 obtain⟨f,k,h⟩:=bnd h
 refine sq (gq fol [2,4] (kE (kBW [])) (.cells (ni1 d e):: .cells (ni1 c a)::(kF [.cells (nz1 f)])) (ac (cv (qg0 N (⟨d,e⟩:ql) (⟨c,a⟩:ql) k)) (ac (hs (.run [3] (qy ZT 105 (.ptr 3 0) (.agg (nz1 f))) (.cells (ni1 d e):: .cells (ni1 c a)::(kF [bZ])) .undef (.cells (ni1 d e):: .cells (ni1 c a)::(kF [.cells (nz1 f)])) true) (zk (n:=2) (by kernel_rfl) rfl rfl rfl rfl (cac rfl (cac nvc can)) rfl)) az)) ?_)
 obtain⟨g,o,h⟩:=bnd h
 obtain⟨i,p,h⟩:=bnd h
 refine sq (gq fol [2,5,7] (kAS []) [.cells (ni1 d e),.cells (ni1 c a),.cells (ni2 g.s g.w i.s i.w),.cells (nz1 f)] (ac (cv (qd7 N (⟨d,e⟩:ql) f o)) (ac (cv (qd7 N (⟨c,a⟩:ql) f p)) (ac (hs (.run [2] (qy ZT 107 (.ptr 2 0) (.agg (ni2 g.s g.w i.s i.w))) (.cells (ni1 d e):: .cells (ni1 c a)::(kF [.cells (nz1 f)])) .undef [.cells (ni1 d e),.cells (ni1 c a),.cells (ni2 g.s g.w i.s i.w),.cells (nz1 f)] true) (zk (n:=4) (by kernel_rfl) rfl rfl rfl rfl (cac rfl (cac nvc (cac rfl (cac nvc can)))) rfl)) az))) ?_)
 refine Goes.ret ?_
 obtain rfl:=si h
 exact(gw2 [.agg (ni2 g.s g.w i.s i.w)] (FzW.agg (qd.cons (Ua tI) (qd.cons (Ua (qA (qa .u64) _ (nl rfl))) (qd.cons (Ua tI) (qd.cons (Ua (qA (qa .u64) _ (nl rfl))) qd.nil))))))
def qj8 (n:Int):Option qM:=
 (qbW n).bind fun a=>
 (qbj a).bind fun b=>
 some b
theorem qn7 (n:Int) {res:qM} (h:qj8 n=some res):qb ZT (.fn 81) [.i n] [] (.agg (nq1 res)) []:=by
 unfold qj8 at h
 refine Ub Tryz.func81 rfl rfl (m:=6) rfl (rs:=[.cell 2 107]) rfl (l:=[(0,.i n)]) rfl ?_
 refine sg fol ((0,.i n)::(kM [])) (kF []) ?_
 obtain⟨d,a,h⟩:=bnd h
 obtain⟨c,b,h⟩:=bnd h
 refine sq (gq fol [1,2,3] (kM []) [.cells (nq1 c)] (ac (cv (qbc n a)) (ac (cv (qcY d b)) (ac (hs (.run [0] (qy ZT 107 (.ptr 0 0) (.agg (nq1 c))) (kF []) .undef [.cells (nq1 c)] true) (zk (n:=4) (by kernel_rfl) rfl rfl rfl rfl (cac rfl (cac nvc (cac rfl (cac nvc can)))) rfl)) az))) ?_)
 refine Goes.ret ?_
 obtain rfl:=si h
 exact(gw2 [.agg (nq1 c)] (FzW.agg (qd.cons (Ua tI) (qd.cons (Ua (qA (qa .u64) _ (nl rfl))) (qd.cons (Ua tI) (qd.cons (Ua (qA (qa .u64) _ (nl rfl))) qd.nil))))))
end Go.Av
