/-
  Walks of functions: what each computes, as a plain function.
-/
import Derived.Test.YtlhmomppjidoiaaGreatDoorQGenY1
noncomputable section
namespace Go.Av
open Go.Proofs Go.RowKit
set_option linter.unusedSectionVars false
set_option linter.unusedVariables false
set_option linter.unusedSimpArgs false
set_option maxRecDepth 100000
def zT (N:Nat) (a:qj) (b:qj):Option (qj×qj):=
 (if a.w.isEmpty=true then
 if b.w.isEmpty=true then
 some (!decide (a.s=(-9223372036854775808)))
 else
 some false
 else
 some false:Option Bool).bind fun r=>
 if r=true then
 (qci .i64 a.s b.s).bind fun q=>
 (qeb .i64 a.s b.s).bind fun i=>
 ((if i<0 then
 some (w64 (q-1),w64 (i+b.s))
 else
 some (q,i):Option (Int×Int))).bind fun(t,u)=>
 some ((⟨t,[]⟩:qj),(⟨u,[]⟩:qj))
 else
 (qF a).bind fun d=>
 (qF b).bind fun j=>
 (qaU N d.2 j.2).bind fun f=>
 (vo d.1 f.1).bind fun e=>
 (vo d.1 f.2).bind fun c=>
 (qV c).bind fun k=>
 ((if k<0 then
 (qcb 1).bind fun l=>
 (xk N e l).bind fun g=>
 (xw N c b).bind fun h=>
 some (g.s,g.w,h.s,h.w)
 else
 some (e.s,e.w,c.s,c.w):Option (Int×(List Int)×Int×(List Int)))).bind fun(m,n,o,p)=>
 some ((⟨m,n⟩:qj),(⟨o,p⟩:qj))
theorem qa0 (N:Nat) (a:qj) (b:qj) {res:qj×qj} (h:zT N a b=some res):qb ZT (.fn 186) [.agg (nz1 a),.agg (nz1 b)] [] (.tuple [.agg (nz1 res.1),.agg (nz1 res.2)]) []:=by
 unfold zT at h
 refine Ub Tryz.func186 rfl rfl (m:=84) rfl (rs:=[.cell 4 105,.cell 5 105]) rfl (l:=[(0,.agg (nz1 a)),(1,.agg (nz1 b))]) rfl ?_
 refine sg fol (kE (kBW [])) [.cells (nz1 a),.cells (nz1 b),bZ,bZ] ?_
 refine sq ?_
 refine sq ?_
 obtain⟨b3,c,h⟩:=bnd h
 refine Goes.cut (s':=(ofG 84 (kE (kBW [(28,.bool b3)])),[.cells (nz1 a),.cells (nz1 b),bZ,bZ])) ?_ ?_
 ·rcases wyB c with⟨L,c⟩|⟨L,c⟩
  ·rcases wyB c with⟨O,c⟩|⟨O,c⟩
   ·obtain rfl:=si c
    exact tr fol [2,3,6,8] (kE (kBW [(28,.bool (!decide (a.s=(-9223372036854775808))))])) (ac (hs (.done (.opt (qY ZT .eql 103 (.tmp 17) (.const (.slice none 0 0)) (nvl (qa .u64) a.w) .nilslice)) (.bool a.w.isEmpty)) (qaB vX)) (ac (gw L) (ac (hs (.done (.opt (qY ZT .eql 103 (.tmp 21) (.const (.slice none 0 0)) (nvl (qa .u64) b.w) .nilslice)) (.bool b.w.isEmpty)) (qaB vX)) (ac (gw O) az))))
   obtain rfl:=si c
   exact tr fol [2,3,6,8] (kE (kBW [(28,.bool false)])) (ac (hs (.done (.opt (qY ZT .eql 103 (.tmp 17) (.const (.slice none 0 0)) (nvl (qa .u64) a.w) .nilslice)) (.bool a.w.isEmpty)) (qaB vX)) (ac (gw L) (ac (hs (.done (.opt (qY ZT .eql 103 (.tmp 21) (.const (.slice none 0 0)) (nvl (qa .u64) b.w) .nilslice)) (.bool b.w.isEmpty)) (qaB vX)) (ac (gw O) az))))
  obtain rfl:=si c
  exact tr fol [2,3] (kE (kBW [(28,.bool false)])) (ac (hs (.done (.opt (qY ZT .eql 103 (.tmp 17) (.const (.slice none 0 0)) (nvl (qa .u64) a.w) .nilslice)) (.bool a.w.isEmpty)) (qaB vX)) (ac (gw L) az))
 refine ihB h (fun c5 h=>?_) (fun c5 h=>?_)
 ·obtain⟨M,F,h⟩:=bnd h
  obtain⟨G,H,h⟩:=bnd h
  refine sq (gr fol [4,9] (kAZ (kAS (kBW (kAA M G [])))) (ac (hs (.done (.opt (qY ZT .quo 3 (.tmp 30) (.tmp 32) (.i a.s) (.i b.s))) (.i M)) (qbR F)) (ac (hs (.done (.opt (qY ZT .rem 3 (.tmp 35) (.tmp 37) (.i a.s) (.i b.s))) (.i G)) (qfp H)) az)) ?_)
  refine sq ?_
  refine sh fol (kAZ (kAS (kBW (kAA M G [(40,.bool (decide (G<0)))])))) ?_
  obtain⟨P,g10,h⟩:=bnd h
  refine Goes.imp (Q:=fun x s'=>(x= .normal/\ ∃I J,(I,J)=P/\Sub s' (ofG 84 (kAP (kBL (kAA I J []))),[bZ,bZ]))) ?_ ?_
  ·refine ihD g10 (fun U g10=>?_) (fun U g10=>?_)
   ·refine gh fol (kAS (kBW (kAA (w64 (M-1)) (w64 (G+b.s)) []))) ?_
    obtain rfl:=si g10
    exact⟨rfl,_,_,rfl,(Sub.norm [] [some 2,some 3] rfl rfl (.kp (.kp (.keep (.same nI) (.keep (.same nI) .nil)))) (.kb rfl (.same sn) (.kb rfl (.same sn) .nil)))⟩
   refine Goes.skip ?_
   obtain rfl:=si g10
   exact⟨rfl,_,_,rfl,(Sub.norm [] [some 2,some 3] rfl rfl (.drop (.kp (.kp (.keep (.same nI) (.keep (.same nI) .nil))))) (.kb rfl (.same sn) (.kb rfl (.same sn) .nil)))⟩
  rintro x s' ⟨rfl,I,J,rfl,hsub⟩
  try dsimp only at h
  refine Goes.sub hsub ?_
  refine sg fol (kAP (kBL [])) (.cells [.i I,.nilslice]::(kBC J)) ?_
  refine Goes.ret ?_
  obtain rfl:=si h
  exact(gw2 [.agg [.i I,.nilslice],.agg [.i J,.nilslice]] (FzW.tuple (qc.cons (FzW.agg (qc.cons (Ua tI) (qc.cons (FzW.nv0 (E:=(qa .u64))) qc.nil))) (qc.cons (FzW.agg (qc.cons (Ua tI) (qc.cons (FzW.nv0 (E:=(qa .u64))) qc.nil))) qc.nil))))
 refine Goes.skip ?_
 obtain⟨j,r,h⟩:=bnd h
 refine sq (gr fol [1] (kAZ (kAS (kBW [(8,.bool j.1),(9,vl (qa .u64) j.2)]))) (ac (cv (zF a r)) az) ?_)
 obtain⟨K,t,h⟩:=bnd h
 refine sq (gr fol [1] (kAZ (kAS (kBW [(8,.bool j.1),(9,vl (qa .u64) j.2),(11,vl (qa .u64) K.2)]))) (ac (cv (zF b t)) az) ?_)
 obtain⟨q,u,h⟩:=bnd h
 refine sq (gr fol [2] (kAZ (kAS (kBW [(8,.bool j.1),(12,vl (qa .u64) q.1),(13,vl (qa .u64) q.2)]))) (ac (cv (qeN N j.2 K.2 u)) az) ?_)
 obtain⟨o,v,h⟩:=bnd h
 obtain⟨k,y,h⟩:=bnd h
 refine sq (gq fol [2,5,8,9] (kAZ (kAS (kBW [(14,.ptr 4 0),(15,.ptr 5 0)]))) [.cells (nz1 a),.cells (nz1 b),bZ,bZ,.cells (nz1 o),.cells (nz1 k)] (ac (cv (qaf j.1 q.1 v)) (ac (cv (qaf j.1 q.2 y)) (ac (hs (.run [4] (qp ZT 105 (.ptr 4 0) (.agg (nz1 o))) [.cells (nz1 a),.cells (nz1 b),bZ,bZ,bZ,bZ] .undef [.cells (nz1 a),.cells (nz1 b),bZ,bZ,.cells (nz1 o),bZ] true) (qX (n:=2) (by kernel_rfl) rfl rfl rfl rfl (cac rfl (cac nvc can)) rfl)) (ac (hs (.run [5] (qp ZT 105 (.ptr 5 0) (.agg (nz1 k))) [.cells (nz1 a),.cells (nz1 b),bZ,bZ,.cells (nz1 o),bZ] .undef [.cells (nz1 a),.cells (nz1 b),bZ,bZ,.cells (nz1 o),.cells (nz1 k)] true) (qX (n:=2) (by kernel_rfl) rfl rfl rfl rfl (cac rfl (cac nvc can)) rfl)) az)))) ?_)
 refine sq ?_
 obtain⟨V,z,h⟩:=bnd h
 refine sq (gr fol [1] (kAZ (kAS (kBW [(14,.ptr 4 0),(15,.ptr 5 0),(75,.bool (decide (V<0)))]))) (ac (cv (yz k z)) az) ?_)
 obtain⟨X,g22,h⟩:=bnd h
 refine Goes.imp (Q:=fun x s'=>(x= .normal/\ ∃d e f g,(d,e,f,g)=X/\Sub s' (ofG 84 (kAP (kBL [(14,.ptr 2 0),(15,.ptr 3 0)])),[bZ,bZ,.cells (ni1 d e),.cells (ni1 f g)]))) ?_ ?_
 ·refine ihD g22 (fun Y g22=>?_) (fun Y g22=>?_)
  ·obtain⟨Z,A,g22⟩:=bnd g22
   obtain⟨p,B,g22⟩:=bnd g22
   obtain⟨C,D,g22⟩:=bnd g22
   refine gq fol [1,2,5,6,7] (kAS (kBW [(14,.ptr 4 0),(15,.ptr 5 0)])) [.cells (nz1 a),.cells (nz1 b),bZ,bZ,.cells (nz1 p),.cells (nz1 C)] (ac (cv (qbr 1 A)) (ac (cv (qeh N o Z B)) (ac (cv (qca N k b D)) (ac (hs (.run [4] (qp ZT 105 (.ptr 4 0) (.agg (nz1 p))) [.cells (nz1 a),.cells (nz1 b),bZ,bZ,.cells (nz1 o),.cells (nz1 k)] .undef [.cells (nz1 a),.cells (nz1 b),bZ,bZ,.cells (nz1 p),.cells (nz1 k)] true) (qX (n:=2) (by kernel_rfl) rfl rfl rfl rfl (cac rfl (cac nvc can)) rfl)) (ac (hs (.run [5] (qp ZT 105 (.ptr 5 0) (.agg (nz1 C))) [.cells (nz1 a),.cells (nz1 b),bZ,bZ,.cells (nz1 p),.cells (nz1 k)] .undef [.cells (nz1 a),.cells (nz1 b),bZ,bZ,.cells (nz1 p),.cells (nz1 C)] true) (qX (n:=2) (by kernel_rfl) rfl rfl rfl rfl (cac rfl (cac nvc can)) rfl)) az))))) ?_
   obtain rfl:=si g22
   exact⟨rfl,_,_,_,_,rfl,(Sub.norm [] [some 2,some 3,some 4,some 5] rfl rfl (.kp (.kp (.kp (.kp .nil)))) (.kb rfl (.same sn) (.kb rfl (.same sn) (.kb rfl (.same sn) (.kb rfl (.same sn) .nil)))))⟩
  refine Goes.skip ?_
  obtain rfl:=si g22
  exact⟨rfl,_,_,_,_,rfl,(Sub.norm [] [some 2,some 3,some 4,some 5] rfl rfl (.drop (.kp (.kp (.kp (.kp .nil))))) (.kb rfl (.same sn) (.kb rfl (.same sn) (.kb rfl (.same sn) (.kb rfl (.same sn) .nil)))))⟩
 rintro x s' ⟨rfl,d,e,f,g,rfl,hsub⟩
 try dsimp only at h
 refine Goes.sub hsub ?_
 refine sq (gq fol [2,3] (kAP (kBL [])) [.cells (ni1 d e),.cells (ni1 f g),.cells (ni1 d e),.cells (ni1 f g)] (ac (hs (.run [0] (qp ZT 105 (.ptr 0 0) (.agg (ni1 d e))) [bZ,bZ,.cells (ni1 d e),.cells (ni1 f g)] .undef [.cells (ni1 d e),bZ,.cells (ni1 d e),.cells (ni1 f g)] true) (qX (n:=2) (by kernel_rfl) rfl rfl rfl rfl (cac rfl (cac nvc can)) rfl)) (ac (hs (.run [1] (qp ZT 105 (.ptr 1 0) (.agg (ni1 f g))) [.cells (ni1 d e),bZ,.cells (ni1 d e),.cells (ni1 f g)] .undef [.cells (ni1 d e),.cells (ni1 f g),.cells (ni1 d e),.cells (ni1 f g)] true) (qX (n:=2) (by kernel_rfl) rfl rfl rfl rfl (cac rfl (cac nvc can)) rfl)) az)) ?_)
 refine Goes.ret ?_
 obtain rfl:=si h
 exact(gw2 [.agg (ni1 d e),.agg (ni1 f g)] (FzW.tuple (qc.cons (FzW.agg (qc.cons (Ua tI) (qc.cons (Ua (qo (qa .u64) _ (nl rfl))) qc.nil))) (qc.cons (FzW.agg (qc.cons (Ua tI) (qc.cons (Ua (qo (qa .u64) _ (nl rfl))) qc.nil))) qc.nil))))
def yg (N:Nat):Nat->Int->(List Int)->Int->(List Int)->Option (Int×(List Int))
 |0,_,_,_,_=>none
 |K+1,e,f,b,c=>
  (qV (⟨b,c⟩:qj)).bind fun d=>
  if(!decide (d=0))=true then
  (zT N (⟨e,f⟩:qj) (⟨b,c⟩:qj)).bind fun a=>
  yg N K b c a.2.s a.2.w
  else
  some (e,f)
def qcw (N:Nat) (a:qj) (b:qj):Option qj:=
 (qaW a).bind fun c=>
 (qaW b).bind fun d=>
 (yg N N c.s c.w d.s d.w).bind fun(e,f)=>
 some (⟨e,f⟩:qj)
theorem qhR (N:Nat) (a:qj) (b:qj) {res:qj} (h:qcw N a b=some res):qb ZT (.fn 125) [.agg (nz1 a),.agg (nz1 b)] [] (.agg (nz1 res)) []:=by
 unfold qcw at h
 refine Ub Tryz.func125 rfl rfl (m:=23) rfl (rs:=[.cell 4 105]) rfl (l:=[(0,.agg (nz1 a)),(1,.agg (nz1 b))]) rfl ?_
 refine sg fol (kE []) [.cells (nz1 a),.cells (nz1 b),bZ] ?_
 obtain⟨p,q,h⟩:=bnd h
 obtain⟨t,r,h⟩:=bnd h
 refine sq (gq fol [1,3,4,5] (kE []) [.cells (nz1 p),.cells (nz1 t),bZ] (ac (cv (qdY a q)) (ac (cv (qdY b r)) (ac (hs (.run [0] (qp ZT 105 (.ptr 0 0) (.agg (nz1 p))) [.cells (nz1 a),.cells (nz1 b),bZ] .undef [.cells (nz1 p),.cells (nz1 b),bZ] true) (qX (n:=2) (by kernel_rfl) rfl rfl rfl rfl (cac rfl (cac nvc can)) rfl)) (ac (hs (.run [1] (qp ZT 105 (.ptr 1 0) (.agg (nz1 t))) [.cells (nz1 p),.cells (nz1 b),bZ] .undef [.cells (nz1 p),.cells (nz1 t),bZ] true) (qX (n:=2) (by kernel_rfl) rfl rfl rfl rfl (cac rfl (cac nvc can)) rfl)) az)))) ?_)
 refine sq (Goes.block ?_)
 obtain⟨w,g9,h⟩:=bnd h
 refine Goes.imp (Q:=fun x s'=>(x= .exit 0/\ ∃f g,(f,g)=w/\Sub s' (ofG 23 (kM (kAb [])),[.cells (ni1 f g),bZ]))) ?_ ?_
 ·refine Uc (fun M s=> ∃(i:Int) (j:List Int) (d:Int) (e:List Int),s=(ofG 23 (kE []),[.cells (ni1 i j),.cells (ni1 d e),bZ])/\yg N M i j d e=some w) ?_ (m:=N) ⟨_,_,_,_,rfl,g9⟩
  rintro M s ⟨i,j,d,e,rfl,g9⟩
  cases M with
  |zero=>simp only[yg]at g9;cases g9
  |succ M=>
   rw[yg]at g9
   refine sq ?_
   obtain⟨u,k,g9⟩:=bnd g9
   refine sq (gr fol [1] (kE (kBE (!decide (u=0)))) (ac (cv (yz (⟨d,e⟩:qj) k)) az) ?_)
   refine ihB g9 (fun v g9=>?_) (fun v g9=>?_)
   ·refine Goes.skip ?_
    refine Goes.block ?_
    obtain⟨c,o,g9⟩:=bnd g9
    refine sq (gq fol [2,8,9] (kE [(6,.ptr 4 0)]) [.cells (ni1 i j),.cells (ni1 d e),bZ,.cells (nz1 c.1),.cells (nz1 c.2)] (ac (cv (qa0 N (⟨i,j⟩:qj) (⟨d,e⟩:qj) o)) (ac (hs (.run [3] (qp ZT 105 (.ptr 3 0) (.agg (nz1 c.1))) [.cells (ni1 i j),.cells (ni1 d e),bZ,bZ,bZ] .undef [.cells (ni1 i j),.cells (ni1 d e),bZ,.cells (nz1 c.1),bZ] true) (qX (n:=2) (by kernel_rfl) rfl rfl rfl rfl (cac rfl (cac nvc can)) rfl)) (ac (hs (.run [4] (qp ZT 105 (.ptr 4 0) (.agg (nz1 c.2))) [.cells (ni1 i j),.cells (ni1 d e),bZ,.cells (nz1 c.1),bZ] .undef [.cells (ni1 i j),.cells (ni1 d e),bZ,.cells (nz1 c.1),.cells (nz1 c.2)] true) (qX (n:=2) (by kernel_rfl) rfl rfl rfl rfl (cac rfl (cac nvc can)) rfl)) az))) ?_)
    refine gq fol [2,3] (kE []) [.cells (ni1 d e),.cells (nz1 c.2),bZ,.cells (nz1 c.1),.cells (nz1 c.2)] (ac (hs (.run [0] (qp ZT 105 (.ptr 0 0) (.agg (ni1 d e))) [.cells (ni1 i j),.cells (ni1 d e),bZ,.cells (nz1 c.1),.cells (nz1 c.2)] .undef [.cells (ni1 d e),.cells (ni1 d e),bZ,.cells (nz1 c.1),.cells (nz1 c.2)] true) (qX (n:=2) (by kernel_rfl) rfl rfl rfl rfl (cac rfl (cac nvc can)) rfl)) (ac (hs (.run [1] (qp ZT 105 (.ptr 1 0) (.agg (nz1 c.2))) [.cells (ni1 d e),.cells (ni1 d e),bZ,.cells (nz1 c.1),.cells (nz1 c.2)] .undef [.cells (ni1 d e),.cells (nz1 c.2),bZ,.cells (nz1 c.1),.cells (nz1 c.2)] true) (qX (n:=2) (by kernel_rfl) rfl rfl rfl rfl (cac rfl (cac nvc can)) rfl)) az)) ?_
    exact⟨M,(ofG 23 (kE []),[.cells (ni1 d e),.cells (nz1 c.2),bZ]),Nat.lt_succ_self _,(Sub.norm [] [some 0,some 1,some 2] rfl rfl (.kp (.kp (.kp .nil))) (.kb rfl (.same sn) (.kb rfl (.same sn) (.kb rfl (.same sn) .nil)))),_,_,_,_,rfl,g9⟩
   refine Goes.exit ?_
   obtain rfl:=si g9
   exact⟨rfl,_,_,rfl,(Sub.norm [] [some 0,some 2] rfl rfl (.kp (.drop (.kp .nil))) (.kb rfl (.same sn) (.kb rfl (.same sn) .nil)))⟩
 rintro x s' ⟨rfl,f,g,rfl,hsub⟩
 try dsimp only at h
 refine Goes.sub hsub ?_
 refine sq (gq fol [1] (kAb []) [.cells (ni1 f g),.cells (ni1 f g)] (ac (hs (.run [1] (qp ZT 105 (.ptr 1 0) (.agg (ni1 f g))) [.cells (ni1 f g),bZ] .undef [.cells (ni1 f g),.cells (ni1 f g)] true) (qX (n:=2) (by kernel_rfl) rfl rfl rfl rfl (cac rfl (cac nvc can)) rfl)) az) ?_)
 refine Goes.ret ?_
 obtain rfl:=si h
 exact(gw2 [.agg (ni1 f g)] (FzW.agg (qc.cons (Ua tI) (qc.cons (Ua (qo (qa .u64) _ (nl rfl))) qc.nil))))
def jD (b:List Int) (l:Int) (g:Int):Nat->(List Int)->Int->Int->Option ((List Int)×Int)
 |0,_,_,_=>none
 |K+1,h,a,c=>
  if a<(b.length:Int)then
  (idx b a).bind fun i=>
  (bits_Mul64 l i).bind fun d=>
  (idx h (w64 (g+a))).bind fun j=>
  (xS d.2 j 0).bind fun e=>
  (xS e.1 c 0).bind fun f=>
  (put h (w64 (g+a)) f.1).bind fun k=>
  jD b l g K k (w64 (a+1)) (IntKind.wrap .u64 ((IntKind.wrap .u64 (d.1+e.2))+f.2))
  else
  some (h,c)
def jC (N:Nat) (a:List Int) (b:List Int):Nat->(List Int)->Int->Option (List Int)
 |0,_,_=>none
 |K+1,g,c=>
  if c<(a.length:Int)then
  (idx a c).bind fun h=>
  (jD b h c N g 0 0).bind fun(d,e)=>
  (idx d (w64 (c+(b.length:Int)))).bind fun i=>
  (put d (w64 (c+(b.length:Int))) e).bind fun f=>
  jC N a b K f (w64 (c+1))
  else
  some g
def qau (N:Nat) (a:List Int) (b:List Int):Option (List Int):=
 (mk 8 (w64 ((a.length:Int)+(b.length:Int))) 0).bind fun d=>
 (jC N a b N d 0).bind fun e=>
 (xc N e).bind fun c=>
 some c
theorem qgn (N:Nat) (a:List Int) (b:List Int) {res:List Int} (h:qau N a b=some res):qb ZT (.fn 202) [vl (qa .u64) a,vl (qa .u64) b] [] (vl (qa .u64) res) []:=by
 unfold qau at h
 refine Ub Tryz.func202 rfl rfl (m:=80) rfl (rs:=[.tmp 4]) rfl (l:=[(0,vl (qa .u64) a),(1,vl (qa .u64) b)]) rfl ?_
 refine sh fol [(0,vl (qa .u64) a),(1,vl (qa .u64) b)] ?_
 obtain⟨L,O,h⟩:=bnd h
 refine sq (gq fol [5] ((0,vl (qa .u64) a)::(1,vl (qa .u64) b)::(kD L [])) [.cells (L.flatMap (qa .u64).c)] (ac (hs (.run [] (ji ZT 103 (.i (w64 ((a.length:Int)+(b.length:Int)))) (.i (w64 ((a.length:Int)+(b.length:Int))))) [] (.slice 0 0 L.length L.length 1) [.cells (L.flatMap (qa .u64).c)] false) (qdr qI (E:=(qa .u64)) (z:=0) rfl (by kernel_rfl) O rfl)) az) ?_)
 refine sq ?_
 refine sh fol ((1,vl (qa .u64) b)::(kD L [(20,vl (qa .u64) a),(21,.i (a.length:Int)),(22,.i 0)])) ?_
 refine Goes.block ?_
 obtain⟨Y,g5,h⟩:=bnd h
 refine Goes.imp (Q:=fun x s'=>(x= .exit 0/\ ∃u,u=Y/\Sub s' (ofG 80 (kD u []),[.cells (u.flatMap (qa .u64).c)]))) ?_ ?_
 ·refine Uc (fun M s=> ∃(F:List Int) (d:Int),s=(ofG 80 ((1,vl (qa .u64) b)::(kD F ((20,vl (qa .u64) a)::(kAI (a.length:Int) d [])))),[.cells (F.flatMap (qa .u64).c)])/\jC N a b M F d=some Y) ?_ (m:=N) ⟨_,_,rfl,g5⟩
  rintro M s ⟨F,d,rfl,g5⟩
  cases M with
  |zero=>simp only[jC]at g5;cases g5
  |succ M=>
   rw[jC]at g5
   refine sh fol ((1,vl (qa .u64) b)::(kD F ((20,vl (qa .u64) a)::(kAI (a.length:Int) d [(23,.bool (decide (d<(a.length:Int))))])))) ?_
   refine sq ?_
   refine ihD g5 (fun Z g5=>?_) (fun Z g5=>?_)
   ·refine Goes.skip ?_
    refine sq (Goes.block ?_)
    obtain⟨q,G,g5⟩:=bnd g5
    refine sq (gr fol [1,2] ((1,vl (qa .u64) b)::(kD F ((6,.i d)::(kAh q ((20,vl (qa .u64) a)::(kAI (a.length:Int) d [])))))) (ac (iv qI (qa .u64) G) (ac (lv 0 zP (qa .u64) G rfl) az)) ?_)
    refine sh fol ((1,vl (qa .u64) b)::(kD F ((6,.i d)::(kAh q (kBi ((20,vl (qa .u64) a)::(kAI (a.length:Int) d []))))))) ?_
    refine sq ?_
    refine sh fol ((1,vl (qa .u64) b)::(kD F ((6,.i d)::(kAh q (kBi ((20,vl (qa .u64) a)::(kAI (a.length:Int) d [(27,vl (qa .u64) b),(28,.i (b.length:Int)),(29,.i 0)]))))))) ?_
    refine Goes.block ?_
    obtain⟨P,g13,g5⟩:=bnd g5
    refine Goes.imp (Q:=fun x s'=>(x= .exit 2/\ ∃k v,(k,v)=P/\Sub s' (ofG 80 ((1,vl (qa .u64) b)::(kD k ((6,.i d)::(8,.int .u64 v)::(20,vl (qa .u64) a)::(kAI (a.length:Int) d [])))),[.cells (k.flatMap (qa .u64).c)]))) ?_ ?_
    ·refine Uc (fun M s=> ∃(j:List Int) (e:Int) (n:Int),s=(ofG 80 ((1,vl (qa .u64) b)::(kD j ((6,.i d)::(kAD q n ((20,vl (qa .u64) a)::(kAI (a.length:Int) d ((27,vl (qa .u64) b)::(kA8 (b.length:Int) e)))))))),[.cells (j.flatMap (qa .u64).c)])/\jD b q d M j e n=some P) ?_ (m:=N) ⟨_,_,_,rfl,g13⟩
     rintro M s ⟨j,e,n,rfl,g13⟩
     cases M with
     |zero=>simp only[jD]at g13;cases g13
     |succ M=>
      rw[jD]at g13
      refine sh fol ((1,vl (qa .u64) b)::(kD j ((6,.i d)::(kAD q n ((20,vl (qa .u64) a)::(kAI (a.length:Int) d [(27,vl (qa .u64) b),(28,.i (b.length:Int)),(29,.i e),(30,.bool (decide (e<(b.length:Int))))])))))) ?_
      refine sq ?_
      refine ihD g13 (fun X g13=>?_) (fun X g13=>?_)
      ·refine Goes.skip ?_
       refine sq (Goes.block ?_)
       obtain⟨U,w,g13⟩:=bnd g13
       refine sq (gr fol [1,2] ((1,vl (qa .u64) b)::(kD j ((6,.i d)::(kAD q n ((9,.i e)::(10,.int .u64 U)::(20,vl (qa .u64) a)::(kAI (a.length:Int) d ((27,vl (qa .u64) b)::(kA8 (b.length:Int) e)))))))) (ac (iv qI (qa .u64) w) (ac (lv 0 zP (qa .u64) w rfl) az)) ?_)
       obtain⟨f,H,g13⟩:=bnd g13
       refine sq (gr fol [2] ((1,vl (qa .u64) b)::(kD j ((6,.i d)::(kAD q n ((9,.i e)::(kAB f.1 f.2 ((20,vl (qa .u64) a)::(kAI (a.length:Int) d ((27,vl (qa .u64) b)::(kA8 (b.length:Int) e)))))))))) (ac (cv (qbv q U H)) az) ?_)
       refine sh fol ((1,vl (qa .u64) b)::(kD j ((6,.i d)::(kAD q n ((9,.i e)::(kAB f.1 f.2 ((20,vl (qa .u64) a)::(kAI (a.length:Int) d ((27,vl (qa .u64) b)::(kA8 (b.length:Int) e)))))))))) ?_
       obtain⟨V,o,g13⟩:=bnd g13
       obtain⟨g,I,g13⟩:=bnd g13
       refine sq (gr fol [5,6,7] ((1,vl (qa .u64) b)::(kD j ((6,.i d)::(kAD q n ((9,.i e)::(kAB f.1 g.1 ((13,.int .u64 g.2)::(20,vl (qa .u64) a)::(kAI (a.length:Int) d ((27,vl (qa .u64) b)::(kA8 (b.length:Int) e)))))))))) (ac (hs (.done (.opt (qg ZT 103 (.slice 0 0 j.length j.length 1) (.i (w64 (d+e))))) (.ptr 0 ((w64 (d+e):Int).toNat*1+0))) (qaC qI o)) (ac (hs (.run [0] (jf ZT 227 (.ptr 0 ((w64 (d+e):Int).toNat*1+0))) [.cells (j.flatMap (qa .u64).c)] (.int .u64 V) [.cells (j.flatMap (qa .u64).c)] false) (qct zP (E:=(qa .u64)) (l:=j) rfl rfl o (nl rfl) rfl)) (ac (cv (qce f.2 V 0 I)) az))) ?_)
       refine sh fol ((1,vl (qa .u64) b)::(kD j ((6,.i d)::(kAD q n ((9,.i e)::(kAB (IntKind.wrap .u64 (f.1+g.2)) g.1 ((20,vl (qa .u64) a)::(kAI (a.length:Int) d ((27,vl (qa .u64) b)::(kA8 (b.length:Int) e)))))))))) ?_
       obtain⟨p,J,g13⟩:=bnd g13
       refine sq (gr fol [2] ((1,vl (qa .u64) b)::(kD j ((6,.i d)::(kAh q ((9,.i e)::(kAB (IntKind.wrap .u64 (f.1+g.2)) p.1 ((13,.int .u64 p.2)::(20,vl (qa .u64) a)::(kAI (a.length:Int) d ((27,vl (qa .u64) b)::(kA8 (b.length:Int) e)))))))))) (ac (cv (qce g.1 n 0 J)) az) ?_)
       obtain⟨r,A,g13⟩:=bnd g13
       refine gq fol [8,9] ((1,vl (qa .u64) b)::(kD j ((6,.i d)::(kAD q (IntKind.wrap .u64 ((IntKind.wrap .u64 (f.1+g.2))+p.2)) ((20,vl (qa .u64) a)::(kAI (a.length:Int) d ((27,vl (qa .u64) b)::(kA8 (b.length:Int) e)))))))) [.cells (r.flatMap (qa .u64).c)] (ac (hs (.done (.opt (qg ZT 103 (.slice 0 0 j.length j.length 1) (.i (w64 (d+e))))) (.ptr 0 ((w64 (d+e):Int).toNat*1+0))) (qaC qI o)) (ac (hs (.run [0] (qp ZT 227 (.ptr 0 ((w64 (d+e):Int).toNat*1+0)) (.int .u64 p.1)) [.cells (j.flatMap (qa .u64).c)] .undef [.cells (r.flatMap (qa .u64).c)] true) (qao (E:=(qa .u64)) (l:=j) (y:=p.1) rfl (show _=some 1 by kernel_rfl) rfl o rfl rfl rfl rfl rfl A rfl)) az)) ?_
       refine Goes.sub (show Sub (ofG 80 ((1,vl (qa .u64) b)::(kD j ((6,.i d)::(kAD q (IntKind.wrap .u64 ((IntKind.wrap .u64 (f.1+g.2))+p.2)) ((20,vl (qa .u64) a)::(kAI (a.length:Int) d ((27,vl (qa .u64) b)::(kA8 (b.length:Int) e)))))))),[.cells (r.flatMap (qa .u64).c)]) (ofG 80 ((1,vl (qa .u64) b)::(kD r ((6,.i d)::(kAD q (IntKind.wrap .u64 ((IntKind.wrap .u64 (f.1+g.2))+p.2)) ((20,vl (qa .u64) a)::(kAI (a.length:Int) d ((27,vl (qa .u64) b)::(kA8 (b.length:Int) e)))))))),[.cells (r.flatMap (qa .u64).c)])from(Sub.norm [] [some 0] rfl rfl (.keep (.same (qd (qa .u64) _)) (.keep (.sliceE rfl (vM A)) (.keep (.same nI) (.keep (.same nI) (.keep (.same nI) (.keep (.same (qd (qa .u64) _)) (.keep (.same nI) (.keep (.same nI) (.keep (.same (qd (qa .u64) _)) (.keep (.same nI) (.keep (.same nI) .nil))))))))))) (.ks .nil))) ?_
       refine gh fol ((1,vl (qa .u64) b)::(kD r ((6,.i d)::(kAD q (IntKind.wrap .u64 ((IntKind.wrap .u64 (f.1+g.2))+p.2)) ((20,vl (qa .u64) a)::(kAI (a.length:Int) d ((27,vl (qa .u64) b)::(kA8 (b.length:Int) (w64 (e+1)))))))))) ?_
       exact⟨M,(ofG 80 ((1,vl (qa .u64) b)::(kD r ((6,.i d)::(kAD q (IntKind.wrap .u64 ((IntKind.wrap .u64 (f.1+g.2))+p.2)) ((20,vl (qa .u64) a)::(kAI (a.length:Int) d ((27,vl (qa .u64) b)::(kA8 (b.length:Int) (w64 (e+1)))))))))),[.cells (r.flatMap (qa .u64).c)]),Nat.lt_succ_self _,(Sub.refl _),_,_,_,rfl,g13⟩
      refine Goes.exit ?_
      obtain rfl:=si g13
      exact⟨rfl,_,_,rfl,(Sub.keep [1,5,6,8,20,21,22] rfl rfl)⟩
    rintro x s' ⟨rfl,k,v,rfl,hsub⟩
    try dsimp only at g5
    refine Goes.sub hsub ?_
    obtain⟨a0,B,g5⟩:=bnd g5
    obtain⟨t,C,g5⟩:=bnd g5
    refine gq fol [6,7] ((1,vl (qa .u64) b)::(kD k ((20,vl (qa .u64) a)::(kAI (a.length:Int) d [])))) [.cells (t.flatMap (qa .u64).c)] (ac (hs (.done (.opt (qg ZT 103 (.slice 0 0 k.length k.length 1) (.i (w64 (d+(b.length:Int)))))) (.ptr 0 ((w64 (d+(b.length:Int)):Int).toNat*1+0))) (qaC qI B)) (ac (hs (.run [0] (qp ZT 227 (.ptr 0 ((w64 (d+(b.length:Int)):Int).toNat*1+0)) (.int .u64 v)) [.cells (k.flatMap (qa .u64).c)] .undef [.cells (t.flatMap (qa .u64).c)] true) (qao (E:=(qa .u64)) (l:=k) (y:=v) rfl (show _=some 1 by kernel_rfl) rfl B rfl rfl rfl rfl rfl C rfl)) az)) ?_
    refine Goes.sub (show Sub (ofG 80 ((1,vl (qa .u64) b)::(kD k ((20,vl (qa .u64) a)::(kAI (a.length:Int) d [])))),[.cells (t.flatMap (qa .u64).c)]) (ofG 80 ((1,vl (qa .u64) b)::(kD t ((20,vl (qa .u64) a)::(kAI (a.length:Int) d [])))),[.cells (t.flatMap (qa .u64).c)])from(Sub.norm [] [some 0] rfl rfl (.keep (.same (qd (qa .u64) _)) (.keep (.sliceE rfl (vM C)) (.keep (.same (qd (qa .u64) _)) (.keep (.same nI) (.keep (.same nI) .nil))))) (.ks .nil))) ?_
    refine gh fol ((1,vl (qa .u64) b)::(kD t ((20,vl (qa .u64) a)::(kAI (a.length:Int) (w64 (d+1)) [])))) ?_
    exact⟨M,(ofG 80 ((1,vl (qa .u64) b)::(kD t ((20,vl (qa .u64) a)::(kAI (a.length:Int) (w64 (d+1)) [])))),[.cells (t.flatMap (qa .u64).c)]),Nat.lt_succ_self _,(Sub.refl _),_,_,rfl,g5⟩
   refine Goes.exit ?_
   obtain rfl:=si g5
   exact⟨rfl,_,rfl,(Sub.keep [5] rfl rfl)⟩
 rintro x s' ⟨rfl,u,rfl,hsub⟩
 refine Goes.sub hsub ?_
 obtain⟨D,K,h⟩:=bnd h
 refine sq (gq fol [1] [(4,vl (qa .u64) D)] [.frozen (u.flatMap (qa .u64).c)] (ac (hs (.callF 254 [.slice 0 0 u.length u.length 1] [.cells (u.flatMap (qa .u64).c)] [0] [vl (qa .u64) u] (vl (qa .u64) D)) (qaQ (FzL.cons (Fz.sl (E:=(qa .u64)) rfl rfl (nl rfl)) FzL.nil) (xu N u K) (qw (qa .u64) _ (nl rfl)))) az) ?_)
 refine Goes.sub (show Sub (ofG 80 [(4,vl (qa .u64) D)],[.frozen (u.flatMap (qa .u64).c)]) (ofG 80 [(4,vl (qa .u64) D)],[])from(Sub.norm [] [] rfl rfl (.keep (.same (qd (qa .u64) _)) .nil) .nil)) ?_
 refine Goes.ret ?_
 obtain rfl:=si h
 exact(gw2 [vl (qa .u64) D] (Ua (qw (qa .u64) _ (nl rfl))))
def qU (N:Nat) (a:qj) (b:qj):Option qj:=
 (if a.w.isEmpty=true then
 some b.w.isEmpty
 else
 some false:Option Bool).bind fun j=>
 ((if j=true then
 (qcl a.s).bind fun k=>
 (qcl b.s).bind fun l=>
 (bits_Mul64 k l).bind fun e=>
 (if e.1=0 then
 some (decide (e.2<=9223372036854775807))
 else
 some false:Option Bool).bind fun f=>
 if f=true then
 if(!((decide (a.s<0))==(decide (b.s<0))))=true then
 some (.inr (⟨w64 (0-(w64 e.2)),[]⟩:qj))
 else
 some (.inr (⟨w64 e.2,[]⟩:qj))
 else
 some (.inl ())
 else
 some (.inl ()):Option (Unit⊕qj))).bind (fun
 |(.inl ())=>
 (qF a).bind fun c=>
 (qF b).bind fun d=>
 (qau N c.2 d.2).bind fun g=>
 (vo (!(c.1==d.1)) g).bind fun h=>
 some h
 |(.inr i)=>
 some i)
theorem yn (N:Nat) (a:qj) (b:qj) {res:qj} (h:qU N a b=some res):qb ZT (.fn 137) [.agg (nz1 a),.agg (nz1 b)] [] (.agg (nz1 res)) []:=by
 unfold qU at h
 refine Ub Tryz.func137 rfl rfl (m:=66) rfl (rs:=[.cell 4 105]) rfl (l:=[(0,.agg (nz1 a)),(1,.agg (nz1 b))]) rfl ?_
 refine sg fol (kE []) [.cells (nz1 a),.cells (nz1 b),bZ] ?_
 refine sq ?_
 refine sq ?_
 obtain⟨G,d,h⟩:=bnd h
 refine Goes.cut (s':=(ofG 66 (kE [(18,.bool G)]),[.cells (nz1 a),.cells (nz1 b),bZ])) ?_ ?_
 ·rcases wyB d with⟨y,d⟩|⟨y,d⟩
  ·obtain rfl:=si d
   exact tr fol [2,3,6] (kE [(18,.bool b.w.isEmpty)]) (ac (hs (.done (.opt (qY ZT .eql 103 (.tmp 12) (.const (.slice none 0 0)) (nvl (qa .u64) a.w) .nilslice)) (.bool a.w.isEmpty)) (qaB vX)) (ac (gw y) (ac (hs (.done (.opt (qY ZT .eql 103 (.tmp 16) (.const (.slice none 0 0)) (nvl (qa .u64) b.w) .nilslice)) (.bool b.w.isEmpty)) (qaB vX)) az)))
  obtain rfl:=si d
  exact tr fol [2,3] (kE [(18,.bool false)]) (ac (hs (.done (.opt (qY ZT .eql 103 (.tmp 12) (.const (.slice none 0 0)) (nvl (qa .u64) a.w) .nilslice)) (.bool a.w.isEmpty)) (qaB vX)) (ac (gw y) az))
 obtain⟨D,g4,h⟩:=bnd h
 refine Goes.imp (Q:=fun x s'=>(x= .normal/\(.inl ())=D/\Sub s' (ofG 66 (kE []),[.cells (nz1 a),.cells (nz1 b),bZ]))\/(x= .ret/\ ∃F,(.inr F)=D/\vI ZT [.cell 4 105] (.agg (nz1 F)) .ret s')) ?_ ?_
 ·refine ihB g4 (fun H g4=>?_) (fun H g4=>?_)
  ·obtain⟨I,t,g4⟩:=bnd g4
   obtain⟨J,u,g4⟩:=bnd g4
   obtain⟨f,v,g4⟩:=bnd g4
   refine sq (gr fol [2,5,6] (kE ((5,.int .u64 f.1)::(kAQ f.2 []))) (ac (cv (qef a.s t)) (ac (cv (qef b.s u)) (ac (cv (qbv I J v)) az))) ?_)
   refine sq ?_
   obtain⟨z,c,g4⟩:=bnd g4
   refine Goes.cut (s':=(ofG 66 (kE (kAQ f.2 [(34,.bool z)])),[.cells (nz1 a),.cells (nz1 b),bZ])) ?_ ?_
   ·rcases wyD c with⟨k,c⟩|⟨k,c⟩
    ·obtain rfl:=si c
     exact tr fol [2] (kE (kAQ f.2 [(34,.bool (decide (f.2<=9223372036854775807)))])) (ac (gw k) az)
    obtain rfl:=si c
    exact tr fol [2] (kE (kAQ f.2 [(34,.bool false)])) (ac (gw k) az)
   refine ihB g4 (fun A g4=>?_) (fun A g4=>?_)
   ·refine sq ?_
    refine sh fol (kAS (kAQ f.2 [(41,.bool (!((decide (a.s<0))==(decide (b.s<0)))))])) ?_
    refine ihB g4 (fun B g4=>?_) (fun B g4=>?_)
    ·refine sg fol (kAS []) (.cells (nz1 a):: .cells (nz1 b)::(kBC (w64 (0-(w64 f.2))))) ?_
     refine Goes.ret ?_
     obtain rfl:=si g4
     exact Or.inr (⟨rfl,_,rfl,(gw2 [.agg [.i (w64 (0-(w64 f.2))),.nilslice]] (FzW.agg (qc.cons (Ua tI) (qc.cons (FzW.nv0 (E:=(qa .u64))) qc.nil))))⟩)
    refine Goes.skip ?_
    refine sg fol (kAS []) (.cells (nz1 a):: .cells (nz1 b)::(kBC (w64 f.2))) ?_
    refine Goes.ret ?_
    obtain rfl:=si g4
    exact Or.inr (⟨rfl,_,rfl,(gw2 [.agg [.i (w64 f.2),.nilslice]] (FzW.agg (qc.cons (Ua tI) (qc.cons (FzW.nv0 (E:=(qa .u64))) qc.nil))))⟩)
   refine Goes.skip ?_
   obtain rfl:=si g4
   exact Or.inl (⟨rfl,rfl,(Sub.keep [2,3,4] rfl rfl)⟩)
  refine Goes.skip ?_
  obtain rfl:=si g4
  exact Or.inl (⟨rfl,rfl,(Sub.keep [2,3,4] rfl rfl)⟩)
 rintro x s' (⟨rfl,rfl,hsub⟩|⟨rfl,K,rfl,hret⟩)
 ·try dsimp only at h
  refine Goes.sub hsub ?_
  obtain⟨e,o,h⟩:=bnd h
  refine sq (gr fol [1] (kAZ (kAS [(7,.bool e.1),(8,vl (qa .u64) e.2)])) (ac (cv (zF a o)) az) ?_)
  obtain⟨g,p,h⟩:=bnd h
  refine sq (gr fol [1] (kAS [(7,.bool e.1),(8,vl (qa .u64) e.2),(9,.bool g.1),(10,vl (qa .u64) g.2)]) (ac (cv (zF b p)) az) ?_)
  obtain⟨C,q,h⟩:=bnd h
  obtain⟨j,r,h⟩:=bnd h
  refine sq (gq fol [5,6,7] (kAS []) [.cells (nz1 a),.cells (nz1 b),.cells (nz1 j)] (ac (cv (qgn N e.2 g.2 q)) (ac (cv (qaf (!(e.1==g.1)) C r)) (ac (hs (.run [2] (qp ZT 105 (.ptr 2 0) (.agg (nz1 j))) [.cells (nz1 a),.cells (nz1 b),bZ] .undef [.cells (nz1 a),.cells (nz1 b),.cells (nz1 j)] true) (qX (n:=2) (by kernel_rfl) rfl rfl rfl rfl (cac rfl (cac nvc can)) rfl)) az))) ?_)
  refine Goes.ret ?_
  obtain rfl:=si h
  exact(gw2 [.agg (nz1 j)] (FzW.agg (qc.cons (Ua tI) (qc.cons (Ua (qo (qa .u64) _ (nl rfl))) qc.nil))))
 try dsimp only at h
 obtain rfl:=si h
 exact hret
def strings_HasPrefix (b:Str) (a:Str):Option Bool:=
 (stringslite_HasPrefix b a).bind fun c=>
 some c
theorem qep (b:Str) (a:Str) {res:Bool} (h:strings_HasPrefix b a=some res):qb ZT (.fn 187) (kBY b a) [] (.bool res) []:=by
 unfold strings_HasPrefix at h
 refine Ub Tryz.func187 rfl rfl (m:=8) rfl (rs:=[.tmp 4]) rfl (l:=(kQ b a [])) rfl ?_
 refine sh fol (kQ b a []) ?_
 obtain⟨d,c,h⟩:=bnd h
 refine sq (gr fol [2] (kBM d) (ac (cv (yL b a c)) az) ?_)
 refine Goes.ret ?_
 obtain rfl:=si h
 exact(gw2 [.bool d] (Ua tB))
def stringslite_TrimPrefix (b:Str) (a:Str):Option Str:=
 (stringslite_HasPrefix b a).bind fun c=>
 if c=true then
 (cut b (a.length:Int) (b.length:Int)).bind fun d=>
 some d
 else
 some b
theorem qcs (b:Str) (a:Str) {res:Str} (h:stringslite_TrimPrefix b a=some res):qb ZT (.fn 244) (kBY b a) [] (.str res) []:=by
 unfold stringslite_TrimPrefix at h
 refine Ub Tryz.func244 rfl rfl (m:=13) rfl (rs:=[.tmp 4]) rfl (l:=(kQ b a [])) rfl ?_
 refine sh fol (kQ b a []) ?_
 refine sq ?_
 obtain⟨f,c,h⟩:=bnd h
 refine sq (gr fol [2] (kQ b a [(7,.bool f)]) (ac (cv (yL b a c)) az) ?_)
 refine ihB h (fun g h=>?_) (fun g h=>?_)
 ·obtain⟨e,d,h⟩:=bnd h
  refine sq (gr fol [3] (kBG e) (ac (hs (.done (.opt (qQ ZT 9 (.str b) (some (.i (a.length:Int))) none none)) (.str e)) (zZ st9 (some (a.length:Int)) none d)) az) ?_)
  refine Goes.ret ?_
  obtain rfl:=si h
  exact(gw2 [.str e] (Ua tS))
 refine Goes.skip ?_
 refine sh fol (kBG b) ?_
 refine Goes.ret ?_
 obtain rfl:=si h
 exact(gw2 [.str b] (Ua tS))
def strings_TrimPrefix (b:Str) (a:Str):Option Str:=
 (stringslite_TrimPrefix b a).bind fun c=>
 some c
theorem qbk (b:Str) (a:Str) {res:Str} (h:strings_TrimPrefix b a=some res):qb ZT (.fn 188) (kBY b a) [] (.str res) []:=by
 unfold strings_TrimPrefix at h
 refine Ub Tryz.func188 rfl rfl (m:=8) rfl (rs:=[.tmp 4]) rfl (l:=(kQ b a [])) rfl ?_
 refine sh fol (kQ b a []) ?_
 obtain⟨d,c,h⟩:=bnd h
 refine sq (gr fol [2] (kBG d) (ac (cv (qcs b a c)) az) ?_)
 refine Goes.ret ?_
 obtain rfl:=si h
 exact(gw2 [.str d] (Ua tS))
def vw (N:Nat):Nat->Int->(List Int)->Int->(List Int)->Int->Option (Int×(List Int))
 |0,_,_,_,_,_=>none
 |K+1,e,f,h,i,g=>
  if g>0 then
  ((((if(qy .i64 g 1)=1 then
  (qU N (⟨h,i⟩:qj) (⟨e,f⟩:qj)).bind fun a=>
  some (a.s,a.w)
  else
  some (h,i):Option (Int×(List Int)))).bind fun(b,c)=>
  if g>1 then
  (qU N (⟨e,f⟩:qj) (⟨e,f⟩:qj)).bind fun d=>
  some (d.s,d.w,b,c)
  else
  some (e,f,b,c):Option (Int×(List Int)×Int×(List Int)))).bind fun(j,k,l,m)=>
  vw N K j k l m (qm .i64 g 1)
  else
  some (h,i)
def qbD (N:Nat) (a:qj) (k:Int):Option qj:=
 (qcb 1).bind fun b=>
 (vw N N a.s a.w b.s b.w k).bind fun(c,d)=>
 some (⟨c,d⟩:qj)
theorem qhq (N:Nat) (a:qj) (k:Int) {res:qj} (h:qbD N a k=some res):qb ZT (.fn 190) [.agg (nz1 a),.i k] [] (.agg (nz1 res)) []:=by
 unfold qbD at h
 refine Ub Tryz.func190 rfl rfl (m:=23) rfl (rs:=[.cell 4 105]) rfl (l:=[(0,.agg (nz1 a)),(1,.i k)]) rfl ?_
 refine sg fol ((1,.i k)::(kM (kAb []))) [.cells (nz1 a),bZ] ?_
 obtain⟨B,y,h⟩:=bnd h
 refine sq (gq fol [0,2] ((1,.i k)::(kM (kAb (kA6 [])))) [.cells (nz1 a),bZ,.cells (nz1 B)] (ac (cv (qbr 1 y)) (ac (hs (.run [2] (qp ZT 105 (.ptr 2 0) (.agg (nz1 B))) [.cells (nz1 a),bZ,bZ] .undef [.cells (nz1 a),bZ,.cells (nz1 B)] true) (qX (n:=2) (by kernel_rfl) rfl rfl rfl rfl (cac rfl (cac nvc can)) rfl)) az)) ?_)
 refine sq (Goes.block ?_)
 obtain⟨H,g9,h⟩:=bnd h
 refine Goes.imp (Q:=fun x s'=>(x= .exit 0/\ ∃g j,(g,j)=H/\Sub s' (ofG 23 (kAP (kBL [])),[bZ,.cells (ni1 g j)]))) ?_ ?_
 ·refine Uc (fun M s=> ∃(e:Int) (f:List Int) (z:Int) (A:List Int) (b:Int),s=(ofG 23 ((1,.i b)::(kM (kAb (kA6 [])))),[.cells (ni1 e f),bZ,.cells (ni1 z A)])/\vw N M e f z A b=some H) ?_ (m:=N) ⟨_,_,_,_,_,rfl,g9⟩
  rintro M s ⟨e,f,z,A,b,rfl,g9⟩
  cases M with
  |zero=>simp only[vw]at g9;cases g9
  |succ M=>
   rw[vw]at g9
   refine sq ?_
   refine sh fol ((1,.i b)::(kM (kAb (kA6 (kBa (decide (b>0))))))) ?_
   refine ihD g9 (fun C g9=>?_) (fun C g9=>?_)
   ·refine Goes.skip ?_
    refine sq ?_
    obtain⟨D,g15,g9⟩:=bnd g9
    refine Goes.imp (Q:=fun x s'=>(x= .normal/\ ∃o p q r,(o,p,q,r)=D/\Sub s' (ofG 23 ((1,.i b)::(kM (kAb (kA6 [])))),[.cells (ni1 o p),bZ,.cells (ni1 q r)]))) ?_ ?_
    ·refine Goes.block ?_
     refine sq ?_
     refine sh fol ((1,.i b)::(kM (kAb (kA6 (kBE (decide ((qy .i64 b 1)=1))))))) ?_
     obtain⟨E,g18,g15⟩:=bnd g15
     refine Goes.imp (Q:=fun x s'=>(x= .normal/\ ∃c d,(c,d)=E/\Sub s' (ofG 23 ((1,.i b)::(kM (kAb (kA6 [])))),[.cells (ni1 e f),bZ,.cells (ni1 c d)]))) ?_ ?_
     ·refine ihD g18 (fun F g18=>?_) (fun F g18=>?_)
      ·obtain⟨t,u,g18⟩:=bnd g18
       refine gq fol [2,3] ((1,.i b)::(kM (kAb (kA6 [])))) [.cells (ni1 e f),bZ,.cells (nz1 t)] (ac (cv (yn N (⟨z,A⟩:qj) (⟨e,f⟩:qj) u)) (ac (hs (.run [2] (qp ZT 105 (.ptr 2 0) (.agg (nz1 t))) [.cells (ni1 e f),bZ,.cells (ni1 z A)] .undef [.cells (ni1 e f),bZ,.cells (nz1 t)] true) (qX (n:=2) (by kernel_rfl) rfl rfl rfl rfl (cac rfl (cac nvc can)) rfl)) az)) ?_
       obtain rfl:=si g18
       exact⟨rfl,_,_,rfl,(Sub.refl _)⟩
      refine Goes.skip ?_
      obtain rfl:=si g18
      exact⟨rfl,_,_,rfl,(Sub.keep [1,2,4,5] rfl rfl)⟩
     rintro x s' ⟨rfl,c,d,rfl,hsub⟩
     try dsimp only at g15
     refine Goes.sub hsub ?_
     refine sh fol ((1,.i b)::(kM (kAb (kA6 [(18,.bool (decide (b>1)))])))) ?_
     refine ihD g15 (fun G g15=>?_) (fun G g15=>?_)
     ·obtain⟨v,w,g15⟩:=bnd g15
      refine gq fol [2,3] ((1,.i b)::(kM (kAb (kA6 [])))) [.cells (nz1 v),bZ,.cells (ni1 c d)] (ac (cv (yn N (⟨e,f⟩:qj) (⟨e,f⟩:qj) w)) (ac (hs (.run [0] (qp ZT 105 (.ptr 0 0) (.agg (nz1 v))) [.cells (ni1 e f),bZ,.cells (ni1 c d)] .undef [.cells (nz1 v),bZ,.cells (ni1 c d)] true) (qX (n:=2) (by kernel_rfl) rfl rfl rfl rfl (cac rfl (cac nvc can)) rfl)) az)) ?_
      obtain rfl:=si g15
      exact⟨rfl,_,_,_,_,rfl,(Sub.refl _)⟩
     refine Goes.skip ?_
     obtain rfl:=si g15
     exact⟨rfl,_,_,_,_,rfl,(Sub.keep [1,2,4,5] rfl rfl)⟩
    rintro x s' ⟨rfl,o,p,q,r,rfl,hsub⟩
    try dsimp only at g9
    refine Goes.sub hsub ?_
    refine gh fol ((1,.i (qm .i64 b 1))::(kM (kAb (kA6 [])))) ?_
    exact⟨M,(ofG 23 ((1,.i (qm .i64 b 1))::(kM (kAb (kA6 [])))),[.cells (ni1 o p),bZ,.cells (ni1 q r)]),Nat.lt_succ_self _,(Sub.refl _),_,_,_,_,_,rfl,g9⟩
   refine Goes.exit ?_
   obtain rfl:=si g9
   exact⟨rfl,_,_,rfl,(Sub.norm [] [some 1,some 2] rfl rfl (.drop (.drop (.kp (.kp .nil)))) (.kb rfl (.same sn) (.kb rfl (.same sn) .nil)))⟩
 rintro x s' ⟨rfl,g,j,rfl,hsub⟩
 try dsimp only at h
 refine Goes.sub hsub ?_
 refine sq (gq fol [1] (kAP []) [.cells (ni1 g j),.cells (ni1 g j)] (ac (hs (.run [0] (qp ZT 105 (.ptr 0 0) (.agg (ni1 g j))) [bZ,.cells (ni1 g j)] .undef [.cells (ni1 g j),.cells (ni1 g j)] true) (qX (n:=2) (by kernel_rfl) rfl rfl rfl rfl (cac rfl (cac nvc can)) rfl)) az) ?_)
 refine Goes.ret ?_
 obtain rfl:=si h
 exact(gw2 [.agg (ni1 g j)] (FzW.agg (qc.cons (Ua tI) (qc.cons (Ua (qo (qa .u64) _ (nl rfl))) qc.nil))))
def xn (N:Nat):Nat->Int->(List Int)->Str->Option (Int×(List Int))
 |0,_,_,_=>none
 |K+1,j,k,a=>
  if(a.length:Int)>0 then
  (cut a 0 (if(a.length:Int)<18 then(a.length:Int)else 18)).bind fun c=>
  (qkM c).bind fun d=>
  (qcb 10).bind fun e=>
  (qbD N e (if(a.length:Int)<18 then(a.length:Int)else 18)).bind fun f=>
  (qU N (⟨j,k⟩:qj) f).bind fun g=>
  (qcb d.1).bind fun h=>
  (xw N g h).bind fun b=>
  (cut a (if(a.length:Int)<18 then(a.length:Int)else 18) (a.length:Int)).bind fun i=>
  xn N K b.s b.w i
  else
  some (j,k)
def qa4 (N:Nat) (b:Str):Option qj:=
 (strings_HasPrefix b [45]).bind fun e=>
 (strings_TrimPrefix b [45]).bind fun f=>
 (xn N N 0 [] f).bind fun(c,d)=>
 if e=true then
 (zk (⟨c,d⟩:qj)).bind fun a=>
 some a
 else
 some (⟨c,d⟩:qj)
theorem qbB (N:Nat) (g:Str) {res:qj} (h:qa4 N g=some res):qb ZT (.fn 126) [.str g] [] (.agg (nz1 res)) []:=by
 unfold qa4 at h
 refine Ub Tryz.func126 rfl rfl (m:=41) rfl (rs:=[.cell 2 105]) rfl (l:=(kAH g)) rfl ?_
 refine sg fol (kA5 g (kM [])) [bZ] ?_
 obtain⟨d,y,h⟩:=bnd h
 refine sq (gr fol [1] (kA5 g (kM (kBF d []))) (ac (cv (qep g [45] y)) az) ?_)
 obtain⟨J,z,h⟩:=bnd h
 refine sq (gr fol [1] (kA5 J (kM (kBF d []))) (ac (cv (qbk g [45] z)) az) ?_)
 refine sg fol (kA5 J (kM (kBF d (kAb [])))) [bZ,bZ] ?_
 refine sq (Goes.block ?_)
 obtain⟨K,g8,h⟩:=bnd h
 refine Goes.imp (Q:=fun x s'=>(x= .exit 0/\ ∃b c,(b,c)=K/\Sub s' (ofG 41 (kM (kBF d (kAb []))),[bZ,.cells (ni1 b c)]))) ?_ ?_
 ·refine Uc (fun M s=> ∃(A:Int) (B:List Int) (a:Str),s=(ofG 41 (kA5 a (kM (kBF d (kAb [])))),[bZ,.cells (ni1 A B)])/\xn N M A B a=some K) ?_ (m:=N) ⟨_,_,_,rfl,g8⟩
  rintro M s ⟨A,B,a,rfl,g8⟩
  cases M with
  |zero=>simp only[xn]at g8;cases g8
  |succ M=>
   rw[xn]at g8
   refine sq ?_
   refine sh fol (kA5 a (kM (kBF d (kAb (kBe (decide ((a.length:Int)>0))))))) ?_
   refine ihD g8 (fun L g8=>?_) (fun L g8=>?_)
   ·refine Goes.skip ?_
    refine Goes.block ?_
    refine sh fol (kA5 a (kM (kBF d (kAb (kAm (if(a.length:Int)<18 then(a.length:Int)else 18)))))) ?_
    obtain⟨C,j,g8⟩:=bnd g8
    obtain⟨D,k,g8⟩:=bnd g8
    refine sq (gr fol [2,3] (kA5 a (kM (kBF d (kAb (kAw (if(a.length:Int)<18 then(a.length:Int)else 18) D.1 []))))) (ac (hs (.done (.opt (qQ ZT 9 (.str a) none (some (.i (if(a.length:Int)<18 then(a.length:Int)else 18))) none)) (.str C)) (zZ st9 none (some (if(a.length:Int)<18 then(a.length:Int)else 18)) j)) (ac (cv (qou C k)) az)) ?_)
    obtain⟨E,o,g8⟩:=bnd g8
    obtain⟨F,p,g8⟩:=bnd g8
    obtain⟨G,q,g8⟩:=bnd g8
    obtain⟨H,r,g8⟩:=bnd g8
    obtain⟨e,t,g8⟩:=bnd g8
    refine sq (gq fol [1,3,4,6,7,8] (kA5 a (kM (kBF d (kAb (kAm (if(a.length:Int)<18 then(a.length:Int)else 18)))))) [bZ,.cells (nz1 e)] (ac (cv (qbr 10 o)) (ac (cv (qhq N E (if(a.length:Int)<18 then(a.length:Int)else 18) p)) (ac (cv (yn N (⟨A,B⟩:qj) F q)) (ac (cv (qbr D.1 r)) (ac (cv (qca N G H t)) (ac (hs (.run [1] (qp ZT 105 (.ptr 1 0) (.agg (nz1 e))) [bZ,.cells (ni1 A B)] .undef [bZ,.cells (nz1 e)] true) (qX (n:=2) (by kernel_rfl) rfl rfl rfl rfl (cac rfl (cac nvc can)) rfl)) az)))))) ?_)
    obtain⟨u,v,g8⟩:=bnd g8
    refine gr fol [2] (kA5 u (kM (kBF d (kAb [])))) (ac (hs (.done (.opt (qQ ZT 9 (.str a) (some (.i (if(a.length:Int)<18 then(a.length:Int)else 18))) none none)) (.str u)) (zZ st9 (some (if(a.length:Int)<18 then(a.length:Int)else 18)) none v)) az) ?_
    exact⟨M,(ofG 41 (kA5 u (kM (kBF d (kAb [])))),[bZ,.cells (nz1 e)]),Nat.lt_succ_self _,(Sub.refl _),_,_,_,rfl,g8⟩
   refine Goes.exit ?_
   obtain rfl:=si g8
   exact⟨rfl,_,_,rfl,(Sub.keep [2,3,4] rfl rfl)⟩
 rintro x s' ⟨rfl,b,c,rfl,hsub⟩
 try dsimp only at h
 refine Goes.sub hsub ?_
 refine sq ?_
 refine sh fol (kM (kAb [(37,.bool d)])) ?_
 refine ihB h (fun I h=>?_) (fun I h=>?_)
 ·obtain⟨f,w,h⟩:=bnd h
  refine sq (gq fol [1,2] (kM []) [.cells (nz1 f),.cells (ni1 b c)] (ac (cv (jl (⟨b,c⟩:qj) w)) (ac (hs (.run [0] (qp ZT 105 (.ptr 0 0) (.agg (nz1 f))) [bZ,.cells (ni1 b c)] .undef [.cells (nz1 f),.cells (ni1 b c)] true) (qX (n:=2) (by kernel_rfl) rfl rfl rfl rfl (cac rfl (cac nvc can)) rfl)) az)) ?_)
  refine Goes.ret ?_
  obtain rfl:=si h
  exact(gw2 [.agg (nz1 f)] (FzW.agg (qc.cons (Ua tI) (qc.cons (Ua (qo (qa .u64) _ (nl rfl))) qc.nil))))
 refine Goes.skip ?_
 refine sq (gq fol [1] (kM []) [.cells (ni1 b c),.cells (ni1 b c)] (ac (hs (.run [0] (qp ZT 105 (.ptr 0 0) (.agg (ni1 b c))) [bZ,.cells (ni1 b c)] .undef [.cells (ni1 b c),.cells (ni1 b c)] true) (qX (n:=2) (by kernel_rfl) rfl rfl rfl rfl (cac rfl (cac nvc can)) rfl)) az) ?_)
 refine Goes.ret ?_
 obtain rfl:=si h
 exact(gw2 [.agg (ni1 b c)] (FzW.agg (qc.cons (Ua tI) (qc.cons (Ua (qo (qa .u64) _ (nl rfl))) qc.nil))))
def qaV (N:Nat) (a:qj) (b:qj):Option Int:=
 (if a.w.isEmpty=true then
 some b.w.isEmpty
 else
 some false:Option Bool).bind fun c=>
 if c=true then
 if a.s<b.s then
 some (-1)
 else
 if a.s>b.s then
 some 1
 else
 some 0
 else
 (xk N a b).bind fun d=>
 (qV d).bind fun e=>
 some e
theorem qek (N:Nat) (a:qj) (b:qj) {res:Int} (h:qaV N a b=some res):qb ZT (.fn 127) [.agg (nz1 a),.agg (nz1 b)] [] (.i res) []:=by
 unfold qaV at h
 refine Ub Tryz.func127 rfl rfl (m:=29) rfl (rs:=[.tmp 4]) rfl (l:=[(0,.agg (nz1 a)),(1,.agg (nz1 b))]) rfl ?_
 refine sg fol (kM (kAZ [])) [.cells (nz1 a),.cells (nz1 b)] ?_
 refine sq ?_
 refine sq ?_
 obtain⟨j,c,h⟩:=bnd h
 refine Goes.cut (s':=(ofG 29 (kM (kAZ (kA1 j))),[.cells (nz1 a),.cells (nz1 b)])) ?_ ?_
 ·rcases wyB c with⟨f,c⟩|⟨f,c⟩
  ·obtain rfl:=si c
   exact tr fol [2,3,6] (kM (kAZ (kA1 b.w.isEmpty))) (ac (hs (.done (.opt (qY ZT .eql 103 (.tmp 6) (.const (.slice none 0 0)) (nvl (qa .u64) a.w) .nilslice)) (.bool a.w.isEmpty)) (qaB vX)) (ac (gw f) (ac (hs (.done (.opt (qY ZT .eql 103 (.tmp 10) (.const (.slice none 0 0)) (nvl (qa .u64) b.w) .nilslice)) (.bool b.w.isEmpty)) (qaB vX)) az)))
  obtain rfl:=si c
  exact tr fol [2,3] (kM (kAZ [(12,.bool false)])) (ac (hs (.done (.opt (qY ZT .eql 103 (.tmp 6) (.const (.slice none 0 0)) (nvl (qa .u64) a.w) .nilslice)) (.bool a.w.isEmpty)) (qaB vX)) (ac (gw f) az))
 refine ihB h (fun k h=>?_) (fun k h=>?_)
 ·refine sq (Goes.block ?_)
  refine sh fol (kM (kAZ (kBE (decide (a.s<b.s))))) ?_
  refine ihD h (fun n h=>?_) (fun n h=>?_)
  ·refine sh fol [(4,.i (-1))] ?_
   refine Goes.ret ?_
   obtain rfl:=si h
   exact(gw2 [.i (-1)] (Ua tI))
  refine sh fol [(19,.bool (decide (a.s>b.s)))] ?_
  refine ihD h (fun o h=>?_) (fun o h=>?_)
  ·refine sh fol [(4,.i 1)] ?_
   refine Goes.ret ?_
   obtain rfl:=si h
   exact(gw2 [.i 1] (Ua tI))
  refine Goes.skip ?_
  refine sh fol kBc ?_
  refine Goes.ret ?_
  obtain rfl:=si h
  exact(gw2 [.i 0] (Ua tI))
 refine Goes.skip ?_
 obtain⟨p,d,h⟩:=bnd h
 obtain⟨g,e,h⟩:=bnd h
 refine sq (gr fol [2,3] (kBU g) (ac (cv (qeh N a b d)) (ac (cv (yz p e)) az)) ?_)
 refine Goes.ret ?_
 obtain rfl:=si h
 exact(gw2 [.i g] (Ua tI))
def qar (N:Nat) (a:Str):Option Int:=
 (strings_CutPrefix a [45]).bind fun r=>
 (strings_Cut r.1 [47]).bind fun b=>
 ((jM b.1).bind fun t=>
 if t=true then
 if(!r.2)=true then
 some true
 else
 some (!(b.1==[48]))
 else
 some false:Option Bool).bind fun s=>
 ((if b.2.2=true then
 (if s=true then
 (jM b.2.1).bind fun g=>
 if g=true then
 if(!(b.2.1==[48]))=true then
 some (!(b.2.1==[49]))
 else
 some false
 else
 some false
 else
 some false:Option Bool).bind fun h=>
 some h
 else
 some s:Option Bool)).bind fun u=>
 ((zw (!u) 1).bind fun c=>
 if(b.1.length:Int)>600 then
 (zw true 4).bind fun d=>
 (yJ N ([c,d]:List Int)).bind fun i=>
 some (c,d,i)
 else
 (zw (decide ((b.2.1.length:Int)>600)) 4).bind fun e=>
 (yJ N ([c,e]:List Int)).bind fun j=>
 some (c,e,j):Option (Int×Int×Int)).bind fun(v,w,f)=>
 if(!decide (f=0))=true then
 some f
 else
 (if b.2.2=true then
 (qa4 N b.1).bind fun k=>
 (qa4 N b.2.1).bind fun l=>
 (qcw N k l).bind fun m=>
 (qcb 1).bind fun n=>
 (qaV N m n).bind fun o=>
 some (!decide (o=0))
 else
 some false:Option Bool).bind fun p=>
 (zw p 1).bind fun q=>
 some q
theorem qdI (N:Nat) (a:Str) {res:Int} (h:qar N a=some res):qb ZT (.fn 55) [.str a] [] (.i res) []:=by
 unfold qar at h
 refine Ub Tryz.func55 rfl rfl (m:=76) rfl (rs:=[.tmp 2]) rfl (l:=(kAH a)) rfl ?_
 refine sh fol (kAH a) ?_
 obtain⟨V,H,h⟩:=bnd h
 refine sq (gr fol [1] ((3,.str V.1)::(kBM V.2)) (ac (cv (qd8 a [45] H)) az) ?_)
 obtain⟨e,I,h⟩:=bnd h
 refine sq (gr fol [1] ((4,.bool V.2)::(kAM e.1 e.2.1 e.2.2 [])) (ac (cv (qeg V.1 [47] I)) az) ?_)
 refine sq ?_
 obtain⟨b6,f,h⟩:=bnd h
 refine Goes.cut (s':=(ofG 76 (kAM e.1 e.2.1 e.2.2 (kBa b6)),[])) ?_ ?_
 ·obtain⟨r3,k,f⟩:=bnd f
  rcases wyB f with⟨X,f⟩|⟨X,f⟩
  ·rcases wyB f with⟨Y,f⟩|⟨Y,f⟩
   ·obtain rfl:=si f
    exact tr fol [1,2,5] (kAM e.1 e.2.1 e.2.2 [(8,.bool true)]) (ac (cv (jv e.1 k)) (ac (gw X) (ac (gw Y) az)))
   obtain rfl:=si f
   exact tr fol [1,2,5] (kAM e.1 e.2.1 e.2.2 (kBa (!(e.1==[48])))) (ac (cv (jv e.1 k)) (ac (gw X) (ac (gw Y) az)))
  obtain rfl:=si f
  exact tr fol [1,2] (kAM e.1 e.2.1 e.2.2 [(8,.bool false)]) (ac (cv (jv e.1 k)) (ac (gw X) az))
 refine sq ?_
 refine sh fol (kAM e.1 e.2.1 e.2.2 [(8,.bool b6),(32,.bool e.2.2)]) ?_
 obtain⟨r9,g9,h⟩:=bnd h
 refine Goes.imp (Q:=fun x s'=>(x= .normal/\ ∃J,J=r9/\Sub s' (ofG 76 (kAM e.1 e.2.1 e.2.2 (kBa J)),[]))) ?_ ?_
 ·refine ihB g9 (fun Z g9=>?_) (fun Z g9=>?_)
  ·obtain⟨a0,c,g9⟩:=bnd g9
   refine Goes.cut (s':=(ofG 76 (kAM e.1 e.2.1 e.2.2 (kBa a0)),[])) ?_ ?_
   ·rcases wyB c with⟨n,c⟩|⟨n,c⟩
    ·obtain⟨r12,j,c⟩:=bnd c
     rcases wyB c with⟨q,c⟩|⟨q,c⟩
     ·rcases wyB c with⟨t,c⟩|⟨t,c⟩
      ·obtain rfl:=si c
       exact tr fol [1,3,5,9] (kAM e.1 e.2.1 e.2.2 (kBa (!(e.2.1==[49])))) (ac (gw n) (ac (cv (jv e.2.1 j)) (ac (gw q) (ac (gw t) az))))
      obtain rfl:=si c
      exact tr fol [1,3,5,9] (kAM e.1 e.2.1 e.2.2 [(8,.bool false)]) (ac (gw n) (ac (cv (jv e.2.1 j)) (ac (gw q) (ac (gw t) az))))
     obtain rfl:=si c
     exact tr fol [1,3,5] (kAM e.1 e.2.1 e.2.2 [(8,.bool false)]) (ac (gw n) (ac (cv (jv e.2.1 j)) (ac (gw q) az)))
    obtain rfl:=si c
    exact tr fol [1] (kAM e.1 e.2.1 e.2.2 [(8,.bool false)]) (ac (gw n) az)
   obtain rfl:=si g9
   exact⟨rfl,_,rfl,(Sub.refl _)⟩
  refine Goes.skip ?_
  obtain rfl:=si g9
  exact⟨rfl,_,rfl,(Sub.keep [5,6,7,8] rfl rfl)⟩
 rintro x s' ⟨rfl,J,rfl,hsub⟩
 refine Goes.sub hsub ?_
 refine sq ?_
 refine sq ?_
 obtain⟨⟨K,L,o⟩,b,h⟩:=bnd h
 refine Goes.cut (s':=(ofG 76 (kAM e.1 e.2.1 e.2.2 [(9,.i o)]),(kAE K L))) ?_ ?_
 ·obtain⟨g,p,b⟩:=bnd b
  rcases wyD b with⟨u,b⟩|⟨u,b⟩
  ·obtain⟨r,v,b⟩:=bnd b
   obtain⟨M,w,b⟩:=bnd b
   simp only[ZI,ZP]at b
   obtain⟨rfl,rfl,rfl⟩:=b
   exact jg.rq fol [2,6,11,13] (kAM e.1 e.2.1 e.2.2 [(9,.i M)]) (kAE g r) (ac (cv (qal (!J) 1 p)) (ac (gw u) (ac (cv (qal true 4 v)) (ac (hs (.call 123 [.slice 0 0 2 2 1] (kAE g r) [0] [vl encI ([g,r]:List Int)] (.i M)) (yN (FzL.cons (Fz.lit rfl rfl (Ud (AllST.cons tI (AllST.cons tI AllST.nil)))) FzL.nil) (qdN N ([g,r]:List Int) w) tI rfl)) az))))
  obtain⟨s,y,b⟩:=bnd b
  obtain⟨O,z,b⟩:=bnd b
  simp only[ZI,ZP]at b
  obtain⟨rfl,rfl,rfl⟩:=b
  exact jg.rq fol [2,6,11,13] (kAM e.1 e.2.1 e.2.2 [(9,.i O)]) (kAE g s) (ac (cv (qal (!J) 1 p)) (ac (gw u) (ac (cv (qal (decide ((e.2.1.length:Int)>600)) 4 y)) (ac (hs (.call 123 [.slice 0 0 2 2 1] (kAE g s) [0] [vl encI ([g,s]:List Int)] (.i O)) (yN (FzL.cons (Fz.lit rfl rfl (Ud (AllST.cons tI (AllST.cons tI AllST.nil)))) FzL.nil) (qdN N ([g,s]:List Int) z) tI rfl)) az))))
 try dsimp only at h
 refine sh fol (kAM e.1 e.2.1 e.2.2 [(9,.i o),(61,.bool (!decide (o=0)))]) ?_
 refine ihB h (fun a1 h=>?_) (fun a1 h=>?_)
 ·refine sh fol (kA3 o) ?_
  refine Goes.ret ?_
  obtain rfl:=si h
  exact(gw2 [.i o] (Ua tI))
 refine Goes.skip ?_
 refine sq ?_
 obtain⟨P,d,h⟩:=bnd h
 refine Goes.cut (s':=(ofG 76 (kBR P),(kAE K L))) ?_ ?_
 ·rcases wyB d with⟨A,d⟩|⟨A,d⟩
  ·obtain⟨a2,B,d⟩:=bnd d
   obtain⟨a3,C,d⟩:=bnd d
   obtain⟨a4,D,d⟩:=bnd d
   obtain⟨a5,E,d⟩:=bnd d
   obtain⟨a6,F,d⟩:=bnd d
   obtain rfl:=si d
   exact tr fol [1,3,5,6,7,8] (kBR (!decide (a6=0))) (ac (gw A) (ac (cv (qbB N e.1 B)) (ac (cv (qbB N e.2.1 C)) (ac (cv (qhR N a2 a3 D)) (ac (cv (qbr 1 E)) (ac (cv (qek N a4 a5 F)) az))))))
  obtain rfl:=si d
  exact tr fol [1] [(10,.bool false)] (ac (gw A) az)
 obtain⟨U,G,h⟩:=bnd h
 refine sq (gr fol [1] (kA3 U) (ac (cv (qal P 1 G)) az) ?_)
 refine Goes.ret ?_
 obtain rfl:=si h
 exact(gw2 [.i U] (Ua tI))
def qbX (n:qj):Option qB:=
 (qcb 1).bind fun a=>
 some (⟨n,a⟩:qB)
theorem qfC (n:qj) {res:qB} (h:qbX n=some res):qb ZT (.fn 131) [.agg (nz1 n)] [] (.agg (nq1 res)) []:=by
 unfold qbX at h
 refine Ub Tryz.func131 rfl rfl (m:=6) rfl (rs:=[.cell 2 107]) rfl (l:=[(0,.agg (nz1 n))]) rfl ?_
 refine sg fol (kR kAj) (.cells (nz1 n)::(kF [])) ?_
 obtain⟨a,b,h⟩:=bnd h
 refine sq (gq fol [1,3] kAj [.cells (nz1 n),.cells (ni2 n.s n.w a.s a.w)] (ac (cv (qbr 1 b)) (ac (hs (.run [1] (qp ZT 107 (.ptr 1 0) (.agg (ni2 n.s n.w a.s a.w))) (.cells (nz1 n)::(kF [])) .undef [.cells (nz1 n),.cells (ni2 n.s n.w a.s a.w)] true) (qX (n:=4) (by kernel_rfl) rfl rfl rfl rfl (cac rfl (cac nvc (cac rfl (cac nvc can)))) rfl)) az)) ?_)
 refine Goes.ret ?_
 obtain rfl:=si h
 exact(gw2 [.agg (ni2 n.s n.w a.s a.w)] (FzW.agg (qc.cons (Ua tI) (qc.cons (Ua (qo (qa .u64) _ (nl rfl))) (qc.cons (Ua tI) (qc.cons (Ua (qo (qa .u64) _ (nl rfl))) qc.nil))))))
def vJ (N:Nat) (a:Str):Option qB:=
 (strings_Cut a [47]).bind fun b=>
 if(!b.2.2)=true then
 (qa4 N b.1).bind fun c=>
 (qbX c).bind fun d=>
 some d
 else
 (qa4 N b.1).bind fun e=>
 (qa4 N b.2.1).bind fun f=>
 some (⟨e,f⟩:qB)
theorem jw (N:Nat) (a:Str) {res:qB} (h:vJ N a=some res):qb ZT (.fn 61) [.str a] [] (.agg (nq1 res)) []:=by
 unfold vJ at h
 refine Ub Tryz.func61 rfl rfl (m:=22) rfl (rs:=[.cell 2 107]) rfl (l:=(kAH a)) rfl ?_
 refine sg fol (kA5 a (kM [])) (kF []) ?_
 obtain⟨b,e,h⟩:=bnd h
 refine sq (gr fol [1] (kM ((3,.str b.1)::(4,.str b.2.1)::(kBh b.2.2))) (ac (cv (qeg a [47] e)) az) ?_)
 refine sq ?_
 refine sh fol (kM ((3,.str b.1)::(4,.str b.2.1)::(kBE (!b.2.2)))) ?_
 refine ihB h (fun o h=>?_) (fun o h=>?_)
 ·obtain⟨p,f,h⟩:=bnd h
  obtain⟨k,g,h⟩:=bnd h
  refine sq (gq fol [1,2,3] (kM []) [.cells (nq1 k)] (ac (cv (qbB N b.1 f)) (ac (cv (qfC p g)) (ac (hs (.run [0] (qp ZT 107 (.ptr 0 0) (.agg (nq1 k))) (kF []) .undef [.cells (nq1 k)] true) (qX (n:=4) (by kernel_rfl) rfl rfl rfl rfl (cac rfl (cac nvc (cac rfl (cac nvc can)))) rfl)) az))) ?_)
  refine Goes.ret ?_
  obtain rfl:=si h
  exact(gw2 [.agg (nq1 k)] (FzW.agg (qc.cons (Ua tI) (qc.cons (Ua (qo (qa .u64) _ (nl rfl))) (qc.cons (Ua tI) (qc.cons (Ua (qo (qa .u64) _ (nl rfl))) qc.nil))))))
 refine Goes.skip ?_
 obtain⟨c,i,h⟩:=bnd h
 obtain⟨d,j,h⟩:=bnd h
 refine sq (gq fol [1,3,5] (kM []) [.cells (ni2 c.s c.w d.s d.w)] (ac (cv (qbB N b.1 i)) (ac (cv (qbB N b.2.1 j)) (ac (hs (.run [0] (qp ZT 107 (.ptr 0 0) (.agg (ni2 c.s c.w d.s d.w))) (kF []) .undef [.cells (ni2 c.s c.w d.s d.w)] true) (qX (n:=4) (by kernel_rfl) rfl rfl rfl rfl (cac rfl (cac nvc (cac rfl (cac nvc can)))) rfl)) az))) ?_)
 refine Goes.ret ?_
 obtain rfl:=si h
 exact(gw2 [.agg (ni2 c.s c.w d.s d.w)] (FzW.agg (qc.cons (Ua tI) (qc.cons (Ua (qo (qa .u64) _ (nl rfl))) (qc.cons (Ua tI) (qc.cons (Ua (qo (qa .u64) _ (nl rfl))) qc.nil))))))
def qaE (a:qB):Option Int:=
 (qV a.Num).bind fun b=>
 some b
theorem qf6 (a:qB) {res:Int} (h:qaE a=some res):qb ZT (.fn 129) [.agg (nq1 a)] [] (.i res) []:=by
 unfold qaE at h
 refine Ub Tryz.func129 rfl rfl (m:=6) rfl (rs:=[.tmp 2]) rfl (l:=[(0,.agg (nq1 a))]) rfl ?_
 refine sg fol (kR []) [.cells (nq1 a)] ?_
 obtain⟨c,b,h⟩:=bnd h
 refine sq (gr fol [2] (kA3 c) (ac (cv (yz a.Num b)) az) ?_)
 refine Goes.ret ?_
 obtain rfl:=si h
 exact(gw2 [.i c] (Ua tI))
def qaP (N:Nat) (a:Str) (sign:Int):Option Int:=
 (qar N a).bind fun b=>
 if(!decide (b=0))=true then
 some b
 else
 (vJ N a).bind fun c=>
 (qaE c).bind fun d=>
 (jK (decide (d<sign)) 3).bind fun e=>
 some e
theorem qeV (N:Nat) (a:Str) (sign:Int) {res:Int} (h:qaP N a sign=some res):qb ZT (.fn 119) [.str a,.i sign] [] (.i res) []:=by
 unfold qaP at h
 refine Ub Tryz.func119 rfl rfl (m:=17) rfl (rs:=[.tmp 4]) rfl (l:=(kA5 a [(1,.i sign)])) rfl ?_
 refine sh fol (kA5 a [(1,.i sign)]) ?_
 refine sq ?_
 obtain⟨b,c,h⟩:=bnd h
 refine sq (gr fol [1] (kA5 a ((1,.i sign)::(kAm b))) (ac (cv (qdI N a c)) az) ?_)
 refine sh fol (kA5 a [(1,.i sign),(5,.i b),(9,.bool (!decide (b=0)))]) ?_
 refine ihB h (fun j h=>?_) (fun j h=>?_)
 ·refine sh fol (kBU b) ?_
  refine Goes.ret ?_
  obtain rfl:=si h
  exact(gw2 [.i b] (Ua tI))
 refine Goes.skip ?_
 obtain⟨k,d,h⟩:=bnd h
 obtain⟨n,e,h⟩:=bnd h
 obtain⟨g,f,h⟩:=bnd h
 refine sq (gr fol [1,2,5] (kBU g) (ac (cv (jw N a d)) (ac (cv (qf6 k e)) (ac (cv (yI (decide (n<sign)) 3 f)) az))) ?_)
 refine Goes.ret ?_
 obtain rfl:=si h
 exact(gw2 [.i g] (Ua tI))
def ze (N:Nat) (a:Str):Option Int:=
 (qaP N a 1).bind fun b=>
 some b
theorem qat (N:Nat) (a:Str) {res:Int} (h:ze N a=some res):qb ZT (.fn 54) [.str a] [] (.i res) []:=by
 unfold ze at h
 refine Ub Tryz.func54 rfl rfl (m:=5) rfl (rs:=[.tmp 2]) rfl (l:=(kAH a)) rfl ?_
 refine sh fol (kAH a) ?_
 obtain⟨c,b,h⟩:=bnd h
 refine sq (gr fol [1] (kA3 c) (ac (cv (qeV N a 1 b)) az) ?_)
 refine Goes.ret ?_
 obtain rfl:=si h
 exact(gw2 [.i c] (Ua tI))
def jk (N:Nat):Nat->(List Str)->(List Int)->Option (List Str)
 |0,_,_=>none
 |K+1,i,j=>
  if(j.length:Int)>0 then
  (qaU N j ([1000000000000000000]:List Int)).bind fun b=>
  ((if(b.2.length:Int)>0 then
  (idx b.2 0).bind fun c=>
  (qhd c 10).bind fun d=>
  some d
  else
  some [48]:Option Str)).bind fun a=>
  ((if(b.1.length:Int)>0 then
  (qev [48] (w64 (18-(a.length:Int)))).bind fun e=>
  (cat e a).bind fun f=>
  some f
  else
  some a:Option Str)).bind fun g=>
  (app 16 i [g]).bind fun h=>
  jk N K h b.1
  else
  some i
def zm (e:List Str):Nat->Bool->(Option (List Int))->Int->Option (Bool×(Option (List Int)))
 |0,_,_,_=>none
 |K+1,ok27,b,a=>
  if a>=0 then
  (idx e a).bind fun c=>
  (bWr ok27 b c).bind fun d=>
  zm e K true (some d) (w64 (a-1))
  else
  some (ok27,b)
def jX (N:Nat) (a:qj):Option Str:=
 if a.w.isEmpty=true then
 (qmh a.s).bind fun h=>
 some h
 else
 (qF a).bind fun f=>
 (jk N N ([]:List Str) f.2).bind fun g=>
 ((if f.1=true then
 (bWr false (none:Option (List Int)) [45]).bind fun b=>
 some (true,(some b))
 else
 some (false,(none:Option (List Int))):Option (Bool×(Option (List Int))))).bind fun(ok21,c)=>
 (zm g N ok21 c (w64 ((g.length:Int)-1))).bind fun(ok30,d)=>
 (qmP ok30 d).bind fun e=>
 some e
theorem xV (N:Nat) (a:qj) {res:Str} (h:jX N a=some res):qb ZT (.fn 193) [.agg (nz1 a)] [] (.str res) []:=by
 unfold jX at h
 refine Ub Tryz.func193 rfl rfl (m:=69) rfl (rs:=[.tmp 2]) rfl (l:=[(0,.agg (nz1 a))]) rfl ?_
 refine sg fol (kR []) [.cells (nz1 a)] ?_
 refine sq ?_
 refine sq (gr fol [2] (kR [(14,.bool a.w.isEmpty)]) (ac (hs (.done (.opt (qY ZT .eql 103 (.tmp 13) (.const (.slice none 0 0)) (nvl (qa .u64) a.w) .nilslice)) (.bool a.w.isEmpty)) (qaB vX)) az) ?_)
 refine ihB h (fun c1 h=>?_) (fun c1 h=>?_)
 ·obtain⟨r2,J,h⟩:=bnd h
  refine sq (gr fol [2] (kBH r2) (ac (cv (qnT a.s J)) az) ?_)
  refine Goes.ret ?_
  obtain rfl:=si h
  exact(gw2 [.str r2] (Ua tS))
 refine Goes.skip ?_
 obtain⟨d,K,h⟩:=bnd h
 refine sq (gr fol [1] (kBF d.1 [(4,vl (qa .u64) d.2)]) (ac (cv (zF a K)) az) ?_)
 refine sg fol (kBF d.1 [(4,vl (qa .u64) d.2),(5,.slice 1 0 1 1 1)]) [.cells (nz1 a),.cells [.int .u64 1000000000000000000]] ?_
 refine sh fol (kBF d.1 [(4,vl (qa .u64) d.2),(5,.slice 1 0 1 1 1),(6,.nilslice)]) ?_
 refine sq (Goes.block ?_)
 obtain⟨r7,g7,h⟩:=bnd h
 refine Goes.imp (Q:=fun x s'=>(x= .exit 0/\ ∃b,b=r7/\Sub s' (ofG 69 (kBF d.1 (kAJ b [])),(kZ b [])))) ?_ ?_
 ·refine Goes.sub (s':=(ofG 69 (kBF d.1 [(4,vl (qa .u64) d.2),(5,vl (qa .u64) ([1000000000000000000]:List Int)),(6,.gslice 0 ([]:List Str).length 1)]),[.cells (([]:List Str).flatMap encS.c)])) (Sub.norm [1] [none] rfl rfl (.keep (.same nB) (.keep (.same (qd (qa .u64) _)) (.keep (.frz (Fz.lit rfl rfl (Ud (AllST.cons tI AllST.nil))) (qd (qa .u64) _)) (.keep .nil .nil)))) (.fresh .nil)) ?_
  refine Uc (fun M s=> ∃(g:List Str) (I:List Int),s=(ofG 69 (kBF d.1 ((4,vl (qa .u64) I)::(5,vl (qa .u64) ([1000000000000000000]:List Int))::(kAJ g []))),(kZ g []))/\jk N M g I=some r7) ?_ (m:=N) ⟨_,_,rfl,g7⟩
  rintro M s ⟨g,I,rfl,g7⟩
  cases M with
  |zero=>simp only[jk]at g7;cases g7
  |succ M=>
   rw[jk]at g7
   refine sq ?_
   refine sh fol (kBF d.1 ((4,vl (qa .u64) I)::(5,vl (qa .u64) ([1000000000000000000]:List Int))::(kAJ g [(26,.bool (decide ((I.length:Int)>0)))]))) ?_
   refine ihD g7 (fun c8 g7=>?_) (fun c8 g7=>?_)
   ·refine Goes.skip ?_
    refine Goes.block ?_
    obtain⟨j,L,g7⟩:=bnd g7
    refine sq (gr fol [2] (kBF d.1 ((5,vl (qa .u64) ([1000000000000000000]:List Int))::(kAJ g [(7,vl (qa .u64) j.1),(8,vl (qa .u64) j.2)]))) (ac (cv (qeN N I ([1000000000000000000]:List Int) L)) az) ?_)
    refine sh fol (kBF d.1 ((5,vl (qa .u64) ([1000000000000000000]:List Int))::(kAJ g [(7,vl (qa .u64) j.1),(8,vl (qa .u64) j.2),(9,.str [48])]))) ?_
    refine sq ?_
    refine sh fol (kBF d.1 ((5,vl (qa .u64) ([1000000000000000000]:List Int))::(kAJ g [(7,vl (qa .u64) j.1),(8,vl (qa .u64) j.2),(9,.str [48]),(35,.bool (decide ((j.2.length:Int)>0)))]))) ?_
    obtain⟨U,g11,g7⟩:=bnd g7
    refine Goes.imp (Q:=fun x s'=>(x= .normal/\ ∃p,p=U/\Sub s' (ofG 69 (kBF d.1 ((5,vl (qa .u64) ([1000000000000000000]:List Int))::(kAJ g [(7,vl (qa .u64) j.1),(9,.str p)]))),(kZ g [])))) ?_ ?_
    ·refine ihD g11 (fun V g11=>?_) (fun V g11=>?_)
     ·obtain⟨X,r,g11⟩:=bnd g11
      obtain⟨Y,z,g11⟩:=bnd g11
      refine gr fol [1,2,3] (kBF d.1 ((5,vl (qa .u64) ([1000000000000000000]:List Int))::(kAJ g [(7,vl (qa .u64) j.1),(9,.str Y)]))) (ac (iv qI (qa .u64) r) (ac (lv 0 zP (qa .u64) r rfl) (ac (cv (qnM X 10 z)) az))) ?_
      obtain rfl:=si g11
      exact⟨rfl,_,rfl,(Sub.refl _)⟩
     refine Goes.skip ?_
     obtain rfl:=si g11
     exact⟨rfl,_,rfl,(Sub.keep [3,5,6,7,9] rfl rfl)⟩
    rintro x s' ⟨rfl,p,rfl,hsub⟩
    refine Goes.sub hsub ?_
    refine sq ?_
    refine sh fol (kBF d.1 ((5,vl (qa .u64) ([1000000000000000000]:List Int))::(kAJ g [(7,vl (qa .u64) j.1),(9,.str p),(42,.bool (decide ((j.1.length:Int)>0)))]))) ?_
    obtain⟨Z,g16,g7⟩:=bnd g7
    refine Goes.imp (Q:=fun x s'=>(x= .normal/\ ∃k,k=Z/\Sub s' (ofG 69 (kBF d.1 ((5,vl (qa .u64) ([1000000000000000000]:List Int))::(kAJ g [(7,vl (qa .u64) j.1),(9,.str k)]))),(kZ g [])))) ?_ ?_
    ·refine ihD g16 (fun a0 g16=>?_) (fun a0 g16=>?_)
     ·obtain⟨a1,A,g16⟩:=bnd g16
      obtain⟨O,B,g16⟩:=bnd g16
      refine gr fol [3,5] (kBF d.1 ((5,vl (qa .u64) ([1000000000000000000]:List Int))::(kAJ g [(7,vl (qa .u64) j.1),(9,.str O)]))) (ac (cv (qk7 [48] (w64 (18-(p.length:Int))) A)) (ac (hs (.done (.opt (qY ZT .add 9 (.tmp 46) (.tmp 47) (.str a1) (.str p))) (.str O)) (qaH B)) az)) ?_
      obtain rfl:=si g16
      exact⟨rfl,_,rfl,(Sub.refl _)⟩
     refine Goes.skip ?_
     obtain rfl:=si g16
     exact⟨rfl,_,rfl,(Sub.keep [3,5,6,7,9] rfl rfl)⟩
    rintro x s' ⟨rfl,k,rfl,hsub⟩
    refine Goes.sub hsub ?_
    obtain⟨n,C,g7⟩:=bnd g7
    refine sq (gq fol [3] (kBF d.1 [(5,vl (qa .u64) ([1000000000000000000]:List Int)),(6,.gslice 2 n.length 1),(7,vl (qa .u64) j.1)]) (.dead:: .cells [.str k]::(kZ n [])) (ac (hs (.run [0,1] (xU ZT [262,262] (.gslice 0 g.length 1) (.slice 1 0 1 1 1)) (kZ g [.cells [.str k]]) (.gslice 2 n.length 1) (.dead:: .cells [.str k]::(kZ n [])) true) (qcy qqo (E:=encS) rfl (qht (E:=encS) (ys:=[k]) rfl rfl rfl rfl) (qiq (E:=encS) (l:=g) rfl rfl rfl C rfl))) az) ?_)
    refine gh fol (kBF d.1 [(4,vl (qa .u64) j.1),(5,vl (qa .u64) ([1000000000000000000]:List Int)),(6,.gslice 2 n.length 1)]) ?_
    exact⟨M,(ofG 69 (kBF d.1 ((4,vl (qa .u64) j.1)::(5,vl (qa .u64) ([1000000000000000000]:List Int))::(kAJ n []))),(kZ n [])),Nat.lt_succ_self _,(Sub.norm [] [some 2] rfl rfl (.keep (.same nB) (.keep (.same (qd (qa .u64) _)) (.keep (.same (qd (qa .u64) _)) (.keep (.gslice rfl) .nil)))) (.ks .nil)),_,_,rfl,g7⟩
   refine Goes.exit ?_
   obtain rfl:=si g7
   exact⟨rfl,_,rfl,(Sub.keep [3,6] rfl rfl)⟩
 rintro x s' ⟨rfl,b,rfl,hsub⟩
 refine Goes.sub hsub ?_
 refine sg fol (kBF d.1 (kAJ b (kBb []))) (kZ b [.bld 268 5 [.nilptr,.nilslice]]) ?_
 refine sq ?_
 refine sh fol (kAJ b (kBb [(54,.bool d.1)])) ?_
 obtain⟨a2,g23,h⟩:=bnd h
 refine Goes.imp (Q:=fun x s'=>(x= .normal/\ ∃ok21 u,(ok21,u)=a2/\Sub s' (ofG 69 (kAJ b (kBb [])),(kZ b [.bld 268 5 [pz ok21 1 0,hsl 2 1 u],.cells ((hof u).flatMap (qa .u8).c)])))) ?_ ?_
 ·refine ihB g23 (fun a3 g23=>?_) (fun a3 g23=>?_)
  ·refine Goes.sub (s':=(ofG 69 (kAJ b (kBb [(54,.bool d.1)])),(kZ b [.bld 268 5 [pz false 1 0,.nilslice]]))) (Sub.norm [] [some 0,some 1] rfl rfl (.keep (.gslice rfl) (.kp (.keep (.same nB) .nil))) (.ks (.kb rfl (.bld (rc (jc.pz0) (rc (.same (qE.nilslice)) rn))) .nil))) ?_
   refine Goes.sub (s':=(ofG 69 (kAJ b (kBb [(54,.bool d.1)])),(kZ b [.bld 268 5 [pz false 1 0,hsl 2 1 (none:Option (List Int))],.cells ((hof (none:Option (List Int))).flatMap (qa .u8).c)]))) (Sub.norm [] [some 0,some 1,none] rfl rfl (.keep (.gslice rfl) (.kp (.keep (.same nB) .nil))) (.ks (.kb rfl (.bld (rc (jc.pz0) (rc .hs0 rn))) (.fresh .nil)))) ?_
   obtain⟨v,D,g23⟩:=bnd g23
   refine gq fol [0] (kAJ b (kBb [])) (kZ b [.bld 268 5 [pz true 1 0,hsl 3 1 (some v)],.dead,.cells ((hof (some v)).flatMap (qa .u8).c)]) (ac (hs (.callH 251 [.ptr 1 0,.str [45]] (kZ b [.bld 268 5 [pz false 1 0,hsl 2 1 (none:Option (List Int))],.cells ((hof (none:Option (List Int))).flatMap (qa .u8).c)]) [1,2] (.tuple [.i (([45].length:Nat):Int),.niliface]) (kZ b [.bld 268 5 [pz true 1 0,hsl 3 1 (some v)],.dead,.cells ((hof (some v)).flatMap (qa .u8).c)])) (qfU [some 1,some 2] [none,some 0,none,some 2] (qol false (none:Option (List Int)) [45] D) (.kb rfl (.bld (rc (jc.pz0) (rc .hs0 rn))) (.ks .nil)) rfl rfl (.old rfl rfl (.back rfl rfl (.bld (rc ((jc.pz rfl)) (rc (.hs rfl) rn))) rfl (.dead (.new rfl rfl (.same fa) rfl .nil)))) (rc (.ptr rfl) (rc (.same nS) rn)) (.same (qE.tuple sn)) rfl)) az) ?_
   obtain rfl:=si g23
   exact⟨rfl,_,_,rfl,(Sub.norm [] [some 0,some 1,some 3] rfl rfl (.keep (.gslice rfl) (.kp .nil)) (.ks (.kb rfl (.bld (rc ((jc.pz rfl)) (rc (.hs rfl) rn))) (.ks .nil))))⟩
  refine Goes.skip ?_
  obtain rfl:=si g23
  exact⟨rfl,_,_,rfl,(Sub.norm [] [some 0,some 1,none] rfl rfl (.keep (.gslice rfl) (.kp .nil)) (.ks (.kb rfl (.bld (rc (jc.pz0) (rc .hs0 rn))) (.fresh .nil))))⟩
 rintro x s' ⟨rfl,ok21,u,rfl,hsub⟩
 try dsimp only at h
 refine Goes.sub hsub ?_
 refine sq ?_
 refine sh fol (kAJ b (kBb [(11,.i (w64 ((b.length:Int)-1)))])) ?_
 refine Goes.block ?_
 obtain⟨P,g32,h⟩:=bnd h
 refine Goes.imp (Q:=fun x s'=>(x= .exit 2/\ ∃ok30 o,(ok30,o)=P/\Sub s' (ofG 69 [(10,.ptr 0 0)],[.bld 268 5 [pz ok30 0 0,hsl 1 1 o],.cells ((hof o).flatMap (qa .u8).c)]))) ?_ ?_
 ·refine Uc (fun M s=> ∃(ok27:Bool) (e:Option (List Int)) (f:Int),s=(ofG 69 (kAJ b (kBb [(11,.i f)])),(kZ b [.bld 268 5 [pz ok27 1 0,hsl 2 1 e],.cells ((hof e).flatMap (qa .u8).c)]))/\zm b M ok27 e f=some P) ?_ (m:=N) ⟨_,_,_,rfl,g32⟩
  rintro M s ⟨ok27,e,f,rfl,g32⟩
  cases M with
  |zero=>simp only[zm]at g32;cases g32
  |succ M=>
   rw[zm]at g32
   refine sq ?_
   refine sh fol (kAJ b (kBb [(11,.i f),(60,.bool (decide (f>=0)))])) ?_
   refine ihD g32 (fun a4 g32=>?_) (fun a4 g32=>?_)
   ·refine Goes.skip ?_
    refine sq (Goes.block ?_)
    obtain⟨y,t,g32⟩:=bnd g32
    obtain⟨q,F,g32⟩:=bnd g32
    refine gq fol [2,3,4] (kAJ b (kBb [(11,.i f)])) (kZ b [.bld 268 5 [pz true 1 0,hsl 3 1 (some q)],.dead,.cells ((hof (some q)).flatMap (qa .u8).c)]) (ac (hs (.done (.opt (qg ZT 262 (.gslice 0 b.length 1) (.i f))) (.ptr 0 ((f:Int).toNat*1+0))) (ix_gs qqo t)) (ac (hs (.run [0] (jf ZT 9 (.ptr 0 ((f:Int).toNat*1+0))) (kZ b [.bld 268 5 [pz ok27 1 0,hsl 2 1 e],.cells ((hof e).flatMap (qa .u8).c)]) (.str y) (kZ b [.bld 268 5 [pz ok27 1 0,hsl 2 1 e],.cells ((hof e).flatMap (qa .u8).c)]) false) (qct ce9 (E:=encS) (l:=b) rfl rfl t (nl rfl) rfl)) (ac (hs (.callH 251 [.ptr 1 0,.str y] (kZ b [.bld 268 5 [pz ok27 1 0,hsl 2 1 e],.cells ((hof e).flatMap (qa .u8).c)]) [1,2] (.tuple [.i ((y.length:Nat):Int),.niliface]) (kZ b [.bld 268 5 [pz true 1 0,hsl 3 1 (some q)],.dead,.cells ((hof (some q)).flatMap (qa .u8).c)])) (qfU [some 1,some 2] [none,some 0,none,some 2] (qol ok27 e y F) (.kb rfl (.bld (rc ((jc.pz rfl)) (rc (.hs rfl) rn))) (.ks .nil)) rfl rfl (.old rfl rfl (.back rfl rfl (.bld (rc ((jc.pz rfl)) (rc (.hs rfl) rn))) rfl (.dead (.new rfl rfl (.same fa) rfl .nil)))) (rc (.ptr rfl) (rc (.same nS) rn)) (.same (qE.tuple sn)) rfl)) az))) ?_
    refine gh fol (kAJ b (kBb [(11,.i (w64 (f-1)))])) ?_
    exact⟨M,(ofG 69 (kAJ b (kBb [(11,.i (w64 (f-1)))])),(kZ b [.bld 268 5 [pz true 1 0,hsl 2 1 (some q)],.cells ((hof (some q)).flatMap (qa .u8).c)])),Nat.lt_succ_self _,(Sub.norm [] [some 0,some 1,some 3] rfl rfl (.keep (.gslice rfl) (.kp (.keep (.same nI) .nil))) (.ks (.kb rfl (.bld (rc ((jc.pz rfl)) (rc (.hs rfl) rn))) (.ks .nil)))),_,_,_,rfl,g32⟩
   refine Goes.exit ?_
   obtain rfl:=si g32
   exact⟨rfl,_,_,rfl,(Sub.norm [] [some 1,some 2] rfl rfl (.drop (.kp .nil)) (.kb rfl (.bld (rc ((jc.pz rfl)) (rc (.hs rfl) rn))) (.ks .nil)))⟩
 rintro x s' ⟨rfl,ok30,o,rfl,hsub⟩
 try dsimp only at h
 refine Goes.sub hsub ?_
 obtain⟨G,H,h⟩:=bnd h
 refine sq (gq fol [0] (kBH G) [.dead,.dead] (ac (hs (.callH 252 [.ptr 0 0] [.bld 268 5 [pz ok30 0 0,hsl 1 1 o],.cells ((hof o).flatMap (qa .u8).c)] [0,1] (.str G) [.dead,.dead]) (qfU [some 0,some 1] [none,none] (qpC ok30 o H) (.kb rfl (.bld (rc ((jc.pz rfl)) (rc (.hs rfl) rn))) (.ks .nil)) rfl rfl (.dead (.dead .nil)) (rc (.ptr rfl) rn) (.same nS) rfl)) az) ?_)
 refine Goes.ret ?_
 obtain rfl:=si h
 exact(gw2 [.str G] (Ua tS))
def qaZ (a:qj):Option Int:=
 (qF a).bind fun b=>
 if(b.2.length:Int)=0 then
 some 0
 else
 (idx b.2 (w64 ((b.2.length:Int)-1))).bind fun c=>
 (bits_Len64 c).bind fun d=>
 some (w64 ((w64 (64*(w64 ((b.2.length:Int)-1))))+d))
theorem qdL (a:qj) {res:Int} (h:qaZ a=some res):qb ZT (.fn 247) [.agg (nz1 a)] [] (.i res) []:=by
 unfold qaZ at h
 refine Ub Tryz.func247 rfl rfl (m:=25) rfl (rs:=[.tmp 2]) rfl (l:=[(0,.agg (nz1 a))]) rfl ?_
 refine sg fol (kR []) [.cells (nz1 a)] ?_
 obtain⟨c,d,h⟩:=bnd h
 refine sq (gr fol [1] [(4,vl (qa .u64) c.2)] (ac (cv (zF a d)) az) ?_)
 refine sq ?_
 refine sh fol ((4,vl (qa .u64) c.2)::(kA1 (decide ((c.2.length:Int)=0)))) ?_
 refine ihD h (fun g h=>?_) (fun g h=>?_)
 ·refine sh fol [(2,.i 0)] ?_
  refine Goes.ret ?_
  obtain rfl:=si h
  exact(gw2 [.i 0] (Ua tI))
 refine Goes.skip ?_
 obtain⟨j,b,h⟩:=bnd h
 obtain⟨f,e,h⟩:=bnd h
 refine sq (gr fol [8,9,10] (kA3 (w64 ((w64 (64*(w64 ((c.2.length:Int)-1))))+f))) (ac (iv qI (qa .u64) b) (ac (lv 0 zP (qa .u64) b rfl) (ac (cv (qeS j e)) az))) ?_)
 refine Goes.ret ?_
 obtain rfl:=si h
 exact(gw2 [.i (w64 ((w64 (64*(w64 ((c.2.length:Int)-1))))+f))] (Ua tI))
def qcW (N:Nat) (n:qj):Option Bool:=
 ((qaZ n).bind fun a=>
 if a>1800 then
 (jX N n).bind fun b=>
 (strings_TrimPrefix b [45]).bind fun c=>
 some (decide ((c.length:Int)>600))
 else
 some false:Option Bool).bind fun d=>
 some d
theorem qd0 (N:Nat) (n:qj) {res:Bool} (h:qcW N n=some res):qb ZT (.fn 192) [.agg (nz1 n)] [] (.bool res) []:=by
 unfold qcW at h
 refine Ub Tryz.func192 rfl rfl (m:=13) rfl (rs:=[.tmp 2]) rfl (l:=[(0,.agg (nz1 n))]) rfl ?_
 refine sg fol (kR []) [.cells (nz1 n)] ?_
 refine sq ?_
 obtain⟨f,a,h⟩:=bnd h
 refine Goes.cut (s':=(ofG 13 (kBQ f),[.cells (nz1 n)])) ?_ ?_
 ·obtain⟨j,b,a⟩:=bnd a
  rcases wyD a with⟨e,a⟩|⟨e,a⟩
  ·obtain⟨g,c,a⟩:=bnd a
   obtain⟨i,d,a⟩:=bnd a
   obtain rfl:=si a
   exact tr fol [1,3,5,6] (kBQ (decide ((i.length:Int)>600))) (ac (cv (qdL n b)) (ac (gw e) (ac (cv (xV N n c)) (ac (cv (qbk g [45] d)) az))))
  obtain rfl:=si a
  exact tr fol [1,3] kAq (ac (cv (qdL n b)) (ac (gw e) az))
 refine Goes.ret ?_
 obtain rfl:=si h
 exact(gw2 [.bool f] (Ua tB))
def qah (N:Nat) (a:qB):Option Bool:=
 ((qcW N a.Num).bind fun b=>
 if b=true then
 some true
 else
 (qcW N a.Den).bind fun c=>
 some c:Option Bool).bind fun d=>
 some d
theorem qfj (N:Nat) (a:qB) {res:Bool} (h:qah N a=some res):qb ZT (.fn 132) [.agg (nq1 a)] [] (.bool res) []:=by
 unfold qah at h
 refine Ub Tryz.func132 rfl rfl (m:=11) rfl (rs:=[.tmp 2]) rfl (l:=[(0,.agg (nq1 a))]) rfl ?_
 refine sg fol (kR []) [.cells (nq1 a)] ?_
 refine sq ?_
 obtain⟨f,b,h⟩:=bnd h
 refine Goes.cut (s':=(ofG 11 (kBQ f),[.cells (nq1 a)])) ?_ ?_
 ·obtain⟨i,c,b⟩:=bnd b
  rcases wyB b with⟨e,b⟩|⟨e,b⟩
  ·obtain rfl:=si b
   exact tr fol [2,3] kBd (ac (cv (qd0 N a.Num c)) (ac (gw e) az))
  obtain⟨g,d,b⟩:=bnd b
  obtain rfl:=si b
  exact tr fol [2,3,6] (kBQ g) (ac (cv (qd0 N a.Num c)) (ac (gw e) (ac (cv (qd0 N a.Den d)) az)))
 refine Goes.ret ?_
 obtain rfl:=si h
 exact(gw2 [.bool f] (Ua tB))
def xe (a:qB):Option Bool:=
 (if a.Den.w.isEmpty=true then
 some (decide (a.Den.s=1))
 else
 some false:Option Bool).bind fun b=>
 some b
theorem qeL (a:qB) {res:Bool} (h:xe a=some res):qb ZT (.fn 134) [.agg (nq1 a)] [] (.bool res) []:=by
 unfold xe at h
 refine Ub Tryz.func134 rfl rfl (m:=13) rfl (rs:=[.tmp 2]) rfl (l:=[(0,.agg (nq1 a))]) rfl ?_
 refine sg fol (kR []) [.cells (nq1 a)] ?_
 refine sq ?_
 obtain⟨d,b,h⟩:=bnd h
 refine Goes.cut (s':=(ofG 13 (kBQ d),[.cells (nq1 a)])) ?_ ?_
 ·rcases wyB b with⟨c,b⟩|⟨c,b⟩
  ·obtain rfl:=si b
   exact tr fol [3,4] (kBQ (decide (a.Den.s=1))) (ac (hs (.done (.opt (qY ZT .eql 103 (.tmp 5) (.const (.slice none 0 0)) (nvl (qa .u64) a.Den.w) .nilslice)) (.bool a.Den.w.isEmpty)) (qaB vX)) (ac (gw c) az))
  obtain rfl:=si b
  exact tr fol [3,4] kAq (ac (hs (.done (.opt (qY ZT .eql 103 (.tmp 5) (.const (.slice none 0 0)) (nvl (qa .u64) a.Den.w) .nilslice)) (.bool a.Den.w.isEmpty)) (qaB vX)) (ac (gw c) az))
 refine Goes.ret ?_
 obtain rfl:=si h
 exact(gw2 [.bool d] (Ua tB))
def qaF (N:Nat) (a:qB):Option Str:=
 (xe a).bind fun b=>
 if b=true then
 (jX N a.Num).bind fun c=>
 some c
 else
 (jX N a.Num).bind fun d=>
 (cat d [47]).bind fun e=>
 (jX N a.Den).bind fun f=>
 (cat e f).bind fun g=>
 some g
theorem qfP (N:Nat) (a:qB) {res:Str} (h:qaF N a=some res):qb ZT (.fn 133) [.agg (nq1 a)] [] (.str res) []:=by
 unfold qaF at h
 refine Ub Tryz.func133 rfl rfl (m:=16) rfl (rs:=[.tmp 2]) rfl (l:=[(0,.agg (nq1 a))]) rfl ?_
 refine sg fol (kR []) [.cells (nq1 a)] ?_
 refine sq ?_
 obtain⟨n,b,h⟩:=bnd h
 refine sq (gr fol [1] (kR (kBM n)) (ac (cv (qeL a b)) az) ?_)
 refine ihB h (fun o h=>?_) (fun o h=>?_)
 ·obtain⟨j,c,h⟩:=bnd h
  refine sq (gr fol [2] (kBH j) (ac (cv (xV N a.Num c)) az) ?_)
  refine Goes.ret ?_
  obtain rfl:=si h
  exact(gw2 [.str j] (Ua tS))
 refine Goes.skip ?_
 obtain⟨p,d,h⟩:=bnd h
 obtain⟨k,e,h⟩:=bnd h
 obtain⟨q,f,h⟩:=bnd h
 obtain⟨i,g,h⟩:=bnd h
 refine sq (gr fol [2,3,6,7] (kBH i) (ac (cv (xV N a.Num d)) (ac (hs (.done (.opt (qY ZT .add 9 (.tmp 10) (.const (.string ⟨#[47]⟩)) (.str p) (.str [47]))) (.str k)) (qaH e)) (ac (cv (xV N a.Den f)) (ac (hs (.done (.opt (qY ZT .add 9 (.tmp 11) (.tmp 14) (.str k) (.str q))) (.str i)) (qaH g)) az)))) ?_)
 refine Goes.ret ?_
 obtain rfl:=si h
 exact(gw2 [.str i] (Ua tS))
def yA (N:Nat) (a:qB):Option (Str×Int):=
 (qah N a).bind fun b=>
 if b=true then
 some ([],4)
 else
 (qaF N a).bind fun c=>
 some (c,0)
theorem qak (N:Nat) (a:qB) {res:Str×Int} (h:yA N a=some res):qb ZT (.fn 62) [.agg (nq1 a)] [] (.tuple [.str res.1,.i res.2]) []:=by
 unfold yA at h
 refine Ub Tryz.func62 rfl rfl (m:=8) rfl (rs:=[.tmp 2,.tmp 3]) rfl (l:=[(0,.agg (nq1 a))]) rfl ?_
 refine sg fol (kR []) [.cells (nq1 a)] ?_
 refine sq ?_
 obtain⟨e,b,h⟩:=bnd h
 refine sq (gr fol [1] (kR (kBh e)) (ac (cv (qfj N a b)) az) ?_)
 refine ihB h (fun f h=>?_) (fun f h=>?_)
 ·refine sh fol [(2,.str []),(3,.i 4)] ?_
  refine Goes.ret ?_
  obtain rfl:=si h
  exact(gw2 [.str [],.i 4] (FzW.tuple (qc.cons (Ua tS) (qc.cons (Ua tI) qc.nil))))
 refine Goes.skip ?_
 obtain⟨d,c,h⟩:=bnd h
 refine sq (gr fol [1] [(2,.str d),(3,.i 0)] (ac (cv (qfP N a c)) az) ?_)
 refine Goes.ret ?_
 obtain rfl:=si h
 exact(gw2 [.str d,.i 0] (FzW.tuple (qc.cons (Ua tS) (qc.cons (Ua tI) qc.nil))))
def vR (N:Nat) (a:qj) (b:qj):Option qj:=
 (qV b).bind fun f=>
 ((if f<0 then
 (zk a).bind fun d=>
 (zk b).bind fun e=>
 some (d.s,d.w,e.s,e.w)
 else
 some (a.s,a.w,b.s,b.w):Option (Int×(List Int)×Int×(List Int)))).bind fun(g,h,i,j)=>
 (zT N (⟨g,h⟩:qj) (⟨i,j⟩:qj)).bind fun c=>
 some c.1
theorem qer (N:Nat) (a:qj) (b:qj) {res:qj} (h:vR N a b=some res):qb ZT (.fn 199) [.agg (nz1 a),.agg (nz1 b)] [] (.agg (nz1 res)) []:=by
 unfold vR at h
 refine Ub Tryz.func199 rfl rfl (m:=21) rfl (rs:=[.cell 4 105]) rfl (l:=[(0,.agg (nz1 a)),(1,.agg (nz1 b))]) rfl ?_
 refine sg fol (kE []) [.cells (nz1 a),.cells (nz1 b),bZ] ?_
 refine sq ?_
 obtain⟨r,j,h⟩:=bnd h
 refine sq (gr fol [1] (kE [(9,.bool (decide (r<0)))]) (ac (cv (yz b j)) az) ?_)
 obtain⟨s,g6,h⟩:=bnd h
 refine Goes.imp (Q:=fun x s'=>(x= .normal/\ ∃d e f g,(d,e,f,g)=s/\Sub s' (ofG 21 (kE []),[.cells (ni1 d e),.cells (ni1 f g),bZ]))) ?_ ?_
 ·refine ihD g6 (fun t g6=>?_) (fun t g6=>?_)
  ·obtain⟨k,o,g6⟩:=bnd g6
   obtain⟨q,p,g6⟩:=bnd g6
   refine gq fol [1,3,4,5] (kE []) [.cells (nz1 k),.cells (nz1 q),bZ] (ac (cv (jl a o)) (ac (cv (jl b p)) (ac (hs (.run [0] (qp ZT 105 (.ptr 0 0) (.agg (nz1 k))) [.cells (nz1 a),.cells (nz1 b),bZ] .undef [.cells (nz1 k),.cells (nz1 b),bZ] true) (qX (n:=2) (by kernel_rfl) rfl rfl rfl rfl (cac rfl (cac nvc can)) rfl)) (ac (hs (.run [1] (qp ZT 105 (.ptr 1 0) (.agg (nz1 q))) [.cells (nz1 k),.cells (nz1 b),bZ] .undef [.cells (nz1 k),.cells (nz1 q),bZ] true) (qX (n:=2) (by kernel_rfl) rfl rfl rfl rfl (cac rfl (cac nvc can)) rfl)) az)))) ?_
   obtain rfl:=si g6
   exact⟨rfl,_,_,_,_,rfl,(Sub.refl _)⟩
  refine Goes.skip ?_
  obtain rfl:=si g6
  exact⟨rfl,_,_,_,_,rfl,(Sub.keep [2,3,4] rfl rfl)⟩
 rintro x s' ⟨rfl,d,e,f,g,rfl,hsub⟩
 try dsimp only at h
 refine Goes.sub hsub ?_
 obtain⟨c,i,h⟩:=bnd h
 refine sq (gq fol [2,8,9] (kAS (kBW [])) [.cells (ni1 d e),.cells (ni1 f g),bZ,.cells (nz1 c.1),.cells (nz1 c.2)] (ac (cv (qa0 N (⟨d,e⟩:qj) (⟨f,g⟩:qj) i)) (ac (hs (.run [3] (qp ZT 105 (.ptr 3 0) (.agg (nz1 c.1))) [.cells (ni1 d e),.cells (ni1 f g),bZ,bZ,bZ] .undef [.cells (ni1 d e),.cells (ni1 f g),bZ,.cells (nz1 c.1),bZ] true) (qX (n:=2) (by kernel_rfl) rfl rfl rfl rfl (cac rfl (cac nvc can)) rfl)) (ac (hs (.run [4] (qp ZT 105 (.ptr 4 0) (.agg (nz1 c.2))) [.cells (ni1 d e),.cells (ni1 f g),bZ,.cells (nz1 c.1),bZ] .undef [.cells (ni1 d e),.cells (ni1 f g),bZ,.cells (nz1 c.1),.cells (nz1 c.2)] true) (qX (n:=2) (by kernel_rfl) rfl rfl rfl rfl (cac rfl (cac nvc can)) rfl)) az))) ?_)
 refine sq (gq fol [1] (kAS []) [.cells (ni1 d e),.cells (ni1 f g),.cells (nz1 c.1),.cells (nz1 c.1),.cells (nz1 c.2)] (ac (hs (.run [2] (qp ZT 105 (.ptr 2 0) (.agg (nz1 c.1))) [.cells (ni1 d e),.cells (ni1 f g),bZ,.cells (nz1 c.1),.cells (nz1 c.2)] .undef [.cells (ni1 d e),.cells (ni1 f g),.cells (nz1 c.1),.cells (nz1 c.1),.cells (nz1 c.2)] true) (qX (n:=2) (by kernel_rfl) rfl rfl rfl rfl (cac rfl (cac nvc can)) rfl)) az) ?_)
 refine Goes.ret ?_
 obtain rfl:=si h
 exact(gw2 [.agg (nz1 c.1)] (FzW.agg (qc.cons (Ua tI) (qc.cons (Ua (qo (qa .u64) _ (nl rfl))) qc.nil))))
def qcP (N:Nat) (num:qj) (den:qj):Option qB:=
 (qV den).bind fun k=>
 ((if k<0 then
 (zk num).bind fun i=>
 (zk den).bind fun j=>
 some (i.s,i.w,j.s,j.w)
 else
 some (num.s,num.w,den.s,den.w):Option (Int×(List Int)×Int×(List Int)))).bind fun(d,e,b,c)=>
 (if c.isEmpty=true then
 some (decide (b=1))
 else
 some false:Option Bool).bind fun f=>
 if f=true then
 some (⟨(⟨d,e⟩:qj),(⟨b,c⟩:qj)⟩:qB)
 else
 (qcw N (⟨d,e⟩:qj) (⟨b,c⟩:qj)).bind fun a=>
 (vR N (⟨d,e⟩:qj) a).bind fun g=>
 (vR N (⟨b,c⟩:qj) a).bind fun h=>
 some (⟨g,h⟩:qB)
theorem qgc (N:Nat) (num:qj) (den:qj) {res:qB} (h:qcP N num den=some res):qb ZT (.fn 136) [.agg (nz1 num),.agg (nz1 den)] [] (.agg (nq1 res)) []:=by
 unfold qcP at h
 refine Ub Tryz.func136 rfl rfl (m:=34) rfl (rs:=[.cell 4 107]) rfl (l:=[(0,.agg (nz1 num)),(1,.agg (nz1 den))]) rfl ?_
 refine sg fol (kE []) (.cells (nz1 num):: .cells (nz1 den)::(kF [])) ?_
 refine sq ?_
 obtain⟨A,q,h⟩:=bnd h
 refine sq (gr fol [1] (kE (kBa (decide (A<0)))) (ac (cv (yz den q)) az) ?_)
 obtain⟨B,g6,h⟩:=bnd h
 refine Goes.imp (Q:=fun x s'=>(x= .normal/\ ∃d e c a,(d,e,c,a)=B/\Sub s' (ofG 34 (kE []),(.cells (ni1 d e):: .cells (ni1 c a)::(kF []))))) ?_ ?_
 ·refine ihD g6 (fun C g6=>?_) (fun C g6=>?_)
  ·obtain⟨r,t,g6⟩:=bnd g6
   obtain⟨v,u,g6⟩:=bnd g6
   refine gq fol [1,3,4,5] (kE []) (.cells (nz1 r):: .cells (nz1 v)::(kF [])) (ac (cv (jl num t)) (ac (cv (jl den u)) (ac (hs (.run [0] (qp ZT 105 (.ptr 0 0) (.agg (nz1 r))) (.cells (nz1 num):: .cells (nz1 den)::(kF [])) .undef (.cells (nz1 r):: .cells (nz1 den)::(kF [])) true) (qX (n:=2) (by kernel_rfl) rfl rfl rfl rfl (cac rfl (cac nvc can)) rfl)) (ac (hs (.run [1] (qp ZT 105 (.ptr 1 0) (.agg (nz1 v))) (.cells (nz1 r):: .cells (nz1 den)::(kF [])) .undef (.cells (nz1 r):: .cells (nz1 v)::(kF [])) true) (qX (n:=2) (by kernel_rfl) rfl rfl rfl rfl (cac rfl (cac nvc can)) rfl)) az)))) ?_
   obtain rfl:=si g6
   exact⟨rfl,_,_,_,_,rfl,(Sub.refl _)⟩
  refine Goes.skip ?_
  obtain rfl:=si g6
  exact⟨rfl,_,_,_,_,rfl,(Sub.keep [2,3,4] rfl rfl)⟩
 rintro x s' ⟨rfl,d,e,c,a,rfl,hsub⟩
 try dsimp only at h
 refine Goes.sub hsub ?_
 refine sq ?_
 refine sq ?_
 obtain⟨y,b,h⟩:=bnd h
 refine Goes.cut (s':=(ofG 34 (kE [(20,.bool y)]),(.cells (ni1 d e):: .cells (ni1 c a)::(kF [])))) ?_ ?_
 ·rcases wyB b with⟨j,b⟩|⟨j,b⟩
  ·obtain rfl:=si b
   exact tr fol [2,3] (kE [(20,.bool (decide (c=1)))]) (ac (hs (.done (.opt (qY ZT .eql 103 (.tmp 14) (.const (.slice none 0 0)) (nvl (qa .u64) a) .nilslice)) (.bool a.isEmpty)) (qaB vX)) (ac (gw j) az))
  obtain rfl:=si b
  exact tr fol [2,3] (kE [(20,.bool false)]) (ac (hs (.done (.opt (qY ZT .eql 103 (.tmp 14) (.const (.slice none 0 0)) (nvl (qa .u64) a) .nilslice)) (.bool a.isEmpty)) (qaB vX)) (ac (gw j) az))
 refine ihB h (fun z h=>?_) (fun z h=>?_)
 ·refine sq (gq fol [3] (kAS []) [.cells (ni1 d e),.cells (ni1 c a),.cells (ni2 d e c a)] (ac (hs (.run [2] (qp ZT 107 (.ptr 2 0) (.agg (ni2 d e c a))) (.cells (ni1 d e):: .cells (ni1 c a)::(kF [])) .undef [.cells (ni1 d e),.cells (ni1 c a),.cells (ni2 d e c a)] true) (qX (n:=4) (by kernel_rfl) rfl rfl rfl rfl (cac rfl (cac nvc (cac rfl (cac nvc can)))) rfl)) az) ?_)
  refine Goes.ret ?_
  obtain rfl:=si h
  exact(gw2 [.agg (ni2 d e c a)] (FzW.agg (qc.cons (Ua tI) (qc.cons (Ua (qo (qa .u64) _ (nl rfl))) (qc.cons (Ua tI) (qc.cons (Ua (qo (qa .u64) _ (nl rfl))) qc.nil))))))
 refine Goes.skip ?_
 obtain⟨f,k,h⟩:=bnd h
 refine sq (gq fol [2,4] (kE (kBW [])) (.cells (ni1 d e):: .cells (ni1 c a)::(kF [.cells (nz1 f)])) (ac (cv (qhR N (⟨d,e⟩:qj) (⟨c,a⟩:qj) k)) (ac (hs (.run [3] (qp ZT 105 (.ptr 3 0) (.agg (nz1 f))) (.cells (ni1 d e):: .cells (ni1 c a)::(kF [bZ])) .undef (.cells (ni1 d e):: .cells (ni1 c a)::(kF [.cells (nz1 f)])) true) (qX (n:=2) (by kernel_rfl) rfl rfl rfl rfl (cac rfl (cac nvc can)) rfl)) az)) ?_)
 obtain⟨g,o,h⟩:=bnd h
 obtain⟨i,p,h⟩:=bnd h
 refine sq (gq fol [2,5,7] (kAS []) [.cells (ni1 d e),.cells (ni1 c a),.cells (ni2 g.s g.w i.s i.w),.cells (nz1 f)] (ac (cv (qer N (⟨d,e⟩:qj) f o)) (ac (cv (qer N (⟨c,a⟩:qj) f p)) (ac (hs (.run [2] (qp ZT 107 (.ptr 2 0) (.agg (ni2 g.s g.w i.s i.w))) (.cells (ni1 d e):: .cells (ni1 c a)::(kF [.cells (nz1 f)])) .undef [.cells (ni1 d e),.cells (ni1 c a),.cells (ni2 g.s g.w i.s i.w),.cells (nz1 f)] true) (qX (n:=4) (by kernel_rfl) rfl rfl rfl rfl (cac rfl (cac nvc (cac rfl (cac nvc can)))) rfl)) az))) ?_)
 refine Goes.ret ?_
 obtain rfl:=si h
 exact(gw2 [.agg (ni2 g.s g.w i.s i.w)] (FzW.agg (qc.cons (Ua tI) (qc.cons (Ua (qo (qa .u64) _ (nl rfl))) (qc.cons (Ua tI) (qc.cons (Ua (qo (qa .u64) _ (nl rfl))) qc.nil))))))
def yH (N:Nat) (a:qB) (b:qB):Option qB:=
 (qU N a.Num b.Num).bind fun c=>
 (qU N a.Den b.Den).bind fun d=>
 (qcP N c d).bind fun e=>
 some e
theorem qaI (N:Nat) (a:qB) (b:qB) {res:qB} (h:yH N a b=some res):qb ZT (.fn 79) [.agg (nq1 a),.agg (nq1 b)] [] (.agg (nq1 res)) []:=by
 unfold yH at h
 refine Ub Tryz.func79 rfl rfl (m:=16) rfl (rs:=[.cell 4 107]) rfl (l:=[(0,.agg (nq1 a)),(1,.agg (nq1 b))]) rfl ?_
 refine sg fol (kE []) (.cells (nq1 a):: .cells (nq1 b)::(kF [])) ?_
 obtain⟨g,c,h⟩:=bnd h
 obtain⟨i,d,h⟩:=bnd h
 obtain⟨f,e,h⟩:=bnd h
 refine sq (gq fol [4,9,10,11] (kAS []) [.cells (nq1 a),.cells (nq1 b),.cells (nq1 f)] (ac (cv (yn N a.Num b.Num c)) (ac (cv (yn N a.Den b.Den d)) (ac (cv (qgc N g i e)) (ac (hs (.run [2] (qp ZT 107 (.ptr 2 0) (.agg (nq1 f))) (.cells (nq1 a):: .cells (nq1 b)::(kF [])) .undef [.cells (nq1 a),.cells (nq1 b),.cells (nq1 f)] true) (qX (n:=4) (by kernel_rfl) rfl rfl rfl rfl (cac rfl (cac nvc (cac rfl (cac nvc can)))) rfl)) az)))) ?_)
 refine Goes.ret ?_
 obtain rfl:=si h
 exact(gw2 [.agg (nq1 f)] (FzW.agg (qc.cons (Ua tI) (qc.cons (Ua (qo (qa .u64) _ (nl rfl))) (qc.cons (Ua tI) (qc.cons (Ua (qo (qa .u64) _ (nl rfl))) qc.nil))))))
def qa2 (N:Nat) (a:qB):Option qB:=
 (qcP N a.Den a.Num).bind fun b=>
 some b
theorem qgt (N:Nat) (a:qB) {res:qB} (h:qa2 N a=some res):qb ZT (.fn 146) [.agg (nq1 a)] [] (.agg (nq1 res)) []:=by
 unfold qa2 at h
 refine Ub Tryz.func146 rfl rfl (m:=8) rfl (rs:=[.cell 2 107]) rfl (l:=[(0,.agg (nq1 a))]) rfl ?_
 refine sg fol (kR kAj) (.cells (nq1 a)::(kF [])) ?_
 obtain⟨c,b,h⟩:=bnd h
 refine sq (gq fol [4,5] kAj [.cells (nq1 a),.cells (nq1 c)] (ac (cv (qgc N a.Den a.Num b)) (ac (hs (.run [1] (qp ZT 107 (.ptr 1 0) (.agg (nq1 c))) (.cells (nq1 a)::(kF [])) .undef [.cells (nq1 a),.cells (nq1 c)] true) (qX (n:=4) (by kernel_rfl) rfl rfl rfl rfl (cac rfl (cac nvc (cac rfl (cac nvc can)))) rfl)) az)) ?_)
 refine Goes.ret ?_
 obtain rfl:=si h
 exact(gw2 [.agg (nq1 c)] (FzW.agg (qc.cons (Ua tI) (qc.cons (Ua (qo (qa .u64) _ (nl rfl))) (qc.cons (Ua tI) (qc.cons (Ua (qo (qa .u64) _ (nl rfl))) qc.nil))))))
def jS (N:Nat) (a:qB) (b:qB):Option qB:=
 (qa2 N b).bind fun c=>
 (yH N a c).bind fun d=>
 some d
theorem yx (N:Nat) (a:qB) (b:qB) {res:qB} (h:jS N a b=some res):qb ZT (.fn 80) [.agg (nq1 a),.agg (nq1 b)] [] (.agg (nq1 res)) []:=by
 unfold jS at h
 refine Ub Tryz.func80 rfl rfl (m:=9) rfl (rs:=[.cell 4 107]) rfl (l:=[(0,.agg (nq1 a)),(1,.agg (nq1 b))]) rfl ?_
 refine sg fol (kE []) (.cells (nq1 a):: .cells (nq1 b)::(kF [])) ?_
 obtain⟨f,c,h⟩:=bnd h
 obtain⟨e,d,h⟩:=bnd h
 refine sq (gq fol [2,3,4] (kAS []) [.cells (nq1 a),.cells (nq1 b),.cells (nq1 e)] (ac (cv (qgt N b c)) (ac (cv (qaI N a f d)) (ac (hs (.run [2] (qp ZT 107 (.ptr 2 0) (.agg (nq1 e))) (.cells (nq1 a):: .cells (nq1 b)::(kF [])) .undef [.cells (nq1 a),.cells (nq1 b),.cells (nq1 e)] true) (qX (n:=4) (by kernel_rfl) rfl rfl rfl rfl (cac rfl (cac nvc (cac rfl (cac nvc can)))) rfl)) az))) ?_)
 refine Goes.ret ?_
 obtain rfl:=si h
 exact(gw2 [.agg (nq1 e)] (FzW.agg (qc.cons (Ua tI) (qc.cons (Ua (qo (qa .u64) _ (nl rfl))) (qc.cons (Ua tI) (qc.cons (Ua (qo (qa .u64) _ (nl rfl))) qc.nil))))))
def qg3 (n:Int):Option qB:=
 (qcb n).bind fun a=>
 (qbX a).bind fun b=>
 some b
theorem qhh (n:Int) {res:qB} (h:qg3 n=some res):qb ZT (.fn 81) [.i n] [] (.agg (nq1 res)) []:=by
 unfold qg3 at h
 refine Ub Tryz.func81 rfl rfl (m:=6) rfl (rs:=[.cell 2 107]) rfl (l:=[(0,.i n)]) rfl ?_
 refine sg fol ((0,.i n)::(kM [])) (kF []) ?_
 obtain⟨d,a,h⟩:=bnd h
 obtain⟨c,b,h⟩:=bnd h
 refine sq (gq fol [1,2,3] (kM []) [.cells (nq1 c)] (ac (cv (qbr n a)) (ac (cv (qfC d b)) (ac (hs (.run [0] (qp ZT 107 (.ptr 0 0) (.agg (nq1 c))) (kF []) .undef [.cells (nq1 c)] true) (qX (n:=4) (by kernel_rfl) rfl rfl rfl rfl (cac rfl (cac nvc (cac rfl (cac nvc can)))) rfl)) az))) ?_)
 refine Goes.ret ?_
 obtain rfl:=si h
 exact(gw2 [.agg (nq1 c)] (FzW.agg (qc.cons (Ua tI) (qc.cons (Ua (qo (qa .u64) _ (nl rfl))) (qc.cons (Ua tI) (qc.cons (Ua (qo (qa .u64) _ (nl rfl))) qc.nil))))))
def zM (N:Nat) (a:qC):Option qB:=
 (qg3 a.Mass).bind fun b=>
 (qg3 a.Length).bind fun c=>
 (jS N b c).bind fun d=>
 some d
theorem yC (N:Nat) (a:qC) {res:qB} (h:zM N a=some res):qb ZT (.fn 143) [.agg [.i a.Length,.i a.Mass,.bool a.Direct]] [] (.agg (nq1 res)) []:=by
 unfold zM at h
 refine Ub Tryz.func143 rfl rfl (m:=10) rfl (rs:=[.cell 2 107]) rfl (l:=(kAz a.Length a.Mass a.Direct [])) rfl ?_
 refine sg fol (kR kAj) (kI a.Length a.Mass a.Direct (kF [])) ?_
 obtain⟨f,b,h⟩:=bnd h
 obtain⟨g,c,h⟩:=bnd h
 obtain⟨e,d,h⟩:=bnd h
 refine sq (gq fol [2,5,6,7] kAj (kI a.Length a.Mass a.Direct [.cells (nq1 e)]) (ac (cv (qhh a.Mass b)) (ac (cv (qhh a.Length c)) (ac (cv (yx N f g d)) (ac (hs (.run [1] (qp ZT 107 (.ptr 1 0) (.agg (nq1 e))) (kI a.Length a.Mass a.Direct (kF [])) .undef (kI a.Length a.Mass a.Direct [.cells (nq1 e)]) true) (qX (n:=4) (by kernel_rfl) rfl rfl rfl rfl (cac rfl (cac nvc (cac rfl (cac nvc can)))) rfl)) az)))) ?_)
 refine Goes.ret ?_
 obtain rfl:=si h
 exact(gw2 [.agg (nq1 e)] (FzW.agg (qc.cons (Ua tI) (qc.cons (Ua (qo (qa .u64) _ (nl rfl))) (qc.cons (Ua tI) (qc.cons (Ua (qo (qa .u64) _ (nl rfl))) qc.nil))))))
def jo (N:Nat) (a:qC) (count:qB):Option qB:=
 if a.Direct=true then
 (zM N a).bind fun b=>
 (yH N count b).bind fun c=>
 some c
 else
 (zM N a).bind fun d=>
 (jS N d count).bind fun e=>
 some e
theorem qa9 (N:Nat) (a:qC) (count:qB) {res:qB} (h:jo N a count=some res):qb ZT (.fn 73) (kBS a.Length a.Mass a.Direct [.agg (nq1 count)]) [] (.agg (nq1 res)) []:=by
 unfold jo at h
 refine Ub Tryz.func73 rfl rfl (m:=15) rfl (rs:=[.cell 4 107]) rfl (l:=(kAz a.Length a.Mass a.Direct [(1,.agg (nq1 count))])) rfl ?_
 refine sg fol (kE []) (kI a.Length a.Mass a.Direct (.cells (nq1 count)::(kF []))) ?_
 refine sq ?_
 refine sh fol (kE (kA0 a.Direct)) ?_
 refine ihB h (fun i h=>?_) (fun i h=>?_)
 ·obtain⟨j,b,h⟩:=bnd h
  obtain⟨f,c,h⟩:=bnd h
  refine sq (gq fol [2,3,4] (kAS []) (kI a.Length a.Mass a.Direct [.cells (nq1 count),.cells (nq1 f)]) (ac (cv (yC N a b)) (ac (cv (qaI N count j c)) (ac (hs (.run [2] (qp ZT 107 (.ptr 2 0) (.agg (nq1 f))) (kI a.Length a.Mass a.Direct (.cells (nq1 count)::(kF []))) .undef (kI a.Length a.Mass a.Direct [.cells (nq1 count),.cells (nq1 f)]) true) (qX (n:=4) (by kernel_rfl) rfl rfl rfl rfl (cac rfl (cac nvc (cac rfl (cac nvc can)))) rfl)) az))) ?_)
  refine Goes.ret ?_
  obtain rfl:=si h
  exact(gw2 [.agg (nq1 f)] (FzW.agg (qc.cons (Ua tI) (qc.cons (Ua (qo (qa .u64) _ (nl rfl))) (qc.cons (Ua tI) (qc.cons (Ua (qo (qa .u64) _ (nl rfl))) qc.nil))))))
 refine Goes.skip ?_
 obtain⟨k,d,h⟩:=bnd h
 obtain⟨g,e,h⟩:=bnd h
 refine sq (gq fol [1,3,4] (kAS []) (kI a.Length a.Mass a.Direct [.cells (nq1 count),.cells (nq1 g)]) (ac (cv (yC N a d)) (ac (cv (yx N k count e)) (ac (hs (.run [2] (qp ZT 107 (.ptr 2 0) (.agg (nq1 g))) (kI a.Length a.Mass a.Direct (.cells (nq1 count)::(kF []))) .undef (kI a.Length a.Mass a.Direct [.cells (nq1 count),.cells (nq1 g)]) true) (qX (n:=4) (by kernel_rfl) rfl rfl rfl rfl (cac rfl (cac nvc (cac rfl (cac nvc can)))) rfl)) az))) ?_)
 refine Goes.ret ?_
 obtain rfl:=si h
 exact(gw2 [.agg (nq1 g)] (FzW.agg (qc.cons (Ua tI) (qc.cons (Ua (qo (qa .u64) _ (nl rfl))) (qc.cons (Ua tI) (qc.cons (Ua (qo (qa .u64) _ (nl rfl))) qc.nil))))))
def qas (N:Nat) (a:qC) (count:Str):Option (Str×Int):=
 (jb N a).bind fun d=>
 (ze N count).bind fun e=>
 (zA N ([d,e]:List Int)).bind fun b=>
 if(!decide (b=0))=true then
 some ([],b)
 else
 (vJ N count).bind fun f=>
 (jo N a f).bind fun g=>
 (yA N g).bind fun c=>
 some (c.1,c.2)
theorem qdR (N:Nat) (a:qC) (count:Str) {res:Str×Int} (h:qas N a count=some res):qb ZT (.fn 19) (kBS a.Length a.Mass a.Direct [.str count]) [] (.tuple [.str res.1,.i res.2]) []:=by
 unfold qas at h
 refine Ub Tryz.func19 rfl rfl (m:=23) rfl (rs:=[.tmp 4,.tmp 5]) rfl (l:=(kAz a.Length a.Mass a.Direct [(1,.str count)])) rfl ?_
 refine sg fol ((1,.str count)::(kM [])) (kI a.Length a.Mass a.Direct []) ?_
 refine sq ?_
 obtain⟨k,c,h⟩:=bnd h
 obtain⟨n,d,h⟩:=bnd h
 obtain⟨b,e,h⟩:=bnd h
 refine sq (gq fol [1,3,5] ((1,.str count)::(kM [(6,.i b)])) (kI a.Length a.Mass a.Direct (kAE k n)) (ac (cv (yS N a c)) (ac (cv (qat N count d)) (ac (hs (.call 52 [.slice 1 0 2 2 1] (kI a.Length a.Mass a.Direct (kAE k n)) [1] [vl encI ([k,n]:List Int)] (.i b)) (yN (FzL.cons (Fz.lit rfl rfl (Ud (AllST.cons tI (AllST.cons tI AllST.nil)))) FzL.nil) (jQ N ([k,n]:List Int) e) tI rfl)) az))) ?_)
 refine sh fol ((1,.str count)::(kM [(6,.i b),(14,.bool (!decide (b=0)))])) ?_
 refine ihB h (fun p h=>?_) (fun p h=>?_)
 ·refine sh fol ((4,.str [])::(kAm b)) ?_
  refine Goes.ret ?_
  obtain rfl:=si h
  exact(gw2 [.str [],.i b] (FzW.tuple (qc.cons (Ua tS) (qc.cons (Ua tI) qc.nil))))
 refine Goes.skip ?_
 obtain⟨q,f,h⟩:=bnd h
 obtain⟨r,g,h⟩:=bnd h
 obtain⟨o,j,h⟩:=bnd h
 refine sq (gr fol [2,3,4] ((4,.str o.1)::(kAm o.2)) (ac (cv (jw N count f)) (ac (cv (qa9 N a q g)) (ac (cv (qak N r j)) az))) ?_)
 refine Goes.ret ?_
 obtain rfl:=si h
 exact(gw2 [.str o.1,.i o.2] (FzW.tuple (qc.cons (Ua tS) (qc.cons (Ua tI) qc.nil))))
def vz (N:Nat) (a:qC) (density:qB):Option qB:=
 if a.Direct=true then
 (zM N a).bind fun b=>
 (jS N density b).bind fun c=>
 some c
 else
 (zM N a).bind fun d=>
 (jS N d density).bind fun e=>
 some e
theorem qbG (N:Nat) (a:qC) (density:qB) {res:qB} (h:vz N a density=some res):qb ZT (.fn 74) (kBS a.Length a.Mass a.Direct [.agg (nq1 density)]) [] (.agg (nq1 res)) []:=by
 unfold vz at h
 refine Ub Tryz.func74 rfl rfl (m:=15) rfl (rs:=[.cell 4 107]) rfl (l:=(kAz a.Length a.Mass a.Direct [(1,.agg (nq1 density))])) rfl ?_
 refine sg fol (kE []) (kI a.Length a.Mass a.Direct (.cells (nq1 density)::(kF []))) ?_
 refine sq ?_
 refine sh fol (kE (kA0 a.Direct)) ?_
 refine ihB h (fun i h=>?_) (fun i h=>?_)
 ·obtain⟨j,b,h⟩:=bnd h
  obtain⟨f,c,h⟩:=bnd h
  refine sq (gq fol [2,3,4] (kAS []) (kI a.Length a.Mass a.Direct [.cells (nq1 density),.cells (nq1 f)]) (ac (cv (yC N a b)) (ac (cv (yx N density j c)) (ac (hs (.run [2] (qp ZT 107 (.ptr 2 0) (.agg (nq1 f))) (kI a.Length a.Mass a.Direct (.cells (nq1 density)::(kF []))) .undef (kI a.Length a.Mass a.Direct [.cells (nq1 density),.cells (nq1 f)]) true) (qX (n:=4) (by kernel_rfl) rfl rfl rfl rfl (cac rfl (cac nvc (cac rfl (cac nvc can)))) rfl)) az))) ?_)
  refine Goes.ret ?_
  obtain rfl:=si h
  exact(gw2 [.agg (nq1 f)] (FzW.agg (qc.cons (Ua tI) (qc.cons (Ua (qo (qa .u64) _ (nl rfl))) (qc.cons (Ua tI) (qc.cons (Ua (qo (qa .u64) _ (nl rfl))) qc.nil))))))
 refine Goes.skip ?_
 obtain⟨k,d,h⟩:=bnd h
 obtain⟨g,e,h⟩:=bnd h
 refine sq (gq fol [1,3,4] (kAS []) (kI a.Length a.Mass a.Direct [.cells (nq1 density),.cells (nq1 g)]) (ac (cv (yC N a d)) (ac (cv (yx N k density e)) (ac (hs (.run [2] (qp ZT 107 (.ptr 2 0) (.agg (nq1 g))) (kI a.Length a.Mass a.Direct (.cells (nq1 density)::(kF []))) .undef (kI a.Length a.Mass a.Direct [.cells (nq1 density),.cells (nq1 g)]) true) (qX (n:=4) (by kernel_rfl) rfl rfl rfl rfl (cac rfl (cac nvc (cac rfl (cac nvc can)))) rfl)) az))) ?_)
 refine Goes.ret ?_
 obtain rfl:=si h
 exact(gw2 [.agg (nq1 g)] (FzW.agg (qc.cons (Ua tI) (qc.cons (Ua (qo (qa .u64) _ (nl rfl))) (qc.cons (Ua tI) (qc.cons (Ua (qo (qa .u64) _ (nl rfl))) qc.nil))))))
def qcc (N:Nat) (a:qC) (density:Str):Option (Str×Int):=
 (jb N a).bind fun d=>
 (ze N density).bind fun e=>
 (zA N ([d,e]:List Int)).bind fun b=>
 if(!decide (b=0))=true then
 some ([],b)
 else
 (vJ N density).bind fun f=>
 (vz N a f).bind fun g=>
 (yA N g).bind fun c=>
 some (c.1,c.2)
theorem qil (N:Nat) (a:qC) (density:Str) {res:Str×Int} (h:qcc N a density=some res):qb ZT (.fn 20) (kBS a.Length a.Mass a.Direct [.str density]) [] (.tuple [.str res.1,.i res.2]) []:=by
 unfold qcc at h
 refine Ub Tryz.func20 rfl rfl (m:=23) rfl (rs:=[.tmp 4,.tmp 5]) rfl (l:=(kAz a.Length a.Mass a.Direct [(1,.str density)])) rfl ?_
 refine sg fol ((1,.str density)::(kM [])) (kI a.Length a.Mass a.Direct []) ?_
 refine sq ?_
 obtain⟨k,c,h⟩:=bnd h
 obtain⟨n,d,h⟩:=bnd h
 obtain⟨b,e,h⟩:=bnd h
 refine sq (gq fol [1,3,5] ((1,.str density)::(kM [(6,.i b)])) (kI a.Length a.Mass a.Direct (kAE k n)) (ac (cv (yS N a c)) (ac (cv (qat N density d)) (ac (hs (.call 52 [.slice 1 0 2 2 1] (kI a.Length a.Mass a.Direct (kAE k n)) [1] [vl encI ([k,n]:List Int)] (.i b)) (yN (FzL.cons (Fz.lit rfl rfl (Ud (AllST.cons tI (AllST.cons tI AllST.nil)))) FzL.nil) (jQ N ([k,n]:List Int) e) tI rfl)) az))) ?_)
 refine sh fol ((1,.str density)::(kM [(6,.i b),(14,.bool (!decide (b=0)))])) ?_
 refine ihB h (fun p h=>?_) (fun p h=>?_)
 ·refine sh fol ((4,.str [])::(kAm b)) ?_
  refine Goes.ret ?_
  obtain rfl:=si h
  exact(gw2 [.str [],.i b] (FzW.tuple (qc.cons (Ua tS) (qc.cons (Ua tI) qc.nil))))
 refine Goes.skip ?_
 obtain⟨q,f,h⟩:=bnd h
 obtain⟨r,g,h⟩:=bnd h
 obtain⟨o,j,h⟩:=bnd h
 refine sq (gr fol [2,3,4] ((4,.str o.1)::(kAm o.2)) (ac (cv (jw N density f)) (ac (cv (qbG N a q g)) (ac (cv (qak N r j)) az))) ?_)
 refine Goes.ret ?_
 obtain rfl:=si h
 exact(gw2 [.str o.1,.i o.2] (FzW.tuple (qc.cons (Ua tS) (qc.cons (Ua tI) qc.nil))))
def qaw (N:Nat) (a:qC) (b:qC) (count:Str):Option (Str×Int):=
 (jb N a).bind fun e=>
 (jb N b).bind fun f=>
 (ze N count).bind fun g=>
 (zA N ([e,f,g]:List Int)).bind fun c=>
 if(!decide (c=0))=true then
 some ([],c)
 else
 (vJ N count).bind fun h=>
 (jo N a h).bind fun i=>
 (vz N b i).bind fun j=>
 (yA N j).bind fun d=>
 some (d.1,d.2)
theorem qdJ (N:Nat) (a:qC) (b:qC) (count:Str) {res:Str×Int} (h:qaw N a b count=some res):qb ZT (.fn 21) (kBS a.Length a.Mass a.Direct (kBS b.Length b.Mass b.Direct [.str count])) [] (.tuple [.str res.1,.i res.2]) []:=by
 unfold qaw at h
 refine Ub Tryz.func21 rfl rfl (m:=29) rfl (rs:=[.tmp 6,.tmp 7]) rfl (l:=(kAz a.Length a.Mass a.Direct ((1,.agg [.i b.Length,.i b.Mass,.bool b.Direct])::(kBH count)))) rfl ?_
 refine sg fol ((2,.str count)::(kX [])) (kI a.Length a.Mass a.Direct (kI b.Length b.Mass b.Direct [])) ?_
 refine sq ?_
 obtain⟨p,d,h⟩:=bnd h
 obtain⟨q,e,h⟩:=bnd h
 obtain⟨r,f,h⟩:=bnd h
 obtain⟨c,g,h⟩:=bnd h
 refine sq (gq fol [1,3,5,7] ((2,.str count)::(kX [(8,.i c)])) (kI a.Length a.Mass a.Direct (kI b.Length b.Mass b.Direct (kBA p q r))) (ac (cv (yS N a d)) (ac (cv (yS N b e)) (ac (cv (qat N count f)) (ac (hs (.call 52 [.slice 2 0 3 3 1] (kI a.Length a.Mass a.Direct (kI b.Length b.Mass b.Direct (kBA p q r))) [2] [vl encI ([p,q,r]:List Int)] (.i c)) (yN (FzL.cons (Fz.lit rfl rfl (Ud (AllST.cons tI (AllST.cons tI (AllST.cons tI AllST.nil))))) FzL.nil) (jQ N ([p,q,r]:List Int) g) tI rfl)) az)))) ?_)
 refine sh fol ((2,.str count)::(kX [(8,.i c),(18,.bool (!decide (c=0)))])) ?_
 refine ihB h (fun t h=>?_) (fun t h=>?_)
 ·refine sh fol [(6,.str []),(7,.i c)] ?_
  refine Goes.ret ?_
  obtain rfl:=si h
  exact(gw2 [.str [],.i c] (FzW.tuple (qc.cons (Ua tS) (qc.cons (Ua tI) qc.nil))))
 refine Goes.skip ?_
 obtain⟨u,j,h⟩:=bnd h
 obtain⟨v,k,h⟩:=bnd h
 obtain⟨w,n,h⟩:=bnd h
 obtain⟨s,o,h⟩:=bnd h
 refine sq (gr fol [3,4,5,6] [(6,.str s.1),(7,.i s.2)] (ac (cv (jw N count j)) (ac (cv (qa9 N a u k)) (ac (cv (qbG N b v n)) (ac (cv (qak N w o)) az)))) ?_)
 refine Goes.ret ?_
 obtain rfl:=si h
 exact(gw2 [.str s.1,.i s.2] (FzW.tuple (qc.cons (Ua tS) (qc.cons (Ua tI) qc.nil))))
def qcR (n:Int) (least:Int) (most:Int):Option Bool:=
 (if n<least then
 some true
 else
 some (decide (n>most)):Option Bool).bind fun a=>
 some a
theorem qds (n:Int) (least:Int) (most:Int) {res:Bool} (h:qcR n least most=some res):qb ZT (.fn 75) [.i n,.i least,.i most] [] (.bool res) []:=by
 unfold qcR at h
 refine Ub Tryz.func75 rfl rfl (m:=15) rfl (rs:=[.tmp 6]) rfl (l:=(kAO n least (kA3 most))) rfl ?_
 refine sh fol (kAO n least (kA3 most)) ?_
 refine sq ?_
 obtain⟨c,a,h⟩:=bnd h
 refine Goes.cut (s':=(ofG 15 (kA0 c),[])) ?_ ?_
 ·rcases wyD a with⟨b,a⟩|⟨b,a⟩
  ·obtain rfl:=si a
   exact tr fol [3] [(6,.bool true)] (ac (gw b) az)
  obtain rfl:=si a
  exact tr fol [3] (kA0 (decide (n>most))) (ac (gw b) az)
 refine Goes.ret ?_
 obtain rfl:=si h
 exact(gw2 [.bool c] (Ua tB))
def vD (a:qC):Option Int:=
 ((qcR a.Length 1 999999999).bind fun b=>
 if b=true then
 some true
 else
 (qcR a.Mass 1 999999999).bind fun c=>
 some c:Option Bool).bind fun d=>
 if d=true then
 some 3
 else
 some 0
theorem kg (b:qC) {res:Int} (h:vD b=some res):qb ZT (.fn 22) [.agg [.i b.Length,.i b.Mass,.bool b.Direct]] [] (.i res) []:=by
 unfold vD at h
 refine Ub Tryz.func22 rfl rfl (m:=11) rfl (rs:=[.tmp 2]) rfl (l:=(kAz b.Length b.Mass b.Direct [])) rfl ?_
 refine sg fol (kR []) (kI b.Length b.Mass b.Direct []) ?_
 refine sq ?_
 refine sq ?_
 obtain⟨f,a,h⟩:=bnd h
 refine Goes.cut (s':=(ofG 11 (kBR f),(kI b.Length b.Mass b.Direct []))) ?_ ?_
 ·obtain⟨k,c,a⟩:=bnd a
  rcases wyB a with⟨e,a⟩|⟨e,a⟩
  ·obtain rfl:=si a
   exact tr fol [2,3] [(10,.bool true)] (ac (cv (qds b.Length 1 999999999 c)) (ac (gw e) az))
  obtain⟨g,d,a⟩:=bnd a
  obtain rfl:=si a
  exact tr fol [2,3,6] (kBR g) (ac (cv (qds b.Length 1 999999999 c)) (ac (gw e) (ac (cv (qds b.Mass 1 999999999 d)) az)))
 refine ihB h (fun j h=>?_) (fun j h=>?_)
 ·refine sh fol [(2,.i 3)] ?_
  refine Goes.ret ?_
  obtain rfl:=si h
  exact(gw2 [.i 3] (Ua tI))
 refine Goes.skip ?_
 refine sh fol [(2,.i 0)] ?_
 refine Goes.ret ?_
 obtain rfl:=si h
 exact(gw2 [.i 0] (Ua tI))
end Go.Av
