/-
  Walks of functions: what each computes, as a plain function.
-/
import Derived.Test.YtppehbboaidbgaaGreatDoorQGenU1
open Go.IntKind(wrap)
noncomputable section
namespace Go.Av
open Go.Proofs Go.RowKit
set_option linter.unusedSectionVars false
set_option linter.unusedVariables false
set_option linter.unusedSimpArgs false
set_option maxRecDepth 100000
def jP (N:Nat) (a:qp) (b:qp):Option (qp×qp):=
 (if a.w.isEmpty=true then
 if b.w.isEmpty=true then
 some (!decide (a.s=(-9223372036854775808)))
 else
 some false
 else
 some false:Option Bool).bind fun r=>
 if r=true then
 (qcJ .i64 a.s b.s).bind fun q=>
 (qeP .i64 a.s b.s).bind fun i=>
 ((if i<0 then
 some (w64 (q-1),w64 (i+b.s))
 else
 some (q,i):Option (Int×Int))).bind fun(t,u)=>
 some ((⟨t,[]⟩:qp),(⟨u,[]⟩:qp))
 else
 (qO a).bind fun d=>
 (qO b).bind fun j=>
 (qbj N d.2 j.2).bind fun f=>
 (vQ d.1 f.1).bind fun e=>
 (vQ d.1 f.2).bind fun c=>
 (zf c).bind fun k=>
 ((if k<0 then
 (qcK 1).bind fun l=>
 (xR N e l).bind fun g=>
 (yl N c b).bind fun h=>
 some (g.s,g.w,h.s,h.w)
 else
 some (e.s,e.w,c.s,c.w):Option (Int×(List Int)×Int×(List Int)))).bind fun(m,n,o,p)=>
 some ((⟨m,n⟩:qp),(⟨o,p⟩:qp))
theorem qdn (N:Nat) (a:qp) (b:qp) {res:qp×qp} (h:jP N a b=some res):qd ZT (.fn 183) [.agg (nz1 a),.agg (nz1 b)] [] (.tuple [.agg (nz1 res.1),.agg (nz1 res.2)]) []:=by
 unfold jP at h;refine Ub Tryz.func183 rfl rfl (m:=84) rfl (rs:=[.cell 4 98,.cell 5 98]) rfl (l:=[(0,.agg (nz1 a)),(1,.agg (nz1 b))]) rfl ?_;refine sg fol (kF (kBM [])) [.cells (nz1 a),.cells (nz1 b),bZ,bZ] ?_;refine sq ?_;refine sq ?_;obtain⟨b3,c,h⟩:=bnd h;refine Goes.cut (s':=(ofG 84 (kF (kBM [(28,.bool b3)])),[.cells (nz1 a),.cells (nz1 b),bZ,bZ])) ?_ ?_
 ·rcases wyB c with⟨L,c⟩|⟨L,c⟩
  ·rcases wyB c with⟨O,c⟩|⟨O,c⟩
   ·obtain rfl:=si c;exact tr fol [2,3,6,8] (kF (kBM [(28,.bool (!decide (a.s=(-9223372036854775808))))])) (ac (hs (.done (.opt (ze ZT .eql 96 (.tmp 17) (.const (.slice none 0 0)) (nvl ZU a.w) .nilslice)) (.bool a.w.isEmpty)) (qa7 qa2)) (ac (gw L) (ac (hs (.done (.opt (ze ZT .eql 96 (.tmp 21) (.const (.slice none 0 0)) (nvl ZU b.w) .nilslice)) (.bool b.w.isEmpty)) (qa7 qa2)) (ac (gw O) az))))
   obtain rfl:=si c;exact tr fol [2,3,6,8] (kF (kBM [(28,.bool false)])) (ac (hs (.done (.opt (ze ZT .eql 96 (.tmp 17) (.const (.slice none 0 0)) (nvl ZU a.w) .nilslice)) (.bool a.w.isEmpty)) (qa7 qa2)) (ac (gw L) (ac (hs (.done (.opt (ze ZT .eql 96 (.tmp 21) (.const (.slice none 0 0)) (nvl ZU b.w) .nilslice)) (.bool b.w.isEmpty)) (qa7 qa2)) (ac (gw O) az))))
  obtain rfl:=si c;exact tr fol [2,3] (kF (kBM [(28,.bool false)])) (ac (hs (.done (.opt (ze ZT .eql 96 (.tmp 17) (.const (.slice none 0 0)) (nvl ZU a.w) .nilslice)) (.bool a.w.isEmpty)) (qa7 qa2)) (ac (gw L) az))
 refine ihB h (fun c5 h=>?_) (fun c5 h=>?_)
 ·obtain⟨M,F,h⟩:=bnd h;obtain⟨G,H,h⟩:=bnd h;refine sq (gr fol [4,9] (kAV (kAb (kBM (kAJ M G [])))) (ac (hs (.done (.opt (ze ZT .quo 3 (.tmp 30) (.tmp 32) (.i a.s) (.i b.s))) (.i M)) (qcq F)) (ac (hs (.done (.opt (ze ZT .rem 3 (.tmp 35) (.tmp 37) (.i a.s) (.i b.s))) (.i G)) (qga H)) az)) ?_);refine sq ?_;refine sh fol (kAV (kAb (kBM (kAJ M G [(40,.bool (decide (G<0)))])))) ?_;obtain⟨P,g10,h⟩:=bnd h;refine Goes.imp (Q:=fun x s'=>(x= .normal/\ ∃I J,(I,J)=P/\Sub s' (ofG 84 (kAa ((5,.ptr 1 0)::(kAJ I J []))),[bZ,bZ]))) ?_ ?_
  ·refine ihD g10 (fun U g10=>?_) (fun U g10=>?_)
   ·refine gh fol (kAb (kBM (kAJ (w64 (M-1)) (w64 (G+b.s)) []))) ?_;obtain rfl:=si g10;exact⟨rfl,_,_,rfl,(Sub.norm [] [some 2,some 3] rfl rfl (.kp (.kp (.keep (.same nI) (.keep (.same nI) .nil)))) (.kb rfl (.same sn) (.kb rfl (.same sn) .nil)))⟩
   refine Goes.skip ?_;obtain rfl:=si g10;exact⟨rfl,_,_,rfl,(Sub.norm [] [some 2,some 3] rfl rfl (.drop (.kp (.kp (.keep (.same nI) (.keep (.same nI) .nil))))) (.kb rfl (.same sn) (.kb rfl (.same sn) .nil)))⟩
  rintro x s' ⟨rfl,I,J,rfl,hsub⟩
  try dsimp only at h
  refine Goes.sub hsub ?_;refine sg fol (kAa [(5,.ptr 1 0)]) (.cells [.i I,.nilslice]::(kA7 J)) ?_;refine Goes.ret ?_;obtain rfl:=si h;exact(gw2 [.agg [.i I,.nilslice],.agg [.i J,.nilslice]] (FzW.tuple (qj.cons (FzW.agg (qj.cons (Ua tI) (qj.cons (FzW.nv0 (E:=ZU)) qj.nil))) (qj.cons (FzW.agg (qj.cons (Ua tI) (qj.cons (FzW.nv0 (E:=ZU)) qj.nil))) qj.nil))))
 refine Goes.skip ?_;obtain⟨j,r,h⟩:=bnd h;refine sq (gr fol [1] (kAV (kAb (kBM [(8,.bool j.1),(9,vl ZU j.2)]))) (ac (cv (z8 a r)) az) ?_);obtain⟨K,t,h⟩:=bnd h;refine sq (gr fol [1] (kAV (kAb (kBM [(8,.bool j.1),(9,vl ZU j.2),(11,vl ZU K.2)]))) (ac (cv (z8 b t)) az) ?_);obtain⟨q,u,h⟩:=bnd h;refine sq (gr fol [2] (kAV (kAb (kBM [(8,.bool j.1),(12,vl ZU q.1),(13,vl ZU q.2)]))) (ac (cv (qfG N j.2 K.2 u)) az) ?_);obtain⟨o,v,h⟩:=bnd h;obtain⟨k,y,h⟩:=bnd h;refine sq (gq fol [2,5,8,9] (kAV (kAb (kBM [(14,.ptr 4 0),(15,.ptr 5 0)]))) [.cells (nz1 a),.cells (nz1 b),bZ,bZ,.cells (nz1 o),.cells (nz1 k)] (ac (cv (qaQ j.1 q.1 v)) (ac (cv (qaQ j.1 q.2 y)) (ac (hs (.run [4] (qx ZT 98 (.ptr 4 0) (.agg (nz1 o))) [.cells (nz1 a),.cells (nz1 b),bZ,bZ,bZ,bZ] .undef [.cells (nz1 a),.cells (nz1 b),bZ,bZ,.cells (nz1 o),bZ] true) (kg (n:=2) (by kernel_rfl) rfl rfl rfl rfl (cac rfl (cac nvc can)) rfl)) (ac (hs (.run [5] (qx ZT 98 (.ptr 5 0) (.agg (nz1 k))) [.cells (nz1 a),.cells (nz1 b),bZ,bZ,.cells (nz1 o),bZ] .undef [.cells (nz1 a),.cells (nz1 b),bZ,bZ,.cells (nz1 o),.cells (nz1 k)] true) (kg (n:=2) (by kernel_rfl) rfl rfl rfl rfl (cac rfl (cac nvc can)) rfl)) az)))) ?_);refine sq ?_;obtain⟨V,z,h⟩:=bnd h;refine sq (gr fol [1] (kAV (kAb (kBM [(14,.ptr 4 0),(15,.ptr 5 0),(75,.bool (decide (V<0)))]))) (ac (cv (y8 k z)) az) ?_);obtain⟨X,g22,h⟩:=bnd h;refine Goes.imp (Q:=fun x s'=>(x= .normal/\ ∃d e f g,(d,e,f,g)=X/\Sub s' (ofG 84 (kAa [(5,.ptr 1 0),(14,.ptr 2 0),(15,.ptr 3 0)]),[bZ,bZ,.cells (ni1 d e),.cells (ni1 f g)]))) ?_ ?_
 ·refine ihD g22 (fun Y g22=>?_) (fun Y g22=>?_)
  ·obtain⟨Z,A,g22⟩:=bnd g22;obtain⟨p,B,g22⟩:=bnd g22;obtain⟨C,D,g22⟩:=bnd g22;refine gq fol [1,2,5,6,7] (kAb (kBM [(14,.ptr 4 0),(15,.ptr 5 0)])) [.cells (nz1 a),.cells (nz1 b),bZ,bZ,.cells (nz1 p),.cells (nz1 C)] (ac (cv (qbQ 1 A)) (ac (cv (qeN N o Z B)) (ac (cv (qaz N k b D)) (ac (hs (.run [4] (qx ZT 98 (.ptr 4 0) (.agg (nz1 p))) [.cells (nz1 a),.cells (nz1 b),bZ,bZ,.cells (nz1 o),.cells (nz1 k)] .undef [.cells (nz1 a),.cells (nz1 b),bZ,bZ,.cells (nz1 p),.cells (nz1 k)] true) (kg (n:=2) (by kernel_rfl) rfl rfl rfl rfl (cac rfl (cac nvc can)) rfl)) (ac (hs (.run [5] (qx ZT 98 (.ptr 5 0) (.agg (nz1 C))) [.cells (nz1 a),.cells (nz1 b),bZ,bZ,.cells (nz1 p),.cells (nz1 k)] .undef [.cells (nz1 a),.cells (nz1 b),bZ,bZ,.cells (nz1 p),.cells (nz1 C)] true) (kg (n:=2) (by kernel_rfl) rfl rfl rfl rfl (cac rfl (cac nvc can)) rfl)) az))))) ?_;obtain rfl:=si g22;exact⟨rfl,_,_,_,_,rfl,(Sub.norm [] [some 2,some 3,some 4,some 5] rfl rfl (.kp (.kp (.kp (.kp .nil)))) (.kb rfl (.same sn) (.kb rfl (.same sn) (.kb rfl (.same sn) (.kb rfl (.same sn) .nil)))))⟩
  refine Goes.skip ?_;obtain rfl:=si g22;exact⟨rfl,_,_,_,_,rfl,(Sub.norm [] [some 2,some 3,some 4,some 5] rfl rfl (.drop (.kp (.kp (.kp (.kp .nil))))) (.kb rfl (.same sn) (.kb rfl (.same sn) (.kb rfl (.same sn) (.kb rfl (.same sn) .nil)))))⟩
 rintro x s' ⟨rfl,d,e,f,g,rfl,hsub⟩
 try dsimp only at h
 refine Goes.sub hsub ?_;refine sq (gq fol [2,3] (kAa [(5,.ptr 1 0)]) [.cells (ni1 d e),.cells (ni1 f g),.cells (ni1 d e),.cells (ni1 f g)] (ac (hs (.run [0] (qx ZT 98 (.ptr 0 0) (.agg (ni1 d e))) [bZ,bZ,.cells (ni1 d e),.cells (ni1 f g)] .undef [.cells (ni1 d e),bZ,.cells (ni1 d e),.cells (ni1 f g)] true) (kg (n:=2) (by kernel_rfl) rfl rfl rfl rfl (cac rfl (cac nvc can)) rfl)) (ac (hs (.run [1] (qx ZT 98 (.ptr 1 0) (.agg (ni1 f g))) [.cells (ni1 d e),bZ,.cells (ni1 d e),.cells (ni1 f g)] .undef [.cells (ni1 d e),.cells (ni1 f g),.cells (ni1 d e),.cells (ni1 f g)] true) (kg (n:=2) (by kernel_rfl) rfl rfl rfl rfl (cac rfl (cac nvc can)) rfl)) az)) ?_);refine Goes.ret ?_;obtain rfl:=si h;exact(gw2 [.agg (ni1 d e),.agg (ni1 f g)] (FzW.tuple (qj.cons (FzW.agg (qj.cons (Ua tI) (qj.cons (Ua (qE ZU _ (nl rfl))) qj.nil))) (qj.cons (FzW.agg (qj.cons (Ua tI) (qj.cons (Ua (qE ZU _ (nl rfl))) qj.nil))) qj.nil))))
def yO (N:Nat):Nat->Int->(List Int)->Int->(List Int)->Option (Int×(List Int))
 |0,_,_,_,_=>none
 |K+1,e,f,b,c=>
  (zf (⟨b,c⟩:qp)).bind fun d=>
  if(!decide (d=0))=true then
  (jP N (⟨e,f⟩:qp) (⟨b,c⟩:qp)).bind fun a=>
  yO N K b c a.2.s a.2.w
  else
  some (e,f)
def qdj (N:Nat) (a:qp) (b:qp):Option qp:=
 (qbn a).bind fun c=>
 (qbn b).bind fun d=>
 (yO N N c.s c.w d.s d.w).bind fun(e,f)=>
 some (⟨e,f⟩:qp)
theorem qii (N:Nat) (a:qp) (b:qp) {res:qp} (h:qdj N a b=some res):qd ZT (.fn 115) [.agg (nz1 a),.agg (nz1 b)] [] (.agg (nz1 res)) []:=by
 unfold qdj at h;refine Ub Tryz.func115 rfl rfl (m:=23) rfl (rs:=[.cell 4 98]) rfl (l:=[(0,.agg (nz1 a)),(1,.agg (nz1 b))]) rfl ?_;refine sg fol (kF []) [.cells (nz1 a),.cells (nz1 b),bZ] ?_;obtain⟨p,q,h⟩:=bnd h;obtain⟨t,r,h⟩:=bnd h;refine sq (gq fol [1,3,4,5] (kF []) [.cells (nz1 p),.cells (nz1 t),bZ] (ac (cv (qeS a q)) (ac (cv (qeS b r)) (ac (hs (.run [0] (qx ZT 98 (.ptr 0 0) (.agg (nz1 p))) [.cells (nz1 a),.cells (nz1 b),bZ] .undef [.cells (nz1 p),.cells (nz1 b),bZ] true) (kg (n:=2) (by kernel_rfl) rfl rfl rfl rfl (cac rfl (cac nvc can)) rfl)) (ac (hs (.run [1] (qx ZT 98 (.ptr 1 0) (.agg (nz1 t))) [.cells (nz1 p),.cells (nz1 b),bZ] .undef [.cells (nz1 p),.cells (nz1 t),bZ] true) (kg (n:=2) (by kernel_rfl) rfl rfl rfl rfl (cac rfl (cac nvc can)) rfl)) az)))) ?_);refine sq (Goes.block ?_);obtain⟨w,g9,h⟩:=bnd h;refine Goes.imp (Q:=fun x s'=>(x= .exit 0/\ ∃f g,(f,g)=w/\Sub s' (ofG 23 (kU [(4,.ptr 1 0)]),[.cells (ni1 f g),bZ]))) ?_ ?_
 ·refine Uc (fun M s=> ∃(i:Int) (j:List Int) (d:Int) (e:List Int),s=(ofG 23 (kF []),[.cells (ni1 i j),.cells (ni1 d e),bZ])/\yO N M i j d e=some w) ?_ (m:=N) ⟨_,_,_,_,rfl,g9⟩;rintro M s ⟨i,j,d,e,rfl,g9⟩
  cases M with
  |zero=>simp only[yO]at g9;cases g9
  |succ M=>
   rw[yO]at g9;refine sq ?_;obtain⟨u,k,g9⟩:=bnd g9;refine sq (gr fol [1] (kF (kBE (!decide (u=0)))) (ac (cv (y8 (⟨d,e⟩:qp) k)) az) ?_);refine ihB g9 (fun v g9=>?_) (fun v g9=>?_)
   ·refine Goes.skip ?_;refine Goes.block ?_;obtain⟨c,o,g9⟩:=bnd g9;refine sq (gq fol [2,8,9] (kF [(6,.ptr 4 0)]) [.cells (ni1 i j),.cells (ni1 d e),bZ,.cells (nz1 c.1),.cells (nz1 c.2)] (ac (cv (qdn N (⟨i,j⟩:qp) (⟨d,e⟩:qp) o)) (ac (hs (.run [3] (qx ZT 98 (.ptr 3 0) (.agg (nz1 c.1))) [.cells (ni1 i j),.cells (ni1 d e),bZ,bZ,bZ] .undef [.cells (ni1 i j),.cells (ni1 d e),bZ,.cells (nz1 c.1),bZ] true) (kg (n:=2) (by kernel_rfl) rfl rfl rfl rfl (cac rfl (cac nvc can)) rfl)) (ac (hs (.run [4] (qx ZT 98 (.ptr 4 0) (.agg (nz1 c.2))) [.cells (ni1 i j),.cells (ni1 d e),bZ,.cells (nz1 c.1),bZ] .undef [.cells (ni1 i j),.cells (ni1 d e),bZ,.cells (nz1 c.1),.cells (nz1 c.2)] true) (kg (n:=2) (by kernel_rfl) rfl rfl rfl rfl (cac rfl (cac nvc can)) rfl)) az))) ?_);refine gq fol [2,3] (kF []) [.cells (ni1 d e),.cells (nz1 c.2),bZ,.cells (nz1 c.1),.cells (nz1 c.2)] (ac (hs (.run [0] (qx ZT 98 (.ptr 0 0) (.agg (ni1 d e))) [.cells (ni1 i j),.cells (ni1 d e),bZ,.cells (nz1 c.1),.cells (nz1 c.2)] .undef [.cells (ni1 d e),.cells (ni1 d e),bZ,.cells (nz1 c.1),.cells (nz1 c.2)] true) (kg (n:=2) (by kernel_rfl) rfl rfl rfl rfl (cac rfl (cac nvc can)) rfl)) (ac (hs (.run [1] (qx ZT 98 (.ptr 1 0) (.agg (nz1 c.2))) [.cells (ni1 d e),.cells (ni1 d e),bZ,.cells (nz1 c.1),.cells (nz1 c.2)] .undef [.cells (ni1 d e),.cells (nz1 c.2),bZ,.cells (nz1 c.1),.cells (nz1 c.2)] true) (kg (n:=2) (by kernel_rfl) rfl rfl rfl rfl (cac rfl (cac nvc can)) rfl)) az)) ?_;exact⟨M,(ofG 23 (kF []),[.cells (ni1 d e),.cells (nz1 c.2),bZ]),Nat.lt_succ_self _,(Sub.norm [] [some 0,some 1,some 2] rfl rfl (.kp (.kp (.kp .nil))) (.kb rfl (.same sn) (.kb rfl (.same sn) (.kb rfl (.same sn) .nil)))),_,_,_,_,rfl,g9⟩
   refine Goes.exit ?_;obtain rfl:=si g9;exact⟨rfl,_,_,rfl,(Sub.norm [] [some 0,some 2] rfl rfl (.kp (.drop (.kp .nil))) (.kb rfl (.same sn) (.kb rfl (.same sn) .nil)))⟩
 rintro x s' ⟨rfl,f,g,rfl,hsub⟩
 try dsimp only at h
 refine Goes.sub hsub ?_;refine sq (gq fol [1] [(4,.ptr 1 0)] [.cells (ni1 f g),.cells (ni1 f g)] (ac (hs (.run [1] (qx ZT 98 (.ptr 1 0) (.agg (ni1 f g))) [.cells (ni1 f g),bZ] .undef [.cells (ni1 f g),.cells (ni1 f g)] true) (kg (n:=2) (by kernel_rfl) rfl rfl rfl rfl (cac rfl (cac nvc can)) rfl)) az) ?_);refine Goes.ret ?_;obtain rfl:=si h;exact(gw2 [.agg (ni1 f g)] (FzW.agg (qj.cons (Ua tI) (qj.cons (Ua (qE ZU _ (nl rfl))) qj.nil))))
def jX (b:List Int) (l:Int) (g:Int):Nat->(List Int)->Int->Int->Option ((List Int)×Int)
 |0,_,_,_=>none
 |K+1,h,a,c=>
  if a<(b.length:Int)then
  (idx b a).bind fun i=>
  (bits_Mul64 l i).bind fun d=>
  (idx h (w64 (g+a))).bind fun j=>
  (qar d.2 j 0).bind fun e=>
  (qar e.1 c 0).bind fun f=>
  (put h (w64 (g+a)) f.1).bind fun k=>
  jX b l g K k (w64 (a+1)) (wrap .u64 ((wrap .u64 (d.1+e.2))+f.2))
  else
  some (h,c)
def vg (N:Nat) (a:List Int) (b:List Int):Nat->(List Int)->Int->Option (List Int)
 |0,_,_=>none
 |K+1,g,c=>
  if c<(a.length:Int)then
  (idx a c).bind fun h=>
  (jX b h c N g 0 0).bind fun(d,e)=>
  (idx d (w64 (c+(b.length:Int)))).bind fun i=>
  (put d (w64 (c+(b.length:Int))) e).bind fun f=>
  vg N a b K f (w64 (c+1))
  else
  some g
def qaZ (N:Nat) (a:List Int) (b:List Int):Option (List Int):=
 (mk 8 (w64 ((a.length:Int)+(b.length:Int))) 0).bind fun d=>
 (vg N a b N d 0).bind fun e=>
 (xG N e).bind fun c=>
 some c
theorem qhi (N:Nat) (a:List Int) (b:List Int) {res:List Int} (h:qaZ N a b=some res):qd ZT (.fn 193) [vl ZU a,vl ZU b] [] (vl ZU res) []:=by
 unfold qaZ at h;refine Ub Tryz.func193 rfl rfl (m:=80) rfl (rs:=[.tmp 4]) rfl (l:=[(0,vl ZU a),(1,vl ZU b)]) rfl ?_;refine sh fol [(0,vl ZU a),(1,vl ZU b)] ?_;obtain⟨L,O,h⟩:=bnd h;refine sq (gq fol [5] ((0,vl ZU a)::(1,vl ZU b)::(kE L [])) [.cells (L.flatMap ZU.c)] (ac (hs (.run [] (jK ZT 96 (.i (w64 ((a.length:Int)+(b.length:Int)))) (.i (w64 ((a.length:Int)+(b.length:Int))))) [] (.slice 0 0 L.length L.length 1) [.cells (L.flatMap ZU.c)] false) (qd2 jf (E:=ZU) (z:=0) rfl (by kernel_rfl) O rfl)) az) ?_);refine sq ?_;refine sh fol ((1,vl ZU b)::(kE L [(20,vl ZU a),(21,.i (a.length:Int)),(22,.i 0)])) ?_;refine Goes.block ?_;obtain⟨Y,g5,h⟩:=bnd h;refine Goes.imp (Q:=fun x s'=>(x= .exit 0/\ ∃u,u=Y/\Sub s' (ofG 80 (kE u []),[.cells (u.flatMap ZU.c)]))) ?_ ?_
 ·refine Uc (fun M s=> ∃(F:List Int) (d:Int),s=(ofG 80 ((1,vl ZU b)::(kE F ((20,vl ZU a)::(kAD (a.length:Int) d [])))),[.cells (F.flatMap ZU.c)])/\vg N a b M F d=some Y) ?_ (m:=N) ⟨_,_,rfl,g5⟩;rintro M s ⟨F,d,rfl,g5⟩
  cases M with
  |zero=>simp only[vg]at g5;cases g5
  |succ M=>
   rw[vg]at g5;refine sh fol ((1,vl ZU b)::(kE F ((20,vl ZU a)::(kAD (a.length:Int) d [(23,.bool (decide (d<(a.length:Int))))])))) ?_;refine sq ?_;refine ihD g5 (fun Z g5=>?_) (fun Z g5=>?_)
   ·refine Goes.skip ?_;refine sq (Goes.block ?_);obtain⟨q,G,g5⟩:=bnd g5;refine sq (gr fol [1,2] ((1,vl ZU b)::(kE F ((6,.i d)::(kAg q ((20,vl ZU a)::(kAD (a.length:Int) d [])))))) (ac (iv jf ZU G) (ac (lv 0 jm ZU G rfl) az)) ?_);refine sh fol ((1,vl ZU b)::(kE F ((6,.i d)::(kAg q (kBa ((20,vl ZU a)::(kAD (a.length:Int) d []))))))) ?_;refine sq ?_;refine sh fol ((1,vl ZU b)::(kE F ((6,.i d)::(kAg q (kBa ((20,vl ZU a)::(kAD (a.length:Int) d [(27,vl ZU b),(28,.i (b.length:Int)),(29,.i 0)]))))))) ?_;refine Goes.block ?_;obtain⟨P,g13,g5⟩:=bnd g5;refine Goes.imp (Q:=fun x s'=>(x= .exit 2/\ ∃k v,(k,v)=P/\Sub s' (ofG 80 ((1,vl ZU b)::(kE k ((6,.i d)::(8,.int .u64 v)::(20,vl ZU a)::(kAD (a.length:Int) d [])))),[.cells (k.flatMap ZU.c)]))) ?_ ?_
    ·refine Uc (fun M s=> ∃(j:List Int) (e:Int) (n:Int),s=(ofG 80 ((1,vl ZU b)::(kE j ((6,.i d)::(kAA q n ((20,vl ZU a)::(kAD (a.length:Int) d ((27,vl ZU b)::(kAz (b.length:Int) e)))))))),[.cells (j.flatMap ZU.c)])/\jX b q d M j e n=some P) ?_ (m:=N) ⟨_,_,_,rfl,g13⟩;rintro M s ⟨j,e,n,rfl,g13⟩
     cases M with
     |zero=>simp only[jX]at g13;cases g13
     |succ M=>
      rw[jX]at g13;refine sh fol ((1,vl ZU b)::(kE j ((6,.i d)::(kAA q n ((20,vl ZU a)::(kAD (a.length:Int) d [(27,vl ZU b),(28,.i (b.length:Int)),(29,.i e),(30,.bool (decide (e<(b.length:Int))))])))))) ?_;refine sq ?_;refine ihD g13 (fun X g13=>?_) (fun X g13=>?_)
      ·refine Goes.skip ?_;refine sq (Goes.block ?_);obtain⟨U,w,g13⟩:=bnd g13;refine sq (gr fol [1,2] ((1,vl ZU b)::(kE j ((6,.i d)::(kAA q n ((9,.i e)::(10,.int .u64 U)::(20,vl ZU a)::(kAD (a.length:Int) d ((27,vl ZU b)::(kAz (b.length:Int) e)))))))) (ac (iv jf ZU w) (ac (lv 0 jm ZU w rfl) az)) ?_);obtain⟨f,H,g13⟩:=bnd g13;refine sq (gr fol [2] ((1,vl ZU b)::(kE j ((6,.i d)::(kAA q n ((9,.i e)::(kZ f.1 f.2 ((20,vl ZU a)::(kAD (a.length:Int) d ((27,vl ZU b)::(kAz (b.length:Int) e)))))))))) (ac (cv (qbY q U H)) az) ?_);refine sh fol ((1,vl ZU b)::(kE j ((6,.i d)::(kAA q n ((9,.i e)::(kZ f.1 f.2 ((20,vl ZU a)::(kAD (a.length:Int) d ((27,vl ZU b)::(kAz (b.length:Int) e)))))))))) ?_;obtain⟨V,o,g13⟩:=bnd g13;obtain⟨g,I,g13⟩:=bnd g13;refine sq (gr fol [5,6,7] ((1,vl ZU b)::(kE j ((6,.i d)::(kAA q n ((9,.i e)::(kZ f.1 g.1 ((13,.int .u64 g.2)::(20,vl ZU a)::(kAD (a.length:Int) d ((27,vl ZU b)::(kAz (b.length:Int) e)))))))))) (ac (hs (.done (.opt (ql ZT 96 (.slice 0 0 j.length j.length 1) (.i (w64 (d+e))))) (.ptr 0 ((w64 (d+e):Int).toNat*1+0))) (qa1 jf o)) (ac (hs (.run [0] (jJ ZT 222 (.ptr 0 ((w64 (d+e):Int).toNat*1+0))) [.cells (j.flatMap ZU.c)] (.int .u64 V) [.cells (j.flatMap ZU.c)] false) (qdb jm (E:=ZU) (l:=j) rfl rfl o (nl rfl) rfl)) (ac (cv (qcP f.2 V 0 I)) az))) ?_);refine sh fol ((1,vl ZU b)::(kE j ((6,.i d)::(kAA q n ((9,.i e)::(kZ (wrap .u64 (f.1+g.2)) g.1 ((20,vl ZU a)::(kAD (a.length:Int) d ((27,vl ZU b)::(kAz (b.length:Int) e)))))))))) ?_;obtain⟨p,J,g13⟩:=bnd g13;refine sq (gr fol [2] ((1,vl ZU b)::(kE j ((6,.i d)::(kAg q ((9,.i e)::(kZ (wrap .u64 (f.1+g.2)) p.1 ((13,.int .u64 p.2)::(20,vl ZU a)::(kAD (a.length:Int) d ((27,vl ZU b)::(kAz (b.length:Int) e)))))))))) (ac (cv (qcP g.1 n 0 J)) az) ?_);obtain⟨r,A,g13⟩:=bnd g13;refine gq fol [8,9] ((1,vl ZU b)::(kE j ((6,.i d)::(kAA q (wrap .u64 ((wrap .u64 (f.1+g.2))+p.2)) ((20,vl ZU a)::(kAD (a.length:Int) d ((27,vl ZU b)::(kAz (b.length:Int) e)))))))) [.cells (r.flatMap ZU.c)] (ac (hs (.done (.opt (ql ZT 96 (.slice 0 0 j.length j.length 1) (.i (w64 (d+e))))) (.ptr 0 ((w64 (d+e):Int).toNat*1+0))) (qa1 jf o)) (ac (hs (.run [0] (qx ZT 222 (.ptr 0 ((w64 (d+e):Int).toNat*1+0)) (.int .u64 p.1)) [.cells (j.flatMap ZU.c)] .undef [.cells (r.flatMap ZU.c)] true) (qaD (E:=ZU) (l:=j) (y:=p.1) rfl (show _=some 1 by kernel_rfl) rfl o rfl rfl rfl rfl rfl A rfl)) az)) ?_;refine Goes.sub (show Sub (ofG 80 ((1,vl ZU b)::(kE j ((6,.i d)::(kAA q (wrap .u64 ((wrap .u64 (f.1+g.2))+p.2)) ((20,vl ZU a)::(kAD (a.length:Int) d ((27,vl ZU b)::(kAz (b.length:Int) e)))))))),[.cells (r.flatMap ZU.c)]) (ofG 80 ((1,vl ZU b)::(kE r ((6,.i d)::(kAA q (wrap .u64 ((wrap .u64 (f.1+g.2))+p.2)) ((20,vl ZU a)::(kAD (a.length:Int) d ((27,vl ZU b)::(kAz (b.length:Int) e)))))))),[.cells (r.flatMap ZU.c)])from(Sub.norm [] [some 0] rfl rfl (.keep (.same (qg ZU _)) (.keep (.sliceE rfl (yE A)) (.keep (.same nI) (.keep (.same nI) (.keep (.same nI) (.keep (.same (qg ZU _)) (.keep (.same nI) (.keep (.same nI) (.keep (.same (qg ZU _)) (.keep (.same nI) (.keep (.same nI) .nil))))))))))) (.ks .nil))) ?_;refine gh fol ((1,vl ZU b)::(kE r ((6,.i d)::(kAA q (wrap .u64 ((wrap .u64 (f.1+g.2))+p.2)) ((20,vl ZU a)::(kAD (a.length:Int) d ((27,vl ZU b)::(kAz (b.length:Int) (w64 (e+1)))))))))) ?_;exact⟨M,(ofG 80 ((1,vl ZU b)::(kE r ((6,.i d)::(kAA q (wrap .u64 ((wrap .u64 (f.1+g.2))+p.2)) ((20,vl ZU a)::(kAD (a.length:Int) d ((27,vl ZU b)::(kAz (b.length:Int) (w64 (e+1)))))))))),[.cells (r.flatMap ZU.c)]),Nat.lt_succ_self _,(Sub.refl _),_,_,_,rfl,g13⟩
      refine Goes.exit ?_;obtain rfl:=si g13;exact⟨rfl,_,_,rfl,(Sub.keep [1,5,6,8,20,21,22] rfl rfl)⟩
    rintro x s' ⟨rfl,k,v,rfl,hsub⟩
    try dsimp only at g5
    refine Goes.sub hsub ?_;obtain⟨a0,B,g5⟩:=bnd g5;obtain⟨t,C,g5⟩:=bnd g5;refine gq fol [6,7] ((1,vl ZU b)::(kE k ((20,vl ZU a)::(kAD (a.length:Int) d [])))) [.cells (t.flatMap ZU.c)] (ac (hs (.done (.opt (ql ZT 96 (.slice 0 0 k.length k.length 1) (.i (w64 (d+(b.length:Int)))))) (.ptr 0 ((w64 (d+(b.length:Int)):Int).toNat*1+0))) (qa1 jf B)) (ac (hs (.run [0] (qx ZT 222 (.ptr 0 ((w64 (d+(b.length:Int)):Int).toNat*1+0)) (.int .u64 v)) [.cells (k.flatMap ZU.c)] .undef [.cells (t.flatMap ZU.c)] true) (qaD (E:=ZU) (l:=k) (y:=v) rfl (show _=some 1 by kernel_rfl) rfl B rfl rfl rfl rfl rfl C rfl)) az)) ?_;refine Goes.sub (show Sub (ofG 80 ((1,vl ZU b)::(kE k ((20,vl ZU a)::(kAD (a.length:Int) d [])))),[.cells (t.flatMap ZU.c)]) (ofG 80 ((1,vl ZU b)::(kE t ((20,vl ZU a)::(kAD (a.length:Int) d [])))),[.cells (t.flatMap ZU.c)])from(Sub.norm [] [some 0] rfl rfl (.keep (.same (qg ZU _)) (.keep (.sliceE rfl (yE C)) (.keep (.same (qg ZU _)) (.keep (.same nI) (.keep (.same nI) .nil))))) (.ks .nil))) ?_;refine gh fol ((1,vl ZU b)::(kE t ((20,vl ZU a)::(kAD (a.length:Int) (w64 (d+1)) [])))) ?_;exact⟨M,(ofG 80 ((1,vl ZU b)::(kE t ((20,vl ZU a)::(kAD (a.length:Int) (w64 (d+1)) [])))),[.cells (t.flatMap ZU.c)]),Nat.lt_succ_self _,(Sub.refl _),_,_,rfl,g5⟩
   refine Goes.exit ?_;obtain rfl:=si g5;exact⟨rfl,_,rfl,(Sub.keep [5] rfl rfl)⟩
 rintro x s' ⟨rfl,u,rfl,hsub⟩;refine Goes.sub hsub ?_;obtain⟨D,K,h⟩:=bnd h;refine sq (gq fol [1] [(4,vl ZU D)] [.frozen (u.flatMap ZU.c)] (ac (hs (.callF 244 [.slice 0 0 u.length u.length 1] [.cells (u.flatMap ZU.c)] [0] [vl ZU u] (vl ZU D)) (qax (FzL.cons (Fz.sl (E:=ZU) rfl rfl (nl rfl)) FzL.nil) (xV N u K) (qA ZU _ (nl rfl)))) az) ?_);refine Goes.sub (show Sub (ofG 80 [(4,vl ZU D)],[.frozen (u.flatMap ZU.c)]) (ofG 80 [(4,vl ZU D)],[])from(Sub.norm [] [] rfl rfl (.keep (.same (qg ZU _)) .nil) .nil)) ?_;refine Goes.ret ?_;obtain rfl:=si h;exact(gw2 [vl ZU D] (Ua (qA ZU _ (nl rfl))))
def qN (N:Nat) (a:qp) (b:qp):Option qp:=
 (if a.w.isEmpty=true then
 some b.w.isEmpty
 else
 some false:Option Bool).bind fun j=>
 ((if j=true then
 (qcG a.s).bind fun k=>
 (qcG b.s).bind fun l=>
 (bits_Mul64 k l).bind fun e=>
 (if e.1=0 then
 some (decide (e.2<=9223372036854775807))
 else
 some false:Option Bool).bind fun f=>
 if f=true then
 if(!((decide (a.s<0))==(decide (b.s<0))))=true then
 some (.inr (⟨w64 (0-(w64 e.2)),[]⟩:qp))
 else
 some (.inr (⟨w64 e.2,[]⟩:qp))
 else
 some (.inl ())
 else
 some (.inl ()):Option (Unit⊕qp))).bind (fun
 |(.inl ())=>
 (qO a).bind fun c=>
 (qO b).bind fun d=>
 (qaZ N c.2 d.2).bind fun g=>
 (vQ (!(c.1==d.1)) g).bind fun h=>
 some h
 |(.inr i)=>
 some i)
theorem jk (N:Nat) (a:qp) (b:qp) {res:qp} (h:qN N a b=some res):qd ZT (.fn 121) [.agg (nz1 a),.agg (nz1 b)] [] (.agg (nz1 res)) []:=by
 unfold qN at h;refine Ub Tryz.func121 rfl rfl (m:=66) rfl (rs:=[.cell 4 98]) rfl (l:=[(0,.agg (nz1 a)),(1,.agg (nz1 b))]) rfl ?_;refine sg fol (kF []) [.cells (nz1 a),.cells (nz1 b),bZ] ?_;refine sq ?_;refine sq ?_;obtain⟨G,d,h⟩:=bnd h;refine Goes.cut (s':=(ofG 66 (kF [(18,.bool G)]),[.cells (nz1 a),.cells (nz1 b),bZ])) ?_ ?_
 ·rcases wyB d with⟨y,d⟩|⟨y,d⟩
  ·obtain rfl:=si d;exact tr fol [2,3,6] (kF [(18,.bool b.w.isEmpty)]) (ac (hs (.done (.opt (ze ZT .eql 96 (.tmp 12) (.const (.slice none 0 0)) (nvl ZU a.w) .nilslice)) (.bool a.w.isEmpty)) (qa7 qa2)) (ac (gw y) (ac (hs (.done (.opt (ze ZT .eql 96 (.tmp 16) (.const (.slice none 0 0)) (nvl ZU b.w) .nilslice)) (.bool b.w.isEmpty)) (qa7 qa2)) az)))
  obtain rfl:=si d;exact tr fol [2,3] (kF [(18,.bool false)]) (ac (hs (.done (.opt (ze ZT .eql 96 (.tmp 12) (.const (.slice none 0 0)) (nvl ZU a.w) .nilslice)) (.bool a.w.isEmpty)) (qa7 qa2)) (ac (gw y) az))
 obtain⟨D,g4,h⟩:=bnd h;refine Goes.imp (Q:=fun x s'=>(x= .normal/\(.inl ())=D/\Sub s' (ofG 66 (kF []),[.cells (nz1 a),.cells (nz1 b),bZ]))\/(x= .ret/\ ∃F,(.inr F)=D/\jb ZT [.cell 4 98] (.agg (nz1 F)) .ret s')) ?_ ?_
 ·refine ihB g4 (fun H g4=>?_) (fun H g4=>?_)
  ·obtain⟨I,t,g4⟩:=bnd g4;obtain⟨J,u,g4⟩:=bnd g4;obtain⟨f,v,g4⟩:=bnd g4;refine sq (gr fol [2,5,6] (kF ((5,.int .u64 f.1)::(kAK f.2 []))) (ac (cv (qeE a.s t)) (ac (cv (qeE b.s u)) (ac (cv (qbY I J v)) az))) ?_);refine sq ?_;obtain⟨z,c,g4⟩:=bnd g4;refine Goes.cut (s':=(ofG 66 (kF (kAK f.2 [(34,.bool z)])),[.cells (nz1 a),.cells (nz1 b),bZ])) ?_ ?_
   ·rcases wyD c with⟨k,c⟩|⟨k,c⟩
    ·obtain rfl:=si c;exact tr fol [2] (kF (kAK f.2 [(34,.bool (decide (f.2<=9223372036854775807)))])) (ac (gw k) az)
    obtain rfl:=si c;exact tr fol [2] (kF (kAK f.2 [(34,.bool false)])) (ac (gw k) az)
   refine ihB g4 (fun A g4=>?_) (fun A g4=>?_)
   ·refine sq ?_;refine sh fol (kAb (kAK f.2 [(41,.bool (!((decide (a.s<0))==(decide (b.s<0)))))])) ?_;refine ihB g4 (fun B g4=>?_) (fun B g4=>?_)
    ·refine sg fol (kAb []) (.cells (nz1 a):: .cells (nz1 b)::(kA7 (w64 (0-(w64 f.2))))) ?_;refine Goes.ret ?_;obtain rfl:=si g4;exact Or.inr (⟨rfl,_,rfl,(gw2 [.agg [.i (w64 (0-(w64 f.2))),.nilslice]] (FzW.agg (qj.cons (Ua tI) (qj.cons (FzW.nv0 (E:=ZU)) qj.nil))))⟩)
    refine Goes.skip ?_;refine sg fol (kAb []) (.cells (nz1 a):: .cells (nz1 b)::(kA7 (w64 f.2))) ?_;refine Goes.ret ?_;obtain rfl:=si g4;exact Or.inr (⟨rfl,_,rfl,(gw2 [.agg [.i (w64 f.2),.nilslice]] (FzW.agg (qj.cons (Ua tI) (qj.cons (FzW.nv0 (E:=ZU)) qj.nil))))⟩)
   refine Goes.skip ?_;obtain rfl:=si g4;exact Or.inl (⟨rfl,rfl,(Sub.keep [2,3,4] rfl rfl)⟩)
  refine Goes.skip ?_;obtain rfl:=si g4;exact Or.inl (⟨rfl,rfl,(Sub.keep [2,3,4] rfl rfl)⟩)
 rintro x s' (⟨rfl,rfl,hsub⟩|⟨rfl,K,rfl,hret⟩)
 ·try dsimp only at h
  refine Goes.sub hsub ?_;obtain⟨e,o,h⟩:=bnd h;refine sq (gr fol [1] (kAV (kAb [(7,.bool e.1),(8,vl ZU e.2)])) (ac (cv (z8 a o)) az) ?_);obtain⟨g,p,h⟩:=bnd h;refine sq (gr fol [1] (kAb [(7,.bool e.1),(8,vl ZU e.2),(9,.bool g.1),(10,vl ZU g.2)]) (ac (cv (z8 b p)) az) ?_);obtain⟨C,q,h⟩:=bnd h;obtain⟨j,r,h⟩:=bnd h;refine sq (gq fol [5,6,7] (kAb []) [.cells (nz1 a),.cells (nz1 b),.cells (nz1 j)] (ac (cv (qhi N e.2 g.2 q)) (ac (cv (qaQ (!(e.1==g.1)) C r)) (ac (hs (.run [2] (qx ZT 98 (.ptr 2 0) (.agg (nz1 j))) [.cells (nz1 a),.cells (nz1 b),bZ] .undef [.cells (nz1 a),.cells (nz1 b),.cells (nz1 j)] true) (kg (n:=2) (by kernel_rfl) rfl rfl rfl rfl (cac rfl (cac nvc can)) rfl)) az))) ?_);refine Goes.ret ?_;obtain rfl:=si h;exact(gw2 [.agg (nz1 j)] (FzW.agg (qj.cons (Ua tI) (qj.cons (Ua (qE ZU _ (nl rfl))) qj.nil))))
 try dsimp only at h
 obtain rfl:=si h;exact hret
def strings_HasPrefix (b:Str) (a:Str):Option Bool:=
 (stringslite_HasPrefix b a).bind fun c=>
 some c
theorem qeK (b:Str) (a:Str) {res:Bool} (h:strings_HasPrefix b a=some res):qd ZT (.fn 184) (kBF b a) [] (.bool res) []:=by
 unfold strings_HasPrefix at h;refine Ub Tryz.func184 rfl rfl (m:=8) rfl (rs:=[.tmp 4]) rfl (l:=(kQ b a [])) rfl ?_;refine sh fol (kQ b a []) ?_;obtain⟨d,c,h⟩:=bnd h;refine sq (gr fol [2] (kBQ d) (ac (cv (xu b a c)) az) ?_);refine Goes.ret ?_;obtain rfl:=si h;exact(gw2 [.bool d] (Ua tB))
def stringslite_TrimPrefix (b:Str) (a:Str):Option Str:=
 (stringslite_HasPrefix b a).bind fun c=>
 if c=true then
 (cut b (a.length:Int) (b.length:Int)).bind fun d=>
 some d
 else
 some b
theorem qc9 (b:Str) (a:Str) {res:Str} (h:stringslite_TrimPrefix b a=some res):qd ZT (.fn 240) (kBF b a) [] (.str res) []:=by
 unfold stringslite_TrimPrefix at h;refine Ub Tryz.func240 rfl rfl (m:=13) rfl (rs:=[.tmp 4]) rfl (l:=(kQ b a [])) rfl ?_;refine sh fol (kQ b a []) ?_;refine sq ?_;obtain⟨f,c,h⟩:=bnd h;refine sq (gr fol [2] (kQ b a [(7,.bool f)]) (ac (cv (xu b a c)) az) ?_);refine ihB h (fun g h=>?_) (fun g h=>?_)
 ·obtain⟨e,d,h⟩:=bnd h;refine sq (gr fol [3] (kBb e) (ac (hs (.done (.opt (kr ZT 9 (.str b) (some (.i (a.length:Int))) none none)) (.str e)) (jA st9 (some (a.length:Int)) none d)) az) ?_);refine Goes.ret ?_;obtain rfl:=si h;exact(gw2 [.str e] (Ua tS))
 refine Goes.skip ?_;refine sh fol (kBb b) ?_;refine Goes.ret ?_;obtain rfl:=si h;exact(gw2 [.str b] (Ua tS))
def strings_TrimPrefix (b:Str) (a:Str):Option Str:=
 (stringslite_TrimPrefix b a).bind fun c=>
 some c
theorem qbH (b:Str) (a:Str) {res:Str} (h:strings_TrimPrefix b a=some res):qd ZT (.fn 185) (kBF b a) [] (.str res) []:=by
 unfold strings_TrimPrefix at h;refine Ub Tryz.func185 rfl rfl (m:=8) rfl (rs:=[.tmp 4]) rfl (l:=(kQ b a [])) rfl ?_;refine sh fol (kQ b a []) ?_;obtain⟨d,c,h⟩:=bnd h;refine sq (gr fol [2] (kBb d) (ac (cv (qc9 b a c)) az) ?_);refine Goes.ret ?_;obtain rfl:=si h;exact(gw2 [.str d] (Ua tS))
def vW (N:Nat):Nat->Int->(List Int)->Int->(List Int)->Int->Option (Int×(List Int))
 |0,_,_,_,_,_=>none
 |K+1,e,f,h,i,g=>
  if g>0 then
  ((((if(qK .i64 g 1)=1 then
  (qN N (⟨h,i⟩:qp) (⟨e,f⟩:qp)).bind fun a=>
  some (a.s,a.w)
  else
  some (h,i):Option (Int×(List Int)))).bind fun(b,c)=>
  if g>1 then
  (qN N (⟨e,f⟩:qp) (⟨e,f⟩:qp)).bind fun d=>
  some (d.s,d.w,b,c)
  else
  some (e,f,b,c):Option (Int×(List Int)×Int×(List Int)))).bind fun(j,k,l,m)=>
  vW N K j k l m (qC .i64 g 1)
  else
  some (h,i)
def qb7 (N:Nat) (a:qp) (k:Int):Option qp:=
 (qcK 1).bind fun b=>
 (vW N N a.s a.w b.s b.w k).bind fun(c,d)=>
 some (⟨c,d⟩:qp)
theorem qhT (N:Nat) (a:qp) (k:Int) {res:qp} (h:qb7 N a k=some res):qd ZT (.fn 187) [.agg (nz1 a),.i k] [] (.agg (nz1 res)) []:=by
 unfold qb7 at h;refine Ub Tryz.func187 rfl rfl (m:=23) rfl (rs:=[.cell 4 98]) rfl (l:=[(0,.agg (nz1 a)),(1,.i k)]) rfl ?_;refine sg fol ((1,.i k)::(kU [(4,.ptr 1 0)])) [.cells (nz1 a),bZ] ?_;obtain⟨B,y,h⟩:=bnd h;refine sq (gq fol [0,2] ((1,.i k)::(kU (kAe []))) [.cells (nz1 a),bZ,.cells (nz1 B)] (ac (cv (qbQ 1 y)) (ac (hs (.run [2] (qx ZT 98 (.ptr 2 0) (.agg (nz1 B))) [.cells (nz1 a),bZ,bZ] .undef [.cells (nz1 a),bZ,.cells (nz1 B)] true) (kg (n:=2) (by kernel_rfl) rfl rfl rfl rfl (cac rfl (cac nvc can)) rfl)) az)) ?_);refine sq (Goes.block ?_);obtain⟨H,g9,h⟩:=bnd h;refine Goes.imp (Q:=fun x s'=>(x= .exit 0/\ ∃g j,(g,j)=H/\Sub s' (ofG 23 (kAa [(5,.ptr 1 0)]),[bZ,.cells (ni1 g j)]))) ?_ ?_
 ·refine Uc (fun M s=> ∃(e:Int) (f:List Int) (z:Int) (A:List Int) (b:Int),s=(ofG 23 ((1,.i b)::(kU (kAe []))),[.cells (ni1 e f),bZ,.cells (ni1 z A)])/\vW N M e f z A b=some H) ?_ (m:=N) ⟨_,_,_,_,_,rfl,g9⟩;rintro M s ⟨e,f,z,A,b,rfl,g9⟩
  cases M with
  |zero=>simp only[vW]at g9;cases g9
  |succ M=>
   rw[vW]at g9;refine sq ?_;refine sh fol ((1,.i b)::(kU (kAe (kBY (decide (b>0)))))) ?_;refine ihD g9 (fun C g9=>?_) (fun C g9=>?_)
   ·refine Goes.skip ?_;refine sq ?_;obtain⟨D,g15,g9⟩:=bnd g9;refine Goes.imp (Q:=fun x s'=>(x= .normal/\ ∃o p q r,(o,p,q,r)=D/\Sub s' (ofG 23 ((1,.i b)::(kU (kAe []))),[.cells (ni1 o p),bZ,.cells (ni1 q r)]))) ?_ ?_
    ·refine Goes.block ?_;refine sq ?_;refine sh fol ((1,.i b)::(kU (kAe (kBE (decide ((qK .i64 b 1)=1)))))) ?_;obtain⟨E,g18,g15⟩:=bnd g15;refine Goes.imp (Q:=fun x s'=>(x= .normal/\ ∃c d,(c,d)=E/\Sub s' (ofG 23 ((1,.i b)::(kU (kAe []))),[.cells (ni1 e f),bZ,.cells (ni1 c d)]))) ?_ ?_
     ·refine ihD g18 (fun F g18=>?_) (fun F g18=>?_)
      ·obtain⟨t,u,g18⟩:=bnd g18;refine gq fol [2,3] ((1,.i b)::(kU (kAe []))) [.cells (ni1 e f),bZ,.cells (nz1 t)] (ac (cv (jk N (⟨z,A⟩:qp) (⟨e,f⟩:qp) u)) (ac (hs (.run [2] (qx ZT 98 (.ptr 2 0) (.agg (nz1 t))) [.cells (ni1 e f),bZ,.cells (ni1 z A)] .undef [.cells (ni1 e f),bZ,.cells (nz1 t)] true) (kg (n:=2) (by kernel_rfl) rfl rfl rfl rfl (cac rfl (cac nvc can)) rfl)) az)) ?_;obtain rfl:=si g18;exact⟨rfl,_,_,rfl,(Sub.refl _)⟩
      refine Goes.skip ?_;obtain rfl:=si g18;exact⟨rfl,_,_,rfl,(Sub.keep [1,2,4,5] rfl rfl)⟩
     rintro x s' ⟨rfl,c,d,rfl,hsub⟩
     try dsimp only at g15
     refine Goes.sub hsub ?_;refine sh fol ((1,.i b)::(kU (kAe [(18,.bool (decide (b>1)))]))) ?_;refine ihD g15 (fun G g15=>?_) (fun G g15=>?_)
     ·obtain⟨v,w,g15⟩:=bnd g15;refine gq fol [2,3] ((1,.i b)::(kU (kAe []))) [.cells (nz1 v),bZ,.cells (ni1 c d)] (ac (cv (jk N (⟨e,f⟩:qp) (⟨e,f⟩:qp) w)) (ac (hs (.run [0] (qx ZT 98 (.ptr 0 0) (.agg (nz1 v))) [.cells (ni1 e f),bZ,.cells (ni1 c d)] .undef [.cells (nz1 v),bZ,.cells (ni1 c d)] true) (kg (n:=2) (by kernel_rfl) rfl rfl rfl rfl (cac rfl (cac nvc can)) rfl)) az)) ?_;obtain rfl:=si g15;exact⟨rfl,_,_,_,_,rfl,(Sub.refl _)⟩
     refine Goes.skip ?_;obtain rfl:=si g15;exact⟨rfl,_,_,_,_,rfl,(Sub.keep [1,2,4,5] rfl rfl)⟩
    rintro x s' ⟨rfl,o,p,q,r,rfl,hsub⟩
    try dsimp only at g9
    refine Goes.sub hsub ?_;refine gh fol ((1,.i (qC .i64 b 1))::(kU (kAe []))) ?_;exact⟨M,(ofG 23 ((1,.i (qC .i64 b 1))::(kU (kAe []))),[.cells (ni1 o p),bZ,.cells (ni1 q r)]),Nat.lt_succ_self _,(Sub.refl _),_,_,_,_,_,rfl,g9⟩
   refine Goes.exit ?_;obtain rfl:=si g9;exact⟨rfl,_,_,rfl,(Sub.norm [] [some 1,some 2] rfl rfl (.drop (.drop (.kp (.kp .nil)))) (.kb rfl (.same sn) (.kb rfl (.same sn) .nil)))⟩
 rintro x s' ⟨rfl,g,j,rfl,hsub⟩
 try dsimp only at h
 refine Goes.sub hsub ?_;refine sq (gq fol [1] (kAa []) [.cells (ni1 g j),.cells (ni1 g j)] (ac (hs (.run [0] (qx ZT 98 (.ptr 0 0) (.agg (ni1 g j))) [bZ,.cells (ni1 g j)] .undef [.cells (ni1 g j),.cells (ni1 g j)] true) (kg (n:=2) (by kernel_rfl) rfl rfl rfl rfl (cac rfl (cac nvc can)) rfl)) az) ?_);refine Goes.ret ?_;obtain rfl:=si h;exact(gw2 [.agg (ni1 g j)] (FzW.agg (qj.cons (Ua tI) (qj.cons (Ua (qE ZU _ (nl rfl))) qj.nil))))
def xU (N:Nat):Nat->Int->(List Int)->Str->Option (Int×(List Int))
 |0,_,_,_=>none
 |K+1,j,k,a=>
  if(a.length:Int)>0 then
  (cut a 0 (if(a.length:Int)<18 then(a.length:Int)else 18)).bind fun c=>
  (qlc c).bind fun d=>
  (qcK 10).bind fun e=>
  (qb7 N e (if(a.length:Int)<18 then(a.length:Int)else 18)).bind fun f=>
  (qN N (⟨j,k⟩:qp) f).bind fun g=>
  (qcK d.1).bind fun h=>
  (yl N g h).bind fun b=>
  (cut a (if(a.length:Int)<18 then(a.length:Int)else 18) (a.length:Int)).bind fun i=>
  xU N K b.s b.w i
  else
  some (j,k)
def qbv (N:Nat) (b:Str):Option qp:=
 (strings_HasPrefix b [45]).bind fun e=>
 (strings_TrimPrefix b [45]).bind fun f=>
 (xU N N 0 [] f).bind fun(c,d)=>
 if e=true then
 (zS (⟨c,d⟩:qp)).bind fun a=>
 some a
 else
 some (⟨c,d⟩:qp)
theorem qb6 (N:Nat) (g:Str) {res:qp} (h:qbv N g=some res):qd ZT (.fn 116) [.str g] [] (.agg (nz1 res)) []:=by
 unfold qbv at h;refine Ub Tryz.func116 rfl rfl (m:=41) rfl (rs:=[.cell 2 98]) rfl (l:=(kAI g)) rfl ?_;refine sg fol (kA4 g (kU [])) [bZ] ?_;obtain⟨d,y,h⟩:=bnd h;refine sq (gr fol [1] (kA4 g (kU (kBR d []))) (ac (cv (qeK g [45] y)) az) ?_);obtain⟨J,z,h⟩:=bnd h;refine sq (gr fol [1] (kA4 J (kU (kBR d []))) (ac (cv (qbH g [45] z)) az) ?_);refine sg fol (kA4 J (kU (kA2 d []))) [bZ,bZ] ?_;refine sq (Goes.block ?_);obtain⟨K,g8,h⟩:=bnd h;refine Goes.imp (Q:=fun x s'=>(x= .exit 0/\ ∃b c,(b,c)=K/\Sub s' (ofG 41 (kU (kA2 d [])),[bZ,.cells (ni1 b c)]))) ?_ ?_
 ·refine Uc (fun M s=> ∃(A:Int) (B:List Int) (a:Str),s=(ofG 41 (kA4 a (kU (kA2 d []))),[bZ,.cells (ni1 A B)])/\xU N M A B a=some K) ?_ (m:=N) ⟨_,_,_,rfl,g8⟩;rintro M s ⟨A,B,a,rfl,g8⟩
  cases M with
  |zero=>simp only[xU]at g8;cases g8
  |succ M=>
   rw[xU]at g8;refine sq ?_;refine sh fol (kA4 a (kU (kA2 d [(15,.bool (decide ((a.length:Int)>0)))]))) ?_;refine ihD g8 (fun L g8=>?_) (fun L g8=>?_)
   ·refine Goes.skip ?_;refine Goes.block ?_;refine sh fol (kA4 a (kU (kA2 d (kA8 (if(a.length:Int)<18 then(a.length:Int)else 18))))) ?_;obtain⟨C,j,g8⟩:=bnd g8;obtain⟨D,k,g8⟩:=bnd g8;refine sq (gr fol [2,3] (kA4 a (kU (kA2 d [(5,.i (if(a.length:Int)<18 then(a.length:Int)else 18)),(6,.i D.1)]))) (ac (hs (.done (.opt (kr ZT 9 (.str a) none (some (.i (if(a.length:Int)<18 then(a.length:Int)else 18))) none)) (.str C)) (jA st9 none (some (if(a.length:Int)<18 then(a.length:Int)else 18)) j)) (ac (cv (qoi C k)) az)) ?_);obtain⟨E,o,g8⟩:=bnd g8;obtain⟨F,p,g8⟩:=bnd g8;obtain⟨G,q,g8⟩:=bnd g8;obtain⟨H,r,g8⟩:=bnd g8;obtain⟨e,t,g8⟩:=bnd g8;refine sq (gq fol [1,3,4,6,7,8] (kA4 a (kU (kA2 d (kA8 (if(a.length:Int)<18 then(a.length:Int)else 18))))) [bZ,.cells (nz1 e)] (ac (cv (qbQ 10 o)) (ac (cv (qhT N E (if(a.length:Int)<18 then(a.length:Int)else 18) p)) (ac (cv (jk N (⟨A,B⟩:qp) F q)) (ac (cv (qbQ D.1 r)) (ac (cv (qaz N G H t)) (ac (hs (.run [1] (qx ZT 98 (.ptr 1 0) (.agg (nz1 e))) [bZ,.cells (ni1 A B)] .undef [bZ,.cells (nz1 e)] true) (kg (n:=2) (by kernel_rfl) rfl rfl rfl rfl (cac rfl (cac nvc can)) rfl)) az)))))) ?_);obtain⟨u,v,g8⟩:=bnd g8;refine gr fol [2] (kA4 u (kU (kA2 d []))) (ac (hs (.done (.opt (kr ZT 9 (.str a) (some (.i (if(a.length:Int)<18 then(a.length:Int)else 18))) none none)) (.str u)) (jA st9 (some (if(a.length:Int)<18 then(a.length:Int)else 18)) none v)) az) ?_;exact⟨M,(ofG 41 (kA4 u (kU (kA2 d []))),[bZ,.cells (nz1 e)]),Nat.lt_succ_self _,(Sub.refl _),_,_,_,rfl,g8⟩
   refine Goes.exit ?_;obtain rfl:=si g8;exact⟨rfl,_,_,rfl,(Sub.keep [2,3,4] rfl rfl)⟩
 rintro x s' ⟨rfl,b,c,rfl,hsub⟩
 try dsimp only at h
 refine Goes.sub hsub ?_;refine sq ?_;refine sh fol (kU [(4,.ptr 1 0),(37,.bool d)]) ?_;refine ihB h (fun I h=>?_) (fun I h=>?_)
 ·obtain⟨f,w,h⟩:=bnd h;refine sq (gq fol [1,2] (kU []) [.cells (nz1 f),.cells (ni1 b c)] (ac (cv (yf (⟨b,c⟩:qp) w)) (ac (hs (.run [0] (qx ZT 98 (.ptr 0 0) (.agg (nz1 f))) [bZ,.cells (ni1 b c)] .undef [.cells (nz1 f),.cells (ni1 b c)] true) (kg (n:=2) (by kernel_rfl) rfl rfl rfl rfl (cac rfl (cac nvc can)) rfl)) az)) ?_);refine Goes.ret ?_;obtain rfl:=si h;exact(gw2 [.agg (nz1 f)] (FzW.agg (qj.cons (Ua tI) (qj.cons (Ua (qE ZU _ (nl rfl))) qj.nil))))
 refine Goes.skip ?_;refine sq (gq fol [1] (kU []) [.cells (ni1 b c),.cells (ni1 b c)] (ac (hs (.run [0] (qx ZT 98 (.ptr 0 0) (.agg (ni1 b c))) [bZ,.cells (ni1 b c)] .undef [.cells (ni1 b c),.cells (ni1 b c)] true) (kg (n:=2) (by kernel_rfl) rfl rfl rfl rfl (cac rfl (cac nvc can)) rfl)) az) ?_);refine Goes.ret ?_;obtain rfl:=si h;exact(gw2 [.agg (ni1 b c)] (FzW.agg (qj.cons (Ua tI) (qj.cons (Ua (qE ZU _ (nl rfl))) qj.nil))))
def qbk (N:Nat) (a:qp) (b:qp):Option Int:=
 (if a.w.isEmpty=true then
 some b.w.isEmpty
 else
 some false:Option Bool).bind fun c=>
 if c=true then
 if a.s<b.s then
 some (-1)
 else
 if a.s>b.s then
 some 1
 else
 some 0
 else
 (xR N a b).bind fun d=>
 (zf d).bind fun e=>
 some e
theorem qeV (N:Nat) (a:qp) (b:qp) {res:Int} (h:qbk N a b=some res):qd ZT (.fn 117) [.agg (nz1 a),.agg (nz1 b)] [] (.i res) []:=by
 unfold qbk at h;refine Ub Tryz.func117 rfl rfl (m:=29) rfl (rs:=[.tmp 4]) rfl (l:=[(0,.agg (nz1 a)),(1,.agg (nz1 b))]) rfl ?_;refine sg fol (kU (kAV [])) [.cells (nz1 a),.cells (nz1 b)] ?_;refine sq ?_;refine sq ?_;obtain⟨j,c,h⟩:=bnd h;refine Goes.cut (s':=(ofG 29 (kU (kAV (kA0 j))),[.cells (nz1 a),.cells (nz1 b)])) ?_ ?_
 ·rcases wyB c with⟨f,c⟩|⟨f,c⟩
  ·obtain rfl:=si c;exact tr fol [2,3,6] (kU (kAV (kA0 b.w.isEmpty))) (ac (hs (.done (.opt (ze ZT .eql 96 (.tmp 6) (.const (.slice none 0 0)) (nvl ZU a.w) .nilslice)) (.bool a.w.isEmpty)) (qa7 qa2)) (ac (gw f) (ac (hs (.done (.opt (ze ZT .eql 96 (.tmp 10) (.const (.slice none 0 0)) (nvl ZU b.w) .nilslice)) (.bool b.w.isEmpty)) (qa7 qa2)) az)))
  obtain rfl:=si c;exact tr fol [2,3] (kU (kAV [(12,.bool false)])) (ac (hs (.done (.opt (ze ZT .eql 96 (.tmp 6) (.const (.slice none 0 0)) (nvl ZU a.w) .nilslice)) (.bool a.w.isEmpty)) (qa7 qa2)) (ac (gw f) az))
 refine ihB h (fun k h=>?_) (fun k h=>?_)
 ·refine sq (Goes.block ?_);refine sh fol (kU (kAV (kBE (decide (a.s<b.s))))) ?_;refine ihD h (fun n h=>?_) (fun n h=>?_)
  ·refine sh fol [(4,.i (-1))] ?_;refine Goes.ret ?_;obtain rfl:=si h;exact(gw2 [.i (-1)] (Ua tI))
  refine sh fol [(19,.bool (decide (a.s>b.s)))] ?_;refine ihD h (fun o h=>?_) (fun o h=>?_)
  ·refine sh fol [(4,.i 1)] ?_;refine Goes.ret ?_;obtain rfl:=si h;exact(gw2 [.i 1] (Ua tI))
  refine Goes.skip ?_;refine sh fol [(4,.i 0)] ?_;refine Goes.ret ?_;obtain rfl:=si h;exact(gw2 [.i 0] (Ua tI))
 refine Goes.skip ?_;obtain⟨p,d,h⟩:=bnd h;obtain⟨g,e,h⟩:=bnd h;refine sq (gr fol [2,3] (kBZ g) (ac (cv (qeN N a b d)) (ac (cv (y8 p e)) az)) ?_);refine Goes.ret ?_;obtain rfl:=si h;exact(gw2 [.i g] (Ua tI))
def vM (N:Nat) (a:Str):Option Int:=
 (strings_CutPrefix a [45]).bind fun r=>
 (strings_Cut r.1 [47]).bind fun b=>
 ((vH b.1).bind fun t=>
 if t=true then
 if(!r.2)=true then
 some true
 else
 some (!(b.1==[48]))
 else
 some false:Option Bool).bind fun s=>
 ((if b.2.2=true then
 (if s=true then
 (vH b.2.1).bind fun g=>
 if g=true then
 if(!(b.2.1==[48]))=true then
 some (!(b.2.1==[49]))
 else
 some false
 else
 some false
 else
 some false:Option Bool).bind fun h=>
 some h
 else
 some s:Option Bool)).bind fun u=>
 ((zT (!u) 1).bind fun c=>
 if(b.1.length:Int)>600 then
 (zT true 4).bind fun d=>
 (xg N ([c,d]:List Int)).bind fun i=>
 some (c,d,i)
 else
 (zT (decide ((b.2.1.length:Int)>600)) 4).bind fun e=>
 (xg N ([c,e]:List Int)).bind fun j=>
 some (c,e,j):Option (Int×Int×Int)).bind fun(v,w,f)=>
 if(!decide (f=0))=true then
 some f
 else
 (if b.2.2=true then
 (qbv N b.1).bind fun k=>
 (qbv N b.2.1).bind fun l=>
 (qdj N k l).bind fun m=>
 (qcK 1).bind fun n=>
 (qbk N m n).bind fun o=>
 some (!decide (o=0))
 else
 some false:Option Bool).bind fun p=>
 (zT p 1).bind fun q=>
 some q
theorem qcg (N:Nat) (a:Str) {res:Int} (h:vM N a=some res):qd ZT (.fn 47) [.str a] [] (.i res) []:=by
 unfold vM at h;refine Ub Tryz.func47 rfl rfl (m:=76) rfl (rs:=[.tmp 2]) rfl (l:=(kAI a)) rfl ?_;refine sh fol (kAI a) ?_;obtain⟨V,H,h⟩:=bnd h;refine sq (gr fol [1] ((3,.str V.1)::(kBQ V.2)) (ac (cv (qe2 a [45] H)) az) ?_);obtain⟨e,I,h⟩:=bnd h;refine sq (gr fol [1] ((4,.bool V.2)::(kAG e.1 e.2.1 e.2.2 [])) (ac (cv (qeL V.1 [47] I)) az) ?_);refine sq ?_;obtain⟨b6,f,h⟩:=bnd h;refine Goes.cut (s':=(ofG 76 (kAG e.1 e.2.1 e.2.2 (kBY b6)),[])) ?_ ?_
 ·obtain⟨r3,k,f⟩:=bnd f;rcases wyB f with⟨X,f⟩|⟨X,f⟩
  ·rcases wyB f with⟨Y,f⟩|⟨Y,f⟩
   ·obtain rfl:=si f;exact tr fol [1,2,5] (kAG e.1 e.2.1 e.2.2 [(8,.bool true)]) (ac (cv (jU e.1 k)) (ac (gw X) (ac (gw Y) az)))
   obtain rfl:=si f;exact tr fol [1,2,5] (kAG e.1 e.2.1 e.2.2 (kBY (!(e.1==[48])))) (ac (cv (jU e.1 k)) (ac (gw X) (ac (gw Y) az)))
  obtain rfl:=si f;exact tr fol [1,2] (kAG e.1 e.2.1 e.2.2 [(8,.bool false)]) (ac (cv (jU e.1 k)) (ac (gw X) az))
 refine sq ?_;refine sh fol (kAG e.1 e.2.1 e.2.2 [(8,.bool b6),(32,.bool e.2.2)]) ?_;obtain⟨r9,g9,h⟩:=bnd h;refine Goes.imp (Q:=fun x s'=>(x= .normal/\ ∃J,J=r9/\Sub s' (ofG 76 (kAG e.1 e.2.1 e.2.2 (kBY J)),[]))) ?_ ?_
 ·refine ihB g9 (fun Z g9=>?_) (fun Z g9=>?_)
  ·obtain⟨a0,c,g9⟩:=bnd g9;refine Goes.cut (s':=(ofG 76 (kAG e.1 e.2.1 e.2.2 (kBY a0)),[])) ?_ ?_
   ·rcases wyB c with⟨n,c⟩|⟨n,c⟩
    ·obtain⟨r12,j,c⟩:=bnd c;rcases wyB c with⟨q,c⟩|⟨q,c⟩
     ·rcases wyB c with⟨t,c⟩|⟨t,c⟩
      ·obtain rfl:=si c;exact tr fol [1,3,5,9] (kAG e.1 e.2.1 e.2.2 (kBY (!(e.2.1==[49])))) (ac (gw n) (ac (cv (jU e.2.1 j)) (ac (gw q) (ac (gw t) az))))
      obtain rfl:=si c;exact tr fol [1,3,5,9] (kAG e.1 e.2.1 e.2.2 [(8,.bool false)]) (ac (gw n) (ac (cv (jU e.2.1 j)) (ac (gw q) (ac (gw t) az))))
     obtain rfl:=si c;exact tr fol [1,3,5] (kAG e.1 e.2.1 e.2.2 [(8,.bool false)]) (ac (gw n) (ac (cv (jU e.2.1 j)) (ac (gw q) az)))
    obtain rfl:=si c;exact tr fol [1] (kAG e.1 e.2.1 e.2.2 [(8,.bool false)]) (ac (gw n) az)
   obtain rfl:=si g9;exact⟨rfl,_,rfl,(Sub.refl _)⟩
  refine Goes.skip ?_;obtain rfl:=si g9;exact⟨rfl,_,rfl,(Sub.keep [5,6,7,8] rfl rfl)⟩
 rintro x s' ⟨rfl,J,rfl,hsub⟩;refine Goes.sub hsub ?_;refine sq ?_;refine sq ?_;obtain⟨⟨K,L,o⟩,b,h⟩:=bnd h;refine Goes.cut (s':=(ofG 76 (kAG e.1 e.2.1 e.2.2 [(9,.i o)]),(kAx K L))) ?_ ?_
 ·obtain⟨g,p,b⟩:=bnd b;rcases wyD b with⟨u,b⟩|⟨u,b⟩
  ·obtain⟨r,v,b⟩:=bnd b;obtain⟨M,w,b⟩:=bnd b;simp only[ZI,ZP]at b;obtain⟨rfl,rfl,rfl⟩:=b;exact qaO.rq fol [2,6,11,13] (kAG e.1 e.2.1 e.2.2 [(9,.i M)]) (kAx g r) (ac (cv (qaN (!J) 1 p)) (ac (gw u) (ac (cv (qaN true 4 v)) (ac (hs (.call 113 [.slice 0 0 2 2 1] (kAx g r) [0] [vl encI ([g,r]:List Int)] (.i M)) (qeo (FzL.cons (Fz.lit rfl rfl (Ue (AllST.cons tI (AllST.cons tI AllST.nil)))) FzL.nil) (qeq N ([g,r]:List Int) w) tI rfl)) az))))
  obtain⟨s,y,b⟩:=bnd b;obtain⟨O,z,b⟩:=bnd b;simp only[ZI,ZP]at b;obtain⟨rfl,rfl,rfl⟩:=b;exact qaO.rq fol [2,6,11,13] (kAG e.1 e.2.1 e.2.2 [(9,.i O)]) (kAx g s) (ac (cv (qaN (!J) 1 p)) (ac (gw u) (ac (cv (qaN (decide ((e.2.1.length:Int)>600)) 4 y)) (ac (hs (.call 113 [.slice 0 0 2 2 1] (kAx g s) [0] [vl encI ([g,s]:List Int)] (.i O)) (qeo (FzL.cons (Fz.lit rfl rfl (Ue (AllST.cons tI (AllST.cons tI AllST.nil)))) FzL.nil) (qeq N ([g,s]:List Int) z) tI rfl)) az))))
 try dsimp only at h
 refine sh fol (kAG e.1 e.2.1 e.2.2 [(9,.i o),(61,.bool (!decide (o=0)))]) ?_;refine ihB h (fun a1 h=>?_) (fun a1 h=>?_)
 ·refine sh fol (kBA o) ?_;refine Goes.ret ?_;obtain rfl:=si h;exact(gw2 [.i o] (Ua tI))
 refine Goes.skip ?_;refine sq ?_;obtain⟨P,d,h⟩:=bnd h;refine Goes.cut (s':=(ofG 76 [(10,.bool P)],(kAx K L))) ?_ ?_
 ·rcases wyB d with⟨A,d⟩|⟨A,d⟩
  ·obtain⟨a2,B,d⟩:=bnd d;obtain⟨a3,C,d⟩:=bnd d;obtain⟨a4,D,d⟩:=bnd d;obtain⟨a5,E,d⟩:=bnd d;obtain⟨a6,F,d⟩:=bnd d;obtain rfl:=si d;exact tr fol [1,3,5,6,7,8] [(10,.bool (!decide (a6=0)))] (ac (gw A) (ac (cv (qb6 N e.1 B)) (ac (cv (qb6 N e.2.1 C)) (ac (cv (qii N a2 a3 D)) (ac (cv (qbQ 1 E)) (ac (cv (qeV N a4 a5 F)) az))))))
  obtain rfl:=si d;exact tr fol [1] [(10,.bool false)] (ac (gw A) az)
 obtain⟨U,G,h⟩:=bnd h;refine sq (gr fol [1] (kBA U) (ac (cv (qaN P 1 G)) az) ?_);refine Goes.ret ?_;obtain rfl:=si h;exact(gw2 [.i U] (Ua tI))
def qbL (n:qp):Option qD:=
 (qcK 1).bind fun a=>
 some (⟨n,a⟩:qD)
theorem qej (n:qp) {res:qD} (h:qbL n=some res):qd ZT (.fn 120) [.agg (nz1 n)] [] (.agg (nq1 res)) []:=by
 unfold qbL at h;refine Ub Tryz.func120 rfl rfl (m:=6) rfl (rs:=[.cell 2 100]) rfl (l:=[(0,.agg (nz1 n))]) rfl ?_;refine sg fol (kX kAp) (.cells (nz1 n)::(kC [])) ?_;obtain⟨a,b,h⟩:=bnd h;refine sq (gq fol [1,3] kAp [.cells (nz1 n),.cells (ni2 n.s n.w a.s a.w)] (ac (cv (qbQ 1 b)) (ac (hs (.run [1] (qx ZT 100 (.ptr 1 0) (.agg (ni2 n.s n.w a.s a.w))) (.cells (nz1 n)::(kC [])) .undef [.cells (nz1 n),.cells (ni2 n.s n.w a.s a.w)] true) (kg (n:=4) (by kernel_rfl) rfl rfl rfl rfl (cac rfl (cac nvc (cac rfl (cac nvc can)))) rfl)) az)) ?_);refine Goes.ret ?_;obtain rfl:=si h;exact(gw2 [.agg (ni2 n.s n.w a.s a.w)] (FzW.agg (qj.cons (Ua tI) (qj.cons (Ua (qE ZU _ (nl rfl))) (qj.cons (Ua tI) (qj.cons (Ua (qE ZU _ (nl rfl))) qj.nil))))))
def jH (N:Nat) (a:Str):Option qD:=
 (strings_Cut a [47]).bind fun b=>
 if(!b.2.2)=true then
 (qbv N b.1).bind fun c=>
 (qbL c).bind fun d=>
 some d
 else
 (qbv N b.1).bind fun e=>
 (qbv N b.2.1).bind fun f=>
 some (⟨e,f⟩:qD)
theorem jZ (N:Nat) (a:Str) {res:qD} (h:jH N a=some res):qd ZT (.fn 49) [.str a] [] (.agg (nq1 res)) []:=by
 unfold jH at h;refine Ub Tryz.func49 rfl rfl (m:=22) rfl (rs:=[.cell 2 100]) rfl (l:=(kAI a)) rfl ?_;refine sg fol (kA4 a (kU [])) (kC []) ?_;obtain⟨b,e,h⟩:=bnd h;refine sq (gr fol [1] (kU [(3,.str b.1),(4,.str b.2.1),(5,.bool b.2.2)]) (ac (cv (qeL a [47] e)) az) ?_);refine sq ?_;refine sh fol (kU ((3,.str b.1)::(4,.str b.2.1)::(kBE (!b.2.2)))) ?_;refine ihB h (fun o h=>?_) (fun o h=>?_)
 ·obtain⟨p,f,h⟩:=bnd h;obtain⟨k,g,h⟩:=bnd h;refine sq (gq fol [1,2,3] (kU []) [.cells (nq1 k)] (ac (cv (qb6 N b.1 f)) (ac (cv (qej p g)) (ac (hs (.run [0] (qx ZT 100 (.ptr 0 0) (.agg (nq1 k))) (kC []) .undef [.cells (nq1 k)] true) (kg (n:=4) (by kernel_rfl) rfl rfl rfl rfl (cac rfl (cac nvc (cac rfl (cac nvc can)))) rfl)) az))) ?_);refine Goes.ret ?_;obtain rfl:=si h;exact(gw2 [.agg (nq1 k)] (FzW.agg (qj.cons (Ua tI) (qj.cons (Ua (qE ZU _ (nl rfl))) (qj.cons (Ua tI) (qj.cons (Ua (qE ZU _ (nl rfl))) qj.nil))))))
 refine Goes.skip ?_;obtain⟨c,i,h⟩:=bnd h;obtain⟨d,j,h⟩:=bnd h;refine sq (gq fol [1,3,5] (kU []) [.cells (ni2 c.s c.w d.s d.w)] (ac (cv (qb6 N b.1 i)) (ac (cv (qb6 N b.2.1 j)) (ac (hs (.run [0] (qx ZT 100 (.ptr 0 0) (.agg (ni2 c.s c.w d.s d.w))) (kC []) .undef [.cells (ni2 c.s c.w d.s d.w)] true) (kg (n:=4) (by kernel_rfl) rfl rfl rfl rfl (cac rfl (cac nvc (cac rfl (cac nvc can)))) rfl)) az))) ?_);refine Goes.ret ?_;obtain rfl:=si h;exact(gw2 [.agg (ni2 c.s c.w d.s d.w)] (FzW.agg (qj.cons (Ua tI) (qj.cons (Ua (qE ZU _ (nl rfl))) (qj.cons (Ua tI) (qj.cons (Ua (qE ZU _ (nl rfl))) qj.nil))))))
def qal (a:qD):Option Int:=
 (zf a.Num).bind fun b=>
 some b
theorem qdF (a:qD) {res:Int} (h:qal a=some res):qd ZT (.fn 122) [.agg (nq1 a)] [] (.i res) []:=by
 unfold qal at h;refine Ub Tryz.func122 rfl rfl (m:=6) rfl (rs:=[.tmp 2]) rfl (l:=[(0,.agg (nq1 a))]) rfl ?_;refine sg fol (kX []) [.cells (nq1 a)] ?_;obtain⟨c,b,h⟩:=bnd h;refine sq (gr fol [2] (kBA c) (ac (cv (y8 a.Num b)) az) ?_);refine Goes.ret ?_;obtain rfl:=si h;exact(gw2 [.i c] (Ua tI))
def qaM (N:Nat) (a:Str) (sign:Int):Option Int:=
 (vM N a).bind fun b=>
 if(!decide (b=0))=true then
 some b
 else
 (jH N a).bind fun c=>
 (qal c).bind fun d=>
 (kK (decide (d<sign)) 3).bind fun e=>
 some e
theorem qfH (N:Nat) (a:Str) (sign:Int) {res:Int} (h:qaM N a sign=some res):qd ZT (.fn 119) [.str a,.i sign] [] (.i res) []:=by
 unfold qaM at h;refine Ub Tryz.func119 rfl rfl (m:=17) rfl (rs:=[.tmp 4]) rfl (l:=(kA4 a [(1,.i sign)])) rfl ?_;refine sh fol (kA4 a [(1,.i sign)]) ?_;refine sq ?_;obtain⟨b,c,h⟩:=bnd h;refine sq (gr fol [1] (kA4 a ((1,.i sign)::(kA8 b))) (ac (cv (qcg N a c)) az) ?_);refine sh fol (kA4 a [(1,.i sign),(5,.i b),(9,.bool (!decide (b=0)))]) ?_;refine ihB h (fun j h=>?_) (fun j h=>?_)
 ·refine sh fol (kBZ b) ?_;refine Goes.ret ?_;obtain rfl:=si h;exact(gw2 [.i b] (Ua tI))
 refine Goes.skip ?_;obtain⟨k,d,h⟩:=bnd h;obtain⟨n,e,h⟩:=bnd h;obtain⟨g,f,h⟩:=bnd h;refine sq (gr fol [1,2,5] (kBZ g) (ac (cv (jZ N a d)) (ac (cv (qdF k e)) (ac (cv (xk (decide (n<sign)) 3 f)) az))) ?_);refine Goes.ret ?_;obtain rfl:=si h;exact(gw2 [.i g] (Ua tI))
def jl (N:Nat) (a:Str):Option Int:=
 (qaM N a 1).bind fun b=>
 some b
theorem qdz (N:Nat) (a:Str) {res:Int} (h:jl N a=some res):qd ZT (.fn 48) [.str a] [] (.i res) []:=by
 unfold jl at h;refine Ub Tryz.func48 rfl rfl (m:=5) rfl (rs:=[.tmp 2]) rfl (l:=(kAI a)) rfl ?_;refine sh fol (kAI a) ?_;obtain⟨c,b,h⟩:=bnd h;refine sq (gr fol [1] (kBA c) (ac (cv (qfH N a 1 b)) az) ?_);refine Goes.ret ?_;obtain rfl:=si h;exact(gw2 [.i c] (Ua tI))
def yD (N:Nat) (a:qD) (b:qD):Option Int:=
 (qN N a.Num b.Den).bind fun c=>
 (qN N b.Num a.Den).bind fun d=>
 (qbk N c d).bind fun e=>
 some e
theorem qci (N:Nat) (a:qD) (b:qD) {res:Int} (h:yD N a b=some res):qd ZT (.fn 50) [.agg (nq1 a),.agg (nq1 b)] [] (.i res) []:=by
 unfold yD at h;refine Ub Tryz.func50 rfl rfl (m:=16) rfl (rs:=[.tmp 4]) rfl (l:=[(0,.agg (nq1 a)),(1,.agg (nq1 b))]) rfl ?_;refine sg fol (kU (kAV [])) [.cells (nq1 a),.cells (nq1 b)] ?_;obtain⟨g,c,h⟩:=bnd h;obtain⟨j,d,h⟩:=bnd h;obtain⟨f,e,h⟩:=bnd h;refine sq (gr fol [4,9,10] (kBZ f) (ac (cv (jk N a.Num b.Den c)) (ac (cv (jk N b.Num a.Den d)) (ac (cv (qeV N g j e)) az))) ?_);refine Goes.ret ?_;obtain rfl:=si h;exact(gw2 [.i f] (Ua tI))
def jQ (N:Nat) (a:Str):Option Int:=
 (qaM N a 0).bind fun b=>
 some b
theorem qcc (N:Nat) (a:Str) {res:Int} (h:jQ N a=some res):qd ZT (.fn 79) [.str a] [] (.i res) []:=by
 unfold jQ at h;refine Ub Tryz.func79 rfl rfl (m:=5) rfl (rs:=[.tmp 2]) rfl (l:=(kAI a)) rfl ?_;refine sh fol (kAI a) ?_;obtain⟨c,b,h⟩:=bnd h;refine sq (gr fol [1] (kBA c) (ac (cv (qfH N a 0 b)) az) ?_);refine Goes.ret ?_;obtain rfl:=si h;exact(gw2 [.i c] (Ua tI))
def y9 (N:Nat) (p:zD) (before:List zD):Option Int:=
 (jQ N p.X).bind fun e=>
 (jQ N p.Y).bind fun f=>
 (zQ N ([e,f]:List Int)).bind fun d=>
 (if(!decide (d=0))=true then
 some true
 else
 some (decide ((before.length:Int)=0)):Option Bool).bind fun g=>
 if g=true then
 some d
 else
 (idx before (w64 ((before.length:Int)-1))).bind fun h=>
 (jH N p.X).bind fun i=>
 (jH N h.X).bind fun a=>
 (yD N i a).bind fun b=>
 (kK (decide (b<=0)) 11).bind fun c=>
 some c
theorem qfU (N:Nat) (p:zD) (before:List zD) {res:Int} (h:y9 N p before=some res):qd ZT (.fn 108) [.agg [.str p.X,.str p.Y],vl qh before] [] (.i res) []:=by
 unfold y9 at h;refine Ub Tryz.func108 rfl rfl (m:=38) rfl (rs:=[.tmp 4]) rfl (l:=[(0,.agg [.str p.X,.str p.Y]),(1,vl qh before)]) rfl ?_;refine sg fol ((1,vl qh before)::(kU [])) (kAC p.X p.Y []) ?_;refine sq ?_;obtain⟨g,j,h⟩:=bnd h;obtain⟨k,n,h⟩:=bnd h;obtain⟨c,o,h⟩:=bnd h;refine sq (gq fol [2,5,7] ((1,vl qh before)::(kU (kA8 c))) (kAC p.X p.Y (kAx g k)) (ac (cv (qcc N p.X j)) (ac (cv (qcc N p.Y n)) (ac (hs (.call 41 [.slice 1 0 2 2 1] (kAC p.X p.Y (kAx g k)) [1] [vl encI ([g,k]:List Int)] (.i c)) (qeo (FzL.cons (Fz.lit rfl rfl (Ue (AllST.cons tI (AllST.cons tI AllST.nil)))) FzL.nil) (qao N ([g,k]:List Int) o) tI rfl)) az))) ?_);refine sq ?_;obtain⟨w,a,h⟩:=bnd h;refine Goes.cut (s':=(ofG 38 ((1,vl qh before)::(kU [(5,.i c),(21,.bool w)])),(kAC p.X p.Y (kAx g k)))) ?_ ?_
 ·rcases wyB a with⟨s,a⟩|⟨s,a⟩
  ·obtain rfl:=si a;exact tr fol [2] ((1,vl qh before)::(kU [(5,.i c),(21,.bool true)])) (ac (gw s) az)
  obtain rfl:=si a;exact tr fol [2] ((1,vl qh before)::(kU [(5,.i c),(21,.bool (decide ((before.length:Int)=0)))])) (ac (gw s) az)
 refine ihB h (fun x h=>?_) (fun x h=>?_)
 ·refine sh fol (kBZ c) ?_;refine Goes.ret ?_;obtain rfl:=si h;exact(gw2 [.i c] (Ua tI))
 refine Goes.skip ?_;obtain⟨v,b,h⟩:=bnd h;refine sq (gr fol [4,6] (kU [(6,.str v.X)]) (ac (iv qee qh b) (ac (lv 0 qiJ qh b rfl) az)) ?_);obtain⟨y,q,h⟩:=bnd h;obtain⟨t,d,h⟩:=bnd h;obtain⟨u,e,h⟩:=bnd h;obtain⟨r,f,h⟩:=bnd h;refine sq (gr fol [2,4,5,7] (kBZ r) (ac (cv (jZ N p.X q)) (ac (cv (jZ N v.X d)) (ac (cv (qci N y t e)) (ac (cv (xk (decide (u<=0)) 11 f)) az)))) ?_);refine Goes.ret ?_;obtain rfl:=si h;exact(gw2 [.i r] (Ua tI))
def vL (N:Nat) (a:Str):Option Int:=
 (if(!(a==[]))=true then
 (qak N a).bind fun b=>
 (kK (!b) 8).bind fun c=>
 some c
 else
 (kK false 8).bind fun d=>
 some d:Option Int).bind fun e=>
 some e
theorem qgL (N:Nat) (b:Str) {res:Int} (h:vL N b=some res):qd ZT (.fn 109) [.str b] [] (.i res) []:=by
 unfold vL at h;refine Ub Tryz.func109 rfl rfl (m:=11) rfl (rs:=[.tmp 2]) rfl (l:=(kAI b)) rfl ?_;refine sh fol (kAI b) ?_;refine sq ?_;obtain⟨g,a,h⟩:=bnd h;refine Goes.cut (s':=(ofG 11 (kBA g),[])) ?_ ?_
 ·rcases wyB a with⟨f,a⟩|⟨f,a⟩
  ·obtain⟨j,c,a⟩:=bnd a;obtain⟨k,d,a⟩:=bnd a;obtain rfl:=si a;exact tr fol [2,4,7] (kBA k) (ac (gw f) (ac (cv (qdw N b c)) (ac (cv (xk (!j) 8 d)) az)))
  obtain⟨n,e,a⟩:=bnd a;obtain rfl:=si a;exact tr fol [2,7] (kBA n) (ac (gw f) (ac (cv (xk false 8 e)) az))
 refine Goes.ret ?_;obtain rfl:=si h;exact(gw2 [.i g] (Ua tI))
def qF (N:Nat) (a:List zD):Nat->Int->Option (Unit⊕Int)
 |0,_=>none
 |K+1,b=>
  if b<(a.length:Int)then
  (idx a b).bind fun d=>
  (cut a 0 b).bind fun e=>
  (y9 N d e).bind fun c=>
  if(!decide (c=0))=true then
  some (.inr c)
  else
  qF N a K (w64 (b+1))
  else
  some (.inl ())
def zM (N:Nat) (a:List zD) (b:Int):Option Int:=
 if(a.length:Int)>b then
 some 5
 else
 (qF N a N 0).bind (fun
 |(.inl ())=>
 some 0
 |(.inr c)=>
 some c)
theorem qeA (N:Nat) (a:List zD) (c:Int) {res:Int} (h:zM N a c=some res):qd ZT (.fn 107) [vl qh a,.i c,.func (.func 108) [] []] [] (.i res) []:=by
 unfold zM at h;refine Ub Tryz.func107 rfl rfl (m:=31) rfl (rs:=[.tmp 6]) rfl (l:=(kBS a [(1,.i c),(2,.func (.func 108) [] [])])) rfl ?_;refine sh fol (kBS a [(1,.i c),(2,.func (.func 108) [] [])]) ?_;refine sq ?_;refine sh fol (kBS a ((2,.func (.func 108) [] [])::(kBE (decide ((a.length:Int)>c))))) ?_;refine ihD h (fun p h=>?_) (fun p h=>?_)
 ·refine sh fol [(6,.i 5)] ?_;refine Goes.ret ?_;obtain rfl:=si h;exact(gw2 [.i 5] (Ua tI))
 refine Goes.skip ?_;refine sq ?_;refine sh fol (kBS a [(2,.func (.func 108) [] []),(14,vl qh a),(15,.i (a.length:Int)),(16,.i 0)]) ?_;refine Goes.block ?_;obtain⟨j,g3,h⟩:=bnd h;refine Goes.imp (Q:=fun x s'=>(x= .exit 0/\(.inl ())=j/\Sub s' (ofG 31 [],[]))\/(x= .ret/\ ∃n,(.inr n)=j/\jb ZT [.tmp 6] (.i n) .ret s')) ?_ ?_
 ·refine Uc (fun M s=> ∃(b:Int),s=(ofG 31 (kBS a ((2,.func (.func 108) [] [])::(14,vl qh a)::(kAS (a.length:Int) b []))),[])/\qF N a M b=some j) ?_ (m:=N) ⟨_,rfl,g3⟩;rintro M s ⟨b,rfl,g3⟩
  cases M with
  |zero=>simp only[qF]at g3;cases g3
  |succ M=>
   rw[qF]at g3;refine sh fol (kBS a ((2,.func (.func 108) [] [])::(14,vl qh a)::(kAS (a.length:Int) b [(17,.bool (decide (b<(a.length:Int))))]))) ?_;refine sq ?_;refine ihD g3 (fun q g3=>?_) (fun q g3=>?_)
   ·refine Goes.skip ?_;refine sq (Goes.block ?_);obtain⟨k,d,g3⟩:=bnd g3;refine sq (gq fol [1,2] (kBS a ((2,.func (.func 108) [] [])::(7,.i b)::(kBU ((14,vl qh a)::(kAS (a.length:Int) b []))))) (kAC k.X k.Y []) (ac (iv qee qh d) (ac (la qmm qh d) az)) ?_);obtain⟨o,e,g3⟩:=bnd g3;obtain⟨f,g,g3⟩:=bnd g3;refine sq (gr fol [4,5] (kBS a ((2,.func (.func 108) [] [])::(9,.i f)::(14,vl qh a)::(kAS (a.length:Int) b []))) (ac (hs (.done (.opt (kr ZT 30 (vl qh a) none (some (.i b)) none)) (vl qh o)) (qjo qee (E:=qh) rfl none (some b) e)) (ac (cv (qfU N k o g)) az)) ?_);refine sh fol (kBS a ((2,.func (.func 108) [] [])::(9,.i f)::(14,vl qh a)::(kAS (a.length:Int) b [(28,.bool (!decide (f=0)))]))) ?_;refine ihB g3 (fun r g3=>?_) (fun r g3=>?_)
    ·refine sh fol [(6,.i f)] ?_;refine Goes.ret ?_;obtain rfl:=si g3;exact Or.inr (⟨rfl,_,rfl,(gw2 [.i f] (Ua tI))⟩)
    refine Goes.skip ?_;refine gh fol (kBS a ((2,.func (.func 108) [] [])::(14,vl qh a)::(kAS (a.length:Int) (w64 (b+1)) []))) ?_;exact⟨M,(ofG 31 (kBS a ((2,.func (.func 108) [] [])::(14,vl qh a)::(kAS (a.length:Int) (w64 (b+1)) []))),[]),Nat.lt_succ_self _,(Sub.norm [] [] rfl rfl (.keep (.same (qg qh _)) (.keep (.same (qG.func sn sn)) (.keep (.same (qg qh _)) (.keep (.same nI) (.keep (.same nI) .nil))))) .nil),_,rfl,g3⟩
   refine Goes.exit ?_;obtain rfl:=si g3;exact Or.inl (⟨rfl,rfl,(Sub.keep [] rfl rfl)⟩)
 rintro x s' (⟨rfl,rfl,hsub⟩|⟨rfl,t,rfl,hret⟩)
 ·try dsimp only at h
  refine Goes.sub hsub ?_;refine sh fol [(6,.i 0)] ?_;refine Goes.ret ?_;obtain rfl:=si h;exact(gw2 [.i 0] (Ua tI))
 try dsimp only at h
 obtain rfl:=si h;exact hret
def zR (N:Nat) (y:qw):Option Int:=
 (yN N y.Name).bind fun a=>
 (jl N y.Density).bind fun b=>
 (vM N y.Twist).bind fun c=>
 (kK (decide ((y.Strength.length:Int)=0)) 12).bind fun d=>
 (zM N y.Strength 256).bind fun e=>
 (vL N y.Dye).bind fun f=>
 (zQ N ([a,b,c,d,e,f]:List Int)).bind fun g=>
 some g
theorem qdk (N:Nat) (y:qw) {res:Int} (h:zR N y=some res):qd ZT (.fn 46) [.agg [.str y.Name,.str y.Density,.str y.Twist,vl qh y.Strength,.str y.Dye]] [] (.i res) []:=by
 unfold zR at h;refine Ub Tryz.func46 rfl rfl (m:=25) rfl (rs:=[.tmp 2]) rfl (l:=(kAf y.Name y.Density y.Twist y.Strength y.Dye [])) rfl ?_;refine sg fol (kX []) (kB y.Name y.Density y.Twist y.Strength y.Dye []) ?_;obtain⟨k,a,h⟩:=bnd h;obtain⟨n,b,h⟩:=bnd h;obtain⟨o,c,h⟩:=bnd h;obtain⟨p,d,h⟩:=bnd h;obtain⟨e,f,h⟩:=bnd h;obtain⟨q,g,h⟩:=bnd h;obtain⟨r,j,h⟩:=bnd h;refine sq (gq fol [2,5,8,13,16,19,21] (kBA r) (kB y.Name y.Density y.Twist y.Strength y.Dye [.cells [.i k,.i n,.i o,.i p,.i e,.i q]]) (ac (cv (qfz N y.Name a)) (ac (cv (qdz N y.Density b)) (ac (cv (qcg N y.Twist c)) (ac (cv (xk (decide ((y.Strength.length:Int)=0)) 12 d)) (ac (hs (.call 107 [vl qh y.Strength,.i 256,.func (.func 108) [] []] [] [] [vl qh y.Strength,.i 256,.func (.func 108) [] []] (.i e)) (qoT (FzL.cons (Uf (qA qh _ (nl rfl))) (FzL.cons (Uf tI) (FzL.cons (Fz.func FzL.nil FzL.nil) FzL.nil))) (qeA N y.Strength 256 f) tI)) (ac (cv (qgL N y.Dye g)) (ac (hs (.call 41 [.slice 1 0 6 6 1] (kB y.Name y.Density y.Twist y.Strength y.Dye [.cells [.i k,.i n,.i o,.i p,.i e,.i q]]) [1] [vl encI ([k,n,o,p,e,q]:List Int)] (.i r)) (qeo (FzL.cons (Fz.lit rfl rfl (Ue (AllST.cons tI (AllST.cons tI (AllST.cons tI (AllST.cons tI (AllST.cons tI (AllST.cons tI AllST.nil)))))))) FzL.nil) (qao N ([k,n,o,p,e,q]:List Int) j) tI rfl)) az))))))) ?_);refine Goes.ret ?_;obtain rfl:=si h;exact(gw2 [.i r] (Ua tI))
def qdm (N:Nat) (y:qw) (b:List qw):Option Int:=
 (zR N y).bind fun a=>
 some a
theorem qh2 (N:Nat) (y:qw) (b:List qw) {res:Int} (h:qdm N y b=some res):qd ZT (.fn 45) (kAj y.Name y.Density y.Twist y.Strength y.Dye [vl qf b]) [] (.i res) []:=by
 unfold qdm at h;refine Ub Tryz.func45 rfl rfl (m:=7) rfl (rs:=[.tmp 4]) rfl (l:=(kAf y.Name y.Density y.Twist y.Strength y.Dye [(1,vl qf b)])) rfl ?_;refine sg fol (kU []) (kB y.Name y.Density y.Twist y.Strength y.Dye []) ?_;obtain⟨c,a,h⟩:=bnd h;refine sq (gr fol [1] (kBZ c) (ac (cv (qdk N y a)) az) ?_);refine Goes.ret ?_;obtain rfl:=si h;exact(gw2 [.i c] (Ua tI))
def qhd (n:Int):Option qD:=
 (qcK n).bind fun a=>
 (qbL a).bind fun b=>
 some b
theorem qgq (n:Int) {res:qD} (h:qhd n=some res):qd ZT (.fn 51) [.i n] [] (.agg (nq1 res)) []:=by
 unfold qhd at h;refine Ub Tryz.func51 rfl rfl (m:=6) rfl (rs:=[.cell 2 100]) rfl (l:=[(0,.i n)]) rfl ?_;refine sg fol ((0,.i n)::(kU [])) (kC []) ?_;obtain⟨d,a,h⟩:=bnd h;obtain⟨c,b,h⟩:=bnd h;refine sq (gq fol [1,2,3] (kU []) [.cells (nq1 c)] (ac (cv (qbQ n a)) (ac (cv (qej d b)) (ac (hs (.run [0] (qx ZT 100 (.ptr 0 0) (.agg (nq1 c))) (kC []) .undef [.cells (nq1 c)] true) (kg (n:=4) (by kernel_rfl) rfl rfl rfl rfl (cac rfl (cac nvc (cac rfl (cac nvc can)))) rfl)) az))) ?_);refine Goes.ret ?_;obtain rfl:=si h;exact(gw2 [.agg (nq1 c)] (FzW.agg (qj.cons (Ua tI) (qj.cons (Ua (qE ZU _ (nl rfl))) (qj.cons (Ua tI) (qj.cons (Ua (qE ZU _ (nl rfl))) qj.nil))))))
def qbz (a:qD):Option qD:=
 (zS a.Num).bind fun b=>
 some (⟨b,a.Den⟩:qD)
theorem qhk (a:qD) {res:qD} (h:qbz a=some res):qd ZT (.fn 123) [.agg (nq1 a)] [] (.agg (nq1 res)) []:=by
 unfold qbz at h;refine Ub Tryz.func123 rfl rfl (m:=9) rfl (rs:=[.cell 2 100]) rfl (l:=[(0,.agg (nq1 a))]) rfl ?_;refine sg fol (kX kAp) (.cells (nq1 a)::(kC [])) ?_;obtain⟨b,c,h⟩:=bnd h;refine sq (gq fol [2,6] kAp [.cells (nq1 a),.cells (ni2 b.s b.w a.Den.s a.Den.w)] (ac (cv (yf a.Num c)) (ac (hs (.run [1] (qx ZT 100 (.ptr 1 0) (.agg (ni2 b.s b.w a.Den.s a.Den.w))) (.cells (nq1 a)::(kC [])) .undef [.cells (nq1 a),.cells (ni2 b.s b.w a.Den.s a.Den.w)] true) (kg (n:=4) (by kernel_rfl) rfl rfl rfl rfl (cac rfl (cac nvc (cac rfl (cac nvc can)))) rfl)) az)) ?_);refine Goes.ret ?_;obtain rfl:=si h;exact(gw2 [.agg (ni2 b.s b.w a.Den.s a.Den.w)] (FzW.agg (qj.cons (Ua tI) (qj.cons (Ua (qE ZU _ (nl rfl))) (qj.cons (Ua tI) (qj.cons (Ua (qE ZU _ (nl rfl))) qj.nil))))))
def qQ (N:Nat) (y:qw) (k:Int) (l:List Int) (m:Int) (n:List Int):Nat->Int->(List Int)->Int->(List Int)->Int->Int->Option (Int×(List Int)×Int×(List Int)×Int)
 |0,_,_,_,_,_,_=>none
 |K+1,c,d,e,f,b,g=>
  if b<(y.Strength.length:Int)then
  (idx y.Strength b).bind fun h=>
  (jH N h.X).bind fun i=>
  (yD N i (⟨(⟨k,l⟩:qp),(⟨m,n⟩:qp)⟩:qD)).bind fun j=>
  if j>0 then
  some (c,d,e,f,g)
  else
  (jH N h.Y).bind fun a=>
  qQ N y k l m n K a.Num.s a.Num.w a.Den.s a.Den.w (w64 (b+1)) 0
  else
  some (c,d,e,f,g)
def vG (N:Nat) (y:qw) (twist:qD):Option (qD×Int):=
 (qal twist).bind fun h=>
 ((if h<0 then
 (qbz twist).bind fun a=>
 some (a.Num.s,a.Num.w,a.Den.s,a.Den.w)
 else
 some (twist.Num.s,twist.Num.w,twist.Den.s,twist.Den.w):Option (Int×(List Int)×Int×(List Int)))).bind fun(i,j,k,l)=>
 (qhd 0).bind fun b=>
 (qQ N y i j k l N b.Num.s b.Num.w b.Den.s b.Den.w 0 7).bind fun(c,d,e,f,g)=>
 some ((⟨(⟨c,d⟩:qp),(⟨e,f⟩:qp)⟩:qD),g)
theorem qbF (N:Nat) (y:qw) (twist:qD) {res:qD×Int} (h:vG N y twist=some res):qd ZT (.fn 52) (kAj y.Name y.Density y.Twist y.Strength y.Dye [.agg (nq1 twist)]) [] (.tuple [.agg (nq1 res.1),.i res.2]) []:=by
 unfold vG at h;refine Ub Tryz.func52 rfl rfl (m:=35) rfl (rs:=[.cell 4 100,.tmp 5]) rfl (l:=(kAf y.Name y.Density y.Twist y.Strength y.Dye [(1,.agg (nq1 twist))])) rfl ?_;refine sg fol (kF []) (kB y.Name y.Density y.Twist y.Strength y.Dye (.cells (nq1 twist)::(kC []))) ?_;refine Goes.scope ?_;refine sq ?_;obtain⟨P,D,h⟩:=bnd h;refine sq (gr fol [1] (kF (kA0 (decide (P<0)))) (ac (cv (qdF twist D)) az) ?_);obtain⟨U,g6,h⟩:=bnd h;refine Goes.imp (Q:=fun x s'=>(x= .normal/\ ∃g j k o,(g,j,k,o)=U/\Sub s' (ofG 35 (kF []),(kB y.Name y.Density y.Twist y.Strength y.Dye (.cells (ni2 g j k o)::(kC [])))))) ?_ ?_
 ·refine ihD g6 (fun V g6=>?_) (fun V g6=>?_)
  ·obtain⟨I,E,g6⟩:=bnd g6;refine gq fol [1,2] (kF []) (kB y.Name y.Density y.Twist y.Strength y.Dye (.cells (nq1 I)::(kC []))) (ac (cv (qhk twist E)) (ac (hs (.run [1] (qx ZT 100 (.ptr 1 0) (.agg (nq1 I))) (kB y.Name y.Density y.Twist y.Strength y.Dye (.cells (nq1 twist)::(kC []))) .undef (kB y.Name y.Density y.Twist y.Strength y.Dye (.cells (nq1 I)::(kC []))) true) (kg (n:=4) (by kernel_rfl) rfl rfl rfl rfl (cac rfl (cac nvc (cac rfl (cac nvc can)))) rfl)) az)) ?_;obtain rfl:=si g6;exact⟨rfl,_,_,_,_,rfl,(Sub.refl _)⟩
  refine Goes.skip ?_;obtain rfl:=si g6;exact⟨rfl,_,_,_,_,rfl,(Sub.keep [2,3,4] rfl rfl)⟩
 rintro x s' ⟨rfl,g,j,k,o,rfl,hsub⟩
 try dsimp only at h
 refine Goes.sub hsub ?_;obtain⟨H,F,h⟩:=bnd h;refine sq (gq fol [0,2] (kF [(6,.ptr 3 0),(7,.i 7)]) (kB y.Name y.Density y.Twist y.Strength y.Dye (.cells (ni2 g j k o)::(kC [.cells (nq1 H)]))) (ac (cv (qgq 0 F)) (ac (hs (.run [3] (qx ZT 100 (.ptr 3 0) (.agg (nq1 H))) (kB y.Name y.Density y.Twist y.Strength y.Dye (.cells (ni2 g j k o)::(kC (kC [])))) .undef (kB y.Name y.Density y.Twist y.Strength y.Dye (.cells (ni2 g j k o)::(kC [.cells (nq1 H)]))) true) (kg (n:=4) (by kernel_rfl) rfl rfl rfl rfl (cac rfl (cac nvc (cac rfl (cac nvc can)))) rfl)) az)) ?_);refine sq (Goes.label ?_);refine sq ?_;refine sh fol (kAV (kAb [(6,.ptr 3 0),(7,.i 7),(17,vl qh y.Strength),(18,.i (y.Strength.length:Int)),(19,.i 0)])) ?_;refine Goes.block ?_;obtain⟨G,g21,h⟩:=bnd h;refine Goes.imp (Q:=fun x s'=>(x= .exit 0/\ ∃a b c d q,(a,b,c,d,q)=G/\Sub s' (ofG 35 (kAa [(6,.ptr 1 0),(7,.i q)]),(kC [.cells (ni2 a b c d)])))) ?_ ?_
 ·refine Goes.sub (s':=(ofG 35 (kAO [(7,.i 7),(17,vl qh y.Strength),(18,.i (y.Strength.length:Int)),(19,.i 0)]),(.cells (ni2 g j k o)::(kC [.cells (nq1 H)])))) (Sub.norm [] [some 1,some 2,some 3] rfl rfl (.kp (.kp (.kp (.keep (.same nI) (.keep (.same (qg qh _)) (.keep (.same nI) (.keep (.same nI) .nil))))))) (.kb rfl (.same sn) (.kb rfl (.same sn) (.kb rfl (.same sn) .nil)))) ?_;refine Uc (fun M s=> ∃(r:Int) (t:List Int) (u:Int) (v:List Int) (e:Int) (p:Int),s=(ofG 35 (kAO ((7,.i p)::(kAy y.Strength (y.Strength.length:Int) e []))),(.cells (ni2 g j k o)::(kC [.cells (ni2 r t u v)])))/\qQ N y g j k o M r t u v e p=some G) ?_ (m:=N) ⟨_,_,_,_,_,_,rfl,g21⟩;rintro M s ⟨r,t,u,v,e,p,rfl,g21⟩
  cases M with
  |zero=>simp only[qQ]at g21;cases g21
  |succ M=>
   rw[qQ]at g21;refine sh fol (kAO ((7,.i p)::(kAy y.Strength (y.Strength.length:Int) e [(20,.bool (decide (e<(y.Strength.length:Int))))]))) ?_;refine sq ?_;refine ihD g21 (fun J g21=>?_) (fun J g21=>?_)
   ·refine Goes.skip ?_;refine sq (Goes.block ?_);obtain⟨f,w,g21⟩:=bnd g21;refine sq (gq fol [0,1] (kAO ((7,.i p)::(9,.ptr 3 0)::(kAy y.Strength (y.Strength.length:Int) e []))) (.cells (ni2 g j k o)::(kC (.cells (ni2 r t u v)::(kAC f.X f.Y [])))) (ac (iv qee qh w) (ac (la qmm qh w) az)) ?_);refine sq ?_;obtain⟨K,A,g21⟩:=bnd g21;obtain⟨L,B,g21⟩:=bnd g21;refine sq (gr fol [2,4] (kAO ((7,.i p)::(9,.ptr 3 0)::(kAy y.Strength (y.Strength.length:Int) e [(28,.bool (decide (L>0)))]))) (ac (cv (jZ N f.X A)) (ac (cv (qci N K (⟨(⟨g,j⟩:qp),(⟨k,o⟩:qp)⟩:qD) B)) az)) ?_);refine ihD g21 (fun O g21=>?_) (fun O g21=>?_)
    ·refine Goes.exit ?_;obtain rfl:=si g21;exact⟨rfl,_,_,_,_,_,rfl,(Sub.norm [] [some 1,some 2] rfl rfl (.drop (.kp (.kp (.keep (.same nI) .nil)))) (.kb rfl (.same sn) (.kb rfl (.same sn) .nil)))⟩
    refine Goes.skip ?_;obtain⟨z,C,g21⟩:=bnd g21;refine gq fol [2,3] (kAO ((7,.i 0)::(kAy y.Strength (y.Strength.length:Int) e []))) (.cells (ni2 g j k o)::(kC (.cells (nq1 z)::(kAC f.X f.Y [])))) (ac (cv (jZ N f.Y C)) (ac (hs (.run [2] (qx ZT 100 (.ptr 2 0) (.agg (nq1 z))) (.cells (ni2 g j k o)::(kC (.cells (ni2 r t u v)::(kAC f.X f.Y [])))) .undef (.cells (ni2 g j k o)::(kC (.cells (nq1 z)::(kAC f.X f.Y [])))) true) (kg (n:=4) (by kernel_rfl) rfl rfl rfl rfl (cac rfl (cac nvc (cac rfl (cac nvc can)))) rfl)) az)) ?_;refine gh fol (kAO ((7,.i 0)::(kAy y.Strength (y.Strength.length:Int) (w64 (e+1)) []))) ?_;exact⟨M,(ofG 35 (kAO ((7,.i 0)::(kAy y.Strength (y.Strength.length:Int) (w64 (e+1)) []))),(.cells (ni2 g j k o)::(kC [.cells (nq1 z)]))),Nat.lt_succ_self _,(Sub.norm [] [some 0,some 1,some 2] rfl rfl (.kp (.kp (.kp (.keep (.same nI) (.keep (.same (qg qh _)) (.keep (.same nI) (.keep (.same nI) .nil))))))) (.kb rfl (.same sn) (.kb rfl (.same sn) (.kb rfl (.same sn) .nil)))),_,_,_,_,_,_,rfl,g21⟩
   refine Goes.exit ?_;obtain rfl:=si g21;exact⟨rfl,_,_,_,_,_,rfl,(Sub.norm [] [some 1,some 2] rfl rfl (.drop (.kp (.kp (.keep (.same nI) .nil)))) (.kb rfl (.same sn) (.kb rfl (.same sn) .nil)))⟩
 rintro x s' ⟨rfl,a,b,c,d,q,rfl,hsub⟩
 try dsimp only at h
 refine Goes.sub hsub ?_;refine sq (gq fol [2] (kAa (kA8 q)) [.cells (ni2 a b c d),.cells (ni2 a b c d)] (ac (hs (.run [0] (qx ZT 100 (.ptr 0 0) (.agg (ni2 a b c d))) (kC [.cells (ni2 a b c d)]) .undef [.cells (ni2 a b c d),.cells (ni2 a b c d)] true) (kg (n:=4) (by kernel_rfl) rfl rfl rfl rfl (cac rfl (cac nvc (cac rfl (cac nvc can)))) rfl)) az) ?_);refine Goes.ret ?_;obtain rfl:=si h;exact(gw2 [.agg (ni2 a b c d),.i q] (FzW.tuple (qj.cons (FzW.agg (qj.cons (Ua tI) (qj.cons (Ua (qE ZU _ (nl rfl))) (qj.cons (Ua tI) (qj.cons (Ua (qE ZU _ (nl rfl))) qj.nil))))) (qj.cons (Ua tI) qj.nil))))
def vI (a:qD):Option Bool:=
 (if a.Den.w.isEmpty=true then
 some (decide (a.Den.s=1))
 else
 some false:Option Bool).bind fun b=>
 some b
theorem xD (a:qD) {res:Bool} (h:vI a=some res):qd ZT (.fn 124) [.agg (nq1 a)] [] (.bool res) []:=by
 unfold vI at h;refine Ub Tryz.func124 rfl rfl (m:=13) rfl (rs:=[.tmp 2]) rfl (l:=[(0,.agg (nq1 a))]) rfl ?_;refine sg fol (kX []) [.cells (nq1 a)] ?_;refine sq ?_;obtain⟨d,b,h⟩:=bnd h;refine Goes.cut (s':=(ofG 13 (kBL d),[.cells (nq1 a)])) ?_ ?_
 ·rcases wyB b with⟨c,b⟩|⟨c,b⟩
  ·obtain rfl:=si b;exact tr fol [3,4] (kBL (decide (a.Den.s=1))) (ac (hs (.done (.opt (ze ZT .eql 96 (.tmp 5) (.const (.slice none 0 0)) (nvl ZU a.Den.w) .nilslice)) (.bool a.Den.w.isEmpty)) (qa7 qa2)) (ac (gw c) az))
  obtain rfl:=si b;exact tr fol [3,4] kAc (ac (hs (.done (.opt (ze ZT .eql 96 (.tmp 5) (.const (.slice none 0 0)) (nvl ZU a.Den.w) .nilslice)) (.bool a.Den.w.isEmpty)) (qa7 qa2)) (ac (gw c) az))
 refine Goes.ret ?_;obtain rfl:=si h;exact(gw2 [.bool d] (Ua tB))
def yH (N:Nat) (a:qp) (b:qp):Option qp:=
 (zf b).bind fun f=>
 ((if f<0 then
 (zS a).bind fun d=>
 (zS b).bind fun e=>
 some (d.s,d.w,e.s,e.w)
 else
 some (a.s,a.w,b.s,b.w):Option (Int×(List Int)×Int×(List Int)))).bind fun(g,h,i,j)=>
 (jP N (⟨g,h⟩:qp) (⟨i,j⟩:qp)).bind fun c=>
 some c.1
theorem qe3 (N:Nat) (a:qp) (b:qp) {res:qp} (h:yH N a b=some res):qd ZT (.fn 197) [.agg (nz1 a),.agg (nz1 b)] [] (.agg (nz1 res)) []:=by
 unfold yH at h;refine Ub Tryz.func197 rfl rfl (m:=21) rfl (rs:=[.cell 4 98]) rfl (l:=[(0,.agg (nz1 a)),(1,.agg (nz1 b))]) rfl ?_;refine sg fol (kF []) [.cells (nz1 a),.cells (nz1 b),bZ] ?_;refine sq ?_;obtain⟨r,j,h⟩:=bnd h;refine sq (gr fol [1] (kF [(9,.bool (decide (r<0)))]) (ac (cv (y8 b j)) az) ?_);obtain⟨s,g6,h⟩:=bnd h;refine Goes.imp (Q:=fun x s'=>(x= .normal/\ ∃d e f g,(d,e,f,g)=s/\Sub s' (ofG 21 (kF []),[.cells (ni1 d e),.cells (ni1 f g),bZ]))) ?_ ?_
 ·refine ihD g6 (fun t g6=>?_) (fun t g6=>?_)
  ·obtain⟨k,o,g6⟩:=bnd g6;obtain⟨q,p,g6⟩:=bnd g6;refine gq fol [1,3,4,5] (kF []) [.cells (nz1 k),.cells (nz1 q),bZ] (ac (cv (yf a o)) (ac (cv (yf b p)) (ac (hs (.run [0] (qx ZT 98 (.ptr 0 0) (.agg (nz1 k))) [.cells (nz1 a),.cells (nz1 b),bZ] .undef [.cells (nz1 k),.cells (nz1 b),bZ] true) (kg (n:=2) (by kernel_rfl) rfl rfl rfl rfl (cac rfl (cac nvc can)) rfl)) (ac (hs (.run [1] (qx ZT 98 (.ptr 1 0) (.agg (nz1 q))) [.cells (nz1 k),.cells (nz1 b),bZ] .undef [.cells (nz1 k),.cells (nz1 q),bZ] true) (kg (n:=2) (by kernel_rfl) rfl rfl rfl rfl (cac rfl (cac nvc can)) rfl)) az)))) ?_;obtain rfl:=si g6;exact⟨rfl,_,_,_,_,rfl,(Sub.refl _)⟩
  refine Goes.skip ?_;obtain rfl:=si g6;exact⟨rfl,_,_,_,_,rfl,(Sub.keep [2,3,4] rfl rfl)⟩
 rintro x s' ⟨rfl,d,e,f,g,rfl,hsub⟩
 try dsimp only at h
 refine Goes.sub hsub ?_;obtain⟨c,i,h⟩:=bnd h;refine sq (gq fol [2,8,9] (kAb (kBM [])) [.cells (ni1 d e),.cells (ni1 f g),bZ,.cells (nz1 c.1),.cells (nz1 c.2)] (ac (cv (qdn N (⟨d,e⟩:qp) (⟨f,g⟩:qp) i)) (ac (hs (.run [3] (qx ZT 98 (.ptr 3 0) (.agg (nz1 c.1))) [.cells (ni1 d e),.cells (ni1 f g),bZ,bZ,bZ] .undef [.cells (ni1 d e),.cells (ni1 f g),bZ,.cells (nz1 c.1),bZ] true) (kg (n:=2) (by kernel_rfl) rfl rfl rfl rfl (cac rfl (cac nvc can)) rfl)) (ac (hs (.run [4] (qx ZT 98 (.ptr 4 0) (.agg (nz1 c.2))) [.cells (ni1 d e),.cells (ni1 f g),bZ,.cells (nz1 c.1),bZ] .undef [.cells (ni1 d e),.cells (ni1 f g),bZ,.cells (nz1 c.1),.cells (nz1 c.2)] true) (kg (n:=2) (by kernel_rfl) rfl rfl rfl rfl (cac rfl (cac nvc can)) rfl)) az))) ?_);refine sq (gq fol [1] (kAb []) [.cells (ni1 d e),.cells (ni1 f g),.cells (nz1 c.1),.cells (nz1 c.1),.cells (nz1 c.2)] (ac (hs (.run [2] (qx ZT 98 (.ptr 2 0) (.agg (nz1 c.1))) [.cells (ni1 d e),.cells (ni1 f g),bZ,.cells (nz1 c.1),.cells (nz1 c.2)] .undef [.cells (ni1 d e),.cells (ni1 f g),.cells (nz1 c.1),.cells (nz1 c.1),.cells (nz1 c.2)] true) (kg (n:=2) (by kernel_rfl) rfl rfl rfl rfl (cac rfl (cac nvc can)) rfl)) az) ?_);refine Goes.ret ?_;obtain rfl:=si h;exact(gw2 [.agg (nz1 c.1)] (FzW.agg (qj.cons (Ua tI) (qj.cons (Ua (qE ZU _ (nl rfl))) qj.nil))))
def qb9 (N:Nat) (num:qp) (den:qp):Option qD:=
 (zf den).bind fun k=>
 ((if k<0 then
 (zS num).bind fun i=>
 (zS den).bind fun j=>
 some (i.s,i.w,j.s,j.w)
 else
 some (num.s,num.w,den.s,den.w):Option (Int×(List Int)×Int×(List Int)))).bind fun(d,e,b,c)=>
 (if c.isEmpty=true then
 some (decide (b=1))
 else
 some false:Option Bool).bind fun f=>
 if f=true then
 some (⟨(⟨d,e⟩:qp),(⟨b,c⟩:qp)⟩:qD)
 else
 (qdj N (⟨d,e⟩:qp) (⟨b,c⟩:qp)).bind fun a=>
 (yH N (⟨d,e⟩:qp) a).bind fun g=>
 (yH N (⟨b,c⟩:qp) a).bind fun h=>
 some (⟨g,h⟩:qD)
theorem qeO (N:Nat) (num:qp) (den:qp) {res:qD} (h:qb9 N num den=some res):qd ZT (.fn 126) [.agg (nz1 num),.agg (nz1 den)] [] (.agg (nq1 res)) []:=by
 unfold qb9 at h;refine Ub Tryz.func126 rfl rfl (m:=34) rfl (rs:=[.cell 4 100]) rfl (l:=[(0,.agg (nz1 num)),(1,.agg (nz1 den))]) rfl ?_;refine sg fol (kF []) (.cells (nz1 num):: .cells (nz1 den)::(kC [])) ?_;refine sq ?_;obtain⟨A,q,h⟩:=bnd h;refine sq (gr fol [1] (kF (kBY (decide (A<0)))) (ac (cv (y8 den q)) az) ?_);obtain⟨B,g6,h⟩:=bnd h;refine Goes.imp (Q:=fun x s'=>(x= .normal/\ ∃d e c a,(d,e,c,a)=B/\Sub s' (ofG 34 (kF []),(.cells (ni1 d e):: .cells (ni1 c a)::(kC []))))) ?_ ?_
 ·refine ihD g6 (fun C g6=>?_) (fun C g6=>?_)
  ·obtain⟨r,t,g6⟩:=bnd g6;obtain⟨v,u,g6⟩:=bnd g6;refine gq fol [1,3,4,5] (kF []) (.cells (nz1 r):: .cells (nz1 v)::(kC [])) (ac (cv (yf num t)) (ac (cv (yf den u)) (ac (hs (.run [0] (qx ZT 98 (.ptr 0 0) (.agg (nz1 r))) (.cells (nz1 num):: .cells (nz1 den)::(kC [])) .undef (.cells (nz1 r):: .cells (nz1 den)::(kC [])) true) (kg (n:=2) (by kernel_rfl) rfl rfl rfl rfl (cac rfl (cac nvc can)) rfl)) (ac (hs (.run [1] (qx ZT 98 (.ptr 1 0) (.agg (nz1 v))) (.cells (nz1 r):: .cells (nz1 den)::(kC [])) .undef (.cells (nz1 r):: .cells (nz1 v)::(kC [])) true) (kg (n:=2) (by kernel_rfl) rfl rfl rfl rfl (cac rfl (cac nvc can)) rfl)) az)))) ?_;obtain rfl:=si g6;exact⟨rfl,_,_,_,_,rfl,(Sub.refl _)⟩
  refine Goes.skip ?_;obtain rfl:=si g6;exact⟨rfl,_,_,_,_,rfl,(Sub.keep [2,3,4] rfl rfl)⟩
 rintro x s' ⟨rfl,d,e,c,a,rfl,hsub⟩
 try dsimp only at h
 refine Goes.sub hsub ?_;refine sq ?_;refine sq ?_;obtain⟨y,b,h⟩:=bnd h;refine Goes.cut (s':=(ofG 34 (kF [(20,.bool y)]),(.cells (ni1 d e):: .cells (ni1 c a)::(kC [])))) ?_ ?_
 ·rcases wyB b with⟨j,b⟩|⟨j,b⟩
  ·obtain rfl:=si b;exact tr fol [2,3] (kF [(20,.bool (decide (c=1)))]) (ac (hs (.done (.opt (ze ZT .eql 96 (.tmp 14) (.const (.slice none 0 0)) (nvl ZU a) .nilslice)) (.bool a.isEmpty)) (qa7 qa2)) (ac (gw j) az))
  obtain rfl:=si b;exact tr fol [2,3] (kF [(20,.bool false)]) (ac (hs (.done (.opt (ze ZT .eql 96 (.tmp 14) (.const (.slice none 0 0)) (nvl ZU a) .nilslice)) (.bool a.isEmpty)) (qa7 qa2)) (ac (gw j) az))
 refine ihB h (fun z h=>?_) (fun z h=>?_)
 ·refine sq (gq fol [3] (kAb []) [.cells (ni1 d e),.cells (ni1 c a),.cells (ni2 d e c a)] (ac (hs (.run [2] (qx ZT 100 (.ptr 2 0) (.agg (ni2 d e c a))) (.cells (ni1 d e):: .cells (ni1 c a)::(kC [])) .undef [.cells (ni1 d e),.cells (ni1 c a),.cells (ni2 d e c a)] true) (kg (n:=4) (by kernel_rfl) rfl rfl rfl rfl (cac rfl (cac nvc (cac rfl (cac nvc can)))) rfl)) az) ?_);refine Goes.ret ?_;obtain rfl:=si h;exact(gw2 [.agg (ni2 d e c a)] (FzW.agg (qj.cons (Ua tI) (qj.cons (Ua (qE ZU _ (nl rfl))) (qj.cons (Ua tI) (qj.cons (Ua (qE ZU _ (nl rfl))) qj.nil))))))
 refine Goes.skip ?_;obtain⟨f,k,h⟩:=bnd h;refine sq (gq fol [2,4] (kF (kBM [])) (.cells (ni1 d e):: .cells (ni1 c a)::(kC [.cells (nz1 f)])) (ac (cv (qii N (⟨d,e⟩:qp) (⟨c,a⟩:qp) k)) (ac (hs (.run [3] (qx ZT 98 (.ptr 3 0) (.agg (nz1 f))) (.cells (ni1 d e):: .cells (ni1 c a)::(kC [bZ])) .undef (.cells (ni1 d e):: .cells (ni1 c a)::(kC [.cells (nz1 f)])) true) (kg (n:=2) (by kernel_rfl) rfl rfl rfl rfl (cac rfl (cac nvc can)) rfl)) az)) ?_);obtain⟨g,o,h⟩:=bnd h;obtain⟨i,p,h⟩:=bnd h;refine sq (gq fol [2,5,7] (kAb []) [.cells (ni1 d e),.cells (ni1 c a),.cells (ni2 g.s g.w i.s i.w),.cells (nz1 f)] (ac (cv (qe3 N (⟨d,e⟩:qp) f o)) (ac (cv (qe3 N (⟨c,a⟩:qp) f p)) (ac (hs (.run [2] (qx ZT 100 (.ptr 2 0) (.agg (ni2 g.s g.w i.s i.w))) (.cells (ni1 d e):: .cells (ni1 c a)::(kC [.cells (nz1 f)])) .undef [.cells (ni1 d e),.cells (ni1 c a),.cells (ni2 g.s g.w i.s i.w),.cells (nz1 f)] true) (kg (n:=4) (by kernel_rfl) rfl rfl rfl rfl (cac rfl (cac nvc (cac rfl (cac nvc can)))) rfl)) az))) ?_);refine Goes.ret ?_;obtain rfl:=si h;exact(gw2 [.agg (ni2 g.s g.w i.s i.w)] (FzW.agg (qj.cons (Ua tI) (qj.cons (Ua (qE ZU _ (nl rfl))) (qj.cons (Ua tI) (qj.cons (Ua (qE ZU _ (nl rfl))) qj.nil))))))
def qab (N:Nat) (a:qD) (b:qD):Option qD:=
 ((vI a).bind fun g=>
 if g=true then
 (vI b).bind fun h=>
 some h
 else
 some false:Option Bool).bind fun i=>
 if i=true then
 (yl N a.Num b.Num).bind fun j=>
 (qbL j).bind fun k=>
 some k
 else
 (qN N a.Num b.Den).bind fun l=>
 (qN N b.Num a.Den).bind fun c=>
 (yl N l c).bind fun d=>
 (qN N a.Den b.Den).bind fun e=>
 (qb9 N d e).bind fun f=>
 some f
theorem qce (N:Nat) (a:qD) (b:qD) {res:qD} (h:qab N a b=some res):qd ZT (.fn 53) [.agg (nq1 a),.agg (nq1 b)] [] (.agg (nq1 res)) []:=by
 unfold qab at h;refine Ub Tryz.func53 rfl rfl (m:=34) rfl (rs:=[.cell 4 100]) rfl (l:=[(0,.agg (nq1 a)),(1,.agg (nq1 b))]) rfl ?_;refine sg fol (kF []) (.cells (nq1 a):: .cells (nq1 b)::(kC [])) ?_;refine sq ?_;refine sq ?_;obtain⟨w,c,h⟩:=bnd h;refine Goes.cut (s':=(ofG 34 (kF [(10,.bool w)]),(.cells (nq1 a):: .cells (nq1 b)::(kC [])))) ?_ ?_
 ·obtain⟨B,e,c⟩:=bnd c;rcases wyB c with⟨s,c⟩|⟨s,c⟩
  ·obtain⟨x,k,c⟩:=bnd c;obtain rfl:=si c;exact tr fol [1,2,4] (kF [(10,.bool x)]) (ac (cv (xD a e)) (ac (gw s) (ac (cv (xD b k)) az)))
  obtain rfl:=si c;exact tr fol [1,2] (kF [(10,.bool false)]) (ac (cv (xD a e)) (ac (gw s) az))
 refine ihB h (fun y h=>?_) (fun y h=>?_)
 ·obtain⟨z,o,h⟩:=bnd h;obtain⟨r,p,h⟩:=bnd h;refine sq (gq fol [4,5,6] (kAb []) [.cells (nq1 a),.cells (nq1 b),.cells (nq1 r)] (ac (cv (qaz N a.Num b.Num o)) (ac (cv (qej z p)) (ac (hs (.run [2] (qx ZT 100 (.ptr 2 0) (.agg (nq1 r))) (.cells (nq1 a):: .cells (nq1 b)::(kC [])) .undef [.cells (nq1 a),.cells (nq1 b),.cells (nq1 r)] true) (kg (n:=4) (by kernel_rfl) rfl rfl rfl rfl (cac rfl (cac nvc (cac rfl (cac nvc can)))) rfl)) az))) ?_);refine Goes.ret ?_;obtain rfl:=si h;exact(gw2 [.agg (nq1 r)] (FzW.agg (qj.cons (Ua tI) (qj.cons (Ua (qE ZU _ (nl rfl))) (qj.cons (Ua tI) (qj.cons (Ua (qE ZU _ (nl rfl))) qj.nil))))))
 refine Goes.skip ?_;obtain⟨A,q,h⟩:=bnd h;obtain⟨t,f,h⟩:=bnd h;obtain⟨u,g,h⟩:=bnd h;obtain⟨v,i,h⟩:=bnd h;obtain⟨d,j,h⟩:=bnd h;refine sq (gq fol [4,9,10,15,16,17] (kAb []) [.cells (nq1 a),.cells (nq1 b),.cells (nq1 d)] (ac (cv (jk N a.Num b.Den q)) (ac (cv (jk N b.Num a.Den f)) (ac (cv (qaz N A t g)) (ac (cv (jk N a.Den b.Den i)) (ac (cv (qeO N u v j)) (ac (hs (.run [2] (qx ZT 100 (.ptr 2 0) (.agg (nq1 d))) (.cells (nq1 a):: .cells (nq1 b)::(kC [])) .undef [.cells (nq1 a),.cells (nq1 b),.cells (nq1 d)] true) (kg (n:=4) (by kernel_rfl) rfl rfl rfl rfl (cac rfl (cac nvc (cac rfl (cac nvc can)))) rfl)) az)))))) ?_);refine Goes.ret ?_;obtain rfl:=si h;exact(gw2 [.agg (nq1 d)] (FzW.agg (qj.cons (Ua tI) (qj.cons (Ua (qE ZU _ (nl rfl))) (qj.cons (Ua tI) (qj.cons (Ua (qE ZU _ (nl rfl))) qj.nil))))))
def jM (N:Nat):Nat->(List Str)->(List Int)->Option (List Str)
 |0,_,_=>none
 |K+1,i,j=>
  if(j.length:Int)>0 then
  (qbj N j ([1000000000000000000]:List Int)).bind fun b=>
  ((if(b.2.length:Int)>0 then
  (idx b.2 0).bind fun c=>
  (qiu c 10).bind fun d=>
  some d
  else
  some [48]:Option Str)).bind fun a=>
  ((if(b.1.length:Int)>0 then
  (qfq [48] (w64 (18-(a.length:Int)))).bind fun e=>
  (cat e a).bind fun f=>
  some f
  else
  some a:Option Str)).bind fun g=>
  (app 16 i [g]).bind fun h=>
  jM N K h b.1
  else
  some i
def zH (e:List Str):Nat->Bool->(Option (List Int))->Int->Option (Bool×(Option (List Int)))
 |0,_,_,_=>none
 |K+1,ok27,b,a=>
  if a>=0 then
  (idx e a).bind fun c=>
  (bWr ok27 b c).bind fun d=>
  zH e K true (some d) (w64 (a-1))
  else
  some (ok27,b)
def ym (N:Nat) (a:qp):Option Str:=
 if a.w.isEmpty=true then
 (qnn a.s).bind fun h=>
 some h
 else
 (qO a).bind fun f=>
 (jM N N ([]:List Str) f.2).bind fun g=>
 ((if f.1=true then
 (bWr false (none:Option (List Int)) [45]).bind fun b=>
 some (true,(some b))
 else
 some (false,(none:Option (List Int))):Option (Bool×(Option (List Int))))).bind fun(ok21,c)=>
 (zH g N ok21 c (w64 ((g.length:Int)-1))).bind fun(ok30,d)=>
 (qnH ok30 d).bind fun e=>
 some e
theorem qaq (N:Nat) (a:qp) {res:Str} (h:ym N a=some res):qd ZT (.fn 199) [.agg (nz1 a)] [] (.str res) []:=by
 unfold ym at h;refine Ub Tryz.func199 rfl rfl (m:=69) rfl (rs:=[.tmp 2]) rfl (l:=[(0,.agg (nz1 a))]) rfl ?_;refine sg fol (kX []) [.cells (nz1 a)] ?_;refine sq ?_;refine sq (gr fol [2] (kX [(14,.bool a.w.isEmpty)]) (ac (hs (.done (.opt (ze ZT .eql 96 (.tmp 13) (.const (.slice none 0 0)) (nvl ZU a.w) .nilslice)) (.bool a.w.isEmpty)) (qa7 qa2)) az) ?_);refine ihB h (fun c1 h=>?_) (fun c1 h=>?_)
 ·obtain⟨r2,K,h⟩:=bnd h;refine sq (gr fol [2] [(2,.str r2)] (ac (cv (qpL a.s K)) az) ?_);refine Goes.ret ?_;obtain rfl:=si h;exact(gw2 [.str r2] (Ua tS))
 refine Goes.skip ?_;obtain⟨e,L,h⟩:=bnd h;refine sq (gr fol [1] (kBR e.1 [(4,vl ZU e.2)]) (ac (cv (z8 a L)) az) ?_);refine sg fol (kBR e.1 [(4,vl ZU e.2),(5,.slice 1 0 1 1 1)]) [.cells (nz1 a),.cells [.int .u64 1000000000000000000]] ?_;refine sh fol (kBR e.1 [(4,vl ZU e.2),(5,.slice 1 0 1 1 1),(6,.nilslice)]) ?_;refine sq (Goes.block ?_);obtain⟨r7,g7,h⟩:=bnd h;refine Goes.imp (Q:=fun x s'=>(x= .exit 0/\ ∃b,b=r7/\Sub s' (ofG 69 (kBR e.1 (kAE b [])),(kAH b [])))) ?_ ?_
 ·refine Goes.sub (s':=(ofG 69 (kBR e.1 [(4,vl ZU e.2),(5,vl ZU ([1000000000000000000]:List Int)),(6,.gslice 0 ([]:List Str).length 1)]),[.cells (([]:List Str).flatMap encS.c)])) (Sub.norm [1] [none] rfl rfl (.keep (.same nB) (.keep (.same (qg ZU _)) (.keep (.frz (Fz.lit rfl rfl (Ue (AllST.cons tI AllST.nil))) (qg ZU _)) (.keep .nil .nil)))) (.fresh .nil)) ?_;refine Uc (fun M s=> ∃(j:List Str) (J:List Int),s=(ofG 69 (kBR e.1 ((4,vl ZU J)::(5,vl ZU ([1000000000000000000]:List Int))::(kAE j []))),(kAH j []))/\jM N M j J=some r7) ?_ (m:=N) ⟨_,_,rfl,g7⟩;rintro M s ⟨j,J,rfl,g7⟩
  cases M with
  |zero=>simp only[jM]at g7;cases g7
  |succ M=>
   rw[jM]at g7;refine sq ?_;refine sh fol (kBR e.1 ((4,vl ZU J)::(5,vl ZU ([1000000000000000000]:List Int))::(kAE j [(26,.bool (decide ((J.length:Int)>0)))]))) ?_;refine ihD g7 (fun c8 g7=>?_) (fun c8 g7=>?_)
   ·refine Goes.skip ?_;refine Goes.block ?_;obtain⟨k,O,g7⟩:=bnd g7;refine sq (gr fol [2] (kBR e.1 ((5,vl ZU ([1000000000000000000]:List Int))::(kAE j [(7,vl ZU k.1),(8,vl ZU k.2)]))) (ac (cv (qfG N J ([1000000000000000000]:List Int) O)) az) ?_);refine sh fol (kBR e.1 ((5,vl ZU ([1000000000000000000]:List Int))::(kAE j [(7,vl ZU k.1),(8,vl ZU k.2),(9,.str [48])]))) ?_;refine sq ?_;refine sh fol (kBR e.1 ((5,vl ZU ([1000000000000000000]:List Int))::(kAE j [(7,vl ZU k.1),(8,vl ZU k.2),(9,.str [48]),(35,.bool (decide ((k.2.length:Int)>0)))]))) ?_;obtain⟨V,g11,g7⟩:=bnd g7;refine Goes.imp (Q:=fun x s'=>(x= .normal/\ ∃q,q=V/\Sub s' (ofG 69 (kBR e.1 ((5,vl ZU ([1000000000000000000]:List Int))::(kAE j [(7,vl ZU k.1),(9,.str q)]))),(kAH j [])))) ?_ ?_
    ·refine ihD g11 (fun X g11=>?_) (fun X g11=>?_)
     ·obtain⟨Y,t,g11⟩:=bnd g11;obtain⟨Z,A,g11⟩:=bnd g11;refine gr fol [1,2,3] (kBR e.1 ((5,vl ZU ([1000000000000000000]:List Int))::(kAE j [(7,vl ZU k.1),(9,.str Z)]))) (ac (iv jf ZU t) (ac (lv 0 jm ZU t rfl) (ac (cv (qop Y 10 A)) az))) ?_;obtain rfl:=si g11;exact⟨rfl,_,rfl,(Sub.refl _)⟩
     refine Goes.skip ?_;obtain rfl:=si g11;exact⟨rfl,_,rfl,(Sub.keep [3,5,6,7,9] rfl rfl)⟩
    rintro x s' ⟨rfl,q,rfl,hsub⟩;refine Goes.sub hsub ?_;refine sq ?_;refine sh fol (kBR e.1 ((5,vl ZU ([1000000000000000000]:List Int))::(kAE j [(7,vl ZU k.1),(9,.str q),(42,.bool (decide ((k.1.length:Int)>0)))]))) ?_;obtain⟨a0,g16,g7⟩:=bnd g7;refine Goes.imp (Q:=fun x s'=>(x= .normal/\ ∃n,n=a0/\Sub s' (ofG 69 (kBR e.1 ((5,vl ZU ([1000000000000000000]:List Int))::(kAE j [(7,vl ZU k.1),(9,.str n)]))),(kAH j [])))) ?_ ?_
    ·refine ihD g16 (fun a1 g16=>?_) (fun a1 g16=>?_)
     ·obtain⟨a2,B,g16⟩:=bnd g16;obtain⟨P,C,g16⟩:=bnd g16;refine gr fol [3,5] (kBR e.1 ((5,vl ZU ([1000000000000000000]:List Int))::(kAE j [(7,vl ZU k.1),(9,.str P)]))) (ac (cv (qmu [48] (w64 (18-(q.length:Int))) B)) (ac (hs (.done (.opt (ze ZT .add 9 (.tmp 46) (.tmp 47) (.str a2) (.str q))) (.str P)) (qbc C)) az)) ?_;obtain rfl:=si g16;exact⟨rfl,_,rfl,(Sub.refl _)⟩
     refine Goes.skip ?_;obtain rfl:=si g16;exact⟨rfl,_,rfl,(Sub.keep [3,5,6,7,9] rfl rfl)⟩
    rintro x s' ⟨rfl,n,rfl,hsub⟩;refine Goes.sub hsub ?_;obtain⟨o,D,g7⟩:=bnd g7;refine sq (gq fol [3] (kBR e.1 [(5,vl ZU ([1000000000000000000]:List Int)),(6,.gslice 2 o.length 1),(7,vl ZU k.1)]) (.dead:: .cells [.str n]::(kAH o [])) (ac (hs (.run [0,1] (xC ZT [267,267] (.gslice 0 j.length 1) (.slice 1 0 1 1 1)) (kAH j [.cells [.str n]]) (.gslice 2 o.length 1) (.dead:: .cells [.str n]::(kAH o [])) true) (qbX qrp (E:=encS) rfl (qhO (E:=encS) (ys:=[n]) rfl rfl rfl rfl) (qjK (E:=encS) (l:=j) rfl rfl rfl D rfl))) az) ?_);refine gh fol (kBR e.1 [(4,vl ZU k.1),(5,vl ZU ([1000000000000000000]:List Int)),(6,.gslice 2 o.length 1)]) ?_;exact⟨M,(ofG 69 (kBR e.1 ((4,vl ZU k.1)::(5,vl ZU ([1000000000000000000]:List Int))::(kAE o []))),(kAH o [])),Nat.lt_succ_self _,(Sub.norm [] [some 2] rfl rfl (.keep (.same nB) (.keep (.same (qg ZU _)) (.keep (.same (qg ZU _)) (.keep (.gslice rfl) .nil)))) (.ks .nil)),_,_,rfl,g7⟩
   refine Goes.exit ?_;obtain rfl:=si g7;exact⟨rfl,_,rfl,(Sub.keep [3,6] rfl rfl)⟩
 rintro x s' ⟨rfl,b,rfl,hsub⟩;refine Goes.sub hsub ?_;refine sg fol (kBR e.1 (kAE b (kBV []))) (kAH b [.bld 273 5 [.nilptr,.nilslice]]) ?_;refine sq ?_;refine sh fol (kAE b (kBV [(54,.bool e.1)])) ?_;obtain⟨a3,g23,h⟩:=bnd h;refine Goes.imp (Q:=fun x s'=>(x= .normal/\ ∃ok21 v,(ok21,v)=a3/\Sub s' (ofG 69 (kAE b (kBV [])),(kAH b [.bld 273 5 [pz ok21 1 0,hsl 2 1 v],.cells ((hof v).flatMap (qc .u8).c)])))) ?_ ?_
 ·refine ihB g23 (fun a4 g23=>?_) (fun a4 g23=>?_)
  ·refine Goes.sub (s':=(ofG 69 (kAE b (kBV [(54,.bool e.1)])),(kAH b [.bld 273 5 [pz false 1 0,.nilslice]]))) (Sub.norm [] [some 0,some 1] rfl rfl (.keep (.gslice rfl) (.kp (.keep (.same nB) .nil))) (.ks (.kb rfl (.bld (rc (zZ.pz0) (rc (.same (qG.nilslice)) rn))) .nil))) ?_;refine Goes.sub (s':=(ofG 69 (kAE b (kBV [(54,.bool e.1)])),(kAH b [.bld 273 5 [pz false 1 0,hsl 2 1 (none:Option (List Int))],.cells ((hof (none:Option (List Int))).flatMap (qc .u8).c)]))) (Sub.norm [] [some 0,some 1,none] rfl rfl (.keep (.gslice rfl) (.kp (.keep (.same nB) .nil))) (.ks (.kb rfl (.bld (rc (zZ.pz0) (rc .hs0 rn))) (.fresh .nil)))) ?_;obtain⟨y,F,g23⟩:=bnd g23;refine gq fol [0] (kAE b (kBV [])) (kAH b [.bld 273 5 [pz true 1 0,hsl 3 1 (some y)],.dead,.cells ((hof (some y)).flatMap (qc .u8).c)]) (ac (hs (.callH 250 [.ptr 1 0,.str [45]] (kAH b [.bld 273 5 [pz false 1 0,hsl 2 1 (none:Option (List Int))],.cells ((hof (none:Option (List Int))).flatMap (qc .u8).c)]) [1,2] (.tuple [.i (([45].length:Nat):Int),.niliface]) (kAH b [.bld 273 5 [pz true 1 0,hsl 3 1 (some y)],.dead,.cells ((hof (some y)).flatMap (qc .u8).c)])) (qbV [some 1,some 2] [none,some 0,none,some 2] (qpj false (none:Option (List Int)) [45] F) (.kb rfl (.bld (rc (zZ.pz0) (rc .hs0 rn))) (.ks .nil)) rfl rfl (.old rfl rfl (.back rfl rfl (.bld (rc ((zZ.pz rfl)) (rc (.hs rfl) rn))) rfl (.dead (.new rfl rfl (.same fa) rfl .nil)))) (rc (.ptr rfl) (rc (.same nS) rn)) (.same (qG.tuple sn)) rfl)) az) ?_;obtain rfl:=si g23;exact⟨rfl,_,_,rfl,(Sub.norm [] [some 0,some 1,some 3] rfl rfl (.keep (.gslice rfl) (.kp .nil)) (.ks (.kb rfl (.bld (rc ((zZ.pz rfl)) (rc (.hs rfl) rn))) (.ks .nil))))⟩
  refine Goes.skip ?_;obtain rfl:=si g23;exact⟨rfl,_,_,rfl,(Sub.norm [] [some 0,some 1,none] rfl rfl (.keep (.gslice rfl) (.kp .nil)) (.ks (.kb rfl (.bld (rc (zZ.pz0) (rc .hs0 rn))) (.fresh .nil))))⟩
 rintro x s' ⟨rfl,ok21,v,rfl,hsub⟩
 try dsimp only at h
 refine Goes.sub hsub ?_;refine sq ?_;refine sh fol (kAE b (kBV [(11,.i (w64 ((b.length:Int)-1)))])) ?_;refine Goes.block ?_;obtain⟨U,d,h⟩:=bnd h;refine Goes.imp (Q:=fun x s'=>(x= .exit 2/\ ∃ok30 p,(ok30,p)=U/\Sub s' (ofG 69 [(10,.ptr 0 0)],[.bld 273 5 [pz ok30 0 0,hsl 1 1 p],.cells ((hof p).flatMap (qc .u8).c)]))) ?_ ?_
 ·refine Uc (fun M s=> ∃(ok27:Bool) (f:Option (List Int)) (g:Int),s=(ofG 69 (kAE b (kBV [(11,.i g)])),(kAH b [.bld 273 5 [pz ok27 1 0,hsl 2 1 f],.cells ((hof f).flatMap (qc .u8).c)]))/\zH b M ok27 f g=some U) ?_ (m:=N) ⟨_,_,_,rfl,d⟩;rintro M s ⟨ok27,f,g,rfl,d⟩
  cases M with
  |zero=>simp only[zH]at d;cases d
  |succ M=>
   rw[zH]at d;refine sq ?_;refine sh fol (kAE b (kBV [(11,.i g),(60,.bool (decide (g>=0)))])) ?_;refine ihD d (fun a5 d=>?_) (fun a5 d=>?_)
   ·refine Goes.skip ?_;refine sq (Goes.block ?_);obtain⟨z,u,d⟩:=bnd d;obtain⟨r,G,d⟩:=bnd d;refine gq fol [2,3,4] (kAE b (kBV [(11,.i g)])) (kAH b [.bld 273 5 [pz true 1 0,hsl 3 1 (some r)],.dead,.cells ((hof (some r)).flatMap (qc .u8).c)]) (ac (hs (.done (.opt (ql ZT 267 (.gslice 0 b.length 1) (.i g))) (.ptr 0 ((g:Int).toNat*1+0))) (ix_gs qrp u)) (ac (hs (.run [0] (jJ ZT 9 (.ptr 0 ((g:Int).toNat*1+0))) (kAH b [.bld 273 5 [pz ok27 1 0,hsl 2 1 f],.cells ((hof f).flatMap (qc .u8).c)]) (.str z) (kAH b [.bld 273 5 [pz ok27 1 0,hsl 2 1 f],.cells ((hof f).flatMap (qc .u8).c)]) false) (qdb ce9 (E:=encS) (l:=b) rfl rfl u (nl rfl) rfl)) (ac (hs (.callH 250 [.ptr 1 0,.str z] (kAH b [.bld 273 5 [pz ok27 1 0,hsl 2 1 f],.cells ((hof f).flatMap (qc .u8).c)]) [1,2] (.tuple [.i ((z.length:Nat):Int),.niliface]) (kAH b [.bld 273 5 [pz true 1 0,hsl 3 1 (some r)],.dead,.cells ((hof (some r)).flatMap (qc .u8).c)])) (qbV [some 1,some 2] [none,some 0,none,some 2] (qpj ok27 f z G) (.kb rfl (.bld (rc ((zZ.pz rfl)) (rc (.hs rfl) rn))) (.ks .nil)) rfl rfl (.old rfl rfl (.back rfl rfl (.bld (rc ((zZ.pz rfl)) (rc (.hs rfl) rn))) rfl (.dead (.new rfl rfl (.same fa) rfl .nil)))) (rc (.ptr rfl) (rc (.same nS) rn)) (.same (qG.tuple sn)) rfl)) az))) ?_;refine gh fol (kAE b (kBV [(11,.i (w64 (g-1)))])) ?_;exact⟨M,(ofG 69 (kAE b (kBV [(11,.i (w64 (g-1)))])),(kAH b [.bld 273 5 [pz true 1 0,hsl 2 1 (some r)],.cells ((hof (some r)).flatMap (qc .u8).c)])),Nat.lt_succ_self _,(Sub.norm [] [some 0,some 1,some 3] rfl rfl (.keep (.gslice rfl) (.kp (.keep (.same nI) .nil))) (.ks (.kb rfl (.bld (rc ((zZ.pz rfl)) (rc (.hs rfl) rn))) (.ks .nil)))),_,_,_,rfl,d⟩
   refine Goes.exit ?_;obtain rfl:=si d;exact⟨rfl,_,_,rfl,(Sub.norm [] [some 1,some 2] rfl rfl (.drop (.kp .nil)) (.kb rfl (.bld (rc ((zZ.pz rfl)) (rc (.hs rfl) rn))) (.ks .nil)))⟩
 rintro x s' ⟨rfl,ok30,p,rfl,hsub⟩
 try dsimp only at h
 refine Goes.sub hsub ?_;obtain⟨H,I,h⟩:=bnd h;refine sq (gq fol [0] [(2,.str H)] [.dead,.dead] (ac (hs (.callH 251 [.ptr 0 0] [.bld 273 5 [pz ok30 0 0,hsl 1 1 p],.cells ((hof p).flatMap (qc .u8).c)] [0,1] (.str H) [.dead,.dead]) (qbV [some 0,some 1] [none,none] (qqZ ok30 p I) (.kb rfl (.bld (rc ((zZ.pz rfl)) (rc (.hs rfl) rn))) (.ks .nil)) rfl rfl (.dead (.dead .nil)) (rc (.ptr rfl) rn) (.same nS) rfl)) az) ?_);refine Goes.ret ?_;obtain rfl:=si h;exact(gw2 [.str H] (Ua tS))
def qbu (a:qp):Option Int:=
 (qO a).bind fun b=>
 if(b.2.length:Int)=0 then
 some 0
 else
 (idx b.2 (w64 ((b.2.length:Int)-1))).bind fun c=>
 (bits_Len64 c).bind fun d=>
 some (w64 ((w64 (64*(w64 ((b.2.length:Int)-1))))+d))
theorem qex (a:qp) {res:Int} (h:qbu a=some res):qd ZT (.fn 246) [.agg (nz1 a)] [] (.i res) []:=by
 unfold qbu at h;refine Ub Tryz.func246 rfl rfl (m:=25) rfl (rs:=[.tmp 2]) rfl (l:=[(0,.agg (nz1 a))]) rfl ?_;refine sg fol (kX []) [.cells (nz1 a)] ?_;obtain⟨c,d,h⟩:=bnd h;refine sq (gr fol [1] [(4,vl ZU c.2)] (ac (cv (z8 a d)) az) ?_);refine sq ?_;refine sh fol ((4,vl ZU c.2)::(kA0 (decide ((c.2.length:Int)=0)))) ?_;refine ihD h (fun g h=>?_) (fun g h=>?_)
 ·refine sh fol [(2,.i 0)] ?_;refine Goes.ret ?_;obtain rfl:=si h;exact(gw2 [.i 0] (Ua tI))
 refine Goes.skip ?_;obtain⟨j,b,h⟩:=bnd h;obtain⟨f,e,h⟩:=bnd h;refine sq (gr fol [8,9,10] (kBA (w64 ((w64 (64*(w64 ((c.2.length:Int)-1))))+f))) (ac (iv jf ZU b) (ac (lv 0 jm ZU b rfl) (ac (cv (qfK j e)) az))) ?_);refine Goes.ret ?_;obtain rfl:=si h;exact(gw2 [.i (w64 ((w64 (64*(w64 ((c.2.length:Int)-1))))+f))] (Ua tI))
def qdI (N:Nat) (n:qp):Option Bool:=
 ((qbu n).bind fun a=>
 if a>1800 then
 (ym N n).bind fun b=>
 (strings_TrimPrefix b [45]).bind fun c=>
 some (decide ((c.length:Int)>600))
 else
 some false:Option Bool).bind fun d=>
 some d
theorem qe9 (N:Nat) (n:qp) {res:Bool} (h:qdI N n=some res):qd ZT (.fn 198) [.agg (nz1 n)] [] (.bool res) []:=by
 unfold qdI at h;refine Ub Tryz.func198 rfl rfl (m:=13) rfl (rs:=[.tmp 2]) rfl (l:=[(0,.agg (nz1 n))]) rfl ?_;refine sg fol (kX []) [.cells (nz1 n)] ?_;refine sq ?_;obtain⟨f,a,h⟩:=bnd h;refine Goes.cut (s':=(ofG 13 (kBL f),[.cells (nz1 n)])) ?_ ?_
 ·obtain⟨j,b,a⟩:=bnd a;rcases wyD a with⟨e,a⟩|⟨e,a⟩
  ·obtain⟨g,c,a⟩:=bnd a;obtain⟨i,d,a⟩:=bnd a;obtain rfl:=si a;exact tr fol [1,3,5,6] (kBL (decide ((i.length:Int)>600))) (ac (cv (qex n b)) (ac (gw e) (ac (cv (qaq N n c)) (ac (cv (qbH g [45] d)) az))))
  obtain rfl:=si a;exact tr fol [1,3] kAc (ac (cv (qex n b)) (ac (gw e) az))
 refine Goes.ret ?_;obtain rfl:=si h;exact(gw2 [.bool f] (Ua tB))
def qaI (N:Nat) (a:qD):Option Bool:=
 ((qdI N a.Num).bind fun b=>
 if b=true then
 some true
 else
 (qdI N a.Den).bind fun c=>
 some c:Option Bool).bind fun d=>
 some d
theorem qf6 (N:Nat) (a:qD) {res:Bool} (h:qaI N a=some res):qd ZT (.fn 127) [.agg (nq1 a)] [] (.bool res) []:=by
 unfold qaI at h;refine Ub Tryz.func127 rfl rfl (m:=11) rfl (rs:=[.tmp 2]) rfl (l:=[(0,.agg (nq1 a))]) rfl ?_;refine sg fol (kX []) [.cells (nq1 a)] ?_;refine sq ?_;obtain⟨f,b,h⟩:=bnd h;refine Goes.cut (s':=(ofG 11 (kBL f),[.cells (nq1 a)])) ?_ ?_
 ·obtain⟨i,c,b⟩:=bnd b;rcases wyB b with⟨e,b⟩|⟨e,b⟩
  ·obtain rfl:=si b;exact tr fol [2,3] kBP (ac (cv (qe9 N a.Num c)) (ac (gw e) az))
  obtain⟨g,d,b⟩:=bnd b;obtain rfl:=si b;exact tr fol [2,3,6] (kBL g) (ac (cv (qe9 N a.Num c)) (ac (gw e) (ac (cv (qe9 N a.Den d)) az)))
 refine Goes.ret ?_;obtain rfl:=si h;exact(gw2 [.bool f] (Ua tB))
def qa8 (N:Nat) (a:qD):Option Str:=
 (vI a).bind fun b=>
 if b=true then
 (ym N a.Num).bind fun c=>
 some c
 else
 (ym N a.Num).bind fun d=>
 (cat d [47]).bind fun e=>
 (ym N a.Den).bind fun f=>
 (cat e f).bind fun g=>
 some g
theorem qg4 (N:Nat) (a:qD) {res:Str} (h:qa8 N a=some res):qd ZT (.fn 128) [.agg (nq1 a)] [] (.str res) []:=by
 unfold qa8 at h;refine Ub Tryz.func128 rfl rfl (m:=16) rfl (rs:=[.tmp 2]) rfl (l:=[(0,.agg (nq1 a))]) rfl ?_;refine sg fol (kX []) [.cells (nq1 a)] ?_;refine sq ?_;obtain⟨n,b,h⟩:=bnd h;refine sq (gr fol [1] (kX (kBQ n)) (ac (cv (xD a b)) az) ?_);refine ihB h (fun o h=>?_) (fun o h=>?_)
 ·obtain⟨j,c,h⟩:=bnd h;refine sq (gr fol [2] [(2,.str j)] (ac (cv (qaq N a.Num c)) az) ?_);refine Goes.ret ?_;obtain rfl:=si h;exact(gw2 [.str j] (Ua tS))
 refine Goes.skip ?_;obtain⟨p,d,h⟩:=bnd h;obtain⟨k,e,h⟩:=bnd h;obtain⟨q,f,h⟩:=bnd h;obtain⟨i,g,h⟩:=bnd h;refine sq (gr fol [2,3,6,7] [(2,.str i)] (ac (cv (qaq N a.Num d)) (ac (hs (.done (.opt (ze ZT .add 9 (.tmp 10) (.const (.string ⟨#[47]⟩)) (.str p) (.str [47]))) (.str k)) (qbc e)) (ac (cv (qaq N a.Den f)) (ac (hs (.done (.opt (ze ZT .add 9 (.tmp 11) (.tmp 14) (.str k) (.str q))) (.str i)) (qbc g)) az)))) ?_);refine Goes.ret ?_;obtain rfl:=si h;exact(gw2 [.str i] (Ua tS))
def qaG (N:Nat) (a:qD):Option (Str×Int):=
 (qaI N a).bind fun b=>
 if b=true then
 some ([],4)
 else
 (qa8 N a).bind fun c=>
 some (c,0)
theorem qcI (N:Nat) (a:qD) {res:Str×Int} (h:qaG N a=some res):qd ZT (.fn 54) [.agg (nq1 a)] [] (.tuple [.str res.1,.i res.2]) []:=by
 unfold qaG at h;refine Ub Tryz.func54 rfl rfl (m:=8) rfl (rs:=[.tmp 2,.tmp 3]) rfl (l:=[(0,.agg (nq1 a))]) rfl ?_;refine sg fol (kX []) [.cells (nq1 a)] ?_;refine sq ?_;obtain⟨e,b,h⟩:=bnd h;refine sq (gr fol [1] (kX [(5,.bool e)]) (ac (cv (qf6 N a b)) az) ?_);refine ihB h (fun f h=>?_) (fun f h=>?_)
 ·refine sh fol [(2,.str []),(3,.i 4)] ?_;refine Goes.ret ?_;obtain rfl:=si h;exact(gw2 [.str [],.i 4] (FzW.tuple (qj.cons (Ua tS) (qj.cons (Ua tI) qj.nil))))
 refine Goes.skip ?_;obtain⟨d,c,h⟩:=bnd h;refine sq (gr fol [1] [(2,.str d),(3,.i 0)] (ac (cv (qg4 N a c)) az) ?_);refine Goes.ret ?_;obtain rfl:=si h;exact(gw2 [.str d,.i 0] (FzW.tuple (qj.cons (Ua tS) (qj.cons (Ua tI) qj.nil))))
end Go.Av
