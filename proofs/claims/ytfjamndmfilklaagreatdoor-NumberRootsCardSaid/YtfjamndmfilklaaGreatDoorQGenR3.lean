/-
  Walks of functions: what each computes, as a plain function.
-/
import Derived.Test.YtfjamndmfilklaaGreatDoorQGenR2
noncomputable section
namespace Go.Av
open Go.Proofs Go.RowKit
set_option linter.unusedSectionVars false
set_option linter.unusedVariables false
set_option linter.unusedSimpArgs false
set_option maxRecDepth 100000
def qa3 (N:Nat) (num:qj) (den:qj):Option qY:=
 (qV den).bind fun k=>
 ((if k<0 then
 (zL num).bind fun i=>
 (zL den).bind fun j=>
 some (i.s,i.w,j.s,j.w)
 else
 some (num.s,num.w,den.s,den.w):Option (Int×(List Int)×Int×(List Int)))).bind fun(d,e,b,c)=>
 (if c.isEmpty=true then
 some (decide (b=1))
 else
 some false:Option Bool).bind fun f=>
 if f=true then
 some (⟨(⟨d,e⟩:qj),(⟨b,c⟩:qj)⟩:qY)
 else
 (qcH N (⟨d,e⟩:qj) (⟨b,c⟩:qj)).bind fun a=>
 (vH N (⟨d,e⟩:qj) a).bind fun g=>
 (vH N (⟨b,c⟩:qj) a).bind fun h=>
 some (⟨g,h⟩:qY)
theorem qbE (N:Nat) (num:qj) (den:qj) {res:qY} (h:qa3 N num den=some res):qb ZT (.fn 63) [.agg (nz1 num),.agg (nz1 den)] [] (.agg (nq1 res)) []:=by
 unfold qa3 at h
 refine Ub Tryz.func63 rfl rfl (m:=34) rfl (rs:=[.cell 4 87]) rfl (l:=[(0,.agg (nz1 num)),(1,.agg (nz1 den))]) rfl ?_
 refine sg fol (kF []) (.cells (nz1 num):: .cells (nz1 den)::(kE [])) ?_
 refine sq ?_
 obtain⟨A,q,h⟩:=bnd h
 refine sq (gr fol [1] (kF (kAw (decide (A<0)))) (ac (cv (jZ den q)) az) ?_)
 obtain⟨B,g6,h⟩:=bnd h
 refine Goes.imp (Q:=fun x s'=>(x= .normal/\ ∃d e c a,(d,e,c,a)=B/\Sub s' (ofG 34 (kF []),(.cells (ni1 d e):: .cells (ni1 c a)::(kE []))))) ?_ ?_
 ·refine ihD g6 (fun C g6=>?_) (fun C g6=>?_)
  ·obtain⟨r,t,g6⟩:=bnd g6
   obtain⟨v,u,g6⟩:=bnd g6
   refine gq fol [1,3,4,5] (kF []) (.cells (nz1 r):: .cells (nz1 v)::(kE [])) (ac (cv (yh num t)) (ac (cv (yh den u)) (ac (hs (.run [0] (qm ZT 85 (.ptr 0 0) (.agg (nz1 r))) (.cells (nz1 num):: .cells (nz1 den)::(kE [])) .undef (.cells (nz1 r):: .cells (nz1 den)::(kE [])) true) (qK (n:=2) (by kernel_rfl) rfl rfl rfl rfl (cac rfl (cac nvc can)) rfl)) (ac (hs (.run [1] (qm ZT 85 (.ptr 1 0) (.agg (nz1 v))) (.cells (nz1 r):: .cells (nz1 den)::(kE [])) .undef (.cells (nz1 r):: .cells (nz1 v)::(kE [])) true) (qK (n:=2) (by kernel_rfl) rfl rfl rfl rfl (cac rfl (cac nvc can)) rfl)) az)))) ?_
   obtain rfl:=si g6
   exact⟨rfl,_,_,_,_,rfl,(Sub.refl _)⟩
  refine Goes.skip ?_
  obtain rfl:=si g6
  exact⟨rfl,_,_,_,_,rfl,(Sub.keep [2,3,4] rfl rfl)⟩
 rintro x s' ⟨rfl,d,e,c,a,rfl,hsub⟩
 try dsimp only at h
 refine Goes.sub hsub ?_
 refine sq ?_
 refine sq ?_
 obtain⟨y,b,h⟩:=bnd h
 refine Goes.cut (s':=(ofG 34 (kF [(20,.bool y)]),(.cells (ni1 d e):: .cells (ni1 c a)::(kE [])))) ?_ ?_
 ·rcases wyB b with⟨j,b⟩|⟨j,b⟩
  ·obtain rfl:=si b
   exact tr fol [2,3] (kF [(20,.bool (decide (c=1)))]) (ac (hs (.done (.opt (qR ZT .eql 83 (.tmp 14) (.const (.slice none 0 0)) (nvl (qa .u64) a) .nilslice)) (.bool a.isEmpty)) (qaL qaF)) (ac (gw j) az))
  obtain rfl:=si b
  exact tr fol [2,3] (kF [(20,.bool false)]) (ac (hs (.done (.opt (qR ZT .eql 83 (.tmp 14) (.const (.slice none 0 0)) (nvl (qa .u64) a) .nilslice)) (.bool a.isEmpty)) (qaL qaF)) (ac (gw j) az))
 refine ihB h (fun z h=>?_) (fun z h=>?_)
 ·refine sq (gq fol [3] (kAR []) [.cells (ni1 d e),.cells (ni1 c a),.cells (ni2 d e c a)] (ac (hs (.run [2] (qm ZT 87 (.ptr 2 0) (.agg (ni2 d e c a))) (.cells (ni1 d e):: .cells (ni1 c a)::(kE [])) .undef [.cells (ni1 d e),.cells (ni1 c a),.cells (ni2 d e c a)] true) (qK (n:=4) (by kernel_rfl) rfl rfl rfl rfl (cac rfl (cac nvc (cac rfl (cac nvc can)))) rfl)) az) ?_)
  refine Goes.ret ?_
  obtain rfl:=si h
  exact(gw2 [.agg (ni2 d e c a)] (FzW.agg (qc.cons (Ua tI) (qc.cons (Ua (qA (qa .u64) _ (nl rfl))) (qc.cons (Ua tI) (qc.cons (Ua (qA (qa .u64) _ (nl rfl))) qc.nil))))))
 refine Goes.skip ?_
 obtain⟨f,k,h⟩:=bnd h
 refine sq (gq fol [2,4] (kF (kBI [])) (.cells (ni1 d e):: .cells (ni1 c a)::(kE [.cells (nz1 f)])) (ac (cv (qhK N (⟨d,e⟩:qj) (⟨c,a⟩:qj) k)) (ac (hs (.run [3] (qm ZT 85 (.ptr 3 0) (.agg (nz1 f))) (.cells (ni1 d e):: .cells (ni1 c a)::(kE [bZ])) .undef (.cells (ni1 d e):: .cells (ni1 c a)::(kE [.cells (nz1 f)])) true) (qK (n:=2) (by kernel_rfl) rfl rfl rfl rfl (cac rfl (cac nvc can)) rfl)) az)) ?_)
 obtain⟨g,o,h⟩:=bnd h
 obtain⟨i,p,h⟩:=bnd h
 refine sq (gq fol [2,5,7] (kAR []) [.cells (ni1 d e),.cells (ni1 c a),.cells (ni2 g.s g.w i.s i.w),.cells (nz1 f)] (ac (cv (qd4 N (⟨d,e⟩:qj) f o)) (ac (cv (qd4 N (⟨c,a⟩:qj) f p)) (ac (hs (.run [2] (qm ZT 87 (.ptr 2 0) (.agg (ni2 g.s g.w i.s i.w))) (.cells (ni1 d e):: .cells (ni1 c a)::(kE [.cells (nz1 f)])) .undef [.cells (ni1 d e),.cells (ni1 c a),.cells (ni2 g.s g.w i.s i.w),.cells (nz1 f)] true) (qK (n:=4) (by kernel_rfl) rfl rfl rfl rfl (cac rfl (cac nvc (cac rfl (cac nvc can)))) rfl)) az))) ?_)
 refine Goes.ret ?_
 obtain rfl:=si h
 exact(gw2 [.agg (ni2 g.s g.w i.s i.w)] (FzW.agg (qc.cons (Ua tI) (qc.cons (Ua (qA (qa .u64) _ (nl rfl))) (qc.cons (Ua tI) (qc.cons (Ua (qA (qa .u64) _ (nl rfl))) qc.nil))))))
def qbb (N:Nat) (a:qY) (b:qY):Option qY:=
 (qQ N a.Num b.Num).bind fun c=>
 (qQ N a.Den b.Den).bind fun d=>
 (qa3 N c d).bind fun e=>
 some e
theorem qgu (N:Nat) (a:qY) (b:qY) {res:qY} (h:qbb N a b=some res):qb ZT (.fn 59) [.agg (nq1 a),.agg (nq1 b)] [] (.agg (nq1 res)) []:=by
 unfold qbb at h
 refine Ub Tryz.func59 rfl rfl (m:=16) rfl (rs:=[.cell 4 87]) rfl (l:=[(0,.agg (nq1 a)),(1,.agg (nq1 b))]) rfl ?_
 refine sg fol (kF []) (.cells (nq1 a):: .cells (nq1 b)::(kE [])) ?_
 obtain⟨g,c,h⟩:=bnd h
 obtain⟨i,d,h⟩:=bnd h
 obtain⟨f,e,h⟩:=bnd h
 refine sq (gq fol [4,9,10,11] (kAR []) [.cells (nq1 a),.cells (nq1 b),.cells (nq1 f)] (ac (cv (zO N a.Num b.Num c)) (ac (cv (zO N a.Den b.Den d)) (ac (cv (qbE N g i e)) (ac (hs (.run [2] (qm ZT 87 (.ptr 2 0) (.agg (nq1 f))) (.cells (nq1 a):: .cells (nq1 b)::(kE [])) .undef [.cells (nq1 a),.cells (nq1 b),.cells (nq1 f)] true) (qK (n:=4) (by kernel_rfl) rfl rfl rfl rfl (cac rfl (cac nvc (cac rfl (cac nvc can)))) rfl)) az)))) ?_)
 refine Goes.ret ?_
 obtain rfl:=si h
 exact(gw2 [.agg (nq1 f)] (FzW.agg (qc.cons (Ua tI) (qc.cons (Ua (qA (qa .u64) _ (nl rfl))) (qc.cons (Ua tI) (qc.cons (Ua (qA (qa .u64) _ (nl rfl))) qc.nil))))))
def qkw (n:Int):Option qY:=
 (qad n).bind fun a=>
 (qb6 a).bind fun b=>
 some b
theorem qpg (n:Int) {res:qY} (h:qkw n=some res):qb ZT (.fn 60) [.i n] [] (.agg (nq1 res)) []:=by
 unfold qkw at h
 refine Ub Tryz.func60 rfl rfl (m:=6) rfl (rs:=[.cell 2 87]) rfl (l:=[(0,.i n)]) rfl ?_
 refine sg fol ((0,.i n)::(kO [])) (kE []) ?_
 obtain⟨d,a,h⟩:=bnd h
 obtain⟨c,b,h⟩:=bnd h
 refine sq (gq fol [1,2,3] (kO []) [.cells (nq1 c)] (ac (cv (vP n a)) (ac (cv (qft d b)) (ac (hs (.run [0] (qm ZT 87 (.ptr 0 0) (.agg (nq1 c))) (kE []) .undef [.cells (nq1 c)] true) (qK (n:=4) (by kernel_rfl) rfl rfl rfl rfl (cac rfl (cac nvc (cac rfl (cac nvc can)))) rfl)) az))) ?_)
 refine Goes.ret ?_
 obtain rfl:=si h
 exact(gw2 [.agg (nq1 c)] (FzW.agg (qc.cons (Ua tI) (qc.cons (Ua (qA (qa .u64) _ (nl rfl))) (qc.cons (Ua tI) (qc.cons (Ua (qA (qa .u64) _ (nl rfl))) qc.nil))))))
def qar (N:Nat) (a:qY):Option qj:=
 (kg N a.Num a.Den).bind fun b=>
 some b.1
theorem qfL (N:Nat) (a:qY) {res:qj} (h:qar N a=some res):qb ZT (.fn 61) [.agg (nq1 a)] [] (.agg (nz1 res)) []:=by
 unfold qar at h
 refine Ub Tryz.func61 rfl rfl (m:=14) rfl (rs:=[.cell 2 85]) rfl (l:=[(0,.agg (nq1 a))]) rfl ?_
 refine sg fol (kAB []) [.cells (nq1 a),bZ] ?_
 obtain⟨b,c,h⟩:=bnd h
 refine sq (gq fol [4,10,11] [(2,.ptr 1 0),(3,.ptr 2 0)] [.cells (nq1 a),bZ,.cells (nz1 b.1),.cells (nz1 b.2)] (ac (cv (yz N a.Num a.Den c)) (ac (hs (.run [2] (qm ZT 85 (.ptr 2 0) (.agg (nz1 b.1))) [.cells (nq1 a),bZ,bZ,bZ] .undef [.cells (nq1 a),bZ,.cells (nz1 b.1),bZ] true) (qK (n:=2) (by kernel_rfl) rfl rfl rfl rfl (cac rfl (cac nvc can)) rfl)) (ac (hs (.run [3] (qm ZT 85 (.ptr 3 0) (.agg (nz1 b.2))) [.cells (nq1 a),bZ,.cells (nz1 b.1),bZ] .undef [.cells (nq1 a),bZ,.cells (nz1 b.1),.cells (nz1 b.2)] true) (qK (n:=2) (by kernel_rfl) rfl rfl rfl rfl (cac rfl (cac nvc can)) rfl)) az))) ?_)
 refine sq (gq fol [1] kBW [.cells (nq1 a),.cells (nz1 b.1),.cells (nz1 b.1),.cells (nz1 b.2)] (ac (hs (.run [1] (qm ZT 85 (.ptr 1 0) (.agg (nz1 b.1))) [.cells (nq1 a),bZ,.cells (nz1 b.1),.cells (nz1 b.2)] .undef [.cells (nq1 a),.cells (nz1 b.1),.cells (nz1 b.1),.cells (nz1 b.2)] true) (qK (n:=2) (by kernel_rfl) rfl rfl rfl rfl (cac rfl (cac nvc can)) rfl)) az) ?_)
 refine Goes.ret ?_
 obtain rfl:=si h
 exact(gw2 [.agg (nz1 b.1)] (FzW.agg (qc.cons (Ua tI) (qc.cons (Ua (qA (qa .u64) _ (nl rfl))) qc.nil))))
def vJ (N:Nat) (a:Str):Option (kK×Int):=
 (qat N a).bind fun n=>
 if(!decide (n=0))=true then
 some ((⟨[],[]⟩:kK),n)
 else
 (yQ N a).bind fun d=>
 (xK d).bind fun p=>
 if p<0 then
 some ((⟨[],[]⟩:kK),3)
 else
 (qaI N d).bind fun e=>
 if e.2=true then
 (qap N e.1 e.1).bind fun o=>
 some (o.1,o.2)
 else
 (qkw 1000000).bind fun q=>
 (qbb N d q).bind fun f=>
 (qar N f).bind fun g=>
 (xD N g).bind fun b=>
 (qad 1000).bind fun h=>
 (qa3 N b h).bind fun i=>
 (qad 1).bind fun j=>
 (jl N b j).bind fun k=>
 (qad 1000).bind fun l=>
 (qa3 N k l).bind fun m=>
 (qap N i m).bind fun c=>
 some (c.1,c.2)
theorem qhX (N:Nat) (a:Str) {res:kK×Int} (h:vJ N a=some res):qb ZT (.fn 8) [.str a] [] (.tuple (kV res.1.Low res.1.High [.i res.2])) []:=by
 unfold vJ at h
 refine Ub Tryz.func8 rfl rfl (m:=48) rfl (rs:=[.cell 2 24,.tmp 3]) rfl (l:=(kAM a [])) rfl ?_
 refine sg fol (kAM a (kO [])) (kN []) ?_
 refine sq ?_
 obtain⟨v,w,h⟩:=bnd h
 refine sq (gr fol [1] (kAM a (kO [(4,.i v)])) (ac (cv (qd1 N a w)) az) ?_)
 refine sh fol (kAM a (kO ((4,.i v)::(kBE (!decide (v=0)))))) ?_
 refine ihB h (fun K h=>?_) (fun K h=>?_)
 ·refine sh fol (kO (kBU v)) ?_
  refine Goes.ret ?_
  obtain rfl:=si h
  exact(gw2 (kBZ [.i v]) (FzW.tuple (qc.cons (FzW.agg (qc.cons (Ua tS) (qc.cons (Ua tS) qc.nil))) (qc.cons (Ua tI) qc.nil))))
 refine Goes.skip ?_
 obtain⟨b,x,h⟩:=bnd h
 refine sq (gq fol [1,3] (kO (kBV [])) (kN [.cells (nq1 b)]) (ac (cv (qaj N a x)) (ac (hs (.run [1] (qm ZT 87 (.ptr 1 0) (.agg (nq1 b))) (kN (kE [])) .undef (kN [.cells (nq1 b)]) true) (qK (n:=4) (by kernel_rfl) rfl rfl rfl rfl (cac rfl (cac nvc (cac rfl (cac nvc can)))) rfl)) az)) ?_)
 refine sq ?_
 obtain⟨L,y,h⟩:=bnd h
 refine sq (gr fol [1] (kO (kBV [(19,.bool (decide (L<0)))])) (ac (cv (qdf b y)) az) ?_)
 refine ihD h (fun M h=>?_) (fun M h=>?_)
 ·refine sh fol (kO [(3,.i 3)]) ?_
  refine Goes.ret ?_
  obtain rfl:=si h
  exact(gw2 (kBZ [.i 3]) (FzW.tuple (qc.cons (FzW.agg (qc.cons (Ua tS) (qc.cons (Ua tS) qc.nil))) (qc.cons (Ua tI) qc.nil))))
 refine Goes.skip ?_
 refine sq ?_
 obtain⟨e,z,h⟩:=bnd h
 refine sq (gq fol [1,6] (kO (kBV (kA9 [(7,.bool e.2)]))) (kN [.cells (nq1 b),.cells (nq1 e.1)]) (ac (cv (qgc N b z)) (ac (hs (.run [2] (qm ZT 87 (.ptr 2 0) (.agg (nq1 e.1))) (kN (.cells (nq1 b)::(kE []))) .undef (kN [.cells (nq1 b),.cells (nq1 e.1)]) true) (qK (n:=4) (by kernel_rfl) rfl rfl rfl rfl (cac rfl (cac nvc (cac rfl (cac nvc can)))) rfl)) az)) ?_)
 refine sh fol (kO (kBV (kA9 [(26,.bool e.2)]))) ?_
 refine ihB h (fun O h=>?_) (fun O h=>?_)
 ·obtain⟨u,A,h⟩:=bnd h
  refine sq (gq fol [2] (kO (kBU u.2)) (kQ u.1.Low u.1.High [.cells (nq1 b),.cells (nq1 e.1)]) (ac (cv (qck N e.1 e.1 A)) az) ?_)
  refine Goes.ret ?_
  obtain rfl:=si h
  exact(gw2 (kV u.1.Low u.1.High [.i u.2]) (FzW.tuple (qc.cons (FzW.agg (qc.cons (Ua tS) (qc.cons (Ua tS) qc.nil))) (qc.cons (Ua tI) qc.nil))))
 refine Goes.skip ?_
 obtain⟨P,B,h⟩:=bnd h
 obtain⟨C,f,h⟩:=bnd h
 obtain⟨D,g,h⟩:=bnd h
 obtain⟨c,j,h⟩:=bnd h
 refine sq (gq fol [1,2,3,4,6] (kO [(8,.ptr 3 0)]) (kN [.cells (nq1 b),.cells (nq1 e.1),.cells (nz1 c)]) (ac (cv (qpg 1000000 B)) (ac (cv (qgu N b P f)) (ac (cv (qfL N C g)) (ac (cv (qbP N D j)) (ac (hs (.run [3] (qm ZT 85 (.ptr 3 0) (.agg (nz1 c))) (kN [.cells (nq1 b),.cells (nq1 e.1),bZ]) .undef (kN [.cells (nq1 b),.cells (nq1 e.1),.cells (nz1 c)]) true) (qK (n:=2) (by kernel_rfl) rfl rfl rfl rfl (cac rfl (cac nvc can)) rfl)) az))))) ?_)
 obtain⟨E,k,h⟩:=bnd h
 obtain⟨F,o,h⟩:=bnd h
 obtain⟨G,p,h⟩:=bnd h
 obtain⟨H,q,h⟩:=bnd h
 obtain⟨I,r,h⟩:=bnd h
 obtain⟨J,s,h⟩:=bnd h
 obtain⟨d,t,h⟩:=bnd h
 refine sq (gq fol [1,2,4,5,6,7,8] (kO (kBU d.2)) (kQ d.1.Low d.1.High [.cells (nq1 b),.cells (nq1 e.1),.cells (nz1 c)]) (ac (cv (vP 1000 k)) (ac (cv (qbE N c E o)) (ac (cv (vP 1 p)) (ac (cv (yO N c G q)) (ac (cv (vP 1000 r)) (ac (cv (qbE N H I s)) (ac (cv (qck N F J t)) az))))))) ?_)
 refine Goes.ret ?_
 obtain rfl:=si h
 exact(gw2 (kV d.1.Low d.1.High [.i d.2]) (FzW.tuple (qc.cons (FzW.agg (qc.cons (Ua tS) (qc.cons (Ua tS) qc.nil))) (qc.cons (Ua tI) qc.nil))))
def qa2 (N:Nat) (k:Int):Option (kK×Int):=
 (if k<1 then
 some true
 else
 some (decide (k>30)):Option Bool).bind fun h=>
 if h=true then
 some ((⟨[],[]⟩:kK),3)
 else
 (cut [51,49,52,49,53,57,50,54,53,51,53,56,57,55,57,51,50,51,56,52,54,50,54,52,51,51,56,51,50,55,57] 0 (w64 (k+1))).bind fun i=>
 (qae N i).bind fun f=>
 (qbW [48] k).bind fun j=>
 (cat [49] j).bind fun l=>
 (qae N l).bind fun g=>
 (qa3 N f g).bind fun b=>
 (qad 1).bind fun c=>
 (jl N f c).bind fun d=>
 (qa3 N d g).bind fun e=>
 (qap N b e).bind fun a=>
 some (a.1,a.2)
theorem qjt (N:Nat) (k:Int) {res:kK×Int} (h:qa2 N k=some res):qb ZT (.fn 9) [.i k] [] (.tuple (kV res.1.Low res.1.High [.i res.2])) []:=by
 unfold qa2 at h
 refine Ub Tryz.func9 rfl rfl (m:=32) rfl (rs:=[.cell 2 24,.tmp 3]) rfl (l:=[(0,.i k)]) rfl ?_
 refine sg fol ((0,.i k)::(kO [])) (kN []) ?_
 refine sq ?_
 refine sq ?_
 obtain⟨B,a,h⟩:=bnd h
 refine Goes.cut (s':=(ofG 32 ((0,.i k)::(kO [(11,.bool B)])),(kN []))) ?_ ?_
 ·rcases wyD a with⟨u,a⟩|⟨u,a⟩
  ·obtain rfl:=si a
   exact tr fol [2] ((0,.i k)::(kO [(11,.bool true)])) (ac (gw u) az)
  obtain rfl:=si a
  exact tr fol [2] ((0,.i k)::(kO [(11,.bool (decide (k>30)))])) (ac (gw u) az)
 refine ihB h (fun C h=>?_) (fun C h=>?_)
 ·refine sh fol (kO [(3,.i 3)]) ?_
  refine Goes.ret ?_
  obtain rfl:=si h
  exact(gw2 (kBZ [.i 3]) (FzW.tuple (qc.cons (FzW.agg (qc.cons (Ua tS) (qc.cons (Ua tS) qc.nil))) (qc.cons (Ua tI) qc.nil))))
 refine Goes.skip ?_
 obtain⟨z,p,h⟩:=bnd h
 obtain⟨c,q,h⟩:=bnd h
 refine sq (gq fol [2,3,5] ((0,.i k)::(kO [(4,.ptr 1 0)])) (kN [.cells (nz1 c)]) (ac (hs (.done (.opt (qL ZT 9 (.str [51,49,52,49,53,57,50,54,53,51,53,56,57,55,57,51,50,51,56,52,54,50,54,52,51,51,56,51,50,55,57]) none (some (.i (w64 (k+1)))) none)) (.str z)) (zI st9 none (some (w64 (k+1))) p)) (ac (cv (qai N z q)) (ac (hs (.run [1] (qm ZT 85 (.ptr 1 0) (.agg (nz1 c))) (kN [bZ]) .undef (kN [.cells (nz1 c)]) true) (qK (n:=2) (by kernel_rfl) rfl rfl rfl rfl (cac rfl (cac nvc can)) rfl)) az))) ?_)
 obtain⟨D,r,h⟩:=bnd h
 obtain⟨A,s,h⟩:=bnd h
 obtain⟨o,t,h⟩:=bnd h
 refine sq (gq fol [1,2,3,5] (kO (kAa [])) (kN [.cells (nz1 c),.cells (nz1 o)]) (ac (cv (qh9 [48] k r)) (ac (hs (.done (.opt (qR ZT .add 9 (.const (.string ⟨#[49]⟩)) (.tmp 18) (.str [49]) (.str D))) (.str A)) (qax s)) (ac (cv (qai N A t)) (ac (hs (.run [2] (qm ZT 85 (.ptr 2 0) (.agg (nz1 o))) (kN [.cells (nz1 c),bZ]) .undef (kN [.cells (nz1 c),.cells (nz1 o)]) true) (qK (n:=2) (by kernel_rfl) rfl rfl rfl rfl (cac rfl (cac nvc can)) rfl)) az)))) ?_)
 obtain⟨v,d,h⟩:=bnd h
 obtain⟨w,e,h⟩:=bnd h
 obtain⟨x,f,h⟩:=bnd h
 obtain⟨y,g,h⟩:=bnd h
 obtain⟨b,j,h⟩:=bnd h
 refine sq (gq fol [2,4,5,7,8] (kO (kBU b.2)) (kQ b.1.Low b.1.High [.cells (nz1 c),.cells (nz1 o)]) (ac (cv (qbE N c o d)) (ac (cv (vP 1 e)) (ac (cv (yO N c w f)) (ac (cv (qbE N x o g)) (ac (cv (qck N v y j)) az))))) ?_)
 refine Goes.ret ?_
 obtain rfl:=si h
 exact(gw2 (kV b.1.Low b.1.High [.i b.2]) (FzW.tuple (qc.cons (FzW.agg (qc.cons (Ua tS) (qc.cons (Ua tS) qc.nil))) (qc.cons (Ua tI) qc.nil))))
def jT (l:List Int):Nat->Int->Option (Unit⊕Int)
 |0,_=>none
 |K+1,a=>
  if a<(l.length:Int)then
  (idx l a).bind fun b=>
  if(!decide (b=0))=true then
  some (.inr b)
  else
  jT l K (w64 (a+1))
  else
  some (.inl ())
def qbH (N:Nat) (l:List Int):Option Int:=
 (jT l N 0).bind (fun
 |(.inl ())=>
 some 0
 |(.inr a)=>
 some a)
theorem qil (N:Nat) (l:List Int) {res:Int} (h:qbH N l=some res):qb ZT (.fn 10) [vl encI l] [] (.i res) []:=by
 unfold qbH at h
 refine Ub Tryz.func10 rfl rfl (m:=19) rfl (rs:=[.tmp 2]) rfl (l:=(kAf l [])) rfl ?_
 refine sh fol (kAf l []) ?_
 refine sq ?_
 refine sh fol (kAf l [(3,.i 0)]) ?_
 refine Goes.block ?_
 obtain⟨c,g2,h⟩:=bnd h
 refine Goes.imp (Q:=fun x s'=>(x= .exit 0/\(.inl ())=c/\Sub s' (ofG 19 [],[]))\/(x= .ret/\ ∃e,(.inr e)=c/\jy ZT [.tmp 2] (.i e) .ret s')) ?_ ?_
 ·refine Uc (fun M s=> ∃(b:Int),s=(ofG 19 (kAf l (kBU b)),[])/\jT l M b=some c) ?_ (m:=N) ⟨_,rfl,g2⟩
  rintro M s ⟨b,rfl,g2⟩
  cases M with
  |zero=>simp only[jT]at g2;cases g2
  |succ M=>
   rw[jT]at g2
   refine sq ?_
   refine sh fol (kAf l [(3,.i b),(7,.bool (decide (b<(l.length:Int))))]) ?_
   refine ihD g2 (fun f g2=>?_) (fun f g2=>?_)
   ·refine Goes.skip ?_
    refine sq (Goes.block ?_)
    obtain⟨d,a,g2⟩:=bnd g2
    refine sq (gr fol [2,3] (kAf l [(3,.i b),(14,.bool (!decide (d=0)))]) (ac (iv jB encI a) (ac (lv 0 ce3 encI a rfl) az)) ?_)
    refine ihB g2 (fun g g2=>?_) (fun g g2=>?_)
    ·refine sq (gr fol [2,3] (kBF d) (ac (iv jB encI a) (ac (lv 0 ce3 encI a rfl) az)) ?_)
     refine Goes.ret ?_
     obtain rfl:=si g2
     exact Or.inr (⟨rfl,_,rfl,(gw2 [.i d] (Ua tI))⟩)
    refine Goes.skip ?_
    refine gh fol (kAf l (kBU (w64 (b+1)))) ?_
    exact⟨M,(ofG 19 (kAf l (kBU (w64 (b+1)))),[]),Nat.lt_succ_self _,(Sub.refl _),_,rfl,g2⟩
   refine Goes.exit ?_
   obtain rfl:=si g2
   exact Or.inl (⟨rfl,rfl,(Sub.keep [] rfl rfl)⟩)
 rintro x s' (⟨rfl,rfl,hsub⟩|⟨rfl,j,rfl,hret⟩)
 ·try dsimp only at h
  refine Goes.sub hsub ?_
  refine sh fol [(2,.i 0)] ?_
  refine Goes.ret ?_
  obtain rfl:=si h
  exact(gw2 [.i 0] (Ua tI))
 try dsimp only at h
 obtain rfl:=si h
 exact hret
def vS (a:Str):Option Int:=
 if(a==[48])=true then
 some 0
 else
 (if(a.length:Int)>0 then
 (idx a 0).bind fun b=>
 some (decide ((b.toNat:Int)=45))
 else
 some false:Option Bool).bind fun c=>
 if c=true then
 some (-1)
 else
 some 1
theorem qaK (a:Str) {res:Int} (h:vS a=some res):qb ZT (.fn 16) [.str a] [] (.i res) []:=by
 unfold vS at h
 refine Ub Tryz.func16 rfl rfl (m:=13) rfl (rs:=[.tmp 2]) rfl (l:=(kAM a [])) rfl ?_
 refine sh fol (kAM a []) ?_
 refine sq ?_
 refine sh fol (kAM a (kA1 (a==[48]))) ?_
 refine ihB h (fun f h=>?_) (fun f h=>?_)
 ·refine sh fol [(2,.i 0)] ?_
  refine Goes.ret ?_
  obtain rfl:=si h
  exact(gw2 [.i 0] (Ua tI))
 refine Goes.skip ?_
 refine sq ?_
 refine sq ?_
 obtain⟨g,b,h⟩:=bnd h
 refine Goes.cut (s':=(ofG 13 (kBE g),[])) ?_ ?_
 ·rcases wyD b with⟨d,b⟩|⟨d,b⟩
  ·obtain⟨e,c,b⟩:=bnd b
   obtain rfl:=si b
   exact tr fol [3,5] (kBE (decide ((e.toNat:Int)=45))) (ac (gw d) (ac (hs (.done (.opt (yj ZT 22 (.str a) (.i 0))) (.int .u8 (e.toNat:Int))) (qaG qlj c)) az))
  obtain rfl:=si b
  exact tr fol [3] [(12,.bool false)] (ac (gw d) az)
 refine ihB h (fun j h=>?_) (fun j h=>?_)
 ·refine sh fol [(2,.i (-1))] ?_
  refine Goes.ret ?_
  obtain rfl:=si h
  exact(gw2 [.i (-1)] (Ua tI))
 refine Goes.skip ?_
 refine sh fol [(2,.i 1)] ?_
 refine Goes.ret ?_
 obtain rfl:=si h
 exact(gw2 [.i 1] (Ua tI))
def jK (b:Str):Nat->Int->Option (Unit⊕Int)
 |0,_=>none
 |K+1,a=>
  if a<(b.length:Int)then
  (idx b a).bind fun c=>
  if(c.toNat:Int)=47 then
  some (.inr a)
  else
  jK b K (w64 (a+1))
  else
  some (.inl ())
def vN (N:Nat) (a:Str):Option Int:=
 (jK a N 0).bind (fun
 |(.inl ())=>
 some (a.length:Int)
 |(.inr b)=>
 some b)
theorem xe (N:Nat) (a:Str) {res:Int} (h:vN N a=some res):qb ZT (.fn 69) [.str a] [] (.i res) []:=by
 unfold vN at h
 refine Ub Tryz.func69 rfl rfl (m:=17) rfl (rs:=[.tmp 2]) rfl (l:=(kAM a [])) rfl ?_
 refine sh fol (kAM a []) ?_
 refine sq ?_
 refine sh fol (kAM a [(3,.i 0)]) ?_
 refine Goes.block ?_
 obtain⟨d,g2,h⟩:=bnd h
 refine Goes.imp (Q:=fun x s'=>(x= .exit 0/\(.inl ())=d/\Sub s' (ofG 17 (kAM a []),[]))\/(x= .ret/\ ∃e,(.inr e)=d/\jy ZT [.tmp 2] (.i e) .ret s')) ?_ ?_
 ·refine Uc (fun M s=> ∃(b:Int),s=(ofG 17 (kAM a (kBU b)),[])/\jK a M b=some d) ?_ (m:=N) ⟨_,rfl,g2⟩
  rintro M s ⟨b,rfl,g2⟩
  cases M with
  |zero=>simp only[jK]at g2;cases g2
  |succ M=>
   rw[jK]at g2
   refine sq ?_
   refine sh fol (kAM a [(3,.i b),(7,.bool (decide (b<(a.length:Int))))]) ?_
   refine ihD g2 (fun g g2=>?_) (fun g g2=>?_)
   ·refine Goes.skip ?_
    refine sq (Goes.block ?_)
    obtain⟨f,c,g2⟩:=bnd g2
    refine sq (gr fol [2] (kAM a ((3,.i b)::(kBO (decide ((f.toNat:Int)=47))))) (ac (hs (.done (.opt (yj ZT 9 (.str a) (.i b))) (.int .u8 (f.toNat:Int))) (qaG st9 c)) az) ?_)
    refine ihD g2 (fun j g2=>?_) (fun j g2=>?_)
    ·refine sh fol (kBF b) ?_
     refine Goes.ret ?_
     obtain rfl:=si g2
     exact Or.inr (⟨rfl,_,rfl,(gw2 [.i b] (Ua tI))⟩)
    refine Goes.skip ?_
    refine gh fol (kAM a (kBU (w64 (b+1)))) ?_
    exact⟨M,(ofG 17 (kAM a (kBU (w64 (b+1)))),[]),Nat.lt_succ_self _,(Sub.refl _),_,rfl,g2⟩
   refine Goes.exit ?_
   obtain rfl:=si g2
   exact Or.inl (⟨rfl,rfl,(Sub.keep [0] rfl rfl)⟩)
 rintro x s' (⟨rfl,rfl,hsub⟩|⟨rfl,k,rfl,hret⟩)
 ·try dsimp only at h
  refine Goes.sub hsub ?_
  refine sh fol (kBF (a.length:Int)) ?_
  refine Goes.ret ?_
  obtain rfl:=si h
  exact(gw2 [.i (a.length:Int)] (Ua tI))
 try dsimp only at h
 obtain rfl:=si h
 exact hret
def jR (a:Str):Nat->Int->Int->Option Int
 |0,_,_=>none
 |K+1,c,b=>
  if b<(a.length:Int)then
  (idx a b).bind fun d=>
  jR a K (w64 ((w64 ((w64 (10*c))+(w64 (d.toNat:Int))))-48)) (w64 (b+1))
  else
  some c
def xn (N:Nat) (a:Str):Option Int:=
 (jR a N 0 0).bind fun b=>
 some b
theorem qbe (N:Nat) (a:Str) {res:Int} (h:xn N a=some res):qb ZT (.fn 197) [.str a] [] (.i res) []:=by
 unfold xn at h
 refine Ub Tryz.func197 rfl rfl (m:=20) rfl (rs:=[.tmp 2]) rfl (l:=(kAM a [])) rfl ?_
 refine sh fol (kAM a []) ?_
 refine sh fol (kAM a [(3,.i 0)]) ?_
 refine sq ?_
 refine sh fol (kAM a [(3,.i 0),(4,.i 0)]) ?_
 refine Goes.block ?_
 obtain⟨g,g4,h⟩:=bnd h
 refine Goes.imp (Q:=fun x s'=>(x= .exit 0/\ ∃d,d=g/\Sub s' (ofG 20 (kBU d),[]))) ?_ ?_
 ·refine Uc (fun M s=> ∃(c:Int) (b:Int),s=(ofG 20 (kAM a [(3,.i c),(4,.i b)]),[])/\jR a M c b=some g) ?_ (m:=N) ⟨_,_,rfl,g4⟩
  rintro M s ⟨c,b,rfl,g4⟩
  cases M with
  |zero=>simp only[jR]at g4;cases g4
  |succ M=>
   rw[jR]at g4
   refine sq ?_
   refine sh fol (kAM a ((3,.i c)::(4,.i b)::(kAw (decide (b<(a.length:Int)))))) ?_
   refine ihD g4 (fun j g4=>?_) (fun j g4=>?_)
   ·refine Goes.skip ?_
    refine sq (Goes.block ?_)
    obtain⟨f,e,g4⟩:=bnd g4
    refine gr fol [4] (kAM a [(3,.i (w64 ((w64 ((w64 (10*c))+(w64 (f.toNat:Int))))-48))),(4,.i b)]) (ac (hs (.done (.opt (yj ZT 9 (.str a) (.i b))) (.int .u8 (f.toNat:Int))) (qaG st9 e)) az) ?_
    refine gh fol (kAM a [(3,.i (w64 ((w64 ((w64 (10*c))+(w64 (f.toNat:Int))))-48))),(4,.i (w64 (b+1)))]) ?_
    exact⟨M,(ofG 20 (kAM a [(3,.i (w64 ((w64 ((w64 (10*c))+(w64 (f.toNat:Int))))-48))),(4,.i (w64 (b+1)))]),[]),Nat.lt_succ_self _,(Sub.refl _),_,_,rfl,g4⟩
   refine Goes.exit ?_
   obtain rfl:=si g4
   exact⟨rfl,_,rfl,(Sub.keep [3] rfl rfl)⟩
 rintro x s' ⟨rfl,d,rfl,hsub⟩
 refine Goes.sub hsub ?_
 refine sh fol (kBF d) ?_
 refine Goes.ret ?_
 obtain rfl:=si h
 exact(gw2 [.i d] (Ua tI))
def yE:Nat->(List Int)->Option (List Int)
 |0,_=>none
 |K+1,a=>
  (if(a.length:Int)>0 then
  (idx a (w64 ((a.length:Int)-1))).bind fun b=>
  some (decide (b=0))
  else
  some false:Option Bool).bind fun c=>
  if c=true then
  (cut a 0 (w64 ((a.length:Int)-1))).bind fun d=>
  yE K d
  else
  some a
def vW (N:Nat) (w:List Int):Option (List Int):=
 (yE N w).bind fun a=>
 some a
theorem yI (N:Nat) (w:List Int) {res:List Int} (h:vW N w=some res):qb ZT (.fn 201) [vl encI w] [] (vl encI res) []:=by
 unfold vW at h
 refine Ub Tryz.func201 rfl rfl (m:=21) rfl (rs:=[.tmp 2]) rfl (l:=(kAf w [])) rfl ?_
 refine sh fol (kAf w []) ?_
 refine sq (Goes.block ?_)
 obtain⟨j,g3,h⟩:=bnd h
 refine Goes.imp (Q:=fun x s'=>(x= .exit 0/\ ∃d,d=j/\Sub s' (ofG 21 (kAf d []),[]))) ?_ ?_
 ·refine Uc (fun M s=> ∃(b:List Int),s=(ofG 21 (kAf b []),[])/\yE M b=some j) ?_ (m:=N) ⟨_,rfl,g3⟩
  rintro M s ⟨b,rfl,g3⟩
  cases M with
  |zero=>simp only[yE]at g3;cases g3
  |succ M=>
   rw[yE]at g3
   refine sq ?_
   refine sq ?_
   obtain⟨k,a,g3⟩:=bnd g3
   refine Goes.cut (s':=(ofG 21 (kAf b [(14,.bool k)]),[])) ?_ ?_
   ·rcases wyD a with⟨f,a⟩|⟨f,a⟩
    ·obtain⟨n,c,a⟩:=bnd a
     obtain rfl:=si a
     exact tr fol [3,8,9] (kAf b [(14,.bool (decide (n=0)))]) (ac (gw f) (ac (iv jB encI c) (ac (lv 0 ce3 encI c rfl) az)))
    obtain rfl:=si a
    exact tr fol [3] (kAf b [(14,.bool false)]) (ac (gw f) az)
   refine ihB g3 (fun o g3=>?_) (fun o g3=>?_)
   ·refine Goes.skip ?_
    refine Goes.block ?_
    obtain⟨g,e,g3⟩:=bnd g3
    refine gr fol [4] (kAf g []) (ac (hs (.done (.opt (qL ZT 60 (vl encI b) none (some (.i (w64 ((b.length:Int)-1)))) none)) (vl encI g)) (qlP jB (E:=encI) rfl none (some (w64 ((b.length:Int)-1))) e)) az) ?_
    exact⟨M,(ofG 21 (kAf g []),[]),Nat.lt_succ_self _,(Sub.refl _),_,rfl,g3⟩
   refine Goes.exit ?_
   obtain rfl:=si g3
   exact⟨rfl,_,rfl,(Sub.keep [0] rfl rfl)⟩
 rintro x s' ⟨rfl,d,rfl,hsub⟩
 refine Goes.sub hsub ?_
 refine sh fol [(2,vl encI d)] ?_
 refine Goes.ret ?_
 obtain rfl:=si h
 exact(gw2 [vl encI d] (Ua (qw encI _ (nl rfl))))
def zl (N:Nat) (neg:Bool) (w:List Int):Option qz:=
 (vW N w).bind fun a=>
 (if neg=true then
 some (decide ((a.length:Int)>0))
 else
 some false:Option Bool).bind fun b=>
 some (⟨b,a⟩:qz)
theorem zA (N:Nat) (neg:Bool) (w:List Int) {res:qz} (h:zl N neg w=some res):qb ZT (.fn 198) (kAg neg w) [] (.agg (kAg res.neg res.w)) []:=by
 unfold zl at h
 refine Ub Tryz.func198 rfl rfl (m:=15) rfl (rs:=[.cell 4 107]) rfl (l:=[(0,.bool neg),(1,vl encI w)]) rfl ?_
 refine sg fol ((0,.bool neg)::(1,vl encI w)::(kX [])) (kP []) ?_
 obtain⟨b,c,h⟩:=bnd h
 refine sq (gr fol [1] ((0,.bool neg)::(1,vl encI b)::(kX [])) (ac (cv (yI N w c)) az) ?_)
 refine sq ?_
 obtain⟨e,a,h⟩:=bnd h
 refine Goes.cut (s':=(ofG 15 (kX []),(kAW e b []))) ?_ ?_
 ·rcases wyB a with⟨d,a⟩|⟨d,a⟩
  ·obtain rfl:=si a
   exact yL.rq fol [1] (kX []) (kAW (decide ((b.length:Int)>0)) b []) (ac (gw d) az)
  obtain rfl:=si a
  exact yL.rq fol [1] (kX []) [.cells [.bool false,vl encI b]] (ac (gw d) az)
 refine Goes.ret ?_
 obtain rfl:=si h
 exact(gw2 [.agg (kAg e b)] (FzW.agg (qc.cons (Ua tB) (qc.cons (Ua (qw encI _ (nl rfl))) qc.nil))))
def yg (N:Nat):Nat->(List Int)->Str->Option ((List Int)×Str)
 |0,_,_=>none
 |K+1,f,a=>
  if(a.length:Int)>9 then
  (cut a (w64 ((a.length:Int)-9)) (a.length:Int)).bind fun b=>
  (xn N b).bind fun c=>
  (app 8 f [c]).bind fun d=>
  (cut a 0 (w64 ((a.length:Int)-9))).bind fun e=>
  yg N K d e
  else
  some (f,a)
def qas (N:Nat) (a:Str):Option qz:=
 (if(a.length:Int)>0 then
 (idx a 0).bind fun h=>
 some (decide ((h.toNat:Int)=45))
 else
 some false:Option Bool).bind fun g=>
 ((if g=true then
 (cut a 1 (a.length:Int)).bind fun i=>
 some i
 else
 some a:Option Str)).bind fun j=>
 (yg N N ([]:List Int) j).bind fun(b,c)=>
 (xn N c).bind fun d=>
 (app 8 b [d]).bind fun e=>
 (zl N g e).bind fun f=>
 some f
theorem qco (N:Nat) (k:Str) {res:qz} (h:qas N k=some res):qb ZT (.fn 145) [.str k] [] (.agg (kAg res.neg res.w)) []:=by
 unfold qas at h
 refine Ub Tryz.func145 rfl rfl (m:=40) rfl (rs:=[.cell 2 107]) rfl (l:=(kAM k [])) rfl ?_
 refine sg fol (kAM k (kO [])) (kP []) ?_
 refine sq ?_
 obtain⟨e,b,h⟩:=bnd h
 refine Goes.cut (s':=(ofG 40 (kAM k (kO (kBQ e []))),(kP []))) ?_ ?_
 ·rcases wyD b with⟨H,b⟩|⟨H,b⟩
  ·obtain⟨J,B,b⟩:=bnd b
   obtain rfl:=si b
   exact tr fol [3,5] (kAM k (kO (kBQ (decide ((J.toNat:Int)=45)) []))) (ac (gw H) (ac (hs (.done (.opt (yj ZT 9 (.str k) (.i 0))) (.int .u8 (J.toNat:Int))) (qaG st9 B)) az))
  obtain rfl:=si b
  exact tr fol [3] (kAM k (kO [(3,.bool false)])) (ac (gw H) az)
 refine sq ?_
 refine sh fol (kAM k (kO (kBQ e (kBO e)))) ?_
 obtain⟨L,g6,h⟩:=bnd h
 refine Goes.imp (Q:=fun x s'=>(x= .normal/\ ∃C,C=L/\Sub s' (ofG 40 (kAM C (kO (kBQ e []))),(kP [])))) ?_ ?_
 ·refine ihB g6 (fun O g6=>?_) (fun O g6=>?_)
  ·obtain⟨K,D,g6⟩:=bnd g6
   refine gr fol [1] (kAM K (kO (kBQ e []))) (ac (hs (.done (.opt (qL ZT 9 (.str k) (some (.i 1)) none none)) (.str K)) (zI st9 (some 1) none D)) az) ?_
   obtain rfl:=si g6
   exact⟨rfl,_,rfl,(Sub.refl _)⟩
  refine Goes.skip ?_
  obtain rfl:=si g6
  exact⟨rfl,_,rfl,(Sub.keep [0,2,3] rfl rfl)⟩
 rintro x s' ⟨rfl,C,rfl,hsub⟩
 refine Goes.sub hsub ?_
 refine sh fol (kAM C (kO (kBQ e [(4,.nilslice)]))) ?_
 refine sq (Goes.block ?_)
 obtain⟨F,g13,h⟩:=bnd h
 refine Goes.imp (Q:=fun x s'=>(x= .exit 0/\ ∃f n,(f,n)=F/\Sub s' (ofG 40 (kAM n (kO (kBQ e [(4,.gslice 1 f.length 1)]))),(kP (kC f []))))) ?_ ?_
 ·refine Goes.sub (s':=(ofG 40 (kAM C (kO (kBQ e [(4,.gslice 1 ([]:List Int).length 1)]))),(kP kBB))) (Sub.norm [] [some 0,none] rfl rfl (.keep (.same nS) (.kp (.keep (.same nB) (.keep .nil .nil)))) (.kb rfl (.same sn) (.fresh .nil))) ?_
  refine Uc (fun M s=> ∃(p:List Int) (a:Str),s=(ofG 40 (kAM a (kO (kBQ e [(4,.gslice 1 p.length 1)]))),(kP (kC p [])))/\yg N M p a=some F) ?_ (m:=N) ⟨_,_,rfl,g13⟩
  rintro M s ⟨p,a,rfl,g13⟩
  cases M with
  |zero=>simp only[yg]at g13;cases g13
  |succ M=>
   rw[yg]at g13
   refine sq ?_
   refine sh fol (kAM a (kO (kBQ e [(4,.gslice 1 p.length 1),(18,.bool (decide ((a.length:Int)>9)))]))) ?_
   refine ihD g13 (fun I g13=>?_) (fun I g13=>?_)
   ·refine Goes.skip ?_
    refine Goes.block ?_
    obtain⟨G,q,g13⟩:=bnd g13
    obtain⟨o,r,g13⟩:=bnd g13
    obtain⟨g,t,g13⟩:=bnd g13
    refine sq (gq fol [5,6,8] (kAM a (kO (kBQ e [(4,.gslice 3 g.length 1)]))) (kP (kBC o (kC g []))) (ac (hs (.done (.opt (qL ZT 9 (.str a) (some (.i (w64 ((a.length:Int)-9)))) none none)) (.str G)) (zI st9 (some (w64 ((a.length:Int)-9))) none q)) (ac (cv (qbe N G r)) (ac (hs (.run [1,2] (xX ZT [60,60] (.gslice 1 p.length 1) (.slice 2 0 1 1 1)) (kP (kC p [.cells [.i o]])) (.gslice 3 g.length 1) (kP (kBC o (kC g []))) true) (qcD jB (E:=encI) rfl (qhI (E:=encI) (ys:=[o]) rfl rfl rfl rfl) (qiN (E:=encI) (l:=p) rfl rfl rfl t rfl))) az))) ?_)
    obtain⟨u,v,g13⟩:=bnd g13
    refine gr fol [4] (kAM u (kO (kBQ e [(4,.gslice 3 g.length 1)]))) (ac (hs (.done (.opt (qL ZT 9 (.str a) none (some (.i (w64 ((a.length:Int)-9)))) none)) (.str u)) (zI st9 none (some (w64 ((a.length:Int)-9))) v)) az) ?_
    exact⟨M,(ofG 40 (kAM u (kO (kBQ e [(4,.gslice 1 g.length 1)]))),(kP (kC g []))),Nat.lt_succ_self _,(Sub.norm [] [some 0,some 3] rfl rfl (.keep (.same nS) (.kp (.keep (.same nB) (.keep (.gslice rfl) .nil)))) (.kb rfl (.same sn) (.ks .nil))),_,_,rfl,g13⟩
   refine Goes.exit ?_
   obtain rfl:=si g13
   exact⟨rfl,_,_,rfl,(Sub.keep [0,2,3,4] rfl rfl)⟩
 rintro x s' ⟨rfl,f,n,rfl,hsub⟩
 try dsimp only at h
 refine Goes.sub hsub ?_
 obtain⟨j,y,h⟩:=bnd h
 obtain⟨d,z,h⟩:=bnd h
 obtain⟨c,A,h⟩:=bnd h
 refine sq (gq fol [3,5,6] (kO []) (kAW c.neg c.w (kBC j (kAc d))) (ac (cv (qbe N n y)) (ac (hs (.run [1,2] (xX ZT [60,60] (.gslice 1 f.length 1) (.slice 2 0 1 1 1)) (kP (kC f [.cells [.i j]])) (.gslice 3 d.length 1) (kP (kBC j (kC d []))) true) (qcD jB (E:=encI) rfl (qhI (E:=encI) (ys:=[j]) rfl rfl rfl rfl) (qiN (E:=encI) (l:=f) rfl rfl rfl z rfl))) (ac (hs (.callF 198 [.bool e,.gslice 3 d.length 1] (kP (kBC j (kC d []))) [3] (kAg e d) (.agg (kAg c.neg c.w))) (qaH (FzL.cons (Fz.still tB) (FzL.cons (Fz.gs (E:=encI) rfl rfl (nl rfl)) FzL.nil)) (zA N e d A) (Still.agg (AllST.cons tB (AllST.cons (qw encI _ (nl rfl)) AllST.nil))))) az))) ?_)
 refine Goes.sub (show Sub (ofG 40 (kO []),(kAW c.neg c.w (kBC j (kAc d)))) (ofG 40 (kO []),(kAW c.neg c.w []))from(Sub.norm [] [some 0] rfl rfl (.kp .nil) (.kb rfl (.same sn) .nil))) ?_
 refine Goes.ret ?_
 obtain rfl:=si h
 exact(gw2 [.agg (kAg c.neg c.w)] (FzW.agg (qc.cons (Ua tB) (qc.cons (Ua (qw encI _ (nl rfl))) qc.nil))))
def jW:Nat->(List Int)->Int->Option (List Int)
 |0,_,_=>none
 |K+1,b,a=>
  if(!decide (a=0))=true then
  ((if(a.tmod 1000000000)<0 then
  some (w64 (0-(a.tmod 1000000000)))
  else
  some (a.tmod 1000000000):Option Int)).bind fun c=>
  (app 8 b [c]).bind fun d=>
  jW K d (w64 (a.tdiv 1000000000))
  else
  some b
def qag (N:Nat) (n:Int):Option qz:=
 (jW N ([]:List Int) n).bind fun b=>
 (zl N (decide (n<0)) b).bind fun a=>
 some a
theorem qcu (N:Nat) (n:Int) {res:qz} (h:qag N n=some res):qb ZT (.fn 146) [.i n] [] (.agg (kAg res.neg res.w)) []:=by
 unfold qag at h
 refine Ub Tryz.func146 rfl rfl (m:=25) rfl (rs:=[.cell 2 107]) rfl (l:=[(0,.i n)]) rfl ?_
 refine sg fol ((0,.i n)::(kO [])) (kP []) ?_
 refine sh fol ((0,.i n)::(kO [(3,.nilslice)])) ?_
 refine sh fol ((0,.i n)::(kO ((3,.nilslice)::(kA1 (decide (n<0)))))) ?_
 refine sq (Goes.block ?_)
 obtain⟨k,g4,h⟩:=bnd h
 refine Goes.imp (Q:=fun x s'=>(x= .exit 0/\ ∃d,d=k/\Sub s' (ofG 25 (kO (kAu d (decide (n<0)) [])),(kP (kC d []))))) ?_ ?_
 ·refine Goes.sub (s':=(ofG 25 ((0,.i n)::(kO ((3,.gslice 1 ([]:List Int).length 1)::(kA1 (decide (n<0)))))),(kP kBB))) (Sub.norm [] [some 0,none] rfl rfl (.keep (.same nI) (.kp (.keep .nil (.keep (.same nB) .nil)))) (.kb rfl (.same sn) (.fresh .nil))) ?_
  refine Uc (fun M s=> ∃(c:List Int) (b:Int),s=(ofG 25 ((0,.i b)::(kO (kAu c (decide (n<0)) []))),(kP (kC c [])))/\jW M c b=some k) ?_ (m:=N) ⟨_,_,rfl,g4⟩
  rintro M s ⟨c,b,rfl,g4⟩
  cases M with
  |zero=>simp only[jW]at g4;cases g4
  |succ M=>
   rw[jW]at g4
   refine sq ?_
   refine sh fol ((0,.i b)::(kO (kAu c (decide (n<0)) [(9,.bool (!decide (b=0)))]))) ?_
   refine ihB g4 (fun o g4=>?_) (fun o g4=>?_)
   ·refine Goes.skip ?_
    refine Goes.block ?_
    refine sh fol ((0,.i b)::(kO (kAu c (decide (n<0)) (kBG (b.tmod 1000000000))))) ?_
    refine sq ?_
    refine sh fol ((0,.i b)::(kO (kAu c (decide (n<0)) ((5,.i (b.tmod 1000000000))::(kBO (decide ((b.tmod 1000000000)<0))))))) ?_
    obtain⟨p,g7,g4⟩:=bnd g4
    refine Goes.imp (Q:=fun x s'=>(x= .normal/\ ∃e,e=p/\Sub s' (ofG 25 ((0,.i b)::(kO (kAu c (decide (n<0)) (kBG e)))),(kP (kC c []))))) ?_ ?_
    ·refine ihD g7 (fun q g7=>?_) (fun q g7=>?_)
     ·refine gh fol ((0,.i b)::(kO (kAu c (decide (n<0)) (kBG (w64 (0-(b.tmod 1000000000))))))) ?_
      obtain rfl:=si g7
      exact⟨rfl,_,rfl,(Sub.refl _)⟩
     refine Goes.skip ?_
     obtain rfl:=si g7
     exact⟨rfl,_,rfl,(Sub.keep [0,2,3,4,5] rfl rfl)⟩
    rintro x s' ⟨rfl,e,rfl,hsub⟩
    refine Goes.sub hsub ?_
    obtain⟨f,j,g4⟩:=bnd g4
    refine sq (gq fol [3] ((0,.i b)::(kO ((3,.gslice 3 f.length 1)::(kA1 (decide (n<0)))))) (kP (kBC e (kC f []))) (ac (hs (.run [1,2] (xX ZT [60,60] (.gslice 1 c.length 1) (.slice 2 0 1 1 1)) (kP (kC c [.cells [.i e]])) (.gslice 3 f.length 1) (kP (kBC e (kC f []))) true) (qcD jB (E:=encI) rfl (qhI (E:=encI) (ys:=[e]) rfl rfl rfl rfl) (qiN (E:=encI) (l:=c) rfl rfl rfl j rfl))) az) ?_)
    refine gh fol ((0,.i (w64 (b.tdiv 1000000000)))::(kO ((3,.gslice 3 f.length 1)::(kA1 (decide (n<0)))))) ?_
    exact⟨M,(ofG 25 ((0,.i (w64 (b.tdiv 1000000000)))::(kO (kAu f (decide (n<0)) []))),(kP (kC f []))),Nat.lt_succ_self _,(Sub.norm [] [some 0,some 3] rfl rfl (.keep (.same nI) (.kp (.keep (.gslice rfl) (.keep (.same nB) .nil)))) (.kb rfl (.same sn) (.ks .nil))),_,_,rfl,g4⟩
   refine Goes.exit ?_
   obtain rfl:=si g4
   exact⟨rfl,_,rfl,(Sub.keep [2,3,4] rfl rfl)⟩
 rintro x s' ⟨rfl,d,rfl,hsub⟩
 refine Goes.sub hsub ?_
 obtain⟨a,g,h⟩:=bnd h
 refine sq (gq fol [2] (kO []) (kAW a.neg a.w (kAc d)) (ac (hs (.callF 198 [.bool (decide (n<0)),.gslice 1 d.length 1] (kP (kC d [])) [1] (kAg (decide (n<0)) d) (.agg (kAg a.neg a.w))) (qaH (FzL.cons (Fz.still tB) (FzL.cons (Fz.gs (E:=encI) rfl rfl (nl rfl)) FzL.nil)) (zA N (decide (n<0)) d g) (Still.agg (AllST.cons tB (AllST.cons (qw encI _ (nl rfl)) AllST.nil))))) az) ?_)
 refine Goes.sub (show Sub (ofG 25 (kO []),(kAW a.neg a.w (kAc d))) (ofG 25 (kO []),(kAW a.neg a.w []))from(Sub.norm [] [some 0] rfl rfl (.kp .nil) (.kb rfl (.same sn) .nil))) ?_
 refine Goes.ret ?_
 obtain rfl:=si h
 exact(gw2 [.agg (kAg a.neg a.w)] (FzW.agg (qc.cons (Ua tB) (qc.cons (Ua (qw encI _ (nl rfl))) qc.nil))))
def z8 (N:Nat) (a:Str):Option (qz×qz):=
 (vN N a).bind fun b=>
 if b=(a.length:Int)then
 (qas N a).bind fun c=>
 (qag N 1).bind fun d=>
 some (c,d)
 else
 (cut a 0 b).bind fun e=>
 (qas N e).bind fun f=>
 (cut a (w64 (b+1)) (a.length:Int)).bind fun g=>
 (qas N g).bind fun h=>
 some (f,h)
theorem vZ (N:Nat) (a:Str) {res:qz×qz} (h:z8 N a=some res):qb ZT (.fn 71) [.str a] [] (.tuple (kAl res.1.neg res.1.w res.2.neg res.2.w)) []:=by
 unfold z8 at h
 refine Ub Tryz.func71 rfl rfl (m:=25) rfl (rs:=[.cell 2 107,.cell 3 107]) rfl (l:=(kAM a [])) rfl ?_
 refine sg fol (kAM a (kO (kAV []))) (kP (kP [])) ?_
 refine sh fol (kO (kAV (kAq a))) ?_
 obtain⟨b,c,h⟩:=bnd h
 refine sq (gr fol [1] (kO (kAV ((4,.str a)::(kBG b)))) (ac (cv (xe N a c)) az) ?_)
 refine sq ?_
 refine sh fol (kO (kAV ((4,.str a)::(5,.i b)::(kBE (decide (b=(a.length:Int))))))) ?_
 refine ihD h (fun t h=>?_) (fun t h=>?_)
 ·obtain⟨n,d,h⟩:=bnd h
  obtain⟨o,e,h⟩:=bnd h
  refine sq (gq fol [1,2] (kO (kAV [])) (kL n.neg n.w o.neg o.w []) (ac (cv (qco N a d)) (ac (cv (qcu N 1 e)) az)) ?_)
  refine Goes.ret ?_
  obtain rfl:=si h
  exact(gw2 (kAl n.neg n.w o.neg o.w) (FzW.tuple (qc.cons (FzW.agg (qc.cons (Ua tB) (qc.cons (Ua (qw encI _ (nl rfl))) qc.nil))) (qc.cons (FzW.agg (qc.cons (Ua tB) (qc.cons (Ua (qw encI _ (nl rfl))) qc.nil))) qc.nil))))
 refine Goes.skip ?_
 obtain⟨r,f,h⟩:=bnd h
 obtain⟨p,g,h⟩:=bnd h
 obtain⟨s,j,h⟩:=bnd h
 obtain⟨q,k,h⟩:=bnd h
 refine sq (gq fol [2,3,7,8] (kO (kAV [])) (kL p.neg p.w q.neg q.w []) (ac (hs (.done (.opt (qL ZT 9 (.str a) none (some (.i b)) none)) (.str r)) (zI st9 none (some b) f)) (ac (cv (qco N r g)) (ac (hs (.done (.opt (qL ZT 9 (.str a) (some (.i (w64 (b+1)))) none none)) (.str s)) (zI st9 (some (w64 (b+1))) none j)) (ac (cv (qco N s k)) az)))) ?_)
 refine Goes.ret ?_
 obtain rfl:=si h
 exact(gw2 (kAl p.neg p.w q.neg q.w) (FzW.tuple (qc.cons (FzW.agg (qc.cons (Ua tB) (qc.cons (Ua (qw encI _ (nl rfl))) qc.nil))) (qc.cons (FzW.agg (qc.cons (Ua tB) (qc.cons (Ua (qw encI _ (nl rfl))) qc.nil))) qc.nil))))
def qW (a:List Int) (b:List Int):Nat->Int->Option (Unit⊕Int)
 |0,_=>none
 |K+1,c=>
  if c>=0 then
  (idx a c).bind fun d=>
  (idx b c).bind fun e=>
  if d<e then
  some (.inr (-1))
  else
  if d>e then
  some (.inr 1)
  else
  qW a b K (w64 (c-1))
  else
  some (.inl ())
def ji (N:Nat) (a:List Int) (b:List Int):Option Int:=
 if(!decide ((a.length:Int)=(b.length:Int)))=true then
 if(a.length:Int)<(b.length:Int)then
 some (-1)
 else
 some 1
 else
 (qW a b N (w64 ((a.length:Int)-1))).bind (fun
 |(.inl ())=>
 some 0
 |(.inr c)=>
 some c)
theorem qbd (N:Nat) (a:List Int) (b:List Int) {res:Int} (h:ji N a b=some res):qb ZT (.fn 199) (kBD a b) [] (.i res) []:=by
 unfold ji at h
 refine Ub Tryz.func199 rfl rfl (m:=41) rfl (rs:=[.tmp 4]) rfl (l:=(kI a b [])) rfl ?_
 refine sh fol (kI a b []) ?_
 refine sq ?_
 refine sh fol (kI a b (kBP (!decide ((a.length:Int)=(b.length:Int))))) ?_
 refine ihB h (fun o h=>?_) (fun o h=>?_)
 ·refine sq ?_
  refine sh fol (kBN (decide ((a.length:Int)<(b.length:Int)))) ?_
  refine ihD h (fun p h=>?_) (fun p h=>?_)
  ·refine sh fol [(4,.i (-1))] ?_
   refine Goes.ret ?_
   obtain rfl:=si h
   exact(gw2 [.i (-1)] (Ua tI))
  refine Goes.skip ?_
  refine sh fol [(4,.i 1)] ?_
  refine Goes.ret ?_
  obtain rfl:=si h
  exact(gw2 [.i 1] (Ua tI))
 refine Goes.skip ?_
 refine sq ?_
 refine sh fol (kI a b (kBG (w64 ((a.length:Int)-1)))) ?_
 refine Goes.block ?_
 obtain⟨f,g4,h⟩:=bnd h
 refine Goes.imp (Q:=fun x s'=>(x= .exit 0/\(.inl ())=f/\Sub s' (ofG 41 [],[]))\/(x= .ret/\ ∃j,(.inr j)=f/\jy ZT [.tmp 4] (.i j) .ret s')) ?_ ?_
 ·refine Uc (fun M s=> ∃(e:Int),s=(ofG 41 (kI a b (kBG e)),[])/\qW a b M e=some f) ?_ (m:=N) ⟨_,rfl,g4⟩
  rintro M s ⟨e,rfl,g4⟩
  cases M with
  |zero=>simp only[qW]at g4;cases g4
  |succ M=>
   rw[qW]at g4
   refine sq ?_
   refine sh fol (kI a b [(5,.i e),(20,.bool (decide (e>=0)))]) ?_
   refine ihD g4 (fun q g4=>?_) (fun q g4=>?_)
   ·refine Goes.skip ?_
    refine sq (Goes.block ?_)
    refine sq ?_
    obtain⟨k,c,g4⟩:=bnd g4
    obtain⟨n,d,g4⟩:=bnd g4
    refine sq (gr fol [2,3,6,7] (kI a b [(5,.i e),(31,.bool (decide (k<n)))]) (ac (iv jB encI c) (ac (lv 0 ce3 encI c rfl) (ac (iv jB encI d) (ac (lv 0 ce3 encI d rfl) az)))) ?_)
    refine ihD g4 (fun r g4=>?_) (fun r g4=>?_)
    ·refine sh fol [(4,.i (-1))] ?_
     refine Goes.ret ?_
     obtain rfl:=si g4
     exact Or.inr (⟨rfl,_,rfl,(gw2 [.i (-1)] (Ua tI))⟩)
    refine Goes.skip ?_
    refine sq (gr fol [2,3,6,7] (kI a b [(5,.i e),(40,.bool (decide (k>n)))]) (ac (iv jB encI c) (ac (lv 0 ce3 encI c rfl) (ac (iv jB encI d) (ac (lv 0 ce3 encI d rfl) az)))) ?_)
    refine ihD g4 (fun g g4=>?_) (fun g g4=>?_)
    ·refine sh fol [(4,.i 1)] ?_
     refine Goes.ret ?_
     obtain rfl:=si g4
     exact Or.inr (⟨rfl,_,rfl,(gw2 [.i 1] (Ua tI))⟩)
    refine Goes.skip ?_
    refine gh fol (kI a b (kBG (w64 (e-1)))) ?_
    exact⟨M,(ofG 41 (kI a b (kBG (w64 (e-1)))),[]),Nat.lt_succ_self _,(Sub.refl _),_,rfl,g4⟩
   refine Goes.exit ?_
   obtain rfl:=si g4
   exact Or.inl (⟨rfl,rfl,(Sub.keep [] rfl rfl)⟩)
 rintro x s' (⟨rfl,rfl,hsub⟩|⟨rfl,t,rfl,hret⟩)
 ·try dsimp only at h
  refine Goes.sub hsub ?_
  refine sh fol [(4,.i 0)] ?_
  refine Goes.ret ?_
  obtain rfl:=si h
  exact(gw2 [.i 0] (Ua tI))
 try dsimp only at h
 obtain rfl:=si h
 exact hret
def zJ (a:List Int) (d:Int):Nat->(List Int)->Int->Int->Option ((List Int)×Int)
 |0,_,_,_=>none
 |K+1,c,e,b=>
  if b>=0 then
  (idx a b).bind fun i=>
  (qcp .i64 (w64 ((w64 (e*1000000000))+i)) d).bind fun f=>
  (idx c b).bind fun j=>
  (put c b f).bind fun g=>
  (qei .i64 (w64 ((w64 (e*1000000000))+i)) d).bind fun h=>
  zJ a d K g h (w64 (b-1))
  else
  some (c,e)
def yS (N:Nat) (a:List Int) (d:Int):Option ((List Int)×Int):=
 (mk 8 (a.length:Int) 0).bind fun c=>
 (zJ a d N c 0 (w64 ((a.length:Int)-1))).bind fun(e,f)=>
 (vW N e).bind fun b=>
 some (b,f)
theorem qcP (N:Nat) (a:List Int) (d:Int) {res:(List Int)×Int} (h:yS N a d=some res):qb ZT (.fn 200) [vl encI a,.i d] [] (.tuple [vl encI res.1,.i res.2]) []:=by
 unfold yS at h
 refine Ub Tryz.func200 rfl rfl (m:=39) rfl (rs:=[.tmp 4,.tmp 5]) rfl (l:=(kAf a [(1,.i d)])) rfl ?_
 refine sh fol (kAf a [(1,.i d)]) ?_
 obtain⟨q,B,h⟩:=bnd h
 refine sq (gq fol [2] (kAf a ((1,.i d)::(kW q []))) (kC q []) (ac (hs (.run [] (jc ZT 60 (.i (a.length:Int)) (.i (a.length:Int))) [] (.slice 0 0 q.length q.length 1) (kC q []) false) (qdI jB (E:=encI) (z:=0) rfl (by kernel_rfl) B rfl)) az) ?_)
 refine sh fol (kAf a ((1,.i d)::(kW q [(7,.i 0)]))) ?_
 refine sq ?_
 refine sh fol (kAf a ((1,.i d)::(kW q [(7,.i 0),(8,.i (w64 ((a.length:Int)-1)))]))) ?_
 refine Goes.block ?_
 obtain⟨C,g7,h⟩:=bnd h
 refine Goes.imp (Q:=fun x s'=>(x= .exit 0/\ ∃f r,(f,r)=C/\Sub s' (ofG 39 (kW f [(7,.i r)]),(kC f [])))) ?_ ?_
 ·refine Uc (fun M s=> ∃(e:List Int) (n:Int) (c:Int),s=(ofG 39 (kAf a ((1,.i d)::(kW e (kAQ n c [])))),(kC e []))/\zJ a d M e n c=some C) ?_ (m:=N) ⟨_,_,_,rfl,g7⟩
  rintro M s ⟨e,n,c,rfl,g7⟩
  cases M with
  |zero=>simp only[zJ]at g7;cases g7
  |succ M=>
   rw[zJ]at g7
   refine sq ?_
   refine sh fol (kAf a ((1,.i d)::(kW e (kAQ n c [(17,.bool (decide (c>=0)))])))) ?_
   refine ihD g7 (fun D g7=>?_) (fun D g7=>?_)
   ·refine Goes.skip ?_
    refine sq (Goes.block ?_)
    obtain⟨A,p,g7⟩:=bnd g7
    refine sq (gr fol [4,5] (kAf a ((1,.i d)::(kW e (kAx c (w64 ((w64 (n*1000000000))+A)) [])))) (ac (iv jB encI p) (ac (lv 0 ce3 encI p rfl) az)) ?_)
    obtain⟨t,u,g7⟩:=bnd g7
    obtain⟨F,g,g7⟩:=bnd g7
    obtain⟨b,j,g7⟩:=bnd g7
    refine sq (gq fol [4,5,6] (kAf a ((1,.i d)::(kW e (kAx c (w64 ((w64 (n*1000000000))+A)) [])))) (kC b []) (ac (hs (.done (.opt (qR ZT .quo 3 (.tmp 29) (.tmp 30) (.i (w64 ((w64 (n*1000000000))+A))) (.i d))) (.i t)) (qbY u)) (ac (hs (.done (.opt (qh ZT 60 (.slice 0 0 e.length e.length 1) (.i c))) (.ptr 0 ((c:Int).toNat*1+0))) (qaE jB g)) (ac (hs (.run [0] (qm ZT 3 (.ptr 0 ((c:Int).toNat*1+0)) (.i t)) (kC e []) .undef (kC b []) true) (qan (E:=encI) (l:=e) (y:=t) rfl (show _=some 1 by kernel_rfl) rfl g rfl rfl rfl rfl rfl j rfl)) az))) ?_)
    refine Goes.sub (show Sub (ofG 39 (kAf a ((1,.i d)::(kW e (kAx c (w64 ((w64 (n*1000000000))+A)) [])))),(kC b [])) (ofG 39 (kAf a ((1,.i d)::(kW b (kAx c (w64 ((w64 (n*1000000000))+A)) [])))),(kC b []))from(Sub.norm [] [some 0] rfl rfl (.keep (.same (qf encI _)) (.keep (.same nI) (.keep (.sliceE rfl (vD j)) (.keep (.same nI) (.keep (.same nI) .nil))))) (.ks .nil))) ?_
    obtain⟨o,v,g7⟩:=bnd g7
    refine gr fol [2] (kAf a ((1,.i d)::(kW b (kAQ o c [])))) (ac (hs (.done (.opt (qR ZT .rem 3 (.tmp 33) (.tmp 34) (.i (w64 ((w64 (n*1000000000))+A))) (.i d))) (.i o)) (qfP v)) az) ?_
    refine gh fol (kAf a ((1,.i d)::(kW b (kAQ o (w64 (c-1)) [])))) ?_
    exact⟨M,(ofG 39 (kAf a ((1,.i d)::(kW b (kAQ o (w64 (c-1)) [])))),(kC b [])),Nat.lt_succ_self _,(Sub.refl _),_,_,_,rfl,g7⟩
   refine Goes.exit ?_
   obtain rfl:=si g7
   exact⟨rfl,_,_,rfl,(Sub.keep [6,7] rfl rfl)⟩
 rintro x s' ⟨rfl,f,r,rfl,hsub⟩
 try dsimp only at h
 refine Goes.sub hsub ?_
 obtain⟨k,w,h⟩:=bnd h
 refine sq (gq fol [1] ((4,vl encI k)::(kBG r)) (kAc f) (ac (hs (.callF 201 [.slice 0 0 f.length f.length 1] (kC f []) [0] [vl encI f] (vl encI k)) (qaH (FzL.cons (Fz.sl (E:=encI) rfl rfl (nl rfl)) FzL.nil) (yI N f w) (qw encI _ (nl rfl)))) az) ?_)
 refine Goes.sub (show Sub (ofG 39 ((4,vl encI k)::(kBG r)),(kAc f)) (ofG 39 ((4,vl encI k)::(kBG r)),[])from(Sub.norm [] [] rfl rfl (.keep (.same (qf encI _)) (.keep (.same nI) .nil)) .nil)) ?_
 refine Goes.ret ?_
 obtain rfl:=si h
 exact(gw2 [vl encI k,.i r] (FzW.tuple (qc.cons (Ua (qw encI _ (nl rfl))) (qc.cons (Ua tI) qc.nil))))
def zw (a:List Int) (b:List Int) (g:Int):Nat->(List Int)->Int->Int->Option ((List Int)×Int)
 |0,_,_,_=>none
 |K+1,h,i,c=>
  if c<(b.length:Int)then
  (idx h (w64 (g+c))).bind fun d=>
  (idx a g).bind fun e=>
  (idx b c).bind fun f=>
  (put h (w64 (g+c)) ((w64 ((w64 (d+(w64 (e*f))))+i)).tmod 1000000000)).bind fun j=>
  zw a b g K j (w64 ((w64 ((w64 (d+(w64 (e*f))))+i)).tdiv 1000000000)) (w64 (c+1))
  else
  some (h,i)
def zy (N:Nat) (a:List Int) (b:List Int):Nat->(List Int)->Int->Option (List Int)
 |0,_,_=>none
 |K+1,h,c=>
  if c<(a.length:Int)then
  (zw a b c N h 0 0).bind fun(d,e)=>
  (idx d (w64 (c+(b.length:Int)))).bind fun f=>
  (put d (w64 (c+(b.length:Int))) (w64 (f+e))).bind fun g=>
  zy N a b K g (w64 (c+1))
  else
  some h
def ve (N:Nat) (a:List Int) (b:List Int):Option (List Int):=
 (mk 8 (w64 ((a.length:Int)+(b.length:Int))) 0).bind fun d=>
 (zy N a b N d 0).bind fun e=>
 (vW N e).bind fun c=>
 some c
theorem qaS (N:Nat) (a:List Int) (b:List Int) {res:List Int} (h:ve N a b=some res):qb ZT (.fn 202) (kBD a b) [] (vl encI res) []:=by
 unfold ve at h
 refine Ub Tryz.func202 rfl rfl (m:=72) rfl (rs:=[.tmp 4]) rfl (l:=(kI a b [])) rfl ?_
 refine sh fol (kI a b []) ?_
 obtain⟨H,I,h⟩:=bnd h
 refine sq (gq fol [5] (kI a b (kD H [])) (kC H []) (ac (hs (.run [] (jc ZT 60 (.i (w64 ((a.length:Int)+(b.length:Int)))) (.i (w64 ((a.length:Int)+(b.length:Int))))) [] (.slice 0 0 H.length H.length 1) (kC H []) false) (qdI jB (E:=encI) (z:=0) rfl (by kernel_rfl) I rfl)) az) ?_)
 refine sq ?_
 refine sh fol (kI a b (kD H [(6,.i 0)])) ?_
 refine Goes.block ?_
 obtain⟨L,g5,h⟩:=bnd h
 refine Goes.imp (Q:=fun x s'=>(x= .exit 0/\ ∃t,t=L/\Sub s' (ofG 72 (kD t []),(kC t [])))) ?_ ?_
 ·refine Uc (fun M s=> ∃(D:List Int) (c:Int),s=(ofG 72 (kI a b (kD D [(6,.i c)])),(kC D []))/\zy N a b M D c=some L) ?_ (m:=N) ⟨_,_,rfl,g5⟩
  rintro M s ⟨D,c,rfl,g5⟩
  cases M with
  |zero=>simp only[zy]at g5;cases g5
  |succ M=>
   rw[zy]at g5
   refine sq ?_
   refine sh fol (kI a b (kD D [(6,.i c),(19,.bool (decide (c<(a.length:Int))))])) ?_
   refine ihD g5 (fun O g5=>?_) (fun O g5=>?_)
   ·refine Goes.skip ?_
    refine sq (Goes.block ?_)
    refine sh fol (kI a b (kD D [(6,.i c),(7,.i 0)])) ?_
    refine sq ?_
    refine sh fol (kI a b (kD D [(6,.i c),(7,.i 0),(8,.i 0)])) ?_
    refine Goes.block ?_
    obtain⟨J,g12,g5⟩:=bnd g5
    refine Goes.imp (Q:=fun x s'=>(x= .exit 2/\ ∃d u,(d,u)=J/\Sub s' (ofG 72 (kI a b (kD d (kAr c u []))),(kC d [])))) ?_ ?_
    ·refine Uc (fun M s=> ∃(p:List Int) (r:Int) (o:Int),s=(ofG 72 (kI a b (kD p ((6,.i c)::(kAQ r o [])))),(kC p []))/\zw a b c M p r o=some J) ?_ (m:=N) ⟨_,_,_,rfl,g12⟩
     rintro M s ⟨p,r,o,rfl,g12⟩
     cases M with
     |zero=>simp only[zw]at g12;cases g12
     |succ M=>
      rw[zw]at g12
      refine sq ?_
      refine sh fol (kI a b (kD p ((6,.i c)::(kAQ r o [(25,.bool (decide (o<(b.length:Int))))])))) ?_
      refine ihD g12 (fun K g12=>?_) (fun K g12=>?_)
      ·refine Goes.skip ?_
       refine sq (Goes.block ?_)
       obtain⟨e,f,g12⟩:=bnd g12
       obtain⟨g,v,g12⟩:=bnd g12
       obtain⟨j,w,g12⟩:=bnd g12
       refine sq (gr fol [4,5,8,9,12,13] (kI a b (kD p ((6,.i c)::(kAx o (w64 ((w64 (e+(w64 (g*j))))+r)) [])))) (ac (hs (.done (.opt (qh ZT 60 (.slice 0 0 p.length p.length 1) (.i (w64 (c+o))))) (.ptr 0 ((w64 (c+o):Int).toNat*1+0))) (qaE jB f)) (ac (hs (.run [0] (ja ZT 3 (.ptr 0 ((w64 (c+o):Int).toNat*1+0))) (kC p []) (.i e) (kC p []) false) (qcC ce3 (E:=encI) (l:=p) rfl rfl f (nl rfl) rfl)) (ac (iv jB encI v) (ac (lv 0 ce3 encI v rfl) (ac (iv jB encI w) (ac (lv 0 ce3 encI w rfl) az)))))) ?_)
       obtain⟨k,A,g12⟩:=bnd g12
       refine sq (gq fol [6,7] (kI a b (kD p ((6,.i c)::(kAx o (w64 ((w64 (e+(w64 (g*j))))+r)) [])))) (kC k []) (ac (hs (.done (.opt (qh ZT 60 (.slice 0 0 p.length p.length 1) (.i (w64 (c+o))))) (.ptr 0 ((w64 (c+o):Int).toNat*1+0))) (qaE jB f)) (ac (hs (.run [0] (qm ZT 3 (.ptr 0 ((w64 (c+o):Int).toNat*1+0)) (.i ((w64 ((w64 (e+(w64 (g*j))))+r)).tmod 1000000000))) (kC p []) .undef (kC k []) true) (qan (E:=encI) (l:=p) (y:=(w64 ((w64 (e+(w64 (g*j))))+r)).tmod 1000000000) rfl (show _=some 1 by kernel_rfl) rfl f rfl rfl rfl rfl rfl A rfl)) az)) ?_)
       refine Goes.sub (show Sub (ofG 72 (kI a b (kD p ((6,.i c)::(kAx o (w64 ((w64 (e+(w64 (g*j))))+r)) [])))),(kC k [])) (ofG 72 (kI a b (kD k ((6,.i c)::(kAx o (w64 ((w64 (e+(w64 (g*j))))+r)) [])))),(kC k []))from(Sub.norm [] [some 0] rfl rfl (.keep (.same (qf encI _)) (.keep (.same (qf encI _)) (.keep (.sliceE rfl (vD A)) (.keep (.same nI) (.keep (.same nI) (.keep (.same nI) .nil)))))) (.ks .nil))) ?_
       refine gh fol (kI a b (kD k ((6,.i c)::(kAQ (w64 ((w64 ((w64 (e+(w64 (g*j))))+r)).tdiv 1000000000)) o [])))) ?_
       refine gh fol (kI a b (kD k ((6,.i c)::(kAQ (w64 ((w64 ((w64 (e+(w64 (g*j))))+r)).tdiv 1000000000)) (w64 (o+1)) [])))) ?_
       exact⟨M,(ofG 72 (kI a b (kD k ((6,.i c)::(kAQ (w64 ((w64 ((w64 (e+(w64 (g*j))))+r)).tdiv 1000000000)) (w64 (o+1)) [])))),(kC k [])),Nat.lt_succ_self _,(Sub.refl _),_,_,_,rfl,g12⟩
      refine Goes.exit ?_
      obtain rfl:=si g12
      exact⟨rfl,_,_,rfl,(Sub.keep [0,1,5,6,7] rfl rfl)⟩
    rintro x s' ⟨rfl,d,u,rfl,hsub⟩
    try dsimp only at g5
    refine Goes.sub hsub ?_
    obtain⟨F,n,g5⟩:=bnd g5
    obtain⟨q,B,g5⟩:=bnd g5
    refine gq fol [10,11,14,15] (kI a b (kD d [(6,.i c)])) (kC q []) (ac (hs (.done (.opt (qh ZT 60 (.slice 0 0 d.length d.length 1) (.i (w64 (c+(b.length:Int)))))) (.ptr 0 ((w64 (c+(b.length:Int)):Int).toNat*1+0))) (qaE jB n)) (ac (hs (.run [0] (ja ZT 3 (.ptr 0 ((w64 (c+(b.length:Int)):Int).toNat*1+0))) (kC d []) (.i F) (kC d []) false) (qcC ce3 (E:=encI) (l:=d) rfl rfl n (nl rfl) rfl)) (ac (hs (.done (.opt (qh ZT 60 (.slice 0 0 d.length d.length 1) (.i (w64 (c+(b.length:Int)))))) (.ptr 0 ((w64 (c+(b.length:Int)):Int).toNat*1+0))) (qaE jB n)) (ac (hs (.run [0] (qm ZT 3 (.ptr 0 ((w64 (c+(b.length:Int)):Int).toNat*1+0)) (.i (w64 (F+u)))) (kC d []) .undef (kC q []) true) (qan (E:=encI) (l:=d) (y:=w64 (F+u)) rfl (show _=some 1 by kernel_rfl) rfl n rfl rfl rfl rfl rfl B rfl)) az)))) ?_
    refine Goes.sub (show Sub (ofG 72 (kI a b (kD d [(6,.i c)])),(kC q [])) (ofG 72 (kI a b (kD q [(6,.i c)])),(kC q []))from(Sub.norm [] [some 0] rfl rfl (.keep (.same (qf encI _)) (.keep (.same (qf encI _)) (.keep (.sliceE rfl (vD B)) (.keep (.same nI) .nil)))) (.ks .nil))) ?_
    refine gh fol (kI a b (kD q [(6,.i (w64 (c+1)))])) ?_
    exact⟨M,(ofG 72 (kI a b (kD q [(6,.i (w64 (c+1)))])),(kC q [])),Nat.lt_succ_self _,(Sub.refl _),_,_,rfl,g5⟩
   refine Goes.exit ?_
   obtain rfl:=si g5
   exact⟨rfl,_,rfl,(Sub.keep [5] rfl rfl)⟩
 rintro x s' ⟨rfl,t,rfl,hsub⟩
 refine Goes.sub hsub ?_
 obtain⟨C,G,h⟩:=bnd h
 refine sq (gq fol [1] [(4,vl encI C)] (kAc t) (ac (hs (.callF 201 [.slice 0 0 t.length t.length 1] (kC t []) [0] [vl encI t] (vl encI C)) (qaH (FzL.cons (Fz.sl (E:=encI) rfl rfl (nl rfl)) FzL.nil) (yI N t G) (qw encI _ (nl rfl)))) az) ?_)
 refine Goes.sub (show Sub (ofG 72 [(4,vl encI C)],(kAc t)) (ofG 72 [(4,vl encI C)],[])from(Sub.norm [] [] rfl rfl (.keep (.same (qf encI _)) .nil) .nil)) ?_
 refine Goes.ret ?_
 obtain rfl:=si h
 exact(gw2 [vl encI C] (Ua (qw encI _ (nl rfl))))
def jL (u:List Int) (v:List Int) (j:Int):Nat->Int->Int->Option (Int⊕Int)
 |0,_,_=>none
 |K+1,c,a=>
  (if a>=1000000000 then
  some true
  else
  (idx v (w64 ((v.length:Int)-2))).bind fun d=>
  (idx u (w64 ((w64 (j+(v.length:Int)))-2))).bind fun e=>
  some (decide ((w64 (a*d))>(w64 ((w64 (c*1000000000))+e)))):Option Bool).bind fun f=>
  if f=true then
  (idx v (w64 ((v.length:Int)-1))).bind fun b=>
  if(w64 (c+b))>=1000000000 then
  some (.inr (w64 (a-1)))
  else
  jL u v j K (w64 (c+b)) (w64 (a-1))
  else
  some (.inl a)
def xY (N:Nat) (u:List Int) (v:List Int) (j:Int):Option Int:=
 (idx u (w64 (j+(v.length:Int)))).bind fun b=>
 (idx u (w64 ((w64 (j+(v.length:Int)))-1))).bind fun c=>
 (idx v (w64 ((v.length:Int)-1))).bind fun d=>
 (qcp .i64 (w64 ((w64 (b*1000000000))+c)) d).bind fun e=>
 (qei .i64 (w64 ((w64 (b*1000000000))+c)) d).bind fun f=>
 (jL u v j N f e).bind (fun
 |(.inl g)=>
 some g
 |(.inr a)=>
 some a)
theorem qhl (N:Nat) (u:List Int) (v:List Int) (j:Int) {res:Int} (h:xY N u v j=some res):qb ZT (.fn 203) [vl encI u,vl encI v,.i j] [] (.i res) []:=by
 unfold xY at h
 refine Ub Tryz.func203 rfl rfl (m:=77) rfl (rs:=[.tmp 6]) rfl (l:=(kI u v (kBF j))) rfl ?_
 refine sh fol (kI u v (kBF j)) ?_
 refine sh fol (kI u v [(2,.i j),(7,.i (v.length:Int))]) ?_
 obtain⟨y,n,h⟩:=bnd h
 obtain⟨z,o,h⟩:=bnd h
 refine sq (gr fol [4,5,12,13] (kI u v ((2,.i j)::(kAQ (v.length:Int) (w64 ((w64 (y*1000000000))+z)) []))) (ac (iv jB encI n) (ac (lv 0 ce3 encI n rfl) (ac (iv jB encI o) (ac (lv 0 ce3 encI o rfl) az)))) ?_)
 obtain⟨G,b,h⟩:=bnd h
 obtain⟨H,q,h⟩:=bnd h
 obtain⟨I,r,h⟩:=bnd h
 refine sq (gr fol [4,5,6,11,12,13] (kI u v (kAv j (v.length:Int) H I [])) (ac (iv jB encI b) (ac (lv 0 ce3 encI b rfl) (ac (hs (.done (.opt (qR ZT .quo 3 (.tmp 28) (.tmp 33) (.i (w64 ((w64 (y*1000000000))+z))) (.i G))) (.i H)) (qbY q)) (ac (iv jB encI b) (ac (lv 0 ce3 encI b rfl) (ac (hs (.done (.opt (qR ZT .rem 3 (.tmp 35) (.tmp 40) (.i (w64 ((w64 (y*1000000000))+z))) (.i G))) (.i I)) (qfP r)) az)))))) ?_)
 refine sq (Goes.block ?_)
 obtain⟨A,g9,h⟩:=bnd h
 refine Goes.imp (Q:=fun x s'=>(x= .exit 0/\ ∃t,(.inl t)=A/\Sub s' (ofG 77 [(9,.i t)],[]))\/(x= .ret/\ ∃w,(.inr w)=A/\jy ZT [.tmp 6] (.i w) .ret s')) ?_ ?_
 ·refine Uc (fun M s=> ∃(d:Int) (c:Int),s=(ofG 77 (kI u v (kAv j (v.length:Int) c d [])),[])/\jL u v j M d c=some A) ?_ (m:=N) ⟨_,_,rfl,g9⟩
  rintro M s ⟨d,c,rfl,g9⟩
  cases M with
  |zero=>simp only[jL]at g9;cases g9
  |succ M=>
   rw[jL]at g9
   refine sq ?_
   refine sq ?_
   obtain⟨B,a,g9⟩:=bnd g9
   refine Goes.cut (s':=(ofG 77 (kI u v (kAv j (v.length:Int) c d [(63,.bool B)])),[])) ?_ ?_
   ·rcases wyD a with⟨p,a⟩|⟨p,a⟩
    ·obtain rfl:=si a
     exact tr fol [2] (kI u v (kAv j (v.length:Int) c d [(63,.bool true)])) (ac (gw p) az)
    obtain⟨C,e,a⟩:=bnd a
    obtain⟨D,f,a⟩:=bnd a
    obtain rfl:=si a
    exact tr fol [2,7,8,17,18] (kI u v (kAv j (v.length:Int) c d [(63,.bool (decide ((w64 (c*C))>(w64 ((w64 (d*1000000000))+D)))))])) (ac (gw p) (ac (iv jB encI e) (ac (lv 0 ce3 encI e rfl) (ac (iv jB encI f) (ac (lv 0 ce3 encI f rfl) az)))))
   refine ihB g9 (fun E g9=>?_) (fun E g9=>?_)
   ·refine Goes.skip ?_
    refine Goes.block ?_
    refine sh fol (kI u v (kAv j (v.length:Int) (w64 (c-1)) d [])) ?_
    obtain⟨k,g,g9⟩:=bnd g9
    refine sq (gr fol [4,5] (kI u v (kAv j (v.length:Int) (w64 (c-1)) (w64 (d+k)) [])) (ac (iv jB encI g) (ac (lv 0 ce3 encI g rfl) az)) ?_)
    refine sh fol (kI u v (kAv j (v.length:Int) (w64 (c-1)) (w64 (d+k)) [(74,.bool (decide ((w64 (d+k))>=1000000000)))])) ?_
    refine ihD g9 (fun F g9=>?_) (fun F g9=>?_)
    ·refine sh fol [(6,.i (w64 (c-1)))] ?_
     refine Goes.ret ?_
     obtain rfl:=si g9
     exact Or.inr (⟨rfl,_,rfl,(gw2 [.i (w64 (c-1))] (Ua tI))⟩)
    refine Goes.skip ?_
    exact⟨M,(ofG 77 (kI u v (kAv j (v.length:Int) (w64 (c-1)) (w64 (d+k)) [])),[]),Nat.lt_succ_self _,(Sub.keep [0,1,2,7,9,10] rfl rfl),_,_,rfl,g9⟩
   refine Goes.exit ?_
   obtain rfl:=si g9
   exact Or.inl (⟨rfl,_,rfl,(Sub.keep [9] rfl rfl)⟩)
 rintro x s' (⟨rfl,t,rfl,hsub⟩|⟨rfl,J,rfl,hret⟩)
 ·try dsimp only at h
  refine Goes.sub hsub ?_
  refine sh fol [(6,.i t)] ?_
  refine Goes.ret ?_
  obtain rfl:=si h
  exact(gw2 [.i t] (Ua tI))
 try dsimp only at h
 obtain rfl:=si h
 exact hret
def zV (a:List Int):Nat->(List Int)->Option (List Int)
 |0,_=>none
 |K+1,b=>
  if(b.length:Int)<(w64 ((a.length:Int)+1))then
  (app 8 b [0]).bind fun c=>
  zV a K c
  else
  some b
def qM (h:List Int) (e:Int) (a:Int):Nat->(List Int)->Int->Int->Option ((List Int)×Int)
 |0,_,_,_=>none
 |K+1,f,b,c=>
  if c<(h.length:Int)then
  (idx h c).bind fun d=>
  (idx f (w64 (c+e))).bind fun g=>
  ((if(w64 (g-((w64 ((w64 (a*d))+b)).tmod 1000000000)))<0 then
  some (w64 ((w64 ((w64 ((w64 (a*d))+b)).tdiv 1000000000))+1),w64 ((w64 (g-((w64 ((w64 (a*d))+b)).tmod 1000000000)))+1000000000))
  else
  some (w64 ((w64 ((w64 (a*d))+b)).tdiv 1000000000),w64 (g-((w64 ((w64 (a*d))+b)).tmod 1000000000))):Option (Int×Int))).bind fun(i,j)=>
  (put f (w64 (c+e)) j).bind fun k=>
  qM h e a K k i (w64 (c+1))
  else
  some (f,b)
def kz (h:List Int) (b:Int) (e:Int):Nat->(List Int)->Int->Int->Option ((List Int)×Int×Int)
 |0,_,_,_=>none
 |K+1,c,d,a=>
  if a<(h.length:Int)then
  (idx c (w64 (a+b))).bind fun f=>
  (idx h a).bind fun g=>
  (put c (w64 (a+b)) ((w64 ((w64 (f+g))+d)).tmod 1000000000)).bind fun i=>
  kz h b e K i (w64 ((w64 ((w64 (f+g))+d)).tdiv 1000000000)) (w64 (a+1))
  else
  some (c,w64 (e-1),d)
def zu (N:Nat) (b:List Int):Nat->(List Int)->(List Int)->Int->Option ((List Int)×(List Int))
 |0,_,_,_=>none
 |K+1,c,d,a=>
  if a>=0 then
  (xY N c b a).bind fun e=>
  (qM b a e N c 0 0).bind fun(g,i)=>
  (idx g (w64 (a+(b.length:Int)))).bind fun j=>
  (put g (w64 (a+(b.length:Int))) (w64 (j-i))).bind fun f=>
  (idx f (w64 (a+(b.length:Int)))).bind fun k=>
  ((if k<0 then
  (kz b a e N f 0 0).bind fun(h,l,m)=>
  (idx h (w64 (a+(b.length:Int)))).bind fun n=>
  (put h (w64 (a+(b.length:Int))) (w64 (n+m))).bind fun o=>
  some (o,l)
  else
  some (f,e):Option ((List Int)×Int))).bind fun(p,q)=>
  (idx d a).bind fun s=>
  (put d a q).bind fun r=>
  zu N b K p r (w64 (a-1))
  else
  some (c,d)
def zT (N:Nat) (a:List Int) (b:List Int):Option ((List Int)×(List Int)):=
 (ji N a b).bind fun q=>
 if q<0 then
 some ([],a)
 else
 if(b.length:Int)=1 then
 (idx b 0).bind fun r=>
 (yS N a r).bind fun p=>
 (vW N ([p.2]:List Int)).bind fun s=>
 some (p.1,s)
 else
 (idx b (w64 ((b.length:Int)-1))).bind fun t=>
 (qcp .i64 1000000000 (w64 (t+1))).bind fun e=>
 (ve N b ([e]:List Int)).bind fun d=>
 (ve N a ([e]:List Int)).bind fun f=>
 (app 8 ([]:List Int) f).bind fun g=>
 (zV a N g).bind fun c=>
 (mk 8 (w64 ((c.length:Int)-(d.length:Int))) 0).bind fun h=>
 (zu N d N c h (w64 ((w64 ((c.length:Int)-(d.length:Int)))-1))).bind fun(i,j)=>
 (cut i 0 (d.length:Int)).bind fun k=>
 (vW N k).bind fun l=>
 (idx ([e]:List Int) 0).bind fun m=>
 (yS N l m).bind fun n=>
 (vW N j).bind fun o=>
 some (o,n.1)
theorem xC (N:Nat) (a:List Int) (b:List Int) {res:(List Int)×(List Int)} (h:zT N a b=some res):qb ZT (.fn 147) (kBD a b) [] (.tuple (kBD res.1 res.2)) []:=by
 unfold zT at h
 refine Ub Tryz.func147 rfl rfl (m:=206) rfl (rs:=[.tmp 4,.tmp 5]) rfl (l:=(kI a b [])) rfl ?_
 refine sh fol (kI a b []) ?_
 refine sq ?_
 obtain⟨r1,e_r1,h⟩:=bnd h
 refine sq (gr fol [2] (kI a b [(27,.bool (decide (r1<0)))]) (ac (cv (qbd N a b e_r1)) az) ?_)
 refine ihD h (fun c2 h=>?_) (fun c2 h=>?_)
 ·refine sh fol ((4,.nilslice)::(kBH a [])) ?_
  refine Goes.ret ?_
  obtain rfl:=si h
  exact(gw2 [.nilslice,vl encI a] (FzW.tuple (qc.cons (FzW.nilv (E:=encI)) (qc.cons (Ua (qw encI _ (nl rfl))) qc.nil))))
 refine Goes.skip ?_
 refine sq ?_
 refine sh fol (kI a b [(31,.bool (decide ((b.length:Int)=1)))]) ?_
 refine ihD h (fun c3 h=>?_) (fun c3 h=>?_)
 ·obtain⟨x4,e_x4,h⟩:=bnd h
  obtain⟨r5,e_r5,h⟩:=bnd h
  refine sq (gr fol [2,3,4] [(6,vl encI r5.1),(7,.i r5.2)] (ac (iv jB encI e_x4) (ac (lv 0 ce3 encI e_x4 rfl) (ac (cv (qcP N a x4 e_r5)) az))) ?_)
  obtain⟨r6,e_r6,h⟩:=bnd h
  refine sq (gq fol [3] ((4,vl encI r5.1)::(kBH r6 [])) [.frozen [.i r5.2]] (ac (hs (.callF 201 [.slice 0 0 1 1 1] [.cells [.i r5.2]] [0] [vl encI ([r5.2]:List Int)] (vl encI r6)) (qaH (FzL.cons (Fz.lit rfl rfl (Ue (AllST.cons tI AllST.nil))) FzL.nil) (yI N ([r5.2]:List Int) e_r6) (qw encI _ (nl rfl)))) az) ?_)
  refine Goes.sub (show Sub (ofG 206 ((4,vl encI r5.1)::(kBH r6 [])),[.frozen [.i r5.2]]) (ofG 206 ((4,vl encI r5.1)::(kBH r6 [])),[])from(Sub.norm [] [] rfl rfl (.keep (.same (qf encI _)) (.keep (.same (qf encI _)) .nil)) .nil)) ?_
  refine Goes.ret ?_
  obtain rfl:=si h
  exact(gw2 (kBD r5.1 r6) (FzW.tuple (qc.cons (Ua (qw encI _ (nl rfl))) (qc.cons (Ua (qw encI _ (nl rfl))) qc.nil))))
 refine Goes.skip ?_
 obtain⟨x7,e_x7,h⟩:=bnd h
 obtain⟨g,e_q8,h⟩:=bnd h
 refine sq (gq fol [4,5,7] (kI a b [(8,.slice 0 0 1 1 1)]) [.cells [.i g]] (ac (iv jB encI e_x7) (ac (lv 0 ce3 encI e_x7 rfl) (ac (hs (.done (.opt (qR ZT .quo 3 (.const (.int .i64 1000000000)) (.tmp 50) (.i 1000000000) (.i (w64 (x7+1))))) (.i g)) (qbY e_q8)) az))) ?_)
 obtain⟨e,e_r9,h⟩:=bnd h
 refine sq (gq fol [2] (kAf a [(8,.slice 0 0 1 1 1),(9,vl encI e)]) [.frozen [.i g]] (ac (hs (.callF 202 [vl encI b,.slice 0 0 1 1 1] [.cells [.i g]] [0] (kBD b ([g]:List Int)) (vl encI e)) (qaH (FzL.cons (Fz.still (qw encI _ (nl rfl))) (FzL.cons (Fz.lit rfl rfl (Ue (AllST.cons tI AllST.nil))) FzL.nil)) (qaS N b ([g]:List Int) e_r9) (qw encI _ (nl rfl)))) az) ?_)
 refine Goes.sub (show Sub (ofG 206 (kAf a [(8,.slice 0 0 1 1 1),(9,vl encI e)]),[.frozen [.i g]]) (ofG 206 (kAf a [(8,vl encI ([g]:List Int)),(9,vl encI e)]),[])from(Sub.norm [0] [] rfl rfl (.keep (.same (qf encI _)) (.keep (.frz (Fz.litF rfl rfl (Ue (AllST.cons tI AllST.nil))) (qf encI _)) (.keep (.same (qf encI _)) .nil))) .nil)) ?_
 refine sh fol (kAf a [(8,vl encI ([g]:List Int)),(9,vl encI e),(10,.i (e.length:Int))]) ?_
 obtain⟨r10,e_r10,h⟩:=bnd h
 obtain⟨Y,e_l11,h⟩:=bnd h
 refine sq (gq fol [3,4] (kAf a [(8,vl encI ([g]:List Int)),(9,vl encI e),(10,.i (e.length:Int)),(11,.oslice 1 Y.length 1)]) (.dead::(kC Y [])) (ac (cv (qaS N a ([g]:List Int) e_r10)) (ac (hs (.run [0] (xX ZT [60,60] (.slice 0 0 0 0 1) (vl encI r10)) [.cells []] (.oslice 1 Y.length 1) (.dead::(kC Y [])) true) (qcD jB (E:=encI) rfl (src_v (E:=encI) rfl _) (dst_z (E:=encI) rfl rfl rfl e_l11 rfl))) az)) ?_)
 refine sq (Goes.block ?_)
 obtain⟨r14,g14,h⟩:=bnd h
 refine Goes.imp (Q:=fun x s'=>(x= .exit 0/\ ∃A,A=r14/\Sub s' (ofG 206 (kAi ([g]:List Int) e (e.length:Int) A []),(kC A [])))) ?_ ?_
 ·refine Goes.sub (s':=(ofG 206 (kAf a (kAi ([g]:List Int) e (e.length:Int) Y [])),(kC Y []))) (Sub.norm [] [some 1] rfl rfl (.keep (.same (qf encI _)) (.keep (.same (qf encI _)) (.keep (.same (qf encI _)) (.keep (.same nI) (.keep (.oslice rfl) .nil))))) (.ks .nil)) ?_
  refine Uc (fun M s=> ∃(F:List Int),s=(ofG 206 (kAf a (kAi ([g]:List Int) e (e.length:Int) F [])),(kC F []))/\zV a M F=some r14) ?_ (m:=N) ⟨_,rfl,g14⟩
  rintro M s ⟨F,rfl,g14⟩
  cases M with
  |zero=>simp only[zV]at g14;cases g14
  |succ M=>
   rw[zV]at g14
   refine sq ?_
   refine sh fol (kAf a (kAi ([g]:List Int) e (e.length:Int) F [(68,.bool (decide ((F.length:Int)<(w64 ((a.length:Int)+1)))))])) ?_
   refine ihD g14 (fun c15 g14=>?_) (fun c15 g14=>?_)
   ·refine Goes.skip ?_
    refine Goes.block ?_
    obtain⟨Z,e_l16,g14⟩:=bnd g14
    refine gq fol [2] (kAf a [(8,vl encI ([g]:List Int)),(9,vl encI e),(10,.i (e.length:Int)),(11,.oslice 2 Z.length 1)]) (.dead:: .cells [.i 0]::(kC Z [])) (ac (hs (.run [0,1] (xX ZT [60,60] (.oslice 0 F.length 1) (.slice 1 0 1 1 1)) (kC F [.cells [.i 0]]) (.oslice 2 Z.length 1) (.dead:: .cells [.i 0]::(kC Z [])) true) (qcD jB (E:=encI) rfl (qhI (E:=encI) (ys:=[0]) rfl rfl rfl rfl) (dst_o (E:=encI) (l:=F) rfl rfl rfl e_l16 rfl))) az) ?_
    exact⟨M,(ofG 206 (kAf a (kAi ([g]:List Int) e (e.length:Int) Z [])),(kC Z [])),Nat.lt_succ_self _,(Sub.norm [] [some 2] rfl rfl (.keep (.same (qf encI _)) (.keep (.same (qf encI _)) (.keep (.same (qf encI _)) (.keep (.same nI) (.keep (.oslice rfl) .nil))))) (.ks .nil)),_,rfl,g14⟩
   refine Goes.exit ?_
   obtain rfl:=si g14
   exact⟨rfl,_,rfl,(Sub.keep [8,9,10,11] rfl rfl)⟩
 rintro x s' ⟨rfl,A,rfl,hsub⟩
 refine Goes.sub hsub ?_
 obtain⟨V,e_l17,h⟩:=bnd h
 refine sq (gq fol [4] (kAi ([g]:List Int) e (e.length:Int) A [(12,.slice 1 0 V.length V.length 1)]) (kC A (kC V [])) (ac (hs (.run [] (jc ZT 60 (.i (w64 ((A.length:Int)-(e.length:Int)))) (.i (w64 ((A.length:Int)-(e.length:Int))))) (kC A []) (.slice 1 0 V.length V.length 1) (kC A (kC V [])) false) (qdI jB (E:=encI) (z:=0) rfl (by kernel_rfl) e_l17 rfl)) az) ?_)
 refine sq ?_
 refine sh fol (kA ([g]:List Int) e (e.length:Int) A V (w64 ((w64 ((A.length:Int)-(e.length:Int)))-1)) []) ?_
 refine Goes.block ?_
 obtain⟨r23,g23,h⟩:=bnd h
 refine Goes.imp (Q:=fun x s'=>(x= .exit 2/\ ∃a0 o,(a0,o)=r23/\Sub s' (ofG 206 [(8,vl encI ([g]:List Int)),(10,.i (e.length:Int)),(11,.oslice 0 a0.length 1),(12,.slice 1 0 o.length o.length 1)],(kC a0 (kC o []))))) ?_ ?_
 ·refine Uc (fun M s=> ∃(B:List Int) (c:List Int) (d:Int),s=(ofG 206 (kA ([g]:List Int) e (e.length:Int) B c d []),(kC B (kC c [])))/\zu N e M B c d=some r23) ?_ (m:=N) ⟨_,_,_,rfl,g23⟩
  rintro M s ⟨B,c,d,rfl,g23⟩
  cases M with
  |zero=>simp only[zu]at g23;cases g23
  |succ M=>
   rw[zu]at g23
   refine sq ?_
   refine sh fol (kA ([g]:List Int) e (e.length:Int) B c d [(83,.bool (decide (d>=0)))]) ?_
   refine ihD g23 (fun c24 g23=>?_) (fun c24 g23=>?_)
   ·refine Goes.skip ?_
    refine sq (Goes.block ?_)
    obtain⟨f,e_r25,g23⟩:=bnd g23
    refine sq (gr fol [3] (kA ([g]:List Int) e (e.length:Int) B c d [(14,.i f)]) (ac (hs (.call 203 [.oslice 0 B.length 1,vl encI e,.i d] (kC B (kC c [])) [0] [vl encI B,vl encI e,.i d] (.i f)) (qdG (FzL.cons (Fz.os (E:=encI) rfl rfl (nl rfl)) (FzL.cons (Fz.still (qw encI _ (nl rfl))) (FzL.cons (Fz.still tI) FzL.nil))) (qhl N B e d e_r25) tI rfl)) az) ?_)
    refine sh fol (kA ([g]:List Int) e (e.length:Int) B c d [(14,.i f),(15,.i 0)]) ?_
    refine sq ?_
    refine sh fol (kA ([g]:List Int) e (e.length:Int) B c d [(14,.i f),(15,.i 0),(16,.i 0)]) ?_
    refine Goes.block ?_
    obtain⟨r31,g31,g23⟩:=bnd g23
    refine Goes.imp (Q:=fun x s'=>(x= .exit 4/\ ∃t n30,(t,n30)=r31/\Sub s' (ofG 206 (kA ([g]:List Int) e (e.length:Int) t c d [(14,.i f),(15,.i n30)]),(kC t (kC c []))))) ?_ ?_
    ·refine Uc (fun M s=> ∃(k:List Int) (p:Int) (j:Int),s=(ofG 206 (kA ([g]:List Int) e (e.length:Int) k c d (kAm f p j [])),(kC k (kC c [])))/\qM e d f M k p j=some r31) ?_ (m:=N) ⟨_,_,_,rfl,g31⟩
     rintro M s ⟨k,p,j,rfl,g31⟩
     cases M with
     |zero=>simp only[qM]at g31;cases g31
     |succ M=>
      rw[qM]at g31
      refine sq ?_
      refine sh fol (kA ([g]:List Int) e (e.length:Int) k c d (kAm f p j [(92,.bool (decide (j<(e.length:Int))))])) ?_
      refine ihD g31 (fun c32 g31=>?_) (fun c32 g31=>?_)
      ·refine Goes.skip ?_
       refine sq (Goes.block ?_)
       obtain⟨C,e_x33,g31⟩:=bnd g31
       refine sq (gr fol [3,4] (kA ([g]:List Int) e (e.length:Int) k c d [(14,.i f),(16,.i j),(17,.i (w64 ((w64 (f*C))+p)))]) (ac (iv jB encI e_x33) (ac (lv 0 ce3 encI e_x33 rfl) az)) ?_)
       obtain⟨X,G,g31⟩:=bnd g31
       refine sq (gr fol [4,5] (kA ([g]:List Int) e (e.length:Int) k c d [(14,.i f),(16,.i j),(17,.i (w64 ((w64 (f*C))+p))),(18,.i (w64 (X-((w64 ((w64 (f*C))+p)).tmod 1000000000))))]) (ac (hs (.done (.opt (qh ZT 60 (.oslice 0 k.length 1) (.i (w64 (j+d))))) (.ptr 0 ((w64 (j+d):Int).toNat*1+0))) (qfU jB G)) (ac (hs (.run [0] (ja ZT 3 (.ptr 0 ((w64 (j+d):Int).toNat*1+0))) (kC k (kC c [])) (.i X) (kC k (kC c [])) false) (qcC ce3 (E:=encI) (l:=k) rfl rfl G (nl rfl) rfl)) az)) ?_)
       refine sh fol (kA ([g]:List Int) e (e.length:Int) k c d (kAm f (w64 ((w64 ((w64 (f*C))+p)).tdiv 1000000000)) j [(18,.i (w64 (X-((w64 ((w64 (f*C))+p)).tmod 1000000000))))])) ?_
       refine sq ?_
       refine sh fol (kA ([g]:List Int) e (e.length:Int) k c d (kAm f (w64 ((w64 ((w64 (f*C))+p)).tdiv 1000000000)) j [(18,.i (w64 (X-((w64 ((w64 (f*C))+p)).tmod 1000000000)))),(115,.bool (decide ((w64 (X-((w64 ((w64 (f*C))+p)).tmod 1000000000)))<0)))])) ?_
       obtain⟨r37,g37,g31⟩:=bnd g31
       refine Goes.imp (Q:=fun x s'=>(x= .normal/\ ∃O n36,(O,n36)=r37/\Sub s' (ofG 206 (kA ([g]:List Int) e (e.length:Int) k c d (kAm f O j [(18,.i n36)])),(kC k (kC c []))))) ?_ ?_
       ·refine ihD g37 (fun c38 g37=>?_) (fun c38 g37=>?_)
        ·refine sh fol (kA ([g]:List Int) e (e.length:Int) k c d (kAm f (w64 ((w64 ((w64 (f*C))+p)).tdiv 1000000000)) j [(18,.i (w64 ((w64 (X-((w64 ((w64 (f*C))+p)).tmod 1000000000)))+1000000000)))])) ?_
         refine gh fol (kA ([g]:List Int) e (e.length:Int) k c d (kAm f (w64 ((w64 ((w64 ((w64 (f*C))+p)).tdiv 1000000000))+1)) j [(18,.i (w64 ((w64 (X-((w64 ((w64 (f*C))+p)).tmod 1000000000)))+1000000000)))])) ?_
         obtain rfl:=si g37
         exact⟨rfl,_,_,rfl,(Sub.refl _)⟩
        refine Goes.skip ?_
        obtain rfl:=si g37
        exact⟨rfl,_,_,rfl,(Sub.keep [8,9,10,11,12,13,14,15,16,18] rfl rfl)⟩
       rintro x s' ⟨rfl,O,n36,rfl,hsub⟩
       try dsimp only at g31
       refine Goes.sub hsub ?_
       obtain⟨P,e_l39,g31⟩:=bnd g31
       refine gq fol [5,6] (kA ([g]:List Int) e (e.length:Int) k c d (kAm f O j [])) (kC P (kC c [])) (ac (hs (.done (.opt (qh ZT 60 (.oslice 0 k.length 1) (.i (w64 (j+d))))) (.ptr 0 ((w64 (j+d):Int).toNat*1+0))) (qfU jB G)) (ac (hs (.run [0] (qm ZT 3 (.ptr 0 ((w64 (j+d):Int).toNat*1+0)) (.i n36)) (kC k (kC c [])) .undef (kC P (kC c [])) true) (qan (E:=encI) (l:=k) (y:=n36) rfl (show _=some 1 by kernel_rfl) rfl G rfl rfl rfl rfl rfl e_l39 rfl)) az)) ?_
       refine Goes.sub (show Sub (ofG 206 (kA ([g]:List Int) e (e.length:Int) k c d (kAm f O j [])),(kC P (kC c []))) (ofG 206 (kA ([g]:List Int) e (e.length:Int) P c d (kAm f O j [])),(kC P (kC c [])))from(Sub.norm [] [some 0,some 1] rfl rfl (.keep (.same (qf encI _)) (.keep (.same (qf encI _)) (.keep (.same nI) (.keep (.osliceE rfl (vD e_l39)) (.keep (.slice rfl) (.keep (.same nI) (.keep (.same nI) (.keep (.same nI) (.keep (.same nI) .nil))))))))) (.ks (.ks .nil)))) ?_
       refine gh fol (kA ([g]:List Int) e (e.length:Int) P c d (kAm f O (w64 (j+1)) [])) ?_
       exact⟨M,(ofG 206 (kA ([g]:List Int) e (e.length:Int) P c d (kAm f O (w64 (j+1)) [])),(kC P (kC c []))),Nat.lt_succ_self _,(Sub.refl _),_,_,_,rfl,g31⟩
      refine Goes.exit ?_
      obtain rfl:=si g31
      exact⟨rfl,_,_,rfl,(Sub.keep [8,9,10,11,12,13,14,15] rfl rfl)⟩
    rintro x s' ⟨rfl,t,n30,rfl,hsub⟩
    try dsimp only at g23
    refine Goes.sub hsub ?_
    obtain⟨x40,H,g23⟩:=bnd g23
    obtain⟨u,e_l41,g23⟩:=bnd g23
    refine sq (gq fol [8,9,12,13] (kA ([g]:List Int) e (e.length:Int) t c d [(14,.i f)]) (kC u (kC c [])) (ac (hs (.done (.opt (qh ZT 60 (.oslice 0 t.length 1) (.i (w64 (d+(e.length:Int)))))) (.ptr 0 ((w64 (d+(e.length:Int)):Int).toNat*1+0))) (qfU jB H)) (ac (hs (.run [0] (ja ZT 3 (.ptr 0 ((w64 (d+(e.length:Int)):Int).toNat*1+0))) (kC t (kC c [])) (.i x40) (kC t (kC c [])) false) (qcC ce3 (E:=encI) (l:=t) rfl rfl H (nl rfl) rfl)) (ac (hs (.done (.opt (qh ZT 60 (.oslice 0 t.length 1) (.i (w64 (d+(e.length:Int)))))) (.ptr 0 ((w64 (d+(e.length:Int)):Int).toNat*1+0))) (qfU jB H)) (ac (hs (.run [0] (qm ZT 3 (.ptr 0 ((w64 (d+(e.length:Int)):Int).toNat*1+0)) (.i (w64 (x40-n30)))) (kC t (kC c [])) .undef (kC u (kC c [])) true) (qan (E:=encI) (l:=t) (y:=w64 (x40-n30)) rfl (show _=some 1 by kernel_rfl) rfl H rfl rfl rfl rfl rfl e_l41 rfl)) az)))) ?_)
    refine Goes.sub (show Sub (ofG 206 (kA ([g]:List Int) e (e.length:Int) t c d [(14,.i f)]),(kC u (kC c []))) (ofG 206 (kA ([g]:List Int) e (e.length:Int) u c d [(14,.i f)]),(kC u (kC c [])))from(Sub.norm [] [some 0,some 1] rfl rfl (.keep (.same (qf encI _)) (.keep (.same (qf encI _)) (.keep (.same nI) (.keep (.osliceE rfl (vD e_l41)) (.keep (.slice rfl) (.keep (.same nI) (.keep (.same nI) .nil))))))) (.ks (.ks .nil)))) ?_
    refine sq ?_
    obtain⟨x42,e_x42,g23⟩:=bnd g23
    refine sq (gr fol [4,5] (kA ([g]:List Int) e (e.length:Int) u c d [(14,.i f),(145,.bool (decide (x42<0)))]) (ac (hs (.done (.opt (qh ZT 60 (.oslice 0 u.length 1) (.i (w64 (d+(e.length:Int)))))) (.ptr 0 ((w64 (d+(e.length:Int)):Int).toNat*1+0))) (qfU jB e_x42)) (ac (hs (.run [0] (ja ZT 3 (.ptr 0 ((w64 (d+(e.length:Int)):Int).toNat*1+0))) (kC u (kC c [])) (.i x42) (kC u (kC c [])) false) (qcC ce3 (E:=encI) (l:=u) rfl rfl e_x42 (nl rfl) rfl)) az)) ?_)
    obtain⟨r45,g45,g23⟩:=bnd g23
    refine Goes.imp (Q:=fun x s'=>(x= .normal/\ ∃q n44,(q,n44)=r45/\Sub s' (ofG 206 (kA ([g]:List Int) e (e.length:Int) q c d [(14,.i n44)]),(kC q (kC c []))))) ?_ ?_
    ·refine ihD g45 (fun c46 g45=>?_) (fun c46 g45=>?_)
     ·refine sh fol (kA ([g]:List Int) e (e.length:Int) u c d [(14,.i (w64 (f-1)))]) ?_
      refine sh fol (kA ([g]:List Int) e (e.length:Int) u c d [(14,.i (w64 (f-1))),(19,.i 0)]) ?_
      refine sq ?_
      refine sh fol (kA ([g]:List Int) e (e.length:Int) u c d [(14,.i (w64 (f-1))),(19,.i 0),(20,.i 0)]) ?_
      refine Goes.block ?_
      obtain⟨r53,g53,g45⟩:=bnd g45
      refine Goes.imp (Q:=fun x s'=>(x= .exit 6/\ ∃v a1 n52,(v,a1,n52)=r53/\Sub s' (ofG 206 (kA ([g]:List Int) e (e.length:Int) v c d [(14,.i a1),(19,.i n52)]),(kC v (kC c []))))) ?_ ?_
      ·refine Uc (fun M s=> ∃(r:List Int) (w:Int) (n:Int),s=(ofG 206 (kA ([g]:List Int) e (e.length:Int) r c d [(14,.i (w64 (f-1))),(19,.i w),(20,.i n)]),(kC r (kC c [])))/\kz e d f M r w n=some r53) ?_ (m:=N) ⟨_,_,_,rfl,g53⟩
       rintro M s ⟨r,w,n,rfl,g53⟩
       cases M with
       |zero=>simp only[kz]at g53;cases g53
       |succ M=>
        rw[kz]at g53
        refine sq ?_
        refine sh fol (kA ([g]:List Int) e (e.length:Int) r c d [(14,.i (w64 (f-1))),(19,.i w),(20,.i n),(150,.bool (decide (n<(e.length:Int))))]) ?_
        refine ihD g53 (fun c54 g53=>?_) (fun c54 g53=>?_)
        ·refine Goes.skip ?_
         refine sq (Goes.block ?_)
         obtain⟨D,I,g53⟩:=bnd g53
         obtain⟨J,e_x56,g53⟩:=bnd g53
         refine sq (gr fol [4,5,8,9] (kA ([g]:List Int) e (e.length:Int) r c d [(14,.i (w64 (f-1))),(20,.i n),(21,.i (w64 ((w64 (D+J))+w)))]) (ac (hs (.done (.opt (qh ZT 60 (.oslice 0 r.length 1) (.i (w64 (n+d))))) (.ptr 0 ((w64 (n+d):Int).toNat*1+0))) (qfU jB I)) (ac (hs (.run [0] (ja ZT 3 (.ptr 0 ((w64 (n+d):Int).toNat*1+0))) (kC r (kC c [])) (.i D) (kC r (kC c [])) false) (qcC ce3 (E:=encI) (l:=r) rfl rfl I (nl rfl) rfl)) (ac (iv jB encI e_x56) (ac (lv 0 ce3 encI e_x56 rfl) az)))) ?_)
         obtain⟨K,e_l57,g53⟩:=bnd g53
         refine sq (gq fol [6,7] (kA ([g]:List Int) e (e.length:Int) r c d [(14,.i (w64 (f-1))),(20,.i n),(21,.i (w64 ((w64 (D+J))+w)))]) (kC K (kC c [])) (ac (hs (.done (.opt (qh ZT 60 (.oslice 0 r.length 1) (.i (w64 (n+d))))) (.ptr 0 ((w64 (n+d):Int).toNat*1+0))) (qfU jB I)) (ac (hs (.run [0] (qm ZT 3 (.ptr 0 ((w64 (n+d):Int).toNat*1+0)) (.i ((w64 ((w64 (D+J))+w)).tmod 1000000000))) (kC r (kC c [])) .undef (kC K (kC c [])) true) (qan (E:=encI) (l:=r) (y:=(w64 ((w64 (D+J))+w)).tmod 1000000000) rfl (show _=some 1 by kernel_rfl) rfl I rfl rfl rfl rfl rfl e_l57 rfl)) az)) ?_)
         refine Goes.sub (show Sub (ofG 206 (kA ([g]:List Int) e (e.length:Int) r c d [(14,.i (w64 (f-1))),(20,.i n),(21,.i (w64 ((w64 (D+J))+w)))]),(kC K (kC c []))) (ofG 206 (kA ([g]:List Int) e (e.length:Int) K c d [(14,.i (w64 (f-1))),(20,.i n),(21,.i (w64 ((w64 (D+J))+w)))]),(kC K (kC c [])))from(Sub.norm [] [some 0,some 1] rfl rfl (.keep (.same (qf encI _)) (.keep (.same (qf encI _)) (.keep (.same nI) (.keep (.osliceE rfl (vD e_l57)) (.keep (.slice rfl) (.keep (.same nI) (.keep (.same nI) (.keep (.same nI) (.keep (.same nI) .nil))))))))) (.ks (.ks .nil)))) ?_
         refine gh fol (kA ([g]:List Int) e (e.length:Int) K c d [(14,.i (w64 (f-1))),(19,.i (w64 ((w64 ((w64 (D+J))+w)).tdiv 1000000000))),(20,.i n)]) ?_
         refine gh fol (kA ([g]:List Int) e (e.length:Int) K c d [(14,.i (w64 (f-1))),(19,.i (w64 ((w64 ((w64 (D+J))+w)).tdiv 1000000000))),(20,.i (w64 (n+1)))]) ?_
         exact⟨M,(ofG 206 (kA ([g]:List Int) e (e.length:Int) K c d [(14,.i (w64 (f-1))),(19,.i (w64 ((w64 ((w64 (D+J))+w)).tdiv 1000000000))),(20,.i (w64 (n+1)))]),(kC K (kC c []))),Nat.lt_succ_self _,(Sub.refl _),_,_,_,rfl,g53⟩
        refine Goes.exit ?_
        obtain rfl:=si g53
        exact⟨rfl,_,_,_,rfl,(Sub.keep [8,9,10,11,12,13,14,19] rfl rfl)⟩
      rintro x s' ⟨rfl,v,a1,n52,rfl,hsub⟩
      try dsimp only at g45
      refine Goes.sub hsub ?_
      obtain⟨x58,L,g45⟩:=bnd g45
      obtain⟨l59,e_l59,g45⟩:=bnd g45
      refine gq fol [8,9,12,13] (kA ([g]:List Int) e (e.length:Int) v c d [(14,.i a1)]) (kC l59 (kC c [])) (ac (hs (.done (.opt (qh ZT 60 (.oslice 0 v.length 1) (.i (w64 (d+(e.length:Int)))))) (.ptr 0 ((w64 (d+(e.length:Int)):Int).toNat*1+0))) (qfU jB L)) (ac (hs (.run [0] (ja ZT 3 (.ptr 0 ((w64 (d+(e.length:Int)):Int).toNat*1+0))) (kC v (kC c [])) (.i x58) (kC v (kC c [])) false) (qcC ce3 (E:=encI) (l:=v) rfl rfl L (nl rfl) rfl)) (ac (hs (.done (.opt (qh ZT 60 (.oslice 0 v.length 1) (.i (w64 (d+(e.length:Int)))))) (.ptr 0 ((w64 (d+(e.length:Int)):Int).toNat*1+0))) (qfU jB L)) (ac (hs (.run [0] (qm ZT 3 (.ptr 0 ((w64 (d+(e.length:Int)):Int).toNat*1+0)) (.i (w64 (x58+n52)))) (kC v (kC c [])) .undef (kC l59 (kC c [])) true) (qan (E:=encI) (l:=v) (y:=w64 (x58+n52)) rfl (show _=some 1 by kernel_rfl) rfl L rfl rfl rfl rfl rfl e_l59 rfl)) az)))) ?_
      obtain rfl:=si g45
      exact⟨rfl,_,_,rfl,((show Sub (ofG 206 (kA ([g]:List Int) e (e.length:Int) v c d [(14,.i a1)]),(kC l59 (kC c []))) (ofG 206 (kA ([g]:List Int) e (e.length:Int) l59 c d [(14,.i a1)]),(kC l59 (kC c [])))from(Sub.norm [] [some 0,some 1] rfl rfl (.keep (.same (qf encI _)) (.keep (.same (qf encI _)) (.keep (.same nI) (.keep (.osliceE rfl (vD e_l59)) (.keep (.slice rfl) (.keep (.same nI) (.keep (.same nI) .nil))))))) (.ks (.ks .nil)))).trans (Sub.refl _))⟩
     refine Goes.skip ?_
     obtain rfl:=si g45
     exact⟨rfl,_,_,rfl,(Sub.keep [8,9,10,11,12,13,14] rfl rfl)⟩
    rintro x s' ⟨rfl,q,n44,rfl,hsub⟩
    try dsimp only at g23
    refine Goes.sub hsub ?_
    obtain⟨x60,e_x60,g23⟩:=bnd g23
    obtain⟨U,e_l61,g23⟩:=bnd g23
    refine gq fol [3,4] (kA ([g]:List Int) e (e.length:Int) q c d []) (kC q (kC U [])) (ac (hs (.done (.opt (qh ZT 60 (.slice 1 0 c.length c.length 1) (.i d))) (.ptr 1 ((d:Int).toNat*1+0))) (qaE jB e_x60)) (ac (hs (.run [1] (qm ZT 3 (.ptr 1 ((d:Int).toNat*1+0)) (.i n44)) (kC q (kC c [])) .undef (kC q (kC U [])) true) (qan (E:=encI) (l:=c) (y:=n44) rfl (show _=some 1 by kernel_rfl) rfl e_x60 rfl rfl rfl rfl rfl e_l61 rfl)) az)) ?_
    refine Goes.sub (show Sub (ofG 206 (kA ([g]:List Int) e (e.length:Int) q c d []),(kC q (kC U []))) (ofG 206 (kA ([g]:List Int) e (e.length:Int) q U d []),(kC q (kC U [])))from(Sub.norm [] [some 0,some 1] rfl rfl (.keep (.same (qf encI _)) (.keep (.same (qf encI _)) (.keep (.same nI) (.keep (.oslice rfl) (.keep (.sliceE rfl (vD e_l61)) (.keep (.same nI) .nil)))))) (.ks (.ks .nil)))) ?_
    refine gh fol (kA ([g]:List Int) e (e.length:Int) q U (w64 (d-1)) []) ?_
    exact⟨M,(ofG 206 (kA ([g]:List Int) e (e.length:Int) q U (w64 (d-1)) []),(kC q (kC U []))),Nat.lt_succ_self _,(Sub.refl _),_,_,_,rfl,g23⟩
   refine Goes.exit ?_
   obtain rfl:=si g23
   exact⟨rfl,_,_,rfl,(Sub.keep [8,10,11,12] rfl rfl)⟩
 rintro x s' ⟨rfl,a0,o,rfl,hsub⟩
 try dsimp only at h
 refine Goes.sub hsub ?_
 refine sq (Goes.sub (s':=(ofG 206 [(8,vl encI ([g]:List Int)),(10,.i (e.length:Int)),(11,vl encI a0),(12,.slice 0 0 o.length o.length 1)],(kC o []))) (Sub.norm [0] [some 1] rfl rfl (.keep (.same (qf encI _)) (.keep (.same nI) (.keep (.frz (Fz.os (E:=encI) rfl rfl (nl rfl)) (qf encI _)) (.keep (.slice rfl) .nil)))) (.ks .nil)) ?_)
 obtain⟨s62,e_s62,h⟩:=bnd h
 obtain⟨r63,e_r63,h⟩:=bnd h
 obtain⟨x64,e_x64,h⟩:=bnd h
 obtain⟨r65,e_r65,h⟩:=bnd h
 refine gr fol [2,3,5,6,7] [(12,.slice 0 0 o.length o.length 1),(22,vl encI r65.1)] (ac (hs (.done (.opt (qL ZT 60 (vl encI a0) none (some (.i (e.length:Int))) none)) (vl encI s62)) (qlP jB (E:=encI) rfl none (some (e.length:Int)) e_s62)) (ac (cv (yI N s62 e_r63)) (ac (iv jB encI e_x64) (ac (lv 0 ce3 encI e_x64 rfl) (ac (cv (qcP N r63 x64 e_r65)) az))))) ?_
 obtain⟨r66,e_r66,h⟩:=bnd h
 refine sq (gq fol [1] ((4,vl encI r66)::(kBH r65.1 [])) (kAc o) (ac (hs (.callF 201 [.slice 0 0 o.length o.length 1] (kC o []) [0] [vl encI o] (vl encI r66)) (qaH (FzL.cons (Fz.sl (E:=encI) rfl rfl (nl rfl)) FzL.nil) (yI N o e_r66) (qw encI _ (nl rfl)))) az) ?_)
 refine Goes.sub (show Sub (ofG 206 ((4,vl encI r66)::(kBH r65.1 [])),(kAc o)) (ofG 206 ((4,vl encI r66)::(kBH r65.1 [])),[])from(Sub.norm [] [] rfl rfl (.keep (.same (qf encI _)) (.keep (.same (qf encI _)) .nil)) .nil)) ?_
 refine Goes.ret ?_
 obtain rfl:=si h
 exact(gw2 (kBD r66 r65.1) (FzW.tuple (qc.cons (Ua (qw encI _ (nl rfl))) (qc.cons (Ua (qw encI _ (nl rfl))) qc.nil))))
def kM (N:Nat):Nat->(List Int)->(List Int)->Option (List Int)
 |0,_,_=>none
 |K+1,b,a=>
  if(a.length:Int)>0 then
  (zT N b a).bind fun c=>
  kM N K a c.2
  else
  some b
def qaB (N:Nat) (a:List Int) (b:List Int):Option (List Int):=
 (kM N N a b).bind fun c=>
 some c
theorem qdZ (N:Nat) (a:List Int) (b:List Int) {res:List Int} (h:qaB N a b=some res):qb ZT (.fn 72) (kBD a b) [] (vl encI res) []:=by
 unfold qaB at h
 refine Ub Tryz.func72 rfl rfl (m:=19) rfl (rs:=[.tmp 4]) rfl (l:=(kI a b [])) rfl ?_
 refine sh fol (kI a b []) ?_
 refine sq (Goes.block ?_)
 obtain⟨i,g4,h⟩:=bnd h
 refine Goes.imp (Q:=fun x s'=>(x= .exit 0/\ ∃d,d=i/\Sub s' (ofG 19 (kAf d []),[]))) ?_ ?_
 ·refine Uc (fun M s=> ∃(e:List Int) (c:List Int),s=(ofG 19 (kI e c []),[])/\kM N M e c=some i) ?_ (m:=N) ⟨_,_,rfl,g4⟩
  rintro M s ⟨e,c,rfl,g4⟩
  cases M with
  |zero=>simp only[kM]at g4;cases g4
  |succ M=>
   rw[kM]at g4
   refine sq ?_
   refine sh fol (kI e c [(9,.bool (decide ((c.length:Int)>0)))]) ?_
   refine ihD g4 (fun j g4=>?_) (fun j g4=>?_)
   ·refine Goes.skip ?_
    refine Goes.block ?_
    obtain⟨g,f,g4⟩:=bnd g4
    refine sq (gr fol [2] [(1,vl encI c),(6,vl encI g.2)] (ac (cv (xC N e c f)) az) ?_)
    refine gh fol (kI c g.2 []) ?_
    exact⟨M,(ofG 19 (kI c g.2 []),[]),Nat.lt_succ_self _,(Sub.refl _),_,_,rfl,g4⟩
   refine Goes.exit ?_
   obtain rfl:=si g4
   exact⟨rfl,_,rfl,(Sub.keep [0] rfl rfl)⟩
 rintro x s' ⟨rfl,d,rfl,hsub⟩
 refine Goes.sub hsub ?_
 refine sh fol [(4,vl encI d)] ?_
 refine Goes.ret ?_
 obtain rfl:=si h
 exact(gw2 [vl encI d] (Ua (qw encI _ (nl rfl))))
def qJ (least:Int):Nat->Int->Str->Option Str
 |0,_,_=>none
 |K+1,a,b=>
  (if a>0 then
  some true
  else
  some (decide ((b.length:Int)<least)):Option Bool).bind fun d=>
  if d=true then
  (cut [48,49,50,51,52,53,54,55,56,57] (a.tmod 10) (w64 ((a.tmod 10)+1))).bind fun e=>
  (cat e b).bind fun c=>
  qJ least K (w64 (a.tdiv 10)) c
  else
  some b
def zB (N:Nat) (n:Int) (least:Int):Option Str:=
 (qJ least N n []).bind fun a=>
 some a
theorem qaz (N:Nat) (n:Int) (least:Int) {res:Str} (h:zB N n least=some res):qb ZT (.fn 159) [.i n,.i least] [] (.str res) []:=by
 unfold zB at h
 refine Ub Tryz.func159 rfl rfl (m:=25) rfl (rs:=[.tmp 4]) rfl (l:=(kAC n least [])) rfl ?_
 refine sh fol (kAC n least []) ?_
 refine sh fol (kAC n least [(5,.str [])]) ?_
 refine sq (Goes.block ?_)
 obtain⟨k,g4,h⟩:=bnd h
 refine Goes.imp (Q:=fun x s'=>(x= .exit 0/\ ∃f,f=k/\Sub s' (ofG 25 (kBd f),[]))) ?_ ?_
 ·refine Uc (fun M s=> ∃(b:Int) (d:Str),s=(ofG 25 (kAC b least (kBd d)),[])/\qJ least M b d=some k) ?_ (m:=N) ⟨_,_,rfl,g4⟩
  rintro M s ⟨b,d,rfl,g4⟩
  cases M with
  |zero=>simp only[qJ]at g4;cases g4
  |succ M=>
   rw[qJ]at g4
   refine sq ?_
   refine sq ?_
   obtain⟨p,a,g4⟩:=bnd g4
   refine Goes.cut (s':=(ofG 25 (kAC b least ((5,.str d)::(kBO p))),[])) ?_ ?_
   ·rcases wyD a with⟨j,a⟩|⟨j,a⟩
    ·obtain rfl:=si a
     exact tr fol [2] (kAC b least [(5,.str d),(13,.bool true)]) (ac (gw j) az)
    obtain rfl:=si a
    exact tr fol [2] (kAC b least ((5,.str d)::(kBO (decide ((d.length:Int)<least))))) (ac (gw j) az)
   refine ihB g4 (fun q g4=>?_) (fun q g4=>?_)
   ·refine Goes.skip ?_
    refine Goes.block ?_
    obtain⟨o,g,g4⟩:=bnd g4
    obtain⟨c,e,g4⟩:=bnd g4
    refine sq (gr fol [5,7] (kAC b least (kBd c)) (ac (hs (.done (.opt (qL ZT 9 (.str [48,49,50,51,52,53,54,55,56,57]) (some (.i (b.tmod 10))) (some (.i (w64 ((b.tmod 10)+1)))) none)) (.str o)) (zI st9 (some (b.tmod 10)) (some (w64 ((b.tmod 10)+1))) g)) (ac (hs (.done (.opt (qR ZT .add 9 (.tmp 19) (.tmp 20) (.str o) (.str d))) (.str c)) (qax e)) az)) ?_)
    refine gh fol (kAC (w64 (b.tdiv 10)) least (kBd c)) ?_
    exact⟨M,(ofG 25 (kAC (w64 (b.tdiv 10)) least (kBd c)),[]),Nat.lt_succ_self _,(Sub.refl _),_,_,rfl,g4⟩
   refine Goes.exit ?_
   obtain rfl:=si g4
   exact⟨rfl,_,rfl,(Sub.keep [5] rfl rfl)⟩
 rintro x s' ⟨rfl,f,rfl,hsub⟩
 refine Goes.sub hsub ?_
 refine sh fol (kAq f) ?_
 refine Goes.ret ?_
 obtain rfl:=si h
 exact(gw2 [.str f] (Ua tS))
def vK (N:Nat) (a:qz):Nat->Str->Int->Option Str
 |0,_,_=>none
 |K+1,e,b=>
  if b>=0 then
  (idx a.w b).bind fun f=>
  (zB N f 9).bind fun c=>
  (cat e c).bind fun d=>
  vK N a K d (w64 (b-1))
  else
  some e
def qaU (N:Nat) (a:qz):Option Str:=
 if(a.w.length:Int)=0 then
 some [48]
 else
 (idx a.w (w64 ((a.w.length:Int)-1))).bind fun d=>
 (zB N d 1).bind fun e=>
 (vK N a N e (w64 ((a.w.length:Int)-2))).bind fun c=>
 if a.neg=true then
 (cat [45] c).bind fun b=>
 some b
 else
 some c
theorem qcY (N:Nat) (a:qz) {res:Str} (h:qaU N a=some res):qb ZT (.fn 154) [.agg (kAg a.neg a.w)] [] (.str res) []:=by
 unfold qaU at h
 refine Ub Tryz.func154 rfl rfl (m:=39) rfl (rs:=[.tmp 2]) rfl (l:=[(0,.agg [.bool a.neg,vl encI a.w])]) rfl ?_
 refine sg fol (kAp []) (kAW a.neg a.w []) ?_
 refine sq ?_
 refine sh fol (kAp (kAw (decide ((a.w.length:Int)=0)))) ?_
 refine ihD h (fun u h=>?_) (fun u h=>?_)
 ·refine sh fol [(2,.str [48])] ?_
  refine Goes.ret ?_
  obtain rfl:=si h
  exact(gw2 [.str [48]] (Ua tS))
 refine Goes.skip ?_
 obtain⟨v,c,h⟩:=bnd h
 obtain⟨r,n,h⟩:=bnd h
 refine sq (gr fol [6,7,8] (kAp [(3,.str r)]) (ac (iv jB encI c) (ac (lv 0 ce3 encI c rfl) (ac (cv (qaz N v 1 n)) az))) ?_)
 refine sq ?_
 refine sh fol (kAp (kAs r (w64 ((a.w.length:Int)-2)) [])) ?_
 refine Goes.block ?_
 obtain⟨t,g7,h⟩:=bnd h
 refine Goes.imp (Q:=fun x s'=>(x= .exit 0/\ ∃f,f=t/\Sub s' (ofG 39 (kAp [(3,.str f)]),(kAW a.neg a.w [])))) ?_ ?_
 ·refine Uc (fun M s=> ∃(o:Str) (d:Int),s=(ofG 39 (kAp (kAs o d [])),(kAW a.neg a.w []))/\vK N a M o d=some t) ?_ (m:=N) ⟨_,_,rfl,g7⟩
  rintro M s ⟨o,d,rfl,g7⟩
  cases M with
  |zero=>simp only[vK]at g7;cases g7
  |succ M=>
   rw[vK]at g7
   refine sq ?_
   refine sh fol (kAp (kAs o d [(23,.bool (decide (d>=0)))])) ?_
   refine ihD g7 (fun y g7=>?_) (fun y g7=>?_)
   ·refine Goes.skip ?_
    refine sq (Goes.block ?_)
    obtain⟨z,e,g7⟩:=bnd g7
    obtain⟨p,g,g7⟩:=bnd g7
    obtain⟨b,i,g7⟩:=bnd g7
    refine gr fol [4,5,6,7] (kAp (kAs b d [])) (ac (iv jB encI e) (ac (lv 0 ce3 encI e rfl) (ac (cv (qaz N z 9 g)) (ac (hs (.done (.opt (qR ZT .add 9 (.tmp 26) (.tmp 32) (.str o) (.str p))) (.str b)) (qax i)) az)))) ?_
    refine gh fol (kAp (kAs b (w64 (d-1)) [])) ?_
    exact⟨M,(ofG 39 (kAp (kAs b (w64 (d-1)) [])),(kAW a.neg a.w [])),Nat.lt_succ_self _,(Sub.refl _),_,_,rfl,g7⟩
   refine Goes.exit ?_
   obtain rfl:=si g7
   exact⟨rfl,_,rfl,(Sub.keep [1,3] rfl rfl)⟩
 rintro x s' ⟨rfl,f,rfl,hsub⟩
 refine Goes.sub hsub ?_
 refine sq ?_
 refine sh fol [(3,.str f),(35,.bool a.neg)] ?_
 refine ihB h (fun q h=>?_) (fun q h=>?_)
 ·obtain⟨j,k,h⟩:=bnd h
  refine sq (gr fol [1] (kBJ j) (ac (hs (.done (.opt (qR ZT .add 9 (.const (.string ⟨#[45]⟩)) (.tmp 36) (.str [45]) (.str f))) (.str j)) (qax k)) az) ?_)
  refine Goes.ret ?_
  obtain rfl:=si h
  exact(gw2 [.str j] (Ua tS))
 refine Goes.skip ?_
 refine sh fol (kBJ f) ?_
 refine Goes.ret ?_
 obtain rfl:=si h
 exact(gw2 [.str f] (Ua tS))
def xg (N:Nat) (a:qz):Option qz:=
 (zl N (!a.neg) a.w).bind fun b=>
 some b
theorem qeB (N:Nat) (a:qz) {res:qz} (h:xg N a=some res):qb ZT (.fn 205) [.agg (kAg a.neg a.w)] [] (.agg (kAg res.neg res.w)) []:=by
 unfold xg at h
 refine Ub Tryz.func205 rfl rfl (m:=9) rfl (rs:=[.cell 2 107]) rfl (l:=[(0,.agg [.bool a.neg,vl encI a.w])]) rfl ?_
 refine sg fol (kAB []) (kAW a.neg a.w (kP [])) ?_
 obtain⟨c,b,h⟩:=bnd h
 refine sq (gq fol [5] kBW (kL a.neg a.w c.neg c.w []) (ac (cv (zA N (!a.neg) a.w b)) az) ?_)
 refine Goes.ret ?_
 obtain rfl:=si h
 exact(gw2 [.agg (kAg c.neg c.w)] (FzW.agg (qc.cons (Ua tB) (qc.cons (Ua (qw encI _ (nl rfl))) qc.nil))))
def jV (N:Nat) (n:qz) (d:qz):Option Str:=
 ((if d.neg=true then
 (xg N n).bind fun l=>
 (xg N d).bind fun m=>
 some (l.neg,l.w,m.neg,m.w)
 else
 some (n.neg,n.w,d.neg,d.w):Option (Bool×(List Int)×Bool×(List Int)))).bind fun(r,o,s,p)=>
 (qaB N o p).bind fun q=>
 (zT N o q).bind fun c=>
 (zT N p q).bind fun a=>
 (zl N r c.1).bind fun e=>
 (qaU N e).bind fun b=>
 (if(a.1.length:Int)=1 then
 (idx a.1 0).bind fun f=>
 some (decide (f=1))
 else
 some false:Option Bool).bind fun g=>
 if g=true then
 some b
 else
 (cat b [47]).bind fun h=>
 (zl N false a.1).bind fun i=>
 (qaU N i).bind fun j=>
 (cat h j).bind fun k=>
 some k
theorem xU (N:Nat) (n:qz) (d:qz) {res:Str} (h:jV N n d=some res):qb ZT (.fn 151) (kAl n.neg n.w d.neg d.w) [] (.str res) []:=by
 unfold jV at h
 refine Ub Tryz.func151 rfl rfl (m:=57) rfl (rs:=[.tmp 4]) rfl (l:=(kBM n.neg n.w d.neg d.w)) rfl ?_
 refine sg fol (kO (kAV [])) (kL n.neg n.w d.neg d.w []) ?_
 refine sq ?_
 refine sh fol (kO (kAV (kBE d.neg))) ?_
 obtain⟨O,g5,h⟩:=bnd h
 refine Goes.imp (Q:=fun x s'=>(x= .normal/\ ∃y u D v,(y,u,D,v)=O/\Sub s' (ofG 57 (kO (kAV [])),(kL y u D v [])))) ?_ ?_
 ·refine ihB g5 (fun P g5=>?_) (fun P g5=>?_)
  ·obtain⟨L,z,g5⟩:=bnd g5
   obtain⟨M,A,g5⟩:=bnd g5
   refine gq fol [1,3] (kO (kAV [])) (kL L.neg L.w M.neg M.w []) (ac (cv (qeB N n z)) (ac (cv (qeB N d A)) az)) ?_
   obtain rfl:=si g5
   exact⟨rfl,_,_,_,_,rfl,(Sub.refl _)⟩
  refine Goes.skip ?_
  obtain rfl:=si g5
  exact⟨rfl,_,_,_,_,rfl,(Sub.keep [2,3] rfl rfl)⟩
 rintro x s' ⟨rfl,y,u,D,v,rfl,hsub⟩
 try dsimp only at h
 refine Goes.sub hsub ?_
 obtain⟨E,B,h⟩:=bnd h
 refine sq (gr fol [4] (kO (kAV (kBH E []))) (ac (cv (qdZ N u v B)) az) ?_)
 obtain⟨f,g,h⟩:=bnd h
 refine sq (gr fol [3] (kO (kAV (kBH E [(6,vl encI f.1)]))) (ac (cv (xC N u E g)) az) ?_)
 obtain⟨c,i,h⟩:=bnd h
 refine sq (gr fol [3] (kO [(6,vl encI f.1),(8,vl encI c.1)]) (ac (cv (xC N v E i)) az) ?_)
 obtain⟨F,j,h⟩:=bnd h
 obtain⟨b,k,h⟩:=bnd h
 refine sq (gr fol [3,4] [(8,vl encI c.1),(10,.str b)] (ac (cv (zA N y f.1 j)) (ac (cv (qcY N F k)) az)) ?_)
 refine sq ?_
 refine sq ?_
 obtain⟨G,a,h⟩:=bnd h
 refine Goes.cut (s':=(ofG 57 [(8,vl encI c.1),(10,.str b),(49,.bool G)],(kL y u D v []))) ?_ ?_
 ·rcases wyD a with⟨o,a⟩|⟨o,a⟩
  ·obtain⟨H,e,a⟩:=bnd a
   obtain rfl:=si a
   exact tr fol [3,5,6] [(8,vl encI c.1),(10,.str b),(49,.bool (decide (H=1)))] (ac (gw o) (ac (iv jB encI e) (ac (lv 0 ce3 encI e rfl) az)))
  obtain rfl:=si a
  exact tr fol [3] [(8,vl encI c.1),(10,.str b),(49,.bool false)] (ac (gw o) az)
 refine ihB h (fun I h=>?_) (fun I h=>?_)
 ·refine sh fol (kAq b) ?_
  refine Goes.ret ?_
  obtain rfl:=si h
  exact(gw2 [.str b] (Ua tS))
 refine Goes.skip ?_
 obtain⟨C,p,h⟩:=bnd h
 obtain⟨J,q,h⟩:=bnd h
 obtain⟨K,r,h⟩:=bnd h
 obtain⟨s,t,h⟩:=bnd h
 refine sq (gr fol [1,3,4,5] (kAq s) (ac (hs (.done (.opt (qR ZT .add 9 (.tmp 51) (.const (.string ⟨#[47]⟩)) (.str b) (.str [47]))) (.str C)) (qax p)) (ac (cv (zA N false c.1 q)) (ac (cv (qcY N J r)) (ac (hs (.done (.opt (qR ZT .add 9 (.tmp 52) (.tmp 55) (.str C) (.str K))) (.str s)) (qax t)) az)))) ?_)
 refine Goes.ret ?_
 obtain rfl:=si h
 exact(gw2 [.str s] (Ua tS))
def jF:Nat->Int->Int->Option Int
 |0,_,_=>none
 |K+1,b,a=>
  if a>0 then
  (qei .i64 b a).bind fun c=>
  jF K a c
  else
  some b
def qdq (N:Nat) (a:Int) (b:Int):Option Int:=
 (jF N a b).bind fun c=>
 some c
theorem qjC (N:Nat) (a:Int) (b:Int) {res:Int} (h:qdq N a b=some res):qb ZT (.fn 158) [.i a,.i b] [] (.i res) []:=by
 unfold qdq at h
 refine Ub Tryz.func158 rfl rfl (m:=12) rfl (rs:=[.tmp 4]) rfl (l:=(kAC a b [])) rfl ?_
 refine sh fol (kAC a b []) ?_
 refine sq (Goes.block ?_)
 obtain⟨j,g4,h⟩:=bnd h
 refine Goes.imp (Q:=fun x s'=>(x= .exit 0/\ ∃d,d=j/\Sub s' (ofG 12 [(0,.i d)],[]))) ?_ ?_
 ·refine Uc (fun M s=> ∃(e:Int) (c:Int),s=(ofG 12 (kAC e c []),[])/\jF M e c=some j) ?_ (m:=N) ⟨_,_,rfl,g4⟩
  rintro M s ⟨e,c,rfl,g4⟩
  cases M with
  |zero=>simp only[jF]at g4;cases g4
  |succ M=>
   rw[jF]at g4
   refine sq ?_
   refine sh fol (kAC e c [(6,.bool (decide (c>0)))]) ?_
   refine ihD g4 (fun k g4=>?_) (fun k g4=>?_)
   ·refine Goes.skip ?_
    refine Goes.block ?_
    obtain⟨g,f,g4⟩:=bnd g4
    refine gr fol [3] (kAC c g []) (ac (hs (.done (.opt (qR ZT .rem 3 (.tmp 8) (.tmp 9) (.i e) (.i c))) (.i g)) (qfP f)) az) ?_
    exact⟨M,(ofG 12 (kAC c g []),[]),Nat.lt_succ_self _,(Sub.refl _),_,_,rfl,g4⟩
   refine Goes.exit ?_
   obtain rfl:=si g4
   exact⟨rfl,_,rfl,(Sub.keep [0] rfl rfl)⟩
 rintro x s' ⟨rfl,d,rfl,hsub⟩
 refine Goes.sub hsub ?_
 refine sh fol [(4,.i d)] ?_
 refine Goes.ret ?_
 obtain rfl:=si h
 exact(gw2 [.i d] (Ua tI))
def qc8 (N:Nat) (num:Int) (den:Int):Option Str:=
 (if num<(-4000000000000000000)then
 some true
 else
 if num>4000000000000000000 then
 some true
 else
 if den<(-4000000000000000000)then
 some true
 else
 some (decide (den>4000000000000000000)):Option Bool).bind fun m=>
 if m=true then
 (qag N num).bind fun n=>
 (qag N den).bind fun o=>
 (jV N n o).bind fun p=>
 some p
 else
 ((if den<0 then
 some (w64 (0-num),w64 (0-den))
 else
 some (num,den):Option (Int×Int))).bind fun(a,c)=>
 (qdq N (if(w64 (0-a))>a then(w64 (0-a))else a) c).bind fun d=>
 (qcp .i64 a d).bind fun b=>
 (qcp .i64 c d).bind fun e=>
 ((if b<0 then
 some [45]
 else
 some []:Option Str)).bind fun g=>
 (zB N (if(w64 (0-b))>b then(w64 (0-b))else b) 1).bind fun h=>
 (cat g h).bind fun f=>
 ((if e>1 then
 (cat f [47]).bind fun i=>
 (zB N e 1).bind fun j=>
 (cat i j).bind fun k=>
 some k
 else
 some f:Option Str)).bind fun l=>
 some l
theorem qgr (N:Nat) (num:Int) (den:Int) {res:Str} (h:qc8 N num den=some res):qb ZT (.fn 84) [.i num,.i den] [] (.str res) []:=by
 unfold qc8 at h
 refine Ub Tryz.func84 rfl rfl (m:=61) rfl (rs:=[.tmp 4]) rfl (l:=(kAC num den [])) rfl ?_
 refine sh fol (kAC num den []) ?_
 refine sq ?_
 refine sq ?_
 obtain⟨O,a,h⟩:=bnd h
 refine Goes.cut (s':=(ofG 61 (kAC num den [(20,.bool O)]),[])) ?_ ?_
 ·rcases wyD a with⟨v,a⟩|⟨v,a⟩
  ·obtain rfl:=si a
   exact tr fol [2] (kAC num den [(20,.bool true)]) (ac (gw v) az)
  rcases wyD a with⟨C,a⟩|⟨C,a⟩
  ·obtain rfl:=si a
   exact tr fol [2,6] (kAC num den [(20,.bool true)]) (ac (gw v) (ac (gw C) az))
  rcases wyD a with⟨D,a⟩|⟨D,a⟩
  ·obtain rfl:=si a
   exact tr fol [2,6,10] (kAC num den [(20,.bool true)]) (ac (gw v) (ac (gw C) (ac (gw D) az)))
  obtain rfl:=si a
  exact tr fol [2,6,10] (kAC num den [(20,.bool (decide (den>4000000000000000000)))]) (ac (gw v) (ac (gw C) (ac (gw D) az)))
 refine ihB h (fun P h=>?_) (fun P h=>?_)
 ·obtain⟨U,w,h⟩:=bnd h
  obtain⟨V,y,h⟩:=bnd h
  obtain⟨M,z,h⟩:=bnd h
  refine sq (gr fol [1,3,4] (kAq M) (ac (cv (qcu N num w)) (ac (cv (qcu N den y)) (ac (cv (xU N U V z)) az))) ?_)
  refine Goes.ret ?_
  obtain rfl:=si h
  exact(gw2 [.str M] (Ua tS))
 refine Goes.skip ?_
 refine sq ?_
 refine sh fol (kAC num den [(27,.bool (decide (den<0)))]) ?_
 obtain⟨E,g12,h⟩:=bnd h
 refine Goes.imp (Q:=fun x s'=>(x= .normal/\ ∃d e,(d,e)=E/\Sub s' (ofG 61 (kAC d e []),[]))) ?_ ?_
 ·refine ihD g12 (fun F g12=>?_) (fun F g12=>?_)
  ·refine gh fol (kAC (w64 (0-num)) (w64 (0-den)) []) ?_
   obtain rfl:=si g12
   exact⟨rfl,_,_,rfl,(Sub.refl _)⟩
  refine Goes.skip ?_
  obtain rfl:=si g12
  exact⟨rfl,_,_,rfl,(Sub.keep [0,1] rfl rfl)⟩
 rintro x s' ⟨rfl,d,e,rfl,hsub⟩
 try dsimp only at h
 refine Goes.sub hsub ?_
 obtain⟨k,n,h⟩:=bnd h
 refine sq (gr fol [5] (kAC d e (kBG k)) (ac (cv (qjC N (if(w64 (0-d))>d then(w64 (0-d))else d) e n)) az) ?_)
 obtain⟨b,o,h⟩:=bnd h
 obtain⟨c,p,h⟩:=bnd h
 refine sq (gr fol [2,5] (kAC b c []) (ac (hs (.done (.opt (qR ZT .quo 3 (.tmp 38) (.tmp 39) (.i d) (.i k))) (.i b)) (qbY o)) (ac (hs (.done (.opt (qR ZT .quo 3 (.tmp 41) (.tmp 42) (.i e) (.i k))) (.i c)) (qbY p)) az)) ?_)
 refine sh fol (kAC b c [(6,.str [])]) ?_
 refine sq ?_
 refine sh fol (kAC b c [(6,.str []),(45,.bool (decide (b<0)))]) ?_
 obtain⟨G,g18,h⟩:=bnd h
 refine Goes.imp (Q:=fun x s'=>(x= .normal/\ ∃g,g=G/\Sub s' (ofG 61 (kAC b c [(6,.str g)]),[]))) ?_ ?_
 ·refine ihD g18 (fun H g18=>?_) (fun H g18=>?_)
  ·refine gh fol (kAC b c [(6,.str [45])]) ?_
   obtain rfl:=si g18
   exact⟨rfl,_,rfl,(Sub.refl _)⟩
  refine Goes.skip ?_
  obtain rfl:=si g18
  exact⟨rfl,_,rfl,(Sub.keep [0,1,6] rfl rfl)⟩
 rintro x s' ⟨rfl,g,rfl,hsub⟩
 refine Goes.sub hsub ?_
 obtain⟨I,q,h⟩:=bnd h
 obtain⟨j,r,h⟩:=bnd h
 refine sq (gr fol [5,6] [(1,.i c),(6,.str j)] (ac (cv (qaz N (if(w64 (0-b))>b then(w64 (0-b))else b) 1 q)) (ac (hs (.done (.opt (qR ZT .add 9 (.tmp 46) (.tmp 51) (.str g) (.str I))) (.str j)) (qax r)) az)) ?_)
 refine sq ?_
 refine sh fol [(1,.i c),(6,.str j),(54,.bool (decide (c>1)))] ?_
 obtain⟨J,g23,h⟩:=bnd h
 refine Goes.imp (Q:=fun x s'=>(x= .normal/\ ∃f,f=J/\Sub s' (ofG 61 [(6,.str f)],[]))) ?_ ?_
 ·refine ihD g23 (fun K g23=>?_) (fun K g23=>?_)
  ·obtain⟨A,s,g23⟩:=bnd g23
   obtain⟨L,t,g23⟩:=bnd g23
   obtain⟨B,u,g23⟩:=bnd g23
   refine gr fol [1,3,4] [(6,.str B)] (ac (hs (.done (.opt (qR ZT .add 9 (.tmp 55) (.const (.string ⟨#[47]⟩)) (.str j) (.str [47]))) (.str A)) (qax s)) (ac (cv (qaz N c 1 t)) (ac (hs (.done (.opt (qR ZT .add 9 (.tmp 56) (.tmp 58) (.str A) (.str L))) (.str B)) (qax u)) az))) ?_
   obtain rfl:=si g23
   exact⟨rfl,_,rfl,(Sub.refl _)⟩
  refine Goes.skip ?_
  obtain rfl:=si g23
  exact⟨rfl,_,rfl,(Sub.keep [6] rfl rfl)⟩
 rintro x s' ⟨rfl,f,rfl,hsub⟩
 refine Goes.sub hsub ?_
 refine sh fol (kAq f) ?_
 refine Goes.ret ?_
 obtain rfl:=si h
 exact(gw2 [.str f] (Ua tS))
def jJ (N:Nat) (a:Str):Option (Int×Int×Bool):=
 if(a.length:Int)>20 then
 some (0,0,false)
 else
 (if(a.length:Int)>0 then
 (idx a 0).bind fun l=>
 some (decide ((l.toNat:Int)=45))
 else
 some false:Option Bool).bind fun k=>
 ((if k=true then
 (cut a 1 (a.length:Int)).bind fun m=>
 some m
 else
 some a:Option Str)).bind fun c=>
 (vN N c).bind fun b=>
 (if b>9 then
 some true
 else
 some (decide ((w64 ((c.length:Int)-b))>10)):Option Bool).bind fun e=>
 if e=true then
 some (0,0,false)
 else
 (cut c 0 b).bind fun f=>
 (xn N f).bind fun d=>
 ((if b<(c.length:Int)then
 (cut c (w64 (b+1)) (c.length:Int)).bind fun g=>
 (xn N g).bind fun h=>
 some h
 else
 some 1:Option Int)).bind fun i=>
 ((if k=true then
 some (w64 (0-d))
 else
 some d:Option Int)).bind fun j=>
 some (j,i,true)
theorem qa4 (N:Nat) (a:Str) {res:Int×Int×Bool} (h:jJ N a=some res):qb ZT (.fn 150) [.str a] [] (.tuple [.i res.1,.i res.2.1,.bool res.2.2]) []:=by
 unfold jJ at h
 refine Ub Tryz.func150 rfl rfl (m:=54) rfl (rs:=[.tmp 2,.tmp 3,.tmp 4]) rfl (l:=(kAM a [])) rfl ?_
 refine sh fol (kAM a []) ?_
 refine sh fol (kBd a) ?_
 refine sq ?_
 refine sh fol ((5,.str a)::(kBO (decide ((a.length:Int)>20)))) ?_
 refine ihD h (fun I h=>?_) (fun I h=>?_)
 ·refine sh fol ((2,.i 0)::(3,.i 0)::kAh) ?_
  refine Goes.ret ?_
  obtain rfl:=si h
  exact(gw2 [.i 0,.i 0,.bool false] (FzW.tuple (qc.cons (Ua tI) (qc.cons (Ua tI) (qc.cons (Ua tB) qc.nil)))))
 refine Goes.skip ?_
 refine sq ?_
 obtain⟨f,c,h⟩:=bnd h
 refine Goes.cut (s':=(ofG 54 (kA5 a f []),[])) ?_ ?_
 ·rcases wyD c with⟨y,c⟩|⟨y,c⟩
  ·obtain⟨G,t,c⟩:=bnd c
   obtain rfl:=si c
   exact tr fol [3,5] (kA5 a (decide ((G.toNat:Int)=45)) []) (ac (gw y) (ac (hs (.done (.opt (yj ZT 9 (.str a) (.i 0))) (.int .u8 (G.toNat:Int))) (qaG st9 t)) az))
  obtain rfl:=si c
  exact tr fol [3] [(5,.str a),(6,.bool false)] (ac (gw y) az)
 refine sq ?_
 refine sh fol (kA5 a f [(22,.bool f)]) ?_
 obtain⟨J,g7,h⟩:=bnd h
 refine Goes.imp (Q:=fun x s'=>(x= .normal/\ ∃g,g=J/\Sub s' (ofG 54 (kA5 g f []),[]))) ?_ ?_
 ·refine ihB g7 (fun K g7=>?_) (fun K g7=>?_)
  ·obtain⟨H,u,g7⟩:=bnd g7
   refine gr fol [1] (kA5 H f []) (ac (hs (.done (.opt (qL ZT 9 (.str a) (some (.i 1)) none none)) (.str H)) (zI st9 (some 1) none u)) az) ?_
   obtain rfl:=si g7
   exact⟨rfl,_,rfl,(Sub.refl _)⟩
  refine Goes.skip ?_
  obtain rfl:=si g7
  exact⟨rfl,_,rfl,(Sub.keep [5,6] rfl rfl)⟩
 rintro x s' ⟨rfl,g,rfl,hsub⟩
 refine Goes.sub hsub ?_
 obtain⟨b,n,h⟩:=bnd h
 refine sq (gr fol [1] (kA5 g f [(7,.i b)]) (ac (cv (xe N g n)) az) ?_)
 refine sq ?_
 refine sq ?_
 obtain⟨z,d,h⟩:=bnd h
 refine Goes.cut (s':=(ofG 54 (kA5 g f [(7,.i b),(35,.bool z)]),[])) ?_ ?_
 ·rcases wyD d with⟨o,d⟩|⟨o,d⟩
  ·obtain rfl:=si d
   exact tr fol [2] (kA5 g f [(7,.i b),(35,.bool true)]) (ac (gw o) az)
  obtain rfl:=si d
  exact tr fol [2] (kA5 g f [(7,.i b),(35,.bool (decide ((w64 ((g.length:Int)-b))>10)))]) (ac (gw o) az)
 refine ihB h (fun A h=>?_) (fun A h=>?_)
 ·refine sh fol ((2,.i 0)::(3,.i 0)::kAh) ?_
  refine Goes.ret ?_
  obtain rfl:=si h
  exact(gw2 [.i 0,.i 0,.bool false] (FzW.tuple (qc.cons (Ua tI) (qc.cons (Ua tI) (qc.cons (Ua tB) qc.nil)))))
 refine Goes.skip ?_
 obtain⟨v,p,h⟩:=bnd h
 obtain⟨j,q,h⟩:=bnd h
 refine sq (gr fol [2,3] (kA5 g f (kAQ b j [(9,.i 1)])) (ac (hs (.done (.opt (qL ZT 9 (.str g) none (some (.i b)) none)) (.str v)) (zI st9 none (some b) p)) (ac (cv (qbe N v q)) az)) ?_)
 refine sq ?_
 refine sh fol (kA5 g f (kAQ b j [(9,.i 1),(43,.bool (decide (b<(g.length:Int))))])) ?_
 obtain⟨B,g18,h⟩:=bnd h
 refine Goes.imp (Q:=fun x s'=>(x= .normal/\ ∃e,e=B/\Sub s' (ofG 54 ((6,.bool f)::(kAx j e [])),[]))) ?_ ?_
 ·refine ihD g18 (fun C g18=>?_) (fun C g18=>?_)
  ·obtain⟨w,r,g18⟩:=bnd g18
   obtain⟨D,s,g18⟩:=bnd g18
   refine gr fol [3,4] ((6,.bool f)::(kAx j D [])) (ac (hs (.done (.opt (qL ZT 9 (.str g) (some (.i (w64 (b+1)))) none none)) (.str w)) (zI st9 (some (w64 (b+1))) none r)) (ac (cv (qbe N w s)) az)) ?_
   obtain rfl:=si g18
   exact⟨rfl,_,rfl,(Sub.refl _)⟩
  refine Goes.skip ?_
  obtain rfl:=si g18
  exact⟨rfl,_,rfl,(Sub.keep [6,8,9] rfl rfl)⟩
 rintro x s' ⟨rfl,e,rfl,hsub⟩
 refine Goes.sub hsub ?_
 refine sq ?_
 refine sh fol (kAx j e [(49,.bool f)]) ?_
 obtain⟨E,g23,h⟩:=bnd h
 refine Goes.imp (Q:=fun x s'=>(x= .normal/\ ∃k,k=E/\Sub s' (ofG 54 (kAx k e []),[]))) ?_ ?_
 ·refine ihB g23 (fun F g23=>?_) (fun F g23=>?_)
  ·refine gh fol (kAx (w64 (0-j)) e []) ?_
   obtain rfl:=si g23
   exact⟨rfl,_,rfl,(Sub.refl _)⟩
  refine Goes.skip ?_
  obtain rfl:=si g23
  exact⟨rfl,_,rfl,(Sub.keep [8,9] rfl rfl)⟩
 rintro x s' ⟨rfl,k,rfl,hsub⟩
 refine Goes.sub hsub ?_
 refine sh fol [(2,.i k),(3,.i e),(4,.bool true)] ?_
 refine Goes.ret ?_
 obtain rfl:=si h
 exact(gw2 [.i k,.i e,.bool true] (FzW.tuple (qc.cons (Ua tI) (qc.cons (Ua tI) (qc.cons (Ua tB) qc.nil)))))
def yw (N:Nat) (a:qz) (b:qz):Option qz:=
 (ve N a.w b.w).bind fun c=>
 (zl N (!(a.neg==b.neg)) c).bind fun d=>
 some d
theorem qaq (N:Nat) (a:qz) (b:qz) {res:qz} (h:yw N a b=some res):qb ZT (.fn 152) (kAl a.neg a.w b.neg b.w) [] (.agg (kAg res.neg res.w)) []:=by
 unfold yw at h
 refine Ub Tryz.func152 rfl rfl (m:=16) rfl (rs:=[.cell 4 107]) rfl (l:=(kBM a.neg a.w b.neg b.w)) rfl ?_
 refine sg fol (kF []) (kL a.neg a.w b.neg b.w (kP [])) ?_
 obtain⟨f,c,h⟩:=bnd h
 obtain⟨e,d,h⟩:=bnd h
 refine sq (gq fol [9,10] (kAR []) (kL a.neg a.w b.neg b.w (kAW e.neg e.w [])) (ac (cv (qaS N a.w b.w c)) (ac (cv (zA N (!(a.neg==b.neg)) f d)) az)) ?_)
 refine Goes.ret ?_
 obtain rfl:=si h
 exact(gw2 [.agg (kAg e.neg e.w)] (FzW.agg (qc.cons (Ua tB) (qc.cons (Ua (qw encI _ (nl rfl))) qc.nil))))
def qab (a:List Int) (i:Int):Option Int:=
 if i<(a.length:Int)then
 (idx a i).bind fun b=>
 some b
 else
 some 0
theorem qcv (a:List Int) (i:Int) {res:Int} (h:qab a i=some res):qb ZT (.fn 234) [vl encI a,.i i] [] (.i res) []:=by
 unfold qab at h
 refine Ub Tryz.func234 rfl rfl (m:=13) rfl (rs:=[.tmp 4]) rfl (l:=(kAf a [(1,.i i)])) rfl ?_
 refine sh fol (kAf a [(1,.i i)]) ?_
 refine sq ?_
 refine sh fol (kAf a ((1,.i i)::(kAw (decide (i<(a.length:Int)))))) ?_
 refine ihD h (fun d h=>?_) (fun d h=>?_)
 ·obtain⟨c,b,h⟩:=bnd h
  refine sq (gr fol [2,3] [(4,.i c)] (ac (iv jB encI b) (ac (lv 0 ce3 encI b rfl) az)) ?_)
  refine Goes.ret ?_
  obtain rfl:=si h
  exact(gw2 [.i c] (Ua tI))
 refine Goes.skip ?_
 refine sh fol [(4,.i 0)] ?_
 refine Goes.ret ?_
 obtain rfl:=si h
 exact(gw2 [.i 0] (Ua tI))
def zx (a:List Int) (b:List Int):Nat->(List Int)->Int->Int->Option (List Int)
 |0,_,_,_=>none
 |K+1,h,f,c=>
  (if c<(a.length:Int)then
  some true
  else
  if c<(b.length:Int)then
  some true
  else
  some (decide (f>0)):Option Bool).bind fun i=>
  if i=true then
  (qab a c).bind fun d=>
  (qab b c).bind fun e=>
  (app 8 h [(w64 ((w64 (d+e))+f)).tmod 1000000000]).bind fun g=>
  zx a b K g (w64 ((w64 ((w64 (d+e))+f)).tdiv 1000000000)) (w64 (c+1))
  else
  some h
def ym (N:Nat) (a:List Int) (b:List Int):Option (List Int):=
 (zx a b N ([]:List Int) 0 0).bind fun c=>
 some c
theorem qcb (N:Nat) (a:List Int) (b:List Int) {res:List Int} (h:ym N a b=some res):qb ZT (.fn 206) (kBD a b) [] (vl encI res) []:=by
 unfold ym at h
 refine Ub Tryz.func206 rfl rfl (m:=42) rfl (rs:=[.tmp 4]) rfl (l:=(kI a b [])) rfl ?_
 refine sh fol (kI a b []) ?_
 refine sh fol (kI a b [(5,.nilslice)]) ?_
 refine sh fol (kI a b [(5,.nilslice),(6,.i 0)]) ?_
 refine sq ?_
 refine sh fol (kI a b [(5,.nilslice),(6,.i 0),(7,.i 0)]) ?_
 refine Goes.block ?_
 obtain⟨v,g5,h⟩:=bnd h
 refine Goes.imp (Q:=fun x s'=>(x= .exit 0/\ ∃q,q=v/\Sub s' (ofG 42 (kAX q []),(kC q [])))) ?_ ?_
 ·refine Goes.sub (s':=(ofG 42 (kI a b [(5,.gslice 0 ([]:List Int).length 1),(6,.i 0),(7,.i 0)]),kBB)) (Sub.norm [] [none] rfl rfl (.keep (.same (qf encI _)) (.keep (.same (qf encI _)) (.keep .nil (.keep (.same nI) (.keep (.same nI) .nil))))) (.fresh .nil)) ?_
  refine Uc (fun M s=> ∃(k:List Int) (f:Int) (j:Int),s=(ofG 42 (kI a b (kAX k (kAr f j []))),(kC k []))/\zx a b M k f j=some v) ?_ (m:=N) ⟨_,_,_,rfl,g5⟩
  rintro M s ⟨k,f,j,rfl,g5⟩
  cases M with
  |zero=>simp only[zx]at g5;cases g5
  |succ M=>
   rw[zx]at g5
   refine sq ?_
   refine sq ?_
   obtain⟨w,c,g5⟩:=bnd g5
   refine Goes.cut (s':=(ofG 42 (kI a b (kAX k (kAr f j [(22,.bool w)]))),(kC k []))) ?_ ?_
   ·rcases wyD c with⟨r,c⟩|⟨r,c⟩
    ·obtain rfl:=si c
     exact tr fol [4] (kI a b (kAX k (kAr f j [(22,.bool true)]))) (ac (gw r) az)
    rcases wyD c with⟨t,c⟩|⟨t,c⟩
    ·obtain rfl:=si c
     exact tr fol [4,10] (kI a b (kAX k (kAr f j [(22,.bool true)]))) (ac (gw r) (ac (gw t) az))
    obtain rfl:=si c
    exact tr fol [4,10] (kI a b (kAX k (kAr f j [(22,.bool (decide (f>0)))]))) (ac (gw r) (ac (gw t) az))
   refine ihB g5 (fun u g5=>?_) (fun u g5=>?_)
   ·refine Goes.skip ?_
    refine sq (Goes.block ?_)
    obtain⟨d,n,g5⟩:=bnd g5
    obtain⟨e,o,g5⟩:=bnd g5
    refine sq (gr fol [2,5] (kI a b (kAX k (kAQ j (w64 ((w64 (d+e))+f)) []))) (ac (cv (qcv a j n)) (ac (cv (qcv b j o)) az)) ?_)
    obtain⟨g,p,g5⟩:=bnd g5
    refine sq (gq fol [4] (kI a b ((5,.gslice 2 g.length 1)::(kAQ j (w64 ((w64 (d+e))+f)) []))) (kBC ((w64 ((w64 (d+e))+f)).tmod 1000000000) (kC g [])) (ac (hs (.run [0,1] (xX ZT [60,60] (.gslice 0 k.length 1) (.slice 1 0 1 1 1)) (kC k [.cells [.i ((w64 ((w64 (d+e))+f)).tmod 1000000000)]]) (.gslice 2 g.length 1) (kBC ((w64 ((w64 (d+e))+f)).tmod 1000000000) (kC g [])) true) (qcD jB (E:=encI) rfl (qhI (E:=encI) (ys:=[(w64 ((w64 (d+e))+f)).tmod 1000000000]) rfl rfl rfl rfl) (qiN (E:=encI) (l:=k) rfl rfl rfl p rfl))) az) ?_)
    refine gh fol (kI a b ((5,.gslice 2 g.length 1)::(kAr (w64 ((w64 ((w64 (d+e))+f)).tdiv 1000000000)) j []))) ?_
    refine gh fol (kI a b ((5,.gslice 2 g.length 1)::(kAr (w64 ((w64 ((w64 (d+e))+f)).tdiv 1000000000)) (w64 (j+1)) []))) ?_
    exact⟨M,(ofG 42 (kI a b (kAX g (kAr (w64 ((w64 ((w64 (d+e))+f)).tdiv 1000000000)) (w64 (j+1)) []))),(kC g [])),Nat.lt_succ_self _,(Sub.norm [] [some 2] rfl rfl (.keep (.same (qf encI _)) (.keep (.same (qf encI _)) (.keep (.gslice rfl) (.keep (.same nI) (.keep (.same nI) .nil))))) (.ks .nil)),_,_,_,rfl,g5⟩
   refine Goes.exit ?_
   obtain rfl:=si g5
   exact⟨rfl,_,rfl,(Sub.keep [5] rfl rfl)⟩
 rintro x s' ⟨rfl,q,rfl,hsub⟩
 refine Goes.sub hsub ?_
 refine sh fol [(4,.gslice 0 q.length 1)] ?_
 refine Goes.ret ?_
 obtain rfl:=si h
 exact(gw2 [.gslice 0 q.length 1] (FzW.fz (Fz.gs (E:=encI) rfl rfl (nl rfl))))
def kG (a:List Int) (b:List Int):Nat->(List Int)->Int->Int->Option (List Int)
 |0,_,_,_=>none
 |K+1,i,d,c=>
  if c<(a.length:Int)then
  (idx a c).bind fun e=>
  (qab b c).bind fun f=>
  ((if(w64 ((w64 (e-f))-d))<0 then
  some (1,w64 ((w64 ((w64 (e-f))-d))+1000000000))
  else
  some (0,w64 ((w64 (e-f))-d)):Option (Int×Int))).bind fun(j,g)=>
  (app 8 i [g]).bind fun h=>
  kG a b K h j (w64 (c+1))
  else
  some i
def yl (N:Nat) (a:List Int) (b:List Int):Option (List Int):=
 (kG a b N ([]:List Int) 0 0).bind fun d=>
 (vW N d).bind fun c=>
 some c
theorem qcr (N:Nat) (a:List Int) (b:List Int) {res:List Int} (h:yl N a b=some res):qb ZT (.fn 207) (kBD a b) [] (vl encI res) []:=by
 unfold yl at h
 refine Ub Tryz.func207 rfl rfl (m:=35) rfl (rs:=[.tmp 4]) rfl (l:=(kI a b [])) rfl ?_
 refine sh fol (kI a b []) ?_
 refine sh fol (kI a b [(5,.nilslice)]) ?_
 refine sh fol (kI a b [(5,.nilslice),(6,.i 0)]) ?_
 refine sq ?_
 refine sh fol (kI a b [(5,.nilslice),(6,.i 0),(7,.i 0)]) ?_
 refine Goes.block ?_
 obtain⟨y,g5,h⟩:=bnd h
 refine Goes.imp (Q:=fun x s'=>(x= .exit 0/\ ∃j,j=y/\Sub s' (ofG 35 (kAX j []),(kC j [])))) ?_ ?_
 ·refine Goes.sub (s':=(ofG 35 (kI a b [(5,.gslice 0 ([]:List Int).length 1),(6,.i 0),(7,.i 0)]),kBB)) (Sub.norm [] [none] rfl rfl (.keep (.same (qf encI _)) (.keep (.same (qf encI _)) (.keep .nil (.keep (.same nI) (.keep (.same nI) .nil))))) (.fresh .nil)) ?_
  refine Uc (fun M s=> ∃(c:List Int) (k:Int) (d:Int),s=(ofG 35 (kI a b (kAX c (kAr k d []))),(kC c []))/\kG a b M c k d=some y) ?_ (m:=N) ⟨_,_,_,rfl,g5⟩
  rintro M s ⟨c,k,d,rfl,g5⟩
  cases M with
  |zero=>simp only[kG]at g5;cases g5
  |succ M=>
   rw[kG]at g5
   refine sq ?_
   refine sh fol (kI a b (kAX c (kAr k d (kBE (decide (d<(a.length:Int))))))) ?_
   refine ihD g5 (fun z g5=>?_) (fun z g5=>?_)
   ·refine Goes.skip ?_
    refine sq (Goes.block ?_)
    obtain⟨q,n,g5⟩:=bnd g5
    obtain⟨r,u,g5⟩:=bnd g5
    refine sq (gr fol [2,3,6] (kI a b (kAX c (kAQ d (w64 ((w64 (q-r))-k)) []))) (ac (iv jB encI n) (ac (lv 0 ce3 encI n rfl) (ac (cv (qcv b d u)) az))) ?_)
    refine sh fol (kI a b (kAX c ((6,.i 0)::(kAQ d (w64 ((w64 (q-r))-k)) [])))) ?_
    refine sq ?_
    refine sh fol (kI a b (kAX c ((6,.i 0)::(kAQ d (w64 ((w64 (q-r))-k)) [(26,.bool (decide ((w64 ((w64 (q-r))-k))<0)))])))) ?_
    obtain⟨v,g11,g5⟩:=bnd g5
    refine Goes.imp (Q:=fun x s'=>(x= .normal/\ ∃t e,(t,e)=v/\Sub s' (ofG 35 (kI a b (kAX c ((6,.i t)::(kAQ d e [])))),(kC c [])))) ?_ ?_
    ·refine ihD g11 (fun w g11=>?_) (fun w g11=>?_)
     ·refine sh fol (kI a b (kAX c (kAQ d (w64 ((w64 ((w64 (q-r))-k))+1000000000)) []))) ?_
      refine gh fol (kI a b (kAX c ((6,.i 1)::(kAQ d (w64 ((w64 ((w64 (q-r))-k))+1000000000)) [])))) ?_
      obtain rfl:=si g11
      exact⟨rfl,_,_,rfl,(Sub.refl _)⟩
     refine Goes.skip ?_
     obtain rfl:=si g11
     exact⟨rfl,_,_,rfl,(Sub.keep [0,1,5,6,7,8] rfl rfl)⟩
    rintro x s' ⟨rfl,t,e,rfl,hsub⟩
    try dsimp only at g5
    refine Goes.sub hsub ?_
    obtain⟨f,o,g5⟩:=bnd g5
    refine gq fol [3] (kI a b ((5,.gslice 2 f.length 1)::(kAr t d []))) (kBC e (kC f [])) (ac (hs (.run [0,1] (xX ZT [60,60] (.gslice 0 c.length 1) (.slice 1 0 1 1 1)) (kC c [.cells [.i e]]) (.gslice 2 f.length 1) (kBC e (kC f [])) true) (qcD jB (E:=encI) rfl (qhI (E:=encI) (ys:=[e]) rfl rfl rfl rfl) (qiN (E:=encI) (l:=c) rfl rfl rfl o rfl))) az) ?_
    refine gh fol (kI a b ((5,.gslice 2 f.length 1)::(kAr t (w64 (d+1)) []))) ?_
    exact⟨M,(ofG 35 (kI a b (kAX f (kAr t (w64 (d+1)) []))),(kC f [])),Nat.lt_succ_self _,(Sub.norm [] [some 2] rfl rfl (.keep (.same (qf encI _)) (.keep (.same (qf encI _)) (.keep (.gslice rfl) (.keep (.same nI) (.keep (.same nI) .nil))))) (.ks .nil)),_,_,_,rfl,g5⟩
   refine Goes.exit ?_
   obtain rfl:=si g5
   exact⟨rfl,_,rfl,(Sub.keep [5] rfl rfl)⟩
 rintro x s' ⟨rfl,j,rfl,hsub⟩
 refine Goes.sub hsub ?_
 obtain⟨g,p,h⟩:=bnd h
 refine sq (gq fol [1] [(4,vl encI g)] (kAc j) (ac (hs (.callF 201 [.gslice 0 j.length 1] (kC j []) [0] [vl encI j] (vl encI g)) (qaH (FzL.cons (Fz.gs (E:=encI) rfl rfl (nl rfl)) FzL.nil) (yI N j p) (qw encI _ (nl rfl)))) az) ?_)
 refine Goes.sub (show Sub (ofG 35 [(4,vl encI g)],(kAc j)) (ofG 35 [(4,vl encI g)],[])from(Sub.norm [] [] rfl rfl (.keep (.same (qf encI _)) .nil) .nil)) ?_
 refine Goes.ret ?_
 obtain rfl:=si h
 exact(gw2 [vl encI g] (Ua (qw encI _ (nl rfl))))
def qcz (N:Nat) (a:qz) (b:qz):Option qz:=
 if(a.neg==b.neg)=true then
 (ym N a.w b.w).bind fun c=>
 (zl N a.neg c).bind fun d=>
 some d
 else
 (ji N a.w b.w).bind fun e=>
 if e>=0 then
 (yl N a.w b.w).bind fun f=>
 (zl N a.neg f).bind fun g=>
 some g
 else
 (yl N b.w a.w).bind fun h=>
 (zl N b.neg h).bind fun i=>
 some i
theorem qin (N:Nat) (a:qz) (b:qz) {res:qz} (h:qcz N a b=some res):qb ZT (.fn 156) (kAl a.neg a.w b.neg b.w) [] (.agg (kAg res.neg res.w)) []:=by
 unfold qcz at h
 refine Ub Tryz.func156 rfl rfl (m:=40) rfl (rs:=[.cell 4 107]) rfl (l:=(kBM a.neg a.w b.neg b.w)) rfl ?_
 refine sg fol (kF []) (kL a.neg a.w b.neg b.w (kP [])) ?_
 refine sq ?_
 refine sh fol (kF [(9,.bool (a.neg==b.neg))]) ?_
 refine ihB h (fun p h=>?_) (fun p h=>?_)
 ·obtain⟨q,c,h⟩:=bnd h
  obtain⟨k,d,h⟩:=bnd h
  refine sq (gq fol [6,7] (kAR []) (kL a.neg a.w b.neg b.w (kAW k.neg k.w [])) (ac (cv (qcb N a.w b.w c)) (ac (cv (zA N a.neg q d)) az)) ?_)
  refine Goes.ret ?_
  obtain rfl:=si h
  exact(gw2 [.agg (kAg k.neg k.w)] (FzW.agg (qc.cons (Ua tB) (qc.cons (Ua (qw encI _ (nl rfl))) qc.nil))))
 refine Goes.skip ?_
 refine sq ?_
 obtain⟨r,e,h⟩:=bnd h
 refine sq (gr fol [4] (kF [(23,.bool (decide (r>=0)))]) (ac (cv (qbd N a.w b.w e)) az) ?_)
 refine ihD h (fun s h=>?_) (fun s h=>?_)
 ·obtain⟨t,f,h⟩:=bnd h
  obtain⟨n,g,h⟩:=bnd h
  refine sq (gq fol [6,7] (kAR []) (kL a.neg a.w b.neg b.w (kAW n.neg n.w [])) (ac (cv (qcr N a.w b.w f)) (ac (cv (zA N a.neg t g)) az)) ?_)
  refine Goes.ret ?_
  obtain rfl:=si h
  exact(gw2 [.agg (kAg n.neg n.w)] (FzW.agg (qc.cons (Ua tB) (qc.cons (Ua (qw encI _ (nl rfl))) qc.nil))))
 refine Goes.skip ?_
 obtain⟨u,i,h⟩:=bnd h
 obtain⟨o,j,h⟩:=bnd h
 refine sq (gq fol [6,7] (kAR []) (kL a.neg a.w b.neg b.w (kAW o.neg o.w [])) (ac (cv (qcr N b.w a.w i)) (ac (cv (zA N b.neg u j)) az)) ?_)
 refine Goes.ret ?_
 obtain rfl:=si h
 exact(gw2 [.agg (kAg o.neg o.w)] (FzW.agg (qc.cons (Ua tB) (qc.cons (Ua (qw encI _ (nl rfl))) qc.nil))))
end Go.Av
