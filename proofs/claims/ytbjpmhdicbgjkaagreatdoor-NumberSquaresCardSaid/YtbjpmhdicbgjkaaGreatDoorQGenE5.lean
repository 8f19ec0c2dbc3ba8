/-
  Walks of functions: what each computes, as a plain function.
-/
import Derived.Test.YtbjpmhdicbgjkaaGreatDoorQGenE4
noncomputable section
namespace Go.Av
open Go.Proofs Go.RowKit
set_option linter.unusedSectionVars false
set_option linter.unusedVariables false
set_option linter.unusedSimpArgs false
set_option maxRecDepth 100000
def jO (N:Nat) (a:qj):Nat->Int->(List Int)->Option qj
 |0,_,_=>none
 |K+1,c,d=>
  (qW N a (⟨c,d⟩:qj)).bind fun e=>
  (jF N (⟨c,d⟩:qj) e.1).bind fun f=>
  (xS 2).bind fun g=>
  (qW N f g).bind fun b=>
  (vQ N b.1 (⟨c,d⟩:qj)).bind fun h=>
  if h>=0 then
  some (⟨c,d⟩:qj)
  else
  jO N a K b.1.s b.1.w
def yK (N:Nat) (a:qj):Option qj:=
 (qP a).bind fun d=>
 if d=0 then
 some a
 else
 (xS 2).bind fun e=>
 (vO a).bind fun f=>
 (qak N e (w64 ((w64 (f+1)).tdiv 2))).bind fun c=>
 (jO N a N c.s c.w).bind fun b=>
 some b
theorem qa0 (N:Nat) (a:qj) {res:qj} (h:yK N a=some res):qc Tryz.prog (.fn 104) [.agg [.i a.s,nvl (qa .u64) a.w]] [] (.agg [.i res.s,nvl (qa .u64) res.w]) []:=by
 unfold yK at h
 refine Goes.fnW Tryz.func104 rfl rfl (m:=38) rfl (rs:=[.cell 2 106]) rfl (l:=[(0,.agg [.i a.s,nvl (qa .u64) a.w])]) rfl ?_
 refine sg fol (kAH []) [.cells [.i a.s,nvl (qa .u64) a.w],bZ] ?_
 refine sq ?_
 obtain⟨D,q,h⟩:=bnd h
 refine sq (gr fol [1] (kAH (kBV (decide (D=0)))) (ac (cv (jN a q)) az) ?_)
 refine ihD h (fun E h=>?_) (fun E h=>?_)
 ·refine sq (gq fol [1] kBX [.cells [.i a.s,nvl (qa .u64) a.w],.cells [.i a.s,nvl (qa .u64) a.w]] (ac (hs (.run [1] (qm Tryz.prog 106 (.ptr 1 0) (.agg [.i a.s,nvl (qa .u64) a.w])) [.cells [.i a.s,nvl (qa .u64) a.w],bZ] .undef [.cells [.i a.s,nvl (qa .u64) a.w],.cells [.i a.s,nvl (qa .u64) a.w]] true) (qN (n:=2) (by kernel_rfl) rfl rfl rfl rfl (cac rfl (cac nvc can)) rfl)) az) ?_)
  refine Goes.ret ?_
  obtain rfl:=si h
  exact(gw2 [.agg [.i a.s,nvl (qa .u64) a.w]] (FzW.agg (qd.cons (FzW.still tI) (qd.cons (FzW.still (qy (qa .u64) _ (nl rfl))) qd.nil))))
 refine Goes.skip ?_
 obtain⟨F,r,h⟩:=bnd h
 obtain⟨G,t,h⟩:=bnd h
 obtain⟨p,u,h⟩:=bnd h
 refine sq (gq fol [0,2,5,7] (kAH [(3,.ptr 2 0)]) [.cells [.i a.s,nvl (qa .u64) a.w],bZ,.cells [.i p.s,nvl (qa .u64) p.w]] (ac (cv (vH 2 r)) (ac (cv (qaZ a t)) (ac (cv (qda N F (w64 ((w64 (G+1)).tdiv 2)) u)) (ac (hs (.run [2] (qm Tryz.prog 106 (.ptr 2 0) (.agg [.i p.s,nvl (qa .u64) p.w])) [.cells [.i a.s,nvl (qa .u64) a.w],bZ,bZ] .undef [.cells [.i a.s,nvl (qa .u64) a.w],bZ,.cells [.i p.s,nvl (qa .u64) p.w]] true) (qN (n:=2) (by kernel_rfl) rfl rfl rfl rfl (cac rfl (cac nvc can)) rfl)) az)))) ?_)
 refine Goes.block ?_
 obtain⟨C,g8,h⟩:=bnd h
 refine Goes.imp (Q:=fun x s'=>(x= .ret/\ ∃v,v=C/\vT Tryz.prog [.cell 2 106] (.agg [.i v.s,nvl (qa .u64) v.w]) .ret s')) ?_ ?_
 ·refine Goes.loopS (fun M s=> ∃(d:Int) (e:List Int),s=(ofG 38 (kAH [(3,.ptr 2 0)]),[.cells [.i a.s,nvl (qa .u64) a.w],bZ,.cells [.i d,nvl (qa .u64) e]])/\jO N a M d e=some C) ?_ (m:=N) ⟨_,_,rfl,g8⟩
  rintro M s ⟨d,e,rfl,g8⟩
  cases M with
  |zero=>simp only[jO]at g8;cases g8
  |succ M=>
   rw[jO]at g8
   refine Goes.block ?_
   obtain⟨b,f,g8⟩:=bnd g8
   refine sq (gq fol [2,8,9] (kAH [(3,.ptr 2 0),(4,.ptr 3 0)]) [.cells [.i a.s,nvl (qa .u64) a.w],bZ,.cells [.i d,nvl (qa .u64) e],.cells [.i b.1.s,nvl (qa .u64) b.1.w],.cells [.i b.2.s,nvl (qa .u64) b.2.w]] (ac (cv (vN N a (⟨d,e⟩:qj) f)) (ac (hs (.run [3] (qm Tryz.prog 106 (.ptr 3 0) (.agg [.i b.1.s,nvl (qa .u64) b.1.w])) [.cells [.i a.s,nvl (qa .u64) a.w],bZ,.cells [.i d,nvl (qa .u64) e],bZ,bZ] .undef [.cells [.i a.s,nvl (qa .u64) a.w],bZ,.cells [.i d,nvl (qa .u64) e],.cells [.i b.1.s,nvl (qa .u64) b.1.w],bZ] true) (qN (n:=2) (by kernel_rfl) rfl rfl rfl rfl (cac rfl (cac nvc can)) rfl)) (ac (hs (.run [4] (qm Tryz.prog 106 (.ptr 4 0) (.agg [.i b.2.s,nvl (qa .u64) b.2.w])) [.cells [.i a.s,nvl (qa .u64) a.w],bZ,.cells [.i d,nvl (qa .u64) e],.cells [.i b.1.s,nvl (qa .u64) b.1.w],bZ] .undef [.cells [.i a.s,nvl (qa .u64) a.w],bZ,.cells [.i d,nvl (qa .u64) e],.cells [.i b.1.s,nvl (qa .u64) b.1.w],.cells [.i b.2.s,nvl (qa .u64) b.2.w]] true) (qN (n:=2) (by kernel_rfl) rfl rfl rfl rfl (cac rfl (cac nvc can)) rfl)) az))) ?_)
   obtain⟨y,g,g8⟩:=bnd g8
   obtain⟨z,j,g8⟩:=bnd g8
   obtain⟨c,k,g8⟩:=bnd g8
   refine sq (gq fol [2,3,4,10,11] (kAH [(3,.ptr 2 0),(6,.ptr 5 0)]) [.cells [.i a.s,nvl (qa .u64) a.w],bZ,.cells [.i d,nvl (qa .u64) e],.cells [.i b.1.s,nvl (qa .u64) b.1.w],.cells [.i b.2.s,nvl (qa .u64) b.2.w],.cells [.i c.1.s,nvl (qa .u64) c.1.w],.cells [.i c.2.s,nvl (qa .u64) c.2.w]] (ac (cv (xg N (⟨d,e⟩:qj) b.1 g)) (ac (cv (vH 2 j)) (ac (cv (vN N y z k)) (ac (hs (.run [5] (qm Tryz.prog 106 (.ptr 5 0) (.agg [.i c.1.s,nvl (qa .u64) c.1.w])) [.cells [.i a.s,nvl (qa .u64) a.w],bZ,.cells [.i d,nvl (qa .u64) e],.cells [.i b.1.s,nvl (qa .u64) b.1.w],.cells [.i b.2.s,nvl (qa .u64) b.2.w],bZ,bZ] .undef [.cells [.i a.s,nvl (qa .u64) a.w],bZ,.cells [.i d,nvl (qa .u64) e],.cells [.i b.1.s,nvl (qa .u64) b.1.w],.cells [.i b.2.s,nvl (qa .u64) b.2.w],.cells [.i c.1.s,nvl (qa .u64) c.1.w],bZ] true) (qN (n:=2) (by kernel_rfl) rfl rfl rfl rfl (cac rfl (cac nvc can)) rfl)) (ac (hs (.run [6] (qm Tryz.prog 106 (.ptr 6 0) (.agg [.i c.2.s,nvl (qa .u64) c.2.w])) [.cells [.i a.s,nvl (qa .u64) a.w],bZ,.cells [.i d,nvl (qa .u64) e],.cells [.i b.1.s,nvl (qa .u64) b.1.w],.cells [.i b.2.s,nvl (qa .u64) b.2.w],.cells [.i c.1.s,nvl (qa .u64) c.1.w],bZ] .undef [.cells [.i a.s,nvl (qa .u64) a.w],bZ,.cells [.i d,nvl (qa .u64) e],.cells [.i b.1.s,nvl (qa .u64) b.1.w],.cells [.i b.2.s,nvl (qa .u64) b.2.w],.cells [.i c.1.s,nvl (qa .u64) c.1.w],.cells [.i c.2.s,nvl (qa .u64) c.2.w]] true) (qN (n:=2) (by kernel_rfl) rfl rfl rfl rfl (cac rfl (cac nvc can)) rfl)) az))))) ?_)
   refine sq ?_
   obtain⟨A,o,g8⟩:=bnd g8
   refine sq (gr fol [2] (kAH [(3,.ptr 2 0),(6,.ptr 5 0),(35,.bool (decide (A>=0)))]) (ac (cv (xk N c.1 (⟨d,e⟩:qj) o)) az) ?_)
   refine ihD g8 (fun B g8=>?_) (fun B g8=>?_)
   ·refine sq (gq fol [1] kBX [.cells [.i a.s,nvl (qa .u64) a.w],.cells [.i d,nvl (qa .u64) e],.cells [.i d,nvl (qa .u64) e],.cells [.i b.1.s,nvl (qa .u64) b.1.w],.cells [.i b.2.s,nvl (qa .u64) b.2.w],.cells [.i c.1.s,nvl (qa .u64) c.1.w],.cells [.i c.2.s,nvl (qa .u64) c.2.w]] (ac (hs (.run [1] (qm Tryz.prog 106 (.ptr 1 0) (.agg [.i d,nvl (qa .u64) e])) [.cells [.i a.s,nvl (qa .u64) a.w],bZ,.cells [.i d,nvl (qa .u64) e],.cells [.i b.1.s,nvl (qa .u64) b.1.w],.cells [.i b.2.s,nvl (qa .u64) b.2.w],.cells [.i c.1.s,nvl (qa .u64) c.1.w],.cells [.i c.2.s,nvl (qa .u64) c.2.w]] .undef [.cells [.i a.s,nvl (qa .u64) a.w],.cells [.i d,nvl (qa .u64) e],.cells [.i d,nvl (qa .u64) e],.cells [.i b.1.s,nvl (qa .u64) b.1.w],.cells [.i b.2.s,nvl (qa .u64) b.2.w],.cells [.i c.1.s,nvl (qa .u64) c.1.w],.cells [.i c.2.s,nvl (qa .u64) c.2.w]] true) (qN (n:=2) (by kernel_rfl) rfl rfl rfl rfl (cac rfl (cac nvc can)) rfl)) az) ?_)
    refine Goes.ret ?_
    obtain rfl:=si g8
    exact⟨rfl,_,rfl,(gw2 [.agg [.i d,nvl (qa .u64) e]] (FzW.agg (qd.cons (FzW.still tI) (qd.cons (FzW.still (qy (qa .u64) _ (nl rfl))) qd.nil))))⟩
   refine Goes.skip ?_
   refine gq fol [1] (kAH [(3,.ptr 2 0)]) [.cells [.i a.s,nvl (qa .u64) a.w],bZ,.cells [.i c.1.s,nvl (qa .u64) c.1.w],.cells [.i b.1.s,nvl (qa .u64) b.1.w],.cells [.i b.2.s,nvl (qa .u64) b.2.w],.cells [.i c.1.s,nvl (qa .u64) c.1.w],.cells [.i c.2.s,nvl (qa .u64) c.2.w]] (ac (hs (.run [2] (qm Tryz.prog 106 (.ptr 2 0) (.agg [.i c.1.s,nvl (qa .u64) c.1.w])) [.cells [.i a.s,nvl (qa .u64) a.w],bZ,.cells [.i d,nvl (qa .u64) e],.cells [.i b.1.s,nvl (qa .u64) b.1.w],.cells [.i b.2.s,nvl (qa .u64) b.2.w],.cells [.i c.1.s,nvl (qa .u64) c.1.w],.cells [.i c.2.s,nvl (qa .u64) c.2.w]] .undef [.cells [.i a.s,nvl (qa .u64) a.w],bZ,.cells [.i c.1.s,nvl (qa .u64) c.1.w],.cells [.i b.1.s,nvl (qa .u64) b.1.w],.cells [.i b.2.s,nvl (qa .u64) b.2.w],.cells [.i c.1.s,nvl (qa .u64) c.1.w],.cells [.i c.2.s,nvl (qa .u64) c.2.w]] true) (qN (n:=2) (by kernel_rfl) rfl rfl rfl rfl (cac rfl (cac nvc can)) rfl)) az) ?_
   exact⟨M,(ofG 38 (kAH [(3,.ptr 2 0)]),[.cells [.i a.s,nvl (qa .u64) a.w],bZ,.cells [.i c.1.s,nvl (qa .u64) c.1.w]]),Nat.lt_succ_self _,(Sub.norm [] [some 0,some 1,some 2] rfl rfl (.kp (.kp (.kp .nil))) (.kb rfl (.same sn) (.kb rfl (.same sn) (.kb rfl (.same sn) .nil)))),_,_,rfl,g8⟩
 rintro x s' ⟨rfl,H,rfl,hret⟩
 obtain rfl:=si h
 exact hret
def xV (N:Nat) (a:qZ):Option (qZ×Bool):=
 (yT a).bind fun e=>
 if e<0 then
 some ((⟨(⟨0,[]⟩:qj),(⟨0,[]⟩:qj)⟩:qZ),false)
 else
 (yK N a.Num).bind fun b=>
 (yK N a.Den).bind fun c=>
 ((qV N b b).bind fun f=>
 (vQ N f a.Num).bind fun g=>
 if g=0 then
 (qV N c c).bind fun h=>
 (vQ N h a.Den).bind fun i=>
 some (decide (i=0))
 else
 some false:Option Bool).bind fun d=>
 some ((⟨b,c⟩:qZ),d)
theorem qe1 (N:Nat) (a:qZ) {res:qZ×Bool} (h:xV N a=some res):qc Tryz.prog (.fn 100) [.agg [.i a.Num.s,nvl (qa .u64) a.Num.w,.i a.Den.s,nvl (qa .u64) a.Den.w]] [] (.tuple [.agg [.i res.1.Num.s,nvl (qa .u64) res.1.Num.w,.i res.1.Den.s,nvl (qa .u64) res.1.Den.w],.bool res.2]) []:=by
 unfold xV at h
 refine Goes.fnW Tryz.func100 rfl rfl (m:=35) rfl (rs:=[.cell 2 108,.tmp 3]) rfl (l:=[(0,.agg [.i a.Num.s,nvl (qa .u64) a.Num.w,.i a.Den.s,nvl (qa .u64) a.Den.w])]) rfl ?_
 refine sg fol (kAH []) (.cells [.i a.Num.s,nvl (qa .u64) a.Num.w,.i a.Den.s,nvl (qa .u64) a.Den.w]::(kD [])) ?_
 refine sq ?_
 obtain⟨u,g,h⟩:=bnd h
 refine sq (gr fol [1] (kAH (kAz (decide (u<0)))) (ac (cv (qcb a g)) az) ?_)
 refine ihD h (fun v h=>?_) (fun v h=>?_)
 ·refine sh fol [(2,.ptr 1 0),(3,.bool false)] ?_
  refine Goes.ret ?_
  obtain rfl:=si h
  exact(gw2 [.agg [.i 0,.nilslice,.i 0,.nilslice],.bool false] (FzW.tuple (qd.cons (FzW.agg (qd.cons (FzW.still tI) (qd.cons (FzW.nv0 (E:=(qa .u64))) (qd.cons (FzW.still tI) (qd.cons (FzW.nv0 (E:=(qa .u64))) qd.nil))))) (qd.cons (FzW.still tB) qd.nil))))
 refine Goes.skip ?_
 obtain⟨c,j,h⟩:=bnd h
 obtain⟨d,k,h⟩:=bnd h
 refine sq (gq fol [2,5,8,9] (kAH (kAU (kBc []))) (.cells [.i a.Num.s,nvl (qa .u64) a.Num.w,.i a.Den.s,nvl (qa .u64) a.Den.w]::(kD [.cells [.i c.s,nvl (qa .u64) c.w],.cells [.i d.s,nvl (qa .u64) d.w]])) (ac (cv (qa0 N a.Num j)) (ac (cv (qa0 N a.Den k)) (ac (hs (.run [2] (qm Tryz.prog 106 (.ptr 2 0) (.agg [.i c.s,nvl (qa .u64) c.w])) (.cells [.i a.Num.s,nvl (qa .u64) a.Num.w,.i a.Den.s,nvl (qa .u64) a.Den.w]::(kD [bZ,bZ])) .undef (.cells [.i a.Num.s,nvl (qa .u64) a.Num.w,.i a.Den.s,nvl (qa .u64) a.Den.w]::(kD [.cells [.i c.s,nvl (qa .u64) c.w],bZ])) true) (qN (n:=2) (by kernel_rfl) rfl rfl rfl rfl (cac rfl (cac nvc can)) rfl)) (ac (hs (.run [3] (qm Tryz.prog 106 (.ptr 3 0) (.agg [.i d.s,nvl (qa .u64) d.w])) (.cells [.i a.Num.s,nvl (qa .u64) a.Num.w,.i a.Den.s,nvl (qa .u64) a.Den.w]::(kD [.cells [.i c.s,nvl (qa .u64) c.w],bZ])) .undef (.cells [.i a.Num.s,nvl (qa .u64) a.Num.w,.i a.Den.s,nvl (qa .u64) a.Den.w]::(kD [.cells [.i c.s,nvl (qa .u64) c.w],.cells [.i d.s,nvl (qa .u64) d.w]])) true) (qN (n:=2) (by kernel_rfl) rfl rfl rfl rfl (cac rfl (cac nvc can)) rfl)) az)))) ?_)
 refine sq ?_
 obtain⟨o,b,h⟩:=bnd h
 refine Goes.cut (s':=(ofG 35 [(2,.ptr 1 0),(3,.bool o)],[.cells [.i a.Num.s,nvl (qa .u64) a.Num.w,.i a.Den.s,nvl (qa .u64) a.Den.w],.cells [.i c.s,nvl (qa .u64) c.w,.i d.s,nvl (qa .u64) d.w],.cells [.i c.s,nvl (qa .u64) c.w],.cells [.i d.s,nvl (qa .u64) d.w]])) ?_ ?_
 ·obtain⟨t,e,b⟩:=bnd b
  obtain⟨z,f,b⟩:=bnd b
  rcases wyD b with⟨r,b⟩|⟨r,b⟩
  ·obtain⟨x,p,b⟩:=bnd b
   obtain⟨y,q,b⟩:=bnd b
   obtain rfl:=si b
   exact yR.rq fol [5,8,10,13,16,19] [(2,.ptr 1 0),(3,.bool (decide (y=0)))] [.cells [.i a.Num.s,nvl (qa .u64) a.Num.w,.i a.Den.s,nvl (qa .u64) a.Den.w],.cells [.i c.s,nvl (qa .u64) c.w,.i d.s,nvl (qa .u64) d.w],.cells [.i c.s,nvl (qa .u64) c.w],.cells [.i d.s,nvl (qa .u64) d.w]] (ac (cv (jE N c c e)) (ac (cv (xk N t a.Num f)) (ac (gw r) (ac (cv (jE N d d p)) (ac (cv (xk N x a.Den q)) (ac (hs (.run [1] (qm Tryz.prog 108 (.ptr 1 0) (.agg [.i c.s,nvl (qa .u64) c.w,.i d.s,nvl (qa .u64) d.w])) (.cells [.i a.Num.s,nvl (qa .u64) a.Num.w,.i a.Den.s,nvl (qa .u64) a.Den.w]::(kD [.cells [.i c.s,nvl (qa .u64) c.w],.cells [.i d.s,nvl (qa .u64) d.w]])) .undef [.cells [.i a.Num.s,nvl (qa .u64) a.Num.w,.i a.Den.s,nvl (qa .u64) a.Den.w],.cells [.i c.s,nvl (qa .u64) c.w,.i d.s,nvl (qa .u64) d.w],.cells [.i c.s,nvl (qa .u64) c.w],.cells [.i d.s,nvl (qa .u64) d.w]] true) (qN (n:=4) (by kernel_rfl) rfl rfl rfl rfl (cac rfl (cac nvc (cac rfl (cac nvc can)))) rfl)) az))))))
  obtain rfl:=si b
  exact yR.rq fol [5,8,10,19] [(2,.ptr 1 0),(3,.bool false)] [.cells [.i a.Num.s,nvl (qa .u64) a.Num.w,.i a.Den.s,nvl (qa .u64) a.Den.w],.cells [.i c.s,nvl (qa .u64) c.w,.i d.s,nvl (qa .u64) d.w],.cells [.i c.s,nvl (qa .u64) c.w],.cells [.i d.s,nvl (qa .u64) d.w]] (ac (cv (jE N c c e)) (ac (cv (xk N t a.Num f)) (ac (gw r) (ac (hs (.run [1] (qm Tryz.prog 108 (.ptr 1 0) (.agg [.i c.s,nvl (qa .u64) c.w,.i d.s,nvl (qa .u64) d.w])) (.cells [.i a.Num.s,nvl (qa .u64) a.Num.w,.i a.Den.s,nvl (qa .u64) a.Den.w]::(kD [.cells [.i c.s,nvl (qa .u64) c.w],.cells [.i d.s,nvl (qa .u64) d.w]])) .undef [.cells [.i a.Num.s,nvl (qa .u64) a.Num.w,.i a.Den.s,nvl (qa .u64) a.Den.w],.cells [.i c.s,nvl (qa .u64) c.w,.i d.s,nvl (qa .u64) d.w],.cells [.i c.s,nvl (qa .u64) c.w],.cells [.i d.s,nvl (qa .u64) d.w]] true) (qN (n:=4) (by kernel_rfl) rfl rfl rfl rfl (cac rfl (cac nvc (cac rfl (cac nvc can)))) rfl)) az))))
 refine Goes.ret ?_
 obtain rfl:=si h
 exact(gw2 [.agg [.i c.s,nvl (qa .u64) c.w,.i d.s,nvl (qa .u64) d.w],.bool o] (FzW.tuple (qd.cons (FzW.agg (qd.cons (FzW.still tI) (qd.cons (FzW.still (qy (qa .u64) _ (nl rfl))) (qd.cons (FzW.still tI) (qd.cons (FzW.still (qy (qa .u64) _ (nl rfl))) qd.nil))))) (qd.cons (FzW.still tB) qd.nil))))
def qaj (N:Nat) (low:qZ) (high:qZ):Option (qa2×Int):=
 ((yh N low).bind fun a=>
 if a=true then
 some true
 else
 (yh N high).bind fun b=>
 some b:Option Bool).bind fun c=>
 if c=true then
 some ((⟨[],[]⟩:qa2),4)
 else
 (yV N low).bind fun d=>
 (yV N high).bind fun e=>
 some ((⟨d,e⟩:qa2),0)
theorem qcX (N:Nat) (low:qZ) (high:qZ) {res:qa2×Int} (h:qaj N low high=some res):qc Tryz.prog (.fn 101) [.agg [.i low.Num.s,nvl (qa .u64) low.Num.w,.i low.Den.s,nvl (qa .u64) low.Den.w],.agg [.i high.Num.s,nvl (qa .u64) high.Num.w,.i high.Den.s,nvl (qa .u64) high.Den.w]] [] (.tuple (kS res.1.Low res.1.High [.i res.2])) []:=by
 unfold qaj at h
 refine Goes.fnW Tryz.func101 rfl rfl (m:=18) rfl (rs:=[.cell 4 44,.tmp 5]) rfl (l:=[(0,.agg [.i low.Num.s,nvl (qa .u64) low.Num.w,.i low.Den.s,nvl (qa .u64) low.Den.w]),(1,.agg [.i high.Num.s,nvl (qa .u64) high.Num.w,.i high.Den.s,nvl (qa .u64) high.Den.w])]) rfl ?_
 refine sg fol (kH []) (.cells [.i low.Num.s,nvl (qa .u64) low.Num.w,.i low.Den.s,nvl (qa .u64) low.Den.w]:: .cells [.i high.Num.s,nvl (qa .u64) high.Num.w,.i high.Den.s,nvl (qa .u64) high.Den.w]::(kN [])) ?_
 refine sq ?_
 refine sq ?_
 obtain⟨k,a,h⟩:=bnd h
 refine Goes.cut (s':=(ofG 18 (kH [(11,.bool k)]),(.cells [.i low.Num.s,nvl (qa .u64) low.Num.w,.i low.Den.s,nvl (qa .u64) low.Den.w]:: .cells [.i high.Num.s,nvl (qa .u64) high.Num.w,.i high.Den.s,nvl (qa .u64) high.Den.w]::(kN [])))) ?_ ?_
 ·obtain⟨p,b,a⟩:=bnd a
  rcases wyB a with⟨f,a⟩|⟨f,a⟩
  ·obtain rfl:=si a
   exact tr fol [1,2] (kH [(11,.bool true)]) (ac (cv (qax N low b)) (ac (gw f) az))
  obtain⟨n,c,a⟩:=bnd a
  obtain rfl:=si a
  exact tr fol [1,2,4] (kH [(11,.bool n)]) (ac (cv (qax N low b)) (ac (gw f) (ac (cv (qax N high c)) az)))
 refine ihB h (fun o h=>?_) (fun o h=>?_)
 ·refine sh fol (kAU [(5,.i 4)]) ?_
  refine Goes.ret ?_
  obtain rfl:=si h
  exact(gw2 (kBZ [.i 4]) (FzW.tuple (qd.cons (FzW.agg (qd.cons (FzW.still tS) (qd.cons (FzW.still tS) qd.nil))) (qd.cons (FzW.still tI) qd.nil))))
 refine Goes.skip ?_
 obtain⟨g,d,h⟩:=bnd h
 obtain⟨j,e,h⟩:=bnd h
 refine sq (gq fol [1,3] (kAU [(5,.i 0)]) (.cells [.i low.Num.s,nvl (qa .u64) low.Num.w,.i low.Den.s,nvl (qa .u64) low.Den.w]:: .cells [.i high.Num.s,nvl (qa .u64) high.Num.w,.i high.Den.s,nvl (qa .u64) high.Den.w]::(kB g j [])) (ac (cv (qb8 N low d)) (ac (cv (qb8 N high e)) az)) ?_)
 refine Goes.ret ?_
 obtain rfl:=si h
 exact(gw2 (kS g j [.i 0]) (FzW.tuple (qd.cons (FzW.agg (qd.cons (FzW.still tS) (qd.cons (FzW.still tS) qd.nil))) (qd.cons (FzW.still tI) qd.nil))))
def vM (N:Nat) (a:Str):Option (qa2×Int):=
 (qay N a).bind fun n=>
 if(!decide (n=0))=true then
 some ((⟨[],[]⟩:qa2),n)
 else
 (qdr N a).bind fun d=>
 (yT d).bind fun p=>
 if p<0 then
 some ((⟨[],[]⟩:qa2),3)
 else
 (xV N d).bind fun e=>
 if e.2=true then
 (qaj N e.1 e.1).bind fun o=>
 some (o.1,o.2)
 else
 (qiQ 1000000).bind fun q=>
 (qaA N d q).bind fun f=>
 (xy N f).bind fun g=>
 (yK N g).bind fun b=>
 (xS 1000).bind fun h=>
 (qbA N b h).bind fun i=>
 (xS 1).bind fun j=>
 (jF N b j).bind fun k=>
 (xS 1000).bind fun l=>
 (qbA N k l).bind fun m=>
 (qaj N i m).bind fun c=>
 some (c.1,c.2)
theorem qbq (N:Nat) (a:Str) {res:qa2×Int} (h:vM N a=some res):qc Tryz.prog (.fn 23) [.str a] [] (.tuple (kS res.1.Low res.1.High [.i res.2])) []:=by
 unfold vM at h
 refine Goes.fnW Tryz.func23 rfl rfl (m:=48) rfl (rs:=[.cell 2 44,.tmp 3]) rfl (l:=(kAQ a [])) rfl ?_
 refine sg fol (kAQ a (kAM [])) (kN []) ?_
 refine sq ?_
 obtain⟨x,y,h⟩:=bnd h
 refine sq (gr fol [1] (kAQ a (kAM (kB7 x))) (ac (cv (qfm N a y)) az) ?_)
 refine sh fol (kAQ a (kAM ((4,.i x)::(kBU (!decide (x=0)))))) ?_
 refine ihB h (fun M h=>?_) (fun M h=>?_)
 ·refine sh fol (kAM (kBS x)) ?_
  refine Goes.ret ?_
  obtain rfl:=si h
  exact(gw2 (kBZ [.i x]) (FzW.tuple (qd.cons (FzW.agg (qd.cons (FzW.still tS) (qd.cons (FzW.still tS) qd.nil))) (qd.cons (FzW.still tI) qd.nil))))
 refine Goes.skip ?_
 obtain⟨b,z,h⟩:=bnd h
 refine sq (gq fol [1,3] (kAM (kBx [])) (kN [.cells [.i b.Num.s,nvl (qa .u64) b.Num.w,.i b.Den.s,nvl (qa .u64) b.Den.w]]) (ac (cv (qiJ N a z)) (ac (hs (.run [1] (qm Tryz.prog 108 (.ptr 1 0) (.agg [.i b.Num.s,nvl (qa .u64) b.Num.w,.i b.Den.s,nvl (qa .u64) b.Den.w])) (kN (kD [])) .undef (kN [.cells [.i b.Num.s,nvl (qa .u64) b.Num.w,.i b.Den.s,nvl (qa .u64) b.Den.w]]) true) (qN (n:=4) (by kernel_rfl) rfl rfl rfl rfl (cac rfl (cac nvc (cac rfl (cac nvc can)))) rfl)) az)) ?_)
 refine sq ?_
 obtain⟨O,A,h⟩:=bnd h
 refine sq (gr fol [1] (kAM (kBx [(19,.bool (decide (O<0)))])) (ac (cv (qcb b A)) az) ?_)
 refine ihD h (fun P h=>?_) (fun P h=>?_)
 ·refine sh fol (kAM [(3,.i 3)]) ?_
  refine Goes.ret ?_
  obtain rfl:=si h
  exact(gw2 (kBZ [.i 3]) (FzW.tuple (qd.cons (FzW.agg (qd.cons (FzW.still tS) (qd.cons (FzW.still tS) qd.nil))) (qd.cons (FzW.still tI) qd.nil))))
 refine Goes.skip ?_
 refine sq ?_
 obtain⟨c,B,h⟩:=bnd h
 refine sq (gq fol [1,6] (kAM (kBx (kBF [(7,.bool c.2)]))) (kN [.cells [.i b.Num.s,nvl (qa .u64) b.Num.w,.i b.Den.s,nvl (qa .u64) b.Den.w],.cells [.i c.1.Num.s,nvl (qa .u64) c.1.Num.w,.i c.1.Den.s,nvl (qa .u64) c.1.Den.w]]) (ac (cv (qe1 N b B)) (ac (hs (.run [2] (qm Tryz.prog 108 (.ptr 2 0) (.agg [.i c.1.Num.s,nvl (qa .u64) c.1.Num.w,.i c.1.Den.s,nvl (qa .u64) c.1.Den.w])) (kN (.cells [.i b.Num.s,nvl (qa .u64) b.Num.w,.i b.Den.s,nvl (qa .u64) b.Den.w]::(kD []))) .undef (kN [.cells [.i b.Num.s,nvl (qa .u64) b.Num.w,.i b.Den.s,nvl (qa .u64) b.Den.w],.cells [.i c.1.Num.s,nvl (qa .u64) c.1.Num.w,.i c.1.Den.s,nvl (qa .u64) c.1.Den.w]]) true) (qN (n:=4) (by kernel_rfl) rfl rfl rfl rfl (cac rfl (cac nvc (cac rfl (cac nvc can)))) rfl)) az)) ?_)
 refine sh fol (kAM (kBx (kBF [(26,.bool c.2)]))) ?_
 refine ihB h (fun Q h=>?_) (fun Q h=>?_)
 ·obtain⟨v,C,h⟩:=bnd h
  refine sq (gq fol [2] (kAM (kBS v.2)) (kB v.1.Low v.1.High [.cells [.i b.Num.s,nvl (qa .u64) b.Num.w,.i b.Den.s,nvl (qa .u64) b.Den.w],.cells [.i c.1.Num.s,nvl (qa .u64) c.1.Num.w,.i c.1.Den.s,nvl (qa .u64) c.1.Den.w]]) (ac (cv (qcX N c.1 c.1 C)) az) ?_)
  refine Goes.ret ?_
  obtain rfl:=si h
  exact(gw2 (kS v.1.Low v.1.High [.i v.2]) (FzW.tuple (qd.cons (FzW.agg (qd.cons (FzW.still tS) (qd.cons (FzW.still tS) qd.nil))) (qd.cons (FzW.still tI) qd.nil))))
 refine Goes.skip ?_
 obtain⟨U,D,h⟩:=bnd h
 obtain⟨E,f,h⟩:=bnd h
 obtain⟨F,g,h⟩:=bnd h
 obtain⟨d,j,h⟩:=bnd h
 refine sq (gq fol [1,2,3,4,6] (kAM [(8,.ptr 3 0)]) (kN [.cells [.i b.Num.s,nvl (qa .u64) b.Num.w,.i b.Den.s,nvl (qa .u64) b.Den.w],.cells [.i c.1.Num.s,nvl (qa .u64) c.1.Num.w,.i c.1.Den.s,nvl (qa .u64) c.1.Den.w],.cells [.i d.s,nvl (qa .u64) d.w]]) (ac (cv (qnm 1000000 D)) (ac (cv (qfo N b U f)) (ac (cv (qeB N E g)) (ac (cv (qa0 N F j)) (ac (hs (.run [3] (qm Tryz.prog 106 (.ptr 3 0) (.agg [.i d.s,nvl (qa .u64) d.w])) (kN [.cells [.i b.Num.s,nvl (qa .u64) b.Num.w,.i b.Den.s,nvl (qa .u64) b.Den.w],.cells [.i c.1.Num.s,nvl (qa .u64) c.1.Num.w,.i c.1.Den.s,nvl (qa .u64) c.1.Den.w],bZ]) .undef (kN [.cells [.i b.Num.s,nvl (qa .u64) b.Num.w,.i b.Den.s,nvl (qa .u64) b.Den.w],.cells [.i c.1.Num.s,nvl (qa .u64) c.1.Num.w,.i c.1.Den.s,nvl (qa .u64) c.1.Den.w],.cells [.i d.s,nvl (qa .u64) d.w]]) true) (qN (n:=2) (by kernel_rfl) rfl rfl rfl rfl (cac rfl (cac nvc can)) rfl)) az))))) ?_)
 obtain⟨G,k,h⟩:=bnd h
 obtain⟨H,o,h⟩:=bnd h
 obtain⟨I,p,h⟩:=bnd h
 obtain⟨J,q,h⟩:=bnd h
 obtain⟨K,r,h⟩:=bnd h
 obtain⟨L,t,h⟩:=bnd h
 obtain⟨e,u,h⟩:=bnd h
 refine sq (gq fol [1,2,4,5,6,7,8] (kAM (kBS e.2)) (kB e.1.Low e.1.High [.cells [.i b.Num.s,nvl (qa .u64) b.Num.w,.i b.Den.s,nvl (qa .u64) b.Den.w],.cells [.i c.1.Num.s,nvl (qa .u64) c.1.Num.w,.i c.1.Den.s,nvl (qa .u64) c.1.Den.w],.cells [.i d.s,nvl (qa .u64) d.w]]) (ac (cv (vH 1000 k)) (ac (cv (qc0 N d G o)) (ac (cv (vH 1 p)) (ac (cv (xg N d I q)) (ac (cv (vH 1000 r)) (ac (cv (qc0 N J K t)) (ac (cv (qcX N H L u)) az))))))) ?_)
 refine Goes.ret ?_
 obtain rfl:=si h
 exact(gw2 (kS e.1.Low e.1.High [.i e.2]) (FzW.tuple (qd.cons (FzW.agg (qd.cons (FzW.still tS) (qd.cons (FzW.still tS) qd.nil))) (qd.cons (FzW.still tI) qd.nil))))
def vG (N:Nat) (a:qa2):Option Int:=
 (xC N ([a.Low,a.High]:List Str)).bind fun b=>
 (if b=0 then
 (yU N a.Low a.High).bind fun c=>
 some (decide (c>0))
 else
 some false:Option Bool).bind fun d=>
 ((if d=true then
 some 11
 else
 some b:Option Int)).bind fun e=>
 some e
theorem zJ (N:Nat) (a:qa2) {res:Int} (h:vG N a=some res):qc Tryz.prog (.fn 26) [.agg (kAR a.Low a.High)] [] (.i res) []:=by
 unfold vG at h
 refine Goes.fnW Tryz.func26 rfl rfl (m:=21) rfl (rs:=[.tmp 2]) rfl (l:=[(0,.agg [.str a.Low,.str a.High])]) rfl ?_
 refine sg fol (kA2 []) (kB a.Low a.High []) ?_
 obtain⟨c,d,h⟩:=bnd h
 refine sq (gq fol [5] (kA2 (kBS c)) (kB a.Low a.High (kB a.Low a.High [])) (ac (hs (.call 78 [.slice 1 0 2 2 1] (kB a.Low a.High (kB a.Low a.High [])) [1] [vl encS ([a.Low,a.High]:List Str)] (.i c)) (qim (FzL.cons (Fz.lit rfl rfl (FzL.still (AllST.cons tS (AllST.cons tS AllST.nil)))) FzL.nil) (qeT N ([a.Low,a.High]:List Str) d) tI rfl)) az) ?_)
 refine sq ?_
 refine sq ?_
 obtain⟨j,b,h⟩:=bnd h
 refine Goes.cut (s':=(ofG 21 [(3,.i c),(19,.bool j)],(kB a.Low a.High (kB a.Low a.High [])))) ?_ ?_
 ·rcases wyD b with⟨g,b⟩|⟨g,b⟩
  ·obtain⟨k,e,b⟩:=bnd b
   obtain rfl:=si b
   exact tr fol [2,7] [(3,.i c),(19,.bool (decide (k>0)))] (ac (gw g) (ac (cv (jR N a.Low a.High e)) az))
  obtain rfl:=si b
  exact tr fol [2] [(3,.i c),(19,.bool false)] (ac (gw g) az)
 obtain⟨n,g7,h⟩:=bnd h
 refine Goes.imp (Q:=fun x s'=>(x= .normal/\ ∃f,f=n/\Sub s' (ofG 21 (kBS f),[]))) ?_ ?_
 ·refine ihB g7 (fun o g7=>?_) (fun o g7=>?_)
  ·refine gh fol [(3,.i 11)] ?_
   obtain rfl:=si g7
   exact⟨rfl,_,rfl,(Sub.norm [] [] rfl rfl (.keep (.same nI) .nil) .nil)⟩
  refine Goes.skip ?_
  obtain rfl:=si g7
  exact⟨rfl,_,rfl,(Sub.norm [] [] rfl rfl (.keep (.same nI) .nil) .nil)⟩
 rintro x s' ⟨rfl,f,rfl,hsub⟩
 refine Goes.sub hsub ?_
 refine sh fol (kBM f) ?_
 refine Goes.ret ?_
 obtain rfl:=si h
 exact(gw2 [.i f] (FzW.still tI))
def qbt (low:Str) (high:Str):Option qa2:=
 some (⟨low,high⟩:qa2)
theorem qbV (low:Str) (high:Str) {res:qa2} (h:qbt low high=some res):qc Tryz.prog (.fn 29) (kAR low high) [] (.agg (kAR res.Low res.High)) []:=by
 unfold qbt at h
 refine Goes.fnW Tryz.func29 rfl rfl (m:=8) rfl (rs:=[.cell 4 44]) rfl (l:=(kJ low high [])) rfl ?_
 refine sg fol (kJ low high (kY [])) (kN []) ?_
 refine sg fol (kY []) (kB low high []) ?_
 refine Goes.ret ?_
 obtain rfl:=si h
 exact(gw2 [.agg (kAR low high)] (FzW.agg (qd.cons (FzW.still tS) (qd.cons (FzW.still tS) qd.nil))))
end Go.Av
