/-
  Walks of functions: what each computes, as a plain function.
-/
import Derived.Test.YtbjpmhdicbgjkaaGreatDoorQGenE3
noncomputable section
namespace Go.Av
open Go.Proofs Go.RowKit
set_option linter.unusedSectionVars false
set_option linter.unusedVariables false
set_option linter.unusedSimpArgs false
set_option maxRecDepth 100000
def xy (N:Nat) (a:qZ):Option qj:=
 (qW N a.Num a.Den).bind fun b=>
 some b.1
theorem qeB (N:Nat) (a:qZ) {res:qj} (h:xy N a=some res):qc Tryz.prog (.fn 103) [.agg [.i a.Num.s,nvl (qa .u64) a.Num.w,.i a.Den.s,nvl (qa .u64) a.Den.w]] [] (.agg [.i res.s,nvl (qa .u64) res.w]) []:=by
 unfold xy at h
 refine Goes.fnW Tryz.func103 rfl rfl (m:=14) rfl (rs:=[.cell 2 106]) rfl (l:=[(0,.agg [.i a.Num.s,nvl (qa .u64) a.Num.w,.i a.Den.s,nvl (qa .u64) a.Den.w])]) rfl ?_
 refine sg fol (kAH []) [.cells [.i a.Num.s,nvl (qa .u64) a.Num.w,.i a.Den.s,nvl (qa .u64) a.Den.w],bZ] ?_
 obtain⟨b,c,h⟩:=bnd h
 refine sq (gq fol [4,10,11] [(2,.ptr 1 0),(3,.ptr 2 0)] [.cells [.i a.Num.s,nvl (qa .u64) a.Num.w,.i a.Den.s,nvl (qa .u64) a.Den.w],bZ,.cells [.i b.1.s,nvl (qa .u64) b.1.w],.cells [.i b.2.s,nvl (qa .u64) b.2.w]] (ac (cv (vN N a.Num a.Den c)) (ac (hs (.run [2] (qm Tryz.prog 106 (.ptr 2 0) (.agg [.i b.1.s,nvl (qa .u64) b.1.w])) [.cells [.i a.Num.s,nvl (qa .u64) a.Num.w,.i a.Den.s,nvl (qa .u64) a.Den.w],bZ,bZ,bZ] .undef [.cells [.i a.Num.s,nvl (qa .u64) a.Num.w,.i a.Den.s,nvl (qa .u64) a.Den.w],bZ,.cells [.i b.1.s,nvl (qa .u64) b.1.w],bZ] true) (qN (n:=2) (by kernel_rfl) rfl rfl rfl rfl (cac rfl (cac nvc can)) rfl)) (ac (hs (.run [3] (qm Tryz.prog 106 (.ptr 3 0) (.agg [.i b.2.s,nvl (qa .u64) b.2.w])) [.cells [.i a.Num.s,nvl (qa .u64) a.Num.w,.i a.Den.s,nvl (qa .u64) a.Den.w],bZ,.cells [.i b.1.s,nvl (qa .u64) b.1.w],bZ] .undef [.cells [.i a.Num.s,nvl (qa .u64) a.Num.w,.i a.Den.s,nvl (qa .u64) a.Den.w],bZ,.cells [.i b.1.s,nvl (qa .u64) b.1.w],.cells [.i b.2.s,nvl (qa .u64) b.2.w]] true) (qN (n:=2) (by kernel_rfl) rfl rfl rfl rfl (cac rfl (cac nvc can)) rfl)) az))) ?_)
 refine sq (gq fol [1] kBX [.cells [.i a.Num.s,nvl (qa .u64) a.Num.w,.i a.Den.s,nvl (qa .u64) a.Den.w],.cells [.i b.1.s,nvl (qa .u64) b.1.w],.cells [.i b.1.s,nvl (qa .u64) b.1.w],.cells [.i b.2.s,nvl (qa .u64) b.2.w]] (ac (hs (.run [1] (qm Tryz.prog 106 (.ptr 1 0) (.agg [.i b.1.s,nvl (qa .u64) b.1.w])) [.cells [.i a.Num.s,nvl (qa .u64) a.Num.w,.i a.Den.s,nvl (qa .u64) a.Den.w],bZ,.cells [.i b.1.s,nvl (qa .u64) b.1.w],.cells [.i b.2.s,nvl (qa .u64) b.2.w]] .undef [.cells [.i a.Num.s,nvl (qa .u64) a.Num.w,.i a.Den.s,nvl (qa .u64) a.Den.w],.cells [.i b.1.s,nvl (qa .u64) b.1.w],.cells [.i b.1.s,nvl (qa .u64) b.1.w],.cells [.i b.2.s,nvl (qa .u64) b.2.w]] true) (qN (n:=2) (by kernel_rfl) rfl rfl rfl rfl (cac rfl (cac nvc can)) rfl)) az) ?_)
 refine Goes.ret ?_
 obtain rfl:=si h
 exact(gw2 [.agg [.i b.1.s,nvl (qa .u64) b.1.w]] (FzW.agg (qd.cons (FzW.still tI) (qd.cons (FzW.still (qy (qa .u64) _ (nl rfl))) qd.nil))))
def qR (N:Nat) (v:List Str):Nat->Int->Option (Unit⊕Int)
 |0,_=>none
 |K+1,a=>
  if a<(v.length:Int)then
  (idx v a).bind fun c=>
  (qai N c).bind fun b=>
  if(!decide (b=0))=true then
  some (.inr b)
  else
  qR N v K (w64 (a+1))
  else
  some (.inl ())
def xC (N:Nat) (v:List Str):Option Int:=
 (qR N v N 0).bind (fun
 |(.inl ())=>
 some 0
 |(.inr a)=>
 some a)
theorem qeT (N:Nat) (v:List Str) {res:Int} (h:xC N v=some res):qc Tryz.prog (.fn 78) [vl encS v] [] (.i res) []:=by
 unfold xC at h
 refine Goes.fnW Tryz.func78 rfl rfl (m:=19) rfl (rs:=[.tmp 2]) rfl (l:=(kBp v [])) rfl ?_
 refine sh fol (kBp v []) ?_
 refine sq ?_
 refine sh fol (kBp v [(3,.i 0)]) ?_
 refine Goes.block ?_
 obtain⟨e,g2,h⟩:=bnd h
 refine Goes.imp (Q:=fun x s'=>(x= .exit 0/\(.inl ())=e/\Sub s' (ofG 19 [],[]))\/(x= .ret/\ ∃f,(.inr f)=e/\vT Tryz.prog [.tmp 2] (.i f) .ret s')) ?_ ?_
 ·refine Goes.loopS (fun M s=> ∃(a:Int),s=(ofG 19 (kA4 v a []),[])/\qR N v M a=some e) ?_ (m:=N) ⟨_,rfl,g2⟩
  rintro M s ⟨a,rfl,g2⟩
  cases M with
  |zero=>simp only[qR]at g2;cases g2
  |succ M=>
   rw[qR]at g2
   refine sq ?_
   refine sh fol (kA4 v a (kAz (decide (a<(v.length:Int))))) ?_
   refine ihD g2 (fun g g2=>?_) (fun g g2=>?_)
   ·refine Goes.skip ?_
    refine sq (Goes.block ?_)
    obtain⟨j,b,g2⟩:=bnd g2
    obtain⟨c,d,g2⟩:=bnd g2
    refine sq (gr fol [2,3,4] (kA4 v a (kB7 c)) (ac (iv sl56 encS b) (ac (lv 0 ce23 encS b rfl) (ac (cv (qaw N j d)) az))) ?_)
    refine sh fol (kA4 v a [(4,.i c),(17,.bool (!decide (c=0)))]) ?_
    refine ihB g2 (fun k g2=>?_) (fun k g2=>?_)
    ·refine sh fol (kBM c) ?_
     refine Goes.ret ?_
     obtain rfl:=si g2
     exact Or.inr (⟨rfl,_,rfl,(gw2 [.i c] (FzW.still tI))⟩)
    refine Goes.skip ?_
    refine gh fol (kA4 v (w64 (a+1)) []) ?_
    exact⟨M,(ofG 19 (kA4 v (w64 (a+1)) []),[]),Nat.lt_succ_self _,(Sub.refl _),_,rfl,g2⟩
   refine Goes.exit ?_
   obtain rfl:=si g2
   exact Or.inl (⟨rfl,rfl,(Sub.keep [] rfl rfl)⟩)
 rintro x s' (⟨rfl,rfl,hsub⟩|⟨rfl,n,rfl,hret⟩)
 ·try dsimp only at h
  refine Goes.sub hsub ?_
  refine sh fol kB3 ?_
  refine Goes.ret ?_
  obtain rfl:=si h
  exact(gw2 [.i 0] (FzW.still tI))
 try dsimp only at h
 obtain rfl:=si h
 exact hret
def qiQ (n:Int):Option qZ:=
 (xS n).bind fun a=>
 (qbi a).bind fun b=>
 some b
theorem qnm (n:Int) {res:qZ} (h:qiQ n=some res):qc Tryz.prog (.fn 84) [.i n] [] (.agg [.i res.Num.s,nvl (qa .u64) res.Num.w,.i res.Den.s,nvl (qa .u64) res.Den.w]) []:=by
 unfold qiQ at h
 refine Goes.fnW Tryz.func84 rfl rfl (m:=6) rfl (rs:=[.cell 2 108]) rfl (l:=[(0,.i n)]) rfl ?_
 refine sg fol ((0,.i n)::(kAM [])) (kD []) ?_
 obtain⟨d,b,h⟩:=bnd h
 obtain⟨a,c,h⟩:=bnd h
 refine sq (gq fol [1,2,3] (kAM []) [.cells [.i a.Num.s,nvl (qa .u64) a.Num.w,.i a.Den.s,nvl (qa .u64) a.Den.w]] (ac (cv (vH n b)) (ac (cv (qeO d c)) (ac (hs (.run [0] (qm Tryz.prog 108 (.ptr 0 0) (.agg [.i a.Num.s,nvl (qa .u64) a.Num.w,.i a.Den.s,nvl (qa .u64) a.Den.w])) (kD []) .undef [.cells [.i a.Num.s,nvl (qa .u64) a.Num.w,.i a.Den.s,nvl (qa .u64) a.Den.w]] true) (qN (n:=4) (by kernel_rfl) rfl rfl rfl rfl (cac rfl (cac nvc (cac rfl (cac nvc can)))) rfl)) az))) ?_)
 refine Goes.ret ?_
 obtain rfl:=si h
 exact(gw2 [.agg [.i a.Num.s,nvl (qa .u64) a.Num.w,.i a.Den.s,nvl (qa .u64) a.Den.w]] (FzW.agg (qd.cons (FzW.still tI) (qd.cons (FzW.still (qy (qa .u64) _ (nl rfl))) (qd.cons (FzW.still tI) (qd.cons (FzW.still (qy (qa .u64) _ (nl rfl))) qd.nil))))))
def yT (a:qZ):Option Int:=
 (qP a.Num).bind fun b=>
 some b
theorem qcb (a:qZ) {res:Int} (h:yT a=some res):qc Tryz.prog (.fn 99) [.agg [.i a.Num.s,nvl (qa .u64) a.Num.w,.i a.Den.s,nvl (qa .u64) a.Den.w]] [] (.i res) []:=by
 unfold yT at h
 refine Goes.fnW Tryz.func99 rfl rfl (m:=6) rfl (rs:=[.tmp 2]) rfl (l:=[(0,.agg [.i a.Num.s,nvl (qa .u64) a.Num.w,.i a.Den.s,nvl (qa .u64) a.Den.w])]) rfl ?_
 refine sg fol (kA2 []) [.cells [.i a.Num.s,nvl (qa .u64) a.Num.w,.i a.Den.s,nvl (qa .u64) a.Den.w]] ?_
 obtain⟨c,b,h⟩:=bnd h
 refine sq (gr fol [2] (kBM c) (ac (cv (jN a.Num b)) az) ?_)
 refine Goes.ret ?_
 obtain rfl:=si h
 exact(gw2 [.i c] (FzW.still tI))
def qbj (N:Nat) (a:Str) (digits:Int):Option Bool:=
 (if(a.length:Int)<=(w64 ((w64 (2*digits))+2))then
 (qai N a).bind fun b=>
 if b=0 then
 (qb5 N a).bind fun c=>
 (yS c).bind fun d=>
 if(d.length:Int)<=digits then
 (qcg N a).bind fun e=>
 some (decide ((e.length:Int)<=digits))
 else
 some false
 else
 some false
 else
 some false:Option Bool).bind fun f=>
 some f
theorem qcJ (N:Nat) (a:Str) (digits:Int) {res:Bool} (h:qbj N a digits=some res):qc Tryz.prog (.fn 22) (kA9 a digits) [] (.bool res) []:=by
 unfold qbj at h
 refine Goes.fnW Tryz.func22 rfl rfl (m:=31) rfl (rs:=[.tmp 4]) rfl (l:=(kAQ a [(1,.i digits)])) rfl ?_
 refine sh fol (kAQ a [(1,.i digits)]) ?_
 refine sq ?_
 obtain⟨n,b,h⟩:=bnd h
 refine Goes.cut (s':=(ofG 31 (kAl n),[])) ?_ ?_
 ·rcases wyD b with⟨f,b⟩|⟨f,b⟩
  ·obtain⟨q,c,b⟩:=bnd b
   rcases wyD b with⟨j,b⟩|⟨j,b⟩
   ·obtain⟨o,d,b⟩:=bnd b
    obtain⟨r,e,b⟩:=bnd b
    rcases wyD b with⟨k,b⟩|⟨k,b⟩
    ·obtain⟨p,g,b⟩:=bnd b
     obtain rfl:=si b
     exact tr fol [6,8,11,13,14,19,21] (kAl (decide ((p.length:Int)<=digits))) (ac (gw f) (ac (cv (qaw N a c)) (ac (gw j) (ac (cv (qey N a d)) (ac (cv (vL o e)) (ac (gw k) (ac (cv (qh8 N a g)) az)))))))
    obtain rfl:=si b
    exact tr fol [6,8,11,13,14,19] kAT (ac (gw f) (ac (cv (qaw N a c)) (ac (gw j) (ac (cv (qey N a d)) (ac (cv (vL o e)) (ac (gw k) az))))))
   obtain rfl:=si b
   exact tr fol [6,8,11] kAT (ac (gw f) (ac (cv (qaw N a c)) (ac (gw j) az)))
  obtain rfl:=si b
  exact tr fol [6] kAT (ac (gw f) az)
 refine Goes.ret ?_
 obtain rfl:=si h
 exact(gw2 [.bool n] (FzW.still tB))
end Go.Av
