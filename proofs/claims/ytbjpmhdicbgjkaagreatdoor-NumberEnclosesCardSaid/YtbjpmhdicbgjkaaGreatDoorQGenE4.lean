/-
  Walks of functions: what each computes, as a plain function.
-/
import Derived.Test.YtbjpmhdicbgjkaaGreatDoorQGenE3
noncomputable section
namespace Go.Av
open Go.Proofs Go.RowKit
set_option linter.unusedSectionVars false
set_option linter.unusedVariables false
set_option linter.unusedSimpArgs false
set_option maxRecDepth 100000
def zb (N:Nat) (v:List Str):Nat->Int->Option (Unit⊕Int)
 |0,_=>none
 |K+1,a=>
  if a<(v.length:Int)then
  (idx v a).bind fun c=>
  (qa0 N c).bind fun b=>
  if(!decide (b=0))=true then
  some (.inr b)
  else
  zb N v K (w64 (a+1))
  else
  some (.inl ())
def qay (N:Nat) (v:List Str):Option Int:=
 (zb N v N 0).bind (fun
 |(.inl ())=>
 some 0
 |(.inr a)=>
 some a)
theorem qfK (N:Nat) (v:List Str) {res:Int} (h:qay N v=some res):qc ZT (.fn 78) [vl encS v] [] (.i res) []:=by
 unfold qay at h
 refine Ub Tryz.func78 rfl rfl (m:=19) rfl (rs:=[.tmp 2]) rfl (l:=(kBp v [])) rfl ?_
 refine sh fol (kBp v []) ?_
 refine sq ?_
 refine sh fol (kBp v [(3,.i 0)]) ?_
 refine Goes.block ?_
 obtain⟨e,g2,h⟩:=bnd h
 refine Goes.imp (Q:=fun x s'=>(x= .exit 0/\(.inl ())=e/\Sub s' (ofG 19 [],[]))\/(x= .ret/\ ∃f,(.inr f)=e/\yP ZT [.tmp 2] (.i f) .ret s')) ?_ ?_
 ·refine Uc (fun M s=> ∃(a:Int),s=(ofG 19 (kA4 v a []),[])/\zb N v M a=some e) ?_ (m:=N) ⟨_,rfl,g2⟩
  rintro M s ⟨a,rfl,g2⟩
  cases M with
  |zero=>simp only[zb]at g2;cases g2
  |succ M=>
   rw[zb]at g2
   refine sq ?_
   refine sh fol (kA4 v a (kAz (decide (a<(v.length:Int))))) ?_
   refine ihD g2 (fun g g2=>?_) (fun g g2=>?_)
   ·refine Goes.skip ?_
    refine sq (Goes.block ?_)
    obtain⟨j,b,g2⟩:=bnd g2
    obtain⟨c,d,g2⟩:=bnd g2
    refine sq (gr fol [2,3,4] (kA4 v a (kB7 c)) (ac (iv sl56 encS b) (ac (lv 0 ce23 encS b rfl) (ac (cv (qbm N j d)) az))) ?_)
    refine sh fol (kA4 v a [(4,.i c),(17,.bool (!decide (c=0)))]) ?_
    refine ihB g2 (fun k g2=>?_) (fun k g2=>?_)
    ·refine sh fol (kBM c) ?_
     refine Goes.ret ?_
     obtain rfl:=si g2
     exact Or.inr (⟨rfl,_,rfl,(gw2 [.i c] (Ua tI))⟩)
    refine Goes.skip ?_
    refine gh fol (kA4 v (w64 (a+1)) []) ?_
    exact⟨M,(ofG 19 (kA4 v (w64 (a+1)) []),[]),Nat.lt_succ_self _,(Sub.refl _),_,rfl,g2⟩
   refine Goes.exit ?_
   obtain rfl:=si g2
   exact Or.inl (⟨rfl,rfl,(Sub.keep [] rfl rfl)⟩)
 rintro x s' (⟨rfl,rfl,hsub⟩|⟨rfl,n,rfl,hret⟩)
 ·try dsimp only at h
  refine Goes.sub hsub ?_
  refine sh fol kB3 ?_
  refine Goes.ret ?_
  obtain rfl:=si h
  exact(gw2 [.i 0] (Ua tI))
 try dsimp only at h
 obtain rfl:=si h
 exact hret
def xY (a:qh):Option Int:=
 (zg a.Num).bind fun b=>
 some b
theorem qbv (a:qh) {res:Int} (h:xY a=some res):qc ZT (.fn 99) [.agg (nq1 a)] [] (.i res) []:=by
 unfold xY at h
 refine Ub Tryz.func99 rfl rfl (m:=6) rfl (rs:=[.tmp 2]) rfl (l:=[(0,.agg (nq1 a))]) rfl ?_
 refine sg fol (kA2 []) [.cells (nq1 a)] ?_
 obtain⟨c,b,h⟩:=bnd h
 refine sq (gr fol [2] (kBM c) (ac (cv (yD a.Num b)) az) ?_)
 refine Goes.ret ?_
 obtain rfl:=si h
 exact(gw2 [.i c] (Ua tI))
def qcg (N:Nat) (a:Str) (digits:Int):Option Bool:=
 (if(a.length:Int)<=(w64 ((w64 (2*digits))+2))then
 (qa0 N a).bind fun b=>
 if b=0 then
 (qdo N a).bind fun c=>
 (qds c).bind fun d=>
 if(d.length:Int)<=digits then
 (qdm N a).bind fun e=>
 some (decide ((e.length:Int)<=digits))
 else
 some false
 else
 some false
 else
 some false:Option Bool).bind fun f=>
 some f
theorem qa8 (N:Nat) (a:Str) (digits:Int) {res:Bool} (h:qcg N a digits=some res):qc ZT (.fn 22) (kA9 a digits) [] (.bool res) []:=by
 unfold qcg at h
 refine Ub Tryz.func22 rfl rfl (m:=31) rfl (rs:=[.tmp 4]) rfl (l:=(kAQ a [(1,.i digits)])) rfl ?_
 refine sh fol (kAQ a [(1,.i digits)]) ?_
 refine sq ?_
 obtain⟨n,b,h⟩:=bnd h
 refine Goes.cut (s':=(ofG 31 (kAl n),[])) ?_ ?_
 ·rcases wyD b with⟨f,b⟩|⟨f,b⟩
  ·obtain⟨q,c,b⟩:=bnd b
   rcases wyD b with⟨j,b⟩|⟨j,b⟩
   ·obtain⟨o,d,b⟩:=bnd b
    obtain⟨r,e,b⟩:=bnd b
    rcases wyD b with⟨k,b⟩|⟨k,b⟩
    ·obtain⟨p,g,b⟩:=bnd b
     obtain rfl:=si b
     exact tr fol [6,8,11,13,14,19,21] (kAl (decide ((p.length:Int)<=digits))) (ac (gw f) (ac (cv (qbm N a c)) (ac (gw j) (ac (cv (qfS N a d)) (ac (cv (qf0 o e)) (ac (gw k) (ac (cv (qjn N a g)) az)))))))
    obtain rfl:=si b
    exact tr fol [6,8,11,13,14,19] kAT (ac (gw f) (ac (cv (qbm N a c)) (ac (gw j) (ac (cv (qfS N a d)) (ac (cv (qf0 o e)) (ac (gw k) az))))))
   obtain rfl:=si b
   exact tr fol [6,8,11] kAT (ac (gw f) (ac (cv (qbm N a c)) (ac (gw j) az)))
  obtain rfl:=si b
  exact tr fol [6] kAT (ac (gw f) az)
 refine Goes.ret ?_
 obtain rfl:=si h
 exact(gw2 [.bool n] (Ua tB))
end Go.Av
