/-
  Walks of functions: what each computes, as a plain function.
-/
import Derived.Test.YtbjpmhdicbgjkaaGreatDoorQGenE3
noncomputable section
namespace Go.Av
open Go.Proofs Go.RowKit
set_option linter.unusedSectionVars false
set_option linter.unusedVariables false
set_option linter.unusedSimpArgs false
set_option maxRecDepth 100000
def yX (l:List Str):Nat->Int->Option (Unit⊕Bool)
 |0,_=>none
 |K+1,a=>
  if a<(l.length:Int)then
  (idx l a).bind fun b=>
  if(b.length:Int)>60 then
  some (.inr true)
  else
  yX l K (w64 (a+1))
  else
  some (.inl ())
def qcr (N:Nat) (l:List Str):Option Bool:=
 (yX l N 0).bind (fun
 |(.inl ())=>
 some false
 |(.inr a)=>
 some a)
theorem qiH (N:Nat) (l:List Str) {res:Bool} (h:qcr N l=some res):qb ZT (.fn 11) [vl encS l] [] (.bool res) []:=by
 unfold qcr at h
 refine Ub Tryz.func11 rfl rfl (m:=16) rfl (rs:=[.tmp 2]) rfl (l:=(kBp l [])) rfl ?_
 refine sh fol (kBp l []) ?_
 refine sq ?_
 refine sh fol (kBp l [(3,.i 0)]) ?_
 refine Goes.block ?_
 obtain⟨c,g2,h⟩:=bnd h
 refine Goes.imp (Q:=fun x s'=>(x= .exit 0/\(.inl ())=c/\Sub s' (ofG 16 [],[]))\/(x= .ret/\ ∃d,(.inr d)=c/\vH ZT [.tmp 2] (.bool d) .ret s')) ?_ ?_
 ·refine Uc (fun M s=> ∃(a:Int),s=(ofG 16 (kA4 l a []),[])/\yX l M a=some c) ?_ (m:=N) ⟨_,rfl,g2⟩
  rintro M s ⟨a,rfl,g2⟩
  cases M with
  |zero=>simp only[yX]at g2;cases g2
  |succ M=>
   rw[yX]at g2
   refine sq ?_
   refine sh fol (kA4 l a [(7,.bool (decide (a<(l.length:Int))))]) ?_
   refine ihD g2 (fun e g2=>?_) (fun e g2=>?_)
   ·refine Goes.skip ?_
    refine sq (Goes.block ?_)
    obtain⟨f,b,g2⟩:=bnd g2
    refine sq (gr fol [2,3] (kA4 l a (kBa (decide ((f.length:Int)>60)))) (ac (iv qjW encS b) (ac (lv 0 qj6 encS b rfl) az)) ?_)
    refine ihD g2 (fun g g2=>?_) (fun g g2=>?_)
    ·refine sh fol [(2,.bool true)] ?_
     refine Goes.ret ?_
     obtain rfl:=si g2
     exact Or.inr (⟨rfl,_,rfl,(gw2 [.bool true] (Ua tB))⟩)
    refine Goes.skip ?_
    refine gh fol (kA4 l (w64 (a+1)) []) ?_
    exact⟨M,(ofG 16 (kA4 l (w64 (a+1)) []),[]),Nat.lt_succ_self _,(Sub.refl _),_,rfl,g2⟩
   refine Goes.exit ?_
   obtain rfl:=si g2
   exact Or.inl (⟨rfl,rfl,(Sub.keep [] rfl rfl)⟩)
 rintro x s' (⟨rfl,rfl,hsub⟩|⟨rfl,j,rfl,hret⟩)
 ·try dsimp only at h
  refine Goes.sub hsub ?_
  refine sh fol kA7 ?_
  refine Goes.ret ?_
  obtain rfl:=si h
  exact(gw2 [.bool false] (Ua tB))
 try dsimp only at h
 obtain rfl:=si h
 exact hret
def za (N:Nat) (v:List Str):Nat->Int->Option (Unit⊕Int)
 |0,_=>none
 |K+1,a=>
  if a<(v.length:Int)then
  (idx v a).bind fun c=>
  (qbS N c).bind fun b=>
  if(!decide (b=0))=true then
  some (.inr b)
  else
  za N v K (w64 (a+1))
  else
  some (.inl ())
def qal (N:Nat) (v:List Str):Option Int:=
 (za N v N 0).bind (fun
 |(.inl ())=>
 some 0
 |(.inr a)=>
 some a)
theorem qfV (N:Nat) (v:List Str) {res:Int} (h:qal N v=some res):qb ZT (.fn 78) [vl encS v] [] (.i res) []:=by
 unfold qal at h
 refine Ub Tryz.func78 rfl rfl (m:=19) rfl (rs:=[.tmp 2]) rfl (l:=(kBp v [])) rfl ?_
 refine sh fol (kBp v []) ?_
 refine sq ?_
 refine sh fol (kBp v [(3,.i 0)]) ?_
 refine Goes.block ?_
 obtain⟨e,g2,h⟩:=bnd h
 refine Goes.imp (Q:=fun x s'=>(x= .exit 0/\(.inl ())=e/\Sub s' (ofG 19 [],[]))\/(x= .ret/\ ∃f,(.inr f)=e/\vH ZT [.tmp 2] (.i f) .ret s')) ?_ ?_
 ·refine Uc (fun M s=> ∃(a:Int),s=(ofG 19 (kA4 v a []),[])/\za N v M a=some e) ?_ (m:=N) ⟨_,rfl,g2⟩
  rintro M s ⟨a,rfl,g2⟩
  cases M with
  |zero=>simp only[za]at g2;cases g2
  |succ M=>
   rw[za]at g2
   refine sq ?_
   refine sh fol (kA4 v a (kAz (decide (a<(v.length:Int))))) ?_
   refine ihD g2 (fun g g2=>?_) (fun g g2=>?_)
   ·refine Goes.skip ?_
    refine sq (Goes.block ?_)
    obtain⟨j,b,g2⟩:=bnd g2
    obtain⟨c,d,g2⟩:=bnd g2
    refine sq (gr fol [2,3,4] (kA4 v a (kB7 c)) (ac (iv qjW encS b) (ac (lv 0 qj6 encS b rfl) (ac (cv (qh7 N j d)) az))) ?_)
    refine sh fol (kA4 v a [(4,.i c),(17,.bool (!decide (c=0)))]) ?_
    refine ihB g2 (fun k g2=>?_) (fun k g2=>?_)
    ·refine sh fol (kBM c) ?_
     refine Goes.ret ?_
     obtain rfl:=si g2
     exact Or.inr (⟨rfl,_,rfl,(gw2 [.i c] (Ua tI))⟩)
    refine Goes.skip ?_
    refine gh fol (kA4 v (w64 (a+1)) []) ?_
    exact⟨M,(ofG 19 (kA4 v (w64 (a+1)) []),[]),Nat.lt_succ_self _,(Sub.refl _),_,rfl,g2⟩
   refine Goes.exit ?_
   obtain rfl:=si g2
   exact Or.inl (⟨rfl,rfl,(Sub.keep [] rfl rfl)⟩)
 rintro x s' (⟨rfl,rfl,hsub⟩|⟨rfl,n,rfl,hret⟩)
 ·try dsimp only at h
  refine Goes.sub hsub ?_
  refine sh fol kB3 ?_
  refine Goes.ret ?_
  obtain rfl:=si h
  exact(gw2 [.i 0] (Ua tI))
 try dsimp only at h
 obtain rfl:=si h
 exact hret
def qab (a:qh):Option Int:=
 (zh a.Num).bind fun b=>
 some b
theorem qbC (a:qh) {res:Int} (h:qab a=some res):qb ZT (.fn 99) [.agg (nq1 a)] [] (.i res) []:=by
 unfold qab at h
 refine Ub Tryz.func99 rfl rfl (m:=6) rfl (rs:=[.tmp 2]) rfl (l:=[(0,.agg (nq1 a))]) rfl ?_
 refine sg fol (kA2 []) [.cells (nq1 a)] ?_
 obtain⟨c,b,h⟩:=bnd h
 refine sq (gr fol [2] (kBM c) (ac (cv (yF a.Num b)) az) ?_)
 refine Goes.ret ?_
 obtain rfl:=si h
 exact(gw2 [.i c] (Ua tI))
end Go.Av
