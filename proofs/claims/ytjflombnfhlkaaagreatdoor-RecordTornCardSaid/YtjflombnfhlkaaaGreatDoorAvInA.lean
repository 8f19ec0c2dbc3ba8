/-
  Inputs that are arrays of three numbers.
-/
import Derived.Test.YtjflombnfhlkaaaGreatDoorAvIn
import Derived.Laws.IdiomArrays
noncomputable section
namespace Go.Av
open Go.ChangeShapes Go.WideShapes
variable {H:Type} {enc:TypeId×Value→H} {P:Program} {W:World} {base:Nat} {t:TypeId} {v:Value} {d:DataW H} {p:List MemPlace}
theorem In.arr3 {e:TypeId} {k:IntKind} (ht:P.underlying t=some (.array 3 e)) (he:P.underlying e=some (.int k)) (hce:P.cellsOf e=1) (h3:P.cellsOf t=3) (hval:Value.okWide P W .any base t v) (h:DataW.Trod enc P W 0 (fun _=>true) true t v d p):
 ∃a:Int×Int×Int,((k.min≤a.1∧a.1≤k.max)∧(k.min≤a.2.1∧a.2.1≤k.max)∧(k.min≤a.2.2∧a.2.2≤k.max))∧R (AllOf W) (fun _=>none) W (.agg [.int k a.1,.int k a.2.1,.int k a.2.2]) v:=by
 simp only[Value.okWide,ht]at hval
 obtain⟨cs,rfl,h2,_⟩:=hval
 rw[h3]at h2
 obtain⟨fuel,hf⟩:=h
 obtain⟨c0,c1,c2,hcs⟩: ∃c0 c1 c2,cs=#[c0,c1,c2]:=by
  obtain⟨l⟩:=cs
  match l,h2 with
  |[a,b,c],_=>exact⟨a,b,c,rfl⟩
 subst hcs
 obtain⟨y0,y1,y2,n,_,g0,g1,g2⟩:=trod_array3 ht hce hf
 obtain⟨n0,e0,_,w0⟩:=DataW.trod_int he g0
 obtain⟨n1,e1,_,w1⟩:=DataW.trod_int he g1
 obtain⟨n2,e2,_,w2⟩:=DataW.trod_int he g2
 simp only[List.cons.injEq,and_true]at e0 e1 e2
 subst e0 e1 e2
 simp only[Lit.wf,Bool.and_eq_true,decide_eq_true_eq]at w0 w1 w2
 refine⟨(n0,n1,n2),⟨w0,w1,w2⟩,.agg _ _ rfl fun i a u ha hu=>?_⟩
 match i with
 |0=>simp at ha hu;subst ha hu;exact .int _ _
 |1=>simp at ha hu;subst ha hu;exact .int _ _
 |2=>simp at ha hu;subst ha hu;exact .int _ _
 |i+3=>simp at ha
end Go.Av
