/-
  Inputs that are numbers of other kinds, with their bounds.
-/
import Derived.Test.YtphbhegcojmijaaGreatDoorAvIn
import Derived.Laws.IdiomArrays
noncomputable section
namespace Go.Av
open Go.ChangeShapes Go.WideShapes
variable {H:Type} {enc:TypeId×Value→H} {P:Program} {W:World} {base:Nat} {t:TypeId} {v:Value} {d:DataW H} {p:List MemPlace}
theorem In.rng {k:IntKind} (ht:P.underlying t=some (.int k)) (hval:Value.okWide P W .any base t v) (h:DataW.Trod enc P W 0 (fun _=>true) true t v d p):
 ∃a:Int,(k.min≤a∧a≤k.max)∧R (AllOf W) (fun _=>none) W (.int k a) v:=by
 obtain⟨n,rfl⟩:=okWide_int ht hval
 obtain⟨fuel,hf⟩:=h
 obtain⟨m,e,_,w⟩:=DataW.trod_int ht hf
 have e:n=m:=by simpa[Value.cells]using e
 subst e
 simp only[Lit.wf,Bool.and_eq_true,decide_eq_true_eq]at w
 exact⟨n,w,.int _ _⟩
end Go.Av
