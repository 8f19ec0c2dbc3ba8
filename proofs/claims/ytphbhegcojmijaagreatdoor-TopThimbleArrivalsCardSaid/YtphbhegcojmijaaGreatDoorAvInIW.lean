/-
  Inputs that are numbers of other kinds, with their bounds.
-/
import Derived.Test.YtphbhegcojmijaaGreatDoorAvIn
import Derived.Laws.IdiomArrays
noncomputable section
namespace Go.Av
open Go.ChangeShapes Go.WideShapes
variable {H:Type} {enc:TypeId×Value→H} {P:Program} {W:World} {base:Nat} {t:TypeId} {v:Value} {d:DataW H} {p:List MemPlace}
theorem In.rng {k:IntKind} (ht:P.underlying t=some (.int k)) (hval:Value.okWide P W .any base t v) (h:DataW.Trod enc P W 0 (fun _=>true) true t v d p):
 ∃a:Int,(k.min≤a∧a≤k.max)∧R (AllOf W) (fun _=>none) W (.int k a) v:=by
 obtain⟨n,rfl⟩:=okWide_int ht hval
 obtain⟨fuel,hf⟩:=h
 obtain⟨m,e,_,w⟩:=DataW.trod_int ht hf
 have e:n=m:=by simpa[Value.cells]using e
 subst e
 simp only[Lit.wf,Bool.and_eq_true,decide_eq_true_eq]at w
 exact⟨n,w,.int _ _⟩
end Go.Av
end
noncomputable section
namespace Go.Av
open Go.ChangeShapes Go.WideShapes Go.ChangeAt Go.RowKit
set_option linter.unusedSectionVars false
section
variable [Glob] {α:Type} {P:Program} {W:World} {base:Nat} {t:TypeId} {v:Value} {H:Type} {enc:TypeId×Value→H} {d:DataW H} {p:List MemPlace}
theorem mapM_len {α β:Type} {f:α→Option β}: ∀{l:List α} {r:List β},l.mapM f=some r→r.length=l.length
 |[],r,h=>by simp at h;subst h;rfl
 |x::l,r,h=>by
  rw[List.mapM_cons]at h
  simp only[Option.bind_eq_bind,Option.bind_eq_some_iff,Option.pure_def,Option.some.injEq]at h
  obtain⟨y,_,ys,h2,rfl⟩:=h
  rw[List.length_cons,List.length_cons,mapM_len h2]
theorem quD {e:TypeId} {ad:Addr} {n cap fuel:Nat} (ht:P.underlying t=some (.slice e)) (h:DataW.trod enc P W 0 (fun _=>true) true fuel t [.slice (some ad) n cap]=some (d,p)) (hw:(d.weights P t).all (· ≤reachBytes)=true):n*P.bytesOf e≤reachBytes:=by
 cases fuel with
 |zero=>simp[DataW.trod]at h
 |succ fuel=>
  unfold DataW.trod at h
  rw[ht]at h
  simp only at h
  split at h
  ·obtain⟨es,h1,h⟩:=Option.bind_eq_some_iff.1 h
   obtain⟨rs,h2,h⟩:=Option.map_eq_some_iff.1 h
   have hl:es.length=n:=by
    have:=mapM_len h1
    simpa using this
   injection h with h _
   subst h
   unfold DataW.weights at hw
   rw[ht]at hw
   simp only[List.all_cons,Bool.and_eq_true,decide_eq_true_eq,List.length_map]at hw
   refine Nat.le_trans (Nat.mul_le_mul_right _ ?_) hw.1
   omega
  ·cases h
theorem In.listW {e:TypeId} {E:Enc α} (ht:P.underlying t=some (.slice e)) (hk:P.cellsOf e=E.k) (hE:qb7 P e E) (hval:Value.okWide P W .any base t v) (h:DataW.Trod enc P W 0 (fun _=>true) true t v d p) (hw:(d.weights P t).all (· ≤reachBytes)=true):
 ∃l:List α,R (AllOf W) (fun _=>none) W (vl E l) v∧l.length*P.bytesOf e≤reachBytes:=by
 obtain⟨l,hl⟩:=In.list ht hk hE hval h
 refine⟨l,hl,?_⟩
 obtain⟨fuel,hf⟩:=h
 have hl':R (AllOf W) (fun _=>none) W (.fslice l.length (l.flatMap E.c)) v:=hl
 generalize hn:l.length=n at hl'⊢
 generalize l.flatMap E.c=cs at hl'
 cases hl' with
 |fslice0 A cap=>rw[Nat.zero_mul];exact Nat.zero_le _
 |fslice _ _ ad cap vs h1 h2 h3 h4 h5=>exact quD ht hf hw
theorem qrZ {ts:List TypeId} {ds:List (DataW H)} (h:(DataW.weightsEach P (t::ts) (d::ds)).all (· ≤reachBytes)=true):(d.weights P t).all (· ≤reachBytes)=true∧(DataW.weightsEach P ts ds).all (· ≤reachBytes)=true:=by
 unfold DataW.weightsEach at h
 rw[List.all_append,Bool.and_eq_true]at h
 exact h
end
end Go.Av
end
