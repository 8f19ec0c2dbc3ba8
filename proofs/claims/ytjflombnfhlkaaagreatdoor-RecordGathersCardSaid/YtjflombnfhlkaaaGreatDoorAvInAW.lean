/-
  Inputs that are arrays of three numbers.
-/
import Derived.Test.YtjflombnfhlkaaaGreatDoorAvIn
import Derived.Laws.IdiomArrays
noncomputable section
namespace Go.Av
open Go.ChangeShapes Go.WideShapes
variable {H:Type} {enc:TypeId×Value→H} {P:Program} {W:World} {base:Nat} {t:TypeId} {v:Value} {d:DataW H} {p:List MemPlace}
theorem In.arr3 {e:TypeId} {k:IntKind} (ht:P.underlying t=some (.array 3 e)) (he:P.underlying e=some (.int k)) (hce:P.cellsOf e=1) (h3:P.cellsOf t=3) (hval:Value.okWide P W .any base t v) (h:DataW.Trod enc P W 0 (fun _=>true) true t v d p):
 ∃a:Int×Int×Int,((k.min≤a.1∧a.1≤k.max)∧(k.min≤a.2.1∧a.2.1≤k.max)∧(k.min≤a.2.2∧a.2.2≤k.max))∧R (AllOf W) (fun _=>none) W (.agg [.int k a.1,.int k a.2.1,.int k a.2.2]) v:=by
 simp only[Value.okWide,ht]at hval
 obtain⟨cs,rfl,h2,_⟩:=hval
 rw[h3]at h2
 obtain⟨fuel,hf⟩:=h
 obtain⟨c0,c1,c2,hcs⟩: ∃c0 c1 c2,cs=#[c0,c1,c2]:=by
  obtain⟨l⟩:=cs
  match l,h2 with
  |[a,b,c],_=>exact⟨a,b,c,rfl⟩
 subst hcs
 obtain⟨y0,y1,y2,n,_,g0,g1,g2⟩:=trod_array3 ht hce hf
 obtain⟨n0,e0,_,w0⟩:=DataW.trod_int he g0
 obtain⟨n1,e1,_,w1⟩:=DataW.trod_int he g1
 obtain⟨n2,e2,_,w2⟩:=DataW.trod_int he g2
 simp only[List.cons.injEq,and_true]at e0 e1 e2
 subst e0 e1 e2
 simp only[Lit.wf,Bool.and_eq_true,decide_eq_true_eq]at w0 w1 w2
 refine⟨(n0,n1,n2),⟨w0,w1,w2⟩,.agg _ _ rfl fun i a u ha hu=>?_⟩
 match i with
 |0=>simp at ha hu;subst ha hu;exact .int _ _
 |1=>simp at ha hu;subst ha hu;exact .int _ _
 |2=>simp at ha hu;subst ha hu;exact .int _ _
 |i+3=>simp at ha
end Go.Av
end
noncomputable section
namespace Go.Av
open Go.ChangeShapes Go.WideShapes Go.ChangeAt Go.RowKit
set_option linter.unusedSectionVars false
section
variable [Glob] {α:Type} {P:Program} {W:World} {base:Nat} {t:TypeId} {v:Value} {H:Type} {enc:TypeId×Value→H} {d:DataW H} {p:List MemPlace}
theorem mapM_len {α β:Type} {f:α→Option β}: ∀{l:List α} {r:List β},l.mapM f=some r→r.length=l.length
 |[],r,h=>by simp at h;subst h;rfl
 |x::l,r,h=>by
  rw[List.mapM_cons]at h
  simp only[Option.bind_eq_bind,Option.bind_eq_some_iff,Option.pure_def,Option.some.injEq]at h
  obtain⟨y,_,ys,h2,rfl⟩:=h
  rw[List.length_cons,List.length_cons,mapM_len h2]
theorem qnV {e:TypeId} {ad:Addr} {n cap fuel:Nat} (ht:P.underlying t=some (.slice e)) (h:DataW.trod enc P W 0 (fun _=>true) true fuel t [.slice (some ad) n cap]=some (d,p)) (hw:(d.weights P t).all (· ≤reachBytes)=true):n*P.bytesOf e≤reachBytes:=by
 cases fuel with
 |zero=>simp[DataW.trod]at h
 |succ fuel=>
  unfold DataW.trod at h
  rw[ht]at h
  simp only at h
  split at h
  ·obtain⟨es,h1,h⟩:=Option.bind_eq_some_iff.1 h
   obtain⟨rs,h2,h⟩:=Option.map_eq_some_iff.1 h
   have hl:es.length=n:=by
    have:=mapM_len h1
    simpa using this
   injection h with h _
   subst h
   unfold DataW.weights at hw
   rw[ht]at hw
   simp only[List.all_cons,Bool.and_eq_true,decide_eq_true_eq,List.length_map]at hw
   refine Nat.le_trans (Nat.mul_le_mul_right _ ?_) hw.1
   omega
  ·cases h
theorem In.listW {e:TypeId} {E:Enc α} (ht:P.underlying t=some (.slice e)) (hk:P.cellsOf e=E.k) (hE:yf P e E) (hval:Value.okWide P W .any base t v) (h:DataW.Trod enc P W 0 (fun _=>true) true t v d p) (hw:(d.weights P t).all (· ≤reachBytes)=true):
 ∃l:List α,R (AllOf W) (fun _=>none) W (vl E l) v∧l.length*P.bytesOf e≤reachBytes:=by
 obtain⟨l,hl⟩:=In.list ht hk hE hval h
 refine⟨l,hl,?_⟩
 obtain⟨fuel,hf⟩:=h
 have hl':R (AllOf W) (fun _=>none) W (.fslice l.length (l.flatMap E.c)) v:=hl
 generalize hn:l.length=n at hl'⊢
 generalize l.flatMap E.c=cs at hl'
 cases hl' with
 |fslice0 A cap=>rw[Nat.zero_mul];exact Nat.zero_le _
 |fslice _ _ ad cap vs h1 h2 h3 h4 h5=>exact qnV ht hf hw
theorem qjx {ts:List TypeId} {ds:List (DataW H)} (h:(DataW.weightsEach P (t::ts) (d::ds)).all (· ≤reachBytes)=true):(d.weights P t).all (· ≤reachBytes)=true∧(DataW.weightsEach P ts ds).all (· ≤reachBytes)=true:=by
 unfold DataW.weightsEach at h
 rw[List.all_append,Bool.and_eq_true]at h
 exact h
end
end Go.Av
end
