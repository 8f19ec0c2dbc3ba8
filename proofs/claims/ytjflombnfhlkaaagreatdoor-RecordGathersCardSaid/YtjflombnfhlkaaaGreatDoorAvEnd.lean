/-
  From a contract by value to the statement of a law.
-/
import Derived.Test.YtjflombnfhlkaaaGreatDoorAvRw
import Derived.WalkKit
import Derived.ProofKit
import Derived.OpenShut
import Derived.ChangeSlices
import Derived.Carry
import Derived.Deep.DeepHandedRow
noncomputable section
namespace Go.Av
set_option linter.unusedSectionVars false
open Go.ChangeShapes Go.WideShapes Go.ChangeAt Go.RowKit
section
variable {H:Type} {enc:TypeId×Value→H} {P:Program}
theorem qht (hl:laidOutB P=true) {W W':World} (bel:Below W.heap.size W W'): ∀(ts:List TypeId) (vs:List Value) (ds:List (DataW H)) (ps:List MemPlace),(∀t∈ts,P.readableRec t=true∧t<P.types.size)→(∀x∈ps,x.block<W.heap.size)→
 DataW.TrodAll enc P W 0 (fun _=>true) true ts vs ds ps→DataW.TrodAll enc P W' 0 (fun b=>decide (b<W.heap.size)) true ts vs ds ps:=by
 intro ts
 induction ts with
 |nil=>
  intro vs ds ps _ _ h
  obtain⟨rfl,rfl,rfl⟩:=trodAll_nil h
  exact trodAll_mk0
 |cons t ts ih=>
  intro vs ds ps hr hp h
  obtain⟨v,vs',d,ds',p,q,rfl,rfl,rfl,h1,h2⟩:=trodAll_cons h
  have ht:=hr t (by simp)
  exact trodAll_cons_mk (Below.trod hl ht.1 ht.2 h1 bel fun x hx=>hp x (by simp[hx])) (ih vs' ds' q (fun u hu=>hr u (by simp[hu])) (fun x hx=>hp x (by simp[hx])) h2)
theorem trodAll_length: ∀(ts:List TypeId) {W:World} {b:Nat} {sp:Nat→Bool} {hd:Bool} {vs:List Value} {ds:List (DataW H)} {ps:List MemPlace},DataW.TrodAll enc P W b sp hd ts vs ds ps→ds.length=ts.length:=by
 intro ts
 induction ts with
 |nil=>
  intro W b sp hd vs ds ps h
  obtain⟨_,rfl,_⟩:=trodAll_nil h
  rfl
 |cons t ts ih=>
  intro W b sp hd vs ds ps h
  obtain⟨v,vs',d,ds',p,q,rfl,rfl,rfl,h1,h2⟩:=trodAll_cons h
  simp[ih h2]
theorem qmG {fn:Func} {spec:ChangeSpec} {W W':World} {args:Array Value} {ds gs:List (DataW H)} {before:List MemPlace} {tb:TypeId}
 (hl:laidOutB P=true) (hr: ∀t∈fn.params.toList,P.readableRec t=true∧t<P.types.size) (hv:spec.vars=[]) (hres:fn.resultTypes=#[tb]) (hb:P.underlying tb=some .bool)
 (hspec: ∀ds:List (DataW H),ds.length=fn.params.size→(spec.fn H ds).results=[.lit (.bool true)]∧(spec.fn H ds).args=ds∧(spec.fn H ds).vars=[])
 (hW:DataW.Whole enc P fn.params.toList spec.vars false W args.toList ds gs before) (bel:Below W.heap.size W W'):spec.post enc P fn false true false false W args (.bool true) W':=by
 have hW':=hW
 have hlt:=hW.lt
 obtain⟨p,q,hA,hV,rfl,hfz,hnd⟩:=hW
 rw[hv]at hV
 obtain⟨rfl,rfl⟩:=trodVars_none hV
 obtain⟨e1,e2,e3⟩:=hspec ds (by rw[trodAll_length _ hA];simp)
 refine⟨ds,[],p++[],[],p,[],hW',?_,?_,?_,bel.frame _,fun h=>by cases h⟩
 ·rw[List.append_nil,e1,hres]
  exact trodAll_mk1 (shut_bool hb true)
 ·rw[List.append_nil,e2]
  exact qht hl bel _ _ _ _ hr (fun x hx=>hlt x (by simp[hx])) hA
 ·rw[hv,List.append_nil,e3]
  rfl
end
section
variable [Glob] {P:Program}
theorem Stp.below {F F':Nat→Prop} {nu':Nat→Option Nat} {A':Heap} {w w':World} (st:Stp F (fun _=>none) [] w F' nu' A' w'):Below w.heap.size w w':=
 ⟨st.os,st.tape,st.output,st.size,fun k hk=>st.keep k hk (by rintro⟨b,x,hb,_⟩;cases hb)⟩
def AllOf (W:World):Nat→Prop:=fun rb=>rb<W.heap.size
theorem qlQ {H:Type} {enc:TypeId×Value→H} {f:FuncId} {fn:Func} {spec:ChangeSpec} {W:World} {args:Array Value} {al:List AV} {ds gs:List (DataW H)} {before:List MemPlace} {tb:TypeId}
 (hl:laidOutB P=true) (hr: ∀t∈fn.params.toList,P.readableRec t=true∧t<P.types.size) (hv:spec.vars=[]) (hres:fn.resultTypes=#[tb]) (hb:P.underlying tb=some .bool)
 (hspec: ∀ds:List (DataW H),ds.length=fn.params.size→(spec.fn H ds).results=[.lit (.bool true)]∧(spec.fn H ds).args=ds∧(spec.fn H ds).vars=[])
 (hW:DataW.Whole enc P fn.params.toList spec.vars false W args.toList ds gs before)
 (hent:Enters P f) (hok:qf P (.fn f) al [] (.bool true) []) (hg:Glob.G (AllOf W) W) (hR:RL (AllOf W) (fun _=>none) W al args):
 Calls P f args W fun e W'=> ∃v,e= .returned v∧spec.post enc P fn false true false false W args v W':=by
 have i:Inv (AllOf W) (fun _=>none) [] W:=⟨by simp,by simp,fun _ _=>rfl,fun rb h=>h,by simp,hg⟩
 refine(hok.calls hent i hR).mono ?_
 rintro e W' ⟨x,F',nu',rfl,st,hx⟩
 obtain rfl:=hx.bool_inv
 exact⟨_,rfl,qmG hl hr hv hres hb hspec hW st.below⟩
end
end Go.Av
