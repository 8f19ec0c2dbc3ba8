/-
  Plain facts on what the shadows are made of.
-/
import Derived.Test.YthgioiakbbhonaaGreatDoorAvOpt
import Derived.Test.YthgioiakbbhonaaGreatDoorAvFk
import Derived.WalkKit
import Derived.ProofKit
import Derived.OpenShut
import Derived.ChangeSlices
import Derived.Carry
import Derived.Deep.DeepHandedRow
set_option linter.unusedSectionVars false
set_option linter.unusedVariables false
noncomputable section
namespace Go.Av
section
variable {α:Type}
theorem qo {n:Int} (h1: -9223372036854775808<=n) (h2:n<=9223372036854775807):w64 n=n:=by
 show IntKind.wrap .i64 n=n;unfold IntKind.wrap
 have e:(2:Int)^IntKind.i64.bits=18446744073709551616:=by decide
 have e2:(2:Int)^(IntKind.i64.bits-1)=9223372036854775808:=by decide
 have e3:IntKind.i64.signed=true:=by decide
 simp only[e,e2,e3,cN,ge_iff_le,aH];split<;>omega
theorem qD {k:Nat} (h:k<4611686018427387904):w64 ((k:Int)+1)=((k+1:Nat):Int):=by
 rw[qo (by omega) (by omega)];rfl
theorem qke {k:Nat} (h:k<4611686018427387904) (h0:0<k):w64 ((k:Int)-1)=((k-1:Nat):Int):=by
 rw[qo (by omega) (by omega)];omega
theorem ql (l:List α) (k:Nat):idx l (k:Int)=l[k]? :=by simp[idx]
theorem qau (l:List α):idx l 0=l[0]? :=by simp[idx]
theorem idx_1 (l:List α):idx l 1=l[1]? :=by simp[idx]
theorem xX {b:Nat} {l xs:List α} (h:(l.length+xs.length)*b<=140737488355328) (h2:l.length+xs.length<=140737488355328):app b l xs=some (l++xs):=by
 unfold app;rw[ae ⟨h,h2⟩]
theorem vw {l:List α} {k:Nat} (h:k<l.length) (x:α):put l (k:Int) x=some (l.set k x):=by
 unfold put;rw[ae ⟨by omega,by omega⟩];simp
theorem y9 {l:List α} {k:Nat} (h:k<=l.length):cut l 0 (k:Int)=some (l.take k):=by
 unfold cut;rw[ae ⟨by omega,by omega,by omega⟩];simp
theorem qaz {l:List α} {k:Nat} (h:k<=l.length):cut l (k:Int) (l.length:Int)=some (l.drop k):=by
 unfold cut;rw[ae ⟨by omega,by omega,by omega⟩];simp only[aL,ZI];rw[aj (by simp)]
theorem qse {l:List α} {k:Nat} (h:k<=l.length):at' l (k:Int)=some k:=by
 unfold at';rw[ae ⟨by omega,by omega⟩];simp
end
section
open Go.ChangeShapes Go.WideShapes Go.ChangeAt Go.RowKit
section
variable {H:Type} {enc:TypeId×Value->H} {P:Program}
theorem qjh (hl:laidOutB P=true) {W W':World} (bel:Below W.heap.size W W'): ∀(ts:List TypeId) (vs:List Value) (ds:List (DataW H)) (ps:List MemPlace),(∀t∈ts,P.readableRec t=true/\t<P.types.size)->(∀x∈ps,x.block<W.heap.size)->
 DataW.TrodAll enc P W 0 (λ_=>true) true ts vs ds ps->DataW.TrodAll enc P W' 0 (λb=>decide (b<W.heap.size)) true ts vs ds ps:=by
 intro ts
 induction ts with
 |nil=>
  intro vs ds ps _ _ h;obtain⟨rfl,rfl,rfl⟩:=trodAll_nil h;exact trodAll_mk0
 |cons t ts ih=>
  intro vs ds ps hr hp h;obtain⟨v,vs',d,ds',p,q,rfl,rfl,rfl,h1,h2⟩:=trodAll_cons h;have ht:=hr t (by simp);exact trodAll_cons_mk (Below.trod hl ht.1 ht.2 h1 bel λx hx=>hp x (by simp[hx])) (ih vs' ds' q (λu hu=>hr u (by simp[hu])) (λx hx=>hp x (by simp[hx])) h2)
theorem trodAll_length: ∀(ts:List TypeId) {W:World} {b:Nat} {sp:Nat->Bool} {hd:Bool} {vs:List Value} {ds:List (DataW H)} {ps:List MemPlace},DataW.TrodAll enc P W b sp hd ts vs ds ps->ds.length=ts.length:=by
 intro ts
 induction ts with
 |nil=>
  intro W b sp hd vs ds ps h;obtain⟨_,rfl,_⟩:=trodAll_nil h;rfl
 |cons t ts ih=>
  intro W b sp hd vs ds ps h;obtain⟨v,vs',d,ds',p,q,rfl,rfl,rfl,h1,h2⟩:=trodAll_cons h;simp[ih h2]
theorem qoi {fn:Func} {spec:ChangeSpec} {W W':World} {args:Array Value} {ds gs:List (DataW H)} {before:List MemPlace} {tb:TypeId}
 (hl:laidOutB P=true) (hr: ∀t∈fn.params.toList,P.readableRec t=true/\t<P.types.size) (hv:spec.vars=[]) (hres:fn.resultTypes=#[tb]) (hb:P.underlying tb=some .bool)
 (hspec: ∀ds:List (DataW H),ds.length=fn.params.size->(spec.fn H ds).results=[.lit (.bool true)]/\(spec.fn H ds).args=ds/\(spec.fn H ds).vars=[])
 (hW:DataW.Whole enc P fn.params.toList spec.vars false W args.toList ds gs before) (bel:Below W.heap.size W W'):spec.post enc P fn false true false false W args (.bool true) W':=by
 have hW':=hW;have hlt:=hW.lt;obtain⟨p,q,hA,hV,rfl,hfz,hnd⟩:=hW;rw[hv]at hV;obtain⟨rfl,rfl⟩:=trodVars_none hV;obtain⟨e1,e2,e3⟩:=hspec ds (by rw[trodAll_length _ hA];simp);refine⟨ds,[],p++[],[],p,[],hW',?_,?_,?_,bel.frame _,λh=>by cases h⟩
 ·rw[YQ,e1,hres];exact trodAll_mk1 (shut_bool hb true)
 ·rw[YQ,e2];exact qjh hl bel _ _ _ _ hr (λx hx=>hlt x (by simp[hx])) hA
 rw[hv,YQ,e3];rfl
end
section
variable [Glob] {P:Program}
theorem Stp.below {F F':Nat->Prop} {nu':Nat->Option Nat} {A':Heap} {w w':World} (st:Stp F (λ_=>none) [] w F' nu' A' w'):Below w.heap.size w w':=
 ⟨st.os,st.tape,st.output,st.size,λk hk=>st.keep k hk (by rintro⟨b,x,r,hb,_⟩;cases hb)⟩
def AllOf (W:World):Nat->Prop:=λrb=>rb<W.heap.size
theorem qnZ {H:Type} {enc:TypeId×Value->H} {f:FuncId} {fn:Func} {spec:ChangeSpec} {W:World} {args:Array Value} {al:List AV} {ds gs:List (DataW H)} {before:List MemPlace} {tb:TypeId}
 (hl:laidOutB P=true) (hr: ∀t∈fn.params.toList,P.readableRec t=true/\t<P.types.size) (hv:spec.vars=[]) (hres:fn.resultTypes=#[tb]) (hb:P.underlying tb=some .bool)
 (hspec: ∀ds:List (DataW H),ds.length=fn.params.size->(spec.fn H ds).results=[.lit (.bool true)]/\(spec.fn H ds).args=ds/\(spec.fn H ds).vars=[])
 (hW:DataW.Whole enc P fn.params.toList spec.vars false W args.toList ds gs before)
 (hent:Enters P f) (hok:qf P (.fn f) al [] (.bool true) []) (hg:Glob.G (AllOf W) W) (hR:RL (AllOf W) (λ_=>none) W al args):
 Calls P f args W λe W'=> ∃v,e= .returned v/\spec.post enc P fn false true false false W args v W':=by
 have i:Inv (AllOf W) (λ_=>none) [] W:=⟨by simp,by simp,λ_ _=>rfl,λrb h=>h,by simp,hg⟩;refine(hok.calls hent i hR).mono ?_;rintro e W' ⟨x,F',nu',rfl,st,hx⟩;obtain rfl:=hx.bool_inv;exact⟨_,rfl,qoi hl hr hv hres hb hspec hW st.below⟩
end
end
section
open Go.ChangeShapes Go.WideShapes Go.ChangeAt Go.RowKit
variable [Glob] {P:Program} {α β:Type}
def RC (W:World) (as:List AV) (cs:List Value):Prop:=cs.length=as.length/\ ∀(i:Nat) (a:AV) (v:Value),as[i]? =some a->cs[i]? =some v->R (AllOf W) (λ_=>none) W a v
theorem RC.one {W:World} {a:AV} {v:Value} (h:R (AllOf W) (λ_=>none) W a v):RC W [a] [v]:=by
 refine⟨rfl,λi b u hb hu=>?_⟩
 match i with
 |0=>simp at hb hu;subst hb hu;exact h
 |i+1=>simp at hb
theorem RC.append {W:World} {as bs:List AV} {cs ds:List Value} (h:RC W as cs) (k:RC W bs ds):RC W (as++bs) (cs++ds):=by
 refine⟨by simp[h.1,k.1],λi a v ha hv=>?_⟩;rcases ak i as.length with hi|hi
 ·rw[Yf hi]at ha;rw[Yf (by rw[h.1];exact hi)]at hv;exact h.2 i a v ha hv
 rw[Yo hi]at ha;rw[Yo (by rw[h.1];exact hi),h.1]at hv;exact k.2 _ a v ha hv
structure qcW (P:Program) (t:TypeId) (E:Enc α):Prop where
 out: ∀{H:Type} {enc:TypeId×Value->H} {W:World} {fuel:Nat} {cs:List Value} {x:DataW H×List MemPlace},DataW.trod enc P W 0 (λ_=>true) true fuel t cs=some x-> ∃y:α,RC W (E.c y) cs
theorem qcW.str {t:TypeId} (ht:P.underlying t=some .string):qcW P t encS:=by
 constructor;intro H enc W fuel cs x h
 obtain⟨s,rfl,_,_⟩:=DataW.trod_string ht h;exact⟨s.data.toList,RC.one (.str _ _ rfl)⟩
theorem qmS {E:Enc α} {n k:Nat} (hk:E.k=k) {W:World} {g:Nat->List Value}: ∀(m:Nat),(∀i,i<m-> ∃y:α,RC W (E.c y) (g i))-> ∃l:List α,l.length=m/\RC W (l.flatMap E.c) ((List.range m).flatMap g)
 |0,_=>⟨[],rfl,⟨rfl,by simp⟩⟩
 |m+1,h=>by
  obtain⟨l,h1,h2⟩:=qmS (n:=n) hk m (λi hi=>h i (by omega));obtain⟨y,hy⟩:=h m (by omega);refine⟨l++[y],by simp[h1],?_⟩;rw[List.flatMap_append,eO,List.flatMap_append];have:=h2.append hy;simpa using this
theorem qcW.list {t e:TypeId} {E:Enc α} (ht:P.underlying t=some (.slice e)) (hk:P.cellsOf e=E.k) (h:qcW P e E):qcW P t (qaG E):=by
 constructor;intro H enc W fuel cs x hx
 rcases DataW.trod_slice ht hx with⟨rfl,_⟩|⟨a,len,cap,elems,rest,n,_,rfl,rfl,hb,hl,hm,hlen,hel,hsp,hns⟩
 ·exact⟨[],RC.one (.fslice0 _ _)⟩
 by_cases h0:len=0
 ·subst h0;exact⟨[],RC.one (.fslice0 _ _)⟩
 have each: ∀i,i<len-> ∃cs',cs'.length=E.k/\(∀j,j<E.k->W.cell? (a.add (i*E.k+j))=cs'[j]?)/\ ∃y:α,RC W (E.c y) cs':=by
  intro i hi;have h1:=hel i hi;rw[Ya (by omega),aG]at h1;obtain⟨cs',g1,g2⟩:=h1;obtain⟨_,g3,g4⟩:=World.cells?_some g1;rw[hk]at g3 g4;refine⟨cs',g3,λj hj=>?_,h.out g2⟩;have:=g4 j hj;rw[add_add]at this;exact this
 let g:Nat->List Value:=λi=>if hi:i<len then(each i hi).choose else List.replicate E.k undef
 have g1: ∀i,(g i).length=E.k:=by
  intro i;show(dite _ _ _:List Value).length=_;split
  ·rename_i hi;exact(each i hi).choose_spec.1
  simp
 have g2: ∀i,i<len-> ∀j,j<E.k->W.cell? (a.add (i*E.k+j))=(g i)[j]? :=by
  intro i hi;show∀j,j<E.k->_=(dite _ _ _:List Value)[j]?;rw[dif_pos hi];exact(each i hi).choose_spec.2.1
 have g3: ∀i,i<len-> ∃y:α,RC W (E.c y) (g i):=by
  intro i hi;show∃y:α,RC W (E.c y) (dite _ _ _:List Value);rw[dif_pos hi];exact(each i hi).choose_spec.2.2
 obtain⟨l,e1,e2⟩:=qmS (n:=0) (k:=E.k) rfl len g3
 have hcell: ∀(i:Nat) (v:Value),((List.range len).flatMap g)[i]? =some v->W.cell? (a.add i)=some v:=by
  intro i v hv
  have: ∀(m i:Nat) (v:Value),m<=len->((List.range m).flatMap g)[i]? =some v->W.cell? (a.add i)=some v:=by
   intro m
   induction m with
   |zero=>intro i v _ h;simp at h
   |succ m ih=>
    intro i v hm h;rw[eO,List.flatMap_append]at h
    have hl:((List.range m).flatMap g).length=m*E.k:=by
     clear h ih hm
     induction m with
     |zero=>simp
     |succ m ih=>rw[eO,List.flatMap_append,Yq,ih,Nat.add_mul];simp[g1]
    rcases ak i (m*E.k)with hi|hi
    ·rw[Yf (by omega)]at h;exact ih i v (by omega) h
    rw[Yo (by omega),hl]at h
    have h:(g m)[i-m*E.k]? =some v:=by simpa using h
    have hlt:=(Yb.1 h).1;rw[g1]at hlt;have:=g2 m (by omega) (i-m*E.k) hlt;rw[show m*E.k+(i-m*E.k)=i by omega]at this;rw[this,h]
  exact this len i v (ag _) hv
 have hblk:a.block<W.heap.size:=by
  have hp:0<E.k:=E.pos
  have hlt:0<(g 0).length:=by rw[g1];exact hp
  have h1:=g2 0 (by omega) 0 hp;rw[Ya hlt]at h1;have:=World.block_lt_of_cell? _ _ h1
  rwa [add_block]at this
 refine⟨l,RC.one ?_⟩;rw[<-e1];exact .fslice l.length (l.flatMap E.c) a cap ((List.range len).flatMap g) (by omega) hblk e2.1 hcell e2.2
structure ReadsF (P:Program) (fs:List Field) (off:Nat) (E:Enc α):Prop where
 out: ∀{H:Type} {enc:TypeId×Value->H} {W:World} {fuel:Nat} {cs:List Value},cs.length=off+E.k->
  (∀f∈fs,∃x,DataW.trod enc P W 0 (λ_=>true) true fuel f.type ((cs.drop f.offset).take (P.cellsOf f.type))=some x)-> ∃y:α,RC W (E.c y) (cs.drop off)
section
variable {H:Type} {enc:TypeId×Value->H} {W:World} {t:TypeId} {v:Value} {d:DataW H} {p:List MemPlace} {base:Nat}
theorem In.bool (ht:P.underlying t=some .bool) (hval:Value.okWide P W .any base t v): ∃b:Bool,R (AllOf W) (λ_=>none) W (.bool b) v:=by
 obtain⟨b,rfl⟩:=okWide_bool ht hval;exact⟨b,.bool _⟩
theorem In.list {e:TypeId} {E:Enc α} (ht:P.underlying t=some (.slice e)) (hk:P.cellsOf e=E.k) (hE:qcW P e E) (hval:Value.okWide P W .any base t v) (h:DataW.Trod enc P W 0 (λ_=>true) true t v d p): ∃l:List α,R (AllOf W) (λ_=>none) W (vl E l) v:=by
 obtain⟨a,len,cap,rfl⟩:=okWide_slice ht hval;obtain⟨fuel,hf⟩:=h;obtain⟨l,hl⟩:=(qcW.list ht hk hE).out hf;exact⟨l,hl.2 0 _ _ rfl (by simp[Value.cells])⟩
end
theorem qbv {a b:Bool} (h:a=true) (k:b=true):(a&&b)=true:=by rw[h,k];rfl
end
end Go.Av
end
