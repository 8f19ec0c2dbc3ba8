/-
  Plain facts on what the shadows are made of.
-/
import Derived.Test.YtbpkolibdibmeaaGreatAvOpt
import Derived.Test.YtbpkolibdibmeaaGreatAvFk
import Derived.WalkKit
import Derived.ProofKit
import Derived.OpenShut
import Derived.ChangeSlices
import Derived.Carry
import Derived.Deep.DeepHandedRow
import Derived.KernelRfl
set_option linter.unusedSectionVars false
set_option linter.unusedVariables false
set_option linter.unusedSimpArgs false
set_option maxRecDepth 100000
set_option maxRecDepth 1000000
noncomputable section
namespace Go.Av
section
variable {α:Type}
theorem qz {n:Int} (h1: -9223372036854775808<=n) (h2:n<=9223372036854775807):w64 n=n:=by
 show IntKind.wrap .i64 n=n;unfold IntKind.wrap
 have e:(2:Int)^IntKind.i64.bits=18446744073709551616:=by decide
 have e2:(2:Int)^(IntKind.i64.bits-1)=9223372036854775808:=by decide
 have e3:IntKind.i64.signed=true:=by decide
 simp only[e,e2,e3,Bool.true_and,ge_iff_le,decide_eq_true_eq];split<;>omega
theorem qR {k:Nat} (h:k<4611686018427387904):w64 ((k:Int)+1)=((k+1:Nat):Int):=by
 rw[qz (by omega) (by omega)];rfl
theorem qsw {k:Nat} (h:k<4611686018427387904) (h0:0<k):w64 ((k:Int)-1)=((k-1:Nat):Int):=by
 rw[qz (by omega) (by omega)];omega
theorem qw (l:List α) (k:Nat):idx l (k:Int)=l[k]? :=by simp[idx]
theorem qa0 {b:Nat} {l xs:List α} (h:(l.length+xs.length)*b<=140737488355328) (h2:l.length+xs.length<=140737488355328):app b l xs=some (l++xs):=by
 unfold app;rw[if_pos ⟨h,h2⟩]
theorem jX {l:List α} {k:Nat} (h:k<l.length) (x:α):put l (k:Int) x=some (l.set k x):=by
 unfold put;rw[if_pos ⟨by omega,by omega⟩];simp
theorem qfd {l:List α} {k:Nat} (h:k<=l.length):cut l 0 (k:Int)=some (l.take k):=by
 unfold cut;rw[if_pos ⟨by omega,by omega,by omega⟩];simp
theorem qgT {l:List α} {k:Nat} (h:k<=l.length):cut l (k:Int) (l.length:Int)=some (l.drop k):=by
 unfold cut;rw[if_pos ⟨by omega,by omega,by omega⟩];simp only[Int.toNat_natCast,ZI];rw[List.take_of_length_le (by simp)]
end
section
open Go.ChangeShapes Go.WideShapes Go.ChangeAt Go.RowKit
section
variable {H:Type} {enc:TypeId×Value->H} {P:Program}
theorem qjZ (hl:laidOutB P=true) {W W':World} (bel:Below W.heap.size W W'): ∀(ts:List TypeId) (vs:List Value) (ds:List (DataW H)) (ps:List MemPlace),(∀t∈ts,P.readableRec t=true/\t<P.types.size)->(∀x∈ps,x.block<W.heap.size)->
 DataW.TrodAll enc P W 0 (fun _=>true) true ts vs ds ps->DataW.TrodAll enc P W' 0 (fun b=>decide (b<W.heap.size)) true ts vs ds ps:=by
 intro ts
 induction ts with
 |nil=>
  intro vs ds ps _ _ h;obtain⟨rfl,rfl,rfl⟩:=trodAll_nil h;exact trodAll_mk0
 |cons t ts ih=>
  intro vs ds ps hr hp h;obtain⟨v,vs',d,ds',p,q,rfl,rfl,rfl,h1,h2⟩:=trodAll_cons h;have ht:=hr t (by simp);exact trodAll_cons_mk (Below.trod hl ht.1 ht.2 h1 bel fun x hx=>hp x (by simp[hx])) (ih vs' ds' q (fun u hu=>hr u (by simp[hu])) (fun x hx=>hp x (by simp[hx])) h2)
theorem trodAll_length: ∀(ts:List TypeId) {W:World} {b:Nat} {sp:Nat->Bool} {hd:Bool} {vs:List Value} {ds:List (DataW H)} {ps:List MemPlace},DataW.TrodAll enc P W b sp hd ts vs ds ps->ds.length=ts.length:=by
 intro ts
 induction ts with
 |nil=>
  intro W b sp hd vs ds ps h;obtain⟨_,rfl,_⟩:=trodAll_nil h;rfl
 |cons t ts ih=>
  intro W b sp hd vs ds ps h;obtain⟨v,vs',d,ds',p,q,rfl,rfl,rfl,h1,h2⟩:=trodAll_cons h;simp[ih h2]
theorem qsI {fn:Func} {spec:ChangeSpec} {W W':World} {args:Array Value} {ds gs:List (DataW H)} {before:List MemPlace} {tb:TypeId}
 (hl:laidOutB P=true) (hr: ∀t∈fn.params.toList,P.readableRec t=true/\t<P.types.size) (hv:spec.vars=[]) (hres:fn.resultTypes=#[tb]) (hb:P.underlying tb=some .bool)
 (hspec: ∀ds:List (DataW H),ds.length=fn.params.size->(spec.fn H ds).results=[.lit (.bool true)]/\(spec.fn H ds).args=ds/\(spec.fn H ds).vars=[])
 (hW:DataW.Whole enc P fn.params.toList spec.vars false W args.toList ds gs before) (bel:Below W.heap.size W W'):spec.post enc P fn false true false false W args (.bool true) W':=by
 have hW':=hW;have hlt:=hW.lt;obtain⟨p,q,hA,hV,rfl,hfz,hnd⟩:=hW;rw[hv]at hV;obtain⟨rfl,rfl⟩:=trodVars_none hV;obtain⟨e1,e2,e3⟩:=hspec ds (by rw[trodAll_length _ hA];simp);refine⟨ds,[],p++[],[],p,[],hW',?_,?_,?_,bel.frame _,fun h=>by cases h⟩
 ·rw[YQ,e1,hres];exact trodAll_mk1 (shut_bool hb true)
 ·rw[YQ,e2];exact qjZ hl bel _ _ _ _ hr (fun x hx=>hlt x (by simp[hx])) hA
 rw[hv,YQ,e3];rfl
end
section
variable [Glob] {P:Program}
theorem Stp.below {F F':Nat->Prop} {nu':Nat->Option Nat} {A':Heap} {w w':World} (st:Stp F (fun _=>none) [] w F' nu' A' w'):Below w.heap.size w w':=
 ⟨st.os,st.tape,st.output,st.size,fun k hk=>st.keep k hk (by rintro⟨b,x,r,hb,_⟩;cases hb)⟩
def AllOf (W:World):Nat->Prop:=fun rb=>rb<W.heap.size
theorem qpO {H:Type} {enc:TypeId×Value->H} {f:FuncId} {fn:Func} {spec:ChangeSpec} {W:World} {args:Array Value} {al:List AV} {ds gs:List (DataW H)} {before:List MemPlace} {tb:TypeId}
 (hl:laidOutB P=true) (hr: ∀t∈fn.params.toList,P.readableRec t=true/\t<P.types.size) (hv:spec.vars=[]) (hres:fn.resultTypes=#[tb]) (hb:P.underlying tb=some .bool)
 (hspec: ∀ds:List (DataW H),ds.length=fn.params.size->(spec.fn H ds).results=[.lit (.bool true)]/\(spec.fn H ds).args=ds/\(spec.fn H ds).vars=[])
 (hW:DataW.Whole enc P fn.params.toList spec.vars false W args.toList ds gs before)
 (hent:Enters P f) (hok:qc P (.fn f) al [] (.bool true) []) (hg:Glob.G (AllOf W) W) (hR:RL (AllOf W) (fun _=>none) W al args):
 Calls P f args W fun e W'=> ∃v,e= .returned v/\spec.post enc P fn false true false false W args v W':=by
 have i:Inv (AllOf W) (fun _=>none) [] W:=⟨by simp,by simp,fun _ _=>rfl,fun rb h=>h,by simp,hg⟩;refine(hok.calls hent i hR).mono ?_;rintro e W' ⟨x,F',nu',rfl,st,hx⟩;obtain rfl:=hx.bool_inv;exact⟨_,rfl,qsI hl hr hv hres hb hspec hW st.below⟩
end
end
section
open Go.ChangeShapes Go.WideShapes Go.ChangeAt Go.RowKit
variable [Glob] {P:Program} {α β:Type}
def RC (W:World) (as:List AV) (cs:List Value):Prop:=cs.length=as.length/\ ∀(i:Nat) (a:AV) (v:Value),as[i]? =some a->cs[i]? =some v->R (AllOf W) (fun _=>none) W a v
theorem RC.one {W:World} {a:AV} {v:Value} (h:R (AllOf W) (fun _=>none) W a v):RC W [a] [v]:=by
 refine⟨rfl,fun i b u hb hu=>?_⟩
 match i with
 |0=>simp at hb hu;subst hb hu;exact h
 |i+1=>simp at hb
theorem RC.append {W:World} {as bs:List AV} {cs ds:List Value} (h:RC W as cs) (k:RC W bs ds):RC W (as++bs) (cs++ds):=by
 refine⟨by simp[h.1,k.1],fun i a v ha hv=>?_⟩;rcases Nat.lt_or_ge i as.length with hi|hi
 ·rw[Yf hi]at ha;rw[Yf (by rw[h.1];exact hi)]at hv;exact h.2 i a v ha hv
 rw[Yo hi]at ha;rw[Yo (by rw[h.1];exact hi),h.1]at hv;exact k.2 _ a v ha hv
structure qeC (P:Program) (t:TypeId) (E:Enc α):Prop where
 out: ∀{H:Type} {enc:TypeId×Value->H} {W:World} {fuel:Nat} {cs:List Value} {x:DataW H×List MemPlace},DataW.trod enc P W 0 (fun _=>true) true fuel t cs=some x-> ∃y:α,RC W (E.c y) cs
theorem qeC.i64 {t:TypeId} (ht:P.underlying t=some (.int .i64)):qeC P t encI:=by
 constructor;intro H enc W fuel cs x h
 obtain⟨n,rfl,_,_⟩:=DataW.trod_int ht h;exact⟨n,RC.one (.int _ _)⟩
theorem qpA {E:Enc α} {n k:Nat} (hk:E.k=k) {W:World} {g:Nat->List Value}: ∀(m:Nat),(∀i,i<m-> ∃y:α,RC W (E.c y) (g i))-> ∃l:List α,l.length=m/\RC W (l.flatMap E.c) ((List.range m).flatMap g)
 |0,_=>⟨[],rfl,⟨rfl,by simp⟩⟩
 |m+1,h=>by
  obtain⟨l,h1,h2⟩:=qpA (n:=n) hk m (fun i hi=>h i (by omega));obtain⟨y,hy⟩:=h m (by omega);refine⟨l++[y],by simp[h1],?_⟩;rw[List.flatMap_append,List.range_succ,List.flatMap_append];have:=h2.append hy;simpa using this
theorem qeC.list {t e:TypeId} {E:Enc α} (ht:P.underlying t=some (.slice e)) (hk:P.cellsOf e=E.k) (h:qeC P e E):qeC P t (qg E):=by
 constructor;intro H enc W fuel cs x hx
 rcases DataW.trod_slice ht hx with⟨rfl,_⟩|⟨a,len,cap,elems,rest,n,_,rfl,rfl,hb,hl,hm,hlen,hel,hsp,hns⟩
 ·exact⟨[],RC.one (.fslice0 _ _)⟩
 by_cases h0:len=0
 ·subst h0;exact⟨[],RC.one (.fslice0 _ _)⟩
 have each: ∀i,i<len-> ∃cs',cs'.length=E.k/\(∀j,j<E.k->W.cell? (a.add (i*E.k+j))=cs'[j]?)/\ ∃y:α,RC W (E.c y) cs':=by
  intro i hi;have h1:=hel i hi;rw[Ya (by omega),Option.bind_eq_some_iff]at h1;obtain⟨cs',g1,g2⟩:=h1;obtain⟨_,g3,g4⟩:=World.cells?_some g1;rw[hk]at g3 g4;refine⟨cs',g3,fun j hj=>?_,h.out g2⟩;have:=g4 j hj;rw[add_add]at this;exact this
 let g:Nat->List Value:=fun i=>if hi:i<len then(each i hi).choose else List.replicate E.k undef
 have g1: ∀i,(g i).length=E.k:=by
  intro i;show(dite _ _ _:List Value).length=_;split
  ·rename_i hi;exact(each i hi).choose_spec.1
  simp
 have g2: ∀i,i<len-> ∀j,j<E.k->W.cell? (a.add (i*E.k+j))=(g i)[j]? :=by
  intro i hi;show∀j,j<E.k->_=(dite _ _ _:List Value)[j]?;rw[dif_pos hi];exact(each i hi).choose_spec.2.1
 have g3: ∀i,i<len-> ∃y:α,RC W (E.c y) (g i):=by
  intro i hi;show∃y:α,RC W (E.c y) (dite _ _ _:List Value);rw[dif_pos hi];exact(each i hi).choose_spec.2.2
 obtain⟨l,e1,e2⟩:=qpA (n:=0) (k:=E.k) rfl len g3
 have hcell: ∀(i:Nat) (v:Value),((List.range len).flatMap g)[i]? =some v->W.cell? (a.add i)=some v:=by
  intro i v hv
  have: ∀(m i:Nat) (v:Value),m<=len->((List.range m).flatMap g)[i]? =some v->W.cell? (a.add i)=some v:=by
   intro m
   induction m with
   |zero=>intro i v _ h;simp at h
   |succ m ih=>
    intro i v hm h;rw[List.range_succ,List.flatMap_append]at h
    have hl:((List.range m).flatMap g).length=m*E.k:=by
     clear h ih hm
     induction m with
     |zero=>simp
     |succ m ih=>rw[List.range_succ,List.flatMap_append,Yq,ih,Nat.add_mul];simp[g1]
    rcases Nat.lt_or_ge i (m*E.k)with hi|hi
    ·rw[Yf (by omega)]at h;exact ih i v (by omega) h
    rw[Yo (by omega),hl]at h
    have h:(g m)[i-m*E.k]? =some v:=by simpa using h
    have hlt:=(Yb.1 h).1;rw[g1]at hlt;have:=g2 m (by omega) (i-m*E.k) hlt;rw[show m*E.k+(i-m*E.k)=i by omega]at this;rw[this,h]
  exact this len i v (Nat.le_refl _) hv
 have hblk:a.block<W.heap.size:=by
  have hp:0<E.k:=E.pos
  have hlt:0<(g 0).length:=by rw[g1];exact hp
  have h1:=g2 0 (by omega) 0 hp;rw[Ya hlt]at h1;have:=World.block_lt_of_cell? _ _ h1
  rwa [add_block]at this
 refine⟨l,RC.one ?_⟩;rw[<-e1];exact .fslice l.length (l.flatMap E.c) a cap ((List.range len).flatMap g) (by omega) hblk e2.1 hcell e2.2
structure ReadsF (P:Program) (fs:List Field) (off:Nat) (E:Enc α):Prop where
 out: ∀{H:Type} {enc:TypeId×Value->H} {W:World} {fuel:Nat} {cs:List Value},cs.length=off+E.k->
  (∀f∈fs,∃x,DataW.trod enc P W 0 (fun _=>true) true fuel f.type ((cs.drop f.offset).take (P.cellsOf f.type))=some x)-> ∃y:α,RC W (E.c y) (cs.drop off)
section
variable {H:Type} {enc:TypeId×Value->H} {W:World} {t:TypeId} {v:Value} {d:DataW H} {p:List MemPlace} {base:Nat}
theorem In.i64 (ht:P.underlying t=some (.int .i64)) (hval:Value.okWide P W .any base t v): ∃n:Int,R (AllOf W) (fun _=>none) W (.int .i64 n) v:=by
 obtain⟨n,rfl⟩:=okWide_int ht hval;exact⟨n,.int _ _⟩
theorem In.bool (ht:P.underlying t=some .bool) (hval:Value.okWide P W .any base t v): ∃b:Bool,R (AllOf W) (fun _=>none) W (.bool b) v:=by
 obtain⟨b,rfl⟩:=okWide_bool ht hval;exact⟨b,.bool _⟩
theorem In.list {e:TypeId} {E:Enc α} (ht:P.underlying t=some (.slice e)) (hk:P.cellsOf e=E.k) (hE:qeC P e E) (hval:Value.okWide P W .any base t v) (h:DataW.Trod enc P W 0 (fun _=>true) true t v d p): ∃l:List α,R (AllOf W) (fun _=>none) W (vl E l) v:=by
 obtain⟨a,len,cap,rfl⟩:=okWide_slice ht hval;obtain⟨fuel,hf⟩:=h;obtain⟨l,hl⟩:=(qeC.list ht hk hE).out hf;exact⟨l,hl.2 0 _ _ rfl (by simp[Value.cells])⟩
end
theorem qbG {a b:Bool} (h:a=true) (k:b=true):(a&&b)=true:=by rw[h,k];rfl
end
inductive L6|a|A|b|B|c|C
abbrev W6:=List L6
def ng6 (x:L6):L6:=L6.rec .A .a .B .b .C .c x
def sc_1 {R:Type} (p:R) (h:W6->W6->R) (s m:W6):R:=List.rec (motive:=fun _=>W6->R) (fun _=>p) (fun z s i m=>L6.rec (motive:=fun _=>R) p (h s m) (i (z::m)) (i (z::m)) (i (z::m)) (i (z::m)) z) s m
def sc_2 {R:Type} (p:R) (h:W6->W6->R) (s m:W6):R:=List.rec (motive:=fun _=>W6->R) (fun _=>p) (fun z s i m=>L6.rec (motive:=fun _=>R) (h s m) p (i (z::m)) (i (z::m)) (i (z::m)) (i (z::m)) z) s m
def sc_3 {R:Type} (p:R) (h:W6->W6->R) (s m:W6):R:=List.rec (motive:=fun _=>W6->R) (fun _=>p) (fun z s i m=>L6.rec (motive:=fun _=>R) p p p (h s m) (i (z::m)) (i (z::m)) z) s m
def sc_4 {R:Type} (p:R) (h:W6->W6->R) (s m:W6):R:=List.rec (motive:=fun _=>W6->R) (fun _=>p) (fun z s i m=>L6.rec (motive:=fun _=>R) p p (h s m) p (i (z::m)) (i (z::m)) z) s m
def sc_5 {R:Type} (p:R) (h:W6->W6->R) (s m:W6):R:=List.rec (motive:=fun _=>W6->R) (fun _=>p) (fun z s i m=>L6.rec (motive:=fun _=>R) (i (z::m)) (i (z::m)) p p p (h s m) z) s m
def sc_6 {R:Type} (p:R) (h:W6->W6->R) (s m:W6):R:=List.rec (motive:=fun _=>W6->R) (fun _=>p) (fun z s i m=>L6.rec (motive:=fun _=>R) (i (z::m)) (i (z::m)) p p (h s m) p z) s m
def scn {R:Type} (y:L6) (p:R) (h:W6->W6->R) (s:W6):R:=L6.rec (motive:=fun _=>R) (sc_1 p h s []) (sc_2 p h s []) (sc_3 p h s []) (sc_4 p h s []) (sc_5 p h s []) (sc_6 p h s []) y
def ga_1 (m r:W6):W6:=List.rec (motive:=fun _=>W6) r (fun z _ i=>L6.rec (motive:=fun _=>W6) (.a::i) (.A::i) (.B:: .a:: .b::i) (.B:: .A:: .b::i) (.c::i) (.C::i) z) m
def ga_2 (m r:W6):W6:=List.rec (motive:=fun _=>W6) r (fun z _ i=>L6.rec (motive:=fun _=>W6) (.a::i) (.A::i) (.b:: .a:: .B::i) (.b:: .A:: .B::i) (.c::i) (.C::i) z) m
def ga_3 (m r:W6):W6:=List.rec (motive:=fun _=>W6) r (fun z _ i=>L6.rec (motive:=fun _=>W6) (.a::i) (.A::i) (.b::i) (.B::i) (.C:: .b:: .c::i) (.C:: .B:: .c::i) z) m
def ga_4 (m r:W6):W6:=List.rec (motive:=fun _=>W6) r (fun z _ i=>L6.rec (motive:=fun _=>W6) (.a::i) (.A::i) (.b::i) (.B::i) (.c:: .b:: .C::i) (.c:: .B:: .C::i) z) m
def ga_5 (m r:W6):W6:=List.rec (motive:=fun _=>W6) r (fun z _ i=>L6.rec (motive:=fun _=>W6) (.a::i) (.A::i) (.b::i) (.B::i) (.c::i) (.C::i) z) m
def ga_6 (m r:W6):W6:=List.rec (motive:=fun _=>W6) r (fun z _ i=>L6.rec (motive:=fun _=>W6) (.a::i) (.A::i) (.b::i) (.B::i) (.c::i) (.C::i) z) m
def gap (y:L6) (m r:W6):W6:=L6.rec (motive:=fun _=>W6) (ga_2 m r) (ga_1 m r) (ga_4 m r) (ga_3 m r) (ga_6 m r) (ga_5 m r) y
def hrn (K:Nat):W6->W6->(W6->Bool)->Bool:=Nat.rec (fun _ _ _=>false) (fun _ i s r k=>List.rec (motive:=fun _=>Bool) (k s) (fun y r _=>scn y (i (y::s) r k) (fun s m=>i s (gap y m r) k) s) r) K
inductive Trw|e|n (o:Bool) (a A b B c C:Trw)
def ti0 (t:Trw) (q:Bool) (k:Trw->Bool):Bool:=Trw.rec (motive:=fun _=>Bool) (k (.n true .e .e .e .e .e .e)) (fun o a A b B c C _ _ _ _ _ _=>Bool.rec (motive:=fun _=>Bool) (k (.n true a A b B c C)) q o) t
def tie (z:L6) (i:Trw->Bool->(Trw->Bool)->Bool) (q:Bool) (k:Trw->Bool):Bool:=L6.rec (motive:=fun _=>Bool) (i .e q (fun t=>k (.n false t .e .e .e .e .e))) (i .e q (fun t=>k (.n false .e t .e .e .e .e))) (i .e q (fun t=>k (.n false .e .e t .e .e .e))) (i .e q (fun t=>k (.n false .e .e .e t .e .e))) (i .e q (fun t=>k (.n false .e .e .e .e t .e))) (i .e q (fun t=>k (.n false .e .e .e .e .e t))) z
def tin (z:L6) (i:Trw->Bool->(Trw->Bool)->Bool) (q:Bool) (k:Trw->Bool) (o:Bool) (a A b B c C:Trw):Bool:=L6.rec (motive:=fun _=>Bool) (i a q (fun t=>k (.n o t A b B c C))) (i A q (fun t=>k (.n o a t b B c C))) (i b q (fun t=>k (.n o a A t B c C))) (i B q (fun t=>k (.n o a A b t c C))) (i c q (fun t=>k (.n o a A b B t C))) (i C q (fun t=>k (.n o a A b B c t))) z
def tis (w:W6):Trw->Bool->(Trw->Bool)->Bool:=List.rec (motive:=fun _=>Trw->Bool->(Trw->Bool)->Bool) ti0 (fun z _ i t q k=>Trw.rec (motive:=fun _=>Bool) (tie z i q k) (fun o a A b B c C _ _ _ _ _ _=>tin z i q k o a A b B c C) t) w
def rvc (w:W6):W6->(W6->Bool)->Bool:=List.rec (motive:=fun _=>W6->(W6->Bool)->Bool) (fun r k=>k r) (fun z _ i r k=>i (z::r) k) w
def wds (x:L6) (l:List W6):Trw->List W6->(Trw->List W6->Bool)->Bool:=List.rec (motive:=fun _=>Trw->List W6->(Trw->List W6->Bool)->Bool) (fun t a k=>k t a)
 (fun w _ i t a k=>hrn 80 w [x] fun v=>rvc v [] fun r=>tis r t (i t a k) fun t=>i t (v::a) k) l
def fc {R:Type} (v:Nat) (f:Nat->R):R:=Nat.rec (motive:=fun _=>R) (f 0) (fun k _=>f (Nat.succ k)) v
inductive Tbw|e|n (l r:Tbw) (k:Nat) (ws:List W6)
def tbf {R:Type} (k:Nat) (no:R) (yes:List W6->R) (t:Tbw):Nat->R:=Tbw.rec (motive:=fun _=>Nat->R) (fun _=>no)
 (fun _ _ j ws il ir h=>Bool.rec (motive:=fun _=>R) (Nat.rec (motive:=fun _=>R) (fc (Nat.shiftRight h 1) il) (fun _ _=>fc (Nat.shiftRight h 1) ir) (Nat.land h 1)) (yes ws) (Nat.beq k j)) t
def tbi (k:Nat) (t:Tbw):Nat->(Tbw->Bool)->Bool:=Tbw.rec (motive:=fun _=>Nat->(Tbw->Bool)->Bool) (fun _ q=>q (.n .e .e k []))
 (fun l r j ws il ir h q=>Bool.rec (motive:=fun _=>Bool) (Nat.rec (motive:=fun _=>Bool) (fc (Nat.shiftRight h 1) fun h=>il h fun l=>q (.n l r j ws)) (fun _ _=>fc (Nat.shiftRight h 1) fun h=>ir h fun r=>q (.n l r j ws)) (Nat.land h 1)) (q (.n l r j ws)) (Nat.beq k j)) t
def ku (a b:Nat):Nat:=Nat.mod (Nat.add (Nat.mul 2 b) (Nat.sub 10007 a)) 10007
def kv (a b:Nat):Nat:=Nat.mod (Nat.mul 5004 (Nat.add a b)) 10007
def kp (a b c d:Nat):Nat:=Nat.add (Nat.mul (Nat.add (Nat.mul (Nat.add (Nat.mul a 10007) b) 10007) c) 10007) d
def kd {R:Type} (k:Nat) (f:Nat->Nat->Nat->Nat->R):R:=
 fc (Nat.mod k 10007) fun d=>fc (Nat.div k 10007) fun k=>fc (Nat.mod k 10007) fun c=>fc (Nat.div k 10007) fun k=>fc (Nat.mod k 10007) fun b=>fc (Nat.div k 10007) fun a=>f a b c d
def kst {R:Type} (x:L6) (a b c d:Nat) (f:Nat->R):R:=L6.rec (motive:=fun _=>R)
 (fc (kp (ku a b) a c d) f) (fc (kp b (kv a b) c d) f) (fc (kp a (ku b c) b d) f) (fc (kp a c (kv b c) d) f) (fc (kp a b (ku c d) c) f) (fc (kp a b d (kv c d)) f) x
def k6 (i:L6->(Tbw->Bool)->Tbw->Bool) (t:Tbw) (q:Tbw->Bool):Bool:=i .a (i .A (i .b (i .B (i .c (i .C q))))) t
def nks (t:Tbw):Tbw->(Tbw->Bool)->Bool:=Tbw.rec (motive:=fun _=>Tbw->(Tbw->Bool)->Bool) (fun o q=>q o)
 (fun _ _ k _ il ir o q=>il o fun o=>ir o fun o=>kd k fun a b c d=>k6 (fun x q o=>kst x a b c d fun j=>tbi j o j q) o q) t
def gsx6 (i:L6->(Trw->List W6->Bool)->Trw->List W6->Bool) (q:Trw->List W6->Bool):Bool:=i .a (i .A (i .b (i .B (i .c (i .C q))))) .e []
def pul (src t:Tbw):(Tbw->Bool)->Bool:=Tbw.rec (motive:=fun _=>(Tbw->Bool)->Bool) (fun q=>q .e)
 (fun _ _ k _ il ir q=>il fun l=>ir fun r=>kd k fun a b c d=>gsx6 (fun x q t ws=>kst (ng6 x) a b c d fun j=>tbf j (q t ws) (fun l=>wds x l t ws q) src j) fun _ ws=>q (.n l r k ws)) t
def nol (l:List W6) (q:Bool):Bool:=List.rec (motive:=fun _=>Bool) q (fun w _ i=>List.rec (motive:=fun _=>Bool) i (fun _ _ _=>false) w) l
def noth (t:Tbw):Bool->Bool:=Tbw.rec (motive:=fun _=>Bool->Bool) (fun q=>q) (fun _ _ _ ws il ir q=>nol ws (il (ir q))) t
def apt (u t:Tbw):Bool->Bool:=Tbw.rec (motive:=fun _=>Bool->Bool) (fun q=>q) (fun _ _ k _ il ir q=>tbf k (il (ir q)) (fun _=>false) u k) t
def tb0:Tbw:= .n .e .e 1005110682313 [[]]
def hral:Bool:=
 (fun t0:Tbw=>nks t0 .e fun u=>pul t0 u fun t1=>
 nks t1 .e fun u=>pul t1 u fun t2=>
 nks t2 .e fun u=>pul t2 u fun t3=>
 nks t3 .e fun u=>pul t3 u fun t4=>
 nks t4 .e fun u=>pul t4 u fun t5=>
 nks t5 .e fun u=>pul t5 u fun t6=>
 nks t6 .e fun u=>pul t6 u fun t7=>
 pul t7 t6 fun t8=>
 pul t8 t5 fun t9=>
 pul t9 t4 fun t10=>
 pul t10 t3 fun t11=>
 pul t11 t2 fun t12=>
 pul t12 t1 fun t13=>
 pul t13 t0 fun t14=>
 noth t14 (apt t7 t6 true)) tb0
def i6 (x:L6):Int:=match x with
 | .a=>1
 | .A=> -1
 | .b=>2
 | .B=> -2
 | .c=>3
 | .C=> -3
def scI (y:Int):List Int->List Int->Option (List Int×List Int)
 |[],_=>none
 |z::s,m=>if z= -y then some (s,m)else if z.natAbs=y.natAbs\/z.natAbs+1=y.natAbs then none else scI y s (z::m)
def qbD (x z:Int):List Int:=if z.natAbs=x.natAbs+1 then(if 0<x*z then[-z,x,z]else[z,-x,-z])else[z]
def qdA (y:Int) (m r:List Int):List Int:=m.flatMap (qbD (-y))++r
def hrI:Nat->List Int->List Int->Option (List Int)
 |0,_,_=>none
 |_+1,s,[]=>some s
 |K+1,s,y::r=>match scI y s []with
  |none=>hrI K (y::s) r
  |some (s',m)=>hrI K s' (qdA y m r)
def qnQ {R:Type} (y:Int) (p:R) (h:W6->W6->R) (s m:W6) (v:R):Prop:=
 (scI y (s.map i6) (m.map i6)=none/\v=p)\/ ∃s' m',scI y (s.map i6) (m.map i6)=some (s'.map i6,m'.map i6)/\v=h s' m'
section
variable {R:Type} (p:R) (h:W6->W6->R)
theorem qti: ∀s m:W6,qnQ 1 p h s m (sc_1 p h s m)
 |[],m=> .inl ⟨rfl,rfl⟩
 |z::s,m=>by cases z<;>first|exact .inl ⟨rfl,rfl⟩|exact .inr ⟨s,m,rfl,rfl⟩|exact qti s (_::m)
theorem qtd: ∀s m:W6,qnQ (-1) p h s m (sc_2 p h s m)
 |[],m=> .inl ⟨rfl,rfl⟩
 |z::s,m=>by cases z<;>first|exact .inl ⟨rfl,rfl⟩|exact .inr ⟨s,m,rfl,rfl⟩|exact qtd s (_::m)
theorem qqL: ∀s m:W6,qnQ 2 p h s m (sc_3 p h s m)
 |[],m=> .inl ⟨rfl,rfl⟩
 |z::s,m=>by cases z<;>first|exact .inl ⟨rfl,rfl⟩|exact .inr ⟨s,m,rfl,rfl⟩|exact qqL s (_::m)
theorem qse: ∀s m:W6,qnQ (-2) p h s m (sc_4 p h s m)
 |[],m=> .inl ⟨rfl,rfl⟩
 |z::s,m=>by cases z<;>first|exact .inl ⟨rfl,rfl⟩|exact .inr ⟨s,m,rfl,rfl⟩|exact qse s (_::m)
theorem qq2: ∀s m:W6,qnQ 3 p h s m (sc_5 p h s m)
 |[],m=> .inl ⟨rfl,rfl⟩
 |z::s,m=>by cases z<;>first|exact .inl ⟨rfl,rfl⟩|exact .inr ⟨s,m,rfl,rfl⟩|exact qq2 s (_::m)
theorem qsW: ∀s m:W6,qnQ (-3) p h s m (sc_6 p h s m)
 |[],m=> .inl ⟨rfl,rfl⟩
 |z::s,m=>by cases z<;>first|exact .inl ⟨rfl,rfl⟩|exact .inr ⟨s,m,rfl,rfl⟩|exact qsW s (_::m)
theorem qv4 (y:L6) (s:W6):qnQ (i6 y) p h s [] (scn y p h s):=by
 cases y
 ·exact qti p h s []
 ·exact qtd p h s []
 ·exact qqL p h s []
 ·exact qse p h s []
 ·exact qq2 p h s []
 exact qsW p h s []
end
theorem qrn (y:L6) (r:W6): ∀m:W6,(gap y m r).map i6=qdA (i6 y) (m.map i6) (r.map i6)
 |[]=>by cases y<;>rfl
 |z::m=>by
  have ih:=qrn y r m
  have e:qdA (i6 y) ((z::m).map i6) (r.map i6)=qbD (-(i6 y)) (i6 z)++qdA (i6 y) (m.map i6) (r.map i6):=by
   simp[qdA]
  rw[e,<-ih];cases y<;>cases z<;>rfl
theorem qnr: ∀(K:Nat) (s r:W6) (k:W6->Bool),hrn K s r k=true-> ∃v,hrI K (s.map i6) (r.map i6)=some (v.map i6)/\k v=true
 |0,s,r,k,h=>by cases h
 |K+1,s,[],k,h=>⟨s,rfl,h⟩
 |K+1,s,y::r,k,h=>by
  have h:scn y (hrn K (y::s) r k) (fun s m=>hrn K s (gap y m r) k) s=true:=h;rcases qv4 (hrn K (y::s) r k) (fun s m=>hrn K s (gap y m r) k) y s with⟨e,v⟩|⟨s',m,e,v⟩
  ·rw[v]at h;obtain⟨u,u1,u2⟩:=qnr K _ _ _ h;refine⟨u,?_,u2⟩;have e:scI (i6 y) (s.map i6) []=none:=e;rw[List.map_cons,hrI,e];exact u1
  rw[v]at h;obtain⟨u,u1,u2⟩:=qnr K _ _ _ h;refine⟨u,?_,u2⟩;have e:scI (i6 y) (s.map i6) []=some (s'.map i6,m.map i6):=e;rw[List.map_cons,hrI,e];rw[qrn]at u1;exact u1
theorem qli: ∀(K J:Nat) (s r v r':List Int) (u:List Int),hrI K s r=some v->hrI J v r'=some u->hrI (K+J) s (r++r')=some u
 |0,J,s,r,v,r',u,h,k=>by cases h
 |K+1,J,s,[],v,r',u,h,k=>by
  obtain rfl:=Ye h
  have mono: ∀(J D:Nat) (s r u:List Int),hrI J s r=some u->hrI (J+D) s r=some u:=by
   intro J
   induction J with
   |zero=>intro D s r u h;cases h
   |succ J ih=>
    intro D s r u h;rw[Nat.succ_add]
    cases r with
    |nil=>exact h
    |cons y r=>
     unfold hrI at h⊢
     cases e:scI y s []with
     |none=>rw[e]at h;exact ih D _ _ _ h
     |some q=>rw[e]at h;exact ih D _ _ _ h
  rw[List.nil_append,Nat.add_comm];exact mono J _ _ _ _ k
 |K+1,J,s,y::r,v,r',u,h,k=>by
  rw[Nat.succ_add,List.cons_append];unfold hrI at h⊢
  cases e:scI y s []with
  |none=>rw[e]at h;exact qli K J _ _ _ _ _ h k
  |some q=>
   rw[e]at h;have:=qli K J _ _ _ _ _ h k;dsimp only;unfold qdA at this⊢
   rwa [Yz]at this
theorem qtg: ∀(w r:W6) (k:W6->Bool),rvc w r k=k (w.reverse++r)
 |[],r,k=>rfl
 |z::w,r,k=>by
  have:rvc (z::w) r k=rvc w (z::r) k:=rfl;rw[this,qtg w,List.reverse_cons,Yz];rfl
def lok:W6->Trw->Bool
 |_,.e=>false
 |[],.n o _ _ _ _ _ _=>o
 | .a::w,.n _ a _ _ _ _ _=>lok w a
 | .A::w,.n _ _ A _ _ _ _=>lok w A
 | .b::w,.n _ _ _ b _ _ _=>lok w b
 | .B::w,.n _ _ _ _ B _ _=>lok w B
 | .c::w,.n _ _ _ _ _ c _=>lok w c
 | .C::w,.n _ _ _ _ _ _ C=>lok w C
theorem qgb (w:W6):lok w .e=false:=by cases w<;>rfl
theorem qoi: ∀(w:W6) (t:Trw) (q:Bool) (k:Trw->Bool),tis w t q k=true->(q=true/\lok w t=true)\/ ∃t',k t'=true/\ ∀w',lok w' t'=true->w'=w\/lok w' t=true
 |[],.e,q,k,h=> .inr ⟨_,h,fun w' hw=>by
  cases w' with
  |nil=>exact .inl rfl
  |cons z w'=>cases z<;>exact absurd hw (by rw[show∀t,lok (_::w') t=lok (_::w') t from fun _=>rfl];simp[lok,qgb])⟩
 |[],.n o a A b B c C,q,k,h=>by
  cases o with
  |true=>exact .inl ⟨h,rfl⟩
  |false=>exact .inr ⟨_,h,fun w' hw=>by
   cases w' with
   |nil=>exact .inl rfl
   |cons z w'=>exact .inr (by cases z<;>exact hw)⟩
 |z::w,.e,q,k,h=>by
  have go: ∀(f:Trw->Trw),tis w .e q (fun t=>k (f t))=true->(∀t w',lok w' (f t)=true-> ∃w'',w'=z::w''/\lok w'' t=true)->(q=true/\lok (z::w) .e=true)\/ ∃t',k t'=true/\ ∀w',lok w' t'=true->w'=z::w\/lok w' .e=true:=by
   intro f hf g;rcases qoi w .e q _ hf with⟨_,h2⟩|⟨t',h1,h2⟩
   ·rw[qgb]at h2;cases h2
   refine .inr ⟨_,h1,fun w' hw=>?_⟩;obtain⟨w'',rfl,e⟩:=g _ _ hw;rcases h2 _ e with rfl|e
   ·exact .inl rfl
   rw[qgb]at e;cases e
  have one: ∀(f:Trw->Trw),(∀t,lok [] (f t)=false)->(∀t (y:L6) w',lok (y::w') (f t)=true->y=z/\lok w' t=true)-> ∀t w',lok w' (f t)=true-> ∃w'',w'=z::w''/\lok w'' t=true:=by
   intro f f0 f1 t w' hw
   cases w' with
   |nil=>rw[f0]at hw;cases hw
   |cons y w'=>
    obtain⟨rfl,e⟩:=f1 t y w' hw;exact⟨w',rfl,e⟩
  cases z
  ·exact go (fun t=> .n false t .e .e .e .e .e) h (one _ (fun _=>rfl) fun t y w' hw=>by cases y<;>first|exact⟨rfl,hw⟩|exact absurd ((qgb w').symm.trans hw) (by decide))
  ·exact go (fun t=> .n false .e t .e .e .e .e) h (one _ (fun _=>rfl) fun t y w' hw=>by cases y<;>first|exact⟨rfl,hw⟩|exact absurd ((qgb w').symm.trans hw) (by decide))
  ·exact go (fun t=> .n false .e .e t .e .e .e) h (one _ (fun _=>rfl) fun t y w' hw=>by cases y<;>first|exact⟨rfl,hw⟩|exact absurd ((qgb w').symm.trans hw) (by decide))
  ·exact go (fun t=> .n false .e .e .e t .e .e) h (one _ (fun _=>rfl) fun t y w' hw=>by cases y<;>first|exact⟨rfl,hw⟩|exact absurd ((qgb w').symm.trans hw) (by decide))
  ·exact go (fun t=> .n false .e .e .e .e t .e) h (one _ (fun _=>rfl) fun t y w' hw=>by cases y<;>first|exact⟨rfl,hw⟩|exact absurd ((qgb w').symm.trans hw) (by decide))
  exact go (fun t=> .n false .e .e .e .e .e t) h (one _ (fun _=>rfl) fun t y w' hw=>by cases y<;>first|exact⟨rfl,hw⟩|exact absurd ((qgb w').symm.trans hw) (by decide))
 |z::w,.n o a A b B c C,q,k,h=>by
  have go: ∀(u:Trw) (f:Trw->Trw),tis w u q (fun t=>k (f t))=true->(lok (z::w) (.n o a A b B c C)=lok w u)->(∀t w',lok w' (f t)=true->(∃w'',w'=z::w''/\lok w'' t=true)\/lok w' (.n o a A b B c C)=true)->(∀w'',lok (z::w'') (.n o a A b B c C)=lok w'' u)->
   (q=true/\lok (z::w) (.n o a A b B c C)=true)\/ ∃t',k t'=true/\ ∀w',lok w' t'=true->w'=z::w\/lok w' (.n o a A b B c C)=true:=by
   intro u f hf e g g2;rcases qoi w u q _ hf with⟨h1,h2⟩|⟨t',h1,h2⟩
   ·exact .inl ⟨h1,e.trans h2⟩
   refine .inr ⟨_,h1,fun w' hw=>?_⟩;rcases g _ _ hw with⟨w'',rfl,e⟩|e
   ·rcases h2 _ e with rfl|e
    ·exact .inl rfl
    exact .inr ((g2 w'').trans e)
   exact .inr e
  cases z
  ·exact go a (fun t=> .n o t A b B c C) h rfl (fun t w' hw=>by cases w' with|nil=>exact .inr hw|cons y w'=>cases y<;>first|exact .inl ⟨w',rfl,hw⟩|exact .inr hw) fun _=>rfl
  ·exact go A (fun t=> .n o a t b B c C) h rfl (fun t w' hw=>by cases w' with|nil=>exact .inr hw|cons y w'=>cases y<;>first|exact .inl ⟨w',rfl,hw⟩|exact .inr hw) fun _=>rfl
  ·exact go b (fun t=> .n o a A t B c C) h rfl (fun t w' hw=>by cases w' with|nil=>exact .inr hw|cons y w'=>cases y<;>first|exact .inl ⟨w',rfl,hw⟩|exact .inr hw) fun _=>rfl
  ·exact go B (fun t=> .n o a A b t c C) h rfl (fun t w' hw=>by cases w' with|nil=>exact .inr hw|cons y w'=>cases y<;>first|exact .inl ⟨w',rfl,hw⟩|exact .inr hw) fun _=>rfl
  ·exact go c (fun t=> .n o a A b B t C) h rfl (fun t w' hw=>by cases w' with|nil=>exact .inr hw|cons y w'=>cases y<;>first|exact .inl ⟨w',rfl,hw⟩|exact .inr hw) fun _=>rfl
  exact go C (fun t=> .n o a A b B c t) h rfl (fun t w' hw=>by cases w' with|nil=>exact .inr hw|cons y w'=>cases y<;>first|exact .inl ⟨w',rfl,hw⟩|exact .inr hw) fun _=>rfl
def GI (t:Trw) (a:List W6):Prop:= ∀w,lok w t=true->w.reverse∈a
def To (x:L6) (w:W6) (a:List W6):Prop:= ∃v,hrI 80 (w.map i6) [i6 x]=some (v.map i6)/\v∈a
theorem qnY (x:L6): ∀(l:List W6) (t:Trw) (a:List W6) (k:Trw->List W6->Bool),GI t a->wds x l t a k=true-> ∃t' a',k t' a'=true/\GI t' a'/\(∀v∈a,v∈a')/\ ∀w∈l,To x w a'
 |[],t,a,k,g,h=>⟨t,a,h,g,fun _ h=>h,fun w hw=>by cases hw⟩
 |w::l,t,a,k,g,h=>by
  have h:hrn 80 w [x] (fun v=>rvc v [] fun r=>tis r t (wds x l t a k) fun t=>wds x l t (v::a) k)=true:=h;obtain⟨v,v1,v2⟩:=qnr 80 w [x] _ h;rw[qtg,YQ]at v2;rcases qoi _ _ _ _ v2 with⟨h1,h2⟩|⟨t2,h1,h2⟩
  ·obtain⟨t',a',k1,k2,k3,k4⟩:=qnY x l t a k g h1;refine⟨t',a',k1,k2,k3,fun u hu=>?_⟩;rcases List.mem_cons.1 hu with rfl|hu
   ·have:=g _ h2;rw[List.reverse_reverse]at this;exact⟨v,v1,k3 _ this⟩
   exact k4 u hu
  have g2:GI t2 (v::a):=fun u hu=>by
   rcases h2 u hu with rfl|hu
   ·rw[List.reverse_reverse];exact List.mem_cons_self ..
   exact List.mem_cons_of_mem _ (g u hu)
  obtain⟨t',a',k1,k2,k3,k4⟩:=qnY x l t2 (v::a) k g2 h1;refine⟨t',a',k1,k2,fun u hu=>k3 u (List.mem_cons_of_mem _ hu),fun u hu=>?_⟩;rcases List.mem_cons.1 hu with rfl|hu
  ·exact⟨v,v1,k3 v (List.mem_cons_self ..)⟩
  exact k4 u hu
theorem qfX {R:Type} (v:Nat) (f:Nat->R):fc v f=f v:=by cases v<;>rfl
def tbF (k:Nat) (t:Tbw) (h:Nat):Option (List W6):=tbf k none some t h
theorem qgv (k:Nat) (l r:Tbw) (j:Nat) (ws:List W6) (h:Nat):tbF k (.n l r j ws) h=match Nat.beq k j with
 |true=>some ws
 |false=>match Nat.land h 1 with
  |0=>tbF k l (Nat.shiftRight h 1)
  |_+1=>tbF k r (Nat.shiftRight h 1):=by
 show Bool.rec (motive:=fun _=>Option (List W6)) _ _ (Nat.beq k j)=_
 cases Nat.beq k j with
 |true=>rfl
 |false=>
  show Nat.rec (motive:=fun _=>Option (List W6)) _ _ (Nat.land h 1)=_
  cases Nat.land h 1 with
  |zero=>exact qfX _ _
  |succ q=>exact qfX _ _
theorem qjq {R:Type} (k:Nat) (no:R) (yes:List W6->R): ∀(t:Tbw) (h:Nat),tbf k no yes t h=(match tbF k t h with
 |none=>no
 |some ws=>yes ws)
 | .e,h=>rfl
 | .n l r j ws,h=>by
   rw[qgv];show Bool.rec (motive:=fun _=>R) (Nat.rec (motive:=fun _=>R) (fc (Nat.shiftRight h 1) (tbf k no yes l)) (fun _ _=>fc (Nat.shiftRight h 1) (tbf k no yes r)) (Nat.land h 1)) (yes ws) (Nat.beq k j)=_
   cases Nat.beq k j with
   |true=>rfl
   |false=>
    cases Nat.land h 1 with
    |zero=>exact(qfX _ _).trans (qjq k no yes l _)
    |succ q=>exact(qfX _ _).trans (qjq k no yes r _)
def Has (k:Nat) (t:Tbw) (h:Nat):Prop:= ∃ws,tbF k t h=some ws
theorem qnV (k:Nat): ∀(t:Tbw) (h:Nat) (q:Tbw->Bool),tbi k t h q=true-> ∃t',q t'=true/\Has k t' h/\ ∀k' h',Has k' t h'->Has k' t' h'
 | .e,h,q,e=>⟨.n .e .e k [],e,⟨[],by rw[qgv,Nat.beq_refl]⟩,fun k' h' ⟨ws,e⟩=>by cases e⟩
 | .n l r j ws,h,q,e=>by
   have e:Bool.rec (motive:=fun _=>Bool) (Nat.rec (motive:=fun _=>Bool) (fc (Nat.shiftRight h 1) fun h=>tbi k l h fun l=>q (.n l r j ws)) (fun _ _=>fc (Nat.shiftRight h 1) fun h=>tbi k r h fun r=>q (.n l r j ws)) (Nat.land h 1)) (q (.n l r j ws)) (Nat.beq k j)=true:=e
   cases c:Nat.beq k j with
   |true=>
    rw[c]at e;exact⟨_,e,⟨ws,by rw[qgv,c]⟩,fun _ _ h=>h⟩
   |false=>
    rw[c]at e
    cases d:Nat.land h 1 with
    |zero=>
     rw[d]at e;have e:tbi k l (Nat.shiftRight h 1) (fun l=>q (.n l r j ws))=true:=(qfX _ _).symm.trans e;obtain⟨t',h1,⟨w1,h2⟩,h3⟩:=qnV k l _ _ e;refine⟨_,h1,⟨w1,by rw[qgv,c,d];exact h2⟩,fun k' h' ⟨w,hw⟩=>?_⟩;unfold Has;rw[qgv]at hw⊢
     cases c':Nat.beq k' j with
     |true=>rw[c']at hw;exact⟨w,hw⟩
     |false=>
      rw[c']at hw
      cases d':Nat.land h' 1 with
      |zero=>rw[d']at hw;exact h3 _ _ ⟨w,hw⟩
      |succ z=>rw[d']at hw;exact⟨w,hw⟩
    |succ z=>
     rw[d]at e;have e:tbi k r (Nat.shiftRight h 1) (fun r=>q (.n l r j ws))=true:=(qfX _ _).symm.trans e;obtain⟨t',h1,⟨w1,h2⟩,h3⟩:=qnV k r _ _ e;refine⟨_,h1,⟨w1,by rw[qgv,c,d];exact h2⟩,fun k' h' ⟨w,hw⟩=>?_⟩;unfold Has;rw[qgv]at hw⊢
     cases c':Nat.beq k' j with
     |true=>rw[c']at hw;exact⟨w,hw⟩
     |false=>
      rw[c']at hw
      cases d':Nat.land h' 1 with
      |zero=>rw[d']at hw;exact⟨w,hw⟩
      |succ z=>rw[d']at hw;exact h3 _ _ ⟨w,hw⟩
def qqd (k:Nat) (ws:List W6):Tbw->Prop
 | .e=>False
 | .n l r j w=>(k=j/\ws=w)\/qqd k ws l\/qqd k ws r
theorem qgE {k:Nat} {ws:List W6}: ∀{t:Tbw} {h:Nat},tbF k t h=some ws->qqd k ws t
 | .e,h,e=>by cases e
 | .n l r j w,h,e=>by
   rw[qgv]at e
   cases c:Nat.beq k j with
   |true=>rw[c]at e;exact .inl ⟨Nat.eq_of_beq_eq_true c,(Ye e).symm⟩
   |false=>
    rw[c]at e
    cases d:Nat.land h 1 with
    |zero=>rw[d]at e;exact .inr (.inl (qgE e))
    |succ z=>rw[d]at e;exact .inr (.inr (qgE e))
def kSt (x:L6) (k:Nat):Nat:=kd k fun a b c d=>kst x a b c d fun j=>j
theorem qvX {R:Type} (x:L6) (a b c d:Nat) (f:Nat->R):kst x a b c d f=f (kst x a b c d fun j=>j):=by
 cases x<;>exact(qfX _ f).trans (congrArg f (qfX _ (fun j=>j)).symm)
theorem qjJ {R:Type} (k:Nat) (f:Nat->Nat->Nat->Nat->R):kd k f=f (k/10007/10007/10007) (k/10007/10007%10007) (k/10007%10007) (k%10007):=by
 unfold kd;simp only[qfX];rfl
theorem kds {R:Type} (x:L6) (k:Nat) (f:Nat->R):kd k (fun a b c d=>kst x a b c d f)=f (kSt x k):=by
 unfold kSt;rw[qjJ,qjJ,qvX]
def OneK (k:Nat) (i:L6->(Tbw->Bool)->Tbw->Bool):Prop:= ∀x q o,i x q o=true-> ∃o',q o'=true/\(∀k' h',Has k' o h'->Has k' o' h')/\Has (kSt x k) o' (kSt x k)
theorem k6_ok {k:Nat} {i:L6->(Tbw->Bool)->Tbw->Bool} (h:OneK k i) {o:Tbw} {q:Tbw->Bool} (e:k6 i o q=true): ∃o',q o'=true/\(∀k' h',Has k' o h'->Has k' o' h')/\ ∀x,Has (kSt x k) o' (kSt x k):=by
 obtain⟨o1,e,m1,n1⟩:=h _ _ _ e;obtain⟨o2,e,m2,n2⟩:=h _ _ _ e;obtain⟨o3,e,m3,n3⟩:=h _ _ _ e;obtain⟨o4,e,m4,n4⟩:=h _ _ _ e;obtain⟨o5,e,m5,n5⟩:=h _ _ _ e;obtain⟨o6,e,m6,n6⟩:=h _ _ _ e;refine⟨o6,e,fun k' h' z=>m6 _ _ (m5 _ _ (m4 _ _ (m3 _ _ (m2 _ _ (m1 _ _ z))))),fun x=>?_⟩;cases x
 ·exact m6 _ _ (m5 _ _ (m4 _ _ (m3 _ _ (m2 _ _ n1))))
 ·exact m6 _ _ (m5 _ _ (m4 _ _ (m3 _ _ n2)))
 ·exact m6 _ _ (m5 _ _ (m4 _ _ n3))
 ·exact m6 _ _ (m5 _ _ n4)
 ·exact m6 _ _ n5
 exact n6
theorem qnw: ∀(t o:Tbw) (q:Tbw->Bool),nks t o q=true-> ∃o',q o'=true/\(∀k' h',Has k' o h'->Has k' o' h')/\ ∀k ws,qqd k ws t-> ∀x,Has (kSt x k) o' (kSt x k)
 | .e,o,q,h=>⟨o,h,fun _ _ z=>z,fun k ws m=>m.elim⟩
 | .n l r k ws,o,q,h=>by
   obtain⟨o1,h,m1,n1⟩:=qnw l o _ h;obtain⟨o2,h,m2,n2⟩:=qnw r o1 _ h
   have one:OneK k (fun x q o=>kd k fun a b c d=>kst x a b c d fun j=>tbi j o j q):=fun x q o e=>by
    dsimp only at e;rw[kds]at e;obtain⟨o',e1,e2,e3⟩:=qnV _ _ _ _ e;exact⟨o',e1,e3,e2⟩
   have h:k6 (fun x q o=>kd k fun a b c d=>kst x a b c d fun j=>tbi j o j q) o2 q=true:=by
    rw[qjJ]at h;unfold k6 at h⊢;simp only[qjJ];exact h
   obtain⟨o3,h,m3,n3⟩:=k6_ok one h;refine⟨o3,h,fun k' h' z=>m3 _ _ (m2 _ _ (m1 _ _ z)),fun j w hm x=>?_⟩;rcases hm with⟨rfl,rfl⟩|hm|hm
   ·exact n3 x
   ·exact m3 _ _ (m2 _ _ (n1 j w hm x))
   exact m3 _ _ (n2 j w hm x)
def Cov (src:Tbw) (k:Nat) (x:L6) (a:List W6):Prop:= ∀l,tbF (kSt (ng6 x) k) src (kSt (ng6 x) k)=some l-> ∀w∈l,To x w a
theorem Cov.mono {src:Tbw} {k:Nat} {x:L6} {a a':List W6} (h:Cov src k x a) (m: ∀v∈a,v∈a'):Cov src k x a':=fun l e w hw=>by
 obtain⟨v,v1,v2⟩:=h l e w hw;exact⟨v,v1,m v v2⟩
def OneG (src:Tbw) (k:Nat) (i:L6->(Trw->List W6->Bool)->Trw->List W6->Bool):Prop:= ∀x q t a,GI t a->i x q t a=true-> ∃t' a',q t' a'=true/\GI t' a'/\(∀v∈a,v∈a')/\Cov src k x a'
theorem qtv {src:Tbw} {k:Nat} {i:L6->(Trw->List W6->Bool)->Trw->List W6->Bool} (h:OneG src k i) {q:Trw->List W6->Bool} (e:gsx6 i q=true): ∃t' a',q t' a'=true/\ ∀x,Cov src k x a':=by
 obtain⟨t1,a1,e,g,m1,n1⟩:=h _ _ _ _ (fun w hw=>by rw[qgb]at hw;cases hw) e;obtain⟨t2,a2,e,g,m2,n2⟩:=h _ _ _ _ g e;obtain⟨t3,a3,e,g,m3,n3⟩:=h _ _ _ _ g e;obtain⟨t4,a4,e,g,m4,n4⟩:=h _ _ _ _ g e;obtain⟨t5,a5,e,g,m5,n5⟩:=h _ _ _ _ g e;obtain⟨t6,a6,e,g,m6,n6⟩:=h _ _ _ _ g e;refine⟨t6,a6,e,fun x=>?_⟩;cases x
 ·exact((((n1.mono m2).mono m3).mono m4).mono m5).mono m6
 ·exact(((n2.mono m3).mono m4).mono m5).mono m6
 ·exact((n3.mono m4).mono m5).mono m6
 ·exact(n4.mono m5).mono m6
 ·exact n5.mono m6
 exact n6
theorem qlx (src:Tbw): ∀(t:Tbw) (q:Tbw->Bool),pul src t q=true-> ∃t',q t'=true/\ ∀k h,Has k t h-> ∃ws,tbF k t' h=some ws/\ ∀x,Cov src k x ws
 | .e,q,h=>⟨.e,h,fun k h ⟨ws,e⟩=>by cases e⟩
 | .n l r k ws,q,h=>by
   obtain⟨l',h,hl⟩:=qlx src l _ h;obtain⟨r',h,hr⟩:=qlx src r _ h
   have one:OneG src k (fun x q t a=>kd k fun a' b c d=>kst (ng6 x) a' b c d fun j=>tbf j (q t a) (fun l=>wds x l t a q) src j):=fun x q t a g e=>by
    dsimp only at e;rw[kds,qjq]at e
    cases c:tbF (kSt (ng6 x) k) src (kSt (ng6 x) k)with
    |none=>
     rw[c]at e;exact⟨t,a,e,g,fun _ h=>h,fun l e=>by rw[c]at e;cases e⟩
    |some l=>
     rw[c]at e;obtain⟨t',a',e1,e2,e3,e4⟩:=qnY x l t a q g e;exact⟨t',a',e1,e2,e3,fun l' e w hw=>by rw[c]at e;rw[<-Ye e]at hw;exact e4 w hw⟩
   have h:gsx6 (fun x q t a=>kd k fun a' b c d=>kst (ng6 x) a' b c d fun j=>tbf j (q t a) (fun l=>wds x l t a q) src j) (fun _ ws=>q (.n l' r' k ws))=true:=by
    rw[qjJ]at h;unfold gsx6 at h⊢;simp only[qjJ];exact h
   obtain⟨_,a',h,cv⟩:=qtv one h;refine⟨_,h,fun j h' ⟨w,e⟩=>?_⟩;rw[qgv]at e⊢
   cases c:Nat.beq j k with
   |true=>
    have:j=k:=Nat.eq_of_beq_eq_true c;subst this;exact⟨a',rfl,cv⟩
   |false=>
    rw[c]at e
    cases d:Nat.land h' 1 with
    |zero=>rw[d]at e;exact hl j _ ⟨w,e⟩
    |succ z=>rw[d]at e;exact hr j _ ⟨w,e⟩
theorem qtj: ∀(l:List W6) (q:Bool),nol l q=true->q=true/\ ∀w∈l,w=[]
 |[],q,h=>⟨h,fun w hw=>by cases hw⟩
 |[]::l,q,h=>by
  obtain⟨h1,h2⟩:=qtj l q h;refine⟨h1,fun w hw=>?_⟩;rcases List.mem_cons.1 hw with rfl|hw
  ·rfl
  exact h2 w hw
 |(z::w)::l,q,h=>by cases h
theorem qk1: ∀(t:Tbw) (q:Bool),noth t q=true->q=true/\ ∀k ws,qqd k ws t-> ∀w∈ws,w=[]
 | .e,q,h=>⟨h,fun k ws m=>m.elim⟩
 | .n l r j ws,q,h=>by
   obtain⟨h,h1⟩:=qtj _ _ h;obtain⟨h,h2⟩:=qk1 l _ h;obtain⟨h,h3⟩:=qk1 r _ h;refine⟨h,fun k w m=>?_⟩;rcases m with⟨rfl,rfl⟩|m|m
   ·exact h1
   ·exact h2 k w m
   exact h3 k w m
theorem qn8 (u:Tbw): ∀(t:Tbw) (q:Bool),apt u t q=true-> ∀k ws,qqd k ws t-> ¬Has k u k
 | .e,q,h=>fun k ws m=>m.elim
 | .n l r j ws,q,h=>by
   have h:tbf j (apt u l (apt u r q)) (fun _=>false) u j=true:=h;rw[qjq]at h
   cases c:tbF j u j with
   |some w=>rw[c]at h;cases h
   |none=>
    rw[c]at h
    have step: ∀(t:Tbw) (q:Bool),apt u t q=true->q=true:=by
     intro t
     induction t with
     |e=>intro q h;exact h
     |n l r j ws il ir=>
      intro q h;have h:tbf j (apt u l (apt u r q)) (fun _=>false) u j=true:=h;rw[qjq]at h
      cases c:tbF j u j with
      |some w=>rw[c]at h;cases h
      |none=>rw[c]at h;exact ir _ (il _ h)
    intro k w m ⟨w',e⟩;rcases m with⟨rfl,rfl⟩|m|m
    ·rw[c]at e;cases e
    ·exact qn8 u l _ h k w m ⟨w',e⟩
    exact qn8 u r _ (step _ _ h) k w m ⟨w',e⟩
theorem kp_eq (a b c d:Nat):kp a b c d=((a*10007+b)*10007+c)*10007+d:=rfl
theorem qsu (a b:Nat):ku a b=(2*b+(10007-a))%10007:=rfl
theorem qsy (a b:Nat):kv a b=(5004*(a+b))%10007:=rfl
theorem kd_kp {R:Type} {a b c d:Nat} (hb:b<10007) (hc:c<10007) (hd:d<10007) (f:Nat->Nat->Nat->Nat->R):kd (kp a b c d) f=f a b c d:=by
 rw[qjJ,kp_eq]
 have q:=fun(x y:Nat) (h:y<10007)=>show(x*10007+y)/10007=x/\(x*10007+y)%10007=y from by
  constructor
  ·rw[Nat.add_comm,Nat.add_mul_div_right _ _ (Nat.succ_pos _),Nat.div_eq_of_lt h,Nat.zero_add]
  rw[Nat.add_comm,Nat.add_mul_mod_self_right,Nat.mod_eq_of_lt h]
 rw[(q _ d hd).1,(q _ d hd).2,(q _ c hc).1,(q _ c hc).2,(q _ b hb).1,(q _ b hb).2]
def K4 (k:Nat):Prop:= ∃a b c d,(a<10007/\b<10007/\c<10007/\d<10007)/\k=kp a b c d
theorem qhf (a b:Nat):ku a b<10007:=by rw[qsu];exact Nat.mod_lt _ (by omega)
theorem qgO (a b:Nat):kv a b<10007:=by rw[qsy];exact Nat.mod_lt _ (by omega)
theorem kvu {a b:Nat} (ha:a<10007) (hb:b<10007):kv (ku a b) a=b:=by rw[qsy,qsu];omega
theorem kuv {a b:Nat} (ha:a<10007) (hb:b<10007):ku b (kv a b)=a:=by rw[qsy,qsu];omega
theorem qgB {a b c d:Nat} (h:a<10007/\b<10007/\c<10007/\d<10007) (x:L6):kSt x (kp a b c d)=kst x a b c d fun j=>j:=kd_kp h.2.1 h.2.2.1 h.2.2.2 _
theorem qgD (x:L6) (a b c d:Nat):kst x a b c d (fun j=>j)=match x with
 | .a=>kp (ku a b) a c d
 | .A=>kp b (kv a b) c d
 | .b=>kp a (ku b c) b d
 | .B=>kp a c (kv b c) d
 | .c=>kp a b (ku c d) c
 | .C=>kp a b d (kv c d):=by cases x<;>exact qfX _ (fun j=>j)
theorem K4.step {k:Nat} (h:K4 k) (x:L6):K4 (kSt x k):=by
 obtain⟨a,b,c,d,h,rfl⟩:=h;rw[qgB h,qgD];obtain⟨ha,hb,hc,hd⟩:=h;cases x
 ·exact⟨_,_,_,_,⟨qhf a b,ha,hc,hd⟩,rfl⟩
 ·exact⟨_,_,_,_,⟨hb,qgO a b,hc,hd⟩,rfl⟩
 ·exact⟨_,_,_,_,⟨ha,qhf b c,hb,hd⟩,rfl⟩
 ·exact⟨_,_,_,_,⟨ha,hc,qgO b c,hd⟩,rfl⟩
 ·exact⟨_,_,_,_,⟨ha,hb,qhf c d,hc⟩,rfl⟩
 exact⟨_,_,_,_,⟨ha,hb,hd,qgO c d⟩,rfl⟩
theorem K4.back {k:Nat} (h:K4 k) (x:L6):kSt (ng6 x) (kSt x k)=k:=by
 obtain⟨a,b,c,d,h,rfl⟩:=h;rw[qgB h,qgD];obtain⟨ha,hb,hc,hd⟩:=h;cases x
 ·show kSt .A (kp (ku a b) a c d)=_;rw[qgB ⟨qhf a b,ha,hc,hd⟩,qgD];dsimp only;rw[kvu ha hb]
 ·show kSt .a (kp b (kv a b) c d)=_;rw[qgB ⟨hb,qgO a b,hc,hd⟩,qgD];dsimp only;rw[kuv ha hb]
 ·show kSt .B (kp a (ku b c) b d)=_;rw[qgB ⟨ha,qhf b c,hb,hd⟩,qgD];dsimp only;rw[kvu hb hc]
 ·show kSt .b (kp a c (kv b c) d)=_;rw[qgB ⟨ha,hc,qgO b c,hd⟩,qgD];dsimp only;rw[kuv hb hc]
 ·show kSt .C (kp a b (ku c d) c)=_;rw[qgB ⟨ha,hb,qhf c d,hc⟩,qgD];dsimp only;rw[kvu hc hd]
 show kSt .c (kp a b d (kv c d))=_;rw[qgB ⟨ha,hb,hd,qgO c d⟩,qgD];dsimp only;rw[kuv hc hd]
def kw (u:W6):Nat:=u.foldl (fun k x=>kSt x k) 1005110682313
theorem qlG (u:W6) (x:L6):kw (u++[x])=kSt x (kw u):=by unfold kw;rw[List.foldl_append];rfl
theorem qo3: ∀(u:W6) {k:Nat},K4 k->K4 (u.foldl (fun k x=>kSt x k) k)
 |[],k,h=>h
 |x::u,k,h=>qo3 u (h.step x)
theorem kw_4 (u:W6):K4 (kw u):=qo3 u ⟨1,30,500,7000,by decide,rfl⟩
theorem qpc (u:W6) (x:L6):kSt (ng6 x) (kw (u++[x]))=kw u:=by rw[qlG];exact(kw_4 u).back x
theorem quD {u:W6} {s:Nat} (h:u.length=s+1): ∃v x,u=v++[x]/\v.length=s:=by
 rcases List.eq_nil_or_concat u with rfl|⟨v,x,rfl⟩
 ·cases h
 rw[List.concat_eq_append]at h⊢;exact⟨v,x,rfl,by simpa using h⟩
def At6 (s:Nat) (u:W6) (t:Tbw):Prop:= ∃ws v,tbF (kw u) t (kw u)=some ws/\hrI (80*s+1) [] (u.map i6)=some (v.map i6)/\v∈ws
def PL (s:Nat) (t:Tbw):Prop:= ∀u:W6,u.length=s->At6 s u t
def QL (m s:Nat) (t:Tbw):Prop:= ∀u v:W6,u.length=s->v.length=m->kw u=kw v->At6 s u t
theorem At6.go {s:Nat} {u:W6} {x:L6} {t:Tbw} (h:At6 s u t) {ws:List W6} (c:Cov t (kw (u++[x])) x ws) {t':Tbw} (e:tbF (kw (u++[x])) t' (kw (u++[x]))=some ws):At6 (s+1) (u++[x]) t':=by
 obtain⟨ws0,v,e1,e2,e3⟩:=h;unfold Cov at c;rw[qpc]at c;obtain⟨v',f1,f2⟩:=c ws0 e1 v e3;refine⟨ws,v',e,?_,f2⟩;have:=qli _ _ _ _ _ _ _ e2 f1;rw[List.map_append];rw[show 80*s+1+80=80*(s+1)+1 by omega]at this;exact this
theorem PL.up {s:Nat} {t:Tbw} (h:PL s t) {q:Tbw->Bool} (e:nks t .e (fun u=>pul t u q)=true): ∃t',q t'=true/\PL (s+1) t':=by
 obtain⟨o,e,_,n⟩:=qnw _ _ _ e;obtain⟨t',e,c⟩:=qlx _ _ _ e;refine⟨t',e,fun u hu=>?_⟩;obtain⟨v,x,rfl,hv⟩:=quD hu;have a:=h v hv;obtain⟨ws0,w,e1,e2,e3⟩:=a;have hs:=n _ _ (qgE e1) x;rw[<-qlG]at hs;obtain⟨ws,f,cv⟩:=c _ _ hs;exact At6.go ⟨ws0,w,e1,e2,e3⟩ (cv x) f
theorem QL.dn {m s:Nat} {t tk:Tbw} (h:QL (m+1) s t) (p:PL m tk) {q:Tbw->Bool} (e:pul t tk q=true): ∃t',q t'=true/\QL m (s+1) t':=by
 obtain⟨t',e,c⟩:=qlx _ _ _ e;refine⟨t',e,fun u v hu hv hk=>?_⟩;obtain⟨u',x,rfl,hu'⟩:=quD hu;obtain⟨ws0,w,e1,_,_⟩:=p v hv;obtain⟨ws,f,cv⟩:=c _ _ ⟨ws0,e1⟩;rw[<-hk]at f cv;refine At6.go (h u' (v++[ng6 x]) hu' (by simp[hv]) ?_) (cv x) f;rw[qlG,<-hk,qpc]
theorem PL.zero:PL 0 tb0:=fun u hu=>by
 obtain rfl:u=[]:=List.eq_nil_of_length_eq_zero hu;exact⟨[[]],[],rfl,rfl,List.mem_cons_self ..⟩
theorem qrc (h:hral=true):(∀u:W6,u.length=14->kw u=kw []->hrI (80*14+1) [] (u.map i6)=some [])/\ ∀u v:W6,u.length=7->v.length=6->kw u≠kw v:=by
 have p0:=PL.zero;obtain⟨t1,h,p1⟩:=p0.up h;obtain⟨t2,h,p2⟩:=p1.up h;obtain⟨t3,h,p3⟩:=p2.up h;obtain⟨t4,h,p4⟩:=p3.up h;obtain⟨t5,h,p5⟩:=p4.up h;obtain⟨t6,h,p6⟩:=p5.up h;obtain⟨t7,h,p7⟩:=p6.up h
 have q7:QL 7 7 t7:=fun u v hu _ _=>p7 u hu
 obtain⟨t8,h,q8⟩:=q7.dn p6 h;obtain⟨t9,h,q9⟩:=q8.dn p5 h;obtain⟨t10,h,q10⟩:=q9.dn p4 h;obtain⟨t11,h,q11⟩:=q10.dn p3 h;obtain⟨t12,h,q12⟩:=q11.dn p2 h;obtain⟨t13,h,q13⟩:=q12.dn p1 h;obtain⟨t14,h,q14⟩:=q13.dn p0 h;obtain⟨h,n⟩:=qk1 _ _ h;refine⟨fun u hu hk=>?_,fun u v hu hv hk=>?_⟩
 ·obtain⟨ws,v,e1,e2,e3⟩:=q14 u [] hu rfl hk;rw[n _ _ (qgE e1) v e3]at e2;exact e2
 obtain⟨w1,v1,e1,_,_⟩:=p6 v hv;obtain⟨w2,v2,e2,_,_⟩:=p7 u hu;rw[hk]at e2;exact qn8 _ _ _ h _ _ (qgE e1) ⟨_,e2⟩
section
open Go
set_option maxHeartbeats 0 in
theorem quk:hral=true:=by kernel_rfl
end
end Go.Av
end
