/-
  The operations on abstract values tell what the machine does: conversions, operators, builtins.
-/
import Derived.Test.YthgioiakbbhonaaGreatDoorAvSndE
import Derived.Laws.BytesString
import Derived.Laws.StructEq
import Derived.ChangeKeysEq
noncomputable section
namespace Go.Av
set_option linter.unusedSectionVars false
variable [Glob]
open Go.RowKit
section
variable {P:Program} {F:Nat->Prop} {nu:Nat->Option Nat} {A:Heap} {w:World}
theorem qqs: ∀(cs:List AV) (vs:List Value),cs.length=vs.length->(∀(j:Nat) (a:AV) (v:Value),cs[j]? =some a->vs[j]? =some v->R F nu w a v)->cs.all isByte=true->
 ∃ns:List Int,vs=ns.map (Value.int .u8)/\cs.map byteOf=ns.map λn=>UInt8.ofNat n.toNat:=by
 intro cs
 induction cs with
 |nil=>intro vs hl _ _;cases vs with
  |nil=>exact⟨[],rfl,rfl⟩
  |cons v vs=>simp at hl
 |cons c cs ih=>
  intro vs hl hR hb
  cases vs with
  |nil=>simp at hl
  |cons v vs=>
   simp only[bP,aI]at hb;have h0:=hR 0 c v rfl rfl;cases h0<;>try (simp[isByte]at hb;done)
   rename_i k n;cases k<;>try (simp[isByte]at hb;done)
   obtain⟨ns,h1,h2⟩:=ih vs (by simpa using hl) (λj a v ha hv=>hR (j+1) a v (by simpa using ha) (by simpa using hv)) hb.2;exact⟨n::ns,by simp[h1],by simp[h2,byteOf]⟩
theorem qpD (ns:List Int): ∀s:ByteArray,(ns.foldl (λr n=>r.push (UInt8.ofNat n.toNat)) s).data.toList=s.data.toList++ns.map λn=>UInt8.ofNat n.toNat:=by
 induction ns with
 |nil=>intro s;simp
 |cons n ns ih=>intro s;rw[bp,ih];simp[ByteArray.push]
theorem ql1 (i:Inv F nu A w) {src dst:TypeId} {x:AV} {xv:Value} (hx:R F nu w x xv) {f:zG}:Ok P F nu A w (convert src dst xv) (exec (qjd P src dst x) A f):=by
 intro v A' f' h;unfold qjd at h;split at h
 ·rename_i k1 k2 hs hd;cases hx<;>try (simp[exec]at h;done)
  obtain⟨rfl,rfl⟩:=zD h;exact⟨_,w,nu,by simp[convert,run_underlying hs,run_underlying hd,Conv.intToInt],.refl i,.int _ _⟩
 ·rename_i hs hd;cases hx<;>try (simp[exec]at h;done)
  rename_i bs l hl;obtain⟨rfl,rfl⟩:=zD h;exact⟨_,w,nu,by simp[convert,run_underlying hs,run_underlying hd],.refl i,.str _ _ hl⟩
 ·rename_i k1 hs hd;cases hx<;>try (simp[exec]at h;done)
  obtain⟨rfl,rfl⟩:=zD h;exact⟨_,w,nu,by simp[convert,run_underlying hs,run_underlying hd,Conv.intToString],.refl i,.str _ _ rfl⟩
 ·rename_i e hs hd;split at h
  ·rename_i he;split at h
   ·simp[exec]at h
   rename_i hns;obtain⟨n,news,vs,f2,hsrc,h1,h2,h3,hn⟩:=qg6 (tx:=src) i (by omega) (.inl ⟨e,hs⟩) hx (λ_ s hs=>hns s hs) h;split at h3
   ·rename_i hb;obtain⟨rfl,rfl⟩:=zD h3;obtain⟨ns,hvs,hbs⟩:=qqs news vs h1 h2 hb
    have hval: ∃a n' c,xv= .slice a n' c:=by
     cases hx<;>first|exact⟨_,_,_,rfl⟩|exact(hns _ rfl).elim|(simp[kz,exec]at h;done)
    obtain⟨a,n',c,rfl⟩:=hval;have hnn:=hn _ _ _ rfl;subst hnn;have hrun:=run_convert_bytes_string (P:=P) w src dst e a n' c hs he hd
    cases a with
    |none=>
     have hv0:vs=[]:=by
      have:=hsrc.cells;simp only[Builtin.firstCells,Sem.run_pure,Result.ok.injEq,eS]at this;have:=ap Array.toList this;simpa using this.symm
     subst hv0;have:news=[]:=cw (by simpa using h1);subst this;exact⟨.string .empty,w,nu,by rw[hrun];simp[Conv.bytesToString],.refl i,.str _ _ (by simp)⟩
    |some ad=>
     have hc:=hsrc.cells;simp only[Builtin.firstCells,cF]at hc;rw[hvs]at hc;refine⟨_,w,nu,hrun.trans (run_bytesToString w ad n' c ns hc),.refl i,.str _ _ ?_⟩;rw[qpD,hbs];simp
   simp[exec]at h3
  simp[exec]at h
 simp[exec]at h
theorem qsD: ∀a b:List UInt8,Op.bytesLess a b=ltL a b:=by
 intro a
 induction a with
 |nil=>intro b;cases b<;>rfl
 |cons x a ih=>intro b;cases b with
  |nil=>rfl
  |cons y b=>simp only[Op.bytesLess,ltL,ih]
theorem qn0 {op:BinOp} {a b:List UInt8} {x y:ByteArray} (ha:x.data.toList=a) (hb:y.data.toList=b) {v:AV} (h:qja op a b=some v): ∃r,(Op.stringOp op x y).run P w= .ok r w/\R F nu w v r:=by
 have hx:x.toList=a:=by rw[ByteArray.toList_eq];exact ha
 have hy:y.toList=b:=by rw[ByteArray.toList_eq];exact hb
 have hxs:x.size=a.length:=by subst ha;simp
 have hys:y.size=b.length:=by subst hb;simp
 unfold qja at h;split at h
 ·split at h
  ·rename_i hl;injection h with h;subst h;refine⟨.string (x++y),?_,.str _ _ ?_⟩
   ·simp[Op.stringOp,hxs,hys,IntKind.max,IntKind.signed,IntKind.bits];omega
   subst ha hb;simp[ByteArray.data_append]
  cases h
 all_goals first|(cases h;done)|(injection h with h;subst h;exact⟨_,by simp only[Op.stringOp,hx,hy,qsD];rfl,.bool _⟩)
theorem qn6 {op:BinOp} {k:IntKind} {a b:Int} (hop:qcI op=false) {t:TypeId} {v:AV} (h:qha op k a b=some v): ∃r,(binOp op t (.int k a) (.int k b)).run P w= .ok r w/\R F nu w v r:=by
 cases op<;>simp only[qha,qcI,reduceCtorEq]at h hop<;>first
  |(injection h with h
    subst h
    exact⟨_,by simp only[binOp,ne_eq,not_true_eq_false,aU,Op.intArith,Op.intBits,Op.intCmp];rfl,by first|exact .int _ _|exact .bool _⟩)
  |(split at h
    ·cases h
    rename_i hb0;injection h with h;subst h
    exact⟨_,by simp only[binOp,ne_eq,not_true_eq_false,aU,Op.intDiv,hb0];rfl,.int _ _⟩)
theorem qlC {op:BinOp} {k k':IntKind} {a b:Int} (hop:qcI op=true) {t:TypeId} {v:AV} (h:qfm op k a b=some v): ∃r,(binOp op t (.int k a) (.int k' b)).run P w= .ok r w/\R F nu w v r:=by
 unfold qfm at h;split at h
 ·cases h
 rename_i hb;split at h
 ·injection h with h;subst h;exact⟨_,by simp only[binOp,Op.shift,hb,aU];rfl,.int _ _⟩
 ·injection h with h;subst h;exact⟨_,by simp only[binOp,Op.shift,hb,aU];rfl,.int _ _⟩
 cases h
theorem qpI: ∀(d D:Nat),d<=D-> ∀(t:TypeId) (x y:AV) (xv yv:Value) (b:Bool),R F nu w x xv->R F nu w y yv->eqA P d t x y=some b->(Op.equalIn D t xv yv).run P w= .ok b w:=by
 intro d
 induction d with
 |zero=>intro D _ t x y xv yv b _ _ h;cases h
 |succ d ih=>
  intro D hD t x y xv yv b hx hy h;obtain⟨D,rfl⟩: ∃D',D=D'+1:=⟨D-1,by omega⟩;unfold eqA at h;split at h
  ·rename_i ht;cases hx;cases hy
   injection h with h;subst h;exact run_equalIn_bool' w D t _ _ ht
  ·rename_i ik k a k' b' ht;cases hx;cases hy
   split at h
   ·rename_i hk;subst hk;injection h with h;subst h;exact run_equalIn_int w D t k ik _ _ ht
   cases h
  ·rename_i a b' ht
   cases hx with
   |str s1 _ h1=>
    cases hy with
    |str s2 _ h2=>
     injection h with h;subst h;rw[run_equalIn_string w D t _ _ ht,ByteArray.toList_eq,ByteArray.toList_eq,h1,h2]
  ·rename_i fields xs ys ht
   cases hx with
   |agg _ vx hlx hRx=>
    cases hy with
    |agg _ vy hly hRy=>
     split at h
     ·cases h
     rename_i hst
     have hf:P.fieldsOf t=fields:=by simp[Program.fieldsOf,ht]
     rw[run_equalIn_struct w D t vx vy (by rw[hf];exact ht) (by simpa using hst),hf];generalize fields.toList=fs at h
     induction fs with
     |nil=>simp only[qpN,ZI]at h;subst h;rfl
     |cons g fs ihf=>
      simp only[qpN]at h;simp only[Op.eqFields];by_cases hn:g.name= "_"
      ·simp only[hn,ne_eq,not_true_eq_false,aU]at h⊢;exact ihf h
      simp only[ne_eq,hn,not_false_eq_true,aJ]at h⊢;split at h
      ·rename_i p q hp hq;obtain⟨p',hp1,hp2⟩:=qfq (P:=P) ⟨hlx,hRx⟩ hp;obtain⟨q',hq1,hq2⟩:=qfq (P:=P) ⟨hly,hRy⟩ hq;split at h
       ·rename_i he;have:=ih D (by omega) _ _ _ _ _ _ hp2 hq2 he;simp only[Sem.run_bind,hp1,hq1,this,Result.andThen_ok,Bool.not_true,ZF,aU];exact ihf h
       ·rename_i he;injection h with h;subst h;have:=ih D (by omega) _ _ _ _ _ _ hp2 hq2 he;simp[hp1,hq1,this]
       cases h
      cases h
  ·rename_i len e xs ys ht
   cases hx with
   |agg _ vx hlx hRx=>
    cases hy with
    |agg _ vy hly hRy=>
     split at h
     ·rename_i hi;obtain⟨inf,hinf⟩:=dF.1 hi;rw[run_equalIn_array w D vx vy ht hinf];generalize List.range len=is at h
      induction is with
      |nil=>simp only[eqIs,ZI]at h;subst h;rfl
      |cons j is ihf=>
       simp only[eqIs]at h;simp only[Op.eqItems];split at h
       ·rename_i p q hp hq;obtain⟨p',hp1,hp2⟩:=qfq (P:=P) ⟨hlx,hRx⟩ hp;obtain⟨q',hq1,hq2⟩:=qfq (P:=P) ⟨hly,hRy⟩ hq;split at h
        ·rename_i he;have:=ih D (by omega) _ _ _ _ _ _ hp2 hq2 he;simp only[Sem.run_bind,hp1,hq1,this,Result.andThen_ok,Bool.not_true,ZF,aU];exact ihf h
        ·rename_i he;injection h with h;subst h;have:=ih D (by omega) _ _ _ _ _ _ hp2 hq2 he;simp[hp1,hq1,this]
        cases h
       cases h
     cases h
  cases h
theorem qnN {e t:TypeId} (ht:P.underlying t=some (.slice e)) {cs:List AV} {xv yv:Value} (hx:R F nu w (.fslice 0 cs) xv) (hy:R F nu w .nilslice yv): ∃b,(Op.equalIn Op.maxDepth t xv yv).run P w= .ok b w:=by
 obtain⟨D,hd⟩: ∃D,Op.maxDepth=D+1:=⟨9999,rfl⟩;rw[hd];cases hy
 cases hx with
 |fslice0 A cap=>
  cases A with
  |none=>exact⟨true,by simp[Op.equalIn,run_underlying ht]⟩
  |some A=>exact⟨false,by simp[Op.equalIn,run_underlying ht]⟩
 |fslice n cs ad cap vs=>exact⟨false,by simp[Op.equalIn,run_underlying ht]⟩
theorem qlz {d:TypeDesc} {t:TypeId} (ht:P.underlying t=some d) {x y:AV} {xv yv:Value} (hx:R F nu w x xv) (hy:R F nu w y yv) {b:Bool} (h:qfM d x y=some b):(Op.equalIn Op.maxDepth t xv yv).run P w= .ok b w:=by
 obtain⟨D,hd⟩: ∃D,Op.maxDepth=D+1:=⟨9999,rfl⟩;rw[hd];unfold qfM at h;split at h
 ·cases hx
  split at h
  ·cases hy;injection h with h;subst h;simp[Op.equalIn,run_underlying ht]
  ·cases hy;injection h with h;subst h;simp[Op.equalIn,run_underlying ht]
  ·cases hy;injection h with h;subst h;simp[Op.equalIn,run_underlying ht]
  cases h
 all_goals first
  |(cases h;done)
  |(cases hx<;>cases hy<;>(injection h with h;subst h;simp[Op.equalIn,run_underlying ht];done))
  |(cases hy
    split at h
    ·cases h
    rename_i hne;injection h with h;subst h
    cases hx with
    |gslice0=>exact absurd rfl hne
    |gslice _ _ _ rb cap e m hp hb hc hs hm=>
     simp[Op.equalIn,run_underlying ht])
  |skip
end
end Go.Av
