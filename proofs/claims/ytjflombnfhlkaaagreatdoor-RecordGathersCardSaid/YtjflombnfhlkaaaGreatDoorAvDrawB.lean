/-
  A region whose order is open: its run in the order of the text, and the check that every order does the same.
-/
import Derived.Test.YtjflombnfhlkaaaGreatDoorAvDraw
noncomputable section
namespace Go.Av
set_option linter.unusedSectionVars false
variable [Glob]
open Go.RowKit
structure Rec where
 fp:List Nat
 wr:Bool
 lo:Nat
 hi:Nat
def refsOf:AV→List Nat
 | .ptr b _=>[b]
 | .slice b _ _ _ _=>[b]
 | .oslice b _ _=>[b]
 | .gslice b _ _=>[b]
 | .wslice b _ _ _=>[b]
 | .map b=>[b]
 | .yld b=>[b]
 |_=>[]
def j4:Nat→AV→List Nat
 |0,_=>[]
 |d+1,.func _ a b=>a.flatMap (j4 d)++b.flatMap (j4 d)
 |d+1,.agg cs=>cs.flatMap (j4 d)
 |d+1,.iface _ v=>j4 d v
 |_+1,a=>refsOf a
def qgY:Tr→List Nat
 | .leaf v=>j4 4 v
 | .node a b c d=>qgY a++qgY b++qgY c++qgY d
def qkI:Blk→List Nat
 | .cells cs=>cs.flatMap (j4 4)
 | .frozen cs=>cs.flatMap (j4 4)
 | .map ks vs=>ks.flatMap (j4 4)++vs.flatMap (j4 4)
 | .loop _ _ (.tree _ tr) _ _ _=>qgY tr
 |_=>[]
def qer (S:List Nat) (xs:List Nat):List Nat:=xs.foldl (fun S b=>if S.contains b then S else b::S) S
def qbD (A:Heap):Nat→List Nat→List Nat
 |0,S=>S
 |n+1,S=>if(qer S (S.flatMap fun b=>qkI (A.getD b .dead))).length=S.length then S else qbD A n (qer S (S.flatMap fun b=>qkI (A.getD b .dead)))
def qjB (xs:List Operand):List Tmp:=xs.filterMap fun| .tmp t=>some t|_=>none
def zN (ops:Array Oper) (o:Oper):List Tmp:=
 qjB (o.op.operands.toList)++(match o.guard with
  |some (g,_)=>((ops[g]?).bind (·.dst)).toList
  |none=>[])
def maskF (ts:List Tmp) (fr:Fr):Fr:=ts.foldl (fun f t=>f.set t (fr.get t)) fr.blank
def qbe (f:AV→AV→Bool):List AV→List AV→Bool
 |[],[]=>true
 |a::as,b::bs=>f a b&&qbe f as bs
 |_,_=>false
def qbf:Nat→AV→AV→Bool
 |0,_,_=>false
 |d+1,a,b=>match a,b with
  | .undef,.undef=>true
  | .bool x,.bool y=>x==y
  | .int k x,.int l y=>decide (k=l)&&decide (x=y)
  | .str x,.str y=>decide (x=y)
  | .nilptr,.nilptr=>true
  | .ptr x y,.ptr u v=>decide (x=u)&&decide (y=v)
  | .fptr x y,.fptr u v=>qbe (qbf d) x u&&decide (y=v)
  | .nilslice,.nilslice=>true
  | .slice x1 x2 x3 x4 x5,.slice y1 y2 y3 y4 y5=>decide (x1=y1)&&decide (x2=y2)&&decide (x3=y3)&&decide (x4=y4)&&decide (x5=y5)
  | .oslice x1 x2 x3,.oslice y1 y2 y3=>decide (x1=y1)&&decide (x2=y2)&&decide (x3=y3)
  | .gslice x1 x2 x3,.gslice y1 y2 y3=>decide (x1=y1)&&decide (x2=y2)&&decide (x3=y3)
  | .wslice x1 x2 x3 x4,.wslice y1 y2 y3 y4=>decide (x1=y1)&&decide (x2=y2)&&decide (x3=y3)&&decide (x4=y4)
  | .fslice x y,.fslice u v=>decide (x=u)&&qbe (qbf d) y v
  | .nilmap,.nilmap=>true
  | .map x,.map y=>decide (x=y)
  | .fmap x y,.fmap u v=>qbe (qbf d) x u&&qbe (qbf d) y v
  | .nilfunc,.nilfunc=>true
  | .iface t x,.iface u y=>decide (t=u)&&qbf d x y
  | .niliface,.niliface=>true
  | .agg x,.agg y=>qbe (qbf d) x y
  | .tuple x,.tuple y=>qbe (qbf d) x y
  |_,_=>false
theorem qeH {f:AV→AV→Bool} (hf: ∀a b,f a b=true→a=b): ∀(x y:List AV),qbe f x y=true→x=y
 |[],[],_=>rfl
 |a::as,b::bs,h=>by
  simp only[qbe,Bool.and_eq_true]at h
  rw[hf a b h.1,qeH hf as bs h.2]
 |[],_::_,h=>by simp[qbe]at h
 |_::_,[],h=>by simp[qbe]at h
theorem qhh: ∀(d:Nat) (a b:AV),qbf d a b=true→a=b:=by
 intro d
 induction d with
 |zero=>intro a b h;simp[qbf]at h
 |succ d ih=>
  intro a b h
  have hl:=qeH ih
  cases a<;>cases b<;>simp only[qbf,Bool.and_eq_true,decide_eq_true_eq,beq_iff_eq,Bool.false_eq_true]at h⊢
  all_goals first
   |(rw[h])
   |(rw[hl _ _ h])
   |(rw[hl _ _ h.1,hl _ _ h.2])
   |(rw[hl _ _ h.1,h.2])
   |(rw[h.1,hl _ _ h.2])
   |(rw[h.1,ih _ _ h.2])
   |(rw[h.1,h.2])
   |(obtain⟨⟨h1,h2⟩,h3⟩:=h;rw[h1,h2,h3])
   |(obtain⟨⟨⟨h1,h2⟩,h3⟩,h4⟩:=h;rw[h1,h2,h3,h4])
   |(obtain⟨⟨⟨⟨h1,h2⟩,h3⟩,h4⟩,h5⟩:=h;rw[h1,h2,h3,h4,h5])
def qnM (a b:Blk):Bool:=
 match a,b with
 | .dead,.dead=>true
 | .cells x,.cells y=>qbe (qbf 30) x y
 | .frozen x,.frozen y=>qbe (qbf 30) x y
 | .map x y,.map u v=>qbe (qbf 30) x u&&qbe (qbf 30) y v
 | .iter x y,.iter u v=>decide (x=u)&&decide (y=v)
 |_,_=>false
theorem qnU {a b:Blk} (h:qnM a b=true):a=b:=by
 have hl:=qeH (qhh 30)
 cases a<;>cases b<;>simp only[qnM,Bool.and_eq_true,decide_eq_true_eq,Bool.false_eq_true]at h⊢
 all_goals first
  |(rw[hl _ _ h])
  |(rw[hl _ _ h.1,hl _ _ h.2])
  |(rw[h.1,h.2])
def vO (o:Oper) (ρ:Operand→AV) (A:Heap):List Nat:=
 match zX o ρ with
 |some (.fn _,args)=>qbD A 20 (qer [] (args.flatMap (j4 4)))
 |some (.mt _ _,args)=>qbD A 20 (qer [] (args.flatMap (j4 4)))
 |some (.rd b,args)=>qbD A 20 (qer [b] (args.flatMap (j4 4)))
 |none=>match o.op with
  | .load _ p=>refsOf (ρ p)
  | .store _ p _=>refsOf (ρ p)
  | .lookup _ x _ _=>refsOf (ρ x)
  | .mapUpdate _ m _ _=>refsOf (ρ m)
  | .insert _ m _ _=>refsOf (ρ m)
  | .mapEntry _ m _=>refsOf (ρ m)
  | .entryStore _ m _ _=>refsOf (ρ m)
  | .range _ x=>refsOf (ρ x)
  | .next x _=>refsOf (ρ x)
  | .convert _ _ x=>refsOf (ρ x)
  | .call c=>(c.args.toList.map ρ).flatMap refsOf
  |_=>[]
section
variable (P:Program) (call:zM)
def qdJ (o:Oper) (fr:Fr) (A:Heap):Option (AV×Heap×Rec):=
 let S:=vO o (jv fr) A
 if S.all (fun b=>decide (b<A.length))then
  match yV P call o fr (mask S A)with
  |some (v,B,f)=>if A.length≤B.length then some (v,merge S A B,⟨S,f.any (·.2)||(zX o (jv fr)).isSome&&S.any (fun b=>!qnM ((mask S A).getD b .dead) (B.getD b .dead)),A.length,B.length⟩)else none
  |none=>none
 else none
def qcY (ops:Array Oper) (j:Nat) (s:Fr×Heap):Option ((Fr×Heap)×Rec):=
 match ops[j]? with
 |none=>none
 |some o=>
  match vC ops o (maskF (zN ops o) s.1)with
  |some true=>match qdJ P call o (maskF (zN ops o) s.1) s.2 with
   |some (v,A',r)=>some ((qaM s.1 o.dst v,A'),r)
   |none=>none
  |some false=>some ((qaM s.1 o.dst (.tuple []),s.2),⟨[],false,s.2.length,s.2.length⟩)
  |none=>none
def qem (ops:Array Oper):Nat→Nat→Fr×Heap→Option ((Fr×Heap)×List Rec)
 |0,_,s=>some (s,[])
 |m+1,j,s=>match qcY P call ops j s with
  |some (s',r)=>(qem ops m (j+1) s').map fun q=>(q.1,r::q.2)
  |none=>none
def qeT (ops:Array Oper) (i j:Nat):Bool:=
 match ops[i]?,ops[j]? with
 |some x,some y=>
  (match x.dst with|some d=>(zN ops y).contains d||y.dst==some d|none=>false)||
  (match y.dst with|some d=>(zN ops x).contains d|none=>false)
 |_,_=>false
def qdu (r q:Rec):Bool:=r.fp.any (fun b=>q.fp.contains b)&&(r.wr||q.wr)||q.fp.any (fun b=>decide (r.lo≤b)&&decide (b<r.hi))
def masks (ops:List Oper):List Nat:=
 ops.foldl (fun acc o=>acc++[o.after.toList.foldl (fun s e=>if Region.binds .any e then s|||2^e.on|||acc.getD e.on 0 else s) 0]) []
def qoi (ops:Array Oper):Bool:=ops.toList.zipIdx.all fun p=>p.1.after.toList.all fun e=>!Region.binds .any e||decide (e.on<p.2)
def qgG (ops:Array Oper):Bool:=
 qoi ops&&(List.range ops.size).all fun j=>(List.range j).all fun i=>((masks ops.toList).getD j 0).testBit i||!qeT ops i j
def qmD (ms:List Nat) (rs:List (Rec×Nat)):Bool:=
 rs.all fun q=>q.1.fp.isEmpty||rs.all fun r=>Nat.ble q.2 r.2||(ms.getD q.2 0).testBit r.2||!qdu r.1 q.1
def qdH (ops:Array Oper) (rs:List Rec):Bool:=qgG ops&&qmD (masks ops.toList) rs.zipIdx
def qbG (ops:Array Oper) (fr:Fr) (A:Heap):Option (Fr×Heap):=
 match qem P call ops ops.size 0 (fr,A)with
 |some (s,rs)=>if qdH ops rs then some s else none
 |none=>none
end
section
variable {P:Program} {call:zM} {ops:Array Oper}
theorem qlk: ∀(m j:Nat) (s t:Fr×Heap) (rs:List Rec),qem P call ops m j s=some (t,rs)→
 ∃(S:Nat→Fr×Heap) (rk:Nat→Rec),S 0=s∧S m=t∧(∀k,k<m→qcY P call ops (j+k) (S k)=some (S (k+1),rk k))∧ ∀k,k<m→rs[k]? =some (rk k):=by
 intro m
 induction m with
 |zero=>
  intro j s t rs h
  simp only[qem,Option.some.injEq,Prod.mk.injEq]at h
  exact⟨fun _=>s,fun _=>⟨[],false,0,0⟩,rfl,h.1,by omega,by omega⟩
 |succ m ih=>
  intro j s t rs h
  simp only[qem]at h
  split at h
  ·rename_i s' r hs
   obtain⟨q,hq,he⟩:=Option.map_eq_some_iff.1 h
   simp only[Prod.mk.injEq]at he
   obtain⟨rfl,rfl⟩:=he
   obtain⟨S,rk,h0,h1,h2,h3⟩:=ih (j+1) s' q.1 q.2 hq
   refine⟨fun k=>match k with|0=>s|k+1=>S k,fun k=>match k with|0=>r|k+1=>rk k,rfl,h1,fun k hk=>?_,fun k hk=>?_⟩
   ·cases k with
    |zero=>simp only[Nat.add_zero,h0];exact hs
    |succ k=>
     have:=h2 k (by omega)
     rw[show j+(k+1)=j+1+k by omega]
     exact this
   ·cases k with
    |zero=>rfl
    |succ k=>simpa using h3 k (by omega)
  ·cases h
theorem qh8: ∀(p:Pg) (A:Heap) (f:zR) (v:AV) (A':Heap) (f':zR),exec p A f=some (v,A',f')→(∀x,x∈f→x∈f')∧(f'.any (·.2)=false→ ∀b,b<A.length→A'[b]? =A[b]?)∧A.length≤A'.length:=by
 intro p
 induction p with
 |fail=>intro A f v A' f' h;cases h
 |done v=>intro A f v A' f' h;simp only[exec,Option.some.injEq,Prod.mk.injEq]at h;obtain⟨_,rfl,rfl⟩:=h;exact⟨fun _ h=>h,fun _ _ _=>rfl,Nat.le_refl _⟩
 |get b k ih=>
  intro A f v A' f' h
  simp only[exec]at h
  split at h
  ·obtain⟨h1,h2,h3⟩:=ih _ _ _ _ _ _ h
   exact⟨fun x hx=>h1 x (by simp[hx]),h2,h3⟩
  ·cases h
 |set b x k ih=>
  intro A f v A' f' h
  simp only[exec]at h
  split at h
  ·obtain⟨h1,h2,h3⟩:=ih _ _ _ _ _ h
   refine⟨fun y hy=>h1 y (by simp[hy]),fun hf=>?_,by simpa using h3⟩
   have:=h1 (b,true) (by simp)
   have h4:f'.any (·.2)=true:=List.any_eq_true.2 ⟨_,this,rfl⟩
   rw[hf]at h4;cases h4
  ·cases h
 |new x k ih=>
  intro A f v A' f' h
  simp only[exec]at h
  obtain⟨h1,h2,h3⟩:=ih _ _ _ _ _ _ h
  refine⟨h1,fun hf b hb=>?_,by simp at h3;omega⟩
  rw[h2 hf b (by simp;omega),List.getElem?_append_left hb]
theorem qgW (fr:Fr): ∀(ts:List Tmp) (f:Fr),(ts.foldl (fun f t=>f.set t (fr.get t)) f).n=f.n∧ ∀t,(f.get t= .undef∨f.get t=fr.get t)→((ts.foldl (fun f t=>f.set t (fr.get t)) f).get t= .undef∨((ts.foldl (fun f t=>f.set t (fr.get t)) f).get t=fr.get t∧(t∈ts∨f.get t=fr.get t))):=by
 intro ts
 induction ts with
 |nil=>
  intro f
  refine⟨rfl,fun t h=>?_⟩
  rcases h with h|h
  ·exact .inl h
  ·exact .inr ⟨h,.inr h⟩
 |cons u ts ih=>
  intro f
  obtain⟨h1,h2⟩:=ih (f.set u (fr.get u))
  refine⟨by simpa using h1,fun t h=>?_⟩
  simp only[List.foldl_cons]
  by_cases e:u=t
  ·subst e
   have h3:(f.set u (fr.get u)).get u= .undef∨(f.set u (fr.get u)).get u=fr.get u:=by
    rcases f.get_set_same u (fr.get u)with h3|h3|⟨_,h3⟩
    ·exact .inr h3
    ·exact .inl h3
    ·rw[h3];exact h
   rcases h2 u h3 with h4|⟨h4,_⟩
   ·exact .inl h4
   ·exact .inr ⟨h4,.inl (by simp)⟩
  ·have h3:(f.set u (fr.get u)).get t=f.get t:=Fr.get_set_other e
   rcases h2 t (by rw[h3];exact h)with h4|⟨h4,h5⟩
   ·exact .inl h4
   ·refine .inr ⟨h4,?_⟩
    rcases h5 with h5|h5
    ·exact .inl (by simp[h5])
    ·exact .inr (by rw[←h3];exact h5)
theorem qge (ts:List Tmp) (fr:Fr):(maskF ts fr).n=fr.n:=((qgW fr ts fr.blank).1.trans fr.blank_n)
theorem qci (ts:List Tmp) (fr:Fr) (t:Nat):(maskF ts fr).get t= .undef∨((maskF ts fr).get t=fr.get t∧t∈ts):=by
 rcases(qgW fr ts fr.blank).2 t (.inl (Fr.get_blank _ _))with h|⟨h1,h2⟩
 ·exact .inl h
 ·rcases h2 with h2|h2
  ·exact .inr ⟨h1,h2⟩
  ·rw[Fr.get_blank]at h2
   exact .inl (h1.trans h2.symm)
theorem qke {j:Nat} {s s':Fr×Heap} {r:Rec} (h:qcY P call ops j s=some (s',r)): ∃o,ops[j]? =some o∧
 ((vC ops o (maskF (zN ops o) s.1)=some false∧s'=(qaM s.1 o.dst (.tuple []),s.2)∧r=⟨[],false,s.2.length,s.2.length⟩)∨
  (vC ops o (maskF (zN ops o) s.1)=some true∧ ∃v B f,yV P call o (maskF (zN ops o) s.1) (mask r.fp s.2)=some (v,B,f)∧s'=(qaM s.1 o.dst v,merge r.fp s.2 B)∧(∀b∈r.fp,b<s.2.length)∧s.2.length≤B.length∧r.lo=s.2.length∧r.hi=B.length∧
   (r.wr=false→ ∀b,b∈r.fp→B[b]? =(mask r.fp s.2)[b]?))):=by
 unfold qcY at h
 split at h
 ·cases h
 ·rename_i o ho
  refine⟨o,ho,?_⟩
  split at h
  ·rename_i hw
   split at h
   ·rename_i v A' r' hs
    simp only[Option.some.injEq,Prod.mk.injEq]at h
    obtain⟨rfl,rfl⟩:=h
    refine .inr ⟨hw,?_⟩
    unfold qdJ at hs
    simp only at hs
    split at hs
    ·rename_i hall
     split at hs
     ·rename_i v2 B f hst
      split at hs
      ·rename_i hle
       simp only[Option.some.injEq,Prod.mk.injEq]at hs
       obtain⟨rfl,rfl,rfl⟩:=hs
       refine⟨_,B,f,hst,rfl,fun b hb=>of_decide_eq_true (List.all_eq_true.1 hall b hb),hle,rfl,rfl,fun hwr b hbS=>?_⟩
       have hb:b<s.2.length:=of_decide_eq_true (List.all_eq_true.1 hall b hbS)
       simp only[Bool.or_eq_false_iff]at hwr
       unfold yV at hst
       cases hc:zX o (jv (maskF (zN ops o) s.1))with
       |some q=>
        rw[hc]at hwr
        simp only[Option.isSome_some,Bool.true_and]at hwr
        have h1:=List.any_eq_false.1 hwr.2 b hbS
        simp only[Bool.not_eq_true,Bool.not_eq_false']at h1
        have h2:=qnU h1
        have hm:b<(mask (vO o (jv (maskF (zN ops o) s.1)) s.2) s.2).length:=by rw[jX];exact hb
        have hB:b<B.length:=by omega
        rw[List.getD_eq_getElem?_getD,List.getD_eq_getElem?_getD,List.getElem?_eq_getElem hm,List.getElem?_eq_getElem hB]at h2
        rw[List.getElem?_eq_getElem hm,List.getElem?_eq_getElem hB]
        exact congrArg some h2.symm
       |none=>
        rw[hc]at hst
        simp only at hst
        exact(qh8 _ _ _ _ _ _ hst).2.1 hwr.1 b (by rw[jX];exact hb)
      ·cases hs
     ·cases hs
    ·cases hs
   ·cases h
  ·rename_i hw
   simp only[Option.some.injEq,Prod.mk.injEq]at h
   obtain⟨rfl,rfl⟩:=h
   exact .inl ⟨hw,rfl,rfl⟩
  ·cases h
theorem qgz {s m i:Nat} (k:Nat) (h:(s|||2^k|||m).testBit i=true):s.testBit i=true∨i=k∨m.testBit i=true:=by
 simp only[Nat.testBit_or,Bool.or_eq_true]at h
 rcases h with(h|h)|h
 ·exact .inl h
 ·right;left
  rw[Nat.testBit_two_pow]at h
  exact(of_decide_eq_true h).symm
 ·exact .inr (.inr h)
theorem qeU (D:Nat→Prop): ∀(os:List Oper) (acc:List Nat) (n:Nat),acc.length=n→(∀k,k<n+os.length→D k→ ∀o,(n≤k→os[k-n]? =some o→ ∀e∈o.after.toList,Region.binds .any e=true→D e.on))→
 (∀k i,k<n→(acc.getD k 0).testBit i=true→D k→D i)→
 ∀k i,((os.foldl (fun acc o=>acc++[o.after.toList.foldl (fun s e=>if Region.binds .any e then s|||2^e.on|||acc.getD e.on 0 else s) 0]) acc).getD k 0).testBit i=true→D k→D i:=by
 intro os
 induction os with
 |nil=>
  intro acc n hn _ hacc k i h hk
  simp only[List.foldl_nil]at h
  rcases Nat.lt_or_ge k n with hlt|hge
  ·exact hacc k i hlt h hk
  ·rw[List.getD_eq_getElem?_getD,List.getElem?_eq_none (by omega)]at h
   simp at h
 |cons o os ih=>
  intro acc n hn hcl hacc k i h hk
  simp only[List.foldl_cons]at h
  refine ih (acc++[o.after.toList.foldl (fun s e=>if Region.binds .any e then s|||2^e.on|||acc.getD e.on 0 else s) 0]) (n+1) (by simp[hn]) (fun k hk1 hD o' hge ho' e he hb=>?_) (fun k i hk1 hbit hD=>?_) k i h hk
  ·have h1:k-n=(k-(n+1))+1:=by omega
   exact hcl k (by simp;omega) hD o' (by omega) (by rw[h1];simpa using ho') e he hb
  ·rcases Nat.lt_or_ge k n with hlt|hge
   ·rw[List.getD_eq_getElem?_getD,List.getElem?_append_left (by omega),←List.getD_eq_getElem?_getD]at hbit
    exact hacc k i hlt hbit hD
   ·have hkn:k=n:=by omega
    subst hkn
    rw[List.getD_eq_getElem?_getD,List.getElem?_append_right (by omega),hn,Nat.sub_self]at hbit
    simp only[List.getElem?_cons_zero,Option.getD_some]at hbit
    have hedges: ∀e∈o.after.toList,Region.binds .any e=true→D e.on:=fun e he hb=>hcl k (by simp) hD o (Nat.le_refl _) (by simp) e he hb
    have hsmall: ∀m i,(acc.getD m 0).testBit i=true→D m→D i:=by
     intro m i hb hm
     rcases Nat.lt_or_ge m k with hl|hg
     ·exact hacc m i hl hb hm
     ·rw[List.getD_eq_getElem?_getD,List.getElem?_eq_none (by omega)]at hb
      simp at hb
    have key: ∀(es:List Edge) (s:Nat),(∀e∈es,Region.binds .any e=true→D e.on)→(∀i,s.testBit i=true→D i)→
     ∀i,(es.foldl (fun s e=>if Region.binds .any e then s|||2^e.on|||acc.getD e.on 0 else s) s).testBit i=true→D i:=by
     intro es
     induction es with
     |nil=>intro s _ hs i h;exact hs i h
     |cons e es ihe=>
      intro s hes hs i h
      simp only[List.foldl_cons]at h
      refine ihe _ (fun e' he'=>hes e' (by simp[he'])) (fun i h=>?_) i h
      split at h
      ·rename_i hb
       have hD:=hes e (by simp) hb
       rcases qgz e.on h with h1|h1|h1
       ·exact hs i h1
       ·subst h1;exact hD
       ·exact hsmall e.on i h1 hD
      ·exact hs i h
    exact key _ 0 hedges (by simp) i hbit
end
end Go.Av
