/-
  Rows of elements of several plain cells (numbers, texts, truth values) on the abstract heap and on the machine.
-/
import Derived.Test.YtcnioemfifogeaaGreatDoorAvWb
import Derived.Test.YtcnioemfifogeaaGreatDoorAvOpt
import Derived.Lib.SliceRun
import Derived.Lib.JoinLaws
import Derived.Lib.AppendZeros
import Derived.Lib.AppendZerosOnto
import Derived.Lib.Overlaps
import Derived.Laws.Externs
import Derived.Laws.IdiomCopy
import Derived.Test.YtcnioemfifogeaaGreatDoorAvPt
import Derived.Lib.Bytealg
import Derived.Sort.AssemblyPlain
import Derived.Lib.BitFns
set_option linter.unusedSectionVars false
set_option linter.unusedVariables false
set_option linter.unusedSimpArgs false
set_option maxRecDepth 100000
noncomputable section
namespace Go.Av
open Go.Proofs Go.RowKit Go.Shelf Go.Lib
variable [Glob]
def fv:AV->Option Value
 | .int k n=>some (.int k n)
 | .str s=>some (.string ⟨s.toArray⟩)
 | .bool b=>some (.bool b)
 |_=>none
def fvd (a:AV):Value:=(fv a).getD default
def Fl (cs:List AV):Prop:= ∀a∈cs,(fv a).isSome=true
def vals (cs:List AV):List Value:=cs.map fvd
theorem qm6 (cs:List AV):(vals cs).length=cs.length:=by simp[vals]
theorem fv_R {F:Nat->Prop} {nu:Nat->Option Nat} {w:World} {a:AV} {v:Value} (h:(fv a).isSome=true) (hR:R F nu w a v):v=fvd a:=by
 cases a<;>first|(cases h;done)|skip
 ·cases hR;rfl
 ·cases hR;rfl
 obtain⟨b,rfl,e⟩:=hR.str_inv
 unfold fvd
 simp only[fv,YN,<-e]
theorem R_fv (F:Nat->Prop) (nu:Nat->Option Nat) (w:World) {a:AV} (h:(fv a).isSome=true):R F nu w a (fvd a):=by
 cases a<;>first|(cases h;done)|skip
 ·exact .bool _
 ·exact .int _ _
 exact .str _ _ rfl
theorem qJD {a:AV} (h:(fv a).isSome=true):(fvd a).oneCell'=true:=by
 cases a<;>first|(cases h;done)|rfl
theorem Fl.one {cs:List AV} (h:Fl cs): ∀v∈vals cs,v.oneCell'=true:=by
 intro v hv
 simp only[vals,List.mem_map]at hv
 obtain⟨a,ha,rfl⟩:=hv
 exact qJD (h a ha)
theorem Fl.flat {α:Type} {E:Enc α} (h: ∀x,Fl (E.c x)) (l:List α):Fl (l.flatMap E.c):=by
 intro a ha
 obtain⟨x,_,hx⟩:=List.mem_flatMap.1 ha
 exact h x a hx
theorem Fl.take {cs:List AV} (h:Fl cs) (n:Nat):Fl (cs.take n):=fun a ha=>h a (List.mem_of_mem_take ha)
theorem Fl.drop {cs:List AV} (h:Fl cs) (n:Nat):Fl (cs.drop n):=fun a ha=>h a (List.mem_of_mem_drop ha)
theorem Fl.app {cs ds:List AV} (h:Fl cs) (k:Fl ds):Fl (cs++ds):=by
 intro a ha
 rcases List.mem_append.1 ha with ha|ha
 ·exact h a ha
 exact k a ha
theorem Fl.R {F:Nat->Prop} {nu:Nat->Option Nat} {w:World} {cs:List AV} (h:Fl cs) {c:Array Value} (hc: ∀j,j<cs.length->c[j]? =(vals cs)[j]?): ∀(j:Nat) (a:AV) (v:Value),cs[j]? =some a->c[j]? =some v->R F nu w a v:=by
 intro j a v ha hv
 have hj:=(Yb.1 ha).1
 rw[hc j hj,vals,YA,ha]at hv
 obtain rfl:=Ye hv
 exact R_fv F nu w (h a (Yn ha))
section
variable {F:Nat->Prop} {nu:Nat->Option Nat} {A:Heap} {w:World}
theorem rowF (i:Inv F nu A w) {b rb:Nat} {cs:List AV} (hf:Fl cs) (hb:nu b=some rb) (hA:A[b]? =some (.cells cs)):
 ∃c0 e,w.heap[rb]? =some (.cells c0 e (0,0))/\cs.length<=c0.size/\ ∀j,j<cs.length->c0[j]? =(vals cs)[j]? :=by
 obtain⟨_,c0,e,hh,hl,hR⟩:=i.blk b rb _ hb hA
 refine⟨c0,e,hh,hl,fun j hj=>?_⟩
 have h1:cs[j]? =some cs[j]:=Ya hj
 have h2:c0[j]? =some c0[j]:=Yi (by omega)
 have:=fv_R (hf _ (List.getElem_mem hj)) (hR j _ _ h1 h2)
 rw[h2,this,vals,YA,h1]
 rfl
theorem qHY (i:Inv F nu A w) {b rb n cap k:Nat} {cs ds:List AV} {c0 c1:Array Value} {e:TypeId} {w':World} (hf:Fl ds) (hb:nu b=some rb) (hA:A[b]? =some (.cells cs)) (hh:w.heap[rb]? =some (.cells c0 e (0,0)))
 (r:quQ w w' rb e c1) (hs:c1.size=c0.size) (hn:ds.length=n*k) (hcap:n<=cap) (hm:cap*k<=c0.size) (hx:cap<=9223372036854775807) (hc: ∀j,j<ds.length->c1[j]? =(vals ds)[j]?):
 ∃nu',Stp F nu A w F nu' (A.set b .dead++[.cells ds]) w'/\R F nu' w' (.oslice A.length n k) (.slice (some ⟨rb,0,none⟩) n cap):=by
 have hsh: ∀s,w.shape? rb=some s->w'.shape? rb=some s:=by
  intro s h
  rw[<-h,qlS hh,qlS r.at_,hs]
 have hnk:n*k<=cap*k:=Nat.mul_le_mul_right k hcap
 have s1:=Ul i (k:= .cells ds) hb hA rfl rfl r.oth r.size hsh r.os r.tape r.output (fun hnF=>⟨hnF,c1,e,r.at_,by omega,hf.R hc⟩)
 have hblt:b<A.length:=(Yb.1 hA).1
 have s2:=Stp.rename s1.inv (b:=b) hb (k:= .cells ds) (by simp[hblt]) rfl
 simp only[List.set_set,Yk]at s2
 exact⟨_,s1.trans s2,.oslice _ _ _ _ _ e c1.size (upd_same _ _) hcap (qlS r.at_) (by omega) hx⟩
theorem newF (i:Inv F nu A w) {n cap k:Nat} {ds:List AV} {c1:Array Value} {e:TypeId} {w':World} (hf:Fl ds) (h1:w'.heap[w.heap.size]? =some (.cells c1 e (0,0))) (h2: ∀r,r<w.heap.size->w'.heap[r]? =w.heap[r]?) (h3:w'.heap.size=w.heap.size+1)
 (ho:w'.os=w.os) (ht:w'.tape=w.tape) (hp:w'.output=w.output) (hn:ds.length=n*k) (hcap:n<=cap) (hm:cap*k<=c1.size) (hx:cap<=9223372036854775807) (hc: ∀j,j<ds.length->c1[j]? =(vals ds)[j]?):
 ∃nu',Stp F nu A w F nu' (A++[.cells ds]) w'/\R F nu' w' (.oslice A.length n k) (.slice (some ⟨w.heap.size,0,none⟩) n cap):=by
 have hnk:n*k<=cap*k:=Nat.mul_le_mul_right k hcap
 have s1:=Ue i c1 e ds (by omega) (hf.R hc)
 have hheap:w'.heap=(w.alloc (.cells c1 e)).heap:=by
  refine Array.ext_getElem? fun j=>?_
  rcases Nat.lt_trichotomy j w.heap.size with hj|hj|hj
  ·rw[h2 j hj]
   exact(Go.heap_alloc_old w _ hj).symm
  ·subst hj
   rw[h1]
   exact(Go.heap_alloc_new w _).symm
  rw[Array.getElem?_eq_none (by omega),Array.getElem?_eq_none (by simp;omega)]
 have s2:=Stp.same s1.inv (w':=w') hheap ho ht hp
 exact⟨_,s1.trans s2,.oslice _ _ _ _ _ e c1.size (upd_same _ _) hcap (qlS h1) (by omega) hx⟩
end
theorem qp8 {P:Program} (w:World) (dT sT ty elem:TypeId) (b o dLen dCap:Nat) (a:Addr) (sLen sCap k:Nat) (cs:List Value)
 (hu:P.underlying dT=some (.slice elem)) (hs:(P.info? elem).map (·.size)=some k) (hn:cs.length=Nat.min sLen dLen*k)
 (hsrc: ∀j v,cs[j]? =some v->w.cell? (a.add j)=some v) (hc: ∀j,j<cs.length->(w.cell? ⟨b,o+j,none⟩).isSome=true) (hf: ∀j,j<cs.length->w.frozen? ⟨b,o+j,none⟩=false) (h1: ∀v∈cs,v.oneCell'=true):
 (Builtin.copy_ #[dT,sT] ty #[.slice (some ⟨b,o,none⟩) dLen dCap,.slice (some a) sLen sCap]).run P w= .ok (goInt (Nat.min sLen dLen)) (w.setCells b o cs):=by
 have hl:=run_loadCells_list (P:=P) w a cs hsrc
 have hst:=run_storeCells_cells (P:=P) b o cs 0 w (by simpa using hc) (by simpa using hf) h1
 cases hq:P.info? elem with
 |none=>simp[hq]at hs
 |some i=>
  have hi:i.size=k:=by simpa[hq]using hs
  simp[Builtin.copy_,run_underlying hu,Builtin.lenOf,Builtin.firstCells,sizeOf,typeInfo,hq,hi,<-hn,hl,hst]
end Go.Av
end
noncomputable section
namespace Go.Av
open Go.Proofs Go.Shelf Go.RowKit Go.Lib Go.Sort
def qGl (a1 b1 a2 b2:List UInt8):Int:=if Lib.compareBytes a1 a2=0 then Lib.compareBytes b1 b2 else Lib.compareBytes a1 a2
theorem qDk: ∀a b:List UInt8,Lib.compareBytes a b=if ltL a b=true then-1 else if(a==b)=true then 0 else 1
 |[],[]=>rfl
 |[],_::_=>rfl
 |_::_,[]=>rfl
 |a::x,b::y=>by
  unfold Lib.compareBytes
  by_cases h1:a<b
  ·rw[if_pos h1,if_pos (by simp[ltL,h1])]
  rw[if_neg h1]
  by_cases h2:b<a
  ·have hne:a≠b:=fun e=>by subst e;exact h1 h2
   have l:ltL (a::x) (b::y)=false:=by simp[ltL,h1,hne]
   rw[if_pos h2,l,if_neg (by simp),if_neg (by simp[hne])]
  have hab:a=b:=by
   have g1:=UInt8.not_lt.1 h1
   have g2:=UInt8.not_lt.1 h2
   exact UInt8.le_antisymm g2 g1
  subst hab
  rw[if_neg h2,qDk x y]
  have l:ltL (a::x) (a::y)=ltL x y:=by simp[ltL,h1]
  rw[l]
  by_cases e:x=y
  ·subst e
   simp
  have e1:(x==y)=false:=beq_false_of_ne e
  have e2:((a::x)==(a::y))=false:=beq_false_of_ne (fun h=>e (List.cons.inj h).2)
  rw[e1,e2]
theorem qI2 (a b:List UInt8):Lib.compareBytes a b=if ltL a b=true then-1 else if a=b then 0 else 1:=by
 rw[qDk]
 simp only[beq_iff_eq]
structure qyb {α:Type} (E:Enc α) (lo od:α->List UInt8) (rs tk:α->Int):Prop where
 k:E.k=4
 c: ∀x,E.c x=[.str (lo x),.str (od x),.int .i64 (rs x),.int .i64 (tk x)]
theorem qyb.fl {α:Type} {E:Enc α} {lo od:α->List UInt8} {rs tk:α->Int} (h:qyb E lo od rs tk) (x:α):Fl (E.c x):=by
 rw[h.c]
 intro a ha
 simp only[List.mem_cons,List.not_mem_nil,or_false]at ha
 rcases ha with rfl|rfl|rfl|rfl<;>rfl
section
variable {α:Type} (lo od:α->List UInt8)
def ltC (cf:α->α->Int) (x y:α):Bool:=decide (cf x y<0)
def cfH (x y:α):Int:=qGl (lo x) (od x) (lo y) (od y)
def ltH (x y:α):Bool:=ltL (lo x) (lo y)||(lo x==lo y&&ltL (od x) (od y))
theorem qCZ (x y:α):ltC (cfH lo od) x y=ltH lo od x y:=by
 unfold ltC cfH qGl ltH
 rw[qI2 (lo x),qI2 (od x)]
 by_cases h1:ltL (lo x) (lo y)=true
 ·simp[h1]
 by_cases h2:lo x=lo y
 ·rw[h2]at h1⊢
  by_cases h3:ltL (od x) (od y)=true
  ·simp[h1,h3]
  by_cases h4:od x=od y<;>simp[h1,h3,h4,qlC]
 simp[h1,h2]
theorem qvv (x:α):ltH lo od x x=false:=by simp[ltH,qlC]
theorem qu2 {x y z:α} (h:ltH lo od x y=true) (k:ltH lo od y z=true):ltH lo od x z=true:=by
 unfold ltH at h k⊢
 simp only[Bool.or_eq_true,Bool.and_eq_true,beq_iff_eq]at h k⊢
 rcases h with h|⟨h1,h2⟩
 ·rcases k with k|⟨k1,k2⟩
  ·exact .inl (qpx h k)
  exact .inl (k1▸h)
 rcases k with k|⟨k1,k2⟩
 ·exact .inl (h1▸k)
 exact .inr ⟨h1.trans k1,qpx h2 k2⟩
theorem qzE {x y:α} (h:ltH lo od x y=false):ltH lo od y x=true\/(lo x=lo y/\od x=od y):=by
 unfold ltH at h⊢
 simp only[Bool.or_eq_false_iff,Bool.and_eq_false_iff,beq_eq_false_iff_ne,Bool.or_eq_true,Bool.and_eq_true,beq_iff_eq]at h⊢
 by_cases h1:ltL (lo y) (lo x)=true
 ·exact .inl (.inl h1)
 have e:lo x=lo y:=qsF _ _ h.1 (by simpa using h1)
 rcases h.2 with h2|h2
 ·exact absurd e h2
 by_cases h3:ltL (od y) (od x)=true
 ·exact .inl (.inr ⟨e.symm,h3⟩)
 exact .inr ⟨e,qsF _ _ h2 (by simpa using h3)⟩
theorem swoH:SWO (ltC (cfH lo od)) where
 irrefl x:=by rw[qCZ];exact qvv lo od x
 trans x y z h k:=by rw[qCZ]at*;exact qu2 lo od h k
 ntrans x y z h k:=by
  rw[qCZ]at*
  rcases qzE lo od h with h|⟨h1,h2⟩
  ·rcases qzE lo od k with k|⟨k1,k2⟩
   ·cases e:ltH lo od x z with
    |false=>rfl
    |true=>have:=qu2 lo od (qu2 lo od e k) h;rw[qvv]at this;cases this
   cases e:ltH lo od x z with
   |false=>rfl
   |true=>
    have e2:ltH lo od x y=true:=by unfold ltH at e⊢;rw[k1,k2];exact e
    have:=qu2 lo od e2 h;rw[qvv]at this;cases this
  have:ltH lo od x z=ltH lo od y z:=by unfold ltH;rw[h1,h2]
  rw[this];exact k
variable [Inhabited α]
def qtB (l:List α):List α:=(pdq (ltC (cfH lo od)) l.toArray 0 l.toArray.size (Lib.bitLen l.toArray.size) true true).toList
theorem qr6 (l:List α):(qtB lo od l).length=l.length/\(qtB lo od l).Perm l/\ ∀i j,i<j->j<l.length->ltH lo od (qtB lo od l)[j]! (qtB lo od l)[i]! =false:=by
 obtain⟨⟨h1,_,h3⟩,h4⟩:=pdq_sorts (ltC (cfH lo od)) (swoH lo od) l.toArray 0 l.toArray.size (Lib.bitLen l.toArray.size) true true (Nat.zero_le _) (Nat.le_refl _) (Or.inl rfl)
 unfold qtB
 revert h1 h3 h4
 generalize pdq (ltC (cfH lo od)) l.toArray 0 l.toArray.size (Lib.bitLen l.toArray.size) true true=D
 intro h4 h1 h3
 have hl:D.size=l.length:=by simpa using h1
 refine⟨by simpa using hl,?_,fun i j hij hj=>?_⟩
 ·have e1:D.extract 0 l.toArray.size=D:=by rw[<-h1];simp
  have e2:l.toArray.extract 0 l.toArray.size=l.toArray:=by simp
  rw[e1,e2]at h3
  exact h3
 have:=h4 i j (Nat.zero_le _) hij (by simpa using hj)
 rw[qCZ,getElem!_pos D j (by omega),getElem!_pos D i (by omega)]at this
 rw[getElem!_pos D.toList j (by simp;omega),getElem!_pos D.toList i (by simp;omega),Array.getElem_toList,Array.getElem_toList]
 exact this
theorem qGg:qtB lo od ([]:List α)=[]:=YL.1 (qr6 lo od []).1
end
end Go.Av
end
