/-
  slices.SortFunc of notes by their marks, and slices.Clone of none: told on the abstract heap.
-/
import Derived.Test.YtjflombnfhlkaaaGreatDoorAvRow4
import Derived.Test.YtjflombnfhlkaaaGreatDoorAvCmp
import Derived.Test.YtjflombnfhlkaaaGreatDoorAvPl
import Derived.Shelf.SlSortCmp.NoneTotal
import Derived.Shelf.SlLaysF0
import Derived.Test.YtjflombnfhlkaaaGreatDoorProg
namespace Go.Proofs
open Go.Shelf
def Tryz.sortNote_ren:Go.Shelf.Ren:=⟨fun|6=>135|15=>180|14=>179|28=>213|29=>214|20=>200|21=>206|22=>207|23=>208|24=>209|25=>210|26=>211|27=>212|46=>240|47=>241|48=>242|49=>243|50=>244|57=>264|n=>n,fun|22=>96|24=>132|25=>210|3=>3|39=>241|0=>0|53=>263|55=>274|4=>4|46=>267|45=>266|50=>168|5=>5|9=>9|66=>298|70=>302|76=>319|77=>320|n=>n,fun|n=>n⟩
theorem Tryz.sortNote:Go.Proofs.SlLaysF0.n6 Tryz.prog Tryz.sortNote_ren:={
 mixed:=by kernel_rfl,
 f6:=⟨"slices.SortFunc[[]becket/record.Note,becket/record.Note]",by decide,Tryz.func135.trans (congrArg some (by kernel_rfl))⟩,
 f14:=⟨"slices.pdqsortCmpFunc[becket/record.Note]",by decide,Tryz.func179.trans (congrArg some (by kernel_rfl))⟩,
 f15:=Tryz.func180.trans (congrArg some (by kernel_rfl)),
 f20:=⟨"slices.insertionSortCmpFunc[becket/record.Note]",by decide,Tryz.func200.trans (congrArg some (by kernel_rfl))⟩,
 f21:=⟨"slices.heapSortCmpFunc[becket/record.Note]",by decide,Tryz.func206.trans (congrArg some (by kernel_rfl))⟩,
 f22:=⟨"slices.breakPatternsCmpFunc[becket/record.Note]",by decide,Tryz.func207.trans (congrArg some (by kernel_rfl))⟩,
 f23:=⟨"slices.choosePivotCmpFunc[becket/record.Note]",by decide,Tryz.func208.trans (congrArg some (by kernel_rfl))⟩,
 f24:=⟨"slices.reverseRangeCmpFunc[becket/record.Note]",by decide,Tryz.func209.trans (congrArg some (by kernel_rfl))⟩,
 f25:=⟨"slices.partialInsertionSortCmpFunc[becket/record.Note]",by decide,Tryz.func210.trans (congrArg some (by kernel_rfl))⟩,
 f26:=⟨"slices.partitionEqualCmpFunc[becket/record.Note]",by decide,Tryz.func211.trans (congrArg some (by kernel_rfl))⟩,
 f27:=⟨"slices.partitionCmpFunc[becket/record.Note]",by decide,Tryz.func212.trans (congrArg some (by kernel_rfl))⟩,
 f28:=Tryz.func213.trans (congrArg some (by kernel_rfl)),
 f29:=Tryz.func214.trans (congrArg some (by kernel_rfl)),
 f46:=⟨"slices.siftDownCmpFunc[becket/record.Note]",by decide,Tryz.func240.trans (congrArg some (by kernel_rfl))⟩,
 f47:=Tryz.func241.trans (congrArg some (by kernel_rfl)),
 f48:=Tryz.func242.trans (congrArg some (by kernel_rfl)),
 f49:=⟨"slices.medianAdjacentCmpFunc[becket/record.Note]",by decide,Tryz.func243.trans (congrArg some (by kernel_rfl))⟩,
 f50:=⟨"slices.medianCmpFunc[becket/record.Note]",by decide,Tryz.func244.trans (congrArg some (by kernel_rfl))⟩,
 f57:=⟨"slices.order2CmpFunc[becket/record.Note]",by decide,Tryz.func264.trans (congrArg some (by kernel_rfl))⟩,
 t0:=Tryz.underlying0,
 a0:=Tryz.isAgg0,
 z0:=Tryz.sizeOf0,
 v0:=Tryz.zeroValue0,
 t3:=Tryz.underlying3,
 a3:=Tryz.isAgg3,
 z3:=Tryz.sizeOf3,
 v3:=Tryz.zeroValue3,
 t4:=Tryz.underlying4,
 a4:=Tryz.isAgg4,
 z4:=Tryz.sizeOf4,
 v4:=Tryz.zeroValue4,
 t5:=Tryz.underlying5,
 a5:=Tryz.isAgg5,
 z5:=Tryz.sizeOf5,
 v5:=Tryz.zeroValue5,
 t9:=Tryz.underlying9,
 a9:=Tryz.isAgg9,
 z9:=Tryz.sizeOf9,
 v9:=Tryz.zeroValue9,
 t22:=Tryz.underlying96,
 a22:=Tryz.isAgg96,
 z22:=Tryz.sizeOf96,
 v22:=Tryz.zeroValue96,
 t25:=Tryz.underlying210,
 a25:=Tryz.isAgg210,
 z25:=Tryz.sizeOf210,
 v25:=Tryz.zeroValue210,
 t39:=Tryz.underlying241,
 a39:=Tryz.isAgg241,
 z39:=Tryz.sizeOf241,
 v39:=Tryz.zeroValue241,
 t45:=Tryz.underlying266,
 a45:=Tryz.isAgg266,
 z45:=Tryz.sizeOf266,
 v45:=Tryz.zeroValue266,
 t46:=Tryz.underlying267,
 a46:=Tryz.isAgg267,
 z46:=Tryz.sizeOf267,
 v46:=Tryz.zeroValue267,
 t50:=Tryz.underlying168,
 a50:=Tryz.isAgg168,
 z50:=Tryz.sizeOf168,
 v50:=Tryz.zeroValue168,
 t53:=Tryz.underlying263,
 a53:=Tryz.isAgg263,
 z53:=Tryz.sizeOf263,
 v53:=Tryz.zeroValue263,
 t55:=Tryz.underlying274,
 a55:=Tryz.isAgg274,
 z55:=Tryz.sizeOf274,
 v55:=Tryz.zeroValue274,
 t66:=Tryz.underlying298,
 a66:=Tryz.isAgg298,
 z66:=Tryz.sizeOf298,
 v66:=Tryz.zeroValue298,
 t70:=Tryz.underlying302,
 a70:=Tryz.isAgg302,
 z70:=Tryz.sizeOf302,
 v70:=Tryz.zeroValue302,
 t76:=Tryz.underlying319,
 a76:=Tryz.isAgg319,
 z76:=Tryz.sizeOf319,
 v76:=Tryz.zeroValue319,
 t77:=Tryz.underlying320,
 a77:=Tryz.isAgg320,
 z77:=Tryz.sizeOf320,
 v77:=Tryz.zeroValue320}
end Go.Proofs
noncomputable section
namespace Go.Av
open Go.Proofs Go.RowKit Go.Shelf Go.Sort
set_option linter.unusedSectionVars false
set_option linter.unusedVariables false
set_option linter.unusedSimpArgs false
set_option maxRecDepth 100000
def cf4 (x y:Q4):Int:=qhh x.1 x.2.1 y.1 y.2.1
def lt4 (x y:Q4):Bool:=ltL x.1 y.1||(x.1==y.1&&decide (x.2.1<y.2.1))
theorem qe0 (x y:Q4):ltOf cf4 x y=lt4 x y:=by
 unfold ltOf cf4 qhh qfa lt4 Lib.compareInt
 by_cases h1:ltL x.1 y.1=true
 ·simp[h1]
 ·by_cases h2:x.1=y.1
  ·rw[h2]at h1⊢
   by_cases h3:x.2.1<y.2.1
   ·simp[h1,h3]
   ·by_cases h4:x.2.1>y.2.1<;>simp[h1,h3,h4]
  ·simp[h1,h2]
theorem qae (x:Q4):lt4 x x=false:=by simp[lt4,vS]
theorem xZ {x y z:Q4} (h:lt4 x y=true) (k:lt4 y z=true):lt4 x z=true:=by
 unfold lt4 at h k⊢
 simp only[Bool.or_eq_true,Bool.and_eq_true,beq_iff_eq,decide_eq_true_eq]at h k⊢
 rcases h with h|⟨h1,h2⟩
 ·rcases k with k|⟨k1,k2⟩
  ·exact .inl (qb0 h k)
  ·exact .inl (k1▸h)
 ·rcases k with k|⟨k1,k2⟩
  ·exact .inl (h1▸k)
  ·exact .inr ⟨h1.trans k1,by omega⟩
theorem qed {x y:Q4} (h:lt4 x y=false):lt4 y x=true∨(x.1=y.1∧x.2.1=y.2.1):=by
 unfold lt4 at h⊢
 simp only[Bool.or_eq_false_iff,Bool.and_eq_false_iff,beq_eq_false_iff_ne,decide_eq_false_iff_not,Bool.or_eq_true,Bool.and_eq_true,beq_iff_eq,decide_eq_true_eq]at h⊢
 by_cases h1:ltL y.1 x.1=true
 ·exact .inl (.inl h1)
 ·have e:x.1=y.1:=qbL _ _ h.1 (by simpa using h1)
  rcases h.2 with h2|h2
  ·exact absurd e h2
  ·by_cases h3:y.2.1<x.2.1
   ·exact .inl (.inr ⟨e.symm,h3⟩)
   ·exact .inr ⟨e,by omega⟩
theorem swo4:SWO (ltOf cf4) where
 irrefl x:=by rw[qe0];exact qae x
 trans x y z h k:=by rw[qe0]at*;exact xZ h k
 ntrans x y z h k:=by
  rw[qe0]at*
  rcases qed h with h|⟨h1,h2⟩
  ·rcases qed k with k|⟨k1,k2⟩
   ·cases e:lt4 x z with
    |false=>rfl
    |true=>have:=xZ (xZ e k) h;rw[qae]at this;cases this
   ·cases e:lt4 x z with
    |false=>rfl
    |true=>
     have e2:lt4 x y=true:=by unfold lt4 at e⊢;rw[k1,k2];exact e
     have:=xZ e2 h;rw[qae]at this;cases this
  ·have:lt4 x z=lt4 y z:=by unfold lt4;rw[h1,h2]
   rw[this];exact k
def yU (l:List Q4):List Q4:=(pdq (ltOf cf4) l.toArray 0 l.toArray.size (Lib.bitLen l.toArray.size) true true).toList
theorem vX (l:List Q4):(yU l).length=l.length∧(yU l).Perm l∧ ∀i j,i<j→j<l.length→lt4 (yU l)[j]! (yU l)[i]! =false:=by
 obtain⟨⟨h1,_,h3⟩,h4⟩:=pdq_sorts (ltOf cf4) swo4 l.toArray 0 l.toArray.size (Lib.bitLen l.toArray.size) true true (Nat.zero_le _) (Nat.le_refl _) (Or.inl rfl)
 unfold yU
 revert h1 h3 h4
 generalize pdq (ltOf cf4) l.toArray 0 l.toArray.size (Lib.bitLen l.toArray.size) true true=D
 intro h4 h1 h3
 have hl:D.size=l.length:=by simpa using h1
 refine⟨by simpa using hl,?_,fun i j hij hj=>?_⟩
 ·have e1:D.extract 0 l.toArray.size=D:=by rw[←h1];simp
  have e2:l.toArray.extract 0 l.toArray.size=l.toArray:=by simp
  rw[e1,e2]at h3
  exact h3
 ·have:=h4 i j (Nat.zero_le _) hij (by simpa using hj)
  rw[qe0,getElem!_pos D j (by omega),getElem!_pos D i (by omega)]at this
  rw[getElem!_pos D.toList j (by simp;omega),getElem!_pos D.toList i (by simp;omega),Array.getElem_toList,Array.getElem_toList]
  exact this
theorem cmp4 (rb:Nat) (n:Nat) (w:World):CmpLays Tryz.prog 136 #[] e4 4 cf4 rb 0 n w:=
 fun _ _ _ _ x y=>qif ⟨x.1.toArray⟩ ⟨x.2.2.2.toArray⟩ ⟨y.1.toArray⟩ ⟨y.2.2.2.toArray⟩ x.2.1 x.2.2.1 y.2.1 y.2.2.1 _
theorem qky: ∀args w,(callFunc 136 args).run Tryz.prog w= .ok (.enter 136 args) w:=Go.Proofs.enters_of Tryz.func136 (by kernel_rfl) rfl
theorem qh3 {F:Nat→Prop} {nu:Nat→Option Nat} {w:World} {g:FuncId} {v:Value} (h:R F nu w (.func (.func g) [] []) v):v= .func (.func g) #[] #[]:=by
 cases h with
 |func fn fs cs vf vc h1 h2 hf hc=>
  obtain rfl:vf=#[]:=Array.eq_empty_of_size_eq_zero (by simpa using h1)
  obtain rfl:vc=#[]:=Array.eq_empty_of_size_eq_zero (by simpa using h2)
  rfl
theorem qfM {ns:List Q4} (hn:ns.length≤100000) {F:Nat→Prop} {nu:Nat→Option Nat} {w:World} (i:Inv F nu [.cells (ns.flatMap c4)] w) {rb cap:Nat} (hb:nu 0=some rb):
 Calls Tryz.prog 135 #[.slice (some ⟨rb,0,none⟩) ns.length cap,.func (.func 136) #[] #[]] w fun e w'=> ∃v F' nu',e= .returned v∧Stp F nu [.cells (ns.flatMap c4)] w F' nu' [.cells ((yU ns).flatMap c4)] w'∧R F' nu' w' (.tuple []) v:=by
 obtain⟨c0,e0,hh,hl,hH⟩:=qg5 i hb (show[Blk.cells (ns.flatMap c4)][0]? =some _ from rfl)
 have key:=AnyQ.slices_SortFunc_eq Tryz.sortNote 4 Tryz.isAgg132 Tryz.sizeOf132 e4 qkC one4 cf4 swo4 136 #[] rb 0 cap ns.toArray w qky (cmp4 rb _ w) hH (i.ltN 0 rb hb) (by simp;omega)
 have hs:ns.toArray.size=ns.length:=by simp
 refine Calls.mono (show Calls Tryz.prog 135 #[.slice (some ⟨rb,0,none⟩) ns.length cap,.func (.func 136) #[] #[]] w _ from hs▸key) ?_
 rintro e w' ⟨rfl,m,os,rfl⟩
 have st:=qeX i (m:=m) (os:=os) hb (show[Blk.cells (ns.flatMap c4)][0]? =some _ from rfl) (vX ns).1
 have et:(yU ns).toArray=pdq (ltOf cf4) ns.toArray 0 ns.toArray.size (Lib.bitLen ns.toArray.size) true true:=by unfold yU;simp
 rw[et]at st
 exact⟨_,F,nu,rfl,st,.tuple _ _ rfl fun i a v ha _=>by simp at ha⟩
theorem qhC {p:Option Addr} {cap:Nat} {F:Nat→Prop} {nu:Nat→Option Nat} {w:World} (i:Inv F nu [.cells []] w):
 Calls Tryz.prog 135 #[.slice p 0 cap,.func (.func 136) #[] #[]] w fun e w'=> ∃v F' nu',e= .returned v∧Stp F nu [.cells []] w F' nu' [.cells []] w'∧R F' nu' w' (.tuple []) v:=by
 refine Calls.mono (show Calls Tryz.prog 135 #[.slice p 0 cap,.func (.func 136) #[] #[]] w _ from AnyF.slices_SortFunc_none Tryz.sortNote p cap _ w) ?_
 rintro e w' ⟨rfl,rfl⟩
 exact⟨_,F,nu,rfl,.refl i,.tuple _ _ rfl fun i a v ha _=>by simp at ha⟩
theorem qhF:yU []=[]:=List.length_eq_zero_iff.1 (vX []).1
theorem qkl {ns:List Q4} (hn:ns.length≤100000):qc Tryz.prog (.fn 135) [.oslice 0 ns.length 4,.func (.func 136) [] []] [.cells (ns.flatMap c4)] (.tuple []) [.cells ((yU ns).flatMap c4)]:=by
 intro F nu w vs i hargs
 refine .inl ⟨enters_of (by kernel_rfl),?_⟩
 obtain⟨x,ws,rfl,hx,hws⟩:=hargs.cons_inv
 obtain⟨y,us,he,hy,hus⟩:=hws.cons_inv
 obtain rfl:ws=y::us:=by simpa using he
 obtain rfl:=hus.nil_inv
 obtain rfl:=qh3 hy
 cases hx with
 |oslice _ _ _ rb cap e m hb hc hsh hm hxx=>exact qfM hn i hb
theorem qkz {ns:List Q4} (hn:ns.length≤100000):qc Tryz.prog (.fn 135) [.gslice 0 ns.length 4,.func (.func 136) [] []] [.cells (ns.flatMap c4)] (.tuple []) [.cells ((yU ns).flatMap c4)]:=by
 intro F nu w vs i hargs
 refine .inl ⟨enters_of (by kernel_rfl),?_⟩
 obtain⟨x,ws,rfl,hx,hws⟩:=hargs.cons_inv
 obtain⟨y,us,he,hy,hus⟩:=hws.cons_inv
 obtain rfl:ws=y::us:=by simpa using he
 obtain rfl:=hus.nil_inv
 obtain rfl:=qh3 hy
 match ns,hx with
 |[],hx=>
  cases hx with
  |gslice0 _ _ p=>
   rw[qhF]
   exact qhC i
  |gslice _ _ _ rb cap e m hp=>exact absurd hp (by simp)
 |n::ns,hx=>
  cases hx with
  |gslice _ _ _ rb cap e m hp hb hc hsh hm hxx=>exact qfM hn i hb
theorem qf3 (p:Option Addr) (cap:Nat) (w:World):Calls Tryz.prog 123 #[.slice p 0 cap] w fun e w'=> ∃q,e= .returned (.slice q 0 0)∧Kept w w':=by
 obtain⟨D,hd⟩: ∃D,Op.maxDepth=D+1:=⟨9999,rfl⟩
 cases p with
 |none=>
  have hg: ∀W,(binOp .eql 96 (.slice none 0 cap) (.slice none 0 0)).run Tryz.prog W= .ok (.bool true) W:=fun W=>by
   simp[binOp,Op.equal,hd,Op.equalIn,run_underlying Tryz.underlying96,go_sem]
  clear hd
  go_enter Tryz.func123,Tryz.ntmps123
  go_wp2
  go_ret
  exact⟨none,rfl,Kept.refl w⟩
 |some a=>
  have hg: ∀W,(binOp .eql 96 (.slice (some a) 0 cap) (.slice none 0 0)).run Tryz.prog W= .ok (.bool false) W:=fun W=>by
   simp[binOp,Op.equal,hd,Op.equalIn,run_underlying Tryz.underlying96,go_sem]
  clear hd
  go_enter Tryz.func123,Tryz.ntmps123
  go_wp2
  go_ret
  exact⟨_,rfl,(Kept.refl w).alloc _⟩
theorem qjX:qc Tryz.prog (.fn 123) [.fslice 0 []] [] (.gslice 0 0 4) [.cells []]:=by
 intro F nu w vs i hargs
 refine .inl ⟨enters_of (by kernel_rfl),?_⟩
 obtain⟨x,ws,rfl,hx,hws⟩:=hargs.cons_inv
 obtain rfl:=hws.nil_inv
 obtain⟨p,cap,rfl⟩: ∃p cap,x= .slice p 0 cap:=by
  cases hx with
  |fslice0 A cap=>exact⟨A,cap,rfl⟩
  |fslice _ _ ad cap=>exact⟨some ad,cap,rfl⟩
 refine Calls.mono (qf3 p cap w) ?_
 rintro e w' ⟨q,rfl,hk⟩
 have s1:=Stp.kept i hk.heap hk.size hk.os hk.tape hk.output
 have s2:=Stp.more s1.inv (.cells [])
 exact⟨_,F,nu,rfl,s1.trans s2,.gslice0 _ _ _⟩
end Go.Av
