/-
  slices.SortFunc of notes by their marks, and slices.Clone of none: told on the abstract heap.
-/
import Derived.Shelf.SlLaysF0
import Derived.Test.YtphbhegcojmijaaGreatDoorProg
import Derived.Test.YtphbhegcojmijaaGreatDoorAvRow4
import Derived.Test.YtphbhegcojmijaaGreatDoorAvCmpC
import Derived.Test.YtphbhegcojmijaaGreatDoorAvPl
import Derived.Shelf.SlSortCmp.NoneTotal
section
namespace Go.Proofs
open Go.Shelf
def Tryz.sortNote_ren:Go.Shelf.Ren:=⟨fun|6=>60|15=>108|14=>107|28=>156|29=>157|20=>148|21=>149|22=>150|23=>151|24=>152|25=>153|26=>154|27=>155|46=>209|47=>210|48=>211|49=>212|50=>213|57=>248|n=>n,fun|22=>54|24=>112|25=>125|3=>3|39=>183|0=>0|53=>214|55=>216|4=>4|46=>208|45=>207|50=>178|5=>5|9=>9|66=>259|70=>263|76=>289|77=>290|n=>n,fun|n=>n⟩
theorem Tryz.sortNote:Go.Proofs.SlLaysF0.n6 Tryz.prog Tryz.sortNote_ren:={
 mixed:=by kernel_rfl,
 f6:=⟨"slices.SortFunc[[]becket/record.Note,becket/record.Note]",by decide,Tryz.func60.trans (congrArg some (by kernel_rfl))⟩,
 f14:=⟨"slices.pdqsortCmpFunc[becket/record.Note]",by decide,Tryz.func107.trans (congrArg some (by kernel_rfl))⟩,
 f15:=Tryz.func108.trans (congrArg some (by kernel_rfl)),
 f20:=⟨"slices.insertionSortCmpFunc[becket/record.Note]",by decide,Tryz.func148.trans (congrArg some (by kernel_rfl))⟩,
 f21:=⟨"slices.heapSortCmpFunc[becket/record.Note]",by decide,Tryz.func149.trans (congrArg some (by kernel_rfl))⟩,
 f22:=⟨"slices.breakPatternsCmpFunc[becket/record.Note]",by decide,Tryz.func150.trans (congrArg some (by kernel_rfl))⟩,
 f23:=⟨"slices.choosePivotCmpFunc[becket/record.Note]",by decide,Tryz.func151.trans (congrArg some (by kernel_rfl))⟩,
 f24:=⟨"slices.reverseRangeCmpFunc[becket/record.Note]",by decide,Tryz.func152.trans (congrArg some (by kernel_rfl))⟩,
 f25:=⟨"slices.partialInsertionSortCmpFunc[becket/record.Note]",by decide,Tryz.func153.trans (congrArg some (by kernel_rfl))⟩,
 f26:=⟨"slices.partitionEqualCmpFunc[becket/record.Note]",by decide,Tryz.func154.trans (congrArg some (by kernel_rfl))⟩,
 f27:=⟨"slices.partitionCmpFunc[becket/record.Note]",by decide,Tryz.func155.trans (congrArg some (by kernel_rfl))⟩,
 f28:=Tryz.func156.trans (congrArg some (by kernel_rfl)),
 f29:=Tryz.func157.trans (congrArg some (by kernel_rfl)),
 f46:=⟨"slices.siftDownCmpFunc[becket/record.Note]",by decide,Tryz.func209.trans (congrArg some (by kernel_rfl))⟩,
 f47:=Tryz.func210.trans (congrArg some (by kernel_rfl)),
 f48:=Tryz.func211.trans (congrArg some (by kernel_rfl)),
 f49:=⟨"slices.medianAdjacentCmpFunc[becket/record.Note]",by decide,Tryz.func212.trans (congrArg some (by kernel_rfl))⟩,
 f50:=⟨"slices.medianCmpFunc[becket/record.Note]",by decide,Tryz.func213.trans (congrArg some (by kernel_rfl))⟩,
 f57:=⟨"slices.order2CmpFunc[becket/record.Note]",by decide,Tryz.func248.trans (congrArg some (by kernel_rfl))⟩,
 t0:=Tryz.underlying0,
 a0:=Tryz.isAgg0,
 z0:=Tryz.sizeOf0,
 v0:=Tryz.zeroValue0,
 t3:=Tryz.underlying3,
 a3:=Tryz.isAgg3,
 z3:=Tryz.sizeOf3,
 v3:=Tryz.zeroValue3,
 t4:=Tryz.underlying4,
 a4:=Tryz.isAgg4,
 z4:=Tryz.sizeOf4,
 v4:=Tryz.zeroValue4,
 t5:=Tryz.underlying5,
 a5:=Tryz.isAgg5,
 z5:=Tryz.sizeOf5,
 v5:=Tryz.zeroValue5,
 t9:=Tryz.underlying9,
 a9:=Tryz.isAgg9,
 z9:=Tryz.sizeOf9,
 v9:=Tryz.zeroValue9,
 t22:=Tryz.underlying54,
 a22:=Tryz.isAgg54,
 z22:=Tryz.sizeOf54,
 v22:=Tryz.zeroValue54,
 t25:=Tryz.underlying125,
 a25:=Tryz.isAgg125,
 z25:=Tryz.sizeOf125,
 v25:=Tryz.zeroValue125,
 t39:=Tryz.underlying183,
 a39:=Tryz.isAgg183,
 z39:=Tryz.sizeOf183,
 v39:=Tryz.zeroValue183,
 t45:=Tryz.underlying207,
 a45:=Tryz.isAgg207,
 z45:=Tryz.sizeOf207,
 v45:=Tryz.zeroValue207,
 t46:=Tryz.underlying208,
 a46:=Tryz.isAgg208,
 z46:=Tryz.sizeOf208,
 v46:=Tryz.zeroValue208,
 t50:=Tryz.underlying178,
 a50:=Tryz.isAgg178,
 z50:=Tryz.sizeOf178,
 v50:=Tryz.zeroValue178,
 t53:=Tryz.underlying214,
 a53:=Tryz.isAgg214,
 z53:=Tryz.sizeOf214,
 v53:=Tryz.zeroValue214,
 t55:=Tryz.underlying216,
 a55:=Tryz.isAgg216,
 z55:=Tryz.sizeOf216,
 v55:=Tryz.zeroValue216,
 t66:=Tryz.underlying259,
 a66:=Tryz.isAgg259,
 z66:=Tryz.sizeOf259,
 v66:=Tryz.zeroValue259,
 t70:=Tryz.underlying263,
 a70:=Tryz.isAgg263,
 z70:=Tryz.sizeOf263,
 v70:=Tryz.zeroValue263,
 t76:=Tryz.underlying289,
 a76:=Tryz.isAgg289,
 z76:=Tryz.sizeOf289,
 v76:=Tryz.zeroValue289,
 t77:=Tryz.underlying290,
 a77:=Tryz.isAgg290,
 z77:=Tryz.sizeOf290,
 v77:=Tryz.zeroValue290}
end Go.Proofs
end
noncomputable section
namespace Go.Av
open Go.Proofs Go.RowKit Go.Shelf Go.Sort
set_option linter.unusedSectionVars false
set_option linter.unusedVariables false
set_option linter.unusedSimpArgs false
set_option maxRecDepth 100000
def cf4 (x y:Q4):Int:=qtx x.1 x.2.1 y.1 y.2.1
def lt4 (x y:Q4):Bool:=ltL x.1 y.1||(x.1==y.1&&decide (x.2.1<y.2.1))
theorem qqM (x y:Q4):ltOf cf4 x y=lt4 x y:=by
 unfold ltOf cf4 qtx qrj lt4 Lib.compareInt
 by_cases h1:ltL x.1 y.1=true
 ·simp[h1]
 ·by_cases h2:x.1=y.1
  ·rw[h2]at h1⊢
   by_cases h3:x.2.1<y.2.1
   ·simp[h1,h3]
   ·by_cases h4:x.2.1>y.2.1<;>simp[h1,h3,h4]
  ·simp[h1,h2]
theorem qiC (x:Q4):lt4 x x=false:=by simp[lt4,qdJ]
theorem qhO {x y z:Q4} (h:lt4 x y=true) (k:lt4 y z=true):lt4 x z=true:=by
 unfold lt4 at h k⊢
 simp only[Bool.or_eq_true,Bool.and_eq_true,beq_iff_eq,decide_eq_true_eq]at h k⊢
 rcases h with h|⟨h1,h2⟩
 ·rcases k with k|⟨k1,k2⟩
  ·exact .inl (qfz h k)
  ·exact .inl (k1▸h)
 ·rcases k with k|⟨k1,k2⟩
  ·exact .inl (h1▸k)
  ·exact .inr ⟨h1.trans k1,by omega⟩
theorem qpY {x y:Q4} (h:lt4 x y=false):lt4 y x=true∨(x.1=y.1∧x.2.1=y.2.1):=by
 unfold lt4 at h⊢
 simp only[Bool.or_eq_false_iff,Bool.and_eq_false_iff,beq_eq_false_iff_ne,decide_eq_false_iff_not,Bool.or_eq_true,Bool.and_eq_true,beq_iff_eq,decide_eq_true_eq]at h⊢
 by_cases h1:ltL y.1 x.1=true
 ·exact .inl (.inl h1)
 ·have e:x.1=y.1:=qhi _ _ h.1 (by simpa using h1)
  rcases h.2 with h2|h2
  ·exact absurd e h2
  ·by_cases h3:y.2.1<x.2.1
   ·exact .inl (.inr ⟨e.symm,h3⟩)
   ·exact .inr ⟨e,by omega⟩
theorem swo4:SWO (ltOf cf4) where
 irrefl x:=by rw[qqM];exact qiC x
 trans x y z h k:=by rw[qqM]at*;exact qhO h k
 ntrans x y z h k:=by
  rw[qqM]at*
  rcases qpY h with h|⟨h1,h2⟩
  ·rcases qpY k with k|⟨k1,k2⟩
   ·cases e:lt4 x z with
    |false=>rfl
    |true=>have:=qhO (qhO e k) h;rw[qiC]at this;cases this
   ·cases e:lt4 x z with
    |false=>rfl
    |true=>
     have e2:lt4 x y=true:=by unfold lt4 at e⊢;rw[k1,k2];exact e
     have:=qhO e2 h;rw[qiC]at this;cases this
  ·have:lt4 x z=lt4 y z:=by unfold lt4;rw[h1,h2]
   rw[this];exact k
def qgr (l:List Q4):List Q4:=(pdq (ltOf cf4) l.toArray 0 l.toArray.size (Lib.bitLen l.toArray.size) true true).toList
theorem qeJ (l:List Q4):(qgr l).length=l.length∧(qgr l).Perm l∧ ∀i j,i<j→j<l.length→lt4 (qgr l)[j]! (qgr l)[i]! =false:=by
 obtain⟨⟨h1,_,h3⟩,h4⟩:=pdq_sorts (ltOf cf4) swo4 l.toArray 0 l.toArray.size (Lib.bitLen l.toArray.size) true true (Nat.zero_le _) (Nat.le_refl _) (Or.inl rfl)
 unfold qgr
 revert h1 h3 h4
 generalize pdq (ltOf cf4) l.toArray 0 l.toArray.size (Lib.bitLen l.toArray.size) true true=D
 intro h4 h1 h3
 have hl:D.size=l.length:=by simpa using h1
 refine⟨by simpa using hl,?_,fun i j hij hj=>?_⟩
 ·have e1:D.extract 0 l.toArray.size=D:=by rw[←h1];simp
  have e2:l.toArray.extract 0 l.toArray.size=l.toArray:=by simp
  rw[e1,e2]at h3
  exact h3
 ·have:=h4 i j (Nat.zero_le _) hij (by simpa using hj)
  rw[qqM,getElem!_pos D j (by omega),getElem!_pos D i (by omega)]at this
  rw[getElem!_pos D.toList j (by simp;omega),getElem!_pos D.toList i (by simp;omega),Array.getElem_toList,Array.getElem_toList]
  exact this
theorem cmp4 (rb:Nat) (n:Nat) (w:World):CmpLays Tryz.prog 61 #[] e4 4 cf4 rb 0 n w:=
 fun _ _ _ _ x y=>qvM ⟨x.1.toArray⟩ ⟨x.2.2.2.toArray⟩ ⟨y.1.toArray⟩ ⟨y.2.2.2.toArray⟩ x.2.1 x.2.2.1 y.2.1 y.2.2.1 _
theorem qxZ: ∀args w,(callFunc 61 args).run Tryz.prog w= .ok (.enter 61 args) w:=Go.Proofs.enters_of Tryz.func61 (by kernel_rfl) rfl
theorem qv2 {F:Nat→Prop} {nu:Nat→Option Nat} {w:World} {g:FuncId} {v:Value} (h:R F nu w (.func (.func g) [] []) v):v= .func (.func g) #[] #[]:=by
 cases h with
 |func fn fs cs vf vc h1 h2 hf hc=>
  obtain rfl:vf=#[]:=Array.eq_empty_of_size_eq_zero (by simpa using h1)
  obtain rfl:vc=#[]:=Array.eq_empty_of_size_eq_zero (by simpa using h2)
  rfl
theorem qrC {ns:List Q4} (hn:ns.length≤100000) {F:Nat→Prop} {nu:Nat→Option Nat} {w:World} (i:Inv F nu [.cells (ns.flatMap c4)] w) {rb cap:Nat} (hb:nu 0=some rb):
 Calls Tryz.prog 60 #[.slice (some ⟨rb,0,none⟩) ns.length cap,.func (.func 61) #[] #[]] w fun e w'=> ∃v F' nu',e= .returned v∧Stp F nu [.cells (ns.flatMap c4)] w F' nu' [.cells ((qgr ns).flatMap c4)] w'∧R F' nu' w' (.tuple []) v:=by
 obtain⟨c0,e0,hh,hl,hH⟩:=qs8 i hb (show[Blk.cells (ns.flatMap c4)][0]? =some _ from rfl)
 have key:=AnyQ.slices_SortFunc_eq Tryz.sortNote 4 Tryz.isAgg112 Tryz.sizeOf112 e4 qxl one4 cf4 swo4 61 #[] rb 0 cap ns.toArray w qxZ (cmp4 rb _ w) hH (i.ltN 0 rb hb) (by simp;omega)
 have hs:ns.toArray.size=ns.length:=by simp
 refine Calls.mono (show Calls Tryz.prog 60 #[.slice (some ⟨rb,0,none⟩) ns.length cap,.func (.func 61) #[] #[]] w _ from hs▸key) ?_
 rintro e w' ⟨rfl,m,os,rfl⟩
 have st:=qqR i (m:=m) (os:=os) hb (show[Blk.cells (ns.flatMap c4)][0]? =some _ from rfl) (qeJ ns).1
 have et:(qgr ns).toArray=pdq (ltOf cf4) ns.toArray 0 ns.toArray.size (Lib.bitLen ns.toArray.size) true true:=by unfold qgr;simp
 rw[et]at st
 exact⟨_,F,nu,rfl,st,.tuple _ _ rfl fun i a v ha _=>by simp at ha⟩
theorem qtW {p:Option Addr} {cap:Nat} {F:Nat→Prop} {nu:Nat→Option Nat} {w:World} (i:Inv F nu [.cells []] w):
 Calls Tryz.prog 60 #[.slice p 0 cap,.func (.func 61) #[] #[]] w fun e w'=> ∃v F' nu',e= .returned v∧Stp F nu [.cells []] w F' nu' [.cells []] w'∧R F' nu' w' (.tuple []) v:=by
 refine Calls.mono (show Calls Tryz.prog 60 #[.slice p 0 cap,.func (.func 61) #[] #[]] w _ from AnyF.slices_SortFunc_none Tryz.sortNote p cap _ w) ?_
 rintro e w' ⟨rfl,rfl⟩
 exact⟨_,F,nu,rfl,.refl i,.tuple _ _ rfl fun i a v ha _=>by simp at ha⟩
theorem qt3:qgr []=[]:=List.length_eq_zero_iff.1 (qeJ []).1
theorem qxg {ns:List Q4} (hn:ns.length≤100000):qj Tryz.prog (.fn 60) [.oslice 0 ns.length 4,.func (.func 61) [] []] [.cells (ns.flatMap c4)] (.tuple []) [.cells ((qgr ns).flatMap c4)]:=by
 intro F nu w vs i hargs
 refine .inl ⟨enters_of (by kernel_rfl),?_⟩
 obtain⟨x,ws,rfl,hx,hws⟩:=hargs.cons_inv
 obtain⟨y,us,he,hy,hus⟩:=hws.cons_inv
 obtain rfl:ws=y::us:=by simpa using he
 obtain rfl:=hus.nil_inv
 obtain rfl:=qv2 hy
 cases hx with
 |oslice _ _ _ rb cap e m hb hc hsh hm hxx=>exact qrC hn i hb
theorem qxv {ns:List Q4} (hn:ns.length≤100000):qj Tryz.prog (.fn 60) [.gslice 0 ns.length 4,.func (.func 61) [] []] [.cells (ns.flatMap c4)] (.tuple []) [.cells ((qgr ns).flatMap c4)]:=by
 intro F nu w vs i hargs
 refine .inl ⟨enters_of (by kernel_rfl),?_⟩
 obtain⟨x,ws,rfl,hx,hws⟩:=hargs.cons_inv
 obtain⟨y,us,he,hy,hus⟩:=hws.cons_inv
 obtain rfl:ws=y::us:=by simpa using he
 obtain rfl:=hus.nil_inv
 obtain rfl:=qv2 hy
 match ns,hx with
 |[],hx=>
  cases hx with
  |gslice0 _ _ p=>
   rw[qt3]
   exact qtW i
  |gslice _ _ _ rb cap e m hp=>exact absurd hp (by simp)
 |n::ns,hx=>
  cases hx with
  |gslice _ _ _ rb cap e m hp hb hc hsh hm hxx=>exact qrC hn i hb
theorem qsI (p:Option Addr) (cap:Nat) (w:World):Calls Tryz.prog 56 #[.slice p 0 cap] w fun e w'=> ∃q,e= .returned (.slice q 0 0)∧Kept w w':=by
 obtain⟨D,hd⟩: ∃D,Op.maxDepth=D+1:=⟨9999,rfl⟩
 cases p with
 |none=>
  have hg: ∀W,(binOp .eql 54 (.slice none 0 cap) (.slice none 0 0)).run Tryz.prog W= .ok (.bool true) W:=fun W=>by
   simp[binOp,Op.equal,hd,Op.equalIn,run_underlying Tryz.underlying54,go_sem]
  clear hd
  go_enter Tryz.func56,Tryz.ntmps56
  go_wp2
  go_ret
  exact⟨none,rfl,Kept.refl w⟩
 |some a=>
  have hg: ∀W,(binOp .eql 54 (.slice (some a) 0 cap) (.slice none 0 0)).run Tryz.prog W= .ok (.bool false) W:=fun W=>by
   simp[binOp,Op.equal,hd,Op.equalIn,run_underlying Tryz.underlying54,go_sem]
  clear hd
  go_enter Tryz.func56,Tryz.ntmps56
  go_wp2
  go_ret
  exact⟨_,rfl,(Kept.refl w).alloc _⟩
theorem qwE:qj Tryz.prog (.fn 56) [.fslice 0 []] [] (.gslice 0 0 4) [.cells []]:=by
 intro F nu w vs i hargs
 refine .inl ⟨enters_of (by kernel_rfl),?_⟩
 obtain⟨x,ws,rfl,hx,hws⟩:=hargs.cons_inv
 obtain rfl:=hws.nil_inv
 obtain⟨p,cap,rfl⟩: ∃p cap,x= .slice p 0 cap:=by
  cases hx with
  |fslice0 A cap=>exact⟨A,cap,rfl⟩
  |fslice _ _ ad cap=>exact⟨some ad,cap,rfl⟩
 refine Calls.mono (qsI p cap w) ?_
 rintro e w' ⟨q,rfl,hk⟩
 have s1:=Stp.kept i hk.heap hk.size hk.os hk.tape hk.output
 have s2:=Stp.more s1.inv (.cells [])
 exact⟨_,F,nu,rfl,s1.trans s2,.gslice0 _ _ _⟩
end Go.Av
end
