/-
  Rows of integers copied, and parts of them put in place of others: as lists.
-/
import Derived.Test.YtcgpgmdcfcncpaaGreatDoorAvTyp
import Derived.Test.YtcgpgmdcfcncpaaGreatDoorAvPrimJ
import Derived.Lib.SliceRun
import Derived.BigRegion
import Derived.RegionTactic
import Derived.Deep.RegionLaw
import Derived.Test.YtcgpgmdcfcncpaaGreatDoorAvWa
import Derived.Lib.AppendZeros
set_option maxRecDepth 100000
set_option linter.unusedVariables false
set_option linter.unusedSimpArgs false
set_option linter.unusedSectionVars false
noncomputable section
namespace Go.Av
def qfs (l:List Int):Option Unit:=if l.length<=1000000 then some ()else none
end Go.Av
end
noncomputable section
namespace Go.Av
open Go.Proofs Go.Shelf Go.RowKit Go.Lib
theorem qqx:(Tryz.prog.info? 3).map (fun i=>(i.zero,i.size,i.bytes))=some (some (Value.int IntKind.i64 0),1,8):=by kernel_rfl
theorem qjy (ns:List Int):qca ns=ns.flatMap encI.c:=by
 induction ns with
 |nil=>rfl
 |cons n ns ih=>rw[List.flatMap_cons,<-ih];rfl
theorem cluB:Tryz.prog.underlying 90=some (.slice 3):=by kernel_rfl
set_option maxHeartbeats 4000000 in
theorem qlh (p:Option Addr) (cap:Nat) (w:World):Calls Tryz.prog 111 #[.slice p 0 cap] w fun e w'=> ∃q,e= .returned (.slice q 0 0)/\Kept w w':=by
 obtain⟨D,hd⟩: ∃D,Op.maxDepth=D+1:=⟨9999,rfl⟩
 have hu:=run_underlying (P:=Tryz.prog) cluB
 cases p with
 |none=>
  have hg: ∀W,(binOp .eql 90 (.slice none 0 cap) (.slice none 0 0)).run Tryz.prog W= .ok (.bool true) W:=fun W=>by
   simp[binOp,Op.equal,hd,Op.equalIn,hu,go_sem]
  clear hd
  go_enter Tryz.func111,Tryz.ntmps111
  go_wp2
  go_ret
  exact⟨none,rfl,Kept.refl w⟩
 |some a=>
  have hg: ∀W,(binOp .eql 90 (.slice (some a) 0 cap) (.slice none 0 0)).run Tryz.prog W= .ok (.bool false) W:=fun W=>by
   simp[binOp,Op.equal,hd,Op.equalIn,hu,go_sem]
  clear hd
  go_enter Tryz.func111,Tryz.ntmps111
  go_wp2
  go_ret
  exact⟨_,rfl,(Kept.refl w).alloc _⟩
set_option maxHeartbeats 4000000 in
theorem qkN (a:Addr) (n cap:Nat) (vs:List Value) (w:World) (hn:0<n) (hbig:n<=1000000) (hl:vs.length=n) (hvs: ∀j v,vs[j]? =some v->w.cell? (a.add j)=some v) (h1: ∀v∈vs,v.oneCell'=true):
 Calls Tryz.prog 111 #[.slice (some a) n cap] w fun e w'=> ∃W:World,Kept w W/\e= .returned (.slice (some ⟨W.heap.size,0,none⟩) n (grownCap W n 0 3))/\w'=W.drew.alloc (.cells (vs.toArray++Builtin.zeroCells (Value.int .i64 0).cells (grownCap W n 0 3-n)) 3):=by
 obtain⟨D,hd⟩: ∃D,Op.maxDepth=D+1:=⟨9999,rfl⟩
 have hu:=run_underlying (P:=Tryz.prog) cluB
 have hg: ∀W,(binOp .eql 90 (.slice (some a) n cap) (.slice none 0 0)).run Tryz.prog W= .ok (.bool false) W:=fun W=>by
  simp[binOp,Op.equal,hd,Op.equalIn,hu,go_sem]
 clear hd
 obtain⟨i0,hi0,hzz⟩:=Yd.1 qqx
 simp only[ZP]at hzz
 obtain⟨hz0,hzs,hzb⟩:=hzz
 obtain⟨W0,hW0⟩: ∃W0,W0=w.alloc (.cells #[] 3):=⟨_,rfl⟩
 have hrun: ∀ty,(Builtin.append_ #[90,90] ty #[.slice (some ⟨w.heap.size,0,none⟩) 0 0,.slice (some a) n cap]).run Tryz.prog W0= .ok (.slice (some ⟨W0.heap.size,0,none⟩) n (grownCap W0 n 0 3)) (W0.drew.alloc (.cells (vs.toArray++Builtin.zeroCells (Value.int .i64 0).cells (grownCap W0 n 0 3-n)) 3)):=fun ty=>by
  have hsrc:Src Tryz.prog i0.size 90 (.slice (some a) n cap) n vs W0:=by
   rw[hzs]
   exact Src.ofSlice W0 cluB a n cap vs (by omega) (fun j v hj=>by rw[hW0];exact Lib.cell?_alloc_some _ (hvs j v hj)) h1
  have hold:(Builtin.firstCells i0.size 0 (.slice (some ⟨w.heap.size,0,none⟩) 0 0)).run Tryz.prog W0.drew= .ok ([]:List Value).toArray W0.drew:=by
   rw[hzs]
   exact run_firstCells_some W0.drew 1 0 _ 0 0 [] (by rfl) (fun j v hj=>by simp at hj)
  have h:=run_append_grow_src (P:=Tryz.prog) W0 90 90 ty 3 i0 _ cluB hi0 hz0 (some ⟨w.heap.size,0,none⟩) 0 0 [] hold _ n vs hsrc (by omega) (by omega) (by rw[hzb];exact growslice_fits (by omega) (by omega))
  rw[Nat.zero_add,List.nil_append]at h
  exact h
 go_enter Tryz.func111,Tryz.ntmps111
 subst hW0
 go_wp2_with (at_builtin;refine Lib.wpList_append_run _ rfl _ _ _ _ rfl _ _ rfl rfl _ _ (hrun _) ?_)
 go_ret
 exact⟨_,(Kept.refl w).alloc _,by simp,rfl⟩
theorem qjI (l:List Int) {u:Unit} (h:qfs l=some u):qb Tryz.prog (.fn 111) [vl encI l] [] (.gslice 0 l.length 1) [.cells (l.flatMap encI.c)]:=by
 unfold qfs at h
 split at h
 ·rename_i hl
  intro F nu w vs i hargs
  refine .inl ⟨enters_of (by kernel_rfl),?_⟩
  obtain⟨x,ws,rfl,hx,hws⟩:=hargs.cons_inv
  obtain rfl:=hws.nil_inv
  rw[<-qjy l]
  have hx:R F nu w (.fslice l.length (qca l)) x:=by rw[qjy];exact hx
  by_cases hp:0<l.length
  ·generalize hcs:qca l=cs at hx
   generalize hll:l.length=nl at hx
   cases hx with
   |fslice0=>omega
   |fslice n cs ad cap vs hn hF hlv hc hR=>
    subst hcs
    subst hll
    have hvv:vs=qbw l:=by
     apply List.ext_getElem?
     intro t
     by_cases ht:t<l.length
     ·have h1:(qca l)[t]? =some (.int .i64 l[t]):=by simp[qca,ht]
      have h2:vs[t]? =some (vs[t]'(by rw[hlv];simpa[qca]using ht)):=Ya _
      have:=(hR t _ _ h1 h2).int_inv
      rw[h2,this]
      simp[qbw,ht]
     rw[Yg (by rw[hlv];simp[qca];omega),Yg (by simp[qbw];omega)]
    subst hvv
    refine(qkN ad l.length cap (qbw l) w hp hl (by simp[qbw]) hc qpC).mono ?_
    rintro e w' ⟨W,hk,rfl,rfl⟩
    have s1:=Stp.kept i hk.heap hk.size hk.os hk.tape hk.output
    have hg:=grownCap_ge W l.length 0 3
    obtain⟨nu',st,hR'⟩:=qre s1.inv (w':=W.drew.alloc (.cells ((qbw l).toArray++Builtin.zeroCells (Value.int .i64 0).cells (grownCap W l.length 0 3-l.length)) 3)) (c1:=(qbw l).toArray++Builtin.zeroCells (Value.int .i64 0).cells (grownCap W l.length 0 3-l.length)) (n:=l.length) (cap:=grownCap W l.length 0 3) (ms:=l) (Go.heap_alloc_new W.drew _) (fun r hr=>Go.heap_alloc_old W.drew _ hr) (by simp) rfl rfl rfl rfl hg (by simp only[Array.size_append,size_zeroCells,Value.cells,List.size_toArray];simp[qbw];omega)
     (Go.grownCap_le_maxLen W l.length 0 _ (by unfold maxLen;omega)) (fun j hj=>by
      rw[YC (by simp[qbw];omega),List.getElem?_toArray])
    refine⟨_,F,nu',rfl,s1.trans st,?_⟩
    cases hR' with
    |oslice _ _ _ rb cap e m hb hc hs hm hx=>exact .gslice _ _ _ _ _ _ _ hp hb hc hs hm hx
  obtain rfl:l=[]:=List.eq_nil_of_length_eq_zero (by omega)
  obtain⟨p,cap,rfl⟩: ∃p cap,x= .slice p 0 cap:=by
   have hx:R F nu w (.fslice 0 []) x:=hx
   cases hx with
   |fslice0 A cap=>exact⟨A,cap,rfl⟩
   |fslice _ _ ad cap=>exact⟨some ad,cap,rfl⟩
  refine Calls.mono (qlh p cap w) ?_
  rintro e w' ⟨q,rfl,hk⟩
  have s1:=Stp.kept i hk.heap hk.size hk.os hk.tape hk.output
  have s2:=Stp.more s1.inv (.cells [])
  exact⟨_,F,nu,rfl,s1.trans s2,.gslice0 _ _ _⟩
 cases h
end Go.Av
end
