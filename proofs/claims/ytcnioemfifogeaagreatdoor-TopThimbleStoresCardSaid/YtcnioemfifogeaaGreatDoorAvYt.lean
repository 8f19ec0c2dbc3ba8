/-
  slices.Clone at rows of structs of plain cells, told on the abstract heap.
-/
import Derived.Test.YtcnioemfifogeaaGreatDoorAvPrimQ3
import Derived.Test.YtcnioemfifogeaaGreatDoorAvFt
import Derived.BigRegion
import Derived.RegionTactic
import Derived.Deep.RegionLaw
import Derived.Shelf.Spec.SlicesInsertGrow
import Derived.Test.YtcnioemfifogeaaGreatDoorAvLayYQ3
import Derived.Lib.Small
import Derived.Lib.Walk
import Derived.Lib.Bytealg
import Derived.Deep.Draws
import Derived.Sort.Grow
import Derived.Laws.Rows
import Derived.LoopN
import Derived.StillTailTactics
import Derived.Shelf.SlSortCmp.QuietGrown
import Derived.Shelf.GgSortFunc.RowK
import Derived.Shelf.SlSortCmp.NoneTotal
set_option maxRecDepth 100000
set_option linter.unusedVariables false
set_option linter.unusedSimpArgs false
set_option linter.unusedSectionVars false
noncomputable section
namespace Go.Av
open Go.Proofs Go.Shelf Go.RowKit Go.Lib
theorem qzt:SlT Tryz.prog 27 71 4 56:=⟨by kernel_rfl,by kernel_rfl,by kernel_rfl,by kernel_rfl⟩
theorem qmV:Tryz.prog.underlying 27=some (.slice 71):=by kernel_rfl
set_option maxHeartbeats 4000000 in
theorem qBA (p:Option Addr) (cap:Nat) (w:World):Calls Tryz.prog 120 #[.slice p 0 cap] w fun e w'=> ∃q,e= .returned (.slice q 0 0)/\Kept w w':=by
 obtain⟨D,hd⟩: ∃D,Op.maxDepth=D+1:=⟨9999,rfl⟩
 have hu:=run_underlying (P:=Tryz.prog) qmV
 cases p with
 |none=>
  have hg: ∀W,(binOp .eql 27 (.slice none 0 cap) (.slice none 0 0)).run Tryz.prog W= .ok (.bool true) W:=fun W=>by
   simp[binOp,Op.equal,hd,Op.equalIn,hu,go_sem]
  clear hd
  go_enter Tryz.func120,Tryz.ntmps120
  go_wp2
  go_ret
  exact⟨none,rfl,Kept.refl w⟩
 |some a=>
  have hg: ∀W,(binOp .eql 27 (.slice (some a) 0 cap) (.slice none 0 0)).run Tryz.prog W= .ok (.bool false) W:=fun W=>by
   simp[binOp,Op.equal,hd,Op.equalIn,hu,go_sem]
  clear hd
  go_enter Tryz.func120,Tryz.ntmps120
  go_wp2
  go_ret
  exact⟨_,rfl,(Kept.refl w).alloc _⟩
set_option maxHeartbeats 4000000 in
theorem qBC (a:Addr) (n cap:Nat) (vs:List Value) (zc:Array Value) (w:World) (hzz:((Tryz.prog.info? 71).bind (·.zero)).map (·.cells)=some zc) (hn:0<n) (hbig:n<=1000000) (hl:vs.length=n*4) (hvs: ∀j v,vs[j]? =some v->w.cell? (a.add j)=some v) (h1: ∀v∈vs,v.oneCell'=true):
 Calls Tryz.prog 120 #[.slice (some a) n cap] w fun e w'=> ∃W:World,Kept w W/\e= .returned (.slice (some ⟨W.heap.size,0,none⟩) n (grownCap W n 0 71))/\w'=W.drew.alloc (.cells (vs.toArray++Builtin.zeroCells zc (grownCap W n 0 71-n)) 71):=by
 obtain⟨D,hd⟩: ∃D,Op.maxDepth=D+1:=⟨9999,rfl⟩
 have hu:=run_underlying (P:=Tryz.prog) qmV
 have hg: ∀W,(binOp .eql 27 (.slice (some a) n cap) (.slice none 0 0)).run Tryz.prog W= .ok (.bool false) W:=fun W=>by
  simp[binOp,Op.equal,hd,Op.equalIn,hu,go_sem]
 clear hd
 obtain⟨i0,z0,hi0,hzs,hzb,hz0,hzc⟩:=qzt.info
 have hze:z0.cells=zc:=by rw[hi0]at hzz;simp only[ZB,hz0,ZM]at hzz;exact Ye hzz
 obtain⟨W0,hW0⟩: ∃W0,W0=w.alloc (.cells #[] 71):=⟨_,rfl⟩
 have hrun: ∀ty,(Builtin.append_ #[27,27] ty #[.slice (some ⟨w.heap.size,0,none⟩) 0 0,.slice (some a) n cap]).run Tryz.prog W0= .ok (.slice (some ⟨W0.heap.size,0,none⟩) n (grownCap W0 n 0 71)) (W0.drew.alloc (.cells (vs.toArray++Builtin.zeroCells zc (grownCap W0 n 0 71-n)) 71)):=fun ty=>by
  have hsrc:Src Tryz.prog i0.size 27 (.slice (some a) n cap) n vs W0:=by
   rw[hzs]
   exact Src.ofSlice W0 qmV a n cap vs (by omega) (fun j v hj=>by rw[hW0];exact Lib.cell?_alloc_some _ (hvs j v hj)) h1
  have hold:(Builtin.firstCells i0.size 0 (.slice (some ⟨w.heap.size,0,none⟩) 0 0)).run Tryz.prog W0.drew= .ok ([]:List Value).toArray W0.drew:=by
   rw[hzs]
   exact run_firstCells_some W0.drew 4 0 _ 0 0 [] (by rfl) (fun j v hj=>by simp at hj)
  have h:=run_append_grow_src (P:=Tryz.prog) W0 27 27 ty 71 i0 _ qmV hi0 hz0 (some ⟨w.heap.size,0,none⟩) 0 0 [] hold _ n vs hsrc (by omega) (by omega) (by rw[hzb];exact growslice_fits (by omega) (by omega))
  rw[Nat.zero_add,List.nil_append,hze]at h
  exact h
 clear hzz hz0 hzc hze
 go_enter Tryz.func120,Tryz.ntmps120
 subst hW0
 go_wp2_with (at_builtin;refine Lib.wpList_append_run _ rfl _ _ _ _ rfl _ _ rfl rfl _ _ (hrun _) ?_)
 go_ret
 exact⟨_,(Kept.refl w).alloc _,by simp,rfl⟩
theorem qGa {α:Type} {E:Enc α} (hk:E.k=4) (hf: ∀x,Fl (E.c x)) (l:List α) (hl:l.length<=1000000):zu Tryz.prog (.fn 120) [vl E l] [] (.gslice 0 l.length 4) [.cells (l.flatMap E.c)]:=by
 intro F nu w vs i hargs
 refine .inl ⟨enters_of (by kernel_rfl),?_⟩
 obtain⟨x,ws,rfl,hx,hws⟩:=hargs.cons_inv
 obtain rfl:=hws.nil_inv
 have hx:R F nu w (.fslice l.length (l.flatMap E.c)) x:=hx
 have hlen:(l.flatMap E.c).length=l.length*4:=by rw[E.flat_len,hk]
 have hfl:=Fl.flat hf l
 by_cases hp:0<l.length
 ·generalize hcs:l.flatMap E.c=cs at hx hlen hfl⊢
  generalize hll:l.length=nl at hx hlen hp hl⊢
  cases hx with
  |fslice0=>omega
  |fslice n cs ad cap vs hn hF hlv hc hR=>
   have hvv:vs=vals cs:=by
    apply List.ext_getElem?
    intro t
    by_cases ht:t<cs.length
    ·have h1:cs[t]? =some cs[t]:=Ya ht
     have h2:vs[t]? =some (vs[t]'(by rw[hlv];exact ht)):=Ya _
     have:=fv_R (hfl _ (List.getElem_mem ht)) (hR t _ _ h1 h2)
     rw[h2,this,vals,YA,h1]
     rfl
    rw[Yg (by omega),Yg (by rw[qm6];omega)]
   subst hvv
   obtain⟨i0,z,hi0,hzs,hzb,hz0,hzc⟩:=qzt.info
   refine(qBC ad nl cap (vals cs) z.cells w (by rw[hi0];simp only[ZB,hz0,ZM]) hp hl (by rw[qm6];exact hlen) hc hfl.one).mono ?_
   rintro e w' ⟨W,hk2,rfl,rfl⟩
   have s1:=Stp.kept i hk2.heap hk2.size hk2.os hk2.tape hk2.output
   have hg:=grownCap_ge W nl 0 71
   obtain⟨nu',st,hR'⟩:=newF s1.inv (k:=4) (w':=W.drew.alloc (.cells ((vals cs).toArray++Builtin.zeroCells z.cells (grownCap W nl 0 71-nl)) 71)) (c1:=(vals cs).toArray++Builtin.zeroCells z.cells (grownCap W nl 0 71-nl)) (n:=nl) (cap:=grownCap W nl 0 71) hfl (Go.heap_alloc_new W.drew _) (fun r hr=>Go.heap_alloc_old W.drew _ hr) (by simp) rfl rfl rfl hlen hg (by rw[Array.size_append,size_zeroCells,hzc,List.size_toArray,qm6,hlen,<-Nat.add_mul];exact Nat.mul_le_mul_right _ (by omega))
    (Go.grownCap_le_maxLen W nl 0 _ (by unfold maxLen;omega)) (fun j hj=>by
     rw[YC (by simp[qm6];omega),List.getElem?_toArray])
   refine⟨_,F,nu',rfl,s1.trans st,?_⟩
   cases hR' with
   |oslice _ _ _ rb cap e m hb hc hs hm hx=>exact .gslice _ _ _ _ _ _ _ hp hb hc hs hm hx
 obtain rfl:l=[]:=List.eq_nil_of_length_eq_zero (by omega)
 obtain⟨p,cap,rfl⟩: ∃p cap,x= .slice p 0 cap:=by
  have hx:R F nu w (.fslice 0 []) x:=hx
  cases hx with
  |fslice0 A cap=>exact⟨A,cap,rfl⟩
  |fslice _ _ ad cap=>exact⟨some ad,cap,rfl⟩
 refine Calls.mono (qBA p cap w) ?_
 rintro e w' ⟨q,rfl,hk⟩
 have s1:=Stp.kept i hk.heap hk.size hk.os hk.tape hk.output
 have s2:=Stp.more s1.inv (.cells [])
 exact⟨_,F,nu,rfl,s1.trans s2,.gslice0 _ _ _⟩
theorem qFi:SlT Tryz.prog 28 74 4 48:=⟨by kernel_rfl,by kernel_rfl,by kernel_rfl,by kernel_rfl⟩
theorem qz6:Tryz.prog.underlying 28=some (.slice 74):=by kernel_rfl
set_option maxHeartbeats 4000000 in
theorem qAO (p:Option Addr) (cap:Nat) (w:World):Calls Tryz.prog 123 #[.slice p 0 cap] w fun e w'=> ∃q,e= .returned (.slice q 0 0)/\Kept w w':=by
 obtain⟨D,hd⟩: ∃D,Op.maxDepth=D+1:=⟨9999,rfl⟩
 have hu:=run_underlying (P:=Tryz.prog) qz6
 cases p with
 |none=>
  have hg: ∀W,(binOp .eql 28 (.slice none 0 cap) (.slice none 0 0)).run Tryz.prog W= .ok (.bool true) W:=fun W=>by
   simp[binOp,Op.equal,hd,Op.equalIn,hu,go_sem]
  clear hd
  go_enter Tryz.func123,Tryz.ntmps123
  go_wp2
  go_ret
  exact⟨none,rfl,Kept.refl w⟩
 |some a=>
  have hg: ∀W,(binOp .eql 28 (.slice (some a) 0 cap) (.slice none 0 0)).run Tryz.prog W= .ok (.bool false) W:=fun W=>by
   simp[binOp,Op.equal,hd,Op.equalIn,hu,go_sem]
  clear hd
  go_enter Tryz.func123,Tryz.ntmps123
  go_wp2
  go_ret
  exact⟨_,rfl,(Kept.refl w).alloc _⟩
set_option maxHeartbeats 4000000 in
theorem qAH (a:Addr) (n cap:Nat) (vs:List Value) (zc:Array Value) (w:World) (hzz:((Tryz.prog.info? 74).bind (·.zero)).map (·.cells)=some zc) (hn:0<n) (hbig:n<=1000000) (hl:vs.length=n*4) (hvs: ∀j v,vs[j]? =some v->w.cell? (a.add j)=some v) (h1: ∀v∈vs,v.oneCell'=true):
 Calls Tryz.prog 123 #[.slice (some a) n cap] w fun e w'=> ∃W:World,Kept w W/\e= .returned (.slice (some ⟨W.heap.size,0,none⟩) n (grownCap W n 0 74))/\w'=W.drew.alloc (.cells (vs.toArray++Builtin.zeroCells zc (grownCap W n 0 74-n)) 74):=by
 obtain⟨D,hd⟩: ∃D,Op.maxDepth=D+1:=⟨9999,rfl⟩
 have hu:=run_underlying (P:=Tryz.prog) qz6
 have hg: ∀W,(binOp .eql 28 (.slice (some a) n cap) (.slice none 0 0)).run Tryz.prog W= .ok (.bool false) W:=fun W=>by
  simp[binOp,Op.equal,hd,Op.equalIn,hu,go_sem]
 clear hd
 obtain⟨i0,z0,hi0,hzs,hzb,hz0,hzc⟩:=qFi.info
 have hze:z0.cells=zc:=by rw[hi0]at hzz;simp only[ZB,hz0,ZM]at hzz;exact Ye hzz
 obtain⟨W0,hW0⟩: ∃W0,W0=w.alloc (.cells #[] 74):=⟨_,rfl⟩
 have hrun: ∀ty,(Builtin.append_ #[28,28] ty #[.slice (some ⟨w.heap.size,0,none⟩) 0 0,.slice (some a) n cap]).run Tryz.prog W0= .ok (.slice (some ⟨W0.heap.size,0,none⟩) n (grownCap W0 n 0 74)) (W0.drew.alloc (.cells (vs.toArray++Builtin.zeroCells zc (grownCap W0 n 0 74-n)) 74)):=fun ty=>by
  have hsrc:Src Tryz.prog i0.size 28 (.slice (some a) n cap) n vs W0:=by
   rw[hzs]
   exact Src.ofSlice W0 qz6 a n cap vs (by omega) (fun j v hj=>by rw[hW0];exact Lib.cell?_alloc_some _ (hvs j v hj)) h1
  have hold:(Builtin.firstCells i0.size 0 (.slice (some ⟨w.heap.size,0,none⟩) 0 0)).run Tryz.prog W0.drew= .ok ([]:List Value).toArray W0.drew:=by
   rw[hzs]
   exact run_firstCells_some W0.drew 4 0 _ 0 0 [] (by rfl) (fun j v hj=>by simp at hj)
  have h:=run_append_grow_src (P:=Tryz.prog) W0 28 28 ty 74 i0 _ qz6 hi0 hz0 (some ⟨w.heap.size,0,none⟩) 0 0 [] hold _ n vs hsrc (by omega) (by omega) (by rw[hzb];exact growslice_fits (by omega) (by omega))
  rw[Nat.zero_add,List.nil_append,hze]at h
  exact h
 clear hzz hz0 hzc hze
 go_enter Tryz.func123,Tryz.ntmps123
 subst hW0
 go_wp2_with (at_builtin;refine Lib.wpList_append_run _ rfl _ _ _ _ rfl _ _ rfl rfl _ _ (hrun _) ?_)
 go_ret
 exact⟨_,(Kept.refl w).alloc _,by simp,rfl⟩
theorem qEG {α:Type} {E:Enc α} (hk:E.k=4) (hf: ∀x,Fl (E.c x)) (l:List α) (hl:l.length<=1000000):zu Tryz.prog (.fn 123) [vl E l] [] (.gslice 0 l.length 4) [.cells (l.flatMap E.c)]:=by
 intro F nu w vs i hargs
 refine .inl ⟨enters_of (by kernel_rfl),?_⟩
 obtain⟨x,ws,rfl,hx,hws⟩:=hargs.cons_inv
 obtain rfl:=hws.nil_inv
 have hx:R F nu w (.fslice l.length (l.flatMap E.c)) x:=hx
 have hlen:(l.flatMap E.c).length=l.length*4:=by rw[E.flat_len,hk]
 have hfl:=Fl.flat hf l
 by_cases hp:0<l.length
 ·generalize hcs:l.flatMap E.c=cs at hx hlen hfl⊢
  generalize hll:l.length=nl at hx hlen hp hl⊢
  cases hx with
  |fslice0=>omega
  |fslice n cs ad cap vs hn hF hlv hc hR=>
   have hvv:vs=vals cs:=by
    apply List.ext_getElem?
    intro t
    by_cases ht:t<cs.length
    ·have h1:cs[t]? =some cs[t]:=Ya ht
     have h2:vs[t]? =some (vs[t]'(by rw[hlv];exact ht)):=Ya _
     have:=fv_R (hfl _ (List.getElem_mem ht)) (hR t _ _ h1 h2)
     rw[h2,this,vals,YA,h1]
     rfl
    rw[Yg (by omega),Yg (by rw[qm6];omega)]
   subst hvv
   obtain⟨i0,z,hi0,hzs,hzb,hz0,hzc⟩:=qFi.info
   refine(qAH ad nl cap (vals cs) z.cells w (by rw[hi0];simp only[ZB,hz0,ZM]) hp hl (by rw[qm6];exact hlen) hc hfl.one).mono ?_
   rintro e w' ⟨W,hk2,rfl,rfl⟩
   have s1:=Stp.kept i hk2.heap hk2.size hk2.os hk2.tape hk2.output
   have hg:=grownCap_ge W nl 0 74
   obtain⟨nu',st,hR'⟩:=newF s1.inv (k:=4) (w':=W.drew.alloc (.cells ((vals cs).toArray++Builtin.zeroCells z.cells (grownCap W nl 0 74-nl)) 74)) (c1:=(vals cs).toArray++Builtin.zeroCells z.cells (grownCap W nl 0 74-nl)) (n:=nl) (cap:=grownCap W nl 0 74) hfl (Go.heap_alloc_new W.drew _) (fun r hr=>Go.heap_alloc_old W.drew _ hr) (by simp) rfl rfl rfl hlen hg (by rw[Array.size_append,size_zeroCells,hzc,List.size_toArray,qm6,hlen,<-Nat.add_mul];exact Nat.mul_le_mul_right _ (by omega))
    (Go.grownCap_le_maxLen W nl 0 _ (by unfold maxLen;omega)) (fun j hj=>by
     rw[YC (by simp[qm6];omega),List.getElem?_toArray])
   refine⟨_,F,nu',rfl,s1.trans st,?_⟩
   cases hR' with
   |oslice _ _ _ rb cap e m hb hc hs hm hx=>exact .gslice _ _ _ _ _ _ _ hp hb hc hs hm hx
 obtain rfl:l=[]:=List.eq_nil_of_length_eq_zero (by omega)
 obtain⟨p,cap,rfl⟩: ∃p cap,x= .slice p 0 cap:=by
  have hx:R F nu w (.fslice 0 []) x:=hx
  cases hx with
  |fslice0 A cap=>exact⟨A,cap,rfl⟩
  |fslice _ _ ad cap=>exact⟨some ad,cap,rfl⟩
 refine Calls.mono (qAO p cap w) ?_
 rintro e w' ⟨q,rfl,hk⟩
 have s1:=Stp.kept i hk.heap hk.size hk.os hk.tape hk.output
 have s2:=Stp.more s1.inv (.cells [])
 exact⟨_,F,nu,rfl,s1.trans s2,.gslice0 _ _ _⟩
end Go.Av
end
noncomputable section
namespace Go.Av
open Go.Proofs Go.Shelf Go.RowKit Go.Lib
theorem qCq:(Tryz.prog.info? 71).map (·.size)=some 4:=by kernel_rfl
theorem qJe: ∀w,(Go.sizeOf 71).run Tryz.prog w= .ok 4 w:=Tryz.sizeOf71
theorem qJb:Tryz.prog.underlying 3=some (.int .i64):=by kernel_rfl
theorem qIq (w:World) (vb b o vc lb cb:Nat) (hvb:vb≠b) (tA tB:TypeId) (kA kB:Nat) (hsa:w.shape? vb=some (tA,kA)) (hsb:w.shape? b=some (tB,kB)) (hkB:kB≠0) (hfa:w.frozen? ⟨vb,0,none⟩=false) (hfe:w.frozen? ⟨vb,kA,none⟩=false):
 (callFunc 178 #[.slice (some ⟨vb,0,none⟩) 1 vc,.slice (some ⟨b,o,none⟩) lb cb]).run Tryz.prog w= .ok (.value (.bool false)) w:=by
 rw[run_callFunc_extern Tryz.func178 (by kernel_rfl) (by kernel_rfl) (by kernel_rfl) (e:=Extern.SlicesOverlaps.overlaps #[27,27] #[4]) (by kernel_rfl),
  Lib.run_overlaps_apart w 27 4 71 qmV 4 qJe ⟨vb,0,none⟩ ⟨b,o,none⟩ 1 vc lb cb hvb tA tB kA kB hsa hsb hkB hfa hfe]
 rfl
set_option maxHeartbeats 4000000 in
theorem qGu (b n c i vb vc:Nat) (cs vs:List Value) (w:World) (hi:i<n) (hroom:n+1<=c) (hc63:c<=9223372036854775807) (hvb:vb≠b)
 (hcl:cs.length=n*4) (hvl:vs.length=4)
 (hcs: ∀j v,cs[j]? =some v->w.cell? ⟨b,j,none⟩=some v) (hsp: ∀j,j<(n+1)*4->(w.cell? ⟨b,j,none⟩).isSome=true) (hfz: ∀j,w.frozen? ⟨b,j,none⟩=false)
 (hvs: ∀j v,vs[j]? =some v->w.cell? ⟨vb,j,none⟩=some v) (h1c: ∀v∈cs,v.oneCell'=true) (h1v: ∀v∈vs,v.oneCell'=true)
 (tA tB:TypeId) (kA kB:Nat) (hsa:w.shape? vb=some (tA,kA)) (hsb:w.shape? b=some (tB,kB)) (hkB:kB≠0) (hfa:w.frozen? ⟨vb,0,none⟩=false) (hfe:w.frozen? ⟨vb,kA,none⟩=false):
 Calls Tryz.prog 121 #[.slice (some ⟨b,0,none⟩) n c,.int .i64 i,.slice (some ⟨vb,0,none⟩) 1 vc] w fun e w'=>
  e= .returned (.slice (some ⟨b,0,none⟩) (n+1) c)/\w'=(w.drew.setCells b ((i+1)*4) (cs.drop (i*4))).setCells b (i*4) vs:=by
 have u22:=qmV
 have uu:=run_underlying (P:=Tryz.prog) qmV
 have hz2: ¬((i:Int)=(n:Int)):=by omega
 have hov:=fun lb cb=>qIq w vb b ((i+1)*4) vc lb cb hvb tA tB kA kB hsa hsb hkB hfa hfe
 have hdl:(cs.drop (i*4)).length=(n-i)*4:=by rw[List.length_drop,hcl];omega
 have mixed:Tryz.prog.follows .mixedOrders=true:=by kernel_rfl
 have hw1:IntKind.i64.wrap ((i:Int)+1)=(i:Int)+1:=by rw[IntKind.wrap_i64];omega
 have hw2:IntKind.i64.wrap ((n:Int)+1)=(n:Int)+1:=by rw[IntKind.wrap_i64];omega
 have hb1:(0:Int)<=(i:Int)+1:=by omega
 have hin:i<=n:=by omega
 have htn:((i:Int)+1).toNat=i+1:=by omega
 have htm:((n:Int)+1).toNat=n+1:=by omega
 have hb2: ¬(c=i+1):=by omega
 have hb3:(i:Int)<=(n:Int)+1:=by omega
 have hb4: ¬(c=i):=by omega
 have hb5:(n:Int)+1<=(c:Int):=by omega
 have hb6: ¬((n:Int)+1>(c:Int)):=by omega
 have hcp1: ∀ty dc sc,(Builtin.copy_ #[27,27] ty #[.slice (some ⟨b,(i+1)*4,none⟩) (n-i) dc,.slice (some ⟨b,i*4,none⟩) (n+1-i) sc]).run Tryz.prog w.drew= .ok (goInt (Nat.min (n+1-i) (n-i))) (w.drew.setCells b ((i+1)*4) (cs.drop (i*4))):=fun ty dc sc=>
  qp8 w.drew _ _ ty 71 b ((i+1)*4) (n-i) dc ⟨b,i*4,none⟩ (n+1-i) sc 4 (cs.drop (i*4)) qmV qCq (by rw[hdl];congr 1;simp only[Nat.min_def];split<;>omega)
   (fun j v hj=>by rw[Addr.add_lit];exact hcs (i*4+j) v (by rwa [YI]at hj))
   (fun j hj=>hsp _ (by rw[hdl]at hj;omega)) (fun j hj=>hfz _) (fun v hv=>h1c v (List.mem_of_mem_drop hv))
 obtain⟨W1,hW1⟩: ∃W1,W1=w.drew.setCells b ((i+1)*4) (cs.drop (i*4)):=⟨_,rfl⟩
 have hsp1: ∀k,k<(n+1)*4->(W1.cell? ⟨b,k,none⟩).isSome=true:=fun k hk=>by
  rw[hW1]
  exact isSome_setCells b _ _ w.drew (fun j hj=>hsp ((i+1)*4+j) (by rw[hdl]at hj;omega)) _ (hsp k hk)
 have hcp2: ∀(W:World),(∀x,W.cell? x=W1.cell? x)->(∀x,W.frozen? x=W1.frozen? x)-> ∀ty dc,(Builtin.copy_ #[27,27] ty #[.slice (some ⟨b,i*4,none⟩) (n+1-i) dc,.slice (some ⟨vb,0,none⟩) 1 vc]).run Tryz.prog W= .ok (goInt (Nat.min 1 (n+1-i))) (W.setCells b (i*4) vs):=fun W hWc hWf ty dc=>
  qp8 W _ _ ty 71 b (i*4) (n+1-i) dc ⟨vb,0,none⟩ 1 vc 4 vs qmV qCq (by rw[hvl];simp only[Nat.min_def];split<;>omega)
   (fun j v hj=>by
    rw[Addr.add_lit,hWc,hW1,World.cell?_setCells_out b _ _ _ _ (fun h _=>absurd h hvb),Nat.zero_add]
    exact hvs j v hj)
   (fun j hj=>by rw[hWc];exact hsp1 _ (by omega)) (fun j hj=>by rw[hWf,hW1,World.frozen?_setCells];exact hfz _) h1v
 rw[<-hW1]at hcp1
 go_enter Tryz.func121,Tryz.ntmps121
 go_wp2_with (simp only[hov])
 go_region_law_o (refine step_copy_runI rfl _ _ 27 27 rfl _ _ (by simp[Act.eval,Act.put]) (by simp[Act.eval,Act.put]) (hcp1 _ _ _) ?_)
 go_wp2_with (at_builtin;refine wpList_copy_runI _ rfl _ _ 27 27 rfl _ _ rfl rfl (hcp2 _ (fun _=>rfl) (fun _=>rfl) _ _) ?_)
 go_ret
 first|exact⟨rfl,rfl⟩|exact⟨rfl,by rw[hW1]⟩
set_option maxHeartbeats 4000000 in
theorem qIh (b n c vb vc:Nat) (vs:List Value) (w:World) (hroom:n+1<=c) (hc63:c<=9223372036854775807)
 (hvl:vs.length=4) (hsp: ∀j,j<(n+1)*4->(w.cell? ⟨b,j,none⟩).isSome=true) (hfz: ∀j,w.frozen? ⟨b,j,none⟩=false)
 (hvs: ∀j v,vs[j]? =some v->w.cell? ⟨vb,j,none⟩=some v) (h1v: ∀v∈vs,v.oneCell'=true):
 Calls Tryz.prog 121 #[.slice (some ⟨b,0,none⟩) n c,.int .i64 n,.slice (some ⟨vb,0,none⟩) 1 vc] w fun e w'=>
  e= .returned (.slice (some ⟨b,0,none⟩) (n+1) c)/\w'=w.setCells b (n*4) vs:=by
 have u22:=qmV
 have uu:=run_underlying (P:=Tryz.prog) qmV
 obtain⟨i0,z0,hi0,hzs,hzb,hz0,hzc⟩:=qzt.info
 have hsrc:Src Tryz.prog i0.size 27 (.slice (some ⟨vb,0,none⟩) 1 vc) 1 vs w:=by
  rw[hzs]
  exact Src.ofSlice w qmV ⟨vb,0,none⟩ 1 vc vs (by omega) (fun j u hj=>by rw[Addr.add_lit,Nat.zero_add];exact hvs j u hj) h1v
 have mixed:Tryz.prog.follows .mixedOrders=true:=by kernel_rfl
 have hrun: ∀ty,(Builtin.append_ #[27,27] ty #[.slice (some ⟨b,0,none⟩) n c,.slice (some ⟨vb,0,none⟩) 1 vc]).run Tryz.prog w= .ok (.slice (some ⟨b,0,none⟩) (n+1) c) (w.setCells b (n*4) vs):=fun ty=>by
  have h:=run_append_room_src (P:=Tryz.prog) (w:=w) 27 27 ty 71 i0 qmV hi0 b 0 n c _ 1 vs hsrc hroom (by rw[hzs];intro j hj;exact hsp _ (by omega)) (fun j hj=>hfz _)
  rw[hzs,Nat.zero_add]at h
  exact h
 go_enter Tryz.func121,Tryz.ntmps121
 go_wp2_with (at_builtin;refine Lib.wpList_append_run _ rfl _ _ _ _ rfl _ _ rfl rfl _ _ (hrun _) ?_)
 go_ret
 exact⟨rfl,rfl⟩
set_option maxHeartbeats 4000000 in
theorem qFy (base:Option Addr) (n c vb vc:Nat) (cs vs:List Value) (zc:Array Value) (w:World) (hzz:((Tryz.prog.info? 71).bind (·.zero)).map (·.cells)=some zc) (hnc:n<=c) (hroom:c<n+1) (hbig:n<=1000000)
 (hcl:cs.length=n*4) (hvl:vs.length=4) (hnil:base=none->n=0)
 (hcs: ∀a,base=some a-> ∀j v,cs[j]? =some v->w.cell? (a.add j)=some v)
 (hvs: ∀j v,vs[j]? =some v->w.cell? ⟨vb,j,none⟩=some v) (h1v: ∀v∈vs,v.oneCell'=true):
 Calls Tryz.prog 121 #[.slice base n c,.int .i64 n,.slice (some ⟨vb,0,none⟩) 1 vc] w fun e w'=>
  e= .returned (.slice (some ⟨w.heap.size,0,none⟩) (n+1) (grownCap w (n+1) c 71))/\
  w'=w.drew.alloc (.cells ((cs++vs).toArray++Builtin.zeroCells zc (grownCap w (n+1) c 71-(n+1))) 71):=by
 have u22:=qmV
 have uu:=run_underlying (P:=Tryz.prog) qmV
 have mixed:Tryz.prog.follows .mixedOrders=true:=by kernel_rfl
 obtain⟨i0,z0,hi0,hzs,hzb,hz0,hzc⟩:=qzt.info
 have hze:z0.cells=zc:=by rw[hi0]at hzz;simp only[ZB,hz0,ZM]at hzz;exact Ye hzz
 have hsrc:Src Tryz.prog i0.size 27 (.slice (some ⟨vb,0,none⟩) 1 vc) 1 vs w:=by
  rw[hzs]
  exact Src.ofSlice w qmV ⟨vb,0,none⟩ 1 vc vs (by omega) (fun j u hj=>by rw[Addr.add_lit,Nat.zero_add];exact hvs j u hj) h1v
 have hold:(Builtin.firstCells i0.size n (.slice base n c)).run Tryz.prog w.drew= .ok cs.toArray w.drew:=by
  rw[hzs]
  cases base with
  |none=>
   have h0:=hnil rfl
   subst h0
   rw[YL.1 (show cs.length=0 by omega)]
   exact run_firstCells_none w.drew 4 0 0 c
  |some a=>exact run_firstCells_some w.drew 4 n a n c cs (by omega) (fun j v hj=>hcs a rfl j v hj)
 have hrun: ∀ty,(Builtin.append_ #[27,27] ty #[.slice base n c,.slice (some ⟨vb,0,none⟩) 1 vc]).run Tryz.prog w= .ok (.slice (some ⟨w.heap.size,0,none⟩) (n+1) (grownCap w (n+1) c 71)) (w.drew.alloc (.cells ((cs++vs).toArray++Builtin.zeroCells zc (grownCap w (n+1) c 71-(n+1))) 71)):=fun ty=>by
  have h:=run_append_grow_src (P:=Tryz.prog) w 27 27 ty 71 i0 _ qmV hi0 hz0 base n c cs hold _ 1 vs hsrc hroom (by omega) (by rw[hzb];exact growslice_fits hroom (by omega))
  rw[hze]at h
  exact h
 clear hzz hz0 hzc hze
 go_enter Tryz.func121,Tryz.ntmps121
 cases base with
 |none=>
  have h0:=hnil rfl
  subst h0
  go_wp2_with (at_builtin;refine Lib.wpList_append_run _ rfl _ _ _ _ rfl _ _ rfl rfl _ _ (hrun _) ?_)
  go_ret
  exact⟨rfl,rfl⟩
 |some a=>
  obtain⟨ab,ao,asp⟩:=a
  go_wp2_with (at_builtin;refine Lib.wpList_append_run _ rfl _ _ _ _ rfl _ _ rfl rfl _ _ (hrun _) ?_)
  all_goals (go_ret;exact⟨rfl,rfl⟩)
set_option maxHeartbeats 4000000 in
theorem qIw (b n c i vb vc:Nat) (cs vs:List Value) (zc:Array Value) (w:World) (hzz:((Tryz.prog.info? 71).bind (·.zero)).map (·.cells)=some zc) (hi:i<n) (hnc:n<=c) (hroom:c<n+1) (hbig:n<=1000000)
 (hcl:cs.length=n*4) (hvl:vs.length=4)
 (hcs: ∀j v,cs[j]? =some v->w.cell? ⟨b,j,none⟩=some v)
 (hvs: ∀j v,vs[j]? =some v->w.cell? ⟨vb,j,none⟩=some v) (h1c: ∀v∈cs,v.oneCell'=true) (h1v: ∀v∈vs,v.oneCell'=true):
 Calls Tryz.prog 121 #[.slice (some ⟨b,0,none⟩) n c,.int .i64 i,.slice (some ⟨vb,0,none⟩) 1 vc] w fun e w'=>
  e= .returned (.slice (some ⟨w.heap.size,0,none⟩) (n+1) (grownCap w (n+1) c 71))/\
  w'=(((w.alloc (.cells ((cs.take (i*4)).toArray++Builtin.zeroCells zc (n+1-i)++Builtin.zeroCells zc (grownCap w (n+1) c 71-(n+1))) 71)).drew.setCells w.heap.size (i*4) vs).drew).setCells w.heap.size ((i+1)*4) (cs.drop (i*4)):=by
 have u22:=qmV
 have uu:=run_underlying (P:=Tryz.prog) qmV
 have mixed:Tryz.prog.follows .mixedOrders=true:=by kernel_rfl
 obtain⟨i0,z0,hi0,hzs,hzb,hz0,hzc⟩:=qzt.info
 have hze:z0.cells=zc:=by rw[hi0]at hzz;simp only[ZB,hz0,ZM]at hzz;exact Ye hzz
 have hz2: ¬((i:Int)=(n:Int)):=by omega
 have hz3:(c:Int)<(n:Int)+1:=by omega
 have hbw:b<w.heap.size:=block_lt_of_cell (hcs 0 _ (Ya (by omega)))
 have hvw:vb<w.heap.size:=block_lt_of_cell (hvs 0 _ (Ya (by omega)))
 have hkk:(n:Int)+1-(i:Int)=((n+1-i:Nat):Int):=by omega
 have hik:i+(n+1-i)=n+1:=by omega
 have hold:(Builtin.firstCells i0.size i (.slice (some ⟨b,0,none⟩) i c)).run Tryz.prog w.drew= .ok (cs.take (i*4)).toArray w.drew:=by
  rw[hzs]
  exact run_firstCells_some w.drew 4 i ⟨b,0,none⟩ i c (cs.take (i*4)) (by rw[Ym];omega) (fun j v hj=>by
   rw[Addr.add_lit,Nat.zero_add]
   rw[Yt]at hj
   split at hj
   ·exact hcs j v hj
   cases hj)
 have hrz: ∀ty,(Builtin.append_ #[27,3] ty #[.slice (some ⟨b,0,none⟩) i c,.int .i64 ((n:Int)+1-(i:Int))]).run Tryz.prog w=
  .ok (.slice (some ⟨w.heap.size,0,none⟩) (n+1) (grownCap w (n+1) c 71)) (w.drew.alloc (.cells ((cs.take (i*4)).toArray++Builtin.zeroCells zc (n+1-i)++Builtin.zeroCells zc (grownCap w (n+1) c 71-(n+1))) 71)):=fun ty=>by
  have h:=Lib.run_append_grow_zeros (P:=Tryz.prog) w 27 3 ty 71 i0 _ .i64 .i64 qmV qJb hi0 hz0 (some ⟨b,0,none⟩) i c (cs.take (i*4)) hold (n+1-i) (by omega) (by omega) (by omega) (by omega) (by rw[hzb];omega) (by rw[hzb,hik];exact growslice_fits hroom (by omega))
  rw[hik,hze]at h
  rw[hkk]
  exact h
 obtain⟨G,hG⟩: ∃G,G=grownCap w (n+1) c 71:=⟨_,rfl⟩
 obtain⟨ROW,hROW⟩: ∃ROW:Array Value,ROW=(cs.take (i*4)).toArray++Builtin.zeroCells zc (n+1-i)++Builtin.zeroCells zc (G-(n+1)):=⟨_,rfl⟩
 rw[<-hG]at hrz⊢
 rw[<-hROW]at hrz⊢
 have hRl:(n+1)*4<=ROW.size:=by
  rw[hROW,<-hze,Array.size_append,Array.size_append,size_zeroCells,size_zeroCells,hzc,List.size_toArray,Ym]
  omega
 obtain⟨W1,hW1⟩: ∃W1,W1=w.drew.alloc (.cells ROW 71):=⟨_,rfl⟩
 rw[<-hW1]at hrz
 have hN: ∀j,j<(n+1)*4->(W1.cell? ⟨w.heap.size,j,none⟩).isSome=true:=fun j hj=>by
  rw[hW1,World.cell?_alloc_at (w:=w.drew) ROW _ w.heap.size j rfl,Yi (by omega)];rfl
 have hNf: ∀j,W1.frozen? ⟨w.heap.size,j,none⟩=false:=fun j=>by rw[hW1];exact World.frozen?_alloc_at (w:=w.drew) ROW _ w.heap.size j rfl
 have hOb: ∀j v,w.cell? ⟨b,j,none⟩=some v->W1.cell? ⟨b,j,none⟩=some v:=fun j v h=>by rw[hW1,World.cell?_alloc_past (w:=w.drew) _ b j hbw];exact h
 have hOv: ∀j v,w.cell? ⟨vb,j,none⟩=some v->W1.cell? ⟨vb,j,none⟩=some v:=fun j v h=>by rw[hW1,World.cell?_alloc_past (w:=w.drew) _ vb j hvw];exact h
 have hcpA: ∀(W:World),(∀x,W.cell? x=W1.cell? x)->(∀x,W.frozen? x=W1.frozen? x)-> ∀ty dc,(Builtin.copy_ #[27,27] ty #[.slice (some ⟨w.heap.size,i*4,none⟩) (n+1-i) dc,.slice (some ⟨vb,0,none⟩) 1 vc]).run Tryz.prog W= .ok (goInt (Nat.min 1 (n+1-i))) (W.setCells w.heap.size (i*4) vs):=fun W hWc hWf ty dc=>
  qp8 W _ _ ty 71 w.heap.size (i*4) (n+1-i) dc ⟨vb,0,none⟩ 1 vc 4 vs qmV qCq (by rw[hvl];simp only[Nat.min_def];split<;>omega)
   (fun j v hj=>by rw[Addr.add_lit,hWc,Nat.zero_add];exact hOv _ v (hvs j v hj))
   (fun j hj=>by rw[hWc];exact hN _ (by omega)) (fun j hj=>by rw[hWf];exact hNf _) h1v
 have hGn:n+1<=G:=by rw[hG];exact grownCap_ge w _ _ _
 have hG63:G<=9223372036854775807:=by
  have:=grownCap_le_maxLen w (n+1) c 71 (by unfold maxLen;omega)
  rw[<-hG]at this
  unfold maxLen at this
  omega
 have hGi: ¬(G=i):=by omega
 have hGim: ¬(G=i+1):=by omega
 have hci: ¬(c=i):=by omega
 have hbN:b≠w.heap.size:=by omega
 have hdl:(cs.drop (i*4)).length=(n-i)*4:=by rw[List.length_drop,hcl];omega
 have hcpB: ∀(W:World),(∀x,W.cell? x=(W1.setCells w.heap.size (i*4) vs).cell? x)->(∀x,W.frozen? x=(W1.setCells w.heap.size (i*4) vs).frozen? x)-> ∀ty dc sc,(Builtin.copy_ #[27,27] ty #[.slice (some ⟨w.heap.size,(i+1)*4,none⟩) (n-i) dc,.slice (some ⟨b,i*4,none⟩) (n-i) sc]).run Tryz.prog W= .ok (goInt (Nat.min (n-i) (n-i))) (W.setCells w.heap.size ((i+1)*4) (cs.drop (i*4))):=fun W hWc hWf ty dc sc=>
  qp8 W _ _ ty 71 w.heap.size ((i+1)*4) (n-i) dc ⟨b,i*4,none⟩ (n-i) sc 4 (cs.drop (i*4)) qmV qCq (by rw[hdl];congr 1;simp only[Nat.min_def];split<;>omega)
   (fun j v hj=>by
    rw[Addr.add_lit,hWc,World.cell?_setCells_out _ _ _ _ _ (fun h _=>absurd h hbN)]
    exact hOb _ v (hcs (i*4+j) v (by rwa [YI]at hj)))
   (fun j hj=>by rw[hWc];rw[hdl]at hj;exact isSome_setCells _ _ _ _ (fun t ht=>hN _ (by omega)) _ (hN _ (by omega)))
   (fun j hj=>by rw[hWf,World.frozen?_setCells];exact hNf _) (fun v hv=>h1c v (List.mem_of_mem_drop hv))
 subst hW1
 have hE1: ∀x,((w.alloc (.cells ROW 71)).drew).cell? x=(w.drew.alloc (.cells ROW 71)).cell? x:=fun x=>rfl
 have hE2: ∀x,((w.alloc (.cells ROW 71)).drew).frozen? x=(w.drew.alloc (.cells ROW 71)).frozen? x:=fun x=>rfl
 have hF1: ∀x,(((w.alloc (.cells ROW 71)).drew.setCells w.heap.size (i*4) vs).drew).cell? x=((w.drew.alloc (.cells ROW 71)).setCells w.heap.size (i*4) vs).cell? x:=fun x=>rfl
 have hF2: ∀x,(((w.alloc (.cells ROW 71)).drew.setCells w.heap.size (i*4) vs).drew).frozen? x=((w.drew.alloc (.cells ROW 71)).setCells w.heap.size (i*4) vs).frozen? x:=fun x=>rfl
 have hw1:IntKind.i64.wrap ((i:Int)+1)=(i:Int)+1:=by rw[IntKind.wrap_i64];omega
 have hw2:IntKind.i64.wrap ((n:Int)+1)=(n:Int)+1:=by rw[IntKind.wrap_i64];omega
 have hw3:IntKind.i64.wrap ((n:Int)+1-(i:Int))=(n:Int)+1-(i:Int):=by rw[IntKind.wrap_i64];omega
 have hb1:(0:Int)<=(i:Int)+1:=by omega
 have hin:i<=n:=by omega
 have htn:((i:Int)+1).toNat=i+1:=by omega
 have hb3:(i:Int)<=(n:Int):=by omega
 clear hkk hik hold hROW hG hRl hzz hz0 hzc hze
 go_enter Tryz.func121,Tryz.ntmps121
 go_wp2_with (first
  |(at_builtin;refine Lib.wpList_append_run _ rfl _ _ _ _ rfl _ _ rfl rfl _ _ (hrz _) ?_)
  |(at_builtin;refine wpList_copy_runI _ rfl _ _ 27 27 rfl _ _ rfl rfl (hcpA _ hE1 hE2 _ _) ?_)
  |(at_builtin;refine wpList_copy_runI _ rfl _ _ 27 27 rfl _ _ rfl rfl (hcpB _ (fun _=>rfl) (fun _=>rfl) _ _ _) ?_))
 go_region_law_o (refine step_copy_runI rfl _ _ 27 27 rfl (.slice (some ⟨w.heap.size,(i+1)*4,none⟩) (n-i) (G-(i+1))) (.slice (some ⟨b,i*4,none⟩) (n-i) (c-i)) (by simp[Act.eval,Act.put]) (by simp[Act.eval,Act.put]) (hcpB _ hF1 hF2 71 (G-(i+1)) (c-i)) ?_)
 go_wp2
 go_ret
 exact⟨rfl,rfl⟩
end Go.Av
end
noncomputable section
namespace Go.Av
open Go.Proofs Go.Shelf Go.RowKit Go.Lib
theorem ownK {F:Nat->Prop} {nu:Nat->Option Nat} {w:World} {b n k:Nat} {v:Value} (h:R F nu w (.gslice b n k) v) (hp:0<n): ∃rb cap e mm,v= .slice (some ⟨rb,0,none⟩) n cap/\nu b=some rb/\n<=cap/\w.shape? rb=some (e,mm)/\cap*k<=mm/\cap<=9223372036854775807:=by
 cases h with
 |gslice0=>exact absurd hp (by omega)
 |gslice _ _ _ rb cap e m hp hb hc hs hm hx=>exact⟨rb,cap,e,m,rfl,hb,hc,hs,hm,hx⟩
theorem qId {α:Type} {E:Enc α} (hk:E.k=4) (hf: ∀x,Fl (E.c x)) (l:List α) (x:α) (i:Nat) (hi:i<=l.length) (hl:l.length<1000000):
 zu Tryz.prog (.fn 121) [.gslice 0 l.length 4,.int .i64 (i:Int),.slice 1 0 1 1 4] [.cells (l.flatMap E.c),.cells (E.c x)] (.oslice 2 (l.take i++[x]++l.drop i).length 4) [.dead,.cells (E.c x),.cells ((l.take i++[x]++l.drop i).flatMap E.c)]:=by
 intro F nu w vs iv hargs
 refine .inl ⟨enters_of (by kernel_rfl),?_⟩
 obtain⟨s,kv,vv,rfl,hs,hkv,hv⟩:=hargs.args3
 obtain rfl:=hkv.int_inv
 have hlx:(E.c x).length=4:=by rw[E.len,hk]
 obtain⟨n,hn⟩: ∃n,n=l.length:=⟨_,rfl⟩
 have hll:(l.flatMap E.c).length=n*4:=by rw[E.flat_len,hk,hn]
 have hDl:(l.take i++[x]++l.drop i).length=n+1:=by simp;omega
 have hD:(l.take i++[x]++l.drop i).flatMap E.c=(l.flatMap E.c).take (i*4)++E.c x++(l.flatMap E.c).drop (i*4):=by
  rw[<-hk,qxj,qzx]
  simp[List.flatMap_append]
 have hfD:Fl ((l.take i++[x]++l.drop i).flatMap E.c):=Fl.flat hf _
 have hDc:((l.take i++[x]++l.drop i).flatMap E.c).length=(n+1)*4:=by rw[E.flat_len,hk,hDl]
 rw[hDl]
 generalize (l.take i++[x]++l.drop i).flatMap E.c=D at hD hfD hDc⊢
 have hfl:=Fl.flat hf l
 have hfx:=hf x
 rw[<-hn]at hs hi hl
 have hnil:n=0->l.flatMap E.c=[]:=fun h=>List.eq_nil_of_length_eq_zero (by omega)
 clear hDl hn
 generalize l.flatMap E.c=cs at hs hll hD hfl hnil iv⊢
 generalize E.c x=xs at hlx hD hfx iv⊢
 cases hv with
 |slice _ _ _ _ _ rv hrv hvc=>
 obtain⟨c1,e1,hh1,hl1,hcv1⟩:=rowF iv hfx hrv rfl
 have hvs: ∀j v,(vals xs)[j]? =some v->w.cell? ⟨rv,j,none⟩=some v:=by
  intro j v hj
  have hjl:=(Yb.1 hj).1
  rw[cell_of_row hh1,hcv1 j (by simpa[qm6]using hjl),hj]
 have hat: ∀j,j<(n+1)*4->(vals D)[j]? =if j<i*4 then(vals cs)[j]? else if j<(i+1)*4 then(vals xs)[j-i*4]? else(vals cs)[j-4]? :=by
  intro j hj
  have hik:i*4<=n*4:=Nat.mul_le_mul_right _ hi
  simp only[vals,YA,hD]
  by_cases h1:j<i*4
  ·rw[if_pos h1,Yz,Yf (by simp;omega),List.getElem?_take_of_lt h1]
  rw[if_neg h1]
  by_cases h2:j<(i+1)*4
  ·rw[if_pos h2,Yz,Yo (by simp;omega),Yf (by simp;omega)]
   congr 2
   simp;omega
  rw[if_neg h2,Yo (by simp;omega),YI]
  congr 2
  simp;omega
 obtain⟨i0,z,hi0,hzs,hzb,hz0,hzc⟩:=qzt.info
 have hzz:((Tryz.prog.info? 71).bind (·.zero)).map (·.cells)=some z.cells:=by rw[hi0];simp only[ZB,hz0,ZM]
 by_cases hp:0<n
 ·obtain⟨rb,cap,e,mm,rfl,hb,hc,hsh,hm,hx⟩:=ownK hs hp
  obtain⟨c0,e0,hh,hlc,hcv⟩:=rowF iv hfl hb rfl
  have hne:rv≠rb:=fun e=>absurd (iv.inj 0 1 rb _ _ hb (e▸hrv) rfl rfl rfl rfl) (by decide)
  have hshe:e=e0/\mm=c0.size:=by
   rw[qlS hh]at hsh
   simp only[ZI,ZP]at hsh
   exact⟨hsh.1.symm,hsh.2.symm⟩
  obtain⟨rfl,rfl⟩:=hshe
  have hcs: ∀j v,(vals cs)[j]? =some v->w.cell? ⟨rb,j,none⟩=some v:=by
   intro j v hj
   have hjl:=(Yb.1 hj).1
   rw[cell_of_row hh,hcv j (by simpa[qm6]using hjl),hj]
  have hcl:(vals cs).length=n*4:=by rw[qm6];exact hll
  have hvl:(vals xs).length=4:=by rw[qm6];exact hlx
  have hfzr: ∀j,w.frozen? ⟨rb,j,none⟩=false:=fun j=>frozen_of_row hh _
  by_cases hroom:n+1<=cap
  ·have hcc:(n+1)*4<=cap*4:=Nat.mul_le_mul_right _ hroom
   have hsp: ∀j,j<(n+1)*4->(w.cell? ⟨rb,j,none⟩).isSome=true:=fun j hj=>by
    rw[cell_of_row hh,Yi (by omega)];rfl
   by_cases hend:i=n
   ·subst hend
    refine Calls.mono (qIh rb i cap rv 1 (vals xs) w hroom hx hvl hsp hfzr hvs hfx.one) ?_
    rintro e' w' ⟨rfl,rfl⟩
    obtain⟨c2,rw2,hs2,hc2⟩:=qpm rb e (vals xs) (i*4) w c0 hh (by omega)
    obtain⟨nu',st,hR⟩:=qHY iv hfD hb rfl hh rw2 hs2 hDc hroom hm hx (fun j hj=>by
     rw[hDc]at hj
     rw[hat j hj,hc2 j]
     by_cases h1:j<i*4
     ·rw[if_neg (by omega),if_pos h1,hcv j (by omega)]
     rw[if_neg h1,if_pos (by omega),if_pos (by omega)])
    exact⟨_,F,nu',rfl,st,hR⟩
   refine Calls.mono (qGu rb n cap i rv 1 (vals cs) (vals xs) w (by omega) hroom hx hne hcl hvl hcs hsp hfzr hvs hfl.one hfx.one e1 e c1.size c0.size (qlS hh1) (qlS hh) (by omega) (frozen_of_row hh1 _) (frozen_of_row hh1 _)) ?_
   rintro e' w' ⟨rfl,rfl⟩
   obtain⟨c2,rw2,hs2,hc2⟩:=qpm rb e ((vals cs).drop (i*4)) ((i+1)*4) w.drew c0 hh (by rw[List.length_drop];omega)
   obtain⟨c3,rw3,hs3,hc3⟩:=qpm rb e (vals xs) (i*4) _ c2 rw2.at_ (by omega)
   obtain⟨nu',st,hR⟩:=qHY iv hfD hb rfl hh (rw2.trans rw3).ofDrew (hs3.trans hs2) hDc hroom hm hx (fun j hj=>by
    rw[hDc]at hj
    rw[hat j hj,hc3 j]
    by_cases h1:j<i*4
    ·rw[if_neg (by omega),if_pos h1,hc2 j,if_neg (by omega),hcv j (by omega)]
    rw[if_neg h1]
    by_cases h2:j<(i+1)*4
    ·rw[if_pos (by omega),if_pos h2]
    rw[if_neg (by omega),if_neg h2,hc2 j,if_pos (by rw[List.length_drop];omega),YI]
    congr 1;omega)
   exact⟨_,F,nu',rfl,st,hR⟩
  have hg:=grownCap_ge w (n+1) cap 71
  have hgm:=Go.grownCap_le_maxLen w (n+1) cap 71 (by unfold maxLen;omega)
  have hgk:(n+1)*4<=grownCap w (n+1) cap 71*4:=Nat.mul_le_mul_right _ hg
  have fin: ∀{w':World} {cc:Array Value},w'.heap[w.heap.size]? =some (.cells cc 71 (0,0))->(∀r,r<w.heap.size->w'.heap[r]? =w.heap[r]?)->w'.heap.size=w.heap.size+1->w'.os=w.os->w'.tape=w.tape->w'.output=w.output->
   grownCap w (n+1) cap 71*4<=cc.size->(∀j,j<D.length->cc[j]? =(vals D)[j]?)->
   ∃x' F' nu',Ending.returned (.slice (some ⟨w.heap.size,0,none⟩) (n+1) (grownCap w (n+1) cap 71))= .returned x'/\Stp F nu [.cells cs,.cells xs] w F' nu' [.dead,.cells xs,.cells D] w'/\R F' nu' w' (.oslice 2 (n+1) 4) x':=by
   intro w' cc h1 h2 h3 h4 h5 h6 h7 h8
   obtain⟨nu',st,hR⟩:=newF iv (k:=4) hfD h1 h2 h3 h4 h5 h6 hDc hg h7 hgm h8
   exact⟨_,F,nu',rfl,st.trans (Uk st.inv 0),hR⟩
  by_cases hend:i=n
  ·subst hend
   refine Calls.mono (qFy (some ⟨rb,0,none⟩) i cap rv 1 (vals cs) (vals xs) z.cells w hzz hc (by omega) (by omega) hcl hvl (fun e=>by cases e) (by
    intro a ha j v hj
    injection ha with ha
    subst ha
    rw[qiX,Nat.zero_add]
    exact hcs j v hj) hvs hfx.one) ?_
   rintro e' w' ⟨rfl,rfl⟩
   refine fin (Go.heap_alloc_new w.drew _) (fun r hr=>Go.heap_alloc_old w.drew _ hr) (by simp) rfl rfl rfl (by rw[Array.size_append,size_zeroCells,hzc,List.size_toArray,Yq,hcl,hvl];omega) (fun j hj=>?_)
   rw[hDc]at hj
   rw[hat j hj,YC (by rw[List.size_toArray,Yq,hcl,hvl];omega),List.getElem?_toArray]
   by_cases h1:j<i*4
   ·rw[if_pos h1,Yf (by omega)]
   rw[if_neg h1,if_pos (by omega),Yo (by omega),hcl]
  refine Calls.mono (qIw rb n cap i rv 1 (vals cs) (vals xs) z.cells w hzz (by omega) hc (by omega) (by omega) hcl hvl hcs hvs hfl.one hfx.one) ?_
  rintro e' w' ⟨rfl,rfl⟩
  obtain⟨ROW,hROW⟩: ∃ROW:Array Value,ROW=((vals cs).take (i*4)).toArray++Builtin.zeroCells z.cells (n+1-i)++Builtin.zeroCells z.cells (grownCap w (n+1) cap 71-(n+1)):=⟨_,rfl⟩
  rw[<-hROW]
  have hRs:ROW.size=grownCap w (n+1) cap 71*4:=by
   rw[hROW,Array.size_append,Array.size_append,size_zeroCells,size_zeroCells,hzc,List.size_toArray,Ym]
   omega
  have h0:(w.alloc (.cells ROW 71)).drew.heap[w.heap.size]? =some (.cells ROW 71 (0,0)):=Go.heap_alloc_new w _
  obtain⟨c2,rw2,hs2,hc2⟩:=qpm w.heap.size 71 (vals xs) (i*4) _ ROW h0 (by omega)
  obtain⟨c3,rw3,hs3,hc3⟩:=qpm w.heap.size 71 ((vals cs).drop (i*4)) ((i+1)*4) _ c2 rw2.drew.at_ (by rw[List.length_drop];omega)
  have hall:=rw2.drew.trans rw3
  refine fin hall.at_ (fun r hr=>(hall.oth r (by omega)).trans (Go.heap_alloc_old w _ hr)) (hall.size.trans (by simp)) hall.os hall.tape hall.output (by omega) (fun j hj=>?_)
  rw[hDc]at hj
  rw[hat j hj,hc3 j]
  by_cases h1:j<i*4
  ·rw[if_neg (by omega),if_pos h1,hc2 j,if_neg (by omega),hROW,YC (by rw[Array.size_append,List.size_toArray,Ym];omega),YC (by rw[List.size_toArray,Ym];omega),List.getElem?_toArray,List.getElem?_take_of_lt h1]
  rw[if_neg h1]
  by_cases h2:j<(i+1)*4
  ·rw[if_neg (by omega),if_pos h2,hc2 j,if_pos (by omega)]
  rw[if_pos (by rw[List.length_drop];omega),if_neg h2,YI]
  congr 1;omega
 obtain rfl:n=0:=by omega
 obtain rfl:i=0:=by omega
 obtain rfl:=hnil rfl
 obtain⟨p,rfl⟩: ∃p,s= .slice p 0 0:=by
  cases hs with
  |gslice0 _ _ p=>exact⟨p,rfl⟩
  |gslice _ _ _ rb cap e m hp=>exact absurd hp (by simp)
 have hvl:(vals xs).length=4:=by rw[qm6];exact hlx
 refine Calls.mono (qFy p 0 0 rv 1 [] (vals xs) z.cells w hzz (Nat.le_refl _) (by omega) (by omega) rfl hvl (fun _=>rfl) (by intro a ha j v hj;simp at hj) hvs hfx.one) ?_
 rintro e' w' ⟨rfl,rfl⟩
 have hg:=grownCap_ge w 1 0 71
 obtain⟨nu',st,hR⟩:=newF iv (k:=4) (n:=0+1) (cap:=grownCap w (0+1) 0 71) (w':=w.drew.alloc (.cells (([]++vals xs).toArray++Builtin.zeroCells z.cells (grownCap w (0+1) 0 71-(0+1))) 71)) (c1:=([]++vals xs).toArray++Builtin.zeroCells z.cells (grownCap w (0+1) 0 71-(0+1))) hfD (Go.heap_alloc_new w.drew _) (fun r hr=>Go.heap_alloc_old w.drew _ hr) (by simp) rfl rfl rfl hDc hg
  (by rw[Array.size_append,size_zeroCells,hzc,List.size_toArray,Yq,hvl];simp only[List.length_nil,Nat.zero_add];omega) (Go.grownCap_le_maxLen w 1 0 _ (by unfold maxLen;omega)) (fun j hj=>by
   rw[hDc]at hj
   rw[hat j hj,if_neg (by omega),if_pos (by omega),YC (by rw[List.size_toArray,Yq,hvl];simp;omega),List.getElem?_toArray,List.nil_append]
   simp)
 exact⟨_,F,nu',rfl,st.trans (Uk st.inv 0),hR⟩
end Go.Av
end
noncomputable section
namespace Go.Av
open Go.Proofs Go.Shelf Go.RowKit Go.Lib Go.Sort
theorem qEe (x y:ByteArray) (w:World):Calls Tryz.prog 129 #[.string x,.string y] w fun e w'=>e= .returned (.int .i64 (Lib.compareBytes x.data.toList y.data.toList))/\w'=w:=
 Any.strings_Compare Tryz.lays106 x y w
set_option maxHeartbeats 1000000 in
theorem qIm (a b r:Int) (W:World) (bk:Nat) (h0:(a !=0)=true->r=a) (h1:(a !=0)=false->r=b) (h2:(b !=0)=false->b=0) (ha:W.cell? ⟨bk,0,none⟩=some (.int .i64 a)) (hb:W.cell? ⟨bk,1,none⟩=some (.int .i64 b)):Calls Tryz.prog 83 #[.slice (some ⟨bk,0,none⟩) 2 2] W fun e w'=>e= .returned (.int .i64 r)/\w'=W:=by
 go_enter Tryz.func83,Tryz.ntmps83
 go_wp2
 refine wp_loop_rounds 3 ?_
 unfold Code.rounds
 go_wp2
 ·go_ret
  exact⟨rfl,rfl⟩
 unfold Code.rounds
 go_wp2
 ·go_ret
  exact⟨rfl,rfl⟩
 unfold Code.rounds
 go_wp2
 go_ret
 exact⟨rfl,rfl⟩
abbrev qsG (a b:ByteArray) (r t:Int):Obj:=Obj.cells #[Value.string a,Value.string b,Value.int IntKind.i64 r,Value.int IntKind.i64 t] 74
set_option maxHeartbeats 2000000 in
theorem qF0 (a1 b1 a2 b2:ByteArray) (r1 t1 r2 t2:Int) (W:World):Calls Tryz.prog 74 #[.agg #[.string a1,.string b1,.int .i64 r1,.int .i64 t1],.agg #[.string a2,.string b2,.int .i64 r2,.int .i64 t2]] W fun e w'=>e= .returned (.int .i64 (qGl a1.data.toList b1.data.toList a2.data.toList b2.data.toList))/\ ∃q os',w'=grow (W.drewN q) os':=by
 have c1:=fun W'=>qEe a1 a2 W'
 have c2:=fun W'=>qEe b1 b2 W'
 unfold qGl
 generalize Lib.compareBytes a1.data.toList a2.data.toList=a at c1⊢
 generalize Lib.compareBytes b1.data.toList b2.data.toList=b at c2⊢
 have h0:(a !=0)=true->(if a=0 then b else a)=a:=fun h=>if_neg (by simpa using h)
 have h1:(a !=0)=false->(if a=0 then b else a)=b:=fun h=>if_pos (by simpa using h)
 have h2:(b !=0)=false->b=0:=fun h=>by simpa using h
 have c3:=fun W' bk=>qIm a b _ W' bk h0 h1 h2
 generalize (if a=0 then b else a)=r at c3⊢
 clear h0 h1 h2
 go_enter Tryz.func74,Tryz.ntmps74
 go_wp2
 have hA:=(heap_alloc_old (W.alloc (qsG a1 b1 r1 t1)) (qsG a2 b2 r2 t2) (r:=W.heap.size) (by show W.heap.size<(W.heap.push _).size;simp)).trans (heap_alloc_new W _)
 have hB:=heap_alloc2_new W (qsG a1 b1 r1 t1) (qsG a2 b2 r2 t2)
 have hx: ∃q os',((W.alloc (qsG a1 b1 r1 t1)).alloc (qsG a2 b2 r2 t2)).drew=grow (W.drewN q) os':=⟨1,#[_,_],by rw[alloc_eq_grow,alloc_eq_grow,grow_grow];rfl⟩
 have g1:((W.alloc (qsG a1 b1 r1 t1)).alloc (qsG a2 b2 r2 t2)).drew.cell? ⟨W.heap.size,0,none⟩=some (.string a1):=cell_of_row hA 0
 have g2:((W.alloc (qsG a1 b1 r1 t1)).alloc (qsG a2 b2 r2 t2)).drew.cell? ⟨W.heap.size,1,none⟩=some (.string b1):=cell_of_row hA 1
 have g3:((W.alloc (qsG a1 b1 r1 t1)).alloc (qsG a2 b2 r2 t2)).drew.cell? ⟨W.heap.size+1,0,none⟩=some (.string a2):=cell_of_row hB 0
 have g4:((W.alloc (qsG a1 b1 r1 t1)).alloc (qsG a2 b2 r2 t2)).drew.cell? ⟨W.heap.size+1,1,none⟩=some (.string b2):=cell_of_row hB 1
 clear hA hB
 refine wp_region_still_tail 10 (by kernel_rfl) (by kernel_rfl) ?_
 simp only[List.take_succ_cons,List.take_zero,List.drop_succ_cons,YR]
 change wpStill _ _ ((W.alloc (qsG a1 b1 r1 t1)).alloc (qsG a2 b2 r2 t2)).drew (fun a'=>wpList _ _ _ _ a' ((W.alloc (qsG a1 b1 r1 t1)).alloc (qsG a2 b2 r2 t2)).drew) _ _
 generalize ((W.alloc (qsG a1 b1 r1 t1)).alloc (qsG a2 b2 r2 t2)).drew=w2 at*
 repeat still_step
 still_call (c1 _)
 repeat still_step
 still_call (c2 _)
 refine wpStill_nil ?_
 go_wp2_with (go_at_call 83;refine(c3 _ _ (cell_of_row (heap_alloc_new _ _) 0) (cell_of_row (heap_alloc_new _ _) 1)).mono ?_;rintro e w' ⟨rfl,rfl⟩)
 go_ret
 obtain⟨q,os',hx⟩:=hx
 exact⟨rfl,q,os'++#[_],by rw[alloc_eq_grow,hx,grow_grow]⟩
set_option maxHeartbeats 2000000 in
theorem qFY (a1 b1 a2 b2:ByteArray) (r1 t1 r2 t2:Int) (W:World):Calls Tryz.prog 127 #[.agg #[.string a1,.string b1,.int .i64 r1,.int .i64 t1],.agg #[.string a2,.string b2,.int .i64 r2,.int .i64 t2]] W fun e w'=>e= .returned (.int .i64 (qGl a1.data.toList b1.data.toList a2.data.toList b2.data.toList))/\ ∃q os',w'=grow (W.drewN q) os':=by
 have c3:=fun W'=>qF0 a1 b1 a2 b2 r1 t1 r2 t2 W'
 generalize qGl a1.data.toList b1.data.toList a2.data.toList b2.data.toList=r at c3⊢
 go_enter Tryz.func127,Tryz.ntmps127
 go_wp2_with (go_at_call 74;refine(c3 _).mono ?_;rintro e w' ⟨rfl,q,os',rfl⟩)
 go_ret
 have hx: ∃os0,((W.alloc (qsG a1 b1 r1 t1)).alloc (qsG a2 b2 r2 t2))=grow (W.drewN 0) os0:=⟨_,by rw[alloc_eq_grow,alloc_eq_grow,grow_grow];rfl⟩
 obtain⟨os0,hx⟩:=hx
 refine⟨rfl,q,os0++os',?_⟩
 show grow (((W.alloc (qsG a1 b1 r1 t1)).alloc (qsG a2 b2 r2 t2)).drewN q) os'=_
 rw[hx]
 simp[grow,World.drewN,Array.append_assoc]
section
variable {α:Type} [Inhabited α] {E:Enc α}
def eV (E:Enc α) (x:α):List Value:=vals (E.c x)
theorem qGU (x:α):(eV E x).length=E.k:=by rw[eV,qm6,E.len]
theorem qFr: ∀(l:List α) (t:Nat),t<l.length*E.k->(vals (l.flatMap E.c))[t]? =some ((eV E l.toArray[t/E.k]!)[t%E.k]!)
 |[],t,h=>by simp at h
 |x::l,t,h=>by
  have hp:=E.pos
  rw[List.flatMap_cons,vals,List.map_append]
  by_cases ht:t<E.k
  ·rw[Yf (by rw[List.length_map,E.len];exact ht),Nat.div_eq_of_lt ht,Nat.mod_eq_of_lt ht]
   have hl:t<(eV E x).length:=by rw[qGU];exact ht
   show(eV E x)[t]? =some ((eV E x)[t]!)
   rw[Ya hl,getElem!_pos (eV E x) t hl]
  have hk:E.k<=t:=by omega
  rw[Yo (by rw[List.length_map,E.len];exact hk),List.length_map,E.len]
  have ih:=qFr l (t-E.k) (by rw[Yr,Nat.succ_mul]at h;omega)
  have e1:t/E.k=(t-E.k)/E.k+1:=Nat.div_eq_sub_div hp hk
  have e2:t%E.k=(t-E.k)%E.k:=Nat.mod_eq_sub_mod hk
  have e3:(x::l).toArray[(t-E.k)/E.k+1]! =l.toArray[(t-E.k)/E.k]! :=by simp
  rw[e1,e2,e3]
  exact ih
theorem qHA (l:List α) (t:Nat) (h:t<l.length*E.k):(flatK (eV E) E.k l.toArray)[t]! =((vals (l.flatMap E.c))[t]?).getD default:=by
 rw[get_flatK _ _ _ _ (by simpa using h),qFr l t h]
 rfl
variable [Glob] {F:Nat->Prop} {nu:Nat->Option Nat} {A:Heap} {w:World}
theorem qFs (hf: ∀x,Fl (E.c x)) (i:Inv F nu A w) {b rb:Nat} {ns:List α} (hb:nu b=some rb) (hA:A[b]? =some (.cells (ns.flatMap E.c))):
 ∃c0 e,w.heap[rb]? =some (.cells c0 e (0,0))/\ns.length*E.k<=c0.size/\HoldsK (eV E) E.k w rb 0 ns.toArray:=by
 obtain⟨c0,e,hh,hl,hc⟩:=rowF i (Fl.flat hf ns) hb hA
 rw[E.flat_len]at hl hc
 refine⟨c0,e,hh,hl,fun j hj=>?_⟩
 have hj:j<ns.length*E.k:=by simpa using hj
 rw[Nat.zero_add,Go.Av.cell_of_row hh,Go.Av.frozen_of_row hh]
 refine⟨?_,rfl⟩
 rw[hc j hj,qHA ns j hj,qFr ns j hj]
 rfl
theorem qBE (hf: ∀x,Fl (E.c x)) (i:Inv F nu A w) {b rb m:Nat} {ns ms:List α} {os:Array Obj} (hb:nu b=some rb) (hA:A[b]? =some (.cells (ns.flatMap E.c))) (hlen:ms.length=ns.length):
 Stp F nu A w F nu (A.set b (.cells (ms.flatMap E.c))) (grow (putRowK (eV E) E.k (Sort.ahead w m) rb 0 ms.toArray) os):=by
 obtain⟨c0,e,hh,hl,hH⟩:=qFs hf i hb hA
 have hat:(putRowK (eV E) E.k (Sort.ahead w m) rb 0 ms.toArray).heap[rb]? =some (.cells (putCells id 0 (flatK (eV E) E.k ms.toArray) c0) e (0,0)):=by
  show(w.heap.modify rb _)[rb]? =_
  rw[YD,if_pos rfl,hh]
  rfl
 have hoth: ∀r,r≠rb->(putRowK (eV E) E.k (Sort.ahead w m) rb 0 ms.toArray).heap[r]? =w.heap[r]? :=by
  intro r hr
  show(w.heap.modify rb _)[r]? =_
  rw[YD,if_neg (fun e=>hr e.symm)]
 have hsz:(putRowK (eV E) E.k (Sort.ahead w m) rb 0 ms.toArray).heap.size=w.heap.size:=by
  show(w.heap.modify rb _).size=_
  simp
 have hcs:(putCells id 0 (flatK (eV E) E.k ms.toArray) c0).size=c0.size:=by simp[putCells]
 have hsh: ∀s,w.shape? rb=some s->(putRowK (eV E) E.k (Sort.ahead w m) rb 0 ms.toArray).shape? rb=some s:=by
  intro s h
  rw[<-h,qlS hh,qlS hat,hcs]
 have s1:=Ul i (k:= .cells (ms.flatMap E.c)) hb hA rfl rfl hoth hsz hsh rfl rfl rfl (fun hnF=>⟨hnF,_,e,hat,by rw[E.flat_len,hcs,hlen];exact hl,(Fl.flat hf ms).R (fun j hj=>by
  rw[E.flat_len]at hj
  unfold putCells
  rw[Array.getElem?_mapIdx]
  have hjc:j<c0.size:=by
   rw[hlen]at hj
   omega
  have hc:c0[j]? =some c0[j]:=Yi hjc
  rw[hc,ZM,if_pos ⟨Nat.zero_le _,by simpa using hj⟩,Nat.sub_zero,qHA ms j hj,qFr ms j hj]
  rfl)⟩)
 refine s1.trans (Stp.kept s1.inv (fun r hr=>?_) ?_ rfl rfl rfl)
 ·show((putRowK (eV E) E.k (Sort.ahead w m) rb 0 ms.toArray).heap++os)[r]? =_
  rw[YC hr]
 show _<=((putRowK (eV E) E.k (Sort.ahead w m) rb 0 ms.toArray).heap++os).size
 simp
end
theorem yent: ∀args w,(callFunc 127 args).run Tryz.prog w= .ok (.enter 127 args) w:=Go.Proofs.enters_of Tryz.func127 (by kernel_rfl) rfl
theorem qFv {F:Nat->Prop} {nu:Nat->Option Nat} {w:World} {g:FuncId} {v:Value} (h:R F nu w (.func (.func g) [] []) v):v= .func (.func g) #[] #[]:=by
 cases h with
 |func fn fs cs vf vc h1 h2 hf hc=>
  obtain rfl:vf=#[]:=Array.eq_empty_of_size_eq_zero (by simpa using h1)
  obtain rfl:vc=#[]:=Array.eq_empty_of_size_eq_zero (by simpa using h2)
  rfl
section
variable [Glob] {α:Type} [Inhabited α] {E:Enc α} {lo od:α->List UInt8} {rs tk:α->Int}
theorem qyb.cmp (h:qyb E lo od rs tk) (rb:Nat) (n:Nat) (w:World):CmpLays Tryz.prog 127 #[] (eV E) 4 (cfH lo od) rb 0 n w:=by
 intro _ _ _ _ x y
 have e1: ∀z,(eV E z).toArray=#[.string ⟨(lo z).toArray⟩,.string ⟨(od z).toArray⟩,.int .i64 (rs z),.int .i64 (tk z)]:=fun z=>by
  unfold eV vals
  rw[h.c]
  rfl
 rw[e1,e1]
 exact qFY ⟨(lo x).toArray⟩ ⟨(od x).toArray⟩ ⟨(lo y).toArray⟩ ⟨(od y).toArray⟩ (rs x) (tk x) (rs y) (tk y) _
theorem qB8 (h:qyb E lo od rs tk) {ns:List α} (hn:ns.length<=1000000) {F:Nat->Prop} {nu:Nat->Option Nat} {w:World} (i:Inv F nu [.cells (ns.flatMap E.c)] w) {rb cap:Nat} (hb:nu 0=some rb):
 Calls Tryz.prog 126 #[.slice (some ⟨rb,0,none⟩) ns.length cap,.func (.func 127) #[] #[]] w fun e w'=> ∃v F' nu',e= .returned v/\Stp F nu [.cells (ns.flatMap E.c)] w F' nu' [.cells ((qtB lo od ns).flatMap E.c)] w'/\R F' nu' w' (.tuple []) v:=by
 obtain⟨c0,e0,hh,hl,hH⟩:=qFs (E:=E) h.fl i hb (show[Blk.cells (ns.flatMap E.c)][0]? =some _ from rfl)
 have st0:=fun m os=>qBE (E:=E) (m:=m) (os:=os) h.fl i hb (show[Blk.cells (ns.flatMap E.c)][0]? =some _ from rfl) (qr6 lo od ns).1
 rw[h.k]at hH
 have key:=AnyQ.slices_SortFunc_eq Tryz.sortHold 4 Tryz.isAgg74 Tryz.sizeOf74 (eV E) (fun x=>by rw[qGU,h.k]) (fun x=>(h.fl x).one) (cfH lo od) (show SWO (ltOf (cfH lo od))from swoH lo od) 127 #[] rb 0 cap ns.toArray w yent (h.cmp rb _ w) hH (i.ltN 0 rb hb) (by simp;omega)
 have hs:ns.toArray.size=ns.length:=by simp
 refine Calls.mono (show Calls Tryz.prog 126 #[.slice (some ⟨rb,0,none⟩) ns.length cap,.func (.func 127) #[] #[]] w _ from hs▸key) ?_
 rintro e w' ⟨rfl,m,os,rfl⟩
 have st:=st0 m os
 have et:(qtB lo od ns).toArray=pdq (ltOf (cfH lo od)) ns.toArray 0 ns.toArray.size (Lib.bitLen ns.toArray.size) true true:=by
  unfold qtB
  simp only[Array.toArray_toList]
  rfl
 rw[et,h.k]at st
 exact⟨_,F,nu,rfl,st,.tuple _ _ rfl fun i a v ha _=>by simp at ha⟩
theorem qED {p:Option Addr} {cap:Nat} {F:Nat->Prop} {nu:Nat->Option Nat} {w:World} (i:Inv F nu [.cells []] w):
 Calls Tryz.prog 126 #[.slice p 0 cap,.func (.func 127) #[] #[]] w fun e w'=> ∃v F' nu',e= .returned v/\Stp F nu [.cells []] w F' nu' [.cells []] w'/\R F' nu' w' (.tuple []) v:=by
 refine Calls.mono (show Calls Tryz.prog 126 #[.slice p 0 cap,.func (.func 127) #[] #[]] w _ from AnyF.slices_SortFunc_none Tryz.sortHold p cap _ w) ?_
 rintro e w' ⟨rfl,rfl⟩
 exact⟨_,F,nu,rfl,.refl i,.tuple _ _ rfl fun i a v ha _=>by simp at ha⟩
theorem qyb.sortO (h:qyb E lo od rs tk) {ns:List α} (hn:ns.length<=1000000):zu Tryz.prog (.fn 126) [.oslice 0 ns.length 4,.func (.func 127) [] []] [.cells (ns.flatMap E.c)] (.tuple []) [.cells ((qtB lo od ns).flatMap E.c)]:=by
 intro F nu w vs i hargs
 refine .inl ⟨enters_of (by kernel_rfl),?_⟩
 obtain⟨x,ws,rfl,hx,hws⟩:=hargs.cons_inv
 obtain⟨y,us,he,hy,hus⟩:=hws.cons_inv
 obtain rfl:ws=y::us:=by simpa using he
 obtain rfl:=hus.nil_inv
 obtain rfl:=qFv hy
 cases hx with
 |oslice _ _ _ rb cap e m hb hc hsh hm hxx=>exact qB8 h hn i hb
theorem qyb.sortG (h:qyb E lo od rs tk) {ns:List α} (hn:ns.length<=1000000):zu Tryz.prog (.fn 126) [.gslice 0 ns.length 4,.func (.func 127) [] []] [.cells (ns.flatMap E.c)] (.tuple []) [.cells ((qtB lo od ns).flatMap E.c)]:=by
 intro F nu w vs i hargs
 refine .inl ⟨enters_of (by kernel_rfl),?_⟩
 obtain⟨x,ws,rfl,hx,hws⟩:=hargs.cons_inv
 obtain⟨y,us,he,hy,hus⟩:=hws.cons_inv
 obtain rfl:ws=y::us:=by simpa using he
 obtain rfl:=hus.nil_inv
 obtain rfl:=qFv hy
 match ns,hx with
 |[],hx=>
  cases hx with
  |gslice0 _ _ p=>
   rw[qGg]
   exact qED i
  |gslice _ _ _ rb cap e m hp=>exact absurd hp (by simp)
 |n::ns,hx=>
  cases hx with
  |gslice _ _ _ rb cap e m hp hb hc hsh hm hxx=>exact qB8 h hn i hb
end
end Go.Av
end
