/-
  slices.Insert at rows of integers: the program's own row, whatever its spare room; told on the abstract heap.
-/
import Derived.Test.YtcioalhpchindaaGreatDoorAvCon
import Derived.Shelf.Spec.SlicesInsertGrow
noncomputable section
namespace Go.Av
open Go.Proofs Go.RowKit Go.Shelf
set_option linter.unusedSectionVars false
variable [Glob]
structure jX (w w':World) (rb:Nat) (e:TypeId) (c1:Array Value):Prop where
 at_:w'.heap[rb]? =some (.cells c1 e (0,0))
 oth: ∀r,r≠rb→w'.heap[r]? =w.heap[r]?
 size:w'.heap.size=w.heap.size
 os:w'.os=w.os
 tape:w'.tape=w.tape
 output:w'.output=w.output
theorem qaL {w:World} {rb o:Nat} {e:TypeId} {c0:Array Value} (v:Value) (h:w.heap[rb]? =some (.cells c0 e (0,0))):jX w (w.setCell ⟨rb,o,none⟩ v) rb e (c0.setIfInBounds o v):=by
 refine⟨?_,fun r hr=>?_,?_,rfl,rfl,rfl⟩
 ·unfold World.setCell
  simp only[Array.getElem?_modify,if_true,h]
  rfl
 ·unfold World.setCell
  simp only[Array.getElem?_modify]
  rw[if_neg (fun e=>hr e.symm)]
 ·simp[World.setCell]
theorem zO (rb:Nat) (e:TypeId): ∀(vs:List Value) (o:Nat) (w:World) (c0:Array Value),w.heap[rb]? =some (.cells c0 e (0,0))→o+vs.length≤c0.size→
 ∃c1,jX w (w.setCells rb o vs) rb e c1∧c1.size=c0.size∧ ∀j,c1[j]? =if o≤j∧j<o+vs.length then vs[j-o]? else c0[j]? :=by
 intro vs
 induction vs with
 |nil=>
  intro o w c0 h _
  refine⟨c0,⟨h,fun _ _=>rfl,rfl,rfl,rfl,rfl⟩,rfl,fun j=>?_⟩
  rw[if_neg (fun h=>by have:=h.1;have:=h.2;simp at this;omega)]
 |cons v vs ih=>
  intro o w c0 h hl
  simp only[List.length_cons]at hl
  have h1:=qaL (o:=o) v h
  obtain⟨c1,r,hs,hc⟩:=ih (o+1) (w.setCell ⟨rb,o,none⟩ v) _ h1.at_ (by simp;omega)
  refine⟨c1,⟨r.at_,fun q hq=>(r.oth q hq).trans (h1.oth q hq),r.size.trans h1.size,r.os,r.tape,r.output⟩,by simpa using hs,fun j=>?_⟩
  rw[hc j]
  simp only[List.length_cons]
  by_cases hj:j=o
  ·subst hj
   rw[if_neg (by omega),if_pos (by omega)]
   simp only[Nat.sub_self,List.getElem?_cons_zero]
   rw[Array.getElem?_setIfInBounds_self_of_lt (by omega)]
  ·rw[Array.getElem?_setIfInBounds_ne (fun e=>hj e.symm)]
   by_cases h2:o+1≤j∧j<o+1+vs.length
   ·rw[if_pos h2,if_pos (by omega)]
    have:j-o=(j-(o+1))+1:=by omega
    rw[this,List.getElem?_cons_succ]
   ·rw[if_neg h2,if_neg (by omega)]
def zq (ns:List Int):List AV:=ns.map (AV.int .i64)
def qp (ns:List Int):List Value:=ns.map (Value.int .i64)
def xE:List AV→Option (List Int)
 |[]=>some []
 | .int .i64 n::r=>(xE r).map (n:: ·)
 |_::_=>none
theorem qdr: ∀{cs:List AV} {ns:List Int},xE cs=some ns→cs=zq ns:=by
 intro cs
 induction cs with
 |nil=>intro ns h;injection h with h;subst h;rfl
 |cons c cs ih=>
  intro ns h
  unfold xE at h
  split at h
  ·rename_i e;cases e
  ·rename_i n r e
   injection e with e1 e2
   subst e1 e2
   obtain⟨m,hm,rfl⟩:=Option.map_eq_some_iff.1 h
   rw[ih hm]
   rfl
  ·cases h
def qbD (args:List AV) (A:Heap):Option (AV×Heap):=
 match args with
 |[.nilslice,.int .i64 0,.slice vb 0 1 _ 1]=>
  match A[vb]? with
  |some (.cells [.int .i64 x])=>some (.oslice A.length 1 1,A++[.cells [.int .i64 x]])
  |_=>none
 |[.oslice b n 1,.int .i64 i,.slice vb 0 1 _ 1]=>
  match A[b]?,A[vb]? with
  |some (.cells cs),some (.cells [.int .i64 x])=>
   match xE cs with
   |some ns=>if ns.length=n∧0≤i∧i.toNat≤n∧n≤100000∧b≠vb then some (.oslice A.length (n+1) 1,A.set b .dead++[.cells (zq (ns.take i.toNat++[x]++ns.drop i.toNat))])else none
   |none=>none
  |_,_=>none
 |_=>none
theorem qdC {F:Nat→Prop} {nu:Nat→Option Nat} {w:World} {ns:List Int}: ∀(j:Nat) (a:AV) (v:Value),(zq ns)[j]? =some a→(qp ns)[j]? =some v→R F nu w a v:=by
 intro j a v ha hv
 simp only[zq,qp,List.getElem?_map]at ha hv
 cases h:ns[j]? with
 |none=>rw[h]at ha;cases ha
 |some n=>
  rw[h]at ha hv
  simp only[Option.map_some,Option.some.injEq]at ha hv
  subst ha hv
  exact .int _ _
theorem jO {ns:List Int}: ∀v∈qp ns,v.oneCell'=true:=by
 intro v hv
 simp only[qp,List.mem_map]at hv
 obtain⟨n,_,rfl⟩:=hv
 rfl
theorem row_of {F:Nat→Prop} {nu:Nat→Option Nat} {A:Heap} {w:World} (i:Inv F nu A w) {b rb:Nat} {ns:List Int} (hb:nu b=some rb) (hA:A[b]? =some (.cells (zq ns))):
 ∃c0 e,w.heap[rb]? =some (.cells c0 e (0,0))∧ns.length≤c0.size∧ ∀j,j<ns.length→c0[j]? =(qp ns)[j]? :=by
 obtain⟨_,c0,e,hh,hl,hR⟩:=i.blk b rb _ hb hA
 have hl:ns.length≤c0.size:=by simpa[zq]using hl
 refine⟨c0,e,hh,hl,fun j hj=>?_⟩
 have h1:(zq ns)[j]? =some (.int .i64 ns[j]):=by simp[zq,hj]
 have h2:c0[j]? =some c0[j]:=Array.getElem?_eq_getElem (by omega)
 have:=(hR j _ _ h1 h2).int_inv
 rw[h2,this]
 simp[qp,hj]
theorem cell_of_row {w:World} {rb:Nat} {c0:Array Value} {e:TypeId} (h:w.heap[rb]? =some (.cells c0 e (0,0))) (j:Nat):w.cell? ⟨rb,j,none⟩=c0[j]? :=by
 simp only[World.cell?,h,Option.isSome_none,Bool.false_eq_true,if_false]
theorem frozen_of_row {w:World} {rb:Nat} {c0:Array Value} {e:TypeId} (h:w.heap[rb]? =some (.cells c0 e (0,0))) (j:Nat):w.frozen? ⟨rb,j,none⟩=false:=by
 simp[World.frozen?,h]
theorem zB {w:World} {rb:Nat} {c0:Array Value} {e:TypeId} (h:w.heap[rb]? =some (.cells c0 e (0,0))):w.shape? rb=some (e,c0.size):=by
 simp only[World.shape?,h]
theorem jX.trans {w w' w'':World} {rb:Nat} {e e':TypeId} {c1 c2:Array Value} (h:jX w w' rb e c1) (k:jX w' w'' rb e' c2):jX w w'' rb e' c2:=
 ⟨k.at_,fun r hr=>(k.oth r hr).trans (h.oth r hr),k.size.trans h.size,k.os.trans h.os,k.tape.trans h.tape,k.output.trans h.output⟩
theorem jX.drew {w w':World} {rb:Nat} {e:TypeId} {c1:Array Value} (h:jX w w' rb e c1):jX w w'.drew rb e c1:=⟨h.at_,h.oth,h.size,h.os,h.tape,h.output⟩
theorem jX.ofDrew {w w':World} {rb:Nat} {e:TypeId} {c1:Array Value} (h:jX w.drew w' rb e c1):jX w w' rb e c1:=⟨h.at_,h.oth,h.size,h.os,h.tape,h.output⟩
section
variable {F:Nat→Prop} {nu:Nat→Option Nat} {A:Heap} {w:World}
theorem qa2 {ns:List Int} {c:Array Value} (hc: ∀j,j<ns.length→c[j]? =(qp ns)[j]?): ∀(j:Nat) (a:AV) (v:Value),(zq ns)[j]? =some a→c[j]? =some v→R F nu w a v:=by
 intro j a v ha hv
 have hj:j<ns.length:=by
  have:=(List.getElem?_eq_some_iff.1 ha).1
  simpa[zq]using this
 rw[hc j hj]at hv
 exact qdC j a v ha hv
theorem qbG (i:Inv F nu A w) {b rb n cap:Nat} {ns ms:List Int} {c0 c1:Array Value} {e:TypeId} {w':World} (hb:nu b=some rb) (hA:A[b]? =some (.cells (zq ns))) (hh:w.heap[rb]? =some (.cells c0 e (0,0)))
 (r:jX w w' rb e c1) (hs:c1.size=c0.size) (hn:ms.length=n) (hcap:n≤cap) (hm:cap≤c0.size) (hx:cap≤9223372036854775807) (hc: ∀j,j<ms.length→c1[j]? =(qp ms)[j]?):
 ∃nu',Stp F nu A w F nu' (A.set b .dead++[.cells (zq ms)]) w'∧R F nu' w' (.oslice A.length n 1) (.slice (some ⟨rb,0,none⟩) n cap):=by
 have hsh: ∀s,w.shape? rb=some s→w'.shape? rb=some s:=by
  intro s h
  rw[←h,zB hh,zB r.at_,hs]
 have s1:=Stp.write i (k:= .cells (zq ms)) hb hA rfl rfl r.oth r.size hsh r.os r.tape r.output (fun hnF=>⟨hnF,c1,e,r.at_,by simp[zq];omega,qa2 hc⟩)
 have hblt:b<A.length:=(List.getElem?_eq_some_iff.1 hA).1
 have s2:=Stp.rename s1.inv (b:=b) hb (k:= .cells (zq ms)) (by simp[hblt]) rfl
 simp only[List.set_set,List.length_set]at s2
 refine⟨_,s1.trans s2,.oslice _ _ _ _ _ e c1.size (upd_same _ _) hcap (zB r.at_) (by omega) hx⟩
theorem qcO (i:Inv F nu A w) {n cap:Nat} {ms:List Int} {c1:Array Value} {e:TypeId} {w':World} (h1:w'.heap[w.heap.size]? =some (.cells c1 e (0,0))) (h2: ∀r,r<w.heap.size→w'.heap[r]? =w.heap[r]?) (h3:w'.heap.size=w.heap.size+1)
 (ho:w'.os=w.os) (ht:w'.tape=w.tape) (hp:w'.output=w.output) (hn:ms.length=n) (hcap:n≤cap) (hm:cap≤c1.size) (hx:cap≤9223372036854775807) (hc: ∀j,j<ms.length→c1[j]? =(qp ms)[j]?):
 ∃nu',Stp F nu A w F nu' (A++[.cells (zq ms)]) w'∧R F nu' w' (.oslice A.length n 1) (.slice (some ⟨w.heap.size,0,none⟩) n cap):=by
 have s1:=Stp.allocCells i c1 e (zq ms) (by simp[zq];omega) (qa2 hc)
 have hheap:w'.heap=(w.alloc (.cells c1 e)).heap:=by
  refine Array.ext_getElem? fun j=>?_
  rcases Nat.lt_trichotomy j w.heap.size with hj|hj|hj
  ·rw[h2 j hj]
   exact(Go.heap_alloc_old w _ hj).symm
  ·subst hj
   rw[h1]
   exact(Go.heap_alloc_new w _).symm
  ·rw[Array.getElem?_eq_none (by omega),Array.getElem?_eq_none (by simp;omega)]
 have s2:=Stp.same s1.inv (w':=w') hheap ho ht hp
 exact⟨_,s1.trans s2,.oslice _ _ _ _ _ e c1.size (upd_same _ _) hcap (zB h1) (by omega) hx⟩
end
theorem RL.args3 {F:Nat→Prop} {nu:Nat→Option Nat} {w:World} {a b c:AV} {vs:Array Value} (h:RL F nu w [a,b,c] vs): ∃x y z,vs=#[x,y,z]∧R F nu w a x∧R F nu w b y∧R F nu w c z:=by
 obtain⟨l⟩:=vs
 obtain⟨h1,h2⟩:=h
 match l,h1,h2 with
 |[x,y,z],_,h2=>exact⟨x,y,z,rfl,h2 0 _ _ rfl rfl,h2 1 _ _ rfl rfl,h2 2 _ _ rfl rfl⟩
theorem qcZ {P:Program} {ρ:Ren} (L:Lays2.n21 P ρ) (he:Enters P (ρ.f 21)) {args:List AV} {A A':Heap} {v:AV} (h:qbD args A=some (v,A')):qg P (.fn (ρ.f 21)) args A v A':=by
 intro F nu w vs i hargs
 refine .inl ⟨he,?_⟩
 unfold qbD at h
 split at h
 ·rename_i vb vcap
  obtain⟨s,kv,vv,rfl,hs,hk,hv⟩:=hargs.args3
  obtain rfl:=hk.int_inv
  cases hs
  cases hv with
  |slice _ _ _ _ _ rv hrv hvc=>
  split at h
  ·rename_i x hA
   simp only[Option.some.injEq,Prod.mk.injEq]at h
   obtain⟨rfl,rfl⟩:=h
   obtain⟨c1,e1,hh1,hl1,hcv1⟩:=row_of i hrv (ns:=[x]) hA
   have hvs: ∀j v,(qp [x])[j]? =some v→w.cell? ⟨rv,0+j,none⟩=some v:=by
    intro j v hj
    have hjl:=(List.getElem?_eq_some_iff.1 hj).1
    rw[cell_of_row hh1,Nat.zero_add,hcv1 j (by simpa[qp]using hjl),hj]
   have:=Any2.slices_Insert_int_end_grow L none 0 0 rv 0 1 vcap [] (qp [x]) w (by omega) (by omega) (by omega) (by omega) rfl rfl (fun _=>rfl) (by intro a ha;cases ha) hvs jO
   refine Calls.mono (show Calls P (ρ.f 21) #[.slice none 0 0,.int .i64 0,.slice (some ⟨rv,0,none⟩) 1 vcap] w _ from this) ?_
   rintro e' w' ⟨rfl,rfl⟩
   have hg:=grownCap_ge w 1 0 (ρ.t 3)
   obtain⟨nu',st,hR⟩:=qcO i (w':=w.drew.alloc (.cells (([]++qp [x]).toArray++Builtin.zeroCells (Value.int .i64 0).cells (grownCap w (0+1) 0 (ρ.t 3)-(0+1))) (ρ.t 3))) (c1:=([]++qp [x]).toArray++Builtin.zeroCells (Value.int .i64 0).cells (grownCap w (0+1) 0 (ρ.t 3)-(0+1))) (n:=1) (cap:=grownCap w 1 0 (ρ.t 3)) (ms:=[x]) (Go.heap_alloc_new w.drew _) (fun r hr=>Go.heap_alloc_old w.drew _ hr) (by simp) rfl rfl rfl rfl hg (by simp[size_zeroCells,Value.cells,qp];omega)
    (Go.grownCap_le_maxLen w 1 0 _ (by unfold maxLen;omega)) (fun j hj=>by
     have:j=0:=by simpa using hj
     subst this
     rw[Array.getElem?_append_left (by simp[qp])]
     rfl)
   exact⟨_,_,nu',rfl,st,hR⟩
  ·cases h
 ·rename_i b n k0 vb vcap
  obtain⟨s,kv,vv,rfl,hs,hk,hv⟩:=hargs.args3
  obtain rfl:=hk.int_inv
  cases hs with
  |oslice _ _ _ rb cap e m hb hc hsh hm hx=>
  cases hv with
  |slice _ _ _ _ _ rv hrv hvc=>
  split at h
  ·rename_i cs x hA hAv
   split at h
   ·rename_i ns hns
    split at h
    ·rename_i hcond
     obtain⟨hn,hk0,hkn,hbig,hbv⟩:=hcond
     simp only[Option.some.injEq,Prod.mk.injEq]at h
     obtain⟨rfl,rfl⟩:=h
     obtain rfl:=qdr hns
     obtain⟨c0,e0,hh,hl,hcv⟩:=row_of i hb hA
     obtain⟨c1,e1,hh1,hl1,hcv1⟩:=row_of i hrv (ns:=[x]) hAv
     have hne:rv≠rb:=fun e=>hbv (i.inj b vb rb _ _ hb (e▸hrv) hA hAv rfl rfl)
     have hshe:e=e0∧m=c0.size:=by
      rw[zB hh]at hsh
      simp only[Option.some.injEq,Prod.mk.injEq]at hsh
      exact⟨hsh.1.symm,hsh.2.symm⟩
     obtain⟨rfl,rfl⟩:=hshe
     obtain⟨k,rfl⟩: ∃k:Nat,k0=(k:Int):=⟨k0.toNat,by omega⟩
     simp only[Int.toNat_natCast]at hkn⊢
     have hvs: ∀j v,(qp [x])[j]? =some v→w.cell? ⟨rv,0+j,none⟩=some v:=by
      intro j v hj
      have hjl:=(List.getElem?_eq_some_iff.1 hj).1
      rw[cell_of_row hh1,Nat.zero_add,hcv1 j (by simpa[qp]using hjl),hj]
     have hcs: ∀j v,(qp ns)[j]? =some v→w.cell? ⟨rb,0+j,none⟩=some v:=by
      intro j v hj
      have hjl:=(List.getElem?_eq_some_iff.1 hj).1
      rw[cell_of_row hh,Nat.zero_add,hcv j (by simpa[qp]using hjl),hj]
     have hlv:(qp ns).length=n:=by simpa[qp]using hn
     have hms:(ns.take k++[x]++ns.drop k).length=n+1:=by simp;omega
     have hat: ∀j,j<n+1→(qp (ns.take k++[x]++ns.drop k))[j]? =if j<k then(qp ns)[j]? else if j=k then some (.int .i64 x)else(qp ns)[j-1]? :=by
      intro j hj
      simp only[qp,List.getElem?_map]
      by_cases h1:j<k
      ·rw[if_pos h1,List.append_assoc,List.getElem?_append_left (by simp;omega),List.getElem?_take_of_lt h1]
      ·rw[if_neg h1]
       by_cases h2:j=k
       ·subst h2
        rw[if_pos rfl,List.append_assoc,List.getElem?_append_right (by simp;omega)]
        have:j-(ns.take j).length=0:=by simp;omega
        rw[this]
        rfl
       ·rw[if_neg h2,List.append_assoc,List.getElem?_append_right (by simp;omega)]
        have:j-(ns.take k).length=(j-1-k)+1:=by simp;omega
        rw[this]
        simp only[List.cons_append,List.nil_append,List.getElem?_cons_succ,List.getElem?_drop]
        rw[show k+(j-1-k)=j-1 by omega]
     have hblt:b<A.length:=(List.getElem?_eq_some_iff.1 hA).1
     by_cases hroom:n+1≤cap
     ·by_cases hend:k=n
      ·subst hend
       have:=Any2.slices_Insert_int_end_room L rb 0 k cap rv 0 1 vcap (qp [x]) w (by omega) hroom hx rfl (fun j hj=>by
        rw[cell_of_row hh,Array.getElem?_eq_getElem (by omega)];rfl) (fun j _=>frozen_of_row hh _) hvs jO
       refine Calls.mono this ?_
       rintro e' w' ⟨rfl,rfl⟩
       obtain⟨c2,rw2,hs2,hc2⟩:=zO rb e (qp [x]) (0+k) w c0 hh (by simp[qp];omega)
       obtain⟨nu',st,hR⟩:=qbG i hb hA hh rw2 hs2 hms hroom (by omega) hx (fun j hj=>by
        rw[hms]at hj
        rw[hat j hj,hc2 j]
        by_cases h1:j<k
        ·rw[if_neg (by omega),if_pos h1,hcv j (by omega)]
        ·have:j=k:=by omega
         subst this
         rw[if_pos (by simp[qp]),if_neg h1,if_pos rfl]
         simp[qp])
       exact⟨_,_,nu',rfl,st,hR⟩
      ·have:=Any2.slices_Insert_int_shift L rb 0 n cap k rv 0 1 vcap (qp ns) (qp [x]) w (by omega) (by omega) hroom hx hne hlv rfl hcs (fun j hj=>by
        rw[cell_of_row hh,Array.getElem?_eq_getElem (by omega)];rfl) (fun j _=>frozen_of_row hh _) hvs jO jO e1 e c1.size c0.size (zB hh1) (zB hh) (by omega) (frozen_of_row hh1 _) (frozen_of_row hh1 _)
       refine Calls.mono this ?_
       rintro e' w' ⟨rfl,rfl⟩
       obtain⟨c2,rw2,hs2,hc2⟩:=zO rb e ((qp ns).drop k) (0+(k+1)) w.drew c0 hh (by simp[hlv];omega)
       obtain⟨c3,rw3,hs3,hc3⟩:=zO rb e (qp [x]) (0+k) _ c2 rw2.at_ (by simp[qp];omega)
       obtain⟨nu',st,hR⟩:=qbG i hb hA hh (rw2.trans rw3).ofDrew (hs3.trans hs2) hms hroom (by omega) hx (fun j hj=>by
        rw[hms]at hj
        rw[hat j hj,hc3 j]
        by_cases h1:j<k
        ·rw[if_neg (by omega),if_pos h1,hc2 j,if_neg (by omega),hcv j (by omega)]
        ·rw[if_neg h1]
         by_cases h2:j=k
         ·subst h2
          rw[if_pos (by simp[qp]),if_pos rfl]
          simp[qp]
         ·rw[if_neg (by simp[qp];omega),if_neg h2,hc2 j,if_pos (by simp[hlv];omega),List.getElem?_drop]
          rw[show k+(j-(0+(k+1)))=j-1 by omega])
       exact⟨_,_,nu',rfl,st,hR⟩
     ·have hg:=grownCap_ge w (n+1) cap (ρ.t 3)
      have hgm:=Go.grownCap_le_maxLen w (n+1) cap (ρ.t 3) (by unfold maxLen;omega)
      have fin: ∀{w':World} {cc:Array Value},w'.heap[w.heap.size]? =some (.cells cc (ρ.t 3) (0,0))→(∀r,r<w.heap.size→w'.heap[r]? =w.heap[r]?)→w'.heap.size=w.heap.size+1→w'.os=w.os→w'.tape=w.tape→w'.output=w.output→
       grownCap w (n+1) cap (ρ.t 3)≤cc.size→(∀j,j<(ns.take k++[x]++ns.drop k).length→cc[j]? =(qp (ns.take k++[x]++ns.drop k))[j]?)→
       ∃x' F' nu',Ending.returned (.slice (some ⟨w.heap.size,0,none⟩) (n+1) (grownCap w (n+1) cap (ρ.t 3)))= .returned x'∧Stp F nu A w F' nu' (A.set b .dead++[.cells (zq (ns.take k++[x]++ns.drop k))]) w'∧R F' nu' w' (.oslice A.length (n+1) 1) x':=by
       intro w' cc h1 h2 h3 h4 h5 h6 h7 h8
       obtain⟨nu',st,hR⟩:=qcO i h1 h2 h3 h4 h5 h6 hms hg h7 hgm h8
       have s2:=Stp.kill st.inv b
       rw[List.set_append_left _ _ hblt]at s2
       exact⟨_,F,nu',rfl,st.trans s2,hR⟩
      by_cases hend:k=n
      ·subst hend
       have:=Any2.slices_Insert_int_end_grow L (some ⟨rb,0,none⟩) k cap rv 0 1 vcap (qp ns) (qp [x]) w (by omega) hc (by omega) (by omega) hlv rfl (fun e=>by cases e) (by
        intro a ha j v hj
        injection ha with ha
        subst ha
        rw[kJ]
        exact hcs j v hj) hvs jO
       refine Calls.mono this ?_
       rintro e' w' ⟨rfl,rfl⟩
       refine fin (Go.heap_alloc_new w.drew _) (fun r hr=>Go.heap_alloc_old w.drew _ hr) (by simp) rfl rfl rfl (by simp[size_zeroCells,Value.cells,hlv];simp[qp];omega) (fun j hj=>?_)
       rw[hms]at hj
       rw[hat j hj]
       by_cases h1:j<k
       ·rw[if_pos h1,Array.getElem?_append_left (by simp[hlv];omega)]
        rw[List.getElem?_toArray,List.getElem?_append_left (by omega)]
       ·have:j=k:=by omega
        subst this
        rw[if_neg h1,if_pos rfl,Array.getElem?_append_left (by simp[qp];omega),List.getElem?_toArray,List.getElem?_append_right (by omega),hlv]
        simp[qp]
      ·have:=Any2.slices_Insert_int_grow L rb 0 n cap k rv 0 1 vcap (qp ns) (qp [x]) w (by omega) (by omega) hc (by omega) (by omega) hlv rfl hcs hvs jO jO
       refine Calls.mono this ?_
       rintro e' w' ⟨rfl,rfl⟩
       obtain⟨ROW,hROW⟩: ∃ROW:Array Value,ROW=((qp ns).take k).toArray++Builtin.zeroCells (Value.int .i64 0).cells (n+1-k)++Builtin.zeroCells (Value.int .i64 0).cells (grownCap w (n+1) cap (ρ.t 3)-(n+1)):=⟨_,rfl⟩
       rw[←hROW]
       have hRs:ROW.size=grownCap w (n+1) cap (ρ.t 3):=by
        rw[hROW]
        simp[size_zeroCells,Value.cells,hlv]
        omega
       have h0:(w.alloc (.cells ROW (ρ.t 3))).drew.heap[w.heap.size]? =some (.cells ROW (ρ.t 3) (0,0)):=Go.heap_alloc_new w _
       obtain⟨c2,rw2,hs2,hc2⟩:=zO w.heap.size (ρ.t 3) (qp [x]) k _ ROW h0 (by simp[qp];omega)
       obtain⟨c3,rw3,hs3,hc3⟩:=zO w.heap.size (ρ.t 3) ((qp ns).drop k) (k+1) _ c2 rw2.drew.at_ (by simp[hlv];omega)
       have hall:=rw2.drew.trans rw3
       refine fin hall.at_ (fun r hr=>(hall.oth r (by omega)).trans (Go.heap_alloc_old w _ hr)) (hall.size.trans (by simp)) hall.os hall.tape hall.output (by omega) (fun j hj=>?_)
       rw[hms]at hj
       rw[hat j hj,hc3 j]
       by_cases h1:j<k
       ·rw[if_neg (by omega),if_pos h1,hc2 j,if_neg (by omega),hROW,Array.getElem?_append_left (by simp[hlv];omega),Array.getElem?_append_left (by simp[hlv];omega),List.getElem?_toArray,List.getElem?_take_of_lt h1]
       ·rw[if_neg h1]
        by_cases h2:j=k
        ·subst h2
         rw[if_neg (by omega),if_pos rfl,hc2 j,if_pos (by simp[qp])]
         simp[qp]
        ·rw[if_pos (by simp[hlv];omega),if_neg h2,List.getElem?_drop]
         rw[show k+(j-(k+1))=j-1 by omega]
    ·cases h
   ·cases h
  ·cases h
 ·cases h
end Go.Av
