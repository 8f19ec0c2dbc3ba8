/-
  slices.Insert at rows of integers: the program's own row, whatever its spare room; told on the abstract heap.
-/
import Derived.Test.YtojjlmnhhgebhaaGreatDoorAvFn
import Derived.Shelf.Spec.SlicesInsertGrow
import Derived.Test.YtojjlmnhhgebhaaGreatDoorAvWa
import Derived.Shelf.Strings.Builder1
set_option linter.unusedSectionVars false
set_option linter.unusedVariables false
set_option maxRecDepth 100000
noncomputable section
namespace Go.Av
open Go.Proofs Go.RowKit Go.Shelf
variable [Glob]
structure qdg (w w':World) (rb:Nat) (e:TypeId) (c1:Array Value):Prop where
 at_:w'.heap[rb]? =some (.cells c1 e (0,0))
 oth: ∀r,r≠rb->w'.heap[r]? =w.heap[r]?
 size:w'.heap.size=w.heap.size
 os:w'.os=w.os
 tape:w'.tape=w.tape
 output:w'.output=w.output
theorem qiE {w:World} {rb o:Nat} {e:TypeId} {c0:Array Value} (v:Value) (h:w.heap[rb]? =some (.cells c0 e (0,0))):qdg w (w.setCell ⟨rb,o,none⟩ v) rb e (c0.setIfInBounds o v):=by
 refine⟨?_,fun r hr=>?_,?_,rfl,rfl,rfl⟩
 ·unfold World.setCell;simp only[YD,if_true,h];rfl
 ·unfold World.setCell;simp only[YD];rw[if_neg (fun e=>hr e.symm)]
 simp[World.setCell]
theorem zR (rb:Nat) (e:TypeId): ∀(vs:List Value) (o:Nat) (w:World) (c0:Array Value),w.heap[rb]? =some (.cells c0 e (0,0))->o+vs.length<=c0.size->
 ∃c1,qdg w (w.setCells rb o vs) rb e c1/\c1.size=c0.size/\ ∀j,c1[j]? =if o<=j/\j<o+vs.length then vs[j-o]? else c0[j]? :=by
 intro vs
 induction vs with
 |nil=>
  intro o w c0 h _;refine⟨c0,⟨h,fun _ _=>rfl,rfl,rfl,rfl,rfl⟩,rfl,fun j=>?_⟩;rw[if_neg (fun h=>by have:=h.1;have:=h.2;simp at this;omega)]
 |cons v vs ih=>
  intro o w c0 h hl;simp only[Yr]at hl;have h1:=qiE (o:=o) v h;obtain⟨c1,r,hs,hc⟩:=ih (o+1) (w.setCell ⟨rb,o,none⟩ v) _ h1.at_ (by simp;omega);refine⟨c1,⟨r.at_,fun q hq=>(r.oth q hq).trans (h1.oth q hq),r.size.trans h1.size,r.os,r.tape,r.output⟩,by simpa using hs,fun j=>?_⟩;rw[hc j];simp only[Yr];by_cases hj:j=o
  ·subst hj;rw[if_neg (by omega),if_pos (by omega)];simp only[Nat.sub_self,Yj];rw[Array.getElem?_setIfInBounds_self_of_lt (by omega)]
  rw[Array.getElem?_setIfInBounds_ne (fun e=>hj e.symm)];by_cases h2:o+1<=j/\j<o+1+vs.length
  ·rw[if_pos h2,if_pos (by omega)]
   have:j-o=(j-(o+1))+1:=by omega
   rw[this,List.getElem?_cons_succ]
  rw[if_neg h2,if_neg (by omega)]
def jN (ns:List Int):List AV:=ns.map (AV.int .i64)
def qC (ns:List Int):List Value:=ns.map (Value.int .i64)
def qdM:List AV->Option (List Int)
 |[]=>some []
 | .int .i64 n::r=>(qdM r).map (n:: ·)
 |_::_=>none
theorem qci: ∀{cs:List AV} {ns:List Int},qdM cs=some ns->cs=jN ns:=by
 intro cs
 induction cs with
 |nil=>intro ns h;injection h with h;subst h;rfl
 |cons c cs ih=>
  intro ns h;unfold qdM at h;split at h
  ·rename_i e;cases e
  ·rename_i n r e;injection e with e1 e2;subst e1 e2;obtain⟨m,hm,rfl⟩:=Yd.1 h;rw[ih hm];rfl
  cases h
theorem qoW {F:Nat->Prop} {nu:Nat->Option Nat} {w:World} {ns:List Int}: ∀(j:Nat) (a:AV) (v:Value),(jN ns)[j]? =some a->(qC ns)[j]? =some v->R F nu w a v:=by
 intro j a v ha hv;simp only[jN,qC,YA]at ha hv
 cases h:ns[j]? with
 |none=>rw[h]at ha;cases ha
 |some n=>
  rw[h]at ha hv;simp only[ZM,ZI]at ha hv;subst ha hv;exact .int _ _
theorem qaH {ns:List Int}: ∀v∈qC ns,v.oneCell'=true:=by
 intro v hv;simp only[qC,List.mem_map]at hv;obtain⟨n,_,rfl⟩:=hv;rfl
theorem row_of {F:Nat->Prop} {nu:Nat->Option Nat} {A:Heap} {w:World} (i:Inv F nu A w) {b rb:Nat} {ns:List Int} (hb:nu b=some rb) (hA:A[b]? =some (.cells (jN ns))):
 ∃c0 e,w.heap[rb]? =some (.cells c0 e (0,0))/\ns.length<=c0.size/\ ∀j,j<ns.length->c0[j]? =(qC ns)[j]? :=by
 obtain⟨_,c0,e,hh,hl,hR⟩:=i.blk b rb _ hb hA
 have hl:ns.length<=c0.size:=by simpa[jN]using hl
 refine⟨c0,e,hh,hl,fun j hj=>?_⟩
 have h1:(jN ns)[j]? =some (.int .i64 ns[j]):=by simp[jN,hj]
 have h2:c0[j]? =some c0[j]:=Yi (by omega);have:=(hR j _ _ h1 h2).int_inv;rw[h2,this];simp[qC,hj]
theorem cell_of_row {w:World} {rb:Nat} {c0:Array Value} {e:TypeId} (h:w.heap[rb]? =some (.cells c0 e (0,0))) (j:Nat):w.cell? ⟨rb,j,none⟩=c0[j]? :=by
 simp only[World.cell?,h,Option.isSome_none,ZF,if_false]
theorem frozen_of_row {w:World} {rb:Nat} {c0:Array Value} {e:TypeId} (h:w.heap[rb]? =some (.cells c0 e (0,0))) (j:Nat):w.frozen? ⟨rb,j,none⟩=false:=by
 simp[World.frozen?,h]
theorem yO {w:World} {rb:Nat} {c0:Array Value} {e:TypeId} (h:w.heap[rb]? =some (.cells c0 e (0,0))):w.shape? rb=some (e,c0.size):=by
 simp only[World.shape?,h]
theorem qdg.trans {w w' w'':World} {rb:Nat} {e e':TypeId} {c1 c2:Array Value} (h:qdg w w' rb e c1) (k:qdg w' w'' rb e' c2):qdg w w'' rb e' c2:=
 ⟨k.at_,fun r hr=>(k.oth r hr).trans (h.oth r hr),k.size.trans h.size,k.os.trans h.os,k.tape.trans h.tape,k.output.trans h.output⟩
theorem qdg.drew {w w':World} {rb:Nat} {e:TypeId} {c1:Array Value} (h:qdg w w' rb e c1):qdg w w'.drew rb e c1:=⟨h.at_,h.oth,h.size,h.os,h.tape,h.output⟩
theorem qdg.ofDrew {w w':World} {rb:Nat} {e:TypeId} {c1:Array Value} (h:qdg w.drew w' rb e c1):qdg w w' rb e c1:=⟨h.at_,h.oth,h.size,h.os,h.tape,h.output⟩
section
variable {F:Nat->Prop} {nu:Nat->Option Nat} {A:Heap} {w:World}
theorem qiU {ns:List Int} {c:Array Value} (hc: ∀j,j<ns.length->c[j]? =(qC ns)[j]?): ∀(j:Nat) (a:AV) (v:Value),(jN ns)[j]? =some a->c[j]? =some v->R F nu w a v:=by
 intro j a v ha hv
 have hj:j<ns.length:=by
  have:=(Yb.1 ha).1;simpa[jN]using this
 rw[hc j hj]at hv;exact qoW j a v ha hv
theorem qev (i:Inv F nu A w) {b rb n cap:Nat} {ns ms:List Int} {c0 c1:Array Value} {e:TypeId} {w':World} (hb:nu b=some rb) (hA:A[b]? =some (.cells (jN ns))) (hh:w.heap[rb]? =some (.cells c0 e (0,0)))
 (r:qdg w w' rb e c1) (hs:c1.size=c0.size) (hn:ms.length=n) (hcap:n<=cap) (hm:cap<=c0.size) (hx:cap<=9223372036854775807) (hc: ∀j,j<ms.length->c1[j]? =(qC ms)[j]?):
 ∃nu',Stp F nu A w F nu' (A.set b .dead++[.cells (jN ms)]) w'/\R F nu' w' (.oslice A.length n 1) (.slice (some ⟨rb,0,none⟩) n cap):=by
 have hsh: ∀s,w.shape? rb=some s->w'.shape? rb=some s:=by
  intro s h;rw[<-h,yO hh,yO r.at_,hs]
 have s1:=Stp.write i (k:= .cells (jN ms)) hb hA rfl rfl r.oth r.size hsh r.os r.tape r.output (fun hnF=>⟨hnF,c1,e,r.at_,by simp[jN];omega,qiU hc⟩);have hblt:b<A.length:=(Yb.1 hA).1;have s2:=Ut s1.inv (b:=b) hb (k:= .cells (jN ms)) (by simp[hblt]) rfl;simp only[List.set_set,Yk]at s2;refine⟨_,s1.trans s2,.oslice _ _ _ _ _ e c1.size (upd_same _ _) hcap (yO r.at_) (by omega) hx⟩
theorem ql6 (i:Inv F nu A w) {n cap:Nat} {ms:List Int} {c1:Array Value} {e:TypeId} {w':World} (h1:w'.heap[w.heap.size]? =some (.cells c1 e (0,0))) (h2: ∀r,r<w.heap.size->w'.heap[r]? =w.heap[r]?) (h3:w'.heap.size=w.heap.size+1)
 (ho:w'.os=w.os) (ht:w'.tape=w.tape) (hp:w'.output=w.output) (hn:ms.length=n) (hcap:n<=cap) (hm:cap<=c1.size) (hx:cap<=9223372036854775807) (hc: ∀j,j<ms.length->c1[j]? =(qC ms)[j]?):
 ∃nu',Stp F nu A w F nu' (A++[.cells (jN ms)]) w'/\R F nu' w' (.oslice A.length n 1) (.slice (some ⟨w.heap.size,0,none⟩) n cap):=by
 have s1:=Uh i c1 e (jN ms) (by simp[jN];omega) (qiU hc)
 have hheap:w'.heap=(w.alloc (.cells c1 e)).heap:=by
  refine Array.ext_getElem? fun j=>?_
  rcases Nat.lt_trichotomy j w.heap.size with hj|hj|hj
  ·rw[h2 j hj];exact(Go.heap_alloc_old w _ hj).symm
  ·subst hj;rw[h1];exact(Go.heap_alloc_new w _).symm
  rw[Array.getElem?_eq_none (by omega),Array.getElem?_eq_none (by simp;omega)]
 have s2:=Stp.same s1.inv (w':=w') hheap ho ht hp;exact⟨_,s1.trans s2,.oslice _ _ _ _ _ e c1.size (upd_same _ _) hcap (yO h1) (by omega) hx⟩
end
theorem RL.args3 {F:Nat->Prop} {nu:Nat->Option Nat} {w:World} {a b c:AV} {vs:Array Value} (h:RL F nu w [a,b,c] vs): ∃x y z,vs=#[x,y,z]/\R F nu w a x/\R F nu w b y/\R F nu w c z:=by
 obtain⟨l⟩:=vs;obtain⟨h1,h2⟩:=h
 match l,h1,h2 with
 |[x,y,z],_,h2=>exact⟨x,y,z,rfl,h2 0 _ _ rfl rfl,h2 1 _ _ rfl rfl,h2 2 _ _ rfl rfl⟩
end Go.Av
end
noncomputable section
namespace Go.Av
open Go.Proofs Go.RowKit Go.Shelf
variable [Glob]
def qpC (args:List AV) (A:Heap):Option (AV×Heap):=
 match args with
 |[.nilslice,.int .i64 0,.slice vb 0 m _ 1]=>
  match A[vb]? with
  |some (.cells vs)=>match qdM vs with
   |some xs=>if xs.length=m/\0<m/\m<=1000 then some (.oslice A.length m 1,A++[.cells (jN xs)])else none
   |none=>none
  |_=>none
 |[.oslice b n 1,.int .i64 i,.slice vb 0 m _ 1]=>
  match A[b]?,A[vb]? with
  |some (.cells cs),some (.cells vs)=>
   match qdM cs,qdM vs with
   |some ns,some xs=>if ns.length=n/\0<=i/\i.toNat<=n/\n<=100000/\b≠vb/\xs.length=m/\0<m/\m<=1000 then some (.oslice A.length (n+m) 1,A.set b .dead++[.cells (jN (ns.take i.toNat++xs++ns.drop i.toNat))])else none
   |_,_=>none
  |_,_=>none
 |_=>none
theorem qqL {P:Program} {ρ:Ren} (L:Lays2.n21 P ρ) (he:Enters P (ρ.f 21)) {args:List AV} {A A':Heap} {v:AV} (h:qpC args A=some (v,A')):qc P (.fn (ρ.f 21)) args A v A':=by
 intro F nu w vs i hargs;refine .inl ⟨he,?_⟩;unfold qpC at h;split at h
 ·rename_i vb m vcap;obtain⟨s,kv,vv,rfl,hs,hk,hv⟩:=hargs.args3;obtain rfl:=hk.int_inv;cases hs
  cases hv with
  |slice _ _ _ _ _ rv hrv hvc=>
  split at h
  ·rename_i vcs hA;split at h
   ·rename_i xs hxs;split at h
    ·rename_i hcond;obtain⟨hm,hm0,hmb⟩:=hcond;simp only[ZI,ZP]at h;obtain⟨rfl,rfl⟩:=h;obtain rfl:=qci hxs;obtain⟨c1,e1,hh1,hl1,hcv1⟩:=row_of i hrv hA
     have hvl:(qC xs).length=m:=by simpa[qC]using hm
     have hvs: ∀j v,(qC xs)[j]? =some v->w.cell? ⟨rv,0+j,none⟩=some v:=by
      intro j v hj;have hjl:=(Yb.1 hj).1;rw[cell_of_row hh1,Nat.zero_add,hcv1 j (by simpa[qC]using hjl),hj]
     have:=Any2.slices_Insert_int_end_grow L none 0 0 rv 0 m vcap [] (qC xs) w hm0 (by omega) (by omega) (by omega) rfl hvl (fun _=>rfl) (by intro a ha;cases ha) hvs qaH;refine Calls.mono (show Calls P (ρ.f 21) #[.slice none 0 0,.int .i64 0,.slice (some ⟨rv,0,none⟩) m vcap] w _ from this) ?_;rintro e' w' ⟨rfl,rfl⟩;have hg:=grownCap_ge w m 0 (ρ.t 3);obtain⟨nu',st,hR⟩:=ql6 i (w':=w.drew.alloc (.cells (([]++qC xs).toArray++Builtin.zeroCells (Value.int .i64 0).cells (grownCap w (0+m) 0 (ρ.t 3)-(0+m))) (ρ.t 3))) (c1:=([]++qC xs).toArray++Builtin.zeroCells (Value.int .i64 0).cells (grownCap w (0+m) 0 (ρ.t 3)-(0+m))) (n:=m) (cap:=grownCap w m 0 (ρ.t 3)) (ms:=xs) (Go.heap_alloc_new w.drew _) (fun r hr=>Go.heap_alloc_old w.drew _ hr) (by simp) rfl rfl rfl hm hg (by simp only[Nat.zero_add,List.nil_append,Array.size_append,size_zeroCells,Value.cells,List.size_toArray,hvl];simp;omega)
      (Go.grownCap_le_maxLen w m 0 _ (by unfold maxLen;omega)) (fun j hj=>by
       rw[YC (by simp[qC];omega)]
       rw[List.getElem?_toArray,List.nil_append])
     exact⟨_,_,nu',by rw[Nat.zero_add],st,hR⟩
    cases h
   cases h
  cases h
 ·rename_i b n k0 vb m vcap;obtain⟨s,kv,vv,rfl,hs,hk,hv⟩:=hargs.args3;obtain rfl:=hk.int_inv
  cases hs with
  |oslice _ _ _ rb cap e mm hb hc hsh hm hx=>
  cases hv with
  |slice _ _ _ _ _ rv hrv hvc=>
  split at h
  ·rename_i cs vcs hA hAv;split at h
   ·rename_i ns xs hns hxs;split at h
    ·rename_i hcond;obtain⟨hn,hk0,hkn,hbig,hbv,hxm,hm0,hmb⟩:=hcond;simp only[ZI,ZP]at h;obtain⟨rfl,rfl⟩:=h;obtain rfl:=qci hns;obtain rfl:=qci hxs;obtain⟨c0,e0,hh,hl,hcv⟩:=row_of i hb hA;obtain⟨c1,e1,hh1,hl1,hcv1⟩:=row_of i hrv hAv
     have hne:rv≠rb:=fun e=>hbv (i.inj b vb rb _ _ hb (e▸hrv) hA hAv rfl rfl)
     have hshe:e=e0/\mm=c0.size:=by
      rw[yO hh]at hsh;simp only[ZI,ZP]at hsh;exact⟨hsh.1.symm,hsh.2.symm⟩
     obtain⟨rfl,rfl⟩:=hshe;obtain⟨k,rfl⟩: ∃k:Nat,k0=(k:Int):=⟨k0.toNat,by omega⟩;simp only[Int.toNat_natCast]at hkn⊢
     have hvl:(qC xs).length=m:=by simpa[qC]using hxm
     have hvs: ∀j v,(qC xs)[j]? =some v->w.cell? ⟨rv,0+j,none⟩=some v:=by
      intro j v hj;have hjl:=(Yb.1 hj).1;rw[cell_of_row hh1,Nat.zero_add,hcv1 j (by simpa[qC]using hjl),hj]
     have hcs: ∀j v,(qC ns)[j]? =some v->w.cell? ⟨rb,0+j,none⟩=some v:=by
      intro j v hj;have hjl:=(Yb.1 hj).1;rw[cell_of_row hh,Nat.zero_add,hcv j (by simpa[qC]using hjl),hj]
     have hlv:(qC ns).length=n:=by simpa[qC]using hn
     have hms:(ns.take k++xs++ns.drop k).length=n+m:=by simp;omega
     have hat: ∀j,j<n+m->(qC (ns.take k++xs++ns.drop k))[j]? =if j<k then(qC ns)[j]? else if j<k+m then(qC xs)[j-k]? else(qC ns)[j-m]? :=by
      intro j hj;simp only[qC,YA];by_cases h1:j<k
      ·rw[if_pos h1,Yz,Yf (by simp;omega),List.getElem?_take_of_lt h1]
      rw[if_neg h1]
      have e1:(ns.take k).length=k:=by simp;omega
      by_cases h2:j<k+m
      ·rw[if_pos h2,Yz,Yo (by omega),e1,Yf (by omega)]
      rw[if_neg h2,Yo (by simp;omega),Yq,e1,hxm,YI];rw[show k+(j-(k+m))=j-m by omega]
     have hblt:b<A.length:=(Yb.1 hA).1;by_cases hroom:n+m<=cap
     ·by_cases hend:k=n
      ·subst hend
       have:=Any2.slices_Insert_int_end_room L rb 0 k cap rv 0 m vcap (qC xs) w hm0 hroom hx hvl (fun j hj=>by
        rw[cell_of_row hh,Yi (by omega)];rfl) (fun j _=>frozen_of_row hh _) hvs qaH
       refine Calls.mono this ?_;rintro e' w' ⟨rfl,rfl⟩;obtain⟨c2,rw2,hs2,hc2⟩:=zR rb e (qC xs) (0+k) w c0 hh (by rw[hvl];omega)
       obtain⟨nu',st,hR⟩:=qev i hb hA hh rw2 hs2 hms hroom (by omega) hx (fun j hj=>by
        rw[hms]at hj;rw[hat j hj,hc2 j,hvl];by_cases h1:j<k
        ·rw[if_neg (by omega),if_pos h1,hcv j (by omega)]
        rw[if_pos (by omega),if_neg h1,if_pos (by omega),Nat.zero_add])
       exact⟨_,_,nu',rfl,st,hR⟩
      have:=Any2.slices_Insert_int_shift L rb 0 n cap k rv 0 m vcap (qC ns) (qC xs) w (by omega) hm0 hroom hx hne hlv hvl hcs (fun j hj=>by
       rw[cell_of_row hh,Yi (by omega)];rfl) (fun j _=>frozen_of_row hh _) hvs qaH qaH e1 e c1.size c0.size (yO hh1) (yO hh) (by omega) (frozen_of_row hh1 _) (frozen_of_row hh1 _)
      refine Calls.mono this ?_;rintro e' w' ⟨rfl,rfl⟩;obtain⟨c2,rw2,hs2,hc2⟩:=zR rb e ((qC ns).drop k) (0+(k+m)) w.drew c0 hh (by rw[YJ,hlv];omega);obtain⟨c3,rw3,hs3,hc3⟩:=zR rb e (qC xs) (0+k) _ c2 rw2.at_ (by rw[hvl];omega)
      obtain⟨nu',st,hR⟩:=qev i hb hA hh (rw2.trans rw3).ofDrew (hs3.trans hs2) hms hroom (by omega) hx (fun j hj=>by
       rw[hms]at hj;rw[hat j hj,hc3 j,hvl];by_cases h1:j<k
       ·rw[if_neg (by omega),if_pos h1,hc2 j,if_neg (by omega),hcv j (by omega)]
       rw[if_neg h1];by_cases h2:j<k+m
       ·rw[if_pos (by omega),if_pos h2,Nat.zero_add]
       rw[if_neg (by omega),if_neg h2,hc2 j,if_pos (by rw[YJ,hlv];omega),YI]
       rw[show k+(j-(0+(k+m)))=j-m by omega])
      exact⟨_,_,nu',rfl,st,hR⟩
     have hg:=grownCap_ge w (n+m) cap (ρ.t 3);have hgm:=Go.grownCap_le_maxLen w (n+m) cap (ρ.t 3) (by unfold maxLen;omega);have fin: ∀{w':World} {cc:Array Value},w'.heap[w.heap.size]? =some (.cells cc (ρ.t 3) (0,0))->(∀r,r<w.heap.size->w'.heap[r]? =w.heap[r]?)->w'.heap.size=w.heap.size+1->w'.os=w.os->w'.tape=w.tape->w'.output=w.output->
      grownCap w (n+m) cap (ρ.t 3)<=cc.size->(∀j,j<(ns.take k++xs++ns.drop k).length->cc[j]? =(qC (ns.take k++xs++ns.drop k))[j]?)->
      ∃x' F' nu',Ending.returned (.slice (some ⟨w.heap.size,0,none⟩) (n+m) (grownCap w (n+m) cap (ρ.t 3)))= .returned x'/\Stp F nu A w F' nu' (A.set b .dead++[.cells (jN (ns.take k++xs++ns.drop k))]) w'/\R F' nu' w' (.oslice A.length (n+m) 1) x':=by
      intro w' cc h1 h2 h3 h4 h5 h6 h7 h8;obtain⟨nu',st,hR⟩:=ql6 i h1 h2 h3 h4 h5 h6 hms hg h7 hgm h8;have s2:=Uu st.inv b;rw[List.set_append_left _ _ hblt]at s2;exact⟨_,F,nu',rfl,st.trans s2,hR⟩
     by_cases hend:k=n
     ·subst hend
      have:=Any2.slices_Insert_int_end_grow L (some ⟨rb,0,none⟩) k cap rv 0 m vcap (qC ns) (qC xs) w hm0 hc (by omega) (by omega) hlv hvl (fun e=>by cases e) (by
       intro a ha j v hj;injection ha with ha;subst ha;rw[jb]
       exact hcs j v hj) hvs qaH
      refine Calls.mono this ?_;rintro e' w' ⟨rfl,rfl⟩;refine fin (Go.heap_alloc_new w.drew _) (fun r hr=>Go.heap_alloc_old w.drew _ hr) (by simp) rfl rfl rfl (by simp only[Array.size_append,size_zeroCells,Value.cells,List.size_toArray,Yq,hlv,hvl];simp;omega) (fun j hj=>?_);rw[hms]at hj;rw[hat j hj,YC (by simp only[List.size_toArray,Yq,hlv,hvl];omega),List.getElem?_toArray];by_cases h1:j<k
      ·rw[if_pos h1,Yf (by omega)]
      rw[if_neg h1,if_pos (by omega),Yo (by omega),hlv]
     have:=Any2.slices_Insert_int_grow L rb 0 n cap k rv 0 m vcap (qC ns) (qC xs) w (by omega) hm0 hc (by omega) (by omega) hlv hvl hcs hvs qaH qaH;refine Calls.mono this ?_;rintro e' w' ⟨rfl,rfl⟩;obtain⟨ROW,hROW⟩: ∃ROW:Array Value,ROW=((qC ns).take k).toArray++Builtin.zeroCells (Value.int .i64 0).cells (n+m-k)++Builtin.zeroCells (Value.int .i64 0).cells (grownCap w (n+m) cap (ρ.t 3)-(n+m)):=⟨_,rfl⟩;rw[<-hROW]
     have hRs:ROW.size=grownCap w (n+m) cap (ρ.t 3):=by
      rw[hROW];simp[size_zeroCells,Value.cells,hlv];omega
     have h0:(w.alloc (.cells ROW (ρ.t 3))).drew.heap[w.heap.size]? =some (.cells ROW (ρ.t 3) (0,0)):=Go.heap_alloc_new w _;obtain⟨c2,rw2,hs2,hc2⟩:=zR w.heap.size (ρ.t 3) (qC xs) k _ ROW h0 (by rw[hvl];omega);obtain⟨c3,rw3,hs3,hc3⟩:=zR w.heap.size (ρ.t 3) ((qC ns).drop k) (k+m) _ c2 rw2.drew.at_ (by rw[YJ,hlv];omega);have hall:=rw2.drew.trans rw3;refine fin hall.at_ (fun r hr=>(hall.oth r (by omega)).trans (Go.heap_alloc_old w _ hr)) (hall.size.trans (by simp)) hall.os hall.tape hall.output (by omega) (fun j hj=>?_);rw[hms]at hj;rw[hat j hj,hc3 j,YJ,hlv];by_cases h1:j<k
     ·rw[if_neg (by omega),if_pos h1,hc2 j,if_neg (by omega),hROW,YC (by simp[hlv];omega),YC (by simp[hlv];omega),List.getElem?_toArray,List.getElem?_take_of_lt h1]
     rw[if_neg h1];by_cases h2:j<k+m
     ·rw[if_neg (by omega),if_pos h2,hc2 j,if_pos (by rw[hvl];omega)]
     rw[if_pos (by omega),if_neg h2,YI];rw[show k+(j-(k+m))=j-m by omega]
    cases h
   cases h
  cases h
 cases h
end Go.Av
end
noncomputable section
namespace Go.Av
open Go.Proofs Go.RowKit Go.Shelf
structure But (x y:Option Nat) (w w':World):Prop where
 os:w'.os=w.os
 tape:w'.tape=w.tape
 output:w'.output=w.output
 size:w.heap.size<=w'.heap.size
 block: ∀k,k<w.heap.size->some k≠x->some k≠y->w'.heap[k]? =w.heap[k]?
 shape: ∀k s,w.shape? k=some s->w'.shape? k=some s
theorem But.refl {x y:Option Nat} (w:World):But x y w w:=⟨rfl,rfl,rfl,Nat.le_refl _,fun _ _ _ _=>rfl,fun _ _ h=>h⟩
theorem But.trans {x y:Option Nat} {a b c:World} (h:But x y a b) (k:But x y b c):But x y a c:=
 ⟨k.os.trans h.os,k.tape.trans h.tape,k.output.trans h.output,Nat.le_trans h.size k.size,fun q hq h1 h2=>(k.block q (by have:=h.size;omega) h1 h2).trans (h.block q hq h1 h2),fun q s hs=>k.shape q s (h.shape q s hs)⟩
theorem qiv {w:World} {k:Nat} {s:TypeId×Nat} (h:w.shape? k=some s):k<w.heap.size:=by
 rcases Nat.lt_or_ge k w.heap.size with h1|h1
 ·exact h1
 simp[World.shape?,Array.getElem?_eq_none h1]at h
theorem But.setCell {x y:Option Nat} (w:World) (b o:Nat) (q:Value) (h:x=some b\/y=some b):But x y w (w.setCell ⟨b,o,none⟩ q):=by
 have hh: ∀k,k≠b->(w.setCell ⟨b,o,none⟩ q).heap[k]? =w.heap[k]? :=fun k hk=>Below.heap_setCell _ _ _ _ hk
 refine⟨rfl,rfl,rfl,by simp[World.setCell],fun k hk h1 h2=>hh k (fun e=>?_),fun k s hs=>?_⟩
 ·subst e;rcases h with h|h
  ·exact h1 h.symm
  exact h2 h.symm
 by_cases e:k=b
 ·subst e;simp only[World.shape?,World.setCell,YD]at hs⊢
  cases hc:w.heap[k]? with
  |none=>rw[hc]at hs;simp at hs
  |some ob=>
   rw[hc]at hs;cases ob<;>simp at hs⊢
   all_goals exact hs
 have:=hh k e;unfold World.shape? at hs⊢;rw[this];exact hs
theorem qoe {w:World} (o:Obj) (rb:Nat) (s:TypeId×Nat) (h:w.shape? rb=some s):(w.alloc o).shape? rb=some s:=by
 rw[<-h];have e:=_root_.Go.heap_alloc_old w o (qiv h);simp only[World.shape?,e]
theorem But.drew {x y:Option Nat} (w:World):But x y w w.drew:=⟨rfl,rfl,rfl,Nat.le_refl _,fun _ _ _ _=>rfl,fun _ _ h=>h⟩
theorem But.freeze {x y:Option Nat} (w:World) (g n:Nat) (h:x=some g\/y=some g):But x y w (w.freeze ⟨g,0,none⟩ n):=by
 have hh: ∀k,k≠g->(w.freeze ⟨g,0,none⟩ n).heap[k]? =w.heap[k]? :=fun k hk=>by
  unfold World.freeze;split
  ·rfl
  simp only[YD];rw[if_neg (fun e=>hk e.symm)]
 have hsh: ∀k s,w.shape? k=some s->(w.freeze ⟨g,0,none⟩ n).shape? k=some s:=fun k s hs=>by
  by_cases e:k=g
  ·subst e;unfold World.freeze;split
   ·exact hs
   simp only[World.shape?,YD,if_true]at hs⊢
   cases hc:w.heap[k]? with
   |none=>rw[hc]at hs;simp at hs
   |some ob=>
    rw[hc]at hs;cases ob<;>simp at hs⊢
    all_goals exact hs
  have:=hh k e;unfold World.shape? at hs⊢;rw[this];exact hs
 have hsz:(w.freeze ⟨g,0,none⟩ n).heap.size=w.heap.size:=by
  unfold World.freeze;split
  ·rfl
  simp
 have hos:(w.freeze ⟨g,0,none⟩ n).os=w.os/\(w.freeze ⟨g,0,none⟩ n).tape=w.tape/\(w.freeze ⟨g,0,none⟩ n).output=w.output:=by
  unfold World.freeze;split<;>exact⟨rfl,rfl,rfl⟩
 refine⟨hos.1,hos.2.1,hos.2.2,by rw[hsz];exact Nat.le_refl _,fun k hk h1 h2=>hh k (fun e=>?_),hsh⟩;subst e;rcases h with h|h
 ·exact h1 h.symm
 exact h2 h.symm
theorem qnc {P:Program} (w:World) (t u ty e:TypeId) (i:TypeInfo) (ht:P.underlying t=some (.slice e)) (hu:P.underlying u=some .string) (hi:P.info? e=some i) (hz:i.zero=some (.int .u8 0))
 (hsize:i.size=1) (hby:i.bytes=1) (v:Value) (n:Nat) (xs:List Value) (hown:w.ownsRow 0 e 1 v n xs) (s:ByteArray) (hbytes:n+s.size<=140737488355328):
 ∃v' w',(Builtin.append_ #[t,u] ty #[v,.string s]).run P w= .ok v' w'/\w'.ownsRow 0 e 1 v' (n+s.size) (xs++Lib.strCells s)/\(∀b,But (some b) v.ownBlock w w')/\(v'.ownBlock=v.ownBlock\/ ∃g,v'.ownBlock=some g/\w.heap.size<=g):=by
 have h63:n+s.size<=maxLen:=by unfold maxLen;omega
 rcases hown.2 with⟨rfl,rfl⟩|⟨g,cap,cur,rfl,hbg,hg,hnc,hcm,hcs,htake⟩
 ·have hx:xs=[]:=List.eq_nil_of_length_eq_zero (by simpa using hown.1);subst hx;obtain⟨v',w',hr,h2,h3,h4⟩:=Lib.run_append_own_string (P:=P) w w.heap.size t u ty e i ht hu hi hz hsize hby (.slice none 0 0) 0 [] (World.ownsRow_nil _ _ _ _) s h63 hbytes (Nat.le_refl _)
  have hb: ∀k,k<w.heap.size->w'.heap[k]? =w.heap[k]? :=fun k hk=>h3.block k hk (fun e=>by cases e)
  refine⟨v',w',hr,⟨h2.1,?_⟩,fun b=>⟨h3.os,h3.tape,h3.output,h3.size,fun k hk _ _=>hb k hk,fun k s hs=>?_⟩,?_⟩
  ·rcases h2.2 with h|⟨g,cap,cur,a1,a2,a3⟩
   ·exact .inl h
   exact .inr ⟨g,cap,cur,a1,Nat.zero_le _,a3⟩
  ·have:=hb k (qiv hs);unfold World.shape? at hs⊢;rw[this];exact hs
  rcases h2.2 with⟨hv,_⟩|⟨g',cap',cur',hv,hb,_⟩
  ·left;rw[hv]
  right;exact⟨g',by rw[hv];rfl,hb⟩
 obtain⟨v',w',hr,h2,h3,h4⟩:=Lib.run_append_own_string (P:=P) w 0 t u ty e i ht hu hi hz hsize hby _ n xs hown s h63 hbytes (Nat.zero_le _)
 have hxl:xs.length=n:=by simpa using hown.1
 by_cases hroom:n+s.size<=cap
 ·have hr2:=Lib.run_append_room_string (P:=P) w t u ty e i ht hu hi hsize g n cap cur hg s hroom (by omega);rw[hr]at hr2;injection hr2 with e1 e2;refine⟨v',w',hr,h2,fun b=>⟨h3.os,h3.tape,h3.output,h3.size,fun k hk _ h=>h3.block k hk h,fun k sh hs=>?_⟩,?_⟩
  ·by_cases ek:k=g
   ·subst ek;rw[e2];have hg2:=setRow_heap w k cur (cur.toList.take n++Lib.strCells s++cur.toList.drop (n+s.size)).toArray e _ hg;simp only[World.shape?,hg]at hs;simp only[World.shape?,hg2];rw[<-hs];simp only[List.size_toArray,Yq,Ym,YJ,Array.length_toList,Lib.strCells_length];congr 2;omega
   have:=h3.block k (qiv hs) (fun c=>ek (by simpa[Value.ownBlock]using c));unfold World.shape? at hs⊢;rw[this];exact hs
  left;rw[e1];rfl
 have holds: ∀j u,xs[j]? =some u->w.cell? ((⟨g,0,none⟩:Addr).add j)=some u:=hown.cells (g:=g) rfl;have hr2:=Lib.run_append_grow_string (P:=P) w t u ty e i (.int .u8 0) ht hu hi hz ⟨g,0,none⟩ n cap xs (by rw[hsize];simpa using hxl) holds s (by omega) (by unfold maxLen at h63;omega) (by rw[hby];exact growslice_fits (by omega) (by omega));rw[hr]at hr2;injection hr2 with e1 e2;refine⟨v',w',hr,h2,fun b=>⟨h3.os,h3.tape,h3.output,h3.size,fun k hk _ h=>h3.block k hk h,fun k sh hs=>?_⟩,?_⟩
 ·rw[e2];exact qoe _ k sh hs
 right;exact⟨w.heap.size,by rw[e1];rfl,Nat.le_refl _⟩
theorem qm3 {P:Program} {w:World} {ops:Array Oper} {rest:List Oper} {o:Oper} {a:Act} {Q:Exit->Act->World->Prop} (hgd:o.guard=none) (sl x:Operand) (t u:TypeId)
 (ho:o.op= .call {callee:= .builtin .append,args:=#[sl,x],argTypes:=#[t,u]})
 (e:TypeId) (i:TypeInfo) (ht:P.underlying t=some (.slice e)) (hu:P.underlying u=some .string) (hi:P.info? e=some i) (hz:i.zero=some (.int .u8 0))
 (hsize:i.size=1) (hby:i.bytes=1)
 (v:Value) (n:Nat) (xs:List Value) (hs:a.eval sl=v) (hown:w.ownsRow 0 e 1 v n xs) (s:ByteArray) (hx:a.eval x= .string s)
 (hbytes:n+s.size<=140737488355328)
 (h: ∀v' w',w'.ownsRow 0 e 1 v' (n+s.size) (xs++Lib.strCells s)->(∀b,But (some b) v.ownBlock w w')->(v'.ownBlock=v.ownBlock\/ ∃g,v'.ownBlock=some g/\w.heap.size<=g)->wpList P ops Q rest (a.put o.dst v') w'):wpList P ops Q (o::rest) a w:=by
 refine wpList_plain hgd fun K hK=>?_
 obtain⟨v',w',hr,h2,h3,h4⟩:=qnc (P:=P) w t u o.type e i ht hu hi hz hsize hby v n xs hown s hbytes;unfold Oper.wp execOp;simp only[ho,resolve,invoke,builtin,Sem.run_bind,Sem.run_pure,Result.andThen_ok,List.map_toArray,List.map_cons,List.map_nil,hs,hx,hr];exact hK _ _ (h v' w' h2 h3 h4)
section
variable {P:Program} {ρ:Ren}
theorem qmL (L:Lays.n240 P ρ) (X:Builder.X72 P ρ) (b:Nat) (bs:List Value) (w:World) (h:Lib.IsBuilder (ρ.t 72) (ρ.t 5) 0 b bs w):
 Calls P (ρ.f 240) #[.pointer (some ⟨b,0,none⟩)] w fun e w'=>e= .returned (.tuple #[])/\Lib.BuilderAt (ρ.t 72) (ρ.t 5) 0 b (.pointer (some ⟨b,0,none⟩)) bs w'/\(w'=w\/w'=w.setCell ⟨b,0,none⟩ (.pointer (some ⟨b,0,none⟩))):=by
 rcases h with h|h
 ·refine(Any.Builder_copyCheck_fresh L X b w h.cell0 h.shape h.frozen0).mono ?_;rintro e w' ⟨rfl,rfl⟩;exact⟨rfl,h.used _,.inr rfl⟩
 refine(Any.Builder_copyCheck_used L X b w h.cell0).mono ?_;rintro e w' ⟨rfl,rfl⟩;exact⟨rfl,h,.inl rfl⟩
structure Wrote (P:Program) (ρ:Ren) (b:Nat) (v:Value) (bs:List Value) (w w':World) (v':Value):Prop where
 heap:w'.heap[b]? =some (.cells #[.pointer (some ⟨b,0,none⟩),v'] (ρ.t 72) (0,0))
 own:w'.ownsRow 0 (ρ.t 5) 1 v' bs.length bs
 but:But (some b) v.ownBlock w w'
 place:v'.ownBlock=v.ownBlock\/ ∃g,v'.ownBlock=some g/\w.heap.size<=g
 ne:v'.ownBlock≠some b
set_option maxHeartbeats 2000000 in
theorem qrA (L:Lays.n166 P ρ) (X:Builder.Extra P ρ) (b:Nat) (p v:Value) (bs:List Value) (s:ByteArray) (w:World) (hp:p= .pointer none\/p= .pointer (some ⟨b,0,none⟩)) (hb:w.heap[b]? =some (.cells #[p,v] (ρ.t 72) (0,0))) (hown:w.ownsRow 0 (ρ.t 5) 1 v bs.length bs) (hne:v.ownBlock≠some b) (hlen:bs.length+s.size<=140737488355328):
 Calls P (ρ.f 166) #[.pointer (some ⟨b,0,none⟩),.string s] w fun e w'=>e= .returned (.tuple #[.int .i64 s.size,.nilIface])/\ ∃v',Wrote P ρ b v (bs++Lib.strCells s) w w' v':=by
 have h:Lib.IsBuilder (ρ.t 72) (ρ.t 5) 0 b bs w:=by
  rcases hp with rfl|rfl
  ·exact .inl ⟨Nat.zero_le _,v,hb,hown,hne⟩
  exact .inr ⟨Nat.zero_le _,v,hb,hown,hne⟩
 obtain⟨i0,hi,hz0,hz1,hz2⟩:=info_parts X.infoByte;have mixed:=L.mixed;have t72:=L.t72;have a72:=L.a72;have z72:=L.z72;have v72:=L.v72;have u72:=run_underlying L.t72;have t70:=L.t70;have a70:=L.a70;have z70:=L.z70;have v70:=L.v70;have u70:=run_underlying L.t70;have t37:=L.t37;have a37:=L.a37;have z37:=L.z37;have v37:=L.v37;have u37:=run_underlying L.t37;have t3:=L.t3;have a3:=L.a3;have z3:=L.z3;have v3:=L.v3;have u3:=run_underlying L.t3;have t9:=L.t9;have a9:=L.a9;have z9:=L.z9;have v9:=L.v9;have u9:=run_underlying L.t9;have t4:=L.t4;have a4:=L.a4;have z4:=L.z4;have v4:=L.v4;have u4:=run_underlying L.t4;have t164:=L.t164;have a164:=L.a164;have z164:=L.z164;have v164:=L.v164;have u164:=run_underlying L.t164;have t5:=X.t5;have a5:=X.a5;have z5:=X.z5;have v5:=X.v5;have u5:=run_underlying X.t5;have e240: ∀args w,(callFunc (ρ.f 240) args).run P w= .ok (.enter (ρ.f 240) args) w:=Go.Proofs.enters_of L.f240 (by kernel_rfl) rfl
 go_enter L.f166,Body.n166_ntmps ρ
 go_wp2_with (go_at_fn (ρ.f 240);refine(qmL {L with} X.toX72 b bs _ h).mono ?_)
 rintro e w1 ⟨rfl,h1,hw1⟩;obtain⟨_,v1,hbk,hown1,hne1⟩:=h1
 have ev:v1=v:=by
  rcases hw1 with rfl|rfl
  ·rw[hb]at hbk;injection hbk with hbk;injection hbk with hbk;simp at hbk;exact hbk.2.symm
  have:(w.setCell ⟨b,0,none⟩ (.pointer (some ⟨b,0,none⟩))).heap[b]? =some (.cells #[.pointer (some ⟨b,0,none⟩),v] (ρ.t 72) (0,0)):=by
   simp[World.setCell,Array.getElem?_modify,hb]
  rw[this]at hbk;injection hbk with hbk;injection hbk with hbk;simpa using hbk.symm
 subst ev
 have but1:But (some b) v1.ownBlock w w1:=by
  rcases hw1 with rfl|rfl
  ·exact But.refl _
  exact But.setCell _ _ _ _ (.inl rfl)
 have c0:w1.cell? ⟨b,0,none⟩=some (.pointer (some ⟨b,0,none⟩)):=by rw[Lib.cell_of_heap hbk];rfl
 have c1:w1.cell? ⟨b,1,none⟩=some v1:=by rw[Lib.cell_of_heap hbk];rfl
 go_wp2_with (at_builtin;refine qm3 rfl _ _ (ρ.t 37) (ρ.t 9) rfl (ρ.t 5) i0 L.t37 L.t9 hi hz0 hz1 hz2 _ _ _ rfl hown1 s rfl ?c4 ?_)
 case c4=>omega
 intro v' w2 hown' hgrow hplace
 have hlt:b<w1.heap.size:=by
  rcases Nat.lt_or_ge b w1.heap.size with h'|h'
  ·exact h'
  simp[Array.getElem?_eq_none h']at hbk
 have hb2:w2.heap[b]? =some (.cells #[.pointer (some ⟨b,0,none⟩),v1] (ρ.t 72) (0,0)):=by
  rw[(hgrow (w1.heap.size)).block b hlt (fun e=>by injection e with e;omega) (fun e=>hne e.symm)];exact hbk
 have d0:w2.cell? ⟨b,0,none⟩=some (.pointer (some ⟨b,0,none⟩)):=by rw[Lib.cell_of_heap hb2];rfl
 have d1:w2.cell? ⟨b,1,none⟩=some v1:=by rw[Lib.cell_of_heap hb2];rfl
 have f1:w2.frozen? ⟨b,1,none⟩=false:=Lib.frozen_of_heap hb2 1
 obtain⟨ao,n',cap,rfl⟩: ∃ao n' cap,v'= .slice ao n' cap:=by
  rcases hown'.2 with⟨hv,_⟩|⟨g,cap,cur,hv,_⟩
  ·exact⟨_,_,_,hv⟩
  exact⟨_,_,_,hv⟩
 go_wp2
 go_ret2
 refine⟨rfl,.slice ao n' cap,?_⟩;have hput:=Lib.BuilderAt.put (T:=(ρ.t 72)) (e:=(ρ.t 5)) (B:=0) (Nat.zero_le _) hb2 (bs':=bs++Lib.strCells s) (by simpa[Lib.strCells_length]using hown') X.neB5;obtain⟨_,v3,hb3,hown3,hne3⟩:=hput
 have e3:v3= .slice ao n' cap:=by
  have:(w2.setCell ⟨b,1,none⟩ (.slice ao n' cap)).heap[b]? =some (.cells #[.pointer (some ⟨b,0,none⟩),.slice ao n' cap] (ρ.t 72) (0,0)):=by
   simp[World.setCell,Array.getElem?_modify,hb2]
  rw[this]at hb3;injection hb3 with hb3;injection hb3 with hb3;simpa using hb3.symm
 subst e3;refine⟨hb3,hown3,but1.trans ((hgrow b).trans (But.setCell _ _ _ _ (.inl rfl))),?_,hne3⟩;rcases hplace with h|⟨g,h1,h2⟩
 ·exact .inl h
 exact .inr ⟨g,h1,Nat.le_trans but1.size h2⟩
end
end Go.Av
end
noncomputable section
namespace Go.Av
open Go.Proofs Go.RowKit Go.Shelf
def bWr (ok:Bool) (o:Option (List Int)) (s:Str):Option (List Int):=if ok=o.isSome/\(hof o).length+s.length<=1000000000/\0<s.length then some (hof o++s.map fun x=>(x.toNat:Int))else none
def qmN (ok:Bool) (o:Option (List Int)):Option Str:=if ok=true/\(0<(hof o).length/\(hof o).length<=1000000000)/\(hof o).all (fun n=>decide (0<=n)&&decide (n<256))=true then some ((hof o).map fun n=>UInt8.ofNat n.toNat)else none
section
variable {P:Program} {ρ:Ren}
set_option maxHeartbeats 1000000 in
theorem qqe (L:Lays.n169 P ρ) (X:Builder.Extra P ρ) (b g cap:Nat) (p:Value) (l:List UInt8) (cur:Array Value) (w:World) (hbk:w.heap[b]? =some (.cells #[p,.slice (some ⟨g,0,none⟩) l.length cap] (ρ.t 72) (0,0)))
 (hg:w.heap[g]? =some (.cells cur (ρ.t 5) (0,0))) (hnc:l.length<=cap) (hcm:cap<=maxLen) (hcs:cur.size=cap*1) (htake:cur.toList.take (l.length*1)=Lib.byteCells l) (h0:l≠[]):
 Calls P (ρ.f 169) #[.pointer (some ⟨b,0,none⟩)] w fun e w'=>e= .returned (.string ⟨l.toArray⟩)/\But (some b) (some g) w w':=by
 have hown:w.ownsRow 0 (ρ.t 5) 1 (.slice (some ⟨g,0,none⟩) l.length cap) l.length (Lib.byteCells l):=⟨by rw[Lib.byteCells_length];omega,.inr ⟨g,cap,cur,rfl,Nat.zero_le _,hg,hnc,hcm,hcs,htake⟩⟩
 have hl0:l.length≠0:=by simpa using h0
 have c1:w.drew.cell? ⟨b,1,none⟩=some (.slice (some ⟨g,0,none⟩) l.length cap):=by
  have:w.drew.heap[b]? =some (.cells #[p,.slice (some ⟨g,0,none⟩) l.length cap] (ρ.t 72) (0,0)):=hbk;rw[Lib.cell_of_heap this];rfl
 have hSD:(Builtin.unsafeSliceData_ #[(ρ.t 37)] (ρ.t 127) #[.slice (some ⟨g,0,none⟩) l.length cap]).run P w.drew= .ok (.pointer (some ⟨g,0,none⟩)) w.drew:=
  Lib.run_unsafeSliceData_row _ _ _ _ _ _ (by omega)
 have hUS:(Builtin.unsafeString_ #[(ρ.t 127),(ρ.t 3)] (ρ.t 9) #[.pointer (some ⟨g,0,none⟩),.int .i64 l.length]).run P w.drew= .ok (.string ⟨l.toArray⟩) (w.drew.freeze ⟨g,0,none⟩ l.length):=by
  refine Lib.run_unsafeString_row w.drew (ρ.t 127) (ρ.t 3) (ρ.t 9) (ρ.t 5) L.t127 X.cellsByte g cur.size (by have hg':w.drew.heap[g]? =some (.cells cur (ρ.t 5) (0,0)):=hg;simp[World.shape?,hg']) l h0 (by omega) (by unfold maxLen at hcm;omega) ?_;intro j x hx;have:=hown.cells (g:=g) rfl j (.int .u8 x.toNat) (by simp[Lib.byteCells,hx]);exact this
 have mixed:=L.mixed;have t72:=L.t72;have a72:=L.a72;have z72:=L.z72;have v72:=L.v72;have u72:=run_underlying L.t72;have t70:=L.t70;have a70:=L.a70;have z70:=L.z70;have v70:=L.v70;have u70:=run_underlying L.t70;have t37:=L.t37;have a37:=L.a37;have z37:=L.z37;have v37:=L.v37;have u37:=run_underlying L.t37;have t127:=L.t127;have a127:=L.a127;have z127:=L.z127;have v127:=L.v127;have u127:=run_underlying L.t127;have t3:=L.t3;have a3:=L.a3;have z3:=L.z3;have v3:=L.v3;have u3:=run_underlying L.t3;have t9:=L.t9;have a9:=L.a9;have z9:=L.z9;have v9:=L.v9;have u9:=run_underlying L.t9;have t5:=X.t5;have a5:=X.a5;have z5:=X.z5;have v5:=X.v5;have u5:=run_underlying X.t5
 go_enter L.f169,Body.n169_ntmps ρ
 go_wp2
 go_region_o
 all_goals (go_wp2;go_ret;exact⟨rfl,(But.drew w).trans (But.freeze _ g _ (.inr rfl))⟩)
end
variable [Glob] {P:Program} {ρ:Ren}
theorem qlO (l:List Int):l.flatMap (qa .u8).c=l.map fun n=>AV.int .u8 n:=by
 induction l with
 |nil=>rfl
 |cons x l ih=>rw[List.flatMap_cons,ih];rfl
theorem takeV {cur:Array Value} {l:List Int} {F:Nat->Prop} {nu:Nat->Option Nat} {w:World} (hl:(l.flatMap (qa .u8).c).length<=cur.size) (hR: ∀(i:Nat) (a:AV) (v:Value),(l.flatMap (qa .u8).c)[i]? =some a->cur[i]? =some v->R F nu w a v):
 cur.toList.take (l.length*1)=l.map fun n=>Value.int .u8 n:=by
 rw[qlO,List.length_map]at hl
 refine List.ext_getElem (by rw[Ym,List.length_map];have:cur.toList.length=cur.size:=Array.length_toList;omega) fun i h1 h2=>?_
 rw[List.length_map]at h2;rw[List.getElem_take,List.getElem_map,Array.getElem_toList];have h3:=hR i (.int .u8 l[i]) (cur[i]'(by omega)) (by rw[qlO,YA,Ya h2];rfl) (Yi _);exact h3.int_inv
theorem qoQ {F:Nat->Prop} {nu:Nat->Option Nat} {w:World} {T e b:Nat} {ok:Bool} {o:Option (List Int)} {H:Heap} (i:Inv F nu (.bld T e [pz ok 0 0,hsl 1 1 o]:: .cells ((hof o).flatMap (qa .u8).c)::H) w) (hb:nu 0=some b) (hok:ok=o.isSome) (hTe:T≠e):
 ¬F b/\ ∃p v,w.heap[b]? =some (.cells #[p,v] T (0,0))/\(p= .pointer none\/p= .pointer (some ⟨b,0,none⟩))/\w.ownsRow 0 e 1 v (hof o).length ((hof o).map fun n=>Value.int .u8 n)/\v.ownBlock≠some b/\
  (∀g,v.ownBlock=some g->nu 1=some g/\ ¬F g/\ ∃cap cur,v= .slice (some ⟨g,0,none⟩) (hof o).length cap/\w.heap[g]? =some (.cells cur e (0,0))/\(hof o).length<=cap/\cap<=maxLen/\cur.size=cap*1)/\(v.ownBlock=none->o=none):=by
 obtain⟨hF,vs,hh,hs,hR,hW⟩:=i.blk 0 b _ hb rfl;refine⟨hF,?_⟩;obtain⟨l⟩:=vs
 match l,hs with
 |[p,v],_=>
 have hp:R F nu w (pz ok 0 0) p:=hR 0 _ _ rfl rfl;have hv:R F nu w (hsl 1 1 o) v:=hR 1 _ _ rfl rfl
 cases o with
 |none=>
  subst hok;have hp:R F nu w .nilptr p:=hp;have hv:R F nu w .nilslice v:=hv;cases hp
  cases hv
  exact⟨_,_,hh,.inl rfl,World.ownsRow_nil _ _ _ _,by simp[Value.ownBlock],fun g hg=>by simp[Value.ownBlock]at hg,fun _=>rfl⟩
 |some l=>
  subst hok;have hp:R F nu w (.ptr 0 0) p:=hp;have hv:R F nu w (.oslice 1 l.length 1) v:=hv
  cases hp with
  |ptr _ _ rb h=>
  cases hv with
  |oslice _ _ _ g cap e' m h1 hc hsh hm hx=>
  rw[hb]at h;injection h with h;subst h;have hsh2:=hW 1 g l.length cap rfl;obtain⟨hFg,cur,e1,hhg,hlg,hRg⟩:=i.blk 1 g _ h1 rfl
  have e2:e1=e/\cur.size=cap:=by
   simp only[World.shape?,hhg,ZI,ZP]at hsh2;exact hsh2
  obtain⟨rfl,e3⟩:=e2
  have hcm:cap<=maxLen:=by unfold maxLen;exact hx
  have hown:w.ownsRow 0 e1 1 (.slice (some ⟨g,0,none⟩) l.length cap) l.length (l.map fun n=>Value.int .u8 n):=⟨by simp,.inr ⟨g,cap,cur,rfl,Nat.zero_le _,hhg,hc,hcm,by omega,takeV hlg hRg⟩⟩;refine⟨_,_,hh,.inr rfl,hown,Lib.ownBlock_ne hown hh hTe,fun g' hg'=>?_,fun h=>by simp[Value.ownBlock]at h⟩
  have:g'=g:=by simpa[Value.ownBlock]using hg'.symm
  subst this;exact⟨h1,hFg,cap,cur,rfl,hhg,hc,hcm,by omega⟩
theorem qjq (s:ByteArray):Lib.strCells s=(s.data.toList.map fun x=>(x.toNat:Int)).map fun n=>Value.int .u8 n:=by
 unfold Lib.strCells;rw[List.map_map];rfl
theorem qp2 (L:Lays.n166 P ρ) (X:Builder.Extra P ρ) (hE:Av.Enters P (ρ.f 166)) (ok:Bool) (o:Option (List Int)) (s:Str) {l:List Int} (h:bWr ok o s=some l):
 qc P (.fn (ρ.f 166)) [.ptr 0 0,.str s] [.bld (ρ.t 72) (ρ.t 5) [pz ok 0 0,hsl 1 1 o],.cells ((hof o).flatMap (qa .u8).c)] (.tuple [.i ((s.length:Nat):Int),.niliface])
  [.bld (ρ.t 72) (ρ.t 5) [pz true 0 0,hsl 2 1 (some l)],.dead,.cells ((hof (some l)).flatMap (qa .u8).c)]:=by
 unfold bWr at h;split at h
 ·rename_i hc;obtain⟨hok,hlen,hpos⟩:=hc;obtain rfl:=Ye h;intro F nu w vs i hargs;refine .inl ⟨hE,?_⟩;obtain⟨x,ws,rfl,hx,hws⟩:=hargs.cons_inv;obtain⟨y,us,he,hy,hus⟩:=hws.cons_inv
  obtain rfl:ws=y::us:=by simpa using he
  obtain rfl:=hus.nil_inv;obtain⟨sb,rfl,rfl⟩:=hy.str_inv
  cases hx with
  |ptr _ _ b hb=>
  obtain⟨hFb,p,v,hh,hp,hown,hne,hrow,hnone⟩:=qoQ i hb hok X.neB5;have hlm:((hof o).map fun n=>Value.int .u8 n).length=(hof o).length:=List.length_map _
  have hsz:sb.size=sb.data.toList.length:=by rw[Array.length_toList];rfl
  refine(qrA L X b p v ((hof o).map fun n=>Value.int .u8 n) sb w hp hh (by rw[hlm];exact hown) hne (by rw[hlm];omega)).mono ?_;rintro e w' ⟨rfl,v',W⟩;obtain⟨hh',hown',but,place,hne'⟩:=W
  have eb:((hof o).map fun n=>Value.int .u8 n)++Lib.strCells sb=(hof o++sb.data.toList.map fun x=>(x.toNat:Int)).map fun n=>Value.int .u8 n:=by rw[List.map_append,qjq]
  rw[eb]at hown'
  have ln:(hof o++sb.data.toList.map fun x=>(x.toNat:Int)).length=(hof o).length+sb.size:=by rw[Yq,List.length_map,hsz]
  generalize (hof o++sb.data.toList.map fun x=>(x.toNat:Int))=l at*;rw[List.length_map]at hown'
  obtain⟨g',cap',cur',rfl,hhg',hnc',hcm',hcs',htake'⟩: ∃g' cap' cur',v'= .slice (some ⟨g',0,none⟩) l.length cap'/\w'.heap[g']? =some (.cells cur' (ρ.t 5) (0,0))/\l.length<=cap'/\cap'<=maxLen/\cur'.size=cap'*1/\cur'.toList.take (l.length*1)=l.map fun n=>Value.int .u8 n:=by
   rcases hown'.2 with⟨_,h0⟩|⟨g,cap,cur,hv,_,h1,h2,h3,h4,h5⟩
   ·omega
   exact⟨g,cap,cur,hv,h1,h2,h3,h4,h5⟩
  have hgb:g'≠b:=fun e=>hne' (by rw[e];rfl)
  have hg':(nu 1=some g'/\ ¬F g'/\v.ownBlock=some g')\/w.heap.size<=g':=by
   rcases place with h|⟨g,h1,h2⟩
   ·have h:v.ownBlock=some g':=h.symm;obtain⟨h1,h2,_⟩:=hrow g' h;exact .inl ⟨h1,h2,h⟩
   have h1:some g'=some g:=h1;injection h1 with h1;subst h1;exact .inr h2
  have frame: ∀rb,rb<w.heap.size->rb≠b->nu 1≠some rb\/v.ownBlock≠some rb->w'.heap[rb]? =w.heap[rb]? :=by
   intro rb hlt h1 h2;refine but.block rb hlt (fun e=>h1 (Ye e)) (fun e=>?_);rcases h2 with h2|h2
   ·exact h2 (hrow rb e.symm).1
   exact h2 e.symm
  have hFk: ∀rb,F rb->w'.heap[rb]? =w.heap[rb]? :=fun rb hF=>frame rb (i.ltF rb hF) (fun e=>hFb (e▸hF)) (.inr fun e=>(hrow rb e).2.1 hF)
  have hlt':g'<w'.heap.size:=by
   rcases Nat.lt_or_ge g' w'.heap.size with h1|h1
   ·exact h1
   rw[Array.getElem?_eq_none h1]at hhg';cases hhg'
  have hnFg: ¬F g':=by
   rcases hg' with h|h
   ·exact h.2.1
   intro hF;have:=i.ltF g' hF;omega
  have n0:upd nu 2 g' 0=some b:=hb;have n2:upd nu 2 g' 2=some g':=upd_same _ _
  have hsh:w'.shape? g'=some (ρ.t 5,cap'):=by
   simp only[World.shape?,hhg'];congr 2;omega
  have hinv:Inv F (upd nu 2 g') [.bld (ρ.t 72) (ρ.t 5) [pz true 0 0,hsl 2 1 (some l)],.dead,.cells (l.flatMap (qa .u8).c)] w':=by
   refine⟨fun k rb x hk hx=>?_,fun k k' rb rb' x x' r hk hk' hx hx' ho ho' hr hr'=>?_,fun k hk=>?_,fun rb hF=>Nat.lt_of_lt_of_le (i.ltF rb hF) but.size,fun k rb hk=>?_,Glob.mono i.glob (fun _ h=>h) hFk⟩
   ·match k,hx with
    |0,hx=>
     obtain rfl:=Ye hx;rw[n0]at hk;obtain rfl:=Ye hk;refine⟨hFb,_,hh',rfl,fun q a v hq hv=>?_,fun q g n cap hv=>?_⟩
     ·match q,hq,hv with
      |0,hq,hv=>
       obtain rfl:=Ye hq;obtain rfl:=Ye hv;exact .ptr 0 0 b n0
      |1,hq,hv=>
       obtain rfl:=Ye hq;obtain rfl:=Ye hv;exact .oslice 2 l.length 1 g' cap' (ρ.t 5) cap' n2 hnc' hsh (by omega) (by unfold maxLen at hcm';exact hcm')
      |q+2,hq,hv=>simp at hq
     match q,hv with
     |0,hv=>cases hv
     |1,hv=>
      have hv:Value.slice (some ⟨g',0,none⟩) l.length cap'= .slice (some ⟨g,0,none⟩) n cap:=Ye hv;injection hv with h1 h2 h3;injection h1 with h1;injection h1 with h1;rw[<-h1,<-h3];exact hsh
     |q+2,hv=>simp at hv
    |1,hx=>obtain rfl:=Ye hx;trivial
    |2,hx=>
     obtain rfl:=Ye hx;rw[n2]at hk;obtain rfl:=Ye hk;refine⟨hnFg,cur',ρ.t 5,hhg',by rw[qlO,List.length_map];omega,fun q a v hq hv=>?_⟩;rw[qlO,YA]at hq;obtain⟨n,hn,rfl⟩:=Yd.1 hq;have hql:=(Yb.1 hn).1
     have h1:(cur'.toList.take (l.length*1))[q]? =some (.int .u8 n):=by rw[htake',YA,hn];rfl
     rw[Yt,if_pos (by omega),YT,hv]at h1;obtain rfl:=Ye h1;exact .int _ _
    |k+3,hx=>simp at hx
   ·have c0: ∀{k x},([.bld (ρ.t 72) (ρ.t 5) [pz true 0 0,hsl 2 1 (some l)],.dead,.cells (l.flatMap (qa .u8).c)]:Heap)[k]? =some x->x.owned=true->k=0\/k=2:=by
     intro k x hx ho
     match k,hx with
     |0,_=>exact .inl rfl
     |1,hx=>obtain rfl:=Ye hx;cases ho
     |2,_=>exact .inr rfl
     |k+3,hx=>simp at hx
    have c1: ∀{k:Nat} {x:Blk},([.bld (ρ.t 72) (ρ.t 5) [pz true 0 0,hsl 2 1 (some l)],.dead,.cells (l.flatMap (qa .u8).c)]:Heap)[k]? =some x-> ∀es,x≠Blk.bag es:=by
     intro k x hx es e
     match k,hx with
     |0,hx=>rw[<-Ye hx]at e;cases e
     |1,hx=>rw[<-Ye hx]at e;cases e
     |2,hx=>rw[<-Ye hx]at e;cases e
     |k+3,hx=>simp at hx
    have e1:=Ft.one (c1 hx) hr;have e2:=Ft.one (c1 hx') hr';subst e1;subst e2;rcases c0 hx ho with rfl|rfl<;>rcases c0 hx' ho' with rfl|rfl
    ·rfl
    ·rw[n0]at hk;rw[n2]at hk';injection hk with e1;injection hk' with e2;exact absurd (e2.trans e1.symm) hgb
    ·rw[n2]at hk;rw[n0]at hk';injection hk with e1;injection hk' with e2;exact absurd (e1.trans e2.symm) hgb
    rfl
   ·have hk:3<=k:=hk;show(if k=2 then some g' else nu k)=none;rw[if_neg (by omega)];exact i.fresh k (by show 2<=k;omega)
   by_cases e:k=2
   ·subst e;rw[n2]at hk;obtain rfl:=Ye hk;exact hlt'
   have hk:(if k=2 then some g' else nu k)=some rb:=hk;rw[if_neg e]at hk;exact Nat.lt_of_lt_of_le (i.ltN k rb hk) but.size
  refine⟨_,F,upd nu 2 g',rfl,⟨fun _ h=>h,qcL i g',but.shape,hinv,fun rb hlt hno=>?_,fun rb hlt ho=>?_,but.size,but.os,but.tape,but.output,fun k hk=>?_,by show 2<=3;omega,fun _ h=> .inl h⟩,?_⟩
  ·refine frame rb hlt (fun e=>hno (.of (e▸hb) rfl rfl)) ?_;by_cases e:nu 1=some rb
   ·exact absurd (.of e rfl rfl) hno
   exact .inl e
  ·obtain⟨k,x,rq,hk,hx,ho,hf⟩:=ho
   match k,hx with
   |0,hx=>
    rw[n0]at hk;rw[<-Ye hx]at hf;have e1:=Ft.one (by intro es e;cases e) hf;subst e1;exact .of (b:=0) (by rw[<-hk];exact hb) rfl rfl
   |1,hx=>obtain rfl:=Ye hx;cases ho
   |2,hx=>
    rw[n2]at hk;rw[<-Ye hx]at hf;have e1:=Ft.one (by intro es e;cases e) hf;subst e1;obtain rfl:=Ye hk;rcases hg' with h|h
    ·exact .of (b:=1) h.1 rfl rfl
    omega
   |k+3,hx=>simp at hx
  ·have hk:k<2:=hk;show(if k=2 then some g' else nu k)=nu k;rw[if_neg (by omega)]
  refine .tuple _ _ rfl fun q a v hq hv=>?_
  match q,hq,hv with
  |0,hq,hv=>
   obtain rfl:=Ye hq;obtain rfl:=Ye hv;rw[hsz];exact .int _ _
  |1,hq,hv=>
   obtain rfl:=Ye hq;obtain rfl:=Ye hv;exact .niliface
  |q+2,hq,hv=>simp at hq
 cases h
theorem qoD (L:Lays.n169 P ρ) (X:Builder.Extra P ρ) (hE:Av.Enters P (ρ.f 169)) (ok:Bool) (o:Option (List Int)) {t:Str} (h:qmN ok o=some t):
 qc P (.fn (ρ.f 169)) [.ptr 0 0] [.bld (ρ.t 72) (ρ.t 5) [pz ok 0 0,hsl 1 1 o],.cells ((hof o).flatMap (qa .u8).c)] (.str t) [.dead,.dead]:=by
 unfold qmN at h;split at h
 ·rename_i hc;obtain⟨hk,⟨hpos,hlen⟩,hall⟩:=hc
  have hok:ok=o.isSome:=by
   cases o with
   |none=>simp at hpos
   |some l=>exact hk
  obtain rfl:=Ye h;intro F nu w vs i hargs;refine .inl ⟨hE,?_⟩;obtain⟨x,ws,rfl,hx,hws⟩:=hargs.cons_inv;obtain rfl:=hws.nil_inv
  cases hx with
  |ptr _ _ b hb=>
  obtain⟨hFb,p,v,hh,hp,hown,hne,hrow,hnone⟩:=qoQ i hb hok X.neB5
  cases hv:v.ownBlock with
  |none=>
   have:=hnone hv;subst this;simp at hpos
  |some g=>
  obtain⟨hn1,hFg,cap,cur,rfl,hhg,hnc,hcm,hcs⟩:=hrow g hv
  have hbc:Lib.byteCells ((hof o).map fun n=>UInt8.ofNat n.toNat)=(hof o).map fun n=>Value.int .u8 n:=by
   unfold Lib.byteCells;rw[List.map_map]
   refine List.map_congr_left fun n hn=>?_
   have h1:=Yp.1 hall n hn;simp only[Bool.and_eq_true,decide_eq_true_eq]at h1;show Value.int .u8 ((UInt8.ofNat n.toNat).toNat:Int)=_;rw[UInt8.toNat_ofNat'];congr 1;omega
  have hlm:((hof o).map fun n=>UInt8.ofNat n.toNat).length=(hof o).length:=List.length_map _
  have htake:cur.toList.take ((hof o).length*1)=(hof o).map fun n=>Value.int .u8 n:=by
   rcases hown.2 with⟨hv2,_⟩|⟨g2,cap2,cur2,hv2,_,h1,_,_,_,h5⟩
   ·cases hv2
   injection hv2 with e1 e2 e3;injection e1 with e1;injection e1 with e1;subst e1;rw[hhg]at h1;injection h1 with h1;injection h1 with h1;rw[h1];exact h5
  refine(qqe L X b g cap p ((hof o).map fun n=>UInt8.ofNat n.toNat) cur w (by rw[hlm];exact hh) hhg (by rw[hlm];exact hnc) hcm hcs (by rw[hlm,hbc];exact htake) (fun e=>by rw[e]at hlm;simp at hlm;omega)).mono ?_;rintro e w' ⟨rfl,but⟩
  have frame: ∀rb,rb<w.heap.size->rb≠b->rb≠g->w'.heap[rb]? =w.heap[rb]? :=fun rb hlt h1 h2=>but.block rb hlt (fun e=>h1 (Ye e)) (fun e=>h2 (Ye e))
  have hdead: ∀{k:Nat} {x:Blk},([.dead,.dead]:Heap)[k]? =some x->x= .dead:=by
   intro k x hx
   match k,hx with
   |0,hx=>exact(Ye hx).symm
   |1,hx=>exact(Ye hx).symm
   |k+2,hx=>simp at hx
  refine⟨_,F,nu,rfl,⟨fun _ h=>h,fun _ _ h=>h,but.shape,⟨fun k rb x hk hx=>?_,fun k k' rb rb' x x' r hk hk' hx hx' ho ho' hr hr'=>?_,fun k hk=>i.fresh k hk,fun rb hF=>Nat.lt_of_lt_of_le (i.ltF rb hF) but.size,fun k rb hk=>Nat.lt_of_lt_of_le (i.ltN k rb hk) but.size,Glob.mono i.glob (fun _ h=>h) fun rb hF=>frame rb (i.ltF rb hF) (fun e=>hFb (e▸hF)) (fun e=>hFg (e▸hF))⟩,fun rb hlt hno=>frame rb hlt (fun e=>hno (.of (e▸hb) rfl rfl)) (fun e=>hno (.of (e▸hn1) rfl rfl)),fun rb hlt ho=>?_,but.size,but.os,but.tape,but.output,fun _ _=>rfl,Nat.le_refl _,fun _ h=> .inl h⟩,.str _ _ rfl⟩
  ·rw[hdead hx];trivial
  ·rw[hdead hx]at ho;cases ho
  obtain⟨k,x,rq,hk,hx,ho,hf⟩:=ho;rw[hdead hx]at ho;cases ho
 cases h
end Go.Av
end
