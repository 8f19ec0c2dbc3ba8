/-
  slices.Insert at rows of integers: the program's own row, whatever its spare room; told on the abstract heap.
-/
import Derived.Test.YtbpkolibdibmeaaGreatAvFn
import Derived.Shelf.Spec.SlicesInsertGrow
import Derived.Test.YtbpkolibdibmeaaGreatAvWa
import Derived.Shelf.Strings.Builder1
set_option linter.unusedSectionVars false
set_option linter.unusedVariables false
set_option maxRecDepth 100000
noncomputable section
namespace Go.Av
section
open Go.Proofs Go.RowKit Go.Shelf
variable [Glob]
structure qeg (w w':World) (rb:Nat) (e:TypeId) (c1:Array Value):Prop where
 at_:w'.heap[rb]? =some (.cells c1 e (0,0))
 oth: ∀r,r≠rb->w'.heap[r]? =w.heap[r]?
 size:w'.heap.size=w.heap.size
 os:w'.os=w.os
 tape:w'.tape=w.tape
 output:w'.output=w.output
theorem qj0 {w:World} {rb o:Nat} {e:TypeId} {c0:Array Value} (v:Value) (h:w.heap[rb]? =some (.cells c0 e (0,0))):qeg w (w.setCell ⟨rb,o,none⟩ v) rb e (c0.setIfInBounds o v):=by
 refine⟨?_,fun r hr=>?_,?_,rfl,rfl,rfl⟩
 ·unfold World.setCell;simp only[Array.getElem?_modify,if_true,h];rfl
 ·unfold World.setCell;simp only[Array.getElem?_modify];rw[if_neg (fun e=>hr e.symm)]
 simp[World.setCell]
theorem jE (rb:Nat) (e:TypeId): ∀(vs:List Value) (o:Nat) (w:World) (c0:Array Value),w.heap[rb]? =some (.cells c0 e (0,0))->o+vs.length<=c0.size->
 ∃c1,qeg w (w.setCells rb o vs) rb e c1/\c1.size=c0.size/\ ∀j,c1[j]? =if o<=j/\j<o+vs.length then vs[j-o]? else c0[j]? :=by
 intro vs
 induction vs with
 |nil=>
  intro o w c0 h _;refine⟨c0,⟨h,fun _ _=>rfl,rfl,rfl,rfl,rfl⟩,rfl,fun j=>?_⟩;rw[if_neg (fun h=>by have:=h.1;have:=h.2;simp at this;omega)]
 |cons v vs ih=>
  intro o w c0 h hl;simp only[Yr]at hl;have h1:=qj0 (o:=o) v h;obtain⟨c1,r,hs,hc⟩:=ih (o+1) (w.setCell ⟨rb,o,none⟩ v) _ h1.at_ (by simp;omega);refine⟨c1,⟨r.at_,fun q hq=>(r.oth q hq).trans (h1.oth q hq),r.size.trans h1.size,r.os,r.tape,r.output⟩,by simpa using hs,fun j=>?_⟩;rw[hc j];simp only[Yr];by_cases hj:j=o
  ·subst hj;rw[if_neg (by omega),if_pos (by omega)];simp only[Nat.sub_self,List.getElem?_cons_zero];rw[Array.getElem?_setIfInBounds_self_of_lt (by omega)]
  rw[Array.getElem?_setIfInBounds_ne (fun e=>hj e.symm)];by_cases h2:o+1<=j/\j<o+1+vs.length
  ·rw[if_pos h2,if_pos (by omega)]
   have:j-o=(j-(o+1))+1:=by omega
   rw[this,YK]
  rw[if_neg h2,if_neg (by omega)]
def qY (ns:List Int):List AV:=ns.map (AV.int .i64)
def qA (ns:List Int):List Value:=ns.map (Value.int .i64)
def qcH:List AV->Option (List Int)
 |[]=>some []
 | .int .i64 n::r=>(qcH r).map (n:: ·)
 |_::_=>none
theorem qdc: ∀{cs:List AV} {ns:List Int},qcH cs=some ns->cs=qY ns:=by
 intro cs
 induction cs with
 |nil=>intro ns h;injection h with h;subst h;rfl
 |cons c cs ih=>
  intro ns h;unfold qcH at h;split at h
  ·rename_i e;cases e
  ·rename_i n r e;injection e with e1 e2;subst e1 e2;obtain⟨m,hm,rfl⟩:=Yd.1 h;rw[ih hm];rfl
  cases h
theorem qrt {F:Nat->Prop} {nu:Nat->Option Nat} {w:World} {ns:List Int}: ∀(j:Nat) (a:AV) (v:Value),(qY ns)[j]? =some a->(qA ns)[j]? =some v->R F nu w a v:=by
 intro j a v ha hv;simp only[qY,qA,YA]at ha hv
 cases h:ns[j]? with
 |none=>rw[h]at ha;cases ha
 |some n=>
  rw[h]at ha hv;simp only[ZM,ZI]at ha hv;subst ha hv;exact .int _ _
theorem qae {ns:List Int}: ∀v∈qA ns,v.oneCell'=true:=by
 intro v hv;simp only[qA,List.mem_map]at hv;obtain⟨n,_,rfl⟩:=hv;rfl
theorem row_of {F:Nat->Prop} {nu:Nat->Option Nat} {A:Heap} {w:World} (i:Inv F nu A w) {b rb:Nat} {ns:List Int} (hb:nu b=some rb) (hA:A[b]? =some (.cells (qY ns))):
 ∃c0 e,w.heap[rb]? =some (.cells c0 e (0,0))/\ns.length<=c0.size/\ ∀j,j<ns.length->c0[j]? =(qA ns)[j]? :=by
 obtain⟨_,c0,e,hh,hl,hR⟩:=i.blk b rb _ hb hA
 have hl:ns.length<=c0.size:=by simpa[qY]using hl
 refine⟨c0,e,hh,hl,fun j hj=>?_⟩
 have h1:(qY ns)[j]? =some (.int .i64 ns[j]):=by simp[qY,hj]
 have h2:c0[j]? =some c0[j]:=Yi (by omega);have:=(hR j _ _ h1 h2).int_inv;rw[h2,this];simp[qA,hj]
theorem cell_of_row {w:World} {rb:Nat} {c0:Array Value} {e:TypeId} (h:w.heap[rb]? =some (.cells c0 e (0,0))) (j:Nat):w.cell? ⟨rb,j,none⟩=c0[j]? :=by
 simp only[World.cell?,h,Option.isSome_none,ZF,if_false]
theorem frozen_of_row {w:World} {rb:Nat} {c0:Array Value} {e:TypeId} (h:w.heap[rb]? =some (.cells c0 e (0,0))) (j:Nat):w.frozen? ⟨rb,j,none⟩=false:=by
 simp[World.frozen?,h]
theorem xL {w:World} {rb:Nat} {c0:Array Value} {e:TypeId} (h:w.heap[rb]? =some (.cells c0 e (0,0))):w.shape? rb=some (e,c0.size):=by
 simp only[World.shape?,h]
theorem qeg.trans {w w' w'':World} {rb:Nat} {e e':TypeId} {c1 c2:Array Value} (h:qeg w w' rb e c1) (k:qeg w' w'' rb e' c2):qeg w w'' rb e' c2:=
 ⟨k.at_,fun r hr=>(k.oth r hr).trans (h.oth r hr),k.size.trans h.size,k.os.trans h.os,k.tape.trans h.tape,k.output.trans h.output⟩
theorem qeg.drew {w w':World} {rb:Nat} {e:TypeId} {c1:Array Value} (h:qeg w w' rb e c1):qeg w w'.drew rb e c1:=⟨h.at_,h.oth,h.size,h.os,h.tape,h.output⟩
theorem qeg.ofDrew {w w':World} {rb:Nat} {e:TypeId} {c1:Array Value} (h:qeg w.drew w' rb e c1):qeg w w' rb e c1:=⟨h.at_,h.oth,h.size,h.os,h.tape,h.output⟩
section
variable {F:Nat->Prop} {nu:Nat->Option Nat} {A:Heap} {w:World}
theorem qkC {ns:List Int} {c:Array Value} (hc: ∀j,j<ns.length->c[j]? =(qA ns)[j]?): ∀(j:Nat) (a:AV) (v:Value),(qY ns)[j]? =some a->c[j]? =some v->R F nu w a v:=by
 intro j a v ha hv
 have hj:j<ns.length:=by
  have:=(Yb.1 ha).1;simpa[qY]using this
 rw[hc j hj]at hv;exact qrt j a v ha hv
theorem qfi (i:Inv F nu A w) {b rb n cap:Nat} {ns ms:List Int} {c0 c1:Array Value} {e:TypeId} {w':World} (hb:nu b=some rb) (hA:A[b]? =some (.cells (qY ns))) (hh:w.heap[rb]? =some (.cells c0 e (0,0)))
 (r:qeg w w' rb e c1) (hs:c1.size=c0.size) (hn:ms.length=n) (hcap:n<=cap) (hm:cap<=c0.size) (hx:cap<=9223372036854775807) (hc: ∀j,j<ms.length->c1[j]? =(qA ms)[j]?):
 ∃nu',Stp F nu A w F nu' (A.set b .dead++[.cells (qY ms)]) w'/\R F nu' w' (.oslice A.length n 1) (.slice (some ⟨rb,0,none⟩) n cap):=by
 have hsh: ∀s,w.shape? rb=some s->w'.shape? rb=some s:=by
  intro s h;rw[<-h,xL hh,xL r.at_,hs]
 have s1:=U6 i (k:= .cells (qY ms)) hb hA rfl rfl r.oth r.size hsh r.os r.tape r.output (fun hnF=>⟨hnF,c1,e,r.at_,by simp[qY];omega,qkC hc⟩);have hblt:b<A.length:=(Yb.1 hA).1;have s2:=U0 s1.inv (b:=b) hb (k:= .cells (qY ms)) (by simp[hblt]) rfl;simp only[List.set_set,Yk]at s2;refine⟨_,s1.trans s2,.oslice _ _ _ _ _ e c1.size (upd_same _ _) hcap (xL r.at_) (by omega) hx⟩
theorem qgR (i:Inv F nu A w) {n cap:Nat} {ms:List Int} {c1:Array Value} {e:TypeId} {w':World} (h1:w'.heap[w.heap.size]? =some (.cells c1 e (0,0))) (h2: ∀r,r<w.heap.size->w'.heap[r]? =w.heap[r]?) (h3:w'.heap.size=w.heap.size+1)
 (ho:w'.os=w.os) (ht:w'.tape=w.tape) (hp:w'.output=w.output) (hn:ms.length=n) (hcap:n<=cap) (hm:cap<=c1.size) (hx:cap<=9223372036854775807) (hc: ∀j,j<ms.length->c1[j]? =(qA ms)[j]?):
 ∃nu',Stp F nu A w F nu' (A++[.cells (qY ms)]) w'/\R F nu' w' (.oslice A.length n 1) (.slice (some ⟨w.heap.size,0,none⟩) n cap):=by
 have s1:=Un i c1 e (qY ms) (by simp[qY];omega) (qkC hc)
 have hheap:w'.heap=(w.alloc (.cells c1 e)).heap:=by
  refine Array.ext_getElem? fun j=>?_
  rcases Nat.lt_trichotomy j w.heap.size with hj|hj|hj
  ·rw[h2 j hj];exact(Go.heap_alloc_old w _ hj).symm
  ·subst hj;rw[h1];exact(Go.heap_alloc_new w _).symm
  rw[Array.getElem?_eq_none (by omega),Array.getElem?_eq_none (by simp;omega)]
 have s2:=Stp.same s1.inv (w':=w') hheap ho ht hp;exact⟨_,s1.trans s2,.oslice _ _ _ _ _ e c1.size (upd_same _ _) hcap (xL h1) (by omega) hx⟩
end
theorem RL.args3 {F:Nat->Prop} {nu:Nat->Option Nat} {w:World} {a b c:AV} {vs:Array Value} (h:RL F nu w [a,b,c] vs): ∃x y z,vs=#[x,y,z]/\R F nu w a x/\R F nu w b y/\R F nu w c z:=by
 obtain⟨l⟩:=vs;obtain⟨h1,h2⟩:=h
 match l,h1,h2 with
 |[x,y,z],_,h2=>exact⟨x,y,z,rfl,h2 0 _ _ rfl rfl,h2 1 _ _ rfl rfl,h2 2 _ _ rfl rfl⟩
end
section
open Go.Proofs Go.RowKit Go.Shelf
variable [Glob]
def qn3 (args:List AV) (A:Heap):Option (AV×Heap):=
 match args with
 |[.nilslice,.int .i64 0,.slice vb 0 m _ 1]=>
  match A[vb]? with
  |some (.cells vs)=>match qcH vs with
   |some xs=>if xs.length=m/\0<m/\m<=1000 then some (.oslice A.length m 1,A++[.cells (qY xs)])else none
   |none=>none
  |_=>none
 |[.oslice b n 1,.int .i64 i,.slice vb 0 m _ 1]=>
  match A[b]?,A[vb]? with
  |some (.cells cs),some (.cells vs)=>
   match qcH cs,qcH vs with
   |some ns,some xs=>if ns.length=n/\0<=i/\i.toNat<=n/\n<=100000/\b≠vb/\xs.length=m/\0<m/\m<=1000 then some (.oslice A.length (n+m) 1,A.set b .dead++[.cells (qY (ns.take i.toNat++xs++ns.drop i.toNat))])else none
   |_,_=>none
  |_,_=>none
 |_=>none
theorem qui {P:Program} {ρ:Ren} (L:Lays2.n21 P ρ) (he:Enters P (ρ.f 21)) {args:List AV} {A A':Heap} {v:AV} (h:qn3 args A=some (v,A')):qc P (.fn (ρ.f 21)) args A v A':=by
 intro F nu w vs i hargs;refine .inl ⟨he,?_⟩;unfold qn3 at h;split at h
 ·rename_i vb m vcap;obtain⟨s,kv,vv,rfl,hs,hk,hv⟩:=hargs.args3;obtain rfl:=hk.int_inv;cases hs
  cases hv with
  |slice _ _ _ _ _ rv hrv hvc=>
  split at h
  ·rename_i vcs hA;split at h
   ·rename_i xs hxs;split at h
    ·rename_i hcond;obtain⟨hm,hm0,hmb⟩:=hcond;simp only[ZI,ZP]at h;obtain⟨rfl,rfl⟩:=h;obtain rfl:=qdc hxs;obtain⟨c1,e1,hh1,hl1,hcv1⟩:=row_of i hrv hA
     have hvl:(qA xs).length=m:=by simpa[qA]using hm
     have hvs: ∀j v,(qA xs)[j]? =some v->w.cell? ⟨rv,0+j,none⟩=some v:=by
      intro j v hj;have hjl:=(Yb.1 hj).1;rw[cell_of_row hh1,Nat.zero_add,hcv1 j (by simpa[qA]using hjl),hj]
     have:=Any2.slices_Insert_int_end_grow L none 0 0 rv 0 m vcap [] (qA xs) w hm0 (by omega) (by omega) (by omega) rfl hvl (fun _=>rfl) (by intro a ha;cases ha) hvs qae;refine Calls.mono (show Calls P (ρ.f 21) #[.slice none 0 0,.int .i64 0,.slice (some ⟨rv,0,none⟩) m vcap] w _ from this) ?_;rintro e' w' ⟨rfl,rfl⟩;have hg:=grownCap_ge w m 0 (ρ.t 3);obtain⟨nu',st,hR⟩:=qgR i (w':=w.drew.alloc (.cells (([]++qA xs).toArray++Builtin.zeroCells (Value.int .i64 0).cells (grownCap w (0+m) 0 (ρ.t 3)-(0+m))) (ρ.t 3))) (c1:=([]++qA xs).toArray++Builtin.zeroCells (Value.int .i64 0).cells (grownCap w (0+m) 0 (ρ.t 3)-(0+m))) (n:=m) (cap:=grownCap w m 0 (ρ.t 3)) (ms:=xs) (Go.heap_alloc_new w.drew _) (fun r hr=>Go.heap_alloc_old w.drew _ hr) (by simp) rfl rfl rfl hm hg (by simp only[Nat.zero_add,List.nil_append,Array.size_append,size_zeroCells,Value.cells,List.size_toArray,hvl];simp;omega)
      (Go.grownCap_le_maxLen w m 0 _ (by unfold maxLen;omega)) (fun j hj=>by
       rw[YC (by simp[qA];omega)]
       rw[List.getElem?_toArray,List.nil_append])
     exact⟨_,_,nu',by rw[Nat.zero_add],st,hR⟩
    cases h
   cases h
  cases h
 ·rename_i b n k0 vb m vcap;obtain⟨s,kv,vv,rfl,hs,hk,hv⟩:=hargs.args3;obtain rfl:=hk.int_inv
  cases hs with
  |oslice _ _ _ rb cap e mm hb hc hsh hm hx=>
  cases hv with
  |slice _ _ _ _ _ rv hrv hvc=>
  split at h
  ·rename_i cs vcs hA hAv;split at h
   ·rename_i ns xs hns hxs;split at h
    ·rename_i hcond;obtain⟨hn,hk0,hkn,hbig,hbv,hxm,hm0,hmb⟩:=hcond;simp only[ZI,ZP]at h;obtain⟨rfl,rfl⟩:=h;obtain rfl:=qdc hns;obtain rfl:=qdc hxs;obtain⟨c0,e0,hh,hl,hcv⟩:=row_of i hb hA;obtain⟨c1,e1,hh1,hl1,hcv1⟩:=row_of i hrv hAv
     have hne:rv≠rb:=fun e=>hbv (i.inj b vb rb _ _ hb (e▸hrv) hA hAv rfl rfl)
     have hshe:e=e0/\mm=c0.size:=by
      rw[xL hh]at hsh;simp only[ZI,ZP]at hsh;exact⟨hsh.1.symm,hsh.2.symm⟩
     obtain⟨rfl,rfl⟩:=hshe;obtain⟨k,rfl⟩: ∃k:Nat,k0=(k:Int):=⟨k0.toNat,by omega⟩;simp only[Int.toNat_natCast]at hkn⊢
     have hvl:(qA xs).length=m:=by simpa[qA]using hxm
     have hvs: ∀j v,(qA xs)[j]? =some v->w.cell? ⟨rv,0+j,none⟩=some v:=by
      intro j v hj;have hjl:=(Yb.1 hj).1;rw[cell_of_row hh1,Nat.zero_add,hcv1 j (by simpa[qA]using hjl),hj]
     have hcs: ∀j v,(qA ns)[j]? =some v->w.cell? ⟨rb,0+j,none⟩=some v:=by
      intro j v hj;have hjl:=(Yb.1 hj).1;rw[cell_of_row hh,Nat.zero_add,hcv j (by simpa[qA]using hjl),hj]
     have hlv:(qA ns).length=n:=by simpa[qA]using hn
     have hms:(ns.take k++xs++ns.drop k).length=n+m:=by simp;omega
     have hat: ∀j,j<n+m->(qA (ns.take k++xs++ns.drop k))[j]? =if j<k then(qA ns)[j]? else if j<k+m then(qA xs)[j-k]? else(qA ns)[j-m]? :=by
      intro j hj;simp only[qA,YA];by_cases h1:j<k
      ·rw[if_pos h1,Yz,Yf (by simp;omega),List.getElem?_take_of_lt h1]
      rw[if_neg h1]
      have e1:(ns.take k).length=k:=by simp;omega
      by_cases h2:j<k+m
      ·rw[if_pos h2,Yz,Yo (by omega),e1,Yf (by omega)]
      rw[if_neg h2,Yo (by simp;omega),Yq,e1,hxm,YI];rw[show k+(j-(k+m))=j-m by omega]
     have hblt:b<A.length:=(Yb.1 hA).1;by_cases hroom:n+m<=cap
     ·by_cases hend:k=n
      ·subst hend
       have:=Any2.slices_Insert_int_end_room L rb 0 k cap rv 0 m vcap (qA xs) w hm0 hroom hx hvl (fun j hj=>by
        rw[cell_of_row hh,Yi (by omega)];rfl) (fun j _=>frozen_of_row hh _) hvs qae
       refine Calls.mono this ?_;rintro e' w' ⟨rfl,rfl⟩;obtain⟨c2,rw2,hs2,hc2⟩:=jE rb e (qA xs) (0+k) w c0 hh (by rw[hvl];omega)
       obtain⟨nu',st,hR⟩:=qfi i hb hA hh rw2 hs2 hms hroom (by omega) hx (fun j hj=>by
        rw[hms]at hj;rw[hat j hj,hc2 j,hvl];by_cases h1:j<k
        ·rw[if_neg (by omega),if_pos h1,hcv j (by omega)]
        rw[if_pos (by omega),if_neg h1,if_pos (by omega),Nat.zero_add])
       exact⟨_,_,nu',rfl,st,hR⟩
      have:=Any2.slices_Insert_int_shift L rb 0 n cap k rv 0 m vcap (qA ns) (qA xs) w (by omega) hm0 hroom hx hne hlv hvl hcs (fun j hj=>by
       rw[cell_of_row hh,Yi (by omega)];rfl) (fun j _=>frozen_of_row hh _) hvs qae qae e1 e c1.size c0.size (xL hh1) (xL hh) (by omega) (frozen_of_row hh1 _) (frozen_of_row hh1 _)
      refine Calls.mono this ?_;rintro e' w' ⟨rfl,rfl⟩;obtain⟨c2,rw2,hs2,hc2⟩:=jE rb e ((qA ns).drop k) (0+(k+m)) w.drew c0 hh (by rw[YJ,hlv];omega);obtain⟨c3,rw3,hs3,hc3⟩:=jE rb e (qA xs) (0+k) _ c2 rw2.at_ (by rw[hvl];omega)
      obtain⟨nu',st,hR⟩:=qfi i hb hA hh (rw2.trans rw3).ofDrew (hs3.trans hs2) hms hroom (by omega) hx (fun j hj=>by
       rw[hms]at hj;rw[hat j hj,hc3 j,hvl];by_cases h1:j<k
       ·rw[if_neg (by omega),if_pos h1,hc2 j,if_neg (by omega),hcv j (by omega)]
       rw[if_neg h1];by_cases h2:j<k+m
       ·rw[if_pos (by omega),if_pos h2,Nat.zero_add]
       rw[if_neg (by omega),if_neg h2,hc2 j,if_pos (by rw[YJ,hlv];omega),YI]
       rw[show k+(j-(0+(k+m)))=j-m by omega])
      exact⟨_,_,nu',rfl,st,hR⟩
     have hg:=grownCap_ge w (n+m) cap (ρ.t 3);have hgm:=Go.grownCap_le_maxLen w (n+m) cap (ρ.t 3) (by unfold maxLen;omega);have fin: ∀{w':World} {cc:Array Value},w'.heap[w.heap.size]? =some (.cells cc (ρ.t 3) (0,0))->(∀r,r<w.heap.size->w'.heap[r]? =w.heap[r]?)->w'.heap.size=w.heap.size+1->w'.os=w.os->w'.tape=w.tape->w'.output=w.output->
      grownCap w (n+m) cap (ρ.t 3)<=cc.size->(∀j,j<(ns.take k++xs++ns.drop k).length->cc[j]? =(qA (ns.take k++xs++ns.drop k))[j]?)->
      ∃x' F' nu',Ending.returned (.slice (some ⟨w.heap.size,0,none⟩) (n+m) (grownCap w (n+m) cap (ρ.t 3)))= .returned x'/\Stp F nu A w F' nu' (A.set b .dead++[.cells (qY (ns.take k++xs++ns.drop k))]) w'/\R F' nu' w' (.oslice A.length (n+m) 1) x':=by
      intro w' cc h1 h2 h3 h4 h5 h6 h7 h8;obtain⟨nu',st,hR⟩:=qgR i h1 h2 h3 h4 h5 h6 hms hg h7 hgm h8;have s2:=Ux st.inv b;rw[List.set_append_left _ _ hblt]at s2;exact⟨_,F,nu',rfl,st.trans s2,hR⟩
     by_cases hend:k=n
     ·subst hend
      have:=Any2.slices_Insert_int_end_grow L (some ⟨rb,0,none⟩) k cap rv 0 m vcap (qA ns) (qA xs) w hm0 hc (by omega) (by omega) hlv hvl (fun e=>by cases e) (by
       intro a ha j v hj;injection ha with ha;subst ha;rw[jP]
       exact hcs j v hj) hvs qae
      refine Calls.mono this ?_;rintro e' w' ⟨rfl,rfl⟩;refine fin (Go.heap_alloc_new w.drew _) (fun r hr=>Go.heap_alloc_old w.drew _ hr) (by simp) rfl rfl rfl (by simp only[Array.size_append,size_zeroCells,Value.cells,List.size_toArray,Yq,hlv,hvl];simp;omega) (fun j hj=>?_);rw[hms]at hj;rw[hat j hj,YC (by simp only[List.size_toArray,Yq,hlv,hvl];omega),List.getElem?_toArray];by_cases h1:j<k
      ·rw[if_pos h1,Yf (by omega)]
      rw[if_neg h1,if_pos (by omega),Yo (by omega),hlv]
     have:=Any2.slices_Insert_int_grow L rb 0 n cap k rv 0 m vcap (qA ns) (qA xs) w (by omega) hm0 hc (by omega) (by omega) hlv hvl hcs hvs qae qae;refine Calls.mono this ?_;rintro e' w' ⟨rfl,rfl⟩;obtain⟨ROW,hROW⟩: ∃ROW:Array Value,ROW=((qA ns).take k).toArray++Builtin.zeroCells (Value.int .i64 0).cells (n+m-k)++Builtin.zeroCells (Value.int .i64 0).cells (grownCap w (n+m) cap (ρ.t 3)-(n+m)):=⟨_,rfl⟩;rw[<-hROW]
     have hRs:ROW.size=grownCap w (n+m) cap (ρ.t 3):=by
      rw[hROW];simp[size_zeroCells,Value.cells,hlv];omega
     have h0:(w.alloc (.cells ROW (ρ.t 3))).drew.heap[w.heap.size]? =some (.cells ROW (ρ.t 3) (0,0)):=Go.heap_alloc_new w _;obtain⟨c2,rw2,hs2,hc2⟩:=jE w.heap.size (ρ.t 3) (qA xs) k _ ROW h0 (by rw[hvl];omega);obtain⟨c3,rw3,hs3,hc3⟩:=jE w.heap.size (ρ.t 3) ((qA ns).drop k) (k+m) _ c2 rw2.drew.at_ (by rw[YJ,hlv];omega);have hall:=rw2.drew.trans rw3;refine fin hall.at_ (fun r hr=>(hall.oth r (by omega)).trans (Go.heap_alloc_old w _ hr)) (hall.size.trans (by simp)) hall.os hall.tape hall.output (by omega) (fun j hj=>?_);rw[hms]at hj;rw[hat j hj,hc3 j,YJ,hlv];by_cases h1:j<k
     ·rw[if_neg (by omega),if_pos h1,hc2 j,if_neg (by omega),hROW,YC (by simp[hlv];omega),YC (by simp[hlv];omega),List.getElem?_toArray,List.getElem?_take_of_lt h1]
     rw[if_neg h1];by_cases h2:j<k+m
     ·rw[if_neg (by omega),if_pos h2,hc2 j,if_pos (by rw[hvl];omega)]
     rw[if_pos (by omega),if_neg h2,YI];rw[show k+(j-(k+m))=j-m by omega]
    cases h
   cases h
  cases h
 cases h
end
section
open Go.Proofs Go.RowKit Go.Shelf
structure But (x y:Option Nat) (w w':World):Prop where
 os:w'.os=w.os
 tape:w'.tape=w.tape
 output:w'.output=w.output
 size:w.heap.size<=w'.heap.size
 block: ∀k,k<w.heap.size->some k≠x->some k≠y->w'.heap[k]? =w.heap[k]?
 shape: ∀k s,w.shape? k=some s->w'.shape? k=some s
section
variable {P:Program} {ρ:Ren}
structure Wrote (P:Program) (ρ:Ren) (b:Nat) (v:Value) (bs:List Value) (w w':World) (v':Value):Prop where
 heap:w'.heap[b]? =some (.cells #[.pointer (some ⟨b,0,none⟩),v'] (ρ.t 72) (0,0))
 own:w'.ownsRow 0 (ρ.t 5) 1 v' bs.length bs
 but:But (some b) v.ownBlock w w'
 place:v'.ownBlock=v.ownBlock\/ ∃g,v'.ownBlock=some g/\w.heap.size<=g
 ne:v'.ownBlock≠some b
end
end
section
open Go.Proofs Go.RowKit Go.Shelf
section
variable {P:Program} {ρ:Ren}
end
variable [Glob] {P:Program} {ρ:Ren}
end
end Go.Av
end
