/-
  slices.Insert at rows of integers: the program's own row, whatever its spare room; told on the abstract heap.
-/
import Derived.Test.YthgioiakbbhonaaGreatDoorAvFn
import Derived.Shelf.Spec.SlicesInsertGrow
import Derived.Test.YthgioiakbbhonaaGreatDoorAvWa
import Derived.Shelf.Strings.Builder1
set_option linter.unusedSectionVars false
set_option linter.unusedVariables false
set_option maxRecDepth 100000
noncomputable section
namespace Go.Av
section
open Go.Proofs Go.RowKit Go.Shelf
variable [Glob]
structure qdS (w w':World) (rb:Nat) (e:TypeId) (c1:Array Value):Prop where
 at_:w'.heap[rb]? =some (.cells c1 e (0,0))
 oth: ∀r,r≠rb->w'.heap[r]? =w.heap[r]?
 size:w'.heap.size=w.heap.size
 os:w'.os=w.os
 tape:w'.tape=w.tape
 output:w'.output=w.output
theorem qjp {w:World} {rb o:Nat} {e:TypeId} {c0:Array Value} (v:Value) (h:w.heap[rb]? =some (.cells c0 e (0,0))):qdS w (w.setCell ⟨rb,o,none⟩ v) rb e (c0.setIfInBounds o v):=by
 refine⟨?_,λr hr=>?_,?_,rfl,rfl,rfl⟩
 ·unfold World.setCell;simp only[YD,aJ,h];rfl
 ·unfold World.setCell;simp only[YD];rw[aa (λe=>hr e.symm)]
 simp[World.setCell]
theorem qa2 (rb:Nat) (e:TypeId): ∀(vs:List Value) (o:Nat) (w:World) (c0:Array Value),w.heap[rb]? =some (.cells c0 e (0,0))->o+vs.length<=c0.size->
 ∃c1,qdS w (w.setCells rb o vs) rb e c1/\c1.size=c0.size/\ ∀j,c1[j]? =if o<=j/\j<o+vs.length then vs[j-o]? else c0[j]? :=by
 intro vs
 induction vs with
 |nil=>
  intro o w c0 h _;refine⟨c0,⟨h,λ_ _=>rfl,rfl,rfl,rfl,rfl⟩,rfl,λj=>?_⟩;rw[aa (λh=>by have:=h.1;have:=h.2;simp at this;omega)]
 |cons v vs ih=>
  intro o w c0 h hl;simp only[Yr]at hl;have h1:=qjp (o:=o) v h;obtain⟨c1,r,hs,hc⟩:=ih (o+1) (w.setCell ⟨rb,o,none⟩ v) _ h1.at_ (by simp;omega);refine⟨c1,⟨r.at_,λq hq=>(r.oth q hq).trans (h1.oth q hq),r.size.trans h1.size,r.os,r.tape,r.output⟩,by simpa using hs,λj=>?_⟩;rw[hc j];simp only[Yr];by_cases hj:j=o
  ·subst hj;rw[aa (by omega),ae (by omega)];simp only[bR,Yj];rw[Array.getElem?_setIfInBounds_self_of_lt (by omega)]
  rw[Array.getElem?_setIfInBounds_ne (λe=>hj e.symm)];by_cases h2:o+1<=j/\j<o+1+vs.length
  ·rw[ae h2,ae (by omega)]
   have:j-o=(j-(o+1))+1:=by omega
   rw[this,List.getElem?_cons_succ]
  rw[aa h2,aa (by omega)]
def qan (ns:List Int):List AV:=ns.map (AV.int .i64)
def qM (ns:List Int):List Value:=ns.map (Value.int .i64)
def qjX:List AV->Option (List Int)
 |[]=>some []
 | .int .i64 n::r=>(qjX r).map (n:: ·)
 |_::_=>none
theorem qnH: ∀{cs:List AV} {ns:List Int},qjX cs=some ns->cs=qan ns:=by
 intro cs
 induction cs with
 |nil=>intro ns h;injection h with h;subst h;rfl
 |cons c cs ih=>
  intro ns h;unfold qjX at h;split at h
  ·rename_i e;cases e
  ·rename_i n r e;injection e with e1 e2;subst e1 e2;obtain⟨m,hm,rfl⟩:=Yd.1 h;rw[ih hm];rfl
  cases h
def insA (args:List AV) (A:Heap):Option (AV×Heap):=
 match args with
 |[.nilslice,.int .i64 0,.slice vb 0 1 _ 1]=>
  match A[vb]? with
  |some (.cells [.int .i64 x])=>some (.oslice A.length 1 1,A++[.cells [.int .i64 x]])
  |_=>none
 |[.oslice b n 1,.int .i64 i,.slice vb 0 1 _ 1]=>
  match A[b]?,A[vb]? with
  |some (.cells cs),some (.cells [.int .i64 x])=>
   match qjX cs with
   |some ns=>if ns.length=n/\0<=i/\i.toNat<=n/\n<=100000/\b≠vb then some (.oslice A.length (n+1) 1,A.set b .dead++[.cells (qan (ns.take i.toNat++[x]++ns.drop i.toNat))])else none
   |none=>none
  |_,_=>none
 |_=>none
theorem qoo {F:Nat->Prop} {nu:Nat->Option Nat} {w:World} {ns:List Int}: ∀(j:Nat) (a:AV) (v:Value),(qan ns)[j]? =some a->(qM ns)[j]? =some v->R F nu w a v:=by
 intro j a v ha hv;simp only[qan,qM,YA]at ha hv
 cases h:ns[j]? with
 |none=>rw[h]at ha;cases ha
 |some n=>
  rw[h]at ha hv;simp only[ZM,ZI]at ha hv;subst ha hv;exact .int _ _
theorem qcX {ns:List Int}: ∀v∈qM ns,v.oneCell'=true:=by
 intro v hv;simp only[qM,List.mem_map]at hv;obtain⟨n,_,rfl⟩:=hv;rfl
theorem row_of {F:Nat->Prop} {nu:Nat->Option Nat} {A:Heap} {w:World} (i:Inv F nu A w) {b rb:Nat} {ns:List Int} (hb:nu b=some rb) (hA:A[b]? =some (.cells (qan ns))):
 ∃c0 e,w.heap[rb]? =some (.cells c0 e (0,0))/\ns.length<=c0.size/\ ∀j,j<ns.length->c0[j]? =(qM ns)[j]? :=by
 obtain⟨_,c0,e,hh,hl,hR⟩:=i.blk b rb _ hb hA
 have hl:ns.length<=c0.size:=by simpa[qan]using hl
 refine⟨c0,e,hh,hl,λj hj=>?_⟩
 have h1:(qan ns)[j]? =some (.int .i64 ns[j]):=by simp[qan,hj]
 have h2:c0[j]? =some c0[j]:=Yi (by omega);have:=(hR j _ _ h1 h2).int_inv;rw[h2,this];simp[qM,hj]
theorem cell_of_row {w:World} {rb:Nat} {c0:Array Value} {e:TypeId} (h:w.heap[rb]? =some (.cells c0 e (0,0))) (j:Nat):w.cell? ⟨rb,j,none⟩=c0[j]? :=by
 simp only[World.cell?,h,aW,ZF,aU]
theorem frozen_of_row {w:World} {rb:Nat} {c0:Array Value} {e:TypeId} (h:w.heap[rb]? =some (.cells c0 e (0,0))) (j:Nat):w.frozen? ⟨rb,j,none⟩=false:=by
 simp[World.frozen?,h]
theorem qam {w:World} {rb:Nat} {c0:Array Value} {e:TypeId} (h:w.heap[rb]? =some (.cells c0 e (0,0))):w.shape? rb=some (e,c0.size):=by
 simp only[World.shape?,h]
theorem qdS.trans {w w' w'':World} {rb:Nat} {e e':TypeId} {c1 c2:Array Value} (h:qdS w w' rb e c1) (k:qdS w' w'' rb e' c2):qdS w w'' rb e' c2:=
 ⟨k.at_,λr hr=>(k.oth r hr).trans (h.oth r hr),k.size.trans h.size,k.os.trans h.os,k.tape.trans h.tape,k.output.trans h.output⟩
theorem qdS.drew {w w':World} {rb:Nat} {e:TypeId} {c1:Array Value} (h:qdS w w' rb e c1):qdS w w'.drew rb e c1:=⟨h.at_,h.oth,h.size,h.os,h.tape,h.output⟩
theorem qdS.ofDrew {w w':World} {rb:Nat} {e:TypeId} {c1:Array Value} (h:qdS w.drew w' rb e c1):qdS w w' rb e c1:=⟨h.at_,h.oth,h.size,h.os,h.tape,h.output⟩
section
variable {F:Nat->Prop} {nu:Nat->Option Nat} {A:Heap} {w:World}
theorem qjV {ns:List Int} {c:Array Value} (hc: ∀j,j<ns.length->c[j]? =(qM ns)[j]?): ∀(j:Nat) (a:AV) (v:Value),(qan ns)[j]? =some a->c[j]? =some v->R F nu w a v:=by
 intro j a v ha hv
 have hj:j<ns.length:=by
  have:=(Yb.1 ha).1;simpa[qan]using this
 rw[hc j hj]at hv;exact qoo j a v ha hv
theorem qlN (i:Inv F nu A w) {b rb n cap:Nat} {ns ms:List Int} {c0 c1:Array Value} {e:TypeId} {w':World} (hb:nu b=some rb) (hA:A[b]? =some (.cells (qan ns))) (hh:w.heap[rb]? =some (.cells c0 e (0,0)))
 (r:qdS w w' rb e c1) (hs:c1.size=c0.size) (hn:ms.length=n) (hcap:n<=cap) (hm:cap<=c0.size) (hx:cap<=9223372036854775807) (hc: ∀j,j<ms.length->c1[j]? =(qM ms)[j]?):
 ∃nu',Stp F nu A w F nu' (A.set b .dead++[.cells (qan ms)]) w'/\R F nu' w' (.oslice A.length n 1) (.slice (some ⟨rb,0,none⟩) n cap):=by
 have hsh: ∀s,w.shape? rb=some s->w'.shape? rb=some s:=by
  intro s h;rw[<-h,qam hh,qam r.at_,hs]
 have s1:=Stp.write i (k:= .cells (qan ms)) hb hA rfl rfl r.oth r.size hsh r.os r.tape r.output (λhnF=>⟨hnF,c1,e,r.at_,by simp[qan];omega,qjV hc⟩);have hblt:b<A.length:=(Yb.1 hA).1;have s2:=Ut s1.inv (b:=b) hb (k:= .cells (qan ms)) (by simp[hblt]) rfl;simp only[bx,Yk]at s2;refine⟨_,s1.trans s2,.oslice _ _ _ _ _ e c1.size (upd_same _ _) hcap (qam r.at_) (by omega) hx⟩
theorem qmW (i:Inv F nu A w) {n cap:Nat} {ms:List Int} {c1:Array Value} {e:TypeId} {w':World} (h1:w'.heap[w.heap.size]? =some (.cells c1 e (0,0))) (h2: ∀r,r<w.heap.size->w'.heap[r]? =w.heap[r]?) (h3:w'.heap.size=w.heap.size+1)
 (ho:w'.os=w.os) (ht:w'.tape=w.tape) (hp:w'.output=w.output) (hn:ms.length=n) (hcap:n<=cap) (hm:cap<=c1.size) (hx:cap<=9223372036854775807) (hc: ∀j,j<ms.length->c1[j]? =(qM ms)[j]?):
 ∃nu',Stp F nu A w F nu' (A++[.cells (qan ms)]) w'/\R F nu' w' (.oslice A.length n 1) (.slice (some ⟨w.heap.size,0,none⟩) n cap):=by
 have s1:=Ug i c1 e (qan ms) (by simp[qan];omega) (qjV hc)
 have hheap:w'.heap=(w.alloc (.cells c1 e)).heap:=by
  refine Array.ext_getElem? λj=>?_
  rcases dE j w.heap.size with hj|hj|hj
  ·rw[h2 j hj];exact(Go.heap_alloc_old w _ hj).symm
  ·subst hj;rw[h1];exact(Go.heap_alloc_new w _).symm
  rw[Array.getElem?_eq_none (by omega),Array.getElem?_eq_none (by simp;omega)]
 have s2:=Stp.same s1.inv (w':=w') hheap ho ht hp;exact⟨_,s1.trans s2,.oslice _ _ _ _ _ e c1.size (upd_same _ _) hcap (qam h1) (by omega) hx⟩
end
theorem RL.args3 {F:Nat->Prop} {nu:Nat->Option Nat} {w:World} {a b c:AV} {vs:Array Value} (h:RL F nu w [a,b,c] vs): ∃x y z,vs=#[x,y,z]/\R F nu w a x/\R F nu w b y/\R F nu w c z:=by
 obtain⟨l⟩:=vs;obtain⟨h1,h2⟩:=h
 match l,h1,h2 with
 |[x,y,z],_,h2=>exact⟨x,y,z,rfl,h2 0 _ _ rfl rfl,h2 1 _ _ rfl rfl,h2 2 _ _ rfl rfl⟩
theorem qrj {P:Program} {ρ:Ren} (L:Lays2.n21 P ρ) (he:Enters P (ρ.f 21)) {args:List AV} {A A':Heap} {v:AV} (h:insA args A=some (v,A')):qf P (.fn (ρ.f 21)) args A v A':=by
 intro F nu w vs i hargs;refine .inl ⟨he,?_⟩;unfold insA at h;split at h
 ·rename_i vb vcap;obtain⟨s,kv,vv,rfl,hs,hk,hv⟩:=hargs.args3;obtain rfl:=hk.int_inv;cases hs
  cases hv with
  |slice _ _ _ _ _ rv hrv hvc=>
  split at h
  ·rename_i x hA;simp only[ZI,ZP]at h;obtain⟨rfl,rfl⟩:=h;obtain⟨c1,e1,hh1,hl1,hcv1⟩:=row_of i hrv (ns:=[x]) hA
   have hvs: ∀j v,(qM [x])[j]? =some v->w.cell? ⟨rv,0+j,none⟩=some v:=by
    intro j v hj;have hjl:=(Yb.1 hj).1;rw[cell_of_row hh1,az,hcv1 j (by simpa[qM]using hjl),hj]
   have:=Any2.slices_Insert_int_end_grow L none 0 0 rv 0 1 vcap [] (qM [x]) w (by omega) (by omega) (by omega) (by omega) rfl rfl (λ_=>rfl) (by intro a ha;cases ha) hvs qcX;refine Calls.mono (show Calls P (ρ.f 21) #[.slice none 0 0,.int .i64 0,.slice (some ⟨rv,0,none⟩) 1 vcap] w _ from this) ?_;rintro e' w' ⟨rfl,rfl⟩;have hg:=grownCap_ge w 1 0 (ρ.t 3);obtain⟨nu',st,hR⟩:=qmW i (w':=w.drew.alloc (.cells (([]++qM [x]).toArray++Builtin.zeroCells (Value.int .i64 0).cells (grownCap w (0+1) 0 (ρ.t 3)-(0+1))) (ρ.t 3))) (c1:=([]++qM [x]).toArray++Builtin.zeroCells (Value.int .i64 0).cells (grownCap w (0+1) 0 (ρ.t 3)-(0+1))) (n:=1) (cap:=grownCap w 1 0 (ρ.t 3)) (ms:=[x]) (Go.heap_alloc_new w.drew _) (λr hr=>Go.heap_alloc_old w.drew _ hr) (by simp) rfl rfl rfl rfl hg (by simp[size_zeroCells,Value.cells,qM];omega)
    (Go.grownCap_le_maxLen w 1 0 _ (by unfold maxLen;omega)) (λj hj=>by
     have:j=0:=by simpa using hj
     subst this;rw[YC (by simp[qM])]
     rfl)
   exact⟨_,_,nu',rfl,st,hR⟩
  cases h
 ·rename_i b n k0 vb vcap;obtain⟨s,kv,vv,rfl,hs,hk,hv⟩:=hargs.args3;obtain rfl:=hk.int_inv
  cases hs with
  |oslice _ _ _ rb cap e m hb hc hsh hm hx=>
  cases hv with
  |slice _ _ _ _ _ rv hrv hvc=>
  split at h
  ·rename_i cs x hA hAv;split at h
   ·rename_i ns hns;split at h
    ·rename_i hcond;obtain⟨hn,hk0,hkn,hbig,hbv⟩:=hcond;simp only[ZI,ZP]at h;obtain⟨rfl,rfl⟩:=h;obtain rfl:=qnH hns;obtain⟨c0,e0,hh,hl,hcv⟩:=row_of i hb hA;obtain⟨c1,e1,hh1,hl1,hcv1⟩:=row_of i hrv (ns:=[x]) hAv
     have hne:rv≠rb:=λe=>hbv (i.inj b vb rb _ _ hb (e▸hrv) hA hAv rfl rfl)
     have hshe:e=e0/\m=c0.size:=by
      rw[qam hh]at hsh;simp only[ZI,ZP]at hsh;exact⟨hsh.1.symm,hsh.2.symm⟩
     obtain⟨rfl,rfl⟩:=hshe;obtain⟨k,rfl⟩: ∃k:Nat,k0=(k:Int):=⟨k0.toNat,by omega⟩;simp only[aL]at hkn⊢
     have hvs: ∀j v,(qM [x])[j]? =some v->w.cell? ⟨rv,0+j,none⟩=some v:=by
      intro j v hj;have hjl:=(Yb.1 hj).1;rw[cell_of_row hh1,az,hcv1 j (by simpa[qM]using hjl),hj]
     have hcs: ∀j v,(qM ns)[j]? =some v->w.cell? ⟨rb,0+j,none⟩=some v:=by
      intro j v hj;have hjl:=(Yb.1 hj).1;rw[cell_of_row hh,az,hcv j (by simpa[qM]using hjl),hj]
     have hlv:(qM ns).length=n:=by simpa[qM]using hn
     have hms:(ns.take k++[x]++ns.drop k).length=n+1:=by simp;omega
     have hat: ∀j,j<n+1->(qM (ns.take k++[x]++ns.drop k))[j]? =if j<k then(qM ns)[j]? else if j=k then some (.int .i64 x)else(qM ns)[j-1]? :=by
      intro j hj;simp only[qM,YA];by_cases h1:j<k
      ·rw[ae h1,Yz,Yf (by simp;omega),List.getElem?_take_of_lt h1]
      rw[aa h1];by_cases h2:j=k
      ·subst h2;rw[ae rfl,Yz,Yo (by simp;omega)]
       have:j-(ns.take j).length=0:=by simp;omega
       rw[this];rfl
      rw[aa h2,Yz,Yo (by simp;omega)]
      have:j-(ns.take k).length=(j-1-k)+1:=by simp;omega
      rw[this];simp only[cK,bn,List.getElem?_cons_succ,YI];rw[show k+(j-1-k)=j-1 by omega]
     have hblt:b<A.length:=(Yb.1 hA).1;by_cases hroom:n+1<=cap
     ·by_cases hend:k=n
      ·subst hend
       have:=Any2.slices_Insert_int_end_room L rb 0 k cap rv 0 1 vcap (qM [x]) w (by omega) hroom hx rfl (λj hj=>by
        rw[cell_of_row hh,Yi (by omega)];rfl) (λj _=>frozen_of_row hh _) hvs qcX
       refine Calls.mono this ?_;rintro e' w' ⟨rfl,rfl⟩;obtain⟨c2,rw2,hs2,hc2⟩:=qa2 rb e (qM [x]) (0+k) w c0 hh (by simp[qM];omega)
       obtain⟨nu',st,hR⟩:=qlN i hb hA hh rw2 hs2 hms hroom (by omega) hx (λj hj=>by
        rw[hms]at hj;rw[hat j hj,hc2 j];by_cases h1:j<k
        ·rw[aa (by omega),ae h1,hcv j (by omega)]
        have:j=k:=by omega
        subst this;rw[ae (by simp[qM]),aa h1,ae rfl]
        simp[qM])
       exact⟨_,_,nu',rfl,st,hR⟩
      have:=Any2.slices_Insert_int_shift L rb 0 n cap k rv 0 1 vcap (qM ns) (qM [x]) w (by omega) (by omega) hroom hx hne hlv rfl hcs (λj hj=>by
       rw[cell_of_row hh,Yi (by omega)];rfl) (λj _=>frozen_of_row hh _) hvs qcX qcX e1 e c1.size c0.size (qam hh1) (qam hh) (by omega) (frozen_of_row hh1 _) (frozen_of_row hh1 _)
      refine Calls.mono this ?_;rintro e' w' ⟨rfl,rfl⟩;obtain⟨c2,rw2,hs2,hc2⟩:=qa2 rb e ((qM ns).drop k) (0+(k+1)) w.drew c0 hh (by simp[hlv];omega);obtain⟨c3,rw3,hs3,hc3⟩:=qa2 rb e (qM [x]) (0+k) _ c2 rw2.at_ (by simp[qM];omega)
      obtain⟨nu',st,hR⟩:=qlN i hb hA hh (rw2.trans rw3).ofDrew (hs3.trans hs2) hms hroom (by omega) hx (λj hj=>by
       rw[hms]at hj;rw[hat j hj,hc3 j];by_cases h1:j<k
       ·rw[aa (by omega),ae h1,hc2 j,aa (by omega),hcv j (by omega)]
       rw[aa h1];by_cases h2:j=k
       ·subst h2;rw[ae (by simp[qM]),ae rfl];simp[qM]
       rw[aa (by simp[qM];omega),aa h2,hc2 j,ae (by simp[hlv];omega),YI]
       rw[show k+(j-(0+(k+1)))=j-1 by omega])
      exact⟨_,_,nu',rfl,st,hR⟩
     have hg:=grownCap_ge w (n+1) cap (ρ.t 3);have hgm:=Go.grownCap_le_maxLen w (n+1) cap (ρ.t 3) (by unfold maxLen;omega);have fin: ∀{w':World} {cc:Array Value},w'.heap[w.heap.size]? =some (.cells cc (ρ.t 3) (0,0))->(∀r,r<w.heap.size->w'.heap[r]? =w.heap[r]?)->w'.heap.size=w.heap.size+1->w'.os=w.os->w'.tape=w.tape->w'.output=w.output->
      grownCap w (n+1) cap (ρ.t 3)<=cc.size->(∀j,j<(ns.take k++[x]++ns.drop k).length->cc[j]? =(qM (ns.take k++[x]++ns.drop k))[j]?)->
      ∃x' F' nu',Ending.returned (.slice (some ⟨w.heap.size,0,none⟩) (n+1) (grownCap w (n+1) cap (ρ.t 3)))= .returned x'/\Stp F nu A w F' nu' (A.set b .dead++[.cells (qan (ns.take k++[x]++ns.drop k))]) w'/\R F' nu' w' (.oslice A.length (n+1) 1) x':=by
      intro w' cc h1 h2 h3 h4 h5 h6 h7 h8;obtain⟨nu',st,hR⟩:=qmW i h1 h2 h3 h4 h5 h6 hms hg h7 hgm h8;have s2:=Uv st.inv b;rw[bE _ _ hblt]at s2;exact⟨_,F,nu',rfl,st.trans s2,hR⟩
     by_cases hend:k=n
     ·subst hend
      have:=Any2.slices_Insert_int_end_grow L (some ⟨rb,0,none⟩) k cap rv 0 1 vcap (qM ns) (qM [x]) w (by omega) hc (by omega) (by omega) hlv rfl (λe=>by cases e) (by
       intro a ha j v hj;injection ha with ha;subst ha;rw[jB]
       exact hcs j v hj) hvs qcX
      refine Calls.mono this ?_;rintro e' w' ⟨rfl,rfl⟩;refine fin (Go.heap_alloc_new w.drew _) (λr hr=>Go.heap_alloc_old w.drew _ hr) (by simp) rfl rfl rfl (by simp[size_zeroCells,Value.cells,hlv];simp[qM];omega) (λj hj=>?_);rw[hms]at hj;rw[hat j hj];by_cases h1:j<k
      ·rw[ae h1,YC (by simp[hlv];omega)];rw[List.getElem?_toArray,Yf (by omega)]
      have:j=k:=by omega
      subst this;rw[aa h1,ae rfl,YC (by simp[qM];omega),List.getElem?_toArray,Yo (by omega),hlv];simp[qM]
     have:=Any2.slices_Insert_int_grow L rb 0 n cap k rv 0 1 vcap (qM ns) (qM [x]) w (by omega) (by omega) hc (by omega) (by omega) hlv rfl hcs hvs qcX qcX;refine Calls.mono this ?_;rintro e' w' ⟨rfl,rfl⟩;obtain⟨ROW,hROW⟩: ∃ROW:Array Value,ROW=((qM ns).take k).toArray++Builtin.zeroCells (Value.int .i64 0).cells (n+1-k)++Builtin.zeroCells (Value.int .i64 0).cells (grownCap w (n+1) cap (ρ.t 3)-(n+1)):=⟨_,rfl⟩;rw[<-hROW]
     have hRs:ROW.size=grownCap w (n+1) cap (ρ.t 3):=by
      rw[hROW];simp[size_zeroCells,Value.cells,hlv];omega
     have h0:(w.alloc (.cells ROW (ρ.t 3))).drew.heap[w.heap.size]? =some (.cells ROW (ρ.t 3) (0,0)):=Go.heap_alloc_new w _;obtain⟨c2,rw2,hs2,hc2⟩:=qa2 w.heap.size (ρ.t 3) (qM [x]) k _ ROW h0 (by simp[qM];omega);obtain⟨c3,rw3,hs3,hc3⟩:=qa2 w.heap.size (ρ.t 3) ((qM ns).drop k) (k+1) _ c2 rw2.drew.at_ (by simp[hlv];omega);have hall:=rw2.drew.trans rw3;refine fin hall.at_ (λr hr=>(hall.oth r (by omega)).trans (Go.heap_alloc_old w _ hr)) (hall.size.trans (by simp)) hall.os hall.tape hall.output (by omega) (λj hj=>?_);rw[hms]at hj;rw[hat j hj,hc3 j];by_cases h1:j<k
     ·rw[aa (by omega),ae h1,hc2 j,aa (by omega),hROW,YC (by simp[hlv];omega),YC (by simp[hlv];omega),List.getElem?_toArray,List.getElem?_take_of_lt h1]
     rw[aa h1];by_cases h2:j=k
     ·subst h2;rw[aa (by omega),ae rfl,hc2 j,ae (by simp[qM])];simp[qM]
     rw[ae (by simp[hlv];omega),aa h2,YI];rw[show k+(j-(k+1))=j-1 by omega]
    cases h
   cases h
  cases h
 cases h
end
section
open Go.Proofs Go.RowKit Go.Shelf
structure But (x y:Option Nat) (w w':World):Prop where
 os:w'.os=w.os
 tape:w'.tape=w.tape
 output:w'.output=w.output
 size:w.heap.size<=w'.heap.size
 block: ∀k,k<w.heap.size->some k≠x->some k≠y->w'.heap[k]? =w.heap[k]?
 shape: ∀k s,w.shape? k=some s->w'.shape? k=some s
theorem But.refl {x y:Option Nat} (w:World):But x y w w:=⟨rfl,rfl,rfl,ag _,λ_ _ _ _=>rfl,λ_ _ h=>h⟩
theorem But.trans {x y:Option Nat} {a b c:World} (h:But x y a b) (k:But x y b c):But x y a c:=
 ⟨k.os.trans h.os,k.tape.trans h.tape,k.output.trans h.output,aX h.size k.size,λq hq h1 h2=>(k.block q (by have:=h.size;omega) h1 h2).trans (h.block q hq h1 h2),λq s hs=>k.shape q s (h.shape q s hs)⟩
theorem qit {w:World} {k:Nat} {s:TypeId×Nat} (h:w.shape? k=some s):k<w.heap.size:=by
 rcases ak k w.heap.size with h1|h1
 ·exact h1
 simp[World.shape?,Array.getElem?_eq_none h1]at h
theorem But.setCell {x y:Option Nat} (w:World) (b o:Nat) (q:Value) (h:x=some b\/y=some b):But x y w (w.setCell ⟨b,o,none⟩ q):=by
 have hh: ∀k,k≠b->(w.setCell ⟨b,o,none⟩ q).heap[k]? =w.heap[k]? :=λk hk=>Below.heap_setCell _ _ _ _ hk
 refine⟨rfl,rfl,rfl,by simp[World.setCell],λk hk h1 h2=>hh k (λe=>?_),λk s hs=>?_⟩
 ·subst e;rcases h with h|h
  ·exact h1 h.symm
  exact h2 h.symm
 by_cases e:k=b
 ·subst e;simp only[World.shape?,World.setCell,YD]at hs⊢
  cases hc:w.heap[k]? with
  |none=>rw[hc]at hs;simp at hs
  |some ob=>
   rw[hc]at hs;cases ob<;>simp at hs⊢
   all_goals exact hs
 have:=hh k e;unfold World.shape? at hs⊢;rw[this];exact hs
theorem qqu {w:World} (o:Obj) (rb:Nat) (s:TypeId×Nat) (h:w.shape? rb=some s):(w.alloc o).shape? rb=some s:=by
 rw[<-h];have e:=_root_.Go.heap_alloc_old w o (qit h);simp only[World.shape?,e]
theorem But.drew {x y:Option Nat} (w:World):But x y w w.drew:=⟨rfl,rfl,rfl,ag _,λ_ _ _ _=>rfl,λ_ _ h=>h⟩
theorem But.freeze {x y:Option Nat} (w:World) (g n:Nat) (h:x=some g\/y=some g):But x y w (w.freeze ⟨g,0,none⟩ n):=by
 have hh: ∀k,k≠g->(w.freeze ⟨g,0,none⟩ n).heap[k]? =w.heap[k]? :=λk hk=>by
  unfold World.freeze;split
  ·rfl
  simp only[YD];rw[aa (λe=>hk e.symm)]
 have hsh: ∀k s,w.shape? k=some s->(w.freeze ⟨g,0,none⟩ n).shape? k=some s:=λk s hs=>by
  by_cases e:k=g
  ·subst e;unfold World.freeze;split
   ·exact hs
   simp only[World.shape?,YD,aJ]at hs⊢
   cases hc:w.heap[k]? with
   |none=>rw[hc]at hs;simp at hs
   |some ob=>
    rw[hc]at hs;cases ob<;>simp at hs⊢
    all_goals exact hs
  have:=hh k e;unfold World.shape? at hs⊢;rw[this];exact hs
 have hsz:(w.freeze ⟨g,0,none⟩ n).heap.size=w.heap.size:=by
  unfold World.freeze;split
  ·rfl
  simp
 have hos:(w.freeze ⟨g,0,none⟩ n).os=w.os/\(w.freeze ⟨g,0,none⟩ n).tape=w.tape/\(w.freeze ⟨g,0,none⟩ n).output=w.output:=by
  unfold World.freeze;split<;>exact⟨rfl,rfl,rfl⟩
 refine⟨hos.1,hos.2.1,hos.2.2,by rw[hsz];exact ag _,λk hk h1 h2=>hh k (λe=>?_),hsh⟩;subst e;rcases h with h|h
 ·exact h1 h.symm
 exact h2 h.symm
theorem qnJ {P:Program} (w:World) (t u ty e:TypeId) (i:TypeInfo) (ht:P.underlying t=some (.slice e)) (hu:P.underlying u=some .string) (hi:P.info? e=some i) (hz:i.zero=some (.int .u8 0))
 (hsize:i.size=1) (hby:i.bytes=1) (v:Value) (n:Nat) (xs:List Value) (hown:w.ownsRow 0 e 1 v n xs) (s:ByteArray) (hbytes:n+s.size<=140737488355328):
 ∃v' w',(Builtin.append_ #[t,u] ty #[v,.string s]).run P w= .ok v' w'/\w'.ownsRow 0 e 1 v' (n+s.size) (xs++Lib.strCells s)/\(∀b,But (some b) v.ownBlock w w')/\(v'.ownBlock=v.ownBlock\/ ∃g,v'.ownBlock=some g/\w.heap.size<=g):=by
 have h63:n+s.size<=maxLen:=by unfold maxLen;omega
 rcases hown.2 with⟨rfl,rfl⟩|⟨g,cap,cur,rfl,hbg,hg,hnc,hcm,hcs,htake⟩
 ·have hx:xs=[]:=cw (by simpa using hown.1);subst hx;obtain⟨v',w',hr,h2,h3,h4⟩:=Lib.run_append_own_string (P:=P) w w.heap.size t u ty e i ht hu hi hz hsize hby (.slice none 0 0) 0 [] (World.ownsRow_nil _ _ _ _) s h63 hbytes (ag _)
  have hb: ∀k,k<w.heap.size->w'.heap[k]? =w.heap[k]? :=λk hk=>h3.block k hk (λe=>by cases e)
  refine⟨v',w',hr,⟨h2.1,?_⟩,λb=>⟨h3.os,h3.tape,h3.output,h3.size,λk hk _ _=>hb k hk,λk s hs=>?_⟩,?_⟩
  ·rcases h2.2 with h|⟨g,cap,cur,a1,a2,a3⟩
   ·exact .inl h
   exact .inr ⟨g,cap,cur,a1,aF _,a3⟩
  ·have:=hb k (qit hs);unfold World.shape? at hs⊢;rw[this];exact hs
  rcases h2.2 with⟨hv,_⟩|⟨g',cap',cur',hv,hb,_⟩
  ·left;rw[hv]
  right;exact⟨g',by rw[hv];rfl,hb⟩
 obtain⟨v',w',hr,h2,h3,h4⟩:=Lib.run_append_own_string (P:=P) w 0 t u ty e i ht hu hi hz hsize hby _ n xs hown s h63 hbytes (aF _)
 have hxl:xs.length=n:=by simpa using hown.1
 by_cases hroom:n+s.size<=cap
 ·have hr2:=Lib.run_append_room_string (P:=P) w t u ty e i ht hu hi hsize g n cap cur hg s hroom (by omega);rw[hr]at hr2;injection hr2 with e1 e2;refine⟨v',w',hr,h2,λb=>⟨h3.os,h3.tape,h3.output,h3.size,λk hk _ h=>h3.block k hk h,λk sh hs=>?_⟩,?_⟩
  ·by_cases ek:k=g
   ·subst ek;rw[e2];have hg2:=setRow_heap w k cur (cur.toList.take n++Lib.strCells s++cur.toList.drop (n+s.size)).toArray e _ hg;simp only[World.shape?,hg]at hs;simp only[World.shape?,hg2];rw[<-hs];simp only[eA,Yq,Ym,YJ,cm,Lib.strCells_length];congr 2;omega
   have:=h3.block k (qit hs) (λc=>ek (by simpa[Value.ownBlock]using c));unfold World.shape? at hs⊢;rw[this];exact hs
  left;rw[e1];rfl
 have holds: ∀j u,xs[j]? =some u->w.cell? ((⟨g,0,none⟩:Addr).add j)=some u:=hown.cells (g:=g) rfl;have hr2:=Lib.run_append_grow_string (P:=P) w t u ty e i (.int .u8 0) ht hu hi hz ⟨g,0,none⟩ n cap xs (by rw[hsize];simpa using hxl) holds s (by omega) (by unfold maxLen at h63;omega) (by rw[hby];exact growslice_fits (by omega) (by omega));rw[hr]at hr2;injection hr2 with e1 e2;refine⟨v',w',hr,h2,λb=>⟨h3.os,h3.tape,h3.output,h3.size,λk hk _ h=>h3.block k hk h,λk sh hs=>?_⟩,?_⟩
 ·rw[e2];exact qqu _ k sh hs
 right;exact⟨w.heap.size,by rw[e1];rfl,ag _⟩
theorem qnR {P:Program} {w:World} {ops:Array Oper} {rest:List Oper} {o:Oper} {a:Act} {Q:Exit->Act->World->Prop} (hgd:o.guard=none) (sl x:Operand) (t u:TypeId)
 (ho:o.op= .call {callee:= .builtin .append,args:=#[sl,x],argTypes:=#[t,u]})
 (e:TypeId) (i:TypeInfo) (ht:P.underlying t=some (.slice e)) (hu:P.underlying u=some .string) (hi:P.info? e=some i) (hz:i.zero=some (.int .u8 0))
 (hsize:i.size=1) (hby:i.bytes=1)
 (v:Value) (n:Nat) (xs:List Value) (hs:a.eval sl=v) (hown:w.ownsRow 0 e 1 v n xs) (s:ByteArray) (hx:a.eval x= .string s)
 (hbytes:n+s.size<=140737488355328)
 (h: ∀v' w',w'.ownsRow 0 e 1 v' (n+s.size) (xs++Lib.strCells s)->(∀b,But (some b) v.ownBlock w w')->(v'.ownBlock=v.ownBlock\/ ∃g,v'.ownBlock=some g/\w.heap.size<=g)->wpList P ops Q rest (a.put o.dst v') w'):wpList P ops Q (o::rest) a w:=by
 refine wpList_plain hgd λK hK=>?_
 obtain⟨v',w',hr,h2,h3,h4⟩:=qnJ (P:=P) w t u o.type e i ht hu hi hz hsize hby v n xs hown s hbytes;unfold Oper.wp execOp;simp only[ho,resolve,invoke,builtin,Sem.run_bind,Sem.run_pure,Result.andThen_ok,List.map_toArray,List.map_cons,List.map_nil,hs,hx,hr];exact hK _ _ (h v' w' h2 h3 h4)
section
variable {P:Program} {ρ:Ren}
theorem qnE (L:Lays.n240 P ρ) (X:Builder.X72 P ρ) (b:Nat) (bs:List Value) (w:World) (h:Lib.IsBuilder (ρ.t 72) (ρ.t 5) 0 b bs w):
 Calls P (ρ.f 240) #[.pointer (some ⟨b,0,none⟩)] w λe w'=>e= .returned (.tuple #[])/\Lib.BuilderAt (ρ.t 72) (ρ.t 5) 0 b (.pointer (some ⟨b,0,none⟩)) bs w'/\(w'=w\/w'=w.setCell ⟨b,0,none⟩ (.pointer (some ⟨b,0,none⟩))):=by
 rcases h with h|h
 ·refine(Any.Builder_copyCheck_fresh L X b w h.cell0 h.shape h.frozen0).mono ?_;rintro e w' ⟨rfl,rfl⟩;exact⟨rfl,h.used _,.inr rfl⟩
 refine(Any.Builder_copyCheck_used L X b w h.cell0).mono ?_;rintro e w' ⟨rfl,rfl⟩;exact⟨rfl,h,.inl rfl⟩
structure Wrote (P:Program) (ρ:Ren) (b:Nat) (v:Value) (bs:List Value) (w w':World) (v':Value):Prop where
 heap:w'.heap[b]? =some (.cells #[.pointer (some ⟨b,0,none⟩),v'] (ρ.t 72) (0,0))
 own:w'.ownsRow 0 (ρ.t 5) 1 v' bs.length bs
 but:But (some b) v.ownBlock w w'
 place:v'.ownBlock=v.ownBlock\/ ∃g,v'.ownBlock=some g/\w.heap.size<=g
 ne:v'.ownBlock≠some b
set_option maxHeartbeats 2000000 in
theorem qr0 (L:Lays.n166 P ρ) (X:Builder.Extra P ρ) (b:Nat) (p v:Value) (bs:List Value) (s:ByteArray) (w:World) (hp:p= .pointer none\/p= .pointer (some ⟨b,0,none⟩)) (hb:w.heap[b]? =some (.cells #[p,v] (ρ.t 72) (0,0))) (hown:w.ownsRow 0 (ρ.t 5) 1 v bs.length bs) (hne:v.ownBlock≠some b) (hlen:bs.length+s.size<=140737488355328):
 Calls P (ρ.f 166) #[.pointer (some ⟨b,0,none⟩),.string s] w λe w'=>e= .returned (.tuple #[.int .i64 s.size,.nilIface])/\ ∃v',Wrote P ρ b v (bs++Lib.strCells s) w w' v':=by
 have h:Lib.IsBuilder (ρ.t 72) (ρ.t 5) 0 b bs w:=by
  rcases hp with rfl|rfl
  ·exact .inl ⟨aF _,v,hb,hown,hne⟩
  exact .inr ⟨aF _,v,hb,hown,hne⟩
 obtain⟨i0,hi,hz0,hz1,hz2⟩:=info_parts X.infoByte;have mixed:=L.mixed;have t72:=L.t72;have a72:=L.a72;have z72:=L.z72;have v72:=L.v72;have u72:=run_underlying L.t72;have t70:=L.t70;have a70:=L.a70;have z70:=L.z70;have v70:=L.v70;have u70:=run_underlying L.t70;have t37:=L.t37;have a37:=L.a37;have z37:=L.z37;have v37:=L.v37;have u37:=run_underlying L.t37;have t3:=L.t3;have a3:=L.a3;have z3:=L.z3;have v3:=L.v3;have u3:=run_underlying L.t3;have t9:=L.t9;have a9:=L.a9;have z9:=L.z9;have v9:=L.v9;have u9:=run_underlying L.t9;have t4:=L.t4;have a4:=L.a4;have z4:=L.z4;have v4:=L.v4;have u4:=run_underlying L.t4;have t164:=L.t164;have a164:=L.a164;have z164:=L.z164;have v164:=L.v164;have u164:=run_underlying L.t164;have t5:=X.t5;have a5:=X.a5;have z5:=X.z5;have v5:=X.v5;have u5:=run_underlying X.t5;have e240: ∀args w,(callFunc (ρ.f 240) args).run P w= .ok (.enter (ρ.f 240) args) w:=Go.Proofs.enters_of L.f240 (by kernel_rfl) rfl
 go_enter L.f166,Body.n166_ntmps ρ
 go_wp2_with (go_at_fn (ρ.f 240);refine(qnE {L with} X.toX72 b bs _ h).mono ?_)
 rintro e w1 ⟨rfl,h1,hw1⟩;obtain⟨_,v1,hbk,hown1,hne1⟩:=h1
 have ev:v1=v:=by
  rcases hw1 with rfl|rfl
  ·rw[hb]at hbk;injection hbk with hbk;injection hbk with hbk;simp at hbk;exact hbk.2.symm
  have:(w.setCell ⟨b,0,none⟩ (.pointer (some ⟨b,0,none⟩))).heap[b]? =some (.cells #[.pointer (some ⟨b,0,none⟩),v] (ρ.t 72) (0,0)):=by
   simp[World.setCell,Array.getElem?_modify,hb]
  rw[this]at hbk;injection hbk with hbk;injection hbk with hbk;simpa using hbk.symm
 subst ev
 have but1:But (some b) v1.ownBlock w w1:=by
  rcases hw1 with rfl|rfl
  ·exact But.refl _
  exact But.setCell _ _ _ _ (.inl rfl)
 have c0:w1.cell? ⟨b,0,none⟩=some (.pointer (some ⟨b,0,none⟩)):=by rw[Lib.cell_of_heap hbk];rfl
 have c1:w1.cell? ⟨b,1,none⟩=some v1:=by rw[Lib.cell_of_heap hbk];rfl
 go_wp2_with (at_builtin;refine qnR rfl _ _ (ρ.t 37) (ρ.t 9) rfl (ρ.t 5) i0 L.t37 L.t9 hi hz0 hz1 hz2 _ _ _ rfl hown1 s rfl ?c4 ?_)
 case c4=>omega
 intro v' w2 hown' hgrow hplace
 have hlt:b<w1.heap.size:=by
  rcases ak b w1.heap.size with h'|h'
  ·exact h'
  simp[Array.getElem?_eq_none h']at hbk
 have hb2:w2.heap[b]? =some (.cells #[.pointer (some ⟨b,0,none⟩),v1] (ρ.t 72) (0,0)):=by
  rw[(hgrow (w1.heap.size)).block b hlt (λe=>by injection e with e;omega) (λe=>hne e.symm)];exact hbk
 have d0:w2.cell? ⟨b,0,none⟩=some (.pointer (some ⟨b,0,none⟩)):=by rw[Lib.cell_of_heap hb2];rfl
 have d1:w2.cell? ⟨b,1,none⟩=some v1:=by rw[Lib.cell_of_heap hb2];rfl
 have f1:w2.frozen? ⟨b,1,none⟩=false:=Lib.frozen_of_heap hb2 1
 obtain⟨ao,n',cap,rfl⟩: ∃ao n' cap,v'= .slice ao n' cap:=by
  rcases hown'.2 with⟨hv,_⟩|⟨g,cap,cur,hv,_⟩
  ·exact⟨_,_,_,hv⟩
  exact⟨_,_,_,hv⟩
 go_wp2
 go_ret2
 refine⟨rfl,.slice ao n' cap,?_⟩;have hput:=Lib.BuilderAt.put (T:=(ρ.t 72)) (e:=(ρ.t 5)) (B:=0) (aF _) hb2 (bs':=bs++Lib.strCells s) (by simpa[Lib.strCells_length]using hown') X.neB5;obtain⟨_,v3,hb3,hown3,hne3⟩:=hput
 have e3:v3= .slice ao n' cap:=by
  have:(w2.setCell ⟨b,1,none⟩ (.slice ao n' cap)).heap[b]? =some (.cells #[.pointer (some ⟨b,0,none⟩),.slice ao n' cap] (ρ.t 72) (0,0)):=by
   simp[World.setCell,Array.getElem?_modify,hb2]
  rw[this]at hb3;injection hb3 with hb3;injection hb3 with hb3;simpa using hb3.symm
 subst e3;refine⟨hb3,hown3,but1.trans ((hgrow b).trans (But.setCell _ _ _ _ (.inl rfl))),?_,hne3⟩;rcases hplace with h|⟨g,h1,h2⟩
 ·exact .inl h
 exact .inr ⟨g,h1,aX but1.size h2⟩
end
end
section
open Go.Proofs Go.RowKit Go.Shelf
def bWr (ok:Bool) (o:Option (List Int)) (s:Str):Option (List Int):=if ok=o.isSome/\(hof o).length+s.length<=1000000000/\0<s.length then some (hof o++s.map λx=>(x.toNat:Int))else none
def qnX (ok:Bool) (o:Option (List Int)):Option Str:=if ok=true/\(0<(hof o).length/\(hof o).length<=1000000000)/\(hof o).all (λn=>decide (0<=n)&&decide (n<256))=true then some ((hof o).map λn=>UInt8.ofNat n.toNat)else none
section
variable {P:Program} {ρ:Ren}
set_option maxHeartbeats 1000000 in
theorem qqH (L:Lays.n169 P ρ) (X:Builder.Extra P ρ) (b g cap:Nat) (p:Value) (l:List UInt8) (cur:Array Value) (w:World) (hbk:w.heap[b]? =some (.cells #[p,.slice (some ⟨g,0,none⟩) l.length cap] (ρ.t 72) (0,0)))
 (hg:w.heap[g]? =some (.cells cur (ρ.t 5) (0,0))) (hnc:l.length<=cap) (hcm:cap<=maxLen) (hcs:cur.size=cap*1) (htake:cur.toList.take (l.length*1)=Lib.byteCells l) (h0:l≠[]):
 Calls P (ρ.f 169) #[.pointer (some ⟨b,0,none⟩)] w λe w'=>e= .returned (.string ⟨l.toArray⟩)/\But (some b) (some g) w w':=by
 have hown:w.ownsRow 0 (ρ.t 5) 1 (.slice (some ⟨g,0,none⟩) l.length cap) l.length (Lib.byteCells l):=⟨by rw[Lib.byteCells_length];omega,.inr ⟨g,cap,cur,rfl,aF _,hg,hnc,hcm,hcs,htake⟩⟩
 have hl0:l.length≠0:=by simpa using h0
 have c1:w.drew.cell? ⟨b,1,none⟩=some (.slice (some ⟨g,0,none⟩) l.length cap):=by
  have:w.drew.heap[b]? =some (.cells #[p,.slice (some ⟨g,0,none⟩) l.length cap] (ρ.t 72) (0,0)):=hbk;rw[Lib.cell_of_heap this];rfl
 have hSD:(Builtin.unsafeSliceData_ #[(ρ.t 37)] (ρ.t 127) #[.slice (some ⟨g,0,none⟩) l.length cap]).run P w.drew= .ok (.pointer (some ⟨g,0,none⟩)) w.drew:=
  Lib.run_unsafeSliceData_row _ _ _ _ _ _ (by omega)
 have hUS:(Builtin.unsafeString_ #[(ρ.t 127),(ρ.t 3)] (ρ.t 9) #[.pointer (some ⟨g,0,none⟩),.int .i64 l.length]).run P w.drew= .ok (.string ⟨l.toArray⟩) (w.drew.freeze ⟨g,0,none⟩ l.length):=by
  refine Lib.run_unsafeString_row w.drew (ρ.t 127) (ρ.t 3) (ρ.t 9) (ρ.t 5) L.t127 X.cellsByte g cur.size (by have hg':w.drew.heap[g]? =some (.cells cur (ρ.t 5) (0,0)):=hg;simp[World.shape?,hg']) l h0 (by omega) (by unfold maxLen at hcm;omega) ?_;intro j x hx;have:=hown.cells (g:=g) rfl j (.int .u8 x.toNat) (by simp[Lib.byteCells,hx]);exact this
 have mixed:=L.mixed;have t72:=L.t72;have a72:=L.a72;have z72:=L.z72;have v72:=L.v72;have u72:=run_underlying L.t72;have t70:=L.t70;have a70:=L.a70;have z70:=L.z70;have v70:=L.v70;have u70:=run_underlying L.t70;have t37:=L.t37;have a37:=L.a37;have z37:=L.z37;have v37:=L.v37;have u37:=run_underlying L.t37;have t127:=L.t127;have a127:=L.a127;have z127:=L.z127;have v127:=L.v127;have u127:=run_underlying L.t127;have t3:=L.t3;have a3:=L.a3;have z3:=L.z3;have v3:=L.v3;have u3:=run_underlying L.t3;have t9:=L.t9;have a9:=L.a9;have z9:=L.z9;have v9:=L.v9;have u9:=run_underlying L.t9;have t5:=X.t5;have a5:=X.a5;have z5:=X.z5;have v5:=X.v5;have u5:=run_underlying X.t5
 go_enter L.f169,Body.n169_ntmps ρ
 go_wp2
 go_region_o
 all_goals (go_wp2;go_ret;exact⟨rfl,(But.drew w).trans (But.freeze _ g _ (.inr rfl))⟩)
end
variable [Glob] {P:Program} {ρ:Ren}
theorem qmO (l:List Int):l.flatMap (qbk .u8).c=l.map λn=>AV.int .u8 n:=by
 induction l with
 |nil=>rfl
 |cons x l ih=>rw[bz,ih];rfl
theorem takeV {cur:Array Value} {l:List Int} {F:Nat->Prop} {nu:Nat->Option Nat} {w:World} (hl:(l.flatMap (qbk .u8).c).length<=cur.size) (hR: ∀(i:Nat) (a:AV) (v:Value),(l.flatMap (qbk .u8).c)[i]? =some a->cur[i]? =some v->R F nu w a v):
 cur.toList.take (l.length*1)=l.map λn=>Value.int .u8 n:=by
 rw[qmO,bo]at hl
 refine List.ext_getElem (by rw[Ym,bo];have:cur.toList.length=cur.size:=cm;omega) λi h1 h2=>?_
 rw[bo]at h2;rw[List.getElem_take,List.getElem_map,Array.getElem_toList];have h3:=hR i (.int .u8 l[i]) (cur[i]'(by omega)) (by rw[qmO,YA,Ya h2];rfl) (Yi _);exact h3.int_inv
theorem qqe {F:Nat->Prop} {nu:Nat->Option Nat} {w:World} {T e b:Nat} {ok:Bool} {o:Option (List Int)} {H:Heap} (i:Inv F nu (.bld T e [pz ok 0 0,hsl 1 1 o]:: .cells ((hof o).flatMap (qbk .u8).c)::H) w) (hb:nu 0=some b) (hok:ok=o.isSome) (hTe:T≠e):
 ¬F b/\ ∃p v,w.heap[b]? =some (.cells #[p,v] T (0,0))/\(p= .pointer none\/p= .pointer (some ⟨b,0,none⟩))/\w.ownsRow 0 e 1 v (hof o).length ((hof o).map λn=>Value.int .u8 n)/\v.ownBlock≠some b/\
  (∀g,v.ownBlock=some g->nu 1=some g/\ ¬F g/\ ∃cap cur,v= .slice (some ⟨g,0,none⟩) (hof o).length cap/\w.heap[g]? =some (.cells cur e (0,0))/\(hof o).length<=cap/\cap<=maxLen/\cur.size=cap*1)/\(v.ownBlock=none->o=none):=by
 obtain⟨hF,vs,hh,hs,hR,hW⟩:=i.blk 0 b _ hb rfl;refine⟨hF,?_⟩;obtain⟨l⟩:=vs
 match l,hs with
 |[p,v],_=>
 have hp:R F nu w (pz ok 0 0) p:=hR 0 _ _ rfl rfl;have hv:R F nu w (hsl 1 1 o) v:=hR 1 _ _ rfl rfl
 cases o with
 |none=>
  subst hok;have hp:R F nu w .nilptr p:=hp;have hv:R F nu w .nilslice v:=hv;cases hp
  cases hv
  exact⟨_,_,hh,.inl rfl,World.ownsRow_nil _ _ _ _,by simp[Value.ownBlock],λg hg=>by simp[Value.ownBlock]at hg,λ_=>rfl⟩
 |some l=>
  subst hok;have hp:R F nu w (.ptr 0 0) p:=hp;have hv:R F nu w (.oslice 1 l.length 1) v:=hv
  cases hp with
  |ptr _ _ rb h=>
  cases hv with
  |oslice _ _ _ g cap e' m h1 hc hsh hm hx=>
  rw[hb]at h;injection h with h;subst h;have hsh2:=hW 1 g l.length cap rfl;obtain⟨hFg,cur,e1,hhg,hlg,hRg⟩:=i.blk 1 g _ h1 rfl
  have e2:e1=e/\cur.size=cap:=by
   simp only[World.shape?,hhg,ZI,ZP]at hsh2;exact hsh2
  obtain⟨rfl,e3⟩:=e2
  have hcm:cap<=maxLen:=by unfold maxLen;exact hx
  have hown:w.ownsRow 0 e1 1 (.slice (some ⟨g,0,none⟩) l.length cap) l.length (l.map λn=>Value.int .u8 n):=⟨by simp,.inr ⟨g,cap,cur,rfl,aF _,hhg,hc,hcm,by omega,takeV hlg hRg⟩⟩;refine⟨_,_,hh,.inr rfl,hown,Lib.ownBlock_ne hown hh hTe,λg' hg'=>?_,λh=>by simp[Value.ownBlock]at h⟩
  have:g'=g:=by simpa[Value.ownBlock]using hg'.symm
  subst this;exact⟨h1,hFg,cap,cur,rfl,hhg,hc,hcm,by omega⟩
theorem qkl (s:ByteArray):Lib.strCells s=(s.data.toList.map λx=>(x.toNat:Int)).map λn=>Value.int .u8 n:=by
 unfold Lib.strCells;rw[List.map_map];rfl
theorem qrk (L:Lays.n166 P ρ) (X:Builder.Extra P ρ) (hE:Av.Enters P (ρ.f 166)) (ok:Bool) (o:Option (List Int)) (s:Str) {l:List Int} (h:bWr ok o s=some l):
 qf P (.fn (ρ.f 166)) [.ptr 0 0,.str s] [.bld (ρ.t 72) (ρ.t 5) [pz ok 0 0,hsl 1 1 o],.cells ((hof o).flatMap (qbk .u8).c)] (.tuple [.i ((s.length:Nat):Int),.niliface])
  [.bld (ρ.t 72) (ρ.t 5) [pz true 0 0,hsl 2 1 (some l)],.dead,.cells ((hof (some l)).flatMap (qbk .u8).c)]:=by
 unfold bWr at h;split at h
 ·rename_i hc;obtain⟨hok,hlen,hpos⟩:=hc;obtain rfl:=Ye h;intro F nu w vs i hargs;refine .inl ⟨hE,?_⟩;obtain⟨x,ws,rfl,hx,hws⟩:=hargs.cons_inv;obtain⟨y,us,he,hy,hus⟩:=hws.cons_inv
  obtain rfl:ws=y::us:=by simpa using he
  obtain rfl:=hus.nil_inv;obtain⟨sb,rfl,rfl⟩:=hy.str_inv
  cases hx with
  |ptr _ _ b hb=>
  obtain⟨hFb,p,v,hh,hp,hown,hne,hrow,hnone⟩:=qqe i hb hok X.neB5;have hlm:((hof o).map λn=>Value.int .u8 n).length=(hof o).length:=bo _
  have hsz:sb.size=sb.data.toList.length:=by rw[cm];rfl
  refine(qr0 L X b p v ((hof o).map λn=>Value.int .u8 n) sb w hp hh (by rw[hlm];exact hown) hne (by rw[hlm];omega)).mono ?_;rintro e w' ⟨rfl,v',W⟩;obtain⟨hh',hown',but,place,hne'⟩:=W
  have eb:((hof o).map λn=>Value.int .u8 n)++Lib.strCells sb=(hof o++sb.data.toList.map λx=>(x.toNat:Int)).map λn=>Value.int .u8 n:=by rw[dL,qkl]
  rw[eb]at hown'
  have ln:(hof o++sb.data.toList.map λx=>(x.toNat:Int)).length=(hof o).length+sb.size:=by rw[Yq,bo,hsz]
  generalize (hof o++sb.data.toList.map λx=>(x.toNat:Int))=l at*;rw[bo]at hown'
  obtain⟨g',cap',cur',rfl,hhg',hnc',hcm',hcs',htake'⟩: ∃g' cap' cur',v'= .slice (some ⟨g',0,none⟩) l.length cap'/\w'.heap[g']? =some (.cells cur' (ρ.t 5) (0,0))/\l.length<=cap'/\cap'<=maxLen/\cur'.size=cap'*1/\cur'.toList.take (l.length*1)=l.map λn=>Value.int .u8 n:=by
   rcases hown'.2 with⟨_,h0⟩|⟨g,cap,cur,hv,_,h1,h2,h3,h4,h5⟩
   ·omega
   exact⟨g,cap,cur,hv,h1,h2,h3,h4,h5⟩
  have hgb:g'≠b:=λe=>hne' (by rw[e];rfl)
  have hg':(nu 1=some g'/\ ¬F g'/\v.ownBlock=some g')\/w.heap.size<=g':=by
   rcases place with h|⟨g,h1,h2⟩
   ·have h:v.ownBlock=some g':=h.symm;obtain⟨h1,h2,_⟩:=hrow g' h;exact .inl ⟨h1,h2,h⟩
   have h1:some g'=some g:=h1;injection h1 with h1;subst h1;exact .inr h2
  have frame: ∀rb,rb<w.heap.size->rb≠b->nu 1≠some rb\/v.ownBlock≠some rb->w'.heap[rb]? =w.heap[rb]? :=by
   intro rb hlt h1 h2;refine but.block rb hlt (λe=>h1 (Ye e)) (λe=>?_);rcases h2 with h2|h2
   ·exact h2 (hrow rb e.symm).1
   exact h2 e.symm
  have hFk: ∀rb,F rb->w'.heap[rb]? =w.heap[rb]? :=λrb hF=>frame rb (i.ltF rb hF) (λe=>hFb (e▸hF)) (.inr λe=>(hrow rb e).2.1 hF)
  have hlt':g'<w'.heap.size:=by
   rcases ak g' w'.heap.size with h1|h1
   ·exact h1
   rw[Array.getElem?_eq_none h1]at hhg';cases hhg'
  have hnFg: ¬F g':=by
   rcases hg' with h|h
   ·exact h.2.1
   intro hF;have:=i.ltF g' hF;omega
  have n0:upd nu 2 g' 0=some b:=hb;have n2:upd nu 2 g' 2=some g':=upd_same _ _
  have hsh:w'.shape? g'=some (ρ.t 5,cap'):=by
   simp only[World.shape?,hhg'];congr 2;omega
  have hinv:Inv F (upd nu 2 g') [.bld (ρ.t 72) (ρ.t 5) [pz true 0 0,hsl 2 1 (some l)],.dead,.cells (l.flatMap (qbk .u8).c)] w':=by
   refine⟨λk rb x hk hx=>?_,λk k' rb rb' x x' r hk hk' hx hx' ho ho' hr hr'=>?_,λk hk=>?_,λrb hF=>bW (i.ltF rb hF) but.size,λk rb hk=>?_,Glob.mono i.glob (λ_ h=>h) hFk⟩
   ·match k,hx with
    |0,hx=>
     obtain rfl:=Ye hx;rw[n0]at hk;obtain rfl:=Ye hk;refine⟨hFb,_,hh',rfl,λq a v hq hv=>?_,λq g n cap hv=>?_⟩
     ·match q,hq,hv with
      |0,hq,hv=>
       obtain rfl:=Ye hq;obtain rfl:=Ye hv;exact .ptr 0 0 b n0
      |1,hq,hv=>
       obtain rfl:=Ye hq;obtain rfl:=Ye hv;exact .oslice 2 l.length 1 g' cap' (ρ.t 5) cap' n2 hnc' hsh (by omega) (by unfold maxLen at hcm';exact hcm')
      |q+2,hq,hv=>simp at hq
     match q,hv with
     |0,hv=>cases hv
     |1,hv=>
      have hv:Value.slice (some ⟨g',0,none⟩) l.length cap'= .slice (some ⟨g,0,none⟩) n cap:=Ye hv;injection hv with h1 h2 h3;injection h1 with h1;injection h1 with h1;rw[<-h1,<-h3];exact hsh
     |q+2,hv=>simp at hv
    |1,hx=>obtain rfl:=Ye hx;trivial
    |2,hx=>
     obtain rfl:=Ye hx;rw[n2]at hk;obtain rfl:=Ye hk;refine⟨hnFg,cur',ρ.t 5,hhg',by rw[qmO,bo];omega,λq a v hq hv=>?_⟩;rw[qmO,YA]at hq;obtain⟨n,hn,rfl⟩:=Yd.1 hq;have hql:=(Yb.1 hn).1
     have h1:(cur'.toList.take (l.length*1))[q]? =some (.int .u8 n):=by rw[htake',YA,hn];rfl
     rw[Yt,ae (by omega),YT,hv]at h1;obtain rfl:=Ye h1;exact .int _ _
    |k+3,hx=>simp at hx
   ·have c0: ∀{k x},([.bld (ρ.t 72) (ρ.t 5) [pz true 0 0,hsl 2 1 (some l)],.dead,.cells (l.flatMap (qbk .u8).c)]:Heap)[k]? =some x->x.owned=true->k=0\/k=2:=by
     intro k x hx ho
     match k,hx with
     |0,_=>exact .inl rfl
     |1,hx=>obtain rfl:=Ye hx;cases ho
     |2,_=>exact .inr rfl
     |k+3,hx=>simp at hx
    have c1: ∀{k:Nat} {x:Blk},([.bld (ρ.t 72) (ρ.t 5) [pz true 0 0,hsl 2 1 (some l)],.dead,.cells (l.flatMap (qbk .u8).c)]:Heap)[k]? =some x-> ∀es,x≠Blk.bag es:=by
     intro k x hx es e
     match k,hx with
     |0,hx=>rw[<-Ye hx]at e;cases e
     |1,hx=>rw[<-Ye hx]at e;cases e
     |2,hx=>rw[<-Ye hx]at e;cases e
     |k+3,hx=>simp at hx
    have e1:=Ft.one (c1 hx) hr;have e2:=Ft.one (c1 hx') hr';subst e1;subst e2;rcases c0 hx ho with rfl|rfl<;>rcases c0 hx' ho' with rfl|rfl
    ·rfl
    ·rw[n0]at hk;rw[n2]at hk';injection hk with e1;injection hk' with e2;exact absurd (e2.trans e1.symm) hgb
    ·rw[n2]at hk;rw[n0]at hk';injection hk with e1;injection hk' with e2;exact absurd (e1.trans e2.symm) hgb
    rfl
   ·have hk:3<=k:=hk;show(if k=2 then some g' else nu k)=none;rw[aa (by omega)];exact i.fresh k (by show 2<=k;omega)
   by_cases e:k=2
   ·subst e;rw[n2]at hk;obtain rfl:=Ye hk;exact hlt'
   have hk:(if k=2 then some g' else nu k)=some rb:=hk;rw[aa e]at hk;exact bW (i.ltN k rb hk) but.size
  refine⟨_,F,upd nu 2 g',rfl,⟨λ_ h=>h,qdv i g',but.shape,hinv,λrb hlt hno=>?_,λrb hlt ho=>?_,but.size,but.os,but.tape,but.output,λk hk=>?_,by show 2<=3;omega,λ_ h=> .inl h⟩,?_⟩
  ·refine frame rb hlt (λe=>hno (.of (e▸hb) rfl rfl)) ?_;by_cases e:nu 1=some rb
   ·exact absurd (.of e rfl rfl) hno
   exact .inl e
  ·obtain⟨k,x,rq,hk,hx,ho,hf⟩:=ho
   match k,hx with
   |0,hx=>
    rw[n0]at hk;rw[<-Ye hx]at hf;have e1:=Ft.one (by intro es e;cases e) hf;subst e1;exact .of (b:=0) (by rw[<-hk];exact hb) rfl rfl
   |1,hx=>obtain rfl:=Ye hx;cases ho
   |2,hx=>
    rw[n2]at hk;rw[<-Ye hx]at hf;have e1:=Ft.one (by intro es e;cases e) hf;subst e1;obtain rfl:=Ye hk;rcases hg' with h|h
    ·exact .of (b:=1) h.1 rfl rfl
    omega
   |k+3,hx=>simp at hx
  ·have hk:k<2:=hk;show(if k=2 then some g' else nu k)=nu k;rw[aa (by omega)]
  refine .tuple _ _ rfl λq a v hq hv=>?_
  match q,hq,hv with
  |0,hq,hv=>
   obtain rfl:=Ye hq;obtain rfl:=Ye hv;rw[hsz];exact .int _ _
  |1,hq,hv=>
   obtain rfl:=Ye hq;obtain rfl:=Ye hv;exact .niliface
  |q+2,hq,hv=>simp at hq
 cases h
theorem qp6 (L:Lays.n169 P ρ) (X:Builder.Extra P ρ) (hE:Av.Enters P (ρ.f 169)) (ok:Bool) (o:Option (List Int)) {t:Str} (h:qnX ok o=some t):
 qf P (.fn (ρ.f 169)) [.ptr 0 0] [.bld (ρ.t 72) (ρ.t 5) [pz ok 0 0,hsl 1 1 o],.cells ((hof o).flatMap (qbk .u8).c)] (.str t) [.dead,.dead]:=by
 unfold qnX at h;split at h
 ·rename_i hc;obtain⟨hk,⟨hpos,hlen⟩,hall⟩:=hc
  have hok:ok=o.isSome:=by
   cases o with
   |none=>simp at hpos
   |some l=>exact hk
  obtain rfl:=Ye h;intro F nu w vs i hargs;refine .inl ⟨hE,?_⟩;obtain⟨x,ws,rfl,hx,hws⟩:=hargs.cons_inv;obtain rfl:=hws.nil_inv
  cases hx with
  |ptr _ _ b hb=>
  obtain⟨hFb,p,v,hh,hp,hown,hne,hrow,hnone⟩:=qqe i hb hok X.neB5
  cases hv:v.ownBlock with
  |none=>
   have:=hnone hv;subst this;simp at hpos
  |some g=>
  obtain⟨hn1,hFg,cap,cur,rfl,hhg,hnc,hcm,hcs⟩:=hrow g hv
  have hbc:Lib.byteCells ((hof o).map λn=>UInt8.ofNat n.toNat)=(hof o).map λn=>Value.int .u8 n:=by
   unfold Lib.byteCells;rw[List.map_map]
   refine List.map_congr_left λn hn=>?_
   have h1:=Yp.1 hall n hn;simp only[aI,aH]at h1;show Value.int .u8 ((UInt8.ofNat n.toNat).toNat:Int)=_;rw[dV];congr 1;omega
  have hlm:((hof o).map λn=>UInt8.ofNat n.toNat).length=(hof o).length:=bo _
  have htake:cur.toList.take ((hof o).length*1)=(hof o).map λn=>Value.int .u8 n:=by
   rcases hown.2 with⟨hv2,_⟩|⟨g2,cap2,cur2,hv2,_,h1,_,_,_,h5⟩
   ·cases hv2
   injection hv2 with e1 e2 e3;injection e1 with e1;injection e1 with e1;subst e1;rw[hhg]at h1;injection h1 with h1;injection h1 with h1;rw[h1];exact h5
  refine(qqH L X b g cap p ((hof o).map λn=>UInt8.ofNat n.toNat) cur w (by rw[hlm];exact hh) hhg (by rw[hlm];exact hnc) hcm hcs (by rw[hlm,hbc];exact htake) (λe=>by rw[e]at hlm;simp at hlm;omega)).mono ?_;rintro e w' ⟨rfl,but⟩
  have frame: ∀rb,rb<w.heap.size->rb≠b->rb≠g->w'.heap[rb]? =w.heap[rb]? :=λrb hlt h1 h2=>but.block rb hlt (λe=>h1 (Ye e)) (λe=>h2 (Ye e))
  have hdead: ∀{k:Nat} {x:Blk},([.dead,.dead]:Heap)[k]? =some x->x= .dead:=by
   intro k x hx
   match k,hx with
   |0,hx=>exact(Ye hx).symm
   |1,hx=>exact(Ye hx).symm
   |k+2,hx=>simp at hx
  refine⟨_,F,nu,rfl,⟨λ_ h=>h,λ_ _ h=>h,but.shape,⟨λk rb x hk hx=>?_,λk k' rb rb' x x' r hk hk' hx hx' ho ho' hr hr'=>?_,λk hk=>i.fresh k hk,λrb hF=>bW (i.ltF rb hF) but.size,λk rb hk=>bW (i.ltN k rb hk) but.size,Glob.mono i.glob (λ_ h=>h) λrb hF=>frame rb (i.ltF rb hF) (λe=>hFb (e▸hF)) (λe=>hFg (e▸hF))⟩,λrb hlt hno=>frame rb hlt (λe=>hno (.of (e▸hb) rfl rfl)) (λe=>hno (.of (e▸hn1) rfl rfl)),λrb hlt ho=>?_,but.size,but.os,but.tape,but.output,λ_ _=>rfl,ag _,λ_ h=> .inl h⟩,.str _ _ rfl⟩
  ·rw[hdead hx];trivial
  ·rw[hdead hx]at ho;cases ho
  obtain⟨k,x,rq,hk,hx,ho,hf⟩:=ho;rw[hdead hx]at ho;cases ho
 cases h
end
end Go.Av
end
