/-
  A map of the program's own, told by a list of keys and what they have.
-/
import Derived.Test.YtjflombnfhlkaaaGreatDoorAvPk
noncomputable section
namespace Go.Av
set_option linter.unusedSectionVars false
variable {α κ:Type} [BEq κ] {P:Program}
def qby (m:List (κ×α)) (k:κ):Option α:=(m.find? fun p=>k==p.1).map (·.2)
def qeu:List (κ×α)→κ→α→List (κ×α)
 |[],k,v=>[(k,v)]
 |p::m,k,v=>if(k==p.1)=true then(p.1,v)::m else p::qeu m k v
abbrev mpB (K:κ→AV) (f:α→AV) (m:List (κ×α)):Blk:= .map (m.map fun p=>K p.1) (m.map fun p=>f p.2)
structure qlX (K:κ→AV) (d:TypeDesc):Prop where
 eq: ∀a b,qhI (K a) (K b)=some (a==b)
 plain: ∀a,plainKey d (K a)=true
theorem keyS:qlX (κ:=Str) AV.str .string:=⟨fun _ _=>rfl,fun _=>rfl⟩
structure MpT (P:Program) (t kt et:TypeId) (d:TypeDesc) (z:AV):Prop where
 und:P.underlying t=some (.map kt et)
 key:P.underlying kt=some d
 zero:((P.info? et).bind (·.zero)).map (qaV 3)=some z
theorem qdM {K:κ→AV} {d:TypeDesc} (hK:qlX K d) (k:κ): ∀(m:List (κ×α)) (i:Nat),qcX (K k) (m.map fun p=>K p.1) i=some ((m.findIdx? fun p=>k==p.1).map (· +i))
 |[],_=>rfl
 |p::m,i=>by
  simp only[List.map_cons,qcX,hK.eq,List.findIdx?_cons]
  cases h:k==p.1 with
  |true=>simp
  |false=>
   simp only[Bool.false_eq_true,if_false]
   rw[qdM hK k m (i+1)]
   cases m.findIdx? fun p=>k==p.1 with
   |none=>rfl
   |some j=>simp only[Option.map_some];rw[show j+(i+1)=j+1+i by omega]
theorem qmd {m:List (κ×α)} {k:κ} {v:α} (h:qby m k=some v): ∃j p,(m.findIdx? fun p=>k==p.1)=some j∧m[j]? =some p∧p.2=v:=by
 unfold qby at h
 obtain⟨p,hp,rfl⟩:=Option.map_eq_some_iff.1 h
 obtain⟨j,hj⟩:=List.find?_eq_some_iff_getElem.1 hp|>.2
 obtain⟨hlt,he,hn⟩:=hj
 refine⟨j,p,?_,by rw[List.getElem?_eq_getElem hlt,he],rfl⟩
 rw[List.findIdx?_eq_some_iff_getElem]
 exact⟨hlt,by rw[he];exact(List.find?_eq_some_iff_getElem.1 hp).1,fun i hi=>by simpa using hn i hi⟩
theorem qlF {m:List (κ×α)} {k:κ} (h:qby m k=none):(m.findIdx? fun p=>k==p.1)=none:=by
 unfold qby at h
 rw[Option.map_eq_none_iff,List.find?_eq_none]at h
 rw[List.findIdx?_eq_none_iff]
 exact fun x hx=>by simpa using h x hx
theorem qjE: ∀{m:List (κ×α)} {k:κ} {v:α},(match m.findIdx? fun p=>k==p.1 with
 |some j=>(qeu m k v).map (·.1)=m.map (·.1)∧(qeu m k v).map (·.2)=(m.map (·.2)).set j v
 |none=>qeu m k v=m++[(k,v)])
 |[],_,_=>rfl
 |p::m,k,v=>by
  rw[List.findIdx?_cons]
  unfold qeu
  cases h:k==p.1 with
  |true=>simp
  |false=>
   have ih:=qjE (m:=m) (k:=k) (v:=v)
   cases hf:m.findIdx? fun p=>k==p.1 with
   |none=>rw[hf]at ih;simp only[Bool.false_eq_true,if_false,Option.map_none];simpa using ih
   |some j=>rw[hf]at ih;simp only[Bool.false_eq_true,if_false,Option.map_some];simpa using ih
def mpos (m:List (κ×α)) (k:κ):Nat:=(m.findIdx? fun p=>k==p.1).getD m.length
theorem mpN [Glob] {β:Type} {g:β→AV} (h: ∀p,qx (g p)) {m:List β}:qbk (m.map g):=by
 induction m with
 |nil=>exact qbk.nil
 |cons x xs ih=>exact qbk.cons (h x) ih
theorem qox [Glob] {t kt et:TypeId} {d:TypeDesc} {z:AV} (T:MpT P t kt et d z) {K:κ→AV} (hK:qlX K d) (f:α→AV) {A:Heap} {o:Nat} {m:List (κ×α)} (hb:A[o]? =some (mpB K f m)) {k:κ} {v:α} (h:qby m k=some v) (ok:Bool):
 (Obl.run [o] (zx P t (.map o) (K k) ok) A (if ok then .tuple [f v,.bool true]else f v) A false).Holds P:=by
 obtain⟨zv,h1,h2⟩:=Option.map_eq_some_iff.1 T.zero
 obtain⟨j,p,e1,e2,e3⟩:=qmd h
 refine⟨[(o,false)],?_,rfl⟩
 simp only[zx,T.und,T.key,h1,hK.plain,if_true,entriesOf]
 rw[xK (by simp) hb]
 simp only[qdM hK,e1,Option.map_some,Nat.add_zero,List.getElem?_map,e2,e3]
 rfl
theorem qnc [Glob] {t kt et:TypeId} {d:TypeDesc} {z:AV} (T:MpT P t kt et d z) {K:κ→AV} (hK:qlX K d) (f:α→AV) {A:Heap} {o:Nat} {m:List (κ×α)} (hb:A[o]? =some (mpB K f m)) {k:κ} (h:qby m k=none) (ok:Bool):
 (Obl.run [o] (zx P t (.map o) (K k) ok) A (if ok then .tuple [z,.bool false]else z) A false).Holds P:=by
 obtain⟨zv,h1,h2⟩:=Option.map_eq_some_iff.1 T.zero
 refine⟨[(o,false)],?_,rfl⟩
 simp only[zx,T.und,T.key,h1,hK.plain,if_true,entriesOf]
 rw[xK (by simp) hb]
 simp only[qdM hK,qlF h,Option.map_none,h2]
 rfl
theorem qnr [Glob] {t kt et:TypeId} {d:TypeDesc} {z:α} {f:α→AV} (T:MpT P t kt et d (f z)) {K:κ→AV} (hK:qlX K d) {A:Heap} {o:Nat} {m:List (κ×α)} (hb:A[o]? =some (mpB K f m)) (k:κ):
 (Obl.run [o] (zx P t (.map o) (K k) false) A (f ((qby m k).getD z)) A false).Holds P:=by
 cases h:qby m k with
 |none=>exact qnc T hK f hb h false
 |some v=>exact qox T hK f hb h false
theorem upm [Glob] {t kt et:TypeId} {d:TypeDesc} {z:AV} (T:MpT P t kt et d z) {K:κ→AV} (hK:qlX K d) (f:α→AV) {A A':Heap} {o:Nat} {m:List (κ×α)} (hb:A[o]? =some (mpB K f m)) (k:κ) (v:α) {r:List (κ×α)} (hr:some (qeu m k v)=some r) (hA:A'=A.set o (mpB K f r)):
 (Obl.run [o] (qas P t (.map o) (K k) (f v)) A .undef A' true).Holds P:=by
 obtain rfl:=si hr
 subst hA
 have hm:=qjE (m:=m) (k:=k) (v:=v)
 refine⟨[(o,true),(o,false)],?_,rfl⟩
 simp only[qas,T.und,T.key,hK.plain,if_true]
 rw[xK (by simp) hb]
 simp only[qdM hK]
 cases hf:m.findIdx? fun p=>k==p.1 with
 |none=>
  rw[hf]at hm
  simp only[Option.map_none]
  rw[qcJ (by simp) (qcv hb)]
  have hm:qeu m k v=m++[(k,v)]:=hm
  rw[hm]
  simp only[mpB,List.map_append,List.map_cons,List.map_nil]
  rfl
 |some j=>
  rw[hf]at hm
  obtain⟨h1,h2⟩:(qeu m k v).map (·.1)=m.map (·.1)∧(qeu m k v).map (·.2)=(m.map (·.2)).set j v:=hm
  simp only[Option.map_some,Nat.add_zero]
  rw[qcJ (by simp) (qcv hb)]
  have e1:((qeu m k v).map fun p=>K p.1)=m.map fun p=>K p.1:=by
   have:=congrArg (List.map K) h1
   simpa[List.map_map,Function.comp_def]using this
  have e2:((qeu m k v).map fun p=>f p.2)=(m.map fun p=>f p.2).set j (f v):=by
   have:=congrArg (List.map f) h2
   simpa[List.map_map,Function.comp_def,List.map_set]using this
  simp only[mpB,e1,e2]
  rfl
abbrev fI:Int→AV:=fun v=>AV.int .i64 v
abbrev fO:Bool→AV:=fun v=>AV.bool v
abbrev fL [Glob]:List Int→AV:=fun v=>vl encI v
abbrev mI (m:List (Str×Int)):Blk:=mpB AV.str fI m
abbrev mO (m:List (Str×Bool)):Blk:=mpB AV.str fO m
abbrev mL [Glob] (m:List (Str×List Int)):Blk:=mpB AV.str fL m
end Go.Av
