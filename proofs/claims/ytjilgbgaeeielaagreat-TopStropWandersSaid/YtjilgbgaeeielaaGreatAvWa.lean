/-
  Short words for what the generator prints.
-/
import Derived.Test.YtjilgbgaeeielaaGreatAvOpt
import Derived.Test.YtjilgbgaeeielaaGreatAvHeap
set_option linter.unusedSectionVars false
section
namespace Go.Av
variable [Glob] {α:Type} {P:Program} {A:Heap}
def Obl.orc:Obl->Orc
 | .triv=> .no
 | .done _ v=> .done v
 | .run _ _ _ v A' wr=> .run v A' wr
 | .call _ _ _ S args' v=> .call S args' v
 | .callF _ _ _ S args' v=> .callF S args' v
 | .callH _ _ _ S v A'=> .callH S v A'
theorem Goes.rp [Base] (hm:P.follows .mixedOrders=true) {id m:Nat} {ops:Array Oper} {draw:Bool} {l0:List (Nat×AV)} {Q:XA->St->Prop} (ks:List Nat) (l:List (Nat×AV)) (A':Heap) (obls:List Obl) (ho:qaJ P obls) (hq:Q .normal (ofG m l,A'))
 (h:qcu P ops draw (ks.zip (obls.map Obl.orc)) (l.map (·.1)) (ofG m l0,A)=some (ofG m l,A',obls):=by kernel_rfl):Goes P (.region id ops draw) (ofG m l0,A) Q:=Goes.reg hm _ _ h ho hq
theorem qG.rp [Base] (hm:P.follows .mixedOrders=true) {id m:Nat} {ops:Array Oper} {draw:Bool} {l0:List (Nat×AV)} (ks:List Nat) (l:List (Nat×AV)) (A':Heap) (obls:List Obl) (ho:qaJ P obls)
 (h:qcu P ops draw (ks.zip (obls.map Obl.orc)) (l.map (·.1)) (ofG m l0,A)=some (ofG m l,A',obls):=by kernel_rfl):qG P id ops draw (ofG m l0,A) (ofG m l,A'):=qG.reg hm _ _ h ho
theorem an {a b:Prop} (x:a) (y:b):a/\b:=⟨x,y⟩
theorem nb {b:Bool} (h:b=false): ¬b=true:=by rw[h];exact Bool.false_ne_true
theorem si {a b:α} (h:some a=some b):a=b:=Ye h
theorem nl {a b:Nat} (h:Nat.ble a b=true):a<=b:=Ys h
theorem nI {k:IntKind} {n:Int}:qy (.int k n):=qy.int _ _
theorem nS {s:List UInt8}:qy (.str s):=qy.str _
theorem nB {b:Bool}:qy (.bool b):=qy.bool _
theorem tI {d:Nat} {k:IntKind} {n:Int}:Still (d+1) (.int k n):=Still.int _ _ _
theorem tS {d:Nat} {s:List UInt8}:Still (d+1) (.str s):=Still.str _ _
theorem tB {d:Nat} {b:Bool}:Still (d+1) (.bool b):=Still.bool _ _
abbrev bZ:Blk:= .cells [.i 0,.nilslice]
end Go.Av
end
section
namespace Go.Av
variable {α κ:Type} [BEq κ] {P:Program}
def qbC (m:List (κ×α)) (k:κ):Option α:=(m.find? fun p=>k==p.1).map (·.2)
def qdE:List (κ×α)->κ->α->List (κ×α)
 |[],k,v=>[(k,v)]
 |p::m,k,v=>if(k==p.1)=true then(p.1,v)::m else p::qdE m k v
abbrev mpB (K:κ->AV) (f:α->AV) (m:List (κ×α)):Blk:= .map (m.map fun p=>K p.1) (m.map fun p=>f p.2)
structure qkd (K:κ->AV) (d:TypeDesc):Prop where
 eq: ∀a b,qe6 (K a) (K b)=some (a==b)
 plain: ∀a,plainKey d (K a)=true
theorem keyI {k:IntKind}:qkd (κ:=Int) (AV.int k) (.int k):=⟨fun a b=>by simp[qe6],fun _=>rfl⟩
structure MpT (P:Program) (t kt et:TypeId) (d:TypeDesc) (z:AV):Prop where
 und:P.underlying t=some (.map kt et)
 key:P.underlying kt=some d
 zero:((P.info? et).bind (·.zero)).map (qao 3)=some z
theorem qcY {K:κ->AV} {d:TypeDesc} (hK:qkd K d) (k:κ): ∀(m:List (κ×α)) (i:Nat),qb5 (K k) (m.map fun p=>K p.1) i=some ((m.findIdx? fun p=>k==p.1).map (· +i))
 |[],_=>rfl
 |p::m,i=>by
  simp only[List.map_cons,qb5,hK.eq,List.findIdx?_cons]
  cases h:k==p.1 with
  |true=>simp
  |false=>
   simp only[ZF,if_false]
   rw[qcY hK k m (i+1)]
   cases m.findIdx? fun p=>k==p.1 with
   |none=>rfl
   |some j=>simp only[ZM];rw[show j+(i+1)=j+1+i by omega]
theorem qkR {m:List (κ×α)} {k:κ} {v:α} (h:qbC m k=some v): ∃j p,(m.findIdx? fun p=>k==p.1)=some j/\m[j]? =some p/\p.2=v:=by
 unfold qbC at h
 obtain⟨p,hp,rfl⟩:=Yd.1 h
 obtain⟨j,hj⟩:=List.find?_eq_some_iff_getElem.1 hp|>.2
 obtain⟨hlt,he,hn⟩:=hj
 refine⟨j,p,?_,by rw[Ya hlt,he],rfl⟩
 rw[List.findIdx?_eq_some_iff_getElem]
 exact⟨hlt,by rw[he];exact(List.find?_eq_some_iff_getElem.1 hp).1,fun i hi=>by simpa using hn i hi⟩
theorem qj8 {m:List (κ×α)} {k:κ} (h:qbC m k=none):(m.findIdx? fun p=>k==p.1)=none:=by
 unfold qbC at h
 rw[Option.map_eq_none_iff,List.find?_eq_none]at h
 rw[List.findIdx?_eq_none_iff]
 exact fun x hx=>by simpa using h x hx
theorem qhF: ∀{m:List (κ×α)} {k:κ} {v:α},(match m.findIdx? fun p=>k==p.1 with
 |some j=>(qdE m k v).map (·.1)=m.map (·.1)/\(qdE m k v).map (·.2)=(m.map (·.2)).set j v
 |none=>qdE m k v=m++[(k,v)])
 |[],_,_=>rfl
 |p::m,k,v=>by
  rw[List.findIdx?_cons]
  unfold qdE
  cases h:k==p.1 with
  |true=>simp
  |false=>
   have ih:=qhF (m:=m) (k:=k) (v:=v)
   cases hf:m.findIdx? fun p=>k==p.1 with
   |none=>rw[hf]at ih;simp only[ZF,if_false,Option.map_none];simpa using ih
   |some j=>rw[hf]at ih;simp only[ZF,if_false,ZM];simpa using ih
theorem isS {β:Type} {o:Option (List β)} (h:o.isSome=true):o=some (o.getD []):=by cases o with|none=>cases h|some x=>rfl
theorem qmC [Glob] {t kt et:TypeId} {d:TypeDesc} {z:AV} (T:MpT P t kt et d z) {K:κ->AV} (hK:qkd K d) (f:α->AV) {A:Heap} {o:Nat} {m:List (κ×α)} (hb:A[o]? =some (mpB K f m)) {k:κ} {v:α} (h:qbC m k=some v) (ok:Bool):
 (Obl.run [o] (vG P t (.map o) (K k) ok) A (if ok then .tuple [f v,.bool true]else f v) A false).Holds P:=by
 obtain⟨zv,h1,h2⟩:=Yd.1 T.zero
 obtain⟨j,p,e1,e2,e3⟩:=qkR h
 refine⟨[(o,false)],?_,rfl⟩
 simp only[vG,T.und,T.key,h1,hK.plain,if_true,entriesOf]
 rw[qbf (by simp) hb]
 simp only[qcY hK,e1,ZM,Nat.add_zero,YA,e2,e3]
 rfl
theorem qkT [Glob] {t kt et:TypeId} {d:TypeDesc} {z:AV} (T:MpT P t kt et d z) {K:κ->AV} (hK:qkd K d) (f:α->AV) {A:Heap} {o:Nat} {m:List (κ×α)} (hb:A[o]? =some (mpB K f m)) {k:κ} (h:qbC m k=none) (ok:Bool):
 (Obl.run [o] (vG P t (.map o) (K k) ok) A (if ok then .tuple [z,.bool false]else z) A false).Holds P:=by
 obtain⟨zv,h1,h2⟩:=Yd.1 T.zero
 refine⟨[(o,false)],?_,rfl⟩
 simp only[vG,T.und,T.key,h1,hK.plain,if_true,entriesOf]
 rw[qbf (by simp) hb]
 simp only[qcY hK,qj8 h,Option.map_none,h2]
 rfl
theorem qlv [Glob] {t kt et:TypeId} {d:TypeDesc} {z:α} {f:α->AV} (T:MpT P t kt et d (f z)) {K:κ->AV} (hK:qkd K d) {A:Heap} {o:Nat} {m:List (κ×α)} (hb:A[o]? =some (mpB K f m)) (k:κ):
 (Obl.run [o] (vG P t (.map o) (K k) false) A (f ((qbC m k).getD z)) A false).Holds P:=by
 cases h:qbC m k with
 |none=>exact qkT T hK f hb h false
 |some v=>exact qmC T hK f hb h false
theorem upm [Glob] {t kt et:TypeId} {d:TypeDesc} {z:AV} (T:MpT P t kt et d z) {K:κ->AV} (hK:qkd K d) (f:α->AV) {A A':Heap} {o:Nat} {m:List (κ×α)} (hb:A[o]? =some (mpB K f m)) (k:κ) (v:α) {r:List (κ×α)} (hr:some (qdE m k v)=some r) (hA:A'=A.set o (mpB K f r)):
 (Obl.run [o] (xO P t (.map o) (K k) (f v)) A .undef A' true).Holds P:=by
 obtain rfl:=si hr
 subst hA
 have hm:=qhF (m:=m) (k:=k) (v:=v)
 refine⟨[(o,true),(o,false)],?_,rfl⟩
 simp only[xO,T.und,T.key,hK.plain,if_true]
 rw[qbf (by simp) hb]
 simp only[qcY hK]
 cases hf:m.findIdx? fun p=>k==p.1 with
 |none=>
  rw[hf]at hm
  simp only[Option.map_none]
  rw[qdC (by simp) (qdv hb)]
  have hm:qdE m k v=m++[(k,v)]:=hm
  rw[hm]
  simp only[mpB,List.map_append,List.map_cons,List.map_nil]
  rfl
 |some j=>
  rw[hf]at hm
  obtain⟨h1,h2⟩:(qdE m k v).map (·.1)=m.map (·.1)/\(qdE m k v).map (·.2)=(m.map (·.2)).set j v:=hm
  simp only[ZM,Nat.add_zero]
  rw[qdC (by simp) (qdv hb)]
  have e1:((qdE m k v).map fun p=>K p.1)=m.map fun p=>K p.1:=by
   have:=congrArg (List.map K) h1
   simpa[List.map_map,Function.comp_def]using this
  have e2:((qdE m k v).map fun p=>f p.2)=(m.map fun p=>f p.2).set j (f v):=by
   have:=congrArg (List.map f) h2
   simpa[List.map_map,Function.comp_def,List.map_set]using this
  simp only[mpB,e1,e2]
  rfl
abbrev fO:Bool->AV:=fun v=>AV.bool v
end Go.Av
end
noncomputable section
namespace Go.Av
variable [Glob]
theorem Us [Base] {P:Program} {c:Code} {s:St} {Q:XA->St->Prop} (h:Goes P c s (fun x s'=> ∃t,Sub s' t/\Q x t)):Goes P c s Q:=fun F0 w0 n F nu a w st hf hd K hK=>
 h F0 w0 n F nu a w st hf hd K (fun x s' F' nu' a' w' q st2 hf2 hd2=>by
   obtain⟨t,hs,q⟩:=q
   obtain⟨F2,nu2,st3,hf3,hd3⟩:=hs F0 w0 F' nu' a' w' st2 hf2 hd2
   exact hK x t F2 nu2 a' w' q st3 hf3 hd3)
theorem qi5 {a b:Nat} {u:Unit} (h:(if a=b then some ()else none:Option Unit)=some u):a=b:=by
 split at h
 ·assumption
 cases h
end Go.Av
end
noncomputable section
namespace Go.Av
variable [Glob]
def qkE (_:IntKind) (a b:Int):Option Int:=if b=0 then none else some (a.tmod b)
theorem qm5 {P:Program} {t:TypeId} {ox oy:Operand} {k:IntKind} {a b q:Int} (h:qkE k a b=some q):(Obl.done (.opt (qfV P .rem t ox oy (.int k a) (.int k b))) (.int k q)).Holds P:=by
 unfold qkE at h
 split at h
 ·cases h
 rename_i hb
 obtain rfl:=Ye h
 show Pg.opt _=_
 simp[qfV,qc0,qfN,hb,Pg.opt]
end Go.Av
end
noncomputable section
namespace Go.Av
variable [Glob] {α:Type} {P:Program} {A:Heap}
class SC (d:Nat) (a:AV):Prop where
 h:Still d a
class SE {α:Type} (E:Enc α):Prop where
 h:E.dep+1<=7
class SX (d:Nat) (as:List AV):Prop where
 h: ∀a∈as,Still d a
instance {d:Nat}:SX d []:=⟨AllST.nil⟩
instance {d:Nat} {a:AV} {as:List AV} [h:SC d a] [k:SX d as]:SX d (a::as):=⟨AllST.cons h.h k.h⟩
instance {d:Nat} {k:IntKind} {n:Int}:SC (d+1) (.int k n):=⟨tI⟩
instance {d:Nat} {s:List UInt8}:SC (d+1) (.str s):=⟨tS⟩
instance {d:Nat} {b:Bool}:SC (d+1) (.bool b):=⟨tB⟩
instance {d:Nat}:SC (d+1) .nilslice:=⟨Still.nilslice _⟩
instance {d:Nat}:SC (d+1) .nilfunc:=⟨Still.nilfunc _⟩
instance {d:Nat}:SC (d+1) .nilptr:=⟨Still.nilptr _⟩
instance {d:Nat}:SC (d+1) .nilmap:=⟨Still.nilmap _⟩
instance {d:Nat}:SC (d+1) .niliface:=⟨fun _ _=>rfl⟩
instance {d:Nat} {cs:List AV} [h:SX d cs]:SC (d+1) (.agg cs):=⟨Still.agg h.h⟩
instance {d:Nat} {cs:List AV} [h:SX d cs]:SC (d+1) (.tuple cs):=⟨Still.tuple h.h⟩
instance {d:Nat} {cs:List AV} {o:Nat} [h:SX d cs]:SC (d+1) (.fptr cs o):=⟨Still.fptr h.h⟩
instance {d:Nat} {f:Fn} {fs cs:List AV} [h:SX d fs] [k:SX d cs]:SC (d+1) (.func f fs cs):=⟨Still.func h.h k.h⟩
instance {d:Nat} {fs cs:List AV} [h:SX d fs] [k:SX d cs]:SC (d+1) (.fmap fs cs):=⟨Still.fmap h.h k.h⟩
instance {d:Nat} {E:Enc α} {l:List α} [h:SE E]:SC (d+7) (vl E l):=⟨zq E l (Nat.le_trans h.h (Nat.le_add_left _ _))⟩
instance:SE encI:=⟨nl rfl⟩
instance:SE qiB:=⟨nl rfl⟩
instance:SE encS:=⟨nl rfl⟩
instance {k:IntKind}:SE (qmv k):=⟨nl rfl⟩
instance:SE (qc encI):=⟨nl rfl⟩
instance:SE (qc encS):=⟨nl rfl⟩
instance:SE (qc qiB):=⟨nl rfl⟩
theorem qjs: ∀(d:Nat) (a:AV) (A:Heap),frz A [] d a=frz [] [] d a
 |0,_,_=>rfl
 |d+1,a,A=>by
  have e:frz A [] d=frz [] [] d:=funext fun x=>qjs d x A
  unfold frz
  rw[e]
  cases a<;>simp
def Obl.st:Obl->Obl
 | .call g args A S args' v=>match S with
   |[]=> .call g args [] [] args' v
   |b::S=> .call g args A (b::S) args' v
 |o=>o
theorem Obl.st_holds: ∀{o:Obl},o.st.Holds P->o.Holds P
 | .triv,h=>h
 | .done _ _,h=>h
 | .run _ _ _ _ _ _,h=>h
 | .callF _ _ _ _ _ _,h=>h
 | .callH _ _ _ _ _ _,h=>h
 | .call _ _ _ (_::_) _ _,h=>h
 | .call g args A [] args' v,h=>by
   obtain⟨h1,h2⟩:=h
   refine⟨?_,h2⟩
   rw[show frz A [] 12=frz [] [] 12 from funext fun x=>qjs 12 x A]
   exact h1
theorem qaJ.st: ∀{os:List Obl},qaJ P (os.map Obl.st)->qaJ P os
 |[],_=>trivial
 |_::_,h=>⟨Obl.st_holds h.1,qaJ.st h.2⟩
theorem Goes.rq [Base] (hm:P.follows .mixedOrders=true) {id m:Nat} {ops:Array Oper} {draw:Bool} {l0:List (Nat×AV)} {Q:XA->St->Prop} (ks:List Nat) (l:List (Nat×AV)) (A':Heap) {obls:List Obl} (ho:qaJ P obls) (hq:Q .normal (ofG m l,A'))
 (h:(qcu P ops draw (ks.zip (obls.map Obl.orc)) (l.map (·.1)) (ofG m l0,A)).map (fun r=>(r.1,r.2.1,r.2.2.map Obl.st))=some (ofG m l,A',obls):=by kernel_rfl):Goes P (.region id ops draw) (ofG m l0,A) Q:=by
 obtain⟨r,h1,h2⟩:=Yd.1 h
 obtain⟨f,B,os⟩:=r
 simp only[ZP]at h2
 obtain⟨rfl,rfl,rfl⟩:=h2
 exact Goes.reg hm _ _ h1 (qaJ.st ho) hq
theorem qG.rq [Base] (hm:P.follows .mixedOrders=true) {id m:Nat} {ops:Array Oper} {draw:Bool} {l0:List (Nat×AV)} (ks:List Nat) (l:List (Nat×AV)) (A':Heap) {obls:List Obl} (ho:qaJ P obls)
 (h:(qcu P ops draw (ks.zip (obls.map Obl.orc)) (l.map (·.1)) (ofG m l0,A)).map (fun r=>(r.1,r.2.1,r.2.2.map Obl.st))=some (ofG m l,A',obls):=by kernel_rfl):qG P id ops draw (ofG m l0,A) (ofG m l,A'):=by
 obtain⟨r,h1,h2⟩:=Yd.1 h
 obtain⟨f,B,os⟩:=r
 simp only[ZP]at h2
 obtain⟨rfl,rfl,rfl⟩:=h2
 exact qG.reg hm _ _ h1 (qaJ.st ho)
theorem ac {o:Obl} {os:List Obl} (x:o.Holds P) (y:qaJ P os):qaJ P (o::os):=⟨x,y⟩
theorem az:qaJ P []:=trivial
theorem hs (o:Obl) (h:o.Holds P):o.Holds P:=h
theorem cv {g:FuncId} {args:List AV} {v:AV} [k:SX 12 args] [q:SC 12 v] (h:qf P (.fn g) args [] v []):(Obl.call g args [] [] args v).Holds P:=qlP k.h h q.h
theorem gw {b w:Bool} (h:b=w):(Obl.done (.done (.bool b)) (.bool w)).Holds P:=congrArg (fun x=>Pg.done (.bool x)) h
theorem iv {t e:TypeId} {k b:Nat} (T:SlT P t e k b) (E:Enc α) {l:List α} {i:Int} {x:α} (h:idx l i=some x) (hk:E.k=k:=by rfl):(Obl.done (.opt (qm P t (vl E l) (.i i))) (.fptr (l.flatMap E.c) (i.toNat*k))).Holds P:=ix_vl T hk h
theorem lv (off:Nat) {t:TypeId} (T:CeT P t) (E:Enc α) {l:List α} {i:Int} {x:α} (h:idx l i=some x) {c:AV} (hc:(E.c x)[off]? =some c) (ho:Nat.ble (off+1) E.k=true:=by rfl):(Obl.done (jK P t (.fptr (l.flatMap E.c) (i.toNat*E.k+off))) c).Holds P:=ld_vl T rfl h (nl ho) hc
theorem la {t:TypeId} {k:Nat} (T:AgT P t k) (E:Enc α) {l:List α} {i:Int} {x:α} (h:idx l i=some x) (hk:E.k=k:=by rfl):(Obl.done (jK P t (.fptr (l.flatMap E.c) (i.toNat*k))) (.agg (E.c x))).Holds P:=ld_ag T hk h
end Go.Av
end
noncomputable section
namespace Go.Av
variable [Glob] {P:Program} {A:Heap}
section
variable [Base] {id m:Nat} {ops:Array Oper} {draw:Bool} {l0:List (Nat×AV)} {Q:XA->St->Prop} {c2:Code}
theorem sg (hm:P.follows .mixedOrders=true) (l:List (Nat×AV)) (A':Heap) (hq:Goes P c2 (ofG m l,A') Q) (h:qcu P ops draw [] (l.map (·.1)) (ofG m l0,A)=some (ofG m l,A',[]):=by kernel_rfl):Goes P (.seq (.region id ops draw) c2) (ofG m l0,A) Q:=sq (Goes.rg hm l A' hq h)
theorem sh (hm:P.follows .mixedOrders=true) (l:List (Nat×AV)) (hq:Goes P c2 (ofG m l,A) Q) (h:qcu P ops draw [] (l.map (·.1)) (ofG m l0,A)=some (ofG m l,A,[]):=by kernel_rfl):Goes P (.seq (.region id ops draw) c2) (ofG m l0,A) Q:=sq (Goes.rg hm l A hq h)
theorem gh (hm:P.follows .mixedOrders=true) (l:List (Nat×AV)) (hq:Q .normal (ofG m l,A)) (h:qcu P ops draw [] (l.map (·.1)) (ofG m l0,A)=some (ofG m l,A,[]):=by kernel_rfl):Goes P (.region id ops draw) (ofG m l0,A) Q:=Goes.rg hm l A hq h
theorem gq (hm:P.follows .mixedOrders=true) (ks:List Nat) (l:List (Nat×AV)) (A':Heap) {obls:List Obl} (ho:qaJ P obls) (hq:Q .normal (ofG m l,A'))
 (h:(qcu P ops draw (ks.zip (obls.map Obl.orc)) (l.map (·.1)) (ofG m l0,A)).map (fun r=>(r.1,r.2.1,r.2.2.map Obl.st))=some (ofG m l,A',obls):=by kernel_rfl):Goes P (.region id ops draw) (ofG m l0,A) Q:=Goes.rq hm ks l A' ho hq h
theorem gr (hm:P.follows .mixedOrders=true) (ks:List Nat) (l:List (Nat×AV)) {obls:List Obl} (ho:qaJ P obls) (hq:Q .normal (ofG m l,A))
 (h:(qcu P ops draw (ks.zip (obls.map Obl.orc)) (l.map (·.1)) (ofG m l0,A)).map (fun r=>(r.1,r.2.1,r.2.2.map Obl.st))=some (ofG m l,A,obls):=by kernel_rfl):Goes P (.region id ops draw) (ofG m l0,A) Q:=Goes.rq hm ks l A ho hq h
theorem tr (hm:P.follows .mixedOrders=true) (ks:List Nat) (l:List (Nat×AV)) {obls:List Obl} (ho:qaJ P obls)
 (h:(qcu P ops draw (ks.zip (obls.map Obl.orc)) (l.map (·.1)) (ofG m l0,A)).map (fun r=>(r.1,r.2.1,r.2.2.map Obl.st))=some (ofG m l,A,obls):=by kernel_rfl):qG P id ops draw (ofG m l0,A) (ofG m l,A):=qG.rq hm ks l A ho h
end
section
variable [Base] {c1 c2:Code} {s:St} {Q:XA->St->Prop} {co:Operand} {α:Type} {x y r:α}
theorem ihB {b:Bool} (h:(if b=true then x else y)=r) (ht:b=true->x=r->Goes P c1 s Q) (hf:b=false->y=r->Goes P c2 s Q) (hv:zL s.1 co= .bool b:=by kernel_rfl):Goes P (.cond co c1 c2) s Q:=
 Goes.ifB hv (fun c=>ht c (by rw[if_pos c]at h;exact h)) (fun c=>hf c (by rw[if_neg (nb c)]at h;exact h))
theorem ihD {p:Prop} [Decidable p] (h:(if p then x else y)=r) (ht:decide p=true->x=r->Goes P c1 s Q) (hf:decide p=false->y=r->Goes P c2 s Q) (hv:zL s.1 co= .bool (decide p):=by kernel_rfl):Goes P (.cond co c1 c2) s Q:=
 Goes.ifB hv (fun c=>ht c (by rw[if_pos (of_decide_eq_true c)]at h;exact h)) (fun c=>hf c (by rw[if_neg (of_decide_eq_false c)]at h;exact h))
end
section
variable {α:Type} {x y r:α}
theorem wyB {b:Bool} (h:(if b=true then x else y)=r):b=true/\x=r\/b=false/\y=r:=by
 cases b
 ·rw[if_neg Bool.false_ne_true]at h;exact .inr ⟨rfl,h⟩
 rw[if_pos rfl]at h;exact .inl ⟨rfl,h⟩
theorem wyD {p:Prop} [Decidable p] (h:(if p then x else y)=r):decide p=true/\x=r\/decide p=false/\y=r:=by
 rcases Classical.em p with c|c
 ·rw[if_pos c]at h;exact .inl ⟨decide_eq_true c,h⟩
 rw[if_neg c]at h;exact .inr ⟨decide_eq_false c,h⟩
end
section
variable {S:List Nat} {m:List (Option Nat)}
theorem qaI.ks {α:Type} {E:Enc α} {x:List α} {b:Nat} {l:List (Option Nat)} {H:Heap} (h:qaI A S m l H) (hA:A[b]? =some (.cells (x.flatMap E.c)):=by rfl) (hS:S.contains b=false:=by rfl) (hl:l.contains (some b)=false:=by rfl):qaI A S m (some b::l) (.cells (x.flatMap E.c)::H):= .keep hA (.same fa) hS hl h
theorem qaI.kb {b:Nat} {x y:Blk} {l:List (Option Nat)} {H:Heap} (hA:A[b]? =some y) (hb:xL A S m x y) (h:qaI A S m l H) (hS:S.contains b=false:=by rfl) (hl:l.contains (some b)=false:=by rfl):qaI A S m (some b::l) (x::H):= .keep hA hb hS hl h
theorem qaF.kp {t i b off:Nat} {l l':List (Nat×AV)} (hl:qaF A S m l l') (h:m[i]? =some (some b):=by rfl):qaF A S m ((t,.ptr b off)::l) ((t,.ptr i off)::l'):= .keep (.ptr h) hl
theorem rc {c' c:AV} {cs' cs:List AV} (h:zV A S m c' c) (hs:qaS A S m cs' cs):qaS A S m (c'::cs') (c::cs):=qaS.cons h hs
theorem rn:qaS A S m [] []:=qaS.nil
end
class NR (a:AV):Prop where
 h:qy a
class SN (as:List AV):Prop where
 h:qa2 as
instance:SN []:=⟨qa2.nil⟩
instance {a:AV} {as:List AV} [h:NR a] [k:SN as]:SN (a::as):=⟨qa2.cons h.h k.h⟩
instance {k:IntKind} {n:Int}:NR (.int k n):=⟨nI⟩
instance {s:List UInt8}:NR (.str s):=⟨nS⟩
instance {b:Bool}:NR (.bool b):=⟨nB⟩
instance:NR .nilslice:=⟨qy.nilslice⟩
instance:NR .nilptr:=⟨qy.nilptr⟩
instance:NR .nilmap:=⟨qy.nilmap⟩
instance:NR .nilfunc:=⟨qy.nilfunc⟩
instance:NR .niliface:=⟨qy.niliface⟩
instance {α:Type} {E:Enc α} {l:List α}:NR (vl E l):=⟨qj E l⟩
instance {cs:List AV} [h:SN cs]:NR (.agg cs):=⟨qy.agg h.h⟩
instance {cs:List AV} [h:SN cs]:NR (.tuple cs):=⟨qy.tuple h.h⟩
instance {f:Fn} {fs cs:List AV} [h:SN fs] [k:SN cs]:NR (.func f fs cs):=⟨qy.func h.h k.h⟩
instance {cs:List AV} {o:Nat} [h:SN cs]:NR (.fptr cs o):=⟨qy.fptr h.h⟩
instance {fs cs:List AV} [h:SN fs] [k:SN cs]:NR (.fmap fs cs):=⟨qy.fmap h.h k.h⟩
theorem sn {as:List AV} [h:SN as]:qa2 as:=h.h
theorem gw2 {s:St} {rs:List ResultVar} {v:AV} (xs:List AV) (hf:FzW s.2 (List.range s.2.length) 12 (qdb xs) v) (hx:zA P s.1 s.2 rs=some xs:=by kernel_rfl):jw P rs v .ret s:=Goes.retW hx hf
theorem gh2 [Base] {s:St} {rs:List ResultVar} {v:AV} {A':Heap} (xs:List AV) (hs:qbh (qdb xs) s.2 v A') (hx:zA P s.1 s.2 rs=some xs:=by kernel_rfl):qcv P rs v A' .ret s:=Goes.retH hx hs
end Go.Av
end
noncomputable section
namespace Go.Av
end Go.Av
end
noncomputable section
namespace Go.Av
open Go.RowKit
variable [Glob] {α:Type} {P:Program} {A:Heap} {S:List Nat} {m:List (Option Nat)}
def nvl (E:Enc α) (l:List α):AV:=match l with
 |[]=> .nilslice
 |x::xs=>vl E (x::xs)
theorem qkn (E:Enc α) (l:List α) {d:Nat} (hd:E.dep+1<=d):Still d (nvl E l):=by
 cases l with
 |nil=>obtain⟨d,rfl⟩:=Nat.exists_eq_add_of_le' (show 1<=d by omega);exact Still.nilslice d
 |cons x xs=>exact zq E (x::xs) hd
theorem qkq (E:Enc α) (l:List α):qy (nvl E l):=by
 cases l with
 |nil=>exact qy.nilslice
 |cons x xs=>exact qj E (x::xs)
theorem qgM {E:Enc α} {l:List α} (h:0<l.length):nvl E l=vl E l:=by
 cases l with
 |nil=>exact absurd h (by simp)
 |cons x xs=>rfl
theorem Wk.nv {E:Enc α} {l:List α}:Wk (nvl E l) (vl E l):=by
 cases l with
 |nil=>exact Wk.nil
 |cons x xs=>exact Wk.refl _
theorem Wk.Lnv {E:Enc α} {l:List α} (h:0<l.length):Wk (vl E l) (nvl E l):=by rw[qgM h];exact Wk.refl _
theorem zV.nv0 {E:Enc α}:zV A S m (nvl E []) .nilslice:= .same qy.nilslice
theorem zV.nvL {E:Enc α} {l:List α}:zV A S m (vl E l) (nvl E l):=by
 cases l with
 |nil=>exact .nilv
 |cons x xs=>exact .same (qj E (x::xs))
theorem zV.Lnv {E:Enc α} {l:List α} (h:0<l.length):zV A S m (nvl E l) (vl E l):=by rw[qgM h];exact .same (qj E l)
theorem FzW.nv0 {E:Enc α} {d:Nat}:FzW A S (d+1) .nilslice (nvl E []):= .of rfl
theorem FzW.nvL {E:Enc α} {l:List α} {d:Nat} (hd:E.dep<=d):FzW A S (d+1) (nvl E l) (vl E l):=by
 cases l with
 |nil=>exact FzW.nilv (E:=E)
 |cons x xs=>exact Ua (zq E (x::xs) (by omega))
theorem FzW.Lnv {E:Enc α} {l:List α} {d:Nat} (h:0<l.length) (hd:E.dep<=d):FzW A S (d+1) (vl E l) (nvl E l):=by rw[qgM h];exact Ua (zq E l (by omega))
end Go.Av
end
noncomputable section
namespace Go.Av
variable [Glob]
instance {d:Nat} {α:Type} {E:Enc α} {l:List α} [h:SE E]:SC (d+7) (nvl E l):=⟨qkn E l (Nat.le_trans h.h (Nat.le_add_left _ _))⟩
instance {α:Type} {E:Enc α} {l:List α}:NR (nvl E l):=⟨qkq E l⟩
theorem can:([]:List AV).all vK=true:=rfl
end Go.Av
end
noncomputable section
namespace Go.Av
variable [Glob] {P:Program} {α:Type} {E:Enc α} {k:Nat} {S:List Nat} {A:Heap}
theorem qm6 {t e:TypeId} {b:Nat} (T:SlT P t e (k+1) b) {A:Heap}:(Obl.run [] (z8 P [t,t] .nilslice (vl E ([]:List α))) A .nilslice A false).Holds P:=by
 rw[Obl.Holds,T.append (Nat.succ_pos k) _ _ (by simp[vl])]
 refine⟨[],?_,rfl⟩
 simp[vl,qZ,vR]
 rfl
end Go.Av
end
noncomputable section
namespace Go.Av
variable [Glob]
open Go.RowKit
theorem Goes.fnHr {P:Program} {c:Code} {f:FuncId} {fn:Func} {args:List AV} {A A':Heap} {v:AV} {m:Nat} {l:List (Nat×AV)} {rs:List ResultVar} (hf:P.funcs[f]? =some fn) (hn:(fn.name== "runtime.NumGoroutine")=false) (hb:fn.body=some c) (hm:args.length+(fn.ntmps-args.length)=m) (hr:fn.results.toList=rs)
 (hl:frFn m args=ofG m l) (h: ∀[Base],Base.A=A->Base.rd=none->Goes P c (ofG m l,A) (qcv P rs v A')):qf P (.fn f) args A v A':=by
 intro F nu w vs i hargs
 subst hr
 letI B:Base:=⟨nu,A,i.fresh,none,none,trivial⟩
 have h:=h rfl rfl
 rw[<-hl]at h
 refine .inl ⟨⟨fn,hf,hn,by rw[hb];rfl⟩,?_⟩
 refine(callsIn_wide (n:=0)).1 ?_
 refine callsIn_of_wp_marks hf hb trivial ?_
 refine h F w 0 F nu _ w (.refl i) (RF.frFn hm hargs) .nil _ (fun x s' F' nu' a' w' q st hfr hd=>?_)
 have post: ∀xs,zA P s'.1 s'.2 fn.results.toList=some xs->qbh (qdb xs) s'.2 v A'->
  LeavesInM (fz none) 0 P fn a'.tmps (fun e w'=> ∃x F' nu',e= .returned x/\Stp F nu A w F' nu' A' w'/\R F' nu' w' v x) a'.defers .returning w':=by
  intro xs hrs hv
  refine qbE hrs a'.defers st hfr hd (fun F2 nu2 w2 y st2 hR=>?_)
  obtain⟨F3,nu3,h1,h2⟩:=hv.use st2 hR
  exact⟨y,F3,nu3,rfl,h1,h2⟩
 cases x with
 |normal=>obtain⟨xs,h1,h2⟩:=q;exact post xs h1 h2
 |ret=>obtain⟨xs,h1,h2⟩:=q;exact post xs h1 h2
 |exit k=>exact q.elim
end Go.Av
end
noncomputable section
namespace Go.Av
variable [Glob] {α:Type} {P:Program} {A:Heap} {S:List Nat} {E:Enc α} {k:Nat}
theorem qmO {t e:TypeId} {b:Nat} (T:SlT P t e k b) (hk:E.k=k) {A':Heap} {l r:List α} {x:α} {cs:List AV} {o q:Nat} (hq:A[q]? =some (.cells cs)) (hSq:S.contains q=true) (hcs:cs.length=k) (hcc:cs.all vK=true)
 (hb:A[o]? =some (.cells (l.flatMap E.c))) (hS:S.contains o=true) (h:app b l [x]=some r) (hA:A'=A.set o .dead++[.cells (l.flatMap E.c++cs)]):
 (Obl.run S (z8 P [t,t] (.gslice o l.length k) (.slice q 0 1 1 k)) A (.gslice A.length r.length k) A' true).Holds P:=by
 have h0:=h
 subst hk hA
 obtain⟨h1,h2,h3⟩:=qcN h
 have h4:r.length=l.length+1:=by rw[h3];simp
 simp only[Yr,List.length_nil,Nat.zero_add]at h1 h2
 rw[h4,Obl.Holds,T.append E.pos _ _ (by intro s h;cases h)]
 refine⟨[(o,true),(o,false),(q,false)],?_,rfl⟩
 have e1:0+1*E.k<=cs.length:=by omega
 have e2:l.length*E.k<=(l.flatMap E.c).length:=by rw[E.flat_len];exact Nat.le_refl _
 have e3:cs.take (1*E.k)=cs:=by rw[Nat.one_mul,<-hcs,List.take_length]
 have e5:cs.length=1*E.k:=by omega
 simp only[qZ,xK]
 rw[qbf hSq hq]
 simp only[vW,if_pos e1,YR,e3,hcc,if_true,vR]
 rw[qbf hS hb]
 simp only[e2,h1,h2,and_self,if_true]
 rw[qdC hS (qdv hb),qes,qcW,qd2,Yk]
variable {m:List (Option Nat)}
theorem qaS.app {as bs cs ds:List AV} (h:qaS A S m as bs) (k:qaS A S m cs ds):qaS A S m (as++cs) (bs++ds):=by
 refine⟨by rw[Yq,Yq,h.1,k.1],fun j a b ha hb=>?_⟩
 have hl:=h.1
 rcases Nat.lt_or_ge j as.length with hj|hj
 ·rw[Yf hj]at ha
  rw[Yf (by omega)]at hb
  exact h.2 j a b ha hb
 rw[Yo hj]at ha
 rw[Yo (by omega),<-hl]at hb
 exact k.2 _ a b ha hb
theorem xL.my {b:Nat} {l z:List α} {x:α} {cs:List AV} (h:app b l [x]=some z) (p:qaS A S m (E.c x) cs):xL A S m (.cells (z.flatMap E.c)) (.cells (l.flatMap E.c++cs)):=by
 obtain⟨_,_,h3⟩:=qcN h
 subst h3
 rw[List.flatMap_append]
 refine .cells (qaS.app ⟨rfl,fun j c' c h1 h2=>?_⟩ (by simpa using p))
 rw[h1]at h2
 injection h2 with h2
 subst h2
 exact .same (E.flat_allN l _ (Yn h1))
end Go.Av
end
noncomputable section
namespace Go.Av
open Go.RowKit
variable [Glob]
def qkL [Base] (b:Nat) (v:AV) (A':Heap) (x:XA) (s:St):Prop:= ∃v0 A0,qiQ b (some (x,s))=some (v0,A0)/\qbh v0 A0 v A'
theorem Goes.round {P:Program} {b:Nat} {args:List AV} {A A':Heap} {v:AV} {m:Nat} {l0 l:List (Nat×AV)} {st0:LoopState} {p0:Option Code} {ps:Array Tmp} {asg bd:Code} (hA:A[b]? =some (.loop st0 p0 (ofG m l0) ps asg bd)) (hlen:args.length=ps.size)
 (hl:maskF (l.map (·.1)) (setAll (ofG m l0) ps.toList args)=ofG m l)
 (h: ∀[Base],Base.A=A->Goes P asg (ofG m l,A) (andThen (fun s=> ∃p1 f1 ps1 as1 bd1,s.2[b]? =some (.loop .ready p1 f1 ps1 as1 bd1)/\Goes P bd (s.1,s.2.set b (.loop .busy p1 f1 ps1 as1 bd1)) (qkL b v A')) (fun _ _=>False))):qf P (.rd b) args A v A':=by
 intro F nu w vs rb i hargs hb
 obtain⟨hnF,fn0,tmps0,dd0,hheap,hfr⟩:=i.blk _ _ _ hb hA
 letI B:Base:=⟨nu,A,i.fresh,some b,some rb,hb⟩
 have h:=h rfl
 have hsz:vs.size=ps.size:=by rw[hargs.1,hlen]
 have hy:=run_yield (P:=P) hheap (args:=vs) (by exact hsz)
 refine⟨_,_,_,_,hy,?_⟩
 refine roundIn_of_wpIn trivial ?_
 have hset:RF F nu w (setAll (ofG m l0) ps.toList args) ((ps.zip vs).foldl (fun tmps (t,a)=>tmps.setIfInBounds t a) tmps0):=by
  have h1:=RF.setAll (params:=ps.toList) hfr (args:=args) (vs:=vs.toList) (by simp[hargs.1]) (fun j a v ha hv=>hargs.2 j a v ha (by simpa using hv))
  have e:(ps.zip vs).foldl (fun tmps (t,a)=>tmps.setIfInBounds t a) tmps0=(ps.toList.zip vs.toList).foldl (fun tmps (p:Tmp×Value)=>tmps.setIfInBounds p.1 p.2) tmps0:=by
   rw[<-Array.foldl_toList,Array.toList_zip]
  rw[e]
  exact h1
 have hset:=hset.maskF (l.map (·.1))
 rw[hl]at hset
 have hfz:Fence.wide.inRound rb=fz (some rb):=rfl
 rw[hfz]
 refine h F w 0 F nu _ w (.refl i) hset .nil _ (fun x s F1 nu1 a1 w1 q st1 hf1 hd1=>?_)
 cases x with
 |exit k=>exact q.elim
 |ret=>exact q.elim
 |normal=>
  obtain⟨p1,f1,ps1,as1,bd1,hA1,q⟩:=q
  have hb1:=st1.n _ _ hb
  obtain⟨hnF1,fn1,tmps1,dd1,hheap1,hfr1⟩:=st1.inv.blk _ _ _ hb1 hA1
  have hbeg:=run_beginRound (P:=P) hheap1 rfl
  have st2:=U1 st1.inv (st:= .busy) (pend:=p1) (fr:=f1) (ps:=ps1) (asg:=as1) (body:=bd1) (r:={state:= .busy,pending:=p1,fn:=fn1,tmps:=tmps1,params:=ps1,assign:=as1,body:=bd1,defers:=dd1}) hb1 hA1 rfl hheap1 rfl hfr1
  refine⟨_,hbeg,?_⟩
  refine q F w 0 F1 nu1 _ _ (st1.trans st2) (hf1.mono (st2.ext st1.inv)) (hd1.step st2) _ (fun x2 s2 F2 nu2 a2 w2 q2 st3 hf2 hd2=>?_)
  obtain⟨v0,A0,he,hv⟩:=q2
  obtain⟨y,w3,hend,st4,hR⟩:=qjO (P:=P) st3.inv (st3.n _ _ hb) he
  obtain⟨F4,nu4,k1,k2⟩:=hv.use (st3.trans st4) hR
  cases x2<;>exact⟨y,w3,hend,y,F4,nu4,rfl,k1,k2⟩
theorem Goes.range [Base] {P:Program} (hm:P.follows .mixedOrders=true) (hb:Base.rd=none) {g:Operand} {ps:Array Tmp} {asg bd:Code} {s s':St} {gf:FuncId} {first captured:List AV} {v:AV} {A2:Heap} {x:XA} {Q:XA->St->Prop} (hg:zL s.1 g= .func (.func gf) first captured) (he:qeQ P gf=true)
 (hc:qf P (.fn gf) (first++[.yld s.2.length]++captured) (s.2++[.loop .ready none s.1 ps asg bd]) v A2) (hx:endA s.2.length s.1 A2=some (x,s')) (hq:Q x s'):Goes P (.rangeFunc g ps asg bd) s Q:=by
 refine Goes.eval (N:=0) hm (qbX hc) ?_ hq
 simp only[qY,hb,rdOK,hg,he,qbU]
 exact hx
def _root_.Go.Code.x1:Code->Code
 | .seq a _=>a
 | .cond _ a _=>a
 | .block _ c=>c
 | .loop c=>c
 | .scope c=>c
 | .rangeFunc _ _ a _=>a
 |c=>c
def _root_.Go.Code.x2:Code->Code
 | .seq _ b=>b
 | .cond _ _ b=>b
 | .rangeFunc _ _ _ b=>b
 |c=>c
def _root_.Go.Code.xp:Code->Array Tmp
 | .rangeFunc _ ps _ _=>ps
 |_=>#[]
theorem qh0 {P:Program} {g:FuncId} {args:List AV} {A:Heap} {S:List Nat} {v:AV} {A':Heap} (h:(Obl.callH (.fn g) args A S v A').Holds P):qf P (.fn g) args A v A':=by
 have:=h.2.2 A rfl (fun _ _=>rfl)
 rwa [h.2.1]at this
def qhQ {α:Type} (b:Nat) (c:Int) (z:α):Option (List α):=
 if 0<c/\c<=140737488355328/\c*b<=140737488355328 then some (List.replicate c.toNat z)else none
theorem ql9 {α:Type} {P:Program} {E:Enc α} {k:Nat} {A:Heap} {t e ti:TypeId} {b:Nat} (T:SlT P t e k b) (hti:P.underlying ti=some (.int .i64)) (hk:E.k=k) {z:α} (hz:qcG P e=some (E.c z)) {A':Heap} {r:List α} {c:Int}
 (h:qhQ b c z=some r) (hA:A'=A++[.cells (r.flatMap E.c)]):(Obl.run [] (z8 P [t,ti] .nilslice (.int .i64 c)) A (.oslice A.length r.length k) A' false).Holds P:=by
 subst hk hA
 obtain⟨inf,z0,h1,h2,h3,h4,h5⟩:=T.info
 unfold qhQ at h
 split at h
 ·rename_i hc
  obtain⟨c1,c2,c3⟩:=hc
  obtain rfl:=Ye h
  have hz':cellsOf (qao 3 z0)=some (E.c z):=by
   unfold qcG at hz
   rw[h1]at hz
   simp only[h4]at hz
   exact hz
  have e1:z0.cells.size=inf.size/\0<inf.size:=⟨by rw[h5,h2],by rw[h2];exact E.pos⟩
  have e2:(E.c z).all vK=true:=by have:=E.flat_cell [z];simpa using this
  have e3:0<=c/\c<=140737488355328/\c*inf.bytes<=140737488355328/\(E.c z).all vK=true:=⟨by omega,c2,by rw[h3];exact c3,e2⟩
  refine⟨[],?_,rfl⟩
  simp only[z8,T.und,hti,h1,h4]
  rw[if_pos e1]
  simp only[hz']
  rw[if_pos e3,h2,qe7]
  have e4: ¬(c.toNat=0):=by omega
  have e5:c.toNat*inf.bytes<=140737488355328/\c.toNat<=140737488355328:=by
   rw[h3]
   refine⟨?_,by omega⟩
   have:((c.toNat*b:Nat):Int)=c*b:=by rw[Int.natCast_mul,Int.toNat_of_nonneg (by omega)]
   omega
  simp only[vR]
  rw[if_neg e4,if_pos e5,qes,qcW]
  simp
 cases h
end Go.Av
end
