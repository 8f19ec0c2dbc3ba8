/-
  Short words for what the generator prints.
-/
import Derived.Test.YtcgpgmdcfcncpaaGreatDoorAvOpt
import Derived.Test.YtcgpgmdcfcncpaaGreatDoorAvHp
set_option linter.unusedSectionVars false
section
namespace Go.Av
variable [Glob] {α:Type} {P:Program} {A:Heap}
def Obl.orc:Obl->Orc
 | .triv=> .no
 | .done _ v=> .done v
 | .run _ _ _ v A' wr=> .run v A' wr
 | .call _ _ _ S args' v=> .call S args' v
 | .callF _ _ _ S args' v=> .callF S args' v
 | .callH _ _ _ S v A'=> .callH S v A'
theorem Goes.rp [Base] (hm:P.follows .mixedOrders=true) {id m:Nat} {ops:Array Oper} {draw:Bool} {l0:List (Nat×AV)} {Q:XA->St->Prop} (ks:List Nat) (l:List (Nat×AV)) (A':Heap) (obls:List Obl) (ho:qcP P obls) (hq:Q .normal (ofG m l,A'))
 (h:qfA P ops draw (ks.zip (obls.map Obl.orc)) (l.map (·.1)) (ofG m l0,A)=some (ofG m l,A',obls):=by kernel_rfl):Goes P (.region id ops draw) (ofG m l0,A) Q:=Goes.reg hm _ _ h ho hq
theorem yx.rp [Base] (hm:P.follows .mixedOrders=true) {id m:Nat} {ops:Array Oper} {draw:Bool} {l0:List (Nat×AV)} (ks:List Nat) (l:List (Nat×AV)) (A':Heap) (obls:List Obl) (ho:qcP P obls)
 (h:qfA P ops draw (ks.zip (obls.map Obl.orc)) (l.map (·.1)) (ofG m l0,A)=some (ofG m l,A',obls):=by kernel_rfl):yx P id ops draw (ofG m l0,A) (ofG m l,A'):=yx.reg hm _ _ h ho
theorem an {a b:Prop} (x:a) (y:b):a/\b:=⟨x,y⟩
theorem nb {b:Bool} (h:b=false): ¬b=true:=by rw[h];exact Bool.false_ne_true
theorem si {a b:α} (h:some a=some b):a=b:=Ye h
theorem nl {a b:Nat} (h:Nat.ble a b=true):a<=b:=Ys h
theorem nI {k:IntKind} {n:Int}:qy (.int k n):=qy.int _ _
theorem nS {s:List UInt8}:qy (.str s):=qy.str _
theorem nB {b:Bool}:qy (.bool b):=qy.bool _
theorem tI {d:Nat} {k:IntKind} {n:Int}:Still (d+1) (.int k n):=Still.int _ _ _
theorem tS {d:Nat} {s:List UInt8}:Still (d+1) (.str s):=Still.str _ _
theorem tB {d:Nat} {b:Bool}:Still (d+1) (.bool b):=Still.bool _ _
abbrev bZ:Blk:= .cells [.i 0,.nilslice]
end Go.Av
end
section
namespace Go.Av
variable {α κ:Type} [BEq κ] {P:Program}
def qcT (m:List (κ×α)) (k:κ):Option α:=(m.find? fun p=>k==p.1).map (·.2)
def qfW:List (κ×α)->κ->α->List (κ×α)
 |[],k,v=>[(k,v)]
 |p::m,k,v=>if(k==p.1)=true then(p.1,v)::m else p::qfW m k v
abbrev mpB (K:κ->AV) (f:α->AV) (m:List (κ×α)):Blk:= .map (m.map fun p=>K p.1) (m.map fun p=>f p.2)
structure qnI (K:κ->AV) (d:TypeDesc):Prop where
 eq: ∀a b,qln (K a) (K b)=some (a==b)
 plain: ∀a,plainKey d (K a)=true
theorem keyI {k:IntKind}:qnI (κ:=Int) (AV.int k) (.int k):=⟨fun a b=>by simp[qln],fun _=>rfl⟩
structure MpT (P:Program) (t kt et:TypeId) (d:TypeDesc) (z:AV):Prop where
 und:P.underlying t=some (.map kt et)
 key:P.underlying kt=some d
 zero:((P.info? et).bind (·.zero)).map (qcG 3)=some z
theorem qfO {K:κ->AV} {d:TypeDesc} (hK:qnI K d) (k:κ): ∀(m:List (κ×α)) (i:Nat),qgX (K k) (m.map fun p=>K p.1) i=some ((m.findIdx? fun p=>k==p.1).map (· +i))
 |[],_=>rfl
 |p::m,i=>by
  simp only[List.map_cons,qgX,hK.eq,List.findIdx?_cons]
  cases h:k==p.1 with
  |true=>simp
  |false=>
   simp only[ZF,if_false]
   rw[qfO hK k m (i+1)]
   cases m.findIdx? fun p=>k==p.1 with
   |none=>rfl
   |some j=>simp only[ZM];rw[show j+(i+1)=j+1+i by omega]
theorem qpd {m:List (κ×α)} {k:κ} {v:α} (h:qcT m k=some v): ∃j p,(m.findIdx? fun p=>k==p.1)=some j/\m[j]? =some p/\p.2=v:=by
 unfold qcT at h
 obtain⟨p,hp,rfl⟩:=Yd.1 h
 obtain⟨j,hj⟩:=List.find?_eq_some_iff_getElem.1 hp|>.2
 obtain⟨hlt,he,hn⟩:=hj
 refine⟨j,p,?_,by rw[Ya hlt,he],rfl⟩
 rw[List.findIdx?_eq_some_iff_getElem]
 exact⟨hlt,by rw[he];exact(List.find?_eq_some_iff_getElem.1 hp).1,fun i hi=>by simpa using hn i hi⟩
theorem qob {m:List (κ×α)} {k:κ} (h:qcT m k=none):(m.findIdx? fun p=>k==p.1)=none:=by
 unfold qcT at h
 rw[Option.map_eq_none_iff,List.find?_eq_none]at h
 rw[List.findIdx?_eq_none_iff]
 exact fun x hx=>by simpa using h x hx
theorem qk6: ∀{m:List (κ×α)} {k:κ} {v:α},(match m.findIdx? fun p=>k==p.1 with
 |some j=>(qfW m k v).map (·.1)=m.map (·.1)/\(qfW m k v).map (·.2)=(m.map (·.2)).set j v
 |none=>qfW m k v=m++[(k,v)])
 |[],_,_=>rfl
 |p::m,k,v=>by
  rw[List.findIdx?_cons]
  unfold qfW
  cases h:k==p.1 with
  |true=>simp
  |false=>
   have ih:=qk6 (m:=m) (k:=k) (v:=v)
   cases hf:m.findIdx? fun p=>k==p.1 with
   |none=>rw[hf]at ih;simp only[ZF,if_false,Option.map_none];simpa using ih
   |some j=>rw[hf]at ih;simp only[ZF,if_false,ZM];simpa using ih
theorem qqC [Glob] {t kt et:TypeId} {d:TypeDesc} {z:AV} (T:MpT P t kt et d z) {K:κ->AV} (hK:qnI K d) (f:α->AV) {A:Heap} {o:Nat} {m:List (κ×α)} (hb:A[o]? =some (mpB K f m)) {k:κ} {v:α} (h:qcT m k=some v) (ok:Bool):
 (Obl.run [o] (qde P t (.map o) (K k) ok) A (if ok then .tuple [f v,.bool true]else f v) A false).Holds P:=by
 obtain⟨zv,h1,h2⟩:=Yd.1 T.zero
 obtain⟨j,p,e1,e2,e3⟩:=qpd h
 refine⟨[(o,false)],?_,rfl⟩
 simp only[qde,T.und,T.key,h1,hK.plain,if_true,entriesOf]
 rw[qba (by simp) hb]
 simp only[qfO hK,e1,ZM,Nat.add_zero,YA,e2,e3]
 rfl
theorem qpZ [Glob] {t kt et:TypeId} {d:TypeDesc} {z:AV} (T:MpT P t kt et d z) {K:κ->AV} (hK:qnI K d) (f:α->AV) {A:Heap} {o:Nat} {m:List (κ×α)} (hb:A[o]? =some (mpB K f m)) {k:κ} (h:qcT m k=none) (ok:Bool):
 (Obl.run [o] (qde P t (.map o) (K k) ok) A (if ok then .tuple [z,.bool false]else z) A false).Holds P:=by
 obtain⟨zv,h1,h2⟩:=Yd.1 T.zero
 refine⟨[(o,false)],?_,rfl⟩
 simp only[qde,T.und,T.key,h1,hK.plain,if_true,entriesOf]
 rw[qba (by simp) hb]
 simp only[qfO hK,qob h,Option.map_none,h2]
 rfl
theorem qo4 [Glob] {t kt et:TypeId} {d:TypeDesc} {z:α} {f:α->AV} (T:MpT P t kt et d (f z)) {K:κ->AV} (hK:qnI K d) {A:Heap} {o:Nat} {m:List (κ×α)} (hb:A[o]? =some (mpB K f m)) (k:κ):
 (Obl.run [o] (qde P t (.map o) (K k) false) A (f ((qcT m k).getD z)) A false).Holds P:=by
 cases h:qcT m k with
 |none=>exact qpZ T hK f hb h false
 |some v=>exact qqC T hK f hb h false
theorem upm [Glob] {t kt et:TypeId} {d:TypeDesc} {z:AV} (T:MpT P t kt et d z) {K:κ->AV} (hK:qnI K d) (f:α->AV) {A A':Heap} {o:Nat} {m:List (κ×α)} (hb:A[o]? =some (mpB K f m)) (k:κ) (v:α) {r:List (κ×α)} (hr:some (qfW m k v)=some r) (hA:A'=A.set o (mpB K f r)):
 (Obl.run [o] (qbv P t (.map o) (K k) (f v)) A .undef A' true).Holds P:=by
 obtain rfl:=si hr
 subst hA
 have hm:=qk6 (m:=m) (k:=k) (v:=v)
 refine⟨[(o,true),(o,false)],?_,rfl⟩
 simp only[qbv,T.und,T.key,hK.plain,if_true]
 rw[qba (by simp) hb]
 simp only[qfO hK]
 cases hf:m.findIdx? fun p=>k==p.1 with
 |none=>
  rw[hf]at hm
  simp only[Option.map_none]
  rw[qdu (by simp) (qdw hb)]
  have hm:qfW m k v=m++[(k,v)]:=hm
  rw[hm]
  simp only[mpB,List.map_append,List.map_cons,List.map_nil]
  rfl
 |some j=>
  rw[hf]at hm
  obtain⟨h1,h2⟩:(qfW m k v).map (·.1)=m.map (·.1)/\(qfW m k v).map (·.2)=(m.map (·.2)).set j v:=hm
  simp only[ZM,Nat.add_zero]
  rw[qdu (by simp) (qdw hb)]
  have e1:((qfW m k v).map fun p=>K p.1)=m.map fun p=>K p.1:=by
   have:=congrArg (List.map K) h1
   simpa[List.map_map,Function.comp_def]using this
  have e2:((qfW m k v).map fun p=>f p.2)=(m.map fun p=>f p.2).set j (f v):=by
   have:=congrArg (List.map f) h2
   simpa[List.map_map,Function.comp_def,List.map_set]using this
  simp only[mpB,e1,e2]
  rfl
abbrev fO:Bool->AV:=fun v=>AV.bool v
end Go.Av
end
noncomputable section
namespace Go.Av
variable [Glob]
theorem Up [Base] {P:Program} {c:Code} {s:St} {Q:XA->St->Prop} (h:Goes P c s (fun x s'=> ∃t,Sub s' t/\Q x t)):Goes P c s Q:=fun F0 w0 n F nu a w st hf hd K hK=>
 h F0 w0 n F nu a w st hf hd K (fun x s' F' nu' a' w' q st2 hf2 hd2=>by
   obtain⟨t,hs,q⟩:=q
   obtain⟨F2,nu2,st3,hf3,hd3⟩:=hs F0 w0 F' nu' a' w' st2 hf2 hd2
   exact hK x t F2 nu2 a' w' q st3 hf3 hd3)
theorem qh2 {a b:Nat} {u:Unit} (h:(if a=b then some ()else none:Option Unit)=some u):a=b:=by
 split at h
 ·assumption
 cases h
theorem qqE {a:Nat} {u:Unit} (h:(if a<=1000000000 then some ()else none:Option Unit)=some u):a<=9223372036854775807:=by
 split at h
 ·omega
 cases h
theorem qrh {α:Type} (E:Enc α) (l:List α):l.length*E.k<=(l.flatMap E.c).length:=by rw[E.flat_len];exact Nat.le_refl _
end Go.Av
end
noncomputable section
namespace Go.Av
variable [Glob]
def qfV (k:IntKind) (a b:Int):Option Int:=if b=0 then none else some (k.wrap (a.tdiv b))
def qjj (_:IntKind) (a b:Int):Option Int:=if b=0 then none else some (a.tmod b)
theorem qbY {P:Program} {t:TypeId} {ox oy:Operand} {k:IntKind} {a b q:Int} (h:qfV k a b=some q):(Obl.done (.opt (zx P .quo t ox oy (.int k a) (.int k b))) (.int k q)).Holds P:=by
 unfold qfV at h
 split at h
 ·cases h
 rename_i hb
 obtain rfl:=Ye h
 show Pg.opt _=_
 simp[zx,qc8,qg3,hb,Pg.opt]
theorem qfP {P:Program} {t:TypeId} {ox oy:Operand} {k:IntKind} {a b q:Int} (h:qjj k a b=some q):(Obl.done (.opt (zx P .rem t ox oy (.int k a) (.int k b))) (.int k q)).Holds P:=by
 unfold qjj at h
 split at h
 ·cases h
 rename_i hb
 obtain rfl:=Ye h
 show Pg.opt _=_
 simp[zx,qc8,qg3,hb,Pg.opt]
end Go.Av
end
noncomputable section
namespace Go.Av
variable [Glob] {α:Type} {P:Program} {A:Heap}
class SC (d:Nat) (a:AV):Prop where
 h:Still d a
class SE {α:Type} (E:Enc α):Prop where
 h:E.dep+1<=7
class SX (d:Nat) (as:List AV):Prop where
 h: ∀a∈as,Still d a
instance {d:Nat}:SX d []:=⟨AllST.nil⟩
instance {d:Nat} {a:AV} {as:List AV} [h:SC d a] [k:SX d as]:SX d (a::as):=⟨AllST.cons h.h k.h⟩
instance {d:Nat} {k:IntKind} {n:Int}:SC (d+1) (.int k n):=⟨tI⟩
instance {d:Nat} {s:List UInt8}:SC (d+1) (.str s):=⟨tS⟩
instance {d:Nat} {b:Bool}:SC (d+1) (.bool b):=⟨tB⟩
instance {d:Nat}:SC (d+1) .nilslice:=⟨Still.nilslice _⟩
instance {d:Nat}:SC (d+1) .nilfunc:=⟨Still.nilfunc _⟩
instance {d:Nat}:SC (d+1) .nilptr:=⟨Still.nilptr _⟩
instance {d:Nat}:SC (d+1) .nilmap:=⟨Still.nilmap _⟩
instance {d:Nat}:SC (d+1) .niliface:=⟨fun _ _=>rfl⟩
instance {d:Nat} {cs:List AV} [h:SX d cs]:SC (d+1) (.agg cs):=⟨Still.agg h.h⟩
instance {d:Nat} {cs:List AV} [h:SX d cs]:SC (d+1) (.tuple cs):=⟨Still.tuple h.h⟩
instance {d:Nat} {cs:List AV} {o:Nat} [h:SX d cs]:SC (d+1) (.fptr cs o):=⟨Still.fptr h.h⟩
instance {d:Nat} {f:Fn} {fs cs:List AV} [h:SX d fs] [k:SX d cs]:SC (d+1) (.func f fs cs):=⟨Still.func h.h k.h⟩
instance {d:Nat} {fs cs:List AV} [h:SX d fs] [k:SX d cs]:SC (d+1) (.fmap fs cs):=⟨Still.fmap h.h k.h⟩
instance {d:Nat} {E:Enc α} {l:List α} [h:SE E]:SC (d+7) (vl E l):=⟨ql E l (Nat.le_trans h.h (Nat.le_add_left _ _))⟩
instance:SE encI:=⟨nl rfl⟩
instance:SE qhH:=⟨nl rfl⟩
instance:SE encS:=⟨nl rfl⟩
instance {k:IntKind}:SE (qa k):=⟨nl rfl⟩
instance:SE (qd encI):=⟨nl rfl⟩
instance:SE (qd encS):=⟨nl rfl⟩
instance:SE (qd qhH):=⟨nl rfl⟩
theorem qmY: ∀(d:Nat) (a:AV) (A:Heap),frz A [] d a=frz [] [] d a
 |0,_,_=>rfl
 |d+1,a,A=>by
  have e:frz A [] d=frz [] [] d:=funext fun x=>qmY d x A
  unfold frz
  rw[e]
  cases a<;>simp
def Obl.st:Obl->Obl
 | .call g args A S args' v=>match S with
   |[]=> .call g args [] [] args' v
   |b::S=> .call g args A (b::S) args' v
 |o=>o
theorem Obl.st_holds: ∀{o:Obl},o.st.Holds P->o.Holds P
 | .triv,h=>h
 | .done _ _,h=>h
 | .run _ _ _ _ _ _,h=>h
 | .callF _ _ _ _ _ _,h=>h
 | .callH _ _ _ _ _ _,h=>h
 | .call _ _ _ (_::_) _ _,h=>h
 | .call g args A [] args' v,h=>by
   obtain⟨h1,h2⟩:=h
   refine⟨?_,h2⟩
   rw[show frz A [] 12=frz [] [] 12 from funext fun x=>qmY 12 x A]
   exact h1
theorem qcP.st: ∀{os:List Obl},qcP P (os.map Obl.st)->qcP P os
 |[],_=>trivial
 |_::_,h=>⟨Obl.st_holds h.1,qcP.st h.2⟩
theorem Goes.rq [Base] (hm:P.follows .mixedOrders=true) {id m:Nat} {ops:Array Oper} {draw:Bool} {l0:List (Nat×AV)} {Q:XA->St->Prop} (ks:List Nat) (l:List (Nat×AV)) (A':Heap) {obls:List Obl} (ho:qcP P obls) (hq:Q .normal (ofG m l,A'))
 (h:(qfA P ops draw (ks.zip (obls.map Obl.orc)) (l.map (·.1)) (ofG m l0,A)).map (fun r=>(r.1,r.2.1,r.2.2.map Obl.st))=some (ofG m l,A',obls):=by kernel_rfl):Goes P (.region id ops draw) (ofG m l0,A) Q:=by
 obtain⟨r,h1,h2⟩:=Yd.1 h
 obtain⟨f,B,os⟩:=r
 simp only[ZP]at h2
 obtain⟨rfl,rfl,rfl⟩:=h2
 exact Goes.reg hm _ _ h1 (qcP.st ho) hq
theorem yx.rq [Base] (hm:P.follows .mixedOrders=true) {id m:Nat} {ops:Array Oper} {draw:Bool} {l0:List (Nat×AV)} (ks:List Nat) (l:List (Nat×AV)) (A':Heap) {obls:List Obl} (ho:qcP P obls)
 (h:(qfA P ops draw (ks.zip (obls.map Obl.orc)) (l.map (·.1)) (ofG m l0,A)).map (fun r=>(r.1,r.2.1,r.2.2.map Obl.st))=some (ofG m l,A',obls):=by kernel_rfl):yx P id ops draw (ofG m l0,A) (ofG m l,A'):=by
 obtain⟨r,h1,h2⟩:=Yd.1 h
 obtain⟨f,B,os⟩:=r
 simp only[ZP]at h2
 obtain⟨rfl,rfl,rfl⟩:=h2
 exact yx.reg hm _ _ h1 (qcP.st ho)
theorem ac {o:Obl} {os:List Obl} (x:o.Holds P) (y:qcP P os):qcP P (o::os):=⟨x,y⟩
theorem az:qcP P []:=trivial
theorem hs (o:Obl) (h:o.Holds P):o.Holds P:=h
theorem cv {g:FuncId} {args:List AV} {v:AV} [k:SX 12 args] [q:SC 12 v] (h:qb P (.fn g) args [] v []):(Obl.call g args [] [] args v).Holds P:=qoE k.h h q.h
theorem gw {b w:Bool} (h:b=w):(Obl.done (.done (.bool b)) (.bool w)).Holds P:=congrArg (fun x=>Pg.done (.bool x)) h
theorem iv {t e:TypeId} {k b:Nat} (T:SlT P t e k b) (E:Enc α) {l:List α} {i:Int} {x:α} (h:idx l i=some x) (hk:E.k=k:=by rfl):(Obl.done (.opt (qc P t (vl E l) (.i i))) (.fptr (l.flatMap E.c) (i.toNat*k))).Holds P:=ix_vl T hk h
theorem lv (off:Nat) {t:TypeId} (T:CeT P t) (E:Enc α) {l:List α} {i:Int} {x:α} (h:idx l i=some x) {c:AV} (hc:(E.c x)[off]? =some c) (ho:Nat.ble (off+1) E.k=true:=by rfl):(Obl.done (qV P t (.fptr (l.flatMap E.c) (i.toNat*E.k+off))) c).Holds P:=ld_vl T rfl h (nl ho) hc
end Go.Av
end
noncomputable section
namespace Go.Av
variable [Glob] {P:Program} {A:Heap}
section
variable [Base] {id m:Nat} {ops:Array Oper} {draw:Bool} {l0:List (Nat×AV)} {Q:XA->St->Prop} {c2:Code}
theorem sg (hm:P.follows .mixedOrders=true) (l:List (Nat×AV)) (A':Heap) (hq:Goes P c2 (ofG m l,A') Q) (h:qfA P ops draw [] (l.map (·.1)) (ofG m l0,A)=some (ofG m l,A',[]):=by kernel_rfl):Goes P (.seq (.region id ops draw) c2) (ofG m l0,A) Q:=sq (Goes.rg hm l A' hq h)
theorem sh (hm:P.follows .mixedOrders=true) (l:List (Nat×AV)) (hq:Goes P c2 (ofG m l,A) Q) (h:qfA P ops draw [] (l.map (·.1)) (ofG m l0,A)=some (ofG m l,A,[]):=by kernel_rfl):Goes P (.seq (.region id ops draw) c2) (ofG m l0,A) Q:=sq (Goes.rg hm l A hq h)
theorem gh (hm:P.follows .mixedOrders=true) (l:List (Nat×AV)) (hq:Q .normal (ofG m l,A)) (h:qfA P ops draw [] (l.map (·.1)) (ofG m l0,A)=some (ofG m l,A,[]):=by kernel_rfl):Goes P (.region id ops draw) (ofG m l0,A) Q:=Goes.rg hm l A hq h
theorem gq (hm:P.follows .mixedOrders=true) (ks:List Nat) (l:List (Nat×AV)) (A':Heap) {obls:List Obl} (ho:qcP P obls) (hq:Q .normal (ofG m l,A'))
 (h:(qfA P ops draw (ks.zip (obls.map Obl.orc)) (l.map (·.1)) (ofG m l0,A)).map (fun r=>(r.1,r.2.1,r.2.2.map Obl.st))=some (ofG m l,A',obls):=by kernel_rfl):Goes P (.region id ops draw) (ofG m l0,A) Q:=Goes.rq hm ks l A' ho hq h
theorem gr (hm:P.follows .mixedOrders=true) (ks:List Nat) (l:List (Nat×AV)) {obls:List Obl} (ho:qcP P obls) (hq:Q .normal (ofG m l,A))
 (h:(qfA P ops draw (ks.zip (obls.map Obl.orc)) (l.map (·.1)) (ofG m l0,A)).map (fun r=>(r.1,r.2.1,r.2.2.map Obl.st))=some (ofG m l,A,obls):=by kernel_rfl):Goes P (.region id ops draw) (ofG m l0,A) Q:=Goes.rq hm ks l A ho hq h
theorem tr (hm:P.follows .mixedOrders=true) (ks:List Nat) (l:List (Nat×AV)) {obls:List Obl} (ho:qcP P obls)
 (h:(qfA P ops draw (ks.zip (obls.map Obl.orc)) (l.map (·.1)) (ofG m l0,A)).map (fun r=>(r.1,r.2.1,r.2.2.map Obl.st))=some (ofG m l,A,obls):=by kernel_rfl):yx P id ops draw (ofG m l0,A) (ofG m l,A):=yx.rq hm ks l A ho h
end
section
variable [Base] {c1 c2:Code} {s:St} {Q:XA->St->Prop} {co:Operand} {α:Type} {x y r:α}
theorem ihB {b:Bool} (h:(if b=true then x else y)=r) (ht:b=true->x=r->Goes P c1 s Q) (hf:b=false->y=r->Goes P c2 s Q) (hv:jo s.1 co= .bool b:=by kernel_rfl):Goes P (.cond co c1 c2) s Q:=
 Goes.ifB hv (fun c=>ht c (by rw[if_pos c]at h;exact h)) (fun c=>hf c (by rw[if_neg (nb c)]at h;exact h))
theorem ihD {p:Prop} [Decidable p] (h:(if p then x else y)=r) (ht:decide p=true->x=r->Goes P c1 s Q) (hf:decide p=false->y=r->Goes P c2 s Q) (hv:jo s.1 co= .bool (decide p):=by kernel_rfl):Goes P (.cond co c1 c2) s Q:=
 Goes.ifB hv (fun c=>ht c (by rw[if_pos (of_decide_eq_true c)]at h;exact h)) (fun c=>hf c (by rw[if_neg (of_decide_eq_false c)]at h;exact h))
end
section
variable {α:Type} {x y r:α}
theorem wyB {b:Bool} (h:(if b=true then x else y)=r):b=true/\x=r\/b=false/\y=r:=by
 cases b
 ·rw[if_neg Bool.false_ne_true]at h;exact .inr ⟨rfl,h⟩
 rw[if_pos rfl]at h;exact .inl ⟨rfl,h⟩
theorem wyD {p:Prop} [Decidable p] (h:(if p then x else y)=r):decide p=true/\x=r\/decide p=false/\y=r:=by
 rcases Classical.em p with c|c
 ·rw[if_pos c]at h;exact .inl ⟨decide_eq_true c,h⟩
 rw[if_neg c]at h;exact .inr ⟨decide_eq_false c,h⟩
end
section
variable {S:List Nat} {m:List (Option Nat)}
theorem qcS.ks {α:Type} {E:Enc α} {x:List α} {b:Nat} {l:List (Option Nat)} {H:Heap} (h:qcS A S m l H) (hA:A[b]? =some (.cells (x.flatMap E.c)):=by rfl) (hS:S.contains b=false:=by rfl) (hl:l.contains (some b)=false:=by rfl):qcS A S m (some b::l) (.cells (x.flatMap E.c)::H):= .keep hA (.same fa) hS hl h
theorem qcS.kb {b:Nat} {x y:Blk} {l:List (Option Nat)} {H:Heap} (hA:A[b]? =some y) (hb:qbR A S m x y) (h:qcS A S m l H) (hS:S.contains b=false:=by rfl) (hl:l.contains (some b)=false:=by rfl):qcS A S m (some b::l) (x::H):= .keep hA hb hS hl h
theorem qcI.kp {t i b off:Nat} {l l':List (Nat×AV)} (hl:qcI A S m l l') (h:m[i]? =some (some b):=by rfl):qcI A S m ((t,.ptr b off)::l) ((t,.ptr i off)::l'):= .keep (.ptr h) hl
theorem rc {c' c:AV} {cs' cs:List AV} (h:zQ A S m c' c) (hs:qda A S m cs' cs):qda A S m (c'::cs') (c::cs):=qda.cons h hs
theorem rn:qda A S m [] []:=qda.nil
end
class NR (a:AV):Prop where
 h:qy a
class SN (as:List AV):Prop where
 h:qds as
instance:SN []:=⟨qds.nil⟩
instance {a:AV} {as:List AV} [h:NR a] [k:SN as]:SN (a::as):=⟨qds.cons h.h k.h⟩
instance {k:IntKind} {n:Int}:NR (.int k n):=⟨nI⟩
instance {s:List UInt8}:NR (.str s):=⟨nS⟩
instance {b:Bool}:NR (.bool b):=⟨nB⟩
instance:NR .nilslice:=⟨qy.nilslice⟩
instance:NR .nilptr:=⟨qy.nilptr⟩
instance:NR .nilmap:=⟨qy.nilmap⟩
instance:NR .nilfunc:=⟨qy.nilfunc⟩
instance:NR .niliface:=⟨qy.niliface⟩
instance {α:Type} {E:Enc α} {l:List α}:NR (vl E l):=⟨qf E l⟩
instance {cs:List AV} [h:SN cs]:NR (.agg cs):=⟨qy.agg h.h⟩
instance {cs:List AV} [h:SN cs]:NR (.tuple cs):=⟨qy.tuple h.h⟩
instance {f:Fn} {fs cs:List AV} [h:SN fs] [k:SN cs]:NR (.func f fs cs):=⟨qy.func h.h k.h⟩
instance {cs:List AV} {o:Nat} [h:SN cs]:NR (.fptr cs o):=⟨qy.fptr h.h⟩
instance {fs cs:List AV} [h:SN fs] [k:SN cs]:NR (.fmap fs cs):=⟨qy.fmap h.h k.h⟩
theorem sn {as:List AV} [h:SN as]:qds as:=h.h
theorem gw2 {s:St} {rs:List ResultVar} {v:AV} (xs:List AV) (hf:FzW s.2 (List.range s.2.length) 12 (qf0 xs) v) (hx:jd P s.1 s.2 rs=some xs:=by kernel_rfl):kz P rs v .ret s:=Goes.retW hx hf
theorem gh2 [Base] {s:St} {rs:List ResultVar} {v:AV} {A':Heap} (xs:List AV) (hs:qbQ (qf0 xs) s.2 v A') (hx:jd P s.1 s.2 rs=some xs:=by kernel_rfl):qfB P rs v A' .ret s:=Goes.retH hx hs
end Go.Av
end
noncomputable section
namespace Go.Av
abbrev qz (k:IntKind) (a b:Int):Int:=k.wrap (BitVec.ofInt k.bits a&&&BitVec.ofInt k.bits b).toNat
abbrev orI (k:IntKind) (a b:Int):Int:=k.wrap (BitVec.ofInt k.bits a|||BitVec.ofInt k.bits b).toNat
abbrev qp (k:IntKind) (a b:Int):Int:=a.fdiv (2^(min b.toNat k.bits))
end Go.Av
end
noncomputable section
namespace Go.Av
open Go.RowKit
variable [Glob] {α:Type} {P:Program} {A:Heap} {S:List Nat} {m:List (Option Nat)}
def nvl (E:Enc α) (l:List α):AV:=match l with
 |[]=> .nilslice
 |x::xs=>vl E (x::xs)
theorem qQ (E:Enc α) (l:List α) {d:Nat} (hd:E.dep+1<=d):Still d (nvl E l):=by
 cases l with
 |nil=>obtain⟨d,rfl⟩:=Nat.exists_eq_add_of_le' (show 1<=d by omega);exact Still.nilslice d
 |cons x xs=>exact ql E (x::xs) hd
theorem qjw (E:Enc α) (l:List α):qy (nvl E l):=by
 cases l with
 |nil=>exact qy.nilslice
 |cons x xs=>exact qf E (x::xs)
def encN (E:Enc α):Enc (List α):=one (nvl E) (E.dep+1) (fun x=>by cases x<;>rfl) (fun x d hd=>qQ E x hd) (fun x=>qjw E x) (fun x d=>by cases x<;>cases d<;>rfl)
theorem qkm {E:Enc α} {l:List α} (h:0<l.length):nvl E l=vl E l:=by
 cases l with
 |nil=>exact absurd h (by simp)
 |cons x xs=>rfl
theorem Wk.nv {E:Enc α} {l:List α}:Wk (nvl E l) (vl E l):=by
 cases l with
 |nil=>exact Wk.nil
 |cons x xs=>exact Wk.refl _
theorem Wk.Lnv {E:Enc α} {l:List α} (h:0<l.length):Wk (vl E l) (nvl E l):=by rw[qkm h];exact Wk.refl _
theorem zQ.nv0 {E:Enc α}:zQ A S m (nvl E []) .nilslice:= .same qy.nilslice
theorem zQ.nvL {E:Enc α} {l:List α}:zQ A S m (vl E l) (nvl E l):=by
 cases l with
 |nil=>exact .nilv
 |cons x xs=>exact .same (qf E (x::xs))
theorem zQ.Lnv {E:Enc α} {l:List α} (h:0<l.length):zQ A S m (nvl E l) (vl E l):=by rw[qkm h];exact .same (qf E l)
theorem FzW.nv0 {E:Enc α} {d:Nat}:FzW A S (d+1) .nilslice (nvl E []):= .of rfl
theorem FzW.nvL {E:Enc α} {l:List α} {d:Nat} (hd:E.dep<=d):FzW A S (d+1) (nvl E l) (vl E l):=by
 cases l with
 |nil=>exact FzW.nilv (E:=E)
 |cons x xs=>exact Ua (ql E (x::xs) (by omega))
theorem FzW.Lnv {E:Enc α} {l:List α} {d:Nat} (h:0<l.length) (hd:E.dep<=d):FzW A S (d+1) (vl E l) (nvl E l):=by rw[qkm h];exact Ua (ql E l (by omega))
theorem qch {t e:TypeId} (hu:P.underlying t=some (.slice e)) {E:Enc α} {l:List α} {ox oy:Operand}:(Obl.done (.opt (zx P .eql t ox oy (nvl E l) .nilslice)) (.bool l.isEmpty)).Holds P:=by
 show Pg.opt _=_
 cases l with
 |nil=>simp only[nvl,zx,hu];rfl
 |cons x xs=>simp only[nvl,vl,zx,Yr,hu];rfl
theorem ne_nv {t e:TypeId} (hu:P.underlying t=some (.slice e)) {E:Enc α} {l:List α} {ox oy:Operand}:(Obl.done (.opt (zx P .neq t ox oy (nvl E l) .nilslice)) (.bool (!l.isEmpty))).Holds P:=by
 show Pg.opt _=_
 cases l with
 |nil=>simp only[nvl,zx,hu];rfl
 |cons x xs=>simp only[nvl,vl,zx,Yr,hu];rfl
def qmk (k:IntKind) (a b:Int):Option Int:=if b<0 then none else some (k.wrap (a*2^(min b.toNat k.bits)))
def qnP (k:IntKind) (a b:Int):Option Int:=if b<0 then none else some (a.fdiv (2^(min b.toNat k.bits)))
theorem qgU {t:TypeId} {ox oy:Operand} {k k':IntKind} {a b q:Int} (h:qmk k a b=some q):(Obl.done (.opt (zx P .shl t ox oy (.int k a) (.int k' b))) (.int k q)).Holds P:=by
 unfold qmk at h
 split at h
 ·cases h
 rename_i hb
 obtain rfl:=Ye h
 show Pg.opt _=_
 simp[zx,qc8,qfn,hb,Pg.opt]
theorem qh1 {t:TypeId} {ox oy:Operand} {k k':IntKind} {a b q:Int} (h:qnP k a b=some q):(Obl.done (.opt (zx P .shr t ox oy (.int k a) (.int k' b))) (.int k q)).Holds P:=by
 unfold qnP at h
 split at h
 ·cases h
 rename_i hb
 obtain rfl:=Ye h
 show Pg.opt _=_
 simp[zx,qc8,qfn,hb,Pg.opt]
def qgT (x y c:Int):Option (Int×Int):=if 0<=x/\0<=y/\0<=c/\c<=1 then some ((x+y+c)%18446744073709551616,(x+y+c)/18446744073709551616)else none
def qlB (x y c:Int):Option (Int×Int):=if 0<=x/\0<=y/\y<18446744073709551616/\0<=c/\c<=1 then some ((x-y-c)%18446744073709551616,if x<y+c then 1 else 0)else none
def win (l:List α) (lo hi:Int):Option (Nat×Nat):=if 0<=lo/\lo<=hi/\hi<=l.length/\lo<l.length then some (lo.toNat,(hi-lo).toNat)else none
theorem qpE {l:List α} {lo hi:Int} {p:Nat×Nat} (h:win l lo hi=some p):(0<=lo/\lo<=hi/\hi<=l.length/\lo<l.length)/\p=(lo.toNat,(hi-lo).toNat):=by
 unfold win at h
 split at h
 ·rename_i h0;injection h with h;exact⟨h0,h.symm⟩
 cases h
theorem wn_ix {t e:TypeId} {b:Nat} (T:SlT P t e 1 b) {l:List α} {o:Nat} {lo hi:Int} {j n:Nat} (h:win l lo hi=some (j,n)):(Obl.done (.opt (zi P t (.slice o 0 l.length l.length 1) (some (.int .i64 lo)) (some (.int .i64 hi)) none)) (.slice o j n (l.length-j) 1)).Holds P:=by
 obtain⟨inf,z,g1,g2,_⟩:=T.info
 obtain⟨⟨h1,h2,h3,h4⟩,e⟩:=qpE h
 injection e with e1 e2
 subst e1 e2
 have hb:=qj3 (n:=l.length) (cap:=l.length) (lo:=some lo) (hi:=some hi) rfl rfl (Nat.le_refl _) ⟨h1,h2,h3⟩
 show Pg.opt _=_
 simp only[opI,YN]at hb
 simp only[zi,T.und,g1,hb,g2,Pg.opt,if_true,Nat.mul_one,Nat.zero_add]
 rw[if_neg (by omega)]
 congr 2
 omega
def qhC (l:List α) (j n:Nat) (i:Int):Option α:=if 0<=i/\i<n then idx l ((j+i.toNat:Nat):Int)else none
theorem wI {l:List α} {j n:Nat} {i:Int} {x:α} (h:qhC l j n i=some x):idx l ((j+i.toNat:Nat):Int)=some x:=by
 unfold qhC at h
 split at h
 ·exact h
 cases h
theorem qeg {t e:TypeId} {b:Nat} (T:SlT P t e 1 b) {l:List α} {j n c:Nat} {i:Int} {x:α} {q:IntKind} {o:Nat} (h:qhC l j n i=some x):(Obl.done (.opt (qc P t (.slice o j n c 1) (.int q i))) (.ptr o ((((j+i.toNat:Nat):Int)).toNat*1+0))).Holds P:=by
 obtain⟨inf,z,h1,h2,_⟩:=T.info
 unfold qhC at h
 split at h
 ·rename_i hi
  show Pg.opt _=_
  simp only[qc,T.und,h1,h2,hi.1,hi.2,and_self,if_true,Pg.opt,Nat.add_zero,Nat.mul_one,Int.toNat_natCast]
 cases h
end Go.Av
end
noncomputable section
namespace Go.Av
variable [Glob]
instance {d:Nat} {α:Type} {E:Enc α} {l:List α} [h:SE E]:SC (d+7) (nvl E l):=⟨qQ E l (Nat.le_trans h.h (Nat.le_add_left _ _))⟩
instance {α:Type} {E:Enc α} {l:List α}:NR (nvl E l):=⟨qjw E l⟩
abbrev ni1 (a:Int) (b:List Int):List AV:=[.i a,nvl (qa .u64) b]
abbrev ni2 (a:Int) (b:List Int) (c:Int) (d:List Int):List AV:=[.i a,nvl (qa .u64) b,.i c,nvl (qa .u64) d]
theorem nvc {α:Type} {E:Enc α} {l:List α}:yn (nvl E l)=true:=by cases l<;>rfl
theorem cac {a:AV} {l:List AV} (h:yn a=true) (k:l.all yn=true):(a::l).all yn=true:=by
 rw[List.all_cons,h,k]
 rfl
theorem can:([]:List AV).all yn=true:=rfl
theorem jW {P:Program} {t:TypeId} {n:Nat} {A A':Heap} {b off:Nat} {cs xs:List AV} {v:AV} (ht:(P.info? t).map (·.size)=some n) (hb:A[b]? =some (.cells cs)) (hv:cellsOf v=some xs) (hn:xs.length=n) (ho:Nat.ble (off+n) cs.length=true) (hx:xs.all yn=true) (hA:A'=A.set b (.cells (splice cs off xs))):
 (Obl.run [b] (qm P t (.ptr b off) v) A .undef A' true).Holds P:=by
 subst hn hA
 have ho:=Ys ho
 cases hi:P.info? t with
 |none=>rw[hi]at ht;cases ht
 |some inf=>
  rw[hi]at ht
  simp only[ZM,ZI]at ht
  refine⟨[(b,true),(b,false)],?_,rfl⟩
  simp only[qm,hi,hv]
  rw[qba (by simp) hb]
  simp only[ht,ho,hx,and_self,if_true]
  rw[qdu (by simp) (qdw hb)]
  rfl
end Go.Av
end
noncomputable section
namespace Go.Av
variable [Glob] {P:Program} {α:Type} {E:Enc α} {k:Nat} {S:List Nat} {A:Heap}
theorem qq7 (hk:E.k=k) {q j:Nat} {ys:List α} (hq:A[q]? =some (.cells (ys.flatMap E.c))) (hS:S.contains q=true) (hj:j<=ys.length):qmo E k S A (.slice q 0 j ys.length k) (ys.take j):=by
 subst hk
 refine⟨(by intro s h;cases h),fun K lo f=>⟨(q,false)::f,?_⟩⟩
 have e0:0+j*E.k<=(ys.flatMap E.c).length:=by
  rw[E.flat_len,Nat.zero_add]
  exact Nat.mul_le_mul_right _ hj
 have e1:((ys.flatMap E.c).drop 0).take (j*E.k)=(ys.take j).flatMap E.c:=by
  rw[YR]
  exact qdh E ys j
 have e2:(ys.take j).length=j:=by rw[Ym];omega
 simp only[kg,qa4]
 rw[qba hS hq]
 simp only[yM,if_pos e0,e1,E.flat_cell (ys.take j),if_true,e2]
theorem qoF {t e:TypeId} {b:Nat} (T:SlT P t e k b) (hk:E.k=k) {A':Heap} {Y:AV} {ys l r:List α} {o j:Nat} (hs:qmo E k S A Y ys) (hj:j<=l.length)
 (hb:A[o]? =some (.cells (l.flatMap E.c))) (hS:S.contains o=true) (h:some (qed l j ys)=some r) (hA:A'=A.set o (.cells (r.flatMap E.c))):(Obl.run S (qcy P [t,t] (qgN o k l.length j) Y) A (.int .i64 ((Nat.min ys.length (l.length-j):Nat):Int)) A' true).Holds P:=by
 by_cases h0:l.length-j=0
 ·injection h with h
  subst hA h hk
  obtain⟨inf,z,h1,h2,_⟩:=T.info
  have key:qcy P [t,t] (qgN o E.k l.length j) Y=kg E.k Y fun n cs=>qa9 E.k o 0 (l.length-j) n cs:=by
   simp only[qcy,qgN,T.und,h1,h2,if_true,h0]
  rw[Obl.Holds,key]
  obtain⟨f1,e1⟩:=hs.run (fun n cs=>qa9 E.k o 0 (l.length-j) n cs) A.length []
  refine⟨(o,true)::(o,false)::f1,e1.trans ?_,by simp⟩
  have hm:Nat.min ys.length (l.length-j)=0:=by rw[h0];exact Nat.min_zero _
  have hr:qed l j ys=l:=by
   have:l.drop j=[]:=List.drop_of_length_le (by omega)
   simp[qed,cpy,this,List.take_of_length_le (show l.length<=j by omega)]
  simp only[qa9]
  rw[qba hS hb]
  simp only[hm,Nat.zero_mul,List.take_zero,List.length_nil,Nat.add_zero,Nat.zero_le,if_true]
  rw[qdu hS (qdw hb),hr]
  simp[splice]
  rfl
 have key:qcy P [t,t] (qgN o k l.length j) Y=qcy P [t,t] (.wslice o (j*k) (l.length-j) k) Y:=by
  simp only[qcy,qgN,if_neg h0,Nat.zero_add]
 rw[key]
 exact qq0 T hk hs hj hb hS h hA
end Go.Av
end
noncomputable section
namespace Go.Av
variable [Glob]
open Go.RowKit
theorem Goes.fnHr {P:Program} {c:Code} {f:FuncId} {fn:Func} {args:List AV} {A A':Heap} {v:AV} {m:Nat} {l:List (Nat×AV)} {rs:List ResultVar} (hf:P.funcs[f]? =some fn) (hn:(fn.name== "runtime.NumGoroutine")=false) (hb:fn.body=some c) (hm:args.length+(fn.ntmps-args.length)=m) (hr:fn.results.toList=rs)
 (hl:frFn m args=ofG m l) (h: ∀[Base],Base.A=A->Base.rd=none->Goes P c (ofG m l,A) (qfB P rs v A')):qb P (.fn f) args A v A':=by
 intro F nu w vs i hargs
 subst hr
 letI B:Base:=⟨nu,A,i.fresh,none,none,trivial⟩
 have h:=h rfl rfl
 rw[<-hl]at h
 refine .inl ⟨⟨fn,hf,hn,by rw[hb];rfl⟩,?_⟩
 refine(callsIn_wide (n:=0)).1 ?_
 refine callsIn_of_wp_marks hf hb trivial ?_
 refine h F w 0 F nu _ w (.refl i) (RF.frFn hm hargs) .nil _ (fun x s' F' nu' a' w' q st hfr hd=>?_)
 have post: ∀xs,jd P s'.1 s'.2 fn.results.toList=some xs->qbQ (qf0 xs) s'.2 v A'->
  LeavesInM (fz none) 0 P fn a'.tmps (fun e w'=> ∃x F' nu',e= .returned x/\Stp F nu A w F' nu' A' w'/\R F' nu' w' v x) a'.defers .returning w':=by
  intro xs hrs hv
  refine qef hrs a'.defers st hfr hd (fun F2 nu2 w2 y st2 hR=>?_)
  obtain⟨F3,nu3,h1,h2⟩:=hv.use st2 hR
  exact⟨y,F3,nu3,rfl,h1,h2⟩
 cases x with
 |normal=>obtain⟨xs,h1,h2⟩:=q;exact post xs h1 h2
 |ret=>obtain⟨xs,h1,h2⟩:=q;exact post xs h1 h2
 |exit k=>exact q.elim
end Go.Av
end
noncomputable section
namespace Go.Av
variable [Glob] {α:Type} {P:Program} {A:Heap} {S:List Nat} {E:Enc α} {k:Nat}
theorem qrc {t e:TypeId} {b:Nat} (T:SlT P t e k b) (hk:E.k=k) {A':Heap} {l r:List α} {x:α} {cs:List AV} {o q:Nat} (hq:A[q]? =some (.cells cs)) (hSq:S.contains q=true) (hcs:cs.length=k) (hcc:cs.all yn=true)
 (hb:A[o]? =some (.cells (l.flatMap E.c))) (hS:S.contains o=true) (h:app b l [x]=some r) (hA:A'=A.set o .dead++[.cells (l.flatMap E.c++cs)]):
 (Obl.run S (ja P [t,t] (.gslice o l.length k) (.slice q 0 1 1 k)) A (.gslice A.length r.length k) A' true).Holds P:=by
 have h0:=h
 subst hk hA
 obtain⟨h1,h2,h3⟩:=qe6 h
 have h4:r.length=l.length+1:=by rw[h3];simp
 simp only[Yr,List.length_nil,Nat.zero_add]at h1 h2
 rw[h4,Obl.Holds,T.append E.pos _ _ (by intro s h;cases h)]
 refine⟨[(o,true),(o,false),(q,false)],?_,rfl⟩
 have e1:0+1*E.k<=cs.length:=by omega
 have e2:l.length*E.k<=(l.flatMap E.c).length:=by rw[E.flat_len];exact Nat.le_refl _
 have e3:cs.take (1*E.k)=cs:=by rw[Nat.one_mul,<-hcs,List.take_length]
 have e5:cs.length=1*E.k:=by omega
 simp only[kg,qa4]
 rw[qba hSq hq]
 simp only[yM,if_pos e1,YR,e3,hcc,if_true,qab]
 rw[qba hS hb]
 simp only[e2,h1,h2,and_self,if_true]
 rw[qdu hS (qdw hb),qiR,qgM,qgx,Yk]
variable {m:List (Option Nat)}
theorem qda.app {as bs cs ds:List AV} (h:qda A S m as bs) (k:qda A S m cs ds):qda A S m (as++cs) (bs++ds):=by
 refine⟨by rw[Yq,Yq,h.1,k.1],fun j a b ha hb=>?_⟩
 have hl:=h.1
 rcases Nat.lt_or_ge j as.length with hj|hj
 ·rw[Yf hj]at ha
  rw[Yf (by omega)]at hb
  exact h.2 j a b ha hb
 rw[Yo hj]at ha
 rw[Yo (by omega),<-hl]at hb
 exact k.2 _ a b ha hb
theorem qbR.my {b:Nat} {l z:List α} {x:α} {cs:List AV} (h:app b l [x]=some z) (p:qda A S m (E.c x) cs):qbR A S m (.cells (z.flatMap E.c)) (.cells (l.flatMap E.c++cs)):=by
 obtain⟨_,_,h3⟩:=qe6 h
 subst h3
 rw[List.flatMap_append]
 refine .cells (qda.app ⟨rfl,fun j c' c h1 h2=>?_⟩ (by simpa using p))
 rw[h1]at h2
 injection h2 with h2
 subst h2
 exact .same (E.flat_allN l _ (Yn h1))
end Go.Av
end
noncomputable section
namespace Go.Av
open Go.RowKit
variable [Glob]
def qo2 [Base] (b:Nat) (v:AV) (A':Heap) (x:XA) (s:St):Prop:= ∃v0 A0,qmC b (some (x,s))=some (v0,A0)/\qbQ v0 A0 v A'
theorem Goes.round {P:Program} {b:Nat} {args:List AV} {A A':Heap} {v:AV} {m:Nat} {l0 l:List (Nat×AV)} {st0:LoopState} {p0:Option Code} {ps:Array Tmp} {asg bd:Code} (hA:A[b]? =some (.loop st0 p0 (ofG m l0) ps asg bd)) (hlen:args.length=ps.size)
 (hl:maskF (l.map (·.1)) (setAll (ofG m l0) ps.toList args)=ofG m l)
 (h: ∀[Base],Base.A=A->Goes P asg (ofG m l,A) (andThen (fun s=> ∃p1 f1 ps1 as1 bd1,s.2[b]? =some (.loop .ready p1 f1 ps1 as1 bd1)/\Goes P bd (s.1,s.2.set b (.loop .busy p1 f1 ps1 as1 bd1)) (qo2 b v A')) (fun _ _=>False))):qb P (.rd b) args A v A':=by
 intro F nu w vs rb i hargs hb
 obtain⟨hnF,fn0,tmps0,dd0,hheap,hfr⟩:=i.blk _ _ _ hb hA
 letI B:Base:=⟨nu,A,i.fresh,some b,some rb,hb⟩
 have h:=h rfl
 have hsz:vs.size=ps.size:=by rw[hargs.1,hlen]
 have hy:=run_yield (P:=P) hheap (args:=vs) (by exact hsz)
 refine⟨_,_,_,_,hy,?_⟩
 refine roundIn_of_wpIn trivial ?_
 have hset:RF F nu w (setAll (ofG m l0) ps.toList args) ((ps.zip vs).foldl (fun tmps (t,a)=>tmps.setIfInBounds t a) tmps0):=by
  have h1:=RF.setAll (params:=ps.toList) hfr (args:=args) (vs:=vs.toList) (by simp[hargs.1]) (fun j a v ha hv=>hargs.2 j a v ha (by simpa using hv))
  have e:(ps.zip vs).foldl (fun tmps (t,a)=>tmps.setIfInBounds t a) tmps0=(ps.toList.zip vs.toList).foldl (fun tmps (p:Tmp×Value)=>tmps.setIfInBounds p.1 p.2) tmps0:=by
   rw[<-Array.foldl_toList,Array.toList_zip]
  rw[e]
  exact h1
 have hset:=hset.maskF (l.map (·.1))
 rw[hl]at hset
 have hfz:Fence.wide.inRound rb=fz (some rb):=rfl
 rw[hfz]
 refine h F w 0 F nu _ w (.refl i) hset .nil _ (fun x s F1 nu1 a1 w1 q st1 hf1 hd1=>?_)
 cases x with
 |exit k=>exact q.elim
 |ret=>exact q.elim
 |normal=>
  obtain⟨p1,f1,ps1,as1,bd1,hA1,q⟩:=q
  have hb1:=st1.n _ _ hb
  obtain⟨hnF1,fn1,tmps1,dd1,hheap1,hfr1⟩:=st1.inv.blk _ _ _ hb1 hA1
  have hbeg:=run_beginRound (P:=P) hheap1 rfl
  have st2:=U7 st1.inv (st:= .busy) (pend:=p1) (fr:=f1) (ps:=ps1) (asg:=as1) (body:=bd1) (r:={state:= .busy,pending:=p1,fn:=fn1,tmps:=tmps1,params:=ps1,assign:=as1,body:=bd1,defers:=dd1}) hb1 hA1 rfl hheap1 rfl hfr1
  refine⟨_,hbeg,?_⟩
  refine q F w 0 F1 nu1 _ _ (st1.trans st2) (hf1.mono (st2.ext st1.inv)) (hd1.step st2) _ (fun x2 s2 F2 nu2 a2 w2 q2 st3 hf2 hd2=>?_)
  obtain⟨v0,A0,he,hv⟩:=q2
  obtain⟨y,w3,hend,st4,hR⟩:=qm9 (P:=P) st3.inv (st3.n _ _ hb) he
  obtain⟨F4,nu4,k1,k2⟩:=hv.use (st3.trans st4) hR
  cases x2<;>exact⟨y,w3,hend,y,F4,nu4,rfl,k1,k2⟩
theorem Goes.range [Base] {P:Program} (hm:P.follows .mixedOrders=true) (hb:Base.rd=none) {g:Operand} {ps:Array Tmp} {asg bd:Code} {s s':St} {gf:FuncId} {first captured:List AV} {v:AV} {A2:Heap} {x:XA} {Q:XA->St->Prop} (hg:jo s.1 g= .func (.func gf) first captured) (he:qh4 P gf=true)
 (hc:qb P (.fn gf) (first++[.yld s.2.length]++captured) (s.2++[.loop .ready none s.1 ps asg bd]) v A2) (hx:endA s.2.length s.1 A2=some (x,s')) (hq:Q x s'):Goes P (.rangeFunc g ps asg bd) s Q:=by
 refine Goes.eval (N:=0) hm (qeU hc) ?_ hq
 simp only[zn,hb,rdOK,hg,he,qeQ]
 exact hx
def _root_.Go.Code.x1:Code->Code
 | .seq a _=>a
 | .cond _ a _=>a
 | .block _ c=>c
 | .loop c=>c
 | .scope c=>c
 | .rangeFunc _ _ a _=>a
 |c=>c
def _root_.Go.Code.x2:Code->Code
 | .seq _ b=>b
 | .cond _ _ b=>b
 | .rangeFunc _ _ _ b=>b
 |c=>c
def _root_.Go.Code.xp:Code->Array Tmp
 | .rangeFunc _ ps _ _=>ps
 |_=>#[]
theorem qid {P:Program} {g:FuncId} {args:List AV} {A:Heap} {S:List Nat} {v:AV} {A':Heap} (h:(Obl.callH (.fn g) args A S v A').Holds P):qb P (.fn g) args A v A':=by
 have:=h.2.2 A rfl (fun _ _=>rfl)
 rwa [h.2.1]at this
end Go.Av
end
noncomputable section
namespace Go.Av
variable [Glob]
section
variable [Base] {α:Type}
def setI (rows:List α) (i:Int) (l:α):List α:=rows.set i.toNat l
omit [Glob] [Base]in
end
section
variable {P:Program}
end
end Go.Av
end
