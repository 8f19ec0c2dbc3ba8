/-
  Short words for what the generator prints.
-/
import Derived.Test.YtbpkolibdibmeaaGreatAvOpt
import Derived.Test.YtbpkolibdibmeaaGreatAvHp
set_option linter.unusedSectionVars false
noncomputable section
namespace Go.Av
section
variable [Glob] {α:Type} {P:Program} {A:Heap}
def Obl.orc:Obl->Orc
 | .triv=> .no
 | .done _ v=> .done v
 | .run _ _ _ v A' wr=> .run v A' wr
 | .call _ _ _ S args' v=> .call S args' v
 | .callF _ _ _ S args' v=> .callF S args' v
 | .callH _ _ _ S v A'=> .callH S v A'
theorem an {a b:Prop} (x:a) (y:b):a/\b:=⟨x,y⟩
theorem nb {b:Bool} (h:b=false): ¬b=true:=by rw[h];exact Bool.false_ne_true
theorem si {a b:α} (h:some a=some b):a=b:=Ye h
theorem nl {a b:Nat} (h:Nat.ble a b=true):a<=b:=Ys h
theorem nI {k:IntKind} {n:Int}:qH (.int k n):=qH.int _ _
theorem nS {s:List UInt8}:qH (.str s):=qH.str _
theorem nB {b:Bool}:qH (.bool b):=qH.bool _
theorem tI {d:Nat} {k:IntKind} {n:Int}:Still (d+1) (.int k n):=Still.int _ _ _
theorem tS {d:Nat} {s:List UInt8}:Still (d+1) (.str s):=Still.str _ _
theorem tB {d:Nat} {b:Bool}:Still (d+1) (.bool b):=Still.bool _ _
abbrev bZ:Blk:= .cells [.i 0,.nilslice]
end
section
variable {α κ:Type} [BEq κ] {P:Program}
structure KeyE (K:κ->AV) (d:TypeDesc):Prop where
 eq: ∀a b,qkL (K a) (K b)=some (a==b)
 plain: ∀a,plainKey d (K a)=true
structure MpT (P:Program) (t kt et:TypeId) (d:TypeDesc) (z:AV):Prop where
 und:P.underlying t=some (.map kt et)
 key:P.underlying kt=some d
 zero:((P.info? et).bind (·.zero)).map (qcy 3)=some z
theorem isS {β:Type} {o:Option (List β)} (h:o.isSome=true):o=some (o.getD []):=by cases o with|none=>cases h|some x=>rfl
end
section
variable [Glob]
theorem Ul [Base] {P:Program} {c:Code} {s:St} {Q:XA->St->Prop} (h:Goes P c s (fun x s'=> ∃t,Sub s' t/\Q x t)):Goes P c s Q:=fun F0 w0 n F nu a w st hf hd K hK=>
 h F0 w0 n F nu a w st hf hd K (fun x s' F' nu' a' w' q st2 hf2 hd2=>by
   obtain⟨t,hs,q⟩:=q;obtain⟨F2,nu2,st3,hf3,hd3⟩:=hs F0 w0 F' nu' a' w' st2 hf2 hd2
   exact hK x t F2 nu2 a' w' q st3 hf3 hd3)
theorem qpb {a b:Nat} {u:Unit} (h:(if a=b then some ()else none:Option Unit)=some u):a=b:=by
 split at h
 ·assumption
 cases h
theorem qtO {a:Nat} {u:Unit} (h:(if a<=1000000000 then some ()else none:Option Unit)=some u):a<=9223372036854775807:=by
 split at h
 ·omega
 cases h
end
section
variable [Glob]
def qqC (k:IntKind) (a b:Int):Option Int:=if b=0 then none else some (k.wrap (a.tdiv b))
def qs6 (_:IntKind) (a b:Int):Option Int:=if b=0 then none else some (a.tmod b)
theorem qtA {P:Program} {t:TypeId} {ox oy:Operand} {k:IntKind} {a b q:Int} (h:qqC k a b=some q):(Obl.done (.opt (qaQ P .quo t ox oy (.int k a) (.int k b))) (.int k q)).Holds P:=by
 unfold qqC at h;split at h
 ·cases h
 rename_i hb;obtain rfl:=Ye h;show Pg.opt _=_;simp[qaQ,qej,qhB,hb,Pg.opt]
theorem qtC {P:Program} {t:TypeId} {ox oy:Operand} {k:IntKind} {a b q:Int} (h:qs6 k a b=some q):(Obl.done (.opt (qaQ P .rem t ox oy (.int k a) (.int k b))) (.int k q)).Holds P:=by
 unfold qs6 at h;split at h
 ·cases h
 rename_i hb;obtain rfl:=Ye h;show Pg.opt _=_;simp[qaQ,qej,qhB,hb,Pg.opt]
end
section
variable [Glob] {α:Type} {P:Program} {A:Heap}
class SC (d:Nat) (a:AV):Prop where
 h:Still d a
class SE {α:Type} (E:Enc α):Prop where
 h:E.dep+1<=7
class SX (d:Nat) (as:List AV):Prop where
 h: ∀a∈as,Still d a
instance {d:Nat}:SX d []:=⟨AllST.nil⟩
instance {d:Nat} {a:AV} {as:List AV} [h:SC d a] [k:SX d as]:SX d (a::as):=⟨AllST.cons h.h k.h⟩
instance {d:Nat} {k:IntKind} {n:Int}:SC (d+1) (.int k n):=⟨tI⟩
instance {d:Nat} {s:List UInt8}:SC (d+1) (.str s):=⟨tS⟩
instance {d:Nat} {b:Bool}:SC (d+1) (.bool b):=⟨tB⟩
instance {d:Nat}:SC (d+1) .nilslice:=⟨Still.nilslice _⟩
instance {d:Nat}:SC (d+1) .nilfunc:=⟨Still.nilfunc _⟩
instance {d:Nat}:SC (d+1) .nilptr:=⟨Still.nilptr _⟩
instance {d:Nat}:SC (d+1) .nilmap:=⟨Still.nilmap _⟩
instance {d:Nat}:SC (d+1) .niliface:=⟨fun _ _=>rfl⟩
instance {d:Nat} {cs:List AV} [h:SX d cs]:SC (d+1) (.agg cs):=⟨Still.agg h.h⟩
instance {d:Nat} {cs:List AV} [h:SX d cs]:SC (d+1) (.tuple cs):=⟨Still.tuple h.h⟩
instance {d:Nat} {cs:List AV} {o:Nat} [h:SX d cs]:SC (d+1) (.fptr cs o):=⟨Still.fptr h.h⟩
instance {d:Nat} {f:Fn} {fs cs:List AV} [h:SX d fs] [k:SX d cs]:SC (d+1) (.func f fs cs):=⟨Still.func h.h k.h⟩
instance {d:Nat} {fs cs:List AV} [h:SX d fs] [k:SX d cs]:SC (d+1) (.fmap fs cs):=⟨Still.fmap h.h k.h⟩
instance {d:Nat} {E:Enc α} {l:List α} [h:SE E]:SC (d+7) (vl E l):=⟨qC E l (Nat.le_trans h.h (Nat.le_add_left _ _))⟩
instance:SE encI:=⟨nl rfl⟩
instance:SE encB:=⟨nl rfl⟩
instance:SE encS:=⟨nl rfl⟩
instance {k:IntKind}:SE (zJ k):=⟨nl rfl⟩
instance:SE (qg encI):=⟨nl rfl⟩
instance:SE (qg encS):=⟨nl rfl⟩
instance:SE (qg encB):=⟨nl rfl⟩
theorem qpK: ∀(d:Nat) (a:AV) (A:Heap),frz A [] d a=frz [] [] d a
 |0,_,_=>rfl
 |d+1,a,A=>by
  have e:frz A [] d=frz [] [] d:=funext fun x=>qpK d x A
  unfold frz;rw[e];cases a<;>simp
def Obl.st:Obl->Obl
 | .call g args A S args' v=>match S with
   |[]=> .call g args [] [] args' v
   |b::S=> .call g args A (b::S) args' v
 |o=>o
theorem Obl.st_holds: ∀{o:Obl},o.st.Holds P->o.Holds P
 | .triv,h=>h
 | .done _ _,h=>h
 | .run _ _ _ _ _ _,h=>h
 | .callF _ _ _ _ _ _,h=>h
 | .callH _ _ _ _ _ _,h=>h
 | .call _ _ _ (_::_) _ _,h=>h
 | .call g args A [] args' v,h=>by
   obtain⟨h1,h2⟩:=h;refine⟨?_,h2⟩;rw[show frz A [] 12=frz [] [] 12 from funext fun x=>qpK 12 x A];exact h1
theorem qdT.st: ∀{os:List Obl},qdT P (os.map Obl.st)->qdT P os
 |[],_=>trivial
 |_::_,h=>⟨Obl.st_holds h.1,qdT.st h.2⟩
theorem Goes.rq [Base] (hm:P.follows .mixedOrders=true) {id m:Nat} {ops:Array Oper} {draw:Bool} {l0:List (Nat×AV)} {Q:XA->St->Prop} (ks:List Nat) (l:List (Nat×AV)) (A':Heap) {obls:List Obl} (ho:qdT P obls) (hq:Q .normal (ofG m l,A'))
 (h:(qhQ P ops draw (ks.zip (obls.map Obl.orc)) (l.map (·.1)) (ofG m l0,A)).map (fun r=>(r.1,r.2.1,r.2.2.map Obl.st))=some (ofG m l,A',obls):=by kernel_rfl):Goes P (.region id ops draw) (ofG m l0,A) Q:=by
 obtain⟨r,h1,h2⟩:=Yd.1 h;obtain⟨f,B,os⟩:=r;simp only[ZP]at h2;obtain⟨rfl,rfl,rfl⟩:=h2;exact Goes.reg hm _ _ h1 (qdT.st ho) hq
theorem jf.rq [Base] (hm:P.follows .mixedOrders=true) {id m:Nat} {ops:Array Oper} {draw:Bool} {l0:List (Nat×AV)} (ks:List Nat) (l:List (Nat×AV)) (A':Heap) {obls:List Obl} (ho:qdT P obls)
 (h:(qhQ P ops draw (ks.zip (obls.map Obl.orc)) (l.map (·.1)) (ofG m l0,A)).map (fun r=>(r.1,r.2.1,r.2.2.map Obl.st))=some (ofG m l,A',obls):=by kernel_rfl):jf P id ops draw (ofG m l0,A) (ofG m l,A'):=by
 obtain⟨r,h1,h2⟩:=Yd.1 h;obtain⟨f,B,os⟩:=r;simp only[ZP]at h2;obtain⟨rfl,rfl,rfl⟩:=h2;exact jf.reg hm _ _ h1 (qdT.st ho)
theorem ac {o:Obl} {os:List Obl} (x:o.Holds P) (y:qdT P os):qdT P (o::os):=⟨x,y⟩
theorem az:qdT P []:=trivial
theorem hs (o:Obl) (h:o.Holds P):o.Holds P:=h
theorem cv {g:FuncId} {args:List AV} {v:AV} [k:SX 12 args] [q:SC 12 v] (h:qc P (.fn g) args [] v []):(Obl.call g args [] [] args v).Holds P:=qsK k.h h q.h
theorem gw {b w:Bool} (h:b=w):(Obl.done (.done (.bool b)) (.bool w)).Holds P:=congrArg (fun x=>Pg.done (.bool x)) h
theorem iv {t e:TypeId} {k b:Nat} (T:SlT P t e k b) (E:Enc α) {l:List α} {i:Int} {x:α} (h:idx l i=some x) (hk:E.k=k:=by rfl):(Obl.done (.opt (qd P t (vl E l) (.i i))) (.fptr (l.flatMap E.c) (i.toNat*k))).Holds P:=ix_vl T hk h
theorem lv (off:Nat) {t:TypeId} (T:CeT P t) (E:Enc α) {l:List α} {i:Int} {x:α} (h:idx l i=some x) {c:AV} (hc:(E.c x)[off]? =some c) (ho:Nat.ble (off+1) E.k=true:=by rfl):(Obl.done (zV P t (.fptr (l.flatMap E.c) (i.toNat*E.k+off))) c).Holds P:=ld_vl T rfl h (nl ho) hc
theorem la {t:TypeId} {k:Nat} (T:AgT P t k) (E:Enc α) {l:List α} {i:Int} {x:α} (h:idx l i=some x) (hk:E.k=k:=by rfl):(Obl.done (zV P t (.fptr (l.flatMap E.c) (i.toNat*k))) (.agg (E.c x))).Holds P:=ld_ag T hk h
end
section
variable [Glob] {P:Program} {A:Heap}
section
variable [Base] {id m:Nat} {ops:Array Oper} {draw:Bool} {l0:List (Nat×AV)} {Q:XA->St->Prop} {c2:Code}
theorem sg (hm:P.follows .mixedOrders=true) (l:List (Nat×AV)) (A':Heap) (hq:Goes P c2 (ofG m l,A') Q) (h:qhQ P ops draw [] (l.map (·.1)) (ofG m l0,A)=some (ofG m l,A',[]):=by kernel_rfl):Goes P (.seq (.region id ops draw) c2) (ofG m l0,A) Q:=sq (Goes.rg hm l A' hq h)
theorem sh (hm:P.follows .mixedOrders=true) (l:List (Nat×AV)) (hq:Goes P c2 (ofG m l,A) Q) (h:qhQ P ops draw [] (l.map (·.1)) (ofG m l0,A)=some (ofG m l,A,[]):=by kernel_rfl):Goes P (.seq (.region id ops draw) c2) (ofG m l0,A) Q:=sq (Goes.rg hm l A hq h)
theorem gh (hm:P.follows .mixedOrders=true) (l:List (Nat×AV)) (hq:Q .normal (ofG m l,A)) (h:qhQ P ops draw [] (l.map (·.1)) (ofG m l0,A)=some (ofG m l,A,[]):=by kernel_rfl):Goes P (.region id ops draw) (ofG m l0,A) Q:=Goes.rg hm l A hq h
theorem gq (hm:P.follows .mixedOrders=true) (ks:List Nat) (l:List (Nat×AV)) (A':Heap) {obls:List Obl} (ho:qdT P obls) (hq:Q .normal (ofG m l,A'))
 (h:(qhQ P ops draw (ks.zip (obls.map Obl.orc)) (l.map (·.1)) (ofG m l0,A)).map (fun r=>(r.1,r.2.1,r.2.2.map Obl.st))=some (ofG m l,A',obls):=by kernel_rfl):Goes P (.region id ops draw) (ofG m l0,A) Q:=Goes.rq hm ks l A' ho hq h
theorem gr (hm:P.follows .mixedOrders=true) (ks:List Nat) (l:List (Nat×AV)) {obls:List Obl} (ho:qdT P obls) (hq:Q .normal (ofG m l,A))
 (h:(qhQ P ops draw (ks.zip (obls.map Obl.orc)) (l.map (·.1)) (ofG m l0,A)).map (fun r=>(r.1,r.2.1,r.2.2.map Obl.st))=some (ofG m l,A,obls):=by kernel_rfl):Goes P (.region id ops draw) (ofG m l0,A) Q:=Goes.rq hm ks l A ho hq h
theorem tr (hm:P.follows .mixedOrders=true) (ks:List Nat) (l:List (Nat×AV)) {obls:List Obl} (ho:qdT P obls)
 (h:(qhQ P ops draw (ks.zip (obls.map Obl.orc)) (l.map (·.1)) (ofG m l0,A)).map (fun r=>(r.1,r.2.1,r.2.2.map Obl.st))=some (ofG m l,A,obls):=by kernel_rfl):jf P id ops draw (ofG m l0,A) (ofG m l,A):=jf.rq hm ks l A ho h
end
section
variable [Base] {c1 c2:Code} {s:St} {Q:XA->St->Prop} {co:Operand} {α:Type} {x y r:α}
theorem ihB {b:Bool} (h:(if b=true then x else y)=r) (ht:b=true->x=r->Goes P c1 s Q) (hf:b=false->y=r->Goes P c2 s Q) (hv:yh s.1 co= .bool b:=by kernel_rfl):Goes P (.cond co c1 c2) s Q:=
 U7 hv (fun c=>ht c (by rw[if_pos c]at h;exact h)) (fun c=>hf c (by rw[if_neg (nb c)]at h;exact h))
theorem ihD {p:Prop} [Decidable p] (h:(if p then x else y)=r) (ht:decide p=true->x=r->Goes P c1 s Q) (hf:decide p=false->y=r->Goes P c2 s Q) (hv:yh s.1 co= .bool (decide p):=by kernel_rfl):Goes P (.cond co c1 c2) s Q:=
 U7 hv (fun c=>ht c (by rw[if_pos (of_decide_eq_true c)]at h;exact h)) (fun c=>hf c (by rw[if_neg (of_decide_eq_false c)]at h;exact h))
end
section
variable {α:Type} {x y r:α}
theorem wyB {b:Bool} (h:(if b=true then x else y)=r):b=true/\x=r\/b=false/\y=r:=by
 cases b
 ·rw[if_neg Bool.false_ne_true]at h;exact .inr ⟨rfl,h⟩
 rw[if_pos rfl]at h;exact .inl ⟨rfl,h⟩
theorem wyD {p:Prop} [Decidable p] (h:(if p then x else y)=r):decide p=true/\x=r\/decide p=false/\y=r:=by
 rcases Classical.em p with c|c
 ·rw[if_pos c]at h;exact .inl ⟨decide_eq_true c,h⟩
 rw[if_neg c]at h;exact .inr ⟨decide_eq_false c,h⟩
end
section
variable {S:List Nat} {m:List (Option Nat)}
theorem qcW.ks {α:Type} {E:Enc α} {x:List α} {b:Nat} {l:List (Option Nat)} {H:Heap} (h:qcW A S m l H) (hA:A[b]? =some (.cells (x.flatMap E.c)):=by rfl) (hS:S.contains b=false:=by rfl) (hl:l.contains (some b)=false:=by rfl):qcW A S m (some b::l) (.cells (x.flatMap E.c)::H):= .keep hA (.same fa) hS hl h
theorem qcW.kb {b:Nat} {x y:Blk} {l:List (Option Nat)} {H:Heap} (hA:A[b]? =some y) (hb:yj A S m x y) (h:qcW A S m l H) (hS:S.contains b=false:=by rfl) (hl:l.contains (some b)=false:=by rfl):qcW A S m (some b::l) (x::H):= .keep hA hb hS hl h
theorem qcB.kp {t i b off:Nat} {l l':List (Nat×AV)} (hl:qcB A S m l l') (h:m[i]? =some (some b):=by rfl):qcB A S m ((t,.ptr b off)::l) ((t,.ptr i off)::l'):= .keep (.ptr h) hl
theorem rc {c' c:AV} {cs' cs:List AV} (h:jD A S m c' c) (hs:qcR A S m cs' cs):qcR A S m (c'::cs') (c::cs):=qcR.cons h hs
theorem rn:qcR A S m [] []:=qcR.nil
end
class NR (a:AV):Prop where
 h:qH a
class SN (as:List AV):Prop where
 h:qcI as
instance:SN []:=⟨qcI.nil⟩
instance {a:AV} {as:List AV} [h:NR a] [k:SN as]:SN (a::as):=⟨qcI.cons h.h k.h⟩
instance {k:IntKind} {n:Int}:NR (.int k n):=⟨nI⟩
instance {s:List UInt8}:NR (.str s):=⟨nS⟩
instance {b:Bool}:NR (.bool b):=⟨nB⟩
instance:NR .nilslice:=⟨qH.nilslice⟩
instance:NR .nilptr:=⟨qH.nilptr⟩
instance:NR .nilmap:=⟨qH.nilmap⟩
instance:NR .nilfunc:=⟨qH.nilfunc⟩
instance:NR .niliface:=⟨qH.niliface⟩
instance {α:Type} {E:Enc α} {l:List α}:NR (vl E l):=⟨qa E l⟩
instance {cs:List AV} [h:SN cs]:NR (.agg cs):=⟨qH.agg h.h⟩
instance {cs:List AV} [h:SN cs]:NR (.tuple cs):=⟨qH.tuple h.h⟩
instance {f:Fn} {fs cs:List AV} [h:SN fs] [k:SN cs]:NR (.func f fs cs):=⟨qH.func h.h k.h⟩
instance {cs:List AV} {o:Nat} [h:SN cs]:NR (.fptr cs o):=⟨qH.fptr h.h⟩
instance {fs cs:List AV} [h:SN fs] [k:SN cs]:NR (.fmap fs cs):=⟨qH.fmap h.h k.h⟩
theorem sn {as:List AV} [h:SN as]:qcI as:=h.h
theorem gw2 {s:St} {rs:List ResultVar} {v:AV} (xs:List AV) (hf:FzW s.2 (List.range s.2.length) 12 (qgz xs) v) (hx:jU P s.1 s.2 rs=some xs:=by kernel_rfl):jw P rs v .ret s:=Goes.retW hx hf
theorem gh2 [Base] {s:St} {rs:List ResultVar} {v:AV} {A':Heap} (xs:List AV) (hs:qcE (qgz xs) s.2 v A') (hx:jU P s.1 s.2 rs=some xs:=by kernel_rfl):qcv P rs v A' .ret s:=Goes.retH hx hs
end
abbrev je (k:IntKind) (a b:Int):Int:=k.wrap (BitVec.ofInt k.bits a&&&BitVec.ofInt k.bits b).toNat
abbrev jv (k:IntKind) (a b:Int):Int:=a.fdiv (2^(min b.toNat k.bits))
section
open Go.RowKit
variable [Glob] {α:Type} {P:Program} {A:Heap} {S:List Nat} {m:List (Option Nat)}
def nvl (E:Enc α) (l:List α):AV:=match l with
 |[]=> .nilslice
 |x::xs=>vl E (x::xs)
theorem qG (E:Enc α) (l:List α) {d:Nat} (hd:E.dep+1<=d):Still d (nvl E l):=by
 cases l with
 |nil=>obtain⟨d,rfl⟩:=Nat.exists_eq_add_of_le' (show 1<=d by omega);exact Still.nilslice d
 |cons x xs=>exact qC E (x::xs) hd
theorem qc7 (E:Enc α) (l:List α):qH (nvl E l):=by
 cases l with
 |nil=>exact qH.nilslice
 |cons x xs=>exact qa E (x::xs)
def qlQ (E:Enc α):Enc (List α):=one (nvl E) (E.dep+1) (fun x=>by cases x<;>rfl) (fun x d hd=>qG E x hd) (fun x=>qc7 E x) (fun x d=>by cases x<;>cases d<;>rfl)
theorem FzW.nv0 {E:Enc α} {d:Nat}:FzW A S (d+1) .nilslice (nvl E []):= .of rfl
theorem qbP {t e:TypeId} (hu:P.underlying t=some (.slice e)) {E:Enc α} {l:List α} {ox oy:Operand}:(Obl.done (.opt (qaQ P .eql t ox oy (nvl E l) .nilslice)) (.bool l.isEmpty)).Holds P:=by
 show Pg.opt _=_
 cases l with
 |nil=>simp only[nvl,qaQ,hu];rfl
 |cons x xs=>simp only[nvl,vl,qaQ,Yr,hu];rfl
theorem ixA {t:TypeId} {x v:AV} {k c:Int} (h:k=c) (e:qd P t x (.int .i64 c)=some v):(Obl.done (.opt (qd P t x (.int .i64 k))) v).Holds P:=by
 subst h;show Pg.opt _=_;rw[e];rfl
end
section
variable [Glob]
instance {d:Nat} {α:Type} {E:Enc α} {l:List α} [h:SE E]:SC (d+7) (nvl E l):=⟨qG E l (Nat.le_trans h.h (Nat.le_add_left _ _))⟩
instance {α:Type} {E:Enc α} {l:List α}:NR (nvl E l):=⟨qc7 E l⟩
abbrev ni1 (a:Int) (b:List Int):List AV:=[.i a,nvl (zJ .u64) b]
abbrev ni2 (a:Int) (b:List Int) (c:Int) (d:List Int):List AV:=[.i a,nvl (zJ .u64) b,.i c,nvl (zJ .u64) d]
theorem nvc {α:Type} {E:Enc α} {l:List α}:yg (nvl E l)=true:=by cases l<;>rfl
theorem cac {a:AV} {l:List AV} (h:yg a=true) (k:l.all yg=true):(a::l).all yg=true:=by
 rw[List.all_cons,h,k];rfl
theorem can:([]:List AV).all yg=true:=rfl
theorem vV {P:Program} {t:TypeId} {n:Nat} {A A':Heap} {b off:Nat} {cs xs:List AV} {v:AV} (ht:(P.info? t).map (·.size)=some n) (hb:A[b]? =some (.cells cs)) (hv:cellsOf v=some xs) (hn:xs.length=n) (ho:Nat.ble (off+n) cs.length=true) (hx:xs.all yg=true) (hA:A'=A.set b (.cells (splice cs off xs))):
 (Obl.run [b] (qI P t (.ptr b off) v) A .undef A' true).Holds P:=by
 subst hn hA;have ho:=Ys ho
 cases hi:P.info? t with
 |none=>rw[hi]at ht;cases ht
 |some inf=>
  rw[hi]at ht;simp only[ZM,ZI]at ht;refine⟨[(b,true),(b,false)],?_,rfl⟩;simp only[qI,hi,hv];rw[qbc (by simp) hb];simp only[ht,ho,hx,and_self,if_true];rw[qdu (by simp) (qdl hb)];rfl
end
section
variable [Glob] {P:Program} {α:Type} {E:Enc α} {k:Nat} {S:List Nat} {A:Heap}
theorem qtT (hk:E.k=k) {q j:Nat} {ys:List α} (hq:A[q]? =some (.cells (ys.flatMap E.c))) (hS:S.contains q=true) (hj:j<=ys.length):qnN E k S A (.slice q 0 j ys.length k) (ys.take j):=by
 subst hk;refine⟨(by intro s h;cases h),fun K lo f=>⟨(q,false)::f,?_⟩⟩
 have e0:0+j*E.k<=(ys.flatMap E.c).length:=by
  rw[E.flat_len,Nat.zero_add];exact Nat.mul_le_mul_right _ hj
 have e1:((ys.flatMap E.c).drop 0).take (j*E.k)=(ys.take j).flatMap E.c:=by
  rw[YR];exact qc8 E ys j
 have e2:(ys.take j).length=j:=by rw[Ym];omega
 simp only[zq,qay];rw[qbc hS hq];simp only[vR,if_pos e0,e1,E.flat_cell (ys.take j),if_true,e2]
theorem qtc {t e:TypeId} {b:Nat} (T:SlT P t e k b) (hk:E.k=k) {A':Heap} {Y:AV} {ys l r:List α} {o j:Nat} (hs:qnN E k S A Y ys) (hj:j<=l.length)
 (hb:A[o]? =some (.cells (l.flatMap E.c))) (hS:S.contains o=true) (h:some (qh4 l j ys)=some r) (hA:A'=A.set o (.cells (r.flatMap E.c))):(Obl.run S (qcr P [t,t] (qhe o k l.length j) Y) A (.int .i64 ((Nat.min ys.length (l.length-j):Nat):Int)) A' true).Holds P:=by
 by_cases h0:l.length-j=0
 ·injection h with h;subst hA h hk;obtain⟨inf,z,h1,h2,_⟩:=T.info
  have key:qcr P [t,t] (qhe o E.k l.length j) Y=zq E.k Y fun n cs=>qbu E.k o 0 (l.length-j) n cs:=by
   simp only[qcr,qhe,T.und,h1,h2,if_true,h0]
  rw[Obl.Holds,key];obtain⟨f1,e1⟩:=hs.run (fun n cs=>qbu E.k o 0 (l.length-j) n cs) A.length [];refine⟨(o,true)::(o,false)::f1,e1.trans ?_,by simp⟩
  have hm:Nat.min ys.length (l.length-j)=0:=by rw[h0];exact Nat.min_zero _
  have hr:qh4 l j ys=l:=by
   have:l.drop j=[]:=List.drop_of_length_le (by omega);simp[qh4,cpy,this,List.take_of_length_le (show l.length<=j by omega)]
  simp only[qbu];rw[qbc hS hb];simp only[hm,Nat.zero_mul,List.take_zero,List.length_nil,Nat.add_zero,Nat.zero_le,if_true];rw[qdu hS (qdl hb),hr];simp[splice];rfl
 have key:qcr P [t,t] (qhe o k l.length j) Y=qcr P [t,t] (.wslice o (j*k) (l.length-j) k) Y:=by
  simp only[qcr,qhe,if_neg h0,Nat.zero_add]
 rw[key];exact qtF T hk hs hj hb hS h hA
end
section
variable [Glob] {α:Type} {P:Program} {A:Heap} {S:List Nat} {E:Enc α} {k:Nat}
theorem qt2 {t e:TypeId} {b:Nat} (T:SlT P t e k b) (hk:E.k=k) {A':Heap} {l r:List α} {x:α} {cs:List AV} {o q:Nat} (hq:A[q]? =some (.cells cs)) (hSq:S.contains q=true) (hcs:cs.length=k) (hcc:cs.all yg=true)
 (hb:A[o]? =some (.cells (l.flatMap E.c))) (hS:S.contains o=true) (h:app b l [x]=some r) (hA:A'=A.set o .dead++[.cells (l.flatMap E.c++cs)]):
 (Obl.run S (vM P [t,t] (.gslice o l.length k) (.slice q 0 1 1 k)) A (.gslice A.length r.length k) A' true).Holds P:=by
 have h0:=h;subst hk hA;obtain⟨h1,h2,h3⟩:=qfv h
 have h4:r.length=l.length+1:=by rw[h3];simp
 simp only[Yr,List.length_nil,Nat.zero_add]at h1 h2;rw[h4,Obl.Holds,T.append E.pos _ _ (by intro s h;cases h)];refine⟨[(o,true),(o,false),(q,false)],?_,rfl⟩
 have e1:0+1*E.k<=cs.length:=by omega
 have e2:l.length*E.k<=(l.flatMap E.c).length:=by rw[E.flat_len];exact Nat.le_refl _
 have e3:cs.take (1*E.k)=cs:=by rw[Nat.one_mul,<-hcs,List.take_length]
 have e5:cs.length=1*E.k:=by omega
 simp only[zq,qay];rw[qbc hSq hq];simp only[vR,if_pos e1,YR,e3,hcc,if_true,xK];rw[qbc hS hb];simp only[e2,h1,h2,and_self,if_true];rw[qdu hS (qdl hb),qhn,qeD,qfh,Yk]
variable {m:List (Option Nat)}
theorem qcR.app {as bs cs ds:List AV} (h:qcR A S m as bs) (k:qcR A S m cs ds):qcR A S m (as++cs) (bs++ds):=by
 refine⟨by rw[Yq,Yq,h.1,k.1],fun j a b ha hb=>?_⟩;have hl:=h.1;rcases Nat.lt_or_ge j as.length with hj|hj
 ·rw[Yf hj]at ha;rw[Yf (by omega)]at hb;exact h.2 j a b ha hb
 rw[Yo hj]at ha;rw[Yo (by omega),<-hl]at hb;exact k.2 _ a b ha hb
theorem yj.my {b:Nat} {l z:List α} {x:α} {cs:List AV} (h:app b l [x]=some z) (p:qcR A S m (E.c x) cs):yj A S m (.cells (z.flatMap E.c)) (.cells (l.flatMap E.c++cs)):=by
 obtain⟨_,_,h3⟩:=qfv h;subst h3;rw[List.flatMap_append];refine .cells (qcR.app ⟨rfl,fun j c' c h1 h2=>?_⟩ (by simpa using p));rw[h1]at h2;injection h2 with h2;subst h2;exact .same (E.flat_allN l _ (Yn h1))
end
section
variable [Glob] {α:Type} {P:Program} {A:Heap} {S:List Nat} {E:Enc α} {k:Nat}
theorem qut {t e:TypeId} {b:Nat} (T:SlT P t e k b) (hk:E.k=k) {l:List α} {o:Nat}
 (hb:A[o]? =some (.cells (l.flatMap E.c))) (hS:S.contains o=true) (h0:Nat.blt 0 l.length=true):
 (Obl.run S (vM P [t,t] (.slice o 0 l.length l.length k) (vl E ([]:List α))) A (.slice o 0 l.length l.length k) A true).Holds P:=by
 subst hk;have h0:0<l.length:=Ys h0;rw[Obl.Holds,T.append E.pos _ _ (by intro s h;cases h)];refine⟨[(o,true),(o,false)],?_,rfl⟩
 have e2:l.length*E.k<=(l.flatMap E.c).length:=by rw[E.flat_len];exact Nat.le_refl _
 simp only[vl,zq,xK,List.flatMap_nil,List.length_nil,Nat.zero_mul,List.all_nil,and_self,if_true];rw[if_neg (by rintro⟨h,_⟩;omega),if_pos (by omega),qbc hS hb];simp only[true_and,List.length_nil,Nat.add_zero,Nat.zero_add,e2,if_true];rw[qdu hS (qdl hb),qeD]
 have e3:splice (l.flatMap E.c) (l.length*E.k) []=l.flatMap E.c:=by
  simp[splice,<-E.flat_len]
 rw[e3,show A.set o (.cells (l.flatMap E.c))=A from by
  obtain⟨h1,h2⟩:=Yb.1 hb
  rw[<-h2];exact List.set_getElem_self h1]
end
section
open Go.RowKit
variable [Glob]
def qsl [Base] (b:Nat) (v:AV) (A':Heap) (x:XA) (s:St):Prop:= ∃v0 A0,qnD b (some (x,s))=some (v0,A0)/\qcE v0 A0 v A'
theorem Goes.round {P:Program} {b:Nat} {args:List AV} {A A':Heap} {v:AV} {m:Nat} {l0 l:List (Nat×AV)} {st0:LoopState} {p0:Option Code} {ps:Array Tmp} {asg bd:Code} (hA:A[b]? =some (.loop st0 p0 (ofG m l0) ps asg bd)) (hlen:args.length=ps.size)
 (hl:maskF (l.map (·.1)) (setAll (ofG m l0) ps.toList args)=ofG m l)
 (h: ∀[Base],Base.A=A->Goes P asg (ofG m l,A) (andThen (fun s=> ∃p1 f1 ps1 as1 bd1,s.2[b]? =some (.loop .ready p1 f1 ps1 as1 bd1)/\Goes P bd (s.1,s.2.set b (.loop .busy p1 f1 ps1 as1 bd1)) (qsl b v A')) (fun _ _=>False))):qc P (.rd b) args A v A':=by
 intro F nu w vs rb i hargs hb;obtain⟨hnF,fn0,tmps0,dd0,hheap,hfr⟩:=i.blk _ _ _ hb hA
 letI B:Base:=⟨nu,A,i.fresh,some b,some rb,hb⟩
 have h:=h rfl
 have hsz:vs.size=ps.size:=by rw[hargs.1,hlen]
 have hy:=run_yield (P:=P) hheap (args:=vs) (by exact hsz);refine⟨_,_,_,_,hy,?_⟩;refine roundIn_of_wpIn trivial ?_
 have hset:RF F nu w (setAll (ofG m l0) ps.toList args) ((ps.zip vs).foldl (fun tmps (t,a)=>tmps.setIfInBounds t a) tmps0):=by
  have h1:=RF.setAll (params:=ps.toList) hfr (args:=args) (vs:=vs.toList) (by simp[hargs.1]) (fun j a v ha hv=>hargs.2 j a v ha (by simpa using hv))
  have e:(ps.zip vs).foldl (fun tmps (t,a)=>tmps.setIfInBounds t a) tmps0=(ps.toList.zip vs.toList).foldl (fun tmps (p:Tmp×Value)=>tmps.setIfInBounds p.1 p.2) tmps0:=by
   rw[<-Array.foldl_toList,Array.toList_zip]
  rw[e];exact h1
 have hset:=hset.maskF (l.map (·.1));rw[hl]at hset;have hfz:Fence.wide.inRound rb=fz (some rb):=rfl;rw[hfz];refine h F w 0 F nu _ w (.refl i) hset .nil _ (fun x s F1 nu1 a1 w1 q st1 hf1 hd1=>?_)
 cases x with
 |exit k=>exact q.elim
 |ret=>exact q.elim
 |normal=>
  obtain⟨p1,f1,ps1,as1,bd1,hA1,q⟩:=q;have hb1:=st1.n _ _ hb;obtain⟨hnF1,fn1,tmps1,dd1,hheap1,hfr1⟩:=st1.inv.blk _ _ _ hb1 hA1;have hbeg:=run_beginRound (P:=P) hheap1 rfl;have st2:=U1 st1.inv (st:= .busy) (pend:=p1) (fr:=f1) (ps:=ps1) (asg:=as1) (body:=bd1) (r:={state:= .busy,pending:=p1,fn:=fn1,tmps:=tmps1,params:=ps1,assign:=as1,body:=bd1,defers:=dd1}) hb1 hA1 rfl hheap1 rfl hfr1;refine⟨_,hbeg,?_⟩;refine q F w 0 F1 nu1 _ _ (st1.trans st2) (hf1.mono (st2.ext st1.inv)) (hd1.step st2) _ (fun x2 s2 F2 nu2 a2 w2 q2 st3 hf2 hd2=>?_);obtain⟨v0,A0,he,hv⟩:=q2;obtain⟨y,w3,hend,st4,hR⟩:=qoy (P:=P) st3.inv (st3.n _ _ hb) he;obtain⟨F4,nu4,k1,k2⟩:=hv.use (st3.trans st4) hR;cases x2<;>exact⟨y,w3,hend,y,F4,nu4,rfl,k1,k2⟩
theorem Goes.range [Base] {P:Program} (hm:P.follows .mixedOrders=true) (hb:Base.rd=none) {g:Operand} {ps:Array Tmp} {asg bd:Code} {s s':St} {gf:FuncId} {first captured:List AV} {v:AV} {A2:Heap} {x:XA} {Q:XA->St->Prop} (hg:yh s.1 g= .func (.func gf) first captured) (he:qik P gf=true)
 (hc:qc P (.fn gf) (first++[.yld s.2.length]++captured) (s.2++[.loop .ready none s.1 ps asg bd]) v A2) (hx:endA s.2.length s.1 A2=some (x,s')) (hq:Q x s'):Goes P (.rangeFunc g ps asg bd) s Q:=by
 refine Goes.eval (N:=0) hm (qeF hc) ?_ hq;simp only[zR,hb,rdOK,hg,he,qew];exact hx
def _root_.Go.Code.x1:Code->Code
 | .seq a _=>a
 | .cond _ a _=>a
 | .block _ c=>c
 | .loop c=>c
 | .scope c=>c
 | .rangeFunc _ _ a _=>a
 |c=>c
def _root_.Go.Code.x2:Code->Code
 | .seq _ b=>b
 | .cond _ _ b=>b
 | .rangeFunc _ _ _ b=>b
 |c=>c
def _root_.Go.Code.xp:Code->Array Tmp
 | .rangeFunc _ ps _ _=>ps
 |_=>#[]
theorem qiF {P:Program} {g:FuncId} {args:List AV} {A:Heap} {S:List Nat} {v:AV} {A':Heap} (h:(Obl.callH (.fn g) args A S v A').Holds P):qc P (.fn g) args A v A':=by
 have:=h.2.2 A rfl (fun _ _=>rfl)
 rwa [h.2.1]at this
end
section
variable [Glob]
section
variable [Base] {α:Type}
theorem Sub.stp {fr:Fr} {A A':Heap} (h: ∀(F:Nat->Prop) (nu:Nat->Option Nat) (w:World),Inv F nu A w-> ∃F' nu',Stp F nu A w F' nu' A' w):Sub (fr,A) (fr,A'):=fun _ _ F nu _ w st hf hd=>by
 obtain⟨F',nu',s⟩:=h F nu w st.inv;exact⟨F',nu',st.trans s,hf.mono (s.ext st.inv),hd.step s⟩
def vB (E:Enc α) (l:List α):Ent:= .own E.k (l.flatMap E.c)
def bg (E:Enc α) (rows:List (List α)):Blk:= .bag (rows.map (vB E))
theorem Sub.bagNil {E:Enc α} {fr:Fr} {A:Heap} {b n:Nat} {cs:List AV} (hA:A[b]? =some (.cells cs)) (hc:cs=List.replicate n .nilslice):Sub (fr,A) (fr,A.set b (bg E (List.replicate n []))):=by
 refine Sub.stp fun F nu w i=>⟨F,nu,?_⟩
 subst hc
 have noOwn: ∀(vs:Array Value) (j r:Nat),(∃rb e,nu b=some rb/\w.heap[rb]? =some (.cells vs e (0,0)))-> ¬OwnAt ((List.replicate n []).map (vB E)) vs j r:=by
  rintro vs j r ⟨rb,e,hb,hh⟩ ⟨k,ds,m,cap,h1,h2,h3⟩;obtain⟨_,vs',e',g1,g2,g3⟩:=i.blk b rb _ hb hA;rw[hh]at g1;simp only[ZI,Obj.cells.injEq]at g1;obtain⟨rfl,rfl,_⟩:=g1
  have hj:j<n:=by have:=(Yb.1 h1).1;simpa using this
  have:=g3 j .nilslice _ (by simp[hj]) h2;cases this
 refine Stp.still i (by simp) (fun c rb x hc hx=>?_) (fun c rb x r hc hx ho hf=>?_) (fun c c' rb rb' x x' r hc hc' hx hx' ho ho' hr hr'=>?_)
 ·rcases getElem?_set' hx with⟨rfl,rfl⟩|⟨_,hx⟩
  ·obtain⟨h0,vs,e,h1,h2,h3⟩:=i.blk _ rb _ hc hA;refine⟨h0,vs,e,h1,by simpa using h2,fun j y v hy hv=>?_,fun j r hj=>absurd hj (noOwn vs j r ⟨rb,e,hc,h1⟩),fun j j' r hj=>absurd hj (noOwn vs j r ⟨rb,e,hc,h1⟩)⟩
   have hj:j<n:=by have:=(Yb.1 hy).1;simpa using this
   have hR:=h3 j .nilslice v (by simp[hj]) hv
   have ey:y= .own E.k []:=by
    simp[hj,vB]at hy;exact hy.symm
   subst ey;cases hR
   exact .inl ⟨rfl,none,rfl⟩
  exact i.blk c rb x hc hx
 ·rcases getElem?_set' hx with⟨rfl,rfl⟩|⟨_,hx⟩
  ·rcases hf with h|⟨vs,e,j,h1,h2⟩
   ·exact⟨_,_,rb,hc,hA,rfl,.inl h⟩
   exact absurd h2 (noOwn vs j r ⟨rb,e,hc,h1⟩)
  exact⟨c,x,rb,hc,hx,ho,hf⟩
 have ft: ∀{rb r:Nat},nu b=some rb->Ft w rb (bg E (List.replicate n [])) r->r=rb:=by
  rintro rb r hb (h|⟨vs,e,j,h1,h2⟩)
  ·exact h
  exact absurd h2 (noOwn vs j r ⟨rb,e,hb,h1⟩)
 rcases getElem?_set' hx with⟨e1,e1'⟩|⟨_,kx⟩
 ·rcases getElem?_set' hx' with⟨e2,_⟩|⟨_,kx'⟩
  ·exact e1.symm.trans e2
  subst e1 e1';exact i.injF b c' rb rb' _ x' r hc hc' hA kx' rfl ho' (.inl (ft hc hr)) hr'
 rcases getElem?_set' hx' with⟨e2,e2'⟩|⟨_,kx'⟩
 ·subst e2 e2';exact i.injF c b rb rb' x _ r hc hc' kx hA ho rfl hr (.inl (ft hc' hr'))
 exact i.injF c c' rb rb' x x' r hc hc' kx kx' ho ho' hr hr'
def zQ (rows:List α) (i:Int) (l:α):List α:=rows.set i.toNat l
omit [Glob] [Base]in
theorem qdp (rows:List α) (i:Int) (l:α):rows.length=(zQ rows i l).length:=(Yk ..).symm
theorem Sub.bagNil1 {E:Enc α} {fr:Fr} {A:Heap} {b k:Nat} {n:Int} {l:List (List α)} (hA:A[b]? =some (.cells (l.flatMap (qlQ E).c))) (h:mk k n []=some l):Sub (fr,A) (fr,A.set b (bg E l)):=by
 unfold mk at h;split at h
 ·injection h with h;subst h;refine Sub.bagNil hA ?_;generalize n.toNat=m
  induction m with
  |zero=>rfl
  |succ m ih=>rw[List.replicate_succ,List.flatMap_cons,ih,List.replicate_succ];rfl
 cases h
theorem Sub.bagTake {E:Enc α} {fr:Fr} {A:Heap} {b j:Nat} {es:List Ent} {l:List α} (hA:A[b]? =some (.bag es)) (hj:es[j]? =some (vB E l)):
 Sub (fr,A) (fr,A.set b (.bag (es.set j (.av (.gslice A.length l.length E.k))))++[.cells (l.flatMap E.c)]):=
 Sub.stp fun F _ _ i=>⟨F,Stp.take i hA hj (E.flat_len l).symm E.pos⟩
theorem Sub.bagGive {E:Enc α} {fr:Fr} {A:Heap} {b c j:Nat} {es:List Ent} {a:AV} {l:List α} (hne:b≠c) (hA:A[b]? =some (.bag es)) (hC:A[c]? =some (.cells (l.flatMap E.c))) (hj:es[j]? =some (.av a)) (ha:qqe c l.length E.k a):
 Sub (fr,A) (fr,(A.set b (.bag (es.set j (vB E l)))).set c .dead):=
 Sub.stp fun F nu _ i=>⟨F,nu,Stp.give i hne hA hC hj ha (E.flat_len l).symm⟩
theorem qqD {E:Enc α} {rows:List (List α)} {i:Int} {x:List α} (h:idx rows i=some x):(rows.map (vB E))[i.toNat]? =some (vB E x):=by
 obtain⟨_,_,g⟩:=qa6 h;rw[YA,g];rfl
theorem qq7 {E:Enc α} {rows:List (List α)} {i:Int} {x:List α} (h:idx rows i=some x):i.toNat<(rows.map (vB E)).length:=(Yb.1 (qqD h)).1
theorem at_set {E:Enc α} {rows:List (List α)} {i:Int} {x:List α} (h:idx rows i=some x) {y:Ent}:((rows.map (vB E)).set i.toNat y)[i.toNat]? =some y:=by
 rw[List.getElem?_set,if_pos rfl,if_pos (qq7 h)]
theorem Uz {E:Enc α} {fr:Fr} {A:Heap} {b:Nat} {rows:List (List α)} {i:Int} {x:List α} (hA:A[b]? =some (bg E rows)) (h:idx rows i=some x):
 Sub (fr,A) (fr,A.set b (.bag ((rows.map (vB E)).set i.toNat (.av (.gslice A.length x.length E.k))))++[.cells (x.flatMap E.c)]):=Sub.bagTake hA (qqD h)
theorem Uu {E:Enc α} {fr:Fr} {A:Heap} {b c n:Nat} {rows:List (List α)} {i:Int} {x l:List α} {a:AV} (hne:b≠c) (hA:A[b]? =some (.bag ((rows.map (vB E)).set i.toNat (.av a)))) (hC:A[c]? =some (.cells (l.flatMap E.c)))
 (h:idx rows i=some x) (ha:qqe c n E.k a) (hn:n=l.length):Sub (fr,A) (fr,(A.set b (bg E (zQ rows i l))).set c .dead):=by
 subst hn
 have e:bg E (zQ rows i l)= .bag (((rows.map (vB E)).set i.toNat (.av a)).set i.toNat (vB E l)):=by
  unfold bg zQ;rw[List.set_set,List.map_set]
 rw[e];exact Sub.bagGive hne hA hC (at_set h) ha
theorem Sub.bagFreeze {E:Enc α} {fr:Fr} {A:Heap} {b:Nat} {rows:List (List α)} (hA:A[b]? =some (bg E rows)):Sub (fr,A) (fr,A.set b (.frozen (rows.flatMap (qg E).c))):=by
 have e:rows.flatMap (qg E).c=rows.map (vl E):=by
  clear hA
  induction rows with
  |nil=>rfl
  |cons r rows ih=>rw[List.flatMap_cons,ih];rfl
 rw[e]
 refine Sub.stp fun F nu w i=>?_
 have hz: ∀(j:Nat) (y:Ent) (a:AV),(rows.map (vB E))[j]? =some y->(rows.map (vl E))[j]? =some a-> ∃k n cs,y= .own k cs/\n*k=cs.length/\0<k/\a= .fslice n cs:=by
  intro j y a hy ha;rw[YA]at hy ha;obtain⟨r,hr,rfl⟩:=Yd.1 hy;rw[hr]at ha;simp only[ZM,ZI]at ha;exact⟨E.k,r.length,_,rfl,(E.flat_len r).symm,E.pos,ha.symm⟩
 obtain⟨F',h⟩:=Stp.freezeBag i hA (fs:=rows.map (vl E)) (by simp) hz;exact⟨F',nu,h⟩
end
theorem ownN {α:Type} {E:Enc α} {rows:List (List α)} {j:Nat} {x:Ent} (h:(rows.map (vB E))[j]? =some x): ∃r,x=vB E r/\qcI (r.flatMap E.c):=by
 rw[YA]at h;obtain⟨r,_,rfl⟩:=Yd.1 h;refine⟨r,rfl,fun c hc=>?_⟩;obtain⟨y,_,hy⟩:=List.mem_flatMap.1 hc;exact E.noRef y c hy
theorem yj.bgs {α:Type} {A:Heap} {S:List Nat} {m:List (Option Nat)} {E:Enc α} {rows:List (List α)}:yj A S m (bg E rows) (bg E rows):=by
 refine .bag rfl fun j x' x h1 h2=>?_
 rw[h1]at h2;obtain rfl:=Ye h2;obtain⟨r,rfl,hr⟩:=ownN h1;exact .own hr
theorem yj.bgv {α:Type} {A:Heap} {S:List Nat} {m:List (Option Nat)} {E:Enc α} {rows:List (List α)} {i:Nat} {a' a:AV} (h:jD A S m a' a):yj A S m (.bag ((rows.map (vB E)).set i (.av a'))) (.bag ((rows.map (vB E)).set i (.av a))):=by
 refine .bag (by simp) fun j x' x h1 h2=>?_
 by_cases e:j=i
 ·subst e;have hlt:=(Yb.1 h1).1;rw[Yk]at hlt;rw[List.getElem?_set_self hlt]at h1 h2;obtain rfl:=Ye h1;obtain rfl:=Ye h2;exact .av h
 rw[Yw (fun c=>e c.symm)]at h1 h2;rw[h1]at h2;obtain rfl:=Ye h2;obtain⟨r,rfl,hr⟩:=ownN h1;exact .own hr
section
variable {P:Program}
theorem qlh {t:TypeId} (T:CeT P t) {A:Heap} {o:Nat} {es:List Ent} (hb:A[o]? =some (.bag es)) {i:Int} {a:AV} (h:es[i.toNat]? =some (.av a)):(Obl.run [o] (zV P t (.ptr o (i.toNat*1+0))) A a A false).Holds P:=by
 refine⟨[(o,false)],?_,rfl⟩;rw[T.load];simp only[yP,qay,Nat.mul_one,Nat.add_zero];rw[qbc (by simp) hb];simp only[vR,h];rfl
theorem qoL {t:TypeId} {A A':Heap} {o:Nat} {es:List Ent} (ht:(P.info? t).map (·.size)=some 1) (hb:A[o]? =some (.bag es)) {i:Int} {a:AV} (h:i.toNat<es.length) (hv:cellsOf a=some [a]) (hx:yg a=true) (hA:A'=A.set o (.bag (es.set i.toNat (.av a)))):
 (Obl.run [o] (qI P t (.ptr o (i.toNat*1+0)) a) A .undef A' true).Holds P:=by
 subst hA
 cases hi:P.info? t with
 |none=>rw[hi]at ht;cases ht
 |some inf=>
  rw[hi]at ht;simp only[ZM,ZI]at ht;refine⟨[(o,true),(o,false)],?_,rfl⟩;simp only[qI,hi,hv,Nat.mul_one,Nat.add_zero];rw[qbc (by simp) hb];simp only[ht,h,hx,and_self,if_true];rw[qdu (by simp) (qdl hb)];rfl
end
end
end Go.Av
end
