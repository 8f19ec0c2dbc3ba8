/-
  Short words for what the generator prints.
-/
import Derived.Test.YtojjlmnhhgebhaaGreatDoorAvOpt
import Derived.Test.YtojjlmnhhgebhaaGreatDoorAvHp
set_option linter.unusedSectionVars false
section
namespace Go.Av
variable [Glob] {α:Type} {P:Program} {A:Heap}
def Obl.orc:Obl->Orc
 | .triv=> .no
 | .done _ v=> .done v
 | .run _ _ _ v A' wr=> .run v A' wr
 | .call _ _ _ S args' v=> .call S args' v
 | .callF _ _ _ S args' v=> .callF S args' v
 | .callH _ _ _ S v A'=> .callH S v A'
theorem an {a b:Prop} (x:a) (y:b):a/\b:=⟨x,y⟩
theorem nb {b:Bool} (h:b=false): ¬b=true:=by rw[h];exact Bool.false_ne_true
theorem si {a b:α} (h:some a=some b):a=b:=Ye h
theorem nl {a b:Nat} (h:Nat.ble a b=true):a<=b:=Ys h
theorem nI {k:IntKind} {n:Int}:qH (.int k n):=qH.int _ _
theorem nS {s:List UInt8}:qH (.str s):=qH.str _
theorem nB {b:Bool}:qH (.bool b):=qH.bool _
theorem tI {d:Nat} {k:IntKind} {n:Int}:Still (d+1) (.int k n):=Still.int _ _ _
theorem tS {d:Nat} {s:List UInt8}:Still (d+1) (.str s):=Still.str _ _
theorem tB {d:Nat} {b:Bool}:Still (d+1) (.bool b):=Still.bool _ _
abbrev bZ:Blk:= .cells [.i 0,.nilslice]
end Go.Av
end
section
namespace Go.Av
variable {α κ:Type} [BEq κ] {P:Program}
structure KeyE (K:κ->AV) (d:TypeDesc):Prop where
 eq: ∀a b,qlN (K a) (K b)=some (a==b)
 plain: ∀a,plainKey d (K a)=true
structure MpT (P:Program) (t kt et:TypeId) (d:TypeDesc) (z:AV):Prop where
 und:P.underlying t=some (.map kt et)
 key:P.underlying kt=some d
 zero:((P.info? et).bind (·.zero)).map (qbO 3)=some z
theorem isS {β:Type} {o:Option (List β)} (h:o.isSome=true):o=some (o.getD []):=by cases o with|none=>cases h|some x=>rfl
end Go.Av
end
noncomputable section
namespace Go.Av
variable [Glob]
theorem qqv {a b:Nat} {u:Unit} (h:(if a=b then some ()else none:Option Unit)=some u):a=b:=by
 split at h
 ·assumption
 cases h
theorem qpT {a:Nat} {u:Unit} (h:(if a<=1000000000 then some ()else none:Option Unit)=some u):a<=9223372036854775807:=by
 split at h
 ·omega
 cases h
end Go.Av
end
noncomputable section
namespace Go.Av
variable [Glob]
def qco (k:IntKind) (a b:Int):Option Int:=if b=0 then none else some (k.wrap (a.tdiv b))
def qeG (_:IntKind) (a b:Int):Option Int:=if b=0 then none else some (a.tmod b)
theorem qb2 {P:Program} {t:TypeId} {ox oy:Operand} {k:IntKind} {a b q:Int} (h:qco k a b=some q):(Obl.done (.opt (ku P .quo t ox oy (.int k a) (.int k b))) (.int k q)).Holds P:=by
 unfold qco at h;split at h
 ·cases h
 rename_i hb;obtain rfl:=Ye h;show Pg.opt _=_;simp[ku,qb4,qgw,hb,Pg.opt]
theorem qfN {P:Program} {t:TypeId} {ox oy:Operand} {k:IntKind} {a b q:Int} (h:qeG k a b=some q):(Obl.done (.opt (ku P .rem t ox oy (.int k a) (.int k b))) (.int k q)).Holds P:=by
 unfold qeG at h;split at h
 ·cases h
 rename_i hb;obtain rfl:=Ye h;show Pg.opt _=_;simp[ku,qb4,qgw,hb,Pg.opt]
end Go.Av
end
noncomputable section
namespace Go.Av
variable [Glob] {α:Type} {P:Program} {A:Heap}
class SC (d:Nat) (a:AV):Prop where
 h:Still d a
class SE {α:Type} (E:Enc α):Prop where
 h:E.dep+1<=7
class SX (d:Nat) (as:List AV):Prop where
 h: ∀a∈as,Still d a
instance {d:Nat}:SX d []:=⟨AllST.nil⟩
instance {d:Nat} {a:AV} {as:List AV} [h:SC d a] [k:SX d as]:SX d (a::as):=⟨AllST.cons h.h k.h⟩
instance {d:Nat} {k:IntKind} {n:Int}:SC (d+1) (.int k n):=⟨tI⟩
instance {d:Nat} {s:List UInt8}:SC (d+1) (.str s):=⟨tS⟩
instance {d:Nat} {b:Bool}:SC (d+1) (.bool b):=⟨tB⟩
instance {d:Nat}:SC (d+1) .nilslice:=⟨Still.nilslice _⟩
instance {d:Nat}:SC (d+1) .nilfunc:=⟨Still.nilfunc _⟩
instance {d:Nat}:SC (d+1) .nilptr:=⟨Still.nilptr _⟩
instance {d:Nat}:SC (d+1) .nilmap:=⟨Still.nilmap _⟩
instance {d:Nat}:SC (d+1) .niliface:=⟨fun _ _=>rfl⟩
instance {d:Nat} {cs:List AV} [h:SX d cs]:SC (d+1) (.agg cs):=⟨Still.agg h.h⟩
instance {d:Nat} {cs:List AV} [h:SX d cs]:SC (d+1) (.tuple cs):=⟨Still.tuple h.h⟩
instance {d:Nat} {cs:List AV} {o:Nat} [h:SX d cs]:SC (d+1) (.fptr cs o):=⟨Still.fptr h.h⟩
instance {d:Nat} {f:Fn} {fs cs:List AV} [h:SX d fs] [k:SX d cs]:SC (d+1) (.func f fs cs):=⟨Still.func h.h k.h⟩
instance {d:Nat} {fs cs:List AV} [h:SX d fs] [k:SX d cs]:SC (d+1) (.fmap fs cs):=⟨Still.fmap h.h k.h⟩
instance {d:Nat} {E:Enc α} {l:List α} [h:SE E]:SC (d+7) (vl E l):=⟨qw E l (Nat.le_trans h.h (Nat.le_add_left _ _))⟩
instance:SE encI:=⟨nl rfl⟩
instance:SE encB:=⟨nl rfl⟩
instance:SE encS:=⟨nl rfl⟩
instance {k:IntKind}:SE (qa k):=⟨nl rfl⟩
instance:SE (qE encI):=⟨nl rfl⟩
instance:SE (qE encS):=⟨nl rfl⟩
instance:SE (qE encB):=⟨nl rfl⟩
theorem qmj: ∀(d:Nat) (a:AV) (A:Heap),frz A [] d a=frz [] [] d a
 |0,_,_=>rfl
 |d+1,a,A=>by
  have e:frz A [] d=frz [] [] d:=funext fun x=>qmj d x A
  unfold frz;rw[e];cases a<;>simp
def Obl.st:Obl->Obl
 | .call g args A S args' v=>match S with
   |[]=> .call g args [] [] args' v
   |b::S=> .call g args A (b::S) args' v
 |o=>o
theorem Obl.st_holds: ∀{o:Obl},o.st.Holds P->o.Holds P
 | .triv,h=>h
 | .done _ _,h=>h
 | .run _ _ _ _ _ _,h=>h
 | .callF _ _ _ _ _ _,h=>h
 | .callH _ _ _ _ _ _,h=>h
 | .call _ _ _ (_::_) _ _,h=>h
 | .call g args A [] args' v,h=>by
   obtain⟨h1,h2⟩:=h;refine⟨?_,h2⟩;rw[show frz A [] 12=frz [] [] 12 from funext fun x=>qmj 12 x A];exact h1
theorem qc9.st: ∀{os:List Obl},qc9 P (os.map Obl.st)->qc9 P os
 |[],_=>trivial
 |_::_,h=>⟨Obl.st_holds h.1,qc9.st h.2⟩
theorem Goes.rq [Base] (hm:P.follows .mixedOrders=true) {id m:Nat} {ops:Array Oper} {draw:Bool} {l0:List (Nat×AV)} {Q:XA->St->Prop} (ks:List Nat) (l:List (Nat×AV)) (A':Heap) {obls:List Obl} (ho:qc9 P obls) (hq:Q .normal (ofG m l,A'))
 (h:(qgX P ops draw (ks.zip (obls.map Obl.orc)) (l.map (·.1)) (ofG m l0,A)).map (fun r=>(r.1,r.2.1,r.2.2.map Obl.st))=some (ofG m l,A',obls):=by kernel_rfl):Goes P (.region id ops draw) (ofG m l0,A) Q:=by
 obtain⟨r,h1,h2⟩:=Yd.1 h;obtain⟨f,B,os⟩:=r;simp only[ZP]at h2;obtain⟨rfl,rfl,rfl⟩:=h2;exact Goes.reg hm _ _ h1 (qc9.st ho) hq
theorem qd4.rq [Base] (hm:P.follows .mixedOrders=true) {id m:Nat} {ops:Array Oper} {draw:Bool} {l0:List (Nat×AV)} (ks:List Nat) (l:List (Nat×AV)) (A':Heap) {obls:List Obl} (ho:qc9 P obls)
 (h:(qgX P ops draw (ks.zip (obls.map Obl.orc)) (l.map (·.1)) (ofG m l0,A)).map (fun r=>(r.1,r.2.1,r.2.2.map Obl.st))=some (ofG m l,A',obls):=by kernel_rfl):qd4 P id ops draw (ofG m l0,A) (ofG m l,A'):=by
 obtain⟨r,h1,h2⟩:=Yd.1 h;obtain⟨f,B,os⟩:=r;simp only[ZP]at h2;obtain⟨rfl,rfl,rfl⟩:=h2;exact qd4.reg hm _ _ h1 (qc9.st ho)
theorem ac {o:Obl} {os:List Obl} (x:o.Holds P) (y:qc9 P os):qc9 P (o::os):=⟨x,y⟩
theorem az:qc9 P []:=trivial
theorem hs (o:Obl) (h:o.Holds P):o.Holds P:=h
theorem cv {g:FuncId} {args:List AV} {v:AV} [k:SX 12 args] [q:SC 12 v] (h:qc P (.fn g) args [] v []):(Obl.call g args [] [] args v).Holds P:=qpc k.h h q.h
theorem gw {b w:Bool} (h:b=w):(Obl.done (.done (.bool b)) (.bool w)).Holds P:=congrArg (fun x=>Pg.done (.bool x)) h
theorem iv {t e:TypeId} {k b:Nat} (T:SlT P t e k b) (E:Enc α) {l:List α} {i:Int} {x:α} (h:idx l i=some x) (hk:E.k=k:=by rfl):(Obl.done (.opt (qd P t (vl E l) (.i i))) (.fptr (l.flatMap E.c) (i.toNat*k))).Holds P:=ix_vl T hk h
theorem lv (off:Nat) {t:TypeId} (T:CeT P t) (E:Enc α) {l:List α} {i:Int} {x:α} (h:idx l i=some x) {c:AV} (hc:(E.c x)[off]? =some c) (ho:Nat.ble (off+1) E.k=true:=by rfl):(Obl.done (ko P t (.fptr (l.flatMap E.c) (i.toNat*E.k+off))) c).Holds P:=ld_vl T rfl h (nl ho) hc
theorem la {t:TypeId} {k:Nat} (T:AgT P t k) (E:Enc α) {l:List α} {i:Int} {x:α} (h:idx l i=some x) (hk:E.k=k:=by rfl):(Obl.done (ko P t (.fptr (l.flatMap E.c) (i.toNat*k))) (.agg (E.c x))).Holds P:=ld_ag T hk h
end Go.Av
end
noncomputable section
namespace Go.Av
variable [Glob] {P:Program} {A:Heap}
section
variable [Base] {id m:Nat} {ops:Array Oper} {draw:Bool} {l0:List (Nat×AV)} {Q:XA->St->Prop} {c2:Code}
theorem sg (hm:P.follows .mixedOrders=true) (l:List (Nat×AV)) (A':Heap) (hq:Goes P c2 (ofG m l,A') Q) (h:qgX P ops draw [] (l.map (·.1)) (ofG m l0,A)=some (ofG m l,A',[]):=by kernel_rfl):Goes P (.seq (.region id ops draw) c2) (ofG m l0,A) Q:=sq (Goes.rg hm l A' hq h)
theorem sh (hm:P.follows .mixedOrders=true) (l:List (Nat×AV)) (hq:Goes P c2 (ofG m l,A) Q) (h:qgX P ops draw [] (l.map (·.1)) (ofG m l0,A)=some (ofG m l,A,[]):=by kernel_rfl):Goes P (.seq (.region id ops draw) c2) (ofG m l0,A) Q:=sq (Goes.rg hm l A hq h)
theorem gh (hm:P.follows .mixedOrders=true) (l:List (Nat×AV)) (hq:Q .normal (ofG m l,A)) (h:qgX P ops draw [] (l.map (·.1)) (ofG m l0,A)=some (ofG m l,A,[]):=by kernel_rfl):Goes P (.region id ops draw) (ofG m l0,A) Q:=Goes.rg hm l A hq h
theorem gq (hm:P.follows .mixedOrders=true) (ks:List Nat) (l:List (Nat×AV)) (A':Heap) {obls:List Obl} (ho:qc9 P obls) (hq:Q .normal (ofG m l,A'))
 (h:(qgX P ops draw (ks.zip (obls.map Obl.orc)) (l.map (·.1)) (ofG m l0,A)).map (fun r=>(r.1,r.2.1,r.2.2.map Obl.st))=some (ofG m l,A',obls):=by kernel_rfl):Goes P (.region id ops draw) (ofG m l0,A) Q:=Goes.rq hm ks l A' ho hq h
theorem gr (hm:P.follows .mixedOrders=true) (ks:List Nat) (l:List (Nat×AV)) {obls:List Obl} (ho:qc9 P obls) (hq:Q .normal (ofG m l,A))
 (h:(qgX P ops draw (ks.zip (obls.map Obl.orc)) (l.map (·.1)) (ofG m l0,A)).map (fun r=>(r.1,r.2.1,r.2.2.map Obl.st))=some (ofG m l,A,obls):=by kernel_rfl):Goes P (.region id ops draw) (ofG m l0,A) Q:=Goes.rq hm ks l A ho hq h
theorem tr (hm:P.follows .mixedOrders=true) (ks:List Nat) (l:List (Nat×AV)) {obls:List Obl} (ho:qc9 P obls)
 (h:(qgX P ops draw (ks.zip (obls.map Obl.orc)) (l.map (·.1)) (ofG m l0,A)).map (fun r=>(r.1,r.2.1,r.2.2.map Obl.st))=some (ofG m l,A,obls):=by kernel_rfl):qd4 P id ops draw (ofG m l0,A) (ofG m l,A):=qd4.rq hm ks l A ho h
end
section
variable [Base] {c1 c2:Code} {s:St} {Q:XA->St->Prop} {co:Operand} {α:Type} {x y r:α}
theorem ihB {b:Bool} (h:(if b=true then x else y)=r) (ht:b=true->x=r->Goes P c1 s Q) (hf:b=false->y=r->Goes P c2 s Q) (hv:vN s.1 co= .bool b:=by kernel_rfl):Goes P (.cond co c1 c2) s Q:=
 Goes.ifB hv (fun c=>ht c (by rw[if_pos c]at h;exact h)) (fun c=>hf c (by rw[if_neg (nb c)]at h;exact h))
theorem ihD {p:Prop} [Decidable p] (h:(if p then x else y)=r) (ht:decide p=true->x=r->Goes P c1 s Q) (hf:decide p=false->y=r->Goes P c2 s Q) (hv:vN s.1 co= .bool (decide p):=by kernel_rfl):Goes P (.cond co c1 c2) s Q:=
 Goes.ifB hv (fun c=>ht c (by rw[if_pos (of_decide_eq_true c)]at h;exact h)) (fun c=>hf c (by rw[if_neg (of_decide_eq_false c)]at h;exact h))
end
section
variable {α:Type} {x y r:α}
theorem wyB {b:Bool} (h:(if b=true then x else y)=r):b=true/\x=r\/b=false/\y=r:=by
 cases b
 ·rw[if_neg Bool.false_ne_true]at h;exact .inr ⟨rfl,h⟩
 rw[if_pos rfl]at h;exact .inl ⟨rfl,h⟩
theorem wyD {p:Prop} [Decidable p] (h:(if p then x else y)=r):decide p=true/\x=r\/decide p=false/\y=r:=by
 rcases Classical.em p with c|c
 ·rw[if_pos c]at h;exact .inl ⟨decide_eq_true c,h⟩
 rw[if_neg c]at h;exact .inr ⟨decide_eq_false c,h⟩
end
section
variable {S:List Nat} {m:List (Option Nat)}
theorem qcA.ks {α:Type} {E:Enc α} {x:List α} {b:Nat} {l:List (Option Nat)} {H:Heap} (h:qcA A S m l H) (hA:A[b]? =some (.cells (x.flatMap E.c)):=by rfl) (hS:S.contains b=false:=by rfl) (hl:l.contains (some b)=false:=by rfl):qcA A S m (some b::l) (.cells (x.flatMap E.c)::H):= .keep hA (.same fa) hS hl h
theorem qcA.kb {b:Nat} {x y:Blk} {l:List (Option Nat)} {H:Heap} (hA:A[b]? =some y) (hb:yZ A S m x y) (h:qcA A S m l H) (hS:S.contains b=false:=by rfl) (hl:l.contains (some b)=false:=by rfl):qcA A S m (some b::l) (x::H):= .keep hA hb hS hl h
theorem qbI.kp {t i b off:Nat} {l l':List (Nat×AV)} (hl:qbI A S m l l') (h:m[i]? =some (some b):=by rfl):qbI A S m ((t,.ptr b off)::l) ((t,.ptr i off)::l'):= .keep (.ptr h) hl
theorem rc {c' c:AV} {cs' cs:List AV} (h:jA A S m c' c) (hs:qfz A S m cs' cs):qfz A S m (c'::cs') (c::cs):=qfz.cons h hs
theorem rn:qfz A S m [] []:=qfz.nil
end
class NR (a:AV):Prop where
 h:qH a
class SN (as:List AV):Prop where
 h:qb8 as
instance:SN []:=⟨qb8.nil⟩
instance {a:AV} {as:List AV} [h:NR a] [k:SN as]:SN (a::as):=⟨qb8.cons h.h k.h⟩
instance {k:IntKind} {n:Int}:NR (.int k n):=⟨nI⟩
instance {s:List UInt8}:NR (.str s):=⟨nS⟩
instance {b:Bool}:NR (.bool b):=⟨nB⟩
instance:NR .nilslice:=⟨qH.nilslice⟩
instance:NR .nilptr:=⟨qH.nilptr⟩
instance:NR .nilmap:=⟨qH.nilmap⟩
instance:NR .nilfunc:=⟨qH.nilfunc⟩
instance:NR .niliface:=⟨qH.niliface⟩
instance {α:Type} {E:Enc α} {l:List α}:NR (vl E l):=⟨qg E l⟩
instance {cs:List AV} [h:SN cs]:NR (.agg cs):=⟨qH.agg h.h⟩
instance {cs:List AV} [h:SN cs]:NR (.tuple cs):=⟨qH.tuple h.h⟩
instance {f:Fn} {fs cs:List AV} [h:SN fs] [k:SN cs]:NR (.func f fs cs):=⟨qH.func h.h k.h⟩
instance {cs:List AV} {o:Nat} [h:SN cs]:NR (.fptr cs o):=⟨qH.fptr h.h⟩
instance {fs cs:List AV} [h:SN fs] [k:SN cs]:NR (.fmap fs cs):=⟨qH.fmap h.h k.h⟩
theorem sn {as:List AV} [h:SN as]:qb8 as:=h.h
theorem gw2 {s:St} {rs:List ResultVar} {v:AV} (xs:List AV) (hf:FzW s.2 (List.range s.2.length) 12 (qf9 xs) v) (hx:jd P s.1 s.2 rs=some xs:=by kernel_rfl):zJ P rs v .ret s:=Goes.retW hx hf
theorem gh2 [Base] {s:St} {rs:List ResultVar} {v:AV} {A':Heap} (xs:List AV) (hs:qgo (qf9 xs) s.2 v A') (hx:jd P s.1 s.2 rs=some xs:=by kernel_rfl):qhT P rs v A' .ret s:=Goes.retH hx hs
end Go.Av
end
noncomputable section
namespace Go.Av
abbrev qB (k:IntKind) (a b:Int):Int:=k.wrap (BitVec.ofInt k.bits a&&&BitVec.ofInt k.bits b).toNat
abbrev orI (k:IntKind) (a b:Int):Int:=k.wrap (BitVec.ofInt k.bits a|||BitVec.ofInt k.bits b).toNat
abbrev qz (k:IntKind) (a b:Int):Int:=a.fdiv (2^(min b.toNat k.bits))
end Go.Av
end
noncomputable section
namespace Go.Av
open Go.RowKit
variable [Glob] {α:Type} {P:Program} {A:Heap} {S:List Nat} {m:List (Option Nat)}
def nvl (E:Enc α) (l:List α):AV:=match l with
 |[]=> .nilslice
 |x::xs=>vl E (x::xs)
theorem qm (E:Enc α) (l:List α) {d:Nat} (hd:E.dep+1<=d):Still d (nvl E l):=by
 cases l with
 |nil=>obtain⟨d,rfl⟩:=Nat.exists_eq_add_of_le' (show 1<=d by omega);exact Still.nilslice d
 |cons x xs=>exact qw E (x::xs) hd
theorem qcj (E:Enc α) (l:List α):qH (nvl E l):=by
 cases l with
 |nil=>exact qH.nilslice
 |cons x xs=>exact qg E (x::xs)
def qne (E:Enc α):Enc (List α):=one (nvl E) (E.dep+1) (fun x=>by cases x<;>rfl) (fun x d hd=>qm E x hd) (fun x=>qcj E x) (fun x d=>by cases x<;>cases d<;>rfl)
theorem qpO {E:Enc α} {l:List α} (h:0<l.length):nvl E l=vl E l:=by
 cases l with
 |nil=>exact absurd h (by simp)
 |cons x xs=>rfl
theorem Us {E:Enc α} {d:Nat}:FzW A S (d+1) .nilslice (nvl E []):= .of rfl
theorem FzW.nvL {E:Enc α} {l:List α} {d:Nat} (hd:E.dep<=d):FzW A S (d+1) (nvl E l) (vl E l):=by
 cases l with
 |nil=>exact FzW.nilv (E:=E)
 |cons x xs=>exact Ua (qw E (x::xs) (by omega))
theorem FzW.Lnv {E:Enc α} {l:List α} {d:Nat} (h:0<l.length) (hd:E.dep<=d):FzW A S (d+1) (vl E l) (nvl E l):=by rw[qpO h];exact Ua (qw E l (by omega))
theorem qaG {t e:TypeId} (hu:P.underlying t=some (.slice e)) {E:Enc α} {l:List α} {ox oy:Operand}:(Obl.done (.opt (ku P .eql t ox oy (nvl E l) .nilslice)) (.bool l.isEmpty)).Holds P:=by
 show Pg.opt _=_
 cases l with
 |nil=>simp only[nvl,ku,hu];rfl
 |cons x xs=>simp only[nvl,vl,ku,Yr,hu];rfl
theorem ne_nv {t e:TypeId} (hu:P.underlying t=some (.slice e)) {E:Enc α} {l:List α} {ox oy:Operand}:(Obl.done (.opt (ku P .neq t ox oy (nvl E l) .nilslice)) (.bool (!l.isEmpty))).Holds P:=by
 show Pg.opt _=_
 cases l with
 |nil=>simp only[nvl,ku,hu];rfl
 |cons x xs=>simp only[nvl,vl,ku,Yr,hu];rfl
def qib (k:IntKind) (a b:Int):Option Int:=if b<0 then none else some (k.wrap (a*2^(min b.toNat k.bits)))
def qkA (k:IntKind) (a b:Int):Option Int:=if b<0 then none else some (a.fdiv (2^(min b.toNat k.bits)))
theorem qf3 {t:TypeId} {ox oy:Operand} {k k':IntKind} {a b q:Int} (h:qib k a b=some q):(Obl.done (.opt (ku P .shl t ox oy (.int k a) (.int k' b))) (.int k q)).Holds P:=by
 unfold qib at h;split at h
 ·cases h
 rename_i hb;obtain rfl:=Ye h;show Pg.opt _=_;simp[ku,qb4,qeq,hb,Pg.opt]
theorem qg5 {t:TypeId} {ox oy:Operand} {k k':IntKind} {a b q:Int} (h:qkA k a b=some q):(Obl.done (.opt (ku P .shr t ox oy (.int k a) (.int k' b))) (.int k q)).Holds P:=by
 unfold qkA at h;split at h
 ·cases h
 rename_i hb;obtain rfl:=Ye h;show Pg.opt _=_;simp[ku,qb4,qeq,hb,Pg.opt]
def xZ (x y c:Int):Option (Int×Int):=if 0<=x/\0<=y/\0<=c/\c<=1 then some ((x+y+c)%18446744073709551616,(x+y+c)/18446744073709551616)else none
def qeJ (x y c:Int):Option (Int×Int):=if 0<=x/\0<=y/\y<18446744073709551616/\0<=c/\c<=1 then some ((x-y-c)%18446744073709551616,if x<y+c then 1 else 0)else none
def win (l:List α) (lo hi:Int):Option (Nat×Nat):=if 0<=lo/\lo<=hi/\hi<=l.length/\lo<l.length then some (lo.toNat,(hi-lo).toNat)else none
theorem qoJ {l:List α} {lo hi:Int} {p:Nat×Nat} (h:win l lo hi=some p):(0<=lo/\lo<=hi/\hi<=l.length/\lo<l.length)/\p=(lo.toNat,(hi-lo).toNat):=by
 unfold win at h;split at h
 ·rename_i h0;injection h with h;exact⟨h0,h.symm⟩
 cases h
theorem wn_ix {t e:TypeId} {b:Nat} (T:SlT P t e 1 b) {l:List α} {o:Nat} {lo hi:Int} {j n:Nat} (h:win l lo hi=some (j,n)):(Obl.done (.opt (qK P t (.slice o 0 l.length l.length 1) (some (.int .i64 lo)) (some (.int .i64 hi)) none)) (.slice o j n (l.length-j) 1)).Holds P:=by
 obtain⟨inf,z,g1,g2,_⟩:=T.info;obtain⟨⟨h1,h2,h3,h4⟩,e⟩:=qoJ h;injection e with e1 e2;subst e1 e2;have hb:=qjx (n:=l.length) (cap:=l.length) (lo:=some lo) (hi:=some hi) rfl rfl (Nat.le_refl _) ⟨h1,h2,h3⟩;show Pg.opt _=_;simp only[opI,YN]at hb;simp only[qK,T.und,g1,hb,g2,Pg.opt,if_true,Nat.mul_one,Nat.zero_add];rw[if_neg (by omega)];congr 2;omega
def qf7 (l:List α) (j n:Nat) (i:Int):Option α:=if 0<=i/\i<n then idx l ((j+i.toNat:Nat):Int)else none
theorem wI {l:List α} {j n:Nat} {i:Int} {x:α} (h:qf7 l j n i=some x):idx l ((j+i.toNat:Nat):Int)=some x:=by
 unfold qf7 at h;split at h
 ·exact h
 cases h
theorem qdk {t e:TypeId} {b:Nat} (T:SlT P t e 1 b) {l:List α} {j n c:Nat} {i:Int} {x:α} {q:IntKind} {o:Nat} (h:qf7 l j n i=some x):(Obl.done (.opt (qd P t (.slice o j n c 1) (.int q i))) (.ptr o ((((j+i.toNat:Nat):Int)).toNat*1+0))).Holds P:=by
 obtain⟨inf,z,h1,h2,_⟩:=T.info;unfold qf7 at h;split at h
 ·rename_i hi;show Pg.opt _=_;simp only[qd,T.und,h1,h2,hi.1,hi.2,and_self,if_true,Pg.opt,Nat.add_zero,Nat.mul_one,Int.toNat_natCast]
 cases h
end Go.Av
end
noncomputable section
namespace Go.Av
variable [Glob]
instance {d:Nat} {α:Type} {E:Enc α} {l:List α} [h:SE E]:SC (d+7) (nvl E l):=⟨qm E l (Nat.le_trans h.h (Nat.le_add_left _ _))⟩
instance {α:Type} {E:Enc α} {l:List α}:NR (nvl E l):=⟨qcj E l⟩
abbrev ni1 (a:Int) (b:List Int):List AV:=[.i a,nvl (qa .u64) b]
abbrev ni2 (a:Int) (b:List Int) (c:Int) (d:List Int):List AV:=[.i a,nvl (qa .u64) b,.i c,nvl (qa .u64) d]
theorem nvc {α:Type} {E:Enc α} {l:List α}:vg (nvl E l)=true:=by cases l<;>rfl
theorem cac {a:AV} {l:List AV} (h:vg a=true) (k:l.all vg=true):(a::l).all vg=true:=by
 rw[List.all_cons,h,k];rfl
theorem can:([]:List AV).all vg=true:=rfl
theorem kg {P:Program} {t:TypeId} {n:Nat} {A A':Heap} {b off:Nat} {cs xs:List AV} {v:AV} (ht:(P.info? t).map (·.size)=some n) (hb:A[b]? =some (.cells cs)) (hv:cellsOf v=some xs) (hn:xs.length=n) (ho:Nat.ble (off+n) cs.length=true) (hx:xs.all vg=true) (hA:A'=A.set b (.cells (splice cs off xs))):
 (Obl.run [b] (qp P t (.ptr b off) v) A .undef A' true).Holds P:=by
 subst hn hA;have ho:=Ys ho
 cases hi:P.info? t with
 |none=>rw[hi]at ht;cases ht
 |some inf=>
  rw[hi]at ht;simp only[ZM,ZI]at ht;refine⟨[(b,true),(b,false)],?_,rfl⟩;simp only[qp,hi,hv];rw[qaX (by simp) hb];simp only[ht,ho,hx,and_self,if_true];rw[qcS (by simp) (qcR hb)];rfl
end Go.Av
end
noncomputable section
namespace Go.Av
variable [Glob] {P:Program} {α:Type} {E:Enc α} {k:Nat} {S:List Nat} {A:Heap}
theorem qqf (hk:E.k=k) {q j:Nat} {ys:List α} (hq:A[q]? =some (.cells (ys.flatMap E.c))) (hS:S.contains q=true) (hj:j<=ys.length):qlj E k S A (.slice q 0 j ys.length k) (ys.take j):=by
 subst hk;refine⟨(by intro s h;cases h),fun K lo f=>⟨(q,false)::f,?_⟩⟩
 have e0:0+j*E.k<=(ys.flatMap E.c).length:=by
  rw[E.flat_len,Nat.zero_add];exact Nat.mul_le_mul_right _ hj
 have e1:((ys.flatMap E.c).drop 0).take (j*E.k)=(ys.take j).flatMap E.c:=by
  rw[YR];exact qdf E ys j
 have e2:(ys.take j).length=j:=by rw[Ym];omega
 simp only[qX,xW];rw[qaX hS hq];simp only[vO,if_pos e0,e1,E.flat_cell (ys.take j),if_true,e2]
theorem qn9 {t e:TypeId} {b:Nat} (T:SlT P t e k b) (hk:E.k=k) {A':Heap} {Y:AV} {ys l r:List α} {o j:Nat} (hs:qlj E k S A Y ys) (hj:j<=l.length)
 (hb:A[o]? =some (.cells (l.flatMap E.c))) (hS:S.contains o=true) (h:some (qgI l j ys)=some r) (hA:A'=A.set o (.cells (r.flatMap E.c))):(Obl.run S (qbU P [t,t] (qf8 o k l.length j) Y) A (.int .i64 ((Nat.min ys.length (l.length-j):Nat):Int)) A' true).Holds P:=by
 by_cases h0:l.length-j=0
 ·injection h with h;subst hA h hk;obtain⟨inf,z,h1,h2,_⟩:=T.info
  have key:qbU P [t,t] (qf8 o E.k l.length j) Y=qX E.k Y fun n cs=>qaE E.k o 0 (l.length-j) n cs:=by
   simp only[qbU,qf8,T.und,h1,h2,if_true,h0]
  rw[Obl.Holds,key];obtain⟨f1,e1⟩:=hs.run (fun n cs=>qaE E.k o 0 (l.length-j) n cs) A.length [];refine⟨(o,true)::(o,false)::f1,e1.trans ?_,by simp⟩
  have hm:Nat.min ys.length (l.length-j)=0:=by rw[h0];exact Nat.min_zero _
  have hr:qgI l j ys=l:=by
   have:l.drop j=[]:=List.drop_of_length_le (by omega);simp[qgI,cpy,this,List.take_of_length_le (show l.length<=j by omega)]
  simp only[qaE];rw[qaX hS hb];simp only[hm,Nat.zero_mul,List.take_zero,List.length_nil,Nat.add_zero,Nat.zero_le,if_true];rw[qcS hS (qcR hb),hr];simp[splice];rfl
 have key:qbU P [t,t] (qf8 o k l.length j) Y=qbU P [t,t] (.wslice o (j*k) (l.length-j) k) Y:=by
  simp only[qbU,qf8,if_neg h0,Nat.zero_add]
 rw[key];exact qqR T hk hs hj hb hS h hA
end Go.Av
end
noncomputable section
namespace Go.Av
variable [Glob]
open Go.RowKit
end Go.Av
end
noncomputable section
namespace Go.Av
variable [Glob] {α:Type} {P:Program} {A:Heap} {S:List Nat} {E:Enc α} {k:Nat}
variable {m:List (Option Nat)}
end Go.Av
end
noncomputable section
namespace Go.Av
open Go.RowKit
variable [Glob]
def _root_.Go.Code.x1:Code->Code
 | .seq a _=>a
 | .cond _ a _=>a
 | .block _ c=>c
 | .loop c=>c
 | .scope c=>c
 | .rangeFunc _ _ a _=>a
 |c=>c
def _root_.Go.Code.x2:Code->Code
 | .seq _ b=>b
 | .cond _ _ b=>b
 | .rangeFunc _ _ _ b=>b
 |c=>c
end Go.Av
end
noncomputable section
namespace Go.Av
variable [Glob]
section
variable [Base] {α:Type}
theorem Sub.stp {fr:Fr} {A A':Heap} (h: ∀(F:Nat->Prop) (nu:Nat->Option Nat) (w:World),Inv F nu A w-> ∃F' nu',Stp F nu A w F' nu' A' w):Sub (fr,A) (fr,A'):=fun _ _ F nu _ w st hf hd=>by
 obtain⟨F',nu',s⟩:=h F nu w st.inv;exact⟨F',nu',st.trans s,hf.mono (s.ext st.inv),hd.step s⟩
def qW (E:Enc α) (l:List α):Ent:= .own E.k (l.flatMap E.c)
def bg (E:Enc α) (rows:List (List α)):Blk:= .bag (rows.map (qW E))
theorem Sub.bagNil {E:Enc α} {fr:Fr} {A:Heap} {b n:Nat} {cs:List AV} (hA:A[b]? =some (.cells cs)) (hc:cs=List.replicate n .nilslice):Sub (fr,A) (fr,A.set b (bg E (List.replicate n []))):=by
 refine Sub.stp fun F nu w i=>⟨F,nu,?_⟩
 subst hc
 have noOwn: ∀(vs:Array Value) (j r:Nat),(∃rb e,nu b=some rb/\w.heap[rb]? =some (.cells vs e (0,0)))-> ¬OwnAt ((List.replicate n []).map (qW E)) vs j r:=by
  rintro vs j r ⟨rb,e,hb,hh⟩ ⟨k,ds,m,cap,h1,h2,h3⟩;obtain⟨_,vs',e',g1,g2,g3⟩:=i.blk b rb _ hb hA;rw[hh]at g1;simp only[ZI,Obj.cells.injEq]at g1;obtain⟨rfl,rfl,_⟩:=g1
  have hj:j<n:=by have:=(Yb.1 h1).1;simpa using this
  have:=g3 j .nilslice _ (by simp[hj]) h2;cases this
 refine Stp.still i (by simp) (fun c rb x hc hx=>?_) (fun c rb x r hc hx ho hf=>?_) (fun c c' rb rb' x x' r hc hc' hx hx' ho ho' hr hr'=>?_)
 ·rcases getElem?_set' hx with⟨rfl,rfl⟩|⟨_,hx⟩
  ·obtain⟨h0,vs,e,h1,h2,h3⟩:=i.blk _ rb _ hc hA;refine⟨h0,vs,e,h1,by simpa using h2,fun j y v hy hv=>?_,fun j r hj=>absurd hj (noOwn vs j r ⟨rb,e,hc,h1⟩),fun j j' r hj=>absurd hj (noOwn vs j r ⟨rb,e,hc,h1⟩)⟩
   have hj:j<n:=by have:=(Yb.1 hy).1;simpa using this
   have hR:=h3 j .nilslice v (by simp[hj]) hv
   have ey:y= .own E.k []:=by
    simp[hj,qW]at hy;exact hy.symm
   subst ey;cases hR
   exact .inl ⟨rfl,none,rfl⟩
  exact i.blk c rb x hc hx
 ·rcases getElem?_set' hx with⟨rfl,rfl⟩|⟨_,hx⟩
  ·rcases hf with h|⟨vs,e,j,h1,h2⟩
   ·exact⟨_,_,rb,hc,hA,rfl,.inl h⟩
   exact absurd h2 (noOwn vs j r ⟨rb,e,hc,h1⟩)
  exact⟨c,x,rb,hc,hx,ho,hf⟩
 have ft: ∀{rb r:Nat},nu b=some rb->Ft w rb (bg E (List.replicate n [])) r->r=rb:=by
  rintro rb r hb (h|⟨vs,e,j,h1,h2⟩)
  ·exact h
  exact absurd h2 (noOwn vs j r ⟨rb,e,hb,h1⟩)
 rcases getElem?_set' hx with⟨e1,e1'⟩|⟨_,kx⟩
 ·rcases getElem?_set' hx' with⟨e2,_⟩|⟨_,kx'⟩
  ·exact e1.symm.trans e2
  subst e1 e1';exact i.injF b c' rb rb' _ x' r hc hc' hA kx' rfl ho' (.inl (ft hc hr)) hr'
 rcases getElem?_set' hx' with⟨e2,e2'⟩|⟨_,kx'⟩
 ·subst e2 e2';exact i.injF c b rb rb' x _ r hc hc' kx hA ho rfl hr (.inl (ft hc' hr'))
 exact i.injF c c' rb rb' x x' r hc hc' kx kx' ho ho' hr hr'
def qx (rows:List α) (i:Int) (l:α):List α:=rows.set i.toNat l
omit [Glob] [Base]in
theorem qbc (rows:List α) (i:Int) (l:α):rows.length=(qx rows i l).length:=(Yk ..).symm
theorem Sub.bagNil1 {E:Enc α} {fr:Fr} {A:Heap} {b k:Nat} {n:Int} {l:List (List α)} (hA:A[b]? =some (.cells (l.flatMap (qne E).c))) (h:mk k n []=some l):Sub (fr,A) (fr,A.set b (bg E l)):=by
 unfold mk at h;split at h
 ·injection h with h;subst h;refine Sub.bagNil hA ?_;generalize n.toNat=m
  induction m with
  |zero=>rfl
  |succ m ih=>rw[List.replicate_succ,List.flatMap_cons,ih,List.replicate_succ];rfl
 cases h
theorem Sub.bagTake {E:Enc α} {fr:Fr} {A:Heap} {b j:Nat} {es:List Ent} {l:List α} (hA:A[b]? =some (.bag es)) (hj:es[j]? =some (qW E l)):
 Sub (fr,A) (fr,A.set b (.bag (es.set j (.av (.gslice A.length l.length E.k))))++[.cells (l.flatMap E.c)]):=
 Sub.stp fun F _ _ i=>⟨F,Stp.take i hA hj (E.flat_len l).symm E.pos⟩
theorem Sub.bagGive {E:Enc α} {fr:Fr} {A:Heap} {b c j:Nat} {es:List Ent} {a:AV} {l:List α} (hne:b≠c) (hA:A[b]? =some (.bag es)) (hC:A[c]? =some (.cells (l.flatMap E.c))) (hj:es[j]? =some (.av a)) (ha:qk6 c l.length E.k a):
 Sub (fr,A) (fr,(A.set b (.bag (es.set j (qW E l)))).set c .dead):=
 Sub.stp fun F nu _ i=>⟨F,nu,Stp.give i hne hA hC hj ha (E.flat_len l).symm⟩
theorem qpv {E:Enc α} {rows:List (List α)} {i:Int} {x:List α} (h:idx rows i=some x):(rows.map (qW E))[i.toNat]? =some (qW E x):=by
 obtain⟨_,_,g⟩:=qas h;rw[YA,g];rfl
theorem qqZ {E:Enc α} {rows:List (List α)} {i:Int} {x:List α} (h:idx rows i=some x):i.toNat<(rows.map (qW E)).length:=(Yb.1 (qpv h)).1
theorem at_set {E:Enc α} {rows:List (List α)} {i:Int} {x:List α} (h:idx rows i=some x) {y:Ent}:((rows.map (qW E)).set i.toNat y)[i.toNat]? =some y:=by
 rw[List.getElem?_set,if_pos rfl,if_pos (qqZ h)]
theorem Ul {E:Enc α} {fr:Fr} {A:Heap} {b:Nat} {rows:List (List α)} {i:Int} {x:List α} (hA:A[b]? =some (bg E rows)) (h:idx rows i=some x):
 Sub (fr,A) (fr,A.set b (.bag ((rows.map (qW E)).set i.toNat (.av (.gslice A.length x.length E.k))))++[.cells (x.flatMap E.c)]):=Sub.bagTake hA (qpv h)
theorem Ui {E:Enc α} {fr:Fr} {A:Heap} {b c n:Nat} {rows:List (List α)} {i:Int} {x l:List α} {a:AV} (hne:b≠c) (hA:A[b]? =some (.bag ((rows.map (qW E)).set i.toNat (.av a)))) (hC:A[c]? =some (.cells (l.flatMap E.c)))
 (h:idx rows i=some x) (ha:qk6 c n E.k a) (hn:n=l.length):Sub (fr,A) (fr,(A.set b (bg E (qx rows i l))).set c .dead):=by
 subst hn
 have e:bg E (qx rows i l)= .bag (((rows.map (qW E)).set i.toNat (.av a)).set i.toNat (qW E l)):=by
  unfold bg qx;rw[List.set_set,List.map_set]
 rw[e];exact Sub.bagGive hne hA hC (at_set h) ha
theorem Sub.bagGiveA {E:Enc α} {fr:Fr} {A:Heap} {b c n k:Nat} {l r:List (List α)} {x:List α} {a:AV} (hne:b≠c) (hA:A[b]? =some (.bag (l.map (qW E)++[Ent.av a]))) (hC:A[c]? =some (.cells (x.flatMap E.c)))
 (h:app k l [x]=some r) (ha:qk6 c n E.k a) (hn:n=x.length):Sub (fr,A) (fr,(A.set b (bg E r)).set c .dead):=by
 subst hn;obtain⟨_,_,rfl⟩:=qeQ h
 have e:bg E (l++[x])= .bag ((l.map (qW E)++[Ent.av a]).set l.length (qW E x)):=by
  unfold bg;rw[List.map_append,List.set_append_right (h:=by simp)];simp
 rw[e];exact Sub.bagGive hne hA hC (by simp) ha
theorem Sub.bagFreeze {E:Enc α} {fr:Fr} {A:Heap} {b:Nat} {rows:List (List α)} (hA:A[b]? =some (bg E rows)):Sub (fr,A) (fr,A.set b (.frozen (rows.flatMap (qE E).c))):=by
 have e:rows.flatMap (qE E).c=rows.map (vl E):=by
  clear hA
  induction rows with
  |nil=>rfl
  |cons r rows ih=>rw[List.flatMap_cons,ih];rfl
 rw[e]
 refine Sub.stp fun F nu w i=>?_
 have hz: ∀(j:Nat) (y:Ent) (a:AV),(rows.map (qW E))[j]? =some y->(rows.map (vl E))[j]? =some a-> ∃k n cs,y= .own k cs/\n*k=cs.length/\0<k/\a= .fslice n cs:=by
  intro j y a hy ha;rw[YA]at hy ha;obtain⟨r,hr,rfl⟩:=Yd.1 hy;rw[hr]at ha;simp only[ZM,ZI]at ha;exact⟨E.k,r.length,_,rfl,(E.flat_len r).symm,E.pos,ha.symm⟩
 obtain⟨F',h⟩:=Stp.freezeBag i hA (fs:=rows.map (vl E)) (by simp) hz;exact⟨F',nu,h⟩
end
theorem ownN {α:Type} {E:Enc α} {rows:List (List α)} {j:Nat} {x:Ent} (h:(rows.map (qW E))[j]? =some x): ∃r,x=qW E r/\qb8 (r.flatMap E.c):=by
 rw[YA]at h;obtain⟨r,_,rfl⟩:=Yd.1 h;refine⟨r,rfl,fun c hc=>?_⟩;obtain⟨y,_,hy⟩:=List.mem_flatMap.1 hc;exact E.noRef y c hy
theorem yZ.bgs {α:Type} {A:Heap} {S:List Nat} {m:List (Option Nat)} {E:Enc α} {rows:List (List α)}:yZ A S m (bg E rows) (bg E rows):=by
 refine .bag rfl fun j x' x h1 h2=>?_
 rw[h1]at h2;obtain rfl:=Ye h2;obtain⟨r,rfl,hr⟩:=ownN h1;exact .own hr
theorem yZ.bgv {α:Type} {A:Heap} {S:List Nat} {m:List (Option Nat)} {E:Enc α} {rows:List (List α)} {i:Nat} {a' a:AV} (h:jA A S m a' a):yZ A S m (.bag ((rows.map (qW E)).set i (.av a'))) (.bag ((rows.map (qW E)).set i (.av a))):=by
 refine .bag (by simp) fun j x' x h1 h2=>?_
 by_cases e:j=i
 ·subst e;have hlt:=(Yb.1 h1).1;rw[Yk]at hlt;rw[List.getElem?_set_self hlt]at h1 h2;obtain rfl:=Ye h1;obtain rfl:=Ye h2;exact .av h
 rw[Yw (fun c=>e c.symm)]at h1 h2;rw[h1]at h2;obtain rfl:=Ye h2;obtain⟨r,rfl,hr⟩:=ownN h1;exact .own hr
section
variable {P:Program}
theorem qeE {t:TypeId} (T:CeT P t) {A:Heap} {o:Nat} {es:List Ent} (hb:A[o]? =some (.bag es)) {i:Int} {a:AV} (h:es[i.toNat]? =some (.av a)):(Obl.run [o] (ko P t (.ptr o (i.toNat*1+0))) A a A false).Holds P:=by
 refine⟨[(o,false)],?_,rfl⟩;rw[T.load];simp only[yg,xW,Nat.mul_one,Nat.add_zero];rw[qaX (by simp) hb];simp only[vO,h];rfl
theorem qp7 {α:Type} {t e:TypeId} {b:Nat} (T:SlT P t e 1 b) {E:Enc α} {S:List Nat} {A A':Heap} {l r:List (List α)} {x:List α} {a:AV} {o q:Nat} (hq:A[q]? =some (.cells [a])) (hSq:S.contains q=true) (hcc:vg a=true)
 (hb:A[o]? =some (bg E l)) (hS:S.contains o=true) (h:app b l [x]=some r) (hA:A'=A.set o .dead++[.bag (l.map (qW E)++[.av a])]):
 (Obl.run S (yC P [t,t] (.gslice o l.length 1) (.slice q 0 1 1 1)) A (.gslice A.length r.length 1) A' true).Holds P:=by
 subst hA;obtain⟨h1,h2,h3⟩:=qeQ h
 have h4:r.length=l.length+1:=by rw[h3];simp
 simp only[Yr,List.length_nil,Nat.zero_add]at h1 h2;rw[h4,Obl.Holds,T.append (Nat.succ_pos 0) _ _ (by intro s h;cases h)];refine⟨[(o,true),(o,false),(q,false)],?_,rfl⟩;simp only[qX,xW];rw[qaX hSq hq];simp only[vO,Yr,List.length_nil,Nat.zero_add,Nat.mul_one,Nat.le_refl,if_true,YR,List.take_succ_cons,List.take_zero,List.all_cons,List.all_nil,Bool.and_true,hcc,xL];rw[qaX hS hb];simp only[bg,List.length_map,h1,h2,and_self,if_true];rw[qcS hS (qcR hb),qh1,qf4,Yk]
theorem qqC {t:TypeId} {A A':Heap} {o:Nat} {es:List Ent} (ht:(P.info? t).map (·.size)=some 1) (hb:A[o]? =some (.bag es)) {i:Int} {a:AV} (h:i.toNat<es.length) (hv:cellsOf a=some [a]) (hx:vg a=true) (hA:A'=A.set o (.bag (es.set i.toNat (.av a)))):
 (Obl.run [o] (qp P t (.ptr o (i.toNat*1+0)) a) A .undef A' true).Holds P:=by
 subst hA
 cases hi:P.info? t with
 |none=>rw[hi]at ht;cases ht
 |some inf=>
  rw[hi]at ht;simp only[ZM,ZI]at ht;refine⟨[(o,true),(o,false)],?_,rfl⟩;simp only[qp,hi,hv,Nat.mul_one,Nat.add_zero];rw[qaX (by simp) hb];simp only[ht,h,hx,and_self,if_true];rw[qcS (by simp) (qcR hb)];rfl
end
end Go.Av
end
