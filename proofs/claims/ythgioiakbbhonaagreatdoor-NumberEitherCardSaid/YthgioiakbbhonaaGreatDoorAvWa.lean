/-
  Short words for what the generator prints.
-/
import Derived.Test.YthgioiakbbhonaaGreatDoorAvOpt
import Derived.Test.YthgioiakbbhonaaGreatDoorAvHp
import Derived.Test.YthgioiakbbhonaaGreatDoorAvTyp
import Derived.Test.YthgioiakbbhonaaGreatDoorAvFk
set_option linter.unusedSectionVars false
set_option linter.unusedVariables false
set_option maxRecDepth 100000
noncomputable section
namespace Go.Av
section
variable [Glob] {α:Type} {P:Program} {A:Heap}
def Obl.orc:Obl->Orc
 | .triv=> .no
 | .done _ v=> .done v
 | .run _ _ _ v A' wr=> .run v A' wr
 | .call _ _ _ S args' v=> .call S args' v
 | .callF _ _ _ S args' v=> .callF S args' v
 | .callH _ _ _ S v A'=> .callH S v A'
theorem an {a b:Prop} (x:a) (y:b):a/\b:=⟨x,y⟩
theorem nb {b:Bool} (h:b=false): ¬b=true:=by rw[h];exact Bool.false_ne_true
theorem si {a b:α} (h:some a=some b):a=b:=Ye h
theorem nl {a b:Nat} (h:Nat.ble a b=true):a<=b:=Ys h
theorem nI {k:IntKind} {n:Int}:qO (.int k n):=qO.int _ _
theorem nS {s:List UInt8}:qO (.str s):=qO.str _
theorem nB {b:Bool}:qO (.bool b):=qO.bool _
theorem tI {d:Nat} {k:IntKind} {n:Int}:Still (d+1) (.int k n):=Still.int _ _ _
theorem tS {d:Nat} {s:List UInt8}:Still (d+1) (.str s):=Still.str _ _
theorem tB {d:Nat} {b:Bool}:Still (d+1) (.bool b):=Still.bool _ _
abbrev bZ:Blk:= .cells [.i 0,.nilslice]
end
section
variable {α κ:Type} [BEq κ] {P:Program}
structure KeyE (K:κ->AV) (d:TypeDesc):Prop where
 eq: ∀a b,qnu (K a) (K b)=some (a==b)
 plain: ∀a,plainKey d (K a)=true
structure MpT (P:Program) (t kt et:TypeId) (d:TypeDesc) (z:AV):Prop where
 und:P.underlying t=some (.map kt et)
 key:P.underlying kt=some d
 zero:((P.info? et).bind (·.zero)).map (qb4 3)=some z
end
section
variable [Glob]
theorem qka {a b:Nat} {u:Unit} (h:(if a=b then some ()else none:Option Unit)=some u):a=b:=by
 split at h
 ·assumption
 cases h
end
section
variable [Glob]
def qc7 (k:IntKind) (a b:Int):Option Int:=if b=0 then none else some (k.wrap (a.tdiv b))
def qfc (_:IntKind) (a b:Int):Option Int:=if b=0 then none else some (a.tmod b)
theorem qcJ {P:Program} {t:TypeId} {ox oy:Operand} {k:IntKind} {a b q:Int} (h:qc7 k a b=some q):(Obl.done (.opt (zt P .quo t ox oy (.int k a) (.int k b))) (.int k q)).Holds P:=by
 unfold qc7 at h;split at h
 ·cases h
 rename_i hb;obtain rfl:=Ye h;show Pg.opt _=_;simp[zt,qcI,qha,hb,Pg.opt]
theorem qgg {P:Program} {t:TypeId} {ox oy:Operand} {k:IntKind} {a b q:Int} (h:qfc k a b=some q):(Obl.done (.opt (zt P .rem t ox oy (.int k a) (.int k b))) (.int k q)).Holds P:=by
 unfold qfc at h;split at h
 ·cases h
 rename_i hb;obtain rfl:=Ye h;show Pg.opt _=_;simp[zt,qcI,qha,hb,Pg.opt]
end
section
variable [Glob] {α:Type} {P:Program} {A:Heap}
class SC (d:Nat) (a:AV):Prop where
 h:Still d a
class SE {α:Type} (E:Enc α):Prop where
 h:E.dep+1<=7
class SX (d:Nat) (as:List AV):Prop where
 h: ∀a∈as,Still d a
instance {d:Nat}:SX d []:=⟨AllST.nil⟩
instance {d:Nat} {a:AV} {as:List AV} [h:SC d a] [k:SX d as]:SX d (a::as):=⟨AllST.cons h.h k.h⟩
instance {d:Nat} {k:IntKind} {n:Int}:SC (d+1) (.int k n):=⟨tI⟩
instance {d:Nat} {s:List UInt8}:SC (d+1) (.str s):=⟨tS⟩
instance {d:Nat} {b:Bool}:SC (d+1) (.bool b):=⟨tB⟩
instance {d:Nat}:SC (d+1) .nilslice:=⟨Still.nilslice _⟩
instance {d:Nat}:SC (d+1) .nilfunc:=⟨Still.nilfunc _⟩
instance {d:Nat}:SC (d+1) .nilptr:=⟨Still.nilptr _⟩
instance {d:Nat}:SC (d+1) .nilmap:=⟨Still.nilmap _⟩
instance {d:Nat}:SC (d+1) .niliface:=⟨λ_ _=>rfl⟩
instance {d:Nat} {cs:List AV} [h:SX d cs]:SC (d+1) (.agg cs):=⟨Still.agg h.h⟩
instance {d:Nat} {cs:List AV} [h:SX d cs]:SC (d+1) (.tuple cs):=⟨Still.tuple h.h⟩
instance {d:Nat} {cs:List AV} {o:Nat} [h:SX d cs]:SC (d+1) (.fptr cs o):=⟨Still.fptr h.h⟩
instance {d:Nat} {f:Fn} {fs cs:List AV} [h:SX d fs] [k:SX d cs]:SC (d+1) (.func f fs cs):=⟨Still.func h.h k.h⟩
instance {d:Nat} {fs cs:List AV} [h:SX d fs] [k:SX d cs]:SC (d+1) (.fmap fs cs):=⟨Still.fmap h.h k.h⟩
instance {d:Nat} {E:Enc α} {l:List α} [h:SE E]:SC (d+7) (vl E l):=⟨qw E l (aX h.h (Nat.le_add_left _ _))⟩
instance:SE encI:=⟨nl rfl⟩
instance:SE encB:=⟨nl rfl⟩
instance:SE encS:=⟨nl rfl⟩
instance {k:IntKind}:SE (qbk k):=⟨nl rfl⟩
instance:SE (qaG encI):=⟨nl rfl⟩
instance:SE (qaG encS):=⟨nl rfl⟩
instance:SE (qaG encB):=⟨nl rfl⟩
theorem qmG: ∀(d:Nat) (a:AV) (A:Heap),frz A [] d a=frz [] [] d a
 |0,_,_=>rfl
 |d+1,a,A=>by
  have e:frz A [] d=frz [] [] d:=funext λx=>qmG d x A
  unfold frz;rw[e];cases a<;>simp
def Obl.st:Obl->Obl
 | .call g args A S args' v=>match S with
   |[]=> .call g args [] [] args' v
   |b::S=> .call g args A (b::S) args' v
 |o=>o
theorem Obl.st_holds: ∀{o:Obl},o.st.Holds P->o.Holds P
 | .triv,h=>h
 | .done _ _,h=>h
 | .run _ _ _ _ _ _,h=>h
 | .callF _ _ _ _ _ _,h=>h
 | .callH _ _ _ _ _ _,h=>h
 | .call _ _ _ (_::_) _ _,h=>h
 | .call g args A [] args' v,h=>by
   obtain⟨h1,h2⟩:=h;refine⟨?_,h2⟩;rw[show frz A [] 12=frz [] [] 12 from funext λx=>qmG 12 x A];exact h1
theorem qb2.st: ∀{os:List Obl},qb2 P (os.map Obl.st)->qb2 P os
 |[],_=>trivial
 |_::_,h=>⟨Obl.st_holds h.1,qb2.st h.2⟩
theorem Goes.rq [Base] (hm:P.follows .mixedOrders=true) {id m:Nat} {ops:Array Oper} {draw:Bool} {l0:List (Nat×AV)} {Q:XA->St->Prop} (ks:List Nat) (l:List (Nat×AV)) (A':Heap) {obls:List Obl} (ho:qb2 P obls) (hq:Q .normal (ofG m l,A'))
 (h:(qhA P ops draw (ks.zip (obls.map Obl.orc)) (l.map (·.1)) (ofG m l0,A)).map (λr=>(r.1,r.2.1,r.2.2.map Obl.st))=some (ofG m l,A',obls):=by kernel_rfl):Goes P (.region id ops draw) (ofG m l0,A) Q:=by
 obtain⟨r,h1,h2⟩:=Yd.1 h;obtain⟨f,B,os⟩:=r;simp only[ZP]at h2;obtain⟨rfl,rfl,rfl⟩:=h2;exact Goes.reg hm _ _ h1 (qb2.st ho) hq
theorem qbg.rq [Base] (hm:P.follows .mixedOrders=true) {id m:Nat} {ops:Array Oper} {draw:Bool} {l0:List (Nat×AV)} (ks:List Nat) (l:List (Nat×AV)) (A':Heap) {obls:List Obl} (ho:qb2 P obls)
 (h:(qhA P ops draw (ks.zip (obls.map Obl.orc)) (l.map (·.1)) (ofG m l0,A)).map (λr=>(r.1,r.2.1,r.2.2.map Obl.st))=some (ofG m l,A',obls):=by kernel_rfl):qbg P id ops draw (ofG m l0,A) (ofG m l,A'):=by
 obtain⟨r,h1,h2⟩:=Yd.1 h;obtain⟨f,B,os⟩:=r;simp only[ZP]at h2;obtain⟨rfl,rfl,rfl⟩:=h2;exact qbg.reg hm _ _ h1 (qb2.st ho)
theorem hs (o:Obl) (h:o.Holds P):o.Holds P:=h
theorem cv {g:FuncId} {args:List AV} {v:AV} [k:SX 12 args] [q:SC 12 v] (h:qf P (.fn g) args [] v []):(Obl.call g args [] [] args v).Holds P:=qo4 k.h h q.h
theorem gw {b w:Bool} (h:b=w):(Obl.done (.done (.bool b)) (.bool w)).Holds P:=ap (λx=>Pg.done (.bool x)) h
theorem iv {t e:TypeId} {k b:Nat} (T:SlT P t e k b) (E:Enc α) {l:List α} {i:Int} {x:α} (h:idx l i=some x) (hk:E.k=k:=by rfl):(Obl.done (.opt (qd P t (vl E l) (.i i))) (.fptr (l.flatMap E.c) (i.toNat*k))).Holds P:=ix_vl T hk h
theorem lv (off:Nat) {t:TypeId} (T:CeT P t) (E:Enc α) {l:List α} {i:Int} {x:α} (h:idx l i=some x) {c:AV} (hc:(E.c x)[off]? =some c) (ho:Nat.ble (off+1) E.k=true:=by rfl):(Obl.done (qX P t (.fptr (l.flatMap E.c) (i.toNat*E.k+off))) c).Holds P:=ld_vl T rfl h (nl ho) hc
theorem la {t:TypeId} {k:Nat} (T:AgT P t k) (E:Enc α) {l:List α} {i:Int} {x:α} (h:idx l i=some x) (hk:E.k=k:=by rfl):(Obl.done (qX P t (.fptr (l.flatMap E.c) (i.toNat*k))) (.agg (E.c x))).Holds P:=ld_ag T hk h
end
section
variable [Glob] {P:Program} {A:Heap}
section
variable [Base] {id m:Nat} {ops:Array Oper} {draw:Bool} {l0:List (Nat×AV)} {Q:XA->St->Prop} {c2:Code}
theorem sg (hm:P.follows .mixedOrders=true) (l:List (Nat×AV)) (A':Heap) (hq:Goes P c2 (ofG m l,A') Q) (h:qhA P ops draw [] (l.map (·.1)) (ofG m l0,A)=some (ofG m l,A',[]):=by kernel_rfl):Goes P (.seq (.region id ops draw) c2) (ofG m l0,A) Q:=sq (Goes.rg hm l A' hq h)
theorem sh (hm:P.follows .mixedOrders=true) (l:List (Nat×AV)) (hq:Goes P c2 (ofG m l,A) Q) (h:qhA P ops draw [] (l.map (·.1)) (ofG m l0,A)=some (ofG m l,A,[]):=by kernel_rfl):Goes P (.seq (.region id ops draw) c2) (ofG m l0,A) Q:=sq (Goes.rg hm l A hq h)
theorem gh (hm:P.follows .mixedOrders=true) (l:List (Nat×AV)) (hq:Q .normal (ofG m l,A)) (h:qhA P ops draw [] (l.map (·.1)) (ofG m l0,A)=some (ofG m l,A,[]):=by kernel_rfl):Goes P (.region id ops draw) (ofG m l0,A) Q:=Goes.rg hm l A hq h
theorem gq (hm:P.follows .mixedOrders=true) (ks:List Nat) (l:List (Nat×AV)) (A':Heap) {obls:List Obl} (ho:qb2 P obls) (hq:Q .normal (ofG m l,A'))
 (h:(qhA P ops draw (ks.zip (obls.map Obl.orc)) (l.map (·.1)) (ofG m l0,A)).map (λr=>(r.1,r.2.1,r.2.2.map Obl.st))=some (ofG m l,A',obls):=by kernel_rfl):Goes P (.region id ops draw) (ofG m l0,A) Q:=Goes.rq hm ks l A' ho hq h
theorem gr (hm:P.follows .mixedOrders=true) (ks:List Nat) (l:List (Nat×AV)) {obls:List Obl} (ho:qb2 P obls) (hq:Q .normal (ofG m l,A))
 (h:(qhA P ops draw (ks.zip (obls.map Obl.orc)) (l.map (·.1)) (ofG m l0,A)).map (λr=>(r.1,r.2.1,r.2.2.map Obl.st))=some (ofG m l,A,obls):=by kernel_rfl):Goes P (.region id ops draw) (ofG m l0,A) Q:=Goes.rq hm ks l A ho hq h
theorem tr (hm:P.follows .mixedOrders=true) (ks:List Nat) (l:List (Nat×AV)) {obls:List Obl} (ho:qb2 P obls)
 (h:(qhA P ops draw (ks.zip (obls.map Obl.orc)) (l.map (·.1)) (ofG m l0,A)).map (λr=>(r.1,r.2.1,r.2.2.map Obl.st))=some (ofG m l,A,obls):=by kernel_rfl):qbg P id ops draw (ofG m l0,A) (ofG m l,A):=qbg.rq hm ks l A ho h
end
section
variable [Base] {c1 c2:Code} {s:St} {Q:XA->St->Prop} {co:Operand} {α:Type} {x y r:α}
theorem ihB {b:Bool} (h:(if b=true then x else y)=r) (ht:b=true->x=r->Goes P c1 s Q) (hf:b=false->y=r->Goes P c2 s Q) (hv:yJ s.1 co= .bool b:=by kernel_rfl):Goes P (.cond co c1 c2) s Q:=
 Goes.ifB hv (λc=>ht c (by rw[ae c]at h;exact h)) (λc=>hf c (by rw[aa (nb c)]at h;exact h))
theorem ihD {p:Prop} [Decidable p] (h:(if p then x else y)=r) (ht:decide p=true->x=r->Goes P c1 s Q) (hf:decide p=false->y=r->Goes P c2 s Q) (hv:yJ s.1 co= .bool (decide p):=by kernel_rfl):Goes P (.cond co c1 c2) s Q:=
 Goes.ifB hv (λc=>ht c (by rw[ae (aK c)]at h;exact h)) (λc=>hf c (by rw[aa (cO c)]at h;exact h))
end
section
variable {α:Type} {x y r:α}
theorem wyB {b:Bool} (h:(if b=true then x else y)=r):b=true/\x=r\/b=false/\y=r:=by
 cases b
 ·rw[aa Bool.false_ne_true]at h;exact .inr ⟨rfl,h⟩
 rw[ae rfl]at h;exact .inl ⟨rfl,h⟩
theorem wyD {p:Prop} [Decidable p] (h:(if p then x else y)=r):decide p=true/\x=r\/decide p=false/\y=r:=by
 rcases Classical.em p with c|c
 ·rw[ae c]at h;exact .inl ⟨ai c,h⟩
 rw[aa c]at h;exact .inr ⟨ah c,h⟩
end
section
variable {S:List Nat} {m:List (Option Nat)}
theorem qdq.ks {α:Type} {E:Enc α} {x:List α} {b:Nat} {l:List (Option Nat)} {H:Heap} (h:qdq A S m l H) (hA:A[b]? =some (.cells (x.flatMap E.c)):=by rfl) (hS:S.contains b=false:=by rfl) (hl:l.contains (some b)=false:=by rfl):qdq A S m (some b::l) (.cells (x.flatMap E.c)::H):= .keep hA (.same fa) hS hl h
theorem qdq.kb {b:Nat} {x y:Blk} {l:List (Option Nat)} {H:Heap} (hA:A[b]? =some y) (hb:vS A S m x y) (h:qdq A S m l H) (hS:S.contains b=false:=by rfl) (hl:l.contains (some b)=false:=by rfl):qdq A S m (some b::l) (x::H):= .keep hA hb hS hl h
theorem qcs.kp {t i b off:Nat} {l l':List (Nat×AV)} (hl:qcs A S m l l') (h:m[i]? =some (some b):=by rfl):qcs A S m ((t,.ptr b off)::l) ((t,.ptr i off)::l'):= .keep (.ptr h) hl
theorem rc {c' c:AV} {cs' cs:List AV} (h:jm A S m c' c) (hs:qga A S m cs' cs):qga A S m (c'::cs') (c::cs):=qga.cons h hs
theorem rn:qga A S m [] []:=qga.nil
end
class NR (a:AV):Prop where
 h:qO a
class SN (as:List AV):Prop where
 h:qcL as
instance:SN []:=⟨qcL.nil⟩
instance {a:AV} {as:List AV} [h:NR a] [k:SN as]:SN (a::as):=⟨qcL.cons h.h k.h⟩
instance {k:IntKind} {n:Int}:NR (.int k n):=⟨nI⟩
instance {s:List UInt8}:NR (.str s):=⟨nS⟩
instance {b:Bool}:NR (.bool b):=⟨nB⟩
instance:NR .nilslice:=⟨qO.nilslice⟩
instance:NR .nilptr:=⟨qO.nilptr⟩
instance:NR .nilmap:=⟨qO.nilmap⟩
instance:NR .nilfunc:=⟨qO.nilfunc⟩
instance:NR .niliface:=⟨qO.niliface⟩
instance {α:Type} {E:Enc α} {l:List α}:NR (vl E l):=⟨qc E l⟩
instance {cs:List AV} [h:SN cs]:NR (.agg cs):=⟨qO.agg h.h⟩
instance {cs:List AV} [h:SN cs]:NR (.tuple cs):=⟨qO.tuple h.h⟩
instance {f:Fn} {fs cs:List AV} [h:SN fs] [k:SN cs]:NR (.func f fs cs):=⟨qO.func h.h k.h⟩
instance {cs:List AV} {o:Nat} [h:SN cs]:NR (.fptr cs o):=⟨qO.fptr h.h⟩
instance {fs cs:List AV} [h:SN fs] [k:SN cs]:NR (.fmap fs cs):=⟨qO.fmap h.h k.h⟩
theorem sn {as:List AV} [h:SN as]:qcL as:=h.h
theorem gw2 {s:St} {rs:List ResultVar} {v:AV} (xs:List AV) (hf:FzW s.2 (List.range s.2.length) 12 (qgP xs) v) (hx:jJ P s.1 s.2 rs=some xs:=by kernel_rfl):zm P rs v .ret s:=Goes.retW hx hf
theorem gh2 [Base] {s:St} {rs:List ResultVar} {v:AV} {A':Heap} (xs:List AV) (hs:qfZ (qgP xs) s.2 v A') (hx:jJ P s.1 s.2 rs=some xs:=by kernel_rfl):qiB P rs v A' .ret s:=Goes.retH hx hs
end
abbrev qB (k:IntKind) (a b:Int):Int:=k.wrap (BitVec.ofInt k.bits a&&&BitVec.ofInt k.bits b).toNat
abbrev orI (k:IntKind) (a b:Int):Int:=k.wrap (BitVec.ofInt k.bits a|||BitVec.ofInt k.bits b).toNat
abbrev qz (k:IntKind) (a b:Int):Int:=a.fdiv (2^(min b.toNat k.bits))
section
open Go.RowKit
variable [Glob] {α:Type} {P:Program} {A:Heap} {S:List Nat} {m:List (Option Nat)}
def nvl (E:Enc α) (l:List α):AV:=match l with
 |[]=> .nilslice
 |x::xs=>vl E (x::xs)
theorem qp (E:Enc α) (l:List α) {d:Nat} (hd:E.dep+1<=d):Still d (nvl E l):=by
 cases l with
 |nil=>obtain⟨d,rfl⟩:=ci (show 1<=d by omega);exact Still.nilslice d
 |cons x xs=>exact qw E (x::xs) hd
theorem xA (E:Enc α) (l:List α):qO (nvl E l):=by
 cases l with
 |nil=>exact qO.nilslice
 |cons x xs=>exact qc E (x::xs)
def encN (E:Enc α):Enc (List α):=one (nvl E) (E.dep+1) (λx=>by cases x<;>rfl) (λx d hd=>qp E x hd) (λx=>xA E x) (λx d=>by cases x<;>cases d<;>rfl)
theorem qqS {E:Enc α} {l:List α} (h:0<l.length):nvl E l=vl E l:=by
 cases l with
 |nil=>exact absurd h (by simp)
 |cons x xs=>rfl
theorem Ur {E:Enc α} {d:Nat}:FzW A S (d+1) .nilslice (nvl E []):= .of rfl
theorem FzW.nvL {E:Enc α} {l:List α} {d:Nat} (hd:E.dep<=d):FzW A S (d+1) (nvl E l) (vl E l):=by
 cases l with
 |nil=>exact FzW.nilv (E:=E)
 |cons x xs=>exact Ua (qw E (x::xs) (by omega))
theorem FzW.Lnv {E:Enc α} {l:List α} {d:Nat} (h:0<l.length) (hd:E.dep<=d):FzW A S (d+1) (vl E l) (nvl E l):=by rw[qqS h];exact Ua (qw E l (by omega))
theorem qbp {t e:TypeId} (hu:P.underlying t=some (.slice e)) {E:Enc α} {l:List α} {ox oy:Operand}:(Obl.done (.opt (zt P .eql t ox oy (nvl E l) .nilslice)) (.bool l.isEmpty)).Holds P:=by
 show Pg.opt _=_
 cases l with
 |nil=>simp only[nvl,zt,hu];rfl
 |cons x xs=>simp only[nvl,vl,zt,Yr,hu];rfl
theorem ne_nv {t e:TypeId} (hu:P.underlying t=some (.slice e)) {E:Enc α} {l:List α} {ox oy:Operand}:(Obl.done (.opt (zt P .neq t ox oy (nvl E l) .nilslice)) (.bool (!l.isEmpty))).Holds P:=by
 show Pg.opt _=_
 cases l with
 |nil=>simp only[nvl,zt,hu];rfl
 |cons x xs=>simp only[nvl,vl,zt,Yr,hu];rfl
def qh0 (k:IntKind) (a b:Int):Option Int:=if b<0 then none else some (k.wrap (a*2^(min b.toNat k.bits)))
def qk3 (k:IntKind) (a b:Int):Option Int:=if b<0 then none else some (a.fdiv (2^(min b.toNat k.bits)))
theorem qgD {t:TypeId} {ox oy:Operand} {k k':IntKind} {a b q:Int} (h:qh0 k a b=some q):(Obl.done (.opt (zt P .shl t ox oy (.int k a) (.int k' b))) (.int k q)).Holds P:=by
 unfold qh0 at h;split at h
 ·cases h
 rename_i hb;obtain rfl:=Ye h;show Pg.opt _=_;simp[zt,qcI,qfm,hb,Pg.opt]
theorem qhJ {t:TypeId} {ox oy:Operand} {k k':IntKind} {a b q:Int} (h:qk3 k a b=some q):(Obl.done (.opt (zt P .shr t ox oy (.int k a) (.int k' b))) (.int k q)).Holds P:=by
 unfold qk3 at h;split at h
 ·cases h
 rename_i hb;obtain rfl:=Ye h;show Pg.opt _=_;simp[zt,qcI,qfm,hb,Pg.opt]
def qaN (x y c:Int):Option (Int×Int):=if 0<=x/\0<=y/\0<=c/\c<=1 then some ((x+y+c)%18446744073709551616,(x+y+c)/18446744073709551616)else none
def qfa (x y c:Int):Option (Int×Int):=if 0<=x/\0<=y/\y<18446744073709551616/\0<=c/\c<=1 then some ((x-y-c)%18446744073709551616,if x<y+c then 1 else 0)else none
def win (l:List α) (lo hi:Int):Option (Nat×Nat):=if 0<=lo/\lo<=hi/\hi<=l.length/\lo<l.length then some (lo.toNat,(hi-lo).toNat)else none
theorem qqw {l:List α} {lo hi:Int} {p:Nat×Nat} (h:win l lo hi=some p):(0<=lo/\lo<=hi/\hi<=l.length/\lo<l.length)/\p=(lo.toNat,(hi-lo).toNat):=by
 unfold win at h;split at h
 ·rename_i h0;injection h with h;exact⟨h0,h.symm⟩
 cases h
theorem wn_ix {t e:TypeId} {b:Nat} (T:SlT P t e 1 b) {l:List α} {o:Nat} {lo hi:Int} {j n:Nat} (h:win l lo hi=some (j,n)):(Obl.done (.opt (qC P t (.slice o 0 l.length l.length 1) (some (.int .i64 lo)) (some (.int .i64 hi)) none)) (.slice o j n (l.length-j) 1)).Holds P:=by
 obtain⟨inf,z,g1,g2,_⟩:=T.info;obtain⟨⟨h1,h2,h3,h4⟩,e⟩:=qqw h;injection e with e1 e2;subst e1 e2;have hb:=qhS (n:=l.length) (cap:=l.length) (lo:=some lo) (hi:=some hi) rfl rfl (ag _) ⟨h1,h2,h3⟩;show Pg.opt _=_;simp only[opI,YN]at hb;simp only[qC,T.und,g1,hb,g2,Pg.opt,aJ,cF,az];rw[aa (by omega)];congr 2;omega
def qgu (l:List α) (j n:Nat) (i:Int):Option α:=if 0<=i/\i<n then idx l ((j+i.toNat:Nat):Int)else none
theorem wI {l:List α} {j n:Nat} {i:Int} {x:α} (h:qgu l j n i=some x):idx l ((j+i.toNat:Nat):Int)=some x:=by
 unfold qgu at h;split at h
 ·exact h
 cases h
theorem qdU {t e:TypeId} {b:Nat} (T:SlT P t e 1 b) {l:List α} {j n c:Nat} {i:Int} {x:α} {q:IntKind} {o:Nat} (h:qgu l j n i=some x):(Obl.done (.opt (qd P t (.slice o j n c 1) (.int q i))) (.ptr o ((((j+i.toNat:Nat):Int)).toNat*1+0))).Holds P:=by
 obtain⟨inf,z,h1,h2,_⟩:=T.info;unfold qgu at h;split at h
 ·rename_i hi;show Pg.opt _=_;simp only[qd,T.und,h1,h2,hi.1,hi.2,bY,aJ,Pg.opt,aY,cF,aL]
 cases h
end
section
variable [Glob]
instance {d:Nat} {α:Type} {E:Enc α} {l:List α} [h:SE E]:SC (d+7) (nvl E l):=⟨qp E l (aX h.h (Nat.le_add_left _ _))⟩
instance {α:Type} {E:Enc α} {l:List α}:NR (nvl E l):=⟨xA E l⟩
abbrev ni1 (a:Int) (b:List Int):List AV:=[.i a,nvl (qbk .u64) b]
abbrev ni2 (a:Int) (b:List Int) (c:Int) (d:List Int):List AV:=[.i a,nvl (qbk .u64) b,.i c,nvl (qbk .u64) d]
theorem nvc {α:Type} {E:Enc α} {l:List α}:vo (nvl E l)=true:=by cases l<;>rfl
theorem cac {a:AV} {l:List AV} (h:vo a=true) (k:l.all vo=true):(a::l).all vo=true:=by
 rw[bP,h,k];rfl
theorem can:([]:List AV).all vo=true:=rfl
theorem zq {P:Program} {t:TypeId} {n:Nat} {A A':Heap} {b off:Nat} {cs xs:List AV} {v:AV} (ht:(P.info? t).map (·.size)=some n) (hb:A[b]? =some (.cells cs)) (hv:cellsOf v=some xs) (hn:xs.length=n) (ho:Nat.ble (off+n) cs.length=true) (hx:xs.all vo=true) (hA:A'=A.set b (.cells (splice cs off xs))):
 (Obl.run [b] (qx P t (.ptr b off) v) A .undef A' true).Holds P:=by
 subst hn hA;have ho:=Ys ho
 cases hi:P.info? t with
 |none=>rw[hi]at ht;cases ht
 |some inf=>
  rw[hi]at ht;simp only[ZM,ZI]at ht;refine⟨[(b,true),(b,false)],?_,rfl⟩;simp only[qx,hi,hv];rw[qbx (by simp) hb];simp only[ht,ho,hx,bY,aJ];rw[qdG (by simp) (qde hb)];rfl
end
section
variable [Glob] {P:Program} {α:Type} {E:Enc α} {k:Nat} {S:List Nat} {A:Heap}
theorem qri (hk:E.k=k) {q j:Nat} {ys:List α} (hq:A[q]? =some (.cells (ys.flatMap E.c))) (hS:S.contains q=true) (hj:j<=ys.length):qmg E k S A (.slice q 0 j ys.length k) (ys.take j):=by
 subst hk;refine⟨(by intro s h;cases h),λK lo f=>⟨(q,false)::f,?_⟩⟩
 have e0:0+j*E.k<=(ys.flatMap E.c).length:=by
  rw[E.flat_len,az];exact aN _ hj
 have e1:((ys.flatMap E.c).drop 0).take (j*E.k)=(ys.take j).flatMap E.c:=by
  rw[YR];exact qcQ E ys j
 have e2:(ys.take j).length=j:=by rw[Ym];omega
 simp only[kz,qaI];rw[qbx hS hq];simp only[yN,ae e0,e1,E.flat_cell (ys.take j),aJ,e2]
theorem qoM {t e:TypeId} {b:Nat} (T:SlT P t e k b) (hk:E.k=k) {A':Heap} {Y:AV} {ys l r:List α} {o j:Nat} (hs:qmg E k S A Y ys) (hj:j<=l.length)
 (hb:A[o]? =some (.cells (l.flatMap E.c))) (hS:S.contains o=true) (h:some (qho l j ys)=some r) (hA:A'=A.set o (.cells (r.flatMap E.c))):(Obl.run S (qcu P [t,t] (qgM o k l.length j) Y) A (.int .i64 ((Nat.min ys.length (l.length-j):Nat):Int)) A' true).Holds P:=by
 by_cases h0:l.length-j=0
 ·injection h with h;subst hA h hk;obtain⟨inf,z,h1,h2,_⟩:=T.info
  have key:qcu P [t,t] (qgM o E.k l.length j) Y=kz E.k Y λn cs=>qbl E.k o 0 (l.length-j) n cs:=by
   simp only[qcu,qgM,T.und,h1,h2,aJ,h0]
  rw[Obl.Holds,key];obtain⟨f1,e1⟩:=hs.run (λn cs=>qbl E.k o 0 (l.length-j) n cs) A.length [];refine⟨(o,true)::(o,false)::f1,e1.trans ?_,by simp⟩
  have hm:Nat.min ys.length (l.length-j)=0:=by rw[h0];exact Nat.min_zero _
  have hr:qho l j ys=l:=by
   have:l.drop j=[]:=aA (by omega);simp[qho,cpy,this,aj (show l.length<=j by omega)]
  simp only[qbl];rw[qbx hS hb];simp only[hm,bf,bh,be,aY,aF,aJ];rw[qdG hS (qde hb),hr];simp[splice];rfl
 have key:qcu P [t,t] (qgM o k l.length j) Y=qcu P [t,t] (.wslice o (j*k) (l.length-j) k) Y:=by
  simp only[qcu,qgM,aa h0,az]
 rw[key];exact qqJ T hk hs hj hb hS h hA
theorem qrq {t e:TypeId} {b:Nat} (T:SlT P t e (k+1) b) {A:Heap}:(Obl.run [] (zO P [t,t] .nilslice (vl E ([]:List α))) A .nilslice A false).Holds P:=by
 rw[Obl.Holds,T.append (Nat.succ_pos k) _ _ (by simp[vl])];refine⟨[],?_,rfl⟩;simp[vl,kz,xD];rfl
end
section
variable [Glob] {α:Type} {P:Program} {A:Heap} {S:List Nat} {E:Enc α} {k:Nat}
variable {m:List (Option Nat)}
end
section
variable [Glob] {P:Program}
theorem qfA {t:TypeId} {m:String} {g:FuncId} {args:List AV} {A:Heap} {v:AV} (hm:Enters P g/\qqv P t m g) (ha: ∀a∈args,Still 12 a) (hc:qf P (.fn g) args [] v []) (hv:Still 12 v):(Obl.callH (.mt t m) args A [] v A).Holds P:=by
 refine⟨ag _,qgS rfl,λM hM _=>?_⟩;rw[qgS hM.symm];have hmap:args.mapM (frz M [] 12)=some args:=zX ha;have h1:=qf.byS (A:=M) (S:=[]) hmap hc (hv [] _)
 have e:(if flat 6 v=true then M else qW [] M)=M:=by split<;>rfl
 rw[e]at h1;exact⟨g,hm.2,λF nu w vs i hargs=>h1.calls hm.1 i hargs⟩
def nIf (P:Program) (t:TypeId):Bool:=match P.underlying t with|some (.interface _)=>false|some _=>true|none=>false
abbrev mkI (P:Program) (t:TypeId) (a:AV):Pg:=match P.underlying t with|some (.interface _)=> .fail|some _=> .done (.iface t a)|none=> .fail
theorem qjB {t:TypeId} {a:AV} (ht:nIf P t=true):(Obl.done (mkI P t a) (.iface t a)).Holds P:=by
 show mkI P t a= .done (.iface t a);unfold nIf at ht;unfold mkI;split at ht
 ·cases ht
 ·rfl
 cases ht
end
section
open Go.RowKit
variable [Glob]
def _root_.Go.Code.x1:Code->Code
 | .seq a _=>a
 | .cond _ a _=>a
 | .block _ c=>c
 | .loop c=>c
 | .scope c=>c
 | .rangeFunc _ _ a _=>a
 |c=>c
def _root_.Go.Code.x2:Code->Code
 | .seq _ b=>b
 | .cond _ _ b=>b
 | .rangeFunc _ _ _ b=>b
 |c=>c
def qnt {α:Type} (b:Nat) (c:Int) (z:α):Option (List α):=
 if 0<c/\c<=140737488355328/\c*b<=140737488355328 then some (List.replicate c.toNat z)else none
theorem qpB {α:Type} {P:Program} {E:Enc α} {k:Nat} {A:Heap} {t e ti:TypeId} {b:Nat} (T:SlT P t e k b) (hti:P.underlying ti=some (.int .i64)) (hk:E.k=k) {z:α} (hz:qfj P e=some (E.c z)) {A':Heap} {r:List α} {c:Int}
 (h:qnt b c z=some r) (hA:A'=A++[.cells (r.flatMap E.c)]):(Obl.run [] (zO P [t,ti] .nilslice (.int .i64 c)) A (.oslice A.length r.length k) A' false).Holds P:=by
 subst hk hA;obtain⟨inf,z0,h1,h2,h3,h4,h5⟩:=T.info;unfold qnt at h;split at h
 ·rename_i hc;obtain⟨c1,c2,c3⟩:=hc;obtain rfl:=Ye h
  have hz':cellsOf (qb4 3 z0)=some (E.c z):=by
   unfold qfj at hz;rw[h1]at hz;simp only[h4]at hz;exact hz
  have e1:z0.cells.size=inf.size/\0<inf.size:=⟨by rw[h5,h2],by rw[h2];exact E.pos⟩
  have e2:(E.c z).all vo=true:=by have:=E.flat_cell [z];simpa using this
  have e3:0<=c/\c<=140737488355328/\c*inf.bytes<=140737488355328/\(E.c z).all vo=true:=⟨by omega,c2,by rw[h3];exact c3,e2⟩;refine⟨[],?_,rfl⟩;simp only[zO,T.und,hti,h1,h4];rw[ae e1];simp only[hz'];rw[ae e3,h2,qiy]
  have e4: ¬(c.toNat=0):=by omega
  have e5:c.toNat*inf.bytes<=140737488355328/\c.toNat<=140737488355328:=by
   rw[h3];refine⟨?_,by omega⟩
   have:((c.toNat*b:Nat):Int)=c*b:=by rw[aZ,Int.toNat_of_nonneg (by omega)]
   omega
  simp only[xD];rw[aa e4,ae e5,qgR,qfo];simp
 cases h
end
section
variable [Glob]
section
variable [Base] {α:Type}
theorem Sub.stp {fr:Fr} {A A':Heap} (h: ∀(F:Nat->Prop) (nu:Nat->Option Nat) (w:World),Inv F nu A w-> ∃F' nu',Stp F nu A w F' nu' A' w):Sub (fr,A) (fr,A'):=λ_ _ F nu _ w st hf hd=>by
 obtain⟨F',nu',s⟩:=h F nu w st.inv;exact⟨F',nu',st.trans s,hf.mono (s.ext st.inv),hd.step s⟩
def xu (E:Enc α) (l:List α):Ent:= .own E.k (l.flatMap E.c)
def bg (E:Enc α) (rows:List (List α)):Blk:= .bag (rows.map (xu E))
def qaw (rows:List α) (i:Int) (l:α):List α:=rows.set i.toNat l
omit [Glob] [Base]in
theorem qfh (rows:List α) (i:Int) (l:α):rows.length=(qaw rows i l).length:=(Yk ..).symm
theorem Sub.bagTake {E:Enc α} {fr:Fr} {A:Heap} {b j:Nat} {es:List Ent} {l:List α} (hA:A[b]? =some (.bag es)) (hj:es[j]? =some (xu E l)):
 Sub (fr,A) (fr,A.set b (.bag (es.set j (.av (.gslice A.length l.length E.k))))++[.cells (l.flatMap E.c)]):=
 Sub.stp λF _ _ i=>⟨F,Stp.take i hA hj (E.flat_len l).symm E.pos⟩
theorem Us {E:Enc α} {fr:Fr} {A:Heap} {b c j:Nat} {es:List Ent} {a:AV} {l:List α} (hne:b≠c) (hA:A[b]? =some (.bag es)) (hC:A[c]? =some (.cells (l.flatMap E.c))) (hj:es[j]? =some (.av a)) (ha:qg7 c l.length E.k a):
 Sub (fr,A) (fr,(A.set b (.bag (es.set j (xu E l)))).set c .dead):=
 Sub.stp λF nu _ i=>⟨F,nu,Stp.give i hne hA hC hj ha (E.flat_len l).symm⟩
theorem qmn {E:Enc α} {rows:List (List α)} {i:Int} {x:List α} (h:idx rows i=some x):(rows.map (xu E))[i.toNat]? =some (xu E x):=by
 obtain⟨_,_,g⟩:=xI h;rw[YA,g];rfl
theorem qgr {E:Enc α} {rows:List (List α)} {i:Int} {x:List α} (h:idx rows i=some x):i.toNat<(rows.map (xu E)).length:=(Yb.1 (qmn h)).1
theorem at_set {E:Enc α} {rows:List (List α)} {i:Int} {x:List α} (h:idx rows i=some x) {y:Ent}:((rows.map (xu E)).set i.toNat y)[i.toNat]? =some y:=by
 rw[List.getElem?_set,ae rfl,ae (qgr h)]
theorem Uh {E:Enc α} {fr:Fr} {A:Heap} {b:Nat} {rows:List (List α)} {i:Int} {x:List α} (hA:A[b]? =some (bg E rows)) (h:idx rows i=some x):
 Sub (fr,A) (fr,A.set b (.bag ((rows.map (xu E)).set i.toNat (.av (.gslice A.length x.length E.k))))++[.cells (x.flatMap E.c)]):=Sub.bagTake hA (qmn h)
theorem Sub.bagGive1 {E:Enc α} {fr:Fr} {A:Heap} {b c n:Nat} {rows:List (List α)} {i:Int} {x l:List α} {a:AV} (hne:b≠c) (hA:A[b]? =some (.bag ((rows.map (xu E)).set i.toNat (.av a)))) (hC:A[c]? =some (.cells (l.flatMap E.c)))
 (h:idx rows i=some x) (ha:qg7 c n E.k a) (hn:n=l.length):Sub (fr,A) (fr,(A.set b (bg E (qaw rows i l))).set c .dead):=by
 subst hn
 have e:bg E (qaw rows i l)= .bag (((rows.map (xu E)).set i.toNat (.av a)).set i.toNat (xu E l)):=by
  unfold bg qaw;rw[bx,ef]
 rw[e];exact Us hne hA hC (at_set h) ha
theorem Sub.bagGiveA {E:Enc α} {fr:Fr} {A:Heap} {b c n k:Nat} {l r:List (List α)} {x:List α} {a:AV} (hne:b≠c) (hA:A[b]? =some (.bag (l.map (xu E)++[Ent.av a]))) (hC:A[c]? =some (.cells (x.flatMap E.c)))
 (h:app k l [x]=some r) (ha:qg7 c n E.k a) (hn:n=x.length):Sub (fr,A) (fr,(A.set b (bg E r)).set c .dead):=by
 subst hn;obtain⟨_,_,rfl⟩:=qe7 h
 have e:bg E (l++[x])= .bag ((l.map (xu E)++[Ent.av a]).set l.length (xu E x)):=by
  unfold bg;rw[dL,cD (h:=by simp)];simp
 rw[e];exact Us hne hA hC (by simp) ha
theorem Sub.bagFreeze {E:Enc α} {fr:Fr} {A:Heap} {b:Nat} {rows:List (List α)} (hA:A[b]? =some (bg E rows)):Sub (fr,A) (fr,A.set b (.frozen (rows.flatMap (qaG E).c))):=by
 have e:rows.flatMap (qaG E).c=rows.map (vl E):=by
  clear hA
  induction rows with
  |nil=>rfl
  |cons r rows ih=>rw[bz,ih];rfl
 rw[e]
 refine Sub.stp λF nu w i=>?_
 have hz: ∀(j:Nat) (y:Ent) (a:AV),(rows.map (xu E))[j]? =some y->(rows.map (vl E))[j]? =some a-> ∃k n cs,y= .own k cs/\n*k=cs.length/\0<k/\a= .fslice n cs:=by
  intro j y a hy ha;rw[YA]at hy ha;obtain⟨r,hr,rfl⟩:=Yd.1 hy;rw[hr]at ha;simp only[ZM,ZI]at ha;exact⟨E.k,r.length,_,rfl,(E.flat_len r).symm,E.pos,ha.symm⟩
 obtain⟨F',h⟩:=Stp.freezeBag i hA (fs:=rows.map (vl E)) (by simp) hz;exact⟨F',nu,h⟩
end
theorem ownN {α:Type} {E:Enc α} {rows:List (List α)} {j:Nat} {x:Ent} (h:(rows.map (xu E))[j]? =some x): ∃r,x=xu E r/\qcL (r.flatMap E.c):=by
 rw[YA]at h;obtain⟨r,_,rfl⟩:=Yd.1 h;refine⟨r,rfl,λc hc=>?_⟩;obtain⟨y,_,hy⟩:=List.mem_flatMap.1 hc;exact E.noRef y c hy
theorem vS.bgs {α:Type} {A:Heap} {S:List Nat} {m:List (Option Nat)} {E:Enc α} {rows:List (List α)}:vS A S m (bg E rows) (bg E rows):=by
 refine .bag rfl λj x' x h1 h2=>?_
 rw[h1]at h2;obtain rfl:=Ye h2;obtain⟨r,rfl,hr⟩:=ownN h1;exact .own hr
theorem vS.bgv {α:Type} {A:Heap} {S:List Nat} {m:List (Option Nat)} {E:Enc α} {rows:List (List α)} {i:Nat} {a' a:AV} (h:jm A S m a' a):vS A S m (.bag ((rows.map (xu E)).set i (.av a'))) (.bag ((rows.map (xu E)).set i (.av a))):=by
 refine .bag (by simp) λj x' x h1 h2=>?_
 by_cases e:j=i
 ·subst e;have hlt:=(Yb.1 h1).1;rw[Yk]at hlt;rw[List.getElem?_set_self hlt]at h1 h2;obtain rfl:=Ye h1;obtain rfl:=Ye h2;exact .av h
 rw[Yw (λc=>e c.symm)]at h1 h2;rw[h1]at h2;obtain rfl:=Ye h2;obtain⟨r,rfl,hr⟩:=ownN h1;exact .own hr
section
variable {P:Program}
theorem qcy {t:TypeId} (T:CeT P t) {A:Heap} {o:Nat} {es:List Ent} (hb:A[o]? =some (.bag es)) {i:Int} {a:AV} (h:es[i.toNat]? =some (.av a)):(Obl.run [o] (qX P t (.ptr o (i.toNat*1+0))) A a A false).Holds P:=by
 refine⟨[(o,false)],?_,rfl⟩;rw[T.load];simp only[yY,qaI,cF,aY];rw[qbx (by simp) hb];simp only[yN,h];rfl
theorem qmB {α:Type} {t e:TypeId} {b:Nat} (T:SlT P t e 1 b) {E:Enc α} {S:List Nat} {A A':Heap} {l r:List (List α)} {x:List α} {a:AV} {o q:Nat} (hq:A[q]? =some (.cells [a])) (hSq:S.contains q=true) (hcc:vo a=true)
 (hb:A[o]? =some (bg E l)) (hS:S.contains o=true) (h:app b l [x]=some r) (hA:A'=A.set o .dead++[.bag (l.map (xu E)++[.av a])]):
 (Obl.run S (zO P [t,t] (.gslice o l.length 1) (.slice q 0 1 1 1)) A (.gslice A.length r.length 1) A' true).Holds P:=by
 subst hA;obtain⟨h1,h2,h3⟩:=qe7 h
 have h4:r.length=l.length+1:=by rw[h3];simp
 simp only[Yr,be,az]at h1 h2;rw[h4,Obl.Holds,T.append (Nat.succ_pos 0) _ _ (by intro s h;cases h)];refine⟨[(o,true),(o,false),(q,false)],?_,rfl⟩;simp only[kz,qaI];rw[qbx hSq hq];simp only[yN,Yr,be,az,cF,ag,aJ,YR,dn,bh,bP,eh,Bool.and_true,hcc,xD];rw[qbx hS hb];simp only[bg,bo,h1,h2,bY,aJ];rw[qdG hS (qde hb),qgR,qfo,Yk]
theorem qhB {t:TypeId} {A A':Heap} {o:Nat} {es:List Ent} (ht:(P.info? t).map (·.size)=some 1) (hb:A[o]? =some (.bag es)) {i:Int} {a:AV} (h:i.toNat<es.length) (hv:cellsOf a=some [a]) (hx:vo a=true) (hA:A'=A.set o (.bag (es.set i.toNat (.av a)))):
 (Obl.run [o] (qx P t (.ptr o (i.toNat*1+0)) a) A .undef A' true).Holds P:=by
 subst hA
 cases hi:P.info? t with
 |none=>rw[hi]at ht;cases ht
 |some inf=>
  rw[hi]at ht;simp only[ZM,ZI]at ht;refine⟨[(o,true),(o,false)],?_,rfl⟩;simp only[qx,hi,hv,cF,aY];rw[qbx (by simp) hb];simp only[ht,h,hx,bY,aJ];rw[qdG (by simp) (qde hb)];rfl
end
end
end Go.Av
end
