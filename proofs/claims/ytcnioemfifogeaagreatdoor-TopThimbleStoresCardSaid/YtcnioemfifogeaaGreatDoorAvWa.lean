/-
  Short words for what the generator prints.
-/
import Derived.Test.YtcnioemfifogeaaGreatDoorAvOpt
import Derived.Test.YtcnioemfifogeaaGreatDoorAvHp
set_option linter.unusedSectionVars false
set_option linter.unusedVariables false
section
namespace Go.Av
variable [Glob] {α:Type} {P:Program} {A:Heap}
def Obl.orc:Obl->Orc
 | .triv=> .no
 | .done _ v=> .done v
 | .run _ _ _ v A' wr=> .run v A' wr
 | .call _ _ _ S args' v=> .call S args' v
 | .callF _ _ _ S args' v=> .callF S args' v
 | .callH _ _ _ S v A'=> .callH S v A'
theorem Goes.rp [Base] (hm:P.follows .mixedOrders=true) {id m:Nat} {ops:Array Oper} {draw:Bool} {l0:List (Nat×AV)} {Q:XA->St->Prop} (ks:List Nat) (l:List (Nat×AV)) (A':Heap) (obls:List Obl) (ho:qsB P obls) (hq:Q .normal (ofG m l,A'))
 (h:qwD P ops draw (ks.zip (obls.map Obl.orc)) (l.map (·.1)) (ofG m l0,A)=some (ofG m l,A',obls):=by kernel_rfl):Goes P (.region id ops draw) (ofG m l0,A) Q:=Goes.reg hm _ _ h ho hq
theorem qgY.rp [Base] (hm:P.follows .mixedOrders=true) {id m:Nat} {ops:Array Oper} {draw:Bool} {l0:List (Nat×AV)} (ks:List Nat) (l:List (Nat×AV)) (A':Heap) (obls:List Obl) (ho:qsB P obls)
 (h:qwD P ops draw (ks.zip (obls.map Obl.orc)) (l.map (·.1)) (ofG m l0,A)=some (ofG m l,A',obls):=by kernel_rfl):qgY P id ops draw (ofG m l0,A) (ofG m l,A'):=qgY.reg hm _ _ h ho
theorem an {a b:Prop} (x:a) (y:b):a/\b:=⟨x,y⟩
theorem nb {b:Bool} (h:b=false): ¬b=true:=by rw[h];exact Bool.false_ne_true
theorem si {a b:α} (h:some a=some b):a=b:=Ye h
theorem nl {a b:Nat} (h:Nat.ble a b=true):a<=b:=Ys h
theorem nI {k:IntKind} {n:Int}:qbg (.int k n):=qbg.int _ _
theorem nS {s:List UInt8}:qbg (.str s):=qbg.str _
theorem nB {b:Bool}:qbg (.bool b):=qbg.bool _
theorem tI {d:Nat} {k:IntKind} {n:Int}:Still (d+1) (.int k n):=Still.int _ _ _
theorem tS {d:Nat} {s:List UInt8}:Still (d+1) (.str s):=Still.str _ _
theorem tB {d:Nat} {b:Bool}:Still (d+1) (.bool b):=Still.bool _ _
end Go.Av
end
section
namespace Go.Av
variable {α κ:Type} [BEq κ] {P:Program}
structure KeyE (K:κ->AV) (d:TypeDesc):Prop where
 eq: ∀a b,qB2 (K a) (K b)=some (a==b)
 plain: ∀a,plainKey d (K a)=true
structure MpT (P:Program) (t kt et:TypeId) (d:TypeDesc) (z:AV):Prop where
 und:P.underlying t=some (.map kt et)
 key:P.underlying kt=some d
 zero:((P.info? et).bind (·.zero)).map (qsf 3)=some z
end Go.Av
end
noncomputable section
namespace Go.Av
variable [Glob]
theorem qFn {a b:Nat} {u:Unit} (h:(if a=b then some ()else none:Option Unit)=some u):a=b:=by
 split at h
 ·assumption
 cases h
end Go.Av
end
noncomputable section
namespace Go.Av
variable [Glob]
end Go.Av
end
noncomputable section
namespace Go.Av
variable [Glob] {α:Type} {P:Program} {A:Heap}
class SC (d:Nat) (a:AV):Prop where
 h:Still d a
class SE {α:Type} (E:Enc α):Prop where
 h:E.dep+1<=7
class SX (d:Nat) (as:List AV):Prop where
 h: ∀a∈as,Still d a
instance {d:Nat}:SX d []:=⟨AllST.nil⟩
instance {d:Nat} {a:AV} {as:List AV} [h:SC d a] [k:SX d as]:SX d (a::as):=⟨AllST.cons h.h k.h⟩
instance {d:Nat} {k:IntKind} {n:Int}:SC (d+1) (.int k n):=⟨tI⟩
instance {d:Nat} {s:List UInt8}:SC (d+1) (.str s):=⟨tS⟩
instance {d:Nat} {b:Bool}:SC (d+1) (.bool b):=⟨tB⟩
instance {d:Nat}:SC (d+1) .nilslice:=⟨Still.nilslice _⟩
instance {d:Nat}:SC (d+1) .nilfunc:=⟨Still.nilfunc _⟩
instance {d:Nat}:SC (d+1) .nilptr:=⟨Still.nilptr _⟩
instance {d:Nat}:SC (d+1) .nilmap:=⟨Still.nilmap _⟩
instance {d:Nat}:SC (d+1) .niliface:=⟨fun _ _=>rfl⟩
instance {d:Nat} {cs:List AV} [h:SX d cs]:SC (d+1) (.agg cs):=⟨Still.agg h.h⟩
instance {d:Nat} {cs:List AV} [h:SX d cs]:SC (d+1) (.tuple cs):=⟨Still.tuple h.h⟩
instance {d:Nat} {cs:List AV} {o:Nat} [h:SX d cs]:SC (d+1) (.fptr cs o):=⟨Still.fptr h.h⟩
instance {d:Nat} {f:Fn} {fs cs:List AV} [h:SX d fs] [k:SX d cs]:SC (d+1) (.func f fs cs):=⟨Still.func h.h k.h⟩
instance {d:Nat} {fs cs:List AV} [h:SX d fs] [k:SX d cs]:SC (d+1) (.fmap fs cs):=⟨Still.fmap h.h k.h⟩
instance {d:Nat} {E:Enc α} {l:List α} [h:SE E]:SC (d+7) (vl E l):=⟨jo E l (Nat.le_trans h.h (Nat.le_add_left _ _))⟩
instance:SE encI:=⟨nl rfl⟩
instance:SE encB:=⟨nl rfl⟩
instance:SE encS:=⟨nl rfl⟩
instance {k:IntKind}:SE (encK k):=⟨nl rfl⟩
instance:SE (qBz encI):=⟨nl rfl⟩
instance:SE (qBz encS):=⟨nl rfl⟩
instance:SE (qBz encB):=⟨nl rfl⟩
theorem qFA: ∀(d:Nat) (a:AV) (A:Heap),frz A [] d a=frz [] [] d a
 |0,_,_=>rfl
 |d+1,a,A=>by
  have e:frz A [] d=frz [] [] d:=funext fun x=>qFA d x A
  unfold frz
  rw[e]
  cases a<;>simp
def Obl.st:Obl->Obl
 | .call g args A S args' v=>match S with
   |[]=> .call g args [] [] args' v
   |b::S=> .call g args A (b::S) args' v
 |o=>o
theorem Obl.st_holds: ∀{o:Obl},o.st.Holds P->o.Holds P
 | .triv,h=>h
 | .done _ _,h=>h
 | .run _ _ _ _ _ _,h=>h
 | .callF _ _ _ _ _ _,h=>h
 | .callH _ _ _ _ _ _,h=>h
 | .call _ _ _ (_::_) _ _,h=>h
 | .call g args A [] args' v,h=>by
   obtain⟨h1,h2⟩:=h
   refine⟨?_,h2⟩
   rw[show frz A [] 12=frz [] [] 12 from funext fun x=>qFA 12 x A]
   exact h1
theorem qsB.st: ∀{os:List Obl},qsB P (os.map Obl.st)->qsB P os
 |[],_=>trivial
 |_::_,h=>⟨Obl.st_holds h.1,qsB.st h.2⟩
theorem Goes.rq [Base] (hm:P.follows .mixedOrders=true) {id m:Nat} {ops:Array Oper} {draw:Bool} {l0:List (Nat×AV)} {Q:XA->St->Prop} (ks:List Nat) (l:List (Nat×AV)) (A':Heap) {obls:List Obl} (ho:qsB P obls) (hq:Q .normal (ofG m l,A'))
 (h:(qwD P ops draw (ks.zip (obls.map Obl.orc)) (l.map (·.1)) (ofG m l0,A)).map (fun r=>(r.1,r.2.1,r.2.2.map Obl.st))=some (ofG m l,A',obls):=by kernel_rfl):Goes P (.region id ops draw) (ofG m l0,A) Q:=by
 obtain⟨r,h1,h2⟩:=Yd.1 h
 obtain⟨f,B,os⟩:=r
 simp only[ZP]at h2
 obtain⟨rfl,rfl,rfl⟩:=h2
 exact Goes.reg hm _ _ h1 (qsB.st ho) hq
theorem qgY.rq [Base] (hm:P.follows .mixedOrders=true) {id m:Nat} {ops:Array Oper} {draw:Bool} {l0:List (Nat×AV)} (ks:List Nat) (l:List (Nat×AV)) (A':Heap) {obls:List Obl} (ho:qsB P obls)
 (h:(qwD P ops draw (ks.zip (obls.map Obl.orc)) (l.map (·.1)) (ofG m l0,A)).map (fun r=>(r.1,r.2.1,r.2.2.map Obl.st))=some (ofG m l,A',obls):=by kernel_rfl):qgY P id ops draw (ofG m l0,A) (ofG m l,A'):=by
 obtain⟨r,h1,h2⟩:=Yd.1 h
 obtain⟨f,B,os⟩:=r
 simp only[ZP]at h2
 obtain⟨rfl,rfl,rfl⟩:=h2
 exact qgY.reg hm _ _ h1 (qsB.st ho)
theorem ac {o:Obl} {os:List Obl} (x:o.Holds P) (y:qsB P os):qsB P (o::os):=⟨x,y⟩
theorem az:qsB P []:=trivial
theorem hs (o:Obl) (h:o.Holds P):o.Holds P:=h
theorem cv {g:FuncId} {args:List AV} {v:AV} [k:SX 12 args] [q:SC 12 v] (h:zu P (.fn g) args [] v []):(Obl.call g args [] [] args v).Holds P:=qHk k.h h q.h
theorem gw {b w:Bool} (h:b=w):(Obl.done (.done (.bool b)) (.bool w)).Holds P:=congrArg (fun x=>Pg.done (.bool x)) h
theorem iv {t e:TypeId} {k b:Nat} (T:SlT P t e k b) (E:Enc α) {l:List α} {i:Int} {x:α} (h:idx l i=some x) (hk:E.k=k:=by rfl):(Obl.done (.opt (yX P t (vl E l) (.i i))) (.fptr (l.flatMap E.c) (i.toNat*k))).Holds P:=ix_vl T hk h
theorem lv (off:Nat) {t:TypeId} (T:CeT P t) (E:Enc α) {l:List α} {i:Int} {x:α} (h:idx l i=some x) {c:AV} (hc:(E.c x)[off]? =some c) (ho:Nat.ble (off+1) E.k=true:=by rfl):(Obl.done (qqr P t (.fptr (l.flatMap E.c) (i.toNat*E.k+off))) c).Holds P:=ld_vl T rfl h (nl ho) hc
theorem la {t:TypeId} {k:Nat} (T:AgT P t k) (E:Enc α) {l:List α} {i:Int} {x:α} (h:idx l i=some x) (hk:E.k=k:=by rfl):(Obl.done (qqr P t (.fptr (l.flatMap E.c) (i.toNat*k))) (.agg (E.c x))).Holds P:=ld_ag T hk h
end Go.Av
end
noncomputable section
namespace Go.Av
variable [Glob] {P:Program} {A:Heap}
section
variable [Base] {id m:Nat} {ops:Array Oper} {draw:Bool} {l0:List (Nat×AV)} {Q:XA->St->Prop} {c2:Code}
theorem sg (hm:P.follows .mixedOrders=true) (l:List (Nat×AV)) (A':Heap) (hq:Goes P c2 (ofG m l,A') Q) (h:qwD P ops draw [] (l.map (·.1)) (ofG m l0,A)=some (ofG m l,A',[]):=by kernel_rfl):Goes P (.seq (.region id ops draw) c2) (ofG m l0,A) Q:=sq (Goes.rg hm l A' hq h)
theorem sh (hm:P.follows .mixedOrders=true) (l:List (Nat×AV)) (hq:Goes P c2 (ofG m l,A) Q) (h:qwD P ops draw [] (l.map (·.1)) (ofG m l0,A)=some (ofG m l,A,[]):=by kernel_rfl):Goes P (.seq (.region id ops draw) c2) (ofG m l0,A) Q:=sq (Goes.rg hm l A hq h)
theorem gh (hm:P.follows .mixedOrders=true) (l:List (Nat×AV)) (hq:Q .normal (ofG m l,A)) (h:qwD P ops draw [] (l.map (·.1)) (ofG m l0,A)=some (ofG m l,A,[]):=by kernel_rfl):Goes P (.region id ops draw) (ofG m l0,A) Q:=Goes.rg hm l A hq h
theorem gq (hm:P.follows .mixedOrders=true) (ks:List Nat) (l:List (Nat×AV)) (A':Heap) {obls:List Obl} (ho:qsB P obls) (hq:Q .normal (ofG m l,A'))
 (h:(qwD P ops draw (ks.zip (obls.map Obl.orc)) (l.map (·.1)) (ofG m l0,A)).map (fun r=>(r.1,r.2.1,r.2.2.map Obl.st))=some (ofG m l,A',obls):=by kernel_rfl):Goes P (.region id ops draw) (ofG m l0,A) Q:=Goes.rq hm ks l A' ho hq h
theorem gr (hm:P.follows .mixedOrders=true) (ks:List Nat) (l:List (Nat×AV)) {obls:List Obl} (ho:qsB P obls) (hq:Q .normal (ofG m l,A))
 (h:(qwD P ops draw (ks.zip (obls.map Obl.orc)) (l.map (·.1)) (ofG m l0,A)).map (fun r=>(r.1,r.2.1,r.2.2.map Obl.st))=some (ofG m l,A,obls):=by kernel_rfl):Goes P (.region id ops draw) (ofG m l0,A) Q:=Goes.rq hm ks l A ho hq h
theorem tr (hm:P.follows .mixedOrders=true) (ks:List Nat) (l:List (Nat×AV)) {obls:List Obl} (ho:qsB P obls)
 (h:(qwD P ops draw (ks.zip (obls.map Obl.orc)) (l.map (·.1)) (ofG m l0,A)).map (fun r=>(r.1,r.2.1,r.2.2.map Obl.st))=some (ofG m l,A,obls):=by kernel_rfl):qgY P id ops draw (ofG m l0,A) (ofG m l,A):=qgY.rq hm ks l A ho h
end
section
variable [Base] {c1 c2:Code} {s:St} {Q:XA->St->Prop} {co:Operand} {α:Type} {x y r:α}
theorem ihB {b:Bool} (h:(if b=true then x else y)=r) (ht:b=true->x=r->Goes P c1 s Q) (hf:b=false->y=r->Goes P c2 s Q) (hv:qiJ s.1 co= .bool b:=by kernel_rfl):Goes P (.cond co c1 c2) s Q:=
 Goes.ifB hv (fun c=>ht c (by rw[if_pos c]at h;exact h)) (fun c=>hf c (by rw[if_neg (nb c)]at h;exact h))
theorem ihD {p:Prop} [Decidable p] (h:(if p then x else y)=r) (ht:decide p=true->x=r->Goes P c1 s Q) (hf:decide p=false->y=r->Goes P c2 s Q) (hv:qiJ s.1 co= .bool (decide p):=by kernel_rfl):Goes P (.cond co c1 c2) s Q:=
 Goes.ifB hv (fun c=>ht c (by rw[if_pos (of_decide_eq_true c)]at h;exact h)) (fun c=>hf c (by rw[if_neg (of_decide_eq_false c)]at h;exact h))
end
section
variable {α:Type} {x y r:α}
theorem wyB {b:Bool} (h:(if b=true then x else y)=r):b=true/\x=r\/b=false/\y=r:=by
 cases b
 ·rw[if_neg Bool.false_ne_true]at h;exact .inr ⟨rfl,h⟩
 rw[if_pos rfl]at h;exact .inl ⟨rfl,h⟩
theorem wyD {p:Prop} [Decidable p] (h:(if p then x else y)=r):decide p=true/\x=r\/decide p=false/\y=r:=by
 rcases Classical.em p with c|c
 ·rw[if_pos c]at h;exact .inl ⟨decide_eq_true c,h⟩
 rw[if_neg c]at h;exact .inr ⟨decide_eq_false c,h⟩
end
section
variable {S:List Nat} {m:List (Option Nat)}
theorem qs6.ks {α:Type} {E:Enc α} {x:List α} {b:Nat} {l:List (Option Nat)} {H:Heap} (h:qs6 A S m l H) (hA:A[b]? =some (.cells (x.flatMap E.c)):=by rfl) (hS:S.contains b=false:=by rfl) (hl:l.contains (some b)=false:=by rfl):qs6 A S m (some b::l) (.cells (x.flatMap E.c)::H):= .keep hA (.same fa) hS hl h
theorem qs6.kb {b:Nat} {x y:Blk} {l:List (Option Nat)} {H:Heap} (hA:A[b]? =some y) (hb:qqM A S m x y) (h:qs6 A S m l H) (hS:S.contains b=false:=by rfl) (hl:l.contains (some b)=false:=by rfl):qs6 A S m (some b::l) (x::H):= .keep hA hb hS hl h
theorem qso.kp {t i b off:Nat} {l l':List (Nat×AV)} (hl:qso A S m l l') (h:m[i]? =some (some b):=by rfl):qso A S m ((t,.ptr b off)::l) ((t,.ptr i off)::l'):= .keep (.ptr h) hl
theorem rc {c' c:AV} {cs' cs:List AV} (h:qkU A S m c' c) (hs:qxR A S m cs' cs):qxR A S m (c'::cs') (c::cs):=qxR.cons h hs
theorem rn:qxR A S m [] []:=qxR.nil
end
class NR (a:AV):Prop where
 h:qbg a
class SN (as:List AV):Prop where
 h:qs0 as
instance:SN []:=⟨qs0.nil⟩
instance {a:AV} {as:List AV} [h:NR a] [k:SN as]:SN (a::as):=⟨qs0.cons h.h k.h⟩
instance {k:IntKind} {n:Int}:NR (.int k n):=⟨nI⟩
instance {s:List UInt8}:NR (.str s):=⟨nS⟩
instance {b:Bool}:NR (.bool b):=⟨nB⟩
instance:NR .nilslice:=⟨qbg.nilslice⟩
instance:NR .nilptr:=⟨qbg.nilptr⟩
instance:NR .nilmap:=⟨qbg.nilmap⟩
instance:NR .nilfunc:=⟨qbg.nilfunc⟩
instance:NR .niliface:=⟨qbg.niliface⟩
instance {α:Type} {E:Enc α} {l:List α}:NR (vl E l):=⟨qbl E l⟩
instance {cs:List AV} [h:SN cs]:NR (.agg cs):=⟨qbg.agg h.h⟩
instance {cs:List AV} [h:SN cs]:NR (.tuple cs):=⟨qbg.tuple h.h⟩
instance {f:Fn} {fs cs:List AV} [h:SN fs] [k:SN cs]:NR (.func f fs cs):=⟨qbg.func h.h k.h⟩
instance {cs:List AV} {o:Nat} [h:SN cs]:NR (.fptr cs o):=⟨qbg.fptr h.h⟩
instance {fs cs:List AV} [h:SN fs] [k:SN cs]:NR (.fmap fs cs):=⟨qbg.fmap h.h k.h⟩
theorem sn {as:List AV} [h:SN as]:qs0 as:=h.h
theorem gw2 {s:St} {rs:List ResultVar} {v:AV} (xs:List AV) (hf:FzW s.2 (List.range s.2.length) 12 (qyE xs) v) (hx:qiG P s.1 s.2 rs=some xs:=by kernel_rfl):qhA P rs v .ret s:=Goes.retW hx hf
theorem gh2 [Base] {s:St} {rs:List ResultVar} {v:AV} {A':Heap} (xs:List AV) (hs:qzy (qyE xs) s.2 v A') (hx:qiG P s.1 s.2 rs=some xs:=by kernel_rfl):qAl P rs v A' .ret s:=Goes.retH hx hs
end Go.Av
end
noncomputable section
namespace Go.Av
abbrev qEb (k:IntKind) (a b:Int):Int:=a.fdiv (2^(min b.toNat k.bits))
end Go.Av
end
noncomputable section
namespace Go.Av
open Go.RowKit
variable [Glob] {α:Type} {P:Program} {A:Heap} {S:List Nat} {m:List (Option Nat)}
def nvl (E:Enc α) (l:List α):AV:=match l with
 |[]=> .nilslice
 |x::xs=>vl E (x::xs)
theorem qGn (E:Enc α) (l:List α) {d:Nat} (hd:E.dep+1<=d):Still d (nvl E l):=by
 cases l with
 |nil=>obtain⟨d,rfl⟩:=Nat.exists_eq_add_of_le' (show 1<=d by omega);exact Still.nilslice d
 |cons x xs=>exact jo E (x::xs) hd
theorem qGj (E:Enc α) (l:List α):qbg (nvl E l):=by
 cases l with
 |nil=>exact qbg.nilslice
 |cons x xs=>exact qbl E (x::xs)
theorem qCP {E:Enc α} {l:List α} (h:0<l.length):nvl E l=vl E l:=by
 cases l with
 |nil=>exact absurd h (by simp)
 |cons x xs=>rfl
theorem Wk.nv {E:Enc α} {l:List α}:Wk (nvl E l) (vl E l):=by
 cases l with
 |nil=>exact Wk.nil
 |cons x xs=>exact Wk.refl _
theorem Wk.Lnv {E:Enc α} {l:List α} (h:0<l.length):Wk (vl E l) (nvl E l):=by rw[qCP h];exact Wk.refl _
theorem qkU.nv0 {E:Enc α}:qkU A S m (nvl E []) .nilslice:= .same qbg.nilslice
theorem qkU.nvL {E:Enc α} {l:List α}:qkU A S m (vl E l) (nvl E l):=by
 cases l with
 |nil=>exact .nilv
 |cons x xs=>exact .same (qbl E (x::xs))
theorem qkU.Lnv {E:Enc α} {l:List α} (h:0<l.length):qkU A S m (nvl E l) (vl E l):=by rw[qCP h];exact .same (qbl E l)
theorem FzW.nv0 {E:Enc α} {d:Nat}:FzW A S (d+1) .nilslice (nvl E []):= .of rfl
theorem FzW.nvL {E:Enc α} {l:List α} {d:Nat} (hd:E.dep<=d):FzW A S (d+1) (nvl E l) (vl E l):=by
 cases l with
 |nil=>exact FzW.nilv (E:=E)
 |cons x xs=>exact Ub (jo E (x::xs) (by omega))
theorem FzW.Lnv {E:Enc α} {l:List α} {d:Nat} (h:0<l.length) (hd:E.dep<=d):FzW A S (d+1) (vl E l) (nvl E l):=by rw[qCP h];exact Ub (jo E l (by omega))
theorem ixA {t:TypeId} {x v:AV} {k c:Int} (h:k=c) (e:yX P t x (.int .i64 c)=some v):(Obl.done (.opt (yX P t x (.int .i64 k))) v).Holds P:=by
 subst h
 show Pg.opt _=_
 rw[e]
 rfl
end Go.Av
end
noncomputable section
namespace Go.Av
variable [Glob]
instance {d:Nat} {α:Type} {E:Enc α} {l:List α} [h:SE E]:SC (d+7) (nvl E l):=⟨qGn E l (Nat.le_trans h.h (Nat.le_add_left _ _))⟩
instance {α:Type} {E:Enc α} {l:List α}:NR (nvl E l):=⟨qGj E l⟩
end Go.Av
end
noncomputable section
namespace Go.Av
variable [Glob] {P:Program} {α:Type} {E:Enc α} {k:Nat} {S:List Nat} {A:Heap}
end Go.Av
end
noncomputable section
namespace Go.Av
variable [Glob]
open Go.RowKit
end Go.Av
end
noncomputable section
namespace Go.Av
open Go.RowKit
variable [Glob] {α:Type} {P:Program} {A:Heap} {S:List Nat} {E:Enc α} {k:Nat}
def qvV (l:List α) (j:Nat) (z:α):List α:=l.take j++List.replicate (l.length-j) z
theorem qxy {l r:List α} {j:Nat} {z:α} (hj:j<=l.length) (h:some (qvV l j z)=some r):l.length=r.length:=by
 injection h with h
 subst h
 rw[qvV,Yq,Ym,List.length_replicate,Nat.min_eq_left hj]
 omega
theorem qDG {o j:Nat} {l r:List α} {z:α} (hb:A[o]? =some (.cells (l.flatMap E.c))) (hS:S.contains o=true) (hlt:j<l.length) (h:some (qvV l j z)=some r):
 qnm S A.length (qsE o (j*E.k) (l.length-j) (E.c z)) A []=some (.tuple [],A.set o (.cells (r.flatMap E.c)),[(o,true),(o,false)]):=by
 injection h with h
 subst h
 have e0: ¬(l.length-j=0):=by omega
 have e1:j*E.k+(l.length-j)*(E.c z).length<=(l.flatMap E.c).length:=by
  rw[E.len,E.flat_len,<-Nat.add_mul]
  exact Nat.mul_le_mul_right _ (by omega)
 have e2:(E.c z).all qom=true:=by have:=E.flat_cell [z];simpa using this
 have e3:zeros (E.c z) ((l.length-j)*(E.c z).length)=(List.replicate (l.length-j) z).flatMap E.c:=by rw[E.len];exact qE6 E z _
 have e4:((List.replicate (l.length-j) z).flatMap E.c).length=(l.length-j)*E.k:=by rw[E.flat_len,List.length_replicate]
 have e5:j*E.k+(l.length-j)*E.k=l.length*E.k:=by rw[<-Nat.add_mul];congr 1;omega
 have e6:(l.flatMap E.c).drop (l.length*E.k)=[]:=by rw[List.drop_of_length_le];rw[E.flat_len];exact Nat.le_refl _
 simp only[qsE,if_neg e0]
 rw[qwn hS hb]
 simp only[if_pos (And.intro e1 e2),e3]
 rw[qBc hS (qAG hb),qCY]
 simp only[splice,e4,e5,e6,qxj,List.append_nil,qvV,List.flatMap_append]
theorem qIW {t e:TypeId} {b:Nat} (T:SlT P t e k b) {z:α} (hk:E.k=k) (hz:qyf P e=some (E.c z)) {A':Heap} {l r:List α} {o j:Nat} (hb:A[o]? =some (.cells (l.flatMap E.c))) (hlt:j<l.length) (hS:S.contains o=true) (h:some (qvV l j z)=some r)
 (hA:A'=A.set o (.cells (r.flatMap E.c))):(Obl.run S (qrI P [t] (.wslice o (j*k) (l.length-j) k)) A (.tuple []) A' true).Holds P:=by
 subst hA hk
 refine⟨[(o,true),(o,false)],?_,rfl⟩
 have e:qrI P [t] (.wslice o (j*E.k) (l.length-j) E.k)=qsE o (j*E.k) (l.length-j) (E.c z):=by
  simp only[qrI,T.und,hz]
 rw[e]
 exact qDG hb hS hlt h
theorem qIR {t e:TypeId} {b:Nat} (T:SlT P t e k b) {z:α} (hk:E.k=k) (hz:qyf P e=some (E.c z)) {A':Heap} {l r:List α} {o:Nat} (hb:A[o]? =some (.cells (l.flatMap E.c))) (hlt:0<l.length) (hS:S.contains o=true) (h:some (qvV l 0 z)=some r)
 (hA:A'=A.set o (.cells (r.flatMap E.c))):(Obl.run S (qrI P [t] (.oslice o l.length k)) A (.tuple []) A' true).Holds P:=by
 subst hA hk
 refine⟨[(o,true),(o,false)],?_,rfl⟩
 have e:qrI P [t] (.oslice o l.length E.k)=qsE o (0*E.k) (l.length-0) (E.c z):=by
  simp only[qrI,T.und,hz,Nat.zero_mul,Nat.sub_zero]
 rw[e]
 exact qDG hb hS hlt h
theorem qIU {t e:TypeId} {k b:Nat} (T:SlT P t e k b) {l r:List α} {o:Nat} {hi:Int} (h0:0<l.length) (h:cut l 0 hi=some r):(Obl.done (.opt (qmA P t (.gslice o l.length k) none (some (.int .i64 hi)) none)) (.oslice o r.length k)).Holds P:=by
 obtain⟨inf,z,g1,g2,_⟩:=T.info
 have hc:=(qwz h).1
 have hb:=qyG (n:=l.length) (lo:=none) (hi:=some hi) rfl rfl hc
 show Pg.opt _=_
 simp only[opI,Option.getD_none,YN]at hb
 have e0: ¬((0:Nat)=hi.toNat/\((0:Nat)<0\/l.length=0)):=by omega
 simp only[qmA,T.und,g1,Option.isSome_none,ZF,if_false,hb,g2,Pg.opt,Int.toNat_zero,if_true,<-qIE h]
 rw[if_neg e0]
theorem qFo {t e:TypeId} {k b:Nat} (T:SlT P t e k b) {l:List α} {o:Nat} {i:Int} (h:i=0) (h0:0<l.length):(Obl.done (.opt (qmA P t (.gslice o l.length k) (some (.int .i64 i)) none none)) (.oslice o l.length k)).Holds P:=by
 subst h
 obtain⟨inf,z,g1,g2,_⟩:=T.info
 have hb:=qFh (n:=l.length) (cap:=l.length) (lo:=some 0) (hi:=none) rfl rfl (Nat.le_refl _) ⟨by simp,by simp,by simp⟩
 show Pg.opt _=_
 simp only[opI,Option.getD_none,YN,Int.toNat_natCast,Int.toNat_zero]at hb
 have e0: ¬((0:Nat)=l.length/\((0:Nat)<0\/l.length=0)):=by omega
 simp only[qmA,T.und,g1,Option.isSome_none,ZF,if_false,hb,g2,Pg.opt,if_neg e0,if_true]
theorem qDJ {t e:TypeId} {k b:Nat} (T:SlT P t e k b) {l:List α} {o j:Nat} {i:Int} (h0: ¬i=0) (h:at' l i=some j) (hlt:j<l.length):(Obl.done (.opt (qmA P t (.gslice o l.length k) (some (.int .i64 i)) none none)) (.wslice o (j*k) (l.length-j) k)).Holds P:=by
 obtain⟨inf,z,g1,g2,_⟩:=T.info
 obtain⟨h1,h2,rfl⟩:=qFf h
 have hb:=qFh (n:=l.length) (cap:=l.length) (lo:=some i) (hi:=none) rfl rfl (Nat.le_refl _) ⟨h1,by simpa using h2,by simp⟩
 show Pg.opt _=_
 simp only[opI,Option.getD_none,YN,Int.toNat_natCast]at hb
 have e0: ¬(i.toNat=l.length/\(0<i.toNat\/l.length=0)):=by omega
 have e1: ¬i.toNat=0:=by omega
 simp only[qmA,T.und,g1,Option.isSome_none,ZF,if_false,hb,g2,Pg.opt,if_neg e0,if_neg e1,if_true]
end Go.Av
end
noncomputable section
namespace Go.Av
open Go.RowKit
variable [Glob]
def qG2 [Base] (b:Nat) (v:AV) (A':Heap) (x:XA) (s:St):Prop:= ∃v0 A0,qEn b (some (x,s))=some (v0,A0)/\qzy v0 A0 v A'
theorem Goes.round {P:Program} {b:Nat} {args:List AV} {A A':Heap} {v:AV} {m:Nat} {l0 l:List (Nat×AV)} {st0:LoopState} {p0:Option Code} {ps:Array Tmp} {asg bd:Code} (hA:A[b]? =some (.loop st0 p0 (ofG m l0) ps asg bd)) (hlen:args.length=ps.size)
 (hl:maskF (l.map (·.1)) (setAll (ofG m l0) ps.toList args)=ofG m l)
 (h: ∀[Base],Base.A=A->Goes P asg (ofG m l,A) (andThen (fun s=> ∃p1 f1 ps1 as1 bd1,s.2[b]? =some (.loop .ready p1 f1 ps1 as1 bd1)/\Goes P bd (s.1,s.2.set b (.loop .busy p1 f1 ps1 as1 bd1)) (qG2 b v A')) (fun _ _=>False))):zu P (.rd b) args A v A':=by
 intro F nu w vs rb i hargs hb
 obtain⟨hnF,fn0,tmps0,dd0,hheap,hfr⟩:=i.blk _ _ _ hb hA
 letI B:Base:=⟨nu,A,i.fresh,some b,some rb,hb⟩
 have h:=h rfl
 have hsz:vs.size=ps.size:=by rw[hargs.1,hlen]
 have hy:=run_yield (P:=P) hheap (args:=vs) (by exact hsz)
 refine⟨_,_,_,_,hy,?_⟩
 refine roundIn_of_wpIn trivial ?_
 have hset:RF F nu w (setAll (ofG m l0) ps.toList args) ((ps.zip vs).foldl (fun tmps (t,a)=>tmps.setIfInBounds t a) tmps0):=by
  have h1:=RF.setAll (params:=ps.toList) hfr (args:=args) (vs:=vs.toList) (by simp[hargs.1]) (fun j a v ha hv=>hargs.2 j a v ha (by simpa using hv))
  have e:(ps.zip vs).foldl (fun tmps (t,a)=>tmps.setIfInBounds t a) tmps0=(ps.toList.zip vs.toList).foldl (fun tmps (p:Tmp×Value)=>tmps.setIfInBounds p.1 p.2) tmps0:=by
   rw[<-Array.foldl_toList,Array.toList_zip]
  rw[e]
  exact h1
 have hset:=hset.maskF (l.map (·.1))
 rw[hl]at hset
 have hfz:Fence.wide.inRound rb=fz (some rb):=rfl
 rw[hfz]
 refine h F w 0 F nu _ w (.refl i) hset .nil _ (fun x s F1 nu1 a1 w1 q st1 hf1 hd1=>?_)
 cases x with
 |exit k=>exact q.elim
 |ret=>exact q.elim
 |normal=>
  obtain⟨p1,f1,ps1,as1,bd1,hA1,q⟩:=q
  have hb1:=st1.n _ _ hb
  obtain⟨hnF1,fn1,tmps1,dd1,hheap1,hfr1⟩:=st1.inv.blk _ _ _ hb1 hA1
  have hbeg:=run_beginRound (P:=P) hheap1 rfl
  have st2:=Stp.setLoop st1.inv (st:= .busy) (pend:=p1) (fr:=f1) (ps:=ps1) (asg:=as1) (body:=bd1) (r:={state:= .busy,pending:=p1,fn:=fn1,tmps:=tmps1,params:=ps1,assign:=as1,body:=bd1,defers:=dd1}) hb1 hA1 rfl hheap1 rfl hfr1
  refine⟨_,hbeg,?_⟩
  refine q F w 0 F1 nu1 _ _ (st1.trans st2) (hf1.mono (st2.ext st1.inv)) (hd1.step st2) _ (fun x2 s2 F2 nu2 a2 w2 q2 st3 hf2 hd2=>?_)
  obtain⟨v0,A0,he,hv⟩:=q2
  obtain⟨y,w3,hend,st4,hR⟩:=qFm (P:=P) st3.inv (st3.n _ _ hb) he
  obtain⟨F4,nu4,k1,k2⟩:=hv.use (st3.trans st4) hR
  cases x2<;>exact⟨y,w3,hend,y,F4,nu4,rfl,k1,k2⟩
theorem Goes.range [Base] {P:Program} (hm:P.follows .mixedOrders=true) (hb:Base.rd=none) {g:Operand} {ps:Array Tmp} {asg bd:Code} {s s':St} {gf:FuncId} {first captured:List AV} {v:AV} {A2:Heap} {x:XA} {Q:XA->St->Prop} (hg:qiJ s.1 g= .func (.func gf) first captured) (he:qz4 P gf=true)
 (hc:zu P (.fn gf) (first++[.yld s.2.length]++captured) (s.2++[.loop .ready none s.1 ps asg bd]) v A2) (hx:endA s.2.length s.1 A2=some (x,s')) (hq:Q x s'):Goes P (.rangeFunc g ps asg bd) s Q:=by
 refine Goes.eval (N:=0) hm (qvH hc) ?_ hq
 simp only[qe9,hb,rdOK,hg,he,qvD]
 exact hx
def _root_.Go.Code.x1:Code->Code
 | .seq a _=>a
 | .cond _ a _=>a
 | .block _ c=>c
 | .loop c=>c
 | .scope c=>c
 | .rangeFunc _ _ a _=>a
 |c=>c
def _root_.Go.Code.x2:Code->Code
 | .seq _ b=>b
 | .cond _ _ b=>b
 | .rangeFunc _ _ _ b=>b
 |c=>c
end Go.Av
end
