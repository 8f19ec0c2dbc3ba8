/-
  Short words for walks: regions that leave the blocks as they are, both ways of a condition, states in another guise.
-/
import Derived.Test.YtphbhegcojmijaaGreatDoorAvPz
noncomputable section
namespace Go.Av
variable [Glob] {P:Program} {A:Heap}
set_option linter.unusedSectionVars false
section
variable [Base] {id m:Nat} {ops:Array Oper} {draw:Bool} {l0:List (Nat×AV)} {Q:XA→St→Prop} {c2:Code}
theorem sg (hm:P.follows .mixedOrders=true) (l:List (Nat×AV)) (A':Heap) (hq:Goes P c2 (ofG m l,A') Q) (h:qjj P ops draw [] (l.map (·.1)) (ofG m l0,A)=some (ofG m l,A',[]):=by kernel_rfl):Goes P (.seq (.region id ops draw) c2) (ofG m l0,A) Q:=sq (Goes.rg hm l A' hq h)
theorem sh (hm:P.follows .mixedOrders=true) (l:List (Nat×AV)) (hq:Goes P c2 (ofG m l,A) Q) (h:qjj P ops draw [] (l.map (·.1)) (ofG m l0,A)=some (ofG m l,A,[]):=by kernel_rfl):Goes P (.seq (.region id ops draw) c2) (ofG m l0,A) Q:=sq (Goes.rg hm l A hq h)
theorem gh (hm:P.follows .mixedOrders=true) (l:List (Nat×AV)) (hq:Q .normal (ofG m l,A)) (h:qjj P ops draw [] (l.map (·.1)) (ofG m l0,A)=some (ofG m l,A,[]):=by kernel_rfl):Goes P (.region id ops draw) (ofG m l0,A) Q:=Goes.rg hm l A hq h
theorem gq (hm:P.follows .mixedOrders=true) (ks:List Nat) (l:List (Nat×AV)) (A':Heap) {obls:List Obl} (ho:qgc P obls) (hq:Q .normal (ofG m l,A'))
 (h:(qjj P ops draw (ks.zip (obls.map Obl.orc)) (l.map (·.1)) (ofG m l0,A)).map (fun r=>(r.1,r.2.1,r.2.2.map Obl.st))=some (ofG m l,A',obls):=by kernel_rfl):Goes P (.region id ops draw) (ofG m l0,A) Q:=Goes.rq hm ks l A' ho hq h
theorem gr (hm:P.follows .mixedOrders=true) (ks:List Nat) (l:List (Nat×AV)) {obls:List Obl} (ho:qgc P obls) (hq:Q .normal (ofG m l,A))
 (h:(qjj P ops draw (ks.zip (obls.map Obl.orc)) (l.map (·.1)) (ofG m l0,A)).map (fun r=>(r.1,r.2.1,r.2.2.map Obl.st))=some (ofG m l,A,obls):=by kernel_rfl):Goes P (.region id ops draw) (ofG m l0,A) Q:=Goes.rq hm ks l A ho hq h
theorem tr (hm:P.follows .mixedOrders=true) (ks:List Nat) (l:List (Nat×AV)) {obls:List Obl} (ho:qgc P obls)
 (h:(qjj P ops draw (ks.zip (obls.map Obl.orc)) (l.map (·.1)) (ofG m l0,A)).map (fun r=>(r.1,r.2.1,r.2.2.map Obl.st))=some (ofG m l,A,obls):=by kernel_rfl):qW P id ops draw (ofG m l0,A) (ofG m l,A):=qW.rq hm ks l A ho h
end
section
variable [Base] {c1 c2:Code} {s:St} {Q:XA→St→Prop} {co:Operand} {α:Type} {x y r:α}
theorem ihB {b:Bool} (h:(if b=true then x else y)=r) (ht:b=true→x=r→Goes P c1 s Q) (hf:b=false→y=r→Goes P c2 s Q) (hv:qas s.1 co= .bool b:=by kernel_rfl):Goes P (.cond co c1 c2) s Q:=
 Goes.ifB hv (fun c=>ht c (by rw[if_pos c]at h;exact h)) (fun c=>hf c (by rw[if_neg (nb c)]at h;exact h))
theorem ihD {p:Prop} [Decidable p] (h:(if p then x else y)=r) (ht:decide p=true→x=r→Goes P c1 s Q) (hf:decide p=false→y=r→Goes P c2 s Q) (hv:qas s.1 co= .bool (decide p):=by kernel_rfl):Goes P (.cond co c1 c2) s Q:=
 Goes.ifB hv (fun c=>ht c (by rw[if_pos (of_decide_eq_true c)]at h;exact h)) (fun c=>hf c (by rw[if_neg (of_decide_eq_false c)]at h;exact h))
end
section
variable {α:Type} {x y r:α}
theorem wyB {b:Bool} (h:(if b=true then x else y)=r):b=true∧x=r∨b=false∧y=r:=by
 cases b
 ·rw[if_neg Bool.false_ne_true]at h;exact .inr ⟨rfl,h⟩
 ·rw[if_pos rfl]at h;exact .inl ⟨rfl,h⟩
theorem wyD {p:Prop} [Decidable p] (h:(if p then x else y)=r):decide p=true∧x=r∨decide p=false∧y=r:=by
 rcases Classical.em p with c|c
 ·rw[if_pos c]at h;exact .inl ⟨decide_eq_true c,h⟩
 ·rw[if_neg c]at h;exact .inr ⟨decide_eq_false c,h⟩
end
section
variable {S:List Nat} {m:List (Option Nat)}
theorem qgA.ks {α:Type} {E:Enc α} {x:List α} {b:Nat} {l:List (Option Nat)} {H:Heap} (h:qgA A S m l H) (hA:A[b]? =some (.cells (x.flatMap E.c)):=by rfl) (hS:S.contains b=false:=by rfl) (hl:l.contains (some b)=false:=by rfl):qgA A S m (some b::l) (.cells (x.flatMap E.c)::H):= .keep hA (.same fa) hS hl h
theorem qgA.kb {b:Nat} {x y:Blk} {l:List (Option Nat)} {H:Heap} (hA:A[b]? =some y) (hb:qgz A S m x y) (h:qgA A S m l H) (hS:S.contains b=false:=by rfl) (hl:l.contains (some b)=false:=by rfl):qgA A S m (some b::l) (x::H):= .keep hA hb hS hl h
theorem qfM.kp {t i b off:Nat} {l l':List (Nat×AV)} (hl:qfM A S m l l') (h:m[i]? =some (some b):=by rfl):qfM A S m ((t,.ptr b off)::l) ((t,.ptr i off)::l'):= .keep (.ptr h) hl
theorem rc {c' c:AV} {cs' cs:List AV} (h:xw A S m c' c) (hs:qjZ A S m cs' cs):qjZ A S m (c'::cs') (c::cs):=qjZ.cons h hs
theorem rn:qjZ A S m [] []:=qjZ.nil
end
class NR (a:AV):Prop where
 h:qK a
class SN (as:List AV):Prop where
 h:qgk as
instance:SN []:=⟨qgk.nil⟩
instance {a:AV} {as:List AV} [h:NR a] [k:SN as]:SN (a::as):=⟨qgk.cons h.h k.h⟩
instance {k:IntKind} {n:Int}:NR (.int k n):=⟨nI⟩
instance {s:List UInt8}:NR (.str s):=⟨nS⟩
instance {b:Bool}:NR (.bool b):=⟨nB⟩
instance:NR .nilslice:=⟨qK.nilslice⟩
instance:NR .nilptr:=⟨qK.nilptr⟩
instance:NR .nilmap:=⟨qK.nilmap⟩
instance:NR .nilfunc:=⟨qK.nilfunc⟩
instance:NR .niliface:=⟨qK.niliface⟩
instance {α:Type} {E:Enc α} {l:List α}:NR (vl E l):=⟨qp E l⟩
instance {cs:List AV} [h:SN cs]:NR (.agg cs):=⟨qK.agg h.h⟩
instance {cs:List AV} [h:SN cs]:NR (.tuple cs):=⟨qK.tuple h.h⟩
instance {f:Fn} {fs cs:List AV} [h:SN fs] [k:SN cs]:NR (.func f fs cs):=⟨qK.func h.h k.h⟩
instance {cs:List AV} {o:Nat} [h:SN cs]:NR (.fptr cs o):=⟨qK.fptr h.h⟩
instance {fs cs:List AV} [h:SN fs] [k:SN cs]:NR (.fmap fs cs):=⟨qK.fmap h.h k.h⟩
theorem sn {as:List AV} [h:SN as]:qgk as:=h.h
theorem gw2 {s:St} {rs:List ResultVar} {v:AV} (xs:List AV) (hf:FzW s.2 (List.range s.2.length) 12 (qk2 xs) v) (hx:qax P s.1 s.2 rs=some xs:=by kernel_rfl):jh P rs v .ret s:=Goes.retW hx hf
theorem gh2 [Base] {s:St} {rs:List ResultVar} {v:AV} {A':Heap} (xs:List AV) (hs:qig (qk2 xs) s.2 v A') (hx:qax P s.1 s.2 rs=some xs:=by kernel_rfl):qpv P rs v A' .ret s:=Goes.retH hx hs
end Go.Av
