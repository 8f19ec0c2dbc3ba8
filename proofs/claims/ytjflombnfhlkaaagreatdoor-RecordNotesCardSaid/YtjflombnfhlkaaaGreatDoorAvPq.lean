/-
  Short words for walks: regions that leave the blocks as they are, both ways of a condition, states in another guise.
-/
import Derived.Test.YtjflombnfhlkaaaGreatDoorAvPz
noncomputable section
namespace Go.Av
variable [Glob] {P:Program} {A:Heap}
set_option linter.unusedSectionVars false
section
variable [Base] {id m:Nat} {ops:Array Oper} {draw:Bool} {l0:List (Nat×AV)} {Q:XA→St→Prop} {c2:Code}
theorem sg (hm:P.follows .mixedOrders=true) (l:List (Nat×AV)) (A':Heap) (hq:Goes P c2 (ofG m l,A') Q) (h:qaH P ops draw [] (l.map (·.1)) (ofG m l0,A)=some (ofG m l,A',[]):=by kernel_rfl):Goes P (.seq (.region id ops draw) c2) (ofG m l0,A) Q:=sq (Goes.rg hm l A' hq h)
theorem sh (hm:P.follows .mixedOrders=true) (l:List (Nat×AV)) (hq:Goes P c2 (ofG m l,A) Q) (h:qaH P ops draw [] (l.map (·.1)) (ofG m l0,A)=some (ofG m l,A,[]):=by kernel_rfl):Goes P (.seq (.region id ops draw) c2) (ofG m l0,A) Q:=sq (Goes.rg hm l A hq h)
theorem gh (hm:P.follows .mixedOrders=true) (l:List (Nat×AV)) (hq:Q .normal (ofG m l,A)) (h:qaH P ops draw [] (l.map (·.1)) (ofG m l0,A)=some (ofG m l,A,[]):=by kernel_rfl):Goes P (.region id ops draw) (ofG m l0,A) Q:=Goes.rg hm l A hq h
theorem gq (hm:P.follows .mixedOrders=true) (ks:List Nat) (l:List (Nat×AV)) (A':Heap) {obls:List Obl} (ho:yS P obls) (hq:Q .normal (ofG m l,A'))
 (h:(qaH P ops draw (ks.zip (obls.map Obl.orc)) (l.map (·.1)) (ofG m l0,A)).map (fun r=>(r.1,r.2.1,r.2.2.map Obl.st))=some (ofG m l,A',obls):=by kernel_rfl):Goes P (.region id ops draw) (ofG m l0,A) Q:=Goes.rq hm ks l A' ho hq h
theorem gr (hm:P.follows .mixedOrders=true) (ks:List Nat) (l:List (Nat×AV)) {obls:List Obl} (ho:yS P obls) (hq:Q .normal (ofG m l,A))
 (h:(qaH P ops draw (ks.zip (obls.map Obl.orc)) (l.map (·.1)) (ofG m l0,A)).map (fun r=>(r.1,r.2.1,r.2.2.map Obl.st))=some (ofG m l,A,obls):=by kernel_rfl):Goes P (.region id ops draw) (ofG m l0,A) Q:=Goes.rq hm ks l A ho hq h
theorem tr (hm:P.follows .mixedOrders=true) (ks:List Nat) (l:List (Nat×AV)) {obls:List Obl} (ho:yS P obls)
 (h:(qaH P ops draw (ks.zip (obls.map Obl.orc)) (l.map (·.1)) (ofG m l0,A)).map (fun r=>(r.1,r.2.1,r.2.2.map Obl.st))=some (ofG m l,A,obls):=by kernel_rfl):zq P id ops draw (ofG m l0,A) (ofG m l,A):=zq.rq hm ks l A ho h
end
section
variable [Base] {c1 c2:Code} {s:St} {Q:XA→St→Prop} {co:Operand} {α:Type} {x y r:α}
theorem ihB {b:Bool} (h:(if b=true then x else y)=r) (ht:b=true→x=r→Goes P c1 s Q) (hf:b=false→y=r→Goes P c2 s Q) (hv:zi s.1 co= .bool b:=by kernel_rfl):Goes P (.cond co c1 c2) s Q:=
 Goes.ifB hv (fun c=>ht c (by rw[if_pos c]at h;exact h)) (fun c=>hf c (by rw[if_neg (nb c)]at h;exact h))
theorem ihD {p:Prop} [Decidable p] (h:(if p then x else y)=r) (ht:decide p=true→x=r→Goes P c1 s Q) (hf:decide p=false→y=r→Goes P c2 s Q) (hv:zi s.1 co= .bool (decide p):=by kernel_rfl):Goes P (.cond co c1 c2) s Q:=
 Goes.ifB hv (fun c=>ht c (by rw[if_pos (of_decide_eq_true c)]at h;exact h)) (fun c=>hf c (by rw[if_neg (of_decide_eq_false c)]at h;exact h))
end
section
variable {α:Type} {x y r:α}
theorem wyB {b:Bool} (h:(if b=true then x else y)=r):b=true∧x=r∨b=false∧y=r:=by
 cases b
 ·rw[if_neg Bool.false_ne_true]at h;exact .inr ⟨rfl,h⟩
 ·rw[if_pos rfl]at h;exact .inl ⟨rfl,h⟩
theorem wyD {p:Prop} [Decidable p] (h:(if p then x else y)=r):decide p=true∧x=r∨decide p=false∧y=r:=by
 rcases Classical.em p with c|c
 ·rw[if_pos c]at h;exact .inl ⟨decide_eq_true c,h⟩
 ·rw[if_neg c]at h;exact .inr ⟨decide_eq_false c,h⟩
end
section
variable {S:List Nat} {m:List (Option Nat)}
theorem yZ.ks {α:Type} {E:Enc α} {x:List α} {b:Nat} {l:List (Option Nat)} {H:Heap} (h:yZ A S m l H) (hA:A[b]? =some (.cells (x.flatMap E.c)):=by rfl) (hS:S.contains b=false:=by rfl) (hl:l.contains (some b)=false:=by rfl):yZ A S m (some b::l) (.cells (x.flatMap E.c)::H):= .keep hA (.same fa) hS hl h
theorem yZ.kb {b:Nat} {x y:Blk} {l:List (Option Nat)} {H:Heap} (hA:A[b]? =some y) (hb:xx A S m x y) (h:yZ A S m l H) (hS:S.contains b=false:=by rfl) (hl:l.contains (some b)=false:=by rfl):yZ A S m (some b::l) (x::H):= .keep hA hb hS hl h
theorem yN.kp {t i b off:Nat} {l l':List (Nat×AV)} (hl:yN A S m l l') (h:m[i]? =some (some b):=by rfl):yN A S m ((t,.ptr b off)::l) ((t,.ptr i off)::l'):= .keep (.ptr h) hl
theorem rc {c' c:AV} {cs' cs:List AV} (h:jv A S m c' c) (hs:qbT A S m cs' cs):qbT A S m (c'::cs') (c::cs):=qbT.cons h hs
theorem rn:qbT A S m [] []:=qbT.nil
end
class NR (a:AV):Prop where
 h:qo a
class SN (as:List AV):Prop where
 h:xO as
instance:SN []:=⟨xO.nil⟩
instance {a:AV} {as:List AV} [h:NR a] [k:SN as]:SN (a::as):=⟨xO.cons h.h k.h⟩
instance {k:IntKind} {n:Int}:NR (.int k n):=⟨nI⟩
instance {s:List UInt8}:NR (.str s):=⟨nS⟩
instance {b:Bool}:NR (.bool b):=⟨nB⟩
instance:NR .nilslice:=⟨qo.nilslice⟩
instance:NR .nilptr:=⟨qo.nilptr⟩
instance:NR .nilmap:=⟨qo.nilmap⟩
instance:NR .nilfunc:=⟨qo.nilfunc⟩
instance:NR .niliface:=⟨qo.niliface⟩
instance {α:Type} {E:Enc α} {l:List α}:NR (vl E l):=⟨qd E l⟩
instance {cs:List AV} [h:SN cs]:NR (.agg cs):=⟨qo.agg h.h⟩
instance {cs:List AV} [h:SN cs]:NR (.tuple cs):=⟨qo.tuple h.h⟩
instance {f:Fn} {fs cs:List AV} [h:SN fs] [k:SN cs]:NR (.func f fs cs):=⟨qo.func h.h k.h⟩
instance {cs:List AV} {o:Nat} [h:SN cs]:NR (.fptr cs o):=⟨qo.fptr h.h⟩
instance {fs cs:List AV} [h:SN fs] [k:SN cs]:NR (.fmap fs cs):=⟨qo.fmap h.h k.h⟩
theorem sn {as:List AV} [h:SN as]:xO as:=h.h
theorem gw2 {s:St} {rs:List ResultVar} {v:AV} (xs:List AV) (hf:FzW s.2 (List.range s.2.length) 12 (qbn xs) v) (hx:zk P s.1 s.2 rs=some xs:=by kernel_rfl):qJ P rs v .ret s:=Goes.retW hx hf
theorem gh2 [Base] {s:St} {rs:List ResultVar} {v:AV} {A':Heap} (xs:List AV) (hs:qc7 (qbn xs) s.2 v A') (hx:zk P s.1 s.2 rs=some xs:=by kernel_rfl):qdv P rs v A' .ret s:=Goes.retH hx hs
end Go.Av
