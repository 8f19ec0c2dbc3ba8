/-
  Short words for what is owed by calls and loads of values.
-/
import Derived.Test.YtjflombnfhlkaaaGreatDoorAvPk
noncomputable section
namespace Go.Av
variable [Glob] {α:Type} {P:Program} {A:Heap}
set_option linter.unusedSectionVars false
class SC (d:Nat) (a:AV):Prop where
 h:Still d a
class SE {α:Type} (E:Enc α):Prop where
 h:E.dep+1≤7
class SX (d:Nat) (as:List AV):Prop where
 h: ∀a∈as,Still d a
instance {d:Nat}:SX d []:=⟨AllST.nil⟩
instance {d:Nat} {a:AV} {as:List AV} [h:SC d a] [k:SX d as]:SX d (a::as):=⟨AllST.cons h.h k.h⟩
instance {d:Nat} {k:IntKind} {n:Int}:SC (d+1) (.int k n):=⟨tI⟩
instance {d:Nat} {s:List UInt8}:SC (d+1) (.str s):=⟨tS⟩
instance {d:Nat} {b:Bool}:SC (d+1) (.bool b):=⟨tB⟩
instance {d:Nat}:SC (d+1) .nilslice:=⟨Still.nilslice _⟩
instance {d:Nat}:SC (d+1) .nilfunc:=⟨Still.nilfunc _⟩
instance {d:Nat}:SC (d+1) .nilptr:=⟨Still.nilptr _⟩
instance {d:Nat}:SC (d+1) .nilmap:=⟨Still.nilmap _⟩
instance {d:Nat}:SC (d+1) .niliface:=⟨fun _ _=>rfl⟩
instance {d:Nat} {cs:List AV} [h:SX d cs]:SC (d+1) (.agg cs):=⟨Still.agg h.h⟩
instance {d:Nat} {cs:List AV} [h:SX d cs]:SC (d+1) (.tuple cs):=⟨Still.tuple h.h⟩
instance {d:Nat} {cs:List AV} {o:Nat} [h:SX d cs]:SC (d+1) (.fptr cs o):=⟨Still.fptr h.h⟩
instance {d:Nat} {f:Fn} {fs cs:List AV} [h:SX d fs] [k:SX d cs]:SC (d+1) (.func f fs cs):=⟨Still.func h.h k.h⟩
instance {d:Nat} {fs cs:List AV} [h:SX d fs] [k:SX d cs]:SC (d+1) (.fmap fs cs):=⟨Still.fmap h.h k.h⟩
instance {d:Nat} {E:Enc α} {l:List α} [h:SE E]:SC (d+7) (vl E l):=⟨jV E l (Nat.le_trans h.h (Nat.le_add_left _ _))⟩
instance:SE encI:=⟨nl rfl⟩
instance:SE encB:=⟨nl rfl⟩
instance:SE encS:=⟨nl rfl⟩
instance {k:IntKind}:SE (encK k):=⟨nl rfl⟩
instance:SE (qkt encI):=⟨nl rfl⟩
instance:SE (qkt encS):=⟨nl rfl⟩
instance:SE (qkt encB):=⟨nl rfl⟩
theorem qkT: ∀(d:Nat) (a:AV) (A:Heap),frz A [] d a=frz [] [] d a
 |0,_,_=>rfl
 |d+1,a,A=>by
  have e:frz A [] d=frz [] [] d:=funext fun x=>qkT d x A
  unfold frz
  rw[e]
  cases a<;>simp
def Obl.st:Obl→Obl
 | .call g args A S args' v=>match S with
   |[]=> .call g args [] [] args' v
   |b::S=> .call g args A (b::S) args' v
 |o=>o
theorem Obl.st_holds: ∀{o:Obl},o.st.Holds P→o.Holds P
 | .triv,h=>h
 | .done _ _,h=>h
 | .run _ _ _ _ _ _,h=>h
 | .callF _ _ _ _ _ _,h=>h
 | .callH _ _ _ _ _ _,h=>h
 | .call _ _ _ (_::_) _ _,h=>h
 | .call g args A [] args' v,h=>by
   obtain⟨h1,h2⟩:=h
   refine⟨?_,h2⟩
   rw[show frz A [] 12=frz [] [] 12 from funext fun x=>qkT 12 x A]
   exact h1
theorem qbj.st: ∀{os:List Obl},qbj P (os.map Obl.st)→qbj P os
 |[],_=>trivial
 |_::_,h=>⟨Obl.st_holds h.1,qbj.st h.2⟩
theorem Goes.rq [Base] (hm:P.follows .mixedOrders=true) {id m:Nat} {ops:Array Oper} {draw:Bool} {l0:List (Nat×AV)} {Q:XA→St→Prop} (ks:List Nat) (l:List (Nat×AV)) (A':Heap) {obls:List Obl} (ho:qbj P obls) (hq:Q .normal (ofG m l,A'))
 (h:(qdw P ops draw (ks.zip (obls.map Obl.orc)) (l.map (·.1)) (ofG m l0,A)).map (fun r=>(r.1,r.2.1,r.2.2.map Obl.st))=some (ofG m l,A',obls):=by kernel_rfl):Goes P (.region id ops draw) (ofG m l0,A) Q:=by
 obtain⟨r,h1,h2⟩:=Option.map_eq_some_iff.1 h
 obtain⟨f,B,os⟩:=r
 simp only[Prod.mk.injEq]at h2
 obtain⟨rfl,rfl,rfl⟩:=h2
 exact Goes.reg hm _ _ h1 (qbj.st ho) hq
theorem qm.rq [Base] (hm:P.follows .mixedOrders=true) {id m:Nat} {ops:Array Oper} {draw:Bool} {l0:List (Nat×AV)} (ks:List Nat) (l:List (Nat×AV)) (A':Heap) {obls:List Obl} (ho:qbj P obls)
 (h:(qdw P ops draw (ks.zip (obls.map Obl.orc)) (l.map (·.1)) (ofG m l0,A)).map (fun r=>(r.1,r.2.1,r.2.2.map Obl.st))=some (ofG m l,A',obls):=by kernel_rfl):qm P id ops draw (ofG m l0,A) (ofG m l,A'):=by
 obtain⟨r,h1,h2⟩:=Option.map_eq_some_iff.1 h
 obtain⟨f,B,os⟩:=r
 simp only[Prod.mk.injEq]at h2
 obtain⟨rfl,rfl,rfl⟩:=h2
 exact qm.reg hm _ _ h1 (qbj.st ho)
theorem ac {o:Obl} {os:List Obl} (x:o.Holds P) (y:qbj P os):qbj P (o::os):=⟨x,y⟩
theorem az:qbj P []:=trivial
theorem hs (o:Obl) (h:o.Holds P):o.Holds P:=h
theorem cv {g:FuncId} {args:List AV} {v:AV} [k:SX 12 args] [q:SC 12 v] (h:qf P (.fn g) args [] v []):(Obl.call g args [] [] args v).Holds P:=qnt k.h h q.h
theorem gw {b w:Bool} (h:b=w):(Obl.done (.done (.bool b)) (.bool w)).Holds P:=congrArg (fun x=>Pg.done (.bool x)) h
theorem iv {t e:TypeId} {k b:Nat} (T:SlT P t e k b) (E:Enc α) {l:List α} {i:Int} {x:α} (h:idx l i=some x) (hk:E.k=k:=by rfl):(Obl.done (.opt (qo P t (vl E l) (.i i))) (.fptr (l.flatMap E.c) (i.toNat*k))).Holds P:=ix_vl T hk h
theorem lv (off:Nat) {t:TypeId} (T:CeT P t) (E:Enc α) {l:List α} {i:Int} {x:α} (h:idx l i=some x) {c:AV} (hc:(E.c x)[off]? =some c) (ho:Nat.ble (off+1) E.k=true:=by rfl):(Obl.done (vz P t (.fptr (l.flatMap E.c) (i.toNat*E.k+off))) c).Holds P:=ld_vl T rfl h (nl ho) hc
theorem la {t:TypeId} {k:Nat} (T:AgT P t k) (E:Enc α) {l:List α} {i:Int} {x:α} (h:idx l i=some x) (hk:E.k=k:=by rfl):(Obl.done (vz P t (.fptr (l.flatMap E.c) (i.toNat*k))) (.agg (E.c x))).Holds P:=ld_ag T hk h
end Go.Av
