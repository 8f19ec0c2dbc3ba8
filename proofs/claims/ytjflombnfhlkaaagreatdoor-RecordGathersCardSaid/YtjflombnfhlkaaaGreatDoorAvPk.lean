/-
  Short words for what the generator prints.
-/
import Derived.Test.YtjflombnfhlkaaaGreatDoorAvOpt
noncomputable section
namespace Go.Av
variable [Glob] {α:Type} {P:Program} {A:Heap}
set_option linter.unusedSectionVars false
def Obl.orc:Obl→Orc
 | .triv=> .no
 | .done _ v=> .done v
 | .run _ _ _ v A' wr=> .run v A' wr
 | .call _ _ _ S args' v=> .call S args' v
 | .callF _ _ _ S args' v=> .callF S args' v
 | .callH _ _ _ S v A'=> .callH S v A'
theorem Goes.rp [Base] (hm:P.follows .mixedOrders=true) {id m:Nat} {ops:Array Oper} {draw:Bool} {l0:List (Nat×AV)} {Q:XA→St→Prop} (ks:List Nat) (l:List (Nat×AV)) (A':Heap) (obls:List Obl) (ho:qbj P obls) (hq:Q .normal (ofG m l,A'))
 (h:qdw P ops draw (ks.zip (obls.map Obl.orc)) (l.map (·.1)) (ofG m l0,A)=some (ofG m l,A',obls):=by kernel_rfl):Goes P (.region id ops draw) (ofG m l0,A) Q:=Goes.reg hm _ _ h ho hq
theorem qm.rp [Base] (hm:P.follows .mixedOrders=true) {id m:Nat} {ops:Array Oper} {draw:Bool} {l0:List (Nat×AV)} (ks:List Nat) (l:List (Nat×AV)) (A':Heap) (obls:List Obl) (ho:qbj P obls)
 (h:qdw P ops draw (ks.zip (obls.map Obl.orc)) (l.map (·.1)) (ofG m l0,A)=some (ofG m l,A',obls):=by kernel_rfl):qm P id ops draw (ofG m l0,A) (ofG m l,A'):=qm.reg hm _ _ h ho
theorem an {a b:Prop} (x:a) (y:b):a∧b:=⟨x,y⟩
theorem nb {b:Bool} (h:b=false): ¬b=true:=by rw[h];exact Bool.false_ne_true
theorem si {a b:α} (h:some a=some b):a=b:=Option.some.inj h
theorem nl {a b:Nat} (h:Nat.ble a b=true):a≤b:=Nat.le_of_ble_eq_true h
theorem nI {k:IntKind} {n:Int}:qx (.int k n):=qx.int _ _
theorem nS {s:List UInt8}:qx (.str s):=qx.str _
theorem nB {b:Bool}:qx (.bool b):=qx.bool _
theorem tI {d:Nat} {k:IntKind} {n:Int}:Still (d+1) (.int k n):=Still.int _ _ _
theorem tS {d:Nat} {s:List UInt8}:Still (d+1) (.str s):=Still.str _ _
theorem tB {d:Nat} {b:Bool}:Still (d+1) (.bool b):=Still.bool _ _
abbrev bZ:Blk:= .cells [.i 0,.nilslice]
end Go.Av
