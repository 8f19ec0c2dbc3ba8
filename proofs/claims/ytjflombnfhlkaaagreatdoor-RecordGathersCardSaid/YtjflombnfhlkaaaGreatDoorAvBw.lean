/-
  Numbers bit by bit.
-/
import Derived.Test.YtjflombnfhlkaaaGreatDoorAvPq
noncomputable section
namespace Go.Av
set_option linter.unusedSectionVars false
abbrev qf2 (k:IntKind) (a b:Int):Int:=k.wrap (BitVec.ofInt k.bits a&&&BitVec.ofInt k.bits b).toNat
abbrev orI (k:IntKind) (a b:Int):Int:=k.wrap (BitVec.ofInt k.bits a|||BitVec.ofInt k.bits b).toNat
abbrev xorI (k:IntKind) (a b:Int):Int:=k.wrap (BitVec.ofInt k.bits a^^^BitVec.ofInt k.bits b).toNat
abbrev shrI (k:IntKind) (a b:Int):Int:=a.fdiv (2^(min b.toNat k.bits))
abbrev shlI (k:IntKind) (a b:Int):Int:=k.wrap (a*2^(min b.toNat k.bits))
end Go.Av
