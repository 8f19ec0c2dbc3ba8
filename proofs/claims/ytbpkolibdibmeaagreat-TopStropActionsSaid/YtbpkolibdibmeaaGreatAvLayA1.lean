/-
  Texts put together.
-/
import Derived.Shelf.Lays2
import Derived.Shelf.Spec.SlicesInsertGrow
import Derived.Ground.Names2Prog
import Derived.Test.YtbpkolibdibmeaaGreatProg
noncomputable section
namespace Go.Proofs
open Go.Shelf
def Tryz.lays2_21_ren:Go.Shelf.Ren:=⟨fun|21=>111|27=>112|28=>113|35=>125|39=>70|n=>n,fun|22=>22|3=>3|4=>4|0=>0|n=>n,fun|n=>n⟩
theorem Tryz.lays2_21:Go.Proofs.Lays2.n21 Tryz.prog Tryz.lays2_21_ren:={
 mixed:=by kernel_rfl,
 f21:=Tryz.func111.trans (congrArg some (by kernel_rfl)),
 f27:=Tryz.func112.trans (congrArg some (by kernel_rfl)),
 f28:=Tryz.func113.trans (congrArg some (by kernel_rfl)),
 f35:=Tryz.func125.trans (congrArg some (by kernel_rfl)),
 f39:=Tryz.func70.trans (congrArg some (by kernel_rfl)),
 t0:=Tryz.underlying0,
 a0:=Tryz.isAgg0,
 z0:=Tryz.sizeOf0,
 v0:=Tryz.zeroValue0,
 t3:=Tryz.underlying3,
 a3:=Tryz.isAgg3,
 z3:=Tryz.sizeOf3,
 v3:=Tryz.zeroValue3,
 t4:=Tryz.underlying4,
 a4:=Tryz.isAgg4,
 z4:=Tryz.sizeOf4,
 v4:=Tryz.zeroValue4,
 t22:=Tryz.underlying22,
 a22:=Tryz.isAgg22,
 z22:=Tryz.sizeOf22,
 v22:=Tryz.zeroValue22,
 i3:=by kernel_rfl}
end Go.Proofs
