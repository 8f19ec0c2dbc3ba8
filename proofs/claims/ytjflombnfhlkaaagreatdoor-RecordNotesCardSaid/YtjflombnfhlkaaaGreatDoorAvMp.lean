/-
  A map of the program's own, told by a list of keys and what they have.
-/
import Derived.Test.YtjflombnfhlkaaaGreatDoorAvPk
noncomputable section
namespace Go.Av
set_option linter.unusedSectionVars false
variable {α κ:Type} [BEq κ] {P:Program}
def mget (m:List (κ×α)) (k:κ):Option α:=(m.find? fun p=>k==p.1).map (·.2)
def mset:List (κ×α)→κ→α→List (κ×α)
 |[],k,v=>[(k,v)]
 |p::m,k,v=>if(k==p.1)=true then(p.1,v)::m else p::mset m k v
abbrev mpB (K:κ→AV) (f:α→AV) (m:List (κ×α)):Blk:= .map (m.map fun p=>K p.1) (m.map fun p=>f p.2)
structure KeyE (K:κ→AV) (d:TypeDesc):Prop where
 eq: ∀a b,qep (K a) (K b)=some (a==b)
 plain: ∀a,plainKey d (K a)=true
structure MpT (P:Program) (t kt et:TypeId) (d:TypeDesc) (z:AV):Prop where
 und:P.underlying t=some (.map kt et)
 key:P.underlying kt=some d
 zero:((P.info? et).bind (·.zero)).map (yO 3)=some z
def mpos (m:List (κ×α)) (k:κ):Nat:=(m.findIdx? fun p=>k==p.1).getD m.length
abbrev fI:Int→AV:=fun v=>AV.int .i64 v
abbrev fO:Bool→AV:=fun v=>AV.bool v
abbrev fL [Glob]:List Int→AV:=fun v=>vl encI v
abbrev mI (m:List (Str×Int)):Blk:=mpB AV.str fI m
abbrev mO (m:List (Str×Bool)):Blk:=mpB AV.str fO m
abbrev mL [Glob] (m:List (Str×List Int)):Blk:=mpB AV.str fL m
end Go.Av
