/-
  Division by a number that is not known: it has a result unless the divisor is 0.
-/
import Derived.Test.YtphbhegcojmijaaGreatDoorAvSq
noncomputable section
namespace Go.Av
set_option linter.unusedSectionVars false
variable [Glob]
def quoI (k:IntKind) (a b:Int):Option Int:=if b=0 then none else some (k.wrap (a.tdiv b))
def qmc (_:IntKind) (a b:Int):Option Int:=if b=0 then none else some (a.tmod b)
theorem qoq {P:Program} {t:TypeId} {ox oy:Operand} {k:IntKind} {a b q:Int} (h:qmc k a b=some q):(Obl.done (.opt (xe P .rem t ox oy (.int k a) (.int k b))) (.int k q)).Holds P:=by
 unfold qmc at h
 split at h
 ·cases h
 ·rename_i hb
  obtain rfl:=Option.some.inj h
  show Pg.opt _=_
  simp[xe,qdI,qgO,hb,Pg.opt]
end Go.Av
