/-
  Division by a number that is not known: it has a result unless the divisor is 0.
-/
import Derived.Test.YtjflombnfhlkaaaGreatDoorAvSq
noncomputable section
namespace Go.Av
set_option linter.unusedSectionVars false
variable [Glob]
def quoI (k:IntKind) (a b:Int):Option Int:=if b=0 then none else some (k.wrap (a.tdiv b))
def qji (_:IntKind) (a b:Int):Option Int:=if b=0 then none else some (a.tmod b)
theorem qi0 {P:Program} {t:TypeId} {ox oy:Operand} {k:IntKind} {a b q:Int} (h:qji k a b=some q):(Obl.done (.opt (qay P .rem t ox oy (.int k a) (.int k b))) (.int k q)).Holds P:=by
 unfold qji at h
 split at h
 ·cases h
 ·rename_i hb
  obtain rfl:=Option.some.inj h
  show Pg.opt _=_
  simp[qay,qeo,qhd,hb,Pg.opt]
end Go.Av
