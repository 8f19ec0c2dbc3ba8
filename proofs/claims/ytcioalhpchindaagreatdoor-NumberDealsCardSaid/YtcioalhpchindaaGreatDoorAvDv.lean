/-
  Division by a number that is not known: it has a result unless the divisor is 0.
-/
import Derived.Test.YtcioalhpchindaaGreatDoorAvSq
noncomputable section
namespace Go.Av
set_option linter.unusedSectionVars false
variable [Glob]
def qdX (k:IntKind) (a b:Int):Option Int:=if b=0 then none else some (k.wrap (a.tdiv b))
def qbt (_:IntKind) (a b:Int):Option Int:=if b=0 then none else some (a.tmod b)
theorem qfp {P:Program} {t:TypeId} {ox oy:Operand} {k:IntKind} {a b q:Int} (h:qdX k a b=some q):(Obl.done (.opt (vS P .quo t ox oy (.int k a) (.int k b))) (.int k q)).Holds P:=by
 unfold qdX at h
 split at h
 ·cases h
 ·rename_i hb
  obtain rfl:=Option.some.inj h
  show Pg.opt _=_
  simp[vS,vz,xK,hb,Pg.opt]
theorem qad {P:Program} {t:TypeId} {ox oy:Operand} {k:IntKind} {a b q:Int} (h:qbt k a b=some q):(Obl.done (.opt (vS P .rem t ox oy (.int k a) (.int k b))) (.int k q)).Holds P:=by
 unfold qbt at h
 split at h
 ·cases h
 ·rename_i hb
  obtain rfl:=Option.some.inj h
  show Pg.opt _=_
  simp[vS,vz,xK,hb,Pg.opt]
end Go.Av
