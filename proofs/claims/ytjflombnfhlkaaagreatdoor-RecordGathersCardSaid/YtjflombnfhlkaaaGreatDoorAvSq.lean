/-
  A state in another guise at the end of a piece of code.
-/
import Derived.Test.YtjflombnfhlkaaaGreatDoorAvMp
noncomputable section
namespace Go.Av
set_option linter.unusedSectionVars false
variable [Glob]
theorem Goes.subQ [Base] {P:Program} {c:Code} {s:St} {Q:XA→St→Prop} (h:Goes P c s (fun x s'=> ∃t,Sub s' t∧Q x t)):Goes P c s Q:=fun F0 w0 n F nu a w st hf hd K hK=>
 h F0 w0 n F nu a w st hf hd K (fun x s' F' nu' a' w' q st2 hf2 hd2=>by
   obtain⟨t,hs,q⟩:=q
   obtain⟨F2,nu2,st3,hf3,hd3⟩:=hs F0 w0 F' nu' a' w' st2 hf2 hd2
   exact hK x t F2 nu2 a' w' q st3 hf3 hd3)
theorem qeK {a b:Nat} {u:Unit} (h:(if a=b then some ()else none:Option Unit)=some u):a=b:=by
 split at h
 ·assumption
 ·cases h
end Go.Av
