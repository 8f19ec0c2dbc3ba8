/-
  It is proved that NumberPerms returns true for all lists of integers. Conditions: those of the given row alone (the listed package variables hold what the program's text lays).
-/
import Derived.Test.YtkjgcmachachaaaGreatDoorAvSymF
import Derived.Test.YtkjgcmachachaaaGreatDoorAvAwk01
noncomputable section
namespace Go.Proofs.YtkjgcmachachaaaGreatDoor
theorem numberPerms_holds : Rows.NumberPermsCardSaid := Go.Av.card Go.Av.awake4
end Go.Proofs.YtkjgcmachachaaaGreatDoor
#print axioms Go.Proofs.YtkjgcmachachaaaGreatDoor.numberPerms_holds
