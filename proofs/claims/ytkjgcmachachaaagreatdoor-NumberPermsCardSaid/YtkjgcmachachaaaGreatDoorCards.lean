/-
  DERIVED. GIVEN WITH THE SEED: THE CARDS: each row of YtkjgcmachachaaaGreatDoorRows.lean that lists a variable, with what it lists TIED to the program's text (the seventh form; the later family's looks); each row that meets fmt, with fmt's text TOLD by the authors' own Lean function (tested against real Go, not proved from fmt's source: count such statements apart). THE CARD IS WHAT COUNTS. Prove the row's statement (the work); the ties are given (YtkjgcmachachaaaGreatDoorTie.lean); close each card by the builder's one call (the guide's Derived/Test/ToyasCard.lean, 'card_holds'). Laid BY PROGRAM, IN A SANDBOX (cutbox-door.mjs). By AI agents, Wed Nov 11 2026. No macro, syntax, notation, axiom, sorry.
-/
import Derived.Test.YtkjgcmachachaaaGreatDoorRows
import GoSem.ClaimSeven
namespace Go.Proofs.YtkjgcmachachaaaGreatDoor
namespace Rows

/-- THE TIED CARD OF 'becketlaw01.NumberPerms'. -/
def numberPermsCard : Claim7 := { stood := { row := numberPermsRow, standIns := [], harness := (true, "7e259954e41b6a42378c8dd8b1747e2f8b40ca96145a9e3af6ab6b6fdee01d53"), looks := true }, kinds := [], alts := [], laidByText := true, laidKinds := [.data, .data, .data, .data, .sentinel, .sentinel, .pinned], laidTests := true, laidLooks := .later }
def NumberPermsCardSaid : Prop := Claim7.holds Tryz.pinned (.plain (OpenSpec.ofChange numberPermsSpec)) numberPermsCard

/-- THE SECOND FORM's CARD OF 'becketlaw01.NumberPerms'. -/
def numberPermsUptoCard : Claim7 := { stood := { row := numberPermsUptoRow, standIns := [], harness := (true, "7e259954e41b6a42378c8dd8b1747e2f8b40ca96145a9e3af6ab6b6fdee01d53"), looks := true }, kinds := [], alts := [], laidByText := true, laidKinds := [.data, .data, .data, .data, .sentinel, .sentinel, .pinned], laidTests := true, laidLooks := .later }
def NumberPermsUptoCardSaid : Prop := Claim7.holds Tryz.pinned (.plain (OpenSpec.upto numberPermsSpec)) numberPermsUptoCard
end Rows
end Go.Proofs.YtkjgcmachachaaaGreatDoor
