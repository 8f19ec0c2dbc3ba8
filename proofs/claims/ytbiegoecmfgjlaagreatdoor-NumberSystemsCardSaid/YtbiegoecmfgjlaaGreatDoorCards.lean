/-
  DERIVED. GIVEN WITH THE SEED: THE CARDS: each row of YtbiegoecmfgjlaaGreatDoorRows.lean that lists a variable, with what it lists TIED to the program's text (the seventh form; the later family's looks); each row that meets fmt, with fmt's text TOLD by the authors' own Lean function (tested against real Go, not proved from fmt's source: count such statements apart). THE CARD IS WHAT COUNTS. Prove the row's statement (the work); the ties are given (YtbiegoecmfgjlaaGreatDoorTie.lean); close each card by the builder's one call (the guide's Derived/Test/ToyasCard.lean, 'card_holds'). Laid BY PROGRAM, IN A SANDBOX (cutbox-door.mjs). By AI agents, Wed Nov 11 2026. No macro, syntax, notation, axiom, sorry.
-/
import Derived.Test.YtbiegoecmfgjlaaGreatDoorRows
import GoSem.ClaimSeven
namespace Go.Proofs.YtbiegoecmfgjlaaGreatDoor
namespace Rows

/-- THE TIED CARD OF 'becketlaw01.NumberSystems'. -/
def numberSystemsCard : Claim7 := { stood := { row := numberSystemsRow, standIns := [], harness := (true, "959f1c4a0059eb028e96d1767743b66be5cfc595ff953de8a4f84c39da56acfd"), looks := true }, kinds := [], alts := [], laidByText := true, laidKinds := [.data, .data, .data, .data, .sentinel, .sentinel, .pinned], laidTests := true, laidLooks := .later }
def NumberSystemsCardSaid : Prop := Claim7.holds Tryz.pinned (.plain (OpenSpec.ofChange numberSystemsSpec)) numberSystemsCard

/-- THE SECOND FORM's CARD OF 'becketlaw01.NumberSystems'. -/
def numberSystemsUptoCard : Claim7 := { stood := { row := numberSystemsUptoRow, standIns := [], harness := (true, "959f1c4a0059eb028e96d1767743b66be5cfc595ff953de8a4f84c39da56acfd"), looks := true }, kinds := [], alts := [], laidByText := true, laidKinds := [.data, .data, .data, .data, .sentinel, .sentinel, .pinned], laidTests := true, laidLooks := .later }
def NumberSystemsUptoCardSaid : Prop := Claim7.holds Tryz.pinned (.plain (OpenSpec.upto numberSystemsSpec)) numberSystemsUptoCard
end Rows
end Go.Proofs.YtbiegoecmfgjlaaGreatDoor
