/-
  DERIVED. GIVEN WITH THE SEED: THE CARDS: each row of YtillneeejbbcfaaGreatDoorRows.lean that lists a variable, with what it lists TIED to the program's text (the seventh form; the later family's looks); each row that meets fmt, with fmt's text TOLD by the authors' own Lean function (tested against real Go, not proved from fmt's source: count such statements apart). THE CARD IS WHAT COUNTS. Prove the row's statement (the work); the ties are given (YtillneeejbbcfaaGreatDoorTie.lean); close each card by the builder's one call (the guide's Derived/Test/ToyasCard.lean, 'card_holds'). Laid BY PROGRAM, IN A SANDBOX (cutbox-door.mjs). By AI agents, Wed Nov 11 2026. No macro, syntax, notation, axiom, sorry.
-/
import Derived.Test.YtillneeejbbcfaaGreatDoorRows
import GoSem.ClaimSeven
namespace Go.Proofs.YtillneeejbbcfaaGreatDoor
namespace Rows

/-- THE TIED CARD OF 'becketlaw05.BraidActs'. -/
def braidActsCard : Claim7 := { stood := { row := braidActsRow, standIns := [], harness := (true, "a254b76eae3aa87d8f053f49ecaa16f53735c480f620e2bd67dcc30c923fa083"), looks := true }, kinds := [], alts := [], laidByText := true, laidKinds := [.data, .data, .data, .data, .sentinel, .sentinel, .pinned], laidTests := true, laidLooks := .later }
def BraidActsCardSaid : Prop := Claim7.holds Tryz.pinned (.plain (OpenSpec.ofChange braidActsSpec)) braidActsCard

/-- THE SECOND FORM's CARD OF 'becketlaw05.BraidActs'. -/
def braidActsUptoCard : Claim7 := { stood := { row := braidActsUptoRow, standIns := [], harness := (true, "a254b76eae3aa87d8f053f49ecaa16f53735c480f620e2bd67dcc30c923fa083"), looks := true }, kinds := [], alts := [], laidByText := true, laidKinds := [.data, .data, .data, .data, .sentinel, .sentinel, .pinned], laidTests := true, laidLooks := .later }
def BraidActsUptoCardSaid : Prop := Claim7.holds Tryz.pinned (.plain (OpenSpec.upto braidActsSpec)) braidActsUptoCard
end Rows
end Go.Proofs.YtillneeejbbcfaaGreatDoor
