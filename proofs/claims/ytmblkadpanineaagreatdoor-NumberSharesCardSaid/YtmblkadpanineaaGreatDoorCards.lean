/-
  DERIVED. GIVEN WITH THE SEED: THE CARDS: each row of YtmblkadpanineaaGreatDoorRows.lean that lists a variable, with what it lists TIED to the program's text (the seventh form; the later family's looks); each row that meets fmt, with fmt's text TOLD by the authors' own Lean function (tested against real Go, not proved from fmt's source: count such statements apart). THE CARD IS WHAT COUNTS. Prove the row's statement (the work); the ties are given (YtmblkadpanineaaGreatDoorTie.lean); close each card by the builder's one call (the guide's Derived/Test/ToyasCard.lean, 'card_holds'). Laid BY PROGRAM, IN A SANDBOX (cutbox-door.mjs). By AI agents, Wed Nov 11 2026. No macro, syntax, notation, axiom, sorry.
-/
import Derived.Test.YtmblkadpanineaaGreatDoorRows
import GoSem.ClaimSeven
namespace Go.Proofs.YtmblkadpanineaaGreatDoor
namespace Rows

/-- THE TIED CARD OF 'becketlaw01.NumberShares'. -/
def numberSharesCard : Claim7 := { stood := { row := numberSharesRow, standIns := [], harness := (true, "8531a67c3daf7d7d78f59da824ea5de0fc869bf6ddac9b1c99c61f5f71ebcde1"), looks := true }, kinds := [], alts := [], laidByText := true, laidKinds := [.data, .data, .data, .data, .sentinel, .sentinel, .pinned], laidTests := true, laidLooks := .later }
def NumberSharesCardSaid : Prop := Claim7.holds Tryz.pinned (.plain (OpenSpec.ofChange numberSharesSpec)) numberSharesCard

/-- THE SECOND FORM's CARD OF 'becketlaw01.NumberShares'. -/
def numberSharesUptoCard : Claim7 := { stood := { row := numberSharesUptoRow, standIns := [], harness := (true, "8531a67c3daf7d7d78f59da824ea5de0fc869bf6ddac9b1c99c61f5f71ebcde1"), looks := true }, kinds := [], alts := [], laidByText := true, laidKinds := [.data, .data, .data, .data, .sentinel, .sentinel, .pinned], laidTests := true, laidLooks := .later }
def NumberSharesUptoCardSaid : Prop := Claim7.holds Tryz.pinned (.plain (OpenSpec.upto numberSharesSpec)) numberSharesUptoCard
end Rows
end Go.Proofs.YtmblkadpanineaaGreatDoor
