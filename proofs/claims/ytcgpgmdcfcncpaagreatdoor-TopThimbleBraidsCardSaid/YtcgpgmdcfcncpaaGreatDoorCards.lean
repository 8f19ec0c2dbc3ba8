/-
  DERIVED. GIVEN WITH THE SEED: THE CARDS: each row of YtcgpgmdcfcncpaaGreatDoorRows.lean that lists a variable, with what it lists TIED to the program's text (the seventh form; the later family's looks); each row that meets fmt, with fmt's text TOLD by the authors' own Lean function (tested against real Go, not proved from fmt's source: count such statements apart). THE CARD IS WHAT COUNTS. Prove the row's statement (the work); the ties are given (YtcgpgmdcfcncpaaGreatDoorTie.lean); close each card by the builder's one call (the guide's Derived/Test/ToyasCard.lean, 'card_holds'). Laid BY PROGRAM, IN A SANDBOX (cutbox-door.mjs). By AI agents, Wed Nov 11 2026. No macro, syntax, notation, axiom, sorry.
-/
import Derived.Test.YtcgpgmdcfcncpaaGreatDoorRows
import GoSem.ClaimSeven
namespace Go.Proofs.YtcgpgmdcfcncpaaGreatDoor
namespace Rows

/-- THE TIED CARD OF 'beckettop.TopThimbleBraids'. -/
def topThimbleBraidsCard : Claim7 := { stood := { row := topThimbleBraidsRow, standIns := [], harness := (true, "d2579057b2ad1164136aed13b43483499dd4720fb173c1a09c7710c06ed970c7"), looks := false }, kinds := [], alts := [], laidByText := true, laidKinds := [.data, .data, .data], laidTests := true, laidLooks := .later }
def TopThimbleBraidsCardSaid : Prop := Claim7.holds Tryz.pinned (.plain (OpenSpec.ofChange topThimbleBraidsSpec)) topThimbleBraidsCard

/-- THE SECOND FORM's CARD OF 'beckettop.TopThimbleBraids'. -/
def topThimbleBraidsUptoCard : Claim7 := { stood := { row := topThimbleBraidsUptoRow, standIns := [], harness := (true, "d2579057b2ad1164136aed13b43483499dd4720fb173c1a09c7710c06ed970c7"), looks := false }, kinds := [], alts := [], laidByText := true, laidKinds := [.data, .data, .data], laidTests := true, laidLooks := .later }
def TopThimbleBraidsUptoCardSaid : Prop := Claim7.holds Tryz.pinned (.plain (OpenSpec.upto topThimbleBraidsSpec)) topThimbleBraidsUptoCard
end Rows
end Go.Proofs.YtcgpgmdcfcncpaaGreatDoor
