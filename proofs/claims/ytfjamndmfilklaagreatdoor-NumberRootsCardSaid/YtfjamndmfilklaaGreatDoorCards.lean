/-
  DERIVED. GIVEN WITH THE SEED: THE CARDS: each row of YtfjamndmfilklaaGreatDoorRows.lean that lists a variable, with what it lists TIED to the program's text (the seventh form; the later family's looks); each row that meets fmt, with fmt's text TOLD by the authors' own Lean function (tested against real Go, not proved from fmt's source: count such statements apart). THE CARD IS WHAT COUNTS. Prove the row's statement (the work); the ties are given (YtfjamndmfilklaaGreatDoorTie.lean); close each card by the builder's one call (the guide's Derived/Test/ToyasCard.lean, 'card_holds'). Laid BY PROGRAM, IN A SANDBOX (cutbox-door.mjs). By AI agents, Wed Nov 11 2026. No macro, syntax, notation, axiom, sorry.
-/
import Derived.Test.YtfjamndmfilklaaGreatDoorRows
import GoSem.ClaimSeven
namespace Go.Proofs.YtfjamndmfilklaaGreatDoor
namespace Rows

/-- THE TIED CARD OF 'becketlaw01.NumberRoots'. -/
def numberRootsCard : Claim7 := { stood := { row := numberRootsRow, standIns := [], harness := (true, "64e4550f241f29bcb38b01ab14c44d0d7d247d942b5fab8b10cd253ab92596b4"), looks := true }, kinds := [], alts := [], laidByText := true, laidKinds := [.data, .data, .data, .data, .sentinel, .sentinel, .pinned], laidTests := true, laidLooks := .later }
def NumberRootsCardSaid : Prop := Claim7.holds Tryz.pinned (.plain (OpenSpec.ofChange numberRootsSpec)) numberRootsCard

/-- THE TIED CARD OF 'becketlaw01.NumberCircles'. -/
def numberCirclesCard : Claim7 := { stood := { row := numberCirclesRow, standIns := [], harness := (true, "64e4550f241f29bcb38b01ab14c44d0d7d247d942b5fab8b10cd253ab92596b4"), looks := true }, kinds := [], alts := [], laidByText := true, laidKinds := [.data, .data, .data, .data, .sentinel, .sentinel, .pinned], laidTests := true, laidLooks := .later }
def NumberCirclesCardSaid : Prop := Claim7.holds Tryz.pinned (.plain (OpenSpec.ofChange numberCirclesSpec)) numberCirclesCard

/-- THE SECOND FORM's CARD OF 'becketlaw01.NumberRoots'. -/
def numberRootsUptoCard : Claim7 := { stood := { row := numberRootsUptoRow, standIns := [], harness := (true, "64e4550f241f29bcb38b01ab14c44d0d7d247d942b5fab8b10cd253ab92596b4"), looks := true }, kinds := [], alts := [], laidByText := true, laidKinds := [.data, .data, .data, .data, .sentinel, .sentinel, .pinned], laidTests := true, laidLooks := .later }
def NumberRootsUptoCardSaid : Prop := Claim7.holds Tryz.pinned (.plain (OpenSpec.upto numberRootsSpec)) numberRootsUptoCard

/-- THE SECOND FORM's CARD OF 'becketlaw01.NumberCircles'. -/
def numberCirclesUptoCard : Claim7 := { stood := { row := numberCirclesUptoRow, standIns := [], harness := (true, "64e4550f241f29bcb38b01ab14c44d0d7d247d942b5fab8b10cd253ab92596b4"), looks := true }, kinds := [], alts := [], laidByText := true, laidKinds := [.data, .data, .data, .data, .sentinel, .sentinel, .pinned], laidTests := true, laidLooks := .later }
def NumberCirclesUptoCardSaid : Prop := Claim7.holds Tryz.pinned (.plain (OpenSpec.upto numberCirclesSpec)) numberCirclesUptoCard
end Rows
end Go.Proofs.YtfjamndmfilklaaGreatDoor
