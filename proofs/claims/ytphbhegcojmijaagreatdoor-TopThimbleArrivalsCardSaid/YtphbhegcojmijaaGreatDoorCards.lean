/-
  DERIVED. GIVEN WITH THE SEED: THE CARDS: each row of YtphbhegcojmijaaGreatDoorRows.lean that lists a variable, with what it lists TIED to the program's text (the seventh form; the later family's looks); each row that meets fmt, with fmt's text TOLD by the authors' own Lean function (tested against real Go, not proved from fmt's source: count such statements apart). THE CARD IS WHAT COUNTS. Prove the row's statement (the work); the ties are given (YtphbhegcojmijaaGreatDoorTie.lean); close each card by the builder's one call (the guide's Derived/Test/ToyasCard.lean, 'card_holds'). Laid BY PROGRAM, IN A SANDBOX (cutbox-door.mjs). By AI agents, Wed Nov 11 2026. No macro, syntax, notation, axiom, sorry.
-/
import Derived.Test.YtphbhegcojmijaaGreatDoorRows
import GoSem.ClaimSeven
namespace Go.Proofs.YtphbhegcojmijaaGreatDoor
namespace Rows

/-- THE TIED CARD OF 'beckettop.TopThimbleCuts'. -/
def topThimbleCutsCard : Claim7 := { stood := { row := topThimbleCutsRow, standIns := [], harness := (true, "171db3aefb163e68db0238627782dfdbbac3cb947c27e6d4731a4a2b9a084e51"), looks := true }, kinds := [], alts := [], laidByText := true, laidKinds := [.data, .data, .data, .data, .sentinel, .sentinel, .pinned], laidTests := true, laidLooks := .later }
def TopThimbleCutsCardSaid : Prop := Claim7.holds Tryz.pinned (.plain (OpenSpec.ofChange topThimbleCutsSpec)) topThimbleCutsCard

/-- THE TIED CARD OF 'beckettop.TopThimbleArrivals'. -/
def topThimbleArrivalsCard : Claim7 := { stood := { row := topThimbleArrivalsRow, standIns := [], harness := (true, "171db3aefb163e68db0238627782dfdbbac3cb947c27e6d4731a4a2b9a084e51"), looks := true }, kinds := [], alts := [], laidByText := true, laidKinds := [.data, .data, .data, .data, .sentinel, .sentinel, .pinned], laidTests := true, laidLooks := .later }
def TopThimbleArrivalsCardSaid : Prop := Claim7.holds Tryz.pinned (.plain (OpenSpec.ofChange topThimbleArrivalsSpec)) topThimbleArrivalsCard

/-- THE SECOND FORM's CARD OF 'beckettop.TopThimbleCuts'. -/
def topThimbleCutsUptoCard : Claim7 := { stood := { row := topThimbleCutsUptoRow, standIns := [], harness := (true, "171db3aefb163e68db0238627782dfdbbac3cb947c27e6d4731a4a2b9a084e51"), looks := true }, kinds := [], alts := [], laidByText := true, laidKinds := [.data, .data, .data, .data, .sentinel, .sentinel, .pinned], laidTests := true, laidLooks := .later }
def TopThimbleCutsUptoCardSaid : Prop := Claim7.holds Tryz.pinned (.plain (OpenSpec.upto topThimbleCutsSpec)) topThimbleCutsUptoCard

/-- THE SECOND FORM's CARD OF 'beckettop.TopThimbleArrivals'. -/
def topThimbleArrivalsUptoCard : Claim7 := { stood := { row := topThimbleArrivalsUptoRow, standIns := [], harness := (true, "171db3aefb163e68db0238627782dfdbbac3cb947c27e6d4731a4a2b9a084e51"), looks := true }, kinds := [], alts := [], laidByText := true, laidKinds := [.data, .data, .data, .data, .sentinel, .sentinel, .pinned], laidTests := true, laidLooks := .later }
def TopThimbleArrivalsUptoCardSaid : Prop := Claim7.holds Tryz.pinned (.plain (OpenSpec.upto topThimbleArrivalsSpec)) topThimbleArrivalsUptoCard
end Rows
end Go.Proofs.YtphbhegcojmijaaGreatDoor
