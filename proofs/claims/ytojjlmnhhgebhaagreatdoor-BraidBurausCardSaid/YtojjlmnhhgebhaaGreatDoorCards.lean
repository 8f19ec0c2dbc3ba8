/-
  DERIVED. GIVEN WITH THE SEED: THE CARDS: each row of YtojjlmnhhgebhaaGreatDoorRows.lean that lists a variable, with what it lists TIED to the program's text (the seventh form; the later family's looks); each row that meets fmt, with fmt's text TOLD by the authors' own Lean function (tested against real Go, not proved from fmt's source: count such statements apart). THE CARD IS WHAT COUNTS. Prove the row's statement (the work); the ties are given (YtojjlmnhhgebhaaGreatDoorTie.lean); close each card by the builder's one call (the guide's Derived/Test/ToyasCard.lean, 'card_holds'). Laid BY PROGRAM, IN A SANDBOX (cutbox-door.mjs). By AI agents, Wed Nov 11 2026. No macro, syntax, notation, axiom, sorry.
-/
import Derived.Test.YtojjlmnhhgebhaaGreatDoorRows
import GoSem.ClaimSeven
namespace Go.Proofs.YtojjlmnhhgebhaaGreatDoor
namespace Rows

/-- THE TIED CARD OF 'becketlaw05.BraidBuraus'. -/
def braidBurausCard : Claim7 := { stood := { row := braidBurausRow, standIns := [], harness := (true, "504cc07c9033e3b2ed1cf7d6973382dd4b80a5f42e2d19a7accc5e6c2d693933"), looks := true }, kinds := [], alts := [], laidByText := true, laidKinds := [.data, .data, .data, .data, .sentinel, .sentinel, .pinned], laidTests := true, laidLooks := .later }
def BraidBurausCardSaid : Prop := Claim7.holds Tryz.pinned (.plain (OpenSpec.ofChange braidBurausSpec)) braidBurausCard

/-- THE SECOND FORM's CARD OF 'becketlaw05.BraidBuraus'. -/
def braidBurausUptoCard : Claim7 := { stood := { row := braidBurausUptoRow, standIns := [], harness := (true, "504cc07c9033e3b2ed1cf7d6973382dd4b80a5f42e2d19a7accc5e6c2d693933"), looks := true }, kinds := [], alts := [], laidByText := true, laidKinds := [.data, .data, .data, .data, .sentinel, .sentinel, .pinned], laidTests := true, laidLooks := .later }
def BraidBurausUptoCardSaid : Prop := Claim7.holds Tryz.pinned (.plain (OpenSpec.upto braidBurausSpec)) braidBurausUptoCard
end Rows
end Go.Proofs.YtojjlmnhhgebhaaGreatDoor
