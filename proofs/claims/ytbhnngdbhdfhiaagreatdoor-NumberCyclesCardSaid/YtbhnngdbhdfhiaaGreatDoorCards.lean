/-
  DERIVED. GIVEN WITH THE SEED: THE CARDS: each row of YtbhnngdbhdfhiaaGreatDoorRows.lean that lists a variable, with what it lists TIED to the program's text (the seventh form; the later family's looks); each row that meets fmt, with fmt's text TOLD by the authors' own Lean function (tested against real Go, not proved from fmt's source: count such statements apart). THE CARD IS WHAT COUNTS. Prove the row's statement (the work); the ties are given (YtbhnngdbhdfhiaaGreatDoorTie.lean); close each card by the builder's one call (the guide's Derived/Test/ToyasCard.lean, 'card_holds'). Laid BY PROGRAM, IN A SANDBOX (cutbox-door.mjs). By AI agents, Wed Nov 11 2026. No macro, syntax, notation, axiom, sorry.
-/
import Derived.Test.YtbhnngdbhdfhiaaGreatDoorRows
import GoSem.ClaimSeven
namespace Go.Proofs.YtbhnngdbhdfhiaaGreatDoor
namespace Rows

/-- THE TIED CARD OF 'becketlaw01.NumberCycles'. -/
def numberCyclesCard : Claim7 := { stood := { row := numberCyclesRow, standIns := [], harness := (true, "4aac066437553dd5036aca95ffe092b0e8512c1d00e87a82a4e3bec91dc7c74e"), looks := true }, kinds := [], alts := [], laidByText := true, laidKinds := [.data, .data, .data, .data, .sentinel, .sentinel, .pinned], laidTests := true, laidLooks := .later }
def NumberCyclesCardSaid : Prop := Claim7.holds Tryz.pinned (.plain (OpenSpec.ofChange numberCyclesSpec)) numberCyclesCard

/-- THE TIED CARD OF 'becketlaw01.NumberRounds'. -/
def numberRoundsCard : Claim7 := { stood := { row := numberRoundsRow, standIns := [], harness := (true, "4aac066437553dd5036aca95ffe092b0e8512c1d00e87a82a4e3bec91dc7c74e"), looks := true }, kinds := [], alts := [], laidByText := true, laidKinds := [.data, .data, .data, .data, .sentinel, .sentinel, .pinned], laidTests := true, laidLooks := .later }
def NumberRoundsCardSaid : Prop := Claim7.holds Tryz.pinned (.plain (OpenSpec.ofChange numberRoundsSpec)) numberRoundsCard

/-- THE SECOND FORM's CARD OF 'becketlaw01.NumberCycles'. -/
def numberCyclesUptoCard : Claim7 := { stood := { row := numberCyclesUptoRow, standIns := [], harness := (true, "4aac066437553dd5036aca95ffe092b0e8512c1d00e87a82a4e3bec91dc7c74e"), looks := true }, kinds := [], alts := [], laidByText := true, laidKinds := [.data, .data, .data, .data, .sentinel, .sentinel, .pinned], laidTests := true, laidLooks := .later }
def NumberCyclesUptoCardSaid : Prop := Claim7.holds Tryz.pinned (.plain (OpenSpec.upto numberCyclesSpec)) numberCyclesUptoCard

/-- THE SECOND FORM's CARD OF 'becketlaw01.NumberRounds'. -/
def numberRoundsUptoCard : Claim7 := { stood := { row := numberRoundsUptoRow, standIns := [], harness := (true, "4aac066437553dd5036aca95ffe092b0e8512c1d00e87a82a4e3bec91dc7c74e"), looks := true }, kinds := [], alts := [], laidByText := true, laidKinds := [.data, .data, .data, .data, .sentinel, .sentinel, .pinned], laidTests := true, laidLooks := .later }
def NumberRoundsUptoCardSaid : Prop := Claim7.holds Tryz.pinned (.plain (OpenSpec.upto numberRoundsSpec)) numberRoundsUptoCard
end Rows
end Go.Proofs.YtbhnngdbhdfhiaaGreatDoor
