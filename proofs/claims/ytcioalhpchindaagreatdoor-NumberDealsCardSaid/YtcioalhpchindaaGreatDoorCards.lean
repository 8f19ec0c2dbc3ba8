/-
  DERIVED. GIVEN WITH THE SEED: THE CARDS: each row of YtcioalhpchindaaGreatDoorRows.lean that lists a variable, with what it lists TIED to the program's text (the seventh form; the later family's looks); each row that meets fmt, with fmt's text TOLD by the authors' own Lean function (tested against real Go, not proved from fmt's source: count such statements apart). THE CARD IS WHAT COUNTS. Prove the row's statement (the work); the ties are given (YtcioalhpchindaaGreatDoorTie.lean); close each card by the builder's one call (the guide's Derived/Test/ToyasCard.lean, 'card_holds'). Laid BY PROGRAM, IN A SANDBOX (cutbox-door.mjs). By AI agents, Wed Nov 11 2026. No macro, syntax, notation, axiom, sorry.
-/
import Derived.Test.YtcioalhpchindaaGreatDoorRows
import GoSem.ClaimSeven
namespace Go.Proofs.YtcioalhpchindaaGreatDoor
namespace Rows

/-- THE TIED CARD OF 'becketlaw01.NumberCycles'. -/
def numberCyclesCard : Claim7 := { stood := { row := numberCyclesRow, standIns := [], harness := (true, "b23835ed5bcd7e221fd42f7a288c1d53b35030e490d7aa98dfcb1557dd509f8a"), looks := true }, kinds := [], alts := [], laidByText := true, laidKinds := [.data, .data, .data, .data, .sentinel, .sentinel, .pinned], laidTests := true, laidLooks := .later }
def NumberCyclesCardSaid : Prop := Claim7.holds Tryz.pinned (.plain (OpenSpec.ofChange numberCyclesSpec)) numberCyclesCard

/-- THE TIED CARD OF 'becketlaw01.NumberShares'. -/
def numberSharesCard : Claim7 := { stood := { row := numberSharesRow, standIns := [], harness := (true, "b23835ed5bcd7e221fd42f7a288c1d53b35030e490d7aa98dfcb1557dd509f8a"), looks := true }, kinds := [], alts := [], laidByText := true, laidKinds := [.data, .data, .data, .data, .sentinel, .sentinel, .pinned], laidTests := true, laidLooks := .later }
def NumberSharesCardSaid : Prop := Claim7.holds Tryz.pinned (.plain (OpenSpec.ofChange numberSharesSpec)) numberSharesCard

/-- THE TIED CARD OF 'becketlaw01.NumberDeals'. -/
def numberDealsCard : Claim7 := { stood := { row := numberDealsRow, standIns := [], harness := (true, "b23835ed5bcd7e221fd42f7a288c1d53b35030e490d7aa98dfcb1557dd509f8a"), looks := true }, kinds := [], alts := [], laidByText := true, laidKinds := [.data, .data, .data, .data, .sentinel, .sentinel, .pinned], laidTests := true, laidLooks := .later }
def NumberDealsCardSaid : Prop := Claim7.holds Tryz.pinned (.plain (OpenSpec.ofChange numberDealsSpec)) numberDealsCard

/-- THE TIED CARD OF 'becketlaw01.NumberRounds'. -/
def numberRoundsCard : Claim7 := { stood := { row := numberRoundsRow, standIns := [], harness := (true, "b23835ed5bcd7e221fd42f7a288c1d53b35030e490d7aa98dfcb1557dd509f8a"), looks := true }, kinds := [], alts := [], laidByText := true, laidKinds := [.data, .data, .data, .data, .sentinel, .sentinel, .pinned], laidTests := true, laidLooks := .later }
def NumberRoundsCardSaid : Prop := Claim7.holds Tryz.pinned (.plain (OpenSpec.ofChange numberRoundsSpec)) numberRoundsCard

/-- THE SECOND FORM's CARD OF 'becketlaw01.NumberCycles'. -/
def numberCyclesUptoCard : Claim7 := { stood := { row := numberCyclesUptoRow, standIns := [], harness := (true, "b23835ed5bcd7e221fd42f7a288c1d53b35030e490d7aa98dfcb1557dd509f8a"), looks := true }, kinds := [], alts := [], laidByText := true, laidKinds := [.data, .data, .data, .data, .sentinel, .sentinel, .pinned], laidTests := true, laidLooks := .later }
def NumberCyclesUptoCardSaid : Prop := Claim7.holds Tryz.pinned (.plain (OpenSpec.upto numberCyclesSpec)) numberCyclesUptoCard

/-- THE SECOND FORM's CARD OF 'becketlaw01.NumberShares'. -/
def numberSharesUptoCard : Claim7 := { stood := { row := numberSharesUptoRow, standIns := [], harness := (true, "b23835ed5bcd7e221fd42f7a288c1d53b35030e490d7aa98dfcb1557dd509f8a"), looks := true }, kinds := [], alts := [], laidByText := true, laidKinds := [.data, .data, .data, .data, .sentinel, .sentinel, .pinned], laidTests := true, laidLooks := .later }
def NumberSharesUptoCardSaid : Prop := Claim7.holds Tryz.pinned (.plain (OpenSpec.upto numberSharesSpec)) numberSharesUptoCard

/-- THE SECOND FORM's CARD OF 'becketlaw01.NumberDeals'. -/
def numberDealsUptoCard : Claim7 := { stood := { row := numberDealsUptoRow, standIns := [], harness := (true, "b23835ed5bcd7e221fd42f7a288c1d53b35030e490d7aa98dfcb1557dd509f8a"), looks := true }, kinds := [], alts := [], laidByText := true, laidKinds := [.data, .data, .data, .data, .sentinel, .sentinel, .pinned], laidTests := true, laidLooks := .later }
def NumberDealsUptoCardSaid : Prop := Claim7.holds Tryz.pinned (.plain (OpenSpec.upto numberDealsSpec)) numberDealsUptoCard

/-- THE SECOND FORM's CARD OF 'becketlaw01.NumberRounds'. -/
def numberRoundsUptoCard : Claim7 := { stood := { row := numberRoundsUptoRow, standIns := [], harness := (true, "b23835ed5bcd7e221fd42f7a288c1d53b35030e490d7aa98dfcb1557dd509f8a"), looks := true }, kinds := [], alts := [], laidByText := true, laidKinds := [.data, .data, .data, .data, .sentinel, .sentinel, .pinned], laidTests := true, laidLooks := .later }
def NumberRoundsUptoCardSaid : Prop := Claim7.holds Tryz.pinned (.plain (OpenSpec.upto numberRoundsSpec)) numberRoundsUptoCard
end Rows
end Go.Proofs.YtcioalhpchindaaGreatDoor
