/-
  DERIVED. GIVEN WITH THE SEED: THE CARDS: each row of YtcnioemfifogeaaGreatDoorRows.lean that lists a variable, with what it lists TIED to the program's text (the seventh form; the later family's looks); each row that meets fmt, with fmt's text TOLD by the authors' own Lean function (tested against real Go, not proved from fmt's source: count such statements apart). THE CARD IS WHAT COUNTS. Prove the row's statement (the work); the ties are given (YtcnioemfifogeaaGreatDoorTie.lean); close each card by the builder's one call (the guide's Derived/Test/ToyasCard.lean, 'card_holds'). Laid BY PROGRAM, IN A SANDBOX (cutbox-door.mjs). By AI agents, Wed Nov 11 2026. No macro, syntax, notation, axiom, sorry.
-/
import Derived.Test.YtcnioemfifogeaaGreatDoorRows
import GoSem.ClaimSeven
namespace Go.Proofs.YtcnioemfifogeaaGreatDoor
namespace Rows

/-- THE TIED CARD OF 'becketlaw02.YarnReplays'. -/
def yarnReplaysCard : Claim7 := { stood := { row := yarnReplaysRow, standIns := [], harness := (true, "f498a22b890d2e420373ecb1e4ec172b51ef978dda05b5bf63dda8e7408034de"), looks := true }, kinds := [], alts := [], laidByText := true, laidKinds := [.data, .data, .data, .data, .sentinel, .sentinel, .pinned], laidTests := true, laidLooks := .later }
def YarnReplaysCardSaid : Prop := Claim7.holds Tryz.pinned (.plain (OpenSpec.ofChange yarnReplaysSpec)) yarnReplaysCard

/-- THE TIED CARD OF 'becketlaw02.YarnEntries'. -/
def yarnEntriesCard : Claim7 := { stood := { row := yarnEntriesRow, standIns := [], harness := (true, "f498a22b890d2e420373ecb1e4ec172b51ef978dda05b5bf63dda8e7408034de"), looks := true }, kinds := [], alts := [], laidByText := true, laidKinds := [.data, .data, .data, .data, .sentinel, .sentinel, .pinned], laidTests := true, laidLooks := .later }
def YarnEntriesCardSaid : Prop := Claim7.holds Tryz.pinned (.plain (OpenSpec.ofChange yarnEntriesSpec)) yarnEntriesCard

/-- THE TIED CARD OF 'becketlaw02.YarnKeeps'. -/
def yarnKeepsCard : Claim7 := { stood := { row := yarnKeepsRow, standIns := [], harness := (true, "f498a22b890d2e420373ecb1e4ec172b51ef978dda05b5bf63dda8e7408034de"), looks := true }, kinds := [], alts := [], laidByText := true, laidKinds := [.data, .data, .data, .data, .sentinel, .sentinel, .pinned], laidTests := true, laidLooks := .later }
def YarnKeepsCardSaid : Prop := Claim7.holds Tryz.pinned (.plain (OpenSpec.ofChange yarnKeepsSpec)) yarnKeepsCard

/-- THE TIED CARD OF 'becketlaw02.YarnFewest'. -/
def yarnFewestCard : Claim7 := { stood := { row := yarnFewestRow, standIns := [], harness := (true, "f498a22b890d2e420373ecb1e4ec172b51ef978dda05b5bf63dda8e7408034de"), looks := true }, kinds := [], alts := [], laidByText := true, laidKinds := [.data, .data, .data, .data, .sentinel, .sentinel, .pinned], laidTests := true, laidLooks := .later }
def YarnFewestCardSaid : Prop := Claim7.holds Tryz.pinned (.plain (OpenSpec.ofChange yarnFewestSpec)) yarnFewestCard

/-- THE TIED CARD OF 'beckettop.TopThimbleStores'. -/
def topThimbleStoresCard : Claim7 := { stood := { row := topThimbleStoresRow, standIns := [], harness := (true, "f498a22b890d2e420373ecb1e4ec172b51ef978dda05b5bf63dda8e7408034de"), looks := true }, kinds := [], alts := [], laidByText := true, laidKinds := [.data, .data, .data, .data, .sentinel, .sentinel, .pinned], laidTests := true, laidLooks := .later }
def TopThimbleStoresCardSaid : Prop := Claim7.holds Tryz.pinned (.plain (OpenSpec.ofChange topThimbleStoresSpec)) topThimbleStoresCard

/-- THE SECOND FORM's CARD OF 'becketlaw02.YarnReplays'. -/
def yarnReplaysUptoCard : Claim7 := { stood := { row := yarnReplaysUptoRow, standIns := [], harness := (true, "f498a22b890d2e420373ecb1e4ec172b51ef978dda05b5bf63dda8e7408034de"), looks := true }, kinds := [], alts := [], laidByText := true, laidKinds := [.data, .data, .data, .data, .sentinel, .sentinel, .pinned], laidTests := true, laidLooks := .later }
def YarnReplaysUptoCardSaid : Prop := Claim7.holds Tryz.pinned (.plain (OpenSpec.upto yarnReplaysSpec)) yarnReplaysUptoCard

/-- THE SECOND FORM's CARD OF 'becketlaw02.YarnEntries'. -/
def yarnEntriesUptoCard : Claim7 := { stood := { row := yarnEntriesUptoRow, standIns := [], harness := (true, "f498a22b890d2e420373ecb1e4ec172b51ef978dda05b5bf63dda8e7408034de"), looks := true }, kinds := [], alts := [], laidByText := true, laidKinds := [.data, .data, .data, .data, .sentinel, .sentinel, .pinned], laidTests := true, laidLooks := .later }
def YarnEntriesUptoCardSaid : Prop := Claim7.holds Tryz.pinned (.plain (OpenSpec.upto yarnEntriesSpec)) yarnEntriesUptoCard

/-- THE SECOND FORM's CARD OF 'becketlaw02.YarnKeeps'. -/
def yarnKeepsUptoCard : Claim7 := { stood := { row := yarnKeepsUptoRow, standIns := [], harness := (true, "f498a22b890d2e420373ecb1e4ec172b51ef978dda05b5bf63dda8e7408034de"), looks := true }, kinds := [], alts := [], laidByText := true, laidKinds := [.data, .data, .data, .data, .sentinel, .sentinel, .pinned], laidTests := true, laidLooks := .later }
def YarnKeepsUptoCardSaid : Prop := Claim7.holds Tryz.pinned (.plain (OpenSpec.upto yarnKeepsSpec)) yarnKeepsUptoCard

/-- THE SECOND FORM's CARD OF 'becketlaw02.YarnFewest'. -/
def yarnFewestUptoCard : Claim7 := { stood := { row := yarnFewestUptoRow, standIns := [], harness := (true, "f498a22b890d2e420373ecb1e4ec172b51ef978dda05b5bf63dda8e7408034de"), looks := true }, kinds := [], alts := [], laidByText := true, laidKinds := [.data, .data, .data, .data, .sentinel, .sentinel, .pinned], laidTests := true, laidLooks := .later }
def YarnFewestUptoCardSaid : Prop := Claim7.holds Tryz.pinned (.plain (OpenSpec.upto yarnFewestSpec)) yarnFewestUptoCard

/-- THE SECOND FORM's CARD OF 'beckettop.TopThimbleStores'. -/
def topThimbleStoresUptoCard : Claim7 := { stood := { row := topThimbleStoresUptoRow, standIns := [], harness := (true, "f498a22b890d2e420373ecb1e4ec172b51ef978dda05b5bf63dda8e7408034de"), looks := true }, kinds := [], alts := [], laidByText := true, laidKinds := [.data, .data, .data, .data, .sentinel, .sentinel, .pinned], laidTests := true, laidLooks := .later }
def TopThimbleStoresUptoCardSaid : Prop := Claim7.holds Tryz.pinned (.plain (OpenSpec.upto topThimbleStoresSpec)) topThimbleStoresUptoCard
end Rows
end Go.Proofs.YtcnioemfifogeaaGreatDoor
