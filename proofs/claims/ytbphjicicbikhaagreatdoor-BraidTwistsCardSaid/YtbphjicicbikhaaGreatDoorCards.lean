/-
  DERIVED. GIVEN WITH THE SEED: THE CARDS: each row of YtbphjicicbikhaaGreatDoorRows.lean that lists a variable, with what it lists TIED to the program's text (the seventh form; the later family's looks); each row that meets fmt, with fmt's text TOLD by the authors' own Lean function (tested against real Go, not proved from fmt's source: count such statements apart). THE CARD IS WHAT COUNTS. Prove the row's statement (the work); the ties are given (YtbphjicicbikhaaGreatDoorTie.lean); close each card by the builder's one call (the guide's Derived/Test/ToyasCard.lean, 'card_holds'). Laid BY PROGRAM, IN A SANDBOX (cutbox-door.mjs). By AI agents, Wed Nov 11 2026. No macro, syntax, notation, axiom, sorry.
-/
import Derived.Test.YtbphjicicbikhaaGreatDoorRows
import GoSem.ClaimSeven
namespace Go.Proofs.YtbphjicicbikhaaGreatDoor
namespace Rows

/-- THE TIED CARD OF 'becketlaw05.BraidLinks'. -/
def braidLinksCard : Claim7 := { stood := { row := braidLinksRow, standIns := [], harness := (true, "2f0af88e45374998b1109244d7ddc5a074bc688d613e10208c5d18326ce94335"), looks := true }, kinds := [], alts := [], laidByText := true, laidKinds := [.data, .data, .data, .data, .sentinel, .sentinel, .pinned], laidTests := true, laidLooks := .later }
def BraidLinksCardSaid : Prop := Claim7.holds Tryz.pinned (.plain (OpenSpec.ofChange braidLinksSpec)) braidLinksCard

/-- THE TIED CARD OF 'becketlaw05.BraidBuraus'. -/
def braidBurausCard : Claim7 := { stood := { row := braidBurausRow, standIns := [], harness := (true, "2f0af88e45374998b1109244d7ddc5a074bc688d613e10208c5d18326ce94335"), looks := true }, kinds := [], alts := [], laidByText := true, laidKinds := [.data, .data, .data, .data, .sentinel, .sentinel, .pinned], laidTests := true, laidLooks := .later }
def BraidBurausCardSaid : Prop := Claim7.holds Tryz.pinned (.plain (OpenSpec.ofChange braidBurausSpec)) braidBurausCard

/-- THE TIED CARD OF 'becketlaw05.BraidProofs'. -/
def braidProofsCard : Claim7 := { stood := { row := braidProofsRow, standIns := [], harness := (true, "2f0af88e45374998b1109244d7ddc5a074bc688d613e10208c5d18326ce94335"), looks := true }, kinds := [], alts := [], laidByText := true, laidKinds := [.data, .data, .data, .data, .sentinel, .sentinel, .pinned], laidTests := true, laidLooks := .later }
def BraidProofsCardSaid : Prop := Claim7.holds Tryz.pinned (.plain (OpenSpec.ofChange braidProofsSpec)) braidProofsCard

/-- THE TIED CARD OF 'becketlaw05.BraidTurns'. -/
def braidTurnsCard : Claim7 := { stood := { row := braidTurnsRow, standIns := [], harness := (true, "2f0af88e45374998b1109244d7ddc5a074bc688d613e10208c5d18326ce94335"), looks := true }, kinds := [], alts := [], laidByText := true, laidKinds := [.data, .data, .data, .data, .sentinel, .sentinel, .pinned], laidTests := true, laidLooks := .later }
def BraidTurnsCardSaid : Prop := Claim7.holds Tryz.pinned (.plain (OpenSpec.ofChange braidTurnsSpec)) braidTurnsCard

/-- THE TIED CARD OF 'becketlaw05.BraidEither'. -/
def braidEitherCard : Claim7 := { stood := { row := braidEitherRow, standIns := [], harness := (true, "2f0af88e45374998b1109244d7ddc5a074bc688d613e10208c5d18326ce94335"), looks := true }, kinds := [], alts := [], laidByText := true, laidKinds := [.data, .data, .data, .data, .sentinel, .sentinel, .pinned], laidTests := true, laidLooks := .later }
def BraidEitherCardSaid : Prop := Claim7.holds Tryz.pinned (.plain (OpenSpec.ofChange braidEitherSpec)) braidEitherCard

/-- THE TIED CARD OF 'becketlaw05.BraidTwists'. -/
def braidTwistsCard : Claim7 := { stood := { row := braidTwistsRow, standIns := [], harness := (true, "2f0af88e45374998b1109244d7ddc5a074bc688d613e10208c5d18326ce94335"), looks := true }, kinds := [], alts := [], laidByText := true, laidKinds := [.data, .data, .data, .data, .sentinel, .sentinel, .pinned], laidTests := true, laidLooks := .later }
def BraidTwistsCardSaid : Prop := Claim7.holds Tryz.pinned (.plain (OpenSpec.ofChange braidTwistsSpec)) braidTwistsCard

/-- THE TIED CARD OF 'becketlaw05.BraidSums'. -/
def braidSumsCard : Claim7 := { stood := { row := braidSumsRow, standIns := [], harness := (true, "2f0af88e45374998b1109244d7ddc5a074bc688d613e10208c5d18326ce94335"), looks := true }, kinds := [], alts := [], laidByText := true, laidKinds := [.data, .data, .data, .data, .sentinel, .sentinel, .pinned], laidTests := true, laidLooks := .later }
def BraidSumsCardSaid : Prop := Claim7.holds Tryz.pinned (.plain (OpenSpec.ofChange braidSumsSpec)) braidSumsCard

/-- THE SECOND FORM's CARD OF 'becketlaw05.BraidLinks'. -/
def braidLinksUptoCard : Claim7 := { stood := { row := braidLinksUptoRow, standIns := [], harness := (true, "2f0af88e45374998b1109244d7ddc5a074bc688d613e10208c5d18326ce94335"), looks := true }, kinds := [], alts := [], laidByText := true, laidKinds := [.data, .data, .data, .data, .sentinel, .sentinel, .pinned], laidTests := true, laidLooks := .later }
def BraidLinksUptoCardSaid : Prop := Claim7.holds Tryz.pinned (.plain (OpenSpec.upto braidLinksSpec)) braidLinksUptoCard

/-- THE SECOND FORM's CARD OF 'becketlaw05.BraidBuraus'. -/
def braidBurausUptoCard : Claim7 := { stood := { row := braidBurausUptoRow, standIns := [], harness := (true, "2f0af88e45374998b1109244d7ddc5a074bc688d613e10208c5d18326ce94335"), looks := true }, kinds := [], alts := [], laidByText := true, laidKinds := [.data, .data, .data, .data, .sentinel, .sentinel, .pinned], laidTests := true, laidLooks := .later }
def BraidBurausUptoCardSaid : Prop := Claim7.holds Tryz.pinned (.plain (OpenSpec.upto braidBurausSpec)) braidBurausUptoCard

/-- THE SECOND FORM's CARD OF 'becketlaw05.BraidProofs'. -/
def braidProofsUptoCard : Claim7 := { stood := { row := braidProofsUptoRow, standIns := [], harness := (true, "2f0af88e45374998b1109244d7ddc5a074bc688d613e10208c5d18326ce94335"), looks := true }, kinds := [], alts := [], laidByText := true, laidKinds := [.data, .data, .data, .data, .sentinel, .sentinel, .pinned], laidTests := true, laidLooks := .later }
def BraidProofsUptoCardSaid : Prop := Claim7.holds Tryz.pinned (.plain (OpenSpec.upto braidProofsSpec)) braidProofsUptoCard

/-- THE SECOND FORM's CARD OF 'becketlaw05.BraidTurns'. -/
def braidTurnsUptoCard : Claim7 := { stood := { row := braidTurnsUptoRow, standIns := [], harness := (true, "2f0af88e45374998b1109244d7ddc5a074bc688d613e10208c5d18326ce94335"), looks := true }, kinds := [], alts := [], laidByText := true, laidKinds := [.data, .data, .data, .data, .sentinel, .sentinel, .pinned], laidTests := true, laidLooks := .later }
def BraidTurnsUptoCardSaid : Prop := Claim7.holds Tryz.pinned (.plain (OpenSpec.upto braidTurnsSpec)) braidTurnsUptoCard

/-- THE SECOND FORM's CARD OF 'becketlaw05.BraidEither'. -/
def braidEitherUptoCard : Claim7 := { stood := { row := braidEitherUptoRow, standIns := [], harness := (true, "2f0af88e45374998b1109244d7ddc5a074bc688d613e10208c5d18326ce94335"), looks := true }, kinds := [], alts := [], laidByText := true, laidKinds := [.data, .data, .data, .data, .sentinel, .sentinel, .pinned], laidTests := true, laidLooks := .later }
def BraidEitherUptoCardSaid : Prop := Claim7.holds Tryz.pinned (.plain (OpenSpec.upto braidEitherSpec)) braidEitherUptoCard

/-- THE SECOND FORM's CARD OF 'becketlaw05.BraidTwists'. -/
def braidTwistsUptoCard : Claim7 := { stood := { row := braidTwistsUptoRow, standIns := [], harness := (true, "2f0af88e45374998b1109244d7ddc5a074bc688d613e10208c5d18326ce94335"), looks := true }, kinds := [], alts := [], laidByText := true, laidKinds := [.data, .data, .data, .data, .sentinel, .sentinel, .pinned], laidTests := true, laidLooks := .later }
def BraidTwistsUptoCardSaid : Prop := Claim7.holds Tryz.pinned (.plain (OpenSpec.upto braidTwistsSpec)) braidTwistsUptoCard

/-- THE SECOND FORM's CARD OF 'becketlaw05.BraidSums'. -/
def braidSumsUptoCard : Claim7 := { stood := { row := braidSumsUptoRow, standIns := [], harness := (true, "2f0af88e45374998b1109244d7ddc5a074bc688d613e10208c5d18326ce94335"), looks := true }, kinds := [], alts := [], laidByText := true, laidKinds := [.data, .data, .data, .data, .sentinel, .sentinel, .pinned], laidTests := true, laidLooks := .later }
def BraidSumsUptoCardSaid : Prop := Claim7.holds Tryz.pinned (.plain (OpenSpec.upto braidSumsSpec)) braidSumsUptoCard
end Rows
end Go.Proofs.YtbphjicicbikhaaGreatDoor
