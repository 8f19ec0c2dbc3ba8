/-
  DERIVED. GIVEN WITH THE SEED: THE CARDS: each row of YtkdbjocpkfeckaaGreatDoorRows.lean that lists a variable, with what it lists TIED to the program's text (the seventh form; the later family's looks); each row that meets fmt, with fmt's text TOLD by the authors' own Lean function (tested against real Go, not proved from fmt's source: count such statements apart). THE CARD IS WHAT COUNTS. Prove the row's statement (the work); the ties are given (YtkdbjocpkfeckaaGreatDoorTie.lean); close each card by the builder's one call (the guide's Derived/Test/ToyasCard.lean, 'card_holds'). Laid BY PROGRAM, IN A SANDBOX (cutbox-door.mjs). By AI agents, Wed Nov 11 2026. No macro, syntax, notation, axiom, sorry.
-/
import Derived.Test.YtkdbjocpkfeckaaGreatDoorRows
import GoSem.ClaimSeven
namespace Go.Proofs.YtkdbjocpkfeckaaGreatDoor
namespace Rows

/-- THE TIED CARD OF 'becketlaw05.BraidTurns'. -/
def braidTurnsCard : Claim7 := { stood := { row := braidTurnsRow, standIns := [], harness := (true, "7f6ac6a8b01517380b4872b255325a72fa0fc754db90ceb71cbe1496735d39d8"), looks := true }, kinds := [], alts := [], laidByText := true, laidKinds := [.data, .data, .data, .data, .sentinel, .sentinel, .pinned], laidTests := true, laidLooks := .later }
def BraidTurnsCardSaid : Prop := Claim7.holds Tryz.pinned (.plain (OpenSpec.ofChange braidTurnsSpec)) braidTurnsCard

/-- THE TIED CARD OF 'becketlaw05.BraidEither'. -/
def braidEitherCard : Claim7 := { stood := { row := braidEitherRow, standIns := [], harness := (true, "7f6ac6a8b01517380b4872b255325a72fa0fc754db90ceb71cbe1496735d39d8"), looks := true }, kinds := [], alts := [], laidByText := true, laidKinds := [.data, .data, .data, .data, .sentinel, .sentinel, .pinned], laidTests := true, laidLooks := .later }
def BraidEitherCardSaid : Prop := Claim7.holds Tryz.pinned (.plain (OpenSpec.ofChange braidEitherSpec)) braidEitherCard

/-- THE TIED CARD OF 'becketlaw05.BraidSums'. -/
def braidSumsCard : Claim7 := { stood := { row := braidSumsRow, standIns := [], harness := (true, "7f6ac6a8b01517380b4872b255325a72fa0fc754db90ceb71cbe1496735d39d8"), looks := true }, kinds := [], alts := [], laidByText := true, laidKinds := [.data, .data, .data, .data, .sentinel, .sentinel, .pinned], laidTests := true, laidLooks := .later }
def BraidSumsCardSaid : Prop := Claim7.holds Tryz.pinned (.plain (OpenSpec.ofChange braidSumsSpec)) braidSumsCard

/-- THE SECOND FORM's CARD OF 'becketlaw05.BraidTurns'. -/
def braidTurnsUptoCard : Claim7 := { stood := { row := braidTurnsUptoRow, standIns := [], harness := (true, "7f6ac6a8b01517380b4872b255325a72fa0fc754db90ceb71cbe1496735d39d8"), looks := true }, kinds := [], alts := [], laidByText := true, laidKinds := [.data, .data, .data, .data, .sentinel, .sentinel, .pinned], laidTests := true, laidLooks := .later }
def BraidTurnsUptoCardSaid : Prop := Claim7.holds Tryz.pinned (.plain (OpenSpec.upto braidTurnsSpec)) braidTurnsUptoCard

/-- THE SECOND FORM's CARD OF 'becketlaw05.BraidEither'. -/
def braidEitherUptoCard : Claim7 := { stood := { row := braidEitherUptoRow, standIns := [], harness := (true, "7f6ac6a8b01517380b4872b255325a72fa0fc754db90ceb71cbe1496735d39d8"), looks := true }, kinds := [], alts := [], laidByText := true, laidKinds := [.data, .data, .data, .data, .sentinel, .sentinel, .pinned], laidTests := true, laidLooks := .later }
def BraidEitherUptoCardSaid : Prop := Claim7.holds Tryz.pinned (.plain (OpenSpec.upto braidEitherSpec)) braidEitherUptoCard

/-- THE SECOND FORM's CARD OF 'becketlaw05.BraidSums'. -/
def braidSumsUptoCard : Claim7 := { stood := { row := braidSumsUptoRow, standIns := [], harness := (true, "7f6ac6a8b01517380b4872b255325a72fa0fc754db90ceb71cbe1496735d39d8"), looks := true }, kinds := [], alts := [], laidByText := true, laidKinds := [.data, .data, .data, .data, .sentinel, .sentinel, .pinned], laidTests := true, laidLooks := .later }
def BraidSumsUptoCardSaid : Prop := Claim7.holds Tryz.pinned (.plain (OpenSpec.upto braidSumsSpec)) braidSumsUptoCard
end Rows
end Go.Proofs.YtkdbjocpkfeckaaGreatDoor
