/-
  DERIVED. GIVEN WITH THE SEED: THE CARDS: each row of YthgioiakbbhonaaGreatDoorRows.lean that lists a variable, with what it lists TIED to the program's text (the seventh form; the later family's looks); each row that meets fmt, with fmt's text TOLD by the authors' own Lean function (tested against real Go, not proved from fmt's source: count such statements apart). THE CARD IS WHAT COUNTS. Prove the row's statement (the work); the ties are given (YthgioiakbbhonaaGreatDoorTie.lean); close each card by the builder's one call (the guide's Derived/Test/ToyasCard.lean, 'card_holds'). Laid BY PROGRAM, IN A SANDBOX (cutbox-door.mjs). By AI agents, Wed Nov 11 2026. No macro, syntax, notation, axiom, sorry.
-/
import Derived.Test.YthgioiakbbhonaaGreatDoorRows
import GoSem.ClaimSeven
namespace Go.Proofs.YthgioiakbbhonaaGreatDoor
namespace Rows

/-- THE TIED CARD OF 'becketlaw01.NumberEither'. -/
def numberEitherCard : Claim7 := { stood := { row := numberEitherRow, standIns := [], harness := (true, "d03e9b39f1b732c920b2160c8561c9795184f28f6a112caee72b9cef7c0fe3a8"), looks := true }, kinds := [], alts := [], laidByText := true, laidKinds := [.data, .data, .data, .data, .sentinel, .sentinel, .pinned], laidTests := true, laidLooks := .later }
def NumberEitherCardSaid : Prop := Claim7.holds Tryz.pinned (.plain (OpenSpec.ofChange numberEitherSpec)) numberEitherCard

/-- THE SECOND FORM's CARD OF 'becketlaw01.NumberEither'. -/
def numberEitherUptoCard : Claim7 := { stood := { row := numberEitherUptoRow, standIns := [], harness := (true, "d03e9b39f1b732c920b2160c8561c9795184f28f6a112caee72b9cef7c0fe3a8"), looks := true }, kinds := [], alts := [], laidByText := true, laidKinds := [.data, .data, .data, .data, .sentinel, .sentinel, .pinned], laidTests := true, laidLooks := .later }
def NumberEitherUptoCardSaid : Prop := Claim7.holds Tryz.pinned (.plain (OpenSpec.upto numberEitherSpec)) numberEitherUptoCard
end Rows
end Go.Proofs.YthgioiakbbhonaaGreatDoor
