/-
  DERIVED. GIVEN WITH THE SEED: THE CARDS: each row of YtjecjkbpopmhjaaGreatDoorRows.lean that lists a variable, with what it lists TIED to the program's text (the seventh form; the later family's looks); each row that meets fmt, with fmt's text TOLD by the authors' own Lean function (tested against real Go, not proved from fmt's source: count such statements apart). THE CARD IS WHAT COUNTS. Prove the row's statement (the work); the ties are given (YtjecjkbpopmhjaaGreatDoorTie.lean); close each card by the builder's one call (the guide's Derived/Test/ToyasCard.lean, 'card_holds'). Laid BY PROGRAM, IN A SANDBOX (cutbox-door.mjs). By AI agents, Wed Nov 11 2026. No macro, syntax, notation, axiom, sorry.
-/
import Derived.Test.YtjecjkbpopmhjaaGreatDoorRows
import GoSem.ClaimSeven
namespace Go.Proofs.YtjecjkbpopmhjaaGreatDoor
namespace Rows

/-- THE TIED CARD OF 'beckettop.TopStropFractions'. -/
def topStropFractionsCard : Claim7 := { stood := { row := topStropFractionsRow, standIns := [], harness := (true, "0d5ff92d01207993450620528026e71bbb58dffd8df369cb971ef99684472c4f"), looks := true }, kinds := [], alts := [], laidByText := true, laidKinds := [.data, .data, .data, .data, .sentinel, .sentinel, .pinned], laidTests := true, laidLooks := .later }
def TopStropFractionsCardSaid : Prop := Claim7.holds Tryz.pinned (.plain (OpenSpec.ofChange topStropFractionsSpec)) topStropFractionsCard

/-- THE TIED CARD OF 'beckettop.TopStropPis'. -/
def topStropPisCard : Claim7 := { stood := { row := topStropPisRow, standIns := [], harness := (true, "0d5ff92d01207993450620528026e71bbb58dffd8df369cb971ef99684472c4f"), looks := true }, kinds := [], alts := [], laidByText := true, laidKinds := [.data, .data, .data, .data, .sentinel, .sentinel, .pinned], laidTests := true, laidLooks := .later }
def TopStropPisCardSaid : Prop := Claim7.holds Tryz.pinned (.plain (OpenSpec.ofChange topStropPisSpec)) topStropPisCard

/-- THE SECOND FORM's CARD OF 'beckettop.TopStropFractions'. -/
def topStropFractionsUptoCard : Claim7 := { stood := { row := topStropFractionsUptoRow, standIns := [], harness := (true, "0d5ff92d01207993450620528026e71bbb58dffd8df369cb971ef99684472c4f"), looks := true }, kinds := [], alts := [], laidByText := true, laidKinds := [.data, .data, .data, .data, .sentinel, .sentinel, .pinned], laidTests := true, laidLooks := .later }
def TopStropFractionsUptoCardSaid : Prop := Claim7.holds Tryz.pinned (.plain (OpenSpec.upto topStropFractionsSpec)) topStropFractionsUptoCard

/-- THE SECOND FORM's CARD OF 'beckettop.TopStropPis'. -/
def topStropPisUptoCard : Claim7 := { stood := { row := topStropPisUptoRow, standIns := [], harness := (true, "0d5ff92d01207993450620528026e71bbb58dffd8df369cb971ef99684472c4f"), looks := true }, kinds := [], alts := [], laidByText := true, laidKinds := [.data, .data, .data, .data, .sentinel, .sentinel, .pinned], laidTests := true, laidLooks := .later }
def TopStropPisUptoCardSaid : Prop := Claim7.holds Tryz.pinned (.plain (OpenSpec.upto topStropPisSpec)) topStropPisUptoCard
end Rows
end Go.Proofs.YtjecjkbpopmhjaaGreatDoor
