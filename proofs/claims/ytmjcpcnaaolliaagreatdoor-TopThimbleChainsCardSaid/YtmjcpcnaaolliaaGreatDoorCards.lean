/-
  DERIVED. GIVEN WITH THE SEED: THE CARDS: each row of YtmjcpcnaaolliaaGreatDoorRows.lean that lists a variable, with what it lists TIED to the program's text (the seventh form; the later family's looks); each row that meets fmt, with fmt's text TOLD by the authors' own Lean function (tested against real Go, not proved from fmt's source: count such statements apart). THE CARD IS WHAT COUNTS. Prove the row's statement (the work); the ties are given (YtmjcpcnaaolliaaGreatDoorTie.lean); close each card by the builder's one call (the guide's Derived/Test/ToyasCard.lean, 'card_holds'). Laid BY PROGRAM, IN A SANDBOX (cutbox-door.mjs). By AI agents, Wed Nov 11 2026. No macro, syntax, notation, axiom, sorry.
-/
import Derived.Test.YtmjcpcnaaolliaaGreatDoorRows
import GoSem.ClaimSeven
namespace Go.Proofs.YtmjcpcnaaolliaaGreatDoor
namespace Rows

/-- THE TIED CARD OF 'becketlaw01.NumberCircles'. -/
def numberCirclesCard : Claim7 := { stood := { row := numberCirclesRow, standIns := [], harness := (true, "349add13393374e0dbf040f84ed2f0f168228874c23962742b893f61eb3c1f18"), looks := true }, kinds := [], alts := [], laidByText := true, laidKinds := [.data, .data, .data, .data, .sentinel, .sentinel, .pinned], laidTests := true, laidLooks := .later }
def NumberCirclesCardSaid : Prop := Claim7.holds Tryz.pinned (.plain (OpenSpec.ofChange numberCirclesSpec)) numberCirclesCard

/-- THE TIED CARD OF 'beckettop.TopStropFractions'. -/
def topStropFractionsCard : Claim7 := { stood := { row := topStropFractionsRow, standIns := [], harness := (true, "349add13393374e0dbf040f84ed2f0f168228874c23962742b893f61eb3c1f18"), looks := true }, kinds := [], alts := [], laidByText := true, laidKinds := [.data, .data, .data, .data, .sentinel, .sentinel, .pinned], laidTests := true, laidLooks := .later }
def TopStropFractionsCardSaid : Prop := Claim7.holds Tryz.pinned (.plain (OpenSpec.ofChange topStropFractionsSpec)) topStropFractionsCard

/-- THE TIED CARD OF 'beckettop.TopThimbleChains'. -/
def topThimbleChainsCard : Claim7 := { stood := { row := topThimbleChainsRow, standIns := [], harness := (true, "349add13393374e0dbf040f84ed2f0f168228874c23962742b893f61eb3c1f18"), looks := true }, kinds := [], alts := [], laidByText := true, laidKinds := [.data, .data, .data, .data, .sentinel, .sentinel, .pinned], laidTests := true, laidLooks := .later }
def TopThimbleChainsCardSaid : Prop := Claim7.holds Tryz.pinned (.plain (OpenSpec.ofChange topThimbleChainsSpec)) topThimbleChainsCard

/-- THE SECOND FORM's CARD OF 'becketlaw01.NumberCircles'. -/
def numberCirclesUptoCard : Claim7 := { stood := { row := numberCirclesUptoRow, standIns := [], harness := (true, "349add13393374e0dbf040f84ed2f0f168228874c23962742b893f61eb3c1f18"), looks := true }, kinds := [], alts := [], laidByText := true, laidKinds := [.data, .data, .data, .data, .sentinel, .sentinel, .pinned], laidTests := true, laidLooks := .later }
def NumberCirclesUptoCardSaid : Prop := Claim7.holds Tryz.pinned (.plain (OpenSpec.upto numberCirclesSpec)) numberCirclesUptoCard

/-- THE SECOND FORM's CARD OF 'beckettop.TopStropFractions'. -/
def topStropFractionsUptoCard : Claim7 := { stood := { row := topStropFractionsUptoRow, standIns := [], harness := (true, "349add13393374e0dbf040f84ed2f0f168228874c23962742b893f61eb3c1f18"), looks := true }, kinds := [], alts := [], laidByText := true, laidKinds := [.data, .data, .data, .data, .sentinel, .sentinel, .pinned], laidTests := true, laidLooks := .later }
def TopStropFractionsUptoCardSaid : Prop := Claim7.holds Tryz.pinned (.plain (OpenSpec.upto topStropFractionsSpec)) topStropFractionsUptoCard

/-- THE SECOND FORM's CARD OF 'beckettop.TopThimbleChains'. -/
def topThimbleChainsUptoCard : Claim7 := { stood := { row := topThimbleChainsUptoRow, standIns := [], harness := (true, "349add13393374e0dbf040f84ed2f0f168228874c23962742b893f61eb3c1f18"), looks := true }, kinds := [], alts := [], laidByText := true, laidKinds := [.data, .data, .data, .data, .sentinel, .sentinel, .pinned], laidTests := true, laidLooks := .later }
def TopThimbleChainsUptoCardSaid : Prop := Claim7.holds Tryz.pinned (.plain (OpenSpec.upto topThimbleChainsSpec)) topThimbleChainsUptoCard
end Rows
end Go.Proofs.YtmjcpcnaaolliaaGreatDoor
