/-
  DERIVED. GIVEN WITH THE SEED: THE CARDS: each row of YtfffkfkghchbdaaGreatDoorRows.lean that lists a variable, with what it lists TIED to the program's text (the seventh form; the later family's looks); each row that meets fmt, with fmt's text TOLD by the authors' own Lean function (tested against real Go, not proved from fmt's source: count such statements apart). THE CARD IS WHAT COUNTS. Prove the row's statement (the work); the ties are given (YtfffkfkghchbdaaGreatDoorTie.lean); close each card by the builder's one call (the guide's Derived/Test/ToyasCard.lean, 'card_holds'). Laid BY PROGRAM, IN A SANDBOX (cutbox-door.mjs). By AI agents, Wed Nov 11 2026. No macro, syntax, notation, axiom, sorry.
-/
import Derived.Test.YtfffkfkghchbdaaGreatDoorRows
import GoSem.ClaimSeven
namespace Go.Proofs.YtfffkfkghchbdaaGreatDoor
namespace Rows

/-- THE TIED CARD OF 'becketlaw02.YarnLots'. -/
def yarnLotsCard : Claim7 := { stood := { row := yarnLotsRow, standIns := [], harness := (true, "97de74b09444e459b02ad67c78a9e7f1428abf413f3495c77505db207f8a69f0"), looks := true }, kinds := [], alts := [], laidByText := true, laidKinds := [.data, .data, .data, .data, .sentinel, .sentinel, .pinned], laidTests := true, laidLooks := .later }
def YarnLotsCardSaid : Prop := Claim7.holds Tryz.pinned (.plain (OpenSpec.ofChange yarnLotsSpec)) yarnLotsCard

/-- THE TIED CARD OF 'beckettop.TopStropOrders'. -/
def topStropOrdersCard : Claim7 := { stood := { row := topStropOrdersRow, standIns := [], harness := (true, "97de74b09444e459b02ad67c78a9e7f1428abf413f3495c77505db207f8a69f0"), looks := true }, kinds := [], alts := [], laidByText := true, laidKinds := [.data, .data, .data, .data, .sentinel, .sentinel, .pinned], laidTests := true, laidLooks := .later }
def TopStropOrdersCardSaid : Prop := Claim7.holds Tryz.pinned (.plain (OpenSpec.ofChange topStropOrdersSpec)) topStropOrdersCard

/-- THE SECOND FORM's CARD OF 'becketlaw02.YarnLots'. -/
def yarnLotsUptoCard : Claim7 := { stood := { row := yarnLotsUptoRow, standIns := [], harness := (true, "97de74b09444e459b02ad67c78a9e7f1428abf413f3495c77505db207f8a69f0"), looks := true }, kinds := [], alts := [], laidByText := true, laidKinds := [.data, .data, .data, .data, .sentinel, .sentinel, .pinned], laidTests := true, laidLooks := .later }
def YarnLotsUptoCardSaid : Prop := Claim7.holds Tryz.pinned (.plain (OpenSpec.upto yarnLotsSpec)) yarnLotsUptoCard

/-- THE SECOND FORM's CARD OF 'beckettop.TopStropOrders'. -/
def topStropOrdersUptoCard : Claim7 := { stood := { row := topStropOrdersUptoRow, standIns := [], harness := (true, "97de74b09444e459b02ad67c78a9e7f1428abf413f3495c77505db207f8a69f0"), looks := true }, kinds := [], alts := [], laidByText := true, laidKinds := [.data, .data, .data, .data, .sentinel, .sentinel, .pinned], laidTests := true, laidLooks := .later }
def TopStropOrdersUptoCardSaid : Prop := Claim7.holds Tryz.pinned (.plain (OpenSpec.upto topStropOrdersSpec)) topStropOrdersUptoCard
end Rows
end Go.Proofs.YtfffkfkghchbdaaGreatDoor
