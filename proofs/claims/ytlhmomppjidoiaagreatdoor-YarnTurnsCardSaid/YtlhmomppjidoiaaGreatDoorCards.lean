/-
  DERIVED. GIVEN WITH THE SEED: THE CARDS: each row of YtlhmomppjidoiaaGreatDoorRows.lean that lists a variable, with what it lists TIED to the program's text (the seventh form; the later family's looks); each row that meets fmt, with fmt's text TOLD by the authors' own Lean function (tested against real Go, not proved from fmt's source: count such statements apart). THE CARD IS WHAT COUNTS. Prove the row's statement (the work); the ties are given (YtlhmomppjidoiaaGreatDoorTie.lean); close each card by the builder's one call (the guide's Derived/Test/ToyasCard.lean, 'card_holds'). Laid BY PROGRAM, IN A SANDBOX (cutbox-door.mjs). By AI agents, Wed Nov 11 2026. No macro, syntax, notation, axiom, sorry.
-/
import Derived.Test.YtlhmomppjidoiaaGreatDoorRows
import GoSem.ClaimSeven
namespace Go.Proofs.YtlhmomppjidoiaaGreatDoor
namespace Rows

/-- THE TIED CARD OF 'becketlaw02.YarnTwists'. -/
def yarnTwistsCard : Claim7 := { stood := { row := yarnTwistsRow, standIns := [], harness := (true, "6094b28564fc265038163cb73ee803b2976ae9441c729b3df53297cd233b2494"), looks := true }, kinds := [], alts := [], laidByText := true, laidKinds := [.data, .data, .data, .data, .sentinel, .sentinel, .pinned], laidTests := true, laidLooks := .later }
def YarnTwistsCardSaid : Prop := Claim7.holds Tryz.pinned (.plain (OpenSpec.ofChange yarnTwistsSpec)) yarnTwistsCard

/-- THE TIED CARD OF 'becketlaw02.YarnCounts'. -/
def yarnCountsCard : Claim7 := { stood := { row := yarnCountsRow, standIns := [], harness := (true, "6094b28564fc265038163cb73ee803b2976ae9441c729b3df53297cd233b2494"), looks := true }, kinds := [], alts := [], laidByText := true, laidKinds := [.data, .data, .data, .data, .sentinel, .sentinel, .pinned], laidTests := true, laidLooks := .later }
def YarnCountsCardSaid : Prop := Claim7.holds Tryz.pinned (.plain (OpenSpec.ofChange yarnCountsSpec)) yarnCountsCard

/-- THE TIED CARD OF 'becketlaw02.YarnBobbins'. -/
def yarnBobbinsCard : Claim7 := { stood := { row := yarnBobbinsRow, standIns := [], harness := (true, "6094b28564fc265038163cb73ee803b2976ae9441c729b3df53297cd233b2494"), looks := true }, kinds := [], alts := [], laidByText := true, laidKinds := [.data, .data, .data, .data, .sentinel, .sentinel, .pinned], laidTests := true, laidLooks := .later }
def YarnBobbinsCardSaid : Prop := Claim7.holds Tryz.pinned (.plain (OpenSpec.ofChange yarnBobbinsSpec)) yarnBobbinsCard

/-- THE TIED CARD OF 'becketlaw02.YarnTurns'. -/
def yarnTurnsCard : Claim7 := { stood := { row := yarnTurnsRow, standIns := [], harness := (true, "6094b28564fc265038163cb73ee803b2976ae9441c729b3df53297cd233b2494"), looks := true }, kinds := [], alts := [], laidByText := true, laidKinds := [.data, .data, .data, .data, .sentinel, .sentinel, .pinned], laidTests := true, laidLooks := .later }
def YarnTurnsCardSaid : Prop := Claim7.holds Tryz.pinned (.plain (OpenSpec.ofChange yarnTurnsSpec)) yarnTurnsCard

/-- THE SECOND FORM's CARD OF 'becketlaw02.YarnTwists'. -/
def yarnTwistsUptoCard : Claim7 := { stood := { row := yarnTwistsUptoRow, standIns := [], harness := (true, "6094b28564fc265038163cb73ee803b2976ae9441c729b3df53297cd233b2494"), looks := true }, kinds := [], alts := [], laidByText := true, laidKinds := [.data, .data, .data, .data, .sentinel, .sentinel, .pinned], laidTests := true, laidLooks := .later }
def YarnTwistsUptoCardSaid : Prop := Claim7.holds Tryz.pinned (.plain (OpenSpec.upto yarnTwistsSpec)) yarnTwistsUptoCard

/-- THE SECOND FORM's CARD OF 'becketlaw02.YarnCounts'. -/
def yarnCountsUptoCard : Claim7 := { stood := { row := yarnCountsUptoRow, standIns := [], harness := (true, "6094b28564fc265038163cb73ee803b2976ae9441c729b3df53297cd233b2494"), looks := true }, kinds := [], alts := [], laidByText := true, laidKinds := [.data, .data, .data, .data, .sentinel, .sentinel, .pinned], laidTests := true, laidLooks := .later }
def YarnCountsUptoCardSaid : Prop := Claim7.holds Tryz.pinned (.plain (OpenSpec.upto yarnCountsSpec)) yarnCountsUptoCard

/-- THE SECOND FORM's CARD OF 'becketlaw02.YarnBobbins'. -/
def yarnBobbinsUptoCard : Claim7 := { stood := { row := yarnBobbinsUptoRow, standIns := [], harness := (true, "6094b28564fc265038163cb73ee803b2976ae9441c729b3df53297cd233b2494"), looks := true }, kinds := [], alts := [], laidByText := true, laidKinds := [.data, .data, .data, .data, .sentinel, .sentinel, .pinned], laidTests := true, laidLooks := .later }
def YarnBobbinsUptoCardSaid : Prop := Claim7.holds Tryz.pinned (.plain (OpenSpec.upto yarnBobbinsSpec)) yarnBobbinsUptoCard

/-- THE SECOND FORM's CARD OF 'becketlaw02.YarnTurns'. -/
def yarnTurnsUptoCard : Claim7 := { stood := { row := yarnTurnsUptoRow, standIns := [], harness := (true, "6094b28564fc265038163cb73ee803b2976ae9441c729b3df53297cd233b2494"), looks := true }, kinds := [], alts := [], laidByText := true, laidKinds := [.data, .data, .data, .data, .sentinel, .sentinel, .pinned], laidTests := true, laidLooks := .later }
def YarnTurnsUptoCardSaid : Prop := Claim7.holds Tryz.pinned (.plain (OpenSpec.upto yarnTurnsSpec)) yarnTurnsUptoCard
end Rows
end Go.Proofs.YtlhmomppjidoiaaGreatDoor
