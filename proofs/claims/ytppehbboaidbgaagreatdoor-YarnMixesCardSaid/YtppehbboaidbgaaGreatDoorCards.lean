/-
  DERIVED. GIVEN WITH THE SEED: THE CARDS: each row of YtppehbboaidbgaaGreatDoorRows.lean that lists a variable, with what it lists TIED to the program's text (the seventh form; the later family's looks); each row that meets fmt, with fmt's text TOLD by the authors' own Lean function (tested against real Go, not proved from fmt's source: count such statements apart). THE CARD IS WHAT COUNTS. Prove the row's statement (the work); the ties are given (YtppehbboaidbgaaGreatDoorTie.lean); close each card by the builder's one call (the guide's Derived/Test/ToyasCard.lean, 'card_holds'). Laid BY PROGRAM, IN A SANDBOX (cutbox-door.mjs). By AI agents, Wed Nov 11 2026. No macro, syntax, notation, axiom, sorry.
-/
import Derived.Test.YtppehbboaidbgaaGreatDoorRows
import GoSem.ClaimSeven
namespace Go.Proofs.YtppehbboaidbgaaGreatDoor
namespace Rows

/-- THE TIED CARD OF 'becketlaw02.YarnPlies'. -/
def yarnPliesCard : Claim7 := { stood := { row := yarnPliesRow, standIns := [], harness := (true, "b2923794133e9aa39aa7b602848db2abe171d63ce7f0ad60fe20bddd51e42e51"), looks := true }, kinds := [], alts := [], laidByText := true, laidKinds := [.data, .data, .data, .data, .sentinel, .sentinel, .pinned], laidTests := true, laidLooks := .later }
def YarnPliesCardSaid : Prop := Claim7.holds Tryz.pinned (.plain (OpenSpec.ofChange yarnPliesSpec)) yarnPliesCard

/-- THE TIED CARD OF 'becketlaw02.YarnMixes'. -/
def yarnMixesCard : Claim7 := { stood := { row := yarnMixesRow, standIns := [], harness := (true, "b2923794133e9aa39aa7b602848db2abe171d63ce7f0ad60fe20bddd51e42e51"), looks := true }, kinds := [], alts := [], laidByText := true, laidKinds := [.data, .data, .data, .data, .sentinel, .sentinel, .pinned], laidTests := true, laidLooks := .later }
def YarnMixesCardSaid : Prop := Claim7.holds Tryz.pinned (.plain (OpenSpec.ofChange yarnMixesSpec)) yarnMixesCard

/-- THE TIED CARD OF 'beckettop.TopThimbleGroups'. -/
def topThimbleGroupsCard : Claim7 := { stood := { row := topThimbleGroupsRow, standIns := [], harness := (true, "b2923794133e9aa39aa7b602848db2abe171d63ce7f0ad60fe20bddd51e42e51"), looks := true }, kinds := [], alts := [], laidByText := true, laidKinds := [.data, .data, .data, .data, .sentinel, .sentinel, .pinned], laidTests := true, laidLooks := .later }
def TopThimbleGroupsCardSaid : Prop := Claim7.holds Tryz.pinned (.plain (OpenSpec.ofChange topThimbleGroupsSpec)) topThimbleGroupsCard

/-- THE SECOND FORM's CARD OF 'becketlaw02.YarnPlies'. -/
def yarnPliesUptoCard : Claim7 := { stood := { row := yarnPliesUptoRow, standIns := [], harness := (true, "b2923794133e9aa39aa7b602848db2abe171d63ce7f0ad60fe20bddd51e42e51"), looks := true }, kinds := [], alts := [], laidByText := true, laidKinds := [.data, .data, .data, .data, .sentinel, .sentinel, .pinned], laidTests := true, laidLooks := .later }
def YarnPliesUptoCardSaid : Prop := Claim7.holds Tryz.pinned (.plain (OpenSpec.upto yarnPliesSpec)) yarnPliesUptoCard

/-- THE SECOND FORM's CARD OF 'becketlaw02.YarnMixes'. -/
def yarnMixesUptoCard : Claim7 := { stood := { row := yarnMixesUptoRow, standIns := [], harness := (true, "b2923794133e9aa39aa7b602848db2abe171d63ce7f0ad60fe20bddd51e42e51"), looks := true }, kinds := [], alts := [], laidByText := true, laidKinds := [.data, .data, .data, .data, .sentinel, .sentinel, .pinned], laidTests := true, laidLooks := .later }
def YarnMixesUptoCardSaid : Prop := Claim7.holds Tryz.pinned (.plain (OpenSpec.upto yarnMixesSpec)) yarnMixesUptoCard

/-- THE SECOND FORM's CARD OF 'beckettop.TopThimbleGroups'. -/
def topThimbleGroupsUptoCard : Claim7 := { stood := { row := topThimbleGroupsUptoRow, standIns := [], harness := (true, "b2923794133e9aa39aa7b602848db2abe171d63ce7f0ad60fe20bddd51e42e51"), looks := true }, kinds := [], alts := [], laidByText := true, laidKinds := [.data, .data, .data, .data, .sentinel, .sentinel, .pinned], laidTests := true, laidLooks := .later }
def TopThimbleGroupsUptoCardSaid : Prop := Claim7.holds Tryz.pinned (.plain (OpenSpec.upto topThimbleGroupsSpec)) topThimbleGroupsUptoCard
end Rows
end Go.Proofs.YtppehbboaidbgaaGreatDoor
