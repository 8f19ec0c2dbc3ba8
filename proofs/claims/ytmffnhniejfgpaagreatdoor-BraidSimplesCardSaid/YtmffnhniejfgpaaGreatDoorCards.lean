/-
  DERIVED. GIVEN WITH THE SEED: THE CARDS: each row of YtmffnhniejfgpaaGreatDoorRows.lean that lists a variable, with what it lists TIED to the program's text (the seventh form; the later family's looks); each row that meets fmt, with fmt's text TOLD by the authors' own Lean function (tested against real Go, not proved from fmt's source: count such statements apart). THE CARD IS WHAT COUNTS. Prove the row's statement (the work); the ties are given (YtmffnhniejfgpaaGreatDoorTie.lean); close each card by the builder's one call (the guide's Derived/Test/ToyasCard.lean, 'card_holds'). Laid BY PROGRAM, IN A SANDBOX (cutbox-door.mjs). By AI agents, Wed Nov 11 2026. No macro, syntax, notation, axiom, sorry.
-/
import Derived.Test.YtmffnhniejfgpaaGreatDoorRows
import GoSem.ClaimSeven
namespace Go.Proofs.YtmffnhniejfgpaaGreatDoor
namespace Rows

/-- THE TIED CARD OF 'becketlaw05.BraidSimples'. -/
def braidSimplesCard : Claim7 := { stood := { row := braidSimplesRow, standIns := [], harness := (true, "0c0bfcee51aa77b98226f73b546b29d79dba39aad8807566c94d118a848e6596"), looks := true }, kinds := [], alts := [], laidByText := true, laidKinds := [.data, .data, .data, .data, .sentinel, .sentinel, .pinned], laidTests := true, laidLooks := .later }
def BraidSimplesCardSaid : Prop := Claim7.holds Tryz.pinned (.plain (OpenSpec.ofChange braidSimplesSpec)) braidSimplesCard

/-- THE TIED CARD OF 'becketlaw05.BraidForms'. -/
def braidFormsCard : Claim7 := { stood := { row := braidFormsRow, standIns := [], harness := (true, "0c0bfcee51aa77b98226f73b546b29d79dba39aad8807566c94d118a848e6596"), looks := true }, kinds := [], alts := [], laidByText := true, laidKinds := [.data, .data, .data, .data, .sentinel, .sentinel, .pinned], laidTests := true, laidLooks := .later }
def BraidFormsCardSaid : Prop := Claim7.holds Tryz.pinned (.plain (OpenSpec.ofChange braidFormsSpec)) braidFormsCard

/-- THE TIED CARD OF 'becketlaw05.BraidMoves'. -/
def braidMovesCard : Claim7 := { stood := { row := braidMovesRow, standIns := [], harness := (true, "0c0bfcee51aa77b98226f73b546b29d79dba39aad8807566c94d118a848e6596"), looks := true }, kinds := [], alts := [], laidByText := true, laidKinds := [.data, .data, .data, .data, .sentinel, .sentinel, .pinned], laidTests := true, laidLooks := .later }
def BraidMovesCardSaid : Prop := Claim7.holds Tryz.pinned (.plain (OpenSpec.ofChange braidMovesSpec)) braidMovesCard

/-- THE TIED CARD OF 'becketlaw05.BraidWords'. -/
def braidWordsCard : Claim7 := { stood := { row := braidWordsRow, standIns := [], harness := (true, "0c0bfcee51aa77b98226f73b546b29d79dba39aad8807566c94d118a848e6596"), looks := true }, kinds := [], alts := [], laidByText := true, laidKinds := [.data, .data, .data, .data, .sentinel, .sentinel, .pinned], laidTests := true, laidLooks := .later }
def BraidWordsCardSaid : Prop := Claim7.holds Tryz.pinned (.plain (OpenSpec.ofChange braidWordsSpec)) braidWordsCard

/-- THE TIED CARD OF 'becketlaw05.BraidShapes'. -/
def braidShapesCard : Claim7 := { stood := { row := braidShapesRow, standIns := [], harness := (true, "0c0bfcee51aa77b98226f73b546b29d79dba39aad8807566c94d118a848e6596"), looks := true }, kinds := [], alts := [], laidByText := true, laidKinds := [.data, .data, .data, .data, .sentinel, .sentinel, .pinned], laidTests := true, laidLooks := .later }
def BraidShapesCardSaid : Prop := Claim7.holds Tryz.pinned (.plain (OpenSpec.ofChange braidShapesSpec)) braidShapesCard

/-- THE SECOND FORM's CARD OF 'becketlaw05.BraidSimples'. -/
def braidSimplesUptoCard : Claim7 := { stood := { row := braidSimplesUptoRow, standIns := [], harness := (true, "0c0bfcee51aa77b98226f73b546b29d79dba39aad8807566c94d118a848e6596"), looks := true }, kinds := [], alts := [], laidByText := true, laidKinds := [.data, .data, .data, .data, .sentinel, .sentinel, .pinned], laidTests := true, laidLooks := .later }
def BraidSimplesUptoCardSaid : Prop := Claim7.holds Tryz.pinned (.plain (OpenSpec.upto braidSimplesSpec)) braidSimplesUptoCard

/-- THE SECOND FORM's CARD OF 'becketlaw05.BraidForms'. -/
def braidFormsUptoCard : Claim7 := { stood := { row := braidFormsUptoRow, standIns := [], harness := (true, "0c0bfcee51aa77b98226f73b546b29d79dba39aad8807566c94d118a848e6596"), looks := true }, kinds := [], alts := [], laidByText := true, laidKinds := [.data, .data, .data, .data, .sentinel, .sentinel, .pinned], laidTests := true, laidLooks := .later }
def BraidFormsUptoCardSaid : Prop := Claim7.holds Tryz.pinned (.plain (OpenSpec.upto braidFormsSpec)) braidFormsUptoCard

/-- THE SECOND FORM's CARD OF 'becketlaw05.BraidMoves'. -/
def braidMovesUptoCard : Claim7 := { stood := { row := braidMovesUptoRow, standIns := [], harness := (true, "0c0bfcee51aa77b98226f73b546b29d79dba39aad8807566c94d118a848e6596"), looks := true }, kinds := [], alts := [], laidByText := true, laidKinds := [.data, .data, .data, .data, .sentinel, .sentinel, .pinned], laidTests := true, laidLooks := .later }
def BraidMovesUptoCardSaid : Prop := Claim7.holds Tryz.pinned (.plain (OpenSpec.upto braidMovesSpec)) braidMovesUptoCard

/-- THE SECOND FORM's CARD OF 'becketlaw05.BraidWords'. -/
def braidWordsUptoCard : Claim7 := { stood := { row := braidWordsUptoRow, standIns := [], harness := (true, "0c0bfcee51aa77b98226f73b546b29d79dba39aad8807566c94d118a848e6596"), looks := true }, kinds := [], alts := [], laidByText := true, laidKinds := [.data, .data, .data, .data, .sentinel, .sentinel, .pinned], laidTests := true, laidLooks := .later }
def BraidWordsUptoCardSaid : Prop := Claim7.holds Tryz.pinned (.plain (OpenSpec.upto braidWordsSpec)) braidWordsUptoCard

/-- THE SECOND FORM's CARD OF 'becketlaw05.BraidShapes'. -/
def braidShapesUptoCard : Claim7 := { stood := { row := braidShapesUptoRow, standIns := [], harness := (true, "0c0bfcee51aa77b98226f73b546b29d79dba39aad8807566c94d118a848e6596"), looks := true }, kinds := [], alts := [], laidByText := true, laidKinds := [.data, .data, .data, .data, .sentinel, .sentinel, .pinned], laidTests := true, laidLooks := .later }
def BraidShapesUptoCardSaid : Prop := Claim7.holds Tryz.pinned (.plain (OpenSpec.upto braidShapesSpec)) braidShapesUptoCard
end Rows
end Go.Proofs.YtmffnhniejfgpaaGreatDoor
