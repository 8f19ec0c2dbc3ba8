/-
  DERIVED. GIVEN WITH THE SEED: THE CARDS: each row of YtbjpmhdicbgjkaaGreatDoorRows.lean that lists a variable, with what it lists TIED to the program's text (the seventh form; the later family's looks); each row that meets fmt, with fmt's text TOLD by the authors' own Lean function (tested against real Go, not proved from fmt's source: count such statements apart). THE CARD IS WHAT COUNTS. Prove the row's statement (the work); the ties are given (YtbjpmhdicbgjkaaGreatDoorTie.lean); close each card by the builder's one call (the guide's Derived/Test/ToyasCard.lean, 'card_holds'). Laid BY PROGRAM, IN A SANDBOX (cutbox-door.mjs). By AI agents, Wed Nov 11 2026. No macro, syntax, notation, axiom, sorry.
-/
import Derived.Test.YtbjpmhdicbgjkaaGreatDoorRows
import GoSem.ClaimSeven
namespace Go.Proofs.YtbjpmhdicbgjkaaGreatDoor
namespace Rows

/-- THE TIED CARD OF 'becketlaw01.NumberSteps'. -/
def numberStepsCard : Claim7 := { stood := { row := numberStepsRow, standIns := [], harness := (true, "4024fc1b622e8bf02fe1ccb18144fce6adfee83f0424c443c64fe9a205237173"), looks := true }, kinds := [], alts := [], laidByText := true, laidKinds := [.data, .data, .data, .data, .sentinel, .sentinel, .pinned], laidTests := true, laidLooks := .later }
def NumberStepsCardSaid : Prop := Claim7.holds Tryz.pinned (.plain (OpenSpec.ofChange numberStepsSpec)) numberStepsCard

/-- THE TIED CARD OF 'becketlaw01.NumberSquares'. -/
def numberSquaresCard : Claim7 := { stood := { row := numberSquaresRow, standIns := [], harness := (true, "4024fc1b622e8bf02fe1ccb18144fce6adfee83f0424c443c64fe9a205237173"), looks := true }, kinds := [], alts := [], laidByText := true, laidKinds := [.data, .data, .data, .data, .sentinel, .sentinel, .pinned], laidTests := true, laidLooks := .later }
def NumberSquaresCardSaid : Prop := Claim7.holds Tryz.pinned (.plain (OpenSpec.ofChange numberSquaresSpec)) numberSquaresCard

/-- THE TIED CARD OF 'becketlaw01.NumberNears'. -/
def numberNearsCard : Claim7 := { stood := { row := numberNearsRow, standIns := [], harness := (true, "4024fc1b622e8bf02fe1ccb18144fce6adfee83f0424c443c64fe9a205237173"), looks := true }, kinds := [], alts := [], laidByText := true, laidKinds := [.data, .data, .data, .data, .sentinel, .sentinel, .pinned], laidTests := true, laidLooks := .later }
def NumberNearsCardSaid : Prop := Claim7.holds Tryz.pinned (.plain (OpenSpec.ofChange numberNearsSpec)) numberNearsCard

/-- THE TIED CARD OF 'becketlaw01.NumberSpans'. -/
def numberSpansCard : Claim7 := { stood := { row := numberSpansRow, standIns := [], harness := (true, "4024fc1b622e8bf02fe1ccb18144fce6adfee83f0424c443c64fe9a205237173"), looks := true }, kinds := [], alts := [], laidByText := true, laidKinds := [.data, .data, .data, .data, .sentinel, .sentinel, .pinned], laidTests := true, laidLooks := .later }
def NumberSpansCardSaid : Prop := Claim7.holds Tryz.pinned (.plain (OpenSpec.ofChange numberSpansSpec)) numberSpansCard

/-- THE TIED CARD OF 'becketlaw01.NumberEncloses'. -/
def numberEnclosesCard : Claim7 := { stood := { row := numberEnclosesRow, standIns := [], harness := (true, "4024fc1b622e8bf02fe1ccb18144fce6adfee83f0424c443c64fe9a205237173"), looks := true }, kinds := [], alts := [], laidByText := true, laidKinds := [.data, .data, .data, .data, .sentinel, .sentinel, .pinned], laidTests := true, laidLooks := .later }
def NumberEnclosesCardSaid : Prop := Claim7.holds Tryz.pinned (.plain (OpenSpec.ofChange numberEnclosesSpec)) numberEnclosesCard

/-- THE TIED CARD OF 'becketlaw01.NumberForms'. -/
def numberFormsCard : Claim7 := { stood := { row := numberFormsRow, standIns := [], harness := (true, "4024fc1b622e8bf02fe1ccb18144fce6adfee83f0424c443c64fe9a205237173"), looks := true }, kinds := [], alts := [], laidByText := true, laidKinds := [.data, .data, .data, .data, .sentinel, .sentinel, .pinned], laidTests := true, laidLooks := .later }
def NumberFormsCardSaid : Prop := Claim7.holds Tryz.pinned (.plain (OpenSpec.ofChange numberFormsSpec)) numberFormsCard

/-- THE TIED CARD OF 'becketlaw01.NumberSums'. -/
def numberSumsCard : Claim7 := { stood := { row := numberSumsRow, standIns := [], harness := (true, "4024fc1b622e8bf02fe1ccb18144fce6adfee83f0424c443c64fe9a205237173"), looks := true }, kinds := [], alts := [], laidByText := true, laidKinds := [.data, .data, .data, .data, .sentinel, .sentinel, .pinned], laidTests := true, laidLooks := .later }
def NumberSumsCardSaid : Prop := Claim7.holds Tryz.pinned (.plain (OpenSpec.ofChange numberSumsSpec)) numberSumsCard

/-- THE SECOND FORM's CARD OF 'becketlaw01.NumberSteps'. -/
def numberStepsUptoCard : Claim7 := { stood := { row := numberStepsUptoRow, standIns := [], harness := (true, "4024fc1b622e8bf02fe1ccb18144fce6adfee83f0424c443c64fe9a205237173"), looks := true }, kinds := [], alts := [], laidByText := true, laidKinds := [.data, .data, .data, .data, .sentinel, .sentinel, .pinned], laidTests := true, laidLooks := .later }
def NumberStepsUptoCardSaid : Prop := Claim7.holds Tryz.pinned (.plain (OpenSpec.upto numberStepsSpec)) numberStepsUptoCard

/-- THE SECOND FORM's CARD OF 'becketlaw01.NumberSquares'. -/
def numberSquaresUptoCard : Claim7 := { stood := { row := numberSquaresUptoRow, standIns := [], harness := (true, "4024fc1b622e8bf02fe1ccb18144fce6adfee83f0424c443c64fe9a205237173"), looks := true }, kinds := [], alts := [], laidByText := true, laidKinds := [.data, .data, .data, .data, .sentinel, .sentinel, .pinned], laidTests := true, laidLooks := .later }
def NumberSquaresUptoCardSaid : Prop := Claim7.holds Tryz.pinned (.plain (OpenSpec.upto numberSquaresSpec)) numberSquaresUptoCard

/-- THE SECOND FORM's CARD OF 'becketlaw01.NumberNears'. -/
def numberNearsUptoCard : Claim7 := { stood := { row := numberNearsUptoRow, standIns := [], harness := (true, "4024fc1b622e8bf02fe1ccb18144fce6adfee83f0424c443c64fe9a205237173"), looks := true }, kinds := [], alts := [], laidByText := true, laidKinds := [.data, .data, .data, .data, .sentinel, .sentinel, .pinned], laidTests := true, laidLooks := .later }
def NumberNearsUptoCardSaid : Prop := Claim7.holds Tryz.pinned (.plain (OpenSpec.upto numberNearsSpec)) numberNearsUptoCard

/-- THE SECOND FORM's CARD OF 'becketlaw01.NumberSpans'. -/
def numberSpansUptoCard : Claim7 := { stood := { row := numberSpansUptoRow, standIns := [], harness := (true, "4024fc1b622e8bf02fe1ccb18144fce6adfee83f0424c443c64fe9a205237173"), looks := true }, kinds := [], alts := [], laidByText := true, laidKinds := [.data, .data, .data, .data, .sentinel, .sentinel, .pinned], laidTests := true, laidLooks := .later }
def NumberSpansUptoCardSaid : Prop := Claim7.holds Tryz.pinned (.plain (OpenSpec.upto numberSpansSpec)) numberSpansUptoCard

/-- THE SECOND FORM's CARD OF 'becketlaw01.NumberEncloses'. -/
def numberEnclosesUptoCard : Claim7 := { stood := { row := numberEnclosesUptoRow, standIns := [], harness := (true, "4024fc1b622e8bf02fe1ccb18144fce6adfee83f0424c443c64fe9a205237173"), looks := true }, kinds := [], alts := [], laidByText := true, laidKinds := [.data, .data, .data, .data, .sentinel, .sentinel, .pinned], laidTests := true, laidLooks := .later }
def NumberEnclosesUptoCardSaid : Prop := Claim7.holds Tryz.pinned (.plain (OpenSpec.upto numberEnclosesSpec)) numberEnclosesUptoCard

/-- THE SECOND FORM's CARD OF 'becketlaw01.NumberForms'. -/
def numberFormsUptoCard : Claim7 := { stood := { row := numberFormsUptoRow, standIns := [], harness := (true, "4024fc1b622e8bf02fe1ccb18144fce6adfee83f0424c443c64fe9a205237173"), looks := true }, kinds := [], alts := [], laidByText := true, laidKinds := [.data, .data, .data, .data, .sentinel, .sentinel, .pinned], laidTests := true, laidLooks := .later }
def NumberFormsUptoCardSaid : Prop := Claim7.holds Tryz.pinned (.plain (OpenSpec.upto numberFormsSpec)) numberFormsUptoCard

/-- THE SECOND FORM's CARD OF 'becketlaw01.NumberSums'. -/
def numberSumsUptoCard : Claim7 := { stood := { row := numberSumsUptoRow, standIns := [], harness := (true, "4024fc1b622e8bf02fe1ccb18144fce6adfee83f0424c443c64fe9a205237173"), looks := true }, kinds := [], alts := [], laidByText := true, laidKinds := [.data, .data, .data, .data, .sentinel, .sentinel, .pinned], laidTests := true, laidLooks := .later }
def NumberSumsUptoCardSaid : Prop := Claim7.holds Tryz.pinned (.plain (OpenSpec.upto numberSumsSpec)) numberSumsUptoCard
end Rows
end Go.Proofs.YtbjpmhdicbgjkaaGreatDoor
