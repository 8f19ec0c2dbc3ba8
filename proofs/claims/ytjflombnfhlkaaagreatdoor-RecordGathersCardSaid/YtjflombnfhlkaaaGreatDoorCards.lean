/-
  DERIVED. GIVEN WITH THE SEED: THE CARDS: each row of YtjflombnfhlkaaaGreatDoorRows.lean that lists a variable, with what it lists TIED to the program's text (the seventh form; the later family's looks); each row that meets fmt, with fmt's text TOLD by the authors' own Lean function (tested against real Go, not proved from fmt's source: count such statements apart). THE CARD IS WHAT COUNTS. Prove the row's statement (the work); the ties are given (YtjflombnfhlkaaaGreatDoorTie.lean); close each card by the builder's one call (the guide's Derived/Test/ToyasCard.lean, 'card_holds'). Laid BY PROGRAM, IN A SANDBOX (cutbox-door.mjs). By AI agents, Wed Nov 11 2026. No macro, syntax, notation, axiom, sorry.
-/
import Derived.Test.YtjflombnfhlkaaaGreatDoorRows
import GoSem.ClaimSeven
namespace Go.Proofs.YtjflombnfhlkaaaGreatDoor
namespace Rows

/-- THE TIED CARD OF 'becketlaw10.RecordEvents'. -/
def recordEventsCard : Claim7 := { stood := { row := recordEventsRow, standIns := [], harness := (true, "545688d608b364d58b0d65b359f1c8aca32d133e14649ccca766480a5a770658"), looks := true }, kinds := [], alts := [], laidByText := true, laidKinds := [.data, .data, .data, .data, .sentinel, .sentinel, .pinned], laidTests := true, laidLooks := .later }
def RecordEventsCardSaid : Prop := Claim7.holds Tryz.pinned (.plain (OpenSpec.ofChange recordEventsSpec)) recordEventsCard

/-- THE TIED CARD OF 'becketlaw10.RecordSlings'. -/
def recordSlingsCard : Claim7 := { stood := { row := recordSlingsRow, standIns := [], harness := (true, "545688d608b364d58b0d65b359f1c8aca32d133e14649ccca766480a5a770658"), looks := true }, kinds := [], alts := [], laidByText := true, laidKinds := [.data, .data, .data, .data, .sentinel, .sentinel, .pinned], laidTests := true, laidLooks := .later }
def RecordSlingsCardSaid : Prop := Claim7.holds Tryz.pinned (.plain (OpenSpec.ofChange recordSlingsSpec)) recordSlingsCard

/-- THE TIED CARD OF 'becketlaw10.RecordWears'. -/
def recordWearsCard : Claim7 := { stood := { row := recordWearsRow, standIns := [], harness := (true, "545688d608b364d58b0d65b359f1c8aca32d133e14649ccca766480a5a770658"), looks := true }, kinds := [], alts := [], laidByText := true, laidKinds := [.data, .data, .data, .data, .sentinel, .sentinel, .pinned], laidTests := true, laidLooks := .later }
def RecordWearsCardSaid : Prop := Claim7.holds Tryz.pinned (.plain (OpenSpec.ofChange recordWearsSpec)) recordWearsCard

/-- THE TIED CARD OF 'becketlaw10.RecordLists'. -/
def recordListsCard : Claim7 := { stood := { row := recordListsRow, standIns := [], harness := (true, "545688d608b364d58b0d65b359f1c8aca32d133e14649ccca766480a5a770658"), looks := true }, kinds := [], alts := [], laidByText := true, laidKinds := [.data, .data, .data, .data, .sentinel, .sentinel, .pinned], laidTests := true, laidLooks := .later }
def RecordListsCardSaid : Prop := Claim7.holds Tryz.pinned (.plain (OpenSpec.ofChange recordListsSpec)) recordListsCard

/-- THE TIED CARD OF 'becketlaw10.RecordLogs'. -/
def recordLogsCard : Claim7 := { stood := { row := recordLogsRow, standIns := [], harness := (true, "545688d608b364d58b0d65b359f1c8aca32d133e14649ccca766480a5a770658"), looks := true }, kinds := [], alts := [], laidByText := true, laidKinds := [.data, .data, .data, .data, .sentinel, .sentinel, .pinned], laidTests := true, laidLooks := .later }
def RecordLogsCardSaid : Prop := Claim7.holds Tryz.pinned (.plain (OpenSpec.ofChange recordLogsSpec)) recordLogsCard

/-- THE TIED CARD OF 'becketlaw10.RecordCares'. -/
def recordCaresCard : Claim7 := { stood := { row := recordCaresRow, standIns := [], harness := (true, "545688d608b364d58b0d65b359f1c8aca32d133e14649ccca766480a5a770658"), looks := true }, kinds := [], alts := [], laidByText := true, laidKinds := [.data, .data, .data, .data, .sentinel, .sentinel, .pinned], laidTests := true, laidLooks := .later }
def RecordCaresCardSaid : Prop := Claim7.holds Tryz.pinned (.plain (OpenSpec.ofChange recordCaresSpec)) recordCaresCard

/-- THE TIED CARD OF 'becketlaw10.RecordSessions'. -/
def recordSessionsCard : Claim7 := { stood := { row := recordSessionsRow, standIns := [], harness := (true, "545688d608b364d58b0d65b359f1c8aca32d133e14649ccca766480a5a770658"), looks := true }, kinds := [], alts := [], laidByText := true, laidKinds := [.data, .data, .data, .data, .sentinel, .sentinel, .pinned], laidTests := true, laidLooks := .later }
def RecordSessionsCardSaid : Prop := Claim7.holds Tryz.pinned (.plain (OpenSpec.ofChange recordSessionsSpec)) recordSessionsCard

/-- THE TIED CARD OF 'becketlaw10.RecordFolds'. -/
def recordFoldsCard : Claim7 := { stood := { row := recordFoldsRow, standIns := [], harness := (true, "545688d608b364d58b0d65b359f1c8aca32d133e14649ccca766480a5a770658"), looks := true }, kinds := [], alts := [], laidByText := true, laidKinds := [.data, .data, .data, .data, .sentinel, .sentinel, .pinned], laidTests := true, laidLooks := .later }
def RecordFoldsCardSaid : Prop := Claim7.holds Tryz.pinned (.plain (OpenSpec.ofChange recordFoldsSpec)) recordFoldsCard

/-- THE TIED CARD OF 'becketlaw10.RecordTorn'. -/
def recordTornCard : Claim7 := { stood := { row := recordTornRow, standIns := [], harness := (true, "545688d608b364d58b0d65b359f1c8aca32d133e14649ccca766480a5a770658"), looks := true }, kinds := [], alts := [], laidByText := true, laidKinds := [.data, .data, .data, .data, .sentinel, .sentinel, .pinned], laidTests := true, laidLooks := .later }
def RecordTornCardSaid : Prop := Claim7.holds Tryz.pinned (.plain (OpenSpec.ofChange recordTornSpec)) recordTornCard

/-- THE TIED CARD OF 'becketlaw10.RecordNotes'. -/
def recordNotesCard : Claim7 := { stood := { row := recordNotesRow, standIns := [], harness := (true, "545688d608b364d58b0d65b359f1c8aca32d133e14649ccca766480a5a770658"), looks := true }, kinds := [], alts := [], laidByText := true, laidKinds := [.data, .data, .data, .data, .sentinel, .sentinel, .pinned], laidTests := true, laidLooks := .later }
def RecordNotesCardSaid : Prop := Claim7.holds Tryz.pinned (.plain (OpenSpec.ofChange recordNotesSpec)) recordNotesCard

/-- THE TIED CARD OF 'becketlaw10.RecordGathers'. -/
def recordGathersCard : Claim7 := { stood := { row := recordGathersRow, standIns := [], harness := (true, "545688d608b364d58b0d65b359f1c8aca32d133e14649ccca766480a5a770658"), looks := true }, kinds := [], alts := [], laidByText := true, laidKinds := [.data, .data, .data, .data, .sentinel, .sentinel, .pinned], laidTests := true, laidLooks := .later }
def RecordGathersCardSaid : Prop := Claim7.holds Tryz.pinned (.plain (OpenSpec.ofChange recordGathersSpec)) recordGathersCard

/-- THE SECOND FORM's CARD OF 'becketlaw10.RecordEvents'. -/
def recordEventsUptoCard : Claim7 := { stood := { row := recordEventsUptoRow, standIns := [], harness := (true, "545688d608b364d58b0d65b359f1c8aca32d133e14649ccca766480a5a770658"), looks := true }, kinds := [], alts := [], laidByText := true, laidKinds := [.data, .data, .data, .data, .sentinel, .sentinel, .pinned], laidTests := true, laidLooks := .later }
def RecordEventsUptoCardSaid : Prop := Claim7.holds Tryz.pinned (.plain (OpenSpec.upto recordEventsSpec)) recordEventsUptoCard

/-- THE SECOND FORM's CARD OF 'becketlaw10.RecordSlings'. -/
def recordSlingsUptoCard : Claim7 := { stood := { row := recordSlingsUptoRow, standIns := [], harness := (true, "545688d608b364d58b0d65b359f1c8aca32d133e14649ccca766480a5a770658"), looks := true }, kinds := [], alts := [], laidByText := true, laidKinds := [.data, .data, .data, .data, .sentinel, .sentinel, .pinned], laidTests := true, laidLooks := .later }
def RecordSlingsUptoCardSaid : Prop := Claim7.holds Tryz.pinned (.plain (OpenSpec.upto recordSlingsSpec)) recordSlingsUptoCard

/-- THE SECOND FORM's CARD OF 'becketlaw10.RecordWears'. -/
def recordWearsUptoCard : Claim7 := { stood := { row := recordWearsUptoRow, standIns := [], harness := (true, "545688d608b364d58b0d65b359f1c8aca32d133e14649ccca766480a5a770658"), looks := true }, kinds := [], alts := [], laidByText := true, laidKinds := [.data, .data, .data, .data, .sentinel, .sentinel, .pinned], laidTests := true, laidLooks := .later }
def RecordWearsUptoCardSaid : Prop := Claim7.holds Tryz.pinned (.plain (OpenSpec.upto recordWearsSpec)) recordWearsUptoCard

/-- THE SECOND FORM's CARD OF 'becketlaw10.RecordLists'. -/
def recordListsUptoCard : Claim7 := { stood := { row := recordListsUptoRow, standIns := [], harness := (true, "545688d608b364d58b0d65b359f1c8aca32d133e14649ccca766480a5a770658"), looks := true }, kinds := [], alts := [], laidByText := true, laidKinds := [.data, .data, .data, .data, .sentinel, .sentinel, .pinned], laidTests := true, laidLooks := .later }
def RecordListsUptoCardSaid : Prop := Claim7.holds Tryz.pinned (.plain (OpenSpec.upto recordListsSpec)) recordListsUptoCard

/-- THE SECOND FORM's CARD OF 'becketlaw10.RecordLogs'. -/
def recordLogsUptoCard : Claim7 := { stood := { row := recordLogsUptoRow, standIns := [], harness := (true, "545688d608b364d58b0d65b359f1c8aca32d133e14649ccca766480a5a770658"), looks := true }, kinds := [], alts := [], laidByText := true, laidKinds := [.data, .data, .data, .data, .sentinel, .sentinel, .pinned], laidTests := true, laidLooks := .later }
def RecordLogsUptoCardSaid : Prop := Claim7.holds Tryz.pinned (.plain (OpenSpec.upto recordLogsSpec)) recordLogsUptoCard

/-- THE SECOND FORM's CARD OF 'becketlaw10.RecordCares'. -/
def recordCaresUptoCard : Claim7 := { stood := { row := recordCaresUptoRow, standIns := [], harness := (true, "545688d608b364d58b0d65b359f1c8aca32d133e14649ccca766480a5a770658"), looks := true }, kinds := [], alts := [], laidByText := true, laidKinds := [.data, .data, .data, .data, .sentinel, .sentinel, .pinned], laidTests := true, laidLooks := .later }
def RecordCaresUptoCardSaid : Prop := Claim7.holds Tryz.pinned (.plain (OpenSpec.upto recordCaresSpec)) recordCaresUptoCard

/-- THE SECOND FORM's CARD OF 'becketlaw10.RecordSessions'. -/
def recordSessionsUptoCard : Claim7 := { stood := { row := recordSessionsUptoRow, standIns := [], harness := (true, "545688d608b364d58b0d65b359f1c8aca32d133e14649ccca766480a5a770658"), looks := true }, kinds := [], alts := [], laidByText := true, laidKinds := [.data, .data, .data, .data, .sentinel, .sentinel, .pinned], laidTests := true, laidLooks := .later }
def RecordSessionsUptoCardSaid : Prop := Claim7.holds Tryz.pinned (.plain (OpenSpec.upto recordSessionsSpec)) recordSessionsUptoCard

/-- THE SECOND FORM's CARD OF 'becketlaw10.RecordFolds'. -/
def recordFoldsUptoCard : Claim7 := { stood := { row := recordFoldsUptoRow, standIns := [], harness := (true, "545688d608b364d58b0d65b359f1c8aca32d133e14649ccca766480a5a770658"), looks := true }, kinds := [], alts := [], laidByText := true, laidKinds := [.data, .data, .data, .data, .sentinel, .sentinel, .pinned], laidTests := true, laidLooks := .later }
def RecordFoldsUptoCardSaid : Prop := Claim7.holds Tryz.pinned (.plain (OpenSpec.upto recordFoldsSpec)) recordFoldsUptoCard

/-- THE SECOND FORM's CARD OF 'becketlaw10.RecordTorn'. -/
def recordTornUptoCard : Claim7 := { stood := { row := recordTornUptoRow, standIns := [], harness := (true, "545688d608b364d58b0d65b359f1c8aca32d133e14649ccca766480a5a770658"), looks := true }, kinds := [], alts := [], laidByText := true, laidKinds := [.data, .data, .data, .data, .sentinel, .sentinel, .pinned], laidTests := true, laidLooks := .later }
def RecordTornUptoCardSaid : Prop := Claim7.holds Tryz.pinned (.plain (OpenSpec.upto recordTornSpec)) recordTornUptoCard

/-- THE SECOND FORM's CARD OF 'becketlaw10.RecordNotes'. -/
def recordNotesUptoCard : Claim7 := { stood := { row := recordNotesUptoRow, standIns := [], harness := (true, "545688d608b364d58b0d65b359f1c8aca32d133e14649ccca766480a5a770658"), looks := true }, kinds := [], alts := [], laidByText := true, laidKinds := [.data, .data, .data, .data, .sentinel, .sentinel, .pinned], laidTests := true, laidLooks := .later }
def RecordNotesUptoCardSaid : Prop := Claim7.holds Tryz.pinned (.plain (OpenSpec.upto recordNotesSpec)) recordNotesUptoCard

/-- THE SECOND FORM's CARD OF 'becketlaw10.RecordGathers'. -/
def recordGathersUptoCard : Claim7 := { stood := { row := recordGathersUptoRow, standIns := [], harness := (true, "545688d608b364d58b0d65b359f1c8aca32d133e14649ccca766480a5a770658"), looks := true }, kinds := [], alts := [], laidByText := true, laidKinds := [.data, .data, .data, .data, .sentinel, .sentinel, .pinned], laidTests := true, laidLooks := .later }
def RecordGathersUptoCardSaid : Prop := Claim7.holds Tryz.pinned (.plain (OpenSpec.upto recordGathersSpec)) recordGathersUptoCard
end Rows
end Go.Proofs.YtjflombnfhlkaaaGreatDoor
