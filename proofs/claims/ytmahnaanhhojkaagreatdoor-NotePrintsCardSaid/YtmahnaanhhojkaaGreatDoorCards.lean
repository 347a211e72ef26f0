/-
  DERIVED. GIVEN WITH THE SEED: THE CARDS: each row of YtmahnaanhhojkaaGreatDoorRows.lean that lists a variable, with what it lists TIED to the program's text (the seventh form; the later family's looks); each row that meets fmt, with fmt's text TOLD by the authors' own Lean function (tested against real Go, not proved from fmt's source: count such statements apart). THE CARD IS WHAT COUNTS. Prove the row's statement (the work); the ties are given (YtmahnaanhhojkaaGreatDoorTie.lean); close each card by the builder's one call (the guide's Derived/Test/ToyasCard.lean, 'card_holds'). Laid BY PROGRAM, IN A SANDBOX (cutbox-door.mjs). By AI agents, Wed Nov 11 2026. No macro, syntax, notation, axiom, sorry.
-/
import Derived.Test.YtmahnaanhhojkaaGreatDoorRows
import GoSem.ClaimSeven
namespace Go.Proofs.YtmahnaanhhojkaaGreatDoor
namespace Rows

/-- THE TIED CARD OF 'oghamlaw13.NotePrints'. -/
def notePrintsCard : Claim7 := { stood := { row := notePrintsRow, standIns := [], harness := (true, "9267c7f6210b84310622f1bbc2b5c4f0923ef91f81f521e25e678bb683a36ddf"), looks := true }, kinds := [], alts := [], laidByText := true, laidKinds := [.data, .data, .data, .data, .pinned], laidTests := true, laidLooks := .later }
def NotePrintsCardSaid : Prop := Claim7.holds Tryz.pinned (.plain (OpenSpec.ofChange notePrintsSpec)) notePrintsCard

/-- THE TIED CARD OF 'oghamlaw13.NoteParses'. -/
def noteParsesCard : Claim7 := { stood := { row := noteParsesRow, standIns := [], harness := (true, "9267c7f6210b84310622f1bbc2b5c4f0923ef91f81f521e25e678bb683a36ddf"), looks := true }, kinds := [], alts := [], laidByText := true, laidKinds := [.data, .data, .data, .data, .sentinel, .sentinel, .pinned], laidTests := true, laidLooks := .later }
def NoteParsesCardSaid : Prop := Claim7.holds Tryz.pinned (.plain (OpenSpec.ofChange noteParsesSpec)) noteParsesCard

/-- THE TIED CARD OF 'oghamlaw13.NoteBack'. -/
def noteBackCard : Claim7 := { stood := { row := noteBackRow, standIns := [], harness := (true, "9267c7f6210b84310622f1bbc2b5c4f0923ef91f81f521e25e678bb683a36ddf"), looks := true }, kinds := [], alts := [], laidByText := true, laidKinds := [.data, .data, .data, .data, .sentinel, .sentinel, .pinned], laidTests := true, laidLooks := .later }
def NoteBackCardSaid : Prop := Claim7.holds Tryz.pinned (.plain (OpenSpec.ofChange noteBackSpec)) noteBackCard

/-- THE TIED CARD OF 'oghamlaw13.NoteLeaves'. -/
def noteLeavesCard : Claim7 := { stood := { row := noteLeavesRow, standIns := [], harness := (true, "9267c7f6210b84310622f1bbc2b5c4f0923ef91f81f521e25e678bb683a36ddf"), looks := true }, kinds := [], alts := [], laidByText := true, laidKinds := [.data, .data, .data, .data, .sentinel, .sentinel, .pinned], laidTests := true, laidLooks := .later }
def NoteLeavesCardSaid : Prop := Claim7.holds Tryz.pinned (.plain (OpenSpec.ofChange noteLeavesSpec)) noteLeavesCard

/-- THE TIED CARD OF 'oghamlaw13.NoteFields'. -/
def noteFieldsCard : Claim7 := { stood := { row := noteFieldsRow, standIns := [], harness := (true, "9267c7f6210b84310622f1bbc2b5c4f0923ef91f81f521e25e678bb683a36ddf"), looks := true }, kinds := [], alts := [], laidByText := true, laidKinds := [.data, .data, .data, .data, .sentinel, .sentinel, .pinned], laidTests := true, laidLooks := .later }
def NoteFieldsCardSaid : Prop := Claim7.holds Tryz.pinned (.plain (OpenSpec.ofChange noteFieldsSpec)) noteFieldsCard

/-- THE TIED CARD OF 'oghamlaw13.NoteMissing'. -/
def noteMissingCard : Claim7 := { stood := { row := noteMissingRow, standIns := [], harness := (true, "9267c7f6210b84310622f1bbc2b5c4f0923ef91f81f521e25e678bb683a36ddf"), looks := true }, kinds := [], alts := [], laidByText := true, laidKinds := [.data, .data, .data, .data, .sentinel, .sentinel, .pinned], laidTests := true, laidLooks := .later }
def NoteMissingCardSaid : Prop := Claim7.holds Tryz.pinned (.plain (OpenSpec.ofChange noteMissingSpec)) noteMissingCard

/-- THE SECOND FORM's CARD OF 'oghamlaw13.NotePrints'. -/
def notePrintsUptoCard : Claim7 := { stood := { row := notePrintsUptoRow, standIns := [], harness := (true, "9267c7f6210b84310622f1bbc2b5c4f0923ef91f81f521e25e678bb683a36ddf"), looks := true }, kinds := [], alts := [], laidByText := true, laidKinds := [.data, .data, .data, .data, .pinned], laidTests := true, laidLooks := .later }
def NotePrintsUptoCardSaid : Prop := Claim7.holds Tryz.pinned (.plain (OpenSpec.upto notePrintsSpec)) notePrintsUptoCard

/-- THE SECOND FORM's CARD OF 'oghamlaw13.NoteParses'. -/
def noteParsesUptoCard : Claim7 := { stood := { row := noteParsesUptoRow, standIns := [], harness := (true, "9267c7f6210b84310622f1bbc2b5c4f0923ef91f81f521e25e678bb683a36ddf"), looks := true }, kinds := [], alts := [], laidByText := true, laidKinds := [.data, .data, .data, .data, .sentinel, .sentinel, .pinned], laidTests := true, laidLooks := .later }
def NoteParsesUptoCardSaid : Prop := Claim7.holds Tryz.pinned (.plain (OpenSpec.upto noteParsesSpec)) noteParsesUptoCard

/-- THE SECOND FORM's CARD OF 'oghamlaw13.NoteBack'. -/
def noteBackUptoCard : Claim7 := { stood := { row := noteBackUptoRow, standIns := [], harness := (true, "9267c7f6210b84310622f1bbc2b5c4f0923ef91f81f521e25e678bb683a36ddf"), looks := true }, kinds := [], alts := [], laidByText := true, laidKinds := [.data, .data, .data, .data, .sentinel, .sentinel, .pinned], laidTests := true, laidLooks := .later }
def NoteBackUptoCardSaid : Prop := Claim7.holds Tryz.pinned (.plain (OpenSpec.upto noteBackSpec)) noteBackUptoCard

/-- THE SECOND FORM's CARD OF 'oghamlaw13.NoteLeaves'. -/
def noteLeavesUptoCard : Claim7 := { stood := { row := noteLeavesUptoRow, standIns := [], harness := (true, "9267c7f6210b84310622f1bbc2b5c4f0923ef91f81f521e25e678bb683a36ddf"), looks := true }, kinds := [], alts := [], laidByText := true, laidKinds := [.data, .data, .data, .data, .sentinel, .sentinel, .pinned], laidTests := true, laidLooks := .later }
def NoteLeavesUptoCardSaid : Prop := Claim7.holds Tryz.pinned (.plain (OpenSpec.upto noteLeavesSpec)) noteLeavesUptoCard

/-- THE SECOND FORM's CARD OF 'oghamlaw13.NoteFields'. -/
def noteFieldsUptoCard : Claim7 := { stood := { row := noteFieldsUptoRow, standIns := [], harness := (true, "9267c7f6210b84310622f1bbc2b5c4f0923ef91f81f521e25e678bb683a36ddf"), looks := true }, kinds := [], alts := [], laidByText := true, laidKinds := [.data, .data, .data, .data, .sentinel, .sentinel, .pinned], laidTests := true, laidLooks := .later }
def NoteFieldsUptoCardSaid : Prop := Claim7.holds Tryz.pinned (.plain (OpenSpec.upto noteFieldsSpec)) noteFieldsUptoCard

/-- THE SECOND FORM's CARD OF 'oghamlaw13.NoteMissing'. -/
def noteMissingUptoCard : Claim7 := { stood := { row := noteMissingUptoRow, standIns := [], harness := (true, "9267c7f6210b84310622f1bbc2b5c4f0923ef91f81f521e25e678bb683a36ddf"), looks := true }, kinds := [], alts := [], laidByText := true, laidKinds := [.data, .data, .data, .data, .sentinel, .sentinel, .pinned], laidTests := true, laidLooks := .later }
def NoteMissingUptoCardSaid : Prop := Claim7.holds Tryz.pinned (.plain (OpenSpec.upto noteMissingSpec)) noteMissingUptoCard
end Rows
end Go.Proofs.YtmahnaanhhojkaaGreatDoor
