/-
  DERIVED. GIVEN WITH THE SEED: THE CARDS: each row of YtnnijoepfgnlfaaGreatDoorRows.lean that lists a variable, with what it lists TIED to the program's text (the seventh form; the later family's looks); each row that meets fmt, with fmt's text TOLD by the authors' own Lean function (tested against real Go, not proved from fmt's source: count such statements apart). THE CARD IS WHAT COUNTS. Prove the row's statement (the work); the ties are given (YtnnijoepfgnlfaaGreatDoorTie.lean); close each card by the builder's one call (the guide's Derived/Test/ToyasCard.lean, 'card_holds'). Laid BY PROGRAM, IN A SANDBOX (cutbox-door.mjs). By AI agents, Wed Nov 11 2026. No macro, syntax, notation, axiom, sorry.
-/
import Derived.Test.YtnnijoepfgnlfaaGreatDoorRows
import GoSem.ClaimSeven
namespace Go.Proofs.YtnnijoepfgnlfaaGreatDoor
namespace Rows

/-- THE TIED CARD OF 'oghamlaw11.OrderTells'. -/
def orderTellsCard : Claim7 := { stood := { row := orderTellsRow, standIns := [], harness := (true, "33f0ff24a6f6b96029c8328fb408170f6a8e3b1c3777a71f54fe010b9324b2ff"), looks := false }, kinds := [], alts := [], laidByText := true, laidKinds := [.data, .pinned], laidTests := true, laidLooks := .later }
def OrderTellsCardSaid : Prop := Claim7.holds Tryz.pinned (.plain (OpenSpec.ofChange orderTellsSpec)) orderTellsCard

/-- THE TIED CARD OF 'oghamlaw12.ValueSizes'. -/
def valueSizesCard : Claim7 := { stood := { row := valueSizesRow, standIns := [], harness := (true, "33f0ff24a6f6b96029c8328fb408170f6a8e3b1c3777a71f54fe010b9324b2ff"), looks := false }, kinds := [], alts := [], laidByText := true, laidKinds := [.data, .pinned], laidTests := true, laidLooks := .later }
def ValueSizesCardSaid : Prop := Claim7.holds Tryz.pinned (.plain (OpenSpec.ofChange valueSizesSpec)) valueSizesCard

/-- THE TIED CARD OF 'oghamlaw12.ValueAbsent'. -/
def valueAbsentCard : Claim7 := { stood := { row := valueAbsentRow, standIns := [], harness := (true, "33f0ff24a6f6b96029c8328fb408170f6a8e3b1c3777a71f54fe010b9324b2ff"), looks := false }, kinds := [], alts := [], laidByText := true, laidKinds := [.data, .pinned], laidTests := true, laidLooks := .later }
def ValueAbsentCardSaid : Prop := Claim7.holds Tryz.pinned (.plain (OpenSpec.ofChange valueAbsentSpec)) valueAbsentCard

/-- THE TIED CARD OF 'oghamlaw12.ValueUnknowns'. -/
def valueUnknownsCard : Claim7 := { stood := { row := valueUnknownsRow, standIns := [], harness := (true, "33f0ff24a6f6b96029c8328fb408170f6a8e3b1c3777a71f54fe010b9324b2ff"), looks := false }, kinds := [], alts := [], laidByText := true, laidKinds := [.data, .pinned], laidTests := true, laidLooks := .later }
def ValueUnknownsCardSaid : Prop := Claim7.holds Tryz.pinned (.plain (OpenSpec.ofChange valueUnknownsSpec)) valueUnknownsCard

/-- THE TIED CARD OF 'oghamlaw12.ValueDeep'. -/
def valueDeepCard : Claim7 := { stood := { row := valueDeepRow, standIns := [], harness := (true, "33f0ff24a6f6b96029c8328fb408170f6a8e3b1c3777a71f54fe010b9324b2ff"), looks := false }, kinds := [], alts := [], laidByText := true, laidKinds := [.data, .pinned], laidTests := true, laidLooks := .later }
def ValueDeepCardSaid : Prop := Claim7.holds Tryz.pinned (.plain (OpenSpec.ofChange valueDeepSpec)) valueDeepCard

/-- THE TIED CARD OF 'oghamlaw12.ValueStrip'. -/
def valueStripCard : Claim7 := { stood := { row := valueStripRow, standIns := [], harness := (true, "33f0ff24a6f6b96029c8328fb408170f6a8e3b1c3777a71f54fe010b9324b2ff"), looks := false }, kinds := [], alts := [], laidByText := true, laidKinds := [.data, .pinned], laidTests := true, laidLooks := .later }
def ValueStripCardSaid : Prop := Claim7.holds Tryz.pinned (.plain (OpenSpec.ofChange valueStripSpec)) valueStripCard

/-- THE TIED CARD OF 'oghamlaw14.ProjectBack'. -/
def projectBackCard : Claim7 := { stood := { row := projectBackRow, standIns := [], harness := (true, "33f0ff24a6f6b96029c8328fb408170f6a8e3b1c3777a71f54fe010b9324b2ff"), looks := false }, kinds := [], alts := [], laidByText := true, laidKinds := [.data, .pinned], laidTests := true, laidLooks := .later }
def ProjectBackCardSaid : Prop := Claim7.holds Tryz.pinned (.plain (OpenSpec.ofChange projectBackSpec)) projectBackCard

/-- THE TIED CARD OF 'oghamlaw14.ProjectAdds'. -/
def projectAddsCard : Claim7 := { stood := { row := projectAddsRow, standIns := [], harness := (true, "33f0ff24a6f6b96029c8328fb408170f6a8e3b1c3777a71f54fe010b9324b2ff"), looks := false }, kinds := [], alts := [], laidByText := true, laidKinds := [.data, .pinned], laidTests := true, laidLooks := .later }
def ProjectAddsCardSaid : Prop := Claim7.holds Tryz.pinned (.plain (OpenSpec.ofChange projectAddsSpec)) projectAddsCard

/-- THE SECOND FORM's CARD OF 'oghamlaw11.OrderTells'. -/
def orderTellsUptoCard : Claim7 := { stood := { row := orderTellsUptoRow, standIns := [], harness := (true, "33f0ff24a6f6b96029c8328fb408170f6a8e3b1c3777a71f54fe010b9324b2ff"), looks := false }, kinds := [], alts := [], laidByText := true, laidKinds := [.data, .pinned], laidTests := true, laidLooks := .later }
def OrderTellsUptoCardSaid : Prop := Claim7.holds Tryz.pinned (.plain (OpenSpec.upto orderTellsSpec)) orderTellsUptoCard

/-- THE SECOND FORM's CARD OF 'oghamlaw12.ValueSizes'. -/
def valueSizesUptoCard : Claim7 := { stood := { row := valueSizesUptoRow, standIns := [], harness := (true, "33f0ff24a6f6b96029c8328fb408170f6a8e3b1c3777a71f54fe010b9324b2ff"), looks := false }, kinds := [], alts := [], laidByText := true, laidKinds := [.data, .pinned], laidTests := true, laidLooks := .later }
def ValueSizesUptoCardSaid : Prop := Claim7.holds Tryz.pinned (.plain (OpenSpec.upto valueSizesSpec)) valueSizesUptoCard

/-- THE SECOND FORM's CARD OF 'oghamlaw12.ValueAbsent'. -/
def valueAbsentUptoCard : Claim7 := { stood := { row := valueAbsentUptoRow, standIns := [], harness := (true, "33f0ff24a6f6b96029c8328fb408170f6a8e3b1c3777a71f54fe010b9324b2ff"), looks := false }, kinds := [], alts := [], laidByText := true, laidKinds := [.data, .pinned], laidTests := true, laidLooks := .later }
def ValueAbsentUptoCardSaid : Prop := Claim7.holds Tryz.pinned (.plain (OpenSpec.upto valueAbsentSpec)) valueAbsentUptoCard

/-- THE SECOND FORM's CARD OF 'oghamlaw12.ValueUnknowns'. -/
def valueUnknownsUptoCard : Claim7 := { stood := { row := valueUnknownsUptoRow, standIns := [], harness := (true, "33f0ff24a6f6b96029c8328fb408170f6a8e3b1c3777a71f54fe010b9324b2ff"), looks := false }, kinds := [], alts := [], laidByText := true, laidKinds := [.data, .pinned], laidTests := true, laidLooks := .later }
def ValueUnknownsUptoCardSaid : Prop := Claim7.holds Tryz.pinned (.plain (OpenSpec.upto valueUnknownsSpec)) valueUnknownsUptoCard

/-- THE SECOND FORM's CARD OF 'oghamlaw12.ValueDeep'. -/
def valueDeepUptoCard : Claim7 := { stood := { row := valueDeepUptoRow, standIns := [], harness := (true, "33f0ff24a6f6b96029c8328fb408170f6a8e3b1c3777a71f54fe010b9324b2ff"), looks := false }, kinds := [], alts := [], laidByText := true, laidKinds := [.data, .pinned], laidTests := true, laidLooks := .later }
def ValueDeepUptoCardSaid : Prop := Claim7.holds Tryz.pinned (.plain (OpenSpec.upto valueDeepSpec)) valueDeepUptoCard

/-- THE SECOND FORM's CARD OF 'oghamlaw12.ValueStrip'. -/
def valueStripUptoCard : Claim7 := { stood := { row := valueStripUptoRow, standIns := [], harness := (true, "33f0ff24a6f6b96029c8328fb408170f6a8e3b1c3777a71f54fe010b9324b2ff"), looks := false }, kinds := [], alts := [], laidByText := true, laidKinds := [.data, .pinned], laidTests := true, laidLooks := .later }
def ValueStripUptoCardSaid : Prop := Claim7.holds Tryz.pinned (.plain (OpenSpec.upto valueStripSpec)) valueStripUptoCard

/-- THE SECOND FORM's CARD OF 'oghamlaw14.ProjectBack'. -/
def projectBackUptoCard : Claim7 := { stood := { row := projectBackUptoRow, standIns := [], harness := (true, "33f0ff24a6f6b96029c8328fb408170f6a8e3b1c3777a71f54fe010b9324b2ff"), looks := false }, kinds := [], alts := [], laidByText := true, laidKinds := [.data, .pinned], laidTests := true, laidLooks := .later }
def ProjectBackUptoCardSaid : Prop := Claim7.holds Tryz.pinned (.plain (OpenSpec.upto projectBackSpec)) projectBackUptoCard

/-- THE SECOND FORM's CARD OF 'oghamlaw14.ProjectAdds'. -/
def projectAddsUptoCard : Claim7 := { stood := { row := projectAddsUptoRow, standIns := [], harness := (true, "33f0ff24a6f6b96029c8328fb408170f6a8e3b1c3777a71f54fe010b9324b2ff"), looks := false }, kinds := [], alts := [], laidByText := true, laidKinds := [.data, .pinned], laidTests := true, laidLooks := .later }
def ProjectAddsUptoCardSaid : Prop := Claim7.holds Tryz.pinned (.plain (OpenSpec.upto projectAddsSpec)) projectAddsUptoCard
end Rows
end Go.Proofs.YtnnijoepfgnlfaaGreatDoor
