/-
  DERIVED. GIVEN WITH THE SEED: THE CARDS: each row of YtiibmpdjkdjbiaaGreatDoorRows.lean that lists a variable, with what it lists TIED to the program's text (the seventh form; the later family's looks); each row that meets fmt, with fmt's text TOLD by the authors' own Lean function (tested against real Go, not proved from fmt's source: count such statements apart). THE CARD IS WHAT COUNTS. Prove the row's statement (the work); the ties are given (YtiibmpdjkdjbiaaGreatDoorTie.lean); close each card by the builder's one call (the guide's Derived/Test/ToyasCard.lean, 'card_holds'). Laid BY PROGRAM, IN A SANDBOX (cutbox-door.mjs). By AI agents, Wed Nov 11 2026. No macro, syntax, notation, axiom, sorry.
-/
import Derived.Test.YtiibmpdjkdjbiaaGreatDoorRows
import GoSem.ClaimSeven
namespace Go.Proofs.YtiibmpdjkdjbiaaGreatDoor
namespace Rows

/-- THE TIED CARD OF 'oghamlaw10.TableSound'. -/
def tableSoundCard : Claim7 := { stood := { row := tableSoundRow, standIns := [], harness := (true, "d68c7f6d676e5c601faff1ed28a1aaa48876fb332ddfecd96e6c0d3de636bb5f"), looks := false }, kinds := [], alts := [], laidByText := true, laidKinds := [.data, .pinned], laidTests := true, laidLooks := .later }
def TableSoundCardSaid : Prop := Claim7.holds Tryz.pinned (.plain (OpenSpec.ofChange tableSoundSpec)) tableSoundCard

/-- THE TIED CARD OF 'oghamlaw10.TableNumbers'. -/
def tableNumbersCard : Claim7 := { stood := { row := tableNumbersRow, standIns := [], harness := (true, "d68c7f6d676e5c601faff1ed28a1aaa48876fb332ddfecd96e6c0d3de636bb5f"), looks := false }, kinds := [], alts := [], laidByText := true, laidKinds := [.data, .pinned], laidTests := true, laidLooks := .later }
def TableNumbersCardSaid : Prop := Claim7.holds Tryz.pinned (.plain (OpenSpec.ofChange tableNumbersSpec)) tableNumbersCard

/-- THE TIED CARD OF 'oghamlaw10.TableAutomatic'. -/
def tableAutomaticCard : Claim7 := { stood := { row := tableAutomaticRow, standIns := [], harness := (true, "d68c7f6d676e5c601faff1ed28a1aaa48876fb332ddfecd96e6c0d3de636bb5f"), looks := false }, kinds := [], alts := [], laidByText := true, laidKinds := [.data, .pinned], laidTests := true, laidLooks := .later }
def TableAutomaticCardSaid : Prop := Claim7.holds Tryz.pinned (.plain (OpenSpec.ofChange tableAutomaticSpec)) tableAutomaticCard

/-- THE TIED CARD OF 'oghamlaw10.TableMarks'. -/
def tableMarksCard : Claim7 := { stood := { row := tableMarksRow, standIns := [], harness := (true, "d68c7f6d676e5c601faff1ed28a1aaa48876fb332ddfecd96e6c0d3de636bb5f"), looks := false }, kinds := [], alts := [], laidByText := true, laidKinds := [.data, .pinned], laidTests := true, laidLooks := .later }
def TableMarksCardSaid : Prop := Claim7.holds Tryz.pinned (.plain (OpenSpec.ofChange tableMarksSpec)) tableMarksCard

/-- THE TIED CARD OF 'oghamlaw10.TableClash'. -/
def tableClashCard : Claim7 := { stood := { row := tableClashRow, standIns := [], harness := (true, "d68c7f6d676e5c601faff1ed28a1aaa48876fb332ddfecd96e6c0d3de636bb5f"), looks := false }, kinds := [], alts := [], laidByText := true, laidKinds := [.data, .pinned], laidTests := true, laidLooks := .later }
def TableClashCardSaid : Prop := Claim7.holds Tryz.pinned (.plain (OpenSpec.ofChange tableClashSpec)) tableClashCard

/-- THE TIED CARD OF 'oghamlaw10.TableRefs'. -/
def tableRefsCard : Claim7 := { stood := { row := tableRefsRow, standIns := [], harness := (true, "d68c7f6d676e5c601faff1ed28a1aaa48876fb332ddfecd96e6c0d3de636bb5f"), looks := false }, kinds := [], alts := [], laidByText := true, laidKinds := [.data, .pinned], laidTests := true, laidLooks := .later }
def TableRefsCardSaid : Prop := Claim7.holds Tryz.pinned (.plain (OpenSpec.ofChange tableRefsSpec)) tableRefsCard

/-- THE TIED CARD OF 'oghamlaw10.TableDefaults'. -/
def tableDefaultsCard : Claim7 := { stood := { row := tableDefaultsRow, standIns := [], harness := (true, "d68c7f6d676e5c601faff1ed28a1aaa48876fb332ddfecd96e6c0d3de636bb5f"), looks := false }, kinds := [], alts := [], laidByText := true, laidKinds := [.data, .pinned], laidTests := true, laidLooks := .later }
def TableDefaultsCardSaid : Prop := Claim7.holds Tryz.pinned (.plain (OpenSpec.ofChange tableDefaultsSpec)) tableDefaultsCard

/-- THE TIED CARD OF 'oghamlaw10.TableWild'. -/
def tableWildCard : Claim7 := { stood := { row := tableWildRow, standIns := [], harness := (true, "d68c7f6d676e5c601faff1ed28a1aaa48876fb332ddfecd96e6c0d3de636bb5f"), looks := false }, kinds := [], alts := [], laidByText := true, laidKinds := [.data, .pinned], laidTests := true, laidLooks := .later }
def TableWildCardSaid : Prop := Claim7.holds Tryz.pinned (.plain (OpenSpec.ofChange tableWildSpec)) tableWildCard

/-- THE SECOND FORM's CARD OF 'oghamlaw10.TableSound'. -/
def tableSoundUptoCard : Claim7 := { stood := { row := tableSoundUptoRow, standIns := [], harness := (true, "d68c7f6d676e5c601faff1ed28a1aaa48876fb332ddfecd96e6c0d3de636bb5f"), looks := false }, kinds := [], alts := [], laidByText := true, laidKinds := [.data, .pinned], laidTests := true, laidLooks := .later }
def TableSoundUptoCardSaid : Prop := Claim7.holds Tryz.pinned (.plain (OpenSpec.upto tableSoundSpec)) tableSoundUptoCard

/-- THE SECOND FORM's CARD OF 'oghamlaw10.TableNumbers'. -/
def tableNumbersUptoCard : Claim7 := { stood := { row := tableNumbersUptoRow, standIns := [], harness := (true, "d68c7f6d676e5c601faff1ed28a1aaa48876fb332ddfecd96e6c0d3de636bb5f"), looks := false }, kinds := [], alts := [], laidByText := true, laidKinds := [.data, .pinned], laidTests := true, laidLooks := .later }
def TableNumbersUptoCardSaid : Prop := Claim7.holds Tryz.pinned (.plain (OpenSpec.upto tableNumbersSpec)) tableNumbersUptoCard

/-- THE SECOND FORM's CARD OF 'oghamlaw10.TableAutomatic'. -/
def tableAutomaticUptoCard : Claim7 := { stood := { row := tableAutomaticUptoRow, standIns := [], harness := (true, "d68c7f6d676e5c601faff1ed28a1aaa48876fb332ddfecd96e6c0d3de636bb5f"), looks := false }, kinds := [], alts := [], laidByText := true, laidKinds := [.data, .pinned], laidTests := true, laidLooks := .later }
def TableAutomaticUptoCardSaid : Prop := Claim7.holds Tryz.pinned (.plain (OpenSpec.upto tableAutomaticSpec)) tableAutomaticUptoCard

/-- THE SECOND FORM's CARD OF 'oghamlaw10.TableMarks'. -/
def tableMarksUptoCard : Claim7 := { stood := { row := tableMarksUptoRow, standIns := [], harness := (true, "d68c7f6d676e5c601faff1ed28a1aaa48876fb332ddfecd96e6c0d3de636bb5f"), looks := false }, kinds := [], alts := [], laidByText := true, laidKinds := [.data, .pinned], laidTests := true, laidLooks := .later }
def TableMarksUptoCardSaid : Prop := Claim7.holds Tryz.pinned (.plain (OpenSpec.upto tableMarksSpec)) tableMarksUptoCard

/-- THE SECOND FORM's CARD OF 'oghamlaw10.TableClash'. -/
def tableClashUptoCard : Claim7 := { stood := { row := tableClashUptoRow, standIns := [], harness := (true, "d68c7f6d676e5c601faff1ed28a1aaa48876fb332ddfecd96e6c0d3de636bb5f"), looks := false }, kinds := [], alts := [], laidByText := true, laidKinds := [.data, .pinned], laidTests := true, laidLooks := .later }
def TableClashUptoCardSaid : Prop := Claim7.holds Tryz.pinned (.plain (OpenSpec.upto tableClashSpec)) tableClashUptoCard

/-- THE SECOND FORM's CARD OF 'oghamlaw10.TableRefs'. -/
def tableRefsUptoCard : Claim7 := { stood := { row := tableRefsUptoRow, standIns := [], harness := (true, "d68c7f6d676e5c601faff1ed28a1aaa48876fb332ddfecd96e6c0d3de636bb5f"), looks := false }, kinds := [], alts := [], laidByText := true, laidKinds := [.data, .pinned], laidTests := true, laidLooks := .later }
def TableRefsUptoCardSaid : Prop := Claim7.holds Tryz.pinned (.plain (OpenSpec.upto tableRefsSpec)) tableRefsUptoCard

/-- THE SECOND FORM's CARD OF 'oghamlaw10.TableDefaults'. -/
def tableDefaultsUptoCard : Claim7 := { stood := { row := tableDefaultsUptoRow, standIns := [], harness := (true, "d68c7f6d676e5c601faff1ed28a1aaa48876fb332ddfecd96e6c0d3de636bb5f"), looks := false }, kinds := [], alts := [], laidByText := true, laidKinds := [.data, .pinned], laidTests := true, laidLooks := .later }
def TableDefaultsUptoCardSaid : Prop := Claim7.holds Tryz.pinned (.plain (OpenSpec.upto tableDefaultsSpec)) tableDefaultsUptoCard

/-- THE SECOND FORM's CARD OF 'oghamlaw10.TableWild'. -/
def tableWildUptoCard : Claim7 := { stood := { row := tableWildUptoRow, standIns := [], harness := (true, "d68c7f6d676e5c601faff1ed28a1aaa48876fb332ddfecd96e6c0d3de636bb5f"), looks := false }, kinds := [], alts := [], laidByText := true, laidKinds := [.data, .pinned], laidTests := true, laidLooks := .later }
def TableWildUptoCardSaid : Prop := Claim7.holds Tryz.pinned (.plain (OpenSpec.upto tableWildSpec)) tableWildUptoCard
end Rows
end Go.Proofs.YtiibmpdjkdjbiaaGreatDoor
