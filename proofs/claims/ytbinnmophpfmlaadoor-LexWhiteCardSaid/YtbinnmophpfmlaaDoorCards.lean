/-
  DERIVED. GIVEN WITH THE SEED: THE CARDS: each row of YtbinnmophpfmlaaDoorRows.lean that lists a variable, with what it lists TIED to the program's text (the seventh form; the later family's looks); each row that meets fmt, with fmt's text TOLD by the authors' own Lean function (tested against real Go, not proved from fmt's source: count such statements apart). THE CARD IS WHAT COUNTS. Prove the row's statement (the work); the ties are given (YtbinnmophpfmlaaDoorTie.lean); close each card by the builder's one call (the guide's Derived/Test/ToyasCard.lean, 'card_holds'). Laid BY PROGRAM, IN A SANDBOX (cutbox-door.mjs). By AI agents, Wed Nov 11 2026. No macro, syntax, notation, axiom, sorry.
-/
import Derived.Test.YtbinnmophpfmlaaDoorRows
import GoSem.ClaimSeven
namespace Go.Proofs.YtbinnmophpfmlaaDoor
namespace Rows

/-- THE TIED CARD OF 'oghamlaw04.LexOrder'. -/
def lexOrderCard : Claim7 := { stood := { row := lexOrderRow, standIns := [], harness := (true, "cf443e31984b912d577cc7b628c6cf029ed79d55b22f4ef6aac21c1c00183ec4"), looks := true }, kinds := [], alts := [], laidByText := true, laidKinds := [.data, .data, .data, .data, .sentinel, .sentinel, .pinned], laidTests := true, laidLooks := .later }
def LexOrderCardSaid : Prop := Claim7.holds Tryd.pinned (.plain (OpenSpec.ofChange lexOrderSpec)) lexOrderCard

/-- THE TIED CARD OF 'oghamlaw04.LexNumbers'. -/
def lexNumbersCard : Claim7 := { stood := { row := lexNumbersRow, standIns := [], harness := (true, "cf443e31984b912d577cc7b628c6cf029ed79d55b22f4ef6aac21c1c00183ec4"), looks := true }, kinds := [], alts := [], laidByText := true, laidKinds := [.data, .data, .data, .data, .sentinel, .sentinel, .pinned], laidTests := true, laidLooks := .later }
def LexNumbersCardSaid : Prop := Claim7.holds Tryd.pinned (.plain (OpenSpec.ofChange lexNumbersSpec)) lexNumbersCard

/-- THE TIED CARD OF 'oghamlaw04.LexNames'. -/
def lexNamesCard : Claim7 := { stood := { row := lexNamesRow, standIns := [], harness := (true, "cf443e31984b912d577cc7b628c6cf029ed79d55b22f4ef6aac21c1c00183ec4"), looks := true }, kinds := [], alts := [], laidByText := true, laidKinds := [.data, .data, .data, .data, .sentinel, .sentinel, .pinned], laidTests := true, laidLooks := .later }
def LexNamesCardSaid : Prop := Claim7.holds Tryd.pinned (.plain (OpenSpec.ofChange lexNamesSpec)) lexNamesCard

/-- THE TIED CARD OF 'oghamlaw04.LexTokens'. -/
def lexTokensCard : Claim7 := { stood := { row := lexTokensRow, standIns := [], harness := (true, "cf443e31984b912d577cc7b628c6cf029ed79d55b22f4ef6aac21c1c00183ec4"), looks := true }, kinds := [], alts := [], laidByText := true, laidKinds := [.data, .data, .data, .data, .sentinel, .sentinel, .pinned], laidTests := true, laidLooks := .later }
def LexTokensCardSaid : Prop := Claim7.holds Tryd.pinned (.plain (OpenSpec.ofChange lexTokensSpec)) lexTokensCard

/-- THE TIED CARD OF 'oghamlaw04.LexWhite'. -/
def lexWhiteCard : Claim7 := { stood := { row := lexWhiteRow, standIns := [], harness := (true, "cf443e31984b912d577cc7b628c6cf029ed79d55b22f4ef6aac21c1c00183ec4"), looks := true }, kinds := [], alts := [], laidByText := true, laidKinds := [.data, .data, .data, .data, .sentinel, .sentinel, .pinned], laidTests := true, laidLooks := .later }
def LexWhiteCardSaid : Prop := Claim7.holds Tryd.pinned (.plain (OpenSpec.ofChange lexWhiteSpec)) lexWhiteCard

/-- THE TIED CARD OF 'oghamlaw04.LexStrings'. -/
def lexStringsCard : Claim7 := { stood := { row := lexStringsRow, standIns := [], harness := (true, "cf443e31984b912d577cc7b628c6cf029ed79d55b22f4ef6aac21c1c00183ec4"), looks := true }, kinds := [], alts := [], laidByText := true, laidKinds := [.data, .data, .data, .data, .sentinel, .sentinel, .pinned], laidTests := true, laidLooks := .later }
def LexStringsCardSaid : Prop := Claim7.holds Tryd.pinned (.plain (OpenSpec.ofChange lexStringsSpec)) lexStringsCard

/-- THE SECOND FORM's CARD OF 'oghamlaw04.LexOrder'. -/
def lexOrderUptoCard : Claim7 := { stood := { row := lexOrderUptoRow, standIns := [], harness := (true, "cf443e31984b912d577cc7b628c6cf029ed79d55b22f4ef6aac21c1c00183ec4"), looks := true }, kinds := [], alts := [], laidByText := true, laidKinds := [.data, .data, .data, .data, .sentinel, .sentinel, .pinned], laidTests := true, laidLooks := .later }
def LexOrderUptoCardSaid : Prop := Claim7.holds Tryd.pinned (.plain (OpenSpec.upto lexOrderSpec)) lexOrderUptoCard

/-- THE SECOND FORM's CARD OF 'oghamlaw04.LexNumbers'. -/
def lexNumbersUptoCard : Claim7 := { stood := { row := lexNumbersUptoRow, standIns := [], harness := (true, "cf443e31984b912d577cc7b628c6cf029ed79d55b22f4ef6aac21c1c00183ec4"), looks := true }, kinds := [], alts := [], laidByText := true, laidKinds := [.data, .data, .data, .data, .sentinel, .sentinel, .pinned], laidTests := true, laidLooks := .later }
def LexNumbersUptoCardSaid : Prop := Claim7.holds Tryd.pinned (.plain (OpenSpec.upto lexNumbersSpec)) lexNumbersUptoCard

/-- THE SECOND FORM's CARD OF 'oghamlaw04.LexNames'. -/
def lexNamesUptoCard : Claim7 := { stood := { row := lexNamesUptoRow, standIns := [], harness := (true, "cf443e31984b912d577cc7b628c6cf029ed79d55b22f4ef6aac21c1c00183ec4"), looks := true }, kinds := [], alts := [], laidByText := true, laidKinds := [.data, .data, .data, .data, .sentinel, .sentinel, .pinned], laidTests := true, laidLooks := .later }
def LexNamesUptoCardSaid : Prop := Claim7.holds Tryd.pinned (.plain (OpenSpec.upto lexNamesSpec)) lexNamesUptoCard

/-- THE SECOND FORM's CARD OF 'oghamlaw04.LexTokens'. -/
def lexTokensUptoCard : Claim7 := { stood := { row := lexTokensUptoRow, standIns := [], harness := (true, "cf443e31984b912d577cc7b628c6cf029ed79d55b22f4ef6aac21c1c00183ec4"), looks := true }, kinds := [], alts := [], laidByText := true, laidKinds := [.data, .data, .data, .data, .sentinel, .sentinel, .pinned], laidTests := true, laidLooks := .later }
def LexTokensUptoCardSaid : Prop := Claim7.holds Tryd.pinned (.plain (OpenSpec.upto lexTokensSpec)) lexTokensUptoCard

/-- THE SECOND FORM's CARD OF 'oghamlaw04.LexWhite'. -/
def lexWhiteUptoCard : Claim7 := { stood := { row := lexWhiteUptoRow, standIns := [], harness := (true, "cf443e31984b912d577cc7b628c6cf029ed79d55b22f4ef6aac21c1c00183ec4"), looks := true }, kinds := [], alts := [], laidByText := true, laidKinds := [.data, .data, .data, .data, .sentinel, .sentinel, .pinned], laidTests := true, laidLooks := .later }
def LexWhiteUptoCardSaid : Prop := Claim7.holds Tryd.pinned (.plain (OpenSpec.upto lexWhiteSpec)) lexWhiteUptoCard

/-- THE SECOND FORM's CARD OF 'oghamlaw04.LexStrings'. -/
def lexStringsUptoCard : Claim7 := { stood := { row := lexStringsUptoRow, standIns := [], harness := (true, "cf443e31984b912d577cc7b628c6cf029ed79d55b22f4ef6aac21c1c00183ec4"), looks := true }, kinds := [], alts := [], laidByText := true, laidKinds := [.data, .data, .data, .data, .sentinel, .sentinel, .pinned], laidTests := true, laidLooks := .later }
def LexStringsUptoCardSaid : Prop := Claim7.holds Tryd.pinned (.plain (OpenSpec.upto lexStringsSpec)) lexStringsUptoCard
end Rows
end Go.Proofs.YtbinnmophpfmlaaDoor
