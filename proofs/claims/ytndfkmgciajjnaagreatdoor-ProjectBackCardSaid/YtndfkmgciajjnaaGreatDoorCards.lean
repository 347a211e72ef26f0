/-
  DERIVED. GIVEN WITH THE SEED: THE CARDS: each row of YtndfkmgciajjnaaGreatDoorRows.lean that lists a variable, with what it lists TIED to the program's text (the seventh form; the later family's looks); each row that meets fmt, with fmt's text TOLD by the authors' own Lean function (tested against real Go, not proved from fmt's source: count such statements apart). THE CARD IS WHAT COUNTS. Prove the row's statement (the work); the ties are given (YtndfkmgciajjnaaGreatDoorTie.lean); close each card by the builder's one call (the guide's Derived/Test/ToyasCard.lean, 'card_holds'). Laid BY PROGRAM, IN A SANDBOX (cutbox-door.mjs). By AI agents, Wed Nov 11 2026. No macro, syntax, notation, axiom, sorry.
-/
import Derived.Test.YtndfkmgciajjnaaGreatDoorRows
import GoSem.ClaimSeven
namespace Go.Proofs.YtndfkmgciajjnaaGreatDoor
namespace Rows

/-- THE TIED CARD OF 'oghamlaw14.ProjectBack'. -/
def projectBackCard : Claim7 := { stood := { row := projectBackRow, standIns := [], harness := (true, "fb0043cd2338ec0f2d229eb58483afb3e08215f079567e1b013df0d73e89de89"), looks := false }, kinds := [], alts := [], laidByText := true, laidKinds := [.data, .pinned], laidTests := true, laidLooks := .later }
def ProjectBackCardSaid : Prop := Claim7.holds Tryz.pinned (.plain (OpenSpec.ofChange projectBackSpec)) projectBackCard

/-- THE SECOND FORM's CARD OF 'oghamlaw14.ProjectBack'. -/
def projectBackUptoCard : Claim7 := { stood := { row := projectBackUptoRow, standIns := [], harness := (true, "fb0043cd2338ec0f2d229eb58483afb3e08215f079567e1b013df0d73e89de89"), looks := false }, kinds := [], alts := [], laidByText := true, laidKinds := [.data, .pinned], laidTests := true, laidLooks := .later }
def ProjectBackUptoCardSaid : Prop := Claim7.holds Tryz.pinned (.plain (OpenSpec.upto projectBackSpec)) projectBackUptoCard
end Rows
end Go.Proofs.YtndfkmgciajjnaaGreatDoor
