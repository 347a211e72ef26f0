/-
  DERIVED. GIVEN WITH THE SEED: THE CARDS: each row of YtdcdndflfhaejaaDoorRows.lean that lists a variable, with what it lists TIED to the program's text (the seventh form; the later family's looks); each row that meets fmt, with fmt's text TOLD by the authors' own Lean function (tested against real Go, not proved from fmt's source: count such statements apart). THE CARD IS WHAT COUNTS. Prove the row's statement (the work); the ties are given (YtdcdndflfhaejaaDoorTie.lean); close each card by the builder's one call (the guide's Derived/Test/ToyasCard.lean, 'card_holds'). Laid BY PROGRAM, IN A SANDBOX (cutbox-door.mjs). By AI agents, Wed Nov 11 2026. No macro, syntax, notation, axiom, sorry.
-/
import Derived.Test.YtdcdndflfhaejaaDoorRows
import GoSem.ClaimSeven
namespace Go.Proofs.YtdcdndflfhaejaaDoor
namespace Rows

/-- THE TIED CARD OF 'oghamlaw07.RefsTell'. -/
def refsTellCard : Claim7 := { stood := { row := refsTellRow, standIns := [], harness := (true, "55d6e321a206e61f8cae08f4049c0d987a790ef90f2b8cfc2f38ddde01af33e9"), looks := false }, kinds := [], alts := [], laidByText := true, laidKinds := [.data, .pinned], laidTests := true, laidLooks := .later }
def RefsTellCardSaid : Prop := Claim7.holds Tryd.pinned (.plain (OpenSpec.ofChange refsTellSpec)) refsTellCard

/-- THE TIED CARD OF 'oghamlaw07.RefsOrder'. -/
def refsOrderCard : Claim7 := { stood := { row := refsOrderRow, standIns := [], harness := (true, "55d6e321a206e61f8cae08f4049c0d987a790ef90f2b8cfc2f38ddde01af33e9"), looks := false }, kinds := [], alts := [], laidByText := true, laidKinds := [.data, .pinned], laidTests := true, laidLooks := .later }
def RefsOrderCardSaid : Prop := Claim7.holds Tryd.pinned (.plain (OpenSpec.ofChange refsOrderSpec)) refsOrderCard

/-- THE TIED CARD OF 'oghamlaw07.RefsCircles'. -/
def refsCirclesCard : Claim7 := { stood := { row := refsCirclesRow, standIns := [], harness := (true, "55d6e321a206e61f8cae08f4049c0d987a790ef90f2b8cfc2f38ddde01af33e9"), looks := false }, kinds := [], alts := [], laidByText := true, laidKinds := [.data, .pinned], laidTests := true, laidLooks := .later }
def RefsCirclesCardSaid : Prop := Claim7.holds Tryd.pinned (.plain (OpenSpec.ofChange refsCirclesSpec)) refsCirclesCard

/-- THE TIED CARD OF 'oghamlaw07.RefsChain'. -/
def refsChainCard : Claim7 := { stood := { row := refsChainRow, standIns := [], harness := (true, "55d6e321a206e61f8cae08f4049c0d987a790ef90f2b8cfc2f38ddde01af33e9"), looks := false }, kinds := [], alts := [], laidByText := true, laidKinds := [.data, .pinned], laidTests := true, laidLooks := .later }
def RefsChainCardSaid : Prop := Claim7.holds Tryd.pinned (.plain (OpenSpec.ofChange refsChainSpec)) refsChainCard

/-- THE TIED CARD OF 'oghamlaw07.RefsMissing'. -/
def refsMissingCard : Claim7 := { stood := { row := refsMissingRow, standIns := [], harness := (true, "55d6e321a206e61f8cae08f4049c0d987a790ef90f2b8cfc2f38ddde01af33e9"), looks := false }, kinds := [], alts := [], laidByText := true, laidKinds := [.data, .pinned], laidTests := true, laidLooks := .later }
def RefsMissingCardSaid : Prop := Claim7.holds Tryd.pinned (.plain (OpenSpec.ofChange refsMissingSpec)) refsMissingCard

/-- THE SECOND FORM's CARD OF 'oghamlaw07.RefsTell'. -/
def refsTellUptoCard : Claim7 := { stood := { row := refsTellUptoRow, standIns := [], harness := (true, "55d6e321a206e61f8cae08f4049c0d987a790ef90f2b8cfc2f38ddde01af33e9"), looks := false }, kinds := [], alts := [], laidByText := true, laidKinds := [.data, .pinned], laidTests := true, laidLooks := .later }
def RefsTellUptoCardSaid : Prop := Claim7.holds Tryd.pinned (.plain (OpenSpec.upto refsTellSpec)) refsTellUptoCard

/-- THE SECOND FORM's CARD OF 'oghamlaw07.RefsOrder'. -/
def refsOrderUptoCard : Claim7 := { stood := { row := refsOrderUptoRow, standIns := [], harness := (true, "55d6e321a206e61f8cae08f4049c0d987a790ef90f2b8cfc2f38ddde01af33e9"), looks := false }, kinds := [], alts := [], laidByText := true, laidKinds := [.data, .pinned], laidTests := true, laidLooks := .later }
def RefsOrderUptoCardSaid : Prop := Claim7.holds Tryd.pinned (.plain (OpenSpec.upto refsOrderSpec)) refsOrderUptoCard

/-- THE SECOND FORM's CARD OF 'oghamlaw07.RefsCircles'. -/
def refsCirclesUptoCard : Claim7 := { stood := { row := refsCirclesUptoRow, standIns := [], harness := (true, "55d6e321a206e61f8cae08f4049c0d987a790ef90f2b8cfc2f38ddde01af33e9"), looks := false }, kinds := [], alts := [], laidByText := true, laidKinds := [.data, .pinned], laidTests := true, laidLooks := .later }
def RefsCirclesUptoCardSaid : Prop := Claim7.holds Tryd.pinned (.plain (OpenSpec.upto refsCirclesSpec)) refsCirclesUptoCard

/-- THE SECOND FORM's CARD OF 'oghamlaw07.RefsChain'. -/
def refsChainUptoCard : Claim7 := { stood := { row := refsChainUptoRow, standIns := [], harness := (true, "55d6e321a206e61f8cae08f4049c0d987a790ef90f2b8cfc2f38ddde01af33e9"), looks := false }, kinds := [], alts := [], laidByText := true, laidKinds := [.data, .pinned], laidTests := true, laidLooks := .later }
def RefsChainUptoCardSaid : Prop := Claim7.holds Tryd.pinned (.plain (OpenSpec.upto refsChainSpec)) refsChainUptoCard

/-- THE SECOND FORM's CARD OF 'oghamlaw07.RefsMissing'. -/
def refsMissingUptoCard : Claim7 := { stood := { row := refsMissingUptoRow, standIns := [], harness := (true, "55d6e321a206e61f8cae08f4049c0d987a790ef90f2b8cfc2f38ddde01af33e9"), looks := false }, kinds := [], alts := [], laidByText := true, laidKinds := [.data, .pinned], laidTests := true, laidLooks := .later }
def RefsMissingUptoCardSaid : Prop := Claim7.holds Tryd.pinned (.plain (OpenSpec.upto refsMissingSpec)) refsMissingUptoCard
end Rows
end Go.Proofs.YtdcdndflfhaejaaDoor
