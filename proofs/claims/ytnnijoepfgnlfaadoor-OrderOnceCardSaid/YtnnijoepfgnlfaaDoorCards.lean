/-
  DERIVED. GIVEN WITH THE SEED: THE CARDS: each row of YtnnijoepfgnlfaaDoorRows.lean that lists a variable, with what it lists TIED to the program's text (the seventh form; the later family's looks); each row that meets fmt, with fmt's text TOLD by the authors' own Lean function (tested against real Go, not proved from fmt's source: count such statements apart). THE CARD IS WHAT COUNTS. Prove the row's statement (the work); the ties are given (YtnnijoepfgnlfaaDoorTie.lean); close each card by the builder's one call (the guide's Derived/Test/ToyasCard.lean, 'card_holds'). Laid BY PROGRAM, IN A SANDBOX (cutbox-door.mjs). By AI agents, Wed Nov 11 2026. No macro, syntax, notation, axiom, sorry.
-/
import Derived.Test.YtnnijoepfgnlfaaDoorRows
import GoSem.ClaimSeven
namespace Go.Proofs.YtnnijoepfgnlfaaDoor
namespace Rows

/-- THE TIED CARD OF 'oghamlaw07.RefsChain'. -/
def refsChainCard : Claim7 := { stood := { row := refsChainRow, standIns := [], harness := (true, "c81e29b97054333aa4815c5ca8c5cf813c0b144612f539496084412067d4fb0b"), looks := false }, kinds := [], alts := [], laidByText := true, laidKinds := [.data, .pinned], laidTests := true, laidLooks := .later }
def RefsChainCardSaid : Prop := Claim7.holds Tryd.pinned (.plain (OpenSpec.ofChange refsChainSpec)) refsChainCard

/-- THE TIED CARD OF 'oghamlaw11.OrderSets'. -/
def orderSetsCard : Claim7 := { stood := { row := orderSetsRow, standIns := [], harness := (true, "c81e29b97054333aa4815c5ca8c5cf813c0b144612f539496084412067d4fb0b"), looks := false }, kinds := [], alts := [], laidByText := true, laidKinds := [.data, .pinned], laidTests := true, laidLooks := .later }
def OrderSetsCardSaid : Prop := Claim7.holds Tryd.pinned (.plain (OpenSpec.ofChange orderSetsSpec)) orderSetsCard

/-- THE TIED CARD OF 'oghamlaw11.OrderGroups'. -/
def orderGroupsCard : Claim7 := { stood := { row := orderGroupsRow, standIns := [], harness := (true, "c81e29b97054333aa4815c5ca8c5cf813c0b144612f539496084412067d4fb0b"), looks := false }, kinds := [], alts := [], laidByText := true, laidKinds := [.data, .pinned], laidTests := true, laidLooks := .later }
def OrderGroupsCardSaid : Prop := Claim7.holds Tryd.pinned (.plain (OpenSpec.ofChange orderGroupsSpec)) orderGroupsCard

/-- THE TIED CARD OF 'oghamlaw11.OrderOnce'. -/
def orderOnceCard : Claim7 := { stood := { row := orderOnceRow, standIns := [], harness := (true, "c81e29b97054333aa4815c5ca8c5cf813c0b144612f539496084412067d4fb0b"), looks := false }, kinds := [], alts := [], laidByText := true, laidKinds := [.data, .pinned], laidTests := true, laidLooks := .later }
def OrderOnceCardSaid : Prop := Claim7.holds Tryd.pinned (.plain (OpenSpec.ofChange orderOnceSpec)) orderOnceCard

/-- THE SECOND FORM's CARD OF 'oghamlaw07.RefsChain'. -/
def refsChainUptoCard : Claim7 := { stood := { row := refsChainUptoRow, standIns := [], harness := (true, "c81e29b97054333aa4815c5ca8c5cf813c0b144612f539496084412067d4fb0b"), looks := false }, kinds := [], alts := [], laidByText := true, laidKinds := [.data, .pinned], laidTests := true, laidLooks := .later }
def RefsChainUptoCardSaid : Prop := Claim7.holds Tryd.pinned (.plain (OpenSpec.upto refsChainSpec)) refsChainUptoCard

/-- THE SECOND FORM's CARD OF 'oghamlaw11.OrderSets'. -/
def orderSetsUptoCard : Claim7 := { stood := { row := orderSetsUptoRow, standIns := [], harness := (true, "c81e29b97054333aa4815c5ca8c5cf813c0b144612f539496084412067d4fb0b"), looks := false }, kinds := [], alts := [], laidByText := true, laidKinds := [.data, .pinned], laidTests := true, laidLooks := .later }
def OrderSetsUptoCardSaid : Prop := Claim7.holds Tryd.pinned (.plain (OpenSpec.upto orderSetsSpec)) orderSetsUptoCard

/-- THE SECOND FORM's CARD OF 'oghamlaw11.OrderGroups'. -/
def orderGroupsUptoCard : Claim7 := { stood := { row := orderGroupsUptoRow, standIns := [], harness := (true, "c81e29b97054333aa4815c5ca8c5cf813c0b144612f539496084412067d4fb0b"), looks := false }, kinds := [], alts := [], laidByText := true, laidKinds := [.data, .pinned], laidTests := true, laidLooks := .later }
def OrderGroupsUptoCardSaid : Prop := Claim7.holds Tryd.pinned (.plain (OpenSpec.upto orderGroupsSpec)) orderGroupsUptoCard

/-- THE SECOND FORM's CARD OF 'oghamlaw11.OrderOnce'. -/
def orderOnceUptoCard : Claim7 := { stood := { row := orderOnceUptoRow, standIns := [], harness := (true, "c81e29b97054333aa4815c5ca8c5cf813c0b144612f539496084412067d4fb0b"), looks := false }, kinds := [], alts := [], laidByText := true, laidKinds := [.data, .pinned], laidTests := true, laidLooks := .later }
def OrderOnceUptoCardSaid : Prop := Claim7.holds Tryd.pinned (.plain (OpenSpec.upto orderOnceSpec)) orderOnceUptoCard
end Rows
end Go.Proofs.YtnnijoepfgnlfaaDoor
