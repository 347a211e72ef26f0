/-
  DERIVED. GIVEN WITH THE SEED: THE CARDS: each row of YtajbipkppngccaaDoorRows.lean that lists a variable, with what it lists TIED to the program's text (the seventh form; the later family's looks); each row that meets fmt, with fmt's text TOLD by the authors' own Lean function (tested against real Go, not proved from fmt's source: count such statements apart). THE CARD IS WHAT COUNTS. Prove the row's statement (the work); the ties are given (YtajbipkppngccaaDoorTie.lean); close each card by the builder's one call (the guide's Derived/Test/ToyasCard.lean, 'card_holds'). Laid BY PROGRAM, IN A SANDBOX (cutbox-door.mjs). By AI agents, Wed Nov 11 2026. No macro, syntax, notation, axiom, sorry.
-/
import Derived.Test.YtajbipkppngccaaDoorRows
import GoSem.ClaimSeven
namespace Go.Proofs.YtajbipkppngccaaDoor
namespace Rows

/-- THE TIED CARD OF 'oghamlaw21.ExtendTells'. -/
def extendTellsCard : Claim7 := { stood := { row := extendTellsRow, standIns := [], harness := (true, "ee422cd9fba7c25b63a55046cc4ec7c324434a13031696ab5458ab53e62a39c5"), looks := false }, kinds := [], alts := [], laidByText := true, laidKinds := [.data, .pinned], laidTests := true, laidLooks := .later }
def ExtendTellsCardSaid : Prop := Claim7.holds Tryd.pinned (.plain (OpenSpec.ofChange extendTellsSpec)) extendTellsCard

/-- THE TIED CARD OF 'oghamlaw21.ExtendOrder'. -/
def extendOrderCard : Claim7 := { stood := { row := extendOrderRow, standIns := [], harness := (true, "ee422cd9fba7c25b63a55046cc4ec7c324434a13031696ab5458ab53e62a39c5"), looks := false }, kinds := [], alts := [], laidByText := true, laidKinds := [.data, .pinned], laidTests := true, laidLooks := .later }
def ExtendOrderCardSaid : Prop := Claim7.holds Tryd.pinned (.plain (OpenSpec.ofChange extendOrderSpec)) extendOrderCard

/-- THE TIED CARD OF 'oghamlaw21.ExtendAdds'. -/
def extendAddsCard : Claim7 := { stood := { row := extendAddsRow, standIns := [], harness := (true, "ee422cd9fba7c25b63a55046cc4ec7c324434a13031696ab5458ab53e62a39c5"), looks := false }, kinds := [], alts := [], laidByText := true, laidKinds := [.data, .pinned], laidTests := true, laidLooks := .later }
def ExtendAddsCardSaid : Prop := Claim7.holds Tryd.pinned (.plain (OpenSpec.ofChange extendAddsSpec)) extendAddsCard

/-- THE TIED CARD OF 'oghamlaw21.ExtendItems'. -/
def extendItemsCard : Claim7 := { stood := { row := extendItemsRow, standIns := [], harness := (true, "ee422cd9fba7c25b63a55046cc4ec7c324434a13031696ab5458ab53e62a39c5"), looks := false }, kinds := [], alts := [], laidByText := true, laidKinds := [.data, .pinned], laidTests := true, laidLooks := .later }
def ExtendItemsCardSaid : Prop := Claim7.holds Tryd.pinned (.plain (OpenSpec.ofChange extendItemsSpec)) extendItemsCard

/-- THE TIED CARD OF 'oghamlaw21.ExtendBounds'. -/
def extendBoundsCard : Claim7 := { stood := { row := extendBoundsRow, standIns := [], harness := (true, "ee422cd9fba7c25b63a55046cc4ec7c324434a13031696ab5458ab53e62a39c5"), looks := false }, kinds := [], alts := [], laidByText := true, laidKinds := [.data, .pinned], laidTests := true, laidLooks := .later }
def ExtendBoundsCardSaid : Prop := Claim7.holds Tryd.pinned (.plain (OpenSpec.ofChange extendBoundsSpec)) extendBoundsCard

/-- THE TIED CARD OF 'oghamlaw21.ExtendNames'. -/
def extendNamesCard : Claim7 := { stood := { row := extendNamesRow, standIns := [], harness := (true, "ee422cd9fba7c25b63a55046cc4ec7c324434a13031696ab5458ab53e62a39c5"), looks := false }, kinds := [], alts := [], laidByText := true, laidKinds := [.data, .pinned], laidTests := true, laidLooks := .later }
def ExtendNamesCardSaid : Prop := Claim7.holds Tryd.pinned (.plain (OpenSpec.ofChange extendNamesSpec)) extendNamesCard

/-- THE TIED CARD OF 'oghamlaw11.OrderSets'. -/
def orderSetsCard : Claim7 := { stood := { row := orderSetsRow, standIns := [], harness := (true, "ee422cd9fba7c25b63a55046cc4ec7c324434a13031696ab5458ab53e62a39c5"), looks := false }, kinds := [], alts := [], laidByText := true, laidKinds := [.data, .pinned], laidTests := true, laidLooks := .later }
def OrderSetsCardSaid : Prop := Claim7.holds Tryd.pinned (.plain (OpenSpec.ofChange orderSetsSpec)) orderSetsCard

/-- THE TIED CARD OF 'oghamlaw11.OrderGroups'. -/
def orderGroupsCard : Claim7 := { stood := { row := orderGroupsRow, standIns := [], harness := (true, "ee422cd9fba7c25b63a55046cc4ec7c324434a13031696ab5458ab53e62a39c5"), looks := false }, kinds := [], alts := [], laidByText := true, laidKinds := [.data, .pinned], laidTests := true, laidLooks := .later }
def OrderGroupsCardSaid : Prop := Claim7.holds Tryd.pinned (.plain (OpenSpec.ofChange orderGroupsSpec)) orderGroupsCard

/-- THE TIED CARD OF 'oghamlaw11.OrderOnce'. -/
def orderOnceCard : Claim7 := { stood := { row := orderOnceRow, standIns := [], harness := (true, "ee422cd9fba7c25b63a55046cc4ec7c324434a13031696ab5458ab53e62a39c5"), looks := false }, kinds := [], alts := [], laidByText := true, laidKinds := [.data, .pinned], laidTests := true, laidLooks := .later }
def OrderOnceCardSaid : Prop := Claim7.holds Tryd.pinned (.plain (OpenSpec.ofChange orderOnceSpec)) orderOnceCard

/-- THE SECOND FORM's CARD OF 'oghamlaw21.ExtendTells'. -/
def extendTellsUptoCard : Claim7 := { stood := { row := extendTellsUptoRow, standIns := [], harness := (true, "ee422cd9fba7c25b63a55046cc4ec7c324434a13031696ab5458ab53e62a39c5"), looks := false }, kinds := [], alts := [], laidByText := true, laidKinds := [.data, .pinned], laidTests := true, laidLooks := .later }
def ExtendTellsUptoCardSaid : Prop := Claim7.holds Tryd.pinned (.plain (OpenSpec.upto extendTellsSpec)) extendTellsUptoCard

/-- THE SECOND FORM's CARD OF 'oghamlaw21.ExtendOrder'. -/
def extendOrderUptoCard : Claim7 := { stood := { row := extendOrderUptoRow, standIns := [], harness := (true, "ee422cd9fba7c25b63a55046cc4ec7c324434a13031696ab5458ab53e62a39c5"), looks := false }, kinds := [], alts := [], laidByText := true, laidKinds := [.data, .pinned], laidTests := true, laidLooks := .later }
def ExtendOrderUptoCardSaid : Prop := Claim7.holds Tryd.pinned (.plain (OpenSpec.upto extendOrderSpec)) extendOrderUptoCard

/-- THE SECOND FORM's CARD OF 'oghamlaw21.ExtendAdds'. -/
def extendAddsUptoCard : Claim7 := { stood := { row := extendAddsUptoRow, standIns := [], harness := (true, "ee422cd9fba7c25b63a55046cc4ec7c324434a13031696ab5458ab53e62a39c5"), looks := false }, kinds := [], alts := [], laidByText := true, laidKinds := [.data, .pinned], laidTests := true, laidLooks := .later }
def ExtendAddsUptoCardSaid : Prop := Claim7.holds Tryd.pinned (.plain (OpenSpec.upto extendAddsSpec)) extendAddsUptoCard

/-- THE SECOND FORM's CARD OF 'oghamlaw21.ExtendItems'. -/
def extendItemsUptoCard : Claim7 := { stood := { row := extendItemsUptoRow, standIns := [], harness := (true, "ee422cd9fba7c25b63a55046cc4ec7c324434a13031696ab5458ab53e62a39c5"), looks := false }, kinds := [], alts := [], laidByText := true, laidKinds := [.data, .pinned], laidTests := true, laidLooks := .later }
def ExtendItemsUptoCardSaid : Prop := Claim7.holds Tryd.pinned (.plain (OpenSpec.upto extendItemsSpec)) extendItemsUptoCard

/-- THE SECOND FORM's CARD OF 'oghamlaw21.ExtendBounds'. -/
def extendBoundsUptoCard : Claim7 := { stood := { row := extendBoundsUptoRow, standIns := [], harness := (true, "ee422cd9fba7c25b63a55046cc4ec7c324434a13031696ab5458ab53e62a39c5"), looks := false }, kinds := [], alts := [], laidByText := true, laidKinds := [.data, .pinned], laidTests := true, laidLooks := .later }
def ExtendBoundsUptoCardSaid : Prop := Claim7.holds Tryd.pinned (.plain (OpenSpec.upto extendBoundsSpec)) extendBoundsUptoCard

/-- THE SECOND FORM's CARD OF 'oghamlaw21.ExtendNames'. -/
def extendNamesUptoCard : Claim7 := { stood := { row := extendNamesUptoRow, standIns := [], harness := (true, "ee422cd9fba7c25b63a55046cc4ec7c324434a13031696ab5458ab53e62a39c5"), looks := false }, kinds := [], alts := [], laidByText := true, laidKinds := [.data, .pinned], laidTests := true, laidLooks := .later }
def ExtendNamesUptoCardSaid : Prop := Claim7.holds Tryd.pinned (.plain (OpenSpec.upto extendNamesSpec)) extendNamesUptoCard

/-- THE SECOND FORM's CARD OF 'oghamlaw11.OrderSets'. -/
def orderSetsUptoCard : Claim7 := { stood := { row := orderSetsUptoRow, standIns := [], harness := (true, "ee422cd9fba7c25b63a55046cc4ec7c324434a13031696ab5458ab53e62a39c5"), looks := false }, kinds := [], alts := [], laidByText := true, laidKinds := [.data, .pinned], laidTests := true, laidLooks := .later }
def OrderSetsUptoCardSaid : Prop := Claim7.holds Tryd.pinned (.plain (OpenSpec.upto orderSetsSpec)) orderSetsUptoCard

/-- THE SECOND FORM's CARD OF 'oghamlaw11.OrderGroups'. -/
def orderGroupsUptoCard : Claim7 := { stood := { row := orderGroupsUptoRow, standIns := [], harness := (true, "ee422cd9fba7c25b63a55046cc4ec7c324434a13031696ab5458ab53e62a39c5"), looks := false }, kinds := [], alts := [], laidByText := true, laidKinds := [.data, .pinned], laidTests := true, laidLooks := .later }
def OrderGroupsUptoCardSaid : Prop := Claim7.holds Tryd.pinned (.plain (OpenSpec.upto orderGroupsSpec)) orderGroupsUptoCard

/-- THE SECOND FORM's CARD OF 'oghamlaw11.OrderOnce'. -/
def orderOnceUptoCard : Claim7 := { stood := { row := orderOnceUptoRow, standIns := [], harness := (true, "ee422cd9fba7c25b63a55046cc4ec7c324434a13031696ab5458ab53e62a39c5"), looks := false }, kinds := [], alts := [], laidByText := true, laidKinds := [.data, .pinned], laidTests := true, laidLooks := .later }
def OrderOnceUptoCardSaid : Prop := Claim7.holds Tryd.pinned (.plain (OpenSpec.upto orderOnceSpec)) orderOnceUptoCard
end Rows
end Go.Proofs.YtajbipkppngccaaDoor
