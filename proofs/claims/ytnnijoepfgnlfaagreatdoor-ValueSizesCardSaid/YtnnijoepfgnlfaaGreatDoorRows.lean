/-
  NARROWER THAN 'FOR EVERY INPUT', by the rows' own cells (each row's printed sentence says how): OrderTells: laid · ValueSizes: laid · ValueAbsent: laid · ValueUnknowns: laid · ValueDeep: laid · ValueStrip: loops, laid · ProjectBack: loops, laid · ProjectAdds: laid.
  DERIVED. THE GIVEN ROWS OF THIS SEAT. 8 by the template 'for every input the law returns true; each argument reads behind the call as it read before'; 0 by the template 'total and deterministic' (their statements: YtnnijoepfgnlfaaGreatDoorTotals.lean).
  GIVEN WITH THE SEED: the statements are not yours to turn. If you find one false, say at which input.
  Laid BY PROGRAM, IN A SANDBOX (cutbox-rows.mjs): the forced cells as the released guide's own fill.sh prints them over the translation 3ccc00c115e6d709… (all of the seat's roots in one cut). By AI agents, Wed Nov 11 2026. No macro, syntax, notation, axiom, sorry.
-/
import Derived.Test.YtnnijoepfgnlfaaGreatDoorChecked
import GoSem.PinnedTables
import GoSem.Claim
import GoSem.ClaimJoined
import GoSem.ClaimMapViews
import Derived.JoinedTies
import Derived.KernelRfl
namespace Go.Proofs.YtnnijoepfgnlfaaGreatDoor
/- THE CELL 'sum', in the pinned program and in every row, IS THE sha256 OF THE DUMP (.gsa) THAT YtnnijoepfgnlfaaGreatDoorProg.lean LOADS. Nothing in Lean hashes anything: it is a label: what it is worth is what the hold of that sum in a sandbox is worth. -/
noncomputable def Tryz.pinned : Pinned := { name := "ytnnijoepfgnlfaagreatdoor", sum := "3ccc00c115e6d709960cb65e42122e68b53be515ac0200a7578247df3ee442b5", checked := Tryz.checked }
namespace Rows
def none {H : Type} : Left H := { results := [], args := [] }

/- WHAT THE LISTED PACKAGE-LEVEL VARIABLES READ AS WHEN THE CALL BEGINS. Each datum BY PROGRAM (the guide's laid-datum.mjs) off the statement by which the dump's own 'gosem.cut.vars' lays the variable. In a bare row this is a premise. The card (YtnnijoepfgnlfaaGreatDoorCards.lean) ties it to the program's text. -/
def laid_unicode_utf8_acceptRanges {H : Type} : DataW H := .agg [.agg [.lit (.int .u8 128), .lit (.int .u8 191)], .agg [.lit (.int .u8 160), .lit (.int .u8 191)], .agg [.lit (.int .u8 128), .lit (.int .u8 159)], .agg [.lit (.int .u8 144), .lit (.int .u8 191)], .agg [.lit (.int .u8 128), .lit (.int .u8 143)], .agg [.lit (.int .u8 0), .lit (.int .u8 0)], .agg [.lit (.int .u8 0), .lit (.int .u8 0)], .agg [.lit (.int .u8 0), .lit (.int .u8 0)], .agg [.lit (.int .u8 0), .lit (.int .u8 0)], .agg [.lit (.int .u8 0), .lit (.int .u8 0)], .agg [.lit (.int .u8 0), .lit (.int .u8 0)], .agg [.lit (.int .u8 0), .lit (.int .u8 0)], .agg [.lit (.int .u8 0), .lit (.int .u8 0)], .agg [.lit (.int .u8 0), .lit (.int .u8 0)], .agg [.lit (.int .u8 0), .lit (.int .u8 0)], .agg [.lit (.int .u8 0), .lit (.int .u8 0)]]
/-- One of Go's own tables, pinned by name: the form's constant. -/
def laid_unicode_utf8_first : DataW Unit := Go.Pinned.utf8First

/-- 'oghamlaw11.OrderTells': WHATEVER THE INPUT: true; the input reads as it did. -/
def orderTellsSpec : ChangeSpec := { name := "orderTells", fn := fun _ => fun
  | [d1, d2] => { results := [.lit (.bool true)], args := [d1, d2] }
  | _ => none }
def orderTellsRow : OpenClaim := { program := "ytnnijoepfgnlfaagreatdoor", sum := "3ccc00c115e6d709960cb65e42122e68b53be515ac0200a7578247df3ee442b5", func := "ogham/oghamlaw11.OrderTells", spec := "orderTells", unfollowed := true, recurses := true, named := ["unicode/utf8.first", "unicode/utf8.acceptRanges"], apart := false, laid := [("unicode/utf8.acceptRanges", laid_unicode_utf8_acceptRanges), ("unicode/utf8.first", laid_unicode_utf8_first)] }
def OrderTellsSaid : Prop := orderTellsRow.holds Tryz.pinned (OpenSpec.ofChange orderTellsSpec)

/-- ITS FALSE NEIGHBOUR: 'it returns false'. Refute it at one input. -/
def orderTellsWrong : ChangeSpec := { name := "orderTells", fn := fun _ => fun
  | [d1, d2] => { results := [.lit (.bool false)], args := [d1, d2] }
  | _ => none }
def OrderTellsWrongFalsely : Prop := orderTellsRow.holds Tryz.pinned (OpenSpec.ofChange orderTellsWrong)

/-- 'oghamlaw12.ValueSizes': WHATEVER THE INPUT: true; the input reads as it did. -/
def valueSizesSpec : ChangeSpec := { name := "valueSizes", fn := fun _ => fun
  | [d1, d2, d3, d4, d5] => { results := [.lit (.bool true)], args := [d1, d2, d3, d4, d5] }
  | _ => none }
def valueSizesRow : OpenClaim := { program := "ytnnijoepfgnlfaagreatdoor", sum := "3ccc00c115e6d709960cb65e42122e68b53be515ac0200a7578247df3ee442b5", func := "ogham/oghamlaw12.ValueSizes", spec := "valueSizes", unfollowed := true, recurses := true, named := ["unicode/utf8.first", "unicode/utf8.acceptRanges"], apart := false, laid := [("unicode/utf8.acceptRanges", laid_unicode_utf8_acceptRanges), ("unicode/utf8.first", laid_unicode_utf8_first)] }
def ValueSizesSaid : Prop := valueSizesRow.holds Tryz.pinned (OpenSpec.ofChange valueSizesSpec)

/-- ITS FALSE NEIGHBOUR: 'it returns false'. Refute it at one input. -/
def valueSizesWrong : ChangeSpec := { name := "valueSizes", fn := fun _ => fun
  | [d1, d2, d3, d4, d5] => { results := [.lit (.bool false)], args := [d1, d2, d3, d4, d5] }
  | _ => none }
def ValueSizesWrongFalsely : Prop := valueSizesRow.holds Tryz.pinned (OpenSpec.ofChange valueSizesWrong)

/-- 'oghamlaw12.ValueAbsent': WHATEVER THE INPUT: true; the input reads as it did. -/
def valueAbsentSpec : ChangeSpec := { name := "valueAbsent", fn := fun _ => fun
  | [d1, d2] => { results := [.lit (.bool true)], args := [d1, d2] }
  | _ => none }
def valueAbsentRow : OpenClaim := { program := "ytnnijoepfgnlfaagreatdoor", sum := "3ccc00c115e6d709960cb65e42122e68b53be515ac0200a7578247df3ee442b5", func := "ogham/oghamlaw12.ValueAbsent", spec := "valueAbsent", unfollowed := true, recurses := true, named := ["unicode/utf8.first", "unicode/utf8.acceptRanges"], apart := false, laid := [("unicode/utf8.acceptRanges", laid_unicode_utf8_acceptRanges), ("unicode/utf8.first", laid_unicode_utf8_first)] }
def ValueAbsentSaid : Prop := valueAbsentRow.holds Tryz.pinned (OpenSpec.ofChange valueAbsentSpec)

/-- ITS FALSE NEIGHBOUR: 'it returns false'. Refute it at one input. -/
def valueAbsentWrong : ChangeSpec := { name := "valueAbsent", fn := fun _ => fun
  | [d1, d2] => { results := [.lit (.bool false)], args := [d1, d2] }
  | _ => none }
def ValueAbsentWrongFalsely : Prop := valueAbsentRow.holds Tryz.pinned (OpenSpec.ofChange valueAbsentWrong)

/-- 'oghamlaw12.ValueUnknowns': WHATEVER THE INPUT: true; the input reads as it did. -/
def valueUnknownsSpec : ChangeSpec := { name := "valueUnknowns", fn := fun _ => fun
  | [d1, d2, d3] => { results := [.lit (.bool true)], args := [d1, d2, d3] }
  | _ => none }
def valueUnknownsRow : OpenClaim := { program := "ytnnijoepfgnlfaagreatdoor", sum := "3ccc00c115e6d709960cb65e42122e68b53be515ac0200a7578247df3ee442b5", func := "ogham/oghamlaw12.ValueUnknowns", spec := "valueUnknowns", unfollowed := true, recurses := true, named := ["unicode/utf8.first", "unicode/utf8.acceptRanges"], apart := false, laid := [("unicode/utf8.acceptRanges", laid_unicode_utf8_acceptRanges), ("unicode/utf8.first", laid_unicode_utf8_first)] }
def ValueUnknownsSaid : Prop := valueUnknownsRow.holds Tryz.pinned (OpenSpec.ofChange valueUnknownsSpec)

/-- ITS FALSE NEIGHBOUR: 'it returns false'. Refute it at one input. -/
def valueUnknownsWrong : ChangeSpec := { name := "valueUnknowns", fn := fun _ => fun
  | [d1, d2, d3] => { results := [.lit (.bool false)], args := [d1, d2, d3] }
  | _ => none }
def ValueUnknownsWrongFalsely : Prop := valueUnknownsRow.holds Tryz.pinned (OpenSpec.ofChange valueUnknownsWrong)

/-- 'oghamlaw12.ValueDeep': WHATEVER THE INPUT: true; the input reads as it did. -/
def valueDeepSpec : ChangeSpec := { name := "valueDeep", fn := fun _ => fun
  | [d1, d2] => { results := [.lit (.bool true)], args := [d1, d2] }
  | _ => none }
def valueDeepRow : OpenClaim := { program := "ytnnijoepfgnlfaagreatdoor", sum := "3ccc00c115e6d709960cb65e42122e68b53be515ac0200a7578247df3ee442b5", func := "ogham/oghamlaw12.ValueDeep", spec := "valueDeep", unfollowed := true, recurses := true, named := ["unicode/utf8.first", "unicode/utf8.acceptRanges"], apart := false, laid := [("unicode/utf8.acceptRanges", laid_unicode_utf8_acceptRanges), ("unicode/utf8.first", laid_unicode_utf8_first)] }
def ValueDeepSaid : Prop := valueDeepRow.holds Tryz.pinned (OpenSpec.ofChange valueDeepSpec)

/-- ITS FALSE NEIGHBOUR: 'it returns false'. Refute it at one input. -/
def valueDeepWrong : ChangeSpec := { name := "valueDeep", fn := fun _ => fun
  | [d1, d2] => { results := [.lit (.bool false)], args := [d1, d2] }
  | _ => none }
def ValueDeepWrongFalsely : Prop := valueDeepRow.holds Tryz.pinned (OpenSpec.ofChange valueDeepWrong)

/-- 'oghamlaw12.ValueStrip': WHATEVER THE INPUT: true; the input reads as it did. -/
def valueStripSpec : ChangeSpec := { name := "valueStrip", fn := fun _ => fun
  | [d1, d2, d3] => { results := [.lit (.bool true)], args := [d1, d2, d3] }
  | _ => none }
def valueStripRow : OpenClaim := { program := "ytnnijoepfgnlfaagreatdoor", sum := "3ccc00c115e6d709960cb65e42122e68b53be515ac0200a7578247df3ee442b5", func := "ogham/oghamlaw12.ValueStrip", spec := "valueStrip", unfollowed := true, recurses := true, named := ["unicode/utf8.first", "unicode/utf8.acceptRanges"], loops := true, apart := false, laid := [("unicode/utf8.acceptRanges", laid_unicode_utf8_acceptRanges), ("unicode/utf8.first", laid_unicode_utf8_first)] }
def ValueStripSaid : Prop := valueStripRow.holds Tryz.pinned (OpenSpec.ofChange valueStripSpec)

/-- ITS FALSE NEIGHBOUR: 'it returns false'. Refute it at one input. -/
def valueStripWrong : ChangeSpec := { name := "valueStrip", fn := fun _ => fun
  | [d1, d2, d3] => { results := [.lit (.bool false)], args := [d1, d2, d3] }
  | _ => none }
def ValueStripWrongFalsely : Prop := valueStripRow.holds Tryz.pinned (OpenSpec.ofChange valueStripWrong)

/-- 'oghamlaw14.ProjectBack': WHATEVER THE INPUT: true; the input reads as it did. -/
def projectBackSpec : ChangeSpec := { name := "projectBack", fn := fun _ => fun
  | [d1, d2, d3, d4] => { results := [.lit (.bool true)], args := [d1, d2, d3, d4] }
  | _ => none }
def projectBackRow : OpenClaim := { program := "ytnnijoepfgnlfaagreatdoor", sum := "3ccc00c115e6d709960cb65e42122e68b53be515ac0200a7578247df3ee442b5", func := "ogham/oghamlaw14.ProjectBack", spec := "projectBack", unfollowed := true, recurses := true, named := ["unicode/utf8.first", "unicode/utf8.acceptRanges"], loops := true, apart := false, laid := [("unicode/utf8.acceptRanges", laid_unicode_utf8_acceptRanges), ("unicode/utf8.first", laid_unicode_utf8_first)] }
def ProjectBackSaid : Prop := projectBackRow.holds Tryz.pinned (OpenSpec.ofChange projectBackSpec)

/-- ITS FALSE NEIGHBOUR: 'it returns false'. Refute it at one input. -/
def projectBackWrong : ChangeSpec := { name := "projectBack", fn := fun _ => fun
  | [d1, d2, d3, d4] => { results := [.lit (.bool false)], args := [d1, d2, d3, d4] }
  | _ => none }
def ProjectBackWrongFalsely : Prop := projectBackRow.holds Tryz.pinned (OpenSpec.ofChange projectBackWrong)

/-- 'oghamlaw14.ProjectAdds': WHATEVER THE INPUT: true; the input reads as it did. -/
def projectAddsSpec : ChangeSpec := { name := "projectAdds", fn := fun _ => fun
  | [d1, d2, d3, d4] => { results := [.lit (.bool true)], args := [d1, d2, d3, d4] }
  | _ => none }
def projectAddsRow : OpenClaim := { program := "ytnnijoepfgnlfaagreatdoor", sum := "3ccc00c115e6d709960cb65e42122e68b53be515ac0200a7578247df3ee442b5", func := "ogham/oghamlaw14.ProjectAdds", spec := "projectAdds", unfollowed := true, recurses := true, named := ["unicode/utf8.first", "unicode/utf8.acceptRanges"], apart := false, laid := [("unicode/utf8.acceptRanges", laid_unicode_utf8_acceptRanges), ("unicode/utf8.first", laid_unicode_utf8_first)] }
def ProjectAddsSaid : Prop := projectAddsRow.holds Tryz.pinned (OpenSpec.ofChange projectAddsSpec)

/-- ITS FALSE NEIGHBOUR: 'it returns false'. Refute it at one input. -/
def projectAddsWrong : ChangeSpec := { name := "projectAdds", fn := fun _ => fun
  | [d1, d2, d3, d4] => { results := [.lit (.bool false)], args := [d1, d2, d3, d4] }
  | _ => none }
def ProjectAddsWrongFalsely : Prop := projectAddsRow.holds Tryz.pinned (OpenSpec.ofChange projectAddsWrong)

/- THE SECOND FORM. 'bulk': how many values and letters a reading holds, each counted each time it is reached (what is shared counts as often as it is met; a slice's spare places count too). A statement '..UptoSaid' is the law's where the arguments, and the package variables that the reading takes, are together of bulk at most 1048576: NARROWER than '..Said'. Prove '..Said' where nothing that the law and all that it calls make is longer than what came in: it says more and counts as full. Else prove '..UptoSaid'. A law counts once. -/
mutual
def uptoBulk {H : Type} : DataW H → Nat
  | .lit (.string bytes) => bytes.length + 1
  | .lit _ => 1
  | .nil => 1
  | .ptr d => uptoBulk d + 1
  | .slice elems spare => uptoBulkAll elems + uptoBulkAll spare + 1
  | .agg parts => uptoBulkAll parts + 1
  | .iface _ d => uptoBulk d + 1
  | .map entries => uptoBulkEntries entries + 1
  | .held _ => 1
def uptoBulkAll {H : Type} : List (DataW H) → Nat
  | [] => 0
  | d :: r => uptoBulk d + uptoBulkAll r
def uptoBulkEntries {H : Type} : List (Lit × DataW H) → Nat
  | [] => 0
  | x :: r => uptoBulkEntry x + uptoBulkEntries r
def uptoBulkEntry {H : Type} : Lit × DataW H → Nat
  | (.string bytes, d) => bytes.length + uptoBulk d + 1
  | (_, d) => uptoBulk d + 1
 end
def uptoSmall : (H : Type) → List (DataW H) → Bool := fun _ ds => decide (uptoBulkAll ds ≤ 1048576)
def OpenSpec.upto (s : _root_.Go.ChangeSpec) : _root_.Go.OpenSpec := { _root_.Go.OpenSpec.ofChange s with cond := some uptoSmall }

/-- 'oghamlaw11.OrderTells', WHERE WHAT IT READS IS OF BULK AT MOST 1048576: true; the input reads as it did. -/
def orderTellsUptoRow : OpenClaim := { program := "ytnnijoepfgnlfaagreatdoor", sum := "3ccc00c115e6d709960cb65e42122e68b53be515ac0200a7578247df3ee442b5", func := "ogham/oghamlaw11.OrderTells", spec := "orderTells", unfollowed := true, recurses := true, named := ["unicode/utf8.first", "unicode/utf8.acceptRanges"], apart := false, laid := [("unicode/utf8.acceptRanges", laid_unicode_utf8_acceptRanges), ("unicode/utf8.first", laid_unicode_utf8_first)], narrowed := true }
def OrderTellsUptoSaid : Prop := orderTellsUptoRow.holds Tryz.pinned (OpenSpec.upto orderTellsSpec)

/-- 'oghamlaw12.ValueSizes', WHERE WHAT IT READS IS OF BULK AT MOST 1048576: true; the input reads as it did. -/
def valueSizesUptoRow : OpenClaim := { program := "ytnnijoepfgnlfaagreatdoor", sum := "3ccc00c115e6d709960cb65e42122e68b53be515ac0200a7578247df3ee442b5", func := "ogham/oghamlaw12.ValueSizes", spec := "valueSizes", unfollowed := true, recurses := true, named := ["unicode/utf8.first", "unicode/utf8.acceptRanges"], apart := false, laid := [("unicode/utf8.acceptRanges", laid_unicode_utf8_acceptRanges), ("unicode/utf8.first", laid_unicode_utf8_first)], narrowed := true }
def ValueSizesUptoSaid : Prop := valueSizesUptoRow.holds Tryz.pinned (OpenSpec.upto valueSizesSpec)

/-- 'oghamlaw12.ValueAbsent', WHERE WHAT IT READS IS OF BULK AT MOST 1048576: true; the input reads as it did. -/
def valueAbsentUptoRow : OpenClaim := { program := "ytnnijoepfgnlfaagreatdoor", sum := "3ccc00c115e6d709960cb65e42122e68b53be515ac0200a7578247df3ee442b5", func := "ogham/oghamlaw12.ValueAbsent", spec := "valueAbsent", unfollowed := true, recurses := true, named := ["unicode/utf8.first", "unicode/utf8.acceptRanges"], apart := false, laid := [("unicode/utf8.acceptRanges", laid_unicode_utf8_acceptRanges), ("unicode/utf8.first", laid_unicode_utf8_first)], narrowed := true }
def ValueAbsentUptoSaid : Prop := valueAbsentUptoRow.holds Tryz.pinned (OpenSpec.upto valueAbsentSpec)

/-- 'oghamlaw12.ValueUnknowns', WHERE WHAT IT READS IS OF BULK AT MOST 1048576: true; the input reads as it did. -/
def valueUnknownsUptoRow : OpenClaim := { program := "ytnnijoepfgnlfaagreatdoor", sum := "3ccc00c115e6d709960cb65e42122e68b53be515ac0200a7578247df3ee442b5", func := "ogham/oghamlaw12.ValueUnknowns", spec := "valueUnknowns", unfollowed := true, recurses := true, named := ["unicode/utf8.first", "unicode/utf8.acceptRanges"], apart := false, laid := [("unicode/utf8.acceptRanges", laid_unicode_utf8_acceptRanges), ("unicode/utf8.first", laid_unicode_utf8_first)], narrowed := true }
def ValueUnknownsUptoSaid : Prop := valueUnknownsUptoRow.holds Tryz.pinned (OpenSpec.upto valueUnknownsSpec)

/-- 'oghamlaw12.ValueDeep', WHERE WHAT IT READS IS OF BULK AT MOST 1048576: true; the input reads as it did. -/
def valueDeepUptoRow : OpenClaim := { program := "ytnnijoepfgnlfaagreatdoor", sum := "3ccc00c115e6d709960cb65e42122e68b53be515ac0200a7578247df3ee442b5", func := "ogham/oghamlaw12.ValueDeep", spec := "valueDeep", unfollowed := true, recurses := true, named := ["unicode/utf8.first", "unicode/utf8.acceptRanges"], apart := false, laid := [("unicode/utf8.acceptRanges", laid_unicode_utf8_acceptRanges), ("unicode/utf8.first", laid_unicode_utf8_first)], narrowed := true }
def ValueDeepUptoSaid : Prop := valueDeepUptoRow.holds Tryz.pinned (OpenSpec.upto valueDeepSpec)

/-- 'oghamlaw12.ValueStrip', WHERE WHAT IT READS IS OF BULK AT MOST 1048576: true; the input reads as it did. -/
def valueStripUptoRow : OpenClaim := { program := "ytnnijoepfgnlfaagreatdoor", sum := "3ccc00c115e6d709960cb65e42122e68b53be515ac0200a7578247df3ee442b5", func := "ogham/oghamlaw12.ValueStrip", spec := "valueStrip", unfollowed := true, recurses := true, named := ["unicode/utf8.first", "unicode/utf8.acceptRanges"], loops := true, apart := false, laid := [("unicode/utf8.acceptRanges", laid_unicode_utf8_acceptRanges), ("unicode/utf8.first", laid_unicode_utf8_first)], narrowed := true }
def ValueStripUptoSaid : Prop := valueStripUptoRow.holds Tryz.pinned (OpenSpec.upto valueStripSpec)

/-- 'oghamlaw14.ProjectBack', WHERE WHAT IT READS IS OF BULK AT MOST 1048576: true; the input reads as it did. -/
def projectBackUptoRow : OpenClaim := { program := "ytnnijoepfgnlfaagreatdoor", sum := "3ccc00c115e6d709960cb65e42122e68b53be515ac0200a7578247df3ee442b5", func := "ogham/oghamlaw14.ProjectBack", spec := "projectBack", unfollowed := true, recurses := true, named := ["unicode/utf8.first", "unicode/utf8.acceptRanges"], loops := true, apart := false, laid := [("unicode/utf8.acceptRanges", laid_unicode_utf8_acceptRanges), ("unicode/utf8.first", laid_unicode_utf8_first)], narrowed := true }
def ProjectBackUptoSaid : Prop := projectBackUptoRow.holds Tryz.pinned (OpenSpec.upto projectBackSpec)

/-- 'oghamlaw14.ProjectAdds', WHERE WHAT IT READS IS OF BULK AT MOST 1048576: true; the input reads as it did. -/
def projectAddsUptoRow : OpenClaim := { program := "ytnnijoepfgnlfaagreatdoor", sum := "3ccc00c115e6d709960cb65e42122e68b53be515ac0200a7578247df3ee442b5", func := "ogham/oghamlaw14.ProjectAdds", spec := "projectAdds", unfollowed := true, recurses := true, named := ["unicode/utf8.first", "unicode/utf8.acceptRanges"], apart := false, laid := [("unicode/utf8.acceptRanges", laid_unicode_utf8_acceptRanges), ("unicode/utf8.first", laid_unicode_utf8_first)], narrowed := true }
def ProjectAddsUptoSaid : Prop := projectAddsUptoRow.holds Tryz.pinned (OpenSpec.upto projectAddsSpec)

end Rows
end Go.Proofs.YtnnijoepfgnlfaaGreatDoor
