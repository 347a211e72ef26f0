/-
  NARROWER THAN 'FOR EVERY INPUT', by the rows' own cells (each row's printed sentence says how): RefsTell: laid · RefsOrder: laid · RefsCircles: laid · RefsChain: laid · RefsMissing: laid.
  DERIVED. THE GIVEN ROWS OF THIS SEAT. 5 by the template 'for every input the law returns true; each argument reads behind the call as it read before'; 0 by the template 'total and deterministic' (their statements: YtdcdndflfhaejaaDoorTotals.lean).
  GIVEN WITH THE SEED: the statements are not yours to turn. If you find one false, say at which input.
  Laid BY PROGRAM, IN A SANDBOX (cutbox-rows.mjs): the forced cells as the released guide's own fill.sh prints them over the translation ee26e86c313c8e72… (all of the seat's roots in one cut). By AI agents, Wed Nov 11 2026. No macro, syntax, notation, axiom, sorry.
-/
import Derived.Test.YtdcdndflfhaejaaDoorChecked
import GoSem.PinnedTables
import GoSem.Claim
import GoSem.ClaimJoined
import GoSem.ClaimMapViews
import Derived.JoinedTies
import Derived.KernelRfl
namespace Go.Proofs.YtdcdndflfhaejaaDoor
/- THE CELL 'sum', in the pinned program and in every row, IS THE sha256 OF THE DUMP (.gsa) THAT YtdcdndflfhaejaaDoorProg.lean LOADS. Nothing in Lean hashes anything: it is a label: what it is worth is what the hold of that sum in a sandbox is worth. -/
noncomputable def Tryd.pinned : Pinned := { name := "ytdcdndflfhaejaadoor", sum := "ee26e86c313c8e72b385e433ec0a8c4b68bb7df4a918e2375c37da0a81e932ce", checked := Tryd.checked }
namespace Rows
def none {H : Type} : Left H := { results := [], args := [] }

/- WHAT THE LISTED PACKAGE-LEVEL VARIABLES READ AS WHEN THE CALL BEGINS. Each datum BY PROGRAM (the guide's laid-datum.mjs) off the statement by which the dump's own 'gosem.cut.vars' lays the variable. In a bare row this is a premise. The card (YtdcdndflfhaejaaDoorCards.lean) ties it to the program's text. -/
def laid_unicode_utf8_acceptRanges {H : Type} : DataW H := .agg [.agg [.lit (.int .u8 128), .lit (.int .u8 191)], .agg [.lit (.int .u8 160), .lit (.int .u8 191)], .agg [.lit (.int .u8 128), .lit (.int .u8 159)], .agg [.lit (.int .u8 144), .lit (.int .u8 191)], .agg [.lit (.int .u8 128), .lit (.int .u8 143)], .agg [.lit (.int .u8 0), .lit (.int .u8 0)], .agg [.lit (.int .u8 0), .lit (.int .u8 0)], .agg [.lit (.int .u8 0), .lit (.int .u8 0)], .agg [.lit (.int .u8 0), .lit (.int .u8 0)], .agg [.lit (.int .u8 0), .lit (.int .u8 0)], .agg [.lit (.int .u8 0), .lit (.int .u8 0)], .agg [.lit (.int .u8 0), .lit (.int .u8 0)], .agg [.lit (.int .u8 0), .lit (.int .u8 0)], .agg [.lit (.int .u8 0), .lit (.int .u8 0)], .agg [.lit (.int .u8 0), .lit (.int .u8 0)], .agg [.lit (.int .u8 0), .lit (.int .u8 0)]]
/-- One of Go's own tables, pinned by name: the form's constant. -/
def laid_unicode_utf8_first : DataW Unit := Go.Pinned.utf8First

/-- 'oghamlaw07.RefsTell': WHATEVER THE INPUT: true; the input reads as it did. -/
def refsTellSpec : ChangeSpec := { name := "refsTell", fn := fun _ => fun
  | [d1, d2, d3] => { results := [.lit (.bool true)], args := [d1, d2, d3] }
  | _ => none }
def refsTellRow : OpenClaim := { program := "ytdcdndflfhaejaadoor", sum := "ee26e86c313c8e72b385e433ec0a8c4b68bb7df4a918e2375c37da0a81e932ce", func := "ogham/oghamlaw07.RefsTell", spec := "refsTell", unfollowed := true, recurses := true, named := ["unicode/utf8.first", "unicode/utf8.acceptRanges"], apart := false, laid := [("unicode/utf8.acceptRanges", laid_unicode_utf8_acceptRanges), ("unicode/utf8.first", laid_unicode_utf8_first)] }
def RefsTellSaid : Prop := refsTellRow.holds Tryd.pinned (OpenSpec.ofChange refsTellSpec)

/-- ITS FALSE NEIGHBOUR: 'it returns false'. Refute it at one input. -/
def refsTellWrong : ChangeSpec := { name := "refsTell", fn := fun _ => fun
  | [d1, d2, d3] => { results := [.lit (.bool false)], args := [d1, d2, d3] }
  | _ => none }
def RefsTellWrongFalsely : Prop := refsTellRow.holds Tryd.pinned (OpenSpec.ofChange refsTellWrong)

/-- 'oghamlaw07.RefsOrder': WHATEVER THE INPUT: true; the input reads as it did. -/
def refsOrderSpec : ChangeSpec := { name := "refsOrder", fn := fun _ => fun
  | [d] => { results := [.lit (.bool true)], args := [d] }
  | _ => none }
def refsOrderRow : OpenClaim := { program := "ytdcdndflfhaejaadoor", sum := "ee26e86c313c8e72b385e433ec0a8c4b68bb7df4a918e2375c37da0a81e932ce", func := "ogham/oghamlaw07.RefsOrder", spec := "refsOrder", unfollowed := true, recurses := true, named := ["unicode/utf8.first", "unicode/utf8.acceptRanges"], apart := false, laid := [("unicode/utf8.acceptRanges", laid_unicode_utf8_acceptRanges), ("unicode/utf8.first", laid_unicode_utf8_first)] }
def RefsOrderSaid : Prop := refsOrderRow.holds Tryd.pinned (OpenSpec.ofChange refsOrderSpec)

/-- ITS FALSE NEIGHBOUR: 'it returns false'. Refute it at one input. -/
def refsOrderWrong : ChangeSpec := { name := "refsOrder", fn := fun _ => fun
  | [d] => { results := [.lit (.bool false)], args := [d] }
  | _ => none }
def RefsOrderWrongFalsely : Prop := refsOrderRow.holds Tryd.pinned (OpenSpec.ofChange refsOrderWrong)

/-- 'oghamlaw07.RefsCircles': WHATEVER THE INPUT: true; the input reads as it did. -/
def refsCirclesSpec : ChangeSpec := { name := "refsCircles", fn := fun _ => fun
  | [d1, d2, d3] => { results := [.lit (.bool true)], args := [d1, d2, d3] }
  | _ => none }
def refsCirclesRow : OpenClaim := { program := "ytdcdndflfhaejaadoor", sum := "ee26e86c313c8e72b385e433ec0a8c4b68bb7df4a918e2375c37da0a81e932ce", func := "ogham/oghamlaw07.RefsCircles", spec := "refsCircles", unfollowed := true, recurses := true, named := ["unicode/utf8.first", "unicode/utf8.acceptRanges"], apart := false, laid := [("unicode/utf8.acceptRanges", laid_unicode_utf8_acceptRanges), ("unicode/utf8.first", laid_unicode_utf8_first)] }
def RefsCirclesSaid : Prop := refsCirclesRow.holds Tryd.pinned (OpenSpec.ofChange refsCirclesSpec)

/-- ITS FALSE NEIGHBOUR: 'it returns false'. Refute it at one input. -/
def refsCirclesWrong : ChangeSpec := { name := "refsCircles", fn := fun _ => fun
  | [d1, d2, d3] => { results := [.lit (.bool false)], args := [d1, d2, d3] }
  | _ => none }
def RefsCirclesWrongFalsely : Prop := refsCirclesRow.holds Tryd.pinned (OpenSpec.ofChange refsCirclesWrong)

/-- 'oghamlaw07.RefsChain': WHATEVER THE INPUT: true; the input reads as it did. -/
def refsChainSpec : ChangeSpec := { name := "refsChain", fn := fun _ => fun
  | [d] => { results := [.lit (.bool true)], args := [d] }
  | _ => none }
def refsChainRow : OpenClaim := { program := "ytdcdndflfhaejaadoor", sum := "ee26e86c313c8e72b385e433ec0a8c4b68bb7df4a918e2375c37da0a81e932ce", func := "ogham/oghamlaw07.RefsChain", spec := "refsChain", unfollowed := true, recurses := true, named := ["unicode/utf8.first", "unicode/utf8.acceptRanges"], apart := false, laid := [("unicode/utf8.acceptRanges", laid_unicode_utf8_acceptRanges), ("unicode/utf8.first", laid_unicode_utf8_first)] }
def RefsChainSaid : Prop := refsChainRow.holds Tryd.pinned (OpenSpec.ofChange refsChainSpec)

/-- ITS FALSE NEIGHBOUR: 'it returns false'. Refute it at one input. -/
def refsChainWrong : ChangeSpec := { name := "refsChain", fn := fun _ => fun
  | [d] => { results := [.lit (.bool false)], args := [d] }
  | _ => none }
def RefsChainWrongFalsely : Prop := refsChainRow.holds Tryd.pinned (OpenSpec.ofChange refsChainWrong)

/-- 'oghamlaw07.RefsMissing': WHATEVER THE INPUT: true; the input reads as it did. -/
def refsMissingSpec : ChangeSpec := { name := "refsMissing", fn := fun _ => fun
  | [d1, d2, d3] => { results := [.lit (.bool true)], args := [d1, d2, d3] }
  | _ => none }
def refsMissingRow : OpenClaim := { program := "ytdcdndflfhaejaadoor", sum := "ee26e86c313c8e72b385e433ec0a8c4b68bb7df4a918e2375c37da0a81e932ce", func := "ogham/oghamlaw07.RefsMissing", spec := "refsMissing", unfollowed := true, recurses := true, named := ["unicode/utf8.first", "unicode/utf8.acceptRanges"], apart := false, laid := [("unicode/utf8.acceptRanges", laid_unicode_utf8_acceptRanges), ("unicode/utf8.first", laid_unicode_utf8_first)] }
def RefsMissingSaid : Prop := refsMissingRow.holds Tryd.pinned (OpenSpec.ofChange refsMissingSpec)

/-- ITS FALSE NEIGHBOUR: 'it returns false'. Refute it at one input. -/
def refsMissingWrong : ChangeSpec := { name := "refsMissing", fn := fun _ => fun
  | [d1, d2, d3] => { results := [.lit (.bool false)], args := [d1, d2, d3] }
  | _ => none }
def RefsMissingWrongFalsely : Prop := refsMissingRow.holds Tryd.pinned (OpenSpec.ofChange refsMissingWrong)

/- THE SECOND FORM. 'bulk': how many values and letters a reading holds, each counted each time it is reached (what is shared counts as often as it is met; a slice's spare places count too). A statement '..UptoSaid' is the law's where the arguments, and the package variables that the reading takes, are together of bulk at most 1048576: NARROWER than '..Said'. Prove '..Said' where nothing that the law and all that it calls make is longer than what came in: it says more and counts as full. Else prove '..UptoSaid'. A law counts once. -/
mutual
def uptoBulk {H : Type} : DataW H → Nat
  | .lit (.string bytes) => bytes.length + 1
  | .lit _ => 1
  | .nil => 1
  | .ptr d => uptoBulk d + 1
  | .slice elems spare => uptoBulkAll elems + uptoBulkAll spare + 1
  | .agg parts => uptoBulkAll parts + 1
  | .iface _ d => uptoBulk d + 1
  | .map entries => uptoBulkEntries entries + 1
  | .held _ => 1
def uptoBulkAll {H : Type} : List (DataW H) → Nat
  | [] => 0
  | d :: r => uptoBulk d + uptoBulkAll r
def uptoBulkEntries {H : Type} : List (Lit × DataW H) → Nat
  | [] => 0
  | x :: r => uptoBulkEntry x + uptoBulkEntries r
def uptoBulkEntry {H : Type} : Lit × DataW H → Nat
  | (.string bytes, d) => bytes.length + uptoBulk d + 1
  | (_, d) => uptoBulk d + 1
 end
def uptoSmall : (H : Type) → List (DataW H) → Bool := fun _ ds => decide (uptoBulkAll ds ≤ 1048576)
def OpenSpec.upto (s : _root_.Go.ChangeSpec) : _root_.Go.OpenSpec := { _root_.Go.OpenSpec.ofChange s with cond := some uptoSmall }

/-- 'oghamlaw07.RefsTell', WHERE WHAT IT READS IS OF BULK AT MOST 1048576: true; the input reads as it did. -/
def refsTellUptoRow : OpenClaim := { program := "ytdcdndflfhaejaadoor", sum := "ee26e86c313c8e72b385e433ec0a8c4b68bb7df4a918e2375c37da0a81e932ce", func := "ogham/oghamlaw07.RefsTell", spec := "refsTell", unfollowed := true, recurses := true, named := ["unicode/utf8.first", "unicode/utf8.acceptRanges"], apart := false, laid := [("unicode/utf8.acceptRanges", laid_unicode_utf8_acceptRanges), ("unicode/utf8.first", laid_unicode_utf8_first)], narrowed := true }
def RefsTellUptoSaid : Prop := refsTellUptoRow.holds Tryd.pinned (OpenSpec.upto refsTellSpec)

/-- 'oghamlaw07.RefsOrder', WHERE WHAT IT READS IS OF BULK AT MOST 1048576: true; the input reads as it did. -/
def refsOrderUptoRow : OpenClaim := { program := "ytdcdndflfhaejaadoor", sum := "ee26e86c313c8e72b385e433ec0a8c4b68bb7df4a918e2375c37da0a81e932ce", func := "ogham/oghamlaw07.RefsOrder", spec := "refsOrder", unfollowed := true, recurses := true, named := ["unicode/utf8.first", "unicode/utf8.acceptRanges"], apart := false, laid := [("unicode/utf8.acceptRanges", laid_unicode_utf8_acceptRanges), ("unicode/utf8.first", laid_unicode_utf8_first)], narrowed := true }
def RefsOrderUptoSaid : Prop := refsOrderUptoRow.holds Tryd.pinned (OpenSpec.upto refsOrderSpec)

/-- 'oghamlaw07.RefsCircles', WHERE WHAT IT READS IS OF BULK AT MOST 1048576: true; the input reads as it did. -/
def refsCirclesUptoRow : OpenClaim := { program := "ytdcdndflfhaejaadoor", sum := "ee26e86c313c8e72b385e433ec0a8c4b68bb7df4a918e2375c37da0a81e932ce", func := "ogham/oghamlaw07.RefsCircles", spec := "refsCircles", unfollowed := true, recurses := true, named := ["unicode/utf8.first", "unicode/utf8.acceptRanges"], apart := false, laid := [("unicode/utf8.acceptRanges", laid_unicode_utf8_acceptRanges), ("unicode/utf8.first", laid_unicode_utf8_first)], narrowed := true }
def RefsCirclesUptoSaid : Prop := refsCirclesUptoRow.holds Tryd.pinned (OpenSpec.upto refsCirclesSpec)

/-- 'oghamlaw07.RefsChain', WHERE WHAT IT READS IS OF BULK AT MOST 1048576: true; the input reads as it did. -/
def refsChainUptoRow : OpenClaim := { program := "ytdcdndflfhaejaadoor", sum := "ee26e86c313c8e72b385e433ec0a8c4b68bb7df4a918e2375c37da0a81e932ce", func := "ogham/oghamlaw07.RefsChain", spec := "refsChain", unfollowed := true, recurses := true, named := ["unicode/utf8.first", "unicode/utf8.acceptRanges"], apart := false, laid := [("unicode/utf8.acceptRanges", laid_unicode_utf8_acceptRanges), ("unicode/utf8.first", laid_unicode_utf8_first)], narrowed := true }
def RefsChainUptoSaid : Prop := refsChainUptoRow.holds Tryd.pinned (OpenSpec.upto refsChainSpec)

/-- 'oghamlaw07.RefsMissing', WHERE WHAT IT READS IS OF BULK AT MOST 1048576: true; the input reads as it did. -/
def refsMissingUptoRow : OpenClaim := { program := "ytdcdndflfhaejaadoor", sum := "ee26e86c313c8e72b385e433ec0a8c4b68bb7df4a918e2375c37da0a81e932ce", func := "ogham/oghamlaw07.RefsMissing", spec := "refsMissing", unfollowed := true, recurses := true, named := ["unicode/utf8.first", "unicode/utf8.acceptRanges"], apart := false, laid := [("unicode/utf8.acceptRanges", laid_unicode_utf8_acceptRanges), ("unicode/utf8.first", laid_unicode_utf8_first)], narrowed := true }
def RefsMissingUptoSaid : Prop := refsMissingUptoRow.holds Tryd.pinned (OpenSpec.upto refsMissingSpec)

end Rows
end Go.Proofs.YtdcdndflfhaejaaDoor
