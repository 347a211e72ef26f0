/-
  NARROWER THAN 'FOR EVERY INPUT', by the rows' own cells (each row's printed sentence says how): TableSound: laid · TableNumbers: laid · TableAutomatic: laid · TableMarks: laid · TableClash: laid · TableRefs: laid · TableDefaults: laid · TableWild: laid.
  DERIVED. THE GIVEN ROWS OF THIS SEAT. 8 by the template 'for every input the law returns true; each argument reads behind the call as it read before'; 0 by the template 'total and deterministic' (their statements: YtiibmpdjkdjbiaaGreatDoorTotals.lean).
  GIVEN WITH THE SEED: the statements are not yours to turn. If you find one false, say at which input.
  Laid BY PROGRAM, IN A SANDBOX (cutbox-rows.mjs): the forced cells as the released guide's own fill.sh prints them over the translation 1e81f9c2d681af4f… (all of the seat's roots in one cut). By AI agents, Wed Nov 11 2026. No macro, syntax, notation, axiom, sorry.
-/
import Derived.Test.YtiibmpdjkdjbiaaGreatDoorChecked
import GoSem.PinnedTables
import GoSem.Claim
import GoSem.ClaimJoined
import GoSem.ClaimMapViews
import Derived.JoinedTies
import Derived.KernelRfl
namespace Go.Proofs.YtiibmpdjkdjbiaaGreatDoor
/- THE CELL 'sum', in the pinned program and in every row, IS THE sha256 OF THE DUMP (.gsa) THAT YtiibmpdjkdjbiaaGreatDoorProg.lean LOADS. Nothing in Lean hashes anything: it is a label: what it is worth is what the hold of that sum in a sandbox is worth. -/
noncomputable def Tryz.pinned : Pinned := { name := "ytiibmpdjkdjbiaagreatdoor", sum := "1e81f9c2d681af4ffa1822e8c2b40f8a374785576977b292c9ead4e2806ae170", checked := Tryz.checked }
namespace Rows
def none {H : Type} : Left H := { results := [], args := [] }

/- WHAT THE LISTED PACKAGE-LEVEL VARIABLES READ AS WHEN THE CALL BEGINS. Each datum BY PROGRAM (the guide's laid-datum.mjs) off the statement by which the dump's own 'gosem.cut.vars' lays the variable. In a bare row this is a premise. The card (YtiibmpdjkdjbiaaGreatDoorCards.lean) ties it to the program's text. -/
def laid_unicode_utf8_acceptRanges {H : Type} : DataW H := .agg [.agg [.lit (.int .u8 128), .lit (.int .u8 191)], .agg [.lit (.int .u8 160), .lit (.int .u8 191)], .agg [.lit (.int .u8 128), .lit (.int .u8 159)], .agg [.lit (.int .u8 144), .lit (.int .u8 191)], .agg [.lit (.int .u8 128), .lit (.int .u8 143)], .agg [.lit (.int .u8 0), .lit (.int .u8 0)], .agg [.lit (.int .u8 0), .lit (.int .u8 0)], .agg [.lit (.int .u8 0), .lit (.int .u8 0)], .agg [.lit (.int .u8 0), .lit (.int .u8 0)], .agg [.lit (.int .u8 0), .lit (.int .u8 0)], .agg [.lit (.int .u8 0), .lit (.int .u8 0)], .agg [.lit (.int .u8 0), .lit (.int .u8 0)], .agg [.lit (.int .u8 0), .lit (.int .u8 0)], .agg [.lit (.int .u8 0), .lit (.int .u8 0)], .agg [.lit (.int .u8 0), .lit (.int .u8 0)], .agg [.lit (.int .u8 0), .lit (.int .u8 0)]]
/-- One of Go's own tables, pinned by name: the form's constant. -/
def laid_unicode_utf8_first : DataW Unit := Go.Pinned.utf8First

/-- 'oghamlaw10.TableSound': WHATEVER THE INPUT: true; the input reads as it did. -/
def tableSoundSpec : ChangeSpec := { name := "tableSound", fn := fun _ => fun
  | [d] => { results := [.lit (.bool true)], args := [d] }
  | _ => none }
def tableSoundRow : OpenClaim := { program := "ytiibmpdjkdjbiaagreatdoor", sum := "1e81f9c2d681af4ffa1822e8c2b40f8a374785576977b292c9ead4e2806ae170", func := "ogham/oghamlaw10.TableSound", spec := "tableSound", unfollowed := true, recurses := true, named := ["unicode/utf8.first", "unicode/utf8.acceptRanges"], plainKeys := false, apart := false, laid := [("unicode/utf8.acceptRanges", laid_unicode_utf8_acceptRanges), ("unicode/utf8.first", laid_unicode_utf8_first)] }
def TableSoundSaid : Prop := tableSoundRow.holds Tryz.pinned (OpenSpec.ofChange tableSoundSpec)

/-- ITS FALSE NEIGHBOUR: 'it returns false'. Refute it at one input. -/
def tableSoundWrong : ChangeSpec := { name := "tableSound", fn := fun _ => fun
  | [d] => { results := [.lit (.bool false)], args := [d] }
  | _ => none }
def TableSoundWrongFalsely : Prop := tableSoundRow.holds Tryz.pinned (OpenSpec.ofChange tableSoundWrong)

/-- 'oghamlaw10.TableNumbers': WHATEVER THE INPUT: true; the input reads as it did. -/
def tableNumbersSpec : ChangeSpec := { name := "tableNumbers", fn := fun _ => fun
  | [d1, d2, d3] => { results := [.lit (.bool true)], args := [d1, d2, d3] }
  | _ => none }
def tableNumbersRow : OpenClaim := { program := "ytiibmpdjkdjbiaagreatdoor", sum := "1e81f9c2d681af4ffa1822e8c2b40f8a374785576977b292c9ead4e2806ae170", func := "ogham/oghamlaw10.TableNumbers", spec := "tableNumbers", unfollowed := true, recurses := true, named := ["unicode/utf8.first", "unicode/utf8.acceptRanges"], plainKeys := false, apart := false, laid := [("unicode/utf8.acceptRanges", laid_unicode_utf8_acceptRanges), ("unicode/utf8.first", laid_unicode_utf8_first)] }
def TableNumbersSaid : Prop := tableNumbersRow.holds Tryz.pinned (OpenSpec.ofChange tableNumbersSpec)

/-- ITS FALSE NEIGHBOUR: 'it returns false'. Refute it at one input. -/
def tableNumbersWrong : ChangeSpec := { name := "tableNumbers", fn := fun _ => fun
  | [d1, d2, d3] => { results := [.lit (.bool false)], args := [d1, d2, d3] }
  | _ => none }
def TableNumbersWrongFalsely : Prop := tableNumbersRow.holds Tryz.pinned (OpenSpec.ofChange tableNumbersWrong)

/-- 'oghamlaw10.TableAutomatic': WHATEVER THE INPUT: true; the input reads as it did. -/
def tableAutomaticSpec : ChangeSpec := { name := "tableAutomatic", fn := fun _ => fun
  | [d1, d2] => { results := [.lit (.bool true)], args := [d1, d2] }
  | _ => none }
def tableAutomaticRow : OpenClaim := { program := "ytiibmpdjkdjbiaagreatdoor", sum := "1e81f9c2d681af4ffa1822e8c2b40f8a374785576977b292c9ead4e2806ae170", func := "ogham/oghamlaw10.TableAutomatic", spec := "tableAutomatic", unfollowed := true, recurses := true, named := ["unicode/utf8.first", "unicode/utf8.acceptRanges"], plainKeys := false, apart := false, laid := [("unicode/utf8.acceptRanges", laid_unicode_utf8_acceptRanges), ("unicode/utf8.first", laid_unicode_utf8_first)] }
def TableAutomaticSaid : Prop := tableAutomaticRow.holds Tryz.pinned (OpenSpec.ofChange tableAutomaticSpec)

/-- ITS FALSE NEIGHBOUR: 'it returns false'. Refute it at one input. -/
def tableAutomaticWrong : ChangeSpec := { name := "tableAutomatic", fn := fun _ => fun
  | [d1, d2] => { results := [.lit (.bool false)], args := [d1, d2] }
  | _ => none }
def TableAutomaticWrongFalsely : Prop := tableAutomaticRow.holds Tryz.pinned (OpenSpec.ofChange tableAutomaticWrong)

/-- 'oghamlaw10.TableMarks': WHATEVER THE INPUT: true; the input reads as it did. -/
def tableMarksSpec : ChangeSpec := { name := "tableMarks", fn := fun _ => fun
  | [d1, d2, d3, d4] => { results := [.lit (.bool true)], args := [d1, d2, d3, d4] }
  | _ => none }
def tableMarksRow : OpenClaim := { program := "ytiibmpdjkdjbiaagreatdoor", sum := "1e81f9c2d681af4ffa1822e8c2b40f8a374785576977b292c9ead4e2806ae170", func := "ogham/oghamlaw10.TableMarks", spec := "tableMarks", unfollowed := true, recurses := true, named := ["unicode/utf8.first", "unicode/utf8.acceptRanges"], plainKeys := false, apart := false, laid := [("unicode/utf8.acceptRanges", laid_unicode_utf8_acceptRanges), ("unicode/utf8.first", laid_unicode_utf8_first)] }
def TableMarksSaid : Prop := tableMarksRow.holds Tryz.pinned (OpenSpec.ofChange tableMarksSpec)

/-- ITS FALSE NEIGHBOUR: 'it returns false'. Refute it at one input. -/
def tableMarksWrong : ChangeSpec := { name := "tableMarks", fn := fun _ => fun
  | [d1, d2, d3, d4] => { results := [.lit (.bool false)], args := [d1, d2, d3, d4] }
  | _ => none }
def TableMarksWrongFalsely : Prop := tableMarksRow.holds Tryz.pinned (OpenSpec.ofChange tableMarksWrong)

/-- 'oghamlaw10.TableClash': WHATEVER THE INPUT: true; the input reads as it did. -/
def tableClashSpec : ChangeSpec := { name := "tableClash", fn := fun _ => fun
  | [d1, d2, d3] => { results := [.lit (.bool true)], args := [d1, d2, d3] }
  | _ => none }
def tableClashRow : OpenClaim := { program := "ytiibmpdjkdjbiaagreatdoor", sum := "1e81f9c2d681af4ffa1822e8c2b40f8a374785576977b292c9ead4e2806ae170", func := "ogham/oghamlaw10.TableClash", spec := "tableClash", unfollowed := true, recurses := true, named := ["unicode/utf8.first", "unicode/utf8.acceptRanges"], plainKeys := false, apart := false, laid := [("unicode/utf8.acceptRanges", laid_unicode_utf8_acceptRanges), ("unicode/utf8.first", laid_unicode_utf8_first)] }
def TableClashSaid : Prop := tableClashRow.holds Tryz.pinned (OpenSpec.ofChange tableClashSpec)

/-- ITS FALSE NEIGHBOUR: 'it returns false'. Refute it at one input. -/
def tableClashWrong : ChangeSpec := { name := "tableClash", fn := fun _ => fun
  | [d1, d2, d3] => { results := [.lit (.bool false)], args := [d1, d2, d3] }
  | _ => none }
def TableClashWrongFalsely : Prop := tableClashRow.holds Tryz.pinned (OpenSpec.ofChange tableClashWrong)

/-- 'oghamlaw10.TableRefs': WHATEVER THE INPUT: true; the input reads as it did. -/
def tableRefsSpec : ChangeSpec := { name := "tableRefs", fn := fun _ => fun
  | [d1, d2] => { results := [.lit (.bool true)], args := [d1, d2] }
  | _ => none }
def tableRefsRow : OpenClaim := { program := "ytiibmpdjkdjbiaagreatdoor", sum := "1e81f9c2d681af4ffa1822e8c2b40f8a374785576977b292c9ead4e2806ae170", func := "ogham/oghamlaw10.TableRefs", spec := "tableRefs", unfollowed := true, recurses := true, named := ["unicode/utf8.first", "unicode/utf8.acceptRanges"], plainKeys := false, apart := false, laid := [("unicode/utf8.acceptRanges", laid_unicode_utf8_acceptRanges), ("unicode/utf8.first", laid_unicode_utf8_first)] }
def TableRefsSaid : Prop := tableRefsRow.holds Tryz.pinned (OpenSpec.ofChange tableRefsSpec)

/-- ITS FALSE NEIGHBOUR: 'it returns false'. Refute it at one input. -/
def tableRefsWrong : ChangeSpec := { name := "tableRefs", fn := fun _ => fun
  | [d1, d2] => { results := [.lit (.bool false)], args := [d1, d2] }
  | _ => none }
def TableRefsWrongFalsely : Prop := tableRefsRow.holds Tryz.pinned (OpenSpec.ofChange tableRefsWrong)

/-- 'oghamlaw10.TableDefaults': WHATEVER THE INPUT: true; the input reads as it did. -/
def tableDefaultsSpec : ChangeSpec := { name := "tableDefaults", fn := fun _ => fun
  | [d1, d2, d3, d4, d5] => { results := [.lit (.bool true)], args := [d1, d2, d3, d4, d5] }
  | _ => none }
def tableDefaultsRow : OpenClaim := { program := "ytiibmpdjkdjbiaagreatdoor", sum := "1e81f9c2d681af4ffa1822e8c2b40f8a374785576977b292c9ead4e2806ae170", func := "ogham/oghamlaw10.TableDefaults", spec := "tableDefaults", unfollowed := true, recurses := true, named := ["unicode/utf8.first", "unicode/utf8.acceptRanges"], plainKeys := false, apart := false, laid := [("unicode/utf8.acceptRanges", laid_unicode_utf8_acceptRanges), ("unicode/utf8.first", laid_unicode_utf8_first)] }
def TableDefaultsSaid : Prop := tableDefaultsRow.holds Tryz.pinned (OpenSpec.ofChange tableDefaultsSpec)

/-- ITS FALSE NEIGHBOUR: 'it returns false'. Refute it at one input. -/
def tableDefaultsWrong : ChangeSpec := { name := "tableDefaults", fn := fun _ => fun
  | [d1, d2, d3, d4, d5] => { results := [.lit (.bool false)], args := [d1, d2, d3, d4, d5] }
  | _ => none }
def TableDefaultsWrongFalsely : Prop := tableDefaultsRow.holds Tryz.pinned (OpenSpec.ofChange tableDefaultsWrong)

/-- 'oghamlaw10.TableWild': WHATEVER THE INPUT: true; the input reads as it did. -/
def tableWildSpec : ChangeSpec := { name := "tableWild", fn := fun _ => fun
  | [d1, d2, d3, d4, d5] => { results := [.lit (.bool true)], args := [d1, d2, d3, d4, d5] }
  | _ => none }
def tableWildRow : OpenClaim := { program := "ytiibmpdjkdjbiaagreatdoor", sum := "1e81f9c2d681af4ffa1822e8c2b40f8a374785576977b292c9ead4e2806ae170", func := "ogham/oghamlaw10.TableWild", spec := "tableWild", unfollowed := true, recurses := true, named := ["unicode/utf8.first", "unicode/utf8.acceptRanges"], plainKeys := false, apart := false, laid := [("unicode/utf8.acceptRanges", laid_unicode_utf8_acceptRanges), ("unicode/utf8.first", laid_unicode_utf8_first)] }
def TableWildSaid : Prop := tableWildRow.holds Tryz.pinned (OpenSpec.ofChange tableWildSpec)

/-- ITS FALSE NEIGHBOUR: 'it returns false'. Refute it at one input. -/
def tableWildWrong : ChangeSpec := { name := "tableWild", fn := fun _ => fun
  | [d1, d2, d3, d4, d5] => { results := [.lit (.bool false)], args := [d1, d2, d3, d4, d5] }
  | _ => none }
def TableWildWrongFalsely : Prop := tableWildRow.holds Tryz.pinned (OpenSpec.ofChange tableWildWrong)

/- THE SECOND FORM. 'bulk': how many values and letters a reading holds, each counted each time it is reached (what is shared counts as often as it is met; a slice's spare places count too). A statement '..UptoSaid' is the law's where the arguments, and the package variables that the reading takes, are together of bulk at most 1048576: NARROWER than '..Said'. Prove '..Said' where nothing that the law and all that it calls make is longer than what came in: it says more and counts as full. Else prove '..UptoSaid'. A law counts once. -/
mutual
def uptoBulk {H : Type} : DataW H → Nat
  | .lit (.string bytes) => bytes.length + 1
  | .lit _ => 1
  | .nil => 1
  | .ptr d => uptoBulk d + 1
  | .slice elems spare => uptoBulkAll elems + uptoBulkAll spare + 1
  | .agg parts => uptoBulkAll parts + 1
  | .iface _ d => uptoBulk d + 1
  | .map entries => uptoBulkEntries entries + 1
  | .held _ => 1
def uptoBulkAll {H : Type} : List (DataW H) → Nat
  | [] => 0
  | d :: r => uptoBulk d + uptoBulkAll r
def uptoBulkEntries {H : Type} : List (Lit × DataW H) → Nat
  | [] => 0
  | x :: r => uptoBulkEntry x + uptoBulkEntries r
def uptoBulkEntry {H : Type} : Lit × DataW H → Nat
  | (.string bytes, d) => bytes.length + uptoBulk d + 1
  | (_, d) => uptoBulk d + 1
 end
def uptoSmall : (H : Type) → List (DataW H) → Bool := fun _ ds => decide (uptoBulkAll ds ≤ 1048576)
def OpenSpec.upto (s : _root_.Go.ChangeSpec) : _root_.Go.OpenSpec := { _root_.Go.OpenSpec.ofChange s with cond := some uptoSmall }

/-- 'oghamlaw10.TableSound', WHERE WHAT IT READS IS OF BULK AT MOST 1048576: true; the input reads as it did. -/
def tableSoundUptoRow : OpenClaim := { program := "ytiibmpdjkdjbiaagreatdoor", sum := "1e81f9c2d681af4ffa1822e8c2b40f8a374785576977b292c9ead4e2806ae170", func := "ogham/oghamlaw10.TableSound", spec := "tableSound", unfollowed := true, recurses := true, named := ["unicode/utf8.first", "unicode/utf8.acceptRanges"], plainKeys := false, apart := false, laid := [("unicode/utf8.acceptRanges", laid_unicode_utf8_acceptRanges), ("unicode/utf8.first", laid_unicode_utf8_first)], narrowed := true }
def TableSoundUptoSaid : Prop := tableSoundUptoRow.holds Tryz.pinned (OpenSpec.upto tableSoundSpec)

/-- 'oghamlaw10.TableNumbers', WHERE WHAT IT READS IS OF BULK AT MOST 1048576: true; the input reads as it did. -/
def tableNumbersUptoRow : OpenClaim := { program := "ytiibmpdjkdjbiaagreatdoor", sum := "1e81f9c2d681af4ffa1822e8c2b40f8a374785576977b292c9ead4e2806ae170", func := "ogham/oghamlaw10.TableNumbers", spec := "tableNumbers", unfollowed := true, recurses := true, named := ["unicode/utf8.first", "unicode/utf8.acceptRanges"], plainKeys := false, apart := false, laid := [("unicode/utf8.acceptRanges", laid_unicode_utf8_acceptRanges), ("unicode/utf8.first", laid_unicode_utf8_first)], narrowed := true }
def TableNumbersUptoSaid : Prop := tableNumbersUptoRow.holds Tryz.pinned (OpenSpec.upto tableNumbersSpec)

/-- 'oghamlaw10.TableAutomatic', WHERE WHAT IT READS IS OF BULK AT MOST 1048576: true; the input reads as it did. -/
def tableAutomaticUptoRow : OpenClaim := { program := "ytiibmpdjkdjbiaagreatdoor", sum := "1e81f9c2d681af4ffa1822e8c2b40f8a374785576977b292c9ead4e2806ae170", func := "ogham/oghamlaw10.TableAutomatic", spec := "tableAutomatic", unfollowed := true, recurses := true, named := ["unicode/utf8.first", "unicode/utf8.acceptRanges"], plainKeys := false, apart := false, laid := [("unicode/utf8.acceptRanges", laid_unicode_utf8_acceptRanges), ("unicode/utf8.first", laid_unicode_utf8_first)], narrowed := true }
def TableAutomaticUptoSaid : Prop := tableAutomaticUptoRow.holds Tryz.pinned (OpenSpec.upto tableAutomaticSpec)

/-- 'oghamlaw10.TableMarks', WHERE WHAT IT READS IS OF BULK AT MOST 1048576: true; the input reads as it did. -/
def tableMarksUptoRow : OpenClaim := { program := "ytiibmpdjkdjbiaagreatdoor", sum := "1e81f9c2d681af4ffa1822e8c2b40f8a374785576977b292c9ead4e2806ae170", func := "ogham/oghamlaw10.TableMarks", spec := "tableMarks", unfollowed := true, recurses := true, named := ["unicode/utf8.first", "unicode/utf8.acceptRanges"], plainKeys := false, apart := false, laid := [("unicode/utf8.acceptRanges", laid_unicode_utf8_acceptRanges), ("unicode/utf8.first", laid_unicode_utf8_first)], narrowed := true }
def TableMarksUptoSaid : Prop := tableMarksUptoRow.holds Tryz.pinned (OpenSpec.upto tableMarksSpec)

/-- 'oghamlaw10.TableClash', WHERE WHAT IT READS IS OF BULK AT MOST 1048576: true; the input reads as it did. -/
def tableClashUptoRow : OpenClaim := { program := "ytiibmpdjkdjbiaagreatdoor", sum := "1e81f9c2d681af4ffa1822e8c2b40f8a374785576977b292c9ead4e2806ae170", func := "ogham/oghamlaw10.TableClash", spec := "tableClash", unfollowed := true, recurses := true, named := ["unicode/utf8.first", "unicode/utf8.acceptRanges"], plainKeys := false, apart := false, laid := [("unicode/utf8.acceptRanges", laid_unicode_utf8_acceptRanges), ("unicode/utf8.first", laid_unicode_utf8_first)], narrowed := true }
def TableClashUptoSaid : Prop := tableClashUptoRow.holds Tryz.pinned (OpenSpec.upto tableClashSpec)

/-- 'oghamlaw10.TableRefs', WHERE WHAT IT READS IS OF BULK AT MOST 1048576: true; the input reads as it did. -/
def tableRefsUptoRow : OpenClaim := { program := "ytiibmpdjkdjbiaagreatdoor", sum := "1e81f9c2d681af4ffa1822e8c2b40f8a374785576977b292c9ead4e2806ae170", func := "ogham/oghamlaw10.TableRefs", spec := "tableRefs", unfollowed := true, recurses := true, named := ["unicode/utf8.first", "unicode/utf8.acceptRanges"], plainKeys := false, apart := false, laid := [("unicode/utf8.acceptRanges", laid_unicode_utf8_acceptRanges), ("unicode/utf8.first", laid_unicode_utf8_first)], narrowed := true }
def TableRefsUptoSaid : Prop := tableRefsUptoRow.holds Tryz.pinned (OpenSpec.upto tableRefsSpec)

/-- 'oghamlaw10.TableDefaults', WHERE WHAT IT READS IS OF BULK AT MOST 1048576: true; the input reads as it did. -/
def tableDefaultsUptoRow : OpenClaim := { program := "ytiibmpdjkdjbiaagreatdoor", sum := "1e81f9c2d681af4ffa1822e8c2b40f8a374785576977b292c9ead4e2806ae170", func := "ogham/oghamlaw10.TableDefaults", spec := "tableDefaults", unfollowed := true, recurses := true, named := ["unicode/utf8.first", "unicode/utf8.acceptRanges"], plainKeys := false, apart := false, laid := [("unicode/utf8.acceptRanges", laid_unicode_utf8_acceptRanges), ("unicode/utf8.first", laid_unicode_utf8_first)], narrowed := true }
def TableDefaultsUptoSaid : Prop := tableDefaultsUptoRow.holds Tryz.pinned (OpenSpec.upto tableDefaultsSpec)

/-- 'oghamlaw10.TableWild', WHERE WHAT IT READS IS OF BULK AT MOST 1048576: true; the input reads as it did. -/
def tableWildUptoRow : OpenClaim := { program := "ytiibmpdjkdjbiaagreatdoor", sum := "1e81f9c2d681af4ffa1822e8c2b40f8a374785576977b292c9ead4e2806ae170", func := "ogham/oghamlaw10.TableWild", spec := "tableWild", unfollowed := true, recurses := true, named := ["unicode/utf8.first", "unicode/utf8.acceptRanges"], plainKeys := false, apart := false, laid := [("unicode/utf8.acceptRanges", laid_unicode_utf8_acceptRanges), ("unicode/utf8.first", laid_unicode_utf8_first)], narrowed := true }
def TableWildUptoSaid : Prop := tableWildUptoRow.holds Tryz.pinned (OpenSpec.upto tableWildSpec)

end Rows
end Go.Proofs.YtiibmpdjkdjbiaaGreatDoor
