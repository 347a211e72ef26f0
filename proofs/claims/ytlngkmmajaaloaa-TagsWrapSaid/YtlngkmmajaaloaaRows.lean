/-
  No cell of these rows narrows 'for every input' (looked for: loops, veiled, ifaces, maps, wideKeys, modest, calm, conditions, laid).
  DERIVED. THE GIVEN ROWS OF THIS SEAT. 5 by the template 'for every input the law returns true; each argument reads behind the call as it read before'; 0 by the template 'total and deterministic' (their statements: YtlngkmmajaaloaaTotals.lean).
  GIVEN WITH THE SEED: the statements are not yours to turn. If you find one false, say at which input.
  Laid BY PROGRAM, IN A SANDBOX (cutbox-rows.mjs): the forced cells as the released guide's own fill.sh prints them over the translation 08ec158a91d8dec4… (all of the seat's roots in one cut). By AI agents, Wed Nov 11 2026. No macro, syntax, notation, axiom, sorry.
-/
import Derived.Test.YtlngkmmajaaloaaChecked
import GoSem.Claim
import GoSem.ClaimJoined
import GoSem.ClaimMapViews
import Derived.JoinedTies
import Derived.KernelRfl
namespace Go.Proofs.Ytlngkmmajaaloaa
/- THE CELL 'sum', in the pinned program and in every row, IS THE sha256 OF THE DUMP (.gsa) THAT YtlngkmmajaaloaaProg.lean LOADS. Nothing in Lean hashes anything: it is a label: what it is worth is what the hold of that sum in a sandbox is worth. -/
noncomputable def Try.pinned : Pinned := { name := "ytlngkmmajaaloaa", sum := "08ec158a91d8dec446d4e60ba77f885edc6c95a344dc48ce7d00ee8dfff78924", checked := Try.checked }
namespace Rows
def none {H : Type} : Left H := { results := [], args := [] }

/-- 'oghamlaw09.TagsWrap': WHATEVER THE INPUT: true; the input reads as it did. -/
def tagsWrapSpec : ChangeSpec := { name := "tagsWrap", fn := fun _ => fun
  | [d1, d2, d3] => { results := [.lit (.bool true)], args := [d1, d2, d3] }
  | _ => none }
def tagsWrapRow : OpenClaim := { program := "ytlngkmmajaaloaa", sum := "08ec158a91d8dec446d4e60ba77f885edc6c95a344dc48ce7d00ee8dfff78924", func := "ogham/oghamlaw09.TagsWrap", spec := "tagsWrap", unfollowed := true, recurses := true, plainKeys := false, apart := false }
def TagsWrapSaid : Prop := tagsWrapRow.holds Try.pinned (OpenSpec.ofChange tagsWrapSpec)

/-- ITS FALSE NEIGHBOUR: 'it returns false'. Refute it at one input. -/
def tagsWrapWrong : ChangeSpec := { name := "tagsWrap", fn := fun _ => fun
  | [d1, d2, d3] => { results := [.lit (.bool false)], args := [d1, d2, d3] }
  | _ => none }
def TagsWrapWrongFalsely : Prop := tagsWrapRow.holds Try.pinned (OpenSpec.ofChange tagsWrapWrong)

/-- 'oghamlaw09.TagsLayers': WHATEVER THE INPUT: true; the input reads as it did. -/
def tagsLayersSpec : ChangeSpec := { name := "tagsLayers", fn := fun _ => fun
  | [d1, d2] => { results := [.lit (.bool true)], args := [d1, d2] }
  | _ => none }
def tagsLayersRow : OpenClaim := { program := "ytlngkmmajaaloaa", sum := "08ec158a91d8dec446d4e60ba77f885edc6c95a344dc48ce7d00ee8dfff78924", func := "ogham/oghamlaw09.TagsLayers", spec := "tagsLayers", unfollowed := true, recurses := true, plainKeys := false, apart := false }
def TagsLayersSaid : Prop := tagsLayersRow.holds Try.pinned (OpenSpec.ofChange tagsLayersSpec)

/-- ITS FALSE NEIGHBOUR: 'it returns false'. Refute it at one input. -/
def tagsLayersWrong : ChangeSpec := { name := "tagsLayers", fn := fun _ => fun
  | [d1, d2] => { results := [.lit (.bool false)], args := [d1, d2] }
  | _ => none }
def TagsLayersWrongFalsely : Prop := tagsLayersRow.holds Try.pinned (OpenSpec.ofChange tagsLayersWrong)

/-- 'oghamlaw09.TagsOrder': WHATEVER THE INPUT: true; the input reads as it did. -/
def tagsOrderSpec : ChangeSpec := { name := "tagsOrder", fn := fun _ => fun
  | [d1, d2, d3] => { results := [.lit (.bool true)], args := [d1, d2, d3] }
  | _ => none }
def tagsOrderRow : OpenClaim := { program := "ytlngkmmajaaloaa", sum := "08ec158a91d8dec446d4e60ba77f885edc6c95a344dc48ce7d00ee8dfff78924", func := "ogham/oghamlaw09.TagsOrder", spec := "tagsOrder", plainKeys := false, apart := false }
def TagsOrderSaid : Prop := tagsOrderRow.holds Try.pinned (OpenSpec.ofChange tagsOrderSpec)

/-- ITS FALSE NEIGHBOUR: 'it returns false'. Refute it at one input. -/
def tagsOrderWrong : ChangeSpec := { name := "tagsOrder", fn := fun _ => fun
  | [d1, d2, d3] => { results := [.lit (.bool false)], args := [d1, d2, d3] }
  | _ => none }
def TagsOrderWrongFalsely : Prop := tagsOrderRow.holds Try.pinned (OpenSpec.ofChange tagsOrderWrong)

/-- 'oghamlaw09.TagsDistinct': WHATEVER THE INPUT: true; the input reads as it did. -/
def tagsDistinctSpec : ChangeSpec := { name := "tagsDistinct", fn := fun _ => fun
  | [d1, d2, d3] => { results := [.lit (.bool true)], args := [d1, d2, d3] }
  | _ => none }
def tagsDistinctRow : OpenClaim := { program := "ytlngkmmajaaloaa", sum := "08ec158a91d8dec446d4e60ba77f885edc6c95a344dc48ce7d00ee8dfff78924", func := "ogham/oghamlaw09.TagsDistinct", spec := "tagsDistinct", plainKeys := false, apart := false }
def TagsDistinctSaid : Prop := tagsDistinctRow.holds Try.pinned (OpenSpec.ofChange tagsDistinctSpec)

/-- ITS FALSE NEIGHBOUR: 'it returns false'. Refute it at one input. -/
def tagsDistinctWrong : ChangeSpec := { name := "tagsDistinct", fn := fun _ => fun
  | [d1, d2, d3] => { results := [.lit (.bool false)], args := [d1, d2, d3] }
  | _ => none }
def TagsDistinctWrongFalsely : Prop := tagsDistinctRow.holds Try.pinned (OpenSpec.ofChange tagsDistinctWrong)

/-- 'oghamlaw09.TagsTell': WHATEVER THE INPUT: true; the input reads as it did. -/
def tagsTellSpec : ChangeSpec := { name := "tagsTell", fn := fun _ => fun
  | [d1, d2, d3, d4] => { results := [.lit (.bool true)], args := [d1, d2, d3, d4] }
  | _ => none }
def tagsTellRow : OpenClaim := { program := "ytlngkmmajaaloaa", sum := "08ec158a91d8dec446d4e60ba77f885edc6c95a344dc48ce7d00ee8dfff78924", func := "ogham/oghamlaw09.TagsTell", spec := "tagsTell", plainKeys := false, apart := false }
def TagsTellSaid : Prop := tagsTellRow.holds Try.pinned (OpenSpec.ofChange tagsTellSpec)

/-- ITS FALSE NEIGHBOUR: 'it returns false'. Refute it at one input. -/
def tagsTellWrong : ChangeSpec := { name := "tagsTell", fn := fun _ => fun
  | [d1, d2, d3, d4] => { results := [.lit (.bool false)], args := [d1, d2, d3, d4] }
  | _ => none }
def TagsTellWrongFalsely : Prop := tagsTellRow.holds Try.pinned (OpenSpec.ofChange tagsTellWrong)

/- THE SECOND FORM. 'bulk': how many values and letters a reading holds, each counted each time it is reached (what is shared counts as often as it is met; a slice's spare places count too). A statement '..UptoSaid' is the law's where the arguments, and the package variables that the reading takes, are together of bulk at most 1048576: NARROWER than '..Said'. Prove '..Said' where nothing that the law and all that it calls make is longer than what came in: it says more and counts as full. Else prove '..UptoSaid'. A law counts once. -/
mutual
def uptoBulk {H : Type} : DataW H → Nat
  | .lit (.string bytes) => bytes.length + 1
  | .lit _ => 1
  | .nil => 1
  | .ptr d => uptoBulk d + 1
  | .slice elems spare => uptoBulkAll elems + uptoBulkAll spare + 1
  | .agg parts => uptoBulkAll parts + 1
  | .iface _ d => uptoBulk d + 1
  | .map entries => uptoBulkEntries entries + 1
  | .held _ => 1
def uptoBulkAll {H : Type} : List (DataW H) → Nat
  | [] => 0
  | d :: r => uptoBulk d + uptoBulkAll r
def uptoBulkEntries {H : Type} : List (Lit × DataW H) → Nat
  | [] => 0
  | x :: r => uptoBulkEntry x + uptoBulkEntries r
def uptoBulkEntry {H : Type} : Lit × DataW H → Nat
  | (.string bytes, d) => bytes.length + uptoBulk d + 1
  | (_, d) => uptoBulk d + 1
 end
def uptoSmall : (H : Type) → List (DataW H) → Bool := fun _ ds => decide (uptoBulkAll ds ≤ 1048576)
def OpenSpec.upto (s : _root_.Go.ChangeSpec) : _root_.Go.OpenSpec := { _root_.Go.OpenSpec.ofChange s with cond := some uptoSmall }

/-- 'oghamlaw09.TagsWrap', WHERE WHAT IT READS IS OF BULK AT MOST 1048576: true; the input reads as it did. -/
def tagsWrapUptoRow : OpenClaim := { program := "ytlngkmmajaaloaa", sum := "08ec158a91d8dec446d4e60ba77f885edc6c95a344dc48ce7d00ee8dfff78924", func := "ogham/oghamlaw09.TagsWrap", spec := "tagsWrap", unfollowed := true, recurses := true, plainKeys := false, apart := false, narrowed := true }
def TagsWrapUptoSaid : Prop := tagsWrapUptoRow.holds Try.pinned (OpenSpec.upto tagsWrapSpec)

/-- 'oghamlaw09.TagsLayers', WHERE WHAT IT READS IS OF BULK AT MOST 1048576: true; the input reads as it did. -/
def tagsLayersUptoRow : OpenClaim := { program := "ytlngkmmajaaloaa", sum := "08ec158a91d8dec446d4e60ba77f885edc6c95a344dc48ce7d00ee8dfff78924", func := "ogham/oghamlaw09.TagsLayers", spec := "tagsLayers", unfollowed := true, recurses := true, plainKeys := false, apart := false, narrowed := true }
def TagsLayersUptoSaid : Prop := tagsLayersUptoRow.holds Try.pinned (OpenSpec.upto tagsLayersSpec)

/-- 'oghamlaw09.TagsOrder', WHERE WHAT IT READS IS OF BULK AT MOST 1048576: true; the input reads as it did. -/
def tagsOrderUptoRow : OpenClaim := { program := "ytlngkmmajaaloaa", sum := "08ec158a91d8dec446d4e60ba77f885edc6c95a344dc48ce7d00ee8dfff78924", func := "ogham/oghamlaw09.TagsOrder", spec := "tagsOrder", plainKeys := false, apart := false, narrowed := true }
def TagsOrderUptoSaid : Prop := tagsOrderUptoRow.holds Try.pinned (OpenSpec.upto tagsOrderSpec)

/-- 'oghamlaw09.TagsDistinct', WHERE WHAT IT READS IS OF BULK AT MOST 1048576: true; the input reads as it did. -/
def tagsDistinctUptoRow : OpenClaim := { program := "ytlngkmmajaaloaa", sum := "08ec158a91d8dec446d4e60ba77f885edc6c95a344dc48ce7d00ee8dfff78924", func := "ogham/oghamlaw09.TagsDistinct", spec := "tagsDistinct", plainKeys := false, apart := false, narrowed := true }
def TagsDistinctUptoSaid : Prop := tagsDistinctUptoRow.holds Try.pinned (OpenSpec.upto tagsDistinctSpec)

/-- 'oghamlaw09.TagsTell', WHERE WHAT IT READS IS OF BULK AT MOST 1048576: true; the input reads as it did. -/
def tagsTellUptoRow : OpenClaim := { program := "ytlngkmmajaaloaa", sum := "08ec158a91d8dec446d4e60ba77f885edc6c95a344dc48ce7d00ee8dfff78924", func := "ogham/oghamlaw09.TagsTell", spec := "tagsTell", plainKeys := false, apart := false, narrowed := true }
def TagsTellUptoSaid : Prop := tagsTellUptoRow.holds Try.pinned (OpenSpec.upto tagsTellSpec)

end Rows
end Go.Proofs.Ytlngkmmajaaloaa
