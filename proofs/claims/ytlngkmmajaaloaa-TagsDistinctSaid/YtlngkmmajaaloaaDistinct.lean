/- TagsDistinct: Distinct says of three lists of tags, in any order and as one, whether no tag stands in them twice: for every input the law returns true and its arguments stay. No condition. -/
import Derived.Test.YtlngkmmajaaloaaRows
import Derived.Test.YtlngkmmajaaloaaW5
import Derived.Test.YtlngkmmajaaloaaLib12
namespace Go.Proofs.Ytlngkmmajaaloaa
open Go.Sy

theorem own : ownKnob Try.prog.godebug = none := by kernel_rfl
theorem laidOut : laidOutB Try.prog = true := by kernel_rfl
theorem opnTag : Opn Try.prog 26 Tag :=
  Opn.struct (to := Tag.to) Try.underlying26 (by kernel_rfl) (.cons (Opn.int Try.underlying3) (by kernel_rfl) (.one (Opn.int Try.underlying3) (by kernel_rfl))) (fun s => ⟨s.1, s.2⟩) (fun _ => rfl)
theorem opnTags : Opn Try.prog 22 (List Tag) := Opn.list Try.underlying22 opnTag (by kernel_rfl) rfl (by kernel_rfl)

set_option maxRecDepth 100000 in
theorem distinct_lifted (os : Os) (started : os.Started) (H : Type) (enc : TypeId × Value → H) :
    ReturnsInHanded {} Try.checked os 6 .any (Rows.tagsDistinctSpec.pre6 enc Try.prog Try.f6 [] false) (Rows.tagsDistinctSpec.post enc Try.prog Try.f6 false true false false) :=
  law_lift (C := Try.checked) (B := 4) own started (by kernel_rfl) Try.func6
    (ChangeSpec.witness6 (enc := enc) (C := Try.checked) false ⟨#[], #[.slice none 0 0, .slice none 0 0, .slice none 0 0], []⟩ 8 (by kernel_rfl) (by kernel_rfl) (by kernel_rfl) (by kernel_rfl))
    laidOut (by kernel_rfl) rfl rfl Try.underlying4
    (fun ds h => by
      match ds, h with
      | [_, _, _], _ => rfl)
    (fun W vs ds p ht hw hk => run3 (t1 := 22) (t2 := 22) (t3 := 22) distinct_spec opnTags opnTags opnTags ht hw hk)

theorem distinct_holds : Rows.TagsDistinctSaid :=
  OpenClaim.holds_of_wide 6 Try.f6 rfl rfl rfl rfl rfl rfl rfl ⟨rfl, rfl, rfl, rfl, rfl⟩ rfl rfl rfl rfl rfl (by kernel_rfl) Try.func6 (by kernel_rfl)
    (of_decide_eq_true (by kernel_rfl)) (by unfold Func.isWrapper; first | (rw [if_pos (by decide +kernel)]; kernel_rfl) | (rw [if_neg (by decide +kernel)]; exact ⟨rfl, rfl⟩))
    (fun os started H enc _ => distinct_lifted os started H enc)
end Go.Proofs.Ytlngkmmajaaloaa
