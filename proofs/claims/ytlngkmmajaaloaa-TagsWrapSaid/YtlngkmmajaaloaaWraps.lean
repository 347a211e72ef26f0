/- TagsWrap: Wrap answers as the reference does and leaves the list it was given, and the room behind it, as it was: for every input the law returns true and its arguments stay. No condition. -/
import Derived.Test.YtlngkmmajaaloaaRows
import Derived.Test.YtlngkmmajaaloaaW6
import Derived.Test.YtlngkmmajaaloaaLib12
namespace Go.Proofs.Ytlngkmmajaaloaa
open Go.Sy

theorem own : ownKnob Try.prog.godebug = none := by kernel_rfl
theorem laidOut : laidOutB Try.prog = true := by kernel_rfl
theorem opnTag : Opn Try.prog 26 Tag :=
  Opn.struct (to := Tag.to) Try.underlying26 (by kernel_rfl) (.cons (Opn.int Try.underlying3) (by kernel_rfl) (.one (Opn.int Try.underlying3) (by kernel_rfl))) (fun s => ⟨s.1, s.2⟩) (fun _ => rfl)
theorem opnTags : Opn Try.prog 22 (List Tag) := Opn.list Try.underlying22 opnTag (by kernel_rfl) rfl (by kernel_rfl)

set_option maxRecDepth 100000 in
theorem wrap_lifted (os : Os) (started : os.Started) (H : Type) (enc : TypeId × Value → H) :
    ReturnsInHanded {} Try.checked os 3 .any (Rows.tagsWrapSpec.pre6 enc Try.prog Try.f3 [] false) (Rows.tagsWrapSpec.post enc Try.prog Try.f3 false true false false) :=
  law_lift (C := Try.checked) (B := 4) own started (by kernel_rfl) Try.func3
    (ChangeSpec.witness6 (enc := enc) (C := Try.checked) false ⟨#[], #[.slice none 0 0, .int .i64 0, .int .i64 0], []⟩ 8 (by kernel_rfl) (by kernel_rfl) (by kernel_rfl) (by kernel_rfl))
    laidOut (by kernel_rfl) rfl rfl Try.underlying4
    (fun ds h => by
      match ds, h with
      | [_, _, _], _ => rfl)
    (fun W vs ds p ht hw hk => run3 (t1 := 22) (t2 := 3) (t3 := 3) tagswrap_spec opnTags (Opn.int Try.underlying3) (Opn.int Try.underlying3) ht hw hk)

theorem wrap_holds : Rows.TagsWrapSaid :=
  OpenClaim.holds_of_wide 3 Try.f3 rfl rfl rfl rfl rfl rfl rfl ⟨rfl, rfl, rfl, rfl, rfl⟩ rfl rfl rfl rfl rfl (by kernel_rfl) Try.func3 (by kernel_rfl)
    (of_decide_eq_true (by kernel_rfl)) (by unfold Func.isWrapper; first | (rw [if_pos (by decide +kernel)]; kernel_rfl) | (rw [if_neg (by decide +kernel)]; exact ⟨rfl, rfl⟩))
    (fun os started H enc _ => wrap_lifted os started H enc)
end Go.Proofs.Ytlngkmmajaaloaa
