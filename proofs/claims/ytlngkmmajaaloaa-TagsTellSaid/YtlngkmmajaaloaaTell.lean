/- TagsTell: Universal, Less and Distinct answer as the reference does, for every input; the law returns true and its arguments stay. No condition. -/
import Derived.Test.YtlngkmmajaaloaaRows
import Derived.Test.YtlngkmmajaaloaaW5
import Derived.Test.YtlngkmmajaaloaaLib12
namespace Go.Proofs.Ytlngkmmajaaloaa
open Go.Sy

theorem own : ownKnob Try.prog.godebug = none := by kernel_rfl
theorem laidOut : laidOutB Try.prog = true := by kernel_rfl
theorem opnTag : Opn Try.prog 26 Tag :=
  Opn.struct (to := Tag.to) Try.underlying26 (by kernel_rfl) (.cons (Opn.int Try.underlying3) (by kernel_rfl) (.one (Opn.int Try.underlying3) (by kernel_rfl))) (fun s => ⟨s.1, s.2⟩) (fun _ => rfl)
theorem opnTags : Opn Try.prog 22 (List Tag) := Opn.list Try.underlying22 opnTag (by kernel_rfl) rfl (by kernel_rfl)
theorem opnSets : Opn Try.prog 43 (List (List Tag)) := Opn.list Try.underlying43 opnTags (by kernel_rfl) rfl (by kernel_rfl)

set_option maxRecDepth 100000 in
theorem tell_lifted (os : Os) (started : os.Started) (H : Type) (enc : TypeId × Value → H) :
    ReturnsInHanded {} Try.checked os 7 .any (Rows.tagsTellSpec.pre6 enc Try.prog Try.f7 [] false) (Rows.tagsTellSpec.post enc Try.prog Try.f7 false true false false) :=
  law_lift (C := Try.checked) (B := 4) own started (by kernel_rfl) Try.func7
    (ChangeSpec.witness6 (enc := enc) (C := Try.checked) false ⟨#[], #[.int .i64 0, .agg #[.int .i64 0, .int .i64 0], .agg #[.int .i64 0, .int .i64 0], .slice none 0 0], []⟩ 8 (by kernel_rfl) (by kernel_rfl) (by kernel_rfl) (by kernel_rfl))
    laidOut (by kernel_rfl) rfl rfl Try.underlying4
    (fun ds h => by
      match ds, h with
      | [_, _, _, _], _ => rfl)
    (fun W vs ds p ht hw hk => run4 (t1 := 3) (t2 := 26) (t3 := 26) (t4 := 43) tell_spec (Opn.int Try.underlying3) opnTag opnTag opnSets ht hw hk)

theorem tell_holds : Rows.TagsTellSaid :=
  OpenClaim.holds_of_wide 7 Try.f7 rfl rfl rfl rfl rfl rfl rfl ⟨rfl, rfl, rfl, rfl, rfl⟩ rfl rfl rfl rfl rfl (by kernel_rfl) Try.func7 (by kernel_rfl)
    (of_decide_eq_true (by kernel_rfl)) (by unfold Func.isWrapper; first | (rw [if_pos (by decide +kernel)]; kernel_rfl) | (rw [if_neg (by decide +kernel)]; exact ⟨rfl, rfl⟩))
    (fun os started H enc _ => tell_lifted os started H enc)
end Go.Proofs.Ytlngkmmajaaloaa
