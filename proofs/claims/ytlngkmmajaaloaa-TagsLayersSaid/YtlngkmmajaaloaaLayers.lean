/- TagsLayers: however many layers a list of numbers and modes builds, Wrap lays them as this law's own list says, for every input it returns true and its arguments stay. No condition. -/
import Derived.Test.YtlngkmmajaaloaaRows
import Derived.Test.YtlngkmmajaaloaaW3
import Derived.Test.YtlngkmmajaaloaaLib12
namespace Go.Proofs.Ytlngkmmajaaloaa
open Go.Sy

theorem own : ownKnob Try.prog.godebug = none := by kernel_rfl
theorem laidOut : laidOutB Try.prog = true := by kernel_rfl
theorem opnInts : Opn Try.prog 33 (List Int) := Opn.list Try.underlying33 (Opn.int Try.underlying3) (by kernel_rfl) rfl (by kernel_rfl)
theorem opnBools : Opn Try.prog 34 (List Bool) := Opn.list Try.underlying34 (Opn.bool Try.underlying4) (by kernel_rfl) rfl (by kernel_rfl)

set_option maxRecDepth 100000 in
theorem layers_lifted (os : Os) (started : os.Started) (H : Type) (enc : TypeId × Value → H) :
    ReturnsInHanded {} Try.checked os 4 .any (Rows.tagsLayersSpec.pre6 enc Try.prog Try.f4 [] false) (Rows.tagsLayersSpec.post enc Try.prog Try.f4 false true false false) :=
  law_lift (C := Try.checked) (B := 4) own started (by kernel_rfl) Try.func4
    (ChangeSpec.witness6 (enc := enc) (C := Try.checked) false ⟨#[], #[.slice none 0 0, .slice none 0 0], []⟩ 8 (by kernel_rfl) (by kernel_rfl) (by kernel_rfl) (by kernel_rfl))
    laidOut (by kernel_rfl) rfl rfl Try.underlying4
    (fun ds h => by
      match ds, h with
      | [_, _], _ => rfl)
    (fun W vs ds p ht hw hk => run2 (t1 := 33) (t2 := 34) layers_spec opnInts opnBools ht hw hk)

theorem layers_holds : Rows.TagsLayersSaid :=
  OpenClaim.holds_of_wide 4 Try.f4 rfl rfl rfl rfl rfl rfl rfl ⟨rfl, rfl, rfl, rfl, rfl⟩ rfl rfl rfl rfl rfl (by kernel_rfl) Try.func4 (by kernel_rfl)
    (of_decide_eq_true (by kernel_rfl)) (by unfold Func.isWrapper; first | (rw [if_pos (by decide +kernel)]; kernel_rfl) | (rw [if_neg (by decide +kernel)]; exact ⟨rfl, rfl⟩))
    (fun os started H enc _ => layers_lifted os started H enc)
end Go.Proofs.Ytlngkmmajaaloaa
