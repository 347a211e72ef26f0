/- TagsOrder: of any two tags one is the lesser, or they are alike, and of three in a row the first is below the last: for every input the law returns true and its arguments stay. No condition. -/
import Derived.Test.YtlngkmmajaaloaaRows
import Derived.Test.YtlngkmmajaaloaaW2
import Derived.Test.YtlngkmmajaaloaaLib12
namespace Go.Proofs.Ytlngkmmajaaloaa
open Go.Sy

theorem own : ownKnob Try.prog.godebug = none := by kernel_rfl
theorem laidOut : laidOutB Try.prog = true := by kernel_rfl
theorem opnTag : Opn Try.prog 26 Tag :=
  Opn.struct (to := Tag.to) Try.underlying26 (by kernel_rfl) (.cons (Opn.int Try.underlying3) (by kernel_rfl) (.one (Opn.int Try.underlying3) (by kernel_rfl))) (fun s => ⟨s.1, s.2⟩) (fun _ => rfl)

set_option maxRecDepth 100000 in
theorem order_lifted (os : Os) (started : os.Started) (H : Type) (enc : TypeId × Value → H) :
    ReturnsInHanded {} Try.checked os 5 .any (Rows.tagsOrderSpec.pre6 enc Try.prog Try.f5 [] false) (Rows.tagsOrderSpec.post enc Try.prog Try.f5 false true false false) :=
  law_lift (C := Try.checked) (B := 4) own started (by kernel_rfl) Try.func5
    (ChangeSpec.witness6 (enc := enc) (C := Try.checked) false ⟨#[], #[.agg #[.int .i64 0, .int .i64 0], .agg #[.int .i64 0, .int .i64 0], .agg #[.int .i64 0, .int .i64 0]], []⟩ 8 (by kernel_rfl) (by kernel_rfl) (by kernel_rfl) (by kernel_rfl))
    laidOut (by kernel_rfl) rfl rfl Try.underlying4
    (fun ds h => by
      match ds, h with
      | [_, _, _], _ => rfl)
    (fun W vs ds p ht hw hk => run3 (t1 := 26) (t2 := 26) (t3 := 26) order_spec opnTag opnTag opnTag ht hw hk)

theorem order_holds : Rows.TagsOrderSaid :=
  OpenClaim.holds_of_wide 5 Try.f5 rfl rfl rfl rfl rfl rfl rfl ⟨rfl, rfl, rfl, rfl, rfl⟩ rfl rfl rfl rfl rfl (by kernel_rfl) Try.func5 (by kernel_rfl)
    (of_decide_eq_true (by kernel_rfl)) (by unfold Func.isWrapper; first | (rw [if_pos (by decide +kernel)]; kernel_rfl) | (rw [if_neg (by decide +kernel)]; exact ⟨rfl, rfl⟩))
    (fun os started H enc _ => order_lifted os started H enc)
end Go.Proofs.Ytlngkmmajaaloaa
