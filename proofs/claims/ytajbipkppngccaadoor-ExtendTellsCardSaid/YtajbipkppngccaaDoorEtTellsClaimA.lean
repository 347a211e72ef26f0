/- ExtendTells: for every two texts and every two numbers the law returns true, and the texts read behind the call as they read before; what the tables of utf8 hold is tied to the program's text. No condition. -/
import Derived.Test.YtajbipkppngccaaDoorEtA
import Derived.Test.YtajbipkppngccaaDoorEtB
import Derived.Test.YtajbipkppngccaaDoorEtC
import Derived.Test.YtajbipkppngccaaDoorEtD
import Derived.Test.YtajbipkppngccaaDoorEtE
import Derived.Test.YtajbipkppngccaaDoorEtF
import Derived.Test.YtajbipkppngccaaDoorRows
import Derived.Test.YtajbipkppngccaaDoorTie
import Derived.Test.YtajbipkppngccaaDoorCards
import Derived.SevenTiedAt
set_option linter.unusedVariables false
set_option linter.unusedSimpArgs false

namespace Go.Proofs.YtajbipkppngccaaDoor
open Go.Sy Go.Shelf Go.Lib Go.ChangeShapes Go.WideShapes Go.ChangeAt Go.RowKit

theorem extendTells_laid : Rows.extendTellsRow.laid = laidTwo := by kernel_rfl
theorem extendTells_ctr (a0 : Str) (a1 : Str) (a2 : Int) (a3 : Int) : Ctr Tryd.prog 3 [isv a0, isv a1, isv a2, isv a3] [] (pureP true) := law21_ExtendTells_w (tells_true a0 a1 a2 a3)

theorem extendTells_witness (os : Os) {H : Type} (enc : TypeId × Value → H) :
    (OpenSpec.ofChange Rows.extendTellsSpec).preRow enc Tryd.prog Tryd.f3 [] false laidTwo ((laidWorld os).forCall (fun _ _ => 0) ⟨#[], #[.string ⟨#[]⟩, .string ⟨#[]⟩, .int .i64 0, .int .i64 0], []⟩).memory #[.string ⟨#[]⟩, .string ⟨#[]⟩, .int .i64 0, .int .i64 0] := by
  have hw : (DataW.whole enc Tryd.prog ((laidWorld os).forCall (fun _ _ => 0) ⟨#[], #[.string ⟨#[]⟩, .string ⟨#[]⟩, .int .i64 0, .int .i64 0], []⟩).memory Tryd.f3.params.toList (OpenSpec.ofChange Rows.extendTellsSpec).vars false #[Value.string ⟨#[]⟩, .string ⟨#[]⟩, .int .i64 0, .int .i64 0].toList 8).map (fun x => (x.1, x.2.1)) =
      some ([.lit (.string []), .lit (.string []), .lit (.int .i64 0), .lit (.int .i64 0)], []) := by kernel_rfl
  obtain ⟨⟨x1, x2, x3⟩, hx, hx1⟩ := Option.map_eq_some_iff.1 hw
  simp only [Prod.mk.injEq] at hx1
  obtain ⟨rfl, rfl⟩ := hx1
  exact OpenSpec.preRow_of_cond 8 hx (by kernel_rfl) (fun k hk => by cases hk) (by kernel_rfl) (laid_met os _)

set_option maxRecDepth 100000 in
theorem extendTells_lifted (os : Os) (started : os.Started) (H : Type) (enc : TypeId × Value → H) (F : Stop.Interp) :
    ReturnsInHanded {} Tryd.checked os 3 .any ((OpenSpec.ofChange Rows.extendTellsSpec).preRow enc Tryd.prog Tryd.f3 [] false laidTwo) (((OpenSpec.ofChange Rows.extendTellsSpec).at F).post enc Tryd.prog Tryd.f3 false true false false) :=
  law_laid (C := Tryd.checked) (B := 4) own started (by kernel_rfl) Tryd.func3
    (witness_row_atRef (enc := enc) (C := Tryd.checked) false (laidWorld os) _ rfl (by kernel_rfl) (by kernel_rfl) (by kernel_rfl) (extendTells_witness os enc))
    laidOut (by kernel_rfl) rfl rfl Tryd.underlying4
    (fun ds h => by
      match ds, h with
      | [_, _, _, _], _ => rfl)
    tabs_laid
    (fun W vs ds p hT ht hw hk => run4 (t1 := 9) (t2 := 9) (t3 := 3) (t4 := 3) hT extendTells_ctr (Opn.str Tryd.underlying9) (Opn.str Tryd.underlying9) (Opn.int Tryd.underlying3) (Opn.int Tryd.underlying3) ht hw hk)

theorem extendTells_said : Rows.ExtendTellsSaid :=
  OpenClaim.holds_of_cond 3 Tryd.f3 rfl rfl rfl rfl rfl rfl rfl ⟨rfl, rfl, rfl, rfl, rfl⟩ rfl rfl rfl rfl rfl (by kernel_rfl) Tryd.func3 (by kernel_rfl)
    (of_decide_eq_true (by kernel_rfl)) (by unfold Func.isWrapper; rw [if_neg (of_decide_eq_false (by kernel_rfl))]; exact ⟨rfl, rfl⟩)
    (fun os started H enc _ F0 => by rw [OpenClaim.pre_eq_preRow, extendTells_laid]; exact extendTells_lifted os started H enc F0)

theorem extendTells_card : Rows.ExtendTellsCardSaid :=
  Claim7.holds_tied_plain_at .later [] [.data, .pinned] true (true, "ee422cd9fba7c25b63a55046cc4ec7c324434a13031696ab5458ab53e62a39c5") false
    extendTells_said (fun _ h => by cases h) (by kernel_rfl) (fun _ h => by cases h) extendTells_row_tie rfl ⟨rfl, rfl⟩ (by kernel_rfl) rfl
    (fun f fn hf hfn => by
      obtain rfl : f = 3 := Option.some.inj ((show Tryd.prog.funcNamed Rows.extendTellsRow.func = some 3 by kernel_rfl).symm.trans hf) |>.symm
      obtain rfl : fn = Tryd.f3 := (Option.some.inj (Tryd.func3.symm.trans hfn)).symm
      exact ⟨by kernel_rfl, fun j t ht => by
        have e : (Tryd.f3.params.toList.all fun t => !Tryd.prog.wantsStandIn t) = true := by kernel_rfl
        have := List.all_eq_true.1 e t (List.mem_of_getElem? (i := j) (by simpa using ht))
        exact (by simpa using this : Tryd.prog.wantsStandIn t = false)⟩)
    (by kernel_rfl)
end Go.Proofs.YtajbipkppngccaaDoor


