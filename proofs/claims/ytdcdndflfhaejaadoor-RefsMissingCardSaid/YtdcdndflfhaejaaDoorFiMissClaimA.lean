/- RefsMissing: for every value of its arguments the law returns true, and each argument reads behind the call as it read before; what the tables of utf8 hold is tied to the program's text. No condition. -/
import Derived.Test.YtdcdndflfhaejaaDoorFiA
import Derived.Test.YtdcdndflfhaejaaDoorFiB
import Derived.Test.YtdcdndflfhaejaaDoorFiC
import Derived.Test.YtdcdndflfhaejaaDoorFiD
import Derived.Test.YtdcdndflfhaejaaDoorFiE
import Derived.Test.YtdcdndflfhaejaaDoorFiF
import Derived.Test.YtdcdndflfhaejaaDoorRows
import Derived.Test.YtdcdndflfhaejaaDoorTie
import Derived.Test.YtdcdndflfhaejaaDoorCards
import Derived.SevenTiedAt
set_option linter.unusedVariables false
set_option linter.unusedSimpArgs false

namespace Go.Proofs.YtdcdndflfhaejaaDoor
open Go.Sy
set_option maxRecDepth 4000
theorem missing_t : ((List.range 10).all fun n => (List.range (n + 2)).all fun b => yes (law07_RefsMissingF n b true)) = true := by kernel_rfl
theorem missing_f : ((List.range 10).all fun n => (List.range (n + 2)).all fun b => yes (law07_RefsMissingF n b false)) = true := by kernel_rfl
theorem missing_true (n b : Int) (c : Bool) : law07_RefsMissing n b c = some true := by
  rw [law07_RefsMissingF_eq]
  obtain ⟨x, hx, h1⟩ := red n 10 (by decide)
  have hx6 : x < 10 := hx
  have e0 : ((wd (x : Int) % 10).toNat : Nat) = x := by
    rw [UInt64.toNat_mod, wd_nat (by omega)]; exact Nat.mod_eq_of_lt hx6
  have ek : (wd ((2 : Int) + ((wd (x : Int) % 10).toNat : Int))).toNat = x + 2 := by
    have : ((2 : Int) + ((wd (x : Int) % 10).toNat : Int)) = ((x + 2 : Nat) : Int) := by rw [e0]; omega
    rw [this, wd_nat (by omega)]
  obtain ⟨z, hz, h3⟩ := red b (wd ((2 : Int) + ((wd (x : Int) % 10).toNat : Int))) (by omega)
  rw [ek] at hz
  have e : law07_RefsMissingF n b c = law07_RefsMissingF x z c := by
    unfold law07_RefsMissingF
    unfold wd at h1 h3
    rw [h1, h3]
  rw [e]
  cases c with
  | true => exact of_yes (all_get (all_get missing_t hx) hz)
  | false => exact of_yes (all_get (all_get missing_f hx) hz)
end Go.Proofs.YtdcdndflfhaejaaDoor


namespace Go.Proofs.YtdcdndflfhaejaaDoor
open Go.Sy Go.Shelf Go.Lib Go.ChangeShapes Go.WideShapes Go.ChangeAt Go.RowKit

theorem refsMissing_laid : Rows.refsMissingRow.laid = laidTwo := by kernel_rfl
theorem refsMissing_ctr (a0 : Int) (a1 : Int) (a2 : Bool) : Ctr Tryd.prog 7 [isv a0, isv a1, isv a2] [] (pureP true) := law07_RefsMissing_w (missing_true a0 a1 a2)

theorem refsMissing_witness (os : Os) {H : Type} (enc : TypeId × Value → H) :
    (OpenSpec.ofChange Rows.refsMissingSpec).preRow enc Tryd.prog Tryd.f7 [] false laidTwo ((laidWorld os).forCall (fun _ _ => 0) ⟨#[], #[.int .i64 0, .int .i64 0, .bool false], []⟩).memory #[.int .i64 0, .int .i64 0, .bool false] := by
  have hw : (DataW.whole enc Tryd.prog ((laidWorld os).forCall (fun _ _ => 0) ⟨#[], #[.int .i64 0, .int .i64 0, .bool false], []⟩).memory Tryd.f7.params.toList (OpenSpec.ofChange Rows.refsMissingSpec).vars false #[Value.int .i64 0, .int .i64 0, .bool false].toList 8).map (fun x => (x.1, x.2.1)) =
      some ([.lit (.int .i64 0), .lit (.int .i64 0), .lit (.bool false)], []) := by kernel_rfl
  obtain ⟨⟨x1, x2, x3⟩, hx, hx1⟩ := Option.map_eq_some_iff.1 hw
  simp only [Prod.mk.injEq] at hx1
  obtain ⟨rfl, rfl⟩ := hx1
  exact OpenSpec.preRow_of_cond 8 hx (by kernel_rfl) (fun k hk => by cases hk) (by kernel_rfl) (laid_met os _)

set_option maxRecDepth 100000 in
theorem refsMissing_lifted (os : Os) (started : os.Started) (H : Type) (enc : TypeId × Value → H) (F : Stop.Interp) :
    ReturnsInHanded {} Tryd.checked os 7 .any ((OpenSpec.ofChange Rows.refsMissingSpec).preRow enc Tryd.prog Tryd.f7 [] false laidTwo) (((OpenSpec.ofChange Rows.refsMissingSpec).at F).post enc Tryd.prog Tryd.f7 false true false false) :=
  law_laid (C := Tryd.checked) (B := 4) own started (by kernel_rfl) Tryd.func7
    (witness_row_atRef (enc := enc) (C := Tryd.checked) false (laidWorld os) _ rfl (by kernel_rfl) (by kernel_rfl) (by kernel_rfl) (refsMissing_witness os enc))
    laidOut (by kernel_rfl) rfl rfl Tryd.underlying4
    (fun ds h => by
      match ds, h with
      | [_, _, _], _ => rfl)
    tabs_laid
    (fun W vs ds p hT ht hw hk => run3 (t1 := 3) (t2 := 3) (t3 := 4) hT refsMissing_ctr (Opn.int Tryd.underlying3) (Opn.int Tryd.underlying3) (Opn.bool Tryd.underlying4) ht hw hk)

theorem refsMissing_said : Rows.RefsMissingSaid :=
  OpenClaim.holds_of_cond 7 Tryd.f7 rfl rfl rfl rfl rfl rfl rfl ⟨rfl, rfl, rfl, rfl, rfl⟩ rfl rfl rfl rfl rfl (by kernel_rfl) Tryd.func7 (by kernel_rfl)
    (of_decide_eq_true (by kernel_rfl)) (by unfold Func.isWrapper; rw [if_neg (of_decide_eq_false (by kernel_rfl))]; exact ⟨rfl, rfl⟩)
    (fun os started H enc _ F0 => by rw [OpenClaim.pre_eq_preRow, refsMissing_laid]; exact refsMissing_lifted os started H enc F0)

theorem refsMissing_card : Rows.RefsMissingCardSaid :=
  Claim7.holds_tied_plain_at .later [] [.data, .pinned] true (true, "55d6e321a206e61f8cae08f4049c0d987a790ef90f2b8cfc2f38ddde01af33e9") false
    refsMissing_said (fun _ h => by cases h) (by kernel_rfl) (fun _ h => by cases h) refsMissing_row_tie rfl ⟨rfl, rfl⟩ (by kernel_rfl) rfl
    (fun f fn hf hfn => by
      obtain rfl : f = 7 := Option.some.inj ((show Tryd.prog.funcNamed Rows.refsMissingRow.func = some 7 by kernel_rfl).symm.trans hf) |>.symm
      obtain rfl : fn = Tryd.f7 := (Option.some.inj (Tryd.func7.symm.trans hfn)).symm
      exact ⟨by kernel_rfl, fun j t ht => by
        have e : (Tryd.f7.params.toList.all fun t => !Tryd.prog.wantsStandIn t) = true := by kernel_rfl
        have := List.all_eq_true.1 e t (List.mem_of_getElem? (i := j) (by simpa using ht))
        exact (by simpa using this : Tryd.prog.wantsStandIn t = false)⟩)
    (by kernel_rfl)
end Go.Proofs.YtdcdndflfhaejaaDoor


