/- RefsCircles: for every value of its arguments the law returns true, and each argument reads behind the call as it read before; what the tables of utf8 hold is tied to the program's text. No condition. -/
import Derived.Test.YtdcdndflfhaejaaDoorFiA
import Derived.Test.YtdcdndflfhaejaaDoorFiB
import Derived.Test.YtdcdndflfhaejaaDoorFiC
import Derived.Test.YtdcdndflfhaejaaDoorFiD
import Derived.Test.YtdcdndflfhaejaaDoorFiE
import Derived.Test.YtdcdndflfhaejaaDoorFiF
import Derived.Test.YtdcdndflfhaejaaDoorRows
import Derived.Test.YtdcdndflfhaejaaDoorTie
import Derived.Test.YtdcdndflfhaejaaDoorCards
import Derived.SevenTiedAt
set_option linter.unusedVariables false
set_option linter.unusedSimpArgs false

namespace Go.Proofs.YtdcdndflfhaejaaDoor
open Go.Sy
set_option maxRecDepth 4000
theorem circles_t0 : ((List.range 1).all fun b => yes (law07_RefsCirclesF 0 b true)) = true := by kernel_rfl
theorem circles_t1 : ((List.range 2).all fun b => yes (law07_RefsCirclesF 1 b true)) = true := by kernel_rfl
theorem circles_t2 : ((List.range 3).all fun b => yes (law07_RefsCirclesF 2 b true)) = true := by kernel_rfl
theorem circles_t3 : ((List.range 4).all fun b => yes (law07_RefsCirclesF 3 b true)) = true := by kernel_rfl
theorem circles_t4 : ((List.range 5).all fun b => yes (law07_RefsCirclesF 4 b true)) = true := by kernel_rfl
theorem circles_t5 : ((List.range 6).all fun b => yes (law07_RefsCirclesF 5 b true)) = true := by kernel_rfl
theorem circles_t6 : ((List.range 7).all fun b => yes (law07_RefsCirclesF 6 b true)) = true := by kernel_rfl
theorem circles_t7 : ((List.range 8).all fun b => yes (law07_RefsCirclesF 7 b true)) = true := by kernel_rfl
theorem circles_t8 : ((List.range 9).all fun b => yes (law07_RefsCirclesF 8 b true)) = true := by kernel_rfl
theorem circles_t9 : ((List.range 10).all fun b => yes (law07_RefsCirclesF 9 b true)) = true := by kernel_rfl
theorem circles_t10 : ((List.range 11).all fun b => yes (law07_RefsCirclesF 10 b true)) = true := by kernel_rfl
theorem circles_t11 : ((List.range 12).all fun b => yes (law07_RefsCirclesF 11 b true)) = true := by kernel_rfl
theorem circles_t12 : ((List.range 13).all fun b => yes (law07_RefsCirclesF 12 b true)) = true := by kernel_rfl
theorem circles_t13 : ((List.range 14).all fun b => yes (law07_RefsCirclesF 13 b true)) = true := by kernel_rfl
theorem circles_t14 : ((List.range 15).all fun b => yes (law07_RefsCirclesF 14 b true)) = true := by kernel_rfl
theorem circles_t : ∀ {x : Nat}, x < 15 → ∀ {z : Nat}, z < x + 1 → yes (law07_RefsCirclesF x z true) = true
  | 0, _, _, h => all_get circles_t0 h
  | 1, _, _, h => all_get circles_t1 h
  | 2, _, _, h => all_get circles_t2 h
  | 3, _, _, h => all_get circles_t3 h
  | 4, _, _, h => all_get circles_t4 h
  | 5, _, _, h => all_get circles_t5 h
  | 6, _, _, h => all_get circles_t6 h
  | 7, _, _, h => all_get circles_t7 h
  | 8, _, _, h => all_get circles_t8 h
  | 9, _, _, h => all_get circles_t9 h
  | 10, _, _, h => all_get circles_t10 h
  | 11, _, _, h => all_get circles_t11 h
  | 12, _, _, h => all_get circles_t12 h
  | 13, _, _, h => all_get circles_t13 h
  | 14, _, _, h => all_get circles_t14 h
theorem circles_f0 : ((List.range 1).all fun b => yes (law07_RefsCirclesF 0 b false)) = true := by kernel_rfl
theorem circles_f1 : ((List.range 2).all fun b => yes (law07_RefsCirclesF 1 b false)) = true := by kernel_rfl
theorem circles_f2 : ((List.range 3).all fun b => yes (law07_RefsCirclesF 2 b false)) = true := by kernel_rfl
theorem circles_f3 : ((List.range 4).all fun b => yes (law07_RefsCirclesF 3 b false)) = true := by kernel_rfl
theorem circles_f4 : ((List.range 5).all fun b => yes (law07_RefsCirclesF 4 b false)) = true := by kernel_rfl
theorem circles_f5 : ((List.range 6).all fun b => yes (law07_RefsCirclesF 5 b false)) = true := by kernel_rfl
theorem circles_f6 : ((List.range 7).all fun b => yes (law07_RefsCirclesF 6 b false)) = true := by kernel_rfl
theorem circles_f7 : ((List.range 8).all fun b => yes (law07_RefsCirclesF 7 b false)) = true := by kernel_rfl
theorem circles_f8 : ((List.range 9).all fun b => yes (law07_RefsCirclesF 8 b false)) = true := by kernel_rfl
theorem circles_f9 : ((List.range 10).all fun b => yes (law07_RefsCirclesF 9 b false)) = true := by kernel_rfl
theorem circles_f10 : ((List.range 11).all fun b => yes (law07_RefsCirclesF 10 b false)) = true := by kernel_rfl
theorem circles_f11 : ((List.range 12).all fun b => yes (law07_RefsCirclesF 11 b false)) = true := by kernel_rfl
theorem circles_f12 : ((List.range 13).all fun b => yes (law07_RefsCirclesF 12 b false)) = true := by kernel_rfl
theorem circles_f13 : ((List.range 14).all fun b => yes (law07_RefsCirclesF 13 b false)) = true := by kernel_rfl
theorem circles_f14 : ((List.range 15).all fun b => yes (law07_RefsCirclesF 14 b false)) = true := by kernel_rfl
theorem circles_f : ∀ {x : Nat}, x < 15 → ∀ {z : Nat}, z < x + 1 → yes (law07_RefsCirclesF x z false) = true
  | 0, _, _, h => all_get circles_f0 h
  | 1, _, _, h => all_get circles_f1 h
  | 2, _, _, h => all_get circles_f2 h
  | 3, _, _, h => all_get circles_f3 h
  | 4, _, _, h => all_get circles_f4 h
  | 5, _, _, h => all_get circles_f5 h
  | 6, _, _, h => all_get circles_f6 h
  | 7, _, _, h => all_get circles_f7 h
  | 8, _, _, h => all_get circles_f8 h
  | 9, _, _, h => all_get circles_f9 h
  | 10, _, _, h => all_get circles_f10 h
  | 11, _, _, h => all_get circles_f11 h
  | 12, _, _, h => all_get circles_f12 h
  | 13, _, _, h => all_get circles_f13 h
  | 14, _, _, h => all_get circles_f14 h
theorem circles_true (n b : Int) (c : Bool) : law07_RefsCircles n b c = some true := by
  rw [law07_RefsCirclesF_eq]
  obtain ⟨x, hx, h1⟩ := red n 15 (by decide)
  have hx6 : x < 15 := hx
  have e0 : ((wd (x : Int) % 15).toNat : Nat) = x := by
    rw [UInt64.toNat_mod, wd_nat (by omega)]; exact Nat.mod_eq_of_lt hx6
  have ek : (wd ((1 : Int) + ((wd (x : Int) % 15).toNat : Int))).toNat = x + 1 := by
    have : ((1 : Int) + ((wd (x : Int) % 15).toNat : Int)) = ((x + 1 : Nat) : Int) := by rw [e0]; omega
    rw [this, wd_nat (by omega)]
  obtain ⟨z, hz, h3⟩ := red b (wd ((1 : Int) + ((wd (x : Int) % 15).toNat : Int))) (by omega)
  rw [ek] at hz
  have e : law07_RefsCirclesF n b c = law07_RefsCirclesF x z c := by
    unfold law07_RefsCirclesF
    unfold wd at h1 h3
    rw [h1, h3]
  rw [e]
  cases c with
  | true => exact of_yes (circles_t hx6 hz)
  | false => exact of_yes (circles_f hx6 hz)
end Go.Proofs.YtdcdndflfhaejaaDoor


namespace Go.Proofs.YtdcdndflfhaejaaDoor
open Go.Sy Go.Shelf Go.Lib Go.ChangeShapes Go.WideShapes Go.ChangeAt Go.RowKit

theorem refsCircles_laid : Rows.refsCirclesRow.laid = laidTwo := by kernel_rfl
theorem refsCircles_ctr (a0 : Int) (a1 : Int) (a2 : Bool) : Ctr Tryd.prog 5 [isv a0, isv a1, isv a2] [] (pureP true) := law07_RefsCircles_w (circles_true a0 a1 a2)

theorem refsCircles_witness (os : Os) {H : Type} (enc : TypeId × Value → H) :
    (OpenSpec.ofChange Rows.refsCirclesSpec).preRow enc Tryd.prog Tryd.f5 [] false laidTwo ((laidWorld os).forCall (fun _ _ => 0) ⟨#[], #[.int .i64 0, .int .i64 0, .bool false], []⟩).memory #[.int .i64 0, .int .i64 0, .bool false] := by
  have hw : (DataW.whole enc Tryd.prog ((laidWorld os).forCall (fun _ _ => 0) ⟨#[], #[.int .i64 0, .int .i64 0, .bool false], []⟩).memory Tryd.f5.params.toList (OpenSpec.ofChange Rows.refsCirclesSpec).vars false #[Value.int .i64 0, .int .i64 0, .bool false].toList 8).map (fun x => (x.1, x.2.1)) =
      some ([.lit (.int .i64 0), .lit (.int .i64 0), .lit (.bool false)], []) := by kernel_rfl
  obtain ⟨⟨x1, x2, x3⟩, hx, hx1⟩ := Option.map_eq_some_iff.1 hw
  simp only [Prod.mk.injEq] at hx1
  obtain ⟨rfl, rfl⟩ := hx1
  exact OpenSpec.preRow_of_cond 8 hx (by kernel_rfl) (fun k hk => by cases hk) (by kernel_rfl) (laid_met os _)

set_option maxRecDepth 100000 in
theorem refsCircles_lifted (os : Os) (started : os.Started) (H : Type) (enc : TypeId × Value → H) (F : Stop.Interp) :
    ReturnsInHanded {} Tryd.checked os 5 .any ((OpenSpec.ofChange Rows.refsCirclesSpec).preRow enc Tryd.prog Tryd.f5 [] false laidTwo) (((OpenSpec.ofChange Rows.refsCirclesSpec).at F).post enc Tryd.prog Tryd.f5 false true false false) :=
  law_laid (C := Tryd.checked) (B := 4) own started (by kernel_rfl) Tryd.func5
    (witness_row_atRef (enc := enc) (C := Tryd.checked) false (laidWorld os) _ rfl (by kernel_rfl) (by kernel_rfl) (by kernel_rfl) (refsCircles_witness os enc))
    laidOut (by kernel_rfl) rfl rfl Tryd.underlying4
    (fun ds h => by
      match ds, h with
      | [_, _, _], _ => rfl)
    tabs_laid
    (fun W vs ds p hT ht hw hk => run3 (t1 := 3) (t2 := 3) (t3 := 4) hT refsCircles_ctr (Opn.int Tryd.underlying3) (Opn.int Tryd.underlying3) (Opn.bool Tryd.underlying4) ht hw hk)

theorem refsCircles_said : Rows.RefsCirclesSaid :=
  OpenClaim.holds_of_cond 5 Tryd.f5 rfl rfl rfl rfl rfl rfl rfl ⟨rfl, rfl, rfl, rfl, rfl⟩ rfl rfl rfl rfl rfl (by kernel_rfl) Tryd.func5 (by kernel_rfl)
    (of_decide_eq_true (by kernel_rfl)) (by unfold Func.isWrapper; rw [if_neg (of_decide_eq_false (by kernel_rfl))]; exact ⟨rfl, rfl⟩)
    (fun os started H enc _ F0 => by rw [OpenClaim.pre_eq_preRow, refsCircles_laid]; exact refsCircles_lifted os started H enc F0)

theorem refsCircles_card : Rows.RefsCirclesCardSaid :=
  Claim7.holds_tied_plain_at .later [] [.data, .pinned] true (true, "55d6e321a206e61f8cae08f4049c0d987a790ef90f2b8cfc2f38ddde01af33e9") false
    refsCircles_said (fun _ h => by cases h) (by kernel_rfl) (fun _ h => by cases h) refsCircles_row_tie rfl ⟨rfl, rfl⟩ (by kernel_rfl) rfl
    (fun f fn hf hfn => by
      obtain rfl : f = 5 := Option.some.inj ((show Tryd.prog.funcNamed Rows.refsCirclesRow.func = some 5 by kernel_rfl).symm.trans hf) |>.symm
      obtain rfl : fn = Tryd.f5 := (Option.some.inj (Tryd.func5.symm.trans hfn)).symm
      exact ⟨by kernel_rfl, fun j t ht => by
        have e : (Tryd.f5.params.toList.all fun t => !Tryd.prog.wantsStandIn t) = true := by kernel_rfl
        have := List.all_eq_true.1 e t (List.mem_of_getElem? (i := j) (by simpa using ht))
        exact (by simpa using this : Tryd.prog.wantsStandIn t = false)⟩)
    (by kernel_rfl)
end Go.Proofs.YtdcdndflfhaejaaDoor


