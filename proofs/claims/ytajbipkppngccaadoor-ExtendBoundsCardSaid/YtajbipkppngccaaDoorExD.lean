/- Walks, printed by mill.py. -/
import Derived.Test.YtajbipkppngccaaDoorExA
import Derived.Test.YtajbipkppngccaaDoorExB
import Derived.Test.YtajbipkppngccaaDoorExC
import Derived.Test.YtajbipkppngccaaDoorProg
import Derived.Shelf.Unicode.ValidAny
import Derived.KernelRfl
set_option linter.unusedVariables false
set_option linter.unusedSimpArgs false

namespace Go.Proofs.YtajbipkppngccaaDoor
open Go.Sy
def valRen : Shelf.Ren := ⟨fun x => bif Nat.beq x 196 then 122 else bif Nat.beq x 259 then 132 else x, fun x => bif Nat.beq x 0 then 0 else bif Nat.beq x 3 then 3 else bif Nat.beq x 4 then 4 else bif Nat.beq x 5 then 5 else bif Nat.beq x 9 then 9 else bif Nat.beq x 12 then 12 else bif Nat.beq x 46 then 37 else bif Nat.beq x 53 then 39 else bif Nat.beq x 119 then 181 else bif Nat.beq x 138 then 183 else bif Nat.beq x 139 then 184 else x, fun x => bif Nat.beq x 3 then 0 else bif Nat.beq x 4 then 1 else x⟩
set_option maxRecDepth 100000 in
theorem valLays : Lays.n196 Tryd.prog valRen := {
  mixed := by kernel_rfl
  f196 := Tryd.func122.trans (by kernel_rfl)
  f259 := Tryd.func132.trans (by kernel_rfl)
  t0 := Tryd.underlying0
  a0 := Tryd.isAgg0
  z0 := Tryd.sizeOf0
  v0 := Tryd.zeroValue0
  t3 := Tryd.underlying3
  a3 := Tryd.isAgg3
  z3 := Tryd.sizeOf3
  v3 := Tryd.zeroValue3
  t4 := Tryd.underlying4
  a4 := Tryd.isAgg4
  z4 := Tryd.sizeOf4
  v4 := Tryd.zeroValue4
  t5 := Tryd.underlying5
  a5 := Tryd.isAgg5
  z5 := Tryd.sizeOf5
  v5 := Tryd.zeroValue5
  t9 := Tryd.underlying9
  a9 := Tryd.isAgg9
  z9 := Tryd.sizeOf9
  v9 := Tryd.zeroValue9
  t12 := Tryd.underlying12
  a12 := Tryd.isAgg12
  z12 := Tryd.sizeOf12
  v12 := Tryd.zeroValue12
  t46 := Tryd.underlying37
  a46 := Tryd.isAgg37
  z46 := Tryd.sizeOf37
  v46 := Tryd.zeroValue37
  t53 := Tryd.underlying39
  a53 := Tryd.isAgg39
  z53 := Tryd.sizeOf39
  v53 := Tryd.zeroValue39
  t119 := Tryd.underlying181
  a119 := Tryd.isAgg181
  z119 := Tryd.sizeOf181
  t138 := Tryd.underlying183
  a138 := Tryd.isAgg183
  z138 := Tryd.sizeOf183
  v138 := Tryd.zeroValue183
  t139 := Tryd.underlying184
  a139 := Tryd.isAgg184
  z139 := Tryd.sizeOf184
  v139 := Tryd.zeroValue184
  g3 := by kernel_rfl
  g4 := by kernel_rfl }
theorem utf8_ValidString_w : ∀ {a_s : Str} {r : Bool}, utf8_ValidString a_s = some r → Ctr Tryd.prog 122 [isv (a_s)] [] (fun R H => R = oneOf [isv (r)] ∧ H = []) := by
  intro s r h
  obtain rfl := Option.some.inj h
  refine ⟨⟨_, Tryd.func122, rfl, by decide +kernel⟩, fun S w vs hT hs hv ho => ?_⟩
  match vs, hv with
  | [v], ⟨hv, _⟩ =>
    obtain ⟨rfl, hl⟩ := isv_str.1 hv
    have hb := Any.utf8_ValidString valLays s.ba w (by rw [Str.ba_size]; unfold maxText at hl; omega) (hT w hs _ _ valLays.g3 valLays.g4)
    refine hb.mono fun e w' ⟨he, hk⟩ => ⟨.bool (Lib.validD s.ba.data.toList), S, _, [], ⟨rfl, rfl⟩, he, ?_, ⟨⟨hk.os, hk.tape, hk.output, hk.size, fun k hk' _ => hk.block k hk'⟩, Grow.refl _ _ _, fun b cs hb => ?_⟩, owns_nil _ _ _ _⟩
    · refine isv_bool.2 ?_
      show Value.bool (Lib.validD s.b.toArray.toList) = _
      rfl
    · obtain ⟨c, T, fr, h1, h2⟩ := hs b cs hb
      exact ⟨c, T, fr, by rw [hk.block b (Array.getElem?_eq_some_iff.1 h1).1]; exact h1, h2⟩
end Go.Proofs.YtajbipkppngccaaDoor


namespace Go.Proofs.YtajbipkppngccaaDoor
open Go.Sy
set_option maxRecDepth 4000
@[reducible] def pt101_0_0 : Fld ((List GTok) × Int × (Str × Int × (TList Str) × (TList Int) × Vh) × Int × Int) (List GTok) := pf0
@[reducible] def pt101_0_1 : Fld ((List GTok) × Int × (Str × Int × (TList Str) × (TList Int) × Vh) × Int × Int) Int := pf1
@[reducible] def pt101_0_3 : Fld ((List GTok) × Int × (Str × Int × (TList Str) × (TList Int) × Vh) × Int × Int) Int := pf3
@[reducible] def pt101_0_4 : Fld ((List GTok) × Int × (Str × Int × (TList Str) × (TList Int) × Vh) × Int × Int) Int := pl4
@[reducible] def pt101_0_2 : Fld ((List GTok) × Int × (Str × Int × (TList Str) × (TList Int) × Vh) × Int × Int) (Str × Int × (TList Str) × (TList Int) × Vh) := pf2
@[reducible] def pt75_0_0 : Fld (Str × Int × (TList Str) × (TList Int) × Vh) Str := pf0
@[reducible] def pt75_0_1 : Fld (Str × Int × (TList Str) × (TList Int) × Vh) Int := pf1
@[reducible] def pt75_0_2 : Fld (Str × Int × (TList Str) × (TList Int) × Vh) (TList Str) := pf2
@[reducible] def pt75_0_4 : Fld (Str × Int × (TList Str) × (TList Int) × Vh) Vh := pl4
@[reducible] def pt133_0_2 : Fld (Int × Str × GMark × GCon × (TList GItem) × (TList GFld) × Int × Bool × Int) GMark := pf2
@[reducible] def pt133_0_0 : Fld (Int × Str × GMark × GCon × (TList GItem) × (TList GFld) × Int × Bool × Int) Int := pf0
@[reducible] def pt133_0_3 : Fld (Int × Str × GMark × GCon × (TList GItem) × (TList GFld) × Int × Bool × Int) GCon := pf3
@[reducible] def pt133_0_4 : Fld (Int × Str × GMark × GCon × (TList GItem) × (TList GFld) × Int × Bool × Int) (TList GItem) := pf4
@[reducible] def pt133_0_7 : Fld (Int × Str × GMark × GCon × (TList GItem) × (TList GFld) × Int × Bool × Int) Bool := pf7
@[reducible] def pt133_0_6 : Fld (Int × Str × GMark × GCon × (TList GItem) × (TList GFld) × Int × Bool × Int) Int := pf6
@[reducible] def pt133_0_5 : Fld (Int × Str × GMark × GCon × (TList GItem) × (TList GFld) × Int × Bool × Int) (TList GFld) := pf5
@[reducible] def pt133_0_8 : Fld (Int × Str × GMark × GCon × (TList GItem) × (TList GFld) × Int × Bool × Int) Int := pl8
@[reducible] def pt133_0_1 : Fld (Int × Str × GMark × GCon × (TList GItem) × (TList GFld) × Int × Bool × Int) Str := pf1
@[reducible] def pt75_0_3 : Fld (Str × Int × (TList Str) × (TList Int) × Vh) (TList Int) := pf3
@[reducible] def pt101_1_2 : Fld ((List GTok) × Int × (Str × Int × (TList Str) × (TList Int) × (List GNode)) × Int × Int) (Str × Int × (TList Str) × (TList Int) × (List GNode)) := pf2
theorem ze75 : ZeroOk Tryd.prog 75 ((GMod.mk (Str.mk []) (0 : Int) ([] : (List Str)) ([] : (List Int)) ([] : (List GNode))) : GMod) := zero_agg (cs := [.string ⟨#[]⟩, .int .i64 0, .slice none 0 0, .slice none 0 0, .slice none 0 0]) rfl (by kernel_rfl) (zr_pair zr_str (zr_pair zr_int (zr_pair zr_list (zr_pair zr_list zr_list))))
theorem st9 : StrB Tryd.prog 9 = true := by kernel_rfl
theorem eq5 : EqOk Tryd.prog 5 UInt8 := EqOk.u8
theorem fd105_2 : FldB Tryd.prog 105 2 2 1 false = true := by kernel_rfl
theorem bu105 : BuildB Tryd.prog 105 = true := by kernel_rfl
theorem ze105 : ZeroOk Tryd.prog 105 ((GTok.mk (0 : Int) (Str.mk []) (0 : Int)) : GTok) := zero_agg (cs := [.int .i64 0, .string ⟨#[]⟩, .int .i64 0]) rfl (by kernel_rfl) (zr_pair zr_int (zr_pair zr_str zr_int))
theorem el96 : elB Tryd.prog 96 3 = true := by kernel_rfl
theorem ap96_96 : appB Tryd.prog 96 96 3 = true := by kernel_rfl
theorem ty105 : TyB Tryd.prog 105 3 true = true := by kernel_rfl
theorem moOrd : Tryd.prog.follows .mixedOrders = true := by kernel_rfl
theorem fd105_0 : FldB Tryd.prog 105 0 0 1 false = true := by kernel_rfl
theorem ty3 : TyB Tryd.prog 3 1 false = true := by kernel_rfl
theorem fd105_1 : FldB Tryd.prog 105 1 1 1 false = true := by kernel_rfl
theorem ty9 : TyB Tryd.prog 9 1 false = true := by kernel_rfl
theorem el22 : elB Tryd.prog 22 1 = true := by kernel_rfl
theorem sl22 : SlB Tryd.prog 22 1 false = true := by kernel_rfl
theorem eq9 : EqOk Tryd.prog 9 Str := EqOk.str
theorem bu75 : BuildB Tryd.prog 75 = true := by kernel_rfl
theorem ty75 : TyB Tryd.prog 75 5 true = true := by kernel_rfl
theorem fd101_0 : FldB Tryd.prog 101 0 0 1 false = true := by kernel_rfl
theorem bu101 : BuildB Tryd.prog 101 = true := by kernel_rfl
theorem zt101_0 : ZeroOk Tryd.prog 101 ((([] : (List GTok)), (0 : Int), ((Str.mk []), (0 : Int), (TList.mk none ([] : (List Str))), (TList.mk none ([] : (List Int))), (Vh.mk none 0)), (0 : Int), (0 : Int)) : ((List GTok) × Int × (Str × Int × (TList Str) × (TList Int) × Vh) × Int × Int)) := zero_agg (cs := [.slice none 0 0, .int .i64 0, .string ⟨#[]⟩, .int .i64 0, .slice none 0 0, .slice none 0 0, .slice none 0 0, .int .i64 0, .int .i64 0]) rfl (by kernel_rfl) (zr_pair zr_list (zr_pair zr_int (zr_pair (zr_pair zr_str (zr_pair zr_int (zr_pair zr_tl (zr_pair zr_tl zr_vh)))) (zr_pair zr_int zr_int))))
theorem ty96 : TyB Tryd.prog 96 1 false = true := by kernel_rfl
theorem fd101_1 : FldB Tryd.prog 101 1 1 1 false = true := by kernel_rfl
theorem sl96 : SlB Tryd.prog 96 3 true = true := by kernel_rfl
theorem fd101_3 : FldB Tryd.prog 101 3 7 1 false = true := by kernel_rfl
theorem ty30 : TyB Tryd.prog 30 1 false = true := by kernel_rfl
theorem fd101_4 : FldB Tryd.prog 101 4 8 1 false = true := by kernel_rfl
theorem fd101_2 : FldB Tryd.prog 101 2 2 5 true = true := by kernel_rfl
theorem fd75_0 : FldB Tryd.prog 75 0 0 1 false = true := by kernel_rfl
theorem fd75_1 : FldB Tryd.prog 75 1 1 1 false = true := by kernel_rfl
theorem fd75_2 : FldB Tryd.prog 75 2 2 1 false = true := by kernel_rfl
theorem ty22 : TyB Tryd.prog 22 1 false = true := by kernel_rfl
theorem fd75_4 : FldB Tryd.prog 75 4 4 1 false = true := by kernel_rfl
theorem ty73 : TyB Tryd.prog 73 1 false = true := by kernel_rfl
theorem sl73 : SlB Tryd.prog 73 16 true = true := by kernel_rfl
theorem bu133 : BuildB Tryd.prog 133 = true := by kernel_rfl
theorem ze133 : ZeroOk Tryd.prog 133 ((GNode.mk (0 : Int) (Str.mk []) (GMark.mk false (0 : Int) (0 : Int)) (GCon.mk false false false false (0 : Int) (0 : Int)) ([] : (List GItem)) ([] : (List GFld)) (0 : Int) false (0 : Int)) : GNode) := zero_agg (cs := [.int .i64 0, .string ⟨#[]⟩, .bool false, .int .i64 0, .int .i64 0, .bool false, .bool false, .bool false, .bool false, .int .i64 0, .int .i64 0, .slice none 0 0, .slice none 0 0, .int .i64 0, .bool false, .int .i64 0]) rfl (by kernel_rfl) (zr_pair zr_int (zr_pair zr_str (zr_pair (zr_pair zr_bool (zr_pair zr_int zr_int)) (zr_pair (zr_pair zr_bool (zr_pair zr_bool (zr_pair zr_bool (zr_pair zr_bool (zr_pair zr_int zr_int))))) (zr_pair zr_list (zr_pair zr_list (zr_pair zr_int (zr_pair zr_bool zr_int))))))))
theorem el73 : elB Tryd.prog 73 16 = true := by kernel_rfl
theorem ap73_73 : appB Tryd.prog 73 73 16 = true := by kernel_rfl
theorem zt133_1 : ZeroOk Tryd.prog 133 (((0 : Int), (Str.mk []), (GMark.mk false (0 : Int) (0 : Int)), (GCon.mk false false false false (0 : Int) (0 : Int)), (TList.mk none ([] : (List GItem))), (TList.mk none ([] : (List GFld))), (0 : Int), false, (0 : Int)) : (Int × Str × GMark × GCon × (TList GItem) × (TList GFld) × Int × Bool × Int)) := zero_agg (cs := [.int .i64 0, .string ⟨#[]⟩, .bool false, .int .i64 0, .int .i64 0, .bool false, .bool false, .bool false, .bool false, .int .i64 0, .int .i64 0, .slice none 0 0, .slice none 0 0, .int .i64 0, .bool false, .int .i64 0]) rfl (by kernel_rfl) (zr_pair zr_int (zr_pair zr_str (zr_pair (zr_pair zr_bool (zr_pair zr_int zr_int)) (zr_pair (zr_pair zr_bool (zr_pair zr_bool (zr_pair zr_bool (zr_pair zr_bool (zr_pair zr_int zr_int))))) (zr_pair zr_tl (zr_pair zr_tl (zr_pair zr_int (zr_pair zr_bool zr_int))))))))
theorem ty133 : TyB Tryd.prog 133 16 true = true := by kernel_rfl
theorem fd131_1 : FldB Tryd.prog 131 1 1 1 false = true := by kernel_rfl
theorem fd131_0 : FldB Tryd.prog 131 0 0 1 false = true := by kernel_rfl
theorem bu131 : BuildB Tryd.prog 131 = true := by kernel_rfl
theorem ze131 : ZeroOk Tryd.prog 131 ((GMark.mk false (0 : Int) (0 : Int)) : GMark) := zero_agg (cs := [.bool false, .int .i64 0, .int .i64 0]) rfl (by kernel_rfl) (zr_pair zr_bool (zr_pair zr_int zr_int))
theorem fd133_2 : FldB Tryd.prog 133 2 2 3 true = true := by kernel_rfl
theorem ty131 : TyB Tryd.prog 131 3 true = true := by kernel_rfl
theorem fd131_2 : FldB Tryd.prog 131 2 2 1 false = true := by kernel_rfl
theorem fd133_0 : FldB Tryd.prog 133 0 0 1 false = true := by kernel_rfl
theorem ze54 : ZeroOk Tryd.prog 54 ((GCon.mk false false false false (0 : Int) (0 : Int)) : GCon) := zero_agg (cs := [.bool false, .bool false, .bool false, .bool false, .int .i64 0, .int .i64 0]) rfl (by kernel_rfl) (zr_pair zr_bool (zr_pair zr_bool (zr_pair zr_bool (zr_pair zr_bool (zr_pair zr_int zr_int)))))
theorem bu54 : BuildB Tryd.prog 54 = true := by kernel_rfl
theorem ty54 : TyB Tryd.prog 54 6 true = true := by kernel_rfl
theorem fd54_0 : FldB Tryd.prog 54 0 0 1 false = true := by kernel_rfl
theorem fd54_1 : FldB Tryd.prog 54 1 1 1 false = true := by kernel_rfl
theorem ty4 : TyB Tryd.prog 4 1 false = true := by kernel_rfl
theorem fd54_4 : FldB Tryd.prog 54 4 4 1 false = true := by kernel_rfl
theorem ty2 : TyB Tryd.prog 2 1 false = true := by kernel_rfl
theorem fd54_2 : FldB Tryd.prog 54 2 2 1 false = true := by kernel_rfl
theorem fd54_5 : FldB Tryd.prog 54 5 5 1 false = true := by kernel_rfl
theorem fd54_3 : FldB Tryd.prog 54 3 3 1 false = true := by kernel_rfl
theorem fd133_3 : FldB Tryd.prog 133 3 5 6 true = true := by kernel_rfl
theorem fd133_4 : FldB Tryd.prog 133 4 11 1 false = true := by kernel_rfl
theorem ty55 : TyB Tryd.prog 55 1 false = true := by kernel_rfl
theorem sl55 : SlB Tryd.prog 55 3 true = true := by kernel_rfl
theorem fd133_7 : FldB Tryd.prog 133 7 14 1 false = true := by kernel_rfl
theorem fd133_6 : FldB Tryd.prog 133 6 13 1 false = true := by kernel_rfl
theorem fd71_0 : FldB Tryd.prog 71 0 0 1 false = true := by kernel_rfl
theorem bu71 : BuildB Tryd.prog 71 = true := by kernel_rfl
theorem ze71 : ZeroOk Tryd.prog 71 ((GItem.mk (Str.mk []) (0 : Int) false) : GItem) := zero_agg (cs := [.string ⟨#[]⟩, .int .i64 0, .bool false]) rfl (by kernel_rfl) (zr_pair zr_str (zr_pair zr_int zr_bool))
theorem ty71 : TyB Tryd.prog 71 3 true = true := by kernel_rfl
theorem fd71_2 : FldB Tryd.prog 71 2 2 1 false = true := by kernel_rfl
theorem fd71_1 : FldB Tryd.prog 71 1 1 1 false = true := by kernel_rfl
theorem el55 : elB Tryd.prog 55 3 = true := by kernel_rfl
theorem ap55_55 : appB Tryd.prog 55 55 3 = true := by kernel_rfl
theorem fd133_5 : FldB Tryd.prog 133 5 12 1 false = true := by kernel_rfl
theorem ty56 : TyB Tryd.prog 56 1 false = true := by kernel_rfl
theorem sl56 : SlB Tryd.prog 56 11 true = true := by kernel_rfl
theorem fd69_5 : FldB Tryd.prog 69 5 10 1 false = true := by kernel_rfl
theorem fd69_0 : FldB Tryd.prog 69 0 0 1 false = true := by kernel_rfl
theorem bu69 : BuildB Tryd.prog 69 = true := by kernel_rfl
theorem ze69 : ZeroOk Tryd.prog 69 ((GFld.mk (Str.mk []) (0 : Int) false false (Val.mk (0 : Int) (0 : Int) ([] : (List UInt8)) ([] : (List Val)) (0 : Int) ([] : (List Raw))) (0 : Int)) : GFld) := zero_agg (cs := [.string ⟨#[]⟩, .int .i64 0, .bool false, .bool false, .int .i64 0, .int .i64 0, .slice none 0 0, .slice none 0 0, .int .i64 0, .slice none 0 0, .int .i64 0]) rfl (by kernel_rfl) (zr_pair zr_str (zr_pair zr_int (zr_pair zr_bool (zr_pair zr_bool (zr_pair zr_val zr_int)))))
theorem ty69 : TyB Tryd.prog 69 11 true = true := by kernel_rfl
theorem fd69_1 : FldB Tryd.prog 69 1 1 1 false = true := by kernel_rfl
theorem fd69_2 : FldB Tryd.prog 69 2 2 1 false = true := by kernel_rfl
theorem ze67 : ZeroOk Tryd.prog 67 ((Val.mk (0 : Int) (0 : Int) ([] : (List UInt8)) ([] : (List Val)) (0 : Int) ([] : (List Raw))) : Val) := zero_agg (cs := [.int .i64 0, .int .i64 0, .slice none 0 0, .slice none 0 0, .int .i64 0, .slice none 0 0]) rfl (by kernel_rfl) zr_val
theorem fd67_1 : FldB Tryd.prog 67 1 1 1 false = true := by kernel_rfl
theorem fd67_0 : FldB Tryd.prog 67 0 0 1 false = true := by kernel_rfl
theorem bu67 : BuildB Tryd.prog 67 = true := by kernel_rfl
theorem ty67 : TyB Tryd.prog 67 6 true = true := by kernel_rfl
theorem fd67_2 : FldB Tryd.prog 67 2 2 1 false = true := by kernel_rfl
theorem el63 : elB Tryd.prog 63 1 = true := by kernel_rfl
theorem ap63_63 : appB Tryd.prog 63 63 1 = true := by kernel_rfl
theorem fd69_3 : FldB Tryd.prog 69 3 3 1 false = true := by kernel_rfl
theorem fd69_4 : FldB Tryd.prog 69 4 4 6 true = true := by kernel_rfl
theorem el56 : elB Tryd.prog 56 11 = true := by kernel_rfl
theorem ap56_56 : appB Tryd.prog 56 56 11 = true := by kernel_rfl
theorem fd133_8 : FldB Tryd.prog 133 8 15 1 false = true := by kernel_rfl
theorem fd133_1 : FldB Tryd.prog 133 1 1 1 false = true := by kernel_rfl
theorem ap22_22 : appB Tryd.prog 22 22 1 = true := by kernel_rfl
theorem fd75_3 : FldB Tryd.prog 75 3 3 1 false = true := by kernel_rfl
theorem ty23 : TyB Tryd.prog 23 1 false = true := by kernel_rfl
theorem el23 : elB Tryd.prog 23 1 = true := by kernel_rfl
theorem ap23_23 : appB Tryd.prog 23 23 1 = true := by kernel_rfl
end Go.Proofs.YtajbipkppngccaaDoor


namespace Go.Proofs.YtajbipkppngccaaDoor
open Go.Sy
set_option maxRecDepth 4000
@[reducible] def pt113_0_0 : Fld (GMod × Vh × Int) GMod := pf0
@[reducible] def pt26_0_0 : Fld (Str × (List Str) × (TList Int) × (List GTyp)) Str := pf0
@[reducible] def pt26_0_1 : Fld (Str × (List Str) × (TList Int) × (List GTyp)) (List Str) := pf1
@[reducible] def pt26_0_2 : Fld (Str × (List Str) × (TList Int) × (List GTyp)) (TList Int) := pf2
@[reducible] def pt113_0_2 : Fld (GMod × Vh × Int) Int := pl2
@[reducible] def pt113_0_1 : Fld (GMod × Vh × Int) Vh := pf1
@[reducible] def pt26_0_3 : Fld (Str × (List Str) × (TList Int) × (List GTyp)) (List GTyp) := pl3
theorem ze26 : ZeroOk Tryd.prog 26 ((GTab.mk (Str.mk []) ([] : (List Str)) ([] : (List Int)) ([] : (List GTyp))) : GTab) := zero_agg (cs := [.string ⟨#[]⟩, .slice none 0 0, .slice none 0 0, .slice none 0 0]) rfl (by kernel_rfl) (zr_pair zr_str (zr_pair zr_list (zr_pair zr_list zr_list)))
theorem bu26 : BuildB Tryd.prog 26 = true := by kernel_rfl
theorem ty26 : TyB Tryd.prog 26 4 true = true := by kernel_rfl
theorem sl23 : SlB Tryd.prog 23 1 false = true := by kernel_rfl
theorem el49 : elB Tryd.prog 49 1 = true := by kernel_rfl
theorem ap49_49 : appB Tryd.prog 49 49 1 = true := by kernel_rfl
theorem sl49 : SlB Tryd.prog 49 1 false = true := by kernel_rfl
theorem fd113_0 : FldB Tryd.prog 113 0 0 5 true = true := by kernel_rfl
theorem bu113 : BuildB Tryd.prog 113 = true := by kernel_rfl
theorem zt113_2 : ZeroOk Tryd.prog 113 (((GMod.mk (Str.mk []) (0 : Int) ([] : (List Str)) ([] : (List Int)) ([] : (List GNode))), (Vh.mk none 0), (0 : Int)) : (GMod × Vh × Int)) := zero_agg (cs := [.string ⟨#[]⟩, .int .i64 0, .slice none 0 0, .slice none 0 0, .slice none 0 0, .slice none 0 0, .int .i64 0]) rfl (by kernel_rfl) (zr_pair (zr_pair zr_str (zr_pair zr_int (zr_pair zr_list (zr_pair zr_list zr_list)))) (zr_pair zr_vh zr_int))
theorem fd26_0 : FldB Tryd.prog 26 0 0 1 false = true := by kernel_rfl
theorem fd26_1 : FldB Tryd.prog 26 1 1 1 false = true := by kernel_rfl
theorem zt26_3 : ZeroOk Tryd.prog 26 (((Str.mk []), ([] : (List Str)), (TList.mk none ([] : (List Int))), ([] : (List GTyp))) : (Str × (List Str) × (TList Int) × (List GTyp))) := zero_agg (cs := [.string ⟨#[]⟩, .slice none 0 0, .slice none 0 0, .slice none 0 0]) rfl (by kernel_rfl) (zr_pair zr_str (zr_pair zr_list (zr_pair zr_tl zr_list)))
theorem fd26_2 : FldB Tryd.prog 26 2 2 1 false = true := by kernel_rfl
theorem fd113_2 : FldB Tryd.prog 113 2 6 1 false = true := by kernel_rfl
theorem fd113_1 : FldB Tryd.prog 113 1 5 1 false = true := by kernel_rfl
theorem ty24 : TyB Tryd.prog 24 1 false = true := by kernel_rfl
theorem sl24 : SlB Tryd.prog 24 13 true = true := by kernel_rfl
theorem fd58_6 : FldB Tryd.prog 58 6 11 1 false = true := by kernel_rfl
theorem fd58_5 : FldB Tryd.prog 58 5 10 1 false = true := by kernel_rfl
theorem fd58_2 : FldB Tryd.prog 58 2 2 6 true = true := by kernel_rfl
theorem fd58_0 : FldB Tryd.prog 58 0 0 1 false = true := by kernel_rfl
theorem bu58 : BuildB Tryd.prog 58 = true := by kernel_rfl
theorem ze58 : ZeroOk Tryd.prog 58 ((GTyp.mk (0 : Int) ([] : (List Tag)) (GCon.mk false false false false (0 : Int) (0 : Int)) ([] : (List GItem)) ([] : (List GFld)) (0 : Int) false (0 : Int)) : GTyp) := zero_agg (cs := [.int .i64 0, .slice none 0 0, .bool false, .bool false, .bool false, .bool false, .int .i64 0, .int .i64 0, .slice none 0 0, .slice none 0 0, .int .i64 0, .bool false, .int .i64 0]) rfl (by kernel_rfl) (zr_pair zr_int (zr_pair zr_list (zr_pair (zr_pair zr_bool (zr_pair zr_bool (zr_pair zr_bool (zr_pair zr_bool (zr_pair zr_int zr_int))))) (zr_pair zr_list (zr_pair zr_list (zr_pair zr_int (zr_pair zr_bool zr_int)))))))
theorem ty58 : TyB Tryd.prog 58 13 true = true := by kernel_rfl
theorem ze61 : ZeroOk Tryd.prog 61 (Tag.zero : Tag) := zero_agg (cs := [.int .i64 0, .int .i64 0]) rfl (by kernel_rfl) (zr_pair zr_int zr_int)
theorem fd61_1 : FldB Tryd.prog 61 1 1 1 false = true := by kernel_rfl
theorem bu61 : BuildB Tryd.prog 61 = true := by kernel_rfl
theorem ty61 : TyB Tryd.prog 61 2 true = true := by kernel_rfl
theorem el52 : elB Tryd.prog 52 2 = true := by kernel_rfl
theorem fd58_1 : FldB Tryd.prog 58 1 1 1 false = true := by kernel_rfl
theorem ty52 : TyB Tryd.prog 52 1 false = true := by kernel_rfl
theorem el24 : elB Tryd.prog 24 13 = true := by kernel_rfl
theorem ap24_24 : appB Tryd.prog 24 24 13 = true := by kernel_rfl
theorem fd58_7 : FldB Tryd.prog 58 7 12 1 false = true := by kernel_rfl
theorem fd58_3 : FldB Tryd.prog 58 3 8 1 false = true := by kernel_rfl
theorem ty63 : TyB Tryd.prog 63 1 false = true := by kernel_rfl
theorem sl63 : SlB Tryd.prog 63 1 false = true := by kernel_rfl
theorem ty5 : TyB Tryd.prog 5 1 false = true := by kernel_rfl
theorem gl_first : Tryd.prog.globals.findIdx? (·.name == "unicode/utf8.first") = some 0 := by kernel_rfl
theorem ar181 : ArrB Tryd.prog 181 256 1 false = true := by kernel_rfl
theorem gl_acceptRanges : Tryd.prog.globals.findIdx? (·.name == "unicode/utf8.acceptRanges") = some 1 := by kernel_rfl
theorem ar184 : ArrB Tryd.prog 184 16 2 true = true := by kernel_rfl
theorem ty183 : TyB Tryd.prog 183 2 true = true := by kernel_rfl
theorem ze183 : ZeroOk Tryd.prog 183 (GAcc.zero : GAcc) := zero_agg (cs := [.int .u8 0, .int .u8 0]) rfl (by kernel_rfl) (zr_pair zr_u8 zr_u8)
theorem fd183_0 : FldB Tryd.prog 183 0 0 1 false = true := by kernel_rfl
theorem fd183_1 : FldB Tryd.prog 183 1 1 1 false = true := by kernel_rfl
theorem sl52 : SlB Tryd.prog 52 2 true = true := by kernel_rfl
theorem fd61_0 : FldB Tryd.prog 61 0 0 1 false = true := by kernel_rfl
theorem ap52_52 : appB Tryd.prog 52 52 2 = true := by kernel_rfl
theorem fd58_4 : FldB Tryd.prog 58 4 9 1 false = true := by kernel_rfl
theorem el194 : elB Tryd.prog 194 1 = true := by kernel_rfl
theorem ap194_194 : appB Tryd.prog 194 194 1 = true := by kernel_rfl
theorem sl194 : SlB Tryd.prog 194 1 false = true := by kernel_rfl
theorem eq61 : EqOk Tryd.prog 61 Tag := Tag.eqOk Tryd.underlying61 (by kernel_rfl) (by kernel_rfl) Tryd.underlying3
theorem el189 : elB Tryd.prog 189 1 = true := by kernel_rfl
theorem ap189_189 : appB Tryd.prog 189 189 1 = true := by kernel_rfl
theorem sl189 : SlB Tryd.prog 189 1 false = true := by kernel_rfl
theorem fd26_3 : FldB Tryd.prog 26 3 3 1 false = true := by kernel_rfl
end Go.Proofs.YtajbipkppngccaaDoor


namespace Go.Proofs.YtajbipkppngccaaDoor
open Go.Sy
set_option maxRecDepth 4000
theorem fd82_1 : FldB Tryd.prog 82 1 4 4 true = true := by kernel_rfl
theorem fd82_0 : FldB Tryd.prog 82 0 0 4 true = true := by kernel_rfl
theorem bu82 : BuildB Tryd.prog 82 = true := by kernel_rfl
theorem ze82 : ZeroOk Tryd.prog 82 ((GXsd.mk (GTab.mk (Str.mk []) ([] : (List Str)) ([] : (List Int)) ([] : (List GTyp))) (GTab.mk (Str.mk []) ([] : (List Str)) ([] : (List Int)) ([] : (List GTyp)))) : GXsd) := zero_agg (cs := [.string ⟨#[]⟩, .slice none 0 0, .slice none 0 0, .slice none 0 0, .string ⟨#[]⟩, .slice none 0 0, .slice none 0 0, .slice none 0 0]) rfl (by kernel_rfl) (zr_pair (zr_pair zr_str (zr_pair zr_list (zr_pair zr_list zr_list))) (zr_pair zr_str (zr_pair zr_list (zr_pair zr_list zr_list))))
theorem fd84_1 : FldB Tryd.prog 84 1 8 1 false = true := by kernel_rfl
theorem fd84_0 : FldB Tryd.prog 84 0 0 8 true = true := by kernel_rfl
theorem bu84 : BuildB Tryd.prog 84 = true := by kernel_rfl
theorem ze84 : ZeroOk Tryd.prog 84 ((GXwk.mk (GXsd.mk (GTab.mk (Str.mk []) ([] : (List Str)) ([] : (List Int)) ([] : (List GTyp))) (GTab.mk (Str.mk []) ([] : (List Str)) ([] : (List Int)) ([] : (List GTyp)))) (0 : Int)) : GXwk) := zero_agg (cs := [.string ⟨#[]⟩, .slice none 0 0, .slice none 0 0, .slice none 0 0, .string ⟨#[]⟩, .slice none 0 0, .slice none 0 0, .slice none 0 0, .int .i64 0]) rfl (by kernel_rfl) (zr_pair (zr_pair (zr_pair zr_str (zr_pair zr_list (zr_pair zr_list zr_list))) (zr_pair zr_str (zr_pair zr_list (zr_pair zr_list zr_list)))) zr_int)
theorem ty82 : TyB Tryd.prog 82 8 true = true := by kernel_rfl
theorem eq54 : EqOk Tryd.prog 54 GCon := GCon.eqOk Tryd.underlying54 (by kernel_rfl) (by kernel_rfl) rfl rfl Tryd.underlying4 rfl rfl Tryd.underlying4 rfl rfl Tryd.underlying4 rfl rfl Tryd.underlying4 rfl rfl Tryd.underlying2 rfl rfl Tryd.underlying2
theorem eq4 : EqOk Tryd.prog 4 Bool := EqOk.bool Tryd.underlying4
theorem eq71 : EqOk Tryd.prog 71 GItem := GItem.eqOk Tryd.underlying71 (by kernel_rfl) (by kernel_rfl) rfl rfl Tryd.underlying9 rfl rfl Tryd.underlying2 rfl rfl Tryd.underlying4
theorem fd67_3 : FldB Tryd.prog 67 3 3 1 false = true := by kernel_rfl
theorem ty64 : TyB Tryd.prog 64 1 false = true := by kernel_rfl
theorem sl64 : SlB Tryd.prog 64 6 true = true := by kernel_rfl
theorem fd67_4 : FldB Tryd.prog 67 4 4 1 false = true := by kernel_rfl
theorem fd67_5 : FldB Tryd.prog 67 5 5 1 false = true := by kernel_rfl
theorem ty65 : TyB Tryd.prog 65 1 false = true := by kernel_rfl
theorem sl65 : SlB Tryd.prog 65 2 true = true := by kernel_rfl
theorem ty149 : TyB Tryd.prog 149 2 true = true := by kernel_rfl
theorem ze149 : ZeroOk Tryd.prog 149 (Raw.zero : Raw) := zero_agg (cs := [.int .i64 0, .slice none 0 0]) rfl (by kernel_rfl) (zr_pair zr_int zr_list)
theorem fd149_0 : FldB Tryd.prog 149 0 0 1 false = true := by kernel_rfl
theorem fd149_1 : FldB Tryd.prog 149 1 1 1 false = true := by kernel_rfl
end Go.Proofs.YtajbipkppngccaaDoor


namespace Go.Proofs.YtajbipkppngccaaDoor
open Go.Sy
set_option maxRecDepth 4000
theorem r04_at_w : ∀ {a_s : Str} {a_i : Int} {r : UInt8}, r04_at a_s a_i = some r → Ctr Tryd.prog 96 [isv (a_s), isv (a_i)] [] (fun R H => R = oneOf [isv (r)] ∧ H = []) := by
 intro a_s a_i r h
 unfold r04_at at h
 refine spec_intro Tryd.func96 rfl (by decide +kernel) (by rfl) fun w0 S0 hT => ?_
 refine wsr ?_
 refine oV (v_assign rfl) ?_
 refine rnf ?_
 refine w_seq ?_
 refine wsr ?_
 refine oV (v_move rfl) ?_
 refine oV (v_lss rfl rfl) ?_
 refine oV (v_move rfl) ?_
 refine rl_j (ι := Bool) (γ := Unit) (fun q1 g1 => [(12, isv (q1))]) (fun q1 g1 => []) .nil h 5 rfl (fun q1 g1 h => ?_) (fun J2 h hJ2 => ?_)
 ·
  refine rnf ?_
  refine w_condM h rfl (fun _ h => ?_) (fun _ h => ?_)
  ·
   refine wsr ?_
   refine oV (v_assign rfl) ?_
   refine rnf ?_
   refine w_ret ?_
   refine ret_nxt ?_
   refine ret_post (.tmp rfl .nil) .nil ?_
   obtain rfl := Option.some.inj h
   exact ⟨rfl, rfl⟩
  ·
   refine wkf ?_
   refine wsr ?_
   refine oV (v_move rfl) ?_
   refine oV (v_move rfl) ?_
   refine cal_inv h fun y4 hy4 h => ?_
   refine oV (v_idxS y4 st9 rfl rfl hy4) ?_
   refine oV (v_assign rfl) ?_
   refine rnf ?_
   refine w_ret ?_
   refine ret_post (.tmp rfl .nil) .nil ?_
   obtain rfl := Option.some.inj h
   exact ⟨rfl, rfl⟩
 ·
  refine rl_condM (j := 7) h rfl (fun g3 h => ?_) (fun g3 h => ?_)
  ·
   refine op_pass rfl (dj := 7) rfl g3 ?_
   refine op_pass rfl (dj := 7) rfl g3 ?_
   refine op_pass rfl (dj := 7) rfl g3 ?_
   refine op_pass rfl (dj := 7) rfl g3 ?_
   refine oV (v_pick_t rfl g3 rfl) ?_
   exact hJ2 _ () h _ (join_imp 5 rfl rfl (mod_cons (j := 12) rfl (fun _ _ h => h) mod_nil) .nil)
  ·
   refine op_take rfl rfl (dj := 7) rfl g3 (OpV.t (v_move rfl) ?_)
   refine op_take rfl rfl (dj := 7) rfl g3 (OpV.t (v_move rfl) ?_)
   refine op_take rfl rfl (dj := 7) rfl g3 (OpV.t (v_lenS st9 rfl) ?_)
   refine op_take rfl rfl (dj := 7) rfl g3 (OpV.t (v_geq rfl rfl) ?_)
   refine oV (v_pick_f rfl g3 rfl) ?_
   exact hJ2 _ () h _ (join_imp 5 rfl rfl (mod_cons (j := 12) rfl (fun _ _ h => h) mod_nil) .nil)


theorem r04_white_w : ∀ {a_s : Str} {a_i : Int} {r : Int}, r04_white a_s a_i = some r → Ctr Tryd.prog 75 [isv (a_s), isv (a_i)] [] (fun R H => R = oneOf [isv (r)] ∧ H = []) := by
 intro a_s a_i r h
 unfold r04_white at h
 refine spec_intro Tryd.func75 rfl (by decide +kernel) (by rfl) fun w0 S0 hT => ?_
 refine wsr ?_
 refine oV (v_assign rfl) ?_
 refine rnf ?_
 refine w_seq ?_
 refine w_block ?_
 refine w_lp (ι := Int) (γ := Unit) (fun q1 g1 => [(1, isv (q1))]) (fun q1 g1 => []) h () (mod_cons (j := 1) rfl (fun _ _ h => h) mod_nil) .nil (fun L2 q1 g1 Q99 h hL2 eL2 rL2 => ?_)
 refine w_seq ?_
 refine wsr ?_
 refine oV (v_move rfl) ?_
 refine oV (v_move rfl) ?_
 refine oV (v_lenS st9 rfl) ?_
 refine oV (v_lss rfl rfl) ?_
 refine rnf ?_
 refine w_condM h rfl (fun _ h => ?_) (fun _ h => ?_)
 ·
  refine wkf ?_
  refine w_block ?_
  refine w_block ?_
  refine wsr ?_
  refine oV (v_move rfl) ?_
  refine oV (v_move rfl) ?_
  refine cal_inv h fun y51 hy51 h => ?_
  refine oV (v_idxS y51 st9 rfl rfl hy51) ?_
  refine oV (v_eqA eq5 rfl rfl) ?_
  refine oV (v_move rfl) ?_
  refine rl_j (ι := Bool) (γ := Unit) (fun q52 g52 => [(20, isv (q52))]) (fun q52 g52 => []) .nil h 5 rfl (fun q52 g52 h => ?_) (fun J53 h hJ53 => ?_)
  ·
   refine oV (v_move rfl) ?_
   refine rl_j (ι := Bool) (γ := Unit) (fun q56 g56 => [(26, isv (q56))]) (fun q56 g56 => []) .nil h 5 rfl (fun q56 g56 h => ?_) (fun J57 h hJ57 => ?_)
   ·
    refine oV (v_move rfl) ?_
    refine rl_j (ι := Bool) (γ := Unit) (fun q60 g60 => [(32, isv (q60))]) (fun q60 g60 => []) .nil h 5 rfl (fun q60 g60 h => ?_) (fun J61 h hJ61 => ?_)
    ·
     refine oV (v_assign rfl) ?_
     refine rnf ?_
     refine w_condM h rfl (fun _ h => ?_) (fun _ h => ?_)
     ·
      refine w_region ?_
      refine oV (v_move rfl) ?_
      refine ck_inv h fun q64 h => ?_
      refine oV (v_add rfl rfl q64) ?_
      refine oV (v_assign rfl) ?_
      refine rl_nil ?_
      refine fin_block ?_
      refine fin_block ?_
      exact hL2 _ () h _ (join_imp 19 rfl rfl (mod_cons (j := 1) rfl (fun _ _ h => h) mod_nil) .nil)
     ·
      refine wsr ?_
      refine oV (v_move rfl) ?_
      refine oV (v_move rfl) ?_
      refine cal_inv h fun y65 hy65 h => ?_
      refine oV (v_idxS y65 st9 rfl rfl hy65) ?_
      refine oV (v_eqA eq5 rfl rfl) ?_
      refine oV (v_move rfl) ?_
      refine rl_j (ι := Bool) (γ := Unit) (fun q66 g66 => [(46, isv (q66))]) (fun q66 g66 => []) .nil h 6 rfl (fun q66 g66 h => ?_) (fun J67 h hJ67 => ?_)
      ·
       refine oV (v_assign rfl) ?_
       refine rnf ?_
       refine w_condM h rfl (fun _ h => ?_) (fun _ h => ?_)
       ·
        refine wsr ?_
        refine oV (v_move rfl) ?_
        refine ck_inv h fun q71 h => ?_
        refine oV (v_add rfl rfl q71) ?_
        refine oV (v_assign rfl) ?_
        refine rnf ?_
        refine w_block ?_
        refine w_lp (ι := Int) (γ := Unit) (fun q72 g72 => [(1, isv (q72))]) (fun q72 g72 => []) h () (mod_cons (j := 1) rfl (fun _ _ h => h) mod_nil) .nil (fun L73 q72 g72 Q98 h hL73 eL73 rL73 => ?_)
        refine w_seq ?_
        refine wsr ?_
        refine oV (v_move rfl) ?_
        refine oV (v_move rfl) ?_
        refine oV (v_lenS st9 rfl) ?_
        refine oV (v_lss rfl rfl) ?_
        refine oV (v_move rfl) ?_
        refine rl_j (ι := Bool) (γ := Unit) (fun q86 g86 => [(58, isv (q86))]) (fun q86 g86 => []) .nil h 5 rfl (fun q86 g86 h => ?_) (fun J87 h hJ87 => ?_)
        ·
         refine rnf ?_
         refine w_condM h rfl (fun _ h => ?_) (fun _ h => ?_)
         ·
          refine wkf ?_
          refine w_block ?_
          refine w_seq ?_
          refine wsr ?_
          refine oV (v_move rfl) ?_
          refine oV (v_move rfl) ?_
          refine cal_inv h fun y90 hy90 h => ?_
          refine oV (v_idxS y90 st9 rfl rfl hy90) ?_
          refine oV (v_eqA eq5 rfl rfl) ?_
          refine oV (v_move rfl) ?_
          refine rl_j (ι := Bool) (γ := Unit) (fun q91 g91 => [(69, isv (q91))]) (fun q91 g91 => []) .nil h 6 rfl (fun q91 g91 h => ?_) (fun J92 h hJ92 => ?_)
          ·
           refine rnf ?_
           refine w_condM h rfl (fun _ h => ?_) (fun _ h => ?_)
           ·
            refine wsr ?_
            refine oV (v_move rfl) ?_
            refine ck_inv h fun q96 h => ?_
            refine oV (v_add rfl rfl q96) ?_
            refine oV (v_assign rfl) ?_
            refine rnf ?_
            refine w_exit ?_
            refine exi_nxt ?_
            refine exi_pass rfl ?_
            refine eL73 _ _ ?_
            refine exi_block ?_
            refine fin_block ?_
            refine fin_block ?_
            exact hL2 _ () h _ (join_imp 42 rfl rfl (mod_cons (j := 1) rfl (fun _ _ h => h) mod_nil) .nil)
           ·
            refine wkf ?_
            refine w_region ?_
            refine oV (v_move rfl) ?_
            refine ck_inv h fun q97 h => ?_
            refine oV (v_add rfl rfl q97) ?_
            refine oV (v_assign rfl) ?_
            refine rl_nil ?_
            refine fin_block ?_
            exact hL73 _ () h _ (join_imp 16 rfl rfl (mod_cons (j := 1) rfl (fun _ _ h => h) mod_nil) .nil)
          ·
           refine rl_condM (j := 63) h rfl (fun g93 h => ?_) (fun g93 h => ?_)
           ·
            refine op_take rfl rfl (dj := 63) rfl g93 (OpV.t (v_move rfl) ?_)
            refine op_take rfl rfl (dj := 63) rfl g93 (OpV.t (v_move rfl) ?_)
            refine ck_inv h fun q94 h => ?_
            refine op_take rfl rfl (dj := 63) rfl g93 (OpV.t (v_add rfl rfl q94) ?_)
            refine cal_inv h fun y95 hy95 h => ?_
            refine op_take rfl rfl (dj := 63) rfl g93 (t_call (r04_at_w hy95) hT (.same rfl (.same rfl .nil)) .nil (fun R H' hR => ?_))
            obtain ⟨rfl, rfl⟩ := hR
            refine op_take rfl rfl (dj := 63) rfl g93 (OpV.t (v_eqA eq5 rfl rfl) ?_)
            refine oV (v_pick_t rfl g93 rfl) ?_
            exact hJ92 _ () h _ (join_imp 6 rfl rfl (mod_cons (j := 69) rfl (fun _ _ h => h) mod_nil) .nil)
           ·
            refine op_pass rfl (dj := 63) rfl g93 ?_
            refine op_pass rfl (dj := 63) rfl g93 ?_
            refine op_pass rfl (dj := 63) rfl g93 ?_
            refine op_pass rfl (dj := 63) rfl g93 ?_
            refine op_pass rfl (dj := 63) rfl g93 ?_
            refine oV (v_pick_f rfl g93 rfl) ?_
            exact hJ92 _ () h _ (join_imp 6 rfl rfl (mod_cons (j := 69) rfl (fun _ _ h => h) mod_nil) .nil)
         ·
          refine w_exit ?_
          refine exi_nxt ?_
          refine eL73 _ _ ?_
          refine exi_block ?_
          refine fin_block ?_
          refine fin_block ?_
          exact hL2 _ () h _ (join_imp 33 rfl rfl (mod_cons (j := 1) rfl (fun _ _ h => h) mod_nil) .nil)
        ·
         refine rl_condM (j := 53) h rfl (fun g88 h => ?_) (fun g88 h => ?_)
         ·
          refine op_take rfl rfl (dj := 53) rfl g88 (OpV.t (v_move rfl) ?_)
          refine op_take rfl rfl (dj := 53) rfl g88 (OpV.t (v_move rfl) ?_)
          refine cal_inv h fun y89 hy89 h => ?_
          refine op_take rfl rfl (dj := 53) rfl g88 (OpV.t (v_idxS y89 st9 rfl rfl hy89) ?_)
          refine op_take rfl rfl (dj := 53) rfl g88 (OpV.t (v_neA eq5 rfl rfl) ?_)
          refine oV (v_pick_t rfl g88 rfl) ?_
          exact hJ87 _ () h _ (join_imp 5 rfl rfl (mod_cons (j := 58) rfl (fun _ _ h => h) mod_nil) .nil)
         ·
          refine op_pass rfl (dj := 53) rfl g88 ?_
          refine op_pass rfl (dj := 53) rfl g88 ?_
          refine op_pass rfl (dj := 53) rfl g88 ?_
          refine op_pass rfl (dj := 53) rfl g88 ?_
          refine oV (v_pick_f rfl g88 rfl) ?_
          exact hJ87 _ () h _ (join_imp 5 rfl rfl (mod_cons (j := 58) rfl (fun _ _ h => h) mod_nil) .nil)
       ·
        refine wsr ?_
        refine oV (v_move rfl) ?_
        refine oV (v_assign rfl) ?_
        refine rnf ?_
        refine w_ret ?_
        refine ret_block ?_
        refine ret_block ?_
        refine rL2 _ ?_
        refine ret_block ?_
        refine ret_nxt ?_
        refine ret_post (.tmp rfl .nil) .nil ?_
        obtain rfl := Option.some.inj h
        exact ⟨rfl, rfl⟩
      ·
       refine rl_condM (j := 40) h rfl (fun g68 h => ?_) (fun g68 h => ?_)
       ·
        refine op_take rfl rfl (dj := 40) rfl g68 (OpV.t (v_move rfl) ?_)
        refine op_take rfl rfl (dj := 40) rfl g68 (OpV.t (v_move rfl) ?_)
        refine ck_inv h fun q69 h => ?_
        refine op_take rfl rfl (dj := 40) rfl g68 (OpV.t (v_add rfl rfl q69) ?_)
        refine cal_inv h fun y70 hy70 h => ?_
        refine op_take rfl rfl (dj := 40) rfl g68 (t_call (r04_at_w hy70) hT (.same rfl (.same rfl .nil)) .nil (fun R H' hR => ?_))
        obtain ⟨rfl, rfl⟩ := hR
        refine op_take rfl rfl (dj := 40) rfl g68 (OpV.t (v_eqA eq5 rfl rfl) ?_)
        refine oV (v_pick_t rfl g68 rfl) ?_
        exact hJ67 _ () h _ (join_imp 6 rfl rfl (mod_cons (j := 46) rfl (fun _ _ h => h) mod_nil) .nil)
       ·
        refine op_pass rfl (dj := 40) rfl g68 ?_
        refine op_pass rfl (dj := 40) rfl g68 ?_
        refine op_pass rfl (dj := 40) rfl g68 ?_
        refine op_pass rfl (dj := 40) rfl g68 ?_
        refine op_pass rfl (dj := 40) rfl g68 ?_
        refine oV (v_pick_f rfl g68 rfl) ?_
        exact hJ67 _ () h _ (join_imp 6 rfl rfl (mod_cons (j := 46) rfl (fun _ _ h => h) mod_nil) .nil)
    ·
     refine rl_condM (j := 27) h rfl (fun g62 h => ?_) (fun g62 h => ?_)
     ·
      refine op_pass rfl (dj := 27) rfl g62 ?_
      refine op_pass rfl (dj := 27) rfl g62 ?_
      refine op_pass rfl (dj := 27) rfl g62 ?_
      refine op_pass rfl (dj := 27) rfl g62 ?_
      refine oV (v_pick_t rfl g62 rfl) ?_
      exact hJ61 _ () h _ (join_imp 5 rfl rfl (mod_cons (j := 32) rfl (fun _ _ h => h) mod_nil) .nil)
     ·
      refine op_take rfl rfl (dj := 27) rfl g62 (OpV.t (v_move rfl) ?_)
      refine op_take rfl rfl (dj := 27) rfl g62 (OpV.t (v_move rfl) ?_)
      refine cal_inv h fun y63 hy63 h => ?_
      refine op_take rfl rfl (dj := 27) rfl g62 (OpV.t (v_idxS y63 st9 rfl rfl hy63) ?_)
      refine op_take rfl rfl (dj := 27) rfl g62 (OpV.t (v_eqA eq5 rfl rfl) ?_)
      refine oV (v_pick_f rfl g62 rfl) ?_
      exact hJ61 _ () h _ (join_imp 5 rfl rfl (mod_cons (j := 32) rfl (fun _ _ h => h) mod_nil) .nil)
   ·
    refine rl_condM (j := 21) h rfl (fun g58 h => ?_) (fun g58 h => ?_)
    ·
     refine op_pass rfl (dj := 21) rfl g58 ?_
     refine op_pass rfl (dj := 21) rfl g58 ?_
     refine op_pass rfl (dj := 21) rfl g58 ?_
     refine op_pass rfl (dj := 21) rfl g58 ?_
     refine oV (v_pick_t rfl g58 rfl) ?_
     exact hJ57 _ () h _ (join_imp 5 rfl rfl (mod_cons (j := 26) rfl (fun _ _ h => h) mod_nil) .nil)
    ·
     refine op_take rfl rfl (dj := 21) rfl g58 (OpV.t (v_move rfl) ?_)
     refine op_take rfl rfl (dj := 21) rfl g58 (OpV.t (v_move rfl) ?_)
     refine cal_inv h fun y59 hy59 h => ?_
     refine op_take rfl rfl (dj := 21) rfl g58 (OpV.t (v_idxS y59 st9 rfl rfl hy59) ?_)
     refine op_take rfl rfl (dj := 21) rfl g58 (OpV.t (v_eqA eq5 rfl rfl) ?_)
     refine oV (v_pick_f rfl g58 rfl) ?_
     exact hJ57 _ () h _ (join_imp 5 rfl rfl (mod_cons (j := 26) rfl (fun _ _ h => h) mod_nil) .nil)
  ·
   refine rl_condM (j := 15) h rfl (fun g54 h => ?_) (fun g54 h => ?_)
   ·
    refine op_pass rfl (dj := 15) rfl g54 ?_
    refine op_pass rfl (dj := 15) rfl g54 ?_
    refine op_pass rfl (dj := 15) rfl g54 ?_
    refine op_pass rfl (dj := 15) rfl g54 ?_
    refine oV (v_pick_t rfl g54 rfl) ?_
    exact hJ53 _ () h _ (join_imp 5 rfl rfl (mod_cons (j := 20) rfl (fun _ _ h => h) mod_nil) .nil)
   ·
    refine op_take rfl rfl (dj := 15) rfl g54 (OpV.t (v_move rfl) ?_)
    refine op_take rfl rfl (dj := 15) rfl g54 (OpV.t (v_move rfl) ?_)
    refine cal_inv h fun y55 hy55 h => ?_
    refine op_take rfl rfl (dj := 15) rfl g54 (OpV.t (v_idxS y55 st9 rfl rfl hy55) ?_)
    refine op_take rfl rfl (dj := 15) rfl g54 (OpV.t (v_eqA eq5 rfl rfl) ?_)
    refine oV (v_pick_f rfl g54 rfl) ?_
    exact hJ53 _ () h _ (join_imp 5 rfl rfl (mod_cons (j := 20) rfl (fun _ _ h => h) mod_nil) .nil)
 ·
  refine w_exit ?_
  refine exi_nxt ?_
  refine eL2 _ _ ?_
  refine exi_block ?_
  refine fin_nxt ?_
  refine wsr ?_
  refine oV (v_move rfl) ?_
  refine oV (v_assign rfl) ?_
  refine rnf ?_
  refine w_ret ?_
  refine ret_post (.tmp rfl .nil) .nil ?_
  obtain rfl := Option.some.inj h
  exact ⟨rfl, rfl⟩


theorem r04_letter_w : ∀ {a_c : UInt8} {r : Bool}, r04_letter a_c = some r → Ctr Tryd.prog 97 [isv (a_c)] [] (fun R H => R = oneOf [isv (r)] ∧ H = []) := by
 intro a_c r h
 unfold r04_letter at h
 refine spec_intro Tryd.func97 rfl (by decide +kernel) (by rfl) fun w0 S0 hT => ?_
 refine wsr ?_
 refine oV (v_assign rfl) ?_
 refine rnf ?_
 refine wsr ?_
 refine oV (v_move rfl) ?_
 refine oV (v_geq8 rfl rfl) ?_
 refine oV (v_move rfl) ?_
 refine rl_j (ι := Bool) (γ := Unit) (fun q1 g1 => [(8, isv (q1))]) (fun q1 g1 => []) .nil h 3 rfl (fun q1 g1 h => ?_) (fun J2 h hJ2 => ?_)
 ·
  refine oV (v_move rfl) ?_
  refine rl_j (ι := Bool) (γ := Unit) (fun q4 g4 => [(16, isv (q4))]) (fun q4 g4 => []) .nil h 7 rfl (fun q4 g4 h => ?_) (fun J5 h hJ5 => ?_)
  ·
   refine oV (v_assign rfl) ?_
   refine rnf ?_
   refine w_ret ?_
   refine ret_post (.tmp rfl .nil) .nil ?_
   obtain rfl := Option.some.inj h
   exact ⟨rfl, rfl⟩
  ·
   refine rl_condM (j := 9) h rfl (fun g6 h => ?_) (fun g6 h => ?_)
   ·
    refine op_pass rfl (dj := 9) rfl g6 ?_
    refine op_pass rfl (dj := 9) rfl g6 ?_
    refine op_pass rfl (dj := 9) rfl g6 ?_
    refine op_passU rfl (dj := 12) rfl ?_
    refine op_passU rfl (dj := 12) rfl ?_
    refine op_pass rfl (dj := 9) rfl g6 ?_
    refine oV (v_pick_t rfl g6 rfl) ?_
    exact hJ5 _ () h _ (join_imp 7 rfl rfl (mod_cons (j := 16) rfl (fun _ _ h => h) mod_nil) .nil)
   ·
    refine op_take rfl rfl (dj := 9) rfl g6 (OpV.t (v_move rfl) ?_)
    refine op_take rfl rfl (dj := 9) rfl g6 (OpV.t (v_geq8 rfl rfl) ?_)
    refine op_take rfl rfl (dj := 9) rfl g6 (OpV.t (v_move rfl) ?_)
    refine rl_j (ι := Bool) (γ := Unit) (fun q7 g7 => [(15, isv (q7))]) (fun q7 g7 => []) .nil h 3 rfl (fun q7 g7 h => ?_) (fun J8 h hJ8 => ?_)
    ·
     refine oV (v_pick_f rfl g6 rfl) ?_
     exact hJ5 _ () h _ (join_imp 5 rfl rfl (mod_cons (j := 16) rfl (fun _ _ h => h) mod_nil) .nil)
    ·
     refine rl_condM (j := 12) h rfl (fun g9 h => ?_) (fun g9 h => ?_)
     ·
      refine op_take rfl rfl (dj := 12) rfl g9 (OpV.t (v_move rfl) ?_)
      refine op_take rfl rfl (dj := 12) rfl g9 (OpV.t (v_leq8 rfl rfl) ?_)
      refine op_take rfl rfl (dj := 9) rfl g6 (OpV.t (v_pick_t rfl g9 rfl) ?_)
      exact hJ8 _ () h _ (join_imp 3 rfl rfl (mod_cons (j := 15) rfl (fun _ _ h => h) mod_nil) .nil)
     ·
      refine op_pass rfl (dj := 12) rfl g9 ?_
      refine op_pass rfl (dj := 12) rfl g9 ?_
      refine op_take rfl rfl (dj := 9) rfl g6 (OpV.t (v_pick_f rfl g9 rfl) ?_)
      exact hJ8 _ () h _ (join_imp 3 rfl rfl (mod_cons (j := 15) rfl (fun _ _ h => h) mod_nil) .nil)
 ·
  refine rl_condM (j := 5) h rfl (fun g3 h => ?_) (fun g3 h => ?_)
  ·
   refine op_take rfl rfl (dj := 5) rfl g3 (OpV.t (v_move rfl) ?_)
   refine op_take rfl rfl (dj := 5) rfl g3 (OpV.t (v_leq8 rfl rfl) ?_)
   refine oV (v_pick_t rfl g3 rfl) ?_
   exact hJ2 _ () h _ (join_imp 3 rfl rfl (mod_cons (j := 8) rfl (fun _ _ h => h) mod_nil) .nil)
  ·
   refine op_pass rfl (dj := 5) rfl g3 ?_
   refine op_pass rfl (dj := 5) rfl g3 ?_
   refine oV (v_pick_f rfl g3 rfl) ?_
   exact hJ2 _ () h _ (join_imp 3 rfl rfl (mod_cons (j := 8) rfl (fun _ _ h => h) mod_nil) .nil)


theorem r04_digit_w : ∀ {a_c : UInt8} {r : Bool}, r04_digit a_c = some r → Ctr Tryd.prog 100 [isv (a_c)] [] (fun R H => R = oneOf [isv (r)] ∧ H = []) := by
 intro a_c r h
 unfold r04_digit at h
 refine spec_intro Tryd.func100 rfl (by decide +kernel) (by rfl) fun w0 S0 hT => ?_
 refine wsr ?_
 refine oV (v_assign rfl) ?_
 refine rnf ?_
 refine wsr ?_
 refine oV (v_move rfl) ?_
 refine oV (v_geq8 rfl rfl) ?_
 refine oV (v_move rfl) ?_
 refine rl_j (ι := Bool) (γ := Unit) (fun q1 g1 => [(8, isv (q1))]) (fun q1 g1 => []) .nil h 3 rfl (fun q1 g1 h => ?_) (fun J2 h hJ2 => ?_)
 ·
  refine oV (v_assign rfl) ?_
  refine rnf ?_
  refine w_ret ?_
  refine ret_post (.tmp rfl .nil) .nil ?_
  obtain rfl := Option.some.inj h
  exact ⟨rfl, rfl⟩
 ·
  refine rl_condM (j := 5) h rfl (fun g3 h => ?_) (fun g3 h => ?_)
  ·
   refine op_take rfl rfl (dj := 5) rfl g3 (OpV.t (v_move rfl) ?_)
   refine op_take rfl rfl (dj := 5) rfl g3 (OpV.t (v_leq8 rfl rfl) ?_)
   refine oV (v_pick_t rfl g3 rfl) ?_
   exact hJ2 _ () h _ (join_imp 3 rfl rfl (mod_cons (j := 8) rfl (fun _ _ h => h) mod_nil) .nil)
  ·
   refine op_pass rfl (dj := 5) rfl g3 ?_
   refine op_pass rfl (dj := 5) rfl g3 ?_
   refine oV (v_pick_f rfl g3 rfl) ?_
   exact hJ2 _ () h _ (join_imp 3 rfl rfl (mod_cons (j := 8) rfl (fun _ _ h => h) mod_nil) .nil)


theorem r04_name_w : ∀ {a_s : Str} {a_i : Int} {r : Int}, r04_name a_s a_i = some r → Ctr Tryd.prog 98 [isv (a_s), isv (a_i)] [] (fun R H => R = oneOf [isv (r)] ∧ H = []) := by
 intro a_s a_i r h
 unfold r04_name at h
 refine spec_intro Tryd.func98 rfl (by decide +kernel) (by rfl) fun w0 S0 hT => ?_
 refine wsr ?_
 refine oV (v_assign rfl) ?_
 refine rnf ?_
 refine wsr ?_
 refine oV (v_move rfl) ?_
 refine oV (v_assign rfl) ?_
 refine rnf ?_
 refine w_seq ?_
 refine w_block ?_
 refine w_lp (ι := Int) (γ := Unit) (fun q1 g1 => [(1, isv (q1))]) (fun q1 g1 => []) h () (mod_cons (j := 1) rfl (fun _ _ h => h) mod_nil) .nil (fun L2 q1 g1 Q55 h hL2 eL2 rL2 => ?_)
 refine w_seq ?_
 refine wsr ?_
 refine oV (v_move rfl) ?_
 refine oV (v_move rfl) ?_
 refine oV (v_lenS st9 rfl) ?_
 refine oV (v_lss rfl rfl) ?_
 refine oV (v_move rfl) ?_
 refine rl_j (ι := Bool) (γ := Unit) (fun q29 g29 => [(35, isv (q29))]) (fun q29 g29 => []) .nil h 24 rfl (fun q29 g29 h => ?_) (fun J30 h hJ30 => ?_)
 ·
  refine rnf ?_
  refine w_condM h rfl (fun _ h => ?_) (fun _ h => ?_)
  ·
   refine wkf ?_
   refine w_block ?_
   refine w_region ?_
   refine oV (v_move rfl) ?_
   refine ck_inv h fun q48 h => ?_
   refine oV (v_add rfl rfl q48) ?_
   refine oV (v_assign rfl) ?_
   refine rl_nil ?_
   refine fin_block ?_
   exact hL2 _ () h _ (join_imp 10 rfl rfl (mod_cons (j := 1) rfl (fun _ _ h => h) mod_nil) .nil)
  ·
   refine w_exit ?_
   refine exi_nxt ?_
   refine eL2 _ _ ?_
   refine exi_block ?_
   refine fin_nxt ?_
   refine w_seq ?_
   refine wsr ?_
   refine oV (v_move rfl) ?_
   refine oV (v_move rfl) ?_
   refine ck_inv h fun q49 h => ?_
   refine oV (v_sub rfl rfl q49) ?_
   refine cal_inv h fun y50 hy50 h => ?_
   refine oV (v_idxS y50 st9 rfl rfl hy50) ?_
   refine oV (v_eqA eq5 rfl rfl) ?_
   refine oV (v_move rfl) ?_
   refine rl_j (ι := Bool) (γ := Unit) (fun q51 g51 => [(48, isv (q51))]) (fun q51 g51 => []) .nil h 5 rfl (fun q51 g51 h => ?_) (fun J52 h hJ52 => ?_)
   ·
    refine rnf ?_
    refine w_condM h rfl (fun _ h => ?_) (fun _ h => ?_)
    ·
     refine wsr ?_
     refine oV (v_assign rfl) ?_
     refine rnf ?_
     refine w_ret ?_
     refine ret_nxt ?_
     refine ret_post (.tmp rfl .nil) .nil ?_
     obtain rfl := Option.some.inj h
     exact ⟨rfl, rfl⟩
    ·
     refine wkf ?_
     refine wsr ?_
     refine oV (v_move rfl) ?_
     refine oV (v_assign rfl) ?_
     refine rnf ?_
     refine w_ret ?_
     refine ret_post (.tmp rfl .nil) .nil ?_
     obtain rfl := Option.some.inj h
     exact ⟨rfl, rfl⟩
   ·
    refine rl_condM (j := 43) h rfl (fun g53 h => ?_) (fun g53 h => ?_)
    ·
     refine op_pass rfl (dj := 43) rfl g53 ?_
     refine op_pass rfl (dj := 43) rfl g53 ?_
     refine op_pass rfl (dj := 43) rfl g53 ?_
     refine op_pass rfl (dj := 43) rfl g53 ?_
     refine oV (v_pick_t rfl g53 rfl) ?_
     exact hJ52 _ () h _ (join_imp 5 rfl rfl (mod_cons (j := 48) rfl (fun _ _ h => h) mod_nil) .nil)
    ·
     refine op_take rfl rfl (dj := 43) rfl g53 (OpV.t (v_move rfl) ?_)
     refine op_take rfl rfl (dj := 43) rfl g53 (OpV.t (v_move rfl) ?_)
     refine ck_inv h fun q54 h => ?_
     refine op_take rfl rfl (dj := 43) rfl g53 (OpV.t (v_sub rfl rfl q54) ?_)
     refine op_take rfl rfl (dj := 43) rfl g53 (OpV.t (v_gtr rfl rfl) ?_)
     refine oV (v_pick_f rfl g53 rfl) ?_
     exact hJ52 _ () h _ (join_imp 5 rfl rfl (mod_cons (j := 48) rfl (fun _ _ h => h) mod_nil) .nil)
 ·
  refine rl_condM (j := 11) h rfl (fun g31 h => ?_) (fun g31 h => ?_)
  ·
   refine op_take rfl rfl (dj := 11) rfl g31 (OpV.t (v_move rfl) ?_)
   refine op_take rfl rfl (dj := 11) rfl g31 (OpV.t (v_move rfl) ?_)
   refine cal_inv h fun y32 hy32 h => ?_
   refine op_take rfl rfl (dj := 11) rfl g31 (OpV.t (v_idxS y32 st9 rfl rfl hy32) ?_)
   refine cal_inv h fun y33 hy33 h => ?_
   refine op_take rfl rfl (dj := 11) rfl g31 (t_call (r04_letter_w hy33) hT (.same rfl .nil) .nil (fun R H' hR => ?_))
   obtain ⟨rfl, rfl⟩ := hR
   refine op_take rfl rfl (dj := 11) rfl g31 (OpV.t (v_move rfl) ?_)
   refine rl_j (ι := Bool) (γ := Unit) (fun q34 g34 => [(21, isv (q34))]) (fun q34 g34 => []) .nil h 5 rfl (fun q34 g34 h => ?_) (fun J35 h hJ35 => ?_)
   ·
    refine op_take rfl rfl (dj := 11) rfl g31 (OpV.t (v_move rfl) ?_)
    refine rl_j (ι := Bool) (γ := Unit) (fun q39 g39 => [(34, isv (q39))]) (fun q39 g39 => []) .nil h 12 rfl (fun q39 g39 h => ?_) (fun J40 h hJ40 => ?_)
    ·
     refine oV (v_pick_t rfl g31 rfl) ?_
     exact hJ30 _ () h _ (join_imp 9 rfl rfl (mod_cons (j := 35) rfl (fun _ _ h => h) mod_nil) .nil)
    ·
     refine rl_condM (j := 22) h rfl (fun g41 h => ?_) (fun g41 h => ?_)
     ·
      refine op_pass rfl (dj := 22) rfl g41 ?_
      refine op_pass rfl (dj := 22) rfl g41 ?_
      refine op_pass rfl (dj := 22) rfl g41 ?_
      refine op_pass rfl (dj := 22) rfl g41 ?_
      refine op_pass rfl (dj := 22) rfl g41 ?_
      refine op_passU rfl (dj := 27) rfl ?_
      refine op_passU rfl (dj := 27) rfl ?_
      refine op_passU rfl (dj := 27) rfl ?_
      refine op_passU rfl (dj := 27) rfl ?_
      refine op_passU rfl (dj := 27) rfl ?_
      refine op_pass rfl (dj := 22) rfl g41 ?_
      refine op_take rfl rfl (dj := 11) rfl g31 (OpV.t (v_pick_t rfl g41 rfl) ?_)
      exact hJ40 _ () h _ (join_imp 12 rfl rfl (mod_cons (j := 34) rfl (fun _ _ h => h) mod_nil) .nil)
     ·
      refine op_take rfl rfl (dj := 22) rfl g41 (OpV.t (v_move rfl) ?_)
      refine op_take rfl rfl (dj := 22) rfl g41 (OpV.t (v_move rfl) ?_)
      refine cal_inv h fun y42 hy42 h => ?_
      refine op_take rfl rfl (dj := 22) rfl g41 (OpV.t (v_idxS y42 st9 rfl rfl hy42) ?_)
      refine op_take rfl rfl (dj := 22) rfl g41 (OpV.t (v_eqA eq5 rfl rfl) ?_)
      refine op_take rfl rfl (dj := 22) rfl g41 (OpV.t (v_move rfl) ?_)
      refine rl_j (ι := Bool) (γ := Unit) (fun q43 g43 => [(33, isv (q43))]) (fun q43 g43 => []) .nil h 6 rfl (fun q43 g43 h => ?_) (fun J44 h hJ44 => ?_)
      ·
       refine op_take rfl rfl (dj := 11) rfl g31 (OpV.t (v_pick_f rfl g41 rfl) ?_)
       exact hJ40 _ () h _ (join_imp 7 rfl rfl (mod_cons (j := 34) rfl (fun _ _ h => h) mod_nil) .nil)
      ·
       refine rl_condM (j := 27) h rfl (fun g45 h => ?_) (fun g45 h => ?_)
       ·
        refine op_take rfl rfl (dj := 27) rfl g45 (OpV.t (v_move rfl) ?_)
        refine op_take rfl rfl (dj := 27) rfl g45 (OpV.t (v_move rfl) ?_)
        refine ck_inv h fun q46 h => ?_
        refine op_take rfl rfl (dj := 27) rfl g45 (OpV.t (v_add rfl rfl q46) ?_)
        refine cal_inv h fun y47 hy47 h => ?_
        refine op_take rfl rfl (dj := 27) rfl g45 (t_call (r04_at_w hy47) hT (.same rfl (.same rfl .nil)) .nil (fun R H' hR => ?_))
        obtain ⟨rfl, rfl⟩ := hR
        refine op_take rfl rfl (dj := 27) rfl g45 (OpV.t (v_neA eq5 rfl rfl) ?_)
        refine op_take rfl rfl (dj := 22) rfl g41 (OpV.t (v_pick_t rfl g45 rfl) ?_)
        exact hJ44 _ () h _ (join_imp 6 rfl rfl (mod_cons (j := 33) rfl (fun _ _ h => h) mod_nil) .nil)
       ·
        refine op_pass rfl (dj := 27) rfl g45 ?_
        refine op_pass rfl (dj := 27) rfl g45 ?_
        refine op_pass rfl (dj := 27) rfl g45 ?_
        refine op_pass rfl (dj := 27) rfl g45 ?_
        refine op_pass rfl (dj := 27) rfl g45 ?_
        refine op_take rfl rfl (dj := 22) rfl g41 (OpV.t (v_pick_f rfl g45 rfl) ?_)
        exact hJ44 _ () h _ (join_imp 6 rfl rfl (mod_cons (j := 33) rfl (fun _ _ h => h) mod_nil) .nil)
   ·
    refine rl_condM (j := 16) h rfl (fun g36 h => ?_) (fun g36 h => ?_)
    ·
     refine op_pass rfl (dj := 16) rfl g36 ?_
     refine op_pass rfl (dj := 16) rfl g36 ?_
     refine op_pass rfl (dj := 16) rfl g36 ?_
     refine op_pass rfl (dj := 16) rfl g36 ?_
     refine op_take rfl rfl (dj := 11) rfl g31 (OpV.t (v_pick_t rfl g36 rfl) ?_)
     exact hJ35 _ () h _ (join_imp 5 rfl rfl (mod_cons (j := 21) rfl (fun _ _ h => h) mod_nil) .nil)
    ·
     refine op_take rfl rfl (dj := 16) rfl g36 (OpV.t (v_move rfl) ?_)
     refine op_take rfl rfl (dj := 16) rfl g36 (OpV.t (v_move rfl) ?_)
     refine cal_inv h fun y37 hy37 h => ?_
     refine op_take rfl rfl (dj := 16) rfl g36 (OpV.t (v_idxS y37 st9 rfl rfl hy37) ?_)
     refine cal_inv h fun y38 hy38 h => ?_
     refine op_take rfl rfl (dj := 16) rfl g36 (t_call (r04_digit_w hy38) hT (.same rfl .nil) .nil (fun R H' hR => ?_))
     obtain ⟨rfl, rfl⟩ := hR
     refine op_take rfl rfl (dj := 11) rfl g31 (OpV.t (v_pick_f rfl g36 rfl) ?_)
     exact hJ35 _ () h _ (join_imp 5 rfl rfl (mod_cons (j := 21) rfl (fun _ _ h => h) mod_nil) .nil)
  ·
   refine op_pass rfl (dj := 11) rfl g31 ?_
   refine op_pass rfl (dj := 11) rfl g31 ?_
   refine op_pass rfl (dj := 11) rfl g31 ?_
   refine op_pass rfl (dj := 11) rfl g31 ?_
   refine op_pass rfl (dj := 11) rfl g31 ?_
   refine op_passU rfl (dj := 16) rfl ?_
   refine op_passU rfl (dj := 16) rfl ?_
   refine op_passU rfl (dj := 16) rfl ?_
   refine op_passU rfl (dj := 16) rfl ?_
   refine op_pass rfl (dj := 11) rfl g31 ?_
   refine op_pass rfl (dj := 11) rfl g31 ?_
   refine op_passU rfl (dj := 22) rfl ?_
   refine op_passU rfl (dj := 22) rfl ?_
   refine op_passU rfl (dj := 22) rfl ?_
   refine op_passU rfl (dj := 22) rfl ?_
   refine op_passU rfl (dj := 22) rfl ?_
   refine op_passU rfl (dj := 27) rfl ?_
   refine op_passU rfl (dj := 27) rfl ?_
   refine op_passU rfl (dj := 27) rfl ?_
   refine op_passU rfl (dj := 27) rfl ?_
   refine op_passU rfl (dj := 27) rfl ?_
   refine op_passU rfl (dj := 22) rfl ?_
   refine op_pass rfl (dj := 11) rfl g31 ?_
   refine oV (v_pick_f rfl g31 rfl) ?_
   exact hJ30 _ () h _ (join_imp 24 rfl rfl (mod_cons (j := 35) rfl (fun _ _ h => h) mod_nil) .nil)


theorem r04_words_w : ∀  {r : (List Str)}, r04_words  = some r → Ctr Tryd.prog 121 [] [] (fun R H => R = oneOf [isv (r)] ∧ H = []) := by
 intro  r h
 unfold r04_words at h
 refine spec_intro Tryd.func121 rfl (by decide +kernel) (by rfl) fun w0 S0 hT => ?_
 refine wsr ?_
 refine oV (v_assign rfl) ?_
 refine rnf ?_
 refine wsr ?_
 refine oT (t_buildSlice (l := ([(Str.mk [68, 69, 70, 73, 78, 73, 84, 73, 79, 78, 83]), (Str.mk [69, 88, 80, 76, 73, 67, 73, 84]), (Str.mk [73, 77, 80, 76, 73, 67, 73, 84]), (Str.mk [65, 85, 84, 79, 77, 65, 84, 73, 67]), (Str.mk [84, 65, 71, 83]), (Str.mk [66, 69, 71, 73, 78]), (Str.mk [69, 78, 68]), (Str.mk [66, 79, 79, 76, 69, 65, 78]), (Str.mk [73, 78, 84, 69, 71, 69, 82]), (Str.mk [69, 78, 85, 77, 69, 82, 65, 84, 69, 68]), (Str.mk [78, 85, 76, 76]), (Str.mk [79, 67, 84, 69, 84]), (Str.mk [83, 84, 82, 73, 78, 71]), (Str.mk [85, 84, 70, 56, 83, 116, 114, 105, 110, 103]), (Str.mk [83, 69, 81, 85, 69, 78, 67, 69]), (Str.mk [83, 69, 84]), (Str.mk [67, 72, 79, 73, 67, 69]), (Str.mk [79, 70]), (Str.mk [79, 80, 84, 73, 79, 78, 65, 76]), (Str.mk [68, 69, 70, 65, 85, 76, 84]), (Str.mk [83, 73, 90, 69]), (Str.mk [77, 73, 78]), (Str.mk [77, 65, 88]), (Str.mk [84, 82, 85, 69]), (Str.mk [70, 65, 76, 83, 69])] : (List Str))) el22 (.cons rfl (fun _ _ h => h) (.cons rfl (fun _ _ h => h) (.cons rfl (fun _ _ h => h) (.cons rfl (fun _ _ h => h) (.cons rfl (fun _ _ h => h) (.cons rfl (fun _ _ h => h) (.cons rfl (fun _ _ h => h) (.cons rfl (fun _ _ h => h) (.cons rfl (fun _ _ h => h) (.cons rfl (fun _ _ h => h) (.cons rfl (fun _ _ h => h) (.cons rfl (fun _ _ h => h) (.cons rfl (fun _ _ h => h) (.cons rfl (fun _ _ h => h) (.cons rfl (fun _ _ h => h) (.cons rfl (fun _ _ h => h) (.cons rfl (fun _ _ h => h) (.cons rfl (fun _ _ h => h) (.cons rfl (fun _ _ h => h) (.cons rfl (fun _ _ h => h) (.cons rfl (fun _ _ h => h) (.cons rfl (fun _ _ h => h) (.cons rfl (fun _ _ h => h) (.cons rfl (fun _ _ h => h) (.cons rfl (fun _ _ h => h) .nil))))))))))))))))))))))))) rfl rfl ?_)
 refine oV (v_assign rfl) ?_
 refine rnf ?_
 refine w_ret ?_
 refine ret_post (.as rfl appv_isv .nil) .nil ?_
 obtain rfl := Option.some.inj h
 exact ⟨rfl, rfl⟩


theorem h_In_string_w : ∀ {a_l : (List Str)} {a_x : Str} {r : Bool}, h_In_string a_l a_x = some r → Ctr Tryd.prog 81 [isv (a_l), isv (a_x)] [] (fun R H => R = oneOf [isv (r)] ∧ H = []) := by
 intro a_l a_x r h
 unfold h_In_string at h
 refine spec_intro Tryd.func81 rfl (by decide +kernel) (by rfl) fun w0 S0 hT => ?_
 refine wsr ?_
 refine oV (v_assign rfl) ?_
 refine rnf ?_
 refine w_seq ?_
 refine wsr ?_
 refine oV (v_assign rfl) ?_
 refine rnf ?_
 refine w_block ?_
 refine w_lp (ι := Int) (γ := Unit) (fun q1 g1 => [(5, isv (q1))]) (fun q1 g1 => []) h () (mod_cons (j := 5) rfl (fun _ _ h => h) mod_nil) .nil (fun L2 q1 g1 Q7 h hL2 eL2 rL2 => ?_)
 refine w_seq ?_
 refine wsr ?_
 refine oV (v_move rfl) ?_
 refine oV (v_move rfl) ?_
 refine oV (v_ln (l := a_l) rfl (fun _ _ h => h) sl22) ?_
 refine oV (v_lss rfl rfl) ?_
 refine rnf ?_
 refine w_condM h rfl (fun _ h => ?_) (fun _ h => ?_)
 ·
  refine wkf ?_
  refine w_seq ?_
  refine w_block ?_
  refine wsr ?_
  refine oV (v_move rfl) ?_
  refine oV (v_move rfl) ?_
  refine cal_inv h fun y5 hy5 h => ?_
  refine oV (v_ix (l := a_l) rfl (fun _ _ h => h) rfl sl22 hy5) ?_
  refine oV (v_loadI ty9 rfl) ?_
  refine oV (v_move rfl) ?_
  refine oV (v_eqA eq9 rfl rfl) ?_
  refine rnf ?_
  refine w_condM h rfl (fun _ h => ?_) (fun _ h => ?_)
  ·
   refine wsr ?_
   refine oV (v_assign rfl) ?_
   refine rnf ?_
   refine w_ret ?_
   refine ret_block ?_
   refine ret_nxt ?_
   refine rL2 _ ?_
   refine ret_block ?_
   refine ret_nxt ?_
   refine ret_post (.tmp rfl .nil) .nil ?_
   obtain rfl := Option.some.inj h
   exact ⟨rfl, rfl⟩
  ·
   refine w_skip ?_
   refine fin_block ?_
   refine fin_nxt ?_
   refine w_region ?_
   refine oV (v_move rfl) ?_
   refine ck_inv h fun q6 h => ?_
   refine oV (v_add rfl rfl q6) ?_
   refine oV (v_assign rfl) ?_
   refine rl_nil ?_
   exact hL2 _ () h _ (join_imp 14 rfl rfl (mod_cons (j := 5) rfl (fun _ _ h => h) mod_nil) .nil)
 ·
  refine w_exit ?_
  refine exi_nxt ?_
  refine eL2 _ _ ?_
  refine exi_block ?_
  refine fin_nxt ?_
  refine wsr ?_
  refine oV (v_assign rfl) ?_
  refine rnf ?_
  refine w_ret ?_
  refine ret_post (.tmp rfl .nil) .nil ?_
  obtain rfl := Option.some.inj h
  exact ⟨rfl, rfl⟩


theorem r04_Word_w : ∀ {a_s : Str} {r : Bool}, r04_Word a_s = some r → Ctr Tryd.prog 99 [isv (a_s)] [] (fun R H => R = oneOf [isv (r)] ∧ H = []) := by
 intro a_s r h
 unfold r04_Word at h
 refine spec_intro Tryd.func99 rfl (by decide +kernel) (by rfl) fun w0 S0 hT => ?_
 refine wsr ?_
 refine oV (v_assign rfl) ?_
 refine rnf ?_
 refine wsr ?_
 refine cal_inv h fun y1 hy1 h => ?_
 refine oT (t_call (r04_words_w hy1) hT .nil .nil (fun R H' hR => ?_))
 obtain ⟨rfl, rfl⟩ := hR
 refine oV (v_move rfl) ?_
 refine cal_inv h fun y2 hy2 h => ?_
 refine oT (t_call (h_In_string_w hy2) hT (.same rfl (.same rfl .nil)) .nil (fun R H' hR => ?_))
 obtain ⟨rfl, rfl⟩ := hR
 refine oV (v_assign rfl) ?_
 refine rnf ?_
 refine w_ret ?_
 refine ret_post (.tmp rfl .nil) .nil ?_
 obtain rfl := Option.some.inj h
 exact ⟨rfl, rfl⟩


theorem r04_number_w : ∀ {a_s : Str} {a_i : Int} {r : Int}, r04_number a_s a_i = some r → Ctr Tryd.prog 101 [isv (a_s), isv (a_i)] [] (fun R H => R = oneOf [isv (r)] ∧ H = []) := by
 intro a_s a_i r h
 unfold r04_number at h
 refine spec_intro Tryd.func101 rfl (by decide +kernel) (by rfl) fun w0 S0 hT => ?_
 refine wsr ?_
 refine oV (v_assign rfl) ?_
 refine rnf ?_
 refine wsr ?_
 refine oV (v_move rfl) ?_
 refine oV (v_move rfl) ?_
 refine cal_inv h fun y1 hy1 h => ?_
 refine oV (v_idxS y1 st9 rfl rfl hy1) ?_
 refine oV (v_eqA eq5 rfl rfl) ?_
 refine oV (v_assign rfl) ?_
 refine rnf ?_
 refine w_seq ?_
 refine wsr ?_
 refine oV (v_move rfl) ?_
 refine rnf ?_
 refine w_J (ι := Int) (γ := Unit) (fun q2 g2 => [(1, isv (q2))]) (fun q2 g2 => []) .nil h (fun q2 g2 h => ?_) (fun J3 h hJ3 => ?_)
 ·
  refine wsr ?_
  refine oV (v_move rfl) ?_
  refine oV (v_assign rfl) ?_
  refine rnf ?_
  refine wsr ?_
  refine oV (v_assign rfl) ?_
  refine rnf ?_
  refine w_seq ?_
  refine w_block ?_
  refine w_lp (ι := Int × UInt64) (γ := Unit) (fun q5 g5 => [(1, isv (q5.1)), (7, isv (q5.2))]) (fun q5 g5 => []) h () (mod_cons (j := 1) rfl (fun _ _ h => h) (mod_cons (j := 7) rfl (fun _ _ h => h) mod_nil)) .nil (fun L6 q5 g5 Q91 h hL6 eL6 rL6 => ?_)
  refine w_seq ?_
  refine wsr ?_
  refine oV (v_move rfl) ?_
  refine oV (v_move rfl) ?_
  refine oV (v_lenS st9 rfl) ?_
  refine oV (v_lss rfl rfl) ?_
  refine oV (v_move rfl) ?_
  refine rl_j (ι := Bool) (γ := Unit) (fun q49 g49 => [(26, isv (q49))]) (fun q49 g49 => []) .nil h 5 rfl (fun q49 g49 h => ?_) (fun J50 h hJ50 => ?_)
  ·
   refine rnf ?_
   refine w_condM h rfl (fun _ h => ?_) (fun _ h => ?_)
   ·
    refine wkf ?_
    refine w_block ?_
    refine w_seq ?_
    refine wsr ?_
    refine oV (v_move rfl) ?_
    refine oV (v_move rfl) ?_
    refine ck_inv h fun q54 h => ?_
    refine oV (v_sub rfl rfl q54) ?_
    refine oV (v_lss rfl rfl) ?_
    refine rnf ?_
    refine w_J (ι := UInt64) (γ := Unit) (fun q55 g55 => [(7, isv (q55))]) (fun q55 g55 => []) .nil h (fun q55 g55 h => ?_) (fun J56 h hJ56 => ?_)
    ·
     refine w_region ?_
     refine oV (v_move rfl) ?_
     refine ck_inv h fun q58 h => ?_
     refine oV (v_add rfl rfl q58) ?_
     refine oV (v_assign rfl) ?_
     refine rl_nil ?_
     refine fin_block ?_
     exact hL6 _ () h _ (join_imp 16 rfl rfl (mod_cons (j := 1) rfl (fun _ _ h => h) (mod_cons (j := 7) rfl (fun _ _ h => h) mod_nil)) .nil)
    ·
     refine w_condM h rfl (fun _ h => ?_) (fun _ h => ?_)
     ·
      refine w_region ?_
      refine oV (v_move rfl) ?_
      refine oV (v_mul64 rfl rfl) ?_
      refine oV (v_move rfl) ?_
      refine oV (v_move rfl) ?_
      refine cal_inv h fun y57 hy57 h => ?_
      refine oV (v_idxS y57 st9 rfl rfl hy57) ?_
      refine oV (v_sub8 rfl rfl) ?_
      refine oV (v_u8u64 Tryd.underlying5 Tryd.underlying39 rfl) ?_
      refine oV (v_add64 rfl rfl) ?_
      refine oV (v_assign rfl) ?_
      refine rl_nil ?_
      exact hJ56 _ () h _ (join_imp 9 rfl rfl (mod_cons (j := 7) rfl (fun _ _ h => h) mod_nil) .nil)
     ·
      refine w_skip ?_
      exact hJ56 _ () h _ (join_imp 0 rfl rfl (mod_cons (j := 7) rfl (fun _ _ h => h) mod_nil) .nil)
   ·
    refine w_exit ?_
    refine exi_nxt ?_
    refine eL6 _ _ ?_
    refine exi_block ?_
    refine fin_nxt ?_
    refine wsr ?_
    refine oV (v_move rfl) ?_
    refine oV (v_move rfl) ?_
    refine ck_inv h fun q59 h => ?_
    refine oV (v_sub rfl rfl q59) ?_
    refine oV (v_assign rfl) ?_
    refine rnf ?_
    refine w_seq ?_
    refine wsr ?_
    refine oV (v_move rfl) ?_
    refine oV (v_lss rfl rfl) ?_
    refine oV (v_move rfl) ?_
    refine rl_j (ι := Bool) (γ := Unit) (fun q60 g60 => [(49, isv (q60))]) (fun q60 g60 => []) .nil h 3 rfl (fun q60 g60 h => ?_) (fun J61 h hJ61 => ?_)
    ·
     refine oV (v_move rfl) ?_
     refine rl_j (ι := Bool) (γ := Unit) (fun q63 g63 => [(59, isv (q63))]) (fun q63 g63 => []) .nil h 9 rfl (fun q63 g63 h => ?_) (fun J64 h hJ64 => ?_)
     ·
      refine oV (v_move rfl) ?_
      refine rl_j (ι := Bool) (γ := Unit) (fun q70 g70 => [(68, isv (q70))]) (fun q70 g70 => []) .nil h 8 rfl (fun q70 g70 h => ?_) (fun J71 h hJ71 => ?_)
      ·
       refine oV (v_move rfl) ?_
       refine rl_j (ι := Bool) (γ := Unit) (fun q77 g77 => [(74, isv (q77))]) (fun q77 g77 => []) .nil h 5 rfl (fun q77 g77 h => ?_) (fun J78 h hJ78 => ?_)
       ·
        refine oV (v_move rfl) ?_
        refine rl_j (ι := Bool) (γ := Unit) (fun q82 g82 => [(78, isv (q82))]) (fun q82 g82 => []) .nil h 3 rfl (fun q82 g82 h => ?_) (fun J83 h hJ83 => ?_)
        ·
         refine oV (v_move rfl) ?_
         refine rl_j (ι := Bool) (γ := Unit) (fun q85 g85 => [(86, isv (q85))]) (fun q85 g85 => []) .nil h 7 rfl (fun q85 g85 h => ?_) (fun J86 h hJ86 => ?_)
         ·
          refine rnf ?_
          refine w_condM h rfl (fun _ h => ?_) (fun _ h => ?_)
          ·
           refine wsr ?_
           refine oV (v_assign rfl) ?_
           refine rnf ?_
           refine w_ret ?_
           refine ret_nxt ?_
           refine ret_post (.tmp rfl .nil) .nil ?_
           obtain rfl := Option.some.inj h
           exact ⟨rfl, rfl⟩
          ·
           refine wkf ?_
           refine wsr ?_
           refine oV (v_move rfl) ?_
           refine oV (v_assign rfl) ?_
           refine rnf ?_
           refine w_ret ?_
           refine ret_post (.tmp rfl .nil) .nil ?_
           obtain rfl := Option.some.inj h
           exact ⟨rfl, rfl⟩
         ·
          refine rl_condM (j := 79) h rfl (fun g87 h => ?_) (fun g87 h => ?_)
          ·
           refine op_pass rfl (dj := 79) rfl g87 ?_
           refine op_pass rfl (dj := 79) rfl g87 ?_
           refine op_pass rfl (dj := 79) rfl g87 ?_
           refine op_passU rfl (dj := 82) rfl ?_
           refine op_passU rfl (dj := 82) rfl ?_
           refine op_pass rfl (dj := 79) rfl g87 ?_
           refine oV (v_pick_t rfl g87 rfl) ?_
           exact hJ86 _ () h _ (join_imp 7 rfl rfl (mod_cons (j := 86) rfl (fun _ _ h => h) mod_nil) .nil)
          ·
           refine op_take rfl rfl (dj := 79) rfl g87 (OpV.t (v_move rfl) ?_)
           refine op_take rfl rfl (dj := 79) rfl g87 (OpV.t (v_not rfl) ?_)
           refine op_take rfl rfl (dj := 79) rfl g87 (OpV.t (v_move rfl) ?_)
           refine rl_j (ι := Bool) (γ := Unit) (fun q88 g88 => [(85, isv (q88))]) (fun q88 g88 => []) .nil h 3 rfl (fun q88 g88 h => ?_) (fun J89 h hJ89 => ?_)
           ·
            refine oV (v_pick_f rfl g87 rfl) ?_
            exact hJ86 _ () h _ (join_imp 5 rfl rfl (mod_cons (j := 86) rfl (fun _ _ h => h) mod_nil) .nil)
           ·
            refine rl_condM (j := 82) h rfl (fun g90 h => ?_) (fun g90 h => ?_)
            ·
             refine op_take rfl rfl (dj := 82) rfl g90 (OpV.t (v_move rfl) ?_)
             refine op_take rfl rfl (dj := 82) rfl g90 (OpV.t (v_eql64 rfl rfl) ?_)
             refine op_take rfl rfl (dj := 79) rfl g87 (OpV.t (v_pick_t rfl g90 rfl) ?_)
             exact hJ89 _ () h _ (join_imp 3 rfl rfl (mod_cons (j := 85) rfl (fun _ _ h => h) mod_nil) .nil)
            ·
             refine op_pass rfl (dj := 82) rfl g90 ?_
             refine op_pass rfl (dj := 82) rfl g90 ?_
             refine op_take rfl rfl (dj := 79) rfl g87 (OpV.t (v_pick_f rfl g90 rfl) ?_)
             exact hJ89 _ () h _ (join_imp 3 rfl rfl (mod_cons (j := 85) rfl (fun _ _ h => h) mod_nil) .nil)
        ·
         refine rl_condM (j := 75) h rfl (fun g84 h => ?_) (fun g84 h => ?_)
         ·
          refine op_pass rfl (dj := 75) rfl g84 ?_
          refine op_pass rfl (dj := 75) rfl g84 ?_
          refine oV (v_pick_t rfl g84 rfl) ?_
          exact hJ83 _ () h _ (join_imp 3 rfl rfl (mod_cons (j := 78) rfl (fun _ _ h => h) mod_nil) .nil)
         ·
          refine op_take rfl rfl (dj := 75) rfl g84 (OpV.t (v_move rfl) ?_)
          refine op_take rfl rfl (dj := 75) rfl g84 (OpV.t (v_gtr64 rfl rfl) ?_)
          refine oV (v_pick_f rfl g84 rfl) ?_
          exact hJ83 _ () h _ (join_imp 3 rfl rfl (mod_cons (j := 78) rfl (fun _ _ h => h) mod_nil) .nil)
       ·
        refine rl_condM (j := 69) h rfl (fun g79 h => ?_) (fun g79 h => ?_)
        ·
         refine op_pass rfl (dj := 69) rfl g79 ?_
         refine op_pass rfl (dj := 69) rfl g79 ?_
         refine op_pass rfl (dj := 69) rfl g79 ?_
         refine op_pass rfl (dj := 69) rfl g79 ?_
         refine oV (v_pick_t rfl g79 rfl) ?_
         exact hJ78 _ () h _ (join_imp 5 rfl rfl (mod_cons (j := 74) rfl (fun _ _ h => h) mod_nil) .nil)
        ·
         refine op_take rfl rfl (dj := 69) rfl g79 (OpV.t (v_move rfl) ?_)
         refine op_take rfl rfl (dj := 69) rfl g79 (OpV.t (v_move rfl) ?_)
         refine cal_inv h fun y80 hy80 h => ?_
         refine op_take rfl rfl (dj := 69) rfl g79 (t_call (r04_at_w hy80) hT (.same rfl (.same rfl .nil)) .nil (fun R H' hR => ?_))
         obtain ⟨rfl, rfl⟩ := hR
         refine cal_inv h fun y81 hy81 h => ?_
         refine op_take rfl rfl (dj := 69) rfl g79 (t_call (r04_letter_w hy81) hT (.same rfl .nil) .nil (fun R H' hR => ?_))
         obtain ⟨rfl, rfl⟩ := hR
         refine oV (v_pick_f rfl g79 rfl) ?_
         exact hJ78 _ () h _ (join_imp 5 rfl rfl (mod_cons (j := 74) rfl (fun _ _ h => h) mod_nil) .nil)
      ·
       refine rl_condM (j := 60) h rfl (fun g72 h => ?_) (fun g72 h => ?_)
       ·
        refine op_pass rfl (dj := 60) rfl g72 ?_
        refine op_pass rfl (dj := 60) rfl g72 ?_
        refine op_passU rfl (dj := 62) rfl ?_
        refine op_passU rfl (dj := 62) rfl ?_
        refine op_passU rfl (dj := 62) rfl ?_
        refine op_passU rfl (dj := 62) rfl ?_
        refine op_pass rfl (dj := 60) rfl g72 ?_
        refine oV (v_pick_t rfl g72 rfl) ?_
        exact hJ71 _ () h _ (join_imp 8 rfl rfl (mod_cons (j := 68) rfl (fun _ _ h => h) mod_nil) .nil)
       ·
        refine op_take rfl rfl (dj := 60) rfl g72 (OpV.t (v_move rfl) ?_)
        refine op_take rfl rfl (dj := 60) rfl g72 (OpV.t (v_move rfl) ?_)
        refine rl_j (ι := Bool) (γ := Unit) (fun q73 g73 => [(67, isv (q73))]) (fun q73 g73 => []) .nil h 5 rfl (fun q73 g73 h => ?_) (fun J74 h hJ74 => ?_)
        ·
         refine oV (v_pick_f rfl g72 rfl) ?_
         exact hJ71 _ () h _ (join_imp 4 rfl rfl (mod_cons (j := 68) rfl (fun _ _ h => h) mod_nil) .nil)
        ·
         refine rl_condM (j := 62) h rfl (fun g75 h => ?_) (fun g75 h => ?_)
         ·
          refine op_take rfl rfl (dj := 62) rfl g75 (OpV.t (v_move rfl) ?_)
          refine op_take rfl rfl (dj := 62) rfl g75 (OpV.t (v_move rfl) ?_)
          refine cal_inv h fun y76 hy76 h => ?_
          refine op_take rfl rfl (dj := 62) rfl g75 (OpV.t (v_idxS y76 st9 rfl rfl hy76) ?_)
          refine op_take rfl rfl (dj := 62) rfl g75 (OpV.t (v_eqA eq5 rfl rfl) ?_)
          refine op_take rfl rfl (dj := 60) rfl g72 (OpV.t (v_pick_t rfl g75 rfl) ?_)
          exact hJ74 _ () h _ (join_imp 5 rfl rfl (mod_cons (j := 67) rfl (fun _ _ h => h) mod_nil) .nil)
         ·
          refine op_pass rfl (dj := 62) rfl g75 ?_
          refine op_pass rfl (dj := 62) rfl g75 ?_
          refine op_pass rfl (dj := 62) rfl g75 ?_
          refine op_pass rfl (dj := 62) rfl g75 ?_
          refine op_take rfl rfl (dj := 60) rfl g72 (OpV.t (v_pick_f rfl g75 rfl) ?_)
          exact hJ74 _ () h _ (join_imp 5 rfl rfl (mod_cons (j := 67) rfl (fun _ _ h => h) mod_nil) .nil)
     ·
      refine rl_condM (j := 50) h rfl (fun g65 h => ?_) (fun g65 h => ?_)
      ·
       refine op_pass rfl (dj := 50) rfl g65 ?_
       refine op_pass rfl (dj := 50) rfl g65 ?_
       refine op_pass rfl (dj := 50) rfl g65 ?_
       refine op_passU rfl (dj := 53) rfl ?_
       refine op_passU rfl (dj := 53) rfl ?_
       refine op_passU rfl (dj := 53) rfl ?_
       refine op_passU rfl (dj := 53) rfl ?_
       refine op_pass rfl (dj := 50) rfl g65 ?_
       refine oV (v_pick_t rfl g65 rfl) ?_
       exact hJ64 _ () h _ (join_imp 9 rfl rfl (mod_cons (j := 59) rfl (fun _ _ h => h) mod_nil) .nil)
      ·
       refine op_take rfl rfl (dj := 50) rfl g65 (OpV.t (v_move rfl) ?_)
       refine op_take rfl rfl (dj := 50) rfl g65 (OpV.t (v_gtr rfl rfl) ?_)
       refine op_take rfl rfl (dj := 50) rfl g65 (OpV.t (v_move rfl) ?_)
       refine rl_j (ι := Bool) (γ := Unit) (fun q66 g66 => [(58, isv (q66))]) (fun q66 g66 => []) .nil h 5 rfl (fun q66 g66 h => ?_) (fun J67 h hJ67 => ?_)
       ·
        refine oV (v_pick_f rfl g65 rfl) ?_
        exact hJ64 _ () h _ (join_imp 5 rfl rfl (mod_cons (j := 59) rfl (fun _ _ h => h) mod_nil) .nil)
       ·
        refine rl_condM (j := 53) h rfl (fun g68 h => ?_) (fun g68 h => ?_)
        ·
         refine op_take rfl rfl (dj := 53) rfl g68 (OpV.t (v_move rfl) ?_)
         refine op_take rfl rfl (dj := 53) rfl g68 (OpV.t (v_move rfl) ?_)
         refine cal_inv h fun y69 hy69 h => ?_
         refine op_take rfl rfl (dj := 53) rfl g68 (OpV.t (v_idxS y69 st9 rfl rfl hy69) ?_)
         refine op_take rfl rfl (dj := 53) rfl g68 (OpV.t (v_eqA eq5 rfl rfl) ?_)
         refine op_take rfl rfl (dj := 50) rfl g65 (OpV.t (v_pick_t rfl g68 rfl) ?_)
         exact hJ67 _ () h _ (join_imp 5 rfl rfl (mod_cons (j := 58) rfl (fun _ _ h => h) mod_nil) .nil)
        ·
         refine op_pass rfl (dj := 53) rfl g68 ?_
         refine op_pass rfl (dj := 53) rfl g68 ?_
         refine op_pass rfl (dj := 53) rfl g68 ?_
         refine op_pass rfl (dj := 53) rfl g68 ?_
         refine op_take rfl rfl (dj := 50) rfl g65 (OpV.t (v_pick_f rfl g68 rfl) ?_)
         exact hJ67 _ () h _ (join_imp 5 rfl rfl (mod_cons (j := 58) rfl (fun _ _ h => h) mod_nil) .nil)
    ·
     refine rl_condM (j := 46) h rfl (fun g62 h => ?_) (fun g62 h => ?_)
     ·
      refine op_pass rfl (dj := 46) rfl g62 ?_
      refine op_pass rfl (dj := 46) rfl g62 ?_
      refine oV (v_pick_t rfl g62 rfl) ?_
      exact hJ61 _ () h _ (join_imp 3 rfl rfl (mod_cons (j := 49) rfl (fun _ _ h => h) mod_nil) .nil)
     ·
      refine op_take rfl rfl (dj := 46) rfl g62 (OpV.t (v_move rfl) ?_)
      refine op_take rfl rfl (dj := 46) rfl g62 (OpV.t (v_gtr rfl rfl) ?_)
      refine oV (v_pick_f rfl g62 rfl) ?_
      exact hJ61 _ () h _ (join_imp 3 rfl rfl (mod_cons (j := 49) rfl (fun _ _ h => h) mod_nil) .nil)
  ·
   refine rl_condM (j := 21) h rfl (fun g51 h => ?_) (fun g51 h => ?_)
   ·
    refine op_take rfl rfl (dj := 21) rfl g51 (OpV.t (v_move rfl) ?_)
    refine op_take rfl rfl (dj := 21) rfl g51 (OpV.t (v_move rfl) ?_)
    refine cal_inv h fun y52 hy52 h => ?_
    refine op_take rfl rfl (dj := 21) rfl g51 (OpV.t (v_idxS y52 st9 rfl rfl hy52) ?_)
    refine cal_inv h fun y53 hy53 h => ?_
    refine op_take rfl rfl (dj := 21) rfl g51 (t_call (r04_digit_w hy53) hT (.same rfl .nil) .nil (fun R H' hR => ?_))
    obtain ⟨rfl, rfl⟩ := hR
    refine oV (v_pick_t rfl g51 rfl) ?_
    exact hJ50 _ () h _ (join_imp 5 rfl rfl (mod_cons (j := 26) rfl (fun _ _ h => h) mod_nil) .nil)
   ·
    refine op_pass rfl (dj := 21) rfl g51 ?_
    refine op_pass rfl (dj := 21) rfl g51 ?_
    refine op_pass rfl (dj := 21) rfl g51 ?_
    refine op_pass rfl (dj := 21) rfl g51 ?_
    refine oV (v_pick_f rfl g51 rfl) ?_
    exact hJ50 _ () h _ (join_imp 5 rfl rfl (mod_cons (j := 26) rfl (fun _ _ h => h) mod_nil) .nil)
 ·
  refine w_condM h rfl (fun _ h => ?_) (fun _ h => ?_)
  ·
   refine w_region ?_
   refine oV (v_move rfl) ?_
   refine ck_inv h fun q4 h => ?_
   refine oV (v_add rfl rfl q4) ?_
   refine oV (v_assign rfl) ?_
   refine rl_nil ?_
   exact hJ3 _ () h _ (join_imp 3 rfl rfl (mod_cons (j := 1) rfl (fun _ _ h => h) mod_nil) .nil)
  ·
   refine w_skip ?_
   exact hJ3 _ () h _ (join_imp 0 rfl rfl (mod_cons (j := 1) rfl (fun _ _ h => h) mod_nil) .nil)


theorem r04_hex_w : ∀ {a_s : Str} {a_i : Int} {r : Int × Str}, r04_hex a_s a_i = some r → Ctr Tryd.prog 102 [isv (a_s), isv (a_i)] [] (fun R H => R = oneOf [isv (r.1), isv (r.2)] ∧ H = []) := by
 intro a_s a_i r h
 unfold r04_hex at h
 refine spec_intro Tryd.func102 rfl (by decide +kernel) (by rfl) fun w0 S0 hT => ?_
 refine wsr ?_
 refine oV (v_assign rfl) ?_
 refine oV (v_assign rfl) ?_
 refine rnf ?_
 refine wsr ?_
 refine oV (v_move rfl) ?_
 refine ck_inv h fun q1 h => ?_
 refine oV (v_add rfl rfl q1) ?_
 refine oV (v_assign rfl) ?_
 refine rnf ?_
 refine wsr ?_
 refine oV (v_move rfl) ?_
 refine oV (v_assign rfl) ?_
 refine rnf ?_
 refine w_seq ?_
 refine w_block ?_
 refine w_lp (ι := Int) (γ := Unit) (fun q2 g2 => [(1, isv (q2))]) (fun q2 g2 => []) h () (mod_cons (j := 1) rfl (fun _ _ h => h) mod_nil) .nil (fun L3 q2 g2 Q58 h hL3 eL3 rL3 => ?_)
 refine w_seq ?_
 refine wsr ?_
 refine oV (v_move rfl) ?_
 refine oV (v_move rfl) ?_
 refine oV (v_lenS st9 rfl) ?_
 refine oV (v_lss rfl rfl) ?_
 refine oV (v_move rfl) ?_
 refine rl_j (ι := Bool) (γ := Unit) (fun q31 g31 => [(31, isv (q31))]) (fun q31 g31 => []) .nil h 17 rfl (fun q31 g31 h => ?_) (fun J32 h hJ32 => ?_)
 ·
  refine rnf ?_
  refine w_condM h rfl (fun _ h => ?_) (fun _ h => ?_)
  ·
   refine wkf ?_
   refine w_block ?_
   refine w_region ?_
   refine oV (v_move rfl) ?_
   refine ck_inv h fun q44 h => ?_
   refine oV (v_add rfl rfl q44) ?_
   refine oV (v_assign rfl) ?_
   refine rl_nil ?_
   refine fin_block ?_
   exact hL3 _ () h _ (join_imp 10 rfl rfl (mod_cons (j := 1) rfl (fun _ _ h => h) mod_nil) .nil)
  ·
   refine w_exit ?_
   refine exi_nxt ?_
   refine eL3 _ _ ?_
   refine exi_block ?_
   refine fin_nxt ?_
   refine w_seq ?_
   refine wsr ?_
   refine oV (v_move rfl) ?_
   refine oV (v_move rfl) ?_
   refine ck_inv h fun q45 h => ?_
   refine oV (v_sub rfl rfl q45) ?_
   refine asr_inv h fun q46 h => ?_
   refine oV (v_remI rfl rfl q46) ?_
   refine oV (v_neq rfl rfl) ?_
   refine oV (v_move rfl) ?_
   refine rl_j (ι := Bool) (γ := Unit) (fun q47 g47 => [(44, isv (q47))]) (fun q47 g47 => []) .nil h 5 rfl (fun q47 g47 h => ?_) (fun J48 h hJ48 => ?_)
   ·
    refine oV (v_move rfl) ?_
    refine rl_j (ι := Bool) (γ := Unit) (fun q51 g51 => [(51, isv (q51))]) (fun q51 g51 => []) .nil h 6 rfl (fun q51 g51 h => ?_) (fun J52 h hJ52 => ?_)
    ·
     refine rnf ?_
     refine w_condM h rfl (fun _ h => ?_) (fun _ h => ?_)
     ·
      refine wsr ?_
      refine oV (v_assign rfl) ?_
      refine oV (v_assign rfl) ?_
      refine rnf ?_
      refine w_ret ?_
      refine ret_nxt ?_
      refine ret_post (.tmp rfl (.tmp rfl .nil)) .nil ?_
      obtain rfl := Option.some.inj h
      exact ⟨rfl, rfl⟩
     ·
      refine wkf ?_
      refine w_seq ?_
      refine w_regionD (.v 0 (.v 1 (.v 2 (.v 3 (.v 4 (.v 5 (.v 6 (.v 7 .nil)))))))) moOrd (by kernel_rfl) ?_
      refine rd_v rfl (v_move rfl) ?_
      refine ck_inv h fun q56 h => ?_
      refine rd_v rfl (v_add rfl rfl q56) ?_
      refine rd_v rfl (v_move rfl) ?_
      refine rd_v rfl (v_move rfl) ?_
      refine rd_v rfl (v_move rfl) ?_
      refine asd_inv h fun q57 h => ?_
      refine rd_v rfl (v_slS st9 rfl (.inr ⟨_, rfl, rfl⟩) (.inr ⟨_, rfl, rfl⟩) q57.1 q57.2.1 q57.2.2) ?_
      refine rd_v rfl (v_assign rfl) ?_
      refine rd_v rfl (v_assign rfl) ?_
      refine rd_nil ?_
      refine fin_nxt ?_
      refine w_ret ?_
      refine ret_post (.tmp rfl (.tmp rfl .nil)) .nil ?_
      obtain rfl := Option.some.inj h
      exact ⟨rfl, rfl⟩
    ·
     refine rl_condM (j := 45) h rfl (fun g53 h => ?_) (fun g53 h => ?_)
     ·
      refine op_pass rfl (dj := 45) rfl g53 ?_
      refine op_pass rfl (dj := 45) rfl g53 ?_
      refine op_pass rfl (dj := 45) rfl g53 ?_
      refine op_pass rfl (dj := 45) rfl g53 ?_
      refine op_pass rfl (dj := 45) rfl g53 ?_
      refine oV (v_pick_t rfl g53 rfl) ?_
      exact hJ52 _ () h _ (join_imp 6 rfl rfl (mod_cons (j := 51) rfl (fun _ _ h => h) mod_nil) .nil)
     ·
      refine op_take rfl rfl (dj := 45) rfl g53 (OpV.t (v_move rfl) ?_)
      refine op_take rfl rfl (dj := 45) rfl g53 (OpV.t (v_move rfl) ?_)
      refine ck_inv h fun q54 h => ?_
      refine op_take rfl rfl (dj := 45) rfl g53 (OpV.t (v_add rfl rfl q54) ?_)
      refine cal_inv h fun y55 hy55 h => ?_
      refine op_take rfl rfl (dj := 45) rfl g53 (t_call (r04_at_w hy55) hT (.same rfl (.same rfl .nil)) .nil (fun R H' hR => ?_))
      obtain ⟨rfl, rfl⟩ := hR
      refine op_take rfl rfl (dj := 45) rfl g53 (OpV.t (v_neA eq5 rfl rfl) ?_)
      refine oV (v_pick_f rfl g53 rfl) ?_
      exact hJ52 _ () h _ (join_imp 6 rfl rfl (mod_cons (j := 51) rfl (fun _ _ h => h) mod_nil) .nil)
   ·
    refine rl_condM (j := 39) h rfl (fun g49 h => ?_) (fun g49 h => ?_)
    ·
     refine op_pass rfl (dj := 39) rfl g49 ?_
     refine op_pass rfl (dj := 39) rfl g49 ?_
     refine op_pass rfl (dj := 39) rfl g49 ?_
     refine op_pass rfl (dj := 39) rfl g49 ?_
     refine oV (v_pick_t rfl g49 rfl) ?_
     exact hJ48 _ () h _ (join_imp 5 rfl rfl (mod_cons (j := 44) rfl (fun _ _ h => h) mod_nil) .nil)
    ·
     refine op_take rfl rfl (dj := 39) rfl g49 (OpV.t (v_move rfl) ?_)
     refine op_take rfl rfl (dj := 39) rfl g49 (OpV.t (v_move rfl) ?_)
     refine cal_inv h fun y50 hy50 h => ?_
     refine op_take rfl rfl (dj := 39) rfl g49 (t_call (r04_at_w hy50) hT (.same rfl (.same rfl .nil)) .nil (fun R H' hR => ?_))
     obtain ⟨rfl, rfl⟩ := hR
     refine op_take rfl rfl (dj := 39) rfl g49 (OpV.t (v_neA eq5 rfl rfl) ?_)
     refine oV (v_pick_f rfl g49 rfl) ?_
     exact hJ48 _ () h _ (join_imp 5 rfl rfl (mod_cons (j := 44) rfl (fun _ _ h => h) mod_nil) .nil)
 ·
  refine rl_condM (j := 14) h rfl (fun g33 h => ?_) (fun g33 h => ?_)
  ·
   refine op_take rfl rfl (dj := 14) rfl g33 (OpV.t (v_move rfl) ?_)
   refine op_take rfl rfl (dj := 14) rfl g33 (OpV.t (v_move rfl) ?_)
   refine cal_inv h fun y34 hy34 h => ?_
   refine op_take rfl rfl (dj := 14) rfl g33 (OpV.t (v_idxS y34 st9 rfl rfl hy34) ?_)
   refine cal_inv h fun y35 hy35 h => ?_
   refine op_take rfl rfl (dj := 14) rfl g33 (t_call (r04_digit_w hy35) hT (.same rfl .nil) .nil (fun R H' hR => ?_))
   obtain ⟨rfl, rfl⟩ := hR
   refine op_take rfl rfl (dj := 14) rfl g33 (OpV.t (v_move rfl) ?_)
   refine rl_j (ι := Bool) (γ := Unit) (fun q36 g36 => [(30, isv (q36))]) (fun q36 g36 => []) .nil h 11 rfl (fun q36 g36 h => ?_) (fun J37 h hJ37 => ?_)
   ·
    refine oV (v_pick_t rfl g33 rfl) ?_
    exact hJ32 _ () h _ (join_imp 7 rfl rfl (mod_cons (j := 31) rfl (fun _ _ h => h) mod_nil) .nil)
   ·
    refine rl_condM (j := 19) h rfl (fun g38 h => ?_) (fun g38 h => ?_)
    ·
     refine op_pass rfl (dj := 19) rfl g38 ?_
     refine op_pass rfl (dj := 19) rfl g38 ?_
     refine op_pass rfl (dj := 19) rfl g38 ?_
     refine op_pass rfl (dj := 19) rfl g38 ?_
     refine op_pass rfl (dj := 19) rfl g38 ?_
     refine op_passU rfl (dj := 24) rfl ?_
     refine op_passU rfl (dj := 24) rfl ?_
     refine op_passU rfl (dj := 24) rfl ?_
     refine op_passU rfl (dj := 24) rfl ?_
     refine op_pass rfl (dj := 19) rfl g38 ?_
     refine op_take rfl rfl (dj := 14) rfl g33 (OpV.t (v_pick_t rfl g38 rfl) ?_)
     exact hJ37 _ () h _ (join_imp 11 rfl rfl (mod_cons (j := 30) rfl (fun _ _ h => h) mod_nil) .nil)
    ·
     refine op_take rfl rfl (dj := 19) rfl g38 (OpV.t (v_move rfl) ?_)
     refine op_take rfl rfl (dj := 19) rfl g38 (OpV.t (v_move rfl) ?_)
     refine cal_inv h fun y39 hy39 h => ?_
     refine op_take rfl rfl (dj := 19) rfl g38 (OpV.t (v_idxS y39 st9 rfl rfl hy39) ?_)
     refine op_take rfl rfl (dj := 19) rfl g38 (OpV.t (v_geq8 rfl rfl) ?_)
     refine op_take rfl rfl (dj := 19) rfl g38 (OpV.t (v_move rfl) ?_)
     refine rl_j (ι := Bool) (γ := Unit) (fun q40 g40 => [(29, isv (q40))]) (fun q40 g40 => []) .nil h 5 rfl (fun q40 g40 h => ?_) (fun J41 h hJ41 => ?_)
     ·
      refine op_take rfl rfl (dj := 14) rfl g33 (OpV.t (v_pick_f rfl g38 rfl) ?_)
      exact hJ37 _ () h _ (join_imp 7 rfl rfl (mod_cons (j := 30) rfl (fun _ _ h => h) mod_nil) .nil)
     ·
      refine rl_condM (j := 24) h rfl (fun g42 h => ?_) (fun g42 h => ?_)
      ·
       refine op_take rfl rfl (dj := 24) rfl g42 (OpV.t (v_move rfl) ?_)
       refine op_take rfl rfl (dj := 24) rfl g42 (OpV.t (v_move rfl) ?_)
       refine cal_inv h fun y43 hy43 h => ?_
       refine op_take rfl rfl (dj := 24) rfl g42 (OpV.t (v_idxS y43 st9 rfl rfl hy43) ?_)
       refine op_take rfl rfl (dj := 24) rfl g42 (OpV.t (v_leq8 rfl rfl) ?_)
       refine op_take rfl rfl (dj := 19) rfl g38 (OpV.t (v_pick_t rfl g42 rfl) ?_)
       exact hJ41 _ () h _ (join_imp 5 rfl rfl (mod_cons (j := 29) rfl (fun _ _ h => h) mod_nil) .nil)
      ·
       refine op_pass rfl (dj := 24) rfl g42 ?_
       refine op_pass rfl (dj := 24) rfl g42 ?_
       refine op_pass rfl (dj := 24) rfl g42 ?_
       refine op_pass rfl (dj := 24) rfl g42 ?_
       refine op_take rfl rfl (dj := 19) rfl g38 (OpV.t (v_pick_f rfl g42 rfl) ?_)
       exact hJ41 _ () h _ (join_imp 5 rfl rfl (mod_cons (j := 29) rfl (fun _ _ h => h) mod_nil) .nil)
  ·
   refine op_pass rfl (dj := 14) rfl g33 ?_
   refine op_pass rfl (dj := 14) rfl g33 ?_
   refine op_pass rfl (dj := 14) rfl g33 ?_
   refine op_pass rfl (dj := 14) rfl g33 ?_
   refine op_pass rfl (dj := 14) rfl g33 ?_
   refine op_passU rfl (dj := 19) rfl ?_
   refine op_passU rfl (dj := 19) rfl ?_
   refine op_passU rfl (dj := 19) rfl ?_
   refine op_passU rfl (dj := 19) rfl ?_
   refine op_passU rfl (dj := 19) rfl ?_
   refine op_passU rfl (dj := 24) rfl ?_
   refine op_passU rfl (dj := 24) rfl ?_
   refine op_passU rfl (dj := 24) rfl ?_
   refine op_passU rfl (dj := 24) rfl ?_
   refine op_passU rfl (dj := 19) rfl ?_
   refine op_pass rfl (dj := 14) rfl g33 ?_
   refine oV (v_pick_f rfl g33 rfl) ?_
   exact hJ32 _ () h _ (join_imp 17 rfl rfl (mod_cons (j := 31) rfl (fun _ _ h => h) mod_nil) .nil)


theorem r04_quoted_w : ∀ {a_s : Str} {a_i : Int} {r : Int × Str}, r04_quoted a_s a_i = some r → Ctr Tryd.prog 103 [isv (a_s), isv (a_i)] [] (fun R H => R = oneOf [isv (r.1), isv (r.2)] ∧ H = []) := by
 intro a_s a_i r h
 unfold r04_quoted at h
 refine spec_intro Tryd.func103 rfl (by decide +kernel) (by rfl) fun w0 S0 hT => ?_
 refine wsr ?_
 refine oV (v_assign rfl) ?_
 refine oV (v_assign rfl) ?_
 refine rnf ?_
 refine wsr ?_
 refine oV (v_assign rfl) ?_
 refine rnf ?_
 refine w_seq ?_
 refine wsr ?_
 refine oV (v_move rfl) ?_
 refine ck_inv h fun q1 h => ?_
 refine oV (v_add rfl rfl q1) ?_
 refine oV (v_assign rfl) ?_
 refine rnf ?_
 refine w_block ?_
 refine w_lp (ι := Int × Str) (γ := Unit) (fun q2 g2 => [(1, isv (q2.1)), (6, isv (q2.2))]) (fun q2 g2 => []) h () (mod_cons (j := 1) rfl (fun _ _ h => h) (mod_cons (j := 6) rfl (fun _ _ h => h) mod_nil)) .nil (fun L3 q2 g2 Q30 h hL3 eL3 rL3 => ?_)
 refine w_seq ?_
 refine wsr ?_
 refine oV (v_move rfl) ?_
 refine oV (v_move rfl) ?_
 refine oV (v_lenS st9 rfl) ?_
 refine oV (v_lss rfl rfl) ?_
 refine rnf ?_
 refine w_condM h rfl (fun _ h => ?_) (fun _ h => ?_)
 ·
  refine wkf ?_
  refine w_seq ?_
  refine w_J (ι := Int × Str) (γ := Unit) (fun q17 g17 => [(1, isv (q17.1)), (6, isv (q17.2))]) (fun q17 g17 => []) .nil h (fun q17 g17 h => ?_) (fun J18 h hJ18 => ?_)
  ·
   refine w_region ?_
   refine oV (v_move rfl) ?_
   refine ck_inv h fun q29 h => ?_
   refine oV (v_add rfl rfl q29) ?_
   refine oV (v_assign rfl) ?_
   refine rl_nil ?_
   exact hL3 _ () h _ (join_imp 11 rfl rfl (mod_cons (j := 1) rfl (fun _ _ h => h) (mod_cons (j := 6) rfl (fun _ _ h => h) mod_nil)) .nil)
  ·
   refine w_block ?_
   refine w_seq ?_
   refine wsr ?_
   refine oV (v_move rfl) ?_
   refine oV (v_move rfl) ?_
   refine cal_inv h fun y19 hy19 h => ?_
   refine oV (v_idxS y19 st9 rfl rfl hy19) ?_
   refine oV (v_neA eq5 rfl rfl) ?_
   refine rnf ?_
   refine w_condM h rfl (fun _ h => ?_) (fun _ h => ?_)
   ·
    refine wsr ?_
    refine oV (v_move rfl) ?_
    refine oV (v_move rfl) ?_
    refine oV (v_move rfl) ?_
    refine oV (v_move rfl) ?_
    refine ck_inv h fun q20 h => ?_
    refine oV (v_add rfl rfl q20) ?_
    refine asd_inv h fun q21 h => ?_
    refine oV (v_slS st9 rfl (.inr ⟨_, rfl, rfl⟩) (.inr ⟨_, rfl, rfl⟩) q21.1 q21.2.1 q21.2.2) ?_
    refine asr_inv h fun q22 h => ?_
    refine oV (v_cat rfl rfl q22) ?_
    refine oV (v_assign rfl) ?_
    refine rnf ?_
    refine w_exit ?_
    refine exi_nxt ?_
    refine exi_block ?_
    exact hJ18 _ () h _ (join_imp 12 rfl rfl (mod_cons (j := 1) rfl (fun _ _ h => h) (mod_cons (j := 6) rfl (fun _ _ h => h) mod_nil)) .nil)
   ·
    refine wkf ?_
    refine w_seq ?_
    refine wsr ?_
    refine oV (v_move rfl) ?_
    refine oV (v_move rfl) ?_
    refine ck_inv h fun q23 h => ?_
    refine oV (v_add rfl rfl q23) ?_
    refine cal_inv h fun y24 hy24 h => ?_
    refine oT (t_call (r04_at_w hy24) hT (.same rfl (.same rfl .nil)) .nil (fun R H' hR => ?_))
    obtain ⟨rfl, rfl⟩ := hR
    refine oV (v_neA eq5 rfl rfl) ?_
    refine rnf ?_
    refine w_condM h rfl (fun _ h => ?_) (fun _ h => ?_)
    ·
     refine w_seq ?_
     refine wsr ?_
     refine oV (v_move rfl) ?_
     refine cal_inv h fun y25 hy25 h => ?_
     refine oT (t_call (utf8_ValidString_w hy25) hT (.same rfl .nil) .nil (fun R H' hR => ?_))
     obtain ⟨rfl, rfl⟩ := hR
     refine oV (v_not rfl) ?_
     refine rnf ?_
     refine w_condM h rfl (fun _ h => ?_) (fun _ h => ?_)
     ·
      refine wsr ?_
      refine oV (v_assign rfl) ?_
      refine oV (v_assign rfl) ?_
      refine rnf ?_
      refine w_ret ?_
      refine ret_nxt ?_
      refine ret_nxt ?_
      refine ret_block ?_
      refine ret_nxt ?_
      refine rL3 _ ?_
      refine ret_block ?_
      refine ret_nxt ?_
      refine ret_post (.tmp rfl (.tmp rfl .nil)) .nil ?_
      obtain rfl := Option.some.inj h
      exact ⟨rfl, rfl⟩
     ·
      refine wkf ?_
      refine wsr ?_
      refine oV (v_move rfl) ?_
      refine ck_inv h fun q26 h => ?_
      refine oV (v_add rfl rfl q26) ?_
      refine oV (v_move rfl) ?_
      refine oV (v_assign rfl) ?_
      refine oV (v_assign rfl) ?_
      refine rnf ?_
      refine w_ret ?_
      refine ret_nxt ?_
      refine ret_block ?_
      refine ret_nxt ?_
      refine rL3 _ ?_
      refine ret_block ?_
      refine ret_nxt ?_
      refine ret_post (.tmp rfl (.tmp rfl .nil)) .nil ?_
      obtain rfl := Option.some.inj h
      exact ⟨rfl, rfl⟩
    ·
     refine wkf ?_
     refine wsr ?_
     refine oV (v_move rfl) ?_
     refine asr_inv h fun q27 h => ?_
     refine oV (v_cat rfl rfl q27) ?_
     refine oV (v_assign rfl) ?_
     refine rnf ?_
     refine w_region ?_
     refine oV (v_move rfl) ?_
     refine ck_inv h fun q28 h => ?_
     refine oV (v_add rfl rfl q28) ?_
     refine oV (v_assign rfl) ?_
     refine rl_nil ?_
     refine fin_block ?_
     exact hJ18 _ () h _ (join_imp 15 rfl rfl (mod_cons (j := 1) rfl (fun _ _ h => h) (mod_cons (j := 6) rfl (fun _ _ h => h) mod_nil)) .nil)
 ·
  refine w_exit ?_
  refine exi_nxt ?_
  refine eL3 _ _ ?_
  refine exi_block ?_
  refine fin_nxt ?_
  refine wsr ?_
  refine oV (v_assign rfl) ?_
  refine oV (v_assign rfl) ?_
  refine rnf ?_
  refine w_ret ?_
  refine ret_post (.tmp rfl (.tmp rfl .nil)) .nil ?_
  obtain rfl := Option.some.inj h
  exact ⟨rfl, rfl⟩


theorem r04_sign_w : ∀ {a_s : Str} {a_i : Int} {r : Int}, r04_sign a_s a_i = some r → Ctr Tryd.prog 104 [isv (a_s), isv (a_i)] [] (fun R H => R = oneOf [isv (r)] ∧ H = []) := by
 intro a_s a_i r h
 unfold r04_sign at h
 refine spec_intro Tryd.func104 rfl (by decide +kernel) (by rfl) fun w0 S0 hT => ?_
 refine wsr ?_
 refine oV (v_assign rfl) ?_
 refine rnf ?_
 refine wsr ?_
 refine oV (v_move rfl) ?_
 refine oV (v_move rfl) ?_
 refine asd_inv h fun q1 h => ?_
 refine oV (v_slS st9 rfl (.inr ⟨_, rfl, rfl⟩) (.inl ⟨rfl, rfl⟩) q1.1 q1.2.1 q1.2.2) ?_
 refine oV (v_assign rfl) ?_
 refine rnf ?_
 refine wsr ?_
 refine oT (t_buildSlice (l := ([(Str.mk [58, 58, 61]), (Str.mk [46, 46, 46]), (Str.mk [46, 46]), (Str.mk [91, 91]), (Str.mk [93, 93]), (Str.mk [123]), (Str.mk [125]), (Str.mk [91]), (Str.mk [93]), (Str.mk [40]), (Str.mk [41]), (Str.mk [44]), (Str.mk [58])] : (List Str))) el22 (.cons rfl (fun _ _ h => h) (.cons rfl (fun _ _ h => h) (.cons rfl (fun _ _ h => h) (.cons rfl (fun _ _ h => h) (.cons rfl (fun _ _ h => h) (.cons rfl (fun _ _ h => h) (.cons rfl (fun _ _ h => h) (.cons rfl (fun _ _ h => h) (.cons rfl (fun _ _ h => h) (.cons rfl (fun _ _ h => h) (.cons rfl (fun _ _ h => h) (.cons rfl (fun _ _ h => h) (.cons rfl (fun _ _ h => h) .nil))))))))))))) rfl rfl ?_)
 refine oV (v_assign rfl) ?_
 refine rnf ?_
 refine w_seq ?_
 refine wsr ?_
 refine oV (v_assign rfl) ?_
 refine rnf ?_
 refine w_block ?_
 refine w_lp (ι := Int) (γ := Unit) (fun q3 g3 => [(7, isv (q3))]) (fun q3 g3 => []) h () (mod_cons (j := 7) rfl (fun _ _ h => h) mod_nil) .nil (fun L4 q3 g3 Q19 h hL4 eL4 rL4 => ?_)
 refine w_seq ?_
 refine wsr ?_
 refine oV (v_move rfl) ?_
 refine oV (v_move rfl) ?_
 refine oV (v_ln (l := ([(Str.mk [58, 58, 61]), (Str.mk [46, 46, 46]), (Str.mk [46, 46]), (Str.mk [91, 91]), (Str.mk [93, 93]), (Str.mk [123]), (Str.mk [125]), (Str.mk [91]), (Str.mk [93]), (Str.mk [40]), (Str.mk [41]), (Str.mk [44]), (Str.mk [58])] : (List Str))) rfl appv_isv sl22) ?_
 refine oV (v_lss rfl rfl) ?_
 refine rnf ?_
 refine w_condM h rfl (fun _ h => ?_) (fun _ h => ?_)
 ·
  refine wkf ?_
  refine w_seq ?_
  refine w_block ?_
  refine wsr ?_
  refine oV (v_move rfl) ?_
  refine oV (v_move rfl) ?_
  refine cal_inv h fun y12 hy12 h => ?_
  refine oV (v_ix (l := ([(Str.mk [58, 58, 61]), (Str.mk [46, 46, 46]), (Str.mk [46, 46]), (Str.mk [91, 91]), (Str.mk [93, 93]), (Str.mk [123]), (Str.mk [125]), (Str.mk [91]), (Str.mk [93]), (Str.mk [40]), (Str.mk [41]), (Str.mk [44]), (Str.mk [58])] : (List Str))) rfl appv_isv rfl sl22 hy12) ?_
  refine oV (v_loadI ty9 rfl) ?_
  refine oV (v_lenS st9 rfl) ?_
  refine oV (v_assign rfl) ?_
  refine rnf ?_
  refine w_seq ?_
  refine w_regionD (.v 0 (.v 1 (.v 2 (.v 3 (.v 4 (.v 5 (.v 6 (.v 7 (.v 8 (.v 9 (.v 10 (.v 11 (.v 12 (.v 13 .nil)))))))))))))) moOrd (by kernel_rfl) ?_
  refine rd_v rfl (v_move rfl) ?_
  refine rd_v rfl (v_lenS st9 rfl) ?_
  refine rd_v rfl (v_move rfl) ?_
  refine rd_v rfl (v_geq rfl rfl) ?_
  refine rd_v rfl (v_move rfl) ?_
  refine rd_j (ι := Bool) (γ := Unit) (fun q13 g13 => [(37, isv (q13))]) (fun q13 g13 => []) .nil h 9 rfl (fun q13 g13 h => ?_) (fun J14 h hJ14 => ?_)
  ·
   refine rd_nil ?_
   refine fin_nxt ?_
   refine w_condM h rfl (fun _ h => ?_) (fun _ h => ?_)
   ·
    refine wsr ?_
    refine oV (v_move rfl) ?_
    refine oV (v_assign rfl) ?_
    refine rnf ?_
    refine w_ret ?_
    refine ret_block ?_
    refine ret_nxt ?_
    refine rL4 _ ?_
    refine ret_block ?_
    refine ret_nxt ?_
    refine ret_post (.tmp rfl .nil) .nil ?_
    obtain rfl := Option.some.inj h
    exact ⟨rfl, rfl⟩
   ·
    refine w_skip ?_
    refine fin_block ?_
    refine fin_nxt ?_
    refine w_region ?_
    refine oV (v_move rfl) ?_
    refine ck_inv h fun q18 h => ?_
    refine oV (v_add rfl rfl q18) ?_
    refine oV (v_assign rfl) ?_
    refine rl_nil ?_
    exact hL4 _ () h _ (join_imp 20 rfl rfl (mod_cons (j := 7) rfl (fun _ _ h => h) mod_nil) .nil)
  ·
   refine rd_condM (j := 28) h rfl (fun g15 h => ?_) (fun g15 h => ?_)
   ·
    refine rd_vt rfl rfl (dj := 28) rfl g15 (v_move rfl) ?_
    refine rd_vt rfl rfl (dj := 28) rfl g15 (v_move rfl) ?_
    refine asd_inv h fun q16 h => ?_
    refine rd_vt rfl rfl (dj := 28) rfl g15 (v_slS st9 rfl (.inl ⟨rfl, rfl⟩) (.inr ⟨_, rfl, rfl⟩) q16.1 q16.2.1 q16.2.2) ?_
    refine rd_vt rfl rfl (dj := 28) rfl g15 (v_move rfl) ?_
    refine rd_vt rfl rfl (dj := 28) rfl g15 (v_move rfl) ?_
    refine cal_inv h fun y17 hy17 h => ?_
    refine rd_vt rfl rfl (dj := 28) rfl g15 (v_ix (l := ([(Str.mk [58, 58, 61]), (Str.mk [46, 46, 46]), (Str.mk [46, 46]), (Str.mk [91, 91]), (Str.mk [93, 93]), (Str.mk [123]), (Str.mk [125]), (Str.mk [91]), (Str.mk [93]), (Str.mk [40]), (Str.mk [41]), (Str.mk [44]), (Str.mk [58])] : (List Str))) rfl appv_isv rfl sl22 hy17) ?_
    refine rd_vt rfl rfl (dj := 28) rfl g15 (v_loadI ty9 rfl) ?_
    refine rd_vt rfl rfl (dj := 28) rfl g15 (v_eqA eq9 rfl rfl) ?_
    refine rd_v rfl (v_pick_t rfl g15 rfl) ?_
    exact hJ14 _ () h _ (join_imp 9 rfl rfl (mod_cons (j := 37) rfl (fun _ _ h => h) mod_nil) .nil)
   ·
    refine rd_passV rfl rfl (dj := 28) rfl g15 ?_
    refine rd_passV rfl rfl (dj := 28) rfl g15 ?_
    refine rd_passV rfl rfl (dj := 28) rfl g15 ?_
    refine rd_passV rfl rfl (dj := 28) rfl g15 ?_
    refine rd_passV rfl rfl (dj := 28) rfl g15 ?_
    refine rd_passV rfl rfl (dj := 28) rfl g15 ?_
    refine rd_passV rfl rfl (dj := 28) rfl g15 ?_
    refine rd_passV rfl rfl (dj := 28) rfl g15 ?_
    refine rd_v rfl (v_pick_f rfl g15 rfl) ?_
    exact hJ14 _ () h _ (join_imp 9 rfl rfl (mod_cons (j := 37) rfl (fun _ _ h => h) mod_nil) .nil)
 ·
  refine w_exit ?_
  refine exi_nxt ?_
  refine eL4 _ _ ?_
  refine exi_block ?_
  refine fin_nxt ?_
  refine wsr ?_
  refine oV (v_assign rfl) ?_
  refine rnf ?_
  refine w_ret ?_
  refine ret_post (.tmp rfl .nil) .nil ?_
  obtain rfl := Option.some.inj h
  exact ⟨rfl, rfl⟩


theorem r04_one_w : ∀ {a_s : Str} {a_i : Int} {r : GTok × Int}, r04_one a_s a_i = some r → Ctr Tryd.prog 76 [isv (a_s), isv (a_i)] [] (fun R H => R = oneOf [isv (r.1), isv (r.2)] ∧ H = []) := by
 intro a_s a_i r h
 unfold r04_one at h
 refine spec_intro Tryd.func76 rfl (by decide +kernel) (by rfl) fun w0 S0 hT => ?_
 refine wsr ?_
 refine oT (t_alloc _ ze105 fun b1 => ?_)
 refine oV (v_assign rfl) ?_
 refine rnf ?_
 refine wsr ?_
 refine oV (v_move rfl) ?_
 refine oV (v_build (z := (GTok.mk (0 : Int) (Str.mk []) a_i)) rfl bu105 ze105 (.cons GTok.f2 fd105_2 rfl (fun _ _ h => h) .nil)) ?_
 refine oT (t_alloc _ ze105 fun b2 => ?_)
 refine oT (t_storeC (y' := ((GTok.mk (0 : Int) (Str.mk []) a_i) : GTok)) ty105 rfl rfl (fun _ _ h => h) .here rfl ?_)
 refine rnf ?_
 refine wsr ?_
 refine oV (v_move rfl) ?_
 refine oV (v_move rfl) ?_
 refine cal_inv h fun y3 hy3 h => ?_
 refine oV (v_idxS y3 st9 rfl rfl hy3) ?_
 refine oV (v_assign rfl) ?_
 refine rnf ?_
 refine wsr ?_
 refine oV (v_assign rfl) ?_
 refine rnf ?_
 refine w_seq ?_
 refine w_J (ι := Int × GTok) (γ := Unit) (fun q4 g4 => [(8, isv (q4.1))]) (fun q4 g4 => [boxE b2 (q4.2 : GTok)]) (.cons .here .nil) h (fun q4 g4 h => ?_) (fun J5 h hJ5 => ?_)
 ·
  refine wsr ?_
  refine oT (t_loadC (R := isv (q4.2)) ty105 rfl .here (fun _ _ h => h) ?_)
  refine oV (v_move rfl) ?_
  refine oT (t_storeC (y' := (q4.2 : GTok)) ty105 rfl rfl (fun _ _ h => h) (.there .here) rfl ?_)
  refine oV (v_assign rfl) ?_
  refine rnf ?_
  refine w_ret ?_
  refine ret_post (.cell rfl .here ty105 (.tmp rfl .nil)) .nil ?_
  obtain rfl := Option.some.inj h
  exact ⟨rfl, rfl⟩
 ·
  refine w_block ?_
  refine wsr ?_
  refine oV (v_move rfl) ?_
  refine cal_inv h fun y6 hy6 h => ?_
  refine oT (t_call (r04_letter_w hy6) hT (.same rfl .nil) .nil (fun R H' hR => ?_))
  obtain ⟨rfl, rfl⟩ := hR
  refine oV (v_assign rfl) ?_
  refine rnf ?_
  refine w_condM h rfl (fun _ h => ?_) (fun _ h => ?_)
  ·
   refine wsr ?_
   refine oV (v_move rfl) ?_
   refine oV (v_move rfl) ?_
   refine cal_inv h fun y7 hy7 h => ?_
   refine oT (t_call (r04_name_w hy7) hT (.same rfl (.same rfl .nil)) .nil (fun R H' hR => ?_))
   obtain ⟨rfl, rfl⟩ := hR
   refine oV (v_assign rfl) ?_
   refine rnf ?_
   refine w_seq ?_
   refine wsr ?_
   refine oV (v_move rfl) ?_
   refine oV (v_lss rfl rfl) ?_
   refine rnf ?_
   refine w_condM h rfl (fun _ h => ?_) (fun _ h => ?_)
   ·
    refine wsr ?_
    refine oT (t_loadC (R := isv ((GTok.mk (0 : Int) (Str.mk []) a_i))) ty105 rfl .here (fun _ _ h => h) ?_)
    refine oT (t_storeC (y' := ((GTok.mk (0 : Int) (Str.mk []) a_i) : GTok)) ty105 rfl rfl (fun _ _ h => h) (.there .here) rfl ?_)
    refine oV (v_assign rfl) ?_
    refine rnf ?_
    refine w_ret ?_
    refine ret_nxt ?_
    refine ret_block ?_
    refine ret_nxt ?_
    refine ret_post (.cell rfl .here ty105 (.tmp rfl .nil)) .nil ?_
    obtain rfl := Option.some.inj h
    exact ⟨rfl, rfl⟩
   ·
    refine wkf ?_
    refine w_seq ?_
    refine w_regionD (.v 0 (.v 1 (.v 2 (.v 3 (.v 4 (.t 5 (.v 6 (.t 7 .nil)))))))) moOrd (by kernel_rfl) ?_
    refine rd_v rfl (v_move rfl) ?_
    refine rd_v rfl (v_move rfl) ?_
    refine rd_v rfl (v_move rfl) ?_
    refine asd_inv h fun q8 h => ?_
    refine rd_v rfl (v_slS st9 rfl (.inr ⟨_, rfl, rfl⟩) (.inr ⟨_, rfl, rfl⟩) q8.1 q8.2.1 q8.2.2) ?_
    refine rd_v rfl (v_fa rfl GTok.f0 fd105_0) ?_
    refine rd_t rfl rfl (t_storeC (y' := ((GTok.mk (2 : Int) (Str.mk []) a_i) : GTok)) ty3 rfl rfl (fun _ _ h => h) .here rfl ?_)
    refine rd_v rfl (v_fa rfl GTok.f1 fd105_1) ?_
    refine rd_t rfl rfl (t_storeC (y' := ((GTok.mk (2 : Int) (Str.mk ((a_s.b.take (y7).toNat).drop (a_i).toNat)) a_i) : GTok)) ty9 rfl rfl (fun _ _ h => h) .here rfl ?_)
    refine rd_nil ?_
    refine fin_nxt ?_
    refine w_seq ?_
    refine wsr ?_
    refine oV (v_move rfl) ?_
    refine oV (v_leq8 rfl rfl) ?_
    refine rnf ?_
    refine w_J (ι := GTok) (γ := Unit) (fun q9 g9 => []) (fun q9 g9 => [boxE b2 (q9 : GTok)]) (.cons .here .nil) h (fun q9 g9 h => ?_) (fun J10 h hJ10 => ?_)
    ·
     refine wsr ?_
     refine oV (v_fa rfl GTok.f1 fd105_1) ?_
     refine oT (t_loadC (R := isv (q9.text)) ty9 rfl .here (fun _ _ h => h) ?_)
     refine cal_inv h fun y11 hy11 h => ?_
     refine oT (t_call (r04_Word_w hy11) hT (.same rfl .nil) .nil (fun R H' hR => ?_))
     obtain ⟨rfl, rfl⟩ := hR
     refine rnf ?_
     refine w_condM h rfl (fun _ h => ?_) (fun _ h => ?_)
     ·
      refine w_region ?_
      refine oV (v_fa rfl GTok.f0 fd105_0) ?_
      refine oT (t_storeC (y' := ({ q9 with kind := (5 : Int) } : GTok)) ty3 rfl rfl (fun _ _ h => h) .here rfl ?_)
      refine rl_nil ?_
      refine fin_block ?_
      exact hJ5 _ () h _ (join_imp 21 rfl rfl (mod_cons (j := 8) rfl (fun _ _ h => h) mod_nil) (.cons .here (.cons .here .nil)))
     ·
      refine w_skip ?_
      refine fin_block ?_
      exact hJ5 _ () h _ (join_imp 20 rfl rfl (mod_cons (j := 8) rfl (fun _ _ h => h) mod_nil) (.cons .here (.cons .here .nil)))
    ·
     refine w_condM h rfl (fun _ h => ?_) (fun _ h => ?_)
     ·
      refine w_region ?_
      refine oV (v_fa rfl GTok.f0 fd105_0) ?_
      refine oT (t_storeC (y' := ((GTok.mk (1 : Int) (Str.mk ((a_s.b.take (y7).toNat).drop (a_i).toNat)) a_i) : GTok)) ty3 rfl rfl (fun _ _ h => h) .here rfl ?_)
      refine rl_nil ?_
      exact hJ10 _ () h _ (join_imp 1 rfl rfl mod_nil (.cons .here (.cons .here .nil)))
     ·
      refine w_skip ?_
      exact hJ10 _ () h _ (join_imp 0 rfl rfl mod_nil (.cons .here (.cons .here .nil)))
  ·
   refine wsr ?_
   refine oV (v_move rfl) ?_
   refine cal_inv h fun y12 hy12 h => ?_
   refine oT (t_call (r04_digit_w hy12) hT (.same rfl .nil) .nil (fun R H' hR => ?_))
   obtain ⟨rfl, rfl⟩ := hR
   refine oV (v_move rfl) ?_
   refine rl_j (ι := Bool) (γ := Unit) (fun q13 g13 => [(66, isv (q13))]) (fun q13 g13 => []) .nil h 10 rfl (fun q13 g13 h => ?_) (fun J14 h hJ14 => ?_)
   ·
    refine oV (v_assign rfl) ?_
    refine rnf ?_
    refine w_condM h rfl (fun _ h => ?_) (fun _ h => ?_)
    ·
     refine wsr ?_
     refine oV (v_move rfl) ?_
     refine oV (v_move rfl) ?_
     refine cal_inv h fun y22 hy22 h => ?_
     refine oT (t_call (r04_number_w hy22) hT (.same rfl (.same rfl .nil)) .nil (fun R H' hR => ?_))
     obtain ⟨rfl, rfl⟩ := hR
     refine oV (v_assign rfl) ?_
     refine rnf ?_
     refine w_seq ?_
     refine wsr ?_
     refine oV (v_move rfl) ?_
     refine oV (v_lss rfl rfl) ?_
     refine rnf ?_
     refine w_condM h rfl (fun _ h => ?_) (fun _ h => ?_)
     ·
      refine wsr ?_
      refine oT (t_loadC (R := isv ((GTok.mk (0 : Int) (Str.mk []) a_i))) ty105 rfl .here (fun _ _ h => h) ?_)
      refine oT (t_storeC (y' := ((GTok.mk (0 : Int) (Str.mk []) a_i) : GTok)) ty105 rfl rfl (fun _ _ h => h) (.there .here) rfl ?_)
      refine oV (v_assign rfl) ?_
      refine rnf ?_
      refine w_ret ?_
      refine ret_nxt ?_
      refine ret_block ?_
      refine ret_nxt ?_
      refine ret_post (.cell rfl .here ty105 (.tmp rfl .nil)) .nil ?_
      obtain rfl := Option.some.inj h
      exact ⟨rfl, rfl⟩
     ·
      refine wkf ?_
      refine w_regionD (.v 0 (.v 1 (.v 2 (.v 3 (.v 4 (.t 5 (.v 6 (.t 7 .nil)))))))) moOrd (by kernel_rfl) ?_
      refine rd_v rfl (v_move rfl) ?_
      refine rd_v rfl (v_move rfl) ?_
      refine rd_v rfl (v_move rfl) ?_
      refine asd_inv h fun q23 h => ?_
      refine rd_v rfl (v_slS st9 rfl (.inr ⟨_, rfl, rfl⟩) (.inr ⟨_, rfl, rfl⟩) q23.1 q23.2.1 q23.2.2) ?_
      refine rd_v rfl (v_fa rfl GTok.f0 fd105_0) ?_
      refine rd_t rfl rfl (t_storeC (y' := ((GTok.mk (3 : Int) (Str.mk []) a_i) : GTok)) ty3 rfl rfl (fun _ _ h => h) .here rfl ?_)
      refine rd_v rfl (v_fa rfl GTok.f1 fd105_1) ?_
      refine rd_t rfl rfl (t_storeC (y' := ((GTok.mk (3 : Int) (Str.mk ((a_s.b.take (y22).toNat).drop (a_i).toNat)) a_i) : GTok)) ty9 rfl rfl (fun _ _ h => h) .here rfl ?_)
      refine rd_nil ?_
      refine fin_block ?_
      exact hJ5 _ () h _ (join_imp 20 rfl rfl (mod_cons (j := 8) rfl (fun _ _ h => h) mod_nil) (.cons .here (.cons .here .nil)))
    ·
     refine wsr ?_
     refine oV (v_move rfl) ?_
     refine oV (v_eqA eq5 rfl rfl) ?_
     refine oV (v_assign rfl) ?_
     refine rnf ?_
     refine w_condM h rfl (fun _ h => ?_) (fun _ h => ?_)
     ·
      refine wsr ?_
      refine oV (v_fa rfl GTok.f0 fd105_0) ?_
      refine oT (t_storeC (y' := ((GTok.mk (4 : Int) (Str.mk []) a_i) : GTok)) ty3 rfl rfl (fun _ _ h => h) .here rfl ?_)
      refine rnf ?_
      refine w_region ?_
      refine oV (v_move rfl) ?_
      refine oV (v_move rfl) ?_
      refine cal_inv h fun y24 hy24 h => ?_
      refine oT (t_call (r04_hex_w hy24) hT (.same rfl (.same rfl .nil)) .nil (fun R H' hR => ?_))
      obtain ⟨rfl, rfl⟩ := hR
      refine oV (v_move rfl) ?_
      refine oV (v_extract rfl rfl) ?_
      refine oV (v_extract rfl rfl) ?_
      refine oV (v_assign rfl) ?_
      refine oV (v_fa rfl GTok.f1 fd105_1) ?_
      refine oT (t_storeC (y' := ((GTok.mk (4 : Int) y24.2 a_i) : GTok)) ty9 rfl rfl (fun _ _ h => h) .here rfl ?_)
      refine rl_nil ?_
      refine fin_block ?_
      exact hJ5 _ () h _ (join_imp 20 rfl rfl (mod_cons (j := 8) rfl (fun _ _ h => h) mod_nil) (.cons .here (.cons .here .nil)))
     ·
      refine wsr ?_
      refine oV (v_move rfl) ?_
      refine oV (v_eqA eq5 rfl rfl) ?_
      refine oV (v_assign rfl) ?_
      refine rnf ?_
      refine w_condM h rfl (fun _ h => ?_) (fun _ h => ?_)
      ·
       refine wsr ?_
       refine oV (v_fa rfl GTok.f0 fd105_0) ?_
       refine oT (t_storeC (y' := ((GTok.mk (7 : Int) (Str.mk []) a_i) : GTok)) ty3 rfl rfl (fun _ _ h => h) .here rfl ?_)
       refine rnf ?_
       refine w_region ?_
       refine oV (v_move rfl) ?_
       refine oV (v_move rfl) ?_
       refine cal_inv h fun y25 hy25 h => ?_
       refine oT (t_call (r04_quoted_w hy25) hT (.same rfl (.same rfl .nil)) .nil (fun R H' hR => ?_))
       obtain ⟨rfl, rfl⟩ := hR
       refine oV (v_move rfl) ?_
       refine oV (v_extract rfl rfl) ?_
       refine oV (v_extract rfl rfl) ?_
       refine oV (v_assign rfl) ?_
       refine oV (v_fa rfl GTok.f1 fd105_1) ?_
       refine oT (t_storeC (y' := ((GTok.mk (7 : Int) y25.2 a_i) : GTok)) ty9 rfl rfl (fun _ _ h => h) .here rfl ?_)
       refine rl_nil ?_
       refine fin_block ?_
       exact hJ5 _ () h _ (join_imp 23 rfl rfl (mod_cons (j := 8) rfl (fun _ _ h => h) mod_nil) (.cons .here (.cons .here .nil)))
      ·
       refine wsr ?_
       refine oV (v_move rfl) ?_
       refine oV (v_move rfl) ?_
       refine cal_inv h fun y26 hy26 h => ?_
       refine oT (t_call (r04_sign_w hy26) hT (.same rfl (.same rfl .nil)) .nil (fun R H' hR => ?_))
       obtain ⟨rfl, rfl⟩ := hR
       refine oV (v_assign rfl) ?_
       refine rnf ?_
       refine wsr ?_
       refine oV (v_move rfl) ?_
       refine oV (v_gtr rfl rfl) ?_
       refine rnf ?_
       refine w_condM h rfl (fun _ h => ?_) (fun _ h => ?_)
       ·
        refine w_regionD (.v 0 (.v 1 (.v 2 (.v 3 (.v 4 (.v 5 (.v 6 (.v 7 (.v 8 (.v 9 (.t 10 (.v 11 (.t 12 (.v 13 .nil)))))))))))))) moOrd (by kernel_rfl) ?_
        refine rd_v rfl (v_move rfl) ?_
        refine rd_v rfl (v_move rfl) ?_
        refine rd_v rfl (v_move rfl) ?_
        refine rd_v rfl (v_move rfl) ?_
        refine ck_inv h fun q27 h => ?_
        refine rd_v rfl (v_add rfl rfl q27) ?_
        refine asd_inv h fun q28 h => ?_
        refine rd_v rfl (v_slS st9 rfl (.inr ⟨_, rfl, rfl⟩) (.inr ⟨_, rfl, rfl⟩) q28.1 q28.2.1 q28.2.2) ?_
        refine rd_v rfl (v_move rfl) ?_
        refine rd_v rfl (v_move rfl) ?_
        refine ck_inv h fun q29 h => ?_
        refine rd_v rfl (v_add rfl rfl q29) ?_
        refine rd_v rfl (v_fa rfl GTok.f0 fd105_0) ?_
        refine rd_t rfl rfl (t_storeC (y' := ((GTok.mk (6 : Int) (Str.mk []) a_i) : GTok)) ty3 rfl rfl (fun _ _ h => h) .here rfl ?_)
        refine rd_v rfl (v_fa rfl GTok.f1 fd105_1) ?_
        refine rd_t rfl rfl (t_storeC (y' := ((GTok.mk (6 : Int) (Str.mk ((a_s.b.take ((a_i + y26)).toNat).drop (a_i).toNat)) a_i) : GTok)) ty9 rfl rfl (fun _ _ h => h) .here rfl ?_)
        refine rd_v rfl (v_assign rfl) ?_
        refine rd_nil ?_
        refine fin_block ?_
        exact hJ5 _ () h _ (join_imp 32 rfl rfl (mod_cons (j := 8) rfl (fun _ _ h => h) mod_nil) (.cons .here (.cons .here .nil)))
       ·
        refine w_skip ?_
        refine fin_block ?_
        exact hJ5 _ () h _ (join_imp 20 rfl rfl (mod_cons (j := 8) rfl (fun _ _ h => h) mod_nil) (.cons .here (.cons .here .nil)))
   ·
    refine rl_condM (j := 56) h rfl (fun g15 h => ?_) (fun g15 h => ?_)
    ·
     refine op_pass rfl (dj := 56) rfl g15 ?_
     refine op_pass rfl (dj := 56) rfl g15 ?_
     refine op_pass rfl (dj := 56) rfl g15 ?_
     refine op_passU rfl (dj := 59) rfl ?_
     refine op_passU rfl (dj := 59) rfl ?_
     refine op_passU rfl (dj := 59) rfl ?_
     refine op_passU rfl (dj := 59) rfl ?_
     refine op_passU rfl (dj := 59) rfl ?_
     refine op_pass rfl (dj := 56) rfl g15 ?_
     refine oV (v_pick_t rfl g15 rfl) ?_
     exact hJ14 _ () h _ (join_imp 10 rfl rfl (mod_cons (j := 66) rfl (fun _ _ h => h) mod_nil) (.cons .here (.cons .here .nil)))
    ·
     refine op_take rfl rfl (dj := 56) rfl g15 (OpV.t (v_move rfl) ?_)
     refine op_take rfl rfl (dj := 56) rfl g15 (OpV.t (v_eqA eq5 rfl rfl) ?_)
     refine op_take rfl rfl (dj := 56) rfl g15 (OpV.t (v_move rfl) ?_)
     refine rl_j (ι := Bool) (γ := Unit) (fun q16 g16 => [(65, isv (q16))]) (fun q16 g16 => []) .nil h 6 rfl (fun q16 g16 h => ?_) (fun J17 h hJ17 => ?_)
     ·
      refine oV (v_pick_f rfl g15 rfl) ?_
      exact hJ14 _ () h _ (join_imp 5 rfl rfl (mod_cons (j := 66) rfl (fun _ _ h => h) mod_nil) (.cons .here (.cons .here .nil)))
     ·
      refine rl_condM (j := 59) h rfl (fun g18 h => ?_) (fun g18 h => ?_)
      ·
       refine op_take rfl rfl (dj := 59) rfl g18 (OpV.t (v_move rfl) ?_)
       refine op_take rfl rfl (dj := 59) rfl g18 (OpV.t (v_move rfl) ?_)
       refine ck_inv h fun q19 h => ?_
       refine op_take rfl rfl (dj := 59) rfl g18 (OpV.t (v_add rfl rfl q19) ?_)
       refine cal_inv h fun y20 hy20 h => ?_
       refine op_take rfl rfl (dj := 59) rfl g18 (t_call (r04_at_w hy20) hT (.same rfl (.same rfl .nil)) .nil (fun R H' hR => ?_))
       obtain ⟨rfl, rfl⟩ := hR
       refine cal_inv h fun y21 hy21 h => ?_
       refine op_take rfl rfl (dj := 59) rfl g18 (t_call (r04_digit_w hy21) hT (.same rfl .nil) .nil (fun R H' hR => ?_))
       obtain ⟨rfl, rfl⟩ := hR
       refine op_take rfl rfl (dj := 56) rfl g15 (OpV.t (v_pick_t rfl g18 rfl) ?_)
       exact hJ17 _ () h _ (join_imp 6 rfl rfl (mod_cons (j := 65) rfl (fun _ _ h => h) mod_nil) (.cons .here (.cons .here .nil)))
      ·
       refine op_pass rfl (dj := 59) rfl g18 ?_
       refine op_pass rfl (dj := 59) rfl g18 ?_
       refine op_pass rfl (dj := 59) rfl g18 ?_
       refine op_pass rfl (dj := 59) rfl g18 ?_
       refine op_pass rfl (dj := 59) rfl g18 ?_
       refine op_take rfl rfl (dj := 56) rfl g15 (OpV.t (v_pick_f rfl g18 rfl) ?_)
       exact hJ17 _ () h _ (join_imp 6 rfl rfl (mod_cons (j := 65) rfl (fun _ _ h => h) mod_nil) (.cons .here (.cons .here .nil)))

end Go.Proofs.YtajbipkppngccaaDoor


namespace Go.Proofs.YtajbipkppngccaaDoor
open Go.Sy
set_option maxRecDepth 4000
theorem r04_Tokens_w : ∀ {a_text : Str} {r : (List GTok) × Int × Int}, r04_Tokens a_text = some r → Ctr Tryd.prog 50 [isv (a_text)] [] (fun R H => R = oneOf [isv (r.1), isv (r.2.1), isv (r.2.2)] ∧ H = []) := by
 intro a_text r h
 unfold r04_Tokens at h
 refine spec_intro Tryd.func50 rfl (by decide +kernel) (by rfl) fun w0 S0 hT => ?_
 refine wsr ?_
 refine oV (v_assign rfl) ?_
 refine oV (v_assign rfl) ?_
 refine oV (v_assign rfl) ?_
 refine rnf ?_
 refine w_seq ?_
 refine wsr ?_
 refine oV (v_move rfl) ?_
 refine oV (v_lenS st9 rfl) ?_
 refine oV (v_gtr rfl rfl) ?_
 refine rnf ?_
 refine w_condM h rfl (fun _ h => ?_) (fun _ h => ?_)
 ·
  refine wsr ?_
  refine oV (v_assign rfl) ?_
  refine oV (v_assign rfl) ?_
  refine oV (v_assign rfl) ?_
  refine rnf ?_
  refine w_ret ?_
  refine ret_nxt ?_
  refine ret_post (.as rfl (nilv_isv (α := GTok)) (.tmp rfl (.tmp rfl .nil))) .nil ?_
  obtain rfl := Option.some.inj h
  exact ⟨rfl, rfl⟩
 ·
  refine wkf ?_
  refine wsr ?_
  refine oV (v_assign rfl) ?_
  refine rnf ?_
  refine wsr ?_
  refine oV (v_assign rfl) ?_
  refine rnf ?_
  refine w_block ?_
  refine w_upd (upd_tok) ?_
  refine w_lp (ι := (List GTok) × Int) (γ := Tok) (fun q1 g1 => [(5, appv g1 (q1.1)), (6, isv (q1.2))]) (fun q1 g1 => [tokE g1]) h (none) (mod_cons (j := 5) rfl nilv_appv (mod_cons (j := 6) rfl (fun _ _ h => h) mod_nil)) (.cons .here .nil) (fun L2 q1 g1 Q22 h hL2 eL2 rL2 => ?_)
  refine w_block ?_
  refine wsr ?_
  refine oV (v_move rfl) ?_
  refine oV (v_move rfl) ?_
  refine cal_inv h fun y12 hy12 h => ?_
  refine oT (t_call (r04_white_w hy12) hT (.same rfl (.same rfl .nil)) .nil (fun R H' hR => ?_))
  obtain ⟨rfl, rfl⟩ := hR
  refine oV (v_assign rfl) ?_
  refine rnf ?_
  refine w_seq ?_
  refine wsr ?_
  refine oV (v_move rfl) ?_
  refine oV (v_move rfl) ?_
  refine oV (v_lenS st9 rfl) ?_
  refine oV (v_geq rfl rfl) ?_
  refine rnf ?_
  refine w_condM h rfl (fun _ h => ?_) (fun _ h => ?_)
  ·
   refine wsr ?_
   refine oV (v_move rfl) ?_
   refine oV (v_move rfl) ?_
   refine oV (v_lenS st9 rfl) ?_
   refine oV (v_build (z := (GTok.mk (0 : Int) (Str.mk []) (a_text.b.length : Int))) rfl bu105 ze105 (.cons GTok.f2 fd105_2 rfl (fun _ _ h => h) .nil)) ?_
   refine oT (t_buildSlice (l := ([(GTok.mk (0 : Int) (Str.mk []) (a_text.b.length : Int))] : (List GTok))) el96 (.cons rfl (fun _ _ h => h) .nil) rfl rfl ?_)
   refine asr_inv h fun q15 h => ?_
   refine oT (t_appC (l := q1.1) (m := ([(GTok.mk (0 : Int) (Str.mk []) (a_text.b.length : Int))] : (List GTok))) ap96_96 rfl (fun _ _ h => h) rfl appv_isv .here q15 fun t14 => ?_)
   refine oV (v_assign rfl) ?_
   refine oV (v_assign rfl) ?_
   refine oV (v_assign rfl) ?_
   refine rnf ?_
   refine w_ret ?_
   refine ret_nxt ?_
   refine ret_block ?_
   refine rL2 _ ?_
   refine ret_block ?_
   refine ret_post (.as rfl appv_isv (.tmp rfl (.tmp rfl .nil))) .nil ?_
   obtain rfl := Option.some.inj h
   exact ⟨rfl, rfl⟩
  ·
   refine wkf ?_
   refine wsr ?_
   refine oV (v_move rfl) ?_
   refine oV (v_move rfl) ?_
   refine cal_inv h fun y16 hy16 h => ?_
   refine oT (t_call (r04_one_w hy16) hT (.same rfl (.same rfl .nil)) .nil (fun R H' hR => ?_))
   obtain ⟨rfl, rfl⟩ := hR
   refine oV (v_move rfl) ?_
   refine oV (v_extract rfl rfl) ?_
   refine oV (v_extract rfl rfl) ?_
   refine oT (t_alloc _ ze105 fun b17 => ?_)
   refine oT (t_storeC (y' := (y16.1 : GTok)) ty105 rfl rfl (fun _ _ h => h) .here rfl ?_)
   refine rl_upd (upd_imm 7 .here rfl) ?_
   refine oV (v_assign rfl) ?_
   refine rnf ?_
   refine w_seq ?_
   refine wsr ?_
   refine oV (v_move rfl) ?_
   refine oV (v_lss rfl rfl) ?_
   refine rnf ?_
   refine w_condM h rfl (fun _ h => ?_) (fun _ h => ?_)
   ·
    refine wsr ?_
    refine oV (v_move rfl) ?_
    refine oV (v_assign rfl) ?_
    refine oV (v_assign rfl) ?_
    refine oV (v_assign rfl) ?_
    refine rnf ?_
    refine w_ret ?_
    refine ret_nxt ?_
    refine ret_block ?_
    refine rL2 _ ?_
    refine ret_block ?_
    refine ret_post (.as rfl (nilv_isv (α := GTok)) (.tmp rfl (.tmp rfl .nil))) .nil ?_
    obtain rfl := Option.some.inj h
    exact ⟨rfl, rfl⟩
   ·
    refine wkf ?_
    refine wsr ?_
    refine oV (v_move rfl) ?_
    refine oV (v_loadI ty105 rfl) ?_
    refine oT (t_buildSlice (l := ([y16.1] : (List GTok))) el96 (.cons rfl (fun _ _ h => h) .nil) rfl rfl ?_)
    refine asr_inv h fun q20 h => ?_
    refine oT (t_appC (l := q1.1) (m := ([y16.1] : (List GTok))) ap96_96 rfl (fun _ _ h => h) rfl appv_isv .here q20 fun t19 => ?_)
    refine oV (v_assign rfl) ?_
    refine rnf ?_
    refine w_region ?_
    refine oV (v_move rfl) ?_
    refine oV (v_assign rfl) ?_
    refine rl_nil ?_
    refine fin_block ?_
    exact hL2 _ (t19) h _ (join_imp 28 rfl rfl (mod_cons (j := 5) rfl (fun _ _ h => h) (mod_cons (j := 6) rfl (fun _ _ h => h) mod_nil)) (.cons .here .nil))


theorem r05_parser_now_w : ∀ {a_x : GPar} {b_a_x : Nat} {t_a_x1 : Tok} {t_a_x2 : Tok} {v_a_x3 : Vt} {r : GTok × GPar}, r05_parser_now a_x = some r → Ctr Tryd.prog 54 [ptrv b_a_x (Fld.id ((List GTok) × Int × (Str × Int × (TList Str) × (TList Int) × Vh) × Int × Int))] [boxE b_a_x ((a_x.l, a_x.at_, (a_x.m.name, a_x.m.tagging, (TList.mk t_a_x1 a_x.m.names), (TList.mk t_a_x2 a_x.m.types), (Vh.mk v_a_x3 a_x.m.nodes.length)), a_x.e, a_x.p) : ((List GTok) × Int × (Str × Int × (TList Str) × (TList Int) × Vh) × Int × Int)), tokE t_a_x1, tokE t_a_x2, vecE v_a_x3 (a_x.m.nodes : List GNode)] (fun R H => ∃ u1 : Tok, ∃ u2 : Tok, R = oneOf [isv (r.1)] ∧ H = [boxE b_a_x ((r.2.l, r.2.at_, (r.2.m.name, r.2.m.tagging, (TList.mk u1 r.2.m.names), (TList.mk u2 r.2.m.types), (Vh.mk v_a_x3 r.2.m.nodes.length)), r.2.e, r.2.p)), tokE u1, tokE u2, vecE v_a_x3 (r.2.m.nodes)]) := by
 intro a_x b_a_x t_a_x1 t_a_x2 v_a_x3 r h
 unfold r05_parser_now at h
 refine spec_intro Tryd.func54 rfl (by decide +kernel) (by rfl) fun w0 S0 hT => ?_
 refine wsr ?_
 refine oT (t_alloc _ ze105 fun b4 => ?_)
 refine rnf ?_
 refine w_seq ?_
 refine w_pinN 0 (.there .here) rfl (fun o5 hn6 => ?_)
 refine w_regionD (.v 0 (.v 1 (.v 2 (.v 3 (.v 4 (.v 5 (.v 6 (.v 7 (.v 8 (.v 9 (.t 10 .nil))))))))))) moOrd (by kernel_rfl) ?_
 refine rd_v rfl (v_move rfl) ?_
 refine rd_v rfl (v_nilCheckP rfl) ?_
 refine rd_v rfl (v_fp rfl pt101_0_0 fd101_0) ?_
 refine rd_v rfl (v_lpC (R := isv (a_x.l)) ty96 rfl (List.Mem.head _) (fun _ _ h => h)) ?_
 refine rd_v rfl (v_move rfl) ?_
 refine rd_v rfl (v_nilCheckP rfl) ?_
 refine rd_v rfl (v_fp rfl pt101_0_1 fd101_1) ?_
 refine rd_v rfl (v_lpC (R := isv (a_x.at_)) ty3 rfl (List.Mem.head _) (fun _ _ h => h)) ?_
 refine cal_inv h fun y7 hy7 h => ?_
 refine rd_v rfl (v_ix (l := a_x.l) rfl (fun _ _ h => h) rfl sl96 hy7) ?_
 refine rd_v rfl (v_loadI ty105 rfl) ?_
 refine rd_t rfl rfl (t_storeC (y' := (y7 : GTok)) ty105 rfl rfl (fun _ _ h => h) .here rfl ?_)
 refine rd_nil ?_
 refine fin_unpinN 0 hn6 rfl ?_
 refine fin_nxt ?_
 refine w_ret ?_
 refine ret_post (.cell rfl (.there .here) ty105 .nil) (.cons .here (.cons (.there .here) (.cons (.there .here) (.cons (.there .here) .nil)))) ?_
 obtain rfl := Option.some.inj h
 exact ⟨t_a_x1, t_a_x2, rfl, rfl⟩


theorem r05_parser_fail_w : ∀ {a_x : GPar} {a_e : Int} {a_t : GTok} {b_a_x : Nat} {t_a_x1 : Tok} {t_a_x2 : Tok} {v_a_x3 : Vt} {r : GPar}, r05_parser_fail a_x a_e a_t = some r → Ctr Tryd.prog 55 [ptrv b_a_x (Fld.id ((List GTok) × Int × (Str × Int × (TList Str) × (TList Int) × Vh) × Int × Int)), isv (a_e), isv (a_t)] [boxE b_a_x ((a_x.l, a_x.at_, (a_x.m.name, a_x.m.tagging, (TList.mk t_a_x1 a_x.m.names), (TList.mk t_a_x2 a_x.m.types), (Vh.mk v_a_x3 a_x.m.nodes.length)), a_x.e, a_x.p) : ((List GTok) × Int × (Str × Int × (TList Str) × (TList Int) × Vh) × Int × Int)), tokE t_a_x1, tokE t_a_x2, vecE v_a_x3 (a_x.m.nodes : List GNode)] (fun R H => ∃ u1 : Tok, ∃ u2 : Tok, R = oneOf [] ∧ H = [boxE b_a_x ((r.l, r.at_, (r.m.name, r.m.tagging, (TList.mk u1 r.m.names), (TList.mk u2 r.m.types), (Vh.mk v_a_x3 r.m.nodes.length)), r.e, r.p)), tokE u1, tokE u2, vecE v_a_x3 (r.m.nodes)]) := by
 intro a_x a_e a_t b_a_x t_a_x1 t_a_x2 v_a_x3 r h
 unfold r05_parser_fail at h
 refine spec_intro Tryd.func55 rfl (by decide +kernel) (by rfl) fun w0 S0 hT => ?_
 refine wsr ?_
 refine oT (t_boxIC (y := a_t) rfl (fun _ _ h => h) ?_)
 refine rnf ?_
 refine wsr ?_
 refine oV (v_move rfl) ?_
 refine oV (v_nilCheck rfl) ?_
 refine oV (v_fa rfl pt101_0_3 fd101_3) ?_
 refine oT (t_loadC (R := isv (a_x.e)) ty30 rfl .here (fun _ _ h => h) ?_)
 refine oV (v_eql rfl rfl) ?_
 refine rnf ?_
 refine w_condM h rfl (fun _ h => ?_) (fun _ h => ?_)
 ·
  refine w_regionD (.v 0 (.v 1 (.v 2 (.v 3 (.v 4 (.v 5 (.v 6 (.t 7 (.v 8 (.v 9 (.t 10 .nil))))))))))) moOrd (by kernel_rfl) ?_
  refine rd_v rfl (v_move rfl) ?_
  refine rd_v rfl (v_move rfl) ?_
  refine rd_v rfl (v_move rfl) ?_
  refine rd_v rfl (v_fi rfl GTok.f2 fd105_2 rfl (z := a_t.at_)) ?_
  refine rd_v rfl (v_loadI ty3 rfl) ?_
  refine rd_v rfl (v_nilCheck rfl) ?_
  refine rd_v rfl (v_fa rfl pt101_0_3 fd101_3) ?_
  refine rd_t rfl rfl (t_storeC (y' := ((a_x.l, a_x.at_, (a_x.m.name, a_x.m.tagging, (TList.mk t_a_x1 a_x.m.names), (TList.mk t_a_x2 a_x.m.types), (Vh.mk v_a_x3 a_x.m.nodes.length)), a_e, a_x.p) : ((List GTok) × Int × (Str × Int × (TList Str) × (TList Int) × Vh) × Int × Int))) ty30 rfl rfl (fun _ _ h => h) .here rfl ?_)
  refine rd_v rfl (v_nilCheck rfl) ?_
  refine rd_v rfl (v_fa rfl pt101_0_4 fd101_4) ?_
  refine rd_t rfl rfl (t_storeC (y' := ((a_x.l, a_x.at_, (a_x.m.name, a_x.m.tagging, (TList.mk t_a_x1 a_x.m.names), (TList.mk t_a_x2 a_x.m.types), (Vh.mk v_a_x3 a_x.m.nodes.length)), a_e, a_t.at_) : ((List GTok) × Int × (Str × Int × (TList Str) × (TList Int) × Vh) × Int × Int))) ty3 rfl rfl (fun _ _ h => h) .here rfl ?_)
  refine rd_nil ?_
  refine fin_post .nil (.cons .here (.cons .here (.cons .here (.cons .here .nil)))) ?_
  obtain rfl := Option.some.inj h
  exact ⟨t_a_x1, t_a_x2, rfl, rfl⟩
 ·
  refine w_skip ?_
  refine fin_post .nil (.cons .here (.cons .here (.cons .here (.cons .here .nil)))) ?_
  obtain rfl := Option.some.inj h
  exact ⟨t_a_x1, t_a_x2, rfl, rfl⟩


theorem r05_parser_next_w : ∀ {a_x : GPar} {b_a_x : Nat} {t_a_x1 : Tok} {t_a_x2 : Tok} {v_a_x3 : Vt} {r : GTok × GPar}, r05_parser_next a_x = some r → Ctr Tryd.prog 77 [ptrv b_a_x (Fld.id ((List GTok) × Int × (Str × Int × (TList Str) × (TList Int) × Vh) × Int × Int))] [boxE b_a_x ((a_x.l, a_x.at_, (a_x.m.name, a_x.m.tagging, (TList.mk t_a_x1 a_x.m.names), (TList.mk t_a_x2 a_x.m.types), (Vh.mk v_a_x3 a_x.m.nodes.length)), a_x.e, a_x.p) : ((List GTok) × Int × (Str × Int × (TList Str) × (TList Int) × Vh) × Int × Int)), tokE t_a_x1, tokE t_a_x2, vecE v_a_x3 (a_x.m.nodes : List GNode)] (fun R H => ∃ u1 : Tok, ∃ u2 : Tok, R = oneOf [isv (r.1)] ∧ H = [boxE b_a_x ((r.2.l, r.2.at_, (r.2.m.name, r.2.m.tagging, (TList.mk u1 r.2.m.names), (TList.mk u2 r.2.m.types), (Vh.mk v_a_x3 r.2.m.nodes.length)), r.2.e, r.2.p)), tokE u1, tokE u2, vecE v_a_x3 (r.2.m.nodes)]) := by
 intro a_x b_a_x t_a_x1 t_a_x2 v_a_x3 r h
 unfold r05_parser_next at h
 refine spec_intro Tryd.func77 rfl (by decide +kernel) (by rfl) fun w0 S0 hT => ?_
 refine wsr ?_
 refine oT (t_alloc _ ze105 fun b4 => ?_)
 refine rnf ?_
 refine w_seq ?_
 refine w_pinN 0 (.there .here) rfl (fun o5 hn6 => ?_)
 refine w_regionD (.v 0 (.v 1 (.v 2 (.v 3 (.v 4 (.v 5 (.v 6 (.v 7 (.v 8 (.v 9 (.t 10 (.t 11 .nil)))))))))))) moOrd (by kernel_rfl) ?_
 refine rd_v rfl (v_move rfl) ?_
 refine rd_v rfl (v_nilCheckP rfl) ?_
 refine rd_v rfl (v_fp rfl pt101_0_0 fd101_0) ?_
 refine rd_v rfl (v_lpC (R := isv (a_x.l)) ty96 rfl (List.Mem.head _) (fun _ _ h => h)) ?_
 refine rd_v rfl (v_move rfl) ?_
 refine rd_v rfl (v_nilCheckP rfl) ?_
 refine rd_v rfl (v_fp rfl pt101_0_1 fd101_1) ?_
 refine rd_v rfl (v_lpC (R := isv (a_x.at_)) ty3 rfl (List.Mem.head _) (fun _ _ h => h)) ?_
 refine cal_inv h fun y7 hy7 h => ?_
 refine rd_v rfl (v_ix (l := a_x.l) rfl (fun _ _ h => h) rfl sl96 hy7) ?_
 refine rd_v rfl (v_loadI ty105 rfl) ?_
 refine rd_t rfl rfl (t_alloc _ ze105 fun b8 => ?_)
 refine rd_t rfl rfl (t_storeC (y' := (y7 : GTok)) ty105 rfl rfl (fun _ _ h => h) .here rfl ?_)
 refine rd_upd (upd_imm 3 .here rfl) ?_
 refine rd_nil ?_
 refine fin_unpinN 0 hn6 rfl ?_
 refine fin_nxt ?_
 refine w_seq ?_
 refine w_seq ?_
 refine w_pinN 0 .here rfl (fun o9 hn10 => ?_)
 refine w_regionD (.v 0 (.v 1 (.v 2 (.v 3 (.v 4 (.v 5 (.v 6 (.v 7 (.v 8 (.v 9 (.v 10 .nil))))))))))) moOrd (by kernel_rfl) ?_
 refine rd_v rfl (v_move rfl) ?_
 refine rd_v rfl (v_nilCheckP rfl) ?_
 refine rd_v rfl (v_fp rfl pt101_0_1 fd101_1) ?_
 refine rd_v rfl (v_lpC (R := isv (a_x.at_)) ty3 rfl (List.Mem.head _) (fun _ _ h => h)) ?_
 refine ck_inv h fun q11 h => ?_
 refine rd_v rfl (v_add rfl rfl q11) ?_
 refine rd_v rfl (v_move rfl) ?_
 refine rd_v rfl (v_nilCheckP rfl) ?_
 refine rd_v rfl (v_fp rfl pt101_0_0 fd101_0) ?_
 refine rd_v rfl (v_lpC (R := isv (a_x.l)) ty96 rfl (List.Mem.head _) (fun _ _ h => h)) ?_
 refine rd_v rfl (v_ln (l := a_x.l) rfl (fun _ _ h => h) sl96) ?_
 refine rd_v rfl (v_lss rfl rfl) ?_
 refine rd_nil ?_
 refine fin_unpinN 0 hn10 rfl ?_
 refine fin_nxt ?_
 refine w_J (ι := GPar) (γ := Tok × Tok) (fun q12 g12 => []) (fun q12 g12 => [boxE b_a_x ((q12.l, q12.at_, (q12.m.name, q12.m.tagging, (TList.mk g12.1 q12.m.names), (TList.mk g12.2 q12.m.types), (Vh.mk v_a_x3 q12.m.nodes.length)), q12.e, q12.p) : ((List GTok) × Int × (Str × Int × (TList Str) × (TList Int) × Vh) × Int × Int)), tokE g12.1, tokE g12.2, vecE v_a_x3 (q12.m.nodes : List GNode)]) (.cons .here (.cons (.there .here) (.cons (.there .here) (.cons (.there .here) .nil)))) h (fun q12 g12 h => ?_) (fun J13 h hJ13 => ?_)
 ·
  refine wsr ?_
  refine oV (v_loadI ty105 rfl) ?_
  refine oT (t_storeC (y' := (y7 : GTok)) ty105 rfl rfl (fun _ _ h => h) (.there (.there (.there (.there .here)))) rfl ?_)
  refine rnf ?_
  refine w_ret ?_
  refine ret_post (.cell rfl .here ty105 .nil) (.cons (.there .here) (.cons (.there .here) (.cons (.there .here) (.cons (.there .here) .nil)))) ?_
  obtain rfl := Option.some.inj h
  exact ⟨g12.1, g12.2, rfl, rfl⟩
 ·
  refine w_condM h rfl (fun _ h => ?_) (fun _ h => ?_)
  ·
   refine w_region ?_
   refine oV (v_move rfl) ?_
   refine oV (v_nilCheck rfl) ?_
   refine oV (v_fa rfl pt101_0_1 fd101_1) ?_
   refine oT (t_loadC (R := isv (a_x.at_)) ty3 rfl .here (fun _ _ h => h) ?_)
   refine ck_inv h fun q14 h => ?_
   refine oV (v_add rfl rfl q14) ?_
   refine oV (v_nilCheck rfl) ?_
   refine oV (v_fa rfl pt101_0_1 fd101_1) ?_
   refine oT (t_storeC (y' := ((a_x.l, (a_x.at_ + (1 : Int)), (a_x.m.name, a_x.m.tagging, (TList.mk t_a_x1 a_x.m.names), (TList.mk t_a_x2 a_x.m.types), (Vh.mk v_a_x3 a_x.m.nodes.length)), a_x.e, a_x.p) : ((List GTok) × Int × (Str × Int × (TList Str) × (TList Int) × Vh) × Int × Int))) ty3 rfl rfl (fun _ _ h => h) .here rfl ?_)
   refine rl_nil ?_
   exact hJ13 _ (t_a_x1, t_a_x2) h _ (join_imp 7 rfl rfl mod_nil (.cons .here (.cons (.there .here) (.cons (.there .here) (.cons (.there .here) (.cons .here .nil))))))
  ·
   refine w_skip ?_
   exact hJ13 _ (t_a_x1, t_a_x2) h _ (join_imp 0 rfl rfl mod_nil (.cons .here (.cons (.there .here) (.cons (.there .here) (.cons (.there .here) (.cons .here .nil))))))


theorem r05_parser_kind_w : ∀ {a_x : GPar} {a_k : Int} {b_a_x : Nat} {t_a_x1 : Tok} {t_a_x2 : Tok} {v_a_x3 : Vt} {r : Str × GPar}, r05_parser_kind a_x a_k = some r → Ctr Tryd.prog 51 [ptrv b_a_x (Fld.id ((List GTok) × Int × (Str × Int × (TList Str) × (TList Int) × Vh) × Int × Int)), isv (a_k)] [boxE b_a_x ((a_x.l, a_x.at_, (a_x.m.name, a_x.m.tagging, (TList.mk t_a_x1 a_x.m.names), (TList.mk t_a_x2 a_x.m.types), (Vh.mk v_a_x3 a_x.m.nodes.length)), a_x.e, a_x.p) : ((List GTok) × Int × (Str × Int × (TList Str) × (TList Int) × Vh) × Int × Int)), tokE t_a_x1, tokE t_a_x2, vecE v_a_x3 (a_x.m.nodes : List GNode)] (fun R H => ∃ u1 : Tok, ∃ u2 : Tok, R = oneOf [isv (r.1)] ∧ H = [boxE b_a_x ((r.2.l, r.2.at_, (r.2.m.name, r.2.m.tagging, (TList.mk u1 r.2.m.names), (TList.mk u2 r.2.m.types), (Vh.mk v_a_x3 r.2.m.nodes.length)), r.2.e, r.2.p)), tokE u1, tokE u2, vecE v_a_x3 (r.2.m.nodes)]) := by
 intro a_x a_k b_a_x t_a_x1 t_a_x2 v_a_x3 r h
 unfold r05_parser_kind at h
 refine spec_intro Tryd.func51 rfl (by decide +kernel) (by rfl) fun w0 S0 hT => ?_
 refine wsr ?_
 refine oV (v_assign rfl) ?_
 refine rnf ?_
 refine wsr ?_
 refine oV (v_move rfl) ?_
 refine cal_inv h fun y4 hy4 h => ?_
 refine oT (t_call (r05_parser_now_w hy4) hT (.same rfl .nil) (.cons .here (.cons .here (.cons .here (.cons .here .nil)))) (fun R H' hR => ?_))
 obtain ⟨t5, t6, rfl, rfl⟩ := hR
 refine oT (t_alloc _ ze105 fun b7 => ?_)
 refine oT (t_storeC (y' := (y4.1 : GTok)) ty105 rfl rfl (fun _ _ h => h) .here rfl ?_)
 refine rl_upd (upd_imm 5 .here rfl) ?_
 refine rnf ?_
 refine w_seq ?_
 refine wsr ?_
 refine oV (v_move rfl) ?_
 refine oV (v_nilCheck rfl) ?_
 refine oV (v_fa rfl pt101_0_3 fd101_3) ?_
 refine oT (t_loadC (R := isv (y4.2.e)) ty30 rfl .here (fun _ _ h => h) ?_)
 refine oV (v_neq rfl rfl) ?_
 refine oV (v_move rfl) ?_
 refine rl_j (ι := Bool) (γ := Unit) (fun q8 g8 => [(18, isv (q8))]) (fun q8 g8 => []) .nil h 5 rfl (fun q8 g8 h => ?_) (fun J9 h hJ9 => ?_)
 ·
  refine rnf ?_
  refine w_condM h rfl (fun _ h => ?_) (fun _ h => ?_)
  ·
   refine wsr ?_
   refine oV (v_move rfl) ?_
   refine oV (v_loadI ty105 rfl) ?_
   refine cal_inv h fun y11 hy11 h => ?_
   refine oT (t_call (r05_parser_fail_w hy11) hT (.same rfl (.same rfl (.same rfl .nil))) (.cons .here (.cons .here (.cons .here (.cons .here .nil)))) (fun R H' hR => ?_))
   obtain ⟨t12, t13, rfl, rfl⟩ := hR
   refine rnf ?_
   refine wsr ?_
   refine oV (v_assign rfl) ?_
   refine rnf ?_
   refine w_ret ?_
   refine ret_nxt ?_
   refine ret_post (.tmp rfl .nil) (.cons .here (.cons .here (.cons .here (.cons .here .nil)))) ?_
   obtain rfl := Option.some.inj h
   exact ⟨t12, t13, rfl, rfl⟩
  ·
   refine wkf ?_
   refine wsr ?_
   refine oV (v_move rfl) ?_
   refine cal_inv h fun y14 hy14 h => ?_
   refine oT (t_call (r05_parser_next_w hy14) hT (.same rfl .nil) (.cons .here (.cons .here (.cons .here (.cons .here .nil)))) (fun R H' hR => ?_))
   obtain ⟨t15, t16, rfl, rfl⟩ := hR
   refine oV (v_field GTok.f1 rfl fd105_1 rfl) ?_
   refine oV (v_assign rfl) ?_
   refine rnf ?_
   refine w_ret ?_
   refine ret_post (.tmp rfl .nil) (.cons .here (.cons .here (.cons .here (.cons .here .nil)))) ?_
   obtain rfl := Option.some.inj h
   exact ⟨t15, t16, rfl, rfl⟩
 ·
  refine rl_condM (j := 13) h rfl (fun g10 h => ?_) (fun g10 h => ?_)
  ·
   refine op_pass rfl (dj := 13) rfl g10 ?_
   refine op_pass rfl (dj := 13) rfl g10 ?_
   refine op_pass rfl (dj := 13) rfl g10 ?_
   refine op_pass rfl (dj := 13) rfl g10 ?_
   refine oV (v_pick_t rfl g10 rfl) ?_
   exact hJ9 _ () h _ (join_imp 5 rfl rfl (mod_cons (j := 18) rfl (fun _ _ h => h) mod_nil) (.cons .here (.cons .here (.cons .here (.cons .here .nil)))))
  ·
   refine op_take rfl rfl (dj := 13) rfl g10 (OpV.t (v_fi rfl GTok.f0 fd105_0 rfl (z := y4.1.kind)) ?_)
   refine op_take rfl rfl (dj := 13) rfl g10 (OpV.t (v_loadI ty3 rfl) ?_)
   refine op_take rfl rfl (dj := 13) rfl g10 (OpV.t (v_move rfl) ?_)
   refine op_take rfl rfl (dj := 13) rfl g10 (OpV.t (v_neq rfl rfl) ?_)
   refine oV (v_pick_f rfl g10 rfl) ?_
   exact hJ9 _ () h _ (join_imp 5 rfl rfl (mod_cons (j := 18) rfl (fun _ _ h => h) mod_nil) (.cons .here (.cons .here (.cons .here (.cons .here .nil)))))


theorem r05_parser_is_w : ∀ {a_x : GPar} {a_s : Str} {b_a_x : Nat} {t_a_x1 : Tok} {t_a_x2 : Tok} {v_a_x3 : Vt} {r : Bool × GPar}, r05_parser_is a_x a_s = some r → Ctr Tryd.prog 53 [ptrv b_a_x (Fld.id ((List GTok) × Int × (Str × Int × (TList Str) × (TList Int) × Vh) × Int × Int)), isv (a_s)] [boxE b_a_x ((a_x.l, a_x.at_, (a_x.m.name, a_x.m.tagging, (TList.mk t_a_x1 a_x.m.names), (TList.mk t_a_x2 a_x.m.types), (Vh.mk v_a_x3 a_x.m.nodes.length)), a_x.e, a_x.p) : ((List GTok) × Int × (Str × Int × (TList Str) × (TList Int) × Vh) × Int × Int)), tokE t_a_x1, tokE t_a_x2, vecE v_a_x3 (a_x.m.nodes : List GNode)] (fun R H => ∃ u1 : Tok, ∃ u2 : Tok, R = oneOf [isv (r.1)] ∧ H = [boxE b_a_x ((r.2.l, r.2.at_, (r.2.m.name, r.2.m.tagging, (TList.mk u1 r.2.m.names), (TList.mk u2 r.2.m.types), (Vh.mk v_a_x3 r.2.m.nodes.length)), r.2.e, r.2.p)), tokE u1, tokE u2, vecE v_a_x3 (r.2.m.nodes)]) := by
 intro a_x a_s b_a_x t_a_x1 t_a_x2 v_a_x3 r h
 unfold r05_parser_is at h
 refine spec_intro Tryd.func53 rfl (by decide +kernel) (by rfl) fun w0 S0 hT => ?_
 refine wsr ?_
 refine oV (v_assign rfl) ?_
 refine rnf ?_
 refine wsr ?_
 refine oV (v_move rfl) ?_
 refine cal_inv h fun y4 hy4 h => ?_
 refine oT (t_call (r05_parser_now_w hy4) hT (.same rfl .nil) (.cons .here (.cons .here (.cons .here (.cons .here .nil)))) (fun R H' hR => ?_))
 obtain ⟨t5, t6, rfl, rfl⟩ := hR
 refine oT (t_alloc _ ze105 fun b7 => ?_)
 refine oT (t_storeC (y' := (y4.1 : GTok)) ty105 rfl rfl (fun _ _ h => h) .here rfl ?_)
 refine rl_upd (upd_imm 5 .here rfl) ?_
 refine rnf ?_
 refine w_seq ?_
 refine wsr ?_
 refine oV (v_move rfl) ?_
 refine oV (v_nilCheck rfl) ?_
 refine oV (v_fa rfl pt101_0_3 fd101_3) ?_
 refine oT (t_loadC (R := isv (y4.2.e)) ty30 rfl .here (fun _ _ h => h) ?_)
 refine oV (v_eql rfl rfl) ?_
 refine oV (v_move rfl) ?_
 refine rl_j (ι := Bool) (γ := Unit) (fun q8 g8 => [(22, isv (q8))]) (fun q8 g8 => []) .nil h 9 rfl (fun q8 g8 h => ?_) (fun J9 h hJ9 => ?_)
 ·
  refine oV (v_move rfl) ?_
  refine rl_j (ι := Bool) (γ := Unit) (fun q14 g14 => [(28, isv (q14))]) (fun q14 g14 => []) .nil h 5 rfl (fun q14 g14 h => ?_) (fun J15 h hJ15 => ?_)
  ·
   refine rnf ?_
   refine w_condM h rfl (fun _ h => ?_) (fun _ h => ?_)
   ·
    refine wsr ?_
    refine oV (v_move rfl) ?_
    refine cal_inv h fun y17 hy17 h => ?_
    refine oT (t_call (r05_parser_next_w hy17) hT (.same rfl .nil) (.cons .here (.cons .here (.cons .here (.cons .here .nil)))) (fun R H' hR => ?_))
    obtain ⟨t18, t19, rfl, rfl⟩ := hR
    refine rnf ?_
    refine wsr ?_
    refine oV (v_assign rfl) ?_
    refine rnf ?_
    refine w_ret ?_
    refine ret_nxt ?_
    refine ret_post (.tmp rfl .nil) (.cons .here (.cons .here (.cons .here (.cons .here .nil)))) ?_
    obtain rfl := Option.some.inj h
    exact ⟨t18, t19, rfl, rfl⟩
   ·
    refine wkf ?_
    refine wsr ?_
    refine oV (v_assign rfl) ?_
    refine rnf ?_
    refine w_ret ?_
    refine ret_post (.tmp rfl .nil) (.cons .here (.cons .here (.cons .here (.cons .here .nil)))) ?_
    obtain rfl := Option.some.inj h
    exact ⟨t5, t6, rfl, rfl⟩
  ·
   refine rl_condM (j := 23) h rfl (fun g16 h => ?_) (fun g16 h => ?_)
   ·
    refine op_take rfl rfl (dj := 23) rfl g16 (OpV.t (v_fi rfl GTok.f1 fd105_1 rfl (z := y4.1.text)) ?_)
    refine op_take rfl rfl (dj := 23) rfl g16 (OpV.t (v_loadI ty9 rfl) ?_)
    refine op_take rfl rfl (dj := 23) rfl g16 (OpV.t (v_move rfl) ?_)
    refine op_take rfl rfl (dj := 23) rfl g16 (OpV.t (v_eqA eq9 rfl rfl) ?_)
    refine oV (v_pick_t rfl g16 rfl) ?_
    exact hJ15 _ () h _ (join_imp 5 rfl rfl (mod_cons (j := 28) rfl (fun _ _ h => h) mod_nil) (.cons .here (.cons .here (.cons .here (.cons .here .nil)))))
   ·
    refine op_pass rfl (dj := 23) rfl g16 ?_
    refine op_pass rfl (dj := 23) rfl g16 ?_
    refine op_pass rfl (dj := 23) rfl g16 ?_
    refine op_pass rfl (dj := 23) rfl g16 ?_
    refine oV (v_pick_f rfl g16 rfl) ?_
    exact hJ15 _ () h _ (join_imp 5 rfl rfl (mod_cons (j := 28) rfl (fun _ _ h => h) mod_nil) (.cons .here (.cons .here (.cons .here (.cons .here .nil)))))
 ·
  refine rl_condM (j := 13) h rfl (fun g10 h => ?_) (fun g10 h => ?_)
  ·
   refine op_take rfl rfl (dj := 13) rfl g10 (OpV.t (v_fi rfl GTok.f0 fd105_0 rfl (z := y4.1.kind)) ?_)
   refine op_take rfl rfl (dj := 13) rfl g10 (OpV.t (v_loadI ty3 rfl) ?_)
   refine op_take rfl rfl (dj := 13) rfl g10 (OpV.t (v_eql rfl rfl) ?_)
   refine op_take rfl rfl (dj := 13) rfl g10 (OpV.t (v_move rfl) ?_)
   refine rl_j (ι := Bool) (γ := Unit) (fun q11 g11 => [(21, isv (q11))]) (fun q11 g11 => []) .nil h 4 rfl (fun q11 g11 h => ?_) (fun J12 h hJ12 => ?_)
   ·
    refine oV (v_pick_t rfl g10 rfl) ?_
    exact hJ9 _ () h _ (join_imp 6 rfl rfl (mod_cons (j := 22) rfl (fun _ _ h => h) mod_nil) (.cons .here (.cons .here (.cons .here (.cons .here .nil)))))
   ·
    refine rl_condM (j := 17) h rfl (fun g13 h => ?_) (fun g13 h => ?_)
    ·
     refine op_pass rfl (dj := 17) rfl g13 ?_
     refine op_pass rfl (dj := 17) rfl g13 ?_
     refine op_pass rfl (dj := 17) rfl g13 ?_
     refine op_take rfl rfl (dj := 13) rfl g10 (OpV.t (v_pick_t rfl g13 rfl) ?_)
     exact hJ12 _ () h _ (join_imp 4 rfl rfl (mod_cons (j := 21) rfl (fun _ _ h => h) mod_nil) (.cons .here (.cons .here (.cons .here (.cons .here .nil)))))
    ·
     refine op_take rfl rfl (dj := 17) rfl g13 (OpV.t (v_fi rfl GTok.f0 fd105_0 rfl (z := y4.1.kind)) ?_)
     refine op_take rfl rfl (dj := 17) rfl g13 (OpV.t (v_loadI ty3 rfl) ?_)
     refine op_take rfl rfl (dj := 17) rfl g13 (OpV.t (v_eql rfl rfl) ?_)
     refine op_take rfl rfl (dj := 13) rfl g10 (OpV.t (v_pick_f rfl g13 rfl) ?_)
     exact hJ12 _ () h _ (join_imp 4 rfl rfl (mod_cons (j := 21) rfl (fun _ _ h => h) mod_nil) (.cons .here (.cons .here (.cons .here (.cons .here .nil)))))
  ·
   refine op_pass rfl (dj := 13) rfl g10 ?_
   refine op_pass rfl (dj := 13) rfl g10 ?_
   refine op_pass rfl (dj := 13) rfl g10 ?_
   refine op_pass rfl (dj := 13) rfl g10 ?_
   refine op_passU rfl (dj := 17) rfl ?_
   refine op_passU rfl (dj := 17) rfl ?_
   refine op_passU rfl (dj := 17) rfl ?_
   refine op_pass rfl (dj := 13) rfl g10 ?_
   refine oV (v_pick_f rfl g10 rfl) ?_
   exact hJ9 _ () h _ (join_imp 9 rfl rfl (mod_cons (j := 22) rfl (fun _ _ h => h) mod_nil) (.cons .here (.cons .here (.cons .here (.cons .here .nil)))))


theorem r05_parser_must_w : ∀ {a_x : GPar} {a_s : Str} {b_a_x : Nat} {t_a_x1 : Tok} {t_a_x2 : Tok} {v_a_x3 : Vt} {r : GPar}, r05_parser_must a_x a_s = some r → Ctr Tryd.prog 52 [ptrv b_a_x (Fld.id ((List GTok) × Int × (Str × Int × (TList Str) × (TList Int) × Vh) × Int × Int)), isv (a_s)] [boxE b_a_x ((a_x.l, a_x.at_, (a_x.m.name, a_x.m.tagging, (TList.mk t_a_x1 a_x.m.names), (TList.mk t_a_x2 a_x.m.types), (Vh.mk v_a_x3 a_x.m.nodes.length)), a_x.e, a_x.p) : ((List GTok) × Int × (Str × Int × (TList Str) × (TList Int) × Vh) × Int × Int)), tokE t_a_x1, tokE t_a_x2, vecE v_a_x3 (a_x.m.nodes : List GNode)] (fun R H => ∃ u1 : Tok, ∃ u2 : Tok, R = oneOf [] ∧ H = [boxE b_a_x ((r.l, r.at_, (r.m.name, r.m.tagging, (TList.mk u1 r.m.names), (TList.mk u2 r.m.types), (Vh.mk v_a_x3 r.m.nodes.length)), r.e, r.p)), tokE u1, tokE u2, vecE v_a_x3 (r.m.nodes)]) := by
 intro a_x a_s b_a_x t_a_x1 t_a_x2 v_a_x3 r h
 unfold r05_parser_must at h
 refine spec_intro Tryd.func52 rfl (by decide +kernel) (by rfl) fun w0 S0 hT => ?_
 refine wsr ?_
 refine oV (v_move rfl) ?_
 refine oV (v_nilCheck rfl) ?_
 refine oV (v_fa rfl pt101_0_3 fd101_3) ?_
 refine oT (t_loadC (R := isv (a_x.e)) ty30 rfl .here (fun _ _ h => h) ?_)
 refine oV (v_eql rfl rfl) ?_
 refine oV (v_move rfl) ?_
 refine rl_j (ι := Bool × GPar) (γ := Tok × Tok) (fun q4 g4 => [(14, isv (q4.1))]) (fun q4 g4 => [boxE b_a_x ((q4.2.l, q4.2.at_, (q4.2.m.name, q4.2.m.tagging, (TList.mk g4.1 q4.2.m.names), (TList.mk g4.2 q4.2.m.types), (Vh.mk v_a_x3 q4.2.m.nodes.length)), q4.2.e, q4.2.p) : ((List GTok) × Int × (Str × Int × (TList Str) × (TList Int) × Vh) × Int × Int)), tokE g4.1, tokE g4.2, vecE v_a_x3 (q4.2.m.nodes : List GNode)]) (.cons .here (.cons .here (.cons .here (.cons .here .nil)))) h 5 rfl (fun q4 g4 h => ?_) (fun J5 h hJ5 => ?_)
 ·
  refine rnf ?_
  refine w_condM h rfl (fun _ h => ?_) (fun _ h => ?_)
  ·
   refine w_region ?_
   refine oV (v_move rfl) ?_
   refine oV (v_move rfl) ?_
   refine cal_inv h fun y10 hy10 h => ?_
   refine oT (t_call (r05_parser_now_w hy10) hT (.same rfl .nil) (.cons .here (.cons .here (.cons .here (.cons .here .nil)))) (fun R H' hR => ?_))
   obtain ⟨t11, t12, rfl, rfl⟩ := hR
   refine cal_inv h fun y13 hy13 h => ?_
   refine oT (t_call (r05_parser_fail_w hy13) hT (.same rfl (.same rfl (.same rfl .nil))) (.cons .here (.cons .here (.cons .here (.cons .here .nil)))) (fun R H' hR => ?_))
   obtain ⟨t14, t15, rfl, rfl⟩ := hR
   refine rl_nil ?_
   refine fin_post .nil (.cons .here (.cons .here (.cons .here (.cons .here .nil)))) ?_
   obtain rfl := Option.some.inj h
   exact ⟨t14, t15, rfl, rfl⟩
  ·
   refine w_skip ?_
   refine fin_post .nil (.cons .here (.cons .here (.cons .here (.cons .here .nil)))) ?_
   obtain rfl := Option.some.inj h
   exact ⟨g4.1, g4.2, rfl, rfl⟩
 ·
  refine rl_condM (j := 9) h rfl (fun g6 h => ?_) (fun g6 h => ?_)
  ·
   refine op_take rfl rfl (dj := 9) rfl g6 (OpV.t (v_move rfl) ?_)
   refine op_take rfl rfl (dj := 9) rfl g6 (OpV.t (v_move rfl) ?_)
   refine cal_inv h fun y7 hy7 h => ?_
   refine op_take rfl rfl (dj := 9) rfl g6 (t_call (r05_parser_is_w hy7) hT (.same rfl (.same rfl .nil)) (.cons .here (.cons .here (.cons .here (.cons .here .nil)))) (fun R H' hR => ?_))
   obtain ⟨t8, t9, rfl, rfl⟩ := hR
   refine op_take rfl rfl (dj := 9) rfl g6 (OpV.t (v_not rfl) ?_)
   refine oV (v_pick_t rfl g6 rfl) ?_
   exact hJ5 _ (t8, t9) h _ (join_imp 5 rfl rfl (mod_cons (j := 14) rfl (fun _ _ h => h) mod_nil) (.cons .here (.cons .here (.cons .here (.cons .here .nil)))))
  ·
   refine op_pass rfl (dj := 9) rfl g6 ?_
   refine op_pass rfl (dj := 9) rfl g6 ?_
   refine op_pass rfl (dj := 9) rfl g6 ?_
   refine op_pass rfl (dj := 9) rfl g6 ?_
   refine oV (v_pick_f rfl g6 rfl) ?_
   exact hJ5 _ (t_a_x1, t_a_x2) h _ (join_imp 5 rfl rfl (mod_cons (j := 14) rfl (fun _ _ h => h) mod_nil) (.cons .here (.cons .here (.cons .here (.cons .here .nil)))))


theorem r05_begins_w : ∀ {a_t : GTok} {r : Bool}, r05_begins a_t = some r → Ctr Tryd.prog 78 [isv (a_t)] [] (fun R H => R = oneOf [isv (r)] ∧ H = []) := by
 intro a_t r h
 unfold r05_begins at h
 refine spec_intro Tryd.func78 rfl (by decide +kernel) (by rfl) fun w0 S0 hT => ?_
 refine wsr ?_
 refine oT (t_boxIC (y := a_t) rfl (fun _ _ h => h) ?_)
 refine oV (v_assign rfl) ?_
 refine rnf ?_
 refine wsr ?_
 refine oT (t_buildSlice (l := ([(Str.mk [91]), (Str.mk [66, 79, 79, 76, 69, 65, 78]), (Str.mk [78, 85, 76, 76]), (Str.mk [85, 84, 70, 56, 83, 116, 114, 105, 110, 103]), (Str.mk [73, 78, 84, 69, 71, 69, 82]), (Str.mk [79, 67, 84, 69, 84]), (Str.mk [69, 78, 85, 77, 69, 82, 65, 84, 69, 68]), (Str.mk [83, 69, 84]), (Str.mk [67, 72, 79, 73, 67, 69]), (Str.mk [83, 69, 81, 85, 69, 78, 67, 69])] : (List Str))) el22 (.cons rfl (fun _ _ h => h) (.cons rfl (fun _ _ h => h) (.cons rfl (fun _ _ h => h) (.cons rfl (fun _ _ h => h) (.cons rfl (fun _ _ h => h) (.cons rfl (fun _ _ h => h) (.cons rfl (fun _ _ h => h) (.cons rfl (fun _ _ h => h) (.cons rfl (fun _ _ h => h) (.cons rfl (fun _ _ h => h) .nil)))))))))) rfl rfl ?_)
 refine oV (v_assign rfl) ?_
 refine rnf ?_
 refine w_seq ?_
 refine wsr ?_
 refine oV (v_assign rfl) ?_
 refine rnf ?_
 refine w_block ?_
 refine w_lp (ι := Int) (γ := Unit) (fun q2 g2 => [(4, isv (q2))]) (fun q2 g2 => []) h () (mod_cons (j := 4) rfl (fun _ _ h => h) mod_nil) .nil (fun L3 q2 g2 Q20 h hL3 eL3 rL3 => ?_)
 refine w_seq ?_
 refine wsr ?_
 refine oV (v_move rfl) ?_
 refine oV (v_move rfl) ?_
 refine oV (v_ln (l := ([(Str.mk [91]), (Str.mk [66, 79, 79, 76, 69, 65, 78]), (Str.mk [78, 85, 76, 76]), (Str.mk [85, 84, 70, 56, 83, 116, 114, 105, 110, 103]), (Str.mk [73, 78, 84, 69, 71, 69, 82]), (Str.mk [79, 67, 84, 69, 84]), (Str.mk [69, 78, 85, 77, 69, 82, 65, 84, 69, 68]), (Str.mk [83, 69, 84]), (Str.mk [67, 72, 79, 73, 67, 69]), (Str.mk [83, 69, 81, 85, 69, 78, 67, 69])] : (List Str))) rfl appv_isv sl22) ?_
 refine oV (v_lss rfl rfl) ?_
 refine rnf ?_
 refine w_condM h rfl (fun _ h => ?_) (fun _ h => ?_)
 ·
  refine wkf ?_
  refine w_seq ?_
  refine w_block ?_
  refine w_seq ?_
  refine w_regionD (.v 0 (.v 1 (.v 2 (.v 3 (.v 4 (.v 5 (.v 6 (.v 7 (.v 8 (.v 9 (.v 10 (.v 11 (.v 12 (.v 13 (.v 14 (.v 15 (.v 16 .nil))))))))))))))))) moOrd (by kernel_rfl) ?_
  refine rd_v rfl (v_move rfl) ?_
  refine rd_v rfl (v_move rfl) ?_
  refine cal_inv h fun y12 hy12 h => ?_
  refine rd_v rfl (v_ix (l := ([(Str.mk [91]), (Str.mk [66, 79, 79, 76, 69, 65, 78]), (Str.mk [78, 85, 76, 76]), (Str.mk [85, 84, 70, 56, 83, 116, 114, 105, 110, 103]), (Str.mk [73, 78, 84, 69, 71, 69, 82]), (Str.mk [79, 67, 84, 69, 84]), (Str.mk [69, 78, 85, 77, 69, 82, 65, 84, 69, 68]), (Str.mk [83, 69, 84]), (Str.mk [67, 72, 79, 73, 67, 69]), (Str.mk [83, 69, 81, 85, 69, 78, 67, 69])] : (List Str))) rfl appv_isv rfl sl22 hy12) ?_
  refine rd_v rfl (v_loadI ty9 rfl) ?_
  refine rd_v rfl (v_fi rfl GTok.f1 fd105_1 rfl (z := a_t.text)) ?_
  refine rd_v rfl (v_loadI ty9 rfl) ?_
  refine rd_v rfl (v_eqA eq9 rfl rfl) ?_
  refine rd_v rfl (v_move rfl) ?_
  refine rd_j (ι := Bool) (γ := Unit) (fun q13 g13 => [(28, isv (q13))]) (fun q13 g13 => []) .nil h 9 rfl (fun q13 g13 h => ?_) (fun J14 h hJ14 => ?_)
  ·
   refine rd_nil ?_
   refine fin_nxt ?_
   refine w_condM h rfl (fun _ h => ?_) (fun _ h => ?_)
   ·
    refine wsr ?_
    refine oV (v_assign rfl) ?_
    refine rnf ?_
    refine w_ret ?_
    refine ret_block ?_
    refine ret_nxt ?_
    refine rL3 _ ?_
    refine ret_block ?_
    refine ret_nxt ?_
    refine ret_post (.tmp rfl .nil) .nil ?_
    obtain rfl := Option.some.inj h
    exact ⟨rfl, rfl⟩
   ·
    refine w_skip ?_
    refine fin_block ?_
    refine fin_nxt ?_
    refine w_region ?_
    refine oV (v_move rfl) ?_
    refine ck_inv h fun q19 h => ?_
    refine oV (v_add rfl rfl q19) ?_
    refine oV (v_assign rfl) ?_
    refine rl_nil ?_
    exact hL3 _ () h _ (join_imp 17 rfl rfl (mod_cons (j := 4) rfl (fun _ _ h => h) mod_nil) .nil)
  ·
   refine rd_condM (j := 19) h rfl (fun g15 h => ?_) (fun g15 h => ?_)
   ·
    refine rd_vt rfl rfl (dj := 19) rfl g15 (v_fi rfl GTok.f0 fd105_0 rfl (z := a_t.kind)) ?_
    refine rd_vt rfl rfl (dj := 19) rfl g15 (v_loadI ty3 rfl) ?_
    refine rd_vt rfl rfl (dj := 19) rfl g15 (v_eql rfl rfl) ?_
    refine rd_vt rfl rfl (dj := 19) rfl g15 (v_move rfl) ?_
    refine rd_j (ι := Bool) (γ := Unit) (fun q16 g16 => [(27, isv (q16))]) (fun q16 g16 => []) .nil h 4 rfl (fun q16 g16 h => ?_) (fun J17 h hJ17 => ?_)
    ·
     refine rd_v rfl (v_pick_t rfl g15 rfl) ?_
     exact hJ14 _ () h _ (join_imp 6 rfl rfl (mod_cons (j := 28) rfl (fun _ _ h => h) mod_nil) .nil)
    ·
     refine rd_condM (j := 23) h rfl (fun g18 h => ?_) (fun g18 h => ?_)
     ·
      refine rd_passV rfl rfl (dj := 23) rfl g18 ?_
      refine rd_passV rfl rfl (dj := 23) rfl g18 ?_
      refine rd_passV rfl rfl (dj := 23) rfl g18 ?_
      refine rd_vt rfl rfl (dj := 19) rfl g15 (v_pick_t rfl g18 rfl) ?_
      exact hJ17 _ () h _ (join_imp 4 rfl rfl (mod_cons (j := 27) rfl (fun _ _ h => h) mod_nil) .nil)
     ·
      refine rd_vt rfl rfl (dj := 23) rfl g18 (v_fi rfl GTok.f0 fd105_0 rfl (z := a_t.kind)) ?_
      refine rd_vt rfl rfl (dj := 23) rfl g18 (v_loadI ty3 rfl) ?_
      refine rd_vt rfl rfl (dj := 23) rfl g18 (v_eql rfl rfl) ?_
      refine rd_vt rfl rfl (dj := 19) rfl g15 (v_pick_f rfl g18 rfl) ?_
      exact hJ17 _ () h _ (join_imp 4 rfl rfl (mod_cons (j := 27) rfl (fun _ _ h => h) mod_nil) .nil)
   ·
    refine rd_passV rfl rfl (dj := 19) rfl g15 ?_
    refine rd_passV rfl rfl (dj := 19) rfl g15 ?_
    refine rd_passV rfl rfl (dj := 19) rfl g15 ?_
    refine rd_passV rfl rfl (dj := 19) rfl g15 ?_
    refine rd_passUV rfl rfl (dj := 23) rfl ?_
    refine rd_passUV rfl rfl (dj := 23) rfl ?_
    refine rd_passUV rfl rfl (dj := 23) rfl ?_
    refine rd_passV rfl rfl (dj := 19) rfl g15 ?_
    refine rd_v rfl (v_pick_f rfl g15 rfl) ?_
    exact hJ14 _ () h _ (join_imp 9 rfl rfl (mod_cons (j := 28) rfl (fun _ _ h => h) mod_nil) .nil)
 ·
  refine w_exit ?_
  refine exi_nxt ?_
  refine eL3 _ _ ?_
  refine exi_block ?_
  refine fin_nxt ?_
  refine wsr ?_
  refine oV (v_fi rfl GTok.f0 fd105_0 rfl (z := a_t.kind)) ?_
  refine oV (v_loadI ty3 rfl) ?_
  refine oV (v_eql rfl rfl) ?_
  refine oV (v_assign rfl) ?_
  refine rnf ?_
  refine w_ret ?_
  refine ret_post (.tmp rfl .nil) .nil ?_
  obtain rfl := Option.some.inj h
  exact ⟨rfl, rfl⟩


theorem r05_Whole_w : ∀ {a_s : Str} {r : Int}, r05_Whole a_s = some r → Ctr Tryd.prog 105 [isv (a_s)] [] (fun R H => R = oneOf [isv (r)] ∧ H = []) := by
 intro a_s r h
 unfold r05_Whole at h
 refine spec_intro Tryd.func105 rfl (by decide +kernel) (by rfl) fun w0 S0 hT => ?_
 refine wsr ?_
 refine oV (v_assign rfl) ?_
 refine rnf ?_
 refine wsr ?_
 refine oV (v_move rfl) ?_
 refine cal_inv h fun y1 hy1 h => ?_
 refine oV (v_idxS y1 st9 rfl rfl hy1) ?_
 refine oV (v_eqA eq5 rfl rfl) ?_
 refine oV (v_assign rfl) ?_
 refine rnf ?_
 refine w_seq ?_
 refine wsr ?_
 refine oV (v_move rfl) ?_
 refine rnf ?_
 refine w_J (ι := Str) (γ := Unit) (fun q2 g2 => [(0, isv (q2))]) (fun q2 g2 => []) .nil h (fun q2 g2 h => ?_) (fun J3 h hJ3 => ?_)
 ·
  refine wsr ?_
  refine oV (v_assign rfl) ?_
  refine rnf ?_
  refine w_seq ?_
  refine wsr ?_
  refine oV (v_assign rfl) ?_
  refine rnf ?_
  refine w_block ?_
  refine w_lp (ι := UInt64 × Int) (γ := Unit) (fun q5 g5 => [(4, isv (q5.1)), (5, isv (q5.2))]) (fun q5 g5 => []) h () (mod_cons (j := 4) rfl (fun _ _ h => h) (mod_cons (j := 5) rfl (fun _ _ h => h) mod_nil)) .nil (fun L6 q5 g5 Q19 h hL6 eL6 rL6 => ?_)
  refine w_seq ?_
  refine wsr ?_
  refine oV (v_move rfl) ?_
  refine oV (v_move rfl) ?_
  refine oV (v_lenS st9 rfl) ?_
  refine oV (v_lss rfl rfl) ?_
  refine rnf ?_
  refine w_condM h rfl (fun _ h => ?_) (fun _ h => ?_)
  ·
   refine wkf ?_
   refine w_seq ?_
   refine w_block ?_
   refine w_region ?_
   refine oV (v_move rfl) ?_
   refine oV (v_mul64 rfl rfl) ?_
   refine oV (v_move rfl) ?_
   refine oV (v_move rfl) ?_
   refine cal_inv h fun y13 hy13 h => ?_
   refine oV (v_idxS y13 st9 rfl rfl hy13) ?_
   refine oV (v_sub8 rfl rfl) ?_
   refine oV (v_u8u64 Tryd.underlying5 Tryd.underlying39 rfl) ?_
   refine oV (v_add64 rfl rfl) ?_
   refine oV (v_assign rfl) ?_
   refine rl_nil ?_
   refine fin_block ?_
   refine fin_nxt ?_
   refine w_region ?_
   refine oV (v_move rfl) ?_
   refine ck_inv h fun q14 h => ?_
   refine oV (v_add rfl rfl q14) ?_
   refine oV (v_assign rfl) ?_
   refine rl_nil ?_
   exact hL6 _ () h _ (join_imp 18 rfl rfl (mod_cons (j := 4) rfl (fun _ _ h => h) (mod_cons (j := 5) rfl (fun _ _ h => h) mod_nil)) .nil)
  ·
   refine w_exit ?_
   refine exi_nxt ?_
   refine eL6 _ _ ?_
   refine exi_block ?_
   refine fin_nxt ?_
   refine w_seq ?_
   refine wsr ?_
   refine oV (v_move rfl) ?_
   refine rnf ?_
   refine w_condM h rfl (fun _ h => ?_) (fun _ h => ?_)
   ·
    refine wsr ?_
    refine oV (v_move rfl) ?_
    refine oV (v_sub64 rfl rfl) ?_
    refine ck_inv h fun q15 h => ?_
    refine oV (v_u64i Tryd.underlying39 Tryd.underlying2 rfl q15) ?_
    refine ck_inv h fun q16 h => ?_
    refine oV (v_neg rfl q16) ?_
    refine ck_inv h fun q17 h => ?_
    refine oV (v_sub rfl rfl q17) ?_
    refine oV (v_assign rfl) ?_
    refine rnf ?_
    refine w_ret ?_
    refine ret_nxt ?_
    refine ret_post (.tmp rfl .nil) .nil ?_
    obtain rfl := Option.some.inj h
    exact ⟨rfl, rfl⟩
   ·
    refine wkf ?_
    refine wsr ?_
    refine oV (v_move rfl) ?_
    refine ck_inv h fun q18 h => ?_
    refine oV (v_u64i Tryd.underlying39 Tryd.underlying2 rfl q18) ?_
    refine oV (v_assign rfl) ?_
    refine rnf ?_
    refine w_ret ?_
    refine ret_post (.tmp rfl .nil) .nil ?_
    obtain rfl := Option.some.inj h
    exact ⟨rfl, rfl⟩
 ·
  refine w_condM h rfl (fun _ h => ?_) (fun _ h => ?_)
  ·
   refine w_region ?_
   refine oV (v_move rfl) ?_
   refine asd_inv h fun q4 h => ?_
   refine oV (v_slS st9 rfl (.inr ⟨_, rfl, rfl⟩) (.inl ⟨rfl, rfl⟩) q4.1 q4.2.1 q4.2.2) ?_
   refine oV (v_assign rfl) ?_
   refine rl_nil ?_
   exact hJ3 _ () h _ (join_imp 3 rfl rfl (mod_cons (j := 0) rfl (fun _ _ h => h) mod_nil) .nil)
  ·
   refine w_skip ?_
   exact hJ3 _ () h _ (join_imp 0 rfl rfl (mod_cons (j := 0) rfl (fun _ _ h => h) mod_nil) .nil)


theorem r05_parser_number_w : ∀ {a_x : GPar} {b_a_x : Nat} {t_a_x1 : Tok} {t_a_x2 : Tok} {v_a_x3 : Vt} {r : Int × GPar}, r05_parser_number a_x = some r → Ctr Tryd.prog 79 [ptrv b_a_x (Fld.id ((List GTok) × Int × (Str × Int × (TList Str) × (TList Int) × Vh) × Int × Int))] [boxE b_a_x ((a_x.l, a_x.at_, (a_x.m.name, a_x.m.tagging, (TList.mk t_a_x1 a_x.m.names), (TList.mk t_a_x2 a_x.m.types), (Vh.mk v_a_x3 a_x.m.nodes.length)), a_x.e, a_x.p) : ((List GTok) × Int × (Str × Int × (TList Str) × (TList Int) × Vh) × Int × Int)), tokE t_a_x1, tokE t_a_x2, vecE v_a_x3 (a_x.m.nodes : List GNode)] (fun R H => ∃ u1 : Tok, ∃ u2 : Tok, R = oneOf [isv (r.1)] ∧ H = [boxE b_a_x ((r.2.l, r.2.at_, (r.2.m.name, r.2.m.tagging, (TList.mk u1 r.2.m.names), (TList.mk u2 r.2.m.types), (Vh.mk v_a_x3 r.2.m.nodes.length)), r.2.e, r.2.p)), tokE u1, tokE u2, vecE v_a_x3 (r.2.m.nodes)]) := by
 intro a_x b_a_x t_a_x1 t_a_x2 v_a_x3 r h
 unfold r05_parser_number at h
 refine spec_intro Tryd.func79 rfl (by decide +kernel) (by rfl) fun w0 S0 hT => ?_
 refine wsr ?_
 refine oV (v_assign rfl) ?_
 refine rnf ?_
 refine wsr ?_
 refine oV (v_move rfl) ?_
 refine cal_inv h fun y4 hy4 h => ?_
 refine oT (t_call (r05_parser_kind_w hy4) hT (.same rfl (.same rfl .nil)) (.cons .here (.cons .here (.cons .here (.cons .here .nil)))) (fun R H' hR => ?_))
 obtain ⟨t5, t6, rfl, rfl⟩ := hR
 refine oV (v_assign rfl) ?_
 refine rnf ?_
 refine w_seq ?_
 refine wsr ?_
 refine oV (v_move rfl) ?_
 refine oV (v_eqA eq9 rfl rfl) ?_
 refine rnf ?_
 refine w_condM h rfl (fun _ h => ?_) (fun _ h => ?_)
 ·
  refine wsr ?_
  refine oV (v_assign rfl) ?_
  refine rnf ?_
  refine w_ret ?_
  refine ret_nxt ?_
  refine ret_post (.tmp rfl .nil) (.cons .here (.cons .here (.cons .here (.cons .here .nil)))) ?_
  obtain rfl := Option.some.inj h
  exact ⟨t5, t6, rfl, rfl⟩
 ·
  refine wkf ?_
  refine wsr ?_
  refine oV (v_move rfl) ?_
  refine cal_inv h fun y7 hy7 h => ?_
  refine oT (t_call (r05_Whole_w hy7) hT (.same rfl .nil) .nil (fun R H' hR => ?_))
  obtain ⟨rfl, rfl⟩ := hR
  refine oV (v_assign rfl) ?_
  refine rnf ?_
  refine w_ret ?_
  refine ret_post (.tmp rfl .nil) (.cons .here (.cons .here (.cons .here (.cons .here .nil)))) ?_
  obtain rfl := Option.some.inj h
  exact ⟨t5, t6, rfl, rfl⟩


theorem r05_parser_bounds_w : ∀ {a_x : GPar} {b_a_x : Nat} {t_a_x1 : Tok} {t_a_x2 : Tok} {v_a_x3 : Vt} {r : GCon × GPar}, r05_parser_bounds a_x = some r → Ctr Tryd.prog 107 [ptrv b_a_x (Fld.id ((List GTok) × Int × (Str × Int × (TList Str) × (TList Int) × Vh) × Int × Int))] [boxE b_a_x ((a_x.l, a_x.at_, (a_x.m.name, a_x.m.tagging, (TList.mk t_a_x1 a_x.m.names), (TList.mk t_a_x2 a_x.m.types), (Vh.mk v_a_x3 a_x.m.nodes.length)), a_x.e, a_x.p) : ((List GTok) × Int × (Str × Int × (TList Str) × (TList Int) × Vh) × Int × Int)), tokE t_a_x1, tokE t_a_x2, vecE v_a_x3 (a_x.m.nodes : List GNode)] (fun R H => ∃ u1 : Tok, ∃ u2 : Tok, R = oneOf [isv (r.1)] ∧ H = [boxE b_a_x ((r.2.l, r.2.at_, (r.2.m.name, r.2.m.tagging, (TList.mk u1 r.2.m.names), (TList.mk u2 r.2.m.types), (Vh.mk v_a_x3 r.2.m.nodes.length)), r.2.e, r.2.p)), tokE u1, tokE u2, vecE v_a_x3 (r.2.m.nodes)]) := by
 intro a_x b_a_x t_a_x1 t_a_x2 v_a_x3 r h
 unfold r05_parser_bounds at h
 refine spec_intro Tryd.func107 rfl (by decide +kernel) (by rfl) fun w0 S0 hT => ?_
 refine wsr ?_
 refine oT (t_alloc _ ze54 fun b4 => ?_)
 refine rnf ?_
 refine wsr ?_
 refine oV (v_build (z := (GCon.mk true false false false (0 : Int) (0 : Int))) rfl bu54 ze54 (.cons GCon.f0 fd54_0 rfl (fun _ _ h => h) .nil)) ?_
 refine oT (t_alloc _ ze54 fun b5 => ?_)
 refine oT (t_storeC (y' := ((GCon.mk true false false false (0 : Int) (0 : Int)) : GCon)) ty54 rfl rfl (fun _ _ h => h) .here rfl ?_)
 refine rnf ?_
 refine w_seq ?_
 refine wsr ?_
 refine oV (v_move rfl) ?_
 refine cal_inv h fun y6 hy6 h => ?_
 refine oT (t_call (r05_parser_is_w hy6) hT (.same rfl (.same rfl .nil)) (.cons (.there (.there .here)) (.cons (.there (.there .here)) (.cons (.there (.there .here)) (.cons (.there (.there .here)) .nil)))) (fun R H' hR => ?_))
 obtain ⟨t7, t8, rfl, rfl⟩ := hR
 refine oV (v_not rfl) ?_
 refine rnf ?_
 refine w_J (ι := GPar × GCon) (γ := Tok × Tok) (fun q9 g9 => []) (fun q9 g9 => [boxE b_a_x ((q9.1.l, q9.1.at_, (q9.1.m.name, q9.1.m.tagging, (TList.mk g9.1 q9.1.m.names), (TList.mk g9.2 q9.1.m.types), (Vh.mk v_a_x3 q9.1.m.nodes.length)), q9.1.e, q9.1.p) : ((List GTok) × Int × (Str × Int × (TList Str) × (TList Int) × Vh) × Int × Int)), tokE g9.1, tokE g9.2, vecE v_a_x3 (q9.1.m.nodes : List GNode), boxE b5 (q9.2 : GCon)]) (.cons .here (.cons (.there (.there (.there .here))) (.cons .here (.cons .here (.cons .here .nil))))) h (fun q9 g9 h => ?_) (fun J10 h hJ10 => ?_)
 ·
  refine w_seq ?_
  refine w_J (ι := GPar × GCon) (γ := Tok × Tok) (fun q14 g14 => []) (fun q14 g14 => [boxE b_a_x ((q14.1.l, q14.1.at_, (q14.1.m.name, q14.1.m.tagging, (TList.mk g14.1 q14.1.m.names), (TList.mk g14.2 q14.1.m.types), (Vh.mk v_a_x3 q14.1.m.nodes.length)), q14.1.e, q14.1.p) : ((List GTok) × Int × (Str × Int × (TList Str) × (TList Int) × Vh) × Int × Int)), tokE g14.1, tokE g14.2, vecE v_a_x3 (q14.1.m.nodes : List GNode), boxE b5 (q14.2 : GCon)]) (.cons .here (.cons (.there (.there (.there .here))) (.cons .here (.cons .here (.cons .here .nil))))) h (fun q14 g14 h => ?_) (fun J15 h hJ15 => ?_)
  ·
   refine w_seq ?_
   refine wsr ?_
   refine oV (v_move rfl) ?_
   refine cal_inv h fun y25 hy25 h => ?_
   refine oT (t_call (r05_parser_is_w hy25) hT (.same rfl (.same rfl .nil)) (.cons .here (.cons .here (.cons .here (.cons .here .nil)))) (fun R H' hR => ?_))
   obtain ⟨t26, t27, rfl, rfl⟩ := hR
   refine rnf ?_
   refine w_J (ι := GPar × GCon) (γ := Tok × Tok) (fun q28 g28 => []) (fun q28 g28 => [boxE b_a_x ((q28.1.l, q28.1.at_, (q28.1.m.name, q28.1.m.tagging, (TList.mk g28.1 q28.1.m.names), (TList.mk g28.2 q28.1.m.types), (Vh.mk v_a_x3 q28.1.m.nodes.length)), q28.1.e, q28.1.p) : ((List GTok) × Int × (Str × Int × (TList Str) × (TList Int) × Vh) × Int × Int)), tokE g28.1, tokE g28.2, vecE v_a_x3 (q28.1.m.nodes : List GNode), boxE b5 (q28.2 : GCon)]) (.cons .here (.cons (.there (.there (.there .here))) (.cons .here (.cons .here (.cons .here .nil))))) h (fun q28 g28 h => ?_) (fun J29 h hJ29 => ?_)
   ·
    refine wsr ?_
    refine oT (t_loadC (R := isv (q28.2)) ty54 rfl (.there (.there (.there (.there .here)))) (fun _ _ h => h) ?_)
    refine oT (t_storeC (y' := (q28.2 : GCon)) ty54 rfl rfl (fun _ _ h => h) (.there (.there (.there (.there (.there .here))))) rfl ?_)
    refine rnf ?_
    refine w_ret ?_
    refine ret_post (.cell rfl .here ty54 .nil) (.cons (.there .here) (.cons (.there .here) (.cons (.there .here) (.cons (.there .here) .nil)))) ?_
    obtain rfl := Option.some.inj h
    exact ⟨g28.1, g28.2, rfl, rfl⟩
   ·
    refine w_condM h rfl (fun _ h => ?_) (fun _ h => ?_)
    ·
     refine wsr ?_
     refine oV (v_move rfl) ?_
     refine cal_inv h fun y30 hy30 h => ?_
     refine oT (t_call (r05_parser_must_w hy30) hT (.same rfl (.same rfl .nil)) (.cons .here (.cons .here (.cons .here (.cons .here .nil)))) (fun R H' hR => ?_))
     obtain ⟨t31, t32, rfl, rfl⟩ := hR
     refine rnf ?_
     refine w_region ?_
     refine oV (v_fa rfl GCon.f3 fd54_3) ?_
     refine oT (t_storeC (y' := ({ q14.2 with more := true } : GCon)) ty4 rfl rfl (fun _ _ h => h) (.there (.there (.there (.there .here)))) rfl ?_)
     refine rl_nil ?_
     exact hJ29 _ (t31, t32) h _ (join_imp 3 rfl rfl mod_nil (.cons (.there .here) (.cons (.there .here) (.cons (.there .here) (.cons (.there .here) (.cons .here (.cons .here .nil)))))))
    ·
     refine w_skip ?_
     exact hJ29 _ (t26, t27) h _ (join_imp 0 rfl rfl mod_nil (.cons .here (.cons .here (.cons .here (.cons .here (.cons .here (.cons .here .nil)))))))
  ·
   refine w_block ?_
   refine wsr ?_
   refine oV (v_move rfl) ?_
   refine cal_inv h fun y16 hy16 h => ?_
   refine oT (t_call (r05_parser_is_w hy16) hT (.same rfl (.same rfl .nil)) (.cons .here (.cons .here (.cons .here (.cons .here .nil)))) (fun R H' hR => ?_))
   obtain ⟨t17, t18, rfl, rfl⟩ := hR
   refine oV (v_assign rfl) ?_
   refine rnf ?_
   refine w_condM h rfl (fun _ h => ?_) (fun _ h => ?_)
   ·
    refine wsr ?_
    refine oV (v_move rfl) ?_
    refine cal_inv h fun y19 hy19 h => ?_
    refine oT (t_call (r05_parser_is_w hy19) hT (.same rfl (.same rfl .nil)) (.cons .here (.cons .here (.cons .here (.cons .here .nil)))) (fun R H' hR => ?_))
    obtain ⟨t20, t21, rfl, rfl⟩ := hR
    refine oV (v_not rfl) ?_
    refine rnf ?_
    refine w_condM h rfl (fun _ h => ?_) (fun _ h => ?_)
    ·
     refine w_region ?_
     refine oV (v_move rfl) ?_
     refine cal_inv h fun y22 hy22 h => ?_
     refine oT (t_call (r05_parser_number_w hy22) hT (.same rfl .nil) (.cons .here (.cons .here (.cons .here (.cons .here .nil)))) (fun R H' hR => ?_))
     obtain ⟨t23, t24, rfl, rfl⟩ := hR
     refine oV (v_fa rfl GCon.f2 fd54_2) ?_
     refine oT (t_storeC (y' := ({ q9.2 with hasHigh := true } : GCon)) ty4 rfl rfl (fun _ _ h => h) (.there (.there (.there (.there .here)))) rfl ?_)
     refine oV (v_fa rfl GCon.f5 fd54_5) ?_
     refine oT (t_storeC (y' := ({ { q9.2 with hasHigh := true } with high := y22.1 } : GCon)) ty2 rfl rfl (fun _ _ h => h) .here rfl ?_)
     refine rl_nil ?_
     refine fin_block ?_
     exact hJ15 _ (t23, t24) h _ (join_imp 10 rfl rfl mod_nil (.cons (.there .here) (.cons (.there .here) (.cons (.there .here) (.cons (.there .here) (.cons .here (.cons .here .nil)))))))
    ·
     refine w_skip ?_
     refine fin_block ?_
     exact hJ15 _ (t20, t21) h _ (join_imp 6 rfl rfl mod_nil (.cons .here (.cons .here (.cons .here (.cons .here (.cons .here (.cons .here .nil)))))))
   ·
    refine wsr ?_
    refine oV (v_fa rfl GCon.f1 fd54_1) ?_
    refine oT (t_loadC (R := isv (q9.2.hasLow)) ty4 rfl (.there (.there (.there (.there .here)))) (fun _ _ h => h) ?_)
    refine oV (v_assign rfl) ?_
    refine rnf ?_
    refine w_condM h rfl (fun _ h => ?_) (fun _ h => ?_)
    ·
     refine w_region ?_
     refine oV (v_fa rfl GCon.f4 fd54_4) ?_
     refine oT (t_loadC (R := isv (q9.2.low)) ty2 rfl (.there (.there (.there (.there .here)))) (fun _ _ h => h) ?_)
     refine oV (v_fa rfl GCon.f2 fd54_2) ?_
     refine oT (t_storeC (y' := ({ q9.2 with hasHigh := true } : GCon)) ty4 rfl rfl (fun _ _ h => h) (.there (.there (.there (.there .here)))) rfl ?_)
     refine oV (v_fa rfl GCon.f5 fd54_5) ?_
     refine oT (t_storeC (y' := ({ { q9.2 with hasHigh := true } with high := q9.2.low } : GCon)) ty2 rfl rfl (fun _ _ h => h) .here rfl ?_)
     refine rl_nil ?_
     refine fin_block ?_
     exact hJ15 _ (t17, t18) h _ (join_imp 10 rfl rfl mod_nil (.cons (.there .here) (.cons (.there .here) (.cons (.there .here) (.cons (.there .here) (.cons .here (.cons .here .nil)))))))
    ·
     refine w_skip ?_
     refine fin_block ?_
     exact hJ15 _ (t17, t18) h _ (join_imp 6 rfl rfl mod_nil (.cons .here (.cons .here (.cons .here (.cons .here (.cons .here (.cons .here .nil)))))))
 ·
  refine w_condM h rfl (fun _ h => ?_) (fun _ h => ?_)
  ·
   refine w_region ?_
   refine oV (v_move rfl) ?_
   refine cal_inv h fun y11 hy11 h => ?_
   refine oT (t_call (r05_parser_number_w hy11) hT (.same rfl .nil) (.cons .here (.cons .here (.cons .here (.cons .here .nil)))) (fun R H' hR => ?_))
   obtain ⟨t12, t13, rfl, rfl⟩ := hR
   refine oV (v_fa rfl GCon.f1 fd54_1) ?_
   refine oT (t_storeC (y' := ((GCon.mk true true false false (0 : Int) (0 : Int)) : GCon)) ty4 rfl rfl (fun _ _ h => h) (.there (.there (.there (.there .here)))) rfl ?_)
   refine oV (v_fa rfl GCon.f4 fd54_4) ?_
   refine oT (t_storeC (y' := ((GCon.mk true true false false y11.1 (0 : Int)) : GCon)) ty2 rfl rfl (fun _ _ h => h) .here rfl ?_)
   refine rl_nil ?_
   exact hJ10 _ (t12, t13) h _ (join_imp 4 rfl rfl mod_nil (.cons (.there .here) (.cons (.there .here) (.cons (.there .here) (.cons (.there .here) (.cons .here (.cons .here .nil)))))))
  ·
   refine w_skip ?_
   exact hJ10 _ (t7, t8) h _ (join_imp 0 rfl rfl mod_nil (.cons .here (.cons .here (.cons .here (.cons .here (.cons .here (.cons .here .nil)))))))


theorem r05_parser_size_w : ∀ {a_x : GPar} {b_a_x : Nat} {t_a_x1 : Tok} {t_a_x2 : Tok} {v_a_x3 : Vt} {r : GCon × GPar}, r05_parser_size a_x = some r → Ctr Tryd.prog 106 [ptrv b_a_x (Fld.id ((List GTok) × Int × (Str × Int × (TList Str) × (TList Int) × Vh) × Int × Int))] [boxE b_a_x ((a_x.l, a_x.at_, (a_x.m.name, a_x.m.tagging, (TList.mk t_a_x1 a_x.m.names), (TList.mk t_a_x2 a_x.m.types), (Vh.mk v_a_x3 a_x.m.nodes.length)), a_x.e, a_x.p) : ((List GTok) × Int × (Str × Int × (TList Str) × (TList Int) × Vh) × Int × Int)), tokE t_a_x1, tokE t_a_x2, vecE v_a_x3 (a_x.m.nodes : List GNode)] (fun R H => ∃ u1 : Tok, ∃ u2 : Tok, R = oneOf [isv (r.1)] ∧ H = [boxE b_a_x ((r.2.l, r.2.at_, (r.2.m.name, r.2.m.tagging, (TList.mk u1 r.2.m.names), (TList.mk u2 r.2.m.types), (Vh.mk v_a_x3 r.2.m.nodes.length)), r.2.e, r.2.p)), tokE u1, tokE u2, vecE v_a_x3 (r.2.m.nodes)]) := by
 intro a_x b_a_x t_a_x1 t_a_x2 v_a_x3 r h
 unfold r05_parser_size at h
 refine spec_intro Tryd.func106 rfl (by decide +kernel) (by rfl) fun w0 S0 hT => ?_
 refine wsr ?_
 refine oT (t_alloc _ ze54 fun b4 => ?_)
 refine rnf ?_
 refine w_seq ?_
 refine wsr ?_
 refine oV (v_move rfl) ?_
 refine cal_inv h fun y5 hy5 h => ?_
 refine oT (t_call (r05_parser_is_w hy5) hT (.same rfl (.same rfl .nil)) (.cons (.there .here) (.cons (.there .here) (.cons (.there .here) (.cons (.there .here) .nil)))) (fun R H' hR => ?_))
 obtain ⟨t6, t7, rfl, rfl⟩ := hR
 refine oV (v_not rfl) ?_
 refine rnf ?_
 refine w_condM h rfl (fun _ h => ?_) (fun _ h => ?_)
 ·
  refine wsr ?_
  refine oV (v_build (z := (GCon.mk false false false false (0 : Int) (0 : Int))) rfl bu54 ze54 .nil) ?_
  refine oT (t_storeC (y' := ((GCon.mk false false false false (0 : Int) (0 : Int)) : GCon)) ty54 rfl rfl (fun _ _ h => h) (.there (.there (.there (.there .here)))) rfl ?_)
  refine rnf ?_
  refine w_ret ?_
  refine ret_nxt ?_
  refine ret_post (.cell rfl .here ty54 .nil) (.cons (.there .here) (.cons (.there .here) (.cons (.there .here) (.cons (.there .here) .nil)))) ?_
  obtain rfl := Option.some.inj h
  exact ⟨t6, t7, rfl, rfl⟩
 ·
  refine wkf ?_
  refine wsr ?_
  refine oV (v_move rfl) ?_
  refine cal_inv h fun y8 hy8 h => ?_
  refine oT (t_call (r05_parser_must_w hy8) hT (.same rfl (.same rfl .nil)) (.cons .here (.cons .here (.cons .here (.cons .here .nil)))) (fun R H' hR => ?_))
  obtain ⟨t9, t10, rfl, rfl⟩ := hR
  refine rnf ?_
  refine wsr ?_
  refine oV (v_move rfl) ?_
  refine cal_inv h fun y11 hy11 h => ?_
  refine oT (t_call (r05_parser_must_w hy11) hT (.same rfl (.same rfl .nil)) (.cons .here (.cons .here (.cons .here (.cons .here .nil)))) (fun R H' hR => ?_))
  obtain ⟨t12, t13, rfl, rfl⟩ := hR
  refine rnf ?_
  refine wsr ?_
  refine oV (v_move rfl) ?_
  refine cal_inv h fun y14 hy14 h => ?_
  refine oT (t_call (r05_parser_bounds_w hy14) hT (.same rfl .nil) (.cons .here (.cons .here (.cons .here (.cons .here .nil)))) (fun R H' hR => ?_))
  obtain ⟨t15, t16, rfl, rfl⟩ := hR
  refine oT (t_alloc _ ze54 fun b17 => ?_)
  refine oT (t_storeC (y' := (y14.1 : GCon)) ty54 rfl rfl (fun _ _ h => h) .here rfl ?_)
  refine rl_upd (upd_imm 3 .here rfl) ?_
  refine rnf ?_
  refine wsr ?_
  refine oV (v_move rfl) ?_
  refine cal_inv h fun y18 hy18 h => ?_
  refine oT (t_call (r05_parser_must_w hy18) hT (.same rfl (.same rfl .nil)) (.cons .here (.cons .here (.cons .here (.cons .here .nil)))) (fun R H' hR => ?_))
  obtain ⟨t19, t20, rfl, rfl⟩ := hR
  refine rnf ?_
  refine wsr ?_
  refine oV (v_move rfl) ?_
  refine cal_inv h fun y21 hy21 h => ?_
  refine oT (t_call (r05_parser_must_w hy21) hT (.same rfl (.same rfl .nil)) (.cons .here (.cons .here (.cons .here (.cons .here .nil)))) (fun R H' hR => ?_))
  obtain ⟨t22, t23, rfl, rfl⟩ := hR
  refine rnf ?_
  refine wsr ?_
  refine oV (v_loadI ty54 rfl) ?_
  refine oT (t_storeC (y' := (y14.1 : GCon)) ty54 rfl rfl (fun _ _ h => h) (.there (.there (.there (.there .here)))) rfl ?_)
  refine rnf ?_
  refine w_ret ?_
  refine ret_post (.cell rfl .here ty54 .nil) (.cons (.there .here) (.cons (.there .here) (.cons (.there .here) (.cons (.there .here) .nil)))) ?_
  obtain rfl := Option.some.inj h
  exact ⟨t22, t23, rfl, rfl⟩


theorem r05_parser_items_w : ∀ {a_x : GPar} {a_n_ : GNode} {b_a_x : Nat} {t_a_x1 : Tok} {t_a_x2 : Tok} {v_a_x3 : Vt} {b_a_n_ : Nat} {t_a_n_4 : Tok} {t_a_n_5 : Tok} {r : GPar × GNode}, r05_parser_items a_x a_n_ = some r → Ctr Tryd.prog 108 [ptrv b_a_x (Fld.id ((List GTok) × Int × (Str × Int × (TList Str) × (TList Int) × Vh) × Int × Int)), ptrv b_a_n_ (Fld.id (Int × Str × GMark × GCon × (TList GItem) × (TList GFld) × Int × Bool × Int))] [boxE b_a_x ((a_x.l, a_x.at_, (a_x.m.name, a_x.m.tagging, (TList.mk t_a_x1 a_x.m.names), (TList.mk t_a_x2 a_x.m.types), (Vh.mk v_a_x3 a_x.m.nodes.length)), a_x.e, a_x.p) : ((List GTok) × Int × (Str × Int × (TList Str) × (TList Int) × Vh) × Int × Int)), tokE t_a_x1, tokE t_a_x2, vecE v_a_x3 (a_x.m.nodes : List GNode), boxE b_a_n_ ((a_n_.kind, a_n_.name, a_n_.mark, a_n_.con, (TList.mk t_a_n_4 a_n_.items), (TList.mk t_a_n_5 a_n_.fields), a_n_.root, a_n_.more, a_n_.of) : (Int × Str × GMark × GCon × (TList GItem) × (TList GFld) × Int × Bool × Int)), tokE t_a_n_4, tokE t_a_n_5] (fun R H => ∃ u1 : Tok, ∃ u2 : Tok, ∃ u3 : Tok, ∃ u4 : Tok, R = oneOf [] ∧ H = [boxE b_a_x ((r.1.l, r.1.at_, (r.1.m.name, r.1.m.tagging, (TList.mk u1 r.1.m.names), (TList.mk u2 r.1.m.types), (Vh.mk v_a_x3 r.1.m.nodes.length)), r.1.e, r.1.p)), tokE u1, tokE u2, vecE v_a_x3 (r.1.m.nodes), boxE b_a_n_ ((r.2.kind, r.2.name, r.2.mark, r.2.con, (TList.mk u3 r.2.items), (TList.mk u4 r.2.fields), r.2.root, r.2.more, r.2.of)), tokE u3, tokE u4]) := by
 intro a_x a_n_ b_a_x t_a_x1 t_a_x2 v_a_x3 b_a_n_ t_a_n_4 t_a_n_5 r h
 unfold r05_parser_items at h
 refine spec_intro Tryd.func108 rfl (by decide +kernel) (by rfl) fun w0 S0 hT => ?_
 refine w_seq ?_
 refine w_J (ι := GPar × GNode) (γ := Tok × Tok × Tok × Tok) (fun q6 g6 => []) (fun q6 g6 => [boxE b_a_x ((q6.1.l, q6.1.at_, (q6.1.m.name, q6.1.m.tagging, (TList.mk g6.1 q6.1.m.names), (TList.mk g6.2.1 q6.1.m.types), (Vh.mk v_a_x3 q6.1.m.nodes.length)), q6.1.e, q6.1.p) : ((List GTok) × Int × (Str × Int × (TList Str) × (TList Int) × Vh) × Int × Int)), tokE g6.1, tokE g6.2.1, vecE v_a_x3 (q6.1.m.nodes : List GNode), boxE b_a_n_ ((q6.2.kind, q6.2.name, q6.2.mark, q6.2.con, (TList.mk g6.2.2.1 q6.2.items), (TList.mk g6.2.2.2 q6.2.fields), q6.2.root, q6.2.more, q6.2.of) : (Int × Str × GMark × GCon × (TList GItem) × (TList GFld) × Int × Bool × Int)), tokE g6.2.2.1, tokE g6.2.2.2]) (.cons .here (.cons (.there (.there (.there .here))) (.cons .here (.cons .here (.cons .here (.cons .here (.cons .here .nil))))))) h (fun q6 g6 h => ?_) (fun J7 h hJ7 => ?_)
 ·
  refine wsr ?_
  refine oV (v_move rfl) ?_
  refine oV (v_nilCheck rfl) ?_
  refine oV (v_fa rfl pt133_0_7 fd133_7) ?_
  refine oT (t_loadC (R := isv (q6.2.more)) ty4 rfl (.there (.there (.there (.there .here)))) (fun _ _ h => h) ?_)
  refine oV (v_not rfl) ?_
  refine rnf ?_
  refine w_condM h rfl (fun _ h => ?_) (fun _ h => ?_)
  ·
   refine w_region ?_
   refine oV (v_move rfl) ?_
   refine oV (v_move rfl) ?_
   refine oV (v_nilCheck rfl) ?_
   refine oV (v_fa rfl pt133_0_4 fd133_4) ?_
   refine oT (t_loadC (R := appv g6.2.2.1 (q6.2.items)) ty55 rfl (.there (.there (.there (.there .here)))) isvT1 ?_)
   refine oV (v_ln (l := q6.2.items) rfl appv_isv sl55) ?_
   refine oV (v_nilCheck rfl) ?_
   refine oV (v_fa rfl pt133_0_6 fd133_6) ?_
   refine oT (t_storeC (y' := ((q6.2.kind, q6.2.name, q6.2.mark, q6.2.con, (TList.mk g6.2.2.1 q6.2.items), (TList.mk g6.2.2.2 q6.2.fields), (q6.2.items.length : Int), q6.2.more, q6.2.of) : (Int × Str × GMark × GCon × (TList GItem) × (TList GFld) × Int × Bool × Int))) ty3 rfl rfl (fun _ _ h => h) (.there (.there (.there (.there .here)))) rfl ?_)
   refine rl_nil ?_
   refine fin_post .nil (.cons (.there .here) (.cons (.there .here) (.cons (.there .here) (.cons (.there .here) (.cons .here (.cons .here (.cons .here .nil))))))) ?_
   obtain rfl := Option.some.inj h
   exact ⟨g6.1, g6.2.1, g6.2.2.1, g6.2.2.2, rfl, rfl⟩
  ·
   refine w_skip ?_
   refine fin_post .nil (.cons .here (.cons .here (.cons .here (.cons .here (.cons .here (.cons .here (.cons .here .nil))))))) ?_
   obtain rfl := Option.some.inj h
   exact ⟨g6.1, g6.2.1, g6.2.2.1, g6.2.2.2, rfl, rfl⟩
 ·
  refine w_block ?_
  refine w_lp (ι := GPar × GNode) (γ := Tok × Tok × Tok × Tok) (fun q8 g8 => []) (fun q8 g8 => [boxE b_a_x ((q8.1.l, q8.1.at_, (q8.1.m.name, q8.1.m.tagging, (TList.mk g8.1 q8.1.m.names), (TList.mk g8.2.1 q8.1.m.types), (Vh.mk v_a_x3 q8.1.m.nodes.length)), q8.1.e, q8.1.p) : ((List GTok) × Int × (Str × Int × (TList Str) × (TList Int) × Vh) × Int × Int)), tokE g8.1, tokE g8.2.1, vecE v_a_x3 (q8.1.m.nodes : List GNode), boxE b_a_n_ ((q8.2.kind, q8.2.name, q8.2.mark, q8.2.con, (TList.mk g8.2.2.1 q8.2.items), (TList.mk g8.2.2.2 q8.2.fields), q8.2.root, q8.2.more, q8.2.of) : (Int × Str × GMark × GCon × (TList GItem) × (TList GFld) × Int × Bool × Int)), tokE g8.2.2.1, tokE g8.2.2.2]) h (t_a_x1, t_a_x2, t_a_n_4, t_a_n_5) mod_nil (.cons .here (.cons .here (.cons .here (.cons .here (.cons .here (.cons .here (.cons .here .nil))))))) (fun L9 q8 g8 Q82 h hL9 eL9 rL9 => ?_)
  refine w_seq ?_
  refine wsr ?_
  refine oV (v_move rfl) ?_
  refine oV (v_nilCheck rfl) ?_
  refine oV (v_fa rfl pt101_0_3 fd101_3) ?_
  refine oT (t_loadC (R := isv (q8.1.e)) ty30 rfl .here (fun _ _ h => h) ?_)
  refine oV (v_eql rfl rfl) ?_
  refine rnf ?_
  refine w_condM h rfl (fun _ h => ?_) (fun _ h => ?_)
  ·
   refine wkf ?_
   refine w_block ?_
   refine w_seq ?_
   refine wsr ?_
   refine oV (v_move rfl) ?_
   refine oV (v_nilCheck rfl) ?_
   refine oV (v_fa rfl pt133_0_4 fd133_4) ?_
   refine oT (t_loadC (R := appv g8.2.2.1 (q8.2.items)) ty55 rfl (.there (.there (.there (.there .here)))) isvT1 ?_)
   refine oV (v_ln (l := q8.2.items) rfl appv_isv sl55) ?_
   refine oV (v_gtr rfl rfl) ?_
   refine oV (v_move rfl) ?_
   refine rl_j (ι := Bool) (γ := Unit) (fun q46 g46 => [(22, isv (q46))]) (fun q46 g46 => []) .nil h 6 rfl (fun q46 g46 h => ?_) (fun J47 h hJ47 => ?_)
   ·
    refine oV (v_move rfl) ?_
    refine rl_j (ι := Bool × GPar) (γ := Tok × Tok) (fun q49 g49 => [(26, isv (q49.1))]) (fun q49 g49 => [boxE b_a_x ((q49.2.l, q49.2.at_, (q49.2.m.name, q49.2.m.tagging, (TList.mk g49.1 q49.2.m.names), (TList.mk g49.2 q49.2.m.types), (Vh.mk v_a_x3 q49.2.m.nodes.length)), q49.2.e, q49.2.p) : ((List GTok) × Int × (Str × Int × (TList Str) × (TList Int) × Vh) × Int × Int)), tokE g49.1, tokE g49.2, vecE v_a_x3 (q49.2.m.nodes : List GNode)]) (.cons .here (.cons .here (.cons .here (.cons .here .nil)))) h 3 rfl (fun q49 g49 h => ?_) (fun J50 h hJ50 => ?_)
    ·
     refine rnf ?_
     refine w_J (ι := GPar × GNode) (γ := Tok × Tok × Tok × Tok) (fun q55 g55 => []) (fun q55 g55 => [boxE b_a_x ((q55.1.l, q55.1.at_, (q55.1.m.name, q55.1.m.tagging, (TList.mk g55.1 q55.1.m.names), (TList.mk g55.2.1 q55.1.m.types), (Vh.mk v_a_x3 q55.1.m.nodes.length)), q55.1.e, q55.1.p) : ((List GTok) × Int × (Str × Int × (TList Str) × (TList Int) × Vh) × Int × Int)), tokE g55.1, tokE g55.2.1, vecE v_a_x3 (q55.1.m.nodes : List GNode), boxE b_a_n_ ((q55.2.kind, q55.2.name, q55.2.mark, q55.2.con, (TList.mk g55.2.2.1 q55.2.items), (TList.mk g55.2.2.2 q55.2.fields), q55.2.root, q55.2.more, q55.2.of) : (Int × Str × GMark × GCon × (TList GItem) × (TList GFld) × Int × Bool × Int)), tokE g55.2.2.1, tokE g55.2.2.2]) (.cons .here (.cons (.there (.there (.there .here))) (.cons .here (.cons .here (.cons .here (.cons .here (.cons .here .nil))))))) h (fun q55 g55 h => ?_) (fun J56 h hJ56 => ?_)
     ·
      refine wsr ?_
      refine oV (v_move rfl) ?_
      refine cal_inv h fun y79 hy79 h => ?_
      refine oT (t_call (r05_parser_is_w hy79) hT (.same rfl (.same rfl .nil)) (.cons .here (.cons .here (.cons .here (.cons .here .nil)))) (fun R H' hR => ?_))
      obtain ⟨t80, t81, rfl, rfl⟩ := hR
      refine oV (v_not rfl) ?_
      refine rnf ?_
      refine w_condM h rfl (fun _ h => ?_) (fun _ h => ?_)
      ·
       refine w_exit ?_
       refine exi_pass rfl ?_
       refine eL9 _ _ ?_
       refine exi_block ?_
       exact hJ7 _ (t80, t81, g55.2.2.1, g55.2.2.2) h _ (join_imp 18 rfl rfl mod_nil (.cons .here (.cons .here (.cons .here (.cons .here (.cons .here (.cons .here (.cons .here .nil))))))))
      ·
       refine w_skip ?_
       refine fin_block ?_
       exact hL9 _ (t80, t81, g55.2.2.1, g55.2.2.2) h _ (join_imp 18 rfl rfl mod_nil (.cons .here (.cons .here (.cons .here (.cons .here (.cons .here (.cons .here (.cons .here .nil))))))))
     ·
      refine w_condM h rfl (fun _ h => ?_) (fun _ h => ?_)
      ·
       refine w_region ?_
       refine oV (v_move rfl) ?_
       refine oV (v_move rfl) ?_
       refine oV (v_move rfl) ?_
       refine oV (v_nilCheck rfl) ?_
       refine oV (v_fa rfl pt133_0_4 fd133_4) ?_
       refine oT (t_loadC (R := appv g8.2.2.1 (q8.2.items)) ty55 rfl (.there (.there (.there (.there .here)))) isvT1 ?_)
       refine oV (v_ln (l := q8.2.items) rfl appv_isv sl55) ?_
       refine oV (v_nilCheck rfl) ?_
       refine oV (v_fa rfl pt133_0_7 fd133_7) ?_
       refine oT (t_storeC (y' := ((q8.2.kind, q8.2.name, q8.2.mark, q8.2.con, (TList.mk g8.2.2.1 q8.2.items), (TList.mk g8.2.2.2 q8.2.fields), q8.2.root, true, q8.2.of) : (Int × Str × GMark × GCon × (TList GItem) × (TList GFld) × Int × Bool × Int))) ty4 rfl rfl (fun _ _ h => h) (.there (.there (.there (.there .here)))) rfl ?_)
       refine oV (v_nilCheck rfl) ?_
       refine oV (v_fa rfl pt133_0_6 fd133_6) ?_
       refine oT (t_storeC (y' := ((q8.2.kind, q8.2.name, q8.2.mark, q8.2.con, (TList.mk g8.2.2.1 q8.2.items), (TList.mk g8.2.2.2 q8.2.fields), (q8.2.items.length : Int), true, q8.2.of) : (Int × Str × GMark × GCon × (TList GItem) × (TList GFld) × Int × Bool × Int))) ty3 rfl rfl (fun _ _ h => h) .here rfl ?_)
       refine rl_nil ?_
       exact hJ56 _ (g49.1, g49.2, g8.2.2.1, g8.2.2.2) h _ (join_imp 11 rfl rfl mod_nil (.cons (.there .here) (.cons (.there .here) (.cons (.there .here) (.cons (.there .here) (.cons .here (.cons .here (.cons .here .nil))))))))
      ·
       refine wsr ?_
       refine oV (v_move rfl) ?_
       refine cal_inv h fun y57 hy57 h => ?_
       refine oT (t_call (r05_parser_kind_w hy57) hT (.same rfl (.same rfl .nil)) (.cons .here (.cons .here (.cons .here (.cons .here .nil)))) (fun R H' hR => ?_))
       obtain ⟨t58, t59, rfl, rfl⟩ := hR
       refine oV (v_build (z := (GItem.mk y57.1 (0 : Int) false)) rfl bu71 ze71 (.cons GItem.f0 fd71_0 rfl (fun _ _ h => h) .nil)) ?_
       refine oT (t_alloc _ ze71 fun b60 => ?_)
       refine oT (t_storeC (y' := ((GItem.mk y57.1 (0 : Int) false) : GItem)) ty71 rfl rfl (fun _ _ h => h) .here rfl ?_)
       refine rnf ?_
       refine w_seq ?_
       refine wsr ?_
       refine oV (v_move rfl) ?_
       refine cal_inv h fun y61 hy61 h => ?_
       refine oT (t_call (r05_parser_is_w hy61) hT (.same rfl (.same rfl .nil)) (.cons (.there .here) (.cons (.there .here) (.cons (.there .here) (.cons (.there .here) .nil)))) (fun R H' hR => ?_))
       obtain ⟨t62, t63, rfl, rfl⟩ := hR
       refine rnf ?_
       refine w_J (ι := GPar × GItem) (γ := Tok × Tok) (fun q64 g64 => []) (fun q64 g64 => [boxE b_a_x ((q64.1.l, q64.1.at_, (q64.1.m.name, q64.1.m.tagging, (TList.mk g64.1 q64.1.m.names), (TList.mk g64.2 q64.1.m.types), (Vh.mk v_a_x3 q64.1.m.nodes.length)), q64.1.e, q64.1.p) : ((List GTok) × Int × (Str × Int × (TList Str) × (TList Int) × Vh) × Int × Int)), tokE g64.1, tokE g64.2, vecE v_a_x3 (q64.1.m.nodes : List GNode), boxE b60 (q64.2 : GItem)]) (.cons .here (.cons (.there (.there (.there .here))) (.cons .here (.cons .here (.cons .here .nil))))) h (fun q64 g64 h => ?_) (fun J65 h hJ65 => ?_)
       ·
        refine w_pinN 4 (.there (.there (.there (.there .here)))) rfl (fun o72 hn73 => ?_)
        refine w_regionD (.v 0 (.v 1 (.v 2 (.v 3 (.v 5 (.alt 4 (.t 6 (.t 7 (.v 8 (.v 9 (.t 10 .nil))))) (.t 6 (.t 4 (.t 7 (.v 8 (.v 9 (.t 10 .nil)))))))))))) moOrd (by kernel_rfl) ?_
        refine rd_v rfl (v_move rfl) ?_
        refine rd_v rfl (v_move rfl) ?_
        refine rd_v rfl (v_nilCheck rfl) ?_
        refine rd_v rfl (v_fa rfl pt133_0_4 fd133_4) ?_
        refine rd_v rfl (v_lpC (R := isv (q64.2)) ty71 rfl (List.Mem.head _) (fun _ _ h => h)) ?_
        refine asr_inv h fun q76 h => ?_
        refine rd_two ?_ ?_
        ·
         refine rd_t rfl rfl (t_loadC (R := appv g8.2.2.1 (q8.2.items)) ty55 rfl (.there (.there (.there (.there .here)))) isvT1 ?_)
         refine rd_t rfl rfl (t_buildSlice (l := ([q64.2] : (List GItem))) el55 (.cons rfl (fun _ _ h => h) .nil) rfl rfl ?_)
         refine rd_t rfl rfl (t_appC (l := q8.2.items) (m := ([q64.2] : (List GItem))) ap55_55 rfl (fun _ _ h => h) rfl appv_isv (.there (.there (.there (.there (.there .here))))) q76 fun t75 => ?_)
         refine rd_v rfl (v_nilCheck rfl) ?_
         refine rd_v rfl (v_fa rfl pt133_0_4 fd133_4) ?_
         refine rd_t rfl rfl (t_storeC (y' := ((q8.2.kind, q8.2.name, q8.2.mark, q8.2.con, (TList.mk t75 (q8.2.items ++ ([q64.2] : (List GItem)))), (TList.mk g8.2.2.2 q8.2.fields), q8.2.root, q8.2.more, q8.2.of) : (Int × Str × GMark × GCon × (TList GItem) × (TList GFld) × Int × Bool × Int))) ty55 rfl rfl isvT2 (.there (.there (.there (.there (.there .here))))) rfl ?_)
         refine rd_nil ?_
         refine fin_unpinN 4 hn73 rfl ?_
         exact hJ56 _ (g64.1, g64.2, t75, g8.2.2.2) h _ (join_imp 18 rfl rfl mod_nil (.cons (.there (.there (.there .here))) (.cons (.there (.there (.there .here))) (.cons (.there (.there (.there .here))) (.cons (.there (.there (.there .here))) (.cons (.there .here) (.cons (.there .here) (.cons (.there .here) .nil))))))))
        ·
         refine rd_t rfl rfl (t_buildSlice (l := ([q64.2] : (List GItem))) el55 (.cons rfl (fun _ _ h => h) .nil) rfl rfl ?_)
         refine rd_t rfl rfl (t_loadC (R := appv g8.2.2.1 (q8.2.items)) ty55 rfl (.there (.there (.there (.there .here)))) isvT1 ?_)
         refine rd_t rfl rfl (t_appC (l := q8.2.items) (m := ([q64.2] : (List GItem))) ap55_55 rfl (fun _ _ h => h) rfl appv_isv (.there (.there (.there (.there (.there .here))))) q76 fun t78 => ?_)
         refine rd_v rfl (v_nilCheck rfl) ?_
         refine rd_v rfl (v_fa rfl pt133_0_4 fd133_4) ?_
         refine rd_t rfl rfl (t_storeC (y' := ((q8.2.kind, q8.2.name, q8.2.mark, q8.2.con, (TList.mk t78 (q8.2.items ++ ([q64.2] : (List GItem)))), (TList.mk g8.2.2.2 q8.2.fields), q8.2.root, q8.2.more, q8.2.of) : (Int × Str × GMark × GCon × (TList GItem) × (TList GFld) × Int × Bool × Int))) ty55 rfl rfl isvT2 (.there (.there (.there (.there (.there .here))))) rfl ?_)
         refine rd_nil ?_
         refine fin_unpinN 4 hn73 rfl ?_
         exact hJ56 _ (g64.1, g64.2, t78, g8.2.2.2) h _ (join_imp 18 rfl rfl mod_nil (.cons (.there (.there (.there .here))) (.cons (.there (.there (.there .here))) (.cons (.there (.there (.there .here))) (.cons (.there (.there (.there .here))) (.cons (.there .here) (.cons (.there .here) (.cons (.there .here) .nil))))))))
       ·
        refine w_condM h rfl (fun _ h => ?_) (fun _ h => ?_)
        ·
         refine wsr ?_
         refine oV (v_move rfl) ?_
         refine cal_inv h fun y66 hy66 h => ?_
         refine oT (t_call (r05_parser_number_w hy66) hT (.same rfl .nil) (.cons .here (.cons .here (.cons .here (.cons .here .nil)))) (fun R H' hR => ?_))
         obtain ⟨t67, t68, rfl, rfl⟩ := hR
         refine oV (v_fa rfl GItem.f2 fd71_2) ?_
         refine oT (t_storeC (y' := ((GItem.mk y57.1 (0 : Int) true) : GItem)) ty4 rfl rfl (fun _ _ h => h) (.there (.there (.there (.there .here)))) rfl ?_)
         refine oV (v_fa rfl GItem.f1 fd71_1) ?_
         refine oT (t_storeC (y' := ((GItem.mk y57.1 y66.1 true) : GItem)) ty2 rfl rfl (fun _ _ h => h) .here rfl ?_)
         refine rnf ?_
         refine w_region ?_
         refine oV (v_move rfl) ?_
         refine cal_inv h fun y69 hy69 h => ?_
         refine oT (t_call (r05_parser_must_w hy69) hT (.same rfl (.same rfl .nil)) (.cons (.there .here) (.cons (.there .here) (.cons (.there .here) (.cons (.there .here) .nil)))) (fun R H' hR => ?_))
         obtain ⟨t70, t71, rfl, rfl⟩ := hR
         refine rl_nil ?_
         exact hJ65 _ (t70, t71) h _ (join_imp 6 rfl rfl mod_nil (.cons .here (.cons .here (.cons .here (.cons .here (.cons .here (.cons .here (.cons .here (.cons .here .nil)))))))))
        ·
         refine w_skip ?_
         exact hJ65 _ (t62, t63) h _ (join_imp 0 rfl rfl mod_nil (.cons .here (.cons .here (.cons .here (.cons .here (.cons .here (.cons .here (.cons .here (.cons .here .nil)))))))))
    ·
     refine rl_condM (j := 23) h rfl (fun g51 h => ?_) (fun g51 h => ?_)
     ·
      refine op_take rfl rfl (dj := 23) rfl g51 (OpV.t (v_move rfl) ?_)
      refine cal_inv h fun y52 hy52 h => ?_
      refine op_take rfl rfl (dj := 23) rfl g51 (t_call (r05_parser_is_w hy52) hT (.same rfl (.same rfl .nil)) (.cons .here (.cons .here (.cons .here (.cons .here .nil)))) (fun R H' hR => ?_))
      obtain ⟨t53, t54, rfl, rfl⟩ := hR
      refine oV (v_pick_t rfl g51 rfl) ?_
      exact hJ50 _ (t53, t54) h _ (join_imp 3 rfl rfl (mod_cons (j := 26) rfl (fun _ _ h => h) mod_nil) (.cons .here (.cons .here (.cons .here (.cons .here (.cons .here (.cons .here (.cons .here .nil))))))))
     ·
      refine op_pass rfl (dj := 23) rfl g51 ?_
      refine op_pass rfl (dj := 23) rfl g51 ?_
      refine oV (v_pick_f rfl g51 rfl) ?_
      exact hJ50 _ (g8.1, g8.2.1) h _ (join_imp 3 rfl rfl (mod_cons (j := 26) rfl (fun _ _ h => h) mod_nil) (.cons .here (.cons .here (.cons .here (.cons .here (.cons .here (.cons .here (.cons .here .nil))))))))
   ·
    refine rl_condM (j := 16) h rfl (fun g48 h => ?_) (fun g48 h => ?_)
    ·
     refine op_take rfl rfl (dj := 16) rfl g48 (OpV.t (v_move rfl) ?_)
     refine op_take rfl rfl (dj := 16) rfl g48 (OpV.t (v_nilCheck rfl) ?_)
     refine op_take rfl rfl (dj := 16) rfl g48 (OpV.t (v_fa rfl pt133_0_7 fd133_7) ?_)
     refine op_take rfl rfl (dj := 16) rfl g48 (t_loadC (R := isv (q8.2.more)) ty4 rfl (.there (.there (.there (.there .here)))) (fun _ _ h => h) ?_)
     refine op_take rfl rfl (dj := 16) rfl g48 (OpV.t (v_not rfl) ?_)
     refine oV (v_pick_t rfl g48 rfl) ?_
     exact hJ47 _ () h _ (join_imp 6 rfl rfl (mod_cons (j := 22) rfl (fun _ _ h => h) mod_nil) (.cons .here (.cons .here (.cons .here (.cons .here (.cons .here (.cons .here (.cons .here .nil))))))))
    ·
     refine op_pass rfl (dj := 16) rfl g48 ?_
     refine op_pass rfl (dj := 16) rfl g48 ?_
     refine op_pass rfl (dj := 16) rfl g48 ?_
     refine op_pass rfl (dj := 16) rfl g48 ?_
     refine op_pass rfl (dj := 16) rfl g48 ?_
     refine oV (v_pick_f rfl g48 rfl) ?_
     exact hJ47 _ () h _ (join_imp 6 rfl rfl (mod_cons (j := 22) rfl (fun _ _ h => h) mod_nil) (.cons .here (.cons .here (.cons .here (.cons .here (.cons .here (.cons .here (.cons .here .nil))))))))
  ·
   refine w_exit ?_
   refine exi_nxt ?_
   refine eL9 _ _ ?_
   refine exi_block ?_
   exact hJ7 _ (g8.1, g8.2.1, g8.2.2.1, g8.2.2.2) h _ (join_imp 5 rfl rfl mod_nil (.cons .here (.cons .here (.cons .here (.cons .here (.cons .here (.cons .here (.cons .here .nil))))))))


theorem r05_Hex_w : ∀ {a_s : Str} {r : (List UInt8)}, r05_Hex a_s = some r → Ctr Tryd.prog 140 [isv (a_s)] [] (fun R H => R = oneOf [isv (r)] ∧ H = []) := by
 intro a_s r h
 unfold r05_Hex at h
 refine spec_intro Tryd.func140 rfl (by decide +kernel) (by rfl) fun w0 S0 hT => ?_
 refine wsr ?_
 refine oV (v_assign rfl) ?_
 refine rnf ?_
 refine wsr ?_
 refine oV (v_assign rfl) ?_
 refine rnf ?_
 refine w_seq ?_
 refine wsr ?_
 refine oV (v_assign rfl) ?_
 refine rnf ?_
 refine w_block ?_
 refine w_upd (upd_tok) ?_
 refine w_lp (ι := (List UInt8) × Int) (γ := Tok) (fun q1 g1 => [(3, appv g1 (q1.1)), (4, isv (q1.2))]) (fun q1 g1 => [tokE g1]) h (none) (mod_cons (j := 3) rfl nilv_appv (mod_cons (j := 4) rfl (fun _ _ h => h) mod_nil)) (.cons .here .nil) (fun L2 q1 g1 Q60 h hL2 eL2 rL2 => ?_)
 refine w_seq ?_
 refine wsr ?_
 refine oV (v_move rfl) ?_
 refine ck_inv h fun q31 h => ?_
 refine oV (v_add rfl rfl q31) ?_
 refine oV (v_move rfl) ?_
 refine oV (v_lenS st9 rfl) ?_
 refine oV (v_lss rfl rfl) ?_
 refine rnf ?_
 refine w_condM h rfl (fun _ h => ?_) (fun _ h => ?_)
 ·
  refine wkf ?_
  refine w_seq ?_
  refine w_block ?_
  refine wsr ?_
  refine oV (v_assign rfl) ?_
  refine rnf ?_
  refine w_seq ?_
  refine wsr ?_
  refine oV (v_move rfl) ?_
  refine oV (v_assign rfl) ?_
  refine rnf ?_
  refine w_block ?_
  refine w_lp (ι := UInt8 × Int) (γ := Unit) (fun q32 g32 => [(5, isv (q32.1)), (6, isv (q32.2))]) (fun q32 g32 => []) h () (mod_cons (j := 5) rfl (fun _ _ h => h) (mod_cons (j := 6) rfl (fun _ _ h => h) mod_nil)) .nil (fun L33 q32 g32 Q58 h hL33 eL33 rL33 => ?_)
  refine w_seq ?_
  refine wsr ?_
  refine oV (v_move rfl) ?_
  refine oV (v_move rfl) ?_
  refine ck_inv h fun q46 h => ?_
  refine oV (v_add rfl rfl q46) ?_
  refine oV (v_lss rfl rfl) ?_
  refine rnf ?_
  refine w_condM h rfl (fun _ h => ?_) (fun _ h => ?_)
  ·
   refine wkf ?_
   refine w_seq ?_
   refine w_block ?_
   refine wsr ?_
   refine oV (v_move rfl) ?_
   refine oV (v_move rfl) ?_
   refine cal_inv h fun y47 hy47 h => ?_
   refine oV (v_idxS y47 st9 rfl rfl hy47) ?_
   refine oV (v_sub8 rfl rfl) ?_
   refine oV (v_assign rfl) ?_
   refine rnf ?_
   refine w_seq ?_
   refine wsr ?_
   refine oV (v_move rfl) ?_
   refine oV (v_move rfl) ?_
   refine cal_inv h fun y48 hy48 h => ?_
   refine oV (v_idxS y48 st9 rfl rfl hy48) ?_
   refine oV (v_geq8 rfl rfl) ?_
   refine rnf ?_
   refine w_J (ι := UInt8) (γ := Unit) (fun q49 g49 => [(7, isv (q49))]) (fun q49 g49 => []) .nil h (fun q49 g49 h => ?_) (fun J50 h hJ50 => ?_)
   ·
    refine w_region ?_
    refine oV (v_move rfl) ?_
    refine asr_inv h fun q52 h => ?_
    refine oV (v_shl8 rfl rfl q52) ?_
    refine oV (v_move rfl) ?_
    refine oV (v_or8 rfl rfl) ?_
    refine oV (v_assign rfl) ?_
    refine rl_nil ?_
    refine fin_block ?_
    refine fin_nxt ?_
    refine w_region ?_
    refine oV (v_move rfl) ?_
    refine ck_inv h fun q53 h => ?_
    refine oV (v_add rfl rfl q53) ?_
    refine oV (v_assign rfl) ?_
    refine rl_nil ?_
    exact hL33 _ () h _ (join_imp 24 rfl rfl (mod_cons (j := 5) rfl (fun _ _ h => h) (mod_cons (j := 6) rfl (fun _ _ h => h) mod_nil)) (.cons .here .nil))
   ·
    refine w_condM h rfl (fun _ h => ?_) (fun _ h => ?_)
    ·
     refine w_region ?_
     refine oV (v_move rfl) ?_
     refine oV (v_move rfl) ?_
     refine cal_inv h fun y51 hy51 h => ?_
     refine oV (v_idxS y51 st9 rfl rfl hy51) ?_
     refine oV (v_sub8 rfl rfl) ?_
     refine oV (v_add8 rfl rfl) ?_
     refine oV (v_assign rfl) ?_
     refine rl_nil ?_
     exact hJ50 _ () h _ (join_imp 6 rfl rfl (mod_cons (j := 7) rfl (fun _ _ h => h) mod_nil) (.cons .here .nil))
    ·
     refine w_skip ?_
     exact hJ50 _ () h _ (join_imp 0 rfl rfl (mod_cons (j := 7) rfl (fun _ _ h => h) mod_nil) (.cons .here .nil))
  ·
   refine w_exit ?_
   refine exi_nxt ?_
   refine eL33 _ _ ?_
   refine exi_block ?_
   refine fin_nxt ?_
   refine w_region ?_
   refine oV (v_move rfl) ?_
   refine oV (v_move rfl) ?_
   refine oT (t_buildSlice (l := ([q32.1] : (List UInt8))) el63 (.cons rfl (fun _ _ h => h) .nil) rfl rfl ?_)
   refine asr_inv h fun q56 h => ?_
   refine oT (t_appC (l := q1.1) (m := ([q32.1] : (List UInt8))) ap63_63 rfl (fun _ _ h => h) rfl appv_isv .here q56 fun t55 => ?_)
   refine oV (v_assign rfl) ?_
   refine rl_nil ?_
   refine fin_block ?_
   refine fin_nxt ?_
   refine w_region ?_
   refine oV (v_move rfl) ?_
   refine ck_inv h fun q57 h => ?_
   refine oV (v_add rfl rfl q57) ?_
   refine oV (v_assign rfl) ?_
   refine rl_nil ?_
   exact hL2 _ (t55) h _ (join_imp 24 rfl rfl (mod_cons (j := 3) rfl (fun _ _ h => h) (mod_cons (j := 4) rfl (fun _ _ h => h) mod_nil)) (.cons .here .nil))
 ·
  refine w_exit ?_
  refine exi_nxt ?_
  refine eL2 _ _ ?_
  refine exi_block ?_
  refine fin_nxt ?_
  refine wsr ?_
  refine oV (v_move rfl) ?_
  refine oV (v_assign rfl) ?_
  refine rnf ?_
  refine w_ret ?_
  refine ret_post (.as rfl appv_isv .nil) .nil ?_
  obtain rfl := Option.some.inj h
  exact ⟨rfl, rfl⟩

end Go.Proofs.YtajbipkppngccaaDoor


namespace Go.Proofs.YtajbipkppngccaaDoor
open Go.Sy
set_option maxRecDepth 4000
theorem r05_parser_value_w : ∀ {a_x : GPar} {b_a_x : Nat} {t_a_x1 : Tok} {t_a_x2 : Tok} {v_a_x3 : Vt} {r : Val × GPar}, r05_parser_value a_x = some r → Ctr Tryd.prog 133 [ptrv b_a_x (Fld.id ((List GTok) × Int × (Str × Int × (TList Str) × (TList Int) × Vh) × Int × Int))] [boxE b_a_x ((a_x.l, a_x.at_, (a_x.m.name, a_x.m.tagging, (TList.mk t_a_x1 a_x.m.names), (TList.mk t_a_x2 a_x.m.types), (Vh.mk v_a_x3 a_x.m.nodes.length)), a_x.e, a_x.p) : ((List GTok) × Int × (Str × Int × (TList Str) × (TList Int) × Vh) × Int × Int)), tokE t_a_x1, tokE t_a_x2, vecE v_a_x3 (a_x.m.nodes : List GNode)] (fun R H => ∃ u1 : Tok, ∃ u2 : Tok, R = oneOf [isv (r.1)] ∧ H = [boxE b_a_x ((r.2.l, r.2.at_, (r.2.m.name, r.2.m.tagging, (TList.mk u1 r.2.m.names), (TList.mk u2 r.2.m.types), (Vh.mk v_a_x3 r.2.m.nodes.length)), r.2.e, r.2.p)), tokE u1, tokE u2, vecE v_a_x3 (r.2.m.nodes)]) := by
 intro a_x b_a_x t_a_x1 t_a_x2 v_a_x3 r h
 unfold r05_parser_value at h
 refine spec_intro Tryd.func133 rfl (by decide +kernel) (by rfl) fun w0 S0 hT => ?_
 refine wsr ?_
 refine oT (t_alloc _ ze67 fun b4 => ?_)
 refine rnf ?_
 refine wsr ?_
 refine oV (v_move rfl) ?_
 refine cal_inv h fun y5 hy5 h => ?_
 refine oT (t_call (r05_parser_now_w hy5) hT (.same rfl .nil) (.cons (.there .here) (.cons (.there .here) (.cons (.there .here) (.cons (.there .here) .nil)))) (fun R H' hR => ?_))
 obtain ⟨t6, t7, rfl, rfl⟩ := hR
 refine oT (t_alloc _ ze105 fun b8 => ?_)
 refine oT (t_storeC (y' := (y5.1 : GTok)) ty105 rfl rfl (fun _ _ h => h) .here rfl ?_)
 refine rl_upd (upd_imm 3 .here rfl) ?_
 refine rnf ?_
 refine w_seq ?_
 refine w_J (ι := GPar) (γ := Tok × Tok) (fun q9 g9 => []) (fun q9 g9 => [boxE b_a_x ((q9.l, q9.at_, (q9.m.name, q9.m.tagging, (TList.mk g9.1 q9.m.names), (TList.mk g9.2 q9.m.types), (Vh.mk v_a_x3 q9.m.nodes.length)), q9.e, q9.p) : ((List GTok) × Int × (Str × Int × (TList Str) × (TList Int) × Vh) × Int × Int)), tokE g9.1, tokE g9.2, vecE v_a_x3 (q9.m.nodes : List GNode)]) (.cons .here (.cons .here (.cons .here (.cons .here .nil)))) h (fun q9 g9 h => ?_) (fun J10 h hJ10 => ?_)
 ·
  refine wsr ?_
  refine oV (v_build (z := (Val.mk (0 : Int) (0 : Int) ([] : (List UInt8)) ([] : (List Val)) (0 : Int) ([] : (List Raw)))) rfl bu67 ze67 .nil) ?_
  refine oT (t_storeC (y' := ((Val.mk (0 : Int) (0 : Int) ([] : (List UInt8)) ([] : (List Val)) (0 : Int) ([] : (List Raw))) : Val)) ty67 rfl rfl (fun _ _ h => h) (.there (.there (.there (.there .here)))) rfl ?_)
  refine rnf ?_
  refine w_ret ?_
  refine ret_post (.cell rfl .here ty67 .nil) (.cons (.there .here) (.cons (.there .here) (.cons (.there .here) (.cons (.there .here) .nil)))) ?_
  obtain rfl := Option.some.inj h
  exact ⟨g9.1, g9.2, rfl, rfl⟩
 ·
  refine w_block ?_
  refine wsr ?_
  refine oV (v_move rfl) ?_
  refine oV (v_nilCheck rfl) ?_
  refine oV (v_fa rfl pt101_0_3 fd101_3) ?_
  refine oT (t_loadC (R := isv (y5.2.e)) ty30 rfl .here (fun _ _ h => h) ?_)
  refine oV (v_neq rfl rfl) ?_
  refine oV (v_assign rfl) ?_
  refine rnf ?_
  refine w_condM h rfl (fun _ h => ?_) (fun _ h => ?_)
  ·
   refine w_skip ?_
   refine fin_block ?_
   exact hJ10 _ (t6, t7) h _ (join_imp 6 rfl rfl mod_nil (.cons .here (.cons .here (.cons .here (.cons .here (.cons .here .nil))))))
  ·
   refine wsr ?_
   refine oV (v_move rfl) ?_
   refine cal_inv h fun y11 hy11 h => ?_
   refine oT (t_call (r05_parser_is_w hy11) hT (.same rfl (.same rfl .nil)) (.cons .here (.cons .here (.cons .here (.cons .here .nil)))) (fun R H' hR => ?_))
   obtain ⟨t12, t13, rfl, rfl⟩ := hR
   refine oV (v_assign rfl) ?_
   refine rnf ?_
   refine w_condM h rfl (fun _ h => ?_) (fun _ h => ?_)
   ·
    refine wsr ?_
    refine oV (v_build (z := (Val.mk (1 : Int) (1 : Int) ([] : (List UInt8)) ([] : (List Val)) (0 : Int) ([] : (List Raw)))) rfl bu67 ze67 (.cons Val.f0 fd67_0 rfl (fun _ _ h => h) (.cons Val.f1 fd67_1 rfl (fun _ _ h => h) .nil))) ?_
    refine oT (t_storeC (y' := ((Val.mk (1 : Int) (1 : Int) ([] : (List UInt8)) ([] : (List Val)) (0 : Int) ([] : (List Raw))) : Val)) ty67 rfl rfl (fun _ _ h => h) (.there (.there (.there (.there .here)))) rfl ?_)
    refine rnf ?_
    refine w_ret ?_
    refine ret_block ?_
    refine ret_nxt ?_
    refine ret_post (.cell rfl .here ty67 .nil) (.cons (.there .here) (.cons (.there .here) (.cons (.there .here) (.cons (.there .here) .nil)))) ?_
    obtain rfl := Option.some.inj h
    exact ⟨t12, t13, rfl, rfl⟩
   ·
    refine wsr ?_
    refine oV (v_move rfl) ?_
    refine cal_inv h fun y14 hy14 h => ?_
    refine oT (t_call (r05_parser_is_w hy14) hT (.same rfl (.same rfl .nil)) (.cons .here (.cons .here (.cons .here (.cons .here .nil)))) (fun R H' hR => ?_))
    obtain ⟨t15, t16, rfl, rfl⟩ := hR
    refine oV (v_assign rfl) ?_
    refine rnf ?_
    refine w_condM h rfl (fun _ h => ?_) (fun _ h => ?_)
    ·
     refine wsr ?_
     refine oV (v_build (z := (Val.mk (1 : Int) (0 : Int) ([] : (List UInt8)) ([] : (List Val)) (0 : Int) ([] : (List Raw)))) rfl bu67 ze67 (.cons Val.f0 fd67_0 rfl (fun _ _ h => h) .nil)) ?_
     refine oT (t_storeC (y' := ((Val.mk (1 : Int) (0 : Int) ([] : (List UInt8)) ([] : (List Val)) (0 : Int) ([] : (List Raw))) : Val)) ty67 rfl rfl (fun _ _ h => h) (.there (.there (.there (.there .here)))) rfl ?_)
     refine rnf ?_
     refine w_ret ?_
     refine ret_block ?_
     refine ret_nxt ?_
     refine ret_post (.cell rfl .here ty67 .nil) (.cons (.there .here) (.cons (.there .here) (.cons (.there .here) (.cons (.there .here) .nil)))) ?_
     obtain rfl := Option.some.inj h
     exact ⟨t15, t16, rfl, rfl⟩
    ·
     refine wsr ?_
     refine oV (v_move rfl) ?_
     refine cal_inv h fun y17 hy17 h => ?_
     refine oT (t_call (r05_parser_is_w hy17) hT (.same rfl (.same rfl .nil)) (.cons .here (.cons .here (.cons .here (.cons .here .nil)))) (fun R H' hR => ?_))
     obtain ⟨t18, t19, rfl, rfl⟩ := hR
     refine oV (v_assign rfl) ?_
     refine rnf ?_
     refine w_condM h rfl (fun _ h => ?_) (fun _ h => ?_)
     ·
      refine wsr ?_
      refine oV (v_build (z := (Val.mk (4 : Int) (0 : Int) ([] : (List UInt8)) ([] : (List Val)) (0 : Int) ([] : (List Raw)))) rfl bu67 ze67 (.cons Val.f0 fd67_0 rfl (fun _ _ h => h) .nil)) ?_
      refine oT (t_storeC (y' := ((Val.mk (4 : Int) (0 : Int) ([] : (List UInt8)) ([] : (List Val)) (0 : Int) ([] : (List Raw))) : Val)) ty67 rfl rfl (fun _ _ h => h) (.there (.there (.there (.there .here)))) rfl ?_)
      refine rnf ?_
      refine w_ret ?_
      refine ret_block ?_
      refine ret_nxt ?_
      refine ret_post (.cell rfl .here ty67 .nil) (.cons (.there .here) (.cons (.there .here) (.cons (.there .here) (.cons (.there .here) .nil)))) ?_
      obtain rfl := Option.some.inj h
      exact ⟨t18, t19, rfl, rfl⟩
     ·
      refine wsr ?_
      refine oV (v_fi rfl GTok.f0 fd105_0 rfl (z := y5.1.kind)) ?_
      refine oV (v_loadI ty3 rfl) ?_
      refine oV (v_eql rfl rfl) ?_
      refine oV (v_assign rfl) ?_
      refine rnf ?_
      refine w_condM h rfl (fun _ h => ?_) (fun _ h => ?_)
      ·
       refine wsr ?_
       refine oV (v_move rfl) ?_
       refine cal_inv h fun y20 hy20 h => ?_
       refine oT (t_call (r05_parser_next_w hy20) hT (.same rfl .nil) (.cons .here (.cons .here (.cons .here (.cons .here .nil)))) (fun R H' hR => ?_))
       obtain ⟨t21, t22, rfl, rfl⟩ := hR
       refine oV (v_field GTok.f1 rfl fd105_1 rfl) ?_
       refine cal_inv h fun y23 hy23 h => ?_
       refine oT (t_call (r05_Whole_w hy23) hT (.same rfl .nil) .nil (fun R H' hR => ?_))
       obtain ⟨rfl, rfl⟩ := hR
       refine oV (v_build (z := (Val.mk (2 : Int) y23 ([] : (List UInt8)) ([] : (List Val)) (0 : Int) ([] : (List Raw)))) rfl bu67 ze67 (.cons Val.f0 fd67_0 rfl (fun _ _ h => h) (.cons Val.f1 fd67_1 rfl (fun _ _ h => h) .nil))) ?_
       refine oT (t_storeC (y' := ((Val.mk (2 : Int) y23 ([] : (List UInt8)) ([] : (List Val)) (0 : Int) ([] : (List Raw))) : Val)) ty67 rfl rfl (fun _ _ h => h) (.there (.there (.there (.there .here)))) rfl ?_)
       refine rnf ?_
       refine w_ret ?_
       refine ret_block ?_
       refine ret_nxt ?_
       refine ret_post (.cell rfl .here ty67 .nil) (.cons (.there .here) (.cons (.there .here) (.cons (.there .here) (.cons (.there .here) .nil)))) ?_
       obtain rfl := Option.some.inj h
       exact ⟨t21, t22, rfl, rfl⟩
      ·
       refine wsr ?_
       refine oV (v_fi rfl GTok.f0 fd105_0 rfl (z := y5.1.kind)) ?_
       refine oV (v_loadI ty3 rfl) ?_
       refine oV (v_eql rfl rfl) ?_
       refine oV (v_assign rfl) ?_
       refine rnf ?_
       refine w_condM h rfl (fun _ h => ?_) (fun _ h => ?_)
       ·
        refine wsr ?_
        refine oV (v_move rfl) ?_
        refine cal_inv h fun y24 hy24 h => ?_
        refine oT (t_call (r05_parser_next_w hy24) hT (.same rfl .nil) (.cons .here (.cons .here (.cons .here (.cons .here .nil)))) (fun R H' hR => ?_))
        obtain ⟨t25, t26, rfl, rfl⟩ := hR
        refine oV (v_field GTok.f1 rfl fd105_1 rfl) ?_
        refine asr_inv h fun q27 h => ?_
        refine oT (t_sb Tryd.underlying9 Tryd.underlying63 Tryd.underlying5 rfl q27 ?_)
        refine oV (v_build (z := (Val.mk (3 : Int) (0 : Int) y24.1.text.b ([] : (List Val)) (0 : Int) ([] : (List Raw)))) rfl bu67 ze67 (.cons Val.f0 fd67_0 rfl (fun _ _ h => h) (.cons Val.f2 fd67_2 rfl (fun _ _ h => h) .nil))) ?_
        refine oT (t_storeC (y' := ((Val.mk (3 : Int) (0 : Int) y24.1.text.b ([] : (List Val)) (0 : Int) ([] : (List Raw))) : Val)) ty67 rfl rfl (fun _ _ h => h) (.there (.there (.there (.there .here)))) rfl ?_)
        refine rnf ?_
        refine w_ret ?_
        refine ret_block ?_
        refine ret_nxt ?_
        refine ret_post (.cell rfl .here ty67 .nil) (.cons (.there .here) (.cons (.there .here) (.cons (.there .here) (.cons (.there .here) .nil)))) ?_
        obtain rfl := Option.some.inj h
        exact ⟨t25, t26, rfl, rfl⟩
       ·
        refine wsr ?_
        refine oV (v_fi rfl GTok.f0 fd105_0 rfl (z := y5.1.kind)) ?_
        refine oV (v_loadI ty3 rfl) ?_
        refine oV (v_eql rfl rfl) ?_
        refine oV (v_assign rfl) ?_
        refine rnf ?_
        refine w_condM h rfl (fun _ h => ?_) (fun _ h => ?_)
        ·
         refine wsr ?_
         refine oV (v_move rfl) ?_
         refine cal_inv h fun y28 hy28 h => ?_
         refine oT (t_call (r05_parser_next_w hy28) hT (.same rfl .nil) (.cons .here (.cons .here (.cons .here (.cons .here .nil)))) (fun R H' hR => ?_))
         obtain ⟨t29, t30, rfl, rfl⟩ := hR
         refine oV (v_field GTok.f1 rfl fd105_1 rfl) ?_
         refine cal_inv h fun y31 hy31 h => ?_
         refine oT (t_call (r05_Hex_w hy31) hT (.same rfl .nil) .nil (fun R H' hR => ?_))
         obtain ⟨rfl, rfl⟩ := hR
         refine oV (v_build (z := (Val.mk (5 : Int) (0 : Int) y31 ([] : (List Val)) (0 : Int) ([] : (List Raw)))) rfl bu67 ze67 (.cons Val.f0 fd67_0 rfl (fun _ _ h => h) (.cons Val.f2 fd67_2 rfl (fun _ _ h => h) .nil))) ?_
         refine oT (t_storeC (y' := ((Val.mk (5 : Int) (0 : Int) y31 ([] : (List Val)) (0 : Int) ([] : (List Raw))) : Val)) ty67 rfl rfl (fun _ _ h => h) (.there (.there (.there (.there .here)))) rfl ?_)
         refine rnf ?_
         refine w_ret ?_
         refine ret_block ?_
         refine ret_nxt ?_
         refine ret_post (.cell rfl .here ty67 .nil) (.cons (.there .here) (.cons (.there .here) (.cons (.there .here) (.cons (.there .here) .nil)))) ?_
         obtain rfl := Option.some.inj h
         exact ⟨t29, t30, rfl, rfl⟩
        ·
         refine wsr ?_
         refine oV (v_fi rfl GTok.f0 fd105_0 rfl (z := y5.1.kind)) ?_
         refine oV (v_loadI ty3 rfl) ?_
         refine oV (v_eql rfl rfl) ?_
         refine oV (v_assign rfl) ?_
         refine rnf ?_
         refine w_condM h rfl (fun _ h => ?_) (fun _ h => ?_)
         ·
          refine wsr ?_
          refine oV (v_move rfl) ?_
          refine cal_inv h fun y32 hy32 h => ?_
          refine oT (t_call (r05_parser_next_w hy32) hT (.same rfl .nil) (.cons .here (.cons .here (.cons .here (.cons .here .nil)))) (fun R H' hR => ?_))
          obtain ⟨t33, t34, rfl, rfl⟩ := hR
          refine oV (v_field GTok.f1 rfl fd105_1 rfl) ?_
          refine asr_inv h fun q35 h => ?_
          refine oT (t_sb Tryd.underlying9 Tryd.underlying63 Tryd.underlying5 rfl q35 ?_)
          refine oV (v_build (z := (Val.mk (6 : Int) (0 : Int) y32.1.text.b ([] : (List Val)) (0 : Int) ([] : (List Raw)))) rfl bu67 ze67 (.cons Val.f0 fd67_0 rfl (fun _ _ h => h) (.cons Val.f2 fd67_2 rfl (fun _ _ h => h) .nil))) ?_
          refine oT (t_storeC (y' := ((Val.mk (6 : Int) (0 : Int) y32.1.text.b ([] : (List Val)) (0 : Int) ([] : (List Raw))) : Val)) ty67 rfl rfl (fun _ _ h => h) (.there (.there (.there (.there .here)))) rfl ?_)
          refine rnf ?_
          refine w_ret ?_
          refine ret_block ?_
          refine ret_nxt ?_
          refine ret_post (.cell rfl .here ty67 .nil) (.cons (.there .here) (.cons (.there .here) (.cons (.there .here) (.cons (.there .here) .nil)))) ?_
          obtain rfl := Option.some.inj h
          exact ⟨t33, t34, rfl, rfl⟩
         ·
          refine w_region ?_
          refine oV (v_move rfl) ?_
          refine oV (v_loadI ty105 rfl) ?_
          refine cal_inv h fun y36 hy36 h => ?_
          refine oT (t_call (r05_parser_fail_w hy36) hT (.same rfl (.same rfl (.same rfl .nil))) (.cons .here (.cons .here (.cons .here (.cons .here .nil)))) (fun R H' hR => ?_))
          obtain ⟨t37, t38, rfl, rfl⟩ := hR
          refine rl_nil ?_
          refine fin_block ?_
          exact hJ10 _ (t37, t38) h _ (join_imp 34 rfl rfl mod_nil (.cons .here (.cons .here (.cons .here (.cons .here (.cons .here .nil))))))

end Go.Proofs.YtajbipkppngccaaDoor

