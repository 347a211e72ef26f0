/- Walks, printed by mill.py. -/
import Derived.Test.YtnnijoepfgnlfaaDoorOgA
import Derived.Test.YtnnijoepfgnlfaaDoorOgB
import Derived.Test.YtnnijoepfgnlfaaDoorOgC
import Derived.Test.YtnnijoepfgnlfaaDoorOgD
import Derived.Test.YtnnijoepfgnlfaaDoorProg
import Derived.Shelf.Unicode.ValidAny
import Derived.KernelRfl
set_option linter.unusedVariables false
set_option linter.unusedSimpArgs false

namespace Go.Proofs.Q
open Go.Sy
set_option maxRecDepth 4000
end Go.Proofs.Q


namespace Go.Proofs.Q
open Go.Sy
set_option maxRecDepth 4000
end Go.Proofs.Q


namespace Go.Proofs.Q
open Go.Sy
def valRen : Shelf.Ren := ⟨fun x => bif Nat.beq x 196 then 96 else bif Nat.beq x 259 then 110 else x, fun x => bif Nat.beq x 0 then 0 else bif Nat.beq x 3 then 3 else bif Nat.beq x 4 then 4 else bif Nat.beq x 5 then 5 else bif Nat.beq x 9 then 9 else bif Nat.beq x 12 then 12 else bif Nat.beq x 46 then 24 else bif Nat.beq x 53 then 26 else bif Nat.beq x 119 then 164 else bif Nat.beq x 138 then 166 else bif Nat.beq x 139 then 167 else x, fun x => bif Nat.beq x 3 then 0 else bif Nat.beq x 4 then 1 else x⟩
set_option maxRecDepth 100000 in
theorem valLays : Lays.n196 Tryd.prog valRen := {
  mixed := by kernel_rfl
  f196 := Tryd.func96.trans (by kernel_rfl)
  f259 := Tryd.func110.trans (by kernel_rfl)
  t0 := Tryd.underlying0
  a0 := Tryd.isAgg0
  z0 := Tryd.sizeOf0
  v0 := Tryd.zeroValue0
  t3 := Tryd.underlying3
  a3 := Tryd.isAgg3
  z3 := Tryd.sizeOf3
  v3 := Tryd.zeroValue3
  t4 := Tryd.underlying4
  a4 := Tryd.isAgg4
  z4 := Tryd.sizeOf4
  v4 := Tryd.zeroValue4
  t5 := Tryd.underlying5
  a5 := Tryd.isAgg5
  z5 := Tryd.sizeOf5
  v5 := Tryd.zeroValue5
  t9 := Tryd.underlying9
  a9 := Tryd.isAgg9
  z9 := Tryd.sizeOf9
  v9 := Tryd.zeroValue9
  t12 := Tryd.underlying12
  a12 := Tryd.isAgg12
  z12 := Tryd.sizeOf12
  v12 := Tryd.zeroValue12
  t46 := Tryd.underlying24
  a46 := Tryd.isAgg24
  z46 := Tryd.sizeOf24
  v46 := Tryd.zeroValue24
  t53 := Tryd.underlying26
  a53 := Tryd.isAgg26
  z53 := Tryd.sizeOf26
  v53 := Tryd.zeroValue26
  t119 := Tryd.underlying164
  a119 := Tryd.isAgg164
  z119 := Tryd.sizeOf164
  t138 := Tryd.underlying166
  a138 := Tryd.isAgg166
  z138 := Tryd.sizeOf166
  v138 := Tryd.zeroValue166
  t139 := Tryd.underlying167
  a139 := Tryd.isAgg167
  z139 := Tryd.sizeOf167
  v139 := Tryd.zeroValue167
  g3 := by kernel_rfl
  g4 := by kernel_rfl }
theorem zgT : ∀ {a_s : Str} {r : Bool}, utf8_ValidString a_s = some r → Ctr Tryd.prog 96 [isv (a_s)] [] (fun R H => R = oneOf [isv (r)] ∧ H = []) := by
  intro s r h
  obtain rfl := Option.some.inj h
  refine ⟨⟨_, Tryd.func96, rfl, by decide +kernel⟩, fun S w vs hT hs hv ho => ?_⟩
  match vs, hv with
  | [v], ⟨hv, _⟩ =>
    obtain ⟨rfl, hl⟩ := zcQ.1 hv
    have hb := Any.utf8_ValidString valLays s.ba w (by rw [Str.ba_size]; unfold maxText at hl; omega) (hT w hs _ _ valLays.g3 valLays.g4)
    refine hb.mono fun e w' ⟨he, hk⟩ => ⟨.bool (Lib.validD s.ba.data.toList), S, _, [], ⟨rfl, rfl⟩, he, ?_, ⟨⟨hk.os, hk.tape, hk.output, hk.size, fun k hk' _ => hk.block k hk'⟩, Go.Sy.Grow.refl _ _ _, fun b cs hb => ?_⟩, zd9 _ _ _ _⟩
    · refine zaY.2 ?_
      show Value.bool (Lib.validD s.b.toArray.toList) = _
      rfl
    · obtain ⟨c, T, fr, h1, h2⟩ := hs b cs hb
      exact ⟨c, T, fr, by rw [hk.block b (Array.getElem?_eq_some_iff.1 h1).1]; exact h1, h2⟩
end Go.Proofs.Q


namespace Go.Proofs.Q
open Go.Sy
set_option maxRecDepth 4000
@[reducible] def zhe : Fld ((List GTok) × Int × (Str × Int × (TList Str) × (TList Int) × Vh) × Int × Int) (List GTok) := pf0
@[reducible] def zgb : Fld ((List GTok) × Int × (Str × Int × (TList Str) × (TList Int) × Vh) × Int × Int) Int := pf1
@[reducible] def zbF : Fld ((List GTok) × Int × (Str × Int × (TList Str) × (TList Int) × Vh) × Int × Int) Int := pf3
@[reducible] def zk1 : Fld ((List GTok) × Int × (Str × Int × (TList Str) × (TList Int) × Vh) × Int × Int) Int := pl4
@[reducible] def zcg : Fld ((List GTok) × Int × (Str × Int × (TList Str) × (TList Int) × Vh) × Int × Int) (Str × Int × (TList Str) × (TList Int) × Vh) := pf2
@[reducible] def znW : Fld (Str × Int × (TList Str) × (TList Int) × Vh) Str := pf0
@[reducible] def zlw : Fld (Str × Int × (TList Str) × (TList Int) × Vh) Int := pf1
@[reducible] def ziQ : Fld (Str × Int × (TList Str) × (TList Int) × Vh) (TList Str) := pf2
@[reducible] def zf4 : Fld (Str × Int × (TList Str) × (TList Int) × Vh) Vh := pl4
@[reducible] def zhE : Fld (Int × Str × GMark × GCon × (TList GItem) × (TList GFld) × Int × Bool × Int) GMark := pf2
@[reducible] def zb8 : Fld (Int × Str × GMark × GCon × (TList GItem) × (TList GFld) × Int × Bool × Int) Int := pf0
@[reducible] def zgB : Fld (Int × Str × GMark × GCon × (TList GItem) × (TList GFld) × Int × Bool × Int) GCon := pf3
@[reducible] def zes : Fld (Int × Str × GMark × GCon × (TList GItem) × (TList GFld) × Int × Bool × Int) (TList GItem) := pf4
@[reducible] def zdS : Fld (Int × Str × GMark × GCon × (TList GItem) × (TList GFld) × Int × Bool × Int) Bool := pf7
@[reducible] def zgm : Fld (Int × Str × GMark × GCon × (TList GItem) × (TList GFld) × Int × Bool × Int) Int := pf6
@[reducible] def zfe : Fld (Int × Str × GMark × GCon × (TList GItem) × (TList GFld) × Int × Bool × Int) (TList GFld) := pf5
@[reducible] def znp : Fld (Int × Str × GMark × GCon × (TList GItem) × (TList GFld) × Int × Bool × Int) Int := pl8
@[reducible] def znB : Fld (Int × Str × GMark × GCon × (TList GItem) × (TList GFld) × Int × Bool × Int) Str := pf1
@[reducible] def zlj : Fld (Str × Int × (TList Str) × (TList Int) × Vh) (TList Int) := pf3
@[reducible] def zoF : Fld ((List GTok) × Int × (Str × Int × (TList Str) × (TList Int) × (List GNode)) × Int × Int) (Str × Int × (TList Str) × (TList Int) × (List GNode)) := pf2
theorem ze30 : ZeroOk Tryd.prog 30 ((GMod.mk (Str.mk []) (0 : Int) ([] : (List Str)) ([] : (List Int)) ([] : (List GNode))) : GMod) := zbS (cs := [.string ⟨#[]⟩, .int .i64 0, .slice none 0 0, .slice none 0 0, .slice none 0 0]) rfl (by kernel_rfl) (zP ze8 (zP zaP (zP zbL (zP zbL zbL))))
theorem st9 : StrB Tryd.prog 9 = true := by kernel_rfl
theorem eq5 : EqOk Tryd.prog 5 UInt8 := EqOk.u8
theorem zlL : FldB Tryd.prog 80 2 2 1 false = true := by kernel_rfl
theorem bu80 : BuildB Tryd.prog 80 = true := by kernel_rfl
theorem ze80 : ZeroOk Tryd.prog 80 ((GTok.mk (0 : Int) (Str.mk []) (0 : Int)) : GTok) := zbS (cs := [.int .i64 0, .string ⟨#[]⟩, .int .i64 0]) rfl (by kernel_rfl) (zP zaP (zP ze8 zaP))
theorem el70 : elB Tryd.prog 70 3 = true := by kernel_rfl
theorem zmu : appB Tryd.prog 70 70 3 = true := by kernel_rfl
theorem ty80 : TyB Tryd.prog 80 3 true = true := by kernel_rfl
theorem moOrd : Tryd.prog.follows .mixedOrders = true := by kernel_rfl
theorem zcz : FldB Tryd.prog 80 0 0 1 false = true := by kernel_rfl
theorem ty3 : TyB Tryd.prog 3 1 false = true := by kernel_rfl
theorem zdJ : FldB Tryd.prog 80 1 1 1 false = true := by kernel_rfl
theorem ty9 : TyB Tryd.prog 9 1 false = true := by kernel_rfl
theorem el27 : elB Tryd.prog 27 1 = true := by kernel_rfl
theorem sl27 : SlB Tryd.prog 27 1 false = true := by kernel_rfl
theorem eq9 : EqOk Tryd.prog 9 Str := EqOk.str
theorem bu30 : BuildB Tryd.prog 30 = true := by kernel_rfl
theorem ty30 : TyB Tryd.prog 30 5 true = true := by kernel_rfl
theorem zki : FldB Tryd.prog 75 0 0 1 false = true := by kernel_rfl
theorem bu75 : BuildB Tryd.prog 75 = true := by kernel_rfl
theorem zqh : ZeroOk Tryd.prog 75 ((([] : (List GTok)), (0 : Int), ((Str.mk []), (0 : Int), (TList.mk none ([] : (List Str))), (TList.mk none ([] : (List Int))), (Vh.mk none 0)), (0 : Int), (0 : Int)) : ((List GTok) × Int × (Str × Int × (TList Str) × (TList Int) × Vh) × Int × Int)) := zbS (cs := [.slice none 0 0, .int .i64 0, .string ⟨#[]⟩, .int .i64 0, .slice none 0 0, .slice none 0 0, .slice none 0 0, .int .i64 0, .int .i64 0]) rfl (by kernel_rfl) (zP zbL (zP zaP (zP (zP ze8 (zP zaP (zP zjG (zP zjG zpR)))) (zP zaP zaP))))
theorem ty70 : TyB Tryd.prog 70 1 false = true := by kernel_rfl
theorem ziS : FldB Tryd.prog 75 1 1 1 false = true := by kernel_rfl
theorem sl70 : SlB Tryd.prog 70 3 true = true := by kernel_rfl
theorem zcF : FldB Tryd.prog 75 3 7 1 false = true := by kernel_rfl
theorem ty31 : TyB Tryd.prog 31 1 false = true := by kernel_rfl
theorem zn6 : FldB Tryd.prog 75 4 8 1 false = true := by kernel_rfl
theorem zdM : FldB Tryd.prog 75 2 2 5 true = true := by kernel_rfl
theorem znH : FldB Tryd.prog 30 0 0 1 false = true := by kernel_rfl
theorem zkD : FldB Tryd.prog 30 1 1 1 false = true := by kernel_rfl
theorem zdD : FldB Tryd.prog 30 2 2 1 false = true := by kernel_rfl
theorem ty27 : TyB Tryd.prog 27 1 false = true := by kernel_rfl
theorem zfQ : FldB Tryd.prog 30 4 4 1 false = true := by kernel_rfl
theorem ty28 : TyB Tryd.prog 28 1 false = true := by kernel_rfl
theorem sl28 : SlB Tryd.prog 28 16 true = true := by kernel_rfl
theorem bu108 : BuildB Tryd.prog 108 = true := by kernel_rfl
theorem ze108 : ZeroOk Tryd.prog 108 ((GNode.mk (0 : Int) (Str.mk []) (GMark.mk false (0 : Int) (0 : Int)) (GCon.mk false false false false (0 : Int) (0 : Int)) ([] : (List GItem)) ([] : (List GFld)) (0 : Int) false (0 : Int)) : GNode) := zbS (cs := [.int .i64 0, .string ⟨#[]⟩, .bool false, .int .i64 0, .int .i64 0, .bool false, .bool false, .bool false, .bool false, .int .i64 0, .int .i64 0, .slice none 0 0, .slice none 0 0, .int .i64 0, .bool false, .int .i64 0]) rfl (by kernel_rfl) (zP zaP (zP ze8 (zP (zP zbm (zP zaP zaP)) (zP (zP zbm (zP zbm (zP zbm (zP zbm (zP zaP zaP))))) (zP zbL (zP zbL (zP zaP (zP zbm zaP))))))))
theorem el28 : elB Tryd.prog 28 16 = true := by kernel_rfl
theorem zpw : appB Tryd.prog 28 28 16 = true := by kernel_rfl
theorem zmR : ZeroOk Tryd.prog 108 (((0 : Int), (Str.mk []), (GMark.mk false (0 : Int) (0 : Int)), (GCon.mk false false false false (0 : Int) (0 : Int)), (TList.mk none ([] : (List GItem))), (TList.mk none ([] : (List GFld))), (0 : Int), false, (0 : Int)) : (Int × Str × GMark × GCon × (TList GItem) × (TList GFld) × Int × Bool × Int)) := zbS (cs := [.int .i64 0, .string ⟨#[]⟩, .bool false, .int .i64 0, .int .i64 0, .bool false, .bool false, .bool false, .bool false, .int .i64 0, .int .i64 0, .slice none 0 0, .slice none 0 0, .int .i64 0, .bool false, .int .i64 0]) rfl (by kernel_rfl) (zP zaP (zP ze8 (zP (zP zbm (zP zaP zaP)) (zP (zP zbm (zP zbm (zP zbm (zP zbm (zP zaP zaP))))) (zP zjG (zP zjG (zP zaP (zP zbm zaP))))))))
theorem ty108 : TyB Tryd.prog 108 16 true = true := by kernel_rfl
theorem zmv : FldB Tryd.prog 106 1 1 1 false = true := by kernel_rfl
theorem zkd : FldB Tryd.prog 106 0 0 1 false = true := by kernel_rfl
theorem bu106 : BuildB Tryd.prog 106 = true := by kernel_rfl
theorem ze106 : ZeroOk Tryd.prog 106 ((GMark.mk false (0 : Int) (0 : Int)) : GMark) := zbS (cs := [.bool false, .int .i64 0, .int .i64 0]) rfl (by kernel_rfl) (zP zbm (zP zaP zaP))
theorem ze2 : FldB Tryd.prog 108 2 2 3 true = true := by kernel_rfl
theorem ty106 : TyB Tryd.prog 106 3 true = true := by kernel_rfl
theorem zid : FldB Tryd.prog 106 2 2 1 false = true := by kernel_rfl
theorem zbE : FldB Tryd.prog 108 0 0 1 false = true := by kernel_rfl
theorem ze50 : ZeroOk Tryd.prog 50 ((GCon.mk false false false false (0 : Int) (0 : Int)) : GCon) := zbS (cs := [.bool false, .bool false, .bool false, .bool false, .int .i64 0, .int .i64 0]) rfl (by kernel_rfl) (zP zbm (zP zbm (zP zbm (zP zbm (zP zaP zaP)))))
theorem bu50 : BuildB Tryd.prog 50 = true := by kernel_rfl
theorem ty50 : TyB Tryd.prog 50 6 true = true := by kernel_rfl
theorem zlS : FldB Tryd.prog 50 0 0 1 false = true := by kernel_rfl
theorem ziT : FldB Tryd.prog 50 1 1 1 false = true := by kernel_rfl
theorem ty4 : TyB Tryd.prog 4 1 false = true := by kernel_rfl
theorem zhy : FldB Tryd.prog 50 4 4 1 false = true := by kernel_rfl
theorem ty2 : TyB Tryd.prog 2 1 false = true := by kernel_rfl
theorem ziJ : FldB Tryd.prog 50 2 2 1 false = true := by kernel_rfl
theorem zhP : FldB Tryd.prog 50 5 5 1 false = true := by kernel_rfl
theorem zpV : FldB Tryd.prog 50 3 3 1 false = true := by kernel_rfl
theorem zgA : FldB Tryd.prog 108 3 5 6 true = true := by kernel_rfl
theorem zd1 : FldB Tryd.prog 108 4 11 1 false = true := by kernel_rfl
theorem ty51 : TyB Tryd.prog 51 1 false = true := by kernel_rfl
theorem sl51 : SlB Tryd.prog 51 3 true = true := by kernel_rfl
theorem zep : FldB Tryd.prog 108 7 14 1 false = true := by kernel_rfl
theorem zeZ : FldB Tryd.prog 108 6 13 1 false = true := by kernel_rfl
theorem zj5 : FldB Tryd.prog 67 0 0 1 false = true := by kernel_rfl
theorem bu67 : BuildB Tryd.prog 67 = true := by kernel_rfl
theorem ze67 : ZeroOk Tryd.prog 67 ((GItem.mk (Str.mk []) (0 : Int) false) : GItem) := zbS (cs := [.string ⟨#[]⟩, .int .i64 0, .bool false]) rfl (by kernel_rfl) (zP ze8 (zP zaP zbm))
theorem ty67 : TyB Tryd.prog 67 3 true = true := by kernel_rfl
theorem zhN : FldB Tryd.prog 67 2 2 1 false = true := by kernel_rfl
theorem zdL : FldB Tryd.prog 67 1 1 1 false = true := by kernel_rfl
theorem el51 : elB Tryd.prog 51 3 = true := by kernel_rfl
theorem zib : appB Tryd.prog 51 51 3 = true := by kernel_rfl
theorem zcX : FldB Tryd.prog 108 5 12 1 false = true := by kernel_rfl
theorem ty52 : TyB Tryd.prog 52 1 false = true := by kernel_rfl
theorem sl52 : SlB Tryd.prog 52 11 true = true := by kernel_rfl
theorem zl3 : FldB Tryd.prog 65 5 10 1 false = true := by kernel_rfl
theorem zlR : FldB Tryd.prog 65 0 0 1 false = true := by kernel_rfl
theorem bu65 : BuildB Tryd.prog 65 = true := by kernel_rfl
theorem ze65 : ZeroOk Tryd.prog 65 ((GFld.mk (Str.mk []) (0 : Int) false false (Val.mk (0 : Int) (0 : Int) ([] : (List UInt8)) ([] : (List Val)) (0 : Int) ([] : (List Raw))) (0 : Int)) : GFld) := zbS (cs := [.string ⟨#[]⟩, .int .i64 0, .bool false, .bool false, .int .i64 0, .int .i64 0, .slice none 0 0, .slice none 0 0, .int .i64 0, .slice none 0 0, .int .i64 0]) rfl (by kernel_rfl) (zP ze8 (zP zaP (zP zbm (zP zbm (zP znV zaP)))))
theorem ty65 : TyB Tryd.prog 65 11 true = true := by kernel_rfl
theorem zc9 : FldB Tryd.prog 65 1 1 1 false = true := by kernel_rfl
theorem zn9 : FldB Tryd.prog 65 2 2 1 false = true := by kernel_rfl
theorem ze63 : ZeroOk Tryd.prog 63 ((Val.mk (0 : Int) (0 : Int) ([] : (List UInt8)) ([] : (List Val)) (0 : Int) ([] : (List Raw))) : Val) := zbS (cs := [.int .i64 0, .int .i64 0, .slice none 0 0, .slice none 0 0, .int .i64 0, .slice none 0 0]) rfl (by kernel_rfl) znV
theorem zjN : FldB Tryd.prog 63 1 1 1 false = true := by kernel_rfl
theorem zfJ : FldB Tryd.prog 63 0 0 1 false = true := by kernel_rfl
theorem bu63 : BuildB Tryd.prog 63 = true := by kernel_rfl
theorem ty63 : TyB Tryd.prog 63 6 true = true := by kernel_rfl
theorem zhK : FldB Tryd.prog 63 2 2 1 false = true := by kernel_rfl
theorem el59 : elB Tryd.prog 59 1 = true := by kernel_rfl
theorem zps : appB Tryd.prog 59 59 1 = true := by kernel_rfl
theorem zmk : FldB Tryd.prog 65 3 3 1 false = true := by kernel_rfl
theorem zml : FldB Tryd.prog 65 4 4 6 true = true := by kernel_rfl
theorem el52 : elB Tryd.prog 52 11 = true := by kernel_rfl
theorem zj7 : appB Tryd.prog 52 52 11 = true := by kernel_rfl
theorem zjZ : FldB Tryd.prog 108 8 15 1 false = true := by kernel_rfl
theorem zkc : FldB Tryd.prog 108 1 1 1 false = true := by kernel_rfl
theorem zkC : appB Tryd.prog 27 27 1 = true := by kernel_rfl
theorem zi0 : FldB Tryd.prog 30 3 3 1 false = true := by kernel_rfl
theorem ty22 : TyB Tryd.prog 22 1 false = true := by kernel_rfl
theorem el22 : elB Tryd.prog 22 1 = true := by kernel_rfl
theorem zcW : appB Tryd.prog 22 22 1 = true := by kernel_rfl
end Go.Proofs.Q


namespace Go.Proofs.Q
open Go.Sy
set_option maxRecDepth 4000
theorem sl22 : SlB Tryd.prog 22 1 false = true := by kernel_rfl
theorem el45 : elB Tryd.prog 45 1 = true := by kernel_rfl
theorem zii : appB Tryd.prog 45 45 1 = true := by kernel_rfl
theorem sl45 : SlB Tryd.prog 45 1 false = true := by kernel_rfl
end Go.Proofs.Q


namespace Go.Proofs.Q
open Go.Sy
set_option maxRecDepth 4000
end Go.Proofs.Q


namespace Go.Proofs.Q
open Go.Sy
set_option maxRecDepth 4000
theorem el114 : elB Tryd.prog 114 1 = true := by kernel_rfl
theorem sl114 : SlB Tryd.prog 114 1 false = true := by kernel_rfl
end Go.Proofs.Q


namespace Go.Proofs.Q
open Go.Sy
set_option maxRecDepth 4000
@[reducible] def zdP : Fld (GMod × Vh × Int) GMod := pf0
@[reducible] def zkN : Fld (Str × (List Str) × (TList Int) × (List GTyp)) Str := pf0
@[reducible] def zk4 : Fld (Str × (List Str) × (TList Int) × (List GTyp)) (List Str) := pf1
@[reducible] def zhk : Fld (Str × (List Str) × (TList Int) × (List GTyp)) (TList Int) := pf2
@[reducible] def zb7 : Fld (GMod × Vh × Int) Int := pl2
@[reducible] def zbC : Fld (GMod × Vh × Int) Vh := pf1
@[reducible] def zoj : Fld (Str × (List Str) × (TList Int) × (List GTyp)) (List GTyp) := pl3
theorem ze40 : ZeroOk Tryd.prog 40 ((GTab.mk (Str.mk []) ([] : (List Str)) ([] : (List Int)) ([] : (List GTyp))) : GTab) := zbS (cs := [.string ⟨#[]⟩, .slice none 0 0, .slice none 0 0, .slice none 0 0]) rfl (by kernel_rfl) (zP ze8 (zP zbL (zP zbL zbL)))
theorem bu40 : BuildB Tryd.prog 40 = true := by kernel_rfl
theorem ty40 : TyB Tryd.prog 40 4 true = true := by kernel_rfl
theorem zfw : FldB Tryd.prog 120 0 0 5 true = true := by kernel_rfl
theorem bu120 : BuildB Tryd.prog 120 = true := by kernel_rfl
theorem zpc : ZeroOk Tryd.prog 120 (((GMod.mk (Str.mk []) (0 : Int) ([] : (List Str)) ([] : (List Int)) ([] : (List GNode))), (Vh.mk none 0), (0 : Int)) : (GMod × Vh × Int)) := zbS (cs := [.string ⟨#[]⟩, .int .i64 0, .slice none 0 0, .slice none 0 0, .slice none 0 0, .slice none 0 0, .int .i64 0]) rfl (by kernel_rfl) (zP (zP ze8 (zP zaP (zP zbL (zP zbL zbL)))) (zP zpR zaP))
theorem znU : FldB Tryd.prog 40 0 0 1 false = true := by kernel_rfl
theorem zoy : FldB Tryd.prog 40 1 1 1 false = true := by kernel_rfl
theorem zjP : ZeroOk Tryd.prog 40 (((Str.mk []), ([] : (List Str)), (TList.mk none ([] : (List Int))), ([] : (List GTyp))) : (Str × (List Str) × (TList Int) × (List GTyp))) := zbS (cs := [.string ⟨#[]⟩, .slice none 0 0, .slice none 0 0, .slice none 0 0]) rfl (by kernel_rfl) (zP ze8 (zP zbL (zP zjG zbL)))
theorem zky : FldB Tryd.prog 40 2 2 1 false = true := by kernel_rfl
theorem zc6 : FldB Tryd.prog 120 2 6 1 false = true := by kernel_rfl
theorem zcl : FldB Tryd.prog 120 1 5 1 false = true := by kernel_rfl
theorem ty38 : TyB Tryd.prog 38 1 false = true := by kernel_rfl
theorem sl38 : SlB Tryd.prog 38 13 true = true := by kernel_rfl
theorem zjT : FldB Tryd.prog 54 6 11 1 false = true := by kernel_rfl
theorem zhw : FldB Tryd.prog 54 5 10 1 false = true := by kernel_rfl
theorem zlY : FldB Tryd.prog 54 2 2 6 true = true := by kernel_rfl
theorem zeJ : FldB Tryd.prog 54 0 0 1 false = true := by kernel_rfl
theorem bu54 : BuildB Tryd.prog 54 = true := by kernel_rfl
theorem ze54 : ZeroOk Tryd.prog 54 ((GTyp.mk (0 : Int) ([] : (List Tag)) (GCon.mk false false false false (0 : Int) (0 : Int)) ([] : (List GItem)) ([] : (List GFld)) (0 : Int) false (0 : Int)) : GTyp) := zbS (cs := [.int .i64 0, .slice none 0 0, .bool false, .bool false, .bool false, .bool false, .int .i64 0, .int .i64 0, .slice none 0 0, .slice none 0 0, .int .i64 0, .bool false, .int .i64 0]) rfl (by kernel_rfl) (zP zaP (zP zbL (zP (zP zbm (zP zbm (zP zbm (zP zbm (zP zaP zaP))))) (zP zbL (zP zbL (zP zaP (zP zbm zaP)))))))
theorem ty54 : TyB Tryd.prog 54 13 true = true := by kernel_rfl
theorem ze57 : ZeroOk Tryd.prog 57 (Tag.zero : Tag) := zbS (cs := [.int .i64 0, .int .i64 0]) rfl (by kernel_rfl) (zP zaP zaP)
theorem zeN : FldB Tryd.prog 57 1 1 1 false = true := by kernel_rfl
theorem bu57 : BuildB Tryd.prog 57 = true := by kernel_rfl
theorem ty57 : TyB Tryd.prog 57 2 true = true := by kernel_rfl
theorem el48 : elB Tryd.prog 48 2 = true := by kernel_rfl
theorem ze7 : FldB Tryd.prog 54 1 1 1 false = true := by kernel_rfl
theorem ty48 : TyB Tryd.prog 48 1 false = true := by kernel_rfl
theorem el38 : elB Tryd.prog 38 13 = true := by kernel_rfl
theorem zmO : appB Tryd.prog 38 38 13 = true := by kernel_rfl
theorem zpX : FldB Tryd.prog 54 7 12 1 false = true := by kernel_rfl
theorem zka : FldB Tryd.prog 54 3 8 1 false = true := by kernel_rfl
theorem ty59 : TyB Tryd.prog 59 1 false = true := by kernel_rfl
theorem sl59 : SlB Tryd.prog 59 1 false = true := by kernel_rfl
theorem ty5 : TyB Tryd.prog 5 1 false = true := by kernel_rfl
theorem zln : Tryd.prog.globals.findIdx? (·.name == "unicode/utf8.first") = some 0 := by kernel_rfl
theorem ar164 : ArrB Tryd.prog 164 256 1 false = true := by kernel_rfl
theorem zfW : Tryd.prog.globals.findIdx? (·.name == "unicode/utf8.acceptRanges") = some 1 := by kernel_rfl
theorem ar167 : ArrB Tryd.prog 167 16 2 true = true := by kernel_rfl
theorem ty166 : TyB Tryd.prog 166 2 true = true := by kernel_rfl
theorem ze166 : ZeroOk Tryd.prog 166 (GAcc.zero : GAcc) := zbS (cs := [.int .u8 0, .int .u8 0]) rfl (by kernel_rfl) (zP zpQ zpQ)
theorem zkg : FldB Tryd.prog 166 0 0 1 false = true := by kernel_rfl
theorem zjR : FldB Tryd.prog 166 1 1 1 false = true := by kernel_rfl
theorem sl48 : SlB Tryd.prog 48 2 true = true := by kernel_rfl
theorem zi8 : FldB Tryd.prog 57 0 0 1 false = true := by kernel_rfl
theorem zgu : appB Tryd.prog 48 48 2 = true := by kernel_rfl
theorem zch : FldB Tryd.prog 54 4 9 1 false = true := by kernel_rfl
theorem el179 : elB Tryd.prog 179 1 = true := by kernel_rfl
theorem znz : appB Tryd.prog 179 179 1 = true := by kernel_rfl
theorem sl179 : SlB Tryd.prog 179 1 false = true := by kernel_rfl
theorem eq57 : EqOk Tryd.prog 57 Tag := Tag.eqOk Tryd.underlying57 (by kernel_rfl) (by kernel_rfl) Tryd.underlying3
theorem znx : appB Tryd.prog 114 114 1 = true := by kernel_rfl
theorem zja : FldB Tryd.prog 40 3 3 1 false = true := by kernel_rfl
end Go.Proofs.Q


namespace Go.Proofs.Q
open Go.Sy
set_option maxRecDepth 4000
theorem zkn : FldB Tryd.prog 146 0 0 1 false = true := by kernel_rfl
theorem bu146 : BuildB Tryd.prog 146 = true := by kernel_rfl
theorem ze146 : ZeroOk Tryd.prog 146 ((GTys.mk ([] : (List GTyp))) : GTys) := zbS (cs := [.slice none 0 0]) rfl (by kernel_rfl) zbL
theorem zp0 : ZeroOk Tryd.prog 48 ((TList.mk none ([] : (List Tag))) : (TList Tag)) := zlf (v := .slice none 0 0) rfl (by kernel_rfl) zjG
theorem ze3 : ZeroOk Tryd.prog 3 ((0 : Int) : Int) := zlf (v := .int .i64 0) rfl (by kernel_rfl) zaP
end Go.Proofs.Q


namespace Go.Proofs.Q
open Go.Sy
set_option maxRecDepth 4000
end Go.Proofs.Q


namespace Go.Proofs.Q
open Go.Sy
set_option maxRecDepth 4000
end Go.Proofs.Q


namespace Go.Proofs.Q
open Go.Sy
set_option maxRecDepth 4000
end Go.Proofs.Q


namespace Go.Proofs.Q
open Go.Sy
set_option maxRecDepth 4000
theorem zd8 : ∀ {a_s : Str} {a_i : Int} {r : UInt8}, zdw a_s a_i = some r → Ctr Tryd.prog 67 [isv (a_s), isv (a_i)] [] (fun R H => R = oneOf [isv (r)] ∧ H = []) := by
 intro a_s a_i r h
 unfold zdw at h
 refine zr Tryd.func67 rfl fun w0 S0 hT => wsr (oA rfl (rnf (zn (wsr (oM rfl (oV (zaj rfl rfl) (oM rfl ?_)))))))
 refine zau (jb 12) je .nil h 5 rfl (fun q1 g1 h => ?_) (fun J2 h hJ2 => ?_)
 ·refine rnf (zf h rfl (fun _ h => ?_) (fun _ h => ?_))
  ·refine wsr (oA rfl (rnf (zM (zB ?_))))
   cases h
   exact zo (.tmp rfl .nil) .nil ⟨rfl, rfl⟩
  refine wkf (wsr (oM rfl (oM rfl (zb h fun y4 hy4 h => oV (zbI y4 st9 rfl rfl hy4) (oA rfl (rnf (zM ?_)))))))
  cases h
  exact zo (.tmp rfl .nil) .nil ⟨rfl, rfl⟩
 refine zC (j := 7) h rfl (fun g3 h => ?_) (fun g3 h => ?_)
 ·exact oP 7 rfl rfl g3 (oP 7 rfl rfl g3 (oP 7 rfl rfl g3 (oP 7 rfl rfl g3 (oV (zs rfl g3 rfl) (hJ2 _ () h _ (ji 5 12 rfl rfl rfl))))))
 exact oK 7 rfl rfl rfl g3 (zw rfl) (oK 7 rfl rfl rfl g3 (zw rfl) (oK 7 rfl rfl rfl g3 (zdb st9 rfl) (oK 7 rfl rfl rfl g3 (ze4 rfl rfl) (oV (zt rfl g3 rfl) (hJ2 _ () h _ (ji 5 12 rfl rfl rfl))))))


theorem zk5 : ∀ {a_s : Str} {a_i : Int} {r : Int}, zdY a_s a_i = some r → Ctr Tryd.prog 48 [isv (a_s), isv (a_i)] [] (fun R H => R = oneOf [isv (r)] ∧ H = []) := by
 intro a_s a_i r h
 unfold zdY at h
 refine zr Tryd.func48 rfl fun w0 S0 hT => wsr (oA rfl (rnf (zn (zu (za5 (ι := Int) (γ := Unit) (fun q1 g1 => [(1, isv (q1))]) (fun q1 g1 => []) h () (za (j := 1) rfl hI zd) .nil (fun L2 q1 g1 Q99 h hL2 eL2 rL2 => zn (wsr ?_)))))))
 refine oM rfl (oM rfl (oV (zdb st9 rfl) (oV (zaj rfl rfl) (rnf (zf h rfl (fun _ h => ?_) (fun _ h => ?_))))))
 ·refine wkf (zu (zu (wsr (oM rfl (oM rfl (zb h fun y51 hy51 h => oV (zbI y51 st9 rfl rfl hy51) (oV (zco eq5 rfl rfl) ?_)))))))
  refine oM rfl (zau (jb 20) je .nil h 5 rfl (fun q52 g52 h => ?_) (fun J53 h hJ53 => ?_))
  ·refine oM rfl (zau (jb 26) je .nil h 5 rfl (fun q56 g56 h => ?_) (fun J57 h hJ57 => ?_))
   ·refine oM rfl (zau (jb 32) je .nil h 5 rfl (fun q60 g60 h => ?_) (fun J61 h hJ61 => ?_))
    ·refine oA rfl (rnf (zf h rfl (fun _ h => ?_) (fun _ h => ?_)))
     ·exact zj (oM rfl (zD h fun q64 h => oV (zaf rfl rfl q64) (oA rfl (zx (zk (zk (hL2 _ () h _ (ji 19 1 rfl rfl rfl))))))))
     refine wsr (oM rfl (oM rfl (zb h fun y65 hy65 h => oV (zbI y65 st9 rfl rfl hy65) (oV (zco eq5 rfl rfl) (oM rfl (zau (jb 46) je .nil h 6 rfl (fun q66 g66 h => ?_) (fun J67 h hJ67 => ?_)))))))
     ·refine oA rfl (rnf (zf h rfl (fun _ h => ?_) (fun _ h => ?_)))
      ·refine wsr (oM rfl (zD h fun q71 h => oV (zaf rfl rfl q71) (oA rfl (rnf (zu (za5 (ι := Int) (γ := Unit) (fun q72 g72 => [(1, isv (q72))]) (fun q72 g72 => []) h () (za (j := 1) rfl hI zd) .nil (fun L73 q72 g72 Q98 h hL73 eL73 rL73 => zn ?_)))))))
       refine wsr (oM rfl (oM rfl (oV (zdb st9 rfl) (oV (zaj rfl rfl) (oM rfl (zau (jb 58) je .nil h 5 rfl (fun q86 g86 h => ?_) (fun J87 h hJ87 => ?_)))))))
       ·refine rnf (zf h rfl (fun _ h => ?_) (fun _ h => ?_))
        ·refine wkf (zu (zn (wsr (oM rfl (oM rfl (zb h fun y90 hy90 h => oV (zbI y90 st9 rfl rfl hy90) (oV (zco eq5 rfl rfl) ?_)))))))
         refine oM rfl (zau (jb 69) je .nil h 6 rfl (fun q91 g91 h => ?_) (fun J92 h hJ92 => ?_))
         ·refine rnf (zf h rfl (fun _ h => ?_) (fun _ h => ?_))
          ·refine wsr (oM rfl (zD h fun q96 h => oV (zaf rfl rfl q96) (oA rfl (rnf (zad (zU (zf3 rfl ?_)))))))
           exact eL73 _ _ (zH (zk (zk (hL2 _ () h _ (ji 42 1 rfl rfl rfl)))))
          exact wkf (zj (oM rfl (zD h fun q97 h => oV (zaf rfl rfl q97) (oA rfl (zx (zk (hL73 _ () h _ (ji 16 1 rfl rfl rfl))))))))
         refine zC (j := 63) h rfl (fun g93 h => ?_) (fun g93 h => ?_)
         ·exact oK 63 rfl rfl rfl g93 (zw rfl) (oK 63 rfl rfl rfl g93 (zw rfl) (zD h fun q94 h => oK 63 rfl rfl rfl g93 (zaf rfl rfl q94) (zb h fun y95 hy95 h => zat rfl rfl (dj := 63) rfl g93 (zz (zd8 hy95) hT (s2 rfl rfl) .nil (oK 63 rfl rfl rfl g93 (zco eq5 rfl rfl) (oV (zs rfl g93 rfl) (hJ92 _ () h _ (ji 6 69 rfl rfl rfl))))))))
         exact oP 63 rfl rfl g93 (oP 63 rfl rfl g93 (oP 63 rfl rfl g93 (oP 63 rfl rfl g93 (oP 63 rfl rfl g93 (oV (zt rfl g93 rfl) (hJ92 _ () h _ (ji 6 69 rfl rfl rfl)))))))
        exact zad (zU (eL73 _ _ (zH (zk (zk (hL2 _ () h _ (ji 33 1 rfl rfl rfl)))))))
       refine zC (j := 53) h rfl (fun g88 h => ?_) (fun g88 h => ?_)
       ·exact oK 53 rfl rfl rfl g88 (zw rfl) (oK 53 rfl rfl rfl g88 (zw rfl) (zb h fun y89 hy89 h => oK 53 rfl rfl rfl g88 (zbI y89 st9 rfl rfl hy89) (oK 53 rfl rfl rfl g88 (zjC eq5 rfl rfl) (oV (zs rfl g88 rfl) (hJ87 _ () h _ (ji 5 58 rfl rfl rfl))))))
       exact oP 53 rfl rfl g88 (oP 53 rfl rfl g88 (oP 53 rfl rfl g88 (oP 53 rfl rfl g88 (oV (zt rfl g88 rfl) (hJ87 _ () h _ (ji 5 58 rfl rfl rfl))))))
      refine wsr (oM rfl (oA rfl (rnf (zM (zE (zE (rL2 _ (zE ?_))))))))
      refine zB ?_
      cases h
      exact zo (.tmp rfl .nil) .nil ⟨rfl, rfl⟩
     refine zC (j := 40) h rfl (fun g68 h => ?_) (fun g68 h => ?_)
     ·exact oK 40 rfl rfl rfl g68 (zw rfl) (oK 40 rfl rfl rfl g68 (zw rfl) (zD h fun q69 h => oK 40 rfl rfl rfl g68 (zaf rfl rfl q69) (zb h fun y70 hy70 h => zat rfl rfl (dj := 40) rfl g68 (zz (zd8 hy70) hT (s2 rfl rfl) .nil (oK 40 rfl rfl rfl g68 (zco eq5 rfl rfl) (oV (zs rfl g68 rfl) (hJ67 _ () h _ (ji 6 46 rfl rfl rfl))))))))
     exact oP 40 rfl rfl g68 (oP 40 rfl rfl g68 (oP 40 rfl rfl g68 (oP 40 rfl rfl g68 (oP 40 rfl rfl g68 (oV (zt rfl g68 rfl) (hJ67 _ () h _ (ji 6 46 rfl rfl rfl)))))))
    refine zC (j := 27) h rfl (fun g62 h => ?_) (fun g62 h => ?_)
    ·exact oP 27 rfl rfl g62 (oP 27 rfl rfl g62 (oP 27 rfl rfl g62 (oP 27 rfl rfl g62 (oV (zs rfl g62 rfl) (hJ61 _ () h _ (ji 5 32 rfl rfl rfl))))))
    exact oK 27 rfl rfl rfl g62 (zw rfl) (oK 27 rfl rfl rfl g62 (zw rfl) (zb h fun y63 hy63 h => oK 27 rfl rfl rfl g62 (zbI y63 st9 rfl rfl hy63) (oK 27 rfl rfl rfl g62 (zco eq5 rfl rfl) (oV (zt rfl g62 rfl) (hJ61 _ () h _ (ji 5 32 rfl rfl rfl))))))
   refine zC (j := 21) h rfl (fun g58 h => ?_) (fun g58 h => ?_)
   ·exact oP 21 rfl rfl g58 (oP 21 rfl rfl g58 (oP 21 rfl rfl g58 (oP 21 rfl rfl g58 (oV (zs rfl g58 rfl) (hJ57 _ () h _ (ji 5 26 rfl rfl rfl))))))
   exact oK 21 rfl rfl rfl g58 (zw rfl) (oK 21 rfl rfl rfl g58 (zw rfl) (zb h fun y59 hy59 h => oK 21 rfl rfl rfl g58 (zbI y59 st9 rfl rfl hy59) (oK 21 rfl rfl rfl g58 (zco eq5 rfl rfl) (oV (zt rfl g58 rfl) (hJ57 _ () h _ (ji 5 26 rfl rfl rfl))))))
  refine zC (j := 15) h rfl (fun g54 h => ?_) (fun g54 h => ?_)
  ·exact oP 15 rfl rfl g54 (oP 15 rfl rfl g54 (oP 15 rfl rfl g54 (oP 15 rfl rfl g54 (oV (zs rfl g54 rfl) (hJ53 _ () h _ (ji 5 20 rfl rfl rfl))))))
  exact oK 15 rfl rfl rfl g54 (zw rfl) (oK 15 rfl rfl rfl g54 (zw rfl) (zb h fun y55 hy55 h => oK 15 rfl rfl rfl g54 (zbI y55 st9 rfl rfl hy55) (oK 15 rfl rfl rfl g54 (zco eq5 rfl rfl) (oV (zt rfl g54 rfl) (hJ53 _ () h _ (ji 5 20 rfl rfl rfl))))))
 refine zad (zU (eL2 _ _ (zH (zy (wsr (oM rfl (oA rfl (rnf ?_))))))))
 refine zM ?_
 cases h
 exact zo (.tmp rfl .nil) .nil ⟨rfl, rfl⟩


theorem zfH : ∀ {a_c : UInt8} {r : Bool}, zda a_c = some r → Ctr Tryd.prog 68 [isv (a_c)] [] (fun R H => R = oneOf [isv (r)] ∧ H = []) := by
 intro a_c r h
 unfold zda at h
 refine zr Tryd.func68 rfl fun w0 S0 hT => wsr (oA rfl (rnf (wsr (oM rfl (oV (zje rfl rfl) (oM rfl (zau (jb 8) je .nil h 3 rfl (fun q1 g1 h => ?_) (fun J2 h hJ2 => ?_))))))))
 ·refine oM rfl (zau (jb 16) je .nil h 7 rfl (fun q4 g4 h => ?_) (fun J5 h hJ5 => ?_))
  ·refine oA rfl (rnf (zM ?_))
   cases h
   exact zo (.tmp rfl .nil) .nil ⟨rfl, rfl⟩
  refine zC (j := 9) h rfl (fun g6 h => ?_) (fun g6 h => ?_)
  ·exact oP 9 rfl rfl g6 (oP 9 rfl rfl g6 (oP 9 rfl rfl g6 (zA rfl (dj := 12) rfl (zA rfl (dj := 12) rfl (oP 9 rfl rfl g6 (oV (zs rfl g6 rfl) (hJ5 _ () h _ (ji 7 16 rfl rfl rfl))))))))
  refine oK 9 rfl rfl rfl g6 (zw rfl) (oK 9 rfl rfl rfl g6 (zje rfl rfl) (oK 9 rfl rfl rfl g6 (zw rfl) (zau (jb 15) je .nil h 3 rfl (fun q7 g7 h => ?_) (fun J8 h hJ8 => ?_))))
  ·exact oV (zt rfl g6 rfl) (hJ5 _ () h _ (ji 5 16 rfl rfl rfl))
  refine zC (j := 12) h rfl (fun g9 h => ?_) (fun g9 h => ?_)
  ·exact oK 12 rfl rfl rfl g9 (zw rfl) (oK 12 rfl rfl rfl g9 (zjd rfl rfl) (oK 9 rfl rfl rfl g6 (zs rfl g9 rfl) (hJ8 _ () h _ (ji 3 15 rfl rfl rfl))))
  exact oP 12 rfl rfl g9 (oP 12 rfl rfl g9 (oK 9 rfl rfl rfl g6 (zt rfl g9 rfl) (hJ8 _ () h _ (ji 3 15 rfl rfl rfl))))
 refine zC (j := 5) h rfl (fun g3 h => ?_) (fun g3 h => ?_)
 ·exact oK 5 rfl rfl rfl g3 (zw rfl) (oK 5 rfl rfl rfl g3 (zjd rfl rfl) (oV (zs rfl g3 rfl) (hJ2 _ () h _ (ji 3 8 rfl rfl rfl))))
 exact oP 5 rfl rfl g3 (oP 5 rfl rfl g3 (oV (zt rfl g3 rfl) (hJ2 _ () h _ (ji 3 8 rfl rfl rfl))))


theorem zei : ∀ {a_c : UInt8} {r : Bool}, zcV a_c = some r → Ctr Tryd.prog 71 [isv (a_c)] [] (fun R H => R = oneOf [isv (r)] ∧ H = []) := by
 intro a_c r h
 unfold zcV at h
 refine zr Tryd.func71 rfl fun w0 S0 hT => wsr (oA rfl (rnf (wsr (oM rfl (oV (zje rfl rfl) (oM rfl (zau (jb 8) je .nil h 3 rfl (fun q1 g1 h => ?_) (fun J2 h hJ2 => ?_))))))))
 ·refine oA rfl (rnf (zM ?_))
  cases h
  exact zo (.tmp rfl .nil) .nil ⟨rfl, rfl⟩
 refine zC (j := 5) h rfl (fun g3 h => ?_) (fun g3 h => ?_)
 ·exact oK 5 rfl rfl rfl g3 (zw rfl) (oK 5 rfl rfl rfl g3 (zjd rfl rfl) (oV (zs rfl g3 rfl) (hJ2 _ () h _ (ji 3 8 rfl rfl rfl))))
 exact oP 5 rfl rfl g3 (oP 5 rfl rfl g3 (oV (zt rfl g3 rfl) (hJ2 _ () h _ (ji 3 8 rfl rfl rfl))))


theorem zlV : ∀ {a_s : Str} {a_i : Int} {r : Int}, zeO a_s a_i = some r → Ctr Tryd.prog 69 [isv (a_s), isv (a_i)] [] (fun R H => R = oneOf [isv (r)] ∧ H = []) := by
 intro a_s a_i r h
 unfold zeO at h
 refine zr Tryd.func69 rfl fun w0 S0 hT => wsr (oA rfl (rnf (wsr (oM rfl (oA rfl (rnf (zn ?_)))))))
 refine zu (za5 (ι := Int) (γ := Unit) (fun q1 g1 => [(1, isv (q1))]) (fun q1 g1 => []) h () (za (j := 1) rfl hI zd) .nil (fun L2 q1 g1 Q55 h hL2 eL2 rL2 => zn (wsr (oM rfl (oM rfl (oV (zdb st9 rfl) (oV (zaj rfl rfl) (oM rfl ?_))))))))
 refine zau (jb 35) je .nil h 24 rfl (fun q29 g29 h => ?_) (fun J30 h hJ30 => ?_)
 ·refine rnf (zf h rfl (fun _ h => ?_) (fun _ h => ?_))
  ·refine wkf (zu (zj (oM rfl (zD h fun q48 h => oV (zaf rfl rfl q48) (oA rfl (zx (zk ?_)))))))
   exact hL2 _ () h _ (ji 10 1 rfl rfl rfl)
  refine zad (zU (eL2 _ _ (zH (zy (zn (wsr (oM rfl (oM rfl ?_))))))))
  refine zD h fun q49 h => oV (zbO rfl rfl q49) (zb h fun y50 hy50 h => oV (zbI y50 st9 rfl rfl hy50) (oV (zco eq5 rfl rfl) (oM rfl (zau (jb 48) je .nil h 5 rfl (fun q51 g51 h => ?_) (fun J52 h hJ52 => ?_)))))
  ·refine rnf (zf h rfl (fun _ h => ?_) (fun _ h => ?_))
   ·refine wsr (oA rfl (rnf (zM (zB ?_))))
    cases h
    exact zo (.tmp rfl .nil) .nil ⟨rfl, rfl⟩
   refine wkf (wsr (oM rfl (oA rfl (rnf (zM ?_)))))
   cases h
   exact zo (.tmp rfl .nil) .nil ⟨rfl, rfl⟩
  refine zC (j := 43) h rfl (fun g53 h => ?_) (fun g53 h => ?_)
  ·exact oP 43 rfl rfl g53 (oP 43 rfl rfl g53 (oP 43 rfl rfl g53 (oP 43 rfl rfl g53 (oV (zs rfl g53 rfl) (hJ52 _ () h _ (ji 5 48 rfl rfl rfl))))))
  exact oK 43 rfl rfl rfl g53 (zw rfl) (oK 43 rfl rfl rfl g53 (zw rfl) (zD h fun q54 h => oK 43 rfl rfl rfl g53 (zbO rfl rfl q54) (oK 43 rfl rfl rfl g53 (zbU rfl rfl) (oV (zt rfl g53 rfl) (hJ52 _ () h _ (ji 5 48 rfl rfl rfl))))))
 refine zC (j := 11) h rfl (fun g31 h => ?_) (fun g31 h => ?_)
 ·refine oK 11 rfl rfl rfl g31 (zw rfl) (oK 11 rfl rfl rfl g31 (zw rfl) (zb h fun y32 hy32 h => oK 11 rfl rfl rfl g31 (zbI y32 st9 rfl rfl hy32) (zb h fun y33 hy33 h => zat rfl rfl (dj := 11) rfl g31 (zz (zfH hy33) hT (s1 rfl) .nil (oK 11 rfl rfl rfl g31 (zw rfl) (zau (jb 21) je .nil h 5 rfl (fun q34 g34 h => ?_) (fun J35 h hJ35 => ?_)))))))
  ·refine oK 11 rfl rfl rfl g31 (zw rfl) (zau (jb 34) je .nil h 12 rfl (fun q39 g39 h => ?_) (fun J40 h hJ40 => ?_))
   ·exact oV (zs rfl g31 rfl) (hJ30 _ () h _ (ji 9 35 rfl rfl rfl))
   refine zC (j := 22) h rfl (fun g41 h => ?_) (fun g41 h => ?_)
   ·refine oP 22 rfl rfl g41 (oP 22 rfl rfl g41 (oP 22 rfl rfl g41 (oP 22 rfl rfl g41 (oP 22 rfl rfl g41 (zA rfl (dj := 27) rfl (zA rfl (dj := 27) rfl (zA rfl (dj := 27) rfl (zA rfl (dj := 27) rfl ?_))))))))
    exact zA rfl (dj := 27) rfl (oP 22 rfl rfl g41 (oK 11 rfl rfl rfl g31 (zs rfl g41 rfl) (hJ40 _ () h _ (ji 12 34 rfl rfl rfl))))
   refine oK 22 rfl rfl rfl g41 (zw rfl) (oK 22 rfl rfl rfl g41 (zw rfl) (zb h fun y42 hy42 h => oK 22 rfl rfl rfl g41 (zbI y42 st9 rfl rfl hy42) (oK 22 rfl rfl rfl g41 (zco eq5 rfl rfl) (oK 22 rfl rfl rfl g41 (zw rfl) (zau (jb 33) je .nil h 6 rfl (fun q43 g43 h => ?_) (fun J44 h hJ44 => ?_))))))
   ·exact oK 11 rfl rfl rfl g31 (zt rfl g41 rfl) (hJ40 _ () h _ (ji 7 34 rfl rfl rfl))
   refine zC (j := 27) h rfl (fun g45 h => ?_) (fun g45 h => ?_)
   ·exact oK 27 rfl rfl rfl g45 (zw rfl) (oK 27 rfl rfl rfl g45 (zw rfl) (zD h fun q46 h => oK 27 rfl rfl rfl g45 (zaf rfl rfl q46) (zb h fun y47 hy47 h => zat rfl rfl (dj := 27) rfl g45 (zz (zd8 hy47) hT (s2 rfl rfl) .nil (oK 27 rfl rfl rfl g45 (zjC eq5 rfl rfl) (oK 22 rfl rfl rfl g41 (zs rfl g45 rfl) (hJ44 _ () h _ (ji 6 33 rfl rfl rfl))))))))
   exact oP 27 rfl rfl g45 (oP 27 rfl rfl g45 (oP 27 rfl rfl g45 (oP 27 rfl rfl g45 (oP 27 rfl rfl g45 (oK 22 rfl rfl rfl g41 (zt rfl g45 rfl) (hJ44 _ () h _ (ji 6 33 rfl rfl rfl)))))))
  refine zC (j := 16) h rfl (fun g36 h => ?_) (fun g36 h => ?_)
  ·exact oP 16 rfl rfl g36 (oP 16 rfl rfl g36 (oP 16 rfl rfl g36 (oP 16 rfl rfl g36 (oK 11 rfl rfl rfl g31 (zs rfl g36 rfl) (hJ35 _ () h _ (ji 5 21 rfl rfl rfl))))))
  exact oK 16 rfl rfl rfl g36 (zw rfl) (oK 16 rfl rfl rfl g36 (zw rfl) (zb h fun y37 hy37 h => oK 16 rfl rfl rfl g36 (zbI y37 st9 rfl rfl hy37) (zb h fun y38 hy38 h => zat rfl rfl (dj := 16) rfl g36 (zz (zei hy38) hT (s1 rfl) .nil (oK 11 rfl rfl rfl g31 (zt rfl g36 rfl) (hJ35 _ () h _ (ji 5 21 rfl rfl rfl)))))))
 refine oP 11 rfl rfl g31 (oP 11 rfl rfl g31 (oP 11 rfl rfl g31 (oP 11 rfl rfl g31 (oP 11 rfl rfl g31 (zA rfl (dj := 16) rfl (zA rfl (dj := 16) rfl (zA rfl (dj := 16) rfl (zA rfl (dj := 16) rfl ?_))))))))
 refine oP 11 rfl rfl g31 (oP 11 rfl rfl g31 (zA rfl (dj := 22) rfl (zA rfl (dj := 22) rfl (zA rfl (dj := 22) rfl (zA rfl (dj := 22) rfl (zA rfl (dj := 22) rfl (zA rfl (dj := 27) rfl (zA rfl (dj := 27) rfl ?_))))))))
 exact zA rfl (dj := 27) rfl (zA rfl (dj := 27) rfl (zA rfl (dj := 27) rfl (zA rfl (dj := 22) rfl (oP 11 rfl rfl g31 (oV (zt rfl g31 rfl) (hJ30 _ () h _ (ji 24 35 rfl rfl rfl)))))))


theorem zly : ∀  {r : (List Str)}, zfo  = some r → Ctr Tryd.prog 95 [] [] (fun R H => R = oneOf [isv (r)] ∧ H = []) := by
 intro  r h
 unfold zfo at h
 refine zr Tryd.func95 rfl fun w0 S0 hT => wsr (oA rfl (rnf (wsr ?_)))
 refine oT (zQ (l := ([(Str.mk [68, 69, 70, 73, 78, 73, 84, 73, 79, 78, 83]), (Str.mk [69, 88, 80, 76, 73, 67, 73, 84]), (Str.mk [73, 77, 80, 76, 73, 67, 73, 84]), (Str.mk [65, 85, 84, 79, 77, 65, 84, 73, 67]), (Str.mk [84, 65, 71, 83]), (Str.mk [66, 69, 71, 73, 78]), (Str.mk [69, 78, 68]), (Str.mk [66, 79, 79, 76, 69, 65, 78]), (Str.mk [73, 78, 84, 69, 71, 69, 82]), (Str.mk [69, 78, 85, 77, 69, 82, 65, 84, 69, 68]), (Str.mk [78, 85, 76, 76]), (Str.mk [79, 67, 84, 69, 84]), (Str.mk [83, 84, 82, 73, 78, 71]), (Str.mk [85, 84, 70, 56, 83, 116, 114, 105, 110, 103]), (Str.mk [83, 69, 81, 85, 69, 78, 67, 69]), (Str.mk [83, 69, 84]), (Str.mk [67, 72, 79, 73, 67, 69]), (Str.mk [79, 70]), (Str.mk [79, 80, 84, 73, 79, 78, 65, 76]), (Str.mk [68, 69, 70, 65, 85, 76, 84]), (Str.mk [83, 73, 90, 69]), (Str.mk [77, 73, 78]), (Str.mk [77, 65, 88]), (Str.mk [84, 82, 85, 69]), (Str.mk [70, 65, 76, 83, 69])] : (List Str))) el27 (.cons rfl hI (.cons rfl hI (.cons rfl hI (.cons rfl hI (.cons rfl hI (.cons rfl hI (.cons rfl hI (.cons rfl hI (.cons rfl hI (.cons rfl hI (.cons rfl hI (.cons rfl hI (.cons rfl hI (.cons rfl hI (.cons rfl hI (.cons rfl hI (.cons rfl hI (.cons rfl hI (.cons rfl hI (.cons rfl hI (.cons rfl hI (.cons rfl hI (.cons rfl hI (.cons rfl hI (.cons rfl hI .nil))))))))))))))))))))))))) rfl rfl ?_)
 refine oA rfl (rnf (zM ?_))
 cases h
 exact zo (.as rfl zK .nil) .nil ⟨rfl, rfl⟩


theorem zgM : ∀ {a_l : (List Str)} {a_x : Str} {r : Bool}, zdi a_l a_x = some r → Ctr Tryd.prog 86 [isv (a_l), isv (a_x)] [] (fun R H => R = oneOf [isv (r)] ∧ H = []) := by
 intro a_l a_x r h
 unfold zdi at h
 refine zr Tryd.func86 rfl fun w0 S0 hT => wsr (oA rfl (rnf (zn (wsr (oA rfl (rnf (zu ?_)))))))
 refine za5 (ι := Int) (γ := Unit) (fun q1 g1 => [(5, isv (q1))]) (fun q1 g1 => []) h () (za (j := 5) rfl hI zd) .nil (fun L2 q1 g1 Q7 h hL2 eL2 rL2 => zn (wsr (oM rfl (oM rfl (oV (za2 (l := a_l) rfl hI sl27) (oV (zaj rfl rfl) (rnf (zf h rfl (fun _ h => ?_) (fun _ h => ?_)))))))))
 ·refine wkf (zn (zu (wsr (oM rfl (oM rfl (zb h fun y5 hy5 h => oV (zaG (l := a_l) rfl hI rfl sl27 hy5) (oV (zg ty9 rfl) ?_)))))))
  refine oM rfl (oV (zco eq9 rfl rfl) (rnf (zf h rfl (fun _ h => ?_) (fun _ h => ?_))))
  ·refine wsr (oA rfl (rnf (zM (zE (zB (rL2 _ (zE (zB ?_))))))))
   cases h
   exact zo (.tmp rfl .nil) .nil ⟨rfl, rfl⟩
  refine zY (zk (zy (zj (oM rfl (zD h fun q6 h => oV (zaf rfl rfl q6) (oA rfl (zx ?_)))))))
  exact hL2 _ () h _ (ji 14 5 rfl rfl rfl)
 refine zad (zU (eL2 _ _ (zH (zy (wsr (oA rfl (rnf (zM ?_))))))))
 cases h
 exact zo (.tmp rfl .nil) .nil ⟨rfl, rfl⟩


theorem zl5 : ∀ {a_s : Str} {r : Bool}, zeM a_s = some r → Ctr Tryd.prog 70 [isv (a_s)] [] (fun R H => R = oneOf [isv (r)] ∧ H = []) := by
 intro a_s r h
 unfold zeM at h
 refine zr Tryd.func70 rfl fun w0 S0 hT => wsr (oA rfl (rnf (wsr (zb h fun y1 hy1 h => oT (zz (zly hy1) hT .nil .nil (oM rfl (zb h fun y2 hy2 h => ?_)))))))
 refine oT (zz (zgM hy2) hT (s2 rfl rfl) .nil (oA rfl (rnf (zM ?_))))
 cases h
 exact zo (.tmp rfl .nil) .nil ⟨rfl, rfl⟩


theorem zkA : ∀ {a_s : Str} {a_i : Int} {r : Int}, zde a_s a_i = some r → Ctr Tryd.prog 72 [isv (a_s), isv (a_i)] [] (fun R H => R = oneOf [isv (r)] ∧ H = []) := by
 intro a_s a_i r h
 unfold zde at h
 refine zr Tryd.func72 rfl fun w0 S0 hT => wsr (oA rfl (rnf (wsr (oM rfl (oM rfl (zb h fun y1 hy1 h => oV (zbI y1 st9 rfl rfl hy1) ?_))))))
 refine oV (zco eq5 rfl rfl) (oA rfl (rnf (zn (wsr (oM rfl (rnf (zc3 (ι := Int) (γ := Unit) (fun q2 g2 => [(1, isv (q2))]) (fun q2 g2 => []) .nil h (fun q2 g2 h => ?_) (fun J3 h hJ3 => ?_))))))))
 ·refine wsr (oM rfl (oA rfl (rnf (wsr (oA rfl (rnf (zn (zu ?_))))))))
  refine za5 (ι := Int × UInt64) (γ := Unit) (fun q5 g5 => [(1, isv (q5.1)), (7, isv (q5.2))]) (fun q5 g5 => []) h () (za (j := 1) rfl hI (za (j := 7) rfl hI zd)) .nil (fun L6 q5 g5 Q91 h hL6 eL6 rL6 => zn (wsr (oM rfl (oM rfl (oV (zdb st9 rfl) (oV (zaj rfl rfl) (oM rfl (zau (jb 26) je .nil h 5 rfl (fun q49 g49 h => ?_) (fun J50 h hJ50 => ?_)))))))))
  ·refine rnf (zf h rfl (fun _ h => ?_) (fun _ h => ?_))
   ·refine wkf (zu (zn (wsr (oM rfl (oM rfl (zD h fun q54 h => oV (zbO rfl rfl q54) (oV (zaj rfl rfl) ?_)))))))
    refine rnf (zc3 (ι := UInt64) (γ := Unit) (fun q55 g55 => [(7, isv (q55))]) (fun q55 g55 => []) .nil h (fun q55 g55 h => ?_) (fun J56 h hJ56 => ?_))
    ·exact zj (oM rfl (zD h fun q58 h => oV (zaf rfl rfl q58) (oA rfl (zx (zk (hL6 _ () h _ (ze 16 rfl rfl (za (j := 1) rfl hI (za (j := 7) rfl hI zd)) .nil)))))))
    refine zf h rfl (fun _ h => ?_) (fun _ h => ?_)
    ·refine zj (oM rfl (oV (zmH rfl rfl) (oM rfl (oM rfl (zb h fun y57 hy57 h => oV (zbI y57 st9 rfl rfl hy57) (oV (zkl rfl rfl) (oV (zd3 Tryd.underlying5 Tryd.underlying26 rfl) ?_)))))))
     exact oV (zij rfl rfl) (oA rfl (zx (hJ56 _ () h _ (ji 9 7 rfl rfl rfl))))
    exact zY (hJ56 _ () h _ (ji 0 7 rfl rfl rfl))
   refine zad (zU (eL6 _ _ (zH (zy (wsr (oM rfl (oM rfl (zD h fun q59 h => ?_))))))))
   refine oV (zbO rfl rfl q59) (oA rfl (rnf (zn (wsr (oM rfl (oV (zaj rfl rfl) (oM rfl (zau (jb 49) je .nil h 3 rfl (fun q60 g60 h => ?_) (fun J61 h hJ61 => ?_)))))))))
   ·refine oM rfl (zau (jb 59) je .nil h 9 rfl (fun q63 g63 h => ?_) (fun J64 h hJ64 => ?_))
    ·refine oM rfl (zau (jb 68) je .nil h 8 rfl (fun q70 g70 h => ?_) (fun J71 h hJ71 => ?_))
     ·refine oM rfl (zau (jb 74) je .nil h 5 rfl (fun q77 g77 h => ?_) (fun J78 h hJ78 => ?_))
      ·refine oM rfl (zau (jb 78) je .nil h 3 rfl (fun q82 g82 h => ?_) (fun J83 h hJ83 => ?_))
       ·refine oM rfl (zau (jb 86) je .nil h 7 rfl (fun q85 g85 h => ?_) (fun J86 h hJ86 => ?_))
        ·refine rnf (zf h rfl (fun _ h => ?_) (fun _ h => ?_))
         ·refine wsr (oA rfl (rnf (zM (zB ?_))))
          cases h
          exact zo (.tmp rfl .nil) .nil ⟨rfl, rfl⟩
         refine wkf (wsr (oM rfl (oA rfl (rnf (zM ?_)))))
         cases h
         exact zo (.tmp rfl .nil) .nil ⟨rfl, rfl⟩
        refine zC (j := 79) h rfl (fun g87 h => ?_) (fun g87 h => ?_)
        ·exact oP 79 rfl rfl g87 (oP 79 rfl rfl g87 (oP 79 rfl rfl g87 (zA rfl (dj := 82) rfl (zA rfl (dj := 82) rfl (oP 79 rfl rfl g87 (oV (zs rfl g87 rfl) (hJ86 _ () h _ (ji 7 86 rfl rfl rfl))))))))
        refine oK 79 rfl rfl rfl g87 (zw rfl) (oK 79 rfl rfl rfl g87 (zbG rfl) (oK 79 rfl rfl rfl g87 (zw rfl) (zau (jb 85) je .nil h 3 rfl (fun q88 g88 h => ?_) (fun J89 h hJ89 => ?_))))
        ·exact oV (zt rfl g87 rfl) (hJ86 _ () h _ (ji 5 86 rfl rfl rfl))
        refine zC (j := 82) h rfl (fun g90 h => ?_) (fun g90 h => ?_)
        ·exact oK 82 rfl rfl rfl g90 (zw rfl) (oK 82 rfl rfl rfl g90 (zih rfl rfl) (oK 79 rfl rfl rfl g87 (zs rfl g90 rfl) (hJ89 _ () h _ (ji 3 85 rfl rfl rfl))))
        exact oP 82 rfl rfl g90 (oP 82 rfl rfl g90 (oK 79 rfl rfl rfl g87 (zt rfl g90 rfl) (hJ89 _ () h _ (ji 3 85 rfl rfl rfl))))
       refine zC (j := 75) h rfl (fun g84 h => ?_) (fun g84 h => ?_)
       ·exact oP 75 rfl rfl g84 (oP 75 rfl rfl g84 (oV (zs rfl g84 rfl) (hJ83 _ () h _ (ji 3 78 rfl rfl rfl))))
       exact oK 75 rfl rfl rfl g84 (zw rfl) (oK 75 rfl rfl rfl g84 (zoY rfl rfl) (oV (zt rfl g84 rfl) (hJ83 _ () h _ (ji 3 78 rfl rfl rfl))))
      refine zC (j := 69) h rfl (fun g79 h => ?_) (fun g79 h => ?_)
      ·exact oP 69 rfl rfl g79 (oP 69 rfl rfl g79 (oP 69 rfl rfl g79 (oP 69 rfl rfl g79 (oV (zs rfl g79 rfl) (hJ78 _ () h _ (ji 5 74 rfl rfl rfl))))))
      exact oK 69 rfl rfl rfl g79 (zw rfl) (oK 69 rfl rfl rfl g79 (zw rfl) (zb h fun y80 hy80 h => zat rfl rfl (dj := 69) rfl g79 (zz (zd8 hy80) hT (s2 rfl rfl) .nil (zb h fun y81 hy81 h => zat rfl rfl (dj := 69) rfl g79 (zz (zfH hy81) hT (s1 rfl) .nil (oV (zt rfl g79 rfl) (hJ78 _ () h _ (ji 5 74 rfl rfl rfl))))))))
     refine zC (j := 60) h rfl (fun g72 h => ?_) (fun g72 h => ?_)
     ·exact oP 60 rfl rfl g72 (oP 60 rfl rfl g72 (zA rfl (dj := 62) rfl (zA rfl (dj := 62) rfl (zA rfl (dj := 62) rfl (zA rfl (dj := 62) rfl (oP 60 rfl rfl g72 (oV (zs rfl g72 rfl) (hJ71 _ () h _ (ji 8 68 rfl rfl rfl)))))))))
     refine oK 60 rfl rfl rfl g72 (zw rfl) (oK 60 rfl rfl rfl g72 (zw rfl) (zau (jb 67) je .nil h 5 rfl (fun q73 g73 h => ?_) (fun J74 h hJ74 => ?_)))
     ·exact oV (zt rfl g72 rfl) (hJ71 _ () h _ (ji 4 68 rfl rfl rfl))
     refine zC (j := 62) h rfl (fun g75 h => ?_) (fun g75 h => ?_)
     ·exact oK 62 rfl rfl rfl g75 (zw rfl) (oK 62 rfl rfl rfl g75 (zw rfl) (zb h fun y76 hy76 h => oK 62 rfl rfl rfl g75 (zbI y76 st9 rfl rfl hy76) (oK 62 rfl rfl rfl g75 (zco eq5 rfl rfl) (oK 60 rfl rfl rfl g72 (zs rfl g75 rfl) (hJ74 _ () h _ (ji 5 67 rfl rfl rfl))))))
     exact oP 62 rfl rfl g75 (oP 62 rfl rfl g75 (oP 62 rfl rfl g75 (oP 62 rfl rfl g75 (oK 60 rfl rfl rfl g72 (zt rfl g75 rfl) (hJ74 _ () h _ (ji 5 67 rfl rfl rfl))))))
    refine zC (j := 50) h rfl (fun g65 h => ?_) (fun g65 h => ?_)
    ·refine oP 50 rfl rfl g65 (oP 50 rfl rfl g65 (oP 50 rfl rfl g65 (zA rfl (dj := 53) rfl (zA rfl (dj := 53) rfl (zA rfl (dj := 53) rfl (zA rfl (dj := 53) rfl (oP 50 rfl rfl g65 (oV (zs rfl g65 rfl) ?_))))))))
     exact hJ64 _ () h _ (ji 9 59 rfl rfl rfl)
    refine oK 50 rfl rfl rfl g65 (zw rfl) (oK 50 rfl rfl rfl g65 (zbU rfl rfl) (oK 50 rfl rfl rfl g65 (zw rfl) (zau (jb 58) je .nil h 5 rfl (fun q66 g66 h => ?_) (fun J67 h hJ67 => ?_))))
    ·exact oV (zt rfl g65 rfl) (hJ64 _ () h _ (ji 5 59 rfl rfl rfl))
    refine zC (j := 53) h rfl (fun g68 h => ?_) (fun g68 h => ?_)
    ·exact oK 53 rfl rfl rfl g68 (zw rfl) (oK 53 rfl rfl rfl g68 (zw rfl) (zb h fun y69 hy69 h => oK 53 rfl rfl rfl g68 (zbI y69 st9 rfl rfl hy69) (oK 53 rfl rfl rfl g68 (zco eq5 rfl rfl) (oK 50 rfl rfl rfl g65 (zs rfl g68 rfl) (hJ67 _ () h _ (ji 5 58 rfl rfl rfl))))))
    exact oP 53 rfl rfl g68 (oP 53 rfl rfl g68 (oP 53 rfl rfl g68 (oP 53 rfl rfl g68 (oK 50 rfl rfl rfl g65 (zt rfl g68 rfl) (hJ67 _ () h _ (ji 5 58 rfl rfl rfl))))))
   refine zC (j := 46) h rfl (fun g62 h => ?_) (fun g62 h => ?_)
   ·exact oP 46 rfl rfl g62 (oP 46 rfl rfl g62 (oV (zs rfl g62 rfl) (hJ61 _ () h _ (ji 3 49 rfl rfl rfl))))
   exact oK 46 rfl rfl rfl g62 (zw rfl) (oK 46 rfl rfl rfl g62 (zbU rfl rfl) (oV (zt rfl g62 rfl) (hJ61 _ () h _ (ji 3 49 rfl rfl rfl))))
  refine zC (j := 21) h rfl (fun g51 h => ?_) (fun g51 h => ?_)
  ·exact oK 21 rfl rfl rfl g51 (zw rfl) (oK 21 rfl rfl rfl g51 (zw rfl) (zb h fun y52 hy52 h => oK 21 rfl rfl rfl g51 (zbI y52 st9 rfl rfl hy52) (zb h fun y53 hy53 h => zat rfl rfl (dj := 21) rfl g51 (zz (zei hy53) hT (s1 rfl) .nil (oV (zs rfl g51 rfl) (hJ50 _ () h _ (ji 5 26 rfl rfl rfl)))))))
  exact oP 21 rfl rfl g51 (oP 21 rfl rfl g51 (oP 21 rfl rfl g51 (oP 21 rfl rfl g51 (oV (zt rfl g51 rfl) (hJ50 _ () h _ (ji 5 26 rfl rfl rfl))))))
 refine zf h rfl (fun _ h => ?_) (fun _ h => ?_)
 ·exact zj (oM rfl (zD h fun q4 h => oV (zaf rfl rfl q4) (oA rfl (zx (hJ3 _ () h _ (ji 3 1 rfl rfl rfl))))))
 exact zY (hJ3 _ () h _ (ji 0 1 rfl rfl rfl))


theorem znl : ∀ {a_s : Str} {a_i : Int} {r : Int × Str}, zfF a_s a_i = some r → Ctr Tryd.prog 73 [isv (a_s), isv (a_i)] [] (fun R H => R = oneOf [isv (r.1), isv (r.2)] ∧ H = []) := by
 intro a_s a_i r h
 unfold zfF at h
 refine zr Tryd.func73 rfl fun w0 S0 hT => wsr (oA rfl (oA rfl (rnf (wsr (oM rfl (zD h fun q1 h => oV (zaf rfl rfl q1) ?_))))))
 refine oA rfl (rnf (wsr (oM rfl (oA rfl (rnf (zn (zu (za5 (ι := Int) (γ := Unit) (fun q2 g2 => [(1, isv (q2))]) (fun q2 g2 => []) h () (za (j := 1) rfl hI zd) .nil (fun L3 q2 g2 Q58 h hL3 eL3 rL3 => ?_)))))))))
 refine zn (wsr (oM rfl (oM rfl (oV (zdb st9 rfl) (oV (zaj rfl rfl) (oM rfl (zau (jb 31) je .nil h 17 rfl (fun q31 g31 h => ?_) (fun J32 h hJ32 => ?_))))))))
 ·refine rnf (zf h rfl (fun _ h => ?_) (fun _ h => ?_))
  ·refine wkf (zu (zj (oM rfl (zD h fun q44 h => oV (zaf rfl rfl q44) (oA rfl (zx (zk ?_)))))))
   exact hL3 _ () h _ (ji 10 1 rfl rfl rfl)
  refine zad (zU (eL3 _ _ (zH (zy (zn (wsr (oM rfl (oM rfl ?_))))))))
  refine zD h fun q45 h => oV (zbO rfl rfl q45) (zZ h fun q46 h => oV (zp5 rfl rfl q46) (oV (zb0 rfl rfl) (oM rfl (zau (jb 44) je .nil h 5 rfl (fun q47 g47 h => ?_) (fun J48 h hJ48 => ?_)))))
  ·refine oM rfl (zau (jb 51) je .nil h 6 rfl (fun q51 g51 h => ?_) (fun J52 h hJ52 => ?_))
   ·refine rnf (zf h rfl (fun _ h => ?_) (fun _ h => ?_))
    ·refine wsr (oA rfl (oA rfl (rnf (zM (zB ?_)))))
     cases h
     exact zo (.tmp rfl (.tmp rfl .nil)) .nil ⟨rfl, rfl⟩
    refine wkf (zn (zW (.v 0 (.v 1 (.v 2 (.v 3 (.v 4 (.v 5 (.v 6 (.v 7 .nil)))))))) moOrd (by kernel_rfl) ?_))
    refine rvm rfl rfl (zD h fun q56 h => zq rfl (zaf rfl rfl q56) (rvm rfl rfl (rvm rfl rfl (rvm rfl rfl (zT h fun q57 h => zq rfl (zh3 st9 rfl (.inr ⟨_, rfl, rfl⟩) (.inr ⟨_, rfl, rfl⟩) q57.1 q57.2.1 q57.2.2) (zq rfl (za1 rfl) ?_))))))
    refine zq rfl (za1 rfl) (zae (zy (zM ?_)))
    cases h
    exact zo (.tmp rfl (.tmp rfl .nil)) .nil ⟨rfl, rfl⟩
   refine zC (j := 45) h rfl (fun g53 h => ?_) (fun g53 h => ?_)
   ·exact oP 45 rfl rfl g53 (oP 45 rfl rfl g53 (oP 45 rfl rfl g53 (oP 45 rfl rfl g53 (oP 45 rfl rfl g53 (oV (zs rfl g53 rfl) (hJ52 _ () h _ (ji 6 51 rfl rfl rfl)))))))
   exact oK 45 rfl rfl rfl g53 (zw rfl) (oK 45 rfl rfl rfl g53 (zw rfl) (zD h fun q54 h => oK 45 rfl rfl rfl g53 (zaf rfl rfl q54) (zb h fun y55 hy55 h => zat rfl rfl (dj := 45) rfl g53 (zz (zd8 hy55) hT (s2 rfl rfl) .nil (oK 45 rfl rfl rfl g53 (zjC eq5 rfl rfl) (oV (zt rfl g53 rfl) (hJ52 _ () h _ (ji 6 51 rfl rfl rfl))))))))
  refine zC (j := 39) h rfl (fun g49 h => ?_) (fun g49 h => ?_)
  ·exact oP 39 rfl rfl g49 (oP 39 rfl rfl g49 (oP 39 rfl rfl g49 (oP 39 rfl rfl g49 (oV (zs rfl g49 rfl) (hJ48 _ () h _ (ji 5 44 rfl rfl rfl))))))
  exact oK 39 rfl rfl rfl g49 (zw rfl) (oK 39 rfl rfl rfl g49 (zw rfl) (zb h fun y50 hy50 h => zat rfl rfl (dj := 39) rfl g49 (zz (zd8 hy50) hT (s2 rfl rfl) .nil (oK 39 rfl rfl rfl g49 (zjC eq5 rfl rfl) (oV (zt rfl g49 rfl) (hJ48 _ () h _ (ji 5 44 rfl rfl rfl)))))))
 refine zC (j := 14) h rfl (fun g33 h => ?_) (fun g33 h => ?_)
 ·refine oK 14 rfl rfl rfl g33 (zw rfl) (oK 14 rfl rfl rfl g33 (zw rfl) (zb h fun y34 hy34 h => oK 14 rfl rfl rfl g33 (zbI y34 st9 rfl rfl hy34) (zb h fun y35 hy35 h => zat rfl rfl (dj := 14) rfl g33 (zz (zei hy35) hT (s1 rfl) .nil (oK 14 rfl rfl rfl g33 (zw rfl) (zau (jb 30) je .nil h 11 rfl (fun q36 g36 h => ?_) (fun J37 h hJ37 => ?_)))))))
  ·exact oV (zs rfl g33 rfl) (hJ32 _ () h _ (ji 7 31 rfl rfl rfl))
  refine zC (j := 19) h rfl (fun g38 h => ?_) (fun g38 h => ?_)
  ·refine oP 19 rfl rfl g38 (oP 19 rfl rfl g38 (oP 19 rfl rfl g38 (oP 19 rfl rfl g38 (oP 19 rfl rfl g38 (zA rfl (dj := 24) rfl (zA rfl (dj := 24) rfl (zA rfl (dj := 24) rfl (zA rfl (dj := 24) rfl ?_))))))))
   exact oP 19 rfl rfl g38 (oK 14 rfl rfl rfl g33 (zs rfl g38 rfl) (hJ37 _ () h _ (ji 11 30 rfl rfl rfl)))
  refine oK 19 rfl rfl rfl g38 (zw rfl) (oK 19 rfl rfl rfl g38 (zw rfl) (zb h fun y39 hy39 h => oK 19 rfl rfl rfl g38 (zbI y39 st9 rfl rfl hy39) (oK 19 rfl rfl rfl g38 (zje rfl rfl) (oK 19 rfl rfl rfl g38 (zw rfl) (zau (jb 29) je .nil h 5 rfl (fun q40 g40 h => ?_) (fun J41 h hJ41 => ?_))))))
  ·exact oK 14 rfl rfl rfl g33 (zt rfl g38 rfl) (hJ37 _ () h _ (ji 7 30 rfl rfl rfl))
  refine zC (j := 24) h rfl (fun g42 h => ?_) (fun g42 h => ?_)
  ·exact oK 24 rfl rfl rfl g42 (zw rfl) (oK 24 rfl rfl rfl g42 (zw rfl) (zb h fun y43 hy43 h => oK 24 rfl rfl rfl g42 (zbI y43 st9 rfl rfl hy43) (oK 24 rfl rfl rfl g42 (zjd rfl rfl) (oK 19 rfl rfl rfl g38 (zs rfl g42 rfl) (hJ41 _ () h _ (ji 5 29 rfl rfl rfl))))))
  exact oP 24 rfl rfl g42 (oP 24 rfl rfl g42 (oP 24 rfl rfl g42 (oP 24 rfl rfl g42 (oK 19 rfl rfl rfl g38 (zt rfl g42 rfl) (hJ41 _ () h _ (ji 5 29 rfl rfl rfl))))))
 refine oP 14 rfl rfl g33 (oP 14 rfl rfl g33 (oP 14 rfl rfl g33 (oP 14 rfl rfl g33 (oP 14 rfl rfl g33 (zA rfl (dj := 19) rfl (zA rfl (dj := 19) rfl (zA rfl (dj := 19) rfl (zA rfl (dj := 19) rfl ?_))))))))
 exact zA rfl (dj := 19) rfl (zA rfl (dj := 24) rfl (zA rfl (dj := 24) rfl (zA rfl (dj := 24) rfl (zA rfl (dj := 24) rfl (zA rfl (dj := 19) rfl (oP 14 rfl rfl g33 (oV (zt rfl g33 rfl) (hJ32 _ () h _ (ji 17 31 rfl rfl rfl)))))))))


theorem zj9 : ∀ {a_s : Str} {a_i : Int} {r : Int × Str}, zc8 a_s a_i = some r → Ctr Tryd.prog 74 [isv (a_s), isv (a_i)] [] (fun R H => R = oneOf [isv (r.1), isv (r.2)] ∧ H = []) := by
 intro a_s a_i r h
 unfold zc8 at h
 refine zr Tryd.func74 rfl fun w0 S0 hT => wsr (oA rfl (oA rfl (rnf (wsr (oA rfl (rnf (zn ?_)))))))
 refine wsr (oM rfl (zD h fun q1 h => oV (zaf rfl rfl q1) (oA rfl (rnf (zu (za5 (ι := Int × Str) (γ := Unit) (fun q2 g2 => [(1, isv (q2.1)), (6, isv (q2.2))]) (fun q2 g2 => []) h () (za (j := 1) rfl hI (za (j := 6) rfl hI zd)) .nil (fun L3 q2 g2 Q30 h hL3 eL3 rL3 => zn ?_)))))))
 refine wsr (oM rfl (oM rfl (oV (zdb st9 rfl) (oV (zaj rfl rfl) (rnf (zf h rfl (fun _ h => ?_) (fun _ h => ?_)))))))
 ·refine wkf (zn (zc3 (ι := Int × Str) (γ := Unit) (fun q17 g17 => [(1, isv (q17.1)), (6, isv (q17.2))]) (fun q17 g17 => []) .nil h (fun q17 g17 h => ?_) (fun J18 h hJ18 => ?_)))
  ·exact zj (oM rfl (zD h fun q29 h => oV (zaf rfl rfl q29) (oA rfl (zx (hL3 _ () h _ (ze 11 rfl rfl (za (j := 1) rfl hI (za (j := 6) rfl hI zd)) .nil))))))
  refine zu (zn (wsr (oM rfl (oM rfl (zb h fun y19 hy19 h => oV (zbI y19 st9 rfl rfl hy19) (oV (zjC eq5 rfl rfl) (rnf ?_)))))))
  refine zf h rfl (fun _ h => ?_) (fun _ h => ?_)
  ·refine wsr (oM rfl (oM rfl (oM rfl (oM rfl (zD h fun q20 h => oV (zaf rfl rfl q20) (zT h fun q21 h => oV (zh3 st9 rfl (.inr ⟨_, rfl, rfl⟩) (.inr ⟨_, rfl, rfl⟩) q21.1 q21.2.1 q21.2.2) ?_))))))
   exact zZ h fun q22 h => oV (zdF rfl rfl q22) (oA rfl (rnf (zad (zU (zH (hJ18 _ () h _ (ze 12 rfl rfl (za (j := 1) rfl hI (za (j := 6) rfl hI zd)) .nil)))))))
  refine wkf (zn (wsr (oM rfl (oM rfl (zD h fun q23 h => oV (zaf rfl rfl q23) (zb h fun y24 hy24 h => oT (zz (zd8 hy24) hT (s2 rfl rfl) .nil ?_)))))))
  refine oV (zjC eq5 rfl rfl) (rnf (zf h rfl (fun _ h => ?_) (fun _ h => ?_)))
  ·refine zn (wsr (oM rfl (zb h fun y25 hy25 h => oT (zz (zgT hy25) hT (s1 rfl) .nil (oV (zbG rfl) (rnf (zf h rfl (fun _ h => ?_) (fun _ h => ?_))))))))
   ·refine wsr (oA rfl (oA rfl (rnf (zM (zB (zB (zE (zB ?_))))))))
    refine rL3 _ (zE (zB ?_))
    cases h
    exact zo (.tmp rfl (.tmp rfl .nil)) .nil ⟨rfl, rfl⟩
   refine wkf (wsr (oM rfl (zD h fun q26 h => oV (zaf rfl rfl q26) (oM rfl (oA rfl (oA rfl (rnf ?_)))))))
   refine zM (zB (zE (zB (rL3 _ (zE (zB ?_))))))
   cases h
   exact zo (.tmp rfl (.tmp rfl .nil)) .nil ⟨rfl, rfl⟩
  refine wkf (wsr (oM rfl (zZ h fun q27 h => oV (zdF rfl rfl q27) (oA rfl (rnf (zj (oM rfl ?_)))))))
  exact zD h fun q28 h => oV (zaf rfl rfl q28) (oA rfl (zx (zk (hJ18 _ () h _ (ze 15 rfl rfl (za (j := 1) rfl hI (za (j := 6) rfl hI zd)) .nil)))))
 refine zad (zU (eL3 _ _ (zH (zy (wsr (oA rfl (oA rfl (rnf ?_))))))))
 refine zM ?_
 cases h
 exact zo (.tmp rfl (.tmp rfl .nil)) .nil ⟨rfl, rfl⟩


theorem zl7 : ∀ {a_s : Str} {a_i : Int} {r : Int}, zeL a_s a_i = some r → Ctr Tryd.prog 75 [isv (a_s), isv (a_i)] [] (fun R H => R = oneOf [isv (r)] ∧ H = []) := by
 intro a_s a_i r h
 unfold zeL at h
 refine zr Tryd.func75 rfl fun w0 S0 hT => wsr (oA rfl (rnf (wsr (oM rfl (oM rfl (zT h fun q1 h => oV (zh3 st9 rfl (.inr ⟨_, rfl, rfl⟩) (.inl ⟨rfl, rfl⟩) q1.1 q1.2.1 q1.2.2) ?_))))))
 refine oA rfl (rnf (wsr (oT (zQ (l := ([(Str.mk [58, 58, 61]), (Str.mk [46, 46, 46]), (Str.mk [46, 46]), (Str.mk [91, 91]), (Str.mk [93, 93]), (Str.mk [123]), (Str.mk [125]), (Str.mk [91]), (Str.mk [93]), (Str.mk [40]), (Str.mk [41]), (Str.mk [44]), (Str.mk [58])] : (List Str))) el27 (.cons rfl hI (.cons rfl hI (.cons rfl hI (.cons rfl hI (.cons rfl hI (.cons rfl hI (.cons rfl hI (.cons rfl hI (.cons rfl hI (.cons rfl hI (.cons rfl hI (.cons rfl hI (.cons rfl hI .nil))))))))))))) rfl rfl (oA rfl (rnf (zn (wsr (oA rfl ?_)))))))))
 refine rnf (zu (za5 (ι := Int) (γ := Unit) (fun q3 g3 => [(7, isv (q3))]) (fun q3 g3 => []) h () (za (j := 7) rfl hI zd) .nil (fun L4 q3 g3 Q19 h hL4 eL4 rL4 => zn (wsr (oM rfl (oM rfl (oV (za2 (l := ([(Str.mk [58, 58, 61]), (Str.mk [46, 46, 46]), (Str.mk [46, 46]), (Str.mk [91, 91]), (Str.mk [93, 93]), (Str.mk [123]), (Str.mk [125]), (Str.mk [91]), (Str.mk [93]), (Str.mk [40]), (Str.mk [41]), (Str.mk [44]), (Str.mk [58])] : (List Str))) rfl zK sl27) (oV (zaj rfl rfl) ?_))))))))
 refine rnf (zf h rfl (fun _ h => ?_) (fun _ h => ?_))
 ·refine wkf (zn (zu (wsr (oM rfl (oM rfl (zb h fun y12 hy12 h => oV (zaG (l := ([(Str.mk [58, 58, 61]), (Str.mk [46, 46, 46]), (Str.mk [46, 46]), (Str.mk [91, 91]), (Str.mk [93, 93]), (Str.mk [123]), (Str.mk [125]), (Str.mk [91]), (Str.mk [93]), (Str.mk [40]), (Str.mk [41]), (Str.mk [44]), (Str.mk [58])] : (List Str))) rfl zK rfl sl27 hy12) (oV (zg ty9 rfl) ?_)))))))
  refine oV (zdb st9 rfl) (oA rfl (rnf (zn (zW (.v 0 (.v 1 (.v 2 (.v 3 (.v 4 (.v 5 (.v 6 (.v 7 (.v 8 (.v 9 (.v 10 (.v 11 (.v 12 (.v 13 .nil)))))))))))))) moOrd (by kernel_rfl) ?_))))
  refine rvm rfl rfl (zq rfl (zdb st9 rfl) (rvm rfl rfl (zq rfl (ze4 rfl rfl) (rvm rfl rfl (zeg (jb 37) je .nil h 9 rfl (fun q13 g13 h => ?_) (fun J14 h hJ14 => ?_))))))
  ·refine zae (zy (zf h rfl (fun _ h => ?_) (fun _ h => ?_)))
   ·refine wsr (oM rfl (oA rfl (rnf (zM (zE (zB (rL4 _ (zE ?_))))))))
    refine zB ?_
    cases h
    exact zo (.tmp rfl .nil) .nil ⟨rfl, rfl⟩
   refine zY (zk (zy (zj (oM rfl (zD h fun q18 h => oV (zaf rfl rfl q18) (oA rfl (zx ?_)))))))
   exact hL4 _ () h _ (ji 20 7 rfl rfl rfl)
  refine zaT (j := 28) h rfl (fun g15 h => ?_) (fun g15 h => ?_)
  ·refine rvt 28 rfl rfl rfl g15 (zw rfl) (rvt 28 rfl rfl rfl g15 (zw rfl) (zT h fun q16 h => rvt 28 rfl rfl rfl g15 (zh3 st9 rfl (.inl ⟨rfl, rfl⟩) (.inr ⟨_, rfl, rfl⟩) q16.1 q16.2.1 q16.2.2) (rvt 28 rfl rfl rfl g15 (zw rfl) (rvt 28 rfl rfl rfl g15 (zw rfl) (zb h fun y17 hy17 h => rvt 28 rfl rfl rfl g15 (zaG (l := ([(Str.mk [58, 58, 61]), (Str.mk [46, 46, 46]), (Str.mk [46, 46]), (Str.mk [91, 91]), (Str.mk [93, 93]), (Str.mk [123]), (Str.mk [125]), (Str.mk [91]), (Str.mk [93]), (Str.mk [40]), (Str.mk [41]), (Str.mk [44]), (Str.mk [58])] : (List Str))) rfl zK rfl sl27 hy17) (rvt 28 rfl rfl rfl g15 (zg ty9 rfl) ?_))))))
   exact rvt 28 rfl rfl rfl g15 (zco eq9 rfl rfl) (zq rfl (zs rfl g15 rfl) (hJ14 _ () h _ (ji 9 37 rfl rfl rfl)))
  refine rpv 28 rfl rfl rfl g15 (rpv 28 rfl rfl rfl g15 (rpv 28 rfl rfl rfl g15 (rpv 28 rfl rfl rfl g15 (rpv 28 rfl rfl rfl g15 (rpv 28 rfl rfl rfl g15 (rpv 28 rfl rfl rfl g15 (rpv 28 rfl rfl rfl g15 (zq rfl (zt rfl g15 rfl) ?_))))))))
  exact hJ14 _ () h _ (ji 9 37 rfl rfl rfl)
 refine zad (zU (eL4 _ _ (zH (zy (wsr (oA rfl (rnf (zM ?_))))))))
 cases h
 exact zo (.tmp rfl .nil) .nil ⟨rfl, rfl⟩


theorem znF : ∀ {a_s : Str} {a_i : Int} {r : GTok × Int}, zfM a_s a_i = some r → Ctr Tryd.prog 49 [isv (a_s), isv (a_i)] [] (fun R H => R = oneOf [isv (r.1), isv (r.2)] ∧ H = []) := by
 intro a_s a_i r h
 unfold zfM at h
 refine zr Tryd.func49 rfl fun w0 S0 hT => wsr (oT (zab _ ze80 fun b1 => oA rfl (rnf (wsr (oM rfl (oV (zaw (z := (GTok.mk (0 : Int) (Str.mk []) a_i)) rfl bu80 ze80 (.cons GTok.f2 zlL rfl hI .nil)) (oT (zab _ ze80 fun b2 => ?_))))))))
 refine oT (zi (y' := ((GTok.mk (0 : Int) (Str.mk []) a_i) : GTok)) ty80 rfl rfl hI .here rfl (rnf (wsr (oM rfl (oM rfl (zb h fun y3 hy3 h => oV (zbI y3 st9 rfl rfl hy3) (oA rfl (rnf ?_))))))))
 refine wsr (oA rfl (rnf (zn (zc3 (ι := Int × GTok) (γ := Unit) (fun q4 g4 => [(8, isv (q4.1))]) (fun q4 g4 => [boxE b2 (q4.2 : GTok)]) k1 h (fun q4 g4 h => ?_) (fun J5 h hJ5 => ?_)))))
 ·refine wsr (oT (zI (R := isv (q4.2)) ty80 rfl .here hI (oM rfl (oT (zi (y' := (q4.2 : GTok)) ty80 rfl rfl hI tH rfl (oA rfl (rnf (zM ?_))))))))
  cases h
  exact zo (.cell rfl .here ty80 (.tmp rfl .nil)) .nil ⟨rfl, rfl⟩
 refine zu (wsr (oM rfl (zb h fun y6 hy6 h => oT (zz (zfH hy6) hT (s1 rfl) .nil (oA rfl (rnf (zf h rfl (fun _ h => ?_) (fun _ h => ?_))))))))
 ·refine wsr (oM rfl (oM rfl (zb h fun y7 hy7 h => oT (zz (zlV hy7) hT (s2 rfl rfl) .nil (oA rfl (rnf (zn (wsr ?_))))))))
  refine oM rfl (oV (zaj rfl rfl) (rnf (zf h rfl (fun _ h => ?_) (fun _ h => ?_))))
  ·refine wsr (oT (zI (R := isv ((GTok.mk (0 : Int) (Str.mk []) a_i))) ty80 rfl .here hI (oT (zi (y' := ((GTok.mk (0 : Int) (Str.mk []) a_i) : GTok)) ty80 rfl rfl hI tH rfl (oA rfl (rnf (zM (zB (zE (zB ?_))))))))))
   cases h
   exact zo (.cell rfl .here ty80 (.tmp rfl .nil)) .nil ⟨rfl, rfl⟩
  refine wkf (zn (zW (.v 0 (.v 1 (.v 2 (.v 3 (.v 4 (.t 5 (.v 6 (.t 7 .nil)))))))) moOrd (by kernel_rfl) ?_))
  refine rvm rfl rfl (rvm rfl rfl (rvm rfl rfl (zT h fun q8 h => zq rfl (zh3 st9 rfl (.inr ⟨_, rfl, rfl⟩) (.inr ⟨_, rfl, rfl⟩) q8.1 q8.2.1 q8.2.2) (zq rfl (z7 rfl GTok.f0 zcz) (zV rfl rfl (zi (y' := ((GTok.mk (2 : Int) (Str.mk []) a_i) : GTok)) ty3 rfl rfl hI .here rfl (zq rfl (z7 rfl GTok.f1 zdJ) (zV rfl rfl (zi (y' := ((GTok.mk (2 : Int) (Str.mk ((a_s.b.take (y7).toNat).drop (a_i).toNat)) a_i) : GTok)) ty9 rfl rfl hI .here rfl ?_)))))))))
  refine zae (zy (zn (wsr (oM rfl (oV (zjd rfl rfl) (rnf (zc3 (ι := GTok) (γ := Unit) (fun q9 g9 => []) (fun q9 g9 => [boxE b2 (q9 : GTok)]) k1 h (fun q9 g9 h => ?_) (fun J10 h hJ10 => ?_))))))))
  ·refine wsr (oV (z7 rfl GTok.f1 zdJ) (oT (zI (R := isv (q9.text)) ty9 rfl .here hI (zb h fun y11 hy11 h => oT (zz (zl5 hy11) hT (s1 rfl) .nil (rnf (zf h rfl (fun _ h => ?_) (fun _ h => ?_))))))))
   ·exact zj (oV (z7 rfl GTok.f0 zcz) (oT (zi (y' := ({ q9 with kind := (5 : Int) } : GTok)) ty3 rfl rfl hI .here rfl (zx (zk (hJ5 _ () h _ (ze 21 rfl rfl (za (j := 8) rfl hI zd) k2)))))))
   exact zY (zk (hJ5 _ () h _ (ze 20 rfl rfl (za (j := 8) rfl hI zd) k2)))
  refine zf h rfl (fun _ h => ?_) (fun _ h => ?_)
  ·exact zj (oV (z7 rfl GTok.f0 zcz) (oT (zi (y' := ((GTok.mk (1 : Int) (Str.mk ((a_s.b.take (y7).toNat).drop (a_i).toNat)) a_i) : GTok)) ty3 rfl rfl hI .here rfl (zx (hJ10 _ () h _ (ze 1 rfl rfl zd k2))))))
  exact zY (hJ10 _ () h _ (ze 0 rfl rfl zd k2))
 refine wsr (oM rfl (zb h fun y12 hy12 h => oT (zz (zei hy12) hT (s1 rfl) .nil (oM rfl (zau (jb 66) je .nil h 10 rfl (fun q13 g13 h => ?_) (fun J14 h hJ14 => ?_))))))
 ·refine oA rfl (rnf (zf h rfl (fun _ h => ?_) (fun _ h => ?_)))
  ·refine wsr (oM rfl (oM rfl (zb h fun y22 hy22 h => oT (zz (zkA hy22) hT (s2 rfl rfl) .nil (oA rfl (rnf (zn (wsr ?_))))))))
   refine oM rfl (oV (zaj rfl rfl) (rnf (zf h rfl (fun _ h => ?_) (fun _ h => ?_))))
   ·refine wsr (oT (zI (R := isv ((GTok.mk (0 : Int) (Str.mk []) a_i))) ty80 rfl .here hI (oT (zi (y' := ((GTok.mk (0 : Int) (Str.mk []) a_i) : GTok)) ty80 rfl rfl hI tH rfl (oA rfl (rnf (zM (zB (zE (zB ?_))))))))))
    cases h
    exact zo (.cell rfl .here ty80 (.tmp rfl .nil)) .nil ⟨rfl, rfl⟩
   refine wkf (zW (.v 0 (.v 1 (.v 2 (.v 3 (.v 4 (.t 5 (.v 6 (.t 7 .nil)))))))) moOrd (by kernel_rfl) ?_)
   refine rvm rfl rfl (rvm rfl rfl (rvm rfl rfl (zT h fun q23 h => zq rfl (zh3 st9 rfl (.inr ⟨_, rfl, rfl⟩) (.inr ⟨_, rfl, rfl⟩) q23.1 q23.2.1 q23.2.2) (zq rfl (z7 rfl GTok.f0 zcz) (zV rfl rfl (zi (y' := ((GTok.mk (3 : Int) (Str.mk []) a_i) : GTok)) ty3 rfl rfl hI .here rfl (zq rfl (z7 rfl GTok.f1 zdJ) (zV rfl rfl (zi (y' := ((GTok.mk (3 : Int) (Str.mk ((a_s.b.take (y22).toNat).drop (a_i).toNat)) a_i) : GTok)) ty9 rfl rfl hI .here rfl ?_)))))))))
   exact zae (zk (hJ5 _ () h _ (ze 20 rfl rfl (za (j := 8) rfl hI zd) k2)))
  refine wsr (oM rfl (oV (zco eq5 rfl rfl) (oA rfl (rnf (zf h rfl (fun _ h => ?_) (fun _ h => ?_))))))
  ·refine wsr (oV (z7 rfl GTok.f0 zcz) (oT (zi (y' := ((GTok.mk (4 : Int) (Str.mk []) a_i) : GTok)) ty3 rfl rfl hI .here rfl (rnf (zj (oM rfl (oM rfl (zb h fun y24 hy24 h => oT (zz (znl hy24) hT (s2 rfl rfl) .nil ?_)))))))))
   exact oM rfl (oV (zav rfl rfl) (oV (zav rfl rfl) (oA rfl (oV (z7 rfl GTok.f1 zdJ) (oT (zi (y' := ((GTok.mk (4 : Int) y24.2 a_i) : GTok)) ty9 rfl rfl hI .here rfl (zx (zk (hJ5 _ () h _ (ze 20 rfl rfl (za (j := 8) rfl hI zd) k2))))))))))
  refine wsr (oM rfl (oV (zco eq5 rfl rfl) (oA rfl (rnf (zf h rfl (fun _ h => ?_) (fun _ h => ?_))))))
  ·refine wsr (oV (z7 rfl GTok.f0 zcz) (oT (zi (y' := ((GTok.mk (7 : Int) (Str.mk []) a_i) : GTok)) ty3 rfl rfl hI .here rfl (rnf (zj (oM rfl (oM rfl (zb h fun y25 hy25 h => oT (zz (zj9 hy25) hT (s2 rfl rfl) .nil ?_)))))))))
   exact oM rfl (oV (zav rfl rfl) (oV (zav rfl rfl) (oA rfl (oV (z7 rfl GTok.f1 zdJ) (oT (zi (y' := ((GTok.mk (7 : Int) y25.2 a_i) : GTok)) ty9 rfl rfl hI .here rfl (zx (zk (hJ5 _ () h _ (ze 23 rfl rfl (za (j := 8) rfl hI zd) k2))))))))))
  refine wsr (oM rfl (oM rfl (zb h fun y26 hy26 h => oT (zz (zl7 hy26) hT (s2 rfl rfl) .nil (oA rfl (rnf (wsr (oM rfl ?_))))))))
  refine oV (zbU rfl rfl) (rnf (zf h rfl (fun _ h => ?_) (fun _ h => ?_)))
  ·refine zW (.v 0 (.v 1 (.v 2 (.v 3 (.v 4 (.v 5 (.v 6 (.v 7 (.v 8 (.v 9 (.t 10 (.v 11 (.t 12 (.v 13 .nil)))))))))))))) moOrd (by kernel_rfl) ?_
   refine rvm rfl rfl (rvm rfl rfl (rvm rfl rfl (rvm rfl rfl (zD h fun q27 h => zq rfl (zaf rfl rfl q27) (zT h fun q28 h => zq rfl (zh3 st9 rfl (.inr ⟨_, rfl, rfl⟩) (.inr ⟨_, rfl, rfl⟩) q28.1 q28.2.1 q28.2.2) (rvm rfl rfl ?_))))))
   refine rvm rfl rfl (zD h fun q29 h => zq rfl (zaf rfl rfl q29) (zq rfl (z7 rfl GTok.f0 zcz) (zV rfl rfl (zi (y' := ((GTok.mk (6 : Int) (Str.mk []) a_i) : GTok)) ty3 rfl rfl hI .here rfl (zq rfl (z7 rfl GTok.f1 zdJ) (zV rfl rfl (zi (y' := ((GTok.mk (6 : Int) (Str.mk ((a_s.b.take ((a_i + y26)).toNat).drop (a_i).toNat)) a_i) : GTok)) ty9 rfl rfl hI .here rfl (zq rfl (za1 rfl) (zae ?_)))))))))
   exact zk (hJ5 _ () h _ (ze 32 rfl rfl (za (j := 8) rfl hI zd) k2))
  exact zY (zk (hJ5 _ () h _ (ze 20 rfl rfl (za (j := 8) rfl hI zd) k2)))
 refine zC (j := 56) h rfl (fun g15 h => ?_) (fun g15 h => ?_)
 ·refine oP 56 rfl rfl g15 (oP 56 rfl rfl g15 (oP 56 rfl rfl g15 (zA rfl (dj := 59) rfl (zA rfl (dj := 59) rfl (zA rfl (dj := 59) rfl (zA rfl (dj := 59) rfl (zA rfl (dj := 59) rfl (oP 56 rfl rfl g15 ?_))))))))
  exact oV (zs rfl g15 rfl) (hJ14 _ () h _ (ze 10 rfl rfl (za (j := 66) rfl hI zd) k2))
 refine oK 56 rfl rfl rfl g15 (zw rfl) (oK 56 rfl rfl rfl g15 (zco eq5 rfl rfl) (oK 56 rfl rfl rfl g15 (zw rfl) (zau (jb 65) je .nil h 6 rfl (fun q16 g16 h => ?_) (fun J17 h hJ17 => ?_))))
 ·exact oV (zt rfl g15 rfl) (hJ14 _ () h _ (ze 5 rfl rfl (za (j := 66) rfl hI zd) k2))
 refine zC (j := 59) h rfl (fun g18 h => ?_) (fun g18 h => ?_)
 ·refine oK 59 rfl rfl rfl g18 (zw rfl) (oK 59 rfl rfl rfl g18 (zw rfl) (zD h fun q19 h => oK 59 rfl rfl rfl g18 (zaf rfl rfl q19) (zb h fun y20 hy20 h => zat rfl rfl (dj := 59) rfl g18 (zz (zd8 hy20) hT (s2 rfl rfl) .nil (zb h fun y21 hy21 h => zat rfl rfl (dj := 59) rfl g18 (zz (zei hy21) hT (s1 rfl) .nil (oK 56 rfl rfl rfl g15 (zs rfl g18 rfl) ?_)))))))
  exact hJ17 _ () h _ (ze 6 rfl rfl (za (j := 65) rfl hI zd) k2)
 exact oP 59 rfl rfl g18 (oP 59 rfl rfl g18 (oP 59 rfl rfl g18 (oP 59 rfl rfl g18 (oP 59 rfl rfl g18 (oK 56 rfl rfl rfl g15 (zt rfl g18 rfl) (hJ17 _ () h _ (ze 6 rfl rfl (za (j := 65) rfl hI zd) k2)))))))


theorem zkk : ∀ {zbe : Str} {r : (List GTok) × Int × Int}, zcN zbe = some r → Ctr Tryd.prog 22 [isv (zbe)] [] (fun R H => R = oneOf [isv (r.1), isv (r.2.1), isv (r.2.2)] ∧ H = []) := by
 intro zbe r h
 unfold zcN at h
 refine zr Tryd.func22 rfl fun w0 S0 hT => wsr (oA rfl (oA rfl (oA rfl (rnf (zn (wsr (oM rfl ?_)))))))
 refine oV (zdb st9 rfl) (oV (zbU rfl rfl) (rnf (zf h rfl (fun _ h => ?_) (fun _ h => ?_))))
 ·refine wsr (oA rfl (oA rfl (oA rfl (rnf (zM (zB ?_))))))
  cases h
  exact zo (.as rfl (zdt (α := GTok)) (.tmp rfl (.tmp rfl .nil))) .nil ⟨rfl, rfl⟩
 refine wkf (wsr (oA rfl (rnf (wsr (oA rfl (rnf (zu (zfj (zaQ) ?_))))))))
 refine za5 (ι := (List GTok) × Int) (γ := Tok) (fun q1 g1 => [(5, appv g1 (q1.1)), (6, isv (q1.2))]) (fun q1 g1 => [tokE g1]) h (none) (za (j := 5) rfl zbs (za (j := 6) rfl hI zd)) k1 (fun L2 q1 g1 Q22 h hL2 eL2 rL2 => zu (wsr (oM rfl (oM rfl (zb h fun y12 hy12 h => oT (zz (zk5 hy12) hT (s2 rfl rfl) .nil (oA rfl (rnf ?_))))))))
 refine zn (wsr (oM rfl (oM rfl (oV (zdb st9 rfl) (oV (ze4 rfl rfl) (rnf (zf h rfl (fun _ h => ?_) (fun _ h => ?_))))))))
 ·refine wsr (oM rfl (oM rfl (oV (zdb st9 rfl) (oV (zaw (z := (GTok.mk (0 : Int) (Str.mk []) (zbe.b.length : Int))) rfl bu80 ze80 (.cons GTok.f2 zlL rfl hI .nil)) (oT (zQ (l := ([(GTok.mk (0 : Int) (Str.mk []) (zbe.b.length : Int))] : (List GTok))) el70 (.cons rfl hI .nil) rfl rfl (zZ h fun q15 h => oT (zbk (l := q1.1) (m := ([(GTok.mk (0 : Int) (Str.mk []) (zbe.b.length : Int))] : (List GTok))) zmu rfl hI rfl zK .here q15 fun t14 => oA rfl ?_))))))))
  refine oA rfl (oA rfl (rnf (zM (zB (zE (rL2 _ (zE ?_)))))))
  cases h
  exact zo (.as rfl zK (.tmp rfl (.tmp rfl .nil))) .nil ⟨rfl, rfl⟩
 refine wkf (wsr (oM rfl (oM rfl (zb h fun y16 hy16 h => oT (zz (znF hy16) hT (s2 rfl rfl) .nil (oM rfl (oV (zav rfl rfl) (oV (zav rfl rfl) ?_))))))))
 refine oT (zab _ ze80 fun b17 => oT (zi (y' := (y16.1 : GTok)) ty80 rfl rfl hI .here rfl (zX (zaq 7 .here rfl) (oA rfl (rnf (zn (wsr (oM rfl (oV (zaj rfl rfl) ?_)))))))))
 refine rnf (zf h rfl (fun _ h => ?_) (fun _ h => ?_))
 ·refine wsr (oM rfl (oA rfl (oA rfl (oA rfl (rnf (zM (zB (zE ?_))))))))
  refine rL2 _ (zE ?_)
  cases h
  exact zo (.as rfl (zdt (α := GTok)) (.tmp rfl (.tmp rfl .nil))) .nil ⟨rfl, rfl⟩
 refine wkf (wsr (oM rfl (oV (zg ty80 rfl) (oT (zQ (l := ([y16.1] : (List GTok))) el70 (.cons rfl hI .nil) rfl rfl (zZ h fun q20 h => oT (zbk (l := q1.1) (m := ([y16.1] : (List GTok))) zmu rfl hI rfl zK .here q20 fun t19 => oA rfl (rnf ?_))))))))
 exact zj (oM rfl (oA rfl (zx (zk (hL2 _ (t19) h _ (ze 28 rfl rfl (za (j := 5) rfl hI (za (j := 6) rfl hI zd)) k1))))))


theorem zaL : ∀ {a_x : GPar} {zG : Nat} {t_a_x1 : Tok} {t_a_x2 : Tok} {zJ : Vt} {r : GTok × GPar}, zah a_x = some r → Ctr Tryd.prog 26 [ptrv zG (Fld.id ((List GTok) × Int × (Str × Int × (TList Str) × (TList Int) × Vh) × Int × Int))] [boxE zG ((a_x.l, a_x.at_, (a_x.m.name, a_x.m.tagging, (TList.mk t_a_x1 a_x.m.names), (TList.mk t_a_x2 a_x.m.types), (Vh.mk zJ a_x.m.nodes.length)), a_x.e, a_x.p) : ((List GTok) × Int × (Str × Int × (TList Str) × (TList Int) × Vh) × Int × Int)), tokE t_a_x1, tokE t_a_x2, vecE zJ (a_x.m.nodes : List GNode)] (fun R H => ∃ u1 : Tok, ∃ u2 : Tok, R = oneOf [isv (r.1)] ∧ H = [boxE zG ((r.2.l, r.2.at_, (r.2.m.name, r.2.m.tagging, (TList.mk u1 r.2.m.names), (TList.mk u2 r.2.m.types), (Vh.mk zJ r.2.m.nodes.length)), r.2.e, r.2.p)), tokE u1, tokE u2, vecE zJ (r.2.m.nodes)]) := by
 intro a_x zG t_a_x1 t_a_x2 zJ r h
 unfold zah at h
 refine zr Tryd.func26 rfl fun w0 S0 hT => wsr (oT (zab _ ze80 fun b4 => rnf (zn (zcG 0 tH rfl (fun o5 hn6 => zW (.v 0 (.v 1 (.v 2 (.v 3 (.v 4 (.v 5 (.v 6 (.v 7 (.v 8 (.v 9 (.t 10 .nil))))))))))) moOrd (by kernel_rfl) ?_)))))
 refine rvm rfl rfl (zq rfl (zbr rfl) (zq rfl (zft rfl zhe zki) (zq rfl (zcL (R := isv (a_x.l)) ty70 rfl (List.Mem.head _) hI) (rvm rfl rfl (zq rfl (zbr rfl) (zq rfl (zft rfl zgb ziS) (zq rfl (zcL (R := isv (a_x.at_)) ty3 rfl (List.Mem.head _) hI) (zb h fun y7 hy7 h => ?_))))))))
 refine zq rfl (zaG (l := a_x.l) rfl hI rfl sl70 hy7) (zq rfl (zg ty80 rfl) (zV rfl rfl (zi (y' := (y7 : GTok)) ty80 rfl rfl hI .here rfl (zae (zaN 0 hn6 rfl (zy (zM (zo (.cell rfl tH ty80 .nil) (.cons .here (.cons tH (.cons tH (.cons tH .nil)))) ?_))))))))
 cases h
 exact ⟨t_a_x1, t_a_x2, rfl, rfl⟩


theorem za4 : ∀ {a_x : GPar} {a_e : Int} {a_t : GTok} {zG : Nat} {t_a_x1 : Tok} {t_a_x2 : Tok} {zJ : Vt} {r : GPar}, zay a_x a_e a_t = some r → Ctr Tryd.prog 27 [ptrv zG (Fld.id ((List GTok) × Int × (Str × Int × (TList Str) × (TList Int) × Vh) × Int × Int)), isv (a_e), isv (a_t)] [boxE zG ((a_x.l, a_x.at_, (a_x.m.name, a_x.m.tagging, (TList.mk t_a_x1 a_x.m.names), (TList.mk t_a_x2 a_x.m.types), (Vh.mk zJ a_x.m.nodes.length)), a_x.e, a_x.p) : ((List GTok) × Int × (Str × Int × (TList Str) × (TList Int) × Vh) × Int × Int)), tokE t_a_x1, tokE t_a_x2, vecE zJ (a_x.m.nodes : List GNode)] (fun R H => ∃ u1 : Tok, ∃ u2 : Tok, R = oneOf [] ∧ H = [boxE zG ((r.l, r.at_, (r.m.name, r.m.tagging, (TList.mk u1 r.m.names), (TList.mk u2 r.m.types), (Vh.mk zJ r.m.nodes.length)), r.e, r.p)), tokE u1, tokE u2, vecE zJ (r.m.nodes)]) := by
 intro a_x a_e a_t zG t_a_x1 t_a_x2 zJ r h
 unfold zay at h
 refine zr Tryd.func27 rfl fun w0 S0 hT => wsr (oT (zbA (y := a_t) rfl hI (rnf (wsr (oM rfl (oV (zp rfl) (oV (z7 rfl zbF zcF) (oT (zI (R := isv (a_x.e)) ty31 rfl .here hI ?_)))))))))
 refine oV (zal rfl rfl) (rnf (zf h rfl (fun _ h => ?_) (fun _ h => ?_)))
 ·refine zW (.v 0 (.v 1 (.v 2 (.v 3 (.v 4 (.v 5 (.v 6 (.t 7 (.v 8 (.v 9 (.t 10 .nil))))))))))) moOrd (by kernel_rfl) ?_
  refine rvm rfl rfl (rvm rfl rfl (rvm rfl rfl (zq rfl (zac rfl GTok.f2 zlL rfl (z := a_t.at_)) (zq rfl (zg ty3 rfl) (zq rfl (zp rfl) (zq rfl (z7 rfl zbF zcF) (zV rfl rfl (zi (y' := ((a_x.l, a_x.at_, (a_x.m.name, a_x.m.tagging, (TList.mk t_a_x1 a_x.m.names), (TList.mk t_a_x2 a_x.m.types), (Vh.mk zJ a_x.m.nodes.length)), a_e, a_x.p) : ((List GTok) × Int × (Str × Int × (TList Str) × (TList Int) × Vh) × Int × Int))) ty31 rfl rfl hI .here rfl (zq rfl (zp rfl) ?_)))))))))
  refine zq rfl (z7 rfl zk1 zn6) (zV rfl rfl (zi (y' := ((a_x.l, a_x.at_, (a_x.m.name, a_x.m.tagging, (TList.mk t_a_x1 a_x.m.names), (TList.mk t_a_x2 a_x.m.types), (Vh.mk zJ a_x.m.nodes.length)), a_e, a_t.at_) : ((List GTok) × Int × (Str × Int × (TList Str) × (TList Int) × Vh) × Int × Int))) ty3 rfl rfl hI .here rfl (zae (zan .nil k4 ?_))))
  cases h
  exact ⟨t_a_x1, t_a_x2, rfl, rfl⟩
 refine zY (zan .nil k4 ?_)
 cases h
 exact ⟨t_a_x1, t_a_x2, rfl, rfl⟩


theorem zbB : ∀ {a_x : GPar} {zG : Nat} {t_a_x1 : Tok} {t_a_x2 : Tok} {zJ : Vt} {r : GTok × GPar}, zaK a_x = some r → Ctr Tryd.prog 50 [ptrv zG (Fld.id ((List GTok) × Int × (Str × Int × (TList Str) × (TList Int) × Vh) × Int × Int))] [boxE zG ((a_x.l, a_x.at_, (a_x.m.name, a_x.m.tagging, (TList.mk t_a_x1 a_x.m.names), (TList.mk t_a_x2 a_x.m.types), (Vh.mk zJ a_x.m.nodes.length)), a_x.e, a_x.p) : ((List GTok) × Int × (Str × Int × (TList Str) × (TList Int) × Vh) × Int × Int)), tokE t_a_x1, tokE t_a_x2, vecE zJ (a_x.m.nodes : List GNode)] (fun R H => ∃ u1 : Tok, ∃ u2 : Tok, R = oneOf [isv (r.1)] ∧ H = [boxE zG ((r.2.l, r.2.at_, (r.2.m.name, r.2.m.tagging, (TList.mk u1 r.2.m.names), (TList.mk u2 r.2.m.types), (Vh.mk zJ r.2.m.nodes.length)), r.2.e, r.2.p)), tokE u1, tokE u2, vecE zJ (r.2.m.nodes)]) := by
 intro a_x zG t_a_x1 t_a_x2 zJ r h
 unfold zaK at h
 refine zr Tryd.func50 rfl fun w0 S0 hT => wsr (oT (zab _ ze80 fun b4 => rnf (zn (zcG 0 tH rfl (fun o5 hn6 => zW (.v 0 (.v 1 (.v 2 (.v 3 (.v 4 (.v 5 (.v 6 (.v 7 (.v 8 (.v 9 (.t 10 (.t 11 .nil)))))))))))) moOrd (by kernel_rfl) ?_)))))
 refine rvm rfl rfl (zq rfl (zbr rfl) (zq rfl (zft rfl zhe zki) (zq rfl (zcL (R := isv (a_x.l)) ty70 rfl (List.Mem.head _) hI) (rvm rfl rfl (zq rfl (zbr rfl) (zq rfl (zft rfl zgb ziS) (zq rfl (zcL (R := isv (a_x.at_)) ty3 rfl (List.Mem.head _) hI) (zb h fun y7 hy7 h => ?_))))))))
 refine zq rfl (zaG (l := a_x.l) rfl hI rfl sl70 hy7) (zq rfl (zg ty80 rfl) (zV rfl rfl (zab _ ze80 fun b8 => zV rfl rfl (zi (y' := (y7 : GTok)) ty80 rfl rfl hI .here rfl (zbh (zaq 3 .here rfl) (zae (zaN 0 hn6 rfl (zy (zn ?_)))))))))
 refine zn (zcG 0 .here rfl (fun o9 hn10 => zW (.v 0 (.v 1 (.v 2 (.v 3 (.v 4 (.v 5 (.v 6 (.v 7 (.v 8 (.v 9 (.v 10 .nil))))))))))) moOrd (by kernel_rfl) ?_))
 refine rvm rfl rfl (zq rfl (zbr rfl) (zq rfl (zft rfl zgb ziS) (zq rfl (zcL (R := isv (a_x.at_)) ty3 rfl (List.Mem.head _) hI) (zD h fun q11 h => zq rfl (zaf rfl rfl q11) (rvm rfl rfl (zq rfl (zbr rfl) (zq rfl (zft rfl zhe zki) ?_)))))))
 refine zq rfl (zcL (R := isv (a_x.l)) ty70 rfl (List.Mem.head _) hI) (zq rfl (za2 (l := a_x.l) rfl hI sl70) (zq rfl (zaj rfl rfl) (zae (zaN 0 hn10 rfl (zy (zc3 (ι := GPar) (γ := Tok × Tok) (fun q12 g12 => []) (fun q12 g12 => [boxE zG ((q12.l, q12.at_, (q12.m.name, q12.m.tagging, (TList.mk g12.1 q12.m.names), (TList.mk g12.2 q12.m.types), (Vh.mk zJ q12.m.nodes.length)), q12.e, q12.p) : ((List GTok) × Int × (Str × Int × (TList Str) × (TList Int) × Vh) × Int × Int)), tokE g12.1, tokE g12.2, vecE zJ (q12.m.nodes : List GNode)]) (.cons .here (.cons tH (.cons tH (.cons tH .nil)))) h (fun q12 g12 h => ?_) (fun J13 h hJ13 => ?_)))))))
 ·refine wsr (oV (zg ty80 rfl) (oT (zi (y' := (y7 : GTok)) ty80 rfl rfl hI (.there (.there tI)) rfl (rnf (zM (zo (.cell rfl .here ty80 .nil) (.cons tH (.cons tH (.cons tH (.cons tH .nil)))) ?_))))))
  cases h
  exact ⟨g12.1, g12.2, rfl, rfl⟩
 refine zf h rfl (fun _ h => ?_) (fun _ h => ?_)
 ·refine zj (oM rfl (oV (zp rfl) (oV (z7 rfl zgb ziS) (oT (zI (R := isv (a_x.at_)) ty3 rfl .here hI (zD h fun q14 h => oV (zaf rfl rfl q14) (oV (zp rfl) (oV (z7 rfl zgb ziS) ?_))))))))
  exact oT (zi (y' := ((a_x.l, (a_x.at_ + (1 : Int)), (a_x.m.name, a_x.m.tagging, (TList.mk t_a_x1 a_x.m.names), (TList.mk t_a_x2 a_x.m.types), (Vh.mk zJ a_x.m.nodes.length)), a_x.e, a_x.p) : ((List GTok) × Int × (Str × Int × (TList Str) × (TList Int) × Vh) × Int × Int))) ty3 rfl rfl hI .here rfl (zx (hJ13 _ (t_a_x1, t_a_x2) h _ (ze 7 rfl rfl zd (.cons .here (.cons tH (.cons tH (.cons tH k1))))))))
 exact zY (hJ13 _ (t_a_x1, t_a_x2) h _ (ze 0 rfl rfl zd (.cons .here (.cons tH (.cons tH (.cons tH k1))))))


theorem zca : ∀ {a_x : GPar} {a_k : Int} {zG : Nat} {t_a_x1 : Tok} {t_a_x2 : Tok} {zJ : Vt} {r : Str × GPar}, zaJ a_x a_k = some r → Ctr Tryd.prog 23 [ptrv zG (Fld.id ((List GTok) × Int × (Str × Int × (TList Str) × (TList Int) × Vh) × Int × Int)), isv (a_k)] [boxE zG ((a_x.l, a_x.at_, (a_x.m.name, a_x.m.tagging, (TList.mk t_a_x1 a_x.m.names), (TList.mk t_a_x2 a_x.m.types), (Vh.mk zJ a_x.m.nodes.length)), a_x.e, a_x.p) : ((List GTok) × Int × (Str × Int × (TList Str) × (TList Int) × Vh) × Int × Int)), tokE t_a_x1, tokE t_a_x2, vecE zJ (a_x.m.nodes : List GNode)] (fun R H => ∃ u1 : Tok, ∃ u2 : Tok, R = oneOf [isv (r.1)] ∧ H = [boxE zG ((r.2.l, r.2.at_, (r.2.m.name, r.2.m.tagging, (TList.mk u1 r.2.m.names), (TList.mk u2 r.2.m.types), (Vh.mk zJ r.2.m.nodes.length)), r.2.e, r.2.p)), tokE u1, tokE u2, vecE zJ (r.2.m.nodes)]) := by
 intro a_x a_k zG t_a_x1 t_a_x2 zJ r h
 unfold zaJ at h
 refine zr Tryd.func23 rfl fun w0 S0 hT => wsr (oA rfl (rnf (wsr (oM rfl (zb h fun y4 hy4 h => oT (zL (zaL hy4) hT (s1 rfl) k4 (fun R H' hR => ?_)))))))
 obtain ⟨t5, t6, rfl, rfl⟩ := hR
 refine oT (zab _ ze80 fun b7 => oT (zi (y' := (y4.1 : GTok)) ty80 rfl rfl hI .here rfl (zX (zaq 5 .here rfl) (rnf (zn (wsr (oM rfl (oV (zp rfl) (oV (z7 rfl zbF zcF) ?_)))))))))
 refine oT (zI (R := isv (y4.2.e)) ty31 rfl .here hI (oV (zb0 rfl rfl) (oM rfl (zau (jb 18) je .nil h 5 rfl (fun q8 g8 h => ?_) (fun J9 h hJ9 => ?_)))))
 ·refine rnf (zf h rfl (fun _ h => ?_) (fun _ h => ?_))
  ·refine wsr (oM rfl (oV (zg ty80 rfl) (zb h fun y11 hy11 h => oT (zL (za4 hy11) hT (s3 rfl rfl rfl) k4 (fun R H' hR => ?_)))))
   obtain ⟨t12, t13, rfl, rfl⟩ := hR
   refine rnf (wsr (oA rfl (rnf (zM (zB (zo (.tmp rfl .nil) k4 ?_))))))
   cases h
   exact ⟨t12, t13, rfl, rfl⟩
  refine wkf (wsr (oM rfl (zb h fun y14 hy14 h => oT (zL (zbB hy14) hT (s1 rfl) k4 (fun R H' hR => ?_)))))
  obtain ⟨t15, t16, rfl, rfl⟩ := hR
  refine oV (zgv GTok.f1 rfl zdJ rfl) (oA rfl (rnf (zM (zo (.tmp rfl .nil) k4 ?_))))
  cases h
  exact ⟨t15, t16, rfl, rfl⟩
 refine zC (j := 13) h rfl (fun g10 h => ?_) (fun g10 h => ?_)
 ·exact oP 13 rfl rfl g10 (oP 13 rfl rfl g10 (oP 13 rfl rfl g10 (oP 13 rfl rfl g10 (oV (zs rfl g10 rfl) (hJ9 _ () h _ (ze 5 rfl rfl (za (j := 18) rfl hI zd) k4))))))
 exact oK 13 rfl rfl rfl g10 (zac rfl GTok.f0 zcz rfl (z := y4.1.kind)) (oK 13 rfl rfl rfl g10 (zg ty3 rfl) (oK 13 rfl rfl rfl g10 (zw rfl) (oK 13 rfl rfl rfl g10 (zb0 rfl rfl) (oV (zt rfl g10 rfl) (hJ9 _ () h _ (ze 5 rfl rfl (za (j := 18) rfl hI zd) k4))))))


theorem zN : ∀ {a_x : GPar} {a_s : Str} {zG : Nat} {t_a_x1 : Tok} {t_a_x2 : Tok} {zJ : Vt} {r : Bool × GPar}, zF a_x a_s = some r → Ctr Tryd.prog 25 [ptrv zG (Fld.id ((List GTok) × Int × (Str × Int × (TList Str) × (TList Int) × Vh) × Int × Int)), isv (a_s)] [boxE zG ((a_x.l, a_x.at_, (a_x.m.name, a_x.m.tagging, (TList.mk t_a_x1 a_x.m.names), (TList.mk t_a_x2 a_x.m.types), (Vh.mk zJ a_x.m.nodes.length)), a_x.e, a_x.p) : ((List GTok) × Int × (Str × Int × (TList Str) × (TList Int) × Vh) × Int × Int)), tokE t_a_x1, tokE t_a_x2, vecE zJ (a_x.m.nodes : List GNode)] (fun R H => ∃ u1 : Tok, ∃ u2 : Tok, R = oneOf [isv (r.1)] ∧ H = [boxE zG ((r.2.l, r.2.at_, (r.2.m.name, r.2.m.tagging, (TList.mk u1 r.2.m.names), (TList.mk u2 r.2.m.types), (Vh.mk zJ r.2.m.nodes.length)), r.2.e, r.2.p)), tokE u1, tokE u2, vecE zJ (r.2.m.nodes)]) := by
 intro a_x a_s zG t_a_x1 t_a_x2 zJ r h
 unfold zF at h
 refine zr Tryd.func25 rfl fun w0 S0 hT => wsr (oA rfl (rnf (wsr (oM rfl (zb h fun y4 hy4 h => oT (zL (zaL hy4) hT (s1 rfl) k4 (fun R H' hR => ?_)))))))
 obtain ⟨t5, t6, rfl, rfl⟩ := hR
 refine oT (zab _ ze80 fun b7 => oT (zi (y' := (y4.1 : GTok)) ty80 rfl rfl hI .here rfl (zX (zaq 5 .here rfl) (rnf (zn (wsr (oM rfl (oV (zp rfl) (oV (z7 rfl zbF zcF) ?_)))))))))
 refine oT (zI (R := isv (y4.2.e)) ty31 rfl .here hI (oV (zal rfl rfl) (oM rfl (zau (jb 22) je .nil h 9 rfl (fun q8 g8 h => ?_) (fun J9 h hJ9 => ?_)))))
 ·refine oM rfl (zau (jb 28) je .nil h 5 rfl (fun q14 g14 h => ?_) (fun J15 h hJ15 => ?_))
  ·refine rnf (zf h rfl (fun _ h => ?_) (fun _ h => ?_))
   ·refine wsr (oM rfl (zb h fun y17 hy17 h => oT (zL (zbB hy17) hT (s1 rfl) k4 (fun R H' hR => ?_))))
    obtain ⟨t18, t19, rfl, rfl⟩ := hR
    refine rnf (wsr (oA rfl (rnf (zM (zB (zo (.tmp rfl .nil) k4 ?_))))))
    cases h
    exact ⟨t18, t19, rfl, rfl⟩
   refine wkf (wsr (oA rfl (rnf (zM (zo (.tmp rfl .nil) k4 ?_)))))
   cases h
   exact ⟨t5, t6, rfl, rfl⟩
  refine zC (j := 23) h rfl (fun g16 h => ?_) (fun g16 h => ?_)
  ·exact oK 23 rfl rfl rfl g16 (zac rfl GTok.f1 zdJ rfl (z := y4.1.text)) (oK 23 rfl rfl rfl g16 (zg ty9 rfl) (oK 23 rfl rfl rfl g16 (zw rfl) (oK 23 rfl rfl rfl g16 (zco eq9 rfl rfl) (oV (zs rfl g16 rfl) (hJ15 _ () h _ (ze 5 rfl rfl (za (j := 28) rfl hI zd) k4))))))
  exact oP 23 rfl rfl g16 (oP 23 rfl rfl g16 (oP 23 rfl rfl g16 (oP 23 rfl rfl g16 (oV (zt rfl g16 rfl) (hJ15 _ () h _ (ze 5 rfl rfl (za (j := 28) rfl hI zd) k4))))))
 refine zC (j := 13) h rfl (fun g10 h => ?_) (fun g10 h => ?_)
 ·refine oK 13 rfl rfl rfl g10 (zac rfl GTok.f0 zcz rfl (z := y4.1.kind)) (oK 13 rfl rfl rfl g10 (zg ty3 rfl) (oK 13 rfl rfl rfl g10 (zal rfl rfl) (oK 13 rfl rfl rfl g10 (zw rfl) (zau (jb 21) je .nil h 4 rfl (fun q11 g11 h => ?_) (fun J12 h hJ12 => ?_)))))
  ·exact oV (zs rfl g10 rfl) (hJ9 _ () h _ (ze 6 rfl rfl (za (j := 22) rfl hI zd) k4))
  refine zC (j := 17) h rfl (fun g13 h => ?_) (fun g13 h => ?_)
  ·exact oP 17 rfl rfl g13 (oP 17 rfl rfl g13 (oP 17 rfl rfl g13 (oK 13 rfl rfl rfl g10 (zs rfl g13 rfl) (hJ12 _ () h _ (ze 4 rfl rfl (za (j := 21) rfl hI zd) k4)))))
  exact oK 17 rfl rfl rfl g13 (zac rfl GTok.f0 zcz rfl (z := y4.1.kind)) (oK 17 rfl rfl rfl g13 (zg ty3 rfl) (oK 17 rfl rfl rfl g13 (zal rfl rfl) (oK 13 rfl rfl rfl g10 (zt rfl g13 rfl) (hJ12 _ () h _ (ze 4 rfl rfl (za (j := 21) rfl hI zd) k4)))))
 refine oP 13 rfl rfl g10 (oP 13 rfl rfl g10 (oP 13 rfl rfl g10 (oP 13 rfl rfl g10 (zA rfl (dj := 17) rfl (zA rfl (dj := 17) rfl (zA rfl (dj := 17) rfl (oP 13 rfl rfl g10 (oV (zt rfl g10 rfl) ?_))))))))
 exact hJ9 _ () h _ (ze 9 rfl rfl (za (j := 22) rfl hI zd) k4)


theorem z8 : ∀ {a_x : GPar} {a_s : Str} {zG : Nat} {t_a_x1 : Tok} {t_a_x2 : Tok} {zJ : Vt} {r : GPar}, zO a_x a_s = some r → Ctr Tryd.prog 24 [ptrv zG (Fld.id ((List GTok) × Int × (Str × Int × (TList Str) × (TList Int) × Vh) × Int × Int)), isv (a_s)] [boxE zG ((a_x.l, a_x.at_, (a_x.m.name, a_x.m.tagging, (TList.mk t_a_x1 a_x.m.names), (TList.mk t_a_x2 a_x.m.types), (Vh.mk zJ a_x.m.nodes.length)), a_x.e, a_x.p) : ((List GTok) × Int × (Str × Int × (TList Str) × (TList Int) × Vh) × Int × Int)), tokE t_a_x1, tokE t_a_x2, vecE zJ (a_x.m.nodes : List GNode)] (fun R H => ∃ u1 : Tok, ∃ u2 : Tok, R = oneOf [] ∧ H = [boxE zG ((r.l, r.at_, (r.m.name, r.m.tagging, (TList.mk u1 r.m.names), (TList.mk u2 r.m.types), (Vh.mk zJ r.m.nodes.length)), r.e, r.p)), tokE u1, tokE u2, vecE zJ (r.m.nodes)]) := by
 intro a_x a_s zG t_a_x1 t_a_x2 zJ r h
 unfold zO at h
 refine zr Tryd.func24 rfl fun w0 S0 hT => wsr (oM rfl (oV (zp rfl) (oV (z7 rfl zbF zcF) (oT (zI (R := isv (a_x.e)) ty31 rfl .here hI (oV (zal rfl rfl) (oM rfl (zau (ι := Bool × GPar) (γ := Tok × Tok) (fun q4 g4 => [(14, isv (q4.1))]) (fun q4 g4 => [boxE zG ((q4.2.l, q4.2.at_, (q4.2.m.name, q4.2.m.tagging, (TList.mk g4.1 q4.2.m.names), (TList.mk g4.2 q4.2.m.types), (Vh.mk zJ q4.2.m.nodes.length)), q4.2.e, q4.2.p) : ((List GTok) × Int × (Str × Int × (TList Str) × (TList Int) × Vh) × Int × Int)), tokE g4.1, tokE g4.2, vecE zJ (q4.2.m.nodes : List GNode)]) k4 h 5 rfl (fun q4 g4 h => ?_) (fun J5 h hJ5 => ?_)))))))))
 ·refine rnf (zf h rfl (fun _ h => ?_) (fun _ h => ?_))
  ·refine zj (oM rfl (oM rfl (zb h fun y10 hy10 h => oT (zL (zaL hy10) hT (s1 rfl) k4 (fun R H' hR => ?_)))))
   obtain ⟨t11, t12, rfl, rfl⟩ := hR
   refine zb h fun y13 hy13 h => oT (zL (za4 hy13) hT (s3 rfl rfl rfl) k4 (fun R H' hR => ?_))
   obtain ⟨t14, t15, rfl, rfl⟩ := hR
   refine zx (zan .nil k4 ?_)
   cases h
   exact ⟨t14, t15, rfl, rfl⟩
  refine zY (zan .nil k4 ?_)
  cases h
  exact ⟨g4.1, g4.2, rfl, rfl⟩
 refine zC (j := 9) h rfl (fun g6 h => ?_) (fun g6 h => ?_)
 ·refine oK 9 rfl rfl rfl g6 (zw rfl) (oK 9 rfl rfl rfl g6 (zw rfl) (zb h fun y7 hy7 h => zat rfl rfl (dj := 9) rfl g6 (zL (zN hy7) hT (s2 rfl rfl) k4 (fun R H' hR => ?_))))
  obtain ⟨t8, t9, rfl, rfl⟩ := hR
  exact oK 9 rfl rfl rfl g6 (zbG rfl) (oV (zs rfl g6 rfl) (hJ5 _ (t8, t9) h _ (ze 5 rfl rfl (za (j := 14) rfl hI zd) k4)))
 exact oP 9 rfl rfl g6 (oP 9 rfl rfl g6 (oP 9 rfl rfl g6 (oP 9 rfl rfl g6 (oV (zt rfl g6 rfl) (hJ5 _ (t_a_x1, t_a_x2) h _ (ze 5 rfl rfl (za (j := 14) rfl hI zd) k4))))))


theorem zjW : ∀ {a_t : GTok} {r : Bool}, zd0 a_t = some r → Ctr Tryd.prog 51 [isv (a_t)] [] (fun R H => R = oneOf [isv (r)] ∧ H = []) := by
 intro a_t r h
 unfold zd0 at h
 refine zr Tryd.func51 rfl fun w0 S0 hT => wsr (oT (zbA (y := a_t) rfl hI (oA rfl (rnf (wsr (oT (zQ (l := ([(Str.mk [91]), (Str.mk [66, 79, 79, 76, 69, 65, 78]), (Str.mk [78, 85, 76, 76]), (Str.mk [85, 84, 70, 56, 83, 116, 114, 105, 110, 103]), (Str.mk [73, 78, 84, 69, 71, 69, 82]), (Str.mk [79, 67, 84, 69, 84]), (Str.mk [69, 78, 85, 77, 69, 82, 65, 84, 69, 68]), (Str.mk [83, 69, 84]), (Str.mk [67, 72, 79, 73, 67, 69]), (Str.mk [83, 69, 81, 85, 69, 78, 67, 69])] : (List Str))) el27 (.cons rfl hI (.cons rfl hI (.cons rfl hI (.cons rfl hI (.cons rfl hI (.cons rfl hI (.cons rfl hI (.cons rfl hI (.cons rfl hI (.cons rfl hI .nil)))))))))) rfl rfl (oA rfl (rnf ?_)))))))))
 refine zn (wsr (oA rfl (rnf (zu (za5 (ι := Int) (γ := Unit) (fun q2 g2 => [(4, isv (q2))]) (fun q2 g2 => []) h () (za (j := 4) rfl hI zd) .nil (fun L3 q2 g2 Q20 h hL3 eL3 rL3 => zn (wsr (oM rfl ?_))))))))
 refine oM rfl (oV (za2 (l := ([(Str.mk [91]), (Str.mk [66, 79, 79, 76, 69, 65, 78]), (Str.mk [78, 85, 76, 76]), (Str.mk [85, 84, 70, 56, 83, 116, 114, 105, 110, 103]), (Str.mk [73, 78, 84, 69, 71, 69, 82]), (Str.mk [79, 67, 84, 69, 84]), (Str.mk [69, 78, 85, 77, 69, 82, 65, 84, 69, 68]), (Str.mk [83, 69, 84]), (Str.mk [67, 72, 79, 73, 67, 69]), (Str.mk [83, 69, 81, 85, 69, 78, 67, 69])] : (List Str))) rfl zK sl27) (oV (zaj rfl rfl) (rnf (zf h rfl (fun _ h => ?_) (fun _ h => ?_)))))
 ·refine wkf (zn (zu (zn (zW (.v 0 (.v 1 (.v 2 (.v 3 (.v 4 (.v 5 (.v 6 (.v 7 (.v 8 (.v 9 (.v 10 (.v 11 (.v 12 (.v 13 (.v 14 (.v 15 (.v 16 .nil))))))))))))))))) moOrd (by kernel_rfl) ?_))))
  refine rvm rfl rfl (rvm rfl rfl (zb h fun y12 hy12 h => zq rfl (zaG (l := ([(Str.mk [91]), (Str.mk [66, 79, 79, 76, 69, 65, 78]), (Str.mk [78, 85, 76, 76]), (Str.mk [85, 84, 70, 56, 83, 116, 114, 105, 110, 103]), (Str.mk [73, 78, 84, 69, 71, 69, 82]), (Str.mk [79, 67, 84, 69, 84]), (Str.mk [69, 78, 85, 77, 69, 82, 65, 84, 69, 68]), (Str.mk [83, 69, 84]), (Str.mk [67, 72, 79, 73, 67, 69]), (Str.mk [83, 69, 81, 85, 69, 78, 67, 69])] : (List Str))) rfl zK rfl sl27 hy12) (zq rfl (zg ty9 rfl) (zq rfl (zac rfl GTok.f1 zdJ rfl (z := a_t.text)) (zq rfl (zg ty9 rfl) (zq rfl (zco eq9 rfl rfl) (rvm rfl rfl ?_)))))))
  refine zeg (jb 28) je .nil h 9 rfl (fun q13 g13 h => ?_) (fun J14 h hJ14 => ?_)
  ·refine zae (zy (zf h rfl (fun _ h => ?_) (fun _ h => ?_)))
   ·refine wsr (oA rfl (rnf (zM (zE (zB (rL3 _ (zE (zB ?_))))))))
    cases h
    exact zo (.tmp rfl .nil) .nil ⟨rfl, rfl⟩
   refine zY (zk (zy (zj (oM rfl (zD h fun q19 h => oV (zaf rfl rfl q19) (oA rfl (zx ?_)))))))
   exact hL3 _ () h _ (ji 17 4 rfl rfl rfl)
  refine zaT (j := 19) h rfl (fun g15 h => ?_) (fun g15 h => ?_)
  ·refine rvt 19 rfl rfl rfl g15 (zac rfl GTok.f0 zcz rfl (z := a_t.kind)) (rvt 19 rfl rfl rfl g15 (zg ty3 rfl) (rvt 19 rfl rfl rfl g15 (zal rfl rfl) (rvt 19 rfl rfl rfl g15 (zw rfl) (zeg (jb 27) je .nil h 4 rfl (fun q16 g16 h => ?_) (fun J17 h hJ17 => ?_)))))
   ·exact zq rfl (zs rfl g15 rfl) (hJ14 _ () h _ (ji 6 28 rfl rfl rfl))
   refine zaT (j := 23) h rfl (fun g18 h => ?_) (fun g18 h => ?_)
   ·exact rpv 23 rfl rfl rfl g18 (rpv 23 rfl rfl rfl g18 (rpv 23 rfl rfl rfl g18 (rvt 19 rfl rfl rfl g15 (zs rfl g18 rfl) (hJ17 _ () h _ (ji 4 27 rfl rfl rfl)))))
   exact rvt 23 rfl rfl rfl g18 (zac rfl GTok.f0 zcz rfl (z := a_t.kind)) (rvt 23 rfl rfl rfl g18 (zg ty3 rfl) (rvt 23 rfl rfl rfl g18 (zal rfl rfl) (rvt 19 rfl rfl rfl g15 (zt rfl g18 rfl) (hJ17 _ () h _ (ji 4 27 rfl rfl rfl)))))
  refine rpv 19 rfl rfl rfl g15 (rpv 19 rfl rfl rfl g15 (rpv 19 rfl rfl rfl g15 (rpv 19 rfl rfl rfl g15 (zet rfl rfl (dj := 23) rfl (zet rfl rfl (dj := 23) rfl (zet rfl rfl (dj := 23) rfl (rpv 19 rfl rfl rfl g15 (zq rfl (zt rfl g15 rfl) ?_))))))))
  exact hJ14 _ () h _ (ji 9 28 rfl rfl rfl)
 refine zad (zU (eL3 _ _ (zH (zy (wsr (oV (zac rfl GTok.f0 zcz rfl (z := a_t.kind)) (oV (zg ty3 rfl) (oV (zal rfl rfl) ?_))))))))
 refine oA rfl (rnf (zM ?_))
 cases h
 exact zo (.tmp rfl .nil) .nil ⟨rfl, rfl⟩


theorem zh4 : ∀ {a_s : Str} {r : Int}, zcP a_s = some r → Ctr Tryd.prog 76 [isv (a_s)] [] (fun R H => R = oneOf [isv (r)] ∧ H = []) := by
 intro a_s r h
 unfold zcP at h
 refine zr Tryd.func76 rfl fun w0 S0 hT => wsr (oA rfl (rnf (wsr (oM rfl (zb h fun y1 hy1 h => oV (zbI y1 st9 rfl rfl hy1) (oV (zco eq5 rfl rfl) ?_))))))
 refine oA rfl (rnf (zn (wsr (oM rfl (rnf (zc3 (ι := Str) (γ := Unit) (fun q2 g2 => [(0, isv (q2))]) (fun q2 g2 => []) .nil h (fun q2 g2 h => ?_) (fun J3 h hJ3 => ?_)))))))
 ·refine wsr (oA rfl (rnf (zn (wsr (oA rfl (rnf (zu (za5 (ι := UInt64 × Int) (γ := Unit) (fun q5 g5 => [(4, isv (q5.1)), (5, isv (q5.2))]) (fun q5 g5 => []) h () (za (j := 4) rfl hI (za (j := 5) rfl hI zd)) .nil (fun L6 q5 g5 Q19 h hL6 eL6 rL6 => ?_)))))))))
  refine zn (wsr (oM rfl (oM rfl (oV (zdb st9 rfl) (oV (zaj rfl rfl) (rnf (zf h rfl (fun _ h => ?_) (fun _ h => ?_))))))))
  ·refine wkf (zn (zu (zj (oM rfl (oV (zmH rfl rfl) (oM rfl (oM rfl (zb h fun y13 hy13 h => ?_))))))))
   refine oV (zbI y13 st9 rfl rfl hy13) (oV (zkl rfl rfl) (oV (zd3 Tryd.underlying5 Tryd.underlying26 rfl) (oV (zij rfl rfl) (oA rfl (zx (zk (zy (zj ?_))))))))
   exact oM rfl (zD h fun q14 h => oV (zaf rfl rfl q14) (oA rfl (zx (hL6 _ () h _ (ze 18 rfl rfl (za (j := 4) rfl hI (za (j := 5) rfl hI zd)) .nil)))))
  refine zad (zU (eL6 _ _ (zH (zy (zn (wsr (oM rfl (rnf ?_))))))))
  refine zf h rfl (fun _ h => ?_) (fun _ h => ?_)
  ·refine wsr (oM rfl (oV (zo3 rfl rfl) (zD h fun q15 h => oV (zga Tryd.underlying26 Tryd.underlying2 rfl q15) (zD h fun q16 h => oV (zqr rfl q16) (zD h fun q17 h => oV (zbO rfl rfl q17) ?_)))))
   refine oA rfl (rnf (zM (zB ?_)))
   cases h
   exact zo (.tmp rfl .nil) .nil ⟨rfl, rfl⟩
  refine wkf (wsr (oM rfl (zD h fun q18 h => oV (zga Tryd.underlying26 Tryd.underlying2 rfl q18) (oA rfl (rnf (zM ?_))))))
  cases h
  exact zo (.tmp rfl .nil) .nil ⟨rfl, rfl⟩
 refine zf h rfl (fun _ h => ?_) (fun _ h => ?_)
 ·exact zj (oM rfl (zT h fun q4 h => oV (zh3 st9 rfl (.inr ⟨_, rfl, rfl⟩) (.inl ⟨rfl, rfl⟩) q4.1 q4.2.1 q4.2.2) (oA rfl (zx (hJ3 _ () h _ (ji 3 0 rfl rfl rfl))))))
 exact zY (hJ3 _ () h _ (ji 0 0 rfl rfl rfl))


theorem zck : ∀ {a_x : GPar} {zG : Nat} {t_a_x1 : Tok} {t_a_x2 : Tok} {zJ : Vt} {r : Int × GPar}, zaR a_x = some r → Ctr Tryd.prog 52 [ptrv zG (Fld.id ((List GTok) × Int × (Str × Int × (TList Str) × (TList Int) × Vh) × Int × Int))] [boxE zG ((a_x.l, a_x.at_, (a_x.m.name, a_x.m.tagging, (TList.mk t_a_x1 a_x.m.names), (TList.mk t_a_x2 a_x.m.types), (Vh.mk zJ a_x.m.nodes.length)), a_x.e, a_x.p) : ((List GTok) × Int × (Str × Int × (TList Str) × (TList Int) × Vh) × Int × Int)), tokE t_a_x1, tokE t_a_x2, vecE zJ (a_x.m.nodes : List GNode)] (fun R H => ∃ u1 : Tok, ∃ u2 : Tok, R = oneOf [isv (r.1)] ∧ H = [boxE zG ((r.2.l, r.2.at_, (r.2.m.name, r.2.m.tagging, (TList.mk u1 r.2.m.names), (TList.mk u2 r.2.m.types), (Vh.mk zJ r.2.m.nodes.length)), r.2.e, r.2.p)), tokE u1, tokE u2, vecE zJ (r.2.m.nodes)]) := by
 intro a_x zG t_a_x1 t_a_x2 zJ r h
 unfold zaR at h
 refine zr Tryd.func52 rfl fun w0 S0 hT => wsr (oA rfl (rnf (wsr (oM rfl (zb h fun y4 hy4 h => oT (zL (zca hy4) hT (s2 rfl rfl) k4 (fun R H' hR => ?_)))))))
 obtain ⟨t5, t6, rfl, rfl⟩ := hR
 refine oA rfl (rnf (zn (wsr (oM rfl (oV (zco eq9 rfl rfl) (rnf (zf h rfl (fun _ h => ?_) (fun _ h => ?_))))))))
 ·refine wsr (oA rfl (rnf (zM (zB (zo (.tmp rfl .nil) k4 ?_)))))
  cases h
  exact ⟨t5, t6, rfl, rfl⟩
 refine wkf (wsr (oM rfl (zb h fun y7 hy7 h => oT (zz (zh4 hy7) hT (s1 rfl) .nil (oA rfl (rnf (zM (zo (.tmp rfl .nil) k4 ?_))))))))
 cases h
 exact ⟨t5, t6, rfl, rfl⟩


theorem zen : ∀ {a_x : GPar} {zG : Nat} {t_a_x1 : Tok} {t_a_x2 : Tok} {zJ : Vt} {r : GCon × GPar}, zbT a_x = some r → Ctr Tryd.prog 78 [ptrv zG (Fld.id ((List GTok) × Int × (Str × Int × (TList Str) × (TList Int) × Vh) × Int × Int))] [boxE zG ((a_x.l, a_x.at_, (a_x.m.name, a_x.m.tagging, (TList.mk t_a_x1 a_x.m.names), (TList.mk t_a_x2 a_x.m.types), (Vh.mk zJ a_x.m.nodes.length)), a_x.e, a_x.p) : ((List GTok) × Int × (Str × Int × (TList Str) × (TList Int) × Vh) × Int × Int)), tokE t_a_x1, tokE t_a_x2, vecE zJ (a_x.m.nodes : List GNode)] (fun R H => ∃ u1 : Tok, ∃ u2 : Tok, R = oneOf [isv (r.1)] ∧ H = [boxE zG ((r.2.l, r.2.at_, (r.2.m.name, r.2.m.tagging, (TList.mk u1 r.2.m.names), (TList.mk u2 r.2.m.types), (Vh.mk zJ r.2.m.nodes.length)), r.2.e, r.2.p)), tokE u1, tokE u2, vecE zJ (r.2.m.nodes)]) := by
 intro a_x zG t_a_x1 t_a_x2 zJ r h
 unfold zbT at h
 refine zr Tryd.func78 rfl fun w0 S0 hT => wsr (oT (zab _ ze50 fun b4 => rnf (wsr (oV (zaw (z := (GCon.mk true false false false (0 : Int) (0 : Int))) rfl bu50 ze50 (.cons GCon.f0 zlS rfl hI .nil)) (oT (zab _ ze50 fun b5 => oT (zi (y' := ((GCon.mk true false false false (0 : Int) (0 : Int)) : GCon)) ty50 rfl rfl hI .here rfl (rnf ?_))))))))
 refine zn (wsr (oM rfl (zb h fun y6 hy6 h => oT (zL (zN hy6) hT (s2 rfl rfl) (.cons tI (.cons tI (.cons tI (.cons tI .nil)))) (fun R H' hR => ?_)))))
 obtain ⟨t7, t8, rfl, rfl⟩ := hR
 refine oV (zbG rfl) (rnf (zc3 (ι := GPar × GCon) (γ := Tok × Tok) (fun q9 g9 => []) (fun q9 g9 => [boxE zG ((q9.1.l, q9.1.at_, (q9.1.m.name, q9.1.m.tagging, (TList.mk g9.1 q9.1.m.names), (TList.mk g9.2 q9.1.m.types), (Vh.mk zJ q9.1.m.nodes.length)), q9.1.e, q9.1.p) : ((List GTok) × Int × (Str × Int × (TList Str) × (TList Int) × Vh) × Int × Int)), tokE g9.1, tokE g9.2, vecE zJ (q9.1.m.nodes : List GNode), boxE b5 (q9.2 : GCon)]) (.cons .here (.cons (.there tI) k3)) h (fun q9 g9 h => ?_) (fun J10 h hJ10 => ?_)))
 ·refine zn (zc3 (ι := GPar × GCon) (γ := Tok × Tok) (fun q14 g14 => []) (fun q14 g14 => [boxE zG ((q14.1.l, q14.1.at_, (q14.1.m.name, q14.1.m.tagging, (TList.mk g14.1 q14.1.m.names), (TList.mk g14.2 q14.1.m.types), (Vh.mk zJ q14.1.m.nodes.length)), q14.1.e, q14.1.p) : ((List GTok) × Int × (Str × Int × (TList Str) × (TList Int) × Vh) × Int × Int)), tokE g14.1, tokE g14.2, vecE zJ (q14.1.m.nodes : List GNode), boxE b5 (q14.2 : GCon)]) (.cons .here (.cons (.there tI) k3)) h (fun q14 g14 h => ?_) (fun J15 h hJ15 => ?_))
  ·refine zn (wsr (oM rfl (zb h fun y25 hy25 h => oT (zL (zN hy25) hT (s2 rfl rfl) k4 (fun R H' hR => ?_)))))
   obtain ⟨t26, t27, rfl, rfl⟩ := hR
   refine rnf (zc3 (ι := GPar × GCon) (γ := Tok × Tok) (fun q28 g28 => []) (fun q28 g28 => [boxE zG ((q28.1.l, q28.1.at_, (q28.1.m.name, q28.1.m.tagging, (TList.mk g28.1 q28.1.m.names), (TList.mk g28.2 q28.1.m.types), (Vh.mk zJ q28.1.m.nodes.length)), q28.1.e, q28.1.p) : ((List GTok) × Int × (Str × Int × (TList Str) × (TList Int) × Vh) × Int × Int)), tokE g28.1, tokE g28.2, vecE zJ (q28.1.m.nodes : List GNode), boxE b5 (q28.2 : GCon)]) (.cons .here (.cons (.there tI) k3)) h (fun q28 g28 h => ?_) (fun J29 h hJ29 => ?_))
   ·refine wsr (oT (zI (R := isv (q28.2)) ty50 rfl (.there (.there tI)) hI (oT (zi (y' := (q28.2 : GCon)) ty50 rfl rfl hI (.there (.there (.there tI))) rfl (rnf (zM (zo (.cell rfl .here ty50 .nil) (.cons tH (.cons tH (.cons tH (.cons tH .nil)))) ?_)))))))
    cases h
    exact ⟨g28.1, g28.2, rfl, rfl⟩
   refine zf h rfl (fun _ h => ?_) (fun _ h => ?_)
   ·refine wsr (oM rfl (zb h fun y30 hy30 h => oT (zL (z8 hy30) hT (s2 rfl rfl) k4 (fun R H' hR => ?_))))
    obtain ⟨t31, t32, rfl, rfl⟩ := hR
    exact rnf (zj (oV (z7 rfl GCon.f3 zpV) (oT (zi (y' := ({ q14.2 with more := true } : GCon)) ty4 rfl rfl hI (.there (.there tI)) rfl (zx (hJ29 _ (t31, t32) h _ (ze 3 rfl rfl zd (.cons tH (.cons tH (.cons tH (.cons tH k2)))))))))))
   exact zY (hJ29 _ (t26, t27) h _ (ze 0 rfl rfl zd (.cons .here (.cons .here k4))))
  refine zu (wsr (oM rfl (zb h fun y16 hy16 h => oT (zL (zN hy16) hT (s2 rfl rfl) k4 (fun R H' hR => ?_)))))
  obtain ⟨t17, t18, rfl, rfl⟩ := hR
  refine oA rfl (rnf (zf h rfl (fun _ h => ?_) (fun _ h => ?_)))
  ·refine wsr (oM rfl (zb h fun y19 hy19 h => oT (zL (zN hy19) hT (s2 rfl rfl) k4 (fun R H' hR => ?_))))
   obtain ⟨t20, t21, rfl, rfl⟩ := hR
   refine oV (zbG rfl) (rnf (zf h rfl (fun _ h => ?_) (fun _ h => ?_)))
   ·refine zj (oM rfl (zb h fun y22 hy22 h => oT (zL (zck hy22) hT (s1 rfl) k4 (fun R H' hR => ?_))))
    obtain ⟨t23, t24, rfl, rfl⟩ := hR
    exact oV (z7 rfl GCon.f2 ziJ) (oT (zi (y' := ({ q9.2 with hasHigh := true } : GCon)) ty4 rfl rfl hI (.there (.there tI)) rfl (oV (z7 rfl GCon.f5 zhP) (oT (zi (y' := ({ { q9.2 with hasHigh := true } with high := y22.1 } : GCon)) ty2 rfl rfl hI .here rfl (zx (zk (hJ15 _ (t23, t24) h _ (ze 10 rfl rfl zd (.cons tH (.cons tH (.cons tH (.cons tH k2)))))))))))))
   exact zY (zk (hJ15 _ (t20, t21) h _ (ze 6 rfl rfl zd (.cons .here (.cons .here k4)))))
  refine wsr (oV (z7 rfl GCon.f1 ziT) (oT (zI (R := isv (q9.2.hasLow)) ty4 rfl (.there (.there tI)) hI (oA rfl (rnf (zf h rfl (fun _ h => ?_) (fun _ h => ?_)))))))
  ·refine zj (oV (z7 rfl GCon.f4 zhy) (oT (zI (R := isv (q9.2.low)) ty2 rfl (.there (.there tI)) hI (oV (z7 rfl GCon.f2 ziJ) (oT (zi (y' := ({ q9.2 with hasHigh := true } : GCon)) ty4 rfl rfl hI (.there (.there tI)) rfl (oV (z7 rfl GCon.f5 zhP) (oT (zi (y' := ({ { q9.2 with hasHigh := true } with high := q9.2.low } : GCon)) ty2 rfl rfl hI .here rfl (zx (zk ?_)))))))))))
   exact hJ15 _ (t17, t18) h _ (ze 10 rfl rfl zd (.cons tH (.cons tH (.cons tH (.cons tH k2)))))
  exact zY (zk (hJ15 _ (t17, t18) h _ (ze 6 rfl rfl zd (.cons .here (.cons .here k4)))))
 refine zf h rfl (fun _ h => ?_) (fun _ h => ?_)
 ·refine zj (oM rfl (zb h fun y11 hy11 h => oT (zL (zck hy11) hT (s1 rfl) k4 (fun R H' hR => ?_))))
  obtain ⟨t12, t13, rfl, rfl⟩ := hR
  exact oV (z7 rfl GCon.f1 ziT) (oT (zi (y' := ((GCon.mk true true false false (0 : Int) (0 : Int)) : GCon)) ty4 rfl rfl hI (.there (.there tI)) rfl (oV (z7 rfl GCon.f4 zhy) (oT (zi (y' := ((GCon.mk true true false false y11.1 (0 : Int)) : GCon)) ty2 rfl rfl hI .here rfl (zx (hJ10 _ (t12, t13) h _ (ze 4 rfl rfl zd (.cons tH (.cons tH (.cons tH (.cons tH k2))))))))))))
 exact zY (hJ10 _ (t7, t8) h _ (ze 0 rfl rfl zd (.cons .here (.cons .here k4))))

end Go.Proofs.Q


namespace Go.Proofs.Q
open Go.Sy
set_option maxRecDepth 4000
theorem zdq : ∀ {a_x : GPar} {zG : Nat} {t_a_x1 : Tok} {t_a_x2 : Tok} {zJ : Vt} {r : GCon × GPar}, zbX a_x = some r → Ctr Tryd.prog 77 [ptrv zG (Fld.id ((List GTok) × Int × (Str × Int × (TList Str) × (TList Int) × Vh) × Int × Int))] [boxE zG ((a_x.l, a_x.at_, (a_x.m.name, a_x.m.tagging, (TList.mk t_a_x1 a_x.m.names), (TList.mk t_a_x2 a_x.m.types), (Vh.mk zJ a_x.m.nodes.length)), a_x.e, a_x.p) : ((List GTok) × Int × (Str × Int × (TList Str) × (TList Int) × Vh) × Int × Int)), tokE t_a_x1, tokE t_a_x2, vecE zJ (a_x.m.nodes : List GNode)] (fun R H => ∃ u1 : Tok, ∃ u2 : Tok, R = oneOf [isv (r.1)] ∧ H = [boxE zG ((r.2.l, r.2.at_, (r.2.m.name, r.2.m.tagging, (TList.mk u1 r.2.m.names), (TList.mk u2 r.2.m.types), (Vh.mk zJ r.2.m.nodes.length)), r.2.e, r.2.p)), tokE u1, tokE u2, vecE zJ (r.2.m.nodes)]) := by
 intro a_x zG t_a_x1 t_a_x2 zJ r h
 unfold zbX at h
 refine zr Tryd.func77 rfl fun w0 S0 hT => wsr (oT (zab _ ze50 fun b4 => rnf (zn (wsr (oM rfl (zb h fun y5 hy5 h => oT (zL (zN hy5) hT (s2 rfl rfl) (.cons tH (.cons tH (.cons tH (.cons tH .nil)))) (fun R H' hR => ?_))))))))
 obtain ⟨t6, t7, rfl, rfl⟩ := hR
 refine oV (zbG rfl) (rnf (zf h rfl (fun _ h => ?_) (fun _ h => ?_)))
 ·refine wsr (oV (zaw (z := (GCon.mk false false false false (0 : Int) (0 : Int))) rfl bu50 ze50 .nil) (oT (zi (y' := ((GCon.mk false false false false (0 : Int) (0 : Int)) : GCon)) ty50 rfl rfl hI (.there (.there tI)) rfl (rnf (zM (zB (zo (.cell rfl .here ty50 .nil) (.cons tH (.cons tH (.cons tH (.cons tH .nil)))) ?_)))))))
  cases h
  exact ⟨t6, t7, rfl, rfl⟩
 refine wkf (wsr (oM rfl (zb h fun y8 hy8 h => oT (zL (z8 hy8) hT (s2 rfl rfl) k4 (fun R H' hR => ?_)))))
 obtain ⟨t9, t10, rfl, rfl⟩ := hR
 refine rnf (wsr (oM rfl (zb h fun y11 hy11 h => oT (zL (z8 hy11) hT (s2 rfl rfl) k4 (fun R H' hR => ?_)))))
 obtain ⟨t12, t13, rfl, rfl⟩ := hR
 refine rnf (wsr (oM rfl (zb h fun y14 hy14 h => oT (zL (zen hy14) hT (s1 rfl) k4 (fun R H' hR => ?_)))))
 obtain ⟨t15, t16, rfl, rfl⟩ := hR
 refine oT (zab _ ze50 fun b17 => oT (zi (y' := (y14.1 : GCon)) ty50 rfl rfl hI .here rfl (zX (zaq 3 .here rfl) (rnf (wsr (oM rfl (zb h fun y18 hy18 h => oT (zL (z8 hy18) hT (s2 rfl rfl) k4 (fun R H' hR => ?_)))))))))
 obtain ⟨t19, t20, rfl, rfl⟩ := hR
 refine rnf (wsr (oM rfl (zb h fun y21 hy21 h => oT (zL (z8 hy21) hT (s2 rfl rfl) k4 (fun R H' hR => ?_)))))
 obtain ⟨t22, t23, rfl, rfl⟩ := hR
 refine rnf (wsr (oV (zg ty50 rfl) (oT (zi (y' := (y14.1 : GCon)) ty50 rfl rfl hI (.there (.there tI)) rfl (rnf (zM (zo (.cell rfl .here ty50 .nil) (.cons tH (.cons tH (.cons tH (.cons tH .nil)))) ?_)))))))
 cases h
 exact ⟨t22, t23, rfl, rfl⟩


theorem zgU : ∀ {a_x : GPar} {a_n_ : GNode} {zG : Nat} {t_a_x1 : Tok} {t_a_x2 : Tok} {zJ : Vt} {zaV : Nat} {t_a_n_4 : Tok} {t_a_n_5 : Tok} {r : GPar × GNode}, zct a_x a_n_ = some r → Ctr Tryd.prog 79 [ptrv zG (Fld.id ((List GTok) × Int × (Str × Int × (TList Str) × (TList Int) × Vh) × Int × Int)), ptrv zaV (Fld.id (Int × Str × GMark × GCon × (TList GItem) × (TList GFld) × Int × Bool × Int))] [boxE zG ((a_x.l, a_x.at_, (a_x.m.name, a_x.m.tagging, (TList.mk t_a_x1 a_x.m.names), (TList.mk t_a_x2 a_x.m.types), (Vh.mk zJ a_x.m.nodes.length)), a_x.e, a_x.p) : ((List GTok) × Int × (Str × Int × (TList Str) × (TList Int) × Vh) × Int × Int)), tokE t_a_x1, tokE t_a_x2, vecE zJ (a_x.m.nodes : List GNode), boxE zaV ((a_n_.kind, a_n_.name, a_n_.mark, a_n_.con, (TList.mk t_a_n_4 a_n_.items), (TList.mk t_a_n_5 a_n_.fields), a_n_.root, a_n_.more, a_n_.of) : (Int × Str × GMark × GCon × (TList GItem) × (TList GFld) × Int × Bool × Int)), tokE t_a_n_4, tokE t_a_n_5] (fun R H => ∃ u1 : Tok, ∃ u2 : Tok, ∃ u3 : Tok, ∃ u4 : Tok, R = oneOf [] ∧ H = [boxE zG ((r.1.l, r.1.at_, (r.1.m.name, r.1.m.tagging, (TList.mk u1 r.1.m.names), (TList.mk u2 r.1.m.types), (Vh.mk zJ r.1.m.nodes.length)), r.1.e, r.1.p)), tokE u1, tokE u2, vecE zJ (r.1.m.nodes), boxE zaV ((r.2.kind, r.2.name, r.2.mark, r.2.con, (TList.mk u3 r.2.items), (TList.mk u4 r.2.fields), r.2.root, r.2.more, r.2.of)), tokE u3, tokE u4]) := by
 intro a_x a_n_ zG t_a_x1 t_a_x2 zJ zaV t_a_n_4 t_a_n_5 r h
 unfold zct at h
 refine zr Tryd.func79 rfl fun w0 S0 hT => zn (zc3 (ι := GPar × GNode) (γ := Tok × Tok × Tok × Tok) (fun q6 g6 => []) (fun q6 g6 => [boxE zG ((q6.1.l, q6.1.at_, (q6.1.m.name, q6.1.m.tagging, (TList.mk g6.1 q6.1.m.names), (TList.mk g6.2.1 q6.1.m.types), (Vh.mk zJ q6.1.m.nodes.length)), q6.1.e, q6.1.p) : ((List GTok) × Int × (Str × Int × (TList Str) × (TList Int) × Vh) × Int × Int)), tokE g6.1, tokE g6.2.1, vecE zJ (q6.1.m.nodes : List GNode), boxE zaV ((q6.2.kind, q6.2.name, q6.2.mark, q6.2.con, (TList.mk g6.2.2.1 q6.2.items), (TList.mk g6.2.2.2 q6.2.fields), q6.2.root, q6.2.more, q6.2.of) : (Int × Str × GMark × GCon × (TList GItem) × (TList GFld) × Int × Bool × Int)), tokE g6.2.2.1, tokE g6.2.2.2]) (.cons .here (.cons (.there tI) (.cons .here k4))) h (fun q6 g6 h => ?_) (fun J7 h hJ7 => ?_))
 ·refine wsr (oM rfl (oV (zp rfl) (oV (z7 rfl zdS zep) (oT (zI (R := isv (q6.2.more)) ty4 rfl (.there (.there tI)) hI (oV (zbG rfl) (rnf (zf h rfl (fun _ h => ?_) (fun _ h => ?_)))))))))
  ·refine zj (oM rfl (oM rfl (oV (zp rfl) (oV (z7 rfl zes zd1) (oT (zI (R := appv g6.2.2.1 (q6.2.items)) ty51 rfl (.there (.there tI)) isvT1 (oV (za2 (l := q6.2.items) rfl zK sl51) (oV (zp rfl) (oV (z7 rfl zgm zeZ) ?_)))))))))
   refine oT (zi (y' := ((q6.2.kind, q6.2.name, q6.2.mark, q6.2.con, (TList.mk g6.2.2.1 q6.2.items), (TList.mk g6.2.2.2 q6.2.fields), (q6.2.items.length : Int), q6.2.more, q6.2.of) : (Int × Str × GMark × GCon × (TList GItem) × (TList GFld) × Int × Bool × Int))) ty3 rfl rfl hI (.there (.there tI)) rfl (zx (zan .nil (.cons tH (.cons tH (.cons tH (.cons tH k3)))) ?_)))
   cases h
   exact ⟨g6.1, g6.2.1, g6.2.2.1, g6.2.2.2, rfl, rfl⟩
  refine zY (zan .nil (.cons .here (.cons .here (.cons .here k4))) ?_)
  cases h
  exact ⟨g6.1, g6.2.1, g6.2.2.1, g6.2.2.2, rfl, rfl⟩
 refine zu (za5 (ι := GPar × GNode) (γ := Tok × Tok × Tok × Tok) (fun q8 g8 => []) (fun q8 g8 => [boxE zG ((q8.1.l, q8.1.at_, (q8.1.m.name, q8.1.m.tagging, (TList.mk g8.1 q8.1.m.names), (TList.mk g8.2.1 q8.1.m.types), (Vh.mk zJ q8.1.m.nodes.length)), q8.1.e, q8.1.p) : ((List GTok) × Int × (Str × Int × (TList Str) × (TList Int) × Vh) × Int × Int)), tokE g8.1, tokE g8.2.1, vecE zJ (q8.1.m.nodes : List GNode), boxE zaV ((q8.2.kind, q8.2.name, q8.2.mark, q8.2.con, (TList.mk g8.2.2.1 q8.2.items), (TList.mk g8.2.2.2 q8.2.fields), q8.2.root, q8.2.more, q8.2.of) : (Int × Str × GMark × GCon × (TList GItem) × (TList GFld) × Int × Bool × Int)), tokE g8.2.2.1, tokE g8.2.2.2]) h (t_a_x1, t_a_x2, t_a_n_4, t_a_n_5) zd (.cons .here (.cons .here (.cons .here k4))) (fun L9 q8 g8 Q82 h hL9 eL9 rL9 => zn (wsr (oM rfl (oV (zp rfl) (oV (z7 rfl zbF zcF) (oT (zI (R := isv (q8.1.e)) ty31 rfl .here hI (oV (zal rfl rfl) ?_)))))))))
 refine rnf (zf h rfl (fun _ h => ?_) (fun _ h => ?_))
 ·refine wkf (zu (zn (wsr (oM rfl (oV (zp rfl) (oV (z7 rfl zes zd1) (oT (zI (R := appv g8.2.2.1 (q8.2.items)) ty51 rfl (.there (.there tI)) isvT1 (oV (za2 (l := q8.2.items) rfl zK sl51) ?_)))))))))
  refine oV (zbU rfl rfl) (oM rfl (zau (jb 22) je .nil h 6 rfl (fun q46 g46 h => ?_) (fun J47 h hJ47 => ?_)))
  ·refine oM rfl (zau (ι := Bool × GPar) (γ := Tok × Tok) (fun q49 g49 => [(26, isv (q49.1))]) (fun q49 g49 => [boxE zG ((q49.2.l, q49.2.at_, (q49.2.m.name, q49.2.m.tagging, (TList.mk g49.1 q49.2.m.names), (TList.mk g49.2 q49.2.m.types), (Vh.mk zJ q49.2.m.nodes.length)), q49.2.e, q49.2.p) : ((List GTok) × Int × (Str × Int × (TList Str) × (TList Int) × Vh) × Int × Int)), tokE g49.1, tokE g49.2, vecE zJ (q49.2.m.nodes : List GNode)]) k4 h 3 rfl (fun q49 g49 h => ?_) (fun J50 h hJ50 => ?_))
   ·refine rnf (zc3 (ι := GPar × GNode) (γ := Tok × Tok × Tok × Tok) (fun q55 g55 => []) (fun q55 g55 => [boxE zG ((q55.1.l, q55.1.at_, (q55.1.m.name, q55.1.m.tagging, (TList.mk g55.1 q55.1.m.names), (TList.mk g55.2.1 q55.1.m.types), (Vh.mk zJ q55.1.m.nodes.length)), q55.1.e, q55.1.p) : ((List GTok) × Int × (Str × Int × (TList Str) × (TList Int) × Vh) × Int × Int)), tokE g55.1, tokE g55.2.1, vecE zJ (q55.1.m.nodes : List GNode), boxE zaV ((q55.2.kind, q55.2.name, q55.2.mark, q55.2.con, (TList.mk g55.2.2.1 q55.2.items), (TList.mk g55.2.2.2 q55.2.fields), q55.2.root, q55.2.more, q55.2.of) : (Int × Str × GMark × GCon × (TList GItem) × (TList GFld) × Int × Bool × Int)), tokE g55.2.2.1, tokE g55.2.2.2]) (.cons .here (.cons (.there tI) (.cons .here k4))) h (fun q55 g55 h => ?_) (fun J56 h hJ56 => ?_))
    ·refine wsr (oM rfl (zb h fun y79 hy79 h => oT (zL (zN hy79) hT (s2 rfl rfl) k4 (fun R H' hR => ?_))))
     obtain ⟨t80, t81, rfl, rfl⟩ := hR
     refine oV (zbG rfl) (rnf (zf h rfl (fun _ h => ?_) (fun _ h => ?_)))
     ·exact zad (zf3 rfl (eL9 _ _ (zH (hJ7 _ (t80, t81, g55.2.2.1, g55.2.2.2) h _ (ze 18 rfl rfl zd (.cons .here (.cons .here (.cons .here k4))))))))
     exact zY (zk (hL9 _ (t80, t81, g55.2.2.1, g55.2.2.2) h _ (ze 18 rfl rfl zd (.cons .here (.cons .here (.cons .here k4))))))
    refine zf h rfl (fun _ h => ?_) (fun _ h => ?_)
    ·refine zj (oM rfl (oM rfl (oM rfl (oV (zp rfl) (oV (z7 rfl zes zd1) (oT (zI (R := appv g8.2.2.1 (q8.2.items)) ty51 rfl (.there (.there tI)) isvT1 (oV (za2 (l := q8.2.items) rfl zK sl51) (oV (zp rfl) ?_)))))))))
     exact oV (z7 rfl zdS zep) (oT (zi (y' := ((q8.2.kind, q8.2.name, q8.2.mark, q8.2.con, (TList.mk g8.2.2.1 q8.2.items), (TList.mk g8.2.2.2 q8.2.fields), q8.2.root, true, q8.2.of) : (Int × Str × GMark × GCon × (TList GItem) × (TList GFld) × Int × Bool × Int))) ty4 rfl rfl hI (.there (.there tI)) rfl (oV (zp rfl) (oV (z7 rfl zgm zeZ) (oT (zi (y' := ((q8.2.kind, q8.2.name, q8.2.mark, q8.2.con, (TList.mk g8.2.2.1 q8.2.items), (TList.mk g8.2.2.2 q8.2.fields), (q8.2.items.length : Int), true, q8.2.of) : (Int × Str × GMark × GCon × (TList GItem) × (TList GFld) × Int × Bool × Int))) ty3 rfl rfl hI .here rfl (zx (hJ56 _ (g49.1, g49.2, g8.2.2.1, g8.2.2.2) h _ (ze 11 rfl rfl zd (.cons tH (.cons tH (.cons tH (.cons tH k3)))))))))))))
    refine wsr (oM rfl (zb h fun y57 hy57 h => oT (zL (zca hy57) hT (s2 rfl rfl) k4 (fun R H' hR => ?_))))
    obtain ⟨t58, t59, rfl, rfl⟩ := hR
    refine oV (zaw (z := (GItem.mk y57.1 (0 : Int) false)) rfl bu67 ze67 (.cons GItem.f0 zj5 rfl hI .nil)) (oT (zab _ ze67 fun b60 => oT (zi (y' := ((GItem.mk y57.1 (0 : Int) false) : GItem)) ty67 rfl rfl hI .here rfl (rnf (zn (wsr (oM rfl (zb h fun y61 hy61 h => oT (zL (zN hy61) hT (s2 rfl rfl) (.cons tH (.cons tH (.cons tH (.cons tH .nil)))) (fun R H' hR => ?_))))))))))
    obtain ⟨t62, t63, rfl, rfl⟩ := hR
    refine rnf (zc3 (ι := GPar × GItem) (γ := Tok × Tok) (fun q64 g64 => []) (fun q64 g64 => [boxE zG ((q64.1.l, q64.1.at_, (q64.1.m.name, q64.1.m.tagging, (TList.mk g64.1 q64.1.m.names), (TList.mk g64.2 q64.1.m.types), (Vh.mk zJ q64.1.m.nodes.length)), q64.1.e, q64.1.p) : ((List GTok) × Int × (Str × Int × (TList Str) × (TList Int) × Vh) × Int × Int)), tokE g64.1, tokE g64.2, vecE zJ (q64.1.m.nodes : List GNode), boxE b60 (q64.2 : GItem)]) (.cons .here (.cons (.there tI) k3)) h (fun q64 g64 h => ?_) (fun J65 h hJ65 => ?_))
    ·refine zcG 4 (.there (.there tI)) rfl (fun o72 hn73 => zW (.v 0 (.v 1 (.v 2 (.v 3 (.v 5 (.alt 4 (.t 6 (.t 7 (.v 8 (.v 9 (.t 10 .nil))))) (.t 6 (.t 4 (.t 7 (.v 8 (.v 9 (.t 10 .nil)))))))))))) moOrd (by kernel_rfl) ?_)
     refine rvm rfl rfl (rvm rfl rfl (zq rfl (zp rfl) (zq rfl (z7 rfl zes zd1) (zq rfl (zcL (R := isv (q64.2)) ty67 rfl (List.Mem.head _) hI) (zZ h fun q76 h => zbP ?_ ?_)))))
     ·exact zV rfl rfl (zI (R := appv g8.2.2.1 (q8.2.items)) ty51 rfl (.there (.there tI)) isvT1 (zV rfl rfl (zQ (l := ([q64.2] : (List GItem))) el51 (.cons rfl hI .nil) rfl rfl (zV rfl rfl (zbk (l := q8.2.items) (m := ([q64.2] : (List GItem))) zib rfl hI rfl zK (.there (.there (.there tI))) q76 fun t75 => zq rfl (zp rfl) (zq rfl (z7 rfl zes zd1) (zV rfl rfl (zi (y' := ((q8.2.kind, q8.2.name, q8.2.mark, q8.2.con, (TList.mk t75 (q8.2.items ++ ([q64.2] : (List GItem)))), (TList.mk g8.2.2.2 q8.2.fields), q8.2.root, q8.2.more, q8.2.of) : (Int × Str × GMark × GCon × (TList GItem) × (TList GFld) × Int × Bool × Int))) ty51 rfl rfl isvT2 (.there (.there (.there tI))) rfl (zae (zaN 4 hn73 rfl (hJ56 _ (g64.1, g64.2, t75, g8.2.2.2) h _ (ze 18 rfl rfl zd (.cons (.there tI) (.cons (.there tI) (.cons (.there tI) (.cons (.there tI) (.cons tH (.cons tH (.cons tH .nil)))))))))))))))))))
     exact zV rfl rfl (zQ (l := ([q64.2] : (List GItem))) el51 (.cons rfl hI .nil) rfl rfl (zV rfl rfl (zI (R := appv g8.2.2.1 (q8.2.items)) ty51 rfl (.there (.there tI)) isvT1 (zV rfl rfl (zbk (l := q8.2.items) (m := ([q64.2] : (List GItem))) zib rfl hI rfl zK (.there (.there (.there tI))) q76 fun t78 => zq rfl (zp rfl) (zq rfl (z7 rfl zes zd1) (zV rfl rfl (zi (y' := ((q8.2.kind, q8.2.name, q8.2.mark, q8.2.con, (TList.mk t78 (q8.2.items ++ ([q64.2] : (List GItem)))), (TList.mk g8.2.2.2 q8.2.fields), q8.2.root, q8.2.more, q8.2.of) : (Int × Str × GMark × GCon × (TList GItem) × (TList GFld) × Int × Bool × Int))) ty51 rfl rfl isvT2 (.there (.there (.there tI))) rfl (zae (zaN 4 hn73 rfl (hJ56 _ (g64.1, g64.2, t78, g8.2.2.2) h _ (ze 18 rfl rfl zd (.cons (.there tI) (.cons (.there tI) (.cons (.there tI) (.cons (.there tI) (.cons tH (.cons tH (.cons tH .nil)))))))))))))))))))
    refine zf h rfl (fun _ h => ?_) (fun _ h => ?_)
    ·refine wsr (oM rfl (zb h fun y66 hy66 h => oT (zL (zck hy66) hT (s1 rfl) k4 (fun R H' hR => ?_))))
     obtain ⟨t67, t68, rfl, rfl⟩ := hR
     refine oV (z7 rfl GItem.f2 zhN) (oT (zi (y' := ((GItem.mk y57.1 (0 : Int) true) : GItem)) ty4 rfl rfl hI (.there (.there tI)) rfl (oV (z7 rfl GItem.f1 zdL) (oT (zi (y' := ((GItem.mk y57.1 y66.1 true) : GItem)) ty2 rfl rfl hI .here rfl (rnf (zj (oM rfl (zb h fun y69 hy69 h => oT (zL (z8 hy69) hT (s2 rfl rfl) (.cons tH (.cons tH (.cons tH (.cons tH .nil)))) (fun R H' hR => ?_)))))))))))
     obtain ⟨t70, t71, rfl, rfl⟩ := hR
     exact zx (hJ65 _ (t70, t71) h _ (ze 6 rfl rfl zd (.cons .here (.cons .here (.cons .here (.cons .here k4))))))
    exact zY (hJ65 _ (t62, t63) h _ (ze 0 rfl rfl zd (.cons .here (.cons .here (.cons .here (.cons .here k4))))))
   refine zC (j := 23) h rfl (fun g51 h => ?_) (fun g51 h => ?_)
   ·refine oK 23 rfl rfl rfl g51 (zw rfl) (zb h fun y52 hy52 h => zat rfl rfl (dj := 23) rfl g51 (zL (zN hy52) hT (s2 rfl rfl) k4 (fun R H' hR => ?_)))
    obtain ⟨t53, t54, rfl, rfl⟩ := hR
    exact oV (zs rfl g51 rfl) (hJ50 _ (t53, t54) h _ (ze 3 rfl rfl (za (j := 26) rfl hI zd) (.cons .here (.cons .here (.cons .here k4)))))
   exact oP 23 rfl rfl g51 (oP 23 rfl rfl g51 (oV (zt rfl g51 rfl) (hJ50 _ (g8.1, g8.2.1) h _ (ze 3 rfl rfl (za (j := 26) rfl hI zd) (.cons .here (.cons .here (.cons .here k4)))))))
  refine zC (j := 16) h rfl (fun g48 h => ?_) (fun g48 h => ?_)
  ·exact oK 16 rfl rfl rfl g48 (zw rfl) (oK 16 rfl rfl rfl g48 (zp rfl) (oK 16 rfl rfl rfl g48 (z7 rfl zdS zep) (zat rfl rfl (dj := 16) rfl g48 (zI (R := isv (q8.2.more)) ty4 rfl (.there (.there tI)) hI (oK 16 rfl rfl rfl g48 (zbG rfl) (oV (zs rfl g48 rfl) (hJ47 _ () h _ (ze 6 rfl rfl (za (j := 22) rfl hI zd) (.cons .here (.cons .here (.cons .here k4)))))))))))
  exact oP 16 rfl rfl g48 (oP 16 rfl rfl g48 (oP 16 rfl rfl g48 (oP 16 rfl rfl g48 (oP 16 rfl rfl g48 (oV (zt rfl g48 rfl) (hJ47 _ () h _ (ze 6 rfl rfl (za (j := 22) rfl hI zd) (.cons .here (.cons .here (.cons .here k4))))))))))
 exact zad (zU (eL9 _ _ (zH (hJ7 _ (g8.1, g8.2.1, g8.2.2.1, g8.2.2.2) h _ (ze 5 rfl rfl zd (.cons .here (.cons .here (.cons .here k4))))))))


theorem znq : ∀ {a_s : Str} {r : (List UInt8)}, zg5 a_s = some r → Ctr Tryd.prog 116 [isv (a_s)] [] (fun R H => R = oneOf [isv (r)] ∧ H = []) := by
 intro a_s r h
 unfold zg5 at h
 refine zr Tryd.func116 rfl fun w0 S0 hT => wsr (oA rfl (rnf (wsr (oA rfl (rnf (zn (wsr ?_)))))))
 refine oA rfl (rnf (zu (zfj (zaQ) (za5 (ι := (List UInt8) × Int) (γ := Tok) (fun q1 g1 => [(3, appv g1 (q1.1)), (4, isv (q1.2))]) (fun q1 g1 => [tokE g1]) h (none) (za (j := 3) rfl zbs (za (j := 4) rfl hI zd)) k1 (fun L2 q1 g1 Q60 h hL2 eL2 rL2 => zn (wsr (oM rfl (zD h fun q31 h => ?_))))))))
 refine oV (zaf rfl rfl q31) (oM rfl (oV (zdb st9 rfl) (oV (zaj rfl rfl) (rnf (zf h rfl (fun _ h => ?_) (fun _ h => ?_))))))
 ·refine wkf (zn (zu (wsr (oA rfl (rnf (zn (wsr (oM rfl ?_))))))))
  refine oA rfl (rnf (zu (za5 (ι := UInt8 × Int) (γ := Unit) (fun q32 g32 => [(5, isv (q32.1)), (6, isv (q32.2))]) (fun q32 g32 => []) h () (za (j := 5) rfl hI (za (j := 6) rfl hI zd)) .nil (fun L33 q32 g32 Q58 h hL33 eL33 rL33 => zn (wsr (oM rfl (oM rfl (zD h fun q46 h => ?_))))))))
  refine oV (zaf rfl rfl q46) (oV (zaj rfl rfl) (rnf (zf h rfl (fun _ h => ?_) (fun _ h => ?_))))
  ·refine wkf (zn (zu (wsr (oM rfl (oM rfl (zb h fun y47 hy47 h => oV (zbI y47 st9 rfl rfl hy47) (oV (zkl rfl rfl) ?_)))))))
   refine oA rfl (rnf (zn (wsr (oM rfl (oM rfl (zb h fun y48 hy48 h => oV (zbI y48 st9 rfl rfl hy48) (oV (zje rfl rfl) ?_)))))))
   refine rnf (zc3 (ι := UInt8) (γ := Unit) (fun q49 g49 => [(7, isv (q49))]) (fun q49 g49 => []) .nil h (fun q49 g49 h => ?_) (fun J50 h hJ50 => ?_))
   ·refine zj (oM rfl (zZ h fun q52 h => oV (zpT rfl rfl q52) (oM rfl (oV (zqp rfl rfl) (oA rfl (zx (zk ?_)))))))
    exact zy (zj (oM rfl (zD h fun q53 h => oV (zaf rfl rfl q53) (oA rfl (zx (hL33 _ () h _ (ze 24 rfl rfl (za (j := 5) rfl hI (za (j := 6) rfl hI zd)) k1)))))))
   refine zf h rfl (fun _ h => ?_) (fun _ h => ?_)
   ·refine zj (oM rfl (oM rfl (zb h fun y51 hy51 h => oV (zbI y51 st9 rfl rfl hy51) (oV (zkl rfl rfl) (oV (zqd rfl rfl) (oA rfl (zx ?_)))))))
    exact hJ50 _ () h _ (jk 6 7 rfl rfl rfl)
   exact zY (hJ50 _ () h _ (jk 0 7 rfl rfl rfl))
  refine zad (zU (eL33 _ _ (zH (zy (zj (oM rfl (oM rfl (oT (zQ (l := ([q32.1] : (List UInt8))) el59 (.cons rfl hI .nil) rfl rfl ?_)))))))))
  refine zZ h fun q56 h => oT (zbk (l := q1.1) (m := ([q32.1] : (List UInt8))) zps rfl hI rfl zK .here q56 fun t55 => oA rfl (zx (zk (zy (zj (oM rfl (zD h fun q57 h => ?_)))))))
  exact oV (zaf rfl rfl q57) (oA rfl (zx (hL2 _ (t55) h _ (ze 24 rfl rfl (za (j := 3) rfl hI (za (j := 4) rfl hI zd)) k1))))
 refine zad (zU (eL2 _ _ (zH (zy (wsr (oM rfl (oA rfl (rnf ?_))))))))
 refine zM ?_
 cases h
 exact zo (.as rfl zK .nil) .nil ⟨rfl, rfl⟩


theorem zgQ : ∀ {a_x : GPar} {zG : Nat} {t_a_x1 : Tok} {t_a_x2 : Tok} {zJ : Vt} {r : Val × GPar}, zcr a_x = some r → Ctr Tryd.prog 111 [ptrv zG (Fld.id ((List GTok) × Int × (Str × Int × (TList Str) × (TList Int) × Vh) × Int × Int))] [boxE zG ((a_x.l, a_x.at_, (a_x.m.name, a_x.m.tagging, (TList.mk t_a_x1 a_x.m.names), (TList.mk t_a_x2 a_x.m.types), (Vh.mk zJ a_x.m.nodes.length)), a_x.e, a_x.p) : ((List GTok) × Int × (Str × Int × (TList Str) × (TList Int) × Vh) × Int × Int)), tokE t_a_x1, tokE t_a_x2, vecE zJ (a_x.m.nodes : List GNode)] (fun R H => ∃ u1 : Tok, ∃ u2 : Tok, R = oneOf [isv (r.1)] ∧ H = [boxE zG ((r.2.l, r.2.at_, (r.2.m.name, r.2.m.tagging, (TList.mk u1 r.2.m.names), (TList.mk u2 r.2.m.types), (Vh.mk zJ r.2.m.nodes.length)), r.2.e, r.2.p)), tokE u1, tokE u2, vecE zJ (r.2.m.nodes)]) := by
 intro a_x zG t_a_x1 t_a_x2 zJ r h
 unfold zcr at h
 refine zr Tryd.func111 rfl fun w0 S0 hT => wsr (oT (zab _ ze63 fun b4 => rnf (wsr (oM rfl (zb h fun y5 hy5 h => oT (zL (zaL hy5) hT (s1 rfl) (.cons tH (.cons tH (.cons tH (.cons tH .nil)))) (fun R H' hR => ?_)))))))
 obtain ⟨t6, t7, rfl, rfl⟩ := hR
 refine oT (zab _ ze80 fun b8 => oT (zi (y' := (y5.1 : GTok)) ty80 rfl rfl hI .here rfl (zX (zaq 3 .here rfl) (rnf (zn (zc3 (ι := GPar) (γ := Tok × Tok) (fun q9 g9 => []) (fun q9 g9 => [boxE zG ((q9.l, q9.at_, (q9.m.name, q9.m.tagging, (TList.mk g9.1 q9.m.names), (TList.mk g9.2 q9.m.types), (Vh.mk zJ q9.m.nodes.length)), q9.e, q9.p) : ((List GTok) × Int × (Str × Int × (TList Str) × (TList Int) × Vh) × Int × Int)), tokE g9.1, tokE g9.2, vecE zJ (q9.m.nodes : List GNode)]) k4 h (fun q9 g9 h => ?_) (fun J10 h hJ10 => ?_)))))))
 ·refine wsr (oV (zaw (z := (Val.mk (0 : Int) (0 : Int) ([] : (List UInt8)) ([] : (List Val)) (0 : Int) ([] : (List Raw)))) rfl bu63 ze63 .nil) (oT (zi (y' := ((Val.mk (0 : Int) (0 : Int) ([] : (List UInt8)) ([] : (List Val)) (0 : Int) ([] : (List Raw))) : Val)) ty63 rfl rfl hI (.there (.there tI)) rfl (rnf (zM (zo (.cell rfl .here ty63 .nil) (.cons tH (.cons tH (.cons tH (.cons tH .nil)))) ?_))))))
  cases h
  exact ⟨g9.1, g9.2, rfl, rfl⟩
 refine zu (wsr (oM rfl (oV (zp rfl) (oV (z7 rfl zbF zcF) (oT (zI (R := isv (y5.2.e)) ty31 rfl .here hI (oV (zb0 rfl rfl) (oA rfl (rnf ?_)))))))))
 refine zf h rfl (fun _ h => ?_) (fun _ h => ?_)
 ·exact zY (zk (hJ10 _ (t6, t7) h _ (ze 6 rfl rfl zd (.cons .here k4))))
 refine wsr (oM rfl (zb h fun y11 hy11 h => oT (zL (zN hy11) hT (s2 rfl rfl) k4 (fun R H' hR => ?_))))
 obtain ⟨t12, t13, rfl, rfl⟩ := hR
 refine oA rfl (rnf (zf h rfl (fun _ h => ?_) (fun _ h => ?_)))
 ·refine wsr (oV (zaw (z := (Val.mk (1 : Int) (1 : Int) ([] : (List UInt8)) ([] : (List Val)) (0 : Int) ([] : (List Raw)))) rfl bu63 ze63 (.cons Val.f0 zfJ rfl hI (.cons Val.f1 zjN rfl hI .nil))) (oT (zi (y' := ((Val.mk (1 : Int) (1 : Int) ([] : (List UInt8)) ([] : (List Val)) (0 : Int) ([] : (List Raw))) : Val)) ty63 rfl rfl hI (.there (.there tI)) rfl (rnf (zM (zE (zB (zo (.cell rfl .here ty63 .nil) (.cons tH (.cons tH (.cons tH (.cons tH .nil)))) ?_))))))))
  cases h
  exact ⟨t12, t13, rfl, rfl⟩
 refine wsr (oM rfl (zb h fun y14 hy14 h => oT (zL (zN hy14) hT (s2 rfl rfl) k4 (fun R H' hR => ?_))))
 obtain ⟨t15, t16, rfl, rfl⟩ := hR
 refine oA rfl (rnf (zf h rfl (fun _ h => ?_) (fun _ h => ?_)))
 ·refine wsr (oV (zaw (z := (Val.mk (1 : Int) (0 : Int) ([] : (List UInt8)) ([] : (List Val)) (0 : Int) ([] : (List Raw)))) rfl bu63 ze63 (.cons Val.f0 zfJ rfl hI .nil)) (oT (zi (y' := ((Val.mk (1 : Int) (0 : Int) ([] : (List UInt8)) ([] : (List Val)) (0 : Int) ([] : (List Raw))) : Val)) ty63 rfl rfl hI (.there (.there tI)) rfl (rnf (zM (zE (zB (zo (.cell rfl .here ty63 .nil) (.cons tH (.cons tH (.cons tH (.cons tH .nil)))) ?_))))))))
  cases h
  exact ⟨t15, t16, rfl, rfl⟩
 refine wsr (oM rfl (zb h fun y17 hy17 h => oT (zL (zN hy17) hT (s2 rfl rfl) k4 (fun R H' hR => ?_))))
 obtain ⟨t18, t19, rfl, rfl⟩ := hR
 refine oA rfl (rnf (zf h rfl (fun _ h => ?_) (fun _ h => ?_)))
 ·refine wsr (oV (zaw (z := (Val.mk (4 : Int) (0 : Int) ([] : (List UInt8)) ([] : (List Val)) (0 : Int) ([] : (List Raw)))) rfl bu63 ze63 (.cons Val.f0 zfJ rfl hI .nil)) (oT (zi (y' := ((Val.mk (4 : Int) (0 : Int) ([] : (List UInt8)) ([] : (List Val)) (0 : Int) ([] : (List Raw))) : Val)) ty63 rfl rfl hI (.there (.there tI)) rfl (rnf (zM (zE (zB (zo (.cell rfl .here ty63 .nil) (.cons tH (.cons tH (.cons tH (.cons tH .nil)))) ?_))))))))
  cases h
  exact ⟨t18, t19, rfl, rfl⟩
 refine wsr (oV (zac rfl GTok.f0 zcz rfl (z := y5.1.kind)) (oV (zg ty3 rfl) (oV (zal rfl rfl) (oA rfl (rnf (zf h rfl (fun _ h => ?_) (fun _ h => ?_)))))))
 ·refine wsr (oM rfl (zb h fun y20 hy20 h => oT (zL (zbB hy20) hT (s1 rfl) k4 (fun R H' hR => ?_))))
  obtain ⟨t21, t22, rfl, rfl⟩ := hR
  refine oV (zgv GTok.f1 rfl zdJ rfl) (zb h fun y23 hy23 h => oT (zz (zh4 hy23) hT (s1 rfl) .nil (oV (zaw (z := (Val.mk (2 : Int) y23 ([] : (List UInt8)) ([] : (List Val)) (0 : Int) ([] : (List Raw)))) rfl bu63 ze63 (.cons Val.f0 zfJ rfl hI (.cons Val.f1 zjN rfl hI .nil))) (oT (zi (y' := ((Val.mk (2 : Int) y23 ([] : (List UInt8)) ([] : (List Val)) (0 : Int) ([] : (List Raw))) : Val)) ty63 rfl rfl hI (.there (.there tI)) rfl (rnf (zM (zE (zB ?_)))))))))
  refine zo (.cell rfl .here ty63 .nil) (.cons tH (.cons tH (.cons tH (.cons tH .nil)))) ?_
  cases h
  exact ⟨t21, t22, rfl, rfl⟩
 refine wsr (oV (zac rfl GTok.f0 zcz rfl (z := y5.1.kind)) (oV (zg ty3 rfl) (oV (zal rfl rfl) (oA rfl (rnf (zf h rfl (fun _ h => ?_) (fun _ h => ?_)))))))
 ·refine wsr (oM rfl (zb h fun y24 hy24 h => oT (zL (zbB hy24) hT (s1 rfl) k4 (fun R H' hR => ?_))))
  obtain ⟨t25, t26, rfl, rfl⟩ := hR
  refine oV (zgv GTok.f1 rfl zdJ rfl) (zZ h fun q27 h => oT (zqx Tryd.underlying9 Tryd.underlying59 Tryd.underlying5 rfl q27 (oV (zaw (z := (Val.mk (3 : Int) (0 : Int) y24.1.text.b ([] : (List Val)) (0 : Int) ([] : (List Raw)))) rfl bu63 ze63 (.cons Val.f0 zfJ rfl hI (.cons Val.f2 zhK rfl hI .nil))) (oT (zi (y' := ((Val.mk (3 : Int) (0 : Int) y24.1.text.b ([] : (List Val)) (0 : Int) ([] : (List Raw))) : Val)) ty63 rfl rfl hI (.there (.there tI)) rfl (rnf (zM (zE (zB ?_)))))))))
  refine zo (.cell rfl .here ty63 .nil) (.cons tH (.cons tH (.cons tH (.cons tH .nil)))) ?_
  cases h
  exact ⟨t25, t26, rfl, rfl⟩
 refine wsr (oV (zac rfl GTok.f0 zcz rfl (z := y5.1.kind)) (oV (zg ty3 rfl) (oV (zal rfl rfl) (oA rfl (rnf (zf h rfl (fun _ h => ?_) (fun _ h => ?_)))))))
 ·refine wsr (oM rfl (zb h fun y28 hy28 h => oT (zL (zbB hy28) hT (s1 rfl) k4 (fun R H' hR => ?_))))
  obtain ⟨t29, t30, rfl, rfl⟩ := hR
  refine oV (zgv GTok.f1 rfl zdJ rfl) (zb h fun y31 hy31 h => oT (zz (znq hy31) hT (s1 rfl) .nil (oV (zaw (z := (Val.mk (5 : Int) (0 : Int) y31 ([] : (List Val)) (0 : Int) ([] : (List Raw)))) rfl bu63 ze63 (.cons Val.f0 zfJ rfl hI (.cons Val.f2 zhK rfl hI .nil))) (oT (zi (y' := ((Val.mk (5 : Int) (0 : Int) y31 ([] : (List Val)) (0 : Int) ([] : (List Raw))) : Val)) ty63 rfl rfl hI (.there (.there tI)) rfl (rnf (zM (zE (zB ?_)))))))))
  refine zo (.cell rfl .here ty63 .nil) (.cons tH (.cons tH (.cons tH (.cons tH .nil)))) ?_
  cases h
  exact ⟨t29, t30, rfl, rfl⟩
 refine wsr (oV (zac rfl GTok.f0 zcz rfl (z := y5.1.kind)) (oV (zg ty3 rfl) (oV (zal rfl rfl) (oA rfl (rnf (zf h rfl (fun _ h => ?_) (fun _ h => ?_)))))))
 ·refine wsr (oM rfl (zb h fun y32 hy32 h => oT (zL (zbB hy32) hT (s1 rfl) k4 (fun R H' hR => ?_))))
  obtain ⟨t33, t34, rfl, rfl⟩ := hR
  refine oV (zgv GTok.f1 rfl zdJ rfl) (zZ h fun q35 h => oT (zqx Tryd.underlying9 Tryd.underlying59 Tryd.underlying5 rfl q35 (oV (zaw (z := (Val.mk (6 : Int) (0 : Int) y32.1.text.b ([] : (List Val)) (0 : Int) ([] : (List Raw)))) rfl bu63 ze63 (.cons Val.f0 zfJ rfl hI (.cons Val.f2 zhK rfl hI .nil))) (oT (zi (y' := ((Val.mk (6 : Int) (0 : Int) y32.1.text.b ([] : (List Val)) (0 : Int) ([] : (List Raw))) : Val)) ty63 rfl rfl hI (.there (.there tI)) rfl (rnf (zM (zE (zB ?_)))))))))
  refine zo (.cell rfl .here ty63 .nil) (.cons tH (.cons tH (.cons tH (.cons tH .nil)))) ?_
  cases h
  exact ⟨t33, t34, rfl, rfl⟩
 refine zj (oM rfl (oV (zg ty80 rfl) (zb h fun y36 hy36 h => oT (zL (za4 hy36) hT (s3 rfl rfl rfl) k4 (fun R H' hR => ?_)))))
 obtain ⟨t37, t38, rfl, rfl⟩ := hR
 exact zx (zk (hJ10 _ (t37, t38) h _ (ze 34 rfl rfl zd (.cons .here k4))))

end Go.Proofs.Q


namespace Go.Proofs.Q
open Go.Sy
set_option maxRecDepth 4000
def zb4 (f' : GPar → GNode → Int → Int → Option (GPar × GNode)) : Prop :=
 ∀ {a_x : GPar} {a_n_ : GNode} {zR : Int} {zcb : Int} {zG : Nat} {t_a_x1 : Tok} {t_a_x2 : Tok} {zJ : Vt} {zaV : Nat} {t_a_n_4 : Tok} {t_a_n_5 : Tok} {r : GPar × GNode}, f' a_x a_n_ zR zcb = some r → Ctr Tryd.prog 97 [ptrv zG (Fld.id ((List GTok) × Int × (Str × Int × (TList Str) × (TList Int) × Vh) × Int × Int)), ptrv zaV (Fld.id (Int × Str × GMark × GCon × (TList GItem) × (TList GFld) × Int × Bool × Int)), isv (zR), isv (zcb)] [boxE zG ((a_x.l, a_x.at_, (a_x.m.name, a_x.m.tagging, (TList.mk t_a_x1 a_x.m.names), (TList.mk t_a_x2 a_x.m.types), (Vh.mk zJ a_x.m.nodes.length)), a_x.e, a_x.p) : ((List GTok) × Int × (Str × Int × (TList Str) × (TList Int) × Vh) × Int × Int)), tokE t_a_x1, tokE t_a_x2, vecE zJ (a_x.m.nodes : List GNode), boxE zaV ((a_n_.kind, a_n_.name, a_n_.mark, a_n_.con, (TList.mk t_a_n_4 a_n_.items), (TList.mk t_a_n_5 a_n_.fields), a_n_.root, a_n_.more, a_n_.of) : (Int × Str × GMark × GCon × (TList GItem) × (TList GFld) × Int × Bool × Int)), tokE t_a_n_4, tokE t_a_n_5] (fun R H => ∃ u1 : Tok, ∃ u2 : Tok, ∃ u3 : Vt, ∃ u4 : Tok, ∃ u5 : Tok, R = oneOf [] ∧ H = [boxE zG ((r.1.l, r.1.at_, (r.1.m.name, r.1.m.tagging, (TList.mk u1 r.1.m.names), (TList.mk u2 r.1.m.types), (Vh.mk u3 r.1.m.nodes.length)), r.1.e, r.1.p)), tokE u1, tokE u2, vecE u3 (r.1.m.nodes), boxE zaV ((r.2.kind, r.2.name, r.2.mark, r.2.con, (TList.mk u4 r.2.items), (TList.mk u5 r.2.fields), r.2.root, r.2.more, r.2.of)), tokE u4, tokE u5])
def zbZ (f' : GPar → Int → Option (Int × GPar)) : Prop :=
 ∀ {a_x : GPar} {zR : Int} {zG : Nat} {t_a_x1 : Tok} {t_a_x2 : Tok} {zJ : Vt} {r : Int × GPar}, f' a_x zR = some r → Ctr Tryd.prog 28 [ptrv zG (Fld.id ((List GTok) × Int × (Str × Int × (TList Str) × (TList Int) × Vh) × Int × Int)), isv (zR)] [boxE zG ((a_x.l, a_x.at_, (a_x.m.name, a_x.m.tagging, (TList.mk t_a_x1 a_x.m.names), (TList.mk t_a_x2 a_x.m.types), (Vh.mk zJ a_x.m.nodes.length)), a_x.e, a_x.p) : ((List GTok) × Int × (Str × Int × (TList Str) × (TList Int) × Vh) × Int × Int)), tokE t_a_x1, tokE t_a_x2, vecE zJ (a_x.m.nodes : List GNode)] (fun R H => ∃ u1 : Tok, ∃ u2 : Tok, ∃ u3 : Vt, R = oneOf [isv (r.1)] ∧ H = [boxE zG ((r.2.l, r.2.at_, (r.2.m.name, r.2.m.tagging, (TList.mk u1 r.2.m.names), (TList.mk u2 r.2.m.types), (Vh.mk u3 r.2.m.nodes.length)), r.2.e, r.2.p)), tokE u1, tokE u2, vecE u3 (r.2.m.nodes)])
def zcc (f' : GPar → GNode → Int → Option (GPar × GNode)) : Prop :=
 ∀ {a_x : GPar} {a_n_ : GNode} {zR : Int} {zG : Nat} {t_a_x1 : Tok} {t_a_x2 : Tok} {zJ : Vt} {zaV : Nat} {t_a_n_4 : Tok} {t_a_n_5 : Tok} {r : GPar × GNode}, f' a_x a_n_ zR = some r → Ctr Tryd.prog 53 [ptrv zG (Fld.id ((List GTok) × Int × (Str × Int × (TList Str) × (TList Int) × Vh) × Int × Int)), ptrv zaV (Fld.id (Int × Str × GMark × GCon × (TList GItem) × (TList GFld) × Int × Bool × Int)), isv (zR)] [boxE zG ((a_x.l, a_x.at_, (a_x.m.name, a_x.m.tagging, (TList.mk t_a_x1 a_x.m.names), (TList.mk t_a_x2 a_x.m.types), (Vh.mk zJ a_x.m.nodes.length)), a_x.e, a_x.p) : ((List GTok) × Int × (Str × Int × (TList Str) × (TList Int) × Vh) × Int × Int)), tokE t_a_x1, tokE t_a_x2, vecE zJ (a_x.m.nodes : List GNode), boxE zaV ((a_n_.kind, a_n_.name, a_n_.mark, a_n_.con, (TList.mk t_a_n_4 a_n_.items), (TList.mk t_a_n_5 a_n_.fields), a_n_.root, a_n_.more, a_n_.of) : (Int × Str × GMark × GCon × (TList GItem) × (TList GFld) × Int × Bool × Int)), tokE t_a_n_4, tokE t_a_n_5] (fun R H => ∃ u1 : Tok, ∃ u2 : Tok, ∃ u3 : Vt, ∃ u4 : Tok, ∃ u5 : Tok, R = oneOf [] ∧ H = [boxE zG ((r.1.l, r.1.at_, (r.1.m.name, r.1.m.tagging, (TList.mk u1 r.1.m.names), (TList.mk u2 r.1.m.types), (Vh.mk u3 r.1.m.nodes.length)), r.1.e, r.1.p)), tokE u1, tokE u2, vecE u3 (r.1.m.nodes), boxE zaV ((r.2.kind, r.2.name, r.2.mark, r.2.con, (TList.mk u4 r.2.items), (TList.mk u5 r.2.fields), r.2.root, r.2.more, r.2.of)), tokE u4, tokE u5])
def zbY (f' : GPar → GNode → Int → Option (GPar × GNode)) : Prop :=
 ∀ {a_x : GPar} {a_n_ : GNode} {zR : Int} {zG : Nat} {t_a_x1 : Tok} {t_a_x2 : Tok} {zJ : Vt} {zaV : Nat} {t_a_n_4 : Tok} {t_a_n_5 : Tok} {r : GPar × GNode}, f' a_x a_n_ zR = some r → Ctr Tryd.prog 80 [ptrv zG (Fld.id ((List GTok) × Int × (Str × Int × (TList Str) × (TList Int) × Vh) × Int × Int)), ptrv zaV (Fld.id (Int × Str × GMark × GCon × (TList GItem) × (TList GFld) × Int × Bool × Int)), isv (zR)] [boxE zG ((a_x.l, a_x.at_, (a_x.m.name, a_x.m.tagging, (TList.mk t_a_x1 a_x.m.names), (TList.mk t_a_x2 a_x.m.types), (Vh.mk zJ a_x.m.nodes.length)), a_x.e, a_x.p) : ((List GTok) × Int × (Str × Int × (TList Str) × (TList Int) × Vh) × Int × Int)), tokE t_a_x1, tokE t_a_x2, vecE zJ (a_x.m.nodes : List GNode), boxE zaV ((a_n_.kind, a_n_.name, a_n_.mark, a_n_.con, (TList.mk t_a_n_4 a_n_.items), (TList.mk t_a_n_5 a_n_.fields), a_n_.root, a_n_.more, a_n_.of) : (Int × Str × GMark × GCon × (TList GItem) × (TList GFld) × Int × Bool × Int)), tokE t_a_n_4, tokE t_a_n_5] (fun R H => ∃ u1 : Tok, ∃ u2 : Tok, ∃ u3 : Vt, ∃ u4 : Tok, ∃ u5 : Tok, R = oneOf [] ∧ H = [boxE zG ((r.1.l, r.1.at_, (r.1.m.name, r.1.m.tagging, (TList.mk u1 r.1.m.names), (TList.mk u2 r.1.m.types), (Vh.mk u3 r.1.m.nodes.length)), r.1.e, r.1.p)), tokE u1, tokE u2, vecE u3 (r.1.m.nodes), boxE zaV ((r.2.kind, r.2.name, r.2.mark, r.2.con, (TList.mk u4 r.2.items), (TList.mk u5 r.2.fields), r.2.root, r.2.more, r.2.of)), tokE u4, tokE u5])
theorem zgJ {zak : GPar → GNode → Int → Int → Option (GPar × GNode)} {zas : GPar → Int → Option (Int × GPar)} {zar : GPar → GNode → Int → Option (GPar × GNode)} {zag : GPar → GNode → Int → Option (GPar × GNode)} (zb2 : zb4 zak) (zcq : zbZ zas) (zcJ : zcc zar) (zbD : zbY zag) : ∀ {a_x : GPar} {a_n_ : GNode} {zR : Int} {zcb : Int} {zG : Nat} {t_a_x1 : Tok} {t_a_x2 : Tok} {zJ : Vt} {zaV : Nat} {t_a_n_4 : Tok} {t_a_n_5 : Tok} {r : GPar × GNode}, zba zak zas zar zag a_x a_n_ zR zcb = some r → Ctr Tryd.prog 97 [ptrv zG (Fld.id ((List GTok) × Int × (Str × Int × (TList Str) × (TList Int) × Vh) × Int × Int)), ptrv zaV (Fld.id (Int × Str × GMark × GCon × (TList GItem) × (TList GFld) × Int × Bool × Int)), isv (zR), isv (zcb)] [boxE zG ((a_x.l, a_x.at_, (a_x.m.name, a_x.m.tagging, (TList.mk t_a_x1 a_x.m.names), (TList.mk t_a_x2 a_x.m.types), (Vh.mk zJ a_x.m.nodes.length)), a_x.e, a_x.p) : ((List GTok) × Int × (Str × Int × (TList Str) × (TList Int) × Vh) × Int × Int)), tokE t_a_x1, tokE t_a_x2, vecE zJ (a_x.m.nodes : List GNode), boxE zaV ((a_n_.kind, a_n_.name, a_n_.mark, a_n_.con, (TList.mk t_a_n_4 a_n_.items), (TList.mk t_a_n_5 a_n_.fields), a_n_.root, a_n_.more, a_n_.of) : (Int × Str × GMark × GCon × (TList GItem) × (TList GFld) × Int × Bool × Int)), tokE t_a_n_4, tokE t_a_n_5] (fun R H => ∃ u1 : Tok, ∃ u2 : Tok, ∃ u3 : Vt, ∃ u4 : Tok, ∃ u5 : Tok, R = oneOf [] ∧ H = [boxE zG ((r.1.l, r.1.at_, (r.1.m.name, r.1.m.tagging, (TList.mk u1 r.1.m.names), (TList.mk u2 r.1.m.types), (Vh.mk u3 r.1.m.nodes.length)), r.1.e, r.1.p)), tokE u1, tokE u2, vecE u3 (r.1.m.nodes), boxE zaV ((r.2.kind, r.2.name, r.2.mark, r.2.con, (TList.mk u4 r.2.items), (TList.mk u5 r.2.fields), r.2.root, r.2.more, r.2.of)), tokE u4, tokE u5]) := by
 intro a_x a_n_ zR zcb zG t_a_x1 t_a_x2 zJ zaV t_a_n_4 t_a_n_5 r h
 unfold zba at h
 refine zr Tryd.func97 rfl fun w0 S0 hT => wsr (oM rfl (zb h fun y6 hy6 h => oT (zL (zca hy6) hT (s2 rfl rfl) k4 (fun R H' hR => ?_))))
 obtain ⟨t7, t8, rfl, rfl⟩ := hR
 refine oM rfl (oV (zaw (z := (GFld.mk y6.1 (0 : Int) false false (Val.mk (0 : Int) (0 : Int) ([] : (List UInt8)) ([] : (List Val)) (0 : Int) ([] : (List Raw))) zcb)) rfl bu65 ze65 (.cons GFld.f0 zlR rfl hI (.cons GFld.f5 zl3 rfl hI .nil))) (oT (zab _ ze65 fun b9 => oT (zi (y' := ((GFld.mk y6.1 (0 : Int) false false (Val.mk (0 : Int) (0 : Int) ([] : (List UInt8)) ([] : (List Val)) (0 : Int) ([] : (List Raw))) zcb) : GFld)) ty65 rfl rfl hI .here rfl (rnf (wsr (oM rfl (oM rfl (zD h fun q10 h => ?_)))))))))
 refine oV (zaf rfl rfl q10) (zb h fun y11 hy11 h => oT (zL (zcq hy11) hT (s2 rfl rfl) (.cons tH (.cons tH (.cons tH (.cons tH .nil)))) (fun R H' hR => ?_)))
 obtain ⟨t12, t13, v14, rfl, rfl⟩ := hR
 refine oV (z7 rfl GFld.f1 zc9) (oT (zi (y' := ((GFld.mk y6.1 y11.1 false false (Val.mk (0 : Int) (0 : Int) ([] : (List UInt8)) ([] : (List Val)) (0 : Int) ([] : (List Raw))) zcb) : GFld)) ty3 rfl rfl hI (.there (.there tI)) rfl (rnf (zn (zc3 (ι := GFld × GPar) (γ := Tok × Tok) (fun q15 g15 => []) (fun q15 g15 => [boxE b9 (q15.1 : GFld), boxE zG ((q15.2.l, q15.2.at_, (q15.2.m.name, q15.2.m.tagging, (TList.mk g15.1 q15.2.m.names), (TList.mk g15.2 q15.2.m.types), (Vh.mk v14 q15.2.m.nodes.length)), q15.2.e, q15.2.p) : ((List GTok) × Int × (Str × Int × (TList Str) × (TList Int) × Vh) × Int × Int)), tokE g15.1, tokE g15.2, vecE v14 (q15.2.m.nodes : List GNode)]) (.cons .here k4) h (fun q15 g15 h => ?_) (fun J16 h hJ16 => ?_))))))
 ·refine zcG 8 .here rfl (fun o26 hn27 => zW (.v 0 (.v 1 (.v 2 (.v 3 (.v 5 (.alt 4 (.t 6 (.t 7 (.v 8 (.v 9 (.t 10 .nil))))) (.t 6 (.t 4 (.t 7 (.v 8 (.v 9 (.t 10 .nil)))))))))))) moOrd (by kernel_rfl) ?_)
  refine rvm rfl rfl (rvm rfl rfl (zq rfl (zp rfl) (zq rfl (z7 rfl zfe zcX) (zq rfl (zcL (R := isv (q15.1)) ty65 rfl (List.Mem.head _) hI) (zZ h fun q30 h => zbP ?_ ?_)))))
  ·refine zV rfl rfl (zI (R := appv t_a_n_5 (a_n_.fields)) ty52 rfl (.there (.there tI)) isvT1 (zV rfl rfl (zQ (l := ([q15.1] : (List GFld))) el52 (.cons rfl hI .nil) rfl rfl (zV rfl rfl (zbk (l := a_n_.fields) (m := ([q15.1] : (List GFld))) zj7 rfl hI rfl zK (.there (.there (.there (.there tI)))) q30 fun t29 => zq rfl (zp rfl) (zq rfl (z7 rfl zfe zcX) (zV rfl rfl (zi (y' := ((a_n_.kind, a_n_.name, a_n_.mark, a_n_.con, (TList.mk t_a_n_4 a_n_.items), (TList.mk t29 (a_n_.fields ++ ([q15.1] : (List GFld)))), a_n_.root, a_n_.more, a_n_.of) : (Int × Str × GMark × GCon × (TList GItem) × (TList GFld) × Int × Bool × Int))) ty52 rfl rfl isvT2 (.there (.there (.there tI))) rfl (zae (zaN 8 hn27 rfl (zan .nil (.cons (.there tI) (.cons (.there tI) (.cons (.there tI) (.cons (.there tI) (.cons tH (.cons tI (.cons tH .nil))))))) ?_)))))))))))
   cases h
   exact ⟨g15.1, g15.2, v14, t_a_n_4, t29, rfl, rfl⟩
  refine zV rfl rfl (zQ (l := ([q15.1] : (List GFld))) el52 (.cons rfl hI .nil) rfl rfl (zV rfl rfl (zI (R := appv t_a_n_5 (a_n_.fields)) ty52 rfl (.there (.there tI)) isvT1 (zV rfl rfl (zbk (l := a_n_.fields) (m := ([q15.1] : (List GFld))) zj7 rfl hI rfl zK (.there (.there (.there (.there tI)))) q30 fun t32 => zq rfl (zp rfl) (zq rfl (z7 rfl zfe zcX) (zV rfl rfl (zi (y' := ((a_n_.kind, a_n_.name, a_n_.mark, a_n_.con, (TList.mk t_a_n_4 a_n_.items), (TList.mk t32 (a_n_.fields ++ ([q15.1] : (List GFld)))), a_n_.root, a_n_.more, a_n_.of) : (Int × Str × GMark × GCon × (TList GItem) × (TList GFld) × Int × Bool × Int))) ty52 rfl rfl isvT2 (.there (.there (.there tI))) rfl (zae (zaN 8 hn27 rfl (zan .nil (.cons (.there tI) (.cons (.there tI) (.cons (.there tI) (.cons (.there tI) (.cons tH (.cons tI (.cons tH .nil))))))) ?_)))))))))))
  cases h
  exact ⟨g15.1, g15.2, v14, t_a_n_4, t32, rfl, rfl⟩
 refine zu (wsr (oM rfl (oV (zp rfl) (oV (z7 rfl zb8 zbE) (oT (zI (R := isv (a_n_.kind)) ty3 rfl (.there (.there (.there tI))) hI (oV (zal rfl rfl) (oA rfl (rnf ?_)))))))))
 refine zf h rfl (fun _ h => ?_) (fun _ h => ?_)
 ·exact zY (zk (hJ16 _ (t12, t13) h _ (ze 6 rfl rfl zd (.cons .here (.cons .here (.cons .here (.cons .here k4)))))))
 refine wsr (oM rfl (zb h fun y17 hy17 h => oT (zL (zN hy17) hT (s2 rfl rfl) (.cons tH (.cons tH (.cons tH (.cons tH .nil)))) (fun R H' hR => ?_))))
 obtain ⟨t18, t19, rfl, rfl⟩ := hR
 refine oA rfl (rnf (zf h rfl (fun _ h => ?_) (fun _ h => ?_)))
 ·exact zj (oV (z7 rfl GFld.f2 zn9) (oT (zi (y' := ((GFld.mk y6.1 y11.1 true false (Val.mk (0 : Int) (0 : Int) ([] : (List UInt8)) ([] : (List Val)) (0 : Int) ([] : (List Raw))) zcb) : GFld)) ty4 rfl rfl hI (.there (.there tI)) rfl (zx (zk (hJ16 _ (t18, t19) h _ (ze 10 rfl rfl zd (.cons .here (.cons .here (.cons .here (.cons .here k4)))))))))))
 refine wsr (oM rfl (zb h fun y20 hy20 h => oT (zL (zN hy20) hT (s2 rfl rfl) k4 (fun R H' hR => ?_))))
 obtain ⟨t21, t22, rfl, rfl⟩ := hR
 refine oA rfl (rnf (zf h rfl (fun _ h => ?_) (fun _ h => ?_)))
 ·refine zj (oM rfl (zb h fun y23 hy23 h => oT (zL (zgQ hy23) hT (s1 rfl) k4 (fun R H' hR => ?_))))
  obtain ⟨t24, t25, rfl, rfl⟩ := hR
  exact oV (z7 rfl GFld.f3 zmk) (oT (zi (y' := ((GFld.mk y6.1 y11.1 false true (Val.mk (0 : Int) (0 : Int) ([] : (List UInt8)) ([] : (List Val)) (0 : Int) ([] : (List Raw))) zcb) : GFld)) ty4 rfl rfl hI (.there (.there tI)) rfl (oV (z7 rfl GFld.f4 zml) (oT (zi (y' := ((GFld.mk y6.1 y11.1 false true y23.1 zcb) : GFld)) ty63 rfl rfl hI .here rfl (zx (zk (hJ16 _ (t24, t25) h _ (ze 16 rfl rfl zd (.cons .here (.cons .here (.cons .here (.cons .here k4)))))))))))))
 exact zY (zk (hJ16 _ (t21, t22) h _ (ze 12 rfl rfl zd (.cons (.there (.there tI)) (.cons .here (.cons .here (.cons .here k4)))))))

theorem zg8 {zak : GPar → GNode → Int → Int → Option (GPar × GNode)} {zas : GPar → Int → Option (Int × GPar)} {zar : GPar → GNode → Int → Option (GPar × GNode)} {zag : GPar → GNode → Int → Option (GPar × GNode)} (zb2 : zb4 zak) (zcq : zbZ zas) (zcJ : zcc zar) (zbD : zbY zag) : ∀ {a_x : GPar} {zR : Int} {zG : Nat} {t_a_x1 : Tok} {t_a_x2 : Tok} {zJ : Vt} {r : Int × GPar}, zbt zak zas zar zag a_x zR = some r → Ctr Tryd.prog 28 [ptrv zG (Fld.id ((List GTok) × Int × (Str × Int × (TList Str) × (TList Int) × Vh) × Int × Int)), isv (zR)] [boxE zG ((a_x.l, a_x.at_, (a_x.m.name, a_x.m.tagging, (TList.mk t_a_x1 a_x.m.names), (TList.mk t_a_x2 a_x.m.types), (Vh.mk zJ a_x.m.nodes.length)), a_x.e, a_x.p) : ((List GTok) × Int × (Str × Int × (TList Str) × (TList Int) × Vh) × Int × Int)), tokE t_a_x1, tokE t_a_x2, vecE zJ (a_x.m.nodes : List GNode)] (fun R H => ∃ u1 : Tok, ∃ u2 : Tok, ∃ u3 : Vt, R = oneOf [isv (r.1)] ∧ H = [boxE zG ((r.2.l, r.2.at_, (r.2.m.name, r.2.m.tagging, (TList.mk u1 r.2.m.names), (TList.mk u2 r.2.m.types), (Vh.mk u3 r.2.m.nodes.length)), r.2.e, r.2.p)), tokE u1, tokE u2, vecE u3 (r.2.m.nodes)]) := by
 intro a_x zR zG t_a_x1 t_a_x2 zJ r h
 unfold zbt at h
 refine zr Tryd.func28 rfl fun w0 S0 hT => wsr (oA rfl (rnf (zn (wsr (oM rfl (oV (zp rfl) (oV (z7 rfl zbF zcF) ?_)))))))
 refine oT (zI (R := isv (a_x.e)) ty31 rfl .here hI (oV (zb0 rfl rfl) (rnf (zf h rfl (fun _ h => ?_) (fun _ h => ?_)))))
 ·refine wsr (oA rfl (rnf (zM (zB (zo (.tmp rfl .nil) k4 ?_)))))
  cases h
  exact ⟨t_a_x1, t_a_x2, zJ, rfl, rfl⟩
 refine wkf (zn (wsr (oM rfl (zb h fun y4 hy4 h => oT (zL (zaL hy4) hT (s1 rfl) k4 (fun R H' hR => ?_))))))
 obtain ⟨t5, t6, rfl, rfl⟩ := hR
 refine zb h fun y7 hy7 h => oT (zz (zjW hy7) hT (s1 rfl) .nil (oV (zbG rfl) (rnf (zf h rfl (fun _ h => ?_) (fun _ h => ?_)))))
 ·refine wsr (oM rfl (oM rfl (zb h fun y8 hy8 h => oT (zL (zaL hy8) hT (s1 rfl) k4 (fun R H' hR => ?_)))))
  obtain ⟨t9, t10, rfl, rfl⟩ := hR
  refine zb h fun y11 hy11 h => oT (zL (za4 hy11) hT (s3 rfl rfl rfl) k4 (fun R H' hR => ?_))
  obtain ⟨t12, t13, rfl, rfl⟩ := hR
  refine rnf (wsr (oA rfl (rnf (zM (zB (zo (.tmp rfl .nil) k4 ?_))))))
  cases h
  exact ⟨t12, t13, zJ, rfl, rfl⟩
 refine wkf (zn (wsr (oM rfl (oV (zbU rfl rfl) (oM rfl (zau (jb 32) je .nil h 8 rfl (fun q14 g14 h => ?_) (fun J15 h hJ15 => ?_)))))))
 ·refine rnf (zf h rfl (fun _ h => ?_) (fun _ h => ?_))
  ·refine wsr (oM rfl (oM rfl (zb h fun y17 hy17 h => oT (zL (zaL hy17) hT (s1 rfl) k4 (fun R H' hR => ?_)))))
   obtain ⟨t18, t19, rfl, rfl⟩ := hR
   refine zb h fun y20 hy20 h => oT (zL (za4 hy20) hT (s3 rfl rfl rfl) k4 (fun R H' hR => ?_))
   obtain ⟨t21, t22, rfl, rfl⟩ := hR
   refine rnf (wsr (oA rfl (rnf (zM (zB (zo (.tmp rfl .nil) k4 ?_))))))
   cases h
   exact ⟨t21, t22, zJ, rfl, rfl⟩
  refine wkf (wsr (oM rfl (oV (zp rfl) (oV (z7 rfl zcg zdM) (oV (z7 rfl zf4 zfQ) (oT (zI (R := vecv zJ (y4.2.m.nodes.length)) ty28 rfl .here isvV1 (oV (zgZ sl28 rfl) (oA rfl ?_)))))))))
  refine rnf (wsr (oM rfl (oM rfl (oV (zp rfl) (oV (z7 rfl zcg zdM) (oV (z7 rfl zf4 zfQ) (oT (zI (R := vecv zJ (y4.2.m.nodes.length)) ty28 rfl .here isvV1 (oV (zaw (z := (GNode.mk (0 : Int) (Str.mk []) (GMark.mk false (0 : Int) (0 : Int)) (GCon.mk false false false false (0 : Int) (0 : Int)) ([] : (List GItem)) ([] : (List GFld)) (0 : Int) false (0 : Int))) rfl bu108 ze108 .nil) ?_)))))))))
  refine oT (zQ (l := ([(GNode.mk (0 : Int) (Str.mk []) (GMark.mk false (0 : Int) (0 : Int)) (GCon.mk false false false false (0 : Int) (0 : Int)) ([] : (List GItem)) ([] : (List GFld)) (0 : Int) false (0 : Int))] : (List GNode))) el28 (.cons rfl hI .nil) rfl rfl (zZ h fun q25 h => oT (zgz (m := ([(GNode.mk (0 : Int) (Str.mk []) (GMark.mk false (0 : Int) (0 : Int)) (GCon.mk false false false false (0 : Int) (0 : Int)) ([] : (List GItem)) ([] : (List GFld)) (0 : Int) false (0 : Int))] : (List GNode))) zpw rfl rfl zK (.there tI) (by first | rfl | simp) q25 fun v24 => ?_)))
  refine oV (zp rfl) (oV (z7 rfl zcg zdM) (oV (z7 rfl zf4 zfQ) (oT (zi (y' := ((y4.2.l, y4.2.at_, (y4.2.m.name, y4.2.m.tagging, (TList.mk t5 y4.2.m.names), (TList.mk t6 y4.2.m.types), (Vh.mk v24 (y4.2.m.nodes ++ ([(GNode.mk (0 : Int) (Str.mk []) (GMark.mk false (0 : Int) (0 : Int)) (GCon.mk false false false false (0 : Int) (0 : Int)) ([] : (List GItem)) ([] : (List GFld)) (0 : Int) false (0 : Int))] : (List GNode))).length)), y4.2.e, y4.2.p) : ((List GTok) × Int × (Str × Int × (TList Str) × (TList Int) × Vh) × Int × Int))) ty28 rfl rfl isvV2 tH rfl (rnf (wsr (oV (zaw (z := (((0 : Int), (Str.mk []), (GMark.mk false (0 : Int) (0 : Int)), (GCon.mk false false false false (0 : Int) (0 : Int)), (TList.mk none ([] : (List GItem))), (TList.mk none ([] : (List GFld))), (0 : Int), false, (0 : Int)) : (Int × Str × GMark × GCon × (TList GItem) × (TList GFld) × Int × Bool × Int))) rfl bu108 zmR .nil) (oT (zab _ zmR fun b26 => zX (zaQ) ?_)))))))))
  refine zX (zaQ) (zX (zaQ) (zX (zaQ) (oT (zi (y' := (((0 : Int), (Str.mk []), (GMark.mk false (0 : Int) (0 : Int)), (GCon.mk false false false false (0 : Int) (0 : Int)), (TList.mk none ([] : (List GItem))), (TList.mk none ([] : (List GFld))), (0 : Int), false, (0 : Int)) : (Int × Str × GMark × GCon × (TList GItem) × (TList GFld) × Int × Bool × Int))) ty108 rfl rfl hI (.there (.there tI)) rfl (rnf (zn (wsr (oM rfl (zb h fun y31 hy31 h => ?_)))))))))
  refine oT (zL (zN hy31) hT (s2 rfl rfl) (.cons (.there (.there (.there tI))) (.cons (.there (.there (.there (.there tI)))) (.cons (.there (.there (.there (.there tI)))) (.cons (.there (.there (.there tI))) .nil)))) (fun R H' hR => ?_))
  obtain ⟨t32, t33, rfl, rfl⟩ := hR
  refine rnf (zc3 (ι := GPar × GNode) (γ := Tok × Tok × Tok × Tok) (fun q34 g34 => []) (fun q34 g34 => [boxE zG ((q34.1.l, q34.1.at_, (q34.1.m.name, q34.1.m.tagging, (TList.mk g34.1 q34.1.m.names), (TList.mk g34.2.1 q34.1.m.types), (Vh.mk v24 q34.1.m.nodes.length)), q34.1.e, q34.1.p) : ((List GTok) × Int × (Str × Int × (TList Str) × (TList Int) × Vh) × Int × Int)), tokE g34.1, tokE g34.2.1, vecE v24 (q34.1.m.nodes : List GNode), boxE b26 ((q34.2.kind, q34.2.name, q34.2.mark, q34.2.con, (TList.mk g34.2.2.1 q34.2.items), (TList.mk g34.2.2.2 q34.2.fields), q34.2.root, q34.2.more, q34.2.of) : (Int × Str × GMark × GCon × (TList GItem) × (TList GFld) × Int × Bool × Int)), tokE g34.2.2.1, tokE g34.2.2.2]) (.cons .here (.cons (.there tI) (.cons .here k4))) h (fun q34 g34 h => ?_) (fun J35 h hJ35 => ?_))
  ·refine wsr (oM rfl (oM rfl (zb h fun y63 hy63 h => oT (zL (zcJ hy63) hT (s3 rfl rfl rfl) (.cons .here (.cons .here (.cons .here k4))) (fun R H' hR => ?_)))))
   obtain ⟨t64, t65, v66, t67, t68, rfl, rfl⟩ := hR
   refine rnf (zn (wsr (oM rfl (oV (zp rfl) (oV (z7 rfl zbF zcF) (oT (zI (R := isv (y63.1.e)) ty31 rfl .here hI (oV (zb0 rfl rfl) (rnf ?_)))))))))
   refine zf h rfl (fun _ h => ?_) (fun _ h => ?_)
   ·refine wsr (oA rfl (rnf (zM (zB (zo (.tmp rfl .nil) k4 ?_)))))
    cases h
    exact ⟨t64, t65, v66, rfl, rfl⟩
   refine wkf (zn (zcG 6 (.there (.there tI)) rfl (fun o69 hn70 => zcG 0 .here rfl (fun o71 hn72 => zW (.v 0 (.v 1 (.v 2 (.v 3 (.v 4 (.v 5 (.v 6 (.v 7 (.t 8 .nil))))))))) moOrd (by kernel_rfl) ?_))))
   refine rvm rfl rfl (zq rfl (zbr rfl) (zq rfl (zft rfl zcg zdM) (zq rfl (zft rfl zf4 zfQ) (zq rfl (zcL (R := vecv v66 (y63.1.m.nodes.length)) ty28 rfl (List.Mem.head _) isvV1) (rvm rfl rfl (zq rfl (zcL (R := isv (((y63.2.kind, y63.2.name, y63.2.mark, y63.2.con, (TList.mk t67 y63.2.items), (TList.mk t68 y63.2.fields), y63.2.root, y63.2.more, y63.2.of)) : ((Int × Str × GMark × GCon × (TList GItem) × (TList GFld) × Int × Bool × Int)))) ty108 rfl (List.Mem.tail _ (List.Mem.head _)) hI) (zbh (zai (R' := isv (y63.2)) 105 rfl (Cv.isv rfl fun S => (fun cs h => GNode.cv (x := y63.2) cs (((Cv.pair Cv.id (Cv.pair Cv.id (Cv.pair Cv.id (Cv.pair Cv.id (Cv.pair Cv.tl (Cv.pair Cv.tl (Cv.pair Cv.id (Cv.pair Cv.id Cv.id)))))))) : Cv S ((y63.2.kind, y63.2.name, y63.2.mark, y63.2.con, (TList.mk t67 y63.2.items), (TList.mk t68 y63.2.fields), y63.2.root, y63.2.more, y63.2.of) : (Int × Str × GMark × GCon × (TList GItem) × (TList GFld) × Int × Bool × Int)) (GNode.to y63.2)) cs h)))) (zT h fun q73 h => ?_))))))))
   refine zq rfl (zaH (α := GNode) sl28 rfl rfl q73.1 q73.2) (zb h fun y74 hy74 h => zV rfl rfl (za8 ty108 rfl rfl tI hy74 (zae (zaN 0 hn72 rfl (zoW (zgt (y := ((y63.1.l, y63.1.at_, (y63.1.m.name, y63.1.m.tagging, (TList.mk t64 y63.1.m.names), (TList.mk t65 y63.1.m.types), (Vh.mk v66 (y63.1.m.nodes.set (((y4.2.m.nodes.length : Nat) : Int).toNat) y63.2).length)), y63.1.e, y63.1.p) : ((List GTok) × Int × (Str × Int × (TList Str) × (TList Int) × Vh) × Int × Int))) .here (fun S => (Cv.pair Cv.id (Cv.pair Cv.id (Cv.pair (Cv.pair Cv.id (Cv.pair Cv.id (Cv.pair Cv.id (Cv.pair Cv.id (Cv.vhe (by first | rfl | simp)))))) (Cv.pair Cv.id Cv.id)))))) ?_)))))
   refine zaN 6 hn70 rfl (zy (wsr (oM rfl (oA rfl (rnf (zM (zo (.tmp rfl .nil) (.cons tH (.cons tI (.cons tI (.cons tH .nil)))) ?_)))))))
   cases h
   exact ⟨t64, t65, v66, rfl, rfl⟩
  refine zf h rfl (fun _ h => ?_) (fun _ h => ?_)
  ·refine wsr (oM rfl (zb h fun y36 hy36 h => oT (zL (zaL hy36) hT (s1 rfl) k4 (fun R H' hR => ?_))))
   obtain ⟨t37, t38, rfl, rfl⟩ := hR
   refine oT (zab _ ze80 fun b39 => oT (zi (y' := (y36.1 : GTok)) ty80 rfl rfl hI .here rfl (zX (zaq 7 .here rfl) (rnf (wsr (oM rfl (zb h fun y40 hy40 h => oT (zL (zck hy40) hT (s1 rfl) k4 (fun R H' hR => ?_)))))))))
   obtain ⟨t41, t42, rfl, rfl⟩ := hR
   refine oA rfl (rnf (zn (wsr (oM rfl (oV (zp rfl) (oV (z7 rfl zbF zcF) (oT (zI (R := isv (y40.2.e)) ty31 rfl .here hI (oV (zal rfl rfl) ?_)))))))))
   refine oM rfl (zau (jb 74) je .nil h 7 rfl (fun q43 g43 h => ?_) (fun J44 h hJ44 => ?_))
   ·refine rnf (zc3 (ι := GPar) (γ := Tok × Tok) (fun q49 g49 => []) (fun q49 g49 => [boxE zG ((q49.l, q49.at_, (q49.m.name, q49.m.tagging, (TList.mk g49.1 q49.m.names), (TList.mk g49.2 q49.m.types), (Vh.mk v24 q49.m.nodes.length)), q49.e, q49.p) : ((List GTok) × Int × (Str × Int × (TList Str) × (TList Int) × Vh) × Int × Int)), tokE g49.1, tokE g49.2, vecE v24 (q49.m.nodes : List GNode)]) k4 h (fun q49 g49 h => ?_) (fun J50 h hJ50 => ?_))
    ·refine wsr (oM rfl (zb h fun y54 hy54 h => oT (zL (z8 hy54) hT (s2 rfl rfl) k4 (fun R H' hR => ?_))))
     obtain ⟨t55, t56, rfl, rfl⟩ := hR
     refine rnf (wsr (oM rfl (oV (zaw (z := (GMark.mk true y40.1 (0 : Int))) rfl bu106 ze106 (.cons GMark.f0 zkd rfl hI (.cons GMark.f1 zmv rfl hI .nil))) (oV (z7 rfl zhE ze2) (oT (zi (y' := (((0 : Int), (Str.mk []), (GMark.mk true y40.1 (0 : Int)), (GCon.mk false false false false (0 : Int) (0 : Int)), (TList.mk none ([] : (List GItem))), (TList.mk none ([] : (List GFld))), (0 : Int), false, (0 : Int)) : (Int × Str × GMark × GCon × (TList GItem) × (TList GFld) × Int × Bool × Int))) ty106 rfl rfl hI (.there (.there tI)) rfl (rnf (wsr (oM rfl ?_)))))))))
     refine zb h fun y57 hy57 h => oT (zL (zN hy57) hT (s2 rfl rfl) (.cons tH (.cons tH (.cons tH (.cons tH .nil)))) (fun R H' hR => ?_))
     obtain ⟨t58, t59, rfl, rfl⟩ := hR
     refine rnf (zf h rfl (fun _ h => ?_) (fun _ h => ?_))
     ·exact zj (oV (z7 rfl zhE ze2) (oV (z7 rfl GMark.f2 zid) (oT (zi (y' := (((0 : Int), (Str.mk []), (GMark.mk true y40.1 (1 : Int)), (GCon.mk false false false false (0 : Int) (0 : Int)), (TList.mk none ([] : (List GItem))), (TList.mk none ([] : (List GFld))), (0 : Int), false, (0 : Int)) : (Int × Str × GMark × GCon × (TList GItem) × (TList GFld) × Int × Bool × Int))) ty3 rfl rfl hI (.there (.there tI)) rfl (zx (hJ35 _ (t58, t59, none, none) h _ (ze 23 rfl rfl zd (.cons tH (.cons tH (.cons tH (.cons tH (.cons .here (.cons tH k3)))))))))))))
     refine wsr (oM rfl (zb h fun y60 hy60 h => oT (zL (zN hy60) hT (s2 rfl rfl) k4 (fun R H' hR => ?_))))
     obtain ⟨t61, t62, rfl, rfl⟩ := hR
     refine rnf (zf h rfl (fun _ h => ?_) (fun _ h => ?_))
     ·exact zj (oV (z7 rfl zhE ze2) (oV (z7 rfl GMark.f2 zid) (oT (zi (y' := (((0 : Int), (Str.mk []), (GMark.mk true y40.1 (2 : Int)), (GCon.mk false false false false (0 : Int) (0 : Int)), (TList.mk none ([] : (List GItem))), (TList.mk none ([] : (List GFld))), (0 : Int), false, (0 : Int)) : (Int × Str × GMark × GCon × (TList GItem) × (TList GFld) × Int × Bool × Int))) ty3 rfl rfl hI (.there (.there tI)) rfl (zx (hJ35 _ (t61, t62, none, none) h _ (ze 25 rfl rfl zd (.cons tH (.cons tH (.cons tH (.cons tH (.cons .here (.cons tH k3)))))))))))))
     exact zY (hJ35 _ (t61, t62, none, none) h _ (ze 23 rfl rfl zd (.cons .here (.cons .here (.cons .here (.cons .here (.cons .here (.cons tH k3))))))))
    refine zf h rfl (fun _ h => ?_) (fun _ h => ?_)
    ·refine zj (oM rfl (oV (zg ty80 rfl) (zb h fun y51 hy51 h => oT (zL (za4 hy51) hT (s3 rfl rfl rfl) k4 (fun R H' hR => ?_)))))
     obtain ⟨t52, t53, rfl, rfl⟩ := hR
     exact zx (hJ50 _ (t52, t53) h _ (ze 3 rfl rfl zd (.cons .here (.cons .here (.cons .here (.cons .here (.cons .here k4)))))))
    exact zY (hJ50 _ (t41, t42) h _ (ze 0 rfl rfl zd (.cons .here (.cons .here (.cons .here (.cons .here (.cons .here k4)))))))
   refine zC (j := 67) h rfl (fun g45 h => ?_) (fun g45 h => ?_)
   ·refine oK 67 rfl rfl rfl g45 (zw rfl) (oK 67 rfl rfl rfl g45 (zaj rfl rfl) (oK 67 rfl rfl rfl g45 (zw rfl) (zau (jb 73) je .nil h 3 rfl (fun q46 g46 h => ?_) (fun J47 h hJ47 => ?_))))
    ·exact oV (zs rfl g45 rfl) (hJ44 _ () h _ (ze 5 rfl rfl (za (j := 74) rfl hI zd) (.cons .here (.cons .here (.cons .here (.cons .here (.cons .here k4)))))))
    refine zC (j := 70) h rfl (fun g48 h => ?_) (fun g48 h => ?_)
    ·exact oP 70 rfl rfl g48 (oP 70 rfl rfl g48 (oK 67 rfl rfl rfl g45 (zs rfl g48 rfl) (hJ47 _ () h _ (ze 3 rfl rfl (za (j := 73) rfl hI zd) (.cons .here (.cons .here (.cons .here (.cons .here (.cons .here k4)))))))))
    exact oK 70 rfl rfl rfl g48 (zw rfl) (oK 70 rfl rfl rfl g48 (zbU rfl rfl) (oK 67 rfl rfl rfl g45 (zt rfl g48 rfl) (hJ47 _ () h _ (ze 3 rfl rfl (za (j := 73) rfl hI zd) (.cons .here (.cons .here (.cons .here (.cons .here (.cons .here k4)))))))))
   exact oP 67 rfl rfl g45 (oP 67 rfl rfl g45 (oP 67 rfl rfl g45 (zA rfl (dj := 70) rfl (zA rfl (dj := 70) rfl (oP 67 rfl rfl g45 (oV (zt rfl g45 rfl) (hJ44 _ () h _ (ze 7 rfl rfl (za (j := 74) rfl hI zd) (.cons .here (.cons .here (.cons .here (.cons .here (.cons .here k4)))))))))))))
  exact zY (hJ35 _ (t32, t33, none, none) h _ (ze 0 rfl rfl zd (.cons .here (.cons .here (.cons .here (.cons .here (.cons .here (.cons tH k3))))))))
 refine zC (j := 24) h rfl (fun g16 h => ?_) (fun g16 h => ?_)
 ·exact oP 24 rfl rfl g16 (oP 24 rfl rfl g16 (oP 24 rfl rfl g16 (oP 24 rfl rfl g16 (oP 24 rfl rfl g16 (oP 24 rfl rfl g16 (oP 24 rfl rfl g16 (oV (zs rfl g16 rfl) (hJ15 _ () h _ (ze 8 rfl rfl (za (j := 32) rfl hI zd) k4)))))))))
 exact oK 24 rfl rfl rfl g16 (zw rfl) (oK 24 rfl rfl rfl g16 (zp rfl) (oK 24 rfl rfl rfl g16 (z7 rfl zcg zdM) (oK 24 rfl rfl rfl g16 (z7 rfl zf4 zfQ) (zat rfl rfl (dj := 24) rfl g16 (zI (R := vecv zJ (y4.2.m.nodes.length)) ty28 rfl .here isvV1 (oK 24 rfl rfl rfl g16 (zgZ sl28 rfl) (oK 24 rfl rfl rfl g16 (ze4 rfl rfl) (oV (zt rfl g16 rfl) (hJ15 _ () h _ (ze 8 rfl rfl (za (j := 32) rfl hI zd) k4))))))))))

theorem zg1 {zak : GPar → GNode → Int → Int → Option (GPar × GNode)} {zas : GPar → Int → Option (Int × GPar)} {zar : GPar → GNode → Int → Option (GPar × GNode)} {zag : GPar → GNode → Int → Option (GPar × GNode)} (zb2 : zb4 zak) (zcq : zbZ zas) (zcJ : zcc zar) (zbD : zbY zag) : ∀ {a_x : GPar} {a_n_ : GNode} {zR : Int} {zG : Nat} {t_a_x1 : Tok} {t_a_x2 : Tok} {zJ : Vt} {zaV : Nat} {t_a_n_4 : Tok} {t_a_n_5 : Tok} {r : GPar × GNode}, zbj zak zas zar zag a_x a_n_ zR = some r → Ctr Tryd.prog 53 [ptrv zG (Fld.id ((List GTok) × Int × (Str × Int × (TList Str) × (TList Int) × Vh) × Int × Int)), ptrv zaV (Fld.id (Int × Str × GMark × GCon × (TList GItem) × (TList GFld) × Int × Bool × Int)), isv (zR)] [boxE zG ((a_x.l, a_x.at_, (a_x.m.name, a_x.m.tagging, (TList.mk t_a_x1 a_x.m.names), (TList.mk t_a_x2 a_x.m.types), (Vh.mk zJ a_x.m.nodes.length)), a_x.e, a_x.p) : ((List GTok) × Int × (Str × Int × (TList Str) × (TList Int) × Vh) × Int × Int)), tokE t_a_x1, tokE t_a_x2, vecE zJ (a_x.m.nodes : List GNode), boxE zaV ((a_n_.kind, a_n_.name, a_n_.mark, a_n_.con, (TList.mk t_a_n_4 a_n_.items), (TList.mk t_a_n_5 a_n_.fields), a_n_.root, a_n_.more, a_n_.of) : (Int × Str × GMark × GCon × (TList GItem) × (TList GFld) × Int × Bool × Int)), tokE t_a_n_4, tokE t_a_n_5] (fun R H => ∃ u1 : Tok, ∃ u2 : Tok, ∃ u3 : Vt, ∃ u4 : Tok, ∃ u5 : Tok, R = oneOf [] ∧ H = [boxE zG ((r.1.l, r.1.at_, (r.1.m.name, r.1.m.tagging, (TList.mk u1 r.1.m.names), (TList.mk u2 r.1.m.types), (Vh.mk u3 r.1.m.nodes.length)), r.1.e, r.1.p)), tokE u1, tokE u2, vecE u3 (r.1.m.nodes), boxE zaV ((r.2.kind, r.2.name, r.2.mark, r.2.con, (TList.mk u4 r.2.items), (TList.mk u5 r.2.fields), r.2.root, r.2.more, r.2.of)), tokE u4, tokE u5]) := by
 intro a_x a_n_ zR zG t_a_x1 t_a_x2 zJ zaV t_a_n_4 t_a_n_5 r h
 unfold zbj at h
 refine zr Tryd.func53 rfl fun w0 S0 hT => wsr (oM rfl (zb h fun y6 hy6 h => oT (zL (zaL hy6) hT (s1 rfl) k4 (fun R H' hR => ?_))))
 obtain ⟨t7, t8, rfl, rfl⟩ := hR
 refine oT (zab _ ze80 fun b9 => oT (zi (y' := (y6.1 : GTok)) ty80 rfl rfl hI .here rfl (zX (zaq 6 .here rfl) (rnf (zu (wsr (oM rfl (oV (zp rfl) (oV (z7 rfl zbF zcF) ?_)))))))))
 refine oT (zI (R := isv (y6.2.e)) ty31 rfl .here hI (oV (zb0 rfl rfl) (oA rfl (rnf (zf h rfl (fun _ h => ?_) (fun _ h => ?_))))))
 ·refine zY (zk (zan .nil (.cons .here (.cons .here (.cons .here k4))) ?_))
  cases h
  exact ⟨t7, t8, zJ, t_a_n_4, t_a_n_5, rfl, rfl⟩
 refine wsr (oM rfl (zb h fun y10 hy10 h => oT (zL (zN hy10) hT (s2 rfl rfl) k4 (fun R H' hR => ?_))))
 obtain ⟨t11, t12, rfl, rfl⟩ := hR
 refine oA rfl (rnf (zf h rfl (fun _ h => ?_) (fun _ h => ?_)))
 ·refine zj (oM rfl (oV (zp rfl) (oV (z7 rfl zb8 zbE) (oT (zi (y' := (((1 : Int), a_n_.name, a_n_.mark, a_n_.con, (TList.mk t_a_n_4 a_n_.items), (TList.mk t_a_n_5 a_n_.fields), a_n_.root, a_n_.more, a_n_.of) : (Int × Str × GMark × GCon × (TList GItem) × (TList GFld) × Int × Bool × Int))) ty3 rfl rfl hI (.there (.there tI)) rfl (zx (zk (zan .nil (.cons tH (.cons tH (.cons tH (.cons tH k3)))) ?_))))))))
  cases h
  exact ⟨t11, t12, zJ, t_a_n_4, t_a_n_5, rfl, rfl⟩
 refine wsr (oM rfl (zb h fun y13 hy13 h => oT (zL (zN hy13) hT (s2 rfl rfl) k4 (fun R H' hR => ?_))))
 obtain ⟨t14, t15, rfl, rfl⟩ := hR
 refine oA rfl (rnf (zf h rfl (fun _ h => ?_) (fun _ h => ?_)))
 ·refine zj (oM rfl (oV (zp rfl) (oV (z7 rfl zb8 zbE) (oT (zi (y' := (((4 : Int), a_n_.name, a_n_.mark, a_n_.con, (TList.mk t_a_n_4 a_n_.items), (TList.mk t_a_n_5 a_n_.fields), a_n_.root, a_n_.more, a_n_.of) : (Int × Str × GMark × GCon × (TList GItem) × (TList GFld) × Int × Bool × Int))) ty3 rfl rfl hI (.there (.there tI)) rfl (zx (zk (zan .nil (.cons tH (.cons tH (.cons tH (.cons tH k3)))) ?_))))))))
  cases h
  exact ⟨t14, t15, zJ, t_a_n_4, t_a_n_5, rfl, rfl⟩
 refine wsr (oM rfl (zb h fun y16 hy16 h => oT (zL (zN hy16) hT (s2 rfl rfl) k4 (fun R H' hR => ?_))))
 obtain ⟨t17, t18, rfl, rfl⟩ := hR
 refine oA rfl (rnf (zf h rfl (fun _ h => ?_) (fun _ h => ?_)))
 ·refine wsr (oM rfl (oV (zp rfl) (oV (z7 rfl zb8 zbE) (oT (zi (y' := (((6 : Int), a_n_.name, a_n_.mark, a_n_.con, (TList.mk t_a_n_4 a_n_.items), (TList.mk t_a_n_5 a_n_.fields), a_n_.root, a_n_.more, a_n_.of) : (Int × Str × GMark × GCon × (TList GItem) × (TList GFld) × Int × Bool × Int))) ty3 rfl rfl hI (.there (.there tI)) rfl (rnf (zj (oM rfl (oM rfl ?_)))))))))
  refine zb h fun y19 hy19 h => oT (zL (zdq hy19) hT (s1 rfl) (.cons tH (.cons tH (.cons tH (.cons tH .nil)))) (fun R H' hR => ?_))
  obtain ⟨t20, t21, rfl, rfl⟩ := hR
  refine oV (zp rfl) (oV (z7 rfl zgB zgA) (oT (zi (y' := (((6 : Int), a_n_.name, a_n_.mark, y19.1, (TList.mk t_a_n_4 a_n_.items), (TList.mk t_a_n_5 a_n_.fields), a_n_.root, a_n_.more, a_n_.of) : (Int × Str × GMark × GCon × (TList GItem) × (TList GFld) × Int × Bool × Int))) ty50 rfl rfl hI (.there (.there tI)) rfl (zx (zk (zan .nil (.cons tH (.cons tH (.cons tH (.cons tH k3)))) ?_))))))
  cases h
  exact ⟨t20, t21, zJ, t_a_n_4, t_a_n_5, rfl, rfl⟩
 refine wsr (oM rfl (zb h fun y22 hy22 h => oT (zL (zN hy22) hT (s2 rfl rfl) k4 (fun R H' hR => ?_))))
 obtain ⟨t23, t24, rfl, rfl⟩ := hR
 refine oA rfl (rnf (zf h rfl (fun _ h => ?_) (fun _ h => ?_)))
 ·refine wsr (oM rfl (oV (zp rfl) (oV (z7 rfl zb8 zbE) (oT (zi (y' := (((2 : Int), a_n_.name, a_n_.mark, a_n_.con, (TList.mk t_a_n_4 a_n_.items), (TList.mk t_a_n_5 a_n_.fields), a_n_.root, a_n_.more, a_n_.of) : (Int × Str × GMark × GCon × (TList GItem) × (TList GFld) × Int × Bool × Int))) ty3 rfl rfl hI (.there (.there tI)) rfl (rnf (wsr (oM rfl (zb h fun y25 hy25 h => ?_)))))))))
  refine oT (zL (zN hy25) hT (s2 rfl rfl) (.cons tH (.cons tH (.cons tH (.cons tH .nil)))) (fun R H' hR => ?_))
  obtain ⟨t26, t27, rfl, rfl⟩ := hR
  refine rnf (zf h rfl (fun _ h => ?_) (fun _ h => ?_))
  ·refine wsr (oM rfl (oM rfl (zb h fun y28 hy28 h => oT (zL (zen hy28) hT (s1 rfl) k4 (fun R H' hR => ?_)))))
   obtain ⟨t29, t30, rfl, rfl⟩ := hR
   refine oV (zp rfl) (oV (z7 rfl zgB zgA) (oT (zi (y' := (((2 : Int), a_n_.name, a_n_.mark, y28.1, (TList.mk t_a_n_4 a_n_.items), (TList.mk t_a_n_5 a_n_.fields), a_n_.root, a_n_.more, a_n_.of) : (Int × Str × GMark × GCon × (TList GItem) × (TList GFld) × Int × Bool × Int))) ty50 rfl rfl hI (.there (.there tI)) rfl (rnf (zj (oM rfl (zb h fun y31 hy31 h => oT (zL (z8 hy31) hT (s2 rfl rfl) (.cons tH (.cons tH (.cons tH (.cons tH .nil)))) (fun R H' hR => ?_)))))))))
   obtain ⟨t32, t33, rfl, rfl⟩ := hR
   refine zx (zk (zan .nil (.cons .here (.cons .here (.cons .here k4))) ?_))
   cases h
   exact ⟨t32, t33, zJ, t_a_n_4, t_a_n_5, rfl, rfl⟩
  refine zY (zk (zan .nil (.cons .here (.cons .here (.cons .here k4))) ?_))
  cases h
  exact ⟨t26, t27, zJ, t_a_n_4, t_a_n_5, rfl, rfl⟩
 refine wsr (oM rfl (zb h fun y34 hy34 h => oT (zL (zN hy34) hT (s2 rfl rfl) k4 (fun R H' hR => ?_))))
 obtain ⟨t35, t36, rfl, rfl⟩ := hR
 refine oA rfl (rnf (zf h rfl (fun _ h => ?_) (fun _ h => ?_)))
 ·refine wsr (oM rfl (zb h fun y37 hy37 h => oT (zL (z8 hy37) hT (s2 rfl rfl) k4 (fun R H' hR => ?_))))
  obtain ⟨t38, t39, rfl, rfl⟩ := hR
  refine rnf (wsr (oM rfl (oV (zp rfl) (oV (z7 rfl zb8 zbE) (oT (zi (y' := (((5 : Int), a_n_.name, a_n_.mark, a_n_.con, (TList.mk t_a_n_4 a_n_.items), (TList.mk t_a_n_5 a_n_.fields), a_n_.root, a_n_.more, a_n_.of) : (Int × Str × GMark × GCon × (TList GItem) × (TList GFld) × Int × Bool × Int))) ty3 rfl rfl hI (.there (.there tI)) rfl (rnf (zj (oM rfl ?_)))))))))
  refine oM rfl (zb h fun y40 hy40 h => oT (zL (zdq hy40) hT (s1 rfl) (.cons tH (.cons tH (.cons tH (.cons tH .nil)))) (fun R H' hR => ?_)))
  obtain ⟨t41, t42, rfl, rfl⟩ := hR
  refine oV (zp rfl) (oV (z7 rfl zgB zgA) (oT (zi (y' := (((5 : Int), a_n_.name, a_n_.mark, y40.1, (TList.mk t_a_n_4 a_n_.items), (TList.mk t_a_n_5 a_n_.fields), a_n_.root, a_n_.more, a_n_.of) : (Int × Str × GMark × GCon × (TList GItem) × (TList GFld) × Int × Bool × Int))) ty50 rfl rfl hI (.there (.there tI)) rfl (zx (zk (zan .nil (.cons tH (.cons tH (.cons tH (.cons tH k3)))) ?_))))))
  cases h
  exact ⟨t41, t42, zJ, t_a_n_4, t_a_n_5, rfl, rfl⟩
 refine wsr (oM rfl (zb h fun y43 hy43 h => oT (zL (zN hy43) hT (s2 rfl rfl) k4 (fun R H' hR => ?_))))
 obtain ⟨t44, t45, rfl, rfl⟩ := hR
 refine oA rfl (rnf (zf h rfl (fun _ h => ?_) (fun _ h => ?_)))
 ·refine wsr (oM rfl (oV (zp rfl) (oV (z7 rfl zb8 zbE) (oT (zi (y' := (((3 : Int), a_n_.name, a_n_.mark, a_n_.con, (TList.mk t_a_n_4 a_n_.items), (TList.mk t_a_n_5 a_n_.fields), a_n_.root, a_n_.more, a_n_.of) : (Int × Str × GMark × GCon × (TList GItem) × (TList GFld) × Int × Bool × Int))) ty3 rfl rfl hI (.there (.there tI)) rfl (rnf (wsr (oM rfl (zb h fun y46 hy46 h => ?_)))))))))
  refine oT (zL (z8 hy46) hT (s2 rfl rfl) (.cons tH (.cons tH (.cons tH (.cons tH .nil)))) (fun R H' hR => ?_))
  obtain ⟨t47, t48, rfl, rfl⟩ := hR
  refine rnf (wsr (oM rfl (oM rfl (zb h fun y49 hy49 h => oT (zL (zgU hy49) hT (s2 rfl rfl) (.cons .here (.cons .here (.cons .here k4))) (fun R H' hR => ?_))))))
  obtain ⟨t50, t51, t52, t53, rfl, rfl⟩ := hR
  refine rnf (zj (oM rfl (zb h fun y54 hy54 h => oT (zL (z8 hy54) hT (s2 rfl rfl) k4 (fun R H' hR => ?_)))))
  obtain ⟨t55, t56, rfl, rfl⟩ := hR
  refine zx (zk (zan .nil (.cons .here (.cons .here (.cons .here k4))) ?_))
  cases h
  exact ⟨t55, t56, zJ, t52, t53, rfl, rfl⟩
 refine wsr (oM rfl (zb h fun y57 hy57 h => oT (zL (zN hy57) hT (s2 rfl rfl) k4 (fun R H' hR => ?_))))
 obtain ⟨t58, t59, rfl, rfl⟩ := hR
 refine oA rfl (rnf (zf h rfl (fun _ h => ?_) (fun _ h => ?_)))
 ·refine wsr (oM rfl (oV (zp rfl) (oV (z7 rfl zb8 zbE) (oT (zi (y' := (((8 : Int), a_n_.name, a_n_.mark, a_n_.con, (TList.mk t_a_n_4 a_n_.items), (TList.mk t_a_n_5 a_n_.fields), a_n_.root, a_n_.more, a_n_.of) : (Int × Str × GMark × GCon × (TList GItem) × (TList GFld) × Int × Bool × Int))) ty3 rfl rfl hI (.there (.there tI)) rfl (rnf (wsr (oM rfl (zb h fun y60 hy60 h => ?_)))))))))
  refine oT (zL (z8 hy60) hT (s2 rfl rfl) (.cons tH (.cons tH (.cons tH (.cons tH .nil)))) (fun R H' hR => ?_))
  obtain ⟨t61, t62, rfl, rfl⟩ := hR
  refine rnf (zj (oM rfl (oM rfl (oM rfl (zb h fun y63 hy63 h => oT (zL (zbD hy63) hT (s3 rfl rfl rfl) (.cons .here (.cons .here (.cons .here k4))) (fun R H' hR => ?_)))))))
  obtain ⟨t64, t65, v66, t67, t68, rfl, rfl⟩ := hR
  refine zx (zk (zan .nil (.cons .here (.cons .here (.cons .here k4))) ?_))
  cases h
  exact ⟨t64, t65, v66, t67, t68, rfl, rfl⟩
 refine wsr (oM rfl (zb h fun y69 hy69 h => oT (zL (zN hy69) hT (s2 rfl rfl) k4 (fun R H' hR => ?_))))
 obtain ⟨t70, t71, rfl, rfl⟩ := hR
 refine oA rfl (rnf (zf h rfl (fun _ h => ?_) (fun _ h => ?_)))
 ·refine wsr (oM rfl (oV (zp rfl) (oV (z7 rfl zb8 zbE) (oT (zi (y' := (((9 : Int), a_n_.name, a_n_.mark, a_n_.con, (TList.mk t_a_n_4 a_n_.items), (TList.mk t_a_n_5 a_n_.fields), a_n_.root, a_n_.more, a_n_.of) : (Int × Str × GMark × GCon × (TList GItem) × (TList GFld) × Int × Bool × Int))) ty3 rfl rfl hI (.there (.there tI)) rfl (rnf (wsr (oM rfl (zb h fun y72 hy72 h => ?_)))))))))
  refine oT (zL (z8 hy72) hT (s2 rfl rfl) (.cons tH (.cons tH (.cons tH (.cons tH .nil)))) (fun R H' hR => ?_))
  obtain ⟨t73, t74, rfl, rfl⟩ := hR
  refine rnf (zj (oM rfl (oM rfl (oM rfl (zb h fun y75 hy75 h => oT (zL (zbD hy75) hT (s3 rfl rfl rfl) (.cons .here (.cons .here (.cons .here k4))) (fun R H' hR => ?_)))))))
  obtain ⟨t76, t77, v78, t79, t80, rfl, rfl⟩ := hR
  refine zx (zk (zan .nil (.cons .here (.cons .here (.cons .here k4))) ?_))
  cases h
  exact ⟨t76, t77, v78, t79, t80, rfl, rfl⟩
 refine wsr (oM rfl (zb h fun y81 hy81 h => oT (zL (zN hy81) hT (s2 rfl rfl) k4 (fun R H' hR => ?_))))
 obtain ⟨t82, t83, rfl, rfl⟩ := hR
 refine oA rfl (rnf (zf h rfl (fun _ h => ?_) (fun _ h => ?_)))
 ·refine zn (wsr (oM rfl (zb h fun y84 hy84 h => oT (zL (zN hy84) hT (s2 rfl rfl) k4 (fun R H' hR => ?_)))))
  obtain ⟨t85, t86, rfl, rfl⟩ := hR
  refine rnf (zf h rfl (fun _ h => ?_) (fun _ h => ?_))
  ·refine wsr (oM rfl (oV (zp rfl) (oV (z7 rfl zb8 zbE) (oT (zi (y' := (((7 : Int), a_n_.name, a_n_.mark, a_n_.con, (TList.mk t_a_n_4 a_n_.items), (TList.mk t_a_n_5 a_n_.fields), a_n_.root, a_n_.more, a_n_.of) : (Int × Str × GMark × GCon × (TList GItem) × (TList GFld) × Int × Bool × Int))) ty3 rfl rfl hI (.there (.there tI)) rfl (rnf (wsr (oM rfl (oM rfl ?_)))))))))
   refine oM rfl (zb h fun y87 hy87 h => oT (zL (zbD hy87) hT (s3 rfl rfl rfl) (.cons tH (.cons tH (.cons tH (.cons tH k3)))) (fun R H' hR => ?_)))
   obtain ⟨t88, t89, v90, t91, t92, rfl, rfl⟩ := hR
   refine rnf (zM (zB (zE (zo .nil (.cons .here (.cons .here (.cons .here k4))) ?_))))
   cases h
   exact ⟨t88, t89, v90, t91, t92, rfl, rfl⟩
  refine wkf (wsr (oM rfl (oV (zp rfl) (oV (z7 rfl zb8 zbE) (oT (zi (y' := (((10 : Int), a_n_.name, a_n_.mark, a_n_.con, (TList.mk t_a_n_4 a_n_.items), (TList.mk t_a_n_5 a_n_.fields), a_n_.root, a_n_.more, a_n_.of) : (Int × Str × GMark × GCon × (TList GItem) × (TList GFld) × Int × Bool × Int))) ty3 rfl rfl hI (.there (.there tI)) rfl (rnf (wsr (oM rfl ?_)))))))))
  refine oM rfl (zb h fun y93 hy93 h => oT (zL (zdq hy93) hT (s1 rfl) (.cons tH (.cons tH (.cons tH (.cons tH .nil)))) (fun R H' hR => ?_)))
  obtain ⟨t94, t95, rfl, rfl⟩ := hR
  refine oV (zp rfl) (oV (z7 rfl zgB zgA) (oT (zi (y' := (((10 : Int), a_n_.name, a_n_.mark, y93.1, (TList.mk t_a_n_4 a_n_.items), (TList.mk t_a_n_5 a_n_.fields), a_n_.root, a_n_.more, a_n_.of) : (Int × Str × GMark × GCon × (TList GItem) × (TList GFld) × Int × Bool × Int))) ty50 rfl rfl hI (.there (.there tI)) rfl (rnf (wsr (oM rfl (zb h fun y96 hy96 h => oT (zL (z8 hy96) hT (s2 rfl rfl) (.cons tH (.cons tH (.cons tH (.cons tH .nil)))) (fun R H' hR => ?_)))))))))
  obtain ⟨t97, t98, rfl, rfl⟩ := hR
  refine rnf (zj (oM rfl (oM rfl (oM rfl (zD h fun q99 h => oV (zaf rfl rfl q99) (zb h fun y100 hy100 h => oT (zL (zcq hy100) hT (s2 rfl rfl) k4 (fun R H' hR => ?_))))))))
  obtain ⟨t101, t102, v103, rfl, rfl⟩ := hR
  refine oV (zp rfl) (oV (z7 rfl znp zjZ) (oT (zi (y' := (((10 : Int), a_n_.name, a_n_.mark, y93.1, (TList.mk t_a_n_4 a_n_.items), (TList.mk t_a_n_5 a_n_.fields), a_n_.root, a_n_.more, y100.1) : (Int × Str × GMark × GCon × (TList GItem) × (TList GFld) × Int × Bool × Int))) ty3 rfl rfl hI (.there (.there tI)) rfl (zx (zk (zan .nil (.cons tH (.cons tH (.cons tH (.cons tH k3)))) ?_))))))
  cases h
  exact ⟨t101, t102, v103, t_a_n_4, t_a_n_5, rfl, rfl⟩
 refine wsr (oV (zac rfl GTok.f0 zcz rfl (z := y6.1.kind)) (oV (zg ty3 rfl) (oV (zal rfl rfl) (oA rfl (rnf (zf h rfl (fun _ h => ?_) (fun _ h => ?_)))))))
 ·refine zn (zW (.v 0 (.v 1 (.v 2 (.v 3 (.v 4 (.v 5 (.t 6 (.v 7 (.v 8 (.t 9 .nil)))))))))) moOrd (by kernel_rfl) ?_)
  refine rvm rfl rfl (rvm rfl rfl (zq rfl (zac rfl GTok.f1 zdJ rfl (z := y6.1.text)) (zq rfl (zg ty9 rfl) (zq rfl (zp rfl) (zq rfl (z7 rfl zb8 zbE) (zV rfl rfl (zi (y' := (((11 : Int), a_n_.name, a_n_.mark, a_n_.con, (TList.mk t_a_n_4 a_n_.items), (TList.mk t_a_n_5 a_n_.fields), a_n_.root, a_n_.more, a_n_.of) : (Int × Str × GMark × GCon × (TList GItem) × (TList GFld) × Int × Bool × Int))) ty3 rfl rfl hI (.there (.there tI)) rfl (zq rfl (zp rfl) (zq rfl (z7 rfl znB zkc) ?_)))))))))
  refine zV rfl rfl (zi (y' := (((11 : Int), y6.1.text, a_n_.mark, a_n_.con, (TList.mk t_a_n_4 a_n_.items), (TList.mk t_a_n_5 a_n_.fields), a_n_.root, a_n_.more, a_n_.of) : (Int × Str × GMark × GCon × (TList GItem) × (TList GFld) × Int × Bool × Int))) ty9 rfl rfl hI .here rfl (zae (zy (zj (oM rfl (zb h fun y104 hy104 h => oT (zL (zbB hy104) hT (s1 rfl) (.cons tH (.cons tH (.cons tH (.cons tH .nil)))) (fun R H' hR => ?_))))))))
  obtain ⟨t105, t106, rfl, rfl⟩ := hR
  refine zx (zk (zan .nil (.cons .here (.cons .here (.cons .here k4))) ?_))
  cases h
  exact ⟨t105, t106, zJ, t_a_n_4, t_a_n_5, rfl, rfl⟩
 refine zj (oM rfl (oV (zg ty80 rfl) (zb h fun y107 hy107 h => oT (zL (za4 hy107) hT (s3 rfl rfl rfl) k4 (fun R H' hR => ?_)))))
 obtain ⟨t108, t109, rfl, rfl⟩ := hR
 refine zx (zk (zan .nil (.cons .here (.cons .here (.cons .here k4))) ?_))
 cases h
 exact ⟨t108, t109, zJ, t_a_n_4, t_a_n_5, rfl, rfl⟩

theorem zf0 {zak : GPar → GNode → Int → Int → Option (GPar × GNode)} {zas : GPar → Int → Option (Int × GPar)} {zar : GPar → GNode → Int → Option (GPar × GNode)} {zag : GPar → GNode → Int → Option (GPar × GNode)} (zb2 : zb4 zak) (zcq : zbZ zas) (zcJ : zcc zar) (zbD : zbY zag) : ∀ {a_x : GPar} {a_n_ : GNode} {zR : Int} {zG : Nat} {t_a_x1 : Tok} {t_a_x2 : Tok} {zJ : Vt} {zaV : Nat} {t_a_n_4 : Tok} {t_a_n_5 : Tok} {r : GPar × GNode}, zbf zak zas zar zag a_x a_n_ zR = some r → Ctr Tryd.prog 80 [ptrv zG (Fld.id ((List GTok) × Int × (Str × Int × (TList Str) × (TList Int) × Vh) × Int × Int)), ptrv zaV (Fld.id (Int × Str × GMark × GCon × (TList GItem) × (TList GFld) × Int × Bool × Int)), isv (zR)] [boxE zG ((a_x.l, a_x.at_, (a_x.m.name, a_x.m.tagging, (TList.mk t_a_x1 a_x.m.names), (TList.mk t_a_x2 a_x.m.types), (Vh.mk zJ a_x.m.nodes.length)), a_x.e, a_x.p) : ((List GTok) × Int × (Str × Int × (TList Str) × (TList Int) × Vh) × Int × Int)), tokE t_a_x1, tokE t_a_x2, vecE zJ (a_x.m.nodes : List GNode), boxE zaV ((a_n_.kind, a_n_.name, a_n_.mark, a_n_.con, (TList.mk t_a_n_4 a_n_.items), (TList.mk t_a_n_5 a_n_.fields), a_n_.root, a_n_.more, a_n_.of) : (Int × Str × GMark × GCon × (TList GItem) × (TList GFld) × Int × Bool × Int)), tokE t_a_n_4, tokE t_a_n_5] (fun R H => ∃ u1 : Tok, ∃ u2 : Tok, ∃ u3 : Vt, ∃ u4 : Tok, ∃ u5 : Tok, R = oneOf [] ∧ H = [boxE zG ((r.1.l, r.1.at_, (r.1.m.name, r.1.m.tagging, (TList.mk u1 r.1.m.names), (TList.mk u2 r.1.m.types), (Vh.mk u3 r.1.m.nodes.length)), r.1.e, r.1.p)), tokE u1, tokE u2, vecE u3 (r.1.m.nodes), boxE zaV ((r.2.kind, r.2.name, r.2.mark, r.2.con, (TList.mk u4 r.2.items), (TList.mk u5 r.2.fields), r.2.root, r.2.more, r.2.of)), tokE u4, tokE u5]) := by
 intro a_x a_n_ zR zG t_a_x1 t_a_x2 zJ zaV t_a_n_4 t_a_n_5 r h
 unfold zbf at h
 refine zr Tryd.func80 rfl fun w0 S0 hT => zn (wsr (oM rfl (zb h fun y6 hy6 h => oT (zL (zN hy6) hT (s2 rfl rfl) k4 (fun R H' hR => ?_)))))
 obtain ⟨t7, t8, rfl, rfl⟩ := hR
 refine rnf (zf h rfl (fun _ h => ?_) (fun _ h => ?_))
 ·refine zM (zB (zo .nil (.cons .here (.cons .here (.cons .here k4))) ?_))
  cases h
  exact ⟨t7, t8, zJ, t_a_n_4, t_a_n_5, rfl, rfl⟩
 refine wkf (wsr (oA rfl (rnf (zn (zc3 (ι := GPar × GNode) (γ := Tok × Tok × Vt × Tok × Tok) (fun q9 g9 => [(6, anyv)]) (fun q9 g9 => [boxE zG ((q9.1.l, q9.1.at_, (q9.1.m.name, q9.1.m.tagging, (TList.mk g9.1 q9.1.m.names), (TList.mk g9.2.1 q9.1.m.types), (Vh.mk g9.2.2.1 q9.1.m.nodes.length)), q9.1.e, q9.1.p) : ((List GTok) × Int × (Str × Int × (TList Str) × (TList Int) × Vh) × Int × Int)), tokE g9.1, tokE g9.2.1, vecE g9.2.2.1 (q9.1.m.nodes : List GNode), boxE zaV ((q9.2.kind, q9.2.name, q9.2.mark, q9.2.con, (TList.mk g9.2.2.2.1 q9.2.items), (TList.mk g9.2.2.2.2 q9.2.fields), q9.2.root, q9.2.more, q9.2.of) : (Int × Str × GMark × GCon × (TList GItem) × (TList GFld) × Int × Bool × Int)), tokE g9.2.2.2.1, tokE g9.2.2.2.2]) (.cons .here (.cons (.there tI) (.cons .here k4))) h (fun q9 g9 h => ?_) (fun J10 h hJ10 => ?_))))))
 ·refine wsr (oM rfl (zb h fun y114 hy114 h => oT (zL (z8 hy114) hT (s2 rfl rfl) k4 (fun R H' hR => ?_))))
  obtain ⟨t115, t116, rfl, rfl⟩ := hR
  refine rnf (wsr (oM rfl (oV (zp rfl) (oV (z7 rfl zdS zep) (oT (zI (R := isv (q9.2.more)) ty4 rfl (.there (.there tI)) hI (oV (zbG rfl) (rnf (zf h rfl (fun _ h => ?_) (fun _ h => ?_))))))))))
  ·refine zj (oM rfl (oM rfl (oV (zp rfl) (oV (z7 rfl zfe zcX) (oT (zI (R := appv g9.2.2.2.2 (q9.2.fields)) ty52 rfl (.there (.there tI)) isvT1 (oV (za2 (l := q9.2.fields) rfl zK sl52) (oV (zp rfl) (oV (z7 rfl zgm zeZ) ?_)))))))))
   refine oT (zi (y' := ((q9.2.kind, q9.2.name, q9.2.mark, q9.2.con, (TList.mk g9.2.2.2.1 q9.2.items), (TList.mk g9.2.2.2.2 q9.2.fields), (q9.2.fields.length : Int), q9.2.more, q9.2.of) : (Int × Str × GMark × GCon × (TList GItem) × (TList GFld) × Int × Bool × Int))) ty3 rfl rfl hI (.there (.there tI)) rfl (zx (zan .nil (.cons tH (.cons tH (.cons tH (.cons tH k3)))) ?_)))
   cases h
   exact ⟨t115, t116, g9.2.2.1, g9.2.2.2.1, g9.2.2.2.2, rfl, rfl⟩
  refine zY (zan .nil (.cons .here (.cons .here (.cons .here k4))) ?_)
  cases h
  exact ⟨t115, t116, g9.2.2.1, g9.2.2.2.1, g9.2.2.2.2, rfl, rfl⟩
 refine zu (za5 (ι := Int × GPar × GNode) (γ := Tok × Tok × Vt × Tok × Tok) (fun q11 g11 => [(6, isv (q11.1))]) (fun q11 g11 => [boxE zG ((q11.2.1.l, q11.2.1.at_, (q11.2.1.m.name, q11.2.1.m.tagging, (TList.mk g11.1 q11.2.1.m.names), (TList.mk g11.2.1 q11.2.1.m.types), (Vh.mk g11.2.2.1 q11.2.1.m.nodes.length)), q11.2.1.e, q11.2.1.p) : ((List GTok) × Int × (Str × Int × (TList Str) × (TList Int) × Vh) × Int × Int)), tokE g11.1, tokE g11.2.1, vecE g11.2.2.1 (q11.2.1.m.nodes : List GNode), boxE zaV ((q11.2.2.kind, q11.2.2.name, q11.2.2.mark, q11.2.2.con, (TList.mk g11.2.2.2.1 q11.2.2.items), (TList.mk g11.2.2.2.2 q11.2.2.fields), q11.2.2.root, q11.2.2.more, q11.2.2.of) : (Int × Str × GMark × GCon × (TList GItem) × (TList GFld) × Int × Bool × Int)), tokE g11.2.2.2.1, tokE g11.2.2.2.2]) h (t7, t8, zJ, t_a_n_4, t_a_n_5) (za (j := 6) rfl hI zd) (.cons .here (.cons .here (.cons .here k4))) (fun L12 q11 g11 Q113 h hL12 eL12 rL12 => zn (wsr (oM rfl (oV (zp rfl) (oV (z7 rfl zbF zcF) (oT (zI (R := isv (q11.2.1.e)) ty31 rfl .here hI (oV (zal rfl rfl) ?_)))))))))
 refine rnf (zf h rfl (fun _ h => ?_) (fun _ h => ?_))
 ·refine wkf (zu (zn (zc3 (ι := Int × GPar × GNode) (γ := Tok × Tok × Vt × Tok × Tok) (fun q63 g63 => [(6, isv (q63.1))]) (fun q63 g63 => [boxE zG ((q63.2.1.l, q63.2.1.at_, (q63.2.1.m.name, q63.2.1.m.tagging, (TList.mk g63.1 q63.2.1.m.names), (TList.mk g63.2.1 q63.2.1.m.types), (Vh.mk g63.2.2.1 q63.2.1.m.nodes.length)), q63.2.1.e, q63.2.1.p) : ((List GTok) × Int × (Str × Int × (TList Str) × (TList Int) × Vh) × Int × Int)), tokE g63.1, tokE g63.2.1, vecE g63.2.2.1 (q63.2.1.m.nodes : List GNode), boxE zaV ((q63.2.2.kind, q63.2.2.name, q63.2.2.mark, q63.2.2.con, (TList.mk g63.2.2.2.1 q63.2.2.items), (TList.mk g63.2.2.2.2 q63.2.2.fields), q63.2.2.root, q63.2.2.more, q63.2.2.of) : (Int × Str × GMark × GCon × (TList GItem) × (TList GFld) × Int × Bool × Int)), tokE g63.2.2.2.1, tokE g63.2.2.2.2]) (.cons .here (.cons (.there tI) (.cons .here k4))) h (fun q63 g63 h => ?_) (fun J64 h hJ64 => ?_))))
  ·refine wsr (oM rfl (zb h fun y110 hy110 h => oT (zL (zN hy110) hT (s2 rfl rfl) k4 (fun R H' hR => ?_))))
   obtain ⟨t111, t112, rfl, rfl⟩ := hR
   refine oV (zbG rfl) (rnf (zf h rfl (fun _ h => ?_) (fun _ h => ?_)))
   ·exact zad (zf3 rfl (eL12 _ _ (zH (hJ10 _ (t111, t112, g63.2.2.1, g63.2.2.2.1, g63.2.2.2.2) h _ (ze 10 rfl rfl (za (j := 6) rfl (fun _ _ _ => trivial) zd) (.cons .here (.cons .here (.cons .here k4))))))))
   exact zY (zk (hL12 _ (t111, t112, g63.2.2.1, g63.2.2.2.1, g63.2.2.2.2) h _ (ze 10 rfl rfl (za (j := 6) rfl hI zd) (.cons .here (.cons .here (.cons .here k4))))))
  refine zu (wsr (oM rfl (oV (zp rfl) (oV (z7 rfl zdS zep) (oT (zI (R := isv (q11.2.2.more)) ty4 rfl (.there (.there tI)) hI (oV (zbG rfl) (oM rfl (zau (ι := Bool × GPar) (γ := Tok × Tok) (fun q65 g65 => [(27, isv (q65.1))]) (fun q65 g65 => [boxE zG ((q65.2.l, q65.2.at_, (q65.2.m.name, q65.2.m.tagging, (TList.mk g65.1 q65.2.m.names), (TList.mk g65.2 q65.2.m.types), (Vh.mk g11.2.2.1 q65.2.m.nodes.length)), q65.2.e, q65.2.p) : ((List GTok) × Int × (Str × Int × (TList Str) × (TList Int) × Vh) × Int × Int)), tokE g65.1, tokE g65.2, vecE g11.2.2.1 (q65.2.m.nodes : List GNode)]) k4 h 3 rfl (fun q65 g65 h => ?_) (fun J66 h hJ66 => ?_))))))))))
  ·refine oA rfl (rnf (zf h rfl (fun _ h => ?_) (fun _ h => ?_)))
   ·refine zj (oM rfl (oM rfl (oM rfl (oV (zp rfl) (oV (z7 rfl zfe zcX) (oT (zI (R := appv g11.2.2.2.2 (q11.2.2.fields)) ty52 rfl (.there (.there tI)) isvT1 (oV (za2 (l := q11.2.2.fields) rfl zK sl52) (oV (zp rfl) ?_)))))))))
    exact oV (z7 rfl zdS zep) (oT (zi (y' := ((q11.2.2.kind, q11.2.2.name, q11.2.2.mark, q11.2.2.con, (TList.mk g11.2.2.2.1 q11.2.2.items), (TList.mk g11.2.2.2.2 q11.2.2.fields), q11.2.2.root, true, q11.2.2.of) : (Int × Str × GMark × GCon × (TList GItem) × (TList GFld) × Int × Bool × Int))) ty4 rfl rfl hI (.there (.there tI)) rfl (oV (zp rfl) (oV (z7 rfl zgm zeZ) (oT (zi (y' := ((q11.2.2.kind, q11.2.2.name, q11.2.2.mark, q11.2.2.con, (TList.mk g11.2.2.2.1 q11.2.2.items), (TList.mk g11.2.2.2.2 q11.2.2.fields), (q11.2.2.fields.length : Int), true, q11.2.2.of) : (Int × Str × GMark × GCon × (TList GItem) × (TList GFld) × Int × Bool × Int))) ty3 rfl rfl hI .here rfl (zx (zk (hJ64 _ (g65.1, g65.2, g11.2.2.1, g11.2.2.2.1, g11.2.2.2.2) h _ (ze 19 rfl rfl (za (j := 6) rfl hI zd) (.cons tH (.cons tH (.cons tH (.cons tH k3))))))))))))))
   refine wsr (oM rfl (oV (zp rfl) (oV (z7 rfl zdS zep) (oT (zI (R := isv (q11.2.2.more)) ty4 rfl (.there (.there tI)) hI (oM rfl (zau (ι := Bool × GPar) (γ := Tok × Tok) (fun q71 g71 => [(47, isv (q71.1))]) (fun q71 g71 => [boxE zG ((q71.2.l, q71.2.at_, (q71.2.m.name, q71.2.m.tagging, (TList.mk g71.1 q71.2.m.names), (TList.mk g71.2 q71.2.m.types), (Vh.mk g11.2.2.1 q71.2.m.nodes.length)), q71.2.e, q71.2.p) : ((List GTok) × Int × (Str × Int × (TList Str) × (TList Int) × Vh) × Int × Int)), tokE g71.1, tokE g71.2, vecE g11.2.2.1 (q71.2.m.nodes : List GNode)]) k4 h 3 rfl (fun q71 g71 h => ?_) (fun J72 h hJ72 => ?_))))))))
   ·refine oA rfl (rnf (zf h rfl (fun _ h => ?_) (fun _ h => ?_)))
    ·refine wsr (oM rfl (zD h fun q77 h => oV (zaf rfl rfl q77) (oA rfl (rnf (zn (zc3 (ι := GPar × GNode) (γ := Tok × Tok × Vt × Tok × Tok) (fun q78 g78 => []) (fun q78 g78 => [boxE zG ((q78.1.l, q78.1.at_, (q78.1.m.name, q78.1.m.tagging, (TList.mk g78.1 q78.1.m.names), (TList.mk g78.2.1 q78.1.m.types), (Vh.mk g78.2.2.1 q78.1.m.nodes.length)), q78.1.e, q78.1.p) : ((List GTok) × Int × (Str × Int × (TList Str) × (TList Int) × Vh) × Int × Int)), tokE g78.1, tokE g78.2.1, vecE g78.2.2.1 (q78.1.m.nodes : List GNode), boxE zaV ((q78.2.kind, q78.2.name, q78.2.mark, q78.2.con, (TList.mk g78.2.2.2.1 q78.2.items), (TList.mk g78.2.2.2.2 q78.2.fields), q78.2.root, q78.2.more, q78.2.of) : (Int × Str × GMark × GCon × (TList GItem) × (TList GFld) × Int × Bool × Int)), tokE g78.2.2.2.1, tokE g78.2.2.2.2]) (.cons .here (.cons (.there tI) (.cons .here k4))) h (fun q78 g78 h => ?_) (fun J79 h hJ79 => ?_)))))))
     ·refine zj (oM rfl (zb h fun y101 hy101 h => oT (zL (z8 hy101) hT (s2 rfl rfl) k4 (fun R H' hR => ?_))))
      obtain ⟨t102, t103, rfl, rfl⟩ := hR
      exact zx (zk (hJ64 _ (t102, t103, g78.2.2.1, g78.2.2.2.1, g78.2.2.2.2) h _ (ze 20 rfl rfl (za (j := 6) rfl hI zd) (.cons .here (.cons .here (.cons .here k4))))))
     refine zu (za5 (ι := GPar × GNode) (γ := Tok × Tok × Vt × Tok × Tok) (fun q80 g80 => []) (fun q80 g80 => [boxE zG ((q80.1.l, q80.1.at_, (q80.1.m.name, q80.1.m.tagging, (TList.mk g80.1 q80.1.m.names), (TList.mk g80.2.1 q80.1.m.types), (Vh.mk g80.2.2.1 q80.1.m.nodes.length)), q80.1.e, q80.1.p) : ((List GTok) × Int × (Str × Int × (TList Str) × (TList Int) × Vh) × Int × Int)), tokE g80.1, tokE g80.2.1, vecE g80.2.2.1 (q80.1.m.nodes : List GNode), boxE zaV ((q80.2.kind, q80.2.name, q80.2.mark, q80.2.con, (TList.mk g80.2.2.2.1 q80.2.items), (TList.mk g80.2.2.2.2 q80.2.fields), q80.2.root, q80.2.more, q80.2.of) : (Int × Str × GMark × GCon × (TList GItem) × (TList GFld) × Int × Bool × Int)), tokE g80.2.2.2.1, tokE g80.2.2.2.2]) h (g71.1, g71.2, g11.2.2.1, g11.2.2.2.1, g11.2.2.2.2) zd (.cons .here (.cons .here (.cons .here k4))) (fun L81 q80 g80 Q100 h hL81 eL81 rL81 => zn (wsr (oM rfl (oV (zp rfl) (oV (z7 rfl zbF zcF) (oT (zI (R := isv (q80.1.e)) ty31 rfl .here hI (oV (zal rfl rfl) ?_)))))))))
     refine rnf (zf h rfl (fun _ h => ?_) (fun _ h => ?_))
     ·refine wkf (zu (wsr (oM rfl (oM rfl (oM rfl (oM rfl (zb h fun y91 hy91 h => oT (zL (zb2 hy91) hT (s4 rfl rfl rfl rfl) (.cons .here (.cons .here (.cons .here k4))) (fun R H' hR => ?_)))))))))
      obtain ⟨t92, t93, v94, t95, t96, rfl, rfl⟩ := hR
      refine rnf (wsr (oM rfl (zb h fun y97 hy97 h => oT (zL (zN hy97) hT (s2 rfl rfl) k4 (fun R H' hR => ?_)))))
      obtain ⟨t98, t99, rfl, rfl⟩ := hR
      refine oV (zbG rfl) (rnf (zf h rfl (fun _ h => ?_) (fun _ h => ?_)))
      ·exact zad (zf3 rfl (eL81 _ _ (zH (hJ79 _ (t98, t99, v94, t95, t96) h _ (ze 13 rfl rfl zd (.cons .here (.cons .here (.cons .here k4))))))))
      exact zY (zk (hL81 _ (t98, t99, v94, t95, t96) h _ (ze 13 rfl rfl zd (.cons .here (.cons .here (.cons .here k4))))))
     exact zad (zU (eL81 _ _ (zH (hJ79 _ (g80.1, g80.2.1, g80.2.2.1, g80.2.2.2.1, g80.2.2.2.2) h _ (ze 5 rfl rfl zd (.cons .here (.cons .here (.cons .here k4))))))))
    refine zj (oM rfl (oM rfl (oM rfl (zb h fun y104 hy104 h => oT (zL (zb2 hy104) hT (s4 rfl rfl rfl rfl) (.cons .here (.cons .here (.cons .here k4))) (fun R H' hR => ?_))))))
    obtain ⟨t105, t106, v107, t108, t109, rfl, rfl⟩ := hR
    exact zx (zk (hJ64 _ (t105, t106, v107, t108, t109) h _ (ze 19 rfl rfl (za (j := 6) rfl hI zd) (.cons .here (.cons .here (.cons .here k4))))))
   refine zC (j := 44) h rfl (fun g73 h => ?_) (fun g73 h => ?_)
   ·refine oK 44 rfl rfl rfl g73 (zw rfl) (zb h fun y74 hy74 h => zat rfl rfl (dj := 44) rfl g73 (zL (zN hy74) hT (s2 rfl rfl) k4 (fun R H' hR => ?_)))
    obtain ⟨t75, t76, rfl, rfl⟩ := hR
    exact oV (zs rfl g73 rfl) (hJ72 _ (t75, t76) h _ (ze 3 rfl rfl (za (j := 47) rfl hI zd) (.cons .here (.cons .here (.cons .here k4)))))
   exact oP 44 rfl rfl g73 (oP 44 rfl rfl g73 (oV (zt rfl g73 rfl) (hJ72 _ (g65.1, g65.2) h _ (ze 3 rfl rfl (za (j := 47) rfl hI zd) (.cons .here (.cons .here (.cons .here k4)))))))
  refine zC (j := 24) h rfl (fun g67 h => ?_) (fun g67 h => ?_)
  ·refine oK 24 rfl rfl rfl g67 (zw rfl) (zb h fun y68 hy68 h => zat rfl rfl (dj := 24) rfl g67 (zL (zN hy68) hT (s2 rfl rfl) k4 (fun R H' hR => ?_)))
   obtain ⟨t69, t70, rfl, rfl⟩ := hR
   exact oV (zs rfl g67 rfl) (hJ66 _ (t69, t70) h _ (ze 3 rfl rfl (za (j := 27) rfl hI zd) (.cons .here (.cons .here (.cons .here k4)))))
  exact oP 24 rfl rfl g67 (oP 24 rfl rfl g67 (oV (zt rfl g67 rfl) (hJ66 _ (g11.1, g11.2.1) h _ (ze 3 rfl rfl (za (j := 27) rfl hI zd) (.cons .here (.cons .here (.cons .here k4)))))))
 exact zad (zU (eL12 _ _ (zH (hJ10 _ (g11.1, g11.2.1, g11.2.2.1, g11.2.2.2.1, g11.2.2.2.2) h _ (ze 6 rfl rfl (za (j := 6) rfl (fun _ _ _ => trivial) zd) (.cons .here (.cons .here (.cons .here k4))))))))

theorem zdz : ∀ n, zb4 (zaB n) ∧ zbZ (zaz n) ∧ zcc (zaM n) ∧ zbY (zaC n)
 | 0 => ⟨fun h => (by cases h), fun h => (by cases h), fun h => (by cases h), fun h => (by cases h)⟩
 | n + 1 => by
  obtain ⟨h0, h1, h2, h3⟩ := zdz n
  exact ⟨zgJ h0 h1 h2 h3, zg8 h0 h1 h2 h3, zg1 h0 h1 h2 h3, zf0 h0 h1 h2 h3⟩
theorem zhI (n : Nat) : zbZ (zaz n) := (zdz n).2.1
theorem zkP : ∀ {zbe : Str} {r : GMod × Int × Int}, zcn zbe = some r → Ctr Tryd.prog 9 [isv (zbe)] [] (fun R H => R = oneOf [isv (r.1), isv (r.2.1), isv (r.2.2)] ∧ H = []) := by
 intro zbe r h
 unfold zcn at h
 refine zr Tryd.func9 rfl fun w0 S0 hT => wsr (oT (zab _ ze30 fun b1 => oA rfl (oA rfl (rnf (wsr (oM rfl (zb h fun y2 hy2 h => ?_)))))))
 refine oT (zz (zkk hy2) hT (s1 rfl) .nil (oM rfl (oV (zav rfl rfl) (oV (zav rfl rfl) (oV (zav rfl rfl) (oA rfl (oA rfl (oA rfl (rnf ?_)))))))))
 refine zn (wsr (oM rfl (oV (zb0 rfl rfl) (rnf (zf h rfl (fun _ h => ?_) (fun _ h => ?_))))))
 ·refine wsr (oV (zaw (z := (GMod.mk (Str.mk []) (0 : Int) ([] : (List Str)) ([] : (List Int)) ([] : (List GNode)))) rfl bu30 ze30 .nil) (oM rfl (oM rfl (oT (zi (y' := ((GMod.mk (Str.mk []) (0 : Int) ([] : (List Str)) ([] : (List Int)) ([] : (List GNode))) : GMod)) ty30 rfl rfl hI .here rfl (oA rfl (oA rfl (rnf (zM ?_)))))))))
  refine zB ?_
  cases h
  exact zo (.cell rfl .here ty30 (.tmp rfl (.tmp rfl .nil))) .nil ⟨rfl, rfl⟩
 refine wkf (wsr (oM rfl (oV (zaw (z := ((y2.1, (0 : Int), ((Str.mk []), (0 : Int), (TList.mk none ([] : (List Str))), (TList.mk none ([] : (List Int))), (Vh.mk none 0)), (0 : Int), (0 : Int)) : ((List GTok) × Int × (Str × Int × (TList Str) × (TList Int) × Vh) × Int × Int))) rfl bu75 zqh (.cons zhe zki rfl hI .nil)) (oT (zko (y := ((y2.1, (0 : Int), ((Str.mk []), (0 : Int), (TList.mk none ([] : (List Str))), (TList.mk none ([] : (List Int))), (Vh.mk none 0)), (0 : Int), (0 : Int)) : ((List GTok) × Int × (Str × Int × (TList Str) × (TList Int) × Vh) × Int × Int))) rfl hI fun b3 => zX (zaQ) (zX (zaQ) (zX (ze5 (α := GNode)) (oA rfl ?_))))))))
 refine rnf (wsr (oM rfl (oM rfl (zb h fun y7 hy7 h => oT (zL (zca hy7) hT (s2 rfl rfl) (.cons (.there tI) (.cons tI (.cons tH k1))) (fun R H' hR => ?_))))))
 obtain ⟨t8, t9, rfl, rfl⟩ := hR
 refine oV (zp rfl) (oV (z7 rfl zcg zdM) (oV (z7 rfl znW znH) (oT (zi (y' := ((y7.2.l, y7.2.at_, (y7.1, y7.2.m.tagging, (TList.mk t8 y7.2.m.names), (TList.mk t9 y7.2.m.types), (Vh.mk none y7.2.m.nodes.length)), y7.2.e, y7.2.p) : ((List GTok) × Int × (Str × Int × (TList Str) × (TList Int) × Vh) × Int × Int))) ty9 rfl rfl hI .here rfl (rnf (wsr (oM rfl (zb h fun y10 hy10 h => oT (zL (z8 hy10) hT (s2 rfl rfl) k4 (fun R H' hR => ?_))))))))))
 obtain ⟨t11, t12, rfl, rfl⟩ := hR
 refine rnf (zn (zc3 (ι := GPar) (γ := Tok × Tok) (fun q13 g13 => []) (fun q13 g13 => [boxE b3 ((q13.l, q13.at_, (q13.m.name, q13.m.tagging, (TList.mk g13.1 q13.m.names), (TList.mk g13.2 q13.m.types), (Vh.mk none q13.m.nodes.length)), q13.e, q13.p) : ((List GTok) × Int × (Str × Int × (TList Str) × (TList Int) × Vh) × Int × Int)), tokE g13.1, tokE g13.2, vecE none (q13.m.nodes : List GNode)]) k4 h (fun q13 g13 h => ?_) (fun J14 h hJ14 => ?_)))
 ·refine wsr (oM rfl (zb h fun y33 hy33 h => oT (zL (z8 hy33) hT (s2 rfl rfl) k4 (fun R H' hR => ?_))))
  obtain ⟨t34, t35, rfl, rfl⟩ := hR
  refine rnf (wsr (oM rfl (zb h fun y36 hy36 h => oT (zL (z8 hy36) hT (s2 rfl rfl) k4 (fun R H' hR => ?_)))))
  obtain ⟨t37, t38, rfl, rfl⟩ := hR
  refine rnf (zn (zu (za5 (ι := GPar) (γ := Tok × Tok × Vt) (fun q39 g39 => []) (fun q39 g39 => [boxE b3 ((q39.l, q39.at_, (q39.m.name, q39.m.tagging, (TList.mk g39.1 q39.m.names), (TList.mk g39.2.1 q39.m.types), (Vh.mk g39.2.2 q39.m.nodes.length)), q39.e, q39.p) : ((List GTok) × Int × (Str × Int × (TList Str) × (TList Int) × Vh) × Int × Int)), tokE g39.1, tokE g39.2.1, vecE g39.2.2 (q39.m.nodes : List GNode)]) h (t37, t38, none) zd k4 (fun L40 q39 g39 Q141 h hL40 eL40 rL40 => zn (wsr (oM rfl (oV (zp rfl) (oV (z7 rfl zbF zcF) ?_))))))))
  refine oT (zI (R := isv (q39.e)) ty31 rfl .here hI (oV (zal rfl rfl) (oM rfl (zau (ι := Bool × GPar) (γ := Tok × Tok) (fun q91 g91 => [(70, isv (q91.1))]) (fun q91 g91 => [boxE b3 ((q91.2.l, q91.2.at_, (q91.2.m.name, q91.2.m.tagging, (TList.mk g91.1 q91.2.m.names), (TList.mk g91.2 q91.2.m.types), (Vh.mk g39.2.2 q91.2.m.nodes.length)), q91.2.e, q91.2.p) : ((List GTok) × Int × (Str × Int × (TList Str) × (TList Int) × Vh) × Int × Int)), tokE g91.1, tokE g91.2, vecE g39.2.2 (q91.2.m.nodes : List GNode)]) k4 h 4 rfl (fun q91 g91 h => ?_) (fun J92 h hJ92 => ?_)))))
  ·refine rnf (zf h rfl (fun _ h => ?_) (fun _ h => ?_))
   ·refine wkf (zu (wsr (oM rfl (zb h fun y97 hy97 h => oT (zL (zaL hy97) hT (s1 rfl) k4 (fun R H' hR => ?_))))))
    obtain ⟨t98, t99, rfl, rfl⟩ := hR
    refine oT (zab _ ze80 fun b100 => oT (zi (y' := (y97.1 : GTok)) ty80 rfl rfl hI .here rfl (zX (zaq 9 .here rfl) (rnf (wsr (oM rfl (zb h fun y101 hy101 h => oT (zL (zca hy101) hT (s2 rfl rfl) k4 (fun R H' hR => ?_)))))))))
    obtain ⟨t102, t103, rfl, rfl⟩ := hR
    refine oA rfl (rnf (zn (wsr (oM rfl (oV (zp rfl) (oV (z7 rfl zbF zcF) (oT (zI (R := isv (y101.2.e)) ty31 rfl .here hI (oV (zal rfl rfl) ?_)))))))))
    refine oM rfl (zau (jb 88) je .nil h 8 rfl (fun q104 g104 h => ?_) (fun J105 h hJ105 => ?_))
    ·refine rnf (zc3 (ι := GPar) (γ := Tok × Tok) (fun q107 g107 => []) (fun q107 g107 => [boxE b3 ((q107.l, q107.at_, (q107.m.name, q107.m.tagging, (TList.mk g107.1 q107.m.names), (TList.mk g107.2 q107.m.types), (Vh.mk g39.2.2 q107.m.nodes.length)), q107.e, q107.p) : ((List GTok) × Int × (Str × Int × (TList Str) × (TList Int) × Vh) × Int × Int)), tokE g107.1, tokE g107.2, vecE g39.2.2 (q107.m.nodes : List GNode)]) k4 h (fun q107 g107 h => ?_) (fun J108 h hJ108 => ?_))
     ·refine wsr (oM rfl (zb h fun y112 hy112 h => oT (zL (z8 hy112) hT (s2 rfl rfl) k4 (fun R H' hR => ?_))))
      obtain ⟨t113, t114, rfl, rfl⟩ := hR
      refine rnf (wsr (oM rfl (zb h fun y115 hy115 h => oT (zL (zhI fuel hy115) hT (s2 rfl rfl) k4 (fun R H' hR => ?_)))))
      obtain ⟨t116, t117, v118, rfl, rfl⟩ := hR
      refine oA rfl (rnf (wsr (oM rfl (oM rfl (oV (zp rfl) (oV (z7 rfl zcg zdM) (oV (z7 rfl ziQ zdD) (oT (zI (R := appv t116 (y115.2.m.names)) ty27 rfl .here isvT1 ?_)))))))))
      refine oM rfl (oT (zQ (l := ([y101.1] : (List Str))) el27 (.cons rfl hI .nil) rfl rfl (zZ h fun q121 h => oT (zbk (l := y115.2.m.names) (m := ([y101.1] : (List Str))) zkC rfl hI rfl zK tH q121 fun t120 => oV (zp rfl) (oV (z7 rfl zcg zdM) (oV (z7 rfl ziQ zdD) (oT (zi (y' := ((y115.2.l, y115.2.at_, (y115.2.m.name, y115.2.m.tagging, (TList.mk t120 (y115.2.m.names ++ ([y101.1] : (List Str)))), (TList.mk t117 y115.2.m.types), (Vh.mk v118 y115.2.m.nodes.length)), y115.2.e, y115.2.p) : ((List GTok) × Int × (Str × Int × (TList Str) × (TList Int) × Vh) × Int × Int))) ty27 rfl rfl isvT2 tH rfl (rnf ?_)))))))))
      refine zj (oM rfl (oM rfl (oV (zp rfl) (oV (z7 rfl zcg zdM) (oV (z7 rfl zlj zi0) (oT (zI (R := appv t117 (y115.2.m.types)) ty22 rfl .here isvT1 (oM rfl (oT (zQ (l := ([y115.1] : (List Int))) el22 (.cons rfl hI .nil) rfl rfl ?_))))))))))
      exact zZ h fun q124 h => oT (zbk (l := y115.2.m.types) (m := ([y115.1] : (List Int))) zcW rfl hI rfl zK tI q124 fun t123 => oV (zp rfl) (oV (z7 rfl zcg zdM) (oV (z7 rfl zlj zi0) (oT (zi (y' := ((y115.2.l, y115.2.at_, (y115.2.m.name, y115.2.m.tagging, (TList.mk t120 (y115.2.m.names ++ ([y101.1] : (List Str)))), (TList.mk t123 (y115.2.m.types ++ ([y115.1] : (List Int)))), (Vh.mk v118 y115.2.m.nodes.length)), y115.2.e, y115.2.p) : ((List GTok) × Int × (Str × Int × (TList Str) × (TList Int) × Vh) × Int × Int))) ty22 rfl rfl isvT2 tH rfl (zx (zk (hL40 _ (t120, t123, v118) h _ (ze 50 rfl rfl zd (.cons .here (.cons tH k3)))))))))))
     refine zf h rfl (fun _ h => ?_) (fun _ h => ?_)
     ·refine zj (oM rfl (oV (zg ty80 rfl) (zb h fun y109 hy109 h => oT (zL (za4 hy109) hT (s3 rfl rfl rfl) k4 (fun R H' hR => ?_)))))
      obtain ⟨t110, t111, rfl, rfl⟩ := hR
      exact zx (hJ108 _ (t110, t111) h _ (ze 3 rfl rfl zd (.cons .here k4)))
     exact zY (hJ108 _ (t102, t103) h _ (ze 0 rfl rfl zd (.cons .here k4)))
    refine zC (j := 80) h rfl (fun g106 h => ?_) (fun g106 h => ?_)
    ·exact oK 80 rfl rfl rfl g106 (zw rfl) (oK 80 rfl rfl rfl g106 (zp rfl) (oK 80 rfl rfl rfl g106 (z7 rfl zcg zdM) (oK 80 rfl rfl rfl g106 (z7 rfl ziQ zdD) (zat rfl rfl (dj := 80) rfl g106 (zI (R := appv t102 (y101.2.m.names)) ty27 rfl .here isvT1 (oK 80 rfl rfl rfl g106 (za2 (l := y101.2.m.names) rfl zK sl27) (oK 80 rfl rfl rfl g106 (ze4 rfl rfl) (oV (zs rfl g106 rfl) (hJ105 _ () h _ (ze 8 rfl rfl (za (j := 88) rfl hI zd) (.cons .here k4)))))))))))
    exact oP 80 rfl rfl g106 (oP 80 rfl rfl g106 (oP 80 rfl rfl g106 (oP 80 rfl rfl g106 (oP 80 rfl rfl g106 (oP 80 rfl rfl g106 (oP 80 rfl rfl g106 (oV (zt rfl g106 rfl) (hJ105 _ () h _ (ze 8 rfl rfl (za (j := 88) rfl hI zd) (.cons .here k4))))))))))
   refine zad (zU (eL40 _ _ (zH (zy (zn (wsr (oM rfl (oV (zp rfl) ?_))))))))
   refine oV (z7 rfl zbF zcF) (oT (zI (R := isv (q91.2.e)) ty31 rfl .here hI (oV (zal rfl rfl) (oM rfl (zau (ι := Bool × GPar) (γ := Tok × Tok) (fun q125 g125 => [(130, isv (q125.1))]) (fun q125 g125 => [boxE b3 ((q125.2.l, q125.2.at_, (q125.2.m.name, q125.2.m.tagging, (TList.mk g125.1 q125.2.m.names), (TList.mk g125.2 q125.2.m.types), (Vh.mk g39.2.2 q125.2.m.nodes.length)), q125.2.e, q125.2.p) : ((List GTok) × Int × (Str × Int × (TList Str) × (TList Int) × Vh) × Int × Int)), tokE g125.1, tokE g125.2, vecE g39.2.2 (q125.2.m.nodes : List GNode)]) k4 h 5 rfl (fun q125 g125 h => ?_) (fun J126 h hJ126 => ?_))))))
   ·refine rnf (zc3 (ι := GPar) (γ := Tok × Tok) (fun q131 g131 => []) (fun q131 g131 => [boxE b3 ((q131.l, q131.at_, (q131.m.name, q131.m.tagging, (TList.mk g131.1 q131.m.names), (TList.mk g131.2 q131.m.types), (Vh.mk g39.2.2 q131.m.nodes.length)), q131.e, q131.p) : ((List GTok) × Int × (Str × Int × (TList Str) × (TList Int) × Vh) × Int × Int)), tokE g131.1, tokE g131.2, vecE g39.2.2 (q131.m.nodes : List GNode)]) k4 h (fun q131 g131 h => ?_) (fun J132 h hJ132 => ?_))
    ·refine zn (wsr (oM rfl (oV (zp rfl) (oV (z7 rfl zbF zcF) (oT (zI (R := isv (q131.e)) ty31 rfl .here hI (oV (zb0 rfl rfl) (rnf (zf h rfl (fun _ h => ?_) (fun _ h => ?_))))))))))
     ·refine zn (zcG 8 .here rfl (fun o139 hn140 => zW (.v 0 (.v 1 (.v 2 (.v 3 (.v 4 (.v 5 (.v 6 (.v 7 (.v 8 (.t 9 (.v 10 (.v 11 .nil)))))))))))) moOrd (by kernel_rfl) ?_))
      refine zq rfl (zaw (z := (GMod.mk (Str.mk []) (0 : Int) ([] : (List Str)) ([] : (List Int)) ([] : (List GNode)))) rfl bu30 ze30 .nil) (rvm rfl rfl (zq rfl (zbr rfl) (zq rfl (zft rfl zk1 zn6) (zq rfl (zcL (R := isv (q131.p)) ty3 rfl (List.Mem.head _) hI) (rvm rfl rfl (zq rfl (zbr rfl) (zq rfl (zft rfl zbF zcF) (zq rfl (zcL (R := isv (q131.e)) ty31 rfl (List.Mem.head _) hI) ?_))))))))
      refine zV rfl rfl (zi (y' := ((GMod.mk (Str.mk []) (0 : Int) ([] : (List Str)) ([] : (List Int)) ([] : (List GNode))) : GMod)) ty30 rfl rfl hI (.there tI) rfl (zq rfl (za1 rfl) (zq rfl (za1 rfl) (zae (zaN 8 hn140 rfl (zy (zM (zB ?_))))))))
      cases h
      exact zo (.cell rfl tH ty30 (.tmp rfl (.tmp rfl .nil))) .nil ⟨rfl, rfl⟩
     refine wkf (wsr (oM rfl (oV (zp rfl) (oV (z7 rfl zcg zdM) (zX (zoi (y := ((q131.l, q131.at_, (q131.m.name, q131.m.tagging, (TList.mk g131.1 q131.m.names), (TList.mk g131.2 q131.m.types), q131.m.nodes), q131.e, q131.p) : ((List GTok) × Int × (Str × Int × (TList Str) × (TList Int) × (List GNode)) × Int × Int))) (.there tI) .here (fun S hv => (Cv.pair Cv.id (Cv.pair Cv.id (Cv.pair (Cv.pair Cv.id (Cv.pair Cv.id (Cv.pair Cv.id (Cv.pair Cv.id (Cv.vh hv (by first | rfl | simp)))))) (Cv.pair Cv.id Cv.id)))))) ?_)))))
     refine zX (zai (R' := ptrv b3 ((Fld.id (((List GTok) × Int × (Str × Int × (TList Str) × (TList Int) × (List GNode)) × Int × Int))).comp zoF)) 151 rfl hI) (oT (zI (y := ((q131.l, q131.at_, (q131.m.name, q131.m.tagging, (TList.mk g131.1 q131.m.names), (TList.mk g131.2 q131.m.types), q131.m.nodes), q131.e, q131.p) : ((List GTok) × Int × (Str × Int × (TList Str) × (TList Int) × (List GNode)) × Int × Int))) (R := isv (((q131.m.name, q131.m.tagging, (TList.mk g131.1 q131.m.names), (TList.mk g131.2 q131.m.types), q131.m.nodes)) : ((Str × Int × (TList Str) × (TList Int) × (List GNode))))) ty30 rfl .here (by exact hI) ?_))
     refine zX (zai (R' := isv (q131.m)) 152 rfl (Cv.isv rfl fun S => (fun cs h => GMod.cv (x := q131.m) cs (((Cv.pair Cv.id (Cv.pair Cv.id (Cv.pair Cv.tl (Cv.pair Cv.tl Cv.id)))) : Cv S ((q131.m.name, q131.m.tagging, (TList.mk g131.1 q131.m.names), (TList.mk g131.2 q131.m.types), q131.m.nodes) : (Str × Int × (TList Str) × (TList Int) × (List GNode))) (GMod.to q131.m)) cs h)))) (oT (zi (y' := (q131.m : GMod)) ty30 rfl rfl hI (.there tI) rfl (oA rfl (oA rfl (rnf (zM ?_))))))
     cases h
     exact zo (.cell rfl .here ty30 (.tmp rfl (.tmp rfl .nil))) .nil ⟨rfl, rfl⟩
    refine zf h rfl (fun _ h => ?_) (fun _ h => ?_)
    ·refine zj (oM rfl (oM rfl (zb h fun y133 hy133 h => oT (zL (zaL hy133) hT (s1 rfl) k4 (fun R H' hR => ?_)))))
     obtain ⟨t134, t135, rfl, rfl⟩ := hR
     refine zb h fun y136 hy136 h => oT (zL (za4 hy136) hT (s3 rfl rfl rfl) k4 (fun R H' hR => ?_))
     obtain ⟨t137, t138, rfl, rfl⟩ := hR
     exact zx (hJ132 _ (t137, t138) h _ (ze 4 rfl rfl zd (.cons .here k4)))
    exact zY (hJ132 _ (g125.1, g125.2) h _ (ze 0 rfl rfl zd (.cons .here k4)))
   refine zC (j := 125) h rfl (fun g127 h => ?_) (fun g127 h => ?_)
   ·refine oK 125 rfl rfl rfl g127 (zw rfl) (zb h fun y128 hy128 h => zat rfl rfl (dj := 125) rfl g127 (zL (zaL hy128) hT (s1 rfl) k4 (fun R H' hR => ?_)))
    obtain ⟨t129, t130, rfl, rfl⟩ := hR
    exact oK 125 rfl rfl rfl g127 (zgv GTok.f0 rfl zcz rfl) (oK 125 rfl rfl rfl g127 (zb0 rfl rfl) (oV (zs rfl g127 rfl) (hJ126 _ (t129, t130) h _ (ze 5 rfl rfl (za (j := 130) rfl hI zd) (.cons .here k4)))))
   exact oP 125 rfl rfl g127 (oP 125 rfl rfl g127 (oP 125 rfl rfl g127 (oP 125 rfl rfl g127 (oV (zt rfl g127 rfl) (hJ126 _ (g91.1, g91.2) h _ (ze 5 rfl rfl (za (j := 130) rfl hI zd) (.cons .here k4)))))))
  refine zC (j := 66) h rfl (fun g93 h => ?_) (fun g93 h => ?_)
  ·refine oK 66 rfl rfl rfl g93 (zw rfl) (zb h fun y94 hy94 h => zat rfl rfl (dj := 66) rfl g93 (zL (zN hy94) hT (s2 rfl rfl) k4 (fun R H' hR => ?_)))
   obtain ⟨t95, t96, rfl, rfl⟩ := hR
   exact oK 66 rfl rfl rfl g93 (zbG rfl) (oV (zs rfl g93 rfl) (hJ92 _ (t95, t96) h _ (ze 4 rfl rfl (za (j := 70) rfl hI zd) (.cons .here k4))))
  exact oP 66 rfl rfl g93 (oP 66 rfl rfl g93 (oP 66 rfl rfl g93 (oV (zt rfl g93 rfl) (hJ92 _ (g39.1, g39.2.1) h _ (ze 4 rfl rfl (za (j := 70) rfl hI zd) (.cons .here k4))))))
 refine zu (wsr (oM rfl (zb h fun y15 hy15 h => oT (zL (zN hy15) hT (s2 rfl rfl) k4 (fun R H' hR => ?_)))))
 obtain ⟨t16, t17, rfl, rfl⟩ := hR
 refine oA rfl (rnf (zf h rfl (fun _ h => ?_) (fun _ h => ?_)))
 ·refine zj (oM rfl (zb h fun y18 hy18 h => oT (zL (z8 hy18) hT (s2 rfl rfl) k4 (fun R H' hR => ?_))))
  obtain ⟨t19, t20, rfl, rfl⟩ := hR
  exact zx (zk (hJ14 _ (t19, t20) h _ (ze 5 rfl rfl zd (.cons .here k4))))
 refine wsr (oM rfl (zb h fun y21 hy21 h => oT (zL (zN hy21) hT (s2 rfl rfl) k4 (fun R H' hR => ?_))))
 obtain ⟨t22, t23, rfl, rfl⟩ := hR
 refine oA rfl (rnf (zf h rfl (fun _ h => ?_) (fun _ h => ?_)))
 ·refine wsr (oM rfl (oV (zp rfl) (oV (z7 rfl zcg zdM) (oV (z7 rfl zlw zkD) (oT (zi (y' := ((y21.2.l, y21.2.at_, (y21.2.m.name, (1 : Int), (TList.mk t22 y21.2.m.names), (TList.mk t23 y21.2.m.types), (Vh.mk none y21.2.m.nodes.length)), y21.2.e, y21.2.p) : ((List GTok) × Int × (Str × Int × (TList Str) × (TList Int) × Vh) × Int × Int))) ty3 rfl rfl hI .here rfl (rnf (zj (oM rfl ?_)))))))))
  refine zb h fun y24 hy24 h => oT (zL (z8 hy24) hT (s2 rfl rfl) k4 (fun R H' hR => ?_))
  obtain ⟨t25, t26, rfl, rfl⟩ := hR
  exact zx (zk (hJ14 _ (t25, t26) h _ (ze 12 rfl rfl zd (.cons .here k4))))
 refine wsr (oM rfl (zb h fun y27 hy27 h => oT (zL (zN hy27) hT (s2 rfl rfl) k4 (fun R H' hR => ?_))))
 obtain ⟨t28, t29, rfl, rfl⟩ := hR
 refine oA rfl (rnf (zf h rfl (fun _ h => ?_) (fun _ h => ?_)))
 ·refine wsr (oM rfl (oV (zp rfl) (oV (z7 rfl zcg zdM) (oV (z7 rfl zlw zkD) (oT (zi (y' := ((y27.2.l, y27.2.at_, (y27.2.m.name, (2 : Int), (TList.mk t28 y27.2.m.names), (TList.mk t29 y27.2.m.types), (Vh.mk none y27.2.m.nodes.length)), y27.2.e, y27.2.p) : ((List GTok) × Int × (Str × Int × (TList Str) × (TList Int) × Vh) × Int × Int))) ty3 rfl rfl hI .here rfl (rnf (zj (oM rfl ?_)))))))))
  refine zb h fun y30 hy30 h => oT (zL (z8 hy30) hT (s2 rfl rfl) k4 (fun R H' hR => ?_))
  obtain ⟨t31, t32, rfl, rfl⟩ := hR
  exact zx (zk (hJ14 _ (t31, t32) h _ (ze 15 rfl rfl zd (.cons .here k4))))
 exact zY (zk (hJ14 _ (t28, t29) h _ (ze 9 rfl rfl zd (.cons .here k4))))

end Go.Proofs.Q


namespace Go.Proofs.Q
open Go.Sy
set_option maxRecDepth 4000
theorem zfL : ∀ {a_m : GMod} {zit : Str} {r : Int}, zfi a_m zit = some r → Ctr Tryd.prog 89 [isv (a_m), isv (zit)] [] (fun R H => R = oneOf [isv (r)] ∧ H = []) := by
 intro a_m zit r h
 unfold zfi at h
 refine zr Tryd.func89 rfl fun w0 S0 hT => wsr (oT (zbA (y := a_m) rfl hI (oA rfl (rnf (zn (wsr (oA rfl (rnf ?_))))))))
 refine zu (za5 (ι := Int) (γ := Unit) (fun q1 g1 => [(5, isv (q1))]) (fun q1 g1 => []) h () (za (j := 5) rfl hI zd) .nil (fun L2 q1 g1 Q7 h hL2 eL2 rL2 => zn (wsr (oM rfl (oV (zac rfl GMod.f2 zdD rfl (z := a_m.names)) (oV (zg ty27 rfl) (oV (za2 (l := a_m.names) rfl hI sl27) (oV (zaj rfl rfl) ?_))))))))
 refine rnf (zf h rfl (fun _ h => ?_) (fun _ h => ?_))
 ·refine wkf (zn (zu (wsr (oV (zac rfl GMod.f2 zdD rfl (z := a_m.names)) (oV (zg ty27 rfl) (oM rfl (zb h fun y5 hy5 h => oV (zaG (l := a_m.names) rfl hI rfl sl27 hy5) ?_)))))))
  refine oV (zg ty9 rfl) (oM rfl (oV (zco eq9 rfl rfl) (rnf (zf h rfl (fun _ h => ?_) (fun _ h => ?_)))))
  ·refine wsr (oM rfl (oA rfl (rnf (zM (zE (zB (rL2 _ (zE ?_))))))))
   refine zB ?_
   cases h
   exact zo (.tmp rfl .nil) .nil ⟨rfl, rfl⟩
  refine zY (zk (zy (zj (oM rfl (zD h fun q6 h => oV (zaf rfl rfl q6) (oA rfl (zx ?_)))))))
  exact hL2 _ () h _ (ji 16 5 rfl rfl rfl)
 refine zad (zU (eL2 _ _ (zH (zy (wsr (oA rfl (rnf (zM ?_))))))))
 cases h
 exact zo (.tmp rfl .nil) .nil ⟨rfl, rfl⟩


theorem zfR : ∀ {a_l : (List Int)} {a_x : Int} {r : Bool}, zd7 a_l a_x = some r → Ctr Tryd.prog 12 [isv (a_l), isv (a_x)] [] (fun R H => R = oneOf [isv (r)] ∧ H = []) := by
 intro a_l a_x r h
 unfold zd7 at h
 refine zr Tryd.func12 rfl fun w0 S0 hT => wsr (oA rfl (rnf (zn (wsr (oA rfl (rnf (zu ?_)))))))
 refine za5 (ι := Int) (γ := Unit) (fun q1 g1 => [(5, isv (q1))]) (fun q1 g1 => []) h () (za (j := 5) rfl hI zd) .nil (fun L2 q1 g1 Q7 h hL2 eL2 rL2 => zn (wsr (oM rfl (oM rfl (oV (za2 (l := a_l) rfl hI sl22) (oV (zaj rfl rfl) (rnf (zf h rfl (fun _ h => ?_) (fun _ h => ?_)))))))))
 ·refine wkf (zn (zu (wsr (oM rfl (oM rfl (zb h fun y5 hy5 h => oV (zaG (l := a_l) rfl hI rfl sl22 hy5) (oV (zg ty3 rfl) ?_)))))))
  refine oM rfl (oV (zal rfl rfl) (rnf (zf h rfl (fun _ h => ?_) (fun _ h => ?_))))
  ·refine wsr (oA rfl (rnf (zM (zE (zB (rL2 _ (zE (zB ?_))))))))
   cases h
   exact zo (.tmp rfl .nil) .nil ⟨rfl, rfl⟩
  refine zY (zk (zy (zj (oM rfl (zD h fun q6 h => oV (zaf rfl rfl q6) (oA rfl (zx ?_)))))))
  exact hL2 _ () h _ (ji 14 5 rfl rfl rfl)
 refine zad (zU (eL2 _ _ (zH (zy (wsr (oA rfl (rnf (zM ?_))))))))
 cases h
 exact zo (.tmp rfl .nil) .nil ⟨rfl, rfl⟩


def zgY (f' : GMod → Int → Int → (List Int) → Option ((List Int) × Bool)) : Prop :=
 ∀ {a_m : GMod} {ze6 : Int} {zR : Int} {a_l : (List Int)} {t_a_l : Tok} {r : (List Int) × Bool}, f' a_m ze6 zR a_l = some r → Ctr Tryd.prog 87 [isv (a_m), isv (ze6), isv (zR), appv t_a_l (a_l)] [tokE t_a_l] (fun R H => ∃ u1 : Tok, R = oneOf [appv u1 (r.1), isv (r.2)] ∧ H = [tokE u1])
theorem zk0 {zfc : GMod → Int → Int → (List Int) → Option ((List Int) × Bool)} (ziy : zgY zfc) : ∀ {a_m : GMod} {ze6 : Int} {zR : Int} {a_l : (List Int)} {t_a_l : Tok} {r : (List Int) × Bool}, zdf zfc a_m ze6 zR a_l = some r → Ctr Tryd.prog 87 [isv (a_m), isv (ze6), isv (zR), appv t_a_l (a_l)] [tokE t_a_l] (fun R H => ∃ u1 : Tok, R = oneOf [appv u1 (r.1), isv (r.2)] ∧ H = [tokE u1]) := by
 intro a_m ze6 zR a_l t_a_l r h
 unfold zdf at h
 refine zr Tryd.func87 rfl fun w0 S0 hT => wsr (oT (zbA (y := a_m) rfl hI (oA rfl (oA rfl (rnf (zn (wsr (oM rfl ?_))))))))
 refine oV (zaj rfl rfl) (oM rfl (zau (jb 24) je .nil h 6 rfl (fun q1 g1 h => ?_) (fun J2 h hJ2 => ?_)))
 ·refine oM rfl (zau (jb 28) je .nil h 3 rfl (fun q4 g4 h => ?_) (fun J5 h hJ5 => ?_))
  ·refine rnf (zf h rfl (fun _ h => ?_) (fun _ h => ?_))
   ·refine wsr (oM rfl (oA rfl (oA rfl (rnf (zM (zB (zo (.tmp rfl (.tmp rfl .nil)) k1 ?_)))))))
    cases h
    exact ⟨t_a_l, rfl, rfl⟩
   refine wkf (wsr (oV (zac rfl GMod.f4 zfQ rfl (z := a_m.nodes)) (oV (zg ty28 rfl) (oM rfl (zb h fun y7 hy7 h => oV (zaG (l := a_m.nodes) rfl hI rfl sl28 hy7) (oV (zg ty108 rfl) (oT (zab _ ze108 fun b8 => ?_))))))))
   refine oT (zi (y' := (y7 : GNode)) ty108 rfl rfl hI .here rfl (zX (zaq 10 .here rfl) (rnf (zn (wsr (oV (zac rfl GNode.f0 zbE rfl (z := y7.kind)) (oV (zg ty3 rfl) (oV (zal rfl rfl) (rnf ?_)))))))))
   refine zf h rfl (fun _ h => ?_) (fun _ h => ?_)
   ·refine wsr (oV (zg ty30 rfl) (oV (zac rfl GNode.f1 zkc rfl (z := y7.name)) (oV (zg ty9 rfl) (zb h fun y9 hy9 h => oT (zz (zfL hy9) hT (s2 rfl rfl) .nil (oA rfl (rnf (zn ?_))))))))
    refine wsr (oM rfl (oV (zaj rfl rfl) (rnf (zf h rfl (fun _ h => ?_) (fun _ h => ?_)))))
    ·refine wsr (oM rfl (oA rfl (oA rfl (rnf (zM (zB (zB (zo (.tmp rfl (.tmp rfl .nil)) k1 ?_))))))))
     cases h
     exact ⟨t_a_l, rfl, rfl⟩
    refine wkf (zn (wsr (oM rfl (oM rfl (zb h fun y10 hy10 h => oT (zz (zfR hy10) hT (.cons rfl zK (s1 rfl)) .nil (oV (zbG rfl) (rnf ?_))))))))
    refine zc3 (ι := (List Int)) (γ := Tok) (fun q11 g11 => [(3, appv g11 (q11))]) (fun q11 g11 => [tokE g11]) k1 h (fun q11 g11 h => ?_) (fun J12 h hJ12 => ?_)
    ·refine wsr (oM rfl (oA rfl (oA rfl (rnf (zM (zB (zo (.tmp rfl (.tmp rfl .nil)) k1 ?_)))))))
     cases h
     exact ⟨g11, rfl, rfl⟩
    refine zf h rfl (fun _ h => ?_) (fun _ h => ?_)
    ·exact zj (oM rfl (oM rfl (oT (zQ (l := ([y9] : (List Int))) el22 (.cons rfl hI .nil) rfl rfl (zZ h fun q15 h => oT (zbk (l := a_l) (m := ([y9] : (List Int))) zcW rfl hI rfl zK .here q15 fun t14 => oA rfl (zx (hJ12 _ (t14) h _ (jk 5 3 rfl rfl rfl)))))))))
    exact zY (hJ12 _ (t_a_l) h _ (jk 0 3 rfl rfl rfl))
   refine wkf (wsr (oA rfl (rnf (zn (wsr (oA rfl (rnf (zu ?_))))))))
   refine za5 (ι := (List Int) × Bool × Int) (γ := Tok) (fun q16 g16 => [(3, appv g16 (q16.1)), (12, isv (q16.2.1)), (13, isv (q16.2.2))]) (fun q16 g16 => [tokE g16]) h (t_a_l) (za (j := 3) rfl hI (za (j := 12) rfl hI (za (j := 13) rfl hI zd))) k1 (fun L17 q16 g16 Q44 h hL17 eL17 rL17 => zn (wsr (oM rfl (oV (zac rfl GNode.f5 zcX rfl (z := y7.fields)) (oV (zg ty52 rfl) (oV (za2 (l := y7.fields) rfl hI sl52) (oV (zaj rfl rfl) (rnf ?_))))))))
   refine zf h rfl (fun _ h => ?_) (fun _ h => ?_)
   ·refine wkf (zn (zu (wsr (oA rfl (rnf (zn (zW (.v 0 (.v 1 (.v 2 (.v 3 (.v 4 (.v 5 (.v 6 (.v 7 (.v 8 (.v 9 (.t 10 (.v 11 (.v 12 (.v 13 (.v 14 (.v 15 .nil)))))))))))))))) moOrd (by kernel_rfl) ?_)))))))
    refine zq rfl (zg ty30 rfl) (zq rfl (zac rfl GNode.f5 zcX rfl (z := y7.fields)) (zq rfl (zg ty52 rfl) (rvm rfl rfl (zb h fun y28 hy28 h => zq rfl (zaG (l := y7.fields) rfl hI rfl sl52 hy28) (zq rfl (zac rfl GFld.f1 zc9 rfl (z := y28.ty)) (zq rfl (zg ty3 rfl) (rvm rfl rfl ?_)))))))
    refine zD h fun q29 h => zq rfl (zaf rfl rfl q29) (rvm rfl rfl (zb h fun y30 hy30 h => zV rfl rfl (zL (ziy hy30) hT (s4 rfl rfl rfl rfl) k1 (fun R H' hR => ?_))))
    obtain ⟨t31, rfl, rfl⟩ := hR
    refine rvm rfl rfl (zq rfl (zav rfl rfl) (zq rfl (zav rfl rfl) (zq rfl (za1 rfl) (zq rfl (za1 rfl) (zae (zy (zj (oM rfl ?_))))))))
    refine oM rfl (zau (jb 78) je .nil h 2 rfl (fun q32 g32 h => ?_) (fun J33 h hJ33 => ?_))
    ·refine oA rfl (zx (zk (zy (zj (oM rfl (zD h fun q35 h => oV (zaf rfl rfl q35) (oA rfl ?_)))))))
     exact zx (hL17 _ (t31) h _ (ze 32 rfl rfl (za (j := 3) rfl hI (za (j := 12) rfl hI (za (j := 13) rfl hI zd))) k1))
    refine zC (j := 76) h rfl (fun g34 h => ?_) (fun g34 h => ?_)
    ·exact oP 76 rfl rfl g34 (oV (zs rfl g34 rfl) (hJ33 _ () h _ (jk 2 78 rfl rfl rfl)))
    exact oK 76 rfl rfl rfl g34 (zw rfl) (oV (zt rfl g34 rfl) (hJ33 _ () h _ (jk 2 78 rfl rfl rfl)))
   refine zad (zU (eL17 _ _ (zH (zy (zn (wsr (oV (zac rfl GNode.f0 zbE rfl (z := y7.kind)) (oV (zg ty3 rfl) ?_))))))))
   refine oV (zal rfl rfl) (rnf (zc3 (ι := (List Int) × Bool) (γ := Tok) (fun q36 g36 => [(3, appv g36 (q36.1)), (12, isv (q36.2))]) (fun q36 g36 => [tokE g36]) k1 h (fun q36 g36 h => ?_) (fun J37 h hJ37 => ?_)))
   ·refine wsr (oM rfl (oM rfl (oA rfl (oA rfl (rnf (zM (zo (.tmp rfl (.tmp rfl .nil)) k1 ?_)))))))
    cases h
    exact ⟨g36, rfl, rfl⟩
   refine zf h rfl (fun _ h => ?_) (fun _ h => ?_)
   ·refine wsr (oA rfl (rnf (wsr (oV (zg ty30 rfl) (oV (zac rfl GNode.f8 zjZ rfl (z := y7.of)) (oV (zg ty3 rfl) (oM rfl (zD h fun q38 h => ?_))))))))
    refine oV (zaf rfl rfl q38) (oM rfl (zb h fun y39 hy39 h => oT (zL (ziy hy39) hT (s4 rfl rfl rfl rfl) k1 (fun R H' hR => ?_))))
    obtain ⟨t40, rfl, rfl⟩ := hR
    refine oM rfl (oV (zav rfl rfl) (oV (zav rfl rfl) (oA rfl (oA rfl (rnf (zj (oM rfl (oM rfl ?_))))))))
    refine zau (jb 95) je .nil h 2 rfl (fun q41 g41 h => ?_) (fun J42 h hJ42 => ?_)
    ·exact oA rfl (zx (hJ37 _ (t40) h _ (ze 17 rfl rfl (za (j := 3) rfl hI (za (j := 12) rfl hI zd)) k1)))
    refine zC (j := 93) h rfl (fun g43 h => ?_) (fun g43 h => ?_)
    ·exact oP 93 rfl rfl g43 (oV (zs rfl g43 rfl) (hJ42 _ () h _ (jk 2 95 rfl rfl rfl)))
    exact oK 93 rfl rfl rfl g43 (zw rfl) (oV (zt rfl g43 rfl) (hJ42 _ () h _ (jk 2 95 rfl rfl rfl)))
   exact zY (hJ37 _ (g16) h _ (ze 0 rfl rfl (za (j := 3) rfl hI (za (j := 12) rfl hI zd)) k1))
  refine zC (j := 25) h rfl (fun g6 h => ?_) (fun g6 h => ?_)
  ·exact oP 25 rfl rfl g6 (oP 25 rfl rfl g6 (oV (zs rfl g6 rfl) (hJ5 _ () h _ (jk 3 28 rfl rfl rfl))))
  exact oK 25 rfl rfl rfl g6 (zw rfl) (oK 25 rfl rfl rfl g6 (zbU rfl rfl) (oV (zt rfl g6 rfl) (hJ5 _ () h _ (jk 3 28 rfl rfl rfl))))
 refine zC (j := 18) h rfl (fun g3 h => ?_) (fun g3 h => ?_)
 ·exact oP 18 rfl rfl g3 (oP 18 rfl rfl g3 (oP 18 rfl rfl g3 (oP 18 rfl rfl g3 (oP 18 rfl rfl g3 (oV (zs rfl g3 rfl) (hJ2 _ () h _ (jk 6 24 rfl rfl rfl)))))))
 exact oK 18 rfl rfl rfl g3 (zw rfl) (oK 18 rfl rfl rfl g3 (zac rfl GMod.f4 zfQ rfl (z := a_m.nodes)) (oK 18 rfl rfl rfl g3 (zg ty28 rfl) (oK 18 rfl rfl rfl g3 (za2 (l := a_m.nodes) rfl hI sl28) (oK 18 rfl rfl rfl g3 (ze4 rfl rfl) (oV (zt rfl g3 rfl) (hJ2 _ () h _ (jk 6 24 rfl rfl rfl)))))))

theorem zfY : ∀ n, zgY (zeC n)
 | 0 => fun h => (by cases h)
 | n + 1 => zk0 (zfY n)
theorem zmb (n : Nat) : zgY (zeC n) := (zfY n)

theorem zlD : ∀ {zeU : (List (List Int))} {zdI : Int} {a_to : Int} {r : Bool}, zff zeU zdI a_to = some r → Ctr Tryd.prog 88 [isv (zeU), isv (zdI), isv (a_to)] [] (fun R H => R = oneOf [isv (r)] ∧ H = []) := by
 intro zeU zdI a_to r h
 unfold zff at h
 refine zr Tryd.func88 rfl fun w0 S0 hT => wsr (oA rfl (rnf (wsr (oT (zQ (l := ([] : (List Int))) el22 .nil rfl rfl (oA rfl (rnf (wsr ?_))))))))
 refine oM rfl (oM rfl (zb h fun y2 hy2 h => oV (zaG (l := zeU) rfl hI rfl sl45 hy2) (oV (zg ty22 rfl) (zZ h fun q4 h => oT (zlX (m := y2) zcW rfl rfl hI q4 fun t3 => oA rfl (rnf ?_))))))
 refine zn (zu (zfj (zaQ) (za5 (ι := (List Int) × (List Int)) (γ := Tok × Tok) (fun q5 g5 => [(7, appv g5.1 (q5.1)), (8, appv g5.2 (q5.2))]) (fun q5 g5 => [tokE g5.1, tokE g5.2]) h (none, t3) (za (j := 7) rfl hI (za (j := 8) rfl hI zd)) k2 (fun L6 q5 g5 Q27 h hL6 eL6 rL6 => zn (wsr (oM rfl (oV (za2 (l := q5.2) rfl zK sl22) (oV (zbU rfl rfl) ?_))))))))
 refine rnf (zf h rfl (fun _ h => ?_) (fun _ h => ?_))
 ·refine wkf (zu (wsr (oM rfl (zb h fun y17 hy17 h => oV (zaG (l := q5.2) rfl zK rfl sl22 hy17) (oV (zg ty3 rfl) (oA rfl (rnf ?_)))))))
  refine wsr (oM rfl (zT h fun q18 h => oT (zqq rfl sl22 rfl q18.1 q18.2 tH fun t19 => oA rfl (rnf (zn (wsr (oM rfl ?_)))))))
  refine oM rfl (oV (zal rfl rfl) (rnf (zf h rfl (fun _ h => ?_) (fun _ h => ?_))))
  ·refine wsr (oA rfl (rnf (zM (zB (zE (rL6 _ (zE (zB ?_))))))))
   cases h
   exact zo (.tmp rfl .nil) .nil ⟨rfl, rfl⟩
  refine wkf (wsr (oM rfl (oM rfl (zb h fun y20 hy20 h => oT (zz (zfR hy20) hT (.cons rfl zK (s1 rfl)) .nil (oV (zbG rfl) (rnf (zf h rfl (fun _ h => ?_) (fun _ h => ?_)))))))))
  ·refine wsr (oM rfl (oM rfl (oT (zQ (l := ([y17] : (List Int))) el22 (.cons rfl hI .nil) rfl rfl (zZ h fun q23 h => oT (zbk (l := q5.1) (m := ([y17] : (List Int))) zcW rfl hI rfl zK tH q23 fun t22 => oA rfl (rnf (zj ?_))))))))
   refine oM rfl (oM rfl (oM rfl (zb h fun y24 hy24 h => oV (zaG (l := zeU) rfl hI rfl sl45 hy24) (oV (zg ty22 rfl) (zZ h fun q26 h => oT (zbk (l := (q5.2.drop ((1 : Int)).toNat)) (m := y24) zcW rfl hI rfl hI tH q26 fun t25 => oA rfl ?_))))))
   exact zx (zk (hL6 _ (t22, t25) h _ (ze 31 rfl rfl (za (j := 7) rfl hI (za (j := 8) rfl hI zd)) (.cons tH k1))))
  exact zY (zk (hL6 _ (g5.1, t19) h _ (ze 19 rfl rfl (za (j := 7) rfl hI (za (j := 8) rfl hI zd)) (.cons tH k1))))
 refine zad (zU (eL6 _ _ (zH (zy (wsr (oA rfl (rnf (zM ?_))))))))
 cases h
 exact zo (.tmp rfl .nil) .nil ⟨rfl, rfl⟩


theorem zlz : ∀ {a_m : GMod} {r : (List Int) × Int × Int}, zew a_m = some r → Ctr Tryd.prog 59 [isv (a_m)] [] (fun R H => R = oneOf [isv (r.1), isv (r.2.1), isv (r.2.2)] ∧ H = []) := by
 intro a_m r h
 unfold zew at h
 refine zr Tryd.func59 rfl fun w0 S0 hT => wsr (oT (zbA (y := a_m) rfl hI (oA rfl (oA rfl (oA rfl (rnf (wsr (oA rfl ?_))))))))
 refine rnf (wsr (oA rfl (rnf (zn (wsr (oA rfl (rnf (zu ?_))))))))
 refine za5 (ι := Int) (γ := Unit) (fun q1 g1 => [(7, isv (q1))]) (fun q1 g1 => []) h () (za (j := 7) rfl hI zd) .nil (fun L2 q1 g1 Q1603 h hL2 eL2 rL2 => zn (wsr (oM rfl (oV (zac rfl GMod.f2 zdD rfl (z := a_m.names)) (oV (zg ty27 rfl) (oV (za2 (l := a_m.names) rfl hI sl27) (oV (zaj rfl rfl) (rnf ?_))))))))
 refine zf h rfl (fun _ h => ?_) (fun _ h => ?_)
 ·refine wkf (zn (zu (zn (zW (.v 0 (.v 1 (.v 2 (.v 3 (.v 4 (.v 5 (.v 6 (.v 7 (.v 8 (.t 9 .nil)))))))))) moOrd (by kernel_rfl) ?_))))
  refine zq rfl (zac rfl GMod.f2 zdD rfl (z := a_m.names)) (zq rfl (zg ty27 rfl) (rvm rfl rfl (zT h fun q803 h => zq rfl (zfX (l := a_m.names) rfl hI sl27 (.inl ⟨rfl, rfl⟩) (.inr ⟨_, rfl, rfl⟩) q803.1 q803.2.1 q803.2.2) (zq rfl (zac rfl GMod.f2 zdD rfl (z := a_m.names)) (zq rfl (zg ty27 rfl) (rvm rfl rfl (zb h fun y804 hy804 h => ?_)))))))
  refine zq rfl (zaG (l := a_m.names) rfl hI rfl sl27 hy804) (zq rfl (zg ty9 rfl) (zb h fun y805 hy805 h => zV rfl rfl (zz (zgM hy805) hT (s2 rfl rfl) .nil (zae (zy (zf h rfl (fun _ h => ?_) (fun _ h => ?_)))))))
  ·refine wsr (oM rfl (oA rfl (oA rfl (oA rfl (rnf (zM (zE (zB ?_))))))))
   refine rL2 _ (zE (zB ?_))
   cases h
   exact zo (.as rfl (zdt (α := Int)) (.tmp rfl (.tmp rfl .nil))) .nil ⟨rfl, rfl⟩
  refine zY (zk (zy (zj (oM rfl (zD h fun q806 h => oV (zaf rfl rfl q806) (oA rfl (zx ?_)))))))
  exact hL2 _ () h _ (ji 19 7 rfl rfl rfl)
 refine zad (zU (eL2 _ _ (zH (zy (zn (wsr (oA rfl (rnf ?_))))))))
 refine zu (zfj (zaQ) (za5 (ι := (List (List Int)) × Int × Int) (γ := Tok) (fun q807 g807 => [(5, appv g807 (q807.1)), (6, isv (q807.2.1)), (8, isv (q807.2.2))]) (fun q807 g807 => [tokE g807]) h (none) (za (j := 5) rfl zbs (za (j := 6) rfl hI (za (j := 8) rfl hI zd))) k1 (fun L808 q807 g807 Q1602 h hL808 eL808 rL808 => zn (wsr (oM rfl (oV (zac rfl GMod.f2 zdD rfl (z := a_m.names)) (oV (zg ty27 rfl) (oV (za2 (l := a_m.names) rfl hI sl27) ?_))))))))
 refine oV (zaj rfl rfl) (rnf (zf h rfl (fun _ h => ?_) (fun _ h => ?_)))
 ·refine wkf (zn (zc3 (ι := (List (List Int)) × Int) (γ := Tok) (fun q1337 g1337 => [(5, appv g1337 (q1337.1)), (6, isv (q1337.2))]) (fun q1337 g1337 => [tokE g1337]) k1 h (fun q1337 g1337 h => ?_) (fun J1338 h hJ1338 => ?_)))
  ·exact zj (oM rfl (zD h fun q1349 h => oV (zaf rfl rfl q1349) (oA rfl (zx (hL808 _ (g1337) h _ (ze 13 rfl rfl (za (j := 5) rfl hI (za (j := 6) rfl hI (za (j := 8) rfl hI zd))) k1))))))
  refine zu (zn (zW (.v 0 (.v 1 (.v 2 (.v 3 (.v 4 (.v 5 (.t 6 (.v 7 (.v 8 (.v 9 (.v 10 (.v 11 .nil)))))))))))) moOrd (by kernel_rfl) ?_))
  refine zq rfl (zg ty30 rfl) (zq rfl (zac rfl GMod.f3 zi0 rfl (z := a_m.types)) (zq rfl (zg ty22 rfl) (rvm rfl rfl (zb h fun y1339 hy1339 h => zq rfl (zaG (l := a_m.types) rfl hI rfl sl22 hy1339) (zq rfl (zg ty3 rfl) (zbh (zaQ) (zb h fun y1341 hy1341 h => ?_)))))))
  refine zV rfl rfl (zL (zmb fuel hy1341) hT (.same rfl (.same rfl (.same rfl (.cons rfl zbs .nil)))) k1 (fun R H' hR => ?_))
  obtain ⟨t1342, rfl, rfl⟩ := hR
  refine rvm rfl rfl (zq rfl (zav rfl rfl) (zq rfl (zav rfl rfl) (zq rfl (za1 rfl) (zq rfl (za1 rfl) (zae (zy (wsr (oM rfl ?_))))))))
  refine oM rfl (oT (zQ (l := ([y1341.1] : (List (List Int)))) el45 (.cons rfl zK .nil) rfl rfl (zZ h fun q1345 h => oT (zbk (l := q807.1) (m := ([y1341.1] : (List (List Int)))) zii rfl hI rfl zK tH q1345 fun t1344 => oA rfl (rnf (wsr (oM rfl (oM rfl ?_))))))))
  refine zau (jb 59) je .nil h 3 rfl (fun q1346 g1346 h => ?_) (fun J1347 h hJ1347 => ?_)
  ·refine rnf (zf h rfl (fun _ h => ?_) (fun _ h => ?_))
   ·exact zj (oM rfl (oA rfl (zx (zk (hJ1338 _ (t1344) h _ (ze 22 rfl rfl (za (j := 5) rfl hI (za (j := 6) rfl hI zd)) k1))))))
   exact zY (zk (hJ1338 _ (t1344) h _ (ze 20 rfl rfl (za (j := 5) rfl hI (za (j := 6) rfl hI zd)) k1)))
  refine zC (j := 56) h rfl (fun g1348 h => ?_) (fun g1348 h => ?_)
  ·exact oK 56 rfl rfl rfl g1348 (zw rfl) (oK 56 rfl rfl rfl g1348 (zaj rfl rfl) (oV (zs rfl g1348 rfl) (hJ1347 _ () h _ (ze 3 rfl rfl (za (j := 59) rfl hI zd) k2))))
  exact oP 56 rfl rfl g1348 (oP 56 rfl rfl g1348 (oV (zt rfl g1348 rfl) (hJ1347 _ () h _ (ze 3 rfl rfl (za (j := 59) rfl hI zd) k2))))
 refine zad (zU (eL808 _ _ (zH (zy (zn (wsr (oM rfl (oV (ze4 rfl rfl) ?_))))))))
 refine rnf (zf h rfl (fun _ h => ?_) (fun _ h => ?_))
 ·refine wsr (oM rfl (oA rfl (oA rfl (oA rfl (rnf (zM (zB ?_)))))))
  cases h
  exact zo (.as rfl (zdt (α := Int)) (.tmp rfl (.tmp rfl .nil))) .nil ⟨rfl, rfl⟩
 refine wkf (zn (wsr (oA rfl (rnf (zu (za5 (ι := Int) (γ := Unit) (fun q1350 g1350 => [(11, isv (q1350))]) (fun q1350 g1350 => []) h () (za (j := 11) rfl hI zd) .nil (fun L1351 q1350 g1350 Q1600 h hL1351 eL1351 rL1351 => zn (wsr ?_))))))))
 refine oM rfl (oV (zac rfl GMod.f2 zdD rfl (z := a_m.names)) (oV (zg ty27 rfl) (oV (za2 (l := a_m.names) rfl hI sl27) (oV (zaj rfl rfl) (rnf (zf h rfl (fun _ h => ?_) (fun _ h => ?_)))))))
 ·refine wkf (zn (zu (wsr (oM rfl (oM rfl (oM rfl (zb h fun y1476 hy1476 h => oT (zz (zlD hy1476) hT (.cons rfl zK (s2 rfl rfl)) .nil ?_))))))))
  refine rnf (zf h rfl (fun _ h => ?_) (fun _ h => ?_))
  ·refine wsr (oM rfl (oA rfl (oA rfl (oA rfl (rnf (zM (zE (zB ?_))))))))
   refine rL1351 _ (zE (zB ?_))
   cases h
   exact zo (.as rfl (zdt (α := Int)) (.tmp rfl (.tmp rfl .nil))) .nil ⟨rfl, rfl⟩
  refine zY (zk (zy (zj (oM rfl (zD h fun q1477 h => oV (zaf rfl rfl q1477) (oA rfl (zx ?_)))))))
  exact hL1351 _ () h _ (jk 13 11 rfl rfl rfl)
 refine zad (zU (eL1351 _ _ (zH (zy (wsr (oA rfl (rnf (zn ?_))))))))
 refine zu (zfj (zaQ) (za5 (ι := (List Int)) (γ := Tok) (fun q1478 g1478 => [(12, appv g1478 (q1478))]) (fun q1478 g1478 => [tokE g1478]) h (none) (za (j := 12) rfl zbs zd) k1 (fun L1479 q1478 g1478 Q1599 h hL1479 eL1479 rL1479 => zn (wsr (oM rfl (oV (za2 (l := q1478) rfl zK sl22) (oV (zac rfl GMod.f2 zdD rfl (z := a_m.names)) (oV (zg ty27 rfl) ?_))))))))
 refine oV (za2 (l := a_m.names) rfl hI sl27) (oV (zaj rfl rfl) (rnf (zf h rfl (fun _ h => ?_) (fun _ h => ?_))))
 ·refine wkf (zu (wsr (oA rfl (rnf (zu (za5 (ι := Int) (γ := Unit) (fun q1539 g1539 => [(13, isv (q1539))]) (fun q1539 g1539 => []) h () (za (j := 13) rfl hI zd) .nil (fun L1540 q1539 g1539 Q1597 h hL1540 eL1540 rL1540 => zn (wsr ?_))))))))
  refine oM rfl (oV (zac rfl GMod.f2 zdD rfl (z := a_m.names)) (oV (zg ty27 rfl) (oV (za2 (l := a_m.names) rfl hI sl27) (oV (zaj rfl rfl) (rnf (zf h rfl (fun _ h => ?_) (fun _ h => ?_)))))))
  ·refine wkf (zn (zu (wsr (oM rfl (oM rfl (zb h fun y1569 hy1569 h => oT (zz (zfR hy1569) hT (.cons rfl zK (s1 rfl)) .nil (oV (zbG rfl) ?_))))))))
   refine oA rfl (rnf (zn (wsr (oA rfl (rnf (zu (za5 (ι := Bool × Int) (γ := Unit) (fun q1570 g1570 => [(14, isv (q1570.1)), (15, isv (q1570.2))]) (fun q1570 g1570 => []) h () (za (j := 14) rfl hI (za (j := 15) rfl hI zd)) .nil (fun L1571 q1570 g1570 Q1596 h hL1571 eL1571 rL1571 => zn ?_))))))))
   refine wsr (oM rfl (oM rfl (oM rfl (zb h fun y1584 hy1584 h => oV (zaG (l := q807.1) rfl zK rfl sl45 hy1584) (oV (zg ty22 rfl) (oV (za2 (l := y1584) rfl hI sl22) (oV (zaj rfl rfl) ?_)))))))
   refine rnf (zf h rfl (fun _ h => ?_) (fun _ h => ?_))
   ·refine wkf (zn (zu (zj (oM rfl (oM rfl (zau (jb 113) je .nil h 10 rfl (fun q1585 g1585 h => ?_) (fun J1586 h hJ1586 => ?_)))))))
    ·refine oA rfl (zx (zk (zy (zj (oM rfl (zD h fun q1591 h => oV (zaf rfl rfl q1591) (oA rfl ?_)))))))
     exact zx (hL1571 _ () h _ (ze 16 rfl rfl (za (j := 14) rfl hI (za (j := 15) rfl hI zd)) k2))
    refine zC (j := 103) h rfl (fun g1587 h => ?_) (fun g1587 h => ?_)
    ·refine oK 103 rfl rfl rfl g1587 (zw rfl) (oK 103 rfl rfl rfl g1587 (zw rfl) (oK 103 rfl rfl rfl g1587 (zw rfl) (zb h fun y1588 hy1588 h => oK 103 rfl rfl rfl g1587 (zaG (l := q807.1) rfl zK rfl sl45 hy1588) (oK 103 rfl rfl rfl g1587 (zg ty22 rfl) (oK 103 rfl rfl rfl g1587 (zw rfl) (zb h fun y1589 hy1589 h => oK 103 rfl rfl rfl g1587 (zaG (l := y1588) rfl hI rfl sl22 hy1589) ?_))))))
     exact oK 103 rfl rfl rfl g1587 (zg ty3 rfl) (zb h fun y1590 hy1590 h => zat rfl rfl (dj := 103) rfl g1587 (zz (zfR hy1590) hT (.cons rfl zK (s1 rfl)) .nil (oV (zs rfl g1587 rfl) (hJ1586 _ () h _ (ze 10 rfl rfl (za (j := 113) rfl hI zd) k2)))))
    refine oP 103 rfl rfl g1587 (oP 103 rfl rfl g1587 (oP 103 rfl rfl g1587 (oP 103 rfl rfl g1587 (oP 103 rfl rfl g1587 (oP 103 rfl rfl g1587 (oP 103 rfl rfl g1587 (oP 103 rfl rfl g1587 (oP 103 rfl rfl g1587 ?_))))))))
    exact oV (zt rfl g1587 rfl) (hJ1586 _ () h _ (ze 10 rfl rfl (za (j := 113) rfl hI zd) k2))
   refine zad (zU (eL1571 _ _ (zH (zy (wsr (oM rfl (rnf (zf h rfl (fun _ h => ?_) (fun _ h => ?_)))))))))
   ·refine wsr (oM rfl (oM rfl (oT (zQ (l := ([q1539] : (List Int))) el22 (.cons rfl hI .nil) rfl rfl (zZ h fun q1594 h => oT (zbk (l := q1478) (m := ([q1539] : (List Int))) zcW rfl hI rfl zK .here q1594 fun t1593 => oA rfl (rnf (zad ?_))))))))
    exact zf3 rfl (zU (eL1540 _ _ (zH (zk (hL1479 _ (t1593) h _ (ze 35 rfl rfl (za (j := 12) rfl hI zd) k2))))))
   refine zY (zk (zy (zj (oM rfl (zD h fun q1595 h => oV (zaf rfl rfl q1595) (oA rfl (zx ?_)))))))
   exact hL1540 _ () h _ (ze 25 rfl rfl (za (j := 13) rfl hI zd) k2)
  exact zad (zU (eL1540 _ _ (zH (zk (hL1479 _ (g1478) h _ (ze 14 rfl rfl (za (j := 12) rfl hI zd) k2))))))
 refine zad (zU (eL1479 _ _ (zH (zy (wsr (oM rfl (oA rfl (oA rfl ?_))))))))
 refine oA rfl (rnf (zM ?_))
 cases h
 exact zo (.as rfl zK (.tmp rfl (.tmp rfl .nil))) .nil ⟨rfl, rfl⟩

end Go.Proofs.Q


namespace Go.Proofs.Q
open Go.Sy
set_option maxRecDepth 4000
def zg0 (f' : UInt64 → Option (Str)) : Prop :=
 ∀ {a_v : UInt64} {r : Str}, f' a_v = some r → Ctr Tryd.prog 8 [isv (a_v)] [] (fun R H => R = oneOf [isv (r)] ∧ H = [])
theorem zkY {zgC : UInt64 → Option (Str)} (ziw : zg0 zgC) : ∀ {a_v : UInt64} {r : Str}, zdZ zgC a_v = some r → Ctr Tryd.prog 8 [isv (a_v)] [] (fun R H => R = oneOf [isv (r)] ∧ H = []) := by
 intro a_v r h
 unfold zdZ at h
 refine zr Tryd.func8 rfl fun w0 S0 hT => wsr (oA rfl (rnf (zn (wsr (oM rfl (oV (zo8 rfl rfl) (rnf ?_)))))))
 refine zf h rfl (fun _ h => ?_) (fun _ h => ?_)
 ·refine wsr (oM rfl (oV (zij rfl rfl) (oV (zmG Tryd.underlying26 Tryd.underlying5 rfl) (oT (zQ (l := ([((48 : UInt64) + a_v).toUInt8] : (List UInt8))) el59 (.cons rfl hI .nil) rfl rfl (oV (zpn (l := ([((48 : UInt64) + a_v).toUInt8] : (List UInt8))) Tryd.underlying59 Tryd.underlying5 Tryd.underlying9 rfl zK) (oA rfl (rnf (zM ?_)))))))))
  refine zB ?_
  cases h
  exact zo (.tmp rfl .nil) .nil ⟨rfl, rfl⟩
 refine wkf (zn (zc3 (ι := Str) (γ := Unit) (fun q2 g2 => [(2, isv (q2))]) (fun q2 g2 => []) .nil h (fun q2 g2 h => ?_) (fun J3 h hJ3 => ?_)))
 ·refine zM ?_
  cases h
  exact zo (.tmp rfl .nil) .nil ⟨rfl, rfl⟩
 refine zW (.v 0 (.v 1 (.v 3 (.v 4 (.v 5 (.v 6 (.alt 2 (.t 7 (.v 8 (.v 9 (.v 10 .nil)))) (.t 7 (.v 8 (.t 2 (.v 9 (.v 10 .nil)))))))))))) moOrd (by kernel_rfl) ?_
 refine rvm rfl rfl (zZ h fun q4 h => zq rfl (zpB rfl rfl q4) (rvm rfl rfl (zZ h fun q5 h => zq rfl (zjX rfl rfl q5) (zq rfl (zij rfl rfl) (zq rfl (zmG Tryd.underlying26 Tryd.underlying5 rfl) (zb h fun y6 hy6 h => ?_))))))
 refine zZ h fun q8 h => zbP ?_ ?_
 ·exact zV rfl rfl (zz (ziw hy6) hT (s1 rfl) .nil (zV rfl rfl (zQ (l := ([((48 : UInt64) + (a_v % (10 : UInt64))).toUInt8] : (List UInt8))) el59 (.cons rfl hI .nil) rfl rfl (zq rfl (zpn (l := ([((48 : UInt64) + (a_v % (10 : UInt64))).toUInt8] : (List UInt8))) Tryd.underlying59 Tryd.underlying5 Tryd.underlying9 rfl zK) (zq rfl (zdF rfl rfl q8) (zq rfl (za1 rfl) (zae (hJ3 _ () h _ (ji 11 2 rfl rfl rfl)))))))))
 exact zV rfl rfl (zQ (l := ([((48 : UInt64) + (a_v % (10 : UInt64))).toUInt8] : (List UInt8))) el59 (.cons rfl hI .nil) rfl rfl (zq rfl (zpn (l := ([((48 : UInt64) + (a_v % (10 : UInt64))).toUInt8] : (List UInt8))) Tryd.underlying59 Tryd.underlying5 Tryd.underlying9 rfl zK) (zV rfl rfl (zz (ziw hy6) hT (s1 rfl) .nil (zq rfl (zdF rfl rfl q8) (zq rfl (za1 rfl) (zae (hJ3 _ () h _ (ji 11 2 rfl rfl rfl)))))))))

theorem zf2 : ∀ n, zg0 (zb3 n)
 | 0 => fun h => (by cases h)
 | n + 1 => zkY (zf2 n)
theorem zjf (n : Nat) : zg0 (zb3 n) := (zf2 n)
end Go.Proofs.Q

