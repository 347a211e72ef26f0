/- Walks, printed by mill.py. -/
import Derived.Test.YtnnijoepfgnlfaaDoorOsA
import Derived.Test.YtnnijoepfgnlfaaDoorOsB
import Derived.Test.YtnnijoepfgnlfaaDoorOsC
import Derived.Test.YtnnijoepfgnlfaaDoorOsD
import Derived.Test.YtnnijoepfgnlfaaDoorProg
import Derived.Shelf.Unicode.ValidAny
import Derived.KernelRfl
set_option linter.unusedVariables false
set_option linter.unusedSimpArgs false

namespace Go.Proofs.Q
open Go.Sy
set_option maxRecDepth 4000
end Go.Proofs.Q


namespace Go.Proofs.Q
open Go.Sy
def valRen : Shelf.Ren := ⟨fun x => bif Nat.beq x 196 then 96 else bif Nat.beq x 259 then 110 else x, fun x => bif Nat.beq x 0 then 0 else bif Nat.beq x 3 then 3 else bif Nat.beq x 4 then 4 else bif Nat.beq x 5 then 5 else bif Nat.beq x 9 then 9 else bif Nat.beq x 12 then 12 else bif Nat.beq x 46 then 24 else bif Nat.beq x 53 then 26 else bif Nat.beq x 119 then 164 else bif Nat.beq x 138 then 166 else bif Nat.beq x 139 then 167 else x, fun x => bif Nat.beq x 3 then 0 else bif Nat.beq x 4 then 1 else x⟩
set_option maxRecDepth 100000 in
theorem valLays : Lays.n196 Tryd.prog valRen := {
  mixed := by kernel_rfl
  f196 := Tryd.func96.trans (by kernel_rfl)
  f259 := Tryd.func110.trans (by kernel_rfl)
  t0 := Tryd.underlying0
  a0 := Tryd.isAgg0
  z0 := Tryd.sizeOf0
  v0 := Tryd.zeroValue0
  t3 := Tryd.underlying3
  a3 := Tryd.isAgg3
  z3 := Tryd.sizeOf3
  v3 := Tryd.zeroValue3
  t4 := Tryd.underlying4
  a4 := Tryd.isAgg4
  z4 := Tryd.sizeOf4
  v4 := Tryd.zeroValue4
  t5 := Tryd.underlying5
  a5 := Tryd.isAgg5
  z5 := Tryd.sizeOf5
  v5 := Tryd.zeroValue5
  t9 := Tryd.underlying9
  a9 := Tryd.isAgg9
  z9 := Tryd.sizeOf9
  v9 := Tryd.zeroValue9
  t12 := Tryd.underlying12
  a12 := Tryd.isAgg12
  z12 := Tryd.sizeOf12
  v12 := Tryd.zeroValue12
  t46 := Tryd.underlying24
  a46 := Tryd.isAgg24
  z46 := Tryd.sizeOf24
  v46 := Tryd.zeroValue24
  t53 := Tryd.underlying26
  a53 := Tryd.isAgg26
  z53 := Tryd.sizeOf26
  v53 := Tryd.zeroValue26
  t119 := Tryd.underlying164
  a119 := Tryd.isAgg164
  z119 := Tryd.sizeOf164
  t138 := Tryd.underlying166
  a138 := Tryd.isAgg166
  z138 := Tryd.sizeOf166
  v138 := Tryd.zeroValue166
  t139 := Tryd.underlying167
  a139 := Tryd.isAgg167
  z139 := Tryd.sizeOf167
  v139 := Tryd.zeroValue167
  g3 := by kernel_rfl
  g4 := by kernel_rfl }
theorem zgD : ∀ {a_s : Str} {r : Bool}, utf8_ValidString a_s = some r → Ctr Tryd.prog 96 [isv (a_s)] [] (fun R H => R = oneOf [isv (r)] ∧ H = []) := by
  intro s r h
  obtain rfl := Option.some.inj h
  refine ⟨⟨_, Tryd.func96, rfl, by decide +kernel⟩, fun S w vs hT hs hv ho => ?_⟩
  match vs, hv with
  | [v], ⟨hv, _⟩ =>
    obtain ⟨rfl, hl⟩ := zcZ.1 hv
    have hb := Any.utf8_ValidString valLays s.ba w (by rw [Str.ba_size]; unfold maxText at hl; omega) (hT w hs _ _ valLays.g3 valLays.g4)
    refine hb.mono fun e w' ⟨he, hk⟩ => ⟨.bool (Lib.validD s.ba.data.toList), S, _, [], ⟨rfl, rfl⟩, he, ?_, ⟨⟨hk.os, hk.tape, hk.output, hk.size, fun k hk' _ => hk.block k hk'⟩, Go.Sy.Grow.refl _ _ _, fun b cs hb => ?_⟩, zd6 _ _ _ _⟩
    · refine zaZ.2 ?_
      show Value.bool (Lib.validD s.b.toArray.toList) = _
      rfl
    · obtain ⟨c, T, fr, h1, h2⟩ := hs b cs hb
      exact ⟨c, T, fr, by rw [hk.block b (Array.getElem?_eq_some_iff.1 h1).1]; exact h1, h2⟩
end Go.Proofs.Q


namespace Go.Proofs.Q
open Go.Sy
set_option maxRecDepth 4000
@[reducible] def zgL : Fld ((List GTok) × Int × (Str × Int × (TList Str) × (TList Int) × Vh) × Int × Int) (List GTok) := pf0
@[reducible] def zf0 : Fld ((List GTok) × Int × (Str × Int × (TList Str) × (TList Int) × Vh) × Int × Int) Int := pf1
@[reducible] def zbJ : Fld ((List GTok) × Int × (Str × Int × (TList Str) × (TList Int) × Vh) × Int × Int) Int := pf3
@[reducible] def zkX : Fld ((List GTok) × Int × (Str × Int × (TList Str) × (TList Int) × Vh) × Int × Int) Int := pl4
@[reducible] def zch : Fld ((List GTok) × Int × (Str × Int × (TList Str) × (TList Int) × Vh) × Int × Int) (Str × Int × (TList Str) × (TList Int) × Vh) := pf2
@[reducible] def znh : Fld (Str × Int × (TList Str) × (TList Int) × Vh) Str := pf0
@[reducible] def zki : Fld (Str × Int × (TList Str) × (TList Int) × Vh) Int := pf1
@[reducible] def zir : Fld (Str × Int × (TList Str) × (TList Int) × Vh) (TList Str) := pf2
@[reducible] def zf6 : Fld (Str × Int × (TList Str) × (TList Int) × Vh) Vh := pl4
@[reducible] def zhj : Fld (Int × Str × GMark × GCon × (TList GItem) × (TList GFld) × Int × Bool × Int) GMark := pf2
@[reducible] def zcc : Fld (Int × Str × GMark × GCon × (TList GItem) × (TList GFld) × Int × Bool × Int) Int := pf0
@[reducible] def zgn : Fld (Int × Str × GMark × GCon × (TList GItem) × (TList GFld) × Int × Bool × Int) GCon := pf3
@[reducible] def zen : Fld (Int × Str × GMark × GCon × (TList GItem) × (TList GFld) × Int × Bool × Int) (TList GItem) := pf4
@[reducible] def zd0 : Fld (Int × Str × GMark × GCon × (TList GItem) × (TList GFld) × Int × Bool × Int) Bool := pf7
@[reducible] def zga : Fld (Int × Str × GMark × GCon × (TList GItem) × (TList GFld) × Int × Bool × Int) Int := pf6
@[reducible] def zfg : Fld (Int × Str × GMark × GCon × (TList GItem) × (TList GFld) × Int × Bool × Int) (TList GFld) := pf5
@[reducible] def zmp : Fld (Int × Str × GMark × GCon × (TList GItem) × (TList GFld) × Int × Bool × Int) Int := pl8
@[reducible] def zmX : Fld (Int × Str × GMark × GCon × (TList GItem) × (TList GFld) × Int × Bool × Int) Str := pf1
@[reducible] def zkO : Fld (Str × Int × (TList Str) × (TList Int) × Vh) (TList Int) := pf3
@[reducible] def zon : Fld ((List GTok) × Int × (Str × Int × (TList Str) × (TList Int) × (List GNode)) × Int × Int) (Str × Int × (TList Str) × (TList Int) × (List GNode)) := pf2
theorem ze30 : ZeroOk Tryd.prog 30 ((GMod.mk (Str.mk []) (0 : Int) ([] : (List Str)) ([] : (List Int)) ([] : (List GNode))) : GMod) := zbR (cs := [.string ⟨#[]⟩, .int .i64 0, .slice none 0 0, .slice none 0 0, .slice none 0 0]) rfl (by kernel_rfl) (zP zeZ (zP zaV (zP zbQ (zP zbQ zbQ))))
theorem st9 : StrB Tryd.prog 9 = true := by kernel_rfl
theorem eq5 : EqOk Tryd.prog 5 UInt8 := EqOk.u8
theorem zlH : FldB Tryd.prog 80 2 2 1 false = true := by kernel_rfl
theorem bu80 : BuildB Tryd.prog 80 = true := by kernel_rfl
theorem ze80 : ZeroOk Tryd.prog 80 ((GTok.mk (0 : Int) (Str.mk []) (0 : Int)) : GTok) := zbR (cs := [.int .i64 0, .string ⟨#[]⟩, .int .i64 0]) rfl (by kernel_rfl) (zP zaV (zP zeZ zaV))
theorem el70 : elB Tryd.prog 70 3 = true := by kernel_rfl
theorem zl9 : appB Tryd.prog 70 70 3 = true := by kernel_rfl
theorem ty80 : TyB Tryd.prog 80 3 true = true := by kernel_rfl
theorem moOrd : Tryd.prog.follows .mixedOrders = true := by kernel_rfl
theorem zcF : FldB Tryd.prog 80 0 0 1 false = true := by kernel_rfl
theorem ty3 : TyB Tryd.prog 3 1 false = true := by kernel_rfl
theorem zdJ : FldB Tryd.prog 80 1 1 1 false = true := by kernel_rfl
theorem ty9 : TyB Tryd.prog 9 1 false = true := by kernel_rfl
theorem el27 : elB Tryd.prog 27 1 = true := by kernel_rfl
theorem sl27 : SlB Tryd.prog 27 1 false = true := by kernel_rfl
theorem eq9 : EqOk Tryd.prog 9 Str := EqOk.str
theorem bu30 : BuildB Tryd.prog 30 = true := by kernel_rfl
theorem ty30 : TyB Tryd.prog 30 5 true = true := by kernel_rfl
theorem zjJ : FldB Tryd.prog 75 0 0 1 false = true := by kernel_rfl
theorem bu75 : BuildB Tryd.prog 75 = true := by kernel_rfl
theorem zpt : ZeroOk Tryd.prog 75 ((([] : (List GTok)), (0 : Int), ((Str.mk []), (0 : Int), (TList.mk none ([] : (List Str))), (TList.mk none ([] : (List Int))), (Vh.mk none 0)), (0 : Int), (0 : Int)) : ((List GTok) × Int × (Str × Int × (TList Str) × (TList Int) × Vh) × Int × Int)) := zbR (cs := [.slice none 0 0, .int .i64 0, .string ⟨#[]⟩, .int .i64 0, .slice none 0 0, .slice none 0 0, .slice none 0 0, .int .i64 0, .int .i64 0]) rfl (by kernel_rfl) (zP zbQ (zP zaV (zP (zP zeZ (zP zaV (zP zi1 (zP zi1 zpm)))) (zP zaV zaV))))
theorem ty70 : TyB Tryd.prog 70 1 false = true := by kernel_rfl
theorem ziN : FldB Tryd.prog 75 1 1 1 false = true := by kernel_rfl
theorem sl70 : SlB Tryd.prog 70 3 true = true := by kernel_rfl
theorem zcM : FldB Tryd.prog 75 3 7 1 false = true := by kernel_rfl
theorem ty31 : TyB Tryd.prog 31 1 false = true := by kernel_rfl
theorem zny : FldB Tryd.prog 75 4 8 1 false = true := by kernel_rfl
theorem zdF : FldB Tryd.prog 75 2 2 5 true = true := by kernel_rfl
theorem zob : FldB Tryd.prog 30 0 0 1 false = true := by kernel_rfl
theorem zjt : FldB Tryd.prog 30 1 1 1 false = true := by kernel_rfl
theorem zdC : FldB Tryd.prog 30 2 2 1 false = true := by kernel_rfl
theorem ty27 : TyB Tryd.prog 27 1 false = true := by kernel_rfl
theorem zfv : FldB Tryd.prog 30 4 4 1 false = true := by kernel_rfl
theorem ty28 : TyB Tryd.prog 28 1 false = true := by kernel_rfl
theorem sl28 : SlB Tryd.prog 28 16 true = true := by kernel_rfl
theorem bu108 : BuildB Tryd.prog 108 = true := by kernel_rfl
theorem ze108 : ZeroOk Tryd.prog 108 ((GNode.mk (0 : Int) (Str.mk []) (GMark.mk false (0 : Int) (0 : Int)) (GCon.mk false false false false (0 : Int) (0 : Int)) ([] : (List GItem)) ([] : (List GFld)) (0 : Int) false (0 : Int)) : GNode) := zbR (cs := [.int .i64 0, .string ⟨#[]⟩, .bool false, .int .i64 0, .int .i64 0, .bool false, .bool false, .bool false, .bool false, .int .i64 0, .int .i64 0, .slice none 0 0, .slice none 0 0, .int .i64 0, .bool false, .int .i64 0]) rfl (by kernel_rfl) (zP zaV (zP zeZ (zP (zP zbq (zP zaV zaV)) (zP (zP zbq (zP zbq (zP zbq (zP zbq (zP zaV zaV))))) (zP zbQ (zP zbQ (zP zaV (zP zbq zaV))))))))
theorem el28 : elB Tryd.prog 28 16 = true := by kernel_rfl
theorem zoy : appB Tryd.prog 28 28 16 = true := by kernel_rfl
theorem zmf : ZeroOk Tryd.prog 108 (((0 : Int), (Str.mk []), (GMark.mk false (0 : Int) (0 : Int)), (GCon.mk false false false false (0 : Int) (0 : Int)), (TList.mk none ([] : (List GItem))), (TList.mk none ([] : (List GFld))), (0 : Int), false, (0 : Int)) : (Int × Str × GMark × GCon × (TList GItem) × (TList GFld) × Int × Bool × Int)) := zbR (cs := [.int .i64 0, .string ⟨#[]⟩, .bool false, .int .i64 0, .int .i64 0, .bool false, .bool false, .bool false, .bool false, .int .i64 0, .int .i64 0, .slice none 0 0, .slice none 0 0, .int .i64 0, .bool false, .int .i64 0]) rfl (by kernel_rfl) (zP zaV (zP zeZ (zP (zP zbq (zP zaV zaV)) (zP (zP zbq (zP zbq (zP zbq (zP zbq (zP zaV zaV))))) (zP zi1 (zP zi1 (zP zaV (zP zbq zaV))))))))
theorem ty108 : TyB Tryd.prog 108 16 true = true := by kernel_rfl
theorem zlU : FldB Tryd.prog 106 1 1 1 false = true := by kernel_rfl
theorem zjs : FldB Tryd.prog 106 0 0 1 false = true := by kernel_rfl
theorem bu106 : BuildB Tryd.prog 106 = true := by kernel_rfl
theorem ze106 : ZeroOk Tryd.prog 106 ((GMark.mk false (0 : Int) (0 : Int)) : GMark) := zbR (cs := [.bool false, .int .i64 0, .int .i64 0]) rfl (by kernel_rfl) (zP zbq (zP zaV zaV))
theorem zeL : FldB Tryd.prog 108 2 2 3 true = true := by kernel_rfl
theorem ty106 : TyB Tryd.prog 106 3 true = true := by kernel_rfl
theorem zh3 : FldB Tryd.prog 106 2 2 1 false = true := by kernel_rfl
theorem zbH : FldB Tryd.prog 108 0 0 1 false = true := by kernel_rfl
theorem ze50 : ZeroOk Tryd.prog 50 ((GCon.mk false false false false (0 : Int) (0 : Int)) : GCon) := zbR (cs := [.bool false, .bool false, .bool false, .bool false, .int .i64 0, .int .i64 0]) rfl (by kernel_rfl) (zP zbq (zP zbq (zP zbq (zP zbq (zP zaV zaV)))))
theorem bu50 : BuildB Tryd.prog 50 = true := by kernel_rfl
theorem ty50 : TyB Tryd.prog 50 6 true = true := by kernel_rfl
theorem zlL : FldB Tryd.prog 50 0 0 1 false = true := by kernel_rfl
theorem ziq : FldB Tryd.prog 50 1 1 1 false = true := by kernel_rfl
theorem ty4 : TyB Tryd.prog 4 1 false = true := by kernel_rfl
theorem zhv : FldB Tryd.prog 50 4 4 1 false = true := by kernel_rfl
theorem ty2 : TyB Tryd.prog 2 1 false = true := by kernel_rfl
theorem zij : FldB Tryd.prog 50 2 2 1 false = true := by kernel_rfl
theorem zho : FldB Tryd.prog 50 5 5 1 false = true := by kernel_rfl
theorem zpw : FldB Tryd.prog 50 3 3 1 false = true := by kernel_rfl
theorem zgo : FldB Tryd.prog 108 3 5 6 true = true := by kernel_rfl
theorem zd3 : FldB Tryd.prog 108 4 11 1 false = true := by kernel_rfl
theorem ty51 : TyB Tryd.prog 51 1 false = true := by kernel_rfl
theorem sl51 : SlB Tryd.prog 51 3 true = true := by kernel_rfl
theorem zei : FldB Tryd.prog 108 7 14 1 false = true := by kernel_rfl
theorem zeM : FldB Tryd.prog 108 6 13 1 false = true := by kernel_rfl
theorem zjL : FldB Tryd.prog 67 0 0 1 false = true := by kernel_rfl
theorem bu67 : BuildB Tryd.prog 67 = true := by kernel_rfl
theorem ze67 : ZeroOk Tryd.prog 67 ((GItem.mk (Str.mk []) (0 : Int) false) : GItem) := zbR (cs := [.string ⟨#[]⟩, .int .i64 0, .bool false]) rfl (by kernel_rfl) (zP zeZ (zP zaV zbq))
theorem ty67 : TyB Tryd.prog 67 3 true = true := by kernel_rfl
theorem zhn : FldB Tryd.prog 67 2 2 1 false = true := by kernel_rfl
theorem zdN : FldB Tryd.prog 67 1 1 1 false = true := by kernel_rfl
theorem el51 : elB Tryd.prog 51 3 = true := by kernel_rfl
theorem zhT : appB Tryd.prog 51 51 3 = true := by kernel_rfl
theorem zcT : FldB Tryd.prog 108 5 12 1 false = true := by kernel_rfl
theorem ty52 : TyB Tryd.prog 52 1 false = true := by kernel_rfl
theorem sl52 : SlB Tryd.prog 52 11 true = true := by kernel_rfl
theorem zpz : FldB Tryd.prog 65 5 10 1 false = true := by kernel_rfl
theorem zli : FldB Tryd.prog 65 0 0 1 false = true := by kernel_rfl
theorem bu65 : BuildB Tryd.prog 65 = true := by kernel_rfl
theorem ze65 : ZeroOk Tryd.prog 65 ((GFld.mk (Str.mk []) (0 : Int) false false (Val.mk (0 : Int) (0 : Int) ([] : (List UInt8)) ([] : (List Val)) (0 : Int) ([] : (List Raw))) (0 : Int)) : GFld) := zbR (cs := [.string ⟨#[]⟩, .int .i64 0, .bool false, .bool false, .int .i64 0, .int .i64 0, .slice none 0 0, .slice none 0 0, .int .i64 0, .slice none 0 0, .int .i64 0]) rfl (by kernel_rfl) (zP zeZ (zP zaV (zP zbq (zP zbq (zP znR zaV)))))
theorem ty65 : TyB Tryd.prog 65 11 true = true := by kernel_rfl
theorem zdn : FldB Tryd.prog 65 1 1 1 false = true := by kernel_rfl
theorem zoj : FldB Tryd.prog 65 2 2 1 false = true := by kernel_rfl
theorem ze63 : ZeroOk Tryd.prog 63 ((Val.mk (0 : Int) (0 : Int) ([] : (List UInt8)) ([] : (List Val)) (0 : Int) ([] : (List Raw))) : Val) := zbR (cs := [.int .i64 0, .int .i64 0, .slice none 0 0, .slice none 0 0, .int .i64 0, .slice none 0 0]) rfl (by kernel_rfl) znR
theorem zj6 : FldB Tryd.prog 63 1 1 1 false = true := by kernel_rfl
theorem zfr : FldB Tryd.prog 63 0 0 1 false = true := by kernel_rfl
theorem bu63 : BuildB Tryd.prog 63 = true := by kernel_rfl
theorem ty63 : TyB Tryd.prog 63 6 true = true := by kernel_rfl
theorem zhk : FldB Tryd.prog 63 2 2 1 false = true := by kernel_rfl
theorem el59 : elB Tryd.prog 59 1 = true := by kernel_rfl
theorem zoY : appB Tryd.prog 59 59 1 = true := by kernel_rfl
theorem zla : FldB Tryd.prog 65 3 3 1 false = true := by kernel_rfl
theorem zlB : FldB Tryd.prog 65 4 4 6 true = true := by kernel_rfl
theorem el52 : elB Tryd.prog 52 11 = true := by kernel_rfl
theorem zjy : appB Tryd.prog 52 52 11 = true := by kernel_rfl
theorem zjo : FldB Tryd.prog 108 8 15 1 false = true := by kernel_rfl
theorem zj7 : FldB Tryd.prog 108 1 1 1 false = true := by kernel_rfl
theorem zjv : appB Tryd.prog 27 27 1 = true := by kernel_rfl
theorem ziB : FldB Tryd.prog 30 3 3 1 false = true := by kernel_rfl
theorem ty22 : TyB Tryd.prog 22 1 false = true := by kernel_rfl
theorem el22 : elB Tryd.prog 22 1 = true := by kernel_rfl
theorem zdb : appB Tryd.prog 22 22 1 = true := by kernel_rfl
end Go.Proofs.Q


namespace Go.Proofs.Q
open Go.Sy
set_option maxRecDepth 4000
theorem sl22 : SlB Tryd.prog 22 1 false = true := by kernel_rfl
theorem el45 : elB Tryd.prog 45 1 = true := by kernel_rfl
theorem zoH : appB Tryd.prog 45 45 1 = true := by kernel_rfl
theorem sl45 : SlB Tryd.prog 45 1 false = true := by kernel_rfl
end Go.Proofs.Q


namespace Go.Proofs.Q
open Go.Sy
set_option maxRecDepth 4000
end Go.Proofs.Q


namespace Go.Proofs.Q
open Go.Sy
set_option maxRecDepth 4000
theorem el114 : elB Tryd.prog 114 1 = true := by kernel_rfl
theorem sl114 : SlB Tryd.prog 114 1 false = true := by kernel_rfl
end Go.Proofs.Q


namespace Go.Proofs.Q
open Go.Sy
set_option maxRecDepth 4000
@[reducible] def zdZ : Fld (GMod × Vh × Int) GMod := pf0
@[reducible] def zkm : Fld (Str × (List Str) × (TList Int) × (List GTyp)) Str := pf0
@[reducible] def zk4 : Fld (Str × (List Str) × (TList Int) × (List GTyp)) (List Str) := pf1
@[reducible] def zhc : Fld (Str × (List Str) × (TList Int) × (List GTyp)) (TList Int) := pf2
@[reducible] def zcf : Fld (GMod × Vh × Int) Int := pl2
@[reducible] def zbG : Fld (GMod × Vh × Int) Vh := pf1
@[reducible] def znD : Fld (Str × (List Str) × (TList Int) × (List GTyp)) (List GTyp) := pl3
theorem ze40 : ZeroOk Tryd.prog 40 ((GTab.mk (Str.mk []) ([] : (List Str)) ([] : (List Int)) ([] : (List GTyp))) : GTab) := zbR (cs := [.string ⟨#[]⟩, .slice none 0 0, .slice none 0 0, .slice none 0 0]) rfl (by kernel_rfl) (zP zeZ (zP zbQ (zP zbQ zbQ)))
theorem bu40 : BuildB Tryd.prog 40 = true := by kernel_rfl
theorem ty40 : TyB Tryd.prog 40 4 true = true := by kernel_rfl
theorem zfn : FldB Tryd.prog 120 0 0 5 true = true := by kernel_rfl
theorem bu120 : BuildB Tryd.prog 120 = true := by kernel_rfl
theorem zo8 : ZeroOk Tryd.prog 120 (((GMod.mk (Str.mk []) (0 : Int) ([] : (List Str)) ([] : (List Int)) ([] : (List GNode))), (Vh.mk none 0), (0 : Int)) : (GMod × Vh × Int)) := zbR (cs := [.string ⟨#[]⟩, .int .i64 0, .slice none 0 0, .slice none 0 0, .slice none 0 0, .slice none 0 0, .int .i64 0]) rfl (by kernel_rfl) (zP (zP zeZ (zP zaV (zP zbQ (zP zbQ zbQ)))) (zP zpm zaV))
theorem zog : FldB Tryd.prog 40 0 0 1 false = true := by kernel_rfl
theorem znp : FldB Tryd.prog 40 1 1 1 false = true := by kernel_rfl
theorem zjE : ZeroOk Tryd.prog 40 (((Str.mk []), ([] : (List Str)), (TList.mk none ([] : (List Int))), ([] : (List GTyp))) : (Str × (List Str) × (TList Int) × (List GTyp))) := zbR (cs := [.string ⟨#[]⟩, .slice none 0 0, .slice none 0 0, .slice none 0 0]) rfl (by kernel_rfl) (zP zeZ (zP zbQ (zP zi1 zbQ)))
theorem zjA : FldB Tryd.prog 40 2 2 1 false = true := by kernel_rfl
theorem zdd : FldB Tryd.prog 120 2 6 1 false = true := by kernel_rfl
theorem zcn : FldB Tryd.prog 120 1 5 1 false = true := by kernel_rfl
theorem ty38 : TyB Tryd.prog 38 1 false = true := by kernel_rfl
theorem sl38 : SlB Tryd.prog 38 13 true = true := by kernel_rfl
theorem zka : FldB Tryd.prog 54 6 11 1 false = true := by kernel_rfl
theorem zil : FldB Tryd.prog 54 5 10 1 false = true := by kernel_rfl
theorem zlp : FldB Tryd.prog 54 2 2 6 true = true := by kernel_rfl
theorem zgz : FldB Tryd.prog 54 0 0 1 false = true := by kernel_rfl
theorem bu54 : BuildB Tryd.prog 54 = true := by kernel_rfl
theorem ze54 : ZeroOk Tryd.prog 54 ((GTyp.mk (0 : Int) ([] : (List Tag)) (GCon.mk false false false false (0 : Int) (0 : Int)) ([] : (List GItem)) ([] : (List GFld)) (0 : Int) false (0 : Int)) : GTyp) := zbR (cs := [.int .i64 0, .slice none 0 0, .bool false, .bool false, .bool false, .bool false, .int .i64 0, .int .i64 0, .slice none 0 0, .slice none 0 0, .int .i64 0, .bool false, .int .i64 0]) rfl (by kernel_rfl) (zP zaV (zP zbQ (zP (zP zbq (zP zbq (zP zbq (zP zbq (zP zaV zaV))))) (zP zbQ (zP zbQ (zP zaV (zP zbq zaV)))))))
theorem ty54 : TyB Tryd.prog 54 13 true = true := by kernel_rfl
theorem ze57 : ZeroOk Tryd.prog 57 (Tag.zero : Tag) := zbR (cs := [.int .i64 0, .int .i64 0]) rfl (by kernel_rfl) (zP zaV zaV)
theorem zeE : FldB Tryd.prog 57 1 1 1 false = true := by kernel_rfl
theorem bu57 : BuildB Tryd.prog 57 = true := by kernel_rfl
theorem ty57 : TyB Tryd.prog 57 2 true = true := by kernel_rfl
theorem el48 : elB Tryd.prog 48 2 = true := by kernel_rfl
theorem zeV : FldB Tryd.prog 54 1 1 1 false = true := by kernel_rfl
theorem ty48 : TyB Tryd.prog 48 1 false = true := by kernel_rfl
theorem el38 : elB Tryd.prog 38 13 = true := by kernel_rfl
theorem zmj : appB Tryd.prog 38 38 13 = true := by kernel_rfl
theorem zpO : FldB Tryd.prog 54 7 12 1 false = true := by kernel_rfl
theorem zjR : FldB Tryd.prog 54 3 8 1 false = true := by kernel_rfl
theorem ty59 : TyB Tryd.prog 59 1 false = true := by kernel_rfl
theorem sl59 : SlB Tryd.prog 59 1 false = true := by kernel_rfl
theorem ty5 : TyB Tryd.prog 5 1 false = true := by kernel_rfl
theorem zkt : Tryd.prog.globals.findIdx? (·.name == "unicode/utf8.first") = some 0 := by kernel_rfl
theorem ar164 : ArrB Tryd.prog 164 256 1 false = true := by kernel_rfl
theorem zfI : Tryd.prog.globals.findIdx? (·.name == "unicode/utf8.acceptRanges") = some 1 := by kernel_rfl
theorem ar167 : ArrB Tryd.prog 167 16 2 true = true := by kernel_rfl
theorem ty166 : TyB Tryd.prog 166 2 true = true := by kernel_rfl
theorem ze166 : ZeroOk Tryd.prog 166 (GAcc.zero : GAcc) := zbR (cs := [.int .u8 0, .int .u8 0]) rfl (by kernel_rfl) (zP zpj zpj)
theorem zjU : FldB Tryd.prog 166 0 0 1 false = true := by kernel_rfl
theorem zke : FldB Tryd.prog 166 1 1 1 false = true := by kernel_rfl
theorem sl48 : SlB Tryd.prog 48 2 true = true := by kernel_rfl
theorem zh8 : FldB Tryd.prog 57 0 0 1 false = true := by kernel_rfl
theorem zgi : appB Tryd.prog 48 48 2 = true := by kernel_rfl
theorem zcN : FldB Tryd.prog 54 4 9 1 false = true := by kernel_rfl
theorem el179 : elB Tryd.prog 179 1 = true := by kernel_rfl
theorem zmH : appB Tryd.prog 179 179 1 = true := by kernel_rfl
theorem sl179 : SlB Tryd.prog 179 1 false = true := by kernel_rfl
theorem eq57 : EqOk Tryd.prog 57 Tag := Tag.eqOk Tryd.underlying57 (by kernel_rfl) (by kernel_rfl) Tryd.underlying3
theorem zmZ : appB Tryd.prog 114 114 1 = true := by kernel_rfl
theorem ziI : FldB Tryd.prog 40 3 3 1 false = true := by kernel_rfl
end Go.Proofs.Q


namespace Go.Proofs.Q
open Go.Sy
set_option maxRecDepth 4000
theorem zjw : FldB Tryd.prog 146 0 0 1 false = true := by kernel_rfl
theorem bu146 : BuildB Tryd.prog 146 = true := by kernel_rfl
theorem ze146 : ZeroOk Tryd.prog 146 ((GTys.mk ([] : (List GTyp))) : GTys) := zbR (cs := [.slice none 0 0]) rfl (by kernel_rfl) zbQ
theorem zpM : ZeroOk Tryd.prog 48 ((TList.mk none ([] : (List Tag))) : (TList Tag)) := zk1 (v := .slice none 0 0) rfl (by kernel_rfl) zi1
theorem ze3 : ZeroOk Tryd.prog 3 ((0 : Int) : Int) := zk1 (v := .int .i64 0) rfl (by kernel_rfl) zaV
end Go.Proofs.Q


namespace Go.Proofs.Q
open Go.Sy
set_option maxRecDepth 4000
end Go.Proofs.Q


namespace Go.Proofs.Q
open Go.Sy
set_option maxRecDepth 4000
end Go.Proofs.Q


namespace Go.Proofs.Q
open Go.Sy
set_option maxRecDepth 4000
theorem zd5 : ∀ {a_s : Str} {a_i : Int} {r : UInt8}, zdA a_s a_i = some r → Ctr Tryd.prog 67 [isv (a_s), isv (a_i)] [] (fun R H => R = oneOf [isv (r)] ∧ H = []) := by
 intro a_s a_i r h
 unfold zdA at h
 refine zw Tryd.func67 rfl fun w0 S0 hT => wsr (oA rfl (rnf (zn (wsr (oM rfl (oV (zal rfl rfl) (oM rfl ?_)))))))
 refine zaz (jb 12) je .nil h 5 rfl (fun q1 g1 h => ?_) (fun J2 h hJ2 => ?_)
 ·refine rnf (zf h rfl (fun _ h => ?_) (fun _ h => ?_))
  ·refine wsr (oA rfl (rnf (zN (zB ?_))))
   cases h
   exact zo (.tmp rfl .nil) .nil ⟨rfl, rfl⟩
  refine wkf (wsr (oM rfl (oM rfl (zb h fun y4 hy4 h => oV (zbN y4 st9 rfl rfl hy4) (oA rfl (rnf (zN ?_)))))))
  cases h
  exact zo (.tmp rfl .nil) .nil ⟨rfl, rfl⟩
 refine zC (j := 7) h rfl (fun g3 h => ?_) (fun g3 h => ?_)
 ·exact oP 7 rfl rfl g3 (oP 7 rfl rfl g3 (oP 7 rfl rfl g3 (oP 7 rfl rfl g3 (oV (zr rfl g3 rfl) (hJ2 _ () h _ (ji 5 12 rfl rfl rfl))))))
 exact oK 7 rfl rfl rfl g3 (zq rfl) (oK 7 rfl rfl rfl g3 (zq rfl) (oK 7 rfl rfl rfl g3 (zdm st9 rfl) (oK 7 rfl rfl rfl g3 (zeN rfl rfl) (oV (zs rfl g3 rfl) (hJ2 _ () h _ (ji 5 12 rfl rfl rfl))))))


theorem zkf : ∀ {a_s : Str} {a_i : Int} {r : Int}, zdU a_s a_i = some r → Ctr Tryd.prog 48 [isv (a_s), isv (a_i)] [] (fun R H => R = oneOf [isv (r)] ∧ H = []) := by
 intro a_s a_i r h
 unfold zdU at h
 refine zw Tryd.func48 rfl fun w0 S0 hT => wsr (oA rfl (rnf (zn (zu (zbg (ι := Int) (γ := Unit) (fun q1 g1 => [(1, isv (q1))]) (fun q1 g1 => []) h () (za (j := 1) rfl hI zd) .nil (fun L2 q1 g1 Q99 h hL2 eL2 rL2 => zn (wsr ?_)))))))
 refine oM rfl (oM rfl (oV (zdm st9 rfl) (oV (zal rfl rfl) (rnf (zf h rfl (fun _ h => ?_) (fun _ h => ?_))))))
 ·refine wkf (zu (zu (wsr (oM rfl (oM rfl (zb h fun y51 hy51 h => oV (zbN y51 st9 rfl rfl hy51) (oV (zcx eq5 rfl rfl) ?_)))))))
  refine oM rfl (zaz (jb 20) je .nil h 5 rfl (fun q52 g52 h => ?_) (fun J53 h hJ53 => ?_))
  ·refine oM rfl (zaz (jb 26) je .nil h 5 rfl (fun q56 g56 h => ?_) (fun J57 h hJ57 => ?_))
   ·refine oM rfl (zaz (jb 32) je .nil h 5 rfl (fun q60 g60 h => ?_) (fun J61 h hJ61 => ?_))
    ·refine oA rfl (rnf (zf h rfl (fun _ h => ?_) (fun _ h => ?_)))
     ·exact zj (oM rfl (zE h fun q64 h => oV (zaf rfl rfl q64) (oA rfl (zx (zk (zk (hL2 _ () h _ (ji 19 1 rfl rfl rfl))))))))
     refine wsr (oM rfl (oM rfl (zb h fun y65 hy65 h => oV (zbN y65 st9 rfl rfl hy65) (oV (zcx eq5 rfl rfl) (oM rfl (zaz (jb 46) je .nil h 6 rfl (fun q66 g66 h => ?_) (fun J67 h hJ67 => ?_)))))))
     ·refine oA rfl (rnf (zf h rfl (fun _ h => ?_) (fun _ h => ?_)))
      ·refine wsr (oM rfl (zE h fun q71 h => oV (zaf rfl rfl q71) (oA rfl (rnf (zu (zbg (ι := Int) (γ := Unit) (fun q72 g72 => [(1, isv (q72))]) (fun q72 g72 => []) h () (za (j := 1) rfl hI zd) .nil (fun L73 q72 g72 Q98 h hL73 eL73 rL73 => zn ?_)))))))
       refine wsr (oM rfl (oM rfl (oV (zdm st9 rfl) (oV (zal rfl rfl) (oM rfl (zaz (jb 58) je .nil h 5 rfl (fun q86 g86 h => ?_) (fun J87 h hJ87 => ?_)))))))
       ·refine rnf (zf h rfl (fun _ h => ?_) (fun _ h => ?_))
        ·refine wkf (zu (zn (wsr (oM rfl (oM rfl (zb h fun y90 hy90 h => oV (zbN y90 st9 rfl rfl hy90) (oV (zcx eq5 rfl rfl) ?_)))))))
         refine oM rfl (zaz (jb 69) je .nil h 6 rfl (fun q91 g91 h => ?_) (fun J92 h hJ92 => ?_))
         ·refine rnf (zf h rfl (fun _ h => ?_) (fun _ h => ?_))
          ·refine wsr (oM rfl (zE h fun q96 h => oV (zaf rfl rfl q96) (oA rfl (rnf (zah (zX (zfV rfl ?_)))))))
           exact eL73 _ _ (zK (zk (zk (hL2 _ () h _ (ji 42 1 rfl rfl rfl)))))
          exact wkf (zj (oM rfl (zE h fun q97 h => oV (zaf rfl rfl q97) (oA rfl (zx (zk (hL73 _ () h _ (ji 16 1 rfl rfl rfl))))))))
         refine zC (j := 63) h rfl (fun g93 h => ?_) (fun g93 h => ?_)
         ·exact oK 63 rfl rfl rfl g93 (zq rfl) (oK 63 rfl rfl rfl g93 (zq rfl) (zE h fun q94 h => oK 63 rfl rfl rfl g93 (zaf rfl rfl q94) (zb h fun y95 hy95 h => zaA rfl rfl (dj := 63) rfl g93 (zy (zd5 hy95) hT (s2 rfl rfl) .nil (oK 63 rfl rfl rfl g93 (zcx eq5 rfl rfl) (oV (zr rfl g93 rfl) (hJ92 _ () h _ (ji 6 69 rfl rfl rfl))))))))
         exact oP 63 rfl rfl g93 (oP 63 rfl rfl g93 (oP 63 rfl rfl g93 (oP 63 rfl rfl g93 (oP 63 rfl rfl g93 (oV (zs rfl g93 rfl) (hJ92 _ () h _ (ji 6 69 rfl rfl rfl)))))))
        exact zah (zX (eL73 _ _ (zK (zk (zk (hL2 _ () h _ (ji 33 1 rfl rfl rfl)))))))
       refine zC (j := 53) h rfl (fun g88 h => ?_) (fun g88 h => ?_)
       ·exact oK 53 rfl rfl rfl g88 (zq rfl) (oK 53 rfl rfl rfl g88 (zq rfl) (zb h fun y89 hy89 h => oK 53 rfl rfl rfl g88 (zbN y89 st9 rfl rfl hy89) (oK 53 rfl rfl rfl g88 (zji eq5 rfl rfl) (oV (zr rfl g88 rfl) (hJ87 _ () h _ (ji 5 58 rfl rfl rfl))))))
       exact oP 53 rfl rfl g88 (oP 53 rfl rfl g88 (oP 53 rfl rfl g88 (oP 53 rfl rfl g88 (oV (zs rfl g88 rfl) (hJ87 _ () h _ (ji 5 58 rfl rfl rfl))))))
      refine wsr (oM rfl (oA rfl (rnf (zN (zD (zD (rL2 _ (zD ?_))))))))
      refine zB ?_
      cases h
      exact zo (.tmp rfl .nil) .nil ⟨rfl, rfl⟩
     refine zC (j := 40) h rfl (fun g68 h => ?_) (fun g68 h => ?_)
     ·exact oK 40 rfl rfl rfl g68 (zq rfl) (oK 40 rfl rfl rfl g68 (zq rfl) (zE h fun q69 h => oK 40 rfl rfl rfl g68 (zaf rfl rfl q69) (zb h fun y70 hy70 h => zaA rfl rfl (dj := 40) rfl g68 (zy (zd5 hy70) hT (s2 rfl rfl) .nil (oK 40 rfl rfl rfl g68 (zcx eq5 rfl rfl) (oV (zr rfl g68 rfl) (hJ67 _ () h _ (ji 6 46 rfl rfl rfl))))))))
     exact oP 40 rfl rfl g68 (oP 40 rfl rfl g68 (oP 40 rfl rfl g68 (oP 40 rfl rfl g68 (oP 40 rfl rfl g68 (oV (zs rfl g68 rfl) (hJ67 _ () h _ (ji 6 46 rfl rfl rfl)))))))
    refine zC (j := 27) h rfl (fun g62 h => ?_) (fun g62 h => ?_)
    ·exact oP 27 rfl rfl g62 (oP 27 rfl rfl g62 (oP 27 rfl rfl g62 (oP 27 rfl rfl g62 (oV (zr rfl g62 rfl) (hJ61 _ () h _ (ji 5 32 rfl rfl rfl))))))
    exact oK 27 rfl rfl rfl g62 (zq rfl) (oK 27 rfl rfl rfl g62 (zq rfl) (zb h fun y63 hy63 h => oK 27 rfl rfl rfl g62 (zbN y63 st9 rfl rfl hy63) (oK 27 rfl rfl rfl g62 (zcx eq5 rfl rfl) (oV (zs rfl g62 rfl) (hJ61 _ () h _ (ji 5 32 rfl rfl rfl))))))
   refine zC (j := 21) h rfl (fun g58 h => ?_) (fun g58 h => ?_)
   ·exact oP 21 rfl rfl g58 (oP 21 rfl rfl g58 (oP 21 rfl rfl g58 (oP 21 rfl rfl g58 (oV (zr rfl g58 rfl) (hJ57 _ () h _ (ji 5 26 rfl rfl rfl))))))
   exact oK 21 rfl rfl rfl g58 (zq rfl) (oK 21 rfl rfl rfl g58 (zq rfl) (zb h fun y59 hy59 h => oK 21 rfl rfl rfl g58 (zbN y59 st9 rfl rfl hy59) (oK 21 rfl rfl rfl g58 (zcx eq5 rfl rfl) (oV (zs rfl g58 rfl) (hJ57 _ () h _ (ji 5 26 rfl rfl rfl))))))
  refine zC (j := 15) h rfl (fun g54 h => ?_) (fun g54 h => ?_)
  ·exact oP 15 rfl rfl g54 (oP 15 rfl rfl g54 (oP 15 rfl rfl g54 (oP 15 rfl rfl g54 (oV (zr rfl g54 rfl) (hJ53 _ () h _ (ji 5 20 rfl rfl rfl))))))
  exact oK 15 rfl rfl rfl g54 (zq rfl) (oK 15 rfl rfl rfl g54 (zq rfl) (zb h fun y55 hy55 h => oK 15 rfl rfl rfl g54 (zbN y55 st9 rfl rfl hy55) (oK 15 rfl rfl rfl g54 (zcx eq5 rfl rfl) (oV (zs rfl g54 rfl) (hJ53 _ () h _ (ji 5 20 rfl rfl rfl))))))
 refine zah (zX (eL2 _ _ (zK (zA (wsr (oM rfl (oA rfl (rnf ?_))))))))
 refine zN ?_
 cases h
 exact zo (.tmp rfl .nil) .nil ⟨rfl, rfl⟩


theorem zfo : ∀ {a_c : UInt8} {r : Bool}, zdf a_c = some r → Ctr Tryd.prog 68 [isv (a_c)] [] (fun R H => R = oneOf [isv (r)] ∧ H = []) := by
 intro a_c r h
 unfold zdf at h
 refine zw Tryd.func68 rfl fun w0 S0 hT => wsr (oA rfl (rnf (wsr (oM rfl (oV (zii rfl rfl) (oM rfl (zaz (jb 8) je .nil h 3 rfl (fun q1 g1 h => ?_) (fun J2 h hJ2 => ?_))))))))
 ·refine oM rfl (zaz (jb 16) je .nil h 7 rfl (fun q4 g4 h => ?_) (fun J5 h hJ5 => ?_))
  ·refine oA rfl (rnf (zN ?_))
   cases h
   exact zo (.tmp rfl .nil) .nil ⟨rfl, rfl⟩
  refine zC (j := 9) h rfl (fun g6 h => ?_) (fun g6 h => ?_)
  ·exact oP 9 rfl rfl g6 (oP 9 rfl rfl g6 (oP 9 rfl rfl g6 (zz rfl (dj := 12) rfl (zz rfl (dj := 12) rfl (oP 9 rfl rfl g6 (oV (zr rfl g6 rfl) (hJ5 _ () h _ (ji 7 16 rfl rfl rfl))))))))
  refine oK 9 rfl rfl rfl g6 (zq rfl) (oK 9 rfl rfl rfl g6 (zii rfl rfl) (oK 9 rfl rfl rfl g6 (zq rfl) (zaz (jb 15) je .nil h 3 rfl (fun q7 g7 h => ?_) (fun J8 h hJ8 => ?_))))
  ·exact oV (zs rfl g6 rfl) (hJ5 _ () h _ (ji 5 16 rfl rfl rfl))
  refine zC (j := 12) h rfl (fun g9 h => ?_) (fun g9 h => ?_)
  ·exact oK 12 rfl rfl rfl g9 (zq rfl) (oK 12 rfl rfl rfl g9 (zit rfl rfl) (oK 9 rfl rfl rfl g6 (zr rfl g9 rfl) (hJ8 _ () h _ (ji 3 15 rfl rfl rfl))))
  exact oP 12 rfl rfl g9 (oP 12 rfl rfl g9 (oK 9 rfl rfl rfl g6 (zs rfl g9 rfl) (hJ8 _ () h _ (ji 3 15 rfl rfl rfl))))
 refine zC (j := 5) h rfl (fun g3 h => ?_) (fun g3 h => ?_)
 ·exact oK 5 rfl rfl rfl g3 (zq rfl) (oK 5 rfl rfl rfl g3 (zit rfl rfl) (oV (zr rfl g3 rfl) (hJ2 _ () h _ (ji 3 8 rfl rfl rfl))))
 exact oP 5 rfl rfl g3 (oP 5 rfl rfl g3 (oV (zs rfl g3 rfl) (hJ2 _ () h _ (ji 3 8 rfl rfl rfl))))


theorem zd7 : ∀ {a_c : UInt8} {r : Bool}, zcW a_c = some r → Ctr Tryd.prog 71 [isv (a_c)] [] (fun R H => R = oneOf [isv (r)] ∧ H = []) := by
 intro a_c r h
 unfold zcW at h
 refine zw Tryd.func71 rfl fun w0 S0 hT => wsr (oA rfl (rnf (wsr (oM rfl (oV (zii rfl rfl) (oM rfl (zaz (jb 8) je .nil h 3 rfl (fun q1 g1 h => ?_) (fun J2 h hJ2 => ?_))))))))
 ·refine oA rfl (rnf (zN ?_))
  cases h
  exact zo (.tmp rfl .nil) .nil ⟨rfl, rfl⟩
 refine zC (j := 5) h rfl (fun g3 h => ?_) (fun g3 h => ?_)
 ·exact oK 5 rfl rfl rfl g3 (zq rfl) (oK 5 rfl rfl rfl g3 (zit rfl rfl) (oV (zr rfl g3 rfl) (hJ2 _ () h _ (ji 3 8 rfl rfl rfl))))
 exact oP 5 rfl rfl g3 (oP 5 rfl rfl g3 (oV (zs rfl g3 rfl) (hJ2 _ () h _ (ji 3 8 rfl rfl rfl))))


theorem zlK : ∀ {a_s : Str} {a_i : Int} {r : Int}, zey a_s a_i = some r → Ctr Tryd.prog 69 [isv (a_s), isv (a_i)] [] (fun R H => R = oneOf [isv (r)] ∧ H = []) := by
 intro a_s a_i r h
 unfold zey at h
 refine zw Tryd.func69 rfl fun w0 S0 hT => wsr (oA rfl (rnf (wsr (oM rfl (oA rfl (rnf (zn ?_)))))))
 refine zu (zbg (ι := Int) (γ := Unit) (fun q1 g1 => [(1, isv (q1))]) (fun q1 g1 => []) h () (za (j := 1) rfl hI zd) .nil (fun L2 q1 g1 Q55 h hL2 eL2 rL2 => zn (wsr (oM rfl (oM rfl (oV (zdm st9 rfl) (oV (zal rfl rfl) (oM rfl ?_))))))))
 refine zaz (jb 35) je .nil h 24 rfl (fun q29 g29 h => ?_) (fun J30 h hJ30 => ?_)
 ·refine rnf (zf h rfl (fun _ h => ?_) (fun _ h => ?_))
  ·refine wkf (zu (zj (oM rfl (zE h fun q48 h => oV (zaf rfl rfl q48) (oA rfl (zx (zk ?_)))))))
   exact hL2 _ () h _ (ji 10 1 rfl rfl rfl)
  refine zah (zX (eL2 _ _ (zK (zA (zn (wsr (oM rfl (oM rfl ?_))))))))
  refine zE h fun q49 h => oV (zbZ rfl rfl q49) (zb h fun y50 hy50 h => oV (zbN y50 st9 rfl rfl hy50) (oV (zcx eq5 rfl rfl) (oM rfl (zaz (jb 48) je .nil h 5 rfl (fun q51 g51 h => ?_) (fun J52 h hJ52 => ?_)))))
  ·refine rnf (zf h rfl (fun _ h => ?_) (fun _ h => ?_))
   ·refine wsr (oA rfl (rnf (zN (zB ?_))))
    cases h
    exact zo (.tmp rfl .nil) .nil ⟨rfl, rfl⟩
   refine wkf (wsr (oM rfl (oA rfl (rnf (zN ?_)))))
   cases h
   exact zo (.tmp rfl .nil) .nil ⟨rfl, rfl⟩
  refine zC (j := 43) h rfl (fun g53 h => ?_) (fun g53 h => ?_)
  ·exact oP 43 rfl rfl g53 (oP 43 rfl rfl g53 (oP 43 rfl rfl g53 (oP 43 rfl rfl g53 (oV (zr rfl g53 rfl) (hJ52 _ () h _ (ji 5 48 rfl rfl rfl))))))
  exact oK 43 rfl rfl rfl g53 (zq rfl) (oK 43 rfl rfl rfl g53 (zq rfl) (zE h fun q54 h => oK 43 rfl rfl rfl g53 (zbZ rfl rfl q54) (oK 43 rfl rfl rfl g53 (zbY rfl rfl) (oV (zs rfl g53 rfl) (hJ52 _ () h _ (ji 5 48 rfl rfl rfl))))))
 refine zC (j := 11) h rfl (fun g31 h => ?_) (fun g31 h => ?_)
 ·refine oK 11 rfl rfl rfl g31 (zq rfl) (oK 11 rfl rfl rfl g31 (zq rfl) (zb h fun y32 hy32 h => oK 11 rfl rfl rfl g31 (zbN y32 st9 rfl rfl hy32) (zb h fun y33 hy33 h => zaA rfl rfl (dj := 11) rfl g31 (zy (zfo hy33) hT (s1 rfl) .nil (oK 11 rfl rfl rfl g31 (zq rfl) (zaz (jb 21) je .nil h 5 rfl (fun q34 g34 h => ?_) (fun J35 h hJ35 => ?_)))))))
  ·refine oK 11 rfl rfl rfl g31 (zq rfl) (zaz (jb 34) je .nil h 12 rfl (fun q39 g39 h => ?_) (fun J40 h hJ40 => ?_))
   ·exact oV (zr rfl g31 rfl) (hJ30 _ () h _ (ji 9 35 rfl rfl rfl))
   refine zC (j := 22) h rfl (fun g41 h => ?_) (fun g41 h => ?_)
   ·refine oP 22 rfl rfl g41 (oP 22 rfl rfl g41 (oP 22 rfl rfl g41 (oP 22 rfl rfl g41 (oP 22 rfl rfl g41 (zz rfl (dj := 27) rfl (zz rfl (dj := 27) rfl (zz rfl (dj := 27) rfl (zz rfl (dj := 27) rfl ?_))))))))
    exact zz rfl (dj := 27) rfl (oP 22 rfl rfl g41 (oK 11 rfl rfl rfl g31 (zr rfl g41 rfl) (hJ40 _ () h _ (ji 12 34 rfl rfl rfl))))
   refine oK 22 rfl rfl rfl g41 (zq rfl) (oK 22 rfl rfl rfl g41 (zq rfl) (zb h fun y42 hy42 h => oK 22 rfl rfl rfl g41 (zbN y42 st9 rfl rfl hy42) (oK 22 rfl rfl rfl g41 (zcx eq5 rfl rfl) (oK 22 rfl rfl rfl g41 (zq rfl) (zaz (jb 33) je .nil h 6 rfl (fun q43 g43 h => ?_) (fun J44 h hJ44 => ?_))))))
   ·exact oK 11 rfl rfl rfl g31 (zs rfl g41 rfl) (hJ40 _ () h _ (ji 7 34 rfl rfl rfl))
   refine zC (j := 27) h rfl (fun g45 h => ?_) (fun g45 h => ?_)
   ·exact oK 27 rfl rfl rfl g45 (zq rfl) (oK 27 rfl rfl rfl g45 (zq rfl) (zE h fun q46 h => oK 27 rfl rfl rfl g45 (zaf rfl rfl q46) (zb h fun y47 hy47 h => zaA rfl rfl (dj := 27) rfl g45 (zy (zd5 hy47) hT (s2 rfl rfl) .nil (oK 27 rfl rfl rfl g45 (zji eq5 rfl rfl) (oK 22 rfl rfl rfl g41 (zr rfl g45 rfl) (hJ44 _ () h _ (ji 6 33 rfl rfl rfl))))))))
   exact oP 27 rfl rfl g45 (oP 27 rfl rfl g45 (oP 27 rfl rfl g45 (oP 27 rfl rfl g45 (oP 27 rfl rfl g45 (oK 22 rfl rfl rfl g41 (zs rfl g45 rfl) (hJ44 _ () h _ (ji 6 33 rfl rfl rfl)))))))
  refine zC (j := 16) h rfl (fun g36 h => ?_) (fun g36 h => ?_)
  ·exact oP 16 rfl rfl g36 (oP 16 rfl rfl g36 (oP 16 rfl rfl g36 (oP 16 rfl rfl g36 (oK 11 rfl rfl rfl g31 (zr rfl g36 rfl) (hJ35 _ () h _ (ji 5 21 rfl rfl rfl))))))
  exact oK 16 rfl rfl rfl g36 (zq rfl) (oK 16 rfl rfl rfl g36 (zq rfl) (zb h fun y37 hy37 h => oK 16 rfl rfl rfl g36 (zbN y37 st9 rfl rfl hy37) (zb h fun y38 hy38 h => zaA rfl rfl (dj := 16) rfl g36 (zy (zd7 hy38) hT (s1 rfl) .nil (oK 11 rfl rfl rfl g31 (zs rfl g36 rfl) (hJ35 _ () h _ (ji 5 21 rfl rfl rfl)))))))
 refine oP 11 rfl rfl g31 (oP 11 rfl rfl g31 (oP 11 rfl rfl g31 (oP 11 rfl rfl g31 (oP 11 rfl rfl g31 (zz rfl (dj := 16) rfl (zz rfl (dj := 16) rfl (zz rfl (dj := 16) rfl (zz rfl (dj := 16) rfl ?_))))))))
 refine oP 11 rfl rfl g31 (oP 11 rfl rfl g31 (zz rfl (dj := 22) rfl (zz rfl (dj := 22) rfl (zz rfl (dj := 22) rfl (zz rfl (dj := 22) rfl (zz rfl (dj := 22) rfl (zz rfl (dj := 27) rfl (zz rfl (dj := 27) rfl ?_))))))))
 exact zz rfl (dj := 27) rfl (zz rfl (dj := 27) rfl (zz rfl (dj := 27) rfl (zz rfl (dj := 22) rfl (oP 11 rfl rfl g31 (oV (zs rfl g31 rfl) (hJ30 _ () h _ (ji 24 35 rfl rfl rfl)))))))


theorem zkP : ∀  {r : (List Str)}, zff  = some r → Ctr Tryd.prog 95 [] [] (fun R H => R = oneOf [isv (r)] ∧ H = []) := by
 intro  r h
 unfold zff at h
 refine zw Tryd.func95 rfl fun w0 S0 hT => wsr (oA rfl (rnf (wsr ?_)))
 refine oT (zS (l := ([(Str.mk [68, 69, 70, 73, 78, 73, 84, 73, 79, 78, 83]), (Str.mk [69, 88, 80, 76, 73, 67, 73, 84]), (Str.mk [73, 77, 80, 76, 73, 67, 73, 84]), (Str.mk [65, 85, 84, 79, 77, 65, 84, 73, 67]), (Str.mk [84, 65, 71, 83]), (Str.mk [66, 69, 71, 73, 78]), (Str.mk [69, 78, 68]), (Str.mk [66, 79, 79, 76, 69, 65, 78]), (Str.mk [73, 78, 84, 69, 71, 69, 82]), (Str.mk [69, 78, 85, 77, 69, 82, 65, 84, 69, 68]), (Str.mk [78, 85, 76, 76]), (Str.mk [79, 67, 84, 69, 84]), (Str.mk [83, 84, 82, 73, 78, 71]), (Str.mk [85, 84, 70, 56, 83, 116, 114, 105, 110, 103]), (Str.mk [83, 69, 81, 85, 69, 78, 67, 69]), (Str.mk [83, 69, 84]), (Str.mk [67, 72, 79, 73, 67, 69]), (Str.mk [79, 70]), (Str.mk [79, 80, 84, 73, 79, 78, 65, 76]), (Str.mk [68, 69, 70, 65, 85, 76, 84]), (Str.mk [83, 73, 90, 69]), (Str.mk [77, 73, 78]), (Str.mk [77, 65, 88]), (Str.mk [84, 82, 85, 69]), (Str.mk [70, 65, 76, 83, 69])] : (List Str))) el27 (.cons rfl hI (.cons rfl hI (.cons rfl hI (.cons rfl hI (.cons rfl hI (.cons rfl hI (.cons rfl hI (.cons rfl hI (.cons rfl hI (.cons rfl hI (.cons rfl hI (.cons rfl hI (.cons rfl hI (.cons rfl hI (.cons rfl hI (.cons rfl hI (.cons rfl hI (.cons rfl hI (.cons rfl hI (.cons rfl hI (.cons rfl hI (.cons rfl hI (.cons rfl hI (.cons rfl hI (.cons rfl hI .nil))))))))))))))))))))))))) rfl rfl ?_)
 refine oA rfl (rnf (zN ?_))
 cases h
 exact zo (.as rfl zJ .nil) .nil ⟨rfl, rfl⟩


theorem zgv : ∀ {a_l : (List Str)} {a_x : Str} {r : Bool}, zds a_l a_x = some r → Ctr Tryd.prog 86 [isv (a_l), isv (a_x)] [] (fun R H => R = oneOf [isv (r)] ∧ H = []) := by
 intro a_l a_x r h
 unfold zds at h
 refine zw Tryd.func86 rfl fun w0 S0 hT => wsr (oA rfl (rnf (zn (wsr (oA rfl (rnf (zu ?_)))))))
 refine zbg (ι := Int) (γ := Unit) (fun q1 g1 => [(5, isv (q1))]) (fun q1 g1 => []) h () (za (j := 5) rfl hI zd) .nil (fun L2 q1 g1 Q7 h hL2 eL2 rL2 => zn (wsr (oM rfl (oM rfl (oV (za6 (l := a_l) rfl hI sl27) (oV (zal rfl rfl) (rnf (zf h rfl (fun _ h => ?_) (fun _ h => ?_)))))))))
 ·refine wkf (zn (zu (wsr (oM rfl (oM rfl (zb h fun y5 hy5 h => oV (zaK (l := a_l) rfl hI rfl sl27 hy5) (oV (zg ty9 rfl) ?_)))))))
  refine oM rfl (oV (zcx eq9 rfl rfl) (rnf (zf h rfl (fun _ h => ?_) (fun _ h => ?_))))
  ·refine wsr (oA rfl (rnf (zN (zD (zB (rL2 _ (zD (zB ?_))))))))
   cases h
   exact zo (.tmp rfl .nil) .nil ⟨rfl, rfl⟩
  refine zW (zk (zA (zj (oM rfl (zE h fun q6 h => oV (zaf rfl rfl q6) (oA rfl (zx ?_)))))))
  exact hL2 _ () h _ (ji 14 5 rfl rfl rfl)
 refine zah (zX (eL2 _ _ (zK (zA (wsr (oA rfl (rnf (zN ?_))))))))
 cases h
 exact zo (.tmp rfl .nil) .nil ⟨rfl, rfl⟩


theorem zlP : ∀ {a_s : Str} {r : Bool}, zeG a_s = some r → Ctr Tryd.prog 70 [isv (a_s)] [] (fun R H => R = oneOf [isv (r)] ∧ H = []) := by
 intro a_s r h
 unfold zeG at h
 refine zw Tryd.func70 rfl fun w0 S0 hT => wsr (oA rfl (rnf (wsr (zb h fun y1 hy1 h => oT (zy (zkP hy1) hT .nil .nil (oM rfl (zb h fun y2 hy2 h => ?_)))))))
 refine oT (zy (zgv hy2) hT (s2 rfl rfl) .nil (oA rfl (rnf (zN ?_))))
 cases h
 exact zo (.tmp rfl .nil) .nil ⟨rfl, rfl⟩


theorem zj5 : ∀ {a_s : Str} {a_i : Int} {r : Int}, zdk a_s a_i = some r → Ctr Tryd.prog 72 [isv (a_s), isv (a_i)] [] (fun R H => R = oneOf [isv (r)] ∧ H = []) := by
 intro a_s a_i r h
 unfold zdk at h
 refine zw Tryd.func72 rfl fun w0 S0 hT => wsr (oA rfl (rnf (wsr (oM rfl (oM rfl (zb h fun y1 hy1 h => oV (zbN y1 st9 rfl rfl hy1) ?_))))))
 refine oV (zcx eq5 rfl rfl) (oA rfl (rnf (zn (wsr (oM rfl (rnf (zdg (ι := Int) (γ := Unit) (fun q2 g2 => [(1, isv (q2))]) (fun q2 g2 => []) .nil h (fun q2 g2 h => ?_) (fun J3 h hJ3 => ?_))))))))
 ·refine wsr (oM rfl (oA rfl (rnf (wsr (oA rfl (rnf (zn (zu ?_))))))))
  refine zbg (ι := Int × UInt64) (γ := Unit) (fun q5 g5 => [(1, isv (q5.1)), (7, isv (q5.2))]) (fun q5 g5 => []) h () (za (j := 1) rfl hI (za (j := 7) rfl hI zd)) .nil (fun L6 q5 g5 Q91 h hL6 eL6 rL6 => zn (wsr (oM rfl (oM rfl (oV (zdm st9 rfl) (oV (zal rfl rfl) (oM rfl (zaz (jb 26) je .nil h 5 rfl (fun q49 g49 h => ?_) (fun J50 h hJ50 => ?_)))))))))
  ·refine rnf (zf h rfl (fun _ h => ?_) (fun _ h => ?_))
   ·refine wkf (zu (zn (wsr (oM rfl (oM rfl (zE h fun q54 h => oV (zbZ rfl rfl q54) (oV (zal rfl rfl) ?_)))))))
    refine rnf (zdg (ι := UInt64) (γ := Unit) (fun q55 g55 => [(7, isv (q55))]) (fun q55 g55 => []) .nil h (fun q55 g55 h => ?_) (fun J56 h hJ56 => ?_))
    ·exact zj (oM rfl (zE h fun q58 h => oV (zaf rfl rfl q58) (oA rfl (zx (zk (hL6 _ () h _ (ze 16 rfl rfl (za (j := 1) rfl hI (za (j := 7) rfl hI zd)) .nil)))))))
    refine zf h rfl (fun _ h => ?_) (fun _ h => ?_)
    ·refine zj (oM rfl (oV (zlS rfl rfl) (oM rfl (oM rfl (zb h fun y57 hy57 h => oV (zbN y57 st9 rfl rfl hy57) (oV (zjW rfl rfl) (oV (zd4 Tryd.underlying5 Tryd.underlying26 rfl) ?_)))))))
     exact oV (zhU rfl rfl) (oA rfl (zx (hJ56 _ () h _ (ji 9 7 rfl rfl rfl))))
    exact zW (hJ56 _ () h _ (ji 0 7 rfl rfl rfl))
   refine zah (zX (eL6 _ _ (zK (zA (wsr (oM rfl (oM rfl (zE h fun q59 h => ?_))))))))
   refine oV (zbZ rfl rfl q59) (oA rfl (rnf (zn (wsr (oM rfl (oV (zal rfl rfl) (oM rfl (zaz (jb 49) je .nil h 3 rfl (fun q60 g60 h => ?_) (fun J61 h hJ61 => ?_)))))))))
   ·refine oM rfl (zaz (jb 59) je .nil h 9 rfl (fun q63 g63 h => ?_) (fun J64 h hJ64 => ?_))
    ·refine oM rfl (zaz (jb 68) je .nil h 8 rfl (fun q70 g70 h => ?_) (fun J71 h hJ71 => ?_))
     ·refine oM rfl (zaz (jb 74) je .nil h 5 rfl (fun q77 g77 h => ?_) (fun J78 h hJ78 => ?_))
      ·refine oM rfl (zaz (jb 78) je .nil h 3 rfl (fun q82 g82 h => ?_) (fun J83 h hJ83 => ?_))
       ·refine oM rfl (zaz (jb 86) je .nil h 7 rfl (fun q85 g85 h => ?_) (fun J86 h hJ86 => ?_))
        ·refine rnf (zf h rfl (fun _ h => ?_) (fun _ h => ?_))
         ·refine wsr (oA rfl (rnf (zN (zB ?_))))
          cases h
          exact zo (.tmp rfl .nil) .nil ⟨rfl, rfl⟩
         refine wkf (wsr (oM rfl (oA rfl (rnf (zN ?_)))))
         cases h
         exact zo (.tmp rfl .nil) .nil ⟨rfl, rfl⟩
        refine zC (j := 79) h rfl (fun g87 h => ?_) (fun g87 h => ?_)
        ·exact oP 79 rfl rfl g87 (oP 79 rfl rfl g87 (oP 79 rfl rfl g87 (zz rfl (dj := 82) rfl (zz rfl (dj := 82) rfl (oP 79 rfl rfl g87 (oV (zr rfl g87 rfl) (hJ86 _ () h _ (ji 7 86 rfl rfl rfl))))))))
        refine oK 79 rfl rfl rfl g87 (zq rfl) (oK 79 rfl rfl rfl g87 (zbL rfl) (oK 79 rfl rfl rfl g87 (zq rfl) (zaz (jb 85) je .nil h 3 rfl (fun q88 g88 h => ?_) (fun J89 h hJ89 => ?_))))
        ·exact oV (zs rfl g87 rfl) (hJ86 _ () h _ (ji 5 86 rfl rfl rfl))
        refine zC (j := 82) h rfl (fun g90 h => ?_) (fun g90 h => ?_)
        ·exact oK 82 rfl rfl rfl g90 (zq rfl) (oK 82 rfl rfl rfl g90 (zh1 rfl rfl) (oK 79 rfl rfl rfl g87 (zr rfl g90 rfl) (hJ89 _ () h _ (ji 3 85 rfl rfl rfl))))
        exact oP 82 rfl rfl g90 (oP 82 rfl rfl g90 (oK 79 rfl rfl rfl g87 (zs rfl g90 rfl) (hJ89 _ () h _ (ji 3 85 rfl rfl rfl))))
       refine zC (j := 75) h rfl (fun g84 h => ?_) (fun g84 h => ?_)
       ·exact oP 75 rfl rfl g84 (oP 75 rfl rfl g84 (oV (zr rfl g84 rfl) (hJ83 _ () h _ (ji 3 78 rfl rfl rfl))))
       exact oK 75 rfl rfl rfl g84 (zq rfl) (oK 75 rfl rfl rfl g84 (zoE rfl rfl) (oV (zs rfl g84 rfl) (hJ83 _ () h _ (ji 3 78 rfl rfl rfl))))
      refine zC (j := 69) h rfl (fun g79 h => ?_) (fun g79 h => ?_)
      ·exact oP 69 rfl rfl g79 (oP 69 rfl rfl g79 (oP 69 rfl rfl g79 (oP 69 rfl rfl g79 (oV (zr rfl g79 rfl) (hJ78 _ () h _ (ji 5 74 rfl rfl rfl))))))
      exact oK 69 rfl rfl rfl g79 (zq rfl) (oK 69 rfl rfl rfl g79 (zq rfl) (zb h fun y80 hy80 h => zaA rfl rfl (dj := 69) rfl g79 (zy (zd5 hy80) hT (s2 rfl rfl) .nil (zb h fun y81 hy81 h => zaA rfl rfl (dj := 69) rfl g79 (zy (zfo hy81) hT (s1 rfl) .nil (oV (zs rfl g79 rfl) (hJ78 _ () h _ (ji 5 74 rfl rfl rfl))))))))
     refine zC (j := 60) h rfl (fun g72 h => ?_) (fun g72 h => ?_)
     ·exact oP 60 rfl rfl g72 (oP 60 rfl rfl g72 (zz rfl (dj := 62) rfl (zz rfl (dj := 62) rfl (zz rfl (dj := 62) rfl (zz rfl (dj := 62) rfl (oP 60 rfl rfl g72 (oV (zr rfl g72 rfl) (hJ71 _ () h _ (ji 8 68 rfl rfl rfl)))))))))
     refine oK 60 rfl rfl rfl g72 (zq rfl) (oK 60 rfl rfl rfl g72 (zq rfl) (zaz (jb 67) je .nil h 5 rfl (fun q73 g73 h => ?_) (fun J74 h hJ74 => ?_)))
     ·exact oV (zs rfl g72 rfl) (hJ71 _ () h _ (ji 4 68 rfl rfl rfl))
     refine zC (j := 62) h rfl (fun g75 h => ?_) (fun g75 h => ?_)
     ·exact oK 62 rfl rfl rfl g75 (zq rfl) (oK 62 rfl rfl rfl g75 (zq rfl) (zb h fun y76 hy76 h => oK 62 rfl rfl rfl g75 (zbN y76 st9 rfl rfl hy76) (oK 62 rfl rfl rfl g75 (zcx eq5 rfl rfl) (oK 60 rfl rfl rfl g72 (zr rfl g75 rfl) (hJ74 _ () h _ (ji 5 67 rfl rfl rfl))))))
     exact oP 62 rfl rfl g75 (oP 62 rfl rfl g75 (oP 62 rfl rfl g75 (oP 62 rfl rfl g75 (oK 60 rfl rfl rfl g72 (zs rfl g75 rfl) (hJ74 _ () h _ (ji 5 67 rfl rfl rfl))))))
    refine zC (j := 50) h rfl (fun g65 h => ?_) (fun g65 h => ?_)
    ·refine oP 50 rfl rfl g65 (oP 50 rfl rfl g65 (oP 50 rfl rfl g65 (zz rfl (dj := 53) rfl (zz rfl (dj := 53) rfl (zz rfl (dj := 53) rfl (zz rfl (dj := 53) rfl (oP 50 rfl rfl g65 (oV (zr rfl g65 rfl) ?_))))))))
     exact hJ64 _ () h _ (ji 9 59 rfl rfl rfl)
    refine oK 50 rfl rfl rfl g65 (zq rfl) (oK 50 rfl rfl rfl g65 (zbY rfl rfl) (oK 50 rfl rfl rfl g65 (zq rfl) (zaz (jb 58) je .nil h 5 rfl (fun q66 g66 h => ?_) (fun J67 h hJ67 => ?_))))
    ·exact oV (zs rfl g65 rfl) (hJ64 _ () h _ (ji 5 59 rfl rfl rfl))
    refine zC (j := 53) h rfl (fun g68 h => ?_) (fun g68 h => ?_)
    ·exact oK 53 rfl rfl rfl g68 (zq rfl) (oK 53 rfl rfl rfl g68 (zq rfl) (zb h fun y69 hy69 h => oK 53 rfl rfl rfl g68 (zbN y69 st9 rfl rfl hy69) (oK 53 rfl rfl rfl g68 (zcx eq5 rfl rfl) (oK 50 rfl rfl rfl g65 (zr rfl g68 rfl) (hJ67 _ () h _ (ji 5 58 rfl rfl rfl))))))
    exact oP 53 rfl rfl g68 (oP 53 rfl rfl g68 (oP 53 rfl rfl g68 (oP 53 rfl rfl g68 (oK 50 rfl rfl rfl g65 (zs rfl g68 rfl) (hJ67 _ () h _ (ji 5 58 rfl rfl rfl))))))
   refine zC (j := 46) h rfl (fun g62 h => ?_) (fun g62 h => ?_)
   ·exact oP 46 rfl rfl g62 (oP 46 rfl rfl g62 (oV (zr rfl g62 rfl) (hJ61 _ () h _ (ji 3 49 rfl rfl rfl))))
   exact oK 46 rfl rfl rfl g62 (zq rfl) (oK 46 rfl rfl rfl g62 (zbY rfl rfl) (oV (zs rfl g62 rfl) (hJ61 _ () h _ (ji 3 49 rfl rfl rfl))))
  refine zC (j := 21) h rfl (fun g51 h => ?_) (fun g51 h => ?_)
  ·exact oK 21 rfl rfl rfl g51 (zq rfl) (oK 21 rfl rfl rfl g51 (zq rfl) (zb h fun y52 hy52 h => oK 21 rfl rfl rfl g51 (zbN y52 st9 rfl rfl hy52) (zb h fun y53 hy53 h => zaA rfl rfl (dj := 21) rfl g51 (zy (zd7 hy53) hT (s1 rfl) .nil (oV (zr rfl g51 rfl) (hJ50 _ () h _ (ji 5 26 rfl rfl rfl)))))))
  exact oP 21 rfl rfl g51 (oP 21 rfl rfl g51 (oP 21 rfl rfl g51 (oP 21 rfl rfl g51 (oV (zs rfl g51 rfl) (hJ50 _ () h _ (ji 5 26 rfl rfl rfl))))))
 refine zf h rfl (fun _ h => ?_) (fun _ h => ?_)
 ·exact zj (oM rfl (zE h fun q4 h => oV (zaf rfl rfl q4) (oA rfl (zx (hJ3 _ () h _ (ji 3 1 rfl rfl rfl))))))
 exact zW (hJ3 _ () h _ (ji 0 1 rfl rfl rfl))


theorem zmy : ∀ {a_s : Str} {a_i : Int} {r : Int × Str}, zfj a_s a_i = some r → Ctr Tryd.prog 73 [isv (a_s), isv (a_i)] [] (fun R H => R = oneOf [isv (r.1), isv (r.2)] ∧ H = []) := by
 intro a_s a_i r h
 unfold zfj at h
 refine zw Tryd.func73 rfl fun w0 S0 hT => wsr (oA rfl (oA rfl (rnf (wsr (oM rfl (zE h fun q1 h => oV (zaf rfl rfl q1) ?_))))))
 refine oA rfl (rnf (wsr (oM rfl (oA rfl (rnf (zn (zu (zbg (ι := Int) (γ := Unit) (fun q2 g2 => [(1, isv (q2))]) (fun q2 g2 => []) h () (za (j := 1) rfl hI zd) .nil (fun L3 q2 g2 Q58 h hL3 eL3 rL3 => ?_)))))))))
 refine zn (wsr (oM rfl (oM rfl (oV (zdm st9 rfl) (oV (zal rfl rfl) (oM rfl (zaz (jb 31) je .nil h 17 rfl (fun q31 g31 h => ?_) (fun J32 h hJ32 => ?_))))))))
 ·refine rnf (zf h rfl (fun _ h => ?_) (fun _ h => ?_))
  ·refine wkf (zu (zj (oM rfl (zE h fun q44 h => oV (zaf rfl rfl q44) (oA rfl (zx (zk ?_)))))))
   exact hL3 _ () h _ (ji 10 1 rfl rfl rfl)
  refine zah (zX (eL3 _ _ (zK (zA (zn (wsr (oM rfl (oM rfl ?_))))))))
  refine zE h fun q45 h => oV (zbZ rfl rfl q45) (zad h fun q46 h => oV (zpE rfl rfl q46) (oV (zcq rfl rfl) (oM rfl (zaz (jb 44) je .nil h 5 rfl (fun q47 g47 h => ?_) (fun J48 h hJ48 => ?_)))))
  ·refine oM rfl (zaz (jb 51) je .nil h 6 rfl (fun q51 g51 h => ?_) (fun J52 h hJ52 => ?_))
   ·refine rnf (zf h rfl (fun _ h => ?_) (fun _ h => ?_))
    ·refine wsr (oA rfl (oA rfl (rnf (zN (zB ?_)))))
     cases h
     exact zo (.tmp rfl (.tmp rfl .nil)) .nil ⟨rfl, rfl⟩
    refine wkf (zn (zU (.v 0 (.v 1 (.v 2 (.v 3 (.v 4 (.v 5 (.v 6 (.v 7 .nil)))))))) moOrd (by kernel_rfl) ?_))
    refine rvm rfl rfl (zE h fun q56 h => zt rfl (zaf rfl rfl q56) (rvm rfl rfl (rvm rfl rfl (rvm rfl rfl (zV h fun q57 h => zt rfl (zhD st9 rfl (.inr ⟨_, rfl, rfl⟩) (.inr ⟨_, rfl, rfl⟩) q57.1 q57.2.1 q57.2.2) (zt rfl (za8 rfl) ?_))))))
    refine zt rfl (za8 rfl) (zae (zA (zN ?_)))
    cases h
    exact zo (.tmp rfl (.tmp rfl .nil)) .nil ⟨rfl, rfl⟩
   refine zC (j := 45) h rfl (fun g53 h => ?_) (fun g53 h => ?_)
   ·exact oP 45 rfl rfl g53 (oP 45 rfl rfl g53 (oP 45 rfl rfl g53 (oP 45 rfl rfl g53 (oP 45 rfl rfl g53 (oV (zr rfl g53 rfl) (hJ52 _ () h _ (ji 6 51 rfl rfl rfl)))))))
   exact oK 45 rfl rfl rfl g53 (zq rfl) (oK 45 rfl rfl rfl g53 (zq rfl) (zE h fun q54 h => oK 45 rfl rfl rfl g53 (zaf rfl rfl q54) (zb h fun y55 hy55 h => zaA rfl rfl (dj := 45) rfl g53 (zy (zd5 hy55) hT (s2 rfl rfl) .nil (oK 45 rfl rfl rfl g53 (zji eq5 rfl rfl) (oV (zs rfl g53 rfl) (hJ52 _ () h _ (ji 6 51 rfl rfl rfl))))))))
  refine zC (j := 39) h rfl (fun g49 h => ?_) (fun g49 h => ?_)
  ·exact oP 39 rfl rfl g49 (oP 39 rfl rfl g49 (oP 39 rfl rfl g49 (oP 39 rfl rfl g49 (oV (zr rfl g49 rfl) (hJ48 _ () h _ (ji 5 44 rfl rfl rfl))))))
  exact oK 39 rfl rfl rfl g49 (zq rfl) (oK 39 rfl rfl rfl g49 (zq rfl) (zb h fun y50 hy50 h => zaA rfl rfl (dj := 39) rfl g49 (zy (zd5 hy50) hT (s2 rfl rfl) .nil (oK 39 rfl rfl rfl g49 (zji eq5 rfl rfl) (oV (zs rfl g49 rfl) (hJ48 _ () h _ (ji 5 44 rfl rfl rfl)))))))
 refine zC (j := 14) h rfl (fun g33 h => ?_) (fun g33 h => ?_)
 ·refine oK 14 rfl rfl rfl g33 (zq rfl) (oK 14 rfl rfl rfl g33 (zq rfl) (zb h fun y34 hy34 h => oK 14 rfl rfl rfl g33 (zbN y34 st9 rfl rfl hy34) (zb h fun y35 hy35 h => zaA rfl rfl (dj := 14) rfl g33 (zy (zd7 hy35) hT (s1 rfl) .nil (oK 14 rfl rfl rfl g33 (zq rfl) (zaz (jb 30) je .nil h 11 rfl (fun q36 g36 h => ?_) (fun J37 h hJ37 => ?_)))))))
  ·exact oV (zr rfl g33 rfl) (hJ32 _ () h _ (ji 7 31 rfl rfl rfl))
  refine zC (j := 19) h rfl (fun g38 h => ?_) (fun g38 h => ?_)
  ·refine oP 19 rfl rfl g38 (oP 19 rfl rfl g38 (oP 19 rfl rfl g38 (oP 19 rfl rfl g38 (oP 19 rfl rfl g38 (zz rfl (dj := 24) rfl (zz rfl (dj := 24) rfl (zz rfl (dj := 24) rfl (zz rfl (dj := 24) rfl ?_))))))))
   exact oP 19 rfl rfl g38 (oK 14 rfl rfl rfl g33 (zr rfl g38 rfl) (hJ37 _ () h _ (ji 11 30 rfl rfl rfl)))
  refine oK 19 rfl rfl rfl g38 (zq rfl) (oK 19 rfl rfl rfl g38 (zq rfl) (zb h fun y39 hy39 h => oK 19 rfl rfl rfl g38 (zbN y39 st9 rfl rfl hy39) (oK 19 rfl rfl rfl g38 (zii rfl rfl) (oK 19 rfl rfl rfl g38 (zq rfl) (zaz (jb 29) je .nil h 5 rfl (fun q40 g40 h => ?_) (fun J41 h hJ41 => ?_))))))
  ·exact oK 14 rfl rfl rfl g33 (zs rfl g38 rfl) (hJ37 _ () h _ (ji 7 30 rfl rfl rfl))
  refine zC (j := 24) h rfl (fun g42 h => ?_) (fun g42 h => ?_)
  ·exact oK 24 rfl rfl rfl g42 (zq rfl) (oK 24 rfl rfl rfl g42 (zq rfl) (zb h fun y43 hy43 h => oK 24 rfl rfl rfl g42 (zbN y43 st9 rfl rfl hy43) (oK 24 rfl rfl rfl g42 (zit rfl rfl) (oK 19 rfl rfl rfl g38 (zr rfl g42 rfl) (hJ41 _ () h _ (ji 5 29 rfl rfl rfl))))))
  exact oP 24 rfl rfl g42 (oP 24 rfl rfl g42 (oP 24 rfl rfl g42 (oP 24 rfl rfl g42 (oK 19 rfl rfl rfl g38 (zs rfl g42 rfl) (hJ41 _ () h _ (ji 5 29 rfl rfl rfl))))))
 refine oP 14 rfl rfl g33 (oP 14 rfl rfl g33 (oP 14 rfl rfl g33 (oP 14 rfl rfl g33 (oP 14 rfl rfl g33 (zz rfl (dj := 19) rfl (zz rfl (dj := 19) rfl (zz rfl (dj := 19) rfl (zz rfl (dj := 19) rfl ?_))))))))
 exact zz rfl (dj := 19) rfl (zz rfl (dj := 24) rfl (zz rfl (dj := 24) rfl (zz rfl (dj := 24) rfl (zz rfl (dj := 24) rfl (zz rfl (dj := 19) rfl (oP 14 rfl rfl g33 (oV (zs rfl g33 rfl) (hJ32 _ () h _ (ji 17 31 rfl rfl rfl)))))))))


theorem zjT : ∀ {a_s : Str} {a_i : Int} {r : Int × Str}, zdi a_s a_i = some r → Ctr Tryd.prog 74 [isv (a_s), isv (a_i)] [] (fun R H => R = oneOf [isv (r.1), isv (r.2)] ∧ H = []) := by
 intro a_s a_i r h
 unfold zdi at h
 refine zw Tryd.func74 rfl fun w0 S0 hT => wsr (oA rfl (oA rfl (rnf (wsr (oA rfl (rnf (zn ?_)))))))
 refine wsr (oM rfl (zE h fun q1 h => oV (zaf rfl rfl q1) (oA rfl (rnf (zu (zbg (ι := Int × Str) (γ := Unit) (fun q2 g2 => [(1, isv (q2.1)), (6, isv (q2.2))]) (fun q2 g2 => []) h () (za (j := 1) rfl hI (za (j := 6) rfl hI zd)) .nil (fun L3 q2 g2 Q30 h hL3 eL3 rL3 => zn ?_)))))))
 refine wsr (oM rfl (oM rfl (oV (zdm st9 rfl) (oV (zal rfl rfl) (rnf (zf h rfl (fun _ h => ?_) (fun _ h => ?_)))))))
 ·refine wkf (zn (zdg (ι := Int × Str) (γ := Unit) (fun q17 g17 => [(1, isv (q17.1)), (6, isv (q17.2))]) (fun q17 g17 => []) .nil h (fun q17 g17 h => ?_) (fun J18 h hJ18 => ?_)))
  ·exact zj (oM rfl (zE h fun q29 h => oV (zaf rfl rfl q29) (oA rfl (zx (hL3 _ () h _ (ze 11 rfl rfl (za (j := 1) rfl hI (za (j := 6) rfl hI zd)) .nil))))))
  refine zu (zn (wsr (oM rfl (oM rfl (zb h fun y19 hy19 h => oV (zbN y19 st9 rfl rfl hy19) (oV (zji eq5 rfl rfl) (rnf ?_)))))))
  refine zf h rfl (fun _ h => ?_) (fun _ h => ?_)
  ·refine wsr (oM rfl (oM rfl (oM rfl (oM rfl (zE h fun q20 h => oV (zaf rfl rfl q20) (zV h fun q21 h => oV (zhD st9 rfl (.inr ⟨_, rfl, rfl⟩) (.inr ⟨_, rfl, rfl⟩) q21.1 q21.2.1 q21.2.2) ?_))))))
   exact zad h fun q22 h => oV (zeQ rfl rfl q22) (oA rfl (rnf (zah (zX (zK (hJ18 _ () h _ (ze 12 rfl rfl (za (j := 1) rfl hI (za (j := 6) rfl hI zd)) .nil)))))))
  refine wkf (zn (wsr (oM rfl (oM rfl (zE h fun q23 h => oV (zaf rfl rfl q23) (zb h fun y24 hy24 h => oT (zy (zd5 hy24) hT (s2 rfl rfl) .nil ?_)))))))
  refine oV (zji eq5 rfl rfl) (rnf (zf h rfl (fun _ h => ?_) (fun _ h => ?_)))
  ·refine zn (wsr (oM rfl (zb h fun y25 hy25 h => oT (zy (zgD hy25) hT (s1 rfl) .nil (oV (zbL rfl) (rnf (zf h rfl (fun _ h => ?_) (fun _ h => ?_))))))))
   ·refine wsr (oA rfl (oA rfl (rnf (zN (zB (zB (zD (zB ?_))))))))
    refine rL3 _ (zD (zB ?_))
    cases h
    exact zo (.tmp rfl (.tmp rfl .nil)) .nil ⟨rfl, rfl⟩
   refine wkf (wsr (oM rfl (zE h fun q26 h => oV (zaf rfl rfl q26) (oM rfl (oA rfl (oA rfl (rnf ?_)))))))
   refine zN (zB (zD (zB (rL3 _ (zD (zB ?_))))))
   cases h
   exact zo (.tmp rfl (.tmp rfl .nil)) .nil ⟨rfl, rfl⟩
  refine wkf (wsr (oM rfl (zad h fun q27 h => oV (zeQ rfl rfl q27) (oA rfl (rnf (zj (oM rfl ?_)))))))
  exact zE h fun q28 h => oV (zaf rfl rfl q28) (oA rfl (zx (zk (hJ18 _ () h _ (ze 15 rfl rfl (za (j := 1) rfl hI (za (j := 6) rfl hI zd)) .nil)))))
 refine zah (zX (eL3 _ _ (zK (zA (wsr (oA rfl (oA rfl (rnf ?_))))))))
 refine zN ?_
 cases h
 exact zo (.tmp rfl (.tmp rfl .nil)) .nil ⟨rfl, rfl⟩


theorem zlw : ∀ {a_s : Str} {a_i : Int} {r : Int}, zeu a_s a_i = some r → Ctr Tryd.prog 75 [isv (a_s), isv (a_i)] [] (fun R H => R = oneOf [isv (r)] ∧ H = []) := by
 intro a_s a_i r h
 unfold zeu at h
 refine zw Tryd.func75 rfl fun w0 S0 hT => wsr (oA rfl (rnf (wsr (oM rfl (oM rfl (zV h fun q1 h => oV (zhD st9 rfl (.inr ⟨_, rfl, rfl⟩) (.inl ⟨rfl, rfl⟩) q1.1 q1.2.1 q1.2.2) ?_))))))
 refine oA rfl (rnf (wsr (oT (zS (l := ([(Str.mk [58, 58, 61]), (Str.mk [46, 46, 46]), (Str.mk [46, 46]), (Str.mk [91, 91]), (Str.mk [93, 93]), (Str.mk [123]), (Str.mk [125]), (Str.mk [91]), (Str.mk [93]), (Str.mk [40]), (Str.mk [41]), (Str.mk [44]), (Str.mk [58])] : (List Str))) el27 (.cons rfl hI (.cons rfl hI (.cons rfl hI (.cons rfl hI (.cons rfl hI (.cons rfl hI (.cons rfl hI (.cons rfl hI (.cons rfl hI (.cons rfl hI (.cons rfl hI (.cons rfl hI (.cons rfl hI .nil))))))))))))) rfl rfl (oA rfl (rnf (zn (wsr (oA rfl ?_)))))))))
 refine rnf (zu (zbg (ι := Int) (γ := Unit) (fun q3 g3 => [(7, isv (q3))]) (fun q3 g3 => []) h () (za (j := 7) rfl hI zd) .nil (fun L4 q3 g3 Q19 h hL4 eL4 rL4 => zn (wsr (oM rfl (oM rfl (oV (za6 (l := ([(Str.mk [58, 58, 61]), (Str.mk [46, 46, 46]), (Str.mk [46, 46]), (Str.mk [91, 91]), (Str.mk [93, 93]), (Str.mk [123]), (Str.mk [125]), (Str.mk [91]), (Str.mk [93]), (Str.mk [40]), (Str.mk [41]), (Str.mk [44]), (Str.mk [58])] : (List Str))) rfl zJ sl27) (oV (zal rfl rfl) ?_))))))))
 refine rnf (zf h rfl (fun _ h => ?_) (fun _ h => ?_))
 ·refine wkf (zn (zu (wsr (oM rfl (oM rfl (zb h fun y12 hy12 h => oV (zaK (l := ([(Str.mk [58, 58, 61]), (Str.mk [46, 46, 46]), (Str.mk [46, 46]), (Str.mk [91, 91]), (Str.mk [93, 93]), (Str.mk [123]), (Str.mk [125]), (Str.mk [91]), (Str.mk [93]), (Str.mk [40]), (Str.mk [41]), (Str.mk [44]), (Str.mk [58])] : (List Str))) rfl zJ rfl sl27 hy12) (oV (zg ty9 rfl) ?_)))))))
  refine oV (zdm st9 rfl) (oA rfl (rnf (zn (zU (.v 0 (.v 1 (.v 2 (.v 3 (.v 4 (.v 5 (.v 6 (.v 7 (.v 8 (.v 9 (.v 10 (.v 11 (.v 12 (.v 13 .nil)))))))))))))) moOrd (by kernel_rfl) ?_))))
  refine rvm rfl rfl (zt rfl (zdm st9 rfl) (rvm rfl rfl (zt rfl (zeN rfl rfl) (rvm rfl rfl (zc9 (jb 37) je .nil h 9 rfl (fun q13 g13 h => ?_) (fun J14 h hJ14 => ?_))))))
  ·refine zae (zA (zf h rfl (fun _ h => ?_) (fun _ h => ?_)))
   ·refine wsr (oM rfl (oA rfl (rnf (zN (zD (zB (rL4 _ (zD ?_))))))))
    refine zB ?_
    cases h
    exact zo (.tmp rfl .nil) .nil ⟨rfl, rfl⟩
   refine zW (zk (zA (zj (oM rfl (zE h fun q18 h => oV (zaf rfl rfl q18) (oA rfl (zx ?_)))))))
   exact hL4 _ () h _ (ji 20 7 rfl rfl rfl)
  refine zaF (j := 28) h rfl (fun g15 h => ?_) (fun g15 h => ?_)
  ·refine rvt 28 rfl rfl rfl g15 (zq rfl) (rvt 28 rfl rfl rfl g15 (zq rfl) (zV h fun q16 h => rvt 28 rfl rfl rfl g15 (zhD st9 rfl (.inl ⟨rfl, rfl⟩) (.inr ⟨_, rfl, rfl⟩) q16.1 q16.2.1 q16.2.2) (rvt 28 rfl rfl rfl g15 (zq rfl) (rvt 28 rfl rfl rfl g15 (zq rfl) (zb h fun y17 hy17 h => rvt 28 rfl rfl rfl g15 (zaK (l := ([(Str.mk [58, 58, 61]), (Str.mk [46, 46, 46]), (Str.mk [46, 46]), (Str.mk [91, 91]), (Str.mk [93, 93]), (Str.mk [123]), (Str.mk [125]), (Str.mk [91]), (Str.mk [93]), (Str.mk [40]), (Str.mk [41]), (Str.mk [44]), (Str.mk [58])] : (List Str))) rfl zJ rfl sl27 hy17) (rvt 28 rfl rfl rfl g15 (zg ty9 rfl) ?_))))))
   exact rvt 28 rfl rfl rfl g15 (zcx eq9 rfl rfl) (zt rfl (zr rfl g15 rfl) (hJ14 _ () h _ (ji 9 37 rfl rfl rfl)))
  refine rpv 28 rfl rfl rfl g15 (rpv 28 rfl rfl rfl g15 (rpv 28 rfl rfl rfl g15 (rpv 28 rfl rfl rfl g15 (rpv 28 rfl rfl rfl g15 (rpv 28 rfl rfl rfl g15 (rpv 28 rfl rfl rfl g15 (rpv 28 rfl rfl rfl g15 (zt rfl (zs rfl g15 rfl) ?_))))))))
  exact hJ14 _ () h _ (ji 9 37 rfl rfl rfl)
 refine zah (zX (eL4 _ _ (zK (zA (wsr (oA rfl (rnf (zN ?_))))))))
 cases h
 exact zo (.tmp rfl .nil) .nil ⟨rfl, rfl⟩


theorem zm3 : ∀ {a_s : Str} {a_i : Int} {r : GTok × Int}, zfw a_s a_i = some r → Ctr Tryd.prog 49 [isv (a_s), isv (a_i)] [] (fun R H => R = oneOf [isv (r.1), isv (r.2)] ∧ H = []) := by
 intro a_s a_i r h
 unfold zfw at h
 refine zw Tryd.func49 rfl fun w0 S0 hT => wsr (oT (zab _ ze80 fun b1 => oA rfl (rnf (wsr (oM rfl (oV (zax (z := (GTok.mk (0 : Int) (Str.mk []) a_i)) rfl bu80 ze80 (.cons GTok.f2 zlH rfl hI .nil)) (oT (zab _ ze80 fun b2 => ?_))))))))
 refine oT (zi (y' := ((GTok.mk (0 : Int) (Str.mk []) a_i) : GTok)) ty80 rfl rfl hI .here rfl (rnf (wsr (oM rfl (oM rfl (zb h fun y3 hy3 h => oV (zbN y3 st9 rfl rfl hy3) (oA rfl (rnf ?_))))))))
 refine wsr (oA rfl (rnf (zn (zdg (ι := Int × GTok) (γ := Unit) (fun q4 g4 => [(8, isv (q4.1))]) (fun q4 g4 => [boxE b2 (q4.2 : GTok)]) k1 h (fun q4 g4 h => ?_) (fun J5 h hJ5 => ?_)))))
 ·refine wsr (oT (zI (R := isv (q4.2)) ty80 rfl .here hI (oM rfl (oT (zi (y' := (q4.2 : GTok)) ty80 rfl rfl hI tH rfl (oA rfl (rnf (zN ?_))))))))
  cases h
  exact zo (.cell rfl .here ty80 (.tmp rfl .nil)) .nil ⟨rfl, rfl⟩
 refine zu (wsr (oM rfl (zb h fun y6 hy6 h => oT (zy (zfo hy6) hT (s1 rfl) .nil (oA rfl (rnf (zf h rfl (fun _ h => ?_) (fun _ h => ?_))))))))
 ·refine wsr (oM rfl (oM rfl (zb h fun y7 hy7 h => oT (zy (zlK hy7) hT (s2 rfl rfl) .nil (oA rfl (rnf (zn (wsr ?_))))))))
  refine oM rfl (oV (zal rfl rfl) (rnf (zf h rfl (fun _ h => ?_) (fun _ h => ?_))))
  ·refine wsr (oT (zI (R := isv ((GTok.mk (0 : Int) (Str.mk []) a_i))) ty80 rfl .here hI (oT (zi (y' := ((GTok.mk (0 : Int) (Str.mk []) a_i) : GTok)) ty80 rfl rfl hI tH rfl (oA rfl (rnf (zN (zB (zD (zB ?_))))))))))
   cases h
   exact zo (.cell rfl .here ty80 (.tmp rfl .nil)) .nil ⟨rfl, rfl⟩
  refine wkf (zn (zU (.v 0 (.v 1 (.v 2 (.v 3 (.v 4 (.t 5 (.v 6 (.t 7 .nil)))))))) moOrd (by kernel_rfl) ?_))
  refine rvm rfl rfl (rvm rfl rfl (rvm rfl rfl (zV h fun q8 h => zt rfl (zhD st9 rfl (.inr ⟨_, rfl, rfl⟩) (.inr ⟨_, rfl, rfl⟩) q8.1 q8.2.1 q8.2.2) (zt rfl (z8 rfl GTok.f0 zcF) (zT rfl rfl (zi (y' := ((GTok.mk (2 : Int) (Str.mk []) a_i) : GTok)) ty3 rfl rfl hI .here rfl (zt rfl (z8 rfl GTok.f1 zdJ) (zT rfl rfl (zi (y' := ((GTok.mk (2 : Int) (Str.mk ((a_s.b.take (y7).toNat).drop (a_i).toNat)) a_i) : GTok)) ty9 rfl rfl hI .here rfl ?_)))))))))
  refine zae (zA (zn (wsr (oM rfl (oV (zit rfl rfl) (rnf (zdg (ι := GTok) (γ := Unit) (fun q9 g9 => []) (fun q9 g9 => [boxE b2 (q9 : GTok)]) k1 h (fun q9 g9 h => ?_) (fun J10 h hJ10 => ?_))))))))
  ·refine wsr (oV (z8 rfl GTok.f1 zdJ) (oT (zI (R := isv (q9.text)) ty9 rfl .here hI (zb h fun y11 hy11 h => oT (zy (zlP hy11) hT (s1 rfl) .nil (rnf (zf h rfl (fun _ h => ?_) (fun _ h => ?_))))))))
   ·exact zj (oV (z8 rfl GTok.f0 zcF) (oT (zi (y' := ({ q9 with kind := (5 : Int) } : GTok)) ty3 rfl rfl hI .here rfl (zx (zk (hJ5 _ () h _ (ze 21 rfl rfl (za (j := 8) rfl hI zd) k2)))))))
   exact zW (zk (hJ5 _ () h _ (ze 20 rfl rfl (za (j := 8) rfl hI zd) k2)))
  refine zf h rfl (fun _ h => ?_) (fun _ h => ?_)
  ·exact zj (oV (z8 rfl GTok.f0 zcF) (oT (zi (y' := ((GTok.mk (1 : Int) (Str.mk ((a_s.b.take (y7).toNat).drop (a_i).toNat)) a_i) : GTok)) ty3 rfl rfl hI .here rfl (zx (hJ10 _ () h _ (ze 1 rfl rfl zd k2))))))
  exact zW (hJ10 _ () h _ (ze 0 rfl rfl zd k2))
 refine wsr (oM rfl (zb h fun y12 hy12 h => oT (zy (zd7 hy12) hT (s1 rfl) .nil (oM rfl (zaz (jb 66) je .nil h 10 rfl (fun q13 g13 h => ?_) (fun J14 h hJ14 => ?_))))))
 ·refine oA rfl (rnf (zf h rfl (fun _ h => ?_) (fun _ h => ?_)))
  ·refine wsr (oM rfl (oM rfl (zb h fun y22 hy22 h => oT (zy (zj5 hy22) hT (s2 rfl rfl) .nil (oA rfl (rnf (zn (wsr ?_))))))))
   refine oM rfl (oV (zal rfl rfl) (rnf (zf h rfl (fun _ h => ?_) (fun _ h => ?_))))
   ·refine wsr (oT (zI (R := isv ((GTok.mk (0 : Int) (Str.mk []) a_i))) ty80 rfl .here hI (oT (zi (y' := ((GTok.mk (0 : Int) (Str.mk []) a_i) : GTok)) ty80 rfl rfl hI tH rfl (oA rfl (rnf (zN (zB (zD (zB ?_))))))))))
    cases h
    exact zo (.cell rfl .here ty80 (.tmp rfl .nil)) .nil ⟨rfl, rfl⟩
   refine wkf (zU (.v 0 (.v 1 (.v 2 (.v 3 (.v 4 (.t 5 (.v 6 (.t 7 .nil)))))))) moOrd (by kernel_rfl) ?_)
   refine rvm rfl rfl (rvm rfl rfl (rvm rfl rfl (zV h fun q23 h => zt rfl (zhD st9 rfl (.inr ⟨_, rfl, rfl⟩) (.inr ⟨_, rfl, rfl⟩) q23.1 q23.2.1 q23.2.2) (zt rfl (z8 rfl GTok.f0 zcF) (zT rfl rfl (zi (y' := ((GTok.mk (3 : Int) (Str.mk []) a_i) : GTok)) ty3 rfl rfl hI .here rfl (zt rfl (z8 rfl GTok.f1 zdJ) (zT rfl rfl (zi (y' := ((GTok.mk (3 : Int) (Str.mk ((a_s.b.take (y22).toNat).drop (a_i).toNat)) a_i) : GTok)) ty9 rfl rfl hI .here rfl ?_)))))))))
   exact zae (zk (hJ5 _ () h _ (ze 20 rfl rfl (za (j := 8) rfl hI zd) k2)))
  refine wsr (oM rfl (oV (zcx eq5 rfl rfl) (oA rfl (rnf (zf h rfl (fun _ h => ?_) (fun _ h => ?_))))))
  ·refine wsr (oV (z8 rfl GTok.f0 zcF) (oT (zi (y' := ((GTok.mk (4 : Int) (Str.mk []) a_i) : GTok)) ty3 rfl rfl hI .here rfl (rnf (zj (oM rfl (oM rfl (zb h fun y24 hy24 h => oT (zy (zmy hy24) hT (s2 rfl rfl) .nil ?_)))))))))
   exact oM rfl (oV (zau rfl rfl) (oV (zau rfl rfl) (oA rfl (oV (z8 rfl GTok.f1 zdJ) (oT (zi (y' := ((GTok.mk (4 : Int) y24.2 a_i) : GTok)) ty9 rfl rfl hI .here rfl (zx (zk (hJ5 _ () h _ (ze 20 rfl rfl (za (j := 8) rfl hI zd) k2))))))))))
  refine wsr (oM rfl (oV (zcx eq5 rfl rfl) (oA rfl (rnf (zf h rfl (fun _ h => ?_) (fun _ h => ?_))))))
  ·refine wsr (oV (z8 rfl GTok.f0 zcF) (oT (zi (y' := ((GTok.mk (7 : Int) (Str.mk []) a_i) : GTok)) ty3 rfl rfl hI .here rfl (rnf (zj (oM rfl (oM rfl (zb h fun y25 hy25 h => oT (zy (zjT hy25) hT (s2 rfl rfl) .nil ?_)))))))))
   exact oM rfl (oV (zau rfl rfl) (oV (zau rfl rfl) (oA rfl (oV (z8 rfl GTok.f1 zdJ) (oT (zi (y' := ((GTok.mk (7 : Int) y25.2 a_i) : GTok)) ty9 rfl rfl hI .here rfl (zx (zk (hJ5 _ () h _ (ze 23 rfl rfl (za (j := 8) rfl hI zd) k2))))))))))
  refine wsr (oM rfl (oM rfl (zb h fun y26 hy26 h => oT (zy (zlw hy26) hT (s2 rfl rfl) .nil (oA rfl (rnf (wsr (oM rfl ?_))))))))
  refine oV (zbY rfl rfl) (rnf (zf h rfl (fun _ h => ?_) (fun _ h => ?_)))
  ·refine zU (.v 0 (.v 1 (.v 2 (.v 3 (.v 4 (.v 5 (.v 6 (.v 7 (.v 8 (.v 9 (.t 10 (.v 11 (.t 12 (.v 13 .nil)))))))))))))) moOrd (by kernel_rfl) ?_
   refine rvm rfl rfl (rvm rfl rfl (rvm rfl rfl (rvm rfl rfl (zE h fun q27 h => zt rfl (zaf rfl rfl q27) (zV h fun q28 h => zt rfl (zhD st9 rfl (.inr ⟨_, rfl, rfl⟩) (.inr ⟨_, rfl, rfl⟩) q28.1 q28.2.1 q28.2.2) (rvm rfl rfl ?_))))))
   refine rvm rfl rfl (zE h fun q29 h => zt rfl (zaf rfl rfl q29) (zt rfl (z8 rfl GTok.f0 zcF) (zT rfl rfl (zi (y' := ((GTok.mk (6 : Int) (Str.mk []) a_i) : GTok)) ty3 rfl rfl hI .here rfl (zt rfl (z8 rfl GTok.f1 zdJ) (zT rfl rfl (zi (y' := ((GTok.mk (6 : Int) (Str.mk ((a_s.b.take ((a_i + y26)).toNat).drop (a_i).toNat)) a_i) : GTok)) ty9 rfl rfl hI .here rfl (zt rfl (za8 rfl) (zae ?_)))))))))
   exact zk (hJ5 _ () h _ (ze 32 rfl rfl (za (j := 8) rfl hI zd) k2))
  exact zW (zk (hJ5 _ () h _ (ze 20 rfl rfl (za (j := 8) rfl hI zd) k2)))
 refine zC (j := 56) h rfl (fun g15 h => ?_) (fun g15 h => ?_)
 ·refine oP 56 rfl rfl g15 (oP 56 rfl rfl g15 (oP 56 rfl rfl g15 (zz rfl (dj := 59) rfl (zz rfl (dj := 59) rfl (zz rfl (dj := 59) rfl (zz rfl (dj := 59) rfl (zz rfl (dj := 59) rfl (oP 56 rfl rfl g15 ?_))))))))
  exact oV (zr rfl g15 rfl) (hJ14 _ () h _ (ze 10 rfl rfl (za (j := 66) rfl hI zd) k2))
 refine oK 56 rfl rfl rfl g15 (zq rfl) (oK 56 rfl rfl rfl g15 (zcx eq5 rfl rfl) (oK 56 rfl rfl rfl g15 (zq rfl) (zaz (jb 65) je .nil h 6 rfl (fun q16 g16 h => ?_) (fun J17 h hJ17 => ?_))))
 ·exact oV (zs rfl g15 rfl) (hJ14 _ () h _ (ze 5 rfl rfl (za (j := 66) rfl hI zd) k2))
 refine zC (j := 59) h rfl (fun g18 h => ?_) (fun g18 h => ?_)
 ·refine oK 59 rfl rfl rfl g18 (zq rfl) (oK 59 rfl rfl rfl g18 (zq rfl) (zE h fun q19 h => oK 59 rfl rfl rfl g18 (zaf rfl rfl q19) (zb h fun y20 hy20 h => zaA rfl rfl (dj := 59) rfl g18 (zy (zd5 hy20) hT (s2 rfl rfl) .nil (zb h fun y21 hy21 h => zaA rfl rfl (dj := 59) rfl g18 (zy (zd7 hy21) hT (s1 rfl) .nil (oK 56 rfl rfl rfl g15 (zr rfl g18 rfl) ?_)))))))
  exact hJ17 _ () h _ (ze 6 rfl rfl (za (j := 65) rfl hI zd) k2)
 exact oP 59 rfl rfl g18 (oP 59 rfl rfl g18 (oP 59 rfl rfl g18 (oP 59 rfl rfl g18 (oP 59 rfl rfl g18 (oK 56 rfl rfl rfl g15 (zs rfl g18 rfl) (hJ17 _ () h _ (ze 6 rfl rfl (za (j := 65) rfl hI zd) k2)))))))


theorem zjz : ∀ {zbm : Str} {r : (List GTok) × Int × Int}, zcS zbm = some r → Ctr Tryd.prog 22 [isv (zbm)] [] (fun R H => R = oneOf [isv (r.1), isv (r.2.1), isv (r.2.2)] ∧ H = []) := by
 intro zbm r h
 unfold zcS at h
 refine zw Tryd.func22 rfl fun w0 S0 hT => wsr (oA rfl (oA rfl (oA rfl (rnf (zn (wsr (oM rfl ?_)))))))
 refine oV (zdm st9 rfl) (oV (zbY rfl rfl) (rnf (zf h rfl (fun _ h => ?_) (fun _ h => ?_))))
 ·refine wsr (oA rfl (oA rfl (oA rfl (rnf (zN (zB ?_))))))
  cases h
  exact zo (.as rfl (zdB (α := GTok)) (.tmp rfl (.tmp rfl .nil))) .nil ⟨rfl, rfl⟩
 refine wkf (wsr (oA rfl (rnf (wsr (oA rfl (rnf (zu (zfF (zbf) ?_))))))))
 refine zbg (ι := (List GTok) × Int) (γ := Tok) (fun q1 g1 => [(5, appv g1 (q1.1)), (6, isv (q1.2))]) (fun q1 g1 => [tokE g1]) h (none) (za (j := 5) rfl zbF (za (j := 6) rfl hI zd)) k1 (fun L2 q1 g1 Q22 h hL2 eL2 rL2 => zu (wsr (oM rfl (oM rfl (zb h fun y12 hy12 h => oT (zy (zkf hy12) hT (s2 rfl rfl) .nil (oA rfl (rnf ?_))))))))
 refine zn (wsr (oM rfl (oM rfl (oV (zdm st9 rfl) (oV (zeN rfl rfl) (rnf (zf h rfl (fun _ h => ?_) (fun _ h => ?_))))))))
 ·refine wsr (oM rfl (oM rfl (oV (zdm st9 rfl) (oV (zax (z := (GTok.mk (0 : Int) (Str.mk []) (zbm.b.length : Int))) rfl bu80 ze80 (.cons GTok.f2 zlH rfl hI .nil)) (oT (zS (l := ([(GTok.mk (0 : Int) (Str.mk []) (zbm.b.length : Int))] : (List GTok))) el70 (.cons rfl hI .nil) rfl rfl (zad h fun q15 h => oT (zbA (l := q1.1) (m := ([(GTok.mk (0 : Int) (Str.mk []) (zbm.b.length : Int))] : (List GTok))) zl9 rfl hI rfl zJ .here q15 fun t14 => oA rfl ?_))))))))
  refine oA rfl (oA rfl (rnf (zN (zB (zD (rL2 _ (zD ?_)))))))
  cases h
  exact zo (.as rfl zJ (.tmp rfl (.tmp rfl .nil))) .nil ⟨rfl, rfl⟩
 refine wkf (wsr (oM rfl (oM rfl (zb h fun y16 hy16 h => oT (zy (zm3 hy16) hT (s2 rfl rfl) .nil (oM rfl (oV (zau rfl rfl) (oV (zau rfl rfl) ?_))))))))
 refine oT (zab _ ze80 fun b17 => oT (zi (y' := (y16.1 : GTok)) ty80 rfl rfl hI .here rfl (zai (zas 7 .here rfl) (oA rfl (rnf (zn (wsr (oM rfl (oV (zal rfl rfl) ?_)))))))))
 refine rnf (zf h rfl (fun _ h => ?_) (fun _ h => ?_))
 ·refine wsr (oM rfl (oA rfl (oA rfl (oA rfl (rnf (zN (zB (zD ?_))))))))
  refine rL2 _ (zD ?_)
  cases h
  exact zo (.as rfl (zdB (α := GTok)) (.tmp rfl (.tmp rfl .nil))) .nil ⟨rfl, rfl⟩
 refine wkf (wsr (oM rfl (oV (zg ty80 rfl) (oT (zS (l := ([y16.1] : (List GTok))) el70 (.cons rfl hI .nil) rfl rfl (zad h fun q20 h => oT (zbA (l := q1.1) (m := ([y16.1] : (List GTok))) zl9 rfl hI rfl zJ .here q20 fun t19 => oA rfl (rnf ?_))))))))
 exact zj (oM rfl (oA rfl (zx (zk (hL2 _ (t19) h _ (ze 28 rfl rfl (za (j := 5) rfl hI (za (j := 6) rfl hI zd)) k1))))))


theorem zaO : ∀ {a_x : GPar} {zG : Nat} {t_a_x1 : Tok} {t_a_x2 : Tok} {zH : Vt} {r : GTok × GPar}, zaj a_x = some r → Ctr Tryd.prog 26 [ptrv zG (Fld.id ((List GTok) × Int × (Str × Int × (TList Str) × (TList Int) × Vh) × Int × Int))] [boxE zG ((a_x.l, a_x.at_, (a_x.m.name, a_x.m.tagging, (TList.mk t_a_x1 a_x.m.names), (TList.mk t_a_x2 a_x.m.types), (Vh.mk zH a_x.m.nodes.length)), a_x.e, a_x.p) : ((List GTok) × Int × (Str × Int × (TList Str) × (TList Int) × Vh) × Int × Int)), tokE t_a_x1, tokE t_a_x2, vecE zH (a_x.m.nodes : List GNode)] (fun R H => ∃ u1 : Tok, ∃ u2 : Tok, R = oneOf [isv (r.1)] ∧ H = [boxE zG ((r.2.l, r.2.at_, (r.2.m.name, r.2.m.tagging, (TList.mk u1 r.2.m.names), (TList.mk u2 r.2.m.types), (Vh.mk zH r.2.m.nodes.length)), r.2.e, r.2.p)), tokE u1, tokE u2, vecE zH (r.2.m.nodes)]) := by
 intro a_x zG t_a_x1 t_a_x2 zH r h
 unfold zaj at h
 refine zw Tryd.func26 rfl fun w0 S0 hT => wsr (oT (zab _ ze80 fun b4 => rnf (zn (zcR 0 tH rfl (fun o5 hn6 => zU (.v 0 (.v 1 (.v 2 (.v 3 (.v 4 (.v 5 (.v 6 (.v 7 (.v 8 (.v 9 (.t 10 .nil))))))))))) moOrd (by kernel_rfl) ?_)))))
 refine rvm rfl rfl (zt rfl (zbs rfl) (zt rfl (zfe rfl zgL zjJ) (zt rfl (zc1 (R := isv (a_x.l)) ty70 rfl (List.Mem.head _) hI) (rvm rfl rfl (zt rfl (zbs rfl) (zt rfl (zfe rfl zf0 ziN) (zt rfl (zc1 (R := isv (a_x.at_)) ty3 rfl (List.Mem.head _) hI) (zb h fun y7 hy7 h => ?_))))))))
 refine zt rfl (zaK (l := a_x.l) rfl hI rfl sl70 hy7) (zt rfl (zg ty80 rfl) (zT rfl rfl (zi (y' := (y7 : GTok)) ty80 rfl rfl hI .here rfl (zae (zaU 0 hn6 rfl (zA (zN (zo (.cell rfl tH ty80 .nil) (.cons .here (.cons tH (.cons tH (.cons tH .nil)))) ?_))))))))
 cases h
 exact ⟨t_a_x1, t_a_x2, rfl, rfl⟩


theorem za5 : ∀ {a_x : GPar} {a_e : Int} {a_t : GTok} {zG : Nat} {t_a_x1 : Tok} {t_a_x2 : Tok} {zH : Vt} {r : GPar}, zaB a_x a_e a_t = some r → Ctr Tryd.prog 27 [ptrv zG (Fld.id ((List GTok) × Int × (Str × Int × (TList Str) × (TList Int) × Vh) × Int × Int)), isv (a_e), isv (a_t)] [boxE zG ((a_x.l, a_x.at_, (a_x.m.name, a_x.m.tagging, (TList.mk t_a_x1 a_x.m.names), (TList.mk t_a_x2 a_x.m.types), (Vh.mk zH a_x.m.nodes.length)), a_x.e, a_x.p) : ((List GTok) × Int × (Str × Int × (TList Str) × (TList Int) × Vh) × Int × Int)), tokE t_a_x1, tokE t_a_x2, vecE zH (a_x.m.nodes : List GNode)] (fun R H => ∃ u1 : Tok, ∃ u2 : Tok, R = oneOf [] ∧ H = [boxE zG ((r.l, r.at_, (r.m.name, r.m.tagging, (TList.mk u1 r.m.names), (TList.mk u2 r.m.types), (Vh.mk zH r.m.nodes.length)), r.e, r.p)), tokE u1, tokE u2, vecE zH (r.m.nodes)]) := by
 intro a_x a_e a_t zG t_a_x1 t_a_x2 zH r h
 unfold zaB at h
 refine zw Tryd.func27 rfl fun w0 S0 hT => wsr (oT (zbI (y := a_t) rfl hI (rnf (wsr (oM rfl (oV (zp rfl) (oV (z8 rfl zbJ zcM) (oT (zI (R := isv (a_x.e)) ty31 rfl .here hI ?_)))))))))
 refine oV (zam rfl rfl) (rnf (zf h rfl (fun _ h => ?_) (fun _ h => ?_)))
 ·refine zU (.v 0 (.v 1 (.v 2 (.v 3 (.v 4 (.v 5 (.v 6 (.t 7 (.v 8 (.v 9 (.t 10 .nil))))))))))) moOrd (by kernel_rfl) ?_
  refine rvm rfl rfl (rvm rfl rfl (rvm rfl rfl (zt rfl (zac rfl GTok.f2 zlH rfl (z := a_t.at_)) (zt rfl (zg ty3 rfl) (zt rfl (zp rfl) (zt rfl (z8 rfl zbJ zcM) (zT rfl rfl (zi (y' := ((a_x.l, a_x.at_, (a_x.m.name, a_x.m.tagging, (TList.mk t_a_x1 a_x.m.names), (TList.mk t_a_x2 a_x.m.types), (Vh.mk zH a_x.m.nodes.length)), a_e, a_x.p) : ((List GTok) × Int × (Str × Int × (TList Str) × (TList Int) × Vh) × Int × Int))) ty31 rfl rfl hI .here rfl (zt rfl (zp rfl) ?_)))))))))
  refine zt rfl (z8 rfl zkX zny) (zT rfl rfl (zi (y' := ((a_x.l, a_x.at_, (a_x.m.name, a_x.m.tagging, (TList.mk t_a_x1 a_x.m.names), (TList.mk t_a_x2 a_x.m.types), (Vh.mk zH a_x.m.nodes.length)), a_e, a_t.at_) : ((List GTok) × Int × (Str × Int × (TList Str) × (TList Int) × Vh) × Int × Int))) ty3 rfl rfl hI .here rfl (zae (zao .nil k4 ?_))))
  cases h
  exact ⟨t_a_x1, t_a_x2, rfl, rfl⟩
 refine zW (zao .nil k4 ?_)
 cases h
 exact ⟨t_a_x1, t_a_x2, rfl, rfl⟩


theorem zbD : ∀ {a_x : GPar} {zG : Nat} {t_a_x1 : Tok} {t_a_x2 : Tok} {zH : Vt} {r : GTok × GPar}, zaN a_x = some r → Ctr Tryd.prog 50 [ptrv zG (Fld.id ((List GTok) × Int × (Str × Int × (TList Str) × (TList Int) × Vh) × Int × Int))] [boxE zG ((a_x.l, a_x.at_, (a_x.m.name, a_x.m.tagging, (TList.mk t_a_x1 a_x.m.names), (TList.mk t_a_x2 a_x.m.types), (Vh.mk zH a_x.m.nodes.length)), a_x.e, a_x.p) : ((List GTok) × Int × (Str × Int × (TList Str) × (TList Int) × Vh) × Int × Int)), tokE t_a_x1, tokE t_a_x2, vecE zH (a_x.m.nodes : List GNode)] (fun R H => ∃ u1 : Tok, ∃ u2 : Tok, R = oneOf [isv (r.1)] ∧ H = [boxE zG ((r.2.l, r.2.at_, (r.2.m.name, r.2.m.tagging, (TList.mk u1 r.2.m.names), (TList.mk u2 r.2.m.types), (Vh.mk zH r.2.m.nodes.length)), r.2.e, r.2.p)), tokE u1, tokE u2, vecE zH (r.2.m.nodes)]) := by
 intro a_x zG t_a_x1 t_a_x2 zH r h
 unfold zaN at h
 refine zw Tryd.func50 rfl fun w0 S0 hT => wsr (oT (zab _ ze80 fun b4 => rnf (zn (zcR 0 tH rfl (fun o5 hn6 => zU (.v 0 (.v 1 (.v 2 (.v 3 (.v 4 (.v 5 (.v 6 (.v 7 (.v 8 (.v 9 (.t 10 (.t 11 .nil)))))))))))) moOrd (by kernel_rfl) ?_)))))
 refine rvm rfl rfl (zt rfl (zbs rfl) (zt rfl (zfe rfl zgL zjJ) (zt rfl (zc1 (R := isv (a_x.l)) ty70 rfl (List.Mem.head _) hI) (rvm rfl rfl (zt rfl (zbs rfl) (zt rfl (zfe rfl zf0 ziN) (zt rfl (zc1 (R := isv (a_x.at_)) ty3 rfl (List.Mem.head _) hI) (zb h fun y7 hy7 h => ?_))))))))
 refine zt rfl (zaK (l := a_x.l) rfl hI rfl sl70 hy7) (zt rfl (zg ty80 rfl) (zT rfl rfl (zab _ ze80 fun b8 => zT rfl rfl (zi (y' := (y7 : GTok)) ty80 rfl rfl hI .here rfl (zbi (zas 3 .here rfl) (zae (zaU 0 hn6 rfl (zA (zn ?_)))))))))
 refine zn (zcR 0 .here rfl (fun o9 hn10 => zU (.v 0 (.v 1 (.v 2 (.v 3 (.v 4 (.v 5 (.v 6 (.v 7 (.v 8 (.v 9 (.v 10 .nil))))))))))) moOrd (by kernel_rfl) ?_))
 refine rvm rfl rfl (zt rfl (zbs rfl) (zt rfl (zfe rfl zf0 ziN) (zt rfl (zc1 (R := isv (a_x.at_)) ty3 rfl (List.Mem.head _) hI) (zE h fun q11 h => zt rfl (zaf rfl rfl q11) (rvm rfl rfl (zt rfl (zbs rfl) (zt rfl (zfe rfl zgL zjJ) ?_)))))))
 refine zt rfl (zc1 (R := isv (a_x.l)) ty70 rfl (List.Mem.head _) hI) (zt rfl (za6 (l := a_x.l) rfl hI sl70) (zt rfl (zal rfl rfl) (zae (zaU 0 hn10 rfl (zA (zdg (ι := GPar) (γ := Tok × Tok) (fun q12 g12 => []) (fun q12 g12 => [boxE zG ((q12.l, q12.at_, (q12.m.name, q12.m.tagging, (TList.mk g12.1 q12.m.names), (TList.mk g12.2 q12.m.types), (Vh.mk zH q12.m.nodes.length)), q12.e, q12.p) : ((List GTok) × Int × (Str × Int × (TList Str) × (TList Int) × Vh) × Int × Int)), tokE g12.1, tokE g12.2, vecE zH (q12.m.nodes : List GNode)]) (.cons .here (.cons tH (.cons tH (.cons tH .nil)))) h (fun q12 g12 h => ?_) (fun J13 h hJ13 => ?_)))))))
 ·refine wsr (oV (zg ty80 rfl) (oT (zi (y' := (y7 : GTok)) ty80 rfl rfl hI (.there (.there tI)) rfl (rnf (zN (zo (.cell rfl .here ty80 .nil) (.cons tH (.cons tH (.cons tH (.cons tH .nil)))) ?_))))))
  cases h
  exact ⟨g12.1, g12.2, rfl, rfl⟩
 refine zf h rfl (fun _ h => ?_) (fun _ h => ?_)
 ·refine zj (oM rfl (oV (zp rfl) (oV (z8 rfl zf0 ziN) (oT (zI (R := isv (a_x.at_)) ty3 rfl .here hI (zE h fun q14 h => oV (zaf rfl rfl q14) (oV (zp rfl) (oV (z8 rfl zf0 ziN) ?_))))))))
  exact oT (zi (y' := ((a_x.l, (a_x.at_ + (1 : Int)), (a_x.m.name, a_x.m.tagging, (TList.mk t_a_x1 a_x.m.names), (TList.mk t_a_x2 a_x.m.types), (Vh.mk zH a_x.m.nodes.length)), a_x.e, a_x.p) : ((List GTok) × Int × (Str × Int × (TList Str) × (TList Int) × Vh) × Int × Int))) ty3 rfl rfl hI .here rfl (zx (hJ13 _ (t_a_x1, t_a_x2) h _ (ze 7 rfl rfl zd (.cons .here (.cons tH (.cons tH (.cons tH k1))))))))
 exact zW (hJ13 _ (t_a_x1, t_a_x2) h _ (ze 0 rfl rfl zd (.cons .here (.cons tH (.cons tH (.cons tH k1))))))


theorem zcl : ∀ {a_x : GPar} {a_k : Int} {zG : Nat} {t_a_x1 : Tok} {t_a_x2 : Tok} {zH : Vt} {r : Str × GPar}, zaQ a_x a_k = some r → Ctr Tryd.prog 23 [ptrv zG (Fld.id ((List GTok) × Int × (Str × Int × (TList Str) × (TList Int) × Vh) × Int × Int)), isv (a_k)] [boxE zG ((a_x.l, a_x.at_, (a_x.m.name, a_x.m.tagging, (TList.mk t_a_x1 a_x.m.names), (TList.mk t_a_x2 a_x.m.types), (Vh.mk zH a_x.m.nodes.length)), a_x.e, a_x.p) : ((List GTok) × Int × (Str × Int × (TList Str) × (TList Int) × Vh) × Int × Int)), tokE t_a_x1, tokE t_a_x2, vecE zH (a_x.m.nodes : List GNode)] (fun R H => ∃ u1 : Tok, ∃ u2 : Tok, R = oneOf [isv (r.1)] ∧ H = [boxE zG ((r.2.l, r.2.at_, (r.2.m.name, r.2.m.tagging, (TList.mk u1 r.2.m.names), (TList.mk u2 r.2.m.types), (Vh.mk zH r.2.m.nodes.length)), r.2.e, r.2.p)), tokE u1, tokE u2, vecE zH (r.2.m.nodes)]) := by
 intro a_x a_k zG t_a_x1 t_a_x2 zH r h
 unfold zaQ at h
 refine zw Tryd.func23 rfl fun w0 S0 hT => wsr (oA rfl (rnf (wsr (oM rfl (zb h fun y4 hy4 h => oT (zL (zaO hy4) hT (s1 rfl) k4 (fun R H' hR => ?_)))))))
 obtain ⟨t5, t6, rfl, rfl⟩ := hR
 refine oT (zab _ ze80 fun b7 => oT (zi (y' := (y4.1 : GTok)) ty80 rfl rfl hI .here rfl (zai (zas 5 .here rfl) (rnf (zn (wsr (oM rfl (oV (zp rfl) (oV (z8 rfl zbJ zcM) ?_)))))))))
 refine oT (zI (R := isv (y4.2.e)) ty31 rfl .here hI (oV (zcq rfl rfl) (oM rfl (zaz (jb 18) je .nil h 5 rfl (fun q8 g8 h => ?_) (fun J9 h hJ9 => ?_)))))
 ·refine rnf (zf h rfl (fun _ h => ?_) (fun _ h => ?_))
  ·refine wsr (oM rfl (oV (zg ty80 rfl) (zb h fun y11 hy11 h => oT (zL (za5 hy11) hT (s3 rfl rfl rfl) k4 (fun R H' hR => ?_)))))
   obtain ⟨t12, t13, rfl, rfl⟩ := hR
   refine rnf (wsr (oA rfl (rnf (zN (zB (zo (.tmp rfl .nil) k4 ?_))))))
   cases h
   exact ⟨t12, t13, rfl, rfl⟩
  refine wkf (wsr (oM rfl (zb h fun y14 hy14 h => oT (zL (zbD hy14) hT (s1 rfl) k4 (fun R H' hR => ?_)))))
  obtain ⟨t15, t16, rfl, rfl⟩ := hR
  refine oV (zgh GTok.f1 rfl zdJ rfl) (oA rfl (rnf (zN (zo (.tmp rfl .nil) k4 ?_))))
  cases h
  exact ⟨t15, t16, rfl, rfl⟩
 refine zC (j := 13) h rfl (fun g10 h => ?_) (fun g10 h => ?_)
 ·exact oP 13 rfl rfl g10 (oP 13 rfl rfl g10 (oP 13 rfl rfl g10 (oP 13 rfl rfl g10 (oV (zr rfl g10 rfl) (hJ9 _ () h _ (ze 5 rfl rfl (za (j := 18) rfl hI zd) k4))))))
 exact oK 13 rfl rfl rfl g10 (zac rfl GTok.f0 zcF rfl (z := y4.1.kind)) (oK 13 rfl rfl rfl g10 (zg ty3 rfl) (oK 13 rfl rfl rfl g10 (zq rfl) (oK 13 rfl rfl rfl g10 (zcq rfl rfl) (oV (zs rfl g10 rfl) (hJ9 _ () h _ (ze 5 rfl rfl (za (j := 18) rfl hI zd) k4))))))


theorem zM : ∀ {a_x : GPar} {a_s : Str} {zG : Nat} {t_a_x1 : Tok} {t_a_x2 : Tok} {zH : Vt} {r : Bool × GPar}, zF a_x a_s = some r → Ctr Tryd.prog 25 [ptrv zG (Fld.id ((List GTok) × Int × (Str × Int × (TList Str) × (TList Int) × Vh) × Int × Int)), isv (a_s)] [boxE zG ((a_x.l, a_x.at_, (a_x.m.name, a_x.m.tagging, (TList.mk t_a_x1 a_x.m.names), (TList.mk t_a_x2 a_x.m.types), (Vh.mk zH a_x.m.nodes.length)), a_x.e, a_x.p) : ((List GTok) × Int × (Str × Int × (TList Str) × (TList Int) × Vh) × Int × Int)), tokE t_a_x1, tokE t_a_x2, vecE zH (a_x.m.nodes : List GNode)] (fun R H => ∃ u1 : Tok, ∃ u2 : Tok, R = oneOf [isv (r.1)] ∧ H = [boxE zG ((r.2.l, r.2.at_, (r.2.m.name, r.2.m.tagging, (TList.mk u1 r.2.m.names), (TList.mk u2 r.2.m.types), (Vh.mk zH r.2.m.nodes.length)), r.2.e, r.2.p)), tokE u1, tokE u2, vecE zH (r.2.m.nodes)]) := by
 intro a_x a_s zG t_a_x1 t_a_x2 zH r h
 unfold zF at h
 refine zw Tryd.func25 rfl fun w0 S0 hT => wsr (oA rfl (rnf (wsr (oM rfl (zb h fun y4 hy4 h => oT (zL (zaO hy4) hT (s1 rfl) k4 (fun R H' hR => ?_)))))))
 obtain ⟨t5, t6, rfl, rfl⟩ := hR
 refine oT (zab _ ze80 fun b7 => oT (zi (y' := (y4.1 : GTok)) ty80 rfl rfl hI .here rfl (zai (zas 5 .here rfl) (rnf (zn (wsr (oM rfl (oV (zp rfl) (oV (z8 rfl zbJ zcM) ?_)))))))))
 refine oT (zI (R := isv (y4.2.e)) ty31 rfl .here hI (oV (zam rfl rfl) (oM rfl (zaz (jb 22) je .nil h 9 rfl (fun q8 g8 h => ?_) (fun J9 h hJ9 => ?_)))))
 ·refine oM rfl (zaz (jb 28) je .nil h 5 rfl (fun q14 g14 h => ?_) (fun J15 h hJ15 => ?_))
  ·refine rnf (zf h rfl (fun _ h => ?_) (fun _ h => ?_))
   ·refine wsr (oM rfl (zb h fun y17 hy17 h => oT (zL (zbD hy17) hT (s1 rfl) k4 (fun R H' hR => ?_))))
    obtain ⟨t18, t19, rfl, rfl⟩ := hR
    refine rnf (wsr (oA rfl (rnf (zN (zB (zo (.tmp rfl .nil) k4 ?_))))))
    cases h
    exact ⟨t18, t19, rfl, rfl⟩
   refine wkf (wsr (oA rfl (rnf (zN (zo (.tmp rfl .nil) k4 ?_)))))
   cases h
   exact ⟨t5, t6, rfl, rfl⟩
  refine zC (j := 23) h rfl (fun g16 h => ?_) (fun g16 h => ?_)
  ·exact oK 23 rfl rfl rfl g16 (zac rfl GTok.f1 zdJ rfl (z := y4.1.text)) (oK 23 rfl rfl rfl g16 (zg ty9 rfl) (oK 23 rfl rfl rfl g16 (zq rfl) (oK 23 rfl rfl rfl g16 (zcx eq9 rfl rfl) (oV (zr rfl g16 rfl) (hJ15 _ () h _ (ze 5 rfl rfl (za (j := 28) rfl hI zd) k4))))))
  exact oP 23 rfl rfl g16 (oP 23 rfl rfl g16 (oP 23 rfl rfl g16 (oP 23 rfl rfl g16 (oV (zs rfl g16 rfl) (hJ15 _ () h _ (ze 5 rfl rfl (za (j := 28) rfl hI zd) k4))))))
 refine zC (j := 13) h rfl (fun g10 h => ?_) (fun g10 h => ?_)
 ·refine oK 13 rfl rfl rfl g10 (zac rfl GTok.f0 zcF rfl (z := y4.1.kind)) (oK 13 rfl rfl rfl g10 (zg ty3 rfl) (oK 13 rfl rfl rfl g10 (zam rfl rfl) (oK 13 rfl rfl rfl g10 (zq rfl) (zaz (jb 21) je .nil h 4 rfl (fun q11 g11 h => ?_) (fun J12 h hJ12 => ?_)))))
  ·exact oV (zr rfl g10 rfl) (hJ9 _ () h _ (ze 6 rfl rfl (za (j := 22) rfl hI zd) k4))
  refine zC (j := 17) h rfl (fun g13 h => ?_) (fun g13 h => ?_)
  ·exact oP 17 rfl rfl g13 (oP 17 rfl rfl g13 (oP 17 rfl rfl g13 (oK 13 rfl rfl rfl g10 (zr rfl g13 rfl) (hJ12 _ () h _ (ze 4 rfl rfl (za (j := 21) rfl hI zd) k4)))))
  exact oK 17 rfl rfl rfl g13 (zac rfl GTok.f0 zcF rfl (z := y4.1.kind)) (oK 17 rfl rfl rfl g13 (zg ty3 rfl) (oK 17 rfl rfl rfl g13 (zam rfl rfl) (oK 13 rfl rfl rfl g10 (zs rfl g13 rfl) (hJ12 _ () h _ (ze 4 rfl rfl (za (j := 21) rfl hI zd) k4)))))
 refine oP 13 rfl rfl g10 (oP 13 rfl rfl g10 (oP 13 rfl rfl g10 (oP 13 rfl rfl g10 (zz rfl (dj := 17) rfl (zz rfl (dj := 17) rfl (zz rfl (dj := 17) rfl (oP 13 rfl rfl g10 (oV (zs rfl g10 rfl) ?_))))))))
 exact hJ9 _ () h _ (ze 9 rfl rfl (za (j := 22) rfl hI zd) k4)


theorem zZ : ∀ {a_x : GPar} {a_s : Str} {zG : Nat} {t_a_x1 : Tok} {t_a_x2 : Tok} {zH : Vt} {r : GPar}, zO a_x a_s = some r → Ctr Tryd.prog 24 [ptrv zG (Fld.id ((List GTok) × Int × (Str × Int × (TList Str) × (TList Int) × Vh) × Int × Int)), isv (a_s)] [boxE zG ((a_x.l, a_x.at_, (a_x.m.name, a_x.m.tagging, (TList.mk t_a_x1 a_x.m.names), (TList.mk t_a_x2 a_x.m.types), (Vh.mk zH a_x.m.nodes.length)), a_x.e, a_x.p) : ((List GTok) × Int × (Str × Int × (TList Str) × (TList Int) × Vh) × Int × Int)), tokE t_a_x1, tokE t_a_x2, vecE zH (a_x.m.nodes : List GNode)] (fun R H => ∃ u1 : Tok, ∃ u2 : Tok, R = oneOf [] ∧ H = [boxE zG ((r.l, r.at_, (r.m.name, r.m.tagging, (TList.mk u1 r.m.names), (TList.mk u2 r.m.types), (Vh.mk zH r.m.nodes.length)), r.e, r.p)), tokE u1, tokE u2, vecE zH (r.m.nodes)]) := by
 intro a_x a_s zG t_a_x1 t_a_x2 zH r h
 unfold zO at h
 refine zw Tryd.func24 rfl fun w0 S0 hT => wsr (oM rfl (oV (zp rfl) (oV (z8 rfl zbJ zcM) (oT (zI (R := isv (a_x.e)) ty31 rfl .here hI (oV (zam rfl rfl) (oM rfl (zaz (ι := Bool × GPar) (γ := Tok × Tok) (fun q4 g4 => [(14, isv (q4.1))]) (fun q4 g4 => [boxE zG ((q4.2.l, q4.2.at_, (q4.2.m.name, q4.2.m.tagging, (TList.mk g4.1 q4.2.m.names), (TList.mk g4.2 q4.2.m.types), (Vh.mk zH q4.2.m.nodes.length)), q4.2.e, q4.2.p) : ((List GTok) × Int × (Str × Int × (TList Str) × (TList Int) × Vh) × Int × Int)), tokE g4.1, tokE g4.2, vecE zH (q4.2.m.nodes : List GNode)]) k4 h 5 rfl (fun q4 g4 h => ?_) (fun J5 h hJ5 => ?_)))))))))
 ·refine rnf (zf h rfl (fun _ h => ?_) (fun _ h => ?_))
  ·refine zj (oM rfl (oM rfl (zb h fun y10 hy10 h => oT (zL (zaO hy10) hT (s1 rfl) k4 (fun R H' hR => ?_)))))
   obtain ⟨t11, t12, rfl, rfl⟩ := hR
   refine zb h fun y13 hy13 h => oT (zL (za5 hy13) hT (s3 rfl rfl rfl) k4 (fun R H' hR => ?_))
   obtain ⟨t14, t15, rfl, rfl⟩ := hR
   refine zx (zao .nil k4 ?_)
   cases h
   exact ⟨t14, t15, rfl, rfl⟩
  refine zW (zao .nil k4 ?_)
  cases h
  exact ⟨g4.1, g4.2, rfl, rfl⟩
 refine zC (j := 9) h rfl (fun g6 h => ?_) (fun g6 h => ?_)
 ·refine oK 9 rfl rfl rfl g6 (zq rfl) (oK 9 rfl rfl rfl g6 (zq rfl) (zb h fun y7 hy7 h => zaA rfl rfl (dj := 9) rfl g6 (zL (zM hy7) hT (s2 rfl rfl) k4 (fun R H' hR => ?_))))
  obtain ⟨t8, t9, rfl, rfl⟩ := hR
  exact oK 9 rfl rfl rfl g6 (zbL rfl) (oV (zr rfl g6 rfl) (hJ5 _ (t8, t9) h _ (ze 5 rfl rfl (za (j := 14) rfl hI zd) k4)))
 exact oP 9 rfl rfl g6 (oP 9 rfl rfl g6 (oP 9 rfl rfl g6 (oP 9 rfl rfl g6 (oV (zs rfl g6 rfl) (hJ5 _ (t_a_x1, t_a_x2) h _ (ze 5 rfl rfl (za (j := 14) rfl hI zd) k4))))))


theorem zkd : ∀ {a_t : GTok} {r : Bool}, zdX a_t = some r → Ctr Tryd.prog 51 [isv (a_t)] [] (fun R H => R = oneOf [isv (r)] ∧ H = []) := by
 intro a_t r h
 unfold zdX at h
 refine zw Tryd.func51 rfl fun w0 S0 hT => wsr (oT (zbI (y := a_t) rfl hI (oA rfl (rnf (wsr (oT (zS (l := ([(Str.mk [91]), (Str.mk [66, 79, 79, 76, 69, 65, 78]), (Str.mk [78, 85, 76, 76]), (Str.mk [85, 84, 70, 56, 83, 116, 114, 105, 110, 103]), (Str.mk [73, 78, 84, 69, 71, 69, 82]), (Str.mk [79, 67, 84, 69, 84]), (Str.mk [69, 78, 85, 77, 69, 82, 65, 84, 69, 68]), (Str.mk [83, 69, 84]), (Str.mk [67, 72, 79, 73, 67, 69]), (Str.mk [83, 69, 81, 85, 69, 78, 67, 69])] : (List Str))) el27 (.cons rfl hI (.cons rfl hI (.cons rfl hI (.cons rfl hI (.cons rfl hI (.cons rfl hI (.cons rfl hI (.cons rfl hI (.cons rfl hI (.cons rfl hI .nil)))))))))) rfl rfl (oA rfl (rnf ?_)))))))))
 refine zn (wsr (oA rfl (rnf (zu (zbg (ι := Int) (γ := Unit) (fun q2 g2 => [(4, isv (q2))]) (fun q2 g2 => []) h () (za (j := 4) rfl hI zd) .nil (fun L3 q2 g2 Q20 h hL3 eL3 rL3 => zn (wsr (oM rfl ?_))))))))
 refine oM rfl (oV (za6 (l := ([(Str.mk [91]), (Str.mk [66, 79, 79, 76, 69, 65, 78]), (Str.mk [78, 85, 76, 76]), (Str.mk [85, 84, 70, 56, 83, 116, 114, 105, 110, 103]), (Str.mk [73, 78, 84, 69, 71, 69, 82]), (Str.mk [79, 67, 84, 69, 84]), (Str.mk [69, 78, 85, 77, 69, 82, 65, 84, 69, 68]), (Str.mk [83, 69, 84]), (Str.mk [67, 72, 79, 73, 67, 69]), (Str.mk [83, 69, 81, 85, 69, 78, 67, 69])] : (List Str))) rfl zJ sl27) (oV (zal rfl rfl) (rnf (zf h rfl (fun _ h => ?_) (fun _ h => ?_)))))
 ·refine wkf (zn (zu (zn (zU (.v 0 (.v 1 (.v 2 (.v 3 (.v 4 (.v 5 (.v 6 (.v 7 (.v 8 (.v 9 (.v 10 (.v 11 (.v 12 (.v 13 (.v 14 (.v 15 (.v 16 .nil))))))))))))))))) moOrd (by kernel_rfl) ?_))))
  refine rvm rfl rfl (rvm rfl rfl (zb h fun y12 hy12 h => zt rfl (zaK (l := ([(Str.mk [91]), (Str.mk [66, 79, 79, 76, 69, 65, 78]), (Str.mk [78, 85, 76, 76]), (Str.mk [85, 84, 70, 56, 83, 116, 114, 105, 110, 103]), (Str.mk [73, 78, 84, 69, 71, 69, 82]), (Str.mk [79, 67, 84, 69, 84]), (Str.mk [69, 78, 85, 77, 69, 82, 65, 84, 69, 68]), (Str.mk [83, 69, 84]), (Str.mk [67, 72, 79, 73, 67, 69]), (Str.mk [83, 69, 81, 85, 69, 78, 67, 69])] : (List Str))) rfl zJ rfl sl27 hy12) (zt rfl (zg ty9 rfl) (zt rfl (zac rfl GTok.f1 zdJ rfl (z := a_t.text)) (zt rfl (zg ty9 rfl) (zt rfl (zcx eq9 rfl rfl) (rvm rfl rfl ?_)))))))
  refine zc9 (jb 28) je .nil h 9 rfl (fun q13 g13 h => ?_) (fun J14 h hJ14 => ?_)
  ·refine zae (zA (zf h rfl (fun _ h => ?_) (fun _ h => ?_)))
   ·refine wsr (oA rfl (rnf (zN (zD (zB (rL3 _ (zD (zB ?_))))))))
    cases h
    exact zo (.tmp rfl .nil) .nil ⟨rfl, rfl⟩
   refine zW (zk (zA (zj (oM rfl (zE h fun q19 h => oV (zaf rfl rfl q19) (oA rfl (zx ?_)))))))
   exact hL3 _ () h _ (ji 17 4 rfl rfl rfl)
  refine zaF (j := 19) h rfl (fun g15 h => ?_) (fun g15 h => ?_)
  ·refine rvt 19 rfl rfl rfl g15 (zac rfl GTok.f0 zcF rfl (z := a_t.kind)) (rvt 19 rfl rfl rfl g15 (zg ty3 rfl) (rvt 19 rfl rfl rfl g15 (zam rfl rfl) (rvt 19 rfl rfl rfl g15 (zq rfl) (zc9 (jb 27) je .nil h 4 rfl (fun q16 g16 h => ?_) (fun J17 h hJ17 => ?_)))))
   ·exact zt rfl (zr rfl g15 rfl) (hJ14 _ () h _ (ji 6 28 rfl rfl rfl))
   refine zaF (j := 23) h rfl (fun g18 h => ?_) (fun g18 h => ?_)
   ·exact rpv 23 rfl rfl rfl g18 (rpv 23 rfl rfl rfl g18 (rpv 23 rfl rfl rfl g18 (rvt 19 rfl rfl rfl g15 (zr rfl g18 rfl) (hJ17 _ () h _ (ji 4 27 rfl rfl rfl)))))
   exact rvt 23 rfl rfl rfl g18 (zac rfl GTok.f0 zcF rfl (z := a_t.kind)) (rvt 23 rfl rfl rfl g18 (zg ty3 rfl) (rvt 23 rfl rfl rfl g18 (zam rfl rfl) (rvt 19 rfl rfl rfl g15 (zs rfl g18 rfl) (hJ17 _ () h _ (ji 4 27 rfl rfl rfl)))))
  refine rpv 19 rfl rfl rfl g15 (rpv 19 rfl rfl rfl g15 (rpv 19 rfl rfl rfl g15 (rpv 19 rfl rfl rfl g15 (zav rfl rfl (dj := 23) rfl (zav rfl rfl (dj := 23) rfl (zav rfl rfl (dj := 23) rfl (rpv 19 rfl rfl rfl g15 (zt rfl (zs rfl g15 rfl) ?_))))))))
  exact hJ14 _ () h _ (ji 9 28 rfl rfl rfl)
 refine zah (zX (eL3 _ _ (zK (zA (wsr (oV (zac rfl GTok.f0 zcF rfl (z := a_t.kind)) (oV (zg ty3 rfl) (oV (zam rfl rfl) ?_))))))))
 refine oA rfl (rnf (zN ?_))
 cases h
 exact zo (.tmp rfl .nil) .nil ⟨rfl, rfl⟩


theorem zhO : ∀ {a_s : Str} {r : Int}, zcY a_s = some r → Ctr Tryd.prog 76 [isv (a_s)] [] (fun R H => R = oneOf [isv (r)] ∧ H = []) := by
 intro a_s r h
 unfold zcY at h
 refine zw Tryd.func76 rfl fun w0 S0 hT => wsr (oA rfl (rnf (wsr (oM rfl (zb h fun y1 hy1 h => oV (zbN y1 st9 rfl rfl hy1) (oV (zcx eq5 rfl rfl) ?_))))))
 refine oA rfl (rnf (zn (wsr (oM rfl (rnf (zdg (ι := Str) (γ := Unit) (fun q2 g2 => [(0, isv (q2))]) (fun q2 g2 => []) .nil h (fun q2 g2 h => ?_) (fun J3 h hJ3 => ?_)))))))
 ·refine wsr (oA rfl (rnf (zn (wsr (oA rfl (rnf (zu (zbg (ι := UInt64 × Int) (γ := Unit) (fun q5 g5 => [(4, isv (q5.1)), (5, isv (q5.2))]) (fun q5 g5 => []) h () (za (j := 4) rfl hI (za (j := 5) rfl hI zd)) .nil (fun L6 q5 g5 Q19 h hL6 eL6 rL6 => ?_)))))))))
  refine zn (wsr (oM rfl (oM rfl (oV (zdm st9 rfl) (oV (zal rfl rfl) (rnf (zf h rfl (fun _ h => ?_) (fun _ h => ?_))))))))
  ·refine wkf (zn (zu (zj (oM rfl (oV (zlS rfl rfl) (oM rfl (oM rfl (zb h fun y13 hy13 h => ?_))))))))
   refine oV (zbN y13 st9 rfl rfl hy13) (oV (zjW rfl rfl) (oV (zd4 Tryd.underlying5 Tryd.underlying26 rfl) (oV (zhU rfl rfl) (oA rfl (zx (zk (zA (zj ?_))))))))
   exact oM rfl (zE h fun q14 h => oV (zaf rfl rfl q14) (oA rfl (zx (hL6 _ () h _ (ze 18 rfl rfl (za (j := 4) rfl hI (za (j := 5) rfl hI zd)) .nil)))))
  refine zah (zX (eL6 _ _ (zK (zA (zn (wsr (oM rfl (rnf ?_))))))))
  refine zf h rfl (fun _ h => ?_) (fun _ h => ?_)
  ·refine wsr (oM rfl (oV (zoP rfl rfl) (zE h fun q15 h => oV (zf2 Tryd.underlying26 Tryd.underlying2 rfl q15) (zE h fun q16 h => oV (zpX rfl q16) (zE h fun q17 h => oV (zbZ rfl rfl q17) ?_)))))
   refine oA rfl (rnf (zN (zB ?_)))
   cases h
   exact zo (.tmp rfl .nil) .nil ⟨rfl, rfl⟩
  refine wkf (wsr (oM rfl (zE h fun q18 h => oV (zf2 Tryd.underlying26 Tryd.underlying2 rfl q18) (oA rfl (rnf (zN ?_))))))
  cases h
  exact zo (.tmp rfl .nil) .nil ⟨rfl, rfl⟩
 refine zf h rfl (fun _ h => ?_) (fun _ h => ?_)
 ·exact zj (oM rfl (zV h fun q4 h => oV (zhD st9 rfl (.inr ⟨_, rfl, rfl⟩) (.inl ⟨rfl, rfl⟩) q4.1 q4.2.1 q4.2.2) (oA rfl (zx (hJ3 _ () h _ (ji 3 0 rfl rfl rfl))))))
 exact zW (hJ3 _ () h _ (ji 0 0 rfl rfl rfl))


theorem zco : ∀ {a_x : GPar} {zG : Nat} {t_a_x1 : Tok} {t_a_x2 : Tok} {zH : Vt} {r : Int × GPar}, zaW a_x = some r → Ctr Tryd.prog 52 [ptrv zG (Fld.id ((List GTok) × Int × (Str × Int × (TList Str) × (TList Int) × Vh) × Int × Int))] [boxE zG ((a_x.l, a_x.at_, (a_x.m.name, a_x.m.tagging, (TList.mk t_a_x1 a_x.m.names), (TList.mk t_a_x2 a_x.m.types), (Vh.mk zH a_x.m.nodes.length)), a_x.e, a_x.p) : ((List GTok) × Int × (Str × Int × (TList Str) × (TList Int) × Vh) × Int × Int)), tokE t_a_x1, tokE t_a_x2, vecE zH (a_x.m.nodes : List GNode)] (fun R H => ∃ u1 : Tok, ∃ u2 : Tok, R = oneOf [isv (r.1)] ∧ H = [boxE zG ((r.2.l, r.2.at_, (r.2.m.name, r.2.m.tagging, (TList.mk u1 r.2.m.names), (TList.mk u2 r.2.m.types), (Vh.mk zH r.2.m.nodes.length)), r.2.e, r.2.p)), tokE u1, tokE u2, vecE zH (r.2.m.nodes)]) := by
 intro a_x zG t_a_x1 t_a_x2 zH r h
 unfold zaW at h
 refine zw Tryd.func52 rfl fun w0 S0 hT => wsr (oA rfl (rnf (wsr (oM rfl (zb h fun y4 hy4 h => oT (zL (zcl hy4) hT (s2 rfl rfl) k4 (fun R H' hR => ?_)))))))
 obtain ⟨t5, t6, rfl, rfl⟩ := hR
 refine oA rfl (rnf (zn (wsr (oM rfl (oV (zcx eq9 rfl rfl) (rnf (zf h rfl (fun _ h => ?_) (fun _ h => ?_))))))))
 ·refine wsr (oA rfl (rnf (zN (zB (zo (.tmp rfl .nil) k4 ?_)))))
  cases h
  exact ⟨t5, t6, rfl, rfl⟩
 refine wkf (wsr (oM rfl (zb h fun y7 hy7 h => oT (zy (zhO hy7) hT (s1 rfl) .nil (oA rfl (rnf (zN (zo (.tmp rfl .nil) k4 ?_))))))))
 cases h
 exact ⟨t5, t6, rfl, rfl⟩


theorem zeg : ∀ {a_x : GPar} {zG : Nat} {t_a_x1 : Tok} {t_a_x2 : Tok} {zH : Vt} {r : GCon × GPar}, zb0 a_x = some r → Ctr Tryd.prog 78 [ptrv zG (Fld.id ((List GTok) × Int × (Str × Int × (TList Str) × (TList Int) × Vh) × Int × Int))] [boxE zG ((a_x.l, a_x.at_, (a_x.m.name, a_x.m.tagging, (TList.mk t_a_x1 a_x.m.names), (TList.mk t_a_x2 a_x.m.types), (Vh.mk zH a_x.m.nodes.length)), a_x.e, a_x.p) : ((List GTok) × Int × (Str × Int × (TList Str) × (TList Int) × Vh) × Int × Int)), tokE t_a_x1, tokE t_a_x2, vecE zH (a_x.m.nodes : List GNode)] (fun R H => ∃ u1 : Tok, ∃ u2 : Tok, R = oneOf [isv (r.1)] ∧ H = [boxE zG ((r.2.l, r.2.at_, (r.2.m.name, r.2.m.tagging, (TList.mk u1 r.2.m.names), (TList.mk u2 r.2.m.types), (Vh.mk zH r.2.m.nodes.length)), r.2.e, r.2.p)), tokE u1, tokE u2, vecE zH (r.2.m.nodes)]) := by
 intro a_x zG t_a_x1 t_a_x2 zH r h
 unfold zb0 at h
 refine zw Tryd.func78 rfl fun w0 S0 hT => wsr (oT (zab _ ze50 fun b4 => rnf (wsr (oV (zax (z := (GCon.mk true false false false (0 : Int) (0 : Int))) rfl bu50 ze50 (.cons GCon.f0 zlL rfl hI .nil)) (oT (zab _ ze50 fun b5 => oT (zi (y' := ((GCon.mk true false false false (0 : Int) (0 : Int)) : GCon)) ty50 rfl rfl hI .here rfl (rnf ?_))))))))
 refine zn (wsr (oM rfl (zb h fun y6 hy6 h => oT (zL (zM hy6) hT (s2 rfl rfl) (.cons tI (.cons tI (.cons tI (.cons tI .nil)))) (fun R H' hR => ?_)))))
 obtain ⟨t7, t8, rfl, rfl⟩ := hR
 refine oV (zbL rfl) (rnf (zdg (ι := GPar × GCon) (γ := Tok × Tok) (fun q9 g9 => []) (fun q9 g9 => [boxE zG ((q9.1.l, q9.1.at_, (q9.1.m.name, q9.1.m.tagging, (TList.mk g9.1 q9.1.m.names), (TList.mk g9.2 q9.1.m.types), (Vh.mk zH q9.1.m.nodes.length)), q9.1.e, q9.1.p) : ((List GTok) × Int × (Str × Int × (TList Str) × (TList Int) × Vh) × Int × Int)), tokE g9.1, tokE g9.2, vecE zH (q9.1.m.nodes : List GNode), boxE b5 (q9.2 : GCon)]) (.cons .here (.cons (.there tI) k3)) h (fun q9 g9 h => ?_) (fun J10 h hJ10 => ?_)))
 ·refine zn (zdg (ι := GPar × GCon) (γ := Tok × Tok) (fun q14 g14 => []) (fun q14 g14 => [boxE zG ((q14.1.l, q14.1.at_, (q14.1.m.name, q14.1.m.tagging, (TList.mk g14.1 q14.1.m.names), (TList.mk g14.2 q14.1.m.types), (Vh.mk zH q14.1.m.nodes.length)), q14.1.e, q14.1.p) : ((List GTok) × Int × (Str × Int × (TList Str) × (TList Int) × Vh) × Int × Int)), tokE g14.1, tokE g14.2, vecE zH (q14.1.m.nodes : List GNode), boxE b5 (q14.2 : GCon)]) (.cons .here (.cons (.there tI) k3)) h (fun q14 g14 h => ?_) (fun J15 h hJ15 => ?_))
  ·refine zn (wsr (oM rfl (zb h fun y25 hy25 h => oT (zL (zM hy25) hT (s2 rfl rfl) k4 (fun R H' hR => ?_)))))
   obtain ⟨t26, t27, rfl, rfl⟩ := hR
   refine rnf (zdg (ι := GPar × GCon) (γ := Tok × Tok) (fun q28 g28 => []) (fun q28 g28 => [boxE zG ((q28.1.l, q28.1.at_, (q28.1.m.name, q28.1.m.tagging, (TList.mk g28.1 q28.1.m.names), (TList.mk g28.2 q28.1.m.types), (Vh.mk zH q28.1.m.nodes.length)), q28.1.e, q28.1.p) : ((List GTok) × Int × (Str × Int × (TList Str) × (TList Int) × Vh) × Int × Int)), tokE g28.1, tokE g28.2, vecE zH (q28.1.m.nodes : List GNode), boxE b5 (q28.2 : GCon)]) (.cons .here (.cons (.there tI) k3)) h (fun q28 g28 h => ?_) (fun J29 h hJ29 => ?_))
   ·refine wsr (oT (zI (R := isv (q28.2)) ty50 rfl (.there (.there tI)) hI (oT (zi (y' := (q28.2 : GCon)) ty50 rfl rfl hI (.there (.there (.there tI))) rfl (rnf (zN (zo (.cell rfl .here ty50 .nil) (.cons tH (.cons tH (.cons tH (.cons tH .nil)))) ?_)))))))
    cases h
    exact ⟨g28.1, g28.2, rfl, rfl⟩
   refine zf h rfl (fun _ h => ?_) (fun _ h => ?_)
   ·refine wsr (oM rfl (zb h fun y30 hy30 h => oT (zL (zZ hy30) hT (s2 rfl rfl) k4 (fun R H' hR => ?_))))
    obtain ⟨t31, t32, rfl, rfl⟩ := hR
    exact rnf (zj (oV (z8 rfl GCon.f3 zpw) (oT (zi (y' := ({ q14.2 with more := true } : GCon)) ty4 rfl rfl hI (.there (.there tI)) rfl (zx (hJ29 _ (t31, t32) h _ (ze 3 rfl rfl zd (.cons tH (.cons tH (.cons tH (.cons tH k2)))))))))))
   exact zW (hJ29 _ (t26, t27) h _ (ze 0 rfl rfl zd (.cons .here (.cons .here k4))))
  refine zu (wsr (oM rfl (zb h fun y16 hy16 h => oT (zL (zM hy16) hT (s2 rfl rfl) k4 (fun R H' hR => ?_)))))
  obtain ⟨t17, t18, rfl, rfl⟩ := hR
  refine oA rfl (rnf (zf h rfl (fun _ h => ?_) (fun _ h => ?_)))
  ·refine wsr (oM rfl (zb h fun y19 hy19 h => oT (zL (zM hy19) hT (s2 rfl rfl) k4 (fun R H' hR => ?_))))
   obtain ⟨t20, t21, rfl, rfl⟩ := hR
   refine oV (zbL rfl) (rnf (zf h rfl (fun _ h => ?_) (fun _ h => ?_)))
   ·refine zj (oM rfl (zb h fun y22 hy22 h => oT (zL (zco hy22) hT (s1 rfl) k4 (fun R H' hR => ?_))))
    obtain ⟨t23, t24, rfl, rfl⟩ := hR
    exact oV (z8 rfl GCon.f2 zij) (oT (zi (y' := ({ q9.2 with hasHigh := true } : GCon)) ty4 rfl rfl hI (.there (.there tI)) rfl (oV (z8 rfl GCon.f5 zho) (oT (zi (y' := ({ { q9.2 with hasHigh := true } with high := y22.1 } : GCon)) ty2 rfl rfl hI .here rfl (zx (zk (hJ15 _ (t23, t24) h _ (ze 10 rfl rfl zd (.cons tH (.cons tH (.cons tH (.cons tH k2)))))))))))))
   exact zW (zk (hJ15 _ (t20, t21) h _ (ze 6 rfl rfl zd (.cons .here (.cons .here k4)))))
  refine wsr (oV (z8 rfl GCon.f1 ziq) (oT (zI (R := isv (q9.2.hasLow)) ty4 rfl (.there (.there tI)) hI (oA rfl (rnf (zf h rfl (fun _ h => ?_) (fun _ h => ?_)))))))
  ·refine zj (oV (z8 rfl GCon.f4 zhv) (oT (zI (R := isv (q9.2.low)) ty2 rfl (.there (.there tI)) hI (oV (z8 rfl GCon.f2 zij) (oT (zi (y' := ({ q9.2 with hasHigh := true } : GCon)) ty4 rfl rfl hI (.there (.there tI)) rfl (oV (z8 rfl GCon.f5 zho) (oT (zi (y' := ({ { q9.2 with hasHigh := true } with high := q9.2.low } : GCon)) ty2 rfl rfl hI .here rfl (zx (zk ?_)))))))))))
   exact hJ15 _ (t17, t18) h _ (ze 10 rfl rfl zd (.cons tH (.cons tH (.cons tH (.cons tH k2)))))
  exact zW (zk (hJ15 _ (t17, t18) h _ (ze 6 rfl rfl zd (.cons .here (.cons .here k4)))))
 refine zf h rfl (fun _ h => ?_) (fun _ h => ?_)
 ·refine zj (oM rfl (zb h fun y11 hy11 h => oT (zL (zco hy11) hT (s1 rfl) k4 (fun R H' hR => ?_))))
  obtain ⟨t12, t13, rfl, rfl⟩ := hR
  exact oV (z8 rfl GCon.f1 ziq) (oT (zi (y' := ((GCon.mk true true false false (0 : Int) (0 : Int)) : GCon)) ty4 rfl rfl hI (.there (.there tI)) rfl (oV (z8 rfl GCon.f4 zhv) (oT (zi (y' := ((GCon.mk true true false false y11.1 (0 : Int)) : GCon)) ty2 rfl rfl hI .here rfl (zx (hJ10 _ (t12, t13) h _ (ze 4 rfl rfl zd (.cons tH (.cons tH (.cons tH (.cons tH k2))))))))))))
 exact zW (hJ10 _ (t7, t8) h _ (ze 0 rfl rfl zd (.cons .here (.cons .here k4))))

end Go.Proofs.Q


namespace Go.Proofs.Q
open Go.Sy
set_option maxRecDepth 4000
theorem zdy : ∀ {a_x : GPar} {zG : Nat} {t_a_x1 : Tok} {t_a_x2 : Tok} {zH : Vt} {r : GCon × GPar}, zb3 a_x = some r → Ctr Tryd.prog 77 [ptrv zG (Fld.id ((List GTok) × Int × (Str × Int × (TList Str) × (TList Int) × Vh) × Int × Int))] [boxE zG ((a_x.l, a_x.at_, (a_x.m.name, a_x.m.tagging, (TList.mk t_a_x1 a_x.m.names), (TList.mk t_a_x2 a_x.m.types), (Vh.mk zH a_x.m.nodes.length)), a_x.e, a_x.p) : ((List GTok) × Int × (Str × Int × (TList Str) × (TList Int) × Vh) × Int × Int)), tokE t_a_x1, tokE t_a_x2, vecE zH (a_x.m.nodes : List GNode)] (fun R H => ∃ u1 : Tok, ∃ u2 : Tok, R = oneOf [isv (r.1)] ∧ H = [boxE zG ((r.2.l, r.2.at_, (r.2.m.name, r.2.m.tagging, (TList.mk u1 r.2.m.names), (TList.mk u2 r.2.m.types), (Vh.mk zH r.2.m.nodes.length)), r.2.e, r.2.p)), tokE u1, tokE u2, vecE zH (r.2.m.nodes)]) := by
 intro a_x zG t_a_x1 t_a_x2 zH r h
 unfold zb3 at h
 refine zw Tryd.func77 rfl fun w0 S0 hT => wsr (oT (zab _ ze50 fun b4 => rnf (zn (wsr (oM rfl (zb h fun y5 hy5 h => oT (zL (zM hy5) hT (s2 rfl rfl) (.cons tH (.cons tH (.cons tH (.cons tH .nil)))) (fun R H' hR => ?_))))))))
 obtain ⟨t6, t7, rfl, rfl⟩ := hR
 refine oV (zbL rfl) (rnf (zf h rfl (fun _ h => ?_) (fun _ h => ?_)))
 ·refine wsr (oV (zax (z := (GCon.mk false false false false (0 : Int) (0 : Int))) rfl bu50 ze50 .nil) (oT (zi (y' := ((GCon.mk false false false false (0 : Int) (0 : Int)) : GCon)) ty50 rfl rfl hI (.there (.there tI)) rfl (rnf (zN (zB (zo (.cell rfl .here ty50 .nil) (.cons tH (.cons tH (.cons tH (.cons tH .nil)))) ?_)))))))
  cases h
  exact ⟨t6, t7, rfl, rfl⟩
 refine wkf (wsr (oM rfl (zb h fun y8 hy8 h => oT (zL (zZ hy8) hT (s2 rfl rfl) k4 (fun R H' hR => ?_)))))
 obtain ⟨t9, t10, rfl, rfl⟩ := hR
 refine rnf (wsr (oM rfl (zb h fun y11 hy11 h => oT (zL (zZ hy11) hT (s2 rfl rfl) k4 (fun R H' hR => ?_)))))
 obtain ⟨t12, t13, rfl, rfl⟩ := hR
 refine rnf (wsr (oM rfl (zb h fun y14 hy14 h => oT (zL (zeg hy14) hT (s1 rfl) k4 (fun R H' hR => ?_)))))
 obtain ⟨t15, t16, rfl, rfl⟩ := hR
 refine oT (zab _ ze50 fun b17 => oT (zi (y' := (y14.1 : GCon)) ty50 rfl rfl hI .here rfl (zai (zas 3 .here rfl) (rnf (wsr (oM rfl (zb h fun y18 hy18 h => oT (zL (zZ hy18) hT (s2 rfl rfl) k4 (fun R H' hR => ?_)))))))))
 obtain ⟨t19, t20, rfl, rfl⟩ := hR
 refine rnf (wsr (oM rfl (zb h fun y21 hy21 h => oT (zL (zZ hy21) hT (s2 rfl rfl) k4 (fun R H' hR => ?_)))))
 obtain ⟨t22, t23, rfl, rfl⟩ := hR
 refine rnf (wsr (oV (zg ty50 rfl) (oT (zi (y' := (y14.1 : GCon)) ty50 rfl rfl hI (.there (.there tI)) rfl (rnf (zN (zo (.cell rfl .here ty50 .nil) (.cons tH (.cons tH (.cons tH (.cons tH .nil)))) ?_)))))))
 cases h
 exact ⟨t22, t23, rfl, rfl⟩


theorem zgG : ∀ {a_x : GPar} {a_n_ : GNode} {zG : Nat} {t_a_x1 : Tok} {t_a_x2 : Tok} {zH : Vt} {zaX : Nat} {t_a_n_4 : Tok} {t_a_n_5 : Tok} {r : GPar × GNode}, zcv a_x a_n_ = some r → Ctr Tryd.prog 79 [ptrv zG (Fld.id ((List GTok) × Int × (Str × Int × (TList Str) × (TList Int) × Vh) × Int × Int)), ptrv zaX (Fld.id (Int × Str × GMark × GCon × (TList GItem) × (TList GFld) × Int × Bool × Int))] [boxE zG ((a_x.l, a_x.at_, (a_x.m.name, a_x.m.tagging, (TList.mk t_a_x1 a_x.m.names), (TList.mk t_a_x2 a_x.m.types), (Vh.mk zH a_x.m.nodes.length)), a_x.e, a_x.p) : ((List GTok) × Int × (Str × Int × (TList Str) × (TList Int) × Vh) × Int × Int)), tokE t_a_x1, tokE t_a_x2, vecE zH (a_x.m.nodes : List GNode), boxE zaX ((a_n_.kind, a_n_.name, a_n_.mark, a_n_.con, (TList.mk t_a_n_4 a_n_.items), (TList.mk t_a_n_5 a_n_.fields), a_n_.root, a_n_.more, a_n_.of) : (Int × Str × GMark × GCon × (TList GItem) × (TList GFld) × Int × Bool × Int)), tokE t_a_n_4, tokE t_a_n_5] (fun R H => ∃ u1 : Tok, ∃ u2 : Tok, ∃ u3 : Tok, ∃ u4 : Tok, R = oneOf [] ∧ H = [boxE zG ((r.1.l, r.1.at_, (r.1.m.name, r.1.m.tagging, (TList.mk u1 r.1.m.names), (TList.mk u2 r.1.m.types), (Vh.mk zH r.1.m.nodes.length)), r.1.e, r.1.p)), tokE u1, tokE u2, vecE zH (r.1.m.nodes), boxE zaX ((r.2.kind, r.2.name, r.2.mark, r.2.con, (TList.mk u3 r.2.items), (TList.mk u4 r.2.fields), r.2.root, r.2.more, r.2.of)), tokE u3, tokE u4]) := by
 intro a_x a_n_ zG t_a_x1 t_a_x2 zH zaX t_a_n_4 t_a_n_5 r h
 unfold zcv at h
 refine zw Tryd.func79 rfl fun w0 S0 hT => zn (zdg (ι := GPar × GNode) (γ := Tok × Tok × Tok × Tok) (fun q6 g6 => []) (fun q6 g6 => [boxE zG ((q6.1.l, q6.1.at_, (q6.1.m.name, q6.1.m.tagging, (TList.mk g6.1 q6.1.m.names), (TList.mk g6.2.1 q6.1.m.types), (Vh.mk zH q6.1.m.nodes.length)), q6.1.e, q6.1.p) : ((List GTok) × Int × (Str × Int × (TList Str) × (TList Int) × Vh) × Int × Int)), tokE g6.1, tokE g6.2.1, vecE zH (q6.1.m.nodes : List GNode), boxE zaX ((q6.2.kind, q6.2.name, q6.2.mark, q6.2.con, (TList.mk g6.2.2.1 q6.2.items), (TList.mk g6.2.2.2 q6.2.fields), q6.2.root, q6.2.more, q6.2.of) : (Int × Str × GMark × GCon × (TList GItem) × (TList GFld) × Int × Bool × Int)), tokE g6.2.2.1, tokE g6.2.2.2]) (.cons .here (.cons (.there tI) (.cons .here k4))) h (fun q6 g6 h => ?_) (fun J7 h hJ7 => ?_))
 ·refine wsr (oM rfl (oV (zp rfl) (oV (z8 rfl zd0 zei) (oT (zI (R := isv (q6.2.more)) ty4 rfl (.there (.there tI)) hI (oV (zbL rfl) (rnf (zf h rfl (fun _ h => ?_) (fun _ h => ?_)))))))))
  ·refine zj (oM rfl (oM rfl (oV (zp rfl) (oV (z8 rfl zen zd3) (oT (zI (R := appv g6.2.2.1 (q6.2.items)) ty51 rfl (.there (.there tI)) isvT1 (oV (za6 (l := q6.2.items) rfl zJ sl51) (oV (zp rfl) (oV (z8 rfl zga zeM) ?_)))))))))
   refine oT (zi (y' := ((q6.2.kind, q6.2.name, q6.2.mark, q6.2.con, (TList.mk g6.2.2.1 q6.2.items), (TList.mk g6.2.2.2 q6.2.fields), (q6.2.items.length : Int), q6.2.more, q6.2.of) : (Int × Str × GMark × GCon × (TList GItem) × (TList GFld) × Int × Bool × Int))) ty3 rfl rfl hI (.there (.there tI)) rfl (zx (zao .nil (.cons tH (.cons tH (.cons tH (.cons tH k3)))) ?_)))
   cases h
   exact ⟨g6.1, g6.2.1, g6.2.2.1, g6.2.2.2, rfl, rfl⟩
  refine zW (zao .nil (.cons .here (.cons .here (.cons .here k4))) ?_)
  cases h
  exact ⟨g6.1, g6.2.1, g6.2.2.1, g6.2.2.2, rfl, rfl⟩
 refine zu (zbg (ι := GPar × GNode) (γ := Tok × Tok × Tok × Tok) (fun q8 g8 => []) (fun q8 g8 => [boxE zG ((q8.1.l, q8.1.at_, (q8.1.m.name, q8.1.m.tagging, (TList.mk g8.1 q8.1.m.names), (TList.mk g8.2.1 q8.1.m.types), (Vh.mk zH q8.1.m.nodes.length)), q8.1.e, q8.1.p) : ((List GTok) × Int × (Str × Int × (TList Str) × (TList Int) × Vh) × Int × Int)), tokE g8.1, tokE g8.2.1, vecE zH (q8.1.m.nodes : List GNode), boxE zaX ((q8.2.kind, q8.2.name, q8.2.mark, q8.2.con, (TList.mk g8.2.2.1 q8.2.items), (TList.mk g8.2.2.2 q8.2.fields), q8.2.root, q8.2.more, q8.2.of) : (Int × Str × GMark × GCon × (TList GItem) × (TList GFld) × Int × Bool × Int)), tokE g8.2.2.1, tokE g8.2.2.2]) h (t_a_x1, t_a_x2, t_a_n_4, t_a_n_5) zd (.cons .here (.cons .here (.cons .here k4))) (fun L9 q8 g8 Q82 h hL9 eL9 rL9 => zn (wsr (oM rfl (oV (zp rfl) (oV (z8 rfl zbJ zcM) (oT (zI (R := isv (q8.1.e)) ty31 rfl .here hI (oV (zam rfl rfl) ?_)))))))))
 refine rnf (zf h rfl (fun _ h => ?_) (fun _ h => ?_))
 ·refine wkf (zu (zn (wsr (oM rfl (oV (zp rfl) (oV (z8 rfl zen zd3) (oT (zI (R := appv g8.2.2.1 (q8.2.items)) ty51 rfl (.there (.there tI)) isvT1 (oV (za6 (l := q8.2.items) rfl zJ sl51) ?_)))))))))
  refine oV (zbY rfl rfl) (oM rfl (zaz (jb 22) je .nil h 6 rfl (fun q46 g46 h => ?_) (fun J47 h hJ47 => ?_)))
  ·refine oM rfl (zaz (ι := Bool × GPar) (γ := Tok × Tok) (fun q49 g49 => [(26, isv (q49.1))]) (fun q49 g49 => [boxE zG ((q49.2.l, q49.2.at_, (q49.2.m.name, q49.2.m.tagging, (TList.mk g49.1 q49.2.m.names), (TList.mk g49.2 q49.2.m.types), (Vh.mk zH q49.2.m.nodes.length)), q49.2.e, q49.2.p) : ((List GTok) × Int × (Str × Int × (TList Str) × (TList Int) × Vh) × Int × Int)), tokE g49.1, tokE g49.2, vecE zH (q49.2.m.nodes : List GNode)]) k4 h 3 rfl (fun q49 g49 h => ?_) (fun J50 h hJ50 => ?_))
   ·refine rnf (zdg (ι := GPar × GNode) (γ := Tok × Tok × Tok × Tok) (fun q55 g55 => []) (fun q55 g55 => [boxE zG ((q55.1.l, q55.1.at_, (q55.1.m.name, q55.1.m.tagging, (TList.mk g55.1 q55.1.m.names), (TList.mk g55.2.1 q55.1.m.types), (Vh.mk zH q55.1.m.nodes.length)), q55.1.e, q55.1.p) : ((List GTok) × Int × (Str × Int × (TList Str) × (TList Int) × Vh) × Int × Int)), tokE g55.1, tokE g55.2.1, vecE zH (q55.1.m.nodes : List GNode), boxE zaX ((q55.2.kind, q55.2.name, q55.2.mark, q55.2.con, (TList.mk g55.2.2.1 q55.2.items), (TList.mk g55.2.2.2 q55.2.fields), q55.2.root, q55.2.more, q55.2.of) : (Int × Str × GMark × GCon × (TList GItem) × (TList GFld) × Int × Bool × Int)), tokE g55.2.2.1, tokE g55.2.2.2]) (.cons .here (.cons (.there tI) (.cons .here k4))) h (fun q55 g55 h => ?_) (fun J56 h hJ56 => ?_))
    ·refine wsr (oM rfl (zb h fun y79 hy79 h => oT (zL (zM hy79) hT (s2 rfl rfl) k4 (fun R H' hR => ?_))))
     obtain ⟨t80, t81, rfl, rfl⟩ := hR
     refine oV (zbL rfl) (rnf (zf h rfl (fun _ h => ?_) (fun _ h => ?_)))
     ·exact zah (zfV rfl (eL9 _ _ (zK (hJ7 _ (t80, t81, g55.2.2.1, g55.2.2.2) h _ (ze 18 rfl rfl zd (.cons .here (.cons .here (.cons .here k4))))))))
     exact zW (zk (hL9 _ (t80, t81, g55.2.2.1, g55.2.2.2) h _ (ze 18 rfl rfl zd (.cons .here (.cons .here (.cons .here k4))))))
    refine zf h rfl (fun _ h => ?_) (fun _ h => ?_)
    ·refine zj (oM rfl (oM rfl (oM rfl (oV (zp rfl) (oV (z8 rfl zen zd3) (oT (zI (R := appv g8.2.2.1 (q8.2.items)) ty51 rfl (.there (.there tI)) isvT1 (oV (za6 (l := q8.2.items) rfl zJ sl51) (oV (zp rfl) ?_)))))))))
     exact oV (z8 rfl zd0 zei) (oT (zi (y' := ((q8.2.kind, q8.2.name, q8.2.mark, q8.2.con, (TList.mk g8.2.2.1 q8.2.items), (TList.mk g8.2.2.2 q8.2.fields), q8.2.root, true, q8.2.of) : (Int × Str × GMark × GCon × (TList GItem) × (TList GFld) × Int × Bool × Int))) ty4 rfl rfl hI (.there (.there tI)) rfl (oV (zp rfl) (oV (z8 rfl zga zeM) (oT (zi (y' := ((q8.2.kind, q8.2.name, q8.2.mark, q8.2.con, (TList.mk g8.2.2.1 q8.2.items), (TList.mk g8.2.2.2 q8.2.fields), (q8.2.items.length : Int), true, q8.2.of) : (Int × Str × GMark × GCon × (TList GItem) × (TList GFld) × Int × Bool × Int))) ty3 rfl rfl hI .here rfl (zx (hJ56 _ (g49.1, g49.2, g8.2.2.1, g8.2.2.2) h _ (ze 11 rfl rfl zd (.cons tH (.cons tH (.cons tH (.cons tH k3)))))))))))))
    refine wsr (oM rfl (zb h fun y57 hy57 h => oT (zL (zcl hy57) hT (s2 rfl rfl) k4 (fun R H' hR => ?_))))
    obtain ⟨t58, t59, rfl, rfl⟩ := hR
    refine oV (zax (z := (GItem.mk y57.1 (0 : Int) false)) rfl bu67 ze67 (.cons GItem.f0 zjL rfl hI .nil)) (oT (zab _ ze67 fun b60 => oT (zi (y' := ((GItem.mk y57.1 (0 : Int) false) : GItem)) ty67 rfl rfl hI .here rfl (rnf (zn (wsr (oM rfl (zb h fun y61 hy61 h => oT (zL (zM hy61) hT (s2 rfl rfl) (.cons tH (.cons tH (.cons tH (.cons tH .nil)))) (fun R H' hR => ?_))))))))))
    obtain ⟨t62, t63, rfl, rfl⟩ := hR
    refine rnf (zdg (ι := GPar × GItem) (γ := Tok × Tok) (fun q64 g64 => []) (fun q64 g64 => [boxE zG ((q64.1.l, q64.1.at_, (q64.1.m.name, q64.1.m.tagging, (TList.mk g64.1 q64.1.m.names), (TList.mk g64.2 q64.1.m.types), (Vh.mk zH q64.1.m.nodes.length)), q64.1.e, q64.1.p) : ((List GTok) × Int × (Str × Int × (TList Str) × (TList Int) × Vh) × Int × Int)), tokE g64.1, tokE g64.2, vecE zH (q64.1.m.nodes : List GNode), boxE b60 (q64.2 : GItem)]) (.cons .here (.cons (.there tI) k3)) h (fun q64 g64 h => ?_) (fun J65 h hJ65 => ?_))
    ·refine zcR 4 (.there (.there tI)) rfl (fun o72 hn73 => zU (.v 0 (.v 1 (.v 2 (.v 3 (.v 5 (.alt 4 (.t 6 (.t 7 (.v 8 (.v 9 (.t 10 .nil))))) (.t 6 (.t 4 (.t 7 (.v 8 (.v 9 (.t 10 .nil)))))))))))) moOrd (by kernel_rfl) ?_)
     refine rvm rfl rfl (rvm rfl rfl (zt rfl (zp rfl) (zt rfl (z8 rfl zen zd3) (zt rfl (zc1 (R := isv (q64.2)) ty67 rfl (List.Mem.head _) hI) (zad h fun q76 h => zbU ?_ ?_)))))
     ·exact zT rfl rfl (zI (R := appv g8.2.2.1 (q8.2.items)) ty51 rfl (.there (.there tI)) isvT1 (zT rfl rfl (zS (l := ([q64.2] : (List GItem))) el51 (.cons rfl hI .nil) rfl rfl (zT rfl rfl (zbA (l := q8.2.items) (m := ([q64.2] : (List GItem))) zhT rfl hI rfl zJ (.there (.there (.there tI))) q76 fun t75 => zt rfl (zp rfl) (zt rfl (z8 rfl zen zd3) (zT rfl rfl (zi (y' := ((q8.2.kind, q8.2.name, q8.2.mark, q8.2.con, (TList.mk t75 (q8.2.items ++ ([q64.2] : (List GItem)))), (TList.mk g8.2.2.2 q8.2.fields), q8.2.root, q8.2.more, q8.2.of) : (Int × Str × GMark × GCon × (TList GItem) × (TList GFld) × Int × Bool × Int))) ty51 rfl rfl isvT2 (.there (.there (.there tI))) rfl (zae (zaU 4 hn73 rfl (hJ56 _ (g64.1, g64.2, t75, g8.2.2.2) h _ (ze 18 rfl rfl zd (.cons (.there tI) (.cons (.there tI) (.cons (.there tI) (.cons (.there tI) (.cons tH (.cons tH (.cons tH .nil)))))))))))))))))))
     exact zT rfl rfl (zS (l := ([q64.2] : (List GItem))) el51 (.cons rfl hI .nil) rfl rfl (zT rfl rfl (zI (R := appv g8.2.2.1 (q8.2.items)) ty51 rfl (.there (.there tI)) isvT1 (zT rfl rfl (zbA (l := q8.2.items) (m := ([q64.2] : (List GItem))) zhT rfl hI rfl zJ (.there (.there (.there tI))) q76 fun t78 => zt rfl (zp rfl) (zt rfl (z8 rfl zen zd3) (zT rfl rfl (zi (y' := ((q8.2.kind, q8.2.name, q8.2.mark, q8.2.con, (TList.mk t78 (q8.2.items ++ ([q64.2] : (List GItem)))), (TList.mk g8.2.2.2 q8.2.fields), q8.2.root, q8.2.more, q8.2.of) : (Int × Str × GMark × GCon × (TList GItem) × (TList GFld) × Int × Bool × Int))) ty51 rfl rfl isvT2 (.there (.there (.there tI))) rfl (zae (zaU 4 hn73 rfl (hJ56 _ (g64.1, g64.2, t78, g8.2.2.2) h _ (ze 18 rfl rfl zd (.cons (.there tI) (.cons (.there tI) (.cons (.there tI) (.cons (.there tI) (.cons tH (.cons tH (.cons tH .nil)))))))))))))))))))
    refine zf h rfl (fun _ h => ?_) (fun _ h => ?_)
    ·refine wsr (oM rfl (zb h fun y66 hy66 h => oT (zL (zco hy66) hT (s1 rfl) k4 (fun R H' hR => ?_))))
     obtain ⟨t67, t68, rfl, rfl⟩ := hR
     refine oV (z8 rfl GItem.f2 zhn) (oT (zi (y' := ((GItem.mk y57.1 (0 : Int) true) : GItem)) ty4 rfl rfl hI (.there (.there tI)) rfl (oV (z8 rfl GItem.f1 zdN) (oT (zi (y' := ((GItem.mk y57.1 y66.1 true) : GItem)) ty2 rfl rfl hI .here rfl (rnf (zj (oM rfl (zb h fun y69 hy69 h => oT (zL (zZ hy69) hT (s2 rfl rfl) (.cons tH (.cons tH (.cons tH (.cons tH .nil)))) (fun R H' hR => ?_)))))))))))
     obtain ⟨t70, t71, rfl, rfl⟩ := hR
     exact zx (hJ65 _ (t70, t71) h _ (ze 6 rfl rfl zd (.cons .here (.cons .here (.cons .here (.cons .here k4))))))
    exact zW (hJ65 _ (t62, t63) h _ (ze 0 rfl rfl zd (.cons .here (.cons .here (.cons .here (.cons .here k4))))))
   refine zC (j := 23) h rfl (fun g51 h => ?_) (fun g51 h => ?_)
   ·refine oK 23 rfl rfl rfl g51 (zq rfl) (zb h fun y52 hy52 h => zaA rfl rfl (dj := 23) rfl g51 (zL (zM hy52) hT (s2 rfl rfl) k4 (fun R H' hR => ?_)))
    obtain ⟨t53, t54, rfl, rfl⟩ := hR
    exact oV (zr rfl g51 rfl) (hJ50 _ (t53, t54) h _ (ze 3 rfl rfl (za (j := 26) rfl hI zd) (.cons .here (.cons .here (.cons .here k4)))))
   exact oP 23 rfl rfl g51 (oP 23 rfl rfl g51 (oV (zs rfl g51 rfl) (hJ50 _ (g8.1, g8.2.1) h _ (ze 3 rfl rfl (za (j := 26) rfl hI zd) (.cons .here (.cons .here (.cons .here k4)))))))
  refine zC (j := 16) h rfl (fun g48 h => ?_) (fun g48 h => ?_)
  ·exact oK 16 rfl rfl rfl g48 (zq rfl) (oK 16 rfl rfl rfl g48 (zp rfl) (oK 16 rfl rfl rfl g48 (z8 rfl zd0 zei) (zaA rfl rfl (dj := 16) rfl g48 (zI (R := isv (q8.2.more)) ty4 rfl (.there (.there tI)) hI (oK 16 rfl rfl rfl g48 (zbL rfl) (oV (zr rfl g48 rfl) (hJ47 _ () h _ (ze 6 rfl rfl (za (j := 22) rfl hI zd) (.cons .here (.cons .here (.cons .here k4)))))))))))
  exact oP 16 rfl rfl g48 (oP 16 rfl rfl g48 (oP 16 rfl rfl g48 (oP 16 rfl rfl g48 (oP 16 rfl rfl g48 (oV (zs rfl g48 rfl) (hJ47 _ () h _ (ze 6 rfl rfl (za (j := 22) rfl hI zd) (.cons .here (.cons .here (.cons .here k4))))))))))
 exact zah (zX (eL9 _ _ (zK (hJ7 _ (g8.1, g8.2.1, g8.2.2.1, g8.2.2.2) h _ (ze 5 rfl rfl zd (.cons .here (.cons .here (.cons .here k4))))))))


theorem zmQ : ∀ {a_s : Str} {r : (List UInt8)}, zgM a_s = some r → Ctr Tryd.prog 116 [isv (a_s)] [] (fun R H => R = oneOf [isv (r)] ∧ H = []) := by
 intro a_s r h
 unfold zgM at h
 refine zw Tryd.func116 rfl fun w0 S0 hT => wsr (oA rfl (rnf (wsr (oA rfl (rnf (zn (wsr ?_)))))))
 refine oA rfl (rnf (zu (zfF (zbf) (zbg (ι := (List UInt8) × Int) (γ := Tok) (fun q1 g1 => [(3, appv g1 (q1.1)), (4, isv (q1.2))]) (fun q1 g1 => [tokE g1]) h (none) (za (j := 3) rfl zbF (za (j := 4) rfl hI zd)) k1 (fun L2 q1 g1 Q60 h hL2 eL2 rL2 => zn (wsr (oM rfl (zE h fun q31 h => ?_))))))))
 refine oV (zaf rfl rfl q31) (oM rfl (oV (zdm st9 rfl) (oV (zal rfl rfl) (rnf (zf h rfl (fun _ h => ?_) (fun _ h => ?_))))))
 ·refine wkf (zn (zu (wsr (oA rfl (rnf (zn (wsr (oM rfl ?_))))))))
  refine oA rfl (rnf (zu (zbg (ι := UInt8 × Int) (γ := Unit) (fun q32 g32 => [(5, isv (q32.1)), (6, isv (q32.2))]) (fun q32 g32 => []) h () (za (j := 5) rfl hI (za (j := 6) rfl hI zd)) .nil (fun L33 q32 g32 Q58 h hL33 eL33 rL33 => zn (wsr (oM rfl (oM rfl (zE h fun q46 h => ?_))))))))
  refine oV (zaf rfl rfl q46) (oV (zal rfl rfl) (rnf (zf h rfl (fun _ h => ?_) (fun _ h => ?_))))
  ·refine wkf (zn (zu (wsr (oM rfl (oM rfl (zb h fun y47 hy47 h => oV (zbN y47 st9 rfl rfl hy47) (oV (zjW rfl rfl) ?_)))))))
   refine oA rfl (rnf (zn (wsr (oM rfl (oM rfl (zb h fun y48 hy48 h => oV (zbN y48 st9 rfl rfl hy48) (oV (zii rfl rfl) ?_)))))))
   refine rnf (zdg (ι := UInt8) (γ := Unit) (fun q49 g49 => [(7, isv (q49))]) (fun q49 g49 => []) .nil h (fun q49 g49 h => ?_) (fun J50 h hJ50 => ?_))
   ·refine zj (oM rfl (zad h fun q52 h => oV (zpB rfl rfl q52) (oM rfl (oV (zpY rfl rfl) (oA rfl (zx (zk ?_)))))))
    exact zA (zj (oM rfl (zE h fun q53 h => oV (zaf rfl rfl q53) (oA rfl (zx (hL33 _ () h _ (ze 24 rfl rfl (za (j := 5) rfl hI (za (j := 6) rfl hI zd)) k1)))))))
   refine zf h rfl (fun _ h => ?_) (fun _ h => ?_)
   ·refine zj (oM rfl (oM rfl (zb h fun y51 hy51 h => oV (zbN y51 st9 rfl rfl hy51) (oV (zjW rfl rfl) (oV (zpF rfl rfl) (oA rfl (zx ?_)))))))
    exact hJ50 _ () h _ (jk 6 7 rfl rfl rfl)
   exact zW (hJ50 _ () h _ (jk 0 7 rfl rfl rfl))
  refine zah (zX (eL33 _ _ (zK (zA (zj (oM rfl (oM rfl (oT (zS (l := ([q32.1] : (List UInt8))) el59 (.cons rfl hI .nil) rfl rfl ?_)))))))))
  refine zad h fun q56 h => oT (zbA (l := q1.1) (m := ([q32.1] : (List UInt8))) zoY rfl hI rfl zJ .here q56 fun t55 => oA rfl (zx (zk (zA (zj (oM rfl (zE h fun q57 h => ?_)))))))
  exact oV (zaf rfl rfl q57) (oA rfl (zx (hL2 _ (t55) h _ (ze 24 rfl rfl (za (j := 3) rfl hI (za (j := 4) rfl hI zd)) k1))))
 refine zah (zX (eL2 _ _ (zK (zA (wsr (oM rfl (oA rfl (rnf ?_))))))))
 refine zN ?_
 cases h
 exact zo (.as rfl zJ .nil) .nil ⟨rfl, rfl⟩


theorem zgF : ∀ {a_x : GPar} {zG : Nat} {t_a_x1 : Tok} {t_a_x2 : Tok} {zH : Vt} {r : Val × GPar}, zcu a_x = some r → Ctr Tryd.prog 111 [ptrv zG (Fld.id ((List GTok) × Int × (Str × Int × (TList Str) × (TList Int) × Vh) × Int × Int))] [boxE zG ((a_x.l, a_x.at_, (a_x.m.name, a_x.m.tagging, (TList.mk t_a_x1 a_x.m.names), (TList.mk t_a_x2 a_x.m.types), (Vh.mk zH a_x.m.nodes.length)), a_x.e, a_x.p) : ((List GTok) × Int × (Str × Int × (TList Str) × (TList Int) × Vh) × Int × Int)), tokE t_a_x1, tokE t_a_x2, vecE zH (a_x.m.nodes : List GNode)] (fun R H => ∃ u1 : Tok, ∃ u2 : Tok, R = oneOf [isv (r.1)] ∧ H = [boxE zG ((r.2.l, r.2.at_, (r.2.m.name, r.2.m.tagging, (TList.mk u1 r.2.m.names), (TList.mk u2 r.2.m.types), (Vh.mk zH r.2.m.nodes.length)), r.2.e, r.2.p)), tokE u1, tokE u2, vecE zH (r.2.m.nodes)]) := by
 intro a_x zG t_a_x1 t_a_x2 zH r h
 unfold zcu at h
 refine zw Tryd.func111 rfl fun w0 S0 hT => wsr (oT (zab _ ze63 fun b4 => rnf (wsr (oM rfl (zb h fun y5 hy5 h => oT (zL (zaO hy5) hT (s1 rfl) (.cons tH (.cons tH (.cons tH (.cons tH .nil)))) (fun R H' hR => ?_)))))))
 obtain ⟨t6, t7, rfl, rfl⟩ := hR
 refine oT (zab _ ze80 fun b8 => oT (zi (y' := (y5.1 : GTok)) ty80 rfl rfl hI .here rfl (zai (zas 3 .here rfl) (rnf (zn (zdg (ι := GPar) (γ := Tok × Tok) (fun q9 g9 => []) (fun q9 g9 => [boxE zG ((q9.l, q9.at_, (q9.m.name, q9.m.tagging, (TList.mk g9.1 q9.m.names), (TList.mk g9.2 q9.m.types), (Vh.mk zH q9.m.nodes.length)), q9.e, q9.p) : ((List GTok) × Int × (Str × Int × (TList Str) × (TList Int) × Vh) × Int × Int)), tokE g9.1, tokE g9.2, vecE zH (q9.m.nodes : List GNode)]) k4 h (fun q9 g9 h => ?_) (fun J10 h hJ10 => ?_)))))))
 ·refine wsr (oV (zax (z := (Val.mk (0 : Int) (0 : Int) ([] : (List UInt8)) ([] : (List Val)) (0 : Int) ([] : (List Raw)))) rfl bu63 ze63 .nil) (oT (zi (y' := ((Val.mk (0 : Int) (0 : Int) ([] : (List UInt8)) ([] : (List Val)) (0 : Int) ([] : (List Raw))) : Val)) ty63 rfl rfl hI (.there (.there tI)) rfl (rnf (zN (zo (.cell rfl .here ty63 .nil) (.cons tH (.cons tH (.cons tH (.cons tH .nil)))) ?_))))))
  cases h
  exact ⟨g9.1, g9.2, rfl, rfl⟩
 refine zu (wsr (oM rfl (oV (zp rfl) (oV (z8 rfl zbJ zcM) (oT (zI (R := isv (y5.2.e)) ty31 rfl .here hI (oV (zcq rfl rfl) (oA rfl (rnf ?_)))))))))
 refine zf h rfl (fun _ h => ?_) (fun _ h => ?_)
 ·exact zW (zk (hJ10 _ (t6, t7) h _ (ze 6 rfl rfl zd (.cons .here k4))))
 refine wsr (oM rfl (zb h fun y11 hy11 h => oT (zL (zM hy11) hT (s2 rfl rfl) k4 (fun R H' hR => ?_))))
 obtain ⟨t12, t13, rfl, rfl⟩ := hR
 refine oA rfl (rnf (zf h rfl (fun _ h => ?_) (fun _ h => ?_)))
 ·refine wsr (oV (zax (z := (Val.mk (1 : Int) (1 : Int) ([] : (List UInt8)) ([] : (List Val)) (0 : Int) ([] : (List Raw)))) rfl bu63 ze63 (.cons Val.f0 zfr rfl hI (.cons Val.f1 zj6 rfl hI .nil))) (oT (zi (y' := ((Val.mk (1 : Int) (1 : Int) ([] : (List UInt8)) ([] : (List Val)) (0 : Int) ([] : (List Raw))) : Val)) ty63 rfl rfl hI (.there (.there tI)) rfl (rnf (zN (zD (zB (zo (.cell rfl .here ty63 .nil) (.cons tH (.cons tH (.cons tH (.cons tH .nil)))) ?_))))))))
  cases h
  exact ⟨t12, t13, rfl, rfl⟩
 refine wsr (oM rfl (zb h fun y14 hy14 h => oT (zL (zM hy14) hT (s2 rfl rfl) k4 (fun R H' hR => ?_))))
 obtain ⟨t15, t16, rfl, rfl⟩ := hR
 refine oA rfl (rnf (zf h rfl (fun _ h => ?_) (fun _ h => ?_)))
 ·refine wsr (oV (zax (z := (Val.mk (1 : Int) (0 : Int) ([] : (List UInt8)) ([] : (List Val)) (0 : Int) ([] : (List Raw)))) rfl bu63 ze63 (.cons Val.f0 zfr rfl hI .nil)) (oT (zi (y' := ((Val.mk (1 : Int) (0 : Int) ([] : (List UInt8)) ([] : (List Val)) (0 : Int) ([] : (List Raw))) : Val)) ty63 rfl rfl hI (.there (.there tI)) rfl (rnf (zN (zD (zB (zo (.cell rfl .here ty63 .nil) (.cons tH (.cons tH (.cons tH (.cons tH .nil)))) ?_))))))))
  cases h
  exact ⟨t15, t16, rfl, rfl⟩
 refine wsr (oM rfl (zb h fun y17 hy17 h => oT (zL (zM hy17) hT (s2 rfl rfl) k4 (fun R H' hR => ?_))))
 obtain ⟨t18, t19, rfl, rfl⟩ := hR
 refine oA rfl (rnf (zf h rfl (fun _ h => ?_) (fun _ h => ?_)))
 ·refine wsr (oV (zax (z := (Val.mk (4 : Int) (0 : Int) ([] : (List UInt8)) ([] : (List Val)) (0 : Int) ([] : (List Raw)))) rfl bu63 ze63 (.cons Val.f0 zfr rfl hI .nil)) (oT (zi (y' := ((Val.mk (4 : Int) (0 : Int) ([] : (List UInt8)) ([] : (List Val)) (0 : Int) ([] : (List Raw))) : Val)) ty63 rfl rfl hI (.there (.there tI)) rfl (rnf (zN (zD (zB (zo (.cell rfl .here ty63 .nil) (.cons tH (.cons tH (.cons tH (.cons tH .nil)))) ?_))))))))
  cases h
  exact ⟨t18, t19, rfl, rfl⟩
 refine wsr (oV (zac rfl GTok.f0 zcF rfl (z := y5.1.kind)) (oV (zg ty3 rfl) (oV (zam rfl rfl) (oA rfl (rnf (zf h rfl (fun _ h => ?_) (fun _ h => ?_)))))))
 ·refine wsr (oM rfl (zb h fun y20 hy20 h => oT (zL (zbD hy20) hT (s1 rfl) k4 (fun R H' hR => ?_))))
  obtain ⟨t21, t22, rfl, rfl⟩ := hR
  refine oV (zgh GTok.f1 rfl zdJ rfl) (zb h fun y23 hy23 h => oT (zy (zhO hy23) hT (s1 rfl) .nil (oV (zax (z := (Val.mk (2 : Int) y23 ([] : (List UInt8)) ([] : (List Val)) (0 : Int) ([] : (List Raw)))) rfl bu63 ze63 (.cons Val.f0 zfr rfl hI (.cons Val.f1 zj6 rfl hI .nil))) (oT (zi (y' := ((Val.mk (2 : Int) y23 ([] : (List UInt8)) ([] : (List Val)) (0 : Int) ([] : (List Raw))) : Val)) ty63 rfl rfl hI (.there (.there tI)) rfl (rnf (zN (zD (zB ?_)))))))))
  refine zo (.cell rfl .here ty63 .nil) (.cons tH (.cons tH (.cons tH (.cons tH .nil)))) ?_
  cases h
  exact ⟨t21, t22, rfl, rfl⟩
 refine wsr (oV (zac rfl GTok.f0 zcF rfl (z := y5.1.kind)) (oV (zg ty3 rfl) (oV (zam rfl rfl) (oA rfl (rnf (zf h rfl (fun _ h => ?_) (fun _ h => ?_)))))))
 ·refine wsr (oM rfl (zb h fun y24 hy24 h => oT (zL (zbD hy24) hT (s1 rfl) k4 (fun R H' hR => ?_))))
  obtain ⟨t25, t26, rfl, rfl⟩ := hR
  refine oV (zgh GTok.f1 rfl zdJ rfl) (zad h fun q27 h => oT (zp5 Tryd.underlying9 Tryd.underlying59 Tryd.underlying5 rfl q27 (oV (zax (z := (Val.mk (3 : Int) (0 : Int) y24.1.text.b ([] : (List Val)) (0 : Int) ([] : (List Raw)))) rfl bu63 ze63 (.cons Val.f0 zfr rfl hI (.cons Val.f2 zhk rfl hI .nil))) (oT (zi (y' := ((Val.mk (3 : Int) (0 : Int) y24.1.text.b ([] : (List Val)) (0 : Int) ([] : (List Raw))) : Val)) ty63 rfl rfl hI (.there (.there tI)) rfl (rnf (zN (zD (zB ?_)))))))))
  refine zo (.cell rfl .here ty63 .nil) (.cons tH (.cons tH (.cons tH (.cons tH .nil)))) ?_
  cases h
  exact ⟨t25, t26, rfl, rfl⟩
 refine wsr (oV (zac rfl GTok.f0 zcF rfl (z := y5.1.kind)) (oV (zg ty3 rfl) (oV (zam rfl rfl) (oA rfl (rnf (zf h rfl (fun _ h => ?_) (fun _ h => ?_)))))))
 ·refine wsr (oM rfl (zb h fun y28 hy28 h => oT (zL (zbD hy28) hT (s1 rfl) k4 (fun R H' hR => ?_))))
  obtain ⟨t29, t30, rfl, rfl⟩ := hR
  refine oV (zgh GTok.f1 rfl zdJ rfl) (zb h fun y31 hy31 h => oT (zy (zmQ hy31) hT (s1 rfl) .nil (oV (zax (z := (Val.mk (5 : Int) (0 : Int) y31 ([] : (List Val)) (0 : Int) ([] : (List Raw)))) rfl bu63 ze63 (.cons Val.f0 zfr rfl hI (.cons Val.f2 zhk rfl hI .nil))) (oT (zi (y' := ((Val.mk (5 : Int) (0 : Int) y31 ([] : (List Val)) (0 : Int) ([] : (List Raw))) : Val)) ty63 rfl rfl hI (.there (.there tI)) rfl (rnf (zN (zD (zB ?_)))))))))
  refine zo (.cell rfl .here ty63 .nil) (.cons tH (.cons tH (.cons tH (.cons tH .nil)))) ?_
  cases h
  exact ⟨t29, t30, rfl, rfl⟩
 refine wsr (oV (zac rfl GTok.f0 zcF rfl (z := y5.1.kind)) (oV (zg ty3 rfl) (oV (zam rfl rfl) (oA rfl (rnf (zf h rfl (fun _ h => ?_) (fun _ h => ?_)))))))
 ·refine wsr (oM rfl (zb h fun y32 hy32 h => oT (zL (zbD hy32) hT (s1 rfl) k4 (fun R H' hR => ?_))))
  obtain ⟨t33, t34, rfl, rfl⟩ := hR
  refine oV (zgh GTok.f1 rfl zdJ rfl) (zad h fun q35 h => oT (zp5 Tryd.underlying9 Tryd.underlying59 Tryd.underlying5 rfl q35 (oV (zax (z := (Val.mk (6 : Int) (0 : Int) y32.1.text.b ([] : (List Val)) (0 : Int) ([] : (List Raw)))) rfl bu63 ze63 (.cons Val.f0 zfr rfl hI (.cons Val.f2 zhk rfl hI .nil))) (oT (zi (y' := ((Val.mk (6 : Int) (0 : Int) y32.1.text.b ([] : (List Val)) (0 : Int) ([] : (List Raw))) : Val)) ty63 rfl rfl hI (.there (.there tI)) rfl (rnf (zN (zD (zB ?_)))))))))
  refine zo (.cell rfl .here ty63 .nil) (.cons tH (.cons tH (.cons tH (.cons tH .nil)))) ?_
  cases h
  exact ⟨t33, t34, rfl, rfl⟩
 refine zj (oM rfl (oV (zg ty80 rfl) (zb h fun y36 hy36 h => oT (zL (za5 hy36) hT (s3 rfl rfl rfl) k4 (fun R H' hR => ?_)))))
 obtain ⟨t37, t38, rfl, rfl⟩ := hR
 exact zx (zk (hJ10 _ (t37, t38) h _ (ze 34 rfl rfl zd (.cons .here k4))))

end Go.Proofs.Q


namespace Go.Proofs.Q
open Go.Sy
set_option maxRecDepth 4000
def zb6 (f' : GPar → GNode → Int → Int → Option (GPar × GNode)) : Prop :=
 ∀ {a_x : GPar} {a_n_ : GNode} {zQ : Int} {zck : Int} {zG : Nat} {t_a_x1 : Tok} {t_a_x2 : Tok} {zH : Vt} {zaX : Nat} {t_a_n_4 : Tok} {t_a_n_5 : Tok} {r : GPar × GNode}, f' a_x a_n_ zQ zck = some r → Ctr Tryd.prog 97 [ptrv zG (Fld.id ((List GTok) × Int × (Str × Int × (TList Str) × (TList Int) × Vh) × Int × Int)), ptrv zaX (Fld.id (Int × Str × GMark × GCon × (TList GItem) × (TList GFld) × Int × Bool × Int)), isv (zQ), isv (zck)] [boxE zG ((a_x.l, a_x.at_, (a_x.m.name, a_x.m.tagging, (TList.mk t_a_x1 a_x.m.names), (TList.mk t_a_x2 a_x.m.types), (Vh.mk zH a_x.m.nodes.length)), a_x.e, a_x.p) : ((List GTok) × Int × (Str × Int × (TList Str) × (TList Int) × Vh) × Int × Int)), tokE t_a_x1, tokE t_a_x2, vecE zH (a_x.m.nodes : List GNode), boxE zaX ((a_n_.kind, a_n_.name, a_n_.mark, a_n_.con, (TList.mk t_a_n_4 a_n_.items), (TList.mk t_a_n_5 a_n_.fields), a_n_.root, a_n_.more, a_n_.of) : (Int × Str × GMark × GCon × (TList GItem) × (TList GFld) × Int × Bool × Int)), tokE t_a_n_4, tokE t_a_n_5] (fun R H => ∃ u1 : Tok, ∃ u2 : Tok, ∃ u3 : Vt, ∃ u4 : Tok, ∃ u5 : Tok, R = oneOf [] ∧ H = [boxE zG ((r.1.l, r.1.at_, (r.1.m.name, r.1.m.tagging, (TList.mk u1 r.1.m.names), (TList.mk u2 r.1.m.types), (Vh.mk u3 r.1.m.nodes.length)), r.1.e, r.1.p)), tokE u1, tokE u2, vecE u3 (r.1.m.nodes), boxE zaX ((r.2.kind, r.2.name, r.2.mark, r.2.con, (TList.mk u4 r.2.items), (TList.mk u5 r.2.fields), r.2.root, r.2.more, r.2.of)), tokE u4, tokE u5])
def zb5 (f' : GPar → Int → Option (Int × GPar)) : Prop :=
 ∀ {a_x : GPar} {zQ : Int} {zG : Nat} {t_a_x1 : Tok} {t_a_x2 : Tok} {zH : Vt} {r : Int × GPar}, f' a_x zQ = some r → Ctr Tryd.prog 28 [ptrv zG (Fld.id ((List GTok) × Int × (Str × Int × (TList Str) × (TList Int) × Vh) × Int × Int)), isv (zQ)] [boxE zG ((a_x.l, a_x.at_, (a_x.m.name, a_x.m.tagging, (TList.mk t_a_x1 a_x.m.names), (TList.mk t_a_x2 a_x.m.types), (Vh.mk zH a_x.m.nodes.length)), a_x.e, a_x.p) : ((List GTok) × Int × (Str × Int × (TList Str) × (TList Int) × Vh) × Int × Int)), tokE t_a_x1, tokE t_a_x2, vecE zH (a_x.m.nodes : List GNode)] (fun R H => ∃ u1 : Tok, ∃ u2 : Tok, ∃ u3 : Vt, R = oneOf [isv (r.1)] ∧ H = [boxE zG ((r.2.l, r.2.at_, (r.2.m.name, r.2.m.tagging, (TList.mk u1 r.2.m.names), (TList.mk u2 r.2.m.types), (Vh.mk u3 r.2.m.nodes.length)), r.2.e, r.2.p)), tokE u1, tokE u2, vecE u3 (r.2.m.nodes)])
def zcj (f' : GPar → GNode → Int → Option (GPar × GNode)) : Prop :=
 ∀ {a_x : GPar} {a_n_ : GNode} {zQ : Int} {zG : Nat} {t_a_x1 : Tok} {t_a_x2 : Tok} {zH : Vt} {zaX : Nat} {t_a_n_4 : Tok} {t_a_n_5 : Tok} {r : GPar × GNode}, f' a_x a_n_ zQ = some r → Ctr Tryd.prog 53 [ptrv zG (Fld.id ((List GTok) × Int × (Str × Int × (TList Str) × (TList Int) × Vh) × Int × Int)), ptrv zaX (Fld.id (Int × Str × GMark × GCon × (TList GItem) × (TList GFld) × Int × Bool × Int)), isv (zQ)] [boxE zG ((a_x.l, a_x.at_, (a_x.m.name, a_x.m.tagging, (TList.mk t_a_x1 a_x.m.names), (TList.mk t_a_x2 a_x.m.types), (Vh.mk zH a_x.m.nodes.length)), a_x.e, a_x.p) : ((List GTok) × Int × (Str × Int × (TList Str) × (TList Int) × Vh) × Int × Int)), tokE t_a_x1, tokE t_a_x2, vecE zH (a_x.m.nodes : List GNode), boxE zaX ((a_n_.kind, a_n_.name, a_n_.mark, a_n_.con, (TList.mk t_a_n_4 a_n_.items), (TList.mk t_a_n_5 a_n_.fields), a_n_.root, a_n_.more, a_n_.of) : (Int × Str × GMark × GCon × (TList GItem) × (TList GFld) × Int × Bool × Int)), tokE t_a_n_4, tokE t_a_n_5] (fun R H => ∃ u1 : Tok, ∃ u2 : Tok, ∃ u3 : Vt, ∃ u4 : Tok, ∃ u5 : Tok, R = oneOf [] ∧ H = [boxE zG ((r.1.l, r.1.at_, (r.1.m.name, r.1.m.tagging, (TList.mk u1 r.1.m.names), (TList.mk u2 r.1.m.types), (Vh.mk u3 r.1.m.nodes.length)), r.1.e, r.1.p)), tokE u1, tokE u2, vecE u3 (r.1.m.nodes), boxE zaX ((r.2.kind, r.2.name, r.2.mark, r.2.con, (TList.mk u4 r.2.items), (TList.mk u5 r.2.fields), r.2.root, r.2.more, r.2.of)), tokE u4, tokE u5])
def zb4 (f' : GPar → GNode → Int → Option (GPar × GNode)) : Prop :=
 ∀ {a_x : GPar} {a_n_ : GNode} {zQ : Int} {zG : Nat} {t_a_x1 : Tok} {t_a_x2 : Tok} {zH : Vt} {zaX : Nat} {t_a_n_4 : Tok} {t_a_n_5 : Tok} {r : GPar × GNode}, f' a_x a_n_ zQ = some r → Ctr Tryd.prog 80 [ptrv zG (Fld.id ((List GTok) × Int × (Str × Int × (TList Str) × (TList Int) × Vh) × Int × Int)), ptrv zaX (Fld.id (Int × Str × GMark × GCon × (TList GItem) × (TList GFld) × Int × Bool × Int)), isv (zQ)] [boxE zG ((a_x.l, a_x.at_, (a_x.m.name, a_x.m.tagging, (TList.mk t_a_x1 a_x.m.names), (TList.mk t_a_x2 a_x.m.types), (Vh.mk zH a_x.m.nodes.length)), a_x.e, a_x.p) : ((List GTok) × Int × (Str × Int × (TList Str) × (TList Int) × Vh) × Int × Int)), tokE t_a_x1, tokE t_a_x2, vecE zH (a_x.m.nodes : List GNode), boxE zaX ((a_n_.kind, a_n_.name, a_n_.mark, a_n_.con, (TList.mk t_a_n_4 a_n_.items), (TList.mk t_a_n_5 a_n_.fields), a_n_.root, a_n_.more, a_n_.of) : (Int × Str × GMark × GCon × (TList GItem) × (TList GFld) × Int × Bool × Int)), tokE t_a_n_4, tokE t_a_n_5] (fun R H => ∃ u1 : Tok, ∃ u2 : Tok, ∃ u3 : Vt, ∃ u4 : Tok, ∃ u5 : Tok, R = oneOf [] ∧ H = [boxE zG ((r.1.l, r.1.at_, (r.1.m.name, r.1.m.tagging, (TList.mk u1 r.1.m.names), (TList.mk u2 r.1.m.types), (Vh.mk u3 r.1.m.nodes.length)), r.1.e, r.1.p)), tokE u1, tokE u2, vecE u3 (r.1.m.nodes), boxE zaX ((r.2.kind, r.2.name, r.2.mark, r.2.con, (TList.mk u4 r.2.items), (TList.mk u5 r.2.fields), r.2.root, r.2.more, r.2.of)), tokE u4, tokE u5])
theorem zgu {zak : GPar → GNode → Int → Int → Option (GPar × GNode)} {zat : GPar → Int → Option (Int × GPar)} {zar : GPar → GNode → Int → Option (GPar × GNode)} {zag : GPar → GNode → Int → Option (GPar × GNode)} (zb7 : zb6 zak) (zcs : zb5 zat) (zcO : zcj zar) (zbE : zb4 zag) : ∀ {a_x : GPar} {a_n_ : GNode} {zQ : Int} {zck : Int} {zG : Nat} {t_a_x1 : Tok} {t_a_x2 : Tok} {zH : Vt} {zaX : Nat} {t_a_n_4 : Tok} {t_a_n_5 : Tok} {r : GPar × GNode}, zba zak zat zar zag a_x a_n_ zQ zck = some r → Ctr Tryd.prog 97 [ptrv zG (Fld.id ((List GTok) × Int × (Str × Int × (TList Str) × (TList Int) × Vh) × Int × Int)), ptrv zaX (Fld.id (Int × Str × GMark × GCon × (TList GItem) × (TList GFld) × Int × Bool × Int)), isv (zQ), isv (zck)] [boxE zG ((a_x.l, a_x.at_, (a_x.m.name, a_x.m.tagging, (TList.mk t_a_x1 a_x.m.names), (TList.mk t_a_x2 a_x.m.types), (Vh.mk zH a_x.m.nodes.length)), a_x.e, a_x.p) : ((List GTok) × Int × (Str × Int × (TList Str) × (TList Int) × Vh) × Int × Int)), tokE t_a_x1, tokE t_a_x2, vecE zH (a_x.m.nodes : List GNode), boxE zaX ((a_n_.kind, a_n_.name, a_n_.mark, a_n_.con, (TList.mk t_a_n_4 a_n_.items), (TList.mk t_a_n_5 a_n_.fields), a_n_.root, a_n_.more, a_n_.of) : (Int × Str × GMark × GCon × (TList GItem) × (TList GFld) × Int × Bool × Int)), tokE t_a_n_4, tokE t_a_n_5] (fun R H => ∃ u1 : Tok, ∃ u2 : Tok, ∃ u3 : Vt, ∃ u4 : Tok, ∃ u5 : Tok, R = oneOf [] ∧ H = [boxE zG ((r.1.l, r.1.at_, (r.1.m.name, r.1.m.tagging, (TList.mk u1 r.1.m.names), (TList.mk u2 r.1.m.types), (Vh.mk u3 r.1.m.nodes.length)), r.1.e, r.1.p)), tokE u1, tokE u2, vecE u3 (r.1.m.nodes), boxE zaX ((r.2.kind, r.2.name, r.2.mark, r.2.con, (TList.mk u4 r.2.items), (TList.mk u5 r.2.fields), r.2.root, r.2.more, r.2.of)), tokE u4, tokE u5]) := by
 intro a_x a_n_ zQ zck zG t_a_x1 t_a_x2 zH zaX t_a_n_4 t_a_n_5 r h
 unfold zba at h
 refine zw Tryd.func97 rfl fun w0 S0 hT => wsr (oM rfl (zb h fun y6 hy6 h => oT (zL (zcl hy6) hT (s2 rfl rfl) k4 (fun R H' hR => ?_))))
 obtain ⟨t7, t8, rfl, rfl⟩ := hR
 refine oM rfl (oV (zax (z := (GFld.mk y6.1 (0 : Int) false false (Val.mk (0 : Int) (0 : Int) ([] : (List UInt8)) ([] : (List Val)) (0 : Int) ([] : (List Raw))) zck)) rfl bu65 ze65 (.cons GFld.f0 zli rfl hI (.cons GFld.f5 zpz rfl hI .nil))) (oT (zab _ ze65 fun b9 => oT (zi (y' := ((GFld.mk y6.1 (0 : Int) false false (Val.mk (0 : Int) (0 : Int) ([] : (List UInt8)) ([] : (List Val)) (0 : Int) ([] : (List Raw))) zck) : GFld)) ty65 rfl rfl hI .here rfl (rnf (wsr (oM rfl (oM rfl (zE h fun q10 h => ?_)))))))))
 refine oV (zaf rfl rfl q10) (zb h fun y11 hy11 h => oT (zL (zcs hy11) hT (s2 rfl rfl) (.cons tH (.cons tH (.cons tH (.cons tH .nil)))) (fun R H' hR => ?_)))
 obtain ⟨t12, t13, v14, rfl, rfl⟩ := hR
 refine oV (z8 rfl GFld.f1 zdn) (oT (zi (y' := ((GFld.mk y6.1 y11.1 false false (Val.mk (0 : Int) (0 : Int) ([] : (List UInt8)) ([] : (List Val)) (0 : Int) ([] : (List Raw))) zck) : GFld)) ty3 rfl rfl hI (.there (.there tI)) rfl (rnf (zn (zdg (ι := GFld × GPar) (γ := Tok × Tok) (fun q15 g15 => []) (fun q15 g15 => [boxE b9 (q15.1 : GFld), boxE zG ((q15.2.l, q15.2.at_, (q15.2.m.name, q15.2.m.tagging, (TList.mk g15.1 q15.2.m.names), (TList.mk g15.2 q15.2.m.types), (Vh.mk v14 q15.2.m.nodes.length)), q15.2.e, q15.2.p) : ((List GTok) × Int × (Str × Int × (TList Str) × (TList Int) × Vh) × Int × Int)), tokE g15.1, tokE g15.2, vecE v14 (q15.2.m.nodes : List GNode)]) (.cons .here k4) h (fun q15 g15 h => ?_) (fun J16 h hJ16 => ?_))))))
 ·refine zcR 8 .here rfl (fun o26 hn27 => zU (.v 0 (.v 1 (.v 2 (.v 3 (.v 5 (.alt 4 (.t 6 (.t 7 (.v 8 (.v 9 (.t 10 .nil))))) (.t 6 (.t 4 (.t 7 (.v 8 (.v 9 (.t 10 .nil)))))))))))) moOrd (by kernel_rfl) ?_)
  refine rvm rfl rfl (rvm rfl rfl (zt rfl (zp rfl) (zt rfl (z8 rfl zfg zcT) (zt rfl (zc1 (R := isv (q15.1)) ty65 rfl (List.Mem.head _) hI) (zad h fun q30 h => zbU ?_ ?_)))))
  ·refine zT rfl rfl (zI (R := appv t_a_n_5 (a_n_.fields)) ty52 rfl (.there (.there tI)) isvT1 (zT rfl rfl (zS (l := ([q15.1] : (List GFld))) el52 (.cons rfl hI .nil) rfl rfl (zT rfl rfl (zbA (l := a_n_.fields) (m := ([q15.1] : (List GFld))) zjy rfl hI rfl zJ (.there (.there (.there (.there tI)))) q30 fun t29 => zt rfl (zp rfl) (zt rfl (z8 rfl zfg zcT) (zT rfl rfl (zi (y' := ((a_n_.kind, a_n_.name, a_n_.mark, a_n_.con, (TList.mk t_a_n_4 a_n_.items), (TList.mk t29 (a_n_.fields ++ ([q15.1] : (List GFld)))), a_n_.root, a_n_.more, a_n_.of) : (Int × Str × GMark × GCon × (TList GItem) × (TList GFld) × Int × Bool × Int))) ty52 rfl rfl isvT2 (.there (.there (.there tI))) rfl (zae (zaU 8 hn27 rfl (zao .nil (.cons (.there tI) (.cons (.there tI) (.cons (.there tI) (.cons (.there tI) (.cons tH (.cons tI (.cons tH .nil))))))) ?_)))))))))))
   cases h
   exact ⟨g15.1, g15.2, v14, t_a_n_4, t29, rfl, rfl⟩
  refine zT rfl rfl (zS (l := ([q15.1] : (List GFld))) el52 (.cons rfl hI .nil) rfl rfl (zT rfl rfl (zI (R := appv t_a_n_5 (a_n_.fields)) ty52 rfl (.there (.there tI)) isvT1 (zT rfl rfl (zbA (l := a_n_.fields) (m := ([q15.1] : (List GFld))) zjy rfl hI rfl zJ (.there (.there (.there (.there tI)))) q30 fun t32 => zt rfl (zp rfl) (zt rfl (z8 rfl zfg zcT) (zT rfl rfl (zi (y' := ((a_n_.kind, a_n_.name, a_n_.mark, a_n_.con, (TList.mk t_a_n_4 a_n_.items), (TList.mk t32 (a_n_.fields ++ ([q15.1] : (List GFld)))), a_n_.root, a_n_.more, a_n_.of) : (Int × Str × GMark × GCon × (TList GItem) × (TList GFld) × Int × Bool × Int))) ty52 rfl rfl isvT2 (.there (.there (.there tI))) rfl (zae (zaU 8 hn27 rfl (zao .nil (.cons (.there tI) (.cons (.there tI) (.cons (.there tI) (.cons (.there tI) (.cons tH (.cons tI (.cons tH .nil))))))) ?_)))))))))))
  cases h
  exact ⟨g15.1, g15.2, v14, t_a_n_4, t32, rfl, rfl⟩
 refine zu (wsr (oM rfl (oV (zp rfl) (oV (z8 rfl zcc zbH) (oT (zI (R := isv (a_n_.kind)) ty3 rfl (.there (.there (.there tI))) hI (oV (zam rfl rfl) (oA rfl (rnf ?_)))))))))
 refine zf h rfl (fun _ h => ?_) (fun _ h => ?_)
 ·exact zW (zk (hJ16 _ (t12, t13) h _ (ze 6 rfl rfl zd (.cons .here (.cons .here (.cons .here (.cons .here k4)))))))
 refine wsr (oM rfl (zb h fun y17 hy17 h => oT (zL (zM hy17) hT (s2 rfl rfl) (.cons tH (.cons tH (.cons tH (.cons tH .nil)))) (fun R H' hR => ?_))))
 obtain ⟨t18, t19, rfl, rfl⟩ := hR
 refine oA rfl (rnf (zf h rfl (fun _ h => ?_) (fun _ h => ?_)))
 ·exact zj (oV (z8 rfl GFld.f2 zoj) (oT (zi (y' := ((GFld.mk y6.1 y11.1 true false (Val.mk (0 : Int) (0 : Int) ([] : (List UInt8)) ([] : (List Val)) (0 : Int) ([] : (List Raw))) zck) : GFld)) ty4 rfl rfl hI (.there (.there tI)) rfl (zx (zk (hJ16 _ (t18, t19) h _ (ze 10 rfl rfl zd (.cons .here (.cons .here (.cons .here (.cons .here k4)))))))))))
 refine wsr (oM rfl (zb h fun y20 hy20 h => oT (zL (zM hy20) hT (s2 rfl rfl) k4 (fun R H' hR => ?_))))
 obtain ⟨t21, t22, rfl, rfl⟩ := hR
 refine oA rfl (rnf (zf h rfl (fun _ h => ?_) (fun _ h => ?_)))
 ·refine zj (oM rfl (zb h fun y23 hy23 h => oT (zL (zgF hy23) hT (s1 rfl) k4 (fun R H' hR => ?_))))
  obtain ⟨t24, t25, rfl, rfl⟩ := hR
  exact oV (z8 rfl GFld.f3 zla) (oT (zi (y' := ((GFld.mk y6.1 y11.1 false true (Val.mk (0 : Int) (0 : Int) ([] : (List UInt8)) ([] : (List Val)) (0 : Int) ([] : (List Raw))) zck) : GFld)) ty4 rfl rfl hI (.there (.there tI)) rfl (oV (z8 rfl GFld.f4 zlB) (oT (zi (y' := ((GFld.mk y6.1 y11.1 false true y23.1 zck) : GFld)) ty63 rfl rfl hI .here rfl (zx (zk (hJ16 _ (t24, t25) h _ (ze 16 rfl rfl zd (.cons .here (.cons .here (.cons .here (.cons .here k4)))))))))))))
 exact zW (zk (hJ16 _ (t21, t22) h _ (ze 12 rfl rfl zd (.cons (.there (.there tI)) (.cons .here (.cons .here (.cons .here k4)))))))

theorem zg3 {zak : GPar → GNode → Int → Int → Option (GPar × GNode)} {zat : GPar → Int → Option (Int × GPar)} {zar : GPar → GNode → Int → Option (GPar × GNode)} {zag : GPar → GNode → Int → Option (GPar × GNode)} (zb7 : zb6 zak) (zcs : zb5 zat) (zcO : zcj zar) (zbE : zb4 zag) : ∀ {a_x : GPar} {zQ : Int} {zG : Nat} {t_a_x1 : Tok} {t_a_x2 : Tok} {zH : Vt} {r : Int × GPar}, zbt zak zat zar zag a_x zQ = some r → Ctr Tryd.prog 28 [ptrv zG (Fld.id ((List GTok) × Int × (Str × Int × (TList Str) × (TList Int) × Vh) × Int × Int)), isv (zQ)] [boxE zG ((a_x.l, a_x.at_, (a_x.m.name, a_x.m.tagging, (TList.mk t_a_x1 a_x.m.names), (TList.mk t_a_x2 a_x.m.types), (Vh.mk zH a_x.m.nodes.length)), a_x.e, a_x.p) : ((List GTok) × Int × (Str × Int × (TList Str) × (TList Int) × Vh) × Int × Int)), tokE t_a_x1, tokE t_a_x2, vecE zH (a_x.m.nodes : List GNode)] (fun R H => ∃ u1 : Tok, ∃ u2 : Tok, ∃ u3 : Vt, R = oneOf [isv (r.1)] ∧ H = [boxE zG ((r.2.l, r.2.at_, (r.2.m.name, r.2.m.tagging, (TList.mk u1 r.2.m.names), (TList.mk u2 r.2.m.types), (Vh.mk u3 r.2.m.nodes.length)), r.2.e, r.2.p)), tokE u1, tokE u2, vecE u3 (r.2.m.nodes)]) := by
 intro a_x zQ zG t_a_x1 t_a_x2 zH r h
 unfold zbt at h
 refine zw Tryd.func28 rfl fun w0 S0 hT => wsr (oA rfl (rnf (zn (wsr (oM rfl (oV (zp rfl) (oV (z8 rfl zbJ zcM) ?_)))))))
 refine oT (zI (R := isv (a_x.e)) ty31 rfl .here hI (oV (zcq rfl rfl) (rnf (zf h rfl (fun _ h => ?_) (fun _ h => ?_)))))
 ·refine wsr (oA rfl (rnf (zN (zB (zo (.tmp rfl .nil) k4 ?_)))))
  cases h
  exact ⟨t_a_x1, t_a_x2, zH, rfl, rfl⟩
 refine wkf (zn (wsr (oM rfl (zb h fun y4 hy4 h => oT (zL (zaO hy4) hT (s1 rfl) k4 (fun R H' hR => ?_))))))
 obtain ⟨t5, t6, rfl, rfl⟩ := hR
 refine zb h fun y7 hy7 h => oT (zy (zkd hy7) hT (s1 rfl) .nil (oV (zbL rfl) (rnf (zf h rfl (fun _ h => ?_) (fun _ h => ?_)))))
 ·refine wsr (oM rfl (oM rfl (zb h fun y8 hy8 h => oT (zL (zaO hy8) hT (s1 rfl) k4 (fun R H' hR => ?_)))))
  obtain ⟨t9, t10, rfl, rfl⟩ := hR
  refine zb h fun y11 hy11 h => oT (zL (za5 hy11) hT (s3 rfl rfl rfl) k4 (fun R H' hR => ?_))
  obtain ⟨t12, t13, rfl, rfl⟩ := hR
  refine rnf (wsr (oA rfl (rnf (zN (zB (zo (.tmp rfl .nil) k4 ?_))))))
  cases h
  exact ⟨t12, t13, zH, rfl, rfl⟩
 refine wkf (zn (wsr (oM rfl (oV (zbY rfl rfl) (oM rfl (zaz (jb 32) je .nil h 8 rfl (fun q14 g14 h => ?_) (fun J15 h hJ15 => ?_)))))))
 ·refine rnf (zf h rfl (fun _ h => ?_) (fun _ h => ?_))
  ·refine wsr (oM rfl (oM rfl (zb h fun y17 hy17 h => oT (zL (zaO hy17) hT (s1 rfl) k4 (fun R H' hR => ?_)))))
   obtain ⟨t18, t19, rfl, rfl⟩ := hR
   refine zb h fun y20 hy20 h => oT (zL (za5 hy20) hT (s3 rfl rfl rfl) k4 (fun R H' hR => ?_))
   obtain ⟨t21, t22, rfl, rfl⟩ := hR
   refine rnf (wsr (oA rfl (rnf (zN (zB (zo (.tmp rfl .nil) k4 ?_))))))
   cases h
   exact ⟨t21, t22, zH, rfl, rfl⟩
  refine wkf (wsr (oM rfl (oV (zp rfl) (oV (z8 rfl zch zdF) (oV (z8 rfl zf6 zfv) (oT (zI (R := vecv zH (y4.2.m.nodes.length)) ty28 rfl .here isvV1 (oV (zif sl28 rfl) (oA rfl ?_)))))))))
  refine rnf (wsr (oM rfl (oM rfl (oV (zp rfl) (oV (z8 rfl zch zdF) (oV (z8 rfl zf6 zfv) (oT (zI (R := vecv zH (y4.2.m.nodes.length)) ty28 rfl .here isvV1 (oV (zax (z := (GNode.mk (0 : Int) (Str.mk []) (GMark.mk false (0 : Int) (0 : Int)) (GCon.mk false false false false (0 : Int) (0 : Int)) ([] : (List GItem)) ([] : (List GFld)) (0 : Int) false (0 : Int))) rfl bu108 ze108 .nil) ?_)))))))))
  refine oT (zS (l := ([(GNode.mk (0 : Int) (Str.mk []) (GMark.mk false (0 : Int) (0 : Int)) (GCon.mk false false false false (0 : Int) (0 : Int)) ([] : (List GItem)) ([] : (List GFld)) (0 : Int) false (0 : Int))] : (List GNode))) el28 (.cons rfl hI .nil) rfl rfl (zad h fun q25 h => oT (zgP (m := ([(GNode.mk (0 : Int) (Str.mk []) (GMark.mk false (0 : Int) (0 : Int)) (GCon.mk false false false false (0 : Int) (0 : Int)) ([] : (List GItem)) ([] : (List GFld)) (0 : Int) false (0 : Int))] : (List GNode))) zoy rfl rfl zJ (.there tI) (by first | rfl | simp) q25 fun v24 => ?_)))
  refine oV (zp rfl) (oV (z8 rfl zch zdF) (oV (z8 rfl zf6 zfv) (oT (zi (y' := ((y4.2.l, y4.2.at_, (y4.2.m.name, y4.2.m.tagging, (TList.mk t5 y4.2.m.names), (TList.mk t6 y4.2.m.types), (Vh.mk v24 (y4.2.m.nodes ++ ([(GNode.mk (0 : Int) (Str.mk []) (GMark.mk false (0 : Int) (0 : Int)) (GCon.mk false false false false (0 : Int) (0 : Int)) ([] : (List GItem)) ([] : (List GFld)) (0 : Int) false (0 : Int))] : (List GNode))).length)), y4.2.e, y4.2.p) : ((List GTok) × Int × (Str × Int × (TList Str) × (TList Int) × Vh) × Int × Int))) ty28 rfl rfl isvV2 tH rfl (rnf (wsr (oV (zax (z := (((0 : Int), (Str.mk []), (GMark.mk false (0 : Int) (0 : Int)), (GCon.mk false false false false (0 : Int) (0 : Int)), (TList.mk none ([] : (List GItem))), (TList.mk none ([] : (List GFld))), (0 : Int), false, (0 : Int)) : (Int × Str × GMark × GCon × (TList GItem) × (TList GFld) × Int × Bool × Int))) rfl bu108 zmf .nil) (oT (zab _ zmf fun b26 => zai (zbf) ?_)))))))))
  refine zai (zbf) (zai (zbf) (zai (zbf) (oT (zi (y' := (((0 : Int), (Str.mk []), (GMark.mk false (0 : Int) (0 : Int)), (GCon.mk false false false false (0 : Int) (0 : Int)), (TList.mk none ([] : (List GItem))), (TList.mk none ([] : (List GFld))), (0 : Int), false, (0 : Int)) : (Int × Str × GMark × GCon × (TList GItem) × (TList GFld) × Int × Bool × Int))) ty108 rfl rfl hI (.there (.there tI)) rfl (rnf (zn (wsr (oM rfl (zb h fun y31 hy31 h => ?_)))))))))
  refine oT (zL (zM hy31) hT (s2 rfl rfl) (.cons (.there (.there (.there tI))) (.cons (.there (.there (.there (.there tI)))) (.cons (.there (.there (.there (.there tI)))) (.cons (.there (.there (.there tI))) .nil)))) (fun R H' hR => ?_))
  obtain ⟨t32, t33, rfl, rfl⟩ := hR
  refine rnf (zdg (ι := GPar × GNode) (γ := Tok × Tok × Tok × Tok) (fun q34 g34 => []) (fun q34 g34 => [boxE zG ((q34.1.l, q34.1.at_, (q34.1.m.name, q34.1.m.tagging, (TList.mk g34.1 q34.1.m.names), (TList.mk g34.2.1 q34.1.m.types), (Vh.mk v24 q34.1.m.nodes.length)), q34.1.e, q34.1.p) : ((List GTok) × Int × (Str × Int × (TList Str) × (TList Int) × Vh) × Int × Int)), tokE g34.1, tokE g34.2.1, vecE v24 (q34.1.m.nodes : List GNode), boxE b26 ((q34.2.kind, q34.2.name, q34.2.mark, q34.2.con, (TList.mk g34.2.2.1 q34.2.items), (TList.mk g34.2.2.2 q34.2.fields), q34.2.root, q34.2.more, q34.2.of) : (Int × Str × GMark × GCon × (TList GItem) × (TList GFld) × Int × Bool × Int)), tokE g34.2.2.1, tokE g34.2.2.2]) (.cons .here (.cons (.there tI) (.cons .here k4))) h (fun q34 g34 h => ?_) (fun J35 h hJ35 => ?_))
  ·refine wsr (oM rfl (oM rfl (zb h fun y63 hy63 h => oT (zL (zcO hy63) hT (s3 rfl rfl rfl) (.cons .here (.cons .here (.cons .here k4))) (fun R H' hR => ?_)))))
   obtain ⟨t64, t65, v66, t67, t68, rfl, rfl⟩ := hR
   refine rnf (zn (wsr (oM rfl (oV (zp rfl) (oV (z8 rfl zbJ zcM) (oT (zI (R := isv (y63.1.e)) ty31 rfl .here hI (oV (zcq rfl rfl) (rnf ?_)))))))))
   refine zf h rfl (fun _ h => ?_) (fun _ h => ?_)
   ·refine wsr (oA rfl (rnf (zN (zB (zo (.tmp rfl .nil) k4 ?_)))))
    cases h
    exact ⟨t64, t65, v66, rfl, rfl⟩
   refine wkf (zn (zcR 6 (.there (.there tI)) rfl (fun o69 hn70 => zcR 0 .here rfl (fun o71 hn72 => zU (.v 0 (.v 1 (.v 2 (.v 3 (.v 4 (.v 5 (.v 6 (.v 7 (.t 8 .nil))))))))) moOrd (by kernel_rfl) ?_))))
   refine rvm rfl rfl (zt rfl (zbs rfl) (zt rfl (zfe rfl zch zdF) (zt rfl (zfe rfl zf6 zfv) (zt rfl (zc1 (R := vecv v66 (y63.1.m.nodes.length)) ty28 rfl (List.Mem.head _) isvV1) (rvm rfl rfl (zt rfl (zc1 (R := isv (((y63.2.kind, y63.2.name, y63.2.mark, y63.2.con, (TList.mk t67 y63.2.items), (TList.mk t68 y63.2.fields), y63.2.root, y63.2.more, y63.2.of)) : ((Int × Str × GMark × GCon × (TList GItem) × (TList GFld) × Int × Bool × Int)))) ty108 rfl (List.Mem.tail _ (List.Mem.head _)) hI) (zbi (zaC (R' := isv (y63.2)) 105 rfl (Cv.isv rfl fun S => (fun cs h => GNode.cv (x := y63.2) cs (((Cv.pair Cv.id (Cv.pair Cv.id (Cv.pair Cv.id (Cv.pair Cv.id (Cv.pair Cv.tl (Cv.pair Cv.tl (Cv.pair Cv.id (Cv.pair Cv.id Cv.id)))))))) : Cv S ((y63.2.kind, y63.2.name, y63.2.mark, y63.2.con, (TList.mk t67 y63.2.items), (TList.mk t68 y63.2.fields), y63.2.root, y63.2.more, y63.2.of) : (Int × Str × GMark × GCon × (TList GItem) × (TList GFld) × Int × Bool × Int)) (GNode.to y63.2)) cs h)))) (zV h fun q73 h => ?_))))))))
   refine zt rfl (zaR (α := GNode) sl28 rfl rfl q73.1 q73.2) (zb h fun y74 hy74 h => zT rfl rfl (zbh ty108 rfl rfl tI hy74 (zae (zaU 0 hn72 rfl (zo1 (zgg (y := ((y63.1.l, y63.1.at_, (y63.1.m.name, y63.1.m.tagging, (TList.mk t64 y63.1.m.names), (TList.mk t65 y63.1.m.types), (Vh.mk v66 (y63.1.m.nodes.set (((y4.2.m.nodes.length : Nat) : Int).toNat) y63.2).length)), y63.1.e, y63.1.p) : ((List GTok) × Int × (Str × Int × (TList Str) × (TList Int) × Vh) × Int × Int))) .here (fun S => (Cv.pair Cv.id (Cv.pair Cv.id (Cv.pair (Cv.pair Cv.id (Cv.pair Cv.id (Cv.pair Cv.id (Cv.pair Cv.id (Cv.vhe (by first | rfl | simp)))))) (Cv.pair Cv.id Cv.id)))))) ?_)))))
   refine zaU 6 hn70 rfl (zA (wsr (oM rfl (oA rfl (rnf (zN (zo (.tmp rfl .nil) (.cons tH (.cons tI (.cons tI (.cons tH .nil)))) ?_)))))))
   cases h
   exact ⟨t64, t65, v66, rfl, rfl⟩
  refine zf h rfl (fun _ h => ?_) (fun _ h => ?_)
  ·refine wsr (oM rfl (zb h fun y36 hy36 h => oT (zL (zaO hy36) hT (s1 rfl) k4 (fun R H' hR => ?_))))
   obtain ⟨t37, t38, rfl, rfl⟩ := hR
   refine oT (zab _ ze80 fun b39 => oT (zi (y' := (y36.1 : GTok)) ty80 rfl rfl hI .here rfl (zai (zas 7 .here rfl) (rnf (wsr (oM rfl (zb h fun y40 hy40 h => oT (zL (zco hy40) hT (s1 rfl) k4 (fun R H' hR => ?_)))))))))
   obtain ⟨t41, t42, rfl, rfl⟩ := hR
   refine oA rfl (rnf (zn (wsr (oM rfl (oV (zp rfl) (oV (z8 rfl zbJ zcM) (oT (zI (R := isv (y40.2.e)) ty31 rfl .here hI (oV (zam rfl rfl) ?_)))))))))
   refine oM rfl (zaz (jb 74) je .nil h 7 rfl (fun q43 g43 h => ?_) (fun J44 h hJ44 => ?_))
   ·refine rnf (zdg (ι := GPar) (γ := Tok × Tok) (fun q49 g49 => []) (fun q49 g49 => [boxE zG ((q49.l, q49.at_, (q49.m.name, q49.m.tagging, (TList.mk g49.1 q49.m.names), (TList.mk g49.2 q49.m.types), (Vh.mk v24 q49.m.nodes.length)), q49.e, q49.p) : ((List GTok) × Int × (Str × Int × (TList Str) × (TList Int) × Vh) × Int × Int)), tokE g49.1, tokE g49.2, vecE v24 (q49.m.nodes : List GNode)]) k4 h (fun q49 g49 h => ?_) (fun J50 h hJ50 => ?_))
    ·refine wsr (oM rfl (zb h fun y54 hy54 h => oT (zL (zZ hy54) hT (s2 rfl rfl) k4 (fun R H' hR => ?_))))
     obtain ⟨t55, t56, rfl, rfl⟩ := hR
     refine rnf (wsr (oM rfl (oV (zax (z := (GMark.mk true y40.1 (0 : Int))) rfl bu106 ze106 (.cons GMark.f0 zjs rfl hI (.cons GMark.f1 zlU rfl hI .nil))) (oV (z8 rfl zhj zeL) (oT (zi (y' := (((0 : Int), (Str.mk []), (GMark.mk true y40.1 (0 : Int)), (GCon.mk false false false false (0 : Int) (0 : Int)), (TList.mk none ([] : (List GItem))), (TList.mk none ([] : (List GFld))), (0 : Int), false, (0 : Int)) : (Int × Str × GMark × GCon × (TList GItem) × (TList GFld) × Int × Bool × Int))) ty106 rfl rfl hI (.there (.there tI)) rfl (rnf (wsr (oM rfl ?_)))))))))
     refine zb h fun y57 hy57 h => oT (zL (zM hy57) hT (s2 rfl rfl) (.cons tH (.cons tH (.cons tH (.cons tH .nil)))) (fun R H' hR => ?_))
     obtain ⟨t58, t59, rfl, rfl⟩ := hR
     refine rnf (zf h rfl (fun _ h => ?_) (fun _ h => ?_))
     ·exact zj (oV (z8 rfl zhj zeL) (oV (z8 rfl GMark.f2 zh3) (oT (zi (y' := (((0 : Int), (Str.mk []), (GMark.mk true y40.1 (1 : Int)), (GCon.mk false false false false (0 : Int) (0 : Int)), (TList.mk none ([] : (List GItem))), (TList.mk none ([] : (List GFld))), (0 : Int), false, (0 : Int)) : (Int × Str × GMark × GCon × (TList GItem) × (TList GFld) × Int × Bool × Int))) ty3 rfl rfl hI (.there (.there tI)) rfl (zx (hJ35 _ (t58, t59, none, none) h _ (ze 23 rfl rfl zd (.cons tH (.cons tH (.cons tH (.cons tH (.cons .here (.cons tH k3)))))))))))))
     refine wsr (oM rfl (zb h fun y60 hy60 h => oT (zL (zM hy60) hT (s2 rfl rfl) k4 (fun R H' hR => ?_))))
     obtain ⟨t61, t62, rfl, rfl⟩ := hR
     refine rnf (zf h rfl (fun _ h => ?_) (fun _ h => ?_))
     ·exact zj (oV (z8 rfl zhj zeL) (oV (z8 rfl GMark.f2 zh3) (oT (zi (y' := (((0 : Int), (Str.mk []), (GMark.mk true y40.1 (2 : Int)), (GCon.mk false false false false (0 : Int) (0 : Int)), (TList.mk none ([] : (List GItem))), (TList.mk none ([] : (List GFld))), (0 : Int), false, (0 : Int)) : (Int × Str × GMark × GCon × (TList GItem) × (TList GFld) × Int × Bool × Int))) ty3 rfl rfl hI (.there (.there tI)) rfl (zx (hJ35 _ (t61, t62, none, none) h _ (ze 25 rfl rfl zd (.cons tH (.cons tH (.cons tH (.cons tH (.cons .here (.cons tH k3)))))))))))))
     exact zW (hJ35 _ (t61, t62, none, none) h _ (ze 23 rfl rfl zd (.cons .here (.cons .here (.cons .here (.cons .here (.cons .here (.cons tH k3))))))))
    refine zf h rfl (fun _ h => ?_) (fun _ h => ?_)
    ·refine zj (oM rfl (oV (zg ty80 rfl) (zb h fun y51 hy51 h => oT (zL (za5 hy51) hT (s3 rfl rfl rfl) k4 (fun R H' hR => ?_)))))
     obtain ⟨t52, t53, rfl, rfl⟩ := hR
     exact zx (hJ50 _ (t52, t53) h _ (ze 3 rfl rfl zd (.cons .here (.cons .here (.cons .here (.cons .here (.cons .here k4)))))))
    exact zW (hJ50 _ (t41, t42) h _ (ze 0 rfl rfl zd (.cons .here (.cons .here (.cons .here (.cons .here (.cons .here k4)))))))
   refine zC (j := 67) h rfl (fun g45 h => ?_) (fun g45 h => ?_)
   ·refine oK 67 rfl rfl rfl g45 (zq rfl) (oK 67 rfl rfl rfl g45 (zal rfl rfl) (oK 67 rfl rfl rfl g45 (zq rfl) (zaz (jb 73) je .nil h 3 rfl (fun q46 g46 h => ?_) (fun J47 h hJ47 => ?_))))
    ·exact oV (zr rfl g45 rfl) (hJ44 _ () h _ (ze 5 rfl rfl (za (j := 74) rfl hI zd) (.cons .here (.cons .here (.cons .here (.cons .here (.cons .here k4)))))))
    refine zC (j := 70) h rfl (fun g48 h => ?_) (fun g48 h => ?_)
    ·exact oP 70 rfl rfl g48 (oP 70 rfl rfl g48 (oK 67 rfl rfl rfl g45 (zr rfl g48 rfl) (hJ47 _ () h _ (ze 3 rfl rfl (za (j := 73) rfl hI zd) (.cons .here (.cons .here (.cons .here (.cons .here (.cons .here k4)))))))))
    exact oK 70 rfl rfl rfl g48 (zq rfl) (oK 70 rfl rfl rfl g48 (zbY rfl rfl) (oK 67 rfl rfl rfl g45 (zs rfl g48 rfl) (hJ47 _ () h _ (ze 3 rfl rfl (za (j := 73) rfl hI zd) (.cons .here (.cons .here (.cons .here (.cons .here (.cons .here k4)))))))))
   exact oP 67 rfl rfl g45 (oP 67 rfl rfl g45 (oP 67 rfl rfl g45 (zz rfl (dj := 70) rfl (zz rfl (dj := 70) rfl (oP 67 rfl rfl g45 (oV (zs rfl g45 rfl) (hJ44 _ () h _ (ze 7 rfl rfl (za (j := 74) rfl hI zd) (.cons .here (.cons .here (.cons .here (.cons .here (.cons .here k4)))))))))))))
  exact zW (hJ35 _ (t32, t33, none, none) h _ (ze 0 rfl rfl zd (.cons .here (.cons .here (.cons .here (.cons .here (.cons .here (.cons tH k3))))))))
 refine zC (j := 24) h rfl (fun g16 h => ?_) (fun g16 h => ?_)
 ·exact oP 24 rfl rfl g16 (oP 24 rfl rfl g16 (oP 24 rfl rfl g16 (oP 24 rfl rfl g16 (oP 24 rfl rfl g16 (oP 24 rfl rfl g16 (oP 24 rfl rfl g16 (oV (zr rfl g16 rfl) (hJ15 _ () h _ (ze 8 rfl rfl (za (j := 32) rfl hI zd) k4)))))))))
 exact oK 24 rfl rfl rfl g16 (zq rfl) (oK 24 rfl rfl rfl g16 (zp rfl) (oK 24 rfl rfl rfl g16 (z8 rfl zch zdF) (oK 24 rfl rfl rfl g16 (z8 rfl zf6 zfv) (zaA rfl rfl (dj := 24) rfl g16 (zI (R := vecv zH (y4.2.m.nodes.length)) ty28 rfl .here isvV1 (oK 24 rfl rfl rfl g16 (zif sl28 rfl) (oK 24 rfl rfl rfl g16 (zeN rfl rfl) (oV (zs rfl g16 rfl) (hJ15 _ () h _ (ze 8 rfl rfl (za (j := 32) rfl hI zd) k4))))))))))

theorem zgJ {zak : GPar → GNode → Int → Int → Option (GPar × GNode)} {zat : GPar → Int → Option (Int × GPar)} {zar : GPar → GNode → Int → Option (GPar × GNode)} {zag : GPar → GNode → Int → Option (GPar × GNode)} (zb7 : zb6 zak) (zcs : zb5 zat) (zcO : zcj zar) (zbE : zb4 zag) : ∀ {a_x : GPar} {a_n_ : GNode} {zQ : Int} {zG : Nat} {t_a_x1 : Tok} {t_a_x2 : Tok} {zH : Vt} {zaX : Nat} {t_a_n_4 : Tok} {t_a_n_5 : Tok} {r : GPar × GNode}, zbn zak zat zar zag a_x a_n_ zQ = some r → Ctr Tryd.prog 53 [ptrv zG (Fld.id ((List GTok) × Int × (Str × Int × (TList Str) × (TList Int) × Vh) × Int × Int)), ptrv zaX (Fld.id (Int × Str × GMark × GCon × (TList GItem) × (TList GFld) × Int × Bool × Int)), isv (zQ)] [boxE zG ((a_x.l, a_x.at_, (a_x.m.name, a_x.m.tagging, (TList.mk t_a_x1 a_x.m.names), (TList.mk t_a_x2 a_x.m.types), (Vh.mk zH a_x.m.nodes.length)), a_x.e, a_x.p) : ((List GTok) × Int × (Str × Int × (TList Str) × (TList Int) × Vh) × Int × Int)), tokE t_a_x1, tokE t_a_x2, vecE zH (a_x.m.nodes : List GNode), boxE zaX ((a_n_.kind, a_n_.name, a_n_.mark, a_n_.con, (TList.mk t_a_n_4 a_n_.items), (TList.mk t_a_n_5 a_n_.fields), a_n_.root, a_n_.more, a_n_.of) : (Int × Str × GMark × GCon × (TList GItem) × (TList GFld) × Int × Bool × Int)), tokE t_a_n_4, tokE t_a_n_5] (fun R H => ∃ u1 : Tok, ∃ u2 : Tok, ∃ u3 : Vt, ∃ u4 : Tok, ∃ u5 : Tok, R = oneOf [] ∧ H = [boxE zG ((r.1.l, r.1.at_, (r.1.m.name, r.1.m.tagging, (TList.mk u1 r.1.m.names), (TList.mk u2 r.1.m.types), (Vh.mk u3 r.1.m.nodes.length)), r.1.e, r.1.p)), tokE u1, tokE u2, vecE u3 (r.1.m.nodes), boxE zaX ((r.2.kind, r.2.name, r.2.mark, r.2.con, (TList.mk u4 r.2.items), (TList.mk u5 r.2.fields), r.2.root, r.2.more, r.2.of)), tokE u4, tokE u5]) := by
 intro a_x a_n_ zQ zG t_a_x1 t_a_x2 zH zaX t_a_n_4 t_a_n_5 r h
 unfold zbn at h
 refine zw Tryd.func53 rfl fun w0 S0 hT => wsr (oM rfl (zb h fun y6 hy6 h => oT (zL (zaO hy6) hT (s1 rfl) k4 (fun R H' hR => ?_))))
 obtain ⟨t7, t8, rfl, rfl⟩ := hR
 refine oT (zab _ ze80 fun b9 => oT (zi (y' := (y6.1 : GTok)) ty80 rfl rfl hI .here rfl (zai (zas 6 .here rfl) (rnf (zu (wsr (oM rfl (oV (zp rfl) (oV (z8 rfl zbJ zcM) ?_)))))))))
 refine oT (zI (R := isv (y6.2.e)) ty31 rfl .here hI (oV (zcq rfl rfl) (oA rfl (rnf (zf h rfl (fun _ h => ?_) (fun _ h => ?_))))))
 ·refine zW (zk (zao .nil (.cons .here (.cons .here (.cons .here k4))) ?_))
  cases h
  exact ⟨t7, t8, zH, t_a_n_4, t_a_n_5, rfl, rfl⟩
 refine wsr (oM rfl (zb h fun y10 hy10 h => oT (zL (zM hy10) hT (s2 rfl rfl) k4 (fun R H' hR => ?_))))
 obtain ⟨t11, t12, rfl, rfl⟩ := hR
 refine oA rfl (rnf (zf h rfl (fun _ h => ?_) (fun _ h => ?_)))
 ·refine zj (oM rfl (oV (zp rfl) (oV (z8 rfl zcc zbH) (oT (zi (y' := (((1 : Int), a_n_.name, a_n_.mark, a_n_.con, (TList.mk t_a_n_4 a_n_.items), (TList.mk t_a_n_5 a_n_.fields), a_n_.root, a_n_.more, a_n_.of) : (Int × Str × GMark × GCon × (TList GItem) × (TList GFld) × Int × Bool × Int))) ty3 rfl rfl hI (.there (.there tI)) rfl (zx (zk (zao .nil (.cons tH (.cons tH (.cons tH (.cons tH k3)))) ?_))))))))
  cases h
  exact ⟨t11, t12, zH, t_a_n_4, t_a_n_5, rfl, rfl⟩
 refine wsr (oM rfl (zb h fun y13 hy13 h => oT (zL (zM hy13) hT (s2 rfl rfl) k4 (fun R H' hR => ?_))))
 obtain ⟨t14, t15, rfl, rfl⟩ := hR
 refine oA rfl (rnf (zf h rfl (fun _ h => ?_) (fun _ h => ?_)))
 ·refine zj (oM rfl (oV (zp rfl) (oV (z8 rfl zcc zbH) (oT (zi (y' := (((4 : Int), a_n_.name, a_n_.mark, a_n_.con, (TList.mk t_a_n_4 a_n_.items), (TList.mk t_a_n_5 a_n_.fields), a_n_.root, a_n_.more, a_n_.of) : (Int × Str × GMark × GCon × (TList GItem) × (TList GFld) × Int × Bool × Int))) ty3 rfl rfl hI (.there (.there tI)) rfl (zx (zk (zao .nil (.cons tH (.cons tH (.cons tH (.cons tH k3)))) ?_))))))))
  cases h
  exact ⟨t14, t15, zH, t_a_n_4, t_a_n_5, rfl, rfl⟩
 refine wsr (oM rfl (zb h fun y16 hy16 h => oT (zL (zM hy16) hT (s2 rfl rfl) k4 (fun R H' hR => ?_))))
 obtain ⟨t17, t18, rfl, rfl⟩ := hR
 refine oA rfl (rnf (zf h rfl (fun _ h => ?_) (fun _ h => ?_)))
 ·refine wsr (oM rfl (oV (zp rfl) (oV (z8 rfl zcc zbH) (oT (zi (y' := (((6 : Int), a_n_.name, a_n_.mark, a_n_.con, (TList.mk t_a_n_4 a_n_.items), (TList.mk t_a_n_5 a_n_.fields), a_n_.root, a_n_.more, a_n_.of) : (Int × Str × GMark × GCon × (TList GItem) × (TList GFld) × Int × Bool × Int))) ty3 rfl rfl hI (.there (.there tI)) rfl (rnf (zj (oM rfl (oM rfl ?_)))))))))
  refine zb h fun y19 hy19 h => oT (zL (zdy hy19) hT (s1 rfl) (.cons tH (.cons tH (.cons tH (.cons tH .nil)))) (fun R H' hR => ?_))
  obtain ⟨t20, t21, rfl, rfl⟩ := hR
  refine oV (zp rfl) (oV (z8 rfl zgn zgo) (oT (zi (y' := (((6 : Int), a_n_.name, a_n_.mark, y19.1, (TList.mk t_a_n_4 a_n_.items), (TList.mk t_a_n_5 a_n_.fields), a_n_.root, a_n_.more, a_n_.of) : (Int × Str × GMark × GCon × (TList GItem) × (TList GFld) × Int × Bool × Int))) ty50 rfl rfl hI (.there (.there tI)) rfl (zx (zk (zao .nil (.cons tH (.cons tH (.cons tH (.cons tH k3)))) ?_))))))
  cases h
  exact ⟨t20, t21, zH, t_a_n_4, t_a_n_5, rfl, rfl⟩
 refine wsr (oM rfl (zb h fun y22 hy22 h => oT (zL (zM hy22) hT (s2 rfl rfl) k4 (fun R H' hR => ?_))))
 obtain ⟨t23, t24, rfl, rfl⟩ := hR
 refine oA rfl (rnf (zf h rfl (fun _ h => ?_) (fun _ h => ?_)))
 ·refine wsr (oM rfl (oV (zp rfl) (oV (z8 rfl zcc zbH) (oT (zi (y' := (((2 : Int), a_n_.name, a_n_.mark, a_n_.con, (TList.mk t_a_n_4 a_n_.items), (TList.mk t_a_n_5 a_n_.fields), a_n_.root, a_n_.more, a_n_.of) : (Int × Str × GMark × GCon × (TList GItem) × (TList GFld) × Int × Bool × Int))) ty3 rfl rfl hI (.there (.there tI)) rfl (rnf (wsr (oM rfl (zb h fun y25 hy25 h => ?_)))))))))
  refine oT (zL (zM hy25) hT (s2 rfl rfl) (.cons tH (.cons tH (.cons tH (.cons tH .nil)))) (fun R H' hR => ?_))
  obtain ⟨t26, t27, rfl, rfl⟩ := hR
  refine rnf (zf h rfl (fun _ h => ?_) (fun _ h => ?_))
  ·refine wsr (oM rfl (oM rfl (zb h fun y28 hy28 h => oT (zL (zeg hy28) hT (s1 rfl) k4 (fun R H' hR => ?_)))))
   obtain ⟨t29, t30, rfl, rfl⟩ := hR
   refine oV (zp rfl) (oV (z8 rfl zgn zgo) (oT (zi (y' := (((2 : Int), a_n_.name, a_n_.mark, y28.1, (TList.mk t_a_n_4 a_n_.items), (TList.mk t_a_n_5 a_n_.fields), a_n_.root, a_n_.more, a_n_.of) : (Int × Str × GMark × GCon × (TList GItem) × (TList GFld) × Int × Bool × Int))) ty50 rfl rfl hI (.there (.there tI)) rfl (rnf (zj (oM rfl (zb h fun y31 hy31 h => oT (zL (zZ hy31) hT (s2 rfl rfl) (.cons tH (.cons tH (.cons tH (.cons tH .nil)))) (fun R H' hR => ?_)))))))))
   obtain ⟨t32, t33, rfl, rfl⟩ := hR
   refine zx (zk (zao .nil (.cons .here (.cons .here (.cons .here k4))) ?_))
   cases h
   exact ⟨t32, t33, zH, t_a_n_4, t_a_n_5, rfl, rfl⟩
  refine zW (zk (zao .nil (.cons .here (.cons .here (.cons .here k4))) ?_))
  cases h
  exact ⟨t26, t27, zH, t_a_n_4, t_a_n_5, rfl, rfl⟩
 refine wsr (oM rfl (zb h fun y34 hy34 h => oT (zL (zM hy34) hT (s2 rfl rfl) k4 (fun R H' hR => ?_))))
 obtain ⟨t35, t36, rfl, rfl⟩ := hR
 refine oA rfl (rnf (zf h rfl (fun _ h => ?_) (fun _ h => ?_)))
 ·refine wsr (oM rfl (zb h fun y37 hy37 h => oT (zL (zZ hy37) hT (s2 rfl rfl) k4 (fun R H' hR => ?_))))
  obtain ⟨t38, t39, rfl, rfl⟩ := hR
  refine rnf (wsr (oM rfl (oV (zp rfl) (oV (z8 rfl zcc zbH) (oT (zi (y' := (((5 : Int), a_n_.name, a_n_.mark, a_n_.con, (TList.mk t_a_n_4 a_n_.items), (TList.mk t_a_n_5 a_n_.fields), a_n_.root, a_n_.more, a_n_.of) : (Int × Str × GMark × GCon × (TList GItem) × (TList GFld) × Int × Bool × Int))) ty3 rfl rfl hI (.there (.there tI)) rfl (rnf (zj (oM rfl ?_)))))))))
  refine oM rfl (zb h fun y40 hy40 h => oT (zL (zdy hy40) hT (s1 rfl) (.cons tH (.cons tH (.cons tH (.cons tH .nil)))) (fun R H' hR => ?_)))
  obtain ⟨t41, t42, rfl, rfl⟩ := hR
  refine oV (zp rfl) (oV (z8 rfl zgn zgo) (oT (zi (y' := (((5 : Int), a_n_.name, a_n_.mark, y40.1, (TList.mk t_a_n_4 a_n_.items), (TList.mk t_a_n_5 a_n_.fields), a_n_.root, a_n_.more, a_n_.of) : (Int × Str × GMark × GCon × (TList GItem) × (TList GFld) × Int × Bool × Int))) ty50 rfl rfl hI (.there (.there tI)) rfl (zx (zk (zao .nil (.cons tH (.cons tH (.cons tH (.cons tH k3)))) ?_))))))
  cases h
  exact ⟨t41, t42, zH, t_a_n_4, t_a_n_5, rfl, rfl⟩
 refine wsr (oM rfl (zb h fun y43 hy43 h => oT (zL (zM hy43) hT (s2 rfl rfl) k4 (fun R H' hR => ?_))))
 obtain ⟨t44, t45, rfl, rfl⟩ := hR
 refine oA rfl (rnf (zf h rfl (fun _ h => ?_) (fun _ h => ?_)))
 ·refine wsr (oM rfl (oV (zp rfl) (oV (z8 rfl zcc zbH) (oT (zi (y' := (((3 : Int), a_n_.name, a_n_.mark, a_n_.con, (TList.mk t_a_n_4 a_n_.items), (TList.mk t_a_n_5 a_n_.fields), a_n_.root, a_n_.more, a_n_.of) : (Int × Str × GMark × GCon × (TList GItem) × (TList GFld) × Int × Bool × Int))) ty3 rfl rfl hI (.there (.there tI)) rfl (rnf (wsr (oM rfl (zb h fun y46 hy46 h => ?_)))))))))
  refine oT (zL (zZ hy46) hT (s2 rfl rfl) (.cons tH (.cons tH (.cons tH (.cons tH .nil)))) (fun R H' hR => ?_))
  obtain ⟨t47, t48, rfl, rfl⟩ := hR
  refine rnf (wsr (oM rfl (oM rfl (zb h fun y49 hy49 h => oT (zL (zgG hy49) hT (s2 rfl rfl) (.cons .here (.cons .here (.cons .here k4))) (fun R H' hR => ?_))))))
  obtain ⟨t50, t51, t52, t53, rfl, rfl⟩ := hR
  refine rnf (zj (oM rfl (zb h fun y54 hy54 h => oT (zL (zZ hy54) hT (s2 rfl rfl) k4 (fun R H' hR => ?_)))))
  obtain ⟨t55, t56, rfl, rfl⟩ := hR
  refine zx (zk (zao .nil (.cons .here (.cons .here (.cons .here k4))) ?_))
  cases h
  exact ⟨t55, t56, zH, t52, t53, rfl, rfl⟩
 refine wsr (oM rfl (zb h fun y57 hy57 h => oT (zL (zM hy57) hT (s2 rfl rfl) k4 (fun R H' hR => ?_))))
 obtain ⟨t58, t59, rfl, rfl⟩ := hR
 refine oA rfl (rnf (zf h rfl (fun _ h => ?_) (fun _ h => ?_)))
 ·refine wsr (oM rfl (oV (zp rfl) (oV (z8 rfl zcc zbH) (oT (zi (y' := (((8 : Int), a_n_.name, a_n_.mark, a_n_.con, (TList.mk t_a_n_4 a_n_.items), (TList.mk t_a_n_5 a_n_.fields), a_n_.root, a_n_.more, a_n_.of) : (Int × Str × GMark × GCon × (TList GItem) × (TList GFld) × Int × Bool × Int))) ty3 rfl rfl hI (.there (.there tI)) rfl (rnf (wsr (oM rfl (zb h fun y60 hy60 h => ?_)))))))))
  refine oT (zL (zZ hy60) hT (s2 rfl rfl) (.cons tH (.cons tH (.cons tH (.cons tH .nil)))) (fun R H' hR => ?_))
  obtain ⟨t61, t62, rfl, rfl⟩ := hR
  refine rnf (zj (oM rfl (oM rfl (oM rfl (zb h fun y63 hy63 h => oT (zL (zbE hy63) hT (s3 rfl rfl rfl) (.cons .here (.cons .here (.cons .here k4))) (fun R H' hR => ?_)))))))
  obtain ⟨t64, t65, v66, t67, t68, rfl, rfl⟩ := hR
  refine zx (zk (zao .nil (.cons .here (.cons .here (.cons .here k4))) ?_))
  cases h
  exact ⟨t64, t65, v66, t67, t68, rfl, rfl⟩
 refine wsr (oM rfl (zb h fun y69 hy69 h => oT (zL (zM hy69) hT (s2 rfl rfl) k4 (fun R H' hR => ?_))))
 obtain ⟨t70, t71, rfl, rfl⟩ := hR
 refine oA rfl (rnf (zf h rfl (fun _ h => ?_) (fun _ h => ?_)))
 ·refine wsr (oM rfl (oV (zp rfl) (oV (z8 rfl zcc zbH) (oT (zi (y' := (((9 : Int), a_n_.name, a_n_.mark, a_n_.con, (TList.mk t_a_n_4 a_n_.items), (TList.mk t_a_n_5 a_n_.fields), a_n_.root, a_n_.more, a_n_.of) : (Int × Str × GMark × GCon × (TList GItem) × (TList GFld) × Int × Bool × Int))) ty3 rfl rfl hI (.there (.there tI)) rfl (rnf (wsr (oM rfl (zb h fun y72 hy72 h => ?_)))))))))
  refine oT (zL (zZ hy72) hT (s2 rfl rfl) (.cons tH (.cons tH (.cons tH (.cons tH .nil)))) (fun R H' hR => ?_))
  obtain ⟨t73, t74, rfl, rfl⟩ := hR
  refine rnf (zj (oM rfl (oM rfl (oM rfl (zb h fun y75 hy75 h => oT (zL (zbE hy75) hT (s3 rfl rfl rfl) (.cons .here (.cons .here (.cons .here k4))) (fun R H' hR => ?_)))))))
  obtain ⟨t76, t77, v78, t79, t80, rfl, rfl⟩ := hR
  refine zx (zk (zao .nil (.cons .here (.cons .here (.cons .here k4))) ?_))
  cases h
  exact ⟨t76, t77, v78, t79, t80, rfl, rfl⟩
 refine wsr (oM rfl (zb h fun y81 hy81 h => oT (zL (zM hy81) hT (s2 rfl rfl) k4 (fun R H' hR => ?_))))
 obtain ⟨t82, t83, rfl, rfl⟩ := hR
 refine oA rfl (rnf (zf h rfl (fun _ h => ?_) (fun _ h => ?_)))
 ·refine zn (wsr (oM rfl (zb h fun y84 hy84 h => oT (zL (zM hy84) hT (s2 rfl rfl) k4 (fun R H' hR => ?_)))))
  obtain ⟨t85, t86, rfl, rfl⟩ := hR
  refine rnf (zf h rfl (fun _ h => ?_) (fun _ h => ?_))
  ·refine wsr (oM rfl (oV (zp rfl) (oV (z8 rfl zcc zbH) (oT (zi (y' := (((7 : Int), a_n_.name, a_n_.mark, a_n_.con, (TList.mk t_a_n_4 a_n_.items), (TList.mk t_a_n_5 a_n_.fields), a_n_.root, a_n_.more, a_n_.of) : (Int × Str × GMark × GCon × (TList GItem) × (TList GFld) × Int × Bool × Int))) ty3 rfl rfl hI (.there (.there tI)) rfl (rnf (wsr (oM rfl (oM rfl ?_)))))))))
   refine oM rfl (zb h fun y87 hy87 h => oT (zL (zbE hy87) hT (s3 rfl rfl rfl) (.cons tH (.cons tH (.cons tH (.cons tH k3)))) (fun R H' hR => ?_)))
   obtain ⟨t88, t89, v90, t91, t92, rfl, rfl⟩ := hR
   refine rnf (zN (zB (zD (zo .nil (.cons .here (.cons .here (.cons .here k4))) ?_))))
   cases h
   exact ⟨t88, t89, v90, t91, t92, rfl, rfl⟩
  refine wkf (wsr (oM rfl (oV (zp rfl) (oV (z8 rfl zcc zbH) (oT (zi (y' := (((10 : Int), a_n_.name, a_n_.mark, a_n_.con, (TList.mk t_a_n_4 a_n_.items), (TList.mk t_a_n_5 a_n_.fields), a_n_.root, a_n_.more, a_n_.of) : (Int × Str × GMark × GCon × (TList GItem) × (TList GFld) × Int × Bool × Int))) ty3 rfl rfl hI (.there (.there tI)) rfl (rnf (wsr (oM rfl ?_)))))))))
  refine oM rfl (zb h fun y93 hy93 h => oT (zL (zdy hy93) hT (s1 rfl) (.cons tH (.cons tH (.cons tH (.cons tH .nil)))) (fun R H' hR => ?_)))
  obtain ⟨t94, t95, rfl, rfl⟩ := hR
  refine oV (zp rfl) (oV (z8 rfl zgn zgo) (oT (zi (y' := (((10 : Int), a_n_.name, a_n_.mark, y93.1, (TList.mk t_a_n_4 a_n_.items), (TList.mk t_a_n_5 a_n_.fields), a_n_.root, a_n_.more, a_n_.of) : (Int × Str × GMark × GCon × (TList GItem) × (TList GFld) × Int × Bool × Int))) ty50 rfl rfl hI (.there (.there tI)) rfl (rnf (wsr (oM rfl (zb h fun y96 hy96 h => oT (zL (zZ hy96) hT (s2 rfl rfl) (.cons tH (.cons tH (.cons tH (.cons tH .nil)))) (fun R H' hR => ?_)))))))))
  obtain ⟨t97, t98, rfl, rfl⟩ := hR
  refine rnf (zj (oM rfl (oM rfl (oM rfl (zE h fun q99 h => oV (zaf rfl rfl q99) (zb h fun y100 hy100 h => oT (zL (zcs hy100) hT (s2 rfl rfl) k4 (fun R H' hR => ?_))))))))
  obtain ⟨t101, t102, v103, rfl, rfl⟩ := hR
  refine oV (zp rfl) (oV (z8 rfl zmp zjo) (oT (zi (y' := (((10 : Int), a_n_.name, a_n_.mark, y93.1, (TList.mk t_a_n_4 a_n_.items), (TList.mk t_a_n_5 a_n_.fields), a_n_.root, a_n_.more, y100.1) : (Int × Str × GMark × GCon × (TList GItem) × (TList GFld) × Int × Bool × Int))) ty3 rfl rfl hI (.there (.there tI)) rfl (zx (zk (zao .nil (.cons tH (.cons tH (.cons tH (.cons tH k3)))) ?_))))))
  cases h
  exact ⟨t101, t102, v103, t_a_n_4, t_a_n_5, rfl, rfl⟩
 refine wsr (oV (zac rfl GTok.f0 zcF rfl (z := y6.1.kind)) (oV (zg ty3 rfl) (oV (zam rfl rfl) (oA rfl (rnf (zf h rfl (fun _ h => ?_) (fun _ h => ?_)))))))
 ·refine zn (zU (.v 0 (.v 1 (.v 2 (.v 3 (.v 4 (.v 5 (.t 6 (.v 7 (.v 8 (.t 9 .nil)))))))))) moOrd (by kernel_rfl) ?_)
  refine rvm rfl rfl (rvm rfl rfl (zt rfl (zac rfl GTok.f1 zdJ rfl (z := y6.1.text)) (zt rfl (zg ty9 rfl) (zt rfl (zp rfl) (zt rfl (z8 rfl zcc zbH) (zT rfl rfl (zi (y' := (((11 : Int), a_n_.name, a_n_.mark, a_n_.con, (TList.mk t_a_n_4 a_n_.items), (TList.mk t_a_n_5 a_n_.fields), a_n_.root, a_n_.more, a_n_.of) : (Int × Str × GMark × GCon × (TList GItem) × (TList GFld) × Int × Bool × Int))) ty3 rfl rfl hI (.there (.there tI)) rfl (zt rfl (zp rfl) (zt rfl (z8 rfl zmX zj7) ?_)))))))))
  refine zT rfl rfl (zi (y' := (((11 : Int), y6.1.text, a_n_.mark, a_n_.con, (TList.mk t_a_n_4 a_n_.items), (TList.mk t_a_n_5 a_n_.fields), a_n_.root, a_n_.more, a_n_.of) : (Int × Str × GMark × GCon × (TList GItem) × (TList GFld) × Int × Bool × Int))) ty9 rfl rfl hI .here rfl (zae (zA (zj (oM rfl (zb h fun y104 hy104 h => oT (zL (zbD hy104) hT (s1 rfl) (.cons tH (.cons tH (.cons tH (.cons tH .nil)))) (fun R H' hR => ?_))))))))
  obtain ⟨t105, t106, rfl, rfl⟩ := hR
  refine zx (zk (zao .nil (.cons .here (.cons .here (.cons .here k4))) ?_))
  cases h
  exact ⟨t105, t106, zH, t_a_n_4, t_a_n_5, rfl, rfl⟩
 refine zj (oM rfl (oV (zg ty80 rfl) (zb h fun y107 hy107 h => oT (zL (za5 hy107) hT (s3 rfl rfl rfl) k4 (fun R H' hR => ?_)))))
 obtain ⟨t108, t109, rfl, rfl⟩ := hR
 refine zx (zk (zao .nil (.cons .here (.cons .here (.cons .here k4))) ?_))
 cases h
 exact ⟨t108, t109, zH, t_a_n_4, t_a_n_5, rfl, rfl⟩

theorem zfO {zak : GPar → GNode → Int → Int → Option (GPar × GNode)} {zat : GPar → Int → Option (Int × GPar)} {zar : GPar → GNode → Int → Option (GPar × GNode)} {zag : GPar → GNode → Int → Option (GPar × GNode)} (zb7 : zb6 zak) (zcs : zb5 zat) (zcO : zcj zar) (zbE : zb4 zag) : ∀ {a_x : GPar} {a_n_ : GNode} {zQ : Int} {zG : Nat} {t_a_x1 : Tok} {t_a_x2 : Tok} {zH : Vt} {zaX : Nat} {t_a_n_4 : Tok} {t_a_n_5 : Tok} {r : GPar × GNode}, zbl zak zat zar zag a_x a_n_ zQ = some r → Ctr Tryd.prog 80 [ptrv zG (Fld.id ((List GTok) × Int × (Str × Int × (TList Str) × (TList Int) × Vh) × Int × Int)), ptrv zaX (Fld.id (Int × Str × GMark × GCon × (TList GItem) × (TList GFld) × Int × Bool × Int)), isv (zQ)] [boxE zG ((a_x.l, a_x.at_, (a_x.m.name, a_x.m.tagging, (TList.mk t_a_x1 a_x.m.names), (TList.mk t_a_x2 a_x.m.types), (Vh.mk zH a_x.m.nodes.length)), a_x.e, a_x.p) : ((List GTok) × Int × (Str × Int × (TList Str) × (TList Int) × Vh) × Int × Int)), tokE t_a_x1, tokE t_a_x2, vecE zH (a_x.m.nodes : List GNode), boxE zaX ((a_n_.kind, a_n_.name, a_n_.mark, a_n_.con, (TList.mk t_a_n_4 a_n_.items), (TList.mk t_a_n_5 a_n_.fields), a_n_.root, a_n_.more, a_n_.of) : (Int × Str × GMark × GCon × (TList GItem) × (TList GFld) × Int × Bool × Int)), tokE t_a_n_4, tokE t_a_n_5] (fun R H => ∃ u1 : Tok, ∃ u2 : Tok, ∃ u3 : Vt, ∃ u4 : Tok, ∃ u5 : Tok, R = oneOf [] ∧ H = [boxE zG ((r.1.l, r.1.at_, (r.1.m.name, r.1.m.tagging, (TList.mk u1 r.1.m.names), (TList.mk u2 r.1.m.types), (Vh.mk u3 r.1.m.nodes.length)), r.1.e, r.1.p)), tokE u1, tokE u2, vecE u3 (r.1.m.nodes), boxE zaX ((r.2.kind, r.2.name, r.2.mark, r.2.con, (TList.mk u4 r.2.items), (TList.mk u5 r.2.fields), r.2.root, r.2.more, r.2.of)), tokE u4, tokE u5]) := by
 intro a_x a_n_ zQ zG t_a_x1 t_a_x2 zH zaX t_a_n_4 t_a_n_5 r h
 unfold zbl at h
 refine zw Tryd.func80 rfl fun w0 S0 hT => zn (wsr (oM rfl (zb h fun y6 hy6 h => oT (zL (zM hy6) hT (s2 rfl rfl) k4 (fun R H' hR => ?_)))))
 obtain ⟨t7, t8, rfl, rfl⟩ := hR
 refine rnf (zf h rfl (fun _ h => ?_) (fun _ h => ?_))
 ·refine zN (zB (zo .nil (.cons .here (.cons .here (.cons .here k4))) ?_))
  cases h
  exact ⟨t7, t8, zH, t_a_n_4, t_a_n_5, rfl, rfl⟩
 refine wkf (wsr (oA rfl (rnf (zn (zdg (ι := GPar × GNode) (γ := Tok × Tok × Vt × Tok × Tok) (fun q9 g9 => [(6, anyv)]) (fun q9 g9 => [boxE zG ((q9.1.l, q9.1.at_, (q9.1.m.name, q9.1.m.tagging, (TList.mk g9.1 q9.1.m.names), (TList.mk g9.2.1 q9.1.m.types), (Vh.mk g9.2.2.1 q9.1.m.nodes.length)), q9.1.e, q9.1.p) : ((List GTok) × Int × (Str × Int × (TList Str) × (TList Int) × Vh) × Int × Int)), tokE g9.1, tokE g9.2.1, vecE g9.2.2.1 (q9.1.m.nodes : List GNode), boxE zaX ((q9.2.kind, q9.2.name, q9.2.mark, q9.2.con, (TList.mk g9.2.2.2.1 q9.2.items), (TList.mk g9.2.2.2.2 q9.2.fields), q9.2.root, q9.2.more, q9.2.of) : (Int × Str × GMark × GCon × (TList GItem) × (TList GFld) × Int × Bool × Int)), tokE g9.2.2.2.1, tokE g9.2.2.2.2]) (.cons .here (.cons (.there tI) (.cons .here k4))) h (fun q9 g9 h => ?_) (fun J10 h hJ10 => ?_))))))
 ·refine wsr (oM rfl (zb h fun y114 hy114 h => oT (zL (zZ hy114) hT (s2 rfl rfl) k4 (fun R H' hR => ?_))))
  obtain ⟨t115, t116, rfl, rfl⟩ := hR
  refine rnf (wsr (oM rfl (oV (zp rfl) (oV (z8 rfl zd0 zei) (oT (zI (R := isv (q9.2.more)) ty4 rfl (.there (.there tI)) hI (oV (zbL rfl) (rnf (zf h rfl (fun _ h => ?_) (fun _ h => ?_))))))))))
  ·refine zj (oM rfl (oM rfl (oV (zp rfl) (oV (z8 rfl zfg zcT) (oT (zI (R := appv g9.2.2.2.2 (q9.2.fields)) ty52 rfl (.there (.there tI)) isvT1 (oV (za6 (l := q9.2.fields) rfl zJ sl52) (oV (zp rfl) (oV (z8 rfl zga zeM) ?_)))))))))
   refine oT (zi (y' := ((q9.2.kind, q9.2.name, q9.2.mark, q9.2.con, (TList.mk g9.2.2.2.1 q9.2.items), (TList.mk g9.2.2.2.2 q9.2.fields), (q9.2.fields.length : Int), q9.2.more, q9.2.of) : (Int × Str × GMark × GCon × (TList GItem) × (TList GFld) × Int × Bool × Int))) ty3 rfl rfl hI (.there (.there tI)) rfl (zx (zao .nil (.cons tH (.cons tH (.cons tH (.cons tH k3)))) ?_)))
   cases h
   exact ⟨t115, t116, g9.2.2.1, g9.2.2.2.1, g9.2.2.2.2, rfl, rfl⟩
  refine zW (zao .nil (.cons .here (.cons .here (.cons .here k4))) ?_)
  cases h
  exact ⟨t115, t116, g9.2.2.1, g9.2.2.2.1, g9.2.2.2.2, rfl, rfl⟩
 refine zu (zbg (ι := Int × GPar × GNode) (γ := Tok × Tok × Vt × Tok × Tok) (fun q11 g11 => [(6, isv (q11.1))]) (fun q11 g11 => [boxE zG ((q11.2.1.l, q11.2.1.at_, (q11.2.1.m.name, q11.2.1.m.tagging, (TList.mk g11.1 q11.2.1.m.names), (TList.mk g11.2.1 q11.2.1.m.types), (Vh.mk g11.2.2.1 q11.2.1.m.nodes.length)), q11.2.1.e, q11.2.1.p) : ((List GTok) × Int × (Str × Int × (TList Str) × (TList Int) × Vh) × Int × Int)), tokE g11.1, tokE g11.2.1, vecE g11.2.2.1 (q11.2.1.m.nodes : List GNode), boxE zaX ((q11.2.2.kind, q11.2.2.name, q11.2.2.mark, q11.2.2.con, (TList.mk g11.2.2.2.1 q11.2.2.items), (TList.mk g11.2.2.2.2 q11.2.2.fields), q11.2.2.root, q11.2.2.more, q11.2.2.of) : (Int × Str × GMark × GCon × (TList GItem) × (TList GFld) × Int × Bool × Int)), tokE g11.2.2.2.1, tokE g11.2.2.2.2]) h (t7, t8, zH, t_a_n_4, t_a_n_5) (za (j := 6) rfl hI zd) (.cons .here (.cons .here (.cons .here k4))) (fun L12 q11 g11 Q113 h hL12 eL12 rL12 => zn (wsr (oM rfl (oV (zp rfl) (oV (z8 rfl zbJ zcM) (oT (zI (R := isv (q11.2.1.e)) ty31 rfl .here hI (oV (zam rfl rfl) ?_)))))))))
 refine rnf (zf h rfl (fun _ h => ?_) (fun _ h => ?_))
 ·refine wkf (zu (zn (zdg (ι := Int × GPar × GNode) (γ := Tok × Tok × Vt × Tok × Tok) (fun q63 g63 => [(6, isv (q63.1))]) (fun q63 g63 => [boxE zG ((q63.2.1.l, q63.2.1.at_, (q63.2.1.m.name, q63.2.1.m.tagging, (TList.mk g63.1 q63.2.1.m.names), (TList.mk g63.2.1 q63.2.1.m.types), (Vh.mk g63.2.2.1 q63.2.1.m.nodes.length)), q63.2.1.e, q63.2.1.p) : ((List GTok) × Int × (Str × Int × (TList Str) × (TList Int) × Vh) × Int × Int)), tokE g63.1, tokE g63.2.1, vecE g63.2.2.1 (q63.2.1.m.nodes : List GNode), boxE zaX ((q63.2.2.kind, q63.2.2.name, q63.2.2.mark, q63.2.2.con, (TList.mk g63.2.2.2.1 q63.2.2.items), (TList.mk g63.2.2.2.2 q63.2.2.fields), q63.2.2.root, q63.2.2.more, q63.2.2.of) : (Int × Str × GMark × GCon × (TList GItem) × (TList GFld) × Int × Bool × Int)), tokE g63.2.2.2.1, tokE g63.2.2.2.2]) (.cons .here (.cons (.there tI) (.cons .here k4))) h (fun q63 g63 h => ?_) (fun J64 h hJ64 => ?_))))
  ·refine wsr (oM rfl (zb h fun y110 hy110 h => oT (zL (zM hy110) hT (s2 rfl rfl) k4 (fun R H' hR => ?_))))
   obtain ⟨t111, t112, rfl, rfl⟩ := hR
   refine oV (zbL rfl) (rnf (zf h rfl (fun _ h => ?_) (fun _ h => ?_)))
   ·exact zah (zfV rfl (eL12 _ _ (zK (hJ10 _ (t111, t112, g63.2.2.1, g63.2.2.2.1, g63.2.2.2.2) h _ (ze 10 rfl rfl (za (j := 6) rfl (fun _ _ _ => trivial) zd) (.cons .here (.cons .here (.cons .here k4))))))))
   exact zW (zk (hL12 _ (t111, t112, g63.2.2.1, g63.2.2.2.1, g63.2.2.2.2) h _ (ze 10 rfl rfl (za (j := 6) rfl hI zd) (.cons .here (.cons .here (.cons .here k4))))))
  refine zu (wsr (oM rfl (oV (zp rfl) (oV (z8 rfl zd0 zei) (oT (zI (R := isv (q11.2.2.more)) ty4 rfl (.there (.there tI)) hI (oV (zbL rfl) (oM rfl (zaz (ι := Bool × GPar) (γ := Tok × Tok) (fun q65 g65 => [(27, isv (q65.1))]) (fun q65 g65 => [boxE zG ((q65.2.l, q65.2.at_, (q65.2.m.name, q65.2.m.tagging, (TList.mk g65.1 q65.2.m.names), (TList.mk g65.2 q65.2.m.types), (Vh.mk g11.2.2.1 q65.2.m.nodes.length)), q65.2.e, q65.2.p) : ((List GTok) × Int × (Str × Int × (TList Str) × (TList Int) × Vh) × Int × Int)), tokE g65.1, tokE g65.2, vecE g11.2.2.1 (q65.2.m.nodes : List GNode)]) k4 h 3 rfl (fun q65 g65 h => ?_) (fun J66 h hJ66 => ?_))))))))))
  ·refine oA rfl (rnf (zf h rfl (fun _ h => ?_) (fun _ h => ?_)))
   ·refine zj (oM rfl (oM rfl (oM rfl (oV (zp rfl) (oV (z8 rfl zfg zcT) (oT (zI (R := appv g11.2.2.2.2 (q11.2.2.fields)) ty52 rfl (.there (.there tI)) isvT1 (oV (za6 (l := q11.2.2.fields) rfl zJ sl52) (oV (zp rfl) ?_)))))))))
    exact oV (z8 rfl zd0 zei) (oT (zi (y' := ((q11.2.2.kind, q11.2.2.name, q11.2.2.mark, q11.2.2.con, (TList.mk g11.2.2.2.1 q11.2.2.items), (TList.mk g11.2.2.2.2 q11.2.2.fields), q11.2.2.root, true, q11.2.2.of) : (Int × Str × GMark × GCon × (TList GItem) × (TList GFld) × Int × Bool × Int))) ty4 rfl rfl hI (.there (.there tI)) rfl (oV (zp rfl) (oV (z8 rfl zga zeM) (oT (zi (y' := ((q11.2.2.kind, q11.2.2.name, q11.2.2.mark, q11.2.2.con, (TList.mk g11.2.2.2.1 q11.2.2.items), (TList.mk g11.2.2.2.2 q11.2.2.fields), (q11.2.2.fields.length : Int), true, q11.2.2.of) : (Int × Str × GMark × GCon × (TList GItem) × (TList GFld) × Int × Bool × Int))) ty3 rfl rfl hI .here rfl (zx (zk (hJ64 _ (g65.1, g65.2, g11.2.2.1, g11.2.2.2.1, g11.2.2.2.2) h _ (ze 19 rfl rfl (za (j := 6) rfl hI zd) (.cons tH (.cons tH (.cons tH (.cons tH k3))))))))))))))
   refine wsr (oM rfl (oV (zp rfl) (oV (z8 rfl zd0 zei) (oT (zI (R := isv (q11.2.2.more)) ty4 rfl (.there (.there tI)) hI (oM rfl (zaz (ι := Bool × GPar) (γ := Tok × Tok) (fun q71 g71 => [(47, isv (q71.1))]) (fun q71 g71 => [boxE zG ((q71.2.l, q71.2.at_, (q71.2.m.name, q71.2.m.tagging, (TList.mk g71.1 q71.2.m.names), (TList.mk g71.2 q71.2.m.types), (Vh.mk g11.2.2.1 q71.2.m.nodes.length)), q71.2.e, q71.2.p) : ((List GTok) × Int × (Str × Int × (TList Str) × (TList Int) × Vh) × Int × Int)), tokE g71.1, tokE g71.2, vecE g11.2.2.1 (q71.2.m.nodes : List GNode)]) k4 h 3 rfl (fun q71 g71 h => ?_) (fun J72 h hJ72 => ?_))))))))
   ·refine oA rfl (rnf (zf h rfl (fun _ h => ?_) (fun _ h => ?_)))
    ·refine wsr (oM rfl (zE h fun q77 h => oV (zaf rfl rfl q77) (oA rfl (rnf (zn (zdg (ι := GPar × GNode) (γ := Tok × Tok × Vt × Tok × Tok) (fun q78 g78 => []) (fun q78 g78 => [boxE zG ((q78.1.l, q78.1.at_, (q78.1.m.name, q78.1.m.tagging, (TList.mk g78.1 q78.1.m.names), (TList.mk g78.2.1 q78.1.m.types), (Vh.mk g78.2.2.1 q78.1.m.nodes.length)), q78.1.e, q78.1.p) : ((List GTok) × Int × (Str × Int × (TList Str) × (TList Int) × Vh) × Int × Int)), tokE g78.1, tokE g78.2.1, vecE g78.2.2.1 (q78.1.m.nodes : List GNode), boxE zaX ((q78.2.kind, q78.2.name, q78.2.mark, q78.2.con, (TList.mk g78.2.2.2.1 q78.2.items), (TList.mk g78.2.2.2.2 q78.2.fields), q78.2.root, q78.2.more, q78.2.of) : (Int × Str × GMark × GCon × (TList GItem) × (TList GFld) × Int × Bool × Int)), tokE g78.2.2.2.1, tokE g78.2.2.2.2]) (.cons .here (.cons (.there tI) (.cons .here k4))) h (fun q78 g78 h => ?_) (fun J79 h hJ79 => ?_)))))))
     ·refine zj (oM rfl (zb h fun y101 hy101 h => oT (zL (zZ hy101) hT (s2 rfl rfl) k4 (fun R H' hR => ?_))))
      obtain ⟨t102, t103, rfl, rfl⟩ := hR
      exact zx (zk (hJ64 _ (t102, t103, g78.2.2.1, g78.2.2.2.1, g78.2.2.2.2) h _ (ze 20 rfl rfl (za (j := 6) rfl hI zd) (.cons .here (.cons .here (.cons .here k4))))))
     refine zu (zbg (ι := GPar × GNode) (γ := Tok × Tok × Vt × Tok × Tok) (fun q80 g80 => []) (fun q80 g80 => [boxE zG ((q80.1.l, q80.1.at_, (q80.1.m.name, q80.1.m.tagging, (TList.mk g80.1 q80.1.m.names), (TList.mk g80.2.1 q80.1.m.types), (Vh.mk g80.2.2.1 q80.1.m.nodes.length)), q80.1.e, q80.1.p) : ((List GTok) × Int × (Str × Int × (TList Str) × (TList Int) × Vh) × Int × Int)), tokE g80.1, tokE g80.2.1, vecE g80.2.2.1 (q80.1.m.nodes : List GNode), boxE zaX ((q80.2.kind, q80.2.name, q80.2.mark, q80.2.con, (TList.mk g80.2.2.2.1 q80.2.items), (TList.mk g80.2.2.2.2 q80.2.fields), q80.2.root, q80.2.more, q80.2.of) : (Int × Str × GMark × GCon × (TList GItem) × (TList GFld) × Int × Bool × Int)), tokE g80.2.2.2.1, tokE g80.2.2.2.2]) h (g71.1, g71.2, g11.2.2.1, g11.2.2.2.1, g11.2.2.2.2) zd (.cons .here (.cons .here (.cons .here k4))) (fun L81 q80 g80 Q100 h hL81 eL81 rL81 => zn (wsr (oM rfl (oV (zp rfl) (oV (z8 rfl zbJ zcM) (oT (zI (R := isv (q80.1.e)) ty31 rfl .here hI (oV (zam rfl rfl) ?_)))))))))
     refine rnf (zf h rfl (fun _ h => ?_) (fun _ h => ?_))
     ·refine wkf (zu (wsr (oM rfl (oM rfl (oM rfl (oM rfl (zb h fun y91 hy91 h => oT (zL (zb7 hy91) hT (s4 rfl rfl rfl rfl) (.cons .here (.cons .here (.cons .here k4))) (fun R H' hR => ?_)))))))))
      obtain ⟨t92, t93, v94, t95, t96, rfl, rfl⟩ := hR
      refine rnf (wsr (oM rfl (zb h fun y97 hy97 h => oT (zL (zM hy97) hT (s2 rfl rfl) k4 (fun R H' hR => ?_)))))
      obtain ⟨t98, t99, rfl, rfl⟩ := hR
      refine oV (zbL rfl) (rnf (zf h rfl (fun _ h => ?_) (fun _ h => ?_)))
      ·exact zah (zfV rfl (eL81 _ _ (zK (hJ79 _ (t98, t99, v94, t95, t96) h _ (ze 13 rfl rfl zd (.cons .here (.cons .here (.cons .here k4))))))))
      exact zW (zk (hL81 _ (t98, t99, v94, t95, t96) h _ (ze 13 rfl rfl zd (.cons .here (.cons .here (.cons .here k4))))))
     exact zah (zX (eL81 _ _ (zK (hJ79 _ (g80.1, g80.2.1, g80.2.2.1, g80.2.2.2.1, g80.2.2.2.2) h _ (ze 5 rfl rfl zd (.cons .here (.cons .here (.cons .here k4))))))))
    refine zj (oM rfl (oM rfl (oM rfl (zb h fun y104 hy104 h => oT (zL (zb7 hy104) hT (s4 rfl rfl rfl rfl) (.cons .here (.cons .here (.cons .here k4))) (fun R H' hR => ?_))))))
    obtain ⟨t105, t106, v107, t108, t109, rfl, rfl⟩ := hR
    exact zx (zk (hJ64 _ (t105, t106, v107, t108, t109) h _ (ze 19 rfl rfl (za (j := 6) rfl hI zd) (.cons .here (.cons .here (.cons .here k4))))))
   refine zC (j := 44) h rfl (fun g73 h => ?_) (fun g73 h => ?_)
   ·refine oK 44 rfl rfl rfl g73 (zq rfl) (zb h fun y74 hy74 h => zaA rfl rfl (dj := 44) rfl g73 (zL (zM hy74) hT (s2 rfl rfl) k4 (fun R H' hR => ?_)))
    obtain ⟨t75, t76, rfl, rfl⟩ := hR
    exact oV (zr rfl g73 rfl) (hJ72 _ (t75, t76) h _ (ze 3 rfl rfl (za (j := 47) rfl hI zd) (.cons .here (.cons .here (.cons .here k4)))))
   exact oP 44 rfl rfl g73 (oP 44 rfl rfl g73 (oV (zs rfl g73 rfl) (hJ72 _ (g65.1, g65.2) h _ (ze 3 rfl rfl (za (j := 47) rfl hI zd) (.cons .here (.cons .here (.cons .here k4)))))))
  refine zC (j := 24) h rfl (fun g67 h => ?_) (fun g67 h => ?_)
  ·refine oK 24 rfl rfl rfl g67 (zq rfl) (zb h fun y68 hy68 h => zaA rfl rfl (dj := 24) rfl g67 (zL (zM hy68) hT (s2 rfl rfl) k4 (fun R H' hR => ?_)))
   obtain ⟨t69, t70, rfl, rfl⟩ := hR
   exact oV (zr rfl g67 rfl) (hJ66 _ (t69, t70) h _ (ze 3 rfl rfl (za (j := 27) rfl hI zd) (.cons .here (.cons .here (.cons .here k4)))))
  exact oP 24 rfl rfl g67 (oP 24 rfl rfl g67 (oV (zs rfl g67 rfl) (hJ66 _ (g11.1, g11.2.1) h _ (ze 3 rfl rfl (za (j := 27) rfl hI zd) (.cons .here (.cons .here (.cons .here k4)))))))
 exact zah (zX (eL12 _ _ (zK (hJ10 _ (g11.1, g11.2.1, g11.2.2.1, g11.2.2.2.1, g11.2.2.2.2) h _ (ze 6 rfl rfl (za (j := 6) rfl (fun _ _ _ => trivial) zd) (.cons .here (.cons .here (.cons .here k4))))))))

theorem zdK : ∀ n, zb6 (zaG n) ∧ zb5 (zaD n) ∧ zcj (zaP n) ∧ zb4 (zaJ n)
 | 0 => ⟨fun h => (by cases h), fun h => (by cases h), fun h => (by cases h), fun h => (by cases h)⟩
 | n + 1 => by
  obtain ⟨h0, h1, h2, h3⟩ := zdK n
  exact ⟨zgu h0 h1 h2 h3, zg3 h0 h1 h2 h3, zgJ h0 h1 h2 h3, zfO h0 h1 h2 h3⟩
theorem zhx (n : Nat) : zb5 (zaD n) := (zdK n).2.1
theorem zkF : ∀ {zbm : Str} {r : GMod × Int × Int}, zcr zbm = some r → Ctr Tryd.prog 9 [isv (zbm)] [] (fun R H => R = oneOf [isv (r.1), isv (r.2.1), isv (r.2.2)] ∧ H = []) := by
 intro zbm r h
 unfold zcr at h
 refine zw Tryd.func9 rfl fun w0 S0 hT => wsr (oT (zab _ ze30 fun b1 => oA rfl (oA rfl (rnf (wsr (oM rfl (zb h fun y2 hy2 h => ?_)))))))
 refine oT (zy (zjz hy2) hT (s1 rfl) .nil (oM rfl (oV (zau rfl rfl) (oV (zau rfl rfl) (oV (zau rfl rfl) (oA rfl (oA rfl (oA rfl (rnf ?_)))))))))
 refine zn (wsr (oM rfl (oV (zcq rfl rfl) (rnf (zf h rfl (fun _ h => ?_) (fun _ h => ?_))))))
 ·refine wsr (oV (zax (z := (GMod.mk (Str.mk []) (0 : Int) ([] : (List Str)) ([] : (List Int)) ([] : (List GNode)))) rfl bu30 ze30 .nil) (oM rfl (oM rfl (oT (zi (y' := ((GMod.mk (Str.mk []) (0 : Int) ([] : (List Str)) ([] : (List Int)) ([] : (List GNode))) : GMod)) ty30 rfl rfl hI .here rfl (oA rfl (oA rfl (rnf (zN ?_)))))))))
  refine zB ?_
  cases h
  exact zo (.cell rfl .here ty30 (.tmp rfl (.tmp rfl .nil))) .nil ⟨rfl, rfl⟩
 refine wkf (wsr (oM rfl (oV (zax (z := ((y2.1, (0 : Int), ((Str.mk []), (0 : Int), (TList.mk none ([] : (List Str))), (TList.mk none ([] : (List Int))), (Vh.mk none 0)), (0 : Int), (0 : Int)) : ((List GTok) × Int × (Str × Int × (TList Str) × (TList Int) × Vh) × Int × Int))) rfl bu75 zpt (.cons zgL zjJ rfl hI .nil)) (oT (zjK (y := ((y2.1, (0 : Int), ((Str.mk []), (0 : Int), (TList.mk none ([] : (List Str))), (TList.mk none ([] : (List Int))), (Vh.mk none 0)), (0 : Int), (0 : Int)) : ((List GTok) × Int × (Str × Int × (TList Str) × (TList Int) × Vh) × Int × Int))) rfl hI fun b3 => zai (zbf) (zai (zbf) (zai (zgY (α := GNode)) (oA rfl ?_))))))))
 refine rnf (wsr (oM rfl (oM rfl (zb h fun y7 hy7 h => oT (zL (zcl hy7) hT (s2 rfl rfl) (.cons (.there tI) (.cons tI (.cons tH k1))) (fun R H' hR => ?_))))))
 obtain ⟨t8, t9, rfl, rfl⟩ := hR
 refine oV (zp rfl) (oV (z8 rfl zch zdF) (oV (z8 rfl znh zob) (oT (zi (y' := ((y7.2.l, y7.2.at_, (y7.1, y7.2.m.tagging, (TList.mk t8 y7.2.m.names), (TList.mk t9 y7.2.m.types), (Vh.mk none y7.2.m.nodes.length)), y7.2.e, y7.2.p) : ((List GTok) × Int × (Str × Int × (TList Str) × (TList Int) × Vh) × Int × Int))) ty9 rfl rfl hI .here rfl (rnf (wsr (oM rfl (zb h fun y10 hy10 h => oT (zL (zZ hy10) hT (s2 rfl rfl) k4 (fun R H' hR => ?_))))))))))
 obtain ⟨t11, t12, rfl, rfl⟩ := hR
 refine rnf (zn (zdg (ι := GPar) (γ := Tok × Tok) (fun q13 g13 => []) (fun q13 g13 => [boxE b3 ((q13.l, q13.at_, (q13.m.name, q13.m.tagging, (TList.mk g13.1 q13.m.names), (TList.mk g13.2 q13.m.types), (Vh.mk none q13.m.nodes.length)), q13.e, q13.p) : ((List GTok) × Int × (Str × Int × (TList Str) × (TList Int) × Vh) × Int × Int)), tokE g13.1, tokE g13.2, vecE none (q13.m.nodes : List GNode)]) k4 h (fun q13 g13 h => ?_) (fun J14 h hJ14 => ?_)))
 ·refine wsr (oM rfl (zb h fun y33 hy33 h => oT (zL (zZ hy33) hT (s2 rfl rfl) k4 (fun R H' hR => ?_))))
  obtain ⟨t34, t35, rfl, rfl⟩ := hR
  refine rnf (wsr (oM rfl (zb h fun y36 hy36 h => oT (zL (zZ hy36) hT (s2 rfl rfl) k4 (fun R H' hR => ?_)))))
  obtain ⟨t37, t38, rfl, rfl⟩ := hR
  refine rnf (zn (zu (zbg (ι := GPar) (γ := Tok × Tok × Vt) (fun q39 g39 => []) (fun q39 g39 => [boxE b3 ((q39.l, q39.at_, (q39.m.name, q39.m.tagging, (TList.mk g39.1 q39.m.names), (TList.mk g39.2.1 q39.m.types), (Vh.mk g39.2.2 q39.m.nodes.length)), q39.e, q39.p) : ((List GTok) × Int × (Str × Int × (TList Str) × (TList Int) × Vh) × Int × Int)), tokE g39.1, tokE g39.2.1, vecE g39.2.2 (q39.m.nodes : List GNode)]) h (t37, t38, none) zd k4 (fun L40 q39 g39 Q141 h hL40 eL40 rL40 => zn (wsr (oM rfl (oV (zp rfl) (oV (z8 rfl zbJ zcM) ?_))))))))
  refine oT (zI (R := isv (q39.e)) ty31 rfl .here hI (oV (zam rfl rfl) (oM rfl (zaz (ι := Bool × GPar) (γ := Tok × Tok) (fun q91 g91 => [(70, isv (q91.1))]) (fun q91 g91 => [boxE b3 ((q91.2.l, q91.2.at_, (q91.2.m.name, q91.2.m.tagging, (TList.mk g91.1 q91.2.m.names), (TList.mk g91.2 q91.2.m.types), (Vh.mk g39.2.2 q91.2.m.nodes.length)), q91.2.e, q91.2.p) : ((List GTok) × Int × (Str × Int × (TList Str) × (TList Int) × Vh) × Int × Int)), tokE g91.1, tokE g91.2, vecE g39.2.2 (q91.2.m.nodes : List GNode)]) k4 h 4 rfl (fun q91 g91 h => ?_) (fun J92 h hJ92 => ?_)))))
  ·refine rnf (zf h rfl (fun _ h => ?_) (fun _ h => ?_))
   ·refine wkf (zu (wsr (oM rfl (zb h fun y97 hy97 h => oT (zL (zaO hy97) hT (s1 rfl) k4 (fun R H' hR => ?_))))))
    obtain ⟨t98, t99, rfl, rfl⟩ := hR
    refine oT (zab _ ze80 fun b100 => oT (zi (y' := (y97.1 : GTok)) ty80 rfl rfl hI .here rfl (zai (zas 9 .here rfl) (rnf (wsr (oM rfl (zb h fun y101 hy101 h => oT (zL (zcl hy101) hT (s2 rfl rfl) k4 (fun R H' hR => ?_)))))))))
    obtain ⟨t102, t103, rfl, rfl⟩ := hR
    refine oA rfl (rnf (zn (wsr (oM rfl (oV (zp rfl) (oV (z8 rfl zbJ zcM) (oT (zI (R := isv (y101.2.e)) ty31 rfl .here hI (oV (zam rfl rfl) ?_)))))))))
    refine oM rfl (zaz (jb 88) je .nil h 8 rfl (fun q104 g104 h => ?_) (fun J105 h hJ105 => ?_))
    ·refine rnf (zdg (ι := GPar) (γ := Tok × Tok) (fun q107 g107 => []) (fun q107 g107 => [boxE b3 ((q107.l, q107.at_, (q107.m.name, q107.m.tagging, (TList.mk g107.1 q107.m.names), (TList.mk g107.2 q107.m.types), (Vh.mk g39.2.2 q107.m.nodes.length)), q107.e, q107.p) : ((List GTok) × Int × (Str × Int × (TList Str) × (TList Int) × Vh) × Int × Int)), tokE g107.1, tokE g107.2, vecE g39.2.2 (q107.m.nodes : List GNode)]) k4 h (fun q107 g107 h => ?_) (fun J108 h hJ108 => ?_))
     ·refine wsr (oM rfl (zb h fun y112 hy112 h => oT (zL (zZ hy112) hT (s2 rfl rfl) k4 (fun R H' hR => ?_))))
      obtain ⟨t113, t114, rfl, rfl⟩ := hR
      refine rnf (wsr (oM rfl (zb h fun y115 hy115 h => oT (zL (zhx fuel hy115) hT (s2 rfl rfl) k4 (fun R H' hR => ?_)))))
      obtain ⟨t116, t117, v118, rfl, rfl⟩ := hR
      refine oA rfl (rnf (wsr (oM rfl (oM rfl (oV (zp rfl) (oV (z8 rfl zch zdF) (oV (z8 rfl zir zdC) (oT (zI (R := appv t116 (y115.2.m.names)) ty27 rfl .here isvT1 ?_)))))))))
      refine oM rfl (oT (zS (l := ([y101.1] : (List Str))) el27 (.cons rfl hI .nil) rfl rfl (zad h fun q121 h => oT (zbA (l := y115.2.m.names) (m := ([y101.1] : (List Str))) zjv rfl hI rfl zJ tH q121 fun t120 => oV (zp rfl) (oV (z8 rfl zch zdF) (oV (z8 rfl zir zdC) (oT (zi (y' := ((y115.2.l, y115.2.at_, (y115.2.m.name, y115.2.m.tagging, (TList.mk t120 (y115.2.m.names ++ ([y101.1] : (List Str)))), (TList.mk t117 y115.2.m.types), (Vh.mk v118 y115.2.m.nodes.length)), y115.2.e, y115.2.p) : ((List GTok) × Int × (Str × Int × (TList Str) × (TList Int) × Vh) × Int × Int))) ty27 rfl rfl isvT2 tH rfl (rnf ?_)))))))))
      refine zj (oM rfl (oM rfl (oV (zp rfl) (oV (z8 rfl zch zdF) (oV (z8 rfl zkO ziB) (oT (zI (R := appv t117 (y115.2.m.types)) ty22 rfl .here isvT1 (oM rfl (oT (zS (l := ([y115.1] : (List Int))) el22 (.cons rfl hI .nil) rfl rfl ?_))))))))))
      exact zad h fun q124 h => oT (zbA (l := y115.2.m.types) (m := ([y115.1] : (List Int))) zdb rfl hI rfl zJ tI q124 fun t123 => oV (zp rfl) (oV (z8 rfl zch zdF) (oV (z8 rfl zkO ziB) (oT (zi (y' := ((y115.2.l, y115.2.at_, (y115.2.m.name, y115.2.m.tagging, (TList.mk t120 (y115.2.m.names ++ ([y101.1] : (List Str)))), (TList.mk t123 (y115.2.m.types ++ ([y115.1] : (List Int)))), (Vh.mk v118 y115.2.m.nodes.length)), y115.2.e, y115.2.p) : ((List GTok) × Int × (Str × Int × (TList Str) × (TList Int) × Vh) × Int × Int))) ty22 rfl rfl isvT2 tH rfl (zx (zk (hL40 _ (t120, t123, v118) h _ (ze 50 rfl rfl zd (.cons .here (.cons tH k3)))))))))))
     refine zf h rfl (fun _ h => ?_) (fun _ h => ?_)
     ·refine zj (oM rfl (oV (zg ty80 rfl) (zb h fun y109 hy109 h => oT (zL (za5 hy109) hT (s3 rfl rfl rfl) k4 (fun R H' hR => ?_)))))
      obtain ⟨t110, t111, rfl, rfl⟩ := hR
      exact zx (hJ108 _ (t110, t111) h _ (ze 3 rfl rfl zd (.cons .here k4)))
     exact zW (hJ108 _ (t102, t103) h _ (ze 0 rfl rfl zd (.cons .here k4)))
    refine zC (j := 80) h rfl (fun g106 h => ?_) (fun g106 h => ?_)
    ·exact oK 80 rfl rfl rfl g106 (zq rfl) (oK 80 rfl rfl rfl g106 (zp rfl) (oK 80 rfl rfl rfl g106 (z8 rfl zch zdF) (oK 80 rfl rfl rfl g106 (z8 rfl zir zdC) (zaA rfl rfl (dj := 80) rfl g106 (zI (R := appv t102 (y101.2.m.names)) ty27 rfl .here isvT1 (oK 80 rfl rfl rfl g106 (za6 (l := y101.2.m.names) rfl zJ sl27) (oK 80 rfl rfl rfl g106 (zeN rfl rfl) (oV (zr rfl g106 rfl) (hJ105 _ () h _ (ze 8 rfl rfl (za (j := 88) rfl hI zd) (.cons .here k4)))))))))))
    exact oP 80 rfl rfl g106 (oP 80 rfl rfl g106 (oP 80 rfl rfl g106 (oP 80 rfl rfl g106 (oP 80 rfl rfl g106 (oP 80 rfl rfl g106 (oP 80 rfl rfl g106 (oV (zs rfl g106 rfl) (hJ105 _ () h _ (ze 8 rfl rfl (za (j := 88) rfl hI zd) (.cons .here k4))))))))))
   refine zah (zX (eL40 _ _ (zK (zA (zn (wsr (oM rfl (oV (zp rfl) ?_))))))))
   refine oV (z8 rfl zbJ zcM) (oT (zI (R := isv (q91.2.e)) ty31 rfl .here hI (oV (zam rfl rfl) (oM rfl (zaz (ι := Bool × GPar) (γ := Tok × Tok) (fun q125 g125 => [(130, isv (q125.1))]) (fun q125 g125 => [boxE b3 ((q125.2.l, q125.2.at_, (q125.2.m.name, q125.2.m.tagging, (TList.mk g125.1 q125.2.m.names), (TList.mk g125.2 q125.2.m.types), (Vh.mk g39.2.2 q125.2.m.nodes.length)), q125.2.e, q125.2.p) : ((List GTok) × Int × (Str × Int × (TList Str) × (TList Int) × Vh) × Int × Int)), tokE g125.1, tokE g125.2, vecE g39.2.2 (q125.2.m.nodes : List GNode)]) k4 h 5 rfl (fun q125 g125 h => ?_) (fun J126 h hJ126 => ?_))))))
   ·refine rnf (zdg (ι := GPar) (γ := Tok × Tok) (fun q131 g131 => []) (fun q131 g131 => [boxE b3 ((q131.l, q131.at_, (q131.m.name, q131.m.tagging, (TList.mk g131.1 q131.m.names), (TList.mk g131.2 q131.m.types), (Vh.mk g39.2.2 q131.m.nodes.length)), q131.e, q131.p) : ((List GTok) × Int × (Str × Int × (TList Str) × (TList Int) × Vh) × Int × Int)), tokE g131.1, tokE g131.2, vecE g39.2.2 (q131.m.nodes : List GNode)]) k4 h (fun q131 g131 h => ?_) (fun J132 h hJ132 => ?_))
    ·refine zn (wsr (oM rfl (oV (zp rfl) (oV (z8 rfl zbJ zcM) (oT (zI (R := isv (q131.e)) ty31 rfl .here hI (oV (zcq rfl rfl) (rnf (zf h rfl (fun _ h => ?_) (fun _ h => ?_))))))))))
     ·refine zn (zcR 8 .here rfl (fun o139 hn140 => zU (.v 0 (.v 1 (.v 2 (.v 3 (.v 4 (.v 5 (.v 6 (.v 7 (.v 8 (.t 9 (.v 10 (.v 11 .nil)))))))))))) moOrd (by kernel_rfl) ?_))
      refine zt rfl (zax (z := (GMod.mk (Str.mk []) (0 : Int) ([] : (List Str)) ([] : (List Int)) ([] : (List GNode)))) rfl bu30 ze30 .nil) (rvm rfl rfl (zt rfl (zbs rfl) (zt rfl (zfe rfl zkX zny) (zt rfl (zc1 (R := isv (q131.p)) ty3 rfl (List.Mem.head _) hI) (rvm rfl rfl (zt rfl (zbs rfl) (zt rfl (zfe rfl zbJ zcM) (zt rfl (zc1 (R := isv (q131.e)) ty31 rfl (List.Mem.head _) hI) ?_))))))))
      refine zT rfl rfl (zi (y' := ((GMod.mk (Str.mk []) (0 : Int) ([] : (List Str)) ([] : (List Int)) ([] : (List GNode))) : GMod)) ty30 rfl rfl hI (.there tI) rfl (zt rfl (za8 rfl) (zt rfl (za8 rfl) (zae (zaU 8 hn140 rfl (zA (zN (zB ?_))))))))
      cases h
      exact zo (.cell rfl tH ty30 (.tmp rfl (.tmp rfl .nil))) .nil ⟨rfl, rfl⟩
     refine wkf (wsr (oM rfl (oV (zp rfl) (oV (z8 rfl zch zdF) (zai (zni (y := ((q131.l, q131.at_, (q131.m.name, q131.m.tagging, (TList.mk g131.1 q131.m.names), (TList.mk g131.2 q131.m.types), q131.m.nodes), q131.e, q131.p) : ((List GTok) × Int × (Str × Int × (TList Str) × (TList Int) × (List GNode)) × Int × Int))) (.there tI) .here (fun S hv => (Cv.pair Cv.id (Cv.pair Cv.id (Cv.pair (Cv.pair Cv.id (Cv.pair Cv.id (Cv.pair Cv.id (Cv.pair Cv.id (Cv.vh hv (by first | rfl | simp)))))) (Cv.pair Cv.id Cv.id)))))) ?_)))))
     refine zai (zaC (R' := ptrv b3 ((Fld.id (((List GTok) × Int × (Str × Int × (TList Str) × (TList Int) × (List GNode)) × Int × Int))).comp zon)) 151 rfl hI) (oT (zI (y := ((q131.l, q131.at_, (q131.m.name, q131.m.tagging, (TList.mk g131.1 q131.m.names), (TList.mk g131.2 q131.m.types), q131.m.nodes), q131.e, q131.p) : ((List GTok) × Int × (Str × Int × (TList Str) × (TList Int) × (List GNode)) × Int × Int))) (R := isv (((q131.m.name, q131.m.tagging, (TList.mk g131.1 q131.m.names), (TList.mk g131.2 q131.m.types), q131.m.nodes)) : ((Str × Int × (TList Str) × (TList Int) × (List GNode))))) ty30 rfl .here (by exact hI) ?_))
     refine zai (zaC (R' := isv (q131.m)) 152 rfl (Cv.isv rfl fun S => (fun cs h => GMod.cv (x := q131.m) cs (((Cv.pair Cv.id (Cv.pair Cv.id (Cv.pair Cv.tl (Cv.pair Cv.tl Cv.id)))) : Cv S ((q131.m.name, q131.m.tagging, (TList.mk g131.1 q131.m.names), (TList.mk g131.2 q131.m.types), q131.m.nodes) : (Str × Int × (TList Str) × (TList Int) × (List GNode))) (GMod.to q131.m)) cs h)))) (oT (zi (y' := (q131.m : GMod)) ty30 rfl rfl hI (.there tI) rfl (oA rfl (oA rfl (rnf (zN ?_))))))
     cases h
     exact zo (.cell rfl .here ty30 (.tmp rfl (.tmp rfl .nil))) .nil ⟨rfl, rfl⟩
    refine zf h rfl (fun _ h => ?_) (fun _ h => ?_)
    ·refine zj (oM rfl (oM rfl (zb h fun y133 hy133 h => oT (zL (zaO hy133) hT (s1 rfl) k4 (fun R H' hR => ?_)))))
     obtain ⟨t134, t135, rfl, rfl⟩ := hR
     refine zb h fun y136 hy136 h => oT (zL (za5 hy136) hT (s3 rfl rfl rfl) k4 (fun R H' hR => ?_))
     obtain ⟨t137, t138, rfl, rfl⟩ := hR
     exact zx (hJ132 _ (t137, t138) h _ (ze 4 rfl rfl zd (.cons .here k4)))
    exact zW (hJ132 _ (g125.1, g125.2) h _ (ze 0 rfl rfl zd (.cons .here k4)))
   refine zC (j := 125) h rfl (fun g127 h => ?_) (fun g127 h => ?_)
   ·refine oK 125 rfl rfl rfl g127 (zq rfl) (zb h fun y128 hy128 h => zaA rfl rfl (dj := 125) rfl g127 (zL (zaO hy128) hT (s1 rfl) k4 (fun R H' hR => ?_)))
    obtain ⟨t129, t130, rfl, rfl⟩ := hR
    exact oK 125 rfl rfl rfl g127 (zgh GTok.f0 rfl zcF rfl) (oK 125 rfl rfl rfl g127 (zcq rfl rfl) (oV (zr rfl g127 rfl) (hJ126 _ (t129, t130) h _ (ze 5 rfl rfl (za (j := 130) rfl hI zd) (.cons .here k4)))))
   exact oP 125 rfl rfl g127 (oP 125 rfl rfl g127 (oP 125 rfl rfl g127 (oP 125 rfl rfl g127 (oV (zs rfl g127 rfl) (hJ126 _ (g91.1, g91.2) h _ (ze 5 rfl rfl (za (j := 130) rfl hI zd) (.cons .here k4)))))))
  refine zC (j := 66) h rfl (fun g93 h => ?_) (fun g93 h => ?_)
  ·refine oK 66 rfl rfl rfl g93 (zq rfl) (zb h fun y94 hy94 h => zaA rfl rfl (dj := 66) rfl g93 (zL (zM hy94) hT (s2 rfl rfl) k4 (fun R H' hR => ?_)))
   obtain ⟨t95, t96, rfl, rfl⟩ := hR
   exact oK 66 rfl rfl rfl g93 (zbL rfl) (oV (zr rfl g93 rfl) (hJ92 _ (t95, t96) h _ (ze 4 rfl rfl (za (j := 70) rfl hI zd) (.cons .here k4))))
  exact oP 66 rfl rfl g93 (oP 66 rfl rfl g93 (oP 66 rfl rfl g93 (oV (zs rfl g93 rfl) (hJ92 _ (g39.1, g39.2.1) h _ (ze 4 rfl rfl (za (j := 70) rfl hI zd) (.cons .here k4))))))
 refine zu (wsr (oM rfl (zb h fun y15 hy15 h => oT (zL (zM hy15) hT (s2 rfl rfl) k4 (fun R H' hR => ?_)))))
 obtain ⟨t16, t17, rfl, rfl⟩ := hR
 refine oA rfl (rnf (zf h rfl (fun _ h => ?_) (fun _ h => ?_)))
 ·refine zj (oM rfl (zb h fun y18 hy18 h => oT (zL (zZ hy18) hT (s2 rfl rfl) k4 (fun R H' hR => ?_))))
  obtain ⟨t19, t20, rfl, rfl⟩ := hR
  exact zx (zk (hJ14 _ (t19, t20) h _ (ze 5 rfl rfl zd (.cons .here k4))))
 refine wsr (oM rfl (zb h fun y21 hy21 h => oT (zL (zM hy21) hT (s2 rfl rfl) k4 (fun R H' hR => ?_))))
 obtain ⟨t22, t23, rfl, rfl⟩ := hR
 refine oA rfl (rnf (zf h rfl (fun _ h => ?_) (fun _ h => ?_)))
 ·refine wsr (oM rfl (oV (zp rfl) (oV (z8 rfl zch zdF) (oV (z8 rfl zki zjt) (oT (zi (y' := ((y21.2.l, y21.2.at_, (y21.2.m.name, (1 : Int), (TList.mk t22 y21.2.m.names), (TList.mk t23 y21.2.m.types), (Vh.mk none y21.2.m.nodes.length)), y21.2.e, y21.2.p) : ((List GTok) × Int × (Str × Int × (TList Str) × (TList Int) × Vh) × Int × Int))) ty3 rfl rfl hI .here rfl (rnf (zj (oM rfl ?_)))))))))
  refine zb h fun y24 hy24 h => oT (zL (zZ hy24) hT (s2 rfl rfl) k4 (fun R H' hR => ?_))
  obtain ⟨t25, t26, rfl, rfl⟩ := hR
  exact zx (zk (hJ14 _ (t25, t26) h _ (ze 12 rfl rfl zd (.cons .here k4))))
 refine wsr (oM rfl (zb h fun y27 hy27 h => oT (zL (zM hy27) hT (s2 rfl rfl) k4 (fun R H' hR => ?_))))
 obtain ⟨t28, t29, rfl, rfl⟩ := hR
 refine oA rfl (rnf (zf h rfl (fun _ h => ?_) (fun _ h => ?_)))
 ·refine wsr (oM rfl (oV (zp rfl) (oV (z8 rfl zch zdF) (oV (z8 rfl zki zjt) (oT (zi (y' := ((y27.2.l, y27.2.at_, (y27.2.m.name, (2 : Int), (TList.mk t28 y27.2.m.names), (TList.mk t29 y27.2.m.types), (Vh.mk none y27.2.m.nodes.length)), y27.2.e, y27.2.p) : ((List GTok) × Int × (Str × Int × (TList Str) × (TList Int) × Vh) × Int × Int))) ty3 rfl rfl hI .here rfl (rnf (zj (oM rfl ?_)))))))))
  refine zb h fun y30 hy30 h => oT (zL (zZ hy30) hT (s2 rfl rfl) k4 (fun R H' hR => ?_))
  obtain ⟨t31, t32, rfl, rfl⟩ := hR
  exact zx (zk (hJ14 _ (t31, t32) h _ (ze 15 rfl rfl zd (.cons .here k4))))
 exact zW (zk (hJ14 _ (t28, t29) h _ (ze 9 rfl rfl zd (.cons .here k4))))

end Go.Proofs.Q


namespace Go.Proofs.Q
open Go.Sy
set_option maxRecDepth 4000
theorem zfy : ∀ {a_m : GMod} {ziR : Str} {r : Int}, zfi a_m ziR = some r → Ctr Tryd.prog 89 [isv (a_m), isv (ziR)] [] (fun R H => R = oneOf [isv (r)] ∧ H = []) := by
 intro a_m ziR r h
 unfold zfi at h
 refine zw Tryd.func89 rfl fun w0 S0 hT => wsr (oT (zbI (y := a_m) rfl hI (oA rfl (rnf (zn (wsr (oA rfl (rnf ?_))))))))
 refine zu (zbg (ι := Int) (γ := Unit) (fun q1 g1 => [(5, isv (q1))]) (fun q1 g1 => []) h () (za (j := 5) rfl hI zd) .nil (fun L2 q1 g1 Q7 h hL2 eL2 rL2 => zn (wsr (oM rfl (oV (zac rfl GMod.f2 zdC rfl (z := a_m.names)) (oV (zg ty27 rfl) (oV (za6 (l := a_m.names) rfl hI sl27) (oV (zal rfl rfl) ?_))))))))
 refine rnf (zf h rfl (fun _ h => ?_) (fun _ h => ?_))
 ·refine wkf (zn (zu (wsr (oV (zac rfl GMod.f2 zdC rfl (z := a_m.names)) (oV (zg ty27 rfl) (oM rfl (zb h fun y5 hy5 h => oV (zaK (l := a_m.names) rfl hI rfl sl27 hy5) ?_)))))))
  refine oV (zg ty9 rfl) (oM rfl (oV (zcx eq9 rfl rfl) (rnf (zf h rfl (fun _ h => ?_) (fun _ h => ?_)))))
  ·refine wsr (oM rfl (oA rfl (rnf (zN (zD (zB (rL2 _ (zD ?_))))))))
   refine zB ?_
   cases h
   exact zo (.tmp rfl .nil) .nil ⟨rfl, rfl⟩
  refine zW (zk (zA (zj (oM rfl (zE h fun q6 h => oV (zaf rfl rfl q6) (oA rfl (zx ?_)))))))
  exact hL2 _ () h _ (ji 16 5 rfl rfl rfl)
 refine zah (zX (eL2 _ _ (zK (zA (wsr (oA rfl (rnf (zN ?_))))))))
 cases h
 exact zo (.tmp rfl .nil) .nil ⟨rfl, rfl⟩


theorem zez : ∀ {a_l : (List Int)} {a_x : Int} {r : Bool}, zc4 a_l a_x = some r → Ctr Tryd.prog 12 [isv (a_l), isv (a_x)] [] (fun R H => R = oneOf [isv (r)] ∧ H = []) := by
 intro a_l a_x r h
 unfold zc4 at h
 refine zw Tryd.func12 rfl fun w0 S0 hT => wsr (oA rfl (rnf (zn (wsr (oA rfl (rnf (zu ?_)))))))
 refine zbg (ι := Int) (γ := Unit) (fun q1 g1 => [(5, isv (q1))]) (fun q1 g1 => []) h () (za (j := 5) rfl hI zd) .nil (fun L2 q1 g1 Q7 h hL2 eL2 rL2 => zn (wsr (oM rfl (oM rfl (oV (za6 (l := a_l) rfl hI sl22) (oV (zal rfl rfl) (rnf (zf h rfl (fun _ h => ?_) (fun _ h => ?_)))))))))
 ·refine wkf (zn (zu (wsr (oM rfl (oM rfl (zb h fun y5 hy5 h => oV (zaK (l := a_l) rfl hI rfl sl22 hy5) (oV (zg ty3 rfl) ?_)))))))
  refine oM rfl (oV (zam rfl rfl) (rnf (zf h rfl (fun _ h => ?_) (fun _ h => ?_))))
  ·refine wsr (oA rfl (rnf (zN (zD (zB (rL2 _ (zD (zB ?_))))))))
   cases h
   exact zo (.tmp rfl .nil) .nil ⟨rfl, rfl⟩
  refine zW (zk (zA (zj (oM rfl (zE h fun q6 h => oV (zaf rfl rfl q6) (oA rfl (zx ?_)))))))
  exact hL2 _ () h _ (ji 14 5 rfl rfl rfl)
 refine zah (zX (eL2 _ _ (zK (zA (wsr (oA rfl (rnf (zN ?_))))))))
 cases h
 exact zo (.tmp rfl .nil) .nil ⟨rfl, rfl⟩


def zgA (f' : GMod → Int → Int → (List Int) → Option ((List Int) × Bool)) : Prop :=
 ∀ {a_m : GMod} {zeW : Int} {zQ : Int} {a_l : (List Int)} {t_a_l : Tok} {r : (List Int) × Bool}, f' a_m zeW zQ a_l = some r → Ctr Tryd.prog 87 [isv (a_m), isv (zeW), isv (zQ), appv t_a_l (a_l)] [tokE t_a_l] (fun R H => ∃ u1 : Tok, R = oneOf [appv u1 (r.1), isv (r.2)] ∧ H = [tokE u1])
theorem zkp {ze9 : GMod → Int → Int → (List Int) → Option ((List Int) × Bool)} (zio : zgA ze9) : ∀ {a_m : GMod} {zeW : Int} {zQ : Int} {a_l : (List Int)} {t_a_l : Tok} {r : (List Int) × Bool}, zde ze9 a_m zeW zQ a_l = some r → Ctr Tryd.prog 87 [isv (a_m), isv (zeW), isv (zQ), appv t_a_l (a_l)] [tokE t_a_l] (fun R H => ∃ u1 : Tok, R = oneOf [appv u1 (r.1), isv (r.2)] ∧ H = [tokE u1]) := by
 intro a_m zeW zQ a_l t_a_l r h
 unfold zde at h
 refine zw Tryd.func87 rfl fun w0 S0 hT => wsr (oT (zbI (y := a_m) rfl hI (oA rfl (oA rfl (rnf (zn (wsr (oM rfl ?_))))))))
 refine oV (zal rfl rfl) (oM rfl (zaz (jb 24) je .nil h 6 rfl (fun q1 g1 h => ?_) (fun J2 h hJ2 => ?_)))
 ·refine oM rfl (zaz (jb 28) je .nil h 3 rfl (fun q4 g4 h => ?_) (fun J5 h hJ5 => ?_))
  ·refine rnf (zf h rfl (fun _ h => ?_) (fun _ h => ?_))
   ·refine wsr (oM rfl (oA rfl (oA rfl (rnf (zN (zB (zo (.tmp rfl (.tmp rfl .nil)) k1 ?_)))))))
    cases h
    exact ⟨t_a_l, rfl, rfl⟩
   refine wkf (wsr (oV (zac rfl GMod.f4 zfv rfl (z := a_m.nodes)) (oV (zg ty28 rfl) (oM rfl (zb h fun y7 hy7 h => oV (zaK (l := a_m.nodes) rfl hI rfl sl28 hy7) (oV (zg ty108 rfl) (oT (zab _ ze108 fun b8 => ?_))))))))
   refine oT (zi (y' := (y7 : GNode)) ty108 rfl rfl hI .here rfl (zai (zas 10 .here rfl) (rnf (zn (wsr (oV (zac rfl GNode.f0 zbH rfl (z := y7.kind)) (oV (zg ty3 rfl) (oV (zam rfl rfl) (rnf ?_)))))))))
   refine zf h rfl (fun _ h => ?_) (fun _ h => ?_)
   ·refine wsr (oV (zg ty30 rfl) (oV (zac rfl GNode.f1 zj7 rfl (z := y7.name)) (oV (zg ty9 rfl) (zb h fun y9 hy9 h => oT (zy (zfy hy9) hT (s2 rfl rfl) .nil (oA rfl (rnf (zn ?_))))))))
    refine wsr (oM rfl (oV (zal rfl rfl) (rnf (zf h rfl (fun _ h => ?_) (fun _ h => ?_)))))
    ·refine wsr (oM rfl (oA rfl (oA rfl (rnf (zN (zB (zB (zo (.tmp rfl (.tmp rfl .nil)) k1 ?_))))))))
     cases h
     exact ⟨t_a_l, rfl, rfl⟩
    refine wkf (zn (wsr (oM rfl (oM rfl (zb h fun y10 hy10 h => oT (zy (zez hy10) hT (.cons rfl zJ (s1 rfl)) .nil (oV (zbL rfl) (rnf ?_))))))))
    refine zdg (ι := (List Int)) (γ := Tok) (fun q11 g11 => [(3, appv g11 (q11))]) (fun q11 g11 => [tokE g11]) k1 h (fun q11 g11 h => ?_) (fun J12 h hJ12 => ?_)
    ·refine wsr (oM rfl (oA rfl (oA rfl (rnf (zN (zB (zo (.tmp rfl (.tmp rfl .nil)) k1 ?_)))))))
     cases h
     exact ⟨g11, rfl, rfl⟩
    refine zf h rfl (fun _ h => ?_) (fun _ h => ?_)
    ·exact zj (oM rfl (oM rfl (oT (zS (l := ([y9] : (List Int))) el22 (.cons rfl hI .nil) rfl rfl (zad h fun q15 h => oT (zbA (l := a_l) (m := ([y9] : (List Int))) zdb rfl hI rfl zJ .here q15 fun t14 => oA rfl (zx (hJ12 _ (t14) h _ (jk 5 3 rfl rfl rfl)))))))))
    exact zW (hJ12 _ (t_a_l) h _ (jk 0 3 rfl rfl rfl))
   refine wkf (wsr (oA rfl (rnf (zn (wsr (oA rfl (rnf (zu ?_))))))))
   refine zbg (ι := (List Int) × Bool × Int) (γ := Tok) (fun q16 g16 => [(3, appv g16 (q16.1)), (12, isv (q16.2.1)), (13, isv (q16.2.2))]) (fun q16 g16 => [tokE g16]) h (t_a_l) (za (j := 3) rfl hI (za (j := 12) rfl hI (za (j := 13) rfl hI zd))) k1 (fun L17 q16 g16 Q44 h hL17 eL17 rL17 => zn (wsr (oM rfl (oV (zac rfl GNode.f5 zcT rfl (z := y7.fields)) (oV (zg ty52 rfl) (oV (za6 (l := y7.fields) rfl hI sl52) (oV (zal rfl rfl) (rnf ?_))))))))
   refine zf h rfl (fun _ h => ?_) (fun _ h => ?_)
   ·refine wkf (zn (zu (wsr (oA rfl (rnf (zn (zU (.v 0 (.v 1 (.v 2 (.v 3 (.v 4 (.v 5 (.v 6 (.v 7 (.v 8 (.v 9 (.t 10 (.v 11 (.v 12 (.v 13 (.v 14 (.v 15 .nil)))))))))))))))) moOrd (by kernel_rfl) ?_)))))))
    refine zt rfl (zg ty30 rfl) (zt rfl (zac rfl GNode.f5 zcT rfl (z := y7.fields)) (zt rfl (zg ty52 rfl) (rvm rfl rfl (zb h fun y28 hy28 h => zt rfl (zaK (l := y7.fields) rfl hI rfl sl52 hy28) (zt rfl (zac rfl GFld.f1 zdn rfl (z := y28.ty)) (zt rfl (zg ty3 rfl) (rvm rfl rfl ?_)))))))
    refine zE h fun q29 h => zt rfl (zaf rfl rfl q29) (rvm rfl rfl (zb h fun y30 hy30 h => zT rfl rfl (zL (zio hy30) hT (s4 rfl rfl rfl rfl) k1 (fun R H' hR => ?_))))
    obtain ⟨t31, rfl, rfl⟩ := hR
    refine rvm rfl rfl (zt rfl (zau rfl rfl) (zt rfl (zau rfl rfl) (zt rfl (za8 rfl) (zt rfl (za8 rfl) (zae (zA (zj (oM rfl ?_))))))))
    refine oM rfl (zaz (jb 78) je .nil h 2 rfl (fun q32 g32 h => ?_) (fun J33 h hJ33 => ?_))
    ·refine oA rfl (zx (zk (zA (zj (oM rfl (zE h fun q35 h => oV (zaf rfl rfl q35) (oA rfl ?_)))))))
     exact zx (hL17 _ (t31) h _ (ze 32 rfl rfl (za (j := 3) rfl hI (za (j := 12) rfl hI (za (j := 13) rfl hI zd))) k1))
    refine zC (j := 76) h rfl (fun g34 h => ?_) (fun g34 h => ?_)
    ·exact oP 76 rfl rfl g34 (oV (zr rfl g34 rfl) (hJ33 _ () h _ (jk 2 78 rfl rfl rfl)))
    exact oK 76 rfl rfl rfl g34 (zq rfl) (oV (zs rfl g34 rfl) (hJ33 _ () h _ (jk 2 78 rfl rfl rfl)))
   refine zah (zX (eL17 _ _ (zK (zA (zn (wsr (oV (zac rfl GNode.f0 zbH rfl (z := y7.kind)) (oV (zg ty3 rfl) ?_))))))))
   refine oV (zam rfl rfl) (rnf (zdg (ι := (List Int) × Bool) (γ := Tok) (fun q36 g36 => [(3, appv g36 (q36.1)), (12, isv (q36.2))]) (fun q36 g36 => [tokE g36]) k1 h (fun q36 g36 h => ?_) (fun J37 h hJ37 => ?_)))
   ·refine wsr (oM rfl (oM rfl (oA rfl (oA rfl (rnf (zN (zo (.tmp rfl (.tmp rfl .nil)) k1 ?_)))))))
    cases h
    exact ⟨g36, rfl, rfl⟩
   refine zf h rfl (fun _ h => ?_) (fun _ h => ?_)
   ·refine wsr (oA rfl (rnf (wsr (oV (zg ty30 rfl) (oV (zac rfl GNode.f8 zjo rfl (z := y7.of)) (oV (zg ty3 rfl) (oM rfl (zE h fun q38 h => ?_))))))))
    refine oV (zaf rfl rfl q38) (oM rfl (zb h fun y39 hy39 h => oT (zL (zio hy39) hT (s4 rfl rfl rfl rfl) k1 (fun R H' hR => ?_))))
    obtain ⟨t40, rfl, rfl⟩ := hR
    refine oM rfl (oV (zau rfl rfl) (oV (zau rfl rfl) (oA rfl (oA rfl (rnf (zj (oM rfl (oM rfl ?_))))))))
    refine zaz (jb 95) je .nil h 2 rfl (fun q41 g41 h => ?_) (fun J42 h hJ42 => ?_)
    ·exact oA rfl (zx (hJ37 _ (t40) h _ (ze 17 rfl rfl (za (j := 3) rfl hI (za (j := 12) rfl hI zd)) k1)))
    refine zC (j := 93) h rfl (fun g43 h => ?_) (fun g43 h => ?_)
    ·exact oP 93 rfl rfl g43 (oV (zr rfl g43 rfl) (hJ42 _ () h _ (jk 2 95 rfl rfl rfl)))
    exact oK 93 rfl rfl rfl g43 (zq rfl) (oV (zs rfl g43 rfl) (hJ42 _ () h _ (jk 2 95 rfl rfl rfl)))
   exact zW (hJ37 _ (g16) h _ (ze 0 rfl rfl (za (j := 3) rfl hI (za (j := 12) rfl hI zd)) k1))
  refine zC (j := 25) h rfl (fun g6 h => ?_) (fun g6 h => ?_)
  ·exact oP 25 rfl rfl g6 (oP 25 rfl rfl g6 (oV (zr rfl g6 rfl) (hJ5 _ () h _ (jk 3 28 rfl rfl rfl))))
  exact oK 25 rfl rfl rfl g6 (zq rfl) (oK 25 rfl rfl rfl g6 (zbY rfl rfl) (oV (zs rfl g6 rfl) (hJ5 _ () h _ (jk 3 28 rfl rfl rfl))))
 refine zC (j := 18) h rfl (fun g3 h => ?_) (fun g3 h => ?_)
 ·exact oP 18 rfl rfl g3 (oP 18 rfl rfl g3 (oP 18 rfl rfl g3 (oP 18 rfl rfl g3 (oP 18 rfl rfl g3 (oV (zr rfl g3 rfl) (hJ2 _ () h _ (jk 6 24 rfl rfl rfl)))))))
 exact oK 18 rfl rfl rfl g3 (zq rfl) (oK 18 rfl rfl rfl g3 (zac rfl GMod.f4 zfv rfl (z := a_m.nodes)) (oK 18 rfl rfl rfl g3 (zg ty28 rfl) (oK 18 rfl rfl rfl g3 (za6 (l := a_m.nodes) rfl hI sl28) (oK 18 rfl rfl rfl g3 (zeN rfl rfl) (oV (zs rfl g3 rfl) (hJ2 _ () h _ (jk 6 24 rfl rfl rfl)))))))

theorem zfX : ∀ n, zgA (zeC n)
 | 0 => fun h => (by cases h)
 | n + 1 => zkp (zfX n)
theorem zlh (n : Nat) : zgA (zeC n) := (zfX n)

theorem zkW : ∀ {zeK : (List (List Int))} {zdI : Int} {a_to : Int} {r : Bool}, ze4 zeK zdI a_to = some r → Ctr Tryd.prog 88 [isv (zeK), isv (zdI), isv (a_to)] [] (fun R H => R = oneOf [isv (r)] ∧ H = []) := by
 intro zeK zdI a_to r h
 unfold ze4 at h
 refine zw Tryd.func88 rfl fun w0 S0 hT => wsr (oA rfl (rnf (wsr (oT (zS (l := ([] : (List Int))) el22 .nil rfl rfl (oA rfl (rnf (wsr ?_))))))))
 refine oM rfl (oM rfl (zb h fun y2 hy2 h => oV (zaK (l := zeK) rfl hI rfl sl45 hy2) (oV (zg ty22 rfl) (zad h fun q4 h => oT (zlt (m := y2) zdb rfl rfl hI q4 fun t3 => oA rfl (rnf ?_))))))
 refine zn (zu (zfF (zbf) (zbg (ι := (List Int) × (List Int)) (γ := Tok × Tok) (fun q5 g5 => [(7, appv g5.1 (q5.1)), (8, appv g5.2 (q5.2))]) (fun q5 g5 => [tokE g5.1, tokE g5.2]) h (none, t3) (za (j := 7) rfl hI (za (j := 8) rfl hI zd)) k2 (fun L6 q5 g5 Q27 h hL6 eL6 rL6 => zn (wsr (oM rfl (oV (za6 (l := q5.2) rfl zJ sl22) (oV (zbY rfl rfl) ?_))))))))
 refine rnf (zf h rfl (fun _ h => ?_) (fun _ h => ?_))
 ·refine wkf (zu (wsr (oM rfl (zb h fun y17 hy17 h => oV (zaK (l := q5.2) rfl zJ rfl sl22 hy17) (oV (zg ty3 rfl) (oA rfl (rnf ?_)))))))
  refine wsr (oM rfl (zV h fun q18 h => oT (zp1 rfl sl22 rfl q18.1 q18.2 tH fun t19 => oA rfl (rnf (zn (wsr (oM rfl ?_)))))))
  refine oM rfl (oV (zam rfl rfl) (rnf (zf h rfl (fun _ h => ?_) (fun _ h => ?_))))
  ·refine wsr (oA rfl (rnf (zN (zB (zD (rL6 _ (zD (zB ?_))))))))
   cases h
   exact zo (.tmp rfl .nil) .nil ⟨rfl, rfl⟩
  refine wkf (wsr (oM rfl (oM rfl (zb h fun y20 hy20 h => oT (zy (zez hy20) hT (.cons rfl zJ (s1 rfl)) .nil (oV (zbL rfl) (rnf (zf h rfl (fun _ h => ?_) (fun _ h => ?_)))))))))
  ·refine wsr (oM rfl (oM rfl (oT (zS (l := ([y17] : (List Int))) el22 (.cons rfl hI .nil) rfl rfl (zad h fun q23 h => oT (zbA (l := q5.1) (m := ([y17] : (List Int))) zdb rfl hI rfl zJ tH q23 fun t22 => oA rfl (rnf (zj ?_))))))))
   refine oM rfl (oM rfl (oM rfl (zb h fun y24 hy24 h => oV (zaK (l := zeK) rfl hI rfl sl45 hy24) (oV (zg ty22 rfl) (zad h fun q26 h => oT (zbA (l := (q5.2.drop ((1 : Int)).toNat)) (m := y24) zdb rfl hI rfl hI tH q26 fun t25 => oA rfl ?_))))))
   exact zx (zk (hL6 _ (t22, t25) h _ (ze 31 rfl rfl (za (j := 7) rfl hI (za (j := 8) rfl hI zd)) (.cons tH k1))))
  exact zW (zk (hL6 _ (g5.1, t19) h _ (ze 19 rfl rfl (za (j := 7) rfl hI (za (j := 8) rfl hI zd)) (.cons tH k1))))
 refine zah (zX (eL6 _ _ (zK (zA (wsr (oA rfl (rnf (zN ?_))))))))
 cases h
 exact zo (.tmp rfl .nil) .nil ⟨rfl, rfl⟩


theorem zk9 : ∀ {a_m : GMod} {r : (List Int) × Int × Int}, zel a_m = some r → Ctr Tryd.prog 59 [isv (a_m)] [] (fun R H => R = oneOf [isv (r.1), isv (r.2.1), isv (r.2.2)] ∧ H = []) := by
 intro a_m r h
 unfold zel at h
 refine zw Tryd.func59 rfl fun w0 S0 hT => wsr (oT (zbI (y := a_m) rfl hI (oA rfl (oA rfl (oA rfl (rnf (wsr (oA rfl ?_))))))))
 refine rnf (wsr (oA rfl (rnf (zn (wsr (oA rfl (rnf (zu ?_))))))))
 refine zbg (ι := Int) (γ := Unit) (fun q1 g1 => [(7, isv (q1))]) (fun q1 g1 => []) h () (za (j := 7) rfl hI zd) .nil (fun L2 q1 g1 Q1603 h hL2 eL2 rL2 => zn (wsr (oM rfl (oV (zac rfl GMod.f2 zdC rfl (z := a_m.names)) (oV (zg ty27 rfl) (oV (za6 (l := a_m.names) rfl hI sl27) (oV (zal rfl rfl) (rnf ?_))))))))
 refine zf h rfl (fun _ h => ?_) (fun _ h => ?_)
 ·refine wkf (zn (zu (zn (zU (.v 0 (.v 1 (.v 2 (.v 3 (.v 4 (.v 5 (.v 6 (.v 7 (.v 8 (.t 9 .nil)))))))))) moOrd (by kernel_rfl) ?_))))
  refine zt rfl (zac rfl GMod.f2 zdC rfl (z := a_m.names)) (zt rfl (zg ty27 rfl) (rvm rfl rfl (zV h fun q803 h => zt rfl (zfJ (l := a_m.names) rfl hI sl27 (.inl ⟨rfl, rfl⟩) (.inr ⟨_, rfl, rfl⟩) q803.1 q803.2.1 q803.2.2) (zt rfl (zac rfl GMod.f2 zdC rfl (z := a_m.names)) (zt rfl (zg ty27 rfl) (rvm rfl rfl (zb h fun y804 hy804 h => ?_)))))))
  refine zt rfl (zaK (l := a_m.names) rfl hI rfl sl27 hy804) (zt rfl (zg ty9 rfl) (zb h fun y805 hy805 h => zT rfl rfl (zy (zgv hy805) hT (s2 rfl rfl) .nil (zae (zA (zf h rfl (fun _ h => ?_) (fun _ h => ?_)))))))
  ·refine wsr (oM rfl (oA rfl (oA rfl (oA rfl (rnf (zN (zD (zB ?_))))))))
   refine rL2 _ (zD (zB ?_))
   cases h
   exact zo (.as rfl (zdB (α := Int)) (.tmp rfl (.tmp rfl .nil))) .nil ⟨rfl, rfl⟩
  refine zW (zk (zA (zj (oM rfl (zE h fun q806 h => oV (zaf rfl rfl q806) (oA rfl (zx ?_)))))))
  exact hL2 _ () h _ (ji 19 7 rfl rfl rfl)
 refine zah (zX (eL2 _ _ (zK (zA (zn (wsr (oA rfl (rnf ?_))))))))
 refine zu (zfF (zbf) (zbg (ι := (List (List Int)) × Int × Int) (γ := Tok) (fun q807 g807 => [(5, appv g807 (q807.1)), (6, isv (q807.2.1)), (8, isv (q807.2.2))]) (fun q807 g807 => [tokE g807]) h (none) (za (j := 5) rfl zbF (za (j := 6) rfl hI (za (j := 8) rfl hI zd))) k1 (fun L808 q807 g807 Q1602 h hL808 eL808 rL808 => zn (wsr (oM rfl (oV (zac rfl GMod.f2 zdC rfl (z := a_m.names)) (oV (zg ty27 rfl) (oV (za6 (l := a_m.names) rfl hI sl27) ?_))))))))
 refine oV (zal rfl rfl) (rnf (zf h rfl (fun _ h => ?_) (fun _ h => ?_)))
 ·refine wkf (zn (zdg (ι := (List (List Int)) × Int) (γ := Tok) (fun q1337 g1337 => [(5, appv g1337 (q1337.1)), (6, isv (q1337.2))]) (fun q1337 g1337 => [tokE g1337]) k1 h (fun q1337 g1337 h => ?_) (fun J1338 h hJ1338 => ?_)))
  ·exact zj (oM rfl (zE h fun q1349 h => oV (zaf rfl rfl q1349) (oA rfl (zx (hL808 _ (g1337) h _ (ze 13 rfl rfl (za (j := 5) rfl hI (za (j := 6) rfl hI (za (j := 8) rfl hI zd))) k1))))))
  refine zu (zn (zU (.v 0 (.v 1 (.v 2 (.v 3 (.v 4 (.v 5 (.t 6 (.v 7 (.v 8 (.v 9 (.v 10 (.v 11 .nil)))))))))))) moOrd (by kernel_rfl) ?_))
  refine zt rfl (zg ty30 rfl) (zt rfl (zac rfl GMod.f3 ziB rfl (z := a_m.types)) (zt rfl (zg ty22 rfl) (rvm rfl rfl (zb h fun y1339 hy1339 h => zt rfl (zaK (l := a_m.types) rfl hI rfl sl22 hy1339) (zt rfl (zg ty3 rfl) (zbi (zbf) (zb h fun y1341 hy1341 h => ?_)))))))
  refine zT rfl rfl (zL (zlh fuel hy1341) hT (.same rfl (.same rfl (.same rfl (.cons rfl zbF .nil)))) k1 (fun R H' hR => ?_))
  obtain ⟨t1342, rfl, rfl⟩ := hR
  refine rvm rfl rfl (zt rfl (zau rfl rfl) (zt rfl (zau rfl rfl) (zt rfl (za8 rfl) (zt rfl (za8 rfl) (zae (zA (wsr (oM rfl ?_))))))))
  refine oM rfl (oT (zS (l := ([y1341.1] : (List (List Int)))) el45 (.cons rfl zJ .nil) rfl rfl (zad h fun q1345 h => oT (zbA (l := q807.1) (m := ([y1341.1] : (List (List Int)))) zoH rfl hI rfl zJ tH q1345 fun t1344 => oA rfl (rnf (wsr (oM rfl (oM rfl ?_))))))))
  refine zaz (jb 59) je .nil h 3 rfl (fun q1346 g1346 h => ?_) (fun J1347 h hJ1347 => ?_)
  ·refine rnf (zf h rfl (fun _ h => ?_) (fun _ h => ?_))
   ·exact zj (oM rfl (oA rfl (zx (zk (hJ1338 _ (t1344) h _ (ze 22 rfl rfl (za (j := 5) rfl hI (za (j := 6) rfl hI zd)) k1))))))
   exact zW (zk (hJ1338 _ (t1344) h _ (ze 20 rfl rfl (za (j := 5) rfl hI (za (j := 6) rfl hI zd)) k1)))
  refine zC (j := 56) h rfl (fun g1348 h => ?_) (fun g1348 h => ?_)
  ·exact oK 56 rfl rfl rfl g1348 (zq rfl) (oK 56 rfl rfl rfl g1348 (zal rfl rfl) (oV (zr rfl g1348 rfl) (hJ1347 _ () h _ (ze 3 rfl rfl (za (j := 59) rfl hI zd) k2))))
  exact oP 56 rfl rfl g1348 (oP 56 rfl rfl g1348 (oV (zs rfl g1348 rfl) (hJ1347 _ () h _ (ze 3 rfl rfl (za (j := 59) rfl hI zd) k2))))
 refine zah (zX (eL808 _ _ (zK (zA (zn (wsr (oM rfl (oV (zeN rfl rfl) ?_))))))))
 refine rnf (zf h rfl (fun _ h => ?_) (fun _ h => ?_))
 ·refine wsr (oM rfl (oA rfl (oA rfl (oA rfl (rnf (zN (zB ?_)))))))
  cases h
  exact zo (.as rfl (zdB (α := Int)) (.tmp rfl (.tmp rfl .nil))) .nil ⟨rfl, rfl⟩
 refine wkf (zn (wsr (oA rfl (rnf (zu (zbg (ι := Int) (γ := Unit) (fun q1350 g1350 => [(11, isv (q1350))]) (fun q1350 g1350 => []) h () (za (j := 11) rfl hI zd) .nil (fun L1351 q1350 g1350 Q1600 h hL1351 eL1351 rL1351 => zn (wsr ?_))))))))
 refine oM rfl (oV (zac rfl GMod.f2 zdC rfl (z := a_m.names)) (oV (zg ty27 rfl) (oV (za6 (l := a_m.names) rfl hI sl27) (oV (zal rfl rfl) (rnf (zf h rfl (fun _ h => ?_) (fun _ h => ?_)))))))
 ·refine wkf (zn (zu (wsr (oM rfl (oM rfl (oM rfl (zb h fun y1476 hy1476 h => oT (zy (zkW hy1476) hT (.cons rfl zJ (s2 rfl rfl)) .nil ?_))))))))
  refine rnf (zf h rfl (fun _ h => ?_) (fun _ h => ?_))
  ·refine wsr (oM rfl (oA rfl (oA rfl (oA rfl (rnf (zN (zD (zB ?_))))))))
   refine rL1351 _ (zD (zB ?_))
   cases h
   exact zo (.as rfl (zdB (α := Int)) (.tmp rfl (.tmp rfl .nil))) .nil ⟨rfl, rfl⟩
  refine zW (zk (zA (zj (oM rfl (zE h fun q1477 h => oV (zaf rfl rfl q1477) (oA rfl (zx ?_)))))))
  exact hL1351 _ () h _ (jk 13 11 rfl rfl rfl)
 refine zah (zX (eL1351 _ _ (zK (zA (wsr (oA rfl (rnf (zn ?_))))))))
 refine zu (zfF (zbf) (zbg (ι := (List Int)) (γ := Tok) (fun q1478 g1478 => [(12, appv g1478 (q1478))]) (fun q1478 g1478 => [tokE g1478]) h (none) (za (j := 12) rfl zbF zd) k1 (fun L1479 q1478 g1478 Q1599 h hL1479 eL1479 rL1479 => zn (wsr (oM rfl (oV (za6 (l := q1478) rfl zJ sl22) (oV (zac rfl GMod.f2 zdC rfl (z := a_m.names)) (oV (zg ty27 rfl) ?_))))))))
 refine oV (za6 (l := a_m.names) rfl hI sl27) (oV (zal rfl rfl) (rnf (zf h rfl (fun _ h => ?_) (fun _ h => ?_))))
 ·refine wkf (zu (wsr (oA rfl (rnf (zu (zbg (ι := Int) (γ := Unit) (fun q1539 g1539 => [(13, isv (q1539))]) (fun q1539 g1539 => []) h () (za (j := 13) rfl hI zd) .nil (fun L1540 q1539 g1539 Q1597 h hL1540 eL1540 rL1540 => zn (wsr ?_))))))))
  refine oM rfl (oV (zac rfl GMod.f2 zdC rfl (z := a_m.names)) (oV (zg ty27 rfl) (oV (za6 (l := a_m.names) rfl hI sl27) (oV (zal rfl rfl) (rnf (zf h rfl (fun _ h => ?_) (fun _ h => ?_)))))))
  ·refine wkf (zn (zu (wsr (oM rfl (oM rfl (zb h fun y1569 hy1569 h => oT (zy (zez hy1569) hT (.cons rfl zJ (s1 rfl)) .nil (oV (zbL rfl) ?_))))))))
   refine oA rfl (rnf (zn (wsr (oA rfl (rnf (zu (zbg (ι := Bool × Int) (γ := Unit) (fun q1570 g1570 => [(14, isv (q1570.1)), (15, isv (q1570.2))]) (fun q1570 g1570 => []) h () (za (j := 14) rfl hI (za (j := 15) rfl hI zd)) .nil (fun L1571 q1570 g1570 Q1596 h hL1571 eL1571 rL1571 => zn ?_))))))))
   refine wsr (oM rfl (oM rfl (oM rfl (zb h fun y1584 hy1584 h => oV (zaK (l := q807.1) rfl zJ rfl sl45 hy1584) (oV (zg ty22 rfl) (oV (za6 (l := y1584) rfl hI sl22) (oV (zal rfl rfl) ?_)))))))
   refine rnf (zf h rfl (fun _ h => ?_) (fun _ h => ?_))
   ·refine wkf (zn (zu (zj (oM rfl (oM rfl (zaz (jb 113) je .nil h 10 rfl (fun q1585 g1585 h => ?_) (fun J1586 h hJ1586 => ?_)))))))
    ·refine oA rfl (zx (zk (zA (zj (oM rfl (zE h fun q1591 h => oV (zaf rfl rfl q1591) (oA rfl ?_)))))))
     exact zx (hL1571 _ () h _ (ze 16 rfl rfl (za (j := 14) rfl hI (za (j := 15) rfl hI zd)) k2))
    refine zC (j := 103) h rfl (fun g1587 h => ?_) (fun g1587 h => ?_)
    ·refine oK 103 rfl rfl rfl g1587 (zq rfl) (oK 103 rfl rfl rfl g1587 (zq rfl) (oK 103 rfl rfl rfl g1587 (zq rfl) (zb h fun y1588 hy1588 h => oK 103 rfl rfl rfl g1587 (zaK (l := q807.1) rfl zJ rfl sl45 hy1588) (oK 103 rfl rfl rfl g1587 (zg ty22 rfl) (oK 103 rfl rfl rfl g1587 (zq rfl) (zb h fun y1589 hy1589 h => oK 103 rfl rfl rfl g1587 (zaK (l := y1588) rfl hI rfl sl22 hy1589) ?_))))))
     exact oK 103 rfl rfl rfl g1587 (zg ty3 rfl) (zb h fun y1590 hy1590 h => zaA rfl rfl (dj := 103) rfl g1587 (zy (zez hy1590) hT (.cons rfl zJ (s1 rfl)) .nil (oV (zr rfl g1587 rfl) (hJ1586 _ () h _ (ze 10 rfl rfl (za (j := 113) rfl hI zd) k2)))))
    refine oP 103 rfl rfl g1587 (oP 103 rfl rfl g1587 (oP 103 rfl rfl g1587 (oP 103 rfl rfl g1587 (oP 103 rfl rfl g1587 (oP 103 rfl rfl g1587 (oP 103 rfl rfl g1587 (oP 103 rfl rfl g1587 (oP 103 rfl rfl g1587 ?_))))))))
    exact oV (zs rfl g1587 rfl) (hJ1586 _ () h _ (ze 10 rfl rfl (za (j := 113) rfl hI zd) k2))
   refine zah (zX (eL1571 _ _ (zK (zA (wsr (oM rfl (rnf (zf h rfl (fun _ h => ?_) (fun _ h => ?_)))))))))
   ·refine wsr (oM rfl (oM rfl (oT (zS (l := ([q1539] : (List Int))) el22 (.cons rfl hI .nil) rfl rfl (zad h fun q1594 h => oT (zbA (l := q1478) (m := ([q1539] : (List Int))) zdb rfl hI rfl zJ .here q1594 fun t1593 => oA rfl (rnf (zah ?_))))))))
    exact zfV rfl (zX (eL1540 _ _ (zK (zk (hL1479 _ (t1593) h _ (ze 35 rfl rfl (za (j := 12) rfl hI zd) k2))))))
   refine zW (zk (zA (zj (oM rfl (zE h fun q1595 h => oV (zaf rfl rfl q1595) (oA rfl (zx ?_)))))))
   exact hL1540 _ () h _ (ze 25 rfl rfl (za (j := 13) rfl hI zd) k2)
  exact zah (zX (eL1540 _ _ (zK (zk (hL1479 _ (g1478) h _ (ze 14 rfl rfl (za (j := 12) rfl hI zd) k2))))))
 refine zah (zX (eL1479 _ _ (zK (zA (wsr (oM rfl (oA rfl (oA rfl ?_))))))))
 refine oA rfl (rnf (zN ?_))
 cases h
 exact zo (.as rfl zJ (.tmp rfl (.tmp rfl .nil))) .nil ⟨rfl, rfl⟩

end Go.Proofs.Q


namespace Go.Proofs.Q
open Go.Sy
set_option maxRecDepth 4000
def zgE (f' : UInt64 → Option (Str)) : Prop :=
 ∀ {a_v : UInt64} {r : Str}, f' a_v = some r → Ctr Tryd.prog 8 [isv (a_v)] [] (fun R H => R = oneOf [isv (r)] ∧ H = [])
theorem zkj {zgl : UInt64 → Option (Str)} (ziM : zgE zgl) : ∀ {a_v : UInt64} {r : Str}, zdT zgl a_v = some r → Ctr Tryd.prog 8 [isv (a_v)] [] (fun R H => R = oneOf [isv (r)] ∧ H = []) := by
 intro a_v r h
 unfold zdT at h
 refine zw Tryd.func8 rfl fun w0 S0 hT => wsr (oA rfl (rnf (zn (wsr (oM rfl (oV (zoq rfl rfl) (rnf ?_)))))))
 refine zf h rfl (fun _ h => ?_) (fun _ h => ?_)
 ·refine wsr (oM rfl (oV (zhU rfl rfl) (oV (zmd Tryd.underlying26 Tryd.underlying5 rfl) (oT (zS (l := ([((48 : UInt64) + a_v).toUInt8] : (List UInt8))) el59 (.cons rfl hI .nil) rfl rfl (oV (zor (l := ([((48 : UInt64) + a_v).toUInt8] : (List UInt8))) Tryd.underlying59 Tryd.underlying5 Tryd.underlying9 rfl zJ) (oA rfl (rnf (zN ?_)))))))))
  refine zB ?_
  cases h
  exact zo (.tmp rfl .nil) .nil ⟨rfl, rfl⟩
 refine wkf (zn (zdg (ι := Str) (γ := Unit) (fun q2 g2 => [(2, isv (q2))]) (fun q2 g2 => []) .nil h (fun q2 g2 h => ?_) (fun J3 h hJ3 => ?_)))
 ·refine zN ?_
  cases h
  exact zo (.tmp rfl .nil) .nil ⟨rfl, rfl⟩
 refine zU (.v 0 (.v 1 (.v 3 (.v 4 (.v 5 (.v 6 (.alt 2 (.t 7 (.v 8 (.v 9 (.v 10 .nil)))) (.t 7 (.v 8 (.t 2 (.v 9 (.v 10 .nil)))))))))))) moOrd (by kernel_rfl) ?_
 refine rvm rfl rfl (zad h fun q4 h => zt rfl (zov rfl rfl q4) (rvm rfl rfl (zad h fun q5 h => zt rfl (zj1 rfl rfl q5) (zt rfl (zhU rfl rfl) (zt rfl (zmd Tryd.underlying26 Tryd.underlying5 rfl) (zb h fun y6 hy6 h => ?_))))))
 refine zad h fun q8 h => zbU ?_ ?_
 ·exact zT rfl rfl (zy (ziM hy6) hT (s1 rfl) .nil (zT rfl rfl (zS (l := ([((48 : UInt64) + (a_v % (10 : UInt64))).toUInt8] : (List UInt8))) el59 (.cons rfl hI .nil) rfl rfl (zt rfl (zor (l := ([((48 : UInt64) + (a_v % (10 : UInt64))).toUInt8] : (List UInt8))) Tryd.underlying59 Tryd.underlying5 Tryd.underlying9 rfl zJ) (zt rfl (zeQ rfl rfl q8) (zt rfl (za8 rfl) (zae (hJ3 _ () h _ (ji 11 2 rfl rfl rfl)))))))))
 exact zT rfl rfl (zS (l := ([((48 : UInt64) + (a_v % (10 : UInt64))).toUInt8] : (List UInt8))) el59 (.cons rfl hI .nil) rfl rfl (zt rfl (zor (l := ([((48 : UInt64) + (a_v % (10 : UInt64))).toUInt8] : (List UInt8))) Tryd.underlying59 Tryd.underlying5 Tryd.underlying9 rfl zJ) (zT rfl rfl (zy (ziM hy6) hT (s1 rfl) .nil (zt rfl (zeQ rfl rfl q8) (zt rfl (za8 rfl) (zae (hJ3 _ () h _ (ji 11 2 rfl rfl rfl)))))))))

theorem zfS : ∀ n, zgE (zb8 n)
 | 0 => fun h => (by cases h)
 | n + 1 => zkj (zfS n)
theorem zib (n : Nat) : zgE (zb8 n) := (zfS n)
end Go.Proofs.Q

