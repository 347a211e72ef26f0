/- Walks, printed by mill.py. -/
import Derived.Test.YtnnijoepfgnlfaaDoorOoA
import Derived.Test.YtnnijoepfgnlfaaDoorOoB
import Derived.Test.YtnnijoepfgnlfaaDoorOoC
import Derived.Test.YtnnijoepfgnlfaaDoorOoD
import Derived.Test.YtnnijoepfgnlfaaDoorProg
import Derived.Shelf.Unicode.ValidAny
import Derived.KernelRfl
set_option linter.unusedVariables false
set_option linter.unusedSimpArgs false

namespace Go.Proofs.Q
open Go.Sy
set_option maxRecDepth 4000
end Go.Proofs.Q


namespace Go.Proofs.Q
open Go.Sy
def valRen : Shelf.Ren := ⟨fun x => bif Nat.beq x 196 then 96 else bif Nat.beq x 259 then 110 else x, fun x => bif Nat.beq x 0 then 0 else bif Nat.beq x 3 then 3 else bif Nat.beq x 4 then 4 else bif Nat.beq x 5 then 5 else bif Nat.beq x 9 then 9 else bif Nat.beq x 12 then 12 else bif Nat.beq x 46 then 24 else bif Nat.beq x 53 then 26 else bif Nat.beq x 119 then 164 else bif Nat.beq x 138 then 166 else bif Nat.beq x 139 then 167 else x, fun x => bif Nat.beq x 3 then 0 else bif Nat.beq x 4 then 1 else x⟩
set_option maxRecDepth 100000 in
theorem valLays : Lays.n196 Tryd.prog valRen := {
  mixed := by kernel_rfl
  f196 := Tryd.func96.trans (by kernel_rfl)
  f259 := Tryd.func110.trans (by kernel_rfl)
  t0 := Tryd.underlying0
  a0 := Tryd.isAgg0
  z0 := Tryd.sizeOf0
  v0 := Tryd.zeroValue0
  t3 := Tryd.underlying3
  a3 := Tryd.isAgg3
  z3 := Tryd.sizeOf3
  v3 := Tryd.zeroValue3
  t4 := Tryd.underlying4
  a4 := Tryd.isAgg4
  z4 := Tryd.sizeOf4
  v4 := Tryd.zeroValue4
  t5 := Tryd.underlying5
  a5 := Tryd.isAgg5
  z5 := Tryd.sizeOf5
  v5 := Tryd.zeroValue5
  t9 := Tryd.underlying9
  a9 := Tryd.isAgg9
  z9 := Tryd.sizeOf9
  v9 := Tryd.zeroValue9
  t12 := Tryd.underlying12
  a12 := Tryd.isAgg12
  z12 := Tryd.sizeOf12
  v12 := Tryd.zeroValue12
  t46 := Tryd.underlying24
  a46 := Tryd.isAgg24
  z46 := Tryd.sizeOf24
  v46 := Tryd.zeroValue24
  t53 := Tryd.underlying26
  a53 := Tryd.isAgg26
  z53 := Tryd.sizeOf26
  v53 := Tryd.zeroValue26
  t119 := Tryd.underlying164
  a119 := Tryd.isAgg164
  z119 := Tryd.sizeOf164
  t138 := Tryd.underlying166
  a138 := Tryd.isAgg166
  z138 := Tryd.sizeOf166
  v138 := Tryd.zeroValue166
  t139 := Tryd.underlying167
  a139 := Tryd.isAgg167
  z139 := Tryd.sizeOf167
  v139 := Tryd.zeroValue167
  g3 := by kernel_rfl
  g4 := by kernel_rfl }
theorem zhk : ∀ {a_s : Str} {r : Bool}, utf8_ValidString a_s = some r → Ctr Tryd.prog 96 [isv (a_s)] [] (fun R H => R = oneOf [isv (r)] ∧ H = []) := by
  intro s r h
  obtain rfl := Option.some.inj h
  refine ⟨⟨_, Tryd.func96, rfl, by decide +kernel⟩, fun S w vs hT hs hv ho => ?_⟩
  match vs, hv with
  | [v], ⟨hv, _⟩ =>
    obtain ⟨rfl, hl⟩ := zdr.1 hv
    have hb := Any.utf8_ValidString valLays s.ba w (by rw [Str.ba_size]; unfold maxText at hl; omega) (hT w hs _ _ valLays.g3 valLays.g4)
    refine hb.mono fun e w' ⟨he, hk⟩ => ⟨.bool (Lib.validD s.ba.data.toList), S, _, [], ⟨rfl, rfl⟩, he, ?_, ⟨⟨hk.os, hk.tape, hk.output, hk.size, fun k hk' _ => hk.block k hk'⟩, Go.Sy.Grow.refl _ _ _, fun b cs hb => ?_⟩, zey _ _ _ _⟩
    · refine za8.2 ?_
      show Value.bool (Lib.validD s.b.toArray.toList) = _
      rfl
    · obtain ⟨c, T, fr, h1, h2⟩ := hs b cs hb
      exact ⟨c, T, fr, by rw [hk.block b (Array.getElem?_eq_some_iff.1 h1).1]; exact h1, h2⟩
end Go.Proofs.Q


namespace Go.Proofs.Q
open Go.Sy
set_option maxRecDepth 4000
@[reducible] def zhB : Fld ((List GTok) × Int × (Str × Int × (TList Str) × (TList Int) × Vh) × Int × Int) (List GTok) := pf0
@[reducible] def zgz : Fld ((List GTok) × Int × (Str × Int × (TList Str) × (TList Int) × Vh) × Int × Int) Int := pf1
@[reducible] def zbH : Fld ((List GTok) × Int × (Str × Int × (TList Str) × (TList Int) × Vh) × Int × Int) Int := pf3
@[reducible] def zk2 : Fld ((List GTok) × Int × (Str × Int × (TList Str) × (TList Int) × Vh) × Int × Int) Int := pl4
@[reducible] def zcr : Fld ((List GTok) × Int × (Str × Int × (TList Str) × (TList Int) × Vh) × Int × Int) (Str × Int × (TList Str) × (TList Int) × Vh) := pf2
@[reducible] def znu : Fld (Str × Int × (TList Str) × (TList Int) × Vh) Str := pf0
@[reducible] def zkP : Fld (Str × Int × (TList Str) × (TList Int) × Vh) Int := pf1
@[reducible] def ziw : Fld (Str × Int × (TList Str) × (TList Int) × Vh) (TList Str) := pf2
@[reducible] def zgt : Fld (Str × Int × (TList Str) × (TList Int) × Vh) Vh := pl4
@[reducible] def zh7 : Fld (Int × Str × GMark × GCon × (TList GItem) × (TList GFld) × Int × Bool × Int) GMark := pf2
@[reducible] def zcm : Fld (Int × Str × GMark × GCon × (TList GItem) × (TList GFld) × Int × Bool × Int) Int := pf0
@[reducible] def zgU : Fld (Int × Str × GMark × GCon × (TList GItem) × (TList GFld) × Int × Bool × Int) GCon := pf3
@[reducible] def zeX : Fld (Int × Str × GMark × GCon × (TList GItem) × (TList GFld) × Int × Bool × Int) (TList GItem) := pf4
@[reducible] def zef : Fld (Int × Str × GMark × GCon × (TList GItem) × (TList GFld) × Int × Bool × Int) Bool := pf7
@[reducible] def zg1 : Fld (Int × Str × GMark × GCon × (TList GItem) × (TList GFld) × Int × Bool × Int) Int := pf6
@[reducible] def zfR : Fld (Int × Str × GMark × GCon × (TList GItem) × (TList GFld) × Int × Bool × Int) (TList GFld) := pf5
@[reducible] def zmn : Fld (Int × Str × GMark × GCon × (TList GItem) × (TList GFld) × Int × Bool × Int) Int := pl8
@[reducible] def zm3 : Fld (Int × Str × GMark × GCon × (TList GItem) × (TList GFld) × Int × Bool × Int) Str := pf1
@[reducible] def zkM : Fld (Str × Int × (TList Str) × (TList Int) × Vh) (TList Int) := pf3
@[reducible] def zni : Fld ((List GTok) × Int × (Str × Int × (TList Str) × (TList Int) × (List GNode)) × Int × Int) (Str × Int × (TList Str) × (TList Int) × (List GNode)) := pf2
theorem ze30 : ZeroOk Tryd.prog 30 ((GMod.mk (Str.mk []) (0 : Int) ([] : (List Str)) ([] : (List Int)) ([] : (List GNode))) : GMod) := zbT (cs := [.string ⟨#[]⟩, .int .i64 0, .slice none 0 0, .slice none 0 0, .slice none 0 0]) rfl (by kernel_rfl) (zW zfB (zW zaV (zW zbS (zW zbS zbS))))
theorem st9 : StrB Tryd.prog 9 = true := by kernel_rfl
theorem eq5 : EqOk Tryd.prog 5 UInt8 := EqOk.u8
theorem zlW : FldB Tryd.prog 80 2 2 1 false = true := by kernel_rfl
theorem bu80 : BuildB Tryd.prog 80 = true := by kernel_rfl
theorem ze80 : ZeroOk Tryd.prog 80 ((GTok.mk (0 : Int) (Str.mk []) (0 : Int)) : GTok) := zbT (cs := [.int .i64 0, .string ⟨#[]⟩, .int .i64 0]) rfl (by kernel_rfl) (zW zaV (zW zfB zaV))
theorem el70 : elB Tryd.prog 70 3 = true := by kernel_rfl
theorem zmk : appB Tryd.prog 70 70 3 = true := by kernel_rfl
theorem ty80 : TyB Tryd.prog 80 3 true = true := by kernel_rfl
theorem moOrd : Tryd.prog.follows .mixedOrders = true := by kernel_rfl
theorem zcY : FldB Tryd.prog 80 0 0 1 false = true := by kernel_rfl
theorem ty3 : TyB Tryd.prog 3 1 false = true := by kernel_rfl
theorem zdW : FldB Tryd.prog 80 1 1 1 false = true := by kernel_rfl
theorem ty9 : TyB Tryd.prog 9 1 false = true := by kernel_rfl
theorem el27 : elB Tryd.prog 27 1 = true := by kernel_rfl
theorem sl27 : SlB Tryd.prog 27 1 false = true := by kernel_rfl
theorem eq9 : EqOk Tryd.prog 9 Str := EqOk.str
theorem bu30 : BuildB Tryd.prog 30 = true := by kernel_rfl
theorem ty30 : TyB Tryd.prog 30 5 true = true := by kernel_rfl
theorem zjG : FldB Tryd.prog 75 0 0 1 false = true := by kernel_rfl
theorem bu75 : BuildB Tryd.prog 75 = true := by kernel_rfl
theorem zpp : ZeroOk Tryd.prog 75 ((([] : (List GTok)), (0 : Int), ((Str.mk []), (0 : Int), (TList.mk none ([] : (List Str))), (TList.mk none ([] : (List Int))), (Vh.mk none 0)), (0 : Int), (0 : Int)) : ((List GTok) × Int × (Str × Int × (TList Str) × (TList Int) × Vh) × Int × Int)) := zbT (cs := [.slice none 0 0, .int .i64 0, .string ⟨#[]⟩, .int .i64 0, .slice none 0 0, .slice none 0 0, .slice none 0 0, .int .i64 0, .int .i64 0]) rfl (by kernel_rfl) (zW zbS (zW zaV (zW (zW zfB (zW zaV (zW zju (zW zju zo3)))) (zW zaV zaV))))
theorem ty70 : TyB Tryd.prog 70 1 false = true := by kernel_rfl
theorem zi7 : FldB Tryd.prog 75 1 1 1 false = true := by kernel_rfl
theorem sl70 : SlB Tryd.prog 70 3 true = true := by kernel_rfl
theorem zc8 : FldB Tryd.prog 75 3 7 1 false = true := by kernel_rfl
theorem ty31 : TyB Tryd.prog 31 1 false = true := by kernel_rfl
theorem zny : FldB Tryd.prog 75 4 8 1 false = true := by kernel_rfl
theorem zdZ : FldB Tryd.prog 75 2 2 5 true = true := by kernel_rfl
theorem zoj : FldB Tryd.prog 30 0 0 1 false = true := by kernel_rfl
theorem zkd : FldB Tryd.prog 30 1 1 1 false = true := by kernel_rfl
theorem zdU : FldB Tryd.prog 30 2 2 1 false = true := by kernel_rfl
theorem ty27 : TyB Tryd.prog 27 1 false = true := by kernel_rfl
theorem zf6 : FldB Tryd.prog 30 4 4 1 false = true := by kernel_rfl
theorem ty28 : TyB Tryd.prog 28 1 false = true := by kernel_rfl
theorem sl28 : SlB Tryd.prog 28 16 true = true := by kernel_rfl
theorem bu108 : BuildB Tryd.prog 108 = true := by kernel_rfl
theorem ze108 : ZeroOk Tryd.prog 108 ((GNode.mk (0 : Int) (Str.mk []) (GMark.mk false (0 : Int) (0 : Int)) (GCon.mk false false false false (0 : Int) (0 : Int)) ([] : (List GItem)) ([] : (List GFld)) (0 : Int) false (0 : Int)) : GNode) := zbT (cs := [.int .i64 0, .string ⟨#[]⟩, .bool false, .int .i64 0, .int .i64 0, .bool false, .bool false, .bool false, .bool false, .int .i64 0, .int .i64 0, .slice none 0 0, .slice none 0 0, .int .i64 0, .bool false, .int .i64 0]) rfl (by kernel_rfl) (zW zaV (zW zfB (zW (zW zbp (zW zaV zaV)) (zW (zW zbp (zW zbp (zW zbp (zW zbp (zW zaV zaV))))) (zW zbS (zW zbS (zW zaV (zW zbp zaV))))))))
theorem el28 : elB Tryd.prog 28 16 = true := by kernel_rfl
theorem zoz : appB Tryd.prog 28 28 16 = true := by kernel_rfl
theorem zl5 : ZeroOk Tryd.prog 108 (((0 : Int), (Str.mk []), (GMark.mk false (0 : Int) (0 : Int)), (GCon.mk false false false false (0 : Int) (0 : Int)), (TList.mk none ([] : (List GItem))), (TList.mk none ([] : (List GFld))), (0 : Int), false, (0 : Int)) : (Int × Str × GMark × GCon × (TList GItem) × (TList GFld) × Int × Bool × Int)) := zbT (cs := [.int .i64 0, .string ⟨#[]⟩, .bool false, .int .i64 0, .int .i64 0, .bool false, .bool false, .bool false, .bool false, .int .i64 0, .int .i64 0, .slice none 0 0, .slice none 0 0, .int .i64 0, .bool false, .int .i64 0]) rfl (by kernel_rfl) (zW zaV (zW zfB (zW (zW zbp (zW zaV zaV)) (zW (zW zbp (zW zbp (zW zbp (zW zbp (zW zaV zaV))))) (zW zju (zW zju (zW zaV (zW zbp zaV))))))))
theorem ty108 : TyB Tryd.prog 108 16 true = true := by kernel_rfl
theorem zl3 : FldB Tryd.prog 106 1 1 1 false = true := by kernel_rfl
theorem zjM : FldB Tryd.prog 106 0 0 1 false = true := by kernel_rfl
theorem bu106 : BuildB Tryd.prog 106 = true := by kernel_rfl
theorem ze106 : ZeroOk Tryd.prog 106 ((GMark.mk false (0 : Int) (0 : Int)) : GMark) := zbT (cs := [.bool false, .int .i64 0, .int .i64 0]) rfl (by kernel_rfl) (zW zbp (zW zaV zaV))
theorem zfn : FldB Tryd.prog 108 2 2 3 true = true := by kernel_rfl
theorem ty106 : TyB Tryd.prog 106 3 true = true := by kernel_rfl
theorem zir : FldB Tryd.prog 106 2 2 1 false = true := by kernel_rfl
theorem zbG : FldB Tryd.prog 108 0 0 1 false = true := by kernel_rfl
theorem ze50 : ZeroOk Tryd.prog 50 ((GCon.mk false false false false (0 : Int) (0 : Int)) : GCon) := zbT (cs := [.bool false, .bool false, .bool false, .bool false, .int .i64 0, .int .i64 0]) rfl (by kernel_rfl) (zW zbp (zW zbp (zW zbp (zW zbp (zW zaV zaV)))))
theorem bu50 : BuildB Tryd.prog 50 = true := by kernel_rfl
theorem ty50 : TyB Tryd.prog 50 6 true = true := by kernel_rfl
theorem zlU : FldB Tryd.prog 50 0 0 1 false = true := by kernel_rfl
theorem ziJ : FldB Tryd.prog 50 1 1 1 false = true := by kernel_rfl
theorem ty4 : TyB Tryd.prog 4 1 false = true := by kernel_rfl
theorem zh1 : FldB Tryd.prog 50 4 4 1 false = true := by kernel_rfl
theorem ty2 : TyB Tryd.prog 2 1 false = true := by kernel_rfl
theorem zi2 : FldB Tryd.prog 50 2 2 1 false = true := by kernel_rfl
theorem zhX : FldB Tryd.prog 50 5 5 1 false = true := by kernel_rfl
theorem zpl : FldB Tryd.prog 50 3 3 1 false = true := by kernel_rfl
theorem zgT : FldB Tryd.prog 108 3 5 6 true = true := by kernel_rfl
theorem zew : FldB Tryd.prog 108 4 11 1 false = true := by kernel_rfl
theorem ty51 : TyB Tryd.prog 51 1 false = true := by kernel_rfl
theorem sl51 : SlB Tryd.prog 51 3 true = true := by kernel_rfl
theorem zeT : FldB Tryd.prog 108 7 14 1 false = true := by kernel_rfl
theorem zfp : FldB Tryd.prog 108 6 13 1 false = true := by kernel_rfl
theorem zkg : FldB Tryd.prog 67 0 0 1 false = true := by kernel_rfl
theorem bu67 : BuildB Tryd.prog 67 = true := by kernel_rfl
theorem ze67 : ZeroOk Tryd.prog 67 ((GItem.mk (Str.mk []) (0 : Int) false) : GItem) := zbT (cs := [.string ⟨#[]⟩, .int .i64 0, .bool false]) rfl (by kernel_rfl) (zW zfB (zW zaV zbp))
theorem ty67 : TyB Tryd.prog 67 3 true = true := by kernel_rfl
theorem zhV : FldB Tryd.prog 67 2 2 1 false = true := by kernel_rfl
theorem zc5 : FldB Tryd.prog 67 1 1 1 false = true := by kernel_rfl
theorem el51 : elB Tryd.prog 51 3 = true := by kernel_rfl
theorem zit : appB Tryd.prog 51 51 3 = true := by kernel_rfl
theorem zdq : FldB Tryd.prog 108 5 12 1 false = true := by kernel_rfl
theorem ty52 : TyB Tryd.prog 52 1 false = true := by kernel_rfl
theorem sl52 : SlB Tryd.prog 52 11 true = true := by kernel_rfl
theorem zlt : FldB Tryd.prog 65 5 10 1 false = true := by kernel_rfl
theorem zlX : FldB Tryd.prog 65 0 0 1 false = true := by kernel_rfl
theorem bu65 : BuildB Tryd.prog 65 = true := by kernel_rfl
theorem ze65 : ZeroOk Tryd.prog 65 ((GFld.mk (Str.mk []) (0 : Int) false false (Val.mk (0 : Int) (0 : Int) ([] : (List UInt8)) ([] : (List Val)) (0 : Int) ([] : (List Raw))) (0 : Int)) : GFld) := zbT (cs := [.string ⟨#[]⟩, .int .i64 0, .bool false, .bool false, .int .i64 0, .int .i64 0, .slice none 0 0, .slice none 0 0, .int .i64 0, .slice none 0 0, .int .i64 0]) rfl (by kernel_rfl) (zW zfB (zW zaV (zW zbp (zW zbp (zW znc zaV)))))
theorem ty65 : TyB Tryd.prog 65 11 true = true := by kernel_rfl
theorem zc6 : FldB Tryd.prog 65 1 1 1 false = true := by kernel_rfl
theorem znD : FldB Tryd.prog 65 2 2 1 false = true := by kernel_rfl
theorem ze63 : ZeroOk Tryd.prog 63 ((Val.mk (0 : Int) (0 : Int) ([] : (List UInt8)) ([] : (List Val)) (0 : Int) ([] : (List Raw))) : Val) := zbT (cs := [.int .i64 0, .int .i64 0, .slice none 0 0, .slice none 0 0, .int .i64 0, .slice none 0 0]) rfl (by kernel_rfl) znc
theorem zjJ : FldB Tryd.prog 63 1 1 1 false = true := by kernel_rfl
theorem zgl : FldB Tryd.prog 63 0 0 1 false = true := by kernel_rfl
theorem bu63 : BuildB Tryd.prog 63 = true := by kernel_rfl
theorem ty63 : TyB Tryd.prog 63 6 true = true := by kernel_rfl
theorem zh5 : FldB Tryd.prog 63 2 2 1 false = true := by kernel_rfl
theorem el59 : elB Tryd.prog 59 1 = true := by kernel_rfl
theorem zoV : appB Tryd.prog 59 59 1 = true := by kernel_rfl
theorem zlT : FldB Tryd.prog 65 3 3 1 false = true := by kernel_rfl
theorem zlB : FldB Tryd.prog 65 4 4 6 true = true := by kernel_rfl
theorem el52 : elB Tryd.prog 52 11 = true := by kernel_rfl
theorem zkj : appB Tryd.prog 52 52 11 = true := by kernel_rfl
theorem zjL : FldB Tryd.prog 108 8 15 1 false = true := by kernel_rfl
theorem zjT : FldB Tryd.prog 108 1 1 1 false = true := by kernel_rfl
theorem zjP : appB Tryd.prog 27 27 1 = true := by kernel_rfl
theorem zi6 : FldB Tryd.prog 30 3 3 1 false = true := by kernel_rfl
theorem ty22 : TyB Tryd.prog 22 1 false = true := by kernel_rfl
theorem el22 : elB Tryd.prog 22 1 = true := by kernel_rfl
theorem zdo : appB Tryd.prog 22 22 1 = true := by kernel_rfl
end Go.Proofs.Q


namespace Go.Proofs.Q
open Go.Sy
set_option maxRecDepth 4000
theorem sl22 : SlB Tryd.prog 22 1 false = true := by kernel_rfl
theorem el45 : elB Tryd.prog 45 1 = true := by kernel_rfl
theorem zl2 : appB Tryd.prog 45 45 1 = true := by kernel_rfl
theorem sl45 : SlB Tryd.prog 45 1 false = true := by kernel_rfl
end Go.Proofs.Q


namespace Go.Proofs.Q
open Go.Sy
set_option maxRecDepth 4000
end Go.Proofs.Q


namespace Go.Proofs.Q
open Go.Sy
set_option maxRecDepth 4000
theorem el114 : elB Tryd.prog 114 1 = true := by kernel_rfl
theorem sl114 : SlB Tryd.prog 114 1 false = true := by kernel_rfl
end Go.Proofs.Q


namespace Go.Proofs.Q
open Go.Sy
set_option maxRecDepth 4000
@[reducible] def zei : Fld (GMod × Vh × Int) GMod := pf0
@[reducible] def zku : Fld (Str × (List Str) × (TList Int) × (List GTyp)) Str := pf0
@[reducible] def zkL : Fld (Str × (List Str) × (TList Int) × (List GTyp)) (List Str) := pf1
@[reducible] def zhr : Fld (Str × (List Str) × (TList Int) × (List GTyp)) (TList Int) := pf2
@[reducible] def zck : Fld (GMod × Vh × Int) Int := pl2
@[reducible] def zbB : Fld (GMod × Vh × Int) Vh := pf1
@[reducible] def znZ : Fld (Str × (List Str) × (TList Int) × (List GTyp)) (List GTyp) := pl3
theorem ze40 : ZeroOk Tryd.prog 40 ((GTab.mk (Str.mk []) ([] : (List Str)) ([] : (List Int)) ([] : (List GTyp))) : GTab) := zbT (cs := [.string ⟨#[]⟩, .slice none 0 0, .slice none 0 0, .slice none 0 0]) rfl (by kernel_rfl) (zW zfB (zW zbS (zW zbS zbS)))
theorem bu40 : BuildB Tryd.prog 40 = true := by kernel_rfl
theorem ty40 : TyB Tryd.prog 40 4 true = true := by kernel_rfl
theorem zgi : FldB Tryd.prog 120 0 0 5 true = true := by kernel_rfl
theorem bu120 : BuildB Tryd.prog 120 = true := by kernel_rfl
theorem zoT : ZeroOk Tryd.prog 120 (((GMod.mk (Str.mk []) (0 : Int) ([] : (List Str)) ([] : (List Int)) ([] : (List GNode))), (Vh.mk none 0), (0 : Int)) : (GMod × Vh × Int)) := zbT (cs := [.string ⟨#[]⟩, .int .i64 0, .slice none 0 0, .slice none 0 0, .slice none 0 0, .slice none 0 0, .int .i64 0]) rfl (by kernel_rfl) (zW (zW zfB (zW zaV (zW zbS (zW zbS zbS)))) (zW zo3 zaV))
theorem zn8 : FldB Tryd.prog 40 0 0 1 false = true := by kernel_rfl
theorem zn1 : FldB Tryd.prog 40 1 1 1 false = true := by kernel_rfl
theorem zkn : ZeroOk Tryd.prog 40 (((Str.mk []), ([] : (List Str)), (TList.mk none ([] : (List Int))), ([] : (List GTyp))) : (Str × (List Str) × (TList Int) × (List GTyp))) := zbT (cs := [.string ⟨#[]⟩, .slice none 0 0, .slice none 0 0, .slice none 0 0]) rfl (by kernel_rfl) (zW zfB (zW zbS (zW zju zbS)))
theorem zkk : FldB Tryd.prog 40 2 2 1 false = true := by kernel_rfl
theorem zdC : FldB Tryd.prog 120 2 6 1 false = true := by kernel_rfl
theorem zcB : FldB Tryd.prog 120 1 5 1 false = true := by kernel_rfl
theorem ty38 : TyB Tryd.prog 38 1 false = true := by kernel_rfl
theorem sl38 : SlB Tryd.prog 38 13 true = true := by kernel_rfl
theorem zjE : FldB Tryd.prog 54 6 11 1 false = true := by kernel_rfl
theorem zeK : FldB Tryd.prog 54 5 10 1 false = true := by kernel_rfl
theorem zlV : FldB Tryd.prog 54 2 2 6 true = true := by kernel_rfl
theorem zet : FldB Tryd.prog 54 0 0 1 false = true := by kernel_rfl
theorem bu54 : BuildB Tryd.prog 54 = true := by kernel_rfl
theorem ze54 : ZeroOk Tryd.prog 54 ((GTyp.mk (0 : Int) ([] : (List Tag)) (GCon.mk false false false false (0 : Int) (0 : Int)) ([] : (List GItem)) ([] : (List GFld)) (0 : Int) false (0 : Int)) : GTyp) := zbT (cs := [.int .i64 0, .slice none 0 0, .bool false, .bool false, .bool false, .bool false, .int .i64 0, .int .i64 0, .slice none 0 0, .slice none 0 0, .int .i64 0, .bool false, .int .i64 0]) rfl (by kernel_rfl) (zW zaV (zW zbS (zW (zW zbp (zW zbp (zW zbp (zW zbp (zW zaV zaV))))) (zW zbS (zW zbS (zW zaV (zW zbp zaV)))))))
theorem ty54 : TyB Tryd.prog 54 13 true = true := by kernel_rfl
theorem ze57 : ZeroOk Tryd.prog 57 (Tag.zero : Tag) := zbT (cs := [.int .i64 0, .int .i64 0]) rfl (by kernel_rfl) (zW zaV zaV)
theorem zem : FldB Tryd.prog 57 1 1 1 false = true := by kernel_rfl
theorem bu57 : BuildB Tryd.prog 57 = true := by kernel_rfl
theorem ty57 : TyB Tryd.prog 57 2 true = true := by kernel_rfl
theorem el48 : elB Tryd.prog 48 2 = true := by kernel_rfl
theorem zeH : FldB Tryd.prog 54 1 1 1 false = true := by kernel_rfl
theorem ty48 : TyB Tryd.prog 48 1 false = true := by kernel_rfl
theorem el38 : elB Tryd.prog 38 13 = true := by kernel_rfl
theorem zl8 : appB Tryd.prog 38 38 13 = true := by kernel_rfl
theorem zpt : FldB Tryd.prog 54 7 12 1 false = true := by kernel_rfl
theorem zfc : FldB Tryd.prog 54 3 8 1 false = true := by kernel_rfl
theorem ty59 : TyB Tryd.prog 59 1 false = true := by kernel_rfl
theorem sl59 : SlB Tryd.prog 59 1 false = true := by kernel_rfl
theorem ty5 : TyB Tryd.prog 5 1 false = true := by kernel_rfl
theorem zlb : Tryd.prog.globals.findIdx? (·.name == "unicode/utf8.first") = some 0 := by kernel_rfl
theorem ar164 : ArrB Tryd.prog 164 256 1 false = true := by kernel_rfl
theorem zgp : Tryd.prog.globals.findIdx? (·.name == "unicode/utf8.acceptRanges") = some 1 := by kernel_rfl
theorem ar167 : ArrB Tryd.prog 167 16 2 true = true := by kernel_rfl
theorem ty166 : TyB Tryd.prog 166 2 true = true := by kernel_rfl
theorem ze166 : ZeroOk Tryd.prog 166 (GAcc.zero : GAcc) := zbT (cs := [.int .u8 0, .int .u8 0]) rfl (by kernel_rfl) (zW zo5 zo5)
theorem zjN : FldB Tryd.prog 166 0 0 1 false = true := by kernel_rfl
theorem zjX : FldB Tryd.prog 166 1 1 1 false = true := by kernel_rfl
theorem sl48 : SlB Tryd.prog 48 2 true = true := by kernel_rfl
theorem zgh : FldB Tryd.prog 57 0 0 1 false = true := by kernel_rfl
theorem zft : appB Tryd.prog 48 48 2 = true := by kernel_rfl
theorem zbE : FldB Tryd.prog 54 4 9 1 false = true := by kernel_rfl
theorem el179 : elB Tryd.prog 179 1 = true := by kernel_rfl
theorem zmZ : appB Tryd.prog 179 179 1 = true := by kernel_rfl
theorem sl179 : SlB Tryd.prog 179 1 false = true := by kernel_rfl
theorem eq57 : EqOk Tryd.prog 57 Tag := Tag.eqOk Tryd.underlying57 (by kernel_rfl) (by kernel_rfl) Tryd.underlying3
theorem zmW : appB Tryd.prog 114 114 1 = true := by kernel_rfl
theorem zf5 : FldB Tryd.prog 40 3 3 1 false = true := by kernel_rfl
end Go.Proofs.Q


namespace Go.Proofs.Q
open Go.Sy
set_option maxRecDepth 4000
theorem zkh : FldB Tryd.prog 146 0 0 1 false = true := by kernel_rfl
theorem bu146 : BuildB Tryd.prog 146 = true := by kernel_rfl
theorem ze146 : ZeroOk Tryd.prog 146 ((GTys.mk ([] : (List GTyp))) : GTys) := zbT (cs := [.slice none 0 0]) rfl (by kernel_rfl) zbS
theorem zpm : ZeroOk Tryd.prog 48 ((TList.mk none ([] : (List Tag))) : (TList Tag)) := zks (v := .slice none 0 0) rfl (by kernel_rfl) zju
theorem ze3 : ZeroOk Tryd.prog 3 ((0 : Int) : Int) := zks (v := .int .i64 0) rfl (by kernel_rfl) zaV
end Go.Proofs.Q


namespace Go.Proofs.Q
open Go.Sy
set_option maxRecDepth 4000
theorem eq4 : EqOk Tryd.prog 4 Bool := EqOk.bool Tryd.underlying4
end Go.Proofs.Q


namespace Go.Proofs.Q
open Go.Sy
set_option maxRecDepth 4000
theorem zeG : ∀ {a_s : Str} {a_i : Int} {r : UInt8}, zd8 a_s a_i = some r → Ctr Tryd.prog 67 [isv (a_s), isv (a_i)] [] (fun R H => R = oneOf [isv (r)] ∧ H = []) := by
 intro a_s a_i r h
 unfold zd8 at h
 refine zu Tryd.func67 rfl fun w0 S0 hT => wsr (oA rfl (rnf (zj (wsr (oM rfl (oV (zai rfl rfl) (oM rfl ?_)))))))
 refine zaz (jb 12) je .nil h 5 rfl (fun q1 g1 h => ?_) (fun J2 h hJ2 => ?_)
 ·refine rnf (zg h rfl (fun _ h => ?_) (fun _ h => ?_))
  ·refine wsr (oA rfl (rnf (zK (zB ?_))))
   cases h
   exact zo (.tmp rfl .nil) .nil ⟨rfl, rfl⟩
  refine wkf (wsr (oM rfl (oM rfl (zb h fun y4 hy4 h => oV (zbL y4 st9 rfl rfl hy4) (oA rfl (rnf (zK ?_)))))))
  cases h
  exact zo (.tmp rfl .nil) .nil ⟨rfl, rfl⟩
 refine zC (j := 7) h rfl (fun g3 h => ?_) (fun g3 h => ?_)
 ·exact oP 7 rfl rfl g3 (oP 7 rfl rfl g3 (oP 7 rfl rfl g3 (oP 7 rfl rfl g3 (oV (zs rfl g3 rfl) (hJ2 _ () h _ (ji 5 12 rfl rfl rfl))))))
 exact oK 7 rfl rfl rfl g3 (zq rfl) (oK 7 rfl rfl rfl g3 (zq rfl) (oK 7 rfl rfl rfl g3 (zdH st9 rfl) (oK 7 rfl rfl rfl g3 (zed rfl rfl) (oV (zr rfl g3 rfl) (hJ2 _ () h _ (ji 5 12 rfl rfl rfl))))))


theorem zkQ : ∀ {a_s : Str} {a_i : Int} {r : Int}, zes a_s a_i = some r → Ctr Tryd.prog 48 [isv (a_s), isv (a_i)] [] (fun R H => R = oneOf [isv (r)] ∧ H = []) := by
 intro a_s a_i r h
 unfold zes at h
 refine zu Tryd.func48 rfl fun w0 S0 hT => wsr (oA rfl (rnf (zj (zt (zaQ (ι := Int) (γ := Unit) (fun q1 g1 => [(1, isv (q1))]) (fun q1 g1 => []) h () (za (j := 1) rfl hI zd) .nil (fun L2 q1 g1 Q99 h hL2 eL2 rL2 => zj (wsr ?_)))))))
 refine oM rfl (oM rfl (oV (zdH st9 rfl) (oV (zai rfl rfl) (rnf (zg h rfl (fun _ h => ?_) (fun _ h => ?_))))))
 ·refine wkf (zt (zt (wsr (oM rfl (oM rfl (zb h fun y51 hy51 h => oV (zbL y51 st9 rfl rfl hy51) (oV (zcE eq5 rfl rfl) ?_)))))))
  refine oM rfl (zaz (jb 20) je .nil h 5 rfl (fun q52 g52 h => ?_) (fun J53 h hJ53 => ?_))
  ·refine oM rfl (zaz (jb 26) je .nil h 5 rfl (fun q56 g56 h => ?_) (fun J57 h hJ57 => ?_))
   ·refine oM rfl (zaz (jb 32) je .nil h 5 rfl (fun q60 g60 h => ?_) (fun J61 h hJ61 => ?_))
    ·refine oA rfl (rnf (zg h rfl (fun _ h => ?_) (fun _ h => ?_)))
     ·exact zh (oM rfl (zz h fun q64 h => oV (zaa rfl rfl q64) (oA rfl (zx (zi (zi (hL2 _ () h _ (ji 19 1 rfl rfl rfl))))))))
     refine wsr (oM rfl (oM rfl (zb h fun y65 hy65 h => oV (zbL y65 st9 rfl rfl hy65) (oV (zcE eq5 rfl rfl) (oM rfl (zaz (jb 46) je .nil h 6 rfl (fun q66 g66 h => ?_) (fun J67 h hJ67 => ?_)))))))
     ·refine oA rfl (rnf (zg h rfl (fun _ h => ?_) (fun _ h => ?_)))
      ·refine wsr (oM rfl (zz h fun q71 h => oV (zaa rfl rfl q71) (oA rfl (rnf (zt (zaQ (ι := Int) (γ := Unit) (fun q72 g72 => [(1, isv (q72))]) (fun q72 g72 => []) h () (za (j := 1) rfl hI zd) .nil (fun L73 q72 g72 Q98 h hL73 eL73 rL73 => zj ?_)))))))
       refine wsr (oM rfl (oM rfl (oV (zdH st9 rfl) (oV (zai rfl rfl) (oM rfl (zaz (jb 58) je .nil h 5 rfl (fun q86 g86 h => ?_) (fun J87 h hJ87 => ?_)))))))
       ·refine rnf (zg h rfl (fun _ h => ?_) (fun _ h => ?_))
        ·refine wkf (zt (zj (wsr (oM rfl (oM rfl (zb h fun y90 hy90 h => oV (zbL y90 st9 rfl rfl hy90) (oV (zcE eq5 rfl rfl) ?_)))))))
         refine oM rfl (zaz (jb 69) je .nil h 6 rfl (fun q91 g91 h => ?_) (fun J92 h hJ92 => ?_))
         ·refine rnf (zg h rfl (fun _ h => ?_) (fun _ h => ?_))
          ·refine wsr (oM rfl (zz h fun q96 h => oV (zaa rfl rfl q96) (oA rfl (rnf (zae (zU (zgG rfl ?_)))))))
           exact eL73 _ _ (zF (zi (zi (hL2 _ () h _ (ji 42 1 rfl rfl rfl)))))
          exact wkf (zh (oM rfl (zz h fun q97 h => oV (zaa rfl rfl q97) (oA rfl (zx (zi (hL73 _ () h _ (ji 16 1 rfl rfl rfl))))))))
         refine zC (j := 63) h rfl (fun g93 h => ?_) (fun g93 h => ?_)
         ·exact oK 63 rfl rfl rfl g93 (zq rfl) (oK 63 rfl rfl rfl g93 (zq rfl) (zz h fun q94 h => oK 63 rfl rfl rfl g93 (zaa rfl rfl q94) (zb h fun y95 hy95 h => zaF rfl rfl (dj := 63) rfl g93 (zA (zeG hy95) hT (s2 rfl rfl) .nil (oK 63 rfl rfl rfl g93 (zcE eq5 rfl rfl) (oV (zs rfl g93 rfl) (hJ92 _ () h _ (ji 6 69 rfl rfl rfl))))))))
         exact oP 63 rfl rfl g93 (oP 63 rfl rfl g93 (oP 63 rfl rfl g93 (oP 63 rfl rfl g93 (oP 63 rfl rfl g93 (oV (zr rfl g93 rfl) (hJ92 _ () h _ (ji 6 69 rfl rfl rfl)))))))
        exact zae (zU (eL73 _ _ (zF (zi (zi (hL2 _ () h _ (ji 33 1 rfl rfl rfl)))))))
       refine zC (j := 53) h rfl (fun g88 h => ?_) (fun g88 h => ?_)
       ·exact oK 53 rfl rfl rfl g88 (zq rfl) (oK 53 rfl rfl rfl g88 (zq rfl) (zb h fun y89 hy89 h => oK 53 rfl rfl rfl g88 (zbL y89 st9 rfl rfl hy89) (oK 53 rfl rfl rfl g88 (ziK eq5 rfl rfl) (oV (zs rfl g88 rfl) (hJ87 _ () h _ (ji 5 58 rfl rfl rfl))))))
       exact oP 53 rfl rfl g88 (oP 53 rfl rfl g88 (oP 53 rfl rfl g88 (oP 53 rfl rfl g88 (oV (zr rfl g88 rfl) (hJ87 _ () h _ (ji 5 58 rfl rfl rfl))))))
      refine wsr (oM rfl (oA rfl (rnf (zK (zG (zG (rL2 _ (zG ?_))))))))
      refine zB ?_
      cases h
      exact zo (.tmp rfl .nil) .nil ⟨rfl, rfl⟩
     refine zC (j := 40) h rfl (fun g68 h => ?_) (fun g68 h => ?_)
     ·exact oK 40 rfl rfl rfl g68 (zq rfl) (oK 40 rfl rfl rfl g68 (zq rfl) (zz h fun q69 h => oK 40 rfl rfl rfl g68 (zaa rfl rfl q69) (zb h fun y70 hy70 h => zaF rfl rfl (dj := 40) rfl g68 (zA (zeG hy70) hT (s2 rfl rfl) .nil (oK 40 rfl rfl rfl g68 (zcE eq5 rfl rfl) (oV (zs rfl g68 rfl) (hJ67 _ () h _ (ji 6 46 rfl rfl rfl))))))))
     exact oP 40 rfl rfl g68 (oP 40 rfl rfl g68 (oP 40 rfl rfl g68 (oP 40 rfl rfl g68 (oP 40 rfl rfl g68 (oV (zr rfl g68 rfl) (hJ67 _ () h _ (ji 6 46 rfl rfl rfl)))))))
    refine zC (j := 27) h rfl (fun g62 h => ?_) (fun g62 h => ?_)
    ·exact oP 27 rfl rfl g62 (oP 27 rfl rfl g62 (oP 27 rfl rfl g62 (oP 27 rfl rfl g62 (oV (zs rfl g62 rfl) (hJ61 _ () h _ (ji 5 32 rfl rfl rfl))))))
    exact oK 27 rfl rfl rfl g62 (zq rfl) (oK 27 rfl rfl rfl g62 (zq rfl) (zb h fun y63 hy63 h => oK 27 rfl rfl rfl g62 (zbL y63 st9 rfl rfl hy63) (oK 27 rfl rfl rfl g62 (zcE eq5 rfl rfl) (oV (zr rfl g62 rfl) (hJ61 _ () h _ (ji 5 32 rfl rfl rfl))))))
   refine zC (j := 21) h rfl (fun g58 h => ?_) (fun g58 h => ?_)
   ·exact oP 21 rfl rfl g58 (oP 21 rfl rfl g58 (oP 21 rfl rfl g58 (oP 21 rfl rfl g58 (oV (zs rfl g58 rfl) (hJ57 _ () h _ (ji 5 26 rfl rfl rfl))))))
   exact oK 21 rfl rfl rfl g58 (zq rfl) (oK 21 rfl rfl rfl g58 (zq rfl) (zb h fun y59 hy59 h => oK 21 rfl rfl rfl g58 (zbL y59 st9 rfl rfl hy59) (oK 21 rfl rfl rfl g58 (zcE eq5 rfl rfl) (oV (zr rfl g58 rfl) (hJ57 _ () h _ (ji 5 26 rfl rfl rfl))))))
  refine zC (j := 15) h rfl (fun g54 h => ?_) (fun g54 h => ?_)
  ·exact oP 15 rfl rfl g54 (oP 15 rfl rfl g54 (oP 15 rfl rfl g54 (oP 15 rfl rfl g54 (oV (zs rfl g54 rfl) (hJ53 _ () h _ (ji 5 20 rfl rfl rfl))))))
  exact oK 15 rfl rfl rfl g54 (zq rfl) (oK 15 rfl rfl rfl g54 (zq rfl) (zb h fun y55 hy55 h => oK 15 rfl rfl rfl g54 (zbL y55 st9 rfl rfl hy55) (oK 15 rfl rfl rfl g54 (zcE eq5 rfl rfl) (oV (zr rfl g54 rfl) (hJ53 _ () h _ (ji 5 20 rfl rfl rfl))))))
 refine zae (zU (eL2 _ _ (zF (zy (wsr (oM rfl (oA rfl (rnf ?_))))))))
 refine zK ?_
 cases h
 exact zo (.tmp rfl .nil) .nil ⟨rfl, rfl⟩


theorem zf9 : ∀ {a_c : UInt8} {r : Bool}, zdF a_c = some r → Ctr Tryd.prog 68 [isv (a_c)] [] (fun R H => R = oneOf [isv (r)] ∧ H = []) := by
 intro a_c r h
 unfold zdF at h
 refine zu Tryd.func68 rfl fun w0 S0 hT => wsr (oA rfl (rnf (wsr (oM rfl (oV (zi9 rfl rfl) (oM rfl (zaz (jb 8) je .nil h 3 rfl (fun q1 g1 h => ?_) (fun J2 h hJ2 => ?_))))))))
 ·refine oM rfl (zaz (jb 16) je .nil h 7 rfl (fun q4 g4 h => ?_) (fun J5 h hJ5 => ?_))
  ·refine oA rfl (rnf (zK ?_))
   cases h
   exact zo (.tmp rfl .nil) .nil ⟨rfl, rfl⟩
  refine zC (j := 9) h rfl (fun g6 h => ?_) (fun g6 h => ?_)
  ·exact oP 9 rfl rfl g6 (oP 9 rfl rfl g6 (oP 9 rfl rfl g6 (zE rfl (dj := 12) rfl (zE rfl (dj := 12) rfl (oP 9 rfl rfl g6 (oV (zs rfl g6 rfl) (hJ5 _ () h _ (ji 7 16 rfl rfl rfl))))))))
  refine oK 9 rfl rfl rfl g6 (zq rfl) (oK 9 rfl rfl rfl g6 (zi9 rfl rfl) (oK 9 rfl rfl rfl g6 (zq rfl) (zaz (jb 15) je .nil h 3 rfl (fun q7 g7 h => ?_) (fun J8 h hJ8 => ?_))))
  ·exact oV (zr rfl g6 rfl) (hJ5 _ () h _ (ji 5 16 rfl rfl rfl))
  refine zC (j := 12) h rfl (fun g9 h => ?_) (fun g9 h => ?_)
  ·exact oK 12 rfl rfl rfl g9 (zq rfl) (oK 12 rfl rfl rfl g9 (zjb rfl rfl) (oK 9 rfl rfl rfl g6 (zs rfl g9 rfl) (hJ8 _ () h _ (ji 3 15 rfl rfl rfl))))
  exact oP 12 rfl rfl g9 (oP 12 rfl rfl g9 (oK 9 rfl rfl rfl g6 (zr rfl g9 rfl) (hJ8 _ () h _ (ji 3 15 rfl rfl rfl))))
 refine zC (j := 5) h rfl (fun g3 h => ?_) (fun g3 h => ?_)
 ·exact oK 5 rfl rfl rfl g3 (zq rfl) (oK 5 rfl rfl rfl g3 (zjb rfl rfl) (oV (zs rfl g3 rfl) (hJ2 _ () h _ (ji 3 8 rfl rfl rfl))))
 exact oP 5 rfl rfl g3 (oP 5 rfl rfl g3 (oV (zr rfl g3 rfl) (hJ2 _ () h _ (ji 3 8 rfl rfl rfl))))


theorem zez : ∀ {a_c : UInt8} {r : Bool}, zdv a_c = some r → Ctr Tryd.prog 71 [isv (a_c)] [] (fun R H => R = oneOf [isv (r)] ∧ H = []) := by
 intro a_c r h
 unfold zdv at h
 refine zu Tryd.func71 rfl fun w0 S0 hT => wsr (oA rfl (rnf (wsr (oM rfl (oV (zi9 rfl rfl) (oM rfl (zaz (jb 8) je .nil h 3 rfl (fun q1 g1 h => ?_) (fun J2 h hJ2 => ?_))))))))
 ·refine oA rfl (rnf (zK ?_))
  cases h
  exact zo (.tmp rfl .nil) .nil ⟨rfl, rfl⟩
 refine zC (j := 5) h rfl (fun g3 h => ?_) (fun g3 h => ?_)
 ·exact oK 5 rfl rfl rfl g3 (zq rfl) (oK 5 rfl rfl rfl g3 (zjb rfl rfl) (oV (zs rfl g3 rfl) (hJ2 _ () h _ (ji 3 8 rfl rfl rfl))))
 exact oP 5 rfl rfl g3 (oP 5 rfl rfl g3 (oV (zr rfl g3 rfl) (hJ2 _ () h _ (ji 3 8 rfl rfl rfl))))


theorem zlZ : ∀ {a_s : Str} {a_i : Int} {r : Int}, zfa a_s a_i = some r → Ctr Tryd.prog 69 [isv (a_s), isv (a_i)] [] (fun R H => R = oneOf [isv (r)] ∧ H = []) := by
 intro a_s a_i r h
 unfold zfa at h
 refine zu Tryd.func69 rfl fun w0 S0 hT => wsr (oA rfl (rnf (wsr (oM rfl (oA rfl (rnf (zj ?_)))))))
 refine zt (zaQ (ι := Int) (γ := Unit) (fun q1 g1 => [(1, isv (q1))]) (fun q1 g1 => []) h () (za (j := 1) rfl hI zd) .nil (fun L2 q1 g1 Q55 h hL2 eL2 rL2 => zj (wsr (oM rfl (oM rfl (oV (zdH st9 rfl) (oV (zai rfl rfl) (oM rfl ?_))))))))
 refine zaz (jb 35) je .nil h 24 rfl (fun q29 g29 h => ?_) (fun J30 h hJ30 => ?_)
 ·refine rnf (zg h rfl (fun _ h => ?_) (fun _ h => ?_))
  ·refine wkf (zt (zh (oM rfl (zz h fun q48 h => oV (zaa rfl rfl q48) (oA rfl (zx (zi ?_)))))))
   exact hL2 _ () h _ (ji 10 1 rfl rfl rfl)
  refine zae (zU (eL2 _ _ (zF (zy (zj (wsr (oM rfl (oM rfl ?_))))))))
  refine zz h fun q49 h => oV (zaL rfl rfl q49) (zb h fun y50 hy50 h => oV (zbL y50 st9 rfl rfl hy50) (oV (zcE eq5 rfl rfl) (oM rfl (zaz (jb 48) je .nil h 5 rfl (fun q51 g51 h => ?_) (fun J52 h hJ52 => ?_)))))
  ·refine rnf (zg h rfl (fun _ h => ?_) (fun _ h => ?_))
   ·refine wsr (oA rfl (rnf (zK (zB ?_))))
    cases h
    exact zo (.tmp rfl .nil) .nil ⟨rfl, rfl⟩
   refine wkf (wsr (oM rfl (oA rfl (rnf (zK ?_)))))
   cases h
   exact zo (.tmp rfl .nil) .nil ⟨rfl, rfl⟩
  refine zC (j := 43) h rfl (fun g53 h => ?_) (fun g53 h => ?_)
  ·exact oP 43 rfl rfl g53 (oP 43 rfl rfl g53 (oP 43 rfl rfl g53 (oP 43 rfl rfl g53 (oV (zs rfl g53 rfl) (hJ52 _ () h _ (ji 5 48 rfl rfl rfl))))))
  exact oK 43 rfl rfl rfl g53 (zq rfl) (oK 43 rfl rfl rfl g53 (zq rfl) (zz h fun q54 h => oK 43 rfl rfl rfl g53 (zaL rfl rfl q54) (oK 43 rfl rfl rfl g53 (zbu rfl rfl) (oV (zr rfl g53 rfl) (hJ52 _ () h _ (ji 5 48 rfl rfl rfl))))))
 refine zC (j := 11) h rfl (fun g31 h => ?_) (fun g31 h => ?_)
 ·refine oK 11 rfl rfl rfl g31 (zq rfl) (oK 11 rfl rfl rfl g31 (zq rfl) (zb h fun y32 hy32 h => oK 11 rfl rfl rfl g31 (zbL y32 st9 rfl rfl hy32) (zb h fun y33 hy33 h => zaF rfl rfl (dj := 11) rfl g31 (zA (zf9 hy33) hT (s1 rfl) .nil (oK 11 rfl rfl rfl g31 (zq rfl) (zaz (jb 21) je .nil h 5 rfl (fun q34 g34 h => ?_) (fun J35 h hJ35 => ?_)))))))
  ·refine oK 11 rfl rfl rfl g31 (zq rfl) (zaz (jb 34) je .nil h 12 rfl (fun q39 g39 h => ?_) (fun J40 h hJ40 => ?_))
   ·exact oV (zs rfl g31 rfl) (hJ30 _ () h _ (ji 9 35 rfl rfl rfl))
   refine zC (j := 22) h rfl (fun g41 h => ?_) (fun g41 h => ?_)
   ·refine oP 22 rfl rfl g41 (oP 22 rfl rfl g41 (oP 22 rfl rfl g41 (oP 22 rfl rfl g41 (oP 22 rfl rfl g41 (zE rfl (dj := 27) rfl (zE rfl (dj := 27) rfl (zE rfl (dj := 27) rfl (zE rfl (dj := 27) rfl ?_))))))))
    exact zE rfl (dj := 27) rfl (oP 22 rfl rfl g41 (oK 11 rfl rfl rfl g31 (zs rfl g41 rfl) (hJ40 _ () h _ (ji 12 34 rfl rfl rfl))))
   refine oK 22 rfl rfl rfl g41 (zq rfl) (oK 22 rfl rfl rfl g41 (zq rfl) (zb h fun y42 hy42 h => oK 22 rfl rfl rfl g41 (zbL y42 st9 rfl rfl hy42) (oK 22 rfl rfl rfl g41 (zcE eq5 rfl rfl) (oK 22 rfl rfl rfl g41 (zq rfl) (zaz (jb 33) je .nil h 6 rfl (fun q43 g43 h => ?_) (fun J44 h hJ44 => ?_))))))
   ·exact oK 11 rfl rfl rfl g31 (zr rfl g41 rfl) (hJ40 _ () h _ (ji 7 34 rfl rfl rfl))
   refine zC (j := 27) h rfl (fun g45 h => ?_) (fun g45 h => ?_)
   ·exact oK 27 rfl rfl rfl g45 (zq rfl) (oK 27 rfl rfl rfl g45 (zq rfl) (zz h fun q46 h => oK 27 rfl rfl rfl g45 (zaa rfl rfl q46) (zb h fun y47 hy47 h => zaF rfl rfl (dj := 27) rfl g45 (zA (zeG hy47) hT (s2 rfl rfl) .nil (oK 27 rfl rfl rfl g45 (ziK eq5 rfl rfl) (oK 22 rfl rfl rfl g41 (zs rfl g45 rfl) (hJ44 _ () h _ (ji 6 33 rfl rfl rfl))))))))
   exact oP 27 rfl rfl g45 (oP 27 rfl rfl g45 (oP 27 rfl rfl g45 (oP 27 rfl rfl g45 (oP 27 rfl rfl g45 (oK 22 rfl rfl rfl g41 (zr rfl g45 rfl) (hJ44 _ () h _ (ji 6 33 rfl rfl rfl)))))))
  refine zC (j := 16) h rfl (fun g36 h => ?_) (fun g36 h => ?_)
  ·exact oP 16 rfl rfl g36 (oP 16 rfl rfl g36 (oP 16 rfl rfl g36 (oP 16 rfl rfl g36 (oK 11 rfl rfl rfl g31 (zs rfl g36 rfl) (hJ35 _ () h _ (ji 5 21 rfl rfl rfl))))))
  exact oK 16 rfl rfl rfl g36 (zq rfl) (oK 16 rfl rfl rfl g36 (zq rfl) (zb h fun y37 hy37 h => oK 16 rfl rfl rfl g36 (zbL y37 st9 rfl rfl hy37) (zb h fun y38 hy38 h => zaF rfl rfl (dj := 16) rfl g36 (zA (zez hy38) hT (s1 rfl) .nil (oK 11 rfl rfl rfl g31 (zr rfl g36 rfl) (hJ35 _ () h _ (ji 5 21 rfl rfl rfl)))))))
 refine oP 11 rfl rfl g31 (oP 11 rfl rfl g31 (oP 11 rfl rfl g31 (oP 11 rfl rfl g31 (oP 11 rfl rfl g31 (zE rfl (dj := 16) rfl (zE rfl (dj := 16) rfl (zE rfl (dj := 16) rfl (zE rfl (dj := 16) rfl ?_))))))))
 refine oP 11 rfl rfl g31 (oP 11 rfl rfl g31 (zE rfl (dj := 22) rfl (zE rfl (dj := 22) rfl (zE rfl (dj := 22) rfl (zE rfl (dj := 22) rfl (zE rfl (dj := 22) rfl (zE rfl (dj := 27) rfl (zE rfl (dj := 27) rfl ?_))))))))
 exact zE rfl (dj := 27) rfl (zE rfl (dj := 27) rfl (zE rfl (dj := 27) rfl (zE rfl (dj := 22) rfl (oP 11 rfl rfl g31 (oV (zr rfl g31 rfl) (hJ30 _ () h _ (ji 24 35 rfl rfl rfl)))))))


theorem zkC : ∀  {r : (List Str)}, zfY  = some r → Ctr Tryd.prog 95 [] [] (fun R H => R = oneOf [isv (r)] ∧ H = []) := by
 intro  r h
 unfold zfY at h
 refine zu Tryd.func95 rfl fun w0 S0 hT => wsr (oA rfl (rnf (wsr ?_)))
 refine oT (zad (l := ([(Str.mk [68, 69, 70, 73, 78, 73, 84, 73, 79, 78, 83]), (Str.mk [69, 88, 80, 76, 73, 67, 73, 84]), (Str.mk [73, 77, 80, 76, 73, 67, 73, 84]), (Str.mk [65, 85, 84, 79, 77, 65, 84, 73, 67]), (Str.mk [84, 65, 71, 83]), (Str.mk [66, 69, 71, 73, 78]), (Str.mk [69, 78, 68]), (Str.mk [66, 79, 79, 76, 69, 65, 78]), (Str.mk [73, 78, 84, 69, 71, 69, 82]), (Str.mk [69, 78, 85, 77, 69, 82, 65, 84, 69, 68]), (Str.mk [78, 85, 76, 76]), (Str.mk [79, 67, 84, 69, 84]), (Str.mk [83, 84, 82, 73, 78, 71]), (Str.mk [85, 84, 70, 56, 83, 116, 114, 105, 110, 103]), (Str.mk [83, 69, 81, 85, 69, 78, 67, 69]), (Str.mk [83, 69, 84]), (Str.mk [67, 72, 79, 73, 67, 69]), (Str.mk [79, 70]), (Str.mk [79, 80, 84, 73, 79, 78, 65, 76]), (Str.mk [68, 69, 70, 65, 85, 76, 84]), (Str.mk [83, 73, 90, 69]), (Str.mk [77, 73, 78]), (Str.mk [77, 65, 88]), (Str.mk [84, 82, 85, 69]), (Str.mk [70, 65, 76, 83, 69])] : (List Str))) el27 (.cons rfl hI (.cons rfl hI (.cons rfl hI (.cons rfl hI (.cons rfl hI (.cons rfl hI (.cons rfl hI (.cons rfl hI (.cons rfl hI (.cons rfl hI (.cons rfl hI (.cons rfl hI (.cons rfl hI (.cons rfl hI (.cons rfl hI (.cons rfl hI (.cons rfl hI (.cons rfl hI (.cons rfl hI (.cons rfl hI (.cons rfl hI (.cons rfl hI (.cons rfl hI (.cons rfl hI (.cons rfl hI .nil))))))))))))))))))))))))) rfl rfl ?_)
 refine oA rfl (rnf (zK ?_))
 cases h
 exact zo (.as rfl zO .nil) .nil ⟨rfl, rfl⟩


theorem zha : ∀ {a_l : (List Str)} {a_x : Str} {r : Bool}, zdO a_l a_x = some r → Ctr Tryd.prog 86 [isv (a_l), isv (a_x)] [] (fun R H => R = oneOf [isv (r)] ∧ H = []) := by
 intro a_l a_x r h
 unfold zdO at h
 refine zu Tryd.func86 rfl fun w0 S0 hT => wsr (oA rfl (rnf (zj (wsr (oA rfl (rnf (zt ?_)))))))
 refine zaQ (ι := Int) (γ := Unit) (fun q1 g1 => [(5, isv (q1))]) (fun q1 g1 => []) h () (za (j := 5) rfl hI zd) .nil (fun L2 q1 g1 Q7 h hL2 eL2 rL2 => zj (wsr (oM rfl (oM rfl (oV (zaR (l := a_l) rfl hI sl27) (oV (zai rfl rfl) (rnf (zg h rfl (fun _ h => ?_) (fun _ h => ?_)))))))))
 ·refine wkf (zj (zt (wsr (oM rfl (oM rfl (zb h fun y5 hy5 h => oV (zaB (l := a_l) rfl hI rfl sl27 hy5) (oV (zf ty9 rfl) ?_)))))))
  refine oM rfl (oV (zcE eq9 rfl rfl) (rnf (zg h rfl (fun _ h => ?_) (fun _ h => ?_))))
  ·refine wsr (oA rfl (rnf (zK (zG (zB (rL2 _ (zG (zB ?_))))))))
   cases h
   exact zo (.tmp rfl .nil) .nil ⟨rfl, rfl⟩
  refine zab (zi (zy (zh (oM rfl (zz h fun q6 h => oV (zaa rfl rfl q6) (oA rfl (zx ?_)))))))
  exact hL2 _ () h _ (ji 14 5 rfl rfl rfl)
 refine zae (zU (eL2 _ _ (zF (zy (wsr (oA rfl (rnf (zK ?_))))))))
 cases h
 exact zo (.tmp rfl .nil) .nil ⟨rfl, rfl⟩


theorem zlu : ∀ {a_s : Str} {r : Bool}, ze8 a_s = some r → Ctr Tryd.prog 70 [isv (a_s)] [] (fun R H => R = oneOf [isv (r)] ∧ H = []) := by
 intro a_s r h
 unfold ze8 at h
 refine zu Tryd.func70 rfl fun w0 S0 hT => wsr (oA rfl (rnf (wsr (zb h fun y1 hy1 h => oT (zA (zkC hy1) hT .nil .nil (oM rfl (zb h fun y2 hy2 h => ?_)))))))
 refine oT (zA (zha hy2) hT (s2 rfl rfl) .nil (oA rfl (rnf (zK ?_))))
 cases h
 exact zo (.tmp rfl .nil) .nil ⟨rfl, rfl⟩


theorem zke : ∀ {a_s : Str} {a_i : Int} {r : Int}, zdM a_s a_i = some r → Ctr Tryd.prog 72 [isv (a_s), isv (a_i)] [] (fun R H => R = oneOf [isv (r)] ∧ H = []) := by
 intro a_s a_i r h
 unfold zdM at h
 refine zu Tryd.func72 rfl fun w0 S0 hT => wsr (oA rfl (rnf (wsr (oM rfl (oM rfl (zb h fun y1 hy1 h => oV (zbL y1 st9 rfl rfl hy1) ?_))))))
 refine oV (zcE eq5 rfl rfl) (oA rfl (rnf (zj (wsr (oM rfl (rnf (zdx (ι := Int) (γ := Unit) (fun q2 g2 => [(1, isv (q2))]) (fun q2 g2 => []) .nil h (fun q2 g2 h => ?_) (fun J3 h hJ3 => ?_))))))))
 ·refine wsr (oM rfl (oA rfl (rnf (wsr (oA rfl (rnf (zj (zt ?_))))))))
  refine zaQ (ι := Int × UInt64) (γ := Unit) (fun q5 g5 => [(1, isv (q5.1)), (7, isv (q5.2))]) (fun q5 g5 => []) h () (za (j := 1) rfl hI (za (j := 7) rfl hI zd)) .nil (fun L6 q5 g5 Q91 h hL6 eL6 rL6 => zj (wsr (oM rfl (oM rfl (oV (zdH st9 rfl) (oV (zai rfl rfl) (oM rfl (zaz (jb 26) je .nil h 5 rfl (fun q49 g49 h => ?_) (fun J50 h hJ50 => ?_)))))))))
  ·refine rnf (zg h rfl (fun _ h => ?_) (fun _ h => ?_))
   ·refine wkf (zt (zj (wsr (oM rfl (oM rfl (zz h fun q54 h => oV (zaL rfl rfl q54) (oV (zai rfl rfl) ?_)))))))
    refine rnf (zdx (ι := UInt64) (γ := Unit) (fun q55 g55 => [(7, isv (q55))]) (fun q55 g55 => []) .nil h (fun q55 g55 h => ?_) (fun J56 h hJ56 => ?_))
    ·exact zh (oM rfl (zz h fun q58 h => oV (zaa rfl rfl q58) (oA rfl (zx (zi (hL6 _ () h _ (ze 16 rfl rfl (za (j := 1) rfl hI (za (j := 7) rfl hI zd)) .nil)))))))
    refine zg h rfl (fun _ h => ?_) (fun _ h => ?_)
    ·refine zh (oM rfl (oV (zml rfl rfl) (oM rfl (oM rfl (zb h fun y57 hy57 h => oV (zbL y57 st9 rfl rfl hy57) (oV (zkb rfl rfl) (oV (zev Tryd.underlying5 Tryd.underlying26 rfl) ?_)))))))
     exact oV (zmd rfl rfl) (oA rfl (zx (hJ56 _ () h _ (ji 9 7 rfl rfl rfl))))
    exact zab (hJ56 _ () h _ (ji 0 7 rfl rfl rfl))
   refine zae (zU (eL6 _ _ (zF (zy (wsr (oM rfl (oM rfl (zz h fun q59 h => ?_))))))))
   refine oV (zaL rfl rfl q59) (oA rfl (rnf (zj (wsr (oM rfl (oV (zai rfl rfl) (oM rfl (zaz (jb 49) je .nil h 3 rfl (fun q60 g60 h => ?_) (fun J61 h hJ61 => ?_)))))))))
   ·refine oM rfl (zaz (jb 59) je .nil h 9 rfl (fun q63 g63 h => ?_) (fun J64 h hJ64 => ?_))
    ·refine oM rfl (zaz (jb 68) je .nil h 8 rfl (fun q70 g70 h => ?_) (fun J71 h hJ71 => ?_))
     ·refine oM rfl (zaz (jb 74) je .nil h 5 rfl (fun q77 g77 h => ?_) (fun J78 h hJ78 => ?_))
      ·refine oM rfl (zaz (jb 78) je .nil h 3 rfl (fun q82 g82 h => ?_) (fun J83 h hJ83 => ?_))
       ·refine oM rfl (zaz (jb 86) je .nil h 7 rfl (fun q85 g85 h => ?_) (fun J86 h hJ86 => ?_))
        ·refine rnf (zg h rfl (fun _ h => ?_) (fun _ h => ?_))
         ·refine wsr (oA rfl (rnf (zK (zB ?_))))
          cases h
          exact zo (.tmp rfl .nil) .nil ⟨rfl, rfl⟩
         refine wkf (wsr (oM rfl (oA rfl (rnf (zK ?_)))))
         cases h
         exact zo (.tmp rfl .nil) .nil ⟨rfl, rfl⟩
        refine zC (j := 79) h rfl (fun g87 h => ?_) (fun g87 h => ?_)
        ·exact oP 79 rfl rfl g87 (oP 79 rfl rfl g87 (oP 79 rfl rfl g87 (zE rfl (dj := 82) rfl (zE rfl (dj := 82) rfl (oP 79 rfl rfl g87 (oV (zs rfl g87 rfl) (hJ86 _ () h _ (ji 7 86 rfl rfl rfl))))))))
        refine oK 79 rfl rfl rfl g87 (zq rfl) (oK 79 rfl rfl rfl g87 (zbt rfl) (oK 79 rfl rfl rfl g87 (zq rfl) (zaz (jb 85) je .nil h 3 rfl (fun q88 g88 h => ?_) (fun J89 h hJ89 => ?_))))
        ·exact oV (zr rfl g87 rfl) (hJ86 _ () h _ (ji 5 86 rfl rfl rfl))
        refine zC (j := 82) h rfl (fun g90 h => ?_) (fun g90 h => ?_)
        ·exact oK 82 rfl rfl rfl g90 (zq rfl) (oK 82 rfl rfl rfl g90 (ziq rfl rfl) (oK 79 rfl rfl rfl g87 (zs rfl g90 rfl) (hJ89 _ () h _ (ji 3 85 rfl rfl rfl))))
        exact oP 82 rfl rfl g90 (oP 82 rfl rfl g90 (oK 79 rfl rfl rfl g87 (zr rfl g90 rfl) (hJ89 _ () h _ (ji 3 85 rfl rfl rfl))))
       refine zC (j := 75) h rfl (fun g84 h => ?_) (fun g84 h => ?_)
       ·exact oP 75 rfl rfl g84 (oP 75 rfl rfl g84 (oV (zs rfl g84 rfl) (hJ83 _ () h _ (ji 3 78 rfl rfl rfl))))
       exact oK 75 rfl rfl rfl g84 (zq rfl) (oK 75 rfl rfl rfl g84 (zoK rfl rfl) (oV (zr rfl g84 rfl) (hJ83 _ () h _ (ji 3 78 rfl rfl rfl))))
      refine zC (j := 69) h rfl (fun g79 h => ?_) (fun g79 h => ?_)
      ·exact oP 69 rfl rfl g79 (oP 69 rfl rfl g79 (oP 69 rfl rfl g79 (oP 69 rfl rfl g79 (oV (zs rfl g79 rfl) (hJ78 _ () h _ (ji 5 74 rfl rfl rfl))))))
      exact oK 69 rfl rfl rfl g79 (zq rfl) (oK 69 rfl rfl rfl g79 (zq rfl) (zb h fun y80 hy80 h => zaF rfl rfl (dj := 69) rfl g79 (zA (zeG hy80) hT (s2 rfl rfl) .nil (zb h fun y81 hy81 h => zaF rfl rfl (dj := 69) rfl g79 (zA (zf9 hy81) hT (s1 rfl) .nil (oV (zr rfl g79 rfl) (hJ78 _ () h _ (ji 5 74 rfl rfl rfl))))))))
     refine zC (j := 60) h rfl (fun g72 h => ?_) (fun g72 h => ?_)
     ·exact oP 60 rfl rfl g72 (oP 60 rfl rfl g72 (zE rfl (dj := 62) rfl (zE rfl (dj := 62) rfl (zE rfl (dj := 62) rfl (zE rfl (dj := 62) rfl (oP 60 rfl rfl g72 (oV (zs rfl g72 rfl) (hJ71 _ () h _ (ji 8 68 rfl rfl rfl)))))))))
     refine oK 60 rfl rfl rfl g72 (zq rfl) (oK 60 rfl rfl rfl g72 (zq rfl) (zaz (jb 67) je .nil h 5 rfl (fun q73 g73 h => ?_) (fun J74 h hJ74 => ?_)))
     ·exact oV (zr rfl g72 rfl) (hJ71 _ () h _ (ji 4 68 rfl rfl rfl))
     refine zC (j := 62) h rfl (fun g75 h => ?_) (fun g75 h => ?_)
     ·exact oK 62 rfl rfl rfl g75 (zq rfl) (oK 62 rfl rfl rfl g75 (zq rfl) (zb h fun y76 hy76 h => oK 62 rfl rfl rfl g75 (zbL y76 st9 rfl rfl hy76) (oK 62 rfl rfl rfl g75 (zcE eq5 rfl rfl) (oK 60 rfl rfl rfl g72 (zs rfl g75 rfl) (hJ74 _ () h _ (ji 5 67 rfl rfl rfl))))))
     exact oP 62 rfl rfl g75 (oP 62 rfl rfl g75 (oP 62 rfl rfl g75 (oP 62 rfl rfl g75 (oK 60 rfl rfl rfl g72 (zr rfl g75 rfl) (hJ74 _ () h _ (ji 5 67 rfl rfl rfl))))))
    refine zC (j := 50) h rfl (fun g65 h => ?_) (fun g65 h => ?_)
    ·refine oP 50 rfl rfl g65 (oP 50 rfl rfl g65 (oP 50 rfl rfl g65 (zE rfl (dj := 53) rfl (zE rfl (dj := 53) rfl (zE rfl (dj := 53) rfl (zE rfl (dj := 53) rfl (oP 50 rfl rfl g65 (oV (zs rfl g65 rfl) ?_))))))))
     exact hJ64 _ () h _ (ji 9 59 rfl rfl rfl)
    refine oK 50 rfl rfl rfl g65 (zq rfl) (oK 50 rfl rfl rfl g65 (zbu rfl rfl) (oK 50 rfl rfl rfl g65 (zq rfl) (zaz (jb 58) je .nil h 5 rfl (fun q66 g66 h => ?_) (fun J67 h hJ67 => ?_))))
    ·exact oV (zr rfl g65 rfl) (hJ64 _ () h _ (ji 5 59 rfl rfl rfl))
    refine zC (j := 53) h rfl (fun g68 h => ?_) (fun g68 h => ?_)
    ·exact oK 53 rfl rfl rfl g68 (zq rfl) (oK 53 rfl rfl rfl g68 (zq rfl) (zb h fun y69 hy69 h => oK 53 rfl rfl rfl g68 (zbL y69 st9 rfl rfl hy69) (oK 53 rfl rfl rfl g68 (zcE eq5 rfl rfl) (oK 50 rfl rfl rfl g65 (zs rfl g68 rfl) (hJ67 _ () h _ (ji 5 58 rfl rfl rfl))))))
    exact oP 53 rfl rfl g68 (oP 53 rfl rfl g68 (oP 53 rfl rfl g68 (oP 53 rfl rfl g68 (oK 50 rfl rfl rfl g65 (zr rfl g68 rfl) (hJ67 _ () h _ (ji 5 58 rfl rfl rfl))))))
   refine zC (j := 46) h rfl (fun g62 h => ?_) (fun g62 h => ?_)
   ·exact oP 46 rfl rfl g62 (oP 46 rfl rfl g62 (oV (zs rfl g62 rfl) (hJ61 _ () h _ (ji 3 49 rfl rfl rfl))))
   exact oK 46 rfl rfl rfl g62 (zq rfl) (oK 46 rfl rfl rfl g62 (zbu rfl rfl) (oV (zr rfl g62 rfl) (hJ61 _ () h _ (ji 3 49 rfl rfl rfl))))
  refine zC (j := 21) h rfl (fun g51 h => ?_) (fun g51 h => ?_)
  ·exact oK 21 rfl rfl rfl g51 (zq rfl) (oK 21 rfl rfl rfl g51 (zq rfl) (zb h fun y52 hy52 h => oK 21 rfl rfl rfl g51 (zbL y52 st9 rfl rfl hy52) (zb h fun y53 hy53 h => zaF rfl rfl (dj := 21) rfl g51 (zA (zez hy53) hT (s1 rfl) .nil (oV (zs rfl g51 rfl) (hJ50 _ () h _ (ji 5 26 rfl rfl rfl)))))))
  exact oP 21 rfl rfl g51 (oP 21 rfl rfl g51 (oP 21 rfl rfl g51 (oP 21 rfl rfl g51 (oV (zr rfl g51 rfl) (hJ50 _ () h _ (ji 5 26 rfl rfl rfl))))))
 refine zg h rfl (fun _ h => ?_) (fun _ h => ?_)
 ·exact zh (oM rfl (zz h fun q4 h => oV (zaa rfl rfl q4) (oA rfl (zx (hJ3 _ () h _ (ji 3 1 rfl rfl rfl))))))
 exact zab (hJ3 _ () h _ (ji 0 1 rfl rfl rfl))


theorem zmM : ∀ {a_s : Str} {a_i : Int} {r : Int × Str}, zge a_s a_i = some r → Ctr Tryd.prog 73 [isv (a_s), isv (a_i)] [] (fun R H => R = oneOf [isv (r.1), isv (r.2)] ∧ H = []) := by
 intro a_s a_i r h
 unfold zge at h
 refine zu Tryd.func73 rfl fun w0 S0 hT => wsr (oA rfl (oA rfl (rnf (wsr (oM rfl (zz h fun q1 h => oV (zaa rfl rfl q1) ?_))))))
 refine oA rfl (rnf (wsr (oM rfl (oA rfl (rnf (zj (zt (zaQ (ι := Int) (γ := Unit) (fun q2 g2 => [(1, isv (q2))]) (fun q2 g2 => []) h () (za (j := 1) rfl hI zd) .nil (fun L3 q2 g2 Q58 h hL3 eL3 rL3 => ?_)))))))))
 refine zj (wsr (oM rfl (oM rfl (oV (zdH st9 rfl) (oV (zai rfl rfl) (oM rfl (zaz (jb 31) je .nil h 17 rfl (fun q31 g31 h => ?_) (fun J32 h hJ32 => ?_))))))))
 ·refine rnf (zg h rfl (fun _ h => ?_) (fun _ h => ?_))
  ·refine wkf (zt (zh (oM rfl (zz h fun q44 h => oV (zaa rfl rfl q44) (oA rfl (zx (zi ?_)))))))
   exact hL3 _ () h _ (ji 10 1 rfl rfl rfl)
  refine zae (zU (eL3 _ _ (zF (zy (zj (wsr (oM rfl (oM rfl ?_))))))))
  refine zz h fun q45 h => oV (zaL rfl rfl q45) (zar h fun q46 h => oV (zpd rfl rfl q46) (oV (zbP rfl rfl) (oM rfl (zaz (jb 44) je .nil h 5 rfl (fun q47 g47 h => ?_) (fun J48 h hJ48 => ?_)))))
  ·refine oM rfl (zaz (jb 51) je .nil h 6 rfl (fun q51 g51 h => ?_) (fun J52 h hJ52 => ?_))
   ·refine rnf (zg h rfl (fun _ h => ?_) (fun _ h => ?_))
    ·refine wsr (oA rfl (oA rfl (rnf (zK (zB ?_)))))
     cases h
     exact zo (.tmp rfl (.tmp rfl .nil)) .nil ⟨rfl, rfl⟩
    refine wkf (zj (zS (.v 0 (.v 1 (.v 2 (.v 3 (.v 4 (.v 5 (.v 6 (.v 7 .nil)))))))) moOrd (by kernel_rfl) ?_))
    refine rvm rfl rfl (zz h fun q56 h => zp rfl (zaa rfl rfl q56) (rvm rfl rfl (rvm rfl rfl (rvm rfl rfl (zI h fun q57 h => zp rfl (zik st9 rfl (.inr ⟨_, rfl, rfl⟩) (.inr ⟨_, rfl, rfl⟩) q57.1 q57.2.1 q57.2.2) (zp rfl (zaX rfl) ?_))))))
    refine zp rfl (zaX rfl) (zac (zy (zK ?_)))
    cases h
    exact zo (.tmp rfl (.tmp rfl .nil)) .nil ⟨rfl, rfl⟩
   refine zC (j := 45) h rfl (fun g53 h => ?_) (fun g53 h => ?_)
   ·exact oP 45 rfl rfl g53 (oP 45 rfl rfl g53 (oP 45 rfl rfl g53 (oP 45 rfl rfl g53 (oP 45 rfl rfl g53 (oV (zs rfl g53 rfl) (hJ52 _ () h _ (ji 6 51 rfl rfl rfl)))))))
   exact oK 45 rfl rfl rfl g53 (zq rfl) (oK 45 rfl rfl rfl g53 (zq rfl) (zz h fun q54 h => oK 45 rfl rfl rfl g53 (zaa rfl rfl q54) (zb h fun y55 hy55 h => zaF rfl rfl (dj := 45) rfl g53 (zA (zeG hy55) hT (s2 rfl rfl) .nil (oK 45 rfl rfl rfl g53 (ziK eq5 rfl rfl) (oV (zr rfl g53 rfl) (hJ52 _ () h _ (ji 6 51 rfl rfl rfl))))))))
  refine zC (j := 39) h rfl (fun g49 h => ?_) (fun g49 h => ?_)
  ·exact oP 39 rfl rfl g49 (oP 39 rfl rfl g49 (oP 39 rfl rfl g49 (oP 39 rfl rfl g49 (oV (zs rfl g49 rfl) (hJ48 _ () h _ (ji 5 44 rfl rfl rfl))))))
  exact oK 39 rfl rfl rfl g49 (zq rfl) (oK 39 rfl rfl rfl g49 (zq rfl) (zb h fun y50 hy50 h => zaF rfl rfl (dj := 39) rfl g49 (zA (zeG hy50) hT (s2 rfl rfl) .nil (oK 39 rfl rfl rfl g49 (ziK eq5 rfl rfl) (oV (zr rfl g49 rfl) (hJ48 _ () h _ (ji 5 44 rfl rfl rfl)))))))
 refine zC (j := 14) h rfl (fun g33 h => ?_) (fun g33 h => ?_)
 ·refine oK 14 rfl rfl rfl g33 (zq rfl) (oK 14 rfl rfl rfl g33 (zq rfl) (zb h fun y34 hy34 h => oK 14 rfl rfl rfl g33 (zbL y34 st9 rfl rfl hy34) (zb h fun y35 hy35 h => zaF rfl rfl (dj := 14) rfl g33 (zA (zez hy35) hT (s1 rfl) .nil (oK 14 rfl rfl rfl g33 (zq rfl) (zaz (jb 30) je .nil h 11 rfl (fun q36 g36 h => ?_) (fun J37 h hJ37 => ?_)))))))
  ·exact oV (zs rfl g33 rfl) (hJ32 _ () h _ (ji 7 31 rfl rfl rfl))
  refine zC (j := 19) h rfl (fun g38 h => ?_) (fun g38 h => ?_)
  ·refine oP 19 rfl rfl g38 (oP 19 rfl rfl g38 (oP 19 rfl rfl g38 (oP 19 rfl rfl g38 (oP 19 rfl rfl g38 (zE rfl (dj := 24) rfl (zE rfl (dj := 24) rfl (zE rfl (dj := 24) rfl (zE rfl (dj := 24) rfl ?_))))))))
   exact oP 19 rfl rfl g38 (oK 14 rfl rfl rfl g33 (zs rfl g38 rfl) (hJ37 _ () h _ (ji 11 30 rfl rfl rfl)))
  refine oK 19 rfl rfl rfl g38 (zq rfl) (oK 19 rfl rfl rfl g38 (zq rfl) (zb h fun y39 hy39 h => oK 19 rfl rfl rfl g38 (zbL y39 st9 rfl rfl hy39) (oK 19 rfl rfl rfl g38 (zi9 rfl rfl) (oK 19 rfl rfl rfl g38 (zq rfl) (zaz (jb 29) je .nil h 5 rfl (fun q40 g40 h => ?_) (fun J41 h hJ41 => ?_))))))
  ·exact oK 14 rfl rfl rfl g33 (zr rfl g38 rfl) (hJ37 _ () h _ (ji 7 30 rfl rfl rfl))
  refine zC (j := 24) h rfl (fun g42 h => ?_) (fun g42 h => ?_)
  ·exact oK 24 rfl rfl rfl g42 (zq rfl) (oK 24 rfl rfl rfl g42 (zq rfl) (zb h fun y43 hy43 h => oK 24 rfl rfl rfl g42 (zbL y43 st9 rfl rfl hy43) (oK 24 rfl rfl rfl g42 (zjb rfl rfl) (oK 19 rfl rfl rfl g38 (zs rfl g42 rfl) (hJ41 _ () h _ (ji 5 29 rfl rfl rfl))))))
  exact oP 24 rfl rfl g42 (oP 24 rfl rfl g42 (oP 24 rfl rfl g42 (oP 24 rfl rfl g42 (oK 19 rfl rfl rfl g38 (zr rfl g42 rfl) (hJ41 _ () h _ (ji 5 29 rfl rfl rfl))))))
 refine oP 14 rfl rfl g33 (oP 14 rfl rfl g33 (oP 14 rfl rfl g33 (oP 14 rfl rfl g33 (oP 14 rfl rfl g33 (zE rfl (dj := 19) rfl (zE rfl (dj := 19) rfl (zE rfl (dj := 19) rfl (zE rfl (dj := 19) rfl ?_))))))))
 exact zE rfl (dj := 19) rfl (zE rfl (dj := 24) rfl (zE rfl (dj := 24) rfl (zE rfl (dj := 24) rfl (zE rfl (dj := 24) rfl (zE rfl (dj := 19) rfl (oP 14 rfl rfl g33 (oV (zr rfl g33 rfl) (hJ32 _ () h _ (ji 17 31 rfl rfl rfl)))))))))


theorem zj2 : ∀ {a_s : Str} {a_i : Int} {r : Int × Str}, zdE a_s a_i = some r → Ctr Tryd.prog 74 [isv (a_s), isv (a_i)] [] (fun R H => R = oneOf [isv (r.1), isv (r.2)] ∧ H = []) := by
 intro a_s a_i r h
 unfold zdE at h
 refine zu Tryd.func74 rfl fun w0 S0 hT => wsr (oA rfl (oA rfl (rnf (wsr (oA rfl (rnf (zj ?_)))))))
 refine wsr (oM rfl (zz h fun q1 h => oV (zaa rfl rfl q1) (oA rfl (rnf (zt (zaQ (ι := Int × Str) (γ := Unit) (fun q2 g2 => [(1, isv (q2.1)), (6, isv (q2.2))]) (fun q2 g2 => []) h () (za (j := 1) rfl hI (za (j := 6) rfl hI zd)) .nil (fun L3 q2 g2 Q30 h hL3 eL3 rL3 => zj ?_)))))))
 refine wsr (oM rfl (oM rfl (oV (zdH st9 rfl) (oV (zai rfl rfl) (rnf (zg h rfl (fun _ h => ?_) (fun _ h => ?_)))))))
 ·refine wkf (zj (zdx (ι := Int × Str) (γ := Unit) (fun q17 g17 => [(1, isv (q17.1)), (6, isv (q17.2))]) (fun q17 g17 => []) .nil h (fun q17 g17 h => ?_) (fun J18 h hJ18 => ?_)))
  ·exact zh (oM rfl (zz h fun q29 h => oV (zaa rfl rfl q29) (oA rfl (zx (hL3 _ () h _ (ze 11 rfl rfl (za (j := 1) rfl hI (za (j := 6) rfl hI zd)) .nil))))))
  refine zt (zj (wsr (oM rfl (oM rfl (zb h fun y19 hy19 h => oV (zbL y19 st9 rfl rfl hy19) (oV (ziK eq5 rfl rfl) (rnf ?_)))))))
  refine zg h rfl (fun _ h => ?_) (fun _ h => ?_)
  ·refine wsr (oM rfl (oM rfl (oM rfl (oM rfl (zz h fun q20 h => oV (zaa rfl rfl q20) (zI h fun q21 h => oV (zik st9 rfl (.inr ⟨_, rfl, rfl⟩) (.inr ⟨_, rfl, rfl⟩) q21.1 q21.2.1 q21.2.2) ?_))))))
   exact zar h fun q22 h => oV (zo6 rfl rfl q22) (oA rfl (rnf (zae (zU (zF (hJ18 _ () h _ (ze 12 rfl rfl (za (j := 1) rfl hI (za (j := 6) rfl hI zd)) .nil)))))))
  refine wkf (zj (wsr (oM rfl (oM rfl (zz h fun q23 h => oV (zaa rfl rfl q23) (zb h fun y24 hy24 h => oT (zA (zeG hy24) hT (s2 rfl rfl) .nil ?_)))))))
  refine oV (ziK eq5 rfl rfl) (rnf (zg h rfl (fun _ h => ?_) (fun _ h => ?_)))
  ·refine zj (wsr (oM rfl (zb h fun y25 hy25 h => oT (zA (zhk hy25) hT (s1 rfl) .nil (oV (zbt rfl) (rnf (zg h rfl (fun _ h => ?_) (fun _ h => ?_))))))))
   ·refine wsr (oA rfl (oA rfl (rnf (zK (zB (zB (zG (zB ?_))))))))
    refine rL3 _ (zG (zB ?_))
    cases h
    exact zo (.tmp rfl (.tmp rfl .nil)) .nil ⟨rfl, rfl⟩
   refine wkf (wsr (oM rfl (zz h fun q26 h => oV (zaa rfl rfl q26) (oM rfl (oA rfl (oA rfl (rnf ?_)))))))
   refine zK (zB (zG (zB (rL3 _ (zG (zB ?_))))))
   cases h
   exact zo (.tmp rfl (.tmp rfl .nil)) .nil ⟨rfl, rfl⟩
  refine wkf (wsr (oM rfl (zar h fun q27 h => oV (zo6 rfl rfl q27) (oA rfl (rnf (zh (oM rfl ?_)))))))
  exact zz h fun q28 h => oV (zaa rfl rfl q28) (oA rfl (zx (zi (hJ18 _ () h _ (ze 15 rfl rfl (za (j := 1) rfl hI (za (j := 6) rfl hI zd)) .nil)))))
 refine zae (zU (eL3 _ _ (zF (zy (wsr (oA rfl (oA rfl (rnf ?_))))))))
 refine zK ?_
 cases h
 exact zo (.tmp rfl (.tmp rfl .nil)) .nil ⟨rfl, rfl⟩


theorem zlr : ∀ {a_s : Str} {a_i : Int} {r : Int}, zfl a_s a_i = some r → Ctr Tryd.prog 75 [isv (a_s), isv (a_i)] [] (fun R H => R = oneOf [isv (r)] ∧ H = []) := by
 intro a_s a_i r h
 unfold zfl at h
 refine zu Tryd.func75 rfl fun w0 S0 hT => wsr (oA rfl (rnf (wsr (oM rfl (oM rfl (zI h fun q1 h => oV (zik st9 rfl (.inr ⟨_, rfl, rfl⟩) (.inl ⟨rfl, rfl⟩) q1.1 q1.2.1 q1.2.2) ?_))))))
 refine oA rfl (rnf (wsr (oT (zad (l := ([(Str.mk [58, 58, 61]), (Str.mk [46, 46, 46]), (Str.mk [46, 46]), (Str.mk [91, 91]), (Str.mk [93, 93]), (Str.mk [123]), (Str.mk [125]), (Str.mk [91]), (Str.mk [93]), (Str.mk [40]), (Str.mk [41]), (Str.mk [44]), (Str.mk [58])] : (List Str))) el27 (.cons rfl hI (.cons rfl hI (.cons rfl hI (.cons rfl hI (.cons rfl hI (.cons rfl hI (.cons rfl hI (.cons rfl hI (.cons rfl hI (.cons rfl hI (.cons rfl hI (.cons rfl hI (.cons rfl hI .nil))))))))))))) rfl rfl (oA rfl (rnf (zj (wsr (oA rfl ?_)))))))))
 refine rnf (zt (zaQ (ι := Int) (γ := Unit) (fun q3 g3 => [(7, isv (q3))]) (fun q3 g3 => []) h () (za (j := 7) rfl hI zd) .nil (fun L4 q3 g3 Q19 h hL4 eL4 rL4 => zj (wsr (oM rfl (oM rfl (oV (zaR (l := ([(Str.mk [58, 58, 61]), (Str.mk [46, 46, 46]), (Str.mk [46, 46]), (Str.mk [91, 91]), (Str.mk [93, 93]), (Str.mk [123]), (Str.mk [125]), (Str.mk [91]), (Str.mk [93]), (Str.mk [40]), (Str.mk [41]), (Str.mk [44]), (Str.mk [58])] : (List Str))) rfl zO sl27) (oV (zai rfl rfl) ?_))))))))
 refine rnf (zg h rfl (fun _ h => ?_) (fun _ h => ?_))
 ·refine wkf (zj (zt (wsr (oM rfl (oM rfl (zb h fun y12 hy12 h => oV (zaB (l := ([(Str.mk [58, 58, 61]), (Str.mk [46, 46, 46]), (Str.mk [46, 46]), (Str.mk [91, 91]), (Str.mk [93, 93]), (Str.mk [123]), (Str.mk [125]), (Str.mk [91]), (Str.mk [93]), (Str.mk [40]), (Str.mk [41]), (Str.mk [44]), (Str.mk [58])] : (List Str))) rfl zO rfl sl27 hy12) (oV (zf ty9 rfl) ?_)))))))
  refine oV (zdH st9 rfl) (oA rfl (rnf (zj (zS (.v 0 (.v 1 (.v 2 (.v 3 (.v 4 (.v 5 (.v 6 (.v 7 (.v 8 (.v 9 (.v 10 (.v 11 (.v 12 (.v 13 .nil)))))))))))))) moOrd (by kernel_rfl) ?_))))
  refine rvm rfl rfl (zp rfl (zdH st9 rfl) (rvm rfl rfl (zp rfl (zed rfl rfl) (rvm rfl rfl (zcV (jb 37) je .nil h 9 rfl (fun q13 g13 h => ?_) (fun J14 h hJ14 => ?_))))))
  ·refine zac (zy (zg h rfl (fun _ h => ?_) (fun _ h => ?_)))
   ·refine wsr (oM rfl (oA rfl (rnf (zK (zG (zB (rL4 _ (zG ?_))))))))
    refine zB ?_
    cases h
    exact zo (.tmp rfl .nil) .nil ⟨rfl, rfl⟩
   refine zab (zi (zy (zh (oM rfl (zz h fun q18 h => oV (zaa rfl rfl q18) (oA rfl (zx ?_)))))))
   exact hL4 _ () h _ (ji 20 7 rfl rfl rfl)
  refine zav (j := 28) h rfl (fun g15 h => ?_) (fun g15 h => ?_)
  ·refine rvt 28 rfl rfl rfl g15 (zq rfl) (rvt 28 rfl rfl rfl g15 (zq rfl) (zI h fun q16 h => rvt 28 rfl rfl rfl g15 (zik st9 rfl (.inl ⟨rfl, rfl⟩) (.inr ⟨_, rfl, rfl⟩) q16.1 q16.2.1 q16.2.2) (rvt 28 rfl rfl rfl g15 (zq rfl) (rvt 28 rfl rfl rfl g15 (zq rfl) (zb h fun y17 hy17 h => rvt 28 rfl rfl rfl g15 (zaB (l := ([(Str.mk [58, 58, 61]), (Str.mk [46, 46, 46]), (Str.mk [46, 46]), (Str.mk [91, 91]), (Str.mk [93, 93]), (Str.mk [123]), (Str.mk [125]), (Str.mk [91]), (Str.mk [93]), (Str.mk [40]), (Str.mk [41]), (Str.mk [44]), (Str.mk [58])] : (List Str))) rfl zO rfl sl27 hy17) (rvt 28 rfl rfl rfl g15 (zf ty9 rfl) ?_))))))
   exact rvt 28 rfl rfl rfl g15 (zcE eq9 rfl rfl) (zp rfl (zs rfl g15 rfl) (hJ14 _ () h _ (ji 9 37 rfl rfl rfl)))
  refine rpv 28 rfl rfl rfl g15 (rpv 28 rfl rfl rfl g15 (rpv 28 rfl rfl rfl g15 (rpv 28 rfl rfl rfl g15 (rpv 28 rfl rfl rfl g15 (rpv 28 rfl rfl rfl g15 (rpv 28 rfl rfl rfl g15 (rpv 28 rfl rfl rfl g15 (zp rfl (zr rfl g15 rfl) ?_))))))))
  exact hJ14 _ () h _ (ji 9 37 rfl rfl rfl)
 refine zae (zU (eL4 _ _ (zF (zy (wsr (oA rfl (rnf (zK ?_))))))))
 cases h
 exact zo (.tmp rfl .nil) .nil ⟨rfl, rfl⟩


theorem zmO : ∀ {a_s : Str} {a_i : Int} {r : GTok × Int}, zgd a_s a_i = some r → Ctr Tryd.prog 49 [isv (a_s), isv (a_i)] [] (fun R H => R = oneOf [isv (r.1), isv (r.2)] ∧ H = []) := by
 intro a_s a_i r h
 unfold zgd at h
 refine zu Tryd.func49 rfl fun w0 S0 hT => wsr (oT (zag _ ze80 fun b1 => oA rfl (rnf (wsr (oM rfl (oV (zaE (z := (GTok.mk (0 : Int) (Str.mk []) a_i)) rfl bu80 ze80 (.cons GTok.f2 zlW rfl hI .nil)) (oT (zag _ ze80 fun b2 => ?_))))))))
 refine oT (zk (y' := ((GTok.mk (0 : Int) (Str.mk []) a_i) : GTok)) ty80 rfl rfl hI .here rfl (rnf (wsr (oM rfl (oM rfl (zb h fun y3 hy3 h => oV (zbL y3 st9 rfl rfl hy3) (oA rfl (rnf ?_))))))))
 refine wsr (oA rfl (rnf (zj (zdx (ι := Int × GTok) (γ := Unit) (fun q4 g4 => [(8, isv (q4.1))]) (fun q4 g4 => [boxE b2 (q4.2 : GTok)]) k1 h (fun q4 g4 h => ?_) (fun J5 h hJ5 => ?_)))))
 ·refine wsr (oT (zL (R := isv (q4.2)) ty80 rfl .here hI (oM rfl (oT (zk (y' := (q4.2 : GTok)) ty80 rfl rfl hI tH rfl (oA rfl (rnf (zK ?_))))))))
  cases h
  exact zo (.cell rfl .here ty80 (.tmp rfl .nil)) .nil ⟨rfl, rfl⟩
 refine zt (wsr (oM rfl (zb h fun y6 hy6 h => oT (zA (zf9 hy6) hT (s1 rfl) .nil (oA rfl (rnf (zg h rfl (fun _ h => ?_) (fun _ h => ?_))))))))
 ·refine wsr (oM rfl (oM rfl (zb h fun y7 hy7 h => oT (zA (zlZ hy7) hT (s2 rfl rfl) .nil (oA rfl (rnf (zj (wsr ?_))))))))
  refine oM rfl (oV (zai rfl rfl) (rnf (zg h rfl (fun _ h => ?_) (fun _ h => ?_))))
  ·refine wsr (oT (zL (R := isv ((GTok.mk (0 : Int) (Str.mk []) a_i))) ty80 rfl .here hI (oT (zk (y' := ((GTok.mk (0 : Int) (Str.mk []) a_i) : GTok)) ty80 rfl rfl hI tH rfl (oA rfl (rnf (zK (zB (zG (zB ?_))))))))))
   cases h
   exact zo (.cell rfl .here ty80 (.tmp rfl .nil)) .nil ⟨rfl, rfl⟩
  refine wkf (zj (zS (.v 0 (.v 1 (.v 2 (.v 3 (.v 4 (.t 5 (.v 6 (.t 7 .nil)))))))) moOrd (by kernel_rfl) ?_))
  refine rvm rfl rfl (rvm rfl rfl (rvm rfl rfl (zI h fun q8 h => zp rfl (zik st9 rfl (.inr ⟨_, rfl, rfl⟩) (.inr ⟨_, rfl, rfl⟩) q8.1 q8.2.1 q8.2.2) (zp rfl (zaj rfl GTok.f0 zcY) (zT rfl rfl (zk (y' := ((GTok.mk (2 : Int) (Str.mk []) a_i) : GTok)) ty3 rfl rfl hI .here rfl (zp rfl (zaj rfl GTok.f1 zdW) (zT rfl rfl (zk (y' := ((GTok.mk (2 : Int) (Str.mk ((a_s.b.take (y7).toNat).drop (a_i).toNat)) a_i) : GTok)) ty9 rfl rfl hI .here rfl ?_)))))))))
  refine zac (zy (zj (wsr (oM rfl (oV (zjb rfl rfl) (rnf (zdx (ι := GTok) (γ := Unit) (fun q9 g9 => []) (fun q9 g9 => [boxE b2 (q9 : GTok)]) k1 h (fun q9 g9 h => ?_) (fun J10 h hJ10 => ?_))))))))
  ·refine wsr (oV (zaj rfl GTok.f1 zdW) (oT (zL (R := isv (q9.text)) ty9 rfl .here hI (zb h fun y11 hy11 h => oT (zA (zlu hy11) hT (s1 rfl) .nil (rnf (zg h rfl (fun _ h => ?_) (fun _ h => ?_))))))))
   ·exact zh (oV (zaj rfl GTok.f0 zcY) (oT (zk (y' := ({ q9 with kind := (5 : Int) } : GTok)) ty3 rfl rfl hI .here rfl (zx (zi (hJ5 _ () h _ (ze 21 rfl rfl (za (j := 8) rfl hI zd) k2)))))))
   exact zab (zi (hJ5 _ () h _ (ze 20 rfl rfl (za (j := 8) rfl hI zd) k2)))
  refine zg h rfl (fun _ h => ?_) (fun _ h => ?_)
  ·exact zh (oV (zaj rfl GTok.f0 zcY) (oT (zk (y' := ((GTok.mk (1 : Int) (Str.mk ((a_s.b.take (y7).toNat).drop (a_i).toNat)) a_i) : GTok)) ty3 rfl rfl hI .here rfl (zx (hJ10 _ () h _ (ze 1 rfl rfl zd k2))))))
  exact zab (hJ10 _ () h _ (ze 0 rfl rfl zd k2))
 refine wsr (oM rfl (zb h fun y12 hy12 h => oT (zA (zez hy12) hT (s1 rfl) .nil (oM rfl (zaz (jb 66) je .nil h 10 rfl (fun q13 g13 h => ?_) (fun J14 h hJ14 => ?_))))))
 ·refine oA rfl (rnf (zg h rfl (fun _ h => ?_) (fun _ h => ?_)))
  ·refine wsr (oM rfl (oM rfl (zb h fun y22 hy22 h => oT (zA (zke hy22) hT (s2 rfl rfl) .nil (oA rfl (rnf (zj (wsr ?_))))))))
   refine oM rfl (oV (zai rfl rfl) (rnf (zg h rfl (fun _ h => ?_) (fun _ h => ?_))))
   ·refine wsr (oT (zL (R := isv ((GTok.mk (0 : Int) (Str.mk []) a_i))) ty80 rfl .here hI (oT (zk (y' := ((GTok.mk (0 : Int) (Str.mk []) a_i) : GTok)) ty80 rfl rfl hI tH rfl (oA rfl (rnf (zK (zB (zG (zB ?_))))))))))
    cases h
    exact zo (.cell rfl .here ty80 (.tmp rfl .nil)) .nil ⟨rfl, rfl⟩
   refine wkf (zS (.v 0 (.v 1 (.v 2 (.v 3 (.v 4 (.t 5 (.v 6 (.t 7 .nil)))))))) moOrd (by kernel_rfl) ?_)
   refine rvm rfl rfl (rvm rfl rfl (rvm rfl rfl (zI h fun q23 h => zp rfl (zik st9 rfl (.inr ⟨_, rfl, rfl⟩) (.inr ⟨_, rfl, rfl⟩) q23.1 q23.2.1 q23.2.2) (zp rfl (zaj rfl GTok.f0 zcY) (zT rfl rfl (zk (y' := ((GTok.mk (3 : Int) (Str.mk []) a_i) : GTok)) ty3 rfl rfl hI .here rfl (zp rfl (zaj rfl GTok.f1 zdW) (zT rfl rfl (zk (y' := ((GTok.mk (3 : Int) (Str.mk ((a_s.b.take (y22).toNat).drop (a_i).toNat)) a_i) : GTok)) ty9 rfl rfl hI .here rfl ?_)))))))))
   exact zac (zi (hJ5 _ () h _ (ze 20 rfl rfl (za (j := 8) rfl hI zd) k2)))
  refine wsr (oM rfl (oV (zcE eq5 rfl rfl) (oA rfl (rnf (zg h rfl (fun _ h => ?_) (fun _ h => ?_))))))
  ·refine wsr (oV (zaj rfl GTok.f0 zcY) (oT (zk (y' := ((GTok.mk (4 : Int) (Str.mk []) a_i) : GTok)) ty3 rfl rfl hI .here rfl (rnf (zh (oM rfl (oM rfl (zb h fun y24 hy24 h => oT (zA (zmM hy24) hT (s2 rfl rfl) .nil ?_)))))))))
   exact oM rfl (oV (zaD rfl rfl) (oV (zaD rfl rfl) (oA rfl (oV (zaj rfl GTok.f1 zdW) (oT (zk (y' := ((GTok.mk (4 : Int) y24.2 a_i) : GTok)) ty9 rfl rfl hI .here rfl (zx (zi (hJ5 _ () h _ (ze 20 rfl rfl (za (j := 8) rfl hI zd) k2))))))))))
  refine wsr (oM rfl (oV (zcE eq5 rfl rfl) (oA rfl (rnf (zg h rfl (fun _ h => ?_) (fun _ h => ?_))))))
  ·refine wsr (oV (zaj rfl GTok.f0 zcY) (oT (zk (y' := ((GTok.mk (7 : Int) (Str.mk []) a_i) : GTok)) ty3 rfl rfl hI .here rfl (rnf (zh (oM rfl (oM rfl (zb h fun y25 hy25 h => oT (zA (zj2 hy25) hT (s2 rfl rfl) .nil ?_)))))))))
   exact oM rfl (oV (zaD rfl rfl) (oV (zaD rfl rfl) (oA rfl (oV (zaj rfl GTok.f1 zdW) (oT (zk (y' := ((GTok.mk (7 : Int) y25.2 a_i) : GTok)) ty9 rfl rfl hI .here rfl (zx (zi (hJ5 _ () h _ (ze 23 rfl rfl (za (j := 8) rfl hI zd) k2))))))))))
  refine wsr (oM rfl (oM rfl (zb h fun y26 hy26 h => oT (zA (zlr hy26) hT (s2 rfl rfl) .nil (oA rfl (rnf (wsr (oM rfl ?_))))))))
  refine oV (zbu rfl rfl) (rnf (zg h rfl (fun _ h => ?_) (fun _ h => ?_)))
  ·refine zS (.v 0 (.v 1 (.v 2 (.v 3 (.v 4 (.v 5 (.v 6 (.v 7 (.v 8 (.v 9 (.t 10 (.v 11 (.t 12 (.v 13 .nil)))))))))))))) moOrd (by kernel_rfl) ?_
   refine rvm rfl rfl (rvm rfl rfl (rvm rfl rfl (rvm rfl rfl (zz h fun q27 h => zp rfl (zaa rfl rfl q27) (zI h fun q28 h => zp rfl (zik st9 rfl (.inr ⟨_, rfl, rfl⟩) (.inr ⟨_, rfl, rfl⟩) q28.1 q28.2.1 q28.2.2) (rvm rfl rfl ?_))))))
   refine rvm rfl rfl (zz h fun q29 h => zp rfl (zaa rfl rfl q29) (zp rfl (zaj rfl GTok.f0 zcY) (zT rfl rfl (zk (y' := ((GTok.mk (6 : Int) (Str.mk []) a_i) : GTok)) ty3 rfl rfl hI .here rfl (zp rfl (zaj rfl GTok.f1 zdW) (zT rfl rfl (zk (y' := ((GTok.mk (6 : Int) (Str.mk ((a_s.b.take ((a_i + y26)).toNat).drop (a_i).toNat)) a_i) : GTok)) ty9 rfl rfl hI .here rfl (zp rfl (zaX rfl) (zac ?_)))))))))
   exact zi (hJ5 _ () h _ (ze 32 rfl rfl (za (j := 8) rfl hI zd) k2))
  exact zab (zi (hJ5 _ () h _ (ze 20 rfl rfl (za (j := 8) rfl hI zd) k2)))
 refine zC (j := 56) h rfl (fun g15 h => ?_) (fun g15 h => ?_)
 ·refine oP 56 rfl rfl g15 (oP 56 rfl rfl g15 (oP 56 rfl rfl g15 (zE rfl (dj := 59) rfl (zE rfl (dj := 59) rfl (zE rfl (dj := 59) rfl (zE rfl (dj := 59) rfl (zE rfl (dj := 59) rfl (oP 56 rfl rfl g15 ?_))))))))
  exact oV (zs rfl g15 rfl) (hJ14 _ () h _ (ze 10 rfl rfl (za (j := 66) rfl hI zd) k2))
 refine oK 56 rfl rfl rfl g15 (zq rfl) (oK 56 rfl rfl rfl g15 (zcE eq5 rfl rfl) (oK 56 rfl rfl rfl g15 (zq rfl) (zaz (jb 65) je .nil h 6 rfl (fun q16 g16 h => ?_) (fun J17 h hJ17 => ?_))))
 ·exact oV (zr rfl g15 rfl) (hJ14 _ () h _ (ze 5 rfl rfl (za (j := 66) rfl hI zd) k2))
 refine zC (j := 59) h rfl (fun g18 h => ?_) (fun g18 h => ?_)
 ·refine oK 59 rfl rfl rfl g18 (zq rfl) (oK 59 rfl rfl rfl g18 (zq rfl) (zz h fun q19 h => oK 59 rfl rfl rfl g18 (zaa rfl rfl q19) (zb h fun y20 hy20 h => zaF rfl rfl (dj := 59) rfl g18 (zA (zeG hy20) hT (s2 rfl rfl) .nil (zb h fun y21 hy21 h => zaF rfl rfl (dj := 59) rfl g18 (zA (zez hy21) hT (s1 rfl) .nil (oK 56 rfl rfl rfl g15 (zs rfl g18 rfl) ?_)))))))
  exact hJ17 _ () h _ (ze 6 rfl rfl (za (j := 65) rfl hI zd) k2)
 exact oP 59 rfl rfl g18 (oP 59 rfl rfl g18 (oP 59 rfl rfl g18 (oP 59 rfl rfl g18 (oP 59 rfl rfl g18 (oK 56 rfl rfl rfl g15 (zr rfl g18 rfl) (hJ17 _ () h _ (ze 6 rfl rfl (za (j := 65) rfl hI zd) k2)))))))


theorem zkc : ∀ {za0 : Str} {r : (List GTok) × Int × Int}, zdb za0 = some r → Ctr Tryd.prog 22 [isv (za0)] [] (fun R H => R = oneOf [isv (r.1), isv (r.2.1), isv (r.2.2)] ∧ H = []) := by
 intro za0 r h
 unfold zdb at h
 refine zu Tryd.func22 rfl fun w0 S0 hT => wsr (oA rfl (oA rfl (oA rfl (rnf (zj (wsr (oM rfl ?_)))))))
 refine oV (zdH st9 rfl) (oV (zbu rfl rfl) (rnf (zg h rfl (fun _ h => ?_) (fun _ h => ?_))))
 ·refine wsr (oA rfl (oA rfl (oA rfl (rnf (zK (zB ?_))))))
  cases h
  exact zo (.as rfl (zdi (α := GTok)) (.tmp rfl (.tmp rfl .nil))) .nil ⟨rfl, rfl⟩
 refine wkf (wsr (oA rfl (rnf (wsr (oA rfl (rnf (zt (zgq (za1) ?_))))))))
 refine zaQ (ι := (List GTok) × Int) (γ := Tok) (fun q1 g1 => [(5, appv g1 (q1.1)), (6, isv (q1.2))]) (fun q1 g1 => [tokE g1]) h (none) (za (j := 5) rfl zbA (za (j := 6) rfl hI zd)) k1 (fun L2 q1 g1 Q22 h hL2 eL2 rL2 => zt (wsr (oM rfl (oM rfl (zb h fun y12 hy12 h => oT (zA (zkQ hy12) hT (s2 rfl rfl) .nil (oA rfl (rnf ?_))))))))
 refine zj (wsr (oM rfl (oM rfl (oV (zdH st9 rfl) (oV (zed rfl rfl) (rnf (zg h rfl (fun _ h => ?_) (fun _ h => ?_))))))))
 ·refine wsr (oM rfl (oM rfl (oV (zdH st9 rfl) (oV (zaE (z := (GTok.mk (0 : Int) (Str.mk []) (za0.b.length : Int))) rfl bu80 ze80 (.cons GTok.f2 zlW rfl hI .nil)) (oT (zad (l := ([(GTok.mk (0 : Int) (Str.mk []) (za0.b.length : Int))] : (List GTok))) el70 (.cons rfl hI .nil) rfl rfl (zar h fun q15 h => oT (zbs (l := q1.1) (m := ([(GTok.mk (0 : Int) (Str.mk []) (za0.b.length : Int))] : (List GTok))) zmk rfl hI rfl zO .here q15 fun t14 => oA rfl ?_))))))))
  refine oA rfl (oA rfl (rnf (zK (zB (zG (rL2 _ (zG ?_)))))))
  cases h
  exact zo (.as rfl zO (.tmp rfl (.tmp rfl .nil))) .nil ⟨rfl, rfl⟩
 refine wkf (wsr (oM rfl (oM rfl (zb h fun y16 hy16 h => oT (zA (zmO hy16) hT (s2 rfl rfl) .nil (oM rfl (oV (zaD rfl rfl) (oV (zaD rfl rfl) ?_))))))))
 refine oT (zag _ ze80 fun b17 => oT (zk (y' := (y16.1 : GTok)) ty80 rfl rfl hI .here rfl (zQ (zas 7 .here rfl) (oA rfl (rnf (zj (wsr (oM rfl (oV (zai rfl rfl) ?_)))))))))
 refine rnf (zg h rfl (fun _ h => ?_) (fun _ h => ?_))
 ·refine wsr (oM rfl (oA rfl (oA rfl (oA rfl (rnf (zK (zB (zG ?_))))))))
  refine rL2 _ (zG ?_)
  cases h
  exact zo (.as rfl (zdi (α := GTok)) (.tmp rfl (.tmp rfl .nil))) .nil ⟨rfl, rfl⟩
 refine wkf (wsr (oM rfl (oV (zf ty80 rfl) (oT (zad (l := ([y16.1] : (List GTok))) el70 (.cons rfl hI .nil) rfl rfl (zar h fun q20 h => oT (zbs (l := q1.1) (m := ([y16.1] : (List GTok))) zmk rfl hI rfl zO .here q20 fun t19 => oA rfl (rnf ?_))))))))
 exact zh (oM rfl (oA rfl (zx (zi (hL2 _ (t19) h _ (ze 28 rfl rfl (za (j := 5) rfl hI (za (j := 6) rfl hI zd)) k1))))))


theorem zaM : ∀ {a_x : GPar} {zH : Nat} {t_a_x1 : Tok} {t_a_x2 : Tok} {zJ : Vt} {r : GTok × GPar}, zaw a_x = some r → Ctr Tryd.prog 26 [ptrv zH (Fld.id ((List GTok) × Int × (Str × Int × (TList Str) × (TList Int) × Vh) × Int × Int))] [boxE zH ((a_x.l, a_x.at_, (a_x.m.name, a_x.m.tagging, (TList.mk t_a_x1 a_x.m.names), (TList.mk t_a_x2 a_x.m.types), (Vh.mk zJ a_x.m.nodes.length)), a_x.e, a_x.p) : ((List GTok) × Int × (Str × Int × (TList Str) × (TList Int) × Vh) × Int × Int)), tokE t_a_x1, tokE t_a_x2, vecE zJ (a_x.m.nodes : List GNode)] (fun R H => ∃ u1 : Tok, ∃ u2 : Tok, R = oneOf [isv (r.1)] ∧ H = [boxE zH ((r.2.l, r.2.at_, (r.2.m.name, r.2.m.tagging, (TList.mk u1 r.2.m.names), (TList.mk u2 r.2.m.types), (Vh.mk zJ r.2.m.nodes.length)), r.2.e, r.2.p)), tokE u1, tokE u2, vecE zJ (r.2.m.nodes)]) := by
 intro a_x zH t_a_x1 t_a_x2 zJ r h
 unfold zaw at h
 refine zu Tryd.func26 rfl fun w0 S0 hT => wsr (oT (zag _ ze80 fun b4 => rnf (zj (zc7 0 tH rfl (fun o5 hn6 => zS (.v 0 (.v 1 (.v 2 (.v 3 (.v 4 (.v 5 (.v 6 (.v 7 (.v 8 (.v 9 (.t 10 .nil))))))))))) moOrd (by kernel_rfl) ?_)))))
 refine rvm rfl rfl (zp rfl (zbr rfl) (zp rfl (zf2 rfl zhB zjG) (zp rfl (zdh (R := isv (a_x.l)) ty70 rfl (List.Mem.head _) hI) (rvm rfl rfl (zp rfl (zbr rfl) (zp rfl (zf2 rfl zgz zi7) (zp rfl (zdh (R := isv (a_x.at_)) ty3 rfl (List.Mem.head _) hI) (zb h fun y7 hy7 h => ?_))))))))
 refine zp rfl (zaB (l := a_x.l) rfl hI rfl sl70 hy7) (zp rfl (zf ty80 rfl) (zT rfl rfl (zk (y' := (y7 : GTok)) ty80 rfl rfl hI .here rfl (zac (zaP 0 hn6 rfl (zy (zK (zo (.cell rfl tH ty80 .nil) (.cons .here (.cons tH (.cons tH (.cons tH .nil)))) ?_))))))))
 cases h
 exact ⟨t_a_x1, t_a_x2, rfl, rfl⟩


theorem za9 : ∀ {a_x : GPar} {a_e : Int} {a_t : GTok} {zH : Nat} {t_a_x1 : Tok} {t_a_x2 : Tok} {zJ : Vt} {r : GPar}, zaG a_x a_e a_t = some r → Ctr Tryd.prog 27 [ptrv zH (Fld.id ((List GTok) × Int × (Str × Int × (TList Str) × (TList Int) × Vh) × Int × Int)), isv (a_e), isv (a_t)] [boxE zH ((a_x.l, a_x.at_, (a_x.m.name, a_x.m.tagging, (TList.mk t_a_x1 a_x.m.names), (TList.mk t_a_x2 a_x.m.types), (Vh.mk zJ a_x.m.nodes.length)), a_x.e, a_x.p) : ((List GTok) × Int × (Str × Int × (TList Str) × (TList Int) × Vh) × Int × Int)), tokE t_a_x1, tokE t_a_x2, vecE zJ (a_x.m.nodes : List GNode)] (fun R H => ∃ u1 : Tok, ∃ u2 : Tok, R = oneOf [] ∧ H = [boxE zH ((r.l, r.at_, (r.m.name, r.m.tagging, (TList.mk u1 r.m.names), (TList.mk u2 r.m.types), (Vh.mk zJ r.m.nodes.length)), r.e, r.p)), tokE u1, tokE u2, vecE zJ (r.m.nodes)]) := by
 intro a_x a_e a_t zH t_a_x1 t_a_x2 zJ r h
 unfold zaG at h
 refine zu Tryd.func27 rfl fun w0 S0 hT => wsr (oT (zbd (y := a_t) rfl hI (rnf (wsr (oM rfl (oV (zw rfl) (oV (zaj rfl zbH zc8) (oT (zL (R := isv (a_x.e)) ty31 rfl .here hI ?_)))))))))
 refine oV (zao rfl rfl) (rnf (zg h rfl (fun _ h => ?_) (fun _ h => ?_)))
 ·refine zS (.v 0 (.v 1 (.v 2 (.v 3 (.v 4 (.v 5 (.v 6 (.t 7 (.v 8 (.v 9 (.t 10 .nil))))))))))) moOrd (by kernel_rfl) ?_
  refine rvm rfl rfl (rvm rfl rfl (rvm rfl rfl (zp rfl (zZ rfl GTok.f2 zlW rfl (z := a_t.at_)) (zp rfl (zf ty3 rfl) (zp rfl (zw rfl) (zp rfl (zaj rfl zbH zc8) (zT rfl rfl (zk (y' := ((a_x.l, a_x.at_, (a_x.m.name, a_x.m.tagging, (TList.mk t_a_x1 a_x.m.names), (TList.mk t_a_x2 a_x.m.types), (Vh.mk zJ a_x.m.nodes.length)), a_e, a_x.p) : ((List GTok) × Int × (Str × Int × (TList Str) × (TList Int) × Vh) × Int × Int))) ty31 rfl rfl hI .here rfl (zp rfl (zw rfl) ?_)))))))))
  refine zp rfl (zaj rfl zk2 zny) (zT rfl rfl (zk (y' := ((a_x.l, a_x.at_, (a_x.m.name, a_x.m.tagging, (TList.mk t_a_x1 a_x.m.names), (TList.mk t_a_x2 a_x.m.types), (Vh.mk zJ a_x.m.nodes.length)), a_e, a_t.at_) : ((List GTok) × Int × (Str × Int × (TList Str) × (TList Int) × Vh) × Int × Int))) ty3 rfl rfl hI .here rfl (zac (zam .nil k4 ?_))))
  cases h
  exact ⟨t_a_x1, t_a_x2, rfl, rfl⟩
 refine zab (zam .nil k4 ?_)
 cases h
 exact ⟨t_a_x1, t_a_x2, rfl, rfl⟩


theorem zbx : ∀ {a_x : GPar} {zH : Nat} {t_a_x1 : Tok} {t_a_x2 : Tok} {zJ : Vt} {r : GTok × GPar}, za2 a_x = some r → Ctr Tryd.prog 50 [ptrv zH (Fld.id ((List GTok) × Int × (Str × Int × (TList Str) × (TList Int) × Vh) × Int × Int))] [boxE zH ((a_x.l, a_x.at_, (a_x.m.name, a_x.m.tagging, (TList.mk t_a_x1 a_x.m.names), (TList.mk t_a_x2 a_x.m.types), (Vh.mk zJ a_x.m.nodes.length)), a_x.e, a_x.p) : ((List GTok) × Int × (Str × Int × (TList Str) × (TList Int) × Vh) × Int × Int)), tokE t_a_x1, tokE t_a_x2, vecE zJ (a_x.m.nodes : List GNode)] (fun R H => ∃ u1 : Tok, ∃ u2 : Tok, R = oneOf [isv (r.1)] ∧ H = [boxE zH ((r.2.l, r.2.at_, (r.2.m.name, r.2.m.tagging, (TList.mk u1 r.2.m.names), (TList.mk u2 r.2.m.types), (Vh.mk zJ r.2.m.nodes.length)), r.2.e, r.2.p)), tokE u1, tokE u2, vecE zJ (r.2.m.nodes)]) := by
 intro a_x zH t_a_x1 t_a_x2 zJ r h
 unfold za2 at h
 refine zu Tryd.func50 rfl fun w0 S0 hT => wsr (oT (zag _ ze80 fun b4 => rnf (zj (zc7 0 tH rfl (fun o5 hn6 => zS (.v 0 (.v 1 (.v 2 (.v 3 (.v 4 (.v 5 (.v 6 (.v 7 (.v 8 (.v 9 (.t 10 (.t 11 .nil)))))))))))) moOrd (by kernel_rfl) ?_)))))
 refine rvm rfl rfl (zp rfl (zbr rfl) (zp rfl (zf2 rfl zhB zjG) (zp rfl (zdh (R := isv (a_x.l)) ty70 rfl (List.Mem.head _) hI) (rvm rfl rfl (zp rfl (zbr rfl) (zp rfl (zf2 rfl zgz zi7) (zp rfl (zdh (R := isv (a_x.at_)) ty3 rfl (List.Mem.head _) hI) (zb h fun y7 hy7 h => ?_))))))))
 refine zp rfl (zaB (l := a_x.l) rfl hI rfl sl70 hy7) (zp rfl (zf ty80 rfl) (zT rfl rfl (zag _ ze80 fun b8 => zT rfl rfl (zk (y' := (y7 : GTok)) ty80 rfl rfl hI .here rfl (zbj (zas 3 .here rfl) (zac (zaP 0 hn6 rfl (zy (zj ?_)))))))))
 refine zj (zc7 0 .here rfl (fun o9 hn10 => zS (.v 0 (.v 1 (.v 2 (.v 3 (.v 4 (.v 5 (.v 6 (.v 7 (.v 8 (.v 9 (.v 10 .nil))))))))))) moOrd (by kernel_rfl) ?_))
 refine rvm rfl rfl (zp rfl (zbr rfl) (zp rfl (zf2 rfl zgz zi7) (zp rfl (zdh (R := isv (a_x.at_)) ty3 rfl (List.Mem.head _) hI) (zz h fun q11 h => zp rfl (zaa rfl rfl q11) (rvm rfl rfl (zp rfl (zbr rfl) (zp rfl (zf2 rfl zhB zjG) ?_)))))))
 refine zp rfl (zdh (R := isv (a_x.l)) ty70 rfl (List.Mem.head _) hI) (zp rfl (zaR (l := a_x.l) rfl hI sl70) (zp rfl (zai rfl rfl) (zac (zaP 0 hn10 rfl (zy (zdx (ι := GPar) (γ := Tok × Tok) (fun q12 g12 => []) (fun q12 g12 => [boxE zH ((q12.l, q12.at_, (q12.m.name, q12.m.tagging, (TList.mk g12.1 q12.m.names), (TList.mk g12.2 q12.m.types), (Vh.mk zJ q12.m.nodes.length)), q12.e, q12.p) : ((List GTok) × Int × (Str × Int × (TList Str) × (TList Int) × Vh) × Int × Int)), tokE g12.1, tokE g12.2, vecE zJ (q12.m.nodes : List GNode)]) (.cons .here (.cons tH (.cons tH (.cons tH .nil)))) h (fun q12 g12 h => ?_) (fun J13 h hJ13 => ?_)))))))
 ·refine wsr (oV (zf ty80 rfl) (oT (zk (y' := (y7 : GTok)) ty80 rfl rfl hI (.there (.there tI)) rfl (rnf (zK (zo (.cell rfl .here ty80 .nil) (.cons tH (.cons tH (.cons tH (.cons tH .nil)))) ?_))))))
  cases h
  exact ⟨g12.1, g12.2, rfl, rfl⟩
 refine zg h rfl (fun _ h => ?_) (fun _ h => ?_)
 ·refine zh (oM rfl (oV (zw rfl) (oV (zaj rfl zgz zi7) (oT (zL (R := isv (a_x.at_)) ty3 rfl .here hI (zz h fun q14 h => oV (zaa rfl rfl q14) (oV (zw rfl) (oV (zaj rfl zgz zi7) ?_))))))))
  exact oT (zk (y' := ((a_x.l, (a_x.at_ + (1 : Int)), (a_x.m.name, a_x.m.tagging, (TList.mk t_a_x1 a_x.m.names), (TList.mk t_a_x2 a_x.m.types), (Vh.mk zJ a_x.m.nodes.length)), a_x.e, a_x.p) : ((List GTok) × Int × (Str × Int × (TList Str) × (TList Int) × Vh) × Int × Int))) ty3 rfl rfl hI .here rfl (zx (hJ13 _ (t_a_x1, t_a_x2) h _ (ze 7 rfl rfl zd (.cons .here (.cons tH (.cons tH (.cons tH k1))))))))
 exact zab (hJ13 _ (t_a_x1, t_a_x2) h _ (ze 0 rfl rfl zd (.cons .here (.cons tH (.cons tH (.cons tH k1))))))


theorem zcv : ∀ {a_x : GPar} {a_k : Int} {zH : Nat} {t_a_x1 : Tok} {t_a_x2 : Tok} {zJ : Vt} {r : Str × GPar}, za3 a_x a_k = some r → Ctr Tryd.prog 23 [ptrv zH (Fld.id ((List GTok) × Int × (Str × Int × (TList Str) × (TList Int) × Vh) × Int × Int)), isv (a_k)] [boxE zH ((a_x.l, a_x.at_, (a_x.m.name, a_x.m.tagging, (TList.mk t_a_x1 a_x.m.names), (TList.mk t_a_x2 a_x.m.types), (Vh.mk zJ a_x.m.nodes.length)), a_x.e, a_x.p) : ((List GTok) × Int × (Str × Int × (TList Str) × (TList Int) × Vh) × Int × Int)), tokE t_a_x1, tokE t_a_x2, vecE zJ (a_x.m.nodes : List GNode)] (fun R H => ∃ u1 : Tok, ∃ u2 : Tok, R = oneOf [isv (r.1)] ∧ H = [boxE zH ((r.2.l, r.2.at_, (r.2.m.name, r.2.m.tagging, (TList.mk u1 r.2.m.names), (TList.mk u2 r.2.m.types), (Vh.mk zJ r.2.m.nodes.length)), r.2.e, r.2.p)), tokE u1, tokE u2, vecE zJ (r.2.m.nodes)]) := by
 intro a_x a_k zH t_a_x1 t_a_x2 zJ r h
 unfold za3 at h
 refine zu Tryd.func23 rfl fun w0 S0 hT => wsr (oA rfl (rnf (wsr (oM rfl (zb h fun y4 hy4 h => oT (zM (zaM hy4) hT (s1 rfl) k4 (fun R H' hR => ?_)))))))
 obtain ⟨t5, t6, rfl, rfl⟩ := hR
 refine oT (zag _ ze80 fun b7 => oT (zk (y' := (y4.1 : GTok)) ty80 rfl rfl hI .here rfl (zQ (zas 5 .here rfl) (rnf (zj (wsr (oM rfl (oV (zw rfl) (oV (zaj rfl zbH zc8) ?_)))))))))
 refine oT (zL (R := isv (y4.2.e)) ty31 rfl .here hI (oV (zbP rfl rfl) (oM rfl (zaz (jb 18) je .nil h 5 rfl (fun q8 g8 h => ?_) (fun J9 h hJ9 => ?_)))))
 ·refine rnf (zg h rfl (fun _ h => ?_) (fun _ h => ?_))
  ·refine wsr (oM rfl (oV (zf ty80 rfl) (zb h fun y11 hy11 h => oT (zM (za9 hy11) hT (s3 rfl rfl rfl) k4 (fun R H' hR => ?_)))))
   obtain ⟨t12, t13, rfl, rfl⟩ := hR
   refine rnf (wsr (oA rfl (rnf (zK (zB (zo (.tmp rfl .nil) k4 ?_))))))
   cases h
   exact ⟨t12, t13, rfl, rfl⟩
  refine wkf (wsr (oM rfl (zb h fun y14 hy14 h => oT (zM (zbx hy14) hT (s1 rfl) k4 (fun R H' hR => ?_)))))
  obtain ⟨t15, t16, rfl, rfl⟩ := hR
  refine oV (zgR GTok.f1 rfl zdW rfl) (oA rfl (rnf (zK (zo (.tmp rfl .nil) k4 ?_))))
  cases h
  exact ⟨t15, t16, rfl, rfl⟩
 refine zC (j := 13) h rfl (fun g10 h => ?_) (fun g10 h => ?_)
 ·exact oP 13 rfl rfl g10 (oP 13 rfl rfl g10 (oP 13 rfl rfl g10 (oP 13 rfl rfl g10 (oV (zs rfl g10 rfl) (hJ9 _ () h _ (ze 5 rfl rfl (za (j := 18) rfl hI zd) k4))))))
 exact oK 13 rfl rfl rfl g10 (zZ rfl GTok.f0 zcY rfl (z := y4.1.kind)) (oK 13 rfl rfl rfl g10 (zf ty3 rfl) (oK 13 rfl rfl rfl g10 (zq rfl) (oK 13 rfl rfl rfl g10 (zbP rfl rfl) (oV (zr rfl g10 rfl) (hJ9 _ () h _ (ze 5 rfl rfl (za (j := 18) rfl hI zd) k4))))))


theorem zP : ∀ {a_x : GPar} {a_s : Str} {zH : Nat} {t_a_x1 : Tok} {t_a_x2 : Tok} {zJ : Vt} {r : Bool × GPar}, zN a_x a_s = some r → Ctr Tryd.prog 25 [ptrv zH (Fld.id ((List GTok) × Int × (Str × Int × (TList Str) × (TList Int) × Vh) × Int × Int)), isv (a_s)] [boxE zH ((a_x.l, a_x.at_, (a_x.m.name, a_x.m.tagging, (TList.mk t_a_x1 a_x.m.names), (TList.mk t_a_x2 a_x.m.types), (Vh.mk zJ a_x.m.nodes.length)), a_x.e, a_x.p) : ((List GTok) × Int × (Str × Int × (TList Str) × (TList Int) × Vh) × Int × Int)), tokE t_a_x1, tokE t_a_x2, vecE zJ (a_x.m.nodes : List GNode)] (fun R H => ∃ u1 : Tok, ∃ u2 : Tok, R = oneOf [isv (r.1)] ∧ H = [boxE zH ((r.2.l, r.2.at_, (r.2.m.name, r.2.m.tagging, (TList.mk u1 r.2.m.names), (TList.mk u2 r.2.m.types), (Vh.mk zJ r.2.m.nodes.length)), r.2.e, r.2.p)), tokE u1, tokE u2, vecE zJ (r.2.m.nodes)]) := by
 intro a_x a_s zH t_a_x1 t_a_x2 zJ r h
 unfold zN at h
 refine zu Tryd.func25 rfl fun w0 S0 hT => wsr (oA rfl (rnf (wsr (oM rfl (zb h fun y4 hy4 h => oT (zM (zaM hy4) hT (s1 rfl) k4 (fun R H' hR => ?_)))))))
 obtain ⟨t5, t6, rfl, rfl⟩ := hR
 refine oT (zag _ ze80 fun b7 => oT (zk (y' := (y4.1 : GTok)) ty80 rfl rfl hI .here rfl (zQ (zas 5 .here rfl) (rnf (zj (wsr (oM rfl (oV (zw rfl) (oV (zaj rfl zbH zc8) ?_)))))))))
 refine oT (zL (R := isv (y4.2.e)) ty31 rfl .here hI (oV (zao rfl rfl) (oM rfl (zaz (jb 22) je .nil h 9 rfl (fun q8 g8 h => ?_) (fun J9 h hJ9 => ?_)))))
 ·refine oM rfl (zaz (jb 28) je .nil h 5 rfl (fun q14 g14 h => ?_) (fun J15 h hJ15 => ?_))
  ·refine rnf (zg h rfl (fun _ h => ?_) (fun _ h => ?_))
   ·refine wsr (oM rfl (zb h fun y17 hy17 h => oT (zM (zbx hy17) hT (s1 rfl) k4 (fun R H' hR => ?_))))
    obtain ⟨t18, t19, rfl, rfl⟩ := hR
    refine rnf (wsr (oA rfl (rnf (zK (zB (zo (.tmp rfl .nil) k4 ?_))))))
    cases h
    exact ⟨t18, t19, rfl, rfl⟩
   refine wkf (wsr (oA rfl (rnf (zK (zo (.tmp rfl .nil) k4 ?_)))))
   cases h
   exact ⟨t5, t6, rfl, rfl⟩
  refine zC (j := 23) h rfl (fun g16 h => ?_) (fun g16 h => ?_)
  ·exact oK 23 rfl rfl rfl g16 (zZ rfl GTok.f1 zdW rfl (z := y4.1.text)) (oK 23 rfl rfl rfl g16 (zf ty9 rfl) (oK 23 rfl rfl rfl g16 (zq rfl) (oK 23 rfl rfl rfl g16 (zcE eq9 rfl rfl) (oV (zs rfl g16 rfl) (hJ15 _ () h _ (ze 5 rfl rfl (za (j := 28) rfl hI zd) k4))))))
  exact oP 23 rfl rfl g16 (oP 23 rfl rfl g16 (oP 23 rfl rfl g16 (oP 23 rfl rfl g16 (oV (zr rfl g16 rfl) (hJ15 _ () h _ (ze 5 rfl rfl (za (j := 28) rfl hI zd) k4))))))
 refine zC (j := 13) h rfl (fun g10 h => ?_) (fun g10 h => ?_)
 ·refine oK 13 rfl rfl rfl g10 (zZ rfl GTok.f0 zcY rfl (z := y4.1.kind)) (oK 13 rfl rfl rfl g10 (zf ty3 rfl) (oK 13 rfl rfl rfl g10 (zao rfl rfl) (oK 13 rfl rfl rfl g10 (zq rfl) (zaz (jb 21) je .nil h 4 rfl (fun q11 g11 h => ?_) (fun J12 h hJ12 => ?_)))))
  ·exact oV (zs rfl g10 rfl) (hJ9 _ () h _ (ze 6 rfl rfl (za (j := 22) rfl hI zd) k4))
  refine zC (j := 17) h rfl (fun g13 h => ?_) (fun g13 h => ?_)
  ·exact oP 17 rfl rfl g13 (oP 17 rfl rfl g13 (oP 17 rfl rfl g13 (oK 13 rfl rfl rfl g10 (zs rfl g13 rfl) (hJ12 _ () h _ (ze 4 rfl rfl (za (j := 21) rfl hI zd) k4)))))
  exact oK 17 rfl rfl rfl g13 (zZ rfl GTok.f0 zcY rfl (z := y4.1.kind)) (oK 17 rfl rfl rfl g13 (zf ty3 rfl) (oK 17 rfl rfl rfl g13 (zao rfl rfl) (oK 13 rfl rfl rfl g10 (zr rfl g13 rfl) (hJ12 _ () h _ (ze 4 rfl rfl (za (j := 21) rfl hI zd) k4)))))
 refine oP 13 rfl rfl g10 (oP 13 rfl rfl g10 (oP 13 rfl rfl g10 (oP 13 rfl rfl g10 (zE rfl (dj := 17) rfl (zE rfl (dj := 17) rfl (zE rfl (dj := 17) rfl (oP 13 rfl rfl g10 (oV (zr rfl g10 rfl) ?_))))))))
 exact hJ9 _ () h _ (ze 9 rfl rfl (za (j := 22) rfl hI zd) k4)


theorem zak : ∀ {a_x : GPar} {a_s : Str} {zH : Nat} {t_a_x1 : Tok} {t_a_x2 : Tok} {zJ : Vt} {r : GPar}, zV a_x a_s = some r → Ctr Tryd.prog 24 [ptrv zH (Fld.id ((List GTok) × Int × (Str × Int × (TList Str) × (TList Int) × Vh) × Int × Int)), isv (a_s)] [boxE zH ((a_x.l, a_x.at_, (a_x.m.name, a_x.m.tagging, (TList.mk t_a_x1 a_x.m.names), (TList.mk t_a_x2 a_x.m.types), (Vh.mk zJ a_x.m.nodes.length)), a_x.e, a_x.p) : ((List GTok) × Int × (Str × Int × (TList Str) × (TList Int) × Vh) × Int × Int)), tokE t_a_x1, tokE t_a_x2, vecE zJ (a_x.m.nodes : List GNode)] (fun R H => ∃ u1 : Tok, ∃ u2 : Tok, R = oneOf [] ∧ H = [boxE zH ((r.l, r.at_, (r.m.name, r.m.tagging, (TList.mk u1 r.m.names), (TList.mk u2 r.m.types), (Vh.mk zJ r.m.nodes.length)), r.e, r.p)), tokE u1, tokE u2, vecE zJ (r.m.nodes)]) := by
 intro a_x a_s zH t_a_x1 t_a_x2 zJ r h
 unfold zV at h
 refine zu Tryd.func24 rfl fun w0 S0 hT => wsr (oM rfl (oV (zw rfl) (oV (zaj rfl zbH zc8) (oT (zL (R := isv (a_x.e)) ty31 rfl .here hI (oV (zao rfl rfl) (oM rfl (zaz (ι := Bool × GPar) (γ := Tok × Tok) (fun q4 g4 => [(14, isv (q4.1))]) (fun q4 g4 => [boxE zH ((q4.2.l, q4.2.at_, (q4.2.m.name, q4.2.m.tagging, (TList.mk g4.1 q4.2.m.names), (TList.mk g4.2 q4.2.m.types), (Vh.mk zJ q4.2.m.nodes.length)), q4.2.e, q4.2.p) : ((List GTok) × Int × (Str × Int × (TList Str) × (TList Int) × Vh) × Int × Int)), tokE g4.1, tokE g4.2, vecE zJ (q4.2.m.nodes : List GNode)]) k4 h 5 rfl (fun q4 g4 h => ?_) (fun J5 h hJ5 => ?_)))))))))
 ·refine rnf (zg h rfl (fun _ h => ?_) (fun _ h => ?_))
  ·refine zh (oM rfl (oM rfl (zb h fun y10 hy10 h => oT (zM (zaM hy10) hT (s1 rfl) k4 (fun R H' hR => ?_)))))
   obtain ⟨t11, t12, rfl, rfl⟩ := hR
   refine zb h fun y13 hy13 h => oT (zM (za9 hy13) hT (s3 rfl rfl rfl) k4 (fun R H' hR => ?_))
   obtain ⟨t14, t15, rfl, rfl⟩ := hR
   refine zx (zam .nil k4 ?_)
   cases h
   exact ⟨t14, t15, rfl, rfl⟩
  refine zab (zam .nil k4 ?_)
  cases h
  exact ⟨g4.1, g4.2, rfl, rfl⟩
 refine zC (j := 9) h rfl (fun g6 h => ?_) (fun g6 h => ?_)
 ·refine oK 9 rfl rfl rfl g6 (zq rfl) (oK 9 rfl rfl rfl g6 (zq rfl) (zb h fun y7 hy7 h => zaF rfl rfl (dj := 9) rfl g6 (zM (zP hy7) hT (s2 rfl rfl) k4 (fun R H' hR => ?_))))
  obtain ⟨t8, t9, rfl, rfl⟩ := hR
  exact oK 9 rfl rfl rfl g6 (zbt rfl) (oV (zs rfl g6 rfl) (hJ5 _ (t8, t9) h _ (ze 5 rfl rfl (za (j := 14) rfl hI zd) k4)))
 exact oP 9 rfl rfl g6 (oP 9 rfl rfl g6 (oP 9 rfl rfl g6 (oP 9 rfl rfl g6 (oV (zr rfl g6 rfl) (hJ5 _ (t_a_x1, t_a_x2) h _ (ze 5 rfl rfl (za (j := 14) rfl hI zd) k4))))))


theorem zjQ : ∀ {a_t : GTok} {r : Bool}, zfh a_t = some r → Ctr Tryd.prog 51 [isv (a_t)] [] (fun R H => R = oneOf [isv (r)] ∧ H = []) := by
 intro a_t r h
 unfold zfh at h
 refine zu Tryd.func51 rfl fun w0 S0 hT => wsr (oT (zbd (y := a_t) rfl hI (oA rfl (rnf (wsr (oT (zad (l := ([(Str.mk [91]), (Str.mk [66, 79, 79, 76, 69, 65, 78]), (Str.mk [78, 85, 76, 76]), (Str.mk [85, 84, 70, 56, 83, 116, 114, 105, 110, 103]), (Str.mk [73, 78, 84, 69, 71, 69, 82]), (Str.mk [79, 67, 84, 69, 84]), (Str.mk [69, 78, 85, 77, 69, 82, 65, 84, 69, 68]), (Str.mk [83, 69, 84]), (Str.mk [67, 72, 79, 73, 67, 69]), (Str.mk [83, 69, 81, 85, 69, 78, 67, 69])] : (List Str))) el27 (.cons rfl hI (.cons rfl hI (.cons rfl hI (.cons rfl hI (.cons rfl hI (.cons rfl hI (.cons rfl hI (.cons rfl hI (.cons rfl hI (.cons rfl hI .nil)))))))))) rfl rfl (oA rfl (rnf ?_)))))))))
 refine zj (wsr (oA rfl (rnf (zt (zaQ (ι := Int) (γ := Unit) (fun q2 g2 => [(4, isv (q2))]) (fun q2 g2 => []) h () (za (j := 4) rfl hI zd) .nil (fun L3 q2 g2 Q20 h hL3 eL3 rL3 => zj (wsr (oM rfl ?_))))))))
 refine oM rfl (oV (zaR (l := ([(Str.mk [91]), (Str.mk [66, 79, 79, 76, 69, 65, 78]), (Str.mk [78, 85, 76, 76]), (Str.mk [85, 84, 70, 56, 83, 116, 114, 105, 110, 103]), (Str.mk [73, 78, 84, 69, 71, 69, 82]), (Str.mk [79, 67, 84, 69, 84]), (Str.mk [69, 78, 85, 77, 69, 82, 65, 84, 69, 68]), (Str.mk [83, 69, 84]), (Str.mk [67, 72, 79, 73, 67, 69]), (Str.mk [83, 69, 81, 85, 69, 78, 67, 69])] : (List Str))) rfl zO sl27) (oV (zai rfl rfl) (rnf (zg h rfl (fun _ h => ?_) (fun _ h => ?_)))))
 ·refine wkf (zj (zt (zj (zS (.v 0 (.v 1 (.v 2 (.v 3 (.v 4 (.v 5 (.v 6 (.v 7 (.v 8 (.v 9 (.v 10 (.v 11 (.v 12 (.v 13 (.v 14 (.v 15 (.v 16 .nil))))))))))))))))) moOrd (by kernel_rfl) ?_))))
  refine rvm rfl rfl (rvm rfl rfl (zb h fun y12 hy12 h => zp rfl (zaB (l := ([(Str.mk [91]), (Str.mk [66, 79, 79, 76, 69, 65, 78]), (Str.mk [78, 85, 76, 76]), (Str.mk [85, 84, 70, 56, 83, 116, 114, 105, 110, 103]), (Str.mk [73, 78, 84, 69, 71, 69, 82]), (Str.mk [79, 67, 84, 69, 84]), (Str.mk [69, 78, 85, 77, 69, 82, 65, 84, 69, 68]), (Str.mk [83, 69, 84]), (Str.mk [67, 72, 79, 73, 67, 69]), (Str.mk [83, 69, 81, 85, 69, 78, 67, 69])] : (List Str))) rfl zO rfl sl27 hy12) (zp rfl (zf ty9 rfl) (zp rfl (zZ rfl GTok.f1 zdW rfl (z := a_t.text)) (zp rfl (zf ty9 rfl) (zp rfl (zcE eq9 rfl rfl) (rvm rfl rfl ?_)))))))
  refine zcV (jb 28) je .nil h 9 rfl (fun q13 g13 h => ?_) (fun J14 h hJ14 => ?_)
  ·refine zac (zy (zg h rfl (fun _ h => ?_) (fun _ h => ?_)))
   ·refine wsr (oA rfl (rnf (zK (zG (zB (rL3 _ (zG (zB ?_))))))))
    cases h
    exact zo (.tmp rfl .nil) .nil ⟨rfl, rfl⟩
   refine zab (zi (zy (zh (oM rfl (zz h fun q19 h => oV (zaa rfl rfl q19) (oA rfl (zx ?_)))))))
   exact hL3 _ () h _ (ji 17 4 rfl rfl rfl)
  refine zav (j := 19) h rfl (fun g15 h => ?_) (fun g15 h => ?_)
  ·refine rvt 19 rfl rfl rfl g15 (zZ rfl GTok.f0 zcY rfl (z := a_t.kind)) (rvt 19 rfl rfl rfl g15 (zf ty3 rfl) (rvt 19 rfl rfl rfl g15 (zao rfl rfl) (rvt 19 rfl rfl rfl g15 (zq rfl) (zcV (jb 27) je .nil h 4 rfl (fun q16 g16 h => ?_) (fun J17 h hJ17 => ?_)))))
   ·exact zp rfl (zs rfl g15 rfl) (hJ14 _ () h _ (ji 6 28 rfl rfl rfl))
   refine zav (j := 23) h rfl (fun g18 h => ?_) (fun g18 h => ?_)
   ·exact rpv 23 rfl rfl rfl g18 (rpv 23 rfl rfl rfl g18 (rpv 23 rfl rfl rfl g18 (rvt 19 rfl rfl rfl g15 (zs rfl g18 rfl) (hJ17 _ () h _ (ji 4 27 rfl rfl rfl)))))
   exact rvt 23 rfl rfl rfl g18 (zZ rfl GTok.f0 zcY rfl (z := a_t.kind)) (rvt 23 rfl rfl rfl g18 (zf ty3 rfl) (rvt 23 rfl rfl rfl g18 (zao rfl rfl) (rvt 19 rfl rfl rfl g15 (zr rfl g18 rfl) (hJ17 _ () h _ (ji 4 27 rfl rfl rfl)))))
  refine rpv 19 rfl rfl rfl g15 (rpv 19 rfl rfl rfl g15 (rpv 19 rfl rfl rfl g15 (rpv 19 rfl rfl rfl g15 (zaC rfl rfl (dj := 23) rfl (zaC rfl rfl (dj := 23) rfl (zaC rfl rfl (dj := 23) rfl (rpv 19 rfl rfl rfl g15 (zp rfl (zr rfl g15 rfl) ?_))))))))
  exact hJ14 _ () h _ (ji 9 28 rfl rfl rfl)
 refine zae (zU (eL3 _ _ (zF (zy (wsr (oV (zZ rfl GTok.f0 zcY rfl (z := a_t.kind)) (oV (zf ty3 rfl) (oV (zao rfl rfl) ?_))))))))
 refine oA rfl (rnf (zK ?_))
 cases h
 exact zo (.tmp rfl .nil) .nil ⟨rfl, rfl⟩


theorem zim : ∀ {a_s : Str} {r : Int}, zej a_s = some r → Ctr Tryd.prog 76 [isv (a_s)] [] (fun R H => R = oneOf [isv (r)] ∧ H = []) := by
 intro a_s r h
 unfold zej at h
 refine zu Tryd.func76 rfl fun w0 S0 hT => wsr (oA rfl (rnf (wsr (oM rfl (zb h fun y1 hy1 h => oV (zbL y1 st9 rfl rfl hy1) (oV (zcE eq5 rfl rfl) ?_))))))
 refine oA rfl (rnf (zj (wsr (oM rfl (rnf (zdx (ι := Str) (γ := Unit) (fun q2 g2 => [(0, isv (q2))]) (fun q2 g2 => []) .nil h (fun q2 g2 h => ?_) (fun J3 h hJ3 => ?_)))))))
 ·refine wsr (oA rfl (rnf (zj (wsr (oA rfl (rnf (zt (zaQ (ι := UInt64 × Int) (γ := Unit) (fun q5 g5 => [(4, isv (q5.1)), (5, isv (q5.2))]) (fun q5 g5 => []) h () (za (j := 4) rfl hI (za (j := 5) rfl hI zd)) .nil (fun L6 q5 g5 Q19 h hL6 eL6 rL6 => ?_)))))))))
  refine zj (wsr (oM rfl (oM rfl (oV (zdH st9 rfl) (oV (zai rfl rfl) (rnf (zg h rfl (fun _ h => ?_) (fun _ h => ?_))))))))
  ·refine wkf (zj (zt (zh (oM rfl (oV (zml rfl rfl) (oM rfl (oM rfl (zb h fun y13 hy13 h => ?_))))))))
   refine oV (zbL y13 st9 rfl rfl hy13) (oV (zkb rfl rfl) (oV (zev Tryd.underlying5 Tryd.underlying26 rfl) (oV (zmd rfl rfl) (oA rfl (zx (zi (zy (zh ?_))))))))
   exact oM rfl (zz h fun q14 h => oV (zaa rfl rfl q14) (oA rfl (zx (hL6 _ () h _ (ze 18 rfl rfl (za (j := 4) rfl hI (za (j := 5) rfl hI zd)) .nil)))))
  refine zae (zU (eL6 _ _ (zF (zy (zj (wsr (oM rfl (rnf ?_))))))))
  refine zg h rfl (fun _ h => ?_) (fun _ h => ?_)
  ·refine wsr (oM rfl (oV (zow rfl rfl) (zz h fun q15 h => oV (zfC Tryd.underlying26 Tryd.underlying2 rfl q15) (zz h fun q16 h => oV (zpB rfl q16) (zz h fun q17 h => oV (zaL rfl rfl q17) ?_)))))
   refine oA rfl (rnf (zK (zB ?_)))
   cases h
   exact zo (.tmp rfl .nil) .nil ⟨rfl, rfl⟩
  refine wkf (wsr (oM rfl (zz h fun q18 h => oV (zfC Tryd.underlying26 Tryd.underlying2 rfl q18) (oA rfl (rnf (zK ?_))))))
  cases h
  exact zo (.tmp rfl .nil) .nil ⟨rfl, rfl⟩
 refine zg h rfl (fun _ h => ?_) (fun _ h => ?_)
 ·exact zh (oM rfl (zI h fun q4 h => oV (zik st9 rfl (.inr ⟨_, rfl, rfl⟩) (.inl ⟨rfl, rfl⟩) q4.1 q4.2.1 q4.2.2) (oA rfl (zx (hJ3 _ () h _ (ji 3 0 rfl rfl rfl))))))
 exact zab (hJ3 _ () h _ (ji 0 0 rfl rfl rfl))


theorem zcz : ∀ {a_x : GPar} {zH : Nat} {t_a_x1 : Tok} {t_a_x2 : Tok} {zJ : Vt} {r : Int × GPar}, zbm a_x = some r → Ctr Tryd.prog 52 [ptrv zH (Fld.id ((List GTok) × Int × (Str × Int × (TList Str) × (TList Int) × Vh) × Int × Int))] [boxE zH ((a_x.l, a_x.at_, (a_x.m.name, a_x.m.tagging, (TList.mk t_a_x1 a_x.m.names), (TList.mk t_a_x2 a_x.m.types), (Vh.mk zJ a_x.m.nodes.length)), a_x.e, a_x.p) : ((List GTok) × Int × (Str × Int × (TList Str) × (TList Int) × Vh) × Int × Int)), tokE t_a_x1, tokE t_a_x2, vecE zJ (a_x.m.nodes : List GNode)] (fun R H => ∃ u1 : Tok, ∃ u2 : Tok, R = oneOf [isv (r.1)] ∧ H = [boxE zH ((r.2.l, r.2.at_, (r.2.m.name, r.2.m.tagging, (TList.mk u1 r.2.m.names), (TList.mk u2 r.2.m.types), (Vh.mk zJ r.2.m.nodes.length)), r.2.e, r.2.p)), tokE u1, tokE u2, vecE zJ (r.2.m.nodes)]) := by
 intro a_x zH t_a_x1 t_a_x2 zJ r h
 unfold zbm at h
 refine zu Tryd.func52 rfl fun w0 S0 hT => wsr (oA rfl (rnf (wsr (oM rfl (zb h fun y4 hy4 h => oT (zM (zcv hy4) hT (s2 rfl rfl) k4 (fun R H' hR => ?_)))))))
 obtain ⟨t5, t6, rfl, rfl⟩ := hR
 refine oA rfl (rnf (zj (wsr (oM rfl (oV (zcE eq9 rfl rfl) (rnf (zg h rfl (fun _ h => ?_) (fun _ h => ?_))))))))
 ·refine wsr (oA rfl (rnf (zK (zB (zo (.tmp rfl .nil) k4 ?_)))))
  cases h
  exact ⟨t5, t6, rfl, rfl⟩
 refine wkf (wsr (oM rfl (zb h fun y7 hy7 h => oT (zA (zim hy7) hT (s1 rfl) .nil (oA rfl (rnf (zK (zo (.tmp rfl .nil) k4 ?_))))))))
 cases h
 exact ⟨t5, t6, rfl, rfl⟩


theorem zeN : ∀ {a_x : GPar} {zH : Nat} {t_a_x1 : Tok} {t_a_x2 : Tok} {zJ : Vt} {r : GCon × GPar}, zbX a_x = some r → Ctr Tryd.prog 78 [ptrv zH (Fld.id ((List GTok) × Int × (Str × Int × (TList Str) × (TList Int) × Vh) × Int × Int))] [boxE zH ((a_x.l, a_x.at_, (a_x.m.name, a_x.m.tagging, (TList.mk t_a_x1 a_x.m.names), (TList.mk t_a_x2 a_x.m.types), (Vh.mk zJ a_x.m.nodes.length)), a_x.e, a_x.p) : ((List GTok) × Int × (Str × Int × (TList Str) × (TList Int) × Vh) × Int × Int)), tokE t_a_x1, tokE t_a_x2, vecE zJ (a_x.m.nodes : List GNode)] (fun R H => ∃ u1 : Tok, ∃ u2 : Tok, R = oneOf [isv (r.1)] ∧ H = [boxE zH ((r.2.l, r.2.at_, (r.2.m.name, r.2.m.tagging, (TList.mk u1 r.2.m.names), (TList.mk u2 r.2.m.types), (Vh.mk zJ r.2.m.nodes.length)), r.2.e, r.2.p)), tokE u1, tokE u2, vecE zJ (r.2.m.nodes)]) := by
 intro a_x zH t_a_x1 t_a_x2 zJ r h
 unfold zbX at h
 refine zu Tryd.func78 rfl fun w0 S0 hT => wsr (oT (zag _ ze50 fun b4 => rnf (wsr (oV (zaE (z := (GCon.mk true false false false (0 : Int) (0 : Int))) rfl bu50 ze50 (.cons GCon.f0 zlU rfl hI .nil)) (oT (zag _ ze50 fun b5 => oT (zk (y' := ((GCon.mk true false false false (0 : Int) (0 : Int)) : GCon)) ty50 rfl rfl hI .here rfl (rnf ?_))))))))
 refine zj (wsr (oM rfl (zb h fun y6 hy6 h => oT (zM (zP hy6) hT (s2 rfl rfl) (.cons tI (.cons tI (.cons tI (.cons tI .nil)))) (fun R H' hR => ?_)))))
 obtain ⟨t7, t8, rfl, rfl⟩ := hR
 refine oV (zbt rfl) (rnf (zdx (ι := GPar × GCon) (γ := Tok × Tok) (fun q9 g9 => []) (fun q9 g9 => [boxE zH ((q9.1.l, q9.1.at_, (q9.1.m.name, q9.1.m.tagging, (TList.mk g9.1 q9.1.m.names), (TList.mk g9.2 q9.1.m.types), (Vh.mk zJ q9.1.m.nodes.length)), q9.1.e, q9.1.p) : ((List GTok) × Int × (Str × Int × (TList Str) × (TList Int) × Vh) × Int × Int)), tokE g9.1, tokE g9.2, vecE zJ (q9.1.m.nodes : List GNode), boxE b5 (q9.2 : GCon)]) (.cons .here (.cons (.there tI) k3)) h (fun q9 g9 h => ?_) (fun J10 h hJ10 => ?_)))
 ·refine zj (zdx (ι := GPar × GCon) (γ := Tok × Tok) (fun q14 g14 => []) (fun q14 g14 => [boxE zH ((q14.1.l, q14.1.at_, (q14.1.m.name, q14.1.m.tagging, (TList.mk g14.1 q14.1.m.names), (TList.mk g14.2 q14.1.m.types), (Vh.mk zJ q14.1.m.nodes.length)), q14.1.e, q14.1.p) : ((List GTok) × Int × (Str × Int × (TList Str) × (TList Int) × Vh) × Int × Int)), tokE g14.1, tokE g14.2, vecE zJ (q14.1.m.nodes : List GNode), boxE b5 (q14.2 : GCon)]) (.cons .here (.cons (.there tI) k3)) h (fun q14 g14 h => ?_) (fun J15 h hJ15 => ?_))
  ·refine zj (wsr (oM rfl (zb h fun y25 hy25 h => oT (zM (zP hy25) hT (s2 rfl rfl) k4 (fun R H' hR => ?_)))))
   obtain ⟨t26, t27, rfl, rfl⟩ := hR
   refine rnf (zdx (ι := GPar × GCon) (γ := Tok × Tok) (fun q28 g28 => []) (fun q28 g28 => [boxE zH ((q28.1.l, q28.1.at_, (q28.1.m.name, q28.1.m.tagging, (TList.mk g28.1 q28.1.m.names), (TList.mk g28.2 q28.1.m.types), (Vh.mk zJ q28.1.m.nodes.length)), q28.1.e, q28.1.p) : ((List GTok) × Int × (Str × Int × (TList Str) × (TList Int) × Vh) × Int × Int)), tokE g28.1, tokE g28.2, vecE zJ (q28.1.m.nodes : List GNode), boxE b5 (q28.2 : GCon)]) (.cons .here (.cons (.there tI) k3)) h (fun q28 g28 h => ?_) (fun J29 h hJ29 => ?_))
   ·refine wsr (oT (zL (R := isv (q28.2)) ty50 rfl (.there (.there tI)) hI (oT (zk (y' := (q28.2 : GCon)) ty50 rfl rfl hI (.there (.there (.there tI))) rfl (rnf (zK (zo (.cell rfl .here ty50 .nil) (.cons tH (.cons tH (.cons tH (.cons tH .nil)))) ?_)))))))
    cases h
    exact ⟨g28.1, g28.2, rfl, rfl⟩
   refine zg h rfl (fun _ h => ?_) (fun _ h => ?_)
   ·refine wsr (oM rfl (zb h fun y30 hy30 h => oT (zM (zak hy30) hT (s2 rfl rfl) k4 (fun R H' hR => ?_))))
    obtain ⟨t31, t32, rfl, rfl⟩ := hR
    exact rnf (zh (oV (zaj rfl GCon.f3 zpl) (oT (zk (y' := ({ q14.2 with more := true } : GCon)) ty4 rfl rfl hI (.there (.there tI)) rfl (zx (hJ29 _ (t31, t32) h _ (ze 3 rfl rfl zd (.cons tH (.cons tH (.cons tH (.cons tH k2)))))))))))
   exact zab (hJ29 _ (t26, t27) h _ (ze 0 rfl rfl zd (.cons .here (.cons .here k4))))
  refine zt (wsr (oM rfl (zb h fun y16 hy16 h => oT (zM (zP hy16) hT (s2 rfl rfl) k4 (fun R H' hR => ?_)))))
  obtain ⟨t17, t18, rfl, rfl⟩ := hR
  refine oA rfl (rnf (zg h rfl (fun _ h => ?_) (fun _ h => ?_)))
  ·refine wsr (oM rfl (zb h fun y19 hy19 h => oT (zM (zP hy19) hT (s2 rfl rfl) k4 (fun R H' hR => ?_))))
   obtain ⟨t20, t21, rfl, rfl⟩ := hR
   refine oV (zbt rfl) (rnf (zg h rfl (fun _ h => ?_) (fun _ h => ?_)))
   ·refine zh (oM rfl (zb h fun y22 hy22 h => oT (zM (zcz hy22) hT (s1 rfl) k4 (fun R H' hR => ?_))))
    obtain ⟨t23, t24, rfl, rfl⟩ := hR
    exact oV (zaj rfl GCon.f2 zi2) (oT (zk (y' := ({ q9.2 with hasHigh := true } : GCon)) ty4 rfl rfl hI (.there (.there tI)) rfl (oV (zaj rfl GCon.f5 zhX) (oT (zk (y' := ({ { q9.2 with hasHigh := true } with high := y22.1 } : GCon)) ty2 rfl rfl hI .here rfl (zx (zi (hJ15 _ (t23, t24) h _ (ze 10 rfl rfl zd (.cons tH (.cons tH (.cons tH (.cons tH k2)))))))))))))
   exact zab (zi (hJ15 _ (t20, t21) h _ (ze 6 rfl rfl zd (.cons .here (.cons .here k4)))))
  refine wsr (oV (zaj rfl GCon.f1 ziJ) (oT (zL (R := isv (q9.2.hasLow)) ty4 rfl (.there (.there tI)) hI (oA rfl (rnf (zg h rfl (fun _ h => ?_) (fun _ h => ?_)))))))
  ·refine zh (oV (zaj rfl GCon.f4 zh1) (oT (zL (R := isv (q9.2.low)) ty2 rfl (.there (.there tI)) hI (oV (zaj rfl GCon.f2 zi2) (oT (zk (y' := ({ q9.2 with hasHigh := true } : GCon)) ty4 rfl rfl hI (.there (.there tI)) rfl (oV (zaj rfl GCon.f5 zhX) (oT (zk (y' := ({ { q9.2 with hasHigh := true } with high := q9.2.low } : GCon)) ty2 rfl rfl hI .here rfl (zx (zi ?_)))))))))))
   exact hJ15 _ (t17, t18) h _ (ze 10 rfl rfl zd (.cons tH (.cons tH (.cons tH (.cons tH k2)))))
  exact zab (zi (hJ15 _ (t17, t18) h _ (ze 6 rfl rfl zd (.cons .here (.cons .here k4)))))
 refine zg h rfl (fun _ h => ?_) (fun _ h => ?_)
 ·refine zh (oM rfl (zb h fun y11 hy11 h => oT (zM (zcz hy11) hT (s1 rfl) k4 (fun R H' hR => ?_))))
  obtain ⟨t12, t13, rfl, rfl⟩ := hR
  exact oV (zaj rfl GCon.f1 ziJ) (oT (zk (y' := ((GCon.mk true true false false (0 : Int) (0 : Int)) : GCon)) ty4 rfl rfl hI (.there (.there tI)) rfl (oV (zaj rfl GCon.f4 zh1) (oT (zk (y' := ((GCon.mk true true false false y11.1 (0 : Int)) : GCon)) ty2 rfl rfl hI .here rfl (zx (hJ10 _ (t12, t13) h _ (ze 4 rfl rfl zd (.cons tH (.cons tH (.cons tH (.cons tH k2))))))))))))
 exact zab (hJ10 _ (t7, t8) h _ (ze 0 rfl rfl zd (.cons .here (.cons .here k4))))

end Go.Proofs.Q


namespace Go.Proofs.Q
open Go.Sy
set_option maxRecDepth 4000
theorem zd9 : ∀ {a_x : GPar} {zH : Nat} {t_a_x1 : Tok} {t_a_x2 : Tok} {zJ : Vt} {r : GCon × GPar}, zb2 a_x = some r → Ctr Tryd.prog 77 [ptrv zH (Fld.id ((List GTok) × Int × (Str × Int × (TList Str) × (TList Int) × Vh) × Int × Int))] [boxE zH ((a_x.l, a_x.at_, (a_x.m.name, a_x.m.tagging, (TList.mk t_a_x1 a_x.m.names), (TList.mk t_a_x2 a_x.m.types), (Vh.mk zJ a_x.m.nodes.length)), a_x.e, a_x.p) : ((List GTok) × Int × (Str × Int × (TList Str) × (TList Int) × Vh) × Int × Int)), tokE t_a_x1, tokE t_a_x2, vecE zJ (a_x.m.nodes : List GNode)] (fun R H => ∃ u1 : Tok, ∃ u2 : Tok, R = oneOf [isv (r.1)] ∧ H = [boxE zH ((r.2.l, r.2.at_, (r.2.m.name, r.2.m.tagging, (TList.mk u1 r.2.m.names), (TList.mk u2 r.2.m.types), (Vh.mk zJ r.2.m.nodes.length)), r.2.e, r.2.p)), tokE u1, tokE u2, vecE zJ (r.2.m.nodes)]) := by
 intro a_x zH t_a_x1 t_a_x2 zJ r h
 unfold zb2 at h
 refine zu Tryd.func77 rfl fun w0 S0 hT => wsr (oT (zag _ ze50 fun b4 => rnf (zj (wsr (oM rfl (zb h fun y5 hy5 h => oT (zM (zP hy5) hT (s2 rfl rfl) (.cons tH (.cons tH (.cons tH (.cons tH .nil)))) (fun R H' hR => ?_))))))))
 obtain ⟨t6, t7, rfl, rfl⟩ := hR
 refine oV (zbt rfl) (rnf (zg h rfl (fun _ h => ?_) (fun _ h => ?_)))
 ·refine wsr (oV (zaE (z := (GCon.mk false false false false (0 : Int) (0 : Int))) rfl bu50 ze50 .nil) (oT (zk (y' := ((GCon.mk false false false false (0 : Int) (0 : Int)) : GCon)) ty50 rfl rfl hI (.there (.there tI)) rfl (rnf (zK (zB (zo (.cell rfl .here ty50 .nil) (.cons tH (.cons tH (.cons tH (.cons tH .nil)))) ?_)))))))
  cases h
  exact ⟨t6, t7, rfl, rfl⟩
 refine wkf (wsr (oM rfl (zb h fun y8 hy8 h => oT (zM (zak hy8) hT (s2 rfl rfl) k4 (fun R H' hR => ?_)))))
 obtain ⟨t9, t10, rfl, rfl⟩ := hR
 refine rnf (wsr (oM rfl (zb h fun y11 hy11 h => oT (zM (zak hy11) hT (s2 rfl rfl) k4 (fun R H' hR => ?_)))))
 obtain ⟨t12, t13, rfl, rfl⟩ := hR
 refine rnf (wsr (oM rfl (zb h fun y14 hy14 h => oT (zM (zeN hy14) hT (s1 rfl) k4 (fun R H' hR => ?_)))))
 obtain ⟨t15, t16, rfl, rfl⟩ := hR
 refine oT (zag _ ze50 fun b17 => oT (zk (y' := (y14.1 : GCon)) ty50 rfl rfl hI .here rfl (zQ (zas 3 .here rfl) (rnf (wsr (oM rfl (zb h fun y18 hy18 h => oT (zM (zak hy18) hT (s2 rfl rfl) k4 (fun R H' hR => ?_)))))))))
 obtain ⟨t19, t20, rfl, rfl⟩ := hR
 refine rnf (wsr (oM rfl (zb h fun y21 hy21 h => oT (zM (zak hy21) hT (s2 rfl rfl) k4 (fun R H' hR => ?_)))))
 obtain ⟨t22, t23, rfl, rfl⟩ := hR
 refine rnf (wsr (oV (zf ty50 rfl) (oT (zk (y' := (y14.1 : GCon)) ty50 rfl rfl hI (.there (.there tI)) rfl (rnf (zK (zo (.cell rfl .here ty50 .nil) (.cons tH (.cons tH (.cons tH (.cons tH .nil)))) ?_)))))))
 cases h
 exact ⟨t22, t23, rfl, rfl⟩


theorem zhi : ∀ {a_x : GPar} {a_n_ : GNode} {zH : Nat} {t_a_x1 : Tok} {t_a_x2 : Tok} {zJ : Vt} {zaZ : Nat} {t_a_n_4 : Tok} {t_a_n_5 : Tok} {r : GPar × GNode}, zcK a_x a_n_ = some r → Ctr Tryd.prog 79 [ptrv zH (Fld.id ((List GTok) × Int × (Str × Int × (TList Str) × (TList Int) × Vh) × Int × Int)), ptrv zaZ (Fld.id (Int × Str × GMark × GCon × (TList GItem) × (TList GFld) × Int × Bool × Int))] [boxE zH ((a_x.l, a_x.at_, (a_x.m.name, a_x.m.tagging, (TList.mk t_a_x1 a_x.m.names), (TList.mk t_a_x2 a_x.m.types), (Vh.mk zJ a_x.m.nodes.length)), a_x.e, a_x.p) : ((List GTok) × Int × (Str × Int × (TList Str) × (TList Int) × Vh) × Int × Int)), tokE t_a_x1, tokE t_a_x2, vecE zJ (a_x.m.nodes : List GNode), boxE zaZ ((a_n_.kind, a_n_.name, a_n_.mark, a_n_.con, (TList.mk t_a_n_4 a_n_.items), (TList.mk t_a_n_5 a_n_.fields), a_n_.root, a_n_.more, a_n_.of) : (Int × Str × GMark × GCon × (TList GItem) × (TList GFld) × Int × Bool × Int)), tokE t_a_n_4, tokE t_a_n_5] (fun R H => ∃ u1 : Tok, ∃ u2 : Tok, ∃ u3 : Tok, ∃ u4 : Tok, R = oneOf [] ∧ H = [boxE zH ((r.1.l, r.1.at_, (r.1.m.name, r.1.m.tagging, (TList.mk u1 r.1.m.names), (TList.mk u2 r.1.m.types), (Vh.mk zJ r.1.m.nodes.length)), r.1.e, r.1.p)), tokE u1, tokE u2, vecE zJ (r.1.m.nodes), boxE zaZ ((r.2.kind, r.2.name, r.2.mark, r.2.con, (TList.mk u3 r.2.items), (TList.mk u4 r.2.fields), r.2.root, r.2.more, r.2.of)), tokE u3, tokE u4]) := by
 intro a_x a_n_ zH t_a_x1 t_a_x2 zJ zaZ t_a_n_4 t_a_n_5 r h
 unfold zcK at h
 refine zu Tryd.func79 rfl fun w0 S0 hT => zj (zdx (ι := GPar × GNode) (γ := Tok × Tok × Tok × Tok) (fun q6 g6 => []) (fun q6 g6 => [boxE zH ((q6.1.l, q6.1.at_, (q6.1.m.name, q6.1.m.tagging, (TList.mk g6.1 q6.1.m.names), (TList.mk g6.2.1 q6.1.m.types), (Vh.mk zJ q6.1.m.nodes.length)), q6.1.e, q6.1.p) : ((List GTok) × Int × (Str × Int × (TList Str) × (TList Int) × Vh) × Int × Int)), tokE g6.1, tokE g6.2.1, vecE zJ (q6.1.m.nodes : List GNode), boxE zaZ ((q6.2.kind, q6.2.name, q6.2.mark, q6.2.con, (TList.mk g6.2.2.1 q6.2.items), (TList.mk g6.2.2.2 q6.2.fields), q6.2.root, q6.2.more, q6.2.of) : (Int × Str × GMark × GCon × (TList GItem) × (TList GFld) × Int × Bool × Int)), tokE g6.2.2.1, tokE g6.2.2.2]) (.cons .here (.cons (.there tI) (.cons .here k4))) h (fun q6 g6 h => ?_) (fun J7 h hJ7 => ?_))
 ·refine wsr (oM rfl (oV (zw rfl) (oV (zaj rfl zef zeT) (oT (zL (R := isv (q6.2.more)) ty4 rfl (.there (.there tI)) hI (oV (zbt rfl) (rnf (zg h rfl (fun _ h => ?_) (fun _ h => ?_)))))))))
  ·refine zh (oM rfl (oM rfl (oV (zw rfl) (oV (zaj rfl zeX zew) (oT (zL (R := appv g6.2.2.1 (q6.2.items)) ty51 rfl (.there (.there tI)) isvT1 (oV (zaR (l := q6.2.items) rfl zO sl51) (oV (zw rfl) (oV (zaj rfl zg1 zfp) ?_)))))))))
   refine oT (zk (y' := ((q6.2.kind, q6.2.name, q6.2.mark, q6.2.con, (TList.mk g6.2.2.1 q6.2.items), (TList.mk g6.2.2.2 q6.2.fields), (q6.2.items.length : Int), q6.2.more, q6.2.of) : (Int × Str × GMark × GCon × (TList GItem) × (TList GFld) × Int × Bool × Int))) ty3 rfl rfl hI (.there (.there tI)) rfl (zx (zam .nil (.cons tH (.cons tH (.cons tH (.cons tH k3)))) ?_)))
   cases h
   exact ⟨g6.1, g6.2.1, g6.2.2.1, g6.2.2.2, rfl, rfl⟩
  refine zab (zam .nil (.cons .here (.cons .here (.cons .here k4))) ?_)
  cases h
  exact ⟨g6.1, g6.2.1, g6.2.2.1, g6.2.2.2, rfl, rfl⟩
 refine zt (zaQ (ι := GPar × GNode) (γ := Tok × Tok × Tok × Tok) (fun q8 g8 => []) (fun q8 g8 => [boxE zH ((q8.1.l, q8.1.at_, (q8.1.m.name, q8.1.m.tagging, (TList.mk g8.1 q8.1.m.names), (TList.mk g8.2.1 q8.1.m.types), (Vh.mk zJ q8.1.m.nodes.length)), q8.1.e, q8.1.p) : ((List GTok) × Int × (Str × Int × (TList Str) × (TList Int) × Vh) × Int × Int)), tokE g8.1, tokE g8.2.1, vecE zJ (q8.1.m.nodes : List GNode), boxE zaZ ((q8.2.kind, q8.2.name, q8.2.mark, q8.2.con, (TList.mk g8.2.2.1 q8.2.items), (TList.mk g8.2.2.2 q8.2.fields), q8.2.root, q8.2.more, q8.2.of) : (Int × Str × GMark × GCon × (TList GItem) × (TList GFld) × Int × Bool × Int)), tokE g8.2.2.1, tokE g8.2.2.2]) h (t_a_x1, t_a_x2, t_a_n_4, t_a_n_5) zd (.cons .here (.cons .here (.cons .here k4))) (fun L9 q8 g8 Q82 h hL9 eL9 rL9 => zj (wsr (oM rfl (oV (zw rfl) (oV (zaj rfl zbH zc8) (oT (zL (R := isv (q8.1.e)) ty31 rfl .here hI (oV (zao rfl rfl) ?_)))))))))
 refine rnf (zg h rfl (fun _ h => ?_) (fun _ h => ?_))
 ·refine wkf (zt (zj (wsr (oM rfl (oV (zw rfl) (oV (zaj rfl zeX zew) (oT (zL (R := appv g8.2.2.1 (q8.2.items)) ty51 rfl (.there (.there tI)) isvT1 (oV (zaR (l := q8.2.items) rfl zO sl51) ?_)))))))))
  refine oV (zbu rfl rfl) (oM rfl (zaz (jb 22) je .nil h 6 rfl (fun q46 g46 h => ?_) (fun J47 h hJ47 => ?_)))
  ·refine oM rfl (zaz (ι := Bool × GPar) (γ := Tok × Tok) (fun q49 g49 => [(26, isv (q49.1))]) (fun q49 g49 => [boxE zH ((q49.2.l, q49.2.at_, (q49.2.m.name, q49.2.m.tagging, (TList.mk g49.1 q49.2.m.names), (TList.mk g49.2 q49.2.m.types), (Vh.mk zJ q49.2.m.nodes.length)), q49.2.e, q49.2.p) : ((List GTok) × Int × (Str × Int × (TList Str) × (TList Int) × Vh) × Int × Int)), tokE g49.1, tokE g49.2, vecE zJ (q49.2.m.nodes : List GNode)]) k4 h 3 rfl (fun q49 g49 h => ?_) (fun J50 h hJ50 => ?_))
   ·refine rnf (zdx (ι := GPar × GNode) (γ := Tok × Tok × Tok × Tok) (fun q55 g55 => []) (fun q55 g55 => [boxE zH ((q55.1.l, q55.1.at_, (q55.1.m.name, q55.1.m.tagging, (TList.mk g55.1 q55.1.m.names), (TList.mk g55.2.1 q55.1.m.types), (Vh.mk zJ q55.1.m.nodes.length)), q55.1.e, q55.1.p) : ((List GTok) × Int × (Str × Int × (TList Str) × (TList Int) × Vh) × Int × Int)), tokE g55.1, tokE g55.2.1, vecE zJ (q55.1.m.nodes : List GNode), boxE zaZ ((q55.2.kind, q55.2.name, q55.2.mark, q55.2.con, (TList.mk g55.2.2.1 q55.2.items), (TList.mk g55.2.2.2 q55.2.fields), q55.2.root, q55.2.more, q55.2.of) : (Int × Str × GMark × GCon × (TList GItem) × (TList GFld) × Int × Bool × Int)), tokE g55.2.2.1, tokE g55.2.2.2]) (.cons .here (.cons (.there tI) (.cons .here k4))) h (fun q55 g55 h => ?_) (fun J56 h hJ56 => ?_))
    ·refine wsr (oM rfl (zb h fun y79 hy79 h => oT (zM (zP hy79) hT (s2 rfl rfl) k4 (fun R H' hR => ?_))))
     obtain ⟨t80, t81, rfl, rfl⟩ := hR
     refine oV (zbt rfl) (rnf (zg h rfl (fun _ h => ?_) (fun _ h => ?_)))
     ·exact zae (zgG rfl (eL9 _ _ (zF (hJ7 _ (t80, t81, g55.2.2.1, g55.2.2.2) h _ (ze 18 rfl rfl zd (.cons .here (.cons .here (.cons .here k4))))))))
     exact zab (zi (hL9 _ (t80, t81, g55.2.2.1, g55.2.2.2) h _ (ze 18 rfl rfl zd (.cons .here (.cons .here (.cons .here k4))))))
    refine zg h rfl (fun _ h => ?_) (fun _ h => ?_)
    ·refine zh (oM rfl (oM rfl (oM rfl (oV (zw rfl) (oV (zaj rfl zeX zew) (oT (zL (R := appv g8.2.2.1 (q8.2.items)) ty51 rfl (.there (.there tI)) isvT1 (oV (zaR (l := q8.2.items) rfl zO sl51) (oV (zw rfl) ?_)))))))))
     exact oV (zaj rfl zef zeT) (oT (zk (y' := ((q8.2.kind, q8.2.name, q8.2.mark, q8.2.con, (TList.mk g8.2.2.1 q8.2.items), (TList.mk g8.2.2.2 q8.2.fields), q8.2.root, true, q8.2.of) : (Int × Str × GMark × GCon × (TList GItem) × (TList GFld) × Int × Bool × Int))) ty4 rfl rfl hI (.there (.there tI)) rfl (oV (zw rfl) (oV (zaj rfl zg1 zfp) (oT (zk (y' := ((q8.2.kind, q8.2.name, q8.2.mark, q8.2.con, (TList.mk g8.2.2.1 q8.2.items), (TList.mk g8.2.2.2 q8.2.fields), (q8.2.items.length : Int), true, q8.2.of) : (Int × Str × GMark × GCon × (TList GItem) × (TList GFld) × Int × Bool × Int))) ty3 rfl rfl hI .here rfl (zx (hJ56 _ (g49.1, g49.2, g8.2.2.1, g8.2.2.2) h _ (ze 11 rfl rfl zd (.cons tH (.cons tH (.cons tH (.cons tH k3)))))))))))))
    refine wsr (oM rfl (zb h fun y57 hy57 h => oT (zM (zcv hy57) hT (s2 rfl rfl) k4 (fun R H' hR => ?_))))
    obtain ⟨t58, t59, rfl, rfl⟩ := hR
    refine oV (zaE (z := (GItem.mk y57.1 (0 : Int) false)) rfl bu67 ze67 (.cons GItem.f0 zkg rfl hI .nil)) (oT (zag _ ze67 fun b60 => oT (zk (y' := ((GItem.mk y57.1 (0 : Int) false) : GItem)) ty67 rfl rfl hI .here rfl (rnf (zj (wsr (oM rfl (zb h fun y61 hy61 h => oT (zM (zP hy61) hT (s2 rfl rfl) (.cons tH (.cons tH (.cons tH (.cons tH .nil)))) (fun R H' hR => ?_))))))))))
    obtain ⟨t62, t63, rfl, rfl⟩ := hR
    refine rnf (zdx (ι := GPar × GItem) (γ := Tok × Tok) (fun q64 g64 => []) (fun q64 g64 => [boxE zH ((q64.1.l, q64.1.at_, (q64.1.m.name, q64.1.m.tagging, (TList.mk g64.1 q64.1.m.names), (TList.mk g64.2 q64.1.m.types), (Vh.mk zJ q64.1.m.nodes.length)), q64.1.e, q64.1.p) : ((List GTok) × Int × (Str × Int × (TList Str) × (TList Int) × Vh) × Int × Int)), tokE g64.1, tokE g64.2, vecE zJ (q64.1.m.nodes : List GNode), boxE b60 (q64.2 : GItem)]) (.cons .here (.cons (.there tI) k3)) h (fun q64 g64 h => ?_) (fun J65 h hJ65 => ?_))
    ·refine zc7 4 (.there (.there tI)) rfl (fun o72 hn73 => zS (.v 0 (.v 1 (.v 2 (.v 3 (.v 5 (.alt 4 (.t 6 (.t 7 (.v 8 (.v 9 (.t 10 .nil))))) (.t 6 (.t 4 (.t 7 (.v 8 (.v 9 (.t 10 .nil)))))))))))) moOrd (by kernel_rfl) ?_)
     refine rvm rfl rfl (rvm rfl rfl (zp rfl (zw rfl) (zp rfl (zaj rfl zeX zew) (zp rfl (zdh (R := isv (q64.2)) ty67 rfl (List.Mem.head _) hI) (zar h fun q76 h => zbw ?_ ?_)))))
     ·exact zT rfl rfl (zL (R := appv g8.2.2.1 (q8.2.items)) ty51 rfl (.there (.there tI)) isvT1 (zT rfl rfl (zad (l := ([q64.2] : (List GItem))) el51 (.cons rfl hI .nil) rfl rfl (zT rfl rfl (zbs (l := q8.2.items) (m := ([q64.2] : (List GItem))) zit rfl hI rfl zO (.there (.there (.there tI))) q76 fun t75 => zp rfl (zw rfl) (zp rfl (zaj rfl zeX zew) (zT rfl rfl (zk (y' := ((q8.2.kind, q8.2.name, q8.2.mark, q8.2.con, (TList.mk t75 (q8.2.items ++ ([q64.2] : (List GItem)))), (TList.mk g8.2.2.2 q8.2.fields), q8.2.root, q8.2.more, q8.2.of) : (Int × Str × GMark × GCon × (TList GItem) × (TList GFld) × Int × Bool × Int))) ty51 rfl rfl isvT2 (.there (.there (.there tI))) rfl (zac (zaP 4 hn73 rfl (hJ56 _ (g64.1, g64.2, t75, g8.2.2.2) h _ (ze 18 rfl rfl zd (.cons (.there tI) (.cons (.there tI) (.cons (.there tI) (.cons (.there tI) (.cons tH (.cons tH (.cons tH .nil)))))))))))))))))))
     exact zT rfl rfl (zad (l := ([q64.2] : (List GItem))) el51 (.cons rfl hI .nil) rfl rfl (zT rfl rfl (zL (R := appv g8.2.2.1 (q8.2.items)) ty51 rfl (.there (.there tI)) isvT1 (zT rfl rfl (zbs (l := q8.2.items) (m := ([q64.2] : (List GItem))) zit rfl hI rfl zO (.there (.there (.there tI))) q76 fun t78 => zp rfl (zw rfl) (zp rfl (zaj rfl zeX zew) (zT rfl rfl (zk (y' := ((q8.2.kind, q8.2.name, q8.2.mark, q8.2.con, (TList.mk t78 (q8.2.items ++ ([q64.2] : (List GItem)))), (TList.mk g8.2.2.2 q8.2.fields), q8.2.root, q8.2.more, q8.2.of) : (Int × Str × GMark × GCon × (TList GItem) × (TList GFld) × Int × Bool × Int))) ty51 rfl rfl isvT2 (.there (.there (.there tI))) rfl (zac (zaP 4 hn73 rfl (hJ56 _ (g64.1, g64.2, t78, g8.2.2.2) h _ (ze 18 rfl rfl zd (.cons (.there tI) (.cons (.there tI) (.cons (.there tI) (.cons (.there tI) (.cons tH (.cons tH (.cons tH .nil)))))))))))))))))))
    refine zg h rfl (fun _ h => ?_) (fun _ h => ?_)
    ·refine wsr (oM rfl (zb h fun y66 hy66 h => oT (zM (zcz hy66) hT (s1 rfl) k4 (fun R H' hR => ?_))))
     obtain ⟨t67, t68, rfl, rfl⟩ := hR
     refine oV (zaj rfl GItem.f2 zhV) (oT (zk (y' := ((GItem.mk y57.1 (0 : Int) true) : GItem)) ty4 rfl rfl hI (.there (.there tI)) rfl (oV (zaj rfl GItem.f1 zc5) (oT (zk (y' := ((GItem.mk y57.1 y66.1 true) : GItem)) ty2 rfl rfl hI .here rfl (rnf (zh (oM rfl (zb h fun y69 hy69 h => oT (zM (zak hy69) hT (s2 rfl rfl) (.cons tH (.cons tH (.cons tH (.cons tH .nil)))) (fun R H' hR => ?_)))))))))))
     obtain ⟨t70, t71, rfl, rfl⟩ := hR
     exact zx (hJ65 _ (t70, t71) h _ (ze 6 rfl rfl zd (.cons .here (.cons .here (.cons .here (.cons .here k4))))))
    exact zab (hJ65 _ (t62, t63) h _ (ze 0 rfl rfl zd (.cons .here (.cons .here (.cons .here (.cons .here k4))))))
   refine zC (j := 23) h rfl (fun g51 h => ?_) (fun g51 h => ?_)
   ·refine oK 23 rfl rfl rfl g51 (zq rfl) (zb h fun y52 hy52 h => zaF rfl rfl (dj := 23) rfl g51 (zM (zP hy52) hT (s2 rfl rfl) k4 (fun R H' hR => ?_)))
    obtain ⟨t53, t54, rfl, rfl⟩ := hR
    exact oV (zs rfl g51 rfl) (hJ50 _ (t53, t54) h _ (ze 3 rfl rfl (za (j := 26) rfl hI zd) (.cons .here (.cons .here (.cons .here k4)))))
   exact oP 23 rfl rfl g51 (oP 23 rfl rfl g51 (oV (zr rfl g51 rfl) (hJ50 _ (g8.1, g8.2.1) h _ (ze 3 rfl rfl (za (j := 26) rfl hI zd) (.cons .here (.cons .here (.cons .here k4)))))))
  refine zC (j := 16) h rfl (fun g48 h => ?_) (fun g48 h => ?_)
  ·exact oK 16 rfl rfl rfl g48 (zq rfl) (oK 16 rfl rfl rfl g48 (zw rfl) (oK 16 rfl rfl rfl g48 (zaj rfl zef zeT) (zaF rfl rfl (dj := 16) rfl g48 (zL (R := isv (q8.2.more)) ty4 rfl (.there (.there tI)) hI (oK 16 rfl rfl rfl g48 (zbt rfl) (oV (zs rfl g48 rfl) (hJ47 _ () h _ (ze 6 rfl rfl (za (j := 22) rfl hI zd) (.cons .here (.cons .here (.cons .here k4)))))))))))
  exact oP 16 rfl rfl g48 (oP 16 rfl rfl g48 (oP 16 rfl rfl g48 (oP 16 rfl rfl g48 (oP 16 rfl rfl g48 (oV (zr rfl g48 rfl) (hJ47 _ () h _ (ze 6 rfl rfl (za (j := 22) rfl hI zd) (.cons .here (.cons .here (.cons .here k4))))))))))
 exact zae (zU (eL9 _ _ (zF (hJ7 _ (g8.1, g8.2.1, g8.2.2.1, g8.2.2.2) h _ (ze 5 rfl rfl zd (.cons .here (.cons .here (.cons .here k4))))))))


theorem zmu : ∀ {a_s : Str} {r : (List UInt8)}, zhH a_s = some r → Ctr Tryd.prog 116 [isv (a_s)] [] (fun R H => R = oneOf [isv (r)] ∧ H = []) := by
 intro a_s r h
 unfold zhH at h
 refine zu Tryd.func116 rfl fun w0 S0 hT => wsr (oA rfl (rnf (wsr (oA rfl (rnf (zj (wsr ?_)))))))
 refine oA rfl (rnf (zt (zgq (za1) (zaQ (ι := (List UInt8) × Int) (γ := Tok) (fun q1 g1 => [(3, appv g1 (q1.1)), (4, isv (q1.2))]) (fun q1 g1 => [tokE g1]) h (none) (za (j := 3) rfl zbA (za (j := 4) rfl hI zd)) k1 (fun L2 q1 g1 Q60 h hL2 eL2 rL2 => zj (wsr (oM rfl (zz h fun q31 h => ?_))))))))
 refine oV (zaa rfl rfl q31) (oM rfl (oV (zdH st9 rfl) (oV (zai rfl rfl) (rnf (zg h rfl (fun _ h => ?_) (fun _ h => ?_))))))
 ·refine wkf (zj (zt (wsr (oA rfl (rnf (zj (wsr (oM rfl ?_))))))))
  refine oA rfl (rnf (zt (zaQ (ι := UInt8 × Int) (γ := Unit) (fun q32 g32 => [(5, isv (q32.1)), (6, isv (q32.2))]) (fun q32 g32 => []) h () (za (j := 5) rfl hI (za (j := 6) rfl hI zd)) .nil (fun L33 q32 g32 Q58 h hL33 eL33 rL33 => zj (wsr (oM rfl (oM rfl (zz h fun q46 h => ?_))))))))
  refine oV (zaa rfl rfl q46) (oV (zai rfl rfl) (rnf (zg h rfl (fun _ h => ?_) (fun _ h => ?_))))
  ·refine wkf (zj (zt (wsr (oM rfl (oM rfl (zb h fun y47 hy47 h => oV (zbL y47 st9 rfl rfl hy47) (oV (zkb rfl rfl) ?_)))))))
   refine oA rfl (rnf (zj (wsr (oM rfl (oM rfl (zb h fun y48 hy48 h => oV (zbL y48 st9 rfl rfl hy48) (oV (zi9 rfl rfl) ?_)))))))
   refine rnf (zdx (ι := UInt8) (γ := Unit) (fun q49 g49 => [(7, isv (q49))]) (fun q49 g49 => []) .nil h (fun q49 g49 h => ?_) (fun J50 h hJ50 => ?_))
   ·refine zh (oM rfl (zar h fun q52 h => oV (zph rfl rfl q52) (oM rfl (oV (zpK rfl rfl) (oA rfl (zx (zi ?_)))))))
    exact zy (zh (oM rfl (zz h fun q53 h => oV (zaa rfl rfl q53) (oA rfl (zx (hL33 _ () h _ (ze 24 rfl rfl (za (j := 5) rfl hI (za (j := 6) rfl hI zd)) k1)))))))
   refine zg h rfl (fun _ h => ?_) (fun _ h => ?_)
   ·refine zh (oM rfl (oM rfl (zb h fun y51 hy51 h => oV (zbL y51 st9 rfl rfl hy51) (oV (zkb rfl rfl) (oV (zpg rfl rfl) (oA rfl (zx ?_)))))))
    exact hJ50 _ () h _ (jk 6 7 rfl rfl rfl)
   exact zab (hJ50 _ () h _ (jk 0 7 rfl rfl rfl))
  refine zae (zU (eL33 _ _ (zF (zy (zh (oM rfl (oM rfl (oT (zad (l := ([q32.1] : (List UInt8))) el59 (.cons rfl hI .nil) rfl rfl ?_)))))))))
  refine zar h fun q56 h => oT (zbs (l := q1.1) (m := ([q32.1] : (List UInt8))) zoV rfl hI rfl zO .here q56 fun t55 => oA rfl (zx (zi (zy (zh (oM rfl (zz h fun q57 h => ?_)))))))
  exact oV (zaa rfl rfl q57) (oA rfl (zx (hL2 _ (t55) h _ (ze 24 rfl rfl (za (j := 3) rfl hI (za (j := 4) rfl hI zd)) k1))))
 refine zae (zU (eL2 _ _ (zF (zy (wsr (oM rfl (oA rfl (rnf ?_))))))))
 refine zK ?_
 cases h
 exact zo (.as rfl zO .nil) .nil ⟨rfl, rfl⟩


theorem zhl : ∀ {a_x : GPar} {zH : Nat} {t_a_x1 : Tok} {t_a_x2 : Tok} {zJ : Vt} {r : Val × GPar}, zcO a_x = some r → Ctr Tryd.prog 111 [ptrv zH (Fld.id ((List GTok) × Int × (Str × Int × (TList Str) × (TList Int) × Vh) × Int × Int))] [boxE zH ((a_x.l, a_x.at_, (a_x.m.name, a_x.m.tagging, (TList.mk t_a_x1 a_x.m.names), (TList.mk t_a_x2 a_x.m.types), (Vh.mk zJ a_x.m.nodes.length)), a_x.e, a_x.p) : ((List GTok) × Int × (Str × Int × (TList Str) × (TList Int) × Vh) × Int × Int)), tokE t_a_x1, tokE t_a_x2, vecE zJ (a_x.m.nodes : List GNode)] (fun R H => ∃ u1 : Tok, ∃ u2 : Tok, R = oneOf [isv (r.1)] ∧ H = [boxE zH ((r.2.l, r.2.at_, (r.2.m.name, r.2.m.tagging, (TList.mk u1 r.2.m.names), (TList.mk u2 r.2.m.types), (Vh.mk zJ r.2.m.nodes.length)), r.2.e, r.2.p)), tokE u1, tokE u2, vecE zJ (r.2.m.nodes)]) := by
 intro a_x zH t_a_x1 t_a_x2 zJ r h
 unfold zcO at h
 refine zu Tryd.func111 rfl fun w0 S0 hT => wsr (oT (zag _ ze63 fun b4 => rnf (wsr (oM rfl (zb h fun y5 hy5 h => oT (zM (zaM hy5) hT (s1 rfl) (.cons tH (.cons tH (.cons tH (.cons tH .nil)))) (fun R H' hR => ?_)))))))
 obtain ⟨t6, t7, rfl, rfl⟩ := hR
 refine oT (zag _ ze80 fun b8 => oT (zk (y' := (y5.1 : GTok)) ty80 rfl rfl hI .here rfl (zQ (zas 3 .here rfl) (rnf (zj (zdx (ι := GPar) (γ := Tok × Tok) (fun q9 g9 => []) (fun q9 g9 => [boxE zH ((q9.l, q9.at_, (q9.m.name, q9.m.tagging, (TList.mk g9.1 q9.m.names), (TList.mk g9.2 q9.m.types), (Vh.mk zJ q9.m.nodes.length)), q9.e, q9.p) : ((List GTok) × Int × (Str × Int × (TList Str) × (TList Int) × Vh) × Int × Int)), tokE g9.1, tokE g9.2, vecE zJ (q9.m.nodes : List GNode)]) k4 h (fun q9 g9 h => ?_) (fun J10 h hJ10 => ?_)))))))
 ·refine wsr (oV (zaE (z := (Val.mk (0 : Int) (0 : Int) ([] : (List UInt8)) ([] : (List Val)) (0 : Int) ([] : (List Raw)))) rfl bu63 ze63 .nil) (oT (zk (y' := ((Val.mk (0 : Int) (0 : Int) ([] : (List UInt8)) ([] : (List Val)) (0 : Int) ([] : (List Raw))) : Val)) ty63 rfl rfl hI (.there (.there tI)) rfl (rnf (zK (zo (.cell rfl .here ty63 .nil) (.cons tH (.cons tH (.cons tH (.cons tH .nil)))) ?_))))))
  cases h
  exact ⟨g9.1, g9.2, rfl, rfl⟩
 refine zt (wsr (oM rfl (oV (zw rfl) (oV (zaj rfl zbH zc8) (oT (zL (R := isv (y5.2.e)) ty31 rfl .here hI (oV (zbP rfl rfl) (oA rfl (rnf ?_)))))))))
 refine zg h rfl (fun _ h => ?_) (fun _ h => ?_)
 ·exact zab (zi (hJ10 _ (t6, t7) h _ (ze 6 rfl rfl zd (.cons .here k4))))
 refine wsr (oM rfl (zb h fun y11 hy11 h => oT (zM (zP hy11) hT (s2 rfl rfl) k4 (fun R H' hR => ?_))))
 obtain ⟨t12, t13, rfl, rfl⟩ := hR
 refine oA rfl (rnf (zg h rfl (fun _ h => ?_) (fun _ h => ?_)))
 ·refine wsr (oV (zaE (z := (Val.mk (1 : Int) (1 : Int) ([] : (List UInt8)) ([] : (List Val)) (0 : Int) ([] : (List Raw)))) rfl bu63 ze63 (.cons Val.f0 zgl rfl hI (.cons Val.f1 zjJ rfl hI .nil))) (oT (zk (y' := ((Val.mk (1 : Int) (1 : Int) ([] : (List UInt8)) ([] : (List Val)) (0 : Int) ([] : (List Raw))) : Val)) ty63 rfl rfl hI (.there (.there tI)) rfl (rnf (zK (zG (zB (zo (.cell rfl .here ty63 .nil) (.cons tH (.cons tH (.cons tH (.cons tH .nil)))) ?_))))))))
  cases h
  exact ⟨t12, t13, rfl, rfl⟩
 refine wsr (oM rfl (zb h fun y14 hy14 h => oT (zM (zP hy14) hT (s2 rfl rfl) k4 (fun R H' hR => ?_))))
 obtain ⟨t15, t16, rfl, rfl⟩ := hR
 refine oA rfl (rnf (zg h rfl (fun _ h => ?_) (fun _ h => ?_)))
 ·refine wsr (oV (zaE (z := (Val.mk (1 : Int) (0 : Int) ([] : (List UInt8)) ([] : (List Val)) (0 : Int) ([] : (List Raw)))) rfl bu63 ze63 (.cons Val.f0 zgl rfl hI .nil)) (oT (zk (y' := ((Val.mk (1 : Int) (0 : Int) ([] : (List UInt8)) ([] : (List Val)) (0 : Int) ([] : (List Raw))) : Val)) ty63 rfl rfl hI (.there (.there tI)) rfl (rnf (zK (zG (zB (zo (.cell rfl .here ty63 .nil) (.cons tH (.cons tH (.cons tH (.cons tH .nil)))) ?_))))))))
  cases h
  exact ⟨t15, t16, rfl, rfl⟩
 refine wsr (oM rfl (zb h fun y17 hy17 h => oT (zM (zP hy17) hT (s2 rfl rfl) k4 (fun R H' hR => ?_))))
 obtain ⟨t18, t19, rfl, rfl⟩ := hR
 refine oA rfl (rnf (zg h rfl (fun _ h => ?_) (fun _ h => ?_)))
 ·refine wsr (oV (zaE (z := (Val.mk (4 : Int) (0 : Int) ([] : (List UInt8)) ([] : (List Val)) (0 : Int) ([] : (List Raw)))) rfl bu63 ze63 (.cons Val.f0 zgl rfl hI .nil)) (oT (zk (y' := ((Val.mk (4 : Int) (0 : Int) ([] : (List UInt8)) ([] : (List Val)) (0 : Int) ([] : (List Raw))) : Val)) ty63 rfl rfl hI (.there (.there tI)) rfl (rnf (zK (zG (zB (zo (.cell rfl .here ty63 .nil) (.cons tH (.cons tH (.cons tH (.cons tH .nil)))) ?_))))))))
  cases h
  exact ⟨t18, t19, rfl, rfl⟩
 refine wsr (oV (zZ rfl GTok.f0 zcY rfl (z := y5.1.kind)) (oV (zf ty3 rfl) (oV (zao rfl rfl) (oA rfl (rnf (zg h rfl (fun _ h => ?_) (fun _ h => ?_)))))))
 ·refine wsr (oM rfl (zb h fun y20 hy20 h => oT (zM (zbx hy20) hT (s1 rfl) k4 (fun R H' hR => ?_))))
  obtain ⟨t21, t22, rfl, rfl⟩ := hR
  refine oV (zgR GTok.f1 rfl zdW rfl) (zb h fun y23 hy23 h => oT (zA (zim hy23) hT (s1 rfl) .nil (oV (zaE (z := (Val.mk (2 : Int) y23 ([] : (List UInt8)) ([] : (List Val)) (0 : Int) ([] : (List Raw)))) rfl bu63 ze63 (.cons Val.f0 zgl rfl hI (.cons Val.f1 zjJ rfl hI .nil))) (oT (zk (y' := ((Val.mk (2 : Int) y23 ([] : (List UInt8)) ([] : (List Val)) (0 : Int) ([] : (List Raw))) : Val)) ty63 rfl rfl hI (.there (.there tI)) rfl (rnf (zK (zG (zB ?_)))))))))
  refine zo (.cell rfl .here ty63 .nil) (.cons tH (.cons tH (.cons tH (.cons tH .nil)))) ?_
  cases h
  exact ⟨t21, t22, rfl, rfl⟩
 refine wsr (oV (zZ rfl GTok.f0 zcY rfl (z := y5.1.kind)) (oV (zf ty3 rfl) (oV (zao rfl rfl) (oA rfl (rnf (zg h rfl (fun _ h => ?_) (fun _ h => ?_)))))))
 ·refine wsr (oM rfl (zb h fun y24 hy24 h => oT (zM (zbx hy24) hT (s1 rfl) k4 (fun R H' hR => ?_))))
  obtain ⟨t25, t26, rfl, rfl⟩ := hR
  refine oV (zgR GTok.f1 rfl zdW rfl) (zar h fun q27 h => oT (zpJ Tryd.underlying9 Tryd.underlying59 Tryd.underlying5 rfl q27 (oV (zaE (z := (Val.mk (3 : Int) (0 : Int) y24.1.text.b ([] : (List Val)) (0 : Int) ([] : (List Raw)))) rfl bu63 ze63 (.cons Val.f0 zgl rfl hI (.cons Val.f2 zh5 rfl hI .nil))) (oT (zk (y' := ((Val.mk (3 : Int) (0 : Int) y24.1.text.b ([] : (List Val)) (0 : Int) ([] : (List Raw))) : Val)) ty63 rfl rfl hI (.there (.there tI)) rfl (rnf (zK (zG (zB ?_)))))))))
  refine zo (.cell rfl .here ty63 .nil) (.cons tH (.cons tH (.cons tH (.cons tH .nil)))) ?_
  cases h
  exact ⟨t25, t26, rfl, rfl⟩
 refine wsr (oV (zZ rfl GTok.f0 zcY rfl (z := y5.1.kind)) (oV (zf ty3 rfl) (oV (zao rfl rfl) (oA rfl (rnf (zg h rfl (fun _ h => ?_) (fun _ h => ?_)))))))
 ·refine wsr (oM rfl (zb h fun y28 hy28 h => oT (zM (zbx hy28) hT (s1 rfl) k4 (fun R H' hR => ?_))))
  obtain ⟨t29, t30, rfl, rfl⟩ := hR
  refine oV (zgR GTok.f1 rfl zdW rfl) (zb h fun y31 hy31 h => oT (zA (zmu hy31) hT (s1 rfl) .nil (oV (zaE (z := (Val.mk (5 : Int) (0 : Int) y31 ([] : (List Val)) (0 : Int) ([] : (List Raw)))) rfl bu63 ze63 (.cons Val.f0 zgl rfl hI (.cons Val.f2 zh5 rfl hI .nil))) (oT (zk (y' := ((Val.mk (5 : Int) (0 : Int) y31 ([] : (List Val)) (0 : Int) ([] : (List Raw))) : Val)) ty63 rfl rfl hI (.there (.there tI)) rfl (rnf (zK (zG (zB ?_)))))))))
  refine zo (.cell rfl .here ty63 .nil) (.cons tH (.cons tH (.cons tH (.cons tH .nil)))) ?_
  cases h
  exact ⟨t29, t30, rfl, rfl⟩
 refine wsr (oV (zZ rfl GTok.f0 zcY rfl (z := y5.1.kind)) (oV (zf ty3 rfl) (oV (zao rfl rfl) (oA rfl (rnf (zg h rfl (fun _ h => ?_) (fun _ h => ?_)))))))
 ·refine wsr (oM rfl (zb h fun y32 hy32 h => oT (zM (zbx hy32) hT (s1 rfl) k4 (fun R H' hR => ?_))))
  obtain ⟨t33, t34, rfl, rfl⟩ := hR
  refine oV (zgR GTok.f1 rfl zdW rfl) (zar h fun q35 h => oT (zpJ Tryd.underlying9 Tryd.underlying59 Tryd.underlying5 rfl q35 (oV (zaE (z := (Val.mk (6 : Int) (0 : Int) y32.1.text.b ([] : (List Val)) (0 : Int) ([] : (List Raw)))) rfl bu63 ze63 (.cons Val.f0 zgl rfl hI (.cons Val.f2 zh5 rfl hI .nil))) (oT (zk (y' := ((Val.mk (6 : Int) (0 : Int) y32.1.text.b ([] : (List Val)) (0 : Int) ([] : (List Raw))) : Val)) ty63 rfl rfl hI (.there (.there tI)) rfl (rnf (zK (zG (zB ?_)))))))))
  refine zo (.cell rfl .here ty63 .nil) (.cons tH (.cons tH (.cons tH (.cons tH .nil)))) ?_
  cases h
  exact ⟨t33, t34, rfl, rfl⟩
 refine zh (oM rfl (oV (zf ty80 rfl) (zb h fun y36 hy36 h => oT (zM (za9 hy36) hT (s3 rfl rfl rfl) k4 (fun R H' hR => ?_)))))
 obtain ⟨t37, t38, rfl, rfl⟩ := hR
 exact zx (zi (hJ10 _ (t37, t38) h _ (ze 34 rfl rfl zd (.cons .here k4))))

end Go.Proofs.Q


namespace Go.Proofs.Q
open Go.Sy
set_option maxRecDepth 4000
def zcb (f' : GPar → GNode → Int → Int → Option (GPar × GNode)) : Prop :=
 ∀ {a_x : GPar} {a_n_ : GNode} {zX : Int} {zct : Int} {zH : Nat} {t_a_x1 : Tok} {t_a_x2 : Tok} {zJ : Vt} {zaZ : Nat} {t_a_n_4 : Tok} {t_a_n_5 : Tok} {r : GPar × GNode}, f' a_x a_n_ zX zct = some r → Ctr Tryd.prog 97 [ptrv zH (Fld.id ((List GTok) × Int × (Str × Int × (TList Str) × (TList Int) × Vh) × Int × Int)), ptrv zaZ (Fld.id (Int × Str × GMark × GCon × (TList GItem) × (TList GFld) × Int × Bool × Int)), isv (zX), isv (zct)] [boxE zH ((a_x.l, a_x.at_, (a_x.m.name, a_x.m.tagging, (TList.mk t_a_x1 a_x.m.names), (TList.mk t_a_x2 a_x.m.types), (Vh.mk zJ a_x.m.nodes.length)), a_x.e, a_x.p) : ((List GTok) × Int × (Str × Int × (TList Str) × (TList Int) × Vh) × Int × Int)), tokE t_a_x1, tokE t_a_x2, vecE zJ (a_x.m.nodes : List GNode), boxE zaZ ((a_n_.kind, a_n_.name, a_n_.mark, a_n_.con, (TList.mk t_a_n_4 a_n_.items), (TList.mk t_a_n_5 a_n_.fields), a_n_.root, a_n_.more, a_n_.of) : (Int × Str × GMark × GCon × (TList GItem) × (TList GFld) × Int × Bool × Int)), tokE t_a_n_4, tokE t_a_n_5] (fun R H => ∃ u1 : Tok, ∃ u2 : Tok, ∃ u3 : Vt, ∃ u4 : Tok, ∃ u5 : Tok, R = oneOf [] ∧ H = [boxE zH ((r.1.l, r.1.at_, (r.1.m.name, r.1.m.tagging, (TList.mk u1 r.1.m.names), (TList.mk u2 r.1.m.types), (Vh.mk u3 r.1.m.nodes.length)), r.1.e, r.1.p)), tokE u1, tokE u2, vecE u3 (r.1.m.nodes), boxE zaZ ((r.2.kind, r.2.name, r.2.mark, r.2.con, (TList.mk u4 r.2.items), (TList.mk u5 r.2.fields), r.2.root, r.2.more, r.2.of)), tokE u4, tokE u5])
def zb9 (f' : GPar → Int → Option (Int × GPar)) : Prop :=
 ∀ {a_x : GPar} {zX : Int} {zH : Nat} {t_a_x1 : Tok} {t_a_x2 : Tok} {zJ : Vt} {r : Int × GPar}, f' a_x zX = some r → Ctr Tryd.prog 28 [ptrv zH (Fld.id ((List GTok) × Int × (Str × Int × (TList Str) × (TList Int) × Vh) × Int × Int)), isv (zX)] [boxE zH ((a_x.l, a_x.at_, (a_x.m.name, a_x.m.tagging, (TList.mk t_a_x1 a_x.m.names), (TList.mk t_a_x2 a_x.m.types), (Vh.mk zJ a_x.m.nodes.length)), a_x.e, a_x.p) : ((List GTok) × Int × (Str × Int × (TList Str) × (TList Int) × Vh) × Int × Int)), tokE t_a_x1, tokE t_a_x2, vecE zJ (a_x.m.nodes : List GNode)] (fun R H => ∃ u1 : Tok, ∃ u2 : Tok, ∃ u3 : Vt, R = oneOf [isv (r.1)] ∧ H = [boxE zH ((r.2.l, r.2.at_, (r.2.m.name, r.2.m.tagging, (TList.mk u1 r.2.m.names), (TList.mk u2 r.2.m.types), (Vh.mk u3 r.2.m.nodes.length)), r.2.e, r.2.p)), tokE u1, tokE u2, vecE u3 (r.2.m.nodes)])
def zcw (f' : GPar → GNode → Int → Option (GPar × GNode)) : Prop :=
 ∀ {a_x : GPar} {a_n_ : GNode} {zX : Int} {zH : Nat} {t_a_x1 : Tok} {t_a_x2 : Tok} {zJ : Vt} {zaZ : Nat} {t_a_n_4 : Tok} {t_a_n_5 : Tok} {r : GPar × GNode}, f' a_x a_n_ zX = some r → Ctr Tryd.prog 53 [ptrv zH (Fld.id ((List GTok) × Int × (Str × Int × (TList Str) × (TList Int) × Vh) × Int × Int)), ptrv zaZ (Fld.id (Int × Str × GMark × GCon × (TList GItem) × (TList GFld) × Int × Bool × Int)), isv (zX)] [boxE zH ((a_x.l, a_x.at_, (a_x.m.name, a_x.m.tagging, (TList.mk t_a_x1 a_x.m.names), (TList.mk t_a_x2 a_x.m.types), (Vh.mk zJ a_x.m.nodes.length)), a_x.e, a_x.p) : ((List GTok) × Int × (Str × Int × (TList Str) × (TList Int) × Vh) × Int × Int)), tokE t_a_x1, tokE t_a_x2, vecE zJ (a_x.m.nodes : List GNode), boxE zaZ ((a_n_.kind, a_n_.name, a_n_.mark, a_n_.con, (TList.mk t_a_n_4 a_n_.items), (TList.mk t_a_n_5 a_n_.fields), a_n_.root, a_n_.more, a_n_.of) : (Int × Str × GMark × GCon × (TList GItem) × (TList GFld) × Int × Bool × Int)), tokE t_a_n_4, tokE t_a_n_5] (fun R H => ∃ u1 : Tok, ∃ u2 : Tok, ∃ u3 : Vt, ∃ u4 : Tok, ∃ u5 : Tok, R = oneOf [] ∧ H = [boxE zH ((r.1.l, r.1.at_, (r.1.m.name, r.1.m.tagging, (TList.mk u1 r.1.m.names), (TList.mk u2 r.1.m.types), (Vh.mk u3 r.1.m.nodes.length)), r.1.e, r.1.p)), tokE u1, tokE u2, vecE u3 (r.1.m.nodes), boxE zaZ ((r.2.kind, r.2.name, r.2.mark, r.2.con, (TList.mk u4 r.2.items), (TList.mk u5 r.2.fields), r.2.root, r.2.more, r.2.of)), tokE u4, tokE u5])
def zb5 (f' : GPar → GNode → Int → Option (GPar × GNode)) : Prop :=
 ∀ {a_x : GPar} {a_n_ : GNode} {zX : Int} {zH : Nat} {t_a_x1 : Tok} {t_a_x2 : Tok} {zJ : Vt} {zaZ : Nat} {t_a_n_4 : Tok} {t_a_n_5 : Tok} {r : GPar × GNode}, f' a_x a_n_ zX = some r → Ctr Tryd.prog 80 [ptrv zH (Fld.id ((List GTok) × Int × (Str × Int × (TList Str) × (TList Int) × Vh) × Int × Int)), ptrv zaZ (Fld.id (Int × Str × GMark × GCon × (TList GItem) × (TList GFld) × Int × Bool × Int)), isv (zX)] [boxE zH ((a_x.l, a_x.at_, (a_x.m.name, a_x.m.tagging, (TList.mk t_a_x1 a_x.m.names), (TList.mk t_a_x2 a_x.m.types), (Vh.mk zJ a_x.m.nodes.length)), a_x.e, a_x.p) : ((List GTok) × Int × (Str × Int × (TList Str) × (TList Int) × Vh) × Int × Int)), tokE t_a_x1, tokE t_a_x2, vecE zJ (a_x.m.nodes : List GNode), boxE zaZ ((a_n_.kind, a_n_.name, a_n_.mark, a_n_.con, (TList.mk t_a_n_4 a_n_.items), (TList.mk t_a_n_5 a_n_.fields), a_n_.root, a_n_.more, a_n_.of) : (Int × Str × GMark × GCon × (TList GItem) × (TList GFld) × Int × Bool × Int)), tokE t_a_n_4, tokE t_a_n_5] (fun R H => ∃ u1 : Tok, ∃ u2 : Tok, ∃ u3 : Vt, ∃ u4 : Tok, ∃ u5 : Tok, R = oneOf [] ∧ H = [boxE zH ((r.1.l, r.1.at_, (r.1.m.name, r.1.m.tagging, (TList.mk u1 r.1.m.names), (TList.mk u2 r.1.m.types), (Vh.mk u3 r.1.m.nodes.length)), r.1.e, r.1.p)), tokE u1, tokE u2, vecE u3 (r.1.m.nodes), boxE zaZ ((r.2.kind, r.2.name, r.2.mark, r.2.con, (TList.mk u4 r.2.items), (TList.mk u5 r.2.fields), r.2.root, r.2.more, r.2.of)), tokE u4, tokE u5])
theorem zg4 {zap : GPar → GNode → Int → Int → Option (GPar × GNode)} {zaA : GPar → Int → Option (Int × GPar)} {zay : GPar → GNode → Int → Option (GPar × GNode)} {zal : GPar → GNode → Int → Option (GPar × GNode)} (zch : zcb zap) (zcN : zb9 zaA) (zda : zcw zay) (zbC : zb5 zal) : ∀ {a_x : GPar} {a_n_ : GNode} {zX : Int} {zct : Int} {zH : Nat} {t_a_x1 : Tok} {t_a_x2 : Tok} {zJ : Vt} {zaZ : Nat} {t_a_n_4 : Tok} {t_a_n_5 : Tok} {r : GPar × GNode}, zca zap zaA zay zal a_x a_n_ zX zct = some r → Ctr Tryd.prog 97 [ptrv zH (Fld.id ((List GTok) × Int × (Str × Int × (TList Str) × (TList Int) × Vh) × Int × Int)), ptrv zaZ (Fld.id (Int × Str × GMark × GCon × (TList GItem) × (TList GFld) × Int × Bool × Int)), isv (zX), isv (zct)] [boxE zH ((a_x.l, a_x.at_, (a_x.m.name, a_x.m.tagging, (TList.mk t_a_x1 a_x.m.names), (TList.mk t_a_x2 a_x.m.types), (Vh.mk zJ a_x.m.nodes.length)), a_x.e, a_x.p) : ((List GTok) × Int × (Str × Int × (TList Str) × (TList Int) × Vh) × Int × Int)), tokE t_a_x1, tokE t_a_x2, vecE zJ (a_x.m.nodes : List GNode), boxE zaZ ((a_n_.kind, a_n_.name, a_n_.mark, a_n_.con, (TList.mk t_a_n_4 a_n_.items), (TList.mk t_a_n_5 a_n_.fields), a_n_.root, a_n_.more, a_n_.of) : (Int × Str × GMark × GCon × (TList GItem) × (TList GFld) × Int × Bool × Int)), tokE t_a_n_4, tokE t_a_n_5] (fun R H => ∃ u1 : Tok, ∃ u2 : Tok, ∃ u3 : Vt, ∃ u4 : Tok, ∃ u5 : Tok, R = oneOf [] ∧ H = [boxE zH ((r.1.l, r.1.at_, (r.1.m.name, r.1.m.tagging, (TList.mk u1 r.1.m.names), (TList.mk u2 r.1.m.types), (Vh.mk u3 r.1.m.nodes.length)), r.1.e, r.1.p)), tokE u1, tokE u2, vecE u3 (r.1.m.nodes), boxE zaZ ((r.2.kind, r.2.name, r.2.mark, r.2.con, (TList.mk u4 r.2.items), (TList.mk u5 r.2.fields), r.2.root, r.2.more, r.2.of)), tokE u4, tokE u5]) := by
 intro a_x a_n_ zX zct zH t_a_x1 t_a_x2 zJ zaZ t_a_n_4 t_a_n_5 r h
 unfold zca at h
 refine zu Tryd.func97 rfl fun w0 S0 hT => wsr (oM rfl (zb h fun y6 hy6 h => oT (zM (zcv hy6) hT (s2 rfl rfl) k4 (fun R H' hR => ?_))))
 obtain ⟨t7, t8, rfl, rfl⟩ := hR
 refine oM rfl (oV (zaE (z := (GFld.mk y6.1 (0 : Int) false false (Val.mk (0 : Int) (0 : Int) ([] : (List UInt8)) ([] : (List Val)) (0 : Int) ([] : (List Raw))) zct)) rfl bu65 ze65 (.cons GFld.f0 zlX rfl hI (.cons GFld.f5 zlt rfl hI .nil))) (oT (zag _ ze65 fun b9 => oT (zk (y' := ((GFld.mk y6.1 (0 : Int) false false (Val.mk (0 : Int) (0 : Int) ([] : (List UInt8)) ([] : (List Val)) (0 : Int) ([] : (List Raw))) zct) : GFld)) ty65 rfl rfl hI .here rfl (rnf (wsr (oM rfl (oM rfl (zz h fun q10 h => ?_)))))))))
 refine oV (zaa rfl rfl q10) (zb h fun y11 hy11 h => oT (zM (zcN hy11) hT (s2 rfl rfl) (.cons tH (.cons tH (.cons tH (.cons tH .nil)))) (fun R H' hR => ?_)))
 obtain ⟨t12, t13, v14, rfl, rfl⟩ := hR
 refine oV (zaj rfl GFld.f1 zc6) (oT (zk (y' := ((GFld.mk y6.1 y11.1 false false (Val.mk (0 : Int) (0 : Int) ([] : (List UInt8)) ([] : (List Val)) (0 : Int) ([] : (List Raw))) zct) : GFld)) ty3 rfl rfl hI (.there (.there tI)) rfl (rnf (zj (zdx (ι := GFld × GPar) (γ := Tok × Tok) (fun q15 g15 => []) (fun q15 g15 => [boxE b9 (q15.1 : GFld), boxE zH ((q15.2.l, q15.2.at_, (q15.2.m.name, q15.2.m.tagging, (TList.mk g15.1 q15.2.m.names), (TList.mk g15.2 q15.2.m.types), (Vh.mk v14 q15.2.m.nodes.length)), q15.2.e, q15.2.p) : ((List GTok) × Int × (Str × Int × (TList Str) × (TList Int) × Vh) × Int × Int)), tokE g15.1, tokE g15.2, vecE v14 (q15.2.m.nodes : List GNode)]) (.cons .here k4) h (fun q15 g15 h => ?_) (fun J16 h hJ16 => ?_))))))
 ·refine zc7 8 .here rfl (fun o26 hn27 => zS (.v 0 (.v 1 (.v 2 (.v 3 (.v 5 (.alt 4 (.t 6 (.t 7 (.v 8 (.v 9 (.t 10 .nil))))) (.t 6 (.t 4 (.t 7 (.v 8 (.v 9 (.t 10 .nil)))))))))))) moOrd (by kernel_rfl) ?_)
  refine rvm rfl rfl (rvm rfl rfl (zp rfl (zw rfl) (zp rfl (zaj rfl zfR zdq) (zp rfl (zdh (R := isv (q15.1)) ty65 rfl (List.Mem.head _) hI) (zar h fun q30 h => zbw ?_ ?_)))))
  ·refine zT rfl rfl (zL (R := appv t_a_n_5 (a_n_.fields)) ty52 rfl (.there (.there tI)) isvT1 (zT rfl rfl (zad (l := ([q15.1] : (List GFld))) el52 (.cons rfl hI .nil) rfl rfl (zT rfl rfl (zbs (l := a_n_.fields) (m := ([q15.1] : (List GFld))) zkj rfl hI rfl zO (.there (.there (.there (.there tI)))) q30 fun t29 => zp rfl (zw rfl) (zp rfl (zaj rfl zfR zdq) (zT rfl rfl (zk (y' := ((a_n_.kind, a_n_.name, a_n_.mark, a_n_.con, (TList.mk t_a_n_4 a_n_.items), (TList.mk t29 (a_n_.fields ++ ([q15.1] : (List GFld)))), a_n_.root, a_n_.more, a_n_.of) : (Int × Str × GMark × GCon × (TList GItem) × (TList GFld) × Int × Bool × Int))) ty52 rfl rfl isvT2 (.there (.there (.there tI))) rfl (zac (zaP 8 hn27 rfl (zam .nil (.cons (.there tI) (.cons (.there tI) (.cons (.there tI) (.cons (.there tI) (.cons tH (.cons tI (.cons tH .nil))))))) ?_)))))))))))
   cases h
   exact ⟨g15.1, g15.2, v14, t_a_n_4, t29, rfl, rfl⟩
  refine zT rfl rfl (zad (l := ([q15.1] : (List GFld))) el52 (.cons rfl hI .nil) rfl rfl (zT rfl rfl (zL (R := appv t_a_n_5 (a_n_.fields)) ty52 rfl (.there (.there tI)) isvT1 (zT rfl rfl (zbs (l := a_n_.fields) (m := ([q15.1] : (List GFld))) zkj rfl hI rfl zO (.there (.there (.there (.there tI)))) q30 fun t32 => zp rfl (zw rfl) (zp rfl (zaj rfl zfR zdq) (zT rfl rfl (zk (y' := ((a_n_.kind, a_n_.name, a_n_.mark, a_n_.con, (TList.mk t_a_n_4 a_n_.items), (TList.mk t32 (a_n_.fields ++ ([q15.1] : (List GFld)))), a_n_.root, a_n_.more, a_n_.of) : (Int × Str × GMark × GCon × (TList GItem) × (TList GFld) × Int × Bool × Int))) ty52 rfl rfl isvT2 (.there (.there (.there tI))) rfl (zac (zaP 8 hn27 rfl (zam .nil (.cons (.there tI) (.cons (.there tI) (.cons (.there tI) (.cons (.there tI) (.cons tH (.cons tI (.cons tH .nil))))))) ?_)))))))))))
  cases h
  exact ⟨g15.1, g15.2, v14, t_a_n_4, t32, rfl, rfl⟩
 refine zt (wsr (oM rfl (oV (zw rfl) (oV (zaj rfl zcm zbG) (oT (zL (R := isv (a_n_.kind)) ty3 rfl (.there (.there (.there tI))) hI (oV (zao rfl rfl) (oA rfl (rnf ?_)))))))))
 refine zg h rfl (fun _ h => ?_) (fun _ h => ?_)
 ·exact zab (zi (hJ16 _ (t12, t13) h _ (ze 6 rfl rfl zd (.cons .here (.cons .here (.cons .here (.cons .here k4)))))))
 refine wsr (oM rfl (zb h fun y17 hy17 h => oT (zM (zP hy17) hT (s2 rfl rfl) (.cons tH (.cons tH (.cons tH (.cons tH .nil)))) (fun R H' hR => ?_))))
 obtain ⟨t18, t19, rfl, rfl⟩ := hR
 refine oA rfl (rnf (zg h rfl (fun _ h => ?_) (fun _ h => ?_)))
 ·exact zh (oV (zaj rfl GFld.f2 znD) (oT (zk (y' := ((GFld.mk y6.1 y11.1 true false (Val.mk (0 : Int) (0 : Int) ([] : (List UInt8)) ([] : (List Val)) (0 : Int) ([] : (List Raw))) zct) : GFld)) ty4 rfl rfl hI (.there (.there tI)) rfl (zx (zi (hJ16 _ (t18, t19) h _ (ze 10 rfl rfl zd (.cons .here (.cons .here (.cons .here (.cons .here k4)))))))))))
 refine wsr (oM rfl (zb h fun y20 hy20 h => oT (zM (zP hy20) hT (s2 rfl rfl) k4 (fun R H' hR => ?_))))
 obtain ⟨t21, t22, rfl, rfl⟩ := hR
 refine oA rfl (rnf (zg h rfl (fun _ h => ?_) (fun _ h => ?_)))
 ·refine zh (oM rfl (zb h fun y23 hy23 h => oT (zM (zhl hy23) hT (s1 rfl) k4 (fun R H' hR => ?_))))
  obtain ⟨t24, t25, rfl, rfl⟩ := hR
  exact oV (zaj rfl GFld.f3 zlT) (oT (zk (y' := ((GFld.mk y6.1 y11.1 false true (Val.mk (0 : Int) (0 : Int) ([] : (List UInt8)) ([] : (List Val)) (0 : Int) ([] : (List Raw))) zct) : GFld)) ty4 rfl rfl hI (.there (.there tI)) rfl (oV (zaj rfl GFld.f4 zlB) (oT (zk (y' := ((GFld.mk y6.1 y11.1 false true y23.1 zct) : GFld)) ty63 rfl rfl hI .here rfl (zx (zi (hJ16 _ (t24, t25) h _ (ze 16 rfl rfl zd (.cons .here (.cons .here (.cons .here (.cons .here k4)))))))))))))
 exact zab (zi (hJ16 _ (t21, t22) h _ (ze 12 rfl rfl zd (.cons (.there (.there tI)) (.cons .here (.cons .here (.cons .here k4)))))))

theorem zhE {zap : GPar → GNode → Int → Int → Option (GPar × GNode)} {zaA : GPar → Int → Option (Int × GPar)} {zay : GPar → GNode → Int → Option (GPar × GNode)} {zal : GPar → GNode → Int → Option (GPar × GNode)} (zch : zcb zap) (zcN : zb9 zaA) (zda : zcw zay) (zbC : zb5 zal) : ∀ {a_x : GPar} {zX : Int} {zH : Nat} {t_a_x1 : Tok} {t_a_x2 : Tok} {zJ : Vt} {r : Int × GPar}, zcC zap zaA zay zal a_x zX = some r → Ctr Tryd.prog 28 [ptrv zH (Fld.id ((List GTok) × Int × (Str × Int × (TList Str) × (TList Int) × Vh) × Int × Int)), isv (zX)] [boxE zH ((a_x.l, a_x.at_, (a_x.m.name, a_x.m.tagging, (TList.mk t_a_x1 a_x.m.names), (TList.mk t_a_x2 a_x.m.types), (Vh.mk zJ a_x.m.nodes.length)), a_x.e, a_x.p) : ((List GTok) × Int × (Str × Int × (TList Str) × (TList Int) × Vh) × Int × Int)), tokE t_a_x1, tokE t_a_x2, vecE zJ (a_x.m.nodes : List GNode)] (fun R H => ∃ u1 : Tok, ∃ u2 : Tok, ∃ u3 : Vt, R = oneOf [isv (r.1)] ∧ H = [boxE zH ((r.2.l, r.2.at_, (r.2.m.name, r.2.m.tagging, (TList.mk u1 r.2.m.names), (TList.mk u2 r.2.m.types), (Vh.mk u3 r.2.m.nodes.length)), r.2.e, r.2.p)), tokE u1, tokE u2, vecE u3 (r.2.m.nodes)]) := by
 intro a_x zX zH t_a_x1 t_a_x2 zJ r h
 unfold zcC at h
 refine zu Tryd.func28 rfl fun w0 S0 hT => wsr (oA rfl (rnf (zj (wsr (oM rfl (oV (zw rfl) (oV (zaj rfl zbH zc8) ?_)))))))
 refine oT (zL (R := isv (a_x.e)) ty31 rfl .here hI (oV (zbP rfl rfl) (rnf (zg h rfl (fun _ h => ?_) (fun _ h => ?_)))))
 ·refine wsr (oA rfl (rnf (zK (zB (zo (.tmp rfl .nil) k4 ?_)))))
  cases h
  exact ⟨t_a_x1, t_a_x2, zJ, rfl, rfl⟩
 refine wkf (zj (wsr (oM rfl (zb h fun y4 hy4 h => oT (zM (zaM hy4) hT (s1 rfl) k4 (fun R H' hR => ?_))))))
 obtain ⟨t5, t6, rfl, rfl⟩ := hR
 refine zb h fun y7 hy7 h => oT (zA (zjQ hy7) hT (s1 rfl) .nil (oV (zbt rfl) (rnf (zg h rfl (fun _ h => ?_) (fun _ h => ?_)))))
 ·refine wsr (oM rfl (oM rfl (zb h fun y8 hy8 h => oT (zM (zaM hy8) hT (s1 rfl) k4 (fun R H' hR => ?_)))))
  obtain ⟨t9, t10, rfl, rfl⟩ := hR
  refine zb h fun y11 hy11 h => oT (zM (za9 hy11) hT (s3 rfl rfl rfl) k4 (fun R H' hR => ?_))
  obtain ⟨t12, t13, rfl, rfl⟩ := hR
  refine rnf (wsr (oA rfl (rnf (zK (zB (zo (.tmp rfl .nil) k4 ?_))))))
  cases h
  exact ⟨t12, t13, zJ, rfl, rfl⟩
 refine wkf (zj (wsr (oM rfl (oV (zbu rfl rfl) (oM rfl (zaz (jb 32) je .nil h 8 rfl (fun q14 g14 h => ?_) (fun J15 h hJ15 => ?_)))))))
 ·refine rnf (zg h rfl (fun _ h => ?_) (fun _ h => ?_))
  ·refine wsr (oM rfl (oM rfl (zb h fun y17 hy17 h => oT (zM (zaM hy17) hT (s1 rfl) k4 (fun R H' hR => ?_)))))
   obtain ⟨t18, t19, rfl, rfl⟩ := hR
   refine zb h fun y20 hy20 h => oT (zM (za9 hy20) hT (s3 rfl rfl rfl) k4 (fun R H' hR => ?_))
   obtain ⟨t21, t22, rfl, rfl⟩ := hR
   refine rnf (wsr (oA rfl (rnf (zK (zB (zo (.tmp rfl .nil) k4 ?_))))))
   cases h
   exact ⟨t21, t22, zJ, rfl, rfl⟩
  refine wkf (wsr (oM rfl (oV (zw rfl) (oV (zaj rfl zcr zdZ) (oV (zaj rfl zgt zf6) (oT (zL (R := vecv zJ (y4.2.m.nodes.length)) ty28 rfl .here isvV1 (oV (zgv sl28 rfl) (oA rfl ?_)))))))))
  refine rnf (wsr (oM rfl (oM rfl (oV (zw rfl) (oV (zaj rfl zcr zdZ) (oV (zaj rfl zgt zf6) (oT (zL (R := vecv zJ (y4.2.m.nodes.length)) ty28 rfl .here isvV1 (oV (zaE (z := (GNode.mk (0 : Int) (Str.mk []) (GMark.mk false (0 : Int) (0 : Int)) (GCon.mk false false false false (0 : Int) (0 : Int)) ([] : (List GItem)) ([] : (List GFld)) (0 : Int) false (0 : Int))) rfl bu108 ze108 .nil) ?_)))))))))
  refine oT (zad (l := ([(GNode.mk (0 : Int) (Str.mk []) (GMark.mk false (0 : Int) (0 : Int)) (GCon.mk false false false false (0 : Int) (0 : Int)) ([] : (List GItem)) ([] : (List GFld)) (0 : Int) false (0 : Int))] : (List GNode))) el28 (.cons rfl hI .nil) rfl rfl (zar h fun q25 h => oT (zgc (m := ([(GNode.mk (0 : Int) (Str.mk []) (GMark.mk false (0 : Int) (0 : Int)) (GCon.mk false false false false (0 : Int) (0 : Int)) ([] : (List GItem)) ([] : (List GFld)) (0 : Int) false (0 : Int))] : (List GNode))) zoz rfl rfl zO (.there tI) (by first | rfl | simp) q25 fun v24 => ?_)))
  refine oV (zw rfl) (oV (zaj rfl zcr zdZ) (oV (zaj rfl zgt zf6) (oT (zk (y' := ((y4.2.l, y4.2.at_, (y4.2.m.name, y4.2.m.tagging, (TList.mk t5 y4.2.m.names), (TList.mk t6 y4.2.m.types), (Vh.mk v24 (y4.2.m.nodes ++ ([(GNode.mk (0 : Int) (Str.mk []) (GMark.mk false (0 : Int) (0 : Int)) (GCon.mk false false false false (0 : Int) (0 : Int)) ([] : (List GItem)) ([] : (List GFld)) (0 : Int) false (0 : Int))] : (List GNode))).length)), y4.2.e, y4.2.p) : ((List GTok) × Int × (Str × Int × (TList Str) × (TList Int) × Vh) × Int × Int))) ty28 rfl rfl isvV2 tH rfl (rnf (wsr (oV (zaE (z := (((0 : Int), (Str.mk []), (GMark.mk false (0 : Int) (0 : Int)), (GCon.mk false false false false (0 : Int) (0 : Int)), (TList.mk none ([] : (List GItem))), (TList.mk none ([] : (List GFld))), (0 : Int), false, (0 : Int)) : (Int × Str × GMark × GCon × (TList GItem) × (TList GFld) × Int × Bool × Int))) rfl bu108 zl5 .nil) (oT (zag _ zl5 fun b26 => zQ (za1) ?_)))))))))
  refine zQ (za1) (zQ (za1) (zQ (za1) (oT (zk (y' := (((0 : Int), (Str.mk []), (GMark.mk false (0 : Int) (0 : Int)), (GCon.mk false false false false (0 : Int) (0 : Int)), (TList.mk none ([] : (List GItem))), (TList.mk none ([] : (List GFld))), (0 : Int), false, (0 : Int)) : (Int × Str × GMark × GCon × (TList GItem) × (TList GFld) × Int × Bool × Int))) ty108 rfl rfl hI (.there (.there tI)) rfl (rnf (zj (wsr (oM rfl (zb h fun y31 hy31 h => ?_)))))))))
  refine oT (zM (zP hy31) hT (s2 rfl rfl) (.cons (.there (.there (.there tI))) (.cons (.there (.there (.there (.there tI)))) (.cons (.there (.there (.there (.there tI)))) (.cons (.there (.there (.there tI))) .nil)))) (fun R H' hR => ?_))
  obtain ⟨t32, t33, rfl, rfl⟩ := hR
  refine rnf (zdx (ι := GPar × GNode) (γ := Tok × Tok × Tok × Tok) (fun q34 g34 => []) (fun q34 g34 => [boxE zH ((q34.1.l, q34.1.at_, (q34.1.m.name, q34.1.m.tagging, (TList.mk g34.1 q34.1.m.names), (TList.mk g34.2.1 q34.1.m.types), (Vh.mk v24 q34.1.m.nodes.length)), q34.1.e, q34.1.p) : ((List GTok) × Int × (Str × Int × (TList Str) × (TList Int) × Vh) × Int × Int)), tokE g34.1, tokE g34.2.1, vecE v24 (q34.1.m.nodes : List GNode), boxE b26 ((q34.2.kind, q34.2.name, q34.2.mark, q34.2.con, (TList.mk g34.2.2.1 q34.2.items), (TList.mk g34.2.2.2 q34.2.fields), q34.2.root, q34.2.more, q34.2.of) : (Int × Str × GMark × GCon × (TList GItem) × (TList GFld) × Int × Bool × Int)), tokE g34.2.2.1, tokE g34.2.2.2]) (.cons .here (.cons (.there tI) (.cons .here k4))) h (fun q34 g34 h => ?_) (fun J35 h hJ35 => ?_))
  ·refine wsr (oM rfl (oM rfl (zb h fun y63 hy63 h => oT (zM (zda hy63) hT (s3 rfl rfl rfl) (.cons .here (.cons .here (.cons .here k4))) (fun R H' hR => ?_)))))
   obtain ⟨t64, t65, v66, t67, t68, rfl, rfl⟩ := hR
   refine rnf (zj (wsr (oM rfl (oV (zw rfl) (oV (zaj rfl zbH zc8) (oT (zL (R := isv (y63.1.e)) ty31 rfl .here hI (oV (zbP rfl rfl) (rnf ?_)))))))))
   refine zg h rfl (fun _ h => ?_) (fun _ h => ?_)
   ·refine wsr (oA rfl (rnf (zK (zB (zo (.tmp rfl .nil) k4 ?_)))))
    cases h
    exact ⟨t64, t65, v66, rfl, rfl⟩
   refine wkf (zj (zc7 6 (.there (.there tI)) rfl (fun o69 hn70 => zc7 0 .here rfl (fun o71 hn72 => zS (.v 0 (.v 1 (.v 2 (.v 3 (.v 4 (.v 5 (.v 6 (.v 7 (.t 8 .nil))))))))) moOrd (by kernel_rfl) ?_))))
   refine rvm rfl rfl (zp rfl (zbr rfl) (zp rfl (zf2 rfl zcr zdZ) (zp rfl (zf2 rfl zgt zf6) (zp rfl (zdh (R := vecv v66 (y63.1.m.nodes.length)) ty28 rfl (List.Mem.head _) isvV1) (rvm rfl rfl (zp rfl (zdh (R := isv (((y63.2.kind, y63.2.name, y63.2.mark, y63.2.con, (TList.mk t67 y63.2.items), (TList.mk t68 y63.2.fields), y63.2.root, y63.2.more, y63.2.of)) : ((Int × Str × GMark × GCon × (TList GItem) × (TList GFld) × Int × Bool × Int)))) ty108 rfl (List.Mem.tail _ (List.Mem.head _)) hI) (zbj (zY (R' := isv (y63.2)) 105 rfl (Cv.isv rfl fun S => (fun cs h => GNode.cv (x := y63.2) cs (((Cv.pair Cv.id (Cv.pair Cv.id (Cv.pair Cv.id (Cv.pair Cv.id (Cv.pair Cv.tl (Cv.pair Cv.tl (Cv.pair Cv.id (Cv.pair Cv.id Cv.id)))))))) : Cv S ((y63.2.kind, y63.2.name, y63.2.mark, y63.2.con, (TList.mk t67 y63.2.items), (TList.mk t68 y63.2.fields), y63.2.root, y63.2.more, y63.2.of) : (Int × Str × GMark × GCon × (TList GItem) × (TList GFld) × Int × Bool × Int)) (GNode.to y63.2)) cs h)))) (zI h fun q73 h => ?_))))))))
   refine zp rfl (zan (α := GNode) sl28 rfl rfl q73.1 q73.2) (zb h fun y74 hy74 h => zT rfl rfl (zat ty108 rfl rfl tI hy74 (zac (zaP 0 hn72 rfl (zoL (zg0 (y := ((y63.1.l, y63.1.at_, (y63.1.m.name, y63.1.m.tagging, (TList.mk t64 y63.1.m.names), (TList.mk t65 y63.1.m.types), (Vh.mk v66 (y63.1.m.nodes.set (((y4.2.m.nodes.length : Nat) : Int).toNat) y63.2).length)), y63.1.e, y63.1.p) : ((List GTok) × Int × (Str × Int × (TList Str) × (TList Int) × Vh) × Int × Int))) .here (fun S => (Cv.pair Cv.id (Cv.pair Cv.id (Cv.pair (Cv.pair Cv.id (Cv.pair Cv.id (Cv.pair Cv.id (Cv.pair Cv.id (Cv.vhe (by first | rfl | simp)))))) (Cv.pair Cv.id Cv.id)))))) ?_)))))
   refine zaP 6 hn70 rfl (zy (wsr (oM rfl (oA rfl (rnf (zK (zo (.tmp rfl .nil) (.cons tH (.cons tI (.cons tI (.cons tH .nil)))) ?_)))))))
   cases h
   exact ⟨t64, t65, v66, rfl, rfl⟩
  refine zg h rfl (fun _ h => ?_) (fun _ h => ?_)
  ·refine wsr (oM rfl (zb h fun y36 hy36 h => oT (zM (zaM hy36) hT (s1 rfl) k4 (fun R H' hR => ?_))))
   obtain ⟨t37, t38, rfl, rfl⟩ := hR
   refine oT (zag _ ze80 fun b39 => oT (zk (y' := (y36.1 : GTok)) ty80 rfl rfl hI .here rfl (zQ (zas 7 .here rfl) (rnf (wsr (oM rfl (zb h fun y40 hy40 h => oT (zM (zcz hy40) hT (s1 rfl) k4 (fun R H' hR => ?_)))))))))
   obtain ⟨t41, t42, rfl, rfl⟩ := hR
   refine oA rfl (rnf (zj (wsr (oM rfl (oV (zw rfl) (oV (zaj rfl zbH zc8) (oT (zL (R := isv (y40.2.e)) ty31 rfl .here hI (oV (zao rfl rfl) ?_)))))))))
   refine oM rfl (zaz (jb 74) je .nil h 7 rfl (fun q43 g43 h => ?_) (fun J44 h hJ44 => ?_))
   ·refine rnf (zdx (ι := GPar) (γ := Tok × Tok) (fun q49 g49 => []) (fun q49 g49 => [boxE zH ((q49.l, q49.at_, (q49.m.name, q49.m.tagging, (TList.mk g49.1 q49.m.names), (TList.mk g49.2 q49.m.types), (Vh.mk v24 q49.m.nodes.length)), q49.e, q49.p) : ((List GTok) × Int × (Str × Int × (TList Str) × (TList Int) × Vh) × Int × Int)), tokE g49.1, tokE g49.2, vecE v24 (q49.m.nodes : List GNode)]) k4 h (fun q49 g49 h => ?_) (fun J50 h hJ50 => ?_))
    ·refine wsr (oM rfl (zb h fun y54 hy54 h => oT (zM (zak hy54) hT (s2 rfl rfl) k4 (fun R H' hR => ?_))))
     obtain ⟨t55, t56, rfl, rfl⟩ := hR
     refine rnf (wsr (oM rfl (oV (zaE (z := (GMark.mk true y40.1 (0 : Int))) rfl bu106 ze106 (.cons GMark.f0 zjM rfl hI (.cons GMark.f1 zl3 rfl hI .nil))) (oV (zaj rfl zh7 zfn) (oT (zk (y' := (((0 : Int), (Str.mk []), (GMark.mk true y40.1 (0 : Int)), (GCon.mk false false false false (0 : Int) (0 : Int)), (TList.mk none ([] : (List GItem))), (TList.mk none ([] : (List GFld))), (0 : Int), false, (0 : Int)) : (Int × Str × GMark × GCon × (TList GItem) × (TList GFld) × Int × Bool × Int))) ty106 rfl rfl hI (.there (.there tI)) rfl (rnf (wsr (oM rfl ?_)))))))))
     refine zb h fun y57 hy57 h => oT (zM (zP hy57) hT (s2 rfl rfl) (.cons tH (.cons tH (.cons tH (.cons tH .nil)))) (fun R H' hR => ?_))
     obtain ⟨t58, t59, rfl, rfl⟩ := hR
     refine rnf (zg h rfl (fun _ h => ?_) (fun _ h => ?_))
     ·exact zh (oV (zaj rfl zh7 zfn) (oV (zaj rfl GMark.f2 zir) (oT (zk (y' := (((0 : Int), (Str.mk []), (GMark.mk true y40.1 (1 : Int)), (GCon.mk false false false false (0 : Int) (0 : Int)), (TList.mk none ([] : (List GItem))), (TList.mk none ([] : (List GFld))), (0 : Int), false, (0 : Int)) : (Int × Str × GMark × GCon × (TList GItem) × (TList GFld) × Int × Bool × Int))) ty3 rfl rfl hI (.there (.there tI)) rfl (zx (hJ35 _ (t58, t59, none, none) h _ (ze 23 rfl rfl zd (.cons tH (.cons tH (.cons tH (.cons tH (.cons .here (.cons tH k3)))))))))))))
     refine wsr (oM rfl (zb h fun y60 hy60 h => oT (zM (zP hy60) hT (s2 rfl rfl) k4 (fun R H' hR => ?_))))
     obtain ⟨t61, t62, rfl, rfl⟩ := hR
     refine rnf (zg h rfl (fun _ h => ?_) (fun _ h => ?_))
     ·exact zh (oV (zaj rfl zh7 zfn) (oV (zaj rfl GMark.f2 zir) (oT (zk (y' := (((0 : Int), (Str.mk []), (GMark.mk true y40.1 (2 : Int)), (GCon.mk false false false false (0 : Int) (0 : Int)), (TList.mk none ([] : (List GItem))), (TList.mk none ([] : (List GFld))), (0 : Int), false, (0 : Int)) : (Int × Str × GMark × GCon × (TList GItem) × (TList GFld) × Int × Bool × Int))) ty3 rfl rfl hI (.there (.there tI)) rfl (zx (hJ35 _ (t61, t62, none, none) h _ (ze 25 rfl rfl zd (.cons tH (.cons tH (.cons tH (.cons tH (.cons .here (.cons tH k3)))))))))))))
     exact zab (hJ35 _ (t61, t62, none, none) h _ (ze 23 rfl rfl zd (.cons .here (.cons .here (.cons .here (.cons .here (.cons .here (.cons tH k3))))))))
    refine zg h rfl (fun _ h => ?_) (fun _ h => ?_)
    ·refine zh (oM rfl (oV (zf ty80 rfl) (zb h fun y51 hy51 h => oT (zM (za9 hy51) hT (s3 rfl rfl rfl) k4 (fun R H' hR => ?_)))))
     obtain ⟨t52, t53, rfl, rfl⟩ := hR
     exact zx (hJ50 _ (t52, t53) h _ (ze 3 rfl rfl zd (.cons .here (.cons .here (.cons .here (.cons .here (.cons .here k4)))))))
    exact zab (hJ50 _ (t41, t42) h _ (ze 0 rfl rfl zd (.cons .here (.cons .here (.cons .here (.cons .here (.cons .here k4)))))))
   refine zC (j := 67) h rfl (fun g45 h => ?_) (fun g45 h => ?_)
   ·refine oK 67 rfl rfl rfl g45 (zq rfl) (oK 67 rfl rfl rfl g45 (zai rfl rfl) (oK 67 rfl rfl rfl g45 (zq rfl) (zaz (jb 73) je .nil h 3 rfl (fun q46 g46 h => ?_) (fun J47 h hJ47 => ?_))))
    ·exact oV (zs rfl g45 rfl) (hJ44 _ () h _ (ze 5 rfl rfl (za (j := 74) rfl hI zd) (.cons .here (.cons .here (.cons .here (.cons .here (.cons .here k4)))))))
    refine zC (j := 70) h rfl (fun g48 h => ?_) (fun g48 h => ?_)
    ·exact oP 70 rfl rfl g48 (oP 70 rfl rfl g48 (oK 67 rfl rfl rfl g45 (zs rfl g48 rfl) (hJ47 _ () h _ (ze 3 rfl rfl (za (j := 73) rfl hI zd) (.cons .here (.cons .here (.cons .here (.cons .here (.cons .here k4)))))))))
    exact oK 70 rfl rfl rfl g48 (zq rfl) (oK 70 rfl rfl rfl g48 (zbu rfl rfl) (oK 67 rfl rfl rfl g45 (zr rfl g48 rfl) (hJ47 _ () h _ (ze 3 rfl rfl (za (j := 73) rfl hI zd) (.cons .here (.cons .here (.cons .here (.cons .here (.cons .here k4)))))))))
   exact oP 67 rfl rfl g45 (oP 67 rfl rfl g45 (oP 67 rfl rfl g45 (zE rfl (dj := 70) rfl (zE rfl (dj := 70) rfl (oP 67 rfl rfl g45 (oV (zr rfl g45 rfl) (hJ44 _ () h _ (ze 7 rfl rfl (za (j := 74) rfl hI zd) (.cons .here (.cons .here (.cons .here (.cons .here (.cons .here k4)))))))))))))
  exact zab (hJ35 _ (t32, t33, none, none) h _ (ze 0 rfl rfl zd (.cons .here (.cons .here (.cons .here (.cons .here (.cons .here (.cons tH k3))))))))
 refine zC (j := 24) h rfl (fun g16 h => ?_) (fun g16 h => ?_)
 ·exact oP 24 rfl rfl g16 (oP 24 rfl rfl g16 (oP 24 rfl rfl g16 (oP 24 rfl rfl g16 (oP 24 rfl rfl g16 (oP 24 rfl rfl g16 (oP 24 rfl rfl g16 (oV (zs rfl g16 rfl) (hJ15 _ () h _ (ze 8 rfl rfl (za (j := 32) rfl hI zd) k4)))))))))
 exact oK 24 rfl rfl rfl g16 (zq rfl) (oK 24 rfl rfl rfl g16 (zw rfl) (oK 24 rfl rfl rfl g16 (zaj rfl zcr zdZ) (oK 24 rfl rfl rfl g16 (zaj rfl zgt zf6) (zaF rfl rfl (dj := 24) rfl g16 (zL (R := vecv zJ (y4.2.m.nodes.length)) ty28 rfl .here isvV1 (oK 24 rfl rfl rfl g16 (zgv sl28 rfl) (oK 24 rfl rfl rfl g16 (zed rfl rfl) (oV (zr rfl g16 rfl) (hJ15 _ () h _ (ze 8 rfl rfl (za (j := 32) rfl hI zd) k4))))))))))

theorem zhf {zap : GPar → GNode → Int → Int → Option (GPar × GNode)} {zaA : GPar → Int → Option (Int × GPar)} {zay : GPar → GNode → Int → Option (GPar × GNode)} {zal : GPar → GNode → Int → Option (GPar × GNode)} (zch : zcb zap) (zcN : zb9 zaA) (zda : zcw zay) (zbC : zb5 zal) : ∀ {a_x : GPar} {a_n_ : GNode} {zX : Int} {zH : Nat} {t_a_x1 : Tok} {t_a_x2 : Tok} {zJ : Vt} {zaZ : Nat} {t_a_n_4 : Tok} {t_a_n_5 : Tok} {r : GPar × GNode}, zcp zap zaA zay zal a_x a_n_ zX = some r → Ctr Tryd.prog 53 [ptrv zH (Fld.id ((List GTok) × Int × (Str × Int × (TList Str) × (TList Int) × Vh) × Int × Int)), ptrv zaZ (Fld.id (Int × Str × GMark × GCon × (TList GItem) × (TList GFld) × Int × Bool × Int)), isv (zX)] [boxE zH ((a_x.l, a_x.at_, (a_x.m.name, a_x.m.tagging, (TList.mk t_a_x1 a_x.m.names), (TList.mk t_a_x2 a_x.m.types), (Vh.mk zJ a_x.m.nodes.length)), a_x.e, a_x.p) : ((List GTok) × Int × (Str × Int × (TList Str) × (TList Int) × Vh) × Int × Int)), tokE t_a_x1, tokE t_a_x2, vecE zJ (a_x.m.nodes : List GNode), boxE zaZ ((a_n_.kind, a_n_.name, a_n_.mark, a_n_.con, (TList.mk t_a_n_4 a_n_.items), (TList.mk t_a_n_5 a_n_.fields), a_n_.root, a_n_.more, a_n_.of) : (Int × Str × GMark × GCon × (TList GItem) × (TList GFld) × Int × Bool × Int)), tokE t_a_n_4, tokE t_a_n_5] (fun R H => ∃ u1 : Tok, ∃ u2 : Tok, ∃ u3 : Vt, ∃ u4 : Tok, ∃ u5 : Tok, R = oneOf [] ∧ H = [boxE zH ((r.1.l, r.1.at_, (r.1.m.name, r.1.m.tagging, (TList.mk u1 r.1.m.names), (TList.mk u2 r.1.m.types), (Vh.mk u3 r.1.m.nodes.length)), r.1.e, r.1.p)), tokE u1, tokE u2, vecE u3 (r.1.m.nodes), boxE zaZ ((r.2.kind, r.2.name, r.2.mark, r.2.con, (TList.mk u4 r.2.items), (TList.mk u5 r.2.fields), r.2.root, r.2.more, r.2.of)), tokE u4, tokE u5]) := by
 intro a_x a_n_ zX zH t_a_x1 t_a_x2 zJ zaZ t_a_n_4 t_a_n_5 r h
 unfold zcp at h
 refine zu Tryd.func53 rfl fun w0 S0 hT => wsr (oM rfl (zb h fun y6 hy6 h => oT (zM (zaM hy6) hT (s1 rfl) k4 (fun R H' hR => ?_))))
 obtain ⟨t7, t8, rfl, rfl⟩ := hR
 refine oT (zag _ ze80 fun b9 => oT (zk (y' := (y6.1 : GTok)) ty80 rfl rfl hI .here rfl (zQ (zas 6 .here rfl) (rnf (zt (wsr (oM rfl (oV (zw rfl) (oV (zaj rfl zbH zc8) ?_)))))))))
 refine oT (zL (R := isv (y6.2.e)) ty31 rfl .here hI (oV (zbP rfl rfl) (oA rfl (rnf (zg h rfl (fun _ h => ?_) (fun _ h => ?_))))))
 ·refine zab (zi (zam .nil (.cons .here (.cons .here (.cons .here k4))) ?_))
  cases h
  exact ⟨t7, t8, zJ, t_a_n_4, t_a_n_5, rfl, rfl⟩
 refine wsr (oM rfl (zb h fun y10 hy10 h => oT (zM (zP hy10) hT (s2 rfl rfl) k4 (fun R H' hR => ?_))))
 obtain ⟨t11, t12, rfl, rfl⟩ := hR
 refine oA rfl (rnf (zg h rfl (fun _ h => ?_) (fun _ h => ?_)))
 ·refine zh (oM rfl (oV (zw rfl) (oV (zaj rfl zcm zbG) (oT (zk (y' := (((1 : Int), a_n_.name, a_n_.mark, a_n_.con, (TList.mk t_a_n_4 a_n_.items), (TList.mk t_a_n_5 a_n_.fields), a_n_.root, a_n_.more, a_n_.of) : (Int × Str × GMark × GCon × (TList GItem) × (TList GFld) × Int × Bool × Int))) ty3 rfl rfl hI (.there (.there tI)) rfl (zx (zi (zam .nil (.cons tH (.cons tH (.cons tH (.cons tH k3)))) ?_))))))))
  cases h
  exact ⟨t11, t12, zJ, t_a_n_4, t_a_n_5, rfl, rfl⟩
 refine wsr (oM rfl (zb h fun y13 hy13 h => oT (zM (zP hy13) hT (s2 rfl rfl) k4 (fun R H' hR => ?_))))
 obtain ⟨t14, t15, rfl, rfl⟩ := hR
 refine oA rfl (rnf (zg h rfl (fun _ h => ?_) (fun _ h => ?_)))
 ·refine zh (oM rfl (oV (zw rfl) (oV (zaj rfl zcm zbG) (oT (zk (y' := (((4 : Int), a_n_.name, a_n_.mark, a_n_.con, (TList.mk t_a_n_4 a_n_.items), (TList.mk t_a_n_5 a_n_.fields), a_n_.root, a_n_.more, a_n_.of) : (Int × Str × GMark × GCon × (TList GItem) × (TList GFld) × Int × Bool × Int))) ty3 rfl rfl hI (.there (.there tI)) rfl (zx (zi (zam .nil (.cons tH (.cons tH (.cons tH (.cons tH k3)))) ?_))))))))
  cases h
  exact ⟨t14, t15, zJ, t_a_n_4, t_a_n_5, rfl, rfl⟩
 refine wsr (oM rfl (zb h fun y16 hy16 h => oT (zM (zP hy16) hT (s2 rfl rfl) k4 (fun R H' hR => ?_))))
 obtain ⟨t17, t18, rfl, rfl⟩ := hR
 refine oA rfl (rnf (zg h rfl (fun _ h => ?_) (fun _ h => ?_)))
 ·refine wsr (oM rfl (oV (zw rfl) (oV (zaj rfl zcm zbG) (oT (zk (y' := (((6 : Int), a_n_.name, a_n_.mark, a_n_.con, (TList.mk t_a_n_4 a_n_.items), (TList.mk t_a_n_5 a_n_.fields), a_n_.root, a_n_.more, a_n_.of) : (Int × Str × GMark × GCon × (TList GItem) × (TList GFld) × Int × Bool × Int))) ty3 rfl rfl hI (.there (.there tI)) rfl (rnf (zh (oM rfl (oM rfl ?_)))))))))
  refine zb h fun y19 hy19 h => oT (zM (zd9 hy19) hT (s1 rfl) (.cons tH (.cons tH (.cons tH (.cons tH .nil)))) (fun R H' hR => ?_))
  obtain ⟨t20, t21, rfl, rfl⟩ := hR
  refine oV (zw rfl) (oV (zaj rfl zgU zgT) (oT (zk (y' := (((6 : Int), a_n_.name, a_n_.mark, y19.1, (TList.mk t_a_n_4 a_n_.items), (TList.mk t_a_n_5 a_n_.fields), a_n_.root, a_n_.more, a_n_.of) : (Int × Str × GMark × GCon × (TList GItem) × (TList GFld) × Int × Bool × Int))) ty50 rfl rfl hI (.there (.there tI)) rfl (zx (zi (zam .nil (.cons tH (.cons tH (.cons tH (.cons tH k3)))) ?_))))))
  cases h
  exact ⟨t20, t21, zJ, t_a_n_4, t_a_n_5, rfl, rfl⟩
 refine wsr (oM rfl (zb h fun y22 hy22 h => oT (zM (zP hy22) hT (s2 rfl rfl) k4 (fun R H' hR => ?_))))
 obtain ⟨t23, t24, rfl, rfl⟩ := hR
 refine oA rfl (rnf (zg h rfl (fun _ h => ?_) (fun _ h => ?_)))
 ·refine wsr (oM rfl (oV (zw rfl) (oV (zaj rfl zcm zbG) (oT (zk (y' := (((2 : Int), a_n_.name, a_n_.mark, a_n_.con, (TList.mk t_a_n_4 a_n_.items), (TList.mk t_a_n_5 a_n_.fields), a_n_.root, a_n_.more, a_n_.of) : (Int × Str × GMark × GCon × (TList GItem) × (TList GFld) × Int × Bool × Int))) ty3 rfl rfl hI (.there (.there tI)) rfl (rnf (wsr (oM rfl (zb h fun y25 hy25 h => ?_)))))))))
  refine oT (zM (zP hy25) hT (s2 rfl rfl) (.cons tH (.cons tH (.cons tH (.cons tH .nil)))) (fun R H' hR => ?_))
  obtain ⟨t26, t27, rfl, rfl⟩ := hR
  refine rnf (zg h rfl (fun _ h => ?_) (fun _ h => ?_))
  ·refine wsr (oM rfl (oM rfl (zb h fun y28 hy28 h => oT (zM (zeN hy28) hT (s1 rfl) k4 (fun R H' hR => ?_)))))
   obtain ⟨t29, t30, rfl, rfl⟩ := hR
   refine oV (zw rfl) (oV (zaj rfl zgU zgT) (oT (zk (y' := (((2 : Int), a_n_.name, a_n_.mark, y28.1, (TList.mk t_a_n_4 a_n_.items), (TList.mk t_a_n_5 a_n_.fields), a_n_.root, a_n_.more, a_n_.of) : (Int × Str × GMark × GCon × (TList GItem) × (TList GFld) × Int × Bool × Int))) ty50 rfl rfl hI (.there (.there tI)) rfl (rnf (zh (oM rfl (zb h fun y31 hy31 h => oT (zM (zak hy31) hT (s2 rfl rfl) (.cons tH (.cons tH (.cons tH (.cons tH .nil)))) (fun R H' hR => ?_)))))))))
   obtain ⟨t32, t33, rfl, rfl⟩ := hR
   refine zx (zi (zam .nil (.cons .here (.cons .here (.cons .here k4))) ?_))
   cases h
   exact ⟨t32, t33, zJ, t_a_n_4, t_a_n_5, rfl, rfl⟩
  refine zab (zi (zam .nil (.cons .here (.cons .here (.cons .here k4))) ?_))
  cases h
  exact ⟨t26, t27, zJ, t_a_n_4, t_a_n_5, rfl, rfl⟩
 refine wsr (oM rfl (zb h fun y34 hy34 h => oT (zM (zP hy34) hT (s2 rfl rfl) k4 (fun R H' hR => ?_))))
 obtain ⟨t35, t36, rfl, rfl⟩ := hR
 refine oA rfl (rnf (zg h rfl (fun _ h => ?_) (fun _ h => ?_)))
 ·refine wsr (oM rfl (zb h fun y37 hy37 h => oT (zM (zak hy37) hT (s2 rfl rfl) k4 (fun R H' hR => ?_))))
  obtain ⟨t38, t39, rfl, rfl⟩ := hR
  refine rnf (wsr (oM rfl (oV (zw rfl) (oV (zaj rfl zcm zbG) (oT (zk (y' := (((5 : Int), a_n_.name, a_n_.mark, a_n_.con, (TList.mk t_a_n_4 a_n_.items), (TList.mk t_a_n_5 a_n_.fields), a_n_.root, a_n_.more, a_n_.of) : (Int × Str × GMark × GCon × (TList GItem) × (TList GFld) × Int × Bool × Int))) ty3 rfl rfl hI (.there (.there tI)) rfl (rnf (zh (oM rfl ?_)))))))))
  refine oM rfl (zb h fun y40 hy40 h => oT (zM (zd9 hy40) hT (s1 rfl) (.cons tH (.cons tH (.cons tH (.cons tH .nil)))) (fun R H' hR => ?_)))
  obtain ⟨t41, t42, rfl, rfl⟩ := hR
  refine oV (zw rfl) (oV (zaj rfl zgU zgT) (oT (zk (y' := (((5 : Int), a_n_.name, a_n_.mark, y40.1, (TList.mk t_a_n_4 a_n_.items), (TList.mk t_a_n_5 a_n_.fields), a_n_.root, a_n_.more, a_n_.of) : (Int × Str × GMark × GCon × (TList GItem) × (TList GFld) × Int × Bool × Int))) ty50 rfl rfl hI (.there (.there tI)) rfl (zx (zi (zam .nil (.cons tH (.cons tH (.cons tH (.cons tH k3)))) ?_))))))
  cases h
  exact ⟨t41, t42, zJ, t_a_n_4, t_a_n_5, rfl, rfl⟩
 refine wsr (oM rfl (zb h fun y43 hy43 h => oT (zM (zP hy43) hT (s2 rfl rfl) k4 (fun R H' hR => ?_))))
 obtain ⟨t44, t45, rfl, rfl⟩ := hR
 refine oA rfl (rnf (zg h rfl (fun _ h => ?_) (fun _ h => ?_)))
 ·refine wsr (oM rfl (oV (zw rfl) (oV (zaj rfl zcm zbG) (oT (zk (y' := (((3 : Int), a_n_.name, a_n_.mark, a_n_.con, (TList.mk t_a_n_4 a_n_.items), (TList.mk t_a_n_5 a_n_.fields), a_n_.root, a_n_.more, a_n_.of) : (Int × Str × GMark × GCon × (TList GItem) × (TList GFld) × Int × Bool × Int))) ty3 rfl rfl hI (.there (.there tI)) rfl (rnf (wsr (oM rfl (zb h fun y46 hy46 h => ?_)))))))))
  refine oT (zM (zak hy46) hT (s2 rfl rfl) (.cons tH (.cons tH (.cons tH (.cons tH .nil)))) (fun R H' hR => ?_))
  obtain ⟨t47, t48, rfl, rfl⟩ := hR
  refine rnf (wsr (oM rfl (oM rfl (zb h fun y49 hy49 h => oT (zM (zhi hy49) hT (s2 rfl rfl) (.cons .here (.cons .here (.cons .here k4))) (fun R H' hR => ?_))))))
  obtain ⟨t50, t51, t52, t53, rfl, rfl⟩ := hR
  refine rnf (zh (oM rfl (zb h fun y54 hy54 h => oT (zM (zak hy54) hT (s2 rfl rfl) k4 (fun R H' hR => ?_)))))
  obtain ⟨t55, t56, rfl, rfl⟩ := hR
  refine zx (zi (zam .nil (.cons .here (.cons .here (.cons .here k4))) ?_))
  cases h
  exact ⟨t55, t56, zJ, t52, t53, rfl, rfl⟩
 refine wsr (oM rfl (zb h fun y57 hy57 h => oT (zM (zP hy57) hT (s2 rfl rfl) k4 (fun R H' hR => ?_))))
 obtain ⟨t58, t59, rfl, rfl⟩ := hR
 refine oA rfl (rnf (zg h rfl (fun _ h => ?_) (fun _ h => ?_)))
 ·refine wsr (oM rfl (oV (zw rfl) (oV (zaj rfl zcm zbG) (oT (zk (y' := (((8 : Int), a_n_.name, a_n_.mark, a_n_.con, (TList.mk t_a_n_4 a_n_.items), (TList.mk t_a_n_5 a_n_.fields), a_n_.root, a_n_.more, a_n_.of) : (Int × Str × GMark × GCon × (TList GItem) × (TList GFld) × Int × Bool × Int))) ty3 rfl rfl hI (.there (.there tI)) rfl (rnf (wsr (oM rfl (zb h fun y60 hy60 h => ?_)))))))))
  refine oT (zM (zak hy60) hT (s2 rfl rfl) (.cons tH (.cons tH (.cons tH (.cons tH .nil)))) (fun R H' hR => ?_))
  obtain ⟨t61, t62, rfl, rfl⟩ := hR
  refine rnf (zh (oM rfl (oM rfl (oM rfl (zb h fun y63 hy63 h => oT (zM (zbC hy63) hT (s3 rfl rfl rfl) (.cons .here (.cons .here (.cons .here k4))) (fun R H' hR => ?_)))))))
  obtain ⟨t64, t65, v66, t67, t68, rfl, rfl⟩ := hR
  refine zx (zi (zam .nil (.cons .here (.cons .here (.cons .here k4))) ?_))
  cases h
  exact ⟨t64, t65, v66, t67, t68, rfl, rfl⟩
 refine wsr (oM rfl (zb h fun y69 hy69 h => oT (zM (zP hy69) hT (s2 rfl rfl) k4 (fun R H' hR => ?_))))
 obtain ⟨t70, t71, rfl, rfl⟩ := hR
 refine oA rfl (rnf (zg h rfl (fun _ h => ?_) (fun _ h => ?_)))
 ·refine wsr (oM rfl (oV (zw rfl) (oV (zaj rfl zcm zbG) (oT (zk (y' := (((9 : Int), a_n_.name, a_n_.mark, a_n_.con, (TList.mk t_a_n_4 a_n_.items), (TList.mk t_a_n_5 a_n_.fields), a_n_.root, a_n_.more, a_n_.of) : (Int × Str × GMark × GCon × (TList GItem) × (TList GFld) × Int × Bool × Int))) ty3 rfl rfl hI (.there (.there tI)) rfl (rnf (wsr (oM rfl (zb h fun y72 hy72 h => ?_)))))))))
  refine oT (zM (zak hy72) hT (s2 rfl rfl) (.cons tH (.cons tH (.cons tH (.cons tH .nil)))) (fun R H' hR => ?_))
  obtain ⟨t73, t74, rfl, rfl⟩ := hR
  refine rnf (zh (oM rfl (oM rfl (oM rfl (zb h fun y75 hy75 h => oT (zM (zbC hy75) hT (s3 rfl rfl rfl) (.cons .here (.cons .here (.cons .here k4))) (fun R H' hR => ?_)))))))
  obtain ⟨t76, t77, v78, t79, t80, rfl, rfl⟩ := hR
  refine zx (zi (zam .nil (.cons .here (.cons .here (.cons .here k4))) ?_))
  cases h
  exact ⟨t76, t77, v78, t79, t80, rfl, rfl⟩
 refine wsr (oM rfl (zb h fun y81 hy81 h => oT (zM (zP hy81) hT (s2 rfl rfl) k4 (fun R H' hR => ?_))))
 obtain ⟨t82, t83, rfl, rfl⟩ := hR
 refine oA rfl (rnf (zg h rfl (fun _ h => ?_) (fun _ h => ?_)))
 ·refine zj (wsr (oM rfl (zb h fun y84 hy84 h => oT (zM (zP hy84) hT (s2 rfl rfl) k4 (fun R H' hR => ?_)))))
  obtain ⟨t85, t86, rfl, rfl⟩ := hR
  refine rnf (zg h rfl (fun _ h => ?_) (fun _ h => ?_))
  ·refine wsr (oM rfl (oV (zw rfl) (oV (zaj rfl zcm zbG) (oT (zk (y' := (((7 : Int), a_n_.name, a_n_.mark, a_n_.con, (TList.mk t_a_n_4 a_n_.items), (TList.mk t_a_n_5 a_n_.fields), a_n_.root, a_n_.more, a_n_.of) : (Int × Str × GMark × GCon × (TList GItem) × (TList GFld) × Int × Bool × Int))) ty3 rfl rfl hI (.there (.there tI)) rfl (rnf (wsr (oM rfl (oM rfl ?_)))))))))
   refine oM rfl (zb h fun y87 hy87 h => oT (zM (zbC hy87) hT (s3 rfl rfl rfl) (.cons tH (.cons tH (.cons tH (.cons tH k3)))) (fun R H' hR => ?_)))
   obtain ⟨t88, t89, v90, t91, t92, rfl, rfl⟩ := hR
   refine rnf (zK (zB (zG (zo .nil (.cons .here (.cons .here (.cons .here k4))) ?_))))
   cases h
   exact ⟨t88, t89, v90, t91, t92, rfl, rfl⟩
  refine wkf (wsr (oM rfl (oV (zw rfl) (oV (zaj rfl zcm zbG) (oT (zk (y' := (((10 : Int), a_n_.name, a_n_.mark, a_n_.con, (TList.mk t_a_n_4 a_n_.items), (TList.mk t_a_n_5 a_n_.fields), a_n_.root, a_n_.more, a_n_.of) : (Int × Str × GMark × GCon × (TList GItem) × (TList GFld) × Int × Bool × Int))) ty3 rfl rfl hI (.there (.there tI)) rfl (rnf (wsr (oM rfl ?_)))))))))
  refine oM rfl (zb h fun y93 hy93 h => oT (zM (zd9 hy93) hT (s1 rfl) (.cons tH (.cons tH (.cons tH (.cons tH .nil)))) (fun R H' hR => ?_)))
  obtain ⟨t94, t95, rfl, rfl⟩ := hR
  refine oV (zw rfl) (oV (zaj rfl zgU zgT) (oT (zk (y' := (((10 : Int), a_n_.name, a_n_.mark, y93.1, (TList.mk t_a_n_4 a_n_.items), (TList.mk t_a_n_5 a_n_.fields), a_n_.root, a_n_.more, a_n_.of) : (Int × Str × GMark × GCon × (TList GItem) × (TList GFld) × Int × Bool × Int))) ty50 rfl rfl hI (.there (.there tI)) rfl (rnf (wsr (oM rfl (zb h fun y96 hy96 h => oT (zM (zak hy96) hT (s2 rfl rfl) (.cons tH (.cons tH (.cons tH (.cons tH .nil)))) (fun R H' hR => ?_)))))))))
  obtain ⟨t97, t98, rfl, rfl⟩ := hR
  refine rnf (zh (oM rfl (oM rfl (oM rfl (zz h fun q99 h => oV (zaa rfl rfl q99) (zb h fun y100 hy100 h => oT (zM (zcN hy100) hT (s2 rfl rfl) k4 (fun R H' hR => ?_))))))))
  obtain ⟨t101, t102, v103, rfl, rfl⟩ := hR
  refine oV (zw rfl) (oV (zaj rfl zmn zjL) (oT (zk (y' := (((10 : Int), a_n_.name, a_n_.mark, y93.1, (TList.mk t_a_n_4 a_n_.items), (TList.mk t_a_n_5 a_n_.fields), a_n_.root, a_n_.more, y100.1) : (Int × Str × GMark × GCon × (TList GItem) × (TList GFld) × Int × Bool × Int))) ty3 rfl rfl hI (.there (.there tI)) rfl (zx (zi (zam .nil (.cons tH (.cons tH (.cons tH (.cons tH k3)))) ?_))))))
  cases h
  exact ⟨t101, t102, v103, t_a_n_4, t_a_n_5, rfl, rfl⟩
 refine wsr (oV (zZ rfl GTok.f0 zcY rfl (z := y6.1.kind)) (oV (zf ty3 rfl) (oV (zao rfl rfl) (oA rfl (rnf (zg h rfl (fun _ h => ?_) (fun _ h => ?_)))))))
 ·refine zj (zS (.v 0 (.v 1 (.v 2 (.v 3 (.v 4 (.v 5 (.t 6 (.v 7 (.v 8 (.t 9 .nil)))))))))) moOrd (by kernel_rfl) ?_)
  refine rvm rfl rfl (rvm rfl rfl (zp rfl (zZ rfl GTok.f1 zdW rfl (z := y6.1.text)) (zp rfl (zf ty9 rfl) (zp rfl (zw rfl) (zp rfl (zaj rfl zcm zbG) (zT rfl rfl (zk (y' := (((11 : Int), a_n_.name, a_n_.mark, a_n_.con, (TList.mk t_a_n_4 a_n_.items), (TList.mk t_a_n_5 a_n_.fields), a_n_.root, a_n_.more, a_n_.of) : (Int × Str × GMark × GCon × (TList GItem) × (TList GFld) × Int × Bool × Int))) ty3 rfl rfl hI (.there (.there tI)) rfl (zp rfl (zw rfl) (zp rfl (zaj rfl zm3 zjT) ?_)))))))))
  refine zT rfl rfl (zk (y' := (((11 : Int), y6.1.text, a_n_.mark, a_n_.con, (TList.mk t_a_n_4 a_n_.items), (TList.mk t_a_n_5 a_n_.fields), a_n_.root, a_n_.more, a_n_.of) : (Int × Str × GMark × GCon × (TList GItem) × (TList GFld) × Int × Bool × Int))) ty9 rfl rfl hI .here rfl (zac (zy (zh (oM rfl (zb h fun y104 hy104 h => oT (zM (zbx hy104) hT (s1 rfl) (.cons tH (.cons tH (.cons tH (.cons tH .nil)))) (fun R H' hR => ?_))))))))
  obtain ⟨t105, t106, rfl, rfl⟩ := hR
  refine zx (zi (zam .nil (.cons .here (.cons .here (.cons .here k4))) ?_))
  cases h
  exact ⟨t105, t106, zJ, t_a_n_4, t_a_n_5, rfl, rfl⟩
 refine zh (oM rfl (oV (zf ty80 rfl) (zb h fun y107 hy107 h => oT (zM (za9 hy107) hT (s3 rfl rfl rfl) k4 (fun R H' hR => ?_)))))
 obtain ⟨t108, t109, rfl, rfl⟩ := hR
 refine zx (zi (zam .nil (.cons .here (.cons .here (.cons .here k4))) ?_))
 cases h
 exact ⟨t108, t109, zJ, t_a_n_4, t_a_n_5, rfl, rfl⟩

theorem zgx {zap : GPar → GNode → Int → Int → Option (GPar × GNode)} {zaA : GPar → Int → Option (Int × GPar)} {zay : GPar → GNode → Int → Option (GPar × GNode)} {zal : GPar → GNode → Int → Option (GPar × GNode)} (zch : zcb zap) (zcN : zb9 zaA) (zda : zcw zay) (zbC : zb5 zal) : ∀ {a_x : GPar} {a_n_ : GNode} {zX : Int} {zH : Nat} {t_a_x1 : Tok} {t_a_x2 : Tok} {zJ : Vt} {zaZ : Nat} {t_a_n_4 : Tok} {t_a_n_5 : Tok} {r : GPar × GNode}, zb7 zap zaA zay zal a_x a_n_ zX = some r → Ctr Tryd.prog 80 [ptrv zH (Fld.id ((List GTok) × Int × (Str × Int × (TList Str) × (TList Int) × Vh) × Int × Int)), ptrv zaZ (Fld.id (Int × Str × GMark × GCon × (TList GItem) × (TList GFld) × Int × Bool × Int)), isv (zX)] [boxE zH ((a_x.l, a_x.at_, (a_x.m.name, a_x.m.tagging, (TList.mk t_a_x1 a_x.m.names), (TList.mk t_a_x2 a_x.m.types), (Vh.mk zJ a_x.m.nodes.length)), a_x.e, a_x.p) : ((List GTok) × Int × (Str × Int × (TList Str) × (TList Int) × Vh) × Int × Int)), tokE t_a_x1, tokE t_a_x2, vecE zJ (a_x.m.nodes : List GNode), boxE zaZ ((a_n_.kind, a_n_.name, a_n_.mark, a_n_.con, (TList.mk t_a_n_4 a_n_.items), (TList.mk t_a_n_5 a_n_.fields), a_n_.root, a_n_.more, a_n_.of) : (Int × Str × GMark × GCon × (TList GItem) × (TList GFld) × Int × Bool × Int)), tokE t_a_n_4, tokE t_a_n_5] (fun R H => ∃ u1 : Tok, ∃ u2 : Tok, ∃ u3 : Vt, ∃ u4 : Tok, ∃ u5 : Tok, R = oneOf [] ∧ H = [boxE zH ((r.1.l, r.1.at_, (r.1.m.name, r.1.m.tagging, (TList.mk u1 r.1.m.names), (TList.mk u2 r.1.m.types), (Vh.mk u3 r.1.m.nodes.length)), r.1.e, r.1.p)), tokE u1, tokE u2, vecE u3 (r.1.m.nodes), boxE zaZ ((r.2.kind, r.2.name, r.2.mark, r.2.con, (TList.mk u4 r.2.items), (TList.mk u5 r.2.fields), r.2.root, r.2.more, r.2.of)), tokE u4, tokE u5]) := by
 intro a_x a_n_ zX zH t_a_x1 t_a_x2 zJ zaZ t_a_n_4 t_a_n_5 r h
 unfold zb7 at h
 refine zu Tryd.func80 rfl fun w0 S0 hT => zj (wsr (oM rfl (zb h fun y6 hy6 h => oT (zM (zP hy6) hT (s2 rfl rfl) k4 (fun R H' hR => ?_)))))
 obtain ⟨t7, t8, rfl, rfl⟩ := hR
 refine rnf (zg h rfl (fun _ h => ?_) (fun _ h => ?_))
 ·refine zK (zB (zo .nil (.cons .here (.cons .here (.cons .here k4))) ?_))
  cases h
  exact ⟨t7, t8, zJ, t_a_n_4, t_a_n_5, rfl, rfl⟩
 refine wkf (wsr (oA rfl (rnf (zj (zdx (ι := GPar × GNode) (γ := Tok × Tok × Vt × Tok × Tok) (fun q9 g9 => [(6, anyv)]) (fun q9 g9 => [boxE zH ((q9.1.l, q9.1.at_, (q9.1.m.name, q9.1.m.tagging, (TList.mk g9.1 q9.1.m.names), (TList.mk g9.2.1 q9.1.m.types), (Vh.mk g9.2.2.1 q9.1.m.nodes.length)), q9.1.e, q9.1.p) : ((List GTok) × Int × (Str × Int × (TList Str) × (TList Int) × Vh) × Int × Int)), tokE g9.1, tokE g9.2.1, vecE g9.2.2.1 (q9.1.m.nodes : List GNode), boxE zaZ ((q9.2.kind, q9.2.name, q9.2.mark, q9.2.con, (TList.mk g9.2.2.2.1 q9.2.items), (TList.mk g9.2.2.2.2 q9.2.fields), q9.2.root, q9.2.more, q9.2.of) : (Int × Str × GMark × GCon × (TList GItem) × (TList GFld) × Int × Bool × Int)), tokE g9.2.2.2.1, tokE g9.2.2.2.2]) (.cons .here (.cons (.there tI) (.cons .here k4))) h (fun q9 g9 h => ?_) (fun J10 h hJ10 => ?_))))))
 ·refine wsr (oM rfl (zb h fun y114 hy114 h => oT (zM (zak hy114) hT (s2 rfl rfl) k4 (fun R H' hR => ?_))))
  obtain ⟨t115, t116, rfl, rfl⟩ := hR
  refine rnf (wsr (oM rfl (oV (zw rfl) (oV (zaj rfl zef zeT) (oT (zL (R := isv (q9.2.more)) ty4 rfl (.there (.there tI)) hI (oV (zbt rfl) (rnf (zg h rfl (fun _ h => ?_) (fun _ h => ?_))))))))))
  ·refine zh (oM rfl (oM rfl (oV (zw rfl) (oV (zaj rfl zfR zdq) (oT (zL (R := appv g9.2.2.2.2 (q9.2.fields)) ty52 rfl (.there (.there tI)) isvT1 (oV (zaR (l := q9.2.fields) rfl zO sl52) (oV (zw rfl) (oV (zaj rfl zg1 zfp) ?_)))))))))
   refine oT (zk (y' := ((q9.2.kind, q9.2.name, q9.2.mark, q9.2.con, (TList.mk g9.2.2.2.1 q9.2.items), (TList.mk g9.2.2.2.2 q9.2.fields), (q9.2.fields.length : Int), q9.2.more, q9.2.of) : (Int × Str × GMark × GCon × (TList GItem) × (TList GFld) × Int × Bool × Int))) ty3 rfl rfl hI (.there (.there tI)) rfl (zx (zam .nil (.cons tH (.cons tH (.cons tH (.cons tH k3)))) ?_)))
   cases h
   exact ⟨t115, t116, g9.2.2.1, g9.2.2.2.1, g9.2.2.2.2, rfl, rfl⟩
  refine zab (zam .nil (.cons .here (.cons .here (.cons .here k4))) ?_)
  cases h
  exact ⟨t115, t116, g9.2.2.1, g9.2.2.2.1, g9.2.2.2.2, rfl, rfl⟩
 refine zt (zaQ (ι := Int × GPar × GNode) (γ := Tok × Tok × Vt × Tok × Tok) (fun q11 g11 => [(6, isv (q11.1))]) (fun q11 g11 => [boxE zH ((q11.2.1.l, q11.2.1.at_, (q11.2.1.m.name, q11.2.1.m.tagging, (TList.mk g11.1 q11.2.1.m.names), (TList.mk g11.2.1 q11.2.1.m.types), (Vh.mk g11.2.2.1 q11.2.1.m.nodes.length)), q11.2.1.e, q11.2.1.p) : ((List GTok) × Int × (Str × Int × (TList Str) × (TList Int) × Vh) × Int × Int)), tokE g11.1, tokE g11.2.1, vecE g11.2.2.1 (q11.2.1.m.nodes : List GNode), boxE zaZ ((q11.2.2.kind, q11.2.2.name, q11.2.2.mark, q11.2.2.con, (TList.mk g11.2.2.2.1 q11.2.2.items), (TList.mk g11.2.2.2.2 q11.2.2.fields), q11.2.2.root, q11.2.2.more, q11.2.2.of) : (Int × Str × GMark × GCon × (TList GItem) × (TList GFld) × Int × Bool × Int)), tokE g11.2.2.2.1, tokE g11.2.2.2.2]) h (t7, t8, zJ, t_a_n_4, t_a_n_5) (za (j := 6) rfl hI zd) (.cons .here (.cons .here (.cons .here k4))) (fun L12 q11 g11 Q113 h hL12 eL12 rL12 => zj (wsr (oM rfl (oV (zw rfl) (oV (zaj rfl zbH zc8) (oT (zL (R := isv (q11.2.1.e)) ty31 rfl .here hI (oV (zao rfl rfl) ?_)))))))))
 refine rnf (zg h rfl (fun _ h => ?_) (fun _ h => ?_))
 ·refine wkf (zt (zj (zdx (ι := Int × GPar × GNode) (γ := Tok × Tok × Vt × Tok × Tok) (fun q63 g63 => [(6, isv (q63.1))]) (fun q63 g63 => [boxE zH ((q63.2.1.l, q63.2.1.at_, (q63.2.1.m.name, q63.2.1.m.tagging, (TList.mk g63.1 q63.2.1.m.names), (TList.mk g63.2.1 q63.2.1.m.types), (Vh.mk g63.2.2.1 q63.2.1.m.nodes.length)), q63.2.1.e, q63.2.1.p) : ((List GTok) × Int × (Str × Int × (TList Str) × (TList Int) × Vh) × Int × Int)), tokE g63.1, tokE g63.2.1, vecE g63.2.2.1 (q63.2.1.m.nodes : List GNode), boxE zaZ ((q63.2.2.kind, q63.2.2.name, q63.2.2.mark, q63.2.2.con, (TList.mk g63.2.2.2.1 q63.2.2.items), (TList.mk g63.2.2.2.2 q63.2.2.fields), q63.2.2.root, q63.2.2.more, q63.2.2.of) : (Int × Str × GMark × GCon × (TList GItem) × (TList GFld) × Int × Bool × Int)), tokE g63.2.2.2.1, tokE g63.2.2.2.2]) (.cons .here (.cons (.there tI) (.cons .here k4))) h (fun q63 g63 h => ?_) (fun J64 h hJ64 => ?_))))
  ·refine wsr (oM rfl (zb h fun y110 hy110 h => oT (zM (zP hy110) hT (s2 rfl rfl) k4 (fun R H' hR => ?_))))
   obtain ⟨t111, t112, rfl, rfl⟩ := hR
   refine oV (zbt rfl) (rnf (zg h rfl (fun _ h => ?_) (fun _ h => ?_)))
   ·exact zae (zgG rfl (eL12 _ _ (zF (hJ10 _ (t111, t112, g63.2.2.1, g63.2.2.2.1, g63.2.2.2.2) h _ (ze 10 rfl rfl (za (j := 6) rfl (fun _ _ _ => trivial) zd) (.cons .here (.cons .here (.cons .here k4))))))))
   exact zab (zi (hL12 _ (t111, t112, g63.2.2.1, g63.2.2.2.1, g63.2.2.2.2) h _ (ze 10 rfl rfl (za (j := 6) rfl hI zd) (.cons .here (.cons .here (.cons .here k4))))))
  refine zt (wsr (oM rfl (oV (zw rfl) (oV (zaj rfl zef zeT) (oT (zL (R := isv (q11.2.2.more)) ty4 rfl (.there (.there tI)) hI (oV (zbt rfl) (oM rfl (zaz (ι := Bool × GPar) (γ := Tok × Tok) (fun q65 g65 => [(27, isv (q65.1))]) (fun q65 g65 => [boxE zH ((q65.2.l, q65.2.at_, (q65.2.m.name, q65.2.m.tagging, (TList.mk g65.1 q65.2.m.names), (TList.mk g65.2 q65.2.m.types), (Vh.mk g11.2.2.1 q65.2.m.nodes.length)), q65.2.e, q65.2.p) : ((List GTok) × Int × (Str × Int × (TList Str) × (TList Int) × Vh) × Int × Int)), tokE g65.1, tokE g65.2, vecE g11.2.2.1 (q65.2.m.nodes : List GNode)]) k4 h 3 rfl (fun q65 g65 h => ?_) (fun J66 h hJ66 => ?_))))))))))
  ·refine oA rfl (rnf (zg h rfl (fun _ h => ?_) (fun _ h => ?_)))
   ·refine zh (oM rfl (oM rfl (oM rfl (oV (zw rfl) (oV (zaj rfl zfR zdq) (oT (zL (R := appv g11.2.2.2.2 (q11.2.2.fields)) ty52 rfl (.there (.there tI)) isvT1 (oV (zaR (l := q11.2.2.fields) rfl zO sl52) (oV (zw rfl) ?_)))))))))
    exact oV (zaj rfl zef zeT) (oT (zk (y' := ((q11.2.2.kind, q11.2.2.name, q11.2.2.mark, q11.2.2.con, (TList.mk g11.2.2.2.1 q11.2.2.items), (TList.mk g11.2.2.2.2 q11.2.2.fields), q11.2.2.root, true, q11.2.2.of) : (Int × Str × GMark × GCon × (TList GItem) × (TList GFld) × Int × Bool × Int))) ty4 rfl rfl hI (.there (.there tI)) rfl (oV (zw rfl) (oV (zaj rfl zg1 zfp) (oT (zk (y' := ((q11.2.2.kind, q11.2.2.name, q11.2.2.mark, q11.2.2.con, (TList.mk g11.2.2.2.1 q11.2.2.items), (TList.mk g11.2.2.2.2 q11.2.2.fields), (q11.2.2.fields.length : Int), true, q11.2.2.of) : (Int × Str × GMark × GCon × (TList GItem) × (TList GFld) × Int × Bool × Int))) ty3 rfl rfl hI .here rfl (zx (zi (hJ64 _ (g65.1, g65.2, g11.2.2.1, g11.2.2.2.1, g11.2.2.2.2) h _ (ze 19 rfl rfl (za (j := 6) rfl hI zd) (.cons tH (.cons tH (.cons tH (.cons tH k3))))))))))))))
   refine wsr (oM rfl (oV (zw rfl) (oV (zaj rfl zef zeT) (oT (zL (R := isv (q11.2.2.more)) ty4 rfl (.there (.there tI)) hI (oM rfl (zaz (ι := Bool × GPar) (γ := Tok × Tok) (fun q71 g71 => [(47, isv (q71.1))]) (fun q71 g71 => [boxE zH ((q71.2.l, q71.2.at_, (q71.2.m.name, q71.2.m.tagging, (TList.mk g71.1 q71.2.m.names), (TList.mk g71.2 q71.2.m.types), (Vh.mk g11.2.2.1 q71.2.m.nodes.length)), q71.2.e, q71.2.p) : ((List GTok) × Int × (Str × Int × (TList Str) × (TList Int) × Vh) × Int × Int)), tokE g71.1, tokE g71.2, vecE g11.2.2.1 (q71.2.m.nodes : List GNode)]) k4 h 3 rfl (fun q71 g71 h => ?_) (fun J72 h hJ72 => ?_))))))))
   ·refine oA rfl (rnf (zg h rfl (fun _ h => ?_) (fun _ h => ?_)))
    ·refine wsr (oM rfl (zz h fun q77 h => oV (zaa rfl rfl q77) (oA rfl (rnf (zj (zdx (ι := GPar × GNode) (γ := Tok × Tok × Vt × Tok × Tok) (fun q78 g78 => []) (fun q78 g78 => [boxE zH ((q78.1.l, q78.1.at_, (q78.1.m.name, q78.1.m.tagging, (TList.mk g78.1 q78.1.m.names), (TList.mk g78.2.1 q78.1.m.types), (Vh.mk g78.2.2.1 q78.1.m.nodes.length)), q78.1.e, q78.1.p) : ((List GTok) × Int × (Str × Int × (TList Str) × (TList Int) × Vh) × Int × Int)), tokE g78.1, tokE g78.2.1, vecE g78.2.2.1 (q78.1.m.nodes : List GNode), boxE zaZ ((q78.2.kind, q78.2.name, q78.2.mark, q78.2.con, (TList.mk g78.2.2.2.1 q78.2.items), (TList.mk g78.2.2.2.2 q78.2.fields), q78.2.root, q78.2.more, q78.2.of) : (Int × Str × GMark × GCon × (TList GItem) × (TList GFld) × Int × Bool × Int)), tokE g78.2.2.2.1, tokE g78.2.2.2.2]) (.cons .here (.cons (.there tI) (.cons .here k4))) h (fun q78 g78 h => ?_) (fun J79 h hJ79 => ?_)))))))
     ·refine zh (oM rfl (zb h fun y101 hy101 h => oT (zM (zak hy101) hT (s2 rfl rfl) k4 (fun R H' hR => ?_))))
      obtain ⟨t102, t103, rfl, rfl⟩ := hR
      exact zx (zi (hJ64 _ (t102, t103, g78.2.2.1, g78.2.2.2.1, g78.2.2.2.2) h _ (ze 20 rfl rfl (za (j := 6) rfl hI zd) (.cons .here (.cons .here (.cons .here k4))))))
     refine zt (zaQ (ι := GPar × GNode) (γ := Tok × Tok × Vt × Tok × Tok) (fun q80 g80 => []) (fun q80 g80 => [boxE zH ((q80.1.l, q80.1.at_, (q80.1.m.name, q80.1.m.tagging, (TList.mk g80.1 q80.1.m.names), (TList.mk g80.2.1 q80.1.m.types), (Vh.mk g80.2.2.1 q80.1.m.nodes.length)), q80.1.e, q80.1.p) : ((List GTok) × Int × (Str × Int × (TList Str) × (TList Int) × Vh) × Int × Int)), tokE g80.1, tokE g80.2.1, vecE g80.2.2.1 (q80.1.m.nodes : List GNode), boxE zaZ ((q80.2.kind, q80.2.name, q80.2.mark, q80.2.con, (TList.mk g80.2.2.2.1 q80.2.items), (TList.mk g80.2.2.2.2 q80.2.fields), q80.2.root, q80.2.more, q80.2.of) : (Int × Str × GMark × GCon × (TList GItem) × (TList GFld) × Int × Bool × Int)), tokE g80.2.2.2.1, tokE g80.2.2.2.2]) h (g71.1, g71.2, g11.2.2.1, g11.2.2.2.1, g11.2.2.2.2) zd (.cons .here (.cons .here (.cons .here k4))) (fun L81 q80 g80 Q100 h hL81 eL81 rL81 => zj (wsr (oM rfl (oV (zw rfl) (oV (zaj rfl zbH zc8) (oT (zL (R := isv (q80.1.e)) ty31 rfl .here hI (oV (zao rfl rfl) ?_)))))))))
     refine rnf (zg h rfl (fun _ h => ?_) (fun _ h => ?_))
     ·refine wkf (zt (wsr (oM rfl (oM rfl (oM rfl (oM rfl (zb h fun y91 hy91 h => oT (zM (zch hy91) hT (s4 rfl rfl rfl rfl) (.cons .here (.cons .here (.cons .here k4))) (fun R H' hR => ?_)))))))))
      obtain ⟨t92, t93, v94, t95, t96, rfl, rfl⟩ := hR
      refine rnf (wsr (oM rfl (zb h fun y97 hy97 h => oT (zM (zP hy97) hT (s2 rfl rfl) k4 (fun R H' hR => ?_)))))
      obtain ⟨t98, t99, rfl, rfl⟩ := hR
      refine oV (zbt rfl) (rnf (zg h rfl (fun _ h => ?_) (fun _ h => ?_)))
      ·exact zae (zgG rfl (eL81 _ _ (zF (hJ79 _ (t98, t99, v94, t95, t96) h _ (ze 13 rfl rfl zd (.cons .here (.cons .here (.cons .here k4))))))))
      exact zab (zi (hL81 _ (t98, t99, v94, t95, t96) h _ (ze 13 rfl rfl zd (.cons .here (.cons .here (.cons .here k4))))))
     exact zae (zU (eL81 _ _ (zF (hJ79 _ (g80.1, g80.2.1, g80.2.2.1, g80.2.2.2.1, g80.2.2.2.2) h _ (ze 5 rfl rfl zd (.cons .here (.cons .here (.cons .here k4))))))))
    refine zh (oM rfl (oM rfl (oM rfl (zb h fun y104 hy104 h => oT (zM (zch hy104) hT (s4 rfl rfl rfl rfl) (.cons .here (.cons .here (.cons .here k4))) (fun R H' hR => ?_))))))
    obtain ⟨t105, t106, v107, t108, t109, rfl, rfl⟩ := hR
    exact zx (zi (hJ64 _ (t105, t106, v107, t108, t109) h _ (ze 19 rfl rfl (za (j := 6) rfl hI zd) (.cons .here (.cons .here (.cons .here k4))))))
   refine zC (j := 44) h rfl (fun g73 h => ?_) (fun g73 h => ?_)
   ·refine oK 44 rfl rfl rfl g73 (zq rfl) (zb h fun y74 hy74 h => zaF rfl rfl (dj := 44) rfl g73 (zM (zP hy74) hT (s2 rfl rfl) k4 (fun R H' hR => ?_)))
    obtain ⟨t75, t76, rfl, rfl⟩ := hR
    exact oV (zs rfl g73 rfl) (hJ72 _ (t75, t76) h _ (ze 3 rfl rfl (za (j := 47) rfl hI zd) (.cons .here (.cons .here (.cons .here k4)))))
   exact oP 44 rfl rfl g73 (oP 44 rfl rfl g73 (oV (zr rfl g73 rfl) (hJ72 _ (g65.1, g65.2) h _ (ze 3 rfl rfl (za (j := 47) rfl hI zd) (.cons .here (.cons .here (.cons .here k4)))))))
  refine zC (j := 24) h rfl (fun g67 h => ?_) (fun g67 h => ?_)
  ·refine oK 24 rfl rfl rfl g67 (zq rfl) (zb h fun y68 hy68 h => zaF rfl rfl (dj := 24) rfl g67 (zM (zP hy68) hT (s2 rfl rfl) k4 (fun R H' hR => ?_)))
   obtain ⟨t69, t70, rfl, rfl⟩ := hR
   exact oV (zs rfl g67 rfl) (hJ66 _ (t69, t70) h _ (ze 3 rfl rfl (za (j := 27) rfl hI zd) (.cons .here (.cons .here (.cons .here k4)))))
  exact oP 24 rfl rfl g67 (oP 24 rfl rfl g67 (oV (zr rfl g67 rfl) (hJ66 _ (g11.1, g11.2.1) h _ (ze 3 rfl rfl (za (j := 27) rfl hI zd) (.cons .here (.cons .here (.cons .here k4)))))))
 exact zae (zU (eL12 _ _ (zF (hJ10 _ (g11.1, g11.2.1, g11.2.2.1, g11.2.2.2.1, g11.2.2.2.2) h _ (ze 6 rfl rfl (za (j := 6) rfl (fun _ _ _ => trivial) zd) (.cons .here (.cons .here (.cons .here k4))))))))

theorem zd5 : ∀ n, zcb (zbK n) ∧ zb9 (zbe n) ∧ zcw (zb3 n) ∧ zb5 (zbY n)
 | 0 => ⟨fun h => (by cases h), fun h => (by cases h), fun h => (by cases h), fun h => (by cases h)⟩
 | n + 1 => by
  obtain ⟨h0, h1, h2, h3⟩ := zd5 n
  exact ⟨zg4 h0 h1 h2 h3, zhE h0 h1 h2 h3, zhf h0 h1 h2 h3, zgx h0 h1 h2 h3⟩
theorem zhS (n : Nat) : zb9 (zbe n) := (zd5 n).2.1
theorem zk0 : ∀ {za0 : Str} {r : GMod × Int × Int}, zel za0 = some r → Ctr Tryd.prog 9 [isv (za0)] [] (fun R H => R = oneOf [isv (r.1), isv (r.2.1), isv (r.2.2)] ∧ H = []) := by
 intro za0 r h
 unfold zel at h
 refine zu Tryd.func9 rfl fun w0 S0 hT => wsr (oT (zag _ ze30 fun b1 => oA rfl (oA rfl (rnf (wsr (oM rfl (zb h fun y2 hy2 h => ?_)))))))
 refine oT (zA (zkc hy2) hT (s1 rfl) .nil (oM rfl (oV (zaD rfl rfl) (oV (zaD rfl rfl) (oV (zaD rfl rfl) (oA rfl (oA rfl (oA rfl (rnf ?_)))))))))
 refine zj (wsr (oM rfl (oV (zbP rfl rfl) (rnf (zg h rfl (fun _ h => ?_) (fun _ h => ?_))))))
 ·refine wsr (oV (zaE (z := (GMod.mk (Str.mk []) (0 : Int) ([] : (List Str)) ([] : (List Int)) ([] : (List GNode)))) rfl bu30 ze30 .nil) (oM rfl (oM rfl (oT (zk (y' := ((GMod.mk (Str.mk []) (0 : Int) ([] : (List Str)) ([] : (List Int)) ([] : (List GNode))) : GMod)) ty30 rfl rfl hI .here rfl (oA rfl (oA rfl (rnf (zK ?_)))))))))
  refine zB ?_
  cases h
  exact zo (.cell rfl .here ty30 (.tmp rfl (.tmp rfl .nil))) .nil ⟨rfl, rfl⟩
 refine wkf (wsr (oM rfl (oV (zaE (z := ((y2.1, (0 : Int), ((Str.mk []), (0 : Int), (TList.mk none ([] : (List Str))), (TList.mk none ([] : (List Int))), (Vh.mk none 0)), (0 : Int), (0 : Int)) : ((List GTok) × Int × (Str × Int × (TList Str) × (TList Int) × Vh) × Int × Int))) rfl bu75 zpp (.cons zhB zjG rfl hI .nil)) (oT (zka (y := ((y2.1, (0 : Int), ((Str.mk []), (0 : Int), (TList.mk none ([] : (List Str))), (TList.mk none ([] : (List Int))), (Vh.mk none 0)), (0 : Int), (0 : Int)) : ((List GTok) × Int × (Str × Int × (TList Str) × (TList Int) × Vh) × Int × Int))) rfl hI fun b3 => zQ (za1) (zQ (za1) (zQ (zeS (α := GNode)) (oA rfl ?_))))))))
 refine rnf (wsr (oM rfl (oM rfl (zb h fun y7 hy7 h => oT (zM (zcv hy7) hT (s2 rfl rfl) (.cons (.there tI) (.cons tI (.cons tH k1))) (fun R H' hR => ?_))))))
 obtain ⟨t8, t9, rfl, rfl⟩ := hR
 refine oV (zw rfl) (oV (zaj rfl zcr zdZ) (oV (zaj rfl znu zoj) (oT (zk (y' := ((y7.2.l, y7.2.at_, (y7.1, y7.2.m.tagging, (TList.mk t8 y7.2.m.names), (TList.mk t9 y7.2.m.types), (Vh.mk none y7.2.m.nodes.length)), y7.2.e, y7.2.p) : ((List GTok) × Int × (Str × Int × (TList Str) × (TList Int) × Vh) × Int × Int))) ty9 rfl rfl hI .here rfl (rnf (wsr (oM rfl (zb h fun y10 hy10 h => oT (zM (zak hy10) hT (s2 rfl rfl) k4 (fun R H' hR => ?_))))))))))
 obtain ⟨t11, t12, rfl, rfl⟩ := hR
 refine rnf (zj (zdx (ι := GPar) (γ := Tok × Tok) (fun q13 g13 => []) (fun q13 g13 => [boxE b3 ((q13.l, q13.at_, (q13.m.name, q13.m.tagging, (TList.mk g13.1 q13.m.names), (TList.mk g13.2 q13.m.types), (Vh.mk none q13.m.nodes.length)), q13.e, q13.p) : ((List GTok) × Int × (Str × Int × (TList Str) × (TList Int) × Vh) × Int × Int)), tokE g13.1, tokE g13.2, vecE none (q13.m.nodes : List GNode)]) k4 h (fun q13 g13 h => ?_) (fun J14 h hJ14 => ?_)))
 ·refine wsr (oM rfl (zb h fun y33 hy33 h => oT (zM (zak hy33) hT (s2 rfl rfl) k4 (fun R H' hR => ?_))))
  obtain ⟨t34, t35, rfl, rfl⟩ := hR
  refine rnf (wsr (oM rfl (zb h fun y36 hy36 h => oT (zM (zak hy36) hT (s2 rfl rfl) k4 (fun R H' hR => ?_)))))
  obtain ⟨t37, t38, rfl, rfl⟩ := hR
  refine rnf (zj (zt (zaQ (ι := GPar) (γ := Tok × Tok × Vt) (fun q39 g39 => []) (fun q39 g39 => [boxE b3 ((q39.l, q39.at_, (q39.m.name, q39.m.tagging, (TList.mk g39.1 q39.m.names), (TList.mk g39.2.1 q39.m.types), (Vh.mk g39.2.2 q39.m.nodes.length)), q39.e, q39.p) : ((List GTok) × Int × (Str × Int × (TList Str) × (TList Int) × Vh) × Int × Int)), tokE g39.1, tokE g39.2.1, vecE g39.2.2 (q39.m.nodes : List GNode)]) h (t37, t38, none) zd k4 (fun L40 q39 g39 Q141 h hL40 eL40 rL40 => zj (wsr (oM rfl (oV (zw rfl) (oV (zaj rfl zbH zc8) ?_))))))))
  refine oT (zL (R := isv (q39.e)) ty31 rfl .here hI (oV (zao rfl rfl) (oM rfl (zaz (ι := Bool × GPar) (γ := Tok × Tok) (fun q91 g91 => [(70, isv (q91.1))]) (fun q91 g91 => [boxE b3 ((q91.2.l, q91.2.at_, (q91.2.m.name, q91.2.m.tagging, (TList.mk g91.1 q91.2.m.names), (TList.mk g91.2 q91.2.m.types), (Vh.mk g39.2.2 q91.2.m.nodes.length)), q91.2.e, q91.2.p) : ((List GTok) × Int × (Str × Int × (TList Str) × (TList Int) × Vh) × Int × Int)), tokE g91.1, tokE g91.2, vecE g39.2.2 (q91.2.m.nodes : List GNode)]) k4 h 4 rfl (fun q91 g91 h => ?_) (fun J92 h hJ92 => ?_)))))
  ·refine rnf (zg h rfl (fun _ h => ?_) (fun _ h => ?_))
   ·refine wkf (zt (wsr (oM rfl (zb h fun y97 hy97 h => oT (zM (zaM hy97) hT (s1 rfl) k4 (fun R H' hR => ?_))))))
    obtain ⟨t98, t99, rfl, rfl⟩ := hR
    refine oT (zag _ ze80 fun b100 => oT (zk (y' := (y97.1 : GTok)) ty80 rfl rfl hI .here rfl (zQ (zas 9 .here rfl) (rnf (wsr (oM rfl (zb h fun y101 hy101 h => oT (zM (zcv hy101) hT (s2 rfl rfl) k4 (fun R H' hR => ?_)))))))))
    obtain ⟨t102, t103, rfl, rfl⟩ := hR
    refine oA rfl (rnf (zj (wsr (oM rfl (oV (zw rfl) (oV (zaj rfl zbH zc8) (oT (zL (R := isv (y101.2.e)) ty31 rfl .here hI (oV (zao rfl rfl) ?_)))))))))
    refine oM rfl (zaz (jb 88) je .nil h 8 rfl (fun q104 g104 h => ?_) (fun J105 h hJ105 => ?_))
    ·refine rnf (zdx (ι := GPar) (γ := Tok × Tok) (fun q107 g107 => []) (fun q107 g107 => [boxE b3 ((q107.l, q107.at_, (q107.m.name, q107.m.tagging, (TList.mk g107.1 q107.m.names), (TList.mk g107.2 q107.m.types), (Vh.mk g39.2.2 q107.m.nodes.length)), q107.e, q107.p) : ((List GTok) × Int × (Str × Int × (TList Str) × (TList Int) × Vh) × Int × Int)), tokE g107.1, tokE g107.2, vecE g39.2.2 (q107.m.nodes : List GNode)]) k4 h (fun q107 g107 h => ?_) (fun J108 h hJ108 => ?_))
     ·refine wsr (oM rfl (zb h fun y112 hy112 h => oT (zM (zak hy112) hT (s2 rfl rfl) k4 (fun R H' hR => ?_))))
      obtain ⟨t113, t114, rfl, rfl⟩ := hR
      refine rnf (wsr (oM rfl (zb h fun y115 hy115 h => oT (zM (zhS fuel hy115) hT (s2 rfl rfl) k4 (fun R H' hR => ?_)))))
      obtain ⟨t116, t117, v118, rfl, rfl⟩ := hR
      refine oA rfl (rnf (wsr (oM rfl (oM rfl (oV (zw rfl) (oV (zaj rfl zcr zdZ) (oV (zaj rfl ziw zdU) (oT (zL (R := appv t116 (y115.2.m.names)) ty27 rfl .here isvT1 ?_)))))))))
      refine oM rfl (oT (zad (l := ([y101.1] : (List Str))) el27 (.cons rfl hI .nil) rfl rfl (zar h fun q121 h => oT (zbs (l := y115.2.m.names) (m := ([y101.1] : (List Str))) zjP rfl hI rfl zO tH q121 fun t120 => oV (zw rfl) (oV (zaj rfl zcr zdZ) (oV (zaj rfl ziw zdU) (oT (zk (y' := ((y115.2.l, y115.2.at_, (y115.2.m.name, y115.2.m.tagging, (TList.mk t120 (y115.2.m.names ++ ([y101.1] : (List Str)))), (TList.mk t117 y115.2.m.types), (Vh.mk v118 y115.2.m.nodes.length)), y115.2.e, y115.2.p) : ((List GTok) × Int × (Str × Int × (TList Str) × (TList Int) × Vh) × Int × Int))) ty27 rfl rfl isvT2 tH rfl (rnf ?_)))))))))
      refine zh (oM rfl (oM rfl (oV (zw rfl) (oV (zaj rfl zcr zdZ) (oV (zaj rfl zkM zi6) (oT (zL (R := appv t117 (y115.2.m.types)) ty22 rfl .here isvT1 (oM rfl (oT (zad (l := ([y115.1] : (List Int))) el22 (.cons rfl hI .nil) rfl rfl ?_))))))))))
      exact zar h fun q124 h => oT (zbs (l := y115.2.m.types) (m := ([y115.1] : (List Int))) zdo rfl hI rfl zO tI q124 fun t123 => oV (zw rfl) (oV (zaj rfl zcr zdZ) (oV (zaj rfl zkM zi6) (oT (zk (y' := ((y115.2.l, y115.2.at_, (y115.2.m.name, y115.2.m.tagging, (TList.mk t120 (y115.2.m.names ++ ([y101.1] : (List Str)))), (TList.mk t123 (y115.2.m.types ++ ([y115.1] : (List Int)))), (Vh.mk v118 y115.2.m.nodes.length)), y115.2.e, y115.2.p) : ((List GTok) × Int × (Str × Int × (TList Str) × (TList Int) × Vh) × Int × Int))) ty22 rfl rfl isvT2 tH rfl (zx (zi (hL40 _ (t120, t123, v118) h _ (ze 50 rfl rfl zd (.cons .here (.cons tH k3)))))))))))
     refine zg h rfl (fun _ h => ?_) (fun _ h => ?_)
     ·refine zh (oM rfl (oV (zf ty80 rfl) (zb h fun y109 hy109 h => oT (zM (za9 hy109) hT (s3 rfl rfl rfl) k4 (fun R H' hR => ?_)))))
      obtain ⟨t110, t111, rfl, rfl⟩ := hR
      exact zx (hJ108 _ (t110, t111) h _ (ze 3 rfl rfl zd (.cons .here k4)))
     exact zab (hJ108 _ (t102, t103) h _ (ze 0 rfl rfl zd (.cons .here k4)))
    refine zC (j := 80) h rfl (fun g106 h => ?_) (fun g106 h => ?_)
    ·exact oK 80 rfl rfl rfl g106 (zq rfl) (oK 80 rfl rfl rfl g106 (zw rfl) (oK 80 rfl rfl rfl g106 (zaj rfl zcr zdZ) (oK 80 rfl rfl rfl g106 (zaj rfl ziw zdU) (zaF rfl rfl (dj := 80) rfl g106 (zL (R := appv t102 (y101.2.m.names)) ty27 rfl .here isvT1 (oK 80 rfl rfl rfl g106 (zaR (l := y101.2.m.names) rfl zO sl27) (oK 80 rfl rfl rfl g106 (zed rfl rfl) (oV (zs rfl g106 rfl) (hJ105 _ () h _ (ze 8 rfl rfl (za (j := 88) rfl hI zd) (.cons .here k4)))))))))))
    exact oP 80 rfl rfl g106 (oP 80 rfl rfl g106 (oP 80 rfl rfl g106 (oP 80 rfl rfl g106 (oP 80 rfl rfl g106 (oP 80 rfl rfl g106 (oP 80 rfl rfl g106 (oV (zr rfl g106 rfl) (hJ105 _ () h _ (ze 8 rfl rfl (za (j := 88) rfl hI zd) (.cons .here k4))))))))))
   refine zae (zU (eL40 _ _ (zF (zy (zj (wsr (oM rfl (oV (zw rfl) ?_))))))))
   refine oV (zaj rfl zbH zc8) (oT (zL (R := isv (q91.2.e)) ty31 rfl .here hI (oV (zao rfl rfl) (oM rfl (zaz (ι := Bool × GPar) (γ := Tok × Tok) (fun q125 g125 => [(130, isv (q125.1))]) (fun q125 g125 => [boxE b3 ((q125.2.l, q125.2.at_, (q125.2.m.name, q125.2.m.tagging, (TList.mk g125.1 q125.2.m.names), (TList.mk g125.2 q125.2.m.types), (Vh.mk g39.2.2 q125.2.m.nodes.length)), q125.2.e, q125.2.p) : ((List GTok) × Int × (Str × Int × (TList Str) × (TList Int) × Vh) × Int × Int)), tokE g125.1, tokE g125.2, vecE g39.2.2 (q125.2.m.nodes : List GNode)]) k4 h 5 rfl (fun q125 g125 h => ?_) (fun J126 h hJ126 => ?_))))))
   ·refine rnf (zdx (ι := GPar) (γ := Tok × Tok) (fun q131 g131 => []) (fun q131 g131 => [boxE b3 ((q131.l, q131.at_, (q131.m.name, q131.m.tagging, (TList.mk g131.1 q131.m.names), (TList.mk g131.2 q131.m.types), (Vh.mk g39.2.2 q131.m.nodes.length)), q131.e, q131.p) : ((List GTok) × Int × (Str × Int × (TList Str) × (TList Int) × Vh) × Int × Int)), tokE g131.1, tokE g131.2, vecE g39.2.2 (q131.m.nodes : List GNode)]) k4 h (fun q131 g131 h => ?_) (fun J132 h hJ132 => ?_))
    ·refine zj (wsr (oM rfl (oV (zw rfl) (oV (zaj rfl zbH zc8) (oT (zL (R := isv (q131.e)) ty31 rfl .here hI (oV (zbP rfl rfl) (rnf (zg h rfl (fun _ h => ?_) (fun _ h => ?_))))))))))
     ·refine zj (zc7 8 .here rfl (fun o139 hn140 => zS (.v 0 (.v 1 (.v 2 (.v 3 (.v 4 (.v 5 (.v 6 (.v 7 (.v 8 (.t 9 (.v 10 (.v 11 .nil)))))))))))) moOrd (by kernel_rfl) ?_))
      refine zp rfl (zaE (z := (GMod.mk (Str.mk []) (0 : Int) ([] : (List Str)) ([] : (List Int)) ([] : (List GNode)))) rfl bu30 ze30 .nil) (rvm rfl rfl (zp rfl (zbr rfl) (zp rfl (zf2 rfl zk2 zny) (zp rfl (zdh (R := isv (q131.p)) ty3 rfl (List.Mem.head _) hI) (rvm rfl rfl (zp rfl (zbr rfl) (zp rfl (zf2 rfl zbH zc8) (zp rfl (zdh (R := isv (q131.e)) ty31 rfl (List.Mem.head _) hI) ?_))))))))
      refine zT rfl rfl (zk (y' := ((GMod.mk (Str.mk []) (0 : Int) ([] : (List Str)) ([] : (List Int)) ([] : (List GNode))) : GMod)) ty30 rfl rfl hI (.there tI) rfl (zp rfl (zaX rfl) (zp rfl (zaX rfl) (zac (zaP 8 hn140 rfl (zy (zK (zB ?_))))))))
      cases h
      exact zo (.cell rfl tH ty30 (.tmp rfl (.tmp rfl .nil))) .nil ⟨rfl, rfl⟩
     refine wkf (wsr (oM rfl (oV (zw rfl) (oV (zaj rfl zcr zdZ) (zQ (znX (y := ((q131.l, q131.at_, (q131.m.name, q131.m.tagging, (TList.mk g131.1 q131.m.names), (TList.mk g131.2 q131.m.types), q131.m.nodes), q131.e, q131.p) : ((List GTok) × Int × (Str × Int × (TList Str) × (TList Int) × (List GNode)) × Int × Int))) (.there tI) .here (fun S hv => (Cv.pair Cv.id (Cv.pair Cv.id (Cv.pair (Cv.pair Cv.id (Cv.pair Cv.id (Cv.pair Cv.id (Cv.pair Cv.id (Cv.vh hv (by first | rfl | simp)))))) (Cv.pair Cv.id Cv.id)))))) ?_)))))
     refine zQ (zY (R' := ptrv b3 ((Fld.id (((List GTok) × Int × (Str × Int × (TList Str) × (TList Int) × (List GNode)) × Int × Int))).comp zni)) 151 rfl hI) (oT (zL (y := ((q131.l, q131.at_, (q131.m.name, q131.m.tagging, (TList.mk g131.1 q131.m.names), (TList.mk g131.2 q131.m.types), q131.m.nodes), q131.e, q131.p) : ((List GTok) × Int × (Str × Int × (TList Str) × (TList Int) × (List GNode)) × Int × Int))) (R := isv (((q131.m.name, q131.m.tagging, (TList.mk g131.1 q131.m.names), (TList.mk g131.2 q131.m.types), q131.m.nodes)) : ((Str × Int × (TList Str) × (TList Int) × (List GNode))))) ty30 rfl .here (by exact hI) ?_))
     refine zQ (zY (R' := isv (q131.m)) 152 rfl (Cv.isv rfl fun S => (fun cs h => GMod.cv (x := q131.m) cs (((Cv.pair Cv.id (Cv.pair Cv.id (Cv.pair Cv.tl (Cv.pair Cv.tl Cv.id)))) : Cv S ((q131.m.name, q131.m.tagging, (TList.mk g131.1 q131.m.names), (TList.mk g131.2 q131.m.types), q131.m.nodes) : (Str × Int × (TList Str) × (TList Int) × (List GNode))) (GMod.to q131.m)) cs h)))) (oT (zk (y' := (q131.m : GMod)) ty30 rfl rfl hI (.there tI) rfl (oA rfl (oA rfl (rnf (zK ?_))))))
     cases h
     exact zo (.cell rfl .here ty30 (.tmp rfl (.tmp rfl .nil))) .nil ⟨rfl, rfl⟩
    refine zg h rfl (fun _ h => ?_) (fun _ h => ?_)
    ·refine zh (oM rfl (oM rfl (zb h fun y133 hy133 h => oT (zM (zaM hy133) hT (s1 rfl) k4 (fun R H' hR => ?_)))))
     obtain ⟨t134, t135, rfl, rfl⟩ := hR
     refine zb h fun y136 hy136 h => oT (zM (za9 hy136) hT (s3 rfl rfl rfl) k4 (fun R H' hR => ?_))
     obtain ⟨t137, t138, rfl, rfl⟩ := hR
     exact zx (hJ132 _ (t137, t138) h _ (ze 4 rfl rfl zd (.cons .here k4)))
    exact zab (hJ132 _ (g125.1, g125.2) h _ (ze 0 rfl rfl zd (.cons .here k4)))
   refine zC (j := 125) h rfl (fun g127 h => ?_) (fun g127 h => ?_)
   ·refine oK 125 rfl rfl rfl g127 (zq rfl) (zb h fun y128 hy128 h => zaF rfl rfl (dj := 125) rfl g127 (zM (zaM hy128) hT (s1 rfl) k4 (fun R H' hR => ?_)))
    obtain ⟨t129, t130, rfl, rfl⟩ := hR
    exact oK 125 rfl rfl rfl g127 (zgR GTok.f0 rfl zcY rfl) (oK 125 rfl rfl rfl g127 (zbP rfl rfl) (oV (zs rfl g127 rfl) (hJ126 _ (t129, t130) h _ (ze 5 rfl rfl (za (j := 130) rfl hI zd) (.cons .here k4)))))
   exact oP 125 rfl rfl g127 (oP 125 rfl rfl g127 (oP 125 rfl rfl g127 (oP 125 rfl rfl g127 (oV (zr rfl g127 rfl) (hJ126 _ (g91.1, g91.2) h _ (ze 5 rfl rfl (za (j := 130) rfl hI zd) (.cons .here k4)))))))
  refine zC (j := 66) h rfl (fun g93 h => ?_) (fun g93 h => ?_)
  ·refine oK 66 rfl rfl rfl g93 (zq rfl) (zb h fun y94 hy94 h => zaF rfl rfl (dj := 66) rfl g93 (zM (zP hy94) hT (s2 rfl rfl) k4 (fun R H' hR => ?_)))
   obtain ⟨t95, t96, rfl, rfl⟩ := hR
   exact oK 66 rfl rfl rfl g93 (zbt rfl) (oV (zs rfl g93 rfl) (hJ92 _ (t95, t96) h _ (ze 4 rfl rfl (za (j := 70) rfl hI zd) (.cons .here k4))))
  exact oP 66 rfl rfl g93 (oP 66 rfl rfl g93 (oP 66 rfl rfl g93 (oV (zr rfl g93 rfl) (hJ92 _ (g39.1, g39.2.1) h _ (ze 4 rfl rfl (za (j := 70) rfl hI zd) (.cons .here k4))))))
 refine zt (wsr (oM rfl (zb h fun y15 hy15 h => oT (zM (zP hy15) hT (s2 rfl rfl) k4 (fun R H' hR => ?_)))))
 obtain ⟨t16, t17, rfl, rfl⟩ := hR
 refine oA rfl (rnf (zg h rfl (fun _ h => ?_) (fun _ h => ?_)))
 ·refine zh (oM rfl (zb h fun y18 hy18 h => oT (zM (zak hy18) hT (s2 rfl rfl) k4 (fun R H' hR => ?_))))
  obtain ⟨t19, t20, rfl, rfl⟩ := hR
  exact zx (zi (hJ14 _ (t19, t20) h _ (ze 5 rfl rfl zd (.cons .here k4))))
 refine wsr (oM rfl (zb h fun y21 hy21 h => oT (zM (zP hy21) hT (s2 rfl rfl) k4 (fun R H' hR => ?_))))
 obtain ⟨t22, t23, rfl, rfl⟩ := hR
 refine oA rfl (rnf (zg h rfl (fun _ h => ?_) (fun _ h => ?_)))
 ·refine wsr (oM rfl (oV (zw rfl) (oV (zaj rfl zcr zdZ) (oV (zaj rfl zkP zkd) (oT (zk (y' := ((y21.2.l, y21.2.at_, (y21.2.m.name, (1 : Int), (TList.mk t22 y21.2.m.names), (TList.mk t23 y21.2.m.types), (Vh.mk none y21.2.m.nodes.length)), y21.2.e, y21.2.p) : ((List GTok) × Int × (Str × Int × (TList Str) × (TList Int) × Vh) × Int × Int))) ty3 rfl rfl hI .here rfl (rnf (zh (oM rfl ?_)))))))))
  refine zb h fun y24 hy24 h => oT (zM (zak hy24) hT (s2 rfl rfl) k4 (fun R H' hR => ?_))
  obtain ⟨t25, t26, rfl, rfl⟩ := hR
  exact zx (zi (hJ14 _ (t25, t26) h _ (ze 12 rfl rfl zd (.cons .here k4))))
 refine wsr (oM rfl (zb h fun y27 hy27 h => oT (zM (zP hy27) hT (s2 rfl rfl) k4 (fun R H' hR => ?_))))
 obtain ⟨t28, t29, rfl, rfl⟩ := hR
 refine oA rfl (rnf (zg h rfl (fun _ h => ?_) (fun _ h => ?_)))
 ·refine wsr (oM rfl (oV (zw rfl) (oV (zaj rfl zcr zdZ) (oV (zaj rfl zkP zkd) (oT (zk (y' := ((y27.2.l, y27.2.at_, (y27.2.m.name, (2 : Int), (TList.mk t28 y27.2.m.names), (TList.mk t29 y27.2.m.types), (Vh.mk none y27.2.m.nodes.length)), y27.2.e, y27.2.p) : ((List GTok) × Int × (Str × Int × (TList Str) × (TList Int) × Vh) × Int × Int))) ty3 rfl rfl hI .here rfl (rnf (zh (oM rfl ?_)))))))))
  refine zb h fun y30 hy30 h => oT (zM (zak hy30) hT (s2 rfl rfl) k4 (fun R H' hR => ?_))
  obtain ⟨t31, t32, rfl, rfl⟩ := hR
  exact zx (zi (hJ14 _ (t31, t32) h _ (ze 15 rfl rfl zd (.cons .here k4))))
 exact zab (zi (hJ14 _ (t28, t29) h _ (ze 9 rfl rfl zd (.cons .here k4))))

end Go.Proofs.Q


namespace Go.Proofs.Q
open Go.Sy
set_option maxRecDepth 4000
theorem zf4 : ∀ {a_m : GMod} {ziT : Str} {r : Int}, zfO a_m ziT = some r → Ctr Tryd.prog 89 [isv (a_m), isv (ziT)] [] (fun R H => R = oneOf [isv (r)] ∧ H = []) := by
 intro a_m ziT r h
 unfold zfO at h
 refine zu Tryd.func89 rfl fun w0 S0 hT => wsr (oT (zbd (y := a_m) rfl hI (oA rfl (rnf (zj (wsr (oA rfl (rnf ?_))))))))
 refine zt (zaQ (ι := Int) (γ := Unit) (fun q1 g1 => [(5, isv (q1))]) (fun q1 g1 => []) h () (za (j := 5) rfl hI zd) .nil (fun L2 q1 g1 Q7 h hL2 eL2 rL2 => zj (wsr (oM rfl (oV (zZ rfl GMod.f2 zdU rfl (z := a_m.names)) (oV (zf ty27 rfl) (oV (zaR (l := a_m.names) rfl hI sl27) (oV (zai rfl rfl) ?_))))))))
 refine rnf (zg h rfl (fun _ h => ?_) (fun _ h => ?_))
 ·refine wkf (zj (zt (wsr (oV (zZ rfl GMod.f2 zdU rfl (z := a_m.names)) (oV (zf ty27 rfl) (oM rfl (zb h fun y5 hy5 h => oV (zaB (l := a_m.names) rfl hI rfl sl27 hy5) ?_)))))))
  refine oV (zf ty9 rfl) (oM rfl (oV (zcE eq9 rfl rfl) (rnf (zg h rfl (fun _ h => ?_) (fun _ h => ?_)))))
  ·refine wsr (oM rfl (oA rfl (rnf (zK (zG (zB (rL2 _ (zG ?_))))))))
   refine zB ?_
   cases h
   exact zo (.tmp rfl .nil) .nil ⟨rfl, rfl⟩
  refine zab (zi (zy (zh (oM rfl (zz h fun q6 h => oV (zaa rfl rfl q6) (oA rfl (zx ?_)))))))
  exact hL2 _ () h _ (ji 16 5 rfl rfl rfl)
 refine zae (zU (eL2 _ _ (zF (zy (wsr (oA rfl (rnf (zK ?_))))))))
 cases h
 exact zo (.tmp rfl .nil) .nil ⟨rfl, rfl⟩


theorem zep : ∀ {a_l : (List Int)} {a_x : Int} {r : Bool}, zdg a_l a_x = some r → Ctr Tryd.prog 12 [isv (a_l), isv (a_x)] [] (fun R H => R = oneOf [isv (r)] ∧ H = []) := by
 intro a_l a_x r h
 unfold zdg at h
 refine zu Tryd.func12 rfl fun w0 S0 hT => wsr (oA rfl (rnf (zj (wsr (oA rfl (rnf (zt ?_)))))))
 refine zaQ (ι := Int) (γ := Unit) (fun q1 g1 => [(5, isv (q1))]) (fun q1 g1 => []) h () (za (j := 5) rfl hI zd) .nil (fun L2 q1 g1 Q7 h hL2 eL2 rL2 => zj (wsr (oM rfl (oM rfl (oV (zaR (l := a_l) rfl hI sl22) (oV (zai rfl rfl) (rnf (zg h rfl (fun _ h => ?_) (fun _ h => ?_)))))))))
 ·refine wkf (zj (zt (wsr (oM rfl (oM rfl (zb h fun y5 hy5 h => oV (zaB (l := a_l) rfl hI rfl sl22 hy5) (oV (zf ty3 rfl) ?_)))))))
  refine oM rfl (oV (zao rfl rfl) (rnf (zg h rfl (fun _ h => ?_) (fun _ h => ?_))))
  ·refine wsr (oA rfl (rnf (zK (zG (zB (rL2 _ (zG (zB ?_))))))))
   cases h
   exact zo (.tmp rfl .nil) .nil ⟨rfl, rfl⟩
  refine zab (zi (zy (zh (oM rfl (zz h fun q6 h => oV (zaa rfl rfl q6) (oA rfl (zx ?_)))))))
  exact hL2 _ () h _ (ji 14 5 rfl rfl rfl)
 refine zae (zU (eL2 _ _ (zF (zy (wsr (oA rfl (rnf (zK ?_))))))))
 cases h
 exact zo (.tmp rfl .nil) .nil ⟨rfl, rfl⟩


def zhj (f' : GMod → Int → Int → (List Int) → Option ((List Int) × Bool)) : Prop :=
 ∀ {a_m : GMod} {zfA : Int} {zX : Int} {a_l : (List Int)} {t_a_l : Tok} {r : (List Int) × Bool}, f' a_m zfA zX a_l = some r → Ctr Tryd.prog 87 [isv (a_m), isv (zfA), isv (zX), appv t_a_l (a_l)] [tokE t_a_l] (fun R H => ∃ u1 : Tok, R = oneOf [appv u1 (r.1), isv (r.2)] ∧ H = [tokE u1])
theorem zkZ {zfZ : GMod → Int → Int → (List Int) → Option ((List Int) × Bool)} (ziB : zhj zfZ) : ∀ {a_m : GMod} {zfA : Int} {zX : Int} {a_l : (List Int)} {t_a_l : Tok} {r : (List Int) × Bool}, zdK zfZ a_m zfA zX a_l = some r → Ctr Tryd.prog 87 [isv (a_m), isv (zfA), isv (zX), appv t_a_l (a_l)] [tokE t_a_l] (fun R H => ∃ u1 : Tok, R = oneOf [appv u1 (r.1), isv (r.2)] ∧ H = [tokE u1]) := by
 intro a_m zfA zX a_l t_a_l r h
 unfold zdK at h
 refine zu Tryd.func87 rfl fun w0 S0 hT => wsr (oT (zbd (y := a_m) rfl hI (oA rfl (oA rfl (rnf (zj (wsr (oM rfl ?_))))))))
 refine oV (zai rfl rfl) (oM rfl (zaz (jb 24) je .nil h 6 rfl (fun q1 g1 h => ?_) (fun J2 h hJ2 => ?_)))
 ·refine oM rfl (zaz (jb 28) je .nil h 3 rfl (fun q4 g4 h => ?_) (fun J5 h hJ5 => ?_))
  ·refine rnf (zg h rfl (fun _ h => ?_) (fun _ h => ?_))
   ·refine wsr (oM rfl (oA rfl (oA rfl (rnf (zK (zB (zo (.tmp rfl (.tmp rfl .nil)) k1 ?_)))))))
    cases h
    exact ⟨t_a_l, rfl, rfl⟩
   refine wkf (wsr (oV (zZ rfl GMod.f4 zf6 rfl (z := a_m.nodes)) (oV (zf ty28 rfl) (oM rfl (zb h fun y7 hy7 h => oV (zaB (l := a_m.nodes) rfl hI rfl sl28 hy7) (oV (zf ty108 rfl) (oT (zag _ ze108 fun b8 => ?_))))))))
   refine oT (zk (y' := (y7 : GNode)) ty108 rfl rfl hI .here rfl (zQ (zas 10 .here rfl) (rnf (zj (wsr (oV (zZ rfl GNode.f0 zbG rfl (z := y7.kind)) (oV (zf ty3 rfl) (oV (zao rfl rfl) (rnf ?_)))))))))
   refine zg h rfl (fun _ h => ?_) (fun _ h => ?_)
   ·refine wsr (oV (zf ty30 rfl) (oV (zZ rfl GNode.f1 zjT rfl (z := y7.name)) (oV (zf ty9 rfl) (zb h fun y9 hy9 h => oT (zA (zf4 hy9) hT (s2 rfl rfl) .nil (oA rfl (rnf (zj ?_))))))))
    refine wsr (oM rfl (oV (zai rfl rfl) (rnf (zg h rfl (fun _ h => ?_) (fun _ h => ?_)))))
    ·refine wsr (oM rfl (oA rfl (oA rfl (rnf (zK (zB (zB (zo (.tmp rfl (.tmp rfl .nil)) k1 ?_))))))))
     cases h
     exact ⟨t_a_l, rfl, rfl⟩
    refine wkf (zj (wsr (oM rfl (oM rfl (zb h fun y10 hy10 h => oT (zA (zep hy10) hT (.cons rfl zO (s1 rfl)) .nil (oV (zbt rfl) (rnf ?_))))))))
    refine zdx (ι := (List Int)) (γ := Tok) (fun q11 g11 => [(3, appv g11 (q11))]) (fun q11 g11 => [tokE g11]) k1 h (fun q11 g11 h => ?_) (fun J12 h hJ12 => ?_)
    ·refine wsr (oM rfl (oA rfl (oA rfl (rnf (zK (zB (zo (.tmp rfl (.tmp rfl .nil)) k1 ?_)))))))
     cases h
     exact ⟨g11, rfl, rfl⟩
    refine zg h rfl (fun _ h => ?_) (fun _ h => ?_)
    ·exact zh (oM rfl (oM rfl (oT (zad (l := ([y9] : (List Int))) el22 (.cons rfl hI .nil) rfl rfl (zar h fun q15 h => oT (zbs (l := a_l) (m := ([y9] : (List Int))) zdo rfl hI rfl zO .here q15 fun t14 => oA rfl (zx (hJ12 _ (t14) h _ (jk 5 3 rfl rfl rfl)))))))))
    exact zab (hJ12 _ (t_a_l) h _ (jk 0 3 rfl rfl rfl))
   refine wkf (wsr (oA rfl (rnf (zj (wsr (oA rfl (rnf (zt ?_))))))))
   refine zaQ (ι := (List Int) × Bool × Int) (γ := Tok) (fun q16 g16 => [(3, appv g16 (q16.1)), (12, isv (q16.2.1)), (13, isv (q16.2.2))]) (fun q16 g16 => [tokE g16]) h (t_a_l) (za (j := 3) rfl hI (za (j := 12) rfl hI (za (j := 13) rfl hI zd))) k1 (fun L17 q16 g16 Q44 h hL17 eL17 rL17 => zj (wsr (oM rfl (oV (zZ rfl GNode.f5 zdq rfl (z := y7.fields)) (oV (zf ty52 rfl) (oV (zaR (l := y7.fields) rfl hI sl52) (oV (zai rfl rfl) (rnf ?_))))))))
   refine zg h rfl (fun _ h => ?_) (fun _ h => ?_)
   ·refine wkf (zj (zt (wsr (oA rfl (rnf (zj (zS (.v 0 (.v 1 (.v 2 (.v 3 (.v 4 (.v 5 (.v 6 (.v 7 (.v 8 (.v 9 (.t 10 (.v 11 (.v 12 (.v 13 (.v 14 (.v 15 .nil)))))))))))))))) moOrd (by kernel_rfl) ?_)))))))
    refine zp rfl (zf ty30 rfl) (zp rfl (zZ rfl GNode.f5 zdq rfl (z := y7.fields)) (zp rfl (zf ty52 rfl) (rvm rfl rfl (zb h fun y28 hy28 h => zp rfl (zaB (l := y7.fields) rfl hI rfl sl52 hy28) (zp rfl (zZ rfl GFld.f1 zc6 rfl (z := y28.ty)) (zp rfl (zf ty3 rfl) (rvm rfl rfl ?_)))))))
    refine zz h fun q29 h => zp rfl (zaa rfl rfl q29) (rvm rfl rfl (zb h fun y30 hy30 h => zT rfl rfl (zM (ziB hy30) hT (s4 rfl rfl rfl rfl) k1 (fun R H' hR => ?_))))
    obtain ⟨t31, rfl, rfl⟩ := hR
    refine rvm rfl rfl (zp rfl (zaD rfl rfl) (zp rfl (zaD rfl rfl) (zp rfl (zaX rfl) (zp rfl (zaX rfl) (zac (zy (zh (oM rfl ?_))))))))
    refine oM rfl (zaz (jb 78) je .nil h 2 rfl (fun q32 g32 h => ?_) (fun J33 h hJ33 => ?_))
    ·refine oA rfl (zx (zi (zy (zh (oM rfl (zz h fun q35 h => oV (zaa rfl rfl q35) (oA rfl ?_)))))))
     exact zx (hL17 _ (t31) h _ (ze 32 rfl rfl (za (j := 3) rfl hI (za (j := 12) rfl hI (za (j := 13) rfl hI zd))) k1))
    refine zC (j := 76) h rfl (fun g34 h => ?_) (fun g34 h => ?_)
    ·exact oP 76 rfl rfl g34 (oV (zs rfl g34 rfl) (hJ33 _ () h _ (jk 2 78 rfl rfl rfl)))
    exact oK 76 rfl rfl rfl g34 (zq rfl) (oV (zr rfl g34 rfl) (hJ33 _ () h _ (jk 2 78 rfl rfl rfl)))
   refine zae (zU (eL17 _ _ (zF (zy (zj (wsr (oV (zZ rfl GNode.f0 zbG rfl (z := y7.kind)) (oV (zf ty3 rfl) ?_))))))))
   refine oV (zao rfl rfl) (rnf (zdx (ι := (List Int) × Bool) (γ := Tok) (fun q36 g36 => [(3, appv g36 (q36.1)), (12, isv (q36.2))]) (fun q36 g36 => [tokE g36]) k1 h (fun q36 g36 h => ?_) (fun J37 h hJ37 => ?_)))
   ·refine wsr (oM rfl (oM rfl (oA rfl (oA rfl (rnf (zK (zo (.tmp rfl (.tmp rfl .nil)) k1 ?_)))))))
    cases h
    exact ⟨g36, rfl, rfl⟩
   refine zg h rfl (fun _ h => ?_) (fun _ h => ?_)
   ·refine wsr (oA rfl (rnf (wsr (oV (zf ty30 rfl) (oV (zZ rfl GNode.f8 zjL rfl (z := y7.of)) (oV (zf ty3 rfl) (oM rfl (zz h fun q38 h => ?_))))))))
    refine oV (zaa rfl rfl q38) (oM rfl (zb h fun y39 hy39 h => oT (zM (ziB hy39) hT (s4 rfl rfl rfl rfl) k1 (fun R H' hR => ?_))))
    obtain ⟨t40, rfl, rfl⟩ := hR
    refine oM rfl (oV (zaD rfl rfl) (oV (zaD rfl rfl) (oA rfl (oA rfl (rnf (zh (oM rfl (oM rfl ?_))))))))
    refine zaz (jb 95) je .nil h 2 rfl (fun q41 g41 h => ?_) (fun J42 h hJ42 => ?_)
    ·exact oA rfl (zx (hJ37 _ (t40) h _ (ze 17 rfl rfl (za (j := 3) rfl hI (za (j := 12) rfl hI zd)) k1)))
    refine zC (j := 93) h rfl (fun g43 h => ?_) (fun g43 h => ?_)
    ·exact oP 93 rfl rfl g43 (oV (zs rfl g43 rfl) (hJ42 _ () h _ (jk 2 95 rfl rfl rfl)))
    exact oK 93 rfl rfl rfl g43 (zq rfl) (oV (zr rfl g43 rfl) (hJ42 _ () h _ (jk 2 95 rfl rfl rfl)))
   exact zab (hJ37 _ (g16) h _ (ze 0 rfl rfl (za (j := 3) rfl hI (za (j := 12) rfl hI zd)) k1))
  refine zC (j := 25) h rfl (fun g6 h => ?_) (fun g6 h => ?_)
  ·exact oP 25 rfl rfl g6 (oP 25 rfl rfl g6 (oV (zs rfl g6 rfl) (hJ5 _ () h _ (jk 3 28 rfl rfl rfl))))
  exact oK 25 rfl rfl rfl g6 (zq rfl) (oK 25 rfl rfl rfl g6 (zbu rfl rfl) (oV (zr rfl g6 rfl) (hJ5 _ () h _ (jk 3 28 rfl rfl rfl))))
 refine zC (j := 18) h rfl (fun g3 h => ?_) (fun g3 h => ?_)
 ·exact oP 18 rfl rfl g3 (oP 18 rfl rfl g3 (oP 18 rfl rfl g3 (oP 18 rfl rfl g3 (oP 18 rfl rfl g3 (oV (zs rfl g3 rfl) (hJ2 _ () h _ (jk 6 24 rfl rfl rfl)))))))
 exact oK 18 rfl rfl rfl g3 (zq rfl) (oK 18 rfl rfl rfl g3 (zZ rfl GMod.f4 zf6 rfl (z := a_m.nodes)) (oK 18 rfl rfl rfl g3 (zf ty28 rfl) (oK 18 rfl rfl rfl g3 (zaR (l := a_m.nodes) rfl hI sl28) (oK 18 rfl rfl rfl g3 (zed rfl rfl) (oV (zr rfl g3 rfl) (hJ2 _ () h _ (jk 6 24 rfl rfl rfl)))))))

theorem zgD : ∀ n, zhj (zfj n)
 | 0 => fun h => (by cases h)
 | n + 1 => zkZ (zgD n)
theorem zll (n : Nat) : zhj (zfj n) := (zgD n)

theorem zk5 : ∀ {zfs : (List (List Int))} {zd4 : Int} {a_to : Int} {r : Bool}, zfH zfs zd4 a_to = some r → Ctr Tryd.prog 88 [isv (zfs), isv (zd4), isv (a_to)] [] (fun R H => R = oneOf [isv (r)] ∧ H = []) := by
 intro zfs zd4 a_to r h
 unfold zfH at h
 refine zu Tryd.func88 rfl fun w0 S0 hT => wsr (oA rfl (rnf (wsr (oT (zad (l := ([] : (List Int))) el22 .nil rfl rfl (oA rfl (rnf (wsr ?_))))))))
 refine oM rfl (oM rfl (zb h fun y2 hy2 h => oV (zaB (l := zfs) rfl hI rfl sl45 hy2) (oV (zf ty22 rfl) (zar h fun q4 h => oT (zj5 (m := y2) zdo rfl rfl hI q4 fun t3 => oA rfl (rnf ?_))))))
 refine zj (zt (zgq (za1) (zaQ (ι := (List Int) × (List Int)) (γ := Tok × Tok) (fun q5 g5 => [(7, appv g5.1 (q5.1)), (8, appv g5.2 (q5.2))]) (fun q5 g5 => [tokE g5.1, tokE g5.2]) h (none, t3) (za (j := 7) rfl hI (za (j := 8) rfl hI zd)) k2 (fun L6 q5 g5 Q27 h hL6 eL6 rL6 => zj (wsr (oM rfl (oV (zaR (l := q5.2) rfl zO sl22) (oV (zbu rfl rfl) ?_))))))))
 refine rnf (zg h rfl (fun _ h => ?_) (fun _ h => ?_))
 ·refine wkf (zt (wsr (oM rfl (zb h fun y17 hy17 h => oV (zaB (l := q5.2) rfl zO rfl sl22 hy17) (oV (zf ty3 rfl) (oA rfl (rnf ?_)))))))
  refine wsr (oM rfl (zI h fun q18 h => oT (zpv rfl sl22 rfl q18.1 q18.2 tH fun t19 => oA rfl (rnf (zj (wsr (oM rfl ?_)))))))
  refine oM rfl (oV (zao rfl rfl) (rnf (zg h rfl (fun _ h => ?_) (fun _ h => ?_))))
  ·refine wsr (oA rfl (rnf (zK (zB (zG (rL6 _ (zG (zB ?_))))))))
   cases h
   exact zo (.tmp rfl .nil) .nil ⟨rfl, rfl⟩
  refine wkf (wsr (oM rfl (oM rfl (zb h fun y20 hy20 h => oT (zA (zep hy20) hT (.cons rfl zO (s1 rfl)) .nil (oV (zbt rfl) (rnf (zg h rfl (fun _ h => ?_) (fun _ h => ?_)))))))))
  ·refine wsr (oM rfl (oM rfl (oT (zad (l := ([y17] : (List Int))) el22 (.cons rfl hI .nil) rfl rfl (zar h fun q23 h => oT (zbs (l := q5.1) (m := ([y17] : (List Int))) zdo rfl hI rfl zO tH q23 fun t22 => oA rfl (rnf (zh ?_))))))))
   refine oM rfl (oM rfl (oM rfl (zb h fun y24 hy24 h => oV (zaB (l := zfs) rfl hI rfl sl45 hy24) (oV (zf ty22 rfl) (zar h fun q26 h => oT (zbs (l := (q5.2.drop ((1 : Int)).toNat)) (m := y24) zdo rfl hI rfl hI tH q26 fun t25 => oA rfl ?_))))))
   exact zx (zi (hL6 _ (t22, t25) h _ (ze 31 rfl rfl (za (j := 7) rfl hI (za (j := 8) rfl hI zd)) (.cons tH k1))))
  exact zab (zi (hL6 _ (g5.1, t19) h _ (ze 19 rfl rfl (za (j := 7) rfl hI (za (j := 8) rfl hI zd)) (.cons tH k1))))
 refine zae (zU (eL6 _ _ (zF (zy (wsr (oA rfl (rnf (zK ?_))))))))
 cases h
 exact zo (.tmp rfl .nil) .nil ⟨rfl, rfl⟩


theorem zkr : ∀ {a_m : GMod} {r : (List Int) × Int × Int}, zfG a_m = some r → Ctr Tryd.prog 59 [isv (a_m)] [] (fun R H => R = oneOf [isv (r.1), isv (r.2.1), isv (r.2.2)] ∧ H = []) := by
 intro a_m r h
 unfold zfG at h
 refine zu Tryd.func59 rfl fun w0 S0 hT => wsr (oT (zbd (y := a_m) rfl hI (oA rfl (oA rfl (oA rfl (rnf (wsr (oA rfl ?_))))))))
 refine rnf (wsr (oA rfl (rnf (zj (wsr (oA rfl (rnf (zt ?_))))))))
 refine zaQ (ι := Int) (γ := Unit) (fun q1 g1 => [(7, isv (q1))]) (fun q1 g1 => []) h () (za (j := 7) rfl hI zd) .nil (fun L2 q1 g1 Q1603 h hL2 eL2 rL2 => zj (wsr (oM rfl (oV (zZ rfl GMod.f2 zdU rfl (z := a_m.names)) (oV (zf ty27 rfl) (oV (zaR (l := a_m.names) rfl hI sl27) (oV (zai rfl rfl) (rnf ?_))))))))
 refine zg h rfl (fun _ h => ?_) (fun _ h => ?_)
 ·refine wkf (zj (zt (zj (zS (.v 0 (.v 1 (.v 2 (.v 3 (.v 4 (.v 5 (.v 6 (.v 7 (.v 8 (.t 9 .nil)))))))))) moOrd (by kernel_rfl) ?_))))
  refine zp rfl (zZ rfl GMod.f2 zdU rfl (z := a_m.names)) (zp rfl (zf ty27 rfl) (rvm rfl rfl (zI h fun q803 h => zp rfl (zfz (l := a_m.names) rfl hI sl27 (.inl ⟨rfl, rfl⟩) (.inr ⟨_, rfl, rfl⟩) q803.1 q803.2.1 q803.2.2) (zp rfl (zZ rfl GMod.f2 zdU rfl (z := a_m.names)) (zp rfl (zf ty27 rfl) (rvm rfl rfl (zb h fun y804 hy804 h => ?_)))))))
  refine zp rfl (zaB (l := a_m.names) rfl hI rfl sl27 hy804) (zp rfl (zf ty9 rfl) (zb h fun y805 hy805 h => zT rfl rfl (zA (zha hy805) hT (s2 rfl rfl) .nil (zac (zy (zg h rfl (fun _ h => ?_) (fun _ h => ?_)))))))
  ·refine wsr (oM rfl (oA rfl (oA rfl (oA rfl (rnf (zK (zG (zB ?_))))))))
   refine rL2 _ (zG (zB ?_))
   cases h
   exact zo (.as rfl (zdi (α := Int)) (.tmp rfl (.tmp rfl .nil))) .nil ⟨rfl, rfl⟩
  refine zab (zi (zy (zh (oM rfl (zz h fun q806 h => oV (zaa rfl rfl q806) (oA rfl (zx ?_)))))))
  exact hL2 _ () h _ (ji 19 7 rfl rfl rfl)
 refine zae (zU (eL2 _ _ (zF (zy (zj (wsr (oA rfl (rnf ?_))))))))
 refine zt (zgq (za1) (zaQ (ι := (List (List Int)) × Int × Int) (γ := Tok) (fun q807 g807 => [(5, appv g807 (q807.1)), (6, isv (q807.2.1)), (8, isv (q807.2.2))]) (fun q807 g807 => [tokE g807]) h (none) (za (j := 5) rfl zbA (za (j := 6) rfl hI (za (j := 8) rfl hI zd))) k1 (fun L808 q807 g807 Q1602 h hL808 eL808 rL808 => zj (wsr (oM rfl (oV (zZ rfl GMod.f2 zdU rfl (z := a_m.names)) (oV (zf ty27 rfl) (oV (zaR (l := a_m.names) rfl hI sl27) ?_))))))))
 refine oV (zai rfl rfl) (rnf (zg h rfl (fun _ h => ?_) (fun _ h => ?_)))
 ·refine wkf (zj (zdx (ι := (List (List Int)) × Int) (γ := Tok) (fun q1337 g1337 => [(5, appv g1337 (q1337.1)), (6, isv (q1337.2))]) (fun q1337 g1337 => [tokE g1337]) k1 h (fun q1337 g1337 h => ?_) (fun J1338 h hJ1338 => ?_)))
  ·exact zh (oM rfl (zz h fun q1349 h => oV (zaa rfl rfl q1349) (oA rfl (zx (hL808 _ (g1337) h _ (ze 13 rfl rfl (za (j := 5) rfl hI (za (j := 6) rfl hI (za (j := 8) rfl hI zd))) k1))))))
  refine zt (zj (zS (.v 0 (.v 1 (.v 2 (.v 3 (.v 4 (.v 5 (.t 6 (.v 7 (.v 8 (.v 9 (.v 10 (.v 11 .nil)))))))))))) moOrd (by kernel_rfl) ?_))
  refine zp rfl (zf ty30 rfl) (zp rfl (zZ rfl GMod.f3 zi6 rfl (z := a_m.types)) (zp rfl (zf ty22 rfl) (rvm rfl rfl (zb h fun y1339 hy1339 h => zp rfl (zaB (l := a_m.types) rfl hI rfl sl22 hy1339) (zp rfl (zf ty3 rfl) (zbj (za1) (zb h fun y1341 hy1341 h => ?_)))))))
  refine zT rfl rfl (zM (zll fuel hy1341) hT (.same rfl (.same rfl (.same rfl (.cons rfl zbA .nil)))) k1 (fun R H' hR => ?_))
  obtain ⟨t1342, rfl, rfl⟩ := hR
  refine rvm rfl rfl (zp rfl (zaD rfl rfl) (zp rfl (zaD rfl rfl) (zp rfl (zaX rfl) (zp rfl (zaX rfl) (zac (zy (wsr (oM rfl ?_))))))))
  refine oM rfl (oT (zad (l := ([y1341.1] : (List (List Int)))) el45 (.cons rfl zO .nil) rfl rfl (zar h fun q1345 h => oT (zbs (l := q807.1) (m := ([y1341.1] : (List (List Int)))) zl2 rfl hI rfl zO tH q1345 fun t1344 => oA rfl (rnf (wsr (oM rfl (oM rfl ?_))))))))
  refine zaz (jb 59) je .nil h 3 rfl (fun q1346 g1346 h => ?_) (fun J1347 h hJ1347 => ?_)
  ·refine rnf (zg h rfl (fun _ h => ?_) (fun _ h => ?_))
   ·exact zh (oM rfl (oA rfl (zx (zi (hJ1338 _ (t1344) h _ (ze 22 rfl rfl (za (j := 5) rfl hI (za (j := 6) rfl hI zd)) k1))))))
   exact zab (zi (hJ1338 _ (t1344) h _ (ze 20 rfl rfl (za (j := 5) rfl hI (za (j := 6) rfl hI zd)) k1)))
  refine zC (j := 56) h rfl (fun g1348 h => ?_) (fun g1348 h => ?_)
  ·exact oK 56 rfl rfl rfl g1348 (zq rfl) (oK 56 rfl rfl rfl g1348 (zai rfl rfl) (oV (zs rfl g1348 rfl) (hJ1347 _ () h _ (ze 3 rfl rfl (za (j := 59) rfl hI zd) k2))))
  exact oP 56 rfl rfl g1348 (oP 56 rfl rfl g1348 (oV (zr rfl g1348 rfl) (hJ1347 _ () h _ (ze 3 rfl rfl (za (j := 59) rfl hI zd) k2))))
 refine zae (zU (eL808 _ _ (zF (zy (zj (wsr (oM rfl (oV (zed rfl rfl) ?_))))))))
 refine rnf (zg h rfl (fun _ h => ?_) (fun _ h => ?_))
 ·refine wsr (oM rfl (oA rfl (oA rfl (oA rfl (rnf (zK (zB ?_)))))))
  cases h
  exact zo (.as rfl (zdi (α := Int)) (.tmp rfl (.tmp rfl .nil))) .nil ⟨rfl, rfl⟩
 refine wkf (zj (wsr (oA rfl (rnf (zt (zaQ (ι := Int) (γ := Unit) (fun q1350 g1350 => [(11, isv (q1350))]) (fun q1350 g1350 => []) h () (za (j := 11) rfl hI zd) .nil (fun L1351 q1350 g1350 Q1600 h hL1351 eL1351 rL1351 => zj (wsr ?_))))))))
 refine oM rfl (oV (zZ rfl GMod.f2 zdU rfl (z := a_m.names)) (oV (zf ty27 rfl) (oV (zaR (l := a_m.names) rfl hI sl27) (oV (zai rfl rfl) (rnf (zg h rfl (fun _ h => ?_) (fun _ h => ?_)))))))
 ·refine wkf (zj (zt (wsr (oM rfl (oM rfl (oM rfl (zb h fun y1476 hy1476 h => oT (zA (zk5 hy1476) hT (.cons rfl zO (s2 rfl rfl)) .nil ?_))))))))
  refine rnf (zg h rfl (fun _ h => ?_) (fun _ h => ?_))
  ·refine wsr (oM rfl (oA rfl (oA rfl (oA rfl (rnf (zK (zG (zB ?_))))))))
   refine rL1351 _ (zG (zB ?_))
   cases h
   exact zo (.as rfl (zdi (α := Int)) (.tmp rfl (.tmp rfl .nil))) .nil ⟨rfl, rfl⟩
  refine zab (zi (zy (zh (oM rfl (zz h fun q1477 h => oV (zaa rfl rfl q1477) (oA rfl (zx ?_)))))))
  exact hL1351 _ () h _ (jk 13 11 rfl rfl rfl)
 refine zae (zU (eL1351 _ _ (zF (zy (wsr (oA rfl (rnf (zj ?_))))))))
 refine zt (zgq (za1) (zaQ (ι := (List Int)) (γ := Tok) (fun q1478 g1478 => [(12, appv g1478 (q1478))]) (fun q1478 g1478 => [tokE g1478]) h (none) (za (j := 12) rfl zbA zd) k1 (fun L1479 q1478 g1478 Q1599 h hL1479 eL1479 rL1479 => zj (wsr (oM rfl (oV (zaR (l := q1478) rfl zO sl22) (oV (zZ rfl GMod.f2 zdU rfl (z := a_m.names)) (oV (zf ty27 rfl) ?_))))))))
 refine oV (zaR (l := a_m.names) rfl hI sl27) (oV (zai rfl rfl) (rnf (zg h rfl (fun _ h => ?_) (fun _ h => ?_))))
 ·refine wkf (zt (wsr (oA rfl (rnf (zt (zaQ (ι := Int) (γ := Unit) (fun q1539 g1539 => [(13, isv (q1539))]) (fun q1539 g1539 => []) h () (za (j := 13) rfl hI zd) .nil (fun L1540 q1539 g1539 Q1597 h hL1540 eL1540 rL1540 => zj (wsr ?_))))))))
  refine oM rfl (oV (zZ rfl GMod.f2 zdU rfl (z := a_m.names)) (oV (zf ty27 rfl) (oV (zaR (l := a_m.names) rfl hI sl27) (oV (zai rfl rfl) (rnf (zg h rfl (fun _ h => ?_) (fun _ h => ?_)))))))
  ·refine wkf (zj (zt (wsr (oM rfl (oM rfl (zb h fun y1569 hy1569 h => oT (zA (zep hy1569) hT (.cons rfl zO (s1 rfl)) .nil (oV (zbt rfl) ?_))))))))
   refine oA rfl (rnf (zj (wsr (oA rfl (rnf (zt (zaQ (ι := Bool × Int) (γ := Unit) (fun q1570 g1570 => [(14, isv (q1570.1)), (15, isv (q1570.2))]) (fun q1570 g1570 => []) h () (za (j := 14) rfl hI (za (j := 15) rfl hI zd)) .nil (fun L1571 q1570 g1570 Q1596 h hL1571 eL1571 rL1571 => zj ?_))))))))
   refine wsr (oM rfl (oM rfl (oM rfl (zb h fun y1584 hy1584 h => oV (zaB (l := q807.1) rfl zO rfl sl45 hy1584) (oV (zf ty22 rfl) (oV (zaR (l := y1584) rfl hI sl22) (oV (zai rfl rfl) ?_)))))))
   refine rnf (zg h rfl (fun _ h => ?_) (fun _ h => ?_))
   ·refine wkf (zj (zt (zh (oM rfl (oM rfl (zaz (jb 113) je .nil h 10 rfl (fun q1585 g1585 h => ?_) (fun J1586 h hJ1586 => ?_)))))))
    ·refine oA rfl (zx (zi (zy (zh (oM rfl (zz h fun q1591 h => oV (zaa rfl rfl q1591) (oA rfl ?_)))))))
     exact zx (hL1571 _ () h _ (ze 16 rfl rfl (za (j := 14) rfl hI (za (j := 15) rfl hI zd)) k2))
    refine zC (j := 103) h rfl (fun g1587 h => ?_) (fun g1587 h => ?_)
    ·refine oK 103 rfl rfl rfl g1587 (zq rfl) (oK 103 rfl rfl rfl g1587 (zq rfl) (oK 103 rfl rfl rfl g1587 (zq rfl) (zb h fun y1588 hy1588 h => oK 103 rfl rfl rfl g1587 (zaB (l := q807.1) rfl zO rfl sl45 hy1588) (oK 103 rfl rfl rfl g1587 (zf ty22 rfl) (oK 103 rfl rfl rfl g1587 (zq rfl) (zb h fun y1589 hy1589 h => oK 103 rfl rfl rfl g1587 (zaB (l := y1588) rfl hI rfl sl22 hy1589) ?_))))))
     exact oK 103 rfl rfl rfl g1587 (zf ty3 rfl) (zb h fun y1590 hy1590 h => zaF rfl rfl (dj := 103) rfl g1587 (zA (zep hy1590) hT (.cons rfl zO (s1 rfl)) .nil (oV (zs rfl g1587 rfl) (hJ1586 _ () h _ (ze 10 rfl rfl (za (j := 113) rfl hI zd) k2)))))
    refine oP 103 rfl rfl g1587 (oP 103 rfl rfl g1587 (oP 103 rfl rfl g1587 (oP 103 rfl rfl g1587 (oP 103 rfl rfl g1587 (oP 103 rfl rfl g1587 (oP 103 rfl rfl g1587 (oP 103 rfl rfl g1587 (oP 103 rfl rfl g1587 ?_))))))))
    exact oV (zr rfl g1587 rfl) (hJ1586 _ () h _ (ze 10 rfl rfl (za (j := 113) rfl hI zd) k2))
   refine zae (zU (eL1571 _ _ (zF (zy (wsr (oM rfl (rnf (zg h rfl (fun _ h => ?_) (fun _ h => ?_)))))))))
   ·refine wsr (oM rfl (oM rfl (oT (zad (l := ([q1539] : (List Int))) el22 (.cons rfl hI .nil) rfl rfl (zar h fun q1594 h => oT (zbs (l := q1478) (m := ([q1539] : (List Int))) zdo rfl hI rfl zO .here q1594 fun t1593 => oA rfl (rnf (zae ?_))))))))
    exact zgG rfl (zU (eL1540 _ _ (zF (zi (hL1479 _ (t1593) h _ (ze 35 rfl rfl (za (j := 12) rfl hI zd) k2))))))
   refine zab (zi (zy (zh (oM rfl (zz h fun q1595 h => oV (zaa rfl rfl q1595) (oA rfl (zx ?_)))))))
   exact hL1540 _ () h _ (ze 25 rfl rfl (za (j := 13) rfl hI zd) k2)
  exact zae (zU (eL1540 _ _ (zF (zi (hL1479 _ (g1478) h _ (ze 14 rfl rfl (za (j := 12) rfl hI zd) k2))))))
 refine zae (zU (eL1479 _ _ (zF (zy (wsr (oM rfl (oA rfl (oA rfl ?_))))))))
 refine oA rfl (rnf (zK ?_))
 cases h
 exact zo (.as rfl zO (.tmp rfl (.tmp rfl .nil))) .nil ⟨rfl, rfl⟩

end Go.Proofs.Q


namespace Go.Proofs.Q
open Go.Sy
set_option maxRecDepth 4000
end Go.Proofs.Q

