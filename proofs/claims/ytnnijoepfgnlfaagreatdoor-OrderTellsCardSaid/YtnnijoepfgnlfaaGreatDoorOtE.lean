/- Walks, printed by mill.py. -/
import Derived.Test.YtnnijoepfgnlfaaGreatDoorOtA
import Derived.Test.YtnnijoepfgnlfaaGreatDoorOtB
import Derived.Test.YtnnijoepfgnlfaaGreatDoorOtC
import Derived.Test.YtnnijoepfgnlfaaGreatDoorOtD
import Derived.Test.YtnnijoepfgnlfaaGreatDoorProg
import Derived.Shelf.Unicode.ValidAny
import Derived.KernelRfl
set_option linter.unusedVariables false
set_option linter.unusedSimpArgs false

namespace Go.Proofs.Q
open Go.Sy
def valRen : Shelf.Ren := ⟨fun x => bif Nat.beq x 196 then 172 else bif Nat.beq x 259 then 184 else x, fun x => bif Nat.beq x 0 then 0 else bif Nat.beq x 3 then 3 else bif Nat.beq x 4 then 4 else bif Nat.beq x 5 then 5 else bif Nat.beq x 9 then 9 else bif Nat.beq x 12 then 12 else bif Nat.beq x 46 then 39 else bif Nat.beq x 53 then 41 else bif Nat.beq x 119 then 190 else bif Nat.beq x 138 then 192 else bif Nat.beq x 139 then 193 else x, fun x => bif Nat.beq x 3 then 0 else bif Nat.beq x 4 then 1 else x⟩
set_option maxRecDepth 100000 in
theorem valLays : Lays.n196 Tryz.prog valRen := {
  mixed := by kernel_rfl
  f196 := Tryz.func172.trans (by kernel_rfl)
  f259 := Tryz.func184.trans (by kernel_rfl)
  t0 := Tryz.underlying0
  a0 := Tryz.isAgg0
  z0 := Tryz.sizeOf0
  v0 := Tryz.zeroValue0
  t3 := Tryz.underlying3
  a3 := Tryz.isAgg3
  z3 := Tryz.sizeOf3
  v3 := Tryz.zeroValue3
  t4 := Tryz.underlying4
  a4 := Tryz.isAgg4
  z4 := Tryz.sizeOf4
  v4 := Tryz.zeroValue4
  t5 := Tryz.underlying5
  a5 := Tryz.isAgg5
  z5 := Tryz.sizeOf5
  v5 := Tryz.zeroValue5
  t9 := Tryz.underlying9
  a9 := Tryz.isAgg9
  z9 := Tryz.sizeOf9
  v9 := Tryz.zeroValue9
  t12 := Tryz.underlying12
  a12 := Tryz.isAgg12
  z12 := Tryz.sizeOf12
  v12 := Tryz.zeroValue12
  t46 := Tryz.underlying39
  a46 := Tryz.isAgg39
  z46 := Tryz.sizeOf39
  v46 := Tryz.zeroValue39
  t53 := Tryz.underlying41
  a53 := Tryz.isAgg41
  z53 := Tryz.sizeOf41
  v53 := Tryz.zeroValue41
  t119 := Tryz.underlying190
  a119 := Tryz.isAgg190
  z119 := Tryz.sizeOf190
  t138 := Tryz.underlying192
  a138 := Tryz.isAgg192
  z138 := Tryz.sizeOf192
  v138 := Tryz.zeroValue192
  t139 := Tryz.underlying193
  a139 := Tryz.isAgg193
  z139 := Tryz.sizeOf193
  v139 := Tryz.zeroValue193
  g3 := by kernel_rfl
  g4 := by kernel_rfl }
theorem zhr : ∀ {a_s : Str} {r : Bool}, utf8_ValidString a_s = some r → Ctr Tryz.prog 172 [isv (a_s)] [] (fun R H => R = oneOf [isv (r)] ∧ H = []) := by
  intro s r h
  obtain rfl := Option.some.inj h
  refine ⟨⟨_, Tryz.func172, rfl, by decide +kernel⟩, fun S w vs hT hs hv ho => ?_⟩
  match vs, hv with
  | [v], ⟨hv, _⟩ =>
    obtain ⟨rfl, hl⟩ := zdt.1 hv
    have hb := Any.utf8_ValidString valLays s.ba w (by rw [Str.ba_size]; unfold maxText at hl; omega) (hT w hs _ _ valLays.g3 valLays.g4)
    refine hb.mono fun e w' ⟨he, hk⟩ => ⟨.bool (Lib.validD s.ba.data.toList), S, _, [], ⟨rfl, rfl⟩, he, ?_, ⟨⟨hk.os, hk.tape, hk.output, hk.size, fun k hk' _ => hk.block k hk'⟩, Go.Sy.Grow.refl _ _ _, fun b cs hb => ?_⟩, zeJ _ _ _ _⟩
    · refine zbb.2 ?_
      show Value.bool (Lib.validD s.b.toArray.toList) = _
      rfl
    · obtain ⟨c, T, fr, h1, h2⟩ := hs b cs hb
      exact ⟨c, T, fr, by rw [hk.block b (Array.getElem?_eq_some_iff.1 h1).1]; exact h1, h2⟩
end Go.Proofs.Q


namespace Go.Proofs.Q
open Go.Sy
set_option maxRecDepth 4000
@[reducible] def zg8 : Fld ((List GTok) × Int × (Str × Int × (TList Str) × (TList Int) × Vh) × Int × Int) (List GTok) := pf0
@[reducible] def zf0 : Fld ((List GTok) × Int × (Str × Int × (TList Str) × (TList Int) × Vh) × Int × Int) Int := pf1
@[reducible] def zbm : Fld ((List GTok) × Int × (Str × Int × (TList Str) × (TList Int) × Vh) × Int × Int) Int := pf3
@[reducible] def zjH : Fld ((List GTok) × Int × (Str × Int × (TList Str) × (TList Int) × Vh) × Int × Int) Int := pl4
@[reducible] def zbY : Fld ((List GTok) × Int × (Str × Int × (TList Str) × (TList Int) × Vh) × Int × Int) (Str × Int × (TList Str) × (TList Int) × Vh) := pf2
@[reducible] def znd : Fld (Str × Int × (TList Str) × (TList Int) × Vh) Str := pf0
@[reducible] def zkZ : Fld (Str × Int × (TList Str) × (TList Int) × Vh) Int := pf1
@[reducible] def zi0 : Fld (Str × Int × (TList Str) × (TList Int) × Vh) (TList Str) := pf2
@[reducible] def zgV : Fld (Str × Int × (TList Str) × (TList Int) × Vh) Vh := pl4
@[reducible] def zie : Fld (Int × Str × GMark × GCon × (TList GItem) × (TList GFld) × Int × Bool × Int) GMark := pf2
@[reducible] def zcl : Fld (Int × Str × GMark × GCon × (TList GItem) × (TList GFld) × Int × Bool × Int) Int := pf0
@[reducible] def zg5 : Fld (Int × Str × GMark × GCon × (TList GItem) × (TList GFld) × Int × Bool × Int) GCon := pf3
@[reducible] def ze4 : Fld (Int × Str × GMark × GCon × (TList GItem) × (TList GFld) × Int × Bool × Int) (TList GItem) := pf4
@[reducible] def zen : Fld (Int × Str × GMark × GCon × (TList GItem) × (TList GFld) × Int × Bool × Int) Bool := pf7
@[reducible] def zhd : Fld (Int × Str × GMark × GCon × (TList GItem) × (TList GFld) × Int × Bool × Int) Int := pf6
@[reducible] def zgb : Fld (Int × Str × GMark × GCon × (TList GItem) × (TList GFld) × Int × Bool × Int) (TList GFld) := pf5
@[reducible] def zmM : Fld (Int × Str × GMark × GCon × (TList GItem) × (TList GFld) × Int × Bool × Int) Int := pl8
@[reducible] def zmD : Fld (Int × Str × GMark × GCon × (TList GItem) × (TList GFld) × Int × Bool × Int) Str := pf1
@[reducible] def zkM : Fld (Str × Int × (TList Str) × (TList Int) × Vh) (TList Int) := pf3
@[reducible] def zmY : Fld ((List GTok) × Int × (Str × Int × (TList Str) × (TList Int) × (List GNode)) × Int × Int) (Str × Int × (TList Str) × (TList Int) × (List GNode)) := pf2
theorem ze73 : ZeroOk Tryz.prog 73 ((GMod.mk (Str.mk []) (0 : Int) ([] : (List Str)) ([] : (List Int)) ([] : (List GNode))) : GMod) := zbU (cs := [.string ⟨#[]⟩, .int .i64 0, .slice none 0 0, .slice none 0 0, .slice none 0 0]) rfl (by kernel_rfl) (zX zfN (zX zaU (zX zbQ (zX zbQ zbQ))))
theorem st9 : StrB Tryz.prog 9 = true := by kernel_rfl
theorem eq5 : EqOk Tryz.prog 5 UInt8 := EqOk.u8
theorem zjU : FldB Tryz.prog 133 2 2 1 false = true := by kernel_rfl
theorem bu133 : BuildB Tryz.prog 133 = true := by kernel_rfl
theorem ze133 : ZeroOk Tryz.prog 133 ((GTok.mk (0 : Int) (Str.mk []) (0 : Int)) : GTok) := zbU (cs := [.int .i64 0, .string ⟨#[]⟩, .int .i64 0]) rfl (by kernel_rfl) (zX zaU (zX zfN zaU))
theorem el124 : elB Tryz.prog 124 3 = true := by kernel_rfl
theorem zjy : appB Tryz.prog 124 124 3 = true := by kernel_rfl
theorem ty133 : TyB Tryz.prog 133 3 true = true := by kernel_rfl
theorem moOrd : Tryz.prog.follows .mixedOrders = true := by kernel_rfl
theorem zb5 : FldB Tryz.prog 133 0 0 1 false = true := by kernel_rfl
theorem ty3 : TyB Tryz.prog 3 1 false = true := by kernel_rfl
theorem zdd : FldB Tryz.prog 133 1 1 1 false = true := by kernel_rfl
theorem ty9 : TyB Tryz.prog 9 1 false = true := by kernel_rfl
theorem el22 : elB Tryz.prog 22 1 = true := by kernel_rfl
theorem sl22 : SlB Tryz.prog 22 1 false = true := by kernel_rfl
theorem eq9 : EqOk Tryz.prog 9 Str := EqOk.str
theorem bu73 : BuildB Tryz.prog 73 = true := by kernel_rfl
theorem ty73 : TyB Tryz.prog 73 5 true = true := by kernel_rfl
theorem ziJ : FldB Tryz.prog 129 0 0 1 false = true := by kernel_rfl
theorem bu129 : BuildB Tryz.prog 129 = true := by kernel_rfl
theorem zoo : ZeroOk Tryz.prog 129 ((([] : (List GTok)), (0 : Int), ((Str.mk []), (0 : Int), (TList.mk none ([] : (List Str))), (TList.mk none ([] : (List Int))), (Vh.mk none 0)), (0 : Int), (0 : Int)) : ((List GTok) × Int × (Str × Int × (TList Str) × (TList Int) × Vh) × Int × Int)) := zbU (cs := [.slice none 0 0, .int .i64 0, .string ⟨#[]⟩, .int .i64 0, .slice none 0 0, .slice none 0 0, .slice none 0 0, .int .i64 0, .int .i64 0]) rfl (by kernel_rfl) (zX zbQ (zX zaU (zX (zX zfN (zX zaU (zX zjF (zX zjF zoP)))) (zX zaU zaU))))
theorem ty124 : TyB Tryz.prog 124 1 false = true := by kernel_rfl
theorem zh4 : FldB Tryz.prog 129 1 1 1 false = true := by kernel_rfl
theorem sl124 : SlB Tryz.prog 124 3 true = true := by kernel_rfl
theorem zch : FldB Tryz.prog 129 3 7 1 false = true := by kernel_rfl
theorem ty65 : TyB Tryz.prog 65 1 false = true := by kernel_rfl
theorem zl5 : FldB Tryz.prog 129 4 8 1 false = true := by kernel_rfl
theorem zda : FldB Tryz.prog 129 2 2 5 true = true := by kernel_rfl
theorem zn4 : FldB Tryz.prog 73 0 0 1 false = true := by kernel_rfl
theorem zkh : FldB Tryz.prog 73 1 1 1 false = true := by kernel_rfl
theorem zd0 : FldB Tryz.prog 73 2 2 1 false = true := by kernel_rfl
theorem ty22 : TyB Tryz.prog 22 1 false = true := by kernel_rfl
theorem zgr : FldB Tryz.prog 73 4 4 1 false = true := by kernel_rfl
theorem ty71 : TyB Tryz.prog 71 1 false = true := by kernel_rfl
theorem sl71 : SlB Tryz.prog 71 16 true = true := by kernel_rfl
theorem bu167 : BuildB Tryz.prog 167 = true := by kernel_rfl
theorem ze167 : ZeroOk Tryz.prog 167 ((GNode.mk (0 : Int) (Str.mk []) (GMark.mk false (0 : Int) (0 : Int)) (GCon.mk false false false false (0 : Int) (0 : Int)) ([] : (List GItem)) ([] : (List GFld)) (0 : Int) false (0 : Int)) : GNode) := zbU (cs := [.int .i64 0, .string ⟨#[]⟩, .bool false, .int .i64 0, .int .i64 0, .bool false, .bool false, .bool false, .bool false, .int .i64 0, .int .i64 0, .slice none 0 0, .slice none 0 0, .int .i64 0, .bool false, .int .i64 0]) rfl (by kernel_rfl) (zX zaU (zX zfN (zX (zX zbt (zX zaU zaU)) (zX (zX zbt (zX zbt (zX zbt (zX zbt (zX zaU zaU))))) (zX zbQ (zX zbQ (zX zaU (zX zbt zaU))))))))
theorem el71 : elB Tryz.prog 71 16 = true := by kernel_rfl
theorem zoq : appB Tryz.prog 71 71 16 = true := by kernel_rfl
theorem zmc : ZeroOk Tryz.prog 167 (((0 : Int), (Str.mk []), (GMark.mk false (0 : Int) (0 : Int)), (GCon.mk false false false false (0 : Int) (0 : Int)), (TList.mk none ([] : (List GItem))), (TList.mk none ([] : (List GFld))), (0 : Int), false, (0 : Int)) : (Int × Str × GMark × GCon × (TList GItem) × (TList GFld) × Int × Bool × Int)) := zbU (cs := [.int .i64 0, .string ⟨#[]⟩, .bool false, .int .i64 0, .int .i64 0, .bool false, .bool false, .bool false, .bool false, .int .i64 0, .int .i64 0, .slice none 0 0, .slice none 0 0, .int .i64 0, .bool false, .int .i64 0]) rfl (by kernel_rfl) (zX zaU (zX zfN (zX (zX zbt (zX zaU zaU)) (zX (zX zbt (zX zbt (zX zbt (zX zbt (zX zaU zaU))))) (zX zjF (zX zjF (zX zaU (zX zbt zaU))))))))
theorem ty167 : TyB Tryz.prog 167 16 true = true := by kernel_rfl
theorem zmf : FldB Tryz.prog 165 1 1 1 false = true := by kernel_rfl
theorem zkq : FldB Tryz.prog 165 0 0 1 false = true := by kernel_rfl
theorem bu165 : BuildB Tryz.prog 165 = true := by kernel_rfl
theorem ze165 : ZeroOk Tryz.prog 165 ((GMark.mk false (0 : Int) (0 : Int)) : GMark) := zbU (cs := [.bool false, .int .i64 0, .int .i64 0]) rfl (by kernel_rfl) (zX zbt (zX zaU zaU))
theorem zfD : FldB Tryz.prog 167 2 2 3 true = true := by kernel_rfl
theorem ty165 : TyB Tryz.prog 165 3 true = true := by kernel_rfl
theorem ziK : FldB Tryz.prog 165 2 2 1 false = true := by kernel_rfl
theorem zbH : FldB Tryz.prog 167 0 0 1 false = true := by kernel_rfl
theorem ze83 : ZeroOk Tryz.prog 83 ((GCon.mk false false false false (0 : Int) (0 : Int)) : GCon) := zbU (cs := [.bool false, .bool false, .bool false, .bool false, .int .i64 0, .int .i64 0]) rfl (by kernel_rfl) (zX zbt (zX zbt (zX zbt (zX zbt (zX zaU zaU)))))
theorem bu83 : BuildB Tryz.prog 83 = true := by kernel_rfl
theorem ty83 : TyB Tryz.prog 83 6 true = true := by kernel_rfl
theorem zlH : FldB Tryz.prog 83 0 0 1 false = true := by kernel_rfl
theorem zi6 : FldB Tryz.prog 83 1 1 1 false = true := by kernel_rfl
theorem ty4 : TyB Tryz.prog 4 1 false = true := by kernel_rfl
theorem zig : FldB Tryz.prog 83 4 4 1 false = true := by kernel_rfl
theorem ty2 : TyB Tryz.prog 2 1 false = true := by kernel_rfl
theorem zjk : FldB Tryz.prog 83 2 2 1 false = true := by kernel_rfl
theorem zij : FldB Tryz.prog 83 5 5 1 false = true := by kernel_rfl
theorem zo0 : FldB Tryz.prog 83 3 3 1 false = true := by kernel_rfl
theorem zha : FldB Tryz.prog 167 3 5 6 true = true := by kernel_rfl
theorem zey : FldB Tryz.prog 167 4 11 1 false = true := by kernel_rfl
theorem ty84 : TyB Tryz.prog 84 1 false = true := by kernel_rfl
theorem sl84 : SlB Tryz.prog 84 3 true = true := by kernel_rfl
theorem zeX : FldB Tryz.prog 167 7 14 1 false = true := by kernel_rfl
theorem zfz : FldB Tryz.prog 167 6 13 1 false = true := by kernel_rfl
theorem zkm : FldB Tryz.prog 97 0 0 1 false = true := by kernel_rfl
theorem bu97 : BuildB Tryz.prog 97 = true := by kernel_rfl
theorem ze97 : ZeroOk Tryz.prog 97 ((GItem.mk (Str.mk []) (0 : Int) false) : GItem) := zbU (cs := [.string ⟨#[]⟩, .int .i64 0, .bool false]) rfl (by kernel_rfl) (zX zfN (zX zaU zbt))
theorem ty97 : TyB Tryz.prog 97 3 true = true := by kernel_rfl
theorem zh7 : FldB Tryz.prog 97 2 2 1 false = true := by kernel_rfl
theorem zc6 : FldB Tryz.prog 97 1 1 1 false = true := by kernel_rfl
theorem el84 : elB Tryz.prog 84 3 = true := by kernel_rfl
theorem ziH : appB Tryz.prog 84 84 3 = true := by kernel_rfl
theorem zdr : FldB Tryz.prog 167 5 12 1 false = true := by kernel_rfl
theorem ty85 : TyB Tryz.prog 85 1 false = true := by kernel_rfl
theorem sl85 : SlB Tryz.prog 85 11 true = true := by kernel_rfl
theorem ziO : FldB Tryz.prog 92 5 10 1 false = true := by kernel_rfl
theorem zlG : FldB Tryz.prog 92 0 0 1 false = true := by kernel_rfl
theorem bu92 : BuildB Tryz.prog 92 = true := by kernel_rfl
theorem ze92 : ZeroOk Tryz.prog 92 ((GFld.mk (Str.mk []) (0 : Int) false false (Val.mk (0 : Int) (0 : Int) ([] : (List UInt8)) ([] : (List Val)) (0 : Int) ([] : (List Raw))) (0 : Int)) : GFld) := zbU (cs := [.string ⟨#[]⟩, .int .i64 0, .bool false, .bool false, .int .i64 0, .int .i64 0, .slice none 0 0, .slice none 0 0, .int .i64 0, .slice none 0 0, .int .i64 0]) rfl (by kernel_rfl) (zX zfN (zX zaU (zX zbt (zX zbt (zX zng zaU)))))
theorem ty92 : TyB Tryz.prog 92 11 true = true := by kernel_rfl
theorem zc9 : FldB Tryz.prog 92 1 1 1 false = true := by kernel_rfl
theorem zni : FldB Tryz.prog 92 2 2 1 false = true := by kernel_rfl
theorem ze46 : ZeroOk Tryz.prog 46 ((Val.mk (0 : Int) (0 : Int) ([] : (List UInt8)) ([] : (List Val)) (0 : Int) ([] : (List Raw))) : Val) := zbU (cs := [.int .i64 0, .int .i64 0, .slice none 0 0, .slice none 0 0, .int .i64 0, .slice none 0 0]) rfl (by kernel_rfl) zng
theorem zjS : FldB Tryz.prog 46 1 1 1 false = true := by kernel_rfl
theorem zgl : FldB Tryz.prog 46 0 0 1 false = true := by kernel_rfl
theorem bu46 : BuildB Tryz.prog 46 = true := by kernel_rfl
theorem ty46 : TyB Tryz.prog 46 6 true = true := by kernel_rfl
theorem zia : FldB Tryz.prog 46 2 2 1 false = true := by kernel_rfl
theorem el42 : elB Tryz.prog 42 1 = true := by kernel_rfl
theorem zod : appB Tryz.prog 42 42 1 = true := by kernel_rfl
theorem zlu : FldB Tryz.prog 92 3 3 1 false = true := by kernel_rfl
theorem zlB : FldB Tryz.prog 92 4 4 6 true = true := by kernel_rfl
theorem el85 : elB Tryz.prog 85 11 = true := by kernel_rfl
theorem zj5 : appB Tryz.prog 85 85 11 = true := by kernel_rfl
theorem zj8 : FldB Tryz.prog 167 8 15 1 false = true := by kernel_rfl
theorem zkc : FldB Tryz.prog 167 1 1 1 false = true := by kernel_rfl
theorem zks : appB Tryz.prog 22 22 1 = true := by kernel_rfl
theorem ziR : FldB Tryz.prog 73 3 3 1 false = true := by kernel_rfl
theorem ty23 : TyB Tryz.prog 23 1 false = true := by kernel_rfl
theorem el23 : elB Tryz.prog 23 1 = true := by kernel_rfl
theorem zbk : appB Tryz.prog 23 23 1 = true := by kernel_rfl
end Go.Proofs.Q


namespace Go.Proofs.Q
open Go.Sy
set_option maxRecDepth 4000
theorem sl23 : SlB Tryz.prog 23 1 false = true := by kernel_rfl
theorem el36 : elB Tryz.prog 36 1 = true := by kernel_rfl
theorem zka : appB Tryz.prog 36 36 1 = true := by kernel_rfl
theorem sl36 : SlB Tryz.prog 36 1 false = true := by kernel_rfl
end Go.Proofs.Q


namespace Go.Proofs.Q
open Go.Sy
set_option maxRecDepth 4000
@[reducible] def zet : Fld (GMod × Vh × Int) GMod := pf0
@[reducible] def zlg : Fld (Str × (List Str) × (TList Int) × (List GTyp)) Str := pf0
@[reducible] def zll : Fld (Str × (List Str) × (TList Int) × (List GTyp)) (List Str) := pf1
@[reducible] def zhP : Fld (Str × (List Str) × (TList Int) × (List GTyp)) (TList Int) := pf2
@[reducible] def zcj : Fld (GMod × Vh × Int) Int := pl2
@[reducible] def zbE : Fld (GMod × Vh × Int) Vh := pf1
@[reducible] def zm8 : Fld (Str × (List Str) × (TList Int) × (List GTyp)) (List GTyp) := pl3
theorem ze26 : ZeroOk Tryz.prog 26 ((GTab.mk (Str.mk []) ([] : (List Str)) ([] : (List Int)) ([] : (List GTyp))) : GTab) := zbU (cs := [.string ⟨#[]⟩, .slice none 0 0, .slice none 0 0, .slice none 0 0]) rfl (by kernel_rfl) (zX zfN (zX zbQ (zX zbQ zbQ)))
theorem bu26 : BuildB Tryz.prog 26 = true := by kernel_rfl
theorem ty26 : TyB Tryz.prog 26 4 true = true := by kernel_rfl
theorem zgk : FldB Tryz.prog 141 0 0 5 true = true := by kernel_rfl
theorem bu141 : BuildB Tryz.prog 141 = true := by kernel_rfl
theorem zon : ZeroOk Tryz.prog 141 (((GMod.mk (Str.mk []) (0 : Int) ([] : (List Str)) ([] : (List Int)) ([] : (List GNode))), (Vh.mk none 0), (0 : Int)) : (GMod × Vh × Int)) := zbU (cs := [.string ⟨#[]⟩, .int .i64 0, .slice none 0 0, .slice none 0 0, .slice none 0 0, .slice none 0 0, .int .i64 0]) rfl (by kernel_rfl) (zX (zX zfN (zX zaU (zX zbQ (zX zbQ zbQ)))) (zX zoP zaU))
theorem znb : FldB Tryz.prog 26 0 0 1 false = true := by kernel_rfl
theorem znC : FldB Tryz.prog 26 1 1 1 false = true := by kernel_rfl
theorem zjP : ZeroOk Tryz.prog 26 (((Str.mk []), ([] : (List Str)), (TList.mk none ([] : (List Int))), ([] : (List GTyp))) : (Str × (List Str) × (TList Int) × (List GTyp))) := zbU (cs := [.string ⟨#[]⟩, .slice none 0 0, .slice none 0 0, .slice none 0 0]) rfl (by kernel_rfl) (zX zfN (zX zbQ (zX zjF zbQ)))
theorem zj6 : FldB Tryz.prog 26 2 2 1 false = true := by kernel_rfl
theorem zdI : FldB Tryz.prog 141 2 6 1 false = true := by kernel_rfl
theorem zcD : FldB Tryz.prog 141 1 5 1 false = true := by kernel_rfl
theorem ty24 : TyB Tryz.prog 24 1 false = true := by kernel_rfl
theorem sl24 : SlB Tryz.prog 24 13 true = true := by kernel_rfl
theorem zkx : FldB Tryz.prog 87 6 11 1 false = true := by kernel_rfl
theorem zfr : FldB Tryz.prog 87 5 10 1 false = true := by kernel_rfl
theorem zlX : FldB Tryz.prog 87 2 2 6 true = true := by kernel_rfl
theorem zcx : FldB Tryz.prog 87 0 0 1 false = true := by kernel_rfl
theorem bu87 : BuildB Tryz.prog 87 = true := by kernel_rfl
theorem ze87 : ZeroOk Tryz.prog 87 ((GTyp.mk (0 : Int) ([] : (List Tag)) (GCon.mk false false false false (0 : Int) (0 : Int)) ([] : (List GItem)) ([] : (List GFld)) (0 : Int) false (0 : Int)) : GTyp) := zbU (cs := [.int .i64 0, .slice none 0 0, .bool false, .bool false, .bool false, .bool false, .int .i64 0, .int .i64 0, .slice none 0 0, .slice none 0 0, .int .i64 0, .bool false, .int .i64 0]) rfl (by kernel_rfl) (zX zaU (zX zbQ (zX (zX zbt (zX zbt (zX zbt (zX zbt (zX zaU zaU))))) (zX zbQ (zX zbQ (zX zaU (zX zbt zaU)))))))
theorem ty87 : TyB Tryz.prog 87 13 true = true := by kernel_rfl
theorem ze31 : ZeroOk Tryz.prog 31 (Tag.zero : Tag) := zbU (cs := [.int .i64 0, .int .i64 0]) rfl (by kernel_rfl) (zX zaU zaU)
theorem zer : FldB Tryz.prog 31 1 1 1 false = true := by kernel_rfl
theorem bu31 : BuildB Tryz.prog 31 = true := by kernel_rfl
theorem ty31 : TyB Tryz.prog 31 2 true = true := by kernel_rfl
theorem el78 : elB Tryz.prog 78 2 = true := by kernel_rfl
theorem zeQ : FldB Tryz.prog 87 1 1 1 false = true := by kernel_rfl
theorem ty78 : TyB Tryz.prog 78 1 false = true := by kernel_rfl
theorem el24 : elB Tryz.prog 24 13 = true := by kernel_rfl
theorem zl8 : appB Tryz.prog 24 24 13 = true := by kernel_rfl
theorem zo8 : FldB Tryz.prog 87 7 12 1 false = true := by kernel_rfl
theorem zft : FldB Tryz.prog 87 3 8 1 false = true := by kernel_rfl
theorem ty42 : TyB Tryz.prog 42 1 false = true := by kernel_rfl
theorem sl42 : SlB Tryz.prog 42 1 false = true := by kernel_rfl
theorem ty5 : TyB Tryz.prog 5 1 false = true := by kernel_rfl
theorem zk5 : Tryz.prog.globals.findIdx? (·.name == "unicode/utf8.first") = some 0 := by kernel_rfl
theorem ar190 : ArrB Tryz.prog 190 256 1 false = true := by kernel_rfl
theorem zgC : Tryz.prog.globals.findIdx? (·.name == "unicode/utf8.acceptRanges") = some 1 := by kernel_rfl
theorem ar193 : ArrB Tryz.prog 193 16 2 true = true := by kernel_rfl
theorem ty192 : TyB Tryz.prog 192 2 true = true := by kernel_rfl
theorem ze192 : ZeroOk Tryz.prog 192 (GAcc.zero : GAcc) := zbU (cs := [.int .u8 0, .int .u8 0]) rfl (by kernel_rfl) (zX zoM zoM)
theorem zjQ : FldB Tryz.prog 192 0 0 1 false = true := by kernel_rfl
theorem zkj : FldB Tryz.prog 192 1 1 1 false = true := by kernel_rfl
theorem sl78 : SlB Tryz.prog 78 2 true = true := by kernel_rfl
theorem zgw : FldB Tryz.prog 31 0 0 1 false = true := by kernel_rfl
theorem zfw : appB Tryz.prog 78 78 2 = true := by kernel_rfl
theorem zbA : FldB Tryz.prog 87 4 9 1 false = true := by kernel_rfl
theorem el242 : elB Tryz.prog 242 1 = true := by kernel_rfl
theorem zmr : appB Tryz.prog 242 242 1 = true := by kernel_rfl
theorem sl242 : SlB Tryz.prog 242 1 false = true := by kernel_rfl
theorem eq31 : EqOk Tryz.prog 31 Tag := Tag.eqOk Tryz.underlying31 (by kernel_rfl) (by kernel_rfl) Tryz.underlying3
theorem el49 : elB Tryz.prog 49 1 = true := by kernel_rfl
theorem zoF : appB Tryz.prog 49 49 1 = true := by kernel_rfl
theorem sl49 : SlB Tryz.prog 49 1 false = true := by kernel_rfl
theorem zeM : FldB Tryz.prog 26 3 3 1 false = true := by kernel_rfl
end Go.Proofs.Q


namespace Go.Proofs.Q
open Go.Sy
set_option maxRecDepth 4000
theorem zj0 : FldB Tryz.prog 144 0 0 1 false = true := by kernel_rfl
theorem bu144 : BuildB Tryz.prog 144 = true := by kernel_rfl
theorem ze144 : ZeroOk Tryz.prog 144 ((GTys.mk ([] : (List GTyp))) : GTys) := zbU (cs := [.slice none 0 0]) rfl (by kernel_rfl) zbQ
theorem zoW : ZeroOk Tryz.prog 78 ((TList.mk none ([] : (List Tag))) : (TList Tag)) := zld (v := .slice none 0 0) rfl (by kernel_rfl) zjF
theorem ze3 : ZeroOk Tryz.prog 3 ((0 : Int) : Int) := zld (v := .int .i64 0) rfl (by kernel_rfl) zaU
end Go.Proofs.Q


namespace Go.Proofs.Q
open Go.Sy
set_option maxRecDepth 4000
theorem zeF : ∀ {a_s : Str} {a_i : Int} {r : UInt8}, zef a_s a_i = some r → Ctr Tryz.prog 136 [isv (a_s), isv (a_i)] [] (fun R H => R = oneOf [isv (r)] ∧ H = []) := by
 intro a_s a_i r h
 unfold zef at h
 refine zp Tryz.func136 rfl fun w0 S0 hT => wsr (oA rfl (rnf (zj (wsr (oM rfl (oV (zaj rfl rfl) (oM rfl ?_)))))))
 refine zau (jb 12) je .nil h 5 rfl (fun q1 g1 h => ?_) (fun J2 h hJ2 => ?_)
 ·refine rnf (zg h rfl (fun _ h => ?_) (fun _ h => ?_))
  ·refine wsr (oA rfl (rnf (zJ (zA ?_))))
   cases h
   exact zk (.tmp rfl .nil) .nil ⟨rfl, rfl⟩
  refine wkf (wsr (oM rfl (oM rfl (zb h fun y4 hy4 h => oV (zbM y4 st9 rfl rfl hy4) (oA rfl (rnf (zJ ?_)))))))
  cases h
  exact zk (.tmp rfl .nil) .nil ⟨rfl, rfl⟩
 refine zB (j := 7) h rfl (fun g3 h => ?_) (fun g3 h => ?_)
 ·exact oP 7 rfl rfl g3 (oP 7 rfl rfl g3 (oP 7 rfl rfl g3 (oP 7 rfl rfl g3 (oV (zs rfl g3 rfl) (hJ2 _ () h _ (ji 5 12 rfl rfl rfl))))))
 exact oK 7 rfl rfl rfl g3 (zt rfl) (oK 7 rfl rfl rfl g3 (zt rfl) (oK 7 rfl rfl rfl g3 (zdJ st9 rfl) (oK 7 rfl rfl rfl g3 (zeV rfl rfl) (oV (zr rfl g3 rfl) (hJ2 _ () h _ (ji 5 12 rfl rfl rfl))))))


theorem zkL : ∀ {a_s : Str} {a_i : Int} {r : Int}, zek a_s a_i = some r → Ctr Tryz.prog 102 [isv (a_s), isv (a_i)] [] (fun R H => R = oneOf [isv (r)] ∧ H = []) := by
 intro a_s a_i r h
 unfold zek at h
 refine zp Tryz.func102 rfl fun w0 S0 hT => wsr (oA rfl (rnf (zj (zq (zaN (ι := Int) (γ := Unit) (fun q1 g1 => [(1, isv (q1))]) (fun q1 g1 => []) h () (za (j := 1) rfl hI zd) .nil (fun L2 q1 g1 Q99 h hL2 eL2 rL2 => zj (wsr ?_)))))))
 refine oM rfl (oM rfl (oV (zdJ st9 rfl) (oV (zaj rfl rfl) (rnf (zg h rfl (fun _ h => ?_) (fun _ h => ?_))))))
 ·refine wkf (zq (zq (wsr (oM rfl (oM rfl (zb h fun y51 hy51 h => oV (zbM y51 st9 rfl rfl hy51) (oV (zcz eq5 rfl rfl) ?_)))))))
  refine oM rfl (zau (jb 20) je .nil h 5 rfl (fun q52 g52 h => ?_) (fun J53 h hJ53 => ?_))
  ·refine oM rfl (zau (jb 26) je .nil h 5 rfl (fun q56 g56 h => ?_) (fun J57 h hJ57 => ?_))
   ·refine oM rfl (zau (jb 32) je .nil h 5 rfl (fun q60 g60 h => ?_) (fun J61 h hJ61 => ?_))
    ·refine oA rfl (rnf (zg h rfl (fun _ h => ?_) (fun _ h => ?_)))
     ·exact zh (oM rfl (zz h fun q64 h => oV (zaa rfl rfl q64) (oA rfl (zw (zi (zi (hL2 _ () h _ (ji 19 1 rfl rfl rfl))))))))
     refine wsr (oM rfl (oM rfl (zb h fun y65 hy65 h => oV (zbM y65 st9 rfl rfl hy65) (oV (zcz eq5 rfl rfl) (oM rfl (zau (jb 46) je .nil h 6 rfl (fun q66 g66 h => ?_) (fun J67 h hJ67 => ?_)))))))
     ·refine oA rfl (rnf (zg h rfl (fun _ h => ?_) (fun _ h => ?_)))
      ·refine wsr (oM rfl (zz h fun q71 h => oV (zaa rfl rfl q71) (oA rfl (rnf (zq (zaN (ι := Int) (γ := Unit) (fun q72 g72 => [(1, isv (q72))]) (fun q72 g72 => []) h () (za (j := 1) rfl hI zd) .nil (fun L73 q72 g72 Q98 h hL73 eL73 rL73 => zj ?_)))))))
       refine wsr (oM rfl (oM rfl (oV (zdJ st9 rfl) (oV (zaj rfl rfl) (oM rfl (zau (jb 58) je .nil h 5 rfl (fun q86 g86 h => ?_) (fun J87 h hJ87 => ?_)))))))
       ·refine rnf (zg h rfl (fun _ h => ?_) (fun _ h => ?_))
        ·refine wkf (zq (zj (wsr (oM rfl (oM rfl (zb h fun y90 hy90 h => oV (zbM y90 st9 rfl rfl hy90) (oV (zcz eq5 rfl rfl) ?_)))))))
         refine oM rfl (zau (jb 69) je .nil h 6 rfl (fun q91 g91 h => ?_) (fun J92 h hJ92 => ?_))
         ·refine rnf (zg h rfl (fun _ h => ?_) (fun _ h => ?_))
          ·refine wsr (oM rfl (zz h fun q96 h => oV (zaa rfl rfl q96) (oA rfl (rnf (zad (zU (zgM rfl ?_)))))))
           exact eL73 _ _ (zE (zi (zi (hL2 _ () h _ (ji 42 1 rfl rfl rfl)))))
          exact wkf (zh (oM rfl (zz h fun q97 h => oV (zaa rfl rfl q97) (oA rfl (zw (zi (hL73 _ () h _ (ji 16 1 rfl rfl rfl))))))))
         refine zB (j := 63) h rfl (fun g93 h => ?_) (fun g93 h => ?_)
         ·exact oK 63 rfl rfl rfl g93 (zt rfl) (oK 63 rfl rfl rfl g93 (zt rfl) (zz h fun q94 h => oK 63 rfl rfl rfl g93 (zaa rfl rfl q94) (zb h fun y95 hy95 h => zaD rfl rfl (dj := 63) rfl g93 (zy (zeF hy95) hT (s2 rfl rfl) .nil (oK 63 rfl rfl rfl g93 (zcz eq5 rfl rfl) (oV (zs rfl g93 rfl) (hJ92 _ () h _ (ji 6 69 rfl rfl rfl))))))))
         exact oP 63 rfl rfl g93 (oP 63 rfl rfl g93 (oP 63 rfl rfl g93 (oP 63 rfl rfl g93 (oP 63 rfl rfl g93 (oV (zr rfl g93 rfl) (hJ92 _ () h _ (ji 6 69 rfl rfl rfl)))))))
        exact zad (zU (eL73 _ _ (zE (zi (zi (hL2 _ () h _ (ji 33 1 rfl rfl rfl)))))))
       refine zB (j := 53) h rfl (fun g88 h => ?_) (fun g88 h => ?_)
       ·exact oK 53 rfl rfl rfl g88 (zt rfl) (oK 53 rfl rfl rfl g88 (zt rfl) (zb h fun y89 hy89 h => oK 53 rfl rfl rfl g88 (zbM y89 st9 rfl rfl hy89) (oK 53 rfl rfl rfl g88 (zjG eq5 rfl rfl) (oV (zs rfl g88 rfl) (hJ87 _ () h _ (ji 5 58 rfl rfl rfl))))))
       exact oP 53 rfl rfl g88 (oP 53 rfl rfl g88 (oP 53 rfl rfl g88 (oP 53 rfl rfl g88 (oV (zr rfl g88 rfl) (hJ87 _ () h _ (ji 5 58 rfl rfl rfl))))))
      refine wsr (oM rfl (oA rfl (rnf (zJ (zH (zH (rL2 _ (zH ?_))))))))
      refine zA ?_
      cases h
      exact zk (.tmp rfl .nil) .nil ⟨rfl, rfl⟩
     refine zB (j := 40) h rfl (fun g68 h => ?_) (fun g68 h => ?_)
     ·exact oK 40 rfl rfl rfl g68 (zt rfl) (oK 40 rfl rfl rfl g68 (zt rfl) (zz h fun q69 h => oK 40 rfl rfl rfl g68 (zaa rfl rfl q69) (zb h fun y70 hy70 h => zaD rfl rfl (dj := 40) rfl g68 (zy (zeF hy70) hT (s2 rfl rfl) .nil (oK 40 rfl rfl rfl g68 (zcz eq5 rfl rfl) (oV (zs rfl g68 rfl) (hJ67 _ () h _ (ji 6 46 rfl rfl rfl))))))))
     exact oP 40 rfl rfl g68 (oP 40 rfl rfl g68 (oP 40 rfl rfl g68 (oP 40 rfl rfl g68 (oP 40 rfl rfl g68 (oV (zr rfl g68 rfl) (hJ67 _ () h _ (ji 6 46 rfl rfl rfl)))))))
    refine zB (j := 27) h rfl (fun g62 h => ?_) (fun g62 h => ?_)
    ·exact oP 27 rfl rfl g62 (oP 27 rfl rfl g62 (oP 27 rfl rfl g62 (oP 27 rfl rfl g62 (oV (zs rfl g62 rfl) (hJ61 _ () h _ (ji 5 32 rfl rfl rfl))))))
    exact oK 27 rfl rfl rfl g62 (zt rfl) (oK 27 rfl rfl rfl g62 (zt rfl) (zb h fun y63 hy63 h => oK 27 rfl rfl rfl g62 (zbM y63 st9 rfl rfl hy63) (oK 27 rfl rfl rfl g62 (zcz eq5 rfl rfl) (oV (zr rfl g62 rfl) (hJ61 _ () h _ (ji 5 32 rfl rfl rfl))))))
   refine zB (j := 21) h rfl (fun g58 h => ?_) (fun g58 h => ?_)
   ·exact oP 21 rfl rfl g58 (oP 21 rfl rfl g58 (oP 21 rfl rfl g58 (oP 21 rfl rfl g58 (oV (zs rfl g58 rfl) (hJ57 _ () h _ (ji 5 26 rfl rfl rfl))))))
   exact oK 21 rfl rfl rfl g58 (zt rfl) (oK 21 rfl rfl rfl g58 (zt rfl) (zb h fun y59 hy59 h => oK 21 rfl rfl rfl g58 (zbM y59 st9 rfl rfl hy59) (oK 21 rfl rfl rfl g58 (zcz eq5 rfl rfl) (oV (zr rfl g58 rfl) (hJ57 _ () h _ (ji 5 26 rfl rfl rfl))))))
  refine zB (j := 15) h rfl (fun g54 h => ?_) (fun g54 h => ?_)
  ·exact oP 15 rfl rfl g54 (oP 15 rfl rfl g54 (oP 15 rfl rfl g54 (oP 15 rfl rfl g54 (oV (zs rfl g54 rfl) (hJ53 _ () h _ (ji 5 20 rfl rfl rfl))))))
  exact oK 15 rfl rfl rfl g54 (zt rfl) (oK 15 rfl rfl rfl g54 (zt rfl) (zb h fun y55 hy55 h => oK 15 rfl rfl rfl g54 (zbM y55 st9 rfl rfl hy55) (oK 15 rfl rfl rfl g54 (zcz eq5 rfl rfl) (oV (zr rfl g54 rfl) (hJ53 _ () h _ (ji 5 20 rfl rfl rfl))))))
 refine zad (zU (eL2 _ _ (zE (zx (wsr (oM rfl (oA rfl (rnf ?_))))))))
 refine zJ ?_
 cases h
 exact zk (.tmp rfl .nil) .nil ⟨rfl, rfl⟩


theorem zgg : ∀ {a_c : UInt8} {r : Bool}, zdP a_c = some r → Ctr Tryz.prog 137 [isv (a_c)] [] (fun R H => R = oneOf [isv (r)] ∧ H = []) := by
 intro a_c r h
 unfold zdP at h
 refine zp Tryz.func137 rfl fun w0 S0 hT => wsr (oA rfl (rnf (wsr (oM rfl (oV (ziP rfl rfl) (oM rfl (zau (jb 8) je .nil h 3 rfl (fun q1 g1 h => ?_) (fun J2 h hJ2 => ?_))))))))
 ·refine oM rfl (zau (jb 16) je .nil h 7 rfl (fun q4 g4 h => ?_) (fun J5 h hJ5 => ?_))
  ·refine oA rfl (rnf (zJ ?_))
   cases h
   exact zk (.tmp rfl .nil) .nil ⟨rfl, rfl⟩
  refine zB (j := 9) h rfl (fun g6 h => ?_) (fun g6 h => ?_)
  ·exact oP 9 rfl rfl g6 (oP 9 rfl rfl g6 (oP 9 rfl rfl g6 (zC rfl (dj := 12) rfl (zC rfl (dj := 12) rfl (oP 9 rfl rfl g6 (oV (zs rfl g6 rfl) (hJ5 _ () h _ (ji 7 16 rfl rfl rfl))))))))
  refine oK 9 rfl rfl rfl g6 (zt rfl) (oK 9 rfl rfl rfl g6 (ziP rfl rfl) (oK 9 rfl rfl rfl g6 (zt rfl) (zau (jb 15) je .nil h 3 rfl (fun q7 g7 h => ?_) (fun J8 h hJ8 => ?_))))
  ·exact oV (zr rfl g6 rfl) (hJ5 _ () h _ (ji 5 16 rfl rfl rfl))
  refine zB (j := 12) h rfl (fun g9 h => ?_) (fun g9 h => ?_)
  ·exact oK 12 rfl rfl rfl g9 (zt rfl) (oK 12 rfl rfl rfl g9 (zi7 rfl rfl) (oK 9 rfl rfl rfl g6 (zs rfl g9 rfl) (hJ8 _ () h _ (ji 3 15 rfl rfl rfl))))
  exact oP 12 rfl rfl g9 (oP 12 rfl rfl g9 (oK 9 rfl rfl rfl g6 (zr rfl g9 rfl) (hJ8 _ () h _ (ji 3 15 rfl rfl rfl))))
 refine zB (j := 5) h rfl (fun g3 h => ?_) (fun g3 h => ?_)
 ·exact oK 5 rfl rfl rfl g3 (zt rfl) (oK 5 rfl rfl rfl g3 (zi7 rfl rfl) (oV (zs rfl g3 rfl) (hJ2 _ () h _ (ji 3 8 rfl rfl rfl))))
 exact oP 5 rfl rfl g3 (oP 5 rfl rfl g3 (oV (zr rfl g3 rfl) (hJ2 _ () h _ (ji 3 8 rfl rfl rfl))))


theorem zeG : ∀ {a_c : UInt8} {r : Bool}, zdA a_c = some r → Ctr Tryz.prog 140 [isv (a_c)] [] (fun R H => R = oneOf [isv (r)] ∧ H = []) := by
 intro a_c r h
 unfold zdA at h
 refine zp Tryz.func140 rfl fun w0 S0 hT => wsr (oA rfl (rnf (wsr (oM rfl (oV (ziP rfl rfl) (oM rfl (zau (jb 8) je .nil h 3 rfl (fun q1 g1 h => ?_) (fun J2 h hJ2 => ?_))))))))
 ·refine oA rfl (rnf (zJ ?_))
  cases h
  exact zk (.tmp rfl .nil) .nil ⟨rfl, rfl⟩
 refine zB (j := 5) h rfl (fun g3 h => ?_) (fun g3 h => ?_)
 ·exact oK 5 rfl rfl rfl g3 (zt rfl) (oK 5 rfl rfl rfl g3 (zi7 rfl rfl) (oV (zs rfl g3 rfl) (hJ2 _ () h _ (ji 3 8 rfl rfl rfl))))
 exact oP 5 rfl rfl g3 (oP 5 rfl rfl g3 (oV (zr rfl g3 rfl) (hJ2 _ () h _ (ji 3 8 rfl rfl rfl))))


theorem zlA : ∀ {a_s : Str} {a_i : Int} {r : Int}, ze9 a_s a_i = some r → Ctr Tryz.prog 138 [isv (a_s), isv (a_i)] [] (fun R H => R = oneOf [isv (r)] ∧ H = []) := by
 intro a_s a_i r h
 unfold ze9 at h
 refine zp Tryz.func138 rfl fun w0 S0 hT => wsr (oA rfl (rnf (wsr (oM rfl (oA rfl (rnf (zj ?_)))))))
 refine zq (zaN (ι := Int) (γ := Unit) (fun q1 g1 => [(1, isv (q1))]) (fun q1 g1 => []) h () (za (j := 1) rfl hI zd) .nil (fun L2 q1 g1 Q55 h hL2 eL2 rL2 => zj (wsr (oM rfl (oM rfl (oV (zdJ st9 rfl) (oV (zaj rfl rfl) (oM rfl ?_))))))))
 refine zau (jb 35) je .nil h 24 rfl (fun q29 g29 h => ?_) (fun J30 h hJ30 => ?_)
 ·refine rnf (zg h rfl (fun _ h => ?_) (fun _ h => ?_))
  ·refine wkf (zq (zh (oM rfl (zz h fun q48 h => oV (zaa rfl rfl q48) (oA rfl (zw (zi ?_)))))))
   exact hL2 _ () h _ (ji 10 1 rfl rfl rfl)
  refine zad (zU (eL2 _ _ (zE (zx (zj (wsr (oM rfl (oM rfl ?_))))))))
  refine zz h fun q49 h => oV (zaF rfl rfl q49) (zb h fun y50 hy50 h => oV (zbM y50 st9 rfl rfl hy50) (oV (zcz eq5 rfl rfl) (oM rfl (zau (jb 48) je .nil h 5 rfl (fun q51 g51 h => ?_) (fun J52 h hJ52 => ?_)))))
  ·refine rnf (zg h rfl (fun _ h => ?_) (fun _ h => ?_))
   ·refine wsr (oA rfl (rnf (zJ (zA ?_))))
    cases h
    exact zk (.tmp rfl .nil) .nil ⟨rfl, rfl⟩
   refine wkf (wsr (oM rfl (oA rfl (rnf (zJ ?_)))))
   cases h
   exact zk (.tmp rfl .nil) .nil ⟨rfl, rfl⟩
  refine zB (j := 43) h rfl (fun g53 h => ?_) (fun g53 h => ?_)
  ·exact oP 43 rfl rfl g53 (oP 43 rfl rfl g53 (oP 43 rfl rfl g53 (oP 43 rfl rfl g53 (oV (zs rfl g53 rfl) (hJ52 _ () h _ (ji 5 48 rfl rfl rfl))))))
  exact oK 43 rfl rfl rfl g53 (zt rfl) (oK 43 rfl rfl rfl g53 (zt rfl) (zz h fun q54 h => oK 43 rfl rfl rfl g53 (zaF rfl rfl q54) (oK 43 rfl rfl rfl g53 (zbu rfl rfl) (oV (zr rfl g53 rfl) (hJ52 _ () h _ (ji 5 48 rfl rfl rfl))))))
 refine zB (j := 11) h rfl (fun g31 h => ?_) (fun g31 h => ?_)
 ·refine oK 11 rfl rfl rfl g31 (zt rfl) (oK 11 rfl rfl rfl g31 (zt rfl) (zb h fun y32 hy32 h => oK 11 rfl rfl rfl g31 (zbM y32 st9 rfl rfl hy32) (zb h fun y33 hy33 h => zaD rfl rfl (dj := 11) rfl g31 (zy (zgg hy33) hT (s1 rfl) .nil (oK 11 rfl rfl rfl g31 (zt rfl) (zau (jb 21) je .nil h 5 rfl (fun q34 g34 h => ?_) (fun J35 h hJ35 => ?_)))))))
  ·refine oK 11 rfl rfl rfl g31 (zt rfl) (zau (jb 34) je .nil h 12 rfl (fun q39 g39 h => ?_) (fun J40 h hJ40 => ?_))
   ·exact oV (zs rfl g31 rfl) (hJ30 _ () h _ (ji 9 35 rfl rfl rfl))
   refine zB (j := 22) h rfl (fun g41 h => ?_) (fun g41 h => ?_)
   ·refine oP 22 rfl rfl g41 (oP 22 rfl rfl g41 (oP 22 rfl rfl g41 (oP 22 rfl rfl g41 (oP 22 rfl rfl g41 (zC rfl (dj := 27) rfl (zC rfl (dj := 27) rfl (zC rfl (dj := 27) rfl (zC rfl (dj := 27) rfl ?_))))))))
    exact zC rfl (dj := 27) rfl (oP 22 rfl rfl g41 (oK 11 rfl rfl rfl g31 (zs rfl g41 rfl) (hJ40 _ () h _ (ji 12 34 rfl rfl rfl))))
   refine oK 22 rfl rfl rfl g41 (zt rfl) (oK 22 rfl rfl rfl g41 (zt rfl) (zb h fun y42 hy42 h => oK 22 rfl rfl rfl g41 (zbM y42 st9 rfl rfl hy42) (oK 22 rfl rfl rfl g41 (zcz eq5 rfl rfl) (oK 22 rfl rfl rfl g41 (zt rfl) (zau (jb 33) je .nil h 6 rfl (fun q43 g43 h => ?_) (fun J44 h hJ44 => ?_))))))
   ·exact oK 11 rfl rfl rfl g31 (zr rfl g41 rfl) (hJ40 _ () h _ (ji 7 34 rfl rfl rfl))
   refine zB (j := 27) h rfl (fun g45 h => ?_) (fun g45 h => ?_)
   ·exact oK 27 rfl rfl rfl g45 (zt rfl) (oK 27 rfl rfl rfl g45 (zt rfl) (zz h fun q46 h => oK 27 rfl rfl rfl g45 (zaa rfl rfl q46) (zb h fun y47 hy47 h => zaD rfl rfl (dj := 27) rfl g45 (zy (zeF hy47) hT (s2 rfl rfl) .nil (oK 27 rfl rfl rfl g45 (zjG eq5 rfl rfl) (oK 22 rfl rfl rfl g41 (zs rfl g45 rfl) (hJ44 _ () h _ (ji 6 33 rfl rfl rfl))))))))
   exact oP 27 rfl rfl g45 (oP 27 rfl rfl g45 (oP 27 rfl rfl g45 (oP 27 rfl rfl g45 (oP 27 rfl rfl g45 (oK 22 rfl rfl rfl g41 (zr rfl g45 rfl) (hJ44 _ () h _ (ji 6 33 rfl rfl rfl)))))))
  refine zB (j := 16) h rfl (fun g36 h => ?_) (fun g36 h => ?_)
  ·exact oP 16 rfl rfl g36 (oP 16 rfl rfl g36 (oP 16 rfl rfl g36 (oP 16 rfl rfl g36 (oK 11 rfl rfl rfl g31 (zs rfl g36 rfl) (hJ35 _ () h _ (ji 5 21 rfl rfl rfl))))))
  exact oK 16 rfl rfl rfl g36 (zt rfl) (oK 16 rfl rfl rfl g36 (zt rfl) (zb h fun y37 hy37 h => oK 16 rfl rfl rfl g36 (zbM y37 st9 rfl rfl hy37) (zb h fun y38 hy38 h => zaD rfl rfl (dj := 16) rfl g36 (zy (zeG hy38) hT (s1 rfl) .nil (oK 11 rfl rfl rfl g31 (zr rfl g36 rfl) (hJ35 _ () h _ (ji 5 21 rfl rfl rfl)))))))
 refine oP 11 rfl rfl g31 (oP 11 rfl rfl g31 (oP 11 rfl rfl g31 (oP 11 rfl rfl g31 (oP 11 rfl rfl g31 (zC rfl (dj := 16) rfl (zC rfl (dj := 16) rfl (zC rfl (dj := 16) rfl (zC rfl (dj := 16) rfl ?_))))))))
 refine oP 11 rfl rfl g31 (oP 11 rfl rfl g31 (zC rfl (dj := 22) rfl (zC rfl (dj := 22) rfl (zC rfl (dj := 22) rfl (zC rfl (dj := 22) rfl (zC rfl (dj := 22) rfl (zC rfl (dj := 27) rfl (zC rfl (dj := 27) rfl ?_))))))))
 exact zC rfl (dj := 27) rfl (zC rfl (dj := 27) rfl (zC rfl (dj := 27) rfl (zC rfl (dj := 22) rfl (oP 11 rfl rfl g31 (oV (zr rfl g31 rfl) (hJ30 _ () h _ (ji 24 35 rfl rfl rfl)))))))


theorem zkK : ∀  {r : (List Str)}, zfT  = some r → Ctr Tryz.prog 171 [] [] (fun R H => R = oneOf [isv (r)] ∧ H = []) := by
 intro  r h
 unfold zfT at h
 refine zp Tryz.func171 rfl fun w0 S0 hT => wsr (oA rfl (rnf (wsr ?_)))
 refine oT (zY (l := ([(Str.mk [68, 69, 70, 73, 78, 73, 84, 73, 79, 78, 83]), (Str.mk [69, 88, 80, 76, 73, 67, 73, 84]), (Str.mk [73, 77, 80, 76, 73, 67, 73, 84]), (Str.mk [65, 85, 84, 79, 77, 65, 84, 73, 67]), (Str.mk [84, 65, 71, 83]), (Str.mk [66, 69, 71, 73, 78]), (Str.mk [69, 78, 68]), (Str.mk [66, 79, 79, 76, 69, 65, 78]), (Str.mk [73, 78, 84, 69, 71, 69, 82]), (Str.mk [69, 78, 85, 77, 69, 82, 65, 84, 69, 68]), (Str.mk [78, 85, 76, 76]), (Str.mk [79, 67, 84, 69, 84]), (Str.mk [83, 84, 82, 73, 78, 71]), (Str.mk [85, 84, 70, 56, 83, 116, 114, 105, 110, 103]), (Str.mk [83, 69, 81, 85, 69, 78, 67, 69]), (Str.mk [83, 69, 84]), (Str.mk [67, 72, 79, 73, 67, 69]), (Str.mk [79, 70]), (Str.mk [79, 80, 84, 73, 79, 78, 65, 76]), (Str.mk [68, 69, 70, 65, 85, 76, 84]), (Str.mk [83, 73, 90, 69]), (Str.mk [77, 73, 78]), (Str.mk [77, 65, 88]), (Str.mk [84, 82, 85, 69]), (Str.mk [70, 65, 76, 83, 69])] : (List Str))) el22 (.cons rfl hI (.cons rfl hI (.cons rfl hI (.cons rfl hI (.cons rfl hI (.cons rfl hI (.cons rfl hI (.cons rfl hI (.cons rfl hI (.cons rfl hI (.cons rfl hI (.cons rfl hI (.cons rfl hI (.cons rfl hI (.cons rfl hI (.cons rfl hI (.cons rfl hI (.cons rfl hI (.cons rfl hI (.cons rfl hI (.cons rfl hI (.cons rfl hI (.cons rfl hI (.cons rfl hI (.cons rfl hI .nil))))))))))))))))))))))))) rfl rfl ?_)
 refine oA rfl (rnf (zJ ?_))
 cases h
 exact zk (.as rfl zF .nil) .nil ⟨rfl, rfl⟩


theorem zhm : ∀ {a_l : (List Str)} {a_x : Str} {r : Bool}, zdT a_l a_x = some r → Ctr Tryz.prog 108 [isv (a_l), isv (a_x)] [] (fun R H => R = oneOf [isv (r)] ∧ H = []) := by
 intro a_l a_x r h
 unfold zdT at h
 refine zp Tryz.func108 rfl fun w0 S0 hT => wsr (oA rfl (rnf (zj (wsr (oA rfl (rnf (zq ?_)))))))
 refine zaN (ι := Int) (γ := Unit) (fun q1 g1 => [(5, isv (q1))]) (fun q1 g1 => []) h () (za (j := 5) rfl hI zd) .nil (fun L2 q1 g1 Q7 h hL2 eL2 rL2 => zj (wsr (oM rfl (oM rfl (oV (zaR (l := a_l) rfl hI sl22) (oV (zaj rfl rfl) (rnf (zg h rfl (fun _ h => ?_) (fun _ h => ?_)))))))))
 ·refine wkf (zj (zq (wsr (oM rfl (oM rfl (zb h fun y5 hy5 h => oV (zaz (l := a_l) rfl hI rfl sl22 hy5) (oV (zf ty9 rfl) ?_)))))))
  refine oM rfl (oV (zcz eq9 rfl rfl) (rnf (zg h rfl (fun _ h => ?_) (fun _ h => ?_))))
  ·refine wsr (oA rfl (rnf (zJ (zH (zA (rL2 _ (zH (zA ?_))))))))
   cases h
   exact zk (.tmp rfl .nil) .nil ⟨rfl, rfl⟩
  refine zac (zi (zx (zh (oM rfl (zz h fun q6 h => oV (zaa rfl rfl q6) (oA rfl (zw ?_)))))))
  exact hL2 _ () h _ (ji 14 5 rfl rfl rfl)
 refine zad (zU (eL2 _ _ (zE (zx (wsr (oA rfl (rnf (zJ ?_))))))))
 cases h
 exact zk (.tmp rfl .nil) .nil ⟨rfl, rfl⟩


theorem zlO : ∀ {a_s : Str} {r : Bool}, zfa a_s = some r → Ctr Tryz.prog 139 [isv (a_s)] [] (fun R H => R = oneOf [isv (r)] ∧ H = []) := by
 intro a_s r h
 unfold zfa at h
 refine zp Tryz.func139 rfl fun w0 S0 hT => wsr (oA rfl (rnf (wsr (zb h fun y1 hy1 h => oT (zy (zkK hy1) hT .nil .nil (oM rfl (zb h fun y2 hy2 h => ?_)))))))
 refine oT (zy (zhm hy2) hT (s2 rfl rfl) .nil (oA rfl (rnf (zJ ?_))))
 cases h
 exact zk (.tmp rfl .nil) .nil ⟨rfl, rfl⟩


theorem zkz : ∀ {a_s : Str} {a_i : Int} {r : Int}, zdL a_s a_i = some r → Ctr Tryz.prog 141 [isv (a_s), isv (a_i)] [] (fun R H => R = oneOf [isv (r)] ∧ H = []) := by
 intro a_s a_i r h
 unfold zdL at h
 refine zp Tryz.func141 rfl fun w0 S0 hT => wsr (oA rfl (rnf (wsr (oM rfl (oM rfl (zb h fun y1 hy1 h => oV (zbM y1 st9 rfl rfl hy1) ?_))))))
 refine oV (zcz eq5 rfl rfl) (oA rfl (rnf (zj (wsr (oM rfl (rnf (zdB (ι := Int) (γ := Unit) (fun q2 g2 => [(1, isv (q2))]) (fun q2 g2 => []) .nil h (fun q2 g2 h => ?_) (fun J3 h hJ3 => ?_))))))))
 ·refine wsr (oM rfl (oA rfl (rnf (wsr (oA rfl (rnf (zj (zq ?_))))))))
  refine zaN (ι := Int × UInt64) (γ := Unit) (fun q5 g5 => [(1, isv (q5.1)), (7, isv (q5.2))]) (fun q5 g5 => []) h () (za (j := 1) rfl hI (za (j := 7) rfl hI zd)) .nil (fun L6 q5 g5 Q91 h hL6 eL6 rL6 => zj (wsr (oM rfl (oM rfl (oV (zdJ st9 rfl) (oV (zaj rfl rfl) (oM rfl (zau (jb 26) je .nil h 5 rfl (fun q49 g49 h => ?_) (fun J50 h hJ50 => ?_)))))))))
  ·refine rnf (zg h rfl (fun _ h => ?_) (fun _ h => ?_))
   ·refine wkf (zq (zj (wsr (oM rfl (oM rfl (zz h fun q54 h => oV (zaF rfl rfl q54) (oV (zaj rfl rfl) ?_)))))))
    refine rnf (zdB (ι := UInt64) (γ := Unit) (fun q55 g55 => [(7, isv (q55))]) (fun q55 g55 => []) .nil h (fun q55 g55 h => ?_) (fun J56 h hJ56 => ?_))
    ·exact zh (oM rfl (zz h fun q58 h => oV (zaa rfl rfl q58) (oA rfl (zw (zi (hL6 _ () h _ (ze 16 rfl rfl (za (j := 1) rfl hI (za (j := 7) rfl hI zd)) .nil)))))))
    refine zg h rfl (fun _ h => ?_) (fun _ h => ?_)
    ·refine zh (oM rfl (oV (zmd rfl rfl) (oM rfl (oM rfl (zb h fun y57 hy57 h => oV (zbM y57 st9 rfl rfl hy57) (oV (zj9 rfl rfl) (oV (zez Tryz.underlying5 Tryz.underlying41 rfl) ?_)))))))
     exact oV (zl3 rfl rfl) (oA rfl (zw (hJ56 _ () h _ (ji 9 7 rfl rfl rfl))))
    exact zac (hJ56 _ () h _ (ji 0 7 rfl rfl rfl))
   refine zad (zU (eL6 _ _ (zE (zx (wsr (oM rfl (oM rfl (zz h fun q59 h => ?_))))))))
   refine oV (zaF rfl rfl q59) (oA rfl (rnf (zj (wsr (oM rfl (oV (zaj rfl rfl) (oM rfl (zau (jb 49) je .nil h 3 rfl (fun q60 g60 h => ?_) (fun J61 h hJ61 => ?_)))))))))
   ·refine oM rfl (zau (jb 59) je .nil h 9 rfl (fun q63 g63 h => ?_) (fun J64 h hJ64 => ?_))
    ·refine oM rfl (zau (jb 68) je .nil h 8 rfl (fun q70 g70 h => ?_) (fun J71 h hJ71 => ?_))
     ·refine oM rfl (zau (jb 74) je .nil h 5 rfl (fun q77 g77 h => ?_) (fun J78 h hJ78 => ?_))
      ·refine oM rfl (zau (jb 78) je .nil h 3 rfl (fun q82 g82 h => ?_) (fun J83 h hJ83 => ?_))
       ·refine oM rfl (zau (jb 86) je .nil h 7 rfl (fun q85 g85 h => ?_) (fun J86 h hJ86 => ?_))
        ·refine rnf (zg h rfl (fun _ h => ?_) (fun _ h => ?_))
         ·refine wsr (oA rfl (rnf (zJ (zA ?_))))
          cases h
          exact zk (.tmp rfl .nil) .nil ⟨rfl, rfl⟩
         refine wkf (wsr (oM rfl (oA rfl (rnf (zJ ?_)))))
         cases h
         exact zk (.tmp rfl .nil) .nil ⟨rfl, rfl⟩
        refine zB (j := 79) h rfl (fun g87 h => ?_) (fun g87 h => ?_)
        ·exact oP 79 rfl rfl g87 (oP 79 rfl rfl g87 (oP 79 rfl rfl g87 (zC rfl (dj := 82) rfl (zC rfl (dj := 82) rfl (oP 79 rfl rfl g87 (oV (zs rfl g87 rfl) (hJ86 _ () h _ (ji 7 86 rfl rfl rfl))))))))
        refine oK 79 rfl rfl rfl g87 (zt rfl) (oK 79 rfl rfl rfl g87 (zbq rfl) (oK 79 rfl rfl rfl g87 (zt rfl) (zau (jb 85) je .nil h 3 rfl (fun q88 g88 h => ?_) (fun J89 h hJ89 => ?_))))
        ·exact oV (zr rfl g87 rfl) (hJ86 _ () h _ (ji 5 86 rfl rfl rfl))
        refine zB (j := 82) h rfl (fun g90 h => ?_) (fun g90 h => ?_)
        ·exact oK 82 rfl rfl rfl g90 (zt rfl) (oK 82 rfl rfl rfl g90 (ziI rfl rfl) (oK 79 rfl rfl rfl g87 (zs rfl g90 rfl) (hJ89 _ () h _ (ji 3 85 rfl rfl rfl))))
        exact oP 82 rfl rfl g90 (oP 82 rfl rfl g90 (oK 79 rfl rfl rfl g87 (zr rfl g90 rfl) (hJ89 _ () h _ (ji 3 85 rfl rfl rfl))))
       refine zB (j := 75) h rfl (fun g84 h => ?_) (fun g84 h => ?_)
       ·exact oP 75 rfl rfl g84 (oP 75 rfl rfl g84 (oV (zs rfl g84 rfl) (hJ83 _ () h _ (ji 3 78 rfl rfl rfl))))
       exact oK 75 rfl rfl rfl g84 (zt rfl) (oK 75 rfl rfl rfl g84 (zoD rfl rfl) (oV (zr rfl g84 rfl) (hJ83 _ () h _ (ji 3 78 rfl rfl rfl))))
      refine zB (j := 69) h rfl (fun g79 h => ?_) (fun g79 h => ?_)
      ·exact oP 69 rfl rfl g79 (oP 69 rfl rfl g79 (oP 69 rfl rfl g79 (oP 69 rfl rfl g79 (oV (zs rfl g79 rfl) (hJ78 _ () h _ (ji 5 74 rfl rfl rfl))))))
      exact oK 69 rfl rfl rfl g79 (zt rfl) (oK 69 rfl rfl rfl g79 (zt rfl) (zb h fun y80 hy80 h => zaD rfl rfl (dj := 69) rfl g79 (zy (zeF hy80) hT (s2 rfl rfl) .nil (zb h fun y81 hy81 h => zaD rfl rfl (dj := 69) rfl g79 (zy (zgg hy81) hT (s1 rfl) .nil (oV (zr rfl g79 rfl) (hJ78 _ () h _ (ji 5 74 rfl rfl rfl))))))))
     refine zB (j := 60) h rfl (fun g72 h => ?_) (fun g72 h => ?_)
     ·exact oP 60 rfl rfl g72 (oP 60 rfl rfl g72 (zC rfl (dj := 62) rfl (zC rfl (dj := 62) rfl (zC rfl (dj := 62) rfl (zC rfl (dj := 62) rfl (oP 60 rfl rfl g72 (oV (zs rfl g72 rfl) (hJ71 _ () h _ (ji 8 68 rfl rfl rfl)))))))))
     refine oK 60 rfl rfl rfl g72 (zt rfl) (oK 60 rfl rfl rfl g72 (zt rfl) (zau (jb 67) je .nil h 5 rfl (fun q73 g73 h => ?_) (fun J74 h hJ74 => ?_)))
     ·exact oV (zr rfl g72 rfl) (hJ71 _ () h _ (ji 4 68 rfl rfl rfl))
     refine zB (j := 62) h rfl (fun g75 h => ?_) (fun g75 h => ?_)
     ·exact oK 62 rfl rfl rfl g75 (zt rfl) (oK 62 rfl rfl rfl g75 (zt rfl) (zb h fun y76 hy76 h => oK 62 rfl rfl rfl g75 (zbM y76 st9 rfl rfl hy76) (oK 62 rfl rfl rfl g75 (zcz eq5 rfl rfl) (oK 60 rfl rfl rfl g72 (zs rfl g75 rfl) (hJ74 _ () h _ (ji 5 67 rfl rfl rfl))))))
     exact oP 62 rfl rfl g75 (oP 62 rfl rfl g75 (oP 62 rfl rfl g75 (oP 62 rfl rfl g75 (oK 60 rfl rfl rfl g72 (zr rfl g75 rfl) (hJ74 _ () h _ (ji 5 67 rfl rfl rfl))))))
    refine zB (j := 50) h rfl (fun g65 h => ?_) (fun g65 h => ?_)
    ·refine oP 50 rfl rfl g65 (oP 50 rfl rfl g65 (oP 50 rfl rfl g65 (zC rfl (dj := 53) rfl (zC rfl (dj := 53) rfl (zC rfl (dj := 53) rfl (zC rfl (dj := 53) rfl (oP 50 rfl rfl g65 (oV (zs rfl g65 rfl) ?_))))))))
     exact hJ64 _ () h _ (ji 9 59 rfl rfl rfl)
    refine oK 50 rfl rfl rfl g65 (zt rfl) (oK 50 rfl rfl rfl g65 (zbu rfl rfl) (oK 50 rfl rfl rfl g65 (zt rfl) (zau (jb 58) je .nil h 5 rfl (fun q66 g66 h => ?_) (fun J67 h hJ67 => ?_))))
    ·exact oV (zr rfl g65 rfl) (hJ64 _ () h _ (ji 5 59 rfl rfl rfl))
    refine zB (j := 53) h rfl (fun g68 h => ?_) (fun g68 h => ?_)
    ·exact oK 53 rfl rfl rfl g68 (zt rfl) (oK 53 rfl rfl rfl g68 (zt rfl) (zb h fun y69 hy69 h => oK 53 rfl rfl rfl g68 (zbM y69 st9 rfl rfl hy69) (oK 53 rfl rfl rfl g68 (zcz eq5 rfl rfl) (oK 50 rfl rfl rfl g65 (zs rfl g68 rfl) (hJ67 _ () h _ (ji 5 58 rfl rfl rfl))))))
    exact oP 53 rfl rfl g68 (oP 53 rfl rfl g68 (oP 53 rfl rfl g68 (oP 53 rfl rfl g68 (oK 50 rfl rfl rfl g65 (zr rfl g68 rfl) (hJ67 _ () h _ (ji 5 58 rfl rfl rfl))))))
   refine zB (j := 46) h rfl (fun g62 h => ?_) (fun g62 h => ?_)
   ·exact oP 46 rfl rfl g62 (oP 46 rfl rfl g62 (oV (zs rfl g62 rfl) (hJ61 _ () h _ (ji 3 49 rfl rfl rfl))))
   exact oK 46 rfl rfl rfl g62 (zt rfl) (oK 46 rfl rfl rfl g62 (zbu rfl rfl) (oV (zr rfl g62 rfl) (hJ61 _ () h _ (ji 3 49 rfl rfl rfl))))
  refine zB (j := 21) h rfl (fun g51 h => ?_) (fun g51 h => ?_)
  ·exact oK 21 rfl rfl rfl g51 (zt rfl) (oK 21 rfl rfl rfl g51 (zt rfl) (zb h fun y52 hy52 h => oK 21 rfl rfl rfl g51 (zbM y52 st9 rfl rfl hy52) (zb h fun y53 hy53 h => zaD rfl rfl (dj := 21) rfl g51 (zy (zeG hy53) hT (s1 rfl) .nil (oV (zs rfl g51 rfl) (hJ50 _ () h _ (ji 5 26 rfl rfl rfl)))))))
  exact oP 21 rfl rfl g51 (oP 21 rfl rfl g51 (oP 21 rfl rfl g51 (oP 21 rfl rfl g51 (oV (zr rfl g51 rfl) (hJ50 _ () h _ (ji 5 26 rfl rfl rfl))))))
 refine zg h rfl (fun _ h => ?_) (fun _ h => ?_)
 ·exact zh (oM rfl (zz h fun q4 h => oV (zaa rfl rfl q4) (oA rfl (zw (hJ3 _ () h _ (ji 3 1 rfl rfl rfl))))))
 exact zac (hJ3 _ () h _ (ji 0 1 rfl rfl rfl))


theorem zmp : ∀ {a_s : Str} {a_i : Int} {r : Int × Str}, zgs a_s a_i = some r → Ctr Tryz.prog 142 [isv (a_s), isv (a_i)] [] (fun R H => R = oneOf [isv (r.1), isv (r.2)] ∧ H = []) := by
 intro a_s a_i r h
 unfold zgs at h
 refine zp Tryz.func142 rfl fun w0 S0 hT => wsr (oA rfl (oA rfl (rnf (wsr (oM rfl (zz h fun q1 h => oV (zaa rfl rfl q1) ?_))))))
 refine oA rfl (rnf (wsr (oM rfl (oA rfl (rnf (zj (zq (zaN (ι := Int) (γ := Unit) (fun q2 g2 => [(1, isv (q2))]) (fun q2 g2 => []) h () (za (j := 1) rfl hI zd) .nil (fun L3 q2 g2 Q58 h hL3 eL3 rL3 => ?_)))))))))
 refine zj (wsr (oM rfl (oM rfl (oV (zdJ st9 rfl) (oV (zaj rfl rfl) (oM rfl (zau (jb 31) je .nil h 17 rfl (fun q31 g31 h => ?_) (fun J32 h hJ32 => ?_))))))))
 ·refine rnf (zg h rfl (fun _ h => ?_) (fun _ h => ?_))
  ·refine wkf (zq (zh (oM rfl (zz h fun q44 h => oV (zaa rfl rfl q44) (oA rfl (zw (zi ?_)))))))
   exact hL3 _ () h _ (ji 10 1 rfl rfl rfl)
  refine zad (zU (eL3 _ _ (zE (zx (zj (wsr (oM rfl (oM rfl ?_))))))))
  refine zz h fun q45 h => oV (zaF rfl rfl q45) (zal h fun q46 h => oV (zo2 rfl rfl q46) (oV (zbo rfl rfl) (oM rfl (zau (jb 44) je .nil h 5 rfl (fun q47 g47 h => ?_) (fun J48 h hJ48 => ?_)))))
  ·refine oM rfl (zau (jb 51) je .nil h 6 rfl (fun q51 g51 h => ?_) (fun J52 h hJ52 => ?_))
   ·refine rnf (zg h rfl (fun _ h => ?_) (fun _ h => ?_))
    ·refine wsr (oA rfl (oA rfl (rnf (zJ (zA ?_)))))
     cases h
     exact zk (.tmp rfl (.tmp rfl .nil)) .nil ⟨rfl, rfl⟩
    refine wkf (zj (zS (.v 0 (.v 1 (.v 2 (.v 3 (.v 4 (.v 5 (.v 6 (.v 7 .nil)))))))) moOrd (by kernel_rfl) ?_))
    refine rvm rfl rfl (zz h fun q56 h => zo rfl (zaa rfl rfl q56) (rvm rfl rfl (rvm rfl rfl (rvm rfl rfl (zI h fun q57 h => zo rfl (ziC st9 rfl (.inr ⟨_, rfl, rfl⟩) (.inr ⟨_, rfl, rfl⟩) q57.1 q57.2.1 q57.2.2) (zo rfl (zaP rfl) ?_))))))
    refine zo rfl (zaP rfl) (zab (zx (zJ ?_)))
    cases h
    exact zk (.tmp rfl (.tmp rfl .nil)) .nil ⟨rfl, rfl⟩
   refine zB (j := 45) h rfl (fun g53 h => ?_) (fun g53 h => ?_)
   ·exact oP 45 rfl rfl g53 (oP 45 rfl rfl g53 (oP 45 rfl rfl g53 (oP 45 rfl rfl g53 (oP 45 rfl rfl g53 (oV (zs rfl g53 rfl) (hJ52 _ () h _ (ji 6 51 rfl rfl rfl)))))))
   exact oK 45 rfl rfl rfl g53 (zt rfl) (oK 45 rfl rfl rfl g53 (zt rfl) (zz h fun q54 h => oK 45 rfl rfl rfl g53 (zaa rfl rfl q54) (zb h fun y55 hy55 h => zaD rfl rfl (dj := 45) rfl g53 (zy (zeF hy55) hT (s2 rfl rfl) .nil (oK 45 rfl rfl rfl g53 (zjG eq5 rfl rfl) (oV (zr rfl g53 rfl) (hJ52 _ () h _ (ji 6 51 rfl rfl rfl))))))))
  refine zB (j := 39) h rfl (fun g49 h => ?_) (fun g49 h => ?_)
  ·exact oP 39 rfl rfl g49 (oP 39 rfl rfl g49 (oP 39 rfl rfl g49 (oP 39 rfl rfl g49 (oV (zs rfl g49 rfl) (hJ48 _ () h _ (ji 5 44 rfl rfl rfl))))))
  exact oK 39 rfl rfl rfl g49 (zt rfl) (oK 39 rfl rfl rfl g49 (zt rfl) (zb h fun y50 hy50 h => zaD rfl rfl (dj := 39) rfl g49 (zy (zeF hy50) hT (s2 rfl rfl) .nil (oK 39 rfl rfl rfl g49 (zjG eq5 rfl rfl) (oV (zr rfl g49 rfl) (hJ48 _ () h _ (ji 5 44 rfl rfl rfl)))))))
 refine zB (j := 14) h rfl (fun g33 h => ?_) (fun g33 h => ?_)
 ·refine oK 14 rfl rfl rfl g33 (zt rfl) (oK 14 rfl rfl rfl g33 (zt rfl) (zb h fun y34 hy34 h => oK 14 rfl rfl rfl g33 (zbM y34 st9 rfl rfl hy34) (zb h fun y35 hy35 h => zaD rfl rfl (dj := 14) rfl g33 (zy (zeG hy35) hT (s1 rfl) .nil (oK 14 rfl rfl rfl g33 (zt rfl) (zau (jb 30) je .nil h 11 rfl (fun q36 g36 h => ?_) (fun J37 h hJ37 => ?_)))))))
  ·exact oV (zs rfl g33 rfl) (hJ32 _ () h _ (ji 7 31 rfl rfl rfl))
  refine zB (j := 19) h rfl (fun g38 h => ?_) (fun g38 h => ?_)
  ·refine oP 19 rfl rfl g38 (oP 19 rfl rfl g38 (oP 19 rfl rfl g38 (oP 19 rfl rfl g38 (oP 19 rfl rfl g38 (zC rfl (dj := 24) rfl (zC rfl (dj := 24) rfl (zC rfl (dj := 24) rfl (zC rfl (dj := 24) rfl ?_))))))))
   exact oP 19 rfl rfl g38 (oK 14 rfl rfl rfl g33 (zs rfl g38 rfl) (hJ37 _ () h _ (ji 11 30 rfl rfl rfl)))
  refine oK 19 rfl rfl rfl g38 (zt rfl) (oK 19 rfl rfl rfl g38 (zt rfl) (zb h fun y39 hy39 h => oK 19 rfl rfl rfl g38 (zbM y39 st9 rfl rfl hy39) (oK 19 rfl rfl rfl g38 (ziP rfl rfl) (oK 19 rfl rfl rfl g38 (zt rfl) (zau (jb 29) je .nil h 5 rfl (fun q40 g40 h => ?_) (fun J41 h hJ41 => ?_))))))
  ·exact oK 14 rfl rfl rfl g33 (zr rfl g38 rfl) (hJ37 _ () h _ (ji 7 30 rfl rfl rfl))
  refine zB (j := 24) h rfl (fun g42 h => ?_) (fun g42 h => ?_)
  ·exact oK 24 rfl rfl rfl g42 (zt rfl) (oK 24 rfl rfl rfl g42 (zt rfl) (zb h fun y43 hy43 h => oK 24 rfl rfl rfl g42 (zbM y43 st9 rfl rfl hy43) (oK 24 rfl rfl rfl g42 (zi7 rfl rfl) (oK 19 rfl rfl rfl g38 (zs rfl g42 rfl) (hJ41 _ () h _ (ji 5 29 rfl rfl rfl))))))
  exact oP 24 rfl rfl g42 (oP 24 rfl rfl g42 (oP 24 rfl rfl g42 (oP 24 rfl rfl g42 (oK 19 rfl rfl rfl g38 (zr rfl g42 rfl) (hJ41 _ () h _ (ji 5 29 rfl rfl rfl))))))
 refine oP 14 rfl rfl g33 (oP 14 rfl rfl g33 (oP 14 rfl rfl g33 (oP 14 rfl rfl g33 (oP 14 rfl rfl g33 (zC rfl (dj := 19) rfl (zC rfl (dj := 19) rfl (zC rfl (dj := 19) rfl (zC rfl (dj := 19) rfl ?_))))))))
 exact zC rfl (dj := 19) rfl (zC rfl (dj := 24) rfl (zC rfl (dj := 24) rfl (zC rfl (dj := 24) rfl (zC rfl (dj := 24) rfl (zC rfl (dj := 19) rfl (oP 14 rfl rfl g33 (oV (zr rfl g33 rfl) (hJ32 _ () h _ (ji 17 31 rfl rfl rfl)))))))))


theorem zkn : ∀ {a_s : Str} {a_i : Int} {r : Int × Str}, zdO a_s a_i = some r → Ctr Tryz.prog 143 [isv (a_s), isv (a_i)] [] (fun R H => R = oneOf [isv (r.1), isv (r.2)] ∧ H = []) := by
 intro a_s a_i r h
 unfold zdO at h
 refine zp Tryz.func143 rfl fun w0 S0 hT => wsr (oA rfl (oA rfl (rnf (wsr (oA rfl (rnf (zj ?_)))))))
 refine wsr (oM rfl (zz h fun q1 h => oV (zaa rfl rfl q1) (oA rfl (rnf (zq (zaN (ι := Int × Str) (γ := Unit) (fun q2 g2 => [(1, isv (q2.1)), (6, isv (q2.2))]) (fun q2 g2 => []) h () (za (j := 1) rfl hI (za (j := 6) rfl hI zd)) .nil (fun L3 q2 g2 Q30 h hL3 eL3 rL3 => zj ?_)))))))
 refine wsr (oM rfl (oM rfl (oV (zdJ st9 rfl) (oV (zaj rfl rfl) (rnf (zg h rfl (fun _ h => ?_) (fun _ h => ?_)))))))
 ·refine wkf (zj (zdB (ι := Int × Str) (γ := Unit) (fun q17 g17 => [(1, isv (q17.1)), (6, isv (q17.2))]) (fun q17 g17 => []) .nil h (fun q17 g17 h => ?_) (fun J18 h hJ18 => ?_)))
  ·exact zh (oM rfl (zz h fun q29 h => oV (zaa rfl rfl q29) (oA rfl (zw (hL3 _ () h _ (ze 11 rfl rfl (za (j := 1) rfl hI (za (j := 6) rfl hI zd)) .nil))))))
  refine zq (zj (wsr (oM rfl (oM rfl (zb h fun y19 hy19 h => oV (zbM y19 st9 rfl rfl hy19) (oV (zjG eq5 rfl rfl) (rnf ?_)))))))
  refine zg h rfl (fun _ h => ?_) (fun _ h => ?_)
  ·refine wsr (oM rfl (oM rfl (oM rfl (oM rfl (zz h fun q20 h => oV (zaa rfl rfl q20) (zI h fun q21 h => oV (ziC st9 rfl (.inr ⟨_, rfl, rfl⟩) (.inr ⟨_, rfl, rfl⟩) q21.1 q21.2.1 q21.2.2) ?_))))))
   exact zal h fun q22 h => oV (zoO rfl rfl q22) (oA rfl (rnf (zad (zU (zE (hJ18 _ () h _ (ze 12 rfl rfl (za (j := 1) rfl hI (za (j := 6) rfl hI zd)) .nil)))))))
  refine wkf (zj (wsr (oM rfl (oM rfl (zz h fun q23 h => oV (zaa rfl rfl q23) (zb h fun y24 hy24 h => oT (zy (zeF hy24) hT (s2 rfl rfl) .nil ?_)))))))
  refine oV (zjG eq5 rfl rfl) (rnf (zg h rfl (fun _ h => ?_) (fun _ h => ?_)))
  ·refine zj (wsr (oM rfl (zb h fun y25 hy25 h => oT (zy (zhr hy25) hT (s1 rfl) .nil (oV (zbq rfl) (rnf (zg h rfl (fun _ h => ?_) (fun _ h => ?_))))))))
   ·refine wsr (oA rfl (oA rfl (rnf (zJ (zA (zA (zH (zA ?_))))))))
    refine rL3 _ (zH (zA ?_))
    cases h
    exact zk (.tmp rfl (.tmp rfl .nil)) .nil ⟨rfl, rfl⟩
   refine wkf (wsr (oM rfl (zz h fun q26 h => oV (zaa rfl rfl q26) (oM rfl (oA rfl (oA rfl (rnf ?_)))))))
   refine zJ (zA (zH (zA (rL3 _ (zH (zA ?_))))))
   cases h
   exact zk (.tmp rfl (.tmp rfl .nil)) .nil ⟨rfl, rfl⟩
  refine wkf (wsr (oM rfl (zal h fun q27 h => oV (zoO rfl rfl q27) (oA rfl (rnf (zh (oM rfl ?_)))))))
  exact zz h fun q28 h => oV (zaa rfl rfl q28) (oA rfl (zw (zi (hJ18 _ () h _ (ze 15 rfl rfl (za (j := 1) rfl hI (za (j := 6) rfl hI zd)) .nil)))))
 refine zad (zU (eL3 _ _ (zE (zx (wsr (oA rfl (oA rfl (rnf ?_))))))))
 refine zJ ?_
 cases h
 exact zk (.tmp rfl (.tmp rfl .nil)) .nil ⟨rfl, rfl⟩


theorem zlz : ∀ {a_s : Str} {a_i : Int} {r : Int}, zfb a_s a_i = some r → Ctr Tryz.prog 144 [isv (a_s), isv (a_i)] [] (fun R H => R = oneOf [isv (r)] ∧ H = []) := by
 intro a_s a_i r h
 unfold zfb at h
 refine zp Tryz.func144 rfl fun w0 S0 hT => wsr (oA rfl (rnf (wsr (oM rfl (oM rfl (zI h fun q1 h => oV (ziC st9 rfl (.inr ⟨_, rfl, rfl⟩) (.inl ⟨rfl, rfl⟩) q1.1 q1.2.1 q1.2.2) ?_))))))
 refine oA rfl (rnf (wsr (oT (zY (l := ([(Str.mk [58, 58, 61]), (Str.mk [46, 46, 46]), (Str.mk [46, 46]), (Str.mk [91, 91]), (Str.mk [93, 93]), (Str.mk [123]), (Str.mk [125]), (Str.mk [91]), (Str.mk [93]), (Str.mk [40]), (Str.mk [41]), (Str.mk [44]), (Str.mk [58])] : (List Str))) el22 (.cons rfl hI (.cons rfl hI (.cons rfl hI (.cons rfl hI (.cons rfl hI (.cons rfl hI (.cons rfl hI (.cons rfl hI (.cons rfl hI (.cons rfl hI (.cons rfl hI (.cons rfl hI (.cons rfl hI .nil))))))))))))) rfl rfl (oA rfl (rnf (zj (wsr (oA rfl ?_)))))))))
 refine rnf (zq (zaN (ι := Int) (γ := Unit) (fun q3 g3 => [(7, isv (q3))]) (fun q3 g3 => []) h () (za (j := 7) rfl hI zd) .nil (fun L4 q3 g3 Q19 h hL4 eL4 rL4 => zj (wsr (oM rfl (oM rfl (oV (zaR (l := ([(Str.mk [58, 58, 61]), (Str.mk [46, 46, 46]), (Str.mk [46, 46]), (Str.mk [91, 91]), (Str.mk [93, 93]), (Str.mk [123]), (Str.mk [125]), (Str.mk [91]), (Str.mk [93]), (Str.mk [40]), (Str.mk [41]), (Str.mk [44]), (Str.mk [58])] : (List Str))) rfl zF sl22) (oV (zaj rfl rfl) ?_))))))))
 refine rnf (zg h rfl (fun _ h => ?_) (fun _ h => ?_))
 ·refine wkf (zj (zq (wsr (oM rfl (oM rfl (zb h fun y12 hy12 h => oV (zaz (l := ([(Str.mk [58, 58, 61]), (Str.mk [46, 46, 46]), (Str.mk [46, 46]), (Str.mk [91, 91]), (Str.mk [93, 93]), (Str.mk [123]), (Str.mk [125]), (Str.mk [91]), (Str.mk [93]), (Str.mk [40]), (Str.mk [41]), (Str.mk [44]), (Str.mk [58])] : (List Str))) rfl zF rfl sl22 hy12) (oV (zf ty9 rfl) ?_)))))))
  refine oV (zdJ st9 rfl) (oA rfl (rnf (zj (zS (.v 0 (.v 1 (.v 2 (.v 3 (.v 4 (.v 5 (.v 6 (.v 7 (.v 8 (.v 9 (.v 10 (.v 11 (.v 12 (.v 13 .nil)))))))))))))) moOrd (by kernel_rfl) ?_))))
  refine rvm rfl rfl (zo rfl (zdJ st9 rfl) (rvm rfl rfl (zo rfl (zeV rfl rfl) (rvm rfl rfl (zc8 (jb 37) je .nil h 9 rfl (fun q13 g13 h => ?_) (fun J14 h hJ14 => ?_))))))
  ·refine zab (zx (zg h rfl (fun _ h => ?_) (fun _ h => ?_)))
   ·refine wsr (oM rfl (oA rfl (rnf (zJ (zH (zA (rL4 _ (zH ?_))))))))
    refine zA ?_
    cases h
    exact zk (.tmp rfl .nil) .nil ⟨rfl, rfl⟩
   refine zac (zi (zx (zh (oM rfl (zz h fun q18 h => oV (zaa rfl rfl q18) (oA rfl (zw ?_)))))))
   exact hL4 _ () h _ (ji 20 7 rfl rfl rfl)
  refine zaA (j := 28) h rfl (fun g15 h => ?_) (fun g15 h => ?_)
  ·refine rvt 28 rfl rfl rfl g15 (zt rfl) (rvt 28 rfl rfl rfl g15 (zt rfl) (zI h fun q16 h => rvt 28 rfl rfl rfl g15 (ziC st9 rfl (.inl ⟨rfl, rfl⟩) (.inr ⟨_, rfl, rfl⟩) q16.1 q16.2.1 q16.2.2) (rvt 28 rfl rfl rfl g15 (zt rfl) (rvt 28 rfl rfl rfl g15 (zt rfl) (zb h fun y17 hy17 h => rvt 28 rfl rfl rfl g15 (zaz (l := ([(Str.mk [58, 58, 61]), (Str.mk [46, 46, 46]), (Str.mk [46, 46]), (Str.mk [91, 91]), (Str.mk [93, 93]), (Str.mk [123]), (Str.mk [125]), (Str.mk [91]), (Str.mk [93]), (Str.mk [40]), (Str.mk [41]), (Str.mk [44]), (Str.mk [58])] : (List Str))) rfl zF rfl sl22 hy17) (rvt 28 rfl rfl rfl g15 (zf ty9 rfl) ?_))))))
   exact rvt 28 rfl rfl rfl g15 (zcz eq9 rfl rfl) (zo rfl (zs rfl g15 rfl) (hJ14 _ () h _ (ji 9 37 rfl rfl rfl)))
  refine rpv 28 rfl rfl rfl g15 (rpv 28 rfl rfl rfl g15 (rpv 28 rfl rfl rfl g15 (rpv 28 rfl rfl rfl g15 (rpv 28 rfl rfl rfl g15 (rpv 28 rfl rfl rfl g15 (rpv 28 rfl rfl rfl g15 (rpv 28 rfl rfl rfl g15 (zo rfl (zr rfl g15 rfl) ?_))))))))
  exact hJ14 _ () h _ (ji 9 37 rfl rfl rfl)
 refine zad (zU (eL4 _ _ (zE (zx (wsr (oA rfl (rnf (zJ ?_))))))))
 cases h
 exact zk (.tmp rfl .nil) .nil ⟨rfl, rfl⟩


theorem zmX : ∀ {a_s : Str} {a_i : Int} {r : GTok × Int}, zgp a_s a_i = some r → Ctr Tryz.prog 103 [isv (a_s), isv (a_i)] [] (fun R H => R = oneOf [isv (r.1), isv (r.2)] ∧ H = []) := by
 intro a_s a_i r h
 unfold zgp at h
 refine zp Tryz.func103 rfl fun w0 S0 hT => wsr (oT (zaf _ ze133 fun b1 => oA rfl (rnf (wsr (oM rfl (oV (zaC (z := (GTok.mk (0 : Int) (Str.mk []) a_i)) rfl bu133 ze133 (.cons GTok.f2 zjU rfl hI .nil)) (oT (zaf _ ze133 fun b2 => ?_))))))))
 refine oT (zm (y' := ((GTok.mk (0 : Int) (Str.mk []) a_i) : GTok)) ty133 rfl rfl hI .here rfl (rnf (wsr (oM rfl (oM rfl (zb h fun y3 hy3 h => oV (zbM y3 st9 rfl rfl hy3) (oA rfl (rnf ?_))))))))
 refine wsr (oA rfl (rnf (zj (zdB (ι := Int × GTok) (γ := Unit) (fun q4 g4 => [(8, isv (q4.1))]) (fun q4 g4 => [boxE b2 (q4.2 : GTok)]) k1 h (fun q4 g4 h => ?_) (fun J5 h hJ5 => ?_)))))
 ·refine wsr (oT (zM (R := isv (q4.2)) ty133 rfl .here hI (oM rfl (oT (zm (y' := (q4.2 : GTok)) ty133 rfl rfl hI tH rfl (oA rfl (rnf (zJ ?_))))))))
  cases h
  exact zk (.cell rfl .here ty133 (.tmp rfl .nil)) .nil ⟨rfl, rfl⟩
 refine zq (wsr (oM rfl (zb h fun y6 hy6 h => oT (zy (zgg hy6) hT (s1 rfl) .nil (oA rfl (rnf (zg h rfl (fun _ h => ?_) (fun _ h => ?_))))))))
 ·refine wsr (oM rfl (oM rfl (zb h fun y7 hy7 h => oT (zy (zlA hy7) hT (s2 rfl rfl) .nil (oA rfl (rnf (zj (wsr ?_))))))))
  refine oM rfl (oV (zaj rfl rfl) (rnf (zg h rfl (fun _ h => ?_) (fun _ h => ?_))))
  ·refine wsr (oT (zM (R := isv ((GTok.mk (0 : Int) (Str.mk []) a_i))) ty133 rfl .here hI (oT (zm (y' := ((GTok.mk (0 : Int) (Str.mk []) a_i) : GTok)) ty133 rfl rfl hI tH rfl (oA rfl (rnf (zJ (zA (zH (zA ?_))))))))))
   cases h
   exact zk (.cell rfl .here ty133 (.tmp rfl .nil)) .nil ⟨rfl, rfl⟩
  refine wkf (zj (zS (.v 0 (.v 1 (.v 2 (.v 3 (.v 4 (.t 5 (.v 6 (.t 7 .nil)))))))) moOrd (by kernel_rfl) ?_))
  refine rvm rfl rfl (rvm rfl rfl (rvm rfl rfl (zI h fun q8 h => zo rfl (ziC st9 rfl (.inr ⟨_, rfl, rfl⟩) (.inr ⟨_, rfl, rfl⟩) q8.1 q8.2.1 q8.2.2) (zo rfl (zag rfl GTok.f0 zb5) (zR rfl rfl (zm (y' := ((GTok.mk (2 : Int) (Str.mk []) a_i) : GTok)) ty3 rfl rfl hI .here rfl (zo rfl (zag rfl GTok.f1 zdd) (zR rfl rfl (zm (y' := ((GTok.mk (2 : Int) (Str.mk ((a_s.b.take (y7).toNat).drop (a_i).toNat)) a_i) : GTok)) ty9 rfl rfl hI .here rfl ?_)))))))))
  refine zab (zx (zj (wsr (oM rfl (oV (zi7 rfl rfl) (rnf (zdB (ι := GTok) (γ := Unit) (fun q9 g9 => []) (fun q9 g9 => [boxE b2 (q9 : GTok)]) k1 h (fun q9 g9 h => ?_) (fun J10 h hJ10 => ?_))))))))
  ·refine wsr (oV (zag rfl GTok.f1 zdd) (oT (zM (R := isv (q9.text)) ty9 rfl .here hI (zb h fun y11 hy11 h => oT (zy (zlO hy11) hT (s1 rfl) .nil (rnf (zg h rfl (fun _ h => ?_) (fun _ h => ?_))))))))
   ·exact zh (oV (zag rfl GTok.f0 zb5) (oT (zm (y' := ({ q9 with kind := (5 : Int) } : GTok)) ty3 rfl rfl hI .here rfl (zw (zi (hJ5 _ () h _ (ze 21 rfl rfl (za (j := 8) rfl hI zd) k2)))))))
   exact zac (zi (hJ5 _ () h _ (ze 20 rfl rfl (za (j := 8) rfl hI zd) k2)))
  refine zg h rfl (fun _ h => ?_) (fun _ h => ?_)
  ·exact zh (oV (zag rfl GTok.f0 zb5) (oT (zm (y' := ((GTok.mk (1 : Int) (Str.mk ((a_s.b.take (y7).toNat).drop (a_i).toNat)) a_i) : GTok)) ty3 rfl rfl hI .here rfl (zw (hJ10 _ () h _ (ze 1 rfl rfl zd k2))))))
  exact zac (hJ10 _ () h _ (ze 0 rfl rfl zd k2))
 refine wsr (oM rfl (zb h fun y12 hy12 h => oT (zy (zeG hy12) hT (s1 rfl) .nil (oM rfl (zau (jb 66) je .nil h 10 rfl (fun q13 g13 h => ?_) (fun J14 h hJ14 => ?_))))))
 ·refine oA rfl (rnf (zg h rfl (fun _ h => ?_) (fun _ h => ?_)))
  ·refine wsr (oM rfl (oM rfl (zb h fun y22 hy22 h => oT (zy (zkz hy22) hT (s2 rfl rfl) .nil (oA rfl (rnf (zj (wsr ?_))))))))
   refine oM rfl (oV (zaj rfl rfl) (rnf (zg h rfl (fun _ h => ?_) (fun _ h => ?_))))
   ·refine wsr (oT (zM (R := isv ((GTok.mk (0 : Int) (Str.mk []) a_i))) ty133 rfl .here hI (oT (zm (y' := ((GTok.mk (0 : Int) (Str.mk []) a_i) : GTok)) ty133 rfl rfl hI tH rfl (oA rfl (rnf (zJ (zA (zH (zA ?_))))))))))
    cases h
    exact zk (.cell rfl .here ty133 (.tmp rfl .nil)) .nil ⟨rfl, rfl⟩
   refine wkf (zS (.v 0 (.v 1 (.v 2 (.v 3 (.v 4 (.t 5 (.v 6 (.t 7 .nil)))))))) moOrd (by kernel_rfl) ?_)
   refine rvm rfl rfl (rvm rfl rfl (rvm rfl rfl (zI h fun q23 h => zo rfl (ziC st9 rfl (.inr ⟨_, rfl, rfl⟩) (.inr ⟨_, rfl, rfl⟩) q23.1 q23.2.1 q23.2.2) (zo rfl (zag rfl GTok.f0 zb5) (zR rfl rfl (zm (y' := ((GTok.mk (3 : Int) (Str.mk []) a_i) : GTok)) ty3 rfl rfl hI .here rfl (zo rfl (zag rfl GTok.f1 zdd) (zR rfl rfl (zm (y' := ((GTok.mk (3 : Int) (Str.mk ((a_s.b.take (y22).toNat).drop (a_i).toNat)) a_i) : GTok)) ty9 rfl rfl hI .here rfl ?_)))))))))
   exact zab (zi (hJ5 _ () h _ (ze 20 rfl rfl (za (j := 8) rfl hI zd) k2)))
  refine wsr (oM rfl (oV (zcz eq5 rfl rfl) (oA rfl (rnf (zg h rfl (fun _ h => ?_) (fun _ h => ?_))))))
  ·refine wsr (oV (zag rfl GTok.f0 zb5) (oT (zm (y' := ((GTok.mk (4 : Int) (Str.mk []) a_i) : GTok)) ty3 rfl rfl hI .here rfl (rnf (zh (oM rfl (oM rfl (zb h fun y24 hy24 h => oT (zy (zmp hy24) hT (s2 rfl rfl) .nil ?_)))))))))
   exact oM rfl (oV (zaB rfl rfl) (oV (zaB rfl rfl) (oA rfl (oV (zag rfl GTok.f1 zdd) (oT (zm (y' := ((GTok.mk (4 : Int) y24.2 a_i) : GTok)) ty9 rfl rfl hI .here rfl (zw (zi (hJ5 _ () h _ (ze 20 rfl rfl (za (j := 8) rfl hI zd) k2))))))))))
  refine wsr (oM rfl (oV (zcz eq5 rfl rfl) (oA rfl (rnf (zg h rfl (fun _ h => ?_) (fun _ h => ?_))))))
  ·refine wsr (oV (zag rfl GTok.f0 zb5) (oT (zm (y' := ((GTok.mk (7 : Int) (Str.mk []) a_i) : GTok)) ty3 rfl rfl hI .here rfl (rnf (zh (oM rfl (oM rfl (zb h fun y25 hy25 h => oT (zy (zkn hy25) hT (s2 rfl rfl) .nil ?_)))))))))
   exact oM rfl (oV (zaB rfl rfl) (oV (zaB rfl rfl) (oA rfl (oV (zag rfl GTok.f1 zdd) (oT (zm (y' := ((GTok.mk (7 : Int) y25.2 a_i) : GTok)) ty9 rfl rfl hI .here rfl (zw (zi (hJ5 _ () h _ (ze 23 rfl rfl (za (j := 8) rfl hI zd) k2))))))))))
  refine wsr (oM rfl (oM rfl (zb h fun y26 hy26 h => oT (zy (zlz hy26) hT (s2 rfl rfl) .nil (oA rfl (rnf (wsr (oM rfl ?_))))))))
  refine oV (zbu rfl rfl) (rnf (zg h rfl (fun _ h => ?_) (fun _ h => ?_)))
  ·refine zS (.v 0 (.v 1 (.v 2 (.v 3 (.v 4 (.v 5 (.v 6 (.v 7 (.v 8 (.v 9 (.t 10 (.v 11 (.t 12 (.v 13 .nil)))))))))))))) moOrd (by kernel_rfl) ?_
   refine rvm rfl rfl (rvm rfl rfl (rvm rfl rfl (rvm rfl rfl (zz h fun q27 h => zo rfl (zaa rfl rfl q27) (zI h fun q28 h => zo rfl (ziC st9 rfl (.inr ⟨_, rfl, rfl⟩) (.inr ⟨_, rfl, rfl⟩) q28.1 q28.2.1 q28.2.2) (rvm rfl rfl ?_))))))
   refine rvm rfl rfl (zz h fun q29 h => zo rfl (zaa rfl rfl q29) (zo rfl (zag rfl GTok.f0 zb5) (zR rfl rfl (zm (y' := ((GTok.mk (6 : Int) (Str.mk []) a_i) : GTok)) ty3 rfl rfl hI .here rfl (zo rfl (zag rfl GTok.f1 zdd) (zR rfl rfl (zm (y' := ((GTok.mk (6 : Int) (Str.mk ((a_s.b.take ((a_i + y26)).toNat).drop (a_i).toNat)) a_i) : GTok)) ty9 rfl rfl hI .here rfl (zo rfl (zaP rfl) (zab ?_)))))))))
   exact zi (hJ5 _ () h _ (ze 32 rfl rfl (za (j := 8) rfl hI zd) k2))
  exact zac (zi (hJ5 _ () h _ (ze 20 rfl rfl (za (j := 8) rfl hI zd) k2)))
 refine zB (j := 56) h rfl (fun g15 h => ?_) (fun g15 h => ?_)
 ·refine oP 56 rfl rfl g15 (oP 56 rfl rfl g15 (oP 56 rfl rfl g15 (zC rfl (dj := 59) rfl (zC rfl (dj := 59) rfl (zC rfl (dj := 59) rfl (zC rfl (dj := 59) rfl (zC rfl (dj := 59) rfl (oP 56 rfl rfl g15 ?_))))))))
  exact oV (zs rfl g15 rfl) (hJ14 _ () h _ (ze 10 rfl rfl (za (j := 66) rfl hI zd) k2))
 refine oK 56 rfl rfl rfl g15 (zt rfl) (oK 56 rfl rfl rfl g15 (zcz eq5 rfl rfl) (oK 56 rfl rfl rfl g15 (zt rfl) (zau (jb 65) je .nil h 6 rfl (fun q16 g16 h => ?_) (fun J17 h hJ17 => ?_))))
 ·exact oV (zr rfl g15 rfl) (hJ14 _ () h _ (ze 5 rfl rfl (za (j := 66) rfl hI zd) k2))
 refine zB (j := 59) h rfl (fun g18 h => ?_) (fun g18 h => ?_)
 ·refine oK 59 rfl rfl rfl g18 (zt rfl) (oK 59 rfl rfl rfl g18 (zt rfl) (zz h fun q19 h => oK 59 rfl rfl rfl g18 (zaa rfl rfl q19) (zb h fun y20 hy20 h => zaD rfl rfl (dj := 59) rfl g18 (zy (zeF hy20) hT (s2 rfl rfl) .nil (zb h fun y21 hy21 h => zaD rfl rfl (dj := 59) rfl g18 (zy (zeG hy21) hT (s1 rfl) .nil (oK 56 rfl rfl rfl g15 (zs rfl g18 rfl) ?_)))))))
  exact hJ17 _ () h _ (ze 6 rfl rfl (za (j := 65) rfl hI zd) k2)
 exact oP 59 rfl rfl g18 (oP 59 rfl rfl g18 (oP 59 rfl rfl g18 (oP 59 rfl rfl g18 (oP 59 rfl rfl g18 (oK 56 rfl rfl rfl g15 (zr rfl g18 rfl) (hJ17 _ () h _ (ze 6 rfl rfl (za (j := 65) rfl hI zd) k2)))))))


theorem zjX : ∀ {za0 : Str} {r : (List GTok) × Int × Int}, zdi za0 = some r → Ctr Tryz.prog 69 [isv (za0)] [] (fun R H => R = oneOf [isv (r.1), isv (r.2.1), isv (r.2.2)] ∧ H = []) := by
 intro za0 r h
 unfold zdi at h
 refine zp Tryz.func69 rfl fun w0 S0 hT => wsr (oA rfl (oA rfl (oA rfl (rnf (zj (wsr (oM rfl ?_)))))))
 refine oV (zdJ st9 rfl) (oV (zbu rfl rfl) (rnf (zg h rfl (fun _ h => ?_) (fun _ h => ?_))))
 ·refine wsr (oA rfl (oA rfl (oA rfl (rnf (zJ (zA ?_))))))
  cases h
  exact zk (.as rfl (zcv (α := GTok)) (.tmp rfl (.tmp rfl .nil))) .nil ⟨rfl, rfl⟩
 refine wkf (wsr (oA rfl (rnf (wsr (oA rfl (rnf (zq (zfH (zaI) ?_))))))))
 refine zaN (ι := (List GTok) × Int) (γ := Tok) (fun q1 g1 => [(5, appv g1 (q1.1)), (6, isv (q1.2))]) (fun q1 g1 => [tokE g1]) h (none) (za (j := 5) rfl zbn (za (j := 6) rfl hI zd)) k1 (fun L2 q1 g1 Q22 h hL2 eL2 rL2 => zq (wsr (oM rfl (oM rfl (zb h fun y12 hy12 h => oT (zy (zkL hy12) hT (s2 rfl rfl) .nil (oA rfl (rnf ?_))))))))
 refine zj (wsr (oM rfl (oM rfl (oV (zdJ st9 rfl) (oV (zeV rfl rfl) (rnf (zg h rfl (fun _ h => ?_) (fun _ h => ?_))))))))
 ·refine wsr (oM rfl (oM rfl (oV (zdJ st9 rfl) (oV (zaC (z := (GTok.mk (0 : Int) (Str.mk []) (za0.b.length : Int))) rfl bu133 ze133 (.cons GTok.f2 zjU rfl hI .nil)) (oT (zY (l := ([(GTok.mk (0 : Int) (Str.mk []) (za0.b.length : Int))] : (List GTok))) el124 (.cons rfl hI .nil) rfl rfl (zal h fun q15 h => oT (zaZ (l := q1.1) (m := ([(GTok.mk (0 : Int) (Str.mk []) (za0.b.length : Int))] : (List GTok))) zjy rfl hI rfl zF .here q15 fun t14 => oA rfl ?_))))))))
  refine oA rfl (oA rfl (rnf (zJ (zA (zH (rL2 _ (zH ?_)))))))
  cases h
  exact zk (.as rfl zF (.tmp rfl (.tmp rfl .nil))) .nil ⟨rfl, rfl⟩
 refine wkf (wsr (oM rfl (oM rfl (zb h fun y16 hy16 h => oT (zy (zmX hy16) hT (s2 rfl rfl) .nil (oM rfl (oV (zaB rfl rfl) (oV (zaB rfl rfl) ?_))))))))
 refine oT (zaf _ ze133 fun b17 => oT (zm (y' := (y16.1 : GTok)) ty133 rfl rfl hI .here rfl (zG (zaq 7 .here rfl) (oA rfl (rnf (zj (wsr (oM rfl (oV (zaj rfl rfl) ?_)))))))))
 refine rnf (zg h rfl (fun _ h => ?_) (fun _ h => ?_))
 ·refine wsr (oM rfl (oA rfl (oA rfl (oA rfl (rnf (zJ (zA (zH ?_))))))))
  refine rL2 _ (zH ?_)
  cases h
  exact zk (.as rfl (zcv (α := GTok)) (.tmp rfl (.tmp rfl .nil))) .nil ⟨rfl, rfl⟩
 refine wkf (wsr (oM rfl (oV (zf ty133 rfl) (oT (zY (l := ([y16.1] : (List GTok))) el124 (.cons rfl hI .nil) rfl rfl (zal h fun q20 h => oT (zaZ (l := q1.1) (m := ([y16.1] : (List GTok))) zjy rfl hI rfl zF .here q20 fun t19 => oA rfl (rnf ?_))))))))
 exact zh (oM rfl (oA rfl (zw (zi (hL2 _ (t19) h _ (ze 28 rfl rfl (za (j := 5) rfl hI (za (j := 6) rfl hI zd)) k1))))))


theorem zaK : ∀ {a_x : GPar} {zK : Nat} {t_a_x1 : Tok} {t_a_x2 : Tok} {zL : Vt} {r : GTok × GPar}, zav a_x = some r → Ctr Tryz.prog 73 [ptrv zK (Fld.id ((List GTok) × Int × (Str × Int × (TList Str) × (TList Int) × Vh) × Int × Int))] [boxE zK ((a_x.l, a_x.at_, (a_x.m.name, a_x.m.tagging, (TList.mk t_a_x1 a_x.m.names), (TList.mk t_a_x2 a_x.m.types), (Vh.mk zL a_x.m.nodes.length)), a_x.e, a_x.p) : ((List GTok) × Int × (Str × Int × (TList Str) × (TList Int) × Vh) × Int × Int)), tokE t_a_x1, tokE t_a_x2, vecE zL (a_x.m.nodes : List GNode)] (fun R H => ∃ u1 : Tok, ∃ u2 : Tok, R = oneOf [isv (r.1)] ∧ H = [boxE zK ((r.2.l, r.2.at_, (r.2.m.name, r.2.m.tagging, (TList.mk u1 r.2.m.names), (TList.mk u2 r.2.m.types), (Vh.mk zL r.2.m.nodes.length)), r.2.e, r.2.p)), tokE u1, tokE u2, vecE zL (r.2.m.nodes)]) := by
 intro a_x zK t_a_x1 t_a_x2 zL r h
 unfold zav at h
 refine zp Tryz.func73 rfl fun w0 S0 hT => wsr (oT (zaf _ ze133 fun b4 => rnf (zj (zc7 0 tH rfl (fun o5 hn6 => zS (.v 0 (.v 1 (.v 2 (.v 3 (.v 4 (.v 5 (.v 6 (.v 7 (.v 8 (.v 9 (.t 10 .nil))))))))))) moOrd (by kernel_rfl) ?_)))))
 refine rvm rfl rfl (zo rfl (zbx rfl) (zo rfl (zga rfl zg8 ziJ) (zo rfl (zdk (R := isv (a_x.l)) ty124 rfl (List.Mem.head _) hI) (rvm rfl rfl (zo rfl (zbx rfl) (zo rfl (zga rfl zf0 zh4) (zo rfl (zdk (R := isv (a_x.at_)) ty3 rfl (List.Mem.head _) hI) (zb h fun y7 hy7 h => ?_))))))))
 refine zo rfl (zaz (l := a_x.l) rfl hI rfl sl124 hy7) (zo rfl (zf ty133 rfl) (zR rfl rfl (zm (y' := (y7 : GTok)) ty133 rfl rfl hI .here rfl (zab (zaO 0 hn6 rfl (zx (zJ (zk (.cell rfl tH ty133 .nil) (.cons .here (.cons tH (.cons tH (.cons tH .nil)))) ?_))))))))
 cases h
 exact ⟨t_a_x1, t_a_x2, rfl, rfl⟩


theorem za9 : ∀ {a_x : GPar} {a_e : Int} {a_t : GTok} {zK : Nat} {t_a_x1 : Tok} {t_a_x2 : Tok} {zL : Vt} {r : GPar}, zaE a_x a_e a_t = some r → Ctr Tryz.prog 74 [ptrv zK (Fld.id ((List GTok) × Int × (Str × Int × (TList Str) × (TList Int) × Vh) × Int × Int)), isv (a_e), isv (a_t)] [boxE zK ((a_x.l, a_x.at_, (a_x.m.name, a_x.m.tagging, (TList.mk t_a_x1 a_x.m.names), (TList.mk t_a_x2 a_x.m.types), (Vh.mk zL a_x.m.nodes.length)), a_x.e, a_x.p) : ((List GTok) × Int × (Str × Int × (TList Str) × (TList Int) × Vh) × Int × Int)), tokE t_a_x1, tokE t_a_x2, vecE zL (a_x.m.nodes : List GNode)] (fun R H => ∃ u1 : Tok, ∃ u2 : Tok, R = oneOf [] ∧ H = [boxE zK ((r.l, r.at_, (r.m.name, r.m.tagging, (TList.mk u1 r.m.names), (TList.mk u2 r.m.types), (Vh.mk zL r.m.nodes.length)), r.e, r.p)), tokE u1, tokE u2, vecE zL (r.m.nodes)]) := by
 intro a_x a_e a_t zK t_a_x1 t_a_x2 zL r h
 unfold zaE at h
 refine zp Tryz.func74 rfl fun w0 S0 hT => wsr (oT (zaV (y := a_t) rfl hI (rnf (wsr (oM rfl (oV (zu rfl) (oV (zag rfl zbm zch) (oT (zM (R := isv (a_x.e)) ty65 rfl .here hI ?_)))))))))
 refine oV (zao rfl rfl) (rnf (zg h rfl (fun _ h => ?_) (fun _ h => ?_)))
 ·refine zS (.v 0 (.v 1 (.v 2 (.v 3 (.v 4 (.v 5 (.v 6 (.t 7 (.v 8 (.v 9 (.t 10 .nil))))))))))) moOrd (by kernel_rfl) ?_
  refine rvm rfl rfl (rvm rfl rfl (rvm rfl rfl (zo rfl (zW rfl GTok.f2 zjU rfl (z := a_t.at_)) (zo rfl (zf ty3 rfl) (zo rfl (zu rfl) (zo rfl (zag rfl zbm zch) (zR rfl rfl (zm (y' := ((a_x.l, a_x.at_, (a_x.m.name, a_x.m.tagging, (TList.mk t_a_x1 a_x.m.names), (TList.mk t_a_x2 a_x.m.types), (Vh.mk zL a_x.m.nodes.length)), a_e, a_x.p) : ((List GTok) × Int × (Str × Int × (TList Str) × (TList Int) × Vh) × Int × Int))) ty65 rfl rfl hI .here rfl (zo rfl (zu rfl) ?_)))))))))
  refine zo rfl (zag rfl zjH zl5) (zR rfl rfl (zm (y' := ((a_x.l, a_x.at_, (a_x.m.name, a_x.m.tagging, (TList.mk t_a_x1 a_x.m.names), (TList.mk t_a_x2 a_x.m.types), (Vh.mk zL a_x.m.nodes.length)), a_e, a_t.at_) : ((List GTok) × Int × (Str × Int × (TList Str) × (TList Int) × Vh) × Int × Int))) ty3 rfl rfl hI .here rfl (zab (zan .nil k4 ?_))))
  cases h
  exact ⟨t_a_x1, t_a_x2, rfl, rfl⟩
 refine zac (zan .nil k4 ?_)
 cases h
 exact ⟨t_a_x1, t_a_x2, rfl, rfl⟩


theorem zbz : ∀ {a_x : GPar} {zK : Nat} {t_a_x1 : Tok} {t_a_x2 : Tok} {zL : Vt} {r : GTok × GPar}, za2 a_x = some r → Ctr Tryz.prog 104 [ptrv zK (Fld.id ((List GTok) × Int × (Str × Int × (TList Str) × (TList Int) × Vh) × Int × Int))] [boxE zK ((a_x.l, a_x.at_, (a_x.m.name, a_x.m.tagging, (TList.mk t_a_x1 a_x.m.names), (TList.mk t_a_x2 a_x.m.types), (Vh.mk zL a_x.m.nodes.length)), a_x.e, a_x.p) : ((List GTok) × Int × (Str × Int × (TList Str) × (TList Int) × Vh) × Int × Int)), tokE t_a_x1, tokE t_a_x2, vecE zL (a_x.m.nodes : List GNode)] (fun R H => ∃ u1 : Tok, ∃ u2 : Tok, R = oneOf [isv (r.1)] ∧ H = [boxE zK ((r.2.l, r.2.at_, (r.2.m.name, r.2.m.tagging, (TList.mk u1 r.2.m.names), (TList.mk u2 r.2.m.types), (Vh.mk zL r.2.m.nodes.length)), r.2.e, r.2.p)), tokE u1, tokE u2, vecE zL (r.2.m.nodes)]) := by
 intro a_x zK t_a_x1 t_a_x2 zL r h
 unfold za2 at h
 refine zp Tryz.func104 rfl fun w0 S0 hT => wsr (oT (zaf _ ze133 fun b4 => rnf (zj (zc7 0 tH rfl (fun o5 hn6 => zS (.v 0 (.v 1 (.v 2 (.v 3 (.v 4 (.v 5 (.v 6 (.v 7 (.v 8 (.v 9 (.t 10 (.t 11 .nil)))))))))))) moOrd (by kernel_rfl) ?_)))))
 refine rvm rfl rfl (zo rfl (zbx rfl) (zo rfl (zga rfl zg8 ziJ) (zo rfl (zdk (R := isv (a_x.l)) ty124 rfl (List.Mem.head _) hI) (rvm rfl rfl (zo rfl (zbx rfl) (zo rfl (zga rfl zf0 zh4) (zo rfl (zdk (R := isv (a_x.at_)) ty3 rfl (List.Mem.head _) hI) (zb h fun y7 hy7 h => ?_))))))))
 refine zo rfl (zaz (l := a_x.l) rfl hI rfl sl124 hy7) (zo rfl (zf ty133 rfl) (zR rfl rfl (zaf _ ze133 fun b8 => zR rfl rfl (zm (y' := (y7 : GTok)) ty133 rfl rfl hI .here rfl (zbg (zaq 3 .here rfl) (zab (zaO 0 hn6 rfl (zx (zj ?_)))))))))
 refine zj (zc7 0 .here rfl (fun o9 hn10 => zS (.v 0 (.v 1 (.v 2 (.v 3 (.v 4 (.v 5 (.v 6 (.v 7 (.v 8 (.v 9 (.v 10 .nil))))))))))) moOrd (by kernel_rfl) ?_))
 refine rvm rfl rfl (zo rfl (zbx rfl) (zo rfl (zga rfl zf0 zh4) (zo rfl (zdk (R := isv (a_x.at_)) ty3 rfl (List.Mem.head _) hI) (zz h fun q11 h => zo rfl (zaa rfl rfl q11) (rvm rfl rfl (zo rfl (zbx rfl) (zo rfl (zga rfl zg8 ziJ) ?_)))))))
 refine zo rfl (zdk (R := isv (a_x.l)) ty124 rfl (List.Mem.head _) hI) (zo rfl (zaR (l := a_x.l) rfl hI sl124) (zo rfl (zaj rfl rfl) (zab (zaO 0 hn10 rfl (zx (zdB (ι := GPar) (γ := Tok × Tok) (fun q12 g12 => []) (fun q12 g12 => [boxE zK ((q12.l, q12.at_, (q12.m.name, q12.m.tagging, (TList.mk g12.1 q12.m.names), (TList.mk g12.2 q12.m.types), (Vh.mk zL q12.m.nodes.length)), q12.e, q12.p) : ((List GTok) × Int × (Str × Int × (TList Str) × (TList Int) × Vh) × Int × Int)), tokE g12.1, tokE g12.2, vecE zL (q12.m.nodes : List GNode)]) (.cons .here (.cons tH (.cons tH (.cons tH .nil)))) h (fun q12 g12 h => ?_) (fun J13 h hJ13 => ?_)))))))
 ·refine wsr (oV (zf ty133 rfl) (oT (zm (y' := (y7 : GTok)) ty133 rfl rfl hI (.there (.there tI)) rfl (rnf (zJ (zk (.cell rfl .here ty133 .nil) (.cons tH (.cons tH (.cons tH (.cons tH .nil)))) ?_))))))
  cases h
  exact ⟨g12.1, g12.2, rfl, rfl⟩
 refine zg h rfl (fun _ h => ?_) (fun _ h => ?_)
 ·refine zh (oM rfl (oV (zu rfl) (oV (zag rfl zf0 zh4) (oT (zM (R := isv (a_x.at_)) ty3 rfl .here hI (zz h fun q14 h => oV (zaa rfl rfl q14) (oV (zu rfl) (oV (zag rfl zf0 zh4) ?_))))))))
  exact oT (zm (y' := ((a_x.l, (a_x.at_ + (1 : Int)), (a_x.m.name, a_x.m.tagging, (TList.mk t_a_x1 a_x.m.names), (TList.mk t_a_x2 a_x.m.types), (Vh.mk zL a_x.m.nodes.length)), a_x.e, a_x.p) : ((List GTok) × Int × (Str × Int × (TList Str) × (TList Int) × Vh) × Int × Int))) ty3 rfl rfl hI .here rfl (zw (hJ13 _ (t_a_x1, t_a_x2) h _ (ze 7 rfl rfl zd (.cons .here (.cons tH (.cons tH (.cons tH k1))))))))
 exact zac (hJ13 _ (t_a_x1, t_a_x2) h _ (ze 0 rfl rfl zd (.cons .here (.cons tH (.cons tH (.cons tH k1))))))


theorem zcw : ∀ {a_x : GPar} {a_k : Int} {zK : Nat} {t_a_x1 : Tok} {t_a_x2 : Tok} {zL : Vt} {r : Str × GPar}, za3 a_x a_k = some r → Ctr Tryz.prog 70 [ptrv zK (Fld.id ((List GTok) × Int × (Str × Int × (TList Str) × (TList Int) × Vh) × Int × Int)), isv (a_k)] [boxE zK ((a_x.l, a_x.at_, (a_x.m.name, a_x.m.tagging, (TList.mk t_a_x1 a_x.m.names), (TList.mk t_a_x2 a_x.m.types), (Vh.mk zL a_x.m.nodes.length)), a_x.e, a_x.p) : ((List GTok) × Int × (Str × Int × (TList Str) × (TList Int) × Vh) × Int × Int)), tokE t_a_x1, tokE t_a_x2, vecE zL (a_x.m.nodes : List GNode)] (fun R H => ∃ u1 : Tok, ∃ u2 : Tok, R = oneOf [isv (r.1)] ∧ H = [boxE zK ((r.2.l, r.2.at_, (r.2.m.name, r.2.m.tagging, (TList.mk u1 r.2.m.names), (TList.mk u2 r.2.m.types), (Vh.mk zL r.2.m.nodes.length)), r.2.e, r.2.p)), tokE u1, tokE u2, vecE zL (r.2.m.nodes)]) := by
 intro a_x a_k zK t_a_x1 t_a_x2 zL r h
 unfold za3 at h
 refine zp Tryz.func70 rfl fun w0 S0 hT => wsr (oA rfl (rnf (wsr (oM rfl (zb h fun y4 hy4 h => oT (zN (zaK hy4) hT (s1 rfl) k4 (fun R H' hR => ?_)))))))
 obtain ⟨t5, t6, rfl, rfl⟩ := hR
 refine oT (zaf _ ze133 fun b7 => oT (zm (y' := (y4.1 : GTok)) ty133 rfl rfl hI .here rfl (zG (zaq 5 .here rfl) (rnf (zj (wsr (oM rfl (oV (zu rfl) (oV (zag rfl zbm zch) ?_)))))))))
 refine oT (zM (R := isv (y4.2.e)) ty65 rfl .here hI (oV (zbo rfl rfl) (oM rfl (zau (jb 18) je .nil h 5 rfl (fun q8 g8 h => ?_) (fun J9 h hJ9 => ?_)))))
 ·refine rnf (zg h rfl (fun _ h => ?_) (fun _ h => ?_))
  ·refine wsr (oM rfl (oV (zf ty133 rfl) (zb h fun y11 hy11 h => oT (zN (za9 hy11) hT (s3 rfl rfl rfl) k4 (fun R H' hR => ?_)))))
   obtain ⟨t12, t13, rfl, rfl⟩ := hR
   refine rnf (wsr (oA rfl (rnf (zJ (zA (zk (.tmp rfl .nil) k4 ?_))))))
   cases h
   exact ⟨t12, t13, rfl, rfl⟩
  refine wkf (wsr (oM rfl (zb h fun y14 hy14 h => oT (zN (zbz hy14) hT (s1 rfl) k4 (fun R H' hR => ?_)))))
  obtain ⟨t15, t16, rfl, rfl⟩ := hR
  refine oV (zg6 GTok.f1 rfl zdd rfl) (oA rfl (rnf (zJ (zk (.tmp rfl .nil) k4 ?_))))
  cases h
  exact ⟨t15, t16, rfl, rfl⟩
 refine zB (j := 13) h rfl (fun g10 h => ?_) (fun g10 h => ?_)
 ·exact oP 13 rfl rfl g10 (oP 13 rfl rfl g10 (oP 13 rfl rfl g10 (oP 13 rfl rfl g10 (oV (zs rfl g10 rfl) (hJ9 _ () h _ (ze 5 rfl rfl (za (j := 18) rfl hI zd) k4))))))
 exact oK 13 rfl rfl rfl g10 (zW rfl GTok.f0 zb5 rfl (z := y4.1.kind)) (oK 13 rfl rfl rfl g10 (zf ty3 rfl) (oK 13 rfl rfl rfl g10 (zt rfl) (oK 13 rfl rfl rfl g10 (zbo rfl rfl) (oV (zr rfl g10 rfl) (hJ9 _ () h _ (ze 5 rfl rfl (za (j := 18) rfl hI zd) k4))))))


theorem zQ : ∀ {a_x : GPar} {a_s : Str} {zK : Nat} {t_a_x1 : Tok} {t_a_x2 : Tok} {zL : Vt} {r : Bool × GPar}, zP a_x a_s = some r → Ctr Tryz.prog 72 [ptrv zK (Fld.id ((List GTok) × Int × (Str × Int × (TList Str) × (TList Int) × Vh) × Int × Int)), isv (a_s)] [boxE zK ((a_x.l, a_x.at_, (a_x.m.name, a_x.m.tagging, (TList.mk t_a_x1 a_x.m.names), (TList.mk t_a_x2 a_x.m.types), (Vh.mk zL a_x.m.nodes.length)), a_x.e, a_x.p) : ((List GTok) × Int × (Str × Int × (TList Str) × (TList Int) × Vh) × Int × Int)), tokE t_a_x1, tokE t_a_x2, vecE zL (a_x.m.nodes : List GNode)] (fun R H => ∃ u1 : Tok, ∃ u2 : Tok, R = oneOf [isv (r.1)] ∧ H = [boxE zK ((r.2.l, r.2.at_, (r.2.m.name, r.2.m.tagging, (TList.mk u1 r.2.m.names), (TList.mk u2 r.2.m.types), (Vh.mk zL r.2.m.nodes.length)), r.2.e, r.2.p)), tokE u1, tokE u2, vecE zL (r.2.m.nodes)]) := by
 intro a_x a_s zK t_a_x1 t_a_x2 zL r h
 unfold zP at h
 refine zp Tryz.func72 rfl fun w0 S0 hT => wsr (oA rfl (rnf (wsr (oM rfl (zb h fun y4 hy4 h => oT (zN (zaK hy4) hT (s1 rfl) k4 (fun R H' hR => ?_)))))))
 obtain ⟨t5, t6, rfl, rfl⟩ := hR
 refine oT (zaf _ ze133 fun b7 => oT (zm (y' := (y4.1 : GTok)) ty133 rfl rfl hI .here rfl (zG (zaq 5 .here rfl) (rnf (zj (wsr (oM rfl (oV (zu rfl) (oV (zag rfl zbm zch) ?_)))))))))
 refine oT (zM (R := isv (y4.2.e)) ty65 rfl .here hI (oV (zao rfl rfl) (oM rfl (zau (jb 22) je .nil h 9 rfl (fun q8 g8 h => ?_) (fun J9 h hJ9 => ?_)))))
 ·refine oM rfl (zau (jb 28) je .nil h 5 rfl (fun q14 g14 h => ?_) (fun J15 h hJ15 => ?_))
  ·refine rnf (zg h rfl (fun _ h => ?_) (fun _ h => ?_))
   ·refine wsr (oM rfl (zb h fun y17 hy17 h => oT (zN (zbz hy17) hT (s1 rfl) k4 (fun R H' hR => ?_))))
    obtain ⟨t18, t19, rfl, rfl⟩ := hR
    refine rnf (wsr (oA rfl (rnf (zJ (zA (zk (.tmp rfl .nil) k4 ?_))))))
    cases h
    exact ⟨t18, t19, rfl, rfl⟩
   refine wkf (wsr (oA rfl (rnf (zJ (zk (.tmp rfl .nil) k4 ?_)))))
   cases h
   exact ⟨t5, t6, rfl, rfl⟩
  refine zB (j := 23) h rfl (fun g16 h => ?_) (fun g16 h => ?_)
  ·exact oK 23 rfl rfl rfl g16 (zW rfl GTok.f1 zdd rfl (z := y4.1.text)) (oK 23 rfl rfl rfl g16 (zf ty9 rfl) (oK 23 rfl rfl rfl g16 (zt rfl) (oK 23 rfl rfl rfl g16 (zcz eq9 rfl rfl) (oV (zs rfl g16 rfl) (hJ15 _ () h _ (ze 5 rfl rfl (za (j := 28) rfl hI zd) k4))))))
  exact oP 23 rfl rfl g16 (oP 23 rfl rfl g16 (oP 23 rfl rfl g16 (oP 23 rfl rfl g16 (oV (zr rfl g16 rfl) (hJ15 _ () h _ (ze 5 rfl rfl (za (j := 28) rfl hI zd) k4))))))
 refine zB (j := 13) h rfl (fun g10 h => ?_) (fun g10 h => ?_)
 ·refine oK 13 rfl rfl rfl g10 (zW rfl GTok.f0 zb5 rfl (z := y4.1.kind)) (oK 13 rfl rfl rfl g10 (zf ty3 rfl) (oK 13 rfl rfl rfl g10 (zao rfl rfl) (oK 13 rfl rfl rfl g10 (zt rfl) (zau (jb 21) je .nil h 4 rfl (fun q11 g11 h => ?_) (fun J12 h hJ12 => ?_)))))
  ·exact oV (zs rfl g10 rfl) (hJ9 _ () h _ (ze 6 rfl rfl (za (j := 22) rfl hI zd) k4))
  refine zB (j := 17) h rfl (fun g13 h => ?_) (fun g13 h => ?_)
  ·exact oP 17 rfl rfl g13 (oP 17 rfl rfl g13 (oP 17 rfl rfl g13 (oK 13 rfl rfl rfl g10 (zs rfl g13 rfl) (hJ12 _ () h _ (ze 4 rfl rfl (za (j := 21) rfl hI zd) k4)))))
  exact oK 17 rfl rfl rfl g13 (zW rfl GTok.f0 zb5 rfl (z := y4.1.kind)) (oK 17 rfl rfl rfl g13 (zf ty3 rfl) (oK 17 rfl rfl rfl g13 (zao rfl rfl) (oK 13 rfl rfl rfl g10 (zr rfl g13 rfl) (hJ12 _ () h _ (ze 4 rfl rfl (za (j := 21) rfl hI zd) k4)))))
 refine oP 13 rfl rfl g10 (oP 13 rfl rfl g10 (oP 13 rfl rfl g10 (oP 13 rfl rfl g10 (zC rfl (dj := 17) rfl (zC rfl (dj := 17) rfl (zC rfl (dj := 17) rfl (oP 13 rfl rfl g10 (oV (zr rfl g10 rfl) ?_))))))))
 exact hJ9 _ () h _ (ze 9 rfl rfl (za (j := 22) rfl hI zd) k4)


theorem zai : ∀ {a_x : GPar} {a_s : Str} {zK : Nat} {t_a_x1 : Tok} {t_a_x2 : Tok} {zL : Vt} {r : GPar}, zV a_x a_s = some r → Ctr Tryz.prog 71 [ptrv zK (Fld.id ((List GTok) × Int × (Str × Int × (TList Str) × (TList Int) × Vh) × Int × Int)), isv (a_s)] [boxE zK ((a_x.l, a_x.at_, (a_x.m.name, a_x.m.tagging, (TList.mk t_a_x1 a_x.m.names), (TList.mk t_a_x2 a_x.m.types), (Vh.mk zL a_x.m.nodes.length)), a_x.e, a_x.p) : ((List GTok) × Int × (Str × Int × (TList Str) × (TList Int) × Vh) × Int × Int)), tokE t_a_x1, tokE t_a_x2, vecE zL (a_x.m.nodes : List GNode)] (fun R H => ∃ u1 : Tok, ∃ u2 : Tok, R = oneOf [] ∧ H = [boxE zK ((r.l, r.at_, (r.m.name, r.m.tagging, (TList.mk u1 r.m.names), (TList.mk u2 r.m.types), (Vh.mk zL r.m.nodes.length)), r.e, r.p)), tokE u1, tokE u2, vecE zL (r.m.nodes)]) := by
 intro a_x a_s zK t_a_x1 t_a_x2 zL r h
 unfold zV at h
 refine zp Tryz.func71 rfl fun w0 S0 hT => wsr (oM rfl (oV (zu rfl) (oV (zag rfl zbm zch) (oT (zM (R := isv (a_x.e)) ty65 rfl .here hI (oV (zao rfl rfl) (oM rfl (zau (ι := Bool × GPar) (γ := Tok × Tok) (fun q4 g4 => [(14, isv (q4.1))]) (fun q4 g4 => [boxE zK ((q4.2.l, q4.2.at_, (q4.2.m.name, q4.2.m.tagging, (TList.mk g4.1 q4.2.m.names), (TList.mk g4.2 q4.2.m.types), (Vh.mk zL q4.2.m.nodes.length)), q4.2.e, q4.2.p) : ((List GTok) × Int × (Str × Int × (TList Str) × (TList Int) × Vh) × Int × Int)), tokE g4.1, tokE g4.2, vecE zL (q4.2.m.nodes : List GNode)]) k4 h 5 rfl (fun q4 g4 h => ?_) (fun J5 h hJ5 => ?_)))))))))
 ·refine rnf (zg h rfl (fun _ h => ?_) (fun _ h => ?_))
  ·refine zh (oM rfl (oM rfl (zb h fun y10 hy10 h => oT (zN (zaK hy10) hT (s1 rfl) k4 (fun R H' hR => ?_)))))
   obtain ⟨t11, t12, rfl, rfl⟩ := hR
   refine zb h fun y13 hy13 h => oT (zN (za9 hy13) hT (s3 rfl rfl rfl) k4 (fun R H' hR => ?_))
   obtain ⟨t14, t15, rfl, rfl⟩ := hR
   refine zw (zan .nil k4 ?_)
   cases h
   exact ⟨t14, t15, rfl, rfl⟩
  refine zac (zan .nil k4 ?_)
  cases h
  exact ⟨g4.1, g4.2, rfl, rfl⟩
 refine zB (j := 9) h rfl (fun g6 h => ?_) (fun g6 h => ?_)
 ·refine oK 9 rfl rfl rfl g6 (zt rfl) (oK 9 rfl rfl rfl g6 (zt rfl) (zb h fun y7 hy7 h => zaD rfl rfl (dj := 9) rfl g6 (zN (zQ hy7) hT (s2 rfl rfl) k4 (fun R H' hR => ?_))))
  obtain ⟨t8, t9, rfl, rfl⟩ := hR
  exact oK 9 rfl rfl rfl g6 (zbq rfl) (oV (zs rfl g6 rfl) (hJ5 _ (t8, t9) h _ (ze 5 rfl rfl (za (j := 14) rfl hI zd) k4)))
 exact oP 9 rfl rfl g6 (oP 9 rfl rfl g6 (oP 9 rfl rfl g6 (oP 9 rfl rfl g6 (oV (zr rfl g6 rfl) (hJ5 _ (t_a_x1, t_a_x2) h _ (ze 5 rfl rfl (za (j := 14) rfl hI zd) k4))))))


theorem zjZ : ∀ {a_t : GTok} {r : Bool}, zfm a_t = some r → Ctr Tryz.prog 105 [isv (a_t)] [] (fun R H => R = oneOf [isv (r)] ∧ H = []) := by
 intro a_t r h
 unfold zfm at h
 refine zp Tryz.func105 rfl fun w0 S0 hT => wsr (oT (zaV (y := a_t) rfl hI (oA rfl (rnf (wsr (oT (zY (l := ([(Str.mk [91]), (Str.mk [66, 79, 79, 76, 69, 65, 78]), (Str.mk [78, 85, 76, 76]), (Str.mk [85, 84, 70, 56, 83, 116, 114, 105, 110, 103]), (Str.mk [73, 78, 84, 69, 71, 69, 82]), (Str.mk [79, 67, 84, 69, 84]), (Str.mk [69, 78, 85, 77, 69, 82, 65, 84, 69, 68]), (Str.mk [83, 69, 84]), (Str.mk [67, 72, 79, 73, 67, 69]), (Str.mk [83, 69, 81, 85, 69, 78, 67, 69])] : (List Str))) el22 (.cons rfl hI (.cons rfl hI (.cons rfl hI (.cons rfl hI (.cons rfl hI (.cons rfl hI (.cons rfl hI (.cons rfl hI (.cons rfl hI (.cons rfl hI .nil)))))))))) rfl rfl (oA rfl (rnf ?_)))))))))
 refine zj (wsr (oA rfl (rnf (zq (zaN (ι := Int) (γ := Unit) (fun q2 g2 => [(4, isv (q2))]) (fun q2 g2 => []) h () (za (j := 4) rfl hI zd) .nil (fun L3 q2 g2 Q20 h hL3 eL3 rL3 => zj (wsr (oM rfl ?_))))))))
 refine oM rfl (oV (zaR (l := ([(Str.mk [91]), (Str.mk [66, 79, 79, 76, 69, 65, 78]), (Str.mk [78, 85, 76, 76]), (Str.mk [85, 84, 70, 56, 83, 116, 114, 105, 110, 103]), (Str.mk [73, 78, 84, 69, 71, 69, 82]), (Str.mk [79, 67, 84, 69, 84]), (Str.mk [69, 78, 85, 77, 69, 82, 65, 84, 69, 68]), (Str.mk [83, 69, 84]), (Str.mk [67, 72, 79, 73, 67, 69]), (Str.mk [83, 69, 81, 85, 69, 78, 67, 69])] : (List Str))) rfl zF sl22) (oV (zaj rfl rfl) (rnf (zg h rfl (fun _ h => ?_) (fun _ h => ?_)))))
 ·refine wkf (zj (zq (zj (zS (.v 0 (.v 1 (.v 2 (.v 3 (.v 4 (.v 5 (.v 6 (.v 7 (.v 8 (.v 9 (.v 10 (.v 11 (.v 12 (.v 13 (.v 14 (.v 15 (.v 16 .nil))))))))))))))))) moOrd (by kernel_rfl) ?_))))
  refine rvm rfl rfl (rvm rfl rfl (zb h fun y12 hy12 h => zo rfl (zaz (l := ([(Str.mk [91]), (Str.mk [66, 79, 79, 76, 69, 65, 78]), (Str.mk [78, 85, 76, 76]), (Str.mk [85, 84, 70, 56, 83, 116, 114, 105, 110, 103]), (Str.mk [73, 78, 84, 69, 71, 69, 82]), (Str.mk [79, 67, 84, 69, 84]), (Str.mk [69, 78, 85, 77, 69, 82, 65, 84, 69, 68]), (Str.mk [83, 69, 84]), (Str.mk [67, 72, 79, 73, 67, 69]), (Str.mk [83, 69, 81, 85, 69, 78, 67, 69])] : (List Str))) rfl zF rfl sl22 hy12) (zo rfl (zf ty9 rfl) (zo rfl (zW rfl GTok.f1 zdd rfl (z := a_t.text)) (zo rfl (zf ty9 rfl) (zo rfl (zcz eq9 rfl rfl) (rvm rfl rfl ?_)))))))
  refine zc8 (jb 28) je .nil h 9 rfl (fun q13 g13 h => ?_) (fun J14 h hJ14 => ?_)
  ·refine zab (zx (zg h rfl (fun _ h => ?_) (fun _ h => ?_)))
   ·refine wsr (oA rfl (rnf (zJ (zH (zA (rL3 _ (zH (zA ?_))))))))
    cases h
    exact zk (.tmp rfl .nil) .nil ⟨rfl, rfl⟩
   refine zac (zi (zx (zh (oM rfl (zz h fun q19 h => oV (zaa rfl rfl q19) (oA rfl (zw ?_)))))))
   exact hL3 _ () h _ (ji 17 4 rfl rfl rfl)
  refine zaA (j := 19) h rfl (fun g15 h => ?_) (fun g15 h => ?_)
  ·refine rvt 19 rfl rfl rfl g15 (zW rfl GTok.f0 zb5 rfl (z := a_t.kind)) (rvt 19 rfl rfl rfl g15 (zf ty3 rfl) (rvt 19 rfl rfl rfl g15 (zao rfl rfl) (rvt 19 rfl rfl rfl g15 (zt rfl) (zc8 (jb 27) je .nil h 4 rfl (fun q16 g16 h => ?_) (fun J17 h hJ17 => ?_)))))
   ·exact zo rfl (zs rfl g15 rfl) (hJ14 _ () h _ (ji 6 28 rfl rfl rfl))
   refine zaA (j := 23) h rfl (fun g18 h => ?_) (fun g18 h => ?_)
   ·exact rpv 23 rfl rfl rfl g18 (rpv 23 rfl rfl rfl g18 (rpv 23 rfl rfl rfl g18 (rvt 19 rfl rfl rfl g15 (zs rfl g18 rfl) (hJ17 _ () h _ (ji 4 27 rfl rfl rfl)))))
   exact rvt 23 rfl rfl rfl g18 (zW rfl GTok.f0 zb5 rfl (z := a_t.kind)) (rvt 23 rfl rfl rfl g18 (zf ty3 rfl) (rvt 23 rfl rfl rfl g18 (zao rfl rfl) (rvt 19 rfl rfl rfl g15 (zr rfl g18 rfl) (hJ17 _ () h _ (ji 4 27 rfl rfl rfl)))))
  refine rpv 19 rfl rfl rfl g15 (rpv 19 rfl rfl rfl g15 (rpv 19 rfl rfl rfl g15 (rpv 19 rfl rfl rfl g15 (ze2 rfl rfl (dj := 23) rfl (ze2 rfl rfl (dj := 23) rfl (ze2 rfl rfl (dj := 23) rfl (rpv 19 rfl rfl rfl g15 (zo rfl (zr rfl g15 rfl) ?_))))))))
  exact hJ14 _ () h _ (ji 9 28 rfl rfl rfl)
 refine zad (zU (eL3 _ _ (zE (zx (wsr (oV (zW rfl GTok.f0 zb5 rfl (z := a_t.kind)) (oV (zf ty3 rfl) (oV (zao rfl rfl) ?_))))))))
 refine oA rfl (rnf (zJ ?_))
 cases h
 exact zk (.tmp rfl .nil) .nil ⟨rfl, rfl⟩


theorem ziw : ∀ {a_s : Str} {r : Int}, zeY a_s = some r → Ctr Tryz.prog 145 [isv (a_s)] [] (fun R H => R = oneOf [isv (r)] ∧ H = []) := by
 intro a_s r h
 unfold zeY at h
 refine zp Tryz.func145 rfl fun w0 S0 hT => wsr (oA rfl (rnf (wsr (oM rfl (zb h fun y1 hy1 h => oV (zbM y1 st9 rfl rfl hy1) (oV (zcz eq5 rfl rfl) ?_))))))
 refine oA rfl (rnf (zj (wsr (oM rfl (rnf (zdB (ι := Str) (γ := Unit) (fun q2 g2 => [(0, isv (q2))]) (fun q2 g2 => []) .nil h (fun q2 g2 h => ?_) (fun J3 h hJ3 => ?_)))))))
 ·refine wsr (oA rfl (rnf (zj (wsr (oA rfl (rnf (zq (zaN (ι := UInt64 × Int) (γ := Unit) (fun q5 g5 => [(4, isv (q5.1)), (5, isv (q5.2))]) (fun q5 g5 => []) h () (za (j := 4) rfl hI (za (j := 5) rfl hI zd)) .nil (fun L6 q5 g5 Q19 h hL6 eL6 rL6 => ?_)))))))))
  refine zj (wsr (oM rfl (oM rfl (oV (zdJ st9 rfl) (oV (zaj rfl rfl) (rnf (zg h rfl (fun _ h => ?_) (fun _ h => ?_))))))))
  ·refine wkf (zj (zq (zh (oM rfl (oV (zmd rfl rfl) (oM rfl (oM rfl (zb h fun y13 hy13 h => ?_))))))))
   refine oV (zbM y13 st9 rfl rfl hy13) (oV (zj9 rfl rfl) (oV (zez Tryz.underlying5 Tryz.underlying41 rfl) (oV (zl3 rfl rfl) (oA rfl (zw (zi (zx (zh ?_))))))))
   exact oM rfl (zz h fun q14 h => oV (zaa rfl rfl q14) (oA rfl (zw (hL6 _ () h _ (ze 18 rfl rfl (za (j := 4) rfl hI (za (j := 5) rfl hI zd)) .nil)))))
  refine zad (zU (eL6 _ _ (zE (zx (zj (wsr (oM rfl (rnf ?_))))))))
  refine zg h rfl (fun _ h => ?_) (fun _ h => ?_)
  ·refine wsr (oM rfl (oV (zn6 rfl rfl) (zz h fun q15 h => oV (zfI Tryz.underlying41 Tryz.underlying2 rfl q15) (zz h fun q16 h => oV (zpi rfl q16) (zz h fun q17 h => oV (zaF rfl rfl q17) ?_)))))
   refine oA rfl (rnf (zJ (zA ?_)))
   cases h
   exact zk (.tmp rfl .nil) .nil ⟨rfl, rfl⟩
  refine wkf (wsr (oM rfl (zz h fun q18 h => oV (zfI Tryz.underlying41 Tryz.underlying2 rfl q18) (oA rfl (rnf (zJ ?_))))))
  cases h
  exact zk (.tmp rfl .nil) .nil ⟨rfl, rfl⟩
 refine zg h rfl (fun _ h => ?_) (fun _ h => ?_)
 ·exact zh (oM rfl (zI h fun q4 h => oV (ziC st9 rfl (.inr ⟨_, rfl, rfl⟩) (.inl ⟨rfl, rfl⟩) q4.1 q4.2.1 q4.2.2) (oA rfl (zw (hJ3 _ () h _ (ji 3 0 rfl rfl rfl))))))
 exact zac (hJ3 _ () h _ (ji 0 0 rfl rfl rfl))


theorem zcA : ∀ {a_x : GPar} {zK : Nat} {t_a_x1 : Tok} {t_a_x2 : Tok} {zL : Vt} {r : Int × GPar}, zbl a_x = some r → Ctr Tryz.prog 106 [ptrv zK (Fld.id ((List GTok) × Int × (Str × Int × (TList Str) × (TList Int) × Vh) × Int × Int))] [boxE zK ((a_x.l, a_x.at_, (a_x.m.name, a_x.m.tagging, (TList.mk t_a_x1 a_x.m.names), (TList.mk t_a_x2 a_x.m.types), (Vh.mk zL a_x.m.nodes.length)), a_x.e, a_x.p) : ((List GTok) × Int × (Str × Int × (TList Str) × (TList Int) × Vh) × Int × Int)), tokE t_a_x1, tokE t_a_x2, vecE zL (a_x.m.nodes : List GNode)] (fun R H => ∃ u1 : Tok, ∃ u2 : Tok, R = oneOf [isv (r.1)] ∧ H = [boxE zK ((r.2.l, r.2.at_, (r.2.m.name, r.2.m.tagging, (TList.mk u1 r.2.m.names), (TList.mk u2 r.2.m.types), (Vh.mk zL r.2.m.nodes.length)), r.2.e, r.2.p)), tokE u1, tokE u2, vecE zL (r.2.m.nodes)]) := by
 intro a_x zK t_a_x1 t_a_x2 zL r h
 unfold zbl at h
 refine zp Tryz.func106 rfl fun w0 S0 hT => wsr (oA rfl (rnf (wsr (oM rfl (zb h fun y4 hy4 h => oT (zN (zcw hy4) hT (s2 rfl rfl) k4 (fun R H' hR => ?_)))))))
 obtain ⟨t5, t6, rfl, rfl⟩ := hR
 refine oA rfl (rnf (zj (wsr (oM rfl (oV (zcz eq9 rfl rfl) (rnf (zg h rfl (fun _ h => ?_) (fun _ h => ?_))))))))
 ·refine wsr (oA rfl (rnf (zJ (zA (zk (.tmp rfl .nil) k4 ?_)))))
  cases h
  exact ⟨t5, t6, rfl, rfl⟩
 refine wkf (wsr (oM rfl (zb h fun y7 hy7 h => oT (zy (ziw hy7) hT (s1 rfl) .nil (oA rfl (rnf (zJ (zk (.tmp rfl .nil) k4 ?_))))))))
 cases h
 exact ⟨t5, t6, rfl, rfl⟩


theorem zeT : ∀ {a_x : GPar} {zK : Nat} {t_a_x1 : Tok} {t_a_x2 : Tok} {zL : Vt} {r : GCon × GPar}, zbW a_x = some r → Ctr Tryz.prog 147 [ptrv zK (Fld.id ((List GTok) × Int × (Str × Int × (TList Str) × (TList Int) × Vh) × Int × Int))] [boxE zK ((a_x.l, a_x.at_, (a_x.m.name, a_x.m.tagging, (TList.mk t_a_x1 a_x.m.names), (TList.mk t_a_x2 a_x.m.types), (Vh.mk zL a_x.m.nodes.length)), a_x.e, a_x.p) : ((List GTok) × Int × (Str × Int × (TList Str) × (TList Int) × Vh) × Int × Int)), tokE t_a_x1, tokE t_a_x2, vecE zL (a_x.m.nodes : List GNode)] (fun R H => ∃ u1 : Tok, ∃ u2 : Tok, R = oneOf [isv (r.1)] ∧ H = [boxE zK ((r.2.l, r.2.at_, (r.2.m.name, r.2.m.tagging, (TList.mk u1 r.2.m.names), (TList.mk u2 r.2.m.types), (Vh.mk zL r.2.m.nodes.length)), r.2.e, r.2.p)), tokE u1, tokE u2, vecE zL (r.2.m.nodes)]) := by
 intro a_x zK t_a_x1 t_a_x2 zL r h
 unfold zbW at h
 refine zp Tryz.func147 rfl fun w0 S0 hT => wsr (oT (zaf _ ze83 fun b4 => rnf (wsr (oV (zaC (z := (GCon.mk true false false false (0 : Int) (0 : Int))) rfl bu83 ze83 (.cons GCon.f0 zlH rfl hI .nil)) (oT (zaf _ ze83 fun b5 => oT (zm (y' := ((GCon.mk true false false false (0 : Int) (0 : Int)) : GCon)) ty83 rfl rfl hI .here rfl (rnf ?_))))))))
 refine zj (wsr (oM rfl (zb h fun y6 hy6 h => oT (zN (zQ hy6) hT (s2 rfl rfl) (.cons tI (.cons tI (.cons tI (.cons tI .nil)))) (fun R H' hR => ?_)))))
 obtain ⟨t7, t8, rfl, rfl⟩ := hR
 refine oV (zbq rfl) (rnf (zdB (ι := GPar × GCon) (γ := Tok × Tok) (fun q9 g9 => []) (fun q9 g9 => [boxE zK ((q9.1.l, q9.1.at_, (q9.1.m.name, q9.1.m.tagging, (TList.mk g9.1 q9.1.m.names), (TList.mk g9.2 q9.1.m.types), (Vh.mk zL q9.1.m.nodes.length)), q9.1.e, q9.1.p) : ((List GTok) × Int × (Str × Int × (TList Str) × (TList Int) × Vh) × Int × Int)), tokE g9.1, tokE g9.2, vecE zL (q9.1.m.nodes : List GNode), boxE b5 (q9.2 : GCon)]) (.cons .here (.cons (.there tI) k3)) h (fun q9 g9 h => ?_) (fun J10 h hJ10 => ?_)))
 ·refine zj (zdB (ι := GPar × GCon) (γ := Tok × Tok) (fun q14 g14 => []) (fun q14 g14 => [boxE zK ((q14.1.l, q14.1.at_, (q14.1.m.name, q14.1.m.tagging, (TList.mk g14.1 q14.1.m.names), (TList.mk g14.2 q14.1.m.types), (Vh.mk zL q14.1.m.nodes.length)), q14.1.e, q14.1.p) : ((List GTok) × Int × (Str × Int × (TList Str) × (TList Int) × Vh) × Int × Int)), tokE g14.1, tokE g14.2, vecE zL (q14.1.m.nodes : List GNode), boxE b5 (q14.2 : GCon)]) (.cons .here (.cons (.there tI) k3)) h (fun q14 g14 h => ?_) (fun J15 h hJ15 => ?_))
  ·refine zj (wsr (oM rfl (zb h fun y25 hy25 h => oT (zN (zQ hy25) hT (s2 rfl rfl) k4 (fun R H' hR => ?_)))))
   obtain ⟨t26, t27, rfl, rfl⟩ := hR
   refine rnf (zdB (ι := GPar × GCon) (γ := Tok × Tok) (fun q28 g28 => []) (fun q28 g28 => [boxE zK ((q28.1.l, q28.1.at_, (q28.1.m.name, q28.1.m.tagging, (TList.mk g28.1 q28.1.m.names), (TList.mk g28.2 q28.1.m.types), (Vh.mk zL q28.1.m.nodes.length)), q28.1.e, q28.1.p) : ((List GTok) × Int × (Str × Int × (TList Str) × (TList Int) × Vh) × Int × Int)), tokE g28.1, tokE g28.2, vecE zL (q28.1.m.nodes : List GNode), boxE b5 (q28.2 : GCon)]) (.cons .here (.cons (.there tI) k3)) h (fun q28 g28 h => ?_) (fun J29 h hJ29 => ?_))
   ·refine wsr (oT (zM (R := isv (q28.2)) ty83 rfl (.there (.there tI)) hI (oT (zm (y' := (q28.2 : GCon)) ty83 rfl rfl hI (.there (.there (.there tI))) rfl (rnf (zJ (zk (.cell rfl .here ty83 .nil) (.cons tH (.cons tH (.cons tH (.cons tH .nil)))) ?_)))))))
    cases h
    exact ⟨g28.1, g28.2, rfl, rfl⟩
   refine zg h rfl (fun _ h => ?_) (fun _ h => ?_)
   ·refine wsr (oM rfl (zb h fun y30 hy30 h => oT (zN (zai hy30) hT (s2 rfl rfl) k4 (fun R H' hR => ?_))))
    obtain ⟨t31, t32, rfl, rfl⟩ := hR
    exact rnf (zh (oV (zag rfl GCon.f3 zo0) (oT (zm (y' := ({ q14.2 with more := true } : GCon)) ty4 rfl rfl hI (.there (.there tI)) rfl (zw (hJ29 _ (t31, t32) h _ (ze 3 rfl rfl zd (.cons tH (.cons tH (.cons tH (.cons tH k2)))))))))))
   exact zac (hJ29 _ (t26, t27) h _ (ze 0 rfl rfl zd (.cons .here (.cons .here k4))))
  refine zq (wsr (oM rfl (zb h fun y16 hy16 h => oT (zN (zQ hy16) hT (s2 rfl rfl) k4 (fun R H' hR => ?_)))))
  obtain ⟨t17, t18, rfl, rfl⟩ := hR
  refine oA rfl (rnf (zg h rfl (fun _ h => ?_) (fun _ h => ?_)))
  ·refine wsr (oM rfl (zb h fun y19 hy19 h => oT (zN (zQ hy19) hT (s2 rfl rfl) k4 (fun R H' hR => ?_))))
   obtain ⟨t20, t21, rfl, rfl⟩ := hR
   refine oV (zbq rfl) (rnf (zg h rfl (fun _ h => ?_) (fun _ h => ?_)))
   ·refine zh (oM rfl (zb h fun y22 hy22 h => oT (zN (zcA hy22) hT (s1 rfl) k4 (fun R H' hR => ?_))))
    obtain ⟨t23, t24, rfl, rfl⟩ := hR
    exact oV (zag rfl GCon.f2 zjk) (oT (zm (y' := ({ q9.2 with hasHigh := true } : GCon)) ty4 rfl rfl hI (.there (.there tI)) rfl (oV (zag rfl GCon.f5 zij) (oT (zm (y' := ({ { q9.2 with hasHigh := true } with high := y22.1 } : GCon)) ty2 rfl rfl hI .here rfl (zw (zi (hJ15 _ (t23, t24) h _ (ze 10 rfl rfl zd (.cons tH (.cons tH (.cons tH (.cons tH k2)))))))))))))
   exact zac (zi (hJ15 _ (t20, t21) h _ (ze 6 rfl rfl zd (.cons .here (.cons .here k4)))))
  refine wsr (oV (zag rfl GCon.f1 zi6) (oT (zM (R := isv (q9.2.hasLow)) ty4 rfl (.there (.there tI)) hI (oA rfl (rnf (zg h rfl (fun _ h => ?_) (fun _ h => ?_)))))))
  ·refine zh (oV (zag rfl GCon.f4 zig) (oT (zM (R := isv (q9.2.low)) ty2 rfl (.there (.there tI)) hI (oV (zag rfl GCon.f2 zjk) (oT (zm (y' := ({ q9.2 with hasHigh := true } : GCon)) ty4 rfl rfl hI (.there (.there tI)) rfl (oV (zag rfl GCon.f5 zij) (oT (zm (y' := ({ { q9.2 with hasHigh := true } with high := q9.2.low } : GCon)) ty2 rfl rfl hI .here rfl (zw (zi ?_)))))))))))
   exact hJ15 _ (t17, t18) h _ (ze 10 rfl rfl zd (.cons tH (.cons tH (.cons tH (.cons tH k2)))))
  exact zac (zi (hJ15 _ (t17, t18) h _ (ze 6 rfl rfl zd (.cons .here (.cons .here k4)))))
 refine zg h rfl (fun _ h => ?_) (fun _ h => ?_)
 ·refine zh (oM rfl (zb h fun y11 hy11 h => oT (zN (zcA hy11) hT (s1 rfl) k4 (fun R H' hR => ?_))))
  obtain ⟨t12, t13, rfl, rfl⟩ := hR
  exact oV (zag rfl GCon.f1 zi6) (oT (zm (y' := ((GCon.mk true true false false (0 : Int) (0 : Int)) : GCon)) ty4 rfl rfl hI (.there (.there tI)) rfl (oV (zag rfl GCon.f4 zig) (oT (zm (y' := ((GCon.mk true true false false y11.1 (0 : Int)) : GCon)) ty2 rfl rfl hI .here rfl (zw (hJ10 _ (t12, t13) h _ (ze 4 rfl rfl zd (.cons tH (.cons tH (.cons tH (.cons tH k2))))))))))))
 exact zac (hJ10 _ (t7, t8) h _ (ze 0 rfl rfl zd (.cons .here (.cons .here k4))))

end Go.Proofs.Q


namespace Go.Proofs.Q
open Go.Sy
set_option maxRecDepth 4000
theorem zeh : ∀ {a_x : GPar} {zK : Nat} {t_a_x1 : Tok} {t_a_x2 : Tok} {zL : Vt} {r : GCon × GPar}, zb2 a_x = some r → Ctr Tryz.prog 146 [ptrv zK (Fld.id ((List GTok) × Int × (Str × Int × (TList Str) × (TList Int) × Vh) × Int × Int))] [boxE zK ((a_x.l, a_x.at_, (a_x.m.name, a_x.m.tagging, (TList.mk t_a_x1 a_x.m.names), (TList.mk t_a_x2 a_x.m.types), (Vh.mk zL a_x.m.nodes.length)), a_x.e, a_x.p) : ((List GTok) × Int × (Str × Int × (TList Str) × (TList Int) × Vh) × Int × Int)), tokE t_a_x1, tokE t_a_x2, vecE zL (a_x.m.nodes : List GNode)] (fun R H => ∃ u1 : Tok, ∃ u2 : Tok, R = oneOf [isv (r.1)] ∧ H = [boxE zK ((r.2.l, r.2.at_, (r.2.m.name, r.2.m.tagging, (TList.mk u1 r.2.m.names), (TList.mk u2 r.2.m.types), (Vh.mk zL r.2.m.nodes.length)), r.2.e, r.2.p)), tokE u1, tokE u2, vecE zL (r.2.m.nodes)]) := by
 intro a_x zK t_a_x1 t_a_x2 zL r h
 unfold zb2 at h
 refine zp Tryz.func146 rfl fun w0 S0 hT => wsr (oT (zaf _ ze83 fun b4 => rnf (zj (wsr (oM rfl (zb h fun y5 hy5 h => oT (zN (zQ hy5) hT (s2 rfl rfl) (.cons tH (.cons tH (.cons tH (.cons tH .nil)))) (fun R H' hR => ?_))))))))
 obtain ⟨t6, t7, rfl, rfl⟩ := hR
 refine oV (zbq rfl) (rnf (zg h rfl (fun _ h => ?_) (fun _ h => ?_)))
 ·refine wsr (oV (zaC (z := (GCon.mk false false false false (0 : Int) (0 : Int))) rfl bu83 ze83 .nil) (oT (zm (y' := ((GCon.mk false false false false (0 : Int) (0 : Int)) : GCon)) ty83 rfl rfl hI (.there (.there tI)) rfl (rnf (zJ (zA (zk (.cell rfl .here ty83 .nil) (.cons tH (.cons tH (.cons tH (.cons tH .nil)))) ?_)))))))
  cases h
  exact ⟨t6, t7, rfl, rfl⟩
 refine wkf (wsr (oM rfl (zb h fun y8 hy8 h => oT (zN (zai hy8) hT (s2 rfl rfl) k4 (fun R H' hR => ?_)))))
 obtain ⟨t9, t10, rfl, rfl⟩ := hR
 refine rnf (wsr (oM rfl (zb h fun y11 hy11 h => oT (zN (zai hy11) hT (s2 rfl rfl) k4 (fun R H' hR => ?_)))))
 obtain ⟨t12, t13, rfl, rfl⟩ := hR
 refine rnf (wsr (oM rfl (zb h fun y14 hy14 h => oT (zN (zeT hy14) hT (s1 rfl) k4 (fun R H' hR => ?_)))))
 obtain ⟨t15, t16, rfl, rfl⟩ := hR
 refine oT (zaf _ ze83 fun b17 => oT (zm (y' := (y14.1 : GCon)) ty83 rfl rfl hI .here rfl (zG (zaq 3 .here rfl) (rnf (wsr (oM rfl (zb h fun y18 hy18 h => oT (zN (zai hy18) hT (s2 rfl rfl) k4 (fun R H' hR => ?_)))))))))
 obtain ⟨t19, t20, rfl, rfl⟩ := hR
 refine rnf (wsr (oM rfl (zb h fun y21 hy21 h => oT (zN (zai hy21) hT (s2 rfl rfl) k4 (fun R H' hR => ?_)))))
 obtain ⟨t22, t23, rfl, rfl⟩ := hR
 refine rnf (wsr (oV (zf ty83 rfl) (oT (zm (y' := (y14.1 : GCon)) ty83 rfl rfl hI (.there (.there tI)) rfl (rnf (zJ (zk (.cell rfl .here ty83 .nil) (.cons tH (.cons tH (.cons tH (.cons tH .nil)))) ?_)))))))
 cases h
 exact ⟨t22, t23, rfl, rfl⟩


theorem zhA : ∀ {a_x : GPar} {a_n_ : GNode} {zK : Nat} {t_a_x1 : Tok} {t_a_x2 : Tok} {zL : Vt} {zaY : Nat} {t_a_n_4 : Tok} {t_a_n_5 : Tok} {r : GPar × GNode}, zcQ a_x a_n_ = some r → Ctr Tryz.prog 148 [ptrv zK (Fld.id ((List GTok) × Int × (Str × Int × (TList Str) × (TList Int) × Vh) × Int × Int)), ptrv zaY (Fld.id (Int × Str × GMark × GCon × (TList GItem) × (TList GFld) × Int × Bool × Int))] [boxE zK ((a_x.l, a_x.at_, (a_x.m.name, a_x.m.tagging, (TList.mk t_a_x1 a_x.m.names), (TList.mk t_a_x2 a_x.m.types), (Vh.mk zL a_x.m.nodes.length)), a_x.e, a_x.p) : ((List GTok) × Int × (Str × Int × (TList Str) × (TList Int) × Vh) × Int × Int)), tokE t_a_x1, tokE t_a_x2, vecE zL (a_x.m.nodes : List GNode), boxE zaY ((a_n_.kind, a_n_.name, a_n_.mark, a_n_.con, (TList.mk t_a_n_4 a_n_.items), (TList.mk t_a_n_5 a_n_.fields), a_n_.root, a_n_.more, a_n_.of) : (Int × Str × GMark × GCon × (TList GItem) × (TList GFld) × Int × Bool × Int)), tokE t_a_n_4, tokE t_a_n_5] (fun R H => ∃ u1 : Tok, ∃ u2 : Tok, ∃ u3 : Tok, ∃ u4 : Tok, R = oneOf [] ∧ H = [boxE zK ((r.1.l, r.1.at_, (r.1.m.name, r.1.m.tagging, (TList.mk u1 r.1.m.names), (TList.mk u2 r.1.m.types), (Vh.mk zL r.1.m.nodes.length)), r.1.e, r.1.p)), tokE u1, tokE u2, vecE zL (r.1.m.nodes), boxE zaY ((r.2.kind, r.2.name, r.2.mark, r.2.con, (TList.mk u3 r.2.items), (TList.mk u4 r.2.fields), r.2.root, r.2.more, r.2.of)), tokE u3, tokE u4]) := by
 intro a_x a_n_ zK t_a_x1 t_a_x2 zL zaY t_a_n_4 t_a_n_5 r h
 unfold zcQ at h
 refine zp Tryz.func148 rfl fun w0 S0 hT => zj (zdB (ι := GPar × GNode) (γ := Tok × Tok × Tok × Tok) (fun q6 g6 => []) (fun q6 g6 => [boxE zK ((q6.1.l, q6.1.at_, (q6.1.m.name, q6.1.m.tagging, (TList.mk g6.1 q6.1.m.names), (TList.mk g6.2.1 q6.1.m.types), (Vh.mk zL q6.1.m.nodes.length)), q6.1.e, q6.1.p) : ((List GTok) × Int × (Str × Int × (TList Str) × (TList Int) × Vh) × Int × Int)), tokE g6.1, tokE g6.2.1, vecE zL (q6.1.m.nodes : List GNode), boxE zaY ((q6.2.kind, q6.2.name, q6.2.mark, q6.2.con, (TList.mk g6.2.2.1 q6.2.items), (TList.mk g6.2.2.2 q6.2.fields), q6.2.root, q6.2.more, q6.2.of) : (Int × Str × GMark × GCon × (TList GItem) × (TList GFld) × Int × Bool × Int)), tokE g6.2.2.1, tokE g6.2.2.2]) (.cons .here (.cons (.there tI) (.cons .here k4))) h (fun q6 g6 h => ?_) (fun J7 h hJ7 => ?_))
 ·refine wsr (oM rfl (oV (zu rfl) (oV (zag rfl zen zeX) (oT (zM (R := isv (q6.2.more)) ty4 rfl (.there (.there tI)) hI (oV (zbq rfl) (rnf (zg h rfl (fun _ h => ?_) (fun _ h => ?_)))))))))
  ·refine zh (oM rfl (oM rfl (oV (zu rfl) (oV (zag rfl ze4 zey) (oT (zM (R := appv g6.2.2.1 (q6.2.items)) ty84 rfl (.there (.there tI)) isvT1 (oV (zaR (l := q6.2.items) rfl zF sl84) (oV (zu rfl) (oV (zag rfl zhd zfz) ?_)))))))))
   refine oT (zm (y' := ((q6.2.kind, q6.2.name, q6.2.mark, q6.2.con, (TList.mk g6.2.2.1 q6.2.items), (TList.mk g6.2.2.2 q6.2.fields), (q6.2.items.length : Int), q6.2.more, q6.2.of) : (Int × Str × GMark × GCon × (TList GItem) × (TList GFld) × Int × Bool × Int))) ty3 rfl rfl hI (.there (.there tI)) rfl (zw (zan .nil (.cons tH (.cons tH (.cons tH (.cons tH k3)))) ?_)))
   cases h
   exact ⟨g6.1, g6.2.1, g6.2.2.1, g6.2.2.2, rfl, rfl⟩
  refine zac (zan .nil (.cons .here (.cons .here (.cons .here k4))) ?_)
  cases h
  exact ⟨g6.1, g6.2.1, g6.2.2.1, g6.2.2.2, rfl, rfl⟩
 refine zq (zaN (ι := GPar × GNode) (γ := Tok × Tok × Tok × Tok) (fun q8 g8 => []) (fun q8 g8 => [boxE zK ((q8.1.l, q8.1.at_, (q8.1.m.name, q8.1.m.tagging, (TList.mk g8.1 q8.1.m.names), (TList.mk g8.2.1 q8.1.m.types), (Vh.mk zL q8.1.m.nodes.length)), q8.1.e, q8.1.p) : ((List GTok) × Int × (Str × Int × (TList Str) × (TList Int) × Vh) × Int × Int)), tokE g8.1, tokE g8.2.1, vecE zL (q8.1.m.nodes : List GNode), boxE zaY ((q8.2.kind, q8.2.name, q8.2.mark, q8.2.con, (TList.mk g8.2.2.1 q8.2.items), (TList.mk g8.2.2.2 q8.2.fields), q8.2.root, q8.2.more, q8.2.of) : (Int × Str × GMark × GCon × (TList GItem) × (TList GFld) × Int × Bool × Int)), tokE g8.2.2.1, tokE g8.2.2.2]) h (t_a_x1, t_a_x2, t_a_n_4, t_a_n_5) zd (.cons .here (.cons .here (.cons .here k4))) (fun L9 q8 g8 Q82 h hL9 eL9 rL9 => zj (wsr (oM rfl (oV (zu rfl) (oV (zag rfl zbm zch) (oT (zM (R := isv (q8.1.e)) ty65 rfl .here hI (oV (zao rfl rfl) ?_)))))))))
 refine rnf (zg h rfl (fun _ h => ?_) (fun _ h => ?_))
 ·refine wkf (zq (zj (wsr (oM rfl (oV (zu rfl) (oV (zag rfl ze4 zey) (oT (zM (R := appv g8.2.2.1 (q8.2.items)) ty84 rfl (.there (.there tI)) isvT1 (oV (zaR (l := q8.2.items) rfl zF sl84) ?_)))))))))
  refine oV (zbu rfl rfl) (oM rfl (zau (jb 22) je .nil h 6 rfl (fun q46 g46 h => ?_) (fun J47 h hJ47 => ?_)))
  ·refine oM rfl (zau (ι := Bool × GPar) (γ := Tok × Tok) (fun q49 g49 => [(26, isv (q49.1))]) (fun q49 g49 => [boxE zK ((q49.2.l, q49.2.at_, (q49.2.m.name, q49.2.m.tagging, (TList.mk g49.1 q49.2.m.names), (TList.mk g49.2 q49.2.m.types), (Vh.mk zL q49.2.m.nodes.length)), q49.2.e, q49.2.p) : ((List GTok) × Int × (Str × Int × (TList Str) × (TList Int) × Vh) × Int × Int)), tokE g49.1, tokE g49.2, vecE zL (q49.2.m.nodes : List GNode)]) k4 h 3 rfl (fun q49 g49 h => ?_) (fun J50 h hJ50 => ?_))
   ·refine rnf (zdB (ι := GPar × GNode) (γ := Tok × Tok × Tok × Tok) (fun q55 g55 => []) (fun q55 g55 => [boxE zK ((q55.1.l, q55.1.at_, (q55.1.m.name, q55.1.m.tagging, (TList.mk g55.1 q55.1.m.names), (TList.mk g55.2.1 q55.1.m.types), (Vh.mk zL q55.1.m.nodes.length)), q55.1.e, q55.1.p) : ((List GTok) × Int × (Str × Int × (TList Str) × (TList Int) × Vh) × Int × Int)), tokE g55.1, tokE g55.2.1, vecE zL (q55.1.m.nodes : List GNode), boxE zaY ((q55.2.kind, q55.2.name, q55.2.mark, q55.2.con, (TList.mk g55.2.2.1 q55.2.items), (TList.mk g55.2.2.2 q55.2.fields), q55.2.root, q55.2.more, q55.2.of) : (Int × Str × GMark × GCon × (TList GItem) × (TList GFld) × Int × Bool × Int)), tokE g55.2.2.1, tokE g55.2.2.2]) (.cons .here (.cons (.there tI) (.cons .here k4))) h (fun q55 g55 h => ?_) (fun J56 h hJ56 => ?_))
    ·refine wsr (oM rfl (zb h fun y79 hy79 h => oT (zN (zQ hy79) hT (s2 rfl rfl) k4 (fun R H' hR => ?_))))
     obtain ⟨t80, t81, rfl, rfl⟩ := hR
     refine oV (zbq rfl) (rnf (zg h rfl (fun _ h => ?_) (fun _ h => ?_)))
     ·exact zad (zgM rfl (eL9 _ _ (zE (hJ7 _ (t80, t81, g55.2.2.1, g55.2.2.2) h _ (ze 18 rfl rfl zd (.cons .here (.cons .here (.cons .here k4))))))))
     exact zac (zi (hL9 _ (t80, t81, g55.2.2.1, g55.2.2.2) h _ (ze 18 rfl rfl zd (.cons .here (.cons .here (.cons .here k4))))))
    refine zg h rfl (fun _ h => ?_) (fun _ h => ?_)
    ·refine zh (oM rfl (oM rfl (oM rfl (oV (zu rfl) (oV (zag rfl ze4 zey) (oT (zM (R := appv g8.2.2.1 (q8.2.items)) ty84 rfl (.there (.there tI)) isvT1 (oV (zaR (l := q8.2.items) rfl zF sl84) (oV (zu rfl) ?_)))))))))
     exact oV (zag rfl zen zeX) (oT (zm (y' := ((q8.2.kind, q8.2.name, q8.2.mark, q8.2.con, (TList.mk g8.2.2.1 q8.2.items), (TList.mk g8.2.2.2 q8.2.fields), q8.2.root, true, q8.2.of) : (Int × Str × GMark × GCon × (TList GItem) × (TList GFld) × Int × Bool × Int))) ty4 rfl rfl hI (.there (.there tI)) rfl (oV (zu rfl) (oV (zag rfl zhd zfz) (oT (zm (y' := ((q8.2.kind, q8.2.name, q8.2.mark, q8.2.con, (TList.mk g8.2.2.1 q8.2.items), (TList.mk g8.2.2.2 q8.2.fields), (q8.2.items.length : Int), true, q8.2.of) : (Int × Str × GMark × GCon × (TList GItem) × (TList GFld) × Int × Bool × Int))) ty3 rfl rfl hI .here rfl (zw (hJ56 _ (g49.1, g49.2, g8.2.2.1, g8.2.2.2) h _ (ze 11 rfl rfl zd (.cons tH (.cons tH (.cons tH (.cons tH k3)))))))))))))
    refine wsr (oM rfl (zb h fun y57 hy57 h => oT (zN (zcw hy57) hT (s2 rfl rfl) k4 (fun R H' hR => ?_))))
    obtain ⟨t58, t59, rfl, rfl⟩ := hR
    refine oV (zaC (z := (GItem.mk y57.1 (0 : Int) false)) rfl bu97 ze97 (.cons GItem.f0 zkm rfl hI .nil)) (oT (zaf _ ze97 fun b60 => oT (zm (y' := ((GItem.mk y57.1 (0 : Int) false) : GItem)) ty97 rfl rfl hI .here rfl (rnf (zj (wsr (oM rfl (zb h fun y61 hy61 h => oT (zN (zQ hy61) hT (s2 rfl rfl) (.cons tH (.cons tH (.cons tH (.cons tH .nil)))) (fun R H' hR => ?_))))))))))
    obtain ⟨t62, t63, rfl, rfl⟩ := hR
    refine rnf (zdB (ι := GPar × GItem) (γ := Tok × Tok) (fun q64 g64 => []) (fun q64 g64 => [boxE zK ((q64.1.l, q64.1.at_, (q64.1.m.name, q64.1.m.tagging, (TList.mk g64.1 q64.1.m.names), (TList.mk g64.2 q64.1.m.types), (Vh.mk zL q64.1.m.nodes.length)), q64.1.e, q64.1.p) : ((List GTok) × Int × (Str × Int × (TList Str) × (TList Int) × Vh) × Int × Int)), tokE g64.1, tokE g64.2, vecE zL (q64.1.m.nodes : List GNode), boxE b60 (q64.2 : GItem)]) (.cons .here (.cons (.there tI) k3)) h (fun q64 g64 h => ?_) (fun J65 h hJ65 => ?_))
    ·refine zc7 4 (.there (.there tI)) rfl (fun o72 hn73 => zS (.v 0 (.v 1 (.v 2 (.v 3 (.v 5 (.alt 4 (.t 6 (.t 7 (.v 8 (.v 9 (.t 10 .nil))))) (.t 6 (.t 4 (.t 7 (.v 8 (.v 9 (.t 10 .nil)))))))))))) moOrd (by kernel_rfl) ?_)
     refine rvm rfl rfl (rvm rfl rfl (zo rfl (zu rfl) (zo rfl (zag rfl ze4 zey) (zo rfl (zdk (R := isv (q64.2)) ty97 rfl (List.Mem.head _) hI) (zal h fun q76 h => zbv ?_ ?_)))))
     ·exact zR rfl rfl (zM (R := appv g8.2.2.1 (q8.2.items)) ty84 rfl (.there (.there tI)) isvT1 (zR rfl rfl (zY (l := ([q64.2] : (List GItem))) el84 (.cons rfl hI .nil) rfl rfl (zR rfl rfl (zaZ (l := q8.2.items) (m := ([q64.2] : (List GItem))) ziH rfl hI rfl zF (.there (.there (.there tI))) q76 fun t75 => zo rfl (zu rfl) (zo rfl (zag rfl ze4 zey) (zR rfl rfl (zm (y' := ((q8.2.kind, q8.2.name, q8.2.mark, q8.2.con, (TList.mk t75 (q8.2.items ++ ([q64.2] : (List GItem)))), (TList.mk g8.2.2.2 q8.2.fields), q8.2.root, q8.2.more, q8.2.of) : (Int × Str × GMark × GCon × (TList GItem) × (TList GFld) × Int × Bool × Int))) ty84 rfl rfl isvT2 (.there (.there (.there tI))) rfl (zab (zaO 4 hn73 rfl (hJ56 _ (g64.1, g64.2, t75, g8.2.2.2) h _ (ze 18 rfl rfl zd (.cons (.there tI) (.cons (.there tI) (.cons (.there tI) (.cons (.there tI) (.cons tH (.cons tH (.cons tH .nil)))))))))))))))))))
     exact zR rfl rfl (zY (l := ([q64.2] : (List GItem))) el84 (.cons rfl hI .nil) rfl rfl (zR rfl rfl (zM (R := appv g8.2.2.1 (q8.2.items)) ty84 rfl (.there (.there tI)) isvT1 (zR rfl rfl (zaZ (l := q8.2.items) (m := ([q64.2] : (List GItem))) ziH rfl hI rfl zF (.there (.there (.there tI))) q76 fun t78 => zo rfl (zu rfl) (zo rfl (zag rfl ze4 zey) (zR rfl rfl (zm (y' := ((q8.2.kind, q8.2.name, q8.2.mark, q8.2.con, (TList.mk t78 (q8.2.items ++ ([q64.2] : (List GItem)))), (TList.mk g8.2.2.2 q8.2.fields), q8.2.root, q8.2.more, q8.2.of) : (Int × Str × GMark × GCon × (TList GItem) × (TList GFld) × Int × Bool × Int))) ty84 rfl rfl isvT2 (.there (.there (.there tI))) rfl (zab (zaO 4 hn73 rfl (hJ56 _ (g64.1, g64.2, t78, g8.2.2.2) h _ (ze 18 rfl rfl zd (.cons (.there tI) (.cons (.there tI) (.cons (.there tI) (.cons (.there tI) (.cons tH (.cons tH (.cons tH .nil)))))))))))))))))))
    refine zg h rfl (fun _ h => ?_) (fun _ h => ?_)
    ·refine wsr (oM rfl (zb h fun y66 hy66 h => oT (zN (zcA hy66) hT (s1 rfl) k4 (fun R H' hR => ?_))))
     obtain ⟨t67, t68, rfl, rfl⟩ := hR
     refine oV (zag rfl GItem.f2 zh7) (oT (zm (y' := ((GItem.mk y57.1 (0 : Int) true) : GItem)) ty4 rfl rfl hI (.there (.there tI)) rfl (oV (zag rfl GItem.f1 zc6) (oT (zm (y' := ((GItem.mk y57.1 y66.1 true) : GItem)) ty2 rfl rfl hI .here rfl (rnf (zh (oM rfl (zb h fun y69 hy69 h => oT (zN (zai hy69) hT (s2 rfl rfl) (.cons tH (.cons tH (.cons tH (.cons tH .nil)))) (fun R H' hR => ?_)))))))))))
     obtain ⟨t70, t71, rfl, rfl⟩ := hR
     exact zw (hJ65 _ (t70, t71) h _ (ze 6 rfl rfl zd (.cons .here (.cons .here (.cons .here (.cons .here k4))))))
    exact zac (hJ65 _ (t62, t63) h _ (ze 0 rfl rfl zd (.cons .here (.cons .here (.cons .here (.cons .here k4))))))
   refine zB (j := 23) h rfl (fun g51 h => ?_) (fun g51 h => ?_)
   ·refine oK 23 rfl rfl rfl g51 (zt rfl) (zb h fun y52 hy52 h => zaD rfl rfl (dj := 23) rfl g51 (zN (zQ hy52) hT (s2 rfl rfl) k4 (fun R H' hR => ?_)))
    obtain ⟨t53, t54, rfl, rfl⟩ := hR
    exact oV (zs rfl g51 rfl) (hJ50 _ (t53, t54) h _ (ze 3 rfl rfl (za (j := 26) rfl hI zd) (.cons .here (.cons .here (.cons .here k4)))))
   exact oP 23 rfl rfl g51 (oP 23 rfl rfl g51 (oV (zr rfl g51 rfl) (hJ50 _ (g8.1, g8.2.1) h _ (ze 3 rfl rfl (za (j := 26) rfl hI zd) (.cons .here (.cons .here (.cons .here k4)))))))
  refine zB (j := 16) h rfl (fun g48 h => ?_) (fun g48 h => ?_)
  ·exact oK 16 rfl rfl rfl g48 (zt rfl) (oK 16 rfl rfl rfl g48 (zu rfl) (oK 16 rfl rfl rfl g48 (zag rfl zen zeX) (zaD rfl rfl (dj := 16) rfl g48 (zM (R := isv (q8.2.more)) ty4 rfl (.there (.there tI)) hI (oK 16 rfl rfl rfl g48 (zbq rfl) (oV (zs rfl g48 rfl) (hJ47 _ () h _ (ze 6 rfl rfl (za (j := 22) rfl hI zd) (.cons .here (.cons .here (.cons .here k4)))))))))))
  exact oP 16 rfl rfl g48 (oP 16 rfl rfl g48 (oP 16 rfl rfl g48 (oP 16 rfl rfl g48 (oP 16 rfl rfl g48 (oV (zr rfl g48 rfl) (hJ47 _ () h _ (ze 6 rfl rfl (za (j := 22) rfl hI zd) (.cons .here (.cons .here (.cons .here k4))))))))))
 exact zad (zU (eL9 _ _ (zE (hJ7 _ (g8.1, g8.2.1, g8.2.2.1, g8.2.2.2) h _ (ze 5 rfl rfl zd (.cons .here (.cons .here (.cons .here k4))))))))


theorem zmE : ∀ {a_s : Str} {r : (List UInt8)}, zhQ a_s = some r → Ctr Tryz.prog 192 [isv (a_s)] [] (fun R H => R = oneOf [isv (r)] ∧ H = []) := by
 intro a_s r h
 unfold zhQ at h
 refine zp Tryz.func192 rfl fun w0 S0 hT => wsr (oA rfl (rnf (wsr (oA rfl (rnf (zj (wsr ?_)))))))
 refine oA rfl (rnf (zq (zfH (zaI) (zaN (ι := (List UInt8) × Int) (γ := Tok) (fun q1 g1 => [(3, appv g1 (q1.1)), (4, isv (q1.2))]) (fun q1 g1 => [tokE g1]) h (none) (za (j := 3) rfl zbn (za (j := 4) rfl hI zd)) k1 (fun L2 q1 g1 Q60 h hL2 eL2 rL2 => zj (wsr (oM rfl (zz h fun q31 h => ?_))))))))
 refine oV (zaa rfl rfl q31) (oM rfl (oV (zdJ st9 rfl) (oV (zaj rfl rfl) (rnf (zg h rfl (fun _ h => ?_) (fun _ h => ?_))))))
 ·refine wkf (zj (zq (wsr (oA rfl (rnf (zj (wsr (oM rfl ?_))))))))
  refine oA rfl (rnf (zq (zaN (ι := UInt8 × Int) (γ := Unit) (fun q32 g32 => [(5, isv (q32.1)), (6, isv (q32.2))]) (fun q32 g32 => []) h () (za (j := 5) rfl hI (za (j := 6) rfl hI zd)) .nil (fun L33 q32 g32 Q58 h hL33 eL33 rL33 => zj (wsr (oM rfl (oM rfl (zz h fun q46 h => ?_))))))))
  refine oV (zaa rfl rfl q46) (oV (zaj rfl rfl) (rnf (zg h rfl (fun _ h => ?_) (fun _ h => ?_))))
  ·refine wkf (zj (zq (wsr (oM rfl (oM rfl (zb h fun y47 hy47 h => oV (zbM y47 st9 rfl rfl hy47) (oV (zj9 rfl rfl) ?_)))))))
   refine oA rfl (rnf (zj (wsr (oM rfl (oM rfl (zb h fun y48 hy48 h => oV (zbM y48 st9 rfl rfl hy48) (oV (ziP rfl rfl) ?_)))))))
   refine rnf (zdB (ι := UInt8) (γ := Unit) (fun q49 g49 => [(7, isv (q49))]) (fun q49 g49 => []) .nil h (fun q49 g49 h => ?_) (fun J50 h hJ50 => ?_))
   ·refine zh (oM rfl (zal h fun q52 h => oV (zoU rfl rfl q52) (oM rfl (oV (zpg rfl rfl) (oA rfl (zw (zi ?_)))))))
    exact zx (zh (oM rfl (zz h fun q53 h => oV (zaa rfl rfl q53) (oA rfl (zw (hL33 _ () h _ (ze 24 rfl rfl (za (j := 5) rfl hI (za (j := 6) rfl hI zd)) k1)))))))
   refine zg h rfl (fun _ h => ?_) (fun _ h => ?_)
   ·refine zh (oM rfl (oM rfl (zb h fun y51 hy51 h => oV (zbM y51 st9 rfl rfl hy51) (oV (zj9 rfl rfl) (oV (zoV rfl rfl) (oA rfl (zw ?_)))))))
    exact hJ50 _ () h _ (jk 6 7 rfl rfl rfl)
   exact zac (hJ50 _ () h _ (jk 0 7 rfl rfl rfl))
  refine zad (zU (eL33 _ _ (zE (zx (zh (oM rfl (oM rfl (oT (zY (l := ([q32.1] : (List UInt8))) el42 (.cons rfl hI .nil) rfl rfl ?_)))))))))
  refine zal h fun q56 h => oT (zaZ (l := q1.1) (m := ([q32.1] : (List UInt8))) zod rfl hI rfl zF .here q56 fun t55 => oA rfl (zw (zi (zx (zh (oM rfl (zz h fun q57 h => ?_)))))))
  exact oV (zaa rfl rfl q57) (oA rfl (zw (hL2 _ (t55) h _ (ze 24 rfl rfl (za (j := 3) rfl hI (za (j := 4) rfl hI zd)) k1))))
 refine zad (zU (eL2 _ _ (zE (zx (wsr (oM rfl (oA rfl (rnf ?_))))))))
 refine zJ ?_
 cases h
 exact zk (.as rfl zF .nil) .nil ⟨rfl, rfl⟩


theorem zhv : ∀ {a_x : GPar} {zK : Nat} {t_a_x1 : Tok} {t_a_x2 : Tok} {zL : Vt} {r : Val × GPar}, zcL a_x = some r → Ctr Tryz.prog 185 [ptrv zK (Fld.id ((List GTok) × Int × (Str × Int × (TList Str) × (TList Int) × Vh) × Int × Int))] [boxE zK ((a_x.l, a_x.at_, (a_x.m.name, a_x.m.tagging, (TList.mk t_a_x1 a_x.m.names), (TList.mk t_a_x2 a_x.m.types), (Vh.mk zL a_x.m.nodes.length)), a_x.e, a_x.p) : ((List GTok) × Int × (Str × Int × (TList Str) × (TList Int) × Vh) × Int × Int)), tokE t_a_x1, tokE t_a_x2, vecE zL (a_x.m.nodes : List GNode)] (fun R H => ∃ u1 : Tok, ∃ u2 : Tok, R = oneOf [isv (r.1)] ∧ H = [boxE zK ((r.2.l, r.2.at_, (r.2.m.name, r.2.m.tagging, (TList.mk u1 r.2.m.names), (TList.mk u2 r.2.m.types), (Vh.mk zL r.2.m.nodes.length)), r.2.e, r.2.p)), tokE u1, tokE u2, vecE zL (r.2.m.nodes)]) := by
 intro a_x zK t_a_x1 t_a_x2 zL r h
 unfold zcL at h
 refine zp Tryz.func185 rfl fun w0 S0 hT => wsr (oT (zaf _ ze46 fun b4 => rnf (wsr (oM rfl (zb h fun y5 hy5 h => oT (zN (zaK hy5) hT (s1 rfl) (.cons tH (.cons tH (.cons tH (.cons tH .nil)))) (fun R H' hR => ?_)))))))
 obtain ⟨t6, t7, rfl, rfl⟩ := hR
 refine oT (zaf _ ze133 fun b8 => oT (zm (y' := (y5.1 : GTok)) ty133 rfl rfl hI .here rfl (zG (zaq 3 .here rfl) (rnf (zj (zdB (ι := GPar) (γ := Tok × Tok) (fun q9 g9 => []) (fun q9 g9 => [boxE zK ((q9.l, q9.at_, (q9.m.name, q9.m.tagging, (TList.mk g9.1 q9.m.names), (TList.mk g9.2 q9.m.types), (Vh.mk zL q9.m.nodes.length)), q9.e, q9.p) : ((List GTok) × Int × (Str × Int × (TList Str) × (TList Int) × Vh) × Int × Int)), tokE g9.1, tokE g9.2, vecE zL (q9.m.nodes : List GNode)]) k4 h (fun q9 g9 h => ?_) (fun J10 h hJ10 => ?_)))))))
 ·refine wsr (oV (zaC (z := (Val.mk (0 : Int) (0 : Int) ([] : (List UInt8)) ([] : (List Val)) (0 : Int) ([] : (List Raw)))) rfl bu46 ze46 .nil) (oT (zm (y' := ((Val.mk (0 : Int) (0 : Int) ([] : (List UInt8)) ([] : (List Val)) (0 : Int) ([] : (List Raw))) : Val)) ty46 rfl rfl hI (.there (.there tI)) rfl (rnf (zJ (zk (.cell rfl .here ty46 .nil) (.cons tH (.cons tH (.cons tH (.cons tH .nil)))) ?_))))))
  cases h
  exact ⟨g9.1, g9.2, rfl, rfl⟩
 refine zq (wsr (oM rfl (oV (zu rfl) (oV (zag rfl zbm zch) (oT (zM (R := isv (y5.2.e)) ty65 rfl .here hI (oV (zbo rfl rfl) (oA rfl (rnf ?_)))))))))
 refine zg h rfl (fun _ h => ?_) (fun _ h => ?_)
 ·exact zac (zi (hJ10 _ (t6, t7) h _ (ze 6 rfl rfl zd (.cons .here k4))))
 refine wsr (oM rfl (zb h fun y11 hy11 h => oT (zN (zQ hy11) hT (s2 rfl rfl) k4 (fun R H' hR => ?_))))
 obtain ⟨t12, t13, rfl, rfl⟩ := hR
 refine oA rfl (rnf (zg h rfl (fun _ h => ?_) (fun _ h => ?_)))
 ·refine wsr (oV (zaC (z := (Val.mk (1 : Int) (1 : Int) ([] : (List UInt8)) ([] : (List Val)) (0 : Int) ([] : (List Raw)))) rfl bu46 ze46 (.cons Val.f0 zgl rfl hI (.cons Val.f1 zjS rfl hI .nil))) (oT (zm (y' := ((Val.mk (1 : Int) (1 : Int) ([] : (List UInt8)) ([] : (List Val)) (0 : Int) ([] : (List Raw))) : Val)) ty46 rfl rfl hI (.there (.there tI)) rfl (rnf (zJ (zH (zA (zk (.cell rfl .here ty46 .nil) (.cons tH (.cons tH (.cons tH (.cons tH .nil)))) ?_))))))))
  cases h
  exact ⟨t12, t13, rfl, rfl⟩
 refine wsr (oM rfl (zb h fun y14 hy14 h => oT (zN (zQ hy14) hT (s2 rfl rfl) k4 (fun R H' hR => ?_))))
 obtain ⟨t15, t16, rfl, rfl⟩ := hR
 refine oA rfl (rnf (zg h rfl (fun _ h => ?_) (fun _ h => ?_)))
 ·refine wsr (oV (zaC (z := (Val.mk (1 : Int) (0 : Int) ([] : (List UInt8)) ([] : (List Val)) (0 : Int) ([] : (List Raw)))) rfl bu46 ze46 (.cons Val.f0 zgl rfl hI .nil)) (oT (zm (y' := ((Val.mk (1 : Int) (0 : Int) ([] : (List UInt8)) ([] : (List Val)) (0 : Int) ([] : (List Raw))) : Val)) ty46 rfl rfl hI (.there (.there tI)) rfl (rnf (zJ (zH (zA (zk (.cell rfl .here ty46 .nil) (.cons tH (.cons tH (.cons tH (.cons tH .nil)))) ?_))))))))
  cases h
  exact ⟨t15, t16, rfl, rfl⟩
 refine wsr (oM rfl (zb h fun y17 hy17 h => oT (zN (zQ hy17) hT (s2 rfl rfl) k4 (fun R H' hR => ?_))))
 obtain ⟨t18, t19, rfl, rfl⟩ := hR
 refine oA rfl (rnf (zg h rfl (fun _ h => ?_) (fun _ h => ?_)))
 ·refine wsr (oV (zaC (z := (Val.mk (4 : Int) (0 : Int) ([] : (List UInt8)) ([] : (List Val)) (0 : Int) ([] : (List Raw)))) rfl bu46 ze46 (.cons Val.f0 zgl rfl hI .nil)) (oT (zm (y' := ((Val.mk (4 : Int) (0 : Int) ([] : (List UInt8)) ([] : (List Val)) (0 : Int) ([] : (List Raw))) : Val)) ty46 rfl rfl hI (.there (.there tI)) rfl (rnf (zJ (zH (zA (zk (.cell rfl .here ty46 .nil) (.cons tH (.cons tH (.cons tH (.cons tH .nil)))) ?_))))))))
  cases h
  exact ⟨t18, t19, rfl, rfl⟩
 refine wsr (oV (zW rfl GTok.f0 zb5 rfl (z := y5.1.kind)) (oV (zf ty3 rfl) (oV (zao rfl rfl) (oA rfl (rnf (zg h rfl (fun _ h => ?_) (fun _ h => ?_)))))))
 ·refine wsr (oM rfl (zb h fun y20 hy20 h => oT (zN (zbz hy20) hT (s1 rfl) k4 (fun R H' hR => ?_))))
  obtain ⟨t21, t22, rfl, rfl⟩ := hR
  refine oV (zg6 GTok.f1 rfl zdd rfl) (zb h fun y23 hy23 h => oT (zy (ziw hy23) hT (s1 rfl) .nil (oV (zaC (z := (Val.mk (2 : Int) y23 ([] : (List UInt8)) ([] : (List Val)) (0 : Int) ([] : (List Raw)))) rfl bu46 ze46 (.cons Val.f0 zgl rfl hI (.cons Val.f1 zjS rfl hI .nil))) (oT (zm (y' := ((Val.mk (2 : Int) y23 ([] : (List UInt8)) ([] : (List Val)) (0 : Int) ([] : (List Raw))) : Val)) ty46 rfl rfl hI (.there (.there tI)) rfl (rnf (zJ (zH (zA ?_)))))))))
  refine zk (.cell rfl .here ty46 .nil) (.cons tH (.cons tH (.cons tH (.cons tH .nil)))) ?_
  cases h
  exact ⟨t21, t22, rfl, rfl⟩
 refine wsr (oV (zW rfl GTok.f0 zb5 rfl (z := y5.1.kind)) (oV (zf ty3 rfl) (oV (zao rfl rfl) (oA rfl (rnf (zg h rfl (fun _ h => ?_) (fun _ h => ?_)))))))
 ·refine wsr (oM rfl (zb h fun y24 hy24 h => oT (zN (zbz hy24) hT (s1 rfl) k4 (fun R H' hR => ?_))))
  obtain ⟨t25, t26, rfl, rfl⟩ := hR
  refine oV (zg6 GTok.f1 rfl zdd rfl) (zal h fun q27 h => oT (zpq Tryz.underlying9 Tryz.underlying42 Tryz.underlying5 rfl q27 (oV (zaC (z := (Val.mk (3 : Int) (0 : Int) y24.1.text.b ([] : (List Val)) (0 : Int) ([] : (List Raw)))) rfl bu46 ze46 (.cons Val.f0 zgl rfl hI (.cons Val.f2 zia rfl hI .nil))) (oT (zm (y' := ((Val.mk (3 : Int) (0 : Int) y24.1.text.b ([] : (List Val)) (0 : Int) ([] : (List Raw))) : Val)) ty46 rfl rfl hI (.there (.there tI)) rfl (rnf (zJ (zH (zA ?_)))))))))
  refine zk (.cell rfl .here ty46 .nil) (.cons tH (.cons tH (.cons tH (.cons tH .nil)))) ?_
  cases h
  exact ⟨t25, t26, rfl, rfl⟩
 refine wsr (oV (zW rfl GTok.f0 zb5 rfl (z := y5.1.kind)) (oV (zf ty3 rfl) (oV (zao rfl rfl) (oA rfl (rnf (zg h rfl (fun _ h => ?_) (fun _ h => ?_)))))))
 ·refine wsr (oM rfl (zb h fun y28 hy28 h => oT (zN (zbz hy28) hT (s1 rfl) k4 (fun R H' hR => ?_))))
  obtain ⟨t29, t30, rfl, rfl⟩ := hR
  refine oV (zg6 GTok.f1 rfl zdd rfl) (zb h fun y31 hy31 h => oT (zy (zmE hy31) hT (s1 rfl) .nil (oV (zaC (z := (Val.mk (5 : Int) (0 : Int) y31 ([] : (List Val)) (0 : Int) ([] : (List Raw)))) rfl bu46 ze46 (.cons Val.f0 zgl rfl hI (.cons Val.f2 zia rfl hI .nil))) (oT (zm (y' := ((Val.mk (5 : Int) (0 : Int) y31 ([] : (List Val)) (0 : Int) ([] : (List Raw))) : Val)) ty46 rfl rfl hI (.there (.there tI)) rfl (rnf (zJ (zH (zA ?_)))))))))
  refine zk (.cell rfl .here ty46 .nil) (.cons tH (.cons tH (.cons tH (.cons tH .nil)))) ?_
  cases h
  exact ⟨t29, t30, rfl, rfl⟩
 refine wsr (oV (zW rfl GTok.f0 zb5 rfl (z := y5.1.kind)) (oV (zf ty3 rfl) (oV (zao rfl rfl) (oA rfl (rnf (zg h rfl (fun _ h => ?_) (fun _ h => ?_)))))))
 ·refine wsr (oM rfl (zb h fun y32 hy32 h => oT (zN (zbz hy32) hT (s1 rfl) k4 (fun R H' hR => ?_))))
  obtain ⟨t33, t34, rfl, rfl⟩ := hR
  refine oV (zg6 GTok.f1 rfl zdd rfl) (zal h fun q35 h => oT (zpq Tryz.underlying9 Tryz.underlying42 Tryz.underlying5 rfl q35 (oV (zaC (z := (Val.mk (6 : Int) (0 : Int) y32.1.text.b ([] : (List Val)) (0 : Int) ([] : (List Raw)))) rfl bu46 ze46 (.cons Val.f0 zgl rfl hI (.cons Val.f2 zia rfl hI .nil))) (oT (zm (y' := ((Val.mk (6 : Int) (0 : Int) y32.1.text.b ([] : (List Val)) (0 : Int) ([] : (List Raw))) : Val)) ty46 rfl rfl hI (.there (.there tI)) rfl (rnf (zJ (zH (zA ?_)))))))))
  refine zk (.cell rfl .here ty46 .nil) (.cons tH (.cons tH (.cons tH (.cons tH .nil)))) ?_
  cases h
  exact ⟨t33, t34, rfl, rfl⟩
 refine zh (oM rfl (oV (zf ty133 rfl) (zb h fun y36 hy36 h => oT (zN (za9 hy36) hT (s3 rfl rfl rfl) k4 (fun R H' hR => ?_)))))
 obtain ⟨t37, t38, rfl, rfl⟩ := hR
 exact zw (zi (hJ10 _ (t37, t38) h _ (ze 34 rfl rfl zd (.cons .here k4))))

end Go.Proofs.Q


namespace Go.Proofs.Q
open Go.Sy
set_option maxRecDepth 4000
def zcb (f' : GPar → GNode → Int → Int → Option (GPar × GNode)) : Prop :=
 ∀ {a_x : GPar} {a_n_ : GNode} {zZ : Int} {zct : Int} {zK : Nat} {t_a_x1 : Tok} {t_a_x2 : Tok} {zL : Vt} {zaY : Nat} {t_a_n_4 : Tok} {t_a_n_5 : Tok} {r : GPar × GNode}, f' a_x a_n_ zZ zct = some r → Ctr Tryz.prog 173 [ptrv zK (Fld.id ((List GTok) × Int × (Str × Int × (TList Str) × (TList Int) × Vh) × Int × Int)), ptrv zaY (Fld.id (Int × Str × GMark × GCon × (TList GItem) × (TList GFld) × Int × Bool × Int)), isv (zZ), isv (zct)] [boxE zK ((a_x.l, a_x.at_, (a_x.m.name, a_x.m.tagging, (TList.mk t_a_x1 a_x.m.names), (TList.mk t_a_x2 a_x.m.types), (Vh.mk zL a_x.m.nodes.length)), a_x.e, a_x.p) : ((List GTok) × Int × (Str × Int × (TList Str) × (TList Int) × Vh) × Int × Int)), tokE t_a_x1, tokE t_a_x2, vecE zL (a_x.m.nodes : List GNode), boxE zaY ((a_n_.kind, a_n_.name, a_n_.mark, a_n_.con, (TList.mk t_a_n_4 a_n_.items), (TList.mk t_a_n_5 a_n_.fields), a_n_.root, a_n_.more, a_n_.of) : (Int × Str × GMark × GCon × (TList GItem) × (TList GFld) × Int × Bool × Int)), tokE t_a_n_4, tokE t_a_n_5] (fun R H => ∃ u1 : Tok, ∃ u2 : Tok, ∃ u3 : Vt, ∃ u4 : Tok, ∃ u5 : Tok, R = oneOf [] ∧ H = [boxE zK ((r.1.l, r.1.at_, (r.1.m.name, r.1.m.tagging, (TList.mk u1 r.1.m.names), (TList.mk u2 r.1.m.types), (Vh.mk u3 r.1.m.nodes.length)), r.1.e, r.1.p)), tokE u1, tokE u2, vecE u3 (r.1.m.nodes), boxE zaY ((r.2.kind, r.2.name, r.2.mark, r.2.con, (TList.mk u4 r.2.items), (TList.mk u5 r.2.fields), r.2.root, r.2.more, r.2.of)), tokE u4, tokE u5])
def zb7 (f' : GPar → Int → Option (Int × GPar)) : Prop :=
 ∀ {a_x : GPar} {zZ : Int} {zK : Nat} {t_a_x1 : Tok} {t_a_x2 : Tok} {zL : Vt} {r : Int × GPar}, f' a_x zZ = some r → Ctr Tryz.prog 75 [ptrv zK (Fld.id ((List GTok) × Int × (Str × Int × (TList Str) × (TList Int) × Vh) × Int × Int)), isv (zZ)] [boxE zK ((a_x.l, a_x.at_, (a_x.m.name, a_x.m.tagging, (TList.mk t_a_x1 a_x.m.names), (TList.mk t_a_x2 a_x.m.types), (Vh.mk zL a_x.m.nodes.length)), a_x.e, a_x.p) : ((List GTok) × Int × (Str × Int × (TList Str) × (TList Int) × Vh) × Int × Int)), tokE t_a_x1, tokE t_a_x2, vecE zL (a_x.m.nodes : List GNode)] (fun R H => ∃ u1 : Tok, ∃ u2 : Tok, ∃ u3 : Vt, R = oneOf [isv (r.1)] ∧ H = [boxE zK ((r.2.l, r.2.at_, (r.2.m.name, r.2.m.tagging, (TList.mk u1 r.2.m.names), (TList.mk u2 r.2.m.types), (Vh.mk u3 r.2.m.nodes.length)), r.2.e, r.2.p)), tokE u1, tokE u2, vecE u3 (r.2.m.nodes)])
def zcu (f' : GPar → GNode → Int → Option (GPar × GNode)) : Prop :=
 ∀ {a_x : GPar} {a_n_ : GNode} {zZ : Int} {zK : Nat} {t_a_x1 : Tok} {t_a_x2 : Tok} {zL : Vt} {zaY : Nat} {t_a_n_4 : Tok} {t_a_n_5 : Tok} {r : GPar × GNode}, f' a_x a_n_ zZ = some r → Ctr Tryz.prog 107 [ptrv zK (Fld.id ((List GTok) × Int × (Str × Int × (TList Str) × (TList Int) × Vh) × Int × Int)), ptrv zaY (Fld.id (Int × Str × GMark × GCon × (TList GItem) × (TList GFld) × Int × Bool × Int)), isv (zZ)] [boxE zK ((a_x.l, a_x.at_, (a_x.m.name, a_x.m.tagging, (TList.mk t_a_x1 a_x.m.names), (TList.mk t_a_x2 a_x.m.types), (Vh.mk zL a_x.m.nodes.length)), a_x.e, a_x.p) : ((List GTok) × Int × (Str × Int × (TList Str) × (TList Int) × Vh) × Int × Int)), tokE t_a_x1, tokE t_a_x2, vecE zL (a_x.m.nodes : List GNode), boxE zaY ((a_n_.kind, a_n_.name, a_n_.mark, a_n_.con, (TList.mk t_a_n_4 a_n_.items), (TList.mk t_a_n_5 a_n_.fields), a_n_.root, a_n_.more, a_n_.of) : (Int × Str × GMark × GCon × (TList GItem) × (TList GFld) × Int × Bool × Int)), tokE t_a_n_4, tokE t_a_n_5] (fun R H => ∃ u1 : Tok, ∃ u2 : Tok, ∃ u3 : Vt, ∃ u4 : Tok, ∃ u5 : Tok, R = oneOf [] ∧ H = [boxE zK ((r.1.l, r.1.at_, (r.1.m.name, r.1.m.tagging, (TList.mk u1 r.1.m.names), (TList.mk u2 r.1.m.types), (Vh.mk u3 r.1.m.nodes.length)), r.1.e, r.1.p)), tokE u1, tokE u2, vecE u3 (r.1.m.nodes), boxE zaY ((r.2.kind, r.2.name, r.2.mark, r.2.con, (TList.mk u4 r.2.items), (TList.mk u5 r.2.fields), r.2.root, r.2.more, r.2.of)), tokE u4, tokE u5])
def zb3 (f' : GPar → GNode → Int → Option (GPar × GNode)) : Prop :=
 ∀ {a_x : GPar} {a_n_ : GNode} {zZ : Int} {zK : Nat} {t_a_x1 : Tok} {t_a_x2 : Tok} {zL : Vt} {zaY : Nat} {t_a_n_4 : Tok} {t_a_n_5 : Tok} {r : GPar × GNode}, f' a_x a_n_ zZ = some r → Ctr Tryz.prog 149 [ptrv zK (Fld.id ((List GTok) × Int × (Str × Int × (TList Str) × (TList Int) × Vh) × Int × Int)), ptrv zaY (Fld.id (Int × Str × GMark × GCon × (TList GItem) × (TList GFld) × Int × Bool × Int)), isv (zZ)] [boxE zK ((a_x.l, a_x.at_, (a_x.m.name, a_x.m.tagging, (TList.mk t_a_x1 a_x.m.names), (TList.mk t_a_x2 a_x.m.types), (Vh.mk zL a_x.m.nodes.length)), a_x.e, a_x.p) : ((List GTok) × Int × (Str × Int × (TList Str) × (TList Int) × Vh) × Int × Int)), tokE t_a_x1, tokE t_a_x2, vecE zL (a_x.m.nodes : List GNode), boxE zaY ((a_n_.kind, a_n_.name, a_n_.mark, a_n_.con, (TList.mk t_a_n_4 a_n_.items), (TList.mk t_a_n_5 a_n_.fields), a_n_.root, a_n_.more, a_n_.of) : (Int × Str × GMark × GCon × (TList GItem) × (TList GFld) × Int × Bool × Int)), tokE t_a_n_4, tokE t_a_n_5] (fun R H => ∃ u1 : Tok, ∃ u2 : Tok, ∃ u3 : Vt, ∃ u4 : Tok, ∃ u5 : Tok, R = oneOf [] ∧ H = [boxE zK ((r.1.l, r.1.at_, (r.1.m.name, r.1.m.tagging, (TList.mk u1 r.1.m.names), (TList.mk u2 r.1.m.types), (Vh.mk u3 r.1.m.nodes.length)), r.1.e, r.1.p)), tokE u1, tokE u2, vecE u3 (r.1.m.nodes), boxE zaY ((r.2.kind, r.2.name, r.2.mark, r.2.con, (TList.mk u4 r.2.items), (TList.mk u5 r.2.fields), r.2.root, r.2.more, r.2.of)), tokE u4, tokE u5])
theorem zhl {zap : GPar → GNode → Int → Int → Option (GPar × GNode)} {zay : GPar → Int → Option (Int × GPar)} {zax : GPar → GNode → Int → Option (GPar × GNode)} {zak : GPar → GNode → Int → Option (GPar × GNode)} (zcf : zcb zap) (zcP : zb7 zay) (zdc : zcu zax) (zbD : zb3 zak) : ∀ {a_x : GPar} {a_n_ : GNode} {zZ : Int} {zct : Int} {zK : Nat} {t_a_x1 : Tok} {t_a_x2 : Tok} {zL : Vt} {zaY : Nat} {t_a_n_4 : Tok} {t_a_n_5 : Tok} {r : GPar × GNode}, zca zap zay zax zak a_x a_n_ zZ zct = some r → Ctr Tryz.prog 173 [ptrv zK (Fld.id ((List GTok) × Int × (Str × Int × (TList Str) × (TList Int) × Vh) × Int × Int)), ptrv zaY (Fld.id (Int × Str × GMark × GCon × (TList GItem) × (TList GFld) × Int × Bool × Int)), isv (zZ), isv (zct)] [boxE zK ((a_x.l, a_x.at_, (a_x.m.name, a_x.m.tagging, (TList.mk t_a_x1 a_x.m.names), (TList.mk t_a_x2 a_x.m.types), (Vh.mk zL a_x.m.nodes.length)), a_x.e, a_x.p) : ((List GTok) × Int × (Str × Int × (TList Str) × (TList Int) × Vh) × Int × Int)), tokE t_a_x1, tokE t_a_x2, vecE zL (a_x.m.nodes : List GNode), boxE zaY ((a_n_.kind, a_n_.name, a_n_.mark, a_n_.con, (TList.mk t_a_n_4 a_n_.items), (TList.mk t_a_n_5 a_n_.fields), a_n_.root, a_n_.more, a_n_.of) : (Int × Str × GMark × GCon × (TList GItem) × (TList GFld) × Int × Bool × Int)), tokE t_a_n_4, tokE t_a_n_5] (fun R H => ∃ u1 : Tok, ∃ u2 : Tok, ∃ u3 : Vt, ∃ u4 : Tok, ∃ u5 : Tok, R = oneOf [] ∧ H = [boxE zK ((r.1.l, r.1.at_, (r.1.m.name, r.1.m.tagging, (TList.mk u1 r.1.m.names), (TList.mk u2 r.1.m.types), (Vh.mk u3 r.1.m.nodes.length)), r.1.e, r.1.p)), tokE u1, tokE u2, vecE u3 (r.1.m.nodes), boxE zaY ((r.2.kind, r.2.name, r.2.mark, r.2.con, (TList.mk u4 r.2.items), (TList.mk u5 r.2.fields), r.2.root, r.2.more, r.2.of)), tokE u4, tokE u5]) := by
 intro a_x a_n_ zZ zct zK t_a_x1 t_a_x2 zL zaY t_a_n_4 t_a_n_5 r h
 unfold zca at h
 refine zp Tryz.func173 rfl fun w0 S0 hT => wsr (oM rfl (zb h fun y6 hy6 h => oT (zN (zcw hy6) hT (s2 rfl rfl) k4 (fun R H' hR => ?_))))
 obtain ⟨t7, t8, rfl, rfl⟩ := hR
 refine oM rfl (oV (zaC (z := (GFld.mk y6.1 (0 : Int) false false (Val.mk (0 : Int) (0 : Int) ([] : (List UInt8)) ([] : (List Val)) (0 : Int) ([] : (List Raw))) zct)) rfl bu92 ze92 (.cons GFld.f0 zlG rfl hI (.cons GFld.f5 ziO rfl hI .nil))) (oT (zaf _ ze92 fun b9 => oT (zm (y' := ((GFld.mk y6.1 (0 : Int) false false (Val.mk (0 : Int) (0 : Int) ([] : (List UInt8)) ([] : (List Val)) (0 : Int) ([] : (List Raw))) zct) : GFld)) ty92 rfl rfl hI .here rfl (rnf (wsr (oM rfl (oM rfl (zz h fun q10 h => ?_)))))))))
 refine oV (zaa rfl rfl q10) (zb h fun y11 hy11 h => oT (zN (zcP hy11) hT (s2 rfl rfl) (.cons tH (.cons tH (.cons tH (.cons tH .nil)))) (fun R H' hR => ?_)))
 obtain ⟨t12, t13, v14, rfl, rfl⟩ := hR
 refine oV (zag rfl GFld.f1 zc9) (oT (zm (y' := ((GFld.mk y6.1 y11.1 false false (Val.mk (0 : Int) (0 : Int) ([] : (List UInt8)) ([] : (List Val)) (0 : Int) ([] : (List Raw))) zct) : GFld)) ty3 rfl rfl hI (.there (.there tI)) rfl (rnf (zj (zdB (ι := GFld × GPar) (γ := Tok × Tok) (fun q15 g15 => []) (fun q15 g15 => [boxE b9 (q15.1 : GFld), boxE zK ((q15.2.l, q15.2.at_, (q15.2.m.name, q15.2.m.tagging, (TList.mk g15.1 q15.2.m.names), (TList.mk g15.2 q15.2.m.types), (Vh.mk v14 q15.2.m.nodes.length)), q15.2.e, q15.2.p) : ((List GTok) × Int × (Str × Int × (TList Str) × (TList Int) × Vh) × Int × Int)), tokE g15.1, tokE g15.2, vecE v14 (q15.2.m.nodes : List GNode)]) (.cons .here k4) h (fun q15 g15 h => ?_) (fun J16 h hJ16 => ?_))))))
 ·refine zc7 8 .here rfl (fun o26 hn27 => zS (.v 0 (.v 1 (.v 2 (.v 3 (.v 5 (.alt 4 (.t 6 (.t 7 (.v 8 (.v 9 (.t 10 .nil))))) (.t 6 (.t 4 (.t 7 (.v 8 (.v 9 (.t 10 .nil)))))))))))) moOrd (by kernel_rfl) ?_)
  refine rvm rfl rfl (rvm rfl rfl (zo rfl (zu rfl) (zo rfl (zag rfl zgb zdr) (zo rfl (zdk (R := isv (q15.1)) ty92 rfl (List.Mem.head _) hI) (zal h fun q30 h => zbv ?_ ?_)))))
  ·refine zR rfl rfl (zM (R := appv t_a_n_5 (a_n_.fields)) ty85 rfl (.there (.there tI)) isvT1 (zR rfl rfl (zY (l := ([q15.1] : (List GFld))) el85 (.cons rfl hI .nil) rfl rfl (zR rfl rfl (zaZ (l := a_n_.fields) (m := ([q15.1] : (List GFld))) zj5 rfl hI rfl zF (.there (.there (.there (.there tI)))) q30 fun t29 => zo rfl (zu rfl) (zo rfl (zag rfl zgb zdr) (zR rfl rfl (zm (y' := ((a_n_.kind, a_n_.name, a_n_.mark, a_n_.con, (TList.mk t_a_n_4 a_n_.items), (TList.mk t29 (a_n_.fields ++ ([q15.1] : (List GFld)))), a_n_.root, a_n_.more, a_n_.of) : (Int × Str × GMark × GCon × (TList GItem) × (TList GFld) × Int × Bool × Int))) ty85 rfl rfl isvT2 (.there (.there (.there tI))) rfl (zab (zaO 8 hn27 rfl (zan .nil (.cons (.there tI) (.cons (.there tI) (.cons (.there tI) (.cons (.there tI) (.cons tH (.cons tI (.cons tH .nil))))))) ?_)))))))))))
   cases h
   exact ⟨g15.1, g15.2, v14, t_a_n_4, t29, rfl, rfl⟩
  refine zR rfl rfl (zY (l := ([q15.1] : (List GFld))) el85 (.cons rfl hI .nil) rfl rfl (zR rfl rfl (zM (R := appv t_a_n_5 (a_n_.fields)) ty85 rfl (.there (.there tI)) isvT1 (zR rfl rfl (zaZ (l := a_n_.fields) (m := ([q15.1] : (List GFld))) zj5 rfl hI rfl zF (.there (.there (.there (.there tI)))) q30 fun t32 => zo rfl (zu rfl) (zo rfl (zag rfl zgb zdr) (zR rfl rfl (zm (y' := ((a_n_.kind, a_n_.name, a_n_.mark, a_n_.con, (TList.mk t_a_n_4 a_n_.items), (TList.mk t32 (a_n_.fields ++ ([q15.1] : (List GFld)))), a_n_.root, a_n_.more, a_n_.of) : (Int × Str × GMark × GCon × (TList GItem) × (TList GFld) × Int × Bool × Int))) ty85 rfl rfl isvT2 (.there (.there (.there tI))) rfl (zab (zaO 8 hn27 rfl (zan .nil (.cons (.there tI) (.cons (.there tI) (.cons (.there tI) (.cons (.there tI) (.cons tH (.cons tI (.cons tH .nil))))))) ?_)))))))))))
  cases h
  exact ⟨g15.1, g15.2, v14, t_a_n_4, t32, rfl, rfl⟩
 refine zq (wsr (oM rfl (oV (zu rfl) (oV (zag rfl zcl zbH) (oT (zM (R := isv (a_n_.kind)) ty3 rfl (.there (.there (.there tI))) hI (oV (zao rfl rfl) (oA rfl (rnf ?_)))))))))
 refine zg h rfl (fun _ h => ?_) (fun _ h => ?_)
 ·exact zac (zi (hJ16 _ (t12, t13) h _ (ze 6 rfl rfl zd (.cons .here (.cons .here (.cons .here (.cons .here k4)))))))
 refine wsr (oM rfl (zb h fun y17 hy17 h => oT (zN (zQ hy17) hT (s2 rfl rfl) (.cons tH (.cons tH (.cons tH (.cons tH .nil)))) (fun R H' hR => ?_))))
 obtain ⟨t18, t19, rfl, rfl⟩ := hR
 refine oA rfl (rnf (zg h rfl (fun _ h => ?_) (fun _ h => ?_)))
 ·exact zh (oV (zag rfl GFld.f2 zni) (oT (zm (y' := ((GFld.mk y6.1 y11.1 true false (Val.mk (0 : Int) (0 : Int) ([] : (List UInt8)) ([] : (List Val)) (0 : Int) ([] : (List Raw))) zct) : GFld)) ty4 rfl rfl hI (.there (.there tI)) rfl (zw (zi (hJ16 _ (t18, t19) h _ (ze 10 rfl rfl zd (.cons .here (.cons .here (.cons .here (.cons .here k4)))))))))))
 refine wsr (oM rfl (zb h fun y20 hy20 h => oT (zN (zQ hy20) hT (s2 rfl rfl) k4 (fun R H' hR => ?_))))
 obtain ⟨t21, t22, rfl, rfl⟩ := hR
 refine oA rfl (rnf (zg h rfl (fun _ h => ?_) (fun _ h => ?_)))
 ·refine zh (oM rfl (zb h fun y23 hy23 h => oT (zN (zhv hy23) hT (s1 rfl) k4 (fun R H' hR => ?_))))
  obtain ⟨t24, t25, rfl, rfl⟩ := hR
  exact oV (zag rfl GFld.f3 zlu) (oT (zm (y' := ((GFld.mk y6.1 y11.1 false true (Val.mk (0 : Int) (0 : Int) ([] : (List UInt8)) ([] : (List Val)) (0 : Int) ([] : (List Raw))) zct) : GFld)) ty4 rfl rfl hI (.there (.there tI)) rfl (oV (zag rfl GFld.f4 zlB) (oT (zm (y' := ((GFld.mk y6.1 y11.1 false true y23.1 zct) : GFld)) ty46 rfl rfl hI .here rfl (zw (zi (hJ16 _ (t24, t25) h _ (ze 16 rfl rfl zd (.cons .here (.cons .here (.cons .here (.cons .here k4)))))))))))))
 exact zac (zi (hJ16 _ (t21, t22) h _ (ze 12 rfl rfl zd (.cons (.there (.there tI)) (.cons .here (.cons .here (.cons .here k4)))))))

theorem zhV {zap : GPar → GNode → Int → Int → Option (GPar × GNode)} {zay : GPar → Int → Option (Int × GPar)} {zax : GPar → GNode → Int → Option (GPar × GNode)} {zak : GPar → GNode → Int → Option (GPar × GNode)} (zcf : zcb zap) (zcP : zb7 zay) (zdc : zcu zax) (zbD : zb3 zak) : ∀ {a_x : GPar} {zZ : Int} {zK : Nat} {t_a_x1 : Tok} {t_a_x2 : Tok} {zL : Vt} {r : Int × GPar}, zcI zap zay zax zak a_x zZ = some r → Ctr Tryz.prog 75 [ptrv zK (Fld.id ((List GTok) × Int × (Str × Int × (TList Str) × (TList Int) × Vh) × Int × Int)), isv (zZ)] [boxE zK ((a_x.l, a_x.at_, (a_x.m.name, a_x.m.tagging, (TList.mk t_a_x1 a_x.m.names), (TList.mk t_a_x2 a_x.m.types), (Vh.mk zL a_x.m.nodes.length)), a_x.e, a_x.p) : ((List GTok) × Int × (Str × Int × (TList Str) × (TList Int) × Vh) × Int × Int)), tokE t_a_x1, tokE t_a_x2, vecE zL (a_x.m.nodes : List GNode)] (fun R H => ∃ u1 : Tok, ∃ u2 : Tok, ∃ u3 : Vt, R = oneOf [isv (r.1)] ∧ H = [boxE zK ((r.2.l, r.2.at_, (r.2.m.name, r.2.m.tagging, (TList.mk u1 r.2.m.names), (TList.mk u2 r.2.m.types), (Vh.mk u3 r.2.m.nodes.length)), r.2.e, r.2.p)), tokE u1, tokE u2, vecE u3 (r.2.m.nodes)]) := by
 intro a_x zZ zK t_a_x1 t_a_x2 zL r h
 unfold zcI at h
 refine zp Tryz.func75 rfl fun w0 S0 hT => wsr (oA rfl (rnf (zj (wsr (oM rfl (oV (zu rfl) (oV (zag rfl zbm zch) ?_)))))))
 refine oT (zM (R := isv (a_x.e)) ty65 rfl .here hI (oV (zbo rfl rfl) (rnf (zg h rfl (fun _ h => ?_) (fun _ h => ?_)))))
 ·refine wsr (oA rfl (rnf (zJ (zA (zk (.tmp rfl .nil) k4 ?_)))))
  cases h
  exact ⟨t_a_x1, t_a_x2, zL, rfl, rfl⟩
 refine wkf (zj (wsr (oM rfl (zb h fun y4 hy4 h => oT (zN (zaK hy4) hT (s1 rfl) k4 (fun R H' hR => ?_))))))
 obtain ⟨t5, t6, rfl, rfl⟩ := hR
 refine zb h fun y7 hy7 h => oT (zy (zjZ hy7) hT (s1 rfl) .nil (oV (zbq rfl) (rnf (zg h rfl (fun _ h => ?_) (fun _ h => ?_)))))
 ·refine wsr (oM rfl (oM rfl (zb h fun y8 hy8 h => oT (zN (zaK hy8) hT (s1 rfl) k4 (fun R H' hR => ?_)))))
  obtain ⟨t9, t10, rfl, rfl⟩ := hR
  refine zb h fun y11 hy11 h => oT (zN (za9 hy11) hT (s3 rfl rfl rfl) k4 (fun R H' hR => ?_))
  obtain ⟨t12, t13, rfl, rfl⟩ := hR
  refine rnf (wsr (oA rfl (rnf (zJ (zA (zk (.tmp rfl .nil) k4 ?_))))))
  cases h
  exact ⟨t12, t13, zL, rfl, rfl⟩
 refine wkf (zj (wsr (oM rfl (oV (zbu rfl rfl) (oM rfl (zau (jb 32) je .nil h 8 rfl (fun q14 g14 h => ?_) (fun J15 h hJ15 => ?_)))))))
 ·refine rnf (zg h rfl (fun _ h => ?_) (fun _ h => ?_))
  ·refine wsr (oM rfl (oM rfl (zb h fun y17 hy17 h => oT (zN (zaK hy17) hT (s1 rfl) k4 (fun R H' hR => ?_)))))
   obtain ⟨t18, t19, rfl, rfl⟩ := hR
   refine zb h fun y20 hy20 h => oT (zN (za9 hy20) hT (s3 rfl rfl rfl) k4 (fun R H' hR => ?_))
   obtain ⟨t21, t22, rfl, rfl⟩ := hR
   refine rnf (wsr (oA rfl (rnf (zJ (zA (zk (.tmp rfl .nil) k4 ?_))))))
   cases h
   exact ⟨t21, t22, zL, rfl, rfl⟩
  refine wkf (wsr (oM rfl (oV (zu rfl) (oV (zag rfl zbY zda) (oV (zag rfl zgV zgr) (oT (zM (R := vecv zL (y4.2.m.nodes.length)) ty71 rfl .here isvV1 (oV (zfM sl71 rfl) (oA rfl ?_)))))))))
  refine rnf (wsr (oM rfl (oM rfl (oV (zu rfl) (oV (zag rfl zbY zda) (oV (zag rfl zgV zgr) (oT (zM (R := vecv zL (y4.2.m.nodes.length)) ty71 rfl .here isvV1 (oV (zaC (z := (GNode.mk (0 : Int) (Str.mk []) (GMark.mk false (0 : Int) (0 : Int)) (GCon.mk false false false false (0 : Int) (0 : Int)) ([] : (List GItem)) ([] : (List GFld)) (0 : Int) false (0 : Int))) rfl bu167 ze167 .nil) ?_)))))))))
  refine oT (zY (l := ([(GNode.mk (0 : Int) (Str.mk []) (GMark.mk false (0 : Int) (0 : Int)) (GCon.mk false false false false (0 : Int) (0 : Int)) ([] : (List GItem)) ([] : (List GFld)) (0 : Int) false (0 : Int))] : (List GNode))) el71 (.cons rfl hI .nil) rfl rfl (zal h fun q25 h => oT (zfv (m := ([(GNode.mk (0 : Int) (Str.mk []) (GMark.mk false (0 : Int) (0 : Int)) (GCon.mk false false false false (0 : Int) (0 : Int)) ([] : (List GItem)) ([] : (List GFld)) (0 : Int) false (0 : Int))] : (List GNode))) zoq rfl rfl zF (.there tI) (by first | rfl | simp) q25 fun v24 => ?_)))
  refine oV (zu rfl) (oV (zag rfl zbY zda) (oV (zag rfl zgV zgr) (oT (zm (y' := ((y4.2.l, y4.2.at_, (y4.2.m.name, y4.2.m.tagging, (TList.mk t5 y4.2.m.names), (TList.mk t6 y4.2.m.types), (Vh.mk v24 (y4.2.m.nodes ++ ([(GNode.mk (0 : Int) (Str.mk []) (GMark.mk false (0 : Int) (0 : Int)) (GCon.mk false false false false (0 : Int) (0 : Int)) ([] : (List GItem)) ([] : (List GFld)) (0 : Int) false (0 : Int))] : (List GNode))).length)), y4.2.e, y4.2.p) : ((List GTok) × Int × (Str × Int × (TList Str) × (TList Int) × Vh) × Int × Int))) ty71 rfl rfl isvV2 tH rfl (rnf (wsr (oV (zaC (z := (((0 : Int), (Str.mk []), (GMark.mk false (0 : Int) (0 : Int)), (GCon.mk false false false false (0 : Int) (0 : Int)), (TList.mk none ([] : (List GItem))), (TList.mk none ([] : (List GFld))), (0 : Int), false, (0 : Int)) : (Int × Str × GMark × GCon × (TList GItem) × (TList GFld) × Int × Bool × Int))) rfl bu167 zmc .nil) (oT (zaf _ zmc fun b26 => zG (zaI) ?_)))))))))
  refine zG (zaI) (zG (zaI) (zG (zaI) (oT (zm (y' := (((0 : Int), (Str.mk []), (GMark.mk false (0 : Int) (0 : Int)), (GCon.mk false false false false (0 : Int) (0 : Int)), (TList.mk none ([] : (List GItem))), (TList.mk none ([] : (List GFld))), (0 : Int), false, (0 : Int)) : (Int × Str × GMark × GCon × (TList GItem) × (TList GFld) × Int × Bool × Int))) ty167 rfl rfl hI (.there (.there tI)) rfl (rnf (zj (wsr (oM rfl (zb h fun y31 hy31 h => ?_)))))))))
  refine oT (zN (zQ hy31) hT (s2 rfl rfl) (.cons (.there (.there (.there tI))) (.cons (.there (.there (.there (.there tI)))) (.cons (.there (.there (.there (.there tI)))) (.cons (.there (.there (.there tI))) .nil)))) (fun R H' hR => ?_))
  obtain ⟨t32, t33, rfl, rfl⟩ := hR
  refine rnf (zdB (ι := GPar × GNode) (γ := Tok × Tok × Tok × Tok) (fun q34 g34 => []) (fun q34 g34 => [boxE zK ((q34.1.l, q34.1.at_, (q34.1.m.name, q34.1.m.tagging, (TList.mk g34.1 q34.1.m.names), (TList.mk g34.2.1 q34.1.m.types), (Vh.mk v24 q34.1.m.nodes.length)), q34.1.e, q34.1.p) : ((List GTok) × Int × (Str × Int × (TList Str) × (TList Int) × Vh) × Int × Int)), tokE g34.1, tokE g34.2.1, vecE v24 (q34.1.m.nodes : List GNode), boxE b26 ((q34.2.kind, q34.2.name, q34.2.mark, q34.2.con, (TList.mk g34.2.2.1 q34.2.items), (TList.mk g34.2.2.2 q34.2.fields), q34.2.root, q34.2.more, q34.2.of) : (Int × Str × GMark × GCon × (TList GItem) × (TList GFld) × Int × Bool × Int)), tokE g34.2.2.1, tokE g34.2.2.2]) (.cons .here (.cons (.there tI) (.cons .here k4))) h (fun q34 g34 h => ?_) (fun J35 h hJ35 => ?_))
  ·refine wsr (oM rfl (oM rfl (zb h fun y63 hy63 h => oT (zN (zdc hy63) hT (s3 rfl rfl rfl) (.cons .here (.cons .here (.cons .here k4))) (fun R H' hR => ?_)))))
   obtain ⟨t64, t65, v66, t67, t68, rfl, rfl⟩ := hR
   refine rnf (zj (wsr (oM rfl (oV (zu rfl) (oV (zag rfl zbm zch) (oT (zM (R := isv (y63.1.e)) ty65 rfl .here hI (oV (zbo rfl rfl) (rnf ?_)))))))))
   refine zg h rfl (fun _ h => ?_) (fun _ h => ?_)
   ·refine wsr (oA rfl (rnf (zJ (zA (zk (.tmp rfl .nil) k4 ?_)))))
    cases h
    exact ⟨t64, t65, v66, rfl, rfl⟩
   refine wkf (zj (zc7 6 (.there (.there tI)) rfl (fun o69 hn70 => zc7 0 .here rfl (fun o71 hn72 => zS (.v 0 (.v 1 (.v 2 (.v 3 (.v 4 (.v 5 (.v 6 (.v 7 (.t 8 .nil))))))))) moOrd (by kernel_rfl) ?_))))
   refine rvm rfl rfl (zo rfl (zbx rfl) (zo rfl (zga rfl zbY zda) (zo rfl (zga rfl zgV zgr) (zo rfl (zdk (R := vecv v66 (y63.1.m.nodes.length)) ty71 rfl (List.Mem.head _) isvV1) (rvm rfl rfl (zo rfl (zdk (R := isv (((y63.2.kind, y63.2.name, y63.2.mark, y63.2.con, (TList.mk t67 y63.2.items), (TList.mk t68 y63.2.fields), y63.2.root, y63.2.more, y63.2.of)) : ((Int × Str × GMark × GCon × (TList GItem) × (TList GFld) × Int × Bool × Int)))) ty167 rfl (List.Mem.tail _ (List.Mem.head _)) hI) (zbg (zO (R' := isv (y63.2)) 105 rfl (Cv.isv rfl fun S => (fun cs h => GNode.cv (x := y63.2) cs (((Cv.pair Cv.id (Cv.pair Cv.id (Cv.pair Cv.id (Cv.pair Cv.id (Cv.pair Cv.tl (Cv.pair Cv.tl (Cv.pair Cv.id (Cv.pair Cv.id Cv.id)))))))) : Cv S ((y63.2.kind, y63.2.name, y63.2.mark, y63.2.con, (TList.mk t67 y63.2.items), (TList.mk t68 y63.2.fields), y63.2.root, y63.2.more, y63.2.of) : (Int × Str × GMark × GCon × (TList GItem) × (TList GFld) × Int × Bool × Int)) (GNode.to y63.2)) cs h)))) (zI h fun q73 h => ?_))))))))
   refine zo rfl (zam (α := GNode) sl71 rfl rfl q73.1 q73.2) (zb h fun y74 hy74 h => zR rfl rfl (zas ty167 rfl rfl tI hy74 (zab (zaO 0 hn72 rfl (zoj (zhb (y := ((y63.1.l, y63.1.at_, (y63.1.m.name, y63.1.m.tagging, (TList.mk t64 y63.1.m.names), (TList.mk t65 y63.1.m.types), (Vh.mk v66 (y63.1.m.nodes.set (((y4.2.m.nodes.length : Nat) : Int).toNat) y63.2).length)), y63.1.e, y63.1.p) : ((List GTok) × Int × (Str × Int × (TList Str) × (TList Int) × Vh) × Int × Int))) .here (fun S => (Cv.pair Cv.id (Cv.pair Cv.id (Cv.pair (Cv.pair Cv.id (Cv.pair Cv.id (Cv.pair Cv.id (Cv.pair Cv.id (Cv.vhe (by first | rfl | simp)))))) (Cv.pair Cv.id Cv.id)))))) ?_)))))
   refine zaO 6 hn70 rfl (zx (wsr (oM rfl (oA rfl (rnf (zJ (zk (.tmp rfl .nil) (.cons tH (.cons tI (.cons tI (.cons tH .nil)))) ?_)))))))
   cases h
   exact ⟨t64, t65, v66, rfl, rfl⟩
  refine zg h rfl (fun _ h => ?_) (fun _ h => ?_)
  ·refine wsr (oM rfl (zb h fun y36 hy36 h => oT (zN (zaK hy36) hT (s1 rfl) k4 (fun R H' hR => ?_))))
   obtain ⟨t37, t38, rfl, rfl⟩ := hR
   refine oT (zaf _ ze133 fun b39 => oT (zm (y' := (y36.1 : GTok)) ty133 rfl rfl hI .here rfl (zG (zaq 7 .here rfl) (rnf (wsr (oM rfl (zb h fun y40 hy40 h => oT (zN (zcA hy40) hT (s1 rfl) k4 (fun R H' hR => ?_)))))))))
   obtain ⟨t41, t42, rfl, rfl⟩ := hR
   refine oA rfl (rnf (zj (wsr (oM rfl (oV (zu rfl) (oV (zag rfl zbm zch) (oT (zM (R := isv (y40.2.e)) ty65 rfl .here hI (oV (zao rfl rfl) ?_)))))))))
   refine oM rfl (zau (jb 74) je .nil h 7 rfl (fun q43 g43 h => ?_) (fun J44 h hJ44 => ?_))
   ·refine rnf (zdB (ι := GPar) (γ := Tok × Tok) (fun q49 g49 => []) (fun q49 g49 => [boxE zK ((q49.l, q49.at_, (q49.m.name, q49.m.tagging, (TList.mk g49.1 q49.m.names), (TList.mk g49.2 q49.m.types), (Vh.mk v24 q49.m.nodes.length)), q49.e, q49.p) : ((List GTok) × Int × (Str × Int × (TList Str) × (TList Int) × Vh) × Int × Int)), tokE g49.1, tokE g49.2, vecE v24 (q49.m.nodes : List GNode)]) k4 h (fun q49 g49 h => ?_) (fun J50 h hJ50 => ?_))
    ·refine wsr (oM rfl (zb h fun y54 hy54 h => oT (zN (zai hy54) hT (s2 rfl rfl) k4 (fun R H' hR => ?_))))
     obtain ⟨t55, t56, rfl, rfl⟩ := hR
     refine rnf (wsr (oM rfl (oV (zaC (z := (GMark.mk true y40.1 (0 : Int))) rfl bu165 ze165 (.cons GMark.f0 zkq rfl hI (.cons GMark.f1 zmf rfl hI .nil))) (oV (zag rfl zie zfD) (oT (zm (y' := (((0 : Int), (Str.mk []), (GMark.mk true y40.1 (0 : Int)), (GCon.mk false false false false (0 : Int) (0 : Int)), (TList.mk none ([] : (List GItem))), (TList.mk none ([] : (List GFld))), (0 : Int), false, (0 : Int)) : (Int × Str × GMark × GCon × (TList GItem) × (TList GFld) × Int × Bool × Int))) ty165 rfl rfl hI (.there (.there tI)) rfl (rnf (wsr (oM rfl ?_)))))))))
     refine zb h fun y57 hy57 h => oT (zN (zQ hy57) hT (s2 rfl rfl) (.cons tH (.cons tH (.cons tH (.cons tH .nil)))) (fun R H' hR => ?_))
     obtain ⟨t58, t59, rfl, rfl⟩ := hR
     refine rnf (zg h rfl (fun _ h => ?_) (fun _ h => ?_))
     ·exact zh (oV (zag rfl zie zfD) (oV (zag rfl GMark.f2 ziK) (oT (zm (y' := (((0 : Int), (Str.mk []), (GMark.mk true y40.1 (1 : Int)), (GCon.mk false false false false (0 : Int) (0 : Int)), (TList.mk none ([] : (List GItem))), (TList.mk none ([] : (List GFld))), (0 : Int), false, (0 : Int)) : (Int × Str × GMark × GCon × (TList GItem) × (TList GFld) × Int × Bool × Int))) ty3 rfl rfl hI (.there (.there tI)) rfl (zw (hJ35 _ (t58, t59, none, none) h _ (ze 23 rfl rfl zd (.cons tH (.cons tH (.cons tH (.cons tH (.cons .here (.cons tH k3)))))))))))))
     refine wsr (oM rfl (zb h fun y60 hy60 h => oT (zN (zQ hy60) hT (s2 rfl rfl) k4 (fun R H' hR => ?_))))
     obtain ⟨t61, t62, rfl, rfl⟩ := hR
     refine rnf (zg h rfl (fun _ h => ?_) (fun _ h => ?_))
     ·exact zh (oV (zag rfl zie zfD) (oV (zag rfl GMark.f2 ziK) (oT (zm (y' := (((0 : Int), (Str.mk []), (GMark.mk true y40.1 (2 : Int)), (GCon.mk false false false false (0 : Int) (0 : Int)), (TList.mk none ([] : (List GItem))), (TList.mk none ([] : (List GFld))), (0 : Int), false, (0 : Int)) : (Int × Str × GMark × GCon × (TList GItem) × (TList GFld) × Int × Bool × Int))) ty3 rfl rfl hI (.there (.there tI)) rfl (zw (hJ35 _ (t61, t62, none, none) h _ (ze 25 rfl rfl zd (.cons tH (.cons tH (.cons tH (.cons tH (.cons .here (.cons tH k3)))))))))))))
     exact zac (hJ35 _ (t61, t62, none, none) h _ (ze 23 rfl rfl zd (.cons .here (.cons .here (.cons .here (.cons .here (.cons .here (.cons tH k3))))))))
    refine zg h rfl (fun _ h => ?_) (fun _ h => ?_)
    ·refine zh (oM rfl (oV (zf ty133 rfl) (zb h fun y51 hy51 h => oT (zN (za9 hy51) hT (s3 rfl rfl rfl) k4 (fun R H' hR => ?_)))))
     obtain ⟨t52, t53, rfl, rfl⟩ := hR
     exact zw (hJ50 _ (t52, t53) h _ (ze 3 rfl rfl zd (.cons .here (.cons .here (.cons .here (.cons .here (.cons .here k4)))))))
    exact zac (hJ50 _ (t41, t42) h _ (ze 0 rfl rfl zd (.cons .here (.cons .here (.cons .here (.cons .here (.cons .here k4)))))))
   refine zB (j := 67) h rfl (fun g45 h => ?_) (fun g45 h => ?_)
   ·refine oK 67 rfl rfl rfl g45 (zt rfl) (oK 67 rfl rfl rfl g45 (zaj rfl rfl) (oK 67 rfl rfl rfl g45 (zt rfl) (zau (jb 73) je .nil h 3 rfl (fun q46 g46 h => ?_) (fun J47 h hJ47 => ?_))))
    ·exact oV (zs rfl g45 rfl) (hJ44 _ () h _ (ze 5 rfl rfl (za (j := 74) rfl hI zd) (.cons .here (.cons .here (.cons .here (.cons .here (.cons .here k4)))))))
    refine zB (j := 70) h rfl (fun g48 h => ?_) (fun g48 h => ?_)
    ·exact oP 70 rfl rfl g48 (oP 70 rfl rfl g48 (oK 67 rfl rfl rfl g45 (zs rfl g48 rfl) (hJ47 _ () h _ (ze 3 rfl rfl (za (j := 73) rfl hI zd) (.cons .here (.cons .here (.cons .here (.cons .here (.cons .here k4)))))))))
    exact oK 70 rfl rfl rfl g48 (zt rfl) (oK 70 rfl rfl rfl g48 (zbu rfl rfl) (oK 67 rfl rfl rfl g45 (zr rfl g48 rfl) (hJ47 _ () h _ (ze 3 rfl rfl (za (j := 73) rfl hI zd) (.cons .here (.cons .here (.cons .here (.cons .here (.cons .here k4)))))))))
   exact oP 67 rfl rfl g45 (oP 67 rfl rfl g45 (oP 67 rfl rfl g45 (zC rfl (dj := 70) rfl (zC rfl (dj := 70) rfl (oP 67 rfl rfl g45 (oV (zr rfl g45 rfl) (hJ44 _ () h _ (ze 7 rfl rfl (za (j := 74) rfl hI zd) (.cons .here (.cons .here (.cons .here (.cons .here (.cons .here k4)))))))))))))
  exact zac (hJ35 _ (t32, t33, none, none) h _ (ze 0 rfl rfl zd (.cons .here (.cons .here (.cons .here (.cons .here (.cons .here (.cons tH k3))))))))
 refine zB (j := 24) h rfl (fun g16 h => ?_) (fun g16 h => ?_)
 ·exact oP 24 rfl rfl g16 (oP 24 rfl rfl g16 (oP 24 rfl rfl g16 (oP 24 rfl rfl g16 (oP 24 rfl rfl g16 (oP 24 rfl rfl g16 (oP 24 rfl rfl g16 (oV (zs rfl g16 rfl) (hJ15 _ () h _ (ze 8 rfl rfl (za (j := 32) rfl hI zd) k4)))))))))
 exact oK 24 rfl rfl rfl g16 (zt rfl) (oK 24 rfl rfl rfl g16 (zu rfl) (oK 24 rfl rfl rfl g16 (zag rfl zbY zda) (oK 24 rfl rfl rfl g16 (zag rfl zgV zgr) (zaD rfl rfl (dj := 24) rfl g16 (zM (R := vecv zL (y4.2.m.nodes.length)) ty71 rfl .here isvV1 (oK 24 rfl rfl rfl g16 (zfM sl71 rfl) (oK 24 rfl rfl rfl g16 (zeV rfl rfl) (oV (zr rfl g16 rfl) (hJ15 _ () h _ (ze 8 rfl rfl (za (j := 32) rfl hI zd) k4))))))))))

theorem zht {zap : GPar → GNode → Int → Int → Option (GPar × GNode)} {zay : GPar → Int → Option (Int × GPar)} {zax : GPar → GNode → Int → Option (GPar × GNode)} {zak : GPar → GNode → Int → Option (GPar × GNode)} (zcf : zcb zap) (zcP : zb7 zay) (zdc : zcu zax) (zbD : zb3 zak) : ∀ {a_x : GPar} {a_n_ : GNode} {zZ : Int} {zK : Nat} {t_a_x1 : Tok} {t_a_x2 : Tok} {zL : Vt} {zaY : Nat} {t_a_n_4 : Tok} {t_a_n_5 : Tok} {r : GPar × GNode}, zcr zap zay zax zak a_x a_n_ zZ = some r → Ctr Tryz.prog 107 [ptrv zK (Fld.id ((List GTok) × Int × (Str × Int × (TList Str) × (TList Int) × Vh) × Int × Int)), ptrv zaY (Fld.id (Int × Str × GMark × GCon × (TList GItem) × (TList GFld) × Int × Bool × Int)), isv (zZ)] [boxE zK ((a_x.l, a_x.at_, (a_x.m.name, a_x.m.tagging, (TList.mk t_a_x1 a_x.m.names), (TList.mk t_a_x2 a_x.m.types), (Vh.mk zL a_x.m.nodes.length)), a_x.e, a_x.p) : ((List GTok) × Int × (Str × Int × (TList Str) × (TList Int) × Vh) × Int × Int)), tokE t_a_x1, tokE t_a_x2, vecE zL (a_x.m.nodes : List GNode), boxE zaY ((a_n_.kind, a_n_.name, a_n_.mark, a_n_.con, (TList.mk t_a_n_4 a_n_.items), (TList.mk t_a_n_5 a_n_.fields), a_n_.root, a_n_.more, a_n_.of) : (Int × Str × GMark × GCon × (TList GItem) × (TList GFld) × Int × Bool × Int)), tokE t_a_n_4, tokE t_a_n_5] (fun R H => ∃ u1 : Tok, ∃ u2 : Tok, ∃ u3 : Vt, ∃ u4 : Tok, ∃ u5 : Tok, R = oneOf [] ∧ H = [boxE zK ((r.1.l, r.1.at_, (r.1.m.name, r.1.m.tagging, (TList.mk u1 r.1.m.names), (TList.mk u2 r.1.m.types), (Vh.mk u3 r.1.m.nodes.length)), r.1.e, r.1.p)), tokE u1, tokE u2, vecE u3 (r.1.m.nodes), boxE zaY ((r.2.kind, r.2.name, r.2.mark, r.2.con, (TList.mk u4 r.2.items), (TList.mk u5 r.2.fields), r.2.root, r.2.more, r.2.of)), tokE u4, tokE u5]) := by
 intro a_x a_n_ zZ zK t_a_x1 t_a_x2 zL zaY t_a_n_4 t_a_n_5 r h
 unfold zcr at h
 refine zp Tryz.func107 rfl fun w0 S0 hT => wsr (oM rfl (zb h fun y6 hy6 h => oT (zN (zaK hy6) hT (s1 rfl) k4 (fun R H' hR => ?_))))
 obtain ⟨t7, t8, rfl, rfl⟩ := hR
 refine oT (zaf _ ze133 fun b9 => oT (zm (y' := (y6.1 : GTok)) ty133 rfl rfl hI .here rfl (zG (zaq 6 .here rfl) (rnf (zq (wsr (oM rfl (oV (zu rfl) (oV (zag rfl zbm zch) ?_)))))))))
 refine oT (zM (R := isv (y6.2.e)) ty65 rfl .here hI (oV (zbo rfl rfl) (oA rfl (rnf (zg h rfl (fun _ h => ?_) (fun _ h => ?_))))))
 ·refine zac (zi (zan .nil (.cons .here (.cons .here (.cons .here k4))) ?_))
  cases h
  exact ⟨t7, t8, zL, t_a_n_4, t_a_n_5, rfl, rfl⟩
 refine wsr (oM rfl (zb h fun y10 hy10 h => oT (zN (zQ hy10) hT (s2 rfl rfl) k4 (fun R H' hR => ?_))))
 obtain ⟨t11, t12, rfl, rfl⟩ := hR
 refine oA rfl (rnf (zg h rfl (fun _ h => ?_) (fun _ h => ?_)))
 ·refine zh (oM rfl (oV (zu rfl) (oV (zag rfl zcl zbH) (oT (zm (y' := (((1 : Int), a_n_.name, a_n_.mark, a_n_.con, (TList.mk t_a_n_4 a_n_.items), (TList.mk t_a_n_5 a_n_.fields), a_n_.root, a_n_.more, a_n_.of) : (Int × Str × GMark × GCon × (TList GItem) × (TList GFld) × Int × Bool × Int))) ty3 rfl rfl hI (.there (.there tI)) rfl (zw (zi (zan .nil (.cons tH (.cons tH (.cons tH (.cons tH k3)))) ?_))))))))
  cases h
  exact ⟨t11, t12, zL, t_a_n_4, t_a_n_5, rfl, rfl⟩
 refine wsr (oM rfl (zb h fun y13 hy13 h => oT (zN (zQ hy13) hT (s2 rfl rfl) k4 (fun R H' hR => ?_))))
 obtain ⟨t14, t15, rfl, rfl⟩ := hR
 refine oA rfl (rnf (zg h rfl (fun _ h => ?_) (fun _ h => ?_)))
 ·refine zh (oM rfl (oV (zu rfl) (oV (zag rfl zcl zbH) (oT (zm (y' := (((4 : Int), a_n_.name, a_n_.mark, a_n_.con, (TList.mk t_a_n_4 a_n_.items), (TList.mk t_a_n_5 a_n_.fields), a_n_.root, a_n_.more, a_n_.of) : (Int × Str × GMark × GCon × (TList GItem) × (TList GFld) × Int × Bool × Int))) ty3 rfl rfl hI (.there (.there tI)) rfl (zw (zi (zan .nil (.cons tH (.cons tH (.cons tH (.cons tH k3)))) ?_))))))))
  cases h
  exact ⟨t14, t15, zL, t_a_n_4, t_a_n_5, rfl, rfl⟩
 refine wsr (oM rfl (zb h fun y16 hy16 h => oT (zN (zQ hy16) hT (s2 rfl rfl) k4 (fun R H' hR => ?_))))
 obtain ⟨t17, t18, rfl, rfl⟩ := hR
 refine oA rfl (rnf (zg h rfl (fun _ h => ?_) (fun _ h => ?_)))
 ·refine wsr (oM rfl (oV (zu rfl) (oV (zag rfl zcl zbH) (oT (zm (y' := (((6 : Int), a_n_.name, a_n_.mark, a_n_.con, (TList.mk t_a_n_4 a_n_.items), (TList.mk t_a_n_5 a_n_.fields), a_n_.root, a_n_.more, a_n_.of) : (Int × Str × GMark × GCon × (TList GItem) × (TList GFld) × Int × Bool × Int))) ty3 rfl rfl hI (.there (.there tI)) rfl (rnf (zh (oM rfl (oM rfl ?_)))))))))
  refine zb h fun y19 hy19 h => oT (zN (zeh hy19) hT (s1 rfl) (.cons tH (.cons tH (.cons tH (.cons tH .nil)))) (fun R H' hR => ?_))
  obtain ⟨t20, t21, rfl, rfl⟩ := hR
  refine oV (zu rfl) (oV (zag rfl zg5 zha) (oT (zm (y' := (((6 : Int), a_n_.name, a_n_.mark, y19.1, (TList.mk t_a_n_4 a_n_.items), (TList.mk t_a_n_5 a_n_.fields), a_n_.root, a_n_.more, a_n_.of) : (Int × Str × GMark × GCon × (TList GItem) × (TList GFld) × Int × Bool × Int))) ty83 rfl rfl hI (.there (.there tI)) rfl (zw (zi (zan .nil (.cons tH (.cons tH (.cons tH (.cons tH k3)))) ?_))))))
  cases h
  exact ⟨t20, t21, zL, t_a_n_4, t_a_n_5, rfl, rfl⟩
 refine wsr (oM rfl (zb h fun y22 hy22 h => oT (zN (zQ hy22) hT (s2 rfl rfl) k4 (fun R H' hR => ?_))))
 obtain ⟨t23, t24, rfl, rfl⟩ := hR
 refine oA rfl (rnf (zg h rfl (fun _ h => ?_) (fun _ h => ?_)))
 ·refine wsr (oM rfl (oV (zu rfl) (oV (zag rfl zcl zbH) (oT (zm (y' := (((2 : Int), a_n_.name, a_n_.mark, a_n_.con, (TList.mk t_a_n_4 a_n_.items), (TList.mk t_a_n_5 a_n_.fields), a_n_.root, a_n_.more, a_n_.of) : (Int × Str × GMark × GCon × (TList GItem) × (TList GFld) × Int × Bool × Int))) ty3 rfl rfl hI (.there (.there tI)) rfl (rnf (wsr (oM rfl (zb h fun y25 hy25 h => ?_)))))))))
  refine oT (zN (zQ hy25) hT (s2 rfl rfl) (.cons tH (.cons tH (.cons tH (.cons tH .nil)))) (fun R H' hR => ?_))
  obtain ⟨t26, t27, rfl, rfl⟩ := hR
  refine rnf (zg h rfl (fun _ h => ?_) (fun _ h => ?_))
  ·refine wsr (oM rfl (oM rfl (zb h fun y28 hy28 h => oT (zN (zeT hy28) hT (s1 rfl) k4 (fun R H' hR => ?_)))))
   obtain ⟨t29, t30, rfl, rfl⟩ := hR
   refine oV (zu rfl) (oV (zag rfl zg5 zha) (oT (zm (y' := (((2 : Int), a_n_.name, a_n_.mark, y28.1, (TList.mk t_a_n_4 a_n_.items), (TList.mk t_a_n_5 a_n_.fields), a_n_.root, a_n_.more, a_n_.of) : (Int × Str × GMark × GCon × (TList GItem) × (TList GFld) × Int × Bool × Int))) ty83 rfl rfl hI (.there (.there tI)) rfl (rnf (zh (oM rfl (zb h fun y31 hy31 h => oT (zN (zai hy31) hT (s2 rfl rfl) (.cons tH (.cons tH (.cons tH (.cons tH .nil)))) (fun R H' hR => ?_)))))))))
   obtain ⟨t32, t33, rfl, rfl⟩ := hR
   refine zw (zi (zan .nil (.cons .here (.cons .here (.cons .here k4))) ?_))
   cases h
   exact ⟨t32, t33, zL, t_a_n_4, t_a_n_5, rfl, rfl⟩
  refine zac (zi (zan .nil (.cons .here (.cons .here (.cons .here k4))) ?_))
  cases h
  exact ⟨t26, t27, zL, t_a_n_4, t_a_n_5, rfl, rfl⟩
 refine wsr (oM rfl (zb h fun y34 hy34 h => oT (zN (zQ hy34) hT (s2 rfl rfl) k4 (fun R H' hR => ?_))))
 obtain ⟨t35, t36, rfl, rfl⟩ := hR
 refine oA rfl (rnf (zg h rfl (fun _ h => ?_) (fun _ h => ?_)))
 ·refine wsr (oM rfl (zb h fun y37 hy37 h => oT (zN (zai hy37) hT (s2 rfl rfl) k4 (fun R H' hR => ?_))))
  obtain ⟨t38, t39, rfl, rfl⟩ := hR
  refine rnf (wsr (oM rfl (oV (zu rfl) (oV (zag rfl zcl zbH) (oT (zm (y' := (((5 : Int), a_n_.name, a_n_.mark, a_n_.con, (TList.mk t_a_n_4 a_n_.items), (TList.mk t_a_n_5 a_n_.fields), a_n_.root, a_n_.more, a_n_.of) : (Int × Str × GMark × GCon × (TList GItem) × (TList GFld) × Int × Bool × Int))) ty3 rfl rfl hI (.there (.there tI)) rfl (rnf (zh (oM rfl ?_)))))))))
  refine oM rfl (zb h fun y40 hy40 h => oT (zN (zeh hy40) hT (s1 rfl) (.cons tH (.cons tH (.cons tH (.cons tH .nil)))) (fun R H' hR => ?_)))
  obtain ⟨t41, t42, rfl, rfl⟩ := hR
  refine oV (zu rfl) (oV (zag rfl zg5 zha) (oT (zm (y' := (((5 : Int), a_n_.name, a_n_.mark, y40.1, (TList.mk t_a_n_4 a_n_.items), (TList.mk t_a_n_5 a_n_.fields), a_n_.root, a_n_.more, a_n_.of) : (Int × Str × GMark × GCon × (TList GItem) × (TList GFld) × Int × Bool × Int))) ty83 rfl rfl hI (.there (.there tI)) rfl (zw (zi (zan .nil (.cons tH (.cons tH (.cons tH (.cons tH k3)))) ?_))))))
  cases h
  exact ⟨t41, t42, zL, t_a_n_4, t_a_n_5, rfl, rfl⟩
 refine wsr (oM rfl (zb h fun y43 hy43 h => oT (zN (zQ hy43) hT (s2 rfl rfl) k4 (fun R H' hR => ?_))))
 obtain ⟨t44, t45, rfl, rfl⟩ := hR
 refine oA rfl (rnf (zg h rfl (fun _ h => ?_) (fun _ h => ?_)))
 ·refine wsr (oM rfl (oV (zu rfl) (oV (zag rfl zcl zbH) (oT (zm (y' := (((3 : Int), a_n_.name, a_n_.mark, a_n_.con, (TList.mk t_a_n_4 a_n_.items), (TList.mk t_a_n_5 a_n_.fields), a_n_.root, a_n_.more, a_n_.of) : (Int × Str × GMark × GCon × (TList GItem) × (TList GFld) × Int × Bool × Int))) ty3 rfl rfl hI (.there (.there tI)) rfl (rnf (wsr (oM rfl (zb h fun y46 hy46 h => ?_)))))))))
  refine oT (zN (zai hy46) hT (s2 rfl rfl) (.cons tH (.cons tH (.cons tH (.cons tH .nil)))) (fun R H' hR => ?_))
  obtain ⟨t47, t48, rfl, rfl⟩ := hR
  refine rnf (wsr (oM rfl (oM rfl (zb h fun y49 hy49 h => oT (zN (zhA hy49) hT (s2 rfl rfl) (.cons .here (.cons .here (.cons .here k4))) (fun R H' hR => ?_))))))
  obtain ⟨t50, t51, t52, t53, rfl, rfl⟩ := hR
  refine rnf (zh (oM rfl (zb h fun y54 hy54 h => oT (zN (zai hy54) hT (s2 rfl rfl) k4 (fun R H' hR => ?_)))))
  obtain ⟨t55, t56, rfl, rfl⟩ := hR
  refine zw (zi (zan .nil (.cons .here (.cons .here (.cons .here k4))) ?_))
  cases h
  exact ⟨t55, t56, zL, t52, t53, rfl, rfl⟩
 refine wsr (oM rfl (zb h fun y57 hy57 h => oT (zN (zQ hy57) hT (s2 rfl rfl) k4 (fun R H' hR => ?_))))
 obtain ⟨t58, t59, rfl, rfl⟩ := hR
 refine oA rfl (rnf (zg h rfl (fun _ h => ?_) (fun _ h => ?_)))
 ·refine wsr (oM rfl (oV (zu rfl) (oV (zag rfl zcl zbH) (oT (zm (y' := (((8 : Int), a_n_.name, a_n_.mark, a_n_.con, (TList.mk t_a_n_4 a_n_.items), (TList.mk t_a_n_5 a_n_.fields), a_n_.root, a_n_.more, a_n_.of) : (Int × Str × GMark × GCon × (TList GItem) × (TList GFld) × Int × Bool × Int))) ty3 rfl rfl hI (.there (.there tI)) rfl (rnf (wsr (oM rfl (zb h fun y60 hy60 h => ?_)))))))))
  refine oT (zN (zai hy60) hT (s2 rfl rfl) (.cons tH (.cons tH (.cons tH (.cons tH .nil)))) (fun R H' hR => ?_))
  obtain ⟨t61, t62, rfl, rfl⟩ := hR
  refine rnf (zh (oM rfl (oM rfl (oM rfl (zb h fun y63 hy63 h => oT (zN (zbD hy63) hT (s3 rfl rfl rfl) (.cons .here (.cons .here (.cons .here k4))) (fun R H' hR => ?_)))))))
  obtain ⟨t64, t65, v66, t67, t68, rfl, rfl⟩ := hR
  refine zw (zi (zan .nil (.cons .here (.cons .here (.cons .here k4))) ?_))
  cases h
  exact ⟨t64, t65, v66, t67, t68, rfl, rfl⟩
 refine wsr (oM rfl (zb h fun y69 hy69 h => oT (zN (zQ hy69) hT (s2 rfl rfl) k4 (fun R H' hR => ?_))))
 obtain ⟨t70, t71, rfl, rfl⟩ := hR
 refine oA rfl (rnf (zg h rfl (fun _ h => ?_) (fun _ h => ?_)))
 ·refine wsr (oM rfl (oV (zu rfl) (oV (zag rfl zcl zbH) (oT (zm (y' := (((9 : Int), a_n_.name, a_n_.mark, a_n_.con, (TList.mk t_a_n_4 a_n_.items), (TList.mk t_a_n_5 a_n_.fields), a_n_.root, a_n_.more, a_n_.of) : (Int × Str × GMark × GCon × (TList GItem) × (TList GFld) × Int × Bool × Int))) ty3 rfl rfl hI (.there (.there tI)) rfl (rnf (wsr (oM rfl (zb h fun y72 hy72 h => ?_)))))))))
  refine oT (zN (zai hy72) hT (s2 rfl rfl) (.cons tH (.cons tH (.cons tH (.cons tH .nil)))) (fun R H' hR => ?_))
  obtain ⟨t73, t74, rfl, rfl⟩ := hR
  refine rnf (zh (oM rfl (oM rfl (oM rfl (zb h fun y75 hy75 h => oT (zN (zbD hy75) hT (s3 rfl rfl rfl) (.cons .here (.cons .here (.cons .here k4))) (fun R H' hR => ?_)))))))
  obtain ⟨t76, t77, v78, t79, t80, rfl, rfl⟩ := hR
  refine zw (zi (zan .nil (.cons .here (.cons .here (.cons .here k4))) ?_))
  cases h
  exact ⟨t76, t77, v78, t79, t80, rfl, rfl⟩
 refine wsr (oM rfl (zb h fun y81 hy81 h => oT (zN (zQ hy81) hT (s2 rfl rfl) k4 (fun R H' hR => ?_))))
 obtain ⟨t82, t83, rfl, rfl⟩ := hR
 refine oA rfl (rnf (zg h rfl (fun _ h => ?_) (fun _ h => ?_)))
 ·refine zj (wsr (oM rfl (zb h fun y84 hy84 h => oT (zN (zQ hy84) hT (s2 rfl rfl) k4 (fun R H' hR => ?_)))))
  obtain ⟨t85, t86, rfl, rfl⟩ := hR
  refine rnf (zg h rfl (fun _ h => ?_) (fun _ h => ?_))
  ·refine wsr (oM rfl (oV (zu rfl) (oV (zag rfl zcl zbH) (oT (zm (y' := (((7 : Int), a_n_.name, a_n_.mark, a_n_.con, (TList.mk t_a_n_4 a_n_.items), (TList.mk t_a_n_5 a_n_.fields), a_n_.root, a_n_.more, a_n_.of) : (Int × Str × GMark × GCon × (TList GItem) × (TList GFld) × Int × Bool × Int))) ty3 rfl rfl hI (.there (.there tI)) rfl (rnf (wsr (oM rfl (oM rfl ?_)))))))))
   refine oM rfl (zb h fun y87 hy87 h => oT (zN (zbD hy87) hT (s3 rfl rfl rfl) (.cons tH (.cons tH (.cons tH (.cons tH k3)))) (fun R H' hR => ?_)))
   obtain ⟨t88, t89, v90, t91, t92, rfl, rfl⟩ := hR
   refine rnf (zJ (zA (zH (zk .nil (.cons .here (.cons .here (.cons .here k4))) ?_))))
   cases h
   exact ⟨t88, t89, v90, t91, t92, rfl, rfl⟩
  refine wkf (wsr (oM rfl (oV (zu rfl) (oV (zag rfl zcl zbH) (oT (zm (y' := (((10 : Int), a_n_.name, a_n_.mark, a_n_.con, (TList.mk t_a_n_4 a_n_.items), (TList.mk t_a_n_5 a_n_.fields), a_n_.root, a_n_.more, a_n_.of) : (Int × Str × GMark × GCon × (TList GItem) × (TList GFld) × Int × Bool × Int))) ty3 rfl rfl hI (.there (.there tI)) rfl (rnf (wsr (oM rfl ?_)))))))))
  refine oM rfl (zb h fun y93 hy93 h => oT (zN (zeh hy93) hT (s1 rfl) (.cons tH (.cons tH (.cons tH (.cons tH .nil)))) (fun R H' hR => ?_)))
  obtain ⟨t94, t95, rfl, rfl⟩ := hR
  refine oV (zu rfl) (oV (zag rfl zg5 zha) (oT (zm (y' := (((10 : Int), a_n_.name, a_n_.mark, y93.1, (TList.mk t_a_n_4 a_n_.items), (TList.mk t_a_n_5 a_n_.fields), a_n_.root, a_n_.more, a_n_.of) : (Int × Str × GMark × GCon × (TList GItem) × (TList GFld) × Int × Bool × Int))) ty83 rfl rfl hI (.there (.there tI)) rfl (rnf (wsr (oM rfl (zb h fun y96 hy96 h => oT (zN (zai hy96) hT (s2 rfl rfl) (.cons tH (.cons tH (.cons tH (.cons tH .nil)))) (fun R H' hR => ?_)))))))))
  obtain ⟨t97, t98, rfl, rfl⟩ := hR
  refine rnf (zh (oM rfl (oM rfl (oM rfl (zz h fun q99 h => oV (zaa rfl rfl q99) (zb h fun y100 hy100 h => oT (zN (zcP hy100) hT (s2 rfl rfl) k4 (fun R H' hR => ?_))))))))
  obtain ⟨t101, t102, v103, rfl, rfl⟩ := hR
  refine oV (zu rfl) (oV (zag rfl zmM zj8) (oT (zm (y' := (((10 : Int), a_n_.name, a_n_.mark, y93.1, (TList.mk t_a_n_4 a_n_.items), (TList.mk t_a_n_5 a_n_.fields), a_n_.root, a_n_.more, y100.1) : (Int × Str × GMark × GCon × (TList GItem) × (TList GFld) × Int × Bool × Int))) ty3 rfl rfl hI (.there (.there tI)) rfl (zw (zi (zan .nil (.cons tH (.cons tH (.cons tH (.cons tH k3)))) ?_))))))
  cases h
  exact ⟨t101, t102, v103, t_a_n_4, t_a_n_5, rfl, rfl⟩
 refine wsr (oV (zW rfl GTok.f0 zb5 rfl (z := y6.1.kind)) (oV (zf ty3 rfl) (oV (zao rfl rfl) (oA rfl (rnf (zg h rfl (fun _ h => ?_) (fun _ h => ?_)))))))
 ·refine zj (zS (.v 0 (.v 1 (.v 2 (.v 3 (.v 4 (.v 5 (.t 6 (.v 7 (.v 8 (.t 9 .nil)))))))))) moOrd (by kernel_rfl) ?_)
  refine rvm rfl rfl (rvm rfl rfl (zo rfl (zW rfl GTok.f1 zdd rfl (z := y6.1.text)) (zo rfl (zf ty9 rfl) (zo rfl (zu rfl) (zo rfl (zag rfl zcl zbH) (zR rfl rfl (zm (y' := (((11 : Int), a_n_.name, a_n_.mark, a_n_.con, (TList.mk t_a_n_4 a_n_.items), (TList.mk t_a_n_5 a_n_.fields), a_n_.root, a_n_.more, a_n_.of) : (Int × Str × GMark × GCon × (TList GItem) × (TList GFld) × Int × Bool × Int))) ty3 rfl rfl hI (.there (.there tI)) rfl (zo rfl (zu rfl) (zo rfl (zag rfl zmD zkc) ?_)))))))))
  refine zR rfl rfl (zm (y' := (((11 : Int), y6.1.text, a_n_.mark, a_n_.con, (TList.mk t_a_n_4 a_n_.items), (TList.mk t_a_n_5 a_n_.fields), a_n_.root, a_n_.more, a_n_.of) : (Int × Str × GMark × GCon × (TList GItem) × (TList GFld) × Int × Bool × Int))) ty9 rfl rfl hI .here rfl (zab (zx (zh (oM rfl (zb h fun y104 hy104 h => oT (zN (zbz hy104) hT (s1 rfl) (.cons tH (.cons tH (.cons tH (.cons tH .nil)))) (fun R H' hR => ?_))))))))
  obtain ⟨t105, t106, rfl, rfl⟩ := hR
  refine zw (zi (zan .nil (.cons .here (.cons .here (.cons .here k4))) ?_))
  cases h
  exact ⟨t105, t106, zL, t_a_n_4, t_a_n_5, rfl, rfl⟩
 refine zh (oM rfl (oV (zf ty133 rfl) (zb h fun y107 hy107 h => oT (zN (za9 hy107) hT (s3 rfl rfl rfl) k4 (fun R H' hR => ?_)))))
 obtain ⟨t108, t109, rfl, rfl⟩ := hR
 refine zw (zi (zan .nil (.cons .here (.cons .here (.cons .here k4))) ?_))
 cases h
 exact ⟨t108, t109, zL, t_a_n_4, t_a_n_5, rfl, rfl⟩

theorem zgW {zap : GPar → GNode → Int → Int → Option (GPar × GNode)} {zay : GPar → Int → Option (Int × GPar)} {zax : GPar → GNode → Int → Option (GPar × GNode)} {zak : GPar → GNode → Int → Option (GPar × GNode)} (zcf : zcb zap) (zcP : zb7 zay) (zdc : zcu zax) (zbD : zb3 zak) : ∀ {a_x : GPar} {a_n_ : GNode} {zZ : Int} {zK : Nat} {t_a_x1 : Tok} {t_a_x2 : Tok} {zL : Vt} {zaY : Nat} {t_a_n_4 : Tok} {t_a_n_5 : Tok} {r : GPar × GNode}, zb4 zap zay zax zak a_x a_n_ zZ = some r → Ctr Tryz.prog 149 [ptrv zK (Fld.id ((List GTok) × Int × (Str × Int × (TList Str) × (TList Int) × Vh) × Int × Int)), ptrv zaY (Fld.id (Int × Str × GMark × GCon × (TList GItem) × (TList GFld) × Int × Bool × Int)), isv (zZ)] [boxE zK ((a_x.l, a_x.at_, (a_x.m.name, a_x.m.tagging, (TList.mk t_a_x1 a_x.m.names), (TList.mk t_a_x2 a_x.m.types), (Vh.mk zL a_x.m.nodes.length)), a_x.e, a_x.p) : ((List GTok) × Int × (Str × Int × (TList Str) × (TList Int) × Vh) × Int × Int)), tokE t_a_x1, tokE t_a_x2, vecE zL (a_x.m.nodes : List GNode), boxE zaY ((a_n_.kind, a_n_.name, a_n_.mark, a_n_.con, (TList.mk t_a_n_4 a_n_.items), (TList.mk t_a_n_5 a_n_.fields), a_n_.root, a_n_.more, a_n_.of) : (Int × Str × GMark × GCon × (TList GItem) × (TList GFld) × Int × Bool × Int)), tokE t_a_n_4, tokE t_a_n_5] (fun R H => ∃ u1 : Tok, ∃ u2 : Tok, ∃ u3 : Vt, ∃ u4 : Tok, ∃ u5 : Tok, R = oneOf [] ∧ H = [boxE zK ((r.1.l, r.1.at_, (r.1.m.name, r.1.m.tagging, (TList.mk u1 r.1.m.names), (TList.mk u2 r.1.m.types), (Vh.mk u3 r.1.m.nodes.length)), r.1.e, r.1.p)), tokE u1, tokE u2, vecE u3 (r.1.m.nodes), boxE zaY ((r.2.kind, r.2.name, r.2.mark, r.2.con, (TList.mk u4 r.2.items), (TList.mk u5 r.2.fields), r.2.root, r.2.more, r.2.of)), tokE u4, tokE u5]) := by
 intro a_x a_n_ zZ zK t_a_x1 t_a_x2 zL zaY t_a_n_4 t_a_n_5 r h
 unfold zb4 at h
 refine zp Tryz.func149 rfl fun w0 S0 hT => zj (wsr (oM rfl (zb h fun y6 hy6 h => oT (zN (zQ hy6) hT (s2 rfl rfl) k4 (fun R H' hR => ?_)))))
 obtain ⟨t7, t8, rfl, rfl⟩ := hR
 refine rnf (zg h rfl (fun _ h => ?_) (fun _ h => ?_))
 ·refine zJ (zA (zk .nil (.cons .here (.cons .here (.cons .here k4))) ?_))
  cases h
  exact ⟨t7, t8, zL, t_a_n_4, t_a_n_5, rfl, rfl⟩
 refine wkf (wsr (oA rfl (rnf (zj (zdB (ι := GPar × GNode) (γ := Tok × Tok × Vt × Tok × Tok) (fun q9 g9 => [(6, anyv)]) (fun q9 g9 => [boxE zK ((q9.1.l, q9.1.at_, (q9.1.m.name, q9.1.m.tagging, (TList.mk g9.1 q9.1.m.names), (TList.mk g9.2.1 q9.1.m.types), (Vh.mk g9.2.2.1 q9.1.m.nodes.length)), q9.1.e, q9.1.p) : ((List GTok) × Int × (Str × Int × (TList Str) × (TList Int) × Vh) × Int × Int)), tokE g9.1, tokE g9.2.1, vecE g9.2.2.1 (q9.1.m.nodes : List GNode), boxE zaY ((q9.2.kind, q9.2.name, q9.2.mark, q9.2.con, (TList.mk g9.2.2.2.1 q9.2.items), (TList.mk g9.2.2.2.2 q9.2.fields), q9.2.root, q9.2.more, q9.2.of) : (Int × Str × GMark × GCon × (TList GItem) × (TList GFld) × Int × Bool × Int)), tokE g9.2.2.2.1, tokE g9.2.2.2.2]) (.cons .here (.cons (.there tI) (.cons .here k4))) h (fun q9 g9 h => ?_) (fun J10 h hJ10 => ?_))))))
 ·refine wsr (oM rfl (zb h fun y114 hy114 h => oT (zN (zai hy114) hT (s2 rfl rfl) k4 (fun R H' hR => ?_))))
  obtain ⟨t115, t116, rfl, rfl⟩ := hR
  refine rnf (wsr (oM rfl (oV (zu rfl) (oV (zag rfl zen zeX) (oT (zM (R := isv (q9.2.more)) ty4 rfl (.there (.there tI)) hI (oV (zbq rfl) (rnf (zg h rfl (fun _ h => ?_) (fun _ h => ?_))))))))))
  ·refine zh (oM rfl (oM rfl (oV (zu rfl) (oV (zag rfl zgb zdr) (oT (zM (R := appv g9.2.2.2.2 (q9.2.fields)) ty85 rfl (.there (.there tI)) isvT1 (oV (zaR (l := q9.2.fields) rfl zF sl85) (oV (zu rfl) (oV (zag rfl zhd zfz) ?_)))))))))
   refine oT (zm (y' := ((q9.2.kind, q9.2.name, q9.2.mark, q9.2.con, (TList.mk g9.2.2.2.1 q9.2.items), (TList.mk g9.2.2.2.2 q9.2.fields), (q9.2.fields.length : Int), q9.2.more, q9.2.of) : (Int × Str × GMark × GCon × (TList GItem) × (TList GFld) × Int × Bool × Int))) ty3 rfl rfl hI (.there (.there tI)) rfl (zw (zan .nil (.cons tH (.cons tH (.cons tH (.cons tH k3)))) ?_)))
   cases h
   exact ⟨t115, t116, g9.2.2.1, g9.2.2.2.1, g9.2.2.2.2, rfl, rfl⟩
  refine zac (zan .nil (.cons .here (.cons .here (.cons .here k4))) ?_)
  cases h
  exact ⟨t115, t116, g9.2.2.1, g9.2.2.2.1, g9.2.2.2.2, rfl, rfl⟩
 refine zq (zaN (ι := Int × GPar × GNode) (γ := Tok × Tok × Vt × Tok × Tok) (fun q11 g11 => [(6, isv (q11.1))]) (fun q11 g11 => [boxE zK ((q11.2.1.l, q11.2.1.at_, (q11.2.1.m.name, q11.2.1.m.tagging, (TList.mk g11.1 q11.2.1.m.names), (TList.mk g11.2.1 q11.2.1.m.types), (Vh.mk g11.2.2.1 q11.2.1.m.nodes.length)), q11.2.1.e, q11.2.1.p) : ((List GTok) × Int × (Str × Int × (TList Str) × (TList Int) × Vh) × Int × Int)), tokE g11.1, tokE g11.2.1, vecE g11.2.2.1 (q11.2.1.m.nodes : List GNode), boxE zaY ((q11.2.2.kind, q11.2.2.name, q11.2.2.mark, q11.2.2.con, (TList.mk g11.2.2.2.1 q11.2.2.items), (TList.mk g11.2.2.2.2 q11.2.2.fields), q11.2.2.root, q11.2.2.more, q11.2.2.of) : (Int × Str × GMark × GCon × (TList GItem) × (TList GFld) × Int × Bool × Int)), tokE g11.2.2.2.1, tokE g11.2.2.2.2]) h (t7, t8, zL, t_a_n_4, t_a_n_5) (za (j := 6) rfl hI zd) (.cons .here (.cons .here (.cons .here k4))) (fun L12 q11 g11 Q113 h hL12 eL12 rL12 => zj (wsr (oM rfl (oV (zu rfl) (oV (zag rfl zbm zch) (oT (zM (R := isv (q11.2.1.e)) ty65 rfl .here hI (oV (zao rfl rfl) ?_)))))))))
 refine rnf (zg h rfl (fun _ h => ?_) (fun _ h => ?_))
 ·refine wkf (zq (zj (zdB (ι := Int × GPar × GNode) (γ := Tok × Tok × Vt × Tok × Tok) (fun q63 g63 => [(6, isv (q63.1))]) (fun q63 g63 => [boxE zK ((q63.2.1.l, q63.2.1.at_, (q63.2.1.m.name, q63.2.1.m.tagging, (TList.mk g63.1 q63.2.1.m.names), (TList.mk g63.2.1 q63.2.1.m.types), (Vh.mk g63.2.2.1 q63.2.1.m.nodes.length)), q63.2.1.e, q63.2.1.p) : ((List GTok) × Int × (Str × Int × (TList Str) × (TList Int) × Vh) × Int × Int)), tokE g63.1, tokE g63.2.1, vecE g63.2.2.1 (q63.2.1.m.nodes : List GNode), boxE zaY ((q63.2.2.kind, q63.2.2.name, q63.2.2.mark, q63.2.2.con, (TList.mk g63.2.2.2.1 q63.2.2.items), (TList.mk g63.2.2.2.2 q63.2.2.fields), q63.2.2.root, q63.2.2.more, q63.2.2.of) : (Int × Str × GMark × GCon × (TList GItem) × (TList GFld) × Int × Bool × Int)), tokE g63.2.2.2.1, tokE g63.2.2.2.2]) (.cons .here (.cons (.there tI) (.cons .here k4))) h (fun q63 g63 h => ?_) (fun J64 h hJ64 => ?_))))
  ·refine wsr (oM rfl (zb h fun y110 hy110 h => oT (zN (zQ hy110) hT (s2 rfl rfl) k4 (fun R H' hR => ?_))))
   obtain ⟨t111, t112, rfl, rfl⟩ := hR
   refine oV (zbq rfl) (rnf (zg h rfl (fun _ h => ?_) (fun _ h => ?_)))
   ·exact zad (zgM rfl (eL12 _ _ (zE (hJ10 _ (t111, t112, g63.2.2.1, g63.2.2.2.1, g63.2.2.2.2) h _ (ze 10 rfl rfl (za (j := 6) rfl (fun _ _ _ => trivial) zd) (.cons .here (.cons .here (.cons .here k4))))))))
   exact zac (zi (hL12 _ (t111, t112, g63.2.2.1, g63.2.2.2.1, g63.2.2.2.2) h _ (ze 10 rfl rfl (za (j := 6) rfl hI zd) (.cons .here (.cons .here (.cons .here k4))))))
  refine zq (wsr (oM rfl (oV (zu rfl) (oV (zag rfl zen zeX) (oT (zM (R := isv (q11.2.2.more)) ty4 rfl (.there (.there tI)) hI (oV (zbq rfl) (oM rfl (zau (ι := Bool × GPar) (γ := Tok × Tok) (fun q65 g65 => [(27, isv (q65.1))]) (fun q65 g65 => [boxE zK ((q65.2.l, q65.2.at_, (q65.2.m.name, q65.2.m.tagging, (TList.mk g65.1 q65.2.m.names), (TList.mk g65.2 q65.2.m.types), (Vh.mk g11.2.2.1 q65.2.m.nodes.length)), q65.2.e, q65.2.p) : ((List GTok) × Int × (Str × Int × (TList Str) × (TList Int) × Vh) × Int × Int)), tokE g65.1, tokE g65.2, vecE g11.2.2.1 (q65.2.m.nodes : List GNode)]) k4 h 3 rfl (fun q65 g65 h => ?_) (fun J66 h hJ66 => ?_))))))))))
  ·refine oA rfl (rnf (zg h rfl (fun _ h => ?_) (fun _ h => ?_)))
   ·refine zh (oM rfl (oM rfl (oM rfl (oV (zu rfl) (oV (zag rfl zgb zdr) (oT (zM (R := appv g11.2.2.2.2 (q11.2.2.fields)) ty85 rfl (.there (.there tI)) isvT1 (oV (zaR (l := q11.2.2.fields) rfl zF sl85) (oV (zu rfl) ?_)))))))))
    exact oV (zag rfl zen zeX) (oT (zm (y' := ((q11.2.2.kind, q11.2.2.name, q11.2.2.mark, q11.2.2.con, (TList.mk g11.2.2.2.1 q11.2.2.items), (TList.mk g11.2.2.2.2 q11.2.2.fields), q11.2.2.root, true, q11.2.2.of) : (Int × Str × GMark × GCon × (TList GItem) × (TList GFld) × Int × Bool × Int))) ty4 rfl rfl hI (.there (.there tI)) rfl (oV (zu rfl) (oV (zag rfl zhd zfz) (oT (zm (y' := ((q11.2.2.kind, q11.2.2.name, q11.2.2.mark, q11.2.2.con, (TList.mk g11.2.2.2.1 q11.2.2.items), (TList.mk g11.2.2.2.2 q11.2.2.fields), (q11.2.2.fields.length : Int), true, q11.2.2.of) : (Int × Str × GMark × GCon × (TList GItem) × (TList GFld) × Int × Bool × Int))) ty3 rfl rfl hI .here rfl (zw (zi (hJ64 _ (g65.1, g65.2, g11.2.2.1, g11.2.2.2.1, g11.2.2.2.2) h _ (ze 19 rfl rfl (za (j := 6) rfl hI zd) (.cons tH (.cons tH (.cons tH (.cons tH k3))))))))))))))
   refine wsr (oM rfl (oV (zu rfl) (oV (zag rfl zen zeX) (oT (zM (R := isv (q11.2.2.more)) ty4 rfl (.there (.there tI)) hI (oM rfl (zau (ι := Bool × GPar) (γ := Tok × Tok) (fun q71 g71 => [(47, isv (q71.1))]) (fun q71 g71 => [boxE zK ((q71.2.l, q71.2.at_, (q71.2.m.name, q71.2.m.tagging, (TList.mk g71.1 q71.2.m.names), (TList.mk g71.2 q71.2.m.types), (Vh.mk g11.2.2.1 q71.2.m.nodes.length)), q71.2.e, q71.2.p) : ((List GTok) × Int × (Str × Int × (TList Str) × (TList Int) × Vh) × Int × Int)), tokE g71.1, tokE g71.2, vecE g11.2.2.1 (q71.2.m.nodes : List GNode)]) k4 h 3 rfl (fun q71 g71 h => ?_) (fun J72 h hJ72 => ?_))))))))
   ·refine oA rfl (rnf (zg h rfl (fun _ h => ?_) (fun _ h => ?_)))
    ·refine wsr (oM rfl (zz h fun q77 h => oV (zaa rfl rfl q77) (oA rfl (rnf (zj (zdB (ι := GPar × GNode) (γ := Tok × Tok × Vt × Tok × Tok) (fun q78 g78 => []) (fun q78 g78 => [boxE zK ((q78.1.l, q78.1.at_, (q78.1.m.name, q78.1.m.tagging, (TList.mk g78.1 q78.1.m.names), (TList.mk g78.2.1 q78.1.m.types), (Vh.mk g78.2.2.1 q78.1.m.nodes.length)), q78.1.e, q78.1.p) : ((List GTok) × Int × (Str × Int × (TList Str) × (TList Int) × Vh) × Int × Int)), tokE g78.1, tokE g78.2.1, vecE g78.2.2.1 (q78.1.m.nodes : List GNode), boxE zaY ((q78.2.kind, q78.2.name, q78.2.mark, q78.2.con, (TList.mk g78.2.2.2.1 q78.2.items), (TList.mk g78.2.2.2.2 q78.2.fields), q78.2.root, q78.2.more, q78.2.of) : (Int × Str × GMark × GCon × (TList GItem) × (TList GFld) × Int × Bool × Int)), tokE g78.2.2.2.1, tokE g78.2.2.2.2]) (.cons .here (.cons (.there tI) (.cons .here k4))) h (fun q78 g78 h => ?_) (fun J79 h hJ79 => ?_)))))))
     ·refine zh (oM rfl (zb h fun y101 hy101 h => oT (zN (zai hy101) hT (s2 rfl rfl) k4 (fun R H' hR => ?_))))
      obtain ⟨t102, t103, rfl, rfl⟩ := hR
      exact zw (zi (hJ64 _ (t102, t103, g78.2.2.1, g78.2.2.2.1, g78.2.2.2.2) h _ (ze 20 rfl rfl (za (j := 6) rfl hI zd) (.cons .here (.cons .here (.cons .here k4))))))
     refine zq (zaN (ι := GPar × GNode) (γ := Tok × Tok × Vt × Tok × Tok) (fun q80 g80 => []) (fun q80 g80 => [boxE zK ((q80.1.l, q80.1.at_, (q80.1.m.name, q80.1.m.tagging, (TList.mk g80.1 q80.1.m.names), (TList.mk g80.2.1 q80.1.m.types), (Vh.mk g80.2.2.1 q80.1.m.nodes.length)), q80.1.e, q80.1.p) : ((List GTok) × Int × (Str × Int × (TList Str) × (TList Int) × Vh) × Int × Int)), tokE g80.1, tokE g80.2.1, vecE g80.2.2.1 (q80.1.m.nodes : List GNode), boxE zaY ((q80.2.kind, q80.2.name, q80.2.mark, q80.2.con, (TList.mk g80.2.2.2.1 q80.2.items), (TList.mk g80.2.2.2.2 q80.2.fields), q80.2.root, q80.2.more, q80.2.of) : (Int × Str × GMark × GCon × (TList GItem) × (TList GFld) × Int × Bool × Int)), tokE g80.2.2.2.1, tokE g80.2.2.2.2]) h (g71.1, g71.2, g11.2.2.1, g11.2.2.2.1, g11.2.2.2.2) zd (.cons .here (.cons .here (.cons .here k4))) (fun L81 q80 g80 Q100 h hL81 eL81 rL81 => zj (wsr (oM rfl (oV (zu rfl) (oV (zag rfl zbm zch) (oT (zM (R := isv (q80.1.e)) ty65 rfl .here hI (oV (zao rfl rfl) ?_)))))))))
     refine rnf (zg h rfl (fun _ h => ?_) (fun _ h => ?_))
     ·refine wkf (zq (wsr (oM rfl (oM rfl (oM rfl (oM rfl (zb h fun y91 hy91 h => oT (zN (zcf hy91) hT (s4 rfl rfl rfl rfl) (.cons .here (.cons .here (.cons .here k4))) (fun R H' hR => ?_)))))))))
      obtain ⟨t92, t93, v94, t95, t96, rfl, rfl⟩ := hR
      refine rnf (wsr (oM rfl (zb h fun y97 hy97 h => oT (zN (zQ hy97) hT (s2 rfl rfl) k4 (fun R H' hR => ?_)))))
      obtain ⟨t98, t99, rfl, rfl⟩ := hR
      refine oV (zbq rfl) (rnf (zg h rfl (fun _ h => ?_) (fun _ h => ?_)))
      ·exact zad (zgM rfl (eL81 _ _ (zE (hJ79 _ (t98, t99, v94, t95, t96) h _ (ze 13 rfl rfl zd (.cons .here (.cons .here (.cons .here k4))))))))
      exact zac (zi (hL81 _ (t98, t99, v94, t95, t96) h _ (ze 13 rfl rfl zd (.cons .here (.cons .here (.cons .here k4))))))
     exact zad (zU (eL81 _ _ (zE (hJ79 _ (g80.1, g80.2.1, g80.2.2.1, g80.2.2.2.1, g80.2.2.2.2) h _ (ze 5 rfl rfl zd (.cons .here (.cons .here (.cons .here k4))))))))
    refine zh (oM rfl (oM rfl (oM rfl (zb h fun y104 hy104 h => oT (zN (zcf hy104) hT (s4 rfl rfl rfl rfl) (.cons .here (.cons .here (.cons .here k4))) (fun R H' hR => ?_))))))
    obtain ⟨t105, t106, v107, t108, t109, rfl, rfl⟩ := hR
    exact zw (zi (hJ64 _ (t105, t106, v107, t108, t109) h _ (ze 19 rfl rfl (za (j := 6) rfl hI zd) (.cons .here (.cons .here (.cons .here k4))))))
   refine zB (j := 44) h rfl (fun g73 h => ?_) (fun g73 h => ?_)
   ·refine oK 44 rfl rfl rfl g73 (zt rfl) (zb h fun y74 hy74 h => zaD rfl rfl (dj := 44) rfl g73 (zN (zQ hy74) hT (s2 rfl rfl) k4 (fun R H' hR => ?_)))
    obtain ⟨t75, t76, rfl, rfl⟩ := hR
    exact oV (zs rfl g73 rfl) (hJ72 _ (t75, t76) h _ (ze 3 rfl rfl (za (j := 47) rfl hI zd) (.cons .here (.cons .here (.cons .here k4)))))
   exact oP 44 rfl rfl g73 (oP 44 rfl rfl g73 (oV (zr rfl g73 rfl) (hJ72 _ (g65.1, g65.2) h _ (ze 3 rfl rfl (za (j := 47) rfl hI zd) (.cons .here (.cons .here (.cons .here k4)))))))
  refine zB (j := 24) h rfl (fun g67 h => ?_) (fun g67 h => ?_)
  ·refine oK 24 rfl rfl rfl g67 (zt rfl) (zb h fun y68 hy68 h => zaD rfl rfl (dj := 24) rfl g67 (zN (zQ hy68) hT (s2 rfl rfl) k4 (fun R H' hR => ?_)))
   obtain ⟨t69, t70, rfl, rfl⟩ := hR
   exact oV (zs rfl g67 rfl) (hJ66 _ (t69, t70) h _ (ze 3 rfl rfl (za (j := 27) rfl hI zd) (.cons .here (.cons .here (.cons .here k4)))))
  exact oP 24 rfl rfl g67 (oP 24 rfl rfl g67 (oV (zr rfl g67 rfl) (hJ66 _ (g11.1, g11.2.1) h _ (ze 3 rfl rfl (za (j := 27) rfl hI zd) (.cons .here (.cons .here (.cons .here k4)))))))
 exact zad (zU (eL12 _ _ (zE (hJ10 _ (g11.1, g11.2.1, g11.2.2.1, g11.2.2.2.1, g11.2.2.2.2) h _ (ze 6 rfl rfl (za (j := 6) rfl (fun _ _ _ => trivial) zd) (.cons .here (.cons .here (.cons .here k4))))))))

theorem zd7 : ∀ n, zcb (zb8 n) ∧ zb7 (zbr n) ∧ zcu (zck n) ∧ zb3 (zbZ n)
 | 0 => ⟨fun h => (by cases h), fun h => (by cases h), fun h => (by cases h), fun h => (by cases h)⟩
 | n + 1 => by
  obtain ⟨h0, h1, h2, h3⟩ := zd7 n
  exact ⟨zhl h0 h1 h2 h3, zhV h0 h1 h2 h3, zht h0 h1 h2 h3, zgW h0 h1 h2 h3⟩
theorem zh6 (n : Nat) : zb7 (zbr n) := (zd7 n).2.1
theorem zln : ∀ {za0 : Str} {r : GMod × Int × Int}, zel za0 = some r → Ctr Tryz.prog 39 [isv (za0)] [] (fun R H => R = oneOf [isv (r.1), isv (r.2.1), isv (r.2.2)] ∧ H = []) := by
 intro za0 r h
 unfold zel at h
 refine zp Tryz.func39 rfl fun w0 S0 hT => wsr (oT (zaf _ ze73 fun b1 => oA rfl (oA rfl (rnf (wsr (oM rfl (zb h fun y2 hy2 h => ?_)))))))
 refine oT (zy (zjX hy2) hT (s1 rfl) .nil (oM rfl (oV (zaB rfl rfl) (oV (zaB rfl rfl) (oV (zaB rfl rfl) (oA rfl (oA rfl (oA rfl (rnf ?_)))))))))
 refine zj (wsr (oM rfl (oV (zbo rfl rfl) (rnf (zg h rfl (fun _ h => ?_) (fun _ h => ?_))))))
 ·refine wsr (oV (zaC (z := (GMod.mk (Str.mk []) (0 : Int) ([] : (List Str)) ([] : (List Int)) ([] : (List GNode)))) rfl bu73 ze73 .nil) (oM rfl (oM rfl (oT (zm (y' := ((GMod.mk (Str.mk []) (0 : Int) ([] : (List Str)) ([] : (List Int)) ([] : (List GNode))) : GMod)) ty73 rfl rfl hI .here rfl (oA rfl (oA rfl (rnf (zJ ?_)))))))))
  refine zA ?_
  cases h
  exact zk (.cell rfl .here ty73 (.tmp rfl (.tmp rfl .nil))) .nil ⟨rfl, rfl⟩
 refine wkf (wsr (oM rfl (oV (zaC (z := ((y2.1, (0 : Int), ((Str.mk []), (0 : Int), (TList.mk none ([] : (List Str))), (TList.mk none ([] : (List Int))), (Vh.mk none 0)), (0 : Int), (0 : Int)) : ((List GTok) × Int × (Str × Int × (TList Str) × (TList Int) × Vh) × Int × Int))) rfl bu129 zoo (.cons zg8 ziJ rfl hI .nil)) (oT (zkf (y := ((y2.1, (0 : Int), ((Str.mk []), (0 : Int), (TList.mk none ([] : (List Str))), (TList.mk none ([] : (List Int))), (Vh.mk none 0)), (0 : Int), (0 : Int)) : ((List GTok) × Int × (Str × Int × (TList Str) × (TList Int) × Vh) × Int × Int))) rfl hI fun b3 => zG (zaI) (zG (zaI) (zG (zdo (α := GNode)) (oA rfl ?_))))))))
 refine rnf (wsr (oM rfl (oM rfl (zb h fun y7 hy7 h => oT (zN (zcw hy7) hT (s2 rfl rfl) (.cons (.there tI) (.cons tI (.cons tH k1))) (fun R H' hR => ?_))))))
 obtain ⟨t8, t9, rfl, rfl⟩ := hR
 refine oV (zu rfl) (oV (zag rfl zbY zda) (oV (zag rfl znd zn4) (oT (zm (y' := ((y7.2.l, y7.2.at_, (y7.1, y7.2.m.tagging, (TList.mk t8 y7.2.m.names), (TList.mk t9 y7.2.m.types), (Vh.mk none y7.2.m.nodes.length)), y7.2.e, y7.2.p) : ((List GTok) × Int × (Str × Int × (TList Str) × (TList Int) × Vh) × Int × Int))) ty9 rfl rfl hI .here rfl (rnf (wsr (oM rfl (zb h fun y10 hy10 h => oT (zN (zai hy10) hT (s2 rfl rfl) k4 (fun R H' hR => ?_))))))))))
 obtain ⟨t11, t12, rfl, rfl⟩ := hR
 refine rnf (zj (zdB (ι := GPar) (γ := Tok × Tok) (fun q13 g13 => []) (fun q13 g13 => [boxE b3 ((q13.l, q13.at_, (q13.m.name, q13.m.tagging, (TList.mk g13.1 q13.m.names), (TList.mk g13.2 q13.m.types), (Vh.mk none q13.m.nodes.length)), q13.e, q13.p) : ((List GTok) × Int × (Str × Int × (TList Str) × (TList Int) × Vh) × Int × Int)), tokE g13.1, tokE g13.2, vecE none (q13.m.nodes : List GNode)]) k4 h (fun q13 g13 h => ?_) (fun J14 h hJ14 => ?_)))
 ·refine wsr (oM rfl (zb h fun y33 hy33 h => oT (zN (zai hy33) hT (s2 rfl rfl) k4 (fun R H' hR => ?_))))
  obtain ⟨t34, t35, rfl, rfl⟩ := hR
  refine rnf (wsr (oM rfl (zb h fun y36 hy36 h => oT (zN (zai hy36) hT (s2 rfl rfl) k4 (fun R H' hR => ?_)))))
  obtain ⟨t37, t38, rfl, rfl⟩ := hR
  refine rnf (zj (zq (zaN (ι := GPar) (γ := Tok × Tok × Vt) (fun q39 g39 => []) (fun q39 g39 => [boxE b3 ((q39.l, q39.at_, (q39.m.name, q39.m.tagging, (TList.mk g39.1 q39.m.names), (TList.mk g39.2.1 q39.m.types), (Vh.mk g39.2.2 q39.m.nodes.length)), q39.e, q39.p) : ((List GTok) × Int × (Str × Int × (TList Str) × (TList Int) × Vh) × Int × Int)), tokE g39.1, tokE g39.2.1, vecE g39.2.2 (q39.m.nodes : List GNode)]) h (t37, t38, none) zd k4 (fun L40 q39 g39 Q141 h hL40 eL40 rL40 => zj (wsr (oM rfl (oV (zu rfl) (oV (zag rfl zbm zch) ?_))))))))
  refine oT (zM (R := isv (q39.e)) ty65 rfl .here hI (oV (zao rfl rfl) (oM rfl (zau (ι := Bool × GPar) (γ := Tok × Tok) (fun q91 g91 => [(70, isv (q91.1))]) (fun q91 g91 => [boxE b3 ((q91.2.l, q91.2.at_, (q91.2.m.name, q91.2.m.tagging, (TList.mk g91.1 q91.2.m.names), (TList.mk g91.2 q91.2.m.types), (Vh.mk g39.2.2 q91.2.m.nodes.length)), q91.2.e, q91.2.p) : ((List GTok) × Int × (Str × Int × (TList Str) × (TList Int) × Vh) × Int × Int)), tokE g91.1, tokE g91.2, vecE g39.2.2 (q91.2.m.nodes : List GNode)]) k4 h 4 rfl (fun q91 g91 h => ?_) (fun J92 h hJ92 => ?_)))))
  ·refine rnf (zg h rfl (fun _ h => ?_) (fun _ h => ?_))
   ·refine wkf (zq (wsr (oM rfl (zb h fun y97 hy97 h => oT (zN (zaK hy97) hT (s1 rfl) k4 (fun R H' hR => ?_))))))
    obtain ⟨t98, t99, rfl, rfl⟩ := hR
    refine oT (zaf _ ze133 fun b100 => oT (zm (y' := (y97.1 : GTok)) ty133 rfl rfl hI .here rfl (zG (zaq 9 .here rfl) (rnf (wsr (oM rfl (zb h fun y101 hy101 h => oT (zN (zcw hy101) hT (s2 rfl rfl) k4 (fun R H' hR => ?_)))))))))
    obtain ⟨t102, t103, rfl, rfl⟩ := hR
    refine oA rfl (rnf (zj (wsr (oM rfl (oV (zu rfl) (oV (zag rfl zbm zch) (oT (zM (R := isv (y101.2.e)) ty65 rfl .here hI (oV (zao rfl rfl) ?_)))))))))
    refine oM rfl (zau (jb 88) je .nil h 8 rfl (fun q104 g104 h => ?_) (fun J105 h hJ105 => ?_))
    ·refine rnf (zdB (ι := GPar) (γ := Tok × Tok) (fun q107 g107 => []) (fun q107 g107 => [boxE b3 ((q107.l, q107.at_, (q107.m.name, q107.m.tagging, (TList.mk g107.1 q107.m.names), (TList.mk g107.2 q107.m.types), (Vh.mk g39.2.2 q107.m.nodes.length)), q107.e, q107.p) : ((List GTok) × Int × (Str × Int × (TList Str) × (TList Int) × Vh) × Int × Int)), tokE g107.1, tokE g107.2, vecE g39.2.2 (q107.m.nodes : List GNode)]) k4 h (fun q107 g107 h => ?_) (fun J108 h hJ108 => ?_))
     ·refine wsr (oM rfl (zb h fun y112 hy112 h => oT (zN (zai hy112) hT (s2 rfl rfl) k4 (fun R H' hR => ?_))))
      obtain ⟨t113, t114, rfl, rfl⟩ := hR
      refine rnf (wsr (oM rfl (zb h fun y115 hy115 h => oT (zN (zh6 fuel hy115) hT (s2 rfl rfl) k4 (fun R H' hR => ?_)))))
      obtain ⟨t116, t117, v118, rfl, rfl⟩ := hR
      refine oA rfl (rnf (wsr (oM rfl (oM rfl (oV (zu rfl) (oV (zag rfl zbY zda) (oV (zag rfl zi0 zd0) (oT (zM (R := appv t116 (y115.2.m.names)) ty22 rfl .here isvT1 ?_)))))))))
      refine oM rfl (oT (zY (l := ([y101.1] : (List Str))) el22 (.cons rfl hI .nil) rfl rfl (zal h fun q121 h => oT (zaZ (l := y115.2.m.names) (m := ([y101.1] : (List Str))) zks rfl hI rfl zF tH q121 fun t120 => oV (zu rfl) (oV (zag rfl zbY zda) (oV (zag rfl zi0 zd0) (oT (zm (y' := ((y115.2.l, y115.2.at_, (y115.2.m.name, y115.2.m.tagging, (TList.mk t120 (y115.2.m.names ++ ([y101.1] : (List Str)))), (TList.mk t117 y115.2.m.types), (Vh.mk v118 y115.2.m.nodes.length)), y115.2.e, y115.2.p) : ((List GTok) × Int × (Str × Int × (TList Str) × (TList Int) × Vh) × Int × Int))) ty22 rfl rfl isvT2 tH rfl (rnf ?_)))))))))
      refine zh (oM rfl (oM rfl (oV (zu rfl) (oV (zag rfl zbY zda) (oV (zag rfl zkM ziR) (oT (zM (R := appv t117 (y115.2.m.types)) ty23 rfl .here isvT1 (oM rfl (oT (zY (l := ([y115.1] : (List Int))) el23 (.cons rfl hI .nil) rfl rfl ?_))))))))))
      exact zal h fun q124 h => oT (zaZ (l := y115.2.m.types) (m := ([y115.1] : (List Int))) zbk rfl hI rfl zF tI q124 fun t123 => oV (zu rfl) (oV (zag rfl zbY zda) (oV (zag rfl zkM ziR) (oT (zm (y' := ((y115.2.l, y115.2.at_, (y115.2.m.name, y115.2.m.tagging, (TList.mk t120 (y115.2.m.names ++ ([y101.1] : (List Str)))), (TList.mk t123 (y115.2.m.types ++ ([y115.1] : (List Int)))), (Vh.mk v118 y115.2.m.nodes.length)), y115.2.e, y115.2.p) : ((List GTok) × Int × (Str × Int × (TList Str) × (TList Int) × Vh) × Int × Int))) ty23 rfl rfl isvT2 tH rfl (zw (zi (hL40 _ (t120, t123, v118) h _ (ze 50 rfl rfl zd (.cons .here (.cons tH k3)))))))))))
     refine zg h rfl (fun _ h => ?_) (fun _ h => ?_)
     ·refine zh (oM rfl (oV (zf ty133 rfl) (zb h fun y109 hy109 h => oT (zN (za9 hy109) hT (s3 rfl rfl rfl) k4 (fun R H' hR => ?_)))))
      obtain ⟨t110, t111, rfl, rfl⟩ := hR
      exact zw (hJ108 _ (t110, t111) h _ (ze 3 rfl rfl zd (.cons .here k4)))
     exact zac (hJ108 _ (t102, t103) h _ (ze 0 rfl rfl zd (.cons .here k4)))
    refine zB (j := 80) h rfl (fun g106 h => ?_) (fun g106 h => ?_)
    ·exact oK 80 rfl rfl rfl g106 (zt rfl) (oK 80 rfl rfl rfl g106 (zu rfl) (oK 80 rfl rfl rfl g106 (zag rfl zbY zda) (oK 80 rfl rfl rfl g106 (zag rfl zi0 zd0) (zaD rfl rfl (dj := 80) rfl g106 (zM (R := appv t102 (y101.2.m.names)) ty22 rfl .here isvT1 (oK 80 rfl rfl rfl g106 (zaR (l := y101.2.m.names) rfl zF sl22) (oK 80 rfl rfl rfl g106 (zeV rfl rfl) (oV (zs rfl g106 rfl) (hJ105 _ () h _ (ze 8 rfl rfl (za (j := 88) rfl hI zd) (.cons .here k4)))))))))))
    exact oP 80 rfl rfl g106 (oP 80 rfl rfl g106 (oP 80 rfl rfl g106 (oP 80 rfl rfl g106 (oP 80 rfl rfl g106 (oP 80 rfl rfl g106 (oP 80 rfl rfl g106 (oV (zr rfl g106 rfl) (hJ105 _ () h _ (ze 8 rfl rfl (za (j := 88) rfl hI zd) (.cons .here k4))))))))))
   refine zad (zU (eL40 _ _ (zE (zx (zj (wsr (oM rfl (oV (zu rfl) ?_))))))))
   refine oV (zag rfl zbm zch) (oT (zM (R := isv (q91.2.e)) ty65 rfl .here hI (oV (zao rfl rfl) (oM rfl (zau (ι := Bool × GPar) (γ := Tok × Tok) (fun q125 g125 => [(130, isv (q125.1))]) (fun q125 g125 => [boxE b3 ((q125.2.l, q125.2.at_, (q125.2.m.name, q125.2.m.tagging, (TList.mk g125.1 q125.2.m.names), (TList.mk g125.2 q125.2.m.types), (Vh.mk g39.2.2 q125.2.m.nodes.length)), q125.2.e, q125.2.p) : ((List GTok) × Int × (Str × Int × (TList Str) × (TList Int) × Vh) × Int × Int)), tokE g125.1, tokE g125.2, vecE g39.2.2 (q125.2.m.nodes : List GNode)]) k4 h 5 rfl (fun q125 g125 h => ?_) (fun J126 h hJ126 => ?_))))))
   ·refine rnf (zdB (ι := GPar) (γ := Tok × Tok) (fun q131 g131 => []) (fun q131 g131 => [boxE b3 ((q131.l, q131.at_, (q131.m.name, q131.m.tagging, (TList.mk g131.1 q131.m.names), (TList.mk g131.2 q131.m.types), (Vh.mk g39.2.2 q131.m.nodes.length)), q131.e, q131.p) : ((List GTok) × Int × (Str × Int × (TList Str) × (TList Int) × Vh) × Int × Int)), tokE g131.1, tokE g131.2, vecE g39.2.2 (q131.m.nodes : List GNode)]) k4 h (fun q131 g131 h => ?_) (fun J132 h hJ132 => ?_))
    ·refine zj (wsr (oM rfl (oV (zu rfl) (oV (zag rfl zbm zch) (oT (zM (R := isv (q131.e)) ty65 rfl .here hI (oV (zbo rfl rfl) (rnf (zg h rfl (fun _ h => ?_) (fun _ h => ?_))))))))))
     ·refine zj (zc7 8 .here rfl (fun o139 hn140 => zS (.v 0 (.v 1 (.v 2 (.v 3 (.v 4 (.v 5 (.v 6 (.v 7 (.v 8 (.t 9 (.v 10 (.v 11 .nil)))))))))))) moOrd (by kernel_rfl) ?_))
      refine zo rfl (zaC (z := (GMod.mk (Str.mk []) (0 : Int) ([] : (List Str)) ([] : (List Int)) ([] : (List GNode)))) rfl bu73 ze73 .nil) (rvm rfl rfl (zo rfl (zbx rfl) (zo rfl (zga rfl zjH zl5) (zo rfl (zdk (R := isv (q131.p)) ty3 rfl (List.Mem.head _) hI) (rvm rfl rfl (zo rfl (zbx rfl) (zo rfl (zga rfl zbm zch) (zo rfl (zdk (R := isv (q131.e)) ty65 rfl (List.Mem.head _) hI) ?_))))))))
      refine zR rfl rfl (zm (y' := ((GMod.mk (Str.mk []) (0 : Int) ([] : (List Str)) ([] : (List Int)) ([] : (List GNode))) : GMod)) ty73 rfl rfl hI (.there tI) rfl (zo rfl (zaP rfl) (zo rfl (zaP rfl) (zab (zaO 8 hn140 rfl (zx (zJ (zA ?_))))))))
      cases h
      exact zk (.cell rfl tH ty73 (.tmp rfl (.tmp rfl .nil))) .nil ⟨rfl, rfl⟩
     refine wkf (wsr (oM rfl (oV (zu rfl) (oV (zag rfl zbY zda) (zG (znE (y := ((q131.l, q131.at_, (q131.m.name, q131.m.tagging, (TList.mk g131.1 q131.m.names), (TList.mk g131.2 q131.m.types), q131.m.nodes), q131.e, q131.p) : ((List GTok) × Int × (Str × Int × (TList Str) × (TList Int) × (List GNode)) × Int × Int))) (.there tI) .here (fun S hv => (Cv.pair Cv.id (Cv.pair Cv.id (Cv.pair (Cv.pair Cv.id (Cv.pair Cv.id (Cv.pair Cv.id (Cv.pair Cv.id (Cv.vh hv (by first | rfl | simp)))))) (Cv.pair Cv.id Cv.id)))))) ?_)))))
     refine zG (zO (R' := ptrv b3 ((Fld.id (((List GTok) × Int × (Str × Int × (TList Str) × (TList Int) × (List GNode)) × Int × Int))).comp zmY)) 151 rfl hI) (oT (zM (y := ((q131.l, q131.at_, (q131.m.name, q131.m.tagging, (TList.mk g131.1 q131.m.names), (TList.mk g131.2 q131.m.types), q131.m.nodes), q131.e, q131.p) : ((List GTok) × Int × (Str × Int × (TList Str) × (TList Int) × (List GNode)) × Int × Int))) (R := isv (((q131.m.name, q131.m.tagging, (TList.mk g131.1 q131.m.names), (TList.mk g131.2 q131.m.types), q131.m.nodes)) : ((Str × Int × (TList Str) × (TList Int) × (List GNode))))) ty73 rfl .here (by exact hI) ?_))
     refine zG (zO (R' := isv (q131.m)) 152 rfl (Cv.isv rfl fun S => (fun cs h => GMod.cv (x := q131.m) cs (((Cv.pair Cv.id (Cv.pair Cv.id (Cv.pair Cv.tl (Cv.pair Cv.tl Cv.id)))) : Cv S ((q131.m.name, q131.m.tagging, (TList.mk g131.1 q131.m.names), (TList.mk g131.2 q131.m.types), q131.m.nodes) : (Str × Int × (TList Str) × (TList Int) × (List GNode))) (GMod.to q131.m)) cs h)))) (oT (zm (y' := (q131.m : GMod)) ty73 rfl rfl hI (.there tI) rfl (oA rfl (oA rfl (rnf (zJ ?_))))))
     cases h
     exact zk (.cell rfl .here ty73 (.tmp rfl (.tmp rfl .nil))) .nil ⟨rfl, rfl⟩
    refine zg h rfl (fun _ h => ?_) (fun _ h => ?_)
    ·refine zh (oM rfl (oM rfl (zb h fun y133 hy133 h => oT (zN (zaK hy133) hT (s1 rfl) k4 (fun R H' hR => ?_)))))
     obtain ⟨t134, t135, rfl, rfl⟩ := hR
     refine zb h fun y136 hy136 h => oT (zN (za9 hy136) hT (s3 rfl rfl rfl) k4 (fun R H' hR => ?_))
     obtain ⟨t137, t138, rfl, rfl⟩ := hR
     exact zw (hJ132 _ (t137, t138) h _ (ze 4 rfl rfl zd (.cons .here k4)))
    exact zac (hJ132 _ (g125.1, g125.2) h _ (ze 0 rfl rfl zd (.cons .here k4)))
   refine zB (j := 125) h rfl (fun g127 h => ?_) (fun g127 h => ?_)
   ·refine oK 125 rfl rfl rfl g127 (zt rfl) (zb h fun y128 hy128 h => zaD rfl rfl (dj := 125) rfl g127 (zN (zaK hy128) hT (s1 rfl) k4 (fun R H' hR => ?_)))
    obtain ⟨t129, t130, rfl, rfl⟩ := hR
    exact oK 125 rfl rfl rfl g127 (zg6 GTok.f0 rfl zb5 rfl) (oK 125 rfl rfl rfl g127 (zbo rfl rfl) (oV (zs rfl g127 rfl) (hJ126 _ (t129, t130) h _ (ze 5 rfl rfl (za (j := 130) rfl hI zd) (.cons .here k4)))))
   exact oP 125 rfl rfl g127 (oP 125 rfl rfl g127 (oP 125 rfl rfl g127 (oP 125 rfl rfl g127 (oV (zr rfl g127 rfl) (hJ126 _ (g91.1, g91.2) h _ (ze 5 rfl rfl (za (j := 130) rfl hI zd) (.cons .here k4)))))))
  refine zB (j := 66) h rfl (fun g93 h => ?_) (fun g93 h => ?_)
  ·refine oK 66 rfl rfl rfl g93 (zt rfl) (zb h fun y94 hy94 h => zaD rfl rfl (dj := 66) rfl g93 (zN (zQ hy94) hT (s2 rfl rfl) k4 (fun R H' hR => ?_)))
   obtain ⟨t95, t96, rfl, rfl⟩ := hR
   exact oK 66 rfl rfl rfl g93 (zbq rfl) (oV (zs rfl g93 rfl) (hJ92 _ (t95, t96) h _ (ze 4 rfl rfl (za (j := 70) rfl hI zd) (.cons .here k4))))
  exact oP 66 rfl rfl g93 (oP 66 rfl rfl g93 (oP 66 rfl rfl g93 (oV (zr rfl g93 rfl) (hJ92 _ (g39.1, g39.2.1) h _ (ze 4 rfl rfl (za (j := 70) rfl hI zd) (.cons .here k4))))))
 refine zq (wsr (oM rfl (zb h fun y15 hy15 h => oT (zN (zQ hy15) hT (s2 rfl rfl) k4 (fun R H' hR => ?_)))))
 obtain ⟨t16, t17, rfl, rfl⟩ := hR
 refine oA rfl (rnf (zg h rfl (fun _ h => ?_) (fun _ h => ?_)))
 ·refine zh (oM rfl (zb h fun y18 hy18 h => oT (zN (zai hy18) hT (s2 rfl rfl) k4 (fun R H' hR => ?_))))
  obtain ⟨t19, t20, rfl, rfl⟩ := hR
  exact zw (zi (hJ14 _ (t19, t20) h _ (ze 5 rfl rfl zd (.cons .here k4))))
 refine wsr (oM rfl (zb h fun y21 hy21 h => oT (zN (zQ hy21) hT (s2 rfl rfl) k4 (fun R H' hR => ?_))))
 obtain ⟨t22, t23, rfl, rfl⟩ := hR
 refine oA rfl (rnf (zg h rfl (fun _ h => ?_) (fun _ h => ?_)))
 ·refine wsr (oM rfl (oV (zu rfl) (oV (zag rfl zbY zda) (oV (zag rfl zkZ zkh) (oT (zm (y' := ((y21.2.l, y21.2.at_, (y21.2.m.name, (1 : Int), (TList.mk t22 y21.2.m.names), (TList.mk t23 y21.2.m.types), (Vh.mk none y21.2.m.nodes.length)), y21.2.e, y21.2.p) : ((List GTok) × Int × (Str × Int × (TList Str) × (TList Int) × Vh) × Int × Int))) ty3 rfl rfl hI .here rfl (rnf (zh (oM rfl ?_)))))))))
  refine zb h fun y24 hy24 h => oT (zN (zai hy24) hT (s2 rfl rfl) k4 (fun R H' hR => ?_))
  obtain ⟨t25, t26, rfl, rfl⟩ := hR
  exact zw (zi (hJ14 _ (t25, t26) h _ (ze 12 rfl rfl zd (.cons .here k4))))
 refine wsr (oM rfl (zb h fun y27 hy27 h => oT (zN (zQ hy27) hT (s2 rfl rfl) k4 (fun R H' hR => ?_))))
 obtain ⟨t28, t29, rfl, rfl⟩ := hR
 refine oA rfl (rnf (zg h rfl (fun _ h => ?_) (fun _ h => ?_)))
 ·refine wsr (oM rfl (oV (zu rfl) (oV (zag rfl zbY zda) (oV (zag rfl zkZ zkh) (oT (zm (y' := ((y27.2.l, y27.2.at_, (y27.2.m.name, (2 : Int), (TList.mk t28 y27.2.m.names), (TList.mk t29 y27.2.m.types), (Vh.mk none y27.2.m.nodes.length)), y27.2.e, y27.2.p) : ((List GTok) × Int × (Str × Int × (TList Str) × (TList Int) × Vh) × Int × Int))) ty3 rfl rfl hI .here rfl (rnf (zh (oM rfl ?_)))))))))
  refine zb h fun y30 hy30 h => oT (zN (zai hy30) hT (s2 rfl rfl) k4 (fun R H' hR => ?_))
  obtain ⟨t31, t32, rfl, rfl⟩ := hR
  exact zw (zi (hJ14 _ (t31, t32) h _ (ze 15 rfl rfl zd (.cons .here k4))))
 exact zac (zi (hJ14 _ (t28, t29) h _ (ze 9 rfl rfl zd (.cons .here k4))))

end Go.Proofs.Q


namespace Go.Proofs.Q
open Go.Sy
set_option maxRecDepth 4000
theorem zgz : ∀ {a_m : GMod} {zjc : Str} {r : Int}, zfS a_m zjc = some r → Ctr Tryz.prog 112 [isv (a_m), isv (zjc)] [] (fun R H => R = oneOf [isv (r)] ∧ H = []) := by
 intro a_m zjc r h
 unfold zfS at h
 refine zp Tryz.func112 rfl fun w0 S0 hT => wsr (oT (zaV (y := a_m) rfl hI (oA rfl (rnf (zj (wsr (oA rfl (rnf ?_))))))))
 refine zq (zaN (ι := Int) (γ := Unit) (fun q1 g1 => [(5, isv (q1))]) (fun q1 g1 => []) h () (za (j := 5) rfl hI zd) .nil (fun L2 q1 g1 Q7 h hL2 eL2 rL2 => zj (wsr (oM rfl (oV (zW rfl GMod.f2 zd0 rfl (z := a_m.names)) (oV (zf ty22 rfl) (oV (zaR (l := a_m.names) rfl hI sl22) (oV (zaj rfl rfl) ?_))))))))
 refine rnf (zg h rfl (fun _ h => ?_) (fun _ h => ?_))
 ·refine wkf (zj (zq (wsr (oV (zW rfl GMod.f2 zd0 rfl (z := a_m.names)) (oV (zf ty22 rfl) (oM rfl (zb h fun y5 hy5 h => oV (zaz (l := a_m.names) rfl hI rfl sl22 hy5) ?_)))))))
  refine oV (zf ty9 rfl) (oM rfl (oV (zcz eq9 rfl rfl) (rnf (zg h rfl (fun _ h => ?_) (fun _ h => ?_)))))
  ·refine wsr (oM rfl (oA rfl (rnf (zJ (zH (zA (rL2 _ (zH ?_))))))))
   refine zA ?_
   cases h
   exact zk (.tmp rfl .nil) .nil ⟨rfl, rfl⟩
  refine zac (zi (zx (zh (oM rfl (zz h fun q6 h => oV (zaa rfl rfl q6) (oA rfl (zw ?_)))))))
  exact hL2 _ () h _ (ji 16 5 rfl rfl rfl)
 refine zad (zU (eL2 _ _ (zE (zx (wsr (oA rfl (rnf (zJ ?_))))))))
 cases h
 exact zk (.tmp rfl .nil) .nil ⟨rfl, rfl⟩


theorem zgy : ∀ {a_l : (List Int)} {a_x : Int} {r : Bool}, zeE a_l a_x = some r → Ctr Tryz.prog 111 [isv (a_l), isv (a_x)] [] (fun R H => R = oneOf [isv (r)] ∧ H = []) := by
 intro a_l a_x r h
 unfold zeE at h
 refine zp Tryz.func111 rfl fun w0 S0 hT => wsr (oA rfl (rnf (zj (wsr (oA rfl (rnf (zq ?_)))))))
 refine zaN (ι := Int) (γ := Unit) (fun q1 g1 => [(5, isv (q1))]) (fun q1 g1 => []) h () (za (j := 5) rfl hI zd) .nil (fun L2 q1 g1 Q7 h hL2 eL2 rL2 => zj (wsr (oM rfl (oM rfl (oV (zaR (l := a_l) rfl hI sl23) (oV (zaj rfl rfl) (rnf (zg h rfl (fun _ h => ?_) (fun _ h => ?_)))))))))
 ·refine wkf (zj (zq (wsr (oM rfl (oM rfl (zb h fun y5 hy5 h => oV (zaz (l := a_l) rfl hI rfl sl23 hy5) (oV (zf ty3 rfl) ?_)))))))
  refine oM rfl (oV (zao rfl rfl) (rnf (zg h rfl (fun _ h => ?_) (fun _ h => ?_))))
  ·refine wsr (oA rfl (rnf (zJ (zH (zA (rL2 _ (zH (zA ?_))))))))
   cases h
   exact zk (.tmp rfl .nil) .nil ⟨rfl, rfl⟩
  refine zac (zi (zx (zh (oM rfl (zz h fun q6 h => oV (zaa rfl rfl q6) (oA rfl (zw ?_)))))))
  exact hL2 _ () h _ (ji 14 5 rfl rfl rfl)
 refine zad (zU (eL2 _ _ (zE (zx (wsr (oA rfl (rnf (zJ ?_))))))))
 cases h
 exact zk (.tmp rfl .nil) .nil ⟨rfl, rfl⟩


def zhy (f' : GMod → Int → Int → (List Int) → Option ((List Int) × Bool)) : Prop :=
 ∀ {a_m : GMod} {zfK : Int} {zZ : Int} {a_l : (List Int)} {t_a_l : Tok} {r : (List Int) × Bool}, f' a_m zfK zZ a_l = some r → Ctr Tryz.prog 109 [isv (a_m), isv (zfK), isv (zZ), appv t_a_l (a_l)] [tokE t_a_l] (fun R H => ∃ u1 : Tok, R = oneOf [appv u1 (r.1), isv (r.2)] ∧ H = [tokE u1])
theorem zkS {zfX : GMod → Int → Int → (List Int) → Option ((List Int) × Bool)} (ziY : zhy zfX) : ∀ {a_m : GMod} {zfK : Int} {zZ : Int} {a_l : (List Int)} {t_a_l : Tok} {r : (List Int) × Bool}, zdR zfX a_m zfK zZ a_l = some r → Ctr Tryz.prog 109 [isv (a_m), isv (zfK), isv (zZ), appv t_a_l (a_l)] [tokE t_a_l] (fun R H => ∃ u1 : Tok, R = oneOf [appv u1 (r.1), isv (r.2)] ∧ H = [tokE u1]) := by
 intro a_m zfK zZ a_l t_a_l r h
 unfold zdR at h
 refine zp Tryz.func109 rfl fun w0 S0 hT => wsr (oT (zaV (y := a_m) rfl hI (oA rfl (oA rfl (rnf (zj (wsr (oM rfl ?_))))))))
 refine oV (zaj rfl rfl) (oM rfl (zau (jb 24) je .nil h 6 rfl (fun q1 g1 h => ?_) (fun J2 h hJ2 => ?_)))
 ·refine oM rfl (zau (jb 28) je .nil h 3 rfl (fun q4 g4 h => ?_) (fun J5 h hJ5 => ?_))
  ·refine rnf (zg h rfl (fun _ h => ?_) (fun _ h => ?_))
   ·refine wsr (oM rfl (oA rfl (oA rfl (rnf (zJ (zA (zk (.tmp rfl (.tmp rfl .nil)) k1 ?_)))))))
    cases h
    exact ⟨t_a_l, rfl, rfl⟩
   refine wkf (wsr (oV (zW rfl GMod.f4 zgr rfl (z := a_m.nodes)) (oV (zf ty71 rfl) (oM rfl (zb h fun y7 hy7 h => oV (zaz (l := a_m.nodes) rfl hI rfl sl71 hy7) (oV (zf ty167 rfl) (oT (zaf _ ze167 fun b8 => ?_))))))))
   refine oT (zm (y' := (y7 : GNode)) ty167 rfl rfl hI .here rfl (zG (zaq 10 .here rfl) (rnf (zj (wsr (oV (zW rfl GNode.f0 zbH rfl (z := y7.kind)) (oV (zf ty3 rfl) (oV (zao rfl rfl) (rnf ?_)))))))))
   refine zg h rfl (fun _ h => ?_) (fun _ h => ?_)
   ·refine wsr (oV (zf ty73 rfl) (oV (zW rfl GNode.f1 zkc rfl (z := y7.name)) (oV (zf ty9 rfl) (zb h fun y9 hy9 h => oT (zy (zgz hy9) hT (s2 rfl rfl) .nil (oA rfl (rnf (zj ?_))))))))
    refine wsr (oM rfl (oV (zaj rfl rfl) (rnf (zg h rfl (fun _ h => ?_) (fun _ h => ?_)))))
    ·refine wsr (oM rfl (oA rfl (oA rfl (rnf (zJ (zA (zA (zk (.tmp rfl (.tmp rfl .nil)) k1 ?_))))))))
     cases h
     exact ⟨t_a_l, rfl, rfl⟩
    refine wkf (zj (wsr (oM rfl (oM rfl (zb h fun y10 hy10 h => oT (zy (zgy hy10) hT (.cons rfl zF (s1 rfl)) .nil (oV (zbq rfl) (rnf ?_))))))))
    refine zdB (ι := (List Int)) (γ := Tok) (fun q11 g11 => [(3, appv g11 (q11))]) (fun q11 g11 => [tokE g11]) k1 h (fun q11 g11 h => ?_) (fun J12 h hJ12 => ?_)
    ·refine wsr (oM rfl (oA rfl (oA rfl (rnf (zJ (zA (zk (.tmp rfl (.tmp rfl .nil)) k1 ?_)))))))
     cases h
     exact ⟨g11, rfl, rfl⟩
    refine zg h rfl (fun _ h => ?_) (fun _ h => ?_)
    ·exact zh (oM rfl (oM rfl (oT (zY (l := ([y9] : (List Int))) el23 (.cons rfl hI .nil) rfl rfl (zal h fun q15 h => oT (zaZ (l := a_l) (m := ([y9] : (List Int))) zbk rfl hI rfl zF .here q15 fun t14 => oA rfl (zw (hJ12 _ (t14) h _ (jk 5 3 rfl rfl rfl)))))))))
    exact zac (hJ12 _ (t_a_l) h _ (jk 0 3 rfl rfl rfl))
   refine wkf (wsr (oA rfl (rnf (zj (wsr (oA rfl (rnf (zq ?_))))))))
   refine zaN (ι := (List Int) × Bool × Int) (γ := Tok) (fun q16 g16 => [(3, appv g16 (q16.1)), (12, isv (q16.2.1)), (13, isv (q16.2.2))]) (fun q16 g16 => [tokE g16]) h (t_a_l) (za (j := 3) rfl hI (za (j := 12) rfl hI (za (j := 13) rfl hI zd))) k1 (fun L17 q16 g16 Q44 h hL17 eL17 rL17 => zj (wsr (oM rfl (oV (zW rfl GNode.f5 zdr rfl (z := y7.fields)) (oV (zf ty85 rfl) (oV (zaR (l := y7.fields) rfl hI sl85) (oV (zaj rfl rfl) (rnf ?_))))))))
   refine zg h rfl (fun _ h => ?_) (fun _ h => ?_)
   ·refine wkf (zj (zq (wsr (oA rfl (rnf (zj (zS (.v 0 (.v 1 (.v 2 (.v 3 (.v 4 (.v 5 (.v 6 (.v 7 (.v 8 (.v 9 (.t 10 (.v 11 (.v 12 (.v 13 (.v 14 (.v 15 .nil)))))))))))))))) moOrd (by kernel_rfl) ?_)))))))
    refine zo rfl (zf ty73 rfl) (zo rfl (zW rfl GNode.f5 zdr rfl (z := y7.fields)) (zo rfl (zf ty85 rfl) (rvm rfl rfl (zb h fun y28 hy28 h => zo rfl (zaz (l := y7.fields) rfl hI rfl sl85 hy28) (zo rfl (zW rfl GFld.f1 zc9 rfl (z := y28.ty)) (zo rfl (zf ty3 rfl) (rvm rfl rfl ?_)))))))
    refine zz h fun q29 h => zo rfl (zaa rfl rfl q29) (rvm rfl rfl (zb h fun y30 hy30 h => zR rfl rfl (zN (ziY hy30) hT (s4 rfl rfl rfl rfl) k1 (fun R H' hR => ?_))))
    obtain ⟨t31, rfl, rfl⟩ := hR
    refine rvm rfl rfl (zo rfl (zaB rfl rfl) (zo rfl (zaB rfl rfl) (zo rfl (zaP rfl) (zo rfl (zaP rfl) (zab (zx (zh (oM rfl ?_))))))))
    refine oM rfl (zau (jb 78) je .nil h 2 rfl (fun q32 g32 h => ?_) (fun J33 h hJ33 => ?_))
    ·refine oA rfl (zw (zi (zx (zh (oM rfl (zz h fun q35 h => oV (zaa rfl rfl q35) (oA rfl ?_)))))))
     exact zw (hL17 _ (t31) h _ (ze 32 rfl rfl (za (j := 3) rfl hI (za (j := 12) rfl hI (za (j := 13) rfl hI zd))) k1))
    refine zB (j := 76) h rfl (fun g34 h => ?_) (fun g34 h => ?_)
    ·exact oP 76 rfl rfl g34 (oV (zs rfl g34 rfl) (hJ33 _ () h _ (jk 2 78 rfl rfl rfl)))
    exact oK 76 rfl rfl rfl g34 (zt rfl) (oV (zr rfl g34 rfl) (hJ33 _ () h _ (jk 2 78 rfl rfl rfl)))
   refine zad (zU (eL17 _ _ (zE (zx (zj (wsr (oV (zW rfl GNode.f0 zbH rfl (z := y7.kind)) (oV (zf ty3 rfl) ?_))))))))
   refine oV (zao rfl rfl) (rnf (zdB (ι := (List Int) × Bool) (γ := Tok) (fun q36 g36 => [(3, appv g36 (q36.1)), (12, isv (q36.2))]) (fun q36 g36 => [tokE g36]) k1 h (fun q36 g36 h => ?_) (fun J37 h hJ37 => ?_)))
   ·refine wsr (oM rfl (oM rfl (oA rfl (oA rfl (rnf (zJ (zk (.tmp rfl (.tmp rfl .nil)) k1 ?_)))))))
    cases h
    exact ⟨g36, rfl, rfl⟩
   refine zg h rfl (fun _ h => ?_) (fun _ h => ?_)
   ·refine wsr (oA rfl (rnf (wsr (oV (zf ty73 rfl) (oV (zW rfl GNode.f8 zj8 rfl (z := y7.of)) (oV (zf ty3 rfl) (oM rfl (zz h fun q38 h => ?_))))))))
    refine oV (zaa rfl rfl q38) (oM rfl (zb h fun y39 hy39 h => oT (zN (ziY hy39) hT (s4 rfl rfl rfl rfl) k1 (fun R H' hR => ?_))))
    obtain ⟨t40, rfl, rfl⟩ := hR
    refine oM rfl (oV (zaB rfl rfl) (oV (zaB rfl rfl) (oA rfl (oA rfl (rnf (zh (oM rfl (oM rfl ?_))))))))
    refine zau (jb 95) je .nil h 2 rfl (fun q41 g41 h => ?_) (fun J42 h hJ42 => ?_)
    ·exact oA rfl (zw (hJ37 _ (t40) h _ (ze 17 rfl rfl (za (j := 3) rfl hI (za (j := 12) rfl hI zd)) k1)))
    refine zB (j := 93) h rfl (fun g43 h => ?_) (fun g43 h => ?_)
    ·exact oP 93 rfl rfl g43 (oV (zs rfl g43 rfl) (hJ42 _ () h _ (jk 2 95 rfl rfl rfl)))
    exact oK 93 rfl rfl rfl g43 (zt rfl) (oV (zr rfl g43 rfl) (hJ42 _ () h _ (jk 2 95 rfl rfl rfl)))
   exact zac (hJ37 _ (g16) h _ (ze 0 rfl rfl (za (j := 3) rfl hI (za (j := 12) rfl hI zd)) k1))
  refine zB (j := 25) h rfl (fun g6 h => ?_) (fun g6 h => ?_)
  ·exact oP 25 rfl rfl g6 (oP 25 rfl rfl g6 (oV (zs rfl g6 rfl) (hJ5 _ () h _ (jk 3 28 rfl rfl rfl))))
  exact oK 25 rfl rfl rfl g6 (zt rfl) (oK 25 rfl rfl rfl g6 (zbu rfl rfl) (oV (zr rfl g6 rfl) (hJ5 _ () h _ (jk 3 28 rfl rfl rfl))))
 refine zB (j := 18) h rfl (fun g3 h => ?_) (fun g3 h => ?_)
 ·exact oP 18 rfl rfl g3 (oP 18 rfl rfl g3 (oP 18 rfl rfl g3 (oP 18 rfl rfl g3 (oP 18 rfl rfl g3 (oV (zs rfl g3 rfl) (hJ2 _ () h _ (jk 6 24 rfl rfl rfl)))))))
 exact oK 18 rfl rfl rfl g3 (zt rfl) (oK 18 rfl rfl rfl g3 (zW rfl GMod.f4 zgr rfl (z := a_m.nodes)) (oK 18 rfl rfl rfl g3 (zf ty71 rfl) (oK 18 rfl rfl rfl g3 (zaR (l := a_m.nodes) rfl hI sl71) (oK 18 rfl rfl rfl g3 (zeV rfl rfl) (oV (zr rfl g3 rfl) (hJ2 _ () h _ (jk 6 24 rfl rfl rfl)))))))

theorem zg1 : ∀ n, zhy (zfd n)
 | 0 => fun h => (by cases h)
 | n + 1 => zkS (zg1 n)
theorem zlM (n : Nat) : zhy (zfd n) := (zg1 n)

theorem zkQ : ∀ {zfC : (List (List Int))} {zeb : Int} {a_to : Int} {r : Bool}, zge zfC zeb a_to = some r → Ctr Tryz.prog 110 [isv (zfC), isv (zeb), isv (a_to)] [] (fun R H => R = oneOf [isv (r)] ∧ H = []) := by
 intro zfC zeb a_to r h
 unfold zge at h
 refine zp Tryz.func110 rfl fun w0 S0 hT => wsr (oA rfl (rnf (wsr (oT (zY (l := ([] : (List Int))) el23 .nil rfl rfl (oA rfl (rnf (wsr ?_))))))))
 refine oM rfl (oM rfl (zb h fun y2 hy2 h => oV (zaz (l := zfC) rfl hI rfl sl36 hy2) (oV (zf ty23 rfl) (zal h fun q4 h => oT (zgQ (m := y2) zbk rfl rfl hI q4 fun t3 => oA rfl (rnf ?_))))))
 refine zj (zq (zfH (zaI) (zaN (ι := (List Int) × (List Int)) (γ := Tok × Tok) (fun q5 g5 => [(7, appv g5.1 (q5.1)), (8, appv g5.2 (q5.2))]) (fun q5 g5 => [tokE g5.1, tokE g5.2]) h (none, t3) (za (j := 7) rfl hI (za (j := 8) rfl hI zd)) k2 (fun L6 q5 g5 Q27 h hL6 eL6 rL6 => zj (wsr (oM rfl (oV (zaR (l := q5.2) rfl zF sl23) (oV (zbu rfl rfl) ?_))))))))
 refine rnf (zg h rfl (fun _ h => ?_) (fun _ h => ?_))
 ·refine wkf (zq (wsr (oM rfl (zb h fun y17 hy17 h => oV (zaz (l := q5.2) rfl zF rfl sl23 hy17) (oV (zf ty3 rfl) (oA rfl (rnf ?_)))))))
  refine wsr (oM rfl (zI h fun q18 h => oT (zpo rfl sl23 rfl q18.1 q18.2 tH fun t19 => oA rfl (rnf (zj (wsr (oM rfl ?_)))))))
  refine oM rfl (oV (zao rfl rfl) (rnf (zg h rfl (fun _ h => ?_) (fun _ h => ?_))))
  ·refine wsr (oA rfl (rnf (zJ (zA (zH (rL6 _ (zH (zA ?_))))))))
   cases h
   exact zk (.tmp rfl .nil) .nil ⟨rfl, rfl⟩
  refine wkf (wsr (oM rfl (oM rfl (zb h fun y20 hy20 h => oT (zy (zgy hy20) hT (.cons rfl zF (s1 rfl)) .nil (oV (zbq rfl) (rnf (zg h rfl (fun _ h => ?_) (fun _ h => ?_)))))))))
  ·refine wsr (oM rfl (oM rfl (oT (zY (l := ([y17] : (List Int))) el23 (.cons rfl hI .nil) rfl rfl (zal h fun q23 h => oT (zaZ (l := q5.1) (m := ([y17] : (List Int))) zbk rfl hI rfl zF tH q23 fun t22 => oA rfl (rnf (zh ?_))))))))
   refine oM rfl (oM rfl (oM rfl (zb h fun y24 hy24 h => oV (zaz (l := zfC) rfl hI rfl sl36 hy24) (oV (zf ty23 rfl) (zal h fun q26 h => oT (zaZ (l := (q5.2.drop ((1 : Int)).toNat)) (m := y24) zbk rfl hI rfl hI tH q26 fun t25 => oA rfl ?_))))))
   exact zw (zi (hL6 _ (t22, t25) h _ (ze 31 rfl rfl (za (j := 7) rfl hI (za (j := 8) rfl hI zd)) (.cons tH k1))))
  exact zac (zi (hL6 _ (g5.1, t19) h _ (ze 19 rfl rfl (za (j := 7) rfl hI (za (j := 8) rfl hI zd)) (.cons tH k1))))
 refine zad (zU (eL6 _ _ (zE (zx (wsr (oA rfl (rnf (zJ ?_))))))))
 cases h
 exact zk (.tmp rfl .nil) .nil ⟨rfl, rfl⟩


theorem zkE : ∀ {a_m : GMod} {r : (List Int) × Int × Int}, zfW a_m = some r → Ctr Tryz.prog 76 [isv (a_m)] [] (fun R H => R = oneOf [isv (r.1), isv (r.2.1), isv (r.2.2)] ∧ H = []) := by
 intro a_m r h
 unfold zfW at h
 refine zp Tryz.func76 rfl fun w0 S0 hT => wsr (oT (zaV (y := a_m) rfl hI (oA rfl (oA rfl (oA rfl (rnf (wsr (oA rfl ?_))))))))
 refine rnf (wsr (oA rfl (rnf (zj (wsr (oA rfl (rnf (zq ?_))))))))
 refine zaN (ι := Int) (γ := Unit) (fun q1 g1 => [(7, isv (q1))]) (fun q1 g1 => []) h () (za (j := 7) rfl hI zd) .nil (fun L2 q1 g1 Q1603 h hL2 eL2 rL2 => zj (wsr (oM rfl (oV (zW rfl GMod.f2 zd0 rfl (z := a_m.names)) (oV (zf ty22 rfl) (oV (zaR (l := a_m.names) rfl hI sl22) (oV (zaj rfl rfl) (rnf ?_))))))))
 refine zg h rfl (fun _ h => ?_) (fun _ h => ?_)
 ·refine wkf (zj (zq (zj (zS (.v 0 (.v 1 (.v 2 (.v 3 (.v 4 (.v 5 (.v 6 (.v 7 (.v 8 (.t 9 .nil)))))))))) moOrd (by kernel_rfl) ?_))))
  refine zo rfl (zW rfl GMod.f2 zd0 rfl (z := a_m.names)) (zo rfl (zf ty22 rfl) (rvm rfl rfl (zI h fun q803 h => zo rfl (zfl (l := a_m.names) rfl hI sl22 (.inl ⟨rfl, rfl⟩) (.inr ⟨_, rfl, rfl⟩) q803.1 q803.2.1 q803.2.2) (zo rfl (zW rfl GMod.f2 zd0 rfl (z := a_m.names)) (zo rfl (zf ty22 rfl) (rvm rfl rfl (zb h fun y804 hy804 h => ?_)))))))
  refine zo rfl (zaz (l := a_m.names) rfl hI rfl sl22 hy804) (zo rfl (zf ty9 rfl) (zb h fun y805 hy805 h => zR rfl rfl (zy (zhm hy805) hT (s2 rfl rfl) .nil (zab (zx (zg h rfl (fun _ h => ?_) (fun _ h => ?_)))))))
  ·refine wsr (oM rfl (oA rfl (oA rfl (oA rfl (rnf (zJ (zH (zA ?_))))))))
   refine rL2 _ (zH (zA ?_))
   cases h
   exact zk (.as rfl (zcv (α := Int)) (.tmp rfl (.tmp rfl .nil))) .nil ⟨rfl, rfl⟩
  refine zac (zi (zx (zh (oM rfl (zz h fun q806 h => oV (zaa rfl rfl q806) (oA rfl (zw ?_)))))))
  exact hL2 _ () h _ (ji 19 7 rfl rfl rfl)
 refine zad (zU (eL2 _ _ (zE (zx (zj (wsr (oA rfl (rnf ?_))))))))
 refine zq (zfH (zaI) (zaN (ι := (List (List Int)) × Int × Int) (γ := Tok) (fun q807 g807 => [(5, appv g807 (q807.1)), (6, isv (q807.2.1)), (8, isv (q807.2.2))]) (fun q807 g807 => [tokE g807]) h (none) (za (j := 5) rfl zbn (za (j := 6) rfl hI (za (j := 8) rfl hI zd))) k1 (fun L808 q807 g807 Q1602 h hL808 eL808 rL808 => zj (wsr (oM rfl (oV (zW rfl GMod.f2 zd0 rfl (z := a_m.names)) (oV (zf ty22 rfl) (oV (zaR (l := a_m.names) rfl hI sl22) ?_))))))))
 refine oV (zaj rfl rfl) (rnf (zg h rfl (fun _ h => ?_) (fun _ h => ?_)))
 ·refine wkf (zj (zdB (ι := (List (List Int)) × Int) (γ := Tok) (fun q1337 g1337 => [(5, appv g1337 (q1337.1)), (6, isv (q1337.2))]) (fun q1337 g1337 => [tokE g1337]) k1 h (fun q1337 g1337 h => ?_) (fun J1338 h hJ1338 => ?_)))
  ·exact zh (oM rfl (zz h fun q1349 h => oV (zaa rfl rfl q1349) (oA rfl (zw (hL808 _ (g1337) h _ (ze 13 rfl rfl (za (j := 5) rfl hI (za (j := 6) rfl hI (za (j := 8) rfl hI zd))) k1))))))
  refine zq (zj (zS (.v 0 (.v 1 (.v 2 (.v 3 (.v 4 (.v 5 (.t 6 (.v 7 (.v 8 (.v 9 (.v 10 (.v 11 .nil)))))))))))) moOrd (by kernel_rfl) ?_))
  refine zo rfl (zf ty73 rfl) (zo rfl (zW rfl GMod.f3 ziR rfl (z := a_m.types)) (zo rfl (zf ty23 rfl) (rvm rfl rfl (zb h fun y1339 hy1339 h => zo rfl (zaz (l := a_m.types) rfl hI rfl sl23 hy1339) (zo rfl (zf ty3 rfl) (zbg (zaI) (zb h fun y1341 hy1341 h => ?_)))))))
  refine zR rfl rfl (zN (zlM fuel hy1341) hT (.same rfl (.same rfl (.same rfl (.cons rfl zbn .nil)))) k1 (fun R H' hR => ?_))
  obtain ⟨t1342, rfl, rfl⟩ := hR
  refine rvm rfl rfl (zo rfl (zaB rfl rfl) (zo rfl (zaB rfl rfl) (zo rfl (zaP rfl) (zo rfl (zaP rfl) (zab (zx (wsr (oM rfl ?_))))))))
  refine oM rfl (oT (zY (l := ([y1341.1] : (List (List Int)))) el36 (.cons rfl zF .nil) rfl rfl (zal h fun q1345 h => oT (zaZ (l := q807.1) (m := ([y1341.1] : (List (List Int)))) zka rfl hI rfl zF tH q1345 fun t1344 => oA rfl (rnf (wsr (oM rfl (oM rfl ?_))))))))
  refine zau (jb 59) je .nil h 3 rfl (fun q1346 g1346 h => ?_) (fun J1347 h hJ1347 => ?_)
  ·refine rnf (zg h rfl (fun _ h => ?_) (fun _ h => ?_))
   ·exact zh (oM rfl (oA rfl (zw (zi (hJ1338 _ (t1344) h _ (ze 22 rfl rfl (za (j := 5) rfl hI (za (j := 6) rfl hI zd)) k1))))))
   exact zac (zi (hJ1338 _ (t1344) h _ (ze 20 rfl rfl (za (j := 5) rfl hI (za (j := 6) rfl hI zd)) k1)))
  refine zB (j := 56) h rfl (fun g1348 h => ?_) (fun g1348 h => ?_)
  ·exact oK 56 rfl rfl rfl g1348 (zt rfl) (oK 56 rfl rfl rfl g1348 (zaj rfl rfl) (oV (zs rfl g1348 rfl) (hJ1347 _ () h _ (ze 3 rfl rfl (za (j := 59) rfl hI zd) k2))))
  exact oP 56 rfl rfl g1348 (oP 56 rfl rfl g1348 (oV (zr rfl g1348 rfl) (hJ1347 _ () h _ (ze 3 rfl rfl (za (j := 59) rfl hI zd) k2))))
 refine zad (zU (eL808 _ _ (zE (zx (zj (wsr (oM rfl (oV (zeV rfl rfl) ?_))))))))
 refine rnf (zg h rfl (fun _ h => ?_) (fun _ h => ?_))
 ·refine wsr (oM rfl (oA rfl (oA rfl (oA rfl (rnf (zJ (zA ?_)))))))
  cases h
  exact zk (.as rfl (zcv (α := Int)) (.tmp rfl (.tmp rfl .nil))) .nil ⟨rfl, rfl⟩
 refine wkf (zj (wsr (oA rfl (rnf (zq (zaN (ι := Int) (γ := Unit) (fun q1350 g1350 => [(11, isv (q1350))]) (fun q1350 g1350 => []) h () (za (j := 11) rfl hI zd) .nil (fun L1351 q1350 g1350 Q1600 h hL1351 eL1351 rL1351 => zj (wsr ?_))))))))
 refine oM rfl (oV (zW rfl GMod.f2 zd0 rfl (z := a_m.names)) (oV (zf ty22 rfl) (oV (zaR (l := a_m.names) rfl hI sl22) (oV (zaj rfl rfl) (rnf (zg h rfl (fun _ h => ?_) (fun _ h => ?_)))))))
 ·refine wkf (zj (zq (wsr (oM rfl (oM rfl (oM rfl (zb h fun y1476 hy1476 h => oT (zy (zkQ hy1476) hT (.cons rfl zF (s2 rfl rfl)) .nil ?_))))))))
  refine rnf (zg h rfl (fun _ h => ?_) (fun _ h => ?_))
  ·refine wsr (oM rfl (oA rfl (oA rfl (oA rfl (rnf (zJ (zH (zA ?_))))))))
   refine rL1351 _ (zH (zA ?_))
   cases h
   exact zk (.as rfl (zcv (α := Int)) (.tmp rfl (.tmp rfl .nil))) .nil ⟨rfl, rfl⟩
  refine zac (zi (zx (zh (oM rfl (zz h fun q1477 h => oV (zaa rfl rfl q1477) (oA rfl (zw ?_)))))))
  exact hL1351 _ () h _ (jk 13 11 rfl rfl rfl)
 refine zad (zU (eL1351 _ _ (zE (zx (wsr (oA rfl (rnf (zj ?_))))))))
 refine zq (zfH (zaI) (zaN (ι := (List Int)) (γ := Tok) (fun q1478 g1478 => [(12, appv g1478 (q1478))]) (fun q1478 g1478 => [tokE g1478]) h (none) (za (j := 12) rfl zbn zd) k1 (fun L1479 q1478 g1478 Q1599 h hL1479 eL1479 rL1479 => zj (wsr (oM rfl (oV (zaR (l := q1478) rfl zF sl23) (oV (zW rfl GMod.f2 zd0 rfl (z := a_m.names)) (oV (zf ty22 rfl) ?_))))))))
 refine oV (zaR (l := a_m.names) rfl hI sl22) (oV (zaj rfl rfl) (rnf (zg h rfl (fun _ h => ?_) (fun _ h => ?_))))
 ·refine wkf (zq (wsr (oA rfl (rnf (zq (zaN (ι := Int) (γ := Unit) (fun q1539 g1539 => [(13, isv (q1539))]) (fun q1539 g1539 => []) h () (za (j := 13) rfl hI zd) .nil (fun L1540 q1539 g1539 Q1597 h hL1540 eL1540 rL1540 => zj (wsr ?_))))))))
  refine oM rfl (oV (zW rfl GMod.f2 zd0 rfl (z := a_m.names)) (oV (zf ty22 rfl) (oV (zaR (l := a_m.names) rfl hI sl22) (oV (zaj rfl rfl) (rnf (zg h rfl (fun _ h => ?_) (fun _ h => ?_)))))))
  ·refine wkf (zj (zq (wsr (oM rfl (oM rfl (zb h fun y1569 hy1569 h => oT (zy (zgy hy1569) hT (.cons rfl zF (s1 rfl)) .nil (oV (zbq rfl) ?_))))))))
   refine oA rfl (rnf (zj (wsr (oA rfl (rnf (zq (zaN (ι := Bool × Int) (γ := Unit) (fun q1570 g1570 => [(14, isv (q1570.1)), (15, isv (q1570.2))]) (fun q1570 g1570 => []) h () (za (j := 14) rfl hI (za (j := 15) rfl hI zd)) .nil (fun L1571 q1570 g1570 Q1596 h hL1571 eL1571 rL1571 => zj ?_))))))))
   refine wsr (oM rfl (oM rfl (oM rfl (zb h fun y1584 hy1584 h => oV (zaz (l := q807.1) rfl zF rfl sl36 hy1584) (oV (zf ty23 rfl) (oV (zaR (l := y1584) rfl hI sl23) (oV (zaj rfl rfl) ?_)))))))
   refine rnf (zg h rfl (fun _ h => ?_) (fun _ h => ?_))
   ·refine wkf (zj (zq (zh (oM rfl (oM rfl (zau (jb 113) je .nil h 10 rfl (fun q1585 g1585 h => ?_) (fun J1586 h hJ1586 => ?_)))))))
    ·refine oA rfl (zw (zi (zx (zh (oM rfl (zz h fun q1591 h => oV (zaa rfl rfl q1591) (oA rfl ?_)))))))
     exact zw (hL1571 _ () h _ (ze 16 rfl rfl (za (j := 14) rfl hI (za (j := 15) rfl hI zd)) k2))
    refine zB (j := 103) h rfl (fun g1587 h => ?_) (fun g1587 h => ?_)
    ·refine oK 103 rfl rfl rfl g1587 (zt rfl) (oK 103 rfl rfl rfl g1587 (zt rfl) (oK 103 rfl rfl rfl g1587 (zt rfl) (zb h fun y1588 hy1588 h => oK 103 rfl rfl rfl g1587 (zaz (l := q807.1) rfl zF rfl sl36 hy1588) (oK 103 rfl rfl rfl g1587 (zf ty23 rfl) (oK 103 rfl rfl rfl g1587 (zt rfl) (zb h fun y1589 hy1589 h => oK 103 rfl rfl rfl g1587 (zaz (l := y1588) rfl hI rfl sl23 hy1589) ?_))))))
     exact oK 103 rfl rfl rfl g1587 (zf ty3 rfl) (zb h fun y1590 hy1590 h => zaD rfl rfl (dj := 103) rfl g1587 (zy (zgy hy1590) hT (.cons rfl zF (s1 rfl)) .nil (oV (zs rfl g1587 rfl) (hJ1586 _ () h _ (ze 10 rfl rfl (za (j := 113) rfl hI zd) k2)))))
    refine oP 103 rfl rfl g1587 (oP 103 rfl rfl g1587 (oP 103 rfl rfl g1587 (oP 103 rfl rfl g1587 (oP 103 rfl rfl g1587 (oP 103 rfl rfl g1587 (oP 103 rfl rfl g1587 (oP 103 rfl rfl g1587 (oP 103 rfl rfl g1587 ?_))))))))
    exact oV (zr rfl g1587 rfl) (hJ1586 _ () h _ (ze 10 rfl rfl (za (j := 113) rfl hI zd) k2))
   refine zad (zU (eL1571 _ _ (zE (zx (wsr (oM rfl (rnf (zg h rfl (fun _ h => ?_) (fun _ h => ?_)))))))))
   ·refine wsr (oM rfl (oM rfl (oT (zY (l := ([q1539] : (List Int))) el23 (.cons rfl hI .nil) rfl rfl (zal h fun q1594 h => oT (zaZ (l := q1478) (m := ([q1539] : (List Int))) zbk rfl hI rfl zF .here q1594 fun t1593 => oA rfl (rnf (zad ?_))))))))
    exact zgM rfl (zU (eL1540 _ _ (zE (zi (hL1479 _ (t1593) h _ (ze 35 rfl rfl (za (j := 12) rfl hI zd) k2))))))
   refine zac (zi (zx (zh (oM rfl (zz h fun q1595 h => oV (zaa rfl rfl q1595) (oA rfl (zw ?_)))))))
   exact hL1540 _ () h _ (ze 25 rfl rfl (za (j := 13) rfl hI zd) k2)
  exact zad (zU (eL1540 _ _ (zE (zi (hL1479 _ (g1478) h _ (ze 14 rfl rfl (za (j := 12) rfl hI zd) k2))))))
 refine zad (zU (eL1479 _ _ (zE (zx (wsr (oM rfl (oA rfl (oA rfl ?_))))))))
 refine oA rfl (rnf (zJ ?_))
 cases h
 exact zk (.as rfl zF (.tmp rfl (.tmp rfl .nil))) .nil ⟨rfl, rfl⟩

end Go.Proofs.Q

