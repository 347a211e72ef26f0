/- utf8.ValidString by the kit's shelf, at this program's numbers. -/
import Derived.Test.YtdcdndflfhaejaaDoorGiven
import Derived.Test.YtdcdndflfhaejaaDoorProg
import Derived.Shelf.Unicode.ValidAny
import Derived.KernelRfl
namespace Go.Proofs.YtdcdndflfhaejaaDoor
open Go.Sy
def valRen : Shelf.Ren := ⟨fun x => bif Nat.beq x 196 then 69 else bif Nat.beq x 259 then 72 else x, fun x => bif Nat.beq x 0 then 0 else bif Nat.beq x 3 then 3 else bif Nat.beq x 4 then 4 else bif Nat.beq x 5 then 5 else bif Nat.beq x 9 then 9 else bif Nat.beq x 12 then 12 else bif Nat.beq x 46 then 39 else bif Nat.beq x 53 then 41 else bif Nat.beq x 119 then 115 else bif Nat.beq x 138 then 117 else bif Nat.beq x 139 then 118 else x, fun x => bif Nat.beq x 3 then 0 else bif Nat.beq x 4 then 1 else x⟩
set_option maxRecDepth 100000 in
theorem valLays : Lays.n196 Tryd.prog valRen := {
  mixed := by kernel_rfl
  f196 := Tryd.func69.trans (by kernel_rfl)
  f259 := Tryd.func72.trans (by kernel_rfl)
  t0 := Tryd.underlying0
  a0 := Tryd.isAgg0
  z0 := Tryd.sizeOf0
  v0 := Tryd.zeroValue0
  t3 := Tryd.underlying3
  a3 := Tryd.isAgg3
  z3 := Tryd.sizeOf3
  v3 := Tryd.zeroValue3
  t4 := Tryd.underlying4
  a4 := Tryd.isAgg4
  z4 := Tryd.sizeOf4
  v4 := Tryd.zeroValue4
  t5 := Tryd.underlying5
  a5 := Tryd.isAgg5
  z5 := Tryd.sizeOf5
  v5 := Tryd.zeroValue5
  t9 := Tryd.underlying9
  a9 := Tryd.isAgg9
  z9 := Tryd.sizeOf9
  v9 := Tryd.zeroValue9
  t12 := Tryd.underlying12
  a12 := Tryd.isAgg12
  z12 := Tryd.sizeOf12
  v12 := Tryd.zeroValue12
  t46 := Tryd.underlying39
  a46 := Tryd.isAgg39
  z46 := Tryd.sizeOf39
  v46 := Tryd.zeroValue39
  t53 := Tryd.underlying41
  a53 := Tryd.isAgg41
  z53 := Tryd.sizeOf41
  v53 := Tryd.zeroValue41
  t119 := Tryd.underlying115
  a119 := Tryd.isAgg115
  z119 := Tryd.sizeOf115
  t138 := Tryd.underlying117
  a138 := Tryd.isAgg117
  z138 := Tryd.sizeOf117
  v138 := Tryd.zeroValue117
  t139 := Tryd.underlying118
  a139 := Tryd.isAgg118
  z139 := Tryd.sizeOf118
  v139 := Tryd.zeroValue118
  g3 := by kernel_rfl
  g4 := by kernel_rfl }
theorem utf8_ValidString_w : ∀ {a_s : Str} {r : Bool}, utf8_ValidString a_s = some r → Ctr Tryd.prog 69 [isv (a_s)] [] (fun R H => R = oneOf [isv (r)] ∧ H = []) := by
  intro s r h
  obtain rfl := Option.some.inj h
  refine ⟨⟨_, Tryd.func69, rfl, by decide +kernel⟩, fun S w vs hT hs hv ho => ?_⟩
  match vs, hv with
  | [v], ⟨hv, _⟩ =>
    obtain ⟨rfl, hl⟩ := isv_str.1 hv
    have hb := Any.utf8_ValidString valLays s.ba w (by rw [Str.ba_size]; unfold maxText at hl; omega) (hT w hs _ _ valLays.g3 valLays.g4)
    refine hb.mono fun e w' ⟨he, hk⟩ => ⟨.bool (Lib.validD s.ba.data.toList), S, _, [], ⟨rfl, rfl⟩, he, ?_, ⟨⟨hk.os, hk.tape, hk.output, hk.size, fun k hk' _ => hk.block k hk'⟩, Grow.refl _ _ _, fun b cs hb => ?_⟩, owns_nil _ _ _ _⟩
    · refine isv_bool.2 ?_
      show Value.bool (Lib.validD s.b.toArray.toList) = _
      rfl
    · obtain ⟨c, T, fr, h1, h2⟩ := hs b cs hb
      exact ⟨c, T, fr, by rw [hk.block b (Array.getElem?_eq_some_iff.1 h1).1]; exact h1, h2⟩
end Go.Proofs.YtdcdndflfhaejaaDoor
